/- The engine and the contracts on which the statement stands: no conditions of its own. -/
import Derived.Test.YtfkpdmnabhejpaaGreatDoorMine4
import Derived.KernelRfl
import Derived.Lib.LaidTab
import Derived.ProofKit
import Derived.OpenShut
set_option linter.unusedSimpArgs false
set_option linter.unusedVariables false
set_option linter.unusedSectionVars false
namespace Go.Eng
open Go.RowKit
variable {key : Nat → Option FuncId} {P : Program} {T : Tab}
theorem zgT {fn : Func} (h : fn.results = #[.tmp 2]) (tmps : Array Value) (w : World) : (results fn tmps).run P w = .ok (tmps.getD 2 undef) w := by
 unfold results
 rw [h, Array.mapM_eq_mapM_toList]
 rfl
theorem zou {l : Loc} {xs : List UInt8} {v : Value} (h : Rel key l (.s xs) v) : v = .string ⟨xs.toArray⟩ := by
 generalize hx : AV.s xs = x at h
 cases h <;> cases hx
 rfl
theorem znu (v : Nat) : dec v ≠ [] := by
 unfold dec
 split
 ·simp
 ·rename_i h
  intro q
  have h1 := congrArg List.length q
  rw [zbO] at h1
  have := zbz v
  simp at h1
  rw [h1] at this
  simp at this; omega
theorem zhm {args : List AV} {h : Hp} {l : List UInt8} (e : txtA args h = some l) : ∃ neg w, args = [.ag [.b neg, w]] := by
 unfold txtA at e
 split at e
 ·exact ⟨_, _, rfl⟩
 ·exact ⟨_, _, rfl⟩
 ·exact ⟨_, _, rfl⟩
 ·exact ⟨_, _, rfl⟩
 ·cases e
theorem zmT (K1 : ProgOk P key T E1.prog) (KE : PEnvOk E1) (hT0 : ∀ g n, T.gkey g = some n → n ≤ 4) {G : Nat} (hG : T.gkey G = some 0) {fn : Func} {g : Nat} (hfn : P.funcs[g]? = some fn) {pre tail : Code} (hbody : fn.body = some (graft pre tail)) (hpre : cCode P T pre = strA)
  (hnt : fn.ntmps = 58) (hres : fn.results = #[.tmp 2])
  (htail : ∀ (neg : Bool) (ps : List (List UInt8)), ps.reverse.flatten ≠ [] → ps.length ≤ 20000 → ps.flatten.length ≤ 1000000 →
   ∀ (b1 o1 b3 o3 c : Nat) (w : World), w.cell? ⟨b1, o1, none⟩ = some (.bool neg) → b1 < w.heap.size → b3 < w.heap.size →
   (∀ j x, ps[j]? = some x → w.cell? ⟨b3, o3 + j, none⟩ = some (.string ⟨x.toArray⟩)) →
   ∀ (tm : Array Value), tm.size = 58 → tm[1]? = some (.pointer (some ⟨b1, o1, none⟩)) → tm[3]? = some (.slice (some ⟨b3, o3, none⟩) ps.length c) →
   tail.wp P (fun e a w' => e = .ret ∧ a.defers = [] ∧ a.tmps.getD 2 undef = .string ⟨((if neg then [45] else []) ++ ps.reverse.flatten).toArray⟩ ∧ Below w.heap.size w w') ⟨tm, []⟩ w)
  {F : Nat} {args : List AV} {vs : Array Value} {h h' : Hp} {v : AV} {l : Loc} {w : World} (e : orcA 33 args h = some (v, h')) (TO : TabOk key T l)
  (RL : RelL key l args vs.toList) (S : Sim key F l h w) : Calls P g vs w fun e w' => ∃ l' val, e = .returned val ∧ Ext l h w l' h' w' ∧ Sim key F l' h' w' ∧ Rel key l' v val := by
 unfold orcA at e
 rw [if_pos rfl] at e
 split at e
 case isFalse => cases e
 rename_i ht
 simp only [Option.map_eq_some_iff, Prod.mk.injEq] at e
 obtain ⟨tx, e1, rfl, rfl⟩ := e
 obtain ⟨t, t1, t2⟩ := ht
 obtain ⟨m0, hl0⟩ := TO.g G 0 hG
 obtain ⟨neg, wv, rfl⟩ := zhm e1
 have hvs : ∃ val, vs = #[.agg #[.bool neg, val]] ∧ Rel key l wv val := by
  have hlen := RL.1
  rcases vs with ⟨vs⟩
  match vs, hlen with
  | [x], _ =>
   have r := RL.2 0 (by simp) (by simp)
   simp only [List.getElem_cons_zero] at r
   cases r with
   | @ag _ ws hn hv =>
    rcases ws with ⟨ws⟩
    match ws, hn with
    | [a, b], _ =>
     have r1 := hv 0 (by simp) (by simp)
     have r2 := hv 1 (by simp) (by simp)
     simp only [List.getElem_cons_zero, List.getElem_toArray, List.getElem_cons_succ] at r1 r2
     cases r1
     exact ⟨b, rfl, r2⟩
 obtain ⟨val, rfl, rv⟩ := hvs
 obtain ⟨cs, a1, wv', z, hsim, rv', hz, hneg, htx, hV⟩ := zoE S t1 t2 hl0 e1 rv
 generalize hh0 : Hp.tw t cs = h0 at hsim hV
 generalize hll : Loc.tw l a1 = l0 at hsim rv'
 have hw0 : h0.wf := (hsim 0).wf
 have hT : HasT h0 := ⟨{ t with rw := false }, by rw [← hh0]; rfl, t2⟩
 have norw : ∀ k b, h0.m k = some b → b.rw = false := fun k b q => by
  rw [← hh0] at q
  simp only [Hp.tw] at q
  split at q
  ·cases q; rfl
  ·split at q
   ·cases q; rfl
   ·cases q
 have TO0 : TabOk key T l0 := ⟨TO.f, fun g' n' q => by
  have hn := hT0 g' n' q
  obtain ⟨m, hm⟩ := TO.g g' n' q
  refine ⟨m, ?_⟩
  rw [← hll]
  simp only [Loc.tw]
  rw [if_neg (by omega), if_pos hn]
  exact hm⟩
 have RA : RelL key l0 [.ag [.b neg, wv']] [.agg #[.bool neg, val]] := .cons ((RelL.cons (.b neg) (.cons rv' .nil)).ag) .nil
 have RF : RelF key l0 ([.ag [.b neg, wv']] ++ List.replicate 57 undefA) (#[.agg #[.bool neg, val]] ++ Array.replicate (fn.ntmps - (#[Value.agg #[.bool neg, val]] : Array Value).size) undef) := by
  rw [hnt]
  unfold RelF
  rw [Array.toList_append, Array.toList_replicate]
  exact RA.append ⟨by simp, fun i q1 q2 => by rw [List.getElem_replicate, List.getElem_replicate]; exact zbr⟩
 have hbel : ∀ {l1 h1 w1}, Ext l0 h0 w l1 h1 w1 → Below w.heap.size w w1 := fun {l1 h1 w1} E =>
  ⟨E.os, E.tape, E.output, E.size, fun b hb => E.frame b hb fun m blk a q1 q2 => by rw [norw m blk q1] at q2; cases q2⟩
 have hregs : (cCode P T pre).regsOk = true := by rw [hpre]; decide
 have goodCall := zdl K1
 have final : Calls P g #[.agg #[.bool neg, val]] w fun e w' => e = .returned (.string ⟨tx.toArray⟩) ∧ Below w.heap.size w w' := by
  refine calls_of_wp hfn hbody ?_
  by_cases hz0 : z = 0
  ·subst hz0
   have hnf : neg = false := by
    cases neg
    ·rfl
    ·exact (hneg rfl rfl).elim
   subst hnf
   have htx' : tx = [48] := by rw [htx]; rfl
   obtain ⟨lf, fr', h1, ev, f2⟩ := zmQ KE hw0 hT hV
   refine zgk (goodCall lf) K1.call (zb8 K1 lf) K1.mixed lf tail pre hregs TO0 RF (hsim h1.next) (Nat.le_refl _) (by rw [hpre]; exact ev) fun l' a' w' E R' S' hd => ?_
   have r2 := RelF.get R' 2
   rw [f2] at r2
   refine ⟨hd, _, zgT hres _ _, ?_, hbel E⟩
   rw [htx']
   generalize a'.tmps.getD 2 undef = x at r2
   rw [zou r2]
  ·obtain ⟨lf, fr', h1, p0, m, len, cap, ps, ev, hlen, f1, ⟨b0, hb0, hb0v⟩, f3, ⟨b1, hb1, hb1v⟩, rfl, g1, g2, g3⟩ := zmR KE (neg := neg) hw0 hT hz0 hz hV
   refine zgk (goodCall lf) K1.call (zb8 K1 lf) K1.mixed lf tail pre hregs TO0 RF (hsim h1.next) (Nat.le_refl _) (by rw [hpre]; exact ev) fun l' a' w' E R' S' hd => ?_
   have r1 := RelF.get R' 1
   have r3 := RelF.get R' 3
   rw [f1] at r1
   rw [f3] at r3
   have hsz : a'.tmps.size = 58 := by
    have := R'.1
    simp at this; omega
   have gd : ∀ i, i < 58 → a'.tmps[i]? = some (a'.tmps.getD i undef) := fun i hi => by
    rw [Array.getD_eq_getD_getElem?, Array.getElem?_eq_getElem (by omega)]; rfl
   have gd1 := gd 1 (by omega)
   have gd3 := gd 3 (by omega)
   generalize a'.tmps.getD 1 undef = x1 at r1 gd1
   generalize a'.tmps.getD 3 undef = x3 at r3 gd3
   cases r1 with
   | @p _ _ a1' q1 =>
    cases r3 with
    | @sl _ _ _ _ cap' _ a3 q3 s1 s2 s3 =>
     have H0 := S'.holds _ _ _ hb0 q1
     have H3 := S'.holds _ _ _ hb1 q3
     have hneg' : w'.cell? ⟨a1'.b, a1'.o + 0, none⟩ = some (.bool neg) := by
      have hl : 0 < b0.v.length := by
       rcases Nat.eq_zero_or_pos b0.v.length with q | q
       ·rw [List.getElem?_eq_none (by omega)] at hb0v; cases hb0v
       ·exact q
      obtain ⟨y, c1, c2⟩ := H0.cell 0 hl
      rw [List.getElem?_eq_getElem hl] at hb0v
      rw [Option.some.inj hb0v] at c2
      cases c2; exact c1
     have hcells : ∀ j x, ps[j]? = some x → w'.cell? ⟨a3.b, a3.o + 0 + j, none⟩ = some (.string ⟨x.toArray⟩) := fun j x hx => by
      have hj : j < ps.length := by
       by_cases q : j < ps.length
       ·exact q
       ·rw [List.getElem?_eq_none (by omega)] at hx; cases hx
      have hj' : j < b1.v.length := by rw [hb1v]; simpa using hj
      obtain ⟨y, c1, c2⟩ := H3.cell j hj'
      have e : b1.v[j] = .s x := by
       simp only [hb1v, List.getElem_map]
       rw [List.getElem?_eq_getElem hj] at hx
       rw [Option.some.inj hx]
      rw [e] at c2
      have hy : y = .string ⟨x.toArray⟩ := by
       generalize hs : AV.s x = ax at c2
       cases c2 <;> cases hs
       rfl
      rw [Nat.add_zero, ← hy]; exact c1
     have hne : ps.reverse.flatten ≠ [] := by rw [g3]; exact znu z
     have htot : ps.flatten.length ≤ 1000000 := by
      have h1 : ps.flatten.length = ps.reverse.flatten.length := by
       simp only [List.length_flatten, List.map_reverse, List.sum_reverse]
      rw [h1, g3]
      have h2 := zkN hz
      unfold dec
      rw [if_neg hz0, zbO]; omega
     have tl := htail neg ps hne g2 htot a1'.b (a1'.o + 0) a3.b (a3.o + 0) cap' w' hneg' H0.lt H3.lt hcells a'.tmps hsz gd1 gd3
     have ha : a' = ⟨a'.tmps, []⟩ := by
      rcases a' with ⟨tm, df⟩
      simp only at hd
      rw [hd]
     show tail.wp P (bodyPost P fn _) a' w'
     rw [ha]
     refine wp_mono tl ?_
     rintro e a2 w2 ⟨rfl, d2, v2, bl⟩
     refine ⟨d2, _, zgT hres _ _, ?_, (hbel E).trans ⟨bl.os, bl.tape, bl.output, bl.size, fun k hk => bl.block k (Nat.lt_of_lt_of_le hk E.size)⟩⟩
     rw [v2, g3, htx]
     unfold decI
     cases neg
     ·simp only [Bool.false_eq_true, if_false]
      rw [if_neg (by omega)]
      simp
     ·simp only [if_true]
      rw [if_pos (by omega)]
      simp
 exact zbF S final (zeP tx)
end Go.Eng
namespace Go.Eng
theorem zgM {f : Nat} {d : XD} (h : prog f = some d) : some d ∈ progL := by
 unfold prog at h
 cases h1 : progL[f]? with
 | none => rw [h1] at h; cases h
 | some x =>
  rw [h1] at h
  cases x with
  | none => cases h
  | some y => cases h; exact List.mem_of_getElem? h1
def dOkD : Option XD → Bool
 | some (.fn xf) => xf.body.dOk xf.n
 | _ => true
theorem zhC : progL.all dOkD = true := by kernel_rfl
def isO : Option XD → Bool
 | some (.orc _) => true
 | _ => false
theorem zd7 {f : Nat} {o : List AV → Hp → Option (AV × Hp)} (h : prog f = some (.orc o)) : o = orcA f ∧ (f = 33 ∨ f = 50 ∨ f = 51 ∨ f = 130 ∨ f = 131 ∨ f = 222) := by
 have hf : isO (prog f) = true := by rw [h]; rfl
 have all : (List.range progL.length).all (fun f => !isO (prog f) || (f == 33 || f == 50 || f == 51 || f == 130 || f == 131 || f == 222)) = true := by kernel_rfl
 have hlt : f < progL.length := by
  unfold prog at h
  by_cases q : f < progL.length
  ·exact q
  ·rw [List.getElem?_eq_none (by omega)] at h; cases h
 rw [List.all_eq_true] at all
 have := all f (List.mem_range.2 hlt)
 rw [hf] at this
 simp only [Bool.not_true, Bool.false_or, Bool.or_eq_true, beq_iff_eq] at this
 have hc : f = 33 ∨ f = 50 ∨ f = 51 ∨ f = 130 ∨ f = 131 ∨ f = 222 := by omega
 refine ⟨?_, hc⟩
 rcases hc with rfl | rfl | rfl | rfl | rfl | rfl
 ·first | (have e : prog 33 = some (.orc (orcA 33)) := rfl; rw [e] at h; cases h; rfl) | (have h' : (none : Option XD) = some (.orc o) := h; cases h')
 ·first | (have e : prog 50 = some (.orc (orcA 50)) := rfl; rw [e] at h; cases h; rfl) | (have h' : (none : Option XD) = some (.orc o) := h; cases h')
 ·first | (have e : prog 51 = some (.orc (orcA 51)) := rfl; rw [e] at h; cases h; rfl) | (have h' : (none : Option XD) = some (.orc o) := h; cases h')
 ·first | (have e : prog 130 = some (.orc (orcA 130)) := rfl; rw [e] at h; cases h; rfl) | (have h' : (none : Option XD) = some (.orc o) := h; cases h')
 ·first | (have e : prog 131 = some (.orc (orcA 131)) := rfl; rw [e] at h; cases h; rfl) | (have h' : (none : Option XD) = some (.orc o) := h; cases h')
 ·first | (have e : prog 222 = some (.orc (orcA 222)) := rfl; rw [e] at h; cases h; rfl) | (have h' : (none : Option XD) = some (.orc o) := h; cases h')
theorem zcY {f : Nat} {d : XD} (h : E1.prog f = some d) : prog f = some d ∧ f ≠ 33 := by
 have h2 : (if f = 33 then none else prog f) = some d := h
 split at h2
 ·cases h2
 ·rename_i hf; exact ⟨h2, hf⟩
theorem KE0 : PEnvOk E0 where
 fn := fun f xf h => by
  have := zhC
  rw [List.all_eq_true] at this
  exact this _ (zgM (show prog f = _ from h))
 orc := fun f o h Db r M hp args asv v M' e I hv => by
  obtain ⟨rfl, _⟩ := zd7 (show prog f = _ from h)
  exact zoa rfl e I hv
theorem KE1 : PEnvOk E1 where
 fn := fun f xf h => by
  have := zhC
  rw [List.all_eq_true] at this
  exact this _ (zgM (zcY h).1)
 orc := fun f o h Db r M hp args asv v M' e I hv => by
  obtain ⟨rfl, _⟩ := zd7 (zcY h).1
  exact zoa rfl e I hv
variable (P : Program) (T : Tab)
def AllOk : List (Option XD) → List (Option FuncId) → Prop
 | some (.fn xf) :: ps, some g :: ks => (∃ fn, P.funcs[g]? = some fn ∧ cFunc P T fn = some xf ∧ xf.body.regsOk = true) ∧ AllOk ps ks
 | _ :: ps, _ :: ks => AllOk ps ks
 | _, _ => True
def AllCal : List (Option FuncId) → Prop
 | some g :: ks => (∃ fn, P.funcs[g]? = some fn ∧ fn.body.isNone = false ∧ (fn.name == "runtime.NumGoroutine") = false) ∧ AllCal ks
 | none :: ks => AllCal ks
 | [] => True
variable {P T}
theorem zek : ∀ {ps : List (Option XD)} {ks : List (Option FuncId)}, AllOk P T ps ks → ∀ {f : Nat} {xf : XF} {g : FuncId}, (ps[f]?).join = some (.fn xf) → (ks[f]?).join = some g → ∃ fn, P.funcs[g]? = some fn ∧ cFunc P T fn = some xf ∧ xf.body.regsOk = true
 | [], _, _, f, xf, g, h1, h2 => by simp at h1
 | p :: ps, [], _, f, xf, g, h1, h2 => by simp at h2
 | p :: ps, k :: ks, h, 0, xf, g, h1, h2 => by
  simp only [List.getElem?_cons_zero, Option.join_some] at h1 h2
  subst h1; subst h2
  exact h.1
 | p :: ps, k :: ks, h, f + 1, xf, g, h1, h2 => by
  simp only [List.getElem?_cons_succ] at h1 h2
  refine zek (ps := ps) (ks := ks) ?_ h1 h2
  match p, k, h with
  | some (.fn xf), some g, h => exact h.2
  | some (.fn xf), none, h => exact h
  | some (.orc _), _, h => exact h
  | none, _, h => exact h
theorem zft : ∀ {ks : List (Option FuncId)}, AllCal P ks → ∀ {f : Nat} {g : FuncId}, (ks[f]?).join = some g → ∃ fn, P.funcs[g]? = some fn ∧ fn.body.isNone = false ∧ (fn.name == "runtime.NumGoroutine") = false
 | [], _, f, g, h => by simp at h
 | k :: ks, h, 0, g, h1 => by
  simp only [List.getElem?_cons_zero, Option.join_some] at h1
  subst h1
  exact h.1
 | k :: ks, h, f + 1, g, h1 => by
  simp only [List.getElem?_cons_succ] at h1
  refine zft (ks := ks) ?_ h1
  match k, h with
  | some g, h => exact h.2
  | none, h => exact h
theorem zgp {f : Nat} {args : List AV} {h h' : Hp} {v : AV} (e : orcA f args h = some (v, h')) : HpOk h h' := by
 unfold orcA at e
 split at e
 ·split at e
  ·simp only [Option.map_eq_some_iff, Prod.mk.injEq] at e
   obtain ⟨_, _, _, rfl⟩ := e
   exact .refl h
  ·cases e
 ·split at e
  ·cases e
  ·simp only [Option.map_eq_some_iff, Prod.mk.injEq] at e
   obtain ⟨_, _, _, rfl⟩ := e
   exact .refl h
theorem zmD {keyL : List (Option FuncId)} {ρ : Go.Shelf.Ren} {G : Nat} (mixed : P.follows .mixedOrders = true) (hc : AllCal P keyL) (ha : AllOk P T progL keyL) (L : LibOk P ρ (fun f => (keyL[f]?).join) T G) :
  ProgOk P (fun f => (keyL[f]?).join) T E1.prog where
 mixed := mixed
 call := fun f g h => zft hc h
 fn := fun f xf g h1 h2 => zek ha (zcY h1).1 h2
 good := fun f o args h v h' h1 e => by
  obtain ⟨rfl, _⟩ := zd7 (zcY h1).1
  exact zgp e
 orc := fun f o g h1 hk F args vs h h' v l w e hF TO RL S => by
  obtain ⟨rfl, _⟩ := zd7 (zcY h1).1
  exact zic L hk (zcY h1).2 e TO RL S
theorem zmC {keyL : List (Option FuncId)} {ρ : Go.Shelf.Ren} {G : Nat} (mixed : P.follows .mixedOrders = true) (hc : AllCal P keyL) (ha : AllOk P T progL keyL) (L : LibOk P ρ (fun f => (keyL[f]?).join) T G)
  (str : ∀ {g : Nat}, (keyL[33]?).join = some g → ∀ {F : Nat} {args : List AV} {vs : Array Value} {h h' : Hp} {v : AV} {l : Loc} {w : World}, orcA 33 args h = some (v, h') → TabOk (fun f => (keyL[f]?).join) T l →
   RelL (fun f => (keyL[f]?).join) l args vs.toList → Sim (fun f => (keyL[f]?).join) F l h w → Calls P g vs w fun e w' => ∃ l' val, e = .returned val ∧ Ext l h w l' h' w' ∧ Sim (fun f => (keyL[f]?).join) F l' h' w' ∧ Rel (fun f => (keyL[f]?).join) l' v val) :
  ProgOk P (fun f => (keyL[f]?).join) T E0.prog where
 mixed := mixed
 call := fun f g h => zft hc h
 fn := fun f xf g h1 h2 => zek ha (show prog f = _ from h1) h2
 good := fun f o args h v h' h1 e => by
  obtain ⟨rfl, _⟩ := zd7 (show prog f = _ from h1)
  exact zgp e
 orc := fun f o g h1 hk F args vs h h' v l w e hF TO RL S => by
  obtain ⟨rfl, hf⟩ := zd7 (show prog f = _ from h1)
  by_cases h33 : f = 33
  ·subst h33
   exact str hk e TO RL S
  ·exact zic L hk h33 e TO RL S
end Go.Eng
namespace Go.Proofs
open Go.Eng
def Tryz.keyL : List (Option FuncId) := [none, none, none, none, none, none, none, none, some 90, some 91, none, some 13, none, none, none, none, some 34, some 51, some 80, some 52, some 125, some 111, some 110, some 94, some 72, none, none, none, none, some 53, some 54, some 55, none, some 77, some 92, some 95, some 98, some 93, some 122, some 123, some 96, some 99, some 97, some 109, some 47, none, none, none, some 116, some 106, some 117, some 118, none, none, none, some 126, some 127, some 128, some 129, some 107, some 131, some 132, some 130, some 87, some 88, some 50, none, some 49, none, none, none, none, none, none, none, none, some 152, some 153, some 154, some 155, some 81, none, none, none, none, some 157, none, none, none, none, none, none, none, none, none, none, none, none, none, none, none, none, none, none, none, none, none, some 71, none, none, some 70, none, none, none, some 28, none, none, none, some 66, some 26, some 61, none, none, some 59, none, some 60, none, some 108, none, some 103, some 104, some 105, some 62, some 63, some 64, some 65, some 100, some 135, none, none, none, none, none, none, none, none, none, some 101, some 133, some 134, none, none, none, none, none, none, none, none, none, some 156, none, none, none, none, none, none, none, none, none, none, none, none, none, none, none, none, none, none, none, some 67, some 36, none, some 25, none, none, some 58, none, some 29, none, none, none, none, none, none, none, none, none, none, none, none, none, none, none, none, none, none, none, none, none, none, none, none, none, none, none, none, none, none, none, none, none, none, none, none, none, none, none, none, none, none, none, none, none, none, none, none, none, none, none, none, none, none, none, none, none, none, none, none, none, none, none, none, none, none, none, none, none, none, none, none, none, none, none, none, none, none, none, none, none, none, none, none, none, none, none, none, none, none, none, none, none, none, none, none, none, none, none, none, none, none, none, none, none, none, none, none, none, none, none, none, none, some 15, some 30, some 14, some 12, some 11, some 68, some 56, some 20, some 9, some 48, some 40, some 82, some 79, some 38, some 37, some 39, some 89, some 83, some 84, some 78, none, none, none, none, some 6, some 7, none, none, none, none, none, some 18, none, none, some 22, none, none, none, none, none, none, some 32, none, none, none, none, none, none, none, none, none, none, none, none, none, none, none, none, none, none, none, none, none, none, none, none, none, none, none, none, none, none, none, none, none, none, none, none, none, none, none, none, none, none, none, none, none]
def Tryz.fkeyL : List (Option Nat) := [none, none, none, none, none, none, some 325, some 326, none, some 309, none, some 305, some 304, some 11, some 303, some 301, none, none, some 332, none, some 308, none, some 335, none, none, some 182, some 119, none, some 114, some 187, some 302, none, some 342, none, some 16, none, some 180, some 315, some 314, some 316, some 311, none, none, none, none, none, none, some 44, some 310, some 67, some 65, some 17, some 19, some 29, some 30, some 31, some 307, none, some 185, some 123, some 125, some 120, some 132, some 133, some 134, some 135, some 118, some 179, some 306, none, some 110, some 107, some 24, none, none, none, none, some 33, some 320, some 313, some 18, some 80, some 312, some 318, some 319, none, none, some 63, some 64, some 317, some 8, some 9, some 34, some 37, some 23, some 35, some 40, some 42, some 36, some 41, some 136, some 147, none, some 129, some 130, some 131, some 49, some 59, some 127, some 43, some 22, some 21, none, none, none, none, some 48, some 50, some 51, none, none, none, some 38, some 39, none, some 20, some 55, some 56, some 57, some 58, some 62, some 60, some 61, some 148, some 149, some 137, none, none, none, none, none, none, none, none, none, none, none, none, none, none, none, none, some 76, some 77, some 78, some 79, some 159, some 85]
def Tryz.T : Tab := { fkey := fun f => (Tryz.fkeyL[f]?).join, gkey := fun g => if g = 4 then some 0 else none }
abbrev OkC (p : Program) (n : Nat) : Prop := ∃ fn, p.funcs[n]? = some fn ∧ fn.body.isNone = false ∧ (fn.name == "runtime.NumGoroutine") = false
abbrev OkF (p : Program) (T : Tab) (n : Nat) (x : XF) : Prop := ∃ fn, p.funcs[n]? = some fn ∧ cFunc p T fn = some x ∧ x.body.regsOk = true
theorem Tryz.okc8 : OkC Tryz.prog 90 := ⟨_, Tryz.func90, by kernel_rfl, by kernel_rfl⟩
theorem Tryz.okc9 : OkC Tryz.prog 91 := ⟨_, Tryz.func91, by kernel_rfl, by kernel_rfl⟩
theorem Tryz.okc11 : OkC Tryz.prog 13 := ⟨_, Tryz.func13, by kernel_rfl, by kernel_rfl⟩
theorem Tryz.okc16 : OkC Tryz.prog 34 := ⟨_, Tryz.func34, by kernel_rfl, by kernel_rfl⟩
theorem Tryz.okc17 : OkC Tryz.prog 51 := ⟨_, Tryz.func51, by kernel_rfl, by kernel_rfl⟩
theorem Tryz.okc18 : OkC Tryz.prog 80 := ⟨_, Tryz.func80, by kernel_rfl, by kernel_rfl⟩
theorem Tryz.okc19 : OkC Tryz.prog 52 := ⟨_, Tryz.func52, by kernel_rfl, by kernel_rfl⟩
theorem Tryz.okc20 : OkC Tryz.prog 125 := ⟨_, Tryz.func125, by kernel_rfl, by kernel_rfl⟩
theorem Tryz.okc21 : OkC Tryz.prog 111 := ⟨_, Tryz.func111, by kernel_rfl, by kernel_rfl⟩
theorem Tryz.okc22 : OkC Tryz.prog 110 := ⟨_, Tryz.func110, by kernel_rfl, by kernel_rfl⟩
theorem Tryz.okc23 : OkC Tryz.prog 94 := ⟨_, Tryz.func94, by kernel_rfl, by kernel_rfl⟩
theorem Tryz.okc24 : OkC Tryz.prog 72 := ⟨_, Tryz.func72, by kernel_rfl, by kernel_rfl⟩
theorem Tryz.okc29 : OkC Tryz.prog 53 := ⟨_, Tryz.func53, by kernel_rfl, by kernel_rfl⟩
theorem Tryz.okc30 : OkC Tryz.prog 54 := ⟨_, Tryz.func54, by kernel_rfl, by kernel_rfl⟩
theorem Tryz.okc31 : OkC Tryz.prog 55 := ⟨_, Tryz.func55, by kernel_rfl, by kernel_rfl⟩
theorem Tryz.okc33 : OkC Tryz.prog 77 := ⟨_, Tryz.func77, by kernel_rfl, by kernel_rfl⟩
theorem Tryz.okc34 : OkC Tryz.prog 92 := ⟨_, Tryz.func92, by kernel_rfl, by kernel_rfl⟩
theorem Tryz.okc35 : OkC Tryz.prog 95 := ⟨_, Tryz.func95, by kernel_rfl, by kernel_rfl⟩
theorem Tryz.okc36 : OkC Tryz.prog 98 := ⟨_, Tryz.func98, by kernel_rfl, by kernel_rfl⟩
theorem Tryz.okc37 : OkC Tryz.prog 93 := ⟨_, Tryz.func93, by kernel_rfl, by kernel_rfl⟩
theorem Tryz.okc38 : OkC Tryz.prog 122 := ⟨_, Tryz.func122, by kernel_rfl, by kernel_rfl⟩
theorem Tryz.okc39 : OkC Tryz.prog 123 := ⟨_, Tryz.func123, by kernel_rfl, by kernel_rfl⟩
theorem Tryz.okc40 : OkC Tryz.prog 96 := ⟨_, Tryz.func96, by kernel_rfl, by kernel_rfl⟩
theorem Tryz.okc41 : OkC Tryz.prog 99 := ⟨_, Tryz.func99, by kernel_rfl, by kernel_rfl⟩
theorem Tryz.okc42 : OkC Tryz.prog 97 := ⟨_, Tryz.func97, by kernel_rfl, by kernel_rfl⟩
theorem Tryz.okc43 : OkC Tryz.prog 109 := ⟨_, Tryz.func109, by kernel_rfl, by kernel_rfl⟩
theorem Tryz.okc44 : OkC Tryz.prog 47 := ⟨_, Tryz.func47, by kernel_rfl, by kernel_rfl⟩
theorem Tryz.okc48 : OkC Tryz.prog 116 := ⟨_, Tryz.func116, by kernel_rfl, by kernel_rfl⟩
theorem Tryz.okc49 : OkC Tryz.prog 106 := ⟨_, Tryz.func106, by kernel_rfl, by kernel_rfl⟩
theorem Tryz.okc50 : OkC Tryz.prog 117 := ⟨_, Tryz.func117, by kernel_rfl, by kernel_rfl⟩
theorem Tryz.okc51 : OkC Tryz.prog 118 := ⟨_, Tryz.func118, by kernel_rfl, by kernel_rfl⟩
theorem Tryz.okc55 : OkC Tryz.prog 126 := ⟨_, Tryz.func126, by kernel_rfl, by kernel_rfl⟩
theorem Tryz.okc56 : OkC Tryz.prog 127 := ⟨_, Tryz.func127, by kernel_rfl, by kernel_rfl⟩
theorem Tryz.okc57 : OkC Tryz.prog 128 := ⟨_, Tryz.func128, by kernel_rfl, by kernel_rfl⟩
theorem Tryz.okc58 : OkC Tryz.prog 129 := ⟨_, Tryz.func129, by kernel_rfl, by kernel_rfl⟩
theorem Tryz.okc59 : OkC Tryz.prog 107 := ⟨_, Tryz.func107, by kernel_rfl, by kernel_rfl⟩
theorem Tryz.okc60 : OkC Tryz.prog 131 := ⟨_, Tryz.func131, by kernel_rfl, by kernel_rfl⟩
theorem Tryz.okc61 : OkC Tryz.prog 132 := ⟨_, Tryz.func132, by kernel_rfl, by kernel_rfl⟩
theorem Tryz.okc62 : OkC Tryz.prog 130 := ⟨_, Tryz.func130, by kernel_rfl, by kernel_rfl⟩
theorem Tryz.okc63 : OkC Tryz.prog 87 := ⟨_, Tryz.func87, by kernel_rfl, by kernel_rfl⟩
theorem Tryz.okc64 : OkC Tryz.prog 88 := ⟨_, Tryz.func88, by kernel_rfl, by kernel_rfl⟩
theorem Tryz.okc65 : OkC Tryz.prog 50 := ⟨_, Tryz.func50, by kernel_rfl, by kernel_rfl⟩
theorem Tryz.okc67 : OkC Tryz.prog 49 := ⟨_, Tryz.func49, by kernel_rfl, by kernel_rfl⟩
theorem Tryz.okc76 : OkC Tryz.prog 152 := ⟨_, Tryz.func152, by kernel_rfl, by kernel_rfl⟩
theorem Tryz.okc77 : OkC Tryz.prog 153 := ⟨_, Tryz.func153, by kernel_rfl, by kernel_rfl⟩
theorem Tryz.okc78 : OkC Tryz.prog 154 := ⟨_, Tryz.func154, by kernel_rfl, by kernel_rfl⟩
theorem Tryz.okc79 : OkC Tryz.prog 155 := ⟨_, Tryz.func155, by kernel_rfl, by kernel_rfl⟩
theorem Tryz.okc80 : OkC Tryz.prog 81 := ⟨_, Tryz.func81, by kernel_rfl, by kernel_rfl⟩
theorem Tryz.okc85 : OkC Tryz.prog 157 := ⟨_, Tryz.func157, by kernel_rfl, by kernel_rfl⟩
theorem Tryz.okc107 : OkC Tryz.prog 71 := ⟨_, Tryz.func71, by kernel_rfl, by kernel_rfl⟩
theorem Tryz.okc110 : OkC Tryz.prog 70 := ⟨_, Tryz.func70, by kernel_rfl, by kernel_rfl⟩
theorem Tryz.okc114 : OkC Tryz.prog 28 := ⟨_, Tryz.func28, by kernel_rfl, by kernel_rfl⟩
theorem Tryz.okc118 : OkC Tryz.prog 66 := ⟨_, Tryz.func66, by kernel_rfl, by kernel_rfl⟩
theorem Tryz.okc119 : OkC Tryz.prog 26 := ⟨_, Tryz.func26, by kernel_rfl, by kernel_rfl⟩
theorem Tryz.okc120 : OkC Tryz.prog 61 := ⟨_, Tryz.func61, by kernel_rfl, by kernel_rfl⟩
theorem Tryz.okc123 : OkC Tryz.prog 59 := ⟨_, Tryz.func59, by kernel_rfl, by kernel_rfl⟩
theorem Tryz.okc125 : OkC Tryz.prog 60 := ⟨_, Tryz.func60, by kernel_rfl, by kernel_rfl⟩
theorem Tryz.okc127 : OkC Tryz.prog 108 := ⟨_, Tryz.func108, by kernel_rfl, by kernel_rfl⟩
theorem Tryz.okc129 : OkC Tryz.prog 103 := ⟨_, Tryz.func103, by kernel_rfl, by kernel_rfl⟩
theorem Tryz.okc130 : OkC Tryz.prog 104 := ⟨_, Tryz.func104, by kernel_rfl, by kernel_rfl⟩
theorem Tryz.okc131 : OkC Tryz.prog 105 := ⟨_, Tryz.func105, by kernel_rfl, by kernel_rfl⟩
theorem Tryz.okc132 : OkC Tryz.prog 62 := ⟨_, Tryz.func62, by kernel_rfl, by kernel_rfl⟩
theorem Tryz.okc133 : OkC Tryz.prog 63 := ⟨_, Tryz.func63, by kernel_rfl, by kernel_rfl⟩
theorem Tryz.okc134 : OkC Tryz.prog 64 := ⟨_, Tryz.func64, by kernel_rfl, by kernel_rfl⟩
theorem Tryz.okc135 : OkC Tryz.prog 65 := ⟨_, Tryz.func65, by kernel_rfl, by kernel_rfl⟩
theorem Tryz.okc136 : OkC Tryz.prog 100 := ⟨_, Tryz.func100, by kernel_rfl, by kernel_rfl⟩
theorem Tryz.okc137 : OkC Tryz.prog 135 := ⟨_, Tryz.func135, by kernel_rfl, by kernel_rfl⟩
theorem Tryz.okc147 : OkC Tryz.prog 101 := ⟨_, Tryz.func101, by kernel_rfl, by kernel_rfl⟩
theorem Tryz.okc148 : OkC Tryz.prog 133 := ⟨_, Tryz.func133, by kernel_rfl, by kernel_rfl⟩
theorem Tryz.okc149 : OkC Tryz.prog 134 := ⟨_, Tryz.func134, by kernel_rfl, by kernel_rfl⟩
theorem Tryz.okc159 : OkC Tryz.prog 156 := ⟨_, Tryz.func156, by kernel_rfl, by kernel_rfl⟩
theorem Tryz.okc179 : OkC Tryz.prog 67 := ⟨_, Tryz.func67, by kernel_rfl, by kernel_rfl⟩
theorem Tryz.okc180 : OkC Tryz.prog 36 := ⟨_, Tryz.func36, by kernel_rfl, by kernel_rfl⟩
theorem Tryz.okc182 : OkC Tryz.prog 25 := ⟨_, Tryz.func25, by kernel_rfl, by kernel_rfl⟩
theorem Tryz.okc185 : OkC Tryz.prog 58 := ⟨_, Tryz.func58, by kernel_rfl, by kernel_rfl⟩
theorem Tryz.okc187 : OkC Tryz.prog 29 := ⟨_, Tryz.func29, by kernel_rfl, by kernel_rfl⟩
theorem Tryz.okc301 : OkC Tryz.prog 15 := ⟨_, Tryz.func15, by kernel_rfl, by kernel_rfl⟩
theorem Tryz.okc302 : OkC Tryz.prog 30 := ⟨_, Tryz.func30, by kernel_rfl, by kernel_rfl⟩
theorem Tryz.okc303 : OkC Tryz.prog 14 := ⟨_, Tryz.func14, by kernel_rfl, by kernel_rfl⟩
theorem Tryz.okc304 : OkC Tryz.prog 12 := ⟨_, Tryz.func12, by kernel_rfl, by kernel_rfl⟩
theorem Tryz.okc305 : OkC Tryz.prog 11 := ⟨_, Tryz.func11, by kernel_rfl, by kernel_rfl⟩
theorem Tryz.okc306 : OkC Tryz.prog 68 := ⟨_, Tryz.func68, by kernel_rfl, by kernel_rfl⟩
theorem Tryz.okc307 : OkC Tryz.prog 56 := ⟨_, Tryz.func56, by kernel_rfl, by kernel_rfl⟩
theorem Tryz.okc308 : OkC Tryz.prog 20 := ⟨_, Tryz.func20, by kernel_rfl, by kernel_rfl⟩
theorem Tryz.okc309 : OkC Tryz.prog 9 := ⟨_, Tryz.func9, by kernel_rfl, by kernel_rfl⟩
theorem Tryz.okc310 : OkC Tryz.prog 48 := ⟨_, Tryz.func48, by kernel_rfl, by kernel_rfl⟩
theorem Tryz.okc311 : OkC Tryz.prog 40 := ⟨_, Tryz.func40, by kernel_rfl, by kernel_rfl⟩
theorem Tryz.okc312 : OkC Tryz.prog 82 := ⟨_, Tryz.func82, by kernel_rfl, by kernel_rfl⟩
theorem Tryz.okc313 : OkC Tryz.prog 79 := ⟨_, Tryz.func79, by kernel_rfl, by kernel_rfl⟩
theorem Tryz.okc314 : OkC Tryz.prog 38 := ⟨_, Tryz.func38, by kernel_rfl, by kernel_rfl⟩
theorem Tryz.okc315 : OkC Tryz.prog 37 := ⟨_, Tryz.func37, by kernel_rfl, by kernel_rfl⟩
theorem Tryz.okc316 : OkC Tryz.prog 39 := ⟨_, Tryz.func39, by kernel_rfl, by kernel_rfl⟩
theorem Tryz.okc317 : OkC Tryz.prog 89 := ⟨_, Tryz.func89, by kernel_rfl, by kernel_rfl⟩
theorem Tryz.okc318 : OkC Tryz.prog 83 := ⟨_, Tryz.func83, by kernel_rfl, by kernel_rfl⟩
theorem Tryz.okc319 : OkC Tryz.prog 84 := ⟨_, Tryz.func84, by kernel_rfl, by kernel_rfl⟩
theorem Tryz.okc320 : OkC Tryz.prog 78 := ⟨_, Tryz.func78, by kernel_rfl, by kernel_rfl⟩
theorem Tryz.okc325 : OkC Tryz.prog 6 := ⟨_, Tryz.func6, by kernel_rfl, by kernel_rfl⟩
theorem Tryz.okc326 : OkC Tryz.prog 7 := ⟨_, Tryz.func7, by kernel_rfl, by kernel_rfl⟩
theorem Tryz.okc332 : OkC Tryz.prog 18 := ⟨_, Tryz.func18, by kernel_rfl, by kernel_rfl⟩
theorem Tryz.okc335 : OkC Tryz.prog 22 := ⟨_, Tryz.func22, by kernel_rfl, by kernel_rfl⟩
theorem Tryz.okc342 : OkC Tryz.prog 32 := ⟨_, Tryz.func32, by kernel_rfl, by kernel_rfl⟩
theorem Tryz.okf8 : OkF Tryz.prog Tryz.T 90 x_frac_Mul := ⟨_, Tryz.func90, by kernel_rfl, by kernel_rfl⟩
theorem Tryz.okf9 : OkF Tryz.prog Tryz.T 91 x_frac_Add := ⟨_, Tryz.func91, by kernel_rfl, by kernel_rfl⟩
theorem Tryz.okf11 : OkF Tryz.prog Tryz.T 13 x_frac_Compare := ⟨_, Tryz.func13, by kernel_rfl, by kernel_rfl⟩
theorem Tryz.okf16 : OkF Tryz.prog Tryz.T 34 x__skymosaic_frac_Frac__String := ⟨_, Tryz.func34, by kernel_rfl, by kernel_rfl⟩
theorem Tryz.okf17 : OkF Tryz.prog Tryz.T 51 x_frac_Of := ⟨_, Tryz.func51, by kernel_rfl, by kernel_rfl⟩
theorem Tryz.okf18 : OkF Tryz.prog Tryz.T 80 x_wide_Gcd := ⟨_, Tryz.func80, by kernel_rfl, by kernel_rfl⟩
theorem Tryz.okf19 : OkF Tryz.prog Tryz.T 52 x__skymosaic_frac_Frac__Den := ⟨_, Tryz.func52, by kernel_rfl, by kernel_rfl⟩
theorem Tryz.okf20 : OkF Tryz.prog Tryz.T 125 x_frac_times := ⟨_, Tryz.func125, by kernel_rfl, by kernel_rfl⟩
theorem Tryz.okf21 : OkF Tryz.prog Tryz.T 111 x_frac_over := ⟨_, Tryz.func111, by kernel_rfl, by kernel_rfl⟩
theorem Tryz.okf22 : OkF Tryz.prog Tryz.T 110 x_frac_lowest := ⟨_, Tryz.func110, by kernel_rfl, by kernel_rfl⟩
theorem Tryz.okf23 : OkF Tryz.prog Tryz.T 94 x_wide_Add := ⟨_, Tryz.func94, by kernel_rfl, by kernel_rfl⟩
theorem Tryz.okf24 : OkF Tryz.prog Tryz.T 72 x_frac_Make := ⟨_, Tryz.func72, by kernel_rfl, by kernel_rfl⟩
theorem Tryz.okf29 : OkF Tryz.prog Tryz.T 53 x_wide_Div := ⟨_, Tryz.func53, by kernel_rfl, by kernel_rfl⟩
theorem Tryz.okf30 : OkF Tryz.prog Tryz.T 54 x_wide_Compare := ⟨_, Tryz.func54, by kernel_rfl, by kernel_rfl⟩
theorem Tryz.okf31 : OkF Tryz.prog Tryz.T 55 x_wide_Sign := ⟨_, Tryz.func55, by kernel_rfl, by kernel_rfl⟩
theorem Tryz.okf34 : OkF Tryz.prog Tryz.T 92 x_wide_From := ⟨_, Tryz.func92, by kernel_rfl, by kernel_rfl⟩
theorem Tryz.okf35 : OkF Tryz.prog Tryz.T 95 x_wide_divide := ⟨_, Tryz.func95, by kernel_rfl, by kernel_rfl⟩
theorem Tryz.okf36 : OkF Tryz.prog Tryz.T 98 x_wide_signed := ⟨_, Tryz.func98, by kernel_rfl, by kernel_rfl⟩
theorem Tryz.okf37 : OkF Tryz.prog Tryz.T 93 x_frac_must := ⟨_, Tryz.func93, by kernel_rfl, by kernel_rfl⟩
theorem Tryz.okf38 : OkF Tryz.prog Tryz.T 122 x_wide_Mul := ⟨_, Tryz.func122, by kernel_rfl, by kernel_rfl⟩
theorem Tryz.okf39 : OkF Tryz.prog Tryz.T 123 x_wide_Sub := ⟨_, Tryz.func123, by kernel_rfl, by kernel_rfl⟩
theorem Tryz.okf40 : OkF Tryz.prog Tryz.T 96 x_wide_sum := ⟨_, Tryz.func96, by kernel_rfl, by kernel_rfl⟩
theorem Tryz.okf41 : OkF Tryz.prog Tryz.T 99 x_wide_compare := ⟨_, Tryz.func99, by kernel_rfl, by kernel_rfl⟩
theorem Tryz.okf42 : OkF Tryz.prog Tryz.T 97 x_wide_difference := ⟨_, Tryz.func97, by kernel_rfl, by kernel_rfl⟩
theorem Tryz.okf43 : OkF Tryz.prog Tryz.T 109 x_wide_Neg := ⟨_, Tryz.func109, by kernel_rfl, by kernel_rfl⟩
theorem Tryz.okf44 : OkF Tryz.prog Tryz.T 47 x_poly_Digits := ⟨_, Tryz.func47, by kernel_rfl, by kernel_rfl⟩
theorem Tryz.okf48 : OkF Tryz.prog Tryz.T 116 x_wide_short := ⟨_, Tryz.func116, by kernel_rfl, by kernel_rfl⟩
theorem Tryz.okf49 : OkF Tryz.prog Tryz.T 106 x_wide_normal := ⟨_, Tryz.func106, by kernel_rfl, by kernel_rfl⟩
theorem Tryz.okf55 : OkF Tryz.prog Tryz.T 126 x_math_bits_LeadingZeros32 := ⟨_, Tryz.func126, by kernel_rfl, by kernel_rfl⟩
theorem Tryz.okf56 : OkF Tryz.prog Tryz.T 127 x_wide_shifted := ⟨_, Tryz.func127, by kernel_rfl, by kernel_rfl⟩
theorem Tryz.okf57 : OkF Tryz.prog Tryz.T 128 x_wide_take := ⟨_, Tryz.func128, by kernel_rfl, by kernel_rfl⟩
theorem Tryz.okf58 : OkF Tryz.prog Tryz.T 129 x_wide_carrier := ⟨_, Tryz.func129, by kernel_rfl, by kernel_rfl⟩
theorem Tryz.okf59 : OkF Tryz.prog Tryz.T 107 x_wide_times := ⟨_, Tryz.func107, by kernel_rfl, by kernel_rfl⟩
theorem Tryz.okf60 : OkF Tryz.prog Tryz.T 131 x_cmp_Compare_int_ := ⟨_, Tryz.func131, by kernel_rfl, by kernel_rfl⟩
theorem Tryz.okf61 : OkF Tryz.prog Tryz.T 132 x_cmp_Compare_uint32_ := ⟨_, Tryz.func132, by kernel_rfl, by kernel_rfl⟩
theorem Tryz.okf62 : OkF Tryz.prog Tryz.T 130 x_wide_subtract := ⟨_, Tryz.func130, by kernel_rfl, by kernel_rfl⟩
theorem Tryz.okf63 : OkF Tryz.prog Tryz.T 87 x_poly_digits := ⟨_, Tryz.func87, by kernel_rfl, by kernel_rfl⟩
theorem Tryz.okf64 : OkF Tryz.prog Tryz.T 88 x__skymosaic_frac_Frac__Num := ⟨_, Tryz.func88, by kernel_rfl, by kernel_rfl⟩
theorem Tryz.okf65 : OkF Tryz.prog Tryz.T 50 x_frac_Div := ⟨_, Tryz.func50, by kernel_rfl, by kernel_rfl⟩
theorem Tryz.okf67 : OkF Tryz.prog Tryz.T 49 x_frac_Sign := ⟨_, Tryz.func49, by kernel_rfl, by kernel_rfl⟩
theorem Tryz.okf76 : OkF Tryz.prog Tryz.T 152 x_math_bits_Len32 := ⟨_, Tryz.func152, by kernel_rfl, by kernel_rfl⟩
theorem Tryz.okf77 : OkF Tryz.prog Tryz.T 153 x_wide_carrier_1 := ⟨_, Tryz.func153, by kernel_rfl, by kernel_rfl⟩
theorem Tryz.okf78 : OkF Tryz.prog Tryz.T 154 x_cmp_isNaN_int_ := ⟨_, Tryz.func154, by kernel_rfl, by kernel_rfl⟩
theorem Tryz.okf79 : OkF Tryz.prog Tryz.T 155 x_cmp_isNaN_uint32_ := ⟨_, Tryz.func155, by kernel_rfl, by kernel_rfl⟩
theorem Tryz.okf80 : OkF Tryz.prog Tryz.T 81 x__skymosaic_wide_Int__Small := ⟨_, Tryz.func81, by kernel_rfl, by kernel_rfl⟩
theorem Tryz.okf85 : OkF Tryz.prog Tryz.T 157 x_internal_stringslite_HasPrefix := ⟨_, Tryz.func157, by kernel_rfl, by kernel_rfl⟩
theorem Tryz.okf107 : OkF Tryz.prog Tryz.T 71 x_r03_Text := ⟨_, Tryz.func71, by kernel_rfl, by kernel_rfl⟩
theorem Tryz.okf110 : OkF Tryz.prog Tryz.T 70 x_wide_Parse := ⟨_, Tryz.func70, by kernel_rfl, by kernel_rfl⟩
theorem Tryz.okf114 : OkF Tryz.prog Tryz.T 28 x_r03_Of := ⟨_, Tryz.func28, by kernel_rfl, by kernel_rfl⟩
theorem Tryz.okf118 : OkF Tryz.prog Tryz.T 66 x_r03_Mul := ⟨_, Tryz.func66, by kernel_rfl, by kernel_rfl⟩
theorem Tryz.okf119 : OkF Tryz.prog Tryz.T 26 x_r03_Add := ⟨_, Tryz.func26, by kernel_rfl, by kernel_rfl⟩
theorem Tryz.okf120 : OkF Tryz.prog Tryz.T 61 x_r03_Div := ⟨_, Tryz.func61, by kernel_rfl, by kernel_rfl⟩
theorem Tryz.okf123 : OkF Tryz.prog Tryz.T 59 x_r03_Neg := ⟨_, Tryz.func59, by kernel_rfl, by kernel_rfl⟩
theorem Tryz.okf125 : OkF Tryz.prog Tryz.T 60 x_r03_Gcd := ⟨_, Tryz.func60, by kernel_rfl, by kernel_rfl⟩
theorem Tryz.okf127 : OkF Tryz.prog Tryz.T 108 x_r01_Decimal := ⟨_, Tryz.func108, by kernel_rfl, by kernel_rfl⟩
theorem Tryz.okf129 : OkF Tryz.prog Tryz.T 103 x_strings_CutPrefix := ⟨_, Tryz.func103, by kernel_rfl, by kernel_rfl⟩
theorem Tryz.okf132 : OkF Tryz.prog Tryz.T 62 x_r03_normal := ⟨_, Tryz.func62, by kernel_rfl, by kernel_rfl⟩
theorem Tryz.okf133 : OkF Tryz.prog Tryz.T 63 x_r03_plus := ⟨_, Tryz.func63, by kernel_rfl, by kernel_rfl⟩
theorem Tryz.okf134 : OkF Tryz.prog Tryz.T 64 x_r03_compared := ⟨_, Tryz.func64, by kernel_rfl, by kernel_rfl⟩
theorem Tryz.okf135 : OkF Tryz.prog Tryz.T 65 x_r03_minus := ⟨_, Tryz.func65, by kernel_rfl, by kernel_rfl⟩
theorem Tryz.okf136 : OkF Tryz.prog Tryz.T 100 x_r03_divided := ⟨_, Tryz.func100, by kernel_rfl, by kernel_rfl⟩
theorem Tryz.okf137 : OkF Tryz.prog Tryz.T 135 x_internal_stringslite_CutPrefix := ⟨_, Tryz.func135, by kernel_rfl, by kernel_rfl⟩
theorem Tryz.okf147 : OkF Tryz.prog Tryz.T 101 x_r03_at := ⟨_, Tryz.func101, by kernel_rfl, by kernel_rfl⟩
theorem Tryz.okf148 : OkF Tryz.prog Tryz.T 133 x_r03_digit := ⟨_, Tryz.func133, by kernel_rfl, by kernel_rfl⟩
theorem Tryz.okf149 : OkF Tryz.prog Tryz.T 134 x_r03_small := ⟨_, Tryz.func134, by kernel_rfl, by kernel_rfl⟩
theorem Tryz.okf159 : OkF Tryz.prog Tryz.T 156 x_r03_digits := ⟨_, Tryz.func156, by kernel_rfl, by kernel_rfl⟩
theorem Tryz.okf179 : OkF Tryz.prog Tryz.T 67 x_r04_Number := ⟨_, Tryz.func67, by kernel_rfl, by kernel_rfl⟩
theorem Tryz.okf180 : OkF Tryz.prog Tryz.T 36 x_r04_Pick := ⟨_, Tryz.func36, by kernel_rfl, by kernel_rfl⟩
theorem Tryz.okf182 : OkF Tryz.prog Tryz.T 25 x_r04_Make := ⟨_, Tryz.func25, by kernel_rfl, by kernel_rfl⟩
theorem Tryz.okf185 : OkF Tryz.prog Tryz.T 58 x_r04_Of := ⟨_, Tryz.func58, by kernel_rfl, by kernel_rfl⟩
theorem Tryz.okf187 : OkF Tryz.prog Tryz.T 29 x_r04_Frac := ⟨_, Tryz.func29, by kernel_rfl, by kernel_rfl⟩
theorem Tryz.okf301 : OkF Tryz.prog Tryz.T 15 x_r12_Proj := ⟨_, Tryz.func15, by kernel_rfl, by kernel_rfl⟩
theorem Tryz.okf302 : OkF Tryz.prog Tryz.T 30 x_proj_Valid := ⟨_, Tryz.func30, by kernel_rfl, by kernel_rfl⟩
theorem Tryz.okf303 : OkF Tryz.prog Tryz.T 14 x_l12_lives := ⟨_, Tryz.func14, by kernel_rfl, by kernel_rfl⟩
theorem Tryz.okf304 : OkF Tryz.prog Tryz.T 12 x_l12_whole := ⟨_, Tryz.func12, by kernel_rfl, by kernel_rfl⟩
theorem Tryz.okf305 : OkF Tryz.prog Tryz.T 11 x_proj_Apply := ⟨_, Tryz.func11, by kernel_rfl, by kernel_rfl⟩
theorem Tryz.okf306 : OkF Tryz.prog Tryz.T 68 x_proj_det := ⟨_, Tryz.func68, by kernel_rfl, by kernel_rfl⟩
theorem Tryz.okf307 : OkF Tryz.prog Tryz.T 56 x_proj_of := ⟨_, Tryz.func56, by kernel_rfl, by kernel_rfl⟩
theorem Tryz.okf308 : OkF Tryz.prog Tryz.T 20 x_proj_Inverse := ⟨_, Tryz.func20, by kernel_rfl, by kernel_rfl⟩
theorem Tryz.okf309 : OkF Tryz.prog Tryz.T 9 x_proj_Four := ⟨_, Tryz.func9, by kernel_rfl, by kernel_rfl⟩
theorem Tryz.okf310 : OkF Tryz.prog Tryz.T 48 x_proj_row := ⟨_, Tryz.func48, by kernel_rfl, by kernel_rfl⟩
theorem Tryz.okf311 : OkF Tryz.prog Tryz.T 40 x_proj_adjoint := ⟨_, Tryz.func40, by kernel_rfl, by kernel_rfl⟩
theorem Tryz.okf312 : OkF Tryz.prog Tryz.T 82 x_proj_plus := ⟨_, Tryz.func82, by kernel_rfl, by kernel_rfl⟩
theorem Tryz.okf313 : OkF Tryz.prog Tryz.T 79 x_proj_times := ⟨_, Tryz.func79, by kernel_rfl, by kernel_rfl⟩
theorem Tryz.okf314 : OkF Tryz.prog Tryz.T 38 x_proj_normal := ⟨_, Tryz.func38, by kernel_rfl, by kernel_rfl⟩
theorem Tryz.okf315 : OkF Tryz.prog Tryz.T 37 x_proj_basis := ⟨_, Tryz.func37, by kernel_rfl, by kernel_rfl⟩
theorem Tryz.okf316 : OkF Tryz.prog Tryz.T 39 x_proj_product := ⟨_, Tryz.func39, by kernel_rfl, by kernel_rfl⟩
theorem Tryz.okf317 : OkF Tryz.prog Tryz.T 89 x_proj_row_1 := ⟨_, Tryz.func89, by kernel_rfl, by kernel_rfl⟩
theorem Tryz.okf318 : OkF Tryz.prog Tryz.T 83 x_proj_adjoint_1 := ⟨_, Tryz.func83, by kernel_rfl, by kernel_rfl⟩
theorem Tryz.okf319 : OkF Tryz.prog Tryz.T 84 x_proj_minus := ⟨_, Tryz.func84, by kernel_rfl, by kernel_rfl⟩
theorem Tryz.okf320 : OkF Tryz.prog Tryz.T 78 x_proj_basis_1 := ⟨_, Tryz.func78, by kernel_rfl, by kernel_rfl⟩
theorem Tryz.okf325 : OkF Tryz.prog Tryz.T 6 x_l12_ProjComposes := ⟨_, Tryz.func6, by kernel_rfl, by kernel_rfl⟩
theorem Tryz.okf326 : OkF Tryz.prog Tryz.T 7 x_l12_ProjBack := ⟨_, Tryz.func7, by kernel_rfl, by kernel_rfl⟩
theorem Tryz.okf332 : OkF Tryz.prog Tryz.T 18 x_proj_Normal := ⟨_, Tryz.func18, by kernel_rfl, by kernel_rfl⟩
theorem Tryz.okf335 : OkF Tryz.prog Tryz.T 22 x_proj_Compose := ⟨_, Tryz.func22, by kernel_rfl, by kernel_rfl⟩
theorem Tryz.okf342 : OkF Tryz.prog Tryz.T 32 x_l12_of := ⟨_, Tryz.func32, by kernel_rfl, by kernel_rfl⟩
theorem Tryz.allc : AllCal Tryz.prog Tryz.keyL := ⟨Tryz.okc8, Tryz.okc9, Tryz.okc11, Tryz.okc16, Tryz.okc17, Tryz.okc18, Tryz.okc19, Tryz.okc20, Tryz.okc21, Tryz.okc22, Tryz.okc23, Tryz.okc24, Tryz.okc29, Tryz.okc30, Tryz.okc31, Tryz.okc33, Tryz.okc34, Tryz.okc35, Tryz.okc36, Tryz.okc37, Tryz.okc38, Tryz.okc39, Tryz.okc40, Tryz.okc41, Tryz.okc42, Tryz.okc43, Tryz.okc44, Tryz.okc48, Tryz.okc49, Tryz.okc50, Tryz.okc51, Tryz.okc55, Tryz.okc56, Tryz.okc57, Tryz.okc58, Tryz.okc59, Tryz.okc60, Tryz.okc61, Tryz.okc62, Tryz.okc63, Tryz.okc64, Tryz.okc65, Tryz.okc67, Tryz.okc76, Tryz.okc77, Tryz.okc78, Tryz.okc79, Tryz.okc80, Tryz.okc85, Tryz.okc107, Tryz.okc110, Tryz.okc114, Tryz.okc118, Tryz.okc119, Tryz.okc120, Tryz.okc123, Tryz.okc125, Tryz.okc127, Tryz.okc129, Tryz.okc130, Tryz.okc131, Tryz.okc132, Tryz.okc133, Tryz.okc134, Tryz.okc135, Tryz.okc136, Tryz.okc137, Tryz.okc147, Tryz.okc148, Tryz.okc149, Tryz.okc159, Tryz.okc179, Tryz.okc180, Tryz.okc182, Tryz.okc185, Tryz.okc187, Tryz.okc301, Tryz.okc302, Tryz.okc303, Tryz.okc304, Tryz.okc305, Tryz.okc306, Tryz.okc307, Tryz.okc308, Tryz.okc309, Tryz.okc310, Tryz.okc311, Tryz.okc312, Tryz.okc313, Tryz.okc314, Tryz.okc315, Tryz.okc316, Tryz.okc317, Tryz.okc318, Tryz.okc319, Tryz.okc320, Tryz.okc325, Tryz.okc326, Tryz.okc332, Tryz.okc335, Tryz.okc342, True.intro⟩
theorem Tryz.allf : AllOk Tryz.prog Tryz.T progL Tryz.keyL := ⟨Tryz.okf8, Tryz.okf9, Tryz.okf11, Tryz.okf16, Tryz.okf17, Tryz.okf18, Tryz.okf19, Tryz.okf20, Tryz.okf21, Tryz.okf22, Tryz.okf23, Tryz.okf24, Tryz.okf29, Tryz.okf30, Tryz.okf31, Tryz.okf34, Tryz.okf35, Tryz.okf36, Tryz.okf37, Tryz.okf38, Tryz.okf39, Tryz.okf40, Tryz.okf41, Tryz.okf42, Tryz.okf43, Tryz.okf44, Tryz.okf48, Tryz.okf49, Tryz.okf55, Tryz.okf56, Tryz.okf57, Tryz.okf58, Tryz.okf59, Tryz.okf60, Tryz.okf61, Tryz.okf62, Tryz.okf63, Tryz.okf64, Tryz.okf65, Tryz.okf67, Tryz.okf76, Tryz.okf77, Tryz.okf78, Tryz.okf79, Tryz.okf80, Tryz.okf85, Tryz.okf107, Tryz.okf110, Tryz.okf114, Tryz.okf118, Tryz.okf119, Tryz.okf120, Tryz.okf123, Tryz.okf125, Tryz.okf127, Tryz.okf129, Tryz.okf132, Tryz.okf133, Tryz.okf134, Tryz.okf135, Tryz.okf136, Tryz.okf137, Tryz.okf147, Tryz.okf148, Tryz.okf149, Tryz.okf159, Tryz.okf179, Tryz.okf180, Tryz.okf182, Tryz.okf185, Tryz.okf187, Tryz.okf301, Tryz.okf302, Tryz.okf303, Tryz.okf304, Tryz.okf305, Tryz.okf306, Tryz.okf307, Tryz.okf308, Tryz.okf309, Tryz.okf310, Tryz.okf311, Tryz.okf312, Tryz.okf313, Tryz.okf314, Tryz.okf315, Tryz.okf316, Tryz.okf317, Tryz.okf318, Tryz.okf319, Tryz.okf320, Tryz.okf325, Tryz.okf326, Tryz.okf332, Tryz.okf335, Tryz.okf342, True.intro⟩
theorem Tryz.libok : LibOk Tryz.prog Tryz.lren (fun f => (Tryz.keyL[f]?).join) Tryz.T 4 where
 l105 := Tryz.l105
 l171 := Tryz.l171
 lX := Tryz.lX
 gname := by kernel_rfl
 gkey := rfl
 k50 := rfl
 k51 := rfl
 o130 := fun g h => ⟨Tryz.l160, by kernel_rfl, (Option.some.inj h).symm⟩
 o131 := fun g h => ⟨Tryz.l172, (Option.some.inj h).symm⟩
 o222 := fun g h => by have h : (none : Option FuncId) = some g := h; cases h
theorem Tryz.mixed : Tryz.prog.follows .mixedOrders = true := by kernel_rfl
theorem Tryz.progok1 : ProgOk Tryz.prog (fun f => (Tryz.keyL[f]?).join) Tryz.T E1.prog := zmD Tryz.mixed Tryz.allc Tryz.allf Tryz.libok
theorem Tryz.gk0 : ∀ g n, Tryz.T.gkey g = some n → n ≤ 4 := fun g n h => by
 have h : (if g = 4 then some 0 else none) = some n := h
 split at h
 ·cases h; decide
 ·cases h
theorem Tryz.progok : ProgOk Tryz.prog (fun f => (Tryz.keyL[f]?).join) Tryz.T E0.prog := zmC Tryz.mixed Tryz.allc Tryz.allf Tryz.libok fun {g} hk => by
 obtain rfl : g = 77 := (Option.some.inj hk).symm
 exact fun {_ _ _ _ _ _ _ _} e TO RL S => zmT (pre := Tryz.strPre) (tail := Tryz.strTail) Tryz.progok1 KE1 Tryz.gk0 (G := 4) rfl Tryz.func77 rfl (by kernel_rfl) rfl rfl (fun neg ps h1 h2 h3 b1 o1 b3 o3 c w h4 h5 h6 h7 tm h8 h9 h10 => Tryz.str_tail neg ps h1 h2 h3 b1 o1 b3 o3 c w h4 h5 h6 h7 tm h8 h9 h10) e TO RL S
end Go.Proofs
namespace Go.Eng
open Go.RowKit
theorem tabIs_mem {P : Program} {W : World} {name : String} {k : IntKind} {zs : List Int} {g : Nat} {t e : TypeId} {n : Nat}
  (hg : P.globalNamed name = some g) (hty : (P.globals[g]?).map (·.type) = some t) (ht : P.underlying t = some (.array n e)) (he : P.underlying e = some (.int k)) (hce : P.cellsOf e = 1) (hct : P.cellsOf t = n) :
  ∀ {laid : List (String × DataW Unit)} {ps : List MemPlace}, DataW.LaidVars P W laid ps → (name, Lib.tabData k zs) ∈ laid → Lib.TabIs P W name k zs
 | [], _, _, hm => by cases hm
 | x :: laid, ps, h, hm => by
  obtain ⟨g', t', cs, fuel, p, q, hg', ht', hvar, hd, h2, h3⟩ := h
  rcases List.mem_cons.1 hm with rfl | hm
  ·obtain rfl := Option.some.inj (hg.symm.trans hg')
   obtain rfl := Option.some.inj (hty.symm.trans ht')
   unfold Lib.TabIs
   rw [hvar, ← Lib.cells_of_tab ht he hce hct hd]
  ·exact tabIs_mem hg hty ht he hce hct (by first | exact h2 | exact h3 | exact h3.1 | exact h2.1) hm
def IsRow (k : IntKind) (w : World) (a : Option Addr) (len cap : Nat) (zs : List Int) : Prop :=
 (a = none ∧ len = 0 ∧ cap = 0 ∧ zs = []) ∨
 ∃ x, a = some x ∧ len ≤ cap ∧ cap ≤ maxLen ∧ zs.length = cap ∧ (∀ i, i < zs.length → w.cell? (x.add i) = some (.int k (zs.getD i 0))) ∧ ∀ n ∈ zs, (Lit.int k n).wf = true
def hpA (bs : List (List AV)) : Hp := ⟨fun n => if n ≤ 4 then (globG n).map fun c => ⟨c, false, 0⟩ else (bs[n - 5]?).map fun c => ⟨c, false, 0⟩, bs.length + 5⟩
def locA (gs : Nat → Option At) (ats : List At) : Loc := fun n => if n ≤ 4 then gs n else ats[n - 5]?
def InW (c : List AV) (a : At) (W : World) : Prop :=
 a.b < W.heap.size ∧ a.w = false ∧ c.length ≤ a.n ∧ ∀ i (h : i < c.length), c[i].scal = true ∧ ∃ v, W.cell? ⟨a.b, a.o + i, none⟩ = some v ∧ ∀ key l, Rel key l c[i] v
def GlobIn (key : Nat → Option FuncId) (W : World) (n : Nat) (a : At) : Prop :=
 a.o = 0 ∧ ∃ c cs t fz, globG n = some c ∧ W.heap[a.b]? = some (.cells cs t fz) ∧ c.length ≤ a.n ∧ RelL key (fun _ => none) c cs.toList
theorem zh6 : ∀ {n : Nat} {c : List AV}, globG n = some c → c.all AV.scal = true
 | 0, c, h => by cases h; rfl
 | 1, c, h => by cases h; rfl
 | 2, c, h => by cases h; rfl
 | 3, c, h => by cases h; rfl
 | 4, c, h => by cases h; rfl
 | n + 5, c, h => by cases h
theorem zg6 : ∀ {n : Nat} {c : List AV}, globG n = some c → (c.map cst0).all PV.scal = true
 | 0, c, h => by cases h; decide
 | 1, c, h => by cases h; decide
 | 2, c, h => by cases h; decide
 | 3, c, h => by cases h; rfl
 | 4, c, h => by cases h; rfl
 | n + 5, c, h => by cases h
theorem zlO : ∀ {n : Nat} {c : List AV}, globG n = some c → n ≤ 4
 | 0, c, h => by omega
 | 1, c, h => by omega
 | 2, c, h => by omega
 | 3, c, h => by omega
 | 4, c, h => by omega
 | n + 5, c, h => by cases h
theorem zsX {P : Program} {key : Nat → Option FuncId} {F : Nat} {W : World} {gs : Nat → Option At} (hgs : ∀ n a, n ≤ 4 → gs n = some a → GlobIn key W n a)
  {bs : List (List AV)} {ats : List At} (hl : ats.length = bs.length) (hin : ∀ (n : Nat) c a, bs[n]? = some c → ats[n]? = some a → InW c a W) : Sim key F (locA gs ats) (hpA bs) W := by
 have hlt : ∀ n a, n ≤ 4 → gs n = some a → a.b < W.heap.size := fun n a hn hg => by
  obtain ⟨_, c, cs, t, fz, _, h2, _⟩ := hgs n a hn hg
  rcases Nat.lt_or_ge a.b W.heap.size with q | q
  ·exact q
  ·rw [Array.getElem?_eq_none q] at h2; cases h2
 have hout : ∀ n, bs.length ≤ n → ats[n]? = none := fun n hn => List.getElem?_eq_none (by omega)
 have norw : ∀ n blk, (hpA bs).m n = some blk → blk.rw = false := fun n blk e => by
  simp only [hpA] at e
  split at e <;> (simp only [Option.map_eq_some_iff] at e; obtain ⟨c, _, rfl⟩ := e; rfl)
 refine ⟨fun n blk a e1 e2 => ?_, fun n blk a n' blk' a' e1 e2 e3 => ?_, fun n a e => ?_, fun n a e => ?_, fun n hn => ?_⟩
 ·by_cases hn : n ≤ 4
  ·simp only [hpA, if_pos hn, Option.map_eq_some_iff] at e1
   simp only [locA, if_pos hn] at e2
   obtain ⟨c, c1, rfl⟩ := e1
   obtain ⟨g1, c', cs, t, fz, g2, g3, g4, g5⟩ := hgs n a hn e2
   obtain rfl := Option.some.inj (c1.symm.trans g2)
   have hsz : c.length = cs.size := by simpa using g5.1
   refine ⟨hlt n a hn e2, g4, fun i hi => ?_, fun i hi => ?_, fun q => (by cases q), fun _ => ⟨rfl, g1, cs, t, fz, g3, hsz.symm⟩⟩
   ·have hi : i < c.length := hi
    have hi' : i < cs.toList.length := by simp; omega
    refine ⟨cs.toList[i], ?_, (g5.2 i hi hi').mono fun n a q => by cases q⟩
    have hb : W.heap[a.b]? = some (.cells cs t fz) := g3
    simp only [World.cell?, hb, g1, Nat.zero_add]
    rw [Array.getElem_toList, Array.getElem?_eq_getElem (by omega)]; rfl
   ·have := zh6 c1
    rw [List.all_eq_true] at this
    exact this _ (List.getElem_mem _)
  ·simp only [hpA, if_neg hn, Option.map_eq_some_iff] at e1
   simp only [locA, if_neg hn] at e2
   obtain ⟨c, c1, rfl⟩ := e1
   obtain ⟨q1, q2, q3, q4⟩ := hin _ c a c1 e2
   exact ⟨q1, q3, fun i hi => by obtain ⟨_, v, v1, v2⟩ := q4 i hi; exact ⟨v, v1, v2 key _⟩, fun i hi => (q4 i hi).1, fun q => (by cases q), fun q => by rw [q2] at q; cases q⟩
 ·rw [norw n blk e1] at e3; cases e3
 ·by_cases hn : n ≤ 4
  ·simp only [locA, if_pos hn] at e
   exact hlt n a hn e
  ·simp only [locA, if_neg hn] at e
   have hb : n - 5 < bs.length := by
    rcases Nat.lt_or_ge (n - 5) bs.length with q | q
    ·exact q
    ·rw [hout _ q] at e; cases e
   exact (hin _ _ a (List.getElem?_eq_getElem hb) e).1
 ·left
  show n < bs.length + 5
  by_cases hn : n ≤ 4
  ·omega
  ·simp only [locA, if_neg hn] at e
   rcases Nat.lt_or_ge (n - 5) bs.length with q | q
   ·omega
   ·rw [hout _ q] at e; cases e
 ·have hn : bs.length + 5 ≤ n := hn
  simp only [hpA]
  rw [if_neg (by omega), List.getElem?_eq_none (by omega)]; rfl
theorem PInv.startG {bs : List (List AV)} (w : (hpA bs).wf) : PInv globG (fun _ => False) [] [] (hpA bs) := by
 refine ⟨rfl, fun i j m q => by simp at q, fun m q => by simp at q, w, fun n m q => by simp at q, fun n b m q => by simp at q, fun m d => d.elim, fun g l q => ?_⟩
 refine ⟨⟨l, false, 0⟩, ?_, ⟨rfl, zg6 q⟩, fun d => ?_⟩
 ·simp only [hpA, if_pos (zlO q), q, Option.map_some]
 ·rcases d with d | d
  ·exact d
  ·exact ziq _ d
theorem glob_tab {P : Program} {key : Nat → Option FuncId} {W : World} {G : Nat} (hg : P.globalNamed "internal/strconv.uint64pow10" = some G) (ht : Lib.TabIs P W "internal/strconv.uint64pow10" .u64 Lib.pow10Tab) : GlobIn key W 0 ⟨G, 0, 20, true⟩ := by
 have hb : ∃ cs t fz, W.heap[G]? = some (.cells cs t fz) ∧ cs = (Lib.pow10Tab.map fun z => Value.int .u64 z).toArray := by
  unfold Lib.TabIs World.var? at ht
  rw [hg] at ht
  simp only [Option.bind_some] at ht
  split at ht
  ·rename_i cs t fz hh
   cases ht
   exact ⟨_, t, fz, hh, rfl⟩
  ·cases ht
 obtain ⟨cs, t, fz, hh, rfl⟩ := hb
 refine ⟨rfl, powT, _, t, fz, rfl, hh, Nat.le_refl _, by simp [Lib.pow10Tab, powT], fun i h1 h2 => ?_⟩
 have hpl : powT.length = 20 := rfl
 have hi' : i < 20 := by rw [← hpl]; exact h1
 simp only [powT, List.getElem_map, List.getElem_range, Lib.pow10Tab]
 exact .i _ _
theorem law_calls {P : Program} {key : Nat → Option FuncId} {T : Tab} (K : ProgOk P key T E0.prog) (hTf : ∀ f k, T.fkey f = some k → key k = some f) {W : World} {gs : Nat → Option At} (hgs : ∀ n a, n ≤ 4 → gs n = some a → GlobIn key W n a)
  (hT : ∀ g n, T.gkey g = some n → n ≤ 4 ∧ ∃ m, gs n = some ⟨g, 0, m, true⟩)
  {bs : List (List AV)} {ats : List At} (hl : ats.length = bs.length) (hin : ∀ (n : Nat) c a, bs[n]? = some c → ats[n]? = some a → InW c a W)
  {k g : Nat} (hk : key k = some g) (hpure : E0.pure k = true) {ps : List PV} (hfz : fzL (fz [] fzD) ps = some (ps, [])) (hpf : pf E0 k ps = some (.b true))
  {avs : List AV} {vs : Array Value} (hV : VL (hpA bs) (fun _ => False) [] ps avs) (hR : RelL key (locA gs ats) avs vs.toList) :
  Calls P g vs W fun e w' => e = .returned (.bool true) ∧ Below W.heap.size W w' := by
 have hc : pcl E0 k ps [] = some (.b true, roM [] []) := zgK hpure hfz hpf
 obtain ⟨kk, hev⟩ := zef hc
 have hw : (hpA bs).wf := (zsX (P := P) (key := key) (F := 0) hgs hl hin).wf
 have I : PInv globG (fun _ => False) [] [] (hpA bs) := PInv.startG hw
 obtain ⟨a, h', r', q1, q2, q3, q4⟩ := zgP KE0 kk _ _ _ _ _ _ _ _ _ hev I (VL.dd hV)
 have ha : a = .b true := by cases q4; rfl
 subst ha
 have S := zsX (P := P) (key := key) (F := h'.next) hgs hl hin
 have TO : TabOk key T (locA gs ats) := by
  refine ⟨fun f k e => ?_, fun g n e => ?_⟩
  ·exact hTf f k e
  ·obtain ⟨h4, m, hm⟩ := hT g n e
   exact ⟨m, by simp only [locA, if_pos h4]; exact hm⟩
 refine (zb8 K kk h'.next k g avs vs _ h' _ _ W q1 hk (Nat.le_refl _) TO hR S).mono ?_
 rintro e w' ⟨l', val, rfl, E, S', rv⟩
 cases rv
 refine ⟨rfl, E.os, E.tape, E.output, E.size, fun b hb => E.frame b hb fun m blk a e1 e2 => ?_⟩
 exfalso
 simp only [hpA] at e1
 split at e1 <;> (simp only [Option.map_eq_some_iff] at e1; obtain ⟨c, c1, rfl⟩ := e1; cases e2)
theorem arg_row {k : IntKind} {W : World} (h0 : 0 < W.heap.size) {a : Option Addr} {len cap : Nat} {zs : List Int} (h : IsRow k W a len cap zs) (n : Nat) : ∃ (c : List AV) (at_ : At) (av : AV), InW c at_ W ∧
  (∀ key (l : Loc), l n = some at_ → Rel key l av (.slice a len cap)) ∧ (∀ (h : Hp) (D : Nat → Prop), h.m n = some ⟨c, false, 0⟩ → ¬ D n → V h D [] (.lst ((zs.take len).map fun z => .i k z)) av) := by
 have nilIn : InW [] ⟨0, 0, 0, false⟩ W := ⟨h0, rfl, Nat.le_refl _, fun i hi => by simp at hi⟩
 rcases h with ⟨rfl, rfl, rfl, rfl⟩ | ⟨x, rfl, hl, hm, hz, hcell, hwz⟩
 ·exact ⟨[], ⟨0, 0, 0, false⟩, .sn, nilIn, fun key l _ => .sn, fun h D _ _ => .lsn⟩
 ·by_cases hlen : len = 0
  ·subst hlen
   exact ⟨[], ⟨0, 0, 0, false⟩, .e0, nilIn, fun key l _ => .e0 _ _, fun h D _ _ => .le0⟩
  ·obtain ⟨b, off, spot⟩ := x
   have hc := hcell 0 (by omega)
   have hspot : spot = none := by simpa [Addr.add] using World.cell?_spot hc
   subst hspot
   have hlt : b < W.heap.size := by
    rcases Nat.lt_or_ge b W.heap.size with q | q
    ·exact q
    ·rw [zb4] at hc
     simp [World.cell?, Array.getElem?_eq_none q] at hc
   have hget : ∀ i (hi : i < ((zs.take len).map fun z => AV.i k z).length), ((zs.take len).map fun z => AV.i k z)[i] = .i k (zs.getD i 0) := fun i hi => by
    have hi' : i < zs.length := by simp at hi; omega
    simp only [List.getElem_map, List.getElem_take, List.getD]
    rw [List.getElem?_eq_getElem hi']; rfl
   refine ⟨(zs.take len).map fun z => .i k z, ⟨b, off, cap, false⟩, .sl n 0 len cap 1, ⟨hlt, rfl, by simp; omega, fun i hi => ?_⟩, fun key l hn => ?_, fun h D hb hD => ?_⟩
   ·rw [hget i hi]
    have hi' : i < zs.length := by simp at hi; omega
    have := hcell i hi'
    rw [zb4] at this
    exact ⟨rfl, _, this, fun key l => .i _ _⟩
   ·have := Rel.sl (key := key) (off := 0) (len := len) (cap := cap) (cap' := cap) (z := 1) hn (Nat.le_refl _) (by show 0 + cap * 1 ≤ cap; omega) hl
    exact this
   ·have hfl : flat ((zs.take len).map fun z => PV.i k z) = (zs.take len).map fun z => PV.i k z := by
     generalize zs.take len = ys
     induction ys with
     | nil => rfl
     | cons y ys ih => rw [List.map_cons]; show [PV.i k y] ++ flat _ = _; rw [ih]; rfl
    have hll : ((zs.take len).map fun z => PV.i k z).length = len := by simp; omega
    have := V.lst (h := h) (D := D) (r := []) (xs := (zs.take len).map fun z => PV.i k z) (m := n) (off := 0) (cap := cap) (z := 1) (fun i => .i k (zs.getD i 0)) hb hD (by rw [hfl, List.all_eq_true]; intro x hx; obtain ⟨y, _, rfl⟩ := List.mem_map.1 hx; rfl) (by decide) (fun x hx => by
     obtain ⟨y, _, rfl⟩ := List.mem_map.1 hx; rfl) (by rw [hll]; exact hl) (fun i hi => by
     rw [hfl] at hi
     have hi2 : i < ((zs.take len).map fun z => AV.i k z).length := by simpa using hi
     rw [Nat.zero_add, List.getElem?_eq_getElem hi2, hget i hi2]) (fun i hi => by
     have hi1 : i < ((zs.take len).map fun z => PV.i k z).length := by rw [hfl] at hi; exact hi
     have e : (flat ((zs.take len).map fun z => PV.i k z))[i] = .i k (zs.getD i 0) := by
      simp only [hfl, List.getElem_map, List.getElem_take, List.getD]
      rw [List.getElem?_eq_getElem (by simp at hi1; omega)]; rfl
     rw [e]
     exact .i _ _)
    rw [hll] at this
    exact this
theorem row_heap {P : Program} {W : World} {G : Nat} (hg : P.globalNamed "internal/strconv.uint64pow10" = some G) (ht : Lib.TabIs P W "internal/strconv.uint64pow10" .u64 Lib.pow10Tab) : 0 < W.heap.size := by
 unfold Lib.TabIs World.var? at ht
 rw [hg] at ht
 simp only [Option.bind_some] at ht
 split at ht
 ·rename_i cs t fz hh
  rcases Nat.eq_zero_or_pos W.heap.size with q | q
  ·rw [Array.getElem?_eq_none (by omega)] at hh; cases hh
  ·exact q
 ·cases ht
theorem ints_row {W : World} {a : Option Addr} {len cap : Nat} {zs : List Int} (h : IsRow .i64 W a len cap zs) : Ints (zs.take len) := by
 rcases h with ⟨rfl, rfl, rfl, rfl⟩ | ⟨x, rfl, hl, hm, hz, hcell, hwz⟩
 ·exact ⟨by simp, fun n hn => by simp at hn⟩
 ·refine ⟨?_, fun n hn => ?_⟩
  ·have : maxLen ≤ 9223372036854775807 := by decide
   simp; omega
  ·have := bounds_i64 (hwz n (List.mem_of_mem_take hn))
   exact this
end Go.Eng
namespace Go.Eng
theorem ziU {n K : Nat} (hn : n = 1229) (hK : K = 16384) : 10000 ^ n ≤ 2 ^ K := by
 obtain ⟨m, hm⟩ : ∃ m, m = 83 := ⟨_, rfl⟩
 have e : (10000 : Nat) ^ n = (10 ^ 59) ^ m * 10 ^ 19 := by
  rw [show (10000 : Nat) = 10 ^ 4 from rfl, ← Nat.pow_mul, ← Nat.pow_mul, ← Nat.pow_add]
  congr 1; omega
 have h1 : (10 : Nat) ^ 59 ≤ 2 ^ 196 := by decide
 have h2 : (10 : Nat) ^ 19 ≤ 2 ^ 64 := by decide
 have h3 : ((10 : Nat) ^ 59) ^ m ≤ (2 ^ 196) ^ m := Nat.pow_le_pow_left h1 m
 have h4 : (2 ^ 196) ^ m * 2 ^ 64 = 2 ^ (196 * m + 64) := by rw [← Nat.pow_mul, ← Nat.pow_add]
 rw [e]
 refine Nat.le_trans (Nat.mul_le_mul h3 h2) ?_
 rw [h4]
 exact Nat.pow_le_pow_right (by decide) (by omega)
def inR (v : Nat) : Prop := v < 2 ^ 16384
theorem zjM (v : Nat) : (tlen v < 1230 ∨ v < 2 ^ 16384) ↔ inR v := by
 obtain ⟨n, hn⟩ : ∃ n, n = 1229 := ⟨_, rfl⟩
 have hb := ziU (K := 16384) hn rfl
 unfold inR
 generalize (2 : Nat) ^ 16384 = q at *
 constructor
 ·rintro (h | h)
  ·have h2 : v < 10000 ^ n := zaY.1 (by omega)
   exact Nat.lt_of_lt_of_le h2 hb
  ·exact h
 ·exact .inr
theorem zaR (v : Nat) : wlen v ≤ 512 ↔ inR v := by
 obtain ⟨n, hn⟩ : ∃ n, n = 512 := ⟨_, rfl⟩
 rw [← hn, zaO]
 unfold inR
 have : (4294967296 : Nat) ^ n = 2 ^ 16384 := by
  rw [show (4294967296 : Nat) = 2 ^ 32 from rfl, ← Nat.pow_mul]
  congr 1; omega
 rw [this]
end Go.Eng
namespace Go.Eng
end Go.Eng
namespace Go.Eng
noncomputable instance inRdec (v : Nat) : Decidable (inR v) := Classical.propDecidable _
noncomputable def parseT (s : List UInt8) : Int × Int :=
 let neg : Bool := s.head? == some 45
 let ds := if neg then s.drop 1 else s
 if 5000 < s.length then (0, 4)
 else if ds = [] ∨ (ds.head? = some 48 ∧ (neg = true ∨ 1 < ds.length)) ∨ ¬ ds.all isDig = true then (0, 2)
 else if inR (tv ds) then (sgn neg (tv ds), 0) else (0, 4)
theorem zjP {l : List UInt8} : (l = [] ∨ ∃ c t, l = c :: t) := by cases l with
 | nil => exact .inl rfl
 | cons c t => exact .inr ⟨c, t, rfl⟩
theorem zdf (s : List UInt8) : (5000 < s.length ∧ parseT s = (0, 4)) ∨ (s.length ≤ 5000 ∧ ∃ neg ds, ((neg = true ∧ s = 45 :: ds) ∨ (neg = false ∧ s = ds ∧ ds.head? ≠ some 45)) ∧
  ((ds = [] ∨ (ds.head? = some 48 ∧ (neg = true ∨ 1 < ds.length)) ∨ ¬ ds.all isDig = true) ∧ parseT s = (0, 2) ∨
   ds ≠ [] ∧ (ds.head? = some 48 → neg = false ∧ ds.length = 1) ∧ ds.all isDig = true ∧ (inR (tv ds) ∧ parseT s = (sgn neg (tv ds), 0) ∨ ¬ inR (tv ds) ∧ parseT s = (0, 4)))) := by
 by_cases hl : 5000 < s.length
 ·exact .inl ⟨hl, by unfold parseT; simp only [hl, if_true]⟩
 ·right
  refine ⟨by omega, s.head? == some 45, if (s.head? == some 45) then s.drop 1 else s, ?_, ?_⟩
  ·by_cases h : s.head? = some 45
   ·left
    rw [h]
    refine ⟨rfl, ?_⟩
    cases s with
    | nil => cases h
    | cons c t => simp only [List.head?_cons, Option.some.injEq] at h; subst h; rfl
   ·right
    have : (s.head? == some 45) = false := by simpa using h
    rw [this]
    exact ⟨rfl, by simp, by simpa using h⟩
  ·have e : parseT s = (if (if (s.head? == some 45) then s.drop 1 else s) = [] ∨ ((if (s.head? == some 45) then s.drop 1 else s).head? = some 48 ∧ ((s.head? == some 45) = true ∨ 1 < (if (s.head? == some 45) then s.drop 1 else s).length)) ∨ ¬ (if (s.head? == some 45) then s.drop 1 else s).all isDig = true then (0, 2)
     else if inR (tv (if (s.head? == some 45) then s.drop 1 else s)) then (sgn (s.head? == some 45) (tv (if (s.head? == some 45) then s.drop 1 else s)), 0) else (0, 4)) := by
    unfold parseT
    simp only [hl, if_false]
   rw [e]
   generalize (if (s.head? == some 45) = true then s.drop 1 else s) = ds
   generalize (s.head? == some 45) = neg
   by_cases h1 : ds = [] ∨ (ds.head? = some 48 ∧ (neg = true ∨ 1 < ds.length)) ∨ ¬ ds.all isDig = true
   ·exact .inl ⟨h1, by rw [if_pos h1]⟩
   ·right
    rw [if_neg h1]
    have n1 : ds ≠ [] := fun q => h1 (.inl q)
    refine ⟨n1, fun q => ?_, ?_, ?_⟩
    ·have h2 : ¬ (neg = true ∨ 1 < ds.length) := fun r => h1 (.inr (.inl ⟨q, r⟩))
     have h3 : ds.length ≠ 0 := fun r => n1 (List.eq_nil_of_length_eq_zero r)
     refine ⟨?_, ?_⟩
     ·cases neg
      ·rfl
      ·exact (h2 (.inl rfl)).elim
     ·have : ¬ 1 < ds.length := fun r => h2 (.inr r)
      omega
    ·by_cases q : ds.all isDig = true
     ·exact q
     ·exact (h1 (.inr (.inr q))).elim
    ·by_cases h3 : inR (tv ds)
     ·exact .inl ⟨h3, by rw [if_pos h3]⟩
     ·exact .inr ⟨h3, by rw [if_neg h3]⟩
end Go.Eng
namespace Go.Eng
theorem zfO (s : List UInt8) (hs : s.length < 4611686018427387904) : pf E0 85 [.s s, .s [45]] = some (.b (s.head? == some 45)) := by
 refine zab (xf := x_internal_stringslite_HasPrefix) rfl (by simp [x_internal_stringslite_HasPrefix]) ?_
 simp only [x_internal_stringslite_HasPrefix]
 cases s with
 | nil =>
  have q1 : (((0 : Nat) : Int) ≥ 1) = False := by simp
  simp (disch := omega) only [go_sem, seval, wqq, Int.natCast_one, q1, Int.natCast_zero, Int.reduceLE, ge_iff_le]
  rfl
 | cons c t =>
  have q1 : (((t.length + 1 : Nat) : Int) ≥ 1) = True := by simp; omega
  have hc : slStrP (c :: t) none (some (.i .i64 1)) = some (.s [c]) := by
   simp only [slStrP, optP, show (PV.i IntKind.i64 1) = .i .i64 ((1 : Nat) : Int) from rfl, za4]
   rw [if_pos ⟨by omega, by simp⟩]; rfl
  simp (disch := omega) only [go_sem, seval, wqq, Int.natCast_one, q1, hc]
  congr 2
  by_cases h : c = 45
  ·subst h; rfl
  ·have : (some c == some (45 : UInt8)) = false := by simpa using h
   simp [h, this]
theorem zfM {neg : Bool} {s ds : List UInt8} (hs : s.length < 4611686018427387904) (h : (neg = true ∧ s = 45 :: ds) ∨ (neg = false ∧ s = ds ∧ ds.head? ≠ some 45)) : pf E0 129 [.s s, .s [45]] = some (.tu [.s ds, .b neg]) := by
 have inner : pf E0 137 [.s s, .s [45]] = some (.tu [.s ds, .b neg]) := by
  refine zab (xf := x_internal_stringslite_CutPrefix) rfl (by simp [x_internal_stringslite_CutPrefix]) ?_
  simp only [x_internal_stringslite_CutPrefix]
  have hp := zfO s hs
  rcases h with ⟨rfl, rfl⟩ | ⟨rfl, rfl, h45⟩
  ·have e : ((45 :: ds).head? == some (45 : UInt8)) = true := rfl
   rw [e] at hp
   have hc : slStrP (45 :: ds) (some (.i .i64 1)) none = some (.s ds) := by
    simp only [slStrP, optP, show (PV.i IntKind.i64 1) = .i .i64 ((1 : Nat) : Int) from rfl, za4]
    rw [if_pos ⟨by simp, Nat.le_refl _⟩]
    simp
   simp (disch := omega) only [go_sem, seval, wqq, hp, Int.natCast_one, hc]
  ·have e : (s.head? == some (45 : UInt8)) = false := by simpa using h45
   rw [e] at hp
   simp (disch := omega) only [go_sem, seval, wqq, hp]
 refine zab (xf := x_strings_CutPrefix) rfl (by simp [x_strings_CutPrefix]) ?_
 simp only [x_strings_CutPrefix]
 simp (disch := omega) only [go_sem, seval, wqq, inner]
set_option maxRecDepth 20000 in
theorem zky (ds : List UInt8) : ((((ds.reverse.dropWhile (([48, 49, 50, 51, 52, 53, 54, 55, 56, 57] : List UInt8).contains ·)).reverse).dropWhile (([48, 49, 50, 51, 52, 53, 54, 55, 56, 57] : List UInt8).contains ·)) = []) = (ds.all isDig = true) := by
 have hc : ∀ c : UInt8, ([48, 49, 50, 51, 52, 53, 54, 55, 56, 57] : List UInt8).contains c = isDig c := fun c => by
  have h : ∀ n : Fin 256, ([48, 49, 50, 51, 52, 53, 54, 55, 56, 57] : List UInt8).contains (UInt8.ofNat n.val) = isDig (UInt8.ofNat n.val) := by decide
  have h2 := h ⟨c.toNat, c.toNat_lt⟩
  simpa using h2
 simp only [hc]
 have aux : ∀ l : List UInt8, l.dropWhile isDig = [] ↔ l.all isDig = true := fun l => by
  induction l with
  | nil => simp
  | cons c l ih =>
   rw [List.dropWhile_cons, List.all_cons, Bool.and_eq_true]
   by_cases h : isDig c = true
   ·rw [if_pos h, ih]; simp [h]
   ·rw [if_neg h]; simp [h]
 apply propext
 rw [aux, List.all_reverse]
 constructor
 ·intro h
  by_cases hd : ds.all isDig = true
  ·exact hd
  ·exfalso
   have h1 : ds.reverse.dropWhile isDig ≠ [] := fun q => hd (by rw [← List.all_reverse]; exact (aux _).1 q)
   obtain ⟨c, t, he⟩ : ∃ c t, ds.reverse.dropWhile isDig = c :: t := by
    cases hq : ds.reverse.dropWhile isDig with
    | nil => exact (h1 hq).elim
    | cons c t => exact ⟨c, t, rfl⟩
   have h2 := List.head?_dropWhile_not isDig ds.reverse
   rw [he] at h h2
   simp only [List.head?_cons] at h2
   simp only [List.all_cons, Bool.and_eq_true] at h
   rw [h.1] at h2
   simp at h2
 ·intro hd
  have : ds.reverse.dropWhile isDig = [] := (aux _).2 (by rw [List.all_reverse]; exact hd)
  rw [this]; rfl
theorem zmW (ds : List UInt8) (h : ds.length ≤ 9223372036854775807) : ∃ t, (t = [] ↔ ds.all isDig = true) ∧ pf E0 130 [.s ds, .s [48, 49, 50, 51, 52, 53, 54, 55, 56, 57]] = some (.s t) := by
 refine ⟨_, by rw [← zky ds], zkd ?_ rfl⟩
 simp only [orcP, libP]
 rw [if_neg (by decide), if_pos ⟨trivial, h, by decide, by decide⟩]
 rfl
theorem zls {l : List UInt8} (h0 : l ≠ []) (h1 : l.length ≤ 18) (h2 : l.all isDig = true) : pf E0 131 [.s l] = some (.tu [.i .i64 (tv l : Nat), .inil]) := by
 refine zke ?_ rfl
 simp only [orcP, libP]
 rw [if_neg (by decide), if_pos ⟨trivial, h0, h1, h2⟩]
 rfl
theorem zoJ {v : Nat} (h : v < 4294967296) : PV.lst [(PV.i .u32 ((v : Nat) : Int))] = Dw 1 v := by
 have e : tab 1 (fun k => (PV.i .u32 ((dgt v k : Nat) : Int))) = [(PV.i .u32 ((dgt v 0 : Nat) : Int))] := rfl
 rw [Dw, e, ze4, Nat.mod_eq_of_lt h]
theorem zhL {v n : Nat} (h : v < 10 ^ n) : wlen v ≤ n := by
 rw [zaO]
 exact Nat.lt_of_lt_of_le h (Nat.pow_le_pow_left (by decide) n)
def wparse_R : XC := match x_wide_Parse.body with
 | .seq _ (.seq _ (.seq _ (.seq _ (.seq _ (.seq _ r))))) => r
 | _ => .skip
theorem zjn {F : PFin} {ds : List UInt8} (hl : ds.length ≤ 5000) (hd : ds.all isDig = true) {fr : PFr} {B : PB} {neg : Bool} (h2 : fr 2 = .p 0 0) (h4 : fr 4 = .s ds) (h5 : fr 5 = .b neg) (h6 : fr 6 = .nl)
  (cont : ∀ (fr' : PFr) (M' : PM), fr' 2 = .p 0 0 → fr' 5 = .b neg → (∀ M d, fz M (d + 1) (fr' 6) = some (D (tv ds), [])) → PM.blk M' 0 = some B → WK E0 F wparse_R [] fr' M') :
  WK E0 F (.loop x_wide_Parse_l1) [.block 0, .seq wparse_R] fr [some B] := by
 refine zas x_wide_Parse_l1.eq_1 (fun (x : Nat × List UInt8) fr M => x.2.length ≤ ds.length ∧ x.2.all isDig = true ∧ (x.1 = 0 ∨ x.2.length % 9 = 0) ∧ x.1 * 10 ^ x.2.length + tv x.2 = tv ds ∧ fr 2 = .p 0 0 ∧ fr 4 = .s x.2 ∧ fr 5 = .b neg ∧ (∀ M d, fz M (d + 1) (fr 6) = some (D x.1, [])) ∧ PM.blk M 0 = some B) (fun x => x.2.length) ?_ (0, ds) ⟨Nat.le_refl _, hd, .inl rfl, by simp, h2, h4, h5, fun M d => by rw [h6]; rfl, rfl⟩
 rintro ⟨m, rs⟩ fr M ⟨hrl, hrd, h9, hv, h2, h4, h5, h6, hb⟩ ih
 simp only at hrl hrd h9 hv h4 h6 ih
 cases rs with
 | nil =>
  have hm : m = tv ds := by simpa [tv] using hv
  subst hm
  simp (disch := omega) only [go_sem, seval, wqq, h4, Int.natCast_zero, Int.lt_irrefl, gt_iff_lt]
  exact cont _ _ (by simp only [go_sem, seval, h2]) (by simp only [go_sem, seval, h5]) (fun M d => by simp only [go_sem, seval]; exact h6 M d) hb
 | cons c t =>
  have htl : t.length < 5000 := by simp only [List.length_cons] at hrl; omega
  obtain ⟨n, hn⟩ : ∃ n, n = t.length % 9 + 1 := ⟨_, rfl⟩
  have hn9 : n ≤ 9 := by omega
  have hnl : n ≤ (c :: t).length := by simp; omega
  have q1 : (((t.length + 1 : Nat) : Int) > 0) = True := by simp
  have i1 : (((t.length + 1 : Nat) : Int) - 1) = ((t.length : Nat) : Int) := by omega
  have i2 : ((t.length : Int)).tmod 9 = ((t.length % 9 : Nat) : Int) := zcK t.length 9
  have i3 : ((t.length % 9 : Nat) : Int) + 1 = (n : Int) := by omega
  obtain ⟨a, ha⟩ : ∃ a, a = (c :: t).take n := ⟨_, rfl⟩
  obtain ⟨b, hbb⟩ : ∃ b, b = (c :: t).drop n := ⟨_, rfl⟩
  have hal : a.length = n := by rw [ha, List.length_take]; omega
  have hbl : b.length = (c :: t).length - n := by rw [hbb, List.length_drop]
  have hab : c :: t = a ++ b := by rw [ha, hbb, List.take_append_drop]
  have had : a.all isDig = true := by rw [hab, List.all_append, Bool.and_eq_true] at hrd; exact hrd.1
  have hbd : b.all isDig = true := by rw [hab, List.all_append, Bool.and_eq_true] at hrd; exact hrd.2
  have hc1 : slStrP (c :: t) none (some (.i .i64 (n : Int))) = some (.s a) := by
   simp only [slStrP, optP, za4]
   rw [if_pos ⟨by omega, hnl⟩, List.drop_zero, ha]
  have hc2 : slStrP (c :: t) (some (.i .i64 (n : Int))) none = some (.s b) := by
   simp only [slStrP, optP, za4]
   rw [if_pos ⟨hnl, Nat.le_refl _⟩, List.take_length, hbb]
  have hat := zls (l := a) (by intro q; rw [q] at hal; simp at hal; omega) (by omega) had
  have hav : tv a < 1000000000 := Nat.lt_of_lt_of_le (zkz a had) (by rw [hal]; exact Nat.pow_le_pow_right (by decide) hn9)
  have hvd := zkz ds hd
  have hmv : m < 10 ^ ds.length := by
   have : m * 1 ≤ m * 10 ^ (c :: t).length := Nat.mul_le_mul_left _ (Nat.pow_pos (by decide))
   omega
  have hml := zhL hmv
  have hmlt := zag m
  have h59 : pf E0 59 [D m, Dw 1 1000000000] = some (Dw (wlen m + 1) (m * 1000000000)) := zgI hmlt (by decide) (by omega) (by omega)
  have hmm : m * 1000000000 < 4294967296 ^ (wlen m + 1) := by rw [Nat.pow_succ]; exact Nat.mul_lt_mul'' hmlt (by decide)
  have h40 : pf E0 40 [Dw (wlen m + 1) (m * 1000000000), Dw 1 (tv a)] = some (Dw (max (wlen m + 1) 1 + 1) (m * 1000000000 + tv a)) := zmw hmm (by omega) (by omega) (by omega)
  have hsl : m * 1000000000 + tv a < 4294967296 ^ (max (wlen m + 1) 1 + 1) := by
   rw [Nat.max_eq_left (by omega)]
   have h1 : m * 1000000000 + tv a < (m + 1) * 1000000000 := by rw [Nat.add_mul, Nat.one_mul]; exact Nat.add_lt_add_left hav _
   have h2 : (m + 1) * 1000000000 ≤ 4294967296 ^ wlen m * 4294967296 := by
    refine Nat.mul_le_mul (Nat.succ_le_of_lt hmlt) ?_
    omega
   rw [← Nat.pow_succ] at h2
   exact Nat.lt_of_lt_of_le h1 (Nat.le_trans h2 (Nat.pow_le_pow_right (by decide) (by omega)))
  have h49 : pf E0 49 [Dw (max (wlen m + 1) 1 + 1) (m * 1000000000 + tv a)] = some (D (m * 1000000000 + tv a)) := zbI hsl (by omega)
  have w1 : PV.lst [.i .u32 1000000000] = Dw 1 1000000000 := zoJ (v := 1000000000) (by decide)
  have w2 : PV.lst [(PV.i .u32 ((tv a : Nat) : Int))] = Dw 1 (tv a) := zoJ (by omega)
  simp (disch := omega) only [go_sem, seval, wqq, h4, q1, i1, i2, i3, hc1, hc2, hat, h6, w1, h59, za1, group, List.headD_cons, w2, h40, h49, zbY]
  have hnew : (m * 1000000000 + tv a) * 10 ^ b.length + tv b = tv ds := by
   rw [← hv, hab, zlj, List.length_append, Nat.pow_add, hal]
   rcases h9 with h9 | h9
   ·rw [h9]; simp
   ·have : n = 9 := by simp only [List.length_cons] at h9; omega
    rw [this]
    show (m * 10 ^ 9 + tv a) * 10 ^ b.length + tv b = m * (10 ^ 9 * 10 ^ b.length) + (tv a * 10 ^ b.length + tv b)
    rw [Nat.add_mul, Nat.mul_assoc]; omega
  have hb9 : b.length % 9 = 0 := by rw [hbl]; simp only [List.length_cons]; omega
  refine ih (m * 1000000000 + tv a, b) _ _ (by rw [hbl]; simp only [List.length_cons]; omega) ⟨by simp only; omega, hbd, .inr hb9, hnew, by simp only [go_sem, seval, h2], by simp only [go_sem, seval], by simp only [go_sem, seval, h5], fun M d => by simp only [go_sem, seval], ?_⟩
  refine za6 (za6 hb _) _
theorem zmj (s : List UInt8) (hs : s.length < 4611686018427387904) : pf E0 110 [.s s] = some (.tu [wiP (clip (parseT s).1), .i .i64 (parseT s).2]) := by
 refine zab (xf := x_wide_Parse) rfl (by simp [x_wide_Parse]) ?_
 have c0 : clip 0 = wi0 := zbm (z := 0) (by simp [zbu])
 rcases zdf s with ⟨hl, hp⟩ | ⟨hl, neg, ds, hsg, hsp⟩
 ·rw [hp, c0]
  simp only [x_wide_Parse]
  have q1 : ((s.length : Int) > 5000) = True := by simp; omega
  simp (disch := omega) only [go_sem, seval, wqq, q1]
 ·have hdl : ds.length ≤ 5000 := by
   rcases hsg with ⟨_, rfl⟩ | ⟨_, rfl, _⟩
   ·simp at hl; omega
   ·exact hl
  have q1 : ((s.length : Int) > 5000) = False := by simp; omega
  have hcp := zfM hs hsg
  obtain ⟨t, ht1, ht2⟩ := zmW ds (by omega)
  have good : ds.all isDig = true → (inR (tv ds) ∧ parseT s = (sgn neg (tv ds), 0) ∨ ¬ inR (tv ds) ∧ parseT s = (0, 4)) → ∀ {fr : PFr}, fr 2 = .p 0 0 → fr 4 = .s ds → fr 5 = .b neg → fr 6 = .nl →
    WK E0 ⟨[.cell 2 true 2, .tmp 3], fun w M2 => (fz M2 fzD w).map Prod.fst = some (.tu [wiP (clip (parseT s).1), .i .i64 (parseT s).2])⟩ (.loop x_wide_Parse_l1) [.block 0, .seq wparse_R] fr [some ⟨[.b false, .nl], true, 0⟩] := fun hd hp {fr} h2 h4 h5 h6 => by
   refine zjn hdl hd h2 h4 h5 h6 fun fr' M' g2 g5 g6 gb => ?_
   unfold wparse_R
   simp only [x_wide_Parse]
   have hsi := zaJ neg (wlen (tv ds)) (tv ds) (zag _) (by have := zhL (zkz ds hd); omega)
   have hlt := zb5 gb
   have hset : ∀ Y, PM.blk (List.set M' 0 (some Y)) 0 = some Y := fun Y => zbM hlt
   have hres : parseT s = ((if inR (tv ds) then (if neg then -(tv ds : Int) else (tv ds : Int)) else 0), lerr (tv ds : Int)) := by
    rcases hp with ⟨h1, h2⟩ | ⟨h1, h2⟩
    ·rw [h2, if_pos h1, zcZ (by simpa using (zaR _).2 h1)]; rfl
    ·rw [h2, if_neg h1, zeA (by simpa using fun q => h1 ((zaR _).1 q))]
   have hcl : clip (if neg then -(tv ds : Int) else (tv ds : Int)) = clip (parseT s).1 := by
    rw [hres]
    by_cases h1 : inR (tv ds)
    ·simp only [if_pos h1]
    ·simp only [if_neg h1]
     rw [zeo, c0]
     cases neg <;> simp <;> exact Nat.lt_of_not_le fun q => h1 ((zaR _).1 q)
   rw [hcl] at hsi
   have he : lerr (tv ds : Int) = (parseT s).2 := by rw [hres]
   rw [he] at hsi
   simp (disch := omega) only [go_sem, seval, wqq, g2, g5, g6, hsi, gb, hset]
  simp only [x_wide_Parse]
  rcases zjP (l := ds) with rfl | ⟨c, r, rfl⟩
  ·have hp : parseT s = (0, 2) := by
    rcases hsp with ⟨_, h⟩ | ⟨h, _⟩
    ·exact h
    ·exact (h rfl).elim
   rw [hp, c0]
   simp (disch := omega) only [go_sem, seval, wqq, q1, hcp]
  ·have q0 : (c :: r = []) = False := by simp
   by_cases ha : (c :: r).all isDig = true
   ·have htn : (t = []) = True := by simp [ht1.2 ha]
    have hts : (t ≠ []) = False := by simp [ht1.2 ha]
    by_cases h48 : c.toNat = 48
    ·have q2 : ((c.toNat : Int) = 48) = True := by simp; omega
     have hc : c = 48 := UInt8.toNat_inj.1 h48
     cases neg
     ·by_cases hr : r = []
      ·have q3 : (((r.length + 1 : Nat) : Int) > 1) = False := by subst hr; simp
       have hp : inR (tv (c :: r)) ∧ parseT s = (sgn false (tv (c :: r)), 0) ∨ ¬ inR (tv (c :: r)) ∧ parseT s = (0, 4) := by
        rcases hsp with ⟨h | ⟨_, h | h⟩ | h, _⟩ | ⟨_, _, _, h⟩
        ·cases h
        ·cases h
        ·subst hr; simp at h
        ·exact (h ha).elim
        ·exact h
       simp (disch := omega) only [go_sem, seval, wqq, q1, hcp, q0, ht2, htn, q2, q3]
       exact good ha hp (by simp only [go_sem, seval]) (by simp only [go_sem, seval]) (by simp only [go_sem, seval]) (by simp only [go_sem, seval])
      ·have q3 : (((r.length + 1 : Nat) : Int) > 1) = True := by
        cases r with
        | nil => exact (hr rfl).elim
        | cons _ _ => simp; omega
       have hp : parseT s = (0, 2) := by
        rcases hsp with ⟨_, h⟩ | ⟨_, h, _⟩
        ·exact h
        ·have := (h (by rw [hc]; rfl)).2
         cases r with
         | nil => exact (hr rfl).elim
         | cons _ _ => simp at this
       rw [hp, c0]
       simp (disch := omega) only [go_sem, seval, wqq, q1, hcp, q0, ht2, htn, q2, q3]
     ·have hp : parseT s = (0, 2) := by
       rcases hsp with ⟨_, h⟩ | ⟨_, h, _⟩
       ·exact h
       ·have := (h (by rw [hc]; rfl)).1
        cases this
      rw [hp, c0]
      simp (disch := omega) only [go_sem, seval, wqq, q1, hcp, q0, ht2, htn, q2]
    ·have q2 : ((c.toNat : Int) = 48) = False := by simp; omega
     have hp : inR (tv (c :: r)) ∧ parseT s = (sgn neg (tv (c :: r)), 0) ∨ ¬ inR (tv (c :: r)) ∧ parseT s = (0, 4) := by
      rcases hsp with ⟨h | ⟨h, _⟩ | h, _⟩ | ⟨_, _, _, h⟩
      ·cases h
      ·simp only [List.head?_cons, Option.some.injEq] at h; rw [h] at h48; exact (h48 rfl).elim
      ·exact (h ha).elim
      ·exact h
     simp (disch := omega) only [go_sem, seval, wqq, q1, hcp, q0, ht2, htn, q2]
     exact good ha hp (by simp only [go_sem, seval]) (by simp only [go_sem, seval]) (by simp only [go_sem, seval]) (by simp only [go_sem, seval])
   ·have htn : (t = []) = False := by simp only [eq_iff_iff, iff_false]; exact fun q => ha (ht1.1 q)
    have hp : parseT s = (0, 2) := by
     rcases hsp with ⟨_, h⟩ | ⟨_, _, h, _⟩
     ·exact h
     ·exact (ha h).elim
    rw [hp, c0]
    simp (disch := omega) only [go_sem, seval, wqq, q1, hcp, q0, ht2, htn]
end Go.Eng
namespace Go.Eng
theorem zf4 {v : Nat} (h : v ≠ 0) : ∃ c t, dec v = c :: t ∧ 49 ≤ c.toNat ∧ c.toNat ≤ 57 ∧ (c :: t).length = dlen v := by
 have h1 := zbz v
 have h0 : dlen v ≠ 0 := fun q => by rw [q] at h1; simp at h1; omega
 obtain ⟨n, hn⟩ : ∃ n, dlen v = n + 1 := ⟨dlen v - 1, by omega⟩
 have h2 : ¬ v < 10 ^ n := fun q => by have := zau.2 q; omega
 have e : dec v = UInt8.ofNat (48 + v / 10 ^ n % 10) :: dtx n v := by rw [zb7 h, hn]; rfl
 have hp : 0 < 10 ^ n := Nat.pow_pos (by decide)
 have h3 : v / 10 ^ n < 10 := by
  rw [Nat.div_lt_iff_lt_mul hp, Nat.mul_comm, ← Nat.pow_succ, show n.succ = dlen v from hn.symm]; exact h1
 have h4 : 0 < v / 10 ^ n := Nat.div_pos (by omega) hp
 have ht : (UInt8.ofNat (48 + v / 10 ^ n % 10)).toNat = 48 + v / 10 ^ n % 10 := dch _ (by omega)
 exact ⟨_, _, e, by rw [ht]; omega, by rw [ht]; omega, by rw [hn]; simp⟩
theorem znt (v : Nat) : ∀ l, dec v ≠ 45 :: l := fun l q => by
 by_cases h : v = 0
 ·subst h; cases q
 ·obtain ⟨c, t, e, h1, _⟩ := zf4 h
  rw [e] at q; cases q
  revert h1; decide
theorem zjh {n K : Nat} (hn : n = 177) (hK : K = 16384) : 2 ^ K ≤ 10 ^ (28 * n) := by
 have e1 : (2 : Nat) ^ K ≤ (2 ^ 93) ^ n := by
  rw [← Nat.pow_mul 2]
  exact Nat.pow_le_pow_right (by decide) (by omega)
 have e2 : ((2 : Nat) ^ 93) ^ n ≤ (10 ^ 28) ^ n := Nat.pow_le_pow_left (by decide) n
 rw [← Nat.pow_mul 10] at e2
 exact Nat.le_trans e1 e2
theorem zmX (K : Nat) : 0 < 2 ^ K := Nat.pow_pos (by decide)
theorem zjQ : inR 0 := zmX 16384
theorem zex {v : Nat} (h : inR v) : dlen v ≤ 4956 := by
 obtain ⟨n, hn⟩ : ∃ n, n = 177 := ⟨_, rfl⟩
 have e := zjh (K := 16384) hn rfl
 have h : v < 2 ^ 16384 := h
 have := zau.2 (Nat.lt_of_lt_of_le h e)
 omega
theorem zhd (z : Int) : parseT (decI z) = if inR z.natAbs then (z, 0) else (0, 4) := by
 by_cases h0 : z = 0
 ·subst h0
  have h1 : inR (0 : Int).natAbs := zjQ
  have h2 : decI 0 = [48] := rfl
  rw [if_pos h1, h2]
  have h3 : inR (tv [48]) := h1
  unfold parseT
  rw [if_neg (by decide), if_neg (by decide)]
  exact if_pos h3
 ·have hv : z.natAbs ≠ 0 := by omega
  obtain ⟨c, t, e, hc1, hc2, hl⟩ := zf4 hv
  have hd := zly z.natAbs
  have ht := zoD z.natAbs
  have h45 : c ≠ 45 := by rintro rfl; revert hc1; decide
  have h48 : c ≠ 48 := by rintro rfl; revert hc1; decide
  have hlen : (decI z).length ≤ dlen z.natAbs + 1 := by
   unfold decI; split <;> simp only [List.length_cons, e] at * <;> omega
  have hlen2 : dlen z.natAbs ≤ (decI z).length := by
   unfold decI; split <;> simp only [List.length_cons, e] at * <;> omega
  rcases zdf (decI z) with ⟨h1, h2⟩ | ⟨h1, neg, ds, hsg, hsp⟩
  ·have : ¬ inR z.natAbs := fun q => by have := zex q; omega
   rw [if_neg this, h2]
  ·have hds : ds = dec z.natAbs ∧ sgn neg z.natAbs = z := by
    rcases hsg with ⟨rfl, g⟩ | ⟨rfl, g, g2⟩
    ·unfold decI at g
     split at g
     ·cases g; exact ⟨rfl, by unfold sgn; simp; omega⟩
     ·exact (znt _ _ g).elim
    ·unfold decI at g
     split at g
     ·rw [← g] at g2; exact (g2 rfl).elim
     ·exact ⟨g.symm, by unfold sgn; simp; omega⟩
   obtain ⟨rfl, hs⟩ := hds
   rcases hsp with ⟨h | ⟨h, _⟩ | h, _⟩ | ⟨_, _, _, ⟨h3, h4⟩ | ⟨h3, h4⟩⟩
   ·rw [e] at h; cases h
   ·rw [e] at h; simp at h; exact (h48 h).elim
   ·exact (h hd).elim
   ·rw [ht] at h3 h4
    rw [if_pos h3, h4, hs]
   ·rw [ht] at h3
    rw [if_neg h3, h4]
theorem zoc (x : WI) : pf E0 33 [wiP x] = some (.s (decI x.v)) := by
 refine zmA ?_ rfl
 have hw : ∀ (l : List Nat), Ok32 l → wordsP (l.map fun n => (PV.i .u32 ((n : Nat) : Int))) = some l := fun l => by
  induction l with
  | nil => intro _; rfl
  | cons n l ih =>
   intro h
   have h1 := h n (List.mem_cons_self ..)
   rw [List.map_cons]
   unfold wordsP
   rw [if_pos ⟨by omega, by omega⟩, ih fun x hx => h x (List.mem_cons_of_mem _ hx)]
   simp
 have hD : D x.v.natAbs = .lst ((dig x.v.natAbs).map fun n => (PV.i .u32 ((n : Nat) : Int))) := (zrM _ _).symm
 have hg : (dig x.v.natAbs).getLast? ≠ some 0 := fun q => by
  by_cases h : x.v.natAbs = 0
  ·rw [h] at q; cases q
  ·have h1 := za0 h
   have h2 : (dig x.v.natAbs).getLast? = some (dgt x.v.natAbs (wlen x.v.natAbs - 1)) := by
    rw [List.getLast?_eq_getElem?]
    unfold dig dw
    rw [za3, zaV (by omega)]
   rw [h2] at q
   have h3 := Option.some.inj q
   rw [zai] at h3
   have h4 := zeY h
   have h5 : x.v.natAbs / 4294967296 ^ (wlen x.v.natAbs - 1) < 4294967296 := by
    have := zag x.v.natAbs
    rw [show wlen x.v.natAbs = wlen x.v.natAbs - 1 + 1 by omega, Nat.pow_succ] at this
    exact Nat.div_lt_of_lt_mul this
   have h6 := Nat.div_pos h4 (zbC _)
   rw [Nat.mod_eq_of_lt h5] at h3
   omega
 have hx := x.lim
 rw [zdR, hD]
 simp only [orcP, txtP, if_true, hw _ (znR _), Option.bind_some]
 unfold wtx
 have hnz : decide (x.v < 0) = true → dig x.v.natAbs ≠ [] := fun h => by
  have h1 : x.v < 0 := by simpa using h
  intro q
  have h2 := zd0 x.v.natAbs
  rw [q] at h2
  have := za0 (v := x.v.natAbs) (by omega)
  simp at h2; omega
 rw [if_pos ⟨by rw [zd0]; exact hx, hg, hnz⟩, zmZ]
 ·have e : (if decide (x.v < 0) = true then -((x.v.natAbs : Nat) : Int) else ((x.v.natAbs : Nat) : Int)) = x.v := by
   by_cases h : x.v < 0
   ·rw [if_pos (by simpa using h)]; omega
   ·rw [if_neg (by simpa using h)]; omega
  rw [e]; rfl
end Go.Eng
namespace Go.Eng
theorem zjA {v n : Nat} (h1 : 10 ^ n ≤ v) (h2 : v < 10 ^ (n + 1)) : dec v = dtx (n + 1) v := by
 have h0 : v ≠ 0 := by have := Nat.pow_pos (n := n) (by decide : 0 < 10); omega
 have : dlen v = n + 1 := by
  have a := zau.2 h2
  have b : ¬ dlen v ≤ n := fun q => by have := zau.1 q; omega
  omega
 rw [zb7 h0, this]
theorem zhX {n : Int} (h : Fits64 n) : ∃ x : WI, x.v = n ∧ pf E0 34 [.i .i64 n] = some (wiP x) := ⟨wiOf n h, rfl, zea h⟩
end Go.Eng
namespace Go.Eng
def isPP : PV → Bool
 | .p _ _ => true
 | _ => false
@[go_sem] theorem zr5 (n o : Nat) : isPP (.p n o) = true := _root_.id rfl
def slotIn (E : PEnv) (ops : List XOper) (L : List Nat) (c : Nat × Nat) : Bool :=
 match ops[c.1]?, ops[c.2]? with
 | some a, some b =>
  match a.op with
  | .load _ _ (.t s) => L.contains s && calmOp E b.op && (ops.all fun o => o.dst != some s)
  | _ => false
 | _, _ => false
theorem zay {E : PEnv} {F : PFin} {ops : List XOper} {chk : List (Nat × Nat)} {ks : List KI} {fr : PFr} {M : PM} (L : List Nat) (hL : chk.all (fun c => calmC E ops c || slotIn E ops L c) = true) (hp : L.all (fun s => isPP (fr s)) = true) (w : WL E F ops ks fr M) :
  WK E F (.drw ops chk) ks fr M := by
 refine zdr (fun fr2 Ms hT => ?_) w
 rw [List.all_eq_true] at hL hp ⊢
 rintro ⟨i, j⟩ hc
 have h1 := hL _ hc
 simp only [Bool.or_eq_true] at h1
 rcases h1 with h1 | h1
 ·exact zcC hT h1
 ·unfold slotIn at h1
  split at h1
  ·rename_i a b ha hb
   split at h1
   ·rename_i z k s hop
    simp only [Bool.and_eq_true] at h1
    obtain ⟨⟨c1, c2⟩, c3⟩ := h1
    have hs := hp s (List.contains_iff_mem.1 c1)
    cases hf : fr s with
    | p n o => exact zhs hT ha hb hop c2 c3 hf
    | _ => rw [hf] at hs; simp [isPP] at hs
   ·cases h1
  ·cases h1
attribute [go_sem] List.all_cons List.all_nil
def slotIn2 (E : PEnv) (ops : List XOper) (L : List Nat) (c : Nat × Nat) : Bool :=
 match ops[c.1]?, ops[c.2]? with
 | some a, some b =>
  match a.op with
  | .load _ _ (.t s) => L.contains s && calmOp E b.op
  | _ => false
 | _, _ => false
theorem zaf {E : PEnv} {F : PFin} {ops : List XOper} {chk : List (Nat × Nat)} {ks : List KI} {fr : PFr} {M : PM} (L : List Nat) (hL : chk.all (fun c => calmC E ops c || slotIn2 E ops L c) = true)
  (hr : WL E ⟨(0 :: 0 :: L).map XR.tmp, fun w _ => ∃ l, w = .tu l ∧ (l.drop 2).all isPP = true⟩ ops [] fr M) (w : WL E F ops ks fr M) : WK E F (.drw ops chk) ks fr M := by
 refine zdr (fun fr2 Ms hT => ?_) w
 have hp : L.all (fun s => isPP (fr2 s)) = true := by
  obtain ⟨lf, q, fr3, M3, vs, e, h1, h2, l, h3, h4⟩ := hr
  simp only [Option.bind_eq_some_iff, unw] at e
  obtain ⟨⟨fr4, M4⟩, e1, e2⟩ := e
  simp only [Option.some.injEq, Prod.mk.injEq] at e2
  obtain ⟨_, e3, e4⟩ := e2
  rw [← e3, ← e4] at h2
  obtain ⟨Ms', g1, g2⟩ := zbV e1
  rw [g1] at hT
  cases hT
  have hres : ∀ (f : PFr) (N : PM) (l : List Nat), pRes f N (l.map XR.tmp) = some (l.map f) := fun f N l => by
   induction l with
   | nil => rfl
   | cons a l ih => simp only [List.map_cons, pRes, pResOne, ih]
  rw [hres] at h2
  cases h2
  simp only [List.map_cons, packP] at h3
  cases h3
  simpa [List.all_map] using h4
 rw [List.all_eq_true] at hL hp ⊢
 rintro ⟨i, j⟩ hc
 have h1 := hL _ hc
 simp only [Bool.or_eq_true] at h1
 rcases h1 with h1 | h1
 ·exact zcC hT h1
 ·unfold slotIn2 at h1
  split at h1
  ·rename_i a b ha hb
   split at h1
   ·rename_i z k s hop
    simp only [Bool.and_eq_true] at h1
    obtain ⟨c1, c2⟩ := h1
    have hs := hp s (List.contains_iff_mem.1 c1)
    cases hf : fr2 s with
    | p n o =>
     obtain ⟨fri, A, B, q1, q2, q3, q4⟩ := zaK hT ha
     obtain ⟨frj, C, D, p1, p2, p3, p4⟩ := zaK hT hb
     have p2' : Ms[(i, j).2 + 1]? = some D := p2
     have q2' : Ms[(i, j).1 + 1]? = some B := q2
     simp only [chkP, ha, q1, q2, p1, p2]
     rw [if_neg (by rw [hop]; simp [XO.cls])]
     rw [hop]
     show chkV ops j (.t s) C D (fr2 s) = true
     rw [hf]
     show verP (some n) C D = true
     rcases p3 with ⟨_, v, p3⟩ | ⟨_, p3⟩
     ·cases hopb : b.op with
      | call f l =>
       rw [hopb] at p3 c2
       obtain ⟨ns, rfl⟩ := zc4 c2 p3
       exact zcj ns C _
      | _ => rw [hopb] at c2; simp [calmOp] at c2
     ·rw [p3]; simp [verP]
    | _ => rw [hf] at hs; simp [isPP] at hs
   ·cases h1
  ·cases h1
theorem zad {E : PEnv} {F : PFin} {a b : XC} (hab : a = b) {ks : List KI} {fr : PFr} {M : PM} (w : WK E F b (.loop a :: ks) fr M) : WK E F (.loop a) ks fr M := by
 rw [← hab] at w; exact zcx w
def fillC (z : List PV) (off n : Nat) (cs : List PV) : Option (List PV) := if cs.length = n ∧ off + n ≤ z.length ∧ cs.all PV.scal = true then some (psplice z off cs) else none
theorem zaH {fr : PFr} (G : Nat → Option (List AV)) (z : List PV) (off n : Nat) (x : X) (ps : List (Nat × Nat × X)) : fillP G fr z ((off, (n, x)) :: ps) = fillB fr G ps (fillC z off n (x.pv G fr).cells) := by
 simp only [fillP]
 unfold fillC
 split <;> rfl
theorem zak (z : List PV) (off n : Nat) (cs : List PV) : fillC z off n cs = if cs.length = n ∧ off + n ≤ z.length ∧ cs.all PV.scal = true then some (psplice z off cs) else none := rfl
end Go.Eng
namespace Go.Eng
theorem zcm {z : Int} (h : tlen z.natAbs < 1230) : inR z.natAbs := (zjM _).1 (.inl h)
theorem znJ {z : Int} (h : inR z.natAbs) : wlen z.natAbs ≤ 512 := (zaR _).2 h
end Go.Eng
namespace Go.Eng
noncomputable def cW (w : Nat → WI) : List PV := [.b (decide ((w 0).v < 0)), D (w 0).v.natAbs, .b (decide ((w 1).v < 0)), D (w 1).v.natAbs, .b (decide ((w 2).v < 0)), D (w 2).v.natAbs, .b (decide ((w 3).v < 0)), D (w 3).v.natAbs, .b (decide ((w 4).v < 0)), D (w 4).v.natAbs, .b (decide ((w 5).v < 0)), D (w 5).v.natAbs, .b (decide ((w 6).v < 0)), D (w 6).v.natAbs, .b (decide ((w 7).v < 0)), D (w 7).v.natAbs, .b (decide ((w 8).v < 0)), D (w 8).v.natAbs]
noncomputable def mW (w : Nat → WI) : PV := .ag (cW w)
def cI (p : Nat → Int) : List PV := [.i .i64 (p 0), .i .i64 (p 1), .i .i64 (p 2), .i .i64 (p 3), .i .i64 (p 4), .i .i64 (p 5), .i .i64 (p 6), .i .i64 (p 7), .i .i64 (p 8)]
def pI (p : Nat → Int) : PV := .ag (cI p)
theorem zac (w : Nat → WI) : cW w = [.b (decide ((w 0).v < 0)), D (w 0).v.natAbs, .b (decide ((w 1).v < 0)), D (w 1).v.natAbs, .b (decide ((w 2).v < 0)), D (w 2).v.natAbs, .b (decide ((w 3).v < 0)), D (w 3).v.natAbs, .b (decide ((w 4).v < 0)), D (w 4).v.natAbs, .b (decide ((w 5).v < 0)), D (w 5).v.natAbs, .b (decide ((w 6).v < 0)), D (w 6).v.natAbs, .b (decide ((w 7).v < 0)), D (w 7).v.natAbs, .b (decide ((w 8).v < 0)), D (w 8).v.natAbs] := _root_.id rfl
theorem zan (p : Nat → Int) : cI p = [.i .i64 (p 0), .i .i64 (p 1), .i .i64 (p 2), .i .i64 (p 3), .i .i64 (p 4), .i .i64 (p 5), .i .i64 (p 6), .i .i64 (p 7), .i .i64 (p 8)] := _root_.id rfl
@[go_sem] theorem ztz (M : PM) (d : Nat) (w : Nat → WI) : fz M (d + 1 + 1) (mW w) = some (mW w, []) := _root_.id rfl
@[go_sem] theorem zoU (w : Nat → WI) : (mW w).cells = cW w := _root_.id rfl
@[go_sem] theorem ztC (M : PM) (d : Nat) (p : Nat → Int) : fz M (d + 1 + 1) (pI p) = some (pI p, []) := _root_.id rfl
@[go_sem] theorem zoW (p : Nat → Int) : (pI p).cells = cI p := _root_.id rfl
@[go_sem] theorem zp4 (w : Nat → WI) : PV.ag (cW w) = mW w := _root_.id rfl
@[go_sem] theorem zp6 (p : Nat → Int) : PV.ag (cI p) = pI p := _root_.id rfl
noncomputable def zW : Nat → WI := fun _ => wi0
def zI : Nat → Int := fun _ => 0
noncomputable def cP (n : Nat) (w : Nat → WI) : List PV := [if 0 < n then .b (decide ((w 0).v < 0)) else .b false, if 0 < n then D (w 0).v.natAbs else .nl, if 1 < n then .b (decide ((w 1).v < 0)) else .b false, if 1 < n then D (w 1).v.natAbs else .nl, if 2 < n then .b (decide ((w 2).v < 0)) else .b false, if 2 < n then D (w 2).v.natAbs else .nl, if 3 < n then .b (decide ((w 3).v < 0)) else .b false, if 3 < n then D (w 3).v.natAbs else .nl, if 4 < n then .b (decide ((w 4).v < 0)) else .b false, if 4 < n then D (w 4).v.natAbs else .nl, if 5 < n then .b (decide ((w 5).v < 0)) else .b false, if 5 < n then D (w 5).v.natAbs else .nl, if 6 < n then .b (decide ((w 6).v < 0)) else .b false, if 6 < n then D (w 6).v.natAbs else .nl, if 7 < n then .b (decide ((w 7).v < 0)) else .b false, if 7 < n then D (w 7).v.natAbs else .nl, if 8 < n then .b (decide ((w 8).v < 0)) else .b false, if 8 < n then D (w 8).v.natAbs else .nl]
theorem zcB (n : Nat) (w : Nat → WI) : cP n w = [if 0 < n then .b (decide ((w 0).v < 0)) else .b false, if 0 < n then D (w 0).v.natAbs else .nl, if 1 < n then .b (decide ((w 1).v < 0)) else .b false, if 1 < n then D (w 1).v.natAbs else .nl, if 2 < n then .b (decide ((w 2).v < 0)) else .b false, if 2 < n then D (w 2).v.natAbs else .nl, if 3 < n then .b (decide ((w 3).v < 0)) else .b false, if 3 < n then D (w 3).v.natAbs else .nl, if 4 < n then .b (decide ((w 4).v < 0)) else .b false, if 4 < n then D (w 4).v.natAbs else .nl, if 5 < n then .b (decide ((w 5).v < 0)) else .b false, if 5 < n then D (w 5).v.natAbs else .nl, if 6 < n then .b (decide ((w 6).v < 0)) else .b false, if 6 < n then D (w 6).v.natAbs else .nl, if 7 < n then .b (decide ((w 7).v < 0)) else .b false, if 7 < n then D (w 7).v.natAbs else .nl, if 8 < n then .b (decide ((w 8).v < 0)) else .b false, if 8 < n then D (w 8).v.natAbs else .nl] := _root_.id rfl
theorem cP9 (w : Nat → WI) : cP 9 w = cW w := rfl
def cQ (n : Nat) (p : Nat → Int) : List PV := [.i .i64 (if 0 < n then p 0 else 0), .i .i64 (if 1 < n then p 1 else 0), .i .i64 (if 2 < n then p 2 else 0), .i .i64 (if 3 < n then p 3 else 0), .i .i64 (if 4 < n then p 4 else 0), .i .i64 (if 5 < n then p 5 else 0), .i .i64 (if 6 < n then p 6 else 0), .i .i64 (if 7 < n then p 7 else 0), .i .i64 (if 8 < n then p 8 else 0)]
theorem cQ9 (p : Nat → Int) : cQ 9 p = cI p := rfl
theorem zeD {i : Nat} (h : i < 9) : i = 0 ∨ i = 1 ∨ i = 2 ∨ i = 3 ∨ i = 4 ∨ i = 5 ∨ i = 6 ∨ i = 7 ∨ i = 8 := by omega
theorem zhl {i : Nat} (h : i < 3) : i = 0 ∨ i = 1 ∨ i = 2 := by omega
@[go_sem] theorem ztQ (p : Nat → Int) : (cI p).all PV.scal = true := _root_.id rfl
@[go_sem] theorem ztR (w : Nat → WI) : (cW w).all PV.scal = true := _root_.id rfl
@[go_sem] theorem ztH (p : Nat → Int) : (cI p).length = 9 := _root_.id rfl
@[go_sem] theorem ztL (w : Nat → WI) : (cW w).length = 18 := _root_.id rfl
@[go_sem] theorem ztZ (p : Nat → Int) : (cI p).take 9 = cI p := _root_.id rfl
@[go_sem] theorem zt0 (w : Nat → WI) : (cW w).take 18 = cW w := _root_.id rfl
@[go_sem] theorem ztI (n : Nat) (w : Nat → WI) : (cP n w).length = 18 := _root_.id rfl
@[go_sem] theorem ztJ (n : Nat) (p : Nat → Int) : (cQ n p).length = 9 := _root_.id rfl
@[go_sem] theorem ztU (n : Nat) (w u : Nat → WI) : psplice (cP n w) 0 (cW u) = cW u := _root_.id rfl
@[go_sem] theorem ztV (n : Nat) (w u : Nat → Int) : psplice (cQ n w) 0 (cI u) = cI u := _root_.id rfl
noncomputable def ofW (p : Nat → Int) : Nat → WI := fun e => clip (p e)
theorem zl0 {p : Nat → Int} {e : Nat} (h : Fits64 (p e)) : (ofW p e).v = p e := zdx (zfX h)
theorem zbW {n : Int} (h : Fits64 n) : pf E0 34 [.i .i64 n] = some (wiP (clip n)) := by
 rw [zea h]
 congr 2
 exact WI.ext' (by rw [zdx (zfX h)]; rfl)
set_option maxHeartbeats 2000000 in
theorem ziM {p : Nat → Int} (hp : ∀ e, Fits64 (p e)) : pf E0 307 [pI p] = some (mW (ofW p)) := by
 refine zab (xf := x_proj_of) rfl (by simp [x_proj_of]) ?_
 simp only [x_proj_of]
 simp (disch := omega) only [go_sem, seval, wqq]
 refine zas x_proj_of_l1.eq_1 (fun (i : Nat) fr M => i ≤ 9 ∧ fr 2 = .p 1 0 ∧ fr 3 = .p 2 0 ∧ fr 7 = pI p ∧ fr 8 = (PV.i .i64 ((i : Nat) : Int)) ∧ ∃ b0 b1 v, M = [b0, some ⟨cP 0 zW, true, b1⟩, some ⟨cP i (ofW p), true, v⟩]) (fun i => 9 - i) ?_ 0 ⟨by omega, by simp only [go_sem, seval], by simp only [go_sem, seval], by simp only [go_sem, seval], by simp only [go_sem, seval], _, _, _, rfl⟩
 rintro i fr M ⟨hi, f2, f3, f7, f8, b0, b1, v, rfl⟩ ih
 rcases Nat.lt_or_ge i 9 with h9 | h9
 ·have q1 : ((i : Int) < 9) = True := eq_true (by omega)
  obtain rfl | rfl | rfl | rfl | rfl | rfl | rfl | rfl | rfl := zeD h9
  ·have fr0 := zbW (hp 0)
   simp (disch := omega) only [go_sem, seval, wqq, f2, f3, f7, f8, pI, zan, zcB, fr0]
   exact ih 1 _ _ (by omega) ⟨by omega, by simp only [go_sem, seval, f2], by simp only [go_sem, seval, f3], by simp only [go_sem, seval, f7], by simp only [go_sem, seval], _, _, _, rfl⟩
  ·have fr0 := zbW (hp 1)
   simp (disch := omega) only [go_sem, seval, wqq, f2, f3, f7, f8, pI, zan, zcB, fr0]
   exact ih 2 _ _ (by omega) ⟨by omega, by simp only [go_sem, seval, f2], by simp only [go_sem, seval, f3], by simp only [go_sem, seval, f7], by simp only [go_sem, seval], _, _, _, rfl⟩
  ·have fr0 := zbW (hp 2)
   simp (disch := omega) only [go_sem, seval, wqq, f2, f3, f7, f8, pI, zan, zcB, fr0]
   exact ih 3 _ _ (by omega) ⟨by omega, by simp only [go_sem, seval, f2], by simp only [go_sem, seval, f3], by simp only [go_sem, seval, f7], by simp only [go_sem, seval], _, _, _, rfl⟩
  ·have fr0 := zbW (hp 3)
   simp (disch := omega) only [go_sem, seval, wqq, f2, f3, f7, f8, pI, zan, zcB, fr0]
   exact ih 4 _ _ (by omega) ⟨by omega, by simp only [go_sem, seval, f2], by simp only [go_sem, seval, f3], by simp only [go_sem, seval, f7], by simp only [go_sem, seval], _, _, _, rfl⟩
  ·have fr0 := zbW (hp 4)
   simp (disch := omega) only [go_sem, seval, wqq, f2, f3, f7, f8, pI, zan, zcB, fr0]
   exact ih 5 _ _ (by omega) ⟨by omega, by simp only [go_sem, seval, f2], by simp only [go_sem, seval, f3], by simp only [go_sem, seval, f7], by simp only [go_sem, seval], _, _, _, rfl⟩
  ·have fr0 := zbW (hp 5)
   simp (disch := omega) only [go_sem, seval, wqq, f2, f3, f7, f8, pI, zan, zcB, fr0]
   exact ih 6 _ _ (by omega) ⟨by omega, by simp only [go_sem, seval, f2], by simp only [go_sem, seval, f3], by simp only [go_sem, seval, f7], by simp only [go_sem, seval], _, _, _, rfl⟩
  ·have fr0 := zbW (hp 6)
   simp (disch := omega) only [go_sem, seval, wqq, f2, f3, f7, f8, pI, zan, zcB, fr0]
   exact ih 7 _ _ (by omega) ⟨by omega, by simp only [go_sem, seval, f2], by simp only [go_sem, seval, f3], by simp only [go_sem, seval, f7], by simp only [go_sem, seval], _, _, _, rfl⟩
  ·have fr0 := zbW (hp 7)
   simp (disch := omega) only [go_sem, seval, wqq, f2, f3, f7, f8, pI, zan, zcB, fr0]
   exact ih 8 _ _ (by omega) ⟨by omega, by simp only [go_sem, seval, f2], by simp only [go_sem, seval, f3], by simp only [go_sem, seval, f7], by simp only [go_sem, seval], _, _, _, rfl⟩
  ·have fr0 := zbW (hp 8)
   simp (disch := omega) only [go_sem, seval, wqq, f2, f3, f7, f8, pI, zan, zcB, fr0]
   exact ih 9 _ _ (by omega) ⟨by omega, by simp only [go_sem, seval, f2], by simp only [go_sem, seval, f3], by simp only [go_sem, seval, f7], by simp only [go_sem, seval], _, _, _, rfl⟩
 ·obtain rfl : i = 9 := by omega
  simp (disch := omega) only [go_sem, seval, wqq, f2, f3, f7, f8, cP9]
end Go.Eng
namespace Go.Eng
def gI (p q : Int) : Int := ((Nat.gcd p.natAbs q.natAbs : Nat) : Int)
def lowP (p q : Int) : Int := (if q < 0 then -p else p) / gI p q
def lowQ (p q : Int) : Int := (if q < 0 then -q else q) / gI p q
theorem zfb {p q : Int} (h : q ≠ 0) : gI p q ≠ 0 := by
 unfold gI
 intro e
 have : Nat.gcd p.natAbs q.natAbs = 0 := by omega
 have := Nat.eq_zero_of_gcd_eq_zero_right this
 omega
theorem zdE {p q : Int} (h : q ≠ 0) : 0 < gI p q := by
 have := zfb (p := p) h
 unfold gI at *
 omega
theorem zb9 (p q : Int) : gI p q ∣ p := Int.ofNat_dvd_left.2 (Nat.gcd_dvd_left _ _)
theorem zcr (p q : Int) : gI p q ∣ q := Int.ofNat_dvd_left.2 (Nat.gcd_dvd_right _ _)
theorem zkQ (p q : Int) : gI (-p) (-q) = gI p q := by unfold gI; rw [Int.natAbs_neg, Int.natAbs_neg]
theorem zdI {p q : Int} (h : q ≠ 0) : lowP p q * gI p q = (if q < 0 then -p else p) ∧ lowQ p q * gI p q = (if q < 0 then -q else q) := by
 unfold lowP lowQ
 refine ⟨Int.ediv_mul_cancel ?_, Int.ediv_mul_cancel ?_⟩
 ·split
  ·exact Int.dvd_neg.2 (zb9 p q)
  ·exact zb9 p q
 ·split
  ·exact Int.dvd_neg.2 (zcr p q)
  ·exact zcr p q
theorem zc0 {p q : Int} (h : q ≠ 0) : 0 < lowQ p q := by
 have h1 := (zdI (p := p) h).2
 have h2 := zdE (p := p) h
 have h3 : 0 < lowQ p q * gI p q := by rw [h1]; split <;> omega
 exact Int.pos_of_mul_pos_left h3 h2
theorem zca {p q : Int} (h : q ≠ 0) : lowP p q * q = p * lowQ p q := by
 obtain ⟨h1, h2⟩ := zdI (p := p) h
 have h3 := zfb (p := p) h
 apply Int.eq_of_mul_eq_mul_right h3
 rw [Int.mul_right_comm, h1, Int.mul_assoc, h2]
 split <;> grind
theorem zdH {p q : Int} (h : q ≠ 0) : Nat.gcd (lowP p q).natAbs (lowQ p q).natAbs = 1 := by
 obtain ⟨h1, h2⟩ := zdI (p := p) h
 have h3 := zdE (p := p) h
 have e1 : (lowP p q).natAbs * (gI p q).natAbs = p.natAbs := by rw [← Int.natAbs_mul, h1]; split <;> omega
 have e2 : (lowQ p q).natAbs * (gI p q).natAbs = q.natAbs := by rw [← Int.natAbs_mul, h2]; split <;> omega
 have e3 : (gI p q).natAbs = Nat.gcd p.natAbs q.natAbs := Int.natAbs_natCast _
 have e4 := Nat.gcd_mul_right (lowP p q).natAbs (gI p q).natAbs (lowQ p q).natAbs
 rw [e1, e2, ← e3] at e4
 have : 0 < (gI p q).natAbs := by omega
 exact Nat.eq_of_mul_eq_mul_right this (by rw [Nat.one_mul]; exact e4.symm)
theorem zcI {p q r s : Int} (hq : 0 < q) (hs : 0 < s) (c1 : Nat.gcd p.natAbs q.natAbs = 1) (c2 : Nat.gcd r.natAbs s.natAbs = 1) (h : p * s = r * q) : p = r ∧ q = s := by
 have n1 : p.natAbs * s.natAbs = r.natAbs * q.natAbs := by rw [← Int.natAbs_mul, ← Int.natAbs_mul, h]
 have d1 : q.natAbs ∣ s.natAbs := by
  have : q.natAbs ∣ p.natAbs * s.natAbs := ⟨r.natAbs, by rw [n1, Nat.mul_comm]⟩
  exact (Nat.Coprime.dvd_of_dvd_mul_left (by rw [Nat.coprime_comm]; exact c1) this)
 have d2 : s.natAbs ∣ q.natAbs := by
  have : s.natAbs ∣ r.natAbs * q.natAbs := ⟨p.natAbs, by rw [← n1, Nat.mul_comm]⟩
  exact (Nat.Coprime.dvd_of_dvd_mul_left (by rw [Nat.coprime_comm]; exact c2) this)
 have e : q.natAbs = s.natAbs := Nat.dvd_antisymm d1 d2
 have e2 : q = s := by omega
 subst e2
 exact ⟨Int.eq_of_mul_eq_mul_right (by omega) h, rfl⟩
theorem zlU {p q r s : Int} (hq : q ≠ 0) (hs : s ≠ 0) (h : p * s = r * q) : lowP p q = lowP r s ∧ lowQ p q = lowQ r s := by
 refine zcI (zc0 hq) (zc0 hs) (zdH hq) (zdH hs) ?_
 have a := zca (p := p) hq
 have b := zca (p := r) hs
 apply Int.eq_of_mul_eq_mul_right (a := q * s) (Int.mul_ne_zero hq hs)
 calc lowP p q * lowQ r s * (q * s) = (lowP p q * q) * (lowQ r s * s) := by grind
  _ = p * lowQ p q * (lowQ r s * s) := by rw [a]
  _ = p * s * (lowQ p q * lowQ r s) := by grind
  _ = r * q * (lowQ p q * lowQ r s) := by rw [h]
  _ = r * lowQ r s * (lowQ p q * q) := by grind
  _ = lowP r s * s * (lowQ p q * q) := by rw [b]
  _ = lowP r s * lowQ p q * (q * s) := by grind
theorem zdo {p q : Int} (hq : 0 < q) (c : Nat.gcd p.natAbs q.natAbs = 1) : lowP p q = p ∧ lowQ p q = q := by
 unfold lowP lowQ gI
 rw [c, if_neg (by omega), if_neg (by omega)]
 exact ⟨Int.ediv_one _, Int.ediv_one _⟩
theorem zeB {p q : Int} (h : q ≠ 0) : (lowP p q).natAbs ≤ p.natAbs := by
 have h1 := (zdI (p := p) h).1
 have h3 := zdE (p := p) h
 have e1 : (lowP p q).natAbs * (gI p q).natAbs = p.natAbs := by rw [← Int.natAbs_mul, h1]; split <;> omega
 rw [← e1]
 exact Nat.le_mul_of_pos_right _ (by omega)
theorem zeC {p q : Int} (h : q ≠ 0) : (lowQ p q).natAbs ≤ q.natAbs := by
 have h1 := (zdI (p := p) h).2
 have h3 := zdE (p := p) h
 have e1 : (lowQ p q).natAbs * (gI p q).natAbs = q.natAbs := by rw [← Int.natAbs_mul, h1]; split <;> omega
 rw [← e1]
 exact Nat.le_mul_of_pos_right _ (by omega)
end Go.Eng
namespace Go.Eng
structure FQ where
 p : WI
 q : WI
 q1 : 1 ≤ q.v
 cop : Nat.gcd p.v.natAbs q.v.natAbs = 1
theorem zjl {y : WI} (hy : 1 ≤ y.v) : wlen (y.v - 1).natAbs ≤ 512 := by
 have h := (zaR _).1 y.lim
 refine (zaR _).2 ?_
 unfold inR at *
 exact Nat.lt_of_le_of_lt (by omega) h
def FQ.l (f : FQ) : WI := ⟨f.q.v - 1, zjl f.q1⟩
noncomputable def fqP (f : FQ) : PV := .ag [.b (decide (f.p.v < 0)), D f.p.v.natAbs, .b (decide (f.l.v < 0)), D f.l.v.natAbs]
@[go_sem] theorem zrX (M : PM) (d : Nat) (f : FQ) : fz M (d + 1 + 1) (fqP f) = some (fqP f, []) := _root_.id rfl
@[go_sem] theorem znj (f : FQ) : (fqP f).cells = [.b (decide (f.p.v < 0)), D f.p.v.natAbs, .b (decide (f.l.v < 0)), D f.l.v.natAbs] := _root_.id rfl
@[go_sem] theorem zp3 (f : FQ) : PV.ag [.b (decide (f.p.v < 0)), D f.p.v.natAbs, .b (decide (f.l.v < 0)), D f.l.v.natAbs] = fqP f := _root_.id rfl
theorem zkZ (x : WI) (e : Int) : pf E0 37 [wiP x, .i .i64 e] = some (wiP x) := by
 refine zab (xf := x_frac_must) rfl (by simp [x_frac_must]) ?_
 simp only [x_frac_must]
 simp (disch := omega) only [go_sem, seval, wqq]
theorem zde (x g : WI) (h : g.v ≠ 0) : ∃ q : WI, q.v = x.v / g.v ∧ pf E0 21 [wiP x, wiP g] = some (wiP q) := by
 have fd := ziA x g h
 refine ⟨x.div g h, rfl, ?_⟩
 refine zab (xf := x_frac_over) rfl (by simp [x_frac_over]) ?_
 simp only [x_frac_over]
 simp (disch := omega) only [go_sem, seval, wqq, fd]
noncomputable def wi1 : WI := wiOf 1 (by decide)
theorem zoK : wi1.v = 1 := rfl
theorem zcR (x y : WI) : pf E0 20 [.lst [wiP x, wiP y]] = some (.tu [wiP (clip (x.v * y.v)), .i .i64 (lerr (x.v * y.v))]) := by
 refine zab (xf := x_frac_times) rfl (by simp [x_frac_times]) ?_
 simp only [x_frac_times]
 have f1 : pf E0 34 [.i .i64 1] = some (wiP wi1) := zea (n := 1) (by decide)
 have m1 : pf E0 38 [wiP wi1, wiP x] = some (.tu [wiP x, .i .i64 0]) := by
  have h := ziD wi1 x
  rw [zoK, Int.one_mul, zcZ x.lim, zbm x.lim] at h
  exact h
 have m2 := ziD x y
 generalize wi1 = w1 at *
 simp (disch := omega) only [go_sem, seval, wqq, f1]
 refine zad x_frac_times_l1.eq_1 ?_
 simp (disch := omega) only [go_sem, seval, wqq, m1]
 refine zad x_frac_times_l1.eq_1 ?_
 by_cases h : wlen (x.v * y.v).natAbs ≤ 512
 ·have e := zcZ h
  rw [e] at m2 ⊢
  simp (disch := omega) only [go_sem, seval, wqq, m2]
  refine zad x_frac_times_l1.eq_1 ?_
  simp (disch := omega) only [go_sem, seval, wqq, m2]
 ·have e := zeA h
  have e2 := zeo h
  rw [e, e2] at m2 ⊢
  simp (disch := omega) only [go_sem, seval, wqq, m2]
theorem zlJ : Nat.gcd wi0.v.natAbs wi1.v.natAbs = 1 := by decide
noncomputable def fq0 : FQ := ⟨wi0, wi1, by decide, zlJ⟩
theorem zm5 : fqP fq0 = .ag [.b false, .lst [], .b false, .lst []] := by
 have h1 : D (0 : Int).natAbs = .lst [] := zm7.symm
 show PV.ag [.b (decide ((0 : Int) < 0)), D (0 : Int).natAbs, .b (decide ((1 : Int) - 1 < 0)), D ((1 : Int) - 1).natAbs] = _
 rw [show (1 : Int) - 1 = 0 by decide, h1]; rfl
theorem zgB (x y : WI) (hy : 1 ≤ y.v) (hc : Nat.gcd x.v.natAbs y.v.natAbs = 1) : pf E0 22 [wiP x, wiP y, .i .i64 0, .i .i64 0] = some (.tu [fqP ⟨x, y, hy, hc⟩, .i .i64 0]) := by
 refine zab (xf := x_frac_lowest) rfl (by simp [x_frac_lowest]) ?_
 simp only [x_frac_lowest]
 have f1 : pf E0 34 [.i .i64 1] = some (wiP wi1) := zea (n := 1) (by decide)
 have s1 := zmk y wi1
 rw [zoK] at s1
 have m1 := zkZ (clip (y.v - 1)) (lerr (y.v - 1))
 have cv := zdx (zjl hy)
 generalize lerr (y.v - 1) = le at *
 generalize wi1 = w1 at *
 have hq : fqP ⟨x, y, hy, hc⟩ = .ag [.b (decide (x.v < 0)), D x.v.natAbs, .b (decide ((clip (y.v - 1)).v < 0)), D (clip (y.v - 1)).v.natAbs] := by rw [cv]; rfl
 rw [hq]
 generalize clip (y.v - 1) = z at *
 simp (disch := omega) only [go_sem, seval, wqq]
 refine zay [4, 5] rfl (by simp only [go_sem, seval]) ?_
 simp (disch := omega) only [go_sem, seval, wqq, f1, s1, m1, zaH, zak]
theorem ziL (x y : WI) {e f : Int} (h : e ≠ 0 ∨ f ≠ 0) : pf E0 22 [wiP x, wiP y, .i .i64 e, .i .i64 f] = some (.tu [fqP fq0, .i .i64 4]) := by
 refine zab (xf := x_frac_lowest) rfl (by simp [x_frac_lowest]) ?_
 simp only [x_frac_lowest]
 rw [zm5]
 by_cases he : e = 0
 ·have hf : (f = 0) = False := by simp; rcases h with h | h <;> first | exact h | exact absurd he h
  have he : (e = 0) = True := by simp [he]
  simp (disch := omega) only [go_sem, seval, wqq, he, hf]
 ·have he : (e = 0) = False := by simp [he]
  simp (disch := omega) only [go_sem, seval, wqq, he]
theorem ziC (x y g : WI) (hg : g.v = gI x.v y.v) (hy : 0 < y.v) : ∃ f : FQ, f.p.v = lowP x.v y.v ∧ f.q.v = lowQ x.v y.v ∧ ∃ a b : WI, pf E0 21 [wiP x, wiP g] = some (wiP a) ∧ pf E0 21 [wiP y, wiP g] = some (wiP b) ∧ pf E0 22 [wiP a, wiP b, .i .i64 0, .i .i64 0] = some (.tu [fqP f, .i .i64 0]) := by
 have gn : g.v ≠ 0 := by rw [hg]; exact zfb (by omega)
 obtain ⟨a, ha, fa⟩ := zde x g gn
 obtain ⟨b, hb, fb⟩ := zde y g gn
 have e1 : a.v = lowP x.v y.v := by rw [ha, hg]; unfold lowP; rw [if_neg (by omega)]
 have e2 : b.v = lowQ x.v y.v := by rw [hb, hg]; unfold lowQ; rw [if_neg (by omega)]
 have hq : 1 ≤ b.v := by rw [e2]; exact zc0 (by omega)
 have hc : Nat.gcd a.v.natAbs b.v.natAbs = 1 := by rw [e1, e2]; exact zdH (by omega)
 exact ⟨⟨a, b, hq, hc⟩, e1, e2, a, b, fa, fb, zgB a b hq hc⟩
theorem zd4 (p q : Int) (h : q < 0) : lowP (-p) (-q) = lowP p q ∧ lowQ (-p) (-q) = lowQ p q := by
 have h2 : ¬ -q < 0 := by omega
 unfold lowP lowQ
 rw [zkQ]
 simp only [h, h2, if_true, if_false, and_self]
theorem zgx (x y : WI) (h : y.v ≠ 0) : ∃ f : FQ, f.p.v = lowP x.v y.v ∧ f.q.v = lowQ x.v y.v ∧ pf E0 24 [wiP x, wiP y] = some (.tu [fqP f, .i .i64 0]) := by
 by_cases hn : y.v < 0
 ·have hg := zfN x.neg y.neg
  obtain ⟨f, h1, h2, a, b, fa, fb, fl⟩ := ziC x.neg y.neg (x.neg.gcd y.neg) rfl (by show 0 < -y.v; omega)
  obtain ⟨l1, l2⟩ := zd4 x.v y.v hn
  refine ⟨f, h1.trans l1, h2.trans l2, ?_⟩
  generalize x.neg.gcd y.neg = g at *
  refine zab (xf := x_frac_Make) rfl (by simp [x_frac_Make]) ?_
  simp only [x_frac_Make]
  have sy := zbw y
  have sc : cmpI y.v 0 = -1 := by unfold cmpI; rw [if_pos hn]
  rw [sc] at sy
  have n1 := zj9 x
  have n2 := zj9 y
  generalize x.neg = xn at *
  generalize y.neg = yn at *
  simp (disch := omega) only [go_sem, seval, wqq, sy]
  refine zay [3] rfl (by simp only [go_sem, seval]) ?_
  simp (disch := omega) only [go_sem, seval, wqq, n1, n2, hg]
  refine zay [3, 6] rfl (by simp only [go_sem, seval]) ?_
  simp (disch := omega) only [go_sem, seval, wqq, fa, fb, fl]
 ·have hg := zfN x y
  obtain ⟨f, h1, h2, a, b, fa, fb, fl⟩ := ziC x y (x.gcd y) rfl (by omega)
  refine ⟨f, h1, h2, ?_⟩
  generalize x.gcd y = g at *
  refine zab (xf := x_frac_Make) rfl (by simp [x_frac_Make]) ?_
  simp only [x_frac_Make]
  have sy := zbw y
  have sc : cmpI y.v 0 = 1 := by unfold cmpI; rw [if_neg hn, if_pos (by omega)]
  rw [sc] at sy
  simp (disch := omega) only [go_sem, seval, wqq, sy, hg]
  refine zay [3, 6] rfl (by simp only [go_sem, seval]) ?_
  simp (disch := omega) only [go_sem, seval, wqq, fa, fb, fl]
end Go.Eng
namespace Go.Eng
theorem zoh (f : FQ) : pf E0 64 [fqP f] = some (wiP f.p) := by
 refine zab (xf := x__skymosaic_frac_Frac__Num) rfl (by simp [x__skymosaic_frac_Frac__Num]) ?_
 simp only [x__skymosaic_frac_Frac__Num]
 simp (disch := omega) only [go_sem, seval, wqq]
theorem zcQ (f : FQ) : pf E0 19 [fqP f] = some (wiP f.q) := by
 refine zab (xf := x__skymosaic_frac_Frac__Den) rfl (by simp [x__skymosaic_frac_Frac__Den]) ?_
 simp only [x__skymosaic_frac_Frac__Den]
 have f1 : pf E0 34 [.i .i64 1] = some (wiP wi1) := zea (n := 1) (by decide)
 have s1 := zj5 f.l wi1
 have e : f.l.v + wi1.v = f.q.v := by show f.q.v - 1 + 1 = f.q.v; omega
 have hc : clip f.q.v = f.q := zbm f.q.lim
 rw [e, hc] at s1
 have m1 := zkZ f.q (lerr f.q.v)
 generalize lerr f.q.v = le at *
 generalize wi1 = w1 at *
 simp (disch := omega) only [go_sem, seval, wqq]
 refine zaf [3] rfl ?_ ?_
 ·simp (disch := omega) only [go_sem, seval, wqq, f1, s1, m1]
  exact ⟨_, rfl, rfl⟩
 simp (disch := omega) only [go_sem, seval, wqq, f1, s1, m1]
theorem zmp {p q : Int} (hp : Fits64 p) (hq : Fits64 q) (h : q ≠ 0) : ∃ f : FQ, f.p.v = lowP p q ∧ f.q.v = lowQ p q ∧ pf E0 17 [.i .i64 p, .i .i64 q] = some (.tu [fqP f, .i .i64 0]) := by
 obtain ⟨x, hx, fx⟩ := zhX hp
 obtain ⟨y, hy, fy⟩ := zhX hq
 obtain ⟨f, h1, h2, fm⟩ := zgx x y (by rw [hy]; exact h)
 rw [hx, hy] at h1 h2
 refine ⟨f, h1, h2, ?_⟩
 refine zab (xf := x_frac_Of) rfl (by simp [x_frac_Of]) ?_
 simp only [x_frac_Of]
 simp (disch := omega) only [go_sem, seval, wqq, fx, fy, fm]
theorem zlL (x y : WI) : (x.gcd y).v = gI x.v y.v := rfl
@[go_sem] theorem zqd (x y : WI) : group 2 2 [.b (decide (x.v < 0)), Dw (wlen x.v.natAbs) x.v.natAbs, .b (decide (y.v < 0)), Dw (wlen y.v.natAbs) y.v.natAbs] = [wiP x, wiP y] := _root_.id rfl
theorem ziF (a b : FQ) {g s t cx cy cs cd : WI} {ex ey es ed : Int} (hg : pf E0 18 [wiP a.q, wiP b.q] = some (wiP g)) (fs : pf E0 21 [wiP b.q, wiP g] = some (wiP s)) (ft : pf E0 21 [wiP a.q, wiP g] = some (wiP t))
  (nx : pf E0 20 [.lst [wiP a.p, wiP s]] = some (.tu [wiP cx, .i .i64 ex])) (ny : pf E0 20 [.lst [wiP b.p, wiP t]] = some (.tu [wiP cy, .i .i64 ey])) (ns : pf E0 23 [wiP cx, wiP cy] = some (.tu [wiP cs, .i .i64 es]))
  (nd : pf E0 20 [.lst [wiP t, wiP b.q]] = some (.tu [wiP cd, .i .i64 ed])) (f : FQ) (e : Int)
  (hR : (ex = 0 ∧ ey = 0 ∧ es = 0 ∧ ed = 0 ∧ pf E0 24 [wiP cs, wiP cd] = some (.tu [fqP f, .i .i64 e])) ∨ (¬ (ex = 0 ∧ ey = 0 ∧ es = 0 ∧ ed = 0) ∧ f = fq0 ∧ e = 4)) :
  pf E0 9 [fqP a, fqP b] = some (.tu [fqP f, .i .i64 e]) := by
 have da := zcQ a
 have db := zcQ b
 refine zab (xf := x_frac_Add) rfl (by simp [x_frac_Add]) ?_
 simp only [x_frac_Add]
 simp (disch := omega) only [go_sem, seval, wqq]
 refine zay [3] rfl (by simp only [go_sem, seval]) ?_
 simp (disch := omega) only [go_sem, seval, wqq, da, db, hg]
 refine zaf [21, 6] rfl ?_ ?_
 ·simp (disch := omega) only [go_sem, seval, wqq, db, fs, nx, zaH, zak]
  exact ⟨_, rfl, rfl⟩
 simp (disch := omega) only [go_sem, seval, wqq, db, fs, nx, zaH, zak]
 refine zaf [32, 6] rfl ?_ ?_
 ·simp (disch := omega) only [go_sem, seval, wqq, da, ft, ny, zaH, zak]
  exact ⟨_, rfl, rfl⟩
 simp (disch := omega) only [go_sem, seval, wqq, da, ft, ny, ns, zaH, zak]
 refine zay [6, 3] rfl (by simp only [go_sem, seval]) ?_
 rcases hR with ⟨h1, h2, h3, h4, hM⟩ | ⟨hn, hf, he⟩
 ·subst h1 h2 h3 h4
  simp (disch := omega) only [go_sem, seval, wqq, da, db, ft, nd, hM, zaH, zak]
 ·subst hf he
  rw [zm5]
  by_cases h1 : ex = 0
  ·by_cases h2 : ey = 0
   ·by_cases h3 : es = 0
    ·have h4 : (ed = 0) = False := by simp; exact fun q => hn ⟨h1, h2, h3, q⟩
     subst h1 h2 h3
     simp (disch := omega) only [go_sem, seval, wqq, da, db, ft, nd, h4, zaH, zak]
    ·have h3 : (es = 0) = False := by simp [h3]
     subst h1 h2
     simp (disch := omega) only [go_sem, seval, wqq, da, db, ft, nd, h3, zaH, zak]
   ·have h2 : (ey = 0) = False := by simp [h2]
    subst h1
    simp (disch := omega) only [go_sem, seval, wqq, da, db, ft, nd, h2, zaH, zak]
  ·have h1 : (ex = 0) = False := by simp [h1]
   simp (disch := omega) only [go_sem, seval, wqq, da, db, ft, nd, h1, zaH, zak]
def adX (a b : FQ) : Int := a.p.v * (b.q.v / gI a.q.v b.q.v)
def adY (a b : FQ) : Int := b.p.v * (a.q.v / gI a.q.v b.q.v)
def adD (a b : FQ) : Int := a.q.v / gI a.q.v b.q.v * b.q.v
def adOk (a b : FQ) : Prop := inR (adX a b).natAbs ∧ inR (adY a b).natAbs ∧ inR (adX a b + adY a b).natAbs ∧ inR (adD a b).natAbs
theorem zkF (a b : FQ) : adD a b ≠ 0 := by
 have ha := a.q1
 have hb := b.q1
 have h1 : a.q.v / gI a.q.v b.q.v * gI a.q.v b.q.v = a.q.v := Int.ediv_mul_cancel (zb9 _ _)
 have h2 : a.q.v / gI a.q.v b.q.v ≠ 0 := fun q => by rw [q] at h1; omega
 exact Int.mul_ne_zero h2 (by omega)
theorem zdG {z : Int} (h : inR z.natAbs) : (clip z).v = z ∧ lerr z = 0 := ⟨zdx ((zaR _).2 h), zcZ ((zaR _).2 h)⟩
theorem zfI {z : Int} (h : lerr z = 0) : inR z.natAbs := by
 by_cases q : wlen z.natAbs ≤ 512
 ·exact (zaR _).1 q
 ·rw [zeA q] at h; cases h
theorem zof (a b : FQ) : (adOk a b → ∃ f : FQ, f.p.v = lowP (adX a b + adY a b) (adD a b) ∧ f.q.v = lowQ (adX a b + adY a b) (adD a b) ∧ pf E0 9 [fqP a, fqP b] = some (.tu [fqP f, .i .i64 0])) ∧
  (¬ adOk a b → pf E0 9 [fqP a, fqP b] = some (.tu [fqP fq0, .i .i64 4])) := by
 have hg := zfN a.q b.q
 have gv := zlL a.q b.q
 have gn : (a.q.gcd b.q).v ≠ 0 := by rw [gv]; exact zfb (by have := b.q1; omega)
 obtain ⟨s, hs, fs⟩ := zde b.q (a.q.gcd b.q) gn
 obtain ⟨t, ht, ft⟩ := zde a.q (a.q.gcd b.q) gn
 rw [gv] at hs ht
 have nx := zcR a.p s
 have ny := zcR b.p t
 have nd := zcR t b.q
 have eX : a.p.v * s.v = adX a b := by rw [hs]; rfl
 have eY : b.p.v * t.v = adY a b := by rw [ht]; rfl
 have eD : t.v * b.q.v = adD a b := by rw [ht]; rfl
 rw [eX] at nx
 rw [eY] at ny
 rw [eD] at nd
 have ns := zj5 (clip (adX a b)) (clip (adY a b))
 constructor
 ·rintro ⟨r1, r2, r3, r4⟩
  obtain ⟨c1, l1⟩ := zdG r1
  obtain ⟨c2, l2⟩ := zdG r2
  obtain ⟨c3, l3⟩ := zdG r3
  obtain ⟨c4, l4⟩ := zdG r4
  rw [c1, c2] at ns
  obtain ⟨f, h1, h2, fm⟩ := zgx (clip (adX a b + adY a b)) (clip (adD a b)) (by rw [c4]; exact zkF a b)
  rw [c3, c4] at h1 h2
  exact ⟨f, h1, h2, ziF a b hg fs ft nx ny ns nd f 0 (.inl ⟨l1, l2, l3, l4, fm⟩)⟩
 ·intro hn
  refine ziF a b hg fs ft nx ny ns nd fq0 4 (.inr ⟨fun ⟨l1, l2, l3, l4⟩ => hn ?_, rfl, rfl⟩)
  have r1 := zfI l1
  have r2 := zfI l2
  rw [(zdG r1).1, (zdG r2).1] at l3
  exact ⟨r1, r2, zfI l3, zfI l4⟩
end Go.Eng
namespace Go.Eng
def FQ.neg (f : FQ) : FQ := ⟨f.p.neg, f.q, f.q1, by show Nat.gcd (-f.p.v).natAbs f.q.v.natAbs = 1; rw [Int.natAbs_neg]; exact f.cop⟩
theorem ziI (a : FQ) : pf E0 67 [fqP a] = some (.i .i64 (cmpI a.p.v 0)) := by
 refine zab (xf := x_frac_Sign) rfl (by simp [x_frac_Sign]) ?_
 simp only [x_frac_Sign]
 simp (disch := omega) only [go_sem, seval, wqq]
theorem ziH (a b : FQ) {g h u v w z cp cq : WI} {ep eq : Int} (f : FQ) (e : Int) (hg : pf E0 18 [wiP a.p, wiP b.q] = some (wiP g)) (hh : pf E0 18 [wiP b.p, wiP a.q] = some (wiP h))
  (fu : pf E0 21 [wiP a.p, wiP g] = some (wiP u)) (fv : pf E0 21 [wiP b.p, wiP h] = some (wiP v)) (n1 : pf E0 20 [.lst [wiP u, wiP v]] = some (.tu [wiP cp, .i .i64 ep]))
  (fw : pf E0 21 [wiP a.q, wiP h] = some (wiP w)) (fz' : pf E0 21 [wiP b.q, wiP g] = some (wiP z)) (n2 : pf E0 20 [.lst [wiP w, wiP z]] = some (.tu [wiP cq, .i .i64 eq]))
  (fl : pf E0 22 [wiP cp, wiP cq, .i .i64 ep, .i .i64 eq] = some (.tu [fqP f, .i .i64 e])) : pf E0 8 [fqP a, fqP b] = some (.tu [fqP f, .i .i64 e]) := by
 have da := zcQ a
 have db := zcQ b
 refine zab (xf := x_frac_Mul) rfl (by simp [x_frac_Mul]) ?_
 simp only [x_frac_Mul]
 simp (disch := omega) only [go_sem, seval, wqq]
 refine zaf [12, 17, 2] rfl ?_ ?_
 ·simp (disch := omega) only [go_sem, seval, wqq, da, db, hg, hh]
  exact ⟨_, rfl, rfl⟩
 simp (disch := omega) only [go_sem, seval, wqq, da, db, hg, hh]
 refine zaf [27, 7] rfl ?_ ?_
 ·simp (disch := omega) only [go_sem, seval, wqq, fu, fv, n1, zaH, zak]
  exact ⟨_, rfl, rfl⟩
 simp (disch := omega) only [go_sem, seval, wqq, fu, fv, n1, zaH, zak]
 refine zay [7, 3, 6] rfl (by simp only [go_sem, seval]) ?_
 simp (disch := omega) only [go_sem, seval, wqq, da, db, fw, fz', n2, fl, zaH, zak]
end Go.Eng
namespace Go.Eng
theorem zhI {p s : Int} (hs : s ≠ 0) : Nat.Coprime (p / gI p s).natAbs (s / gI p s).natAbs := by
 have g := zdE (p := p) hs
 have e1 : (p / gI p s).natAbs * (gI p s).natAbs = p.natAbs := by rw [← Int.natAbs_mul, Int.ediv_mul_cancel (zb9 p s)]
 have e2 : (s / gI p s).natAbs * (gI p s).natAbs = s.natAbs := by rw [← Int.natAbs_mul, Int.ediv_mul_cancel (zcr p s)]
 have e3 : (gI p s).natAbs = Nat.gcd p.natAbs s.natAbs := Int.natAbs_natCast _
 have e4 := Nat.gcd_mul_right (p / gI p s).natAbs (gI p s).natAbs (s / gI p s).natAbs
 rw [e1, e2, ← e3] at e4
 have : 0 < (gI p s).natAbs := by omega
 exact Nat.eq_of_mul_eq_mul_right this (by rw [Nat.one_mul]; exact e4.symm)
theorem zlV {p q r s : Int} (hq : 0 < q) (hs : 0 < s) (c1 : Nat.gcd p.natAbs q.natAbs = 1) (c2 : Nat.gcd r.natAbs s.natAbs = 1) :
  p / gI p s * (r / gI r q) = lowP (p * r) (q * s) ∧ q / gI r q * (s / gI p s) = lowQ (p * r) (q * s) ∧ 0 < q / gI r q * (s / gI p s) ∧ Nat.gcd (p / gI p s * (r / gI r q)).natAbs (q / gI r q * (s / gI p s)).natAbs = 1 := by
 have g1 := zdE (p := p) (q := s) (by omega)
 have g2 := zdE (p := r) (q := q) (by omega)
 have k1 := zhI (p := p) (s := s) (by omega)
 have k2 := zhI (p := r) (s := q) (by omega)
 have a1 : p / gI p s * gI p s = p := Int.ediv_mul_cancel (zb9 p s)
 have a2 : s / gI p s * gI p s = s := Int.ediv_mul_cancel (zcr p s)
 have a3 : r / gI r q * gI r q = r := Int.ediv_mul_cancel (zb9 r q)
 have a4 : q / gI r q * gI r q = q := Int.ediv_mul_cancel (zcr r q)
 generalize gI p s = g at *
 generalize gI r q = h at *
 generalize p / g = u at *
 generalize s / g = z at *
 generalize r / h = v at *
 generalize q / h = w at *
 have z0 : 0 < z := Int.pos_of_mul_pos_left (by rw [a2]; exact hs) g1
 have w0 : 0 < w := Int.pos_of_mul_pos_left (by rw [a4]; exact hq) g2
 have du : u.natAbs ∣ p.natAbs := Int.natAbs_dvd_natAbs.2 ⟨g, a1.symm⟩
 have dw : w.natAbs ∣ q.natAbs := Int.natAbs_dvd_natAbs.2 ⟨h, a4.symm⟩
 have dv : v.natAbs ∣ r.natAbs := Int.natAbs_dvd_natAbs.2 ⟨h, a3.symm⟩
 have dz : z.natAbs ∣ s.natAbs := Int.natAbs_dvd_natAbs.2 ⟨g, a2.symm⟩
 have k3 : Nat.Coprime u.natAbs w.natAbs := Nat.Coprime.coprime_dvd_left du (Nat.Coprime.coprime_dvd_right dw c1)
 have k4 : Nat.Coprime v.natAbs z.natAbs := Nat.Coprime.coprime_dvd_left dv (Nat.Coprime.coprime_dvd_right dz c2)
 have hc : Nat.gcd (u * v).natAbs (w * z).natAbs = 1 := by
  rw [Int.natAbs_mul, Int.natAbs_mul]
  exact Nat.Coprime.mul_left (Nat.Coprime.mul_right k3 k1) (Nat.Coprime.mul_right k2 k4)
 have hp : 0 < w * z := Int.mul_pos w0 z0
 have hx : q * s ≠ 0 := Int.mul_ne_zero (by omega) (by omega)
 have cr := zca (p := p * r) hx
 obtain ⟨e1, e2⟩ := zcI (p := u * v) (q := w * z) hp (zc0 hx) hc (zdH hx) (by
  apply Int.eq_of_mul_eq_mul_right (a := q * s) hx
  have : u * v * (q * s) = p * r * (w * z) := by rw [← a1, ← a2, ← a3, ← a4]; grind
  calc u * v * lowQ (p * r) (q * s) * (q * s) = u * v * (q * s) * lowQ (p * r) (q * s) := by grind
   _ = p * r * (w * z) * lowQ (p * r) (q * s) := by rw [this]
   _ = p * r * lowQ (p * r) (q * s) * (w * z) := by grind
   _ = lowP (p * r) (q * s) * (q * s) * (w * z) := by rw [cr]
   _ = lowP (p * r) (q * s) * (w * z) * (q * s) := by grind)
 exact ⟨e1, e2, hp, hc⟩
def muP (a b : FQ) : Int := lowP (a.p.v * b.p.v) (a.q.v * b.q.v)
def muQ (a b : FQ) : Int := lowQ (a.p.v * b.p.v) (a.q.v * b.q.v)
theorem zkY (a b : FQ) : (inR (muP a b).natAbs ∧ inR (muQ a b).natAbs → ∃ f : FQ, f.p.v = muP a b ∧ f.q.v = muQ a b ∧ pf E0 8 [fqP a, fqP b] = some (.tu [fqP f, .i .i64 0])) ∧
  (¬ (inR (muP a b).natAbs ∧ inR (muQ a b).natAbs) → pf E0 8 [fqP a, fqP b] = some (.tu [fqP fq0, .i .i64 4])) := by
 have qa := a.q1
 have qb := b.q1
 obtain ⟨m1, m2, m3, m4⟩ := zlV (p := a.p.v) (q := a.q.v) (r := b.p.v) (s := b.q.v) (by omega) (by omega) a.cop b.cop
 have hg := zfN a.p b.q
 have hh := zfN b.p a.q
 have gv := zlL a.p b.q
 have hv := zlL b.p a.q
 have gn : (a.p.gcd b.q).v ≠ 0 := by rw [gv]; exact zfb (by omega)
 have hn : (b.p.gcd a.q).v ≠ 0 := by rw [hv]; exact zfb (by omega)
 obtain ⟨u, eu, fu⟩ := zde a.p _ gn
 obtain ⟨v, ev, fv⟩ := zde b.p _ hn
 obtain ⟨w, ew, fw⟩ := zde a.q _ hn
 obtain ⟨z, ez, fz'⟩ := zde b.q _ gn
 rw [gv] at eu ez
 rw [hv] at ev ew
 have n1 := zcR u v
 have n2 := zcR w z
 have e1 : u.v * v.v = muP a b := by rw [eu, ev]; exact m1
 have e2 : w.v * z.v = muQ a b := by rw [ew, ez]; exact m2
 rw [m1, m2] at m4
 rw [m2] at m3
 have m3 : 0 < muQ a b := m3
 have m4 : Nat.gcd (muP a b).natAbs (muQ a b).natAbs = 1 := m4
 rw [e1] at n1
 rw [e2] at n2
 constructor
 ·rintro ⟨r1, r2⟩
  obtain ⟨c1, l1⟩ := zdG r1
  obtain ⟨c2, l2⟩ := zdG r2
  have fl := zgB (clip (muP a b)) (clip (muQ a b)) (by rw [c2]; omega) (by rw [c1, c2]; exact m4)
  rw [l1] at n1
  rw [l2] at n2
  exact ⟨⟨clip (muP a b), clip (muQ a b), by rw [c2]; omega, by rw [c1, c2]; exact m4⟩, c1, c2, ziH a b _ 0 hg hh fu fv n1 fw fz' n2 fl⟩
 ·intro hno
  refine ziH a b fq0 4 hg hh fu fv n1 fw fz' n2 (ziL _ _ ?_)
  by_cases l1 : lerr (muP a b) = 0
  ·right
   intro l2
   exact hno ⟨zfI l1, zfI l2⟩
  ·exact .inl l1
end Go.Eng
namespace Go.Eng
theorem ziG (a b f r : FQ) {e : Int} (h : pf E0 24 [wiP b.q, wiP b.p] = some (.tu [fqP f, .i .i64 0])) (hr : pf E0 8 [fqP a, fqP f] = some (.tu [fqP r, .i .i64 e])) : pf E0 65 [fqP a, fqP b] = some (.tu [fqP r, .i .i64 e]) := by
 have db := zcQ b
 refine zab (xf := x_frac_Div) rfl (by simp [x_frac_Div]) ?_
 simp only [x_frac_Div]
 simp (disch := omega) only [go_sem, seval, wqq]
 refine zaf [11] rfl ?_ ?_
 ·simp (disch := omega) only [go_sem, seval, wqq, db, h]
  exact ⟨_, rfl, rfl⟩
 simp (disch := omega) only [go_sem, seval, wqq, db, h, hr]
theorem zlA {p q r s : Int} (hr : r ≠ 0) (hs : 0 < s) (hq : 0 < q) : lowP (p * lowP s r) (q * lowQ s r) = lowP (p * s) (q * r) ∧ lowQ (p * lowP s r) (q * lowQ s r) = lowQ (p * s) (q * r) := by
 have h1 := zc0 (p := s) hr
 refine zlU (Int.mul_ne_zero (by omega) (by omega)) (Int.mul_ne_zero (by omega) hr) ?_
 have h2 := zca (p := s) hr
 calc p * lowP s r * (q * r) = p * q * (lowP s r * r) := by grind
  _ = p * q * (s * lowQ s r) := by rw [h2]
  _ = p * s * (q * lowQ s r) := by grind
def dvP (a b : FQ) : Int := lowP (a.p.v * b.q.v) (a.q.v * b.p.v)
def dvQ (a b : FQ) : Int := lowQ (a.p.v * b.q.v) (a.q.v * b.p.v)
theorem zog (a b : FQ) (h : b.p.v ≠ 0) : (inR (dvP a b).natAbs ∧ inR (dvQ a b).natAbs → ∃ f : FQ, f.p.v = dvP a b ∧ f.q.v = dvQ a b ∧ pf E0 65 [fqP a, fqP b] = some (.tu [fqP f, .i .i64 0])) ∧
  (¬ (inR (dvP a b).natAbs ∧ inR (dvQ a b).natAbs) → pf E0 65 [fqP a, fqP b] = some (.tu [fqP fq0, .i .i64 4])) := by
 have qa := a.q1
 have qb := b.q1
 obtain ⟨f, f1, f2, fm⟩ := zgx b.q b.p h
 obtain ⟨l1, l2⟩ := zlA (p := a.p.v) (q := a.q.v) (r := b.p.v) (s := b.q.v) h (by omega) (by omega)
 have e1 : muP a f = dvP a b := by unfold muP dvP; rw [f1, f2]; exact l1
 have e2 : muQ a f = dvQ a b := by unfold muQ dvQ; rw [f1, f2]; exact l2
 have hm := zkY a f
 rw [e1, e2] at hm
 refine ⟨fun hR => ?_, fun hn => ziG a b f fq0 fm (hm.2 hn)⟩
 obtain ⟨r, r1, r2, hr⟩ := hm.1 hR
 exact ⟨r, r1, r2, ziG a b f r fm hr⟩
end Go.Eng
namespace Go.Eng
noncomputable def ftx (p q : Int) : List UInt8 := if q = 1 then decI p else decI p ++ [47] ++ decI q
theorem zcX (x : WI) : (decI x.v).length ≤ 1000000 := by
 have h := zex ((zaR _).1 x.lim)
 have h1 : (dec x.v.natAbs).length ≤ 4956 + 1 := by
  unfold dec; split
  ·simp
  ·rw [zbO]; omega
 unfold decI; split <;> (try simp only [List.length_cons]) <;> omega
theorem ziJ (f : FQ) : pf E0 16 [fqP f] = some (.s (ftx f.p.v f.q.v)) := by
 have df := zcQ f
 have s1 := zoc f.p
 have s2 := zoc f.q
 have sg := zbw f.l
 have l1 := zcX f.p
 have l2 := zcX f.q
 have hl : f.l.v = f.q.v - 1 := rfl
 have q1 := f.q1
 refine zab (xf := x__skymosaic_frac_Frac__String) rfl (by simp [x__skymosaic_frac_Frac__String]) ?_
 simp only [x__skymosaic_frac_Frac__String]
 unfold ftx
 by_cases h : f.q.v = 1
 ·rw [if_pos h]
  have sc : (cmpI f.l.v 0 = 0) = True := by rw [hl, h]; simp [cmpI]
  simp (disch := omega) only [go_sem, seval, wqq, sg, sc, s1]
 ·rw [if_neg h]
  have sc : (cmpI f.l.v 0 = 0) = False := by
   have : cmpI f.l.v 0 = 1 := by unfold cmpI; rw [if_neg (by omega), if_pos (by omega)]
   rw [this]; simp
  have a1 : binP .add (.s (decI f.p.v)) (.s [47]) = some (.s (decI f.p.v ++ [47])) := zbv _ _ (by simp only [List.length_cons, List.length_nil]; omega)
  have a2 : binP .add (.s (decI f.p.v ++ [47])) (.s (decI f.q.v)) = some (.s (decI f.p.v ++ [47] ++ decI f.q.v)) := zbv _ _ (by simp only [List.length_append, List.length_cons, List.length_nil]; omega)
  simp (disch := omega) only [go_sem, seval, wqq, sg, sc]
  refine zay [1] rfl (by simp only [go_sem, seval]) ?_
  simp (disch := omega) only [go_sem, seval, wqq, df, s1, s2, a1, a2]
end Go.Eng
namespace Go.Eng
noncomputable def rfP (p q : Int) : PV := .ag [.b (decide (p < 0)), T p.natAbs, .b (decide (q < 0)), T q.natAbs]
@[go_sem] theorem zr1 (M : PM) (d : Nat) (p q : Int) : fz M (d + 1 + 1) (rfP p q) = some (rfP p q, []) := _root_.id rfl
@[go_sem] theorem znm (p q : Int) : (rfP p q).cells = [.b (decide (p < 0)), T p.natAbs, .b (decide (q < 0)), T q.natAbs] := _root_.id rfl
@[go_sem] theorem zp7 (p q : Int) : PV.ag [.b (decide (p < 0)), T p.natAbs, .b (decide (q < 0)), T q.natAbs] = rfP p q := _root_.id rfl
theorem zgE (p q : Int) (h : q ≠ 0) (lp : tlen p.natAbs < 90000) (lq : tlen q.natAbs < 90000) : pf E0 182 [nP p, nP q] = some (.tu [rfP (lowP p q) (lowQ p q), .i .i64 0]) := by
 have t0 : ((tlen q.natAbs : Int) = 0) = False := by have := zaZ (v := q.natAbs) (by omega); simp; omega
 refine zab (xf := x_r04_Make) rfl (by simp [x_r04_Make]) ?_
 simp only [x_r04_Make]
 by_cases hn : q < 0
 ·have sn : decide (q < 0) = true := by simpa using hn
  have n1 := zk5 p (by omega)
  have n2 := zk5 q (by omega)
  have f1 : PV.ag [PV.b true, T q.natAbs] = nP q := by rw [← sn]; rfl
  have f2 : PV.ag [PV.b true, Tw (tlen q.natAbs) q.natAbs] = nP q := by rw [← sn]; rfl
  obtain ⟨l1, l2⟩ := zd4 p q hn
  have gN := zfb (p := -p) (q := -q) (by omega)
  have gl : tlen (gI (-p) (-q)).natAbs < 90000 := by
   rw [zkQ]
   have : (gI p q).natAbs ≤ q.natAbs := by
    unfold gI; rw [Int.natAbs_natCast]; exact Nat.gcd_le_right _ (by omega)
   have := zat this
   omega
  have g := zk3 (-p) (-q) (by rw [Int.natAbs_neg]; omega) (by rw [Int.natAbs_neg]; omega)
  have d1 := zfj gN (x := -p) (by rw [Int.natAbs_neg]; omega) (by omega)
  have d2 := zfj gN (x := -q) (by rw [Int.natAbs_neg]; omega) (by omega)
  rw [← l1, ← l2]
  have e1 : lowP (-p) (-q) = -p / gI (-p) (-q) := by unfold lowP; rw [if_neg (by omega)]
  have e2 : lowQ (-p) (-q) = -q / gI (-p) (-q) := by unfold lowQ; rw [if_neg (by omega)]
  rw [e1, e2]
  have hg : nP (((Nat.gcd (-p).natAbs (-q).natAbs : Nat) : Int)) = nP (gI (-p) (-q)) := rfl
  rw [hg] at g
  generalize gI (-p) (-q) = G at *
  generalize -p = P at *
  generalize -q = Q at *
  simp (disch := omega) only [go_sem, seval, wqq, t0, sn, f1, f2, n1, n2, g, d1, d2, zaH, zak]
 ·have sn : decide (q < 0) = false := by simpa using hn
  have f1 : PV.ag [PV.b false, T q.natAbs] = nP q := by rw [← sn]; rfl
  have f2 : PV.ag [PV.b false, Tw (tlen q.natAbs) q.natAbs] = nP q := by rw [← sn]; rfl
  have gN := zfb (p := p) (q := q) h
  have gl : tlen (gI p q).natAbs < 90000 := by
   have : (gI p q).natAbs ≤ q.natAbs := by
    unfold gI; rw [Int.natAbs_natCast]; exact Nat.gcd_le_right _ (by omega)
   have := zat this
   omega
  have g := zk3 p q (by omega) (by omega)
  have d1 := zfj gN (x := p) (by omega) (by omega)
  have d2 := zfj gN (x := q) (by omega) (by omega)
  have e1 : lowP p q = p / gI p q := by unfold lowP; rw [if_neg hn]
  have e2 : lowQ p q = q / gI p q := by unfold lowQ; rw [if_neg hn]
  rw [e1, e2]
  have hg : nP (((Nat.gcd p.natAbs q.natAbs : Nat) : Int)) = nP (gI p q) := rfl
  rw [hg] at g
  generalize gI p q = G at *
  simp (disch := omega) only [go_sem, seval, wqq, t0, sn, f1, f2, g, d1, d2, zaH, zak]
end Go.Eng
namespace Go.Eng
end Go.Eng
namespace Go.Eng
end Go.Eng
namespace Go.Eng
end Go.Eng
namespace Go.Eng
theorem zlq {x y : WI} (h : x.v = y.v) : x = y := by cases x; cases y; cases h; rfl
theorem zhW {f g : FQ} (h1 : f.p.v = g.p.v) (h2 : f.q.v = g.q.v) : f = g := by
 have e1 := zlq h1
 have e2 := zlq h2
 cases f; cases g
 simp only at e1 e2
 subst e1 e2; rfl
def FQ.is (f : FQ) (n d : Int) : Prop := f.p.v * d = n * f.q.v
theorem zia {f : FQ} {n d : Int} (h : d ≠ 0) (h1 : f.p.v = lowP n d) (h2 : f.q.v = lowQ n d) : f.is n d := by
 unfold FQ.is; rw [h1, h2]; exact zca h
theorem zcu (f : FQ) : f.is f.p.v f.q.v := rfl
theorem zib {f g : FQ} {n d n' d' : Int} (hd : d ≠ 0) (hd' : d' ≠ 0) (hf : f.is n d) (hg : g.is n' d') (e : n * d' = n' * d) : f = g := by
 unfold FQ.is at hf hg
 have qf := f.q1
 have qg := g.q1
 have key : f.p.v * g.q.v = g.p.v * f.q.v := by
  apply Int.eq_of_mul_eq_mul_right (a := d * d') (Int.mul_ne_zero hd hd')
  calc f.p.v * g.q.v * (d * d') = f.p.v * d * (g.q.v * d') := by grind
   _ = n * f.q.v * (g.q.v * d') := by rw [hf]
   _ = n * d' * (f.q.v * g.q.v) := by grind
   _ = n' * d * (f.q.v * g.q.v) := by rw [e]
   _ = n' * g.q.v * (f.q.v * d) := by grind
   _ = g.p.v * d' * (f.q.v * d) := by rw [hg]
   _ = g.p.v * f.q.v * (d * d') := by grind
 obtain ⟨a, b⟩ := zcI (by omega) (by omega) f.cop g.cop key
 exact zhW a b
theorem zjR {f : FQ} {n d : Int} (h : f.is n d) (k : Int) : f.is (n * k) (d * k) := by
 unfold FQ.is at *
 rw [← Int.mul_assoc, h]; grind
theorem ztY (n : Nat) : (10 : Nat) ^ (4 * n) = 10000 ^ n := by rw [Nat.pow_mul]
theorem zm2 (x : WI) : tlen x.v.natAbs ≤ 1239 := by
 have h := zex ((zaR _).1 x.lim)
 obtain ⟨n, hn⟩ : ∃ n : Nat, n = 1239 := ⟨_, rfl⟩
 have h : dlen x.v.natAbs ≤ 4 * n := by omega
 rw [zau, ztY] at h
 rw [← hn, zaY]
 exact h
def fsz (n : Nat) (f : FQ) : Prop := tlen f.p.v.natAbs ≤ n ∧ tlen f.q.v.natAbs ≤ n
theorem zgW {a g : Int} (h : g ∣ a) : tlen (a / g).natAbs ≤ tlen a.natAbs := by
 refine zat ?_
 rw [Int.natAbs_ediv_of_dvd h]; exact Nat.div_le_self _ _
theorem zm9 (a b : FQ) {n m : Nat} (ha : fsz n a) (hb : fsz m b) (h : n + m + 1 < 1230) : ∃ f : FQ, pf E0 9 [fqP a, fqP b] = some (.tu [fqP f, .i .i64 0]) ∧ f.is (a.p.v * b.q.v + b.p.v * a.q.v) (a.q.v * b.q.v) ∧ fsz (n + m + 1) f := by
 obtain ⟨a1, a2⟩ := ha
 obtain ⟨b1, b2⟩ := hb
 have qa := a.q1
 have qb := b.q1
 have k1 := zgW (zcr a.q.v b.q.v)
 have k2 := zgW (zb9 a.q.v b.q.v)
 have d1 : b.q.v / gI a.q.v b.q.v * gI a.q.v b.q.v = b.q.v := Int.ediv_mul_cancel (zcr _ _)
 have d2 : a.q.v / gI a.q.v b.q.v * gI a.q.v b.q.v = a.q.v := Int.ediv_mul_cancel (zb9 _ _)
 have t1 : tlen (adX a b).natAbs ≤ n + m := Nat.le_trans (zba _ _) (by omega)
 have t2 : tlen (adY a b).natAbs ≤ n + m := Nat.le_trans (zba _ _) (by omega)
 have t3 : tlen (adD a b).natAbs ≤ n + m := Nat.le_trans (zba _ _) (by omega)
 have t4 : tlen (adX a b + adY a b).natAbs ≤ n + m + 1 := Nat.le_trans (zje _ _) (by omega)
 have dn := zkF a b
 obtain ⟨f, h1, h2, hf⟩ := (zof a b).1 ⟨zcm (by omega), zcm (by omega), zcm (by omega), zcm (by omega)⟩
 refine ⟨f, hf, ?_, ?_, ?_⟩
 ·have hs := zjR (zia dn h1 h2) (gI a.q.v b.q.v)
  have e1 : (adX a b + adY a b) * gI a.q.v b.q.v = a.p.v * b.q.v + b.p.v * a.q.v := by
   unfold adX adY
   rw [Int.add_mul, Int.mul_assoc, Int.mul_assoc, d1, d2]
  have e2 : adD a b * gI a.q.v b.q.v = a.q.v * b.q.v := by
   unfold adD
   rw [Int.mul_right_comm, d2]
  rwa [e1, e2] at hs
 ·rw [h1]; exact Nat.le_trans (zat (zeB dn)) t4
 ·rw [h2]; exact Nat.le_trans (zat (zeC dn)) (by omega)
theorem znO (a b : FQ) {n m : Nat} (ha : fsz n a) (hb : fsz m b) (h : n + m < 1230) : ∃ f : FQ, pf E0 8 [fqP a, fqP b] = some (.tu [fqP f, .i .i64 0]) ∧ f.is (a.p.v * b.p.v) (a.q.v * b.q.v) ∧ fsz (n + m) f := by
 obtain ⟨a1, a2⟩ := ha
 obtain ⟨b1, b2⟩ := hb
 have qa := a.q1
 have qb := b.q1
 have dn : a.q.v * b.q.v ≠ 0 := Int.mul_ne_zero (by omega) (by omega)
 have t1 : tlen (muP a b).natAbs ≤ n + m := Nat.le_trans (zat (zeB dn)) (Nat.le_trans (zba _ _) (by omega))
 have t2 : tlen (muQ a b).natAbs ≤ n + m := Nat.le_trans (zat (zeC dn)) (Nat.le_trans (zba _ _) (by omega))
 obtain ⟨f, h1, h2, hf⟩ := (zkY a b).1 ⟨zcm (by omega), zcm (by omega)⟩
 exact ⟨f, hf, zia dn h1 h2, by rw [h1]; exact t1, by rw [h2]; exact t2⟩
theorem zkM (a b : FQ) (hb0 : b.p.v ≠ 0) {n m : Nat} (ha : fsz n a) (hb : fsz m b) (h : n + m < 1230) : ∃ f : FQ, pf E0 65 [fqP a, fqP b] = some (.tu [fqP f, .i .i64 0]) ∧ f.is (a.p.v * b.q.v) (a.q.v * b.p.v) ∧ fsz (n + m) f := by
 obtain ⟨a1, a2⟩ := ha
 obtain ⟨b1, b2⟩ := hb
 have qa := a.q1
 have dn : a.q.v * b.p.v ≠ 0 := Int.mul_ne_zero (by omega) hb0
 have t1 : tlen (dvP a b).natAbs ≤ n + m := Nat.le_trans (zat (zeB dn)) (Nat.le_trans (zba _ _) (by omega))
 have t2 : tlen (dvQ a b).natAbs ≤ n + m := Nat.le_trans (zat (zeC dn)) (Nat.le_trans (zba _ _) (by omega))
 obtain ⟨f, h1, h2, hf⟩ := (zog a b hb0).1 ⟨zcm (by omega), zcm (by omega)⟩
 exact ⟨f, hf, zia dn h1 h2, by rw [h1]; exact t1, by rw [h2]; exact t2⟩
noncomputable def rfQ (f : FQ) : PV := rfP f.p.v f.q.v
theorem zlb {f : FQ} {n d : Int} (h1 : f.p.v = n) (h2 : f.q.v = d) : rfP n d = rfQ f := by rw [← h1, ← h2]; rfl
theorem zf3 {a b c d : Int} (h : a - b = c - d) : cmpI a b = cmpI c d := by
 unfold cmpI
 have e1 : (a < b) = (c < d) := by simp only [eq_iff_iff]; omega
 have e2 : (b < a) = (d < c) := by simp only [eq_iff_iff]; omega
 simp only [e1, e2]
theorem zdz (a b : Int) : cmpI b a = -cmpI a b := by
 unfold cmpI
 rcases Int.lt_trichotomy a b with h | h | h
 ·rw [if_neg (by omega), if_pos h, if_pos h]; rfl
 ·subst h; rw [if_neg (by omega), if_neg (by omega)]; rfl
 ·rw [if_pos h, if_neg (by omega), if_pos h]
theorem zch {a b k : Int} (hk : 0 < k) : cmpI (a * k) (b * k) = cmpI a b := by
 unfold cmpI
 rcases Int.lt_trichotomy a b with h | h | h
 ·have := Int.mul_lt_mul_of_pos_right h hk
  rw [if_pos this, if_pos h]
 ·subst h; rw [if_neg (by omega), if_neg (by omega), if_neg (by omega), if_neg (by omega)]
 ·have := Int.mul_lt_mul_of_pos_right h hk
  rw [if_neg (by omega), if_pos this, if_neg (by omega), if_pos h]
theorem zjy (a b k : Int) : cmpI (a * k) (b * k) = cmpI a b * cmpI k 0 := by
 rcases Int.lt_trichotomy k 0 with h | h | h
 ·have e := zch (a := b) (b := a) (k := -k) (by omega)
  have e2 : cmpI (a * k) (b * k) = cmpI (b * -k) (a * -k) := zf3 (by rw [Int.mul_neg, Int.mul_neg]; omega)
  have e3 : cmpI k 0 = -1 := by unfold cmpI; rw [if_pos h]
  rw [e2, e, zdz a b, e3]; omega
 ·subst h
  have e3 : cmpI 0 0 = 0 := rfl
  rw [Int.mul_zero, Int.mul_zero, e3, Int.mul_zero]
 ·have e3 : cmpI k 0 = 1 := by unfold cmpI; rw [if_neg (by omega), if_pos h]
  rw [zch h, e3, Int.mul_one]
theorem zhw {p q r s : Int} (hq : 0 < q) (hs : 0 < s) (h : p / q ≠ r / s) : cmpI (p * s) (r * q) = cmpI (p / q) (r / s) := by
 have key : ∀ {p q r s : Int}, 0 < q → 0 < s → p / q < r / s → p * s < r * q := fun {p q r s} hq hs h => by
  have d1 := Int.mul_ediv_add_emod p q
  have d2 := Int.mul_ediv_add_emod r s
  have m1 := Int.emod_lt_of_pos p hq
  have m2 := Int.emod_nonneg r (show s ≠ 0 by omega)
  have h1 : p < q * (r / s) := by
   have : q * (p / q + 1) ≤ q * (r / s) := Int.mul_le_mul_of_nonneg_left (by omega) (by omega)
   rw [Int.mul_add] at this
   omega
  have h2 : p * s < q * (r / s) * s := Int.mul_lt_mul_of_pos_right h1 hs
  have h3 : q * (r / s) * s ≤ r * q := by
   have : s * (r / s) * q ≤ r * q := Int.mul_le_mul_of_nonneg_right (by omega) (by omega)
   have e : q * (r / s) * s = s * (r / s) * q := by grind
   omega
  omega
 unfold cmpI
 rcases Int.lt_trichotomy (p / q) (r / s) with g | g | g
 ·rw [if_pos (key hq hs g), if_pos g]
 ·exact (h g).elim
 ·have := key hs hq g
  rw [if_neg (by omega), if_pos this, if_neg (by omega), if_pos g]
theorem zhx {p q r s : Int} (h : p / q = r / s) : cmpI (p * s) (r * q) = cmpI (p % q * s) (r % s * q) := by
 refine zf3 ?_
 have d1 := Int.mul_ediv_add_emod p q
 have d2 := Int.mul_ediv_add_emod r s
 rw [h] at d1
 have e1 : p * s = (q * (r / s) + p % q) * s := by rw [d1]
 have e2 : r * q = (s * (r / s) + r % s) * q := by rw [d2]
 rw [e1, e2]
 grind
theorem zhy {x y q s : Int} (hx : 0 ≤ x) (hy : 0 ≤ y) (hq : 0 < q) (hs : 0 < s) (h : x = 0 ∨ y = 0) : cmpI (x * s) (y * q) = cmpI x 0 - cmpI y 0 := by
 rcases h with h | h
 ·subst h
  have := zch (a := 0) (b := y) hq
  rw [Int.zero_mul] at this
  rw [Int.zero_mul, this]
  have e : cmpI 0 0 = 0 := rfl
  rw [e, zdz 0 y]; omega
 ·subst h
  have := zch (a := x) (b := 0) hs
  rw [Int.zero_mul] at this
  have e : cmpI 0 0 = 0 := rfl
  rw [Int.zero_mul, this, e]; omega
theorem zhz (x y q s : Int) : cmpI (x * s) (y * q) = -cmpI (q * y) (s * x) := by
 rw [Int.mul_comm x s, Int.mul_comm y q]; exact zdz _ _
def cmpF (a b : FQ) : Int := cmpI (a.p.v * b.q.v) (b.p.v * a.q.v)
theorem zjx (a b : FQ) : cmpF a b = 0 ↔ a = b := by
 have qa := a.q1
 have qb := b.q1
 unfold cmpF
 rw [zaA]
 constructor
 ·intro h
  obtain ⟨x, y⟩ := zcI (by omega) (by omega) a.cop b.cop h
  exact zhW x y
 ·rintro rfl; rfl
end Go.Eng
namespace Go.Eng
def isPR : PV → Bool
 | .p _ _ => true
 | .sl _ _ _ _ _ => true
 | .tu _ => true
 | _ => false
def slotIn3 (E : PEnv) (ops : List XOper) (L : List Nat) (c : Nat × Nat) : Bool :=
 match ops[c.1]?, ops[c.2]? with
 | some a, some b =>
  match a.op.looks with
  | .t s => a.op.cls == 2 && L.contains s && calmOp E b.op
  | _ => false
 | _, _ => false
end Go.Eng
namespace Go.Eng
def apP : PV → PV → Bool
 | .p a _, .p b _ => !(Nat.beq a b)
 | _, _ => false
def slotSt (ops : List XOper) (L R : List Nat) (c : Nat × Nat) : Bool :=
 match ops[c.1]?, ops[c.2]? with
 | some a, some b =>
  match a.op, b.op with
  | .load _ _ (.t s), .store _ (.t r) _ => L.contains s && R.contains r && fixedX ops c.2 (.t r)
  | _, _ => false
 | _, _ => false
theorem zeX {E : PEnv} {F : PFin} {ops : List XOper} {chk : List (Nat × Nat)} {ks : List KI} {fr : PFr} {M : PM} (L R : List Nat) (hL : chk.all (fun c => calmC E ops c || slotIn2 E ops L c || slotSt ops L R c) = true)
  (hr : WL E ⟨(0 :: 0 :: (L ++ R)).map XR.tmp, fun w _ => ∃ l, w = .tu l ∧ ((l.drop 2).take L.length).all (fun x => isPP x && ((l.drop 2).drop L.length).all (apP x)) = true⟩ ops [] fr M) (w : WL E F ops ks fr M) : WK E F (.drw ops chk) ks fr M := by
 refine zdr (fun fr2 Ms hT => ?_) w
 have hp : ∀ s ∈ L, isPP (fr2 s) = true ∧ ∀ r ∈ R, apP (fr2 s) (fr2 r) = true := by
  obtain ⟨lf, q, fr3, M3, vs, e, h1, h2, l, h3, h4⟩ := hr
  simp only [Option.bind_eq_some_iff, unw] at e
  obtain ⟨⟨fr4, M4⟩, e1, e2⟩ := e
  simp only [Option.some.injEq, Prod.mk.injEq] at e2
  obtain ⟨_, e3, e4⟩ := e2
  rw [← e3, ← e4] at h2
  obtain ⟨Ms', g1, g2⟩ := zbV e1
  rw [g1] at hT
  cases hT
  have hres : ∀ (f : PFr) (N : PM) (l : List Nat), pRes f N (l.map XR.tmp) = some (l.map f) := fun f N l => by
   induction l with
   | nil => rfl
   | cons a l ih => simp only [List.map_cons, pRes, pResOne, ih]
  rw [hres] at h2
  cases h2
  simp only [List.map_cons, packP] at h3
  cases h3
  have h5 : (((L ++ R).map fr2).take L.length).all (fun x => isPP x && (((L ++ R).map fr2).drop L.length).all (apP x)) = true := h4
  rw [List.map_append, List.take_left' (by simp), List.drop_left' (by simp)] at h5
  simp only [List.all_eq_true, List.mem_map, Bool.and_eq_true, forall_exists_index, and_imp, forall_apply_eq_imp_iff₂] at h5
  exact h5
 rw [List.all_eq_true] at hL ⊢
 rintro ⟨i, j⟩ hc
 have h1 := hL _ hc
 simp only [Bool.or_eq_true] at h1
 rcases h1 with (h1 | h1) | h1
 ·exact zcC hT h1
 ·unfold slotIn2 at h1
  split at h1
  ·rename_i a b ha hb
   split at h1
   ·rename_i z k s hop
    simp only [Bool.and_eq_true] at h1
    obtain ⟨c1, c2⟩ := h1
    have hs := (hp s (List.contains_iff_mem.1 c1)).1
    cases hf : fr2 s with
    | p n o =>
     obtain ⟨fri, A, B, q1, q2, q3, q4⟩ := zaK hT ha
     obtain ⟨frj, C, D, p1, p2, p3, p4⟩ := zaK hT hb
     have p2' : Ms[(i, j).2 + 1]? = some D := p2
     have q2' : Ms[(i, j).1 + 1]? = some B := q2
     simp only [chkP, ha, q1, q2, p1, p2]
     rw [if_neg (by rw [hop]; simp [XO.cls])]
     rw [hop]
     show chkV ops j (.t s) C D (fr2 s) = true
     rw [hf]
     show verP (some n) C D = true
     rcases p3 with ⟨_, v, p3⟩ | ⟨_, p3⟩
     ·cases hopb : b.op with
      | call f l =>
       rw [hopb] at p3 c2
       obtain ⟨ns, rfl⟩ := zc4 c2 p3
       exact zcj ns C _
      | _ => rw [hopb] at c2; simp [calmOp] at c2
     ·rw [p3]; simp [verP]
    | _ => rw [hf] at hs; simp [isPP] at hs
   ·cases h1
  ·cases h1
 ·unfold slotSt at h1
  split at h1
  ·rename_i a b ha hb
   split at h1
   ·rename_i z k s n r x hop hop2
    simp only [Bool.and_eq_true] at h1
    obtain ⟨⟨c1, c2⟩, c3⟩ := h1
    have hap := (hp s (List.contains_iff_mem.1 c1)).2 r (List.contains_iff_mem.1 c2)
    obtain ⟨fri, A, B, q1, q2, q3, q4⟩ := zaK hT ha
    obtain ⟨frj, C, D, p1, p2, p3, p4⟩ := zaK hT hb
    have p2' : Ms[(i, j).2 + 1]? = some D := p2
    have q2' : Ms[(i, j).1 + 1]? = some B := q2
    have e2 : fr2 r = frj r := p4 (.t r) c3
    simp only [chkP, ha, q1, q2, p1, p2]
    rw [if_neg (by rw [hop]; simp [XO.cls])]
    rw [hop]
    show chkV ops j (.t s) C D (fr2 s) = true
    cases hf : fr2 s with
    | p n1 o1 =>
     cases hg : fr2 r with
     | p n2 o2 =>
      rw [hf, hg] at hap
      have hne : n1 ≠ n2 := fun q => by rw [q] at hap; simp [apP] at hap
      show verP (some n1) C D = true
      rcases p3 with ⟨_, v, p3⟩ | ⟨_, p3⟩
      ·rw [hop2] at p3
       simp only [XO.pst, XO.pev] at p3
       rw [show X.pv E.glob frj (.t r) = .p n2 o2 from e2.symm.trans hg] at p3
       simp only at p3
       generalize (X.pv E.glob frj x).cells = cs at p3
       split at p3
       ·split at p3
        ·cases p3
         simp only [verP]
         rw [List.getElem?_set_ne (fun h => hne h.symm)]; simp
        ·cases p3
       ·cases p3
      ·rw [p3]; simp [verP]
     | _ => rw [hf, hg] at hap; simp [apP] at hap
    | _ => rw [hf] at hap; simp [apP] at hap
   ·cases h1
  ·cases h1
end Go.Eng
namespace Go.Eng
theorem mG (G L : PM) (k : Nat) : PM.blk (G ++ L) (G.length + k) = PM.blk L k := by
 unfold PM.blk
 rw [List.getElem?_append_right (by omega), Nat.add_sub_cancel_left]
theorem mG0 (G L : PM) : PM.blk (G ++ L) G.length = PM.blk L 0 := mG G L 0
theorem sG (G L : PM) (k : Nat) (v : Option PB) : (G ++ L).set (G.length + k) v = G ++ L.set k v := by
 rw [List.set_append_right _ _ (by omega), Nat.add_sub_cancel_left]
theorem sG0 (G L : PM) (v : Option PB) : (G ++ L).set G.length v = G ++ L.set 0 v := sG G L 0 v
theorem lG (G L : PM) : (G ++ L).length = G.length + L.length := List.length_append
theorem zdi (a b : Int) : -1 ≤ cmpI a b ∧ cmpI a b ≤ 1 := by unfold cmpI; split <;> (try split) <;> omega
theorem zed (a b : FQ) : pf E0 11 [fqP a, fqP b] = some (.i .i64 (cmpF a b)) := by
 have da := zcQ a
 have db := zcQ b
 have qa := a.q1
 have qb := b.q1
 refine zab (xf := x_frac_Compare) rfl (by simp [x_frac_Compare]) ?_
 simp only [x_frac_Compare]
 simp (disch := omega) only [go_sem, seval, wqq]
 refine zeX [16, 3, 20] [5, 6] rfl ?_ ?_
 ·simp (disch := omega) only [go_sem, seval, wqq, da, db]
  exact ⟨_, rfl, rfl⟩
 simp (disch := omega) only [go_sem, seval, wqq, da, db]
 refine zas x_frac_Compare_l1.eq_1 (fun (σ : (WI × WI) × (WI × WI) × Int) fr M => 1 ≤ σ.1.2.v ∧ 1 ≤ σ.2.1.2.v ∧ (σ.2.2 = 1 ∨ σ.2.2 = -1) ∧ σ.2.2 * cmpI (σ.1.1.v * σ.2.1.2.v) (σ.2.1.1.v * σ.1.2.v) = cmpF a b ∧
  fr 5 = .p 2 0 ∧ fr 6 = .p 3 0 ∧ fr 7 = .p 4 0 ∧ fr 8 = .p 5 0 ∧ fr 9 = .i .i64 σ.2.2 ∧ ∃ b0 b1 v2 v3 v4 v5 G, M = b0 :: b1 :: some ⟨(wiP σ.1.1).cells, true, v2⟩ :: some ⟨(wiP σ.1.2).cells, true, v3⟩ :: some ⟨(wiP σ.2.1.1).cells, true, v4⟩ :: some ⟨(wiP σ.2.1.2).cells, true, v5⟩ :: G)
  (fun σ => σ.1.2.v.toNat) ?_ ((a.p, a.q), (b.p, b.q), 1) ⟨qa, qb, .inl rfl, Int.one_mul _, by simp only [go_sem, seval], by simp only [go_sem, seval], by simp only [go_sem, seval], by simp only [go_sem, seval], by simp only [go_sem, seval], _, _, _, _, _, _, [], rfl⟩
 rintro ⟨⟨p, q⟩, ⟨r, s⟩, g⟩ fr M ⟨hq, hs, hg, hc, h5, h6, h7, h8, h9, b0, b1, v2, v3, v4, v5, G, rfl⟩ ih
 simp only at hq hs hg hc h5 h6 h7 h8 h9
 have d1 := ziA p q (by omega)
 have d2 := ziA r s (by omega)
 have xv : (p.div q (by omega)).v = p.v / q.v := rfl
 have ev : (p.mod q (by omega)).v = p.v % q.v := rfl
 have yv : (r.div s (by omega)).v = r.v / s.v := rfl
 have ov : (r.mod s (by omega)).v = r.v % s.v := rfl
 have e0 := Int.emod_nonneg p.v (show q.v ≠ 0 by omega)
 have o0 := Int.emod_nonneg r.v (show s.v ≠ 0 by omega)
 have e1 := Int.emod_lt_of_pos p.v (show 0 < q.v by omega)
 rw [← ev] at e0 e1
 rw [← ov] at o0
 have s1 := zhw (p := p.v) (q := q.v) (r := r.v) (s := s.v) (by omega) (by omega)
 have s2 := zhx (p := p.v) (q := q.v) (r := r.v) (s := s.v)
 rw [← xv, ← yv] at s1
 rw [← xv, ← yv, ← ev, ← ov] at s2
 generalize p.div q (by omega) = x at *
 generalize p.mod q (by omega) = e at *
 generalize r.div s (by omega) = y at *
 generalize r.mod s (by omega) = o at *
 have c1 := zcb x y
 have g1 := zbw e
 have g2 := zbw o
 have r1 := zdi x.v y.v
 have r2 := zdi e.v 0
 have r3 := zdi o.v 0
 by_cases hxy : x.v = y.v
 ·have t0 : (cmpI x.v y.v = 0) = True := by rw [zaA]; simp [hxy]
  have hb := s2 hxy
  by_cases hz : e.v = 0 ∨ o.v = 0
  ·rw [zhy (by omega) (by omega) (by omega) (by omega) hz] at hb
   have hm : cmpF a b = g * (cmpI e.v 0 - cmpI o.v 0) := by rw [← hc, hb]
   have hl : -2 ≤ g * (cmpI e.v 0 - cmpI o.v 0) ∧ g * (cmpI e.v 0 - cmpI o.v 0) ≤ 2 := by rcases hg with rfl | rfl <;> omega
   rw [hm]
   by_cases he : e.v = 0
   ·have t1 : (cmpI e.v 0 = 0) = True := by rw [zaA]; simp [he]
    simp (disch := omega) only [go_sem, seval, wqq, h5, h6, h7, h8, h9, d1, d2, mG, mG0, sG, sG0, lG, lqq, c1, g1, g2, t0, t1]
    refine zay [14] rfl (by simp only [go_sem, seval]) ?_
    simp (disch := omega) only [go_sem, seval, wqq, h5, h6, h7, h8, h9, d1, d2, mG, mG0, sG, sG0, lG, lqq, c1, g1, g2]
   ·have t1 : (cmpI e.v 0 = 0) = False := by rw [zaA]; simp [he]
    have t2 : (cmpI o.v 0 = 0) = True := by rw [zaA]; simp; omega
    simp (disch := omega) only [go_sem, seval, wqq, h5, h6, h7, h8, h9, d1, d2, mG, mG0, sG, sG0, lG, lqq, c1, g1, g2, t0, t1, t2]
    refine zay [14] rfl (by simp only [go_sem, seval]) ?_
    simp (disch := omega) only [go_sem, seval, wqq, h5, h6, h7, h8, h9, d1, d2, mG, mG0, sG, sG0, lG, lqq, c1, g1, g2]
  ·have t1 : (cmpI e.v 0 = 0) = False := by rw [zaA]; simp; omega
   have t2 : (cmpI o.v 0 = 0) = False := by rw [zaA]; simp; omega
   have n0 : -1 ≤ g ∧ g ≤ 1 := by omega
   rw [zhz e.v o.v q.v s.v] at hb
   simp (disch := omega) only [go_sem, seval, wqq, h5, h6, h7, h8, h9, d1, d2, mG, mG0, sG, sG0, lG, lqq, c1, g1, g2, t0, t1, t2]
   refine zeX [11, 8, 14] [5, 6, 7] rfl ?_ ?_
   ·simp (disch := omega) only [go_sem, seval, wqq, h5, h6, h7, h8, h9, d1, d2, mG, mG0, sG, sG0, lG, lqq]
    exact ⟨_, rfl, rfl⟩
   simp (disch := omega) only [go_sem, seval, wqq, h5, h6, h7, h8, h9, d1, d2, mG, mG0, sG, sG0, lG, lqq]
   exact ih ((q, e), (s, o), 0 - g) _ _ (by simp only; omega) ⟨by simp only; omega, by simp only; omega, by simp only; omega, by simp only; rw [← hc, hb]; grind, by simp only [go_sem, seval, h5], by simp only [go_sem, seval, h6], by simp only [go_sem, seval, h7], by simp only [go_sem, seval, h8], by simp only [go_sem, seval], _, _, _, _, _, _, _, rfl⟩
 ·have t0 : (cmpI x.v y.v = 0) = False := by rw [zaA]; simp [hxy]
  have hb := s1 hxy
  have hm : cmpF a b = g * cmpI x.v y.v := by rw [← hc, hb]
  have hl : -2 ≤ g * cmpI x.v y.v ∧ g * cmpI x.v y.v ≤ 2 := by rcases hg with rfl | rfl <;> omega
  rw [hm]
  simp (disch := omega) only [go_sem, seval, wqq, h5, h6, h7, h8, h9, d1, d2, mG, mG0, sG, sG0, lG, lqq, c1, t0]
end Go.Eng
namespace Go.Eng
theorem zdD (p : Prop) : (p = True) ∨ (p = False) := by by_cases h : p <;> simp [h]
noncomputable def tW (a b : WI) : WI := clip (a.v * b.v)
noncomputable def aW (a b : WI) : WI := clip (a.v + b.v)
noncomputable def sW (a b : WI) : WI := clip (a.v - b.v)
theorem zal (a b : WI) : pf E0 313 [wiP a, wiP b] = some (wiP (tW a b)) := by
 have h := ziD a b
 unfold tW
 generalize clip (a.v * b.v) = c at *
 refine zab (xf := x_proj_times) rfl (by simp [x_proj_times]) ?_
 simp only [x_proj_times]
 simp (disch := omega) only [go_sem, seval, wqq, h]
theorem zav (a b : WI) : pf E0 312 [wiP a, wiP b] = some (wiP (aW a b)) := by
 have h := zj5 a b
 unfold aW
 generalize clip (a.v + b.v) = c at *
 refine zab (xf := x_proj_plus) rfl (by simp [x_proj_plus]) ?_
 simp only [x_proj_plus]
 simp (disch := omega) only [go_sem, seval, wqq, h]
theorem zbi (a b : WI) : pf E0 319 [wiP a, wiP b] = some (wiP (sW a b)) := by
 have h := zmk a b
 unfold sW
 generalize clip (a.v - b.v) = c at *
 refine zab (xf := x_proj_minus) rfl (by simp [x_proj_minus]) ?_
 simp only [x_proj_minus]
 simp (disch := omega) only [go_sem, seval, wqq, h]
noncomputable def mnW (x : Nat → WI) (i k : Nat) : WI := sW (tW (x (3 * ((i + 1) % 3) + (k + 1) % 3)) (x (3 * ((i + 2) % 3) + (k + 2) % 3))) (tW (x (3 * ((i + 1) % 3) + (k + 2) % 3)) (x (3 * ((i + 2) % 3) + (k + 1) % 3)))
theorem zmr (x : Nat → WI) {i k : Nat} (hi : i < 3) (hk : k < 3) (b : Option PB) (G : PM) : ∃ G', pcl E0 318 [.i .i64 (i : Int), .i .i64 (k : Int), .p 0 0] (some ⟨cW x, true, 0⟩ :: b :: G) = some (wiP (mnW x i k), some ⟨cW x, true, 0⟩ :: b :: (G ++ G')) := by
 obtain rfl | rfl | rfl := zhl hi <;> obtain rfl | rfl | rfl := zhl hk
 ·have t1 := zal (x 4) (x 8)
  have t2 := zal (x 5) (x 7)
  have t3 := zbi (tW (x 4) (x 8)) (tW (x 5) (x 7))
  refine ⟨[some ⟨[.b (decide ((sW (tW (x 4) (x 8)) (tW (x 5) (x 7))).v < 0)), D (sW (tW (x 4) (x 8)) (tW (x 5) (x 7))).v.natAbs], true, 1⟩], ?_⟩
  show pcl E0 318 [.i .i64 0, .i .i64 0, .p 0 0] (some ⟨cW x, true, 0⟩ :: b :: G) = some (wiP (sW (tW (x 4) (x 8)) (tW (x 5) (x 7))), some ⟨cW x, true, 0⟩ :: b :: (G ++ [some ⟨[.b (decide ((sW (tW (x 4) (x 8)) (tW (x 5) (x 7))).v < 0)), D (sW (tW (x 4) (x 8)) (tW (x 5) (x 7))).v.natAbs], true, 1⟩]))
  refine zbp (xf := x_proj_adjoint_1) rfl rfl (by simp [x_proj_adjoint_1]) ?_
  simp only [x_proj_adjoint_1]
  simp (disch := omega) only [go_sem, seval, wqq]
  refine zaf [39, 45] rfl ?_ ?_
  ·simp (disch := omega) only [go_sem, seval, wqq, zac, t1, t2, t3, mG, mG0, sG, sG0, lG, lqq]
   exact ⟨_, rfl, rfl⟩
  simp (disch := omega) only [go_sem, seval, wqq, zac, t1, t2, t3, mG, mG0, sG, sG0, lG, lqq]
 ·have t1 := zal (x 5) (x 6)
  have t2 := zal (x 3) (x 8)
  have t3 := zbi (tW (x 5) (x 6)) (tW (x 3) (x 8))
  refine ⟨[some ⟨[.b (decide ((sW (tW (x 5) (x 6)) (tW (x 3) (x 8))).v < 0)), D (sW (tW (x 5) (x 6)) (tW (x 3) (x 8))).v.natAbs], true, 1⟩], ?_⟩
  show pcl E0 318 [.i .i64 0, .i .i64 1, .p 0 0] (some ⟨cW x, true, 0⟩ :: b :: G) = some (wiP (sW (tW (x 5) (x 6)) (tW (x 3) (x 8))), some ⟨cW x, true, 0⟩ :: b :: (G ++ [some ⟨[.b (decide ((sW (tW (x 5) (x 6)) (tW (x 3) (x 8))).v < 0)), D (sW (tW (x 5) (x 6)) (tW (x 3) (x 8))).v.natAbs], true, 1⟩]))
  refine zbp (xf := x_proj_adjoint_1) rfl rfl (by simp [x_proj_adjoint_1]) ?_
  simp only [x_proj_adjoint_1]
  simp (disch := omega) only [go_sem, seval, wqq]
  refine zaf [39, 45] rfl ?_ ?_
  ·simp (disch := omega) only [go_sem, seval, wqq, zac, t1, t2, t3, mG, mG0, sG, sG0, lG, lqq]
   exact ⟨_, rfl, rfl⟩
  simp (disch := omega) only [go_sem, seval, wqq, zac, t1, t2, t3, mG, mG0, sG, sG0, lG, lqq]
 ·have t1 := zal (x 3) (x 7)
  have t2 := zal (x 4) (x 6)
  have t3 := zbi (tW (x 3) (x 7)) (tW (x 4) (x 6))
  refine ⟨[some ⟨[.b (decide ((sW (tW (x 3) (x 7)) (tW (x 4) (x 6))).v < 0)), D (sW (tW (x 3) (x 7)) (tW (x 4) (x 6))).v.natAbs], true, 1⟩], ?_⟩
  show pcl E0 318 [.i .i64 0, .i .i64 2, .p 0 0] (some ⟨cW x, true, 0⟩ :: b :: G) = some (wiP (sW (tW (x 3) (x 7)) (tW (x 4) (x 6))), some ⟨cW x, true, 0⟩ :: b :: (G ++ [some ⟨[.b (decide ((sW (tW (x 3) (x 7)) (tW (x 4) (x 6))).v < 0)), D (sW (tW (x 3) (x 7)) (tW (x 4) (x 6))).v.natAbs], true, 1⟩]))
  refine zbp (xf := x_proj_adjoint_1) rfl rfl (by simp [x_proj_adjoint_1]) ?_
  simp only [x_proj_adjoint_1]
  simp (disch := omega) only [go_sem, seval, wqq]
  refine zaf [39, 45] rfl ?_ ?_
  ·simp (disch := omega) only [go_sem, seval, wqq, zac, t1, t2, t3, mG, mG0, sG, sG0, lG, lqq]
   exact ⟨_, rfl, rfl⟩
  simp (disch := omega) only [go_sem, seval, wqq, zac, t1, t2, t3, mG, mG0, sG, sG0, lG, lqq]
 ·have t1 := zal (x 7) (x 2)
  have t2 := zal (x 8) (x 1)
  have t3 := zbi (tW (x 7) (x 2)) (tW (x 8) (x 1))
  refine ⟨[some ⟨[.b (decide ((sW (tW (x 7) (x 2)) (tW (x 8) (x 1))).v < 0)), D (sW (tW (x 7) (x 2)) (tW (x 8) (x 1))).v.natAbs], true, 1⟩], ?_⟩
  show pcl E0 318 [.i .i64 1, .i .i64 0, .p 0 0] (some ⟨cW x, true, 0⟩ :: b :: G) = some (wiP (sW (tW (x 7) (x 2)) (tW (x 8) (x 1))), some ⟨cW x, true, 0⟩ :: b :: (G ++ [some ⟨[.b (decide ((sW (tW (x 7) (x 2)) (tW (x 8) (x 1))).v < 0)), D (sW (tW (x 7) (x 2)) (tW (x 8) (x 1))).v.natAbs], true, 1⟩]))
  refine zbp (xf := x_proj_adjoint_1) rfl rfl (by simp [x_proj_adjoint_1]) ?_
  simp only [x_proj_adjoint_1]
  simp (disch := omega) only [go_sem, seval, wqq]
  refine zaf [39, 45] rfl ?_ ?_
  ·simp (disch := omega) only [go_sem, seval, wqq, zac, t1, t2, t3, mG, mG0, sG, sG0, lG, lqq]
   exact ⟨_, rfl, rfl⟩
  simp (disch := omega) only [go_sem, seval, wqq, zac, t1, t2, t3, mG, mG0, sG, sG0, lG, lqq]
 ·have t1 := zal (x 8) (x 0)
  have t2 := zal (x 6) (x 2)
  have t3 := zbi (tW (x 8) (x 0)) (tW (x 6) (x 2))
  refine ⟨[some ⟨[.b (decide ((sW (tW (x 8) (x 0)) (tW (x 6) (x 2))).v < 0)), D (sW (tW (x 8) (x 0)) (tW (x 6) (x 2))).v.natAbs], true, 1⟩], ?_⟩
  show pcl E0 318 [.i .i64 1, .i .i64 1, .p 0 0] (some ⟨cW x, true, 0⟩ :: b :: G) = some (wiP (sW (tW (x 8) (x 0)) (tW (x 6) (x 2))), some ⟨cW x, true, 0⟩ :: b :: (G ++ [some ⟨[.b (decide ((sW (tW (x 8) (x 0)) (tW (x 6) (x 2))).v < 0)), D (sW (tW (x 8) (x 0)) (tW (x 6) (x 2))).v.natAbs], true, 1⟩]))
  refine zbp (xf := x_proj_adjoint_1) rfl rfl (by simp [x_proj_adjoint_1]) ?_
  simp only [x_proj_adjoint_1]
  simp (disch := omega) only [go_sem, seval, wqq]
  refine zaf [39, 45] rfl ?_ ?_
  ·simp (disch := omega) only [go_sem, seval, wqq, zac, t1, t2, t3, mG, mG0, sG, sG0, lG, lqq]
   exact ⟨_, rfl, rfl⟩
  simp (disch := omega) only [go_sem, seval, wqq, zac, t1, t2, t3, mG, mG0, sG, sG0, lG, lqq]
 ·have t1 := zal (x 6) (x 1)
  have t2 := zal (x 7) (x 0)
  have t3 := zbi (tW (x 6) (x 1)) (tW (x 7) (x 0))
  refine ⟨[some ⟨[.b (decide ((sW (tW (x 6) (x 1)) (tW (x 7) (x 0))).v < 0)), D (sW (tW (x 6) (x 1)) (tW (x 7) (x 0))).v.natAbs], true, 1⟩], ?_⟩
  show pcl E0 318 [.i .i64 1, .i .i64 2, .p 0 0] (some ⟨cW x, true, 0⟩ :: b :: G) = some (wiP (sW (tW (x 6) (x 1)) (tW (x 7) (x 0))), some ⟨cW x, true, 0⟩ :: b :: (G ++ [some ⟨[.b (decide ((sW (tW (x 6) (x 1)) (tW (x 7) (x 0))).v < 0)), D (sW (tW (x 6) (x 1)) (tW (x 7) (x 0))).v.natAbs], true, 1⟩]))
  refine zbp (xf := x_proj_adjoint_1) rfl rfl (by simp [x_proj_adjoint_1]) ?_
  simp only [x_proj_adjoint_1]
  simp (disch := omega) only [go_sem, seval, wqq]
  refine zaf [39, 45] rfl ?_ ?_
  ·simp (disch := omega) only [go_sem, seval, wqq, zac, t1, t2, t3, mG, mG0, sG, sG0, lG, lqq]
   exact ⟨_, rfl, rfl⟩
  simp (disch := omega) only [go_sem, seval, wqq, zac, t1, t2, t3, mG, mG0, sG, sG0, lG, lqq]
 ·have t1 := zal (x 1) (x 5)
  have t2 := zal (x 2) (x 4)
  have t3 := zbi (tW (x 1) (x 5)) (tW (x 2) (x 4))
  refine ⟨[some ⟨[.b (decide ((sW (tW (x 1) (x 5)) (tW (x 2) (x 4))).v < 0)), D (sW (tW (x 1) (x 5)) (tW (x 2) (x 4))).v.natAbs], true, 1⟩], ?_⟩
  show pcl E0 318 [.i .i64 2, .i .i64 0, .p 0 0] (some ⟨cW x, true, 0⟩ :: b :: G) = some (wiP (sW (tW (x 1) (x 5)) (tW (x 2) (x 4))), some ⟨cW x, true, 0⟩ :: b :: (G ++ [some ⟨[.b (decide ((sW (tW (x 1) (x 5)) (tW (x 2) (x 4))).v < 0)), D (sW (tW (x 1) (x 5)) (tW (x 2) (x 4))).v.natAbs], true, 1⟩]))
  refine zbp (xf := x_proj_adjoint_1) rfl rfl (by simp [x_proj_adjoint_1]) ?_
  simp only [x_proj_adjoint_1]
  simp (disch := omega) only [go_sem, seval, wqq]
  refine zaf [39, 45] rfl ?_ ?_
  ·simp (disch := omega) only [go_sem, seval, wqq, zac, t1, t2, t3, mG, mG0, sG, sG0, lG, lqq]
   exact ⟨_, rfl, rfl⟩
  simp (disch := omega) only [go_sem, seval, wqq, zac, t1, t2, t3, mG, mG0, sG, sG0, lG, lqq]
 ·have t1 := zal (x 2) (x 3)
  have t2 := zal (x 0) (x 5)
  have t3 := zbi (tW (x 2) (x 3)) (tW (x 0) (x 5))
  refine ⟨[some ⟨[.b (decide ((sW (tW (x 2) (x 3)) (tW (x 0) (x 5))).v < 0)), D (sW (tW (x 2) (x 3)) (tW (x 0) (x 5))).v.natAbs], true, 1⟩], ?_⟩
  show pcl E0 318 [.i .i64 2, .i .i64 1, .p 0 0] (some ⟨cW x, true, 0⟩ :: b :: G) = some (wiP (sW (tW (x 2) (x 3)) (tW (x 0) (x 5))), some ⟨cW x, true, 0⟩ :: b :: (G ++ [some ⟨[.b (decide ((sW (tW (x 2) (x 3)) (tW (x 0) (x 5))).v < 0)), D (sW (tW (x 2) (x 3)) (tW (x 0) (x 5))).v.natAbs], true, 1⟩]))
  refine zbp (xf := x_proj_adjoint_1) rfl rfl (by simp [x_proj_adjoint_1]) ?_
  simp only [x_proj_adjoint_1]
  simp (disch := omega) only [go_sem, seval, wqq]
  refine zaf [39, 45] rfl ?_ ?_
  ·simp (disch := omega) only [go_sem, seval, wqq, zac, t1, t2, t3, mG, mG0, sG, sG0, lG, lqq]
   exact ⟨_, rfl, rfl⟩
  simp (disch := omega) only [go_sem, seval, wqq, zac, t1, t2, t3, mG, mG0, sG, sG0, lG, lqq]
 ·have t1 := zal (x 0) (x 4)
  have t2 := zal (x 1) (x 3)
  have t3 := zbi (tW (x 0) (x 4)) (tW (x 1) (x 3))
  refine ⟨[some ⟨[.b (decide ((sW (tW (x 0) (x 4)) (tW (x 1) (x 3))).v < 0)), D (sW (tW (x 0) (x 4)) (tW (x 1) (x 3))).v.natAbs], true, 1⟩], ?_⟩
  show pcl E0 318 [.i .i64 2, .i .i64 2, .p 0 0] (some ⟨cW x, true, 0⟩ :: b :: G) = some (wiP (sW (tW (x 0) (x 4)) (tW (x 1) (x 3))), some ⟨cW x, true, 0⟩ :: b :: (G ++ [some ⟨[.b (decide ((sW (tW (x 0) (x 4)) (tW (x 1) (x 3))).v < 0)), D (sW (tW (x 0) (x 4)) (tW (x 1) (x 3))).v.natAbs], true, 1⟩]))
  refine zbp (xf := x_proj_adjoint_1) rfl rfl (by simp [x_proj_adjoint_1]) ?_
  simp only [x_proj_adjoint_1]
  simp (disch := omega) only [go_sem, seval, wqq]
  refine zaf [39, 45] rfl ?_ ?_
  ·simp (disch := omega) only [go_sem, seval, wqq, zac, t1, t2, t3, mG, mG0, sG, sG0, lG, lqq]
   exact ⟨_, rfl, rfl⟩
  simp (disch := omega) only [go_sem, seval, wqq, zac, t1, t2, t3, mG, mG0, sG, sG0, lG, lqq]
noncomputable def adW (x : Nat → WI) : Nat → WI := fun e => mnW x (e % 3) (e / 3)
end Go.Eng
namespace Go.Eng
noncomputable def cS (s : Nat → Bool) (w : Nat → WI) : List PV := [if s 0 then .b (decide ((w 0).v < 0)) else .b false, if s 0 then D (w 0).v.natAbs else .nl, if s 1 then .b (decide ((w 1).v < 0)) else .b false, if s 1 then D (w 1).v.natAbs else .nl, if s 2 then .b (decide ((w 2).v < 0)) else .b false, if s 2 then D (w 2).v.natAbs else .nl, if s 3 then .b (decide ((w 3).v < 0)) else .b false, if s 3 then D (w 3).v.natAbs else .nl, if s 4 then .b (decide ((w 4).v < 0)) else .b false, if s 4 then D (w 4).v.natAbs else .nl, if s 5 then .b (decide ((w 5).v < 0)) else .b false, if s 5 then D (w 5).v.natAbs else .nl, if s 6 then .b (decide ((w 6).v < 0)) else .b false, if s 6 then D (w 6).v.natAbs else .nl, if s 7 then .b (decide ((w 7).v < 0)) else .b false, if s 7 then D (w 7).v.natAbs else .nl, if s 8 then .b (decide ((w 8).v < 0)) else .b false, if s 8 then D (w 8).v.natAbs else .nl]
theorem zao (s : Nat → Bool) (w : Nat → WI) : cS s w = [if s 0 then .b (decide ((w 0).v < 0)) else .b false, if s 0 then D (w 0).v.natAbs else .nl, if s 1 then .b (decide ((w 1).v < 0)) else .b false, if s 1 then D (w 1).v.natAbs else .nl, if s 2 then .b (decide ((w 2).v < 0)) else .b false, if s 2 then D (w 2).v.natAbs else .nl, if s 3 then .b (decide ((w 3).v < 0)) else .b false, if s 3 then D (w 3).v.natAbs else .nl, if s 4 then .b (decide ((w 4).v < 0)) else .b false, if s 4 then D (w 4).v.natAbs else .nl, if s 5 then .b (decide ((w 5).v < 0)) else .b false, if s 5 then D (w 5).v.natAbs else .nl, if s 6 then .b (decide ((w 6).v < 0)) else .b false, if s 6 then D (w 6).v.natAbs else .nl, if s 7 then .b (decide ((w 7).v < 0)) else .b false, if s 7 then D (w 7).v.natAbs else .nl, if s 8 then .b (decide ((w 8).v < 0)) else .b false, if s 8 then D (w 8).v.natAbs else .nl] := _root_.id rfl
@[go_sem] theorem ztK (s : Nat → Bool) (w : Nat → WI) : (cS s w).length = 18 := _root_.id rfl
def sA (n : Nat) : Nat → Bool := fun e => decide (3 * (e % 3) + e / 3 < n)
set_option maxHeartbeats 2000000 in
theorem zmm (x : Nat → WI) : pf E0 311 [mW x] = some (mW (adW x)) := by
 refine zab (xf := x_proj_adjoint) rfl (by simp [x_proj_adjoint]) ?_
 simp only [x_proj_adjoint]
 simp (disch := omega) only [go_sem, seval, wqq]
 refine zas x_proj_adjoint_l1.eq_1 (fun (i : Nat) fr M => i ≤ 3 ∧ fr 2 = .p 1 0 ∧ fr 3 = .fn 318 [.p 0 0] ∧ fr 4 = .p 2 0 ∧ fr 8 = (PV.i .i64 ((i : Nat) : Int)) ∧ ∃ b v G, M = some ⟨cW x, true, 0⟩ :: some ⟨cP 0 zW, true, b⟩ :: some ⟨cS (sA (3 * i)) (adW x), true, v⟩ :: G) (fun i => 3 - i) ?_ 0 ⟨by omega, by simp only [go_sem, seval], by simp only [go_sem, seval], by simp only [go_sem, seval], by simp only [go_sem, seval], _, _, _, rfl⟩
 rintro i fr M ⟨hi, f2, f3, f4, f8, b, v, G, rfl⟩ ih
 rcases Nat.lt_or_ge i 3 with h3 | h3
 ·have q1 : ((i : Int) < 3) = True := eq_true (by omega)
  simp (disch := omega) only [go_sem, seval, wqq, f2, f3, f4, f8, q1]
  refine zas x_proj_adjoint_l2.eq_1 (fun (k : Nat) fr M => k ≤ 3 ∧ fr 2 = .p 1 0 ∧ fr 3 = .fn 318 [.p 0 0] ∧ fr 4 = .p 2 0 ∧ fr 8 = (PV.i .i64 ((i : Nat) : Int)) ∧ fr 5 = (PV.i .i64 ((i : Nat) : Int)) ∧ fr 11 = (PV.i .i64 ((k : Nat) : Int)) ∧ ∃ b v G, M = some ⟨cW x, true, 0⟩ :: some ⟨cP 0 zW, true, b⟩ :: some ⟨cS (sA (3 * i + k)) (adW x), true, v⟩ :: G) (fun k => 3 - k) ?_ 0 ⟨by omega, by simp only [go_sem, seval, f2], by simp only [go_sem, seval, f3], by simp only [go_sem, seval, f4], by simp only [go_sem, seval, f8], by simp only [go_sem, seval], by simp only [go_sem, seval], _, _, _, rfl⟩
  rintro k fr M ⟨hk, f2, f3, f4, f8, f5, f11, b, v, G, rfl⟩ ih2
  rcases Nat.lt_or_ge k 3 with h4 | h4
  ·obtain ⟨G', mn⟩ := zmr x h3 h4 (some ⟨cP 0 zW, true, b⟩) (some ⟨cS (sA (3 * i + k)) (adW x), true, v⟩ :: G)
   have q2 : ((k : Int) < 3) = True := eq_true (by omega)
   obtain rfl | rfl | rfl := zhl h3 <;> obtain rfl | rfl | rfl := zhl h4
   ·have mn : pcl E0 318 [.i .i64 0, .i .i64 0, .p 0 0] _ = _ := mn
    simp (disch := omega) only [go_sem, seval, wqq, f2, f3, f4, f8, f5, f11, mn]
    exact ih2 1 _ _ (by omega) ⟨by omega, by simp only [go_sem, seval, f2], by simp only [go_sem, seval, f3], by simp only [go_sem, seval, f4], by simp only [go_sem, seval, f8], by simp only [go_sem, seval, f5], by simp only [go_sem, seval], _, _, _, rfl⟩
   ·have mn : pcl E0 318 [.i .i64 0, .i .i64 1, .p 0 0] _ = _ := mn
    simp (disch := omega) only [go_sem, seval, wqq, f2, f3, f4, f8, f5, f11, mn]
    exact ih2 2 _ _ (by omega) ⟨by omega, by simp only [go_sem, seval, f2], by simp only [go_sem, seval, f3], by simp only [go_sem, seval, f4], by simp only [go_sem, seval, f8], by simp only [go_sem, seval, f5], by simp only [go_sem, seval], _, _, _, rfl⟩
   ·have mn : pcl E0 318 [.i .i64 0, .i .i64 2, .p 0 0] _ = _ := mn
    simp (disch := omega) only [go_sem, seval, wqq, f2, f3, f4, f8, f5, f11, mn]
    exact ih2 3 _ _ (by omega) ⟨by omega, by simp only [go_sem, seval, f2], by simp only [go_sem, seval, f3], by simp only [go_sem, seval, f4], by simp only [go_sem, seval, f8], by simp only [go_sem, seval, f5], by simp only [go_sem, seval], _, _, _, rfl⟩
   ·have mn : pcl E0 318 [.i .i64 1, .i .i64 0, .p 0 0] _ = _ := mn
    simp (disch := omega) only [go_sem, seval, wqq, f2, f3, f4, f8, f5, f11, mn]
    exact ih2 1 _ _ (by omega) ⟨by omega, by simp only [go_sem, seval, f2], by simp only [go_sem, seval, f3], by simp only [go_sem, seval, f4], by simp only [go_sem, seval, f8], by simp only [go_sem, seval, f5], by simp only [go_sem, seval], _, _, _, rfl⟩
   ·have mn : pcl E0 318 [.i .i64 1, .i .i64 1, .p 0 0] _ = _ := mn
    simp (disch := omega) only [go_sem, seval, wqq, f2, f3, f4, f8, f5, f11, mn]
    exact ih2 2 _ _ (by omega) ⟨by omega, by simp only [go_sem, seval, f2], by simp only [go_sem, seval, f3], by simp only [go_sem, seval, f4], by simp only [go_sem, seval, f8], by simp only [go_sem, seval, f5], by simp only [go_sem, seval], _, _, _, rfl⟩
   ·have mn : pcl E0 318 [.i .i64 1, .i .i64 2, .p 0 0] _ = _ := mn
    simp (disch := omega) only [go_sem, seval, wqq, f2, f3, f4, f8, f5, f11, mn]
    exact ih2 3 _ _ (by omega) ⟨by omega, by simp only [go_sem, seval, f2], by simp only [go_sem, seval, f3], by simp only [go_sem, seval, f4], by simp only [go_sem, seval, f8], by simp only [go_sem, seval, f5], by simp only [go_sem, seval], _, _, _, rfl⟩
   ·have mn : pcl E0 318 [.i .i64 2, .i .i64 0, .p 0 0] _ = _ := mn
    simp (disch := omega) only [go_sem, seval, wqq, f2, f3, f4, f8, f5, f11, mn]
    exact ih2 1 _ _ (by omega) ⟨by omega, by simp only [go_sem, seval, f2], by simp only [go_sem, seval, f3], by simp only [go_sem, seval, f4], by simp only [go_sem, seval, f8], by simp only [go_sem, seval, f5], by simp only [go_sem, seval], _, _, _, rfl⟩
   ·have mn : pcl E0 318 [.i .i64 2, .i .i64 1, .p 0 0] _ = _ := mn
    simp (disch := omega) only [go_sem, seval, wqq, f2, f3, f4, f8, f5, f11, mn]
    exact ih2 2 _ _ (by omega) ⟨by omega, by simp only [go_sem, seval, f2], by simp only [go_sem, seval, f3], by simp only [go_sem, seval, f4], by simp only [go_sem, seval, f8], by simp only [go_sem, seval, f5], by simp only [go_sem, seval], _, _, _, rfl⟩
   ·have mn : pcl E0 318 [.i .i64 2, .i .i64 2, .p 0 0] _ = _ := mn
    simp (disch := omega) only [go_sem, seval, wqq, f2, f3, f4, f8, f5, f11, mn]
    exact ih2 3 _ _ (by omega) ⟨by omega, by simp only [go_sem, seval, f2], by simp only [go_sem, seval, f3], by simp only [go_sem, seval, f4], by simp only [go_sem, seval, f8], by simp only [go_sem, seval, f5], by simp only [go_sem, seval], _, _, _, rfl⟩
  ·obtain rfl : k = 3 := by omega
   simp (disch := omega) only [go_sem, seval, wqq, f2, f3, f4, f8, f5, f11]
   exact ih (i + 1) _ _ (by omega) ⟨by omega, by simp only [go_sem, seval, f2], by simp only [go_sem, seval, f3], by simp only [go_sem, seval, f4], by simp only [go_sem, seval]; rw [Int.natCast_succ], b, v, G, rfl⟩
 ·obtain rfl : i = 3 := by omega
  have c9 : cS (sA (3 * 3)) (adW x) = cW (adW x) := rfl
  simp (disch := omega) only [go_sem, seval, wqq, f2, f3, f4, f8, c9]
noncomputable def dtW (x : Nat → WI) : WI := aW (aW (tW (x 0) (adW x 0)) (tW (x 1) (adW x 3))) (tW (x 2) (adW x 6))
theorem zfh (x : Nat → WI) : pf E0 306 [mW x] = some (wiP (dtW x)) := by
 have ha := zmm x
 unfold dtW
 generalize adW x = a at *
 have t1 := zal (x 0) (a 0)
 have t2 := zal (x 1) (a 3)
 have t3 := zal (x 2) (a 6)
 generalize tW (x 0) (a 0) = u1 at *
 generalize tW (x 1) (a 3) = u2 at *
 generalize tW (x 2) (a 6) = u3 at *
 have t4 := zav u1 u2
 generalize aW u1 u2 = u4 at *
 have t5 := zav u4 u3
 refine zab (xf := x_proj_det) rfl (by simp [x_proj_det]) ?_
 simp only [x_proj_det]
 simp (disch := omega) only [go_sem, seval, wqq, ha]
 refine zaf [11, 13, 17, 19] rfl ?_ ?_
 ·simp (disch := omega) only [go_sem, seval, wqq, zac, t1, t2, t3, t4, t5]
  exact ⟨_, rfl, rfl⟩
 simp (disch := omega) only [go_sem, seval, wqq, zac, t1, t2, t3, t4, t5]
def okP (p : Nat → Int) : Prop := ∀ e, e < 9 → -1073741824 ≤ p e ∧ p e ≤ 1073741824
open Classical in
noncomputable def vlP (p : Nat → Int) : Int := if okP p then (if (dtW (ofW p)).v = 0 then 10 else 0) else 1
set_option maxHeartbeats 2000000 in
theorem zbX {p : Nat → Int} (hp : ∀ e, Fits64 (p e)) : pf E0 302 [pI p] = some (.i .i64 (vlP p)) := by
 have hm := ziM hp
 have hd := zfh (ofW p)
 have sg := zbw (dtW (ofW p))
 have bad : ∀ e, e < 9 → ¬ (-1073741824 ≤ p e ∧ p e ≤ 1073741824) → vlP p = 1 := fun e he h => by unfold vlP; rw [if_neg fun q => h (q e he)]
 have good : okP p → vlP p = if (dtW (ofW p)).v = 0 then 10 else 0 := fun h => by unfold vlP; rw [if_pos h]
 generalize vlP p = V at *
 generalize dtW (ofW p) = dt at *
 refine zab (xf := x_proj_Valid) rfl (by simp [x_proj_Valid]) ?_
 simp only [x_proj_Valid]
 simp (disch := omega) only [go_sem, seval, wqq]
 refine zas x_proj_Valid_l1.eq_1 (fun (i : Nat) fr M => i ≤ 9 ∧ (∀ e, e < i → -1073741824 ≤ p e ∧ p e ≤ 1073741824) ∧ fr 1 = .p 0 0 ∧ fr 6 = pI p ∧ fr 7 = (PV.i .i64 ((i : Nat) : Int)) ∧ M = [some ⟨cI p, true, 0⟩]) (fun i => 9 - i) ?_ 0 ⟨by omega, fun e he => by omega, by simp only [go_sem, seval], by simp only [go_sem, seval], by simp only [go_sem, seval], rfl⟩
 rintro i fr M ⟨hi, hlo, f1, f6, f7, rfl⟩ ih
 rcases Nat.lt_or_ge i 9 with h9 | h9
 ·have nxt : ∀ j, (-1073741824 ≤ p j ∧ p j ≤ 1073741824) → j = i → ∀ e, e < j + 1 → -1073741824 ≤ p e ∧ p e ≤ 1073741824 := fun j hj hji e he => by
   subst hji
   rcases Nat.lt_or_ge e j with h | h
   ·exact hlo e h
   ·obtain rfl : e = j := by omega
    exact hj
  obtain rfl | rfl | rfl | rfl | rfl | rfl | rfl | rfl | rfl := zeD h9
  ·have hpe := hp 0
   unfold Fits64 at hpe
   rcases zdD (p 0 < -1073741824) with t1 | t1
   ·rw [bad 0 (by decide) (by have := of_eq_true t1; omega)]
    simp (disch := omega) only [go_sem, seval, wqq, f1, f6, f7, pI, zan, t1]
   ·rcases zdD (p 0 > 1073741824) with t2 | t2
    ·rw [bad 0 (by decide) (by have := of_eq_true t2; omega)]
     simp (disch := omega) only [go_sem, seval, wqq, f1, f6, f7, pI, zan, t1, t2]
    ·have u1 := of_eq_false t1
     have u2 := of_eq_false t2
     simp (disch := omega) only [go_sem, seval, wqq, f1, f6, f7, pI, zan, t1, t2]
     exact ih 1 _ _ (by omega) ⟨by omega, nxt 0 (by omega) rfl, by simp only [go_sem, seval, f1], by simp only [go_sem, seval, f6], by simp only [go_sem, seval], rfl⟩
  ·have hpe := hp 1
   unfold Fits64 at hpe
   rcases zdD (p 1 < -1073741824) with t1 | t1
   ·rw [bad 1 (by decide) (by have := of_eq_true t1; omega)]
    simp (disch := omega) only [go_sem, seval, wqq, f1, f6, f7, pI, zan, t1]
   ·rcases zdD (p 1 > 1073741824) with t2 | t2
    ·rw [bad 1 (by decide) (by have := of_eq_true t2; omega)]
     simp (disch := omega) only [go_sem, seval, wqq, f1, f6, f7, pI, zan, t1, t2]
    ·have u1 := of_eq_false t1
     have u2 := of_eq_false t2
     simp (disch := omega) only [go_sem, seval, wqq, f1, f6, f7, pI, zan, t1, t2]
     exact ih 2 _ _ (by omega) ⟨by omega, nxt 1 (by omega) rfl, by simp only [go_sem, seval, f1], by simp only [go_sem, seval, f6], by simp only [go_sem, seval], rfl⟩
  ·have hpe := hp 2
   unfold Fits64 at hpe
   rcases zdD (p 2 < -1073741824) with t1 | t1
   ·rw [bad 2 (by decide) (by have := of_eq_true t1; omega)]
    simp (disch := omega) only [go_sem, seval, wqq, f1, f6, f7, pI, zan, t1]
   ·rcases zdD (p 2 > 1073741824) with t2 | t2
    ·rw [bad 2 (by decide) (by have := of_eq_true t2; omega)]
     simp (disch := omega) only [go_sem, seval, wqq, f1, f6, f7, pI, zan, t1, t2]
    ·have u1 := of_eq_false t1
     have u2 := of_eq_false t2
     simp (disch := omega) only [go_sem, seval, wqq, f1, f6, f7, pI, zan, t1, t2]
     exact ih 3 _ _ (by omega) ⟨by omega, nxt 2 (by omega) rfl, by simp only [go_sem, seval, f1], by simp only [go_sem, seval, f6], by simp only [go_sem, seval], rfl⟩
  ·have hpe := hp 3
   unfold Fits64 at hpe
   rcases zdD (p 3 < -1073741824) with t1 | t1
   ·rw [bad 3 (by decide) (by have := of_eq_true t1; omega)]
    simp (disch := omega) only [go_sem, seval, wqq, f1, f6, f7, pI, zan, t1]
   ·rcases zdD (p 3 > 1073741824) with t2 | t2
    ·rw [bad 3 (by decide) (by have := of_eq_true t2; omega)]
     simp (disch := omega) only [go_sem, seval, wqq, f1, f6, f7, pI, zan, t1, t2]
    ·have u1 := of_eq_false t1
     have u2 := of_eq_false t2
     simp (disch := omega) only [go_sem, seval, wqq, f1, f6, f7, pI, zan, t1, t2]
     exact ih 4 _ _ (by omega) ⟨by omega, nxt 3 (by omega) rfl, by simp only [go_sem, seval, f1], by simp only [go_sem, seval, f6], by simp only [go_sem, seval], rfl⟩
  ·have hpe := hp 4
   unfold Fits64 at hpe
   rcases zdD (p 4 < -1073741824) with t1 | t1
   ·rw [bad 4 (by decide) (by have := of_eq_true t1; omega)]
    simp (disch := omega) only [go_sem, seval, wqq, f1, f6, f7, pI, zan, t1]
   ·rcases zdD (p 4 > 1073741824) with t2 | t2
    ·rw [bad 4 (by decide) (by have := of_eq_true t2; omega)]
     simp (disch := omega) only [go_sem, seval, wqq, f1, f6, f7, pI, zan, t1, t2]
    ·have u1 := of_eq_false t1
     have u2 := of_eq_false t2
     simp (disch := omega) only [go_sem, seval, wqq, f1, f6, f7, pI, zan, t1, t2]
     exact ih 5 _ _ (by omega) ⟨by omega, nxt 4 (by omega) rfl, by simp only [go_sem, seval, f1], by simp only [go_sem, seval, f6], by simp only [go_sem, seval], rfl⟩
  ·have hpe := hp 5
   unfold Fits64 at hpe
   rcases zdD (p 5 < -1073741824) with t1 | t1
   ·rw [bad 5 (by decide) (by have := of_eq_true t1; omega)]
    simp (disch := omega) only [go_sem, seval, wqq, f1, f6, f7, pI, zan, t1]
   ·rcases zdD (p 5 > 1073741824) with t2 | t2
    ·rw [bad 5 (by decide) (by have := of_eq_true t2; omega)]
     simp (disch := omega) only [go_sem, seval, wqq, f1, f6, f7, pI, zan, t1, t2]
    ·have u1 := of_eq_false t1
     have u2 := of_eq_false t2
     simp (disch := omega) only [go_sem, seval, wqq, f1, f6, f7, pI, zan, t1, t2]
     exact ih 6 _ _ (by omega) ⟨by omega, nxt 5 (by omega) rfl, by simp only [go_sem, seval, f1], by simp only [go_sem, seval, f6], by simp only [go_sem, seval], rfl⟩
  ·have hpe := hp 6
   unfold Fits64 at hpe
   rcases zdD (p 6 < -1073741824) with t1 | t1
   ·rw [bad 6 (by decide) (by have := of_eq_true t1; omega)]
    simp (disch := omega) only [go_sem, seval, wqq, f1, f6, f7, pI, zan, t1]
   ·rcases zdD (p 6 > 1073741824) with t2 | t2
    ·rw [bad 6 (by decide) (by have := of_eq_true t2; omega)]
     simp (disch := omega) only [go_sem, seval, wqq, f1, f6, f7, pI, zan, t1, t2]
    ·have u1 := of_eq_false t1
     have u2 := of_eq_false t2
     simp (disch := omega) only [go_sem, seval, wqq, f1, f6, f7, pI, zan, t1, t2]
     exact ih 7 _ _ (by omega) ⟨by omega, nxt 6 (by omega) rfl, by simp only [go_sem, seval, f1], by simp only [go_sem, seval, f6], by simp only [go_sem, seval], rfl⟩
  ·have hpe := hp 7
   unfold Fits64 at hpe
   rcases zdD (p 7 < -1073741824) with t1 | t1
   ·rw [bad 7 (by decide) (by have := of_eq_true t1; omega)]
    simp (disch := omega) only [go_sem, seval, wqq, f1, f6, f7, pI, zan, t1]
   ·rcases zdD (p 7 > 1073741824) with t2 | t2
    ·rw [bad 7 (by decide) (by have := of_eq_true t2; omega)]
     simp (disch := omega) only [go_sem, seval, wqq, f1, f6, f7, pI, zan, t1, t2]
    ·have u1 := of_eq_false t1
     have u2 := of_eq_false t2
     simp (disch := omega) only [go_sem, seval, wqq, f1, f6, f7, pI, zan, t1, t2]
     exact ih 8 _ _ (by omega) ⟨by omega, nxt 7 (by omega) rfl, by simp only [go_sem, seval, f1], by simp only [go_sem, seval, f6], by simp only [go_sem, seval], rfl⟩
  ·have hpe := hp 8
   unfold Fits64 at hpe
   rcases zdD (p 8 < -1073741824) with t1 | t1
   ·rw [bad 8 (by decide) (by have := of_eq_true t1; omega)]
    simp (disch := omega) only [go_sem, seval, wqq, f1, f6, f7, pI, zan, t1]
   ·rcases zdD (p 8 > 1073741824) with t2 | t2
    ·rw [bad 8 (by decide) (by have := of_eq_true t2; omega)]
     simp (disch := omega) only [go_sem, seval, wqq, f1, f6, f7, pI, zan, t1, t2]
    ·have u1 := of_eq_false t1
     have u2 := of_eq_false t2
     simp (disch := omega) only [go_sem, seval, wqq, f1, f6, f7, pI, zan, t1, t2]
     exact ih 9 _ _ (by omega) ⟨by omega, nxt 8 (by omega) rfl, by simp only [go_sem, seval, f1], by simp only [go_sem, seval, f6], by simp only [go_sem, seval], rfl⟩
 ·obtain rfl : i = 9 := by omega
  rw [good hlo]
  by_cases h0 : dt.v = 0
  ·have c0 : (cmpI dt.v 0 = 0) = True := by rw [zaA]; simp [h0]
   rw [if_pos h0]
   simp (disch := omega) only [go_sem, seval, wqq, f1, f6, f7, hm, hd, sg, c0]
  ·have c0 : (cmpI dt.v 0 = 0) = False := by rw [zaA]; simp [h0]
   rw [if_neg h0]
   simp (disch := omega) only [go_sem, seval, wqq, f1, f6, f7, hm, hd, sg, c0]
end Go.Eng
namespace Go.Eng
def gN (X : Nat → Int) : Nat → Nat
 | 0 => 0
 | i + 1 => Nat.gcd (gN X i) (X i).natAbs
def fN (X : Nat → Int) : Nat → Int
 | 0 => 0
 | i + 1 => if fN X i = 0 then cmpI (X i) 0 else fN X i
theorem zge (X : Nat → Int) : ∀ i, fN X i = 0 ∨ fN X i = 1 ∨ fN X i = -1
 | 0 => .inl rfl
 | i + 1 => by
  have h := zdi (X i) 0
  have := zge X i
  unfold fN
  split <;> omega
theorem zfG (X : Nat → Int) : ∀ i, fN X i = 0 → gN X i = 0
 | 0, _ => rfl
 | i + 1, h => by
  unfold fN at h
  split at h
  ·rename_i h0
   have h1 := zfG X i h0
   rw [zaA] at h
   show Nat.gcd (gN X i) (X i).natAbs = 0
   rw [h1, h]; rfl
  ·rename_i h0; exact (h0 h).elim
noncomputable def gW (x : Nat → WI) : Nat → WI
 | 0 => wi0
 | i + 1 => (gW x i).gcd (x i)
theorem zr4 (x : Nat → WI) : ∀ i, (gW x i).v = (gN (fun e => (x e).v) i : Int)
 | 0 => rfl
 | i + 1 => by
  show ((Nat.gcd (gW x i).v.natAbs (x i).v.natAbs : Nat) : Int) = _
  rw [zr4 x i, Int.natAbs_natCast]; rfl
noncomputable def gC (x : Nat → WI) : Nat → List PV
 | 0 => [.b false, .nl]
 | i + 1 => [.b (decide ((gW x (i + 1)).v < 0)), D (gW x (i + 1)).v.natAbs]
def okN (X : Nat → Int) : Prop := ∀ e, e < 9 → -1073741824 ≤ X e / gN X 9 ∧ X e / gN X 9 ≤ 1073741824
open Classical in
noncomputable def nfP (X : Nat → Int) : Nat → Int := if okN X then fun e => X e / gN X 9 * fN X 9 else zI
open Classical in
noncomputable def nfE (X : Nat → Int) : Int := if okN X then 0 else 5
theorem pI0 : PV.ag [.i .i64 0, .i .i64 0, .i .i64 0, .i .i64 0, .i .i64 0, .i .i64 0, .i .i64 0, .i .i64 0, .i .i64 0] = pI zI := rfl
theorem zkD {q s : Int} (h1 : -9223372036854775808 ≤ q) (h2 : q ≤ 9223372036854775807) (ho : ¬ (-1073741824 ≤ q ∧ q ≤ 1073741824)) (hs : s = 1 ∨ s = -1) : IntKind.i64.wrap (q * s) < -1073741824 ∨ IntKind.i64.wrap (q * s) > 1073741824 := by
 rcases hs with rfl | rfl
 ·rw [Int.mul_one, wqa (by omega) (by omega)]; omega
 ·by_cases hm : q = -9223372036854775808
  ·subst hm; left; decide
  ·rw [show q * -1 = -q by omega, wqa (by omega) (by omega)]; omega
set_option maxHeartbeats 8000000 in
theorem zfR (x : Nat → WI) (hg : gN (fun e => (x e).v) 9 ≠ 0) : pf E0 314 [mW x] = some (.tu [pI (nfP fun e => (x e).v), .i .i64 (nfE fun e => (x e).v)]) := by
 obtain ⟨X, hX⟩ : ∃ X : Nat → Int, X = fun e => (x e).v := ⟨_, rfl⟩
 have gv := zr4 x 9
 rw [← hX] at hg gv ⊢
 have Xe : ∀ e, (x e).v = X e := fun e => by rw [hX]
 have fr9 := zge X 9
 have s9 : fN X 9 = 1 ∨ fN X 9 = -1 := by
  rcases fr9 with h | h
  ·exact (hg (zfG X 9 h)).elim
  ·exact h
 have gw0 : (gW x 9).v ≠ 0 := by rw [gv]; omega
 have bad : ∀ e, e < 9 → ¬ (-1073741824 ≤ X e / gN X 9 ∧ X e / gN X 9 ≤ 1073741824) → nfP X = zI ∧ nfE X = 5 := fun e he h => by
  have hn : ¬ okN X := fun q => h (q e he)
  exact ⟨by unfold nfP; rw [if_neg hn], by unfold nfE; rw [if_neg hn]⟩
 have good : okN X → nfP X = (fun e => X e / gN X 9 * fN X 9) ∧ nfE X = 0 := fun h => ⟨by unfold nfP; rw [if_pos h], by unfold nfE; rw [if_pos h]⟩
 generalize nfP X = P at *
 generalize nfE X = E at *
 have sgn : ∀ e, pf E0 31 [wiP (x e)] = some (.i .i64 (cmpI (X e) 0)) := fun e => by rw [← Xe]; exact zbw (x e)
 have gcd : ∀ e, pf E0 18 [wiP (gW x e), wiP (x e)] = some (wiP (gW x (e + 1))) := fun e => zfN (gW x e) (x e)
 refine zab (xf := x_proj_normal) rfl (by simp [x_proj_normal]) ?_
 simp only [x_proj_normal]
 simp (disch := omega) only [go_sem, seval, wqq]
 refine zas x_proj_normal_l1.eq_1 (fun (i : Nat) fr M => i ≤ 9 ∧ fr 1 = .p 0 0 ∧ fr 2 = .p 1 0 ∧ fr 4 = .p 2 0 ∧ fr 5 = .i .i64 (fN X i) ∧ fr 17 = mW x ∧ fr 18 = (PV.i .i64 ((i : Nat) : Int)) ∧ ∃ b v G, M = some ⟨cW x, true, 0⟩ :: some ⟨cQ 0 zI, true, b⟩ :: some ⟨gC x i, true, v⟩ :: G) (fun i => 9 - i) ?_ 0 ⟨by omega, by simp only [go_sem, seval], by simp only [go_sem, seval], by simp only [go_sem, seval], by simp only [go_sem, seval]; try rfl, by simp only [go_sem, seval], by simp only [go_sem, seval], _, _, [], rfl⟩
 rintro i fr M ⟨hi, f1, f2, f4, f5, f17, f18, b, v, G, rfl⟩ ih
 rcases Nat.lt_or_ge i 9 with h9 | h9
 ·have h5 := f5
  by_cases h0 : fN X i = 0
  ·have hs : fN X (i + 1) = cmpI (X i) 0 := by show (if fN X i = 0 then _ else _) = _; rw [if_pos h0]
   rw [h0] at f5
   obtain rfl | rfl | rfl | rfl | rfl | rfl | rfl | rfl | rfl := zeD h9
   ·have g1 := gcd 0
    have g2 := sgn 0
    simp (disch := omega) only [go_sem, seval, wqq, f1, f2, f4, f5, f17, f18, mW, zac, gC, g1, g2, mG, mG0, sG, sG0, lG, lqq]
    exact ih 1 _ _ (by omega) ⟨by omega, by simp only [go_sem, seval, f1], by simp only [go_sem, seval, f2], by simp only [go_sem, seval, f4], by rw [hs]; simp only [go_sem, seval], by simp only [go_sem, seval, f17], by simp only [go_sem, seval], _, _, _, rfl⟩
   ·have g1 := gcd 1
    have g2 := sgn 1
    simp (disch := omega) only [go_sem, seval, wqq, f1, f2, f4, f5, f17, f18, mW, zac, gC, g1, g2, mG, mG0, sG, sG0, lG, lqq]
    exact ih 2 _ _ (by omega) ⟨by omega, by simp only [go_sem, seval, f1], by simp only [go_sem, seval, f2], by simp only [go_sem, seval, f4], by rw [hs]; simp only [go_sem, seval], by simp only [go_sem, seval, f17], by simp only [go_sem, seval], _, _, _, rfl⟩
   ·have g1 := gcd 2
    have g2 := sgn 2
    simp (disch := omega) only [go_sem, seval, wqq, f1, f2, f4, f5, f17, f18, mW, zac, gC, g1, g2, mG, mG0, sG, sG0, lG, lqq]
    exact ih 3 _ _ (by omega) ⟨by omega, by simp only [go_sem, seval, f1], by simp only [go_sem, seval, f2], by simp only [go_sem, seval, f4], by rw [hs]; simp only [go_sem, seval], by simp only [go_sem, seval, f17], by simp only [go_sem, seval], _, _, _, rfl⟩
   ·have g1 := gcd 3
    have g2 := sgn 3
    simp (disch := omega) only [go_sem, seval, wqq, f1, f2, f4, f5, f17, f18, mW, zac, gC, g1, g2, mG, mG0, sG, sG0, lG, lqq]
    exact ih 4 _ _ (by omega) ⟨by omega, by simp only [go_sem, seval, f1], by simp only [go_sem, seval, f2], by simp only [go_sem, seval, f4], by rw [hs]; simp only [go_sem, seval], by simp only [go_sem, seval, f17], by simp only [go_sem, seval], _, _, _, rfl⟩
   ·have g1 := gcd 4
    have g2 := sgn 4
    simp (disch := omega) only [go_sem, seval, wqq, f1, f2, f4, f5, f17, f18, mW, zac, gC, g1, g2, mG, mG0, sG, sG0, lG, lqq]
    exact ih 5 _ _ (by omega) ⟨by omega, by simp only [go_sem, seval, f1], by simp only [go_sem, seval, f2], by simp only [go_sem, seval, f4], by rw [hs]; simp only [go_sem, seval], by simp only [go_sem, seval, f17], by simp only [go_sem, seval], _, _, _, rfl⟩
   ·have g1 := gcd 5
    have g2 := sgn 5
    simp (disch := omega) only [go_sem, seval, wqq, f1, f2, f4, f5, f17, f18, mW, zac, gC, g1, g2, mG, mG0, sG, sG0, lG, lqq]
    exact ih 6 _ _ (by omega) ⟨by omega, by simp only [go_sem, seval, f1], by simp only [go_sem, seval, f2], by simp only [go_sem, seval, f4], by rw [hs]; simp only [go_sem, seval], by simp only [go_sem, seval, f17], by simp only [go_sem, seval], _, _, _, rfl⟩
   ·have g1 := gcd 6
    have g2 := sgn 6
    simp (disch := omega) only [go_sem, seval, wqq, f1, f2, f4, f5, f17, f18, mW, zac, gC, g1, g2, mG, mG0, sG, sG0, lG, lqq]
    exact ih 7 _ _ (by omega) ⟨by omega, by simp only [go_sem, seval, f1], by simp only [go_sem, seval, f2], by simp only [go_sem, seval, f4], by rw [hs]; simp only [go_sem, seval], by simp only [go_sem, seval, f17], by simp only [go_sem, seval], _, _, _, rfl⟩
   ·have g1 := gcd 7
    have g2 := sgn 7
    simp (disch := omega) only [go_sem, seval, wqq, f1, f2, f4, f5, f17, f18, mW, zac, gC, g1, g2, mG, mG0, sG, sG0, lG, lqq]
    exact ih 8 _ _ (by omega) ⟨by omega, by simp only [go_sem, seval, f1], by simp only [go_sem, seval, f2], by simp only [go_sem, seval, f4], by rw [hs]; simp only [go_sem, seval], by simp only [go_sem, seval, f17], by simp only [go_sem, seval], _, _, _, rfl⟩
   ·have g1 := gcd 8
    have g2 := sgn 8
    simp (disch := omega) only [go_sem, seval, wqq, f1, f2, f4, f5, f17, f18, mW, zac, gC, g1, g2, mG, mG0, sG, sG0, lG, lqq]
    exact ih 9 _ _ (by omega) ⟨by omega, by simp only [go_sem, seval, f1], by simp only [go_sem, seval, f2], by simp only [go_sem, seval, f4], by rw [hs]; simp only [go_sem, seval], by simp only [go_sem, seval, f17], by simp only [go_sem, seval], _, _, _, rfl⟩
  ·have hs : fN X (i + 1) = fN X i := by show (if fN X i = 0 then _ else _) = _; rw [if_neg h0]
   have t0 : (fN X i = 0) = False := eq_false h0
   obtain rfl | rfl | rfl | rfl | rfl | rfl | rfl | rfl | rfl := zeD h9
   ·have g1 := gcd 0
    simp (disch := omega) only [go_sem, seval, wqq, f1, f2, f4, f5, f17, f18, mW, zac, gC, g1, t0, mG, mG0, sG, sG0, lG, lqq]
    exact ih 1 _ _ (by omega) ⟨by omega, by simp only [go_sem, seval, f1], by simp only [go_sem, seval, f2], by simp only [go_sem, seval, f4], by rw [hs]; simp only [go_sem, seval, f5], by simp only [go_sem, seval, f17], by simp only [go_sem, seval], _, _, _, rfl⟩
   ·have g1 := gcd 1
    simp (disch := omega) only [go_sem, seval, wqq, f1, f2, f4, f5, f17, f18, mW, zac, gC, g1, t0, mG, mG0, sG, sG0, lG, lqq]
    exact ih 2 _ _ (by omega) ⟨by omega, by simp only [go_sem, seval, f1], by simp only [go_sem, seval, f2], by simp only [go_sem, seval, f4], by rw [hs]; simp only [go_sem, seval, f5], by simp only [go_sem, seval, f17], by simp only [go_sem, seval], _, _, _, rfl⟩
   ·have g1 := gcd 2
    simp (disch := omega) only [go_sem, seval, wqq, f1, f2, f4, f5, f17, f18, mW, zac, gC, g1, t0, mG, mG0, sG, sG0, lG, lqq]
    exact ih 3 _ _ (by omega) ⟨by omega, by simp only [go_sem, seval, f1], by simp only [go_sem, seval, f2], by simp only [go_sem, seval, f4], by rw [hs]; simp only [go_sem, seval, f5], by simp only [go_sem, seval, f17], by simp only [go_sem, seval], _, _, _, rfl⟩
   ·have g1 := gcd 3
    simp (disch := omega) only [go_sem, seval, wqq, f1, f2, f4, f5, f17, f18, mW, zac, gC, g1, t0, mG, mG0, sG, sG0, lG, lqq]
    exact ih 4 _ _ (by omega) ⟨by omega, by simp only [go_sem, seval, f1], by simp only [go_sem, seval, f2], by simp only [go_sem, seval, f4], by rw [hs]; simp only [go_sem, seval, f5], by simp only [go_sem, seval, f17], by simp only [go_sem, seval], _, _, _, rfl⟩
   ·have g1 := gcd 4
    simp (disch := omega) only [go_sem, seval, wqq, f1, f2, f4, f5, f17, f18, mW, zac, gC, g1, t0, mG, mG0, sG, sG0, lG, lqq]
    exact ih 5 _ _ (by omega) ⟨by omega, by simp only [go_sem, seval, f1], by simp only [go_sem, seval, f2], by simp only [go_sem, seval, f4], by rw [hs]; simp only [go_sem, seval, f5], by simp only [go_sem, seval, f17], by simp only [go_sem, seval], _, _, _, rfl⟩
   ·have g1 := gcd 5
    simp (disch := omega) only [go_sem, seval, wqq, f1, f2, f4, f5, f17, f18, mW, zac, gC, g1, t0, mG, mG0, sG, sG0, lG, lqq]
    exact ih 6 _ _ (by omega) ⟨by omega, by simp only [go_sem, seval, f1], by simp only [go_sem, seval, f2], by simp only [go_sem, seval, f4], by rw [hs]; simp only [go_sem, seval, f5], by simp only [go_sem, seval, f17], by simp only [go_sem, seval], _, _, _, rfl⟩
   ·have g1 := gcd 6
    simp (disch := omega) only [go_sem, seval, wqq, f1, f2, f4, f5, f17, f18, mW, zac, gC, g1, t0, mG, mG0, sG, sG0, lG, lqq]
    exact ih 7 _ _ (by omega) ⟨by omega, by simp only [go_sem, seval, f1], by simp only [go_sem, seval, f2], by simp only [go_sem, seval, f4], by rw [hs]; simp only [go_sem, seval, f5], by simp only [go_sem, seval, f17], by simp only [go_sem, seval], _, _, _, rfl⟩
   ·have g1 := gcd 7
    simp (disch := omega) only [go_sem, seval, wqq, f1, f2, f4, f5, f17, f18, mW, zac, gC, g1, t0, mG, mG0, sG, sG0, lG, lqq]
    exact ih 8 _ _ (by omega) ⟨by omega, by simp only [go_sem, seval, f1], by simp only [go_sem, seval, f2], by simp only [go_sem, seval, f4], by rw [hs]; simp only [go_sem, seval, f5], by simp only [go_sem, seval, f17], by simp only [go_sem, seval], _, _, _, rfl⟩
   ·have g1 := gcd 8
    simp (disch := omega) only [go_sem, seval, wqq, f1, f2, f4, f5, f17, f18, mW, zac, gC, g1, t0, mG, mG0, sG, sG0, lG, lqq]
    exact ih 9 _ _ (by omega) ⟨by omega, by simp only [go_sem, seval, f1], by simp only [go_sem, seval, f2], by simp only [go_sem, seval, f4], by rw [hs]; simp only [go_sem, seval, f5], by simp only [go_sem, seval, f17], by simp only [go_sem, seval], _, _, _, rfl⟩
 ·obtain rfl : i = 9 := by omega
  clear ih
  have gC9 : gC x 9 = [.b (decide ((gW x 9).v < 0)), D (gW x 9).v.natAbs] := rfl
  generalize hgw : gW x 9 = g at *
  simp (disch := omega) only [go_sem, seval, wqq, f1, f2, f4, f5, f17, f18, gC9, mG, mG0, sG, sG0, lG, lqq]
  have dvq : ∀ e, ((x e).div g gw0).v = X e / gN X 9 := fun e => by
   show (x e).v / g.v = _
   rw [Xe, gv]
  refine zas x_proj_normal_l2.eq_1 (fun (i : Nat) fr M => i ≤ 9 ∧ (∀ e, e < i → -1073741824 ≤ X e / gN X 9 ∧ X e / gN X 9 ≤ 1073741824) ∧ fr 2 = .p 1 0 ∧ fr 4 = .p 2 0 ∧ fr 5 = .i .i64 (fN X 9) ∧ fr 8 = .p (G.length + 3) 0 ∧ fr 29 = mW x ∧ fr 30 = (PV.i .i64 ((i : Nat) : Int)) ∧ ∃ b v R, M = some ⟨cW x, true, 0⟩ :: some ⟨cQ 0 zI, true, b⟩ :: some ⟨[.b (decide (g.v < 0)), D g.v.natAbs], true, v⟩ :: (G ++ (some ⟨cQ i (fun e => X e / gN X 9 * fN X 9), true, i⟩ :: R)))
   (fun i => 9 - i) ?_ 0 ⟨by omega, fun e he => by omega, by simp only [go_sem, seval, f2], by simp only [go_sem, seval, f4], by simp only [go_sem, seval, f5], by simp only [go_sem, seval], by simp only [go_sem, seval], by simp only [go_sem, seval], b, v, [], rfl⟩
  clear b v f1 f2 f4 f5 f17 f18
  rintro i fr M ⟨hi, hlo, f2, f4, f5, f8, f29, f30, b, v, R, rfl⟩ ih
  rcases Nat.lt_or_ge i 9 with h9 | h9
  ·have nxt : ∀ j, (-1073741824 ≤ X j / gN X 9 ∧ X j / gN X 9 ≤ 1073741824) → j = i → ∀ e, e < j + 1 → -1073741824 ≤ X e / gN X 9 ∧ X e / gN X 9 ≤ 1073741824 := fun j hj hji e he => by
    subst hji
    rcases Nat.lt_or_ge e j with h | h
    ·exact hlo e h
    ·obtain rfl : e = j := by omega
     exact hj
   have dv := ziA (x i) g gw0
   have sm := zeH ((x i).div g gw0)
   have dq := dvq i
   generalize (x i).div g gw0 = d at *
   generalize (x i).mod g gw0 = d2 at *
   by_cases hq : -1073741824 ≤ X i / gN X 9 ∧ X i / gN X 9 ≤ 1073741824
   ·have nx := nxt i hq rfl
    have s1 : isSmall d.v = true := by unfold isSmall; exact decide_eq_true (by rw [dq]; omega)
    have s2 : small d.v = X i / gN X 9 := by unfold small; rw [s1, dq]; rfl
    rw [s1, s2] at sm
    have hqs : -1073741824 ≤ X i / gN X 9 * fN X 9 ∧ X i / gN X 9 * fN X 9 ≤ 1073741824 := by
     rcases s9 with h | h <;> rw [h] <;> omega
    clear dvq bad nxt
    generalize hQ : (fun e => X e / (gN X 9 : Int) * fN X 9) = Y at *
    have hY : X i / gN X 9 * fN X 9 = Y i := by rw [← hQ]
    have t1 : (Y i < -1073741824) = False := eq_false (by omega)
    have t2 : (Y i > 1073741824) = False := eq_false (by omega)
    rw [hY] at hqs
    generalize X i / (gN X 9 : Int) = q at *
    obtain rfl | rfl | rfl | rfl | rfl | rfl | rfl | rfl | rfl := zeD h9
    ·simp (disch := omega) only [go_sem, seval, wqq, f2, f4, f5, f8, f29, f30, mW, zac, dv, sm, hY, t1, t2, mG, mG0, sG, sG0, lG, lqq]
     exact ih 1 _ _ (by omega) ⟨by omega, nx, by simp only [go_sem, seval, f2], by simp only [go_sem, seval, f4], by simp only [go_sem, seval, f5], by simp only [go_sem, seval, f8], by simp only [go_sem, seval, f29], by simp only [go_sem, seval], b, v, _, rfl⟩
    ·simp (disch := omega) only [go_sem, seval, wqq, f2, f4, f5, f8, f29, f30, mW, zac, dv, sm, hY, t1, t2, mG, mG0, sG, sG0, lG, lqq]
     exact ih 2 _ _ (by omega) ⟨by omega, nx, by simp only [go_sem, seval, f2], by simp only [go_sem, seval, f4], by simp only [go_sem, seval, f5], by simp only [go_sem, seval, f8], by simp only [go_sem, seval, f29], by simp only [go_sem, seval], b, v, _, rfl⟩
    ·simp (disch := omega) only [go_sem, seval, wqq, f2, f4, f5, f8, f29, f30, mW, zac, dv, sm, hY, t1, t2, mG, mG0, sG, sG0, lG, lqq]
     exact ih 3 _ _ (by omega) ⟨by omega, nx, by simp only [go_sem, seval, f2], by simp only [go_sem, seval, f4], by simp only [go_sem, seval, f5], by simp only [go_sem, seval, f8], by simp only [go_sem, seval, f29], by simp only [go_sem, seval], b, v, _, rfl⟩
    ·simp (disch := omega) only [go_sem, seval, wqq, f2, f4, f5, f8, f29, f30, mW, zac, dv, sm, hY, t1, t2, mG, mG0, sG, sG0, lG, lqq]
     exact ih 4 _ _ (by omega) ⟨by omega, nx, by simp only [go_sem, seval, f2], by simp only [go_sem, seval, f4], by simp only [go_sem, seval, f5], by simp only [go_sem, seval, f8], by simp only [go_sem, seval, f29], by simp only [go_sem, seval], b, v, _, rfl⟩
    ·simp (disch := omega) only [go_sem, seval, wqq, f2, f4, f5, f8, f29, f30, mW, zac, dv, sm, hY, t1, t2, mG, mG0, sG, sG0, lG, lqq]
     exact ih 5 _ _ (by omega) ⟨by omega, nx, by simp only [go_sem, seval, f2], by simp only [go_sem, seval, f4], by simp only [go_sem, seval, f5], by simp only [go_sem, seval, f8], by simp only [go_sem, seval, f29], by simp only [go_sem, seval], b, v, _, rfl⟩
    ·simp (disch := omega) only [go_sem, seval, wqq, f2, f4, f5, f8, f29, f30, mW, zac, dv, sm, hY, t1, t2, mG, mG0, sG, sG0, lG, lqq]
     exact ih 6 _ _ (by omega) ⟨by omega, nx, by simp only [go_sem, seval, f2], by simp only [go_sem, seval, f4], by simp only [go_sem, seval, f5], by simp only [go_sem, seval, f8], by simp only [go_sem, seval, f29], by simp only [go_sem, seval], b, v, _, rfl⟩
    ·simp (disch := omega) only [go_sem, seval, wqq, f2, f4, f5, f8, f29, f30, mW, zac, dv, sm, hY, t1, t2, mG, mG0, sG, sG0, lG, lqq]
     exact ih 7 _ _ (by omega) ⟨by omega, nx, by simp only [go_sem, seval, f2], by simp only [go_sem, seval, f4], by simp only [go_sem, seval, f5], by simp only [go_sem, seval, f8], by simp only [go_sem, seval, f29], by simp only [go_sem, seval], b, v, _, rfl⟩
    ·simp (disch := omega) only [go_sem, seval, wqq, f2, f4, f5, f8, f29, f30, mW, zac, dv, sm, hY, t1, t2, mG, mG0, sG, sG0, lG, lqq]
     exact ih 8 _ _ (by omega) ⟨by omega, nx, by simp only [go_sem, seval, f2], by simp only [go_sem, seval, f4], by simp only [go_sem, seval, f5], by simp only [go_sem, seval, f8], by simp only [go_sem, seval, f29], by simp only [go_sem, seval], b, v, _, rfl⟩
    ·simp (disch := omega) only [go_sem, seval, wqq, f2, f4, f5, f8, f29, f30, mW, zac, dv, sm, hY, t1, t2, mG, mG0, sG, sG0, lG, lqq]
     exact ih 9 _ _ (by omega) ⟨by omega, nx, by simp only [go_sem, seval, f2], by simp only [go_sem, seval, f4], by simp only [go_sem, seval, f5], by simp only [go_sem, seval, f8], by simp only [go_sem, seval, f29], by simp only [go_sem, seval], b, v, _, rfl⟩
   ·obtain ⟨rfl, rfl⟩ := bad i h9 hq
    clear ih good dvq bad nxt
    by_cases hs : isSmall d.v = true
    ·have s2 : small d.v = X i / gN X 9 := by unfold small; rw [if_pos hs, dq]
     rw [hs, s2] at sm
     have hb : -9223372036854775808 ≤ X i / gN X 9 ∧ X i / gN X 9 ≤ 9223372036854775807 := by rw [← dq]; exact of_decide_eq_true hs
     have wo := zkD hb.1 hb.2 hq s9
     generalize X i / (gN X 9 : Int) = q at *
     generalize hW : IntKind.i64.wrap (q * fN X 9) = w at *
     rcases zdD (w < -1073741824) with t1 | t1
     ·obtain rfl | rfl | rfl | rfl | rfl | rfl | rfl | rfl | rfl := zeD h9 <;>
      simp (disch := omega) only [go_sem, seval, wqq, f2, f4, f5, f8, f29, f30, mW, zac, dv, sm, hW, t1, pI0, mG, mG0, sG, sG0, lG, lqq]
     ·have t2 : (w > 1073741824) = True := eq_true (by have := of_eq_false t1; omega)
      obtain rfl | rfl | rfl | rfl | rfl | rfl | rfl | rfl | rfl := zeD h9 <;>
      simp (disch := omega) only [go_sem, seval, wqq, f2, f4, f5, f8, f29, f30, mW, zac, dv, sm, hW, t1, t2, pI0, mG, mG0, sG, sG0, lG, lqq]
    ·have hs : isSmall d.v = false := by simpa using hs
     have s2 : small d.v = 0 := by unfold small; rw [hs]; rfl
     rw [hs, s2] at sm
     obtain rfl | rfl | rfl | rfl | rfl | rfl | rfl | rfl | rfl := zeD h9 <;>
     simp (disch := omega) only [go_sem, seval, wqq, f2, f4, f5, f8, f29, f30, mW, zac, dv, sm, pI0, mG, mG0, sG, sG0, lG, lqq]
  ·obtain rfl : i = 9 := by omega
   obtain ⟨rfl, rfl⟩ := good hlo
   simp (disch := omega) only [go_sem, seval, wqq, f2, f4, f5, f8, f29, f30, cQ9, mG, mG0, sG, sG0, lG, lqq]
end Go.Eng
namespace Go.Eng
end Go.Eng
namespace Go.Eng
def sB (n : Nat) : Nat → Bool := fun e => decide (e < n)
def rtK (a b c d e : Int) : Int := a * (b * c) - a * (d * e)
def rdV (z : Nat → Int) : Int := 0 + rtK (z 0) (z 4) (z 8) (z 5) (z 7) + rtK (z 1) (z 5) (z 6) (z 3) (z 8) + rtK (z 2) (z 3) (z 7) (z 4) (z 6)
end Go.Eng
namespace Go.Eng
end Go.Eng
namespace Go.Eng
noncomputable def pS (a b : Nat → WI) (i k : Nat) : Nat → WI
 | 0 => wi0
 | j + 1 => aW (pS a b i k j) (tW (a (3 * i + j)) (b (3 * j + k)))
noncomputable def prW (a b : Nat → WI) : Nat → WI := fun e => pS a b (e / 3) (e % 3) 3
set_option maxHeartbeats 4000000 in
theorem zk1 (a b : Nat → WI) : pf E0 316 [mW a, mW b] = some (mW (prW a b)) := by
 refine zab (xf := x_proj_product) rfl (by simp [x_proj_product]) ?_
 simp only [x_proj_product]
 simp (disch := omega) only [go_sem, seval, wqq]
 refine zas x_proj_product_l1.eq_1 (fun (i : Nat) fr M => i ≤ 3 ∧ fr 2 = .p 0 0 ∧ fr 3 = .p 1 0 ∧ fr 4 = .p 2 0 ∧ fr 5 = .p 3 0 ∧ fr 9 = (PV.i .i64 ((i : Nat) : Int)) ∧ ∃ c v, M = [some ⟨cW a, true, 0⟩, some ⟨cW b, true, 0⟩, some ⟨cP 0 zW, true, c⟩, some ⟨cS (sB (3 * i)) (prW a b), true, v⟩]) (fun i => 3 - i) ?_ 0 ⟨by omega, by simp only [go_sem, seval], by simp only [go_sem, seval], by simp only [go_sem, seval], by simp only [go_sem, seval], by simp only [go_sem, seval], _, _, rfl⟩
 rintro i fr M ⟨hi, f2, f3, f4, f5, f9, c, v, rfl⟩ ih
 rcases Nat.lt_or_ge i 3 with h3 | h3
 ·have q1 : ((i : Int) < 3) = True := eq_true (by omega)
  simp (disch := omega) only [go_sem, seval, wqq, f2, f3, f4, f5, f9, q1]
  refine zas x_proj_product_l2.eq_1 (fun (k : Nat) fr M => k ≤ 3 ∧ fr 2 = .p 0 0 ∧ fr 3 = .p 1 0 ∧ fr 4 = .p 2 0 ∧ fr 5 = .p 3 0 ∧ fr 9 = (PV.i .i64 ((i : Nat) : Int)) ∧ fr 6 = (PV.i .i64 ((i : Nat) : Int)) ∧ fr 12 = (PV.i .i64 ((k : Nat) : Int)) ∧ ∃ c v, M = [some ⟨cW a, true, 0⟩, some ⟨cW b, true, 0⟩, some ⟨cP 0 zW, true, c⟩, some ⟨cS (sB (3 * i + k)) (prW a b), true, v⟩]) (fun k => 3 - k) ?_ 0 ⟨by omega, by simp only [go_sem, seval, f2], by simp only [go_sem, seval, f3], by simp only [go_sem, seval, f4], by simp only [go_sem, seval, f5], by simp only [go_sem, seval, f9], by simp only [go_sem, seval], by simp only [go_sem, seval], _, _, rfl⟩
  rintro k fr M ⟨hk, f2, f3, f4, f5, f9, f6, f12, c, v, rfl⟩ ih2
  rcases Nat.lt_or_ge k 3 with h4 | h4
  ·have q2 : ((k : Int) < 3) = True := eq_true (by omega)
   obtain rfl | rfl | rfl := zhl h3 <;> obtain rfl | rfl | rfl := zhl h4
   ·have t1 := zal (a 0) (b 0)
    have t2 := zal (a 1) (b 3)
    have t3 := zal (a 2) (b 6)
    have s1 := zav wi0 (tW (a 0) (b 0))
    have s2 := zav (aW wi0 (tW (a 0) (b 0))) (tW (a 1) (b 3))
    have s3 := zav (aW (aW wi0 (tW (a 0) (b 0))) (tW (a 1) (b 3))) (tW (a 2) (b 6))
    simp (disch := omega) only [go_sem, seval, wqq, f2, f3, f4, f5, f9, f6, f12]
    refine zad x_proj_product_l3.eq_1 ?_
    simp (disch := omega) only [go_sem, seval, wqq, f2, f3, f4, f5, f9, f6, f12]
    refine zaf [26] rfl ?_ ?_
    ·simp (disch := omega) only [go_sem, seval, wqq, f2, f3, f4, f5, f9, f6, f12, zac, zao, sB, t1, s1]
     exact ⟨_, rfl, rfl⟩
    simp (disch := omega) only [go_sem, seval, wqq, f2, f3, f4, f5, f9, f6, f12, zac, zao, sB, t1, s1]
    refine zad x_proj_product_l3.eq_1 ?_
    simp (disch := omega) only [go_sem, seval, wqq, f2, f3, f4, f5, f9, f6, f12]
    refine zaf [26] rfl ?_ ?_
    ·simp (disch := omega) only [go_sem, seval, wqq, f2, f3, f4, f5, f9, f6, f12, zac, zao, sB, t2, s2]
     exact ⟨_, rfl, rfl⟩
    simp (disch := omega) only [go_sem, seval, wqq, f2, f3, f4, f5, f9, f6, f12, zac, zao, sB, t2, s2]
    refine zad x_proj_product_l3.eq_1 ?_
    simp (disch := omega) only [go_sem, seval, wqq, f2, f3, f4, f5, f9, f6, f12]
    refine zaf [26] rfl ?_ ?_
    ·simp (disch := omega) only [go_sem, seval, wqq, f2, f3, f4, f5, f9, f6, f12, zac, zao, sB, t3, s3]
     exact ⟨_, rfl, rfl⟩
    simp (disch := omega) only [go_sem, seval, wqq, f2, f3, f4, f5, f9, f6, f12, zac, zao, sB, t3, s3]
    refine zad x_proj_product_l3.eq_1 ?_
    simp (disch := omega) only [go_sem, seval, wqq, f2, f3, f4, f5, f9, f6, f12]
    exact ih2 1 _ _ (by omega) ⟨by omega, by simp only [go_sem, seval, f2], by simp only [go_sem, seval, f3], by simp only [go_sem, seval, f4], by simp only [go_sem, seval, f5], by simp only [go_sem, seval, f9], by simp only [go_sem, seval, f6], by simp only [go_sem, seval], _, _, rfl⟩
   ·have t1 := zal (a 0) (b 1)
    have t2 := zal (a 1) (b 4)
    have t3 := zal (a 2) (b 7)
    have s1 := zav wi0 (tW (a 0) (b 1))
    have s2 := zav (aW wi0 (tW (a 0) (b 1))) (tW (a 1) (b 4))
    have s3 := zav (aW (aW wi0 (tW (a 0) (b 1))) (tW (a 1) (b 4))) (tW (a 2) (b 7))
    simp (disch := omega) only [go_sem, seval, wqq, f2, f3, f4, f5, f9, f6, f12]
    refine zad x_proj_product_l3.eq_1 ?_
    simp (disch := omega) only [go_sem, seval, wqq, f2, f3, f4, f5, f9, f6, f12]
    refine zaf [26] rfl ?_ ?_
    ·simp (disch := omega) only [go_sem, seval, wqq, f2, f3, f4, f5, f9, f6, f12, zac, zao, sB, t1, s1]
     exact ⟨_, rfl, rfl⟩
    simp (disch := omega) only [go_sem, seval, wqq, f2, f3, f4, f5, f9, f6, f12, zac, zao, sB, t1, s1]
    refine zad x_proj_product_l3.eq_1 ?_
    simp (disch := omega) only [go_sem, seval, wqq, f2, f3, f4, f5, f9, f6, f12]
    refine zaf [26] rfl ?_ ?_
    ·simp (disch := omega) only [go_sem, seval, wqq, f2, f3, f4, f5, f9, f6, f12, zac, zao, sB, t2, s2]
     exact ⟨_, rfl, rfl⟩
    simp (disch := omega) only [go_sem, seval, wqq, f2, f3, f4, f5, f9, f6, f12, zac, zao, sB, t2, s2]
    refine zad x_proj_product_l3.eq_1 ?_
    simp (disch := omega) only [go_sem, seval, wqq, f2, f3, f4, f5, f9, f6, f12]
    refine zaf [26] rfl ?_ ?_
    ·simp (disch := omega) only [go_sem, seval, wqq, f2, f3, f4, f5, f9, f6, f12, zac, zao, sB, t3, s3]
     exact ⟨_, rfl, rfl⟩
    simp (disch := omega) only [go_sem, seval, wqq, f2, f3, f4, f5, f9, f6, f12, zac, zao, sB, t3, s3]
    refine zad x_proj_product_l3.eq_1 ?_
    simp (disch := omega) only [go_sem, seval, wqq, f2, f3, f4, f5, f9, f6, f12]
    exact ih2 2 _ _ (by omega) ⟨by omega, by simp only [go_sem, seval, f2], by simp only [go_sem, seval, f3], by simp only [go_sem, seval, f4], by simp only [go_sem, seval, f5], by simp only [go_sem, seval, f9], by simp only [go_sem, seval, f6], by simp only [go_sem, seval], _, _, rfl⟩
   ·have t1 := zal (a 0) (b 2)
    have t2 := zal (a 1) (b 5)
    have t3 := zal (a 2) (b 8)
    have s1 := zav wi0 (tW (a 0) (b 2))
    have s2 := zav (aW wi0 (tW (a 0) (b 2))) (tW (a 1) (b 5))
    have s3 := zav (aW (aW wi0 (tW (a 0) (b 2))) (tW (a 1) (b 5))) (tW (a 2) (b 8))
    simp (disch := omega) only [go_sem, seval, wqq, f2, f3, f4, f5, f9, f6, f12]
    refine zad x_proj_product_l3.eq_1 ?_
    simp (disch := omega) only [go_sem, seval, wqq, f2, f3, f4, f5, f9, f6, f12]
    refine zaf [26] rfl ?_ ?_
    ·simp (disch := omega) only [go_sem, seval, wqq, f2, f3, f4, f5, f9, f6, f12, zac, zao, sB, t1, s1]
     exact ⟨_, rfl, rfl⟩
    simp (disch := omega) only [go_sem, seval, wqq, f2, f3, f4, f5, f9, f6, f12, zac, zao, sB, t1, s1]
    refine zad x_proj_product_l3.eq_1 ?_
    simp (disch := omega) only [go_sem, seval, wqq, f2, f3, f4, f5, f9, f6, f12]
    refine zaf [26] rfl ?_ ?_
    ·simp (disch := omega) only [go_sem, seval, wqq, f2, f3, f4, f5, f9, f6, f12, zac, zao, sB, t2, s2]
     exact ⟨_, rfl, rfl⟩
    simp (disch := omega) only [go_sem, seval, wqq, f2, f3, f4, f5, f9, f6, f12, zac, zao, sB, t2, s2]
    refine zad x_proj_product_l3.eq_1 ?_
    simp (disch := omega) only [go_sem, seval, wqq, f2, f3, f4, f5, f9, f6, f12]
    refine zaf [26] rfl ?_ ?_
    ·simp (disch := omega) only [go_sem, seval, wqq, f2, f3, f4, f5, f9, f6, f12, zac, zao, sB, t3, s3]
     exact ⟨_, rfl, rfl⟩
    simp (disch := omega) only [go_sem, seval, wqq, f2, f3, f4, f5, f9, f6, f12, zac, zao, sB, t3, s3]
    refine zad x_proj_product_l3.eq_1 ?_
    simp (disch := omega) only [go_sem, seval, wqq, f2, f3, f4, f5, f9, f6, f12]
    exact ih2 3 _ _ (by omega) ⟨by omega, by simp only [go_sem, seval, f2], by simp only [go_sem, seval, f3], by simp only [go_sem, seval, f4], by simp only [go_sem, seval, f5], by simp only [go_sem, seval, f9], by simp only [go_sem, seval, f6], by simp only [go_sem, seval], _, _, rfl⟩
   ·have t1 := zal (a 3) (b 0)
    have t2 := zal (a 4) (b 3)
    have t3 := zal (a 5) (b 6)
    have s1 := zav wi0 (tW (a 3) (b 0))
    have s2 := zav (aW wi0 (tW (a 3) (b 0))) (tW (a 4) (b 3))
    have s3 := zav (aW (aW wi0 (tW (a 3) (b 0))) (tW (a 4) (b 3))) (tW (a 5) (b 6))
    simp (disch := omega) only [go_sem, seval, wqq, f2, f3, f4, f5, f9, f6, f12]
    refine zad x_proj_product_l3.eq_1 ?_
    simp (disch := omega) only [go_sem, seval, wqq, f2, f3, f4, f5, f9, f6, f12]
    refine zaf [26] rfl ?_ ?_
    ·simp (disch := omega) only [go_sem, seval, wqq, f2, f3, f4, f5, f9, f6, f12, zac, zao, sB, t1, s1]
     exact ⟨_, rfl, rfl⟩
    simp (disch := omega) only [go_sem, seval, wqq, f2, f3, f4, f5, f9, f6, f12, zac, zao, sB, t1, s1]
    refine zad x_proj_product_l3.eq_1 ?_
    simp (disch := omega) only [go_sem, seval, wqq, f2, f3, f4, f5, f9, f6, f12]
    refine zaf [26] rfl ?_ ?_
    ·simp (disch := omega) only [go_sem, seval, wqq, f2, f3, f4, f5, f9, f6, f12, zac, zao, sB, t2, s2]
     exact ⟨_, rfl, rfl⟩
    simp (disch := omega) only [go_sem, seval, wqq, f2, f3, f4, f5, f9, f6, f12, zac, zao, sB, t2, s2]
    refine zad x_proj_product_l3.eq_1 ?_
    simp (disch := omega) only [go_sem, seval, wqq, f2, f3, f4, f5, f9, f6, f12]
    refine zaf [26] rfl ?_ ?_
    ·simp (disch := omega) only [go_sem, seval, wqq, f2, f3, f4, f5, f9, f6, f12, zac, zao, sB, t3, s3]
     exact ⟨_, rfl, rfl⟩
    simp (disch := omega) only [go_sem, seval, wqq, f2, f3, f4, f5, f9, f6, f12, zac, zao, sB, t3, s3]
    refine zad x_proj_product_l3.eq_1 ?_
    simp (disch := omega) only [go_sem, seval, wqq, f2, f3, f4, f5, f9, f6, f12]
    exact ih2 1 _ _ (by omega) ⟨by omega, by simp only [go_sem, seval, f2], by simp only [go_sem, seval, f3], by simp only [go_sem, seval, f4], by simp only [go_sem, seval, f5], by simp only [go_sem, seval, f9], by simp only [go_sem, seval, f6], by simp only [go_sem, seval], _, _, rfl⟩
   ·have t1 := zal (a 3) (b 1)
    have t2 := zal (a 4) (b 4)
    have t3 := zal (a 5) (b 7)
    have s1 := zav wi0 (tW (a 3) (b 1))
    have s2 := zav (aW wi0 (tW (a 3) (b 1))) (tW (a 4) (b 4))
    have s3 := zav (aW (aW wi0 (tW (a 3) (b 1))) (tW (a 4) (b 4))) (tW (a 5) (b 7))
    simp (disch := omega) only [go_sem, seval, wqq, f2, f3, f4, f5, f9, f6, f12]
    refine zad x_proj_product_l3.eq_1 ?_
    simp (disch := omega) only [go_sem, seval, wqq, f2, f3, f4, f5, f9, f6, f12]
    refine zaf [26] rfl ?_ ?_
    ·simp (disch := omega) only [go_sem, seval, wqq, f2, f3, f4, f5, f9, f6, f12, zac, zao, sB, t1, s1]
     exact ⟨_, rfl, rfl⟩
    simp (disch := omega) only [go_sem, seval, wqq, f2, f3, f4, f5, f9, f6, f12, zac, zao, sB, t1, s1]
    refine zad x_proj_product_l3.eq_1 ?_
    simp (disch := omega) only [go_sem, seval, wqq, f2, f3, f4, f5, f9, f6, f12]
    refine zaf [26] rfl ?_ ?_
    ·simp (disch := omega) only [go_sem, seval, wqq, f2, f3, f4, f5, f9, f6, f12, zac, zao, sB, t2, s2]
     exact ⟨_, rfl, rfl⟩
    simp (disch := omega) only [go_sem, seval, wqq, f2, f3, f4, f5, f9, f6, f12, zac, zao, sB, t2, s2]
    refine zad x_proj_product_l3.eq_1 ?_
    simp (disch := omega) only [go_sem, seval, wqq, f2, f3, f4, f5, f9, f6, f12]
    refine zaf [26] rfl ?_ ?_
    ·simp (disch := omega) only [go_sem, seval, wqq, f2, f3, f4, f5, f9, f6, f12, zac, zao, sB, t3, s3]
     exact ⟨_, rfl, rfl⟩
    simp (disch := omega) only [go_sem, seval, wqq, f2, f3, f4, f5, f9, f6, f12, zac, zao, sB, t3, s3]
    refine zad x_proj_product_l3.eq_1 ?_
    simp (disch := omega) only [go_sem, seval, wqq, f2, f3, f4, f5, f9, f6, f12]
    exact ih2 2 _ _ (by omega) ⟨by omega, by simp only [go_sem, seval, f2], by simp only [go_sem, seval, f3], by simp only [go_sem, seval, f4], by simp only [go_sem, seval, f5], by simp only [go_sem, seval, f9], by simp only [go_sem, seval, f6], by simp only [go_sem, seval], _, _, rfl⟩
   ·have t1 := zal (a 3) (b 2)
    have t2 := zal (a 4) (b 5)
    have t3 := zal (a 5) (b 8)
    have s1 := zav wi0 (tW (a 3) (b 2))
    have s2 := zav (aW wi0 (tW (a 3) (b 2))) (tW (a 4) (b 5))
    have s3 := zav (aW (aW wi0 (tW (a 3) (b 2))) (tW (a 4) (b 5))) (tW (a 5) (b 8))
    simp (disch := omega) only [go_sem, seval, wqq, f2, f3, f4, f5, f9, f6, f12]
    refine zad x_proj_product_l3.eq_1 ?_
    simp (disch := omega) only [go_sem, seval, wqq, f2, f3, f4, f5, f9, f6, f12]
    refine zaf [26] rfl ?_ ?_
    ·simp (disch := omega) only [go_sem, seval, wqq, f2, f3, f4, f5, f9, f6, f12, zac, zao, sB, t1, s1]
     exact ⟨_, rfl, rfl⟩
    simp (disch := omega) only [go_sem, seval, wqq, f2, f3, f4, f5, f9, f6, f12, zac, zao, sB, t1, s1]
    refine zad x_proj_product_l3.eq_1 ?_
    simp (disch := omega) only [go_sem, seval, wqq, f2, f3, f4, f5, f9, f6, f12]
    refine zaf [26] rfl ?_ ?_
    ·simp (disch := omega) only [go_sem, seval, wqq, f2, f3, f4, f5, f9, f6, f12, zac, zao, sB, t2, s2]
     exact ⟨_, rfl, rfl⟩
    simp (disch := omega) only [go_sem, seval, wqq, f2, f3, f4, f5, f9, f6, f12, zac, zao, sB, t2, s2]
    refine zad x_proj_product_l3.eq_1 ?_
    simp (disch := omega) only [go_sem, seval, wqq, f2, f3, f4, f5, f9, f6, f12]
    refine zaf [26] rfl ?_ ?_
    ·simp (disch := omega) only [go_sem, seval, wqq, f2, f3, f4, f5, f9, f6, f12, zac, zao, sB, t3, s3]
     exact ⟨_, rfl, rfl⟩
    simp (disch := omega) only [go_sem, seval, wqq, f2, f3, f4, f5, f9, f6, f12, zac, zao, sB, t3, s3]
    refine zad x_proj_product_l3.eq_1 ?_
    simp (disch := omega) only [go_sem, seval, wqq, f2, f3, f4, f5, f9, f6, f12]
    exact ih2 3 _ _ (by omega) ⟨by omega, by simp only [go_sem, seval, f2], by simp only [go_sem, seval, f3], by simp only [go_sem, seval, f4], by simp only [go_sem, seval, f5], by simp only [go_sem, seval, f9], by simp only [go_sem, seval, f6], by simp only [go_sem, seval], _, _, rfl⟩
   ·have t1 := zal (a 6) (b 0)
    have t2 := zal (a 7) (b 3)
    have t3 := zal (a 8) (b 6)
    have s1 := zav wi0 (tW (a 6) (b 0))
    have s2 := zav (aW wi0 (tW (a 6) (b 0))) (tW (a 7) (b 3))
    have s3 := zav (aW (aW wi0 (tW (a 6) (b 0))) (tW (a 7) (b 3))) (tW (a 8) (b 6))
    simp (disch := omega) only [go_sem, seval, wqq, f2, f3, f4, f5, f9, f6, f12]
    refine zad x_proj_product_l3.eq_1 ?_
    simp (disch := omega) only [go_sem, seval, wqq, f2, f3, f4, f5, f9, f6, f12]
    refine zaf [26] rfl ?_ ?_
    ·simp (disch := omega) only [go_sem, seval, wqq, f2, f3, f4, f5, f9, f6, f12, zac, zao, sB, t1, s1]
     exact ⟨_, rfl, rfl⟩
    simp (disch := omega) only [go_sem, seval, wqq, f2, f3, f4, f5, f9, f6, f12, zac, zao, sB, t1, s1]
    refine zad x_proj_product_l3.eq_1 ?_
    simp (disch := omega) only [go_sem, seval, wqq, f2, f3, f4, f5, f9, f6, f12]
    refine zaf [26] rfl ?_ ?_
    ·simp (disch := omega) only [go_sem, seval, wqq, f2, f3, f4, f5, f9, f6, f12, zac, zao, sB, t2, s2]
     exact ⟨_, rfl, rfl⟩
    simp (disch := omega) only [go_sem, seval, wqq, f2, f3, f4, f5, f9, f6, f12, zac, zao, sB, t2, s2]
    refine zad x_proj_product_l3.eq_1 ?_
    simp (disch := omega) only [go_sem, seval, wqq, f2, f3, f4, f5, f9, f6, f12]
    refine zaf [26] rfl ?_ ?_
    ·simp (disch := omega) only [go_sem, seval, wqq, f2, f3, f4, f5, f9, f6, f12, zac, zao, sB, t3, s3]
     exact ⟨_, rfl, rfl⟩
    simp (disch := omega) only [go_sem, seval, wqq, f2, f3, f4, f5, f9, f6, f12, zac, zao, sB, t3, s3]
    refine zad x_proj_product_l3.eq_1 ?_
    simp (disch := omega) only [go_sem, seval, wqq, f2, f3, f4, f5, f9, f6, f12]
    exact ih2 1 _ _ (by omega) ⟨by omega, by simp only [go_sem, seval, f2], by simp only [go_sem, seval, f3], by simp only [go_sem, seval, f4], by simp only [go_sem, seval, f5], by simp only [go_sem, seval, f9], by simp only [go_sem, seval, f6], by simp only [go_sem, seval], _, _, rfl⟩
   ·have t1 := zal (a 6) (b 1)
    have t2 := zal (a 7) (b 4)
    have t3 := zal (a 8) (b 7)
    have s1 := zav wi0 (tW (a 6) (b 1))
    have s2 := zav (aW wi0 (tW (a 6) (b 1))) (tW (a 7) (b 4))
    have s3 := zav (aW (aW wi0 (tW (a 6) (b 1))) (tW (a 7) (b 4))) (tW (a 8) (b 7))
    simp (disch := omega) only [go_sem, seval, wqq, f2, f3, f4, f5, f9, f6, f12]
    refine zad x_proj_product_l3.eq_1 ?_
    simp (disch := omega) only [go_sem, seval, wqq, f2, f3, f4, f5, f9, f6, f12]
    refine zaf [26] rfl ?_ ?_
    ·simp (disch := omega) only [go_sem, seval, wqq, f2, f3, f4, f5, f9, f6, f12, zac, zao, sB, t1, s1]
     exact ⟨_, rfl, rfl⟩
    simp (disch := omega) only [go_sem, seval, wqq, f2, f3, f4, f5, f9, f6, f12, zac, zao, sB, t1, s1]
    refine zad x_proj_product_l3.eq_1 ?_
    simp (disch := omega) only [go_sem, seval, wqq, f2, f3, f4, f5, f9, f6, f12]
    refine zaf [26] rfl ?_ ?_
    ·simp (disch := omega) only [go_sem, seval, wqq, f2, f3, f4, f5, f9, f6, f12, zac, zao, sB, t2, s2]
     exact ⟨_, rfl, rfl⟩
    simp (disch := omega) only [go_sem, seval, wqq, f2, f3, f4, f5, f9, f6, f12, zac, zao, sB, t2, s2]
    refine zad x_proj_product_l3.eq_1 ?_
    simp (disch := omega) only [go_sem, seval, wqq, f2, f3, f4, f5, f9, f6, f12]
    refine zaf [26] rfl ?_ ?_
    ·simp (disch := omega) only [go_sem, seval, wqq, f2, f3, f4, f5, f9, f6, f12, zac, zao, sB, t3, s3]
     exact ⟨_, rfl, rfl⟩
    simp (disch := omega) only [go_sem, seval, wqq, f2, f3, f4, f5, f9, f6, f12, zac, zao, sB, t3, s3]
    refine zad x_proj_product_l3.eq_1 ?_
    simp (disch := omega) only [go_sem, seval, wqq, f2, f3, f4, f5, f9, f6, f12]
    exact ih2 2 _ _ (by omega) ⟨by omega, by simp only [go_sem, seval, f2], by simp only [go_sem, seval, f3], by simp only [go_sem, seval, f4], by simp only [go_sem, seval, f5], by simp only [go_sem, seval, f9], by simp only [go_sem, seval, f6], by simp only [go_sem, seval], _, _, rfl⟩
   ·have t1 := zal (a 6) (b 2)
    have t2 := zal (a 7) (b 5)
    have t3 := zal (a 8) (b 8)
    have s1 := zav wi0 (tW (a 6) (b 2))
    have s2 := zav (aW wi0 (tW (a 6) (b 2))) (tW (a 7) (b 5))
    have s3 := zav (aW (aW wi0 (tW (a 6) (b 2))) (tW (a 7) (b 5))) (tW (a 8) (b 8))
    simp (disch := omega) only [go_sem, seval, wqq, f2, f3, f4, f5, f9, f6, f12]
    refine zad x_proj_product_l3.eq_1 ?_
    simp (disch := omega) only [go_sem, seval, wqq, f2, f3, f4, f5, f9, f6, f12]
    refine zaf [26] rfl ?_ ?_
    ·simp (disch := omega) only [go_sem, seval, wqq, f2, f3, f4, f5, f9, f6, f12, zac, zao, sB, t1, s1]
     exact ⟨_, rfl, rfl⟩
    simp (disch := omega) only [go_sem, seval, wqq, f2, f3, f4, f5, f9, f6, f12, zac, zao, sB, t1, s1]
    refine zad x_proj_product_l3.eq_1 ?_
    simp (disch := omega) only [go_sem, seval, wqq, f2, f3, f4, f5, f9, f6, f12]
    refine zaf [26] rfl ?_ ?_
    ·simp (disch := omega) only [go_sem, seval, wqq, f2, f3, f4, f5, f9, f6, f12, zac, zao, sB, t2, s2]
     exact ⟨_, rfl, rfl⟩
    simp (disch := omega) only [go_sem, seval, wqq, f2, f3, f4, f5, f9, f6, f12, zac, zao, sB, t2, s2]
    refine zad x_proj_product_l3.eq_1 ?_
    simp (disch := omega) only [go_sem, seval, wqq, f2, f3, f4, f5, f9, f6, f12]
    refine zaf [26] rfl ?_ ?_
    ·simp (disch := omega) only [go_sem, seval, wqq, f2, f3, f4, f5, f9, f6, f12, zac, zao, sB, t3, s3]
     exact ⟨_, rfl, rfl⟩
    simp (disch := omega) only [go_sem, seval, wqq, f2, f3, f4, f5, f9, f6, f12, zac, zao, sB, t3, s3]
    refine zad x_proj_product_l3.eq_1 ?_
    simp (disch := omega) only [go_sem, seval, wqq, f2, f3, f4, f5, f9, f6, f12]
    exact ih2 3 _ _ (by omega) ⟨by omega, by simp only [go_sem, seval, f2], by simp only [go_sem, seval, f3], by simp only [go_sem, seval, f4], by simp only [go_sem, seval, f5], by simp only [go_sem, seval, f9], by simp only [go_sem, seval, f6], by simp only [go_sem, seval], _, _, rfl⟩
  ·obtain rfl : k = 3 := by omega
   simp (disch := omega) only [go_sem, seval, wqq, f2, f3, f4, f5, f9, f6, f12]
   exact ih (i + 1) _ _ (by omega) ⟨by omega, by simp only [go_sem, seval, f2], by simp only [go_sem, seval, f3], by simp only [go_sem, seval, f4], by simp only [go_sem, seval, f5], by simp only [go_sem, seval]; rw [Int.natCast_succ], c, v, rfl⟩
 ·obtain rfl : i = 3 := by omega
  have c9 : cS (sB (3 * 3)) (prW a b) = cW (prW a b) := rfl
  simp (disch := omega) only [go_sem, seval, wqq, f2, f3, f4, f5, f9, c9]
end Go.Eng
namespace Go.Eng
def rpK (a b c d e f : Int) : Int := 0 + a * b + c * d + e * f
def rprV (z u : Nat → Int) : Nat → Int := fun e => rpK (z (3 * (e / 3))) (u (e % 3)) (z (3 * (e / 3) + 1)) (u (3 + e % 3)) (z (3 * (e / 3) + 2)) (u (6 + e % 3))
end Go.Eng
namespace Go.Eng
end Go.Eng
namespace Go.Eng
theorem zcg (a b : Int) : wlen (a * b).natAbs ≤ wlen a.natAbs + wlen b.natAbs := by
 rw [Int.natAbs_mul]
 refine zaO.2 ?_
 rw [Nat.pow_add]
 exact Nat.mul_lt_mul'' (zag _) (zag _)
theorem zkB (a b : Nat) : wlen (a + b) ≤ max (wlen a) (wlen b) + 1 := by
 refine zaO.2 ?_
 have h1 : 4294967296 ^ wlen a ≤ 4294967296 ^ max (wlen a) (wlen b) := Nat.pow_le_pow_right (by decide) (Nat.le_max_left _ _)
 have h2 : 4294967296 ^ wlen b ≤ 4294967296 ^ max (wlen a) (wlen b) := Nat.pow_le_pow_right (by decide) (Nat.le_max_right _ _)
 have h3 := zag a
 have h4 := zag b
 rw [Nat.pow_succ]
 generalize 4294967296 ^ max (wlen a) (wlen b) = t at *
 omega
theorem zcf (a b : Int) : wlen (a + b).natAbs ≤ max (wlen a.natAbs) (wlen b.natAbs) + 1 :=
 Nat.le_trans (zbl (Int.natAbs_add_le a b)) (zkB _ _)
theorem zfq (a b : Int) : wlen (a - b).natAbs ≤ max (wlen a.natAbs) (wlen b.natAbs) + 1 := by
 have := zcf a (-b)
 rw [Int.natAbs_neg] at this
 rw [Int.sub_eq_add_neg]; exact this
theorem zks {a b : WI} {n m : Nat} (ha : wlen a.v.natAbs ≤ n) (hb : wlen b.v.natAbs ≤ m) (h : n + m ≤ 512) : (tW a b).v = a.v * b.v ∧ wlen (a.v * b.v).natAbs ≤ n + m := by
 have := zcg a.v b.v
 exact ⟨zdx (by omega), by omega⟩
theorem zm8 {a b : WI} {n m : Nat} (ha : wlen a.v.natAbs ≤ n) (hb : wlen b.v.natAbs ≤ m) (h : max n m + 1 ≤ 512) : (aW a b).v = a.v + b.v ∧ wlen (a.v + b.v).natAbs ≤ max n m + 1 := by
 have := zcf a.v b.v
 exact ⟨zdx (by omega), by omega⟩
theorem ztP {a b : WI} {n m : Nat} (ha : wlen a.v.natAbs ≤ n) (hb : wlen b.v.natAbs ≤ m) (h : max n m + 1 ≤ 512) : (sW a b).v = a.v - b.v ∧ wlen (a.v - b.v).natAbs ≤ max n m + 1 := by
 have := zfq a.v b.v
 exact ⟨zdx (by omega), by omega⟩
def mnV (X : Nat → Int) (i k : Nat) : Int := X (3 * ((i + 1) % 3) + (k + 1) % 3) * X (3 * ((i + 2) % 3) + (k + 2) % 3) - X (3 * ((i + 1) % 3) + (k + 2) % 3) * X (3 * ((i + 2) % 3) + (k + 1) % 3)
theorem znN {x : Nat → WI} {n : Nat} (hx : ∀ e, wlen (x e).v.natAbs ≤ n) (hn : n ≤ 100) (i k : Nat) : (mnW x i k).v = mnV (fun e => (x e).v) i k ∧ wlen (mnW x i k).v.natAbs ≤ 2 * n + 1 := by
 unfold mnW mnV
 obtain ⟨a1, a2⟩ := zks (hx (3 * ((i + 1) % 3) + (k + 1) % 3)) (hx (3 * ((i + 2) % 3) + (k + 2) % 3)) (by omega)
 obtain ⟨b1, b2⟩ := zks (hx (3 * ((i + 1) % 3) + (k + 2) % 3)) (hx (3 * ((i + 2) % 3) + (k + 1) % 3)) (by omega)
 rw [← a1] at a2
 rw [← b1] at b2
 obtain ⟨c1, c2⟩ := ztP a2 b2 (by omega)
 rw [a1, b1] at c1
 exact ⟨c1, by rw [← a1, ← b1] at c1; rw [c1]; omega⟩
theorem zpX {x : Nat → WI} {n : Nat} (hx : ∀ e, wlen (x e).v.natAbs ≤ n) (hn : n ≤ 100) : (dtW x).v = rdV (fun e => (x e).v) := by
 obtain ⟨a1, a2⟩ := znN hx hn 0 0
 obtain ⟨b1, b2⟩ := znN hx hn 0 1
 obtain ⟨c1, c2⟩ := znN hx hn 0 2
 obtain ⟨t1, u1⟩ := zks (hx 0) a2 (by omega)
 obtain ⟨t2, u2⟩ := zks (hx 1) b2 (by omega)
 obtain ⟨t3, u3⟩ := zks (hx 2) c2 (by omega)
 rw [← t1] at u1
 rw [← t2] at u2
 rw [← t3] at u3
 obtain ⟨s1, v1⟩ := zm8 u1 u2 (by omega)
 rw [← s1] at v1
 obtain ⟨s2, v2⟩ := zm8 v1 u3 (by omega)
 have e : (dtW x).v = (aW (aW (tW (x 0) (mnW x 0 0)) (tW (x 1) (mnW x 0 1))) (tW (x 2) (mnW x 0 2))).v := rfl
 rw [e, s2, s1, t1, t2, t3, a1, b1, c1]
 unfold rdV rtK mnV
 simp only [Nat.reduceAdd, Nat.reduceMul, Nat.reduceMod]
 generalize (x 0).v = y0
 generalize (x 1).v = y1
 generalize (x 2).v = y2
 generalize (x 3).v = y3
 generalize (x 4).v = y4
 generalize (x 5).v = y5
 generalize (x 6).v = y6
 generalize (x 7).v = y7
 generalize (x 8).v = y8
 grind
theorem zsQ {x y : Nat → WI} {n : Nat} (hx : ∀ e, wlen (x e).v.natAbs ≤ n) (hy : ∀ e, wlen (y e).v.natAbs ≤ n) (hn : n ≤ 100) (e : Nat) : (prW x y e).v = rprV (fun e => (x e).v) (fun e => (y e).v) e := by
 have e0 : prW x y e = aW (aW (aW wi0 (tW (x (3 * (e / 3) + 0)) (y (3 * 0 + e % 3)))) (tW (x (3 * (e / 3) + 1)) (y (3 * 1 + e % 3)))) (tW (x (3 * (e / 3) + 2)) (y (3 * 2 + e % 3))) := rfl
 obtain ⟨t1, u1⟩ := zks (hx (3 * (e / 3) + 0)) (hy (3 * 0 + e % 3)) (by omega)
 obtain ⟨t2, u2⟩ := zks (hx (3 * (e / 3) + 1)) (hy (3 * 1 + e % 3)) (by omega)
 obtain ⟨t3, u3⟩ := zks (hx (3 * (e / 3) + 2)) (hy (3 * 2 + e % 3)) (by omega)
 rw [← t1] at u1
 rw [← t2] at u2
 rw [← t3] at u3
 have z0 : wlen wi0.v.natAbs ≤ 0 := Nat.le_of_eq rfl
 obtain ⟨s1, v1⟩ := zm8 z0 u1 (by omega)
 rw [← s1] at v1
 obtain ⟨s2, v2⟩ := zm8 v1 u2 (by omega)
 rw [← s2] at v2
 obtain ⟨s3, _⟩ := zm8 v2 u3 (by omega)
 rw [e0, s3, s2, s1, t1, t2, t3]
 unfold rprV rpK
 simp only [Nat.add_zero, Nat.mul_zero, Nat.mul_one, Nat.zero_add]
 rfl
end Go.Eng
namespace Go.Eng
theorem zjX {p : Nat → Int} (hp : ∀ e, Fits64 (p e)) : (fun e => (ofW p e).v) = p := funext fun e => zl0 (hp e)
theorem zff {p : Nat → Int} (hp : ∀ e, Fits64 (p e)) (e : Nat) : wlen (ofW p e).v.natAbs ≤ 2 := by
 rw [zl0 (hp e)]
 have h := hp e
 unfold Fits64 at h
 exact zck (by omega)
theorem znv {p : Nat → Int} (hp : ∀ e, Fits64 (p e)) : (dtW (ofW p)).v = rdV p := by
 rw [zpX (zff hp) (by decide), zjX hp]
theorem zh2 {X : Nat → Int} : ∀ {i : Nat}, gN X i = 0 → ∀ e, e < i → X e = 0
 | 0, _, e, h => by omega
 | i + 1, h, e, he => by
  have h : Nat.gcd (gN X i) (X i).natAbs = 0 := h
  obtain ⟨h1, h2⟩ := Nat.gcd_eq_zero_iff.1 h
  rcases Nat.lt_or_ge e i with q | q
  ·exact zh2 h1 e q
  ·obtain rfl : e = i := by omega
   omega
theorem zkR {X Y : Nat → Int} : ∀ {i : Nat}, (∀ e, e < i → X e = Y e) → gN X i = gN Y i ∧ fN X i = fN Y i
 | 0, _ => ⟨rfl, rfl⟩
 | i + 1, h => by
  obtain ⟨a, b⟩ := zkR (i := i) fun e he => h e (by omega)
  have c := h i (by omega)
  exact ⟨by show Nat.gcd _ _ = Nat.gcd _ _; rw [a, c], by show (if fN X i = 0 then _ else _) = (if fN Y i = 0 then _ else _); rw [b, c]⟩
theorem zix {a b : Nat → Int} (h : ∀ e, e < 9 → a e = b e) : pI a = pI b := by
 unfold pI cI
 rw [h 0 (by decide), h 1 (by decide), h 2 (by decide), h 3 (by decide), h 4 (by decide), h 5 (by decide), h 6 (by decide), h 7 (by decide), h 8 (by decide)]
theorem znQ {X Y : Nat → Int} (h : ∀ e, e < 9 → X e = Y e) : pI (nfP X) = pI (nfP Y) ∧ nfE X = nfE Y := by
 obtain ⟨a, b⟩ := zkR h
 have ok : okN X ↔ okN Y := by
  unfold okN
  rw [a]
  exact ⟨fun q e he => by rw [← h e he]; exact q e he, fun q e he => by rw [h e he]; exact q e he⟩
 unfold nfP nfE
 by_cases hX : okN X
 ·rw [if_pos hX, if_pos hX, if_pos (ok.1 hX), if_pos (ok.1 hX)]
  exact ⟨zix fun e he => by rw [a, b, h e he], rfl⟩
 ·rw [if_neg hX, if_neg hX, if_neg fun q => hX (ok.2 q), if_neg fun q => hX (ok.2 q)]
  exact ⟨rfl, rfl⟩
theorem zi1 {X : Nat → Int} (h : gN X 9 = 0) : rdV X = 0 := by
 have z := zh2 h
 unfold rdV rtK
 rw [z 0 (by decide), z 1 (by decide), z 2 (by decide)]
 simp
def adV (X : Nat → Int) : Nat → Int := fun e => mnV X (e % 3) (e / 3)
theorem zro (X : Nat → Int) : rdV X = X 0 * adV X 0 + X 1 * adV X 3 + X 2 * adV X 6 := by
 unfold rdV rtK adV mnV
 simp only [Nat.reduceAdd, Nat.reduceMul, Nat.reduceMod, Nat.reduceDiv]
 grind
theorem zlr {X : Nat → Int} (h : gN (adV X) 9 = 0) : rdV X = 0 := by
 have z := zh2 h
 rw [zro, z 0 (by decide), z 3 (by decide), z 6 (by decide)]
 simp
theorem zgQ (X Y : Nat → Int) : rdV (rprV X Y) = rdV X * rdV Y := by
 unfold rdV rtK rprV rpK
 simp only [Nat.reduceAdd, Nat.reduceMul, Nat.reduceMod, Nat.reduceDiv, Nat.add_zero, Nat.zero_add, Nat.mul_zero]
 grind
end Go.Eng
namespace Go.Eng
@[go_sem] theorem sp9 (a b c d e f g h i : PV) (Y : Nat → Int) : psplice [a, b, c, d, e, f, g, h, i] 0 (cI Y) = cI Y := _root_.id rfl
theorem zcD {p : Nat → Int} (hp : ∀ e, Fits64 (p e)) (h : vlP p = 0) : rdV p ≠ 0 := fun q => by
 unfold vlP at h
 split at h
 ·rw [znv hp, q, if_pos rfl] at h; cases h
 ·cases h
open Classical in
noncomputable def IP (p : Nat → Int) : Nat → Int := if vlP p = 0 then nfP (adV p) else zI
open Classical in
noncomputable def IE (p : Nat → Int) : Int := if vlP p = 0 then nfE (adV p) else vlP p
open Classical in
noncomputable def CP (p q : Nat → Int) : Nat → Int := if vlP p = 0 then (if vlP q = 0 then nfP (rprV p q) else zI) else zI
open Classical in
noncomputable def CE (p q : Nat → Int) : Int := if vlP p = 0 then (if vlP q = 0 then nfE (rprV p q) else vlP q) else vlP p
theorem zrN {p : Nat → Int} (hp : ∀ e, Fits64 (p e)) : (fun e => (adW (ofW p) e).v) = adV p := funext fun e => by
 have := (znN (zff hp) (by decide) (e % 3) (e / 3)).1
 rw [zjX hp] at this
 exact this
theorem ziB {p : Nat → Int} (hp : ∀ e, Fits64 (p e)) : pf E0 308 [pI p] = some (.tu [pI (IP p), .i .i64 (IE p)]) := by
 have hv := zbX hp
 have hm := ziM hp
 have ha := zmm (ofW p)
 unfold IP IE
 by_cases h : vlP p = 0
 ·have hn := zfR (adW (ofW p)) (by rw [zrN hp]; exact fun q => zcD hp h (zlr q))
  rw [zrN hp] at hn
  rw [if_pos h, if_pos h]
  rw [h] at hv
  refine zab (xf := x_proj_Inverse) rfl (by simp [x_proj_Inverse]) ?_
  simp only [x_proj_Inverse]
  simp (disch := omega) only [go_sem, seval, wqq, hv, hm, ha, hn]
 ·rw [if_neg h, if_neg h]
  generalize vlP p = V at *
  have h : (V = 0) = False := eq_false h
  refine zab (xf := x_proj_Inverse) rfl (by simp [x_proj_Inverse]) ?_
  simp only [x_proj_Inverse]
  simp (disch := omega) only [go_sem, seval, wqq, hv, h, pI0]
end Go.Eng
namespace Go.Eng
def isPF (E : PEnv) : PV → Bool
 | .fn f _ => E.pure f
 | _ => false
def slotIn4 (E : PEnv) (ops : List XOper) (L V : List Nat) (c : Nat × Nat) : Bool :=
 match ops[c.1]?, ops[c.2]? with
 | some a, some b =>
  match a.op with
  | .load _ _ (.t s) => L.contains s && (match b.op with | .callv (.t v) _ => V.contains v && fixedX ops c.2 (.t v) | _ => calmOp E b.op)
  | _ => false
 | _, _ => false
theorem zds {E : PEnv} {F : PFin} {ops : List XOper} {chk : List (Nat × Nat)} {ks : List KI} {fr : PFr} {M : PM} (L V : List Nat) (hL : chk.all (fun c => calmC E ops c || slotIn4 E ops L V c) = true)
  (hr : WL E ⟨(0 :: 0 :: (L ++ V)).map XR.tmp, fun w _ => ∃ l, w = .tu l ∧ ((l.drop 2).take L.length).all isPP = true ∧ ((l.drop 2).drop L.length).all (isPF E) = true⟩ ops [] fr M) (w : WL E F ops ks fr M) : WK E F (.drw ops chk) ks fr M := by
 refine zdr (fun fr2 Ms hT => ?_) w
 have hpv : L.all (fun s => isPP (fr2 s)) = true ∧ V.all (fun s => isPF E (fr2 s)) = true := by
  obtain ⟨lf, q, fr3, M3, vs, e, h1, h2, l, h3, h4, h5⟩ := hr
  simp only [Option.bind_eq_some_iff, unw] at e
  obtain ⟨⟨fr4, M4⟩, e1, e2⟩ := e
  simp only [Option.some.injEq, Prod.mk.injEq] at e2
  obtain ⟨_, e3, e4⟩ := e2
  rw [← e3, ← e4] at h2
  obtain ⟨Ms', g1, g2⟩ := zbV e1
  rw [g1] at hT
  cases hT
  have hres : ∀ (f : PFr) (N : PM) (l : List Nat), pRes f N (l.map XR.tmp) = some (l.map f) := fun f N l => by
   induction l with
   | nil => rfl
   | cons a l ih => simp only [List.map_cons, pRes, pResOne, ih]
  rw [hres] at h2
  cases h2
  simp only [List.map_cons, packP] at h3
  cases h3
  rw [List.map_append] at h4 h5
  have d2 : (fr2 0 :: fr2 0 :: (L.map fr2 ++ V.map fr2)).drop 2 = L.map fr2 ++ V.map fr2 := rfl
  rw [d2, List.take_left' (by simp)] at h4
  rw [d2, List.drop_left' (by simp)] at h5
  exact ⟨by simpa [List.all_map] using h4, by simpa [List.all_map] using h5⟩
 obtain ⟨hp, hv⟩ := hpv
 rw [List.all_eq_true] at hL hp hv ⊢
 rintro ⟨i, j⟩ hc
 have h1 := hL _ hc
 simp only [Bool.or_eq_true] at h1
 rcases h1 with h1 | h1
 ·exact zcC hT h1
 ·unfold slotIn4 at h1
  split at h1
  ·rename_i a b ha hb
   split at h1
   ·rename_i z k s hop
    simp only [Bool.and_eq_true] at h1
    obtain ⟨c1, c2⟩ := h1
    have hs := hp s (List.contains_iff_mem.1 c1)
    cases hf : fr2 s with
    | p n o =>
     obtain ⟨fri, A, B, q1, q2, q3, q4⟩ := zaK hT ha
     obtain ⟨frj, C, D, p1, p2, p3, p4⟩ := zaK hT hb
     have p2' : Ms[(i, j).2 + 1]? = some D := p2
     have q2' : Ms[(i, j).1 + 1]? = some B := q2
     simp only [chkP, ha, q1, q2, p1, p2]
     rw [if_neg (by rw [hop]; simp [XO.cls])]
     rw [hop]
     show chkV ops j (.t s) C D (fr2 s) = true
     rw [hf]
     show verP (some n) C D = true
     rcases p3 with ⟨_, v, p3⟩ | ⟨_, p3⟩
     ·split at c2
      ·rename_i vs l hopb
       simp only [Bool.and_eq_true] at c2
       have hv' := hv vs (List.contains_iff_mem.1 c2.1)
       have e1 := p4 (.t vs) c2.2
       have e1 : fr2 vs = frj vs := e1
       rw [hopb] at p3
       rw [e1] at hv'
       cases hfn : frj vs with
       | fn f c =>
        rw [hfn] at hv'
        have p3 : (match (X.t vs).pv E.glob frj with | .fn f c => pcl E f (l.map (X.pv E.glob frj) ++ c) C | _ => none) = some (v, D) := p3
        rw [show (X.t vs).pv E.glob frj = frj vs from rfl, hfn] at p3
        obtain ⟨ns, rfl⟩ := zc4 hv' p3
        exact zcj ns C _
       | _ => rw [hfn] at hv'; simp [isPF] at hv'
      ·rename_i hno
       cases hopb : b.op with
       | call f l =>
        rw [hopb] at p3 c2
        obtain ⟨ns, rfl⟩ := zc4 c2 p3
        exact zcj ns C _
       | _ => rw [hopb] at c2; simp [calmOp] at c2
     ·rw [p3]; simp [verP]
    | _ => rw [hf] at hs; simp [isPP] at hs
   ·cases h1
  ·cases h1
@[go_sem] theorem zul (a0 a1 a2 a3 a4 a5 a6 a7 a8 a9 a10 a11 a12 a13 a14 a15 a16 a17 : PV) (Y : Nat → WI) : psplice [a0, a1, a2, a3, a4, a5, a6, a7, a8, a9, a10, a11, a12, a13, a14, a15, a16, a17] 0 (cW Y) = cW Y := _root_.id rfl
def ptP (x y : Int) : PV := .ag [.i .i64 x, .i .i64 y]
@[go_sem] theorem zrZ (M : PM) (d : Nat) (x y : Int) : fz M (d + 1 + 1) (ptP x y) = some (ptP x y, []) := _root_.id rfl
@[go_sem] theorem znl (x y : Int) : (ptP x y).cells = [.i .i64 x, .i .i64 y] := _root_.id rfl
@[go_sem] theorem zo0 (x y : Int) : PV.ag [.i .i64 x, .i .i64 y] = ptP x y := _root_.id rfl
def colI (a b c d e f : Int) : Nat → Int
 | 0 => a | 1 => b | 2 => c | 3 => d | 4 => e | 5 => f | 6 => 1 | 7 => 1 | 8 => 1 | _ => 1
theorem zb6 {a b c d e f : Int} (ha : Fits64 a) (hb : Fits64 b) (hc : Fits64 c) (hd : Fits64 d) (he : Fits64 e) (hf : Fits64 f) : ∀ i, Fits64 (colI a b c d e f i)
 | 0 => ha | 1 => hb | 2 => hc | 3 => hd | 4 => he | 5 => hf | 6 => by show Fits64 1; decide | 7 => by show Fits64 1; decide | 8 => by show Fits64 1; decide | n + 9 => by show Fits64 1; decide
theorem zcP {a d b e c f : Int} (ha : Fits64 a) (hb : Fits64 b) (hc : Fits64 c) (hd : Fits64 d) (he : Fits64 e) (hf : Fits64 f) : pf E0 320 [ptP a d, ptP b e, ptP c f] = some (mW (ofW (colI a b c d e f))) := by
 have hm := ziM (zb6 ha hb hc hd he hf)
 have hp : pI (colI a b c d e f) = .ag [.i .i64 a, .i .i64 b, .i .i64 c, .i .i64 d, .i .i64 e, .i .i64 f, .i .i64 1, .i .i64 1, .i .i64 1] := rfl
 rw [hp] at hm
 refine zab (xf := x_proj_basis_1) rfl (by simp [x_proj_basis_1]) ?_
 simp only [x_proj_basis_1]
 simp (disch := omega) only [go_sem, seval, wqq, hm, zaH, zak]
end Go.Eng
