/- The engine and the contracts on which the statement stands: no conditions of its own. -/
import Derived.Test.YthdnkdjofncncaaGreatDoorMine5
set_option linter.unusedSimpArgs false
set_option linter.unusedVariables false
set_option linter.unusedSectionVars false
namespace Go.Eng
theorem p_HasPrefix (s : List UInt8) (hs : s.length < 4611686018427387904) : pf E0 85 [.s s, .s [45]] = some (.b (s.head? == some 45)) := by
  refine pf_run (xf := x_internal_stringslite_HasPrefix) rfl (by simp [x_internal_stringslite_HasPrefix]) ?_
  simp only [x_internal_stringslite_HasPrefix]
  cases s with
  | nil =>
    have q1 : (((0 : Nat) : Int) ≥ 1) = False := by simp
    simp (disch := omega) only [go_sem, seval, wrap_i64, wrap_u64, wrap_u32, wrap_u8, wrap_i32, Int.natCast_one, q1, Int.natCast_zero, Int.reduceLE, ge_iff_le]
    rfl
  | cons c t =>
    have q1 : (((t.length + 1 : Nat) : Int) ≥ 1) = True := by simp; omega
    have hc : slStrP (c :: t) none (some (.i .i64 1)) = some (.s [c]) := by
      simp only [slStrP, optP, show (PV.i IntKind.i64 1) = .i .i64 ((1 : Nat) : Int) from rfl, asNP_nat]
      rw [if_pos ⟨by omega, by simp⟩]; rfl
    simp (disch := omega) only [go_sem, seval, wrap_i64, wrap_u64, wrap_u32, wrap_u8, wrap_i32, Int.natCast_one, q1, hc]
    congr 2
    by_cases h : c = 45
    · subst h; rfl
    · have : (some c == some (45 : UInt8)) = false := by simpa using h
      simp [h, this]
theorem p_CutPrefix {neg : Bool} {s ds : List UInt8} (hs : s.length < 4611686018427387904) (h : (neg = true ∧ s = 45 :: ds) ∨ (neg = false ∧ s = ds ∧ ds.head? ≠ some 45)) : pf E0 129 [.s s, .s [45]] = some (.tu [.s ds, .b neg]) := by
  have inner : pf E0 137 [.s s, .s [45]] = some (.tu [.s ds, .b neg]) := by
    refine pf_run (xf := x_internal_stringslite_CutPrefix) rfl (by simp [x_internal_stringslite_CutPrefix]) ?_
    simp only [x_internal_stringslite_CutPrefix]
    have hp := p_HasPrefix s hs
    rcases h with ⟨rfl, rfl⟩ | ⟨rfl, rfl, h45⟩
    · have e : ((45 :: ds).head? == some (45 : UInt8)) = true := rfl
      rw [e] at hp
      have hc : slStrP (45 :: ds) (some (.i .i64 1)) none = some (.s ds) := by
        simp only [slStrP, optP, show (PV.i IntKind.i64 1) = .i .i64 ((1 : Nat) : Int) from rfl, asNP_nat]
        rw [if_pos ⟨by simp, Nat.le_refl _⟩]
        simp
      simp (disch := omega) only [go_sem, seval, wrap_i64, wrap_u64, wrap_u32, wrap_u8, wrap_i32, hp, Int.natCast_one, hc]
    · have e : (s.head? == some (45 : UInt8)) = false := by simpa using h45
      rw [e] at hp
      simp (disch := omega) only [go_sem, seval, wrap_i64, wrap_u64, wrap_u32, wrap_u8, wrap_i32, hp]
  refine pf_run (xf := x_strings_CutPrefix) rfl (by simp [x_strings_CutPrefix]) ?_
  simp only [x_strings_CutPrefix]
  simp (disch := omega) only [go_sem, seval, wrap_i64, wrap_u64, wrap_u32, wrap_u8, wrap_i32, inner]
set_option maxRecDepth 20000 in
theorem trim_dig (ds : List UInt8) : ((((ds.reverse.dropWhile (([48, 49, 50, 51, 52, 53, 54, 55, 56, 57] : List UInt8).contains ·)).reverse).dropWhile (([48, 49, 50, 51, 52, 53, 54, 55, 56, 57] : List UInt8).contains ·)) = []) = (ds.all isDig = true) := by
  have hc : ∀ c : UInt8, ([48, 49, 50, 51, 52, 53, 54, 55, 56, 57] : List UInt8).contains c = isDig c := fun c => by
    have h : ∀ n : Fin 256, ([48, 49, 50, 51, 52, 53, 54, 55, 56, 57] : List UInt8).contains (UInt8.ofNat n.val) = isDig (UInt8.ofNat n.val) := by decide
    have h2 := h ⟨c.toNat, c.toNat_lt⟩
    simpa using h2
  simp only [hc]
  have aux : ∀ l : List UInt8, l.dropWhile isDig = [] ↔ l.all isDig = true := fun l => by
    induction l with
    | nil => simp
    | cons c l ih =>
      rw [List.dropWhile_cons, List.all_cons, Bool.and_eq_true]
      by_cases h : isDig c = true
      · rw [if_pos h, ih]; simp [h]
      · rw [if_neg h]; simp [h]
  apply propext
  rw [aux, List.all_reverse]
  constructor
  · intro h
    by_cases hd : ds.all isDig = true
    · exact hd
    · exfalso
      have h1 : ds.reverse.dropWhile isDig ≠ [] := fun q => hd (by rw [← List.all_reverse]; exact (aux _).1 q)
      obtain ⟨c, t, he⟩ : ∃ c t, ds.reverse.dropWhile isDig = c :: t := by
        cases hq : ds.reverse.dropWhile isDig with
        | nil => exact (h1 hq).elim
        | cons c t => exact ⟨c, t, rfl⟩
      have h2 := List.head?_dropWhile_not isDig ds.reverse
      rw [he] at h h2
      simp only [List.head?_cons] at h2
      simp only [List.all_cons, Bool.and_eq_true] at h
      rw [h.1] at h2
      simp at h2
  · intro hd
    have : ds.reverse.dropWhile isDig = [] := (aux _).2 (by rw [List.all_reverse]; exact hd)
    rw [this]; rfl
theorem trim_ex (ds : List UInt8) (h : ds.length ≤ 9223372036854775807) : ∃ t, (t = [] ↔ ds.all isDig = true) ∧ pf E0 130 [.s ds, .s [48, 49, 50, 51, 52, 53, 54, 55, 56, 57]] = some (.s t) := by
  refine ⟨_, by rw [← trim_dig ds], porc_130 ?_ rfl⟩
  simp only [orcP, libP]
  rw [if_neg (by decide), if_pos ⟨trivial, h, by decide, by decide⟩]
  rfl
theorem atoi_cl {l : List UInt8} (h0 : l ≠ []) (h1 : l.length ≤ 18) (h2 : l.all isDig = true) : pf E0 131 [.s l] = some (.tu [.i .i64 (tv l : Nat), .inil]) := by
  refine porc_131 ?_ rfl
  simp only [orcP, libP]
  rw [if_neg (by decide), if_pos ⟨trivial, h0, h1, h2⟩]
  rfl
theorem w_one {v : Nat} (h : v < 4294967296) : PV.lst [(PV.i .u32 ((v : Nat) : Int))] = Dw 1 v := by
  have e : tab 1 (fun k => (PV.i .u32 ((dgt v k : Nat) : Int))) = [(PV.i .u32 ((dgt v 0 : Nat) : Int))] := rfl
  rw [Dw, e, dgt_z, Nat.mod_eq_of_lt h]
theorem dlen_wl {v n : Nat} (h : v < 10 ^ n) : wlen v ≤ n := by
  rw [wlen_iff]
  exact Nat.lt_of_lt_of_le h (Nat.pow_le_pow_left (by decide) n)
def wparse_R : XC := match x_skymosaic_wide_Parse.body with
  | .seq _ (.seq _ (.seq _ (.seq _ (.seq _ (.seq _ r))))) => r
  | _ => .skip
theorem wparse_l1 {F : PFin} {ds : List UInt8} (hl : ds.length ≤ 5000) (hd : ds.all isDig = true) {fr : PFr} {B : PB} {neg : Bool} (h2 : fr 2 = .p 0 0) (h4 : fr 4 = .s ds) (h5 : fr 5 = .b neg) (h6 : fr 6 = .nl)
    (cont : ∀ (fr' : PFr) (M' : PM), fr' 2 = .p 0 0 → fr' 5 = .b neg → (∀ M d, fz M (d + 1) (fr' 6) = some (D (tv ds), [])) → PM.blk M' 0 = some B → WK E0 F wparse_R [] fr' M') :
    WK E0 F (.loop x_skymosaic_wide_Parse_l1) [.block 0, .seq wparse_R] fr [some B] := by
  refine wk_ind x_skymosaic_wide_Parse_l1.eq_1 (fun (x : Nat × List UInt8) fr M => x.2.length ≤ ds.length ∧ x.2.all isDig = true ∧ (x.1 = 0 ∨ x.2.length % 9 = 0) ∧ x.1 * 10 ^ x.2.length + tv x.2 = tv ds ∧ fr 2 = .p 0 0 ∧ fr 4 = .s x.2 ∧ fr 5 = .b neg ∧ (∀ M d, fz M (d + 1) (fr 6) = some (D x.1, [])) ∧ PM.blk M 0 = some B) (fun x => x.2.length) ?_ (0, ds) ⟨Nat.le_refl _, hd, .inl rfl, by simp, h2, h4, h5, fun M d => by rw [h6]; rfl, rfl⟩
  rintro ⟨m, rs⟩ fr M ⟨hrl, hrd, h9, hv, h2, h4, h5, h6, hb⟩ ih
  simp only at hrl hrd h9 hv h4 h6 ih
  cases rs with
  | nil =>
    have hm : m = tv ds := by simpa [tv] using hv
    subst hm
    simp (disch := omega) only [go_sem, seval, wrap_i64, wrap_u64, wrap_u32, wrap_u8, wrap_i32, h4, Int.natCast_zero, Int.lt_irrefl, gt_iff_lt]
    exact cont _ _ (by simp only [go_sem, seval, h2]) (by simp only [go_sem, seval, h5]) (fun M d => by simp only [go_sem, seval]; exact h6 M d) hb
  | cons c t =>
    have htl : t.length < 5000 := by simp only [List.length_cons] at hrl; omega
    obtain ⟨n, hn⟩ : ∃ n, n = t.length % 9 + 1 := ⟨_, rfl⟩
    have hn9 : n ≤ 9 := by omega
    have hnl : n ≤ (c :: t).length := by simp; omega
    have q1 : (((t.length + 1 : Nat) : Int) > 0) = True := by simp
    have i1 : (((t.length + 1 : Nat) : Int) - 1) = ((t.length : Nat) : Int) := by omega
    have i2 : ((t.length : Int)).tmod 9 = ((t.length % 9 : Nat) : Int) := nat_tmod t.length 9
    have i3 : ((t.length % 9 : Nat) : Int) + 1 = (n : Int) := by omega
    obtain ⟨a, ha⟩ : ∃ a, a = (c :: t).take n := ⟨_, rfl⟩
    obtain ⟨b, hbb⟩ : ∃ b, b = (c :: t).drop n := ⟨_, rfl⟩
    have hal : a.length = n := by rw [ha, List.length_take]; omega
    have hbl : b.length = (c :: t).length - n := by rw [hbb, List.length_drop]
    have hab : c :: t = a ++ b := by rw [ha, hbb, List.take_append_drop]
    have had : a.all isDig = true := by rw [hab, List.all_append, Bool.and_eq_true] at hrd; exact hrd.1
    have hbd : b.all isDig = true := by rw [hab, List.all_append, Bool.and_eq_true] at hrd; exact hrd.2
    have hc1 : slStrP (c :: t) none (some (.i .i64 (n : Int))) = some (.s a) := by
      simp only [slStrP, optP, asNP_nat]
      rw [if_pos ⟨by omega, hnl⟩, List.drop_zero, ha]
    have hc2 : slStrP (c :: t) (some (.i .i64 (n : Int))) none = some (.s b) := by
      simp only [slStrP, optP, asNP_nat]
      rw [if_pos ⟨hnl, Nat.le_refl _⟩, List.take_length, hbb]
    have hat := atoi_cl (l := a) (by intro q; rw [q] at hal; simp at hal; omega) (by omega) had
    have hav : tv a < 1000000000 := Nat.lt_of_lt_of_le (tv_lt a had) (by rw [hal]; exact Nat.pow_le_pow_right (by decide) hn9)
    have hvd := tv_lt ds hd
    have hmv : m < 10 ^ ds.length := by
      have : m * 1 ≤ m * 10 ^ (c :: t).length := Nat.mul_le_mul_left _ (Nat.pow_pos (by decide))
      omega
    have hml := dlen_wl hmv
    have hmlt := wlen_lt m
    have h59 : pf E0 59 [D m, Dw 1 1000000000] = some (Dw (wlen m + 1) (m * 1000000000)) := p_times' hmlt (by decide) (by omega) (by omega)
    have hmm : m * 1000000000 < 4294967296 ^ (wlen m + 1) := by rw [Nat.pow_succ]; exact Nat.mul_lt_mul'' hmlt (by decide)
    have h40 : pf E0 40 [Dw (wlen m + 1) (m * 1000000000), Dw 1 (tv a)] = some (Dw (max (wlen m + 1) 1 + 1) (m * 1000000000 + tv a)) := p_sum hmm (by omega) (by omega) (by omega)
    have hsl : m * 1000000000 + tv a < 4294967296 ^ (max (wlen m + 1) 1 + 1) := by
      rw [Nat.max_eq_left (by omega)]
      have h1 : m * 1000000000 + tv a < (m + 1) * 1000000000 := by rw [Nat.add_mul, Nat.one_mul]; exact Nat.add_lt_add_left hav _
      have h2 : (m + 1) * 1000000000 ≤ 4294967296 ^ wlen m * 4294967296 := by
        refine Nat.mul_le_mul (Nat.succ_le_of_lt hmlt) ?_
        omega
      rw [← Nat.pow_succ] at h2
      exact Nat.lt_of_lt_of_le h1 (Nat.le_trans h2 (Nat.pow_le_pow_right (by decide) (by omega)))
    have h49 : pf E0 49 [Dw (max (wlen m + 1) 1 + 1) (m * 1000000000 + tv a)] = some (D (m * 1000000000 + tv a)) := p_normal' hsl (by omega)
    have w1 : PV.lst [.i .u32 1000000000] = Dw 1 1000000000 := w_one (v := 1000000000) (by decide)
    have w2 : PV.lst [(PV.i .u32 ((tv a : Nat) : Int))] = Dw 1 (tv a) := w_one (by omega)
    simp (disch := omega) only [go_sem, seval, wrap_i64, wrap_u64, wrap_u32, wrap_u8, wrap_i32, h4, q1, i1, i2, i3, hc1, hc2, hat, h6, w1, h59, blk_app, group, List.headD_cons, w2, h40, h49, set_app]
    have hnew : (m * 1000000000 + tv a) * 10 ^ b.length + tv b = tv ds := by
      rw [← hv, hab, tv_app, List.length_append, Nat.pow_add, hal]
      rcases h9 with h9 | h9
      · rw [h9]; simp
      · have : n = 9 := by simp only [List.length_cons] at h9; omega
        rw [this]
        show (m * 10 ^ 9 + tv a) * 10 ^ b.length + tv b = m * (10 ^ 9 * 10 ^ b.length) + (tv a * 10 ^ b.length + tv b)
        rw [Nat.add_mul, Nat.mul_assoc]; omega
    have hb9 : b.length % 9 = 0 := by rw [hbl]; simp only [List.length_cons]; omega
    refine ih (m * 1000000000 + tv a, b) _ _ (by rw [hbl]; simp only [List.length_cons]; omega) ⟨by simp only; omega, hbd, .inr hb9, hnew, by simp only [go_sem, seval, h2], by simp only [go_sem, seval], by simp only [go_sem, seval, h5], fun M d => by simp only [go_sem, seval], ?_⟩
    refine blk_old (blk_old hb _) _
theorem p_Parse (s : List UInt8) (hs : s.length < 4611686018427387904) : pf E0 110 [.s s] = some (.tu [wiP (clip (parseT s).1), .i .i64 (parseT s).2]) := by
  refine pf_run (xf := x_skymosaic_wide_Parse) rfl (by simp [x_skymosaic_wide_Parse]) ?_
  have c0 : clip 0 = wi0 := clip_ok (z := 0) (by simp [wlen_zero])
  rcases parseT_cases s with ⟨hl, hp⟩ | ⟨hl, neg, ds, hsg, hsp⟩
  · rw [hp, c0]
    simp only [x_skymosaic_wide_Parse]
    have q1 : ((s.length : Int) > 5000) = True := by simp; omega
    simp (disch := omega) only [go_sem, seval, wrap_i64, wrap_u64, wrap_u32, wrap_u8, wrap_i32, q1]
  · have hdl : ds.length ≤ 5000 := by
      rcases hsg with ⟨_, rfl⟩ | ⟨_, rfl, _⟩
      · simp at hl; omega
      · exact hl
    have q1 : ((s.length : Int) > 5000) = False := by simp; omega
    have hcp := p_CutPrefix hs hsg
    obtain ⟨t, ht1, ht2⟩ := trim_ex ds (by omega)
    have good : ds.all isDig = true → (inR (tv ds) ∧ parseT s = (sgn neg (tv ds), 0) ∨ ¬ inR (tv ds) ∧ parseT s = (0, 4)) → ∀ {fr : PFr}, fr 2 = .p 0 0 → fr 4 = .s ds → fr 5 = .b neg → fr 6 = .nl →
        WK E0 ⟨[.cell 2 true 2, .tmp 3], fun w M2 => (fz M2 fzD w).map Prod.fst = some (.tu [wiP (clip (parseT s).1), .i .i64 (parseT s).2])⟩ (.loop x_skymosaic_wide_Parse_l1) [.block 0, .seq wparse_R] fr [some ⟨[.b false, .nl], true, 0⟩] := fun hd hp {fr} h2 h4 h5 h6 => by
      refine wparse_l1 hdl hd h2 h4 h5 h6 fun fr' M' g2 g5 g6 gb => ?_
      unfold wparse_R
      simp only [x_skymosaic_wide_Parse]
      have hsi := p_signed neg (wlen (tv ds)) (tv ds) (wlen_lt _) (by have := dlen_wl (tv_lt ds hd); omega)
      have hlt := blk_lt gb
      have hset : ∀ Y, PM.blk (List.set M' 0 (some Y)) 0 = some Y := fun Y => blk_setE hlt
      have hres : parseT s = ((if inR (tv ds) then (if neg then -(tv ds : Int) else (tv ds : Int)) else 0), lerr (tv ds : Int)) := by
        rcases hp with ⟨h1, h2⟩ | ⟨h1, h2⟩
        · rw [h2, if_pos h1, lerr_ok (by simpa using (wide_iff _).2 h1)]; rfl
        · rw [h2, if_neg h1, lerr_no (by simpa using fun q => h1 ((wide_iff _).1 q))]
      have hcl : clip (if neg then -(tv ds : Int) else (tv ds : Int)) = clip (parseT s).1 := by
        rw [hres]
        by_cases h1 : inR (tv ds)
        · simp only [if_pos h1]
        · simp only [if_neg h1]
          rw [clip_no, c0]
          cases neg <;> simp <;> exact Nat.lt_of_not_le fun q => h1 ((wide_iff _).1 q)
      rw [hcl] at hsi
      have he : lerr (tv ds : Int) = (parseT s).2 := by rw [hres]
      rw [he] at hsi
      simp (disch := omega) only [go_sem, seval, wrap_i64, wrap_u64, wrap_u32, wrap_u8, wrap_i32, g2, g5, g6, hsi, gb, hset]
    simp only [x_skymosaic_wide_Parse]
    rcases head_len (l := ds) with rfl | ⟨c, r, rfl⟩
    · have hp : parseT s = (0, 2) := by
        rcases hsp with ⟨_, h⟩ | ⟨h, _⟩
        · exact h
        · exact (h rfl).elim
      rw [hp, c0]
      simp (disch := omega) only [go_sem, seval, wrap_i64, wrap_u64, wrap_u32, wrap_u8, wrap_i32, q1, hcp]
    · have q0 : (c :: r = []) = False := by simp
      by_cases ha : (c :: r).all isDig = true
      · have htn : (t = []) = True := by simp [ht1.2 ha]
        have hts : (t ≠ []) = False := by simp [ht1.2 ha]
        by_cases h48 : c.toNat = 48
        · have q2 : ((c.toNat : Int) = 48) = True := by simp; omega
          have hc : c = 48 := UInt8.toNat_inj.1 h48
          cases neg
          · by_cases hr : r = []
            · have q3 : (((r.length + 1 : Nat) : Int) > 1) = False := by subst hr; simp
              have hp : inR (tv (c :: r)) ∧ parseT s = (sgn false (tv (c :: r)), 0) ∨ ¬ inR (tv (c :: r)) ∧ parseT s = (0, 4) := by
                rcases hsp with ⟨h | ⟨_, h | h⟩ | h, _⟩ | ⟨_, _, _, h⟩
                · cases h
                · cases h
                · subst hr; simp at h
                · exact (h ha).elim
                · exact h
              simp (disch := omega) only [go_sem, seval, wrap_i64, wrap_u64, wrap_u32, wrap_u8, wrap_i32, q1, hcp, q0, ht2, htn, q2, q3]
              exact good ha hp (by simp only [go_sem, seval]) (by simp only [go_sem, seval]) (by simp only [go_sem, seval]) (by simp only [go_sem, seval])
            · have q3 : (((r.length + 1 : Nat) : Int) > 1) = True := by
                cases r with
                | nil => exact (hr rfl).elim
                | cons _ _ => simp; omega
              have hp : parseT s = (0, 2) := by
                rcases hsp with ⟨_, h⟩ | ⟨_, h, _⟩
                · exact h
                · have := (h (by rw [hc]; rfl)).2
                  cases r with
                  | nil => exact (hr rfl).elim
                  | cons _ _ => simp at this
              rw [hp, c0]
              simp (disch := omega) only [go_sem, seval, wrap_i64, wrap_u64, wrap_u32, wrap_u8, wrap_i32, q1, hcp, q0, ht2, htn, q2, q3]
          · have hp : parseT s = (0, 2) := by
              rcases hsp with ⟨_, h⟩ | ⟨_, h, _⟩
              · exact h
              · have := (h (by rw [hc]; rfl)).1
                cases this
            rw [hp, c0]
            simp (disch := omega) only [go_sem, seval, wrap_i64, wrap_u64, wrap_u32, wrap_u8, wrap_i32, q1, hcp, q0, ht2, htn, q2]
        · have q2 : ((c.toNat : Int) = 48) = False := by simp; omega
          have hp : inR (tv (c :: r)) ∧ parseT s = (sgn neg (tv (c :: r)), 0) ∨ ¬ inR (tv (c :: r)) ∧ parseT s = (0, 4) := by
            rcases hsp with ⟨h | ⟨h, _⟩ | h, _⟩ | ⟨_, _, _, h⟩
            · cases h
            · simp only [List.head?_cons, Option.some.injEq] at h; rw [h] at h48; exact (h48 rfl).elim
            · exact (h ha).elim
            · exact h
          simp (disch := omega) only [go_sem, seval, wrap_i64, wrap_u64, wrap_u32, wrap_u8, wrap_i32, q1, hcp, q0, ht2, htn, q2]
          exact good ha hp (by simp only [go_sem, seval]) (by simp only [go_sem, seval]) (by simp only [go_sem, seval]) (by simp only [go_sem, seval])
      · have htn : (t = []) = False := by simp only [eq_iff_iff, iff_false]; exact fun q => ha (ht1.1 q)
        have hp : parseT s = (0, 2) := by
          rcases hsp with ⟨_, h⟩ | ⟨_, _, h, _⟩
          · exact h
          · exact (ha h).elim
        rw [hp, c0]
        simp (disch := omega) only [go_sem, seval, wrap_i64, wrap_u64, wrap_u32, wrap_u8, wrap_i32, q1, hcp, q0, ht2, htn]
end Go.Eng
namespace Go.Eng
theorem dec_head {v : Nat} (h : v ≠ 0) : ∃ c t, dec v = c :: t ∧ 49 ≤ c.toNat ∧ c.toNat ≤ 57 ∧ (c :: t).length = dlen v := by
  have h1 := dlen_lt v
  have h0 : dlen v ≠ 0 := fun q => by rw [q] at h1; simp at h1; omega
  obtain ⟨n, hn⟩ : ∃ n, dlen v = n + 1 := ⟨dlen v - 1, by omega⟩
  have h2 : ¬ v < 10 ^ n := fun q => by have := dlen_iff.2 q; omega
  have e : dec v = UInt8.ofNat (48 + v / 10 ^ n % 10) :: dtx n v := by rw [dec_dtx h, hn]; rfl
  have hp : 0 < 10 ^ n := Nat.pow_pos (by decide)
  have h3 : v / 10 ^ n < 10 := by
    rw [Nat.div_lt_iff_lt_mul hp, Nat.mul_comm, ← Nat.pow_succ, show n.succ = dlen v from hn.symm]; exact h1
  have h4 : 0 < v / 10 ^ n := Nat.div_pos (by omega) hp
  have ht : (UInt8.ofNat (48 + v / 10 ^ n % 10)).toNat = 48 + v / 10 ^ n % 10 := dch _ (by omega)
  exact ⟨_, _, e, by rw [ht]; omega, by rw [ht]; omega, by rw [hn]; simp⟩
theorem dec_inj {v w : Nat} (h : dec v = dec w) : v = w := by
  have := congrArg tv h
  rwa [tv_dec, tv_dec] at this
theorem dec_45 (v : Nat) : ∀ l, dec v ≠ 45 :: l := fun l q => by
  by_cases h : v = 0
  · subst h; cases q
  · obtain ⟨c, t, e, h1, _⟩ := dec_head h
    rw [e] at q; cases q
    revert h1; decide
theorem decI_inj {z w : Int} (h : decI z = decI w) : z = w := by
  unfold decI at h
  split at h <;> split at h
  · have := dec_inj (List.cons.inj h).2; omega
  · exact (dec_45 _ _ h.symm).elim
  · exact (dec_45 _ _ h).elim
  · have := dec_inj h; omega
theorem two_bound {n K : Nat} (hn : n = 177) (hK : K = 16384) : 2 ^ K ≤ 10 ^ (28 * n) := by
  have e1 : (2 : Nat) ^ K ≤ (2 ^ 93) ^ n := by
    rw [← Nat.pow_mul 2]
    exact Nat.pow_le_pow_right (by decide) (by omega)
  have e2 : ((2 : Nat) ^ 93) ^ n ≤ (10 ^ 28) ^ n := Nat.pow_le_pow_left (by decide) n
  rw [← Nat.pow_mul 10] at e2
  exact Nat.le_trans e1 e2
theorem two_pos (K : Nat) : 0 < 2 ^ K := Nat.pow_pos (by decide)
theorem inR_zero : inR 0 := two_pos 16384
theorem inR_dlen {v : Nat} (h : inR v) : dlen v ≤ 4956 := by
  obtain ⟨n, hn⟩ : ∃ n, n = 177 := ⟨_, rfl⟩
  have e := two_bound (K := 16384) hn rfl
  have h : v < 2 ^ 16384 := h
  have := dlen_iff.2 (Nat.lt_of_lt_of_le h e)
  omega
theorem parseT_dec (z : Int) : parseT (decI z) = if inR z.natAbs then (z, 0) else (0, 4) := by
  by_cases h0 : z = 0
  · subst h0
    have h1 : inR (0 : Int).natAbs := inR_zero
    have h2 : decI 0 = [48] := rfl
    rw [if_pos h1, h2]
    have h3 : inR (tv [48]) := h1
    unfold parseT
    rw [if_neg (by decide), if_neg (by decide)]
    exact if_pos h3
  · have hv : z.natAbs ≠ 0 := by omega
    obtain ⟨c, t, e, hc1, hc2, hl⟩ := dec_head hv
    have hd := dig_dec z.natAbs
    have ht := tv_dec z.natAbs
    have h45 : c ≠ 45 := by rintro rfl; revert hc1; decide
    have h48 : c ≠ 48 := by rintro rfl; revert hc1; decide
    have hlen : (decI z).length ≤ dlen z.natAbs + 1 := by
      unfold decI; split <;> simp only [List.length_cons, e] at * <;> omega
    have hlen2 : dlen z.natAbs ≤ (decI z).length := by
      unfold decI; split <;> simp only [List.length_cons, e] at * <;> omega
    rcases parseT_cases (decI z) with ⟨h1, h2⟩ | ⟨h1, neg, ds, hsg, hsp⟩
    · have : ¬ inR z.natAbs := fun q => by have := inR_dlen q; omega
      rw [if_neg this, h2]
    · have hds : ds = dec z.natAbs ∧ sgn neg z.natAbs = z := by
        rcases hsg with ⟨rfl, g⟩ | ⟨rfl, g, g2⟩
        · unfold decI at g
          split at g
          · cases g; exact ⟨rfl, by unfold sgn; simp; omega⟩
          · exact (dec_45 _ _ g).elim
        · unfold decI at g
          split at g
          · rw [← g] at g2; exact (g2 rfl).elim
          · exact ⟨g.symm, by unfold sgn; simp; omega⟩
      obtain ⟨rfl, hs⟩ := hds
      rcases hsp with ⟨h | ⟨h, _⟩ | h, _⟩ | ⟨_, _, _, ⟨h3, h4⟩ | ⟨h3, h4⟩⟩
      · rw [e] at h; cases h
      · rw [e] at h; simp at h; exact (h48 h).elim
      · exact (h hd).elim
      · rw [ht] at h3 h4
        rw [if_pos h3, h4, hs]
      · rw [ht] at h3
        rw [if_neg h3, h4]
theorem p_Str (x : WI) : pf E0 33 [wiP x] = some (.s (decI x.v)) := by
  refine porc_33 ?_ rfl
  have hw : ∀ (l : List Nat), Ok32 l → wordsP (l.map fun n => (PV.i .u32 ((n : Nat) : Int))) = some l := fun l => by
    induction l with
    | nil => intro _; rfl
    | cons n l ih =>
      intro h
      have h1 := h n (List.mem_cons_self ..)
      rw [List.map_cons]
      unfold wordsP
      rw [if_pos ⟨by omega, by omega⟩, ih fun x hx => h x (List.mem_cons_of_mem _ hx)]
      simp
  have hD : D x.v.natAbs = .lst ((dig x.v.natAbs).map fun n => (PV.i .u32 ((n : Nat) : Int))) := (W_dw _ _).symm
  have hg : (dig x.v.natAbs).getLast? ≠ some 0 := fun q => by
    by_cases h : x.v.natAbs = 0
    · rw [h] at q; cases q
    · have h1 := wlen_pos h
      have h2 : (dig x.v.natAbs).getLast? = some (dgt x.v.natAbs (wlen x.v.natAbs - 1)) := by
        rw [List.getLast?_eq_getElem?]
        unfold dig dw
        rw [tab_length, tab_lt (by omega)]
      rw [h2] at q
      have h3 := Option.some.inj q
      rw [dgt_def] at h3
      have h4 := wlen_le h
      have h5 : x.v.natAbs / 4294967296 ^ (wlen x.v.natAbs - 1) < 4294967296 := by
        have := wlen_lt x.v.natAbs
        rw [show wlen x.v.natAbs = wlen x.v.natAbs - 1 + 1 by omega, Nat.pow_succ] at this
        exact Nat.div_lt_of_lt_mul this
      have h6 := Nat.div_pos h4 (Bpos _)
      rw [Nat.mod_eq_of_lt h5] at h3
      omega
  have hx := x.lim
  rw [wiP_def, hD]
  simp only [orcP, txtP, if_true, hw _ (ok_dig _), Option.bind_some]
  unfold wtx
  have hnz : decide (x.v < 0) = true → dig x.v.natAbs ≠ [] := fun h => by
    have h1 : x.v < 0 := by simpa using h
    intro q
    have h2 := dig_length x.v.natAbs
    rw [q] at h2
    have := wlen_pos (v := x.v.natAbs) (by omega)
    simp at h2; omega
  rw [if_pos ⟨by rw [dig_length]; exact hx, hg, hnz⟩, val_dig]
  · have e : (if decide (x.v < 0) = true then -((x.v.natAbs : Nat) : Int) else ((x.v.natAbs : Nat) : Int)) = x.v := by
      by_cases h : x.v < 0
      · rw [if_pos (by simpa using h)]; omega
      · rw [if_neg (by simpa using h)]; omega
    rw [e]; rfl
end Go.Eng
namespace Go.Eng
theorem dec_eval {v n : Nat} (h1 : 10 ^ n ≤ v) (h2 : v < 10 ^ (n + 1)) : dec v = dtx (n + 1) v := by
  have h0 : v ≠ 0 := by have := Nat.pow_pos (n := n) (by decide : 0 < 10); omega
  have : dlen v = n + 1 := by
    have a := dlen_iff.2 h2
    have b : ¬ dlen v ≤ n := fun q => by have := dlen_iff.1 q; omega
    omega
  rw [dec_dtx h0, this]
theorem from_ex {n : Int} (h : Fits64 n) : ∃ x : WI, x.v = n ∧ pf E0 34 [.i .i64 n] = some (wiP x) := ⟨wiOf n h, rfl, p_From h⟩
end Go.Eng
namespace Go.Eng
def isPP : PV → Bool
  | .p _ _ => true
  | _ => false
@[go_sem] theorem isPP_p (n o : Nat) : isPP (.p n o) = true := _root_.id rfl
def slotIn (E : PEnv) (ops : List XOper) (L : List Nat) (c : Nat × Nat) : Bool :=
  match ops[c.1]?, ops[c.2]? with
  | some a, some b =>
    match a.op with
    | .load _ _ (.t s) => L.contains s && calmOp E b.op && (ops.all fun o => o.dst != some s)
    | _ => false
  | _, _ => false
theorem wk_calmX {E : PEnv} {F : PFin} {ops : List XOper} {chk : List (Nat × Nat)} {ks : List KI} {fr : PFr} {M : PM} (L : List Nat) (hL : chk.all (fun c => calmC E ops c || slotIn E ops L c) = true) (hp : L.all (fun s => isPP (fr s)) = true) (w : WL E F ops ks fr M) :
    WK E F (.drw ops chk) ks fr M := by
  refine wk_calmG (fun fr2 Ms hT => ?_) w
  rw [List.all_eq_true] at hL hp ⊢
  rintro ⟨i, j⟩ hc
  have h1 := hL _ hc
  simp only [Bool.or_eq_true] at h1
  rcases h1 with h1 | h1
  · exact calm_chk hT h1
  · unfold slotIn at h1
    split at h1
    · rename_i a b ha hb
      split at h1
      · rename_i z k s hop
        simp only [Bool.and_eq_true] at h1
        obtain ⟨⟨c1, c2⟩, c3⟩ := h1
        have hs := hp s (List.contains_iff_mem.1 c1)
        cases hf : fr s with
        | p n o => exact calm_chkL hT ha hb hop c2 c3 hf
        | _ => rw [hf] at hs; simp [isPP] at hs
      · cases h1
    · cases h1
attribute [go_sem] List.all_cons List.all_nil
def slotIn2 (E : PEnv) (ops : List XOper) (L : List Nat) (c : Nat × Nat) : Bool :=
  match ops[c.1]?, ops[c.2]? with
  | some a, some b =>
    match a.op with
    | .load _ _ (.t s) => L.contains s && calmOp E b.op
    | _ => false
  | _, _ => false
theorem wk_calmR {E : PEnv} {F : PFin} {ops : List XOper} {chk : List (Nat × Nat)} {ks : List KI} {fr : PFr} {M : PM} (L : List Nat) (hL : chk.all (fun c => calmC E ops c || slotIn2 E ops L c) = true)
    (hr : WL E ⟨(0 :: 0 :: L).map XR.tmp, fun w _ => ∃ l, w = .tu l ∧ (l.drop 2).all isPP = true⟩ ops [] fr M) (w : WL E F ops ks fr M) : WK E F (.drw ops chk) ks fr M := by
  refine wk_calmG (fun fr2 Ms hT => ?_) w
  have hp : L.all (fun s => isPP (fr2 s)) = true := by
    obtain ⟨lf, q, fr3, M3, vs, e, h1, h2, l, h3, h4⟩ := hr
    simp only [Option.bind_eq_some_iff, unw] at e
    obtain ⟨⟨fr4, M4⟩, e1, e2⟩ := e
    simp only [Option.some.injEq, Prod.mk.injEq] at e2
    obtain ⟨_, e3, e4⟩ := e2
    rw [← e3, ← e4] at h2
    obtain ⟨Ms', g1, g2⟩ := pOpsT_of e1
    rw [g1] at hT
    cases hT
    have hres : ∀ (f : PFr) (N : PM) (l : List Nat), pRes f N (l.map XR.tmp) = some (l.map f) := fun f N l => by
      induction l with
      | nil => rfl
      | cons a l ih => simp only [List.map_cons, pRes, pResOne, ih]
    rw [hres] at h2
    cases h2
    simp only [List.map_cons, packP] at h3
    cases h3
    simpa [List.all_map] using h4
  rw [List.all_eq_true] at hL hp ⊢
  rintro ⟨i, j⟩ hc
  have h1 := hL _ hc
  simp only [Bool.or_eq_true] at h1
  rcases h1 with h1 | h1
  · exact calm_chk hT h1
  · unfold slotIn2 at h1
    split at h1
    · rename_i a b ha hb
      split at h1
      · rename_i z k s hop
        simp only [Bool.and_eq_true] at h1
        obtain ⟨c1, c2⟩ := h1
        have hs := hp s (List.contains_iff_mem.1 c1)
        cases hf : fr2 s with
        | p n o =>
          obtain ⟨fri, A, B, q1, q2, q3, q4⟩ := pOpsT_at hT ha
          obtain ⟨frj, C, D, p1, p2, p3, p4⟩ := pOpsT_at hT hb
          have p2' : Ms[(i, j).2 + 1]? = some D := p2
          have q2' : Ms[(i, j).1 + 1]? = some B := q2
          simp only [chkP, ha, q1, q2, p1, p2]
          rw [if_neg (by rw [hop]; simp [XO.cls])]
          rw [hop]
          show chkV ops j (.t s) C D (fr2 s) = true
          rw [hf]
          show verP (some n) C D = true
          rcases p3 with ⟨_, v, p3⟩ | ⟨_, p3⟩
          · cases hopb : b.op with
            | call f l =>
              rw [hopb] at p3 c2
              obtain ⟨ns, rfl⟩ := pcl_mem c2 p3
              exact roM_verP ns C _
            | _ => rw [hopb] at c2; simp [calmOp] at c2
          · rw [p3]; simp [verP]
        | _ => rw [hf] at hs; simp [isPP] at hs
      · cases h1
    · cases h1
theorem wk_roll {E : PEnv} {F : PFin} {a b : XC} (hab : a = b) {ks : List KI} {fr : PFr} {M : PM} (w : WK E F b (.loop a :: ks) fr M) : WK E F (.loop a) ks fr M := by
  rw [← hab] at w; exact wk_loop w
def fillC (z : List PV) (off n : Nat) (cs : List PV) : Option (List PV) := if cs.length = n ∧ off + n ≤ z.length ∧ cs.all PV.scal = true then some (psplice z off cs) else none
theorem fill_C {fr : PFr} (G : Nat → Option (List AV)) (z : List PV) (off n : Nat) (x : X) (ps : List (Nat × Nat × X)) : fillP G fr z ((off, (n, x)) :: ps) = fillB fr G ps (fillC z off n (x.pv G fr).cells) := by
  simp only [fillP]
  unfold fillC
  split <;> rfl
theorem fillC_def (z : List PV) (off n : Nat) (cs : List PV) : fillC z off n cs = if cs.length = n ∧ off + n ≤ z.length ∧ cs.all PV.scal = true then some (psplice z off cs) else none := rfl
end Go.Eng
namespace Go.Eng
structure FQ where
  p : WI
  q : WI
  q1 : 1 ≤ q.v
  cop : Nat.gcd p.v.natAbs q.v.natAbs = 1
theorem wl_sub1 {y : WI} (hy : 1 ≤ y.v) : wlen (y.v - 1).natAbs ≤ 512 := by
  have h := (wide_iff _).1 y.lim
  refine (wide_iff _).2 ?_
  unfold inR at *
  exact Nat.lt_of_le_of_lt (by omega) h
def FQ.l (f : FQ) : WI := ⟨f.q.v - 1, wl_sub1 f.q1⟩
noncomputable def fqP (f : FQ) : PV := .ag [.b (decide (f.p.v < 0)), D f.p.v.natAbs, .b (decide (f.l.v < 0)), D f.l.v.natAbs]
@[go_sem] theorem fz_fqP (M : PM) (d : Nat) (f : FQ) : fz M (d + 1 + 1) (fqP f) = some (fqP f, []) := _root_.id rfl
@[go_sem] theorem cells_fqP (f : FQ) : (fqP f).cells = [.b (decide (f.p.v < 0)), D f.p.v.natAbs, .b (decide (f.l.v < 0)), D f.l.v.natAbs] := _root_.id rfl
@[go_sem] theorem fold_fq (f : FQ) : PV.ag [.b (decide (f.p.v < 0)), D f.p.v.natAbs, .b (decide (f.l.v < 0)), D f.l.v.natAbs] = fqP f := _root_.id rfl
theorem p_must (x : WI) (e : Int) : pf E0 37 [wiP x, .i .i64 e] = some (wiP x) := by
  refine pf_run (xf := x_skymosaic_frac_must) rfl (by simp [x_skymosaic_frac_must]) ?_
  simp only [x_skymosaic_frac_must]
  simp (disch := omega) only [go_sem, seval, wrap_i64, wrap_u64, wrap_u32, wrap_u8, wrap_i32]
theorem p_over (x g : WI) (h : g.v ≠ 0) : ∃ q : WI, q.v = x.v / g.v ∧ pf E0 21 [wiP x, wiP g] = some (wiP q) := by
  have fd := p_Div x g h
  refine ⟨x.div g h, rfl, ?_⟩
  refine pf_run (xf := x_skymosaic_frac_over) rfl (by simp [x_skymosaic_frac_over]) ?_
  simp only [x_skymosaic_frac_over]
  simp (disch := omega) only [go_sem, seval, wrap_i64, wrap_u64, wrap_u32, wrap_u8, wrap_i32, fd]
noncomputable def wi1 : WI := wiOf 1 (by decide)
theorem wi1_v : wi1.v = 1 := rfl
theorem p_ftimes (x y : WI) : pf E0 20 [.lst [wiP x, wiP y]] = some (.tu [wiP (clip (x.v * y.v)), .i .i64 (lerr (x.v * y.v))]) := by
  refine pf_run (xf := x_skymosaic_frac_times) rfl (by simp [x_skymosaic_frac_times]) ?_
  simp only [x_skymosaic_frac_times]
  have f1 : pf E0 34 [.i .i64 1] = some (wiP wi1) := p_From (n := 1) (by decide)
  have m1 : pf E0 38 [wiP wi1, wiP x] = some (.tu [wiP x, .i .i64 0]) := by
    have h := p_Mul wi1 x
    rw [wi1_v, Int.one_mul, lerr_ok x.lim, clip_ok x.lim] at h
    exact h
  have m2 := p_Mul x y
  generalize wi1 = w1 at *
  simp (disch := omega) only [go_sem, seval, wrap_i64, wrap_u64, wrap_u32, wrap_u8, wrap_i32, f1]
  refine wk_roll x_skymosaic_frac_times_l1.eq_1 ?_
  simp (disch := omega) only [go_sem, seval, wrap_i64, wrap_u64, wrap_u32, wrap_u8, wrap_i32, m1]
  refine wk_roll x_skymosaic_frac_times_l1.eq_1 ?_
  by_cases h : wlen (x.v * y.v).natAbs ≤ 512
  · have e := lerr_ok h
    rw [e] at m2 ⊢
    simp (disch := omega) only [go_sem, seval, wrap_i64, wrap_u64, wrap_u32, wrap_u8, wrap_i32, m2]
    refine wk_roll x_skymosaic_frac_times_l1.eq_1 ?_
    simp (disch := omega) only [go_sem, seval, wrap_i64, wrap_u64, wrap_u32, wrap_u8, wrap_i32, m2]
  · have e := lerr_no h
    have e2 := clip_no h
    rw [e, e2] at m2 ⊢
    simp (disch := omega) only [go_sem, seval, wrap_i64, wrap_u64, wrap_u32, wrap_u8, wrap_i32, m2]
theorem fq0_cop : Nat.gcd wi0.v.natAbs wi1.v.natAbs = 1 := by decide
noncomputable def fq0 : FQ := ⟨wi0, wi1, by decide, fq0_cop⟩
theorem fqP0 : fqP fq0 = .ag [.b false, .lst [], .b false, .lst []] := by
  have h1 : D (0 : Int).natAbs = .lst [] := D_zero.symm
  show PV.ag [.b (decide ((0 : Int) < 0)), D (0 : Int).natAbs, .b (decide ((1 : Int) - 1 < 0)), D ((1 : Int) - 1).natAbs] = _
  rw [show (1 : Int) - 1 = 0 by decide, h1]; rfl
theorem p_lowest (x y : WI) (hy : 1 ≤ y.v) (hc : Nat.gcd x.v.natAbs y.v.natAbs = 1) : pf E0 22 [wiP x, wiP y, .i .i64 0, .i .i64 0] = some (.tu [fqP ⟨x, y, hy, hc⟩, .i .i64 0]) := by
  refine pf_run (xf := x_skymosaic_frac_lowest) rfl (by simp [x_skymosaic_frac_lowest]) ?_
  simp only [x_skymosaic_frac_lowest]
  have f1 : pf E0 34 [.i .i64 1] = some (wiP wi1) := p_From (n := 1) (by decide)
  have s1 := p_Sub y wi1
  rw [wi1_v] at s1
  have m1 := p_must (clip (y.v - 1)) (lerr (y.v - 1))
  have cv := clip_v (wl_sub1 hy)
  generalize lerr (y.v - 1) = le at *
  generalize wi1 = w1 at *
  have hq : fqP ⟨x, y, hy, hc⟩ = .ag [.b (decide (x.v < 0)), D x.v.natAbs, .b (decide ((clip (y.v - 1)).v < 0)), D (clip (y.v - 1)).v.natAbs] := by rw [cv]; rfl
  rw [hq]
  generalize clip (y.v - 1) = z at *
  simp (disch := omega) only [go_sem, seval, wrap_i64, wrap_u64, wrap_u32, wrap_u8, wrap_i32]
  refine wk_calmX [4, 5] rfl (by simp only [go_sem, seval]) ?_
  simp (disch := omega) only [go_sem, seval, wrap_i64, wrap_u64, wrap_u32, wrap_u8, wrap_i32, f1, s1, m1, fill_C, fillC_def]
theorem p_lowestE (x y : WI) {e f : Int} (h : e ≠ 0 ∨ f ≠ 0) : pf E0 22 [wiP x, wiP y, .i .i64 e, .i .i64 f] = some (.tu [fqP fq0, .i .i64 4]) := by
  refine pf_run (xf := x_skymosaic_frac_lowest) rfl (by simp [x_skymosaic_frac_lowest]) ?_
  simp only [x_skymosaic_frac_lowest]
  rw [fqP0]
  by_cases he : e = 0
  · have hf : (f = 0) = False := by simp; rcases h with h | h <;> first | exact h | exact absurd he h
    have he : (e = 0) = True := by simp [he]
    simp (disch := omega) only [go_sem, seval, wrap_i64, wrap_u64, wrap_u32, wrap_u8, wrap_i32, he, hf]
  · have he : (e = 0) = False := by simp [he]
    simp (disch := omega) only [go_sem, seval, wrap_i64, wrap_u64, wrap_u32, wrap_u8, wrap_i32, he]
theorem p_Make0 (x y : WI) (h : y.v = 0) : pf E0 24 [wiP x, wiP y] = some (.tu [fqP fq0, .i .i64 1]) := by
  refine pf_run (xf := x_skymosaic_frac_Make) rfl (by simp [x_skymosaic_frac_Make]) ?_
  simp only [x_skymosaic_frac_Make]
  rw [fqP0]
  have sy := p_Sign y
  have sc : (cmpI y.v 0 = 0) = True := by rw [h]; simp [cmpI]
  simp (disch := omega) only [go_sem, seval, wrap_i64, wrap_u64, wrap_u32, wrap_u8, wrap_i32, sy, sc]
theorem p_MakeP (x y g : WI) (hg : g.v = gI x.v y.v) (hy : 0 < y.v) : ∃ f : FQ, f.p.v = lowP x.v y.v ∧ f.q.v = lowQ x.v y.v ∧ ∃ a b : WI, pf E0 21 [wiP x, wiP g] = some (wiP a) ∧ pf E0 21 [wiP y, wiP g] = some (wiP b) ∧ pf E0 22 [wiP a, wiP b, .i .i64 0, .i .i64 0] = some (.tu [fqP f, .i .i64 0]) := by
  have gn : g.v ≠ 0 := by rw [hg]; exact gI_ne (by omega)
  obtain ⟨a, ha, fa⟩ := p_over x g gn
  obtain ⟨b, hb, fb⟩ := p_over y g gn
  have e1 : a.v = lowP x.v y.v := by rw [ha, hg]; unfold lowP; rw [if_neg (by omega)]
  have e2 : b.v = lowQ x.v y.v := by rw [hb, hg]; unfold lowQ; rw [if_neg (by omega)]
  have hq : 1 ≤ b.v := by rw [e2]; exact low_pos (by omega)
  have hc : Nat.gcd a.v.natAbs b.v.natAbs = 1 := by rw [e1, e2]; exact low_cop (by omega)
  exact ⟨⟨a, b, hq, hc⟩, e1, e2, a, b, fa, fb, p_lowest a b hq hc⟩
theorem low_negneg (p q : Int) (h : q < 0) : lowP (-p) (-q) = lowP p q ∧ lowQ (-p) (-q) = lowQ p q := by
  have h2 : ¬ -q < 0 := by omega
  unfold lowP lowQ
  rw [gI_neg]
  simp only [h, h2, if_true, if_false, and_self]
theorem p_Make (x y : WI) (h : y.v ≠ 0) : ∃ f : FQ, f.p.v = lowP x.v y.v ∧ f.q.v = lowQ x.v y.v ∧ pf E0 24 [wiP x, wiP y] = some (.tu [fqP f, .i .i64 0]) := by
  by_cases hn : y.v < 0
  · have hg := p_Gcd x.neg y.neg
    obtain ⟨f, h1, h2, a, b, fa, fb, fl⟩ := p_MakeP x.neg y.neg (x.neg.gcd y.neg) rfl (by show 0 < -y.v; omega)
    obtain ⟨l1, l2⟩ := low_negneg x.v y.v hn
    refine ⟨f, h1.trans l1, h2.trans l2, ?_⟩
    generalize x.neg.gcd y.neg = g at *
    refine pf_run (xf := x_skymosaic_frac_Make) rfl (by simp [x_skymosaic_frac_Make]) ?_
    simp only [x_skymosaic_frac_Make]
    have sy := p_Sign y
    have sc : cmpI y.v 0 = -1 := by unfold cmpI; rw [if_pos hn]
    rw [sc] at sy
    have n1 := p_Neg x
    have n2 := p_Neg y
    generalize x.neg = xn at *
    generalize y.neg = yn at *
    simp (disch := omega) only [go_sem, seval, wrap_i64, wrap_u64, wrap_u32, wrap_u8, wrap_i32, sy]
    refine wk_calmX [3] rfl (by simp only [go_sem, seval]) ?_
    simp (disch := omega) only [go_sem, seval, wrap_i64, wrap_u64, wrap_u32, wrap_u8, wrap_i32, n1, n2, hg]
    refine wk_calmX [3, 6] rfl (by simp only [go_sem, seval]) ?_
    simp (disch := omega) only [go_sem, seval, wrap_i64, wrap_u64, wrap_u32, wrap_u8, wrap_i32, fa, fb, fl]
  · have hg := p_Gcd x y
    obtain ⟨f, h1, h2, a, b, fa, fb, fl⟩ := p_MakeP x y (x.gcd y) rfl (by omega)
    refine ⟨f, h1, h2, ?_⟩
    generalize x.gcd y = g at *
    refine pf_run (xf := x_skymosaic_frac_Make) rfl (by simp [x_skymosaic_frac_Make]) ?_
    simp only [x_skymosaic_frac_Make]
    have sy := p_Sign y
    have sc : cmpI y.v 0 = 1 := by unfold cmpI; rw [if_neg hn, if_pos (by omega)]
    rw [sc] at sy
    simp (disch := omega) only [go_sem, seval, wrap_i64, wrap_u64, wrap_u32, wrap_u8, wrap_i32, sy, hg]
    refine wk_calmX [3, 6] rfl (by simp only [go_sem, seval]) ?_
    simp (disch := omega) only [go_sem, seval, wrap_i64, wrap_u64, wrap_u32, wrap_u8, wrap_i32, fa, fb, fl]
end Go.Eng
namespace Go.Eng
theorem p_fNum (f : FQ) : pf E0 64 [fqP f] = some (wiP f.p) := by
  refine pf_run (xf := x__skymosaic_frac_Frac__Num) rfl (by simp [x__skymosaic_frac_Frac__Num]) ?_
  simp only [x__skymosaic_frac_Frac__Num]
  simp (disch := omega) only [go_sem, seval, wrap_i64, wrap_u64, wrap_u32, wrap_u8, wrap_i32]
theorem p_fDen (f : FQ) : pf E0 19 [fqP f] = some (wiP f.q) := by
  refine pf_run (xf := x__skymosaic_frac_Frac__Den) rfl (by simp [x__skymosaic_frac_Frac__Den]) ?_
  simp only [x__skymosaic_frac_Frac__Den]
  have f1 : pf E0 34 [.i .i64 1] = some (wiP wi1) := p_From (n := 1) (by decide)
  have s1 := p_Add f.l wi1
  have e : f.l.v + wi1.v = f.q.v := by show f.q.v - 1 + 1 = f.q.v; omega
  have hc : clip f.q.v = f.q := clip_ok f.q.lim
  rw [e, hc] at s1
  have m1 := p_must f.q (lerr f.q.v)
  generalize lerr f.q.v = le at *
  generalize wi1 = w1 at *
  simp (disch := omega) only [go_sem, seval, wrap_i64, wrap_u64, wrap_u32, wrap_u8, wrap_i32]
  refine wk_calmR [3] rfl ?_ ?_
  · simp (disch := omega) only [go_sem, seval, wrap_i64, wrap_u64, wrap_u32, wrap_u8, wrap_i32, f1, s1, m1]
    exact ⟨_, rfl, rfl⟩
  simp (disch := omega) only [go_sem, seval, wrap_i64, wrap_u64, wrap_u32, wrap_u8, wrap_i32, f1, s1, m1]
theorem p_fOf {p q : Int} (hp : Fits64 p) (hq : Fits64 q) (h : q ≠ 0) : ∃ f : FQ, f.p.v = lowP p q ∧ f.q.v = lowQ p q ∧ pf E0 17 [.i .i64 p, .i .i64 q] = some (.tu [fqP f, .i .i64 0]) := by
  obtain ⟨x, hx, fx⟩ := from_ex hp
  obtain ⟨y, hy, fy⟩ := from_ex hq
  obtain ⟨f, h1, h2, fm⟩ := p_Make x y (by rw [hy]; exact h)
  rw [hx, hy] at h1 h2
  refine ⟨f, h1, h2, ?_⟩
  refine pf_run (xf := x_skymosaic_frac_Of) rfl (by simp [x_skymosaic_frac_Of]) ?_
  simp only [x_skymosaic_frac_Of]
  simp (disch := omega) only [go_sem, seval, wrap_i64, wrap_u64, wrap_u32, wrap_u8, wrap_i32, fx, fy, fm]
theorem gI_of (x y : WI) : (x.gcd y).v = gI x.v y.v := rfl
@[go_sem] theorem grp_wi2 (x y : WI) : group 2 2 [.b (decide (x.v < 0)), Dw (wlen x.v.natAbs) x.v.natAbs, .b (decide (y.v < 0)), Dw (wlen y.v.natAbs) y.v.natAbs] = [wiP x, wiP y] := _root_.id rfl
theorem p_fAddR (a b : FQ) {g s t cx cy cs cd : WI} {ex ey es ed : Int} (hg : pf E0 18 [wiP a.q, wiP b.q] = some (wiP g)) (fs : pf E0 21 [wiP b.q, wiP g] = some (wiP s)) (ft : pf E0 21 [wiP a.q, wiP g] = some (wiP t))
    (nx : pf E0 20 [.lst [wiP a.p, wiP s]] = some (.tu [wiP cx, .i .i64 ex])) (ny : pf E0 20 [.lst [wiP b.p, wiP t]] = some (.tu [wiP cy, .i .i64 ey])) (ns : pf E0 23 [wiP cx, wiP cy] = some (.tu [wiP cs, .i .i64 es]))
    (nd : pf E0 20 [.lst [wiP t, wiP b.q]] = some (.tu [wiP cd, .i .i64 ed])) (f : FQ) (e : Int)
    (hR : (ex = 0 ∧ ey = 0 ∧ es = 0 ∧ ed = 0 ∧ pf E0 24 [wiP cs, wiP cd] = some (.tu [fqP f, .i .i64 e])) ∨ (¬ (ex = 0 ∧ ey = 0 ∧ es = 0 ∧ ed = 0) ∧ f = fq0 ∧ e = 4)) :
    pf E0 9 [fqP a, fqP b] = some (.tu [fqP f, .i .i64 e]) := by
  have da := p_fDen a
  have db := p_fDen b
  refine pf_run (xf := x_skymosaic_frac_Add) rfl (by simp [x_skymosaic_frac_Add]) ?_
  simp only [x_skymosaic_frac_Add]
  simp (disch := omega) only [go_sem, seval, wrap_i64, wrap_u64, wrap_u32, wrap_u8, wrap_i32]
  refine wk_calmX [3] rfl (by simp only [go_sem, seval]) ?_
  simp (disch := omega) only [go_sem, seval, wrap_i64, wrap_u64, wrap_u32, wrap_u8, wrap_i32, da, db, hg]
  refine wk_calmR [21, 6] rfl ?_ ?_
  · simp (disch := omega) only [go_sem, seval, wrap_i64, wrap_u64, wrap_u32, wrap_u8, wrap_i32, db, fs, nx, fill_C, fillC_def]
    exact ⟨_, rfl, rfl⟩
  simp (disch := omega) only [go_sem, seval, wrap_i64, wrap_u64, wrap_u32, wrap_u8, wrap_i32, db, fs, nx, fill_C, fillC_def]
  refine wk_calmR [32, 6] rfl ?_ ?_
  · simp (disch := omega) only [go_sem, seval, wrap_i64, wrap_u64, wrap_u32, wrap_u8, wrap_i32, da, ft, ny, fill_C, fillC_def]
    exact ⟨_, rfl, rfl⟩
  simp (disch := omega) only [go_sem, seval, wrap_i64, wrap_u64, wrap_u32, wrap_u8, wrap_i32, da, ft, ny, ns, fill_C, fillC_def]
  refine wk_calmX [6, 3] rfl (by simp only [go_sem, seval]) ?_
  rcases hR with ⟨h1, h2, h3, h4, hM⟩ | ⟨hn, hf, he⟩
  · subst h1 h2 h3 h4
    simp (disch := omega) only [go_sem, seval, wrap_i64, wrap_u64, wrap_u32, wrap_u8, wrap_i32, da, db, ft, nd, hM, fill_C, fillC_def]
  · subst hf he
    rw [fqP0]
    by_cases h1 : ex = 0
    · by_cases h2 : ey = 0
      · by_cases h3 : es = 0
        · have h4 : (ed = 0) = False := by simp; exact fun q => hn ⟨h1, h2, h3, q⟩
          subst h1 h2 h3
          simp (disch := omega) only [go_sem, seval, wrap_i64, wrap_u64, wrap_u32, wrap_u8, wrap_i32, da, db, ft, nd, h4, fill_C, fillC_def]
        · have h3 : (es = 0) = False := by simp [h3]
          subst h1 h2
          simp (disch := omega) only [go_sem, seval, wrap_i64, wrap_u64, wrap_u32, wrap_u8, wrap_i32, da, db, ft, nd, h3, fill_C, fillC_def]
      · have h2 : (ey = 0) = False := by simp [h2]
        subst h1
        simp (disch := omega) only [go_sem, seval, wrap_i64, wrap_u64, wrap_u32, wrap_u8, wrap_i32, da, db, ft, nd, h2, fill_C, fillC_def]
    · have h1 : (ex = 0) = False := by simp [h1]
      simp (disch := omega) only [go_sem, seval, wrap_i64, wrap_u64, wrap_u32, wrap_u8, wrap_i32, da, db, ft, nd, h1, fill_C, fillC_def]
def adX (a b : FQ) : Int := a.p.v * (b.q.v / gI a.q.v b.q.v)
def adY (a b : FQ) : Int := b.p.v * (a.q.v / gI a.q.v b.q.v)
def adD (a b : FQ) : Int := a.q.v / gI a.q.v b.q.v * b.q.v
def adOk (a b : FQ) : Prop := inR (adX a b).natAbs ∧ inR (adY a b).natAbs ∧ inR (adX a b + adY a b).natAbs ∧ inR (adD a b).natAbs
theorem adD_ne (a b : FQ) : adD a b ≠ 0 := by
  have ha := a.q1
  have hb := b.q1
  have h1 : a.q.v / gI a.q.v b.q.v * gI a.q.v b.q.v = a.q.v := Int.ediv_mul_cancel (gI_dvdl _ _)
  have h2 : a.q.v / gI a.q.v b.q.v ≠ 0 := fun q => by rw [q] at h1; omega
  exact Int.mul_ne_zero h2 (by omega)
theorem inR_c {z : Int} (h : inR z.natAbs) : (clip z).v = z ∧ lerr z = 0 := ⟨clip_v ((wide_iff _).2 h), lerr_ok ((wide_iff _).2 h)⟩
theorem inR_l {z : Int} (h : lerr z = 0) : inR z.natAbs := by
  by_cases q : wlen z.natAbs ≤ 512
  · exact (wide_iff _).1 q
  · rw [lerr_no q] at h; cases h
theorem p_fAdd (a b : FQ) : (adOk a b → ∃ f : FQ, f.p.v = lowP (adX a b + adY a b) (adD a b) ∧ f.q.v = lowQ (adX a b + adY a b) (adD a b) ∧ pf E0 9 [fqP a, fqP b] = some (.tu [fqP f, .i .i64 0])) ∧
    (¬ adOk a b → pf E0 9 [fqP a, fqP b] = some (.tu [fqP fq0, .i .i64 4])) := by
  have hg := p_Gcd a.q b.q
  have gv := gI_of a.q b.q
  have gn : (a.q.gcd b.q).v ≠ 0 := by rw [gv]; exact gI_ne (by have := b.q1; omega)
  obtain ⟨s, hs, fs⟩ := p_over b.q (a.q.gcd b.q) gn
  obtain ⟨t, ht, ft⟩ := p_over a.q (a.q.gcd b.q) gn
  rw [gv] at hs ht
  have nx := p_ftimes a.p s
  have ny := p_ftimes b.p t
  have nd := p_ftimes t b.q
  have eX : a.p.v * s.v = adX a b := by rw [hs]; rfl
  have eY : b.p.v * t.v = adY a b := by rw [ht]; rfl
  have eD : t.v * b.q.v = adD a b := by rw [ht]; rfl
  rw [eX] at nx
  rw [eY] at ny
  rw [eD] at nd
  have ns := p_Add (clip (adX a b)) (clip (adY a b))
  constructor
  · rintro ⟨r1, r2, r3, r4⟩
    obtain ⟨c1, l1⟩ := inR_c r1
    obtain ⟨c2, l2⟩ := inR_c r2
    obtain ⟨c3, l3⟩ := inR_c r3
    obtain ⟨c4, l4⟩ := inR_c r4
    rw [c1, c2] at ns
    obtain ⟨f, h1, h2, fm⟩ := p_Make (clip (adX a b + adY a b)) (clip (adD a b)) (by rw [c4]; exact adD_ne a b)
    rw [c3, c4] at h1 h2
    exact ⟨f, h1, h2, p_fAddR a b hg fs ft nx ny ns nd f 0 (.inl ⟨l1, l2, l3, l4, fm⟩)⟩
  · intro hn
    refine p_fAddR a b hg fs ft nx ny ns nd fq0 4 (.inr ⟨fun ⟨l1, l2, l3, l4⟩ => hn ?_, rfl, rfl⟩)
    have r1 := inR_l l1
    have r2 := inR_l l2
    rw [(inR_c r1).1, (inR_c r2).1] at l3
    exact ⟨r1, r2, inR_l l3, inR_l l4⟩
end Go.Eng
namespace Go.Eng
def FQ.neg (f : FQ) : FQ := ⟨f.p.neg, f.q, f.q1, by show Nat.gcd (-f.p.v).natAbs f.q.v.natAbs = 1; rw [Int.natAbs_neg]; exact f.cop⟩
theorem p_fSub (a b : FQ) : pf E0 81 [fqP a, fqP b] = pf E0 9 [fqP a, fqP b.neg] := by
  have key : ∀ r : PV, pf E0 9 [fqP a, fqP b.neg] = some r → (∃ f e, r = .tu [fqP f, .i .i64 e]) → pf E0 81 [fqP a, fqP b] = some r := by
    rintro r hr ⟨f, e, rfl⟩
    refine pf_run (xf := x_skymosaic_frac_Sub) rfl (by simp [x_skymosaic_frac_Sub]) ?_
    simp only [x_skymosaic_frac_Sub]
    have n1 := p_Neg b.p
    have hb : fqP b.neg = .ag [.b (decide (b.p.neg.v < 0)), D b.p.neg.v.natAbs, .b (decide (b.l.v < 0)), D b.l.v.natAbs] := rfl
    rw [hb] at hr
    generalize b.p.neg = m at *
    simp (disch := omega) only [go_sem, seval, wrap_i64, wrap_u64, wrap_u32, wrap_u8, wrap_i32]
    refine wk_calmR [2, 10] rfl ?_ ?_
    · simp (disch := omega) only [go_sem, seval, wrap_i64, wrap_u64, wrap_u32, wrap_u8, wrap_i32, n1, hr, fill_C, fillC_def]
      exact ⟨_, rfl, rfl⟩
    simp (disch := omega) only [go_sem, seval, wrap_i64, wrap_u64, wrap_u32, wrap_u8, wrap_i32, n1, hr, fill_C, fillC_def]
  by_cases h : adOk a b.neg
  · obtain ⟨f, _, _, h1⟩ := (p_fAdd a b.neg).1 h
    rw [h1]; exact key _ h1 ⟨_, _, rfl⟩
  · have h1 := (p_fAdd a b.neg).2 h
    rw [h1]; exact key _ h1 ⟨_, _, rfl⟩
theorem p_fSign (a : FQ) : pf E0 67 [fqP a] = some (.i .i64 (cmpI a.p.v 0)) := by
  refine pf_run (xf := x_skymosaic_frac_Sign) rfl (by simp [x_skymosaic_frac_Sign]) ?_
  simp only [x_skymosaic_frac_Sign]
  simp (disch := omega) only [go_sem, seval, wrap_i64, wrap_u64, wrap_u32, wrap_u8, wrap_i32]
theorem p_fMulR (a b : FQ) {g h u v w z cp cq : WI} {ep eq : Int} (f : FQ) (e : Int) (hg : pf E0 18 [wiP a.p, wiP b.q] = some (wiP g)) (hh : pf E0 18 [wiP b.p, wiP a.q] = some (wiP h))
    (fu : pf E0 21 [wiP a.p, wiP g] = some (wiP u)) (fv : pf E0 21 [wiP b.p, wiP h] = some (wiP v)) (n1 : pf E0 20 [.lst [wiP u, wiP v]] = some (.tu [wiP cp, .i .i64 ep]))
    (fw : pf E0 21 [wiP a.q, wiP h] = some (wiP w)) (fz' : pf E0 21 [wiP b.q, wiP g] = some (wiP z)) (n2 : pf E0 20 [.lst [wiP w, wiP z]] = some (.tu [wiP cq, .i .i64 eq]))
    (fl : pf E0 22 [wiP cp, wiP cq, .i .i64 ep, .i .i64 eq] = some (.tu [fqP f, .i .i64 e])) : pf E0 8 [fqP a, fqP b] = some (.tu [fqP f, .i .i64 e]) := by
  have da := p_fDen a
  have db := p_fDen b
  refine pf_run (xf := x_skymosaic_frac_Mul) rfl (by simp [x_skymosaic_frac_Mul]) ?_
  simp only [x_skymosaic_frac_Mul]
  simp (disch := omega) only [go_sem, seval, wrap_i64, wrap_u64, wrap_u32, wrap_u8, wrap_i32]
  refine wk_calmR [12, 17, 2] rfl ?_ ?_
  · simp (disch := omega) only [go_sem, seval, wrap_i64, wrap_u64, wrap_u32, wrap_u8, wrap_i32, da, db, hg, hh]
    exact ⟨_, rfl, rfl⟩
  simp (disch := omega) only [go_sem, seval, wrap_i64, wrap_u64, wrap_u32, wrap_u8, wrap_i32, da, db, hg, hh]
  refine wk_calmR [27, 7] rfl ?_ ?_
  · simp (disch := omega) only [go_sem, seval, wrap_i64, wrap_u64, wrap_u32, wrap_u8, wrap_i32, fu, fv, n1, fill_C, fillC_def]
    exact ⟨_, rfl, rfl⟩
  simp (disch := omega) only [go_sem, seval, wrap_i64, wrap_u64, wrap_u32, wrap_u8, wrap_i32, fu, fv, n1, fill_C, fillC_def]
  refine wk_calmX [7, 3, 6] rfl (by simp only [go_sem, seval]) ?_
  simp (disch := omega) only [go_sem, seval, wrap_i64, wrap_u64, wrap_u32, wrap_u8, wrap_i32, da, db, fw, fz', n2, fl, fill_C, fillC_def]
end Go.Eng
namespace Go.Eng
theorem div_cop {p s : Int} (hs : s ≠ 0) : Nat.Coprime (p / gI p s).natAbs (s / gI p s).natAbs := by
  have g := gI_pos (p := p) hs
  have e1 : (p / gI p s).natAbs * (gI p s).natAbs = p.natAbs := by rw [← Int.natAbs_mul, Int.ediv_mul_cancel (gI_dvdl p s)]
  have e2 : (s / gI p s).natAbs * (gI p s).natAbs = s.natAbs := by rw [← Int.natAbs_mul, Int.ediv_mul_cancel (gI_dvdr p s)]
  have e3 : (gI p s).natAbs = Nat.gcd p.natAbs s.natAbs := Int.natAbs_natCast _
  have e4 := Nat.gcd_mul_right (p / gI p s).natAbs (gI p s).natAbs (s / gI p s).natAbs
  rw [e1, e2, ← e3] at e4
  have : 0 < (gI p s).natAbs := by omega
  exact Nat.eq_of_mul_eq_mul_right this (by rw [Nat.one_mul]; exact e4.symm)
theorem mul_low {p q r s : Int} (hq : 0 < q) (hs : 0 < s) (c1 : Nat.gcd p.natAbs q.natAbs = 1) (c2 : Nat.gcd r.natAbs s.natAbs = 1) :
    p / gI p s * (r / gI r q) = lowP (p * r) (q * s) ∧ q / gI r q * (s / gI p s) = lowQ (p * r) (q * s) ∧ 0 < q / gI r q * (s / gI p s) ∧ Nat.gcd (p / gI p s * (r / gI r q)).natAbs (q / gI r q * (s / gI p s)).natAbs = 1 := by
  have g1 := gI_pos (p := p) (q := s) (by omega)
  have g2 := gI_pos (p := r) (q := q) (by omega)
  have k1 := div_cop (p := p) (s := s) (by omega)
  have k2 := div_cop (p := r) (s := q) (by omega)
  have a1 : p / gI p s * gI p s = p := Int.ediv_mul_cancel (gI_dvdl p s)
  have a2 : s / gI p s * gI p s = s := Int.ediv_mul_cancel (gI_dvdr p s)
  have a3 : r / gI r q * gI r q = r := Int.ediv_mul_cancel (gI_dvdl r q)
  have a4 : q / gI r q * gI r q = q := Int.ediv_mul_cancel (gI_dvdr r q)
  generalize gI p s = g at *
  generalize gI r q = h at *
  generalize p / g = u at *
  generalize s / g = z at *
  generalize r / h = v at *
  generalize q / h = w at *
  have z0 : 0 < z := Int.pos_of_mul_pos_left (by rw [a2]; exact hs) g1
  have w0 : 0 < w := Int.pos_of_mul_pos_left (by rw [a4]; exact hq) g2
  have du : u.natAbs ∣ p.natAbs := Int.natAbs_dvd_natAbs.2 ⟨g, a1.symm⟩
  have dw : w.natAbs ∣ q.natAbs := Int.natAbs_dvd_natAbs.2 ⟨h, a4.symm⟩
  have dv : v.natAbs ∣ r.natAbs := Int.natAbs_dvd_natAbs.2 ⟨h, a3.symm⟩
  have dz : z.natAbs ∣ s.natAbs := Int.natAbs_dvd_natAbs.2 ⟨g, a2.symm⟩
  have k3 : Nat.Coprime u.natAbs w.natAbs := Nat.Coprime.coprime_dvd_left du (Nat.Coprime.coprime_dvd_right dw c1)
  have k4 : Nat.Coprime v.natAbs z.natAbs := Nat.Coprime.coprime_dvd_left dv (Nat.Coprime.coprime_dvd_right dz c2)
  have hc : Nat.gcd (u * v).natAbs (w * z).natAbs = 1 := by
    rw [Int.natAbs_mul, Int.natAbs_mul]
    exact Nat.Coprime.mul_left (Nat.Coprime.mul_right k3 k1) (Nat.Coprime.mul_right k2 k4)
  have hp : 0 < w * z := Int.mul_pos w0 z0
  have hx : q * s ≠ 0 := Int.mul_ne_zero (by omega) (by omega)
  have cr := low_cross (p := p * r) hx
  obtain ⟨e1, e2⟩ := low_uniq (p := u * v) (q := w * z) hp (low_pos hx) hc (low_cop hx) (by
    apply Int.eq_of_mul_eq_mul_right (a := q * s) hx
    have : u * v * (q * s) = p * r * (w * z) := by rw [← a1, ← a2, ← a3, ← a4]; grind
    calc u * v * lowQ (p * r) (q * s) * (q * s) = u * v * (q * s) * lowQ (p * r) (q * s) := by grind
      _ = p * r * (w * z) * lowQ (p * r) (q * s) := by rw [this]
      _ = p * r * lowQ (p * r) (q * s) * (w * z) := by grind
      _ = lowP (p * r) (q * s) * (q * s) * (w * z) := by rw [cr]
      _ = lowP (p * r) (q * s) * (w * z) * (q * s) := by grind)
  exact ⟨e1, e2, hp, hc⟩
def muP (a b : FQ) : Int := lowP (a.p.v * b.p.v) (a.q.v * b.q.v)
def muQ (a b : FQ) : Int := lowQ (a.p.v * b.p.v) (a.q.v * b.q.v)
theorem p_fMul (a b : FQ) : (inR (muP a b).natAbs ∧ inR (muQ a b).natAbs → ∃ f : FQ, f.p.v = muP a b ∧ f.q.v = muQ a b ∧ pf E0 8 [fqP a, fqP b] = some (.tu [fqP f, .i .i64 0])) ∧
    (¬ (inR (muP a b).natAbs ∧ inR (muQ a b).natAbs) → pf E0 8 [fqP a, fqP b] = some (.tu [fqP fq0, .i .i64 4])) := by
  have qa := a.q1
  have qb := b.q1
  obtain ⟨m1, m2, m3, m4⟩ := mul_low (p := a.p.v) (q := a.q.v) (r := b.p.v) (s := b.q.v) (by omega) (by omega) a.cop b.cop
  have hg := p_Gcd a.p b.q
  have hh := p_Gcd b.p a.q
  have gv := gI_of a.p b.q
  have hv := gI_of b.p a.q
  have gn : (a.p.gcd b.q).v ≠ 0 := by rw [gv]; exact gI_ne (by omega)
  have hn : (b.p.gcd a.q).v ≠ 0 := by rw [hv]; exact gI_ne (by omega)
  obtain ⟨u, eu, fu⟩ := p_over a.p _ gn
  obtain ⟨v, ev, fv⟩ := p_over b.p _ hn
  obtain ⟨w, ew, fw⟩ := p_over a.q _ hn
  obtain ⟨z, ez, fz'⟩ := p_over b.q _ gn
  rw [gv] at eu ez
  rw [hv] at ev ew
  have n1 := p_ftimes u v
  have n2 := p_ftimes w z
  have e1 : u.v * v.v = muP a b := by rw [eu, ev]; exact m1
  have e2 : w.v * z.v = muQ a b := by rw [ew, ez]; exact m2
  rw [m1, m2] at m4
  rw [m2] at m3
  have m3 : 0 < muQ a b := m3
  have m4 : Nat.gcd (muP a b).natAbs (muQ a b).natAbs = 1 := m4
  rw [e1] at n1
  rw [e2] at n2
  constructor
  · rintro ⟨r1, r2⟩
    obtain ⟨c1, l1⟩ := inR_c r1
    obtain ⟨c2, l2⟩ := inR_c r2
    have fl := p_lowest (clip (muP a b)) (clip (muQ a b)) (by rw [c2]; omega) (by rw [c1, c2]; exact m4)
    rw [l1] at n1
    rw [l2] at n2
    exact ⟨⟨clip (muP a b), clip (muQ a b), by rw [c2]; omega, by rw [c1, c2]; exact m4⟩, c1, c2, p_fMulR a b _ 0 hg hh fu fv n1 fw fz' n2 fl⟩
  · intro hno
    refine p_fMulR a b fq0 4 hg hh fu fv n1 fw fz' n2 (p_lowestE _ _ ?_)
    by_cases l1 : lerr (muP a b) = 0
    · right
      intro l2
      exact hno ⟨inR_l l1, inR_l l2⟩
    · exact .inl l1
end Go.Eng
namespace Go.Eng
theorem p_fDiv0 (a b : FQ) (h : b.p.v = 0) : pf E0 65 [fqP a, fqP b] = some (.tu [fqP fq0, .i .i64 1]) := by
  have db := p_fDen b
  have mk := p_Make0 b.q b.p h
  refine pf_run (xf := x_skymosaic_frac_Div) rfl (by simp [x_skymosaic_frac_Div]) ?_
  simp only [x_skymosaic_frac_Div]
  rw [fqP0] at mk ⊢
  simp (disch := omega) only [go_sem, seval, wrap_i64, wrap_u64, wrap_u32, wrap_u8, wrap_i32]
  refine wk_calmR [11] rfl ?_ ?_
  · simp (disch := omega) only [go_sem, seval, wrap_i64, wrap_u64, wrap_u32, wrap_u8, wrap_i32, db, mk]
    exact ⟨_, rfl, rfl⟩
  simp (disch := omega) only [go_sem, seval, wrap_i64, wrap_u64, wrap_u32, wrap_u8, wrap_i32, db, mk]
end Go.Eng
namespace Go.Eng
noncomputable def ftx (p q : Int) : List UInt8 := if q = 1 then decI p else decI p ++ [47] ++ decI q
theorem decI_short (x : WI) : (decI x.v).length ≤ 1000000 := by
  have h := inR_dlen ((wide_iff _).1 x.lim)
  have h1 : (dec x.v.natAbs).length ≤ 4956 + 1 := by
    unfold dec; split
    · simp
    · rw [dtx_len]; omega
  unfold decI; split <;> (try simp only [List.length_cons]) <;> omega
theorem p_fString (f : FQ) : pf E0 16 [fqP f] = some (.s (ftx f.p.v f.q.v)) := by
  have df := p_fDen f
  have s1 := p_Str f.p
  have s2 := p_Str f.q
  have sg := p_Sign f.l
  have l1 := decI_short f.p
  have l2 := decI_short f.q
  have hl : f.l.v = f.q.v - 1 := rfl
  have q1 := f.q1
  refine pf_run (xf := x__skymosaic_frac_Frac__String) rfl (by simp [x__skymosaic_frac_Frac__String]) ?_
  simp only [x__skymosaic_frac_Frac__String]
  unfold ftx
  by_cases h : f.q.v = 1
  · rw [if_pos h]
    have sc : (cmpI f.l.v 0 = 0) = True := by rw [hl, h]; simp [cmpI]
    simp (disch := omega) only [go_sem, seval, wrap_i64, wrap_u64, wrap_u32, wrap_u8, wrap_i32, sg, sc, s1]
  · rw [if_neg h]
    have sc : (cmpI f.l.v 0 = 0) = False := by
      have : cmpI f.l.v 0 = 1 := by unfold cmpI; rw [if_neg (by omega), if_pos (by omega)]
      rw [this]; simp
    have a1 : binP .add (.s (decI f.p.v)) (.s [47]) = some (.s (decI f.p.v ++ [47])) := bin_sadd _ _ (by simp only [List.length_cons, List.length_nil]; omega)
    have a2 : binP .add (.s (decI f.p.v ++ [47])) (.s (decI f.q.v)) = some (.s (decI f.p.v ++ [47] ++ decI f.q.v)) := bin_sadd _ _ (by simp only [List.length_append, List.length_cons, List.length_nil]; omega)
    simp (disch := omega) only [go_sem, seval, wrap_i64, wrap_u64, wrap_u32, wrap_u8, wrap_i32, sg, sc]
    refine wk_calmX [1] rfl (by simp only [go_sem, seval]) ?_
    simp (disch := omega) only [go_sem, seval, wrap_i64, wrap_u64, wrap_u32, wrap_u8, wrap_i32, df, s1, s2, a1, a2]
end Go.Eng
namespace Go.Eng
noncomputable def rfP (p q : Int) : PV := .ag [.b (decide (p < 0)), T p.natAbs, .b (decide (q < 0)), T q.natAbs]
@[go_sem] theorem fz_rfP (M : PM) (d : Nat) (p q : Int) : fz M (d + 1 + 1) (rfP p q) = some (rfP p q, []) := _root_.id rfl
@[go_sem] theorem cells_rfP (p q : Int) : (rfP p q).cells = [.b (decide (p < 0)), T p.natAbs, .b (decide (q < 0)), T q.natAbs] := _root_.id rfl
@[go_sem] theorem fold_rf (p q : Int) : PV.ag [.b (decide (p < 0)), T p.natAbs, .b (decide (q < 0)), T q.natAbs] = rfP p q := _root_.id rfl
theorem p_rfOf {n : Int} (h : Fits64 n) : pf E0 185 [.i .i64 n] = some (rfP n 1) := by
  have h1 := p_rOf n h
  have h2 := p_rOf 1 (by decide)
  obtain ⟨o, ho⟩ : ∃ o : Int, nP o = nP 1 ∧ rfP n o = rfP n 1 := ⟨1, rfl, rfl⟩
  rw [← ho.1] at h2
  rw [← ho.2]
  clear ho
  refine pf_run (xf := x_skymosaic_skymosaicref04_Of) rfl (by simp [x_skymosaic_skymosaicref04_Of]) ?_
  simp only [x_skymosaic_skymosaicref04_Of]
  simp (disch := omega) only [go_sem, seval, wrap_i64, wrap_u64, wrap_u32, wrap_u8, wrap_i32, h1, h2, fill_C, fillC_def]
theorem p_rfMake0 (p : Int) : pf E0 182 [nP p, nP 0] = some (.tu [rfP 0 1, .i .i64 1]) := by
  have h1 := p_rfOf (n := 0) (by decide)
  obtain ⟨o, ho⟩ : ∃ o : Int, o = 0 := ⟨0, rfl⟩
  obtain ⟨r, hr⟩ : ∃ r : Int, r = 1 := ⟨1, rfl⟩
  have t0 : ((tlen o.natAbs : Int) = 0) = True := by rw [ho, Int.natAbs_zero, tlen_zero]; simp
  have e1 : nP 0 = nP o := by rw [ho]
  have e2 : rfP 0 1 = rfP o r := by rw [ho, hr]
  rw [e2] at h1
  rw [e1, e2]
  clear e1 e2 ho hr
  refine pf_run (xf := x_skymosaic_skymosaicref04_Make) rfl (by simp [x_skymosaic_skymosaicref04_Make]) ?_
  simp only [x_skymosaic_skymosaicref04_Make]
  simp (disch := omega) only [go_sem, seval, wrap_i64, wrap_u64, wrap_u32, wrap_u8, wrap_i32, t0, h1]
theorem p_rfMake (p q : Int) (h : q ≠ 0) (lp : tlen p.natAbs < 90000) (lq : tlen q.natAbs < 90000) : pf E0 182 [nP p, nP q] = some (.tu [rfP (lowP p q) (lowQ p q), .i .i64 0]) := by
  have t0 : ((tlen q.natAbs : Int) = 0) = False := by have := tlen_pos (v := q.natAbs) (by omega); simp; omega
  refine pf_run (xf := x_skymosaic_skymosaicref04_Make) rfl (by simp [x_skymosaic_skymosaicref04_Make]) ?_
  simp only [x_skymosaic_skymosaicref04_Make]
  by_cases hn : q < 0
  · have sn : decide (q < 0) = true := by simpa using hn
    have n1 := p_rNeg p (by omega)
    have n2 := p_rNeg q (by omega)
    have f1 : PV.ag [PV.b true, T q.natAbs] = nP q := by rw [← sn]; rfl
    have f2 : PV.ag [PV.b true, Tw (tlen q.natAbs) q.natAbs] = nP q := by rw [← sn]; rfl
    obtain ⟨l1, l2⟩ := low_negneg p q hn
    have gN := gI_ne (p := -p) (q := -q) (by omega)
    have gl : tlen (gI (-p) (-q)).natAbs < 90000 := by
      rw [gI_neg]
      have : (gI p q).natAbs ≤ q.natAbs := by
        unfold gI; rw [Int.natAbs_natCast]; exact Nat.gcd_le_right _ (by omega)
      have := tlen_mono this
      omega
    have g := p_rGcd (-p) (-q) (by rw [Int.natAbs_neg]; omega) (by rw [Int.natAbs_neg]; omega)
    have d1 := p_rDiv gN (x := -p) (by rw [Int.natAbs_neg]; omega) (by omega)
    have d2 := p_rDiv gN (x := -q) (by rw [Int.natAbs_neg]; omega) (by omega)
    rw [← l1, ← l2]
    have e1 : lowP (-p) (-q) = -p / gI (-p) (-q) := by unfold lowP; rw [if_neg (by omega)]
    have e2 : lowQ (-p) (-q) = -q / gI (-p) (-q) := by unfold lowQ; rw [if_neg (by omega)]
    rw [e1, e2]
    have hg : nP (((Nat.gcd (-p).natAbs (-q).natAbs : Nat) : Int)) = nP (gI (-p) (-q)) := rfl
    rw [hg] at g
    generalize gI (-p) (-q) = G at *
    generalize -p = P at *
    generalize -q = Q at *
    simp (disch := omega) only [go_sem, seval, wrap_i64, wrap_u64, wrap_u32, wrap_u8, wrap_i32, t0, sn, f1, f2, n1, n2, g, d1, d2, fill_C, fillC_def]
  · have sn : decide (q < 0) = false := by simpa using hn
    have f1 : PV.ag [PV.b false, T q.natAbs] = nP q := by rw [← sn]; rfl
    have f2 : PV.ag [PV.b false, Tw (tlen q.natAbs) q.natAbs] = nP q := by rw [← sn]; rfl
    have gN := gI_ne (p := p) (q := q) h
    have gl : tlen (gI p q).natAbs < 90000 := by
      have : (gI p q).natAbs ≤ q.natAbs := by
        unfold gI; rw [Int.natAbs_natCast]; exact Nat.gcd_le_right _ (by omega)
      have := tlen_mono this
      omega
    have g := p_rGcd p q (by omega) (by omega)
    have d1 := p_rDiv gN (x := p) (by omega) (by omega)
    have d2 := p_rDiv gN (x := q) (by omega) (by omega)
    have e1 : lowP p q = p / gI p q := by unfold lowP; rw [if_neg hn]
    have e2 : lowQ p q = q / gI p q := by unfold lowQ; rw [if_neg hn]
    rw [e1, e2]
    have hg : nP (((Nat.gcd p.natAbs q.natAbs : Nat) : Int)) = nP (gI p q) := rfl
    rw [hg] at g
    generalize gI p q = G at *
    simp (disch := omega) only [go_sem, seval, wrap_i64, wrap_u64, wrap_u32, wrap_u8, wrap_i32, t0, sn, f1, f2, g, d1, d2, fill_C, fillC_def]
end Go.Eng
namespace Go.Eng
theorem p_rFits' {z : Int} (h : tlen z.natAbs < 100000000) : pf E0 126 [nP z] = some (.b (decide (inR z.natAbs))) := by
  have h1 := p_rFits z h
  have h2 : (tlen z.natAbs < 1230 ∨ z.natAbs < 2 ^ 16384) = inR z.natAbs := propext (fits_iff _)
  simp only [h2] at h1
  exact h1
end Go.Eng
namespace Go.Eng
theorem decI_len2' (z : Int) : (decI z).length ≤ 4 * tlen z.natAbs + 2 := by
  have : dlen z.natAbs ≤ 4 * tlen z.natAbs := by
    rw [dlen_iff, Nat.pow_mul]; exact tlen_lt _
  have h1 : (dec z.natAbs).length ≤ 4 * tlen z.natAbs + 1 := by
    unfold dec; split
    · simp
    · rw [dtx_len]; omega
  unfold decI; split <;> (try simp only [List.length_cons]) <;> omega
theorem p_rfText (p q : Int) (lp : tlen p.natAbs < 20000) (lq : tlen q.natAbs < 20000) : pf E0 196 [rfP p q] = some (.s (ftx p q)) := by
  have t1 := p_Text (z := p) (by omega)
  have t2 := p_Text (z := q) (by omega)
  have l1 := decI_len2' p
  have l2 := decI_len2' q
  have e1 : decI 1 = [49] := by
    unfold decI; rw [if_neg (by decide)]
    show dec 1 = [49]
    rw [dec_eval (v := 1) (n := 0) (by decide) (by decide)]; rfl
  refine pf_run (xf := x_skymosaic_skymosaicref04_Text) rfl (by simp [x_skymosaic_skymosaicref04_Text]) ?_
  simp only [x_skymosaic_skymosaicref04_Text]
  unfold ftx
  by_cases h : q = 1
  · rw [if_pos h]
    have t2' : pf E0 107 [nP q] = some (.s [49]) := by rw [t2, h, e1]
    simp (disch := omega) only [go_sem, seval, wrap_i64, wrap_u64, wrap_u32, wrap_u8, wrap_i32, t2', t1]
  · rw [if_neg h]
    have hne : (decI q = [49]) = False := by
      simp only [eq_iff_iff, iff_false]
      intro e; rw [← e1] at e; exact h (decI_inj e)
    have a1 : binP .add (.s (decI p)) (.s [47]) = some (.s (decI p ++ [47])) := bin_sadd _ _ (by simp only [List.length_cons, List.length_nil]; omega)
    have a2 : binP .add (.s (decI p ++ [47])) (.s (decI q)) = some (.s (decI p ++ [47] ++ decI q)) := bin_sadd _ _ (by simp only [List.length_append, List.length_cons, List.length_nil]; omega)
    simp (disch := omega) only [go_sem, seval, wrap_i64, wrap_u64, wrap_u32, wrap_u8, wrap_i32, t2, t1, hne, a1, a2]
theorem p_rfCompare (p q r s : Int) (lp : tlen p.natAbs < 20000) (lq : tlen q.natAbs < 20000) (lr : tlen r.natAbs < 20000) (ls : tlen s.natAbs < 20000) : pf E0 200 [rfP p q, rfP r s] = some (.i .i64 (cmpI (p * s) (r * q))) := by
  have t1 := tlen_mulI p s
  have t2 := tlen_mulI r q
  have m1 := p_rMul p s (by omega) (by omega)
  have m2 := p_rMul r q (by omega) (by omega)
  have c := p_rCompare (p * s) (r * q) (by omega) (by omega)
  generalize p * s = x at *
  generalize r * q = y at *
  refine pf_run (xf := x_skymosaic_skymosaicref04_Compare) rfl (by simp [x_skymosaic_skymosaicref04_Compare]) ?_
  simp only [x_skymosaic_skymosaicref04_Compare]
  simp (disch := omega) only [go_sem, seval, wrap_i64, wrap_u64, wrap_u32, wrap_u8, wrap_i32]
  refine wk_calmR [10, 12] rfl ?_ ?_
  · simp (disch := omega) only [go_sem, seval, wrap_i64, wrap_u64, wrap_u32, wrap_u8, wrap_i32, m1, m2, c]
    exact ⟨_, rfl, rfl⟩
  simp (disch := omega) only [go_sem, seval, wrap_i64, wrap_u64, wrap_u32, wrap_u8, wrap_i32, m1, m2, c]
theorem p_rfSign (p q : Int) : pf E0 199 [rfP p q] = some (.i .i64 (cmpI p 0)) := by
  refine pf_run (xf := x_skymosaic_skymosaicref04_Sign) rfl (by simp [x_skymosaic_skymosaicref04_Sign]) ?_
  simp only [x_skymosaic_skymosaicref04_Sign]
  by_cases h : p = 0
  · have t0 : ((tlen p.natAbs : Int) = 0) = True := by rw [h, Int.natAbs_zero, tlen_zero]; simp
    have c : cmpI p 0 = 0 := by rw [h]; rfl
    rw [c]
    simp (disch := omega) only [go_sem, seval, wrap_i64, wrap_u64, wrap_u32, wrap_u8, wrap_i32, t0]
  · have t0 : ((tlen p.natAbs : Int) = 0) = False := by have := tlen_pos (v := p.natAbs) (by omega); simp; omega
    by_cases hn : p < 0
    · have c : cmpI p 0 = -1 := by unfold cmpI; rw [if_pos hn]
      have sn : decide (p < 0) = true := by simpa using hn
      rw [c]
      simp (disch := omega) only [go_sem, seval, wrap_i64, wrap_u64, wrap_u32, wrap_u8, wrap_i32, t0, sn]
    · have c : cmpI p 0 = 1 := by unfold cmpI; rw [if_neg hn, if_pos (by omega)]
      have sn : decide (p < 0) = false := by simpa using hn
      rw [c]
      simp (disch := omega) only [go_sem, seval, wrap_i64, wrap_u64, wrap_u32, wrap_u8, wrap_i32, t0, sn]
end Go.Eng
namespace Go.Eng
theorem app_l (b0 b1 b2 b3 b4 b5 b6 b7 : Option PB) (c0 c1 c2 c3 c4 c5 d0 d1 : PV) : appP [b0, b1, b2, b3, b4, b5, b6, b7, some ⟨[c0, c1, c2, c3, c4, c5], true, 0⟩, some ⟨[d0, d1], true, 0⟩] 2 32 (.sl 8 0 3 3 2) (.sl 9 0 1 1 2) =
    some (.sl 10 0 4 4 2, [b0, b1, b2, b3, b4, b5, b6, b7, none, some ⟨[d0, d1], true, 0⟩, some ⟨[c0, c1, c2, c3, c4, c5, d0, d1], true, 0⟩]) := rfl
theorem p_rfAdd (p q r s : Int) (q0 : 0 < q) (s0 : 0 < s) (lp : tlen p.natAbs < 20000) (lq : tlen q.natAbs < 20000) (lr : tlen r.natAbs < 20000) (ls : tlen s.natAbs < 20000) :
    (inR (p * (s / gI q s)).natAbs ∧ inR (r * (q / gI q s)).natAbs ∧ inR (p * (s / gI q s) + r * (q / gI q s)).natAbs ∧ inR (q / gI q s * s).natAbs →
      pf E0 190 [rfP p q, rfP r s] = some (.tu [rfP (lowP (p * (s / gI q s) + r * (q / gI q s)) (q / gI q s * s)) (lowQ (p * (s / gI q s) + r * (q / gI q s)) (q / gI q s * s)), .i .i64 0])) ∧
    (¬ (inR (p * (s / gI q s)).natAbs ∧ inR (r * (q / gI q s)).natAbs ∧ inR (p * (s / gI q s) + r * (q / gI q s)).natAbs ∧ inR (q / gI q s * s).natAbs) → pf E0 190 [rfP p q, rfP r s] = some (.tu [rfP 0 1, .i .i64 4])) := by
  have g := p_rGcd q s (by omega) (by omega)
  have hg : nP (((Nat.gcd q.natAbs s.natAbs : Nat) : Int)) = nP (gI q s) := rfl
  rw [hg] at g
  have gN := gI_ne (p := q) (q := s) (by omega)
  have gl : tlen (gI q s).natAbs < 20000 := by
    have : (gI q s).natAbs ≤ s.natAbs := by
      unfold gI; rw [Int.natAbs_natCast]; exact Nat.gcd_le_right _ (by omega)
    have := tlen_mono this
    omega
  have zN : q / gI q s * s ≠ 0 := by
    have h1 : q / gI q s * gI q s = q := Int.ediv_mul_cancel (gI_dvdl q s)
    have h2 : q / gI q s ≠ 0 := fun e => by rw [e] at h1; omega
    exact Int.mul_ne_zero h2 (by omega)
  have d1 := p_rDiv gN (x := s) (by omega) (by omega)
  have d2 := p_rDiv gN (x := q) (by omega) (by omega)
  have k1 : tlen (s / gI q s).natAbs < 20000 := by
    have : (s / gI q s).natAbs ≤ s.natAbs := by rw [Int.natAbs_ediv_of_dvd (gI_dvdr q s)]; exact Nat.div_le_self _ _
    have := tlen_mono this
    omega
  have k2 : tlen (q / gI q s).natAbs < 20000 := by
    have : (q / gI q s).natAbs ≤ q.natAbs := by rw [Int.natAbs_ediv_of_dvd (gI_dvdl q s)]; exact Nat.div_le_self _ _
    have := tlen_mono this
    omega
  generalize gI q s = G at *
  generalize s / G = S at *
  generalize q / G = Q at *
  have m1 := p_rMul p S (by omega) (by omega)
  have m2 := p_rMul r Q (by omega) (by omega)
  have m3 := p_rMul Q s (by omega) (by omega)
  have t1 := tlen_mulI p S
  have t2 := tlen_mulI r Q
  have t3 := tlen_mulI Q s
  generalize p * S = x at *
  generalize r * Q = y at *
  generalize Q * s = z at *
  have a1 := p_rAdd x y (by omega) (by omega)
  have t4 := tlen_addI x y
  have mk := p_rfMake (x + y) z zN (by omega) (by omega)
  have f1 := p_rFits' (z := x) (by omega)
  have f2 := p_rFits' (z := y) (by omega)
  have f3 := p_rFits' (z := z) (by omega)
  have f4 := p_rFits' (z := x + y) (by omega)
  generalize lowP (x + y) z = u at *
  generalize lowQ (x + y) z = v at *
  generalize x + y = w at *
  constructor
  · rintro ⟨r1, r2, r4, r3⟩
    rw [decide_eq_true r1] at f1
    rw [decide_eq_true r2] at f2
    rw [decide_eq_true r3] at f3
    rw [decide_eq_true r4] at f4
    refine pf_run (xf := x_skymosaic_skymosaicref04_Add) rfl (by simp [x_skymosaic_skymosaicref04_Add]) ?_
    simp only [x_skymosaic_skymosaicref04_Add]
    simp (disch := omega) only [go_sem, seval, wrap_i64, wrap_u64, wrap_u32, wrap_u8, wrap_i32, g, d1, d2]
    refine wk_calmR [37, 9, 42] rfl ?_ ?_
    · simp (disch := omega) only [go_sem, seval, wrap_i64, wrap_u64, wrap_u32, wrap_u8, wrap_i32, m1, m2, m3, fill_C, fillC_def]
      exact ⟨_, rfl, rfl⟩
    simp (disch := omega) only [go_sem, seval, wrap_i64, wrap_u64, wrap_u32, wrap_u8, wrap_i32, m1, m2, m3, a1, app_l, fill_C, fillC_def]
    refine wk_roll x_skymosaic_skymosaicref04_Add_l1.eq_1 ?_
    simp (disch := omega) only [go_sem, seval, wrap_i64, wrap_u64, wrap_u32, wrap_u8, wrap_i32, f1]
    refine wk_roll x_skymosaic_skymosaicref04_Add_l1.eq_1 ?_
    simp (disch := omega) only [go_sem, seval, wrap_i64, wrap_u64, wrap_u32, wrap_u8, wrap_i32, f2]
    refine wk_roll x_skymosaic_skymosaicref04_Add_l1.eq_1 ?_
    simp (disch := omega) only [go_sem, seval, wrap_i64, wrap_u64, wrap_u32, wrap_u8, wrap_i32, f3]
    refine wk_roll x_skymosaic_skymosaicref04_Add_l1.eq_1 ?_
    simp (disch := omega) only [go_sem, seval, wrap_i64, wrap_u64, wrap_u32, wrap_u8, wrap_i32, f4]
    refine wk_roll x_skymosaic_skymosaicref04_Add_l1.eq_1 ?_
    simp (disch := omega) only [go_sem, seval, wrap_i64, wrap_u64, wrap_u32, wrap_u8, wrap_i32, mk]
  · intro hn
    have h1 := p_rfOf (n := 0) (by decide)
    obtain ⟨o, ho⟩ : ∃ o : Int, o = 0 := ⟨0, rfl⟩
    obtain ⟨k, hk⟩ : ∃ k : Int, k = 1 := ⟨1, rfl⟩
    have e2 : rfP 0 1 = rfP o k := by rw [ho, hk]
    rw [e2] at h1 ⊢
    clear e2 ho hk
    refine pf_run (xf := x_skymosaic_skymosaicref04_Add) rfl (by simp [x_skymosaic_skymosaicref04_Add]) ?_
    simp only [x_skymosaic_skymosaicref04_Add]
    simp (disch := omega) only [go_sem, seval, wrap_i64, wrap_u64, wrap_u32, wrap_u8, wrap_i32, g, d1, d2]
    refine wk_calmR [37, 9, 42] rfl ?_ ?_
    · simp (disch := omega) only [go_sem, seval, wrap_i64, wrap_u64, wrap_u32, wrap_u8, wrap_i32, m1, m2, m3, fill_C, fillC_def]
      exact ⟨_, rfl, rfl⟩
    simp (disch := omega) only [go_sem, seval, wrap_i64, wrap_u64, wrap_u32, wrap_u8, wrap_i32, m1, m2, m3, a1, app_l, fill_C, fillC_def]
    refine wk_roll x_skymosaic_skymosaicref04_Add_l1.eq_1 ?_
    by_cases r1 : inR x.natAbs
    · rw [decide_eq_true r1] at f1
      simp (disch := omega) only [go_sem, seval, wrap_i64, wrap_u64, wrap_u32, wrap_u8, wrap_i32, f1]
      refine wk_roll x_skymosaic_skymosaicref04_Add_l1.eq_1 ?_
      by_cases r2 : inR y.natAbs
      · rw [decide_eq_true r2] at f2
        simp (disch := omega) only [go_sem, seval, wrap_i64, wrap_u64, wrap_u32, wrap_u8, wrap_i32, f2]
        refine wk_roll x_skymosaic_skymosaicref04_Add_l1.eq_1 ?_
        by_cases r3 : inR z.natAbs
        · rw [decide_eq_true r3] at f3
          simp (disch := omega) only [go_sem, seval, wrap_i64, wrap_u64, wrap_u32, wrap_u8, wrap_i32, f3]
          refine wk_roll x_skymosaic_skymosaicref04_Add_l1.eq_1 ?_
          rw [decide_eq_false fun r4 => hn ⟨r1, r2, r4, r3⟩] at f4
          simp (disch := omega) only [go_sem, seval, wrap_i64, wrap_u64, wrap_u32, wrap_u8, wrap_i32, f4, h1]
        · rw [decide_eq_false r3] at f3
          simp (disch := omega) only [go_sem, seval, wrap_i64, wrap_u64, wrap_u32, wrap_u8, wrap_i32, f3, h1]
      · rw [decide_eq_false r2] at f2
        simp (disch := omega) only [go_sem, seval, wrap_i64, wrap_u64, wrap_u32, wrap_u8, wrap_i32, f2, h1]
    · rw [decide_eq_false r1] at f1
      simp (disch := omega) only [go_sem, seval, wrap_i64, wrap_u64, wrap_u32, wrap_u8, wrap_i32, f1, h1]
end Go.Eng
namespace Go.Eng
theorem inR_of {z : Int} (h : tlen z.natAbs < 1230) : inR z.natAbs := (fits_iff _).1 (.inl h)
theorem inR_w {z : Int} (h : inR z.natAbs) : wlen z.natAbs ≤ 512 := (wide_iff _).2 h
theorem add_ex (x y : WI) {a b : Int} (hx : x.v = a) (hy : y.v = b) (h : tlen (a + b).natAbs < 1230) : ∃ s : WI, s.v = a + b ∧ pf E0 23 [wiP x, wiP y] = some (.tu [wiP s, .i .i64 0]) := by
  have h1 := p_Add x y
  rw [hx, hy] at h1
  rw [lerr_ok (inR_w (inR_of h))] at h1
  exact ⟨_, clip_v (inR_w (inR_of h)), h1⟩
end Go.Eng
namespace Go.Eng
theorem wi_ext {x y : WI} (h : x.v = y.v) : x = y := by cases x; cases y; cases h; rfl
theorem fq_ext {f g : FQ} (h1 : f.p.v = g.p.v) (h2 : f.q.v = g.q.v) : f = g := by
  have e1 := wi_ext h1
  have e2 := wi_ext h2
  cases f; cases g
  simp only at e1 e2
  subst e1 e2; rfl
def FQ.is (f : FQ) (n d : Int) : Prop := f.p.v * d = n * f.q.v
theorem is_low {f : FQ} {n d : Int} (h : d ≠ 0) (h1 : f.p.v = lowP n d) (h2 : f.q.v = lowQ n d) : f.is n d := by
  unfold FQ.is; rw [h1, h2]; exact low_cross h
theorem is_self (f : FQ) : f.is f.p.v f.q.v := rfl
theorem is_uniq {f g : FQ} {n d n' d' : Int} (hd : d ≠ 0) (hd' : d' ≠ 0) (hf : f.is n d) (hg : g.is n' d') (e : n * d' = n' * d) : f = g := by
  unfold FQ.is at hf hg
  have qf := f.q1
  have qg := g.q1
  have key : f.p.v * g.q.v = g.p.v * f.q.v := by
    apply Int.eq_of_mul_eq_mul_right (a := d * d') (Int.mul_ne_zero hd hd')
    calc f.p.v * g.q.v * (d * d') = f.p.v * d * (g.q.v * d') := by grind
      _ = n * f.q.v * (g.q.v * d') := by rw [hf]
      _ = n * d' * (f.q.v * g.q.v) := by grind
      _ = n' * d * (f.q.v * g.q.v) := by rw [e]
      _ = n' * g.q.v * (f.q.v * d) := by grind
      _ = g.p.v * d' * (f.q.v * d) := by rw [hg]
      _ = g.p.v * f.q.v * (d * d') := by grind
  obtain ⟨a, b⟩ := low_uniq (by omega) (by omega) f.cop g.cop key
  exact fq_ext a b
theorem is_scale {f : FQ} {n d : Int} (h : f.is n d) (k : Int) : f.is (n * k) (d * k) := by
  unfold FQ.is at *
  rw [← Int.mul_assoc, h]; grind
theorem ten4 (n : Nat) : (10 : Nat) ^ (4 * n) = 10000 ^ n := by rw [Nat.pow_mul]
theorem wi_tlen (x : WI) : tlen x.v.natAbs ≤ 1239 := by
  have h := inR_dlen ((wide_iff _).1 x.lim)
  obtain ⟨n, hn⟩ : ∃ n : Nat, n = 1239 := ⟨_, rfl⟩
  have h : dlen x.v.natAbs ≤ 4 * n := by omega
  rw [dlen_iff, ten4] at h
  rw [← hn, tlen_iff]
  exact h
def fsz (n : Nat) (f : FQ) : Prop := tlen f.p.v.natAbs ≤ n ∧ tlen f.q.v.natAbs ≤ n
theorem tlen_div {a g : Int} (h : g ∣ a) : tlen (a / g).natAbs ≤ tlen a.natAbs := by
  refine tlen_mono ?_
  rw [Int.natAbs_ediv_of_dvd h]; exact Nat.div_le_self _ _
theorem add_is (a b : FQ) {n m : Nat} (ha : fsz n a) (hb : fsz m b) (h : n + m + 1 < 1230) : ∃ f : FQ, pf E0 9 [fqP a, fqP b] = some (.tu [fqP f, .i .i64 0]) ∧ f.is (a.p.v * b.q.v + b.p.v * a.q.v) (a.q.v * b.q.v) ∧ fsz (n + m + 1) f := by
  obtain ⟨a1, a2⟩ := ha
  obtain ⟨b1, b2⟩ := hb
  have qa := a.q1
  have qb := b.q1
  have k1 := tlen_div (gI_dvdr a.q.v b.q.v)
  have k2 := tlen_div (gI_dvdl a.q.v b.q.v)
  have d1 : b.q.v / gI a.q.v b.q.v * gI a.q.v b.q.v = b.q.v := Int.ediv_mul_cancel (gI_dvdr _ _)
  have d2 : a.q.v / gI a.q.v b.q.v * gI a.q.v b.q.v = a.q.v := Int.ediv_mul_cancel (gI_dvdl _ _)
  have t1 : tlen (adX a b).natAbs ≤ n + m := Nat.le_trans (tlen_mulI _ _) (by omega)
  have t2 : tlen (adY a b).natAbs ≤ n + m := Nat.le_trans (tlen_mulI _ _) (by omega)
  have t3 : tlen (adD a b).natAbs ≤ n + m := Nat.le_trans (tlen_mulI _ _) (by omega)
  have t4 : tlen (adX a b + adY a b).natAbs ≤ n + m + 1 := Nat.le_trans (tlen_addI _ _) (by omega)
  have dn := adD_ne a b
  obtain ⟨f, h1, h2, hf⟩ := (p_fAdd a b).1 ⟨inR_of (by omega), inR_of (by omega), inR_of (by omega), inR_of (by omega)⟩
  refine ⟨f, hf, ?_, ?_, ?_⟩
  · have hs := is_scale (is_low dn h1 h2) (gI a.q.v b.q.v)
    have e1 : (adX a b + adY a b) * gI a.q.v b.q.v = a.p.v * b.q.v + b.p.v * a.q.v := by
      unfold adX adY
      rw [Int.add_mul, Int.mul_assoc, Int.mul_assoc, d1, d2]
    have e2 : adD a b * gI a.q.v b.q.v = a.q.v * b.q.v := by
      unfold adD
      rw [Int.mul_right_comm, d2]
    rwa [e1, e2] at hs
  · rw [h1]; exact Nat.le_trans (tlen_mono (lowP_le dn)) t4
  · rw [h2]; exact Nat.le_trans (tlen_mono (lowQ_le dn)) (by omega)
theorem fsz_neg {n : Nat} {f : FQ} (h : fsz n f) : fsz n f.neg := ⟨by show tlen (-f.p.v).natAbs ≤ n; rw [Int.natAbs_neg]; exact h.1, h.2⟩
theorem sub_is (a b : FQ) {n m : Nat} (ha : fsz n a) (hb : fsz m b) (h : n + m + 1 < 1230) : ∃ f : FQ, pf E0 81 [fqP a, fqP b] = some (.tu [fqP f, .i .i64 0]) ∧ f.is (a.p.v * b.q.v - b.p.v * a.q.v) (a.q.v * b.q.v) ∧ fsz (n + m + 1) f := by
  obtain ⟨f, h1, h2, h3⟩ := add_is a b.neg ha (fsz_neg hb) h
  refine ⟨f, by rw [p_fSub]; exact h1, ?_, h3⟩
  have e : a.p.v * b.neg.q.v + b.neg.p.v * a.q.v = a.p.v * b.q.v - b.p.v * a.q.v := by
    show a.p.v * b.q.v + -b.p.v * a.q.v = _
    rw [Int.neg_mul]; omega
  rwa [e] at h2
theorem mul_is (a b : FQ) {n m : Nat} (ha : fsz n a) (hb : fsz m b) (h : n + m < 1230) : ∃ f : FQ, pf E0 8 [fqP a, fqP b] = some (.tu [fqP f, .i .i64 0]) ∧ f.is (a.p.v * b.p.v) (a.q.v * b.q.v) ∧ fsz (n + m) f := by
  obtain ⟨a1, a2⟩ := ha
  obtain ⟨b1, b2⟩ := hb
  have qa := a.q1
  have qb := b.q1
  have dn : a.q.v * b.q.v ≠ 0 := Int.mul_ne_zero (by omega) (by omega)
  have t1 : tlen (muP a b).natAbs ≤ n + m := Nat.le_trans (tlen_mono (lowP_le dn)) (Nat.le_trans (tlen_mulI _ _) (by omega))
  have t2 : tlen (muQ a b).natAbs ≤ n + m := Nat.le_trans (tlen_mono (lowQ_le dn)) (Nat.le_trans (tlen_mulI _ _) (by omega))
  obtain ⟨f, h1, h2, hf⟩ := (p_fMul a b).1 ⟨inR_of (by omega), inR_of (by omega)⟩
  exact ⟨f, hf, is_low dn h1 h2, by rw [h1]; exact t1, by rw [h2]; exact t2⟩
noncomputable def rfQ (f : FQ) : PV := rfP f.p.v f.q.v
theorem rfQ_of {f : FQ} {n d : Int} (h1 : f.p.v = n) (h2 : f.q.v = d) : rfP n d = rfQ f := by rw [← h1, ← h2]; rfl
theorem add_both (a b : FQ) : ∃ (f : FQ) (e : Int), pf E0 9 [fqP a, fqP b] = some (.tu [fqP f, .i .i64 e]) ∧ pf E0 190 [rfQ a, rfQ b] = some (.tu [rfQ f, .i .i64 e]) := by
  have la := wi_tlen a.p
  have lb := wi_tlen b.p
  have ka := wi_tlen a.q
  have kb := wi_tlen b.q
  have qa := a.q1
  have qb := b.q1
  have hr := p_rfAdd a.p.v a.q.v b.p.v b.q.v (by omega) (by omega) (by omega) (by omega) (by omega) (by omega)
  by_cases h : adOk a b
  · obtain ⟨f, h1, h2, hf⟩ := (p_fAdd a b).1 h
    refine ⟨f, 0, hf, ?_⟩
    have := hr.1 h
    rw [← rfQ_of h1 h2]; exact this
  · exact ⟨fq0, 4, (p_fAdd a b).2 h, hr.2 h⟩
theorem cmpI_sub {a b c d : Int} (h : a - b = c - d) : cmpI a b = cmpI c d := by
  unfold cmpI
  have e1 : (a < b) = (c < d) := by simp only [eq_iff_iff]; omega
  have e2 : (b < a) = (d < c) := by simp only [eq_iff_iff]; omega
  simp only [e1, e2]
theorem cmpI_swap (a b : Int) : cmpI b a = -cmpI a b := by
  unfold cmpI
  rcases Int.lt_trichotomy a b with h | h | h
  · rw [if_neg (by omega), if_pos h, if_pos h]; rfl
  · subst h; rw [if_neg (by omega), if_neg (by omega)]; rfl
  · rw [if_pos h, if_neg (by omega), if_pos h]
theorem cmpI_scale {a b k : Int} (hk : 0 < k) : cmpI (a * k) (b * k) = cmpI a b := by
  unfold cmpI
  rcases Int.lt_trichotomy a b with h | h | h
  · have := Int.mul_lt_mul_of_pos_right h hk
    rw [if_pos this, if_pos h]
  · subst h; rw [if_neg (by omega), if_neg (by omega), if_neg (by omega), if_neg (by omega)]
  · have := Int.mul_lt_mul_of_pos_right h hk
    rw [if_neg (by omega), if_pos this, if_neg (by omega), if_pos h]
theorem cmpI_mul (a b k : Int) : cmpI (a * k) (b * k) = cmpI a b * cmpI k 0 := by
  rcases Int.lt_trichotomy k 0 with h | h | h
  · have e := cmpI_scale (a := b) (b := a) (k := -k) (by omega)
    have e2 : cmpI (a * k) (b * k) = cmpI (b * -k) (a * -k) := cmpI_sub (by rw [Int.mul_neg, Int.mul_neg]; omega)
    have e3 : cmpI k 0 = -1 := by unfold cmpI; rw [if_pos h]
    rw [e2, e, cmpI_swap a b, e3]; omega
  · subst h
    have e3 : cmpI 0 0 = 0 := rfl
    rw [Int.mul_zero, Int.mul_zero, e3, Int.mul_zero]
  · have e3 : cmpI k 0 = 1 := by unfold cmpI; rw [if_neg (by omega), if_pos h]
    rw [cmpI_scale h, e3, Int.mul_one]
theorem cmp_step1 {p q r s : Int} (hq : 0 < q) (hs : 0 < s) (h : p / q ≠ r / s) : cmpI (p * s) (r * q) = cmpI (p / q) (r / s) := by
  have key : ∀ {p q r s : Int}, 0 < q → 0 < s → p / q < r / s → p * s < r * q := fun {p q r s} hq hs h => by
    have d1 := Int.mul_ediv_add_emod p q
    have d2 := Int.mul_ediv_add_emod r s
    have m1 := Int.emod_lt_of_pos p hq
    have m2 := Int.emod_nonneg r (show s ≠ 0 by omega)
    have h1 : p < q * (r / s) := by
      have : q * (p / q + 1) ≤ q * (r / s) := Int.mul_le_mul_of_nonneg_left (by omega) (by omega)
      rw [Int.mul_add] at this
      omega
    have h2 : p * s < q * (r / s) * s := Int.mul_lt_mul_of_pos_right h1 hs
    have h3 : q * (r / s) * s ≤ r * q := by
      have : s * (r / s) * q ≤ r * q := Int.mul_le_mul_of_nonneg_right (by omega) (by omega)
      have e : q * (r / s) * s = s * (r / s) * q := by grind
      omega
    omega
  unfold cmpI
  rcases Int.lt_trichotomy (p / q) (r / s) with g | g | g
  · rw [if_pos (key hq hs g), if_pos g]
  · exact (h g).elim
  · have := key hs hq g
    rw [if_neg (by omega), if_pos this, if_neg (by omega), if_pos g]
theorem cmp_step2 {p q r s : Int} (h : p / q = r / s) : cmpI (p * s) (r * q) = cmpI (p % q * s) (r % s * q) := by
  refine cmpI_sub ?_
  have d1 := Int.mul_ediv_add_emod p q
  have d2 := Int.mul_ediv_add_emod r s
  rw [h] at d1
  have e1 : p * s = (q * (r / s) + p % q) * s := by rw [d1]
  have e2 : r * q = (s * (r / s) + r % s) * q := by rw [d2]
  rw [e1, e2]
  grind
theorem cmp_step3 {x y q s : Int} (hx : 0 ≤ x) (hy : 0 ≤ y) (hq : 0 < q) (hs : 0 < s) (h : x = 0 ∨ y = 0) : cmpI (x * s) (y * q) = cmpI x 0 - cmpI y 0 := by
  rcases h with h | h
  · subst h
    have := cmpI_scale (a := 0) (b := y) hq
    rw [Int.zero_mul] at this
    rw [Int.zero_mul, this]
    have e : cmpI 0 0 = 0 := rfl
    rw [e, cmpI_swap 0 y]; omega
  · subst h
    have := cmpI_scale (a := x) (b := 0) hs
    rw [Int.zero_mul] at this
    have e : cmpI 0 0 = 0 := rfl
    rw [Int.zero_mul, this, e]; omega
theorem cmp_step4 (x y q s : Int) : cmpI (x * s) (y * q) = -cmpI (q * y) (s * x) := by
  rw [Int.mul_comm x s, Int.mul_comm y q]; exact cmpI_swap _ _
def cmpF (a b : FQ) : Int := cmpI (a.p.v * b.q.v) (b.p.v * a.q.v)
theorem cmpF_swap (a b : FQ) : cmpF b a = -cmpF a b := cmpI_swap _ _
theorem cmpF_eq0 (a b : FQ) : cmpF a b = 0 ↔ a = b := by
  have qa := a.q1
  have qb := b.q1
  unfold cmpF
  rw [cmpI_eq0]
  constructor
  · intro h
    obtain ⟨x, y⟩ := low_uniq (by omega) (by omega) a.cop b.cop h
    exact fq_ext x y
  · rintro rfl; rfl
theorem cmpF_is {f g : FQ} {n d n' d' : Int} (hd : 0 < d) (hd' : 0 < d') (hf : f.is n d) (hg : g.is n' d') : cmpF f g = cmpI (n * d') (n' * d) := by
  unfold FQ.is at hf hg
  have qf := f.q1
  have qg := g.q1
  unfold cmpF
  rw [← cmpI_scale (a := f.p.v * g.q.v) (k := d * d') (Int.mul_pos hd hd'), ← cmpI_scale (a := n * d') (k := f.q.v * g.q.v) (Int.mul_pos (by omega) (by omega))]
  congr 1
  · calc f.p.v * g.q.v * (d * d') = f.p.v * d * (g.q.v * d') := by grind
      _ = n * f.q.v * (g.q.v * d') := by rw [hf]
      _ = n * d' * (f.q.v * g.q.v) := by grind
  · calc g.p.v * f.q.v * (d * d') = g.p.v * d' * (f.q.v * d) := by grind
      _ = n' * g.q.v * (f.q.v * d) := by rw [hg]
      _ = n' * d * (f.q.v * g.q.v) := by grind
end Go.Eng
namespace Go.Eng
def isPR : PV → Bool
  | .p _ _ => true
  | .sl _ _ _ _ _ => true
  | .tu _ => true
  | _ => false
def slotIn3 (E : PEnv) (ops : List XOper) (L : List Nat) (c : Nat × Nat) : Bool :=
  match ops[c.1]?, ops[c.2]? with
  | some a, some b =>
    match a.op.looks with
    | .t s => a.op.cls == 2 && L.contains s && calmOp E b.op
    | _ => false
  | _, _ => false
end Go.Eng
namespace Go.Eng
def apP : PV → PV → Bool
  | .p a _, .p b _ => !(Nat.beq a b)
  | _, _ => false
def slotSt (ops : List XOper) (L R : List Nat) (c : Nat × Nat) : Bool :=
  match ops[c.1]?, ops[c.2]? with
  | some a, some b =>
    match a.op, b.op with
    | .load _ _ (.t s), .store _ (.t r) _ => L.contains s && R.contains r && fixedX ops c.2 (.t r)
    | _, _ => false
  | _, _ => false
theorem wk_calmW {E : PEnv} {F : PFin} {ops : List XOper} {chk : List (Nat × Nat)} {ks : List KI} {fr : PFr} {M : PM} (L R : List Nat) (hL : chk.all (fun c => calmC E ops c || slotIn2 E ops L c || slotSt ops L R c) = true)
    (hr : WL E ⟨(0 :: 0 :: (L ++ R)).map XR.tmp, fun w _ => ∃ l, w = .tu l ∧ ((l.drop 2).take L.length).all (fun x => isPP x && ((l.drop 2).drop L.length).all (apP x)) = true⟩ ops [] fr M) (w : WL E F ops ks fr M) : WK E F (.drw ops chk) ks fr M := by
  refine wk_calmG (fun fr2 Ms hT => ?_) w
  have hp : ∀ s ∈ L, isPP (fr2 s) = true ∧ ∀ r ∈ R, apP (fr2 s) (fr2 r) = true := by
    obtain ⟨lf, q, fr3, M3, vs, e, h1, h2, l, h3, h4⟩ := hr
    simp only [Option.bind_eq_some_iff, unw] at e
    obtain ⟨⟨fr4, M4⟩, e1, e2⟩ := e
    simp only [Option.some.injEq, Prod.mk.injEq] at e2
    obtain ⟨_, e3, e4⟩ := e2
    rw [← e3, ← e4] at h2
    obtain ⟨Ms', g1, g2⟩ := pOpsT_of e1
    rw [g1] at hT
    cases hT
    have hres : ∀ (f : PFr) (N : PM) (l : List Nat), pRes f N (l.map XR.tmp) = some (l.map f) := fun f N l => by
      induction l with
      | nil => rfl
      | cons a l ih => simp only [List.map_cons, pRes, pResOne, ih]
    rw [hres] at h2
    cases h2
    simp only [List.map_cons, packP] at h3
    cases h3
    have h5 : (((L ++ R).map fr2).take L.length).all (fun x => isPP x && (((L ++ R).map fr2).drop L.length).all (apP x)) = true := h4
    rw [List.map_append, List.take_left' (by simp), List.drop_left' (by simp)] at h5
    simp only [List.all_eq_true, List.mem_map, Bool.and_eq_true, forall_exists_index, and_imp, forall_apply_eq_imp_iff₂] at h5
    exact h5
  rw [List.all_eq_true] at hL ⊢
  rintro ⟨i, j⟩ hc
  have h1 := hL _ hc
  simp only [Bool.or_eq_true] at h1
  rcases h1 with (h1 | h1) | h1
  · exact calm_chk hT h1
  · unfold slotIn2 at h1
    split at h1
    · rename_i a b ha hb
      split at h1
      · rename_i z k s hop
        simp only [Bool.and_eq_true] at h1
        obtain ⟨c1, c2⟩ := h1
        have hs := (hp s (List.contains_iff_mem.1 c1)).1
        cases hf : fr2 s with
        | p n o =>
          obtain ⟨fri, A, B, q1, q2, q3, q4⟩ := pOpsT_at hT ha
          obtain ⟨frj, C, D, p1, p2, p3, p4⟩ := pOpsT_at hT hb
          have p2' : Ms[(i, j).2 + 1]? = some D := p2
          have q2' : Ms[(i, j).1 + 1]? = some B := q2
          simp only [chkP, ha, q1, q2, p1, p2]
          rw [if_neg (by rw [hop]; simp [XO.cls])]
          rw [hop]
          show chkV ops j (.t s) C D (fr2 s) = true
          rw [hf]
          show verP (some n) C D = true
          rcases p3 with ⟨_, v, p3⟩ | ⟨_, p3⟩
          · cases hopb : b.op with
            | call f l =>
              rw [hopb] at p3 c2
              obtain ⟨ns, rfl⟩ := pcl_mem c2 p3
              exact roM_verP ns C _
            | _ => rw [hopb] at c2; simp [calmOp] at c2
          · rw [p3]; simp [verP]
        | _ => rw [hf] at hs; simp [isPP] at hs
      · cases h1
    · cases h1
  · unfold slotSt at h1
    split at h1
    · rename_i a b ha hb
      split at h1
      · rename_i z k s n r x hop hop2
        simp only [Bool.and_eq_true] at h1
        obtain ⟨⟨c1, c2⟩, c3⟩ := h1
        have hap := (hp s (List.contains_iff_mem.1 c1)).2 r (List.contains_iff_mem.1 c2)
        obtain ⟨fri, A, B, q1, q2, q3, q4⟩ := pOpsT_at hT ha
        obtain ⟨frj, C, D, p1, p2, p3, p4⟩ := pOpsT_at hT hb
        have p2' : Ms[(i, j).2 + 1]? = some D := p2
        have q2' : Ms[(i, j).1 + 1]? = some B := q2
        have e2 : fr2 r = frj r := p4 (.t r) c3
        simp only [chkP, ha, q1, q2, p1, p2]
        rw [if_neg (by rw [hop]; simp [XO.cls])]
        rw [hop]
        show chkV ops j (.t s) C D (fr2 s) = true
        cases hf : fr2 s with
        | p n1 o1 =>
          cases hg : fr2 r with
          | p n2 o2 =>
            rw [hf, hg] at hap
            have hne : n1 ≠ n2 := fun q => by rw [q] at hap; simp [apP] at hap
            show verP (some n1) C D = true
            rcases p3 with ⟨_, v, p3⟩ | ⟨_, p3⟩
            · rw [hop2] at p3
              simp only [XO.pst, XO.pev] at p3
              rw [show X.pv E.glob frj (.t r) = .p n2 o2 from e2.symm.trans hg] at p3
              simp only at p3
              generalize (X.pv E.glob frj x).cells = cs at p3
              split at p3
              · split at p3
                · cases p3
                  simp only [verP]
                  rw [List.getElem?_set_ne (fun h => hne h.symm)]; simp
                · cases p3
              · cases p3
            · rw [p3]; simp [verP]
          | _ => rw [hf, hg] at hap; simp [apP] at hap
        | _ => rw [hf] at hap; simp [apP] at hap
      · cases h1
    · cases h1
end Go.Eng
namespace Go.Eng
theorem mG (G L : PM) (k : Nat) : PM.blk (G ++ L) (G.length + k) = PM.blk L k := by
  unfold PM.blk
  rw [List.getElem?_append_right (by omega), Nat.add_sub_cancel_left]
theorem mG0 (G L : PM) : PM.blk (G ++ L) G.length = PM.blk L 0 := mG G L 0
theorem sG (G L : PM) (k : Nat) (v : Option PB) : (G ++ L).set (G.length + k) v = G ++ L.set k v := by
  rw [List.set_append_right _ _ (by omega), Nat.add_sub_cancel_left]
theorem sG0 (G L : PM) (v : Option PB) : (G ++ L).set G.length v = G ++ L.set 0 v := sG G L 0 v
theorem lG (G L : PM) : (G ++ L).length = G.length + L.length := List.length_append
theorem cmpI_rng (a b : Int) : -1 ≤ cmpI a b ∧ cmpI a b ≤ 1 := by unfold cmpI; split <;> (try split) <;> omega
theorem p_fCompare (a b : FQ) : pf E0 11 [fqP a, fqP b] = some (.i .i64 (cmpF a b)) := by
  have da := p_fDen a
  have db := p_fDen b
  have qa := a.q1
  have qb := b.q1
  refine pf_run (xf := x_skymosaic_frac_Compare) rfl (by simp [x_skymosaic_frac_Compare]) ?_
  simp only [x_skymosaic_frac_Compare]
  simp (disch := omega) only [go_sem, seval, wrap_i64, wrap_u64, wrap_u32, wrap_u8, wrap_i32]
  refine wk_calmW [16, 3, 20] [5, 6] rfl ?_ ?_
  · simp (disch := omega) only [go_sem, seval, wrap_i64, wrap_u64, wrap_u32, wrap_u8, wrap_i32, da, db]
    exact ⟨_, rfl, rfl⟩
  simp (disch := omega) only [go_sem, seval, wrap_i64, wrap_u64, wrap_u32, wrap_u8, wrap_i32, da, db]
  refine wk_ind x_skymosaic_frac_Compare_l1.eq_1 (fun (σ : (WI × WI) × (WI × WI) × Int) fr M => 1 ≤ σ.1.2.v ∧ 1 ≤ σ.2.1.2.v ∧ (σ.2.2 = 1 ∨ σ.2.2 = -1) ∧ σ.2.2 * cmpI (σ.1.1.v * σ.2.1.2.v) (σ.2.1.1.v * σ.1.2.v) = cmpF a b ∧
    fr 5 = .p 2 0 ∧ fr 6 = .p 3 0 ∧ fr 7 = .p 4 0 ∧ fr 8 = .p 5 0 ∧ fr 9 = .i .i64 σ.2.2 ∧ ∃ b0 b1 v2 v3 v4 v5 G, M = b0 :: b1 :: some ⟨(wiP σ.1.1).cells, true, v2⟩ :: some ⟨(wiP σ.1.2).cells, true, v3⟩ :: some ⟨(wiP σ.2.1.1).cells, true, v4⟩ :: some ⟨(wiP σ.2.1.2).cells, true, v5⟩ :: G)
    (fun σ => σ.1.2.v.toNat) ?_ ((a.p, a.q), (b.p, b.q), 1) ⟨qa, qb, .inl rfl, Int.one_mul _, by simp only [go_sem, seval], by simp only [go_sem, seval], by simp only [go_sem, seval], by simp only [go_sem, seval], by simp only [go_sem, seval], _, _, _, _, _, _, [], rfl⟩
  rintro ⟨⟨p, q⟩, ⟨r, s⟩, g⟩ fr M ⟨hq, hs, hg, hc, h5, h6, h7, h8, h9, b0, b1, v2, v3, v4, v5, G, rfl⟩ ih
  simp only at hq hs hg hc h5 h6 h7 h8 h9
  have d1 := p_Div p q (by omega)
  have d2 := p_Div r s (by omega)
  have xv : (p.div q (by omega)).v = p.v / q.v := rfl
  have ev : (p.mod q (by omega)).v = p.v % q.v := rfl
  have yv : (r.div s (by omega)).v = r.v / s.v := rfl
  have ov : (r.mod s (by omega)).v = r.v % s.v := rfl
  have e0 := Int.emod_nonneg p.v (show q.v ≠ 0 by omega)
  have o0 := Int.emod_nonneg r.v (show s.v ≠ 0 by omega)
  have e1 := Int.emod_lt_of_pos p.v (show 0 < q.v by omega)
  rw [← ev] at e0 e1
  rw [← ov] at o0
  have s1 := cmp_step1 (p := p.v) (q := q.v) (r := r.v) (s := s.v) (by omega) (by omega)
  have s2 := cmp_step2 (p := p.v) (q := q.v) (r := r.v) (s := s.v)
  rw [← xv, ← yv] at s1
  rw [← xv, ← yv, ← ev, ← ov] at s2
  generalize p.div q (by omega) = x at *
  generalize p.mod q (by omega) = e at *
  generalize r.div s (by omega) = y at *
  generalize r.mod s (by omega) = o at *
  have c1 := p_Compare x y
  have g1 := p_Sign e
  have g2 := p_Sign o
  have r1 := cmpI_rng x.v y.v
  have r2 := cmpI_rng e.v 0
  have r3 := cmpI_rng o.v 0
  by_cases hxy : x.v = y.v
  · have t0 : (cmpI x.v y.v = 0) = True := by rw [cmpI_eq0]; simp [hxy]
    have hb := s2 hxy
    by_cases hz : e.v = 0 ∨ o.v = 0
    · rw [cmp_step3 (by omega) (by omega) (by omega) (by omega) hz] at hb
      have hm : cmpF a b = g * (cmpI e.v 0 - cmpI o.v 0) := by rw [← hc, hb]
      have hl : -2 ≤ g * (cmpI e.v 0 - cmpI o.v 0) ∧ g * (cmpI e.v 0 - cmpI o.v 0) ≤ 2 := by rcases hg with rfl | rfl <;> omega
      rw [hm]
      by_cases he : e.v = 0
      · have t1 : (cmpI e.v 0 = 0) = True := by rw [cmpI_eq0]; simp [he]
        simp (disch := omega) only [go_sem, seval, wrap_i64, wrap_u64, wrap_u32, wrap_u8, wrap_i32, h5, h6, h7, h8, h9, d1, d2, mG, mG0, sG, sG0, lG, List.append_assoc, List.cons_append, List.nil_append, c1, g1, g2, t0, t1]
        refine wk_calmX [14] rfl (by simp only [go_sem, seval]) ?_
        simp (disch := omega) only [go_sem, seval, wrap_i64, wrap_u64, wrap_u32, wrap_u8, wrap_i32, h5, h6, h7, h8, h9, d1, d2, mG, mG0, sG, sG0, lG, List.append_assoc, List.cons_append, List.nil_append, c1, g1, g2]
      · have t1 : (cmpI e.v 0 = 0) = False := by rw [cmpI_eq0]; simp [he]
        have t2 : (cmpI o.v 0 = 0) = True := by rw [cmpI_eq0]; simp; omega
        simp (disch := omega) only [go_sem, seval, wrap_i64, wrap_u64, wrap_u32, wrap_u8, wrap_i32, h5, h6, h7, h8, h9, d1, d2, mG, mG0, sG, sG0, lG, List.append_assoc, List.cons_append, List.nil_append, c1, g1, g2, t0, t1, t2]
        refine wk_calmX [14] rfl (by simp only [go_sem, seval]) ?_
        simp (disch := omega) only [go_sem, seval, wrap_i64, wrap_u64, wrap_u32, wrap_u8, wrap_i32, h5, h6, h7, h8, h9, d1, d2, mG, mG0, sG, sG0, lG, List.append_assoc, List.cons_append, List.nil_append, c1, g1, g2]
    · have t1 : (cmpI e.v 0 = 0) = False := by rw [cmpI_eq0]; simp; omega
      have t2 : (cmpI o.v 0 = 0) = False := by rw [cmpI_eq0]; simp; omega
      have n0 : -1 ≤ g ∧ g ≤ 1 := by omega
      rw [cmp_step4 e.v o.v q.v s.v] at hb
      simp (disch := omega) only [go_sem, seval, wrap_i64, wrap_u64, wrap_u32, wrap_u8, wrap_i32, h5, h6, h7, h8, h9, d1, d2, mG, mG0, sG, sG0, lG, List.append_assoc, List.cons_append, List.nil_append, c1, g1, g2, t0, t1, t2]
      refine wk_calmW [11, 8, 14] [5, 6, 7] rfl ?_ ?_
      · simp (disch := omega) only [go_sem, seval, wrap_i64, wrap_u64, wrap_u32, wrap_u8, wrap_i32, h5, h6, h7, h8, h9, d1, d2, mG, mG0, sG, sG0, lG, List.append_assoc, List.cons_append, List.nil_append]
        exact ⟨_, rfl, rfl⟩
      simp (disch := omega) only [go_sem, seval, wrap_i64, wrap_u64, wrap_u32, wrap_u8, wrap_i32, h5, h6, h7, h8, h9, d1, d2, mG, mG0, sG, sG0, lG, List.append_assoc, List.cons_append, List.nil_append]
      exact ih ((q, e), (s, o), 0 - g) _ _ (by simp only; omega) ⟨by simp only; omega, by simp only; omega, by simp only; omega, by simp only; rw [← hc, hb]; grind, by simp only [go_sem, seval, h5], by simp only [go_sem, seval, h6], by simp only [go_sem, seval, h7], by simp only [go_sem, seval, h8], by simp only [go_sem, seval], _, _, _, _, _, _, _, rfl⟩
  · have t0 : (cmpI x.v y.v = 0) = False := by rw [cmpI_eq0]; simp [hxy]
    have hb := s1 hxy
    have hm : cmpF a b = g * cmpI x.v y.v := by rw [← hc, hb]
    have hl : -2 ≤ g * cmpI x.v y.v ∧ g * cmpI x.v y.v ≤ 2 := by rcases hg with rfl | rfl <;> omega
    rw [hm]
    simp (disch := omega) only [go_sem, seval, wrap_i64, wrap_u64, wrap_u32, wrap_u8, wrap_i32, h5, h6, h7, h8, h9, d1, d2, mG, mG0, sG, sG0, lG, List.append_assoc, List.cons_append, List.nil_append, c1, t0]
end Go.Eng
namespace Go.Eng
@[go_sem] theorem fz_rfQ (M : PM) (d : Nat) (f : FQ) : fz M (d + 1 + 1) (rfQ f) = some (rfQ f, []) := _root_.id rfl
@[go_sem] theorem cells_rfQ (f : FQ) : (rfQ f).cells = [.b (decide (f.p.v < 0)), T f.p.v.natAbs, .b (decide (f.q.v < 0)), T f.q.v.natAbs] := _root_.id rfl
@[go_sem] theorem rfQ_fold (f : FQ) : rfP f.p.v f.q.v = rfQ f := _root_.id rfl
def pk (xs : List Int) (i : Int) : Int := if i < 0 ∨ (xs.length : Int) ≤ i then 0 else xs.getD i.toNat 0
theorem pk_fits {xs : List Int} (hx : Ints xs) (i : Int) : Fits64 (pk xs i) := by
  unfold pk
  by_cases h : i < 0 ∨ (xs.length : Int) ≤ i
  · rw [if_pos h]; decide
  · rw [if_neg h]
    have hl : i.toNat < xs.length := by omega
    exact hx.2 _ (by simp [hl])
theorem p_pk {xs : List Int} (hx : Ints xs) {i : Int} (hi : Fits64 i) : pf E0 180 [ints xs, .i .i64 i] = some (.i .i64 (pk xs i)) := by
  refine pf_run (xf := x_skymosaic_skymosaicref04_Pick) rfl (by simp [x_skymosaic_skymosaicref04_Pick]) ?_
  simp only [x_skymosaic_skymosaicref04_Pick]
  obtain ⟨hx1, hx2⟩ := hx
  unfold pk
  by_cases h : i < 0
  · rw [if_pos (.inl h)]
    simp (disch := omega) only [go_sem, seval, wrap_i64, wrap_u64, wrap_u32, wrap_u8, wrap_i32, h]
  · by_cases h' : (xs.length : Int) ≤ i
    · rw [if_pos (.inr h')]
      have q1 : (i ≥ (xs.length : Int)) = True := by simp; omega
      simp (disch := omega) only [go_sem, seval, wrap_i64, wrap_u64, wrap_u32, wrap_u8, wrap_i32, h, q1]
    · rw [if_neg (by omega)]
      have q1 : (i ≥ (xs.length : Int)) = False := by simp; omega
      obtain ⟨j, rfl⟩ : ∃ j : Nat, i = j := ⟨i.toNat, by omega⟩
      have hl : j < xs.length := by omega
      have hg : xs[j]? = some (xs.getD j 0) := by simp [hl]
      simp (disch := omega) only [go_sem, seval, wrap_i64, wrap_u64, wrap_u32, wrap_u8, wrap_i32, h, q1, idxP_ints hg, Int.toNat_natCast]
def mulN (x : Int) : Nat → Int
  | 0 => x
  | n + 1 => mulN x n * 1000000007
theorem tlen_mulN (x : Int) : ∀ n, tlen (mulN x n).natAbs ≤ tlen x.natAbs + 3 * n
  | 0 => Nat.le_refl _
  | n + 1 => by
    have h1 := tlen_mulN x n
    have h2 := tlen_mulI (mulN x n) 1000000007
    have h3 : tlen (1000000007 : Int).natAbs ≤ 3 := tlen_small (by decide)
    show tlen (mulN x n * 1000000007).natAbs ≤ _
    omega
def numF (a b : Int) : Int := if a % 7 < 4 then b.tmod 60 else if a % 7 < 6 then b else mulN (b + 3) ((a.tdiv 7).tmod 40).toNat
theorem tmod_lt (a : Int) {n : Int} (h : 0 < n) : -n < a.tmod n ∧ a.tmod n < n := by
  have h1 := Int.tmod_lt_of_pos a h
  have h2 := Int.lt_tmod_of_pos a h
  omega
theorem numF_lim {b : Int} (a : Int) (hb : Fits64 b) : tlen (numF a b).natAbs ≤ 122 := by
  unfold Fits64 at hb
  have h1 := tmod_lt b (n := 60) (by omega)
  have h2 := tmod_lt (a.tdiv 7) (n := 40) (by omega)
  have h3 := tlen_mulN (b + 3) ((a.tdiv 7).tmod 40).toNat
  have h4 : tlen (b + 3).natAbs ≤ 5 := tlen_small (by omega)
  unfold numF
  split
  · exact Nat.le_trans (tlen_i (by omega)) (by omega)
  · split
    · have : tlen b.natAbs ≤ 5 := tlen_small (by omega)
      omega
    · omega
theorem p_rfNumber {a b : Int} (ha : Fits64 a) (hb : Fits64 b) : pf E0 179 [.i .i64 a, .i .i64 b] = some (nP (numF a b)) := by
  have hb' := hb
  unfold Fits64 at ha hb'
  have h1 := tmod_lt b (n := 60) (by omega)
  have h2 := tmod_lt (a.tdiv 7) (n := 40) (by omega)
  have h4 : tlen (b + 3).natAbs ≤ 5 := tlen_small (by omega)
  have k0 : a % 7 = if a.tmod 7 < 0 then a.tmod 7 + 7 else a.tmod 7 := by
    have e1 := Int.mul_tdiv_add_tmod a 7
    have e2 := tmod_lt a (n := 7) (by omega)
    split <;> omega
  have k1 := tmod_lt a (n := 7) (by omega)
  have r1 := p_rOf (b.tmod 60) (by unfold Fits64; omega)
  have r2 := p_rOf b hb
  have r3 := p_rOf 3 (by decide)
  have r4 := p_rOf 1000000007 (by decide)
  have r5 := p_rAdd b 3 (by have : tlen b.natAbs ≤ 5 := tlen_small (by omega)
                            omega) (by have : tlen (3 : Int).natAbs ≤ 1 := tlen_small (by decide)
                                       omega)
  have l3 := tlen_mulN (b + 3)
  refine pf_run (xf := x_skymosaic_skymosaicref04_Number) rfl (by simp [x_skymosaic_skymosaicref04_Number]) ?_
  simp only [x_skymosaic_skymosaicref04_Number]
  unfold numF
  rw [k0]
  obtain ⟨m, hm⟩ : ∃ m : Int, m = a.tmod 7 := ⟨_, rfl⟩
  obtain ⟨n, hn⟩ : ∃ n : Int, n = (a.tdiv 7).tmod 40 := ⟨_, rfl⟩
  rw [← hm] at k1
  rw [← hn] at h2
  simp only [← hm, ← hn]
  have hm' := hm.symm
  have hn' := hn.symm
  have e7 := Int.mul_tdiv_add_tmod a 7
  obtain ⟨d, hd⟩ : ∃ d : Int, a.tdiv 7 = d := ⟨_, rfl⟩
  rw [hd] at hn' e7
  rw [hm'] at e7
  have hT : tlen (1000000007 : Int).natAbs ≤ 3 := tlen_small (by decide)
  by_cases hm0 : m < 0
  · rw [if_pos hm0]
    by_cases c4 : m + 7 < 4
    · rw [if_pos c4]
      simp (disch := omega) only [go_sem, seval, wrap_i64, wrap_u64, wrap_u32, wrap_u8, wrap_i32, hm', hm0, c4, r1]
    · rw [if_neg c4]
      by_cases c6 : m + 7 < 6
      · rw [if_pos c6]
        simp (disch := omega) only [go_sem, seval, wrap_i64, wrap_u64, wrap_u32, wrap_u8, wrap_i32, hm', hm0, c4, c6, r2]
      · rw [if_neg c6]
        simp (disch := omega) only [go_sem, seval, wrap_i64, wrap_u64, wrap_u32, wrap_u8, wrap_i32, hm', hm0, c4, c6, r2, r3, r5]
        refine wk_ind x_skymosaic_skymosaicref04_Number_l1.eq_1 (fun (i : Nat) fr M => i ≤ n.toNat ∧ fr 0 = .i .i64 a ∧ fr 4 = .p 0 0 ∧ fr 6 = .p 1 0 ∧ fr 7 = (PV.i .i64 ((i : Nat) : Int)) ∧ ∃ v, M = [some ⟨[.b false, .nl], true, 0⟩, some ⟨(nP (mulN (b + 3) i)).cells, true, v⟩]) (fun i => n.toNat - i) ?_ 0 ⟨by omega, by simp only [go_sem, seval], by simp only [go_sem, seval], by simp only [go_sem, seval], by simp only [go_sem, seval], _, rfl⟩
        rintro i fr M ⟨hi, f0, f4, f6, f7, v, rfl⟩ ih
        have li := l3 i
        by_cases hin : (i : Int) < n
        · have q1 : ((i : Int) < n) = True := by simp [hin]
          have mm := p_rMul (mulN (b + 3) i) 1000000007 (by omega) (by omega)
          have e1 : mulN (b + 3) i * 1000000007 = mulN (b + 3) (i + 1) := rfl
          rw [e1] at mm
          generalize hX : mulN (b + 3) i = X at *
          generalize hY : mulN (b + 3) (i + 1) = Y at *
          simp (disch := omega) only [go_sem, seval, wrap_i64, wrap_u64, wrap_u32, wrap_u8, wrap_i32, f0, f4, f6, f7, hd, hn', q1]
          refine wk_calmX [6] rfl (by simp only [go_sem, seval, f6]) ?_
          simp (disch := omega) only [go_sem, seval, wrap_i64, wrap_u64, wrap_u32, wrap_u8, wrap_i32, f6, f7, r4, mm]
          exact ih (i + 1) _ _ (by omega) ⟨by omega, by simp only [go_sem, seval, f0], by simp only [go_sem, seval, f4], by simp only [go_sem, seval, f6], by simp only [go_sem, seval]; rw [Int.natCast_succ], _, by rw [hY]; rfl⟩
        · have q1 : ((i : Int) < n) = False := by simp [hin]
          obtain rfl : i = n.toNat := by omega
          generalize mulN (b + 3) n.toNat = X at *
          simp (disch := omega) only [go_sem, seval, wrap_i64, wrap_u64, wrap_u32, wrap_u8, wrap_i32, f0, f4, f6, f7, hd, hn', q1]
  · rw [if_neg hm0]
    by_cases c4 : m < 4
    · rw [if_pos c4]
      simp (disch := omega) only [go_sem, seval, wrap_i64, wrap_u64, wrap_u32, wrap_u8, wrap_i32, hm', hm0, c4, r1]
    · rw [if_neg c4]
      by_cases c6 : m < 6
      · rw [if_pos c6]
        simp (disch := omega) only [go_sem, seval, wrap_i64, wrap_u64, wrap_u32, wrap_u8, wrap_i32, hm', hm0, c4, c6, r2]
      · rw [if_neg c6]
        simp (disch := omega) only [go_sem, seval, wrap_i64, wrap_u64, wrap_u32, wrap_u8, wrap_i32, hm', hm0, c4, c6, r2, r3, r5]
        refine wk_ind x_skymosaic_skymosaicref04_Number_l1.eq_1 (fun (i : Nat) fr M => i ≤ n.toNat ∧ fr 0 = .i .i64 a ∧ fr 4 = .p 0 0 ∧ fr 6 = .p 1 0 ∧ fr 7 = (PV.i .i64 ((i : Nat) : Int)) ∧ ∃ v, M = [some ⟨[.b false, .nl], true, 0⟩, some ⟨(nP (mulN (b + 3) i)).cells, true, v⟩]) (fun i => n.toNat - i) ?_ 0 ⟨by omega, by simp only [go_sem, seval], by simp only [go_sem, seval], by simp only [go_sem, seval], by simp only [go_sem, seval], _, rfl⟩
        rintro i fr M ⟨hi, f0, f4, f6, f7, v, rfl⟩ ih
        have li := l3 i
        by_cases hin : (i : Int) < n
        · have q1 : ((i : Int) < n) = True := by simp [hin]
          have mm := p_rMul (mulN (b + 3) i) 1000000007 (by omega) (by omega)
          have e1 : mulN (b + 3) i * 1000000007 = mulN (b + 3) (i + 1) := rfl
          rw [e1] at mm
          generalize hX : mulN (b + 3) i = X at *
          generalize hY : mulN (b + 3) (i + 1) = Y at *
          simp (disch := omega) only [go_sem, seval, wrap_i64, wrap_u64, wrap_u32, wrap_u8, wrap_i32, f0, f4, f6, f7, hd, hn', q1]
          refine wk_calmX [6] rfl (by simp only [go_sem, seval, f6]) ?_
          simp (disch := omega) only [go_sem, seval, wrap_i64, wrap_u64, wrap_u32, wrap_u8, wrap_i32, f6, f7, r4, mm]
          exact ih (i + 1) _ _ (by omega) ⟨by omega, by simp only [go_sem, seval, f0], by simp only [go_sem, seval, f4], by simp only [go_sem, seval, f6], by simp only [go_sem, seval]; rw [Int.natCast_succ], _, by rw [hY]; rfl⟩
        · have q1 : ((i : Int) < n) = False := by simp [hin]
          obtain rfl : i = n.toNat := by omega
          generalize mulN (b + 3) n.toNat = X at *
          simp (disch := omega) only [go_sem, seval, wrap_i64, wrap_u64, wrap_u32, wrap_u8, wrap_i32, f0, f4, f6, f7, hd, hn', q1]
theorem low_fq {P Q : Int} {n : Nat} (hq : Q ≠ 0) (hp : tlen P.natAbs ≤ n) (hl : tlen Q.natAbs ≤ n) (hn : n < 1230) : ∃ f : FQ, f.p.v = lowP P Q ∧ f.q.v = lowQ P Q ∧ fsz n f := by
  have t1 := Nat.le_trans (tlen_mono (lowP_le (p := P) hq)) hp
  have t2 := Nat.le_trans (tlen_mono (lowQ_le (p := P) hq)) hl
  exact ⟨⟨⟨lowP P Q, inR_w (inR_of (by omega))⟩, ⟨lowQ P Q, inR_w (inR_of (by omega))⟩, low_pos hq, low_cop hq⟩, rfl, rfl, t1, t2⟩
theorem p_rfFrac {xs : List Int} (hx : Ints xs) {i : Int} (h0 : 0 ≤ i) (h1 : i ≤ 100) : ∃ f : FQ, fsz 122 f ∧ pf E0 187 [ints xs, .i .i64 i] = some (rfQ f) := by
  have a0 := p_pk hx (i := i) (by unfold Fits64; omega)
  have a1 := p_pk hx (i := i + 1) (by unfold Fits64; omega)
  have a2 := p_pk hx (i := i + 2) (by unfold Fits64; omega)
  have a3 := p_pk hx (i := i + 3) (by unfold Fits64; omega)
  have n1 := p_rfNumber (pk_fits hx i) (pk_fits hx (i + 1))
  have n2 := p_rfNumber (pk_fits hx (i + 2)) (pk_fits hx (i + 3))
  have l1 := numF_lim (pk xs i) (pk_fits hx (i + 1))
  have l2 := numF_lim (pk xs (i + 2)) (pk_fits hx (i + 3))
  generalize numF (pk xs i) (pk xs (i + 1)) = P at *
  generalize numF (pk xs (i + 2)) (pk xs (i + 3)) = Q at *
  generalize pk xs i = y0 at *
  generalize pk xs (i + 1) = y1 at *
  generalize pk xs (i + 2) = y2 at *
  generalize pk xs (i + 3) = y3 at *
  have o1 := p_rOf 1 (by decide)
  have t1 : tlen (1 : Int).natAbs ≤ 1 := tlen_small (by decide)
  by_cases hq : Q = 0
  · obtain ⟨f, f1, f2, f3⟩ := low_fq (P := P) (Q := 1) (n := 122) (by decide) l1 (by omega) (by omega)
    refine ⟨f, f3, ?_⟩
    have mk := p_rfMake P 1 (by decide) (by omega) (by omega)
    rw [rfQ_of f1 f2] at mk
    have t0 : ((tlen Q.natAbs : Int) = 0) = True := by rw [hq, Int.natAbs_zero, tlen_zero]; simp
    clear hq f1 f2
    obtain ⟨k, hk⟩ : ∃ k : Int, nP k = nP 1 := ⟨1, rfl⟩
    rw [← hk] at mk o1
    clear hk
    refine pf_run (xf := x_skymosaic_skymosaicref04_Frac) rfl (by simp [x_skymosaic_skymosaicref04_Frac]) ?_
    simp only [x_skymosaic_skymosaicref04_Frac]
    simp (disch := omega) only [go_sem, seval, wrap_i64, wrap_u64, wrap_u32, wrap_u8, wrap_i32, a2, a3, n2, t0, o1]
    refine wk_calmX [5] rfl (by simp only [go_sem, seval]) ?_
    simp (disch := omega) only [go_sem, seval, wrap_i64, wrap_u64, wrap_u32, wrap_u8, wrap_i32, a0, a1, n1, mk]
  · obtain ⟨f, f1, f2, f3⟩ := low_fq (P := P) (Q := Q) (n := 122) hq l1 l2 (by omega)
    refine ⟨f, f3, ?_⟩
    have mk := p_rfMake P Q hq (by omega) (by omega)
    rw [rfQ_of f1 f2] at mk
    have t0 : ((tlen Q.natAbs : Int) = 0) = False := by have := tlen_pos (v := Q.natAbs) (by omega); simp; omega
    refine pf_run (xf := x_skymosaic_skymosaicref04_Frac) rfl (by simp [x_skymosaic_skymosaicref04_Frac]) ?_
    simp only [x_skymosaic_skymosaicref04_Frac]
    simp (disch := omega) only [go_sem, seval, wrap_i64, wrap_u64, wrap_u32, wrap_u8, wrap_i32, a2, a3, n2, t0]
    refine wk_calmX [5] rfl (by simp only [go_sem, seval]) ?_
    simp (disch := omega) only [go_sem, seval, wrap_i64, wrap_u64, wrap_u32, wrap_u8, wrap_i32, a0, a1, n1, mk]
end Go.Eng
namespace Go.Eng
theorem idx_cases : ∀ (s : List UInt8), (idxB s 47 = -1 ∧ (47 : UInt8) ∉ s) ∨ ∃ i : Nat, idxB s 47 = (i : Int) ∧ i < s.length ∧ s[i]? = some 47 ∧ ∀ j, j < i → s[j]? ≠ some 47
  | [] => .inl ⟨rfl, by simp⟩
  | b :: l => by
    by_cases hb : b = 47
    · subst hb
      exact .inr ⟨0, by unfold idxB; simp, by simp, rfl, fun j hj => by omega⟩
    · have hb' : (b == 47) = false := by simpa using hb
      rcases idx_cases l with ⟨h1, h2⟩ | ⟨i, h1, h2, h3, h4⟩
      · left
        refine ⟨by unfold idxB; rw [hb', h1]; rfl, ?_⟩
        simp only [List.mem_cons, not_or]
        exact ⟨fun q => hb q.symm, h2⟩
      · right
        refine ⟨i + 1, ?_, by simp; omega, by simpa using h3, fun j hj => ?_⟩
        · unfold idxB
          have : (idxB l 47 == -1) = false := by rw [h1, beq_eq_false_iff_ne]; omega
          rw [hb', this, h1]; simp
        · cases j with
          | zero => simpa using hb
          | succ j => simpa using h4 j (by omega)
theorem p_Index (s : List UInt8) : pf E0 222 [.s s, .s [47]] = some (.i .i64 (idxB s 47)) := by
  refine porc_222 ?_ rfl
  simp only [orcP, libP]
  rfl
theorem p_Cut (s : List UInt8) (hs : s.length < 4611686018427387904) : (idxB s 47 = -1 → pf E0 209 [.s s, .s [47]] = some (.tu [.s s, .s [], .b false])) ∧
    ∀ i : Nat, idxB s 47 = (i : Int) → i < s.length → pf E0 209 [.s s, .s [47]] = some (.tu [.s (s.take i), .s (s.drop (i + 1)), .b true]) := by
  have h1 := p_Index s
  constructor
  · intro h
    rw [h] at h1
    have h2 : pf E0 216 [.s s, .s [47]] = some (.tu [.s s, .s [], .b false]) := by
      refine pf_run (xf := x_internal_stringslite_Cut) rfl (by simp [x_internal_stringslite_Cut]) ?_
      simp only [x_internal_stringslite_Cut]
      simp (disch := omega) only [go_sem, seval, wrap_i64, wrap_u64, wrap_u32, wrap_u8, wrap_i32, h1]
    refine pf_run (xf := x_strings_Cut) rfl (by simp [x_strings_Cut]) ?_
    simp only [x_strings_Cut]
    simp (disch := omega) only [go_sem, seval, wrap_i64, wrap_u64, wrap_u32, wrap_u8, wrap_i32, h2]
  · intro i h hi
    rw [h] at h1
    have c1 : slStrP s none (some (.i .i64 (i : Int))) = some (.s (s.take i)) := by
      simp only [slStrP, optP, asNP_nat]
      rw [if_pos ⟨by omega, by omega⟩, List.drop_zero]
    have c2 : slStrP s (some (.i .i64 ((i : Int) + 1))) none = some (.s (s.drop (i + 1))) := by
      have e : ((i : Int) + 1) = ((i + 1 : Nat) : Int) := by omega
      rw [e]
      simp only [slStrP, optP, asNP_nat]
      rw [if_pos ⟨by omega, by omega⟩, List.take_length]
    have g : ((i : Int) ≥ 0) = True := by simp
    have h2 : pf E0 216 [.s s, .s [47]] = some (.tu [.s (s.take i), .s (s.drop (i + 1)), .b true]) := by
      refine pf_run (xf := x_internal_stringslite_Cut) rfl (by simp [x_internal_stringslite_Cut]) ?_
      simp only [x_internal_stringslite_Cut]
      simp (disch := omega) only [go_sem, seval, wrap_i64, wrap_u64, wrap_u32, wrap_u8, wrap_i32, h1, g, c1, c2]
    refine pf_run (xf := x_strings_Cut) rfl (by simp [x_strings_Cut]) ?_
    simp only [x_strings_Cut]
    simp (disch := omega) only [go_sem, seval, wrap_i64, wrap_u64, wrap_u32, wrap_u8, wrap_i32, h2]
def ParseR (s : List UInt8) (E1 E2 : Int) (g : FQ) (e3 : Int) (R : FQ) (e : Int) : Prop :=
  (¬ (E1 = 0 ∧ E2 = 0) ∧ R = fq0 ∧ e = 2) ∨ (E1 = 0 ∧ E2 = 0 ∧ ((e3 ≠ 0 ∧ R = fq0 ∧ e = 2) ∨ (e3 = 0 ∧ ftx g.p.v g.q.v ≠ s ∧ R = fq0 ∧ e = 2) ∨ (e3 = 0 ∧ ftx g.p.v g.q.v = s ∧ R = g ∧ e = 0)))
theorem p_fParseR {s T B0 B : List UInt8} {is : Bool} (hcut : pf E0 209 [.s s, .s [47]] = some (.tu [.s T, .s B0, .b is])) (hB : (is = true ∧ B = B0) ∨ (is = false ∧ B = [49])) {x y : WI} {E1 E2 : Int}
    (w1 : pf E0 110 [.s T] = some (.tu [wiP x, .i .i64 E1])) (w2 : pf E0 110 [.s B] = some (.tu [wiP y, .i .i64 E2])) {g R : FQ} {e3 e : Int} (mk : pf E0 24 [wiP x, wiP y] = some (.tu [fqP g, .i .i64 e3])) (hR : ParseR s E1 E2 g e3 R e) :
    pf E0 197 [.s s] = some (.tu [fqP R, .i .i64 e]) := by
  have st := p_fString g
  refine pf_run (xf := x_skymosaic_frac_Parse) rfl (by simp [x_skymosaic_frac_Parse]) ?_
  simp only [x_skymosaic_frac_Parse]
  rcases hB with ⟨rfl, rfl⟩ | ⟨rfl, rfl⟩ <;>
  ( rcases hR with ⟨hn, rfl, rfl⟩ | ⟨rfl, rfl, ⟨hn, rfl, rfl⟩ | ⟨rfl, hn, rfl, rfl⟩ | ⟨rfl, hn, rfl, rfl⟩⟩
    · rw [fqP0]
      by_cases h1 : E1 = 0
      · have h2 : (E2 = 0) = False := by simp; exact fun q => hn ⟨h1, q⟩
        subst h1
        simp (disch := omega) only [go_sem, seval, wrap_i64, wrap_u64, wrap_u32, wrap_u8, wrap_i32, hcut, w1, w2, h2]
      · have h1 : (E1 = 0) = False := by simp [h1]
        simp (disch := omega) only [go_sem, seval, wrap_i64, wrap_u64, wrap_u32, wrap_u8, wrap_i32, hcut, w1, w2, h1]
    · rw [fqP0]
      have h1 : (e3 = 0) = False := by simp [hn]
      simp (disch := omega) only [go_sem, seval, wrap_i64, wrap_u64, wrap_u32, wrap_u8, wrap_i32, hcut, w1, w2, mk, h1]
    · rw [fqP0]
      have h1 : (ftx g.p.v g.q.v = s) = False := by simp [hn]
      simp (disch := omega) only [go_sem, seval, wrap_i64, wrap_u64, wrap_u32, wrap_u8, wrap_i32, hcut, w1, w2, mk, st, h1]
    · have h1 : (ftx R.p.v R.q.v = s) = True := by simp [hn]
      simp (disch := omega) only [go_sem, seval, wrap_i64, wrap_u64, wrap_u32, wrap_u8, wrap_i32, hcut, w1, w2, mk, st, h1] )
theorem p_rfParseR {s T B : List UInt8} (hs : s.length < 4611686018427387904) (H : ((47 : UInt8) ∉ s ∧ T = s ∧ B = [49]) ∨ ∃ i : Nat, i < s.length ∧ s[i]? = some 47 ∧ (∀ j, j < i → s[j]? ≠ some 47) ∧ T = s.take i ∧ B = s.drop (i + 1))
    {p q : Int} {E1 E2 : Int} (r1 : pf E0 111 [.s T] = some (.tu [nP p, .i .i64 E1])) (r2 : pf E0 111 [.s B] = some (.tu [nP q, .i .i64 E2])) {g R : FQ} {e3 e : Int} (mk : pf E0 182 [nP p, nP q] = some (.tu [rfQ g, .i .i64 e3]))
    (hR : ParseR s E1 E2 g e3 R e) : pf E0 198 [.s s] = some (.tu [rfQ R, .i .i64 e]) := by
  have st : pf E0 196 [rfQ g] = some (.s (ftx g.p.v g.q.v)) := by
    have := wi_tlen g.p
    have := wi_tlen g.q
    exact p_rfText g.p.v g.q.v (by omega) (by omega)
  have o0 : pf E0 185 [.i .i64 0] = some (rfQ fq0) := p_rfOf (n := 0) (by decide)
  refine pf_run (xf := x_skymosaic_skymosaicref04_Parse) rfl (by simp [x_skymosaic_skymosaicref04_Parse]) ?_
  simp only [x_skymosaic_skymosaicref04_Parse]
  rcases H with ⟨hno, rfl, rfl⟩ | ⟨i, hi, hat, hfst, rfl, rfl⟩
  · simp (disch := omega) only [go_sem, seval, wrap_i64, wrap_u64, wrap_u32, wrap_u8, wrap_i32]
    refine wk_ind x_skymosaic_skymosaicref04_Parse_l1.eq_1 (fun (j : Nat) fr M => j ≤ T.length ∧ fr 0 = .s T ∧ fr 2 = .p 0 0 ∧ fr 4 = .s T ∧ fr 5 = .s [49] ∧ fr 6 = (PV.i .i64 ((j : Nat) : Int)) ∧ M = [some ⟨[.b false, .nl, .b false, .nl], true, 0⟩]) (fun j => T.length - j) ?_ 0 ⟨by omega, by simp only [go_sem, seval], by simp only [go_sem, seval], by simp only [go_sem, seval], by simp only [go_sem, seval], by simp only [go_sem, seval], rfl⟩
    rintro j fr M ⟨hj, f0, f2, f4, f5, f6, rfl⟩ ih
    by_cases hjl : j < T.length
    · have q1 : ((j : Int) < (T.length : Int)) = True := by simp; omega
      obtain ⟨c, hc⟩ : ∃ c, T[j]? = some c := ⟨T[j], by simp [hjl]⟩
      have hg : istrP (.s T) (some j) = some (.i .u8 (c.toNat : Int)) := by simp [istrP, hc]
      have hne : ((c.toNat : Int) = 47) = False := by
        simp only [eq_iff_iff, iff_false]
        intro q
        have : c = 47 := UInt8.toNat_inj.1 (by rw [show (47 : UInt8).toNat = 47 from rfl]; omega)
        rw [this] at hc
        exact hno (List.mem_of_getElem? hc)
      simp (disch := omega) only [go_sem, seval, wrap_i64, wrap_u64, wrap_u32, wrap_u8, wrap_i32, f0, f2, f4, f5, f6, q1, hg, hne]
      exact ih (j + 1) _ _ (by omega) ⟨by omega, by simp only [go_sem, seval, f0], by simp only [go_sem, seval, f2], by simp only [go_sem, seval, f4], by simp only [go_sem, seval, f5], by simp only [go_sem, seval]; rw [Int.natCast_succ], rfl⟩
    · have q1 : ((j : Int) < (T.length : Int)) = False := by simp; omega
      clear ih
      rcases hR with ⟨hn, rfl, rfl⟩ | ⟨rfl, rfl, ⟨hn, rfl, rfl⟩ | ⟨rfl, hn, rfl, rfl⟩ | ⟨rfl, hn, rfl, rfl⟩⟩
      · generalize fq0 = z at *
        by_cases h1 : E1 = 0
        · have h2 : (E2 = 0) = False := by simp; exact fun q => hn ⟨h1, q⟩
          subst h1
          simp (disch := omega) only [go_sem, seval, wrap_i64, wrap_u64, wrap_u32, wrap_u8, wrap_i32, f0, f2, f4, f5, f6, q1, r1, r2, h2, o0]
        · have h1 : (E1 = 0) = False := by simp [h1]
          simp (disch := omega) only [go_sem, seval, wrap_i64, wrap_u64, wrap_u32, wrap_u8, wrap_i32, f0, f2, f4, f5, f6, q1, r1, r2, h1, o0]
      · generalize fq0 = z at *
        have h1 : (e3 = 0) = False := by simp [hn]
        simp (disch := omega) only [go_sem, seval, wrap_i64, wrap_u64, wrap_u32, wrap_u8, wrap_i32, f0, f2, f4, f5, f6, q1, r1, r2, mk, h1, o0]
      · generalize fq0 = z at *
        have h1 : (ftx g.p.v g.q.v = T) = False := by simp [hn]
        simp (disch := omega) only [go_sem, seval, wrap_i64, wrap_u64, wrap_u32, wrap_u8, wrap_i32, f0, f2, f4, f5, f6, q1, r1, r2, mk, st, h1, o0]
      · have h1 : (ftx R.p.v R.q.v = T) = True := by simp [hn]
        simp (disch := omega) only [go_sem, seval, wrap_i64, wrap_u64, wrap_u32, wrap_u8, wrap_i32, f0, f2, f4, f5, f6, q1, r1, r2, mk, st, h1]
  · have c1 : slStrP s none (some (.i .i64 (i : Int))) = some (.s (s.take i)) := by
      simp only [slStrP, optP, asNP_nat]
      rw [if_pos ⟨by omega, by omega⟩, List.drop_zero]
    have c2 : slStrP s (some (.i .i64 ((i : Int) + 1))) none = some (.s (s.drop (i + 1))) := by
      have e : ((i : Int) + 1) = ((i + 1 : Nat) : Int) := by omega
      rw [e]
      simp only [slStrP, optP, asNP_nat]
      rw [if_pos ⟨by omega, by omega⟩, List.take_length]
    generalize s.take i = T at *
    generalize s.drop (i + 1) = B at *
    simp (disch := omega) only [go_sem, seval, wrap_i64, wrap_u64, wrap_u32, wrap_u8, wrap_i32]
    refine wk_ind x_skymosaic_skymosaicref04_Parse_l1.eq_1 (fun (j : Nat) fr M => j ≤ i ∧ fr 0 = .s s ∧ fr 2 = .p 0 0 ∧ fr 4 = .s s ∧ fr 5 = .s [49] ∧ fr 6 = (PV.i .i64 ((j : Nat) : Int)) ∧ M = [some ⟨[.b false, .nl, .b false, .nl], true, 0⟩]) (fun j => i - j) ?_ 0 ⟨by omega, by simp only [go_sem, seval], by simp only [go_sem, seval], by simp only [go_sem, seval], by simp only [go_sem, seval], by simp only [go_sem, seval], rfl⟩
    rintro j fr M ⟨hj, f0, f2, f4, f5, f6, rfl⟩ ih
    have q1 : ((j : Int) < (s.length : Int)) = True := by simp; omega
    by_cases hji : j = i
    · subst hji
      have hg : istrP (.s s) (some j) = some (.i .u8 47) := by simp [istrP, hat]
      clear ih
      rcases hR with ⟨hn, rfl, rfl⟩ | ⟨rfl, rfl, ⟨hn, rfl, rfl⟩ | ⟨rfl, hn, rfl, rfl⟩ | ⟨rfl, hn, rfl, rfl⟩⟩
      · generalize fq0 = z at *
        by_cases h1 : E1 = 0
        · have h2 : (E2 = 0) = False := by simp; exact fun q => hn ⟨h1, q⟩
          subst h1
          simp (disch := omega) only [go_sem, seval, wrap_i64, wrap_u64, wrap_u32, wrap_u8, wrap_i32, f0, f2, f4, f5, f6, q1, hg, c1, c2, r1, r2, h2, o0]
        · have h1 : (E1 = 0) = False := by simp [h1]
          simp (disch := omega) only [go_sem, seval, wrap_i64, wrap_u64, wrap_u32, wrap_u8, wrap_i32, f0, f2, f4, f5, f6, q1, hg, c1, c2, r1, r2, h1, o0]
      · generalize fq0 = z at *
        have h1 : (e3 = 0) = False := by simp [hn]
        simp (disch := omega) only [go_sem, seval, wrap_i64, wrap_u64, wrap_u32, wrap_u8, wrap_i32, f0, f2, f4, f5, f6, q1, hg, c1, c2, r1, r2, mk, h1, o0]
      · generalize fq0 = z at *
        have h1 : (ftx g.p.v g.q.v = s) = False := by simp [hn]
        simp (disch := omega) only [go_sem, seval, wrap_i64, wrap_u64, wrap_u32, wrap_u8, wrap_i32, f0, f2, f4, f5, f6, q1, hg, c1, c2, r1, r2, mk, st, h1, o0]
      · have h1 : (ftx R.p.v R.q.v = s) = True := by simp [hn]
        simp (disch := omega) only [go_sem, seval, wrap_i64, wrap_u64, wrap_u32, wrap_u8, wrap_i32, f0, f2, f4, f5, f6, q1, hg, c1, c2, r1, r2, mk, st, h1]
    · obtain ⟨c, hc⟩ : ∃ c, s[j]? = some c := ⟨s[j]'(by omega), List.getElem?_eq_getElem _⟩
      have hg : istrP (.s s) (some j) = some (.i .u8 (c.toNat : Int)) := by simp [istrP, hc]
      have hne : ((c.toNat : Int) = 47) = False := by
        simp only [eq_iff_iff, iff_false]
        intro q
        have : c = 47 := UInt8.toNat_inj.1 (by rw [show (47 : UInt8).toNat = 47 from rfl]; omega)
        rw [this] at hc
        exact hfst j (by omega) hc
      simp (disch := omega) only [go_sem, seval, wrap_i64, wrap_u64, wrap_u32, wrap_u8, wrap_i32, f0, f2, f4, f5, f6, q1, hg, hne]
      exact ih (j + 1) _ _ (by omega) ⟨by omega, by simp only [go_sem, seval, f0], by simp only [go_sem, seval, f2], by simp only [go_sem, seval, f4], by simp only [go_sem, seval, f5], by simp only [go_sem, seval]; rw [Int.natCast_succ], rfl⟩
end Go.Eng
namespace Go.Eng
def SplitR (s T B : List UInt8) : Prop := ((47 : UInt8) ∉ s ∧ T = s ∧ B = [49]) ∨ ∃ i : Nat, i < s.length ∧ s[i]? = some 47 ∧ (∀ j, j < i → s[j]? ≠ some 47) ∧ T = s.take i ∧ B = s.drop (i + 1)
theorem split_at {s A C T B : List UInt8} (e : s = A ++ 47 :: C) (hA : (47 : UInt8) ∉ A) (h : SplitR s T B) : T = A ∧ B = C := by
  subst e
  rcases h with ⟨h, _⟩ | ⟨i, h1, h2, h3, rfl, rfl⟩
  · exact (h (by simp)).elim
  · have hi : i = A.length := by
      rcases Nat.lt_trichotomy i A.length with h | h | h
      · rw [List.getElem?_append_left h] at h2
        exact (hA (List.mem_of_getElem? h2)).elim
      · exact h
      · exact (h3 _ h (by simp)).elim
    subst hi
    exact ⟨by simp, by simp⟩
theorem decI_no47 (z : Int) : (47 : UInt8) ∉ decI z := by
  have key : ∀ v : Nat, (47 : UInt8) ∉ dec v := fun v h => by
    have h1 := dig_dec v
    rw [List.all_eq_true] at h1
    have h2 := h1 _ h
    revert h2; decide
  unfold decI
  split
  · simp only [List.mem_cons, not_or]
    exact ⟨by decide, key _⟩
  · exact key _
theorem decI_one : decI 1 = [49] := by
  unfold decI; rw [if_neg (by decide)]
  show dec 1 = [49]
  rw [dec_eval (v := 1) (n := 0) (by decide) (by decide)]; rfl
theorem split_ftx {h : FQ} {T B : List UInt8} (hs : SplitR (ftx h.p.v h.q.v) T B) : T = decI h.p.v ∧ B = decI h.q.v := by
  unfold ftx at hs
  by_cases hq : h.q.v = 1
  · rw [if_pos hq] at hs
    rcases hs with ⟨_, h1, h2⟩ | ⟨i, _, h2, _⟩
    · rw [hq, decI_one]; exact ⟨h1, h2⟩
    · exact (decI_no47 _ (List.mem_of_getElem? h2)).elim
  · rw [if_neg hq, List.append_assoc] at hs
    exact split_at rfl (decI_no47 _) hs
theorem parse_inR (s : List UInt8) : inR (parseT s).1.natAbs := by
  rcases parseT_cases s with ⟨_, h⟩ | ⟨_, neg, ds, hs, ⟨_, h⟩ | ⟨n0, n1, n2, ⟨hR, h⟩ | ⟨_, h⟩⟩⟩ <;> rw [h]
  · exact inR_zero
  · exact inR_zero
  · have hab : (sgn neg (tv ds)).natAbs = tv ds := by unfold sgn; split <;> omega
    show inR (sgn neg (tv ds)).natAbs
    rw [hab]; exact hR
  · exact inR_zero
theorem parts_ex (s : List UInt8) (hs : s.length < 4611686018427387904) : ∃ (T B0 B : List UInt8) (is : Bool), pf E0 209 [.s s, .s [47]] = some (.tu [.s T, .s B0, .b is]) ∧ ((is = true ∧ B = B0) ∨ (is = false ∧ B = [49])) ∧ SplitR s T B ∧
    T.length < 4611686018427387904 ∧ B.length < 4611686018427387904 := by
  have hc := p_Cut s hs
  rcases idx_cases s with ⟨h1, h2⟩ | ⟨i, h1, h2, h3, h4⟩
  · exact ⟨s, [], [49], false, hc.1 h1, .inr ⟨rfl, rfl⟩, .inl ⟨h2, rfl, rfl⟩, hs, by simp⟩
  · exact ⟨_, _, _, true, hc.2 i h1 h2, .inl ⟨rfl, rfl⟩, .inr ⟨i, h2, h3, h4, rfl, rfl⟩, by simp; omega, by simp; omega⟩
theorem make_both (x y : WI) : ∃ (g : FQ) (e : Int), pf E0 24 [wiP x, wiP y] = some (.tu [fqP g, .i .i64 e]) ∧ pf E0 182 [nP x.v, nP y.v] = some (.tu [rfQ g, .i .i64 e]) ∧ (y.v ≠ 0 → e = 0 ∧ g.p.v = lowP x.v y.v ∧ g.q.v = lowQ x.v y.v) := by
  have lx := wi_tlen x
  have ly := wi_tlen y
  by_cases h : y.v = 0
  · refine ⟨fq0, 1, p_Make0 x y h, ?_, fun q => (q h).elim⟩
    have := p_rfMake0 x.v
    rw [h]; exact this
  · obtain ⟨g, g1, g2, mk⟩ := p_Make x y h
    refine ⟨g, 0, mk, ?_, fun _ => ⟨rfl, g1, g2⟩⟩
    have := p_rfMake x.v y.v h (by omega) (by omega)
    rw [rfQ_of g1 g2] at this; exact this
theorem parse_both (s : List UInt8) (hs : s.length < 4611686018427387904) : ∃ (R : FQ) (e : Int), pf E0 197 [.s s] = some (.tu [fqP R, .i .i64 e]) ∧ pf E0 198 [.s s] = some (.tu [rfQ R, .i .i64 e]) ∧
    (∀ h : FQ, s = ftx h.p.v h.q.v → R = h ∧ e = 0) ∧ ((e = 0 ∧ s = ftx R.p.v R.q.v ∧ ∃ T B, SplitR s T B) ∨ e = 2) := by
  obtain ⟨T, B0, B, is, hcut, hB, hS, lT, lB⟩ := parts_ex s hs
  have w1 := p_Parse T lT
  have w2 := p_Parse B lB
  have r1 := p_rParse T lT
  have r2 := p_rParse B lB
  have xv : (clip (parseT T).1).v = (parseT T).1 := clip_v (inR_w (parse_inR T))
  have yv : (clip (parseT B).1).v = (parseT B).1 := clip_v (inR_w (parse_inR B))
  obtain ⟨g, e3, m1, m2, m3⟩ := make_both (clip (parseT T).1) (clip (parseT B).1)
  rw [xv, yv] at m2 m3
  have key : ∀ (R : FQ) (e : Int), ParseR s (parseT T).2 (parseT B).2 g e3 R e → pf E0 197 [.s s] = some (.tu [fqP R, .i .i64 e]) ∧ pf E0 198 [.s s] = some (.tu [rfQ R, .i .i64 e]) := fun R e hR =>
    ⟨p_fParseR hcut hB w1 w2 m1 hR, p_rfParseR hs hS r1 r2 m2 hR⟩
  have back : ∀ h : FQ, s = ftx h.p.v h.q.v → (parseT T).2 = 0 ∧ (parseT B).2 = 0 ∧ e3 = 0 ∧ g = h ∧ ftx g.p.v g.q.v = s := fun h e => by
    subst e
    obtain ⟨rfl, rfl⟩ := split_ftx hS
    have p1 := parseT_dec h.p.v
    have p2 := parseT_dec h.q.v
    rw [if_pos ((wide_iff _).1 h.p.lim)] at p1
    rw [if_pos ((wide_iff _).1 h.q.lim)] at p2
    rw [p1, p2] at m3
    have hq := h.q1
    obtain ⟨q1, q2, q3⟩ := m3 (by show h.q.v ≠ 0; omega)
    obtain ⟨l1, l2⟩ := low_self (p := h.p.v) (q := h.q.v) (by omega) h.cop
    have hg : g = h := fq_ext (q2.trans l1) (q3.trans l2)
    rw [p1, p2]
    exact ⟨rfl, rfl, q1, hg, by rw [hg]⟩
  by_cases hE : (parseT T).2 = 0 ∧ (parseT B).2 = 0
  · by_cases h3 : e3 = 0
    · by_cases hf : ftx g.p.v g.q.v = s
      · obtain ⟨k1, k2⟩ := key g 0 (.inr ⟨hE.1, hE.2, .inr (.inr ⟨h3, hf, rfl, rfl⟩)⟩)
        exact ⟨g, 0, k1, k2, fun h e => ⟨(back h e).2.2.2.1, rfl⟩, .inl ⟨rfl, hf.symm, T, B, hS⟩⟩
      · obtain ⟨k1, k2⟩ := key fq0 2 (.inr ⟨hE.1, hE.2, .inr (.inl ⟨h3, hf, rfl, rfl⟩)⟩)
        exact ⟨fq0, 2, k1, k2, fun h e => (hf (back h e).2.2.2.2).elim, .inr rfl⟩
    · obtain ⟨k1, k2⟩ := key fq0 2 (.inr ⟨hE.1, hE.2, .inl ⟨h3, rfl, rfl⟩⟩)
      exact ⟨fq0, 2, k1, k2, fun h e => (h3 (back h e).2.2.1).elim, .inr rfl⟩
  · obtain ⟨k1, k2⟩ := key fq0 2 (.inl ⟨hE, rfl, rfl⟩)
    exact ⟨fq0, 2, k1, k2, fun h e => (hE ⟨(back h e).1, (back h e).2.1⟩).elim, .inr rfl⟩
end Go.Eng
namespace Go.Eng
theorem decI_short2 (x : WI) : (decI x.v).length < 4611686018427387904 := by have := decI_short x; omega
theorem p_num (x : WI) : pf E0 181 [nP x.v] = some (wiP x) := by
  have lx := wi_tlen x
  have h1 := p_Text (z := x.v) (by omega)
  have h2 := p_Parse (decI x.v) (decI_short2 x)
  rw [parseT_dec, if_pos ((wide_iff _).1 x.lim)] at h2
  have hc : clip x.v = x := clip_ok x.lim
  simp only at h2
  rw [hc] at h2
  refine pf_run (xf := x_skymosaic_skymosaiclaw04_number) rfl (by simp [x_skymosaic_skymosaiclaw04_number]) ?_
  simp only [x_skymosaic_skymosaiclaw04_number]
  simp (disch := omega) only [go_sem, seval, wrap_i64, wrap_u64, wrap_u32, wrap_u8, wrap_i32, h1, h2]
theorem make_self (f : FQ) : pf E0 24 [wiP f.p, wiP f.q] = some (.tu [fqP f, .i .i64 0]) := by
  have hq := f.q1
  obtain ⟨g, g1, g2, mk⟩ := p_Make f.p f.q (by omega)
  obtain ⟨l1, l2⟩ := low_self (p := f.p.v) (q := f.q.v) (by omega) f.cop
  have hg : g = f := fq_ext (g1.trans l1) (g2.trans l2)
  rw [hg] at mk; exact mk
theorem p_of4 (f : FQ) : pf E0 189 [rfQ f] = some (fqP f) := by
  have n1 := p_num f.p
  have n2 := p_num f.q
  have mk := make_self f
  refine pf_run (xf := x_skymosaic_skymosaiclaw04_of) rfl (by simp [x_skymosaic_skymosaiclaw04_of]) ?_
  simp only [x_skymosaic_skymosaiclaw04_of]
  simp (disch := omega) only [go_sem, seval, wrap_i64, wrap_u64, wrap_u32, wrap_u8, wrap_i32]
  refine wk_calmR [9] rfl ?_ ?_
  · simp (disch := omega) only [go_sem, seval, wrap_i64, wrap_u64, wrap_u32, wrap_u8, wrap_i32, n1, n2, mk]
    exact ⟨_, rfl, rfl⟩
  simp (disch := omega) only [go_sem, seval, wrap_i64, wrap_u64, wrap_u32, wrap_u8, wrap_i32, n1, n2, mk]
theorem ftx_len (f : FQ) : (ftx f.p.v f.q.v).length < 4000000 := by
  have h1 := decI_short f.p
  have h2 := decI_short f.q
  unfold ftx
  split <;> (try simp only [List.length_append, List.length_cons, List.length_nil]) <;> omega
theorem ftx_inj {f g : FQ} (h : ftx f.p.v f.q.v = ftx g.p.v g.q.v) : f = g := by
  have hl := ftx_len f
  obtain ⟨R, e, _, _, hb, _⟩ := parse_both (ftx f.p.v f.q.v) (by omega)
  exact (hb f rfl).1.symm.trans (hb g h).1
open Classical in
theorem p_equal4 (f g : FQ) : pf E0 195 [fqP f, fqP g] = some (.b (decide (f = g))) := by
  have s1 := p_fString f
  have s2 := p_fString g
  have h3 : (ftx f.p.v f.q.v = ftx g.p.v g.q.v) = (f = g) := by
    simp only [eq_iff_iff]
    exact ⟨ftx_inj, fun h => by rw [h]⟩
  have h4 : decide (ftx f.p.v f.q.v = ftx g.p.v g.q.v) = decide (f = g) := by simp only [h3]
  refine pf_run (xf := x_skymosaic_skymosaiclaw04_equal) rfl (by simp [x_skymosaic_skymosaiclaw04_equal]) ?_
  simp only [x_skymosaic_skymosaiclaw04_equal]
  simp (disch := omega) only [go_sem, seval, wrap_i64, wrap_u64, wrap_u32, wrap_u8, wrap_i32]
  refine wk_calmX [3] rfl (by simp only [go_sem, seval]) ?_
  simp (disch := omega) only [go_sem, seval, wrap_i64, wrap_u64, wrap_u32, wrap_u8, wrap_i32, s1, s2, h4]
theorem whole_ex {n : Int} (hn : Fits64 n) : ∃ f : FQ, f.p.v = n ∧ f.q.v = 1 ∧ fsz 5 f ∧ pf E0 184 [.i .i64 n] = some (fqP f) ∧ pf E0 185 [.i .i64 n] = some (rfQ f) := by
  have hn' := hn
  unfold Fits64 at hn'
  obtain ⟨f, f1, f2, fo⟩ := p_fOf hn (q := 1) (by decide) (by decide)
  obtain ⟨l1, l2⟩ := low_self (p := n) (q := 1) (by decide) (Nat.gcd_one_right _)
  have f1 := f1.trans l1
  have f2 := f2.trans l2
  refine ⟨f, f1, f2, ⟨?_, ?_⟩, ?_, ?_⟩
  · rw [f1]; exact tlen_small (by omega)
  · rw [f2]; exact tlen_small (by decide)
  · refine pf_run (xf := x_skymosaic_skymosaiclaw04_whole) rfl (by simp [x_skymosaic_skymosaiclaw04_whole]) ?_
    simp only [x_skymosaic_skymosaiclaw04_whole]
    simp (disch := omega) only [go_sem, seval, wrap_i64, wrap_u64, wrap_u32, wrap_u8, wrap_i32, fo]
  · rw [← rfQ_of f1 f2]; exact p_rfOf hn
end Go.Eng
namespace Go.Eng
theorem is_val {f : FQ} {n d p q : Int} (hd : d ≠ 0) (hq : 0 < q) (hc : Nat.gcd p.natAbs q.natAbs = 1) (hf : f.is n d) (e : n * q = p * d) : f.p.v = p ∧ f.q.v = q := by
  unfold FQ.is at hf
  have q1 := f.q1
  refine low_uniq (by omega) hq f.cop hc ?_
  apply Int.eq_of_mul_eq_mul_right (a := d) hd
  calc f.p.v * q * d = f.p.v * d * q := by grind
    _ = n * f.q.v * q := by rw [hf]
    _ = n * q * f.q.v := by grind
    _ = p * d * f.q.v := by rw [e]
    _ = p * f.q.v * d := by grind
theorem ev_dec {z : Int} {v n : Nat} (hz : z = (v : Int)) (h1 : 10 ^ n ≤ v) (h2 : v < 10 ^ (n + 1)) : decI z = dtx (n + 1) v := by
  subst hz
  unfold decI; rw [if_neg (by omega), Int.natAbs_natCast]
  exact dec_eval h1 h2
theorem p_pow3 (x : WI) (h1 : 2 ≤ x.v) (h2 : x.v ≤ 100) : ∃ y : WI, y.v = x.v * x.v * x.v ∧ pf E0 215 [wiP x, .i .i64 3] = some (.tu [wiP y, .i .i64 0]) := by
  have sm := p_Small x
  have s1 : isSmall x.v = true := by unfold isSmall; simp; omega
  have s2 : small x.v = x.v := by unfold small; rw [if_pos s1]
  rw [s1, s2] at sm
  have f1 : pf E0 34 [.i .i64 1] = some (wiP wi1) := p_From (n := 1) (by decide)
  have m2 : x.v * x.v ≤ 100 * 100 := Int.mul_le_mul h2 h2 (by omega) (by omega)
  have m3 : x.v * x.v * x.v ≤ 100 * 100 * 100 := Int.mul_le_mul m2 h2 (by omega) (by omega)
  have p2 : 0 ≤ x.v * x.v := Int.mul_nonneg (by omega) (by omega)
  have p3 : 0 ≤ x.v * x.v * x.v := Int.mul_nonneg p2 (by omega)
  have w2 : wlen (x.v * x.v).natAbs ≤ 512 := inR_w (inR_of (Nat.lt_of_le_of_lt (tlen_small (n := 5) (by omega)) (by decide)))
  have w3 : wlen (x.v * x.v * x.v).natAbs ≤ 512 := inR_w (inR_of (Nat.lt_of_le_of_lt (tlen_small (n := 5) (by omega)) (by decide)))
  have t1 : pf E0 20 [.lst [wiP wi1, wiP x]] = some (.tu [wiP x, .i .i64 0]) := by
    have h := p_ftimes wi1 x
    rw [wi1_v, Int.one_mul, lerr_ok x.lim, clip_ok x.lim] at h
    exact h
  have t2 : pf E0 20 [.lst [wiP x, wiP x]] = some (.tu [wiP ⟨x.v * x.v, w2⟩, .i .i64 0]) := by
    have h := p_ftimes x x
    rw [lerr_ok w2, clip_ok w2] at h
    exact h
  have t3 : pf E0 20 [.lst [wiP ⟨x.v * x.v, w2⟩, wiP x]] = some (.tu [wiP ⟨x.v * x.v * x.v, w3⟩, .i .i64 0]) := by
    have h := p_ftimes ⟨x.v * x.v, w2⟩ x
    rw [lerr_ok w3, clip_ok w3] at h
    exact h
  refine ⟨⟨x.v * x.v * x.v, w3⟩, rfl, ?_⟩
  have g1 : (x.v ≥ -1) = True := by simp; omega
  have g2 : (x.v ≤ 1) = False := by simp; omega
  generalize (⟨x.v * x.v * x.v, w3⟩ : WI) = x3 at *
  generalize (⟨x.v * x.v, w2⟩ : WI) = x2 at *
  generalize wi1 = w1 at *
  refine pf_run (xf := x_skymosaic_frac_power) rfl (by simp [x_skymosaic_frac_power]) ?_
  simp only [x_skymosaic_frac_power]
  simp (disch := omega) only [go_sem, seval, wrap_i64, wrap_u64, wrap_u32, wrap_u8, wrap_i32, sm, g1, g2, f1]
  refine wk_roll x_skymosaic_frac_power_l1.eq_1 ?_
  simp (disch := omega) only [go_sem, seval, wrap_i64, wrap_u64, wrap_u32, wrap_u8, wrap_i32, t1, fill_C, fillC_def]
  refine wk_roll x_skymosaic_frac_power_l1.eq_1 ?_
  simp (disch := omega) only [go_sem, seval, wrap_i64, wrap_u64, wrap_u32, wrap_u8, wrap_i32, t2, fill_C, fillC_def]
  refine wk_roll x_skymosaic_frac_power_l1.eq_1 ?_
  simp (disch := omega) only [go_sem, seval, wrap_i64, wrap_u64, wrap_u32, wrap_u8, wrap_i32, t3, fill_C, fillC_def]
  refine wk_roll x_skymosaic_frac_power_l1.eq_1 ?_
  simp (disch := omega) only [go_sem, seval, wrap_i64, wrap_u64, wrap_u32, wrap_u8, wrap_i32]
theorem p_Pow3 (a : FQ) (ha : a.p.v = 2) (hb : a.q.v = 3) : ∃ f : FQ, f.p.v = 8 ∧ f.q.v = 27 ∧ pf E0 207 [fqP a, .i .i64 3] = some (.tu [fqP f, .i .i64 0]) := by
  have da := p_fDen a
  obtain ⟨x, xv, fx⟩ := p_pow3 a.p (by omega) (by omega)
  obtain ⟨y, yv, fy⟩ := p_pow3 a.q (by omega) (by omega)
  rw [ha] at xv
  rw [hb] at yv
  have xv : x.v = 8 := xv
  have yv : y.v = 27 := yv
  have hc : Nat.gcd x.v.natAbs y.v.natAbs = 1 := by rw [xv, yv]; decide
  have hl := p_lowest x y (by omega) hc
  refine ⟨⟨x, y, by omega, hc⟩, xv, yv, ?_⟩
  generalize (⟨x, y, by omega, hc⟩ : FQ) = r at *
  refine pf_run (xf := x_skymosaic_frac_Pow) rfl (by simp [x_skymosaic_frac_Pow]) ?_
  simp only [x_skymosaic_frac_Pow]
  simp (disch := omega) only [go_sem, seval, wrap_i64, wrap_u64, wrap_u32, wrap_u8, wrap_i32, da, fx, fy, hl]
theorem p_parse24 : ∃ R : FQ, pf E0 197 [.s [50, 47, 52]] = some (.tu [fqP R, .i .i64 2]) := by
  obtain ⟨R, e, h1, _, _, h⟩ := parse_both [50, 47, 52] (by decide)
  rcases h with ⟨he, hs, T, B, hS⟩ | rfl
  · exfalso
    have h2 := split_at (A := [50]) (C := [52]) rfl (by decide) hS
    rw [hs] at hS
    have h3 := split_ftx hS
    have e1 : decI 2 = [50] := (ev_dec (v := 2) (n := 0) rfl (by decide) (by decide)).trans rfl
    have e2 : decI 4 = [52] := (ev_dec (v := 4) (n := 0) rfl (by decide) (by decide)).trans rfl
    have p2 : R.p.v = 2 := decI_inj (h3.1.symm.trans (h2.1.trans e1.symm))
    have p4 : R.q.v = 4 := decI_inj (h3.2.symm.trans (h2.2.trans e2.symm))
    have hc := R.cop
    rw [p2, p4] at hc
    revert hc; decide
  · exact ⟨R, h1⟩
theorem p_parse31 : ∃ R : FQ, pf E0 197 [.s [51, 47, 49]] = some (.tu [fqP R, .i .i64 2]) := by
  obtain ⟨R, e, h1, _, _, h⟩ := parse_both [51, 47, 49] (by decide)
  rcases h with ⟨he, hs, T, B, hS⟩ | rfl
  · exfalso
    have h2 := split_at (A := [51]) (C := [49]) rfl (by decide) hS
    rw [hs] at hS
    have h3 := split_ftx hS
    have p1 : R.q.v = 1 := decI_inj (h3.2.symm.trans (h2.2.trans decI_one.symm))
    have : (47 : UInt8) ∈ ftx R.p.v R.q.v := by rw [← hs]; decide
    unfold ftx at this
    rw [if_pos p1] at this
    exact decI_no47 _ this
  · exact ⟨R, h1⟩
theorem of_ex {p q a b : Int} (hp : Fits64 p) (hq : Fits64 q) (h : q ≠ 0) (e1 : lowP p q = a) (e2 : lowQ p q = b) (ha : tlen a.natAbs ≤ 5) (hb : tlen b.natAbs ≤ 5) : ∃ f : FQ, f.p.v = a ∧ f.q.v = b ∧ fsz 5 f ∧ pf E0 17 [.i .i64 p, .i .i64 q] = some (.tu [fqP f, .i .i64 0]) := by
  obtain ⟨f, f1, f2, fo⟩ := p_fOf hp hq h
  rw [e1] at f1
  rw [e2] at f2
  exact ⟨f, f1, f2, ⟨by rw [f1]; exact ha, by rw [f2]; exact hb⟩, fo⟩
theorem str_ex (f : FQ) {p q : Int} {t : List UInt8} (h1 : f.p.v = p) (h2 : f.q.v = q) (ht : ftx p q = t) : pf E0 16 [fqP f] = some (.s t) := by
  rw [← ht, ← h1, ← h2]; exact p_fString f
theorem p_lives4 : pf E0 186 [] = some (.b true) := by
  obtain ⟨a, a1, a2, _, fa⟩ := of_ex (p := 6) (q := -8) (a := -3) (b := 4) (by decide) (by decide) (by decide) (by decide) (by decide) (tlen_small (by decide)) (tlen_small (by decide))
  obtain ⟨h, h1, h2, hz, fh⟩ := of_ex (p := 1) (q := 2) (a := 1) (b := 2) (by decide) (by decide) (by decide) (by decide) (by decide) (tlen_small (by decide)) (tlen_small (by decide))
  obtain ⟨t, t1, t2, tz, ft⟩ := of_ex (p := 1) (q := 3) (a := 1) (b := 3) (by decide) (by decide) (by decide) (by decide) (by decide) (tlen_small (by decide)) (tlen_small (by decide))
  obtain ⟨b, fb, bi, _⟩ := add_is h t hz tz (by decide)
  rw [h1, h2, t1, t2] at bi
  obtain ⟨b1, b2⟩ := is_val (p := 5) (q := 6) (by decide) (by decide) (by decide) bi (by decide)
  obtain ⟨o, o1, o2, oz, fo, _⟩ := whole_ex (n := 1) (by decide)
  obtain ⟨z, z1, z2, zz, fz0, _⟩ := whole_ex (n := 0) (by decide)
  have dv := p_fDiv0 o z z1
  obtain ⟨w, fw, wi, _⟩ := sub_is o t oz tz (by decide)
  rw [o1, o2, t1, t2] at wi
  obtain ⟨w1, w2⟩ := is_val (p := 2) (q := 3) (by decide) (by decide) (by decide) wi (by decide)
  obtain ⟨c, c1, c2, fc⟩ := p_Pow3 w w1 w2
  obtain ⟨R1, r1⟩ := p_parse24
  obtain ⟨R2, r2⟩ := p_parse31
  have d3 : decI (-3) = [45, 51] := by
    unfold decI; rw [if_pos (by decide)]
    show 45 :: dec 3 = _
    rw [dec_eval (v := 3) (n := 0) (by decide) (by decide)]; rfl
  have d4 : decI 4 = [52] := (ev_dec (v := 4) (n := 0) rfl (by decide) (by decide)).trans rfl
  have d5 : decI 5 = [53] := (ev_dec (v := 5) (n := 0) rfl (by decide) (by decide)).trans rfl
  have d6 : decI 6 = [54] := (ev_dec (v := 6) (n := 0) rfl (by decide) (by decide)).trans rfl
  have d8 : decI 8 = [56] := (ev_dec (v := 8) (n := 0) rfl (by decide) (by decide)).trans rfl
  have d27 : decI 27 = [50, 55] := (ev_dec (v := 27) (n := 1) rfl (by decide) (by decide)).trans rfl
  have s1 := str_ex a (t := [45, 51, 47, 52]) a1 a2 (by unfold ftx; rw [if_neg (by decide), d3, d4]; rfl)
  have s2 := str_ex b (t := [53, 47, 54]) b1 b2 (by unfold ftx; rw [if_neg (by decide), d5, d6]; rfl)
  have s3 := str_ex c (t := [56, 47, 50, 55]) c1 c2 (by unfold ftx; rw [if_neg (by decide), d8, d27]; rfl)
  clear a1 a2 h1 h2 t1 t2 bi b1 b2 o1 o2 z1 z2 wi w1 w2 c1 c2
  generalize fq0 = y at *
  refine pf_run (xf := x_skymosaic_skymosaiclaw04_lives) rfl (by simp [x_skymosaic_skymosaiclaw04_lives]) ?_
  simp only [x_skymosaic_skymosaiclaw04_lives]
  simp (disch := omega) only [go_sem, seval, wrap_i64, wrap_u64, wrap_u32, wrap_u8, wrap_i32, fa, fh, ft, fb, fo, fz0, dv]
  refine wk_calmX [5] rfl (by simp only [go_sem, seval]) ?_
  simp (disch := omega) only [go_sem, seval, wrap_i64, wrap_u64, wrap_u32, wrap_u8, wrap_i32, fo, fw, fc, r1, r2, s1, s2, s3]
end Go.Eng
namespace Go.Eng
end Go.Eng
namespace Go.Eng
end Go.Eng
namespace Go.Eng
end Go.Eng
namespace Go.Eng
end Go.Eng
namespace Go.Eng
end Go.Eng
namespace Go.Eng
theorem ap1 (b0 : Option PB) (c0 c1 c2 c3 : PV) : appP [b0, some ⟨[c0, c1, c2, c3], true, 0⟩] 4 64 .nl (.sl 1 0 1 1 4) = some (.sl 2 0 1 1 4, [b0, some ⟨[c0, c1, c2, c3], true, 0⟩, some ⟨[c0, c1, c2, c3], true, 0⟩]) := rfl
theorem ap2 (b0 b1 : Option PB) (c0 c1 c2 c3 d0 d1 d2 d3 : PV) : appP [b0, b1, some ⟨[d0, d1, d2, d3], true, 0⟩, some ⟨[c0, c1, c2, c3], true, 0⟩] 4 64 (.sl 2 0 1 1 4) (.sl 3 0 1 1 4) = some (.sl 4 0 2 2 4, [b0, b1, none, some ⟨[c0, c1, c2, c3], true, 0⟩, some ⟨[d0, d1, d2, d3, c0, c1, c2, c3], true, 0⟩]) := rfl
theorem ap3 (b0 b1 b2 b3 : Option PB) (c0 c1 c2 c3 d0 d1 d2 d3 e0 e1 e2 e3 : PV) : appP [b0, b1, b2, b3, some ⟨[d0, d1, d2, d3, e0, e1, e2, e3], true, 0⟩, some ⟨[c0, c1, c2, c3], true, 0⟩] 4 64 (.sl 4 0 2 2 4) (.sl 5 0 1 1 4) = some (.sl 6 0 3 3 4, [b0, b1, b2, b3, none, some ⟨[c0, c1, c2, c3], true, 0⟩, some ⟨[d0, d1, d2, d3, e0, e1, e2, e3, c0, c1, c2, c3], true, 0⟩]) := rfl
theorem cmpF_rng (f g : FQ) : -1 ≤ cmpF f g ∧ cmpF f g ≤ 1 := cmpI_rng _ _
theorem cmpF_neg (f g : FQ) : 0 - cmpF g f = cmpF f g := by rw [cmpF_swap f g]; omega
open Classical in
theorem p_equalC (f g : FQ) : pf E0 195 [fqP f, fqP g] = some (.b (decide (cmpF f g = 0))) := by
  rw [p_equal4]
  have h := cmpF_eq0 f g
  by_cases e : f = g
  · rw [decide_eq_true e, decide_eq_true (h.2 e)]
  · rw [decide_eq_false e, decide_eq_false (fun q => e (h.1 q))]
theorem p_rfCmp (f g : FQ) : pf E0 200 [rfQ f, rfQ g] = some (.i .i64 (cmpF f g)) := by
  have := wi_tlen f.p
  have := wi_tlen f.q
  have := wi_tlen g.p
  have := wi_tlen g.q
  exact p_rfCompare f.p.v f.q.v g.p.v g.q.v (by omega) (by omega) (by omega) (by omega)
theorem cmpF_trans {a b c : FQ} (h1 : cmpF a b ≤ 0) (h2 : cmpF b c ≤ 0) : cmpF a c ≤ 0 := by
  have qa := a.q1
  have qb := b.q1
  have qc := c.q1
  have le : ∀ {x y : Int}, cmpI x y ≤ 0 ↔ x ≤ y := fun {x y} => by unfold cmpI; split <;> (try split) <;> omega
  unfold cmpF at *
  rw [le] at *
  have k1 := Int.mul_le_mul_of_nonneg_right h1 (show 0 ≤ c.q.v by omega)
  have k2 := Int.mul_le_mul_of_nonneg_right h2 (show 0 ≤ a.q.v by omega)
  have e1 : b.p.v * a.q.v * c.q.v = b.p.v * c.q.v * a.q.v := by grind
  have e2 : a.p.v * b.q.v * c.q.v = a.p.v * c.q.v * b.q.v := by grind
  have e3 : c.p.v * b.q.v * a.q.v = c.p.v * a.q.v * b.q.v := by grind
  have k3 : a.p.v * c.q.v * b.q.v ≤ c.p.v * a.q.v * b.q.v := by omega
  exact Int.le_of_mul_le_mul_right k3 (by omega)
set_option maxHeartbeats 4000000 in
set_option maxRecDepth 40000 in
theorem p_FracOrder {xs : List Int} (hx : Ints xs) : pf E0 177 [ints xs] = some (.b true) := by
  obtain ⟨a, za, ga⟩ := p_rfFrac hx (i := 0) (by omega) (by omega)
  obtain ⟨b, zb, gb⟩ := p_rfFrac hx (i := 4) (by omega) (by omega)
  obtain ⟨c, zc, gc⟩ := p_rfFrac hx (i := 8) (by omega) (by omega)
  have sg := p_fSign
  have of := p_of4
  have sr : ∀ f : FQ, pf E0 199 [rfQ f] = some (.i .i64 (cmpI f.p.v 0)) := fun f => p_rfSign f.p.v f.q.v
  refine pf_run (xf := x_skymosaic_skymosaiclaw04_FracOrder) rfl (by simp [x_skymosaic_skymosaiclaw04_FracOrder]) ?_
  simp only [x_skymosaic_skymosaiclaw04_FracOrder]
  simp (disch := omega) only [go_sem, seval, wrap_i64, wrap_u64, wrap_u32, wrap_u8, wrap_i32, ga, gb, gc, fill_C, fillC_def]
  refine wk_roll x_skymosaic_skymosaiclaw04_FracOrder_l1.eq_1 ?_
  simp (disch := omega) only [go_sem, seval, wrap_i64, wrap_u64, wrap_u32, wrap_u8, wrap_i32, of, ap1, fill_C, fillC_def]
  refine wk_calmR [51] rfl ?_ ?_
  · simp (disch := omega) only [go_sem, seval, wrap_i64, wrap_u64, wrap_u32, wrap_u8, wrap_i32, sg, sr]
    exact ⟨_, rfl, rfl⟩
  simp (disch := omega) only [go_sem, seval, wrap_i64, wrap_u64, wrap_u32, wrap_u8, wrap_i32, sg, sr]
  refine wk_roll x_skymosaic_skymosaiclaw04_FracOrder_l1.eq_1 ?_
  simp (disch := omega) only [go_sem, seval, wrap_i64, wrap_u64, wrap_u32, wrap_u8, wrap_i32, of, ap2, fill_C, fillC_def]
  refine wk_calmR [51] rfl ?_ ?_
  · simp (disch := omega) only [go_sem, seval, wrap_i64, wrap_u64, wrap_u32, wrap_u8, wrap_i32, sg, sr]
    exact ⟨_, rfl, rfl⟩
  simp (disch := omega) only [go_sem, seval, wrap_i64, wrap_u64, wrap_u32, wrap_u8, wrap_i32, sg, sr]
  refine wk_roll x_skymosaic_skymosaiclaw04_FracOrder_l1.eq_1 ?_
  simp (disch := omega) only [go_sem, seval, wrap_i64, wrap_u64, wrap_u32, wrap_u8, wrap_i32, of, ap3, fill_C, fillC_def]
  refine wk_calmR [51] rfl ?_ ?_
  · simp (disch := omega) only [go_sem, seval, wrap_i64, wrap_u64, wrap_u32, wrap_u8, wrap_i32, sg, sr]
    exact ⟨_, rfl, rfl⟩
  simp (disch := omega) only [go_sem, seval, wrap_i64, wrap_u64, wrap_u32, wrap_u8, wrap_i32, sg, sr]
  refine wk_roll x_skymosaic_skymosaiclaw04_FracOrder_l1.eq_1 ?_
  simp (disch := omega) only [go_sem, seval, wrap_i64, wrap_u64, wrap_u32, wrap_u8, wrap_i32]
  have cf := p_fCompare
  have rc := p_rfCmp
  have eq := p_equalC
  have r1 := cmpF_rng a a
  have r2 := cmpF_rng a b
  have r3 := cmpF_rng a c
  have r4 := cmpF_rng b a
  have r5 := cmpF_rng b b
  have r6 := cmpF_rng b c
  have r7 := cmpF_rng c a
  have r8 := cmpF_rng c b
  have r9 := cmpF_rng c c
  obtain ⟨A, hA⟩ : ∃ B : PB, B = ⟨[.b (decide (a.p.v < 0)), T a.p.v.natAbs, .b (decide (a.q.v < 0)), T a.q.v.natAbs, .b (decide (b.p.v < 0)), T b.p.v.natAbs, .b (decide (b.q.v < 0)), T b.q.v.natAbs, .b (decide (c.p.v < 0)), T c.p.v.natAbs, .b (decide (c.q.v < 0)), T c.q.v.natAbs], true, 0⟩ := ⟨_, rfl⟩
  obtain ⟨X, hX⟩ : ∃ B : PB, B = ⟨[.b (decide (a.p.v < 0)), D a.p.v.natAbs, .b (decide (a.l.v < 0)), D a.l.v.natAbs, .b (decide (b.p.v < 0)), D b.p.v.natAbs, .b (decide (b.l.v < 0)), D b.l.v.natAbs, .b (decide (c.p.v < 0)), D c.p.v.natAbs, .b (decide (c.l.v < 0)), D c.l.v.natAbs], true, 0⟩ := ⟨_, rfl⟩
  rw [← hA, ← hX]
  refine wk_ind x_skymosaic_skymosaiclaw04_FracOrder_l2.eq_1 (fun (i : Nat) fr M => i ≤ 3 ∧ fr 3 = .sl 0 0 3 3 4 ∧ fr 4 = .sl 6 0 3 3 4 ∧ fr 6 = (PV.i .i64 ((i : Nat) : Int)) ∧ ∃ b1 b2 b3 b4 b5, M = [some A, b1, b2, b3, b4, b5, some X]) (fun i => 3 - i) ?_ 0 ⟨by omega, by simp only [go_sem, seval], by simp only [go_sem, seval], by simp only [go_sem, seval], _, _, _, _, _, rfl⟩
  rintro i fr M ⟨hi, f3, f4, f6, b1, b2, b3, b4, b5, rfl⟩ ih
  by_cases hi4 : i < 3
  · have q1 : ((i : Int) < 3) = True := by simp; omega
    simp (disch := omega) only [go_sem, seval, wrap_i64, wrap_u64, wrap_u32, wrap_u8, wrap_i32, f6, q1]
    refine wk_ind x_skymosaic_skymosaiclaw04_FracOrder_l3.eq_1 (fun (k : Nat) fr M => k ≤ 3 ∧ fr 3 = .sl 0 0 3 3 4 ∧ fr 4 = .sl 6 0 3 3 4 ∧ fr 6 = (PV.i .i64 ((i : Nat) : Int)) ∧ fr 7 = (PV.i .i64 ((k : Nat) : Int)) ∧ ∃ b1 b2 b3 b4 b5, M = [some A, b1, b2, b3, b4, b5, some X]) (fun k => 3 - k) ?_ 0 ⟨by omega, by simp only [go_sem, seval, f3], by simp only [go_sem, seval, f4], by simp only [go_sem, seval, f6], by simp only [go_sem, seval], _, _, _, _, _, rfl⟩
    rintro k fr M ⟨hk, f3, f4, f6, f7, b1, b2, b3, b4, b5, rfl⟩ ih2
    by_cases hk4 : k < 3
    · have q2 : ((k : Int) < 3) = True := by simp; omega
      obtain rfl | rfl | rfl : k = 0 ∨ k = 1 ∨ k = 2 := by omega
      · obtain rfl | rfl | rfl : i = 0 ∨ i = 1 ∨ i = 2 := by omega
        all_goals
          subst hA hX
          simp only [Int.natCast_zero, Int.natCast_one, Int.cast_ofNat_Int] at f6 f7
          simp (disch := omega) only [go_sem, seval, wrap_i64, wrap_u64, wrap_u32, wrap_u8, wrap_i32, f3, f4, f6, f7, cf, rc, eq, cmpF_neg]
          exact ih2 1 _ _ (by omega) ⟨by omega, by simp only [go_sem, seval, f3], by simp only [go_sem, seval, f4], by simp only [go_sem, seval, f6], by simp only [go_sem, seval], _, _, _, _, _, rfl⟩
      · obtain rfl | rfl | rfl : i = 0 ∨ i = 1 ∨ i = 2 := by omega
        all_goals
          subst hA hX
          simp only [Int.natCast_zero, Int.natCast_one, Int.cast_ofNat_Int] at f6 f7
          simp (disch := omega) only [go_sem, seval, wrap_i64, wrap_u64, wrap_u32, wrap_u8, wrap_i32, f3, f4, f6, f7, cf, rc, eq, cmpF_neg]
          exact ih2 2 _ _ (by omega) ⟨by omega, by simp only [go_sem, seval, f3], by simp only [go_sem, seval, f4], by simp only [go_sem, seval, f6], by simp only [go_sem, seval], _, _, _, _, _, rfl⟩
      · obtain rfl | rfl | rfl : i = 0 ∨ i = 1 ∨ i = 2 := by omega
        all_goals
          subst hA hX
          simp only [Int.natCast_zero, Int.natCast_one, Int.cast_ofNat_Int] at f6 f7
          simp (disch := omega) only [go_sem, seval, wrap_i64, wrap_u64, wrap_u32, wrap_u8, wrap_i32, f3, f4, f6, f7, cf, rc, eq, cmpF_neg]
          exact ih2 3 _ _ (by omega) ⟨by omega, by simp only [go_sem, seval, f3], by simp only [go_sem, seval, f4], by simp only [go_sem, seval, f6], by simp only [go_sem, seval], _, _, _, _, _, rfl⟩
    · have q2 : ((k : Int) < 3) = False := by simp; omega
      simp (disch := omega) only [go_sem, seval, wrap_i64, wrap_u64, wrap_u32, wrap_u8, wrap_i32, f6, f7, q2]
      exact ih (i + 1) _ _ (by omega) ⟨by omega, by simp only [go_sem, seval, f3], by simp only [go_sem, seval, f4], by simp only [go_sem, seval]; rw [Int.natCast_succ], _, _, _, _, _, rfl⟩
  · have q1 : ((i : Int) < 3) = False := by simp; omega
    clear ih
    have qa := a.q1
    have qb := b.q1
    have qc := c.q1
    obtain ⟨p, f1, i1, _⟩ := add_is a c za zc (by decide)
    obtain ⟨q, f2, i2, _⟩ := add_is b c zb zc (by decide)
    have hpq : cmpF p q = cmpF a b := by
      rw [cmpF_is (Int.mul_pos (by omega) (by omega)) (Int.mul_pos (by omega) (by omega)) i1 i2]
      have e : cmpI ((a.p.v * c.q.v + c.p.v * a.q.v) * (b.q.v * c.q.v)) ((b.p.v * c.q.v + c.p.v * b.q.v) * (a.q.v * c.q.v)) = cmpI (a.p.v * b.q.v * (c.q.v * c.q.v)) (b.p.v * a.q.v * (c.q.v * c.q.v)) := cmpI_sub (by grind)
      rw [e, cmpI_scale (Int.mul_pos (by omega) (by omega))]; rfl
    obtain ⟨r, f8, i3, _⟩ := mul_is a c za zc (by decide)
    obtain ⟨s, f9, i4, _⟩ := mul_is b c zb zc (by decide)
    have hrs : cmpF r s = cmpF a b * cmpI c.p.v 0 := by
      rw [cmpF_is (Int.mul_pos (by omega) (by omega)) (Int.mul_pos (by omega) (by omega)) i3 i4]
      have e : cmpI (a.p.v * c.p.v * (b.q.v * c.q.v)) (b.p.v * c.p.v * (a.q.v * c.q.v)) = cmpI (a.p.v * b.q.v * c.p.v * c.q.v) (b.p.v * a.q.v * c.p.v * c.q.v) := cmpI_sub (by grind)
      rw [e, cmpI_scale (by omega), cmpI_mul]; rfl
    have hrr : -1 ≤ cmpF a b * cmpI c.p.v 0 ∧ cmpF a b * cmpI c.p.v 0 ≤ 1 := by rw [← hrs]; exact cmpF_rng r s
    obtain ⟨num, nv, fn⟩ := add_ex a.p b.p rfl rfl (by have := tlen_addI a.p.v b.p.v; have := za.1; have := zb.1; omega)
    obtain ⟨den, dv, fd⟩ := add_ex a.q b.q rfl rfl (by have := tlen_addI a.q.v b.q.v; have := za.2; have := zb.2; omega)
    obtain ⟨m, m1, m2, fm⟩ := p_Make num den (by omega)
    have im := is_low (by omega) m1 m2
    rw [nv, dv] at im
    have ham : cmpF a m = cmpF a b := by
      rw [cmpF_is (show 0 < a.q.v by omega) (by omega) (is_self a) im]
      exact cmpI_sub (by grind)
    have hmb : cmpF m b = cmpF a b := by
      rw [cmpF_is (by omega) (show 0 < b.q.v by omega) im (is_self b)]
      exact cmpI_sub (by grind)
    have fnum := p_fNum
    have fden := p_fDen
    have lv := p_lives4
    have tr := @cmpF_trans a b c
    subst hA hX
    clear i1 i2 i3 i4 nv dv m1 m2 im
    have zz : (cmpF a b = 0) = True ∨ (cmpF a b = 0) = False := by by_cases h : cmpF a b = 0 <;> simp [h]
    have fin : ((cmpF a b ≤ 0) = True ∧ (cmpF b c ≤ 0) = True ∧ (cmpF a c > 0) = False) ∨ ((cmpF a b ≤ 0) = True ∧ (cmpF b c ≤ 0) = False) ∨ (cmpF a b ≤ 0) = False := by
      by_cases h1 : cmpF a b ≤ 0
      · by_cases h2 : cmpF b c ≤ 0
        · have := tr h1 h2
          exact .inl ⟨by simp [h1], by simp [h2], by simp; omega⟩
        · exact .inr (.inl ⟨by simp [h1], by simp [h2]⟩)
      · exact .inr (.inr (by simp [h1]))
    rcases zz with z0 | z0
    all_goals
      rcases fin with ⟨h1, h2, h3⟩ | ⟨h1, h2⟩ | h1
      · simp (disch := omega) only [go_sem, seval, wrap_i64, wrap_u64, wrap_u32, wrap_u8, wrap_i32, f3, f4, f6, q1, cf, h1, h2, h3, f3, f4, cf, f1, f2, f8, f9, hpq, hrs, sg, fnum, fden, fn, fd, fm, ham, hmb, lv, z0]
        refine wk_calmR [206] rfl ?_ ?_
        · simp (disch := omega) only [go_sem, seval, wrap_i64, wrap_u64, wrap_u32, wrap_u8, wrap_i32, f3, f4, cf, f1, f2, f8, f9, hpq, hrs, sg, fnum, fden, fn, fd, fm, ham, hmb, lv, z0]
          exact ⟨_, rfl, rfl⟩
        simp (disch := omega) only [go_sem, seval, wrap_i64, wrap_u64, wrap_u32, wrap_u8, wrap_i32, f3, f4, cf, f1, f2, f8, f9, hpq, hrs, sg, fnum, fden, fn, fd, fm, ham, hmb, lv, z0]
        refine wk_calmR [218] rfl ?_ ?_
        · simp (disch := omega) only [go_sem, seval, wrap_i64, wrap_u64, wrap_u32, wrap_u8, wrap_i32, f3, f4, cf, f1, f2, f8, f9, hpq, hrs, sg, fnum, fden, fn, fd, fm, ham, hmb, lv, z0]
          exact ⟨_, rfl, rfl⟩
        simp (disch := omega) only [go_sem, seval, wrap_i64, wrap_u64, wrap_u32, wrap_u8, wrap_i32, f3, f4, cf, f1, f2, f8, f9, hpq, hrs, sg, fnum, fden, fn, fd, fm, ham, hmb, lv, z0]
        refine wk_calmR [230] rfl ?_ ?_
        · simp (disch := omega) only [go_sem, seval, wrap_i64, wrap_u64, wrap_u32, wrap_u8, wrap_i32, f3, f4, cf, f1, f2, f8, f9, hpq, hrs, sg, fnum, fden, fn, fd, fm, ham, hmb, lv, z0]
          exact ⟨_, rfl, rfl⟩
        simp (disch := omega) only [go_sem, seval, wrap_i64, wrap_u64, wrap_u32, wrap_u8, wrap_i32, f3, f4, cf, f1, f2, f8, f9, hpq, hrs, sg, fnum, fden, fn, fd, fm, ham, hmb, lv, z0]
      · simp (disch := omega) only [go_sem, seval, wrap_i64, wrap_u64, wrap_u32, wrap_u8, wrap_i32, f3, f4, f6, q1, cf, h1, h2, f3, f4, cf, f1, f2, f8, f9, hpq, hrs, sg, fnum, fden, fn, fd, fm, ham, hmb, lv, z0]
        refine wk_calmR [206] rfl ?_ ?_
        · simp (disch := omega) only [go_sem, seval, wrap_i64, wrap_u64, wrap_u32, wrap_u8, wrap_i32, f3, f4, cf, f1, f2, f8, f9, hpq, hrs, sg, fnum, fden, fn, fd, fm, ham, hmb, lv, z0]
          exact ⟨_, rfl, rfl⟩
        simp (disch := omega) only [go_sem, seval, wrap_i64, wrap_u64, wrap_u32, wrap_u8, wrap_i32, f3, f4, cf, f1, f2, f8, f9, hpq, hrs, sg, fnum, fden, fn, fd, fm, ham, hmb, lv, z0]
        refine wk_calmR [218] rfl ?_ ?_
        · simp (disch := omega) only [go_sem, seval, wrap_i64, wrap_u64, wrap_u32, wrap_u8, wrap_i32, f3, f4, cf, f1, f2, f8, f9, hpq, hrs, sg, fnum, fden, fn, fd, fm, ham, hmb, lv, z0]
          exact ⟨_, rfl, rfl⟩
        simp (disch := omega) only [go_sem, seval, wrap_i64, wrap_u64, wrap_u32, wrap_u8, wrap_i32, f3, f4, cf, f1, f2, f8, f9, hpq, hrs, sg, fnum, fden, fn, fd, fm, ham, hmb, lv, z0]
        refine wk_calmR [230] rfl ?_ ?_
        · simp (disch := omega) only [go_sem, seval, wrap_i64, wrap_u64, wrap_u32, wrap_u8, wrap_i32, f3, f4, cf, f1, f2, f8, f9, hpq, hrs, sg, fnum, fden, fn, fd, fm, ham, hmb, lv, z0]
          exact ⟨_, rfl, rfl⟩
        simp (disch := omega) only [go_sem, seval, wrap_i64, wrap_u64, wrap_u32, wrap_u8, wrap_i32, f3, f4, cf, f1, f2, f8, f9, hpq, hrs, sg, fnum, fden, fn, fd, fm, ham, hmb, lv, z0]
      · simp (disch := omega) only [go_sem, seval, wrap_i64, wrap_u64, wrap_u32, wrap_u8, wrap_i32, f3, f4, f6, q1, cf, h1, f3, f4, cf, f1, f2, f8, f9, hpq, hrs, sg, fnum, fden, fn, fd, fm, ham, hmb, lv, z0]
        refine wk_calmR [206] rfl ?_ ?_
        · simp (disch := omega) only [go_sem, seval, wrap_i64, wrap_u64, wrap_u32, wrap_u8, wrap_i32, f3, f4, cf, f1, f2, f8, f9, hpq, hrs, sg, fnum, fden, fn, fd, fm, ham, hmb, lv, z0]
          exact ⟨_, rfl, rfl⟩
        simp (disch := omega) only [go_sem, seval, wrap_i64, wrap_u64, wrap_u32, wrap_u8, wrap_i32, f3, f4, cf, f1, f2, f8, f9, hpq, hrs, sg, fnum, fden, fn, fd, fm, ham, hmb, lv, z0]
        refine wk_calmR [218] rfl ?_ ?_
        · simp (disch := omega) only [go_sem, seval, wrap_i64, wrap_u64, wrap_u32, wrap_u8, wrap_i32, f3, f4, cf, f1, f2, f8, f9, hpq, hrs, sg, fnum, fden, fn, fd, fm, ham, hmb, lv, z0]
          exact ⟨_, rfl, rfl⟩
        simp (disch := omega) only [go_sem, seval, wrap_i64, wrap_u64, wrap_u32, wrap_u8, wrap_i32, f3, f4, cf, f1, f2, f8, f9, hpq, hrs, sg, fnum, fden, fn, fd, fm, ham, hmb, lv, z0]
        refine wk_calmR [230] rfl ?_ ?_
        · simp (disch := omega) only [go_sem, seval, wrap_i64, wrap_u64, wrap_u32, wrap_u8, wrap_i32, f3, f4, cf, f1, f2, f8, f9, hpq, hrs, sg, fnum, fden, fn, fd, fm, ham, hmb, lv, z0]
          exact ⟨_, rfl, rfl⟩
        simp (disch := omega) only [go_sem, seval, wrap_i64, wrap_u64, wrap_u32, wrap_u8, wrap_i32, f3, f4, cf, f1, f2, f8, f9, hpq, hrs, sg, fnum, fden, fn, fd, fm, ham, hmb, lv, z0]
end Go.Eng
