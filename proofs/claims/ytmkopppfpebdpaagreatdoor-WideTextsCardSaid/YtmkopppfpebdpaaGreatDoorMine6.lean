/- The engine and the contracts on which the statement stands: no conditions of its own. -/
import Derived.Test.YtmkopppfpebdpaaGreatDoorMine5
set_option linter.unusedSimpArgs false
set_option linter.unusedVariables false
set_option linter.unusedSectionVars false
namespace Go.Eng
noncomputable instance inRdec (v : Nat) : Decidable (inR v) := Classical.propDecidable _
noncomputable def parseT (s : List UInt8) : Int × Int :=
  let neg : Bool := s.head? == some 45
  let ds := if neg then s.drop 1 else s
  if 5000 < s.length then (0, 4)
  else if ds = [] ∨ (ds.head? = some 48 ∧ (neg = true ∨ 1 < ds.length)) ∨ ¬ ds.all isDig = true then (0, 2)
  else if inR (tv ds) then (sgn neg (tv ds), 0) else (0, 4)
theorem tvT (l : List UInt8) (h : l.all isDig = true) {k : Nat} (hk : l.length ≤ 4 * k) : tv l < 10000 ^ k := by
  have h1 := tv_lt l h
  have h2 : (10 : Nat) ^ l.length ≤ 10 ^ (4 * k) := Nat.pow_le_pow_right (by decide) hk
  rw [Nat.pow_mul] at h2
  exact Nat.lt_of_lt_of_le h1 h2
def rparse_rest : XC := match x_skymosaic_skymosaicref03_Parse.body with
  | .seq _ (.seq _ (.seq _ (.seq _ (.seq _ r)))) => r
  | _ => .skip
def rparse_1 : XC := match x_skymosaic_skymosaicref03_Parse.body with | .seq a _ => a | _ => .skip
def rparse_2 : XC := match x_skymosaic_skymosaicref03_Parse.body with | .seq _ (.seq a _) => a | _ => .skip
def rparse_3 : XC := match x_skymosaic_skymosaicref03_Parse.body with | .seq _ (.seq _ (.seq a _)) => a | _ => .skip
def rparse_4 : XC := match x_skymosaic_skymosaicref03_Parse.body with | .seq _ (.seq _ (.seq _ (.seq a _))) => a | _ => .skip
def rparse_5 : XC := match x_skymosaic_skymosaicref03_Parse.body with | .seq _ (.seq _ (.seq _ (.seq _ (.seq a _)))) => a | _ => .skip
theorem rparse_body : x_skymosaic_skymosaicref03_Parse.body = .seq rparse_1 (.seq rparse_2 (.seq rparse_3 (.seq rparse_4 (.seq rparse_5 rparse_rest)))) := rfl
def rparse_R : XC := match rparse_rest with
  | .seq _ (.seq _ r) => r
  | _ => .skip
def rparse_R2 : XC := match rparse_R with
  | .seq _ (.seq _ r) => r
  | _ => .skip
theorem head_len {l : List UInt8} : (l = [] ∨ ∃ c t, l = c :: t) := by cases l with
  | nil => exact .inl rfl
  | cons c t => exact .inr ⟨c, t, rfl⟩
theorem n_zero : PV.ag [PV.b false, PV.lst []] = nP 0 := by
  have e0 : T 0 = .lst [] := by unfold T; rw [tlen_zero]; rfl
  unfold nP; rw [Int.natAbs_zero, e0]; rfl
def rpF (z e : Int) : PFin := ⟨[.cell 2 true 2, .tmp 3], fun w M2 => (fz M2 fzD w).map Prod.fst = some (.tu [nP z, .i .i64 e])⟩
theorem rparse_end {neg : Bool} {ds : List UInt8} {z e : Int} {k : Nat} (hk : k ≤ 1500) (hv : tv ds < 10000 ^ k)
    (hsp : inR (tv ds) ∧ z = sgn neg (tv ds) ∧ e = 0 ∨ ¬ inR (tv ds) ∧ z = 0 ∧ e = 4)
    {fr : PFr} {M : PM} (h2 : fr 2 = .p 0 0) (h3 : fr 3 = .i .i64 0) (h4 : fr 4 = .b neg) (hni : NotIn (fr 7) 0) (h7 : Grows M (fr 7) (tab k fun i => (PV.i .i64 ((tdg (tv ds) i : Nat) : Int)))) (hb : PM.blk M 0 = some ⟨[.b false, .nl], true, 0⟩) :
    WK E0 (rpF z e) rparse_R2 [] fr M := by
  unfold rparse_R2 rparse_R rparse_rest rpF
  simp only [x_skymosaic_skymosaicref03_Parse]
  obtain ⟨ns, f1, f2⟩ := fz_grows h7
  have hb2 := f2 0 _ hb hni
  have hno := p_rnormal neg k (tv ds) hv (by omega)
  have hft := p_rFits (sgn neg (tv ds)) (by
    have : (sgn neg (tv ds)).natAbs = tv ds := by unfold sgn; cases neg <;> simp
    rw [this]
    have := tlen_iff.2 hv; omega)
  have hna : (sgn neg (tv ds)).natAbs = tv ds := by unfold sgn; cases neg <;> simp
  rw [hna] at hft
  have hcz : (nP (sgn neg (tv ds))).cells = [.b (decide (sgn neg (tv ds) < 0)), T (tv ds)] := by unfold nP; rw [hna]; rfl
  have hO : ∀ X, PM.blk (roM M ns ++ [X]) 0 = some ⟨[.b false, .nl], true, 0⟩ := fun X => blk_old hb2 X
  have hlt := blk_lt hb2
  have hset : ∀ X Y, PM.blk ((roM M ns ++ [X]).set 0 (some Y)) 0 = some Y := fun X Y => blk_setE (by simp)
  by_cases hfit : inR (tv ds)
  · have hd : decide (tlen (tv ds) < 1230 ∨ tv ds < 2 ^ 16384) = true := decide_eq_true ((fits_iff _).2 hfit)
    rw [hd] at hft
    rcases hsp with ⟨_, rfl, rfl⟩ | ⟨q, _⟩
    · simp (disch := omega) only [go_sem, seval, wrap_i64, wrap_u64, wrap_u32, wrap_u8, wrap_i32, h2, h3, h4, f1, hno, set_app, blk_app, hO, hft, hset]
    · exact (q hfit).elim
  · have hd : decide (tlen (tv ds) < 1230 ∨ tv ds < 2 ^ 16384) = false := decide_eq_false fun q => hfit ((fits_iff _).1 q)
    rw [hd] at hft
    rcases hsp with ⟨q, _⟩ | ⟨_, rfl, rfl⟩
    · exact (hfit q).elim
    · simp (disch := omega) only [go_sem, seval, wrap_i64, wrap_u64, wrap_u32, wrap_u8, wrap_i32, h2, h3, h4, f1, hno, set_app, blk_app, hO, hft, hset]
      exact congrArg some (by rw [← n_zero]; rfl)
theorem tv_cut {ds : List UInt8} (hd : ds.all isDig = true) {k e : Nat} (he : e + 4 * k = ds.length) : tdg (tv ds) k = tv ((ds.take e).drop (e - 4)) := by
  have sub : ∀ (l : List UInt8), (∀ x ∈ l, x ∈ ds) → l.all isDig = true := fun l h => by
    rw [List.all_eq_true] at hd ⊢; exact fun x hx => hd x (h x hx)
  have h1 : tv ds = tv (ds.take e) * 10 ^ (4 * k) + tv (ds.drop e) := by
    have := tv_app (ds.take e) (ds.drop e)
    rw [List.take_append_drop, List.length_drop, show ds.length - e = 4 * k by omega] at this
    exact this
  have h2 : tv (ds.drop e) < 10 ^ (4 * k) := by
    have := tv_lt (ds.drop e) (sub _ fun x hx => List.mem_of_mem_drop hx)
    rwa [List.length_drop, show ds.length - e = 4 * k by omega] at this
  have h3 : tv (ds.take e) = tv ((ds.take e).take (e - 4)) * 10 ^ (e - (e - 4)) + tv ((ds.take e).drop (e - 4)) := by
    have := tv_app ((ds.take e).take (e - 4)) ((ds.take e).drop (e - 4))
    rw [List.take_append_drop, List.length_drop, List.length_take, Nat.min_eq_left (by omega)] at this
    exact this
  have h4 : tv ((ds.take e).drop (e - 4)) < 10 ^ (e - (e - 4)) := by
    have := tv_lt ((ds.take e).drop (e - 4)) (sub _ fun x hx => List.mem_of_mem_take (List.mem_of_mem_drop hx))
    rwa [List.length_drop, List.length_take, Nat.min_eq_left (by omega)] at this
  rw [tdg_def, show (10000 : Nat) ^ k = 10 ^ (4 * k) by rw [Nat.pow_mul], h1, Nat.mul_comm, Nat.mul_add_div (Nat.pow_pos (by decide)), Nat.div_eq_of_lt h2, Nat.add_zero]
  by_cases hs : 4 ≤ e
  · rw [show e - (e - 4) = 4 by omega] at h3 h4
    rw [h3, show (10 : Nat) ^ 4 = 10000 from rfl] at *
    omega
  · rw [h3, show e - 4 = 0 by omega] at *
    simp only [List.take_zero]
    have : (10 : Nat) ^ (e - 0) ≤ 10 ^ 3 := Nat.pow_le_pow_right (by decide) (by omega)
    have h5 : (10 : Nat) ^ 3 = 1000 := rfl
    show (0 * _ + _) % 10000 = _
    omega
theorem rparse_l2 {neg : Bool} {ds : List UInt8} {z e : Int} (hl : ds.length ≤ 5000) (hd : ds.all isDig = true)
    (hsp : inR (tv ds) ∧ z = sgn neg (tv ds) ∧ e = 0 ∨ ¬ inR (tv ds) ∧ z = 0 ∧ e = 4)
    {fr : PFr} {M : PM} (h2 : fr 2 = .p 0 0) (h3 : fr 3 = .i .i64 0) (h4 : fr 4 = .b neg) (h5 : fr 5 = .s ds) (h7 : fr 7 = .nl) (h8 : fr 8 = (PV.i .i64 ((ds.length : Nat) : Int))) (hb : PM.blk M 0 = some ⟨[.b false, .nl], true, 0⟩) :
    WK E0 (rpF z e) (.loop x_skymosaic_skymosaicref03_Parse_l2) [.block 2, .seq rparse_R2] fr M := by
  refine wk_ind x_skymosaic_skymosaicref03_Parse_l2.eq_1 (fun (k : Nat) fr M => 4 * k < ds.length + 4 ∧ fr 2 = .p 0 0 ∧ fr 3 = .i .i64 0 ∧ fr 4 = .b neg ∧ fr 5 = .s ds ∧ fr 8 = .i .i64 ((ds.length : Int) - 4 * k) ∧ NotIn (fr 7) 0 ∧ Grows M (fr 7) (tab k fun i => (PV.i .i64 ((tdg (tv ds) i : Nat) : Int))) ∧ PM.blk M 0 = some ⟨[.b false, .nl], true, 0⟩) (fun k => ds.length + 4 - 4 * k) ?_ 0 ⟨by omega, h2, h3, h4, h5, by rw [h8]; simp, by rw [h7]; trivial, .inl ⟨rfl, h7⟩, hb⟩
  rintro k fr M ⟨hk, h2, h3, h4, h5, h8, hni, hg, hb⟩ ih
  by_cases hlt : 4 * k < ds.length
  · obtain ⟨e1, he1⟩ : ∃ e1 : Nat, e1 + 4 * k = ds.length := ⟨ds.length - 4 * k, by omega⟩
    have i1 : (ds.length : Int) - 4 * k = (e1 : Int) := by omega
    rw [i1] at h8
    have q1 : ((e1 : Int) > 0) = True := by simp; omega
    have hmm : mmP true (.i .i64 0) [.i .i64 ((e1 : Int) - 4)] = some ((PV.i .i64 ((e1 - 4 : Nat) : Int))) := by
      simp only [mmP, if_true]
      congr 2
      by_cases q : (e1 : Int) - 4 > 0
      · rw [if_pos q]; omega
      · rw [if_neg q]; omega
    have hv := tv_cut hd he1
    simp (disch := omega) only [go_sem, seval, wrap_i64, wrap_u64, wrap_u32, wrap_u8, wrap_i32, h8, q1, hmm]
    refine p_l3 (s := e1 - 4) (e := e1) (A2 := .p 0 0) (A3 := .i .i64 0) (A4 := .b neg) (A7 := fr 7) hd (by omega) (by omega) (by omega) (by omega) (by simp only [go_sem, seval, h2]) (by simp only [go_sem, seval, h3]) (by simp only [go_sem, seval, h4]) (by simp only [go_sem, seval, h5]) (by simp only [go_sem, seval]) (by simp only [go_sem, seval, h8]) (by simp only [go_sem, seval]) (by simp only [go_sem, seval]) fun fr' g2 g3 g4 g5 g7 g8 g9 => ?_
    rw [← hv] at g9
    obtain ⟨v', M', he, hg', hk2⟩ := app_out hg (PV.i .i64 ((tdg (tv ds) k : Nat) : Int)) (by simp; omega)
    rw [tab_snoc k fun i => (PV.i .i64 ((tdg (tv ds) i : Nat) : Int))] at hg'
    obtain ⟨k1, k2⟩ := hk2 0 _ hb hni
    simp (disch := omega) only [go_sem, seval, wrap_i64, wrap_u64, wrap_u32, wrap_u8, wrap_i32, g7, g8, g9, he]
    exact ih (k + 1) _ M' (by omega) ⟨by omega, by simp only [go_sem, seval, g2], by simp only [go_sem, seval, g3], by simp only [go_sem, seval, g4], by simp only [go_sem, seval, g5], by simp only [go_sem, seval]; congr 1; omega, by simp only [go_sem, seval]; exact k2, by simp only [go_sem, seval]; exact hg', k1⟩
  · have q1 : ((ds.length : Int) - 4 * k > 0) = False := by simp; omega
    simp (disch := omega) only [go_sem, seval, wrap_i64, wrap_u64, wrap_u32, wrap_u8, wrap_i32, h8, q1]
    exact rparse_end (k := k) (by omega) (tvT ds hd (by omega)) hsp (by simp only [go_sem, seval, h2]) (by simp only [go_sem, seval, h3]) (by simp only [go_sem, seval, h4]) (by simp only [go_sem, seval]; exact hni) (by simp only [go_sem, seval]; exact hg) hb
theorem rparse_l1 {neg : Bool} {ds : List UInt8} {z e : Int} (hl : ds.length ≤ 5000)
    (hsp : ¬ ds.all isDig = true ∧ z = 0 ∧ e = 2 ∨ ds.all isDig = true ∧ (inR (tv ds) ∧ z = sgn neg (tv ds) ∧ e = 0 ∨ ¬ inR (tv ds) ∧ z = 0 ∧ e = 4))
    {fr : PFr} (h2 : fr 2 = .p 0 0) (h3 : fr 3 = .i .i64 0) (h4 : fr 4 = .b neg) (h5 : fr 5 = .s ds) (h6 : fr 6 = .i .i64 0) :
    WK E0 (rpF z e) (.loop x_skymosaic_skymosaicref03_Parse_l1) [.block 0, .seq rparse_R] fr [some ⟨[.b false, .nl], true, 0⟩] := by
  refine wk_ind x_skymosaic_skymosaicref03_Parse_l1.eq_1 (fun (i : Nat) fr M => i ≤ ds.length ∧ fr 2 = .p 0 0 ∧ fr 3 = .i .i64 0 ∧ fr 4 = .b neg ∧ fr 5 = .s ds ∧ fr 6 = (PV.i .i64 ((i : Nat) : Int)) ∧ (ds.take i).all isDig = true ∧ M = [some ⟨[.b false, .nl], true, 0⟩]) (fun i => ds.length - i) ?_ 0 ⟨by omega, h2, h3, h4, h5, h6, rfl, rfl⟩
  rintro i fr M ⟨hi, h2, h3, h4, h5, h6, ha, rfl⟩ ih
  by_cases hlt : i < ds.length
  · have q1 : ((i : Int) < (ds.length : Int)) = True := by simp; omega
    obtain ⟨c, hc⟩ : ∃ c, ds[i]? = some c := ⟨ds[i], List.getElem?_eq_getElem hlt⟩
    have hg : istrP (.s ds) (some i) = some (.i .u8 (c.toNat : Int)) := by simp [istrP, hc]
    have bad : ¬ isDig c = true → z = 0 ∧ e = 2 := fun hn => by
      rcases hsp with ⟨_, h⟩ | ⟨h, _⟩
      · exact h
      · rw [List.all_eq_true] at h
        exact (hn (h c (List.mem_of_getElem? hc))).elim
    by_cases hc1 : c.toNat < 48
    · obtain ⟨rfl, rfl⟩ := bad (by simp [isDig]; omega)
      have q2 : ((c.toNat : Int) < 48) = True := by simp; omega
      unfold rpF
      simp (disch := omega) only [go_sem, seval, wrap_i64, wrap_u64, wrap_u32, wrap_u8, wrap_i32, h2, h3, h5, h6, q1, hg, q2]
      exact congrArg some (by rw [← n_zero]; rfl)
    · have q2 : ((c.toNat : Int) < 48) = False := by simp; omega
      by_cases hc2 : 57 < c.toNat
      · obtain ⟨rfl, rfl⟩ := bad (by simp [isDig]; omega)
        have q3 : ((c.toNat : Int) > 57) = True := by simp; omega
        unfold rpF
        simp (disch := omega) only [go_sem, seval, wrap_i64, wrap_u64, wrap_u32, wrap_u8, wrap_i32, h2, h3, h5, h6, q1, hg, q2, q3]
        exact congrArg some (by rw [← n_zero]; rfl)
      · have q3 : ((c.toNat : Int) > 57) = False := by simp; omega
        simp (disch := omega) only [go_sem, seval, wrap_i64, wrap_u64, wrap_u32, wrap_u8, wrap_i32, h2, h3, h5, h6, q1, hg, q2, q3]
        refine ih (i + 1) _ _ (by omega) ⟨by omega, by simp only [go_sem, seval, h2], by simp only [go_sem, seval, h3], by simp only [go_sem, seval, h4], by simp only [go_sem, seval, h5], by simp only [go_sem, seval]; rfl, ?_, rfl⟩
        rw [List.take_add_one, hc, List.all_append, ha]
        simp [isDig]; omega
  · have q1 : ((i : Int) < (ds.length : Int)) = False := by simp; omega
    obtain rfl : i = ds.length := by omega
    rw [List.take_length] at ha
    rcases hsp with ⟨h, _⟩ | ⟨_, hsp⟩
    · exact (h ha).elim
    simp (disch := omega) only [go_sem, seval, wrap_i64, wrap_u64, wrap_u32, wrap_u8, wrap_i32, h5, h6, q1]
    show WK E0 (rpF z e) rparse_R [] _ _
    unfold rparse_R rparse_rest
    simp only [x_skymosaic_skymosaicref03_Parse]
    simp (disch := omega) only [go_sem, seval, wrap_i64, wrap_u64, wrap_u32, wrap_u8, wrap_i32, h5]
    exact rparse_l2 hl ha hsp (by simp only [go_sem, seval, h2]) (by simp only [go_sem, seval, h3]) (by simp only [go_sem, seval, h4]) (by simp only [go_sem, seval, h5]) (by simp only [go_sem, seval]) (by simp only [go_sem, seval]) rfl
theorem rparse_key {neg : Bool} {ds : List UInt8} {z e : Int} (hl : ds.length ≤ 5000)
    (hsp : (ds = [] ∨ (ds.head? = some 48 ∧ (neg = true ∨ 1 < ds.length)) ∨ ¬ ds.all isDig = true) ∧ z = 0 ∧ e = 2 ∨
      ds ≠ [] ∧ (ds.head? = some 48 → neg = false ∧ ds.length = 1) ∧ ds.all isDig = true ∧ (inR (tv ds) ∧ z = sgn neg (tv ds) ∧ e = 0 ∨ ¬ inR (tv ds) ∧ z = 0 ∧ e = 4))
    {fr : PFr} (h2 : fr 2 = .p 0 0) (h3 : fr 3 = .i .i64 0) (h4 : fr 4 = .b neg) (h5 : fr 5 = .s ds) :
    WK E0 (rpF z e) rparse_rest [] fr [some ⟨[.b false, .nl], true, 0⟩] := by
  unfold rparse_rest rpF
  simp only [x_skymosaic_skymosaicref03_Parse]
  have zero : PV.ag [.b false, .lst []] = nP 0 := by
    have e0 : T 0 = .lst [] := by unfold T; rw [tlen_zero]; rfl
    unfold nP; rw [Int.natAbs_zero, e0]; rfl
  rcases head_len (l := ds) with rfl | ⟨c, t, rfl⟩
  · rcases hsp with ⟨_, rfl, rfl⟩ | ⟨q, _⟩
    · simp (disch := omega) only [go_sem, seval, wrap_i64, wrap_u64, wrap_u32, wrap_u8, wrap_i32, h2, h3, h4, h5, Int.natCast_zero]
      exact congrArg some (by rw [← zero]; rfl)
    · exact (q rfl).elim
  · have q0 : (((t.length + 1 : Nat) : Int) = 0) = False := by simp; omega
    have bad : (c.toNat = 48 ∧ (neg = true ∨ t ≠ [])) → z = 0 ∧ e = 2 := fun ⟨h48, hh⟩ => by
      have hc : c = 48 := UInt8.toNat_inj.1 h48
      rcases hsp with ⟨_, h⟩ | ⟨_, h, _⟩
      · exact h
      · obtain ⟨g1, g2⟩ := h (by rw [hc]; rfl)
        rcases hh with hh | hh
        · rw [g1] at hh; cases hh
        · cases t with
          | nil => exact (hh rfl).elim
          | cons _ _ => simp at g2
    have rest : ¬ (c.toNat = 48 ∧ (neg = true ∨ t ≠ [])) → (¬ (c :: t).all isDig = true ∧ z = 0 ∧ e = 2 ∨ (c :: t).all isDig = true ∧ (inR (tv (c :: t)) ∧ z = sgn neg (tv (c :: t)) ∧ e = 0 ∨ ¬ inR (tv (c :: t)) ∧ z = 0 ∧ e = 4)) := fun hn => by
      rcases hsp with ⟨h | ⟨h1, h2⟩ | h, h'⟩ | ⟨_, _, h, h'⟩
      · cases h
      · exfalso
        apply hn
        simp only [List.head?_cons, Option.some.injEq] at h1
        refine ⟨by rw [h1]; rfl, ?_⟩
        rcases h2 with h2 | h2
        · exact .inl h2
        · right; rintro rfl; simp at h2
      · exact .inl ⟨h, h'⟩
      · exact .inr ⟨h, h'⟩
    by_cases h48 : c.toNat = 48
    · have q1 : ((c.toNat : Int) = 48) = True := by simp; omega
      cases neg
      · by_cases ht : t = []
        · have q2 : (((t.length + 1 : Nat) : Int) > 1) = False := by subst ht; simp
          simp (disch := omega) only [go_sem, seval, wrap_i64, wrap_u64, wrap_u32, wrap_u8, wrap_i32, h2, h3, h4, h5, q0, q1, q2]
          exact rparse_l1 hl (rest fun q => by rcases q.2 with q | q; cases q; exact q ht) (by simp only [go_sem, seval, h2]) (by simp only [go_sem, seval, h3]) (by simp only [go_sem, seval, h4]) (by simp only [go_sem, seval, h5]) (by simp only [go_sem, seval])
        · have q2 : (((t.length + 1 : Nat) : Int) > 1) = True := by
            cases t with
            | nil => exact (ht rfl).elim
            | cons _ _ => simp; omega
          obtain ⟨rfl, rfl⟩ := bad ⟨h48, .inr ht⟩
          simp (disch := omega) only [go_sem, seval, wrap_i64, wrap_u64, wrap_u32, wrap_u8, wrap_i32, h2, h3, h4, h5, q0, q1, q2]
          exact congrArg some (by rw [← zero]; rfl)
      · obtain ⟨rfl, rfl⟩ := bad ⟨h48, .inl rfl⟩
        simp (disch := omega) only [go_sem, seval, wrap_i64, wrap_u64, wrap_u32, wrap_u8, wrap_i32, h2, h3, h4, h5, q0, q1]
        exact congrArg some (by rw [← zero]; rfl)
    · have q1 : ((c.toNat : Int) = 48) = False := by simp; omega
      simp (disch := omega) only [go_sem, seval, wrap_i64, wrap_u64, wrap_u32, wrap_u8, wrap_i32, h2, h3, h4, h5, q0, q1]
      exact rparse_l1 hl (rest fun q => h48 q.1) (by simp only [go_sem, seval, h2]) (by simp only [go_sem, seval, h3]) (by simp only [go_sem, seval, h4]) (by simp only [go_sem, seval, h5]) (by simp only [go_sem, seval])
theorem parseT_cases (s : List UInt8) : (5000 < s.length ∧ parseT s = (0, 4)) ∨ (s.length ≤ 5000 ∧ ∃ neg ds, ((neg = true ∧ s = 45 :: ds) ∨ (neg = false ∧ s = ds ∧ ds.head? ≠ some 45)) ∧
    ((ds = [] ∨ (ds.head? = some 48 ∧ (neg = true ∨ 1 < ds.length)) ∨ ¬ ds.all isDig = true) ∧ parseT s = (0, 2) ∨
      ds ≠ [] ∧ (ds.head? = some 48 → neg = false ∧ ds.length = 1) ∧ ds.all isDig = true ∧ (inR (tv ds) ∧ parseT s = (sgn neg (tv ds), 0) ∨ ¬ inR (tv ds) ∧ parseT s = (0, 4)))) := by
  by_cases hl : 5000 < s.length
  · exact .inl ⟨hl, by unfold parseT; simp only [hl, if_true]⟩
  · right
    refine ⟨by omega, s.head? == some 45, if (s.head? == some 45) then s.drop 1 else s, ?_, ?_⟩
    · by_cases h : s.head? = some 45
      · left
        rw [h]
        refine ⟨rfl, ?_⟩
        cases s with
        | nil => cases h
        | cons c t => simp only [List.head?_cons, Option.some.injEq] at h; subst h; rfl
      · right
        have : (s.head? == some 45) = false := by simpa using h
        rw [this]
        exact ⟨rfl, by simp, by simpa using h⟩
    · have e : parseT s = (if (if (s.head? == some 45) then s.drop 1 else s) = [] ∨ ((if (s.head? == some 45) then s.drop 1 else s).head? = some 48 ∧ ((s.head? == some 45) = true ∨ 1 < (if (s.head? == some 45) then s.drop 1 else s).length)) ∨ ¬ (if (s.head? == some 45) then s.drop 1 else s).all isDig = true then (0, 2)
          else if inR (tv (if (s.head? == some 45) then s.drop 1 else s)) then (sgn (s.head? == some 45) (tv (if (s.head? == some 45) then s.drop 1 else s)), 0) else (0, 4)) := by
        unfold parseT
        simp only [hl, if_false]
      rw [e]
      generalize (if (s.head? == some 45) = true then s.drop 1 else s) = ds
      generalize (s.head? == some 45) = neg
      by_cases h1 : ds = [] ∨ (ds.head? = some 48 ∧ (neg = true ∨ 1 < ds.length)) ∨ ¬ ds.all isDig = true
      · exact .inl ⟨h1, by rw [if_pos h1]⟩
      · right
        rw [if_neg h1]
        have n1 : ds ≠ [] := fun q => h1 (.inl q)
        refine ⟨n1, fun q => ?_, ?_, ?_⟩
        · have h2 : ¬ (neg = true ∨ 1 < ds.length) := fun r => h1 (.inr (.inl ⟨q, r⟩))
          have h3 : ds.length ≠ 0 := fun r => n1 (List.eq_nil_of_length_eq_zero r)
          refine ⟨?_, ?_⟩
          · cases neg
            · rfl
            · exact (h2 (.inl rfl)).elim
          · have : ¬ 1 < ds.length := fun r => h2 (.inr r)
            omega
        · by_cases q : ds.all isDig = true
          · exact q
          · exact (h1 (.inr (.inr q))).elim
        · by_cases h3 : inR (tv ds)
          · exact .inl ⟨h3, by rw [if_pos h3]⟩
          · exact .inr ⟨h3, by rw [if_neg h3]⟩
theorem p_rParse (s : List UInt8) (hs : s.length < 4611686018427387904) : pf E0 111 [.s s] = some (.tu [nP (parseT s).1, .i .i64 (parseT s).2]) := by
  refine pf_run (xf := x_skymosaic_skymosaicref03_Parse) rfl (by simp [x_skymosaic_skymosaicref03_Parse]) ?_
  rw [rparse_body, show x_skymosaic_skymosaicref03_Parse.res = [.cell 2 true 2, .tmp 3] from rfl]
  rcases parseT_cases s with ⟨hl, hp⟩ | ⟨hl, neg, ds, hsg, hsp⟩
  · rw [hp]
    simp only [rparse_1, rparse_2, rparse_3, rparse_4, rparse_5, x_skymosaic_skymosaicref03_Parse]
    have q1 : ((s.length : Int) > 5000) = True := by simp; omega
    simp (disch := omega) only [go_sem, seval, wrap_i64, wrap_u64, wrap_u32, wrap_u8, wrap_i32, q1]
    try exact congrArg some (by rw [← n_zero]; rfl)
  · have hdl : ds.length ≤ 5000 := by
      rcases hsg with ⟨_, rfl⟩ | ⟨_, rfl, _⟩
      · simp at hl; omega
      · exact hl
    have q1 : ((s.length : Int) > 5000) = False := by simp; omega
    have fin : ∀ {fr : PFr}, fr 2 = .p 0 0 → fr 3 = .i .i64 0 → fr 4 = .b neg → fr 5 = .s ds → WK E0 (rpF (parseT s).1 (parseT s).2) rparse_rest [] fr [some ⟨[.b false, .nl], true, 0⟩] := fun {fr} a b c d =>
      rparse_key hdl (by
        rcases hsp with ⟨h, h2⟩ | ⟨h1, h2, h3, ⟨h4, h5⟩ | ⟨h4, h5⟩⟩
        · exact .inl ⟨h, by rw [h2], by rw [h2]⟩
        · exact .inr ⟨h1, h2, h3, .inl ⟨h4, by rw [h5], by rw [h5]⟩⟩
        · exact .inr ⟨h1, h2, h3, .inr ⟨h4, by rw [h5], by rw [h5]⟩⟩) a b c d
    generalize (parseT s).1 = z at *
    generalize (parseT s).2 = e at *
    rcases hsg with ⟨rfl, rfl⟩ | ⟨rfl, rfl, h45⟩
    · have hc : slStrP (45 :: ds) (some (.i .i64 1)) none = some (.s ds) := by
        simp only [slStrP, optP, show (PV.i IntKind.i64 1) = .i .i64 ((1 : Nat) : Int) from rfl, asNP_nat]
        rw [if_pos ⟨by simp, Nat.le_refl _⟩]
        simp
      have q2 : ((45 : UInt8).toNat : Int) = 45 := rfl
      have q3 : (((ds.length + 1 : Nat) : Int) > 0) = True := by simp
      have q1' : (((ds.length + 1 : Nat) : Int) > 5000) = False := by simpa using q1
      simp only [rparse_1, rparse_2, rparse_3, rparse_4, rparse_5, x_skymosaic_skymosaicref03_Parse]
      simp (disch := omega) only [go_sem, seval, wrap_i64, wrap_u64, wrap_u32, wrap_u8, wrap_i32, q1', q2, q3, hc]
      exact fin (by simp only [go_sem, seval]) (by simp only [go_sem, seval]) (by simp only [go_sem, seval]) (by simp only [go_sem, seval])
    · cases s with
      | nil =>
        simp only [rparse_1, rparse_2, rparse_3, rparse_4, rparse_5, x_skymosaic_skymosaicref03_Parse]
        simp (disch := omega) only [go_sem, seval, wrap_i64, wrap_u64, wrap_u32, wrap_u8, wrap_i32, Int.natCast_zero]
        exact fin (by simp only [go_sem, seval]) (by simp only [go_sem, seval]) (by simp only [go_sem, seval]) (by simp only [go_sem, seval])
      | cons c t =>
        have q2 : ((c.toNat : Int) = 45) = False := by
          simp only [eq_iff_iff, iff_false]
          intro q
          apply h45
          have : c = 45 := UInt8.toNat_inj.1 (show c.toNat = 45 by omega)
          rw [this]; rfl
        have q3 : (((t.length + 1 : Nat) : Int) > 0) = True := by simp
        have q1' : (((t.length + 1 : Nat) : Int) > 5000) = False := by simpa using q1
        simp only [rparse_1, rparse_2, rparse_3, rparse_4, rparse_5, x_skymosaic_skymosaicref03_Parse]
        simp (disch := omega) only [go_sem, seval, wrap_i64, wrap_u64, wrap_u32, wrap_u8, wrap_i32, q1', q2, q3]
        exact fin (by simp only [go_sem, seval]) (by simp only [go_sem, seval]) (by simp only [go_sem, seval]) (by simp only [go_sem, seval])
end Go.Eng
namespace Go.Eng
theorem p_HasPrefix (s : List UInt8) (hs : s.length < 4611686018427387904) : pf E0 85 [.s s, .s [45]] = some (.b (s.head? == some 45)) := by
  refine pf_run (xf := x_internal_stringslite_HasPrefix) rfl (by simp [x_internal_stringslite_HasPrefix]) ?_
  simp only [x_internal_stringslite_HasPrefix]
  cases s with
  | nil =>
    have q1 : (((0 : Nat) : Int) ≥ 1) = False := by simp
    simp (disch := omega) only [go_sem, seval, wrap_i64, wrap_u64, wrap_u32, wrap_u8, wrap_i32, Int.natCast_one, q1, Int.natCast_zero, Int.reduceLE, ge_iff_le]
    rfl
  | cons c t =>
    have q1 : (((t.length + 1 : Nat) : Int) ≥ 1) = True := by simp; omega
    have hc : slStrP (c :: t) none (some (.i .i64 1)) = some (.s [c]) := by
      simp only [slStrP, optP, show (PV.i IntKind.i64 1) = .i .i64 ((1 : Nat) : Int) from rfl, asNP_nat]
      rw [if_pos ⟨by omega, by simp⟩]; rfl
    simp (disch := omega) only [go_sem, seval, wrap_i64, wrap_u64, wrap_u32, wrap_u8, wrap_i32, Int.natCast_one, q1, hc]
    congr 2
    by_cases h : c = 45
    · subst h; rfl
    · have : (some c == some (45 : UInt8)) = false := by simpa using h
      simp [h, this]
theorem p_CutPrefix {neg : Bool} {s ds : List UInt8} (hs : s.length < 4611686018427387904) (h : (neg = true ∧ s = 45 :: ds) ∨ (neg = false ∧ s = ds ∧ ds.head? ≠ some 45)) : pf E0 129 [.s s, .s [45]] = some (.tu [.s ds, .b neg]) := by
  have inner : pf E0 137 [.s s, .s [45]] = some (.tu [.s ds, .b neg]) := by
    refine pf_run (xf := x_internal_stringslite_CutPrefix) rfl (by simp [x_internal_stringslite_CutPrefix]) ?_
    simp only [x_internal_stringslite_CutPrefix]
    have hp := p_HasPrefix s hs
    rcases h with ⟨rfl, rfl⟩ | ⟨rfl, rfl, h45⟩
    · have e : ((45 :: ds).head? == some (45 : UInt8)) = true := rfl
      rw [e] at hp
      have hc : slStrP (45 :: ds) (some (.i .i64 1)) none = some (.s ds) := by
        simp only [slStrP, optP, show (PV.i IntKind.i64 1) = .i .i64 ((1 : Nat) : Int) from rfl, asNP_nat]
        rw [if_pos ⟨by simp, Nat.le_refl _⟩]
        simp
      simp (disch := omega) only [go_sem, seval, wrap_i64, wrap_u64, wrap_u32, wrap_u8, wrap_i32, hp, Int.natCast_one, hc]
    · have e : (s.head? == some (45 : UInt8)) = false := by simpa using h45
      rw [e] at hp
      simp (disch := omega) only [go_sem, seval, wrap_i64, wrap_u64, wrap_u32, wrap_u8, wrap_i32, hp]
  refine pf_run (xf := x_strings_CutPrefix) rfl (by simp [x_strings_CutPrefix]) ?_
  simp only [x_strings_CutPrefix]
  simp (disch := omega) only [go_sem, seval, wrap_i64, wrap_u64, wrap_u32, wrap_u8, wrap_i32, inner]
set_option maxRecDepth 20000 in
theorem trim_dig (ds : List UInt8) : ((((ds.reverse.dropWhile (([48, 49, 50, 51, 52, 53, 54, 55, 56, 57] : List UInt8).contains ·)).reverse).dropWhile (([48, 49, 50, 51, 52, 53, 54, 55, 56, 57] : List UInt8).contains ·)) = []) = (ds.all isDig = true) := by
  have hc : ∀ c : UInt8, ([48, 49, 50, 51, 52, 53, 54, 55, 56, 57] : List UInt8).contains c = isDig c := fun c => by
    have h : ∀ n : Fin 256, ([48, 49, 50, 51, 52, 53, 54, 55, 56, 57] : List UInt8).contains (UInt8.ofNat n.val) = isDig (UInt8.ofNat n.val) := by decide
    have h2 := h ⟨c.toNat, c.toNat_lt⟩
    simpa using h2
  simp only [hc]
  have aux : ∀ l : List UInt8, l.dropWhile isDig = [] ↔ l.all isDig = true := fun l => by
    induction l with
    | nil => simp
    | cons c l ih =>
      rw [List.dropWhile_cons, List.all_cons, Bool.and_eq_true]
      by_cases h : isDig c = true
      · rw [if_pos h, ih]; simp [h]
      · rw [if_neg h]; simp [h]
  apply propext
  rw [aux, List.all_reverse]
  constructor
  · intro h
    by_cases hd : ds.all isDig = true
    · exact hd
    · exfalso
      have h1 : ds.reverse.dropWhile isDig ≠ [] := fun q => hd (by rw [← List.all_reverse]; exact (aux _).1 q)
      obtain ⟨c, t, he⟩ : ∃ c t, ds.reverse.dropWhile isDig = c :: t := by
        cases hq : ds.reverse.dropWhile isDig with
        | nil => exact (h1 hq).elim
        | cons c t => exact ⟨c, t, rfl⟩
      have h2 := List.head?_dropWhile_not isDig ds.reverse
      rw [he] at h h2
      simp only [List.head?_cons] at h2
      simp only [List.all_cons, Bool.and_eq_true] at h
      rw [h.1] at h2
      simp at h2
  · intro hd
    have : ds.reverse.dropWhile isDig = [] := (aux _).2 (by rw [List.all_reverse]; exact hd)
    rw [this]; rfl
theorem trim_ex (ds : List UInt8) (h : ds.length ≤ 9223372036854775807) : ∃ t, (t = [] ↔ ds.all isDig = true) ∧ pf E0 130 [.s ds, .s [48, 49, 50, 51, 52, 53, 54, 55, 56, 57]] = some (.s t) := by
  refine ⟨_, by rw [← trim_dig ds], porc_130 ?_ rfl⟩
  simp only [orcP, libP]
  rw [if_neg (by decide), if_pos ⟨trivial, h, by decide, by decide⟩]
  rfl
theorem atoi_cl {l : List UInt8} (h0 : l ≠ []) (h1 : l.length ≤ 18) (h2 : l.all isDig = true) : pf E0 131 [.s l] = some (.tu [.i .i64 (tv l : Nat), .inil]) := by
  refine porc_131 ?_ rfl
  simp only [orcP, libP]
  rw [if_neg (by decide), if_pos ⟨trivial, h0, h1, h2⟩]
  rfl
theorem w_one {v : Nat} (h : v < 4294967296) : PV.lst [(PV.i .u32 ((v : Nat) : Int))] = Dw 1 v := by
  have e : tab 1 (fun k => (PV.i .u32 ((dgt v k : Nat) : Int))) = [(PV.i .u32 ((dgt v 0 : Nat) : Int))] := rfl
  rw [Dw, e, dgt_z, Nat.mod_eq_of_lt h]
theorem dlen_wl {v n : Nat} (h : v < 10 ^ n) : wlen v ≤ n := by
  rw [wlen_iff]
  exact Nat.lt_of_lt_of_le h (Nat.pow_le_pow_left (by decide) n)
def wparse_R : XC := match x_skymosaic_wide_Parse.body with
  | .seq _ (.seq _ (.seq _ (.seq _ (.seq _ (.seq _ r))))) => r
  | _ => .skip
theorem wparse_l1 {F : PFin} {ds : List UInt8} (hl : ds.length ≤ 5000) (hd : ds.all isDig = true) {fr : PFr} {B : PB} {neg : Bool} (h2 : fr 2 = .p 0 0) (h4 : fr 4 = .s ds) (h5 : fr 5 = .b neg) (h6 : fr 6 = .nl)
    (cont : ∀ (fr' : PFr) (M' : PM), fr' 2 = .p 0 0 → fr' 5 = .b neg → (∀ M d, fz M (d + 1) (fr' 6) = some (D (tv ds), [])) → PM.blk M' 0 = some B → WK E0 F wparse_R [] fr' M') :
    WK E0 F (.loop x_skymosaic_wide_Parse_l1) [.block 0, .seq wparse_R] fr [some B] := by
  refine wk_ind x_skymosaic_wide_Parse_l1.eq_1 (fun (x : Nat × List UInt8) fr M => x.2.length ≤ ds.length ∧ x.2.all isDig = true ∧ (x.1 = 0 ∨ x.2.length % 9 = 0) ∧ x.1 * 10 ^ x.2.length + tv x.2 = tv ds ∧ fr 2 = .p 0 0 ∧ fr 4 = .s x.2 ∧ fr 5 = .b neg ∧ (∀ M d, fz M (d + 1) (fr 6) = some (D x.1, [])) ∧ PM.blk M 0 = some B) (fun x => x.2.length) ?_ (0, ds) ⟨Nat.le_refl _, hd, .inl rfl, by simp, h2, h4, h5, fun M d => by rw [h6]; rfl, rfl⟩
  rintro ⟨m, rs⟩ fr M ⟨hrl, hrd, h9, hv, h2, h4, h5, h6, hb⟩ ih
  simp only at hrl hrd h9 hv h4 h6 ih
  cases rs with
  | nil =>
    have hm : m = tv ds := by simpa [tv] using hv
    subst hm
    simp (disch := omega) only [go_sem, seval, wrap_i64, wrap_u64, wrap_u32, wrap_u8, wrap_i32, h4, Int.natCast_zero, Int.lt_irrefl, gt_iff_lt]
    exact cont _ _ (by simp only [go_sem, seval, h2]) (by simp only [go_sem, seval, h5]) (fun M d => by simp only [go_sem, seval]; exact h6 M d) hb
  | cons c t =>
    have htl : t.length < 5000 := by simp only [List.length_cons] at hrl; omega
    obtain ⟨n, hn⟩ : ∃ n, n = t.length % 9 + 1 := ⟨_, rfl⟩
    have hn9 : n ≤ 9 := by omega
    have hnl : n ≤ (c :: t).length := by simp; omega
    have q1 : (((t.length + 1 : Nat) : Int) > 0) = True := by simp
    have i1 : (((t.length + 1 : Nat) : Int) - 1) = ((t.length : Nat) : Int) := by omega
    have i2 : ((t.length : Int)).tmod 9 = ((t.length % 9 : Nat) : Int) := nat_tmod t.length 9
    have i3 : ((t.length % 9 : Nat) : Int) + 1 = (n : Int) := by omega
    obtain ⟨a, ha⟩ : ∃ a, a = (c :: t).take n := ⟨_, rfl⟩
    obtain ⟨b, hbb⟩ : ∃ b, b = (c :: t).drop n := ⟨_, rfl⟩
    have hal : a.length = n := by rw [ha, List.length_take]; omega
    have hbl : b.length = (c :: t).length - n := by rw [hbb, List.length_drop]
    have hab : c :: t = a ++ b := by rw [ha, hbb, List.take_append_drop]
    have had : a.all isDig = true := by rw [hab, List.all_append, Bool.and_eq_true] at hrd; exact hrd.1
    have hbd : b.all isDig = true := by rw [hab, List.all_append, Bool.and_eq_true] at hrd; exact hrd.2
    have hc1 : slStrP (c :: t) none (some (.i .i64 (n : Int))) = some (.s a) := by
      simp only [slStrP, optP, asNP_nat]
      rw [if_pos ⟨by omega, hnl⟩, List.drop_zero, ha]
    have hc2 : slStrP (c :: t) (some (.i .i64 (n : Int))) none = some (.s b) := by
      simp only [slStrP, optP, asNP_nat]
      rw [if_pos ⟨hnl, Nat.le_refl _⟩, List.take_length, hbb]
    have hat := atoi_cl (l := a) (by intro q; rw [q] at hal; simp at hal; omega) (by omega) had
    have hav : tv a < 1000000000 := Nat.lt_of_lt_of_le (tv_lt a had) (by rw [hal]; exact Nat.pow_le_pow_right (by decide) hn9)
    have hvd := tv_lt ds hd
    have hmv : m < 10 ^ ds.length := by
      have : m * 1 ≤ m * 10 ^ (c :: t).length := Nat.mul_le_mul_left _ (Nat.pow_pos (by decide))
      omega
    have hml := dlen_wl hmv
    have hmlt := wlen_lt m
    have h59 : pf E0 59 [D m, Dw 1 1000000000] = some (Dw (wlen m + 1) (m * 1000000000)) := p_times' hmlt (by decide) (by omega) (by omega)
    have hmm : m * 1000000000 < 4294967296 ^ (wlen m + 1) := by rw [Nat.pow_succ]; exact Nat.mul_lt_mul'' hmlt (by decide)
    have h40 : pf E0 40 [Dw (wlen m + 1) (m * 1000000000), Dw 1 (tv a)] = some (Dw (max (wlen m + 1) 1 + 1) (m * 1000000000 + tv a)) := p_sum hmm (by omega) (by omega) (by omega)
    have hsl : m * 1000000000 + tv a < 4294967296 ^ (max (wlen m + 1) 1 + 1) := by
      rw [Nat.max_eq_left (by omega)]
      have h1 : m * 1000000000 + tv a < (m + 1) * 1000000000 := by rw [Nat.add_mul, Nat.one_mul]; exact Nat.add_lt_add_left hav _
      have h2 : (m + 1) * 1000000000 ≤ 4294967296 ^ wlen m * 4294967296 := by
        refine Nat.mul_le_mul (Nat.succ_le_of_lt hmlt) ?_
        omega
      rw [← Nat.pow_succ] at h2
      exact Nat.lt_of_lt_of_le h1 (Nat.le_trans h2 (Nat.pow_le_pow_right (by decide) (by omega)))
    have h49 : pf E0 49 [Dw (max (wlen m + 1) 1 + 1) (m * 1000000000 + tv a)] = some (D (m * 1000000000 + tv a)) := p_normal' hsl (by omega)
    have w1 : PV.lst [.i .u32 1000000000] = Dw 1 1000000000 := w_one (v := 1000000000) (by decide)
    have w2 : PV.lst [(PV.i .u32 ((tv a : Nat) : Int))] = Dw 1 (tv a) := w_one (by omega)
    simp (disch := omega) only [go_sem, seval, wrap_i64, wrap_u64, wrap_u32, wrap_u8, wrap_i32, h4, q1, i1, i2, i3, hc1, hc2, hat, h6, w1, h59, blk_app, group, List.headD_cons, w2, h40, h49, set_app]
    have hnew : (m * 1000000000 + tv a) * 10 ^ b.length + tv b = tv ds := by
      rw [← hv, hab, tv_app, List.length_append, Nat.pow_add, hal]
      rcases h9 with h9 | h9
      · rw [h9]; simp
      · have : n = 9 := by simp only [List.length_cons] at h9; omega
        rw [this]
        show (m * 10 ^ 9 + tv a) * 10 ^ b.length + tv b = m * (10 ^ 9 * 10 ^ b.length) + (tv a * 10 ^ b.length + tv b)
        rw [Nat.add_mul, Nat.mul_assoc]; omega
    have hb9 : b.length % 9 = 0 := by rw [hbl]; simp only [List.length_cons]; omega
    refine ih (m * 1000000000 + tv a, b) _ _ (by rw [hbl]; simp only [List.length_cons]; omega) ⟨by simp only; omega, hbd, .inr hb9, hnew, by simp only [go_sem, seval, h2], by simp only [go_sem, seval], by simp only [go_sem, seval, h5], fun M d => by simp only [go_sem, seval], ?_⟩
    refine blk_old (blk_old hb _) _
theorem p_Parse (s : List UInt8) (hs : s.length < 4611686018427387904) : pf E0 110 [.s s] = some (.tu [wiP (clip (parseT s).1), .i .i64 (parseT s).2]) := by
  refine pf_run (xf := x_skymosaic_wide_Parse) rfl (by simp [x_skymosaic_wide_Parse]) ?_
  have c0 : clip 0 = wi0 := clip_ok (z := 0) (by simp [wlen_zero])
  rcases parseT_cases s with ⟨hl, hp⟩ | ⟨hl, neg, ds, hsg, hsp⟩
  · rw [hp, c0]
    simp only [x_skymosaic_wide_Parse]
    have q1 : ((s.length : Int) > 5000) = True := by simp; omega
    simp (disch := omega) only [go_sem, seval, wrap_i64, wrap_u64, wrap_u32, wrap_u8, wrap_i32, q1]
  · have hdl : ds.length ≤ 5000 := by
      rcases hsg with ⟨_, rfl⟩ | ⟨_, rfl, _⟩
      · simp at hl; omega
      · exact hl
    have q1 : ((s.length : Int) > 5000) = False := by simp; omega
    have hcp := p_CutPrefix hs hsg
    obtain ⟨t, ht1, ht2⟩ := trim_ex ds (by omega)
    have good : ds.all isDig = true → (inR (tv ds) ∧ parseT s = (sgn neg (tv ds), 0) ∨ ¬ inR (tv ds) ∧ parseT s = (0, 4)) → ∀ {fr : PFr}, fr 2 = .p 0 0 → fr 4 = .s ds → fr 5 = .b neg → fr 6 = .nl →
        WK E0 ⟨[.cell 2 true 2, .tmp 3], fun w M2 => (fz M2 fzD w).map Prod.fst = some (.tu [wiP (clip (parseT s).1), .i .i64 (parseT s).2])⟩ (.loop x_skymosaic_wide_Parse_l1) [.block 0, .seq wparse_R] fr [some ⟨[.b false, .nl], true, 0⟩] := fun hd hp {fr} h2 h4 h5 h6 => by
      refine wparse_l1 hdl hd h2 h4 h5 h6 fun fr' M' g2 g5 g6 gb => ?_
      unfold wparse_R
      simp only [x_skymosaic_wide_Parse]
      have hsi := p_signed neg (wlen (tv ds)) (tv ds) (wlen_lt _) (by have := dlen_wl (tv_lt ds hd); omega)
      have hlt := blk_lt gb
      have hset : ∀ Y, PM.blk (List.set M' 0 (some Y)) 0 = some Y := fun Y => blk_setE hlt
      have hres : parseT s = ((if inR (tv ds) then (if neg then -(tv ds : Int) else (tv ds : Int)) else 0), lerr (tv ds : Int)) := by
        rcases hp with ⟨h1, h2⟩ | ⟨h1, h2⟩
        · rw [h2, if_pos h1, lerr_ok (by simpa using (wide_iff _).2 h1)]; rfl
        · rw [h2, if_neg h1, lerr_no (by simpa using fun q => h1 ((wide_iff _).1 q))]
      have hcl : clip (if neg then -(tv ds : Int) else (tv ds : Int)) = clip (parseT s).1 := by
        rw [hres]
        by_cases h1 : inR (tv ds)
        · simp only [if_pos h1]
        · simp only [if_neg h1]
          rw [clip_no, c0]
          cases neg <;> simp <;> exact Nat.lt_of_not_le fun q => h1 ((wide_iff _).1 q)
      rw [hcl] at hsi
      have he : lerr (tv ds : Int) = (parseT s).2 := by rw [hres]
      rw [he] at hsi
      simp (disch := omega) only [go_sem, seval, wrap_i64, wrap_u64, wrap_u32, wrap_u8, wrap_i32, g2, g5, g6, hsi, gb, hset]
    simp only [x_skymosaic_wide_Parse]
    rcases head_len (l := ds) with rfl | ⟨c, r, rfl⟩
    · have hp : parseT s = (0, 2) := by
        rcases hsp with ⟨_, h⟩ | ⟨h, _⟩
        · exact h
        · exact (h rfl).elim
      rw [hp, c0]
      simp (disch := omega) only [go_sem, seval, wrap_i64, wrap_u64, wrap_u32, wrap_u8, wrap_i32, q1, hcp]
    · have q0 : (c :: r = []) = False := by simp
      by_cases ha : (c :: r).all isDig = true
      · have htn : (t = []) = True := by simp [ht1.2 ha]
        have hts : (t ≠ []) = False := by simp [ht1.2 ha]
        by_cases h48 : c.toNat = 48
        · have q2 : ((c.toNat : Int) = 48) = True := by simp; omega
          have hc : c = 48 := UInt8.toNat_inj.1 h48
          cases neg
          · by_cases hr : r = []
            · have q3 : (((r.length + 1 : Nat) : Int) > 1) = False := by subst hr; simp
              have hp : inR (tv (c :: r)) ∧ parseT s = (sgn false (tv (c :: r)), 0) ∨ ¬ inR (tv (c :: r)) ∧ parseT s = (0, 4) := by
                rcases hsp with ⟨h | ⟨_, h | h⟩ | h, _⟩ | ⟨_, _, _, h⟩
                · cases h
                · cases h
                · subst hr; simp at h
                · exact (h ha).elim
                · exact h
              simp (disch := omega) only [go_sem, seval, wrap_i64, wrap_u64, wrap_u32, wrap_u8, wrap_i32, q1, hcp, q0, ht2, htn, q2, q3]
              exact good ha hp (by simp only [go_sem, seval]) (by simp only [go_sem, seval]) (by simp only [go_sem, seval]) (by simp only [go_sem, seval])
            · have q3 : (((r.length + 1 : Nat) : Int) > 1) = True := by
                cases r with
                | nil => exact (hr rfl).elim
                | cons _ _ => simp; omega
              have hp : parseT s = (0, 2) := by
                rcases hsp with ⟨_, h⟩ | ⟨_, h, _⟩
                · exact h
                · have := (h (by rw [hc]; rfl)).2
                  cases r with
                  | nil => exact (hr rfl).elim
                  | cons _ _ => simp at this
              rw [hp, c0]
              simp (disch := omega) only [go_sem, seval, wrap_i64, wrap_u64, wrap_u32, wrap_u8, wrap_i32, q1, hcp, q0, ht2, htn, q2, q3]
          · have hp : parseT s = (0, 2) := by
              rcases hsp with ⟨_, h⟩ | ⟨_, h, _⟩
              · exact h
              · have := (h (by rw [hc]; rfl)).1
                cases this
            rw [hp, c0]
            simp (disch := omega) only [go_sem, seval, wrap_i64, wrap_u64, wrap_u32, wrap_u8, wrap_i32, q1, hcp, q0, ht2, htn, q2]
        · have q2 : ((c.toNat : Int) = 48) = False := by simp; omega
          have hp : inR (tv (c :: r)) ∧ parseT s = (sgn neg (tv (c :: r)), 0) ∨ ¬ inR (tv (c :: r)) ∧ parseT s = (0, 4) := by
            rcases hsp with ⟨h | ⟨h, _⟩ | h, _⟩ | ⟨_, _, _, h⟩
            · cases h
            · simp only [List.head?_cons, Option.some.injEq] at h; rw [h] at h48; exact (h48 rfl).elim
            · exact (h ha).elim
            · exact h
          simp (disch := omega) only [go_sem, seval, wrap_i64, wrap_u64, wrap_u32, wrap_u8, wrap_i32, q1, hcp, q0, ht2, htn, q2]
          exact good ha hp (by simp only [go_sem, seval]) (by simp only [go_sem, seval]) (by simp only [go_sem, seval]) (by simp only [go_sem, seval])
      · have htn : (t = []) = False := by simp only [eq_iff_iff, iff_false]; exact fun q => ha (ht1.1 q)
        have hp : parseT s = (0, 2) := by
          rcases hsp with ⟨_, h⟩ | ⟨_, _, h, _⟩
          · exact h
          · exact (ha h).elim
        rw [hp, c0]
        simp (disch := omega) only [go_sem, seval, wrap_i64, wrap_u64, wrap_u32, wrap_u8, wrap_i32, q1, hcp, q0, ht2, htn]
end Go.Eng
namespace Go.Eng
theorem dec_head {v : Nat} (h : v ≠ 0) : ∃ c t, dec v = c :: t ∧ 49 ≤ c.toNat ∧ c.toNat ≤ 57 ∧ (c :: t).length = dlen v := by
  have h1 := dlen_lt v
  have h0 : dlen v ≠ 0 := fun q => by rw [q] at h1; simp at h1; omega
  obtain ⟨n, hn⟩ : ∃ n, dlen v = n + 1 := ⟨dlen v - 1, by omega⟩
  have h2 : ¬ v < 10 ^ n := fun q => by have := dlen_iff.2 q; omega
  have e : dec v = UInt8.ofNat (48 + v / 10 ^ n % 10) :: dtx n v := by rw [dec_dtx h, hn]; rfl
  have hp : 0 < 10 ^ n := Nat.pow_pos (by decide)
  have h3 : v / 10 ^ n < 10 := by
    rw [Nat.div_lt_iff_lt_mul hp, Nat.mul_comm, ← Nat.pow_succ, show n.succ = dlen v from hn.symm]; exact h1
  have h4 : 0 < v / 10 ^ n := Nat.div_pos (by omega) hp
  have ht : (UInt8.ofNat (48 + v / 10 ^ n % 10)).toNat = 48 + v / 10 ^ n % 10 := dch _ (by omega)
  exact ⟨_, _, e, by rw [ht]; omega, by rw [ht]; omega, by rw [hn]; simp⟩
theorem dec_inj {v w : Nat} (h : dec v = dec w) : v = w := by
  have := congrArg tv h
  rwa [tv_dec, tv_dec] at this
theorem dec_45 (v : Nat) : ∀ l, dec v ≠ 45 :: l := fun l q => by
  by_cases h : v = 0
  · subst h; cases q
  · obtain ⟨c, t, e, h1, _⟩ := dec_head h
    rw [e] at q; cases q
    revert h1; decide
theorem decI_inj {z w : Int} (h : decI z = decI w) : z = w := by
  unfold decI at h
  split at h <;> split at h
  · have := dec_inj (List.cons.inj h).2; omega
  · exact (dec_45 _ _ h.symm).elim
  · exact (dec_45 _ _ h).elim
  · have := dec_inj h; omega
theorem two_bound {n K : Nat} (hn : n = 177) (hK : K = 16384) : 2 ^ K ≤ 10 ^ (28 * n) := by
  have e1 : (2 : Nat) ^ K ≤ (2 ^ 93) ^ n := by
    rw [← Nat.pow_mul 2]
    exact Nat.pow_le_pow_right (by decide) (by omega)
  have e2 : ((2 : Nat) ^ 93) ^ n ≤ (10 ^ 28) ^ n := Nat.pow_le_pow_left (by decide) n
  rw [← Nat.pow_mul 10] at e2
  exact Nat.le_trans e1 e2
theorem two_pos (K : Nat) : 0 < 2 ^ K := Nat.pow_pos (by decide)
theorem inR_zero : inR 0 := two_pos 16384
theorem inR_dlen {v : Nat} (h : inR v) : dlen v ≤ 4956 := by
  obtain ⟨n, hn⟩ : ∃ n, n = 177 := ⟨_, rfl⟩
  have e := two_bound (K := 16384) hn rfl
  have h : v < 2 ^ 16384 := h
  have := dlen_iff.2 (Nat.lt_of_lt_of_le h e)
  omega
theorem parseT_dec (z : Int) : parseT (decI z) = if inR z.natAbs then (z, 0) else (0, 4) := by
  by_cases h0 : z = 0
  · subst h0
    have h1 : inR (0 : Int).natAbs := inR_zero
    have h2 : decI 0 = [48] := rfl
    rw [if_pos h1, h2]
    have h3 : inR (tv [48]) := h1
    unfold parseT
    rw [if_neg (by decide), if_neg (by decide)]
    exact if_pos h3
  · have hv : z.natAbs ≠ 0 := by omega
    obtain ⟨c, t, e, hc1, hc2, hl⟩ := dec_head hv
    have hd := dig_dec z.natAbs
    have ht := tv_dec z.natAbs
    have h45 : c ≠ 45 := by rintro rfl; revert hc1; decide
    have h48 : c ≠ 48 := by rintro rfl; revert hc1; decide
    have hlen : (decI z).length ≤ dlen z.natAbs + 1 := by
      unfold decI; split <;> simp only [List.length_cons, e] at * <;> omega
    have hlen2 : dlen z.natAbs ≤ (decI z).length := by
      unfold decI; split <;> simp only [List.length_cons, e] at * <;> omega
    rcases parseT_cases (decI z) with ⟨h1, h2⟩ | ⟨h1, neg, ds, hsg, hsp⟩
    · have : ¬ inR z.natAbs := fun q => by have := inR_dlen q; omega
      rw [if_neg this, h2]
    · have hds : ds = dec z.natAbs ∧ sgn neg z.natAbs = z := by
        rcases hsg with ⟨rfl, g⟩ | ⟨rfl, g, g2⟩
        · unfold decI at g
          split at g
          · cases g; exact ⟨rfl, by unfold sgn; simp; omega⟩
          · exact (dec_45 _ _ g).elim
        · unfold decI at g
          split at g
          · rw [← g] at g2; exact (g2 rfl).elim
          · exact ⟨g.symm, by unfold sgn; simp; omega⟩
      obtain ⟨rfl, hs⟩ := hds
      rcases hsp with ⟨h | ⟨h, _⟩ | h, _⟩ | ⟨_, _, _, ⟨h3, h4⟩ | ⟨h3, h4⟩⟩
      · rw [e] at h; cases h
      · rw [e] at h; simp at h; exact (h48 h).elim
      · exact (h hd).elim
      · rw [ht] at h3 h4
        rw [if_pos h3, h4, hs]
      · rw [ht] at h3
        rw [if_neg h3, h4]
theorem p_Str (x : WI) : pf E0 33 [wiP x] = some (.s (decI x.v)) := by
  refine porc_33 ?_ rfl
  have hw : ∀ (l : List Nat), Ok32 l → wordsP (l.map fun n => (PV.i .u32 ((n : Nat) : Int))) = some l := fun l => by
    induction l with
    | nil => intro _; rfl
    | cons n l ih =>
      intro h
      have h1 := h n (List.mem_cons_self ..)
      rw [List.map_cons]
      unfold wordsP
      rw [if_pos ⟨by omega, by omega⟩, ih fun x hx => h x (List.mem_cons_of_mem _ hx)]
      simp
  have hD : D x.v.natAbs = .lst ((dig x.v.natAbs).map fun n => (PV.i .u32 ((n : Nat) : Int))) := (W_dw _ _).symm
  have hg : (dig x.v.natAbs).getLast? ≠ some 0 := fun q => by
    by_cases h : x.v.natAbs = 0
    · rw [h] at q; cases q
    · have h1 := wlen_pos h
      have h2 : (dig x.v.natAbs).getLast? = some (dgt x.v.natAbs (wlen x.v.natAbs - 1)) := by
        rw [List.getLast?_eq_getElem?]
        unfold dig dw
        rw [tab_length, tab_lt (by omega)]
      rw [h2] at q
      have h3 := Option.some.inj q
      rw [dgt_def] at h3
      have h4 := wlen_le h
      have h5 : x.v.natAbs / 4294967296 ^ (wlen x.v.natAbs - 1) < 4294967296 := by
        have := wlen_lt x.v.natAbs
        rw [show wlen x.v.natAbs = wlen x.v.natAbs - 1 + 1 by omega, Nat.pow_succ] at this
        exact Nat.div_lt_of_lt_mul this
      have h6 := Nat.div_pos h4 (Bpos _)
      rw [Nat.mod_eq_of_lt h5] at h3
      omega
  have hx := x.lim
  rw [wiP_def, hD]
  simp only [orcP, txtP, if_true, hw _ (ok_dig _), Option.bind_some]
  unfold wtx
  have hnz : decide (x.v < 0) = true → dig x.v.natAbs ≠ [] := fun h => by
    have h1 : x.v < 0 := by simpa using h
    intro q
    have h2 := dig_length x.v.natAbs
    rw [q] at h2
    have := wlen_pos (v := x.v.natAbs) (by omega)
    simp at h2; omega
  rw [if_pos ⟨by rw [dig_length]; exact hx, hg, hnz⟩, val_dig]
  · have e : (if decide (x.v < 0) = true then -((x.v.natAbs : Nat) : Int) else ((x.v.natAbs : Nat) : Int)) = x.v := by
      by_cases h : x.v < 0
      · rw [if_pos (by simpa using h)]; omega
      · rw [if_neg (by simpa using h)]; omega
    rw [e]; rfl
theorem p_equal (x : WI) {z : Int} (lz : tlen z.natAbs < 100000) : pf E0 112 [wiP x, nP z] = some (.b (decide (x.v = z))) := by
  refine pf_run (xf := x_skymosaic_skymosaiclaw03_equal) rfl (by simp [x_skymosaic_skymosaiclaw03_equal]) ?_
  simp only [x_skymosaic_skymosaiclaw03_equal]
  have h1 := p_Str x
  have h2 := p_Text lz
  have h3 : (decide (decI x.v = decI z)) = decide (x.v = z) := by
    by_cases h : x.v = z
    · simp [h]
    · have : decI x.v ≠ decI z := fun q => h (decI_inj q)
      simp [h, this]
  simp (disch := omega) only [go_sem, seval, wrap_i64, wrap_u64, wrap_u32, wrap_u8, wrap_i32]
  refine wk_calm rfl ?_
  simp (disch := omega) only [go_sem, seval, wrap_i64, wrap_u64, wrap_u32, wrap_u8, wrap_i32, h1, h2, h3]
theorem p_wider {z : Int} (lz : tlen z.natAbs < 100000) : pf E0 116 [nP z] = some (.tu [wiP (clip z), .b (decide (inR z.natAbs))]) := by
  refine pf_run (xf := x_skymosaic_skymosaiclaw03_wider) rfl (by simp [x_skymosaic_skymosaiclaw03_wider]) ?_
  simp only [x_skymosaic_skymosaiclaw03_wider]
  have h2 := p_Text lz
  have hl : (decI z).length < 4611686018427387904 := by
    have : dlen z.natAbs ≤ 4 * tlen z.natAbs := by
      rw [dlen_iff, Nat.pow_mul]; exact tlen_lt _
    have h1 : (dec z.natAbs).length ≤ 4 * tlen z.natAbs + 1 := by
      unfold dec; split
      · simp
      · rw [dtx_len]; omega
    unfold decI; split <;> (try simp only [List.length_cons]) <;> omega
  have h3 := p_Parse (decI z) hl
  rw [parseT_dec] at h3
  by_cases h : inR z.natAbs
  · rw [if_pos h] at h3
    simp (disch := omega) only [go_sem, seval, wrap_i64, wrap_u64, wrap_u32, wrap_u8, wrap_i32, h2, h3]
    simp [h]
  · rw [if_neg h] at h3
    have hc : clip z = clip 0 := by
      rw [clip_no (fun q => h ((wide_iff _).1 q)), clip_ok (z := 0) (by simp [wlen_zero])]; rfl
    simp only at h3
    rw [← hc] at h3
    simp (disch := omega) only [go_sem, seval, wrap_i64, wrap_u64, wrap_u32, wrap_u8, wrap_i32, h2, h3]
    simp [h]
end Go.Eng
namespace Go.Eng
theorem dec_eval {v n : Nat} (h1 : 10 ^ n ≤ v) (h2 : v < 10 ^ (n + 1)) : dec v = dtx (n + 1) v := by
  have h0 : v ≠ 0 := by have := Nat.pow_pos (n := n) (by decide : 0 < 10); omega
  have : dlen v = n + 1 := by
    have a := dlen_iff.2 h2
    have b : ¬ dlen v ≤ n := fun q => by have := dlen_iff.1 q; omega
    omega
  rw [dec_dtx h0, this]
theorem from_ex {n : Int} (h : Fits64 n) : ∃ x : WI, x.v = n ∧ pf E0 34 [.i .i64 n] = some (wiP x) := ⟨wiOf n h, rfl, p_From h⟩
theorem div_ex (x y : WI) {a b : Int} (hx : x.v = a) (hy : y.v = b) (h : b ≠ 0) : ∃ q r : WI, q.v = a / b ∧ r.v = a % b ∧ pf E0 29 [wiP x, wiP y] = some (.tu [wiP q, wiP r, .i .i64 0]) := by
  subst hx; subst hy
  exact ⟨x.div y h, x.mod y h, rfl, rfl, p_Div x y h⟩
theorem p_lives : pf E0 113 [] = some (.b true) := by
  refine pf_run (xf := x_skymosaic_skymosaiclaw03_lives) rfl (by simp) ?_
  simp only [x_skymosaic_skymosaiclaw03_lives]
  obtain ⟨a, ha, fa⟩ := from_ex (n := -7) (by decide)
  obtain ⟨b, hb, fb⟩ := from_ex (n := 2) (by decide)
  obtain ⟨c, hc, fc⟩ := from_ex (n := 7) (by decide)
  obtain ⟨d, hd, fd⟩ := from_ex (n := -2) (by decide)
  obtain ⟨e, he, fe⟩ := from_ex (n := 4294967296) (by decide)
  obtain ⟨q, r, hq, hr, f1⟩ := div_ex a b ha hb (by decide)
  obtain ⟨s, t, hs, ht, f2⟩ := div_ex c d hc hd (by decide)
  have hm : wlen ((18446744073709551616 : Int)).natAbs ≤ 512 := by
    have : wlen ((18446744073709551616 : Int)).natAbs ≤ 3 := wlen_iff.2 (by decide)
    omega
  have f3 := p_Mul e e
  rw [he, show (4294967296 * 4294967296 : Int) = 18446744073709551616 from rfl, lerr_ok hm] at f3
  have hx := clip_v hm
  generalize clip 18446744073709551616 = x at *
  have f4 := p_Small x
  rw [hx] at f4
  have f5 := p_Parse [45, 48] (by decide)
  have f6 := p_Parse [48, 49] (by decide)
  have t5 : parseT [45, 48] = (0, 2) := by unfold parseT; rw [if_neg (by decide), if_pos (by decide)]
  have t6 : parseT [48, 49] = (0, 2) := by unfold parseT; rw [if_neg (by decide), if_pos (by decide)]
  rw [t5] at f5
  rw [t6] at f6
  have s1 := p_Str q
  have s2 := p_Str r
  have s3 := p_Str s
  have s4 := p_Str t
  have s5 := p_Str x
  have d1 : decI (-4) = [45, 52] := by
    show 45 :: dec 4 = _
    rw [dec_eval (n := 0) (by decide) (by decide)]; rfl
  have d2 : decI 1 = [49] := by
    show dec 1 = _
    rw [dec_eval (n := 0) (by decide) (by decide)]; rfl
  have d3 : decI (-3) = [45, 51] := by
    show 45 :: dec 3 = _
    rw [dec_eval (n := 0) (by decide) (by decide)]; rfl
  have d4 : decI 18446744073709551616 = [49, 56, 52, 52, 54, 55, 52, 52, 48, 55, 51, 55, 48, 57, 53, 53, 49, 54, 49, 54] := by
    show dec 18446744073709551616 = _
    rw [dec_eval (n := 19) (by decide) (by decide)]; decide
  rw [hq, show (-7 / 2 : Int) = -4 from rfl, d1] at s1
  rw [hr, show (-7 % 2 : Int) = 1 from rfl, d2] at s2
  rw [hs, show (7 / -2 : Int) = -3 from rfl, d3] at s3
  rw [ht, show (7 % -2 : Int) = 1 from rfl, d2] at s4
  rw [hx, d4] at s5
  have i4 : isSmall 18446744073709551616 = false := by decide
  have i5 : small 18446744073709551616 = 0 := by decide
  rw [i4, i5] at f4
  simp (disch := omega) only [go_sem, seval, wrap_i64, wrap_u64, wrap_u32, wrap_u8, wrap_i32, fa, fb, fc, fd, fe, f1, f2, f3, f4, f5, f6, s1, s2, s3, s4, s5]
end Go.Eng
namespace Go.Eng
def isPP : PV → Bool
  | .p _ _ => true
  | _ => false
@[go_sem] theorem isPP_p (n o : Nat) : isPP (.p n o) = true := _root_.id rfl
def slotIn (E : PEnv) (ops : List XOper) (L : List Nat) (c : Nat × Nat) : Bool :=
  match ops[c.1]?, ops[c.2]? with
  | some a, some b =>
    match a.op with
    | .load _ _ (.t s) => L.contains s && calmOp E b.op && (ops.all fun o => o.dst != some s)
    | _ => false
  | _, _ => false
theorem wk_calmX {E : PEnv} {F : PFin} {ops : List XOper} {chk : List (Nat × Nat)} {ks : List KI} {fr : PFr} {M : PM} (L : List Nat) (hL : chk.all (fun c => calmC E ops c || slotIn E ops L c) = true) (hp : L.all (fun s => isPP (fr s)) = true) (w : WL E F ops ks fr M) :
    WK E F (.drw ops chk) ks fr M := by
  refine wk_calmG (fun fr2 Ms hT => ?_) w
  rw [List.all_eq_true] at hL hp ⊢
  rintro ⟨i, j⟩ hc
  have h1 := hL _ hc
  simp only [Bool.or_eq_true] at h1
  rcases h1 with h1 | h1
  · exact calm_chk hT h1
  · unfold slotIn at h1
    split at h1
    · rename_i a b ha hb
      split at h1
      · rename_i z k s hop
        simp only [Bool.and_eq_true] at h1
        obtain ⟨⟨c1, c2⟩, c3⟩ := h1
        have hs := hp s (List.contains_iff_mem.1 c1)
        cases hf : fr s with
        | p n o => exact calm_chkL hT ha hb hop c2 c3 hf
        | _ => rw [hf] at hs; simp [isPP] at hs
      · cases h1
    · cases h1
attribute [go_sem] List.all_cons List.all_nil
def slotIn2 (E : PEnv) (ops : List XOper) (L : List Nat) (c : Nat × Nat) : Bool :=
  match ops[c.1]?, ops[c.2]? with
  | some a, some b =>
    match a.op with
    | .load _ _ (.t s) => L.contains s && calmOp E b.op
    | _ => false
  | _, _ => false
theorem wk_calmR {E : PEnv} {F : PFin} {ops : List XOper} {chk : List (Nat × Nat)} {ks : List KI} {fr : PFr} {M : PM} (L : List Nat) (hL : chk.all (fun c => calmC E ops c || slotIn2 E ops L c) = true)
    (hr : WL E ⟨(0 :: 0 :: L).map XR.tmp, fun w _ => ∃ l, w = .tu l ∧ (l.drop 2).all isPP = true⟩ ops [] fr M) (w : WL E F ops ks fr M) : WK E F (.drw ops chk) ks fr M := by
  refine wk_calmG (fun fr2 Ms hT => ?_) w
  have hp : L.all (fun s => isPP (fr2 s)) = true := by
    obtain ⟨lf, q, fr3, M3, vs, e, h1, h2, l, h3, h4⟩ := hr
    simp only [Option.bind_eq_some_iff, unw] at e
    obtain ⟨⟨fr4, M4⟩, e1, e2⟩ := e
    simp only [Option.some.injEq, Prod.mk.injEq] at e2
    obtain ⟨_, e3, e4⟩ := e2
    rw [← e3, ← e4] at h2
    obtain ⟨Ms', g1, g2⟩ := pOpsT_of e1
    rw [g1] at hT
    cases hT
    have hres : ∀ (f : PFr) (N : PM) (l : List Nat), pRes f N (l.map XR.tmp) = some (l.map f) := fun f N l => by
      induction l with
      | nil => rfl
      | cons a l ih => simp only [List.map_cons, pRes, pResOne, ih]
    rw [hres] at h2
    cases h2
    simp only [List.map_cons, packP] at h3
    cases h3
    simpa [List.all_map] using h4
  rw [List.all_eq_true] at hL hp ⊢
  rintro ⟨i, j⟩ hc
  have h1 := hL _ hc
  simp only [Bool.or_eq_true] at h1
  rcases h1 with h1 | h1
  · exact calm_chk hT h1
  · unfold slotIn2 at h1
    split at h1
    · rename_i a b ha hb
      split at h1
      · rename_i z k s hop
        simp only [Bool.and_eq_true] at h1
        obtain ⟨c1, c2⟩ := h1
        have hs := hp s (List.contains_iff_mem.1 c1)
        cases hf : fr2 s with
        | p n o =>
          obtain ⟨fri, A, B, q1, q2, q3, q4⟩ := pOpsT_at hT ha
          obtain ⟨frj, C, D, p1, p2, p3, p4⟩ := pOpsT_at hT hb
          have p2' : Ms[(i, j).2 + 1]? = some D := p2
          have q2' : Ms[(i, j).1 + 1]? = some B := q2
          simp only [chkP, ha, q1, q2, p1, p2]
          rw [if_neg (by rw [hop]; simp [XO.cls])]
          rw [hop]
          show chkV ops j (.t s) C D (fr2 s) = true
          rw [hf]
          show verP (some n) C D = true
          rcases p3 with ⟨_, v, p3⟩ | ⟨_, p3⟩
          · cases hopb : b.op with
            | call f l =>
              rw [hopb] at p3 c2
              obtain ⟨ns, rfl⟩ := pcl_mem c2 p3
              exact roM_verP ns C _
            | _ => rw [hopb] at c2; simp [calmOp] at c2
          · rw [p3]; simp [verP]
        | _ => rw [hf] at hs; simp [isPP] at hs
      · cases h1
    · cases h1
theorem wk_roll {E : PEnv} {F : PFin} {a b : XC} (hab : a = b) {ks : List KI} {fr : PFr} {M : PM} (w : WK E F b (.loop a :: ks) fr M) : WK E F (.loop a) ks fr M := by
  rw [← hab] at w; exact wk_loop w
def fillC (z : List PV) (off n : Nat) (cs : List PV) : Option (List PV) := if cs.length = n ∧ off + n ≤ z.length ∧ cs.all PV.scal = true then some (psplice z off cs) else none
theorem fill_C {fr : PFr} (G : Nat → Option (List AV)) (z : List PV) (off n : Nat) (x : X) (ps : List (Nat × Nat × X)) : fillP G fr z ((off, (n, x)) :: ps) = fillB fr G ps (fillC z off n (x.pv G fr).cells) := by
  simp only [fillP]
  unfold fillC
  split <;> rfl
theorem fillC_def (z : List PV) (off n : Nat) (cs : List PV) : fillC z off n cs = if cs.length = n ∧ off + n ≤ z.length ∧ cs.all PV.scal = true then some (psplice z off cs) else none := rfl
end Go.Eng
namespace Go.Eng
theorem num_lim (xs : List Int) (k : Int) : tlen (num xs k).natAbs ≤ 306 := by
  have h1 := numS_lim xs k (1 + (pick xs k 5).toNat)
  have h2 : pick xs k 5 < 5 := by
    unfold pick
    split
    · omega
    · exact aro_lt _ (by omega)
  unfold num
  omega
theorem inR_of {z : Int} (h : tlen z.natAbs < 1230) : inR z.natAbs := (fits_iff _).1 (.inl h)
theorem inR_w {z : Int} (h : inR z.natAbs) : wlen z.natAbs ≤ 512 := (wide_iff _).2 h
theorem fits0 : Fits64 0 := by decide
theorem wider_ex {z : Int} (h : tlen z.natAbs < 1230) : ∃ x : WI, x.v = z ∧ pf E0 116 [nP z] = some (.tu [wiP x, .b true]) := by
  have h1 := p_wider (z := z) (by omega)
  have h2 := inR_of h
  rw [decide_eq_true h2] at h1
  exact ⟨clip z, clip_v (inR_w h2), h1⟩
theorem add_ex (x y : WI) {a b : Int} (hx : x.v = a) (hy : y.v = b) (h : tlen (a + b).natAbs < 1230) : ∃ s : WI, s.v = a + b ∧ pf E0 23 [wiP x, wiP y] = some (.tu [wiP s, .i .i64 0]) := by
  have h1 := p_Add x y
  rw [hx, hy] at h1
  rw [lerr_ok (inR_w (inR_of h))] at h1
  exact ⟨_, clip_v (inR_w (inR_of h)), h1⟩
theorem sub_ex (x y : WI) {a b : Int} (hx : x.v = a) (hy : y.v = b) (h : tlen (a - b).natAbs < 1230) : ∃ s : WI, s.v = a - b ∧ pf E0 39 [wiP x, wiP y] = some (.tu [wiP s, .i .i64 0]) := by
  have h1 := p_Sub x y
  rw [hx, hy] at h1
  rw [lerr_ok (inR_w (inR_of h))] at h1
  exact ⟨_, clip_v (inR_w (inR_of h)), h1⟩
theorem mul_ex (x y : WI) {a b : Int} (hx : x.v = a) (hy : y.v = b) (h : tlen (a * b).natAbs < 1230) : ∃ s : WI, s.v = a * b ∧ pf E0 38 [wiP x, wiP y] = some (.tu [wiP s, .i .i64 0]) := by
  have h1 := p_Mul x y
  rw [hx, hy] at h1
  rw [lerr_ok (inR_w (inR_of h))] at h1
  exact ⟨_, clip_v (inR_w (inR_of h)), h1⟩
theorem eq_ex (x : WI) {a : Int} (hx : x.v = a) (h : tlen a.natAbs < 100000) : pf E0 112 [wiP x, nP a] = some (.b true) := by
  have h1 := p_equal x h
  rwa [decide_eq_true hx] at h1
theorem tlen_subI (a b : Int) : tlen (a - b).natAbs ≤ max (tlen a.natAbs) (tlen b.natAbs) + 1 := by
  have := tlen_addI a (-b)
  rwa [Int.natAbs_neg] at this
theorem p_WideSums {xs : List Int} (hx : Ints xs) : pf E0 102 [ints xs] = some (.b true) := by
  refine pf_run (xf := x_skymosaic_skymosaiclaw03_WideSums) rfl (by simp [x_skymosaic_skymosaiclaw03_WideSums]) ?_
  simp only [x_skymosaic_skymosaiclaw03_WideSums]
  have na := p_Number hx (a := 0) (by omega) (by omega)
  have nb := p_Number hx (a := 6) (by omega) (by omega)
  have la := num_lim xs 0
  have lb := num_lim xs 6
  generalize num xs 0 = a at *
  generalize num xs 6 = b at *
  have l1 := tlen_addI a b
  have l2 := tlen_subI a b
  obtain ⟨x, hxv, wx⟩ := wider_ex (z := a) (by omega)
  obtain ⟨y, hyv, wy⟩ := wider_ex (z := b) (by omega)
  obtain ⟨s, hs, f1⟩ := add_ex x y hxv hyv (by omega)
  obtain ⟨t, ht, f2⟩ := sub_ex x y hxv hyv (by omega)
  have ra := p_rAdd a b (by omega) (by omega)
  have rs := p_rSub a b (by omega) (by omega)
  have e1 := eq_ex s hs (by omega)
  have e2 := eq_ex t ht (by omega)
  have e3 := eq_ex x hxv (by omega)
  have e4 := eq_ex y hyv (by omega)
  have lv := p_lives
  simp (disch := omega) only [go_sem, seval, wrap_i64, wrap_u64, wrap_u32, wrap_u8, wrap_i32, na, nb, wx, wy, f1, f2, ra, rs, e1, e2, e3, e4, lv]
  refine wk_calmX [9, 3, 4, 11, 5, 7] rfl (by simp only [go_sem, seval]) ?_
  simp (disch := omega) only [go_sem, seval, wrap_i64, wrap_u64, wrap_u32, wrap_u8, wrap_i32, ra, rs, e1, e2, e3, e4, lv]
theorem p_WideProducts {xs : List Int} (hx : Ints xs) : pf E0 100 [ints xs] = some (.b true) := by
  refine pf_run (xf := x_skymosaic_skymosaiclaw03_WideProducts) rfl (by simp [x_skymosaic_skymosaiclaw03_WideProducts]) ?_
  simp only [x_skymosaic_skymosaiclaw03_WideProducts]
  have na := p_Number hx (a := 0) (by omega) (by omega)
  have nb := p_Number hx (a := 6) (by omega) (by omega)
  have la := num_lim xs 0
  have lb := num_lim xs 6
  generalize num xs 0 = a at *
  generalize num xs 6 = b at *
  have l1 := tlen_mulI a b
  obtain ⟨x, hxv, wx⟩ := wider_ex (z := a) (by omega)
  obtain ⟨y, hyv, wy⟩ := wider_ex (z := b) (by omega)
  obtain ⟨s, hs, f1⟩ := mul_ex x y hxv hyv (by omega)
  have ra := p_rMul a b (by omega) (by omega)
  have e1 := eq_ex s hs (by omega)
  have lv := p_lives
  simp (disch := omega) only [go_sem, seval, wrap_i64, wrap_u64, wrap_u32, wrap_u8, wrap_i32, na, nb, wx, wy, f1, ra, e1, lv]
  refine wk_calmX [9] rfl (by simp only [go_sem, seval]) ?_
  simp (disch := omega) only [go_sem, seval, wrap_i64, wrap_u64, wrap_u32, wrap_u8, wrap_i32, ra, e1, lv]
end Go.Eng
namespace Go.Eng
theorem cmp_v (x y : WI) {a b : Int} (hx : x.v = a) (hy : y.v = b) : pf E0 30 [wiP x, wiP y] = some (.i .i64 (cmpI a b)) := by rw [← hx, ← hy]; exact p_Compare x y
theorem sign_v (x : WI) {a : Int} (hx : x.v = a) : pf E0 31 [wiP x] = some (.i .i64 (cmpI a 0)) := by rw [← hx]; exact p_Sign x
theorem p_WideOrder {xs : List Int} (hx : Ints xs) {n : Int} (hn : Fits64 n) : pf E0 103 [ints xs, .i .i64 n] = some (.b true) := by
  refine pf_run (xf := x_skymosaic_skymosaiclaw03_WideOrder) rfl (by simp [x_skymosaic_skymosaiclaw03_WideOrder]) ?_
  simp only [x_skymosaic_skymosaiclaw03_WideOrder]
  have na := p_Number hx (a := 0) (by omega) (by omega)
  have nb := p_Number hx (a := 6) (by omega) (by omega)
  have la := num_lim xs 0
  have lb := num_lim xs 6
  generalize num xs 0 = a at *
  generalize num xs 6 = b at *
  have hb := p_Bound (m := 1) hn (by omega) (by omega)
  have hb0 := aro_nonneg n (m := 2 * 1 + 1) (by omega)
  have hb1 := aro_lt n (m := 2 * 1 + 1) (by omega)
  have hko : ∃ k : Int, k = aro n (2 * 1 + 1) - 1 ∧ -1 ≤ k ∧ k ≤ 1 := ⟨_, rfl, by omega, by omega⟩
  obtain ⟨k, hk, k1, k2⟩ := hko
  rw [← hk] at hb
  have ho := p_rOf k (by unfold Fits64; omega)
  have lk : tlen k.natAbs ≤ 1 := tlen_small (by show k.natAbs < 10000 ^ 1; omega)
  have l1 := tlen_addI a k
  have ra := p_rAdd a k (by omega) (by omega)
  have rn := p_rNeg a (by omega)
  have ln : tlen (-a).natAbs ≤ 306 := by rw [Int.natAbs_neg]; exact la
  obtain ⟨x, hxv, wx⟩ := wider_ex (z := a) (by omega)
  obtain ⟨y1, hy1, w1⟩ := wider_ex (z := b) (by omega)
  obtain ⟨y2, hy2, w2⟩ := wider_ex (z := a + k) (by omega)
  obtain ⟨y3, hy3, w3⟩ := wider_ex (z := -a) (by omega)
  have c1 := cmp_v x y1 hxv hy1
  have c2 := cmp_v y1 x hy1 hxv
  have c3 := cmp_v x y2 hxv hy2
  have c4 := cmp_v y2 x hy2 hxv
  have c5 := cmp_v x y3 hxv hy3
  have c6 := cmp_v y3 x hy3 hxv
  have d1 := p_rCompare a b (by omega) (by omega)
  have d2 := p_rCompare b a (by omega) (by omega)
  have d3 := p_rCompare a (a + k) (by omega) (by omega)
  have d4 := p_rCompare (a + k) a (by omega) (by omega)
  have d5 := p_rCompare a (-a) (by omega) (by omega)
  have d6 := p_rCompare (-a) a (by omega) (by omega)
  have sg := sign_v x hxv
  have d7 := p_rCompare a 0 (by omega) (by rw [Int.natAbs_zero, tlen_zero]; omega)
  have ng := p_Neg x
  have e1 := eq_ex x.neg (a := -a) (by show -x.v = -a; rw [hxv]) (by omega)
  have lv := p_lives
  simp (disch := omega) only [go_sem, seval, wrap_i64, wrap_u64, wrap_u32, wrap_u8, wrap_i32, na]
  refine wk_calmX [5] rfl (by simp only [go_sem, seval]) ?_
  simp (disch := omega) only [go_sem, seval, wrap_i64, wrap_u64, wrap_u32, wrap_u8, wrap_i32, nb, hb, ho, ra, rn, wx, fill_C, fillC_def]
  refine wk_roll x_skymosaic_skymosaiclaw03_WideOrder_l1.eq_1 ?_
  simp (disch := omega) only [go_sem, seval, wrap_i64, wrap_u64, wrap_u32, wrap_u8, wrap_i32, w1]
  refine wk_calmR [7, 10, 5, 54, 65] rfl ?_ ?_
  · simp (disch := omega) only [go_sem, seval, wrap_i64, wrap_u64, wrap_u32, wrap_u8, wrap_i32, c1, c2, d1, d2]
    exact ⟨_, rfl, rfl⟩
  simp (disch := omega) only [go_sem, seval, wrap_i64, wrap_u64, wrap_u32, wrap_u8, wrap_i32, c1, c2, d1, d2]
  refine wk_roll x_skymosaic_skymosaiclaw03_WideOrder_l1.eq_1 ?_
  simp (disch := omega) only [go_sem, seval, wrap_i64, wrap_u64, wrap_u32, wrap_u8, wrap_i32, w2]
  refine wk_calmR [7, 10, 5, 54, 65] rfl ?_ ?_
  · simp (disch := omega) only [go_sem, seval, wrap_i64, wrap_u64, wrap_u32, wrap_u8, wrap_i32, c3, c4, d3, d4]
    exact ⟨_, rfl, rfl⟩
  simp (disch := omega) only [go_sem, seval, wrap_i64, wrap_u64, wrap_u32, wrap_u8, wrap_i32, c3, c4, d3, d4]
  refine wk_roll x_skymosaic_skymosaiclaw03_WideOrder_l1.eq_1 ?_
  simp (disch := omega) only [go_sem, seval, wrap_i64, wrap_u64, wrap_u32, wrap_u8, wrap_i32, w3]
  refine wk_calmR [7, 10, 5, 54, 65] rfl ?_ ?_
  · simp (disch := omega) only [go_sem, seval, wrap_i64, wrap_u64, wrap_u32, wrap_u8, wrap_i32, c5, c6, d5, d6]
    exact ⟨_, rfl, rfl⟩
  simp (disch := omega) only [go_sem, seval, wrap_i64, wrap_u64, wrap_u32, wrap_u8, wrap_i32, c5, c6, d5, d6]
  refine wk_roll x_skymosaic_skymosaiclaw03_WideOrder_l1.eq_1 ?_
  simp (disch := omega) only [go_sem, seval, wrap_i64, wrap_u64, wrap_u32, wrap_u8, wrap_i32, sg]
  have hz : nP 0 = wiP wi0 := n_zero.symm
  rw [hz] at d7
  refine wk_calmX [5] rfl (by simp only [go_sem, seval]) ?_
  simp (disch := omega) only [go_sem, seval, wrap_i64, wrap_u64, wrap_u32, wrap_u8, wrap_i32, sg, d7, ng, rn, e1, lv]
end Go.Eng
namespace Go.Eng
theorem near63 {q r : Int} (q0 : 0 ≤ q) (q1 : q < 7) (r0 : 0 ≤ r) (r1 : r < 2) : tlen (near (4 * q + 3 + 28 * r)).natAbs ≤ 70 := by
  have h1 : aro (4 * q + 3 + 28 * r) 28 = 4 * q + 3 := by
    unfold aro
    rw [if_neg (by omega)]; omega
  have h2 : tlen (nearO (4 * q + 3 + 28 * r)).natAbs ≤ 70 := by
    unfold nearO
    rw [h1]
    have e : nearB ((4 * q + 3).toNat % 4) = 63 := by
      have : (4 * q + 3).toNat % 4 = 3 := by omega
      rw [this]; rfl
    rw [e]
    have a := tlen_addI (two 63) ((((4 * q + 3).toNat / 4 : Nat) : Int) - 3)
    have b := tlen_two 63
    rw [← natAbs_two] at b
    have c : tlen ((((4 * q + 3).toNat / 4 : Nat) : Int) - 3).natAbs ≤ 1 := tlen_small (by show _ < 10000 ^ 1; omega)
    omega
  unfold near
  split
  · rw [Int.natAbs_neg]; exact h2
  · exact h2
theorem small_v (x : WI) {a : Int} (hx : x.v = a) : pf E0 80 [wiP x] = some (.tu [.i .i64 (small a), .b (isSmall a)]) := by rw [← hx]; exact p_Small x
theorem small_fits {n : Int} (h : Fits64 n) : small n = n ∧ isSmall n = true := by
  have : isSmall n = true := decide_eq_true h
  unfold small
  rw [if_pos this]
  exact ⟨rfl, this⟩
theorem p_WideFrom {n : Int} (hn : Fits64 n) {xs : List Int} (hx : Ints xs) {k : Int} (hk : Fits64 k) : pf E0 99 [.i .i64 n, ints xs, .i .i64 k] = some (.b true) := by
  refine pf_run (xf := x_skymosaic_skymosaiclaw03_WideFrom) rfl (by simp [x_skymosaic_skymosaiclaw03_WideFrom]) ?_
  simp only [x_skymosaic_skymosaiclaw03_WideFrom]
  obtain ⟨x, hxv, fx⟩ := from_ex hn
  have s0 := small_v x hxv
  obtain ⟨sn1, sn2⟩ := small_fits hn
  rw [sn1, sn2] at s0
  have on := p_rOf n hn
  have ln : tlen n.natAbs ≤ 5 := tlen_small (by unfold Fits64 at hn; show _ < 10000 ^ 5; omega)
  have e0 := eq_ex x hxv (by omega)
  have na := p_Number hx (a := 0) (by omega) (by omega)
  have la := num_lim xs 0
  generalize num xs 0 = a at *
  have h7 := p_Around hk (m := 7) (by decide) (by omega)
  have a0 := aro_nonneg k (m := 7) (by omega)
  have a1 := aro_lt k (m := 7) (by omega)
  generalize aro k 7 = q at *
  have hk' := hk
  unfold Fits64 at hk'
  obtain ⟨t, ht⟩ : ∃ t, k.tdiv 7 = t := ⟨_, rfl⟩
  have hta : t.natAbs = k.natAbs / 7 := by rw [← ht, Int.natAbs_tdiv]; rfl
  have kt2 : -9223372036854775808 ≤ t ∧ t ≤ 9223372036854775807 := by
    have := Nat.div_le_self k.natAbs 7
    omega
  have h2 := p_Around kt2 (m := 2) (by decide) (by omega)
  have b0 := aro_nonneg t (m := 2) (by omega)
  have b1 := aro_lt t (m := 2) (by omega)
  generalize aro t 2 = r at *
  have hf : Fits64 (4 * q + 3 + 28 * r) := by unfold Fits64; omega
  have nn := p_Near hf
  have lb := near63 a0 a1 b0 b1
  generalize hv : 4 * q + 3 + 28 * r = v at *
  generalize near v = b at *
  obtain ⟨y1, hy1, w1⟩ := wider_ex (z := a) (by omega)
  obtain ⟨y2, hy2, w2⟩ := wider_ex (z := b) (by omega)
  have s1 := small_v y1 hy1
  have s2 := small_v y2 hy2
  have r1 := p_rSmall (z := a) (by omega)
  have r2 := p_rSmall (z := b) (by omega)
  have lv := p_lives
  have q0 : (n ≠ n) = False := by simp
  simp (disch := omega) only [go_sem, seval, wrap_i64, wrap_u64, wrap_u32, wrap_u8, wrap_i32, fx, s0]
  refine wk_calmX [7] rfl (by simp only [go_sem, seval]) ?_
  simp (disch := omega) only [go_sem, seval, wrap_i64, wrap_u64, wrap_u32, wrap_u8, wrap_i32, on, e0, na, h7, hv, ht, h2, nn, fill_C, fillC_def]
  refine wk_roll x_skymosaic_skymosaiclaw03_WideFrom_l1.eq_1 ?_
  have q1 : (small a ≠ small a) = False := by simp
  have q2 : (small b ≠ small b) = False := by simp
  simp (disch := omega) only [go_sem, seval, wrap_i64, wrap_u64, wrap_u32, wrap_u8, wrap_i32, w1, s1, r1, q1]
  refine wk_roll x_skymosaic_skymosaiclaw03_WideFrom_l1.eq_1 ?_
  simp (disch := omega) only [go_sem, seval, wrap_i64, wrap_u64, wrap_u32, wrap_u8, wrap_i32, w2, s2, r2, q2]
  refine wk_roll x_skymosaic_skymosaiclaw03_WideFrom_l1.eq_1 ?_
  simp (disch := omega) only [go_sem, seval, wrap_i64, wrap_u64, wrap_u32, wrap_u8, wrap_i32, lv]
end Go.Eng
namespace Go.Eng
theorem eq_v (x : WI) {a : Int} (hx : x.v = a) : pf E0 112 [wiP x, nP a] = some (.b true) := eq_ex x hx (by rw [← hx]; exact inR_tlen ((wide_iff _).1 x.lim))
theorem rdiv_ex {a b : Int} (h : b ≠ 0) (la : tlen a.natAbs < 100000) (lb : tlen b.natAbs < 100000) : pf E0 120 [nP a, nP b] = some (.tu [nP (a / b), nP (a % b)]) := p_rDiv h la lb
theorem p_WideQuotients {xs : List Int} (hx : Ints xs) {n : Int} (hn : Fits64 n) : pf E0 101 [ints xs, .i .i64 n] = some (.b true) := by
  refine pf_run (xf := x_skymosaic_skymosaiclaw03_WideQuotients) rfl (by simp [x_skymosaic_skymosaiclaw03_WideQuotients]) ?_
  simp only [x_skymosaic_skymosaiclaw03_WideQuotients]
  have na := p_Number hx (a := 0) (by omega) (by omega)
  have nb := p_Number hx (a := 6) (by omega) (by omega)
  have la := num_lim xs 0
  have lb := num_lim xs 6
  generalize num xs 0 = a at *
  generalize num xs 6 = b at *
  have on := p_rOf n hn
  have ln : tlen n.natAbs ≤ 5 := tlen_small (by unfold Fits64 at hn; show _ < 10000 ^ 5; omega)
  have m1 := p_rMul a b (by omega) (by omega)
  have l1 := tlen_mulI a b
  have a1 := p_rAdd (a * b) n (by omega) (by omega)
  have l2 := tlen_addI (a * b) n
  have m2 := p_rMul b b (by omega) (by omega)
  have l3 := tlen_mulI b b
  have m3 := p_rMul (b * b) a (by omega) (by omega)
  have l4 := tlen_mulI (b * b) a
  generalize a * b + n = z2 at *
  generalize b * b * a = z3 at *
  obtain ⟨x1, hx1, w1⟩ := wider_ex (z := a) (by omega)
  obtain ⟨x2, hx2, w2⟩ := wider_ex (z := z2) (by omega)
  obtain ⟨x3, hx3, w3⟩ := wider_ex (z := z3) (by omega)
  obtain ⟨y, hy, wy⟩ := wider_ex (z := b) (by omega)
  have lv := p_lives
  by_cases hb : b = 0
  · have yw : y = wi0 := WI.ext' (hy.trans hb)
    have d1 : pf E0 29 [wiP x1, wiP y] = some (.tu [wiP wi0, wiP wi0, .i .i64 1]) := by rw [yw]; exact p_Div0 x1
    have d2 : pf E0 29 [wiP x2, wiP y] = some (.tu [wiP wi0, wiP wi0, .i .i64 1]) := by rw [yw]; exact p_Div0 x2
    have d3 : pf E0 29 [wiP x3, wiP y] = some (.tu [wiP wi0, wiP wi0, .i .i64 1]) := by rw [yw]; exact p_Div0 x3
    have e0 := eq_v wi0 (a := 0) rfl
    have hz : nP 0 = wiP wi0 := n_zero.symm
    rw [hz] at e0
    have t0 : ((tlen b.natAbs : Int) = 0) = True := by rw [hb, Int.natAbs_zero, tlen_zero]; simp
    simp (disch := omega) only [go_sem, seval, wrap_i64, wrap_u64, wrap_u32, wrap_u8, wrap_i32, na, nb]
    refine wk_calmX [5, 6] rfl (by simp only [go_sem, seval]) ?_
    simp (disch := omega) only [go_sem, seval, wrap_i64, wrap_u64, wrap_u32, wrap_u8, wrap_i32, m1, on, a1, m2, m3, wy, fill_C, fillC_def]
    refine wk_roll x_skymosaic_skymosaiclaw03_WideQuotients_l1.eq_1 ?_
    simp (disch := omega) only [go_sem, seval, wrap_i64, wrap_u64, wrap_u32, wrap_u8, wrap_i32, w1, d1, t0, e0]
    refine wk_roll x_skymosaic_skymosaiclaw03_WideQuotients_l1.eq_1 ?_
    simp (disch := omega) only [go_sem, seval, wrap_i64, wrap_u64, wrap_u32, wrap_u8, wrap_i32, w2, d2, t0, e0]
    refine wk_roll x_skymosaic_skymosaiclaw03_WideQuotients_l1.eq_1 ?_
    simp (disch := omega) only [go_sem, seval, wrap_i64, wrap_u64, wrap_u32, wrap_u8, wrap_i32, w3, d3, t0, e0]
    refine wk_roll x_skymosaic_skymosaiclaw03_WideQuotients_l1.eq_1 ?_
    simp (disch := omega) only [go_sem, seval, wrap_i64, wrap_u64, wrap_u32, wrap_u8, wrap_i32, lv]
  · have t0 : ((tlen b.natAbs : Int) = 0) = False := by have := tlen_pos (v := b.natAbs) (by omega); simp; omega
    obtain ⟨q1, r1, hq1, hr1, d1⟩ := div_ex x1 y hx1 hy hb
    obtain ⟨q2, r2, hq2, hr2, d2⟩ := div_ex x2 y hx2 hy hb
    obtain ⟨q3, r3, hq3, hr3, d3⟩ := div_ex x3 y hx3 hy hb
    have f1 := rdiv_ex hb (a := a) (by omega) (by omega)
    have f2 := rdiv_ex hb (a := z2) (by omega) (by omega)
    have f3 := rdiv_ex hb (a := z3) (by omega) (by omega)
    have e1 := eq_v q1 hq1
    have e2 := eq_v r1 hr1
    have e3 := eq_v q2 hq2
    have e4 := eq_v r2 hr2
    have e5 := eq_v q3 hq3
    have e6 := eq_v r3 hr3
    simp (disch := omega) only [go_sem, seval, wrap_i64, wrap_u64, wrap_u32, wrap_u8, wrap_i32, na, nb]
    refine wk_calmX [5, 6] rfl (by simp only [go_sem, seval]) ?_
    simp (disch := omega) only [go_sem, seval, wrap_i64, wrap_u64, wrap_u32, wrap_u8, wrap_i32, m1, on, a1, m2, m3, wy, fill_C, fillC_def]
    refine wk_roll x_skymosaic_skymosaiclaw03_WideQuotients_l1.eq_1 ?_
    simp (disch := omega) only [go_sem, seval, wrap_i64, wrap_u64, wrap_u32, wrap_u8, wrap_i32, w1, d1, t0, f1, e1, e2]
    refine wk_roll x_skymosaic_skymosaiclaw03_WideQuotients_l1.eq_1 ?_
    simp (disch := omega) only [go_sem, seval, wrap_i64, wrap_u64, wrap_u32, wrap_u8, wrap_i32, w2, d2, t0, f2, e3, e4]
    refine wk_roll x_skymosaic_skymosaiclaw03_WideQuotients_l1.eq_1 ?_
    simp (disch := omega) only [go_sem, seval, wrap_i64, wrap_u64, wrap_u32, wrap_u8, wrap_i32, w3, d3, t0, f3, e5, e6]
    refine wk_roll x_skymosaic_skymosaiclaw03_WideQuotients_l1.eq_1 ?_
    simp (disch := omega) only [go_sem, seval, wrap_i64, wrap_u64, wrap_u32, wrap_u8, wrap_i32, lv]
end Go.Eng
namespace Go.Eng
theorem gcd_v (x y : WI) {a b : Int} (hx : x.v = a) (hy : y.v = b) : ∃ g : WI, g.v = ((Nat.gcd a.natAbs b.natAbs : Nat) : Int) ∧ pf E0 18 [wiP x, wiP y] = some (wiP g) := by
  subst hx; subst hy
  exact ⟨x.gcd y, rfl, p_Gcd x y⟩
theorem cmpI_self (a : Int) : cmpI a a = 0 := by unfold cmpI; rw [if_neg (by omega), if_neg (by omega)]
theorem gcd_quot {a b : Int} (h : Nat.gcd a.natAbs b.natAbs ≠ 0) : Nat.gcd (a / ((Nat.gcd a.natAbs b.natAbs : Nat) : Int)).natAbs (b / ((Nat.gcd a.natAbs b.natAbs : Nat) : Int)).natAbs = 1 := by
  have h1 : ∀ z : Int, Nat.gcd a.natAbs b.natAbs ∣ z.natAbs → (z / ((Nat.gcd a.natAbs b.natAbs : Nat) : Int)).natAbs = z.natAbs / Nat.gcd a.natAbs b.natAbs := fun z hz => by
    obtain ⟨q, hq⟩ := Int.ofNat_dvd_left.2 hz
    have hg : ((Nat.gcd a.natAbs b.natAbs : Nat) : Int) ≠ 0 := by omega
    rw [hq, Int.mul_ediv_cancel_left _ hg, Int.natAbs_mul, Int.natAbs_natCast, Nat.mul_div_cancel_left _ (by omega)]
  rw [h1 a (Nat.gcd_dvd_left _ _), h1 b (Nat.gcd_dvd_right _ _)]
  rw [Nat.gcd_div (Nat.gcd_dvd_left _ _) (Nat.gcd_dvd_right _ _), Nat.div_self (Nat.pos_of_ne_zero h)]
theorem gcd_mod {a b : Int} : a % ((Nat.gcd a.natAbs b.natAbs : Nat) : Int) = 0 ∧ b % ((Nat.gcd a.natAbs b.natAbs : Nat) : Int) = 0 :=
  ⟨Int.emod_eq_zero_of_dvd (Int.ofNat_dvd_left.2 (Nat.gcd_dvd_left _ _)), Int.emod_eq_zero_of_dvd (Int.ofNat_dvd_left.2 (Nat.gcd_dvd_right _ _))⟩
theorem p_WideDivisors {xs : List Int} (hx : Ints xs) : pf E0 104 [ints xs] = some (.b true) := by
  refine pf_run (xf := x_skymosaic_skymosaiclaw03_WideDivisors) rfl (by simp [x_skymosaic_skymosaiclaw03_WideDivisors]) ?_
  simp only [x_skymosaic_skymosaiclaw03_WideDivisors]
  have n0 := p_Number hx (a := 0) (by omega) (by omega)
  have n6 := p_Number hx (a := 6) (by omega) (by omega)
  have n12 := p_Number hx (a := 12) (by omega) (by omega)
  have l0 := num_lim xs 0
  have l6 := num_lim xs 6
  have l12 := num_lim xs 12
  generalize num xs 0 = u at *
  generalize num xs 6 = v at *
  generalize num xs 12 = c at *
  have m1 := p_rMul u c (by omega) (by omega)
  have m2 := p_rMul v c (by omega) (by omega)
  have la := tlen_mulI u c
  have lb := tlen_mulI v c
  generalize u * c = a at *
  generalize v * c = b at *
  obtain ⟨x, hxv, wx⟩ := wider_ex (z := a) (by omega)
  obtain ⟨y, hyv, wy⟩ := wider_ex (z := b) (by omega)
  obtain ⟨g, hg, fg⟩ := gcd_v x y hxv hyv
  have rg := p_rGcd a b (by omega) (by omega)
  have eg := eq_v g hg
  have sg := sign_v g hg
  have lv := p_lives
  obtain ⟨gm1, gm2⟩ := gcd_mod (a := a) (b := b)
  have gq := gcd_quot (a := a) (b := b)
  have gz : Nat.gcd a.natAbs b.natAbs = 0 → a.natAbs = 0 ∧ b.natAbs = 0 := fun h => ⟨Nat.eq_zero_of_gcd_eq_zero_left h, Nat.eq_zero_of_gcd_eq_zero_right h⟩
  generalize Nat.gcd a.natAbs b.natAbs = G at *
  simp (disch := omega) only [go_sem, seval, wrap_i64, wrap_u64, wrap_u32, wrap_u8, wrap_i32, n12]
  refine wk_calmX [3] rfl (by simp only [go_sem, seval]) ?_
  simp (disch := omega) only [go_sem, seval, wrap_i64, wrap_u64, wrap_u32, wrap_u8, wrap_i32, n0, m1]
  refine wk_calmX [3] rfl (by simp only [go_sem, seval]) ?_
  simp (disch := omega) only [go_sem, seval, wrap_i64, wrap_u64, wrap_u32, wrap_u8, wrap_i32, n6, m2, wx, wy, fg]
  refine wk_calmX [10, 4, 5] rfl (by simp only [go_sem, seval]) ?_
  by_cases h0 : G = 0
  · obtain ⟨za, zb⟩ := gz h0
    have ta : ((tlen a.natAbs : Int) = 0) = True := by rw [za, tlen_zero]; simp
    have tb : ((tlen b.natAbs : Int) = 0) = True := by rw [zb, tlen_zero]; simp
    have sc : (cmpI (G : Int) 0 = 0) = True := by rw [h0]; simp [cmpI]
    simp (disch := omega) only [go_sem, seval, wrap_i64, wrap_u64, wrap_u32, wrap_u8, wrap_i32, rg, eg, sg, sc, ta, tb, lv]
  · have sc : (cmpI (G : Int) 0 = 0) = False := by
      have : cmpI (G : Int) 0 = 1 := by unfold cmpI; rw [if_neg (by omega), if_pos (by omega)]
      rw [this]; simp
    have hG : (G : Int) ≠ 0 := by omega
    obtain ⟨q1, r1, hq1, hr1, d1⟩ := div_ex x g hxv hg hG
    obtain ⟨q2, r2, hq2, hr2, d2⟩ := div_ex y g hyv hg hG
    have s1 := sign_v r1 (hr1.trans gm1)
    have s2 := sign_v r2 (hr2.trans gm2)
    have c0 : (cmpI 0 0 = 0) = True := by simp [cmpI]
    obtain ⟨g2, hg2, f2⟩ := gcd_v q1 q2 hq1 hq2
    rw [gq h0, Int.natCast_one] at hg2
    obtain ⟨w1, hw1, f1⟩ := from_ex (n := 1) (by decide)
    have cc := cmp_v g2 w1 hg2 hw1
    have c1 : (cmpI 1 1 = 0) = True := by simp [cmpI]
    simp (disch := omega) only [go_sem, seval, wrap_i64, wrap_u64, wrap_u32, wrap_u8, wrap_i32, rg, eg, sg, sc, d1, d2, s1, s2, c0, f2, f1, cc, c1, lv]
end Go.Eng
namespace Go.Eng
theorem p_WideRing {xs : List Int} (hx : Ints xs) : pf E0 105 [ints xs] = some (.b true) := by
  refine pf_run (xf := x_skymosaic_skymosaiclaw03_WideRing) rfl (by simp [x_skymosaic_skymosaiclaw03_WideRing]) ?_
  simp only [x_skymosaic_skymosaiclaw03_WideRing]
  have n0 := p_Number hx (a := 0) (by omega) (by omega)
  have n6 := p_Number hx (a := 6) (by omega) (by omega)
  have n12 := p_Number hx (a := 12) (by omega) (by omega)
  have l0 := num_lim xs 0
  have l6 := num_lim xs 6
  have l12 := num_lim xs 12
  generalize num xs 0 = X at *
  generalize num xs 6 = Y at *
  generalize num xs 12 = Z at *
  have lA := tlen_addI X Y
  have eA : Y + X = X + Y := Int.add_comm _ _
  have eN : X + Y - Y = X := by omega
  have eC : X * Z + Z * Y = (X + Y) * Z := by rw [Int.add_mul, Int.mul_comm Z Y]
  have lC := tlen_mulI (X + Y) Z
  have lD := tlen_mulI X Z
  have lI := tlen_mulI Z Y
  obtain ⟨x, hxv, wx⟩ := wider_ex (z := X) (by omega)
  obtain ⟨y, hyv, wy⟩ := wider_ex (z := Y) (by omega)
  obtain ⟨z, hzv, wz⟩ := wider_ex (z := Z) (by omega)
  obtain ⟨a, ha, fa⟩ := add_ex x y hxv hyv (by omega)
  obtain ⟨b, hb, fb⟩ := add_ex y x hyv hxv (by rw [eA]; omega)
  obtain ⟨c, hc, fc⟩ := mul_ex a z ha hzv (by omega)
  obtain ⟨d, hd, fd⟩ := mul_ex x z hxv hzv (by omega)
  obtain ⟨i, hi, fi⟩ := mul_ex z y hzv hyv (by omega)
  obtain ⟨k, hk, fk⟩ := add_ex d i hd hi (by rw [eC]; omega)
  obtain ⟨n, hn, fn⟩ := sub_ex a y ha hyv (by rw [eN]; omega)
  rw [eA] at hb
  rw [eC] at hk
  rw [eN] at hn
  generalize X + Y = A at *
  generalize A * Z = C at *
  generalize X * Z = D at *
  generalize Z * Y = I at *
  have c1 := cmp_v a b ha hb
  have c2 := cmp_v c k hc hk
  have c3 := cmp_v n x hn hxv
  have z1 : (cmpI A A = 0) = True := by rw [cmpI_self]; simp
  have z2 : (cmpI C C = 0) = True := by rw [cmpI_self]; simp
  have z3 : (cmpI X X = 0) = True := by rw [cmpI_self]; simp
  have s1 := p_Str a
  have s2 := p_Str b
  rw [ha] at s1
  rw [hb] at s2
  have lv := p_lives
  have sy := sign_v y hyv
  by_cases h0 : Y = 0
  · have yw : y = wi0 := WI.ext' (hyv.trans h0)
    have d1 : pf E0 29 [wiP c, wiP y] = some (.tu [wiP wi0, wiP wi0, .i .i64 1]) := by rw [yw]; exact p_Div0 c
    have sc : (cmpI Y 0 = 0) = True := by rw [h0]; simp [cmpI]
    simp (disch := omega) only [go_sem, seval, wrap_i64, wrap_u64, wrap_u32, wrap_u8, wrap_i32, n0, n6, n12, wx, wy, wz, fa, fb, fc, fd, fi, fk, fn]
    refine wk_calmX [11] rfl (by simp only [go_sem, seval]) ?_
    simp (disch := omega) only [go_sem, seval, wrap_i64, wrap_u64, wrap_u32, wrap_u8, wrap_i32, z1, z2, z3, c1, c2, c3, s1, s2, d1, sy, sc, lv]
  · obtain ⟨q, r, hq, hr, fq⟩ := div_ex c y hc hyv h0
    have hr0 : 0 ≤ C % Y := Int.emod_nonneg _ h0
    have hr1 : C % Y < Y.natAbs := Int.emod_lt _ h0
    have lr : tlen (C % Y).natAbs ≤ tlen Y.natAbs := tlen_mono (by omega)
    have ep : C / Y * Y = C - C % Y := by have := Int.mul_ediv_add_emod C Y; rw [Int.mul_comm Y] at this; omega
    have lp := tlen_subI C (C % Y)
    obtain ⟨p, hp, fp⟩ := mul_ex q y hq hyv (by rw [ep]; omega)
    rw [ep] at hp
    have eu : C - C % Y + C % Y = C := by omega
    obtain ⟨u, hu, fu⟩ := add_ex p r hp hr (by rw [eu]; omega)
    rw [eu] at hu
    generalize C % Y = R at *
    have c4 := cmp_v u c hu hc
    have s4 := sign_v r hr
    have g1 : ∃ e : Int, e = cmpI R 0 ∧ 0 ≤ e := ⟨_, rfl, by unfold cmpI; rw [if_neg (by omega)]; split <;> omega⟩
    obtain ⟨e, he, ge⟩ := g1
    rw [← he] at s4
    by_cases h1 : Y < 0
    · have sc : cmpI Y 0 = -1 := by unfold cmpI; rw [if_pos h1]
      rw [sc] at sy
      have ng := p_Neg y
      have c5 := cmp_v r y.neg hr (b := -Y) (by show -y.v = -Y; rw [hyv])
      have sd : cmpI R (-Y) = -1 := by unfold cmpI; rw [if_pos (by omega)]
      rw [sd] at c5
      simp (disch := omega) only [go_sem, seval, wrap_i64, wrap_u64, wrap_u32, wrap_u8, wrap_i32, n0, n6, n12, wx, wy, wz, fa, fb, fc, fd, fi, fk, fn]
      refine wk_calmX [11] rfl (by simp only [go_sem, seval]) ?_
      simp (disch := omega) only [go_sem, seval, wrap_i64, wrap_u64, wrap_u32, wrap_u8, wrap_i32, z1, z2, z3, c1, c2, c3, s1, s2, fq, sy, fp, fu, ng, c4, s4, ge, c5, lv]
    · have sc : cmpI Y 0 = 1 := by unfold cmpI; rw [if_neg (by omega), if_pos (by omega)]
      rw [sc] at sy
      have c5 := cmp_v r y hr hyv
      have sd : cmpI R Y = -1 := by unfold cmpI; rw [if_pos (by omega)]
      rw [sd] at c5
      simp (disch := omega) only [go_sem, seval, wrap_i64, wrap_u64, wrap_u32, wrap_u8, wrap_i32, n0, n6, n12, wx, wy, wz, fa, fb, fc, fd, fi, fk, fn]
      refine wk_calmX [11] rfl (by simp only [go_sem, seval]) ?_
      simp (disch := omega) only [go_sem, seval, wrap_i64, wrap_u64, wrap_u32, wrap_u8, wrap_i32, z1, z2, z3, c1, c2, c3, s1, s2, fq, sy, fp, fu, c4, s4, ge, c5, lv]
end Go.Eng
namespace Go.Eng
theorem decI_len {z : Int} (lz : tlen z.natAbs < 100000) : (decI z).length < 4611686018427387904 := by
  have : dlen z.natAbs ≤ 4 * tlen z.natAbs := by
    rw [dlen_iff, Nat.pow_mul]; exact tlen_lt _
  have h1 : (dec z.natAbs).length ≤ 4 * tlen z.natAbs + 1 := by
    unfold dec; split
    · simp
    · rw [dtx_len]; omega
  unfold decI; split <;> (try simp only [List.length_cons]) <;> omega
theorem near_lim (n : Int) : tlen (near n).natAbs ≤ 16387 := by
  have := nearO_lim n
  unfold near
  split
  · rw [Int.natAbs_neg]; exact this
  · exact this
theorem inR_K {v K : Nat} (hK : K = 16384) (h : v < 2 ^ K) : inR v := by subst hK; exact h
theorem pow_add3 {j k : Nat} (h : j + 3 ≤ k) : 2 ^ j + 3 < 2 ^ k := by
  have h1 : 0 < 2 ^ j := Nat.pow_pos (by decide)
  have h2 : 2 ^ (j + 3) ≤ 2 ^ k := Nat.pow_le_pow_right (by decide) h
  rw [Nat.pow_add] at h2
  omega
theorem near8 {q : Int} (q0 : 0 ≤ q) (q1 : q < 7) : inR (near (4 * q + 2)).natAbs := by
  have h1 : aro (4 * q + 2) 28 = 4 * q + 2 := by
    unfold aro
    rw [if_neg (by omega)]; omega
  have h0 : (4 * q + 2).tdiv 28 = 0 := by rw [Int.tdiv_eq_ediv_of_nonneg (by omega)]; omega
  have h2 : near (4 * q + 2) = nearO (4 * q + 2) := by
    unfold near
    rw [h0, if_neg (by decide)]
  rw [h2]
  unfold nearO
  rw [h1]
  have e : nearB ((4 * q + 2).toNat % 4) = 8192 := by
    have : (4 * q + 2).toNat % 4 = 2 := by omega
    rw [this]; rfl
  rw [e]
  obtain ⟨K, hK⟩ : ∃ K : Nat, K = 16384 := ⟨_, rfl⟩
  obtain ⟨J, hJ⟩ : ∃ J : Nat, J = 8192 := ⟨_, rfl⟩
  refine inR_K hK ?_
  rw [← hJ]
  have := pow_add3 (j := J) (k := K) (by omega)
  have h3 := natAbs_two J
  omega
theorem lim_ex {z : Int} (h : tlen z.natAbs < 100000) :
    (pf E0 126 [nP z] = some (.b true) ∧ lerr z = 0 ∧ pf E0 112 [wiP (clip z), nP z] = some (.b true)) ∨
    (pf E0 126 [nP z] = some (.b false) ∧ lerr z = 4 ∧ pf E0 31 [wiP (clip z)] = some (.i .i64 0)) := by
  have h1 := p_rFits z (by omega)
  have h2 : (tlen z.natAbs < 1230 ∨ z.natAbs < 2 ^ 16384) = inR z.natAbs := propext (fits_iff _)
  simp only [h2] at h1
  by_cases hR : inR z.natAbs
  · refine .inl ⟨by rw [h1, decide_eq_true hR], lerr_ok (inR_w hR), ?_⟩
    have h3 := p_equal (clip z) (z := z) h
    rwa [decide_eq_true (clip_v (inR_w hR))] at h3
  · have hw : ¬ wlen z.natAbs ≤ 512 := fun q => hR ((wide_iff _).1 q)
    refine .inr ⟨by rw [h1, decide_eq_false hR], lerr_no hw, ?_⟩
    rw [clip_no hw]
    exact sign_v wi0 (a := 0) rfl
set_option maxRecDepth 20000 in
theorem p_WideLimits {n m k : Int} (hn : Fits64 n) (hm : Fits64 m) (hk : Fits64 k) : pf E0 106 [.i .i64 n, .i .i64 m, .i .i64 k] = some (.b true) := by
  refine pf_run (xf := x_skymosaic_skymosaiclaw03_WideLimits) rfl (by simp [x_skymosaic_skymosaiclaw03_WideLimits]) ?_
  simp only [x_skymosaic_skymosaiclaw03_WideLimits]
  have na := p_Near hn
  have la := near_lim n
  generalize near n = A at *
  have hb := p_Bound (m := 3) hk (by omega) (by omega)
  have b0 := aro_nonneg k (m := 2 * 3 + 1) (by omega)
  have b1 := aro_lt k (m := 2 * 3 + 1) (by omega)
  have hB : ∃ B : Int, B = aro k (2 * 3 + 1) - 3 ∧ -3 ≤ B ∧ B ≤ 3 := ⟨_, rfl, by omega, by omega⟩
  obtain ⟨B, hB, B0, B1⟩ := hB
  rw [← hB] at hb
  have ob := p_rOf B (by unfold Fits64; omega)
  have lb : tlen B.natAbs ≤ 1 := tlen_small (by show B.natAbs < 10000 ^ 1; omega)
  have h7 := p_Around hm (m := 7) (by decide) (by omega)
  have a0 := aro_nonneg m (m := 7) (by omega)
  have a1 := aro_lt m (m := 7) (by omega)
  generalize aro m 7 = q at *
  have hf : Fits64 (4 * q + 2) := by unfold Fits64; omega
  have nc := p_Near hf
  have lc := near_lim (4 * q + 2)
  have rc := near8 a0 a1
  generalize hv : 4 * q + 2 = v at *
  generalize near v = C at *
  have tx := p_Text (z := A) (by omega)
  have p1 := p_Parse (decI A) (decI_len (by omega))
  have p2 := p_rParse (decI A) (decI_len (by omega))
  rw [parseT_dec] at p1 p2
  have wb := p_wider (z := B) (by omega)
  have wc := p_wider (z := C) (by omega)
  have rb : inR B.natAbs := inR_of (by omega)
  rw [decide_eq_true rb] at wb
  rw [decide_eq_true rc] at wc
  have hyv := clip_v (inR_w rb)
  have hzv := clip_v (inR_w rc)
  generalize clip B = y at *
  generalize clip C = z at *
  have lv := p_lives
  by_cases hR : inR A.natAbs
  · rw [if_pos hR] at p1 p2
    simp only at p1 p2
    have hxv := clip_v (inR_w hR)
    generalize clip A = x at *
    have f1 := p_Add x y
    have f2 := p_Sub x y
    have f3 := p_Mul x y
    have f4 := p_Mul z z
    rw [hxv, hyv] at f1 f2 f3
    rw [hzv] at f4
    have r1 := p_rAdd A B (by omega) (by omega)
    have r2 := p_rSub A B (by omega) (by omega)
    have r3 := p_rMul A B (by omega) (by omega)
    have r4 := p_rMul C C (by omega) (by omega)
    have t1 := tlen_addI A B
    have t2 := tlen_subI A B
    have t3 := tlen_mulI A B
    have t4 := tlen_mulI C C
    generalize A + B = z1 at *
    generalize A - B = z2 at *
    generalize A * B = z3 at *
    generalize C * C = z4 at *
    have k1 := lim_ex (z := z1) (by omega)
    have k2 := lim_ex (z := z2) (by omega)
    have k3 := lim_ex (z := z3) (by omega)
    have k4 := lim_ex (z := z4) (by omega)
    simp (disch := omega) only [go_sem, seval, wrap_i64, wrap_u64, wrap_u32, wrap_u8, wrap_i32, na, hb, ob, h7, hv, nc, tx, p1, p2, wb, wc, f1, f2, f3, f4, r1, r2, r3, r4, fill_C, fillC_def]
    refine wk_calmX [7, 8, 9] rfl (by simp only [go_sem, seval]) ?_
    simp (disch := omega) only [go_sem, seval, wrap_i64, wrap_u64, wrap_u32, wrap_u8, wrap_i32, r1, r2, r3, r4, fill_C, fillC_def]
    refine wk_roll x_skymosaic_skymosaiclaw03_WideLimits_l1.eq_1 ?_
    rcases k1 with ⟨u1, v1, q1⟩ | ⟨u1, v1, q1⟩ <;>
    ( simp (disch := omega) only [go_sem, seval, wrap_i64, wrap_u64, wrap_u32, wrap_u8, wrap_i32, u1, v1, q1]
      refine wk_roll x_skymosaic_skymosaiclaw03_WideLimits_l1.eq_1 ?_
      rcases k2 with ⟨u2, v2, q2⟩ | ⟨u2, v2, q2⟩ <;>
      ( simp (disch := omega) only [go_sem, seval, wrap_i64, wrap_u64, wrap_u32, wrap_u8, wrap_i32, u2, v2, q2]
        refine wk_roll x_skymosaic_skymosaiclaw03_WideLimits_l1.eq_1 ?_
        rcases k3 with ⟨u3, v3, q3⟩ | ⟨u3, v3, q3⟩ <;>
        ( simp (disch := omega) only [go_sem, seval, wrap_i64, wrap_u64, wrap_u32, wrap_u8, wrap_i32, u3, v3, q3]
          refine wk_roll x_skymosaic_skymosaiclaw03_WideLimits_l1.eq_1 ?_
          rcases k4 with ⟨u4, v4, q4⟩ | ⟨u4, v4, q4⟩ <;>
          ( simp (disch := omega) only [go_sem, seval, wrap_i64, wrap_u64, wrap_u32, wrap_u8, wrap_i32, u4, v4, q4]
            refine wk_roll x_skymosaic_skymosaiclaw03_WideLimits_l1.eq_1 ?_
            simp (disch := omega) only [go_sem, seval, wrap_i64, wrap_u64, wrap_u32, wrap_u8, wrap_i32, lv]))))
  · rw [if_neg hR] at p1 p2
    simp only at p1 p2
    have c0 : clip 0 = wi0 := by rw [clip_ok (z := 0) (by simp [wlen_zero])]; rfl
    rw [c0] at p1
    have e0 := eq_v wi0 (a := 0) rfl
    have hz : nP 0 = wiP wi0 := n_zero.symm
    rw [hz] at e0 p2
    simp (disch := omega) only [go_sem, seval, wrap_i64, wrap_u64, wrap_u32, wrap_u8, wrap_i32, na, hb, ob, h7, hv, nc, tx, p1, p2, wb, wc, e0, lv]
end Go.Eng
namespace Go.Eng
theorem dec_canon {ds : List UInt8} (h0 : ds ≠ []) (hd : ds.all isDig = true) (h48 : ds.head? = some 48 → ds.length = 1) : dec (tv ds) = ds := by
  cases ds with
  | nil => exact (h0 rfl).elim
  | cons c t =>
    by_cases hc : c = 48
    · subst hc
      have : t = [] := List.eq_nil_of_length_eq_zero (by have := h48 rfl; simp only [List.length_cons] at this; omega)
      subst this
      have e : tv [48] = 0 := rfl
      rw [e]; unfold dec; rw [if_pos rfl]
    · have h1 := hd
      simp only [List.all_cons, Bool.and_eq_true, isDig, decide_eq_true_eq] at h1
      have h2 : 49 ≤ c.toNat := by
        have : c.toNat ≠ 48 := fun q => hc (UInt8.toNat_inj.1 (by rw [q]; rfl))
        omega
      have ht : tv (c :: t) = (c.toNat - 48) * 10 ^ t.length + tv t := rfl
      have hp : 0 < 10 ^ t.length := Nat.pow_pos (by decide)
      have hge : 10 ^ t.length ≤ tv (c :: t) := by
        rw [ht]
        have : 1 * 10 ^ t.length ≤ (c.toNat - 48) * 10 ^ t.length := Nat.mul_le_mul_right _ (by omega)
        omega
      have hlt := tv_lt (c :: t) hd
      have a1 : dlen (tv (c :: t)) ≤ (c :: t).length := dlen_iff.2 hlt
      have a2 : ¬ dlen (tv (c :: t)) ≤ t.length := fun q => by have := dlen_iff.1 q; omega
      have a3 : dlen (tv (c :: t)) = (c :: t).length := by simp only [List.length_cons] at a1 ⊢; omega
      have hne : tv (c :: t) ≠ 0 := by omega
      have := dtx_tv (c :: t) hd
      unfold dec
      rw [if_neg hne, a3]
      exact this
theorem decI_len2 (z : Int) : (decI z).length ≤ 4 * tlen z.natAbs + 2 := by
  have : dlen z.natAbs ≤ 4 * tlen z.natAbs := by
    rw [dlen_iff, Nat.pow_mul]; exact tlen_lt _
  have h1 : (dec z.natAbs).length ≤ 4 * tlen z.natAbs + 1 := by
    unfold dec; split
    · simp
    · rw [dtx_len]; omega
  unfold decI; split <;> (try simp only [List.length_cons]) <;> omega
theorem txt_ex (S : List UInt8) (hS : S.length < 4611686018427387904) : ∃ (z e : Int) (x : WI), pf E0 110 [.s S] = some (.tu [wiP x, .i .i64 e]) ∧ pf E0 111 [.s S] = some (.tu [nP z, .i .i64 e]) ∧
    pf E0 112 [wiP x, nP z] = some (.b true) ∧ (((e = 0) = True ∧ pf E0 33 [wiP x] = some (.s S)) ∨ ((e = 0) = False ∧ pf E0 33 [wiP x] = pf E0 33 [wiP x])) := by
  have h1 := p_Parse S hS
  have h2 := p_rParse S hS
  have h0 : (clip 0).v = 0 := by rw [clip_v (by simp [wlen_zero])]
  rcases parseT_cases S with ⟨_, h⟩ | ⟨_, neg, ds, hs, ⟨_, h⟩ | ⟨n0, n1, n2, ⟨hR, h⟩ | ⟨_, h⟩⟩⟩
  · rw [h] at h1 h2
    exact ⟨_, _, _, h1, h2, eq_v _ h0, .inr ⟨by simp, rfl⟩⟩
  · rw [h] at h1 h2
    exact ⟨_, _, _, h1, h2, eq_v _ h0, .inr ⟨by simp, rfl⟩⟩
  · rw [h] at h1 h2
    have hab : (sgn neg (tv ds)).natAbs = tv ds := by unfold sgn; split <;> omega
    have hv : (clip (sgn neg (tv ds))).v = sgn neg (tv ds) := clip_v (inR_w (by rw [hab]; exact hR))
    refine ⟨_, _, _, h1, h2, eq_v _ hv, .inl ⟨by simp, ?_⟩⟩
    have h3 := p_Str (clip (sgn neg (tv ds)))
    rw [hv] at h3
    rw [h3]
    have hc := dec_canon n0 n2 fun q => (n1 q).2
    have e : decI (sgn neg (tv ds)) = S := by
      rcases hs with ⟨rfl, rfl⟩ | ⟨rfl, rfl, _⟩
      · have h48 : tv ds ≠ 0 := fun q => by
          rw [q] at hc
          have e0 : dec 0 = [48] := by unfold dec; rw [if_pos rfl]
          rw [e0] at hc
          rw [← hc] at n1
          have := (n1 rfl).1
          cases this
        unfold decI sgn
        rw [if_pos rfl, if_pos (by omega)]
        rw [Int.natAbs_neg, Int.natAbs_natCast, hc]
      · unfold decI sgn
        rw [if_neg Bool.false_ne_true, if_neg (by omega), Int.natAbs_natCast, hc]
    rw [e]
  · rw [h] at h1 h2
    exact ⟨_, _, _, h1, h2, eq_v _ h0, .inr ⟨by simp, rfl⟩⟩
theorem p_Short' (s : List UInt8) (m : Nat) (hm : m < 1000000) (hs : s.length ≤ 9223372036854775807) : pf E0 109 [.s s, .i .i64 (m : Int)] = some (.s (s.take m)) := by
  refine pf_run (xf := x_skymosaic_skymosaicref01_Short) rfl (by simp [x_skymosaic_skymosaicref01_Short]) ?_
  simp only [x_skymosaic_skymosaicref01_Short]
  by_cases h : m < s.length
  · have q1 : ((s.length : Int) > (m : Int)) = True := by simp; omega
    have hc : slStrP s none (some (.i .i64 (m : Int))) = some (.s (s.take m)) := by
      simp only [slStrP, optP, asNP_nat]
      rw [if_pos ⟨by omega, by omega⟩, List.drop_zero]
    simp (disch := omega) only [go_sem, seval, wrap_i64, wrap_u64, wrap_u32, wrap_u8, wrap_i32, q1, hc]
  · have q1 : ((s.length : Int) > (m : Int)) = False := by simp; omega
    rw [List.take_of_length_le (by omega)]
    simp (disch := omega) only [go_sem, seval, wrap_i64, wrap_u64, wrap_u32, wrap_u8, wrap_i32, q1]
def b2sP (M : PM) : PV → Option (PV × PM)
  | .nl => some (.s [], M)
  | .sl n off ln _ z =>
    if ln = 0 then some (.s [], M) else
    if z = 1 then (match (PM.rd M n off ln).bind bytesP with | some l => some (.s l, M) | none => none) else none
  | .lst xs => match bytesP xs with | some l => some (.s l, M) | none => none
  | _ => none
@[go_sem] theorem wl_b2s {E : PEnv} {F : PFin} {d : Option Nat} {af : List Nat} {l : List XOper} {ks : List KI} {fr : PFr} {M : PM} (x : X) : WL E F (⟨d, .b2s x, af, none⟩ :: l) ks fr M = WV E F (b2sP M (x.pv E.glob fr)) d l ks fr := by
  rw [wl_op]
  have : XO.pst E.glob (pcl E) fr M (.b2s x) = b2sP M (x.pv E.glob fr) := by
    simp only [XO.pst, XO.pev]
    cases x.pv E.glob fr <;> rfl
  rw [this]
def isPR : PV → Bool
  | .p _ _ => true
  | .sl _ _ _ _ _ => true
  | .tu _ => true
  | _ => false
@[go_sem] theorem isPR_un : isPR undefP = true := _root_.id rfl
@[go_sem] theorem isPR_p (n o : Nat) : isPR (.p n o) = true := _root_.id rfl
@[go_sem] theorem isPR_sl (n o l c z : Nat) : isPR (.sl n o l c z) = true := _root_.id rfl
def slotIn3 (E : PEnv) (ops : List XOper) (L : List Nat) (c : Nat × Nat) : Bool :=
  match ops[c.1]?, ops[c.2]? with
  | some a, some b =>
    match a.op.looks with
    | .t s => a.op.cls == 2 && L.contains s && calmOp E b.op
    | _ => false
  | _, _ => false
theorem wk_calmS {E : PEnv} {F : PFin} {ops : List XOper} {chk : List (Nat × Nat)} {ks : List KI} {fr : PFr} {M : PM} (L : List Nat) (hL : chk.all (fun c => calmC E ops c || slotIn3 E ops L c) = true)
    (hr : WL E ⟨(0 :: 0 :: L).map XR.tmp, fun w _ => ∃ l, w = .tu l ∧ (l.drop 2).all isPR = true⟩ ops [] fr M) (w : WL E F ops ks fr M) : WK E F (.drw ops chk) ks fr M := by
  refine wk_calmG (fun fr2 Ms hT => ?_) w
  have hp : L.all (fun s => isPR (fr2 s)) = true := by
    obtain ⟨lf, q, fr3, M3, vs, e, h1, h2, l, h3, h4⟩ := hr
    simp only [Option.bind_eq_some_iff, unw] at e
    obtain ⟨⟨fr4, M4⟩, e1, e2⟩ := e
    simp only [Option.some.injEq, Prod.mk.injEq] at e2
    obtain ⟨_, e3, e4⟩ := e2
    rw [← e3, ← e4] at h2
    obtain ⟨Ms', g1, g2⟩ := pOpsT_of e1
    rw [g1] at hT
    cases hT
    have hres : ∀ (f : PFr) (N : PM) (l : List Nat), pRes f N (l.map XR.tmp) = some (l.map f) := fun f N l => by
      induction l with
      | nil => rfl
      | cons a l ih => simp only [List.map_cons, pRes, pResOne, ih]
    rw [hres] at h2
    cases h2
    simp only [List.map_cons, packP] at h3
    cases h3
    simpa [List.all_map] using h4
  rw [List.all_eq_true] at hL hp ⊢
  rintro ⟨i, j⟩ hc
  have h1 := hL _ hc
  simp only [Bool.or_eq_true] at h1
  rcases h1 with h1 | h1
  · exact calm_chk hT h1
  · unfold slotIn3 at h1
    split at h1
    · rename_i a b ha hb
      split at h1
      · rename_i s hop
        simp only [Bool.and_eq_true, beq_iff_eq] at h1
        obtain ⟨⟨c0, c1⟩, c2⟩ := h1
        have hs := hp s (List.contains_iff_mem.1 c1)
        obtain ⟨fri, A, B, q1, q2, q3, q4⟩ := pOpsT_at hT ha
        obtain ⟨frj, C, D, p1, p2, p3, p4⟩ := pOpsT_at hT hb
        have p2' : Ms[(i, j).2 + 1]? = some D := p2
        have q2' : Ms[(i, j).1 + 1]? = some B := q2
        have hv : ∀ n : Nat, verP (some n) C D = true := fun n => by
          rcases p3 with ⟨_, v, p3⟩ | ⟨_, p3⟩
          · cases hopb : b.op with
            | call f l =>
              rw [hopb] at p3 c2
              obtain ⟨ns, rfl⟩ := pcl_mem c2 p3
              exact roM_verP ns C _
            | _ => rw [hopb] at c2; simp [calmOp] at c2
          · rw [p3]; simp [verP]
        simp only [chkP, ha, q1, q2, p1, p2]
        rw [if_neg (by rw [c0]; decide)]
        rw [hop]
        show chkV ops j (.t s) C D (fr2 s) = true
        cases hf : fr2 s with
        | p n o => exact hv n
        | sl n o l c z =>
          show (if l = 0 then true else verP (some n) C D) = true
          split
          · rfl
          · exact hv n
        | tu l => rfl
        | _ => rw [hf] at hs; simp [isPR] at hs
      · cases h1
    · cases h1
set_option maxHeartbeats 4000000 in
set_option maxRecDepth 20000 in
theorem p_WideTexts {s : List UInt8} (hs : s.length ≤ 9223372036854775807) {xs : List Int} (hx : Ints xs) {a : Int} (ha : Fits64 a) {c : Int} (hc : 0 ≤ c ∧ c ≤ 255) : pf E0 98 [.s s, ints xs, .i .i64 a, .i .u8 c] = some (.b true) := by
  refine pf_run (xf := x_skymosaic_skymosaiclaw03_WideTexts) rfl (by simp [x_skymosaic_skymosaiclaw03_WideTexts]) ?_
  simp only [x_skymosaic_skymosaiclaw03_WideTexts]
  have n0 := p_Number hx (a := 0) (by omega) (by omega)
  have l0 := num_lim xs 0
  generalize num xs 0 = X at *
  have tx := p_Text (z := X) (by omega)
  have tl := decI_len2 X
  have t0 : decI X ≠ [] := by
    unfold decI; split
    · simp
    · exact dec_ne _
  generalize decI X = t at *
  have sh : pf E0 109 [.s s, .i .i64 30] = some (.s (s.take 30)) := p_Short' s 30 (by omega) hs
  have tp : 0 < t.length := List.length_pos_iff.2 t0
  have ar := p_Around ha (m := t.length) (by unfold Fits64; omega) (by omega)
  have a0 := aro_nonneg a (m := t.length) (by omega)
  have a1 := aro_lt a (m := t.length) (by omega)
  obtain ⟨k, hk⟩ : ∃ k : Nat, aro a t.length = k := ⟨_, (Int.toNat_of_nonneg a0).symm⟩
  rw [hk] at ar a1
  have lv := p_lives
  have c1 : slStrP t none (some (.i .i64 (k : Int))) = some (.s (t.take k)) := by
    simp only [slStrP, optP, asNP_nat]
    rw [if_pos ⟨by omega, by omega⟩, List.drop_zero]
  have c2 : slStrP t (some (.i .i64 ((k : Int) + 1))) none = some (.s (t.drop (k + 1))) := by
    have e : ((k : Int) + 1) = ((k + 1 : Nat) : Int) := by omega
    rw [e]
    simp only [slStrP, optP, asNP_nat]
    rw [if_pos ⟨by omega, by omega⟩, List.take_length]
  generalize hu : UInt8.ofNat c.toNat = u
  have hb : b2sP [some ⟨[.i .u8 c], true, 0⟩] (.sl 0 0 1 1 1) = some (.s [u], [some ⟨[.i .u8 c], true, 0⟩]) := by rw [← hu]; rfl
  have s1 : binP .add (.s (t.take k)) (.s [u]) = some (.s (t.take k ++ [u])) := bin_sadd _ _ (by simp; omega)
  have s2 : binP .add (.s (t.take k ++ [u])) (.s (t.drop (k + 1))) = some (.s (t.take k ++ [u] ++ t.drop (k + 1))) := bin_sadd _ _ (by simp only [List.length_append, List.length_take, List.length_drop, List.length_cons, List.length_nil]; omega)
  have s3 : binP .add (.s t) (.s t) = some (.s (t ++ t)) := bin_sadd _ _ (by omega)
  obtain ⟨z1, e1, r1, x1, y1, q1, g1⟩ := txt_ex (s.take 30) (by simp; omega)
  obtain ⟨z2, e2, r2, x2, y2, q2, g2⟩ := txt_ex t (by omega)
  obtain ⟨z3, e3, r3, x3, y3, q3, g3⟩ := txt_ex (t.take k ++ [u] ++ t.drop (k + 1)) (by simp only [List.length_append, List.length_take, List.length_drop, List.length_cons, List.length_nil]; omega)
  obtain ⟨z4, e4, r4, x4, y4, q4, g4⟩ := txt_ex (t.take k) (by simp; omega)
  obtain ⟨z5, e5, r5, x5, y5, q5, g5⟩ := txt_ex (t ++ t) (by simp; omega)
  generalize t.take k ++ [u] ++ t.drop (k + 1) = T3 at *
  generalize t.take k = T4 at *
  generalize t ++ t = T5 at *
  generalize s.take 30 = T1 at *
  have k1 : (e1 ≠ e1) = False := by simp
  have k2 : (e2 ≠ e2) = False := by simp
  have k3 : (e3 ≠ e3) = False := by simp
  have k4 : (e4 ≠ e4) = False := by simp
  have k5 : (e5 ≠ e5) = False := by simp
  simp (disch := omega) only [go_sem, seval, wrap_i64, wrap_u64, wrap_u32, wrap_u8, wrap_i32, n0, tx, ar]
  refine wk_calmS [31] rfl ?_ ?_
  · simp (disch := omega) only [go_sem, seval, wrap_i64, wrap_u64, wrap_u32, wrap_u8, wrap_i32, sh, hb, c1, c2, s1, s2, s3, fill_C, fillC_def]
    exact ⟨_, rfl, rfl⟩
  simp (disch := omega) only [go_sem, seval, wrap_i64, wrap_u64, wrap_u32, wrap_u8, wrap_i32, sh, hb, c1, c2, s1, s2, s3, fill_C, fillC_def]
  refine wk_roll x_skymosaic_skymosaiclaw03_WideTexts_l1.eq_1 ?_
  rcases g1 with ⟨o1, w1⟩ | ⟨o1, w1⟩ <;>
  ( simp (disch := omega) only [go_sem, seval, wrap_i64, wrap_u64, wrap_u32, wrap_u8, wrap_i32, x1, y1]
    refine wk_calmS [85] rfl ?_ ?_
    · simp (disch := omega) only [go_sem, seval, wrap_i64, wrap_u64, wrap_u32, wrap_u8, wrap_i32, q1, o1, k1, w1]
      exact ⟨_, rfl, rfl⟩
    simp (disch := omega) only [go_sem, seval, wrap_i64, wrap_u64, wrap_u32, wrap_u8, wrap_i32, q1, o1, k1, w1]
    refine wk_roll x_skymosaic_skymosaiclaw03_WideTexts_l1.eq_1 ?_
    rcases g2 with ⟨o2, w2⟩ | ⟨o2, w2⟩ <;>
    ( simp (disch := omega) only [go_sem, seval, wrap_i64, wrap_u64, wrap_u32, wrap_u8, wrap_i32, x2, y2]
      refine wk_calmS [85] rfl ?_ ?_
      · simp (disch := omega) only [go_sem, seval, wrap_i64, wrap_u64, wrap_u32, wrap_u8, wrap_i32, q2, o2, k2, w2]
        exact ⟨_, rfl, rfl⟩
      simp (disch := omega) only [go_sem, seval, wrap_i64, wrap_u64, wrap_u32, wrap_u8, wrap_i32, q2, o2, k2, w2]
      refine wk_roll x_skymosaic_skymosaiclaw03_WideTexts_l1.eq_1 ?_
      rcases g3 with ⟨o3, w3⟩ | ⟨o3, w3⟩ <;>
      ( simp (disch := omega) only [go_sem, seval, wrap_i64, wrap_u64, wrap_u32, wrap_u8, wrap_i32, x3, y3]
        refine wk_calmS [85] rfl ?_ ?_
        · simp (disch := omega) only [go_sem, seval, wrap_i64, wrap_u64, wrap_u32, wrap_u8, wrap_i32, q3, o3, k3, w3]
          exact ⟨_, rfl, rfl⟩
        simp (disch := omega) only [go_sem, seval, wrap_i64, wrap_u64, wrap_u32, wrap_u8, wrap_i32, q3, o3, k3, w3]
        refine wk_roll x_skymosaic_skymosaiclaw03_WideTexts_l1.eq_1 ?_
        rcases g4 with ⟨o4, w4⟩ | ⟨o4, w4⟩ <;>
        ( simp (disch := omega) only [go_sem, seval, wrap_i64, wrap_u64, wrap_u32, wrap_u8, wrap_i32, x4, y4]
          refine wk_calmS [85] rfl ?_ ?_
          · simp (disch := omega) only [go_sem, seval, wrap_i64, wrap_u64, wrap_u32, wrap_u8, wrap_i32, q4, o4, k4, w4]
            exact ⟨_, rfl, rfl⟩
          simp (disch := omega) only [go_sem, seval, wrap_i64, wrap_u64, wrap_u32, wrap_u8, wrap_i32, q4, o4, k4, w4]
          refine wk_roll x_skymosaic_skymosaiclaw03_WideTexts_l1.eq_1 ?_
          rcases g5 with ⟨o5, w5⟩ | ⟨o5, w5⟩ <;>
          ( simp (disch := omega) only [go_sem, seval, wrap_i64, wrap_u64, wrap_u32, wrap_u8, wrap_i32, x5, y5]
            refine wk_calmS [85] rfl ?_ ?_
            · simp (disch := omega) only [go_sem, seval, wrap_i64, wrap_u64, wrap_u32, wrap_u8, wrap_i32, q5, o5, k5, w5]
              exact ⟨_, rfl, rfl⟩
            simp (disch := omega) only [go_sem, seval, wrap_i64, wrap_u64, wrap_u32, wrap_u8, wrap_i32, q5, o5, k5, w5]
            refine wk_roll x_skymosaic_skymosaiclaw03_WideTexts_l1.eq_1 ?_
            simp (disch := omega) only [go_sem, seval, wrap_i64, wrap_u64, wrap_u32, wrap_u8, wrap_i32, lv])))))
end Go.Eng
