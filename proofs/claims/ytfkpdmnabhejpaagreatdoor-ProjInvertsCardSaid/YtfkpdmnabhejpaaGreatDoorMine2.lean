/- The engine and the contracts on which the statement stands: no conditions of its own. -/
import Derived.Test.YtfkpdmnabhejpaaGreatDoorMine1
set_option linter.unusedSimpArgs false
set_option linter.unusedVariables false
set_option linter.unusedSectionVars false
namespace Go.Eng
section
variable {G : Nat → Option (List AV)} {call : PCall}
theorem zbS : ∀ {ops : List XOper} {fr fr2 : PFr} {M M2 : PM}, pOps G call ops fr M = some (fr2, M2) → ∃ Ms, pOpsT G call ops fr M = some (fr2, Ms) ∧ Ms.getLast? = some M2
 | [], fr, fr2, M, M2, e => by simp [pOps] at e; obtain ⟨rfl, rfl⟩ := e; exact ⟨[M], rfl, rfl⟩
 | o :: ops, fr, fr2, M, M2, e => by
  simp only [pOps] at e
  simp only [pOpsT]
  cases hw : o.pw fr with
  | none => rw [hw] at e; cases e
  | some b =>
   rw [hw] at e
   cases b with
   | true =>
    simp only at e ⊢
    cases hs : o.op.pst G call fr M with
    | none => rw [hs] at e; cases e
    | some q =>
     rw [hs] at e
     obtain ⟨Ms, h1, h2⟩ := zbS e
     exact ⟨M :: Ms, by simp [h1], by rw [List.getLast?_cons, h2]; rfl⟩
   | false =>
    obtain ⟨Ms, h1, h2⟩ := zbS e
    exact ⟨M :: Ms, by simp [h1], by rw [List.getLast?_cons, h2]; rfl⟩
theorem zbl : ∀ {ops : List XOper} {fr fr2 : PFr} {M : PM} {Ms : List PM}, pOpsT G call ops fr M = some (fr2, Ms) → Ms.head? = some M ∧ ∀ s, (ops.all fun o => o.dst != some s) = true → fr2 s = fr s
 | [], fr, fr2, M, Ms, e => by simp [pOpsT] at e; obtain ⟨rfl, rfl⟩ := e; exact ⟨rfl, fun _ _ => rfl⟩
 | o :: ops, fr, fr2, M, Ms, e => by
  simp only [pOpsT] at e
  have put : ∀ v s, (o.dst != some s) = true → (fr.putO o.dst v) s = fr s := fun v s hs => by
   have hne : o.dst ≠ some s := by simpa using hs
   cases hdst : o.dst with
   | none => rfl
   | some d =>
    have hds : s ≠ d := fun z => hne (by rw [hdst, z])
    simp [PFr.putO, PFr.put, hds]
  cases hw : o.pw fr with
  | none => rw [hw] at e; cases e
  | some b =>
   rw [hw] at e
   cases b with
   | true =>
    simp only at e
    cases hs : o.op.pst G call fr M with
    | none => rw [hs] at e; cases e
    | some q =>
     rw [hs] at e
     simp only [Option.map_eq_some_iff] at e
     obtain ⟨⟨f2, Ms1⟩, e1, e2⟩ := e
     cases e2
     refine ⟨rfl, fun s hs => ?_⟩
     simp only [List.all_cons, Bool.and_eq_true] at hs
     show f2 s = fr s
     rw [(zbl e1).2 s hs.2, put _ s hs.1]
   | false =>
    simp only [Option.map_eq_some_iff] at e
    obtain ⟨⟨f2, Ms1⟩, e1, e2⟩ := e
    cases e2
    refine ⟨rfl, fun s hs => ?_⟩
    simp only [List.all_cons, Bool.and_eq_true] at hs
    show f2 s = fr s
    rw [(zbl e1).2 s hs.2, put _ s hs.1]
theorem zaL : ∀ {ops : List XOper} {fr fr2 : PFr} {M : PM} {Ms : List PM}, pOpsT G call ops fr M = some (fr2, Ms) → ∀ {t : Nat} {o : XOper}, ops[t]? = some o →
  ∃ frt A B, Ms[t]? = some A ∧ Ms[t + 1]? = some B ∧ ((o.pw frt = some true ∧ ∃ v, o.op.pst G call frt A = some (v, B)) ∨ (o.pw frt = some false ∧ B = A)) ∧ ∀ x, fixedX ops t x = true → x.pv G fr2 = x.pv G frt
 | [], fr, fr2, M, Ms, e, t, o, ho => by simp at ho
 | o' :: ops, fr, fr2, M, Ms, e, t, o, ho => by
  have hk := zbl e
  simp only [pOpsT] at e
  cases hw : o'.pw fr with
  | none => rw [hw] at e; cases e
  | some b =>
   rw [hw] at e
   have fin : ∀ {fr1 : PFr} {M1 : PM} {Ms1 : List PM}, pOpsT G call ops fr1 M1 = some (fr2, Ms1) → Ms = M :: Ms1 → ((o'.pw fr = some true ∧ ∃ v, o'.op.pst G call fr M = some (v, M1)) ∨ (o'.pw fr = some false ∧ M1 = M)) →
     ∃ frt A B, Ms[t]? = some A ∧ Ms[t + 1]? = some B ∧ ((o.pw frt = some true ∧ ∃ v, o.op.pst G call frt A = some (v, B)) ∨ (o.pw frt = some false ∧ B = A)) ∧ ∀ x, fixedX (o' :: ops) t x = true → x.pv G fr2 = x.pv G frt := by
    intro fr1 M1 Ms1 e1 hMs hstep
    subst hMs
    cases t with
    | zero =>
     simp at ho; subst ho
     refine ⟨fr, M, M1, rfl, ?_, hstep, fun x hx => ?_⟩
     ·have := (zbl e1).1
      rw [List.head?_eq_getElem?] at this
      exact this
     ·cases x with
      | t s => exact hk.2 s (by simpa [fixedX] using hx)
      | k c => rfl
    | succ t =>
     obtain ⟨frt, A, B, q1, q2, q3, q4⟩ := zaL e1 (t := t) (o := o) (by simpa using ho)
     refine ⟨frt, A, B, q1, q2, q3, fun x hx => q4 x ?_⟩
     cases x with
     | t s => simpa [fixedX] using hx
     | k c => rfl
   cases b with
   | true =>
    simp only at e
    cases hs : o'.op.pst G call fr M with
    | none => rw [hs] at e; cases e
    | some q =>
     rw [hs] at e
     simp only [Option.map_eq_some_iff] at e
     obtain ⟨⟨f2, Ms1⟩, e1, e2⟩ := e
     cases e2
     exact fin e1 rfl (.inl ⟨hw, q.1, hs⟩)
   | false =>
    simp only [Option.map_eq_some_iff] at e
    obtain ⟨⟨f2, Ms1⟩, e1, e2⟩ := e
    cases e2
    exact fin e1 rfl (.inr ⟨hw, rfl⟩)
end
variable {E : PEnv} {F : PFin}
theorem zno (n : Nat) (M : PM) (k : Nat) : ((roB M n)[k]?).map (fun b => b.map PB.ver) = (M[k]?).map (fun b => b.map PB.ver) ∧ (roB M n).length = M.length := by
 unfold roB
 split
 ·rename_i b hb
  have hb' := zaJ.1 hb
  refine ⟨?_, by simp⟩
  by_cases hk : n = k
  ·subst hk
   rw [List.getElem?_set, hb']
   simp [zaQ hb']
  ·rw [List.getElem?_set_ne hk]
 ·exact ⟨rfl, rfl⟩
theorem ziC : ∀ (ns : List Nat) (M : PM) (k : Nat), ((roM M ns)[k]?).map (fun b => b.map PB.ver) = (M[k]?).map (fun b => b.map PB.ver) ∧ (roM M ns).length = M.length
 | [], M, k => ⟨rfl, rfl⟩
 | n :: ns, M, k => by
  have h1 := zno n M k
  have h2 := ziC ns (roB M n) k
  exact ⟨h2.1.trans h1.1, h2.2.trans h1.2⟩
theorem zcj (ns : List Nat) (M : PM) (n : Option Nat) : verP n M (roM M ns) = true := by
 cases n with
 | none => rfl
 | some n => simp only [verP, (ziC ns M n).1]; simp
theorem zc3 {f : Nat} {args : List PV} {M M' : PM} {v : PV} (hp : E.pure f = true) (e : pcl E f args M = some (v, M')) : ∃ ns, M' = roM M ns := by
 obtain ⟨k, e⟩ := zd8 e
 cases k with
 | zero => simp [pvF] at e
 | succ k =>
  simp only [pvF, hp, if_true] at e
  split at e
  ·split at e
   ·rename_i args' ns _
    split at e
    ·simp only [Option.map_eq_some_iff] at e
     obtain ⟨q, _, e2⟩ := e
     cases e2
     exact ⟨ns, rfl⟩
    ·cases e
   ·cases e
  ·split at e
   ·rename_i args' ns _
    split at e
    ·simp only [Option.map_eq_some_iff] at e
     obtain ⟨q, _, e2⟩ := e
     cases e2
     exact ⟨ns, rfl⟩
    ·cases e
   ·cases e
  ·cases e
def XO.makes : XO → Bool
 | .new _ | .box _ => true
 | .bsl n _ _ _ => n != 0
 | _ => false
def calmOp (E : PEnv) : XO → Bool
 | .call f _ => E.pure f
 | _ => false
def calmC (E : PEnv) (ops : List XOper) (c : Nat × Nat) : Bool :=
 match ops[c.1]?, ops[c.2]? with
 | some a, some b => a.guard.isNone && calmOp E b.op && (if a.op.cls = 1 then a.op.makes else a.op.cls == 2 && fixedX ops c.2 a.op.looks && fixedX ops c.1 a.op.looks)
 | _, _ => false
theorem zhO {G : Nat → Option (List AV)} {call : PCall} {o : XO} (hm : o.makes = true) {fr : PFr} {M M' : PM} {v : PV} (e : o.pst G call fr M = some (v, M')) : M.length < M'.length := by
 cases o <;> simp [XO.makes] at hm <;> simp only [XO.pst, XO.pev] at e
 case new => split at e <;> cases e; simp
 case box => split at e <;> cases e; simp
 case bsl =>
  split at e
  ·split at e
   ·cases e; simp
   ·cases e
  ·cases e
theorem zje {G : Nat → Option (List AV)} {call : PCall} {o : XO} (hc : o.cls = 2) {fr : PFr} {M M' : PM} {v : PV} (e : o.pst G call fr M = some (v, M')) : o.looks.pv G fr ≠ .bad := by
 intro hb
 cases o <;> simp [XO.cls] at hc <;> simp only [XO.pst, XO.pev, XO.looks] at e hb <;> rw [hb] at e <;> cases e
theorem zbv {ops : List XOper} {fr fr2 : PFr} {M : PM} {Ms : List PM} {i j : Nat} (h1 : pOpsT E.glob (pcl E) ops fr M = some (fr2, Ms)) (hcc : calmC E ops (i, j) = true) : chkP E.glob ops fr2 Ms (i, j) = true := by
 unfold calmC at hcc
 split at hcc
 ·rename_i a b ha hb
  simp only [Bool.and_eq_true] at hcc
  obtain ⟨⟨c1, c2⟩, c3⟩ := hcc
  obtain ⟨fri, A, B, q1, q2, q3, q4⟩ := zaL h1 ha
  obtain ⟨frj, C, D, p1, p2, p3, p4⟩ := zaL h1 hb
  have hver : ∀ n, verP n C D = true := fun n => by
   rcases p3 with ⟨_, v, p3⟩ | ⟨_, p3⟩
   ·cases hop : b.op with
    | call f l =>
     rw [hop] at p3 c2
     obtain ⟨ns, rfl⟩ := zc3 c2 p3
     exact zcj ns C n
    | _ => rw [hop] at c2; simp [calmOp] at c2
   ·rw [p3]; cases n <;> simp [verP]
  have hexec : ∃ v, a.op.pst E.glob (pcl E) fri A = some (v, B) := by
   rcases q3 with ⟨_, q3⟩ | ⟨q3, _⟩
   ·exact q3
   ·unfold XOper.pw at q3
    have : a.guard = none := by simpa using c1
    rw [this] at q3; cases q3
  obtain ⟨v, hexec⟩ := hexec
  have p2' : Ms[(i, j).2 + 1]? = some D := p2
  have q2' : Ms[(i, j).1 + 1]? = some B := q2
  simp only [chkP, ha, q1, q2, p1, p2]
  split
  ·rename_i hcls
   rw [if_pos hcls] at c3
   simp only [Bool.and_eq_true, decide_eq_true_eq]
   exact ⟨zhO c3 hexec, hver _⟩
  ·rename_i hcls
   rw [if_neg hcls] at c3
   simp only [Bool.and_eq_true, beq_iff_eq] at c3
   have hnb := zje c3.1.1 hexec
   rw [← q4 _ c3.2] at hnb
   generalize hpv : a.op.looks.pv E.glob fr2 = pv at hnb
   cases pv with
   | p n o => exact hver (some n)
   | sl n o l c z =>
    simp only [chkV]
    split
    ·rfl
    ·exact hver (some n)
   | bad => exact absurd rfl hnb
   | tu _ => rfl
   | _ => exact c3.1.2
 ·cases hcc
def calmS (ops : List XOper) (c : Nat × Nat) : Option (Nat × Nat) :=
 match ops[c.1]?, ops[c.2]? with
 | some ⟨_, .load _ _ (.t s), _, none⟩, some ⟨_, .store _ (.t r) _, _, none⟩ => if (ops.all fun o => o.dst != some s && o.dst != some r) = true then some (s, r) else none
 | _, _ => none
def apart : PV → PV → Prop
 | .p a _, .p b _ => a ≠ b
 | _, _ => False
theorem zjn {ops : List XOper} {fr fr2 : PFr} {M : PM} {Ms : List PM} {s r : Nat} (ha : (ops.all fun o => o.dst != some s && o.dst != some r) = true) : (ops.all fun o => o.dst != some s) = true ∧ (ops.all fun o => o.dst != some r) = true := by
 simp only [List.all_eq_true, Bool.and_eq_true] at ha ⊢
 exact ⟨fun o ho => (ha o ho).1, fun o ho => (ha o ho).2⟩
theorem zhx {ops : List XOper} {s t : Nat} (h : (ops.all fun o => o.dst != some s) = true) : fixedX ops t (.t s) = true := by
 simp only [fixedX, List.all_eq_true] at h ⊢
 exact fun o ho => h o (List.mem_of_mem_drop ho)
theorem zhf {ops : List XOper} {fr fr2 : PFr} {M : PM} {Ms : List PM} {i j s r : Nat} (h1 : pOpsT E.glob (pcl E) ops fr M = some (fr2, Ms)) (hs : calmS ops (i, j) = some (s, r)) (hap : apart (fr s) (fr r)) : chkP E.glob ops fr2 Ms (i, j) = true := by
 unfold calmS at hs
 split at hs
 ·rename_i d1 z1 n1 s1 af1 d2 n2 r1 x2 af2 ha hb
  split at hs
  ·rename_i hall
   cases hs
   obtain ⟨k1, k2⟩ := zjn (fr := fr) (fr2 := fr2) (M := M) (Ms := Ms) hall
   have hk := (zbl h1).2
   obtain ⟨fri, A, B, q1, q2, q3, q4⟩ := zaL h1 ha
   obtain ⟨frj, C, D, p1, p2, p3, p4⟩ := zaL h1 hb
   have p2' : Ms[(i, j).2 + 1]? = some D := p2
   have q2' : Ms[(i, j).1 + 1]? = some B := q2
   simp only [chkP, ha, q1, q2, p1, p2]
   rw [if_neg (by simp [XO.cls])]
   have e1 : fr2 s = fr s := hk s k1
   have e2 : frj r = fr r := by
    have := p4 (.t r) (zhx k2)
    simp only [X.pv] at this
    rw [← this]; exact hk r k2
   show chkV ops j (.t s) C D (fr2 s) = true
   rw [e1]
   revert hap
   cases hfs : fr s <;> simp only [apart, false_imp_iff, imp_self]
   rename_i na oa
   cases hfr : fr r <;> simp only [false_imp_iff]
   rename_i nb ob
   intro hne
   simp only [chkV, verP]
   rcases p3 with ⟨_, v, p3⟩ | ⟨p3, _⟩
   ·simp only [XO.pst, XO.pev] at p3
    rw [show X.pv E.glob frj (.t r) = .p nb ob from e2.trans hfr] at p3
    simp only at p3
    generalize (X.pv E.glob frj x2).cells = cs at p3
    split at p3
    ·split at p3
     ·cases p3
      rw [List.getElem?_set_ne (fun h => hne h.symm)]; simp
     ·cases p3
    ·cases p3
   ·simp [XOper.pw] at p3
  ·cases hs
 ·cases hs
def AllC (E : PEnv) (ops : List XOper) (fr : PFr) : List (Nat × Nat) → Prop
 | [] => True
 | c :: l => (calmC E ops c = true ∨ ∃ s r, calmS ops c = some (s, r) ∧ apart (fr s) (fr r)) ∧ AllC E ops fr l
theorem AllC.of {ops : List XOper} {fr : PFr} : ∀ {l : List (Nat × Nat)}, l.all (calmC E ops) = true → AllC E ops fr l
 | [], _ => trivial
 | c :: l, h => by
  simp only [List.all_cons, Bool.and_eq_true] at h
  exact ⟨.inl h.1, AllC.of h.2⟩
theorem AllC.chk {ops : List XOper} {fr fr2 : PFr} {M : PM} {Ms : List PM} (h1 : pOpsT E.glob (pcl E) ops fr M = some (fr2, Ms)) : ∀ {l : List (Nat × Nat)}, AllC E ops fr l → l.all (chkP E.glob ops fr2 Ms) = true
 | [], _ => rfl
 | (i, j) :: l, h => by
  simp only [List.all_cons, Bool.and_eq_true]
  refine ⟨?_, AllC.chk h1 h.2⟩
  rcases h.1 with h | ⟨s, r, h, h'⟩
  ·exact zbv h1 h
  ·exact zhf h1 h h'
theorem zbV {ops : List XOper} {chk : List (Nat × Nat)} {ks : List KI} {fr : PFr} {M : PM} (hc : AllC E ops fr chk) (w : WL E F ops ks fr M) : WK E F (.drw ops chk) ks fr M := by
 obtain ⟨lf, w⟩ := w
 refine ⟨lf, ?_⟩
 have key : pCode E.glob (pcl E) lf (.drw ops chk) fr M = (pOps E.glob (pcl E) ops fr M).map fun r => (.normal, r.1, r.2) := by
  simp only [pCode]
  congr 1
  cases hops : pOps E.glob (pcl E) ops fr M with
  | none => rw [hops] at w; exact (Ends.none w).elim
  | some r =>
   unfold pDrw
   by_cases h0 : chk = []
   ·rw [if_pos h0, hops]
   ·rw [if_neg h0]
    obtain ⟨fr2, M2⟩ := r
    obtain ⟨Ms, h1, h2⟩ := zbS hops
    rw [h1]
    have hall : chk.all (chkP E.glob ops fr2 Ms) = true := by
     exact hc.chk h1
    simp only [hall, if_true, h2, Option.map_some]
 rw [key]
 cases hops : pOps E.glob (pcl E) ops fr M with
 | none => rw [hops] at w; exact (Ends.none w).elim
 | some r => rw [hops] at w; exact w
theorem zbd {ops : List XOper} {chk : List (Nat × Nat)} {ks : List KI} {fr : PFr} {M : PM} (hc : chk.all (calmC E ops) = true) (w : WL E F ops ks fr M) : WK E F (.drw ops chk) ks fr M := zbV (AllC.of hc) w
end Go.Eng
namespace Go.Eng
variable {E : PEnv} {F : PFin}
@[go_sem] theorem zni (fr : PFr) (d : Nat) (v : PV) : fr.putO (some d) v = fr.put d v := _root_.id rfl
@[go_sem] theorem znh (fr : PFr) (v : PV) : fr.putO none v = fr := _root_.id rfl
@[go_sem] theorem zlB (fr : PFr) (d : Nat) (v : PV) (k : Nat) : fr.put d v k = if k = d then v else fr k := _root_.id rfl
@[go_sem] theorem zmt (a : PV) (l : List PV) : frOf (a :: l) 0 = a := _root_.id rfl
@[go_sem] theorem zms (a : PV) (l : List PV) (k : Nat) : frOf (a :: l) (k + 1) = frOf l k := _root_.id rfl
@[go_sem] theorem znT (k : Nat) : frOf [] k = undefP := _root_.id rfl
@[go_sem] theorem zs8 (G : Nat → Option (List AV)) (fr : PFr) (n : Nat) : X.pv G fr (.t n) = fr n := _root_.id rfl
@[go_sem] theorem zs7 (G : Nat → Option (List AV)) (fr : PFr) (v : AV) : X.pv G fr (.k v) = cst G v := _root_.id rfl
@[go_sem] theorem zsc (G : Nat → Option (List AV)) (v : Bool) : cst G (.b v) = .b v := _root_.id rfl
@[go_sem] theorem zsd (G : Nat → Option (List AV)) (k : IntKind) (n : Int) : cst G (.i k n) = .i k n := _root_.id rfl
@[go_sem] theorem zse (G : Nat → Option (List AV)) (l : List UInt8) : cst G (.s l) = .s l := _root_.id rfl
@[go_sem] theorem zqH (G : Nat → Option (List AV)) : cst G .sn = .nl := _root_.id rfl
@[go_sem] theorem zqG (G : Nat → Option (List AV)) (f : Nat) : cst G (.fn f []) = .fn f [] := _root_.id rfl
@[go_sem] theorem znO (G : Nat → Option (List AV)) : cst G .fnil = .fnil := _root_.id rfl
@[go_sem] theorem zqD (v : Bool) : cst0 (.b v) = .b v := _root_.id rfl
@[go_sem] theorem zqE (k : IntKind) (n : Int) : cst0 (.i k n) = .i k n := _root_.id rfl
@[go_sem] theorem zqF (l : List UInt8) : cst0 (.s l) = .s l := _root_.id rfl
@[go_sem] theorem zoI : cst0 .sn = .nl := _root_.id rfl
@[go_sem] theorem zrC (v : Bool) : PV.scal (.b v) = true := _root_.id rfl
@[go_sem] theorem zrD (k : IntKind) (n : Int) : PV.scal (.i k n) = true := _root_.id rfl
@[go_sem] theorem zrE (l : List UInt8) : PV.scal (.s l) = true := _root_.id rfl
@[go_sem] theorem zn7 (l : List PV) : PV.scal (.lst l) = true := _root_.id rfl
@[go_sem] theorem zqg : PV.scal .nl = true := _root_.id rfl
@[go_sem] theorem zoE (v : Bool) : PV.cells (.b v) = [.b v] := _root_.id rfl
@[go_sem] theorem zoF (k : IntKind) (n : Int) : PV.cells (.i k n) = [.i k n] := _root_.id rfl
@[go_sem] theorem zoG (l : List UInt8) : PV.cells (.s l) = [.s l] := _root_.id rfl
@[go_sem] theorem znJ (l : List PV) : PV.cells (.ag l) = l := _root_.id rfl
@[go_sem] theorem znE (p : PV → Bool) : [].all p = true := _root_.id rfl
@[go_sem] theorem zl2 (p : PV → Bool) (a : PV) (l : List PV) : (a :: l).all p = (p a && l.all p) := _root_.id rfl
@[go_sem] theorem ziV (b : Option PB) (M : PM) : PM.blk (b :: M) 0 = b := by cases b <;> rfl
@[go_sem] theorem zef (b : Option PB) (M : PM) (n : Nat) : PM.blk (b :: M) (n + 1) = PM.blk M n := _root_.id rfl
@[go_sem] theorem zp9 (l : List PV) : pickP true l = some (.ag l) := _root_.id rfl
@[go_sem] theorem zn4 (v : PV) : pickP false [v] = some v := _root_.id rfl
section
variable (d : Option Nat) (af : List Nat) (l : List XOper) (ks : List KI) (fr : PFr) (M : PM)
@[go_sem] theorem zr6 (x : X) : WL E F (⟨d, .mov x, af, none⟩ :: l) ks fr M = WL E F l ks (fr.putO d (x.pv E.glob fr)) M := by rw [zaU]; exact zfQ ..
@[go_sem] theorem zrR (op : BinOp) (x y : X) : WL E F (⟨d, .bin op x y, af, none⟩ :: l) ks fr M = WV1 E F (binP op (x.pv E.glob fr) (y.pv E.glob fr)) d l ks fr M := by rw [zaU]; exact zaW ..
@[go_sem] theorem zsW (op : UnOp) (x : X) : WL E F (⟨d, .un op x, af, none⟩ :: l) ks fr M = WV1 E F (unP op (x.pv E.glob fr)) d l ks fr M := by rw [zaU]; exact zaW ..
def boolP (ne : Bool) : Option Bool → Option PV
 | some v => some (.b (if ne then !v else v))
 | none => none
@[go_sem] theorem zoC (v : Bool) : boolP false (some v) = some (.b v) := _root_.id rfl
@[go_sem] theorem zoD (v : Bool) : boolP true (some v) = some (.b (!v)) := _root_.id rfl
@[go_sem] theorem zrW (ne : Bool) (c : Nat) (x y : X) : WL E F (⟨d, .eqt ne c x y, af, none⟩ :: l) ks fr M = WV1 E F (boolP ne (eqTP c (x.pv E.glob fr) (y.pv E.glob fr))) d l ks fr M := by
 rw [zaU, ← zaW]
 have : XO.pst E.glob (pcl E) fr M (.eqt ne c x y) = (boolP ne (eqTP c (x.pv E.glob fr) (y.pv E.glob fr))).map fun v => (v, M) := by
  show (eqTP c (x.pv E.glob fr) (y.pv E.glob fr)).map _ = _
  cases eqTP c (x.pv E.glob fr) (y.pv E.glob fr) <;> rfl
 rw [this]
def eqaP (ks : List Nat) : PV → PV → Option Bool
 | .ag xs, .ag ys => eqCellsP ks xs ys
 | _, _ => none
@[go_sem] theorem zkJ (ks : List Nat) (xs ys : List PV) : eqaP ks (.ag xs) (.ag ys) = eqCellsP ks xs ys := _root_.id rfl
@[go_sem] theorem zrV (ne : Bool) (c : List Nat) (x y : X) : WL E F (⟨d, .eqa ne c x y, af, none⟩ :: l) ks fr M = WV1 E F (boolP ne (eqaP c (x.pv E.glob fr) (y.pv E.glob fr))) d l ks fr M := by
 rw [zaU, ← zaW]
 have : XO.pst E.glob (pcl E) fr M (.eqa ne c x y) = (boolP ne (eqaP c (x.pv E.glob fr) (y.pv E.glob fr))).map fun v => (v, M) := by
  simp only [XO.pst, XO.pev]
  generalize x.pv E.glob fr = a
  generalize y.pv E.glob fr = b
  cases a <;> cases b <;> simp only [eqaP] <;> first | rfl | (rename_i xs ys; cases eqCellsP c xs ys <;> rfl)
 rw [this]
def cintP (k : IntKind) : PV → Option PV
 | .i _ n => some (.i k (k.wrap n))
 | _ => none
@[go_sem] theorem zoH (k k' : IntKind) (n : Int) : cintP k (.i k' n) = some (.i k (k.wrap n)) := _root_.id rfl
@[go_sem] theorem zqu (k : IntKind) (x : X) : WL E F (⟨d, .cint k x, af, none⟩ :: l) ks fr M = WV1 E F (cintP k (x.pv E.glob fr)) d l ks fr M := by
 rw [zaU, ← zaW]
 have : XO.pst E.glob (pcl E) fr M (.cint k x) = (cintP k (x.pv E.glob fr)).map fun v => (v, M) := by
  simp only [XO.pst, XO.pev]
  cases x.pv E.glob fr <;> rfl
 rw [this]
def lenP : PV → Option PV
 | .sl _ _ ln _ _ => some (.i .i64 ln)
 | .nl => some (.i .i64 0)
 | .lst xs => some (.i .i64 xs.length)
 | _ => none
@[go_sem] theorem zo5 (n o ln c z : Nat) : lenP (.sl n o ln c z) = some (.i .i64 ln) := _root_.id rfl
@[go_sem] theorem zo4 : lenP .nl = some (.i .i64 0) := _root_.id rfl
@[go_sem] theorem znX (xs : List PV) : lenP (.lst xs) = some (.i .i64 xs.length) := _root_.id rfl
@[go_sem] theorem zr4 (x : X) : WL E F (⟨d, .len x, af, none⟩ :: l) ks fr M = WV1 E F (lenP (x.pv E.glob fr)) d l ks fr M := by
 rw [zaU, ← zaW]
 have : XO.pst E.glob (pcl E) fr M (.len x) = (lenP (x.pv E.glob fr)).map fun v => (v, M) := by
  simp only [XO.pst, XO.pev]
  cases x.pv E.glob fr <;> rfl
 rw [this]
def lensP : PV → Option PV
 | .s l => some (.i .i64 l.length)
 | _ => none
@[go_sem] theorem zo6 (l : List UInt8) : lensP (.s l) = some (.i .i64 l.length) := _root_.id rfl
@[go_sem] theorem zqw (x : X) : WL E F (⟨d, .lens x, af, none⟩ :: l) ks fr M = WV1 E F (lensP (x.pv E.glob fr)) d l ks fr M := by
 rw [zaU, ← zaW]
 have : XO.pst E.glob (pcl E) fr M (.lens x) = (lensP (x.pv E.glob fr)).map fun v => (v, M) := by
  simp only [XO.pst, XO.pev]
  cases x.pv E.glob fr <;> rfl
 rw [this]
def pickB (a b : PV) : PV → Option PV
 | .b v => some (if v then a else b)
 | _ => none
@[go_sem] theorem zp8 (a b : PV) : pickB a b (.b true) = some a := _root_.id rfl
@[go_sem] theorem zp7 (a b : PV) : pickB a b (.b false) = some b := _root_.id rfl
@[go_sem] theorem zqx (c x y : X) : WL E F (⟨d, .pick c x y, af, none⟩ :: l) ks fr M = WV1 E F (pickB (x.pv E.glob fr) (y.pv E.glob fr) (c.pv E.glob fr)) d l ks fr M := by
 rw [zaU, ← zaW]
 have : XO.pst E.glob (pcl E) fr M (.pick c x y) = (pickB (x.pv E.glob fr) (y.pv E.glob fr) (c.pv E.glob fr)).map fun v => (v, M) := by
  simp only [XO.pst, XO.pev]
  cases c.pv E.glob fr <;> rfl
 rw [this]
@[go_sem] theorem zr5 (f : Nat) (xs : List X) : WL E F (⟨d, .mfn f xs, af, none⟩ :: l) ks fr M = WL E F l ks (fr.putO d (.fn f (xs.map (X.pv E.glob fr)))) M := by rw [zaU]; exact zfQ ..
def fadP (off : Nat) : PV → Option PV
 | .p m o => some (.p m (o + off))
 | .fp l => some (.fp (l.drop off))
 | _ => none
@[go_sem] theorem zqJ (off m o : Nat) : fadP off (.p m o) = some (.p m (o + off)) := _root_.id rfl
@[go_sem] theorem zrY (off : Nat) (x : X) : WL E F (⟨d, .fad off x, af, none⟩ :: l) ks fr M = WV1 E F (fadP off (x.pv E.glob fr)) d l ks fr M := by
 rw [zaU, ← zaW]
 have : XO.pst E.glob (pcl E) fr M (.fad off x) = (fadP off (x.pv E.glob fr)).map fun v => (v, M) := by
  simp only [XO.pst, XO.pev]
  cases x.pv E.glob fr <;> rfl
 rw [this]
def fldP (agg : Bool) (off n : Nat) : PV → Option PV
 | .ag l => if off + n ≤ l.length then pickP agg ((l.drop off).take n) else none
 | _ => none
@[go_sem] theorem zrZ (agg : Bool) (off n : Nat) (x : X) : WL E F (⟨d, .fld agg off n x, af, none⟩ :: l) ks fr M = WV1 E F (fldP agg off n (x.pv E.glob fr)) d l ks fr M := by
 rw [zaU, ← zaW]
 have : XO.pst E.glob (pcl E) fr M (.fld agg off n x) = (fldP agg off n (x.pv E.glob fr)).map fun v => (v, M) := by
  simp only [XO.pst, XO.pev]
  generalize x.pv E.glob fr = a
  cases a <;> simp only [fldP] <;> first | rfl | (split <;> rfl)
 rw [this]
def extP (n : Nat) : PV → Option PV
 | .tu l => l[n]?
 | _ => none
@[go_sem] theorem zoL (n : Nat) (xs : List PV) : extP n (.tu xs) = xs[n]? := _root_.id rfl
@[go_sem] theorem zrX (x : X) (n : Nat) : WL E F (⟨d, .ext x n, af, none⟩ :: l) ks fr M = WV1 E F (extP n (x.pv E.glob fr)) d l ks fr M := by
 rw [zaU, ← zaW]
 have : XO.pst E.glob (pcl E) fr M (.ext x n) = (extP n (x.pv E.glob fr)).map fun v => (v, M) := by
  simp only [XO.pst, XO.pev]
  cases x.pv E.glob fr <;> rfl
 rw [this]
@[go_sem] theorem zsV (mx : Bool) (x : X) (xs : List X) : WL E F (⟨d, .mm mx x xs, af, none⟩ :: l) ks fr M = WV1 E F (mmP mx (x.pv E.glob fr) (xs.map (X.pv E.glob fr))) d l ks fr M := by rw [zaU]; exact zaW ..
@[go_sem] theorem zoh (z : List AV) (ps : List (Nat × Nat × X)) : WL E F (⟨d, .build z ps, af, none⟩ :: l) ks fr M = WV1 E F ((fillP E.glob fr (z.map cst0) ps).map .ag) d l ks fr M := by
 rw [zaU, ← zaW]
 have : XO.pst E.glob (pcl E) fr M (.build z ps) = ((fillP E.glob fr (z.map cst0) ps).map .ag).map fun v => (v, M) := by
  simp only [XO.pst, XO.pev, Option.map_map]
  rfl
 rw [this]
@[go_sem] theorem znP (G : Nat → Option (List AV)) (z : List PV) : fillP G fr z [] = some z := _root_.id rfl
def fill1 (z : List PV) (off : Nat) : List PV → Option (List PV)
 | [c] => if off < z.length ∧ c.scal = true then some (z.set off c) else none
 | _ => none
@[go_sem] theorem zmq (z : List PV) (off : Nat) (c : PV) : fill1 z off [c] = if off < z.length ∧ c.scal = true then some (z.set off c) else none := _root_.id rfl
def fillB (G : Nat → Option (List AV)) (ps : List (Nat × Nat × X)) : Option (List PV) → Option (List PV)
 | some z => fillP G fr z ps
 | none => none
@[go_sem] theorem zlX (G : Nat → Option (List AV)) (z : List PV) (ps : List (Nat × Nat × X)) : fillB fr G ps (some z) = fillP G fr z ps := _root_.id rfl
theorem ziF (z : List PV) (off : Nat) (x : PV) (h : off < z.length) : psplice z off [x] = z.set off x := by
 rw [List.set_eq_take_append_cons_drop, if_pos h]
 simp [psplice]
@[go_sem] theorem znQ (G : Nat → Option (List AV)) (z : List PV) (off : Nat) (x : X) (ps : List (Nat × Nat × X)) : fillP G fr z ((off, (1, x)) :: ps) = fillB fr G ps (fill1 z off (x.pv G fr).cells) := by
 simp only [fillP]
 generalize hv : (x.pv G fr).cells = cs
 match cs, hv with
 | [c], hv =>
  simp only [fill1, List.length_cons, List.length_nil, Nat.zero_add, List.all_cons, List.all_nil, Bool.and_true, true_and]
  by_cases h : off < z.length ∧ c.scal = true
  ·rw [if_pos h, if_pos ⟨by omega, h.2⟩, ziF _ _ _ h.1]; rfl
  ·rw [if_neg h, if_neg (fun q => h ⟨by omega, q.2⟩)]; rfl
 | [], hv => simp only [fill1]; rw [if_neg (by simp)]; rfl
 | _ :: _ :: _, hv => simp only [fill1]; rw [if_neg (by simp)]; rfl
end
section
variable (d : Option Nat) (af : List Nat) (l : List XOper) (ks : List KI) (fr : PFr) (M : PM)
def idxP (sz : Nat) : PV → Option Nat → Option PV
 | .sl m off ln _ z, some j => if j < ln ∧ z = sz then some (.p m (off + j * sz)) else none
 | .lst xs, some j => match xs[j]? with | some y => if y.cells.length = sz then some (.fp y.cells) else none | none => none
 | _, _ => none
@[go_sem] theorem zo1 (sz m off ln c z j : Nat) : idxP sz (.sl m off ln c z) (some j) = if j < ln ∧ z = sz then some (.p m (off + j * sz)) else none := _root_.id rfl
def idx1 (sz : Nat) : Option PV → Option PV
 | some y => if y.cells.length = sz then some (.fp y.cells) else none
 | none => none
@[go_sem] theorem zmw (sz : Nat) (y : PV) : idx1 sz (some y) = if y.cells.length = sz then some (.fp y.cells) else none := _root_.id rfl
@[go_sem] theorem zen (sz j : Nat) (xs : List PV) : idxP sz (.lst xs) (some j) = idx1 sz xs[j]? := by
 show (match xs[j]? with | some y => if y.cells.length = sz then some (PV.fp y.cells) else none | none => none) = _
 cases xs[j]? <;> rfl
@[go_sem] theorem zr3 (sz : Nat) (x i : X) : WL E F (⟨d, .ixs sz x i, af, none⟩ :: l) ks fr M = WV1 E F (idxP sz (x.pv E.glob fr) (asNP (i.pv E.glob fr))) d l ks fr M := by
 rw [zaU, ← zaW]
 have : XO.pst E.glob (pcl E) fr M (.ixs sz x i) = (idxP sz (x.pv E.glob fr) (asNP (i.pv E.glob fr))).map fun v => (v, M) := by
  simp only [XO.pst, XO.pev]
  generalize x.pv E.glob fr = a
  generalize asNP (i.pv E.glob fr) = b
  cases a with
  | sl m off ln c z =>
   cases b with
   | none => rfl
   | some j => simp only [idxP]; split <;> rfl
  | lst xs =>
   cases b with
   | none => rfl
   | some j =>
    simp only [idxP]
    cases xs[j]? with
    | none => rfl
    | some y => simp only; split <;> rfl
  | _ => cases b <;> rfl
 rw [this]
@[go_sem] theorem zcz (k : IntKind) (n : Nat) : asNP (.i k (n : Int)) = some n := by simp [asNP, asIP]
@[go_sem] theorem zcy (k : IntKind) (n : Nat) [OfNat Int n] : asNP (.i k (no_index (OfNat.ofNat n))) = if 0 ≤ (OfNat.ofNat n : Int) then some (OfNat.ofNat n : Int).toNat else none := by simp [asNP, asIP]
def ixaP (ln sz : Nat) : PV → Option Nat → Option PV
 | .p m off, some j => if j < ln then some (.p m (off + j * sz)) else none
 | .fp l, some j => if j < ln then some (.fp (l.drop (j * sz))) else none
 | _, _ => none
@[go_sem] theorem zqR (ln sz m off j : Nat) : ixaP ln sz (.p m off) (some j) = if j < ln then some (.p m (off + j * sz)) else none := _root_.id rfl
@[go_sem] theorem zr2 (ln sz : Nat) (x i : X) : WL E F (⟨d, .ixa ln sz x i, af, none⟩ :: l) ks fr M = WV1 E F (ixaP ln sz (x.pv E.glob fr) (asNP (i.pv E.glob fr))) d l ks fr M := by
 rw [zaU, ← zaW]
 have : XO.pst E.glob (pcl E) fr M (.ixa ln sz x i) = (ixaP ln sz (x.pv E.glob fr) (asNP (i.pv E.glob fr))).map fun v => (v, M) := by
  simp only [XO.pst, XO.pev]
  generalize x.pv E.glob fr = a
  generalize asNP (i.pv E.glob fr) = b
  cases a <;> cases b <;> simp only [ixaP] <;> first | rfl | (split <;> rfl)
 rw [this]
def iagP (ln : Nat) (agg : Bool) (sz : Nat) : PV → Option Nat → Option PV
 | .ag l, some j => if j < ln ∧ l.length = ln * sz then pickP agg ((l.drop (j * sz)).take sz) else none
 | _, _ => none
@[go_sem] theorem zoZ (ln : Nat) (agg : Bool) (sz j : Nat) (xs : List PV) : iagP ln agg sz (.ag xs) (some j) = if j < ln ∧ xs.length = ln * sz then pickP agg ((xs.drop (j * sz)).take sz) else none := _root_.id rfl
@[go_sem] theorem zr1 (ln : Nat) (agg : Bool) (sz : Nat) (x i : X) : WL E F (⟨d, .iag ln agg sz x i, af, none⟩ :: l) ks fr M = WV1 E F (iagP ln agg sz (x.pv E.glob fr) (asNP (i.pv E.glob fr))) d l ks fr M := by
 rw [zaU, ← zaW]
 have : XO.pst E.glob (pcl E) fr M (.iag ln agg sz x i) = (iagP ln agg sz (x.pv E.glob fr) (asNP (i.pv E.glob fr))).map fun v => (v, M) := by
  simp only [XO.pst, XO.pev]
  generalize x.pv E.glob fr = a
  generalize asNP (i.pv E.glob fr) = b
  cases a <;> cases b <;> simp only [iagP] <;> first | rfl | (split <;> rfl)
 rw [this]
def istrP : PV → Option Nat → Option PV
 | .s l, some j => (l[j]?).map fun c => .i .u8 c.toNat
 | _, _ => none
@[go_sem] theorem zkQ (bs : List UInt8) (j : Nat) : istrP (.s bs) (some j) = (bs[j]?).map fun c => .i .u8 c.toNat := _root_.id rfl
@[go_sem] theorem zqv (x i : X) : WL E F (⟨d, .istr x i, af, none⟩ :: l) ks fr M = WV1 E F (istrP (x.pv E.glob fr) (asNP (i.pv E.glob fr))) d l ks fr M := by
 rw [zaU, ← zaW]
 have : XO.pst E.glob (pcl E) fr M (.istr x i) = (istrP (x.pv E.glob fr) (asNP (i.pv E.glob fr))).map fun v => (v, M) := by
  simp only [XO.pst, XO.pev]
  generalize x.pv E.glob fr = a
  generalize asNP (i.pv E.glob fr) = b
  cases a <;> cases b <;> simp only [istrP, Option.map_map] <;> rfl
 rw [this]
def ld1 (M : PM) : PV → Option PV
 | .p m off => match PM.blk M m with | some b => b.v[off]? | none => none
 | .fp l => l[0]?
 | _ => none
def blkV (off : Nat) : Option PB → Option PV
 | some b => b.v[off]?
 | none => none
@[go_sem] theorem zl8 (off : Nat) (b : PB) : blkV off (some b) = b.v[off]? := _root_.id rfl
@[go_sem] theorem zsq (m off : Nat) : ld1 M (.p m off) = blkV off (PM.blk M m) := by
 show (match PM.blk M m with | some b => b.v[off]? | none => none) = _
 cases PM.blk M m <;> rfl
@[go_sem] theorem zqS (xs : List PV) : ld1 M (.fp xs) = xs[0]? := _root_.id rfl
theorem zkY (xs : List PV) (off : Nat) : (if off + 1 ≤ xs.length then some ((xs.drop off).take 1) else none).bind (pickP false) = xs[off]? := by
 by_cases h : off < xs.length
 ·rw [if_pos (by omega), List.drop_eq_getElem_cons h, List.getElem?_eq_getElem h]; rfl
 ·rw [if_neg (by omega), List.getElem?_eq_none (by omega)]; rfl
@[go_sem] theorem zok (x : X) : WL E F (⟨d, .load false 1 x, af, none⟩ :: l) ks fr M = WV1 E F (ld1 M (x.pv E.glob fr)) d l ks fr M := by
 rw [zaU, ← zaW]
 have : XO.pst E.glob (pcl E) fr M (.load false 1 x) = (ld1 M (x.pv E.glob fr)).map fun v => (v, M) := by
  simp only [XO.pst, XO.pev]
  generalize x.pv E.glob fr = a
  cases a with
  | p m off =>
   simp only [ld1, PM.rd]
   cases PM.blk M m with
   | none => rfl
   | some b =>
    simp only
    have := zkY b.v off
    rw [← this]
    split
    ·rename_i l' hl
     rw [hl]; rfl
    ·rename_i hl
     rw [hl]; rfl
  | fp xs =>
   simp only [ld1]
   cases xs with
   | nil => rfl
   | cons y ys => simp [pickP, oneP]
  | _ => rfl
 rw [this]
def ldN (M : PM) (n : Nat) : PV → Option PV
 | .p m off => match PM.blk M m with | some b => if off + n ≤ b.v.length then some (.ag ((b.v.drop off).take n)) else none | none => none
 | .fp l => if n ≤ l.length ∧ n ≠ 0 then some (.ag (l.take n)) else none
 | _ => none
def blkN (off n : Nat) : Option PB → Option PV
 | some b => if off + n ≤ b.v.length then some (.ag ((b.v.drop off).take n)) else none
 | none => none
@[go_sem] theorem zl6 (off n : Nat) (b : PB) : blkN off n (some b) = if off + n ≤ b.v.length then some (.ag ((b.v.drop off).take n)) else none := _root_.id rfl
@[go_sem] theorem zsr (n m off : Nat) : ldN M n (.p m off) = blkN off n (PM.blk M m) := by
 show (match PM.blk M m with | some b => if off + n ≤ b.v.length then some (PV.ag ((b.v.drop off).take n)) else none | none => none) = _
 cases PM.blk M m <;> rfl
@[go_sem] theorem zqT (n : Nat) (xs : List PV) : ldN M n (.fp xs) = if n ≤ xs.length ∧ n ≠ 0 then some (.ag (xs.take n)) else none := _root_.id rfl
@[go_sem] theorem zol (n : Nat) (x : X) : WL E F (⟨d, .load true n x, af, none⟩ :: l) ks fr M = WV1 E F (ldN M n (x.pv E.glob fr)) d l ks fr M := by
 rw [zaU, ← zaW]
 have : XO.pst E.glob (pcl E) fr M (.load true n x) = (ldN M n (x.pv E.glob fr)).map fun v => (v, M) := by
  simp only [XO.pst, XO.pev]
  generalize x.pv E.glob fr = a
  cases a with
  | p m off =>
   simp only [ldN, PM.rd]
   cases PM.blk M m with
   | none => rfl
   | some b =>
    simp only
    by_cases h : off + n ≤ b.v.length
    ·simp [h, pickP]
    ·simp [h]
  | fp xs =>
   simp only [ldN]
   split <;> rfl
  | _ => rfl
 rw [this]
def st1 (M : PM) (a : PV) (cs : List PV) : Option (PV × PM) :=
 match a, cs with
 | .p m off, [c] => match PM.blk M m with | some b => if b.rw = true ∧ off < b.v.length ∧ c.scal = true then some (undefP, M.set m (some ⟨b.v.set off c, true, b.ver + 1⟩)) else none | none => none
 | _, _ => none
def blkS (M : PM) (m off : Nat) (c : PV) : Option PB → Option (PV × PM)
 | some b => if b.rw = true ∧ off < b.v.length ∧ c.scal = true then some (undefP, M.set m (some ⟨b.v.set off c, true, b.ver + 1⟩)) else none
 | none => none
@[go_sem] theorem zl7 (m off : Nat) (c : PV) (b : PB) : blkS M m off c (some b) = if b.rw = true ∧ off < b.v.length ∧ c.scal = true then some (undefP, M.set m (some ⟨b.v.set off c, true, b.ver + 1⟩)) else none := _root_.id rfl
@[go_sem] theorem zsL (m off : Nat) (c : PV) : st1 M (.p m off) [c] = blkS M m off c (PM.blk M m) := by
 show (match PM.blk M m with | some b => if b.rw = true ∧ off < b.v.length ∧ c.scal = true then some (undefP, M.set m (some (PB.mk (b.v.set off c) true (b.ver + 1)))) else none | none => none) = _
 cases PM.blk M m <;> rfl
theorem zg3 (a x : X) : XO.pst E.glob (pcl E) fr M (.store 1 a x) = st1 M (a.pv E.glob fr) (x.pv E.glob fr).cells := by
 simp only [XO.pst, XO.pev]
 generalize a.pv E.glob fr = p
 generalize (x.pv E.glob fr).cells = cs
 cases p with
 | p m off =>
  simp only
  match cs with
  | [c] =>
   simp only [st1]
   cases PM.blk M m with
   | none => rfl
   | some b =>
    simp only [List.length_cons, List.length_nil, Nat.zero_add, List.all_cons, List.all_nil, Bool.and_true, true_and]
    by_cases h : b.rw = true ∧ off < b.v.length ∧ c.scal = true
    ·rw [if_pos h, if_pos ⟨h.1, by omega, h.2.2⟩, ziF _ _ _ h.2.1]
    ·rw [if_neg h, if_neg (fun q => h ⟨q.1, by omega, q.2.2⟩)]
  | [] =>
   simp only [st1]
   cases PM.blk M m with
   | none => rfl
   | some b => simp
  | _ :: _ :: _ =>
   simp only [st1]
   cases PM.blk M m with
   | none => rfl
   | some b => simp
 | _ => match cs with
  | [] => rfl
  | [c] => rfl
  | _ :: _ :: _ => rfl
@[go_sem] theorem znC (a x : X) : WL E F (⟨d, .store 1 a x, af, none⟩ :: l) ks fr M = WV E F (st1 M (a.pv E.glob fr) (x.pv E.glob fr).cells) d l ks fr := by rw [zaU, zg3]
def stN (M : PM) (n : Nat) (a : PV) (cs : List PV) : Option (PV × PM) :=
 match a with
 | .p m off => match PM.blk M m with | some b => if b.rw = true ∧ cs.length = n ∧ off + n ≤ b.v.length ∧ cs.all PV.scal = true then some (undefP, M.set m (some ⟨psplice b.v off cs, true, b.ver + 1⟩)) else none | none => none
 | _ => none
def blkSN (M : PM) (m off n : Nat) (cs : List PV) : Option PB → Option (PV × PM)
 | some b => if b.rw = true ∧ cs.length = n ∧ off + n ≤ b.v.length ∧ cs.all PV.scal = true then some (undefP, M.set m (some ⟨psplice b.v off cs, true, b.ver + 1⟩)) else none
 | none => none
@[go_sem] theorem zlV (m off n : Nat) (cs : List PV) (b : PB) : blkSN M m off n cs (some b) = if b.rw = true ∧ cs.length = n ∧ off + n ≤ b.v.length ∧ cs.all PV.scal = true then some (undefP, M.set m (some ⟨psplice b.v off cs, true, b.ver + 1⟩)) else none := _root_.id rfl
@[go_sem] theorem zsM (n m off : Nat) (cs : List PV) : stN M n (.p m off) cs = blkSN M m off n cs (PM.blk M m) := by
 show (match PM.blk M m with | some b => if b.rw = true ∧ cs.length = n ∧ off + n ≤ b.v.length ∧ cs.all PV.scal = true then some (undefP, M.set m (some (PB.mk (psplice b.v off cs) true (b.ver + 1)))) else none | none => none) = _
 cases PM.blk M m <;> rfl
theorem ziq (n : Nat) (a x : X) : XO.pst E.glob (pcl E) fr M (.store n a x) = stN M n (a.pv E.glob fr) (x.pv E.glob fr).cells := by
 simp only [XO.pst, XO.pev]
 cases a.pv E.glob fr <;> rfl
theorem ziN (n : Nat) (a x : X) : WL E F (⟨d, .store n a x, af, none⟩ :: l) ks fr M = WV E F (stN M n (a.pv E.glob fr) (x.pv E.glob fr).cells) d l ks fr := by rw [zaU, ziq]
@[go_sem] theorem znD (n : Nat) (a x : X) : WL E F (⟨d, .store (n + 2) a x, af, none⟩ :: l) ks fr M = WV E F (stN M (n + 2) (a.pv E.glob fr) (x.pv E.glob fr).cells) d l ks fr := ziN ..
@[go_sem] theorem zom (x : X) : WL E F (⟨d, .nilck x, af, none⟩ :: l) ks fr M = WV1 E F (match x.pv E.glob fr with | .p m off => some (.p m off) | .fp l => some (.fp l) | .fn f l => some (.fn f l) | _ => none) d l ks fr M := by
 rw [zaU, ← zaW]
 have : XO.pst E.glob (pcl E) fr M (.nilck x) = (match x.pv E.glob fr with | .p m off => some (PV.p m off) | .fp l => some (.fp l) | .fn f l => some (.fn f l) | _ => none).map fun v => (v, M) := by
  simp only [XO.pst, XO.pev]
  cases x.pv E.glob fr <;> rfl
 rw [this]
def newP (M : PM) (cs : List PV) : Option (PV × PM) := if cs.all PV.scal then some (.p M.length 0, M ++ [some ⟨cs, true, 0⟩]) else none
@[go_sem] theorem znY (cs : List PV) : newP M cs = if cs.all PV.scal then some (.p M.length 0, M ++ [some ⟨cs, true, 0⟩]) else none := _root_.id rfl
@[go_sem] theorem zr8 (z : List AV) : WL E F (⟨d, .new z, af, none⟩ :: l) ks fr M = WV E F (newP M (z.map cst0)) d l ks fr := by rw [zaU]; rfl
@[go_sem] theorem zrS (x : X) : WL E F (⟨d, .box x, af, none⟩ :: l) ks fr M = WV E F (newP M (x.pv E.glob fr).cells) d l ks fr := by rw [zaU]; rfl
def bslP (M : PM) (n sz : Nat) : Option (List PV) → Option (PV × PM)
 | some cs => if n = 0 then some (.nl, M) else some (.sl M.length 0 n n sz, M ++ [some ⟨cs, true, 0⟩])
 | none => none
@[go_sem] theorem zl9 (n sz : Nat) (cs : List PV) : bslP M n sz (some cs) = if n = 0 then some (.nl, M) else some (.sl M.length 0 n n sz, M ++ [some ⟨cs, true, 0⟩]) := _root_.id rfl
@[go_sem] theorem zrT (n sz : Nat) (z : List AV) (ps : List (Nat × Nat × X)) : WL E F (⟨d, .bsl n sz z ps, af, none⟩ :: l) ks fr M = WV E F (if n * sz ≤ 16777216 ∧ z.length = sz ∧ (z.map cst0).all PV.scal = true then bslP M n sz (fillP E.glob fr (List.replicate n (z.map cst0)).flatten ps) else none) d l ks fr := by
 rw [zaU]
 have : XO.pst E.glob (pcl E) fr M (.bsl n sz z ps) = (if n * sz ≤ 16777216 ∧ z.length = sz ∧ (z.map cst0).all PV.scal = true then bslP M n sz (fillP E.glob fr (List.replicate n (z.map cst0)).flatten ps) else none) := by
  simp only [XO.pst, XO.pev]
  split
  ·cases fillP E.glob fr (List.replicate n (z.map cst0)).flatten ps <;> rfl
  ·rfl
 rw [this]
def mslP (M : PM) (z : List PV) (by_ : Nat) : Option Nat → Option Nat → Option (PV × PM)
 | some a, some b =>
  if a ≤ b ∧ b * by_ ≤ 281474976710656 ∧ b ≤ 9223372036854775807 ∧ z.all PV.scal = true then
   (if b = 0 then some (.nl, M) else some (.sl M.length 0 a b z.length, M ++ [some ⟨(List.replicate b z).flatten, true, 0⟩]))
  else none
 | _, _ => none
@[go_sem] theorem zr7 (z : List AV) (by_ : Nat) (n c : X) : WL E F (⟨d, .msl z by_ n c, af, none⟩ :: l) ks fr M = WV E F (mslP M (z.map cst0) by_ (asNP (n.pv E.glob fr)) (asNP (c.pv E.glob fr))) d l ks fr := by
 rw [zaU]
 have : XO.pst E.glob (pcl E) fr M (.msl z by_ n c) = mslP M (z.map cst0) by_ (asNP (n.pv E.glob fr)) (asNP (c.pv E.glob fr)) := by
  simp only [XO.pst, XO.pev]
  cases asNP (n.pv E.glob fr) <;> cases asNP (c.pv E.glob fr) <;> simp only [mslP, List.length_map]
 rw [this]
theorem zrB (z : PV) : ∀ n, (List.replicate n [z]).flatten = List.replicate n z
 | 0 => rfl
 | n + 1 => by rw [List.replicate_succ, List.flatten_cons, zrB z n]; rfl
theorem zjf (z : PV) (by_ n : Nat) (h1 : n * by_ ≤ 281474976710656) (h2 : n ≤ 9223372036854775807) (h3 : z.scal = true) (h0 : n ≠ 0) : mslP M [z] by_ (some n) (some n) = some (.sl M.length 0 n n 1, M ++ [some ⟨List.replicate n z, true, 0⟩]) := by
 simp only [mslP]
 rw [if_pos ⟨Nat.le_refl _, h1, h2, by simp [h3]⟩, if_neg h0, zrB]; rfl
theorem zhR (z : PV) (by_ : Nat) (h3 : z.scal = true) : mslP M [z] by_ (some 0) (some 0) = some (.nl, M) := by
 simp only [mslP]
 simp [h3]
@[go_sem] theorem zqy (z : Nat) (x : X) (lo hi mx : Option X) : WL E F (⟨d, .slsl z x lo hi mx, af, none⟩ :: l) ks fr M = WV1 E F (slP z (x.pv E.glob fr) (lo.map (X.pv E.glob fr)) (hi.map (X.pv E.glob fr)) (mx.map (X.pv E.glob fr))) d l ks fr M := by rw [zaU]; exact zaW ..
@[go_sem] theorem zrQ (z by_ : Nat) (s x : X) : WL E F (⟨d, .app z by_ s x, af, none⟩ :: l) ks fr M = WV E F (appP M z by_ (s.pv E.glob fr) (x.pv E.glob fr)) d l ks fr := by rw [zaU]; rfl
@[go_sem] theorem zrU (z : Nat) (a b : X) : WL E F (⟨d, .cpy z a b, af, none⟩ :: l) ks fr M = WV E F (cpyP M z (a.pv E.glob fr) (b.pv E.glob fr)) d l ks fr := by rw [zaU]; rfl
@[go_sem] theorem zqt (f : Nat) (xs : List X) : WL E F (⟨d, .call f xs, af, none⟩ :: l) ks fr M = WV E F (pcl E f (xs.map (X.pv E.glob fr)) M) d l ks fr := by rw [zaU]; rfl
noncomputable def callP (E : PEnv) (M : PM) (xs : List PV) : PV → Option (PV × PM)
 | .fn f c => pcl E f (xs ++ c) M
 | _ => none
@[go_sem] theorem znG (xs : List PV) (f : Nat) (c : List PV) : callP E M xs (.fn f c) = pcl E f (xs ++ c) M := _root_.id rfl
@[go_sem] theorem zoi (x : X) (xs : List X) : WL E F (⟨d, .callv x xs, af, none⟩ :: l) ks fr M = WV E F (callP E M (xs.map (X.pv E.glob fr)) (x.pv E.glob fr)) d l ks fr := by
 rw [zaU]
 have : XO.pst E.glob (pcl E) fr M (.callv x xs) = callP E M (xs.map (X.pv E.glob fr)) (x.pv E.glob fr) := by
  simp only [XO.pst]
  cases x.pv E.glob fr <;> rfl
 rw [this]
end
@[go_sem] theorem znZ (fr : PFr) (M : PM) : pRes fr M [] = some [] := _root_.id rfl
def resC (o : Option PV) (r : Option (List PV)) : Option (List PV) := match o, r with | some v, some vs => some (v :: vs) | _, _ => none
@[go_sem] theorem znn (v : PV) (vs : List PV) : resC (some v) (some vs) = some (v :: vs) := _root_.id rfl
@[go_sem] theorem zn0 (fr : PFr) (M : PM) (t : Nat) (l : List XR) : pRes fr M (.tmp t :: l) = resC (some (fr t)) (pRes fr M l) := _root_.id rfl
@[go_sem] theorem zlY (fr : PFr) (M : PM) (t n : Nat) (l : List XR) : pRes fr M (.cell t true n :: l) = resC (ldN M n (fr t)) (pRes fr M l) := by
 have : pResOne fr M (.cell t true n) = ldN M n (fr t) := by
  simp only [pResOne]
  generalize fr t = a
  cases a with
  | p m off =>
   simp only [ldN, PM.rd]
   cases PM.blk M m with
   | none => rfl
   | some b =>
    simp only
    by_cases h : off + n ≤ b.v.length
    ·simp [h, pickP]
    ·simp [h]
  | fp xs =>
   simp only [ldN]
   split <;> rfl
  | _ => rfl
 simp only [pRes, this]; rfl
@[go_sem] theorem zn2 (v : PV) : packP [v] = v := _root_.id rfl
@[go_sem] theorem zn3 (v w : PV) (l : List PV) : packP (v :: w :: l) = .tu (v :: w :: l) := _root_.id rfl
end Go.Eng
namespace Go.Eng
variable {E : PEnv} {F : PFin}
theorem zeZ (a b : Nat) : ((a : Int).fdiv (b : Int)) = ((a / b : Nat) : Int) := by rw [Int.fdiv_eq_ediv_of_nonneg _ (by omega)]; rfl
section
variable (k k' : IntKind) (a b : Int)
@[go_sem] theorem zor : binP .add (.i k a) (.i k b) = some (.i k (k.wrap (a + b))) := by simp [binP, numBin, intBin, cst0]
@[go_sem] theorem zoB : binP .sub (.i k a) (.i k b) = some (.i k (k.wrap (a - b))) := by simp [binP, numBin, intBin, cst0]
@[go_sem] theorem zox : binP .mul (.i k a) (.i k b) = some (.i k (k.wrap (a * b))) := by simp [binP, numBin, intBin, cst0]
@[go_sem] theorem zoz (h : b ≠ 0) : binP .quo (.i k a) (.i k b) = some (.i k (k.wrap (a.tdiv b))) := by simp [binP, numBin, intBin, cst0, h]
@[go_sem] theorem zoA (h : b ≠ 0) : binP .rem (.i k a) (.i k b) = some (.i k (a.tmod b)) := by simp [binP, numBin, intBin, cst0, h]
@[go_sem] theorem zos : binP .eql (.i k a) (.i k b) = some (.b (decide (a = b))) := by
 have : (a == b) = decide (a = b) := by by_cases h : a = b <;> simp [h]
 simp [binP, numBin, intBin, cst0, this]
@[go_sem] theorem zoy : binP .neq (.i k a) (.i k b) = some (.b (decide (a ≠ b))) := by
 have : (a != b) = decide (a ≠ b) := by by_cases h : a = b <;> simp [h]
 simp [binP, numBin, intBin, cst0, this]
@[go_sem] theorem zow : binP .lss (.i k a) (.i k b) = some (.b (decide (a < b))) := by simp [binP, numBin, intBin, cst0]
@[go_sem] theorem zov : binP .leq (.i k a) (.i k b) = some (.b (decide (a ≤ b))) := by simp [binP, numBin, intBin, cst0]
@[go_sem] theorem zou : binP .gtr (.i k a) (.i k b) = some (.b (decide (b < a))) := by simp [binP, numBin, intBin, cst0]
@[go_sem] theorem zot : binP .geq (.i k a) (.i k b) = some (.b (decide (b ≤ a))) := by simp [binP, numBin, intBin, cst0]
theorem zhe (h : 0 ≤ b) : binP .shl (.i k a) (.i k' b) = some (.i k (k.wrap (a * 2 ^ (min b.toNat k.bits)))) := by
 have : ¬ b < 0 := by omega
 simp [binP, numBin, intShift, cst0, this]
theorem zfl (h : 0 ≤ b) : binP .shr (.i k a) (.i k' b) = some (.i k (a.fdiv (2 ^ (min b.toNat k.bits)))) := by
 have : ¬ b < 0 := by omega
 simp [binP, numBin, intShift, cst0, this]
@[go_sem] theorem zrK : unP .neg (.i k a) = some (.i k (k.wrap (0 - a))) := _root_.id rfl
@[go_sem] theorem zrL (v : Bool) : unP .not (.b v) = some (.b (!v)) := _root_.id rfl
@[go_sem] theorem zsf (v w : Bool) : eqTP 0 (.b v) (.b w) = some (v == w) := _root_.id rfl
@[go_sem] theorem zee (x y : List UInt8) (h : x.length + y.length ≤ 9223372036854775807) : binP .add (.s x) (.s y) = some (.s (x ++ y)) := by simp [binP, strBin, cst0, h]
@[go_sem] theorem znF (x y : List UInt8) : binP .neq (.s x) (.s y) = some (.b (decide (x ≠ y))) := by
 have : (x == y) = decide (x = y) := by by_cases h : x = y <;> simp [h]
 simp [binP, strBin, cst0, this]
@[go_sem] theorem zqW (mx : Bool) (x : PV) : mmP mx x [] = some x := _root_.id rfl
@[go_sem] theorem zqU (l : List PV) : mmP true (.i k a) (.i k b :: l) = mmP true (.i k (if b > a then b else a)) l := by simp [mmP]
@[go_sem] theorem zqV (l : List PV) : mmP false (.i k a) (.i k b :: l) = mmP false (.i k (if b < a then b else a)) l := by simp [mmP]
end
theorem wqa {x : Int} (h1 : -9223372036854775808 ≤ x) (h2 : x ≤ 9223372036854775807) : IntKind.wrap .i64 x = x := by
 simp only [IntKind.wrap, IntKind.signed, IntKind.bits, Bool.true_and, decide_eq_true_eq, ge_iff_le]
 omega
theorem wqe {x : Int} (h1 : -2147483648 ≤ x) (h2 : x ≤ 2147483647) : IntKind.wrap .i32 x = x := by
 simp only [IntKind.wrap, IntKind.signed, IntKind.bits, Bool.true_and, decide_eq_true_eq, ge_iff_le]
 omega
theorem wqb {x : Int} (h1 : 0 ≤ x) (h2 : x ≤ 18446744073709551615) : IntKind.wrap .u64 x = x := by
 simp only [IntKind.wrap, IntKind.signed, IntKind.bits, Bool.false_and, Bool.false_eq_true, if_false]
 omega
theorem wqc {x : Int} (h1 : 0 ≤ x) (h2 : x ≤ 4294967295) : IntKind.wrap .u32 x = x := by
 simp only [IntKind.wrap, IntKind.signed, IntKind.bits, Bool.false_and, Bool.false_eq_true, if_false]
 omega
theorem wqd {x : Int} (h1 : 0 ≤ x) (h2 : x ≤ 255) : IntKind.wrap .u8 x = x := by
 simp only [IntKind.wrap, IntKind.signed, IntKind.bits, Bool.false_and, Bool.false_eq_true, if_false]
 omega
theorem wqq : (∀ {x : Int}, -9223372036854775808 ≤ x → x ≤ 9223372036854775807 → IntKind.wrap .i64 x = x) ∧ (∀ {x : Int}, 0 ≤ x → x ≤ 18446744073709551615 → IntKind.wrap .u64 x = x) ∧ (∀ {x : Int}, 0 ≤ x → x ≤ 4294967295 → IntKind.wrap .u32 x = x) ∧ (∀ {x : Int}, 0 ≤ x → x ≤ 255 → IntKind.wrap .u8 x = x) ∧ (∀ {x : Int}, -2147483648 ≤ x → x ≤ 2147483647 → IntKind.wrap .i32 x = x) := ⟨wqa, wqb, wqc, wqd, wqe⟩
theorem lqq : (∀ {α : Type} (a b c : List α), a ++ b ++ c = a ++ (b ++ c)) ∧ (∀ {α : Type} (a : α) (b c : List α), a :: b ++ c = a :: (b ++ c)) ∧ (∀ {α : Type} (a : List α), [] ++ a = a) := ⟨List.append_assoc, fun _ _ _ => List.cons_append, List.nil_append⟩
theorem zdN (x : Int) : IntKind.wrap .u64 x = x % 18446744073709551616 := by simp [IntKind.wrap, IntKind.signed, IntKind.bits]
theorem zdM (x : Int) : IntKind.wrap .u32 x = x % 4294967296 := by simp [IntKind.wrap, IntKind.signed, IntKind.bits]
theorem zbe (n : Nat) : IntKind.wrap .u32 (n : Int) = ((n % 4294967296 : Nat) : Int) := by rw [zdM]; rfl
@[go_sem] theorem zfm (k' : IntKind) (x : Nat) (s : Int) (h : 0 ≤ s) (h2 : s ≤ 64) : binP .shr (.i .u64 (x : Int)) (.i k' s) = some (.i .u64 ((x / 2 ^ s.toNat : Nat) : Int)) := by
 rw [zfl _ _ _ _ h, show min s.toNat (IntKind.bits .u64) = s.toNat by simp only [IntKind.bits]; omega, show ((2 : Int) ^ s.toNat) = ((2 ^ s.toNat : Nat) : Int) by simp, zeZ]
@[go_sem] theorem zfk (k' : IntKind) (x : Nat) (s : Int) (h : 0 ≤ s) (h2 : s ≤ 64) : binP .shl (.i .u64 (x : Int)) (.i k' s) = some (.i .u64 (IntKind.wrap .u64 ((x * 2 ^ s.toNat : Nat) : Int))) := by
 rw [zhe _ _ _ _ h, show min s.toNat (IntKind.bits .u64) = s.toNat by simp only [IntKind.bits]; omega, show ((x * 2 ^ s.toNat : Nat) : Int) = (x : Int) * 2 ^ s.toNat by simp]
theorem zbP (a b : Nat) : ((a : Int) + (b : Int)) = ((a + b : Nat) : Int) := by omega
theorem zbh (a : Nat) : ((a : Int) + 1) = ((a + 1 : Nat) : Int) := by omega
theorem zbQ (a b : Nat) : ((a : Int) * (b : Int)) = ((a * b : Nat) : Int) := by simp
theorem zaH {a : Nat} (h : 1 ≤ a) : ((a : Int) - 1) = ((a - 1 : Nat) : Int) := by omega
theorem zbi (a b : Nat) : ((a : Int).tdiv (b : Int)) = ((a / b : Nat) : Int) := rfl
theorem zcI (a b : Nat) : ((a : Int).tmod (b : Int)) = ((a % b : Nat) : Int) := rfl
theorem zbp (a b : Nat) : ((a : Int) < (b : Int)) = (a < b) := by simp
theorem zcH (a b : Nat) : ((a : Int) ≤ (b : Int)) = (a ≤ b) := by simp
@[go_sem] theorem zoU : fzD = 12 := _root_.id rfl
@[go_sem] theorem zoV (g : PV → Option (PV × List Nat)) : fzL g [] = some ([], []) := _root_.id rfl
def fzC : Option (PV × List Nat) → Option (List PV × List Nat) → Option (List PV × List Nat)
 | some r, some q => some (r.1 :: q.1, r.2 ++ q.2)
 | _, _ => none
@[go_sem] theorem znU (v : PV) (a : List Nat) (l : List PV) (b : List Nat) : fzC (some (v, a)) (some (l, b)) = some (v :: l, a ++ b) := _root_.id rfl
@[go_sem] theorem zi9 (g : PV → Option (PV × List Nat)) (v : PV) (l : List PV) : fzL g (v :: l) = fzC (g v) (fzL g l) := by
 simp only [fzL]
 cases g v <;> cases fzL g l <;> rfl
section
variable (M : PM) (d : Nat)
@[go_sem] theorem zsX (v : Bool) : fz M (d + 1) (.b v) = some (.b v, []) := _root_.id rfl
@[go_sem] theorem zsY (k : IntKind) (n : Int) : fz M (d + 1) (.i k n) = some (.i k n, []) := _root_.id rfl
@[go_sem] theorem zsZ (l : List UInt8) : fz M (d + 1) (.s l) = some (.s l, []) := _root_.id rfl
@[go_sem] theorem zqM (l : List PV) : fz M (d + 1) (.lst l) = some (.lst l, []) := _root_.id rfl
@[go_sem] theorem zsm : fz M (d + 1) .nl = some (.lst [], []) := _root_.id rfl
def fzM (f : List PV → PV) : Option (List PV × List Nat) → Option (PV × List Nat)
 | some r => some (f r.1, r.2)
 | none => none
@[go_sem] theorem znV (f : List PV → PV) (l : List PV) (ns : List Nat) : fzM f (some (l, ns)) = some (f l, ns) := _root_.id rfl
theorem zhB (f : List PV → PV) (o : Option (List PV × List Nat)) : (o.map fun (r : List PV × List Nat) => (f r.1, r.2)) = fzM f o := by cases o <;> rfl
@[go_sem] theorem zsi (l : List PV) : fz M (d + 1) (.ag l) = fzM PV.ag (fzL (fz M d) l) := zhB PV.ag _
@[go_sem] theorem zsp (l : List PV) : fz M (d + 1) (.tu l) = fzM PV.tu (fzL (fz M d) l) := zhB PV.tu _
def fzP (n off : Nat) (g : PV → Option (PV × List Nat)) : Option PB → Option (PV × List Nat)
 | some b => (fzL g b.v).map fun (r : List PV × List Nat) => (PV.fp (r.1.drop off), n :: r.2)
 | none => none
def fzS (n off len z : Nat) (g : PV → Option (PV × List Nat)) : Option PB → Option (PV × List Nat)
 | some b => if off + len * z ≤ b.v.length then (fzL g ((b.v.drop off).take (len * z))).map fun r => (.lst (group z len r.1), n :: r.2) else none
 | none => none
@[go_sem] theorem znW (n off len z : Nat) (g : PV → Option (PV × List Nat)) (b : PB) : fzS n off len z g (some b) = if off + len * z ≤ b.v.length then (fzL g ((b.v.drop off).take (len * z))).map fun r => (.lst (group z len r.1), n :: r.2) else none := _root_.id rfl
@[go_sem] theorem zso (n off len c z : Nat) : fz M (d + 1) (.sl n off len c z) = if len = 0 then some (.lst [], []) else if z = 0 then none else fzS n off len z (fz M d) (PM.blk M n) := by
 simp only [fz, PM.rd]
 split
 ·rfl
 ·split
  ·rfl
  ·cases PM.blk M n with
   | none => rfl
   | some b =>
    simp only [fzS]
    split
    ·rename_i l hl
     split at hl
     ·cases hl; rename_i h; rw [if_pos h]
     ·cases hl
    ·rename_i hl
     split at hl
     ·cases hl
     ·rename_i h; rw [if_neg h]
theorem zhz (g : PV → Option (PV × List Nat)) : ∀ (l : List PV), (∀ x ∈ l, g x = some (x, [])) → fzL g l = some (l, [])
 | [], _ => rfl
 | x :: l, h => by
  rw [zi9, h x (List.mem_cons_self ..), zhz g l fun y hy => h y (List.mem_cons_of_mem _ hy)]; rfl
theorem zja {α : Type} (f : α → PV) (hf : ∀ a, fz M (d + 1) (f a) = some (f a, [])) (l : List α) : fzL (fz M (d + 1)) (l.map f) = some (l.map f, []) :=
 zhz _ _ fun x hx => by
  obtain ⟨a, _, rfl⟩ := List.mem_map.1 hx
  exact hf a
theorem zcG : ∀ (k : Nat) (l : List PV), l.length = k → group 1 k l = l
 | 0, l, h => by rw [List.length_eq_zero_iff.1 h]; rfl
 | k + 1, [], h => by simp at h
 | k + 1, x :: l, h => by
  simp only [group, if_true, List.headD_cons, List.drop_succ_cons, List.drop_zero]
  rw [zcG k l (by simpa using h)]
end
@[go_sem] theorem zqd (M : PM) : roM M [] = M := _root_.id rfl
@[go_sem] theorem zn6 (M : PM) (n : Nat) (ns : List Nat) : roM M (n :: ns) = roM (roB M n) ns := _root_.id rfl
def roC (M : PM) (n : Nat) : Option PB → PM
 | some b => M.set n (some ⟨b.v, false, b.ver⟩)
 | none => M
@[go_sem] theorem zn5 (M : PM) (n : Nat) (b : PB) : roC M n (some b) = M.set n (some ⟨b.v, false, b.ver⟩) := _root_.id rfl
@[go_sem] theorem zqc (M : PM) (n : Nat) : roB M n = roC M n (PM.blk M n) := by
 unfold roB
 cases PM.blk M n <;> rfl
noncomputable def pclA (E : PEnv) (f : Nat) (M : PM) : Option (List PV × List Nat) → Option (PV × PM)
 | some r => (pf E f r.1).map fun v => (v, roM M r.2)
 | none => none
def pclV (M : PM) (ns : List Nat) : Option PV → Option (PV × PM)
 | some v => some (v, roM M ns)
 | none => none
@[go_sem] theorem znd (M : PM) (ns : List Nat) (v : PV) : pclV M ns (some v) = some (v, roM M ns) := _root_.id rfl
@[go_sem] theorem zin (f : Nat) (M : PM) (l : List PV) (ns : List Nat) : pclA E f M (some (l, ns)) = pclV M ns (pf E f l) := by
 show (pf E f l).map _ = _
 cases pf E f l <;> rfl
theorem zaf {f : Nat} (args : List PV) (M : PM) (h : E.pure f = true) : pcl E f args M = pclA E f M (fzL (fz M fzD) args) := by
 cases hz : fzL (fz M fzD) args with
 | none =>
  show pcl E f args M = none
  cases hc : pcl E f args M with
  | none => rfl
  | some r =>
   obtain ⟨k, e⟩ := zd8 hc
   cases k with
   | zero => simp [pvF] at e
   | succ k =>
    simp only [pvF, h, if_true, hz] at e
    split at e <;> cases e
 | some r =>
  obtain ⟨a', ns⟩ := r
  rw [zin]
  cases hp : pf E f a' with
  | some v => exact zgu h hz hp
  | none =>
   show pcl E f args M = none
   cases hc : pcl E f args M with
   | none => rfl
   | some r =>
    obtain ⟨k, e⟩ := zd8 hc
    cases k with
    | zero => simp [pvF] at e
    | succ k =>
     simp only [pvF, h, if_true, hz] at e
     split at e
     ·rename_i xf hx
      split at e
      ·rename_i w M2 hb
       simp only [Option.map_eq_some_iff] at e
       obtain ⟨q, q1, _⟩ := e
       have := zng hx (zcK (zlC k) (Nat.le_refl k) hb) (v := q.1) (by rw [q1]; rfl)
       rw [this] at hp; cases hp
      ·cases e
     ·rename_i o ho
      split at e
      ·rename_i w M2 hb
       simp only [Option.map_eq_some_iff] at e
       obtain ⟨q, q1, _⟩ := e
       have := zgv ho hb (v := q.1) (by rw [q1]; rfl)
       rw [this] at hp; cases hp
      ·cases e
     ·cases e
end Go.Eng
namespace Go.Eng
attribute [go_sem] List.length_cons List.length_nil List.cons_append List.nil_append List.append_nil List.map_cons List.map_nil List.set_cons_zero List.set_cons_succ List.getElem?_cons_zero List.getElem?_cons_succ List.drop_zero List.drop_succ_cons List.take_succ_cons List.take_zero List.replicate_succ List.replicate_zero List.flatten_cons List.flatten_nil
attribute [go_sem] Option.map_some Option.map_none Option.bind_some and_true true_and and_self and_false false_and Bool.and_self Bool.and_true Bool.true_and Bool.not_true Bool.not_false decide_true decide_false not_true_eq_false not_false_eq_true ne_eq if_true if_false Bool.false_eq_true Nat.zero_add Nat.add_zero Nat.zero_mul Nat.one_mul Nat.mul_one Nat.lt_add_one Nat.le_refl Option.isSome_none Option.isSome_some beq_self_eq_true Bool.true_eq_false false_implies
@[go_sem] theorem zs0 (n : Nat) : ((0 : Int) ≤ (n : Int)) = True := by simp
@[go_sem] theorem zs1 (n : Nat) : ((n : Int) < 0) = False := by simp
@[go_sem] theorem zqi (l : List PV) : psplice l 0 [] = l := by simp [psplice]
@[go_sem] theorem zoa (a c : PV) (l cs : List PV) : psplice (a :: l) 0 (c :: cs) = c :: psplice l 0 cs := by simp [psplice]
@[go_sem] theorem zob (a : PV) (l cs : List PV) (n : Nat) : psplice (a :: l) (n + 1) cs = a :: psplice l n cs := by
 simp only [psplice, List.take_succ_cons, List.cons_append]
 rw [show n + 1 + cs.length = (n + cs.length) + 1 by omega, List.drop_succ_cons]
theorem zcn (M : PM) (k : IntKind) (c : Int) (by_ n : Nat) (h1 : n * by_ ≤ 281474976710656) (h2 : n ≤ 9223372036854775807) (h0 : n ≠ 0) : mslP M [.i k c] by_ (some n) (some n) = some (.sl M.length 0 n n 1, M ++ [some ⟨List.replicate n (.i k c), true, 0⟩]) := zjf M _ by_ n h1 h2 rfl h0
theorem zdA (M : PM) (k : IntKind) (c : Int) (by_ : Nat) : mslP M [.i k c] by_ (some 0) (some 0) = some (.nl, M) := zhR M _ by_ rfl
@[go_sem] theorem zqC : (true == false) = false := by decide
@[go_sem] theorem zqB : (false == true) = false := by decide
theorem zar {E : PEnv} {F : PFin} {a b : XC} (hab : a = b) {ks : List KI} {α : Type} (I : α → PFr → PM → Prop) (m : α → Nat)
  (step : ∀ x fr M, I x fr M → (∀ y fr' M', m y < m x → I y fr' M' → WK E F (.loop a) ks fr' M') → WK E F b (.loop a :: ks) fr M) (x : α) {fr : PFr} {M : PM} (h : I x fr M) : WK E F (.loop a) ks fr M := by
 have key : ∀ n x fr M, m x < n → I x fr M → WK E F (.loop a) ks fr M := by
  intro n
  induction n with
  | zero => intro x fr M hm; omega
  | succ n ih =>
   intro x fr M hm h
   have := step x fr M h fun y fr' M' hy h' => ih y fr' M' (by omega) h'
   rw [← hab] at this
   exact zcw this
 exact key (m x + 1) x fr M (by omega) h
end Go.Eng
namespace Go.Eng
def dtx : Nat → Nat → List UInt8
 | 0, _ => []
 | i + 1, v => UInt8.ofNat (48 + v / 10 ^ i % 10) :: dtx i v
@[simp] theorem zcX : ∀ (i v : Nat), (dtx i v).length = i
 | 0, _ => rfl
 | i + 1, v => by simp [dtx, zcX i v]
theorem zhn : ∃ f : Nat → Nat, ∀ v n, f v ≤ n ↔ v < 10 ^ n := by
 have key : ∀ v : Nat, ∃ m, ∀ n, m ≤ n ↔ v < 10 ^ n := by
  intro v
  induction v using Nat.strongRecOn with
  | _ v ih =>
   by_cases h : v = 0
   ·subst h; exact ⟨0, fun n => ⟨fun _ => Nat.pow_pos (by decide), fun _ => Nat.zero_le _⟩⟩
   ·obtain ⟨m, hm⟩ := ih (v / 10) (Nat.div_lt_self (by omega) (by decide))
    refine ⟨m + 1, fun n => ?_⟩
    cases n with
    | zero => simp; omega
    | succ n =>
     rw [Nat.pow_succ, ← Nat.div_lt_iff_lt_mul (by decide), ← hm n]; omega
 exact ⟨fun v => Classical.choose (key v), fun v => Classical.choose_spec (key v)⟩
noncomputable def dlen : Nat → Nat := Classical.choose zhn
theorem za0 {v n : Nat} : dlen v ≤ n ↔ v < 10 ^ n := Classical.choose_spec zhn v n
theorem zcW (v : Nat) : v < 10 ^ dlen v := za0.1 (Nat.le_refl _)
noncomputable def dec (v : Nat) : List UInt8 := if v = 0 then [48] else dtx (dlen v) v
noncomputable def decI (n : Int) : List UInt8 := if n < 0 then 45 :: dec n.natAbs else dec n.natAbs
def val : List Nat → Nat
 | [] => 0
 | x :: xs => x + 4294967296 * val xs
def Fits64 (n : Int) : Prop := -9223372036854775808 ≤ n ∧ n ≤ 9223372036854775807
instance (n : Int) : Decidable (Fits64 n) := inferInstanceAs (Decidable (_ ∧ _))
def wordsP : List PV → Option (List Nat)
 | [] => some []
 | .i .u32 n :: l => if 0 ≤ n ∧ n < 4294967296 then (wordsP l).map (n.toNat :: ·) else none
 | _ => none
def wordsA : List AV → Option (List Nat)
 | [] => some []
 | .i .u32 n :: l => if 0 ≤ n ∧ n < 4294967296 then (wordsA l).map (n.toNat :: ·) else none
 | _ => none
noncomputable def wtx (neg : Bool) (xs : List Nat) : Option (List UInt8) :=
 if xs.length ≤ 512 ∧ xs.getLast? ≠ some 0 ∧ (neg = true → xs ≠ []) then some (decI (if neg then -(val xs : Int) else (val xs : Int))) else none
def isDig (c : UInt8) : Bool := decide (48 ≤ c.toNat ∧ c.toNat ≤ 57)
def tv : List UInt8 → Nat
 | [] => 0
 | c :: l => (c.toNat - 48) * 10 ^ l.length + tv l
def idxB : List UInt8 → UInt8 → Int
 | [], _ => -1
 | b :: l, c => if b == c then 0 else if idxB l c == -1 then -1 else idxB l c + 1
noncomputable def libA (f : Nat) : List AV → Option AV
 | [.i .i64 n] => if f = 50 ∧ Fits64 n then some (.s (decI n)) else none
 | [.s l, .i .i64 c] => if f = 51 ∧ 0 ≤ c ∧ c ≤ 1000 ∧ l.length ≤ 1000 then some (.s (List.replicate c.toNat l).flatten) else none
 | [.s l, .s cs] => if f = 130 ∧ l.length ≤ 9223372036854775807 ∧ cs.length < 4294967281 ∧ (cs.all fun b => decide (b.toNat < 128)) = true then some (.s (((l.reverse.dropWhile (cs.contains ·)).reverse).dropWhile (cs.contains ·))) else if f = 222 then (match cs with | [c] => some (.i .i64 (idxB l c)) | _ => none) else none
 | [.s l] => if f = 131 ∧ l ≠ [] ∧ l.length ≤ 18 ∧ l.all isDig = true then some (.tu [.i .i64 (tv l : Nat), .inil]) else none
 | _ => none
noncomputable def libP (f : Nat) : List PV → Option PV
 | [.i .i64 n] => if f = 50 ∧ Fits64 n then some (.s (decI n)) else none
 | [.s l, .i .i64 c] => if f = 51 ∧ 0 ≤ c ∧ c ≤ 1000 ∧ l.length ≤ 1000 then some (.s (List.replicate c.toNat l).flatten) else none
 | [.s l, .s cs] => if f = 130 ∧ l.length ≤ 9223372036854775807 ∧ cs.length < 4294967281 ∧ (cs.all fun b => decide (b.toNat < 128)) = true then some (.s (((l.reverse.dropWhile (cs.contains ·)).reverse).dropWhile (cs.contains ·))) else if f = 222 then (match cs with | [c] => some (.i .i64 (idxB l c)) | _ => none) else none
 | [.s l] => if f = 131 ∧ l ≠ [] ∧ l.length ≤ 18 ∧ l.all isDig = true then some (.tu [.i .i64 (tv l : Nat), .inil]) else none
 | _ => none
noncomputable def txtA : List AV → Hp → Option (List UInt8)
 | [.ag [.b neg, .sl n off len _ z]], h => if len = 0 then wtx neg [] else if z = 1 then ((h.rd n off len).bind wordsA).bind (wtx neg) else none
 | [.ag [.b neg, .sn]], _ => wtx neg []
 | [.ag [.b neg, .se]], _ => wtx neg []
 | [.ag [.b neg, .e0]], _ => wtx neg []
 | _, _ => none
noncomputable def txtP : List PV → Option (List UInt8)
 | [.ag [.b neg, .lst ws]] => (wordsP ws).bind (wtx neg)
 | [.ag [.b neg, .nl]] => wtx neg []
 | _ => none
def powT : List AV := (List.range 20).map fun i => .i .u64 ((10 ^ i : Nat) : Int)
open Classical in
noncomputable def orcA (f : Nat) (args : List AV) (h : Hp) : Option (AV × Hp) :=
 if f = 33 then (if ∃ b, h.m 0 = some b ∧ b.v = powT then (txtA args h).map fun l => (.s l, h) else none)
 else if f = 50 ∧ ¬ (∃ b, h.m 0 = some b ∧ b.v = powT) then none
 else (libA f args).map fun v => (v, h)
noncomputable def orcP (f : Nat) (args : List PV) (M : PM) : Option (PV × PM) :=
 if f = 33 then (txtP args).map fun l => (.s l, M) else (libP f args).map fun v => (v, M)
def globT (g : Nat) : Option (List AV) := if g = 0 then some powT else none
def monoI : List Int := [0, 0, 0, 1, 0, 0, 0, 1, 0, 0, 0, 1, 2, 0, 0, 1, 1, 0, 1, 0, 1, 0, 2, 0, 0, 1, 1, 0, 0, 2, 3, 0, 0, 2, 1, 0, 2, 0, 1, 1, 2, 0, 1, 1, 1, 1, 0, 2, 0, 3, 0, 0, 2, 1, 0, 1, 2, 0, 0, 3]
def chooI : List Int := [1, 0, 0, 0, 1, 1, 0, 0, 1, 2, 1, 0, 1, 3, 3, 1]
def monoT : List AV := monoI.map fun n => .i .i64 n
def chooT : List AV := chooI.map fun n => .i .i64 n
def downT : List AV := [.fn 296 [], .fn 297 []]
def upT : List AV := [.fn 298 [], .fn 299 []]
def globG : Nat → Option (List AV)
 | 0 => some powT
 | 1 => some monoT
 | 2 => some chooT
 | 3 => some downT
 | 4 => some upT
 | _ => none
theorem ziP {h : Hp} {D : Nat → Prop} : ∀ {ws : List PV} {cs : Nat → AV} {xs : List Nat}, wordsP ws = some xs → (∀ i (hi : i < ws.length), V h D [] ws[i] (cs i)) → wordsA ((List.range ws.length).map cs) = some xs
 | [], cs, xs, e, _ => by simp [wordsP] at e; subst e; rfl
 | w :: ws, cs, xs, e, hv => by
  unfold wordsP at e
  split at e
  ·rename_i he; cases he
  ·rename_i n l he
   cases he
   split at e
   ·rename_i hn
    simp only [Option.map_eq_some_iff] at e
    obtain ⟨ys, e1, rfl⟩ := e
    have h0 := hv 0 (by simp)
    have hc : cs 0 = .i .u32 n := by
     have h0' : V h D [] (.i .u32 n) (cs 0) := h0
     generalize cs 0 = c at h0'
     cases h0'; rfl
    have ih := ziP (cs := fun i => cs (i + 1)) e1 fun i hi => hv (i + 1) (by simp; omega)
    rw [List.length_cons, List.range_succ_eq_map, List.map_cons, List.map_map, hc]
    unfold wordsA
    rw [if_pos hn]
    have : (List.range ws.length).map (cs ∘ Nat.succ) = (List.range ws.length).map fun i => cs (i + 1) := rfl
    rw [this, ih]; rfl
   ·cases e
  ·cases e
theorem zeb : ∀ {ws : List PV} {xs : List Nat}, wordsP ws = some xs → flat ws = ws ∧ ∀ x ∈ ws, x.cells.length = 1
 | [], xs, e => ⟨rfl, fun x hx => by cases hx⟩
 | w :: ws, xs, e => by
  unfold wordsP at e
  split at e
  ·rename_i he; cases he
  ·rename_i n l he
   cases he
   split at e
   ·simp only [Option.map_eq_some_iff] at e
    obtain ⟨ys, e1, rfl⟩ := e
    obtain ⟨p1, p2⟩ := zeb e1
    refine ⟨?_, fun x hx => ?_⟩
    ·show (PV.cells (.i .u32 n)) ++ flat ws = _
     rw [p1]; rfl
    ·rcases List.mem_cons.1 hx with rfl | hx
     ·rfl
     ·exact p2 x hx
   ·cases e
  ·cases e
theorem zqj {h : Hp} {D : Nat → Prop} {r : List Nat} {args : List PV} {asq : List AV} {l : List UInt8} (e : txtP args = some l) (hv : VL h D r args asq) : txtA asq h = some l := by
 unfold txtP at e
 split at e
 ·rename_i neg ws
  obtain ⟨a, as', rfl, h1, h2⟩ := hv.uncons
  rw [h2.of_nil]
  cases h1 with
  | @ag _ _ l' hn hv' =>
   have hv' : VL h D r [.b neg, .lst ws] l' := ⟨hn, hv'⟩
   obtain ⟨b, l2, rfl, h3, h4⟩ := hv'.uncons
   obtain ⟨c, l3, rfl, h5, h6⟩ := h4.uncons
   rw [h6.of_nil]
   cases h3
   cases hw : wordsP ws with
   | none => rw [hw] at e; cases e
   | some xs =>
    rw [hw] at e
    simp only [Option.bind_some] at e
    cases h5 with
    | @lst _ _ m off cap z blk cs e1 d hs hz0 hz hcap hc hv2 =>
     obtain ⟨f1, f2⟩ := zeb hw
     show (if ws.length = 0 then wtx neg [] else if z = 1 then ((h.rd m off ws.length).bind wordsA).bind (wtx neg) else none) = _
     by_cases h0 : ws.length = 0
     ·have : ws = [] := List.eq_nil_of_length_eq_zero h0
      subst this
      simp [wordsP] at hw; subst hw
      simpa using e
     ·have hz1 : z = 1 := by
       cases ws with
       | nil => simp at h0
       | cons x ws => rw [← hz x (by simp), f2 x (by simp)]
      subst hz1
      rw [if_neg h0, if_pos rfl]
      have hlen : (flat ws).length = ws.length := by rw [f1]
      have hrd : h.rd m off ws.length = some ((List.range ws.length).map cs) := by
       have hlast : off + ws.length ≤ blk.v.length := by
        have := hc (ws.length - 1) (by omega)
        have := zaQ this
        omega
       simp only [Hp.rd, e1, if_pos hlast]
       congr 1
       apply List.ext_getElem?
       intro i
       rw [List.getElem?_take, List.getElem?_map, List.getElem?_drop]
       by_cases hi : i < ws.length
       ·rw [if_pos hi, hc i (by omega), List.getElem?_range hi]; rfl
       ·rw [if_neg hi, List.getElem?_eq_none (by simp; omega)]; rfl
      have hv3 : ∀ i (hi : i < ws.length), V h D [] ws[i] (cs i) := fun i hi => by
       have := hv2 i (by omega)
       simp only [f1] at this
       exact this
      rw [hrd, Option.bind_some, ziP hw hv3, Option.bind_some]
      exact e
    | lst0 m off cap z =>
     simp [wordsP] at hw; subst hw
     simpa [txtA] using e
    | lsn => simp [wordsP] at hw; subst hw; exact e
    | lse => simp [wordsP] at hw; subst hw; exact e
    | le0 => simp [wordsP] at hw; subst hw; exact e
 ·rename_i neg
  obtain ⟨a, as', rfl, h1, h2⟩ := hv.uncons
  rw [h2.of_nil]
  cases h1 with
  | @ag _ _ l' hn hv' =>
   have hv' : VL h D r [.b neg, .nl] l' := ⟨hn, hv'⟩
   obtain ⟨b, l2, rfl, h3, h4⟩ := hv'.uncons
   obtain ⟨c, l3, rfl, h5, h6⟩ := h4.uncons
   rw [h6.of_nil]
   cases h3
   cases h5 with
   | nln => exact e
   | nle => exact e
 ·cases e
theorem zo7 {h : Hp} {D : Nat → Prop} {r : List Nat} {f : Nat} {args : List PV} {asq : List AV} {v : PV} (e : libP f args = some v) (hv : VL h D r args asq) : ∃ a, libA f asq = some a ∧ V h D r v a := by
 have one : ∀ {x : PV} {l : List PV} {asq : List AV}, VL h D r (x :: l) asq → (∃ k n, x = .i k n) ∨ (∃ s, x = .s s) → ∃ as', VL h D r l as' ∧ ((∃ k n, x = .i k n ∧ asq = .i k n :: as') ∨ (∃ s, x = .s s ∧ asq = .s s :: as')) := by
  intro x l asq hx ho
  obtain ⟨w, ws, rfl, a, b⟩ := hx.uncons
  refine ⟨ws, b, ?_⟩
  rcases ho with ⟨k, n, rfl⟩ | ⟨s, rfl⟩
  ·cases a; exact .inl ⟨k, n, rfl, rfl⟩
  ·cases a; exact .inr ⟨s, rfl, rfl⟩
 unfold libP at e
 split at e
 ·rename_i n
  obtain ⟨as', a, q⟩ := one hv (.inl ⟨_, n, rfl⟩)
  rcases q with ⟨k', n', e1, rfl⟩ | ⟨s, e1, _⟩
  ·cases e1
   rw [a.of_nil]
   split at e
   ·rename_i hc; cases e; exact ⟨_, by simp only [libA, if_pos hc], .s _⟩
   ·cases e
  ·cases e1
 ·rename_i l c
  obtain ⟨as', a, q⟩ := one hv (.inr ⟨l, rfl⟩)
  rcases q with ⟨k', n', e1, _⟩ | ⟨s, e1, rfl⟩
  ·cases e1
  cases e1
  obtain ⟨as2, a2, q⟩ := one a (.inl ⟨_, c, rfl⟩)
  rcases q with ⟨k', n', e1, rfl⟩ | ⟨s, e1, _⟩
  ·cases e1
   rw [a2.of_nil]
   split at e
   ·rename_i hc; cases e; exact ⟨_, by simp only [libA, if_pos hc], .s _⟩
   ·cases e
  ·cases e1
 ·rename_i l c
  obtain ⟨as', a, q⟩ := one hv (.inr ⟨l, rfl⟩)
  rcases q with ⟨k', n', e1, _⟩ | ⟨s, e1, rfl⟩
  ·cases e1
  cases e1
  obtain ⟨as2, a2, q⟩ := one a (.inr ⟨c, rfl⟩)
  rcases q with ⟨k', n', e1, _⟩ | ⟨s, e1, rfl⟩
  ·cases e1
  ·cases e1
   rw [a2.of_nil]
   split at e
   ·rename_i hc; cases e; exact ⟨_, by simp only [libA, if_pos hc], .s _⟩
   ·rename_i hc
    split at e
    ·rename_i hf
     split at e
     ·cases e; exact ⟨_, by simp only [libA, if_neg hc, if_pos hf], .i _ _⟩
     ·cases e
    ·cases e
 ·rename_i l
  obtain ⟨as', a, q⟩ := one hv (.inr ⟨l, rfl⟩)
  rcases q with ⟨k', n', e1, _⟩ | ⟨s, e1, rfl⟩
  ·cases e1
  ·cases e1
   rw [a.of_nil]
   split at e
   ·rename_i hc; cases e; exact ⟨_, by simp only [libA, if_pos hc], (fun q : VL h D r [.i .i64 _, .inil] [.i .i64 _, .inil] => .tu q.1 q.2) (VL.cons (.i _ _) (VL.cons .inil .nil))⟩
   ·cases e
 ·cases e
theorem zmY {Gl : Nat → Option (List AV)} (g0 : Gl 0 = some powT) {Db : Nat → Prop} {r : List Nat} {M : PM} {h : Hp} {f : Nat} {args : List PV} {asq : List AV} {v : PV} {M' : PM} (e : orcP f args M = some (v, M')) (I : PInv Gl Db r M h) (hv : VL h (DD Db r M) r args asq) : PRes Gl Db r M h v M' (orcA f asq h) := by
 have hg : ∃ b, h.m 0 = some b ∧ b.v = powT := by
  obtain ⟨b, p1, p2, _⟩ := I.glob 0 powT g0
  exact ⟨b, p1, p2.1⟩
 unfold orcP at e
 split at e
 ·rename_i h33
  simp only [Option.map_eq_some_iff] at e
  obtain ⟨l, e1, e2⟩ := e
  cases e2
  exact ⟨_, h, r, by unfold orcA; rw [if_pos h33, if_pos hg, zqj e1 hv]; rfl, I, .refl _ _ _, .s l⟩
 ·rename_i h33
  simp only [Option.map_eq_some_iff] at e
  obtain ⟨l, e1, e2⟩ := e
  cases e2
  obtain ⟨a, a1, a2⟩ := zo7 e1 hv
  exact ⟨a, h, r, by unfold orcA; rw [if_neg h33, if_neg (fun q => q.2 hg), a1]; rfl, I, .refl _ _ _, a2⟩
end Go.Eng
namespace Go.Eng
set_option maxRecDepth 100000
def oM (d s : Nat) (a : List Nat) : XOper := ⟨some d,.mov (.t s),a,none⟩
def oP (d : Nat) (o : XO) (a : List Nat) : XOper := ⟨some d,o,a,none⟩
def oT (d : Nat) (o : XO) (a : List Nat) (g : Nat) : XOper := ⟨some d,o,a,some (g,true)⟩
def oF (d : Nat) (o : XO) (a : List Nat) (g : Nat) : XOper := ⟨some d,o,a,some (g,false)⟩
def oN (o : XO) (a : List Nat) : XOper := ⟨none,o,a,none⟩
@[go_sem] theorem zs3 (d s : Nat) (a : List Nat) : oM d s a = ⟨some d,.mov (.t s),a,none⟩ := _root_.id rfl
@[go_sem] theorem zs5 (d : Nat) (o : XO) (a : List Nat) : oP d o a = ⟨some d,o,a,none⟩ := _root_.id rfl
@[go_sem] theorem zs6 (d : Nat) (o : XO) (a : List Nat) (g : Nat) : oT d o a g = ⟨some d,o,a,some (g,true)⟩ := _root_.id rfl
@[go_sem] theorem zs2 (d : Nat) (o : XO) (a : List Nat) (g : Nat) : oF d o a g = ⟨some d,o,a,some (g,false)⟩ := _root_.id rfl
@[go_sem] theorem zs4 (o : XO) (a : List Nat) : oN o a = ⟨none,o,a,none⟩ := _root_.id rfl
def xs_1d3e63 : List UInt8 := [0,1,2,2,3,3,3,3,4,4,4,4,4,4,4,4,5,5,5,5,5,5,5,5,5,5,5,5,5,5,5,5,6,6,6,6,6,6,6,6,6,6,6,6,6,6,6,6,6,6,6,6,6,6,6,6,6,6,6,6,6,6,6,6,7,7,7,7,7,7,7,7,7,7,7,7,7,7,7,7,7,7,7,7,7,7,7,7,7,7,7,7,7,7,7,7,7,7,7,7,7,7,7,7,7,7,7,7,7,7,7,7,7,7,7,7,7,7,7,7,7,7,7,7,7,7,7,7,8,8,8,8,8,8,8,8,8,8,8,8,8,8,8,8,8,8,8,8,8,8,8,8,8,8,8,8,8,8,8,8,8,8,8,8,8,8,8,8,8,8,8,8,8,8,8,8,8,8,8,8,8,8,8,8,8,8,8,8,8,8,8,8,8,8,8,8,8,8,8,8,8,8,8,8,8,8,8,8,8,8,8,8,8,8,8,8,8,8,8,8,8,8,8,8,8,8,8,8,8,8,8,8,8,8,8,8,8,8,8,8,8,8,8,8,8,8,8,8,8,8,8,8,8,8,8,8]
def x_l12_ProjInverts_l1 : XC := .seq (.seq (.reg [oM 35 12 [],oP 36 (.bin .lss (.t 35) (.k (.i .i64 9))) [0]]) (.cond (.t 36) .skip (.exit 0))) (.seq (.block 1 (.reg [oM 39 12 [],oM 40 12 [],oP 41 (.fad 0 (.t 9)) [],oP 42 (.ixa 9 1 (.t 41) (.t 40)) [2,1],oP 43 (.load false 1 (.t 42)) [3],oP 44 (.bin .rem (.t 43) (.k (.i .i64 100000000))) [4],oM 45 3 [],oP 46 (.bin .rem (.t 45) (.k (.i .i64 9))) [6],oP 47 (.bin .add (.k (.i .i64 1)) (.t 46)) [7],oP 48 (.bin .mul (.t 44) (.t 47)) [5,8],oP 49 (.fad 0 (.t 11)) [],oP 50 (.ixa 9 1 (.t 49) (.t 39)) [10,0,0,1,2,3,4,5,6,7,8,9],oN (.store 1 (.t 50) (.t 48)) [11,9,0,1,2,3,4,5,6,7,8,9]])) (.reg [oM 37 12 [],oP 38 (.bin .add (.t 37) (.k (.i .i64 1))) [0],oM 12 38 [1,0,1]]))
def x_l12_ProjInverts_l3 : XC := .seq (.seq (.reg [oM 118 23 [],oM 119 13 [],oP 120 (.len (.t 119)) [1],oP 121 (.bin .lss (.t 118) (.t 120)) [0,2]]) (.cond (.t 121) .skip (.exit 4))) (.seq (.block 5 (.seq (.drw [oM 125 13 [],oM 126 14 [],oP 127 (.ixs 9 (.t 125) (.t 126)) [0,1],oP 128 (.load true 9 (.t 127)) [2],oM 129 13 [],oM 130 23 [],oP 131 (.ixs 9 (.t 129) (.t 130)) [4,5],oP 132 (.load true 9 (.t 131)) [6],oP 133 (.call 335 [.t 128,.t 132]) [3,7],oM 124 133 [8],oP 134 (.ext (.t 124) 0) [9],oP 135 (.ext (.t 124) 1) [9],oP 24 (.new [.i .i64 0,.i .i64 0,.i .i64 0,.i .i64 0,.i .i64 0,.i .i64 0,.i .i64 0,.i .i64 0,.i .i64 0]) [],oN (.store 9 (.t 24) (.t 134)) [12,10,8,0,1,2,3,4,5,6,7,8,9,10,12],oM 25 135 [11,13,0,1,2,3,4,5,6,7,8,9,10,11,12,13]] []) (.seq (.drw [oM 137 13 [],oM 138 14 [],oP 139 (.ixs 9 (.t 137) (.t 138)) [0,1],oP 140 (.load true 9 (.t 139)) [2],oM 141 13 [],oM 142 23 [],oP 143 (.ixs 9 (.t 141) (.t 142)) [4,5],oP 144 (.load true 9 (.t 143)) [6],oP 145 (.call 336 [.t 140,.t 144]) [3,7],oM 136 145 [8],oP 146 (.ext (.t 136) 0) [9],oP 147 (.ext (.t 136) 1) [9],oP 26 (.new [.i .i64 0,.i .i64 0,.i .i64 0,.i .i64 0,.i .i64 0,.i .i64 0,.i .i64 0,.i .i64 0,.i .i64 0]) [],oN (.store 9 (.t 26) (.t 146)) [12,10,8,0,1,2,3,4,5,6,7,8,9,10,12],oM 27 147 [11,13,0,1,2,3,4,5,6,7,8,9,10,11,12,13]] []) (.seq (.reg [oM 149 13 [],oM 150 23 [],oP 151 (.ixs 9 (.t 149) (.t 150)) [0,1],oP 152 (.load true 9 (.t 151)) [2],oP 153 (.call 333 [.t 152]) [3],oM 148 153 [4],oP 154 (.ext (.t 148) 0) [5],oP 155 (.ext (.t 148) 1) [5],oP 28 (.new [.i .i64 0,.i .i64 0,.i .i64 0,.i .i64 0,.i .i64 0,.i .i64 0,.i .i64 0,.i .i64 0,.i .i64 0]) [],oN (.store 9 (.t 28) (.t 154)) [8,6,4,0,1,2,3,4,5,6,8],oM 29 155 [7,9,0,1,2,3,4,5,6,7,8,9]]) (.seq (.drw [oM 156 25 [],oM 157 27 [],oP 158 (.bin .neq (.t 156) (.t 157)) [0,1],oM 159 158 [2],oF 160 (.load true 9 (.t 24)) [3] 159,oF 161 (.load true 9 (.t 26)) [3] 159,oF 162 (.eqa true [1,1,1,1,1,1,1,1,1] (.t 160) (.t 161)) [4,5,3] 159,oP 163 (.pick (.t 159) (.k (.b true)) (.t 162)) [3,6],oM 164 163 [7,3],oF 165 (.mov (.t 13)) [8] 164,oF 166 (.mov (.t 14)) [8] 164,oF 167 (.ixs 9 (.t 165) (.t 166)) [9,10,8] 164,oF 168 (.load true 9 (.t 167)) [11,8] 164,oF 169 (.mov (.t 13)) [8] 164,oF 170 (.mov (.t 23)) [8] 164,oF 171 (.ixs 9 (.t 169) (.t 170)) [13,14,8] 164,oF 172 (.load true 9 (.t 171)) [15,8] 164,oF 173 (.call 337 [.t 168,.t 172]) [12,16,8,8] 164,oF 174 (.mov (.t 18)) [8] 164,oF 175 (.bin .eql (.t 174) (.k (.i .i64 0))) [18,8] 164,oF 176 (.mov (.t 175)) [19,17,8] 164,oT 177 (.mov (.t 29)) [20] 176,oT 178 (.bin .eql (.t 177) (.k (.i .i64 0))) [21,20] 176,oF 179 (.pick (.t 176) (.t 178) (.k (.b false))) [20,22,8] 164,oF 180 (.mov (.t 179)) [23,20,8] 164,oT 181 (.load true 9 (.t 17)) [24] 180,oT 182 (.load true 9 (.t 28)) [24] 180,oT 183 (.eqa false [1,1,1,1,1,1,1,1,1] (.t 181) (.t 182)) [25,26,24] 180,oF 184 (.pick (.t 180) (.t 183) (.k (.b false))) [24,27,8] 164,oF 185 (.eqt true 0 (.t 173) (.t 184)) [17,28,8] 164,oP 186 (.pick (.t 164) (.k (.b true)) (.t 185)) [8,29]] []) (.cond (.t 186) (.seq (.reg [oP 8 (.mov (.k (.b false))) []]) .ret) .skip)))))) (.reg [oM 122 23 [],oP 123 (.bin .add (.t 122) (.k (.i .i64 1))) [0],oM 23 123 [1,0,1]]))
def x_l12_ProjInverts_l2 : XC := .seq (.seq (.reg [oM 62 14 [],oM 63 13 [],oP 64 (.len (.t 63)) [1],oP 65 (.bin .lss (.t 62) (.t 64)) [0,2]]) (.cond (.t 65) .skip (.exit 2))) (.seq (.block 3 (.seq (.reg [oM 69 13 [],oM 70 14 [],oP 71 (.ixs 9 (.t 69) (.t 70)) [0,1],oP 72 (.load true 9 (.t 71)) [2],oP 73 (.call 332 [.t 72]) [3],oM 68 73 [4],oP 74 (.ext (.t 68) 0) [5],oP 75 (.ext (.t 68) 1) [5],oP 15 (.new [.i .i64 0,.i .i64 0,.i .i64 0,.i .i64 0,.i .i64 0,.i .i64 0,.i .i64 0,.i .i64 0,.i .i64 0]) [],oN (.store 9 (.t 15) (.t 74)) [8,6,4,0,1,2,3,4,5,6,8],oM 16 75 [7,9,0,1,2,3,4,5,6,7,8,9]]) (.seq (.reg [oM 77 13 [],oM 78 14 [],oP 79 (.ixs 9 (.t 77) (.t 78)) [0,1],oP 80 (.load true 9 (.t 79)) [2],oP 81 (.call 333 [.t 80]) [3],oM 76 81 [4],oP 82 (.ext (.t 76) 0) [5],oP 83 (.ext (.t 76) 1) [5],oP 17 (.new [.i .i64 0,.i .i64 0,.i .i64 0,.i .i64 0,.i .i64 0,.i .i64 0,.i .i64 0,.i .i64 0,.i .i64 0]) [],oN (.store 9 (.t 17) (.t 82)) [8,6,4,0,1,2,3,4,5,6,8],oM 18 83 [7,9,0,1,2,3,4,5,6,7,8,9]]) (.seq (.reg [oM 85 13 [],oM 86 14 [],oP 87 (.ixs 9 (.t 85) (.t 86)) [0,1],oP 88 (.load true 9 (.t 87)) [2],oP 89 (.call 308 [.t 88]) [3],oM 84 89 [4],oP 90 (.ext (.t 84) 0) [5],oP 91 (.ext (.t 84) 1) [5],oP 19 (.new [.i .i64 0,.i .i64 0,.i .i64 0,.i .i64 0,.i .i64 0,.i .i64 0,.i .i64 0,.i .i64 0,.i .i64 0]) [],oN (.store 9 (.t 19) (.t 90)) [8,6,4,0,1,2,3,4,5,6,8],oM 20 91 [7,9,0,1,2,3,4,5,6,7,8,9]]) (.seq (.reg [oM 93 13 [],oM 94 14 [],oP 95 (.ixs 9 (.t 93) (.t 94)) [0,1],oP 96 (.load true 9 (.t 95)) [2],oP 97 (.call 334 [.t 96]) [3],oM 92 97 [4],oP 98 (.ext (.t 92) 0) [5],oP 99 (.ext (.t 92) 1) [5],oP 21 (.new [.i .i64 0,.i .i64 0,.i .i64 0,.i .i64 0,.i .i64 0,.i .i64 0,.i .i64 0,.i .i64 0,.i .i64 0]) [],oN (.store 9 (.t 21) (.t 98)) [8,6,4,0,1,2,3,4,5,6,8],oM 22 99 [7,9,0,1,2,3,4,5,6,7,8,9]]) (.seq (.seq (.reg [oM 100 16 [],oM 101 18 [],oP 102 (.bin .neq (.t 100) (.t 101)) [0,1],oM 103 102 [2],oF 104 (.mov (.t 20)) [3] 103,oF 105 (.mov (.t 22)) [3] 103,oF 106 (.bin .neq (.t 104) (.t 105)) [4,5,3] 103,oP 107 (.pick (.t 103) (.k (.b true)) (.t 106)) [3,6],oM 108 107 [7,3],oF 109 (.load true 9 (.t 15)) [8] 108,oF 110 (.load true 9 (.t 17)) [8] 108,oF 111 (.eqa true [1,1,1,1,1,1,1,1,1] (.t 109) (.t 110)) [9,10,8] 108,oP 112 (.pick (.t 108) (.k (.b true)) (.t 111)) [8,11],oM 113 112 [12,8],oF 114 (.load true 9 (.t 19)) [13] 113,oF 115 (.load true 9 (.t 21)) [13] 113,oF 116 (.eqa true [1,1,1,1,1,1,1,1,1] (.t 114) (.t 115)) [14,15,13] 113,oP 117 (.pick (.t 113) (.k (.b true)) (.t 116)) [13,16]]) (.cond (.t 117) (.seq (.reg [oP 8 (.mov (.k (.b false))) []]) .ret) .skip)) (.seq (.reg [oP 23 (.mov (.k (.i .i64 0))) []]) (.block 4 (.loop x_l12_ProjInverts_l3))))))))) (.reg [oM 66 14 [],oP 67 (.bin .add (.t 66) (.k (.i .i64 1))) [0],oM 14 67 [1,0,1]]))
def x_l12_ProjInverts : XF := ⟨188,.seq (.reg [oP 8 (.mov (.k (.b false))) []]) (.seq (.reg [oM 30 0 [],oP 31 (.call 301 [.t 30,.k (.i .i64 0)]) [0],oP 9 (.new [.i .i64 0,.i .i64 0,.i .i64 0,.i .i64 0,.i .i64 0,.i .i64 0,.i .i64 0,.i .i64 0,.i .i64 0]) [],oN (.store 9 (.t 9) (.t 31)) [2,1,1,0,1,2]]) (.seq (.reg [oM 32 1 [],oP 33 (.call 301 [.t 32,.k (.i .i64 0)]) [0],oP 10 (.new [.i .i64 0,.i .i64 0,.i .i64 0,.i .i64 0,.i .i64 0,.i .i64 0,.i .i64 0,.i .i64 0,.i .i64 0]) [],oN (.store 9 (.t 10) (.t 33)) [2,1,1,0,1,2]]) (.seq (.reg [oP 34 (.load true 9 (.t 9)) [],oP 11 (.new [.i .i64 0,.i .i64 0,.i .i64 0,.i .i64 0,.i .i64 0,.i .i64 0,.i .i64 0,.i .i64 0,.i .i64 0]) [],oN (.store 9 (.t 11) (.t 34)) [1,0,0,1]]) (.seq (.seq (.reg [oP 12 (.mov (.k (.i .i64 0))) []]) (.block 0 (.loop x_l12_ProjInverts_l1))) (.seq (.drw [oP 51 (.load true 9 (.t 9)) [],oP 52 (.load true 9 (.t 10)) [],oP 53 (.load true 9 (.t 9)) [],oM 54 2 [],oM 55 3 [],oP 56 (.call 330 [.t 53,.t 54,.t 55]) [2,3,4],oP 57 (.load true 9 (.t 10)) [],oM 58 3 [],oP 59 (.call 331 [.t 57,.t 58]) [6,7,5],oP 60 (.load true 9 (.t 11)) [],oP 61 (.bsl 5 9 [.i .i64 0,.i .i64 0,.i .i64 0,.i .i64 0,.i .i64 0,.i .i64 0,.i .i64 0,.i .i64 0,.i .i64 0] [(0,(9,.t 51)),(9,(9,.t 52)),(18,(9,.t 56)),(27,(9,.t 59)),(36,(9,.t 60))]) [0,1,5,8,9],oM 13 61 [10,8,0,1,2,3,4,5,6,7,8,9,10]] [(0,5),(1,5),(6,5),(0,8),(1,8),(9,5),(9,8)]) (.seq (.seq (.reg [oP 14 (.mov (.k (.i .i64 0))) []]) (.block 2 (.loop x_l12_ProjInverts_l2))) (.seq (.reg [oP 187 (.call 303 []) [],oM 8 187 [0,0,0]]) .ret))))))),[.tmp 8]⟩
def x_proj_Four_l2 : XC := .seq (.reg [oP 24 (.bin .lss (.t 23) (.k (.i .i64 4))) []]) (.seq (.cond (.t 24) .skip (.exit 2)) (.seq (.block 3 (.seq (.reg [oP 25 (.iag 4 true 2 (.t 22) (.t 23)) [],oP 9 (.new [.i .i64 0,.i .i64 0]) [],oN (.store 2 (.t 9) (.t 25)) [1,0,0,1]]) (.seq (.reg [oP 26 (.fad 0 (.t 9)) [],oP 27 (.load false 1 (.t 26)) [0],oP 28 (.fad 1 (.t 9)) [],oP 29 (.load false 1 (.t 28)) [2],oP 30 (.mm true (.t 27) [.t 29]) [1,3],oP 31 (.bin .gtr (.t 30) (.k (.i .i64 1048576))) [4],oM 32 31 [5],oF 33 (.fad 0 (.t 9)) [6] 32,oF 34 (.load false 1 (.t 33)) [7,6] 32,oF 35 (.fad 1 (.t 9)) [6] 32,oF 36 (.load false 1 (.t 35)) [9,6] 32,oF 37 (.mm false (.t 34) [.t 36]) [8,10,6] 32,oF 38 (.bin .lss (.t 37) (.k (.i .i64 (-1048576)))) [11,6] 32,oP 39 (.pick (.t 32) (.k (.b true)) (.t 38)) [6,12]]) (.cond (.t 39) (.seq (.reg [oP 40 (.build [.i .i64 0,.i .i64 0,.i .i64 0,.i .i64 0,.i .i64 0,.i .i64 0,.i .i64 0,.i .i64 0,.i .i64 0] []) [],oN (.store 9 (.t 4) (.t 40)) [0,0],oP 5 (.mov (.k (.i .i64 1))) [1,0,1]]) .ret) .skip)))) (.reg [oP 41 (.bin .add (.t 23) (.k (.i .i64 1))) [],oM 23 41 [0]])))
def x_proj_Four_l1 : XC := .seq (.reg [oP 19 (.bin .lss (.t 18) (.t 17)) []]) (.seq (.cond (.t 19) .skip (.exit 0)) (.seq (.block 1 (.seq (.reg [oP 20 (.ixs 8 (.t 16) (.t 18)) [],oP 21 (.load true 8 (.t 20)) [0],oP 7 (.new [.i .i64 0,.i .i64 0,.i .i64 0,.i .i64 0,.i .i64 0,.i .i64 0,.i .i64 0,.i .i64 0]) [],oN (.store 8 (.t 7) (.t 21)) [2,1,0,1,2]]) (.seq (.reg [oP 22 (.load true 8 (.t 7)) [],oP 23 (.mov (.k (.i .i64 0))) []]) (.block 2 (.loop x_proj_Four_l2))))) (.reg [oP 42 (.bin .add (.t 18) (.k (.i .i64 1))) [],oM 18 42 [0]])))
def x_proj_Four : XF := ⟨67,.seq (.reg [oP 2 (.box (.t 0)) [],oP 3 (.box (.t 1)) [],oP 4 (.new [.i .i64 0,.i .i64 0,.i .i64 0,.i .i64 0,.i .i64 0,.i .i64 0,.i .i64 0,.i .i64 0,.i .i64 0]) [],oP 5 (.mov (.k (.i .i64 0))) []]) (.seq (.seq (.reg [oP 14 (.load true 8 (.t 2)) [],oP 15 (.load true 8 (.t 3)) [],oP 16 (.bsl 2 8 [.i .i64 0,.i .i64 0,.i .i64 0,.i .i64 0,.i .i64 0,.i .i64 0,.i .i64 0,.i .i64 0] [(0,(8,.t 14)),(8,(8,.t 15))]) [0,1],oP 17 (.len (.t 16)) [2],oP 18 (.mov (.k (.i .i64 0))) []]) (.block 0 (.loop x_proj_Four_l1))) (.seq (.reg [oP 44 (.load true 8 (.t 2)) [],oP 45 (.call 315 [.t 44]) [0],oM 43 45 [1],oP 46 (.ext (.t 43) 0) [2],oP 47 (.ext (.t 43) 1) [2],oP 10 (.new [.b false,.sn,.b false,.sn,.b false,.sn,.b false,.sn,.b false,.sn,.b false,.sn,.b false,.sn,.b false,.sn,.b false,.sn]) [],oN (.store 18 (.t 10) (.t 46)) [5,3,1,0,1,2,3,5],oM 11 47 [4,6,0,1,2,3,4,5,6]]) (.seq (.reg [oP 49 (.load true 8 (.t 3)) [],oP 50 (.call 315 [.t 49]) [0],oM 48 50 [1],oP 51 (.ext (.t 48) 0) [2],oP 52 (.ext (.t 48) 1) [2],oP 12 (.new [.b false,.sn,.b false,.sn,.b false,.sn,.b false,.sn,.b false,.sn,.b false,.sn,.b false,.sn,.b false,.sn,.b false,.sn]) [],oN (.store 18 (.t 12) (.t 51)) [5,3,1,0,1,2,3,5],oM 13 52 [4,6,0,1,2,3,4,5,6]]) (.seq (.seq (.reg [oM 53 11 [],oP 54 (.un .not (.t 53)) [0],oM 55 54 [1],oF 56 (.mov (.t 13)) [2] 55,oF 57 (.un .not (.t 56)) [3,2] 55,oP 58 (.pick (.t 55) (.k (.b true)) (.t 57)) [2,4]]) (.cond (.t 58) (.seq (.reg [oP 59 (.build [.i .i64 0,.i .i64 0,.i .i64 0,.i .i64 0,.i .i64 0,.i .i64 0,.i .i64 0,.i .i64 0,.i .i64 0] []) [],oN (.store 9 (.t 4) (.t 59)) [0,0],oP 5 (.mov (.k (.i .i64 10))) [1,0,1]]) .ret) .skip)) (.seq (.drw [oP 60 (.load true 18 (.t 12)) [],oP 61 (.load true 18 (.t 10)) [],oP 62 (.call 311 [.t 61]) [1],oP 63 (.call 316 [.t 60,.t 62]) [0,2,2],oP 64 (.call 314 [.t 63]) [3,3],oP 65 (.ext (.t 64) 0) [4],oP 66 (.ext (.t 64) 1) [4],oN (.store 9 (.t 4) (.t 65)) [5,4,0,1,2,3,4,5,6],oM 5 66 [6,7,0,1,2,3,4,5,6,7]] [(0,2)]) .ret))))),[.cell 4 true 9,.tmp 5]⟩
def x_proj_Apply : XF := ⟨64,.seq (.reg [oP 3 (.box (.t 0)) [],oP 4 (.box (.t 1)) [],oP 5 (.box (.t 2)) [],oP 6 (.new [.b false,.sn,.b false,.sn]) [],oP 7 (.new [.b false,.sn,.b false,.sn]) [],oP 8 (.mov (.k (.i .i64 0))) []]) (.seq (.seq (.reg [oP 15 (.load true 9 (.t 3)) [],oP 16 (.call 302 [.t 15]) [0],oM 9 16 [1,1,0,1]]) (.seq (.reg [oM 17 9 [],oP 18 (.bin .neq (.t 17) (.k (.i .i64 0))) [0]]) (.cond (.t 18) (.seq (.reg [oP 19 (.build [.b false,.sn,.b false,.sn] []) [],oP 20 (.build [.b false,.sn,.b false,.sn] []) [],oM 21 9 [],oN (.store 4 (.t 6) (.t 19)) [0,0],oN (.store 4 (.t 7) (.t 20)) [1,3,0,1,3],oM 8 21 [2,4,0,1,2,3,4]]) .ret) .skip))) (.seq (.seq (.reg [oP 22 (.load true 4 (.t 4)) [],oP 23 (.call 44 [.t 22]) [0],oP 24 (.bin .gtr (.t 23) (.k (.i .i64 1000))) [1],oM 25 24 [2,1],oF 26 (.load true 4 (.t 5)) [3] 25,oF 27 (.call 44 [.t 26]) [4,3,3] 25,oF 28 (.bin .gtr (.t 27) (.k (.i .i64 1000))) [5,3] 25,oP 29 (.pick (.t 25) (.k (.b true)) (.t 28)) [3,6]]) (.cond (.t 29) (.seq (.reg [oP 30 (.build [.b false,.sn,.b false,.sn] []) [],oP 31 (.build [.b false,.sn,.b false,.sn] []) [],oN (.store 4 (.t 6) (.t 30)) [0,0],oN (.store 4 (.t 7) (.t 31)) [1,2,0,1,2],oP 8 (.mov (.k (.i .i64 4))) [3,0,1,2,3]]) .ret) .skip)) (.seq (.drw [oP 32 (.fad 0 (.t 3)) [],oP 33 (.slarr 9 1 (.t 32) (some (.k (.i .i64 6))) none) [0],oP 34 (.load true 4 (.t 4)) [],oP 35 (.load true 4 (.t 5)) [],oP 36 (.call 310 [.t 33,.t 34,.t 35]) [1,2,3],oP 10 (.new [.b false,.sn,.b false,.sn]) [],oN (.store 4 (.t 10) (.t 36)) [5,4,4,0,1,2,3,4,5]] []) (.seq (.seq (.reg [oP 37 (.load true 4 (.t 10)) [],oP 38 (.call 67 [.t 37]) [0],oP 39 (.bin .eql (.t 38) (.k (.i .i64 0))) [1]]) (.cond (.t 39) (.seq (.reg [oP 40 (.build [.b false,.sn,.b false,.sn] []) [],oP 41 (.build [.b false,.sn,.b false,.sn] []) [],oN (.store 4 (.t 6) (.t 40)) [0,0],oN (.store 4 (.t 7) (.t 41)) [1,2,0,1,2],oP 8 (.mov (.k (.i .i64 9))) [3,0,1,2,3]]) .ret) .skip)) (.seq (.drw [oP 43 (.fad 0 (.t 3)) [],oP 44 (.slarr 9 1 (.t 43) none (some (.k (.i .i64 3)))) [0],oP 45 (.load true 4 (.t 4)) [],oP 46 (.load true 4 (.t 5)) [],oP 47 (.call 310 [.t 44,.t 45,.t 46]) [1,2,3],oP 48 (.load true 4 (.t 10)) [],oP 49 (.call 65 [.t 47,.t 48]) [4,5,4],oM 42 49 [6],oP 50 (.ext (.t 42) 0) [7],oP 51 (.ext (.t 42) 1) [7],oP 11 (.new [.b false,.sn,.b false,.sn]) [],oN (.store 4 (.t 11) (.t 50)) [10,8,6,0,1,2,3,4,5,6,7,8,10],oM 12 51 [9,11,0,1,2,3,4,5,6,7,8,9,10,11]] [(5,4)]) (.seq (.drw [oP 53 (.fad 0 (.t 3)) [],oP 54 (.slarr 9 1 (.t 53) (some (.k (.i .i64 3))) (some (.k (.i .i64 6)))) [0],oP 55 (.load true 4 (.t 4)) [],oP 56 (.load true 4 (.t 5)) [],oP 57 (.call 310 [.t 54,.t 55,.t 56]) [1,2,3],oP 58 (.load true 4 (.t 10)) [],oP 59 (.call 65 [.t 57,.t 58]) [4,5,4],oM 52 59 [6],oP 60 (.ext (.t 52) 0) [7],oP 61 (.ext (.t 52) 1) [7],oP 13 (.new [.b false,.sn,.b false,.sn]) [],oN (.store 4 (.t 13) (.t 60)) [10,8,6,0,1,2,3,4,5,6,7,8,10],oM 14 61 [9,11,0,1,2,3,4,5,6,7,8,9,10,11]] [(5,4)]) (.seq (.drw [oP 62 (.load true 4 (.t 11)) [],oP 63 (.load true 4 (.t 13)) [],oN (.store 4 (.t 6) (.t 62)) [0,0],oN (.store 4 (.t 7) (.t 63)) [1,2,0,1,2],oP 8 (.mov (.k (.i .i64 0))) [3,0,1,2,3]] [(1,2)]) .ret))))))),[.cell 6 true 4,.cell 7 true 4,.tmp 8]⟩
def x_l12_whole : XF := ⟨11,.seq (.reg [oP 2 (.new [.b false,.sn,.b false,.sn]) []]) (.seq (.reg [oM 6 0 [],oP 7 (.call 17 [.t 6,.k (.i .i64 1)]) [0],oM 5 7 [1],oP 8 (.ext (.t 5) 0) [2],oP 9 (.ext (.t 5) 1) [2],oP 3 (.new [.b false,.sn,.b false,.sn]) [],oN (.store 4 (.t 3) (.t 8)) [5,3,1,0,1,2,3,5],oM 4 9 [4,6,0,1,2,3,4,5,6]]) (.seq (.reg [oP 10 (.load true 4 (.t 3)) [],oN (.store 4 (.t 2) (.t 10)) [0,0]]) .ret)),[.cell 2 true 4]⟩
def x_l12_lives : XF := ⟨103,.seq (.reg [oP 0 (.mov (.k (.b false))) []]) (.seq (.reg [oP 16 (.build [.i .i64 0,.i .i64 0,.i .i64 0,.i .i64 0,.i .i64 0,.i .i64 0,.i .i64 0,.i .i64 0,.i .i64 0] [(0,(1,.k (.i .i64 2))),(1,(1,.k (.i .i64 0))),(2,(1,.k (.i .i64 3))),(3,(1,.k (.i .i64 0))),(4,(1,.k (.i .i64 2))),(5,(1,.k (.i .i64 5))),(6,(1,.k (.i .i64 0))),(7,(1,.k (.i .i64 0))),(8,(1,.k (.i .i64 1)))]) [],oP 17 (.build [.i .i64 0,.i .i64 0,.i .i64 0,.i .i64 0,.i .i64 0,.i .i64 0,.i .i64 0,.i .i64 0,.i .i64 0] [(0,(9,.t 16))]) [0],oP 1 (.new [.i .i64 0,.i .i64 0,.i .i64 0,.i .i64 0,.i .i64 0,.i .i64 0,.i .i64 0,.i .i64 0,.i .i64 0]) [],oN (.store 9 (.t 1) (.t 17)) [2,1,0,1,2]]) (.seq (.reg [oP 19 (.call 17 [.k (.i .i64 1),.k (.i .i64 2)]) [],oM 18 19 [0],oP 20 (.ext (.t 18) 0) [1],oP 21 (.ext (.t 18) 1) [1],oP 2 (.new [.b false,.sn,.b false,.sn]) [],oN (.store 4 (.t 2) (.t 20)) [4,2,0,0,1,2,4],oM 3 21 [3,5,0,1,2,3,4,5]]) (.seq (.drw [oP 23 (.load true 9 (.t 1)) [],oP 24 (.load true 4 (.t 2)) [],oP 25 (.call 304 [.k (.i .i64 1)]) [],oP 26 (.call 305 [.t 23,.t 24,.t 25]) [0,1,2,2],oM 22 26 [3],oP 27 (.ext (.t 22) 0) [4],oP 28 (.ext (.t 22) 1) [4],oP 29 (.ext (.t 22) 2) [4],oP 4 (.new [.b false,.sn,.b false,.sn]) [],oP 5 (.new [.b false,.sn,.b false,.sn]) [],oN (.store 4 (.t 4) (.t 27)) [8,5,3,0,1,2,3,4,5,8,9],oN (.store 4 (.t 5) (.t 28)) [9,6,10,0,1,2,3,4,5,6,8,9,10],oM 6 29 [7,11,0,1,2,3,4,5,6,7,8,9,10,11]] [(0,2),(1,2)]) (.seq (.reg [oP 31 (.load true 9 (.t 1)) [],oP 32 (.call 308 [.t 31]) [0],oM 30 32 [1],oP 33 (.ext (.t 30) 0) [2],oP 34 (.ext (.t 30) 1) [2],oP 7 (.new [.i .i64 0,.i .i64 0,.i .i64 0,.i .i64 0,.i .i64 0,.i .i64 0,.i .i64 0,.i .i64 0,.i .i64 0]) [],oN (.store 9 (.t 7) (.t 33)) [5,3,1,0,1,2,3,5],oM 8 34 [4,6,0,1,2,3,4,5,6]]) (.seq (.reg [oP 35 (.build [.i .i64 0,.i .i64 0] []) [],oP 36 (.build [.i .i64 0,.i .i64 0] [(0,(1,.k (.i .i64 1)))]) [],oP 37 (.build [.i .i64 0,.i .i64 0] [(0,(1,.k (.i .i64 1))),(1,(1,.k (.i .i64 1)))]) [],oP 38 (.build [.i .i64 0,.i .i64 0] [(1,(1,.k (.i .i64 1)))]) [],oP 39 (.build [.i .i64 0,.i .i64 0,.i .i64 0,.i .i64 0,.i .i64 0,.i .i64 0,.i .i64 0,.i .i64 0] [(0,(2,.t 35)),(2,(2,.t 36)),(4,(2,.t 37)),(6,(2,.t 38))]) [0,1,2,3],oP 9 (.new [.i .i64 0,.i .i64 0,.i .i64 0,.i .i64 0,.i .i64 0,.i .i64 0,.i .i64 0,.i .i64 0]) [],oN (.store 8 (.t 9) (.t 39)) [5,4,0,1,2,3,4,5]]) (.seq (.reg [oP 40 (.build [.i .i64 0,.i .i64 0] []) [],oP 41 (.build [.i .i64 0,.i .i64 0] [(0,(1,.k (.i .i64 2)))]) [],oP 42 (.build [.i .i64 0,.i .i64 0] [(0,(1,.k (.i .i64 3))),(1,(1,.k (.i .i64 3)))]) [],oP 43 (.build [.i .i64 0,.i .i64 0] [(1,(1,.k (.i .i64 2)))]) [],oP 44 (.build [.i .i64 0,.i .i64 0,.i .i64 0,.i .i64 0,.i .i64 0,.i .i64 0,.i .i64 0,.i .i64 0] [(0,(2,.t 40)),(2,(2,.t 41)),(4,(2,.t 42)),(6,(2,.t 43))]) [0,1,2,3],oP 10 (.new [.i .i64 0,.i .i64 0,.i .i64 0,.i .i64 0,.i .i64 0,.i .i64 0,.i .i64 0,.i .i64 0]) [],oN (.store 8 (.t 10) (.t 44)) [5,4,0,1,2,3,4,5]]) (.seq (.reg [oP 46 (.load true 8 (.t 9)) [],oP 47 (.load true 8 (.t 10)) [],oP 48 (.call 309 [.t 46,.t 47]) [0,1],oM 45 48 [2],oP 49 (.ext (.t 45) 0) [3],oP 50 (.ext (.t 45) 1) [3],oP 11 (.new [.i .i64 0,.i .i64 0,.i .i64 0,.i .i64 0,.i .i64 0,.i .i64 0,.i .i64 0,.i .i64 0,.i .i64 0]) [],oN (.store 9 (.t 11) (.t 49)) [6,4,2,0,1,2,3,4,6],oM 12 50 [5,7,0,1,2,3,4,5,6,7]]) (.seq (.reg [oP 52 (.load true 9 (.t 11)) [],oP 53 (.load true 4 (.t 2)) [],oP 54 (.load true 4 (.t 2)) [],oP 55 (.call 305 [.t 52,.t 53,.t 54]) [0,1,2],oM 51 55 [3],oP 56 (.ext (.t 51) 0) [4],oP 57 (.ext (.t 51) 1) [4],oP 58 (.ext (.t 51) 2) [4],oP 13 (.new [.b false,.sn,.b false,.sn]) [],oP 14 (.new [.b false,.sn,.b false,.sn]) [],oN (.store 4 (.t 13) (.t 56)) [8,5,3,0,1,2,3,4,5,8,9],oN (.store 4 (.t 14) (.t 57)) [9,6,10,0,1,2,3,4,5,6,8,9,10],oM 15 58 [7,11,0,1,2,3,4,5,6,7,8,9,10,11]]) (.seq (.seq (.reg [oM 59 6 [],oP 60 (.bin .neq (.t 59) (.k (.i .i64 0))) [0],oM 61 60 [1],oF 62 (.mov (.t 8)) [2] 61,oF 63 (.bin .neq (.t 62) (.k (.i .i64 0))) [3,2] 61,oP 64 (.pick (.t 61) (.k (.b true)) (.t 63)) [2,4],oM 65 64 [5,2],oF 66 (.mov (.t 12)) [6] 65,oF 67 (.bin .neq (.t 66) (.k (.i .i64 0))) [7,6] 65,oP 68 (.pick (.t 65) (.k (.b true)) (.t 67)) [6,8],oM 69 68 [9,6],oF 70 (.mov (.t 15)) [10] 69,oF 71 (.bin .neq (.t 70) (.k (.i .i64 0))) [11,10] 69,oP 72 (.pick (.t 69) (.k (.b true)) (.t 71)) [10,12],oM 73 72 [13,10],oF 74 (.load true 4 (.t 4)) [14] 73,oF 75 (.call 16 [.t 74]) [15,14,14] 73,oF 76 (.bin .neq (.t 75) (.k (.s [52]))) [16,14] 73,oP 77 (.pick (.t 73) (.k (.b true)) (.t 76)) [14,17],oM 78 77 [18,16],oF 79 (.load true 4 (.t 5)) [19] 78,oF 80 (.call 16 [.t 79]) [20,19,19] 78,oF 81 (.bin .neq (.t 80) (.k (.s [55]))) [21,19] 78,oP 82 (.pick (.t 78) (.k (.b true)) (.t 81)) [19,22],oM 83 82 [23,21],oF 84 (.load true 4 (.t 13)) [24] 83,oF 85 (.call 16 [.t 84]) [25,24,24] 83,oF 86 (.bin .neq (.t 85) (.k (.s [49]))) [26,24] 83,oP 87 (.pick (.t 83) (.k (.b true)) (.t 86)) [24,27],oM 88 87 [28,26],oF 89 (.load true 4 (.t 14)) [29] 88,oF 90 (.call 16 [.t 89]) [30,29,29] 88,oF 91 (.bin .neq (.t 90) (.k (.s [49]))) [31,29] 88,oP 92 (.pick (.t 88) (.k (.b true)) (.t 91)) [29,32]]) (.cond (.t 92) (.seq (.reg [oP 0 (.mov (.k (.b false))) []]) .ret) .skip)) (.seq (.reg [oP 93 (.fad 0 (.t 7)) [],oP 94 (.load true 9 (.t 93)) [0],oP 95 (.build [.i .i64 0,.i .i64 0,.i .i64 0,.i .i64 0,.i .i64 0,.i .i64 0,.i .i64 0,.i .i64 0,.i .i64 0] [(0,(1,.k (.i .i64 1))),(1,(1,.k (.i .i64 0))),(2,(1,.k (.i .i64 (-3)))),(3,(1,.k (.i .i64 0))),(4,(1,.k (.i .i64 1))),(5,(1,.k (.i .i64 (-5)))),(6,(1,.k (.i .i64 0))),(7,(1,.k (.i .i64 0))),(8,(1,.k (.i .i64 2)))]) [],oP 96 (.eqa false [1,1,1,1,1,1,1,1,1] (.t 94) (.t 95)) [1,2],oM 97 96 [3],oT 98 (.fad 0 (.t 11)) [4] 97,oT 99 (.load true 9 (.t 98)) [5,4] 97,oT 100 (.build [.i .i64 0,.i .i64 0,.i .i64 0,.i .i64 0,.i .i64 0,.i .i64 0,.i .i64 0,.i .i64 0,.i .i64 0] [(0,(1,.k (.i .i64 6))),(1,(1,.k (.i .i64 0))),(2,(1,.k (.i .i64 0))),(3,(1,.k (.i .i64 0))),(4,(1,.k (.i .i64 6))),(5,(1,.k (.i .i64 0))),(6,(1,.k (.i .i64 (-1)))),(7,(1,.k (.i .i64 (-1)))),(8,(1,.k (.i .i64 4)))]) [4] 97,oT 101 (.eqa false [1,1,1,1,1,1,1,1,1] (.t 99) (.t 100)) [6,7,4] 97,oP 102 (.pick (.t 97) (.t 101) (.k (.b false))) [4,8],oM 0 102 [9,4,0,1,2,3,4,5,6,7,8,9]]) .ret)))))))))),[.tmp 0]⟩
def x_r12_Proj_l1 : XC := .seq (.seq (.reg [oM 10 6 [],oP 11 (.bin .lss (.t 10) (.k (.i .i64 9))) [0]]) (.cond (.t 11) .skip (.exit 0))) (.seq (.block 1 (.seq (.reg [oM 14 0 [],oM 15 1 [],oM 16 6 [],oP 17 (.bin .add (.t 15) (.t 16)) [1,2],oP 18 (.call 180 [.t 14,.t 17]) [0,3],oM 7 18 [4,4,0,1,2,3,4]]) (.seq (.reg [oM 19 7 [],oP 20 (.bin .rem (.t 19) (.k (.i .i64 6))) [0]]) (.block 2 (.seq (.seq (.reg [oP 22 (.bin .eql (.t 20) (.k (.i .i64 1))) [],oM 21 22 [0]]) (.cond (.t 21) .skip (.reg [oP 23 (.bin .eql (.t 20) (.k (.i .i64 (-1)))) [],oM 21 23 [0]]))) (.cond (.t 21) (.reg [oM 24 6 [],oM 25 7 [],oP 26 (.bin .quo (.t 25) (.k (.i .i64 6))) [1],oP 27 (.bin .rem (.t 26) (.k (.i .i64 8))) [2],oP 28 (.fad 0 (.t 5)) [],oP 29 (.ixa 9 1 (.t 28) (.t 24)) [4,0,0,1,2,3],oN (.store 1 (.t 29) (.t 27)) [5,3,0,1,2,3]]) (.seq (.reg [oP 31 (.bin .eql (.t 20) (.k (.i .i64 2))) [],oM 30 31 [0]]) (.cond (.t 30) (.reg [oM 32 6 [],oM 33 7 [],oP 34 (.bin .quo (.t 33) (.k (.i .i64 6))) [1],oP 35 (.bin .rem (.t 34) (.k (.i .i64 1000))) [2],oP 36 (.fad 0 (.t 5)) [],oP 37 (.ixa 9 1 (.t 36) (.t 32)) [4,0,0,1,2,3],oN (.store 1 (.t 37) (.t 35)) [5,3,0,1,2,3]]) (.seq (.reg [oP 39 (.bin .eql (.t 20) (.k (.i .i64 3))) [],oM 38 39 [0]]) (.cond (.t 38) (.reg [oM 40 6 [],oM 41 7 [],oP 42 (.bin .quo (.t 41) (.k (.i .i64 6))) [1],oP 43 (.bin .rem (.t 42) (.k (.i .i64 4))) [2],oP 44 (.bin .sub (.k (.i .i64 1073741824)) (.t 43)) [3],oP 45 (.fad 0 (.t 5)) [],oP 46 (.ixa 9 1 (.t 45) (.t 40)) [5,0,0,1,2,3,4],oN (.store 1 (.t 46) (.t 44)) [6,4,0,1,2,3,4]]) .skip)))))))))) (.reg [oM 12 6 [],oP 13 (.bin .add (.t 12) (.k (.i .i64 1))) [0],oM 6 13 [1,0,1]]))
def x_r12_Proj : XF := ⟨48,.seq (.reg [oP 4 (.new [.i .i64 0,.i .i64 0,.i .i64 0,.i .i64 0,.i .i64 0,.i .i64 0,.i .i64 0,.i .i64 0,.i .i64 0]) []]) (.seq (.reg [oP 8 (.build [.i .i64 0,.i .i64 0,.i .i64 0,.i .i64 0,.i .i64 0,.i .i64 0,.i .i64 0,.i .i64 0,.i .i64 0] [(0,(1,.k (.i .i64 2))),(1,(1,.k (.i .i64 0))),(2,(1,.k (.i .i64 0))),(3,(1,.k (.i .i64 0))),(4,(1,.k (.i .i64 2))),(5,(1,.k (.i .i64 0))),(6,(1,.k (.i .i64 0))),(7,(1,.k (.i .i64 0))),(8,(1,.k (.i .i64 1)))]) [],oP 9 (.build [.i .i64 0,.i .i64 0,.i .i64 0,.i .i64 0,.i .i64 0,.i .i64 0,.i .i64 0,.i .i64 0,.i .i64 0] [(0,(9,.t 8))]) [0],oP 5 (.new [.i .i64 0,.i .i64 0,.i .i64 0,.i .i64 0,.i .i64 0,.i .i64 0,.i .i64 0,.i .i64 0,.i .i64 0]) [],oN (.store 9 (.t 5) (.t 9)) [2,1,0,1,2]]) (.seq (.seq (.reg [oP 6 (.mov (.k (.i .i64 0))) []]) (.block 0 (.loop x_r12_Proj_l1))) (.seq (.reg [oP 47 (.load true 9 (.t 5)) [],oN (.store 9 (.t 4) (.t 47)) [0,0]]) .ret))),[.cell 4 true 9]⟩
def x_l12_spoilt : XF := ⟨15,.seq (.reg [oP 3 (.box (.t 0)) [],oP 6 (.new [.i .i64 0,.i .i64 0,.i .i64 0,.i .i64 0,.i .i64 0,.i .i64 0,.i .i64 0,.i .i64 0,.i .i64 0]) []]) (.seq (.reg [oM 7 1 [],oP 8 (.bin .rem (.t 7) (.k (.i .i64 9))) [0],oP 9 (.bin .add (.t 8) (.k (.i .i64 9))) [1],oP 10 (.bin .rem (.t 9) (.k (.i .i64 9))) [2],oM 11 2 [],oP 12 (.fad 0 (.t 3)) [],oP 13 (.ixa 9 1 (.t 12) (.t 10)) [5,3,0,1,2,3,4],oN (.store 1 (.t 13) (.t 11)) [6,4,0,1,2,3,4]]) (.seq (.reg [oP 14 (.load true 9 (.t 3)) [],oN (.store 9 (.t 6) (.t 14)) [0,0]]) .ret)),[.cell 6 true 9]⟩
def x_l12_multiple_l1 : XC := .seq (.seq (.reg [oM 6 5 [],oP 7 (.bin .lss (.t 6) (.k (.i .i64 3))) [0]]) (.cond (.t 7) .skip (.exit 0))) (.seq (.block 1 (.seq (.reg [oM 10 5 [],oP 11 (.bin .add (.k (.i .i64 6)) (.t 10)) [0],oM 12 5 [],oP 13 (.fad 0 (.t 2)) [],oP 14 (.ixa 9 1 (.t 13) (.t 12)) [3,2],oP 15 (.load false 1 (.t 14)) [4],oP 16 (.bin .rem (.t 15) (.k (.i .i64 1000))) [5],oM 17 1 [],oP 18 (.bin .rem (.t 17) (.k (.i .i64 1000))) [7],oP 19 (.bin .mul (.t 16) (.t 18)) [6,8],oP 20 (.fad 0 (.t 2)) [],oP 21 (.ixa 9 1 (.t 20) (.t 11)) [10,1,0,1,2,3,4,5,6,7,8,9],oN (.store 1 (.t 21) (.t 19)) [11,9,0,1,2,3,4,5,6,7,8,9]]) (.reg [oM 22 5 [],oM 23 5 [],oP 24 (.fad 0 (.t 2)) [],oP 25 (.ixa 9 1 (.t 24) (.t 23)) [2,1],oP 26 (.load false 1 (.t 25)) [3],oP 27 (.bin .rem (.t 26) (.k (.i .i64 1000))) [4],oP 28 (.fad 0 (.t 2)) [],oP 29 (.ixa 9 1 (.t 28) (.t 22)) [6,0,0,1,2,3,4,5],oN (.store 1 (.t 29) (.t 27)) [7,5,0,1,2,3,4,5]]))) (.reg [oM 8 5 [],oP 9 (.bin .add (.t 8) (.k (.i .i64 1))) [0],oM 5 9 [1,0,1]]))
def x_l12_multiple : XF := ⟨31,.seq (.reg [oP 2 (.box (.t 0)) [],oP 4 (.new [.i .i64 0,.i .i64 0,.i .i64 0,.i .i64 0,.i .i64 0,.i .i64 0,.i .i64 0,.i .i64 0,.i .i64 0]) []]) (.seq (.seq (.reg [oP 5 (.mov (.k (.i .i64 0))) []]) (.block 0 (.loop x_l12_multiple_l1))) (.seq (.reg [oP 30 (.load true 9 (.t 2)) [],oN (.store 9 (.t 4) (.t 30)) [0,0]]) .ret)),[.cell 4 true 9]⟩
def x_proj_Normal : XF := ⟨16,.seq (.reg [oP 1 (.box (.t 0)) [],oP 2 (.new [.i .i64 0,.i .i64 0,.i .i64 0,.i .i64 0,.i .i64 0,.i .i64 0,.i .i64 0,.i .i64 0,.i .i64 0]) [],oP 3 (.mov (.k (.i .i64 0))) []]) (.seq (.seq (.reg [oP 5 (.load true 9 (.t 1)) [],oP 6 (.call 302 [.t 5]) [0],oM 4 6 [1,1,0,1]]) (.seq (.reg [oM 7 4 [],oP 8 (.bin .neq (.t 7) (.k (.i .i64 0))) [0]]) (.cond (.t 8) (.seq (.reg [oP 9 (.build [.i .i64 0,.i .i64 0,.i .i64 0,.i .i64 0,.i .i64 0,.i .i64 0,.i .i64 0,.i .i64 0,.i .i64 0] []) [],oM 10 4 [],oN (.store 9 (.t 2) (.t 9)) [0,0],oM 3 10 [1,2,0,1,2]]) .ret) .skip))) (.seq (.reg [oP 11 (.load true 9 (.t 1)) [],oP 12 (.call 307 [.t 11]) [0],oP 13 (.call 314 [.t 12]) [1,1],oP 14 (.ext (.t 13) 0) [2],oP 15 (.ext (.t 13) 1) [2],oN (.store 9 (.t 2) (.t 14)) [3,2,0,1,2,3,4],oM 3 15 [4,5,0,1,2,3,4,5]]) .ret)),[.cell 2 true 9,.tmp 3]⟩
def x_r12_Normal : XF := ⟨16,.seq (.reg [oP 1 (.box (.t 0)) [],oP 2 (.new [.i .i64 0,.i .i64 0,.i .i64 0,.i .i64 0,.i .i64 0,.i .i64 0,.i .i64 0,.i .i64 0,.i .i64 0]) [],oP 3 (.mov (.k (.i .i64 0))) []]) (.seq (.reg [oP 5 (.load true 9 (.t 1)) [],oP 6 (.call 341 [.t 5]) [0],oM 4 6 [1,1,0,1]]) (.seq (.seq (.reg [oM 7 4 [],oP 8 (.bin .neq (.t 7) (.k (.i .i64 0))) [0]]) (.cond (.t 8) (.seq (.reg [oP 9 (.build [.i .i64 0,.i .i64 0,.i .i64 0,.i .i64 0,.i .i64 0,.i .i64 0,.i .i64 0,.i .i64 0,.i .i64 0] []) [],oM 10 4 [],oN (.store 9 (.t 2) (.t 9)) [0,0],oM 3 10 [1,2,0,1,2]]) .ret) .skip)) (.seq (.reg [oP 11 (.load true 9 (.t 1)) [],oP 12 (.call 357 [.t 11]) [0],oP 13 (.call 353 [.t 12]) [1,1],oP 14 (.ext (.t 13) 0) [2],oP 15 (.ext (.t 13) 1) [2],oN (.store 9 (.t 2) (.t 14)) [3,2,0,1,2,3,4],oM 3 15 [4,5,0,1,2,3,4,5]]) .ret))),[.cell 2 true 9,.tmp 3]⟩
def x_proj_Inverse : XF := ⟨17,.seq (.reg [oP 1 (.box (.t 0)) [],oP 2 (.new [.i .i64 0,.i .i64 0,.i .i64 0,.i .i64 0,.i .i64 0,.i .i64 0,.i .i64 0,.i .i64 0,.i .i64 0]) [],oP 3 (.mov (.k (.i .i64 0))) []]) (.seq (.seq (.reg [oP 5 (.load true 9 (.t 1)) [],oP 6 (.call 302 [.t 5]) [0],oM 4 6 [1,1,0,1]]) (.seq (.reg [oM 7 4 [],oP 8 (.bin .neq (.t 7) (.k (.i .i64 0))) [0]]) (.cond (.t 8) (.seq (.reg [oP 9 (.build [.i .i64 0,.i .i64 0,.i .i64 0,.i .i64 0,.i .i64 0,.i .i64 0,.i .i64 0,.i .i64 0,.i .i64 0] []) [],oM 10 4 [],oN (.store 9 (.t 2) (.t 9)) [0,0],oM 3 10 [1,2,0,1,2]]) .ret) .skip))) (.seq (.reg [oP 11 (.load true 9 (.t 1)) [],oP 12 (.call 307 [.t 11]) [0],oP 13 (.call 311 [.t 12]) [1,1],oP 14 (.call 314 [.t 13]) [2,2],oP 15 (.ext (.t 14) 0) [3],oP 16 (.ext (.t 14) 1) [3],oN (.store 9 (.t 2) (.t 15)) [4,3,0,1,2,3,4,5],oM 3 16 [5,6,0,1,2,3,4,5,6]]) .ret)),[.cell 2 true 9,.tmp 3]⟩
def x_r12_Inverse : XF := ⟨17,.seq (.reg [oP 1 (.box (.t 0)) [],oP 2 (.new [.i .i64 0,.i .i64 0,.i .i64 0,.i .i64 0,.i .i64 0,.i .i64 0,.i .i64 0,.i .i64 0,.i .i64 0]) [],oP 3 (.mov (.k (.i .i64 0))) []]) (.seq (.reg [oP 5 (.load true 9 (.t 1)) [],oP 6 (.call 341 [.t 5]) [0],oM 4 6 [1,1,0,1]]) (.seq (.seq (.reg [oM 7 4 [],oP 8 (.bin .neq (.t 7) (.k (.i .i64 0))) [0]]) (.cond (.t 8) (.seq (.reg [oP 9 (.build [.i .i64 0,.i .i64 0,.i .i64 0,.i .i64 0,.i .i64 0,.i .i64 0,.i .i64 0,.i .i64 0,.i .i64 0] []) [],oM 10 4 [],oN (.store 9 (.t 2) (.t 9)) [0,0],oM 3 10 [1,2,0,1,2]]) .ret) .skip)) (.seq (.reg [oP 11 (.load true 9 (.t 1)) [],oP 12 (.call 357 [.t 11]) [0],oP 13 (.call 356 [.t 12]) [1,1],oP 14 (.call 353 [.t 13]) [2,2],oP 15 (.ext (.t 14) 0) [3],oP 16 (.ext (.t 14) 1) [3],oN (.store 9 (.t 2) (.t 15)) [4,3,0,1,2,3,4,5],oM 3 16 [5,6,0,1,2,3,4,5,6]]) .ret))),[.cell 2 true 9,.tmp 3]⟩
def x_proj_Compose_l1 : XC := .seq (.reg [oP 14 (.bin .lss (.t 13) (.t 12)) []]) (.seq (.cond (.t 14) .skip (.exit 0)) (.seq (.block 1 (.seq (.reg [oP 15 (.ixs 9 (.t 11) (.t 13)) [],oP 16 (.load true 9 (.t 15)) [0],oP 7 (.new [.i .i64 0,.i .i64 0,.i .i64 0,.i .i64 0,.i .i64 0,.i .i64 0,.i .i64 0,.i .i64 0,.i .i64 0]) [],oN (.store 9 (.t 7) (.t 16)) [2,1,0,1,2]]) (.seq (.reg [oP 17 (.load true 9 (.t 7)) [],oP 18 (.call 302 [.t 17]) [0],oM 8 18 [1,1,0,1]]) (.seq (.reg [oM 19 8 [],oP 20 (.bin .neq (.t 19) (.k (.i .i64 0))) [0]]) (.cond (.t 20) (.seq (.reg [oP 21 (.build [.i .i64 0,.i .i64 0,.i .i64 0,.i .i64 0,.i .i64 0,.i .i64 0,.i .i64 0,.i .i64 0,.i .i64 0] []) [],oM 22 8 [],oN (.store 9 (.t 4) (.t 21)) [0,0],oM 5 22 [1,2,0,1,2]]) .ret) .skip))))) (.reg [oP 23 (.bin .add (.t 13) (.k (.i .i64 1))) [],oM 13 23 [0]])))
def x_proj_Compose : XF := ⟨32,.seq (.reg [oP 2 (.box (.t 0)) [],oP 3 (.box (.t 1)) [],oP 4 (.new [.i .i64 0,.i .i64 0,.i .i64 0,.i .i64 0,.i .i64 0,.i .i64 0,.i .i64 0,.i .i64 0,.i .i64 0]) [],oP 5 (.mov (.k (.i .i64 0))) []]) (.seq (.seq (.reg [oP 9 (.load true 9 (.t 2)) [],oP 10 (.load true 9 (.t 3)) [],oP 11 (.bsl 2 9 [.i .i64 0,.i .i64 0,.i .i64 0,.i .i64 0,.i .i64 0,.i .i64 0,.i .i64 0,.i .i64 0,.i .i64 0] [(0,(9,.t 9)),(9,(9,.t 10))]) [0,1],oP 12 (.len (.t 11)) [2],oP 13 (.mov (.k (.i .i64 0))) []]) (.block 0 (.loop x_proj_Compose_l1))) (.seq (.drw [oP 24 (.load true 9 (.t 2)) [],oP 25 (.call 307 [.t 24]) [0],oP 26 (.load true 9 (.t 3)) [],oP 27 (.call 307 [.t 26]) [2,1],oP 28 (.call 316 [.t 25,.t 27]) [1,3,3],oP 29 (.call 314 [.t 28]) [4,4],oP 30 (.ext (.t 29) 0) [5],oP 31 (.ext (.t 29) 1) [5],oN (.store 9 (.t 4) (.t 30)) [6,5,0,1,2,3,4,5,6,7],oM 5 31 [7,8,0,1,2,3,4,5,6,7,8]] [(2,1)]) .ret)),[.cell 4 true 9,.tmp 5]⟩
def x_r12_Compose : XF := ⟨28,.seq (.reg [oP 2 (.box (.t 0)) [],oP 3 (.box (.t 1)) [],oP 4 (.new [.i .i64 0,.i .i64 0,.i .i64 0,.i .i64 0,.i .i64 0,.i .i64 0,.i .i64 0,.i .i64 0,.i .i64 0]) [],oP 5 (.mov (.k (.i .i64 0))) []]) (.seq (.reg [oP 8 (.load true 9 (.t 2)) [],oP 9 (.call 341 [.t 8]) [0],oM 6 9 [1,1,0,1]]) (.seq (.seq (.reg [oM 10 6 [],oP 11 (.bin .neq (.t 10) (.k (.i .i64 0))) [0]]) (.cond (.t 11) (.seq (.reg [oP 12 (.build [.i .i64 0,.i .i64 0,.i .i64 0,.i .i64 0,.i .i64 0,.i .i64 0,.i .i64 0,.i .i64 0,.i .i64 0] []) [],oM 13 6 [],oN (.store 9 (.t 4) (.t 12)) [0,0],oM 5 13 [1,2,0,1,2]]) .ret) .skip)) (.seq (.reg [oP 14 (.load true 9 (.t 3)) [],oP 15 (.call 341 [.t 14]) [0],oM 7 15 [1,1,0,1]]) (.seq (.seq (.reg [oM 16 7 [],oP 17 (.bin .neq (.t 16) (.k (.i .i64 0))) [0]]) (.cond (.t 17) (.seq (.reg [oP 18 (.build [.i .i64 0,.i .i64 0,.i .i64 0,.i .i64 0,.i .i64 0,.i .i64 0,.i .i64 0,.i .i64 0,.i .i64 0] []) [],oM 19 7 [],oN (.store 9 (.t 4) (.t 18)) [0,0],oM 5 19 [1,2,0,1,2]]) .ret) .skip)) (.seq (.drw [oP 20 (.load true 9 (.t 2)) [],oP 21 (.call 357 [.t 20]) [0],oP 22 (.load true 9 (.t 3)) [],oP 23 (.call 357 [.t 22]) [2,1],oP 24 (.call 354 [.t 21,.t 23]) [1,3,3],oP 25 (.call 353 [.t 24]) [4,4],oP 26 (.ext (.t 25) 0) [5],oP 27 (.ext (.t 25) 1) [5],oN (.store 9 (.t 4) (.t 26)) [6,5,0,1,2,3,4,5,6,7],oM 5 27 [7,8,0,1,2,3,4,5,6,7,8]] [(2,1)]) .ret))))),[.cell 4 true 9,.tmp 5]⟩
def x_proj_Same : XF := ⟨30,.seq (.reg [oP 2 (.box (.t 0)) [],oP 3 (.box (.t 1)) [],oP 4 (.mov (.k (.b false))) []]) (.seq (.reg [oP 10 (.load true 9 (.t 2)) [],oP 11 (.call 332 [.t 10]) [0],oM 9 11 [1],oP 12 (.ext (.t 9) 0) [2],oP 13 (.ext (.t 9) 1) [2],oP 5 (.new [.i .i64 0,.i .i64 0,.i .i64 0,.i .i64 0,.i .i64 0,.i .i64 0,.i .i64 0,.i .i64 0,.i .i64 0]) [],oN (.store 9 (.t 5) (.t 12)) [5,3,1,0,1,2,3,5],oM 6 13 [4,6,0,1,2,3,4,5,6]]) (.seq (.reg [oP 15 (.load true 9 (.t 3)) [],oP 16 (.call 332 [.t 15]) [0],oM 14 16 [1],oP 17 (.ext (.t 14) 0) [2],oP 18 (.ext (.t 14) 1) [2],oP 7 (.new [.i .i64 0,.i .i64 0,.i .i64 0,.i .i64 0,.i .i64 0,.i .i64 0,.i .i64 0,.i .i64 0,.i .i64 0]) [],oN (.store 9 (.t 7) (.t 17)) [5,3,1,0,1,2,3,5],oM 8 18 [4,6,0,1,2,3,4,5,6]]) (.seq (.reg [oM 19 6 [],oP 20 (.bin .eql (.t 19) (.k (.i .i64 0))) [0],oM 21 20 [1],oT 22 (.mov (.t 8)) [2] 21,oT 23 (.bin .eql (.t 22) (.k (.i .i64 0))) [3,2] 21,oP 24 (.pick (.t 21) (.t 23) (.k (.b false))) [2,4],oM 25 24 [5,2],oT 26 (.load true 9 (.t 5)) [6] 25,oT 27 (.load true 9 (.t 7)) [6] 25,oT 28 (.eqa false [1,1,1,1,1,1,1,1,1] (.t 26) (.t 27)) [7,8,6] 25,oP 29 (.pick (.t 25) (.t 28) (.k (.b false))) [6,9],oM 4 29 [10,6,0,1,2,3,4,5,6,7,8,9,10]]) .ret))),[.tmp 4]⟩
def x_r03_Add : XF := ⟨40,.seq (.reg [oP 2 (.box (.t 0)) [],oP 3 (.box (.t 1)) [],oP 4 (.new [.b false,.sn]) []]) (.seq (.seq (.reg [oP 5 (.fad 0 (.t 2)) [],oP 6 (.load false 1 (.t 5)) [0],oP 7 (.fad 0 (.t 3)) [],oP 8 (.load false 1 (.t 7)) [2],oP 9 (.eqt false 0 (.t 6) (.t 8)) [1,3]]) (.cond (.t 9) (.seq (.drw [oP 10 (.fad 0 (.t 2)) [],oP 11 (.load false 1 (.t 10)) [0],oP 12 (.fad 1 (.t 2)) [],oP 13 (.load false 1 (.t 12)) [2],oP 14 (.fad 1 (.t 3)) [],oP 15 (.load false 1 (.t 14)) [4],oP 16 (.call 133 [.t 13,.t 15]) [3,5],oP 17 (.call 132 [.t 11,.t 16]) [1,6,6],oN (.store 2 (.t 4) (.t 17)) [7,7,0,1,2,3,4,5,6,7]] [(1,6)]) .ret) .skip)) (.seq (.seq (.reg [oP 18 (.fad 1 (.t 2)) [],oP 19 (.load false 1 (.t 18)) [0],oP 20 (.fad 1 (.t 3)) [],oP 21 (.load false 1 (.t 20)) [2],oP 22 (.call 134 [.t 19,.t 21]) [1,3],oP 23 (.bin .lss (.t 22) (.k (.i .i64 0))) [4]]) (.cond (.t 23) (.seq (.drw [oP 24 (.fad 0 (.t 3)) [],oP 25 (.load false 1 (.t 24)) [0],oP 26 (.fad 1 (.t 3)) [],oP 27 (.load false 1 (.t 26)) [2],oP 28 (.fad 1 (.t 2)) [],oP 29 (.load false 1 (.t 28)) [4],oP 30 (.call 135 [.t 27,.t 29]) [3,5],oP 31 (.call 132 [.t 25,.t 30]) [1,6,6],oN (.store 2 (.t 4) (.t 31)) [7,7,0,1,2,3,4,5,6,7]] [(1,6)]) .ret) .skip)) (.seq (.drw [oP 32 (.fad 0 (.t 2)) [],oP 33 (.load false 1 (.t 32)) [0],oP 34 (.fad 1 (.t 2)) [],oP 35 (.load false 1 (.t 34)) [2],oP 36 (.fad 1 (.t 3)) [],oP 37 (.load false 1 (.t 36)) [4],oP 38 (.call 135 [.t 35,.t 37]) [3,5],oP 39 (.call 132 [.t 33,.t 38]) [1,6,6],oN (.store 2 (.t 4) (.t 39)) [7,7,0,1,2,3,4,5,6,7]] [(1,6)]) .ret))),[.cell 4 true 2]⟩
def x_r03_Of_l1 : XC := .seq (.seq (.reg [oM 8 0 [],oP 9 (.bin .neq (.t 8) (.k (.i .i64 0))) [0]]) (.cond (.t 9) .skip (.exit 0))) (.block 1 (.seq (.reg [oM 10 0 [],oP 11 (.bin .rem (.t 10) (.k (.i .i64 10000))) [0],oM 5 11 [1,0,1]]) (.seq (.seq (.reg [oM 12 5 [],oP 13 (.bin .lss (.t 12) (.k (.i .i64 0))) [0]]) (.cond (.t 13) (.reg [oM 14 5 [],oP 15 (.un .neg (.t 14)) [0],oM 5 15 [1,0,1]]) .skip)) (.seq (.reg [oM 16 3 [],oM 17 5 [],oP 18 (.bsl 1 1 [.i .i64 0] [(0,(1,.t 17))]) [1],oP 19 (.app 1 8 (.t 16) (.t 18)) [0,2],oM 3 19 [3,3,0,1,2,3]]) (.reg [oM 20 0 [],oP 21 (.bin .quo (.t 20) (.k (.i .i64 10000))) [0],oM 0 21 [1,0,1]])))))
def x_r03_Of : XF := ⟨25,.seq (.reg [oP 2 (.new [.b false,.sn]) []]) (.seq (.reg [oP 3 (.mov (.k .sn)) []]) (.seq (.reg [oM 6 0 [],oP 7 (.bin .lss (.t 6) (.k (.i .i64 0))) [0],oM 4 7 [1,0,1]]) (.seq (.block 0 (.loop x_r03_Of_l1)) (.seq (.reg [oM 22 4 [],oM 23 3 [],oP 24 (.call 132 [.t 22,.t 23]) [0,1],oN (.store 2 (.t 2) (.t 24)) [2,2,0,1,2]]) .ret)))),[.cell 2 true 2]⟩
def x_proj_Valid_l1 : XC := .seq (.reg [oP 8 (.bin .lss (.t 7) (.k (.i .i64 9))) []]) (.seq (.cond (.t 8) .skip (.exit 0)) (.seq (.block 1 (.seq (.reg [oP 9 (.iag 9 false 1 (.t 6) (.t 7)) [],oM 4 9 [0,0]]) (.seq (.reg [oM 10 4 [],oP 11 (.bin .lss (.t 10) (.k (.i .i64 (-1073741824)))) [0],oM 12 11 [1],oF 13 (.mov (.t 4)) [2] 12,oF 14 (.bin .gtr (.t 13) (.k (.i .i64 1073741824))) [3,2] 12,oP 15 (.pick (.t 12) (.k (.b true)) (.t 14)) [2,4]]) (.cond (.t 15) (.seq (.reg [oP 2 (.mov (.k (.i .i64 1))) []]) .ret) .skip)))) (.reg [oP 16 (.bin .add (.t 7) (.k (.i .i64 1))) [],oM 7 16 [0]])))
def x_proj_Valid : XF := ⟨22,.seq (.reg [oP 1 (.box (.t 0)) [],oP 2 (.mov (.k (.i .i64 0))) []]) (.seq (.seq (.reg [oP 5 (.fad 0 (.t 1)) [],oP 6 (.load true 9 (.t 5)) [0],oP 7 (.mov (.k (.i .i64 0))) []]) (.block 0 (.loop x_proj_Valid_l1))) (.seq (.seq (.reg [oP 17 (.load true 9 (.t 1)) [],oP 18 (.call 307 [.t 17]) [0],oP 19 (.call 306 [.t 18]) [1,1],oP 20 (.call 31 [.t 19]) [2,2],oP 21 (.bin .eql (.t 20) (.k (.i .i64 0))) [3]]) (.cond (.t 21) (.seq (.reg [oP 2 (.mov (.k (.i .i64 10))) []]) .ret) .skip)) (.seq (.reg [oP 2 (.mov (.k (.i .i64 0))) []]) .ret))),[.tmp 2]⟩
def x_r12_Valid_l1 : XC := .seq (.seq (.reg [oM 4 3 [],oP 5 (.bin .lss (.t 4) (.k (.i .i64 9))) [0]]) (.cond (.t 5) .skip (.exit 0))) (.seq (.block 1 (.seq (.reg [oM 8 3 [],oP 9 (.fad 0 (.t 1)) [],oP 10 (.ixa 9 1 (.t 9) (.t 8)) [1,0],oP 11 (.load false 1 (.t 10)) [2],oP 12 (.bin .lss (.t 11) (.k (.i .i64 (-1073741824)))) [3],oM 13 12 [4],oF 14 (.mov (.t 3)) [5] 13,oF 15 (.fad 0 (.t 1)) [5] 13,oF 16 (.ixa 9 1 (.t 15) (.t 14)) [7,6,5] 13,oF 17 (.load false 1 (.t 16)) [8,5] 13,oF 18 (.bin .gtr (.t 17) (.k (.i .i64 1073741824))) [9,5] 13,oP 19 (.pick (.t 13) (.k (.b true)) (.t 18)) [5,10]]) (.cond (.t 19) (.seq (.reg [oP 2 (.mov (.k (.i .i64 1))) []]) .ret) .skip))) (.reg [oM 6 3 [],oP 7 (.bin .add (.t 6) (.k (.i .i64 1))) [0],oM 3 7 [1,0,1]]))
def x_r12_Valid : XF := ⟨26,.seq (.reg [oP 1 (.box (.t 0)) [],oP 2 (.mov (.k (.i .i64 0))) []]) (.seq (.seq (.reg [oP 3 (.mov (.k (.i .i64 0))) []]) (.block 0 (.loop x_r12_Valid_l1))) (.seq (.seq (.reg [oP 20 (.load true 9 (.t 1)) [],oP 21 (.call 357 [.t 20]) [0],oP 22 (.call 358 [.t 21]) [1,1],oP 23 (.fld false 1 1 (.t 22)) [2],oP 24 (.len (.t 23)) [3],oP 25 (.bin .eql (.t 24) (.k (.i .i64 0))) [4]]) (.cond (.t 25) (.seq (.reg [oP 2 (.mov (.k (.i .i64 10))) []]) .ret) .skip)) (.seq (.reg [oP 2 (.mov (.k (.i .i64 0))) []]) .ret))),[.tmp 2]⟩
def x__skymosaic_frac_Frac__String : XF := ⟨18,.seq (.reg [oP 1 (.box (.t 0)) [],oP 2 (.mov (.k (.s []))) []]) (.seq (.seq (.reg [oP 3 (.fad 2 (.t 1)) [],oP 4 (.load true 2 (.t 3)) [0],oP 5 (.call 31 [.t 4]) [1],oP 6 (.bin .eql (.t 5) (.k (.i .i64 0))) [2]]) (.cond (.t 6) (.seq (.reg [oP 7 (.fad 0 (.t 1)) [],oP 8 (.load true 2 (.t 7)) [0],oP 9 (.call 33 [.t 8]) [1],oM 2 9 [2,2,0,1,2]]) .ret) .skip)) (.seq (.drw [oP 10 (.fad 0 (.t 1)) [],oP 11 (.load true 2 (.t 10)) [0],oP 12 (.call 33 [.t 11]) [1],oP 13 (.bin .add (.t 12) (.k (.s [47]))) [2],oP 14 (.load true 4 (.t 1)) [],oP 15 (.call 19 [.t 14]) [4,2],oP 16 (.call 33 [.t 15]) [5,5],oP 17 (.bin .add (.t 13) (.t 16)) [3,6],oM 2 17 [7,6,0,1,2,3,4,5,6,7]] [(4,2)]) .ret)),[.tmp 2]⟩
def x_r04_Pick : XF := ⟨17,.seq (.reg [oP 4 (.mov (.k (.i .i64 0))) []]) (.seq (.seq (.reg [oM 5 1 [],oP 6 (.bin .lss (.t 5) (.k (.i .i64 0))) [0],oM 7 6 [1],oF 8 (.mov (.t 1)) [2] 7,oF 9 (.mov (.t 0)) [2] 7,oF 10 (.len (.t 9)) [4,2] 7,oF 11 (.bin .geq (.t 8) (.t 10)) [3,5,2] 7,oP 12 (.pick (.t 7) (.k (.b true)) (.t 11)) [2,6]]) (.cond (.t 12) (.seq (.reg [oP 4 (.mov (.k (.i .i64 0))) []]) .ret) .skip)) (.seq (.reg [oM 13 0 [],oM 14 1 [],oP 15 (.ixs 1 (.t 13) (.t 14)) [0,1],oP 16 (.load false 1 (.t 15)) [2],oM 4 16 [3,0,1,2,3]]) .ret)),[.tmp 4]⟩
def x_proj_basis_l2 : XC := .seq (.reg [oP 56 (.bin .lss (.t 55) (.k (.i .i64 3))) []]) (.seq (.cond (.t 56) .skip (.exit 2)) (.seq (.block 3 (.seq (.reg [oM 57 55 [],oM 9 57 [0,0]]) (.drw [oM 58 9 [],oP 59 (.bin .mul (.k (.i .i64 3)) (.t 58)) [0],oM 60 7 [],oP 61 (.bin .add (.t 59) (.t 60)) [1,2],oM 62 9 [],oP 63 (.bin .mul (.k (.i .i64 3)) (.t 62)) [4],oM 64 7 [],oP 65 (.bin .add (.t 63) (.t 64)) [5,6],oP 66 (.ixa 9 2 (.t 5) (.t 65)) [7],oP 67 (.load true 2 (.t 66)) [8],oP 68 (.load true 2 (.t 8)) [],oP 69 (.call 313 [.t 67,.t 68]) [9,10],oP 70 (.ixa 9 2 (.t 5) (.t 61)) [3,0,1,2,3,4,5,6,7,8,9,10,11],oN (.store 2 (.t 70) (.t 69)) [12,11,11,0,1,2,3,4,5,6,7,8,9,10,11]] []))) (.reg [oP 71 (.bin .add (.t 55) (.k (.i .i64 1))) [],oM 55 71 [0]])))
def x_proj_basis_l1 : XC := .seq (.reg [oP 48 (.bin .lss (.t 47) (.k (.i .i64 3))) []]) (.seq (.cond (.t 48) .skip (.exit 0)) (.seq (.block 1 (.seq (.reg [oM 49 47 [],oP 50 (.iag 3 true 2 (.t 46) (.t 47)) [],oP 8 (.new [.b false,.sn]) [],oM 7 49 [0,0,1,2],oN (.store 2 (.t 8) (.t 50)) [2,1,3,0,1,2,3]]) (.seq (.seq (.reg [oP 51 (.load true 2 (.t 8)) [],oP 52 (.call 31 [.t 51]) [0],oP 53 (.bin .eql (.t 52) (.k (.i .i64 0))) [1]]) (.cond (.t 53) (.seq (.reg [oP 54 (.build [.b false,.sn,.b false,.sn,.b false,.sn,.b false,.sn,.b false,.sn,.b false,.sn,.b false,.sn,.b false,.sn,.b false,.sn] []) [],oN (.store 18 (.t 2) (.t 54)) [0,0],oP 3 (.mov (.k (.b false))) [1,0,1]]) .ret) .skip)) (.seq (.reg [oP 55 (.mov (.k (.i .i64 0))) []]) (.block 2 (.loop x_proj_basis_l2)))))) (.reg [oP 72 (.bin .add (.t 47) (.k (.i .i64 1))) [],oM 47 72 [0]])))
def x_proj_basis : XF := ⟨78,.seq (.reg [oP 1 (.box (.t 0)) [],oP 2 (.new [.b false,.sn,.b false,.sn,.b false,.sn,.b false,.sn,.b false,.sn,.b false,.sn,.b false,.sn,.b false,.sn,.b false,.sn]) [],oP 3 (.mov (.k (.b false))) []]) (.seq (.reg [oP 4 (.mov (.k (.fn 320 []))) []]) (.seq (.reg [oM 10 4 [],oP 11 (.ixa 4 2 (.t 1) (.k (.i .i64 0))) [],oP 12 (.load true 2 (.t 11)) [1],oP 13 (.ixa 4 2 (.t 1) (.k (.i .i64 1))) [],oP 14 (.load true 2 (.t 13)) [3],oP 15 (.ixa 4 2 (.t 1) (.k (.i .i64 2))) [],oP 16 (.load true 2 (.t 15)) [5],oP 17 (.callv (.t 10) [.t 12,.t 14,.t 16]) [0,2,4,6],oP 5 (.new [.b false,.sn,.b false,.sn,.b false,.sn,.b false,.sn,.b false,.sn,.b false,.sn,.b false,.sn,.b false,.sn,.b false,.sn]) [],oN (.store 18 (.t 5) (.t 17)) [8,7,7,0,1,2,3,4,5,6,7,8]]) (.seq (.drw [oM 18 4 [],oP 19 (.ixa 4 2 (.t 1) (.k (.i .i64 3))) [],oP 20 (.load true 2 (.t 19)) [1],oP 21 (.ixa 4 2 (.t 1) (.k (.i .i64 1))) [],oP 22 (.load true 2 (.t 21)) [3],oP 23 (.ixa 4 2 (.t 1) (.k (.i .i64 2))) [],oP 24 (.load true 2 (.t 23)) [5],oP 25 (.callv (.t 18) [.t 20,.t 22,.t 24]) [0,2,4,6],oP 26 (.call 306 [.t 25]) [7,7],oM 27 4 [],oP 28 (.ixa 4 2 (.t 1) (.k (.i .i64 0))) [],oP 29 (.load true 2 (.t 28)) [10],oP 30 (.ixa 4 2 (.t 1) (.k (.i .i64 3))) [],oP 31 (.load true 2 (.t 30)) [12],oP 32 (.ixa 4 2 (.t 1) (.k (.i .i64 2))) [],oP 33 (.load true 2 (.t 32)) [14],oP 34 (.callv (.t 27) [.t 29,.t 31,.t 33]) [9,11,13,15,8],oP 35 (.call 306 [.t 34]) [16,16],oM 36 4 [],oP 37 (.ixa 4 2 (.t 1) (.k (.i .i64 0))) [],oP 38 (.load true 2 (.t 37)) [19],oP 39 (.ixa 4 2 (.t 1) (.k (.i .i64 1))) [],oP 40 (.load true 2 (.t 39)) [21],oP 41 (.ixa 4 2 (.t 1) (.k (.i .i64 3))) [],oP 42 (.load true 2 (.t 41)) [23],oP 43 (.callv (.t 36) [.t 38,.t 40,.t 42]) [18,20,22,24,17],oP 44 (.call 306 [.t 43]) [25,25],oP 45 (.build [.b false,.sn,.b false,.sn,.b false,.sn] [(0,(2,.t 26)),(2,(2,.t 35)),(4,(2,.t 44))]) [8,17,26],oP 6 (.new [.b false,.sn,.b false,.sn,.b false,.sn]) [],oN (.store 6 (.t 6) (.t 45)) [28,27,26,0,1,2,3,4,5,6,7,8,9,10,11,12,13,14,15,16,17,18,19,20,21,22,23,24,25,26,27,28]] [(11,7),(11,8),(13,7),(13,8),(15,7),(15,8),(20,7),(20,8),(20,16),(20,17),(22,7),(22,8),(22,16),(22,17),(24,7),(24,8),(24,16),(24,17)]) (.seq (.seq (.reg [oP 46 (.load true 6 (.t 6)) [],oP 47 (.mov (.k (.i .i64 0))) []]) (.block 0 (.loop x_proj_basis_l1))) (.seq (.drw [oP 73 (.load true 18 (.t 5)) [],oP 74 (.load true 18 (.t 5)) [],oP 75 (.call 306 [.t 74]) [1],oP 76 (.call 31 [.t 75]) [2,2],oP 77 (.bin .neq (.t 76) (.k (.i .i64 0))) [3],oN (.store 18 (.t 2) (.t 73)) [0,3,0],oM 3 77 [4,5,0,1,2,3,4,5]] [(0,2),(0,3)]) .ret))))),[.cell 2 true 18,.tmp 3]⟩
def x_proj_normal_l1 : XC := .seq (.reg [oP 19 (.bin .lss (.t 18) (.k (.i .i64 9))) []]) (.seq (.cond (.t 19) .skip (.exit 0)) (.seq (.block 1 (.seq (.reg [oP 20 (.iag 9 true 2 (.t 17) (.t 18)) [],oP 7 (.new [.b false,.sn]) [],oN (.store 2 (.t 7) (.t 20)) [1,0,0,1]]) (.seq (.reg [oP 21 (.load true 2 (.t 4)) [],oP 22 (.load true 2 (.t 7)) [],oP 23 (.call 18 [.t 21,.t 22]) [0,1],oN (.store 2 (.t 4) (.t 23)) [2,2,0,1,2]]) (.seq (.reg [oM 24 5 [],oP 25 (.bin .eql (.t 24) (.k (.i .i64 0))) [0]]) (.cond (.t 25) (.reg [oP 26 (.load true 2 (.t 7)) [],oP 27 (.call 31 [.t 26]) [0],oM 5 27 [1,1,0,1]]) .skip))))) (.reg [oP 28 (.bin .add (.t 18) (.k (.i .i64 1))) [],oM 18 28 [0]])))
def x_proj_normal_l2 : XC := .seq (.reg [oP 31 (.bin .lss (.t 30) (.k (.i .i64 9))) []]) (.seq (.cond (.t 31) .skip (.exit 2)) (.seq (.block 3 (.seq (.reg [oM 32 30 [],oP 33 (.iag 9 true 2 (.t 29) (.t 30)) [],oP 10 (.new [.b false,.sn]) [],oM 9 32 [0,0,1,2],oN (.store 2 (.t 10) (.t 33)) [2,1,3,0,1,2,3]]) (.seq (.reg [oP 35 (.load true 2 (.t 10)) [],oP 36 (.load true 2 (.t 4)) [],oP 37 (.call 29 [.t 35,.t 36]) [0,1],oM 34 37 [2],oP 38 (.ext (.t 34) 0) [3],oP 39 (.ext (.t 34) 1) [3],oP 40 (.ext (.t 34) 2) [3],oP 11 (.new [.b false,.sn]) [],oP 12 (.new [.b false,.sn]) [],oN (.store 2 (.t 11) (.t 38)) [7,4,2,0,1,2,3,4,7,8],oN (.store 2 (.t 12) (.t 39)) [8,5,9,0,1,2,3,4,5,7,8,9],oM 13 40 [6,10,0,1,2,3,4,5,6,7,8,9,10]]) (.seq (.reg [oP 42 (.load true 2 (.t 11)) [],oP 43 (.call 80 [.t 42]) [0],oM 41 43 [1],oP 44 (.ext (.t 41) 0) [2],oP 45 (.ext (.t 41) 1) [2],oM 14 44 [3,1,0,1,2,3],oM 15 45 [4,5,0,1,2,3,4,5]]) (.seq (.seq (.reg [oM 46 14 [],oM 47 5 [],oP 48 (.bin .mul (.t 46) (.t 47)) [0,1],oM 14 48 [2,0,1,2]]) (.seq (.reg [oM 49 15 [],oP 50 (.un .not (.t 49)) [0],oM 51 50 [1],oF 52 (.mov (.t 14)) [2] 51,oF 53 (.bin .lss (.t 52) (.k (.i .i64 (-1073741824)))) [3,2] 51,oP 54 (.pick (.t 51) (.k (.b true)) (.t 53)) [2,4],oM 55 54 [5,2],oF 56 (.mov (.t 14)) [6] 55,oF 57 (.bin .gtr (.t 56) (.k (.i .i64 1073741824))) [7,6] 55,oP 58 (.pick (.t 55) (.k (.b true)) (.t 57)) [6,8]]) (.cond (.t 58) (.seq (.reg [oP 59 (.build [.i .i64 0,.i .i64 0,.i .i64 0,.i .i64 0,.i .i64 0,.i .i64 0,.i .i64 0,.i .i64 0,.i .i64 0] []) [],oN (.store 9 (.t 2) (.t 59)) [0,0],oP 3 (.mov (.k (.i .i64 5))) [1,0,1]]) .ret) .skip))) (.reg [oM 60 9 [],oM 61 14 [],oP 62 (.fad 0 (.t 8)) [],oP 63 (.ixa 9 1 (.t 62) (.t 60)) [2,0,0,1],oN (.store 1 (.t 63) (.t 61)) [3,1,0,1]])))))) (.reg [oP 64 (.bin .add (.t 30) (.k (.i .i64 1))) [],oM 30 64 [0]])))
def x_proj_normal : XF := ⟨66,.seq (.reg [oP 1 (.box (.t 0)) [],oP 2 (.new [.i .i64 0,.i .i64 0,.i .i64 0,.i .i64 0,.i .i64 0,.i .i64 0,.i .i64 0,.i .i64 0,.i .i64 0]) [],oP 3 (.mov (.k (.i .i64 0))) []]) (.seq (.reg [oP 16 (.build [.b false,.sn] []) [],oP 4 (.new [.b false,.sn]) [],oN (.store 2 (.t 4) (.t 16)) [1,0,0,1],oP 5 (.mov (.k (.i .i64 0))) [2,0,1,2]]) (.seq (.seq (.reg [oP 17 (.load true 18 (.t 1)) [],oP 18 (.mov (.k (.i .i64 0))) []]) (.block 0 (.loop x_proj_normal_l1))) (.seq (.reg [oP 8 (.new [.i .i64 0,.i .i64 0,.i .i64 0,.i .i64 0,.i .i64 0,.i .i64 0,.i .i64 0,.i .i64 0,.i .i64 0]) []]) (.seq (.seq (.reg [oP 29 (.load true 18 (.t 1)) [],oP 30 (.mov (.k (.i .i64 0))) []]) (.block 2 (.loop x_proj_normal_l2))) (.seq (.reg [oP 65 (.load true 9 (.t 8)) [],oN (.store 9 (.t 2) (.t 65)) [0,0],oP 3 (.mov (.k (.i .i64 0))) [1,0,1]]) .ret))))),[.cell 2 true 9,.tmp 3]⟩
def x_proj_product_l3 : XC := .seq (.reg [oP 16 (.bin .lss (.t 15) (.k (.i .i64 3))) []]) (.seq (.cond (.t 16) .skip (.exit 4)) (.seq (.block 5 (.seq (.reg [oM 17 15 [],oM 8 17 [0,0]]) (.drw [oM 18 6 [],oP 19 (.bin .mul (.k (.i .i64 3)) (.t 18)) [0],oM 20 7 [],oP 21 (.bin .add (.t 19) (.t 20)) [1,2],oM 22 6 [],oP 23 (.bin .mul (.k (.i .i64 3)) (.t 22)) [4],oM 24 7 [],oP 25 (.bin .add (.t 23) (.t 24)) [5,6],oP 26 (.ixa 9 2 (.t 5) (.t 25)) [7],oP 27 (.load true 2 (.t 26)) [8],oM 28 6 [],oP 29 (.bin .mul (.k (.i .i64 3)) (.t 28)) [10],oM 30 8 [],oP 31 (.bin .add (.t 29) (.t 30)) [11,12],oP 32 (.ixa 9 2 (.t 2) (.t 31)) [13],oP 33 (.load true 2 (.t 32)) [14],oM 34 8 [],oP 35 (.bin .mul (.k (.i .i64 3)) (.t 34)) [16],oM 36 7 [],oP 37 (.bin .add (.t 35) (.t 36)) [17,18],oP 38 (.ixa 9 2 (.t 3) (.t 37)) [19],oP 39 (.load true 2 (.t 38)) [20],oP 40 (.call 313 [.t 33,.t 39]) [15,21],oP 41 (.call 312 [.t 27,.t 40]) [9,22,22],oP 42 (.ixa 9 2 (.t 5) (.t 21)) [3,0,1,2,3,4,5,6,7,8,9,10,11,12,13,14,15,16,17,18,19,20,21,22,23],oN (.store 2 (.t 42) (.t 41)) [24,23,23,0,1,2,3,4,5,6,7,8,9,10,11,12,13,14,15,16,17,18,19,20,21,22,23]] [(9,22)]))) (.reg [oP 43 (.bin .add (.t 15) (.k (.i .i64 1))) [],oM 15 43 [0]])))
def x_proj_product_l2 : XC := .seq (.reg [oP 13 (.bin .lss (.t 12) (.k (.i .i64 3))) []]) (.seq (.cond (.t 13) .skip (.exit 2)) (.seq (.block 3 (.seq (.reg [oM 14 12 [],oM 7 14 [0,0]]) (.seq (.reg [oP 15 (.mov (.k (.i .i64 0))) []]) (.block 4 (.loop x_proj_product_l3))))) (.reg [oP 44 (.bin .add (.t 12) (.k (.i .i64 1))) [],oM 12 44 [0]])))
def x_proj_product_l1 : XC := .seq (.reg [oP 10 (.bin .lss (.t 9) (.k (.i .i64 3))) []]) (.seq (.cond (.t 10) .skip (.exit 0)) (.seq (.block 1 (.seq (.reg [oM 11 9 [],oM 6 11 [0,0]]) (.seq (.reg [oP 12 (.mov (.k (.i .i64 0))) []]) (.block 2 (.loop x_proj_product_l2))))) (.reg [oP 45 (.bin .add (.t 9) (.k (.i .i64 1))) [],oM 9 45 [0]])))
def x_proj_product : XF := ⟨47,.seq (.reg [oP 2 (.box (.t 0)) [],oP 3 (.box (.t 1)) [],oP 4 (.new [.b false,.sn,.b false,.sn,.b false,.sn,.b false,.sn,.b false,.sn,.b false,.sn,.b false,.sn,.b false,.sn,.b false,.sn]) []]) (.seq (.reg [oP 5 (.new [.b false,.sn,.b false,.sn,.b false,.sn,.b false,.sn,.b false,.sn,.b false,.sn,.b false,.sn,.b false,.sn,.b false,.sn]) []]) (.seq (.seq (.reg [oP 9 (.mov (.k (.i .i64 0))) []]) (.block 0 (.loop x_proj_product_l1))) (.seq (.reg [oP 46 (.load true 18 (.t 5)) [],oN (.store 18 (.t 4) (.t 46)) [0,0]]) .ret))),[.cell 4 true 18]⟩
def x_proj_adjoint_l2 : XC := .seq (.reg [oP 12 (.bin .lss (.t 11) (.k (.i .i64 3))) []]) (.seq (.cond (.t 12) .skip (.exit 2)) (.seq (.block 3 (.seq (.reg [oM 13 11 [],oM 6 13 [0,0]]) (.reg [oM 14 6 [],oP 15 (.bin .mul (.k (.i .i64 3)) (.t 14)) [0],oM 16 5 [],oP 17 (.bin .add (.t 15) (.t 16)) [1,2],oM 18 3 [],oM 19 5 [],oM 20 6 [],oP 21 (.callv (.t 18) [.t 19,.t 20]) [4,5,6],oP 22 (.ixa 9 2 (.t 4) (.t 17)) [3,0,1,2,3,4,5,6,7],oN (.store 2 (.t 22) (.t 21)) [8,7,7,0,1,2,3,4,5,6,7]]))) (.reg [oP 23 (.bin .add (.t 11) (.k (.i .i64 1))) [],oM 11 23 [0]])))
def x_proj_adjoint_l1 : XC := .seq (.reg [oP 9 (.bin .lss (.t 8) (.k (.i .i64 3))) []]) (.seq (.cond (.t 9) .skip (.exit 0)) (.seq (.block 1 (.seq (.reg [oM 10 8 [],oM 5 10 [0,0]]) (.seq (.reg [oP 11 (.mov (.k (.i .i64 0))) []]) (.block 2 (.loop x_proj_adjoint_l2))))) (.reg [oP 24 (.bin .add (.t 8) (.k (.i .i64 1))) [],oM 8 24 [0]])))
def x_proj_adjoint : XF := ⟨26,.seq (.reg [oP 1 (.box (.t 0)) [],oP 2 (.new [.b false,.sn,.b false,.sn,.b false,.sn,.b false,.sn,.b false,.sn,.b false,.sn,.b false,.sn,.b false,.sn,.b false,.sn]) []]) (.seq (.reg [oP 7 (.mfn 318 [.t 1]) [],oM 3 7 [0,0]]) (.seq (.reg [oP 4 (.new [.b false,.sn,.b false,.sn,.b false,.sn,.b false,.sn,.b false,.sn,.b false,.sn,.b false,.sn,.b false,.sn,.b false,.sn]) []]) (.seq (.seq (.reg [oP 8 (.mov (.k (.i .i64 0))) []]) (.block 0 (.loop x_proj_adjoint_l1))) (.seq (.reg [oP 25 (.load true 18 (.t 4)) [],oN (.store 18 (.t 2) (.t 25)) [0,0]]) .ret)))),[.cell 2 true 18]⟩
def x_r12_normal_l1 : XC := .seq (.seq (.reg [oM 16 7 [],oP 17 (.bin .lss (.t 16) (.k (.i .i64 9))) [0]]) (.cond (.t 17) .skip (.exit 0))) (.seq (.block 1 (.seq (.reg [oM 20 7 [],oP 21 (.bin .quo (.t 20) (.k (.i .i64 3))) [0],oM 22 7 [],oP 23 (.bin .rem (.t 22) (.k (.i .i64 3))) [2],oP 24 (.ixa 3 6 (.t 1) (.t 21)) [1],oP 25 (.ixa 3 2 (.t 24) (.t 23)) [4,3],oP 26 (.load true 2 (.t 25)) [5],oP 8 (.new [.b false,.sn]) [],oN (.store 2 (.t 8) (.t 26)) [7,6,0,1,2,3,4,5,6,7]]) (.seq (.reg [oP 27 (.load true 2 (.t 4)) [],oP 28 (.load true 2 (.t 8)) [],oP 29 (.call 125 [.t 27,.t 28]) [0,1],oN (.store 2 (.t 4) (.t 29)) [2,2,0,1,2]]) (.seq (.reg [oM 30 6 [],oP 31 (.un .not (.t 30)) [0],oM 32 31 [1],oT 33 (.fad 1 (.t 8)) [2] 32,oT 34 (.load false 1 (.t 33)) [3,2] 32,oT 35 (.len (.t 34)) [4,2] 32,oT 36 (.bin .gtr (.t 35) (.k (.i .i64 0))) [5,2] 32,oP 37 (.pick (.t 32) (.t 36) (.k (.b false))) [2,6]]) (.cond (.t 37) (.seq (.reg [oP 6 (.mov (.k (.b true))) []]) (.reg [oP 38 (.fad 0 (.t 8)) [],oP 39 (.load false 1 (.t 38)) [0],oM 5 39 [1,0,1]])) .skip))))) (.reg [oM 18 7 [],oP 19 (.bin .add (.t 18) (.k (.i .i64 1))) [0],oM 7 19 [1,0,1]]))
def x_r12_normal_l2 : XC := .seq (.seq (.reg [oM 41 10 [],oP 42 (.bin .lss (.t 41) (.k (.i .i64 9))) [0]]) (.cond (.t 42) .skip (.exit 2))) (.seq (.block 3 (.seq (.drw [oM 46 10 [],oP 47 (.bin .quo (.t 46) (.k (.i .i64 3))) [0],oM 48 10 [],oP 49 (.bin .rem (.t 48) (.k (.i .i64 3))) [2],oP 50 (.ixa 3 6 (.t 1) (.t 47)) [1],oP 51 (.ixa 3 2 (.t 50) (.t 49)) [4,3],oP 52 (.load true 2 (.t 51)) [5],oP 53 (.load true 2 (.t 4)) [],oP 54 (.call 120 [.t 52,.t 53]) [6,7],oM 45 54 [8],oP 55 (.ext (.t 45) 0) [9],oP 56 (.ext (.t 45) 1) [9],oP 11 (.new [.b false,.sn]) [],oP 12 (.new [.b false,.sn]) [],oN (.store 2 (.t 11) (.t 55)) [12,10,8,0,1,2,3,4,5,6,7,8,9,10,12,13],oN (.store 2 (.t 12) (.t 56)) [13,11,14,0,1,2,3,4,5,6,7,8,9,10,11,12,13,14]] []) (.seq (.seq (.reg [oM 57 5 []]) (.cond (.t 57) (.reg [oP 58 (.load true 2 (.t 11)) [],oP 59 (.call 123 [.t 58]) [0],oN (.store 2 (.t 11) (.t 59)) [1,1,0,1]]) .skip)) (.seq (.reg [oP 61 (.load true 2 (.t 11)) [],oP 62 (.call 117 [.t 61]) [0],oM 60 62 [1],oP 63 (.ext (.t 60) 0) [2],oP 64 (.ext (.t 60) 1) [2],oM 13 63 [3,1,0,1,2,3],oM 14 64 [4,5,0,1,2,3,4,5]]) (.seq (.seq (.reg [oM 65 14 [],oP 66 (.un .not (.t 65)) [0],oM 67 66 [1],oF 68 (.mov (.t 13)) [2] 67,oF 69 (.bin .lss (.t 68) (.k (.i .i64 (-1073741824)))) [3,2] 67,oP 70 (.pick (.t 67) (.k (.b true)) (.t 69)) [2,4],oM 71 70 [5,2],oF 72 (.mov (.t 13)) [6] 71,oF 73 (.bin .gtr (.t 72) (.k (.i .i64 1073741824))) [7,6] 71,oP 74 (.pick (.t 71) (.k (.b true)) (.t 73)) [6,8]]) (.cond (.t 74) (.seq (.reg [oP 75 (.build [.i .i64 0,.i .i64 0,.i .i64 0,.i .i64 0,.i .i64 0,.i .i64 0,.i .i64 0,.i .i64 0,.i .i64 0] []) [],oN (.store 9 (.t 2) (.t 75)) [0,0],oP 3 (.mov (.k (.i .i64 5))) [1,0,1]]) .ret) .skip)) (.reg [oM 76 10 [],oM 77 13 [],oP 78 (.fad 0 (.t 9)) [],oP 79 (.ixa 9 1 (.t 78) (.t 76)) [2,0,0,1],oN (.store 1 (.t 79) (.t 77)) [3,1,0,1]])))))) (.reg [oM 43 10 [],oP 44 (.bin .add (.t 43) (.k (.i .i64 1))) [0],oM 10 44 [1,0,1]]))
def x_r12_normal : XF := ⟨81,.seq (.reg [oP 1 (.box (.t 0)) [],oP 2 (.new [.i .i64 0,.i .i64 0,.i .i64 0,.i .i64 0,.i .i64 0,.i .i64 0,.i .i64 0,.i .i64 0,.i .i64 0]) [],oP 3 (.mov (.k (.i .i64 0))) []]) (.seq (.reg [oP 15 (.call 114 [.k (.i .i64 0)]) [],oP 4 (.new [.b false,.sn]) [],oN (.store 2 (.t 4) (.t 15)) [1,0,0,0,1]]) (.seq (.reg [oP 5 (.mov (.k (.b false))) []]) (.seq (.reg [oP 6 (.mov (.k (.b false))) []]) (.seq (.seq (.reg [oP 7 (.mov (.k (.i .i64 0))) []]) (.block 0 (.loop x_r12_normal_l1))) (.seq (.reg [oP 40 (.build [.i .i64 0,.i .i64 0,.i .i64 0,.i .i64 0,.i .i64 0,.i .i64 0,.i .i64 0,.i .i64 0,.i .i64 0] []) [],oP 9 (.new [.i .i64 0,.i .i64 0,.i .i64 0,.i .i64 0,.i .i64 0,.i .i64 0,.i .i64 0,.i .i64 0,.i .i64 0]) [],oN (.store 9 (.t 9) (.t 40)) [1,0,0,1]]) (.seq (.seq (.reg [oP 10 (.mov (.k (.i .i64 0))) []]) (.block 2 (.loop x_r12_normal_l2))) (.seq (.reg [oP 80 (.load true 9 (.t 9)) [],oN (.store 9 (.t 2) (.t 80)) [0,0],oP 3 (.mov (.k (.i .i64 0))) [1,0,1]]) .ret))))))),[.cell 2 true 9,.tmp 3]⟩
def x_r12_product_l3 : XC := .seq (.seq (.reg [oM 19 9 [],oP 20 (.bin .lss (.t 19) (.k (.i .i64 3))) [0]]) (.cond (.t 20) .skip (.exit 4))) (.seq (.block 5 (.drw [oP 23 (.load true 2 (.t 8)) [],oM 24 6 [],oM 25 9 [],oP 26 (.ixa 3 6 (.t 2) (.t 24)) [1],oP 27 (.ixa 3 2 (.t 26) (.t 25)) [3,2],oP 28 (.load true 2 (.t 27)) [4],oM 29 9 [],oM 30 7 [],oP 31 (.ixa 3 6 (.t 3) (.t 29)) [6],oP 32 (.ixa 3 2 (.t 31) (.t 30)) [8,7],oP 33 (.load true 2 (.t 32)) [9],oP 34 (.call 118 [.t 28,.t 33]) [5,10],oP 35 (.call 119 [.t 23,.t 34]) [0,11,11],oN (.store 2 (.t 8) (.t 35)) [12,12,0,1,2,3,4,5,6,7,8,9,10,11,12]] [(0,11)])) (.reg [oM 21 9 [],oP 22 (.bin .add (.t 21) (.k (.i .i64 1))) [0],oM 9 22 [1,0,1]]))
def x_r12_product_l2 : XC := .seq (.seq (.reg [oM 14 7 [],oP 15 (.bin .lss (.t 14) (.k (.i .i64 3))) [0]]) (.cond (.t 15) .skip (.exit 2))) (.seq (.block 3 (.seq (.reg [oP 18 (.call 114 [.k (.i .i64 0)]) [],oP 8 (.new [.b false,.sn]) [],oN (.store 2 (.t 8) (.t 18)) [1,0,0,0,1]]) (.seq (.seq (.reg [oP 9 (.mov (.k (.i .i64 0))) []]) (.block 4 (.loop x_r12_product_l3))) (.drw [oM 36 6 [],oM 37 7 [],oP 38 (.load true 2 (.t 8)) [],oP 39 (.ixa 3 6 (.t 5) (.t 36)) [0],oP 40 (.ixa 3 2 (.t 39) (.t 37)) [3,1,0,1,2],oN (.store 2 (.t 40) (.t 38)) [4,2,0,1,2]] [])))) (.reg [oM 16 7 [],oP 17 (.bin .add (.t 16) (.k (.i .i64 1))) [0],oM 7 17 [1,0,1]]))
def x_r12_product_l1 : XC := .seq (.seq (.reg [oM 10 6 [],oP 11 (.bin .lss (.t 10) (.k (.i .i64 3))) [0]]) (.cond (.t 11) .skip (.exit 0))) (.seq (.block 1 (.seq (.reg [oP 7 (.mov (.k (.i .i64 0))) []]) (.block 2 (.loop x_r12_product_l2)))) (.reg [oM 12 6 [],oP 13 (.bin .add (.t 12) (.k (.i .i64 1))) [0],oM 6 13 [1,0,1]]))
def x_r12_product : XF := ⟨42,.seq (.reg [oP 2 (.box (.t 0)) [],oP 3 (.box (.t 1)) [],oP 4 (.new [.b false,.sn,.b false,.sn,.b false,.sn,.b false,.sn,.b false,.sn,.b false,.sn,.b false,.sn,.b false,.sn,.b false,.sn]) []]) (.seq (.reg [oP 5 (.new [.b false,.sn,.b false,.sn,.b false,.sn,.b false,.sn,.b false,.sn,.b false,.sn,.b false,.sn,.b false,.sn,.b false,.sn]) []]) (.seq (.seq (.reg [oP 6 (.mov (.k (.i .i64 0))) []]) (.block 0 (.loop x_r12_product_l1))) (.seq (.reg [oP 41 (.load true 18 (.t 5)) [],oN (.store 18 (.t 4) (.t 41)) [0,0]]) .ret))),[.cell 4 true 18]⟩
def x_r12_inverse_l4 : XC := .seq (.seq (.reg [oM 21 8 [],oP 22 (.bin .lss (.t 21) (.k (.i .i64 3))) [0]]) (.cond (.t 22) .skip (.exit 6))) (.seq (.block 7 (.seq (.drw [oM 25 7 [],oM 26 8 [],oM 27 7 [],oM 28 8 [],oP 29 (.ixa 3 6 (.t 1) (.t 27)) [2],oP 30 (.ixa 3 2 (.t 29) (.t 28)) [4,3],oP 31 (.load true 2 (.t 30)) [5],oP 32 (.ixa 3 6 (.t 6) (.t 25)) [0],oP 33 (.ixa 3 2 (.t 32) (.t 26)) [7,1,0,1,2,3,4,5,6],oN (.store 2 (.t 33) (.t 31)) [8,6,0,1,2,3,4,5,6]] []) (.seq (.reg [oM 34 8 [],oM 35 4 [],oP 36 (.bin .eql (.t 34) (.t 35)) [0,1]]) (.cond (.t 36) (.drw [oM 37 7 [],oM 38 8 [],oP 39 (.call 114 [.k (.i .i64 0)]) [],oP 40 (.ixa 3 6 (.t 6) (.t 37)) [0],oP 41 (.ixa 3 2 (.t 40) (.t 38)) [3,1,0,1,2],oN (.store 2 (.t 41) (.t 39)) [4,2,2,0,1,2]] []) .skip)))) (.reg [oM 23 8 [],oP 24 (.bin .add (.t 23) (.k (.i .i64 1))) [0],oM 8 24 [1,0,1]]))
def x_r12_inverse_l3 : XC := .seq (.seq (.reg [oM 17 7 [],oP 18 (.bin .lss (.t 17) (.k (.i .i64 3))) [0]]) (.cond (.t 18) .skip (.exit 4))) (.seq (.block 5 (.seq (.reg [oP 8 (.mov (.k (.i .i64 0))) []]) (.block 6 (.loop x_r12_inverse_l4)))) (.reg [oM 19 7 [],oP 20 (.bin .add (.t 19) (.k (.i .i64 1))) [0],oM 7 20 [1,0,1]]))
def x_r12_inverse_l2 : XC := .seq (.seq (.reg [oM 13 5 [],oP 14 (.bin .lss (.t 13) (.k (.i .i64 3))) [0]]) (.cond (.t 14) .skip (.exit 2))) (.seq (.block 3 (.seq (.reg [oP 6 (.new [.b false,.sn,.b false,.sn,.b false,.sn,.b false,.sn,.b false,.sn,.b false,.sn,.b false,.sn,.b false,.sn,.b false,.sn]) []]) (.seq (.seq (.reg [oP 7 (.mov (.k (.i .i64 0))) []]) (.block 4 (.loop x_r12_inverse_l3))) (.seq (.drw [oM 42 5 [],oM 43 4 [],oP 44 (.call 114 [.k (.i .i64 1)]) [],oP 45 (.ixa 3 6 (.t 6) (.t 42)) [0],oP 46 (.ixa 3 2 (.t 45) (.t 43)) [3,1,0,1,2],oN (.store 2 (.t 46) (.t 44)) [4,2,2,0,1,2]] []) (.drw [oM 47 4 [],oM 48 5 [],oP 49 (.load true 18 (.t 6)) [],oP 50 (.call 358 [.t 49]) [2],oP 51 (.ixa 3 6 (.t 3) (.t 47)) [0],oP 52 (.ixa 3 2 (.t 51) (.t 48)) [4,1,0,1,2,3],oN (.store 2 (.t 52) (.t 50)) [5,3,3,0,1,2,3]] []))))) (.reg [oM 15 5 [],oP 16 (.bin .add (.t 15) (.k (.i .i64 1))) [0],oM 5 16 [1,0,1]]))
def x_r12_inverse_l1 : XC := .seq (.seq (.reg [oM 9 4 [],oP 10 (.bin .lss (.t 9) (.k (.i .i64 3))) [0]]) (.cond (.t 10) .skip (.exit 0))) (.seq (.block 1 (.seq (.reg [oP 5 (.mov (.k (.i .i64 0))) []]) (.block 2 (.loop x_r12_inverse_l2)))) (.reg [oM 11 4 [],oP 12 (.bin .add (.t 11) (.k (.i .i64 1))) [0],oM 4 12 [1,0,1]]))
def x_r12_inverse : XF := ⟨54,.seq (.reg [oP 1 (.box (.t 0)) [],oP 2 (.new [.b false,.sn,.b false,.sn,.b false,.sn,.b false,.sn,.b false,.sn,.b false,.sn,.b false,.sn,.b false,.sn,.b false,.sn]) []]) (.seq (.reg [oP 3 (.new [.b false,.sn,.b false,.sn,.b false,.sn,.b false,.sn,.b false,.sn,.b false,.sn,.b false,.sn,.b false,.sn,.b false,.sn]) []]) (.seq (.seq (.reg [oP 4 (.mov (.k (.i .i64 0))) []]) (.block 0 (.loop x_r12_inverse_l1))) (.seq (.reg [oP 53 (.load true 18 (.t 3)) [],oN (.store 18 (.t 2) (.t 53)) [0,0]]) .ret))),[.cell 2 true 18]⟩
def x_poly_Digits : XF := ⟨10,.seq (.reg [oP 1 (.box (.t 0)) [],oP 2 (.mov (.k (.i .i64 0))) []]) (.seq (.drw [oP 3 (.load true 4 (.t 1)) [],oP 4 (.call 64 [.t 3]) [0],oP 5 (.call 63 [.t 4]) [1,1],oP 6 (.load true 4 (.t 1)) [],oP 7 (.call 19 [.t 6]) [3,2],oP 8 (.call 63 [.t 7]) [4,4],oP 9 (.mm true (.t 5) [.t 8]) [2,5],oM 2 9 [6,5,0,1,2,3,4,5,6]] [(3,1),(3,2)]) .ret),[.tmp 2]⟩
def x_proj_row : XF := ⟨51,.seq (.reg [oP 4 (.box (.t 1)) [],oP 5 (.box (.t 2)) [],oP 6 (.new [.b false,.sn,.b false,.sn]) []]) (.seq (.reg [oP 7 (.mov (.k (.fn 317 []))) []]) (.seq (.drw [oM 15 7 [],oM 16 0 [],oP 17 (.ixs 1 (.t 16) (.k (.i .i64 0))) [1],oP 18 (.load false 1 (.t 17)) [2],oP 19 (.callv (.t 15) [.t 18]) [0,3],oP 20 (.load true 4 (.t 4)) [],oP 21 (.call 8 [.t 19,.t 20]) [4,5,4],oM 14 21 [6],oP 22 (.ext (.t 14) 0) [7],oP 23 (.ext (.t 14) 1) [7],oP 8 (.new [.b false,.sn,.b false,.sn]) [],oN (.store 4 (.t 8) (.t 22)) [10,8,6,0,1,2,3,4,5,6,7,8,10],oM 9 23 [9,11,0,1,2,3,4,5,6,7,8,9,10,11]] [(5,4)]) (.seq (.drw [oM 25 7 [],oM 26 0 [],oP 27 (.ixs 1 (.t 26) (.k (.i .i64 1))) [1],oP 28 (.load false 1 (.t 27)) [2],oP 29 (.callv (.t 25) [.t 28]) [0,3],oP 30 (.load true 4 (.t 5)) [],oP 31 (.call 8 [.t 29,.t 30]) [4,5,4],oM 24 31 [6],oP 32 (.ext (.t 24) 0) [7],oP 33 (.ext (.t 24) 1) [7],oP 10 (.new [.b false,.sn,.b false,.sn]) [],oN (.store 4 (.t 10) (.t 32)) [10,8,6,0,1,2,3,4,5,6,7,8,10],oM 11 33 [9,11,0,1,2,3,4,5,6,7,8,9,10,11]] [(5,4)]) (.seq (.reg [oP 35 (.load true 4 (.t 8)) [],oP 36 (.load true 4 (.t 10)) [],oP 37 (.call 9 [.t 35,.t 36]) [0,1],oM 34 37 [2],oP 38 (.ext (.t 34) 0) [3],oP 39 (.ext (.t 34) 1) [3],oP 12 (.new [.b false,.sn,.b false,.sn]) [],oN (.store 4 (.t 12) (.t 38)) [6,4,2,0,1,2,3,4,6],oM 13 39 [5,7,0,1,2,3,4,5,6,7]]) (.seq (.drw [oP 41 (.load true 4 (.t 12)) [],oM 42 7 [],oM 43 0 [],oP 44 (.ixs 1 (.t 43) (.k (.i .i64 2))) [2],oP 45 (.load false 1 (.t 44)) [3],oP 46 (.callv (.t 42) [.t 45]) [1,4],oP 47 (.call 9 [.t 41,.t 46]) [0,5,5],oM 40 47 [6],oP 48 (.ext (.t 40) 0) [7],oP 49 (.ext (.t 40) 1) [7],oN (.store 4 (.t 12) (.t 48)) [8,6,0,1,2,3,4,5,6,7,8]] [(0,5)]) (.seq (.reg [oP 50 (.load true 4 (.t 12)) [],oN (.store 4 (.t 6) (.t 50)) [0,0]]) .ret)))))),[.cell 6 true 4]⟩
def x_frac_Sign : XF := ⟨6,.seq (.reg [oP 1 (.box (.t 0)) [],oP 2 (.mov (.k (.i .i64 0))) []]) (.seq (.reg [oP 3 (.fad 0 (.t 1)) [],oP 4 (.load true 2 (.t 3)) [0],oP 5 (.call 31 [.t 4]) [1],oM 2 5 [2,2,0,1,2]]) .ret),[.tmp 2]⟩
def x_frac_Div : XF := ⟨25,.seq (.reg [oP 2 (.box (.t 0)) [],oP 3 (.box (.t 1)) [],oP 4 (.new [.b false,.sn,.b false,.sn]) [],oP 5 (.mov (.k (.i .i64 0))) []]) (.seq (.drw [oP 9 (.load true 4 (.t 3)) [],oP 10 (.call 19 [.t 9]) [0],oP 11 (.fad 0 (.t 3)) [],oP 12 (.load true 2 (.t 11)) [2],oP 13 (.call 24 [.t 10,.t 12]) [1,3,1],oM 8 13 [4],oP 14 (.ext (.t 8) 0) [5],oP 15 (.ext (.t 8) 1) [5],oP 6 (.new [.b false,.sn,.b false,.sn]) [],oN (.store 4 (.t 6) (.t 14)) [8,6,4,0,1,2,3,4,5,6,8],oM 7 15 [7,9,0,1,2,3,4,5,6,7,8,9]] [(3,1)]) (.seq (.seq (.reg [oM 16 7 [],oP 17 (.bin .neq (.t 16) (.k (.i .i64 0))) [0]]) (.cond (.t 17) (.seq (.reg [oP 18 (.build [.b false,.sn,.b false,.sn] []) [],oM 19 7 [],oN (.store 4 (.t 4) (.t 18)) [0,0],oM 5 19 [1,2,0,1,2]]) .ret) .skip)) (.seq (.reg [oP 20 (.load true 4 (.t 2)) [],oP 21 (.load true 4 (.t 6)) [],oP 22 (.call 8 [.t 20,.t 21]) [0,1],oP 23 (.ext (.t 22) 0) [2],oP 24 (.ext (.t 22) 1) [2],oN (.store 4 (.t 4) (.t 23)) [3,2,0,1,2,3,4],oM 5 24 [4,5,0,1,2,3,4,5]]) .ret))),[.cell 4 true 4,.tmp 5]⟩
def x_frac_Of : XF := ⟨13,.seq (.reg [oP 4 (.new [.b false,.sn,.b false,.sn]) [],oP 5 (.mov (.k (.i .i64 0))) []]) (.seq (.reg [oM 6 0 [],oP 7 (.call 34 [.t 6]) [0],oM 8 1 [],oP 9 (.call 34 [.t 8]) [2,1],oP 10 (.call 24 [.t 7,.t 9]) [1,3,3],oP 11 (.ext (.t 10) 0) [4],oP 12 (.ext (.t 10) 1) [4],oN (.store 4 (.t 4) (.t 11)) [5,4,0,1,2,3,4,5,6],oM 5 12 [6,7,0,1,2,3,4,5,6,7]]) .ret),[.cell 4 true 4,.tmp 5]⟩
def x__skymosaic_frac_Frac__Den : XF := ⟨10,.seq (.reg [oP 1 (.box (.t 0)) [],oP 2 (.new [.b false,.sn]) []]) (.seq (.drw [oP 3 (.fad 2 (.t 1)) [],oP 4 (.load true 2 (.t 3)) [0],oP 5 (.call 34 [.k (.i .i64 1)]) [],oP 6 (.call 23 [.t 4,.t 5]) [1,2,2],oP 7 (.ext (.t 6) 0) [3],oP 8 (.ext (.t 6) 1) [3],oP 9 (.call 37 [.t 7,.t 8]) [4,5,3],oN (.store 2 (.t 2) (.t 9)) [6,6,0,1,2,3,4,5,6]] [(1,2)]) .ret),[.cell 2 true 2]⟩
def x_wide_Div : XF := ⟨58,.seq (.reg [oP 2 (.box (.t 0)) [],oP 3 (.box (.t 1)) [],oP 4 (.new [.b false,.sn]) [],oP 5 (.new [.b false,.sn]) [],oP 6 (.mov (.k (.i .i64 0))) []]) (.seq (.seq (.reg [oP 13 (.fad 1 (.t 3)) [],oP 14 (.load false 1 (.t 13)) [0],oP 15 (.len (.t 14)) [1],oP 16 (.bin .eql (.t 15) (.k (.i .i64 0))) [2]]) (.cond (.t 16) (.seq (.reg [oP 17 (.build [.b false,.sn] []) [],oP 18 (.build [.b false,.sn] []) [],oN (.store 2 (.t 4) (.t 17)) [0,0],oN (.store 2 (.t 5) (.t 18)) [1,2,0,1,2],oP 6 (.mov (.k (.i .i64 1))) [3,0,1,2,3]]) .ret) .skip)) (.seq (.reg [oP 20 (.fad 1 (.t 2)) [],oP 21 (.load false 1 (.t 20)) [0],oP 22 (.fad 1 (.t 3)) [],oP 23 (.load false 1 (.t 22)) [2],oP 24 (.call 35 [.t 21,.t 23]) [1,3],oM 19 24 [4],oP 25 (.ext (.t 19) 0) [5],oP 26 (.ext (.t 19) 1) [5],oM 7 25 [6,4,0,1,2,3,4,5,6],oM 8 26 [7,8,0,1,2,3,4,5,6,7,8]]) (.seq (.seq (.reg [oP 27 (.fad 0 (.t 2)) [],oP 28 (.load false 1 (.t 27)) [0],oM 29 28 [1],oT 30 (.mov (.t 8)) [2] 29,oT 31 (.len (.t 30)) [3,2] 29,oT 32 (.bin .gtr (.t 31) (.k (.i .i64 0))) [4,2] 29,oP 33 (.pick (.t 29) (.t 32) (.k (.b false))) [2,5]]) (.cond (.t 33) (.seq (.reg [oM 34 7 [],oP 35 (.bsl 1 1 [.i .u32 0] [(0,(1,.k (.i .u32 1)))]) [],oP 36 (.call 40 [.t 34,.t 35]) [0,1],oM 7 36 [2,2,0,1,2]]) (.reg [oP 37 (.fad 1 (.t 3)) [],oP 38 (.load false 1 (.t 37)) [0],oM 39 8 [],oP 40 (.call 42 [.t 38,.t 39]) [1,2],oM 8 40 [3,3,0,1,2,3]])) .skip)) (.seq (.reg [oP 42 (.fad 0 (.t 2)) [],oP 43 (.load false 1 (.t 42)) [0],oP 44 (.fad 0 (.t 3)) [],oP 45 (.load false 1 (.t 44)) [2],oP 46 (.eqt true 0 (.t 43) (.t 45)) [1,3],oM 47 7 [],oP 48 (.call 36 [.t 46,.t 47]) [4,5],oM 41 48 [6],oP 49 (.ext (.t 41) 0) [7],oP 50 (.ext (.t 41) 1) [7],oP 9 (.new [.b false,.sn]) [],oN (.store 2 (.t 9) (.t 49)) [10,8,6,0,1,2,3,4,5,6,7,8,10],oM 10 50 [9,11,0,1,2,3,4,5,6,7,8,9,10,11]]) (.seq (.reg [oM 52 8 [],oP 53 (.call 36 [.k (.b false),.t 52]) [0],oM 51 53 [1],oP 54 (.ext (.t 51) 0) [2],oP 55 (.ext (.t 51) 1) [2],oP 11 (.new [.b false,.sn]) [],oN (.store 2 (.t 11) (.t 54)) [5,3,1,0,1,2,3,5],oM 12 55 [4,6,0,1,2,3,4,5,6]]) (.seq (.drw [oP 56 (.load true 2 (.t 9)) [],oP 57 (.load true 2 (.t 11)) [],oN (.store 2 (.t 4) (.t 56)) [0,0],oN (.store 2 (.t 5) (.t 57)) [1,2,0,1,2],oP 6 (.mov (.k (.i .i64 0))) [3,0,1,2,3]] [(1,2)]) .ret)))))),[.cell 4 true 2,.cell 5 true 2,.tmp 6]⟩
def x_wide_Compare : XF := ⟨28,.seq (.reg [oP 2 (.box (.t 0)) [],oP 3 (.box (.t 1)) [],oP 4 (.mov (.k (.i .i64 0))) []]) (.seq (.block 0 (.seq (.reg [oP 6 (.fad 0 (.t 2)) [],oP 7 (.load false 1 (.t 6)) [0],oM 8 7 [1],oT 9 (.fad 0 (.t 3)) [2] 8,oT 10 (.load false 1 (.t 9)) [3,2] 8,oP 11 (.pick (.t 8) (.t 10) (.k (.b false))) [2,4],oM 5 11 [5,2]]) (.cond (.t 5) (.seq (.reg [oP 12 (.fad 1 (.t 3)) [],oP 13 (.load false 1 (.t 12)) [0],oP 14 (.fad 1 (.t 2)) [],oP 15 (.load false 1 (.t 14)) [2],oP 16 (.call 41 [.t 13,.t 15]) [1,3],oM 4 16 [4,4,0,1,2,3,4]]) .ret) (.seq (.reg [oP 18 (.fad 0 (.t 2)) [],oP 19 (.load false 1 (.t 18)) [0],oM 17 19 [1]]) (.cond (.t 17) (.seq (.reg [oP 4 (.mov (.k (.i .i64 (-1)))) []]) .ret) (.seq (.reg [oP 21 (.fad 0 (.t 3)) [],oP 22 (.load false 1 (.t 21)) [0],oM 20 22 [1]]) (.cond (.t 20) (.seq (.reg [oP 4 (.mov (.k (.i .i64 1))) []]) .ret) .skip))))))) (.seq (.reg [oP 23 (.fad 1 (.t 2)) [],oP 24 (.load false 1 (.t 23)) [0],oP 25 (.fad 1 (.t 3)) [],oP 26 (.load false 1 (.t 25)) [2],oP 27 (.call 41 [.t 24,.t 26]) [1,3],oM 4 27 [4,4,0,1,2,3,4]]) .ret)),[.tmp 4]⟩
def x_wide_Sign : XF := ⟨6,.seq (.reg [oP 1 (.box (.t 0)) [],oP 2 (.mov (.k (.i .i64 0))) []]) (.seq (.reg [oP 3 (.load true 2 (.t 1)) [],oP 4 (.build [.b false,.sn] []) [],oP 5 (.call 30 [.t 3,.t 4]) [0,1],oM 2 5 [2,2,0,1,2]]) .ret),[.tmp 2]⟩
def x_proj_of_l1 : XC := .seq (.reg [oP 9 (.bin .lss (.t 8) (.k (.i .i64 9))) []]) (.seq (.cond (.t 9) .skip (.exit 0)) (.seq (.block 1 (.seq (.reg [oM 10 8 [],oP 11 (.iag 9 false 1 (.t 7) (.t 8)) [],oM 4 10 [0,0,1],oM 5 11 [1,2,0,1,2]]) (.reg [oM 12 4 [],oM 13 5 [],oP 14 (.call 34 [.t 13]) [1],oP 15 (.ixa 9 2 (.t 3) (.t 12)) [0,0,1,2],oN (.store 2 (.t 15) (.t 14)) [3,2,2,0,1,2]]))) (.reg [oP 16 (.bin .add (.t 8) (.k (.i .i64 1))) [],oM 8 16 [0]])))
def x_proj_of : XF := ⟨18,.seq (.reg [oP 1 (.box (.t 0)) [],oP 2 (.new [.b false,.sn,.b false,.sn,.b false,.sn,.b false,.sn,.b false,.sn,.b false,.sn,.b false,.sn,.b false,.sn,.b false,.sn]) []]) (.seq (.reg [oP 3 (.new [.b false,.sn,.b false,.sn,.b false,.sn,.b false,.sn,.b false,.sn,.b false,.sn,.b false,.sn,.b false,.sn,.b false,.sn]) []]) (.seq (.seq (.reg [oP 6 (.fad 0 (.t 1)) [],oP 7 (.load true 9 (.t 6)) [0],oP 8 (.mov (.k (.i .i64 0))) []]) (.block 0 (.loop x_proj_of_l1))) (.seq (.reg [oP 17 (.load true 18 (.t 3)) [],oN (.store 18 (.t 2) (.t 17)) [0,0]]) .ret))),[.cell 2 true 18]⟩
def x_r12_Matrix_l1 : XC := .seq (.seq (.reg [oM 5 4 [],oP 6 (.bin .lss (.t 5) (.k (.i .i64 9))) [0]]) (.cond (.t 6) .skip (.exit 0))) (.seq (.block 1 (.drw [oM 9 4 [],oP 10 (.bin .quo (.t 9) (.k (.i .i64 3))) [0],oM 11 4 [],oP 12 (.bin .rem (.t 11) (.k (.i .i64 3))) [2],oM 13 4 [],oP 14 (.fad 0 (.t 1)) [],oP 15 (.ixa 9 1 (.t 14) (.t 13)) [5,4],oP 16 (.load false 1 (.t 15)) [6],oP 17 (.call 114 [.t 16]) [7],oP 18 (.ixa 3 6 (.t 3) (.t 10)) [1],oP 19 (.ixa 3 2 (.t 18) (.t 12)) [9,3,0,1,2,3,4,5,6,7,8],oN (.store 2 (.t 19) (.t 17)) [10,8,8,0,1,2,3,4,5,6,7,8]] [])) (.reg [oM 7 4 [],oP 8 (.bin .add (.t 7) (.k (.i .i64 1))) [0],oM 4 8 [1,0,1]]))
def x_r12_Matrix : XF := ⟨21,.seq (.reg [oP 1 (.box (.t 0)) [],oP 2 (.new [.b false,.sn,.b false,.sn,.b false,.sn,.b false,.sn,.b false,.sn,.b false,.sn,.b false,.sn,.b false,.sn,.b false,.sn]) []]) (.seq (.reg [oP 3 (.new [.b false,.sn,.b false,.sn,.b false,.sn,.b false,.sn,.b false,.sn,.b false,.sn,.b false,.sn,.b false,.sn,.b false,.sn]) []]) (.seq (.seq (.reg [oP 4 (.mov (.k (.i .i64 0))) []]) (.block 0 (.loop x_r12_Matrix_l1))) (.seq (.reg [oP 20 (.load true 18 (.t 3)) [],oN (.store 18 (.t 2) (.t 20)) [0,0]]) .ret))),[.cell 2 true 18]⟩
def x_r03_Neg : XF := ⟨9,.seq (.reg [oP 1 (.box (.t 0)) [],oP 2 (.new [.b false,.sn]) []]) (.seq (.reg [oP 3 (.fad 0 (.t 1)) [],oP 4 (.load false 1 (.t 3)) [0],oP 5 (.un .not (.t 4)) [1],oP 6 (.fad 1 (.t 1)) [],oP 7 (.load false 1 (.t 6)) [3],oP 8 (.call 132 [.t 5,.t 7]) [2,4],oN (.store 2 (.t 2) (.t 8)) [5,5,0,1,2,3,4,5]]) .ret),[.cell 2 true 2]⟩
def x_r03_Gcd_l1 : XC := .seq (.seq (.reg [oP 15 (.fad 1 (.t 6)) [],oP 16 (.load false 1 (.t 15)) [0],oP 17 (.len (.t 16)) [1],oP 18 (.bin .gtr (.t 17) (.k (.i .i64 0))) [2]]) (.cond (.t 18) .skip (.exit 0))) (.block 1 (.seq (.reg [oP 20 (.load true 2 (.t 5)) [],oP 21 (.load true 2 (.t 6)) [],oP 22 (.call 120 [.t 20,.t 21]) [0,1],oM 19 22 [2],oP 23 (.ext (.t 19) 0) [3],oP 24 (.ext (.t 19) 1) [3],oP 7 (.new [.b false,.sn]) [],oP 8 (.new [.b false,.sn]) [],oN (.store 2 (.t 7) (.t 23)) [6,4,2,0,1,2,3,4,6,7],oN (.store 2 (.t 8) (.t 24)) [7,5,8,0,1,2,3,4,5,6,7,8]]) (.seq (.reg [oP 25 (.load true 2 (.t 6)) [],oN (.store 2 (.t 5) (.t 25)) [0,0]]) (.reg [oP 26 (.load true 2 (.t 8)) [],oN (.store 2 (.t 6) (.t 26)) [0,0]]))))
def x_r03_Gcd : XF := ⟨28,.seq (.reg [oP 2 (.box (.t 0)) [],oP 3 (.box (.t 1)) [],oP 4 (.new [.b false,.sn]) []]) (.seq (.reg [oP 9 (.fad 1 (.t 2)) [],oP 10 (.load false 1 (.t 9)) [0],oP 11 (.call 132 [.k (.b false),.t 10]) [1],oP 5 (.new [.b false,.sn]) [],oN (.store 2 (.t 5) (.t 11)) [3,2,2,0,1,2,3]]) (.seq (.reg [oP 12 (.fad 1 (.t 3)) [],oP 13 (.load false 1 (.t 12)) [0],oP 14 (.call 132 [.k (.b false),.t 13]) [1],oP 6 (.new [.b false,.sn]) [],oN (.store 2 (.t 6) (.t 14)) [3,2,2,0,1,2,3]]) (.seq (.block 0 (.loop x_r03_Gcd_l1)) (.seq (.reg [oP 27 (.load true 2 (.t 5)) [],oN (.store 2 (.t 4) (.t 27)) [0,0]]) .ret)))),[.cell 4 true 2]⟩
def x_r03_Div : XF := ⟨54,.seq (.reg [oP 2 (.box (.t 0)) [],oP 3 (.box (.t 1)) [],oP 4 (.new [.b false,.sn]) [],oP 5 (.new [.b false,.sn]) []]) (.seq (.reg [oP 12 (.fad 1 (.t 2)) [],oP 13 (.load false 1 (.t 12)) [0],oP 14 (.fad 1 (.t 3)) [],oP 15 (.load false 1 (.t 14)) [2],oP 16 (.call 136 [.t 13,.t 15]) [1,3],oM 11 16 [4],oP 17 (.ext (.t 11) 0) [5],oP 18 (.ext (.t 11) 1) [5],oM 6 17 [6,4,0,1,2,3,4,5,6],oM 7 18 [7,8,0,1,2,3,4,5,6,7,8]]) (.seq (.reg [oP 19 (.fad 0 (.t 2)) [],oP 20 (.load false 1 (.t 19)) [0],oP 21 (.fad 0 (.t 3)) [],oP 22 (.load false 1 (.t 21)) [2],oP 23 (.eqt true 0 (.t 20) (.t 22)) [1,3],oM 24 6 [],oP 25 (.call 132 [.t 23,.t 24]) [4,5],oP 8 (.new [.b false,.sn]) [],oN (.store 2 (.t 8) (.t 25)) [7,6,6,0,1,2,3,4,5,6,7]]) (.seq (.reg [oM 26 7 [],oP 27 (.call 132 [.k (.b false),.t 26]) [0],oP 9 (.new [.b false,.sn]) [],oN (.store 2 (.t 9) (.t 27)) [2,1,1,0,1,2]]) (.seq (.seq (.reg [oP 28 (.fad 0 (.t 2)) [],oP 29 (.load false 1 (.t 28)) [0],oM 30 29 [1],oT 31 (.fad 1 (.t 9)) [2] 30,oT 32 (.load false 1 (.t 31)) [3,2] 30,oT 33 (.len (.t 32)) [4,2] 30,oT 34 (.bin .gtr (.t 33) (.k (.i .i64 0))) [5,2] 30,oP 35 (.pick (.t 30) (.t 34) (.k (.b false))) [2,6]]) (.cond (.t 35) (.seq (.reg [oP 36 (.fad 0 (.t 2)) [],oP 37 (.load false 1 (.t 36)) [0],oP 38 (.fad 0 (.t 3)) [],oP 39 (.load false 1 (.t 38)) [2],oP 40 (.eqt true 0 (.t 37) (.t 39)) [1,3],oP 41 (.bsl 1 1 [.i .i64 0] [(0,(1,.k (.i .i64 1)))]) [],oP 42 (.call 132 [.t 40,.t 41]) [4,5],oP 10 (.new [.b false,.sn]) [],oN (.store 2 (.t 10) (.t 42)) [7,6,6,0,1,2,3,4,5,6,7]]) (.seq (.reg [oP 43 (.load true 2 (.t 8)) [],oP 44 (.load true 2 (.t 10)) [],oP 45 (.call 119 [.t 43,.t 44]) [0,1],oN (.store 2 (.t 8) (.t 45)) [2,2,0,1,2]]) (.reg [oP 46 (.fad 1 (.t 3)) [],oP 47 (.load false 1 (.t 46)) [0],oP 48 (.fad 1 (.t 9)) [],oP 49 (.load false 1 (.t 48)) [2],oP 50 (.call 135 [.t 47,.t 49]) [1,3],oP 51 (.call 132 [.k (.b false),.t 50]) [4,4],oN (.store 2 (.t 9) (.t 51)) [5,5,0,1,2,3,4,5]]))) .skip)) (.seq (.drw [oP 52 (.load true 2 (.t 8)) [],oP 53 (.load true 2 (.t 9)) [],oN (.store 2 (.t 4) (.t 52)) [0,0],oN (.store 2 (.t 5) (.t 53)) [1,2,0,1,2]] [(1,2)]) .ret))))),[.cell 4 true 2,.cell 5 true 2]⟩
def x_r03_normal_l1 : XC := .seq (.seq (.reg [oM 5 1 [],oP 6 (.len (.t 5)) [0],oP 7 (.bin .gtr (.t 6) (.k (.i .i64 0))) [1],oM 8 7 [2],oT 9 (.mov (.t 1)) [3] 8,oT 10 (.mov (.t 1)) [3] 8,oT 11 (.len (.t 10)) [5,3] 8,oT 12 (.bin .sub (.t 11) (.k (.i .i64 1))) [6,3] 8,oT 13 (.ixs 1 (.t 9) (.t 12)) [4,7,3] 8,oT 14 (.load false 1 (.t 13)) [8,3] 8,oT 15 (.bin .eql (.t 14) (.k (.i .i64 0))) [9,3] 8,oP 16 (.pick (.t 8) (.t 15) (.k (.b false))) [3,10]]) (.cond (.t 16) .skip (.exit 0))) (.block 1 (.reg [oM 17 1 [],oM 18 1 [],oP 19 (.len (.t 18)) [1],oP 20 (.bin .sub (.t 19) (.k (.i .i64 1))) [2],oP 21 (.slsl 1 (.t 17) none (some (.t 20)) none) [0,3],oM 1 21 [4,0,1,2,3,4]]))
def x_r03_normal : XF := ⟨30,.seq (.reg [oP 4 (.new [.b false,.sn]) []]) (.seq (.block 0 (.loop x_r03_normal_l1)) (.seq (.reg [oM 22 0 [],oM 23 22 [0],oT 24 (.mov (.t 1)) [1] 23,oT 25 (.len (.t 24)) [2,1] 23,oT 26 (.bin .gtr (.t 25) (.k (.i .i64 0))) [3,1] 23,oP 27 (.pick (.t 23) (.t 26) (.k (.b false))) [1,4],oM 28 1 [],oP 29 (.build [.b false,.sn] [(0,(1,.t 27)),(1,(1,.t 28))]) [5,6],oN (.store 2 (.t 4) (.t 29)) [7,1,0,1,2,3,4,5,6,7]]) .ret)),[.cell 4 true 2]⟩
def x_r03_plus_l1 : XC := .seq (.seq (.reg [oM 9 7 [],oM 10 0 [],oP 11 (.len (.t 10)) [1],oP 12 (.bin .lss (.t 9) (.t 11)) [0,2],oM 13 12 [3],oF 14 (.mov (.t 7)) [4] 13,oF 15 (.mov (.t 1)) [4] 13,oF 16 (.len (.t 15)) [6,4] 13,oF 17 (.bin .lss (.t 14) (.t 16)) [5,7,4] 13,oP 18 (.pick (.t 13) (.k (.b true)) (.t 17)) [4,8],oM 19 18 [9,4],oF 20 (.mov (.t 6)) [10] 19,oF 21 (.bin .gtr (.t 20) (.k (.i .i64 0))) [11,10] 19,oP 22 (.pick (.t 19) (.k (.b true)) (.t 21)) [10,12]]) (.cond (.t 22) .skip (.exit 0))) (.seq (.block 1 (.seq (.reg [oM 25 0 [],oM 26 7 [],oP 27 (.call 147 [.t 25,.t 26]) [0,1],oM 28 1 [],oM 29 7 [],oP 30 (.call 147 [.t 28,.t 29]) [3,4,2],oP 31 (.bin .add (.t 27) (.t 30)) [2,5],oM 32 6 [],oP 33 (.bin .add (.t 31) (.t 32)) [6,7],oM 8 33 [8,5,0,1,2,3,4,5,6,7,8]]) (.seq (.reg [oM 34 5 [],oM 35 8 [],oP 36 (.bin .rem (.t 35) (.k (.i .i64 10000))) [1],oP 37 (.bsl 1 1 [.i .i64 0] [(0,(1,.t 36))]) [2],oP 38 (.app 1 8 (.t 34) (.t 37)) [0,3],oM 5 38 [4,4,0,1,2,3,4]]) (.reg [oM 39 8 [],oP 40 (.bin .quo (.t 39) (.k (.i .i64 10000))) [0],oM 6 40 [1,0,1]])))) (.reg [oM 23 7 [],oP 24 (.bin .add (.t 23) (.k (.i .i64 1))) [0],oM 7 24 [1,0,1]]))
def x_r03_plus : XF := ⟨42,.seq (.reg [oP 4 (.mov (.k .sn)) []]) (.seq (.reg [oP 5 (.mov (.k .sn)) []]) (.seq (.reg [oP 6 (.mov (.k (.i .i64 0))) []]) (.seq (.seq (.reg [oP 7 (.mov (.k (.i .i64 0))) []]) (.block 0 (.loop x_r03_plus_l1))) (.seq (.reg [oM 41 5 [],oM 4 41 [0,0]]) .ret)))),[.tmp 4]⟩
def x_r03_compared_l1 : XC := .seq (.seq (.reg [oM 19 5 [],oP 20 (.bin .geq (.t 19) (.k (.i .i64 0))) [0]]) (.cond (.t 20) .skip (.exit 0))) (.seq (.block 1 (.seq (.seq (.drw [oM 23 0 [],oM 24 5 [],oP 25 (.ixs 1 (.t 23) (.t 24)) [0,1],oP 26 (.load false 1 (.t 25)) [2],oM 27 1 [],oM 28 5 [],oP 29 (.ixs 1 (.t 27) (.t 28)) [4,5],oP 30 (.load false 1 (.t 29)) [6],oP 31 (.bin .lss (.t 26) (.t 30)) [3,7]] []) (.cond (.t 31) (.seq (.reg [oP 4 (.mov (.k (.i .i64 (-1)))) []]) .ret) .skip)) (.seq (.drw [oM 32 0 [],oM 33 5 [],oP 34 (.ixs 1 (.t 32) (.t 33)) [0,1],oP 35 (.load false 1 (.t 34)) [2],oM 36 1 [],oM 37 5 [],oP 38 (.ixs 1 (.t 36) (.t 37)) [4,5],oP 39 (.load false 1 (.t 38)) [6],oP 40 (.bin .gtr (.t 35) (.t 39)) [3,7]] []) (.cond (.t 40) (.seq (.reg [oP 4 (.mov (.k (.i .i64 1))) []]) .ret) .skip)))) (.reg [oM 21 5 [],oP 22 (.bin .sub (.t 21) (.k (.i .i64 1))) [0],oM 5 22 [1,0,1]]))
def x_r03_compared : XF := ⟨41,.seq (.reg [oP 4 (.mov (.k (.i .i64 0))) []]) (.seq (.seq (.reg [oM 6 0 [],oP 7 (.len (.t 6)) [0],oM 8 1 [],oP 9 (.len (.t 8)) [2],oP 10 (.bin .lss (.t 7) (.t 9)) [1,3]]) (.cond (.t 10) (.seq (.reg [oP 4 (.mov (.k (.i .i64 (-1)))) []]) .ret) .skip)) (.seq (.seq (.reg [oM 11 0 [],oP 12 (.len (.t 11)) [0],oM 13 1 [],oP 14 (.len (.t 13)) [2],oP 15 (.bin .gtr (.t 12) (.t 14)) [1,3]]) (.cond (.t 15) (.seq (.reg [oP 4 (.mov (.k (.i .i64 1))) []]) .ret) .skip)) (.seq (.seq (.reg [oM 16 0 [],oP 17 (.len (.t 16)) [0],oP 18 (.bin .sub (.t 17) (.k (.i .i64 1))) [1],oM 5 18 [2,0,1,2]]) (.block 0 (.loop x_r03_compared_l1))) (.seq (.reg [oP 4 (.mov (.k (.i .i64 0))) []]) .ret)))),[.tmp 4]⟩
def x_r03_minus_l1 : XC := .seq (.seq (.reg [oM 9 7 [],oM 10 0 [],oP 11 (.len (.t 10)) [1],oP 12 (.bin .lss (.t 9) (.t 11)) [0,2]]) (.cond (.t 12) .skip (.exit 0))) (.seq (.block 1 (.seq (.reg [oM 15 0 [],oM 16 7 [],oP 17 (.call 147 [.t 15,.t 16]) [0,1],oM 18 1 [],oM 19 7 [],oP 20 (.call 147 [.t 18,.t 19]) [3,4,2],oP 21 (.bin .sub (.t 17) (.t 20)) [2,5],oM 22 6 [],oP 23 (.bin .sub (.t 21) (.t 22)) [6,7],oM 8 23 [8,5,0,1,2,3,4,5,6,7,8]]) (.seq (.reg [oP 6 (.mov (.k (.i .i64 0))) []]) (.seq (.seq (.reg [oM 24 8 [],oP 25 (.bin .lss (.t 24) (.k (.i .i64 0))) [0]]) (.cond (.t 25) (.seq (.reg [oM 26 8 [],oP 27 (.bin .add (.t 26) (.k (.i .i64 10000))) [0],oM 8 27 [1,0,1]]) (.reg [oP 6 (.mov (.k (.i .i64 1))) []])) .skip)) (.reg [oM 28 5 [],oM 29 8 [],oP 30 (.bsl 1 1 [.i .i64 0] [(0,(1,.t 29))]) [1],oP 31 (.app 1 8 (.t 28) (.t 30)) [0,2],oM 5 31 [3,3,0,1,2,3]]))))) (.reg [oM 13 7 [],oP 14 (.bin .add (.t 13) (.k (.i .i64 1))) [0],oM 7 14 [1,0,1]]))
def x_r03_minus : XF := ⟨33,.seq (.reg [oP 4 (.mov (.k .sn)) []]) (.seq (.reg [oP 5 (.mov (.k .sn)) []]) (.seq (.reg [oP 6 (.mov (.k (.i .i64 0))) []]) (.seq (.seq (.reg [oP 7 (.mov (.k (.i .i64 0))) []]) (.block 0 (.loop x_r03_minus_l1))) (.seq (.reg [oM 32 5 [],oM 4 32 [0,0]]) .ret)))),[.tmp 4]⟩
def x_r03_Mul_l2 : XC := .seq (.seq (.reg [oM 25 8 [],oP 26 (.fad 1 (.t 3)) [],oP 27 (.load false 1 (.t 26)) [1],oP 28 (.len (.t 27)) [2],oP 29 (.bin .lss (.t 25) (.t 28)) [0,3]]) (.cond (.t 29) .skip (.exit 2))) (.seq (.block 3 (.seq (.drw [oM 32 5 [],oM 33 6 [],oM 34 8 [],oP 35 (.bin .add (.t 33) (.t 34)) [1,2],oP 36 (.ixs 1 (.t 32) (.t 35)) [0,3],oP 37 (.load false 1 (.t 36)) [4],oP 38 (.fad 1 (.t 2)) [],oP 39 (.load false 1 (.t 38)) [6],oM 40 6 [],oP 41 (.ixs 1 (.t 39) (.t 40)) [7,8],oP 42 (.load false 1 (.t 41)) [9],oP 43 (.fad 1 (.t 3)) [],oP 44 (.load false 1 (.t 43)) [11],oM 45 8 [],oP 46 (.ixs 1 (.t 44) (.t 45)) [12,13],oP 47 (.load false 1 (.t 46)) [14],oP 48 (.bin .mul (.t 42) (.t 47)) [10,15],oP 49 (.bin .add (.t 37) (.t 48)) [5,16],oM 50 7 [],oP 51 (.bin .add (.t 49) (.t 50)) [17,18],oM 9 51 [19,0,1,2,3,4,5,6,7,8,9,10,11,12,13,14,15,16,17,18,19]] []) (.seq (.reg [oM 52 5 [],oM 53 6 [],oM 54 8 [],oP 55 (.bin .add (.t 53) (.t 54)) [1,2],oM 56 9 [],oP 57 (.bin .rem (.t 56) (.k (.i .i64 10000))) [4],oP 58 (.ixs 1 (.t 52) (.t 55)) [0,3,0,1,2,3,4,5],oN (.store 1 (.t 58) (.t 57)) [6,5,0,1,2,3,4,5]]) (.reg [oM 59 9 [],oP 60 (.bin .quo (.t 59) (.k (.i .i64 10000))) [0],oM 7 60 [1,0,1]])))) (.reg [oM 30 8 [],oP 31 (.bin .add (.t 30) (.k (.i .i64 1))) [0],oM 8 31 [1,0,1]]))
def x_r03_Mul_l1 : XC := .seq (.seq (.reg [oM 18 6 [],oP 19 (.fad 1 (.t 2)) [],oP 20 (.load false 1 (.t 19)) [1],oP 21 (.len (.t 20)) [2],oP 22 (.bin .lss (.t 18) (.t 21)) [0,3]]) (.cond (.t 22) .skip (.exit 0))) (.seq (.block 1 (.seq (.reg [oP 7 (.mov (.k (.i .i64 0))) []]) (.seq (.seq (.reg [oP 8 (.mov (.k (.i .i64 0))) []]) (.block 2 (.loop x_r03_Mul_l2))) (.reg [oM 61 5 [],oM 62 6 [],oP 63 (.fad 1 (.t 3)) [],oP 64 (.load false 1 (.t 63)) [2],oP 65 (.len (.t 64)) [3],oP 66 (.bin .add (.t 62) (.t 65)) [1,4],oM 67 7 [],oP 68 (.ixs 1 (.t 61) (.t 66)) [0,5,0,1,2,3,4,5,6],oN (.store 1 (.t 68) (.t 67)) [7,6,0,1,2,3,4,5,6]])))) (.reg [oM 23 6 [],oP 24 (.bin .add (.t 23) (.k (.i .i64 1))) [0],oM 6 24 [1,0,1]]))
def x_r03_Mul : XF := ⟨76,.seq (.reg [oP 2 (.box (.t 0)) [],oP 3 (.box (.t 1)) [],oP 4 (.new [.b false,.sn]) []]) (.seq (.reg [oP 10 (.fad 1 (.t 2)) [],oP 11 (.load false 1 (.t 10)) [0],oP 12 (.len (.t 11)) [1],oP 13 (.fad 1 (.t 3)) [],oP 14 (.load false 1 (.t 13)) [3],oP 15 (.len (.t 14)) [4],oP 16 (.bin .add (.t 12) (.t 15)) [2,5],oP 17 (.msl [.i .i64 0] 8 (.t 16) (.t 16)) [6,6],oM 5 17 [7,0,1,2,3,4,5,6,7]]) (.seq (.seq (.reg [oP 6 (.mov (.k (.i .i64 0))) []]) (.block 0 (.loop x_r03_Mul_l1))) (.seq (.reg [oP 69 (.fad 0 (.t 2)) [],oP 70 (.load false 1 (.t 69)) [0],oP 71 (.fad 0 (.t 3)) [],oP 72 (.load false 1 (.t 71)) [2],oP 73 (.eqt true 0 (.t 70) (.t 72)) [1,3],oM 74 5 [],oP 75 (.call 132 [.t 73,.t 74]) [4,5],oN (.store 2 (.t 4) (.t 75)) [6,6,0,1,2,3,4,5,6]]) .ret))),[.cell 4 true 2]⟩
def x_proj_det : XF := ⟨23,.seq (.reg [oP 1 (.box (.t 0)) [],oP 2 (.new [.b false,.sn]) []]) (.seq (.reg [oP 4 (.load true 18 (.t 1)) [],oP 5 (.call 311 [.t 4]) [0],oP 3 (.new [.b false,.sn,.b false,.sn,.b false,.sn,.b false,.sn,.b false,.sn,.b false,.sn,.b false,.sn,.b false,.sn,.b false,.sn]) [],oN (.store 18 (.t 3) (.t 5)) [2,1,1,0,1,2]]) (.seq (.drw [oP 6 (.ixa 9 2 (.t 1) (.k (.i .i64 0))) [],oP 7 (.load true 2 (.t 6)) [0],oP 8 (.ixa 9 2 (.t 3) (.k (.i .i64 0))) [],oP 9 (.load true 2 (.t 8)) [2],oP 10 (.call 313 [.t 7,.t 9]) [1,3],oP 11 (.ixa 9 2 (.t 1) (.k (.i .i64 1))) [],oP 12 (.load true 2 (.t 11)) [5],oP 13 (.ixa 9 2 (.t 3) (.k (.i .i64 3))) [],oP 14 (.load true 2 (.t 13)) [7],oP 15 (.call 313 [.t 12,.t 14]) [6,8,4],oP 16 (.call 312 [.t 10,.t 15]) [4,9,9],oP 17 (.ixa 9 2 (.t 1) (.k (.i .i64 2))) [],oP 18 (.load true 2 (.t 17)) [11],oP 19 (.ixa 9 2 (.t 3) (.k (.i .i64 6))) [],oP 20 (.load true 2 (.t 19)) [13],oP 21 (.call 313 [.t 18,.t 20]) [12,14,10],oP 22 (.call 312 [.t 16,.t 21]) [10,15,15],oN (.store 2 (.t 2) (.t 22)) [16,16,0,1,2,3,4,5,6,7,8,9,10,11,12,13,14,15,16]] [(6,4),(8,4),(12,4),(12,9),(12,10),(14,4),(14,9),(14,10)]) .ret)),[.cell 2 true 2]⟩
def x_r12_det_l1 : XC := .seq (.seq (.reg [oM 8 4 [],oP 9 (.bin .lss (.t 8) (.k (.i .i64 3))) [0]]) (.cond (.t 9) .skip (.exit 0))) (.seq (.block 1 (.seq (.drw [oM 12 4 [],oP 13 (.ixa 3 6 (.t 1) (.k (.i .i64 0))) [],oP 14 (.ixa 3 2 (.t 13) (.t 12)) [1,0],oP 15 (.load true 2 (.t 14)) [2],oM 16 4 [],oP 17 (.bin .add (.t 16) (.k (.i .i64 1))) [4],oP 18 (.bin .rem (.t 17) (.k (.i .i64 3))) [5],oP 19 (.ixa 3 6 (.t 1) (.k (.i .i64 1))) [],oP 20 (.ixa 3 2 (.t 19) (.t 18)) [7,6],oP 21 (.load true 2 (.t 20)) [8],oM 22 4 [],oP 23 (.bin .add (.t 22) (.k (.i .i64 2))) [10],oP 24 (.bin .rem (.t 23) (.k (.i .i64 3))) [11],oP 25 (.ixa 3 6 (.t 1) (.k (.i .i64 2))) [],oP 26 (.ixa 3 2 (.t 25) (.t 24)) [13,12],oP 27 (.load true 2 (.t 26)) [14],oP 28 (.call 118 [.t 21,.t 27]) [9,15],oP 29 (.call 118 [.t 15,.t 28]) [3,16,16],oP 5 (.new [.b false,.sn]) [],oN (.store 2 (.t 5) (.t 29)) [18,17,17,0,1,2,3,4,5,6,7,8,9,10,11,12,13,14,15,16,17,18]] [(3,16)]) (.seq (.drw [oM 30 4 [],oP 31 (.ixa 3 6 (.t 1) (.k (.i .i64 0))) [],oP 32 (.ixa 3 2 (.t 31) (.t 30)) [1,0],oP 33 (.load true 2 (.t 32)) [2],oM 34 4 [],oP 35 (.bin .add (.t 34) (.k (.i .i64 2))) [4],oP 36 (.bin .rem (.t 35) (.k (.i .i64 3))) [5],oP 37 (.ixa 3 6 (.t 1) (.k (.i .i64 1))) [],oP 38 (.ixa 3 2 (.t 37) (.t 36)) [7,6],oP 39 (.load true 2 (.t 38)) [8],oM 40 4 [],oP 41 (.bin .add (.t 40) (.k (.i .i64 1))) [10],oP 42 (.bin .rem (.t 41) (.k (.i .i64 3))) [11],oP 43 (.ixa 3 6 (.t 1) (.k (.i .i64 2))) [],oP 44 (.ixa 3 2 (.t 43) (.t 42)) [13,12],oP 45 (.load true 2 (.t 44)) [14],oP 46 (.call 118 [.t 39,.t 45]) [9,15],oP 47 (.call 118 [.t 33,.t 46]) [3,16,16],oP 6 (.new [.b false,.sn]) [],oN (.store 2 (.t 6) (.t 47)) [18,17,17,0,1,2,3,4,5,6,7,8,9,10,11,12,13,14,15,16,17,18]] [(3,16)]) (.drw [oP 48 (.load true 2 (.t 3)) [],oP 49 (.load true 2 (.t 5)) [],oP 50 (.load true 2 (.t 6)) [],oP 51 (.call 121 [.t 49,.t 50]) [1,2],oP 52 (.call 119 [.t 48,.t 51]) [0,3,3],oN (.store 2 (.t 3) (.t 52)) [4,4,0,1,2,3,4]] [(0,3)])))) (.reg [oM 10 4 [],oP 11 (.bin .add (.t 10) (.k (.i .i64 1))) [0],oM 4 11 [1,0,1]]))
def x_r12_det : XF := ⟨54,.seq (.reg [oP 1 (.box (.t 0)) [],oP 2 (.new [.b false,.sn]) []]) (.seq (.reg [oP 7 (.call 114 [.k (.i .i64 0)]) [],oP 3 (.new [.b false,.sn]) [],oN (.store 2 (.t 3) (.t 7)) [1,0,0,0,1]]) (.seq (.seq (.reg [oP 4 (.mov (.k (.i .i64 0))) []]) (.block 0 (.loop x_r12_det_l1))) (.seq (.reg [oP 53 (.load true 2 (.t 3)) [],oN (.store 2 (.t 2) (.t 53)) [0,0]]) .ret))),[.cell 2 true 2]⟩
def x_frac_Make : XF := ⟨30,.seq (.reg [oP 2 (.box (.t 0)) [],oP 3 (.box (.t 1)) [],oP 4 (.new [.b false,.sn,.b false,.sn]) [],oP 5 (.mov (.k (.i .i64 0))) []]) (.seq (.seq (.reg [oP 7 (.load true 2 (.t 3)) [],oP 8 (.call 31 [.t 7]) [0],oP 9 (.bin .eql (.t 8) (.k (.i .i64 0))) [1]]) (.cond (.t 9) (.seq (.reg [oP 10 (.build [.b false,.sn,.b false,.sn] []) [],oN (.store 4 (.t 4) (.t 10)) [0,0],oP 5 (.mov (.k (.i .i64 1))) [1,0,1]]) .ret) .skip)) (.seq (.seq (.reg [oP 11 (.load true 2 (.t 3)) [],oP 12 (.call 31 [.t 11]) [0],oP 13 (.bin .lss (.t 12) (.k (.i .i64 0))) [1]]) (.cond (.t 13) (.drw [oP 14 (.load true 2 (.t 2)) [],oP 15 (.call 43 [.t 14]) [0],oP 16 (.load true 2 (.t 3)) [],oP 17 (.call 43 [.t 16]) [2,1],oN (.store 2 (.t 2) (.t 15)) [1,3,0,1],oN (.store 2 (.t 3) (.t 17)) [3,4,0,1,2,3,4]] [(2,1)]) .skip)) (.seq (.reg [oP 18 (.load true 2 (.t 2)) [],oP 19 (.load true 2 (.t 3)) [],oP 20 (.call 18 [.t 18,.t 19]) [0,1],oP 6 (.new [.b false,.sn]) [],oN (.store 2 (.t 6) (.t 20)) [3,2,2,0,1,2,3]]) (.seq (.drw [oP 21 (.load true 2 (.t 2)) [],oP 22 (.load true 2 (.t 6)) [],oP 23 (.call 21 [.t 21,.t 22]) [0,1],oP 24 (.load true 2 (.t 3)) [],oP 25 (.load true 2 (.t 6)) [],oP 26 (.call 21 [.t 24,.t 25]) [3,4,2],oP 27 (.call 22 [.t 23,.t 26,.k (.i .i64 0),.k (.i .i64 0)]) [2,5,5],oP 28 (.ext (.t 27) 0) [6],oP 29 (.ext (.t 27) 1) [6],oN (.store 4 (.t 4) (.t 28)) [7,6,0,1,2,3,4,5,6,7,8],oM 5 29 [8,9,0,1,2,3,4,5,6,7,8,9]] [(3,2),(4,2)]) .ret)))),[.cell 4 true 4,.tmp 5]⟩
def x__skymosaic_wide_Int__String_l1 : XC := .seq (.seq (.reg [oM 16 4 [],oP 17 (.len (.t 16)) [0],oP 18 (.bin .gtr (.t 17) (.k (.i .i64 0))) [1]]) (.cond (.t 18) .skip (.exit 0))) (.block 1 (.seq (.reg [oM 20 4 [],oP 21 (.call 48 [.t 20,.k (.i .u32 1000000000)]) [0],oM 19 21 [1],oP 22 (.ext (.t 19) 0) [2],oP 23 (.ext (.t 19) 1) [2],oM 5 22 [3,1,0,1,2,3],oM 6 23 [4,5,0,1,2,3,4,5]]) (.seq (.reg [oM 24 5 [],oP 25 (.call 49 [.t 24]) [0],oM 4 25 [1,1,0,1]]) (.seq (.reg [oM 26 6 [],oP 27 (.cint .i64 (.t 26)) [0],oP 28 (.call 50 [.t 27]) [1],oM 7 28 [2,2,0,1,2]]) (.seq (.seq (.reg [oM 29 4 [],oP 30 (.len (.t 29)) [0],oP 31 (.bin .gtr (.t 30) (.k (.i .i64 0))) [1]]) (.cond (.t 31) (.reg [oM 32 7 [],oP 33 (.lens (.t 32)) [0],oP 34 (.bin .sub (.k (.i .i64 9)) (.t 33)) [1],oP 35 (.call 51 [.k (.s [48]),.t 34]) [2],oM 36 7 [],oP 37 (.bin .add (.t 35) (.t 36)) [3,4],oM 7 37 [5,3,0,1,2,3,4,5]]) .skip)) (.reg [oM 38 3 [],oM 39 7 [],oP 40 (.bsl 1 1 [.s []] [(0,(1,.t 39))]) [1],oP 41 (.app 1 16 (.t 38) (.t 40)) [0,2],oM 3 41 [3,3,0,1,2,3]]))))))
def x__skymosaic_wide_Int__String_l2 : XC := .seq (.seq (.reg [oM 48 9 [],oP 49 (.bin .geq (.t 48) (.k (.i .i64 0))) [0]]) (.cond (.t 49) .skip (.exit 2))) (.seq (.block 3 (.reg [oM 52 3 [],oM 53 9 [],oP 54 (.ixs 1 (.t 52) (.t 53)) [0,1],oP 55 (.load false 1 (.t 54)) [2],oP 56 (.call 53 [.t 8,.t 55]) [3]])) (.reg [oM 50 9 [],oP 51 (.bin .sub (.t 50) (.k (.i .i64 1))) [0],oM 9 51 [1,0,1]]))
def x__skymosaic_wide_Int__String : XF := ⟨58,.seq (.reg [oP 1 (.box (.t 0)) [],oP 2 (.mov (.k (.s []))) []]) (.seq (.seq (.reg [oP 10 (.fad 1 (.t 1)) [],oP 11 (.load false 1 (.t 10)) [0],oP 12 (.len (.t 11)) [1],oP 13 (.bin .eql (.t 12) (.k (.i .i64 0))) [2]]) (.cond (.t 13) (.seq (.reg [oP 2 (.mov (.k (.s [48]))) []]) .ret) .skip)) (.seq (.reg [oP 3 (.mov (.k .sn)) []]) (.seq (.reg [oP 14 (.fad 1 (.t 1)) [],oP 15 (.load false 1 (.t 14)) [0],oM 4 15 [1,0,1]]) (.seq (.block 0 (.loop x__skymosaic_wide_Int__String_l1)) (.seq (.reg [oP 8 (.new [.pn,.sn]) []]) (.seq (.seq (.reg [oP 42 (.fad 0 (.t 1)) [],oP 43 (.load false 1 (.t 42)) [0]]) (.cond (.t 43) (.reg [oP 44 (.call 52 [.t 8,.k (.i .u8 45)]) []]) .skip)) (.seq (.seq (.reg [oM 45 3 [],oP 46 (.len (.t 45)) [0],oP 47 (.bin .sub (.t 46) (.k (.i .i64 1))) [1],oM 9 47 [2,0,1,2]]) (.block 2 (.loop x__skymosaic_wide_Int__String_l2))) (.seq (.reg [oP 57 (.call 54 [.t 8]) [],oM 2 57 [0,0,0]]) .ret)))))))),[.tmp 2]⟩
def x_proj_basis_1 : XF := ⟨22,.seq (.reg [oP 3 (.box (.t 0)) [],oP 4 (.box (.t 1)) [],oP 5 (.box (.t 2)) [],oP 6 (.new [.b false,.sn,.b false,.sn,.b false,.sn,.b false,.sn,.b false,.sn,.b false,.sn,.b false,.sn,.b false,.sn,.b false,.sn]) []]) (.seq (.reg [oP 7 (.fad 0 (.t 3)) [],oP 8 (.load false 1 (.t 7)) [0],oP 9 (.fad 0 (.t 4)) [],oP 10 (.load false 1 (.t 9)) [2],oP 11 (.fad 0 (.t 5)) [],oP 12 (.load false 1 (.t 11)) [4],oP 13 (.fad 1 (.t 3)) [],oP 14 (.load false 1 (.t 13)) [6],oP 15 (.fad 1 (.t 4)) [],oP 16 (.load false 1 (.t 15)) [8],oP 17 (.fad 1 (.t 5)) [],oP 18 (.load false 1 (.t 17)) [10],oP 19 (.build [.i .i64 0,.i .i64 0,.i .i64 0,.i .i64 0,.i .i64 0,.i .i64 0,.i .i64 0,.i .i64 0,.i .i64 0] [(0,(1,.t 8)),(1,(1,.t 10)),(2,(1,.t 12)),(3,(1,.t 14)),(4,(1,.t 16)),(5,(1,.t 18)),(6,(1,.k (.i .i64 1))),(7,(1,.k (.i .i64 1))),(8,(1,.k (.i .i64 1)))]) [1,3,5,7,9,11],oP 20 (.build [.i .i64 0,.i .i64 0,.i .i64 0,.i .i64 0,.i .i64 0,.i .i64 0,.i .i64 0,.i .i64 0,.i .i64 0] [(0,(9,.t 19))]) [12],oP 21 (.call 307 [.t 20]) [13],oN (.store 18 (.t 6) (.t 21)) [14,14,0,1,2,3,4,5,6,7,8,9,10,11,12,13,14]]) .ret),[.cell 6 true 18]⟩
def x_proj_times : XF := ⟨14,.seq (.reg [oP 2 (.box (.t 0)) [],oP 3 (.box (.t 1)) [],oP 4 (.new [.b false,.sn]) []]) (.seq (.reg [oP 8 (.load true 2 (.t 2)) [],oP 9 (.load true 2 (.t 3)) [],oP 10 (.call 38 [.t 8,.t 9]) [0,1],oM 7 10 [2],oP 11 (.ext (.t 7) 0) [3],oP 12 (.ext (.t 7) 1) [3],oP 5 (.new [.b false,.sn]) [],oN (.store 2 (.t 5) (.t 11)) [6,4,2,0,1,2,3,4,6],oM 6 12 [5,7,0,1,2,3,4,5,6,7]]) (.seq (.reg [oP 13 (.load true 2 (.t 5)) [],oN (.store 2 (.t 4) (.t 13)) [0,0]]) .ret)),[.cell 4 true 2]⟩
def x_wide_Gcd_l1 : XC := .seq (.seq (.reg [oM 15 6 [],oP 16 (.len (.t 15)) [0],oP 17 (.bin .gtr (.t 16) (.k (.i .i64 0))) [1]]) (.cond (.t 17) .skip (.exit 0))) (.block 1 (.seq (.reg [oM 19 5 [],oM 20 6 [],oP 21 (.call 35 [.t 19,.t 20]) [0,1],oM 18 21 [2],oP 22 (.ext (.t 18) 0) [3],oP 23 (.ext (.t 18) 1) [3],oM 7 22 [4,2,0,1,2,3,4],oM 8 23 [5,6,0,1,2,3,4,5,6]]) (.reg [oM 24 6 [],oM 25 8 [],oM 5 24 [0,0],oM 6 25 [1,2,0,1,2]])))
def x_wide_Gcd : XF := ⟨32,.seq (.reg [oP 2 (.box (.t 0)) [],oP 3 (.box (.t 1)) [],oP 4 (.new [.b false,.sn]) []]) (.seq (.drw [oP 11 (.fad 1 (.t 2)) [],oP 12 (.load false 1 (.t 11)) [0],oP 13 (.fad 1 (.t 3)) [],oP 14 (.load false 1 (.t 13)) [2],oM 5 12 [1,0,1],oM 6 14 [3,4,0,1,2,3,4]] []) (.seq (.block 0 (.loop x_wide_Gcd_l1)) (.seq (.reg [oM 27 5 [],oP 28 (.call 36 [.k (.b false),.t 27]) [0],oM 26 28 [1],oP 29 (.ext (.t 26) 0) [2],oP 30 (.ext (.t 26) 1) [2],oP 9 (.new [.b false,.sn]) [],oN (.store 2 (.t 9) (.t 29)) [5,3,1,0,1,2,3,5],oM 10 30 [4,6,0,1,2,3,4,5,6]]) (.seq (.reg [oP 31 (.load true 2 (.t 9)) [],oN (.store 2 (.t 4) (.t 31)) [0,0]]) .ret)))),[.cell 4 true 2]⟩
def x__skymosaic_wide_Int__Small_l1 : XC := .seq (.reg [oP 12 (.bin .lss (.t 11) (.t 10)) []]) (.seq (.cond (.t 12) .skip (.exit 0)) (.seq (.block 1 (.seq (.reg [oM 13 11 [],oP 14 (.ixs 1 (.t 9) (.t 11)) [],oP 15 (.load false 1 (.t 14)) [1],oM 5 13 [0,0,1,2],oM 6 15 [2,3,0,1,2,3]]) (.seq (.seq (.reg [oM 16 5 [],oP 17 (.bin .gtr (.t 16) (.k (.i .i64 1))) [0]]) (.cond (.t 17) (.seq (.reg [oP 2 (.mov (.k (.i .i64 0))) [],oP 3 (.mov (.k (.b false))) [0,0]]) .ret) .skip)) (.reg [oM 18 4 [],oM 19 6 [],oP 20 (.cint .u64 (.t 19)) [1],oM 21 5 [],oP 22 (.bin .mul (.k (.i .i64 32)) (.t 21)) [3],oP 23 (.bin .shl (.t 20) (.t 22)) [2,4],oP 24 (.bin .or (.t 18) (.t 23)) [0,5],oM 4 24 [6,0,1,2,3,4,5,6]])))) (.reg [oP 25 (.bin .add (.t 11) (.k (.i .i64 1))) [],oM 11 25 [0]])))
def x__skymosaic_wide_Int__Small : XF := ⟨42,.seq (.reg [oP 1 (.box (.t 0)) [],oP 2 (.mov (.k (.i .i64 0))) [],oP 3 (.mov (.k (.b false))) [1]]) (.seq (.reg [oP 4 (.mov (.k (.i .u64 0))) []]) (.seq (.seq (.reg [oP 8 (.fad 1 (.t 1)) [],oP 9 (.load false 1 (.t 8)) [0],oP 10 (.len (.t 9)) [1],oP 11 (.mov (.k (.i .i64 0))) []]) (.block 0 (.loop x__skymosaic_wide_Int__Small_l1))) (.seq (.reg [oM 26 4 [],oP 27 (.cint .i64 (.t 26)) [0],oM 7 27 [1,0,1]]) (.seq (.seq (.reg [oP 28 (.fad 0 (.t 1)) [],oP 29 (.load false 1 (.t 28)) [0]]) (.cond (.t 29) (.reg [oM 30 7 [],oP 31 (.un .neg (.t 30)) [0],oM 7 31 [1,0,1]]) .skip)) (.seq (.seq (.reg [oM 32 4 [],oP 33 (.bin .neq (.t 32) (.k (.i .u64 0))) [0],oM 34 33 [1],oT 35 (.mov (.t 7)) [2] 34,oT 36 (.bin .lss (.t 35) (.k (.i .i64 0))) [3,2] 34,oT 37 (.fad 0 (.t 1)) [2] 34,oT 38 (.load false 1 (.t 37)) [5,2] 34,oT 39 (.eqt true 0 (.t 36) (.t 38)) [4,6,2] 34,oP 40 (.pick (.t 34) (.t 39) (.k (.b false))) [2,7]]) (.cond (.t 40) (.seq (.reg [oP 2 (.mov (.k (.i .i64 0))) [],oP 3 (.mov (.k (.b false))) [0,0]]) .ret) .skip)) (.seq (.reg [oM 41 7 [],oM 2 41 [0,0],oP 3 (.mov (.k (.b true))) [1,0,1]]) .ret)))))),[.tmp 2,.tmp 3]⟩
def x_proj_plus : XF := ⟨14,.seq (.reg [oP 2 (.box (.t 0)) [],oP 3 (.box (.t 1)) [],oP 4 (.new [.b false,.sn]) []]) (.seq (.reg [oP 8 (.load true 2 (.t 2)) [],oP 9 (.load true 2 (.t 3)) [],oP 10 (.call 23 [.t 8,.t 9]) [0,1],oM 7 10 [2],oP 11 (.ext (.t 7) 0) [3],oP 12 (.ext (.t 7) 1) [3],oP 5 (.new [.b false,.sn]) [],oN (.store 2 (.t 5) (.t 11)) [6,4,2,0,1,2,3,4,6],oM 6 12 [5,7,0,1,2,3,4,5,6,7]]) (.seq (.reg [oP 13 (.load true 2 (.t 5)) [],oN (.store 2 (.t 4) (.t 13)) [0,0]]) .ret)),[.cell 4 true 2]⟩
def x_proj_adjoint_1 : XF := ⟨49,.seq (.reg [oP 5 (.new [.b false,.sn]) []]) (.seq (.reg [oM 10 0 [],oP 11 (.bin .add (.t 10) (.k (.i .i64 1))) [0],oP 12 (.bin .rem (.t 11) (.k (.i .i64 3))) [1],oM 13 0 [],oP 14 (.bin .add (.t 13) (.k (.i .i64 2))) [3],oP 15 (.bin .rem (.t 14) (.k (.i .i64 3))) [4],oM 6 12 [2,0,1,2],oM 7 15 [5,6,0,1,2,3,4,5,6]]) (.seq (.reg [oM 16 1 [],oP 17 (.bin .add (.t 16) (.k (.i .i64 1))) [0],oP 18 (.bin .rem (.t 17) (.k (.i .i64 3))) [1],oM 19 1 [],oP 20 (.bin .add (.t 19) (.k (.i .i64 2))) [3],oP 21 (.bin .rem (.t 20) (.k (.i .i64 3))) [4],oM 8 18 [2,0,1,2],oM 9 21 [5,6,0,1,2,3,4,5,6]]) (.seq (.drw [oM 22 6 [],oP 23 (.bin .mul (.k (.i .i64 3)) (.t 22)) [0],oM 24 8 [],oP 25 (.bin .add (.t 23) (.t 24)) [1,2],oP 26 (.ixa 9 2 (.t 2) (.t 25)) [3],oP 27 (.load true 2 (.t 26)) [4],oM 28 7 [],oP 29 (.bin .mul (.k (.i .i64 3)) (.t 28)) [6],oM 30 9 [],oP 31 (.bin .add (.t 29) (.t 30)) [7,8],oP 32 (.ixa 9 2 (.t 2) (.t 31)) [9],oP 33 (.load true 2 (.t 32)) [10],oP 34 (.call 313 [.t 27,.t 33]) [5,11],oM 35 6 [],oP 36 (.bin .mul (.k (.i .i64 3)) (.t 35)) [13],oM 37 9 [],oP 38 (.bin .add (.t 36) (.t 37)) [14,15],oP 39 (.ixa 9 2 (.t 2) (.t 38)) [16],oP 40 (.load true 2 (.t 39)) [17],oM 41 7 [],oP 42 (.bin .mul (.k (.i .i64 3)) (.t 41)) [19],oM 43 8 [],oP 44 (.bin .add (.t 42) (.t 43)) [20,21],oP 45 (.ixa 9 2 (.t 2) (.t 44)) [22],oP 46 (.load true 2 (.t 45)) [23],oP 47 (.call 313 [.t 40,.t 46]) [18,24,12],oP 48 (.call 319 [.t 34,.t 47]) [12,25,25],oN (.store 2 (.t 5) (.t 48)) [26,26,0,1,2,3,4,5,6,7,8,9,10,11,12,13,14,15,16,17,18,19,20,21,22,23,24,25,26]] [(18,12),(24,12)]) .ret))),[.cell 5 true 2]⟩
def x_proj_minus : XF := ⟨14,.seq (.reg [oP 2 (.box (.t 0)) [],oP 3 (.box (.t 1)) [],oP 4 (.new [.b false,.sn]) []]) (.seq (.reg [oP 8 (.load true 2 (.t 2)) [],oP 9 (.load true 2 (.t 3)) [],oP 10 (.call 39 [.t 8,.t 9]) [0,1],oM 7 10 [2],oP 11 (.ext (.t 7) 0) [3],oP 12 (.ext (.t 7) 1) [3],oP 5 (.new [.b false,.sn]) [],oN (.store 2 (.t 5) (.t 11)) [6,4,2,0,1,2,3,4,6],oM 6 12 [5,7,0,1,2,3,4,5,6,7]]) (.seq (.reg [oP 13 (.load true 2 (.t 5)) [],oN (.store 2 (.t 4) (.t 13)) [0,0]]) .ret)),[.cell 4 true 2]⟩
def x_r03_Small_l1 : XC := .seq (.seq (.reg [oM 20 5 [],oP 21 (.bin .geq (.t 20) (.k (.i .i64 0))) [0]]) (.cond (.t 21) .skip (.exit 0))) (.seq (.block 1 (.seq (.reg [oP 24 (.fad 0 (.t 1)) [],oP 25 (.load false 1 (.t 24)) [0]]) (.cond (.t 25) (.reg [oM 26 4 [],oP 27 (.bin .mul (.t 26) (.k (.i .i64 10000))) [0],oP 28 (.fad 1 (.t 1)) [],oP 29 (.load false 1 (.t 28)) [2],oM 30 5 [],oP 31 (.ixs 1 (.t 29) (.t 30)) [3,4],oP 32 (.load false 1 (.t 31)) [5],oP 33 (.bin .sub (.t 27) (.t 32)) [1,6],oM 4 33 [7,0,1,2,3,4,5,6,7]]) (.reg [oM 34 4 [],oP 35 (.bin .mul (.t 34) (.k (.i .i64 10000))) [0],oP 36 (.fad 1 (.t 1)) [],oP 37 (.load false 1 (.t 36)) [2],oM 38 5 [],oP 39 (.ixs 1 (.t 37) (.t 38)) [3,4],oP 40 (.load false 1 (.t 39)) [5],oP 41 (.bin .add (.t 35) (.t 40)) [1,6],oM 4 41 [7,0,1,2,3,4,5,6,7]])))) (.reg [oM 22 5 [],oP 23 (.bin .sub (.t 22) (.k (.i .i64 1))) [0],oM 5 23 [1,0,1]]))
def x_r03_Small : XF := ⟨43,.seq (.reg [oP 1 (.box (.t 0)) [],oP 2 (.mov (.k (.i .i64 0))) [],oP 3 (.mov (.k (.b false))) [1]]) (.seq (.seq (.drw [oP 6 (.load true 2 (.t 1)) [],oP 7 (.call 114 [.k (.i .i64 9223372036854775807)]) [],oP 8 (.call 124 [.t 6,.t 7]) [0,1,1],oP 9 (.bin .gtr (.t 8) (.k (.i .i64 0))) [2],oM 10 9 [3,2],oF 11 (.load true 2 (.t 1)) [4] 10,oF 12 (.call 114 [.k (.i .i64 (-9223372036854775808))]) [4,4] 10,oF 13 (.call 124 [.t 11,.t 12]) [5,6,6,4] 10,oF 14 (.bin .lss (.t 13) (.k (.i .i64 0))) [7,4] 10,oP 15 (.pick (.t 10) (.k (.b true)) (.t 14)) [4,8]] [(0,1),(5,6)]) (.cond (.t 15) (.seq (.reg [oP 2 (.mov (.k (.i .i64 0))) [],oP 3 (.mov (.k (.b false))) [0,0]]) .ret) .skip)) (.seq (.reg [oP 4 (.mov (.k (.i .i64 0))) []]) (.seq (.seq (.reg [oP 16 (.fad 1 (.t 1)) [],oP 17 (.load false 1 (.t 16)) [0],oP 18 (.len (.t 17)) [1],oP 19 (.bin .sub (.t 18) (.k (.i .i64 1))) [2],oM 5 19 [3,0,1,2,3]]) (.block 0 (.loop x_r03_Small_l1))) (.seq (.reg [oM 42 4 [],oM 2 42 [0,0],oP 3 (.mov (.k (.b true))) [1,0,1]]) .ret)))),[.tmp 2,.tmp 3]⟩
def x_poly_digits_l1 : XC := .seq (.seq (.reg [oM 22 4 [],oP 23 (.bin .gtr (.t 22) (.k (.i .i64 0))) [0]]) (.cond (.t 23) .skip (.exit 0))) (.seq (.block 1 (.reg [oM 26 3 [],oP 27 (.bin .add (.t 26) (.k (.i .i64 1))) [0],oM 3 27 [1,0,1]])) (.reg [oM 24 4 [],oP 25 (.bin .quo (.t 24) (.k (.i .i64 2))) [0],oM 4 25 [1,0,1]]))
def x_poly_digits_l2 : XC := .seq (.seq (.reg [oP 30 (.load true 2 (.t 1)) [],oP 31 (.load true 2 (.t 7)) [],oP 32 (.call 30 [.t 30,.t 31]) [0,1],oP 33 (.bin .geq (.t 32) (.k (.i .i64 0))) [2]]) (.cond (.t 33) .skip (.exit 2))) (.seq (.block 3 (.seq (.reg [oM 34 6 [],oP 35 (.load true 2 (.t 7)) [],oP 36 (.bsl 1 2 [.b false,.sn] [(0,(2,.t 35))]) [1],oP 37 (.app 2 32 (.t 34) (.t 36)) [0,2],oM 6 37 [3,3,0,1,2,3]]) (.seq (.reg [oP 39 (.load true 2 (.t 7)) [],oP 40 (.load true 2 (.t 7)) [],oP 41 (.call 38 [.t 39,.t 40]) [0,1],oM 38 41 [2],oP 42 (.ext (.t 38) 0) [3],oP 43 (.ext (.t 38) 1) [3],oP 8 (.new [.b false,.sn]) [],oN (.store 2 (.t 8) (.t 42)) [6,4,2,0,1,2,3,4,6],oM 9 43 [5,7,0,1,2,3,4,5,6,7]]) (.seq (.seq (.reg [oM 44 9 [],oP 45 (.bin .neq (.t 44) (.k (.i .i64 0))) [0]]) (.cond (.t 45) (.exit 2) .skip)) (.reg [oP 46 (.load true 2 (.t 8)) [],oN (.store 2 (.t 7) (.t 46)) [0,0]]))))) (.seq (.reg [oP 47 (.load true 2 (.t 7)) []]) (.reg [oP 7 (.new [.b false,.sn]) [],oN (.store 2 (.t 7) (.t 47)) [0,0]])))
def x_poly_digits_l3 : XC := .seq (.seq (.reg [oM 51 10 [],oP 52 (.bin .geq (.t 51) (.k (.i .i64 0))) [0]]) (.cond (.t 52) .skip (.exit 4))) (.seq (.block 5 (.seq (.drw [oP 55 (.load true 2 (.t 1)) [],oM 56 6 [],oM 57 10 [],oP 58 (.ixs 2 (.t 56) (.t 57)) [1,2],oP 59 (.load true 2 (.t 58)) [3],oP 60 (.call 30 [.t 55,.t 59]) [0,4],oP 61 (.bin .geq (.t 60) (.k (.i .i64 0))) [5]] []) (.cond (.t 61) (.seq (.drw [oP 63 (.load true 2 (.t 1)) [],oM 64 6 [],oM 65 10 [],oP 66 (.ixs 2 (.t 64) (.t 65)) [1,2],oP 67 (.load true 2 (.t 66)) [3],oP 68 (.call 29 [.t 63,.t 67]) [0,4],oM 62 68 [5],oP 69 (.ext (.t 62) 0) [6],oP 70 (.ext (.t 62) 1) [6],oP 71 (.ext (.t 62) 2) [6],oN (.store 2 (.t 1) (.t 69)) [7,5,0,1,2,3,4,5,6,7]] []) (.reg [oM 72 3 [],oM 73 10 [],oP 74 (.bin .shl (.k (.i .i64 1)) (.t 73)) [1],oP 75 (.bin .add (.t 72) (.t 74)) [0,2],oM 3 75 [3,0,1,2,3]])) .skip))) (.reg [oM 53 10 [],oP 54 (.bin .sub (.t 53) (.k (.i .i64 1))) [0],oM 10 54 [1,0,1]]))
def x_poly_digits : XF := ⟨80,.seq (.reg [oP 1 (.box (.t 0)) [],oP 2 (.mov (.k (.i .i64 0))) []]) (.seq (.seq (.reg [oP 11 (.load true 2 (.t 1)) [],oP 12 (.call 31 [.t 11]) [0],oP 13 (.bin .lss (.t 12) (.k (.i .i64 0))) [1]]) (.cond (.t 13) (.reg [oP 14 (.load true 2 (.t 1)) [],oP 15 (.call 43 [.t 14]) [0],oN (.store 2 (.t 1) (.t 15)) [1,1,0,1]]) .skip)) (.seq (.reg [oP 3 (.mov (.k (.i .i64 0))) []]) (.seq (.seq (.reg [oP 17 (.load true 2 (.t 1)) [],oP 18 (.call 80 [.t 17]) [0],oM 16 18 [1],oP 19 (.ext (.t 16) 0) [2],oP 20 (.ext (.t 16) 1) [2],oM 4 19 [3,1,0,1,2,3],oM 5 20 [4,5,0,1,2,3,4,5]]) (.seq (.reg [oM 21 5 []]) (.cond (.t 21) (.seq (.block 0 (.loop x_poly_digits_l1)) (.seq (.reg [oM 28 3 [],oM 2 28 [0,0]]) .ret)) .skip))) (.seq (.reg [oP 6 (.mov (.k .sn)) []]) (.seq (.seq (.reg [oP 29 (.call 34 [.k (.i .i64 2)]) [],oP 7 (.new [.b false,.sn]) [],oN (.store 2 (.t 7) (.t 29)) [1,0,0,0,1]]) (.block 2 (.loop x_poly_digits_l2))) (.seq (.seq (.reg [oM 48 6 [],oP 49 (.len (.t 48)) [0],oP 50 (.bin .sub (.t 49) (.k (.i .i64 1))) [1],oM 10 50 [2,0,1,2]]) (.block 4 (.loop x_poly_digits_l3))) (.seq (.reg [oM 76 3 [],oP 77 (.load true 2 (.t 1)) [],oP 78 (.call 31 [.t 77]) [1],oP 79 (.bin .add (.t 76) (.t 78)) [0,2],oM 2 79 [3,2,0,1,2,3]]) .ret))))))),[.tmp 2]⟩
def x__skymosaic_frac_Frac__Num : XF := ⟨5,.seq (.reg [oP 1 (.box (.t 0)) [],oP 2 (.new [.b false,.sn]) []]) (.seq (.reg [oP 3 (.fad 0 (.t 1)) [],oP 4 (.load true 2 (.t 3)) [0],oN (.store 2 (.t 2) (.t 4)) [1,0,1]]) .ret),[.cell 2 true 2]⟩
def x_proj_row_1 : XF := ⟨11,.seq (.reg [oP 2 (.new [.b false,.sn,.b false,.sn]) []]) (.seq (.reg [oM 6 0 [],oP 7 (.call 17 [.t 6,.k (.i .i64 1)]) [0],oM 5 7 [1],oP 8 (.ext (.t 5) 0) [2],oP 9 (.ext (.t 5) 1) [2],oP 3 (.new [.b false,.sn,.b false,.sn]) [],oN (.store 4 (.t 3) (.t 8)) [5,3,1,0,1,2,3,5],oM 4 9 [4,6,0,1,2,3,4,5,6]]) (.seq (.reg [oP 10 (.load true 4 (.t 3)) [],oN (.store 4 (.t 2) (.t 10)) [0,0]]) .ret)),[.cell 2 true 4]⟩
def x_frac_Mul : XF := ⟨55,.seq (.reg [oP 2 (.box (.t 0)) [],oP 3 (.box (.t 1)) [],oP 4 (.new [.b false,.sn,.b false,.sn]) [],oP 5 (.mov (.k (.i .i64 0))) []]) (.seq (.drw [oP 12 (.fad 0 (.t 2)) [],oP 13 (.load true 2 (.t 12)) [0],oP 14 (.load true 4 (.t 3)) [],oP 15 (.call 19 [.t 14]) [2],oP 16 (.call 18 [.t 13,.t 15]) [1,3,3],oP 17 (.fad 0 (.t 3)) [],oP 18 (.load true 2 (.t 17)) [5],oP 19 (.load true 4 (.t 2)) [],oP 20 (.call 19 [.t 19]) [7,4],oP 21 (.call 18 [.t 18,.t 20]) [6,8,8],oP 6 (.new [.b false,.sn]) [],oP 7 (.new [.b false,.sn]) [],oN (.store 2 (.t 6) (.t 16)) [10,4,9,0,1,2,3,4,10,11],oN (.store 2 (.t 7) (.t 21)) [11,9,12,0,1,2,3,4,5,6,7,8,9,10,11,12]] [(1,3),(6,3),(6,4),(7,3),(7,4),(6,8)]) (.seq (.drw [oP 23 (.fad 0 (.t 2)) [],oP 24 (.load true 2 (.t 23)) [0],oP 25 (.load true 2 (.t 6)) [],oP 26 (.call 21 [.t 24,.t 25]) [1,2],oP 27 (.fad 0 (.t 3)) [],oP 28 (.load true 2 (.t 27)) [4],oP 29 (.load true 2 (.t 7)) [],oP 30 (.call 21 [.t 28,.t 29]) [5,6,3],oP 31 (.bsl 2 2 [.b false,.sn] [(0,(2,.t 26)),(2,(2,.t 30))]) [3,7],oP 32 (.call 20 [.t 31]) [8,7],oM 22 32 [9],oP 33 (.ext (.t 22) 0) [10],oP 34 (.ext (.t 22) 1) [10],oP 8 (.new [.b false,.sn]) [],oN (.store 2 (.t 8) (.t 33)) [13,11,9,0,1,2,3,4,5,6,7,8,9,10,11,13],oM 9 34 [12,14,0,1,2,3,4,5,6,7,8,9,10,11,12,13,14]] [(5,3),(6,3)]) (.seq (.drw [oP 36 (.load true 4 (.t 2)) [],oP 37 (.call 19 [.t 36]) [0],oP 38 (.load true 2 (.t 7)) [],oP 39 (.call 21 [.t 37,.t 38]) [1,2,1],oP 40 (.load true 4 (.t 3)) [],oP 41 (.call 19 [.t 40]) [4,3],oP 42 (.load true 2 (.t 6)) [],oP 43 (.call 21 [.t 41,.t 42]) [5,6,5],oP 44 (.bsl 2 2 [.b false,.sn] [(0,(2,.t 39)),(2,(2,.t 43))]) [3,7],oP 45 (.call 20 [.t 44]) [8,7],oM 35 45 [9],oP 46 (.ext (.t 35) 0) [10],oP 47 (.ext (.t 35) 1) [10],oP 10 (.new [.b false,.sn]) [],oN (.store 2 (.t 10) (.t 46)) [13,11,9,0,1,2,3,4,5,6,7,8,9,10,11,13],oM 11 47 [12,14,0,1,2,3,4,5,6,7,8,9,10,11,12,13,14]] [(2,1),(4,1),(4,3),(6,1),(6,3),(6,5)]) (.seq (.reg [oP 48 (.load true 2 (.t 8)) [],oP 49 (.load true 2 (.t 10)) [],oM 50 9 [],oM 51 11 [],oP 52 (.call 22 [.t 48,.t 49,.t 50,.t 51]) [0,1,2,3],oP 53 (.ext (.t 52) 0) [4],oP 54 (.ext (.t 52) 1) [4],oN (.store 4 (.t 4) (.t 53)) [5,4,0,1,2,3,4,5,6],oM 5 54 [6,7,0,1,2,3,4,5,6,7]]) .ret)))),[.cell 4 true 4,.tmp 5]⟩
def x_frac_Add : XF := ⟨79,.seq (.reg [oP 2 (.box (.t 0)) [],oP 3 (.box (.t 1)) [],oP 4 (.new [.b false,.sn,.b false,.sn]) [],oP 5 (.mov (.k (.i .i64 0))) []]) (.seq (.drw [oP 15 (.load true 4 (.t 2)) [],oP 16 (.call 19 [.t 15]) [0],oP 17 (.load true 4 (.t 3)) [],oP 18 (.call 19 [.t 17]) [2,1],oP 19 (.call 18 [.t 16,.t 18]) [1,3,3],oP 6 (.new [.b false,.sn]) [],oN (.store 2 (.t 6) (.t 19)) [5,4,4,0,1,2,3,4,5]] [(2,1)]) (.seq (.drw [oP 21 (.fad 0 (.t 2)) [],oP 22 (.load true 2 (.t 21)) [0],oP 23 (.load true 4 (.t 3)) [],oP 24 (.call 19 [.t 23]) [2],oP 25 (.load true 2 (.t 6)) [],oP 26 (.call 21 [.t 24,.t 25]) [3,4,3],oP 27 (.bsl 2 2 [.b false,.sn] [(0,(2,.t 22)),(2,(2,.t 26))]) [1,5],oP 28 (.call 20 [.t 27]) [6,5],oM 20 28 [7],oP 29 (.ext (.t 20) 0) [8],oP 30 (.ext (.t 20) 1) [8],oP 7 (.new [.b false,.sn]) [],oN (.store 2 (.t 7) (.t 29)) [11,9,7,0,1,2,3,4,5,6,7,8,9,11],oM 8 30 [10,12,0,1,2,3,4,5,6,7,8,9,10,11,12]] [(1,3),(4,3),(1,5)]) (.seq (.drw [oP 32 (.fad 0 (.t 3)) [],oP 33 (.load true 2 (.t 32)) [0],oP 34 (.load true 4 (.t 2)) [],oP 35 (.call 19 [.t 34]) [2],oP 36 (.load true 2 (.t 6)) [],oP 37 (.call 21 [.t 35,.t 36]) [3,4,3],oP 38 (.bsl 2 2 [.b false,.sn] [(0,(2,.t 33)),(2,(2,.t 37))]) [1,5],oP 39 (.call 20 [.t 38]) [6,5],oM 31 39 [7],oP 40 (.ext (.t 31) 0) [8],oP 41 (.ext (.t 31) 1) [8],oP 9 (.new [.b false,.sn]) [],oN (.store 2 (.t 9) (.t 40)) [11,9,7,0,1,2,3,4,5,6,7,8,9,11],oM 10 41 [10,12,0,1,2,3,4,5,6,7,8,9,10,11,12]] [(1,3),(4,3),(1,5)]) (.seq (.reg [oP 43 (.load true 2 (.t 7)) [],oP 44 (.load true 2 (.t 9)) [],oP 45 (.call 23 [.t 43,.t 44]) [0,1],oM 42 45 [2],oP 46 (.ext (.t 42) 0) [3],oP 47 (.ext (.t 42) 1) [3],oP 11 (.new [.b false,.sn]) [],oN (.store 2 (.t 11) (.t 46)) [6,4,2,0,1,2,3,4,6],oM 12 47 [5,7,0,1,2,3,4,5,6,7]]) (.seq (.drw [oP 49 (.load true 4 (.t 2)) [],oP 50 (.call 19 [.t 49]) [0],oP 51 (.load true 2 (.t 6)) [],oP 52 (.call 21 [.t 50,.t 51]) [1,2,1],oP 53 (.load true 4 (.t 3)) [],oP 54 (.call 19 [.t 53]) [4,3],oP 55 (.bsl 2 2 [.b false,.sn] [(0,(2,.t 52)),(2,(2,.t 54))]) [3,5],oP 56 (.call 20 [.t 55]) [6,5],oM 48 56 [7],oP 57 (.ext (.t 48) 0) [8],oP 58 (.ext (.t 48) 1) [8],oP 13 (.new [.b false,.sn]) [],oN (.store 2 (.t 13) (.t 57)) [11,9,7,0,1,2,3,4,5,6,7,8,9,11],oM 14 58 [10,12,0,1,2,3,4,5,6,7,8,9,10,11,12]] [(2,1),(4,1),(4,3)]) (.seq (.seq (.reg [oM 59 8 [],oP 60 (.bin .neq (.t 59) (.k (.i .i64 0))) [0],oM 61 60 [1],oF 62 (.mov (.t 10)) [2] 61,oF 63 (.bin .neq (.t 62) (.k (.i .i64 0))) [3,2] 61,oP 64 (.pick (.t 61) (.k (.b true)) (.t 63)) [2,4],oM 65 64 [5,2],oF 66 (.mov (.t 12)) [6] 65,oF 67 (.bin .neq (.t 66) (.k (.i .i64 0))) [7,6] 65,oP 68 (.pick (.t 65) (.k (.b true)) (.t 67)) [6,8],oM 69 68 [9,6],oF 70 (.mov (.t 14)) [10] 69,oF 71 (.bin .neq (.t 70) (.k (.i .i64 0))) [11,10] 69,oP 72 (.pick (.t 69) (.k (.b true)) (.t 71)) [10,12]]) (.cond (.t 72) (.seq (.reg [oP 73 (.build [.b false,.sn,.b false,.sn] []) [],oN (.store 4 (.t 4) (.t 73)) [0,0],oP 5 (.mov (.k (.i .i64 4))) [1,0,1]]) .ret) .skip)) (.seq (.reg [oP 74 (.load true 2 (.t 11)) [],oP 75 (.load true 2 (.t 13)) [],oP 76 (.call 24 [.t 74,.t 75]) [0,1],oP 77 (.ext (.t 76) 0) [2],oP 78 (.ext (.t 76) 1) [2],oN (.store 4 (.t 4) (.t 77)) [3,2,0,1,2,3,4],oM 5 78 [4,5,0,1,2,3,4,5]]) .ret))))))),[.cell 4 true 4,.tmp 5]⟩
def x_wide_From : XF := ⟨25,.seq (.reg [oP 2 (.new [.b false,.sn]) []]) (.seq (.reg [oM 6 0 [],oP 7 (.cint .u64 (.t 6)) [0],oM 3 7 [1,0,1]]) (.seq (.seq (.reg [oM 8 0 [],oP 9 (.bin .lss (.t 8) (.k (.i .i64 0))) [0]]) (.cond (.t 9) (.reg [oM 10 3 [],oP 11 (.un .neg (.t 10)) [0],oM 3 11 [1,0,1]]) .skip)) (.seq (.reg [oM 13 0 [],oP 14 (.bin .lss (.t 13) (.k (.i .i64 0))) [0],oM 15 3 [],oP 16 (.cint .u32 (.t 15)) [2],oM 17 3 [],oP 18 (.bin .shr (.t 17) (.k (.i .u64 32))) [4],oP 19 (.cint .u32 (.t 18)) [5],oP 20 (.bsl 2 1 [.i .u32 0] [(0,(1,.t 16)),(1,(1,.t 19))]) [3,6],oP 21 (.call 36 [.t 14,.t 20]) [1,7],oM 12 21 [8],oP 22 (.ext (.t 12) 0) [9],oP 23 (.ext (.t 12) 1) [9],oP 4 (.new [.b false,.sn]) [],oN (.store 2 (.t 4) (.t 22)) [12,10,8,0,1,2,3,4,5,6,7,8,9,10,12],oM 5 23 [11,13,0,1,2,3,4,5,6,7,8,9,10,11,12,13]]) (.seq (.reg [oP 24 (.load true 2 (.t 4)) [],oN (.store 2 (.t 2) (.t 24)) [0,0]]) .ret)))),[.cell 2 true 2]⟩
def x_frac_must : XF := ⟨6,.seq (.reg [oP 2 (.box (.t 0)) [],oP 4 (.new [.b false,.sn]) []]) (.seq (.reg [oP 5 (.load true 2 (.t 2)) [],oN (.store 2 (.t 4) (.t 5)) [0,0]]) .ret),[.cell 4 true 2]⟩
def x_wide_Add : XF := ⟨39,.seq (.reg [oP 2 (.box (.t 0)) [],oP 3 (.box (.t 1)) [],oP 4 (.new [.b false,.sn]) [],oP 5 (.mov (.k (.i .i64 0))) []]) (.seq (.seq (.reg [oP 6 (.fad 0 (.t 2)) [],oP 7 (.load false 1 (.t 6)) [0],oP 8 (.fad 0 (.t 3)) [],oP 9 (.load false 1 (.t 8)) [2],oP 10 (.eqt false 0 (.t 7) (.t 9)) [1,3]]) (.cond (.t 10) (.seq (.drw [oP 11 (.fad 0 (.t 2)) [],oP 12 (.load false 1 (.t 11)) [0],oP 13 (.fad 1 (.t 2)) [],oP 14 (.load false 1 (.t 13)) [2],oP 15 (.fad 1 (.t 3)) [],oP 16 (.load false 1 (.t 15)) [4],oP 17 (.call 40 [.t 14,.t 16]) [3,5],oP 18 (.call 36 [.t 12,.t 17]) [1,6,6],oP 19 (.ext (.t 18) 0) [7],oP 20 (.ext (.t 18) 1) [7],oN (.store 2 (.t 4) (.t 19)) [8,7,0,1,2,3,4,5,6,7,8,9],oM 5 20 [9,10,0,1,2,3,4,5,6,7,8,9,10]] [(1,6)]) .ret) .skip)) (.seq (.seq (.reg [oP 21 (.fad 1 (.t 2)) [],oP 22 (.load false 1 (.t 21)) [0],oP 23 (.fad 1 (.t 3)) [],oP 24 (.load false 1 (.t 23)) [2],oP 25 (.call 41 [.t 22,.t 24]) [1,3],oP 26 (.bin .lss (.t 25) (.k (.i .i64 0))) [4]]) (.cond (.t 26) (.reg [oP 27 (.load true 2 (.t 3)) [],oP 28 (.load true 2 (.t 2)) [],oN (.store 2 (.t 2) (.t 27)) [0,0,1],oN (.store 2 (.t 3) (.t 28)) [1,2,0,1,2]]) .skip)) (.seq (.drw [oP 29 (.fad 0 (.t 2)) [],oP 30 (.load false 1 (.t 29)) [0],oP 31 (.fad 1 (.t 2)) [],oP 32 (.load false 1 (.t 31)) [2],oP 33 (.fad 1 (.t 3)) [],oP 34 (.load false 1 (.t 33)) [4],oP 35 (.call 42 [.t 32,.t 34]) [3,5],oP 36 (.call 36 [.t 30,.t 35]) [1,6,6],oP 37 (.ext (.t 36) 0) [7],oP 38 (.ext (.t 36) 1) [7],oN (.store 2 (.t 4) (.t 37)) [8,7,0,1,2,3,4,5,6,7,8,9],oM 5 38 [9,10,0,1,2,3,4,5,6,7,8,9,10]] [(1,6)]) .ret))),[.cell 4 true 2,.tmp 5]⟩
def x_wide_divide_l2 : XC := .seq (.seq (.reg [oM 111 17 [],oP 112 (.bin .shr (.t 111) (.k (.i .u64 32))) [0],oP 113 (.bin .gtr (.t 112) (.k (.i .u64 0))) [1],oM 114 113 [2],oF 115 (.mov (.t 17)) [3] 114,oF 116 (.mov (.t 14)) [3] 114,oF 117 (.bin .mul (.t 115) (.t 116)) [4,5,3] 114,oF 118 (.mov (.t 18)) [3] 114,oF 119 (.bin .shl (.t 118) (.k (.i .u64 32))) [7,3] 114,oF 120 (.mov (.t 9)) [3] 114,oF 121 (.mov (.t 15)) [3] 114,oF 122 (.mov (.t 11)) [3] 114,oF 123 (.bin .add (.t 121) (.t 122)) [10,11,3] 114,oF 124 (.bin .sub (.t 123) (.k (.i .i64 2))) [12,3] 114,oF 125 (.ixs 1 (.t 120) (.t 124)) [9,13,3] 114,oF 126 (.load false 1 (.t 125)) [14,3] 114,oF 127 (.cint .u64 (.t 126)) [15,3] 114,oF 128 (.bin .or (.t 119) (.t 127)) [8,16,3] 114,oF 129 (.bin .gtr (.t 117) (.t 128)) [6,17,3] 114,oP 130 (.pick (.t 114) (.k (.b true)) (.t 129)) [3,18]]) (.cond (.t 130) .skip (.exit 2))) (.block 3 (.seq (.reg [oM 131 17 [],oP 132 (.bin .sub (.t 131) (.k (.i .u64 1))) [0],oM 17 132 [1,0,1]]) (.seq (.reg [oM 133 18 [],oM 134 13 [],oP 135 (.bin .add (.t 133) (.t 134)) [0,1],oM 18 135 [2,0,1,2]]) (.seq (.reg [oM 136 18 [],oP 137 (.bin .shr (.t 136) (.k (.i .u64 32))) [0],oP 138 (.bin .gtr (.t 137) (.k (.i .u64 0))) [1]]) (.cond (.t 138) (.exit 2) .skip)))))
def x_wide_divide_l3 : XC := .seq (.reg [oP 171 (.bin .lss (.t 170) (.t 169)) []]) (.seq (.cond (.t 171) .skip (.exit 4)) (.seq (.block 5 (.seq (.reg [oM 172 170 [],oM 20 172 [0,0]]) (.seq (.reg [oP 21 (.mov (.k (.i .u64 0))) []]) (.seq (.seq (.reg [oM 173 20 [],oM 174 11 [],oP 175 (.bin .lss (.t 173) (.t 174)) [0,1]]) (.cond (.t 175) (.reg [oM 176 10 [],oM 177 20 [],oP 178 (.ixs 1 (.t 176) (.t 177)) [0,1],oP 179 (.load false 1 (.t 178)) [2],oP 180 (.cint .u64 (.t 179)) [3],oM 21 180 [4,0,1,2,3,4]]) .skip)) (.reg [oM 181 9 [],oM 182 15 [],oM 183 20 [],oP 184 (.bin .add (.t 182) (.t 183)) [1,2],oM 185 19 [],oM 186 9 [],oM 187 15 [],oM 188 20 [],oP 189 (.bin .add (.t 187) (.t 188)) [6,7],oP 190 (.ixs 1 (.t 186) (.t 189)) [5,8],oP 191 (.load false 1 (.t 190)) [9],oP 192 (.cint .u64 (.t 191)) [10],oM 193 21 [],oP 194 (.bin .add (.t 192) (.t 193)) [11,12],oP 195 (.callv (.t 185) [.t 194]) [4,13],oP 196 (.ixs 1 (.t 181) (.t 184)) [0,3,0,1,2,3,4,5,6,7,8,9,10,11,12,13,14],oN (.store 1 (.t 196) (.t 195)) [15,14,14,0,1,2,3,4,5,6,7,8,9,10,11,12,13,14]]))))) (.reg [oP 197 (.bin .add (.t 170) (.k (.i .i64 1))) [],oM 170 197 [0]])))
def x_wide_divide_l1 : XC := .seq (.seq (.reg [oM 84 15 [],oP 85 (.bin .geq (.t 84) (.k (.i .i64 0))) [0]]) (.cond (.t 85) .skip (.exit 0))) (.seq (.block 1 (.seq (.drw [oM 88 9 [],oM 89 15 [],oM 90 11 [],oP 91 (.bin .add (.t 89) (.t 90)) [1,2],oP 92 (.ixs 1 (.t 88) (.t 91)) [0,3],oP 93 (.load false 1 (.t 92)) [4],oP 94 (.cint .u64 (.t 93)) [5],oP 95 (.bin .shl (.t 94) (.k (.i .u64 32))) [6],oM 96 9 [],oM 97 15 [],oM 98 11 [],oP 99 (.bin .add (.t 97) (.t 98)) [9,10],oP 100 (.bin .sub (.t 99) (.k (.i .i64 1))) [11],oP 101 (.ixs 1 (.t 96) (.t 100)) [8,12],oP 102 (.load false 1 (.t 101)) [13],oP 103 (.cint .u64 (.t 102)) [14],oP 104 (.bin .or (.t 95) (.t 103)) [7,15],oM 16 104 [16,0,1,2,3,4,5,6,7,8,9,10,11,12,13,14,15,16]] []) (.seq (.drw [oM 105 16 [],oM 106 13 [],oP 107 (.bin .quo (.t 105) (.t 106)) [0,1],oM 108 16 [],oM 109 13 [],oP 110 (.bin .rem (.t 108) (.t 109)) [3,4],oM 17 107 [2,0,1,2],oM 18 110 [5,6,0,1,2,3,4,5,6]] []) (.seq (.block 2 (.loop x_wide_divide_l2)) (.seq (.reg [oM 139 12 [],oM 140 15 [],oM 141 17 [],oP 142 (.cint .u32 (.t 141)) [2],oP 143 (.ixs 1 (.t 139) (.t 140)) [0,1,0,1,2,3],oN (.store 1 (.t 143) (.t 142)) [4,3,0,1,2,3]]) (.seq (.seq (.reg [oM 144 9 [],oM 145 15 [],oM 146 15 [],oM 147 11 [],oP 148 (.bin .add (.t 146) (.t 147)) [2,3],oP 149 (.bin .add (.t 148) (.k (.i .i64 1))) [4],oP 150 (.slsl 1 (.t 144) (some (.t 145)) (some (.t 149)) none) [0,1,5],oM 151 10 [],oM 152 17 [],oP 153 (.call 57 [.t 150,.t 151,.t 152]) [6,7,8],oP 154 (.un .not (.t 153)) [9]]) (.cond (.t 154) (.exit 1) .skip)) (.seq (.reg [oM 155 12 [],oM 156 15 [],oP 157 (.ixs 1 (.t 155) (.t 156)) [0,1],oP 158 (.load false 1 (.t 157)) [2],oP 159 (.bin .sub (.t 158) (.k (.i .u32 1))) [3],oP 160 (.ixs 1 (.t 155) (.t 156)) [0,1,0,1,2,3,4],oN (.store 1 (.t 160) (.t 159)) [5,4,0,1,2,3,4]]) (.seq (.reg [oP 161 (.call 58 []) [],oM 19 161 [0,0,0]]) (.seq (.reg [oM 162 9 [],oM 163 15 [],oM 164 15 [],oM 165 11 [],oP 166 (.bin .add (.t 164) (.t 165)) [2,3],oP 167 (.bin .add (.t 166) (.k (.i .i64 1))) [4],oP 168 (.slsl 1 (.t 162) (some (.t 163)) (some (.t 167)) none) [0,1,5],oP 169 (.len (.t 168)) [6],oP 170 (.mov (.k (.i .i64 0))) []]) (.block 4 (.loop x_wide_divide_l3))))))))))) (.reg [oM 86 15 [],oP 87 (.bin .sub (.t 86) (.k (.i .i64 1))) [0],oM 15 87 [1,0,1]]))
def x_wide_divide_l4 : XC := .seq (.reg [oP 203 (.bin .lss (.t 202) (.t 201)) []]) (.seq (.cond (.t 203) .skip (.exit 6)) (.seq (.block 7 (.seq (.reg [oM 204 202 [],oM 23 204 [0,0]]) (.drw [oM 205 22 [],oM 206 23 [],oM 207 9 [],oM 208 23 [],oP 209 (.bin .add (.t 208) (.k (.i .i64 1))) [3],oP 210 (.ixs 1 (.t 207) (.t 209)) [2,4],oP 211 (.load false 1 (.t 210)) [5],oP 212 (.cint .u64 (.t 211)) [6],oP 213 (.bin .shl (.t 212) (.k (.i .u64 32))) [7],oM 214 9 [],oM 215 23 [],oP 216 (.ixs 1 (.t 214) (.t 215)) [9,10],oP 217 (.load false 1 (.t 216)) [11],oP 218 (.cint .u64 (.t 217)) [12],oP 219 (.bin .or (.t 213) (.t 218)) [8,13],oM 220 8 [],oP 221 (.bin .shr (.t 219) (.t 220)) [14,15],oP 222 (.cint .u32 (.t 221)) [16],oP 223 (.ixs 1 (.t 205) (.t 206)) [0,1,0,1,2,3,4,5,6,7,8,9,10,11,12,13,14,15,16,17],oN (.store 1 (.t 223) (.t 222)) [18,17,0,1,2,3,4,5,6,7,8,9,10,11,12,13,14,15,16,17]] []))) (.reg [oP 224 (.bin .add (.t 202) (.k (.i .i64 1))) [],oM 202 224 [0]])))
def x_wide_divide : XF := ⟨229,.seq (.reg [oP 4 (.mov (.k .sn)) [],oP 5 (.mov (.k .sn)) [0]]) (.scope (.seq (.seq (.reg [oM 24 0 [],oM 25 1 [],oP 26 (.call 41 [.t 24,.t 25]) [0,1],oP 27 (.bin .lss (.t 26) (.k (.i .i64 0))) [2]]) (.cond (.t 27) (.seq (.reg [oM 28 0 [],oP 4 (.mov (.k .sn)) [],oM 5 28 [0,1,0,1]]) .ret) .skip)) (.seq (.seq (.reg [oM 29 1 [],oP 30 (.len (.t 29)) [0],oP 31 (.bin .eql (.t 30) (.k (.i .i64 1))) [1]]) (.cond (.t 31) (.seq (.reg [oM 33 0 [],oM 34 1 [],oP 35 (.ixs 1 (.t 34) (.k (.i .i64 0))) [1],oP 36 (.load false 1 (.t 35)) [2],oP 37 (.call 48 [.t 33,.t 36]) [0,3],oM 32 37 [4],oP 38 (.ext (.t 32) 0) [5],oP 39 (.ext (.t 32) 1) [5],oM 6 38 [6,4,0,1,2,3,4,5,6],oM 7 39 [7,8,0,1,2,3,4,5,6,7,8]]) (.seq (.reg [oM 40 6 [],oP 41 (.call 49 [.t 40]) [0],oM 42 7 [],oP 43 (.bsl 1 1 [.i .u32 0] [(0,(1,.t 42))]) [2],oP 44 (.call 49 [.t 43]) [3,1],oM 4 41 [1,4,0,1],oM 5 44 [4,5,0,1,2,3,4,5]]) .ret)) .skip)) (.seq (.reg [oM 45 1 [],oM 46 1 [],oP 47 (.len (.t 46)) [1],oP 48 (.bin .sub (.t 47) (.k (.i .i64 1))) [2],oP 49 (.ixs 1 (.t 45) (.t 48)) [0,3],oP 50 (.load false 1 (.t 49)) [4],oP 51 (.call 55 [.t 50]) [5],oM 8 51 [6,6,0,1,2,3,4,5,6]]) (.seq (.drw [oM 52 0 [],oM 53 8 [],oP 54 (.call 56 [.t 52,.t 53]) [0,1],oM 55 1 [],oM 56 8 [],oP 57 (.call 56 [.t 55,.t 56]) [3,4,2],oM 58 1 [],oP 59 (.len (.t 58)) [6],oP 60 (.slsl 1 (.t 57) none (some (.t 59)) none) [5,7],oM 9 54 [2,5,0,1,2],oM 10 60 [8,9,0,1,2,3,4,5,6,7,8,9]] []) (.seq (.reg [oM 61 10 [],oP 62 (.len (.t 61)) [0],oM 11 62 [1,0,1]]) (.seq (.reg [oM 63 0 [],oP 64 (.len (.t 63)) [0],oM 65 11 [],oP 66 (.bin .sub (.t 64) (.t 65)) [1,2],oP 67 (.bin .add (.t 66) (.k (.i .i64 1))) [3],oP 68 (.msl [.i .u32 0] 4 (.t 67) (.t 67)) [4,4],oM 12 68 [5,0,1,2,3,4,5]]) (.seq (.drw [oM 69 10 [],oM 70 11 [],oP 71 (.bin .sub (.t 70) (.k (.i .i64 1))) [1],oP 72 (.ixs 1 (.t 69) (.t 71)) [0,2],oP 73 (.load false 1 (.t 72)) [3],oP 74 (.cint .u64 (.t 73)) [4],oM 75 10 [],oM 76 11 [],oP 77 (.bin .sub (.t 76) (.k (.i .i64 2))) [7],oP 78 (.ixs 1 (.t 75) (.t 77)) [6,8],oP 79 (.load false 1 (.t 78)) [9],oP 80 (.cint .u64 (.t 79)) [10],oM 13 74 [5,0,1,2,3,4,5],oM 14 80 [11,12,0,1,2,3,4,5,6,7,8,9,10,11,12]] []) (.seq .skip (.seq (.seq (.reg [oM 81 12 [],oP 82 (.len (.t 81)) [0],oP 83 (.bin .sub (.t 82) (.k (.i .i64 1))) [1],oM 15 83 [2,0,1,2]]) (.block 0 (.loop x_wide_divide_l1))) (.seq (.reg [oM 198 11 [],oP 199 (.msl [.i .u32 0] 4 (.t 198) (.t 198)) [0,0],oM 22 199 [1,0,1]]) (.seq (.seq (.reg [oM 200 22 [],oP 201 (.len (.t 200)) [0],oP 202 (.mov (.k (.i .i64 0))) []]) (.block 6 (.loop x_wide_divide_l4))) (.seq (.reg [oM 225 12 [],oP 226 (.call 49 [.t 225]) [0],oM 227 22 [],oP 228 (.call 49 [.t 227]) [2,1],oM 4 226 [1,3,0,1],oM 5 228 [3,4,0,1,2,3,4]]) .ret))))))))))))),[.tmp 4,.tmp 5]⟩
def x_wide_sum_l1 : XC := .seq (.reg [oP 24 (.bin .lss (.t 23) (.t 22)) []]) (.seq (.cond (.t 24) .skip (.exit 0)) (.seq (.block 1 (.seq (.reg [oM 25 23 [],oM 7 25 [0,0]]) (.seq (.reg [oP 8 (.mov (.k (.i .u64 0))) []]) (.seq (.seq (.reg [oM 26 7 [],oM 27 0 [],oP 28 (.len (.t 27)) [1],oP 29 (.bin .lss (.t 26) (.t 28)) [0,2]]) (.cond (.t 29) (.reg [oM 30 8 [],oM 31 0 [],oM 32 7 [],oP 33 (.ixs 1 (.t 31) (.t 32)) [1,2],oP 34 (.load false 1 (.t 33)) [3],oP 35 (.cint .u64 (.t 34)) [4],oP 36 (.bin .add (.t 30) (.t 35)) [0,5],oM 8 36 [6,0,1,2,3,4,5,6]]) .skip)) (.seq (.seq (.reg [oM 37 7 [],oM 38 1 [],oP 39 (.len (.t 38)) [1],oP 40 (.bin .lss (.t 37) (.t 39)) [0,2]]) (.cond (.t 40) (.reg [oM 41 8 [],oM 42 1 [],oM 43 7 [],oP 44 (.ixs 1 (.t 42) (.t 43)) [1,2],oP 45 (.load false 1 (.t 44)) [3],oP 46 (.cint .u64 (.t 45)) [4],oP 47 (.bin .add (.t 41) (.t 46)) [0,5],oM 8 47 [6,0,1,2,3,4,5,6]]) .skip)) (.reg [oM 48 5 [],oM 49 7 [],oM 50 6 [],oM 51 8 [],oP 52 (.callv (.t 50) [.t 51]) [2,3],oP 53 (.ixs 1 (.t 48) (.t 49)) [0,1,0,1,2,3,4],oN (.store 1 (.t 53) (.t 52)) [5,4,4,0,1,2,3,4]])))))) (.reg [oP 54 (.bin .add (.t 23) (.k (.i .i64 1))) [],oM 23 54 [0]])))
def x_wide_sum : XF := ⟨56,.seq (.reg [oP 4 (.mov (.k .sn)) []]) (.seq (.seq (.reg [oM 9 0 [],oP 10 (.len (.t 9)) [0],oM 11 1 [],oP 12 (.len (.t 11)) [2],oP 13 (.bin .lss (.t 10) (.t 12)) [1,3]]) (.cond (.t 13) (.reg [oM 14 1 [],oM 15 0 [],oM 0 14 [0,0,1],oM 1 15 [1,2,0,1,2]]) .skip)) (.seq (.reg [oM 16 0 [],oP 17 (.len (.t 16)) [0],oP 18 (.bin .add (.t 17) (.k (.i .i64 1))) [1],oP 19 (.msl [.i .u32 0] 4 (.t 18) (.t 18)) [2,2],oM 5 19 [3,0,1,2,3]]) (.seq (.reg [oP 20 (.call 58 []) [],oM 6 20 [0,0,0]]) (.seq (.seq (.reg [oM 21 5 [],oP 22 (.len (.t 21)) [0],oP 23 (.mov (.k (.i .i64 0))) []]) (.block 0 (.loop x_wide_sum_l1))) (.seq (.reg [oM 55 5 [],oM 4 55 [0,0]]) .ret))))),[.tmp 4]⟩
def x_wide_difference : XF := ⟨16,.seq (.reg [oP 4 (.mov (.k .sn)) []]) (.seq (.reg [oM 6 0 [],oP 7 (.len (.t 6)) [0],oP 8 (.msl [.i .u32 0] 4 (.t 7) (.t 7)) [1,1],oM 5 8 [2,0,1,2]]) (.seq (.reg [oM 9 5 [],oM 10 0 [],oP 11 (.cpy 1 (.t 9) (.t 10)) [0,1]]) (.seq (.reg [oM 12 5 [],oM 13 1 [],oP 14 (.call 62 [.t 12,.t 13]) [0,1]]) (.seq (.reg [oM 15 5 [],oM 4 15 [0,0]]) .ret)))),[.tmp 4]⟩
def x_wide_signed : XF := ⟨20,.seq (.reg [oP 4 (.new [.b false,.sn]) [],oP 5 (.mov (.k (.i .i64 0))) []]) (.seq (.reg [oM 6 1 [],oP 7 (.call 49 [.t 6]) [0],oM 1 7 [1,1,0,1]]) (.seq (.seq (.reg [oM 8 1 [],oP 9 (.len (.t 8)) [0],oP 10 (.bin .gtr (.t 9) (.k (.i .i64 512))) [1]]) (.cond (.t 10) (.seq (.reg [oP 11 (.build [.b false,.sn] []) [],oN (.store 2 (.t 4) (.t 11)) [0,0],oP 5 (.mov (.k (.i .i64 4))) [1,0,1]]) .ret) .skip)) (.seq (.reg [oM 12 0 [],oM 13 12 [0],oT 14 (.mov (.t 1)) [1] 13,oT 15 (.len (.t 14)) [2,1] 13,oT 16 (.bin .gtr (.t 15) (.k (.i .i64 0))) [3,1] 13,oP 17 (.pick (.t 13) (.t 16) (.k (.b false))) [1,4],oM 18 1 [],oP 19 (.build [.b false,.sn] [(0,(1,.t 17)),(1,(1,.t 18))]) [5,6],oN (.store 2 (.t 4) (.t 19)) [7,1,0,1,2,3,4,5,6,7],oP 5 (.mov (.k (.i .i64 0))) [8,0,1,2,3,4,5,6,7,8]]) .ret))),[.cell 4 true 2,.tmp 5]⟩
def x_wide_compare_l1 : XC := .seq (.seq (.reg [oM 19 6 [],oP 20 (.bin .geq (.t 19) (.k (.i .i64 0))) [0]]) (.cond (.t 20) .skip (.exit 0))) (.seq (.block 1 (.seq (.drw [oM 23 0 [],oM 24 6 [],oP 25 (.ixs 1 (.t 23) (.t 24)) [0,1],oP 26 (.load false 1 (.t 25)) [2],oM 27 1 [],oM 28 6 [],oP 29 (.ixs 1 (.t 27) (.t 28)) [4,5],oP 30 (.load false 1 (.t 29)) [6],oP 31 (.call 61 [.t 26,.t 30]) [3,7],oM 7 31 [8,8,0,1,2,3,4,5,6,7,8]] []) (.seq (.reg [oM 32 7 [],oP 33 (.bin .neq (.t 32) (.k (.i .i64 0))) [0]]) (.cond (.t 33) (.seq (.reg [oM 34 7 [],oM 4 34 [0,0]]) .ret) .skip)))) (.reg [oM 21 6 [],oP 22 (.bin .sub (.t 21) (.k (.i .i64 1))) [0],oM 6 22 [1,0,1]]))
def x_wide_compare : XF := ⟨35,.seq (.reg [oP 4 (.mov (.k (.i .i64 0))) []]) (.seq (.seq (.reg [oM 8 0 [],oP 9 (.len (.t 8)) [0],oM 10 1 [],oP 11 (.len (.t 10)) [2],oP 12 (.call 60 [.t 9,.t 11]) [1,3],oM 5 12 [4,4,0,1,2,3,4]]) (.seq (.reg [oM 13 5 [],oP 14 (.bin .neq (.t 13) (.k (.i .i64 0))) [0]]) (.cond (.t 14) (.seq (.reg [oM 15 5 [],oM 4 15 [0,0]]) .ret) .skip))) (.seq (.seq (.reg [oM 16 0 [],oP 17 (.len (.t 16)) [0],oP 18 (.bin .sub (.t 17) (.k (.i .i64 1))) [1],oM 6 18 [2,0,1,2]]) (.block 0 (.loop x_wide_compare_l1))) (.seq (.reg [oP 4 (.mov (.k (.i .i64 0))) []]) .ret))),[.tmp 4]⟩
def x_r03_divided_l2 : XC := .seq (.seq (.reg [oM 57 12 [],oM 58 13 [],oP 59 (.bin .lss (.t 57) (.t 58)) [0,1]]) (.cond (.t 59) .skip (.exit 2))) (.block 3 (.seq (.reg [oM 60 12 [],oM 61 13 [],oP 62 (.bin .add (.t 60) (.t 61)) [0,1],oP 63 (.bin .add (.t 62) (.k (.i .i64 1))) [2],oP 64 (.bin .quo (.t 63) (.k (.i .i64 2))) [3],oM 14 64 [4,0,1,2,3,4]]) (.seq (.reg [oM 65 1 [],oM 66 14 [],oP 67 (.call 149 [.t 65,.t 66]) [0,1],oM 68 9 [],oP 69 (.call 134 [.t 67,.t 68]) [2,3,2],oP 70 (.bin .leq (.t 69) (.k (.i .i64 0))) [4]]) (.cond (.t 70) (.reg [oM 71 14 [],oM 12 71 [0,0]]) (.reg [oM 72 14 [],oP 73 (.bin .sub (.t 72) (.k (.i .i64 1))) [0],oM 13 73 [1,0,1]])))))
def x_r03_divided_l1 : XC := .seq (.seq (.reg [oM 37 10 [],oP 38 (.bin .geq (.t 37) (.k (.i .i64 0))) [0]]) (.cond (.t 38) .skip (.exit 0))) (.seq (.block 1 (.seq (.reg [oM 41 0 [],oM 42 10 [],oP 43 (.ixs 1 (.t 41) (.t 42)) [0,1],oP 44 (.load false 1 (.t 43)) [2],oP 45 (.bsl 1 1 [.i .i64 0] [(0,(1,.t 44))]) [3],oM 46 9 [],oP 47 (.app 1 8 (.t 45) (.t 46)) [4,5],oP 48 (.call 132 [.k (.b false),.t 47]) [6,6],oP 11 (.new [.b false,.sn]) [],oN (.store 2 (.t 11) (.t 48)) [8,7,7,0,1,2,3,4,5,6,7,8]]) (.seq (.reg [oP 49 (.fad 1 (.t 11)) [],oP 50 (.load false 1 (.t 49)) [0],oM 9 50 [1,0,1]]) (.seq (.reg [oM 52 9 [],oM 53 1 [],oP 54 (.call 148 [.t 52,.t 53]) [0,1],oM 51 54 [2],oP 55 (.ext (.t 51) 0) [3],oP 56 (.ext (.t 51) 1) [3],oM 12 55 [4,2,0,1,2,3,4],oM 13 56 [5,6,0,1,2,3,4,5,6]]) (.seq (.block 2 (.loop x_r03_divided_l2)) (.seq (.reg [oM 74 9 [],oM 75 1 [],oM 76 12 [],oP 77 (.call 149 [.t 75,.t 76]) [1,2],oP 78 (.call 135 [.t 74,.t 77]) [0,3,3],oP 79 (.call 132 [.k (.b false),.t 78]) [4,4],oP 15 (.new [.b false,.sn]) [],oN (.store 2 (.t 15) (.t 79)) [6,5,5,0,1,2,3,4,5,6]]) (.seq (.reg [oM 80 6 [],oM 81 10 [],oM 82 12 [],oP 83 (.ixs 1 (.t 80) (.t 81)) [0,1,0,1,2],oN (.store 1 (.t 83) (.t 82)) [3,2,0,1,2]]) (.reg [oP 84 (.fad 1 (.t 15)) [],oP 85 (.load false 1 (.t 84)) [0],oM 9 85 [1,0,1]])))))))) (.reg [oM 39 10 [],oP 40 (.bin .sub (.t 39) (.k (.i .i64 1))) [0],oM 10 40 [1,0,1]]))
def x_r03_divided : XF := ⟨88,.seq (.reg [oP 4 (.mov (.k .sn)) [],oP 5 (.mov (.k .sn)) [0]]) (.seq (.reg [oM 16 0 [],oP 17 (.len (.t 16)) [0],oP 18 (.msl [.i .i64 0] 8 (.t 17) (.t 17)) [1,1],oM 6 18 [2,0,1,2]]) (.seq (.reg [oM 19 0 [],oP 20 (.len (.t 19)) [0],oM 21 0 [],oP 22 (.len (.t 21)) [2],oM 23 1 [],oP 24 (.len (.t 23)) [4],oP 25 (.bin .sub (.t 22) (.t 24)) [3,5],oP 26 (.bin .add (.t 25) (.k (.i .i64 1))) [6],oP 27 (.mm false (.t 20) [.t 26]) [1,7],oP 28 (.mm true (.k (.i .i64 0)) [.t 27]) [8],oM 7 28 [9,0,1,2,3,4,5,6,7,8,9]]) (.seq (.reg [oM 29 0 [],oM 30 7 [],oP 31 (.slsl 1 (.t 29) (some (.t 30)) none none) [0,1],oP 32 (.call 132 [.k (.b false),.t 31]) [2],oP 8 (.new [.b false,.sn]) [],oN (.store 2 (.t 8) (.t 32)) [4,3,3,0,1,2,3,4]]) (.seq (.reg [oP 33 (.fad 1 (.t 8)) [],oP 34 (.load false 1 (.t 33)) [0],oM 9 34 [1,0,1]]) (.seq (.seq (.reg [oM 35 7 [],oP 36 (.bin .sub (.t 35) (.k (.i .i64 1))) [0],oM 10 36 [1,0,1]]) (.block 0 (.loop x_r03_divided_l1))) (.seq (.reg [oM 86 6 [],oM 87 9 [],oM 4 86 [0,0],oM 5 87 [1,2,0,1,2]]) .ret)))))),[.tmp 4,.tmp 5]⟩
def x_r03_at : XF := ⟨13,.seq (.reg [oP 4 (.mov (.k (.i .i64 0))) []]) (.seq (.seq (.reg [oM 5 1 [],oM 6 0 [],oP 7 (.len (.t 6)) [1],oP 8 (.bin .lss (.t 5) (.t 7)) [0,2]]) (.cond (.t 8) (.seq (.reg [oM 9 0 [],oM 10 1 [],oP 11 (.ixs 1 (.t 9) (.t 10)) [0,1],oP 12 (.load false 1 (.t 11)) [2],oM 4 12 [3,0,1,2,3]]) .ret) .skip)) (.seq (.reg [oP 4 (.mov (.k (.i .i64 0))) []]) .ret)),[.tmp 4]⟩
def x_r03_Sub : XF := ⟨9,.seq (.reg [oP 2 (.box (.t 0)) [],oP 3 (.box (.t 1)) [],oP 4 (.new [.b false,.sn]) []]) (.seq (.drw [oP 5 (.load true 2 (.t 2)) [],oP 6 (.load true 2 (.t 3)) [],oP 7 (.call 123 [.t 6]) [1],oP 8 (.call 119 [.t 5,.t 7]) [0,2,2],oN (.store 2 (.t 4) (.t 8)) [3,3,0,1,2,3]] [(0,2)]) .ret),[.cell 4 true 2]⟩
def x_wide_normal_l1 : XC := .seq (.seq (.reg [oM 3 0 [],oP 4 (.len (.t 3)) [0],oP 5 (.bin .gtr (.t 4) (.k (.i .i64 0))) [1],oM 6 5 [2],oT 7 (.mov (.t 0)) [3] 6,oT 8 (.mov (.t 0)) [3] 6,oT 9 (.len (.t 8)) [5,3] 6,oT 10 (.bin .sub (.t 9) (.k (.i .i64 1))) [6,3] 6,oT 11 (.ixs 1 (.t 7) (.t 10)) [4,7,3] 6,oT 12 (.load false 1 (.t 11)) [8,3] 6,oT 13 (.bin .eql (.t 12) (.k (.i .u32 0))) [9,3] 6,oP 14 (.pick (.t 6) (.t 13) (.k (.b false))) [3,10]]) (.cond (.t 14) .skip (.exit 0))) (.block 1 (.reg [oM 15 0 [],oM 16 0 [],oP 17 (.len (.t 16)) [1],oP 18 (.bin .sub (.t 17) (.k (.i .i64 1))) [2],oP 19 (.slsl 1 (.t 15) none (some (.t 18)) none) [0,3],oM 0 19 [4,0,1,2,3,4]]))
def x_wide_normal : XF := ⟨21,.seq (.reg [oP 2 (.mov (.k .sn)) []]) (.seq (.block 0 (.loop x_wide_normal_l1)) (.seq (.reg [oM 20 0 [],oM 2 20 [0,0]]) .ret)),[.tmp 2]⟩
def x_wide_times_l2 : XC := .seq (.reg [oP 28 (.bin .lss (.t 27) (.t 26)) []]) (.seq (.cond (.t 28) .skip (.exit 2)) (.seq (.block 3 (.seq (.reg [oM 29 27 [],oP 30 (.ixs 1 (.t 25) (.t 27)) [],oP 31 (.load false 1 (.t 30)) [1],oM 9 29 [0,0,1,2],oM 10 31 [2,3,0,1,2,3]]) (.seq (.reg [oM 32 7 [],oP 33 (.cint .u64 (.t 32)) [0],oM 34 10 [],oP 35 (.cint .u64 (.t 34)) [2],oP 36 (.bin .mul (.t 33) (.t 35)) [1,3],oM 37 5 [],oM 38 6 [],oM 39 9 [],oP 40 (.bin .add (.t 38) (.t 39)) [6,7],oP 41 (.ixs 1 (.t 37) (.t 40)) [5,8],oP 42 (.load false 1 (.t 41)) [9],oP 43 (.cint .u64 (.t 42)) [10],oP 44 (.bin .add (.t 36) (.t 43)) [4,11],oM 45 8 [],oP 46 (.bin .add (.t 44) (.t 45)) [12,13],oM 11 46 [14,0,1,2,3,4,5,6,7,8,9,10,11,12,13,14]]) (.seq (.reg [oM 47 5 [],oM 48 6 [],oM 49 9 [],oP 50 (.bin .add (.t 48) (.t 49)) [1,2],oM 51 11 [],oP 52 (.cint .u32 (.t 51)) [4],oP 53 (.ixs 1 (.t 47) (.t 50)) [0,3,0,1,2,3,4,5],oN (.store 1 (.t 53) (.t 52)) [6,5,0,1,2,3,4,5]]) (.reg [oM 54 11 [],oP 55 (.bin .shr (.t 54) (.k (.i .u64 32))) [0],oM 8 55 [1,0,1]]))))) (.reg [oP 56 (.bin .add (.t 27) (.k (.i .i64 1))) [],oM 27 56 [0]])))
def x_wide_times_l1 : XC := .seq (.reg [oP 21 (.bin .lss (.t 20) (.t 19)) []]) (.seq (.cond (.t 21) .skip (.exit 0)) (.seq (.block 1 (.seq (.reg [oM 22 20 [],oP 23 (.ixs 1 (.t 18) (.t 20)) [],oP 24 (.load false 1 (.t 23)) [1],oM 6 22 [0,0,1,2],oM 7 24 [2,3,0,1,2,3]]) (.seq (.reg [oP 8 (.mov (.k (.i .u64 0))) []]) (.seq (.seq (.reg [oM 25 1 [],oP 26 (.len (.t 25)) [0],oP 27 (.mov (.k (.i .i64 0))) []]) (.block 2 (.loop x_wide_times_l2))) (.reg [oM 57 5 [],oM 58 6 [],oM 59 1 [],oP 60 (.len (.t 59)) [2],oP 61 (.bin .add (.t 58) (.t 60)) [1,3],oM 62 8 [],oP 63 (.cint .u32 (.t 62)) [5],oP 64 (.ixs 1 (.t 57) (.t 61)) [0,4,0,1,2,3,4,5,6],oN (.store 1 (.t 64) (.t 63)) [7,6,0,1,2,3,4,5,6]]))))) (.reg [oP 65 (.bin .add (.t 20) (.k (.i .i64 1))) [],oM 20 65 [0]])))
def x_wide_times : XF := ⟨67,.seq (.reg [oP 4 (.mov (.k .sn)) []]) (.seq (.reg [oM 12 0 [],oP 13 (.len (.t 12)) [0],oM 14 1 [],oP 15 (.len (.t 14)) [2],oP 16 (.bin .add (.t 13) (.t 15)) [1,3],oP 17 (.msl [.i .u32 0] 4 (.t 16) (.t 16)) [4,4],oM 5 17 [5,0,1,2,3,4,5]]) (.seq (.seq (.reg [oM 18 0 [],oP 19 (.len (.t 18)) [0],oP 20 (.mov (.k (.i .i64 0))) []]) (.block 0 (.loop x_wide_times_l1))) (.seq (.reg [oM 66 5 [],oM 4 66 [0,0]]) .ret))),[.tmp 4]⟩
def x_wide_Neg : XF := ⟨15,.seq (.reg [oP 1 (.box (.t 0)) [],oP 2 (.new [.b false,.sn]) []]) (.seq (.reg [oP 3 (.fad 0 (.t 1)) [],oP 4 (.load false 1 (.t 3)) [0],oP 5 (.un .not (.t 4)) [1],oM 6 5 [2],oT 7 (.fad 1 (.t 1)) [3] 6,oT 8 (.load false 1 (.t 7)) [4,3] 6,oT 9 (.len (.t 8)) [5,3] 6,oT 10 (.bin .gtr (.t 9) (.k (.i .i64 0))) [6,3] 6,oP 11 (.pick (.t 6) (.t 10) (.k (.b false))) [3,7],oP 12 (.fad 1 (.t 1)) [],oP 13 (.load false 1 (.t 12)) [9],oP 14 (.build [.b false,.sn] [(0,(1,.t 11)),(1,(1,.t 13))]) [8,10],oN (.store 2 (.t 2) (.t 14)) [11,3,0,1,2,3,4,5,6,7,8,9,10,11]]) .ret),[.cell 2 true 2]⟩
def x_frac_lowest : XF := ⟨25,.seq (.reg [oP 4 (.box (.t 0)) [],oP 5 (.box (.t 1)) [],oP 8 (.new [.b false,.sn,.b false,.sn]) [],oP 9 (.mov (.k (.i .i64 0))) []]) (.seq (.seq (.reg [oM 10 2 [],oP 11 (.bin .neq (.t 10) (.k (.i .i64 0))) [0],oM 12 11 [1],oF 13 (.mov (.t 3)) [2] 12,oF 14 (.bin .neq (.t 13) (.k (.i .i64 0))) [3,2] 12,oP 15 (.pick (.t 12) (.k (.b true)) (.t 14)) [2,4]]) (.cond (.t 15) (.seq (.reg [oP 16 (.build [.b false,.sn,.b false,.sn] []) [],oN (.store 4 (.t 8) (.t 16)) [0,0],oP 9 (.mov (.k (.i .i64 4))) [1,0,1]]) .ret) .skip)) (.seq (.drw [oP 17 (.load true 2 (.t 4)) [],oP 18 (.load true 2 (.t 5)) [],oP 19 (.call 34 [.k (.i .i64 1)]) [],oP 20 (.call 39 [.t 18,.t 19]) [1,2,2],oP 21 (.ext (.t 20) 0) [3],oP 22 (.ext (.t 20) 1) [3],oP 23 (.call 37 [.t 21,.t 22]) [4,5,3],oP 24 (.build [.b false,.sn,.b false,.sn] [(0,(2,.t 17)),(2,(2,.t 23))]) [0,6],oN (.store 4 (.t 8) (.t 24)) [7,6,0,1,2,3,4,5,6,7],oP 9 (.mov (.k (.i .i64 0))) [8,0,1,2,3,4,5,6,7,8]] [(0,2),(1,2),(0,3),(0,6)]) .ret)),[.cell 8 true 4,.tmp 9]⟩
def x_frac_over : XF := ⟨16,.seq (.reg [oP 2 (.box (.t 0)) [],oP 3 (.box (.t 1)) [],oP 4 (.new [.b false,.sn]) []]) (.seq (.reg [oP 9 (.load true 2 (.t 2)) [],oP 10 (.load true 2 (.t 3)) [],oP 11 (.call 29 [.t 9,.t 10]) [0,1],oM 8 11 [2],oP 12 (.ext (.t 8) 0) [3],oP 13 (.ext (.t 8) 1) [3],oP 14 (.ext (.t 8) 2) [3],oP 5 (.new [.b false,.sn]) [],oP 6 (.new [.b false,.sn]) [],oN (.store 2 (.t 5) (.t 12)) [7,4,2,0,1,2,3,4,7,8],oN (.store 2 (.t 6) (.t 13)) [8,5,9,0,1,2,3,4,5,7,8,9],oM 7 14 [6,10,0,1,2,3,4,5,6,7,8,9,10]]) (.seq (.reg [oP 15 (.load true 2 (.t 5)) [],oN (.store 2 (.t 4) (.t 15)) [0,0]]) .ret)),[.cell 4 true 2]⟩
def x_wide_short_l1 : XC := .seq (.seq (.reg [oM 15 8 [],oP 16 (.bin .geq (.t 15) (.k (.i .i64 0))) [0]]) (.cond (.t 16) .skip (.exit 0))) (.seq (.block 1 (.seq (.reg [oM 19 7 [],oP 20 (.bin .shl (.t 19) (.k (.i .u64 32))) [0],oM 21 0 [],oM 22 8 [],oP 23 (.ixs 1 (.t 21) (.t 22)) [2,3],oP 24 (.load false 1 (.t 23)) [4],oP 25 (.cint .u64 (.t 24)) [5],oP 26 (.bin .or (.t 20) (.t 25)) [1,6],oM 7 26 [7,0,1,2,3,4,5,6,7]]) (.seq (.reg [oM 27 6 [],oM 28 8 [],oM 29 7 [],oM 30 1 [],oP 31 (.cint .u64 (.t 30)) [3],oP 32 (.bin .quo (.t 29) (.t 31)) [2,4],oP 33 (.cint .u32 (.t 32)) [5],oP 34 (.ixs 1 (.t 27) (.t 28)) [0,1,0,1,2,3,4,5,6],oN (.store 1 (.t 34) (.t 33)) [7,6,0,1,2,3,4,5,6]]) (.reg [oM 35 7 [],oM 36 1 [],oP 37 (.cint .u64 (.t 36)) [1],oP 38 (.bin .rem (.t 35) (.t 37)) [0,2],oM 7 38 [3,0,1,2,3]])))) (.reg [oM 17 8 [],oP 18 (.bin .sub (.t 17) (.k (.i .i64 1))) [0],oM 8 18 [1,0,1]]))
def x_wide_short : XF := ⟨42,.seq (.reg [oP 4 (.mov (.k .sn)) [],oP 5 (.mov (.k (.i .u32 0))) [0]]) (.seq (.reg [oM 9 0 [],oP 10 (.len (.t 9)) [0],oP 11 (.msl [.i .u32 0] 4 (.t 10) (.t 10)) [1,1],oM 6 11 [2,0,1,2]]) (.seq (.reg [oP 7 (.mov (.k (.i .u64 0))) []]) (.seq (.seq (.reg [oM 12 0 [],oP 13 (.len (.t 12)) [0],oP 14 (.bin .sub (.t 13) (.k (.i .i64 1))) [1],oM 8 14 [2,0,1,2]]) (.block 0 (.loop x_wide_short_l1))) (.seq (.reg [oM 39 6 [],oM 40 7 [],oP 41 (.cint .u32 (.t 40)) [1],oM 4 39 [0,0],oM 5 41 [2,3,0,1,2,3]]) .ret)))),[.tmp 4,.tmp 5]⟩
def x_wide_Mul : XF := ⟨19,.seq (.reg [oP 2 (.box (.t 0)) [],oP 3 (.box (.t 1)) [],oP 4 (.new [.b false,.sn]) [],oP 5 (.mov (.k (.i .i64 0))) []]) (.seq (.drw [oP 6 (.fad 0 (.t 2)) [],oP 7 (.load false 1 (.t 6)) [0],oP 8 (.fad 0 (.t 3)) [],oP 9 (.load false 1 (.t 8)) [2],oP 10 (.eqt true 0 (.t 7) (.t 9)) [1,3],oP 11 (.fad 1 (.t 2)) [],oP 12 (.load false 1 (.t 11)) [5],oP 13 (.fad 1 (.t 3)) [],oP 14 (.load false 1 (.t 13)) [7],oP 15 (.call 59 [.t 12,.t 14]) [6,8],oP 16 (.call 36 [.t 10,.t 15]) [4,9,9],oP 17 (.ext (.t 16) 0) [10],oP 18 (.ext (.t 16) 1) [10],oN (.store 2 (.t 4) (.t 17)) [11,10,0,1,2,3,4,5,6,7,8,9,10,11,12],oM 5 18 [12,13,0,1,2,3,4,5,6,7,8,9,10,11,12,13]] [(1,9),(3,9)]) .ret),[.cell 4 true 2,.tmp 5]⟩
def x_wide_Sub : XF := ⟨12,.seq (.reg [oP 2 (.box (.t 0)) [],oP 3 (.box (.t 1)) [],oP 4 (.new [.b false,.sn]) [],oP 5 (.mov (.k (.i .i64 0))) []]) (.seq (.drw [oP 6 (.load true 2 (.t 2)) [],oP 7 (.load true 2 (.t 3)) [],oP 8 (.call 43 [.t 7]) [1],oP 9 (.call 23 [.t 6,.t 8]) [0,2,2],oP 10 (.ext (.t 9) 0) [3],oP 11 (.ext (.t 9) 1) [3],oN (.store 2 (.t 4) (.t 10)) [4,3,0,1,2,3,4,5],oM 5 11 [5,6,0,1,2,3,4,5,6]] [(0,2)]) .ret),[.cell 4 true 2,.tmp 5]⟩
def x_r03_Compare : XF := ⟨24,.seq (.reg [oP 2 (.box (.t 0)) [],oP 3 (.box (.t 1)) [],oP 4 (.mov (.k (.i .i64 0))) []]) (.seq (.seq (.reg [oP 5 (.fad 0 (.t 2)) [],oP 6 (.load false 1 (.t 5)) [0],oP 7 (.fad 0 (.t 3)) [],oP 8 (.load false 1 (.t 7)) [2],oP 9 (.eqt true 0 (.t 6) (.t 8)) [1,3]]) (.cond (.t 9) (.seq (.seq (.reg [oP 10 (.fad 0 (.t 2)) [],oP 11 (.load false 1 (.t 10)) [0]]) (.cond (.t 11) (.seq (.reg [oP 4 (.mov (.k (.i .i64 (-1)))) []]) .ret) .skip)) (.seq (.reg [oP 4 (.mov (.k (.i .i64 1))) []]) .ret)) .skip)) (.seq (.seq (.reg [oP 12 (.fad 0 (.t 2)) [],oP 13 (.load false 1 (.t 12)) [0]]) (.cond (.t 13) (.seq (.reg [oP 14 (.fad 1 (.t 3)) [],oP 15 (.load false 1 (.t 14)) [0],oP 16 (.fad 1 (.t 2)) [],oP 17 (.load false 1 (.t 16)) [2],oP 18 (.call 134 [.t 15,.t 17]) [1,3],oM 4 18 [4,4,0,1,2,3,4]]) .ret) .skip)) (.seq (.reg [oP 19 (.fad 1 (.t 2)) [],oP 20 (.load false 1 (.t 19)) [0],oP 21 (.fad 1 (.t 3)) [],oP 22 (.load false 1 (.t 21)) [2],oP 23 (.call 134 [.t 20,.t 22]) [1,3],oM 4 23 [4,4,0,1,2,3,4]]) .ret))),[.tmp 4]⟩
def x_frac_times_l1 : XC := .seq (.reg [oP 13 (.bin .lss (.t 12) (.t 11)) []]) (.seq (.cond (.t 13) .skip (.exit 0)) (.seq (.block 1 (.seq (.reg [oP 14 (.ixs 2 (.t 10) (.t 12)) [],oP 15 (.load true 2 (.t 14)) [0],oP 6 (.new [.b false,.sn]) [],oN (.store 2 (.t 6) (.t 15)) [2,1,0,1,2]]) (.seq (.reg [oP 17 (.load true 2 (.t 4)) [],oP 18 (.load true 2 (.t 6)) [],oP 19 (.call 38 [.t 17,.t 18]) [0,1],oM 16 19 [2],oP 20 (.ext (.t 16) 0) [3],oP 21 (.ext (.t 16) 1) [3],oP 7 (.new [.b false,.sn]) [],oN (.store 2 (.t 7) (.t 20)) [6,4,2,0,1,2,3,4,6],oM 8 21 [5,7,0,1,2,3,4,5,6,7]]) (.seq (.seq (.reg [oM 22 8 [],oP 23 (.bin .neq (.t 22) (.k (.i .i64 0))) [0]]) (.cond (.t 23) (.seq (.reg [oP 24 (.build [.b false,.sn] []) [],oM 25 8 [],oN (.store 2 (.t 2) (.t 24)) [0,0],oM 3 25 [1,2,0,1,2]]) .ret) .skip)) (.reg [oP 26 (.load true 2 (.t 7)) [],oN (.store 2 (.t 4) (.t 26)) [0,0]]))))) (.reg [oP 27 (.bin .add (.t 12) (.k (.i .i64 1))) [],oM 12 27 [0]])))
def x_frac_times : XF := ⟨29,.seq (.reg [oP 2 (.new [.b false,.sn]) [],oP 3 (.mov (.k (.i .i64 0))) []]) (.seq (.reg [oP 9 (.call 34 [.k (.i .i64 1)]) [],oP 4 (.new [.b false,.sn]) [],oN (.store 2 (.t 4) (.t 9)) [1,0,0,0,1]]) (.seq (.seq (.reg [oM 10 0 [],oP 11 (.len (.t 10)) [0],oP 12 (.mov (.k (.i .i64 0))) []]) (.block 0 (.loop x_frac_times_l1))) (.seq (.reg [oP 28 (.load true 2 (.t 4)) [],oN (.store 2 (.t 2) (.t 28)) [0,0],oP 3 (.mov (.k (.i .i64 0))) [1,0,1]]) .ret))),[.cell 2 true 2,.tmp 3]⟩
def x_math_bits_LeadingZeros32 : XF := ⟨6,.seq (.reg [oP 2 (.mov (.k (.i .i64 0))) []]) (.seq (.reg [oM 3 0 [],oP 4 (.call 76 [.t 3]) [0],oP 5 (.bin .sub (.k (.i .i64 32)) (.t 4)) [1],oM 2 5 [2,1,0,1,2]]) .ret),[.tmp 2]⟩
def x_wide_shifted_l1 : XC := .seq (.reg [oP 16 (.bin .lss (.t 15) (.t 14)) []]) (.seq (.cond (.t 16) .skip (.exit 0)) (.seq (.block 1 (.seq (.reg [oM 17 15 [],oP 18 (.ixs 1 (.t 13) (.t 15)) [],oP 19 (.load false 1 (.t 18)) [1],oM 6 17 [0,0,1,2],oM 7 19 [2,3,0,1,2,3]]) (.seq (.reg [oM 20 7 [],oP 21 (.cint .u64 (.t 20)) [0],oM 22 1 [],oP 23 (.bin .shl (.t 21) (.t 22)) [1,2],oM 8 23 [3,0,1,2,3]]) (.seq (.reg [oM 24 5 [],oM 25 6 [],oP 26 (.ixs 1 (.t 24) (.t 25)) [0,1],oP 27 (.load false 1 (.t 26)) [2],oM 28 8 [],oP 29 (.cint .u32 (.t 28)) [4],oP 30 (.bin .or (.t 27) (.t 29)) [3,5],oP 31 (.ixs 1 (.t 24) (.t 25)) [0,1,0,1,2,3,4,5,6],oN (.store 1 (.t 31) (.t 30)) [7,6,0,1,2,3,4,5,6]]) (.reg [oM 32 5 [],oM 33 6 [],oP 34 (.bin .add (.t 33) (.k (.i .i64 1))) [1],oM 35 8 [],oP 36 (.bin .shr (.t 35) (.k (.i .u64 32))) [3],oP 37 (.cint .u32 (.t 36)) [4],oP 38 (.ixs 1 (.t 32) (.t 34)) [0,2,0,1,2,3,4,5],oN (.store 1 (.t 38) (.t 37)) [6,5,0,1,2,3,4,5]]))))) (.reg [oP 39 (.bin .add (.t 15) (.k (.i .i64 1))) [],oM 15 39 [0]])))
def x_wide_shifted : XF := ⟨41,.seq (.reg [oP 4 (.mov (.k .sn)) []]) (.seq (.reg [oM 9 0 [],oP 10 (.len (.t 9)) [0],oP 11 (.bin .add (.t 10) (.k (.i .i64 1))) [1],oP 12 (.msl [.i .u32 0] 4 (.t 11) (.t 11)) [2,2],oM 5 12 [3,0,1,2,3]]) (.seq (.seq (.reg [oM 13 0 [],oP 14 (.len (.t 13)) [0],oP 15 (.mov (.k (.i .i64 0))) []]) (.block 0 (.loop x_wide_shifted_l1))) (.seq (.reg [oM 40 5 [],oM 4 40 [0,0]]) .ret))),[.tmp 4]⟩
def x_wide_take_l1 : XC := .seq (.reg [oP 15 (.bin .lss (.t 14) (.t 13)) []]) (.seq (.cond (.t 15) .skip (.exit 0)) (.seq (.block 1 (.seq (.reg [oM 16 14 [],oM 9 16 [0,0]]) (.seq (.reg [oM 17 7 [],oM 10 17 [0,0]]) (.seq (.seq (.reg [oM 18 9 [],oM 19 1 [],oP 20 (.len (.t 19)) [1],oP 21 (.bin .lss (.t 18) (.t 20)) [0,2]]) (.cond (.t 21) (.reg [oM 22 10 [],oM 23 2 [],oM 24 1 [],oM 25 9 [],oP 26 (.ixs 1 (.t 24) (.t 25)) [2,3],oP 27 (.load false 1 (.t 26)) [4],oP 28 (.cint .u64 (.t 27)) [5],oP 29 (.bin .mul (.t 23) (.t 28)) [1,6],oP 30 (.bin .add (.t 22) (.t 29)) [0,7],oM 10 30 [8,0,1,2,3,4,5,6,7,8]]) .skip)) (.seq (.reg [oM 31 10 [],oP 32 (.bin .shr (.t 31) (.k (.i .u64 32))) [0],oM 7 32 [1,0,1]]) (.seq (.reg [oM 33 0 [],oM 34 9 [],oP 35 (.ixs 1 (.t 33) (.t 34)) [0,1],oP 36 (.load false 1 (.t 35)) [2],oP 37 (.cint .u64 (.t 36)) [3],oM 38 10 [],oP 39 (.cint .u32 (.t 38)) [5],oP 40 (.cint .u64 (.t 39)) [6],oP 41 (.bin .sub (.t 37) (.t 40)) [4,7],oM 42 8 [],oP 43 (.bin .sub (.t 41) (.t 42)) [8,9],oM 11 43 [10,0,1,2,3,4,5,6,7,8,9,10]]) (.seq (.reg [oM 44 0 [],oM 45 9 [],oM 46 11 [],oP 47 (.cint .u32 (.t 46)) [2],oP 48 (.ixs 1 (.t 44) (.t 45)) [0,1,0,1,2,3],oN (.store 1 (.t 48) (.t 47)) [4,3,0,1,2,3]]) (.reg [oM 49 11 [],oP 50 (.bin .shr (.t 49) (.k (.i .u64 63))) [0],oM 8 50 [1,0,1]])))))))) (.reg [oP 51 (.bin .add (.t 14) (.k (.i .i64 1))) [],oM 14 51 [0]])))
def x_wide_take : XF := ⟨54,.seq (.reg [oP 6 (.mov (.k (.b false))) []]) (.seq (.reg [oP 7 (.mov (.k (.i .u64 0))) [],oP 8 (.mov (.k (.i .u64 0))) [0]]) (.seq (.seq (.reg [oM 12 0 [],oP 13 (.len (.t 12)) [0],oP 14 (.mov (.k (.i .i64 0))) []]) (.block 0 (.loop x_wide_take_l1))) (.seq (.reg [oM 52 8 [],oP 53 (.bin .gtr (.t 52) (.k (.i .u64 0))) [0],oM 6 53 [1,0,1]]) .ret))),[.tmp 6]⟩
def x_wide_carrier : XF := ⟨3,.seq (.reg [oP 0 (.mov (.k .fnil)) []]) (.seq (.reg [oP 1 (.new [.i .u64 0]) []]) (.seq (.reg [oP 2 (.mfn 77 [.t 1]) [],oM 0 2 [0,0]]) .ret)),[.tmp 0]⟩
def x_wide_subtract_l1 : XC := .seq (.reg [oP 12 (.bin .lss (.t 11) (.t 10)) []]) (.seq (.cond (.t 12) .skip (.exit 0)) (.seq (.block 1 (.seq (.reg [oM 13 11 [],oM 6 13 [0,0]]) (.seq (.reg [oM 14 5 [],oM 7 14 [0,0]]) (.seq (.seq (.reg [oM 15 6 [],oM 16 1 [],oP 17 (.len (.t 16)) [1],oP 18 (.bin .lss (.t 15) (.t 17)) [0,2]]) (.cond (.t 18) (.reg [oM 19 7 [],oM 20 1 [],oM 21 6 [],oP 22 (.ixs 1 (.t 20) (.t 21)) [1,2],oP 23 (.load false 1 (.t 22)) [3],oP 24 (.cint .u64 (.t 23)) [4],oP 25 (.bin .add (.t 19) (.t 24)) [0,5],oM 7 25 [6,0,1,2,3,4,5,6]]) .skip)) (.seq (.reg [oM 26 0 [],oM 27 6 [],oP 28 (.ixs 1 (.t 26) (.t 27)) [0,1],oP 29 (.load false 1 (.t 28)) [2],oP 30 (.cint .u64 (.t 29)) [3],oM 8 30 [4,0,1,2,3,4]]) (.seq (.reg [oP 5 (.mov (.k (.i .u64 0))) []]) (.seq (.seq (.reg [oM 31 7 [],oM 32 8 [],oP 33 (.bin .gtr (.t 31) (.t 32)) [0,1]]) (.cond (.t 33) (.seq (.reg [oM 34 8 [],oP 35 (.bin .add (.t 34) (.k (.i .u64 4294967296))) [0],oM 8 35 [1,0,1]]) (.reg [oP 5 (.mov (.k (.i .u64 1))) []])) .skip)) (.reg [oM 36 0 [],oM 37 6 [],oM 38 8 [],oM 39 7 [],oP 40 (.bin .sub (.t 38) (.t 39)) [2,3],oP 41 (.cint .u32 (.t 40)) [4],oP 42 (.ixs 1 (.t 36) (.t 37)) [0,1,0,1,2,3,4,5],oN (.store 1 (.t 42) (.t 41)) [6,5,0,1,2,3,4,5]])))))))) (.reg [oP 43 (.bin .add (.t 11) (.k (.i .i64 1))) [],oM 11 43 [0]])))
def x_wide_subtract : XF := ⟨46,.seq (.reg [oP 4 (.mov (.k (.i .u32 0))) []]) (.seq (.reg [oP 5 (.mov (.k (.i .u64 0))) []]) (.seq (.seq (.reg [oM 9 0 [],oP 10 (.len (.t 9)) [0],oP 11 (.mov (.k (.i .i64 0))) []]) (.block 0 (.loop x_wide_subtract_l1))) (.seq (.reg [oM 44 5 [],oP 45 (.cint .u32 (.t 44)) [0],oM 4 45 [1,0,1]]) .ret))),[.tmp 4]⟩
def x_cmp_Compare_int_ : XF := ⟨20,.seq (.reg [oP 4 (.mov (.k (.i .i64 0))) []]) (.seq (.reg [oM 7 0 [],oP 8 (.call 78 [.t 7]) [0],oM 5 8 [1,1,0,1]]) (.seq (.reg [oM 9 1 [],oP 10 (.call 78 [.t 9]) [0],oM 6 10 [1,1,0,1]]) (.seq (.seq (.reg [oM 11 5 []]) (.cond (.t 11) (.seq (.seq (.reg [oM 12 6 []]) (.cond (.t 12) (.seq (.reg [oP 4 (.mov (.k (.i .i64 0))) []]) .ret) .skip)) (.seq (.reg [oP 4 (.mov (.k (.i .i64 (-1)))) []]) .ret)) .skip)) (.seq (.seq (.reg [oM 13 6 []]) (.cond (.t 13) (.seq (.reg [oP 4 (.mov (.k (.i .i64 1))) []]) .ret) .skip)) (.seq (.seq (.reg [oM 14 0 [],oM 15 1 [],oP 16 (.bin .lss (.t 14) (.t 15)) [0,1]]) (.cond (.t 16) (.seq (.reg [oP 4 (.mov (.k (.i .i64 (-1)))) []]) .ret) .skip)) (.seq (.seq (.reg [oM 17 0 [],oM 18 1 [],oP 19 (.bin .gtr (.t 17) (.t 18)) [0,1]]) (.cond (.t 19) (.seq (.reg [oP 4 (.mov (.k (.i .i64 1))) []]) .ret) .skip)) (.seq (.reg [oP 4 (.mov (.k (.i .i64 0))) []]) .ret))))))),[.tmp 4]⟩
def x_cmp_Compare_uint32_ : XF := ⟨20,.seq (.reg [oP 4 (.mov (.k (.i .i64 0))) []]) (.seq (.reg [oM 7 0 [],oP 8 (.call 79 [.t 7]) [0],oM 5 8 [1,1,0,1]]) (.seq (.reg [oM 9 1 [],oP 10 (.call 79 [.t 9]) [0],oM 6 10 [1,1,0,1]]) (.seq (.seq (.reg [oM 11 5 []]) (.cond (.t 11) (.seq (.seq (.reg [oM 12 6 []]) (.cond (.t 12) (.seq (.reg [oP 4 (.mov (.k (.i .i64 0))) []]) .ret) .skip)) (.seq (.reg [oP 4 (.mov (.k (.i .i64 (-1)))) []]) .ret)) .skip)) (.seq (.seq (.reg [oM 13 6 []]) (.cond (.t 13) (.seq (.reg [oP 4 (.mov (.k (.i .i64 1))) []]) .ret) .skip)) (.seq (.seq (.reg [oM 14 0 [],oM 15 1 [],oP 16 (.bin .lss (.t 14) (.t 15)) [0,1]]) (.cond (.t 16) (.seq (.reg [oP 4 (.mov (.k (.i .i64 (-1)))) []]) .ret) .skip)) (.seq (.seq (.reg [oM 17 0 [],oM 18 1 [],oP 19 (.bin .gtr (.t 17) (.t 18)) [0,1]]) (.cond (.t 19) (.seq (.reg [oP 4 (.mov (.k (.i .i64 1))) []]) .ret) .skip)) (.seq (.reg [oP 4 (.mov (.k (.i .i64 0))) []]) .ret))))))),[.tmp 4]⟩
def x_r03_digit : XF := ⟨53,.seq (.reg [oP 4 (.mov (.k (.i .i64 0))) [],oP 5 (.mov (.k (.i .i64 0))) [0]]) (.seq (.reg [oM 9 1 [],oP 10 (.len (.t 9)) [0],oM 6 10 [1,0,1]]) (.seq (.seq (.reg [oM 11 0 [],oP 12 (.len (.t 11)) [0],oM 13 6 [],oP 14 (.bin .lss (.t 12) (.t 13)) [1,2],oM 15 14 [3],oF 16 (.mov (.t 6)) [4] 15,oF 17 (.bin .eql (.t 16) (.k (.i .i64 0))) [5,4] 15,oP 18 (.pick (.t 15) (.k (.b true)) (.t 17)) [4,6]]) (.cond (.t 18) (.seq (.reg [oP 4 (.mov (.k (.i .i64 0))) [],oP 5 (.mov (.k (.i .i64 0))) [0,0]]) .ret) .skip)) (.seq (.reg [oM 19 0 [],oM 20 6 [],oP 21 (.call 159 [.t 19,.t 20]) [0,1],oP 22 (.bin .mul (.k (.i .i64 10000)) (.t 21)) [2],oM 23 0 [],oM 24 6 [],oP 25 (.bin .sub (.t 24) (.k (.i .i64 1))) [5],oP 26 (.call 159 [.t 23,.t 25]) [4,6,2],oP 27 (.bin .add (.t 22) (.t 26)) [3,7],oP 28 (.bin .mul (.k (.i .i64 10000)) (.t 27)) [8],oM 29 0 [],oM 30 6 [],oP 31 (.bin .sub (.t 30) (.k (.i .i64 2))) [11],oP 32 (.call 159 [.t 29,.t 31]) [10,12,7],oP 33 (.bin .add (.t 28) (.t 32)) [9,13],oM 7 33 [14,13,0,1,2,3,4,5,6,7,8,9,10,11,12,13,14]]) (.seq (.reg [oM 34 1 [],oM 35 6 [],oP 36 (.bin .sub (.t 35) (.k (.i .i64 1))) [1],oP 37 (.call 159 [.t 34,.t 36]) [0,2],oP 38 (.bin .mul (.k (.i .i64 10000)) (.t 37)) [3],oM 39 1 [],oM 40 6 [],oP 41 (.bin .sub (.t 40) (.k (.i .i64 2))) [6],oP 42 (.call 159 [.t 39,.t 41]) [5,7,3],oP 43 (.bin .add (.t 38) (.t 42)) [4,8],oM 8 43 [9,8,0,1,2,3,4,5,6,7,8,9]]) (.seq (.drw [oM 44 7 [],oM 45 8 [],oP 46 (.bin .add (.t 45) (.k (.i .i64 1))) [1],oP 47 (.bin .quo (.t 44) (.t 46)) [0,2],oP 48 (.mm false (.k (.i .i64 9999)) [.t 47]) [3],oM 49 7 [],oM 50 8 [],oP 51 (.bin .quo (.t 49) (.t 50)) [5,6],oP 52 (.mm false (.k (.i .i64 9999)) [.t 51]) [7],oM 4 48 [4,0,1,2,3,4],oM 5 52 [8,9,0,1,2,3,4,5,6,7,8,9]] []) .ret))))),[.tmp 4,.tmp 5]⟩
def x_r03_small : XF := ⟨13,.seq (.reg [oP 4 (.mov (.k .sn)) []]) (.seq (.reg [oM 6 0 [],oP 7 (.build [.b false,.sn] [(1,(1,.t 6))]) [0],oM 8 1 [],oP 9 (.call 114 [.t 8]) [2],oP 10 (.call 118 [.t 7,.t 9]) [1,3,3],oP 5 (.new [.b false,.sn]) [],oN (.store 2 (.t 5) (.t 10)) [5,4,4,0,1,2,3,4,5]]) (.seq (.reg [oP 11 (.fad 1 (.t 5)) [],oP 12 (.load false 1 (.t 11)) [0],oM 4 12 [1,0,1]]) .ret)),[.tmp 4]⟩
def x_math_bits_Len32 : XF := ⟨19,.seq (.reg [oP 2 (.mov (.k (.i .i64 0))) []]) (.seq (.seq (.reg [oM 3 0 [],oP 4 (.bin .geq (.t 3) (.k (.i .u32 65536))) [0]]) (.cond (.t 4) (.seq (.reg [oM 5 0 [],oP 6 (.bin .shr (.t 5) (.k (.i .u64 16))) [0],oM 0 6 [1,0,1]]) (.reg [oP 2 (.mov (.k (.i .i64 16))) []])) .skip)) (.seq (.seq (.reg [oM 7 0 [],oP 8 (.bin .geq (.t 7) (.k (.i .u32 256))) [0]]) (.cond (.t 8) (.seq (.reg [oM 9 0 [],oP 10 (.bin .shr (.t 9) (.k (.i .u64 8))) [0],oM 0 10 [1,0,1]]) (.reg [oM 11 2 [],oP 12 (.bin .add (.t 11) (.k (.i .i64 8))) [0],oM 2 12 [1,0,1]])) .skip)) (.seq (.reg [oM 13 2 [],oM 14 0 [],oP 15 (.cint .u8 (.t 14)) [1],oP 16 (.istr (.k (.s xs_1d3e63)) (.t 15)) [2],oP 17 (.cint .i64 (.t 16)) [3],oP 18 (.bin .add (.t 13) (.t 17)) [0,4],oM 2 18 [5,0,1,2,3,4,5]]) .ret))),[.tmp 2]⟩
def x_wide_carrier_1 : XF := ⟨13,.seq (.reg [oP 3 (.mov (.k (.i .u32 0))) []]) (.seq (.reg [oP 5 (.load false 1 (.t 1)) [],oM 6 0 [],oP 7 (.bin .add (.t 5) (.t 6)) [0,1],oN (.store 1 (.t 1) (.t 7)) [2,0,1,2]]) (.seq (.reg [oP 8 (.load false 1 (.t 1)) [],oP 9 (.cint .u32 (.t 8)) [0],oM 4 9 [1,0,1]]) (.seq (.reg [oP 10 (.load false 1 (.t 1)) [],oP 11 (.bin .shr (.t 10) (.k (.i .u64 32))) [0],oN (.store 1 (.t 1) (.t 11)) [1,0,1]]) (.seq (.reg [oM 12 4 [],oM 3 12 [0,0]]) .ret)))),[.tmp 3]⟩
def x_cmp_isNaN_int_ : XF := ⟨6,.seq (.reg [oP 2 (.mov (.k (.b false))) []]) (.seq (.reg [oM 3 0 [],oM 4 0 [],oP 5 (.bin .neq (.t 3) (.t 4)) [0,1],oM 2 5 [2,0,1,2]]) .ret),[.tmp 2]⟩
def x_cmp_isNaN_uint32_ : XF := ⟨6,.seq (.reg [oP 2 (.mov (.k (.b false))) []]) (.seq (.reg [oM 3 0 [],oM 4 0 [],oP 5 (.bin .neq (.t 3) (.t 4)) [0,1],oM 2 5 [2,0,1,2]]) .ret),[.tmp 2]⟩
def x_r03_digits : XF := ⟨17,.seq (.reg [oP 4 (.mov (.k (.i .i64 0))) []]) (.seq (.seq (.reg [oM 5 1 [],oP 6 (.bin .lss (.t 5) (.k (.i .i64 0))) [0],oM 7 6 [1],oF 8 (.mov (.t 1)) [2] 7,oF 9 (.mov (.t 0)) [2] 7,oF 10 (.len (.t 9)) [4,2] 7,oF 11 (.bin .geq (.t 8) (.t 10)) [3,5,2] 7,oP 12 (.pick (.t 7) (.k (.b true)) (.t 11)) [2,6]]) (.cond (.t 12) (.seq (.reg [oP 4 (.mov (.k (.i .i64 0))) []]) .ret) .skip)) (.seq (.reg [oM 13 0 [],oM 14 1 [],oP 15 (.ixs 1 (.t 13) (.t 14)) [0,1],oP 16 (.load false 1 (.t 15)) [2],oM 4 16 [3,0,1,2,3]]) .ret)),[.tmp 4]⟩
noncomputable def progL : List (Option XD) := [
 none,
 none,
 none,
 none,
 none,
 none,
 none,
 none,
 some (.fn x_frac_Mul),
 some (.fn x_frac_Add),
 none,
 none,
 none,
 none,
 none,
 none,
 some (.fn x__skymosaic_frac_Frac__String),
 some (.fn x_frac_Of),
 some (.fn x_wide_Gcd),
 some (.fn x__skymosaic_frac_Frac__Den),
 some (.fn x_frac_times),
 some (.fn x_frac_over),
 some (.fn x_frac_lowest),
 some (.fn x_wide_Add),
 some (.fn x_frac_Make),
 none,
 none,
 none,
 none,
 some (.fn x_wide_Div),
 some (.fn x_wide_Compare),
 some (.fn x_wide_Sign),
 none,
 some (.orc (orcA 33)),
 some (.fn x_wide_From),
 some (.fn x_wide_divide),
 some (.fn x_wide_signed),
 some (.fn x_frac_must),
 some (.fn x_wide_Mul),
 some (.fn x_wide_Sub),
 some (.fn x_wide_sum),
 some (.fn x_wide_compare),
 some (.fn x_wide_difference),
 some (.fn x_wide_Neg),
 some (.fn x_poly_Digits),
 none,
 none,
 none,
 some (.fn x_wide_short),
 some (.fn x_wide_normal),
 some (.orc (orcA 50)),
 some (.orc (orcA 51)),
 none,
 none,
 none,
 some (.fn x_math_bits_LeadingZeros32),
 some (.fn x_wide_shifted),
 some (.fn x_wide_take),
 some (.fn x_wide_carrier),
 some (.fn x_wide_times),
 some (.fn x_cmp_Compare_int_),
 some (.fn x_cmp_Compare_uint32_),
 some (.fn x_wide_subtract),
 some (.fn x_poly_digits),
 some (.fn x__skymosaic_frac_Frac__Num),
 some (.fn x_frac_Div),
 none,
 some (.fn x_frac_Sign),
 none,
 none,
 none,
 none,
 none,
 none,
 none,
 none,
 some (.fn x_math_bits_Len32),
 some (.fn x_wide_carrier_1),
 some (.fn x_cmp_isNaN_int_),
 some (.fn x_cmp_isNaN_uint32_),
 some (.fn x__skymosaic_wide_Int__Small),
 none,
 none,
 none,
 none,
 none,
 none,
 none,
 none,
 none,
 none,
 none,
 none,
 none,
 none,
 none,
 none,
 none,
 none,
 none,
 none,
 none,
 none,
 none,
 none,
 none,
 none,
 none,
 none,
 none,
 none,
 none,
 none,
 none,
 some (.fn x_r03_Of),
 none,
 none,
 some (.fn x_r03_Small),
 some (.fn x_r03_Mul),
 some (.fn x_r03_Add),
 some (.fn x_r03_Div),
 some (.fn x_r03_Sub),
 none,
 some (.fn x_r03_Neg),
 some (.fn x_r03_Compare),
 some (.fn x_r03_Gcd),
 none,
 none,
 none,
 none,
 some (.orc (orcA 130)),
 some (.orc (orcA 131)),
 some (.fn x_r03_normal),
 some (.fn x_r03_plus),
 some (.fn x_r03_compared),
 some (.fn x_r03_minus),
 some (.fn x_r03_divided),
 none,
 none,
 none,
 none,
 none,
 none,
 none,
 none,
 none,
 none,
 some (.fn x_r03_at),
 some (.fn x_r03_digit),
 some (.fn x_r03_small),
 none,
 none,
 none,
 none,
 none,
 none,
 none,
 none,
 none,
 some (.fn x_r03_digits),
 none,
 none,
 none,
 none,
 none,
 none,
 none,
 none,
 none,
 none,
 none,
 none,
 none,
 none,
 none,
 none,
 none,
 none,
 none,
 none,
 some (.fn x_r04_Pick),
 none,
 none,
 none,
 none,
 none,
 none,
 none,
 none,
 none,
 none,
 none,
 none,
 none,
 none,
 none,
 none,
 none,
 none,
 none,
 none,
 none,
 none,
 none,
 none,
 none,
 none,
 none,
 none,
 none,
 none,
 none,
 none,
 none,
 none,
 none,
 none,
 none,
 none,
 none,
 none,
 none,
 some (.orc (orcA 222)),
 none,
 none,
 none,
 none,
 none,
 none,
 none,
 none,
 none,
 none,
 none,
 none,
 none,
 none,
 none,
 none,
 none,
 none,
 none,
 none,
 none,
 none,
 none,
 none,
 none,
 none,
 none,
 none,
 none,
 none,
 none,
 none,
 none,
 none,
 none,
 none,
 none,
 none,
 none,
 none,
 none,
 none,
 none,
 none,
 none,
 none,
 none,
 none,
 none,
 none,
 none,
 none,
 none,
 none,
 none,
 none,
 none,
 none,
 none,
 none,
 none,
 none,
 none,
 none,
 none,
 none,
 none,
 none,
 none,
 none,
 none,
 none,
 none,
 none,
 none,
 none,
 none,
 none,
 some (.fn x_r12_Proj),
 some (.fn x_proj_Valid),
 some (.fn x_l12_lives),
 some (.fn x_l12_whole),
 some (.fn x_proj_Apply),
 some (.fn x_proj_det),
 some (.fn x_proj_of),
 some (.fn x_proj_Inverse),
 some (.fn x_proj_Four),
 some (.fn x_proj_row),
 some (.fn x_proj_adjoint),
 some (.fn x_proj_plus),
 some (.fn x_proj_times),
 some (.fn x_proj_normal),
 some (.fn x_proj_basis),
 some (.fn x_proj_product),
 some (.fn x_proj_row_1),
 some (.fn x_proj_adjoint_1),
 some (.fn x_proj_minus),
 some (.fn x_proj_basis_1),
 none,
 some (.fn x_l12_ProjInverts),
 none,
 none,
 none,
 none,
 none,
 none,
 none,
 some (.fn x_l12_spoilt),
 some (.fn x_l12_multiple),
 some (.fn x_proj_Normal),
 some (.fn x_r12_Normal),
 some (.fn x_r12_Inverse),
 some (.fn x_proj_Compose),
 some (.fn x_r12_Compose),
 some (.fn x_proj_Same),
 none,
 none,
 none,
 some (.fn x_r12_Valid),
 none,
 none,
 none,
 none,
 none,
 none,
 none,
 none,
 none,
 none,
 none,
 some (.fn x_r12_normal),
 some (.fn x_r12_product),
 none,
 some (.fn x_r12_inverse),
 some (.fn x_r12_Matrix),
 some (.fn x_r12_det),
 none,
 none,
 none,
 none,
 none,
 none,
 none,
 none,
 none,
 none,
 none,
 none,
 none,
 none,
 none,
 none,
 none,
 none,
 none,
 none,
 none,
 none,
 none,
 none,
 none,
 none,
 none,
 none,
 none]
noncomputable def prog (f : Nat) : Option XD := (progL[f]?).join
end Go.Eng
