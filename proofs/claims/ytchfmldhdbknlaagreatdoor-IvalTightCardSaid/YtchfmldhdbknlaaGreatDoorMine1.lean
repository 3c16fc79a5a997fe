/- The engine and the contracts on which the statement stands: no conditions of its own. -/
import Derived.Test.YtchfmldhdbknlaaGreatDoorMine0
set_option linter.unusedSimpArgs false
set_option linter.unusedVariables false
set_option linter.unusedSectionVars false
namespace Go.Eng
variable {F:Nat} {key:Nat→Option FuncId} {P:Program} {T:Tab} {call:Nat→List AV→Hp→Option (AV×Hp)}
def CallSound (P:Program) (key:Nat→Option FuncId) (T:Tab) (call:Nat→List AV→Hp→Option (AV×Hp)):Prop :=
 ∀F f g args vs h h' v l w,call f args h=some (v,h')→key f=some g→h'.next≤F→TabOk key T l→RelL key l args vs.toList→Sim key F l h w →
  Calls P g vs w fun e w'=>∃l' val,e=.returned val∧Ext l h w l' h' w'∧Sim key F l' h' w'∧Rel key l' v val
theorem zm5 {l:Loc} {fr:Fr} {a:Act} {h h':Hp} {w:World} {o:Oper} {v:AV} (HC:Callable P key) (CS:CallSound P key T call) (TO:TabOk key T l) (R:RelF key l fr a.tmps) (S:Sim key F l h w)
  (hF:h'.next≤F) (he:((cOp P T o.op).getD .fail).ev call fr h=some (v,h')) {K:Act→World→Prop} {Q:Exit→Act→World→Prop}
  (hK:∀l' val w',Ext l h w l' h' w'→Sim key F l' h' w'→Rel key l' v val→K (a.put o.dst val) w'):o.wp P a w K Q:=by
 cases hc:cOp P T o.op with
 | none=>simp[hc,XO.ev] at he
 | some y =>
  simp only[hc,Option.getD_some] at he
  unfold Oper.wp
  rcases zrz HC TO R S hc hF he with⟨l',val,w',hr,E,S',r⟩|⟨g,vs,f,avs,hr,hk,r,hcall⟩
  ·rcases hr with hr|⟨hr,hu⟩
   ·rw[hr];exact hK l' val w' E S' r
   ·rw[hr];subst hu;exact hK l' undef w' E S' r
  ·rw[hr]
   refine(CS F f g avs vs h h' v l w hcall hk hF TO r S).mono ?_
   rintro e w' ⟨l',val,rfl,E,S',r'⟩
   exact hK l' val w' E S' r'
theorem RelF.opt {l:Loc} {fr:Fr} {tmps:Array Value} (R:RelF key l fr tmps) (d:Nat):(fr[d]?=none∧tmps[d]?=none)∨∃x y,fr[d]?=some x∧tmps[d]?=some y∧Rel key l x y:=by
 have hlen:fr.length=tmps.size:=by simpa using R.1
 by_cases hlt:d<fr.length
 ·have hlt':d<tmps.size:=by omega
  refine .inr ⟨_,_,List.getElem?_eq_getElem hlt,Array.getElem?_eq_getElem hlt',?_⟩
  have r:=R.2 d hlt (by simpa using hlt')
  rwa [Array.getElem_toList] at r
 ·exact .inl ⟨List.getElem?_eq_none (by omega),Array.getElem?_eq_none (by omega)⟩
theorem zdC (ops:List Oper) {o:Oper} (hg:o.guard=none):cOper P T ops o={ dst:=o.dst,op:=(cOp P T o.op).getD .fail,after:=cAfter o,guard:=none }:=by
 simp only[cOper,hg]
theorem zd9 (ops:List Oper) {o:Oper} {j d:Nat} {b:Bool} (hg:o.guard=some (j,b)) (hd:(ops[j]?).bind (·.dst)=some d) :
  cOper P T ops o={ dst:=o.dst,op:=(cOp P T o.op).getD .fail,after:=cAfter o,guard:=some (d,b) }:=by
 simp only[cOper,hg,hd]
theorem zhm (ops:List Oper) {o:Oper} {j:Nat} {b:Bool} (hg:o.guard=some (j,b)) (hd:(ops[j]?).bind (·.dst)=none) :
  cOper P T ops o={ dst:=o.dst,op:=.fail,after:=cAfter o,guard:=none }:=by
 simp only[cOper,hg,hd]
theorem zfI {l:Loc} {fr:Fr} {tmps:Array Value} (R:RelF key l fr tmps) (ops:Array Oper) (o:Oper) (hg:∀j b,o.guard=some (j,b)→((ops.toList[j]?).bind (·.dst)).isSome=true) :
  (cOper P T ops.toList o).wanted fr=Region.wanted o (yielded ops tmps):=by
 cases hq:o.guard with
 | none=>rw[zdC _ hq];simp[XOper.wanted,Region.wanted,hq]
 | some jb =>
  obtain⟨j,b⟩:=jb
  obtain⟨d,hd⟩:=Option.isSome_iff_exists.1 (hg j b hq)
  rw[zd9 _ hq hd]
  have hd':(ops[j]?).bind (·.dst)=some d:=by simpa using hd
  simp only[XOper.wanted,Region.wanted,hq]
  unfold yielded
  simp only[hd',Option.bind_some]
  rcases R.opt d with⟨h1,h2⟩|⟨x,y,h1,h2,r⟩
  ·rw[h1,h2];rfl
  ·rw[h1,h2]
   cases r<;>first|rfl|simp
theorem zdB (ops:List Oper) (o:Oper):(cOper P T ops o).dst=o.dst:=by
 unfold cOper
 split
 ·rfl
 ·split<;>rfl
theorem zgk (ops:List Oper) (o:Oper):(∀j b,o.guard=some (j,b)→((ops[j]?).bind (·.dst)).isSome=true)∧(cOper P T ops o).op=(cOp P T o.op).getD .fail ∨
  (cOper P T ops o).op=.fail∧(cOper P T ops o).guard=none:=by
 cases hg:o.guard with
 | none=>exact .inl ⟨(fun j b e=>by cases e),by rw[zdC _ hg]⟩
 | some jb =>
  obtain⟨j,b⟩:=jb
  cases hd:(ops[j]?).bind (·.dst) with
  | none=>rw[zhm _ hg hd];exact .inr ⟨rfl,rfl⟩
  | some d=>exact .inl ⟨(fun j' b' e=>by cases e;rw[hd];rfl),by rw[zd9 _ hg hd]⟩
theorem ziL (G:GoodCall call) (HC:Callable P key) (CS:CallSound P key T call) (ops:Array Oper) {Q:Exit→Act→World→Prop}:∀(os:List Oper) {l:Loc} {fr fr':Fr} {a:Act} {h h':Hp} {w:World},TabOk key T l→RelF key l fr a.tmps→Sim key F l h w→h'.next≤F →
  evOps call (os.map (cOper P T ops.toList)) fr h=some (fr',h') →
  (∀l' a' w',Ext l h w l' h' w'→RelF key l' fr' a'.tmps→Sim key F l' h' w'→a'.defers=a.defers→Q .normal a' w')→wpList P ops Q os a w
 | [],l,fr,fr',a,h,h',w,TO,R,S,hF,he,hQ=>by
  simp[evOps] at he
  obtain⟨rfl,rfl⟩:=he
  exact hQ l a w (.refl _ _ _) R S rfl
 | o::os,l,fr,fr',a,h,h',w,TO,R,S,hF,he,hQ=>by
  simp only[List.map_cons,evOps] at he
  have hgd:(∀j b,o.guard=some (j,b)→((ops.toList[j]?).bind (·.dst)).isSome=true)∧(cOper P T ops.toList o).op=(cOp P T o.op).getD .fail:=by
   rcases zgk (P:=P) (T:=T) ops.toList o with h1|⟨h1,h2⟩
   ·exact h1
   ·have hwt:(cOper P T ops.toList o).wanted fr=true:=by simp[XOper.wanted,h2]
    rw[if_pos hwt,h1] at he
    simp[XO.ev] at he
  have hw:=zfI (P:=P) (T:=T) R ops o hgd.1
  unfold wpList
  by_cases hwant:Region.wanted o (yielded ops a.tmps)=true
  ·rw[if_pos hwant]
   rw[hw,hwant,if_pos rfl] at he
   left
   cases hev:(cOper P T ops.toList o).op.ev call fr h with
   | none=>simp[hev] at he
   | some vh =>
    obtain⟨v,h1⟩:=vh
    simp only[hev] at he
    have hF1:h1.next≤F:=Nat.le_trans (zbC G he).le.next hF
    rw[hgd.2] at hev
    refine zm5 HC CS TO R S hF1 hev fun l1 val w1 E1 S1 r1=>?_
    rw[zdB] at he
    refine ziL G HC CS ops os (TO.mono E1.le) ((R.mono E1.le).put o.dst r1) S1 hF he fun l2 a2 w2 E2 R2 S2 hd2=>?_
    refine hQ l2 a2 w2 (E1.trans (S.hd S1.wf hF1) E2) R2 S2 ?_
    rw[hd2]
    cases o.dst<;>rfl
  ·rw[if_neg hwant]
   rw[hw,if_neg hwant,zdB] at he
   refine ziL G HC CS ops os TO (R.put o.dst zbm) S hF he fun l2 a2 w2 E2 R2 S2 hd2=>?_
   refine hQ l2 a2 w2 E2 R2 S2 ?_
   rw[hd2]
   cases o.dst<;>rfl
def DrawOk (P:Program) (key:Nat→Option FuncId) (T:Tab) (call:Nat→List AV→Hp→Option (AV×Hp)) (ops:Array Oper):Prop :=
 ∀(F:Nat) (id:Nat) (Q:Exit→Act→World→Prop) (l:Loc) (fr fr':Fr) (a:Act) (h h':Hp) (w:World),TabOk key T l→RelF key l fr a.tmps→Sim key F l h w→h'.next≤F →
  evDrw call (ops.toList.map (cOper P T ops.toList)) (chkOf (ops.toList.map (cOper P T ops.toList))) fr h=some (fr',h') →
  (∀l' a' w',Ext l h w l' h' w'→RelF key l' fr' a'.tmps→Sim key F l' h' w'→a'.defers=a.defers→Q .normal a' w')→(Code.region id ops true).wp P Q a w
def Draws (P:Program) (key:Nat→Option FuncId) (T:Tab) (call:Nat→List AV→Hp→Option (AV×Hp)):Code→Prop
 | .region _ ops draw=>draw=true→DrawOk P key T call ops
 | .seq a b=>Draws P key T call a∧Draws P key T call b
 | .cond c a b=>(cX T c).isSome=true→Draws P key T call a∧Draws P key T call b
 | .block _ a=>Draws P key T call a
 | .loop a=>Draws P key T call a
 | .scope a=>Draws P key T call a
 | _=>True
def Out.toExit:Out→Exit
 | .normal=>.normal
 | .exit id=>.exit id
 | .ret=>.ret
theorem zdD (G:GoodCall call) (HC:Callable P key) (CS:CallSound P key T call) (lf:Nat):∀(c:Code),Draws P key T call c→∀{Q:Exit→Act→World→Prop} {l:Loc} {fr fr':Fr} {a:Act} {h h':Hp} {w:World} {out:Out},TabOk key T l→RelF key l fr a.tmps→Sim key F l h w→h'.next≤F →
  evCode call lf (cCode P T c) fr h=some (out,fr',h') →
  (∀l' a' w',Ext l h w l' h' w'→RelF key l' fr' a'.tmps→Sim key F l' h' w'→a'.defers=a.defers→Q out.toExit a' w')→c.wp P Q a w:=by
 intro c
 induction c with
 | skip =>
  intro _ Q l fr fr' a h h' w out TO R S hF he hQ
  simp[cCode,evCode] at he
  obtain⟨rfl,rfl,rfl⟩:=he
  exact wp_skip (hQ l a w (.refl _ _ _) R S rfl)
 | label n =>
  intro _ Q l fr fr' a h h' w out TO R S hF he hQ
  simp[cCode,evCode] at he
  obtain⟨rfl,rfl,rfl⟩:=he
  exact wp_label (hQ l a w (.refl _ _ _) R S rfl)
 | region id ops draw =>
  intro hD Q l fr fr' a h h' w out TO R S hF he hQ
  cases draw with
  | false =>
   simp only[cCode,Bool.false_eq_true,if_false,evCode] at he
   cases hev:evOps call (ops.toList.map (cOper P T ops.toList)) fr h with
   | none=>simp[hev] at he
   | some r =>
    simp[hev] at he
    obtain⟨rfl,rfl,rfl⟩:=he
    exact wp_region_list (ziL G HC CS ops ops.toList TO R S hF hev hQ)
  | true =>
   simp only[cCode,if_true,evCode] at he
   cases hev:evDrw call (ops.toList.map (cOper P T ops.toList)) (chkOf (ops.toList.map (cOper P T ops.toList))) fr h with
   | none=>simp[hev] at he
   | some r =>
    simp[hev] at he
    obtain⟨rfl,rfl,rfl⟩:=he
    exact hD rfl F id Q l fr _ a h _ w TO R S hF hev hQ
 | seq x y ihx ihy =>
  intro hD Q l fr fr' a h h' w out TO R S hF he hQ
  simp only[cCode,evCode] at he
  cases hev:evCode call lf (cCode P T x) fr h with
  | none=>simp[hev] at he
  | some r =>
   obtain⟨o1,fr1,h1⟩:=r
   rw[hev] at he
   have hF1:h1.next≤F:=by
    cases o1 with
    | normal=>simp only at he;exact Nat.le_trans (zbj G lf _ he).le.next hF
    | exit i=>simp at he;rw[he.2.2];exact hF
    | ret=>simp at he;rw[he.2.2];exact hF
   refine wp_seq (ihx hD.1 TO R S hF1 hev fun l1 a1 w1 E1 R1 S1 d1=>?_)
   cases o1 with
   | normal =>
    simp only at he
    exact ihy hD.2 (TO.mono E1.le) R1 S1 hF he fun l2 a2 w2 E2 R2 S2 d2=>hQ l2 a2 w2 (E1.trans (S.hd S1.wf hF1) E2) R2 S2 (d2.trans d1)
   | exit i=>simp at he;obtain⟨rfl,rfl,rfl⟩:=he;exact hQ l1 a1 w1 E1 R1 S1 d1
   | ret=>simp at he;obtain⟨rfl,rfl,rfl⟩:=he;exact hQ l1 a1 w1 E1 R1 S1 d1
 | cond c x y ihx ihy =>
  intro hD Q l fr fr' a h h' w out TO R S hF he hQ
  cases hc:cX T c with
  | none=>simp[cCode,hc,evCode] at he
  | some z =>
   have r:=zal TO R hc
   simp only[cCode,hc,evCode] at he
   split at he
   ·rename_i b hb
    rw[hb] at r
    have hv:a.eval c=.bool b:=by
     generalize a.eval c=q at r
     cases r;rfl
    refine wp_cond hv ?_
    cases b with
    | true=>simp only[if_true] at he ⊢;exact ihx (hD (by rw[hc];rfl)).1 TO R S hF he hQ
    | false=>simp only[Bool.false_eq_true,if_false] at he ⊢;exact ihy (hD (by rw[hc];rfl)).2 TO R S hF he hQ
   ·cases he
 | block id x ih =>
  intro hD Q l fr fr' a h h' w out TO R S hF he hQ
  simp only[cCode,evCode] at he
  cases hev:evCode call lf (cCode P T x) fr h with
  | none=>simp[hev] at he
  | some r =>
   obtain⟨o1,fr1,h1⟩:=r
   rw[hev] at he
   have hF1:h1.next≤F:=by
    cases o1 with
    | normal=>simp at he;rw[he.2.2];exact hF
    | ret=>simp at he;rw[he.2.2];exact hF
    | exit i =>
     by_cases hi:i=id
     ·simp[hi] at he;rw[he.2.2];exact hF
     ·simp[hi] at he;rw[he.2.2];exact hF
   refine wp_block (ih hD TO R S hF1 hev fun l1 a1 w1 E1 R1 S1 d1=>?_)
   cases o1 with
   | normal=>simp at he;obtain⟨rfl,rfl,rfl⟩:=he;exact hQ l1 a1 w1 E1 R1 S1 d1
   | ret=>simp at he;obtain⟨rfl,rfl,rfl⟩:=he;exact hQ l1 a1 w1 E1 R1 S1 d1
   | exit i =>
    simp only[Out.toExit,Exit.inBlock]
    by_cases hi:i=id
    ·simp[hi] at he;obtain⟨rfl,rfl,rfl⟩:=he
     rw[if_pos hi];exact hQ l1 a1 w1 E1 R1 S1 d1
    ·simp[hi] at he;obtain⟨rfl,rfl,rfl⟩:=he
     rw[if_neg hi];exact hQ l1 a1 w1 E1 R1 S1 d1
 | loop x ih =>
  intro hD Q l fr fr' a h h' w out TO R S hF he hQ
  simp only[cCode,evCode] at he
  have rounds:∀(k:Nat) {l:Loc} {fr:Fr} {a:Act} {h:Hp} {w:World},TabOk key T l→RelF key l fr a.tmps→Sim key F l h w→h'.next≤F→evLoop (evCode call lf (cCode P T x)) k fr h=some (out,fr',h') →
    (∀l' a' w',Ext l h w l' h' w'→RelF key l' fr' a'.tmps→Sim key F l' h' w'→a'.defers=a.defers→Q out.toExit a' w')→Code.rounds P x Q k a w:=by
   intro k
   induction k with
   | zero=>intro l fr a h w _ _ _ _ he _;simp[evLoop] at he
   | succ k ihk =>
    intro l fr a h w TO R S hF he hQ
    simp only[evLoop] at he
    cases hev:evCode call lf (cCode P T x) fr h with
    | none=>simp[hev] at he
    | some r =>
     obtain⟨o1,fr1,h1⟩:=r
     rw[hev] at he
     have hF1:h1.next≤F:=by
      cases o1 with
      | normal=>simp only at he;exact Nat.le_trans (zcr (fun _ _ _ _ _ q=>zbj G lf _ q) _ he).le.next hF
      | exit i=>simp at he;rw[he.2.2];exact hF
      | ret=>simp at he;rw[he.2.2];exact hF
     rw[rounds_succ]
     refine ih hD TO R S hF1 hev fun l1 a1 w1 E1 R1 S1 d1=>?_
     cases o1 with
     | normal =>
      simp only at he
      exact ihk (TO.mono E1.le) R1 S1 hF he fun l2 a2 w2 E2 R2 S2 d2=>hQ l2 a2 w2 (E1.trans (S.hd S1.wf hF1) E2) R2 S2 (d2.trans d1)
     | exit i=>simp at he;obtain⟨rfl,rfl,rfl⟩:=he;exact hQ l1 a1 w1 E1 R1 S1 d1
     | ret=>simp at he;obtain⟨rfl,rfl,rfl⟩:=he;exact hQ l1 a1 w1 E1 R1 S1 d1
  exact wp_loop_rounds lf (rounds lf TO R S hF he hQ)
 | exit id =>
  intro _ Q l fr fr' a h h' w out TO R S hF he hQ
  simp[cCode,evCode] at he
  obtain⟨rfl,rfl,rfl⟩:=he
  exact wp_exit (hQ l a w (.refl _ _ _) R S rfl)
 | scope x ih =>
  intro hD Q l fr fr' a h h' w out TO R S hF he hQ
  simp only[cCode,evCode] at he
  refine wp_scope_straight (ih hD TO R S hF he fun l1 a1 w1 E1 R1 S1 d1=>?_)
  have:=hQ l1 a1 w1 E1 R1 S1 d1
  cases out<;>exact this
 | ret =>
  intro _ Q l fr fr' a h h' w out TO R S hF he hQ
  simp[cCode,evCode] at he
  obtain⟨rfl,rfl,rfl⟩:=he
  exact wp_ret (hQ l a w (.refl _ _ _) R S rfl)
 | goto n=>intro _ Q l fr fr' a h h' w out TO R S hF he hQ;simp[cCode,evCode] at he
 | refuse s=>intro _ Q l fr fr' a h h' w out TO R S hF he hQ;simp[cCode,evCode] at he
 | rangeFunc f ps x y _ _=>intro _ Q l fr fr' a h h' w out TO R S hF he hQ;simp[cCode,evCode] at he
end Go.Eng
namespace Go.Eng
variable {key:Nat→Option FuncId} {P:Program} {T:Tab} {call:Nat→List AV→Hp→Option (AV×Hp)}
structure Reg (P:Program) (key:Nat→Option FuncId) (T:Tab) (call:Nat→List AV→Hp→Option (AV×Hp)) (ops:Array Oper) (F:Nat) (l0:Loc) (fr0:Fr) (a0:Act) (h0:Hp) (w0:World)
  (xs:List XOper) (frA:Nat→Fr) (hA:Nat→Hp) (brn:Nat→Nat):Prop where
 GC:GoodCall call
 HC:Callable P key
 CS:CallSound P key T call
 eq:xs=ops.toList.map (cOper P T ops.toList)
 ok:RegOk xs
 tr:Trace call xs fr0 h0 frA hA
 B:Born xs hA brn
 chk:Checked' xs (frA xs.length) hA
 TO:TabOk key T l0
 S0:Sim key F l0 h0 w0
 hF:(hA xs.length).next≤F
structure Inv (key:Nat→Option FuncId) (F:Nat) (l0:Loc) (fr0:Fr) (a0:Act) (h0:Hp) (w0:World) (xs:List XOper) (frA:Nat→Fr) (hA:Nat→Hp) (brn:Nat→Nat)
  (D:Nat→Prop) (q:Nat) (l:Loc) (frD:Fr) (a:Act) (w:World):Prop where
 le:q≤xs.length
 wr:∀(k:Nat) (o:XOper),xs[k]?=some o→o.op.cls=3→(D k↔k<q)
 closed:Closed xs D
 rel:RelF key l frD a.tmps
 len:frD.length=fr0.length
 done:∀(d:Nat) (o:XOper) (t:Nat),xs[d]?=some o→o.dst=some t→D d→frD[t]?=(frA xs.length)[t]?
 undone:∀(d:Nat) (o:XOper) (t:Nat),xs[d]?=some o→o.dst=some t→¬D d→frD[t]?=fr0[t]?
 other:∀t:Nat,(∀(d:Nat) (o:XOper),xs[d]?=some o→o.dst≠some t)→frD[t]?=fr0[t]?
 sim:Sim key F l (ghost xs hA brn q) w
 ext:Ext l0 h0 w0 l (ghost xs hA brn q) w
 placed:∀n a,l n=some a→(hA 0).next≤n→n<(hA xs.length).next→∃k,D k∧k<xs.length∧(hA k).next≤n∧n<(hA (k+1)).next
 defers:a.defers=a0.defers
section
variable {ops:Array Oper} {F:Nat} {l0:Loc} {fr0:Fr} {a0:Act} {h0:Hp} {w0:World} {xs:List XOper} {frA:Nat→Fr} {hA:Nat→Hp} {brn:Nat→Nat}
 {D:Nat→Prop} {q:Nat} {l:Loc} {frD:Fr} {a:Act} {w:World} {j:Nat} {o:XOper}
theorem Inv.slot (R:Reg P key T call ops F l0 fr0 a0 h0 w0 xs frA hA brn) (I:Inv key F l0 fr0 a0 h0 w0 xs frA hA brn D q l frD a w) (ho:xs[j]?=some o) (hD:¬D j) (hr:∀e∈o.after,D e) {t:Nat} (ht:t∈o.slots) :
  frD[t]?=(frA j)[t]?:=by
 have hj:=zap ho
 by_cases hex:∃(d:Nat) (b:XOper),xs[d]?=some b∧b.dst=some t
 ·obtain⟨d,b,e1,e2⟩:=hex
  rw[R.tr.frame R.ok (by omega) e1 e2]
  rcases R.ok.slot d j b o t e1 ho e2 ht with g|⟨g1,g2⟩|⟨g1,g2⟩
  ·subst g
   rw[if_neg (Nat.lt_irrefl _)]
   exact I.undone d b t e1 e2 hD
  ·rw[if_pos g1]
   exact I.done d b t e1 e2 (zcB g2 I.closed fun o' ho'=>by rw[ho] at ho';cases ho';exact hr)
  ·rw[if_neg (by omega)]
   exact I.undone d b t e1 e2 fun hd=>hD (zd7 g2 I.closed hd)
 ·have hn:∀(d:Nat) (b:XOper),xs[d]?=some b→b.dst≠some t:=fun d b e1 e2=>hex ⟨d,b,e1,e2⟩
  rw[R.tr.frame_none (by omega) hn,I.other t hn]
theorem Inv.opds (R:Reg P key T call ops F l0 fr0 a0 h0 w0 xs frA hA brn) (I:Inv key F l0 fr0 a0 h0 w0 xs frA hA brn D q l frD a w) (ho:xs[j]?=some o) (hD:¬D j) (hr:∀e∈o.after,D e) :
  ∀x∈o.op.opds,x.ev frD=x.ev (frA j):=by
 intro x hx
 cases x with
 | k v=>rfl
 | t t =>
  have:=I.slot R ho hD hr (t:=t) (by simp only[XOper.slots,List.mem_append,List.mem_filterMap];exact .inl ⟨_,hx,rfl⟩)
  simp only[X.ev,List.getD_eq_getElem?_getD,this]
theorem Inv.wanted (R:Reg P key T call ops F l0 fr0 a0 h0 w0 xs frA hA brn) (I:Inv key F l0 fr0 a0 h0 w0 xs frA hA brn D q l frD a w) (ho:xs[j]?=some o) (hD:¬D j) (hr:∀e∈o.after,D e) :
  o.wanted frD=o.wanted (frA j):=by
 unfold XOper.wanted
 cases hg:o.guard with
 | none=>rfl
 | some sb =>
  obtain⟨s,b⟩:=sb
  have:=I.slot R ho hD hr (t:=s) (by simp[XOper.slots,hg])
  simp only[this]
theorem Inv.gap (R:Reg P key T call ops F l0 fr0 a0 h0 w0 xs frA hA brn) (I:Inv key F l0 fr0 a0 h0 w0 xs frA hA brn D q l frD a w) (hj:j<xs.length) (hD:¬D j):∀n b,l n=some b→n<(hA j).next∨(hA (j+1)).next≤n:=by
 intro n b e
 by_cases h1:n<(hA 0).next
 ·exact .inl (Nat.lt_of_lt_of_le h1 (R.tr.next_le R.GC (Nat.zero_le _) (by omega)))
 ·by_cases h2:n<(hA xs.length).next
  ·obtain⟨k,k1,k2,k3,k4⟩:=I.placed n b e (by omega) h2
   by_cases hlt:k<j
   ·exact .inl (Nat.lt_of_lt_of_le k4 (R.tr.next_le R.GC (by omega) (by omega)))
   ·by_cases he:k=j
    ·subst he;exact absurd k1 hD
    ·exact .inr (Nat.le_trans (R.tr.next_le R.GC (by omega) (by omega)) k3)
  ·exact .inr (Nat.le_trans (R.tr.next_le R.GC (by omega) (Nat.le_refl _)) (by omega))
theorem Reg.last (R:Reg P key T call ops F l0 fr0 a0 h0 w0 xs frA hA brn) (ho:xs[j]?=some o) {v:AV} (hp:frA (j+1)=(frA j).put o.dst v) {t:Nat} (ht:o.dst=some t) (hl:t<fr0.length):(frA xs.length)[t]?=some v:=by
 have hj:=zap ho
 have h1:=R.tr.frame R.ok (j:=j+1) (by omega) ho ht
 rw[if_pos (Nat.lt_succ_self _)] at h1
 rw[←h1,hp,ht]
 have hlen:=R.tr.length j (by omega)
 simp only[Fr.put]
 rw[List.getElem?_set_self (by omega)]
theorem Inv.more (R:Reg P key T call ops F l0 fr0 a0 h0 w0 xs frA hA brn) (I:Inv key F l0 fr0 a0 h0 w0 xs frA hA brn D q l frD a w) (ho:xs[j]?=some o) (hD:¬D j) (hr:∀e∈o.after,D e)
  {q':Nat} (hq:q'≤xs.length) (hwr:∀(k:Nat) (o:XOper),xs[k]?=some o→o.op.cls=3→((D k∨k=j)↔k<q')) {l':Loc} (hl:l.le l') {v:AV} {val:Value} (hv:Rel key l' v val) (hp:frA (j+1)=(frA j).put o.dst v) {w':World}
  (S':Sim key F l' (ghost xs hA brn q') w') (E':Ext l0 h0 w0 l' (ghost xs hA brn q') w')
  (hpl:∀n a,l' n=some a→l n=some a∨((hA j).next≤n∧n<(hA (j+1)).next)) :
  Inv key F l0 fr0 a0 h0 w0 xs frA hA brn (fun k=>D k∨k=j) q' l' (frD.put o.dst v) (a.put o.dst val) w':=by
 refine⟨hq,hwr,fun k o' ho' hk e he=>?_,(I.rel.mono hl).put o.dst hv,by rw[Fr.put_length];exact I.len,fun d b t e1 e2 e3=>?_,fun d b t e1 e2 e3=>?_,fun t ht=>?_,S',E',fun n b e1 e2 e3=>?_,?_⟩
 ·rcases hk with hk|rfl
  ·exact .inl (I.closed k o' ho' hk e he)
  ·rw[ho] at ho';cases ho';exact .inl (hr e he)
 ·by_cases hdj:d=j
  ·subst hdj
   rw[ho] at e1;cases e1
   by_cases hlt:t<fr0.length
   ·rw[R.last ho hp e2 hlt,e2]
    simp only[Fr.put]
    rw[List.getElem?_set_self (by rw[I.len];exact hlt)]
   ·rw[List.getElem?_eq_none (by rw[Fr.put_length,I.len];omega),List.getElem?_eq_none (by rw[R.tr.length _ (Nat.le_refl _)];omega)]
  ·rw[Fr.put_ne _ _ fun h=>hdj (R.ok.dst d j b o t e1 ho e2 h)]
   exact I.done d b t e1 e2 (e3.resolve_right hdj)
 ·have hdj:d≠j:=fun h=>e3 (.inr h)
  rw[Fr.put_ne _ _ fun h=>hdj (R.ok.dst d j b o t e1 ho e2 h)]
  exact I.undone d b t e1 e2 fun h=>e3 (.inl h)
 ·rw[Fr.put_ne _ _ (ht j o ho)]
  exact I.other t ht
 ·rcases hpl n b e1 with g|⟨g1,g2⟩
  ·obtain⟨k,k1,k2⟩:=I.placed n b g e2 e3
   exact⟨k,.inl k1,k2⟩
  ·exact⟨j,.inr rfl,zap ho,g1,g2⟩
 ·rw[show (a.put o.dst val).defers=a.defers by cases o.dst<;>rfl]
  exact I.defers
theorem Inv.to (R:Reg P key T call ops F l0 fr0 a0 h0 w0 xs frA hA brn) (I:Inv key F l0 fr0 a0 h0 w0 xs frA hA brn D q l frD a w) (ho:xs[j]?=some o) (hc:o.op.cls=3) (hD:¬D j) (hr:∀e∈o.after,D e) :
  q≤j∧(∀(k:Nat) (b:XOper),xs[k]?=some b→b.op.cls=3→(D k↔k<j))∧ghost xs hA brn q=ghost xs hA brn j:=by
 have hj:=zap ho
 have hqj:q≤j:=by
  have:=I.wr j o ho hc
  by_cases h:j<q
  ·exact absurd (this.2 h) hD
  ·omega
 have none_between:∀(k:Nat) (b:XOper),xs[k]?=some b→b.op.cls=3→q≤k→¬k<j:=fun k b e1 e2 h1 h2=>by
  have hk:D k:=zcB (R.ok.wr k j b o e1 ho h2 e2 hc) I.closed fun o' ho'=>by rw[ho] at ho';cases ho';exact hr
  have:=(I.wr k b e1 e2).1 hk
  omega
 refine⟨hqj,fun k b e1 e2=>?_,?_⟩
 ·rw[I.wr k b e1 e2]
  have:=none_between k b e1 e2
  omega
 ·have:(ghost xs hA brn q).m=(ghost xs hA brn j).m:=by
   funext n
   simp only[ghost]
   split
   ·rename_i hN
    by_cases hb:j≤brn n
    ·rw[Nat.max_eq_right hb,Nat.max_eq_right (by omega)]
    ·rw[Nat.max_eq_left (show brn n≤j by omega)]
     have hB:=R.B n hN
     refine(R.tr.stable R.GC (i:=max q (brn n)) j (by omega) (by omega) ((hB.2 _ (by omega)).2 (by omega)) fun k b k1 k2 k3 k4 _=>?_).symm
     exact absurd k2 (none_between k b k3 k4 (by omega))
   ·rfl
  calc ghost xs hA brn q=⟨(ghost xs hA brn q).m,(hA xs.length).next⟩:=rfl
   _=⟨(ghost xs hA brn j).m,(hA xs.length).next⟩:=by rw[this]
   _=ghost xs hA brn j:=rfl
end
end Go.Eng
namespace Go.Eng
variable {key:Nat→Option FuncId} {P:Program} {T:Tab} {call:Nat→List AV→Hp→Option (AV×Hp)}
 {ops:Array Oper} {F:Nat} {l0:Loc} {fr0:Fr} {a0:Act} {h0:Hp} {w0:World} {xs:List XOper} {frA:Nat→Fr} {hA:Nat→Hp} {brn:Nat→Nat}
 {D:Nat→Prop} {q:Nat} {l:Loc} {frD:Fr} {a:Act} {w:World} {i:Nat} {o:XOper}
theorem Inv.after (I:Inv key F l0 fr0 a0 h0 w0 xs frA hA brn D q l frD a w) (hD:¬D i) {k:Nat} (hk:D k):bef xs k i=false:=by
 cases h:bef xs k i with
 | false=>rfl
 | true=>exact absurd (zd7 h I.closed hk) hD
theorem Inv.before (I:Inv key F l0 fr0 a0 h0 w0 xs frA hA brn D q l frD a w) (ho:xs[i]?=some o) (hr:∀e∈o.after,D e) {k:Nat} (hk:¬D k):bef xs i k=false:=by
 cases h:bef xs i k with
 | false=>rfl
 | true=>exact absurd (zcB h I.closed fun o' ho'=>by rw[ho] at ho';cases ho';exact hr) hk
theorem ziu {o:XO} (hc:o.cls=2):o.looks∈o.opds:=by
 cases o<;>simp[XO.cls] at hc<;>simp[XO.looks,XO.opds]
theorem Inv.read (R:Reg P key T call ops F l0 fr0 a0 h0 w0 xs frA hA brn) (I:Inv key F l0 fr0 a0 h0 w0 xs frA hA brn D q l frD a w) (ho:xs[i]?=some o) (hD:¬D i) (hr:∀e∈o.after,D e)
  (hc:o.op.cls=2) {n:Nat} (hname:(o.op.looks.ev frD).name?=some n) (hn:n<(hA i).next):(ghost xs hA brn q).m n=(hA i).m n:=by
 have hi:=zap ho
 have hN:n<(hA xs.length).next:=Nat.lt_of_lt_of_le hn (R.tr.next_le R.GC (by omega) (Nat.le_refl _))
 obtain⟨hB1,hB2⟩:=R.B n hN
 have hbi:brn n≤i:=(hB2 i (by omega)).1 hn
 have one:∀(k:Nat) (b:XOper),xs[k]?=some b→b.op.cls=3→n<(hA k).next→(i,k)∈chkOf xs→(hA (k+1)).m n=(hA k).m n:=by
  intro k b e1 e2 hk hm
  have hv:=R.chk (i,k) hm o ho (zap e1)
  have:o.op.nameAt (frA xs.length) (hA i).next=some n:=by
   unfold XO.nameAt
   rw[if_neg (by omega),←hname]
   congr 1
   cases hl:o.op.looks with
   | k v=>rfl
   | t t =>
    have hsl:t∈o.slots:=by
     simp only[XOper.slots,List.mem_append,List.mem_filterMap]
     exact .inl ⟨_,ziu hc,by rw[hl];rfl⟩
    have h1:=I.slot R ho hD hr hsl
    have h2:(frA i)[t]?=(frA xs.length)[t]?:=by
     by_cases hex:∃(d:Nat) (b:XOper),xs[d]?=some b∧b.dst=some t
     ·obtain⟨d,b,e1,e2⟩:=hex
      rw[R.tr.frame R.ok (by omega) e1 e2,if_pos (R.ok.look (i,k) hm o t d b ho hl e1 e2)]
     ·have hnn:∀(d:Nat) (b:XOper),xs[d]?=some b→b.dst≠some t:=fun d b e1 e2=>hex ⟨d,b,e1,e2⟩
      rw[R.tr.frame_none (by omega) hnn,R.tr.frame_none (Nat.le_refl _) hnn]
    simp only[X.ev,List.getD_eq_getElem?_getD,h1,h2]
  rw[this] at hv
  exact zhh R.GC R.tr (zap e1) hk hv
 simp only[ghost];rw[if_pos hN]
 by_cases hqi:q≤i
 ·refine(R.tr.stable R.GC (i:=max q (brn n)) i (by omega) (by omega) ((hB2 _ (by have:=I.le;omega)).2 (by omega)) fun k b k1 k2 k3 k4 k5=>?_).symm
  refine one k b k3 k4 k5 (zfT ho k3 k4 (.inl ⟨hc,k2,I.before ho hr fun hk=>?_⟩))
  have:=(I.wr k b k3 k4).1 hk;omega
 ·rw[Nat.max_eq_left (by omega)]
  refine R.tr.stable R.GC (i:=i) q (by omega) I.le hn fun k b k1 k2 k3 k4 k5=>?_
  have hki:k≠i:=fun h=>by subst h;rw[ho] at k3;cases k3;omega
  exact one k b k3 k4 k5 (zfT ho k3 k4 (.inr ⟨.inr hc,by omega,I.after hD ((I.wr k b k3 k4).2 k2)⟩))
theorem Inv.made (R:Reg P key T call ops F l0 fr0 a0 h0 w0 xs frA hA brn) (I:Inv key F l0 fr0 a0 h0 w0 xs frA hA brn D q l frD a w) (ho:xs[i]?=some o) (hD:¬D i)
  (hc:o.op.cls=1) (hnx:(hA i).next<(hA (i+1)).next):(ghost xs hA brn q).m (hA i).next=(hA (i+1)).m (hA i).next:=by
 have hi:=zap ho
 have hN:(hA i).next<(hA xs.length).next:=Nat.lt_of_lt_of_le hnx (R.tr.next_le R.GC (by omega) (Nat.le_refl _))
 obtain⟨hB1,hB2⟩:=R.B _ hN
 have hb:brn (hA i).next=i+1:=by
  have h1:=(hB2 (i+1) (by omega)).1 hnx
  have h2:¬brn (hA i).next≤i:=fun h=>by have:=(hB2 i (by omega)).2 h;omega
  omega
 simp only[ghost];rw[if_pos hN,hb]
 by_cases hqi:q≤i+1
 ·rw[Nat.max_eq_right hqi]
 ·rw[Nat.max_eq_left (by omega)]
  refine R.tr.stable R.GC (i:=i+1) q (by omega) I.le hnx fun k b k1 k2 k3 k4 k5=>?_
  have hm:=zfT ho k3 k4 (.inr ⟨.inl hc,by omega,I.after hD ((I.wr k b k3 k4).2 k2)⟩)
  have hv:=R.chk (i,k) hm o ho (zap k3)
  have:o.op.nameAt (frA xs.length) (hA i).next=some (hA i).next:=by unfold XO.nameAt;rw[if_pos hc]
  rw[this] at hv
  exact zhh R.GC R.tr (zap k3) k5 hv
theorem Reg.wf (R:Reg P key T call ops F l0 fr0 a0 h0 w0 xs frA hA brn) {j:Nat} (hj:j≤xs.length):(hA j).wf:=by
 refine(R.tr.good R.GC j (Nat.zero_le _) hj).wf ?_
 rw[R.tr.h0];exact R.S0.wf
theorem Inv.step {Q:Exit→Act→World→Prop} {K:Act→World→Prop} {op:Oper} (R:Reg P key T call ops F l0 fr0 a0 h0 w0 xs frA hA brn) (I:Inv key F l0 fr0 a0 h0 w0 xs frA hA brn D q l frD a w)
  (hop:ops.toList[i]?=some op) (hD:¬D i) (hr:∀e∈cAfter op,D e)
  (hK:∀q' l' frD' a' w',Inv key F l0 fr0 a0 h0 w0 xs frA hA brn (fun k=>D k∨k=i) q' l' frD' a' w'→K a' w'):wpOp P ops Q i K a w:=by
 obtain⟨o,hoo⟩:∃o,o=cOper P T ops.toList op:=⟨_,rfl⟩
 have ho:xs[i]?=some o:=by rw[R.eq,List.getElem?_map,hop,hoo];rfl
 have hi:=zap ho
 have hdst:o.dst=op.dst:=by rw[hoo];exact zdB _ _
 have hrr:∀e∈o.after,D e:=by
  rw[hoo]
  have:(cOper P T ops.toList op).after=cAfter op:=by unfold cOper;split<;>first|rfl|(split<;>rfl)
  rw[this];exact hr
 have hg:(∀j b,op.guard=some (j,b)→((ops.toList[j]?).bind (·.dst)).isSome=true)∧o.op=(cOp P T op.op).getD .fail:=by
  rcases zgk (P:=P) (T:=T) ops.toList op with h1|⟨h1,h2⟩
  ·rw[hoo];exact h1
  ·exfalso
   rw[←hoo] at h1 h2
   rcases R.tr.step i o ho with⟨_,v,e,_⟩|⟨e,_⟩
   ·rw[h1] at e;simp[XO.ev] at e
   ·simp[XOper.wanted,h2] at e
 have hw:o.wanted frD=Region.wanted op (yielded ops a.tmps):=by rw[hoo];exact zfI I.rel ops op hg.1
 have hop':ops[i]?=some op:=by simpa using hop
 unfold wpOp
 simp only[hop']
 rw[←hw,I.wanted R ho hD hrr]
 have hwrS:o.op.cls<3→∀(k:Nat) (b:XOper),xs[k]?=some b→b.op.cls=3→((D k∨k=i)↔k<q):=fun hc k b e1 e2=>by
  rw[←I.wr k b e1 e2]
  constructor
  ·rintro (h|rfl)
   ·exact h
   ·rw[ho] at e1;cases e1;omega
  ·exact .inl
 have hle3:o.op.cls≤3:=by cases o.op<;>simp[XO.cls]
 have hwrL:o.op.cls=3→(∀(k:Nat) (b:XOper),xs[k]?=some b→b.op.cls=3→((D k∨k=i)↔k<i+1)):=fun hc k b e1 e2=>by
  obtain⟨_,h2,_⟩:=I.to R ho hc hD hrr
  rw[h2 k b e1 e2];omega
 rcases R.tr.step i o ho with⟨w1,v,ev,hp⟩|⟨w1,e1,hp⟩
 ·rw[w1,if_pos rfl]
  left
  have ev':o.op.ev call frD (hA i)=some (v,hA (i+1)):=by rw[zke (I.opds R ho hD hrr)];exact ev
  have hnext:(hA i).next≤(hA (i+1)).next:=R.tr.next_le R.GC (by omega) (by omega)
  have hnextN:(hA (i+1)).next≤(hA xs.length).next:=R.tr.next_le R.GC (by omega) (by omega)
  have h0i:h0.next≤(hA i).next:=by have:=R.tr.next_le R.GC (Nat.zero_le i) (by omega);rwa [R.tr.h0] at this
  by_cases hc:o.op.cls=3
  ·obtain⟨hqi,hwr,hgh⟩:=I.to R ho hc hD hrr
   have S:=I.sim
   have E:=I.ext
   rw[hgh] at S E
   have old:∀{n},n<(hA i).next→(ghost xs hA brn i).m n=(hA i).m n:=fun hn=>zcG R.GC R.tr R.B (by omega) hn
   have inOld:∀{n b},(hA i).m n=some b→n<(hA i).next:=fun {n b} e=>by
    by_cases h:n<(hA i).next
    ·exact h
    ·rw[R.wf (by omega) n (by omega)] at e;cases e
   have part:Part l (hA i) (ghost xs hA brn i):=fun n b c e1 _=>⟨b,by rw[old (inOld e1)];exact e1,rfl,id⟩
   have S1:Sim key (hA (i+1)).next l (hA i) w:=⟨fun n blk c e1 e2=>S.holds n blk c (by rw[old (inOld e1)];exact e1) e2,
    fun n blk c n' blk' c' e1 e2 e3 e4 e5 e6=>S.apart n blk c n' blk' c' (by rw[old (inOld e1)];exact e1) e2 e3 (by rw[old (inOld e4)];exact e4) e5 e6,
    S.lt,I.gap R hi hD,R.wf (by omega)⟩
   rw[hg.2] at ev'
   refine zm5 R.HC R.CS (R.TO.mono I.ext.le) I.rel S1 (Nat.le_refl _) ev' fun l' val w' E1 S1' r1=>?_
   rw[←hdst]
   refine hK (i+1) l' _ _ w' (I.more R ho hD hrr (by omega) (hwrL hc) E1.le r1 hp ?_ ?_ fun n c e=>?_)
   ·refine zoH S E1 S1' part (fun n c blk e1 e2=>?_) (fun n c e=>?_) (zbO _)
    ·by_cases hn:n<(hA (i+1)).next
     ·rw[zcG R.GC R.tr R.B (by omega) hn] at e2
      refine .inl ⟨e2,?_⟩
      cases hl:l n with
      | none=>exact .inl rfl
      | some c' =>
       refine .inr ?_
       have:=I.gap R hi hD n c' hl
       omega
     ·right
      have hln:l n=some c:=by
       rcases E1.new n c e1 with f|⟨_,f,_⟩
       ·exact f
       ·exact absurd f hn
      have hN:n<(hA xs.length).next:=by
       by_cases h:n<(hA xs.length).next
       ·exact h
       ·rw[zbO _ n (by show (hA xs.length).next≤n;omega)] at e2;cases e2
      have hb:¬brn n≤i+1:=fun h=>hn (((R.B n hN).2 (i+1) (by omega)).2 h)
      rw[zfm R.B hN (by omega)] at e2
      refine⟨hln,by rw[zfm R.B hN (by omega)];exact e2,fun b e=>?_⟩
      rw[R.wf (j:=i) (by omega) n (by omega)] at e;cases e
    ·rcases E1.new n c e with f|⟨_,f,_⟩
     ·exact S.dom n c f
     ·exact .inl (Nat.lt_of_lt_of_le f hnextN)
   ·exact zuw (R.S0.hd (zbO _) R.hF) E E1 part (zeG R.GC R.tr R.B (by omega)) (fun n h1 h2=>⟨by omega,by show n<(hA xs.length).next;omega⟩) (Nat.le_refl _)
   ·rcases E1.new n c e with f|⟨f1,f2,_⟩
    ·exact .inl f
    ·exact .inr ⟨f1,f2⟩
  ·have hc3:o.op.cls<3:=by omega
   obtain⟨Hs,hHs⟩:∃Hs:Hp,Hs=⟨fun k=>if (o.op.looks.ev frD).name?=some k∧k<(hA i).next then ((ghost xs hA brn q).m k).map (fun b=>{ b with rw:=false }) else none,(hA i).next⟩:=⟨_,rfl⟩
   have hsn:Hs.next=(hA i).next:=by rw[hHs]
   have hsm:∀{n b},Hs.m n=some b→∃b',(ghost xs hA brn q).m n=some b'∧b={ b' with rw:=false }:=fun {n b} e=>by
    rw[hHs] at e
    simp only at e
    split at e
    ·cases hb:(ghost xs hA brn q).m n with
     | none=>rw[hb] at e;cases e
     | some b'=>rw[hb] at e;cases e;exact⟨b',rfl,rfl⟩
    ·cases e
   have hsr:∀{n b},Hs.m n=some b→b.rw=false:=fun e=>by
    obtain⟨b',_,h2⟩:=hsm e
    rw[h2]
   have part:Part l Hs (ghost xs hA brn q):=fun n b c e1 _=>by
    obtain⟨b',h1,h2⟩:=hsm e1
    exact⟨b',h1,by rw[h2],fun h=>by rw[hsr e1] at h;cases h⟩
   have hsw:Hs.wf:=fun n hn=>by
    rw[hsn] at hn
    rw[hHs];simp only;rw[if_neg (by omega)]
   have holdsS:∀n blk c,Hs.m n=some blk→l n=some c→Holds key l blk c w:=fun n blk c e1 e2=>by
    obtain⟨b',h1,h2⟩:=hsm e1
    have H:=I.sim.holds n b' c h1 e2
    rw[h2]
    exact⟨H.lt,H.len,H.cell,H.scal,fun h=>(by cases h),fun q=>⟨rfl,(H.whole q).2⟩⟩
   have S1:Sim key (hA (i+1)).next l Hs w:=⟨holdsS,
    fun n blk c n' blk' c' e1 e2 e3=>absurd e3 (by rw[hsr e1];simp),
    I.sim.lt,fun n c e=>hsn ▸ I.gap R hi hD n c e,hsw⟩
   have sees:Sees o.op frD (hA i) Hs:=fun n hn b hb=>by
    have hlt:n<(hA i).next:=by
     by_cases h:n<(hA i).next
     ·exact h
     ·rw[R.wf (j:=i) (by omega) n (by omega)] at hb;cases hb
    have hc2:o.op.cls=2:=by
     revert hn
     cases o.op<;>simp[XO.cls,XO.looks,X.ev,AV.name?,undefA]
    have hrd:=I.read R ho hD hrr hc2 hn hlt
    refine⟨{ b with rw:=false },?_,rfl⟩
    rw[hHs];simp only
    rw[if_pos ⟨hn,hlt⟩,hrd,hb];rfl
   have small:∃H',o.op.ev call frD Hs=some (v,H')∧H'.next=(hA (i+1)).next∧(∀n blk,(hA i).next≤n→n<(hA (i+1)).next→(ghost xs hA brn q).m n=some blk→H'.m n=some blk):=by
    rcases zgu hc3 ev' with⟨h1,h2⟩|⟨h1,cs,h2,h3⟩
    ·exact⟨Hs,h2 Hs hsn sees,by rw[hsn,h1],fun n blk g1 g2=>by rw[h1] at g2;omega⟩
    ·refine⟨Hs.push cs,h3 Hs hsn,by simp[Hp.push,hsn,h2],fun n blk g1 g2 g3=>?_⟩
     have hnx:(hA (i+1)).next=(hA i).next+1:=by rw[h2];rfl
     have hn:n=(hA i).next:=by omega
     subst hn
     rw[I.made R ho hD h1 (by omega),h2] at g3
     simp only[Hp.push,if_true] at g3
     simp only[Hp.push,hsn,if_true]
     exact g3
   obtain⟨H',hev,hn',hnew⟩:=small
   rw[hg.2] at hev
   refine zm5 R.HC R.CS (R.TO.mono I.ext.le) I.rel S1 (by rw[hn'];exact Nat.le_refl _) hev fun l' val w' E1 S1' r1=>?_
   rw[←hdst]
   refine hK q l' _ _ w' (I.more R ho hD hrr I.le (hwrS hc3) E1.le r1 hp ?_ ?_ fun n c e=>?_)
   ·refine zoH I.sim E1 S1' part (fun n c blk e1 e2=>?_) (fun n c e=>?_) (zbO _)
    ·rcases E1.new n c e1 with f|⟨f1,f2,_⟩
     ·exact .inr ⟨f,e2,fun b e=>hsr e⟩
     ·left
      rw[hsn] at f1
      rw[hn'] at f2
      refine⟨hnew n blk f1 f2 e2,.inl ?_⟩
      cases hl:l n with
      | none=>rfl
      | some c' =>
       have:=I.gap R hi hD n c' hl
       omega
    ·rcases E1.new n c e with f|⟨_,f,_⟩
     ·exact I.sim.dom n c f
     ·rw[hn'] at f
      exact .inl (Nat.lt_of_lt_of_le f hnextN)
   ·exact zuw (R.S0.hd (zbO _) R.hF) I.ext E1 part (zeG R.GC R.tr R.B I.le) (fun n h1 h2=>by
     rw[hsn] at h1;rw[hn'] at h2
     exact⟨by omega,by show n<(hA xs.length).next;omega⟩) (Nat.le_refl _)
   ·rcases E1.new n c e with f|⟨f1,f2,_⟩
    ·exact .inl f
    ·rw[hsn] at f1;rw[hn'] at f2
     exact .inr ⟨f1,f2⟩
 ·rw[w1,if_neg (by simp)]
  rw[←hdst]
  by_cases hc:o.op.cls=3
  ·obtain⟨hqi,hwr,hgh⟩:=I.to R ho hc hD hrr
   have hgh':ghost xs hA brn q=ghost xs hA brn (i+1):=by
    rw[hgh]
    have:(ghost xs hA brn i).m=(ghost xs hA brn (i+1)).m:=by
     funext n
     simp only[ghost]
     split
     ·by_cases hb:brn n≤i
      ·rw[Nat.max_eq_left hb,Nat.max_eq_left (by omega),e1]
      ·rw[Nat.max_eq_right (by omega),Nat.max_eq_right (by omega)]
     ·rfl
    calc ghost xs hA brn i=⟨(ghost xs hA brn i).m,(hA xs.length).next⟩:=rfl
     _=⟨(ghost xs hA brn (i+1)).m,(hA xs.length).next⟩:=by rw[this]
     _=ghost xs hA brn (i+1):=rfl
   exact hK (i+1) l _ _ w (I.more R ho hD hrr (by omega) (hwrL hc) l.le_refl zbm hp (hgh' ▸ I.sim) (hgh' ▸ I.ext) fun n c e=>.inl e)
  ·exact hK q l _ _ w (I.more R ho hD hrr I.le (hwrS (by omega)) l.le_refl zbm hp I.sim I.ext fun n c e=>.inl e)
end Go.Eng
namespace Go.Eng
variable {key:Nat→Option FuncId} {P:Program} {T:Tab} {call:Nat→List AV→Hp→Option (AV×Hp)}
 {ops:Array Oper} {F:Nat} {l0:Loc} {fr0:Fr} {a0:Act} {h0:Hp} {w0:World} {xs:List XOper} {frA:Nat→Fr} {hA:Nat→Hp} {brn:Nat→Nat}
theorem zfc {listed:Array Bool} {o:Oper} (h:(o.after.all fun e => !Region.binds .any e || listed.getD e.on false)=true):∀e∈cAfter o,listed.getD e false=true:=by
 intro e he
 simp only[cAfter,List.mem_map,List.mem_filter] at he
 obtain⟨x,⟨h1,h2⟩,rfl⟩:=he
 rw[Array.all_eq_true'] at h
 have:=h x (by simpa using h1)
 simpa [h2] using this
theorem zhl {listed:Array Bool} {o:Oper} (h:∀e∈cAfter o,listed.getD e false=true):(o.after.all fun e => !Region.binds .any e || listed.getD e.on false)=true:=by
 rw[Array.all_eq_true']
 intro x hx
 cases hb:Region.binds .any x with
 | false=>rfl
 | true =>
  have:=h x.on (by simp only[cAfter,List.mem_map,List.mem_filter];exact⟨x,⟨by simpa using hx,hb⟩,rfl⟩)
  simp[this]
theorem zfR (o:Oper):(cOper P T ops.toList o).after=cAfter o:=by unfold cOper;split<;>first|rfl|(split<;>rfl)
theorem zcU (ok:RegOk (ops.toList.map (cOper P T ops.toList))) {listed:Array Bool} (hs:listed.size=ops.size) (hr:Region.ready .any ops listed=[]):∀n i,i<n→i<ops.size→listed.getD i false=true
 | 0,i,h,_=>by omega
 | n+1,i,h,hi=>by
  by_cases hlt:i<n
  ·exact zcU ok hs hr n i hlt hi
  ·have:i=n:=by omega
   subst this
   cases hl:listed.getD i false with
   | true=>rfl
   | false =>
    exfalso
    have hm:i∈Region.ready .any ops listed:=by
     simp only[Region.ready,List.mem_filter,List.mem_range]
     refine⟨hi,?_⟩
     have ho:=Array.getElem?_eq_getElem hi
     rw[ho]
     simp only[Option.map_some,Option.getD_some,Bool.and_eq_true,Bool.not_eq_true']
     refine⟨?_,zhl fun e he=>?_⟩
     ·have hil:i<listed.size:=by omega
      simp only[Array.getD_eq_getD_getElem?,Array.getElem?_eq_getElem hil,Option.getD_some] at hl ⊢
      exact hl
     ·have hx:(ops.toList.map (cOper P T ops.toList))[i]?=some (cOper P T ops.toList ops[i]):=by
       rw[List.getElem?_map];simp[hi]
      have he':=ok.edge i _ hx e (by rw[zfR];exact he)
      exact zcU ok hs hr i e he' (by omega)
    rw[hr] at hm
    cases hm
theorem znW {Q:Exit→Act→World→Prop} (R:Reg P key T call ops F l0 fr0 a0 h0 w0 xs frA hA brn)
  (hQ:∀l' a' w',Ext l0 h0 w0 l' (hA xs.length) w'→RelF key l' (frA xs.length) a'.tmps→Sim key F l' (hA xs.length) w'→a'.defers=a0.defers→Q .normal a' w') :
  ∀(fuel:Nat) (listed:Array Bool) {q:Nat} {l:Loc} {frD:Fr} {a:Act} {w:World},listed.size=ops.size→(listed.toList.filter (! ·)).length≤fuel →
   Inv key F l0 fr0 a0 h0 w0 xs frA hA brn (fun k=>listed.getD k false=true) q l frD a w→wpAny P .any ops Q fuel listed a w:=by
 have hlen:xs.length=ops.size:=by rw[R.eq];simp
 have ending:∀{listed:Array Bool} {q:Nat} {l:Loc} {frD:Fr} {a:Act} {w:World},(∀i,i<ops.size→listed.getD i false=true) →
   Inv key F l0 fr0 a0 h0 w0 xs frA hA brn (fun k=>listed.getD k false=true) q l frD a w→Q .normal a w:=by
  intro listed q l frD a w hall I
  have hfr:frD=frA xs.length:=by
   apply List.ext_getElem?
   intro t
   by_cases hex:∃(d:Nat) (b:XOper),xs[d]?=some b∧b.dst=some t
   ·obtain⟨d,b,e1,e2⟩:=hex
    exact I.done d b t e1 e2 (hall d (by have:=zap e1;omega))
   ·have hn:∀(d:Nat) (b:XOper),xs[d]?=some b→b.dst≠some t:=fun d b e1 e2=>hex ⟨d,b,e1,e2⟩
    rw[I.other t hn,R.tr.frame_none (Nat.le_refl _) hn]
  have hgh:ghost xs hA brn q=ghost xs hA brn xs.length:=by
   have:(ghost xs hA brn q).m=(ghost xs hA brn xs.length).m:=by
    funext n
    simp only[ghost]
    split
    ·rename_i hN
     obtain⟨hB1,hB2⟩:=R.B n hN
     rw[Nat.max_eq_left hB1]
     have hq:=I.le
     refine(R.tr.stable R.GC (i:=max q (brn n)) xs.length (by omega) (Nat.le_refl _) ((hB2 _ (by omega)).2 (by omega)) fun k b k1 k2 k3 k4 _=>?_).symm
     have:=(I.wr k b k3 k4).1 (hall k (by omega))
     omega
    ·rfl
   calc ghost xs hA brn q=⟨(ghost xs hA brn q).m,(hA xs.length).next⟩:=rfl
    _=⟨(ghost xs hA brn xs.length).m,(hA xs.length).next⟩:=by rw[this]
    _=ghost xs hA brn xs.length:=rfl
  have hge:=zik (R.wf (Nat.le_refl _)) R.B
  have S:=I.sim
  have E:=I.ext
  rw[hgh,hge] at S E
  exact hQ l a w E (hfr ▸ I.rel) S I.defers
 intro fuel
 induction fuel with
 | zero =>
  intro listed q l frD a w hs hf I
  have hall:∀i,i<ops.size→listed.getD i false=true:=by
   intro i hi
   have hnil:listed.toList.filter (! ·)=[]:=List.length_eq_zero_iff.1 (by omega)
   rw[List.filter_eq_nil_iff] at hnil
   have hil:i<listed.size:=by omega
   have:=hnil listed[i] (by simp)
   simp only[Array.getD_eq_getD_getElem?,Array.getElem?_eq_getElem hil,Option.getD_some]
   simpa using this
  refine⟨?_,ending hall I⟩
  simp only[Region.ready,List.filter_eq_nil_iff,List.mem_range]
  intro i hi
  have hil:i<listed.size:=by omega
  have:=hall i hi
  simp only[Array.getD_eq_getD_getElem?,Array.getElem?_eq_getElem hil,Option.getD_some] at this ⊢
  simp[this]
 | succ fuel ih =>
  intro listed q l frD a w hs hf I
  refine⟨fun hr=>ending (fun i hi=>zcU (R.eq ▸ R.ok) hs hr (i+1) i (by omega) hi) I,fun i hi=>?_⟩
  simp only[Region.ready,List.mem_filter,List.mem_range,Bool.and_eq_true,Bool.not_eq_true'] at hi
  obtain⟨hlt,hnl,haf⟩:=hi
  have ho:=Array.getElem?_eq_getElem hlt
  rw[ho] at haf
  simp only[Option.map_some,Option.getD_some] at haf
  have hil:i<listed.size:=by omega
  have hli:listed[i]=false:=by
   simpa only[Array.getD_eq_getD_getElem?,Array.getElem?_eq_getElem hil,Option.getD_some] using hnl
  have hD:¬listed.getD i false=true:=by
   simp[Array.getD_eq_getD_getElem?,Array.getElem?_eq_getElem hil,hli]
  refine I.step R (by simp[hlt]) hD (zfc haf) fun q' l' frD' a' w' I'=>?_
  have hDD:(fun k=>listed.getD k false=true∨k=i)=(fun k=>(listed.setIfInBounds i true).getD k false=true):=by
   funext k
   apply propext
   simp only[Array.getD_eq_getD_getElem?,Array.getElem?_setIfInBounds]
   by_cases hk:i=k
   ·subst hk;simp[hil]
   ·have:¬k=i:=fun h=>hk h.symm
    simp[hk,this]
  rw[hDD] at I'
  refine ih _ (by simp[hs]) ?_ I'
  have hcount:∀(L:List Bool) (i:Nat) (h:i<L.length),L[i]=false→((L.set i true).filter (! ·)).length+1=(L.filter (! ·)).length:=by
   intro L
   induction L with
   | nil=>intro i h;simp at h
   | cons b L ihL =>
    intro i h hb
    cases i with
    | zero=>simp at hb;subst hb;simp
    | succ i =>
     have:=ihL i (by simpa using h) (by simpa using hb)
     cases b<;>simp[List.filter_cons]<;>omega
  have:=hcount listed.toList i (by simpa using hil) (by simpa using hli)
  rw[Array.toList_setIfInBounds]
  omega
theorem zml (GC:GoodCall call) (HC:Callable P key) (CS:CallSound P key T call) (hm:P.follows .mixedOrders=true) {ops:Array Oper} (hr:regOk (ops.toList.map (cOper P T ops.toList))=true):DrawOk P key T call ops:=by
 intro F id Q l fr fr' a h h' w TO RF S hF he hQ
 refine wp_region_any hm ?_
 obtain⟨frA,hA,tr,e1,e2,hs,e3,e4⟩:=ze6 (zfh he)
 obtain⟨brn,B⟩:=zma GC tr
 have E1:Ext l h w l h { w with drawn:=w.drawn+1 }:=.still rfl rfl rfl rfl
 have S1:Sim key F l h { w with drawn:=w.drawn+1 }:=S.still rfl
 have hl:(ops.toList.map (cOper P T ops.toList)).length=ops.size:=by simp
 have R:Reg P key T call ops F l fr a h { w with drawn:=w.drawn+1 } (ops.toList.map (cOper P T ops.toList)) frA hA brn :=
  ⟨GC,HC,CS,rfl,zhC hr,tr,B,by rw[e1];exact zhn he e3 e4,TO,S1,by rw[e2];exact hF⟩
 have hle0:=tr.next_le GC (Nat.zero_le _) (Nat.le_refl _)
 rw[tr.h0] at hle0
 refine znW R (fun l' a' w' E' R' S' d'=>hQ l' a' w' (E1.trans (S.hd (h1:=h) S.wf (Nat.le_trans hle0 (by rw[e2];exact hF))) (e2 ▸ E')) (e1 ▸ R') (e2 ▸ S') d') ops.size (Array.replicate ops.size false) (by simp) ?_
  (q:=0) (l:=l) (frD:=fr) ?_
 ·exact Nat.le_trans (List.length_filter_le _ _) (by simp)
 ·have hno:∀k,¬(Array.replicate ops.size false).getD k false=true:=by
   intro k
   simp only[Array.getD_eq_getD_getElem?,Array.getElem?_replicate]
   split<;>simp
  have gm:∀n,n<h.next→(ghost (ops.toList.map (cOper P T ops.toList)) hA brn 0).m n=h.m n:=fun n hn=>by
   rw[zcG GC tr B (Nat.zero_le _) (by rw[tr.h0];exact hn),tr.h0]
  have placed:∀n b,l n=some b→n<h.next∨F≤n:=S.dom
  have gh:∀n b blk,l n=some b→(ghost (ops.toList.map (cOper P T ops.toList)) hA brn 0).m n=some blk→h.m n=some blk:=fun n b blk g1 g2=>by
   rcases placed n b g1 with g|g
   ·rw[gm n g] at g2;exact g2
   ·rw[zbO _ n (by show (hA _).next≤n;rw[e2];exact Nat.le_trans hF g)] at g2;cases g2
  refine⟨Nat.zero_le _,fun k o _ _=>⟨fun h=>absurd h (hno k),fun h=>by omega⟩,fun k o _ hk=>absurd hk (hno k),RF,rfl,fun d o t _ _ hd=>absurd hd (hno d),fun _ _ _ _ _ _=>rfl,fun _ _=>rfl,?_,?_,fun n b g1 g2 g3=>?_,rfl⟩
  ·exact⟨fun n blk b g1 g2=>S1.holds n blk b (gh n b blk g2 g1) g2,fun n blk b n' blk' b' g1 g2 g3 g4 g5 g6=>S1.apart n blk b n' blk' b' (gh n b blk g2 g1) g2 g3 (gh n' b' blk' g5 g4) g5 g6,
    S1.lt,fun n b g=>by
     rcases placed n b g with k|k
     ·exact .inl (Nat.lt_of_lt_of_le k hle0)
     ·exact .inr k,zbO _⟩
  ·exact⟨l.le_refl,zeG GC tr B (Nat.zero_le _),fun n b g=>.inl g,Nat.le_refl _,rfl,rfl,rfl,fun _ _ _=>rfl⟩
  ·rw[tr.h0] at g2
   rw[e2] at g3
   rcases placed n b g1 with k|k
   ·omega
   ·omega
def XC.regsOk:XC→Bool
 | .drw ops _=>regOk ops
 | .seq a b=>a.regsOk&&b.regsOk
 | .cond _ a b=>a.regsOk&&b.regsOk
 | .block _ a=>a.regsOk
 | .loop a=>a.regsOk
 | .scope a=>a.regsOk
 | _=>true
theorem zcD (GC:GoodCall call) (HC:Callable P key) (CS:CallSound P key T call) (hm:P.follows .mixedOrders=true):∀(c:Code),(cCode P T c).regsOk=true→Draws P key T call c:=by
 intro c
 induction c with
 | region id ops draw =>
  intro h hd
  simp only[cCode,hd,if_true,XC.regsOk] at h
  exact zml GC HC CS hm h
 | seq a b iha ihb =>
  intro h
  simp only[cCode,XC.regsOk,Bool.and_eq_true] at h
  exact⟨iha h.1,ihb h.2⟩
 | cond c a b iha ihb =>
  intro h hc
  obtain⟨x,hx⟩:=Option.isSome_iff_exists.1 hc
  simp only[cCode,hx,XC.regsOk,Bool.and_eq_true] at h
  exact⟨iha h.1,ihb h.2⟩
 | block _ a ih=>intro h;exact ih h
 | loop a ih=>intro h;exact ih h
 | scope a ih=>intro h;exact ih h
 | _=>intro _;trivial
end Go.Eng
namespace Go.Eng
variable {key:Nat→Option FuncId} {P:Program} {T:Tab}
theorem zju {F:Nat} {l:Loc} {h:Hp} {w:World} {fr:Fr} {tmps:Array Value} (S:Sim key F l h w) (R:RelF key l fr tmps) {r:ResultVar} {x:XR} (hc:cRes P r=some x) {v:AV} (hv:resOne fr h x=some v) :
  ∃val,(match r with | .tmp t=>(pure (tmps.getD t undef):Sem Value) | .cell a t=>do loadVar t (←asAddr (tmps.getD a undef))).run P w=.ok val w∧Rel key l v val:=by
 cases r with
 | tmp t =>
  simp[cRes] at hc;subst hc
  simp[resOne] at hv;subst hv
  exact⟨_,rfl,R.get t⟩
 | cell a t =>
  simp only[cRes] at hc
  split at hc
  ·rename_i g n hg hn
   cases hc
   simp only[resOne] at hv
   have ra:=R.get a
   split at hv
   ·rename_i m off hp
    split at hv
    ·rename_i ls hrd
     rw[show fr.getD a undefA=.p m off from hp] at ra
     show ∃val,(do loadVar t (←asAddr (tmps.getD a undef)):Sem Value).run P w=.ok val w∧_
     generalize tmps.getD a undef=va at ra ⊢
     cases ra with
     | p hl =>
      obtain⟨ws,h1,h2,h3,_⟩:=zeW S hrd hl
      obtain⟨p1,p2⟩:=zfF hv h1
      exact⟨_,by simp only[asAddr,pure_bind,zgF hg hn h2 h3 (fun q=>by rw[←h2];exact p1 q)],p2⟩
    ·cases hv
   ·cases hv
  ·cases hc
theorem zlS {F:Nat} {l:Loc} {h:Hp} {w:World} {fr:Fr} {tmps:Array Value} (S:Sim key F l h w) (R:RelF key l fr tmps):∀{rs:List ResultVar} {xs:List XR} {vs:List AV},cRess P rs=some xs→resA fr h xs=some vs →
  ∃vals:List Value,(rs.mapM fun(r:ResultVar)=>(match r with | .tmp t=>(pure (tmps.getD t undef):Sem Value) | .cell a t=>do loadVar t (←asAddr (tmps.getD a undef)))).run P w=.ok vals w∧RelL key l vs vals
 | [],xs,vs,hc,hv=>by
  simp[cRess] at hc;subst hc
  simp[resA] at hv;subst hv
  exact⟨[],rfl,.nil⟩
 | r::rs,xs,vs,hc,hv=>by
  simp only[cRess] at hc
  split at hc
  ·rename_i x xs' h1 h2
   cases hc
   simp only[resA] at hv
   split at hv
   ·rename_i v vs' h3 h4
    cases hv
    obtain⟨val,e1,r1⟩:=zju S R h1 h3
    obtain⟨vals,e2,r2⟩:=zlS S R h2 h4
    refine⟨val::vals,?_,.cons r1 r2⟩
    rw[List.mapM_cons]
    simp only[Sem.run_bind]
    erw [e1]
    simp only[Result.andThen_ok,Sem.run_bind]
    erw [e2]
    rfl
   ·cases hv
  ·cases hc
theorem zhE {F:Nat} {l:Loc} {h:Hp} {w:World} {fr:Fr} {tmps:Array Value} (S:Sim key F l h w) (R:RelF key l fr tmps) {fn:Func} {xs:List XR} {vs:List AV} (hc:cRess P fn.results.toList=some xs) (hv:resA fr h xs=some vs) :
  ∃val,(results fn tmps).run P w=.ok val w∧Rel key l (packA vs) val:=by
 obtain⟨vals,e,r⟩:=zlS S R hc hv
 have hrun:(results fn tmps).run P w=.ok (if h:vals.toArray.size=1 then vals.toArray[0] else .tuple vals.toArray) w:=by
  unfold results
  rw[Array.mapM_eq_mapM_toList]
  simp only[Sem.run_bind,map_eq_pure_bind,bind_assoc,pure_bind]
  erw [e]
  rfl
 refine⟨_,hrun,?_⟩
 have hlen:=r.1
 by_cases h1:vals.length=1
 ·obtain⟨val,rfl⟩:=List.length_eq_one_iff.1 h1
  obtain⟨v,rfl⟩:=List.length_eq_one_iff.1 (hlen.trans h1)
  have:=r.2 0 (by simp) (by simp)
  simpa [packA] using this
 ·have hp:packA vs=.tu vs:=by
   unfold packA
   split
   ·simp at hlen;omega
   ·rfl
  rw[hp]
  simp only[List.size_toArray,h1,dif_neg,not_false_eq_true]
  exact .tu (by simpa using hlen) fun i q1 q2=>by simpa using r.2 i q1 (by simpa using q2)
structure ProgOk (P:Program) (key:Nat→Option FuncId) (T:Tab) (prog:Nat→Option XD):Prop where
 mixed:P.follows .mixedOrders=true
 call:Callable P key
 fn:∀f xf g,prog f=some (.fn xf)→key f=some g→∃fn,P.funcs[g]?=some fn∧cFunc P T fn=some xf∧xf.body.regsOk=true
 good:∀f o args h v h',prog f=some (.orc o)→o args h=some (v,h')→HpOk h h'
 orc:∀f o g,prog f=some (.orc o)→key f=some g→∀F args vs h h' v l w,o args h=some (v,h')→h'.next≤F→TabOk key T l→RelL key l args vs.toList→Sim key F l h w →
  Calls P g vs w fun e w'=>∃l' val,e=.returned val∧Ext l h w l' h' w'∧Sim key F l' h' w'∧Rel key l' v val
variable {prog:Nat→Option XD}
theorem zdn (K:ProgOk P key T prog):∀k,GoodCall (evF prog k)
 | 0=>fun f args h v h' he=>by simp[evF] at he
 | k+1=>fun f args h v h' he=>by
  simp only[evF] at he
  split at he
  ·rename_i xf hx
   split at he
   ·cases he
   ·rename_i o fr h1 hno hev
    cases hr:resA fr h1 xf.res with
    | none=>simp[hr] at he
    | some vs =>
     simp[hr] at he
     rw[←he.2]
     exact zbj (zdn K k) k _ hev
   ·cases he
  ·rename_i o ho
   exact K.good f o args h v h' ho he
  ·cases he
theorem zb7 (K:ProgOk P key T prog):∀k,CallSound P key T (evF prog k)
 | 0=>fun F f g args vs h h' v l w he=>by simp[evF] at he
 | k+1=>fun F f g args vs h h' v l w he hk hF TO RL S=>by
  simp only[evF] at he
  split at he
  ·rename_i xf hx
   obtain⟨fn,h1,h2,h3⟩:=K.fn f xf g hx hk
   unfold cFunc at h2
   split at h2
   ·rename_i c rs hb hrs
    cases h2
    split at he
    ·cases he
    ·rename_i o fr h1' hno hev
     cases hr:resA fr h1' rs with
     | none=>simp[hr] at he
     | some vs' =>
      simp[hr] at he
      obtain⟨rfl,rfl⟩:=he
      have RF:RelF key l (args++List.replicate (fn.ntmps-args.length) undefA) (vs++Array.replicate (fn.ntmps-vs.size) undef):=by
       have hlen:args.length=vs.size:=by simpa using RL.1
       unfold RelF
       rw[Array.toList_append,Array.toList_replicate,hlen]
       refine RL.append ⟨by simp,fun i q1 q2=>?_⟩
       rw[List.getElem_replicate,List.getElem_replicate]
       exact zbm
      refine calls_of_wp h1 hb ?_
      refine zdD (zdn K k) K.call (zb7 K k) k c (zcD (zdn K k) K.call (zb7 K k) K.mixed c h3) TO RF S hF hev fun l' a' w' E R' S' hd=>?_
      obtain⟨val,hrun,hrel⟩:=zhE S' R' hrs hr
      cases o with
      | normal=>exact⟨hd,val,hrun,l',val,rfl,E,S',hrel⟩
      | ret=>exact⟨hd,val,hrun,l',val,rfl,E,S',hrel⟩
      | exit i=>exact(hno i rfl).elim
    ·cases he
   ·cases h2
  ·rename_i o ho
   exact K.orc f o g ho hk F args vs h h' v l w he hF TO RL S
  ·cases he
end Go.Eng
namespace Go.Eng
inductive PV where
 | b (v:Bool)
 | i (k:IntKind) (n:Int)
 | s (l:List UInt8)
 | p (n off:Nat)
 | fp (l:List PV)
 | pn
 | sl (n off len cap z:Nat)
 | lst (l:List PV)
 | nl
 | fn (f:Nat) (l:List PV)
 | fnil
 | inil
 | ia (t:Nat) (v:PV)
 | ag (l:List PV)
 | tu (l:List PV)
 | bad
def PV.scal:PV→Bool
 | .ag _ | .tu _ | .bad=>false
 | _=>true
def PV.cells:PV→List PV
 | .ag l=>l
 | v=>[v]
def undefP:PV:=.tu []
def cst0:AV→PV
 | .b v=>.b v
 | .i k n=>.i k n
 | .s l=>.s l
 | .pn=>.pn
 | .sn | .se=>.nl
 | .e0=>.lst []
 | .fn f []=>.fn f []
 | .fnil=>.fnil
 | .inil=>.inil
 | .p _ _=>.bad
 | .sl _ _ _ _ _=>.bad
 | _=>undefP
def cst (G:Nat→Option (List AV)):AV→PV
 | .p n off=>match G n with|some l=>.fp ((l.map cst0).drop off)|none=>.bad
 | .ag l=>.ag (l.map cst0)
 | v=>cst0 v
structure PB where
 v:List PV
 rw:Bool
 ver:Nat
abbrev PM:=List (Option PB)
abbrev PFr:=Nat→PV
def PFr.put (fr:PFr) (d:Nat) (v:PV):PFr:=fun k=>if k=d then v else fr k
def PFr.putO (fr:PFr) (d:Option Nat) (v:PV):PFr:=match d with|some d=>fr.put d v|none=>fr
def frOf (l:List PV):PFr:=fun k=>l.getD k undefP
def X.pv (G:Nat→Option (List AV)) (fr:PFr):X→PV
 | .t n=>fr n
 | .k v=>cst G v
def PM.blk (M:PM) (n:Nat):Option PB:=(M[n]?).join
def PM.rd (M:PM) (n off k:Nat):Option (List PV) :=
 match PM.blk M n with
 | some b=>if off+k≤b.v.length then some ((b.v.drop off).take k) else none
 | none=>none
def psplice (l:List PV) (off:Nat) (cs:List PV):List PV:=l.take off++cs++l.drop (off+cs.length)
def flat (xs:List PV):List PV:=xs.flatMap PV.cells
def ez (z:Nat) (xs:List PV):Bool:=xs.all fun x=>decide (x.cells.length=z)
def group (z:Nat):Nat→List PV→List PV
 | 0,_=>[]
 | k+1,cs=>(if z=1 then cs.headD undefP else .ag (cs.take z))::group z k (cs.drop z)
def oneP:List PV→Option PV
 | [v]=>some v
 | _=>none
def pickP (g:Bool) (l:List PV):Option PV:=if g then some (.ag l) else oneP l
def asIP:PV→Option Int
 | .i _ n=>some n
 | _=>none
def asNP (v:PV):Option Nat:=match asIP v with|some n=>if 0≤n then some n.toNat else none|none=>none
def optP (d:Nat):Option PV→Option Nat
 | some v=>asNP v
 | none=>some d
def binP (op:BinOp) (x y:PV):Option PV :=
 match x,y with
 | .i k a,.i k' b=>(numBin op k k' a b).map cst0
 | .s a,.s b=>(strBin op a b).map cst0
 | _,_=>none
def eqTP (c:Nat) (x y:PV):Option Bool :=
 match c,x,y with
 | 0,.b a,.b b=>some (a==b)
 | 1,.pn,.pn=>some true
 | 1,.p _ _,.pn=>some false
 | 1,.fp _,.pn=>some false
 | 1,.pn,.p _ _=>some false
 | 1,.pn,.fp _=>some false
 | 1,.p n o,.p n' o'=>if n=n' then some (o==o') else none
 | 2,.inil,.inil=>some true
 | 2,.ia _ _,.inil=>some false
 | 2,.inil,.ia _ _=>some false
 | 3,.sl _ _ _ _ _,_=>some false
 | 3,.lst (_::_),_=>some false
 | _,_,_=>none
def eqCellP (k:Nat) (x y:PV):Option Bool :=
 match k,x,y with
 | 0,.b a,.b b=>some (a==b)
 | 1,.i k a,.i k' b=>if k=k' then some (a==b) else none
 | 2,.s a,.s b=>some (a==b)
 | _,_,_=>none
def eqCellsP:List Nat→List PV→List PV→Option Bool
 | [],[],[]=>some true
 | k::ks,x::xs,y::ys =>
  match eqCellP k x y,eqCellsP ks xs ys with
  | some a,some b=>some (a&&b)
  | _,_=>none
 | _,_,_=>none
def unP (op:UnOp) (x:PV):Option PV :=
 match op,x with
 | .neg,.i k n=>some (.i k (k.wrap (0-n)))
 | .xor,.i k n=>some (.i k (k.wrap (BitVec.ofInt k.bits (if k.signed then-1 else k.max) ^^^ BitVec.ofInt k.bits n).toNat))
 | .not,.b v=>some (.b (!v))
 | _,_=>none
def bytesP:List PV→Option (List UInt8)
 | []=>some []
 | .i .u8 n::l=>(bytesP l).map fun r=>UInt8.ofNat n.toNat::r
 | _=>none
def u8p (l:List UInt8):List PV:=l.map fun c=>.i .u8 c.toNat
def srcP (M:PM) (z:Nat):PV→Option (Nat×List PV)
 | .sl n off len _ z'=>if len=0 then some (0,[]) else if z'=z then (PM.rd M n off (len*z)).map fun l=>(len,l) else none
 | .nl=>some (0,[])
 | .lst xs=>if ez z xs then some (xs.length,flat xs) else none
 | .s l=>if z=1 then some (l.length,u8p l) else none
 | _=>none
def appP (M:PM) (z bytes:Nat) (s x:PV):Option (PV×PM) :=
 match srcP M z x with
 | none=>none
 | some (n,cs) =>
  match s with
  | .nl =>
   if n=0 then some (.nl,M)
   else if n*bytes≤140737488355328 then some (.sl M.length 0 n n z,M++[some ⟨cs,true,0⟩]) else none
  | .sl m off len _ z' =>
   if z'≠z then none else
   if n=0 then some (s,M) else
   match PM.blk M m with
   | some b =>
    if b.rw=true∧off+len*z≤b.v.length∧(len+n)*bytes≤140737488355328 then
     some (.sl M.length 0 (len+n) (len+n) z,M.set m none++[some ⟨(b.v.drop off).take (len*z)++cs,true,0⟩])
    else none
   | none=>none
  | _=>none
def cpyP (M:PM) (z:Nat) (d s:PV):Option (PV×PM) :=
 match srcP M z s with
 | none=>none
 | some (n,cs) =>
  match d with
  | .nl=>some (.i .i64 0,M)
  | .sl m off len _ z' =>
   if z'≠z then none else
   match PM.blk M m with
   | some b =>
    if b.rw=true∧off+min n len*z≤b.v.length then
     some (.i .i64 (min n len:Nat),M.set m (some ⟨psplice b.v off (cs.take (min n len*z)),true,b.ver+1⟩))
    else none
   | none=>none
  | _=>none
def slP (z:Nat) (x:PV) (lo hi mx:Option PV):Option PV :=
 match x with
 | .sl n off len cap z' =>
  if z'≠z then none else
  match optP cap mx,optP len hi,optP 0 lo with
  | some m,some h,some l =>
   if l≤h∧h≤m∧m≤cap∧(mx.isSome=true→hi.isSome=true) then
    if m=l then (if mx.isSome then some .nl else some (.lst []))
    else some (.sl n (off+l*z) (h-l) (m-l) z)
   else none
  | _,_,_=>none
 | .nl =>
  match optP 0 mx,optP 0 hi,optP 0 lo with
  | some 0,some 0,some 0=>if mx.isSome then none else some .nl
  | _,_,_=>none
 | .lst xs =>
  if mx.isSome then none else
  match optP xs.length hi,optP 0 lo with
  | some h,some l=>if l≤h∧h≤xs.length∧ez z xs=true then some (.lst ((xs.take h).drop l)) else none
  | _,_=>none
 | _=>none
def slStrP (l:List UInt8) (lo hi:Option PV):Option PV :=
 match optP l.length hi,optP 0 lo with
 | some h,some a=>if a≤h∧h≤l.length then some (.s ((l.take h).drop a)) else none
 | _,_=>none
def mmP (mx:Bool) (x:PV):List PV→Option PV
 | []=>some x
 | y::l =>
  match x,y with
  | .i k a,.i k' b=>if k=k' then mmP mx (.i k (if mx then (if b>a then b else a) else (if b<a then b else a))) l else none
  | _,_=>none
section
variable (G:Nat→Option (List AV))
def fillP (fr:PFr):List PV→List (Nat×Nat×X)→Option (List PV)
 | z,[]=>some z
 | z,(off,size,x)::ps =>
  let cs:=(x.pv G fr).cells
  if cs.length=size∧off+size≤z.length∧cs.all PV.scal=true then fillP fr (psplice z off cs) ps else none
def XO.pev (fr:PFr) (M:PM):XO→Option (PV×PM)
 | .mov x=>some (x.pv G fr,M)
 | .pick c a b =>
  match c.pv G fr with
  | .b v=>some (if v then a.pv G fr else b.pv G fr,M)
  | _=>none
 | .new z=>if (z.map cst0).all PV.scal then some (.p M.length 0,M++[some ⟨z.map cst0,true,0⟩]) else none
 | .box x=>if (x.pv G fr).cells.all PV.scal then some (.p M.length 0,M++[some ⟨(x.pv G fr).cells,true,0⟩]) else none
 | .build z ps=>(fillP G fr (z.map cst0) ps).map fun l=>(.ag l,M)
 | .bsl n sz z ps =>
  if n*sz≤16777216∧z.length=sz∧(z.map cst0).all PV.scal=true then
   match fillP G fr (List.replicate n (z.map cst0)).flatten ps with
   | some l=>if n=0 then some (.nl,M) else some (.sl M.length 0 n n sz,M++[some ⟨l,true,0⟩])
   | none=>none
  else none
 | .load agg n x =>
  match x.pv G fr with
  | .p m off=>match PM.rd M m off n with|some l=>(pickP agg l).map fun v=>(v,M)|none=>none
  | .fp l=>if n≤l.length∧n≠0 then (pickP agg (l.take n)).map fun v=>(v,M) else none
  | _=>none
 | .store n a x =>
  match a.pv G fr with
  | .p m off =>
   match PM.blk M m with
   | some b =>
    if b.rw=true∧(x.pv G fr).cells.length=n∧off+n≤b.v.length∧(x.pv G fr).cells.all PV.scal=true then
     some (undefP,M.set m (some ⟨psplice b.v off (x.pv G fr).cells,true,b.ver+1⟩))
    else none
   | none=>none
  | _=>none
 | .nilck x =>
  match x.pv G fr with
  | .p m off=>some (.p m off,M)
  | .fp l=>some (.fp l,M)
  | .fn f l=>some (.fn f l,M)
  | _=>none
 | .bin op x y=>(binP op (x.pv G fr) (y.pv G fr)).map fun v=>(v,M)
 | .eqt ne c x y=>(eqTP c (x.pv G fr) (y.pv G fr)).map fun v=>(.b (if ne then !v else v),M)
 | .eqa ne ks x y =>
  match x.pv G fr,y.pv G fr with
  | .ag xs,.ag ys=>(eqCellsP ks xs ys).map fun v=>(.b (if ne then !v else v),M)
  | _,_=>none
 | .un op x=>(unP op (x.pv G fr)).map fun v=>(v,M)
 | .cint k x=>match x.pv G fr with | .i _ n=>some (.i k (k.wrap n),M)|_=>none
 | .cstr x=>match x.pv G fr with | .s l=>some (.s l,M)|_=>none
 | .b2s x =>
  match x.pv G fr with
  | .nl=>some (.s [],M)
  | .sl n off ln _ z =>
   if ln=0 then some (.s [],M) else
   if z=1 then (match (PM.rd M n off ln).bind bytesP with|some l=>some (.s l,M)|none=>none) else none
  | .lst xs=>match bytesP xs with|some l=>some (.s l,M)|none=>none
  | _=>none
 | .s2b x =>
  match x.pv G fr with
  | .s l=>if l=[] then some (.lst [],M) else some (.sl M.length 0 l.length l.length 1,M++[some ⟨u8p l,true,0⟩])
  | _=>none
 | .mif t x=>if (x.pv G fr).scal then some (.ia t (x.pv G fr),M) else none
 | .mfn f l=>some (.fn f (l.map (X.pv G fr)),M)
 | .msl z bytes n c =>
  match asNP (n.pv G fr),asNP (c.pv G fr) with
  | some a,some b =>
   if a≤b∧b*bytes≤281474976710656∧b≤9223372036854775807∧(z.map cst0).all PV.scal=true then
    (if b=0 then some (.nl,M) else some (.sl M.length 0 a b z.length,M++[some ⟨(List.replicate b (z.map cst0)).flatten,true,0⟩]))
   else none
  | _,_=>none
 | .slstr x lo hi=>match x.pv G fr with | .s l=>(slStrP l (lo.map (X.pv G fr)) (hi.map (X.pv G fr))).map fun v=>(v,M)|_=>none
 | .slsl z x lo hi mx=>(slP z (x.pv G fr) (lo.map (X.pv G fr)) (hi.map (X.pv G fr)) (mx.map (X.pv G fr))).map fun v=>(v,M)
 | .slarr n z x lo hi =>
  match x.pv G fr with
  | .p m off =>
   match PM.blk M m with
   | some b=>if off+n*z≤b.v.length then (slP z (.sl m off n n z) (lo.map (X.pv G fr)) (hi.map (X.pv G fr)) none).map fun v=>(v,M) else none
   | none=>none
  | .fp l=>if n*z≤l.length∧n*z≠0∧l.all PV.scal=true then (slP z (.lst (group z n (l.take (n*z)))) (lo.map (X.pv G fr)) (hi.map (X.pv G fr)) none).map fun v=>(v,M) else none
  | _=>none
 | .fad off x =>
  match x.pv G fr with
  | .p m o=>some (.p m (o+off),M)
  | .fp l=>some (.fp (l.drop off),M)
  | _=>none
 | .fld agg off n x=>match x.pv G fr with | .ag l=>if off+n≤l.length then (pickP agg ((l.drop off).take n)).map fun v=>(v,M) else none|_=>none
 | .ixa ln sz x i =>
  match x.pv G fr,asNP (i.pv G fr) with
  | .p m off,some j=>if j<ln then some (.p m (off+j*sz),M) else none
  | .fp l,some j=>if j<ln then some (.fp (l.drop (j*sz)),M) else none
  | _,_=>none
 | .ixs sz x i =>
  match x.pv G fr,asNP (i.pv G fr) with
  | .sl m off ln _ z,some j=>if j<ln∧z=sz then some (.p m (off+j*sz),M) else none
  | .lst xs,some j=>match xs[j]? with|some y=>if y.cells.length=sz then some (.fp y.cells,M) else none|none=>none
  | _,_=>none
 | .iag ln agg sz x i =>
  match x.pv G fr,asNP (i.pv G fr) with
  | .ag l,some j=>if j<ln∧l.length=ln*sz then (pickP agg ((l.drop (j*sz)).take sz)).map fun v=>(v,M) else none
  | _,_=>none
 | .istr x i =>
  match x.pv G fr,asNP (i.pv G fr) with
  | .s l,some j=>(l[j]?).map fun c=>(.i .u8 c.toNat,M)
  | _,_=>none
 | .ext x n=>match x.pv G fr with | .tu l=>(l[n]?).map fun v=>(v,M)|_=>none
 | .lens x=>match x.pv G fr with | .s l=>some (.i .i64 l.length,M)|_=>none
 | .len x =>
  match x.pv G fr with
  | .sl _ _ ln _ _=>some (.i .i64 ln,M)
  | .nl=>some (.i .i64 0,M)
  | .lst xs=>some (.i .i64 xs.length,M)
  | _=>none
 | .lenc n=>some (.i .i64 n,M)
 | .app z bytes s x=>appP M z bytes (s.pv G fr) (x.pv G fr)
 | .cpy z d s=>cpyP M z (d.pv G fr) (s.pv G fr)
 | .mm mx x l=>(mmP mx (x.pv G fr) (l.map (X.pv G fr))).map fun v=>(v,M)
 | .call _ _=>none
 | .callv _ _=>none
 | .fail=>none
abbrev PCall:=Nat→List PV→PM→Option (PV×PM)
def XO.pst (call:PCall) (fr:PFr) (M:PM):XO→Option (PV×PM)
 | .call f l=>call f (l.map (X.pv G fr)) M
 | .callv x l=>match x.pv G fr with | .fn f c=>call f (l.map (X.pv G fr)++c) M|_=>none
 | o=>o.pev G fr M
def XOper.pw (o:XOper) (fr:PFr):Option Bool :=
 match o.guard with
 | none=>some true
 | some (s,b)=>match fr s with | .b c=>some (c==b) | .tu []=>some false|_=>none
def pOps (call:PCall):List XOper→PFr→PM→Option (PFr×PM)
 | [],fr,M=>some (fr,M)
 | o::l,fr,M =>
  match o.pw fr with
  | some true=>match o.op.pst G call fr M with|some (v,M')=>pOps call l (fr.putO o.dst v) M'|none=>none
  | some false=>pOps call l (fr.putO o.dst undefP) M
  | none=>none
def pOpsT (call:PCall):List XOper→PFr→PM→Option (PFr×List PM)
 | [],fr,M=>some (fr,[M])
 | o::l,fr,M =>
  match o.pw fr with
  | some true=>match o.op.pst G call fr M with|some (v,M')=>(pOpsT call l (fr.putO o.dst v) M').map fun r=>(r.1,M::r.2)|none=>none
  | some false=>(pOpsT call l (fr.putO o.dst undefP) M).map fun r=>(r.1,M::r.2)
  | none=>none
def verP (n:Option Nat) (M M':PM):Bool :=
 match n with
 | some n=>((M[n]?).map fun b=>b.map PB.ver)==((M'[n]?).map fun b=>b.map PB.ver)
 | none=>true
def fixedX (ops:List XOper) (t:Nat):X→Bool
 | .t s=>(ops.drop t).all fun o=>o.dst != some s
 | .k _=>true
def chkV (ops:List XOper) (t:Nat) (x:X) (C D:PM):PV→Bool
 | .p n _=>verP (some n) C D
 | .sl n _ ln _ _=>if ln=0 then true else verP (some n) C D
 | .bad=>false
 | .tu _=>true
 | _=>fixedX ops t x
def chkP0 (ops:List XOper) (fr:PFr) (Ms:List PM) (c:Nat×Nat):Bool :=
 match ops[c.1]?,Ms[c.1]?,Ms[c.1+1]?,Ms[c.2]?,Ms[c.2+1]? with
 | some o,some A,some B,some C,some D=>if o.op.cls=1 then decide (A.length<B.length)&&verP (some A.length) C D else chkV ops c.2 o.op.looks C D (o.op.looks.pv G fr)
 | _,_,_,_,_=>false
def chkS (ops:List XOper) (Ms:List PM) (c:Nat×Nat):Bool :=
 match ops[c.1]?,Ms[c.1]?,Ms[c.2]?,Ms[c.2+1]? with
 | some _,some _,some C,some D=>decide (C.map (Option.map PB.ver)=D.map (Option.map PB.ver))
 | _,_,_,_=>false
def chkP (ops:List XOper) (fr:PFr) (Ms:List PM) (c:Nat×Nat):Bool :=
 (chkP0 G ops fr Ms c) || (chkS ops Ms c)
def pDrw (call:PCall) (ops:List XOper) (chk:List (Nat×Nat)) (fr:PFr) (M:PM):Option (PFr×PM) :=
 if chk=[] then pOps G call ops fr M else
 match pOpsT G call ops fr M with
 | some (fr',Ms)=>if chk.all (chkP G ops fr' Ms) then (Ms.getLast?).map fun M'=>(fr',M') else none
 | none=>none
abbrev PStep:=PFr→PM→Option (Out×PFr×PM)
def pLoop (body:PStep):Nat→PStep
 | 0,_,_=>none
 | k+1,fr,M =>
  match body fr M with
  | some (.normal,fr',M')=>pLoop body k fr' M'
  | r=>r
def pCode (call:PCall) (lf:Nat):XC→PStep
 | .skip=>fun fr M=>some (.normal,fr,M)
 | .reg ops=>fun fr M=>(pOps G call ops fr M).map fun r=>(.normal,r.1,r.2)
 | .drw ops chk=>fun fr M=>(pDrw G call ops chk fr M).map fun r=>(.normal,r.1,r.2)
 | .seq a b=>fun fr M =>
  match pCode call lf a fr M with
  | some (.normal,fr',M')=>pCode call lf b fr' M'
  | r=>r
 | .cond c a b=>fun fr M =>
  match c.pv G fr with
  | .b v=>if v then pCode call lf a fr M else pCode call lf b fr M
  | _=>none
 | .block id a=>fun fr M =>
  match pCode call lf a fr M with
  | some (.exit i,fr',M')=>if i=id then some (.normal,fr',M') else some (.exit i,fr',M')
  | r=>r
 | .loop a=>pLoop (pCode call lf a) lf
 | .exit id=>fun fr M=>some (.exit id,fr,M)
 | .scope a=>pCode call lf a
 | .ret=>fun fr M=>some (.ret,fr,M)
 | .fail=>fun _ _=>none
end
def pResOne (fr:PFr) (M:PM):XR→Option PV
 | .tmp t=>some (fr t)
 | .cell t agg n =>
  match fr t with
  | .p m off=>match PM.rd M m off n with|some l=>pickP agg l|none=>none
  | .fp l=>if n≤l.length∧n≠0 then pickP agg (l.take n) else none
  | _=>none
def pRes (fr:PFr) (M:PM):List XR→Option (List PV)
 | []=>some []
 | r::l=>match pResOne fr M r,pRes fr M l with|some v,some vs=>some (v::vs)|_,_=>none
def packP:List PV→PV
 | [v]=>v
 | l=>.tu l
def fzL (g:PV→Option (PV×List Nat)):List PV→Option (List PV×List Nat)
 | []=>some ([],[])
 | v::l=>match g v,fzL g l with|some (v',a),some (l',b)=>some (v'::l',a++b)|_,_=>none
def fz (M:PM):Nat→PV→Option (PV×List Nat)
 | 0,_=>none
 | d+1,v =>
  match v with
  | .p n off=>match PM.blk M n with|some b=>(fzL (fz M d) b.v).map fun r=>(.fp (r.1.drop off),n::r.2)|none=>none
  | .sl n off len _ z =>
   if len=0 then some (.lst [],[]) else
   if z=0 then none else
   match PM.rd M n off (len*z) with
   | some cs=>(fzL (fz M d) cs).map fun r=>(.lst (group z len r.1),n::r.2)
   | none=>none
  | .nl=>some (.lst [],[])
  | .fn f l=>(fzL (fz M d) l).map fun r=>(.fn f r.1,r.2)
  | .ia t v=>(fz M d v).map fun r=>(.ia t r.1,r.2)
  | .ag l=>(fzL (fz M d) l).map fun r=>(.ag r.1,r.2)
  | .tu l=>(fzL (fz M d) l).map fun r=>(.tu r.1,r.2)
  | v=>some (v,[])
def roB (M:PM) (n:Nat):PM:=match PM.blk M n with|some b=>M.set n (some { b with rw:=false })|none=>M
def roM (M:PM) (ns:List Nat):PM:=ns.foldl roB M
structure PEnv where
 prog:Nat→Option XD
 pure:Nat→Bool
 glob:Nat→Option (List AV)
 orc:Nat→List PV→PM→Option (PV×PM)
 ovr:Nat→List PV→Option PV:=fun _ _=>none
def pBody (E:PEnv) (call:PCall) (k:Nat) (xf:XF) (args:List PV) (M:PM):Option (PV×PM) :=
 if xf.n<args.length then none else
 match pCode E.glob call k xf.body (frOf args) M with
 | some (.exit _,_,_)=>none
 | some (_,fr,M')=>(pRes fr M' xf.res).map fun vs=>(packP vs,M')
 | none=>none
def fzD:Nat:=12
def pvF (E:PEnv):Nat→PCall
 | 0,_,_,_=>none
 | k+1,f,args,M =>
  match E.prog f with
  | some (.fn xf) =>
   if E.pure f then
    match fzL (fz M fzD) args with
    | some (args',ns) =>
     match E.ovr f args' with
     | some v=>some (v,roM M ns)
     | none =>
      match pBody E (pvF E k) k xf args' [] with
      | some (v,M2)=>(fz M2 fzD v).map fun r=>(r.1,roM M ns)
      | none=>none
    | none=>none
   else pBody E (pvF E k) k xf args M
  | some (.orc _) =>
   if E.pure f then
    match fzL (fz M fzD) args with
    | some (args',ns) =>
     match E.orc f args' [] with
     | some (v,M2)=>(fz M2 fzD v).map fun r=>(r.1,roM M ns)
     | none=>none
    | none=>none
   else E.orc f args M
  | none=>none
end Go.Eng
namespace Go.Eng
def DM (r:List Nat) (M:PM) (m:Nat):Prop:=∃(n:Nat) (b:PB),M[n]?=some (some b)∧b.rw=true∧r[n]?=some m
inductive V (h:Hp) (D:Nat→Prop):List Nat→PV→AV→Prop where
 | b {r:List Nat} (v:Bool):V h D r (.b v) (.b v)
 | i {r:List Nat} (k:IntKind) (n:Int):V h D r (.i k n) (.i k n)
 | s {r:List Nat} (l:List UInt8):V h D r (.s l) (.s l)
 | pn {r:List Nat}:V h D r .pn .pn
 | fnil {r:List Nat}:V h D r .fnil .fnil
 | inil {r:List Nat}:V h D r .inil .inil
 | p {r:List Nat} {n m:Nat} (off:Nat) (e:r[n]?=some m):V h D r (.p n off) (.p m off)
 | sl {r:List Nat} {n m:Nat} (off len cap z:Nat) (e:r[n]?=some m) (hlc:len≤cap):V h D r (.sl n off len cap z) (.sl m off len cap z)
 | fp {r:List Nat} {l:List PV} {m off:Nat} {blk:Blk} (cs:Nat→AV) (e:h.m m=some blk) (d:¬D m) (hs:l.all PV.scal=true) (hc:∀i,i<l.length→blk.v[off+i]?=some (cs i))
   (hv:∀i (hi:i<l.length),V h D [] l[i] (cs i)):V h D r (.fp l) (.p m off)
 | lst {r:List Nat} {xs:List PV} {m off cap z:Nat} {blk:Blk} (cs:Nat→AV) (e:h.m m=some blk) (d:¬D m) (hs:(flat xs).all PV.scal=true) (hz0:z≠0) (hz:∀x∈xs,x.cells.length=z) (hcap:xs.length≤cap)
   (hc:∀i,i<(flat xs).length→blk.v[off+i]?=some (cs i)) (hv:∀i (hi:i<(flat xs).length),V h D [] (flat xs)[i] (cs i)):V h D r (.lst xs) (.sl m off xs.length cap z)
 | lst0 {r:List Nat} (m off cap z:Nat):V h D r (.lst []) (.sl m off 0 cap z)
 | lsn {r:List Nat}:V h D r (.lst []) .sn
 | lse {r:List Nat}:V h D r (.lst []) .se
 | le0 {r:List Nat}:V h D r (.lst []) .e0
 | nln {r:List Nat}:V h D r .nl .sn
 | nle {r:List Nat}:V h D r .nl .se
 | fn {r:List Nat} {f:Nat} {l:List PV} {l':List AV} (hn:l.length=l'.length) (hv:∀i (hi:i<l.length) (hi':i<l'.length),V h D r l[i] l'[i]):V h D r (.fn f l) (.fn f l')
 | ia {r:List Nat} {t:Nat} {v:PV} {v':AV} (hv:V h D r v v'):V h D r (.ia t v) (.ia t v')
 | ag {r:List Nat} {l:List PV} {l':List AV} (hn:l.length=l'.length) (hv:∀i (hi:i<l.length) (hi':i<l'.length),V h D r l[i] l'[i]):V h D r (.ag l) (.ag l')
 | tu {r:List Nat} {l:List PV} {l':List AV} (hn:l.length=l'.length) (hv:∀i (hi:i<l.length) (hi':i<l'.length),V h D r l[i] l'[i]):V h D r (.tu l) (.tu l')
 | junk {r:List Nat} (v:AV) (hv:v.name?=none) (hb:∀c,v ≠ .b c):V h D r (.tu []) v
 | bad {r:List Nat} (v:AV):V h D r .bad v
def VL (h:Hp) (D:Nat→Prop) (r:List Nat) (l:List PV) (l':List AV):Prop :=
 l.length=l'.length∧∀i (hi:i<l.length) (hi':i<l'.length),V h D r l[i] l'[i]
theorem zc5 {r r':List Nat} (hp:r <+: r') {n m:Nat} (e:r[n]?=some m):r'[n]?=some m:=by
 obtain⟨t,rfl⟩:=hp
 rw[List.getElem?_append_left (by
  by_cases hn:n<r.length
  ·exact hn
  ·rw[List.getElem?_eq_none (by omega)] at e;cases e)]
 exact e
theorem V.mono {h h':Hp} {D D':Nat→Prop} (hk:∀m b,h.m m=some b→¬D m→h'.m m=some b∧¬D' m) {r:List Nat} {v:PV} {w:AV} (x:V h D r v w):∀{r':List Nat},r <+: r'→V h' D' r' v w:=by
 induction x with
 | b v=>exact fun _=>.b v
 | i k n=>exact fun _=>.i k n
 | s l=>exact fun _=>.s l
 | pn=>exact fun _=>.pn
 | fnil=>exact fun _=>.fnil
 | inil=>exact fun _=>.inil
 | p off e=>exact fun hp=>.p off (zc5 hp e)
 | sl off len cap z e hlc=>exact fun hp=>.sl off len cap z (zc5 hp e) hlc
 | fp cs e d hs hc _ ih=>exact fun _=>.fp cs (hk _ _ e d).1 (hk _ _ e d).2 hs hc fun i hi=>ih i hi (List.prefix_refl _)
 | lst cs e d hs hz0 hz hcap hc _ ih=>exact fun _=>.lst cs (hk _ _ e d).1 (hk _ _ e d).2 hs hz0 hz hcap hc fun i hi=>ih i hi (List.prefix_refl _)
 | lst0 m off cap z=>exact fun _=>.lst0 m off cap z
 | lsn=>exact fun _=>.lsn
 | lse=>exact fun _=>.lse
 | le0=>exact fun _=>.le0
 | nln=>exact fun _=>.nln
 | nle=>exact fun _=>.nle
 | fn hn _ ih=>exact fun hp=>.fn hn fun i hi hi'=>ih i hi hi' hp
 | ia _ ih=>exact fun hp=>.ia (ih hp)
 | ag hn _ ih=>exact fun hp=>.ag hn fun i hi hi'=>ih i hi hi' hp
 | tu hn _ ih=>exact fun hp=>.tu hn fun i hi hi'=>ih i hi hi' hp
 | junk v hv hb=>exact fun _=>.junk v hv hb
 | bad v=>exact fun _=>.bad v
theorem V.pre {h:Hp} {D:Nat→Prop} {r r':List Nat} (hp:r <+: r') {v:PV} {w:AV} (x:V h D r v w):V h D r' v w:=x.mono (fun _ _ e d=>⟨e,d⟩) hp
theorem V.nil {h:Hp} {D:Nat→Prop} {r:List Nat} {v:PV} {w:AV} (x:V h D [] v w):V h D r v w:=x.pre (List.nil_prefix)
theorem VL.mono {h h':Hp} {D D':Nat→Prop} (hk:∀m b,h.m m=some b→¬D m→h'.m m=some b∧¬D' m) {r r':List Nat} (hp:r <+: r') {v:List PV} {w:List AV} (x:VL h D r v w):VL h' D' r' v w :=
 ⟨x.1,fun i a b=>(x.2 i a b).mono hk hp⟩
theorem VL.nil {h:Hp} {D:Nat→Prop} {r:List Nat}:VL h D r [] []:=⟨rfl,fun i hi=>by simp at hi⟩
theorem VL.cons {h:Hp} {D:Nat→Prop} {r:List Nat} {v:PV} {w:AV} {vs:List PV} {ws:List AV} (a:V h D r v w) (b:VL h D r vs ws):VL h D r (v::vs) (w::ws):=by
 refine⟨by simp[b.1],fun i hi hi'=>?_⟩
 cases i with
 | zero=>exact a
 | succ i=>exact b.2 i (by simpa using hi) (by simpa using hi')
theorem VL.uncons {h:Hp} {D:Nat→Prop} {r:List Nat} {v:PV} {vs:List PV} {ws:List AV} (x:VL h D r (v::vs) ws):∃w ws',ws=w::ws'∧V h D r v w∧VL h D r vs ws':=by
 cases ws with
 | nil=>simp[VL] at x
 | cons w ws=>exact⟨w,ws,rfl,x.2 0 (by simp) (by simp),by simpa using x.1,fun i a b=>x.2 (i+1) (Nat.succ_lt_succ a) (Nat.succ_lt_succ b)⟩
theorem VL.of_nil {h:Hp} {D:Nat→Prop} {r:List Nat} {ws:List AV} (x:VL h D r [] ws):ws=[]:=by
 have:=x.1
 cases ws<;>simp at this ⊢
theorem VL.append {h:Hp} {D:Nat→Prop} {r:List Nat}:∀{vs:List PV} {ws:List AV} {vs':List PV} {ws':List AV},VL h D r vs ws→VL h D r vs' ws'→VL h D r (vs++vs') (ws++ws')
 | [],ws,_,_,a,b=>by rw[a.of_nil];exact b
 | v::vs,ws,_,_,a,b=>by
  obtain⟨w,ws',rfl,c,d⟩:=a.uncons
  exact .cons c (d.append b)
theorem VL.take {h:Hp} {D:Nat→Prop} {r:List Nat} {vs:List PV} {ws:List AV} (a:VL h D r vs ws) (k:Nat):VL h D r (vs.take k) (ws.take k) :=
 ⟨by simp[a.1],fun i p q=>by simp only[List.getElem_take];exact a.2 i _ _⟩
theorem VL.drop {h:Hp} {D:Nat→Prop} {r:List Nat} {vs:List PV} {ws:List AV} (a:VL h D r vs ws) (k:Nat):VL h D r (vs.drop k) (ws.drop k) :=
 ⟨by simp[a.1],fun i p q=>by simp only[List.getElem_drop];exact a.2 _ _ _⟩
theorem VL.splice {h:Hp} {D:Nat→Prop} {r:List Nat} {vs:List PV} {ws:List AV} {cs:List PV} {ds:List AV} (a:VL h D r vs ws) (c:VL h D r cs ds) (off:Nat):VL h D r (psplice vs off cs) (splice ws off ds):=by
 unfold psplice Go.Eng.splice
 rw[c.1]
 exact((a.take _).append c).append (a.drop _)
theorem VL.get? {h:Hp} {D:Nat→Prop} {r:List Nat} {vs:List PV} {ws:List AV} (a:VL h D r vs ws) {i:Nat} {v:PV} (e:vs[i]?=some v):∃w,ws[i]?=some w∧V h D r v w:=by
 have hi:i<vs.length:=by
  by_cases hn:i<vs.length
  ·exact hn
  ·rw[List.getElem?_eq_none (by omega)] at e;cases e
 have hi':i<ws.length:=by rw[←a.1];exact hi
 refine⟨ws[i],by simp[hi'],?_⟩
 have:=a.2 i hi hi'
 rw[List.getElem?_eq_getElem hi] at e
 cases e;exact this
theorem VL.map {h:Hp} {D:Nat→Prop} {r:List Nat} {α:Type} (f:α→PV) (g:α→AV) (hf:∀a,V h D r (f a) (g a)):∀l:List α,VL h D r (l.map f) (l.map g)
 | []=>.nil
 | a::l=>.cons (hf a) (VL.map f g hf l)
theorem V.scal {h:Hp} {D:Nat→Prop} {r:List Nat} {v:PV} {w:AV} (x:V h D r v w) (hs:v.scal=true):w.scal=true:=by
 cases x<;>first|rfl|(simp[PV.scal] at hs)
theorem VL.scal {h:Hp} {D:Nat→Prop} {r:List Nat}:∀{vs:List PV} {ws:List AV},VL h D r vs ws→vs.all PV.scal=true→ws.all AV.scal=true
 | [],ws,a,_=>by rw[a.of_nil];rfl
 | v::vs,ws,a,hs=>by
  obtain⟨w,ws',rfl,c,d⟩:=a.uncons
  simp only[List.all_cons,Bool.and_eq_true] at hs ⊢
  exact⟨c.scal hs.1,d.scal hs.2⟩
theorem V.cells {h:Hp} {D:Nat→Prop} {r:List Nat} {v:PV} {w:AV} (x:V h D r v w) (hs:v.cells.all PV.scal=true):VL h D r v.cells w.cells:=by
 cases x with
 | ag hn hv=>exact⟨hn,hv⟩
 | tu hn hv=>simp[PV.cells,PV.scal] at hs
 | junk v hv hb=>simp[PV.cells,PV.scal] at hs
 | bad v=>simp[PV.cells,PV.scal] at hs
 | b v=>exact .cons (.b v) .nil
 | i k n=>exact .cons (.i k n) .nil
 | s l=>exact .cons (.s l) .nil
 | pn=>exact .cons .pn .nil
 | fnil=>exact .cons .fnil .nil
 | inil=>exact .cons .inil .nil
 | p off e=>exact .cons (.p off e) .nil
 | sl off len cap z e hlc=>exact .cons (.sl off len cap z e hlc) .nil
 | fp cs e d hs1 hc hv=>exact .cons (.fp cs e d hs1 hc hv) .nil
 | lst cs e d hs1 hz0 hz hcap hc hv=>exact .cons (.lst cs e d hs1 hz0 hz hcap hc hv) .nil
 | lst0 m off cap z=>exact .cons (.lst0 m off cap z) .nil
 | lsn=>exact .cons .lsn .nil
 | lse=>exact .cons .lse .nil
 | le0=>exact .cons .le0 .nil
 | nln=>exact .cons .nln .nil
 | nle=>exact .cons .nle .nil
 | fn hn hv=>exact .cons (.fn hn hv) .nil
 | ia hv=>exact .cons (.ia hv) .nil
theorem zbc {h:Hp} {D:Nat→Prop} {r:List Nat} (v:AV):V h D r (cst0 v) v:=by
 cases v with
 | fn f l=>cases l with
  | nil=>exact .fn rfl fun i hi=>by simp at hi
  | cons a l=>exact .junk _ rfl fun _ q=>by cases q
 | b v=>exact .b v
 | i k n=>exact .i k n
 | s l=>exact .s l
 | pn=>exact .pn
 | sn=>exact .nln
 | se=>exact .nle
 | e0=>exact .le0
 | fnil=>exact .fnil
 | inil=>exact .inil
 | p n o=>exact .bad _
 | sl _ _ _ _ _=>exact .bad _
 | ia _ _=>exact .junk _ rfl fun _ q=>by cases q
 | ag _=>exact .junk _ rfl fun _ q=>by cases q
 | tu _=>exact .junk _ rfl fun _ q=>by cases q
theorem zb3 {h:Hp} {D:Nat→Prop} {r:List Nat} (l:List AV):VL h D r (l.map cst0) l:=by
 have:=VL.map (h:=h) (D:=D) (r:=r) cst0 id (fun a=>zbc a) l
 rwa [List.map_id] at this
section
variable (G:Nat→Option (List AV)) (Db:Nat→Prop)
def DD (r:List Nat) (M:PM) (m:Nat):Prop:=Db m∨DM r M m
structure PInv (r:List Nat) (M:PM) (h:Hp):Prop where
 len:r.length=M.length
 inj:∀i j m:Nat,r[i]?=some m→r[j]?=some m→i=j
 lt:∀m∈r,m<h.next∧¬Db m
 wf:h.wf
 dead:∀n m:Nat,M[n]?=some none→r[n]?=some m→h.m m=none
 blk:∀(n:Nat) (b:PB) (m:Nat),M[n]?=some (some b)→r[n]?=some m→∃b',h.m m=some b'∧b'.ver=b.ver∧(b.rw=true→b'.rw=true)∧VL h (DD Db r M) r b.v b'.v∧b.v.all PV.scal=true
 dbl:∀m,Db m→m<h.next
 glob:∀g l,G g=some l→∃b',h.m g=some b'∧(b'.v=l∧(l.map cst0).all PV.scal=true)∧¬DD Db r M g
end
structure PEx (r:List Nat) (M:PM) (h:Hp) (r':List Nat) (M':PM) (h':Hp):Prop where
 next:h.next≤h'.next
 pre:r <+: r'
 keep:∀m,m<h.next→¬DM r M m→h'.m m=h.m m
 dm:∀m,m<h.next→DM r' M' m→DM r M m
 fresh:∀k m:Nat,r'[k]?=some m→r.length≤k→h.next≤m
theorem PEx.refl (r:List Nat) (M:PM) (h:Hp):PEx r M h r M h:=⟨Nat.le_refl _,List.prefix_refl _,fun _ _ _=>rfl,fun _ _ d=>d,fun k m e hk=>by rw[List.getElem?_eq_none hk] at e;cases e⟩
theorem PEx.trans {r r1 r2:List Nat} {M M1 M2:PM} {h h1 h2:Hp} (a:PEx r M h r1 M1 h1) (b:PEx r1 M1 h1 r2 M2 h2):PEx r M h r2 M2 h2 :=
 ⟨Nat.le_trans a.next b.next,a.pre.trans b.pre,fun m hm hd=>by rw[b.keep m (Nat.lt_of_lt_of_le hm a.next) (fun d=>hd (a.dm m hm d)),a.keep m hm hd],fun m hm d=>a.dm m hm (b.dm m (Nat.lt_of_lt_of_le hm a.next) d),fun k m e hk=>by
  by_cases h1:k<r1.length
  ·have e1:r1[k]?=some r1[k]:=List.getElem?_eq_getElem h1
   have e2:=zc5 b.pre e1
   rw[e] at e2;cases e2
   exact a.fresh k _ e1 hk
  ·exact Nat.le_trans a.next (b.fresh k m e (by omega))⟩
theorem PEx.hk {Db:Nat→Prop} {r r':List Nat} {M M':PM} {h h':Hp} (w:h.wf) (x:PEx r M h r' M' h'):∀m b,h.m m=some b→¬DD Db r M m→h'.m m=some b∧¬DD Db r' M' m:=fun m b e d=>by
 have hm:m<h.next:=by
  by_cases hn:m<h.next
  ·exact hn
  ·rw[w m (by omega)] at e;cases e
 refine⟨by rw[x.keep m hm (fun q=>d (.inr q))];exact e,fun q=>d ?_⟩
 rcases q with q|q
 ·exact .inl q
 ·exact .inr (x.dm m hm q)
theorem PEx.v {Db:Nat→Prop} {r r':List Nat} {M M':PM} {h h':Hp} (w:h.wf) (x:PEx r M h r' M' h') {v:PV} {a:AV} (q:V h (DD Db r M) r v a):V h' (DD Db r' M') r' v a:=q.mono (x.hk w) x.pre
theorem PEx.vl {Db:Nat→Prop} {r r':List Nat} {M M':PM} {h h':Hp} (w:h.wf) (x:PEx r M h r' M' h') {v:List PV} {a:List AV} (q:VL h (DD Db r M) r v a):VL h' (DD Db r' M') r' v a:=q.mono (x.hk w) x.pre
def PRes (G:Nat→Option (List AV)) (Db:Nat→Prop) (r:List Nat) (M:PM) (h:Hp) (v:PV) (M':PM) (o:Option (AV×Hp)):Prop :=
 ∃a h' r',o=some (a,h')∧PInv G Db r' M' h'∧PEx r M h r' M' h'∧V h' (DD Db r' M') r' v a
theorem zaI {α:Type} {l:List α} {n:Nat} {x:α} (e:l[n]?=some x):n<l.length:=by
 by_cases hn:n<l.length
 ·exact hn
 ·rw[List.getElem?_eq_none (by omega)] at e;cases e
variable {G:Nat→Option (List AV)} {Db:Nat→Prop} {r:List Nat} {M:PM} {h:Hp}
theorem PInv.place (I:PInv G Db r M h) {n:Nat} {b:Option PB} (e:M[n]?=some b):∃m,r[n]?=some m:=by
 have h1:=zaI e
 exact⟨r[n]'(by rw[I.len];exact h1),by simp[I.len,h1]⟩
theorem PInv.dlt (I:PInv G Db r M h) {m:Nat} (d:DD Db r M m):m<h.next:=by
 rcases d with d|⟨n,b,_,_,e⟩
 ·exact I.dbl m d
 ·exact(I.lt m (List.mem_of_getElem? e)).1
theorem zaz {n:Nat} {b:PB}:PM.blk M n=some b↔M[n]?=some (some b):=by
 unfold PM.blk
 cases M[n]? with
 | none=>simp
 | some x=>cases x<;>simp
theorem PInv.push (I:PInv G Db r M h) {cs:List PV} {asq:List AV} (hv:VL h (DD Db r M) r cs asq) (hs:cs.all PV.scal=true) :
  PInv G Db (r++[h.next]) (M++[some ⟨cs,true,0⟩]) (h.push asq)∧PEx r M h (r++[h.next]) (M++[some ⟨cs,true,0⟩]) (h.push asq):=by
 have hm:∀n,n<h.next→(h.push asq).m n=h.m n:=fun n hn=>by simp[Hp.push];omega
 have dmx:∀m,DM (r++[h.next]) (M++[some ⟨cs,true,0⟩]) m→DM r M m∨m=h.next:=by
  rintro m ⟨n,b,e1,e2,e3⟩
  by_cases hn:n<M.length
  ·rw[List.getElem?_append_left hn] at e1
   rw[List.getElem?_append_left (by rw[I.len];exact hn)] at e3
   exact .inl ⟨n,b,e1,e2,e3⟩
  ·have:n=M.length:=by
    have:=zaI e1;simp at this;omega
   subst this
   rw[←I.len,List.getElem?_append_right (Nat.le_refl _)] at e3
   simp at e3;exact .inr e3.symm
 have ex:PEx r M h (r++[h.next]) (M++[some ⟨cs,true,0⟩]) (h.push asq) :=
  ⟨by simp[Hp.push],List.prefix_append _ _,fun m hlt _=>hm m hlt,fun m hlt d=>by
   rcases dmx m d with d|d
   ·exact d
   ·omega,fun k m e hk=>by
   have hj:=zaI e
   simp at hj
   obtain rfl:k=r.length:=by omega
   simp at e;omega⟩
 refine⟨⟨by simp[I.len],fun i j m e1 e2=>?_,fun m hmem=>?_,fun n hn=>?_,fun n m e1 e2=>?_,fun n b m e1 e2=>?_,fun m d=>by simp[Hp.push];have:=I.dbl m d;omega,fun g l e=>?_⟩,ex⟩
 ·by_cases h1:i<r.length<;>by_cases h2:j<r.length
  ·rw[List.getElem?_append_left h1] at e1;rw[List.getElem?_append_left h2] at e2;exact I.inj i j m e1 e2
  ·rw[List.getElem?_append_left h1] at e1
   have hj:=zaI e2;simp at hj
   obtain rfl:j=r.length:=by omega
   simp at e2;subst e2
   have:=(I.lt _ (List.mem_of_getElem? e1)).1;omega
  ·rw[List.getElem?_append_left h2] at e2
   have hj:=zaI e1;simp at hj
   obtain rfl:i=r.length:=by omega
   simp at e1;subst e1
   have:=(I.lt _ (List.mem_of_getElem? e2)).1;omega
  ·have hj:=zaI e1;have hj2:=zaI e2;simp at hj hj2;omega
 ·rw[List.mem_append] at hmem
  rcases hmem with hmem|hmem
  ·exact⟨by simp[Hp.push];have:=(I.lt m hmem).1;omega,(I.lt m hmem).2⟩
  ·simp at hmem;subst hmem
   exact⟨by simp[Hp.push],fun d=>by have:=I.dbl _ d;omega⟩
 ·have hn':h.next+1≤n:=hn
  have:¬n=h.next:=by omega
  simp only[Hp.push,this,if_false];exact I.wf n (by omega)
 ·by_cases hn:n<M.length
  ·rw[List.getElem?_append_left hn] at e1
   rw[List.getElem?_append_left (by rw[I.len];exact hn)] at e2
   rw[hm m (I.lt m (List.mem_of_getElem? e2)).1];exact I.dead n m e1 e2
  ·have:n=M.length:=by
    have:=zaI e1;simp at this;omega
   subst this;simp at e1
 ·by_cases hn:n<M.length
  ·rw[List.getElem?_append_left hn] at e1
   rw[List.getElem?_append_left (by rw[I.len];exact hn)] at e2
   obtain⟨b',q1,q2,q3,q4,q5⟩:=I.blk n b m e1 e2
   exact⟨b',by rw[hm m (I.lt m (List.mem_of_getElem? e2)).1];exact q1,q2,q3,ex.vl I.wf q4,q5⟩
  ·have:n=M.length:=by
    have:=zaI e1;simp at this;omega
   subst this
   simp at e1;subst e1
   rw[←I.len] at e2;simp at e2;subst e2
   exact⟨⟨asq,true,0⟩,by simp[Hp.push],rfl,fun _=>rfl,ex.vl I.wf hv,hs⟩
 ·obtain⟨b',q1,q2,q3⟩:=I.glob g l e
  have hg:g<h.next:=by
   by_cases hn:g<h.next
   ·exact hn
   ·rw[I.wf g (by omega)] at q1;cases q1
  refine⟨b',by rw[hm g hg];exact q1,q2,fun d=>q3 ?_⟩
  rcases d with d|d
  ·exact .inl d
  ·rcases dmx g d with d|d
   ·exact .inr d
   ·omega
theorem zby {α:Type} {l:List α} {k n:Nat} {x y:α} (e:(l.set k x)[n]?=some y):(n=k∧y=x)∨(n≠k∧l[n]?=some y):=by
 by_cases hk:k=n
 ·subst hk
  rw[List.getElem?_set] at e
  simp at e
  exact .inl ⟨rfl,e.2.symm⟩
 ·rw[List.getElem?_set_ne hk] at e
  exact .inr ⟨fun q=>hk q.symm,e⟩
theorem PInv.upd (I:PInv G Db r M h) {n m:Nat} {b:PB} {b':Blk} (e1:M[n]?=some (some b)) (e2:r[n]?=some m) (e3:h.m m=some b') (hver:b'.ver=b.ver) (hrw:b.rw=true) (hrw':b'.rw=true) {cs:List PV} {asq:List AV} (hv:VL h (DD Db r M) r cs asq) (hs:cs.all PV.scal=true) :
  PInv G Db r (M.set n (some ⟨cs,true,b.ver+1⟩)) (h.upd m { b' with v:=asq,ver:=b'.ver+1 })∧PEx r M h r (M.set n (some ⟨cs,true,b.ver+1⟩)) (h.upd m { b' with v:=asq,ver:=b'.ver+1 }):=by
 have hn:=zaI e1
 have dmn:DM r M m:=⟨n,b,e1,hrw,e2⟩
 have dmx:∀q,DM r (M.set n (some ⟨cs,true,b.ver+1⟩)) q↔DM r M q:=by
  intro q
  constructor
  ·rintro⟨k,c,q1,q2,q3⟩
   rcases zby q1 with⟨rfl,_⟩|⟨_,q1⟩
   ·rw[e2] at q3;cases q3;exact dmn
   ·exact⟨k,c,q1,q2,q3⟩
  ·rintro⟨k,c,q1,q2,q3⟩
   by_cases hk:k=n
   ·subst hk
    exact⟨k,⟨cs,true,b.ver+1⟩,by rw[List.getElem?_set];simp[hn],rfl,q3⟩
   ·exact⟨k,c,by rw[List.getElem?_set_ne (fun z=>hk z.symm)];exact q1,q2,q3⟩
 have hm:∀q,q≠m→(h.upd m { b' with v:=asq,ver:=b'.ver+1 }).m q=h.m q:=fun q hq=>by simp[Hp.upd,hq]
 have ex:PEx r M h r (M.set n (some ⟨cs,true,b.ver+1⟩)) (h.upd m { b' with v:=asq,ver:=b'.ver+1 }) :=
  ⟨Nat.le_refl _,List.prefix_refl _,fun q _ d=>hm q (fun z=>d (by rw[z];exact dmn)),fun q _ d=>(dmx q).1 d,fun k m e hk=>by rw[List.getElem?_eq_none hk] at e;cases e⟩
 refine⟨⟨by simp[I.len],I.inj,I.lt,fun q hq=>?_,fun k q q1 q2=>?_,fun k c q q1 q2=>?_,I.dbl,fun g l e=>?_⟩,ex⟩
 ·have hlt:=(I.lt m (List.mem_of_getElem? e2)).1
  have hq':h.next≤q:=hq
  rw[hm q (by omega)];exact I.wf q hq'
 ·rcases zby q1 with⟨_,q1⟩|⟨hk,q1⟩
  ·cases q1
  ·rw[hm q (fun z=>hk (I.inj k n m (by rw[←z];exact q2) e2))];exact I.dead k q q1 q2
 ·rcases zby q1 with⟨rfl,z1⟩|⟨hk,q1⟩
  ·cases z1
   rw[e2] at q2;cases q2
   exact⟨{ b' with v:=asq,ver:=b'.ver+1 },by simp only[Hp.upd,if_true],by simp[hver],fun _=>hrw',ex.vl I.wf hv,hs⟩
  ·obtain⟨c',p1,p2,p3,p4,p5⟩:=I.blk k c q q1 q2
   exact⟨c',by rw[hm q (fun z=>hk (I.inj k n m (by rw[←z];exact q2) e2))];exact p1,p2,p3,ex.vl I.wf p4,p5⟩
 ·obtain⟨c',p1,p2,p3⟩:=I.glob g l e
  have hgm:g≠m:=fun z=>p3 (.inr (by rw[z];exact dmn))
  refine⟨c',by rw[hm g hgm];exact p1,p2,fun d=>p3 ?_⟩
  rcases d with d|d
  ·exact .inl d
  ·exact .inr ((dmx g).1 d)
theorem PInv.kill (I:PInv G Db r M h) {n m:Nat} {b:PB} (e1:M[n]?=some (some b)) (e2:r[n]?=some m) (hrw:b.rw=true) :
  PInv G Db r (M.set n none) (h.kill m)∧PEx r M h r (M.set n none) (h.kill m):=by
 have hn:=zaI e1
 have dmn:DM r M m:=⟨n,b,e1,hrw,e2⟩
 have dmx:∀q,DM r (M.set n none) q→DM r M q:=by
  rintro q ⟨k,c,q1,q2,q3⟩
  rcases zby q1 with⟨_,q1⟩|⟨_,q1⟩
  ·cases q1
  ·exact⟨k,c,q1,q2,q3⟩
 have hm:∀q,q≠m→(h.kill m).m q=h.m q:=fun q hq=>by simp[Hp.kill,hq]
 have ex:PEx r M h r (M.set n none) (h.kill m) :=
  ⟨Nat.le_refl _,List.prefix_refl _,fun q _ d=>hm q (fun z=>d (by rw[z];exact dmn)),fun q _ d=>dmx q d,fun k m e hk=>by rw[List.getElem?_eq_none hk] at e;cases e⟩
 refine⟨⟨by simp[I.len],I.inj,I.lt,fun q hq=>?_,fun k q q1 q2=>?_,fun k c q q1 q2=>?_,I.dbl,fun g l e=>?_⟩,ex⟩
 ·by_cases hqm:q=m
  ·simp[Hp.kill,hqm]
  ·rw[hm q hqm];exact I.wf q hq
 ·by_cases hqm:q=m
  ·simp[Hp.kill,hqm]
  ·rcases zby q1 with⟨hk,q1⟩|⟨hk,q1⟩
   ·exfalso;subst hk;rw[e2] at q2;cases q2;exact hqm rfl
   ·rw[hm q hqm];exact I.dead k q q1 q2
 ·rcases zby q1 with⟨rfl,z1⟩|⟨hk,q1⟩
  ·cases z1
  ·obtain⟨c',p1,p2,p3,p4,p5⟩:=I.blk k c q q1 q2
   exact⟨c',by rw[hm q (fun z=>hk (I.inj k n m (by rw[←z];exact q2) e2))];exact p1,p2,p3,ex.vl I.wf p4,p5⟩
 ·obtain⟨c',p1,p2,p3⟩:=I.glob g l e
  have hgm:g≠m:=fun z=>p3 (.inr (by rw[z];exact dmn))
  refine⟨c',by rw[hm g hgm];exact p1,p2,fun d=>p3 ?_⟩
  rcases d with d|d
  ·exact .inl d
  ·exact .inr (dmx g d)
theorem PInv.ro (I:PInv G Db r M h) (n:Nat):PInv G Db r (roB M n) h∧PEx r M h r (roB M n) h∧∀m,r[n]?=some m→¬DM r (roB M n) m:=by
 unfold roB
 cases hb:PM.blk M n with
 | none =>
  refine⟨I,.refl _ _ _,fun m e d=>?_⟩
  obtain⟨k,b,q1,_,q3⟩:=d
  obtain rfl:=I.inj k n m q3 e
  rw[zaz.2 q1] at hb;cases hb
 | some b =>
  have e1:=zaz.1 hb
  have dmx:∀q,DM r (M.set n (some { b with rw:=false })) q→DM r M q:=by
   rintro q ⟨k,c,q1,q2,q3⟩
   rcases zby q1 with⟨_,q1⟩|⟨_,q1⟩
   ·cases q1;cases q2
   ·exact⟨k,c,q1,q2,q3⟩
  have ex:PEx r M h r (M.set n (some { b with rw:=false })) h:=⟨Nat.le_refl _,List.prefix_refl _,fun _ _ _=>rfl,fun q _ d=>dmx q d,fun k m e hk=>by rw[List.getElem?_eq_none hk] at e;cases e⟩
  refine⟨⟨by simp[I.len],I.inj,I.lt,I.wf,fun k q q1 q2=>?_,fun k c q q1 q2=>?_,I.dbl,fun g l e=>?_⟩,ex,fun m e d=>?_⟩
  ·rcases zby q1 with⟨_,q1⟩|⟨_,q1⟩
   ·cases q1
   ·exact I.dead k q q1 q2
  ·rcases zby q1 with⟨rfl,z1⟩|⟨_,q1⟩
   ·cases z1
    obtain⟨c',p1,p2,p3,p4,p5⟩:=I.blk k b q e1 q2
    refine⟨c',p1,p2,?_,ex.vl I.wf p4,p5⟩
    intro z;cases z
   ·obtain⟨c',p1,p2,p3,p4,p5⟩:=I.blk k c q q1 q2
    exact⟨c',p1,p2,p3,ex.vl I.wf p4,p5⟩
  ·obtain⟨c',p1,p2,p3⟩:=I.glob g l e
   refine⟨c',p1,p2,fun d=>p3 ?_⟩
   rcases d with d|d
   ·exact .inl d
   ·exact .inr (dmx g d)
  ·obtain⟨k,c,q1,q2,q3⟩:=d
   obtain rfl:=I.inj k n m q3 e
   rcases zby q1 with⟨_,q1⟩|⟨hk,_⟩
   ·cases q1;cases q2
   ·exact hk rfl
theorem V.tu_name {h:Hp} {D:Nat→Prop} {r:List Nat} {l:List PV} {w:AV} (x:V h D r (.tu l) w):w.name?=none:=by
 cases x with
 | tu=>rfl
 | junk v hv hb=>exact hv
end Go.Eng
namespace Go.Eng
variable {G:Nat→Option (List AV)} {Db:Nat→Prop} {r:List Nat} {M:PM} {h:Hp}
theorem zhF {x:PV} (hs:x.scal=true):x.cells=[x]:=by cases x<;>first|rfl|(simp[PV.scal] at hs)
theorem zeH {z:Nat}:∀(k:Nat) (cs:List PV),cs.length=k*z→cs.all PV.scal=true→flat (group z k cs)=cs∧(group z k cs).length=k∧∀x∈group z k cs,x.cells.length=z
 | 0,cs,hl,_=>by
  rw[Nat.zero_mul] at hl
  obtain rfl:=List.length_eq_zero_iff.1 hl
  exact⟨rfl,rfl,fun x hx=>by simp[group] at hx⟩
 | k+1,cs,hl,hs=>by
  rw[Nat.add_mul,Nat.one_mul] at hl
  obtain⟨h1,h2,h3⟩:=zeH k (cs.drop z) (by rw[List.length_drop,hl,Nat.add_sub_cancel]) (by rw[List.all_eq_true] at hs ⊢;exact fun x hx=>hs x (List.mem_of_mem_drop hx))
  have hhead:(if z=1 then cs.headD undefP else .ag (cs.take z):PV).cells=cs.take z:=by
   split
   ·rename_i hz;subst hz
    cases cs with
    | nil=>simp at hl
    | cons c cs =>
     simp only[List.all_cons,Bool.and_eq_true] at hs
     simp[zhF hs.1]
   ·rfl
  refine⟨?_,by simp[group,h2],fun x hx=>?_⟩
  ·simp only[group,flat,List.flatMap_cons]
   rw[hhead]
   have:List.flatMap PV.cells (group z k (cs.drop z))=cs.drop z:=h1
   rw[this,List.take_append_drop]
  ·simp only[group,List.mem_cons] at hx
   rcases hx with rfl|hx
   ·rw[hhead,List.length_take];omega
   ·exact h3 x hx
theorem V.anti {D D':Nat→Prop} (hd:∀m,D' m→D m) {v:PV} {w:AV} (x:V h D r v w):V h D' r v w:=x.mono (fun _ _ e d=>⟨e,fun q=>d (hd _ q)⟩) (List.prefix_refl _)
theorem VL.anti {D D':Nat→Prop} (hd:∀m,D' m→D m) {v:List PV} {w:List AV} (x:VL h D r v w):VL h D' r v w:=x.mono (fun _ _ e d=>⟨e,fun q=>d (hd _ q)⟩) (List.prefix_refl _)
theorem zij {g:PV→Option (PV×List Nat)}:∀{l l':List PV} {ns:List Nat},fzL g l=some (l',ns)→l'.length=l.length
 | [],l',ns,e=>by simp[fzL] at e;simp[e.1]
 | v::l,l',ns,e=>by
  simp only[fzL] at e
  split at e
  ·rename_i v' a l2 b e1 e2
   cases e
   simp[zij e2]
  ·cases e
theorem zfk {D':Nat→Prop} {g:PV→Option (PV×List Nat)} (hg:∀v w v' ns,g v=some (v',ns)→V h (DD Db r M) r v w→(∀n∈ns,∀m,r[n]?=some m→¬D' m)→V h D' [] v' w) :
  ∀{l l':List PV} {ns:List Nat} {ws:List AV},fzL g l=some (l',ns)→VL h (DD Db r M) r l ws→(∀n∈ns,∀m,r[n]?=some m→¬D' m)→VL h D' [] l' ws
 | [],l',ns,ws,e,x,_=>by
  simp[fzL] at e;rw[e.1,x.of_nil];exact .nil
 | v::l,l',ns,ws,e,x,hn=>by
  simp only[fzL] at e
  split at e
  ·rename_i v' a l2 b e1 e2
   cases e
   obtain⟨w,ws',rfl,q1,q2⟩:=x.uncons
   exact .cons (hg v w v' a e1 q1 fun n hi=>hn n (List.mem_append_left _ hi)) (zfk hg e2 q2 fun n hi=>hn n (List.mem_append_right _ hi))
  ·cases e
theorem zmv {d:Nat} {v v':PV} {ns:List Nat} (e:fz M d v=some (v',ns)) (hs:v.scal=true):v'.scal=true:=by
 cases d with
 | zero=>simp[fz] at e
 | succ d =>
  cases v<;>simp only[fz] at e
  case ag=>simp[PV.scal] at hs
  case tu=>simp[PV.scal] at hs
  case bad=>simp[PV.scal] at hs
  case p =>
   split at e
   ·simp only[Option.map_eq_some_iff] at e;obtain⟨_,_,e⟩:=e;cases e;rfl
   ·cases e
  case sl =>
   split at e
   ·cases e;rfl
   ·split at e
    ·cases e
    ·split at e
     ·simp only[Option.map_eq_some_iff] at e;obtain⟨_,_,e⟩:=e;cases e;rfl
     ·cases e
  case fn=>simp only[Option.map_eq_some_iff] at e;obtain⟨_,_,e⟩:=e;cases e;rfl
  case ia=>simp only[Option.map_eq_some_iff] at e;obtain⟨_,_,e⟩:=e;cases e;rfl
  all_goals (cases e;rfl)
theorem zdp {d:Nat}:∀{l l':List PV} {ns:List Nat},fzL (fz M d) l=some (l',ns)→l.all PV.scal=true→l'.all PV.scal=true
 | [],l',ns,e,_=>by simp[fzL] at e;rw[e.1];rfl
 | v::l,l',ns,e,hs=>by
  simp only[fzL] at e
  simp only[List.all_cons,Bool.and_eq_true] at hs
  split at e
  ·rename_i v' a l2 b e1 e2
   cases e
   simp only[List.all_cons,Bool.and_eq_true]
   exact⟨zmv e1 hs.1,zdp e2 hs.2⟩
  ·cases e
theorem zg7 {n off k:Nat} {l:List PV} (e:PM.rd M n off k=some l):∃b,PM.blk M n=some b∧off+k≤b.v.length∧l=(b.v.drop off).take k:=by
 unfold PM.rd at e
 split at e
 ·rename_i b hb
  split at e
  ·cases e;exact⟨b,hb,by assumption,rfl⟩
  ·cases e
 ·cases e
theorem zaO {l:List PV} {p:PV→Bool} (hl:l.all p=true) (k:Nat):(l.take k).all p=true:=by rw[List.all_eq_true] at hl ⊢;exact fun x hx=>hl x (List.mem_of_mem_take hx)
theorem zaJ {l:List PV} {p:PV→Bool} (hl:l.all p=true) (k:Nat):(l.drop k).all p=true:=by rw[List.all_eq_true] at hl ⊢;exact fun x hx=>hl x (List.mem_of_mem_drop hx)
theorem zf0 (I:PInv G Db r M h) {D':Nat→Prop} (hd:∀m,D' m→DD Db r M m):∀(d:Nat) (v:PV) (w:AV) (v':PV) (ns:List Nat),fz M d v=some (v',ns)→V h (DD Db r M) r v w→(∀n∈ns,∀m,r[n]?=some m→¬D' m)→V h D' [] v' w
 | 0,v,w,v',ns,e,_,_=>by simp[fz] at e
 | d+1,v,w,v',ns,e,x,hn=>by
  have ihL:∀{l l':List PV} {ns:List Nat} {ws:List AV},fzL (fz M d) l=some (l',ns)→VL h (DD Db r M) r l ws→(∀n∈ns,∀m,r[n]?=some m→¬D' m)→VL h D' [] l' ws:=fun a b c=>zfk (D':=D') (fun v w v' ns a b c=>zf0 I hd d v w v' ns a b c) a b c
  cases x with
  | b v=>simp only[fz] at e;cases e;exact .b v
  | i k n=>simp only[fz] at e;cases e;exact .i k n
  | s l=>simp only[fz] at e;cases e;exact .s l
  | pn=>simp only[fz] at e;cases e;exact .pn
  | fnil=>simp only[fz] at e;cases e;exact .fnil
  | inil=>simp only[fz] at e;cases e;exact .inil
  | @p _ n m off em =>
   simp only[fz] at e
   split at e
   ·rename_i b hb
    simp only[Option.map_eq_some_iff] at e
    obtain⟨⟨l',ns'⟩,e1,e2⟩:=e
    cases e2
    obtain⟨b',p1,p2,p3,p4,p5⟩:=I.blk n b m (zaz.1 hb) em
    have q:=ihL e1 p4 fun k hk=>hn k (List.mem_cons_of_mem _ hk)
    refine .fp (fun i=>b'.v.getD (off+i) undefA) p1 (hn n (List.mem_cons_self ..) m em) (zaJ (zdp e1 p5) _) (fun i hi=>?_) fun i hi=>?_
    ·simp at hi
     have:off+i<b'.v.length:=by rw[←q.1];omega
     simp[List.getD,this]
    ·simp at hi
     have h1:off+i<l'.length:=by omega
     have h2:off+i<b'.v.length:=by rw[←q.1];omega
     have:=q.2 (off+i) h1 h2
     simpa [List.getD,h2] using this
   ·cases e
  | @sl _ n m off len cap z em hlc =>
   simp only[fz] at e
   split at e
   ·cases e;rename_i h0;subst h0;exact .lst0 m off cap z
   ·split at e
    ·cases e
    ·rename_i hz
     split at e
     ·rename_i cs hcs
      simp only[Option.map_eq_some_iff] at e
      obtain⟨⟨l',ns'⟩,e1,e2⟩:=e
      cases e2
      obtain⟨b,hb,hlen,rfl⟩:=zg7 hcs
      obtain⟨b',p1,p2,p3,p4,p5⟩:=I.blk n b m (zaz.1 hb) em
      have q:=ihL e1 ((p4.drop off).take (len*z)) fun k hk=>hn k (List.mem_cons_of_mem _ hk)
      have hl:l'.length=len*z:=by rw[zij e1];simp;omega
      obtain⟨g1,g2,g3⟩:=zeH len l' hl (zdp e1 (zaO (zaJ p5 _) _))
      have hlen2:off+len*z≤b'.v.length:=by rw[←p4.1];exact hlen
      have:=V.lst (h:=h) (D:=D') (r:=[]) (xs:=group z len l') (m:=m) (off:=off) (cap:=cap) (z:=z) (blk:=b') (fun i=>b'.v.getD (off+i) undefA) p1 (hn n (List.mem_cons_self ..) m em) (by rw[g1];exact zdp e1 (zaO (zaJ p5 _) _)) hz g3 (by rw[g2];exact hlc)
       (fun i hi=>by
        rw[g1,hl] at hi
        have:off+i<b'.v.length:=by omega
        simp[List.getD,this])
       (fun i hi=>by
        have hi':i<len*z:=by rw[g1,hl] at hi;exact hi
        have hb':off+i<b'.v.length:=by omega
        have:=q.2 i (by rw[hl];exact hi') (by simp;omega)
        simp only[List.getElem_take,List.getElem_drop] at this
        have e0:(flat (group z len l'))[i]=l'[i]'(by rw[hl];exact hi'):=by congr 1
        rw[e0]
        simpa [List.getD,hb'] using this)
      rwa [g2] at this
     ·cases e
  | fp cs e1 d1 hs hc hv=>simp only[fz] at e;cases e;exact(V.fp (r:=[]) cs e1 d1 hs hc hv).anti hd
  | lst cs e1 d1 hs hz0 hz hcap hc hv=>simp only[fz] at e;cases e;exact(V.lst (r:=[]) cs e1 d1 hs hz0 hz hcap hc hv).anti hd
  | lst0 m off cap z=>simp only[fz] at e;cases e;exact .lst0 m off cap z
  | lsn=>simp only[fz] at e;cases e;exact .lsn
  | lse=>simp only[fz] at e;cases e;exact .lse
  | le0=>simp only[fz] at e;cases e;exact .le0
  | nln=>simp only[fz] at e;cases e;exact .lsn
  | nle=>simp only[fz] at e;cases e;exact .lse
  | fn hl hv =>
   simp only[fz,Option.map_eq_some_iff] at e
   obtain⟨⟨l',ns'⟩,e1,e2⟩:=e
   cases e2
   have q:=ihL e1 ⟨hl,hv⟩ hn
   exact .fn q.1 q.2
  | ia hv =>
   simp only[fz,Option.map_eq_some_iff] at e
   obtain⟨⟨l',ns'⟩,e1,e2⟩:=e
   cases e2
   exact .ia (zf0 I hd d _ _ _ _ e1 hv hn)
  | ag hl hv =>
   simp only[fz,Option.map_eq_some_iff] at e
   obtain⟨⟨l',ns'⟩,e1,e2⟩:=e
   cases e2
   have q:=ihL e1 ⟨hl,hv⟩ hn
   exact .ag q.1 q.2
  | tu hl hv =>
   simp only[fz,Option.map_eq_some_iff] at e
   obtain⟨⟨l',ns'⟩,e1,e2⟩:=e
   cases e2
   have q:=ihL e1 ⟨hl,hv⟩ hn
   exact .tu q.1 q.2
  | junk w hw hb =>
   simp only[fz,fzL,Option.map_some] at e
   cases e
   exact .junk w hw hb
  | bad w=>simp only[fz] at e;cases e;exact .bad w
theorem zha:∀(ns:List Nat) {M:PM},PInv G Db r M h→PInv G Db r (roM M ns) h∧PEx r M h r (roM M ns) h∧∀n∈ns,∀m,r[n]?=some m→¬DM r (roM M ns) m
 | [],M,I=>⟨I,.refl _ _ _,fun n hn=>by simp at hn⟩
 | n::ns,M,I=>by
  obtain⟨I1,x1,d1⟩:=I.ro n
  obtain⟨I2,x2,d2⟩:=zha ns I1
  refine⟨I2,x1.trans x2,fun k hk m e d=>?_⟩
  rcases List.mem_cons.1 hk with rfl|hk
  ·exact d1 m e (x2.dm m (I.lt m (List.mem_of_getElem? e)).1 d)
  ·exact d2 k hk m e d
def VFr (h:Hp) (D:Nat→Prop) (r:List Nat) (fr:PFr) (fr':Fr):Prop:=∀k,V h D r (fr k) (fr'.getD k undefA)
theorem VFr.put {D:Nat→Prop} {fr:PFr} {fr':Fr} (F:VFr h D r fr fr') {d:Option Nat} (hd:∀k,d=some k→k<fr'.length) {v:PV} {a:AV} (x:V h D r v a):VFr h D r (fr.putO d v) (Fr.put fr' d a):=by
 intro k
 cases d with
 | none=>exact F k
 | some d =>
  have:=hd d rfl
  simp only[PFr.putO,PFr.put,Fr.put]
  by_cases hk:k=d
  ·subst hk
   simp[List.getD,this,x]
  ·rw[if_neg hk]
   have:(fr'.set d a).getD k undefA=fr'.getD k undefA:=by simp[List.getD,List.getElem?_set_ne (fun z=>hk z.symm)]
   rw[this];exact F k
theorem PEx.fr {r':List Nat} {M':PM} {h':Hp} (w:h.wf) (x:PEx r M h r' M' h') {fr:PFr} {fr':Fr} (F:VFr h (DD Db r M) r fr fr'):VFr h' (DD Db r' M') r' fr fr':=fun k=>x.v w (F k)
theorem zlj (I:PInv G Db r M h) (v:AV):V h (DD Db r M) r (cst G v) v:=by
 cases v with
 | p n off =>
  simp only[cst]
  split
  ·rename_i l hl
   obtain⟨b',q1,⟨q2,q4⟩,q3⟩:=I.glob n l hl
   have hv:=zb3 (h:=h) (D:=DD Db r M) (r:=[]) l
   refine .fp (fun i=>b'.v.getD (off+i) undefA) q1 q3 (zaJ q4 _) (fun i hi=>?_) fun i hi=>?_
   ·simp at hi
    have:off+i<b'.v.length:=by rw[q2];omega
    simp[List.getD,this]
   ·simp at hi
    have h2:off+i<l.length:=by omega
    have:=hv.2 (off+i) (by simpa using h2) h2
    rw[q2]
    simpa [List.getD,h2] using this
  ·exact .bad _
 | ag l =>
  have:=zb3 (h:=h) (D:=DD Db r M) (r:=r) l
  exact .ag this.1 this.2
 | b v=>exact zbc (.b v)
 | i k n=>exact zbc (.i k n)
 | s l=>exact zbc (.s l)
 | pn=>exact zbc .pn
 | sl n off len cap z=>exact zbc (.sl n off len cap z)
 | se=>exact zbc .se
 | e0=>exact zbc .e0
 | sn=>exact zbc .sn
 | fn f l=>exact zbc (.fn f l)
 | fnil=>exact zbc .fnil
 | inil=>exact zbc .inil
 | ia t v=>exact zbc (.ia t v)
 | tu l=>exact zbc (.tu l)
theorem zgb (I:PInv G Db r M h) {fr:PFr} {fr':Fr} (F:VFr h (DD Db r M) r fr fr') (x:X):V h (DD Db r M) r (x.pv G fr) (x.ev fr'):=by
 cases x with
 | t n=>exact F n
 | k v=>exact zlj I v
theorem PRes.pure (I:PInv G Db r M h) {v:PV} {a:AV} (x:V h (DD Db r M) r v a):PRes G Db r M h v M (some (a,h)):=⟨a,h,r,rfl,I,.refl _ _ _,x⟩
theorem V.asI {D:Nat→Prop} {v:PV} {w:AV} (x:V h D r v w) {n:Int} (e:asIP v=some n):Eng.asI w=some n:=by
 cases x<;>simp[asIP] at e
 simp[Eng.asI,e]
theorem V.asN {D:Nat→Prop} {v:PV} {w:AV} (x:V h D r v w) {n:Nat} (e:asNP v=some n):Eng.asN w=some n:=by
 unfold asNP at e
 split at e
 ·rename_i k hk
  simp only[Eng.asN,x.asI hk];exact e
 ·cases e
theorem V.opt {D:Nat→Prop} {fr:PFr} {fr':Fr} (hp:∀x:X,V h D r (x.pv G fr) (x.ev fr')) {d n:Nat} {o:Option X} (e:optP d (o.map (X.pv G fr))=some n):optN d (o.map (X.ev fr'))=some n:=by
 cases o with
 | none=>exact e
 | some x=>exact(hp x).asN e
theorem zc3 {D:Nat→Prop} {l:List PV} {l':List AV} (x:VL h D r l l') {g:Bool} {v:PV} (e:pickP g l=some v):∃a,pickA g l'=some a∧V h D r v a:=by
 unfold pickP at e
 split at e
 ·rename_i hg
  cases e
  exact⟨.ag l',by simp[pickA,hg],.ag x.1 x.2⟩
 ·rename_i hg
  cases l with
  | nil=>simp[oneP] at e
  | cons c l =>
   obtain⟨w,ws,rfl,a,b⟩:=x.uncons
   cases l with
   | nil =>
    simp[oneP] at e;subst e
    rw[b.of_nil]
    exact⟨w,by simp[pickA,hg,one?],a⟩
   | cons _ _=>simp[oneP] at e
theorem zh9 {D:Nat→Prop} {k:Nat} {x y:PV} {x' y':AV} (a:V h D r x x') (b:V h D r y y') {c:Bool} (e:eqCellP k x y=some c):eqCell k x' y'=some c:=by
 unfold eqCellP at e
 split at e<;>first|(cases e;done)|(cases a;cases b;exact e)
theorem zed {D:Nat→Prop}:∀{ks:List Nat} {xs ys:List PV} {xs' ys':List AV},VL h D r xs xs'→VL h D r ys ys'→∀{c:Bool},eqCellsP ks xs ys=some c→eqCells ks xs' ys'=some c
 | [],[],[],xs',ys',a,b,c,e=>by rw[a.of_nil,b.of_nil];exact e
 | k::ks,x::xs,y::ys,xs',ys',a,b,c,e=>by
  obtain⟨x',xs',rfl,a1,a2⟩:=a.uncons
  obtain⟨y',ys',rfl,b1,b2⟩:=b.uncons
  simp only[eqCellsP] at e
  split at e
  ·rename_i p q e1 e2
   cases e
   simp only[eqCells,zh9 a1 b1 e1,zed a2 b2 e2]
  ·cases e
 | [],[],_::_,_,_,_,_,_,e=>by simp[eqCellsP] at e
 | [],_::_,_,_,_,_,_,_,e=>by simp[eqCellsP] at e
 | _::_,[],_,_,_,_,_,_,e=>by simp[eqCellsP] at e
 | _::_,_::_,[],_,_,_,_,_,e=>by simp[eqCellsP] at e
theorem znY {D:Nat→Prop} {op:BinOp} {x y:PV} {x' y':AV} (a:V h D r x x') (b:V h D r y y') {c:PV} (e:binP op x y=some c):∃c',binA op x' y'=some c'∧V h D r c c':=by
 unfold binP at e
 split at e
 ·cases a;cases b
  simp only[Option.map_eq_some_iff] at e
  obtain⟨c',e1,rfl⟩:=e
  exact⟨c',e1,zbc c'⟩
 ·cases a;cases b
  simp only[Option.map_eq_some_iff] at e
  obtain⟨c',e1,rfl⟩:=e
  exact⟨c',e1,zbc c'⟩
 ·cases e
theorem zoj {D:Nat→Prop} {c:Nat} {x y:PV} {x' y':AV} (hinj:∀i j m:Nat,r[i]?=some m→r[j]?=some m→i=j) (a:V h D r x x') (b:V h D r y y') {q:Bool} (e:eqTP c x y=some q):eqTA c x' y'=some q:=by
 unfold eqTP at e
 split at e
 all_goals first|(cases e;done)|skip
 case h_7 =>
  rename_i n o n' o'
  split at e
  ·rename_i hn
   subst hn
   cases e
   cases a with
   | p off e1 =>
    cases b with
    | p off' e2 =>
     rw[e1] at e2;cases e2
     simp[eqTA]
  ·cases e
 all_goals first
  | (cases a;cases b;exact e;done)
  | (cases e;cases a<;>first|rfl|simp[eqTA])
theorem ztf {D:Nat→Prop} {op:UnOp} {x:PV} {x':AV} (a:V h D r x x') {c:PV} (e:unP op x=some c):∃c',unA op x'=some c'∧V h D r c c':=by
 unfold unP at e
 split at e
 ·cases a;cases e;exact⟨_,rfl,.i _ _⟩
 ·cases a;cases e;exact⟨_,rfl,.i _ _⟩
 ·cases a;cases e;exact⟨_,rfl,.b _⟩
 ·cases e
theorem zoJ {D:Nat→Prop} {mx:Bool}:∀{l:List PV} {l':List AV} {x:PV} {x':AV},V h D r x x'→VL h D r l l'→∀{c:PV},mmP mx x l=some c→∃c',mmA mx x' l'=some c'∧V h D r c c'
 | [],l',x,x',a,b,c,e=>by
  simp[mmP] at e;subst e
  rw[b.of_nil];exact⟨x',rfl,a⟩
 | y::l,l',x,x',a,b,c,e=>by
  obtain⟨w,ws,rfl,b1,b2⟩:=b.uncons
  simp only[mmP] at e
  split at e
  ·cases a;cases b1
   split at e
   ·rename_i hk
    simp only[mmA,hk,if_true]
    exact zoJ (.i _ _) b2 (by rw[←hk];exact e)
   ·cases e
  ·cases e
theorem zgi {D:Nat→Prop} {fr:PFr} {fr':Fr} (hp:∀x:X,V h D r (x.pv G fr) (x.ev fr')) (l:List X):VL h D r (l.map (X.pv G fr)) (l.map (X.ev fr')):=VL.map _ _ hp l
theorem zfX {D:Nat→Prop} {fr:PFr} {fr':Fr} (hp:∀x:X,V h D r (x.pv G fr) (x.ev fr')):∀{ps:List (Nat×Nat×X)} {z z2:List PV} {z':List AV},VL h D r z z'→z.all PV.scal=true→fillP G fr z ps=some z2→∃z2',fillA fr' z' ps=some z2'∧VL h D r z2 z2'∧z2.all PV.scal=true
 | [],z,z2,z',a,hs,e=>by
  simp[fillP] at e;subst e
  exact⟨z',rfl,a,hs⟩
 | (off,size,x)::ps,z,z2,z',a,hs,e=>by
  simp only[fillP] at e
  split at e
  ·rename_i hc
   obtain⟨c1,c2,c3⟩:=hc
   have c:=(hp x).cells c3
   have hs2:(psplice z off (x.pv G fr).cells).all PV.scal=true:=by
    unfold psplice
    simp only[List.all_append,Bool.and_eq_true]
    exact⟨⟨zaO hs _,c3⟩,zaJ hs _⟩
   obtain⟨z2',e2,p,q⟩:=zfX hp (a.splice c off) hs2 e
   refine⟨z2',?_,p,q⟩
   simp only[fillA]
   rw[if_pos ⟨by rw[←c.1];exact c1,by rw[←a.1];exact c2,c.scal c3⟩]
   exact e2
  ·cases e
end Go.Eng
namespace Go.Eng
variable {G:Nat→Option (List AV)} {Db:Nat→Prop} {r:List Nat} {M:PM} {h:Hp}
theorem PRes.push (I:PInv G Db r M h) {cs:List PV} {asq:List AV} (hv:VL h (DD Db r M) r cs asq) (hs:cs.all PV.scal=true) {v:PV} {a:AV} (x:∀h' D',V h' D' (r++[h.next]) v a) :
  PRes G Db r M h v (M++[some ⟨cs,true,0⟩]) (some (a,h.push asq)):=by
 obtain⟨I',X⟩:=I.push hv hs
 exact⟨a,_,_,rfl,I',X,x _ _⟩
theorem zbU (I:PInv G Db r M h):(r++[h.next])[M.length]?=some h.next:=by rw[←I.len];simp
theorem zfb (I:PInv G Db r M h) {n m:Nat} {b:PB} (e:PM.blk M n=some b) (em:r[n]?=some m) :
  ∃b',h.m m=some b'∧b'.ver=b.ver∧(b.rw=true→b'.rw=true)∧VL h (DD Db r M) r b.v b'.v∧b.v.all PV.scal=true:=I.blk n b m (zaz.1 e) em
theorem zkU (I:PInv G Db r M h) {n m off k:Nat} {l:List PV} (e:PM.rd M n off k=some l) (em:r[n]?=some m):∃l',h.rd m off k=some l'∧VL h (DD Db r M) r l l'∧l.all PV.scal=true∧l.length=k:=by
 obtain⟨b,hb,hl,rfl⟩:=zg7 e
 obtain⟨b',q1,q2,q3,q4,q5⟩:=zfb I hb em
 refine⟨(b'.v.drop off).take k,?_,(q4.drop off).take k,zaO (zaJ q5 _) _,by simp;omega⟩
 simp only[Hp.rd,q1]
 rw[if_pos (by rw[←q4.1];exact hl)]
theorem zeX {D:Nat→Prop} {l:List PV} {m off:Nat} {blk:Blk} {cs:Nat→AV} (e:h.m m=some blk) (hc:∀i,i<l.length→blk.v[off+i]?=some (cs i)) (hv:∀i (hi:i<l.length),V h D [] l[i] (cs i)) {k:Nat} (hk:k≤l.length) (h0:k≠0) :
  off+k≤blk.v.length∧h.rd m off k=some ((blk.v.drop off).take k)∧VL h D r (l.take k) ((blk.v.drop off).take k):=by
 have h1:off+k≤blk.v.length:=by have:=zaI (hc (k-1) (by omega));omega
 refine⟨h1,by simp only[Hp.rd,e,h1,if_true],by simp;omega,fun i hi hi'=>?_⟩
 simp at hi
 have:=hc i (by omega)
 rw[List.getElem?_eq_getElem (by omega)] at this
 simp only[List.getElem_take,List.getElem_drop]
 rw[Option.some.inj this]
 exact(hv i (by omega)).nil
theorem zos {D:Nat→Prop} {l:List PV} {m off:Nat} (x:V h D r (.fp l) (.p m off)) {k:Nat} (hk:k≤l.length∧k≠0):∃l',h.rd m off k=some l'∧VL h D r (l.take k) l':=by
 cases x with
 | fp cs e d hs hc hv=>exact⟨_,(zeX e hc hv hk.1 hk.2).2⟩
theorem zdo {z:Nat}:∀{xs:List PV},(∀x∈xs,x.cells.length=z)→(flat xs).length=xs.length*z
 | [],_=>by simp[flat]
 | x::xs,hz=>by
  have:=zdo (xs:=xs) fun y hy=>hz y (List.mem_cons_of_mem _ hy)
  simp only[flat,List.flatMap_cons,List.length_append,List.length_cons] at this ⊢
  rw[this,hz x (List.mem_cons_self ..),Nat.add_mul];omega
theorem zgv {z:Nat}:∀{xs:List PV},(∀x∈xs,x.cells.length=z)→∀{j:Nat} {y:PV},xs[j]?=some y→((flat xs).drop (j*z)).take z=y.cells
 | [],_,j,y,e=>by simp at e
 | x::xs,hz,0,y,e=>by
  simp at e;subst e
  have:x.cells.length=z:=hz x (List.mem_cons_self ..)
  simp[flat,←this]
 | x::xs,hz,j+1,y,e=>by
  have:=zgv (xs:=xs) (fun y hy=>hz y (List.mem_cons_of_mem _ hy)) (j:=j) (y:=y) (by simpa using e)
  have hx:x.cells.length=z:=hz x (List.mem_cons_self ..)
  rw[←this,flat,List.flatMap_cons,Nat.add_mul,Nat.one_mul,Nat.add_comm (j*z) z,←List.drop_drop,List.drop_left' hx]
  rfl
theorem zfi {z:Nat}:∀{xs:List PV},(∀x∈xs,x.cells.length=z)→∀a,flat (xs.drop a)=(flat xs).drop (a*z)
 | [],_,a=>by simp[flat]
 | x::xs,hz,0=>by simp
 | x::xs,hz,a+1=>by
  have:=zfi (xs:=xs) (fun y hy=>hz y (List.mem_cons_of_mem _ hy)) a
  have hx:x.cells.length=z:=hz x (List.mem_cons_self ..)
  rw[List.drop_succ_cons,this]
  show _=(List.flatMap PV.cells (x::xs)).drop _
  rw[List.flatMap_cons,Nat.add_mul,Nat.one_mul,Nat.add_comm (a*z) z,←List.drop_drop,List.drop_left' hx]
  rfl
theorem zfj {z:Nat}:∀{xs:List PV},(∀x∈xs,x.cells.length=z)→∀a,flat (xs.take a)=(flat xs).take (a*z)
 | [],_,a=>by simp[flat]
 | x::xs,hz,0=>by simp[flat]
 | x::xs,hz,a+1=>by
  have:=zfj (xs:=xs) (fun y hy=>hz y (List.mem_cons_of_mem _ hy)) a
  have hx:x.cells.length=z:=hz x (List.mem_cons_self ..)
  rw[List.take_succ_cons]
  show List.flatMap PV.cells (x::List.take a xs)=(List.flatMap PV.cells (x::xs)).take _
  rw[List.flatMap_cons,List.flatMap_cons,Nat.add_mul,Nat.one_mul,Nat.add_comm (a*z) z,List.take_add,List.take_left' hx,List.drop_left' hx]
  have e:List.flatMap PV.cells (List.take a xs)=(List.flatMap PV.cells xs).take (a*z):=this
  rw[e]
theorem zpL {D:Nat→Prop} (l:List UInt8):VL h D r (u8p l) (u8s l):=VL.map _ _ (fun c=>.i _ _) l
theorem zjO (l:List UInt8):(u8p l).all PV.scal=true:=by simp[u8p,PV.scal]
theorem zex {D:Nat→Prop}:∀{l:List PV} {l':List AV} {bs:List UInt8},VL h D r l l'→bytesP l=some bs→bytesOf l'=some bs
 | [],l',bs,a,e=>by rw[a.of_nil];exact e
 | x::l,l',bs,a,e=>by
  obtain⟨w,ws,rfl,q1,q2⟩:=a.uncons
  unfold bytesP at e
  split at e
  ·rename_i h0;cases h0
  ·rename_i n l2 h0
   cases h0
   cases q1
   simp only[Option.map_eq_some_iff] at e
   obtain⟨rs,e1,rfl⟩:=e
   simp[bytesOf,zex q2 e1]
  ·cases e
theorem zd8:∀{l:List PV} {bs:List UInt8},bytesP l=some bs→flat l=l∧∀x∈l,x.cells.length=1
 | [],bs,e=>⟨rfl,fun x hx=>by simp at hx⟩
 | x::l,bs,e=>by
  unfold bytesP at e
  split at e
  ·rename_i h0;cases h0
  ·rename_i n l2 h0
   cases h0
   simp only[Option.map_eq_some_iff] at e
   obtain⟨rs,e1,rfl⟩:=e
   obtain⟨p,q⟩:=zd8 e1
   refine⟨?_,fun x hx=>?_⟩
   ·have p':List.flatMap PV.cells l=l:=p
    simp[flat,PV.cells,p']
   ·rcases List.mem_cons.1 hx with rfl|hx
    ·rfl
    ·exact q x hx
  ·cases e
theorem zoo {z:Nat} {xs:List PV} (e:ez z xs=true):∀x∈xs,x.cells.length=z:=fun x hx=>by
 unfold ez at e
 rw[List.all_eq_true] at e
 simpa using e x hx
theorem zlY (I:PInv G Db r M h) {z n:Nat} {x:PV} {x':AV} {cs:List PV} (a:V h (DD Db r M) r x x') (e:srcP M z x=some (n,cs)) :
  ∃cs',srcA h z x'=some (n,cs')∧VL h (DD Db r M) r cs cs'∧(n≠0→cs.all PV.scal=true)∧cs.length=n*z:=by
 unfold srcP at e
 split at e
 ·cases a with
  | sl off len cap z' em hlc =>
   simp only[srcA]
   split at e
   ·rename_i h0;cases e
    exact⟨[],by simp[h0],.nil,fun q=>absurd rfl q,by simp⟩
   ·rename_i h0
    split at e
    ·rename_i hz
     simp only[Option.map_eq_some_iff] at e
     obtain⟨l,e1,e2⟩:=e
     cases e2
     obtain⟨l',q1,q2,q3,q4⟩:=zkU I e1 em
     exact⟨l',by simp[h0,hz,q1],q2,fun _=>q3,q4⟩
    ·cases e
 ·cases e
  cases a<;>exact⟨[],rfl,.nil,fun q=>absurd rfl q,by simp⟩
 ·rename_i xs
  split at e
  ·rename_i hz
   cases e
   have hz':=zoo hz
   have hl:=zdo hz'
   cases a with
   | @lst _ _ m off cap z' blk cs e1 d hs hz0 hz2 hcap hc hv =>
    by_cases h0:xs.length=0
    ·obtain rfl:=List.length_eq_zero_iff.1 h0
     exact⟨[],by simp[srcA],.nil,fun q=>absurd rfl q,by simp[flat]⟩
    ·have hzz:z'=z:=by
      obtain⟨y,ys,rfl⟩:=List.exists_cons_of_ne_nil (fun q=>h0 (by rw[q];rfl):xs≠[])
      rw[←hz2 y (List.mem_cons_self ..),hz' y (List.mem_cons_self ..)]
     subst hzz
     have hn0:(flat xs).length≠0:=by rw[hl];exact Nat.mul_ne_zero h0 hz0
     obtain⟨p1,p2,p3⟩:=zeX (r:=r) e1 hc hv (Nat.le_refl _) hn0
     rw[List.take_length] at p3
     exact⟨_,by simp only[srcA,h0,if_false,if_true,←hl,p2,Option.map_some],p3,fun _=>hs,hl⟩
   | lst0 m off cap z'=>exact⟨[],by simp[srcA],.nil,fun q=>absurd rfl q,by simp[flat]⟩
   | lsn=>exact⟨[],by simp[srcA],.nil,fun q=>absurd rfl q,by simp[flat]⟩
   | lse=>exact⟨[],by simp[srcA],.nil,fun q=>absurd rfl q,by simp[flat]⟩
   | le0=>exact⟨[],by simp[srcA],.nil,fun q=>absurd rfl q,by simp[flat]⟩
  ·cases e
 ·rename_i l
  split at e
  ·rename_i hz
   cases e
   cases a
   exact⟨u8s l,by simp[srcA,hz],zpL l,fun _=>zjO l,by simp[u8p,hz]⟩
  ·cases e
 ·cases e
end Go.Eng
namespace Go.Eng
variable {G:Nat→Option (List AV)} {Db:Nat→Prop} {r:List Nat} {M:PM} {h:Hp}
theorem znX (I:PInv G Db r M h) {z by_:Nat} {s x:PV} {s' x':AV} (a:V h (DD Db r M) r s s') (b:V h (DD Db r M) r x x') {v:PV} {M':PM} (e:appP M z by_ s x=some (v,M')):PRes G Db r M h v M' (appA h z by_ s' x'):=by
 unfold appP at e
 split at e
 ·cases e
 ·rename_i n cs hs
  obtain⟨cs',q1,q2,q3,q4⟩:=zlY I b hs
  split at e
  ·by_cases h0:n=0
   ·rw[if_pos h0] at e;cases e
    cases a<;>simp only[appA,q1,h0,if_true]<;>exact .pure I (by first|exact .nln|exact .nle)
   ·rw[if_neg h0] at e
    split at e
    ·rename_i hl
     cases e
     cases a<;>simp only[appA,q1,h0,if_false,hl,if_true]<;>exact .push I q2 (q3 h0) fun _ _=>.sl 0 n n z (zbU I) (Nat.le_refl _)
    ·cases e
  ·rename_i m off len cap z'
   split at e
   ·cases e
   ·rename_i hz
    have hz':z'=z:=by simpa using hz
    subst hz'
    cases a with
    | @sl _ _ mm _ _ _ _ em hlc =>
    by_cases h0:n=0
    ·rw[if_pos h0] at e;cases e
     simp only[appA,q1,h0,if_true,ne_eq,not_true_eq_false,if_false]
     exact .pure I (.sl off len cap z' em hlc)
    ·rw[if_neg h0] at e
     split at e
     ·rename_i bb hb
      split at e
      ·rename_i hc
       cases e
       obtain⟨b',p1,p2,p3,p4,p5⟩:=zfb I hb em
       simp only[appA,q1,h0,if_false,ne_eq,not_true_eq_false,p1]
       rw[if_pos ⟨p3 hc.1,by rw[←p4.1];exact hc.2.1,hc.2.2⟩]
       obtain⟨I1,X1⟩:=I.kill (zaz.1 hb) em hc.1
       have hv:=((p4.drop off).take (len*z')).append q2
       have hv1:=X1.vl I.wf hv
       obtain⟨I2,X2⟩:=I1.push hv1 (by simp only[List.all_append,Bool.and_eq_true];exact⟨zaO (zaJ p5 _) _,q3 h0⟩)
       have hlen:(M.set m none).length=M.length:=by simp
       have hnn:(r++[(h.kill mm).next])[M.length]?=some (h.kill mm).next:=by rw[←hlen];exact zbU I1
       exact⟨_,_,_,rfl,I2,X1.trans X2,.sl 0 _ _ z' hnn (Nat.le_refl _)⟩
      ·cases e
     ·cases e
  ·cases e
theorem zof (I:PInv G Db r M h) {z:Nat} {d s:PV} {d' s':AV} (a:V h (DD Db r M) r d d') (b:V h (DD Db r M) r s s') {v:PV} {M':PM} (e:cpyP M z d s=some (v,M')):PRes G Db r M h v M' (cpyA h z d' s'):=by
 unfold cpyP at e
 split at e
 ·cases e
 ·rename_i n cs hs
  obtain⟨cs',q1,q2,q3,q4⟩:=zlY I b hs
  split at e
  ·cases e
   cases a<;>simp only[cpyA,q1]<;>exact .pure I (.i _ _)
  ·rename_i m off len cap z'
   split at e
   ·cases e
   ·rename_i hz
    have hz':z'=z:=by simpa using hz
    subst hz'
    cases a with
    | @sl _ _ mm _ _ _ _ em hlc =>
    split at e
    ·rename_i bb hb
     split at e
     ·rename_i hc
      cases e
      obtain⟨b',p1,p2,p3,p4,p5⟩:=zfb I hb em
      simp only[cpyA,q1,ne_eq,not_true_eq_false,if_false,p1]
      rw[if_pos ⟨p3 hc.1,by rw[←p4.1];exact hc.2⟩]
      have hs2:(cs.take (min n len*z')).all PV.scal=true:=by
       by_cases h0:n=0
       ·subst h0
        have:cs=[]:=List.length_eq_zero_iff.1 (by rw[q4];simp)
        subst this;simp
       ·exact zaO (q3 h0) _
      have hv:=p4.splice (q2.take (min n len*z')) off
      obtain⟨I2,X2⟩:=I.upd (zaz.1 hb) em p1 p2 hc.1 (p3 hc.1) hv (by
       unfold psplice
       simp only[List.all_append,Bool.and_eq_true]
       exact⟨⟨zaO p5 _,hs2⟩,zaJ p5 _⟩)
      exact⟨_,_,_,rfl,I2,X2,.i _ _⟩
     ·cases e
    ·cases e
  ·cases e
theorem znE {D:Nat→Prop} {fr:PFr} {fr':Fr} (hp:∀x:X,V h D r (x.pv G fr) (x.ev fr')) {z:Nat} {x:PV} {x':AV} (a:V h D r x x') {lo hi mx:Option X} {v:PV} (e:slP z x (lo.map (X.pv G fr)) (hi.map (X.pv G fr)) (mx.map (X.pv G fr))=some v) :
  ∃v',slA z x' (lo.map (X.ev fr')) (hi.map (X.ev fr')) (mx.map (X.ev fr'))=some v'∧V h D r v v':=by
 have isS:∀o:Option X,(o.map (X.ev fr')).isSome=(o.map (X.pv G fr)).isSome:=fun o=>by cases o<;>rfl
 unfold slP at e
 split at e
 ·rename_i n off len cap z'
  cases a with
  | @sl _ _ m _ _ _ _ em hlc =>
  split at e
  ·cases e
  ·rename_i hz
   have hz':z'=z:=by simpa using hz
   subst hz'
   split at e
   ·rename_i mm hh ll e1 e2 e3
    simp only[slA,ne_eq,not_true_eq_false,if_false,V.opt hp e1,V.opt hp e2,V.opt hp e3]
    split at e
    ·rename_i hc
     rw[if_pos ⟨hc.1,hc.2.1,hc.2.2.1,by rw[isS,isS];exact hc.2.2.2⟩]
     split at e
     ·rename_i hml
      rw[if_pos hml,isS]
      split at e
      ·rename_i hs;cases e;rw[if_pos hs];exact⟨_,rfl,.nle⟩
      ·rename_i hs;cases e;rw[if_neg hs];exact⟨_,rfl,.le0⟩
     ·rename_i hml
      cases e
      rw[if_neg hml]
      exact⟨_,rfl,.sl _ _ _ _ em (by omega)⟩
    ·cases e
   ·cases e
 ·split at e
  ·rename_i e1 e2 e3
   split at e
   ·cases e
   ·rename_i hs
    cases e
    have hs':(mx.map (X.ev fr')).isSome=false:=by rw[isS];simpa using hs
    cases a<;>simp only[slA,V.opt hp e1,V.opt hp e2,V.opt hp e3,hs',Bool.false_eq_true,if_false]<;>exact⟨_,rfl,by first|exact .nln|exact .nle⟩
  ·cases e
 ·rename_i xs
  split at e
  ·cases e
  ·rename_i hs
   cases mx with
   | some _=>simp at hs
   | none =>
   split at e
   ·rename_i hh ll e2 e3
    split at e
    ·rename_i hc
     obtain⟨c1,c2,c3⟩:=hc
     cases e
     have hz':=zoo c3
     have em:∀c,optN c ((none:Option X).map (X.ev fr'))=some c:=fun c=>rfl
     have empt:xs=[]→∀w,V h D r (.lst []) w→V h D r (.lst ((xs.take hh).drop ll)) w:=fun q w p=>by subst q;simpa using p
     have onil:∀(hx:xs=[]),ll=0∧hh=0:=fun q=>by subst q;simp at c2;omega
     cases a with
     | @lst _ _ m off cap z' blk cs e1 d hs1 hz0 hz2 hcap hc hv =>
      have g1:=V.opt hp e2
      have g2:=V.opt hp e3
      by_cases hzz:z'=z
      ·subst hzz
       simp only[slA,ne_eq,not_true_eq_false,if_false,em,g1,g2]
       rw[if_pos ⟨c1,by omega,Nat.le_refl _,fun q=>by cases q⟩]
       by_cases hcl:cap=ll
       ·rw[if_pos hcl]
        refine⟨.e0,by simp,?_⟩
        rw[List.drop_eq_nil_of_le (by simp;omega)]
        exact .le0
       ·rw[if_neg hcl]
        refine⟨_,rfl,?_⟩
        have hl:((xs.take hh).drop ll).length=hh-ll:=by simp;omega
        have hzt:∀x∈xs.take hh,x.cells.length=z':=fun x hx=>hz2 x (List.mem_of_mem_take hx)
        have hfl:flat ((xs.take hh).drop ll)=((flat xs).take (hh*z')).drop (ll*z'):=by rw[zfi hzt,zfj hz2]
        have hfx:=zdo hz2
        have:=V.lst (h:=h) (D:=D) (r:=r) (xs:=(xs.take hh).drop ll) (m:=m) (off:=off+ll*z') (cap:=cap-ll) (z:=z') (blk:=blk) (fun i=>cs (ll*z'+i)) e1 d
         (by rw[hfl];exact zaJ (zaO hs1 _) _) hz0 (fun x hx=>hzt x (List.mem_of_mem_drop hx)) (by rw[hl];omega)
         (fun i hi=>by
          rw[hfl] at hi;simp at hi
          rw[Nat.add_assoc];exact hc _ (by omega))
         (fun i hi=>by
          have hi':=hi
          rw[hfl] at hi';simp at hi'
          have e0:(flat ((xs.take hh).drop ll))[i]=(flat xs)[ll*z'+i]'(by omega):=by
           simp only[hfl,List.getElem_drop,List.getElem_take]
          rw[e0];exact hv _ _)
        rwa [hl] at this
      ·
       have hx0:xs=[]:=by
        rcases List.eq_nil_or_concat xs with q|⟨ys,y,q⟩
        ·exact q
        ·exfalso;subst q
         exact hzz (by rw[←hz2 y (by simp),hz' y (by simp)])
       obtain⟨rfl,rfl⟩:=onil hx0
       subst hx0
       simp only[slA,ne_eq,hzz,not_false_eq_true,if_true,List.length_nil,g2,true_and]
       rw[if_pos ⟨by
        cases hi with
        | none=>rfl
        | some q=>exact g1,rfl⟩]
       exact⟨_,rfl,by simpa using V.lst0 m off cap z'⟩
     | lst0 m off cap z' =>
      have g1:=V.opt hp e2
      have g2:=V.opt hp e3
      obtain⟨rfl,rfl⟩:=onil rfl
      by_cases hzz:z'=z
      ·subst hzz
       have g1':optN 0 (hi.map (X.ev fr'))=some 0:=g1
       simp only[slA,ne_eq,not_true_eq_false,if_false,em,g1',g2]
       rw[if_pos ⟨by omega,by omega,Nat.le_refl _,fun q=>by cases q⟩]
       by_cases hcl:cap=0
       ·rw[if_pos hcl];exact⟨.e0,by simp,by simpa using V.le0⟩
       ·rw[if_neg hcl];exact⟨_,rfl,by simpa using V.lst0 _ _ _ _⟩
      ·have g1':optN 0 (hi.map (X.ev fr'))=some 0:=g1
       simp only[slA,ne_eq,hzz,not_false_eq_true,if_true,g2,g1',true_and]
       exact⟨_,rfl,by simpa using V.lst0 m off cap z'⟩
     | lsn =>
      have g1:=V.opt hp e2
      have g2:=V.opt hp e3
      obtain⟨rfl,rfl⟩:=onil rfl
      have g1':optN 0 (hi.map (X.ev fr'))=some 0:=g1
      simp only[slA,em,g1',g2]
      exact⟨_,rfl,by simpa using V.lsn⟩
     | lse =>
      have g1:=V.opt hp e2
      have g2:=V.opt hp e3
      obtain⟨rfl,rfl⟩:=onil rfl
      have g1':optN 0 (hi.map (X.ev fr'))=some 0:=g1
      simp only[slA,em,g1',g2]
      exact⟨_,rfl,by simpa using V.lse⟩
     | le0 =>
      have g1:=V.opt hp e2
      have g2:=V.opt hp e3
      obtain⟨rfl,rfl⟩:=onil rfl
      have g1':optN 0 (hi.map (X.ev fr'))=some 0:=g1
      simp only[slA,em,g1',g2]
      exact⟨_,rfl,by simpa using V.le0⟩
    ·cases e
   ·cases e
 ·cases e
end Go.Eng
namespace Go.Eng
variable {G:Nat→Option (List AV)} {Db:Nat→Prop} {r:List Nat} {M:PM} {h:Hp}
theorem V.p_inv {D:Nat→Prop} {n off:Nat} {a:AV} (x:V h D r (.p n off) a):∃m,a=.p m off∧r[n]?=some m:=by cases x with|p off e=>exact⟨_,rfl,e⟩
theorem V.fp_inv {D:Nat→Prop} {l:List PV} {a:AV} (x:V h D r (.fp l) a):∃m off,a=.p m off∧V h D r (.fp l) (.p m off):=by cases x with|fp cs e d hs hc hv=>exact⟨_,_,rfl,.fp cs e d hs hc hv⟩
theorem V.i_inv {D:Nat→Prop} {k:IntKind} {n:Int} {a:AV} (x:V h D r (.i k n) a):a=.i k n:=by cases x;rfl
theorem V.b_inv {D:Nat→Prop} {b:Bool} {a:AV} (x:V h D r (.b b) a):a=.b b:=by cases x;rfl
theorem V.s_inv {D:Nat→Prop} {l:List UInt8} {a:AV} (x:V h D r (.s l) a):a=.s l:=by cases x;rfl
theorem V.nl_inv {D:Nat→Prop} {a:AV} (x:V h D r .nl a):a=.sn∨a=.se:=by cases x<;>simp
theorem V.ag_inv {D:Nat→Prop} {l:List PV} {a:AV} (x:V h D r (.ag l) a):∃l',a=.ag l'∧VL h D r l l':=by cases x with|ag hn hv=>exact⟨_,rfl,hn,hv⟩
theorem V.tu_inv {D:Nat→Prop} {l:List PV} {a:AV} (x:V h D r (.tu l) a):l=[]∨∃l',a=.tu l'∧VL h D r l l':=by
 cases x with
 | tu hn hv=>exact .inr ⟨_,rfl,hn,hv⟩
 | junk _ _ _=>exact .inl rfl
theorem V.fn_inv {D:Nat→Prop} {f:Nat} {l:List PV} {a:AV} (x:V h D r (.fn f l) a):∃l',a=.fn f l'∧VL h D r l l':=by cases x with|fn hn hv=>exact⟨_,rfl,hn,hv⟩
theorem V.sl_inv {D:Nat→Prop} {n off len cap z:Nat} {a:AV} (x:V h D r (.sl n off len cap z) a):∃m,a=.sl m off len cap z∧r[n]?=some m∧len≤cap:=by cases x with|sl _ _ _ _ e hl=>exact⟨_,rfl,e,hl⟩
theorem ze0 {D:Nat→Prop} {z:List PV} {z':List AV} (x:VL h D r z z'):∀n,VL h D r (List.replicate n z).flatten (List.replicate n z').flatten
 | 0=>.nil
 | n+1=>by simp only[List.replicate_succ,List.flatten_cons];exact x.append (ze0 x n)
theorem ze1 {z:List PV} (x:z.all PV.scal=true):∀n,(List.replicate n z).flatten.all PV.scal=true
 | 0=>rfl
 | n+1=>by simp only[List.replicate_succ,List.flatten_cons,List.all_append,x,ze1 x n,Bool.and_self]
theorem zdl {z:List AV} (hs:(z.map cst0).all PV.scal=true):z.all AV.scal=true:=(zb3 (h:=⟨fun _=>none,0⟩) (D:=fun _=>False) (r:=[]) z).scal hs
theorem zpo (I:PInv G Db r M h) {fr:PFr} {fr':Fr} (F:VFr h (DD Db r M) r fr fr') (call:Nat→List AV→Hp→Option (AV×Hp)) {o:XO} {v:PV} {M':PM} (e:o.pev G fr M=some (v,M')):PRes G Db r M h v M' (o.ev call fr' h):=by
 have hp:∀x:X,V h (DD Db r M) r (x.pv G fr) (x.ev fr'):=zgb I F
 cases o with
 | mov x=>simp only[XO.pev] at e;cases e;exact .pure I (hp x)
 | pick c a b =>
  simp only[XO.pev] at e
  have hc:=hp c
  split at e
  ·rename_i q hq
   rw[hq] at hc
   cases e
   simp only[XO.ev,hc.b_inv]
   cases q
   ·exact .pure I (hp b)
   ·exact .pure I (hp a)
  ·cases e
 | new z =>
  simp only[XO.pev] at e
  split at e
  ·rename_i hs
   cases e
   simp only[XO.ev,zdl hs,if_true]
   exact .push I (zb3 z) hs fun _ _=>.p 0 (zbU I)
  ·cases e
 | box x =>
  simp only[XO.pev] at e
  split at e
  ·rename_i hs
   cases e
   have hv:=(hp x).cells hs
   simp only[XO.ev,hv.scal hs,if_true]
   exact .push I hv hs fun _ _=>.p 0 (zbU I)
  ·cases e
 | build z ps =>
  simp only[XO.pev,Option.map_eq_some_iff] at e
  obtain⟨l,e1,e2⟩:=e
  cases e2
  by_cases hs:(z.map cst0).all PV.scal=true
  ·obtain⟨l',q1,q2,q3⟩:=zfX hp (zb3 z) hs e1
   simp only[XO.ev,q1,Option.map_some]
   exact .pure I (.ag q2.1 q2.2)
  ·
   have key:∀{ps:List (Nat×Nat×X)} {z z2:List PV} {z':List AV},VL h (DD Db r M) r z z'→fillP G fr z ps=some z2→∃z2',fillA fr' z' ps=some z2'∧VL h (DD Db r M) r z2 z2':=by
    intro ps
    induction ps with
    | nil =>
     intro z z2 z' a e
     simp[fillP] at e;subst e
     exact⟨z',rfl,a⟩
    | cons p ps ih =>
     obtain⟨off,size,x⟩:=p
     intro z z2 z' a e
     simp only[fillP] at e
     split at e
     ·rename_i hc
      obtain⟨c1,c2,c3⟩:=hc
      have c:=(hp x).cells c3
      obtain⟨z2',e2,q⟩:=ih (a.splice c off) e
      refine⟨z2',?_,q⟩
      simp only[fillA]
      rw[if_pos ⟨by rw[←c.1];exact c1,by rw[←a.1];exact c2,c.scal c3⟩]
      exact e2
     ·cases e
   obtain⟨l',q1,q2⟩:=key (zb3 z) e1
   simp only[XO.ev,q1,Option.map_some]
   exact .pure I (.ag q2.1 q2.2)
 | bsl n sz z ps =>
  simp only[XO.pev] at e
  split at e
  ·rename_i hc
   obtain⟨c1,c2,c3⟩:=hc
   split at e
   ·rename_i l hl
    obtain⟨l',q1,q2,q3⟩:=zfX hp (ze0 (zb3 z) n) (ze1 c3 n) hl
    split at e
    ·rename_i hn
     cases e
     simp only[XO.ev]
     rw[if_pos ⟨c1,c2,zdl c3⟩]
     simp only[q1]
     rw[if_pos hn]
     exact .pure I .nle
    ·rename_i hn
     cases e
     simp only[XO.ev]
     rw[if_pos ⟨c1,c2,zdl c3⟩]
     simp only[q1,hn,if_false]
     exact .push I q2 q3 fun _ _=>.sl 0 n n sz (zbU I) (Nat.le_refl _)
   ·cases e
  ·cases e
 | load agg n x =>
  simp only[XO.pev] at e
  have hx:=hp x
  split at e
  ·rename_i m off hq
   rw[hq] at hx
   obtain⟨m',ha,em⟩:=hx.p_inv
   split at e
   ·rename_i l hl
    simp only[Option.map_eq_some_iff] at e
    obtain⟨w,e1,e2⟩:=e
    cases e2
    obtain⟨l',q1,q2,_,_⟩:=zkU I hl em
    obtain⟨a,p1,p2⟩:=zc3 q2 e1
    simp only[XO.ev,ha,q1,p1,Option.map_some]
    exact .pure I p2
   ·cases e
  ·rename_i l hq
   rw[hq] at hx
   obtain⟨m,off,ha,hx'⟩:=hx.fp_inv
   split at e
   ·rename_i hc
    simp only[Option.map_eq_some_iff] at e
    obtain⟨w,e1,e2⟩:=e
    cases e2
    obtain⟨l',q1,q2⟩:=zos hx' hc
    obtain⟨a,p1,p2⟩:=zc3 q2 e1
    simp only[XO.ev,ha,q1,p1,Option.map_some]
    exact .pure I p2
   ·cases e
  ·cases e
 | store n a x =>
  simp only[XO.pev] at e
  have ha:=hp a
  split at e
  ·rename_i m off hq
   rw[hq] at ha
   obtain⟨m',ea,em⟩:=ha.p_inv
   split at e
   ·rename_i b hb
    split at e
    ·rename_i hc
     obtain⟨c1,c2,c3,c4⟩:=hc
     cases e
     obtain⟨b',p1,p2,p3,p4,p5⟩:=zfb I hb em
     have hv:=(hp x).cells c4
     simp only[XO.ev,ea,p1]
     rw[if_pos ⟨p3 c1,by rw[←hv.1];exact c2,by rw[←p4.1];exact c3,hv.scal c4⟩]
     obtain⟨I2,X2⟩:=I.upd (zaz.1 hb) em p1 p2 c1 (p3 c1) (p4.splice hv off) (by
      unfold psplice
      simp only[List.all_append,Bool.and_eq_true]
      exact⟨⟨zaO p5 _,c4⟩,zaJ p5 _⟩)
     exact⟨_,_,_,rfl,I2,X2,.junk _ rfl fun _ q=>by cases q⟩
    ·cases e
   ·cases e
  ·cases e
 | nilck x =>
  simp only[XO.pev] at e
  have hx:=hp x
  split at e
  ·rename_i m off hq
   rw[hq] at hx
   cases e
   obtain⟨m',ha,em⟩:=hx.p_inv
   simp only[XO.ev,ha]
   exact .pure I (.p off em)
  ·rename_i l hq
   rw[hq] at hx
   cases e
   obtain⟨m,off,ha,hx'⟩:=hx.fp_inv
   simp only[XO.ev,ha]
   exact .pure I hx'
  ·rename_i f l hq
   rw[hq] at hx
   cases e
   obtain⟨l',ha,hv⟩:=hx.fn_inv
   simp only[XO.ev,ha]
   exact .pure I (.fn hv.1 hv.2)
  ·cases e
 | bin op x y =>
  simp only[XO.pev,Option.map_eq_some_iff] at e
  obtain⟨c,e1,e2⟩:=e
  cases e2
  obtain⟨c',q1,q2⟩:=znY (hp x) (hp y) e1
  simp only[XO.ev,q1,Option.map_some]
  exact .pure I q2
 | eqt ne c x y =>
  simp only[XO.pev,Option.map_eq_some_iff] at e
  obtain⟨q,e1,e2⟩:=e
  cases e2
  simp only[XO.ev,zoj I.inj (hp x) (hp y) e1,Option.map_some]
  exact .pure I (.b _)
 | eqa ne ks x y =>
  simp only[XO.pev] at e
  have hx:=hp x
  have hy:=hp y
  split at e
  ·rename_i xs ys q1 q2
   rw[q1] at hx;rw[q2] at hy
   obtain⟨xs',ax,vx⟩:=hx.ag_inv
   obtain⟨ys',ay,vy⟩:=hy.ag_inv
   simp only[Option.map_eq_some_iff] at e
   obtain⟨q,e1,e2⟩:=e
   cases e2
   simp only[XO.ev,ax,ay,zed vx vy e1,Option.map_some]
   exact .pure I (.b _)
  ·cases e
 | un op x =>
  simp only[XO.pev,Option.map_eq_some_iff] at e
  obtain⟨c,e1,e2⟩:=e
  cases e2
  obtain⟨c',q1,q2⟩:=ztf (hp x) e1
  simp only[XO.ev,q1,Option.map_some]
  exact .pure I q2
 | cint k x =>
  simp only[XO.pev] at e
  have hx:=hp x
  split at e
  ·rename_i k' n hq
   rw[hq] at hx
   cases e
   simp only[XO.ev,hx.i_inv]
   exact .pure I (.i _ _)
  ·cases e
 | cstr x =>
  simp only[XO.pev] at e
  have hx:=hp x
  split at e
  ·rename_i l hq
   rw[hq] at hx
   cases e
   simp only[XO.ev,hx.s_inv]
   exact .pure I (.s _)
  ·cases e
 | b2s x =>
  simp only[XO.pev] at e
  have hx:=hp x
  split at e
  ·rename_i hq
   rw[hq] at hx
   cases e
   rcases hx.nl_inv with ha|ha<;>simp only[XO.ev,ha]<;>exact .pure I (.s _)
  ·rename_i n off ln cap z hq
   rw[hq] at hx
   obtain⟨m,ha,em,hl⟩:=hx.sl_inv
   simp only[XO.ev,ha]
   split at e
   ·rename_i h0;cases e
    rw[if_pos h0];exact .pure I (.s _)
   ·rename_i h0
    rw[if_neg h0]
    split at e
    ·rename_i hz
     rw[if_pos hz]
     split at e
     ·rename_i bs hb
      cases e
      cases hrd:PM.rd M n off ln with
      | none=>simp[hrd] at hb
      | some cs =>
       simp[hrd] at hb
       obtain⟨l',q1,q2,_,_⟩:=zkU I hrd em
       simp only[q1,Option.bind_some,zex q2 hb]
       exact .pure I (.s _)
     ·cases e
    ·cases e
  ·rename_i xs hq
   rw[hq] at hx
   split at e
   ·rename_i bs hb
    cases e
    obtain⟨hf,hone⟩:=zd8 hb
    have hb0:xs=[]→bs=[]:=fun q=>by subst q;simp[bytesP] at hb;exact hb
    generalize hxa:x.ev fr'=xa at hx
    cases hx with
    | @lst _ _ m off cap z blk cs e1 d hs hz0 hz hcap hc hv =>
     by_cases h0:xs.length=0
     ·obtain rfl:=List.length_eq_zero_iff.1 h0
      rw[hb0 rfl]
      simp only[XO.ev,hxa,List.length_nil,if_true]
      exact .pure I (.s _)
     ·have hz1:z=1:=by
       obtain⟨y,ys,rfl⟩:=List.exists_cons_of_ne_nil (fun q=>h0 (by rw[q];rfl):xs≠[])
       rw[←hz y (List.mem_cons_self ..),hone y (List.mem_cons_self ..)]
      subst hz1
      rw[hf] at hc
      obtain⟨p1,p2,p3⟩:=zeX (D:=DD Db r M) (r:=r) e1 hc (fun i hi=>by
       have:=hv i (by rw[hf];exact hi)
       simpa only[hf] using this) (Nat.le_refl _) h0
      rw[List.take_length] at p3
      simp only[XO.ev,hxa,h0,if_false,if_true,p2,Option.bind_some,zex p3 hb]
      exact .pure I (.s _)
    | lst0 m off cap z=>rw[hb0 rfl];simp only[XO.ev,hxa,if_true];exact .pure I (.s _)
    | lsn=>rw[hb0 rfl];simp only[XO.ev,hxa];exact .pure I (.s _)
    | lse=>rw[hb0 rfl];simp only[XO.ev,hxa];exact .pure I (.s _)
    | le0=>rw[hb0 rfl];simp only[XO.ev,hxa];exact .pure I (.s _)
   ·cases e
  ·cases e
 | s2b x =>
  simp only[XO.pev] at e
  have hx:=hp x
  split at e
  ·rename_i l hq
   rw[hq] at hx
   simp only[XO.ev,hx.s_inv]
   split at e
   ·rename_i h0;cases e
    simp only[h0,if_true]
    exact .pure I .le0
   ·rename_i h0;cases e
    simp only[h0,if_false]
    exact .push I (zpL l) (zjO l) fun _ _=>.sl 0 _ _ 1 (zbU I) (Nat.le_refl _)
  ·cases e
 | mif t x =>
  simp only[XO.pev] at e
  split at e
  ·rename_i hs
   cases e
   simp only[XO.ev,(hp x).scal hs,if_true]
   exact .pure I (.ia (hp x))
  ·cases e
 | mfn f l =>
  simp only[XO.pev] at e
  cases e
  have:=zgi hp l
  exact .pure I (.fn this.1 this.2)
 | msl z by_ n c =>
  simp only[XO.pev] at e
  split at e
  ·rename_i a b ha hb
   simp only[XO.ev,(hp n).asN ha,(hp c).asN hb]
   split at e
   ·rename_i hc
    obtain⟨c1,c2,c3,c4⟩:=hc
    rw[if_pos ⟨c1,c2,c3,zdl c4⟩]
    split at e
    ·rename_i h0;cases e
     rw[if_pos h0];exact .pure I .nle
    ·rename_i h0;cases e
     rw[if_neg h0]
     exact .push I (ze0 (zb3 z) b) (ze1 c4 b) fun _ _=>.sl 0 a b _ (zbU I) c1
   ·cases e
  ·cases e
 | slstr x lo hi =>
  simp only[XO.pev] at e
  have hx:=hp x
  split at e
  ·rename_i l hq
   rw[hq] at hx
   simp only[Option.map_eq_some_iff] at e
   obtain⟨w,e1,e2⟩:=e
   cases e2
   unfold slStrP at e1
   split at e1
   ·rename_i hh ll p1 p2
    split at e1
    ·rename_i hc
     cases e1
     simp only[XO.ev,hx.s_inv,slStr,V.opt hp p1,V.opt hp p2,hc,and_self,if_true,Option.map_some]
     exact .pure I (.s _)
    ·cases e1
   ·cases e1
  ·cases e
 | slsl z x lo hi mx =>
  simp only[XO.pev,Option.map_eq_some_iff] at e
  obtain⟨w,e1,e2⟩:=e
  cases e2
  obtain⟨w',q1,q2⟩:=znE hp (hp x) e1
  simp only[XO.ev,q1,Option.map_some]
  exact .pure I q2
 | slarr n z x lo hi =>
  simp only[XO.pev] at e
  have hx:=hp x
  split at e
  ·rename_i m off hq
   rw[hq] at hx
   obtain⟨m',ha,em⟩:=hx.p_inv
   split at e
   ·rename_i b hb
    obtain⟨b',p1,p2,p3,p4,p5⟩:=zfb I hb em
    split at e
    ·rename_i hc
     simp only[Option.map_eq_some_iff] at e
     obtain⟨w,e1,e2⟩:=e
     cases e2
     obtain⟨w',q1,q2⟩:=znE (mx:=none) hp (.sl off n n z em (Nat.le_refl _)) e1
     simp only[XO.ev,ha,p1]
     rw[if_pos (by rw[←p4.1];exact hc)]
     have q1':slA z (.sl m' off n n z) (lo.map (X.ev fr')) (hi.map (X.ev fr')) none=some w':=q1
     rw[q1']
     exact .pure I q2
    ·cases e
   ·cases e
  ·rename_i l hq
   rw[hq] at hx
   generalize hxa:x.ev fr'=xa at hx
   cases hx with
   | @fp _ _ m off blk cs e1 d hs hc hv =>
   split at e
   ·rename_i hcc
    obtain⟨c1,c2,c3⟩:=hcc
    simp only[Option.map_eq_some_iff] at e
    obtain⟨w,e2,e3⟩:=e
    cases e3
    obtain⟨g1,g2,g3⟩:=zeH (z:=z) n (l.take (n*z)) (by simp;omega) (zaO c3 _)
    obtain⟨p1,p2,p3⟩:=zeX (r:=r) e1 hc hv c1 c2
    have hz0:z≠0:=fun q=>c2 (by rw[q];simp)
    have hl:=V.lst (h:=h) (D:=DD Db r M) (r:=r) (xs:=group z n (l.take (n*z))) (m:=m) (off:=off) (cap:=n) (z:=z) (blk:=blk) cs e1 d (by rw[g1];exact zaO c3 _) hz0 g3 (by rw[g2];exact Nat.le_refl _)
     (fun i hi=>by rw[g1] at hi;simp at hi;exact hc i (by omega))
     (fun i hi=>by
      have hi':=hi
      rw[g1] at hi';simp at hi'
      have e0:(flat (group z n (l.take (n*z))))[i]=l[i]'(by omega):=by simp only[g1,List.getElem_take]
      rw[e0];exact hv i _)
    rw[g2] at hl
    obtain⟨w',q1,q2⟩:=znE (mx:=none) hp hl e2
    simp only[XO.ev,hxa,e1]
    rw[if_pos p1]
    have q1':slA z (.sl m off n n z) (lo.map (X.ev fr')) (hi.map (X.ev fr')) none=some w':=q1
    rw[q1']
    exact .pure I q2
   ·cases e
  ·cases e
 | fad off x =>
  simp only[XO.pev] at e
  have hx:=hp x
  split at e
  ·rename_i m o hq
   rw[hq] at hx
   cases e
   obtain⟨m',ha,em⟩:=hx.p_inv
   simp only[XO.ev,ha]
   exact .pure I (.p _ em)
  ·rename_i l hq
   rw[hq] at hx
   cases e
   generalize hxa:x.ev fr'=xa at hx
   cases hx with
   | @fp _ _ m o blk cs e1 d hs hc hv =>
    simp only[XO.ev,hxa]
    refine .pure I (.fp (fun i=>cs (off+i)) e1 d (zaJ hs _) (fun i hi=>?_) fun i hi=>?_)
    ·simp at hi
     rw[Nat.add_assoc];exact hc _ (by omega)
    ·simp only[List.getElem_drop]
     exact hv _ _
  ·cases e
 | fld agg off n x =>
  simp only[XO.pev] at e
  have hx:=hp x
  split at e
  ·rename_i l hq
   rw[hq] at hx
   obtain⟨l',ha,hv⟩:=hx.ag_inv
   split at e
   ·rename_i hc
    simp only[Option.map_eq_some_iff] at e
    obtain⟨w,e1,e2⟩:=e
    cases e2
    obtain⟨a,p1,p2⟩:=zc3 ((hv.drop off).take n) e1
    simp only[XO.ev,ha]
    rw[if_pos (by rw[←hv.1];exact hc),p1]
    exact .pure I p2
   ·cases e
  ·cases e
 | ixa ln sz x i =>
  simp only[XO.pev] at e
  have hx:=hp x
  split at e
  ·rename_i m off j hq hj
   rw[hq] at hx
   obtain⟨m',ha,em⟩:=hx.p_inv
   split at e
   ·rename_i hc
    cases e
    simp only[XO.ev,ha,(hp i).asN hj,hc,if_true]
    exact .pure I (.p _ em)
   ·cases e
  ·rename_i l j hq hj
   rw[hq] at hx
   split at e
   ·rename_i hcc
    cases e
    generalize hxa:x.ev fr'=xa at hx
    cases hx with
    | @fp _ _ m o blk cs e1 d hs hc hv =>
     simp only[XO.ev,hxa,(hp i).asN hj,hcc,if_true]
     refine .pure I (.fp (fun i=>cs (j*sz+i)) e1 d (zaJ hs _) (fun i hi=>?_) fun i hi=>?_)
     ·simp at hi
      rw[Nat.add_assoc];exact hc _ (by omega)
     ·simp only[List.getElem_drop]
      exact hv _ _
   ·cases e
  ·cases e
 | ixs sz x i =>
  simp only[XO.pev] at e
  have hx:=hp x
  split at e
  ·rename_i m off ln cap z j hq hj
   rw[hq] at hx
   obtain⟨m',ha,em,hl⟩:=hx.sl_inv
   split at e
   ·rename_i hc
    cases e
    simp only[XO.ev,ha,(hp i).asN hj,hc,and_self,if_true]
    exact .pure I (.p _ em)
   ·cases e
  ·rename_i xs j hq hj
   rw[hq] at hx
   split at e
   ·rename_i y hy
    split at e
    ·rename_i hyz
     cases e
     have hjl:=zaI hy
     generalize hxa:x.ev fr'=xa at hx
     cases hx with
     | @lst _ _ m off cap z blk cs e1 d hs hz0 hz hcap hc hv =>
      have hzz:z=sz:=by rw[←hz y (List.mem_of_getElem? hy),hyz]
      subst hzz
      simp only[XO.ev,hxa,(hp i).asN hj,hjl,and_self,if_true]
      have hfl:=zdo hz
      have hg:=zgv hz hy
      have hle:j*z+z≤xs.length*z:=by
       have:=Nat.mul_le_mul_right z (show j+1≤xs.length from hjl)
       rw[Nat.add_mul,Nat.one_mul] at this;exact this
      refine .pure I (.fp (fun i=>cs (j*z+i)) e1 d (by rw[←hg];exact zaO (zaJ hs _) _) (fun i hi=>?_) fun i hi=>?_)
      ·rw[hyz] at hi
       rw[Nat.add_assoc];exact hc _ (by omega)
      ·have hi':=hi
       rw[hyz] at hi'
       have e0:y.cells[i]=(flat xs)[j*z+i]'(by omega):=by simp only[←hg,List.getElem_take,List.getElem_drop]
       rw[e0];exact hv _ _
     | lst0=>simp at hjl
     | lsn=>simp at hjl
     | lse=>simp at hjl
     | le0=>simp at hjl
    ·cases e
   ·cases e
  ·cases e
 | iag ln agg sz x i =>
  simp only[XO.pev] at e
  have hx:=hp x
  split at e
  ·rename_i l j hq hj
   rw[hq] at hx
   obtain⟨l',ha,hv⟩:=hx.ag_inv
   split at e
   ·rename_i hc
    simp only[Option.map_eq_some_iff] at e
    obtain⟨w,e1,e2⟩:=e
    cases e2
    obtain⟨a,p1,p2⟩:=zc3 ((hv.drop (j*sz)).take sz) e1
    simp only[XO.ev,ha,(hp i).asN hj]
    rw[if_pos ⟨hc.1,by rw[←hv.1];exact hc.2⟩,p1]
    exact .pure I p2
   ·cases e
  ·cases e
 | istr x i =>
  simp only[XO.pev] at e
  have hx:=hp x
  split at e
  ·rename_i l j hq hj
   rw[hq] at hx
   simp only[Option.map_eq_some_iff] at e
   obtain⟨w,e1,e2⟩:=e
   cases e2
   simp only[XO.ev,hx.s_inv,(hp i).asN hj,e1,Option.map_some]
   exact .pure I (.i _ _)
  ·cases e
 | ext x n =>
  simp only[XO.pev] at e
  have hx:=hp x
  split at e
  ·rename_i l hq
   rw[hq] at hx
   simp only[Option.map_eq_some_iff] at e
   obtain⟨w,e1,e2⟩:=e
   cases e2
   rcases hx.tu_inv with h0|⟨l',ha,hv⟩
   ·subst h0;simp at e1
   ·obtain⟨a,p1,p2⟩:=hv.get? e1
    simp only[XO.ev,ha,p1,Option.map_some]
    exact .pure I p2
  ·cases e
 | lens x =>
  simp only[XO.pev] at e
  have hx:=hp x
  split at e
  ·rename_i l hq
   rw[hq] at hx
   cases e
   simp only[XO.ev,hx.s_inv]
   exact .pure I (.i _ _)
  ·cases e
 | len x =>
  simp only[XO.pev] at e
  have hx:=hp x
  split at e
  ·rename_i n off ln cap z hq
   rw[hq] at hx
   cases e
   obtain⟨m,ha,em,hl⟩:=hx.sl_inv
   simp only[XO.ev,ha]
   exact .pure I (.i _ _)
  ·rename_i hq
   rw[hq] at hx
   cases e
   rcases hx.nl_inv with ha|ha<;>simp only[XO.ev,ha]<;>exact .pure I (.i _ _)
  ·rename_i xs hq
   rw[hq] at hx
   cases e
   generalize hxa:x.ev fr'=xa at hx
   cases hx<;>simp only[XO.ev,hxa]<;>exact .pure I (.i _ _)
  ·cases e
 | lenc n=>simp only[XO.pev] at e;cases e;exact .pure I (.i _ _)
 | app z by_ s x=>exact znX I (hp s) (hp x) e
 | cpy z d s=>exact zof I (hp d) (hp s) e
 | mm mx x l =>
  simp only[XO.pev,Option.map_eq_some_iff] at e
  obtain⟨c,e1,e2⟩:=e
  cases e2
  obtain⟨c',q1,q2⟩:=zoJ (hp x) (zgi hp l) e1
  simp only[XO.ev,q1,Option.map_some]
  exact .pure I q2
 | call f l=>simp only[XO.pev] at e;cases e
 | callv x l=>simp only[XO.pev] at e;cases e
 | fail=>simp only[XO.pev] at e;cases e
end Go.Eng
namespace Go.Eng
variable {G:Nat→Option (List AV)} {Db:Nat→Prop} {r:List Nat} {M:PM} {h:Hp}
def XOper.dOk (n:Nat) (o:XOper):Bool:=match o.dst with|some d=>decide (d<n)|none=>true
def XC.dOk (n:Nat):XC→Bool
 | .reg ops=>ops.all (XOper.dOk n)
 | .drw ops _=>ops.all (XOper.dOk n)
 | .seq a b=>a.dOk n&&b.dOk n
 | .cond _ a b=>a.dOk n&&b.dOk n
 | .block _ a=>a.dOk n
 | .loop a=>a.dOk n
 | .scope a=>a.dOk n
 | _=>true
theorem zfU {n:Nat} {o:XOper} (hd:o.dOk n=true):∀k,o.dst=some k→k<n:=fun k e=>by
 unfold XOper.dOk at hd
 rw[e] at hd;simpa using hd
abbrev ECall:=Nat→List AV→Hp→Option (AV×Hp)
def PSound (G:Nat→Option (List AV)) (pc:PCall) (ec:ECall):Prop :=
 ∀(Db:Nat→Prop) (r:List Nat) (M:PM) (h:Hp) (f:Nat) (args:List PV) (asq:List AV) (v:PV) (M':PM),pc f args M=some (v,M')→PInv G Db r M h→VL h (DD Db r M) r args asq→PRes G Db r M h v M' (ec f asq h)
variable {pc:PCall} {ec:ECall}
theorem zlQ (S:PSound G pc ec) (I:PInv G Db r M h) {fr:PFr} {fr':Fr} (F:VFr h (DD Db r M) r fr fr') {o:XO} {v:PV} {M':PM} (e:o.pst G pc fr M=some (v,M')):PRes G Db r M h v M' (o.ev ec fr' h):=by
 cases o with
 | call f l=>exact S Db r M h f _ _ v M' e I (zgi (zgb I F) l)
 | callv x l =>
  simp only[XO.pst] at e
  have hx:=zgb I F x
  split at e
  ·rename_i f c hq
   rw[hq] at hx
   obtain⟨c',ha,hv⟩:=hx.fn_inv
   simp only[XO.ev,ha]
   exact S Db r M h f _ _ v M' e I ((zgi (zgb I F) l).append hv)
  ·cases e
 | _=>exact zpo I F ec e
theorem zcR {D:Nat→Prop} {fr:PFr} {fr':Fr} (F:VFr h D r fr fr') {o:XOper} {b:Bool} (e:o.pw fr=some b):o.wanted fr'=b:=by
 unfold XOper.pw at e
 unfold XOper.wanted
 cases hg:o.guard with
 | none=>rw[hg] at e;cases e;rfl
 | some g =>
  obtain⟨s,c⟩:=g
  rw[hg] at e
  simp only at e ⊢
  have hs:=F s
  split at e
  ·rename_i q hq
   rw[hq] at hs
   cases e
   have:=hs.b_inv
   have hs2:fr'[s]?=some (.b q):=by
    rw[List.getD] at this
    cases h2:fr'[s]? with
    | none=>rw[h2] at this;simp[undefA] at this
    | some w=>rw[h2] at this;simp at this;rw[this]
   rw[hs2]
  ·rename_i hq
   rw[hq] at hs
   cases e
   have hn:∀c,fr'[s]?≠some (.b c):=fun c q=>by
    have e2:fr'.getD s undefA=.b c:=by rw[List.getD,q];rfl
    rw[e2] at hs
    cases hs with
    | junk _ _ hb=>exact hb c rfl
   cases h2:fr'[s]? with
   | none=>rfl
   | some w =>
    cases w with
    | b c=>exact(hn c h2).elim
    | _=>rfl
  ·cases e
theorem zeR (S:PSound G pc ec) {n:Nat}:∀{ops:List XOper} {fr fr2:PFr} {fr':Fr} {r:List Nat} {M M2:PM} {h:Hp},ops.all (XOper.dOk n)=true→pOps G pc ops fr M=some (fr2,M2)→PInv G Db r M h→VFr h (DD Db r M) r fr fr'→fr'.length=n →
  ∃fr2' h2 r2,evOps ec ops fr' h=some (fr2',h2)∧PInv G Db r2 M2 h2∧PEx r M h r2 M2 h2∧VFr h2 (DD Db r2 M2) r2 fr2 fr2'∧fr2'.length=n
 | [],fr,fr2,fr',r,M,M2,h,_,e,I,F,hn=>by
  simp[pOps] at e
  obtain⟨rfl,rfl⟩:=e
  exact⟨fr',h,r,rfl,I,.refl _ _ _,F,hn⟩
 | o::ops,fr,fr2,fr',r,M,M2,h,hd,e,I,F,hn=>by
  simp only[List.all_cons,Bool.and_eq_true] at hd
  simp only[pOps] at e
  split at e
  ·rename_i hw
   split at e
   ·rename_i v M1 hst
    obtain⟨a,h1,r1,e1,I1,X1,v1⟩:=zlQ S I F hst
    obtain⟨fr2',h2,r2,e2,I2,X2,F2,l2⟩:=zeR S hd.2 e I1 ((X1.fr I.wf F).put (d:=o.dst) (by rw[hn];exact zfU hd.1) v1) (by cases o.dst<;>simp[Fr.put,hn])
    exact⟨fr2',h2,r2,by simp only[evOps,zcR F hw,if_true,e1,e2],I2,X1.trans X2,F2,l2⟩
   ·cases e
  ·rename_i hw
   obtain⟨fr2',h2,r2,e2,I2,X2,F2,l2⟩:=zeR S hd.2 e I (F.put (d:=o.dst) (by rw[hn];exact zfU hd.1) (v:=undefP) (a:=undefA) (.junk _ rfl fun _ q=>by cases q)) (by cases o.dst<;>simp[Fr.put,hn])
   exact⟨fr2',h2,r2,by simp only[evOps,zcR F hw,Bool.false_eq_true,if_false,e2],I2,X2,F2,l2⟩
  ·cases e
theorem zhP {o:XO} (hc:o.cls=1) {fr:Fr} {h h1:Hp} {v:AV} (e:o.ev ec fr h=some (v,h1)):h1.next≤h.next+1:=by
 cases o<;>simp[XO.cls] at hc<;>simp only[XO.ev] at e
 case new=>split at e<;>cases e;simp[Hp.push]
 case box=>split at e<;>cases e;simp[Hp.push]
 case bsl =>
  split at e
  ·split at e
   ·split at e<;>cases e<;>simp[Hp.push]
   ·cases e
  ·cases e
 case s2b =>
  split at e
  ·cases e;split<;>simp[Hp.push]
  ·cases e
 case msl =>
  split at e
  ·split at e
   ·split at e<;>cases e<;>simp[Hp.push]
   ·cases e
  ·cases e
structure TrAt (G:Nat→Option (List AV)) (Db:Nat→Prop) (ops:List XOper) (fr2:PFr) (fr2':Fr) (r2:List Nat) (Ms:List PM) (hs:List Hp) (t:Nat) (A:PM) (H:Hp) (rt:List Nat):Prop where
 at_:hs[t]?=some H
 pre:rt <+: r2
 inv:PInv G Db rt A H
 fresh:∀k m:Nat,r2[k]?=some m→rt.length≤k→H.next≤m
 val:∀x,fixedX ops t x=true→V H (DD Db rt A) rt (x.pv G fr2) (x.ev fr2')
 next:∀B,Ms[t+1]?=some B→∃H1 rt1,hs[t+1]?=some H1∧rt1 <+: r2∧PInv G Db rt1 B H1∧PEx rt A H rt1 B H1∧(∀k m:Nat,r2[k]?=some m→rt1.length≤k→H1.next≤m)
 one:∀o B,ops[t]?=some o→Ms[t+1]?=some B→o.op.cls=1→A.length<B.length→r2[A.length]?=some H.next
theorem zgO (S:PSound G pc ec) {n:Nat}:∀{ops:List XOper} {fr fr2:PFr} {fr':Fr} {r:List Nat} {M:PM} {Ms:List PM} {h:Hp},ops.all (XOper.dOk n)=true→pOpsT G pc ops fr M=some (fr2,Ms)→PInv G Db r M h→VFr h (DD Db r M) r fr fr'→fr'.length=n →
  ∃fr2' hs r2 M2 h2,evOpsT ec ops fr' h=some (fr2',hs)∧Ms.head?=some M∧hs.head?=some h∧Ms.getLast?=some M2∧hs.getLast?=some h2∧PInv G Db r2 M2 h2∧PEx r M h r2 M2 h2∧VFr h2 (DD Db r2 M2) r2 fr2 fr2'∧fr2'.length=n ∧
   (∀s,(ops.all fun o=>o.dst != some s)=true→fr2 s=fr s∧fr2'.getD s undefA=fr'.getD s undefA) ∧
   ∀t A,Ms[t]?=some A→∃H rt,TrAt G Db ops fr2 fr2' r2 Ms hs t A H rt
 | [],fr,fr2,fr',r,M,Ms,h,_,e,I,F,hn=>by
  simp[pOpsT] at e
  obtain⟨rfl,rfl⟩:=e
  refine⟨fr',[h],r,M,h,rfl,rfl,rfl,rfl,rfl,I,.refl _ _ _,F,hn,fun s _=>⟨rfl,rfl⟩,fun t A hA=>?_⟩
  have ht:t=0:=by have:=zaI hA;simp at this;exact this
  subst ht
  simp at hA;subst hA
  exact⟨h,r,rfl,List.prefix_refl _,I,fun k m e hk=>(by rw[List.getElem?_eq_none hk] at e;cases e),fun x _=>zgb I F x,fun B hB=>by simp at hB,fun o B ho=>by simp at ho⟩
 | o::ops,fr,fr2,fr',r,M,Ms,h,hd,e,I,F,hn=>by
  simp only[List.all_cons,Bool.and_eq_true] at hd
  have step:∀{v:PV} {a:AV} {M1:PM} {h1:Hp} {r1:List Nat} {Ms1:List PM},PInv G Db r1 M1 h1→PEx r M h r1 M1 h1→V h1 (DD Db r1 M1) r1 v a→pOpsT G pc ops (fr.putO o.dst v) M1=some (fr2,Ms1)→Ms=M::Ms1 →
    (o.op.cls=1→M.length<M1.length→h1.next≤h.next+1) →
    (∀fr2' hs,evOpsT ec ops (Fr.put fr' o.dst a) h1=some (fr2',hs)→evOpsT ec (o::ops) fr' h=some (fr2',h::hs)) →
    ∃fr2' hs r2 M2 h2,evOpsT ec (o::ops) fr' h=some (fr2',hs)∧Ms.head?=some M∧hs.head?=some h∧Ms.getLast?=some M2∧hs.getLast?=some h2∧PInv G Db r2 M2 h2∧PEx r M h r2 M2 h2∧VFr h2 (DD Db r2 M2) r2 fr2 fr2'∧fr2'.length=n ∧
     (∀s,((o::ops).all fun o=>o.dst != some s)=true→fr2 s=fr s∧fr2'.getD s undefA=fr'.getD s undefA) ∧
     ∀t A,Ms[t]?=some A→∃H rt,TrAt G Db (o::ops) fr2 fr2' r2 Ms hs t A H rt:=by
   intro v a M1 h1 r1 Ms1 I1 X1 v1 e1 hMs hone hev
   obtain⟨fr2',hs,r2,M2,h2,q1,q2,q3,q4,q5,q6,q7,q8,q9,q10,q11⟩:=zgO S hd.2 e1 I1 ((X1.fr I.wf F).put (d:=o.dst) (by rw[hn];exact zfU hd.1) v1) (by cases o.dst<;>simp[Fr.put,hn])
   subst hMs
   have hMs1:Ms1≠[]:=fun z=>by rw[z] at q2;cases q2
   have hhs:hs≠[]:=fun z=>by rw[z] at q3;cases q3
   have keepS:∀s,((o::ops).all fun o=>o.dst != some s)=true→fr2 s=fr s∧fr2'.getD s undefA=fr'.getD s undefA:=fun s hs=>by
    simp only[List.all_cons,Bool.and_eq_true] at hs
    obtain⟨p1,p2⟩:=q10 s hs.2
    rw[p1,p2]
    have hne:o.dst≠some s:=by simpa using hs.1
    cases hdst:o.dst with
    | none=>exact⟨rfl,rfl⟩
    | some d =>
     have hds:s≠d:=fun z=>hne (by rw[hdst,z])
     refine⟨by simp[PFr.putO,PFr.put,hds],?_⟩
     simp[Fr.put,List.getD,List.getElem?_set_ne (fun z=>hds z.symm)]
   refine⟨fr2',h::hs,r2,M2,h2,hev _ _ q1,rfl,rfl,by rw[List.getLast?_cons,q4];rfl,by rw[List.getLast?_cons,q5];rfl,q6,X1.trans q7,q8,q9,keepS,fun t A hA=>?_⟩
   have head1:Ms1[0]?=some M1:=by rw[←List.head?_eq_getElem?];exact q2
   have headh:hs[0]?=some h1:=by rw[←List.head?_eq_getElem?];exact q3
   cases t with
   | zero =>
    simp at hA;subst hA
    refine⟨h,r,rfl,(X1.pre.trans q7.pre),I,(X1.trans q7).fresh,fun x hx=>?_,fun B hB=>?_,fun o' B ho hB hc hl=>?_⟩
    ·cases x with
     | t s =>
      obtain⟨p1,p2⟩:=keepS s (by simpa [fixedX] using hx)
      have:=F s
      show V _ _ _ (fr2 s) (fr2'.getD s undefA)
      rw[p1,p2];exact this
     | k c=>exact zlj I c
    ·have hB':Ms1[0]?=some B:=hB
     rw[head1] at hB';cases hB'
     exact⟨h1,r1,headh,q7.pre,I1,X1,q7.fresh⟩
    ·have hB':Ms1[0]?=some B:=hB
     rw[head1] at hB';cases hB'
     simp at ho;subst ho
     have hn1:=hone hc hl
     have hlt:M.length<r1.length:=by rw[I1.len];exact hl
     have e2:r1[M.length]?=some r1[M.length]:=List.getElem?_eq_getElem hlt
     have p1:=X1.fresh _ _ e2 (by rw[I.len];exact Nat.le_refl _)
     have p2:=(I1.lt _ (List.getElem_mem hlt)).1
     rw[zc5 q7.pre e2]
     congr 1;omega
   | succ t =>
    have hA':Ms1[t]?=some A:=hA
    obtain⟨H,rt,T⟩:=q11 t A hA'
    refine⟨H,rt,T.at_,T.pre,T.inv,T.fresh,fun x hx=>T.val x ?_,fun B hB=>T.next B hB,fun o' B ho hB hc hl=>T.one o' B ho hB hc hl⟩
    cases x with
    | t s=>simpa [fixedX] using hx
    | k c=>rfl
  simp only[pOpsT] at e
  split at e
  ·rename_i hw
   split at e
   ·rename_i v M1 hst
    simp only[Option.map_eq_some_iff] at e
    obtain⟨⟨f2,Ms1⟩,e1,e2⟩:=e
    cases e2
    obtain⟨a,h1,r1,p1,I1,X1,v1⟩:=zlQ S I F hst
    exact step I1 X1 v1 e1 rfl (fun hc _=>zhP hc p1) fun fr2' hs q=>by simp only[evOpsT,zcR F hw,if_true,p1,q,Option.map_some]
   ·cases e
  ·rename_i hw
   simp only[Option.map_eq_some_iff] at e
   obtain⟨⟨f2,Ms1⟩,e1,e2⟩:=e
   cases e2
   exact step I (.refl _ _ _) (.junk undefA rfl fun _ q=>by cases q) e1 rfl (fun _ hl=>absurd hl (Nat.lt_irrefl _)) fun fr2' hs q=>by simp only[evOpsT,zcR F hw,Bool.false_eq_true,if_false,q,Option.map_some]
  ·cases e
theorem zhg {rt r2:List Nat} {A:PM} {H:Hp} (I:PInv G Db rt A H) (hp:rt <+: r2) (fresh:∀k m:Nat,r2[k]?=some m→rt.length≤k→H.next≤m) {n m:Nat} (e:r2[n]?=some m):(H.m m).map Blk.ver=(A[n]?).join.map PB.ver:=by
 by_cases hn:n<A.length
 ·have h1:n<rt.length:=by rw[I.len];exact hn
  have e2:rt[n]?=some rt[n]:=List.getElem?_eq_getElem h1
  have e3:=zc5 hp e2
  rw[e] at e3
  have e4:rt[n]?=some m:=by rw[e2,←Option.some.inj e3]
  have e5:A[n]?=some A[n]:=List.getElem?_eq_getElem hn
  cases hb:A[n] with
  | none =>
   rw[hb] at e5
   rw[I.dead n m e5 e4,e5];rfl
  | some b =>
   rw[hb] at e5
   obtain⟨b',p1,p2,_⟩:=I.blk n b m e5 e4
   rw[p1,e5];simp[p2]
 ·have:=fresh n m e (by rw[I.len];omega)
  rw[I.wf m this,List.getElem?_eq_none (by omega)];rfl
theorem zjP {C D:PM} {n:Nat} (e:verP (some n) C D=true):(C[n]?).join.map PB.ver=(D[n]?).join.map PB.ver:=by
 simp only[verP,beq_iff_eq] at e
 cases h1:C[n]? with
 | none =>
  rw[h1] at e
  cases h2:D[n]? with
  | none=>rfl
  | some d=>rw[h2] at e;simp at e
 | some c =>
  rw[h1] at e
  cases h2:D[n]? with
  | none=>rw[h2] at e;simp at e
  | some d=>rw[h2] at e;simpa using e
theorem V.looks {D:Nat→Prop} {v:PV} {a:AV} (x:V h D r v a) (h1:∀n o,v ≠ .p n o) (h2:∀n o l c z,v ≠ .sl n o l c z) (h3:v ≠ .bad) {m:Nat} (e:a.name?=some m):∃b,h.m m=some b∧¬D m:=by
 cases x with
 | p off q=>exact absurd rfl (h1 _ _)
 | sl _ _ _ _ q=>exact absurd rfl (h2 _ _ _ _ _)
 | bad=>exact absurd rfl h3
 | fp cs q d _ _ _=>simp[AV.name?] at e;subst e;exact⟨_,q,d⟩
 | lst cs q d _ _ _ _ _ _ =>
  simp only[AV.name?] at e
  split at e
  ·cases e
  ·cases e;exact⟨_,q,d⟩
 | junk _ hv _=>rw[hv] at e;cases e
 | _=>simp[AV.name?] at e
theorem zm7 (S:PSound G pc ec) {n:Nat} {ops:List XOper} {chk:List (Nat×Nat)} {fr fr2:PFr} {fr':Fr} {M2:PM} (hd:ops.all (XOper.dOk n)=true) (e:pDrw G pc ops chk fr M=some (fr2,M2)) (I:PInv G Db r M h) (F:VFr h (DD Db r M) r fr fr') (hn:fr'.length=n) :
  ∃fr2' h2 r2,evDrw ec ops chk fr' h=some (fr2',h2)∧PInv G Db r2 M2 h2∧PEx r M h r2 M2 h2∧VFr h2 (DD Db r2 M2) r2 fr2 fr2'∧fr2'.length=n:=by
 unfold pDrw at e
 unfold evDrw
 split at e
 ·rename_i hc
  rw[if_pos hc]
  exact zeR S hd e I F hn
 ·rename_i hc
  rw[if_neg hc]
  split at e
  ·rename_i f2 Ms he
   split at e
   ·rename_i hall
    simp only[Option.map_eq_some_iff] at e
    obtain⟨Ml,e1,e2⟩:=e
    cases e2
    obtain⟨fr2',hs,r2,M3,h2,q1,q2,q3,q4,q5,q6,q7,q8,q9,q10,q11⟩:=zgO S hd he I F hn
    rw[q4] at e1;cases e1
    have hchk:chk.all (chkOne ops fr2' hs)=true:=by
     rw[List.all_eq_true] at hall ⊢
     rintro⟨i,j⟩ hij
     have hc:=hall _ hij
     rw[chkP,Bool.or_eq_true] at hc
     rcases hc with hc|hc
     ·simp only[chkP0] at hc
      split at hc
      ·rename_i o A B C D g1 g2 g3 g4 g5
       obtain⟨Hi,ri,Ti⟩:=q11 _ _ g2
       obtain⟨Hj,rj,Tj⟩:=q11 _ _ g4
       obtain⟨Hj1,rj1,t1,t2,t3,t4,t5⟩:=Tj.next _ g5
       have key:∀n m:Nat,r2[n]?=some m→verP (some n) C D=true→((Hj.m m).map Blk.ver==(Hj1.m m).map Blk.ver)=true:=fun n m em hv=>by
        rw[zhg Tj.inv Tj.pre Tj.fresh em,zhg t3 t2 t5 em,zjP hv];simp
       simp only[chkOne,g1,Ti.at_,Tj.at_,t1,XO.nameAt]
       split at hc
       ·rename_i hcls
        simp only[Bool.and_eq_true,decide_eq_true_eq] at hc
        rw[if_pos hcls]
        exact(Bool.or_eq_true _ _).mpr (.inr (key _ _ (Ti.one o B g1 g3 hcls hc.1) hc.2))
       ·rename_i hcls
        rw[if_neg hcls]
        have hval:=zgb q6 q8 o.op.looks
        cases hnm:(o.op.looks.ev fr2').name? with
        | none=>rfl
        | some m =>
         simp only[verEq]
         refine(Bool.or_eq_true _ _).mpr (.inr ?_)
         have frozen:fixedX ops j o.op.looks=true→(∀n o',o.op.looks.pv G fr2 ≠ .p n o')→(∀n o' l c z,o.op.looks.pv G fr2 ≠ .sl n o' l c z)→o.op.looks.pv G fr2 ≠ .bad→((Hj.m m).map Blk.ver==(Hj1.m m).map Blk.ver)=true:=fun hf w1 w2 w3=>by
          obtain⟨b,p1,p2⟩:=(Tj.val _ hf).looks w1 w2 w3 hnm
          rw[(t4.hk (Db:=Db) Tj.inv.wf m b p1 p2).1,p1];simp
         generalize hpv:o.op.looks.pv G fr2=pv at *
         cases pv with
         | p k off =>
          obtain⟨m',ha,em⟩:=hval.p_inv
          rw[ha] at hnm;simp[AV.name?] at hnm;subst hnm
          exact key _ _ em hc
         | sl k off len cap z =>
          obtain⟨m',ha,em,_⟩:=hval.sl_inv
          rw[ha] at hnm
          simp only[AV.name?] at hnm
          simp only[chkV] at hc
          split at hnm
          ·cases hnm
          ·rename_i hl
           rw[if_neg hl] at hc
           cases hnm
           exact key _ _ em hc
         | bad=>simp[chkV] at hc
         | tu l=>rw[hval.tu_name] at hnm;cases hnm
         | _=>exact frozen hc (by intros;simp) (by intros;simp) (by simp)
      ·cases hc
     ·unfold chkS at hc
      split at hc
      ·rename_i o A C D g1 g2 g4 g5
       simp only[decide_eq_true_eq] at hc
       obtain⟨Hi,ri,Ti⟩:=q11 _ _ g2
       obtain⟨Hj,rj,Tj⟩:=q11 _ _ g4
       obtain⟨Hj1,rj1,t1,t2,t3,t4,t5⟩:=Tj.next _ g5
       simp only[chkOne,g1,Ti.at_,Tj.at_,t1]
       cases hnm:o.op.nameAt fr2' Hi.next with
       | none=>rfl
       | some m =>
        simp only[verEq,Bool.or_eq_true,decide_eq_true_eq,beq_iff_eq]
        by_cases hm:Hj.next≤m
        ·exact .inl hm
        ·right
         by_cases hd:DM rj C m
         ·obtain⟨n,b,d1,_,d2⟩:=hd
          have em:r2[n]?=some m:=zc5 Tj.pre d2
          rw[zhg Tj.inv Tj.pre Tj.fresh em,zhg t3 t2 t5 em]
          have e:=congrArg (fun l=>l[n]?) hc
          simp only[List.getElem?_map] at e
          cases h1:C[n]? with
          | none =>
           rw[h1] at e
           cases h2:D[n]? with
           | none=>rfl
           | some d=>rw[h2] at e;cases e
          | some c =>
           rw[h1] at e
           cases h2:D[n]? with
           | none=>rw[h2] at e;cases e
           | some d =>
            rw[h2] at e
            exact Option.some.inj e
         ·rw[t4.keep m (by omega) hd]
      ·cases hc
    refine⟨fr2',h2,r2,?_,q6,q7,q8,q9⟩
    simp only[q1,hchk,if_true,q5,Option.map_some]
   ·cases e
  ·cases e
def CodeS (G:Nat→Option (List AV)) (Db:Nat→Prop) (n:Nat) (p:PStep) (q:Step):Prop :=
 ∀(fr:PFr) (M:PM) (fr':Fr) (r:List Nat) (h:Hp) (o:Out) (fr2:PFr) (M2:PM),p fr M=some (o,fr2,M2)→PInv G Db r M h→VFr h (DD Db r M) r fr fr'→fr'.length=n →
  ∃fr2' h2 r2,q fr' h=some (o,fr2',h2)∧PInv G Db r2 M2 h2∧PEx r M h r2 M2 h2∧VFr h2 (DD Db r2 M2) r2 fr2 fr2'∧fr2'.length=n
theorem zgN {n:Nat} {p:PStep} {q:Step} (c:CodeS G Db n p q):∀k,CodeS G Db n (pLoop p k) (evLoop q k)
 | 0=>fun fr M fr' r h o fr2 M2 e=>by simp[pLoop] at e
 | k+1=>fun fr M fr' r h o fr2 M2 e I F hn=>by
  simp only[pLoop] at e
  split at e
  ·rename_i fr1 M1 h1
   obtain⟨fr1',g1,r1,q1,I1,X1,F1,l1⟩:=c _ _ _ _ _ _ _ _ h1 I F hn
   obtain⟨fr2',g2,r2,q2,I2,X2,F2,l2⟩:=zgN c k _ _ _ _ _ _ _ _ e I1 F1 l1
   exact⟨fr2',g2,r2,by simp only[evLoop,q1,q2],I2,X1.trans X2,F2,l2⟩
  ·rename_i hno
   obtain⟨fr1',g1,r1,q1,I1,X1,F1,l1⟩:=c _ _ _ _ _ _ _ _ e I F hn
   refine⟨fr1',g1,r1,?_,I1,X1,F1,l1⟩
   simp only[evLoop,q1]
   cases o with
   | normal=>exact absurd e (by intro z;exact hno _ _ z)
   | exit i=>rfl
   | ret=>rfl
theorem zaQ (S:PSound G pc ec) {n:Nat} (k:Nat):∀c:XC,c.dOk n=true→CodeS G Db n (pCode G pc k c) (evCode ec k c)
 | .skip,_=>fun fr M fr' r h o fr2 M2 e I F hn=>by
  simp[pCode] at e;obtain⟨rfl,rfl,rfl⟩:=e
  exact⟨fr',h,r,rfl,I,.refl _ _ _,F,hn⟩
 | .ret,_=>fun fr M fr' r h o fr2 M2 e I F hn=>by
  simp[pCode] at e;obtain⟨rfl,rfl,rfl⟩:=e
  exact⟨fr',h,r,rfl,I,.refl _ _ _,F,hn⟩
 | .exit id,_=>fun fr M fr' r h o fr2 M2 e I F hn=>by
  simp[pCode] at e;obtain⟨rfl,rfl,rfl⟩:=e
  exact⟨fr',h,r,rfl,I,.refl _ _ _,F,hn⟩
 | .fail,_=>fun fr M fr' r h o fr2 M2 e=>by simp[pCode] at e
 | .scope a,hd=>zaQ S k a hd
 | .loop a,hd=>zgN (zaQ S k a hd) k
 | .reg ops,hd=>fun fr M fr' r h o fr2 M2 e I F hn=>by
  simp only[pCode,Option.map_eq_some_iff] at e
  obtain⟨⟨f,m⟩,e1,e2⟩:=e
  cases e2
  obtain⟨fr2',h2,r2,q1,q2,q3,q4,q5⟩:=zeR S hd e1 I F hn
  exact⟨fr2',h2,r2,by simp only[evCode,q1,Option.map_some],q2,q3,q4,q5⟩
 | .drw ops chk,hd=>fun fr M fr' r h o fr2 M2 e I F hn=>by
  simp only[pCode,Option.map_eq_some_iff] at e
  obtain⟨⟨f,m⟩,e1,e2⟩:=e
  cases e2
  obtain⟨fr2',h2,r2,q1,q2,q3,q4,q5⟩:=zm7 S hd e1 I F hn
  exact⟨fr2',h2,r2,by simp only[evCode,q1,Option.map_some],q2,q3,q4,q5⟩
 | .seq a b,hd=>fun fr M fr' r h o fr2 M2 e I F hn=>by
  simp only[XC.dOk,Bool.and_eq_true] at hd
  simp only[pCode] at e
  split at e
  ·rename_i fr1 M1 h1
   obtain⟨fr1',g1,r1,q1,I1,X1,F1,l1⟩:=zaQ S k a hd.1 _ _ _ _ _ _ _ _ h1 I F hn
   obtain⟨fr2',g2,r2,q2,I2,X2,F2,l2⟩:=zaQ S k b hd.2 _ _ _ _ _ _ _ _ e I1 F1 l1
   exact⟨fr2',g2,r2,by simp only[evCode,q1,q2],I2,X1.trans X2,F2,l2⟩
  ·rename_i hno
   obtain⟨fr1',g1,r1,q1,I1,X1,F1,l1⟩:=zaQ S k a hd.1 _ _ _ _ _ _ _ _ e I F hn
   refine⟨fr1',g1,r1,?_,I1,X1,F1,l1⟩
   simp only[evCode,q1]
   cases o with
   | normal=>exact absurd e (by intro z;exact hno _ _ z)
   | exit i=>rfl
   | ret=>rfl
 | .cond c a b,hd=>fun fr M fr' r h o fr2 M2 e I F hn=>by
  simp only[XC.dOk,Bool.and_eq_true] at hd
  simp only[pCode] at e
  have hc:=zgb I F c
  split at e
  ·rename_i v hv
   rw[hv] at hc
   simp only[evCode,hc.b_inv]
   cases v with
   | true=>exact zaQ S k a hd.1 _ _ _ _ _ _ _ _ e I F hn
   | false=>exact zaQ S k b hd.2 _ _ _ _ _ _ _ _ e I F hn
  ·cases e
 | .block id a,hd=>fun fr M fr' r h o fr2 M2 e I F hn=>by
  simp only[pCode] at e
  split at e
  ·rename_i i fr1 M1 h1
   obtain⟨fr1',g1,r1,q1,I1,X1,F1,l1⟩:=zaQ S k a hd _ _ _ _ _ _ _ _ h1 I F hn
   split at e
   ·rename_i hid;cases e
    exact⟨fr1',g1,r1,by simp only[evCode,q1,hid,if_true],I1,X1,F1,l1⟩
   ·rename_i hid;cases e
    exact⟨fr1',g1,r1,by simp only[evCode,q1,hid,if_false],I1,X1,F1,l1⟩
  ·rename_i hno
   obtain⟨fr1',g1,r1,q1,I1,X1,F1,l1⟩:=zaQ S k a hd _ _ _ _ _ _ _ _ e I F hn
   refine⟨fr1',g1,r1,?_,I1,X1,F1,l1⟩
   simp only[evCode,q1]
   cases o with
   | normal=>rfl
   | exit i=>exact absurd e (by intro z;exact hno _ _ _ z)
   | ret=>rfl
theorem zhw (I:PInv G Db r M h) {fr:PFr} {fr':Fr} (F:VFr h (DD Db r M) r fr fr') {x:XR} {v:PV} (e:pResOne fr M x=some v):∃a,resOne fr' h x=some a∧V h (DD Db r M) r v a:=by
 cases x with
 | tmp t=>simp[pResOne] at e;subst e;exact⟨_,rfl,F t⟩
 | cell t agg n =>
  simp only[pResOne] at e
  have ht:=F t
  split at e
  ·rename_i m off hq
   rw[hq] at ht
   obtain⟨m',ha,em⟩:=ht.p_inv
   split at e
   ·rename_i l hl
    obtain⟨l',q1,q2,_,_⟩:=zkU I hl em
    obtain⟨a,p1,p2⟩:=zc3 q2 e
    exact⟨a,by simp only[resOne,ha,q1,p1],p2⟩
   ·cases e
  ·rename_i l hq
   rw[hq] at ht
   obtain⟨m,off,ha,hx⟩:=ht.fp_inv
   split at e
   ·rename_i hc
    obtain⟨l',q1,q2⟩:=zos hx hc
    obtain⟨a,p1,p2⟩:=zc3 q2 e
    exact⟨a,by simp only[resOne,ha,q1,p1],p2⟩
   ·cases e
  ·cases e
theorem ziN (I:PInv G Db r M h) {fr:PFr} {fr':Fr} (F:VFr h (DD Db r M) r fr fr'):∀{xs:List XR} {vs:List PV},pRes fr M xs=some vs→∃asq,resA fr' h xs=some asq∧VL h (DD Db r M) r vs asq
 | [],vs,e=>by simp[pRes] at e;subst e;exact⟨[],rfl,.nil⟩
 | x::xs,vs,e=>by
  simp only[pRes] at e
  split at e
  ·rename_i v vs' e1 e2
   cases e
   obtain⟨a,p1,p2⟩:=zhw I F e1
   obtain⟨asq,q1,q2⟩:=ziN I F e2
   exact⟨a::asq,by simp only[resA,p1,q1],.cons p2 q2⟩
  ·cases e
theorem znp {D:Nat→Prop} {vs:List PV} {asq:List AV} (x:VL h D r vs asq):V h D r (packP vs) (packA asq):=by
 cases vs with
 | nil=>rw[x.of_nil];exact .tu rfl fun i hi=>by simp at hi
 | cons v vs =>
  obtain⟨w,ws,rfl,a,b⟩:=x.uncons
  cases vs with
  | nil=>rw[b.of_nil];exact a
  | cons v2 vs =>
   obtain⟨w2,ws,rfl,c,d⟩:=b.uncons
   exact .tu x.1 x.2
theorem zgM {E:PEnv} (S:PSound E.glob pc ec) {k:Nat} {xf:XF} (hd:xf.body.dOk xf.n=true) {args:List PV} {asq:List AV} {v:PV} {M2:PM} (e:pBody E pc k xf args M=some (v,M2)) (I:PInv E.glob Db r M h) (hv:VL h (DD Db r M) r args asq) :
  PRes E.glob Db r M h v M2 (match evCode ec k xf.body (asq++List.replicate (xf.n-asq.length) undefA) h with|some (.exit _,_,_)=>none|some (_,fr,h')=>(resA fr h' xf.res).map fun vs=>(packA vs,h')|none=>none):=by
 unfold pBody at e
 split at e
 ·cases e
 rename_i hl
 have F:VFr h (DD Db r M) r (frOf args) (asq++List.replicate (xf.n-asq.length) undefA):=fun k=>by
  unfold frOf
  by_cases hk:k<args.length
  ·have hk':k<asq.length:=by rw[←hv.1];exact hk
   have:=hv.2 k hk hk'
   simp only[List.getD]
   rw[List.getElem?_eq_getElem hk,List.getElem?_append_left hk',List.getElem?_eq_getElem hk']
   exact this
  ·have hk':asq.length≤k:=by rw[←hv.1];omega
   have:(asq++List.replicate (xf.n-asq.length) undefA).getD k undefA=undefA:=by
    simp only[List.getD]
    rw[List.getElem?_append_right hk',List.getElem?_replicate]
    split<;>rfl
   rw[this]
   simp only[List.getD]
   rw[List.getElem?_eq_none (by omega)]
   exact .junk _ rfl fun _ q=>by cases q
 have hn:(asq++List.replicate (xf.n-asq.length) undefA).length=xf.n:=by
  have:=hv.1
  simp;omega
 split at e
 ·cases e
 ·rename_i o fr2 M3 hno hc
  obtain⟨fr2',h2,r2,q1,q2,q3,q4,q5⟩:=zaQ S k xf.body hd _ _ _ _ _ _ _ _ hc I F hn
  simp only[Option.map_eq_some_iff] at e
  obtain⟨vs,e1,e2⟩:=e
  cases e2
  obtain⟨as2,p1,p2⟩:=ziN q2 q4 e1
  rw[q1]
  refine⟨packA as2,h2,r2,?_,q2,q3,znp p2⟩
  cases o with
  | exit i=>exact(hno i rfl).elim
  | normal=>simp only[p1,Option.map_some]
  | ret=>simp only[p1,Option.map_some]
 ·cases e
theorem PInv.frame (I:PInv G Db r M h) {h2:Hp} (hn:h.next≤h2.next) (w:h2.wf) (keep:∀m,m<h.next→h2.m m=h.m m):PInv G Db r M h2∧PEx r M h r M h2:=by
 have X:PEx r M h r M h2:=⟨hn,List.prefix_refl _,fun m hm _=>keep m hm,fun _ _ d=>d,fun k m e hk=>by rw[List.getElem?_eq_none hk] at e;cases e⟩
 refine⟨⟨I.len,I.inj,fun m hm=>⟨Nat.lt_of_lt_of_le (I.lt m hm).1 hn,(I.lt m hm).2⟩,w,fun n m e1 e2=>?_,fun n b m e1 e2=>?_,fun m d=>Nat.lt_of_lt_of_le (I.dbl m d) hn,fun g l e=>?_⟩,X⟩
 ·rw[keep m (I.lt m (List.mem_of_getElem? e2)).1];exact I.dead n m e1 e2
 ·obtain⟨b',p1,p2,p3,p4,p5⟩:=I.blk n b m e1 e2
  exact⟨b',by rw[keep m (I.lt m (List.mem_of_getElem? e2)).1];exact p1,p2,p3,X.vl I.wf p4,p5⟩
 ·obtain⟨b',p1,p2,p3⟩:=I.glob g l e
  have hg:g<h.next:=by
   by_cases hn:g<h.next
   ·exact hn
   ·rw[I.wf g (by omega)] at p1;cases p1
  exact⟨b',by rw[keep g hg];exact p1,p2,p3⟩
structure PEnvOk (E:PEnv):Prop where
 fn:∀f xf,E.prog f=some (.fn xf)→xf.body.dOk xf.n=true
 orc:∀f o,E.prog f=some (.orc o)→∀(Db:Nat→Prop) (r:List Nat) (M:PM) (h:Hp) (args:List PV) (asq:List AV) (v:PV) (M':PM),E.orc f args M=some (v,M')→PInv E.glob Db r M h→VL h (DD Db r M) r args asq→PRes E.glob Db r M h v M' (o asq h)
 ovr:∀f xf,E.prog f=some (.fn xf)→∀(D:Nat→Prop) (h:Hp) (args:List PV) (asq:List AV) (v:PV),E.ovr f args=some v→VL h D [] args asq→∀k,∃a,evF E.prog (k+1) f asq h=some (a,h)∧V h D [] v a
variable {E:PEnv}
theorem zg6 (K:PEnvOk E):∀k,PSound E.glob (pvF E k) (evF E.prog k)
 | 0=>fun Db r M h f args asq v M' e=>by simp[pvF] at e
 | k+1=>fun Db r M h f args asq v M' e I hv=>by
  have S:=zg6 K k
  simp only[pvF] at e
  simp only[evF]
  split at e
  ·rename_i xf hx
   simp only[hx]
   have hd:=K.fn f xf hx
   split at e
   ·rename_i hpure
    split at e
    ·rename_i args' ns hfz
     split at e
     ·rename_i w hov
      cases e
      obtain⟨I1,X1,d1⟩:=zha ns I
      have hsub:∀m,DD Db r (roM M ns) m→DD Db r M m:=fun m d=>by
       rcases d with d|d
       ·exact .inl d
       ·exact .inr (X1.dm m (I1.dlt (.inr d)) d)
      have hnot:∀n∈ns,∀m,r[n]?=some m→¬DD Db r (roM M ns) m:=fun n hn m em d=>by
       rcases d with d|d
       ·exact(I.lt m (List.mem_of_getElem? em)).2 d
       ·exact d1 n hn m em d
      have hv1:VL h (DD Db r (roM M ns)) [] args' asq:=zfk (fun v w v' ns a b c=>zf0 I hsub fzD v w v' ns a b c) hfz hv hnot
      obtain⟨a,q1,q2⟩:=K.ovr f xf hx _ h args' asq v hov hv1 k
      simp only[evF,hx] at q1
      exact⟨a,h,r,q1,I1,X1,q2.nil⟩
     ·split at e
      ·rename_i w M2 hb
       simp only[Option.map_eq_some_iff] at e
       obtain⟨⟨v',ns'⟩,e1,e2⟩:=e
       cases e2
       obtain⟨I1,X1,d1⟩:=zha ns I
       have hsub:∀m,DD Db r (roM M ns) m→DD Db r M m:=fun m d=>by
        rcases d with d|d
        ·exact .inl d
        ·exact .inr (X1.dm m (I1.dlt (.inr d)) d)
       have hnot:∀n∈ns,∀m,r[n]?=some m→¬DD Db r (roM M ns) m:=fun n hn m em d=>by
        rcases d with d|d
        ·exact(I.lt m (List.mem_of_getElem? em)).2 d
        ·exact d1 n hn m em d
       have hv1:VL h (DD Db r (roM M ns)) [] args' asq:=zfk (fun v w v' ns a b c=>zf0 I hsub fzD v w v' ns a b c) hfz hv hnot
       have ziH:∀m,¬DM [] [] m:=fun m d=>by
        obtain⟨n,b,q,_⟩:=d
        simp at q
       have Ic:PInv E.glob (DD Db r (roM M ns)) [] [] h:=by
        refine⟨rfl,fun i j m q=>by simp at q,fun m q=>by simp at q,I.wf,fun n m q=>by simp at q,fun n b m q=>by simp at q,fun m d=>I1.dlt d,fun g l q=>?_⟩
        obtain⟨b',p1,p2,p3⟩:=I1.glob g l q
        exact⟨b',p1,p2,fun d=>by
         rcases d with d|d
         ·exact p3 d
         ·exact ziH _ d⟩
       have hvc:VL h (DD (DD Db r (roM M ns)) [] []) [] args' asq:=hv1.anti fun m d=>by
        rcases d with d|d
        ·exact d
        ·exact(ziH _ d).elim
       obtain⟨a,h2,r2,q1,q2,q3,q4⟩:=zgM S hd hb Ic hvc
       have hres:V h2 (DD Db r (roM M ns)) [] v' a:=zf0 q2 (fun m d=>.inl d) fzD w a v' ns' e1 q4 fun n _ m em d=>(q2.lt m (List.mem_of_getElem? em)).2 d
       obtain⟨I2,X2⟩:=I1.frame q3.next q2.wf fun m hm=>q3.keep m hm (ziH m)
       refine⟨a,h2,r,q1,I2,X1.trans X2,?_⟩
       exact hres.nil
      ·cases e
    ·cases e
   ·exact zgM S hd e I hv
  ·rename_i o ho
   simp only[ho]
   split at e
   ·rename_i hpure
    split at e
    ·rename_i args' ns hfz
     split at e
     ·rename_i w M2 hb
      simp only[Option.map_eq_some_iff] at e
      obtain⟨⟨v',ns'⟩,e1,e2⟩:=e
      cases e2
      obtain⟨I1,X1,d1⟩:=zha ns I
      have hsub:∀m,DD Db r (roM M ns) m→DD Db r M m:=fun m d=>by
       rcases d with d|d
       ·exact .inl d
       ·exact .inr (X1.dm m (I1.dlt (.inr d)) d)
      have hnot:∀n∈ns,∀m,r[n]?=some m→¬DD Db r (roM M ns) m:=fun n hn m em d=>by
       rcases d with d|d
       ·exact(I.lt m (List.mem_of_getElem? em)).2 d
       ·exact d1 n hn m em d
      have hv1:VL h (DD Db r (roM M ns)) [] args' asq:=zfk (fun v w v' ns a b c=>zf0 I hsub fzD v w v' ns a b c) hfz hv hnot
      have ziH:∀m,¬DM [] [] m:=fun m d=>by
       obtain⟨n,b,q,_⟩:=d
       simp at q
      have Ic:PInv E.glob (DD Db r (roM M ns)) [] [] h:=by
       refine⟨rfl,fun i j m q=>by simp at q,fun m q=>by simp at q,I.wf,fun n m q=>by simp at q,fun n b m q=>by simp at q,fun m d=>I1.dlt d,fun g l q=>?_⟩
       obtain⟨b',p1,p2,p3⟩:=I1.glob g l q
       exact⟨b',p1,p2,fun d=>by
        rcases d with d|d
        ·exact p3 d
        ·exact ziH _ d⟩
      have hvc:VL h (DD (DD Db r (roM M ns)) [] []) [] args' asq:=hv1.anti fun m d=>by
       rcases d with d|d
       ·exact d
       ·exact(ziH _ d).elim
      obtain⟨a,h2,r2,q1,q2,q3,q4⟩:=K.orc f o ho _ [] [] h args' asq w M2 hb Ic hvc
      have hres:V h2 (DD Db r (roM M ns)) [] v' a:=zf0 q2 (fun m d=>.inl d) fzD w a v' ns' e1 q4 fun n _ m em d=>(q2.lt m (List.mem_of_getElem? em)).2 d
      obtain⟨I2,X2⟩:=I1.frame q3.next q2.wf fun m hm=>q3.keep m hm (ziH m)
      refine⟨a,h2,r,q1,I2,X1.trans X2,?_⟩
      exact hres.nil
     ·cases e
    ·cases e
   ·exact K.orc f o ho Db r M h args asq v M' e I hv
  ·cases e
end Go.Eng
namespace Go.Eng
def CLe (c c':PCall):Prop:=∀f a M r,c f a M=some r→c' f a M=some r
section
variable {G:Nat→Option (List AV)} {c c':PCall}
theorem zg5 (L:CLe c c') {fr:PFr} {M:PM} {o:XO} {r:PV×PM} (e:o.pst G c fr M=some r):o.pst G c' fr M=some r:=by
 cases o with
 | call f l=>exact L _ _ _ _ e
 | callv x l =>
  simp only[XO.pst] at e ⊢
  split at e
  ·rename_i f d hq;exact L _ _ _ _ e
  ·cases e
 | _=>exact e
theorem zdM (L:CLe c c'):∀{ops:List XOper} {fr:PFr} {M:PM} {r:PFr×PM},pOps G c ops fr M=some r→pOps G c' ops fr M=some r
 | [],fr,M,r,e=>e
 | o::ops,fr,M,r,e=>by
  simp only[pOps] at e ⊢
  cases hw:o.pw fr with
  | none=>rw[hw] at e;cases e
  | some b =>
   rw[hw] at e
   cases b with
   | true =>
    simp only at e ⊢
    cases hs:o.op.pst G c fr M with
    | none=>rw[hs] at e;cases e
    | some q =>
     rw[hs] at e
     rw[zg5 L hs]
     exact zdM L e
   | false=>exact zdM L e
theorem zds (L:CLe c c'):∀{ops:List XOper} {fr:PFr} {M:PM} {r:PFr×List PM},pOpsT G c ops fr M=some r→pOpsT G c' ops fr M=some r
 | [],fr,M,r,e=>e
 | o::ops,fr,M,r,e=>by
  simp only[pOpsT] at e ⊢
  cases hw:o.pw fr with
  | none=>rw[hw] at e;cases e
  | some b =>
   rw[hw] at e
   cases b with
   | true =>
    simp only at e ⊢
    cases hs:o.op.pst G c fr M with
    | none=>rw[hs] at e;cases e
    | some q =>
     rw[hs] at e
     rw[zg5 L hs]
     simp only[Option.map_eq_some_iff] at e ⊢
     obtain⟨a,e1,e2⟩:=e
     exact⟨a,zds L e1,e2⟩
   | false =>
    simp only[Option.map_eq_some_iff] at e ⊢
    obtain⟨a,e1,e2⟩:=e
    exact⟨a,zds L e1,e2⟩
theorem zm6 (L:CLe c c') {ops:List XOper} {chk:List (Nat×Nat)} {fr:PFr} {M:PM} {r:PFr×PM} (e:pDrw G c ops chk fr M=some r):pDrw G c' ops chk fr M=some r:=by
 unfold pDrw at e ⊢
 split at e
 ·rename_i h0;rw[if_pos h0];exact zdM L e
 ·rename_i h0
  rw[if_neg h0]
  split at e
  ·rename_i a b h1
   rw[zds L h1];exact e
  ·cases e
theorem zdr {p p':PStep} (hp:∀fr M r,p fr M=some r→p' fr M=some r):∀{k k':Nat},k≤k'→∀{fr:PFr} {M:PM} {r:Out×PFr×PM},pLoop p k fr M=some r→pLoop p' k' fr M=some r
 | 0,_,_,fr,M,r,e=>by simp[pLoop] at e
 | k+1,k',hk,fr,M,r,e=>by
  obtain⟨k',rfl⟩:∃n,k'=n+1:=⟨k'-1,by omega⟩
  simp only[pLoop] at e ⊢
  cases h1:p fr M with
  | none=>rw[h1] at e;cases e
  | some q =>
   obtain⟨o,fr1,M1⟩:=q
   rw[hp _ _ _ h1]
   rw[h1] at e
   cases o with
   | normal=>exact zdr hp (by omega) e
   | exit i=>exact e
   | ret=>exact e
theorem zay (L:CLe c c') {lf lf':Nat} (hl:lf≤lf'):∀(x:XC) {fr:PFr} {M:PM} {r:Out×PFr×PM},pCode G c lf x fr M=some r→pCode G c' lf' x fr M=some r
 | .skip,fr,M,r,e=>e
 | .ret,fr,M,r,e=>e
 | .exit id,fr,M,r,e=>e
 | .fail,fr,M,r,e=>by simp[pCode] at e
 | .scope a,fr,M,r,e=>zay L hl a e
 | .loop a,fr,M,r,e=>zdr (fun fr M r e=>zay L hl a e) hl e
 | .reg ops,fr,M,r,e=>by
  simp only[pCode,Option.map_eq_some_iff] at e ⊢
  obtain⟨a,e1,e2⟩:=e
  exact⟨a,zdM L e1,e2⟩
 | .drw ops chk,fr,M,r,e=>by
  simp only[pCode,Option.map_eq_some_iff] at e ⊢
  obtain⟨a,e1,e2⟩:=e
  exact⟨a,zm6 L e1,e2⟩
 | .seq a b,fr,M,r,e=>by
  simp only[pCode] at e ⊢
  cases h1:pCode G c lf a fr M with
  | none=>rw[h1] at e;cases e
  | some q =>
   obtain⟨o,fr1,M1⟩:=q
   rw[zay L hl a h1]
   rw[h1] at e
   cases o with
   | normal=>exact zay L hl b e
   | exit i=>exact e
   | ret=>exact e
 | .cond x a b,fr,M,r,e=>by
  simp only[pCode] at e ⊢
  split at e
  ·rename_i v hv
   cases v with
   | true=>exact zay L hl a e
   | false=>exact zay L hl b e
  ·cases e
 | .block id a,fr,M,r,e=>by
  simp only[pCode] at e ⊢
  cases h1:pCode G c lf a fr M with
  | none=>rw[h1] at e;cases e
  | some q =>
   obtain⟨o,fr1,M1⟩:=q
   rw[zay L hl a h1]
   rw[h1] at e
   cases o with
   | normal=>exact e
   | exit i=>exact e
   | ret=>exact e
end
section
variable {E:PEnv}
theorem zcJ {c c':PCall} (L:CLe c c') {k k':Nat} (hk:k≤k') {xf:XF} {args:List PV} {M:PM} {r:PV×PM} (e:pBody E c k xf args M=some r):pBody E c' k' xf args M=some r:=by
 unfold pBody at e ⊢
 split at e
 ·cases e
 ·rename_i h0
  rw[if_neg h0]
  cases h1:pCode E.glob c k xf.body (frOf args) M with
  | none=>rw[h1] at e;cases e
  | some q =>
   rw[zay L hk xf.body h1]
   rw[h1] at e;exact e
theorem zjo:∀k,CLe (pvF E k) (pvF E (k+1))
 | 0=>fun f a M r e=>by simp[pvF] at e
 | k+1=>fun f a M r e=>by
  have L:=zjo k
  rw[pvF] at e ⊢
  cases hp:E.prog f with
  | none=>rw[hp] at e;cases e
  | some d =>
   rw[hp] at e
   cases d with
   | orc o=>exact e
   | fn xf =>
    simp only at e ⊢
    split at e
    ·rename_i h1
     rw[if_pos h1]
     cases hz:fzL (fz M fzD) a with
     | none=>rw[hz] at e;cases e
     | some q =>
      rw[hz] at e
      simp only at e ⊢
      cases ho:E.ovr f q.1 with
      | some v=>rw[ho] at e;exact e
      | none =>
       rw[ho] at e
       simp only at e ⊢
       cases hb:pBody E (pvF E k) k xf q.1 [] with
       | none=>rw[hb] at e;cases e
       | some w =>
        rw[hb] at e
        rw[zcJ L (Nat.le_succ k) hb]
        exact e
    ·rename_i h1
     rw[if_neg h1]
     exact zcJ L (Nat.le_succ k) e
theorem zb0 {k k':Nat} (h:k≤k'):CLe (pvF E k) (pvF E k'):=by
 induction h with
 | refl=>exact fun _ _ _ _ e=>e
 | step _ ih=>exact fun f a M r e=>zjo _ f a M r (ih f a M r e)
open Classical in
noncomputable def pcl (E:PEnv):PCall:=fun f a M=>if h:∃r,∃k,pvF E k f a M=some r then some (Classical.choose h) else none
theorem zfE {k f:Nat} {a:List PV} {M:PM} {r:PV×PM} (e:pvF E k f a M=some r):pcl E f a M=some r:=by
 have h:∃r,∃k,pvF E k f a M=some r:=⟨r,k,e⟩
 unfold pcl
 rw[dif_pos h]
 obtain⟨k2,e2⟩:=Classical.choose_spec h
 have h1:=zb0 (Nat.le_max_left k k2) _ _ _ _ e
 have h2:=zb0 (Nat.le_max_right k k2) _ _ _ _ e2
 rw[h1] at h2
 exact h2.symm
theorem zeq {f:Nat} {a:List PV} {M:PM} {r:PV×PM} (e:pcl E f a M=some r):∃k,pvF E k f a M=some r:=by
 unfold pcl at e
 split at e
 ·rename_i h
  cases e
  exact Classical.choose_spec h
 ·cases e
theorem znx (k:Nat):CLe (pvF E k) (pcl E):=fun _ _ _ _ e=>zfE e
section cont
variable {G:Nat→Option (List AV)}
theorem zg4 {fr:PFr} {M:PM} {o:XO} {r:PV×PM} (e:o.pst G (pcl E) fr M=some r):∃k,o.pst G (pvF E k) fr M=some r:=by
 cases o with
 | call f l=>exact zeq e
 | callv x l =>
  simp only[XO.pst] at e ⊢
  split at e
  ·rename_i f d hq;exact zeq e
  ·cases e
 | _=>exact⟨0,e⟩
theorem zcK:∀{ops:List XOper} {fr:PFr} {M:PM} {r:PFr×PM},pOps G (pcl E) ops fr M=some r→∃k,pOps G (pvF E k) ops fr M=some r
 | [],fr,M,r,e=>⟨0,e⟩
 | o::ops,fr,M,r,e=>by
  simp only[pOps] at e ⊢
  cases hw:o.pw fr with
  | none=>rw[hw] at e;cases e
  | some b =>
   rw[hw] at e
   cases b with
   | true =>
    simp only at e ⊢
    cases hs:o.op.pst G (pcl E) fr M with
    | none=>rw[hs] at e;cases e
    | some q =>
     rw[hs] at e
     obtain⟨k1,h1⟩:=zg4 hs
     obtain⟨k2,h2⟩:=zcK e
     refine⟨max k1 k2,?_⟩
     rw[zg5 (zb0 (Nat.le_max_left k1 k2)) h1]
     exact zdM (zb0 (Nat.le_max_right k1 k2)) h2
   | false=>exact zcK e
theorem zc0:∀{ops:List XOper} {fr:PFr} {M:PM} {r:PFr×List PM},pOpsT G (pcl E) ops fr M=some r→∃k,pOpsT G (pvF E k) ops fr M=some r
 | [],fr,M,r,e=>⟨0,e⟩
 | o::ops,fr,M,r,e=>by
  simp only[pOpsT] at e ⊢
  cases hw:o.pw fr with
  | none=>rw[hw] at e;cases e
  | some b =>
   rw[hw] at e
   cases b with
   | true =>
    simp only at e ⊢
    cases hs:o.op.pst G (pcl E) fr M with
    | none=>rw[hs] at e;cases e
    | some q =>
     rw[hs] at e
     simp only[Option.map_eq_some_iff] at e
     obtain⟨a,e1,e2⟩:=e
     obtain⟨k1,h1⟩:=zg4 hs
     obtain⟨k2,h2⟩:=zc0 e1
     refine⟨max k1 k2,?_⟩
     rw[zg5 (zb0 (Nat.le_max_left k1 k2)) h1]
     simp only[Option.map_eq_some_iff]
     exact⟨a,zds (zb0 (Nat.le_max_right k1 k2)) h2,e2⟩
   | false =>
    simp only[Option.map_eq_some_iff] at e
    obtain⟨a,e1,e2⟩:=e
    obtain⟨k2,h2⟩:=zc0 e1
    exact⟨k2,by simp only[Option.map_eq_some_iff];exact⟨a,h2,e2⟩⟩
theorem ziM {ops:List XOper} {chk:List (Nat×Nat)} {fr:PFr} {M:PM} {r:PFr×PM} (e:pDrw G (pcl E) ops chk fr M=some r):∃k,pDrw G (pvF E k) ops chk fr M=some r:=by
 unfold pDrw at e ⊢
 by_cases h0:chk=[]
 ·simp only[h0,if_true] at e ⊢;exact zcK e
 ·simp only[h0,if_false] at e ⊢
  cases h1:pOpsT G (pcl E) ops fr M with
  | none=>rw[h1] at e;cases e
  | some q =>
   obtain⟨k,h2⟩:=zc0 h1
   rw[h1] at e
   exact⟨k,by rw[h2];exact e⟩
theorem zek {p:PStep} {p':Nat→PStep} (hm:∀k k',k≤k'→∀fr M r,p' k fr M=some r→p' k' fr M=some r) (hp:∀fr M r,p fr M=some r→∃k,p' k fr M=some r):∀{n:Nat} {fr:PFr} {M:PM} {r:Out×PFr×PM},pLoop p n fr M=some r→∃k,pLoop (p' k) n fr M=some r
 | 0,fr,M,r,e=>by simp[pLoop] at e
 | n+1,fr,M,r,e=>by
  simp only[pLoop] at e ⊢
  cases h1:p fr M with
  | none=>rw[h1] at e;cases e
  | some q =>
   obtain⟨o,fr1,M1⟩:=q
   obtain⟨k1,g1⟩:=hp _ _ _ h1
   rw[h1] at e
   cases o with
   | normal =>
    obtain⟨k2,g2⟩:=zek hm hp e
    refine⟨max k1 k2,?_⟩
    rw[hm _ _ (Nat.le_max_left k1 k2) _ _ _ g1]
    exact zdr (hm _ _ (Nat.le_max_right k1 k2)) (Nat.le_refl _) g2
   | exit i=>exact⟨k1,by rw[g1];exact e⟩
   | ret=>exact⟨k1,by rw[g1];exact e⟩
theorem zaE {lf:Nat}:∀(x:XC) {fr:PFr} {M:PM} {r:Out×PFr×PM},pCode G (pcl E) lf x fr M=some r→∃k,pCode G (pvF E k) lf x fr M=some r
 | .skip,fr,M,r,e=>⟨0,e⟩
 | .ret,fr,M,r,e=>⟨0,e⟩
 | .exit id,fr,M,r,e=>⟨0,e⟩
 | .fail,fr,M,r,e=>by simp[pCode] at e
 | .scope a,fr,M,r,e=>zaE a e
 | .loop a,fr,M,r,e=>zek (p':=fun k=>pCode G (pvF E k) lf a) (fun k k' hk fr M r e=>zay (zb0 hk) (Nat.le_refl _) a e) (fun fr M r e=>zaE a e) e
 | .reg ops,fr,M,r,e=>by
  simp only[pCode,Option.map_eq_some_iff] at e ⊢
  obtain⟨a,e1,e2⟩:=e
  obtain⟨k,h⟩:=zcK e1
  exact⟨k,a,h,e2⟩
 | .drw ops chk,fr,M,r,e=>by
  simp only[pCode,Option.map_eq_some_iff] at e ⊢
  obtain⟨a,e1,e2⟩:=e
  obtain⟨k,h⟩:=ziM e1
  exact⟨k,a,h,e2⟩
 | .seq a b,fr,M,r,e=>by
  simp only[pCode] at e ⊢
  cases h1:pCode G (pcl E) lf a fr M with
  | none=>rw[h1] at e;cases e
  | some q =>
   obtain⟨o,fr1,M1⟩:=q
   obtain⟨k1,g1⟩:=zaE a h1
   rw[h1] at e
   cases o with
   | normal =>
    obtain⟨k2,g2⟩:=zaE b e
    refine⟨max k1 k2,?_⟩
    rw[zay (zb0 (Nat.le_max_left k1 k2)) (Nat.le_refl _) a g1]
    exact zay (zb0 (Nat.le_max_right k1 k2)) (Nat.le_refl _) b g2
   | exit i=>exact⟨k1,by rw[g1];exact e⟩
   | ret=>exact⟨k1,by rw[g1];exact e⟩
 | .cond x a b,fr,M,r,e=>by
  simp only[pCode] at e ⊢
  split at e
  ·rename_i v hv
   cases v with
   | true=>exact zaE a e
   | false=>exact zaE b e
  ·cases e
 | .block id a,fr,M,r,e=>by
  simp only[pCode] at e ⊢
  cases h1:pCode G (pcl E) lf a fr M with
  | none=>rw[h1] at e;cases e
  | some q =>
   obtain⟨o,fr1,M1⟩:=q
   obtain⟨k1,g1⟩:=zaE a h1
   rw[h1] at e
   refine⟨k1,?_⟩
   rw[g1];exact e
end cont
theorem zej {k:Nat} {xf:XF} {args:List PV} {M:PM} {r:PV×PM} (e:pBody E (pcl E) k xf args M=some r):∃k',k≤k'∧pBody E (pvF E k') k' xf args M=some r:=by
 unfold pBody at e
 split at e
 ·cases e
 ·rename_i h0
  cases h1:pCode E.glob (pcl E) k xf.body (frOf args) M with
  | none=>rw[h1] at e;cases e
  | some q =>
   obtain⟨k2,h2⟩:=zaE xf.body h1
   refine⟨max k k2,Nat.le_max_left _ _,?_⟩
   unfold pBody
   rw[if_neg h0,zay (zb0 (Nat.le_max_right k k2)) (Nat.le_max_left k k2) xf.body h2]
   rw[h1] at e;exact e
open Classical in
noncomputable def pf (E:PEnv) (f:Nat) (args:List PV):Option PV :=
 match E.prog f with
 | some (.fn xf)=>match E.ovr f args with|some v=>some v|none=>if h:∃v,∃k w M2,pBody E (pcl E) k xf args []=some (w,M2)∧(fz M2 fzD w).map Prod.fst=some v then some (Classical.choose h) else none
 | some (.orc _)=>(E.orc f args []).bind fun r=>(fz r.2 fzD r.1).map Prod.fst
 | none=>none
theorem zpp {f:Nat} {xf:XF} {args:List PV} {k:Nat} {w v:PV} {M2:PM} (hp:E.prog f=some (.fn xf)) (e:pBody E (pcl E) k xf args []=some (w,M2)) (hz:(fz M2 fzD w).map Prod.fst=some v) (ho:E.ovr f args=none:=by rfl):pf E f args=some v:=by
 have h:∃v,∃k w M2,pBody E (pcl E) k xf args []=some (w,M2)∧(fz M2 fzD w).map Prod.fst=some v:=⟨v,k,w,M2,e,hz⟩
 unfold pf
 rw[hp]
 simp only[ho]
 rw[dif_pos h]
 obtain⟨k2,w2,M3,e2,z2⟩:=Classical.choose_spec h
 have h1:=zcJ (fun _ _ _ _ q=>q) (Nat.le_max_left k k2) e
 have h2:=zcJ (fun _ _ _ _ q=>q) (Nat.le_max_right k k2) e2
 rw[h1] at h2
 cases h2
 rw[hz] at z2
 exact z2.symm
theorem zpq {f:Nat} {xf:XF} {args:List PV} {v:PV} (hp:E.prog f=some (.fn xf)) (ho:E.ovr f args=some v):pf E f args=some v:=by
 unfold pf
 rw[hp]
 simp only[ho]
theorem zsX {f:Nat} {args:List PV} {v:PV} (e:pf E f args=some v):(∃xf,E.prog f=some (.fn xf)∧E.ovr f args=some v)∨(∃xf k w M2,E.prog f=some (.fn xf)∧E.ovr f args=none∧pBody E (pcl E) k xf args []=some (w,M2)∧(fz M2 fzD w).map Prod.fst=some v) ∨
  ∃o w M2,E.prog f=some (.orc o)∧E.orc f args []=some (w,M2)∧(fz M2 fzD w).map Prod.fst=some v:=by
 unfold pf at e
 split at e
 ·rename_i xf hp
  split at e
  ·rename_i w ho
   cases e
   exact .inl ⟨xf,hp,ho⟩
  ·rename_i ho
   split at e
   ·rename_i h
    cases e
    obtain⟨k,w,M2,e1,e2⟩:=Classical.choose_spec h
    exact .inr (.inl ⟨xf,k,w,M2,hp,ho,e1,e2⟩)
   ·cases e
 ·rename_i o hp
  simp only[Option.bind_eq_some_iff] at e
  obtain⟨⟨w,M2⟩,e1,e2⟩:=e
  exact .inr (.inr ⟨o,w,M2,hp,e1,e2⟩)
 ·cases e
theorem zdS {f:Nat} {o:List AV→Hp→Option (AV×Hp)} {args:List PV} {w v:PV} {M2:PM} (hp:E.prog f=some (.orc o)) (e:E.orc f args []=some (w,M2)) (hz:(fz M2 fzD w).map Prod.fst=some v):pf E f args=some v:=by
 unfold pf
 rw[hp]
 simp only[e,Option.bind_some]
 exact hz
theorem zg1 {f:Nat} {args args':List PV} {M:PM} {ns:List Nat} {v:PV} (hpure:E.pure f=true) (hz:fzL (fz M fzD) args=some (args',ns)) (hv:pf E f args'=some v):pcl E f args M=some (v,roM M ns):=by
 rcases zsX hv with⟨xf,hp,ho⟩|⟨xf,k,w,M2,hp,ho,e1,e2⟩|⟨o,w,M2,hp,e1,e2⟩
 ·refine zfE (k:=1) ?_
  simp only[pvF,hp,hpure,if_true,hz,ho]
 ·obtain⟨k',_,e3⟩:=zej e1
  refine zfE (k:=k'+1) ?_
  simp only[pvF,hp,hpure,if_true,hz,ho,e3]
  simp only[Option.map_eq_some_iff] at e2 ⊢
  obtain⟨q,q1,q2⟩:=e2
  exact⟨q,q1,by rw[q2]⟩
 ·refine zfE (k:=1) ?_
  simp only[pvF,hp,hpure,if_true,hz,e1]
  simp only[Option.map_eq_some_iff] at e2 ⊢
  obtain⟨q,q1,q2⟩:=e2
  exact⟨q,q1,by rw[q2]⟩
theorem zer {f:Nat} {xf:XF} {args:List PV} {M:PM} {r:PV×PM} {k:Nat} (hp:E.prog f=some (.fn xf)) (hpure:E.pure f=false) (e:pBody E (pcl E) k xf args M=some r):pcl E f args M=some r:=by
 obtain⟨k',_,e3⟩:=zej e
 refine zfE (k:=k'+1) ?_
 simp only[pvF,hp,hpure,Bool.false_eq_true,if_false,e3]
end
end Go.Eng
namespace Go.Eng
inductive KI where
 | seq (b:XC)
 | block (id:Nat)
 | loop (a:XC)
section
variable (E:PEnv)
noncomputable def unw (lf:Nat):List KI→Out→PFr→PM→Option (Out×PFr×PM)
 | [],o,fr,M=>some (o,fr,M)
 | .seq b::ks,.normal,fr,M=>(pCode E.glob (pcl E) lf b fr M).bind fun r=>unw lf ks r.1 r.2.1 r.2.2
 | .seq _::ks,o,fr,M=>unw lf ks o fr M
 | .block id::ks,.exit i,fr,M=>if i=id then unw lf ks .normal fr M else unw lf ks (.exit i) fr M
 | .block _::ks,o,fr,M=>unw lf ks o fr M
 | .loop a::ks,.normal,fr,M=>(pCode E.glob (pcl E) lf (.loop a) fr M).bind fun r=>unw lf ks r.1 r.2.1 r.2.2
 | .loop _::ks,o,fr,M=>unw lf ks o fr M
structure PFin where
 res:List XR
 Q:PV→PM→Prop
def Ends (F:PFin) (o:Option (Out×PFr×PM)):Prop:=∃q fr M vs,o=some (q,fr,M)∧(∀i,q ≠ .exit i)∧pRes fr M F.res=some vs∧F.Q (packP vs) M
def UK (F:PFin) (o:Out) (ks:List KI) (fr:PFr) (M:PM):Prop:=∃lf,Ends F (unw E lf ks o fr M)
def WK (F:PFin) (c:XC) (ks:List KI) (fr:PFr) (M:PM):Prop:=∃lf,Ends F ((pCode E.glob (pcl E) lf c fr M).bind fun r=>unw E lf ks r.1 r.2.1 r.2.2)
def WL (F:PFin) (ops:List XOper) (ks:List KI) (fr:PFr) (M:PM):Prop:=∃lf,Ends F ((pOps E.glob (pcl E) ops fr M).bind fun r=>unw E lf ks .normal r.1 r.2)
def WT (F:PFin) (all:List XOper) (chk:List (Nat×Nat)) (tr:List PM) (ops:List XOper) (ks:List KI) (fr:PFr) (M:PM):Prop :=
 ∃lf,Ends F ((pOpsT E.glob (pcl E) ops fr M).bind fun r=>if chk.all (chkP E.glob all r.1 (tr++r.2)) then ((tr++r.2).getLast?).bind fun M'=>unw E lf ks .normal r.1 M' else none)
def WV (F:PFin) (o:Option (PV×PM)) (d:Option Nat) (ops:List XOper) (ks:List KI) (fr:PFr):Prop :=
 ∃v M',o=some (v,M')∧WL E F ops ks (fr.putO d v) M'
def WV1 (F:PFin) (o:Option PV) (d:Option Nat) (ops:List XOper) (ks:List KI) (fr:PFr) (M:PM):Prop :=
 ∃v,o=some v∧WL E F ops ks (fr.putO d v) M
def WG (F:PFin) (g:PV) (b:Bool) (d:Option Nat) (o:XO) (ops:List XOper) (ks:List KI) (fr:PFr) (M:PM):Prop :=
 (∃c,g=.b c∧if c=b then WL E F (⟨d,o,[],none⟩::ops) ks fr M else WL E F ops ks (fr.putO d undefP) M)∨(g=undefP∧WL E F ops ks (fr.putO d undefP) M)
def WB (F:PFin) (v:PV) (a b:XC) (ks:List KI) (fr:PFr) (M:PM):Prop:=∃c,v=.b c∧if c=true then WK E F a ks fr M else WK E F b ks fr M
end
variable {E:PEnv} {F:PFin}
theorem Ends.none:¬Ends F none:=fun ⟨_,_,_,_,e,_⟩=>by cases e
@[go_sem] theorem ztk (ks:List KI) (fr:PFr) (M:PM):WK E F .skip ks fr M=UK E F .normal ks fr M:=_root_.id rfl
@[go_sem] theorem zuF (ks:List KI) (fr:PFr) (M:PM):WK E F .ret ks fr M=UK E F .ret ks fr M:=_root_.id rfl
@[go_sem] theorem ztj (i:Nat) (ks:List KI) (fr:PFr) (M:PM):WK E F (.exit i) ks fr M=UK E F (.exit i) ks fr M:=_root_.id rfl
@[go_sem] theorem zqr (a:XC) (ks:List KI) (fr:PFr) (M:PM):WK E F (.scope a) ks fr M=WK E F a ks fr M:=_root_.id rfl
@[go_sem] theorem zuE (ops:List XOper) (ks:List KI) (fr:PFr) (M:PM):WK E F (.reg ops) ks fr M=WL E F ops ks fr M:=by
 simp only[WK,WL,pCode]
 congr 1;funext lf
 cases pOps E.glob (pcl E) ops fr M<;>rfl
@[go_sem] theorem zuD (ops:List XOper) (ks:List KI) (fr:PFr) (M:PM):WK E F (.drw ops []) ks fr M=WL E F ops ks fr M:=by
 simp only[WK,WL,pCode,pDrw,if_true]
 congr 1;funext lf
 cases pOps E.glob (pcl E) ops fr M<;>rfl
@[go_sem] theorem zuG (a b:XC) (ks:List KI) (fr:PFr) (M:PM):WK E F (.seq a b) ks fr M=WK E F a (.seq b::ks) fr M:=by
 simp only[WK,pCode]
 congr 1;funext lf
 cases h:pCode E.glob (pcl E) lf a fr M with
 | none=>rfl
 | some r =>
  obtain⟨o,fr1,M1⟩:=r
  cases o<;>rfl
@[go_sem] theorem zqq (id:Nat) (a:XC) (ks:List KI) (fr:PFr) (M:PM):WK E F (.block id a) ks fr M=WK E F a (.block id::ks) fr M:=by
 simp only[WK,pCode]
 congr 1;funext lf
 cases h:pCode E.glob (pcl E) lf a fr M with
 | none=>rfl
 | some r =>
  obtain⟨o,fr1,M1⟩:=r
  cases o with
  | exit i =>
   simp only[Option.bind_some,unw]
   by_cases hi:i=id
   ·simp[hi]
   ·simp[hi]
  | normal=>rfl
  | ret=>rfl
@[go_sem] theorem zti (c:X) (a b:XC) (ks:List KI) (fr:PFr) (M:PM):WK E F (.cond c a b) ks fr M=WB E F (c.pv E.glob fr) a b ks fr M:=by
 unfold WB
 generalize hv:c.pv E.glob fr=v
 apply propext
 constructor
 ·intro h
  obtain⟨lf,h⟩:=h
  simp only[pCode,hv] at h
  cases v with
  | b q =>
   refine⟨q,rfl,?_⟩
   cases q
   ·exact⟨lf,h⟩
   ·exact⟨lf,h⟩
  | _=>exact(Ends.none h).elim
 ·rintro⟨q,rfl,h⟩
  cases q
  ·obtain⟨lf,h⟩:=h
   exact⟨lf,by simp only[pCode,hv];exact h⟩
  ·obtain⟨lf,h⟩:=h
   exact⟨lf,by simp only[pCode,hv];exact h⟩
@[go_sem] theorem znP (a b:XC) (ks:List KI) (fr:PFr) (M:PM):WB E F (.b true) a b ks fr M=WK E F a ks fr M:=propext ⟨fun ⟨c,e,h⟩=>by cases e;exact h,fun h=>⟨true,rfl,h⟩⟩
@[go_sem] theorem zlc (a b:XC) (ks:List KI) (fr:PFr) (M:PM):WB E F (.b false) a b ks fr M=WK E F b ks fr M:=propext ⟨fun ⟨c,e,h⟩=>by cases e;exact h,fun h=>⟨false,rfl,h⟩⟩
theorem zc8 {p:Prop} [Decidable p] {a b:XC} {ks:List KI} {fr:PFr} {M:PM} (h1:p→WK E F a ks fr M) (h2:¬p→WK E F b ks fr M):WB E F (.b (decide p)) a b ks fr M:=by
 by_cases h:p
 ·simp only[h,decide_true,znP];exact h1 h
 ·simp only[h,decide_false,zlc];exact h2 h
@[go_sem] theorem zuA (b:XC) (ks:List KI) (fr:PFr) (M:PM):UK E F .normal (.seq b::ks) fr M=WK E F b ks fr M:=_root_.id rfl
@[go_sem] theorem ztd (i:Nat) (b:XC) (ks:List KI) (fr:PFr) (M:PM):UK E F (.exit i) (.seq b::ks) fr M=UK E F (.exit i) ks fr M:=_root_.id rfl
@[go_sem] theorem zte (b:XC) (ks:List KI) (fr:PFr) (M:PM):UK E F .ret (.seq b::ks) fr M=UK E F .ret ks fr M:=_root_.id rfl
@[go_sem] theorem zqn (id:Nat) (ks:List KI) (fr:PFr) (M:PM):UK E F .normal (.block id::ks) fr M=UK E F .normal ks fr M:=_root_.id rfl
@[go_sem] theorem zpM (i id:Nat) (ks:List KI) (fr:PFr) (M:PM):UK E F (.exit i) (.block id::ks) fr M=if i=id then UK E F .normal ks fr M else UK E F (.exit i) ks fr M:=by
 by_cases h:i=id
 ·simp only[UK,unw,h,if_true]
 ·simp only[UK,unw,h,if_false]
@[go_sem] theorem zpN (id:Nat) (ks:List KI) (fr:PFr) (M:PM):UK E F .ret (.block id::ks) fr M=UK E F .ret ks fr M:=_root_.id rfl
@[go_sem] theorem ztb (a:XC) (ks:List KI) (fr:PFr) (M:PM):UK E F .normal (.loop a::ks) fr M=WK E F (.loop a) ks fr M:=_root_.id rfl
@[go_sem] theorem zqo (i:Nat) (a:XC) (ks:List KI) (fr:PFr) (M:PM):UK E F (.exit i) (.loop a::ks) fr M=UK E F (.exit i) ks fr M:=_root_.id rfl
@[go_sem] theorem zqp (a:XC) (ks:List KI) (fr:PFr) (M:PM):UK E F .ret (.loop a::ks) fr M=UK E F .ret ks fr M:=_root_.id rfl
def PEnd (F:PFin) (vs:Option (List PV)) (M:PM):Prop:=∃l,vs=some l∧F.Q (packP l) M
@[go_sem] theorem zuz (fr:PFr) (M:PM):UK E F .normal [] fr M=PEnd F (pRes fr M F.res) M:=propext
 ⟨fun ⟨_,q,fr',M',vs,e,_,h1,h2⟩=>by simp only[unw] at e;cases e;exact⟨vs,h1,h2⟩,fun ⟨l,h1,h2⟩=>⟨0,_,_,_,l,rfl,fun i=>by simp,h1,h2⟩⟩
@[go_sem] theorem ztc (fr:PFr) (M:PM):UK E F .ret [] fr M=PEnd F (pRes fr M F.res) M:=propext
 ⟨fun ⟨_,q,fr',M',vs,e,_,h1,h2⟩=>by simp only[unw] at e;cases e;exact⟨vs,h1,h2⟩,fun ⟨l,h1,h2⟩=>⟨0,_,_,_,l,rfl,fun i=>by simp,h1,h2⟩⟩
@[go_sem] theorem zpn (res:List XR) (Q:PV→PM→Prop) (l:List PV) (M:PM):PEnd ⟨res,Q⟩ (some l) M=Q (packP l) M:=propext ⟨fun ⟨_,e,h⟩=>by cases e;exact h,fun h=>⟨l,rfl,h⟩⟩
theorem zb2 {lf lf':Nat} (hl:lf≤lf'):∀{ks:List KI} {o:Out} {fr:PFr} {M:PM} {r:Out×PFr×PM},unw E lf ks o fr M=some r→unw E lf' ks o fr M=some r
 | [],o,fr,M,r,e=>e
 | k::ks,o,fr,M,r,e=>by
  have code:∀(b:XC) ,((pCode E.glob (pcl E) lf b fr M).bind fun r=>unw E lf ks r.1 r.2.1 r.2.2)=some r→((pCode E.glob (pcl E) lf' b fr M).bind fun r=>unw E lf' ks r.1 r.2.1 r.2.2)=some r:=fun b e=>by
   cases h1:pCode E.glob (pcl E) lf b fr M with
   | none=>rw[h1] at e;cases e
   | some q =>
    rw[h1] at e
    rw[zay (fun _ _ _ _ q=>q) hl b h1]
    exact zb2 hl e
  cases k with
  | seq b =>
   cases o with
   | normal=>exact code b e
   | exit i=>simp only[unw] at e ⊢;exact zb2 hl e
   | ret=>simp only[unw] at e ⊢;exact zb2 hl e
  | block id =>
   cases o with
   | normal=>simp only[unw] at e ⊢;exact zb2 hl e
   | exit i =>
    simp only[unw] at e ⊢
    split
    ·rename_i h;rw[if_pos h] at e;exact zb2 hl e
    ·rename_i h;rw[if_neg h] at e;exact zb2 hl e
   | ret=>simp only[unw] at e ⊢;exact zb2 hl e
  | loop a =>
   cases o with
   | normal=>exact code (.loop a) e
   | exit i=>simp only[unw] at e ⊢;exact zb2 hl e
   | ret=>simp only[unw] at e ⊢;exact zb2 hl e
theorem zcy {a:XC} {ks:List KI} {fr:PFr} {M:PM} (h:WK E F a (.loop a::ks) fr M):WK E F (.loop a) ks fr M:=by
 obtain⟨lf,q,fr',M',vs,e,h1,h2,h3⟩:=h
 refine⟨lf+1,q,fr',M',vs,?_,h1,h2,h3⟩
 cases hb:pCode E.glob (pcl E) lf a fr M with
 | none=>rw[hb] at e;cases e
 | some w =>
  obtain⟨o,fr1,M1⟩:=w
  rw[hb] at e
  have hb':=zay (fun _ _ _ _ q=>q) (Nat.le_succ lf) a hb
  simp only[pCode,pLoop,hb']
  cases o with
  | normal =>
   simp only[Option.bind_some,unw,pCode] at e ⊢
   cases hl:pLoop (pCode E.glob (pcl E) lf a) lf fr1 M1 with
   | none=>rw[hl] at e;cases e
   | some w =>
    rw[hl] at e
    have:=zdr (p':=pCode E.glob (pcl E) (lf+1) a) (fun fr M r q=>zay (fun _ _ _ _ q=>q) (Nat.le_succ lf) a q) (Nat.le_refl lf) hl
    rw[this]
    exact zb2 (Nat.le_succ lf) e
  | exit i=>simp only[Option.bind_some,unw] at e ⊢;exact zb2 (Nat.le_succ lf) e
  | ret=>simp only[Option.bind_some,unw] at e ⊢;exact zb2 (Nat.le_succ lf) e
@[go_sem] theorem zuV (ks:List KI) (fr:PFr) (M:PM):WL E F [] ks fr M=UK E F .normal ks fr M:=_root_.id rfl
theorem zaZ (d:Option Nat) (o:XO) (af:List Nat) (l:List XOper) (ks:List KI) (fr:PFr) (M:PM):WL E F (⟨d,o,af,none⟩::l) ks fr M=WV E F (o.pst E.glob (pcl E) fr M) d l ks fr:=by
 unfold WV WL
 simp only[pOps,XOper.pw]
 cases o.pst E.glob (pcl E) fr M with
 | none=>exact propext ⟨fun ⟨_,h⟩=>(Ends.none h).elim,fun ⟨_,_,e,_⟩=>by cases e⟩
 | some r=>exact propext ⟨fun h=>⟨r.1,r.2,rfl,h⟩,fun ⟨_,_,e,h⟩=>by cases e;exact h⟩
@[go_sem] theorem zqu (d:Option Nat) (o:XO) (af:List Nat) (s:Nat) (b:Bool) (l:List XOper) (ks:List KI) (fr:PFr) (M:PM):WL E F (⟨d,o,af,some (s,b)⟩::l) ks fr M=WG E F (fr s) b d o l ks fr M:=by
 unfold WG
 generalize hg:fr s=g
 apply propext
 constructor
 ·rintro⟨lf,h⟩
  simp only[pOps,XOper.pw,hg] at h
  cases g with
  | tu l =>
   cases l with
   | nil=>exact .inr ⟨rfl,lf,h⟩
   | cons _ _=>exact(Ends.none h).elim
  | b c =>
   refine .inl ⟨c,rfl,?_⟩
   by_cases hc:c=b
   ·rw[if_pos hc]
    refine⟨lf,?_⟩
    simp only[pOps,XOper.pw]
    simpa only[hc,beq_self_eq_true] using h
   ·rw[if_neg hc]
    refine⟨lf,?_⟩
    have:(c==b)=false:=by simpa using hc
    simpa only[this] using h
  | _=>exact(Ends.none h).elim
 ·rintro (⟨c,rfl,h⟩|⟨rfl,lf,h⟩)
  case inr=>exact⟨lf,by simp only[pOps,XOper.pw,hg,undefP];exact h⟩
  by_cases hc:c=b
  ·rw[if_pos hc] at h
   obtain⟨lf,h⟩:=h
   refine⟨lf,?_⟩
   simp only[pOps,XOper.pw] at h
   simpa only[pOps,XOper.pw,hg,hc,beq_self_eq_true] using h
  ·rw[if_neg hc] at h
   obtain⟨lf,h⟩:=h
   refine⟨lf,?_⟩
   have:(c==b)=false:=by simpa using hc
   simpa only[pOps,XOper.pw,hg,this] using h
@[go_sem] theorem zth (b:Bool) (d:Option Nat) (o:XO) (l:List XOper) (ks:List KI) (fr:PFr) (M:PM):WG E F (.b b) b d o l ks fr M=WL E F (⟨d,o,[],none⟩::l) ks fr M:=propext ⟨fun q=>by rcases q with⟨c,e,h⟩|⟨e,_⟩<;>cases e;simpa using h,fun h=>.inl ⟨b,rfl,by simpa using h⟩⟩
@[go_sem] theorem zvq (d:Option Nat) (o:XO) (l:List XOper) (ks:List KI) (fr:PFr) (M:PM):WG E F (.b true) false d o l ks fr M=WL E F l ks (fr.putO d undefP) M:=propext ⟨fun q=>by rcases q with⟨c,e,h⟩|⟨e,_⟩<;>cases e;simpa using h,fun h=>.inl ⟨true,rfl,by simpa using h⟩⟩
@[go_sem] theorem zvp (d:Option Nat) (o:XO) (l:List XOper) (ks:List KI) (fr:PFr) (M:PM):WG E F (.b false) true d o l ks fr M=WL E F l ks (fr.putO d undefP) M:=propext ⟨fun q=>by rcases q with⟨c,e,h⟩|⟨e,_⟩<;>cases e;simpa using h,fun h=>.inl ⟨false,rfl,by simpa using h⟩⟩
@[go_sem] theorem zvr (b:Bool) (d:Option Nat) (o:XO) (l:List XOper) (ks:List KI) (fr:PFr) (M:PM):WG E F undefP b d o l ks fr M=WL E F l ks (fr.putO d undefP) M:=propext ⟨fun q=>by rcases q with⟨c,e,_⟩|⟨_,h⟩;cases e;exact h,fun h=>.inr ⟨rfl,h⟩⟩
@[go_sem] theorem zgh (v:PV) (M:PM) (d:Option Nat) (l:List XOper) (ks:List KI) (fr:PFr):WV E F (some (v,M)) d l ks fr=WL E F l ks (fr.putO d v) M:=propext ⟨fun ⟨_,_,e,h⟩=>by cases e;exact h,fun h=>⟨v,M,rfl,h⟩⟩
@[go_sem] theorem zle (v:PV) (d:Option Nat) (l:List XOper) (ks:List KI) (fr:PFr) (M:PM):WV1 E F (some v) d l ks fr M=WL E F l ks (fr.putO d v) M:=propext ⟨fun ⟨_,e,h⟩=>by cases e;exact h,fun h=>⟨v,rfl,h⟩⟩
theorem za3 (o:Option PV) (M:PM) (d:Option Nat) (l:List XOper) (ks:List KI) (fr:PFr):WV E F (o.map fun v=>(v,M)) d l ks fr=WV1 E F o d l ks fr M:=by
 cases o with
 | none=>exact propext ⟨fun ⟨_,_,e,_⟩=>(by cases e),fun ⟨_,e,_⟩=>(by cases e)⟩
 | some v=>rw[zle];exact zgh v M d l ks fr
section traced
variable (all:List XOper) (chk:List (Nat×Nat)) (tr:List PM)
end traced
theorem zaa {f:Nat} {xf:XF} {args:List PV} {v:PV} (hp:E.prog f=some (.fn xf)) (hl:args.length≤xf.n) (w:WK E ⟨xf.res,fun w M2=>(fz M2 fzD w).map Prod.fst=some v⟩ xf.body [] (frOf args) []) (ho:E.ovr f args=none:=by rfl):pf E f args=some v:=by
 obtain⟨lf,q,fr',M',vs,e,h1,h2,h3⟩:=w
 refine zpp (k:=lf) (w:=packP vs) (M2:=M') hp ?_ h3 ho
 unfold pBody
 rw[if_neg (by omega)]
 cases hc:pCode E.glob (pcl E) lf xf.body (frOf args) [] with
 | none=>rw[hc] at e;cases e
 | some r =>
  rw[hc] at e
  simp only[Option.bind_some,unw] at e
  cases e
  obtain⟨o,fr1,M1⟩:=r
  cases o with
  | exit i=>exact absurd rfl (h1 i)
  | normal=>simp only[h2,Option.map_some]
  | ret=>simp only[h2,Option.map_some]
theorem zjh {f:Nat} {xf:XF} {args:List PV} {M:PM} {r:PV×PM} (hp:E.prog f=some (.fn xf)) (hi:E.pure f=false) (hl:args.length≤xf.n) (w:WK E ⟨xf.res,fun w M2=>(w,M2)=r⟩ xf.body [] (frOf args) M):pcl E f args M=some r:=by
 obtain⟨lf,q,fr',M',vs,e,h1,h2,h3⟩:=w
 refine zer hp hi (k:=lf) ?_
 rw[←h3]
 unfold pBody
 rw[if_neg (by omega)]
 cases hc:pCode E.glob (pcl E) lf xf.body (frOf args) M with
 | none=>rw[hc] at e;cases e
 | some r =>
  rw[hc] at e
  simp only[Option.bind_some,unw] at e
  cases e
  obtain⟨o,fr1,M1⟩:=r
  cases o with
  | exit i=>exact absurd rfl (h1 i)
  | normal=>simp only[h2,Option.map_some]
  | ret=>simp only[h2,Option.map_some]
theorem zeV {f:Nat} {xf:XF} {args:List PV} {M:PM} {R:PV→PM→Prop} (hp:E.prog f=some (.fn xf)) (hi:E.pure f=false) (hl:args.length≤xf.n) (w:WK E ⟨xf.res,R⟩ xf.body [] (frOf args) M):∃v M',pcl E f args M=some (v,M')∧R v M':=by
 obtain⟨lf,q,fr',M',vs,e,h1,h2,h3⟩:=w
 refine⟨packP vs,M',zer hp hi (k:=lf) ?_,h3⟩
 unfold pBody
 rw[if_neg (by omega)]
 cases hc:pCode E.glob (pcl E) lf xf.body (frOf args) M with
 | none=>rw[hc] at e;cases e
 | some r =>
  rw[hc] at e
  simp only[Option.bind_some,unw] at e
  cases e
  obtain⟨o,fr1,M1⟩:=r
  cases o with
  | exit i=>exact absurd rfl (h1 i)
  | normal=>simp only[h2,Option.map_some]
  | ret=>simp only[h2,Option.map_some]
end Go.Eng
namespace Go.Eng
section
variable {G:Nat→Option (List AV)} {call:PCall}
theorem zbV:∀{ops:List XOper} {fr fr2:PFr} {M M2:PM},pOps G call ops fr M=some (fr2,M2)→∃Ms,pOpsT G call ops fr M=some (fr2,Ms)∧Ms.getLast?=some M2
 | [],fr,fr2,M,M2,e=>by simp[pOps] at e;obtain⟨rfl,rfl⟩:=e;exact⟨[M],rfl,rfl⟩
 | o::ops,fr,fr2,M,M2,e=>by
  simp only[pOps] at e
  simp only[pOpsT]
  cases hw:o.pw fr with
  | none=>rw[hw] at e;cases e
  | some b =>
   rw[hw] at e
   cases b with
   | true =>
    simp only at e ⊢
    cases hs:o.op.pst G call fr M with
    | none=>rw[hs] at e;cases e
    | some q =>
     rw[hs] at e
     obtain⟨Ms,h1,h2⟩:=zbV e
     exact⟨M::Ms,by simp[h1],by rw[List.getLast?_cons,h2];rfl⟩
   | false =>
    obtain⟨Ms,h1,h2⟩:=zbV e
    exact⟨M::Ms,by simp[h1],by rw[List.getLast?_cons,h2];rfl⟩
theorem zbh:∀{ops:List XOper} {fr fr2:PFr} {M:PM} {Ms:List PM},pOpsT G call ops fr M=some (fr2,Ms)→Ms.head?=some M∧∀s,(ops.all fun o=>o.dst != some s)=true→fr2 s=fr s
 | [],fr,fr2,M,Ms,e=>by simp[pOpsT] at e;obtain⟨rfl,rfl⟩:=e;exact⟨rfl,fun _ _=>rfl⟩
 | o::ops,fr,fr2,M,Ms,e=>by
  simp only[pOpsT] at e
  have put:∀v s,(o.dst != some s)=true→(fr.putO o.dst v) s=fr s:=fun v s hs=>by
   have hne:o.dst≠some s:=by simpa using hs
   cases hdst:o.dst with
   | none=>rfl
   | some d =>
    have hds:s≠d:=fun z=>hne (by rw[hdst,z])
    simp[PFr.putO,PFr.put,hds]
  cases hw:o.pw fr with
  | none=>rw[hw] at e;cases e
  | some b =>
   rw[hw] at e
   cases b with
   | true =>
    simp only at e
    cases hs:o.op.pst G call fr M with
    | none=>rw[hs] at e;cases e
    | some q =>
     rw[hs] at e
     simp only[Option.map_eq_some_iff] at e
     obtain⟨⟨f2,Ms1⟩,e1,e2⟩:=e
     cases e2
     refine⟨rfl,fun s hs=>?_⟩
     simp only[List.all_cons,Bool.and_eq_true] at hs
     show f2 s=fr s
     rw[(zbh e1).2 s hs.2,put _ s hs.1]
   | false =>
    simp only[Option.map_eq_some_iff] at e
    obtain⟨⟨f2,Ms1⟩,e1,e2⟩:=e
    cases e2
    refine⟨rfl,fun s hs=>?_⟩
    simp only[List.all_cons,Bool.and_eq_true] at hs
    show f2 s=fr s
    rw[(zbh e1).2 s hs.2,put _ s hs.1]
theorem zau:∀{ops:List XOper} {fr fr2:PFr} {M:PM} {Ms:List PM},pOpsT G call ops fr M=some (fr2,Ms)→∀{t:Nat} {o:XOper},ops[t]?=some o →
  ∃frt A B,Ms[t]?=some A∧Ms[t+1]?=some B∧((o.pw frt=some true∧∃v,o.op.pst G call frt A=some (v,B))∨(o.pw frt=some false∧B=A))∧∀x,fixedX ops t x=true→x.pv G fr2=x.pv G frt
 | [],fr,fr2,M,Ms,e,t,o,ho=>by simp at ho
 | o'::ops,fr,fr2,M,Ms,e,t,o,ho=>by
  have hk:=zbh e
  simp only[pOpsT] at e
  cases hw:o'.pw fr with
  | none=>rw[hw] at e;cases e
  | some b =>
   rw[hw] at e
   have fin:∀{fr1:PFr} {M1:PM} {Ms1:List PM},pOpsT G call ops fr1 M1=some (fr2,Ms1)→Ms=M::Ms1→((o'.pw fr=some true∧∃v,o'.op.pst G call fr M=some (v,M1))∨(o'.pw fr=some false∧M1=M)) →
     ∃frt A B,Ms[t]?=some A∧Ms[t+1]?=some B∧((o.pw frt=some true∧∃v,o.op.pst G call frt A=some (v,B))∨(o.pw frt=some false∧B=A))∧∀x,fixedX (o'::ops) t x=true→x.pv G fr2=x.pv G frt:=by
    intro fr1 M1 Ms1 e1 hMs hstep
    subst hMs
    cases t with
    | zero =>
     simp at ho;subst ho
     refine⟨fr,M,M1,rfl,?_,hstep,fun x hx=>?_⟩
     ·have:=(zbh e1).1
      rw[List.head?_eq_getElem?] at this
      exact this
     ·cases x with
      | t s=>exact hk.2 s (by simpa [fixedX] using hx)
      | k c=>rfl
    | succ t =>
     obtain⟨frt,A,B,q1,q2,q3,q4⟩:=zau e1 (t:=t) (o:=o) (by simpa using ho)
     refine⟨frt,A,B,q1,q2,q3,fun x hx=>q4 x ?_⟩
     cases x with
     | t s=>simpa [fixedX] using hx
     | k c=>rfl
   cases b with
   | true =>
    simp only at e
    cases hs:o'.op.pst G call fr M with
    | none=>rw[hs] at e;cases e
    | some q =>
     rw[hs] at e
     simp only[Option.map_eq_some_iff] at e
     obtain⟨⟨f2,Ms1⟩,e1,e2⟩:=e
     cases e2
     exact fin e1 rfl (.inl ⟨hw,q.1,hs⟩)
   | false =>
    simp only[Option.map_eq_some_iff] at e
    obtain⟨⟨f2,Ms1⟩,e1,e2⟩:=e
    cases e2
    exact fin e1 rfl (.inr ⟨hw,rfl⟩)
end
variable {E:PEnv} {F:PFin}
theorem zpy (n:Nat) (M:PM) (k:Nat):((roB M n)[k]?).map (fun b=>b.map PB.ver)=(M[k]?).map (fun b=>b.map PB.ver)∧(roB M n).length=M.length:=by
 unfold roB
 split
 ·rename_i b hb
  have hb':=zaz.1 hb
  refine⟨?_,by simp⟩
  by_cases hk:n=k
  ·subst hk
   rw[List.getElem?_set,hb']
   simp[zaI hb']
  ·rw[List.getElem?_set_ne hk]
 ·exact⟨rfl,rfl⟩
theorem zgc:∀(ns:List Nat) (M:PM) (k:Nat),((roM M ns)[k]?).map (fun b=>b.map PB.ver)=(M[k]?).map (fun b=>b.map PB.ver)∧(roM M ns).length=M.length
 | [],M,k=>⟨rfl,rfl⟩
 | n::ns,M,k=>by
  have h1:=zpy n M k
  have h2:=zgc ns (roB M n) k
  exact⟨h2.1.trans h1.1,h2.2.trans h1.2⟩
theorem zdy (ns:List Nat) (M:PM) (n:Option Nat):verP n M (roM M ns)=true:=by
 cases n with
 | none=>rfl
 | some n=>simp only[verP,(zgc ns M n).1];simp
theorem zcv {f:Nat} {args:List PV} {M M':PM} {v:PV} (hp:E.pure f=true) (e:pcl E f args M=some (v,M')):∃ns,M'=roM M ns:=by
 obtain⟨k,e⟩:=zeq e
 cases k with
 | zero=>simp[pvF] at e
 | succ k =>
  simp only[pvF,hp,if_true] at e
  split at e
  ·split at e
   ·rename_i args' ns _
    split at e
    ·cases e;exact⟨ns,rfl⟩
    ·split at e
     ·simp only[Option.map_eq_some_iff] at e
      obtain⟨q,_,e2⟩:=e
      cases e2
      exact⟨ns,rfl⟩
     ·cases e
   ·cases e
  ·split at e
   ·rename_i args' ns _
    split at e
    ·simp only[Option.map_eq_some_iff] at e
     obtain⟨q,_,e2⟩:=e
     cases e2
     exact⟨ns,rfl⟩
    ·cases e
   ·cases e
  ·cases e
def XO.makes:XO→Bool
 | .new _ | .box _=>true
 | .bsl n _ _ _=>n != 0
 | _=>false
def calmOp (E:PEnv):XO→Bool
 | .call f _=>E.pure f
 | _=>false
def calmC (E:PEnv) (ops:List XOper) (c:Nat×Nat):Bool :=
 match ops[c.1]?,ops[c.2]? with
 | some a,some b=>a.guard.isNone&&calmOp E b.op&&(if a.op.cls=1 then a.op.makes else a.op.cls==2&&fixedX ops c.2 a.op.looks&&fixedX ops c.1 a.op.looks)
 | _,_=>false
theorem ziy {G:Nat→Option (List AV)} {call:PCall} {o:XO} (hm:o.makes=true) {fr:PFr} {M M':PM} {v:PV} (e:o.pst G call fr M=some (v,M')):M.length<M'.length:=by
 cases o<;>simp[XO.makes] at hm<;>simp only[XO.pst,XO.pev] at e
 case new=>split at e<;>cases e;simp
 case box=>split at e<;>cases e;simp
 case bsl =>
  split at e
  ·split at e
   ·cases e;simp
   ·cases e
  ·cases e
theorem zkr {G:Nat→Option (List AV)} {call:PCall} {o:XO} (hc:o.cls=2) {fr:PFr} {M M':PM} {v:PV} (e:o.pst G call fr M=some (v,M')):o.looks.pv G fr ≠ .bad:=by
 intro hb
 cases o<;>simp[XO.cls] at hc<;>simp only[XO.pst,XO.pev,XO.looks] at e hb<;>rw[hb] at e<;>cases e
theorem zcV {E:PEnv} {ops:List XOper} {fr:PFr} {Ms:List PM} {c:Nat×Nat} (h:chkP0 E.glob ops fr Ms c=true):chkP E.glob ops fr Ms c=true:=by
 rw[chkP,h,Bool.true_or]
theorem zdj {ops:List XOper} {fr fr2:PFr} {M:PM} {Ms:List PM} {i j:Nat} (h1:pOpsT E.glob (pcl E) ops fr M=some (fr2,Ms)) (hcc:calmC E ops (i,j)=true):chkP E.glob ops fr2 Ms (i,j)=true:=by
 unfold calmC at hcc
 split at hcc
 ·rename_i a b ha hb
  simp only[Bool.and_eq_true] at hcc
  obtain⟨⟨c1,c2⟩,c3⟩:=hcc
  obtain⟨fri,A,B,q1,q2,q3,q4⟩:=zau h1 ha
  obtain⟨frj,C,D,p1,p2,p3,p4⟩:=zau h1 hb
  have hver:∀n,verP n C D=true:=fun n=>by
   rcases p3 with⟨_,v,p3⟩|⟨_,p3⟩
   ·cases hop:b.op with
    | call f l =>
     rw[hop] at p3 c2
     obtain⟨ns,rfl⟩:=zcv c2 p3
     exact zdy ns C n
    | _=>rw[hop] at c2;simp[calmOp] at c2
   ·rw[p3];cases n<;>simp[verP]
  have hexec:∃v,a.op.pst E.glob (pcl E) fri A=some (v,B):=by
   rcases q3 with⟨_,q3⟩|⟨q3,_⟩
   ·exact q3
   ·unfold XOper.pw at q3
    have:a.guard=none:=by simpa using c1
    rw[this] at q3;cases q3
  obtain⟨v,hexec⟩:=hexec
  have p2':Ms[(i,j).2+1]?=some D:=p2
  have q2':Ms[(i,j).1+1]?=some B:=q2
  refine zcV ?_
  simp only[chkP0,ha,q1,q2,p1,p2]
  split
  ·rename_i hcls
   rw[if_pos hcls] at c3
   simp only[Bool.and_eq_true,decide_eq_true_eq]
   exact⟨ziy c3 hexec,hver _⟩
  ·rename_i hcls
   rw[if_neg hcls] at c3
   simp only[Bool.and_eq_true,beq_iff_eq] at c3
   have hnb:=zkr c3.1.1 hexec
   rw[←q4 _ c3.2] at hnb
   generalize hpv:a.op.looks.pv E.glob fr2=pv at hnb
   cases pv with
   | p n o=>exact hver (some n)
   | sl n o l c z =>
    simp only[chkV]
    split
    ·rfl
    ·exact hver (some n)
   | bad=>exact absurd rfl hnb
   | tu _=>rfl
   | _=>exact c3.1.2
 ·cases hcc
def calmS (ops:List XOper) (c:Nat×Nat):Option (Nat×Nat) :=
 match ops[c.1]?,ops[c.2]? with
 | some ⟨_,.load _ _ (.t s),_,none⟩,some ⟨_,.store _ (.t r) _,_,none⟩=>if (ops.all fun o=>o.dst != some s&&o.dst != some r)=true then some (s,r) else none
 | _,_=>none
def apart:PV→PV→Prop
 | .p a _,.p b _=>a≠b
 | _,_=>False
theorem zkC {ops:List XOper} {fr fr2:PFr} {M:PM} {Ms:List PM} {s r:Nat} (ha:(ops.all fun o=>o.dst != some s&&o.dst != some r)=true):(ops.all fun o=>o.dst != some s)=true∧(ops.all fun o=>o.dst != some r)=true:=by
 simp only[List.all_eq_true,Bool.and_eq_true] at ha ⊢
 exact⟨fun o ho=>(ha o ho).1,fun o ho=>(ha o ho).2⟩
theorem zig {ops:List XOper} {s t:Nat} (h:(ops.all fun o=>o.dst != some s)=true):fixedX ops t (.t s)=true:=by
 simp only[fixedX,List.all_eq_true] at h ⊢
 exact fun o ho=>h o (List.mem_of_mem_drop ho)
theorem zhM {ops:List XOper} {fr fr2:PFr} {M:PM} {Ms:List PM} {i j s r:Nat} (h1:pOpsT E.glob (pcl E) ops fr M=some (fr2,Ms)) (hs:calmS ops (i,j)=some (s,r)) (hap:apart (fr s) (fr r)):chkP E.glob ops fr2 Ms (i,j)=true:=by
 unfold calmS at hs
 split at hs
 ·rename_i d1 z1 n1 s1 af1 d2 n2 r1 x2 af2 ha hb
  split at hs
  ·rename_i hall
   cases hs
   obtain⟨k1,k2⟩:=zkC (fr:=fr) (fr2:=fr2) (M:=M) (Ms:=Ms) hall
   have hk:=(zbh h1).2
   obtain⟨fri,A,B,q1,q2,q3,q4⟩:=zau h1 ha
   obtain⟨frj,C,D,p1,p2,p3,p4⟩:=zau h1 hb
   have p2':Ms[(i,j).2+1]?=some D:=p2
   have q2':Ms[(i,j).1+1]?=some B:=q2
   refine zcV ?_
   simp only[chkP0,ha,q1,q2,p1,p2]
   rw[if_neg (by simp[XO.cls])]
   have e1:fr2 s=fr s:=hk s k1
   have e2:frj r=fr r:=by
    have:=p4 (.t r) (zig k2)
    simp only[X.pv] at this
    rw[←this];exact hk r k2
   show chkV ops j (.t s) C D (fr2 s)=true
   rw[e1]
   revert hap
   cases hfs:fr s<;>simp only[apart,false_imp_iff,imp_self]
   rename_i na oa
   cases hfr:fr r<;>simp only[false_imp_iff]
   rename_i nb ob
   intro hne
   simp only[chkV,verP]
   rcases p3 with⟨_,v,p3⟩|⟨p3,_⟩
   ·simp only[XO.pst,XO.pev] at p3
    rw[show X.pv E.glob frj (.t r)=.p nb ob from e2.trans hfr] at p3
    simp only at p3
    generalize (X.pv E.glob frj x2).cells=cs at p3
    split at p3
    ·split at p3
     ·cases p3
      rw[List.getElem?_set_ne (fun h=>hne h.symm)];simp
     ·cases p3
    ·cases p3
   ·simp[XOper.pw] at p3
  ·cases hs
 ·cases hs
def AllC (E:PEnv) (ops:List XOper) (fr:PFr):List (Nat×Nat)→Prop
 | []=>True
 | c::l=>(calmC E ops c=true∨∃s r,calmS ops c=some (s,r)∧apart (fr s) (fr r))∧AllC E ops fr l
theorem AllC.of {ops:List XOper} {fr:PFr}:∀{l:List (Nat×Nat)},l.all (calmC E ops)=true→AllC E ops fr l
 | [],_=>trivial
 | c::l,h=>by
  simp only[List.all_cons,Bool.and_eq_true] at h
  exact⟨.inl h.1,AllC.of h.2⟩
theorem AllC.chk {ops:List XOper} {fr fr2:PFr} {M:PM} {Ms:List PM} (h1:pOpsT E.glob (pcl E) ops fr M=some (fr2,Ms)):∀{l:List (Nat×Nat)},AllC E ops fr l→l.all (chkP E.glob ops fr2 Ms)=true
 | [],_=>rfl
 | (i,j)::l,h=>by
  simp only[List.all_cons,Bool.and_eq_true]
  refine⟨?_,AllC.chk h1 h.2⟩
  rcases h.1 with h|⟨s,r,h,h'⟩
  ·exact zdj h1 h
  ·exact zhM h1 h h'
theorem zbX {ops:List XOper} {chk:List (Nat×Nat)} {ks:List KI} {fr:PFr} {M:PM} (hc:AllC E ops fr chk) (w:WL E F ops ks fr M):WK E F (.drw ops chk) ks fr M:=by
 obtain⟨lf,w⟩:=w
 refine⟨lf,?_⟩
 have key:pCode E.glob (pcl E) lf (.drw ops chk) fr M=(pOps E.glob (pcl E) ops fr M).map fun r=>(.normal,r.1,r.2):=by
  simp only[pCode]
  congr 1
  cases hops:pOps E.glob (pcl E) ops fr M with
  | none=>rw[hops] at w;exact(Ends.none w).elim
  | some r =>
   unfold pDrw
   by_cases h0:chk=[]
   ·rw[if_pos h0,hops]
   ·rw[if_neg h0]
    obtain⟨fr2,M2⟩:=r
    obtain⟨Ms,h1,h2⟩:=zbV hops
    rw[h1]
    have hall:chk.all (chkP E.glob ops fr2 Ms)=true:=by
     exact hc.chk h1
    simp only[hall,if_true,h2,Option.map_some]
 rw[key]
 cases hops:pOps E.glob (pcl E) ops fr M with
 | none=>rw[hops] at w;exact(Ends.none w).elim
 | some r=>rw[hops] at w;exact w
theorem zbo {ops:List XOper} {chk:List (Nat×Nat)} {ks:List KI} {fr:PFr} {M:PM} (hc:chk.all (calmC E ops)=true) (w:WL E F ops ks fr M):WK E F (.drw ops chk) ks fr M:=zbX (AllC.of hc) w
end Go.Eng
