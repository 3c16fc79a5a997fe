/- The engine and the contracts on which the statement stands: no conditions of its own. -/
import Derived.Test.YthjpijjeidddoaaGreatDoorMine4
import Derived.Shelf.Strings.Repeat
import Derived.Shelf.Strings.Builder1
import Derived.Shelf.Strings.SlTrimAscii
import Derived.Shelf.Strings.Search2
import Derived.Shelf.Strconv.Atoi
import Derived.Shelf.Strconv.Itoa3
import Derived.Lib.AppendIntMem
import Derived.Lib.SmallJoins
import Derived.Lib.Case
import Derived.Lib.Join
import Derived.BigCall
import Derived.BigGuard
import Derived.KernelRfl
import Derived.Lib.LaidTab
import Derived.ProofKit
import Derived.OpenShut
import Derived.Lay
import Derived.LaidMore
import Derived.LaidHandle
import Derived.Stop.Joined
set_option linter.unusedSimpArgs false
set_option linter.unusedVariables false
set_option linter.unusedSectionVars false
namespace Go.Eng
open Go.Proofs Go.RowKit Go.Shelf
theorem zjn {v:Nat} (h:v<10):dec v=[UInt8.ofNat (48+v)]:=by
 unfold dec
 split
 ·rename_i h0;subst h0;rfl
 ·rename_i h0
  have hd:dlen v=1:=by
   have h1:dlen v≤1:=zav.2 (by omega)
   have h2:=zbN v
   rcases Nat.eq_zero_or_pos (dlen v) with q|q
   ·rw[q] at h2;simp at h2;omega
   ·omega
  rw[hd]
  show [UInt8.ofNat (48+v/10^0%10)]=_
  rw[Nat.pow_zero,Nat.div_one,Nat.mod_eq_of_lt h]
theorem zhr:∀(n v:Nat),dtx (n+1) v=dtx n (v/10)++[UInt8.ofNat (48+v%10)]
 | 0,v=>by show [UInt8.ofNat (48+v/10^0%10)]=_;rw[Nat.pow_zero,Nat.div_one];rfl
 | n+1,v=>by
  show UInt8.ofNat (48+v/10^(n+1)%10)::dtx (n+1) v=(UInt8.ofNat (48+v/10/10^n%10)::dtx n (v/10))++_
  rw[zhr n v,Nat.div_div_eq_div_mul,←Nat.pow_succ'];rfl
theorem zoc {v:Nat} (h:¬v<10):dec v=dec (v/10)++[UInt8.ofNat (48+v%10)]:=by
 have hd:dlen v=dlen (v/10)+1:=by
  have k:∀m,dlen (v/10)≤m↔dlen v≤m+1:=fun m=>by
   rw[zav,zav,Nat.pow_succ,Nat.div_lt_iff_lt_mul (by decide)]
  have k1:=(k (dlen (v/10))).1 (Nat.le_refl _)
  have k2:0<dlen v:=by
   rcases Nat.eq_zero_or_pos (dlen v) with q|q
   ·have:=zbN v;rw[q] at this;simp at this;omega
   ·exact q
  have k3:=(k (dlen v-1)).2 (by omega)
  omega
 unfold dec
 rw[if_neg (by omega),if_neg (by omega),hd,zhr]
theorem zjm (v:Nat):Lib.decDigits v=dec v:=by
 induction v using Nat.strongRecOn with
 | _ v ih =>
  rw[Lib.decDigits]
  split
  ·rename_i h;exact(zjn h).symm
  ·rename_i h
   rw[ih (v/10) (by omega),←zoc h]
theorem zlK (n:Int):Lib.itoa n=decI n:=by
 unfold Lib.itoa decI
 split
 ·rw[zjm]
 ·rename_i h
  rw[zjm]
  congr 1;omega
theorem zk6 (l:List UInt8):∀c,Lib.repeatL l c=(List.replicate c l).flatten
 | 0=>rfl
 | c+1=>by rw[Lib.repeatL,zk6 l c,List.replicate_succ,List.flatten_cons]
theorem zoh {c:UInt8} (h:isDig c=true):Lib.digitVal c=some (c.toNat-48):=by
 simp only[isDig,decide_eq_true_eq] at h
 unfold Lib.digitVal
 rw[if_pos h]
theorem zlq:∀(l:List UInt8) (a:Nat),l.all isDig=true→Lib.decFrom a l=some (a*10^l.length+tv l)
 | [],a,_=>by simp[Lib.decFrom,tv]
 | c::l,a,h=>by
  simp only[List.all_cons,Bool.and_eq_true] at h
  unfold Lib.decFrom
  rw[zoh h.1]
  simp only
  rw[zlq l _ h.2]
  congr 1
  show (a*10+(c.toNat-48))*10^l.length+tv l=a*10^(l.length+1)+((c.toNat-48)*10^l.length+tv l)
  rw[Nat.pow_succ];grind
theorem zlA {l:List UInt8} (h0:l≠[]) (h:l.all isDig=true):Lib.atoi l=some (tv l:Int):=by
 cases l with
 | nil=>exact(h0 rfl).elim
 | cons c l =>
  have hc:isDig c=true:=by simp only[List.all_cons,Bool.and_eq_true] at h;exact h.1
  simp only[isDig,decide_eq_true_eq] at hc
  have h45:(c==45)=false:=by
   rw[beq_eq_false_iff_ne];rintro rfl;revert hc;decide
  have h43:(c==43)=false:=by
   rw[beq_eq_false_iff_ne];rintro rfl;revert hc;decide
  simp only[Lib.atoi,h45,h43,Bool.false_eq_true,if_false]
  unfold Lib.decNat
  simp only[List.isEmpty_cons,Bool.false_eq_true,if_false]
  rw[zlq _ _ h]
  simp
theorem zjP (c:UInt8):∀l:List UInt8,Lib.indexByte l c=idxB l c
 | []=>rfl
 | b::l=>by unfold Lib.indexByte idxB;rw[zjP c l]
structure LibOk (P:Program) (ρ:Ren) (key:Nat→Option FuncId) (T:Tab) (G:Nat):Prop where
 l105:Lays.n105 P ρ
 l171:LaysM.n171 P ρ
 lX:Builder.Extra P ρ
 gname:P.globalNamed "internal/strconv.uint64pow10" = some G
 gkey:T.gkey G=some 0
 k50:key 50=some (ρ.f 171)
 k51:key 51=some (ρ.f 105)
 o130:∀g,key 130=some g→Lays.n160 P ρ∧(P.info? (ρ.t 116)).map (fun i=>(i.zero,i.size))=some (some (.agg (Array.replicate 256 (.bool false))),256)∧g=ρ.f 160
 o131:∀g,key 131=some g→Lays.n172 P ρ∧g=ρ.f 172
 o222:∀g,key 222=some g→Lays.n219 P ρ∧g=ρ.f 219
variable {P:Program} {ρ:Ren} {key:Nat→Option FuncId} {T:Tab} {G:Nat}
theorem ziX {l:Loc} {xs:List UInt8} {v:Value} (h:Rel key l (.s xs) v):∃s:ByteArray,v=.string s∧s.data.toList=xs:=by
 generalize hx:AV.s xs=x at h
 cases h<;>cases hx
 exact⟨_,rfl,rfl⟩
theorem zpF {l:Loc} {k:IntKind} {n:Int} {v:Value} (h:Rel key l (.i k n) v):v=.int k n:=by
 cases h;rfl
theorem zil {l:Loc} {a:AV} {vs:Array Value} (h:RelL key l [a] vs.toList):∃v,vs = #[v]∧Rel key l a v:=by
 have hl:=h.1
 rcases vs with⟨vs⟩
 match vs,hl with
 | [v],_=>exact⟨v,rfl,h.2 0 (by simp) (by simp)⟩
theorem zfI {l:Loc} {a b:AV} {vs:Array Value} (h:RelL key l [a,b] vs.toList):∃v w,vs = #[v,w]∧Rel key l a v∧Rel key l b w:=by
 have hl:=h.1
 rcases vs with⟨vs⟩
 match vs,hl with
 | [v,w],_=>exact⟨v,w,rfl,h.2 0 (by simp) (by simp),h.2 1 (by simp) (by simp)⟩
theorem mkS {s:ByteArray} {xs:List UInt8} (h:s.data.toList=xs):s=⟨xs.toArray⟩:=by
 rcases s with⟨d⟩
 rw[←h]
theorem zsh (K:LibOk P ρ key T G) {F:Nat} {l:Loc} {h:Hp} {w:World} (TO:TabOk key T l) (S:Sim key F l h w) (t:∃b,h.m 0=some b∧b.v=powT):Lib.TabIs P w "internal/strconv.uint64pow10" .u64 Lib.pow10Tab:=by
 obtain⟨m,hm⟩:=TO.g G 0 K.gkey
 obtain⟨b,b1,b2⟩:=t
 have H:=S.holds 0 b _ b1 hm
 obtain⟨_,_,cs,ty,fz,h3,h4⟩:=H.whole rfl
 unfold Lib.TabIs World.var?
 rw[K.gname]
 simp only[Option.bind_some]
 simp only at h3
 rw[h3]
 simp only[Option.some.injEq]
 have hlen:b.v.length=20:=by rw[b2];rfl
 apply Array.ext_getElem?
 intro i
 by_cases hi:i<20
 ·obtain⟨v,c1,c2⟩:=H.cell i (by omega)
  have hcs:cs[i]?=some v:=by
   have:=c1
   simp only[World.cell?,Nat.zero_add] at this
   rw[h3] at this
   simpa using this
  have hb:b.v[i]'(by omega)=.i .u64 ((10^i:Nat):Int):=by
   simp only[b2,powT]
   rw[List.getElem_map,List.getElem_range]
  rw[hb] at c2
  rw[hcs,zpF c2]
  simp[Lib.pow10Tab,hi]
 ·rw[Array.getElem?_eq_none (by omega),Array.getElem?_eq_none (by simp[Lib.pow10Tab];omega)]
theorem zjU (K:LibOk P ρ key T G) {f g:Nat} (hk:key f=some g) (hf:f≠33) {F:Nat} {args:List AV} {vs:Array Value} {h h':Hp} {v:AV} {l:Loc} {w:World} (e:orcA f args h=some (v,h')) (TO:TabOk key T l)
  (RL:RelL key l args vs.toList) (S:Sim key F l h w):Calls P g vs w fun e w'=>∃l' val,e=.returned val∧Ext l h w l' h' w'∧Sim key F l' h' w'∧Rel key l' v val:=by
 unfold orcA at e
 rw[if_neg hf] at e
 split at e
 ·cases e
 rename_i ht
 simp only[Option.map_eq_some_iff,Prod.mk.injEq] at e
 obtain⟨v',e1,rfl,rfl⟩:=e
 unfold libA at e1
 split at e1
 ·rename_i n
  split at e1
  ·rename_i hc
   cases e1
   obtain⟨rfl,hn⟩:=hc
   obtain⟨x,rfl,r1⟩:=zil RL
   rw[zpF r1]
   obtain rfl:=Option.some.inj (K.k50.symm.trans hk)
   have t:∃b,h.m 0=some b∧b.v=powT:=by
    by_cases q:∃b,h.m 0=some b∧b.v=powT
    ·exact q
    ·exact(ht ⟨rfl,q⟩).elim
   refine zbV S (val:=.string ⟨(decI n).toArray⟩) ((Any.strconv_Itoa K.l171 n hn.1 hn.2 w (zsh K TO S t)).mono ?_) (zfJ _)
   rintro e w' ⟨rfl,k,os,rfl⟩
   exact⟨by rw[zlK],Lib.below_grow _ _ (Nat.le_refl _) _ _⟩
  ·cases e1
 ·rename_i xs c
  split at e1
  ·rename_i hc
   cases e1
   obtain⟨rfl,h1,h2,h3⟩:=hc
   obtain⟨x,y,rfl,r1,r2⟩:=zfI RL
   obtain⟨s,rfl,rfl⟩:=ziX r1
   rw[zpF r2]
   obtain rfl:=Option.some.inj (K.k51.symm.trans hk)
   obtain⟨c,rfl⟩:∃k:Nat,c=(k:Int):=⟨c.toNat,by omega⟩
   have hsz:s.size≤1000:=by simpa using h3
   have hm:s.size*c≤1000*1000:=Nat.mul_le_mul hsz (by omega)
   refine zbV S (val:=.string ⟨((List.replicate c s.data.toList).flatten).toArray⟩) ((Any.strings_Repeat K.l105 K.lX s c w (by omega) (by omega)).mono ?_) (zfJ _)
   rintro e w' ⟨rfl,hb⟩
   exact⟨by rw[zk6],hb⟩
  ·cases e1
 ·rename_i xs cs
  split at e1
  ·rename_i hc
   cases e1
   obtain⟨rfl,h1,h2,h3⟩:=hc
   obtain⟨x,y,rfl,r1,r2⟩:=zfI RL
   obtain⟨s,rfl,rfl⟩:=ziX r1
   obtain⟨c,rfl,rfl⟩:=ziX r2
   obtain⟨l160,i116,rfl⟩:=K.o130 _ hk
   refine zbV S (val:=.string ⟨(((s.data.toList.reverse.dropWhile (c.data.toList.contains ·)).reverse).dropWhile (c.data.toList.contains ·)).toArray⟩) ((Any.strings_Trim_laid l160 i116 s c w (by simpa using h1) (by simpa using h2) (ascii_of_all h3)).mono ?_) (zfJ _)
   rintro e w' ⟨rfl,hb⟩
   exact⟨rfl,hb⟩
  ·split at e1
   ·rename_i hf
    subst hf
    split at e1
    ·rename_i c hh
     cases e1
     obtain⟨x,y,rfl,r1,r2⟩:=zfI RL
     obtain⟨s,rfl,rfl⟩:=ziX r1
     obtain⟨z,rfl,hz⟩:=ziX r2
     obtain⟨l219,rfl⟩:=K.o222 _ hk
     have ez:z=⟨#[c]⟩:=mkS hz
     subst ez
     refine zbV S (val:=.int .i64 (idxB s.data.toList c)) ((Any.stringslite_Index_one l219 s c w).mono ?_) (.i _ _)
     rintro e w' ⟨rfl,rfl⟩
     exact⟨by rw[zjP],.refl _ _⟩
    ·cases e1
   ·cases e1
 ·rename_i xs
  split at e1
  ·rename_i hc
   cases e1
   obtain⟨rfl,h1,h2,h3⟩:=hc
   obtain⟨x,rfl,r1⟩:=zil RL
   obtain⟨s,rfl,rfl⟩:=ziX r1
   obtain⟨l172,rfl⟩:=K.o131 _ hk
   refine zbV S (val:=.tuple #[.int .i64 (tv s.data.toList:Nat),.nilIface]) ((Any.strconv_Atoi l172 s _ (by simpa using h2) (zlA h1 h3) w).mono ?_) ?_
   ·rintro e w' ⟨rfl,t,rfl⟩
    exact⟨rfl,Go.Joins.below_bytesWorld _ _ _ _ (Nat.le_refl _)⟩
   ·exact RelL.tu (.cons (.i _ _) (.cons .inil .nil))
  ·cases e1
 ·cases e1
end Go.Eng
namespace Go.Eng
variable {key:Nat→Option FuncId} {P:Program} {T:Tab} {call:Nat→List AV→Hp→Option (AV×Hp)} {F:Nat}
def graft:Code→Code→Code
 | .seq x y,r=>.seq x (graft y r)
 | c,r=>.seq c r
theorem zjK (G:GoodCall call) (HC:Callable P key) (CS:CallSound P key T call) (hm:P.follows .mixedOrders=true) (lf:Nat) (c r:Code) (hg:graft c r=.seq c r) (hr:(cCode P T c).regsOk=true)
  {Q:Exit→Act→World→Prop} {l:Loc} {fr fr':Fr} {a:Act} {h h':Hp} {w:World} {out:Out} (TO:TabOk key T l) (R:RelF key l fr a.tmps) (S:Sim key F l h w) (hF:h'.next≤F)
  (he:evCode call lf (cCode P T c) fr h=some (out,fr',h'))
  (cont:∀l' a' w',Ext l h w l' h' w'→RelF key l' fr' a'.tmps→Sim key F l' h' w'→a'.defers=a.defers→Exit.then (r.wp P Q) Q out.toExit a' w'):(graft c r).wp P Q a w:=by
 rw[hg]
 exact wp_seq (zee G HC CS lf c (zc8 G HC CS hm c hr) TO R S hF he cont)
theorem zhD (G:GoodCall call) (HC:Callable P key) (CS:CallSound P key T call) (hm:P.follows .mixedOrders=true) (lf:Nat) (r:Code):∀(c:Code),(cCode P T c).regsOk=true →
  ∀{Q:Exit→Act→World→Prop} {l:Loc} {fr fr':Fr} {a:Act} {h h':Hp} {w:World} {out:Out},TabOk key T l→RelF key l fr a.tmps→Sim key F l h w→h'.next≤F →
  evCode call lf (cCode P T c) fr h=some (out,fr',h') →
  (∀l' a' w',Ext l h w l' h' w'→RelF key l' fr' a'.tmps→Sim key F l' h' w'→a'.defers=a.defers→Exit.then (r.wp P Q) Q out.toExit a' w')→(graft c r).wp P Q a w:=by
 intro c
 induction c with
 | seq x y _ ihy =>
  intro hr Q l fr fr' a h h' w out TO R S hF he cont
  simp only[cCode,XC.regsOk,Bool.and_eq_true] at hr
  simp only[cCode,evCode] at he
  show (Code.seq x (graft y r)).wp P Q a w
  cases h1:evCode call lf (cCode P T x) fr h with
  | none=>rw[h1] at he;cases he
  | some q =>
   obtain⟨o1,fr1,h1'⟩:=q
   rw[h1] at he
   have good1:=zbC G lf _ h1
   cases o1 with
   | normal =>
    simp only at he
    have good2:=zbC G lf _ he
    have hF1:h1'.next≤F:=Nat.le_trans good2.le.next hF
    refine wp_seq (zee G HC CS lf x (zc8 G HC CS hm x hr.1) TO R S hF1 h1 fun l1 a1 w1 E1 R1 S1 d1=>?_)
    exact ihy hr.2 (TO.mono E1.le) R1 S1 hF he fun l2 a2 w2 E2 R2 S2 d2=>cont l2 a2 w2 (.trans (S.hd S1.wf hF1) E1 E2) R2 S2 (d2.trans d1)
   | exit i =>
    cases he
    exact wp_seq (zee G HC CS lf x (zc8 G HC CS hm x hr.1) TO R S hF h1 fun l1 a1 w1 E1 R1 S1 d1=>cont l1 a1 w1 E1 R1 S1 d1)
   | ret =>
    cases he
    exact wp_seq (zee G HC CS lf x (zc8 G HC CS hm x hr.1) TO R S hF h1 fun l1 a1 w1 E1 R1 S1 d1=>cont l1 a1 w1 E1 R1 S1 d1)
 | _=>exact fun hr _ _ _ _ _ _ _ _ _ TO R S hF he cont=>zjK G HC CS hm lf _ r rfl hr TO R S hF he cont
theorem zac {n:Nat} {l:List Value} (h:l.length=n+1):∃t l2,l=t::l2∧l2.length=n:=by
 cases l with
 | nil=>simp at h
 | cons t l=>exact⟨t,l,rfl,by simpa using h⟩
theorem ztr (tm:Array Value) (h:tm.size=58):∃t0 t1 t2 t3 t4 t5 t6 t7 t8 t9 t10 t11 t12 t13 t14 t15 t16 t17 t18 t19 t20 t21 t22 t23 t24 t25 t26 t27 t28 t29 t30 t31 t32 t33 t34 t35 t36 t37 t38 t39 t40 t41 t42 t43 t44 t45 t46 t47 t48 t49 t50 t51 t52 t53 t54 t55 t56 t57,tm = #[t0,t1,t2,t3,t4,t5,t6,t7,t8,t9,t10,t11,t12,t13,t14,t15,t16,t17,t18,t19,t20,t21,t22,t23,t24,t25,t26,t27,t28,t29,t30,t31,t32,t33,t34,t35,t36,t37,t38,t39,t40,t41,t42,t43,t44,t45,t46,t47,t48,t49,t50,t51,t52,t53,t54,t55,t56,t57]:=by
 rcases tm with⟨l⟩
 have h:l.length=58:=h
 obtain⟨t0,l0,rfl,h0⟩:=zac h
 obtain⟨t1,l1,rfl,h1⟩:=zac h0
 obtain⟨t2,l2,rfl,h2⟩:=zac h1
 obtain⟨t3,l3,rfl,h3⟩:=zac h2
 obtain⟨t4,l4,rfl,h4⟩:=zac h3
 obtain⟨t5,l5,rfl,h5⟩:=zac h4
 obtain⟨t6,l6,rfl,h6⟩:=zac h5
 obtain⟨t7,l7,rfl,h7⟩:=zac h6
 obtain⟨t8,l8,rfl,h8⟩:=zac h7
 obtain⟨t9,l9,rfl,h9⟩:=zac h8
 obtain⟨t10,l10,rfl,h10⟩:=zac h9
 obtain⟨t11,l11,rfl,h11⟩:=zac h10
 obtain⟨t12,l12,rfl,h12⟩:=zac h11
 obtain⟨t13,l13,rfl,h13⟩:=zac h12
 obtain⟨t14,l14,rfl,h14⟩:=zac h13
 obtain⟨t15,l15,rfl,h15⟩:=zac h14
 obtain⟨t16,l16,rfl,h16⟩:=zac h15
 obtain⟨t17,l17,rfl,h17⟩:=zac h16
 obtain⟨t18,l18,rfl,h18⟩:=zac h17
 obtain⟨t19,l19,rfl,h19⟩:=zac h18
 obtain⟨t20,l20,rfl,h20⟩:=zac h19
 obtain⟨t21,l21,rfl,h21⟩:=zac h20
 obtain⟨t22,l22,rfl,h22⟩:=zac h21
 obtain⟨t23,l23,rfl,h23⟩:=zac h22
 obtain⟨t24,l24,rfl,h24⟩:=zac h23
 obtain⟨t25,l25,rfl,h25⟩:=zac h24
 obtain⟨t26,l26,rfl,h26⟩:=zac h25
 obtain⟨t27,l27,rfl,h27⟩:=zac h26
 obtain⟨t28,l28,rfl,h28⟩:=zac h27
 obtain⟨t29,l29,rfl,h29⟩:=zac h28
 obtain⟨t30,l30,rfl,h30⟩:=zac h29
 obtain⟨t31,l31,rfl,h31⟩:=zac h30
 obtain⟨t32,l32,rfl,h32⟩:=zac h31
 obtain⟨t33,l33,rfl,h33⟩:=zac h32
 obtain⟨t34,l34,rfl,h34⟩:=zac h33
 obtain⟨t35,l35,rfl,h35⟩:=zac h34
 obtain⟨t36,l36,rfl,h36⟩:=zac h35
 obtain⟨t37,l37,rfl,h37⟩:=zac h36
 obtain⟨t38,l38,rfl,h38⟩:=zac h37
 obtain⟨t39,l39,rfl,h39⟩:=zac h38
 obtain⟨t40,l40,rfl,h40⟩:=zac h39
 obtain⟨t41,l41,rfl,h41⟩:=zac h40
 obtain⟨t42,l42,rfl,h42⟩:=zac h41
 obtain⟨t43,l43,rfl,h43⟩:=zac h42
 obtain⟨t44,l44,rfl,h44⟩:=zac h43
 obtain⟨t45,l45,rfl,h45⟩:=zac h44
 obtain⟨t46,l46,rfl,h46⟩:=zac h45
 obtain⟨t47,l47,rfl,h47⟩:=zac h46
 obtain⟨t48,l48,rfl,h48⟩:=zac h47
 obtain⟨t49,l49,rfl,h49⟩:=zac h48
 obtain⟨t50,l50,rfl,h50⟩:=zac h49
 obtain⟨t51,l51,rfl,h51⟩:=zac h50
 obtain⟨t52,l52,rfl,h52⟩:=zac h51
 obtain⟨t53,l53,rfl,h53⟩:=zac h52
 obtain⟨t54,l54,rfl,h54⟩:=zac h53
 obtain⟨t55,l55,rfl,h55⟩:=zac h54
 obtain⟨t56,l56,rfl,h56⟩:=zac h55
 obtain⟨t57,l57,rfl,h57⟩:=zac h56
 obtain rfl:=List.eq_nil_of_length_eq_zero h57
 exact⟨t0,t1,t2,t3,t4,t5,t6,t7,t8,t9,t10,t11,t12,t13,t14,t15,t16,t17,t18,t19,t20,t21,t22,t23,t24,t25,t26,t27,t28,t29,t30,t31,t32,t33,t34,t35,t36,t37,t38,t39,t40,t41,t42,t43,t44,t45,t46,t47,t48,t49,t50,t51,t52,t53,t54,t55,t56,t57,rfl⟩
end Go.Eng
namespace Go.Proofs
open Go.Eng Go.RowKit Go.Shelf
noncomputable def Tryz.strPre:Code:=match Tryz.f91.body with|some (.seq a (.seq b (.seq c (.seq d (.seq e _)))))=>.seq a (.seq b (.seq c (.seq d e)))|_=>.skip
noncomputable def Tryz.strTail:Code:=match Tryz.f91.body with|some (.seq _ (.seq _ (.seq _ (.seq _ (.seq _ r)))))=>r|_=>.skip
theorem Tryz.hidS {p:Prop} (h:p):Hid p:=h
set_option maxHeartbeats 4000000 in
set_option maxRecDepth 100000 in
theorem Tryz.str_tail (neg:Bool) (ps:List (List UInt8)) (hne:ps.reverse.flatten≠[]) (hlen:ps.length≤20000) (htot:ps.flatten.length≤1000000)
  (b1 o1 b3 o3 c:Nat) (w:World) (hneg:w.cell? ⟨b1,o1,none⟩=some (.bool neg)) (hb1:b1<w.heap.size) (hb3:b3<w.heap.size)
  (hcells:∀j x,ps[j]?=some x→w.cell? ⟨b3,o3+j,none⟩=some (.string ⟨x.toArray⟩))
  (tm:Array Value) (hsz:tm.size=58) (h1:tm[1]?=some (.pointer (some ⟨b1,o1,none⟩))) (h3:tm[3]?=some (.slice (some ⟨b3,o3,none⟩) ps.length c)) :
  Tryz.strTail.wp Tryz.prog (fun e a w'=>e=.ret∧a.defers=[]∧a.tmps.getD 2 undef=.string ⟨((if neg then [45] else [])++ps.reverse.flatten).toArray⟩∧Below w.heap.size w w') ⟨tm,[]⟩ w:=by
 have HC:=Tryz.hidS hcells
 clear hcells
 obtain⟨t0,t1,t2,t3,t4,t5,t6,t7,t8,t9,t10,t11,t12,t13,t14,t15,t16,t17,t18,t19,t20,t21,t22,t23,t24,t25,t26,t27,t28,t29,t30,t31,t32,t33,t34,t35,t36,t37,t38,t39,t40,t41,t42,t43,t44,t45,t46,t47,t48,t49,t50,t51,t52,t53,t54,t55,t56,t57,rfl⟩:=ztr tm hsz
 simp only[List.getElem?_toArray,List.getElem?_cons_succ,List.getElem?_cons_zero,Option.some.injEq] at h1 h3
 subst h1
 subst h3
 clear hsz
 unfold Tryz.strTail
 simp only[Tryz.f91]
 have hF:Lib.IsBuilder 205 5 w.heap.size w.heap.size [] (w.alloc (.cells #[.pointer none,.slice none 0 0] 205)):=Lib.fresh_isBuilder 205 5 w
 have hB0:Below w.heap.size w (w.alloc (.cells #[.pointer none,.slice none 0 0] 205)):=(Below.refl w.heap.size w).alloc (Nat.le_refl _) _
 have HF:=Tryz.hidS hF
 have HB0:=Tryz.hidS hB0
 clear hF hB0
 obtain⟨pre,hpre⟩:∃pre:List UInt8,pre=if neg then [45] else []:=⟨_,rfl⟩
 have hprel:pre.length≤1:=by rw[hpre];split<;>simp
 rw[←hpre]
 have tail:∀(k:Nat),((ps.drop k).reverse.flatten).length≤1000000:=fun k=>by
  have e:=congrArg (fun l=>(List.flatten l).length) (List.take_append_drop k ps)
  simp only[List.flatten_append,List.length_append] at e
  have e2:((ps.drop k).reverse.flatten).length=((ps.drop k).flatten).length:=by
   simp only[List.length_flatten,List.map_reverse,List.sum_reverse]
  omega
 have HT:=Tryz.hidS tail
 clear tail
 cases neg
 case' false =>
  have e0:pre=[]:=by simpa using hpre
  have H1:=Tryz.hidS (show Lib.IsBuilder 205 5 w.heap.size w.heap.size (Lib.byteCells pre) (w.alloc (.cells #[.pointer none,.slice none 0 0] 205)) by rw[e0];exact HF.out)
  have HB1:=HB0
  go_wp2_with fail
 case' true =>
  have e0:pre=[45]:=by simpa using hpre
  go_wp2_with fail
  refine(Any.Builder_WriteByte Tryz.l167 Tryz.lX w.heap.size w.heap.size [] 45 _ HF.out (by simp) (by simp)).mono ?_
  rintro e w2 ⟨rfl,h2,hb2⟩
  have H1:=Tryz.hidS (show Lib.IsBuilder 205 5 w.heap.size w.heap.size (Lib.byteCells pre) w2 by rw[e0];exact Or.inr h2)
  have HB1:=Tryz.hidS (HB0.out.trans hb2)
  clear h2 hb2
  go_wp2_with fail
 all_goals (
  go_loopw [9] (fun i wr=>∃k:Nat,k≤ps.length∧i=.int .i64 ((k:Int)-1)∧Hid (Lib.IsBuilder 205 5 w.heap.size w.heap.size (Lib.byteCells (pre++(ps.drop k).reverse.flatten)) wr)∧Hid (Below w.heap.size w wr)) (fun i _=>(intOf i+1).toNat)
  case atStart=>exact⟨ps.length,Nat.le_refl _,rfl,by rw[List.drop_length];simpa using H1,HB1⟩
  case round =>
   obtain⟨k,hk,rfl,HB,HW⟩:=hrel
   by_cases hk0:k=0
   ·subst hk0
    have hd:(ps.drop 0)=ps:=List.drop_zero
    rw[hd] at HB
    go_wp2_with fail
    refine(Any.Builder_String { Tryz.l105 with } Tryz.lX w.heap.size w.heap.size (pre++ps.reverse.flatten) wr HB.out (fun q=>hne (List.append_eq_nil_iff.1 q).2)).mono ?_
    rintro e w3 ⟨rfl,hb3'⟩
    go_wp2_with fail
    exact HW.out.trans hb3'
   ·obtain⟨m,rfl⟩:∃m,k=m+1:=⟨k-1,by omega⟩
    have hm:m<ps.length:=by omega
    obtain⟨x,hx⟩:∃x,ps[m]?=some x:=⟨ps[m],List.getElem?_eq_getElem hm⟩
    have hc:=HC.out m x hx
    rw[←HW.out.cell (p:=⟨b3,o3+m,none⟩) hb3] at hc
    have hdrop:(ps.drop m).reverse.flatten=(ps.drop (m+1)).reverse.flatten++x:=by
     have e:ps.drop m=x::ps.drop (m+1):=by
      have:=List.drop_eq_getElem_cons hm
      rw[List.getElem?_eq_getElem hm] at hx
      cases hx;exact this
     rw[e];simp
    have hl:=HT.out m
    rw[hdrop,List.length_append] at hl
    have Hd:=Tryz.hidS hdrop
    have hBw:w.heap.size≤wr.heap.size:=HW.out.size
    have i1:((m+1:Nat):Int)-1=(m:Int):=by omega
    rw[i1]
    clear hdrop hx
    have hxs:(⟨x.toArray⟩:ByteArray).size=x.length:=rfl
    go_wp2_with fail
    refine(Any.Builder_WriteString { Tryz.l105 with } Tryz.lX w.heap.size w.heap.size _ ⟨x.toArray⟩ wr HB.out (by rw[Lib.byteCells_length,List.length_append,hxs];omega) hBw).mono ?_
    rintro e w2' ⟨rfl,h2',hb2'⟩
    have H2:=Tryz.hidS (show Lib.IsBuilder 205 5 w.heap.size w.heap.size (Lib.byteCells (pre++(ps.drop m).reverse.flatten)) w2' by
     rw[Hd.out,←List.append_assoc,Lib.byteCells_append]
     rw[Lib.strCells_eq] at h2'
     exact Or.inr h2')
    have Hb2:=Tryz.hidS (HW.out.trans hb2')
    clear h2' hb2'
    go_wp2_with fail
    exact⟨⟨m,by omega,rfl,H2,Hb2⟩,by simp[intOf]⟩)
end Go.Proofs
namespace Go.Eng
open Go.RowKit
variable {key:Nat→Option FuncId} {P:Program} {T:Tab}
def Hp.tw (t:Blk) (cs:List AV):Hp:=⟨fun k=>if k=0 then some { t with rw:=false } else if k=5 then some ⟨cs,false,0⟩ else none,6⟩
def Loc.tw (l:Loc) (a1:At):Loc:=fun k=>if k=5 then some a1 else if k≤4 then l k else none
theorem zmz {l l2:Loc} {i:Nat} (hi:i<powT.length) {v:Value} (r:Rel key l powT[i] v):Rel key l2 powT[i] v:=by
 have e:powT[i]=.i .u64 ((10^i:Nat):Int):=by
  simp only[powT];rw[List.getElem_map,List.getElem_range]
 rw[e] at r ⊢
 cases r;exact .i _ _
theorem znY {F F':Nat} {l:Loc} {h:Hp} {w:World} (S:Sim key F l h w) {t:Blk} {a0:At} (ht:h.m 0=some t) (hv:t.v=powT) (h0:l 0=some a0) {xs:List Nat} {a1:At}
  (hb:a1.b<w.heap.size∧a1.w=false∧xs.length≤a1.n∧∀i (hi:i<xs.length),w.cell? ⟨a1.b,a1.o+i,none⟩=some (.int .u32 ((xs[i]:Nat):Int))) :
  Sim key F' (Loc.tw l a1) (Hp.tw t (xs.map fun x:Nat=>.i .u32 (x:Int))) w:=by
 refine⟨fun k b a e1 e2=>?_,fun k b a k' b' a' e1 e2 e3=>?_,fun k a e=>?_,fun k a e=>?_,fun k hk=>?_⟩
 ·by_cases hk:k=0
  ·subst hk
   have e2:l 0=some a:=e2
   rw[h0] at e2
   cases e1;cases e2
   have H:=S.holds 0 t a0 ht h0
   refine⟨H.lt,H.len,fun i hi=>?_,H.scal,fun q=>(by cases q),fun q=>⟨rfl,(H.whole q).2⟩⟩
   obtain⟨v,c1,c2⟩:=H.cell i hi
   refine⟨v,c1,?_⟩
   have hi':i<powT.length:=by rw[←hv];exact hi
   have e:t.v[i]=powT[i]:=by simp only[hv]
   simp only at hi ⊢
   rw[e] at c2 ⊢
   exact zmz hi' c2
  ·by_cases hkn:k=5
   ·subst hkn
    cases e1;cases e2
    obtain⟨q1,q0,q2,q3⟩:=hb
    refine⟨q1,by simpa using q2,fun i hi=>?_,fun i hi=>?_,fun q=>(by cases q),fun q=>?_⟩
    ·simp only[List.length_map] at hi
     refine⟨_,q3 i hi,?_⟩
     simp only[List.getElem_map]
     exact .i _ _
    ·simp only[List.getElem_map];rfl
    ·rw[q0] at q;cases q
   ·simp only[Hp.tw,if_neg hk,if_neg hkn] at e1;cases e1
 ·simp only[Hp.tw] at e1
  split at e1
  ·cases e1;cases e3
  ·split at e1
   ·cases e1;cases e3
   ·cases e1
 ·simp only[Loc.tw] at e
  split at e
  ·cases e;exact hb.1
  ·split at e
   ·exact S.lt k a e
   ·cases e
 ·left
  show k<6
  simp only[Loc.tw] at e
  split at e
  ·omega
  ·split at e
   ·omega
   ·cases e
 ·have hk':6≤k:=hk
  simp only[Hp.tw]
  rw[if_neg (by omega),if_neg (by omega)]
theorem zsl {F:Nat} {l:Loc} {h:Hp} {w:World} (S:Sim key F l h w) {t:Blk} {a0:At} (ht:h.m 0=some t) (hv:t.v=powT) (h0:l 0=some a0) {neg:Bool} {wv:AV} {val:Value} {tx:List UInt8}
  (e:txtA [.ag [.b neg,wv]] h=some tx) (r:Rel key l wv val):∃cs a1 wv' v,(∀F',Sim key F' (Loc.tw l a1) (Hp.tw t cs) w)∧Rel key (Loc.tw l a1) wv' val∧wlen v≤512∧(neg=true→v≠0) ∧
   tx=decI (if neg then-(v:Int) else (v:Int))∧V (Hp.tw t cs) (fun _=>False) [] (D v) wv':=by
 have H0:=S.holds 0 t a0 ht h0
 have small:∀{wv':AV},Rel key (Loc.tw l ⟨a0.b,0,0,false⟩) wv' val→txtA [.ag [.b neg,wv']] (Hp.tw t [])=some tx→(∀m off len cap z,wv'=.sl m off len cap z→False) →
   ∃cs a1 wv' v,(∀F',Sim key F' (Loc.tw l a1) (Hp.tw t cs) w)∧Rel key (Loc.tw l a1) wv' val∧wlen v≤512∧(neg=true→v≠0) ∧
   tx=decI (if neg then-(v:Int) else (v:Int))∧V (Hp.tw t cs) (fun _=>False) [] (D v) wv':=fun {wv'} r1 e1 hs=>by
  obtain⟨v,v1,v2,v3,v4⟩:=zit e1 fun m off len cap z q=>(hs _ _ _ _ _ q).elim
  exact⟨[],⟨a0.b,0,0,false⟩,wv',v,fun F'=>znY (xs:=[]) S ht hv h0 ⟨H0.lt,rfl,Nat.le_refl _,fun i hi=>by simp at hi⟩,r1,v1,v2,v3,v4⟩
 cases r with
 | @sl n off len cap cap' z a ha q1 q2 q3 =>
   replace e:(if len=0 then wtx neg [] else if z=1 then ((h.rd n off len).bind wordsA).bind (wtx neg) else none)=some tx:=e
   split at e
   ·rename_i hl
    subst hl
    exact small (wv':=.e0) (.e0 _ _) e fun _ _ _ _ _ q=>by cases q
   ·rename_i hl
    split at e
    ·rename_i hz
     subst hz
     simp only[Option.bind_eq_some_iff] at e
     obtain⟨xs,⟨cs,e1,e2⟩,e3⟩:=e
     obtain⟨w1,w2⟩:=zeA e2
     unfold Hp.rd at e1
     split at e1
     ·rename_i b hb
      split at e1
      ·rename_i hle
       cases e1
       have hxl:xs.length=len:=by
        have:=congrArg List.length w1
        simp at this;omega
       have hg:∀i (hi:i<xs.length),b.v[off+i]?=some (.i .u32 ((xs[i]:Nat):Int)):=fun i hi=>by
        have:((b.v.drop off).take len)[i]?=some (.i .u32 ((xs[i]:Nat):Int)):=by
         rw[w1,List.getElem?_map,List.getElem?_eq_getElem hi];rfl
        rw[List.getElem?_take,if_pos (by omega),List.getElem?_drop] at this
        exact this
       have H:=S.holds n b a hb ha
       let a1:At:=⟨a.b,a.o+off,a.n-off,false⟩
       have hsim:∀F',Sim key F' (Loc.tw l a1) (Hp.tw t (xs.map fun x:Nat=>.i .u32 (x:Int))) w:=fun F'=>znY S ht hv h0 ⟨H.lt,rfl,by show xs.length≤a.n-off;have:=H.len;omega,fun i hi=>by
        have h1:=hg i hi
        have hoi:off+i<b.v.length:=by omega
        obtain⟨v,c1,c2⟩:=H.cell (off+i) hoi
        rw[List.getElem?_eq_getElem hoi] at h1
        cases h1':b.v[off+i] with
        | i k m =>
         rw[h1'] at h1 c2
         cases h1
         cases c2
         show w.cell? ⟨a.b,a.o+off+i,none⟩=_
         rw[Nat.add_assoc];exact c1
        | _=>rw[h1'] at h1;cases h1⟩
       have hrel:Rel key (Loc.tw l a1) (.sl 5 0 len cap 1) (.slice (some ⟨a.b,a.o+off,none⟩) len cap'):=by
        have hl:Loc.tw l a1 5=some a1:=rfl
        have:=Rel.sl (key:=key) (off:=0) (len:=len) (cap:=cap) (cap':=cap') (z:=1) hl q1 (by show 0+cap'*1≤a.n-off;omega) q3
        exact this
       have htx:txtA [.ag [.b neg,.sl 5 0 len cap 1]] (Hp.tw t (xs.map fun x:Nat=>.i .u32 (x:Int)))=some tx:=by
        have hrd:(Hp.tw t (xs.map fun x:Nat=>AV.i .u32 (x:Int))).rd 5 0 len=some (xs.map fun x:Nat=>.i .u32 (x:Int)):=by
         simp only[Hp.rd,Hp.tw,if_neg (show (5:Nat)≠0 by decide),if_true]
         rw[if_pos (by simp;omega),List.drop_zero,List.take_of_length_le (by simp;omega)]
        show (if len=0 then wtx neg [] else if 1=1 then (((Hp.tw t (xs.map fun x:Nat=>AV.i .u32 (x:Int))).rd 5 0 len).bind wordsA).bind (wtx neg) else none)=_
        rw[if_neg hl,if_pos rfl,hrd,Option.bind_some,←w1,e2,Option.bind_some]
        exact e3
       obtain⟨v,v1,v2,v3,v4⟩:=zit htx fun m off' len' cap'' z q=>by cases q;exact q3
       exact⟨_,a1,_,v,hsim,hrel,v1,v2,v3,v4⟩
      ·cases e1
     ·cases e1
    ·cases e
 | sn=>exact small .sn e fun _ _ _ _ _ q=>by cases q
 | se b=>exact small (.se b) e fun _ _ _ _ _ q=>by cases q
 | e0 b c=>exact small (.e0 b c) e fun _ _ _ _ _ q=>by cases q
 | _=>simp[txtA] at e
end Go.Eng
namespace Go.Eng
open Go.RowKit
variable {key:Nat→Option FuncId} {P:Program} {T:Tab}
theorem zim {fn:Func} (h:fn.results = #[.tmp 2]) (tmps:Array Value) (w:World):(results fn tmps).run P w=.ok (tmps.getD 2 undef) w:=by
 unfold results
 rw[h,Array.mapM_eq_mapM_toList]
 rfl
theorem zr8 {l:Loc} {xs:List UInt8} {v:Value} (h:Rel key l (.s xs) v):v=.string ⟨xs.toArray⟩:=by
 generalize hx:AV.s xs=x at h
 cases h<;>cases hx
 rfl
theorem zqy (v:Nat):dec v≠[]:=by
 unfold dec
 split
 ·simp
 ·rename_i h
  intro q
  have h1:=congrArg List.length q
  rw[zbO] at h1
  have:=zbN v
  simp at h1
  rw[h1] at this
  simp at this;omega
theorem zi2 {args:List AV} {h:Hp} {l:List UInt8} (e:txtA args h=some l):∃neg w,args=[.ag [.b neg,w]]:=by
 unfold txtA at e
 split at e
 ·exact⟨_,_,rfl⟩
 ·exact⟨_,_,rfl⟩
 ·exact⟨_,_,rfl⟩
 ·exact⟨_,_,rfl⟩
 ·cases e
theorem zpR (K1:ProgOk P key T E1.prog) (KE:PEnvOk E1) (hT0:∀g n,T.gkey g=some n→n≤4) {G:Nat} (hG:T.gkey G=some 0) {fn:Func} {g:Nat} (hfn:P.funcs[g]?=some fn) {pre tail:Code} (hbody:fn.body=some (graft pre tail)) (hpre:cCode P T pre=strA)
  (hnt:fn.ntmps=58) (hres:fn.results = #[.tmp 2])
  (htail:∀(neg:Bool) (ps:List (List UInt8)),ps.reverse.flatten≠[]→ps.length≤20000→ps.flatten.length≤1000000 →
   ∀(b1 o1 b3 o3 c:Nat) (w:World),w.cell? ⟨b1,o1,none⟩=some (.bool neg)→b1<w.heap.size→b3<w.heap.size →
   (∀j x,ps[j]?=some x→w.cell? ⟨b3,o3+j,none⟩=some (.string ⟨x.toArray⟩)) →
   ∀(tm:Array Value),tm.size=58→tm[1]?=some (.pointer (some ⟨b1,o1,none⟩))→tm[3]?=some (.slice (some ⟨b3,o3,none⟩) ps.length c) →
   tail.wp P (fun e a w'=>e=.ret∧a.defers=[]∧a.tmps.getD 2 undef=.string ⟨((if neg then [45] else [])++ps.reverse.flatten).toArray⟩∧Below w.heap.size w w') ⟨tm,[]⟩ w)
  {F:Nat} {args:List AV} {vs:Array Value} {h h':Hp} {v:AV} {l:Loc} {w:World} (e:orcA 33 args h=some (v,h')) (TO:TabOk key T l)
  (RL:RelL key l args vs.toList) (S:Sim key F l h w):Calls P g vs w fun e w'=>∃l' val,e=.returned val∧Ext l h w l' h' w'∧Sim key F l' h' w'∧Rel key l' v val:=by
 unfold orcA at e
 rw[if_pos rfl] at e
 split at e
 case isFalse=>cases e
 rename_i ht
 simp only[Option.map_eq_some_iff,Prod.mk.injEq] at e
 obtain⟨tx,e1,rfl,rfl⟩:=e
 obtain⟨t,t1,t2⟩:=ht
 obtain⟨m0,hl0⟩:=TO.g G 0 hG
 obtain⟨neg,wv,rfl⟩:=zi2 e1
 have hvs:∃val,vs = #[.agg #[.bool neg,val]]∧Rel key l wv val:=by
  have hlen:=RL.1
  rcases vs with⟨vs⟩
  match vs,hlen with
  | [x],_ =>
   have r:=RL.2 0 (by simp) (by simp)
   simp only[List.getElem_cons_zero] at r
   cases r with
   | @ag _ ws hn hv =>
    rcases ws with⟨ws⟩
    match ws,hn with
    | [a,b],_ =>
     have r1:=hv 0 (by simp) (by simp)
     have r2:=hv 1 (by simp) (by simp)
     simp only[List.getElem_cons_zero,List.getElem_toArray,List.getElem_cons_succ] at r1 r2
     cases r1
     exact⟨b,rfl,r2⟩
 obtain⟨val,rfl,rv⟩:=hvs
 obtain⟨cs,a1,wv',z,hsim,rv',hz,hneg,htx,hV⟩:=zsl S t1 t2 hl0 e1 rv
 generalize hh0:Hp.tw t cs=h0 at hsim hV
 generalize hll:Loc.tw l a1=l0 at hsim rv'
 have hw0:h0.wf:=(hsim 0).wf
 have hT:HasT h0:=⟨{ t with rw:=false },by rw[←hh0];rfl,t2⟩
 have norw:∀k b,h0.m k=some b→b.rw=false:=fun k b q=>by
  rw[←hh0] at q
  simp only[Hp.tw] at q
  split at q
  ·cases q;rfl
  ·split at q
   ·cases q;rfl
   ·cases q
 have TO0:TabOk key T l0:=⟨TO.f,fun g' n' q=>by
  have hn:=hT0 g' n' q
  obtain⟨m,hm⟩:=TO.g g' n' q
  refine⟨m,?_⟩
  rw[←hll]
  simp only[Loc.tw]
  rw[if_neg (by omega),if_pos hn]
  exact hm⟩
 have RA:RelL key l0 [.ag [.b neg,wv']] [.agg #[.bool neg,val]]:=.cons ((RelL.cons (.b neg) (.cons rv' .nil)).ag) .nil
 have RF:RelF key l0 ([.ag [.b neg,wv']]++List.replicate 57 undefA) (#[.agg #[.bool neg,val]]++Array.replicate (fn.ntmps-(#[Value.agg #[.bool neg,val]]:Array Value).size) undef):=by
  rw[hnt]
  unfold RelF
  rw[Array.toList_append,Array.toList_replicate]
  exact RA.append ⟨by simp,fun i q1 q2=>by rw[List.getElem_replicate,List.getElem_replicate];exact zbG⟩
 have hbel:∀{l1 h1 w1},Ext l0 h0 w l1 h1 w1→Below w.heap.size w w1:=fun {l1 h1 w1} E =>
  ⟨E.os,E.tape,E.output,E.size,fun b hb=>E.frame b hb fun m blk a q1 q2=>by rw[norw m blk q1] at q2;cases q2⟩
 have hregs:(cCode P T pre).regsOk=true:=by rw[hpre];decide
 have goodCall:=zdV K1
 have final:Calls P g #[.agg #[.bool neg,val]] w fun e w'=>e=.returned (.string ⟨tx.toArray⟩)∧Below w.heap.size w w':=by
  refine calls_of_wp hfn hbody ?_
  by_cases hz0:z=0
  ·subst hz0
   have hnf:neg=false:=by
    cases neg
    ·rfl
    ·exact(hneg rfl rfl).elim
   subst hnf
   have htx':tx=[48]:=by rw[htx];rfl
   obtain⟨lf,fr',h1,ev,f2⟩:=zpO KE hw0 hT hV
   refine zhD (goodCall lf) K1.call (zcs K1 lf) K1.mixed lf tail pre hregs TO0 RF (hsim h1.next) (Nat.le_refl _) (by rw[hpre];exact ev) fun l' a' w' E R' S' hd=>?_
   have r2:=RelF.get R' 2
   rw[f2] at r2
   refine⟨hd,_,zim hres _ _,?_,hbel E⟩
   rw[htx']
   generalize a'.tmps.getD 2 undef=x at r2
   rw[zr8 r2]
  ·obtain⟨lf,fr',h1,p0,m,len,cap,ps,ev,hlen,f1,⟨b0,hb0,hb0v⟩,f3,⟨b1,hb1,hb1v⟩,rfl,g1,g2,g3⟩:=zpP KE (neg:=neg) hw0 hT hz0 hz hV
   refine zhD (goodCall lf) K1.call (zcs K1 lf) K1.mixed lf tail pre hregs TO0 RF (hsim h1.next) (Nat.le_refl _) (by rw[hpre];exact ev) fun l' a' w' E R' S' hd=>?_
   have r1:=RelF.get R' 1
   have r3:=RelF.get R' 3
   rw[f1] at r1
   rw[f3] at r3
   have hsz:a'.tmps.size=58:=by
    have:=R'.1
    simp at this;omega
   have gd:∀i,i<58→a'.tmps[i]?=some (a'.tmps.getD i undef):=fun i hi=>by
    rw[Array.getD_eq_getD_getElem?,Array.getElem?_eq_getElem (by omega)];rfl
   have gd1:=gd 1 (by omega)
   have gd3:=gd 3 (by omega)
   generalize a'.tmps.getD 1 undef=x1 at r1 gd1
   generalize a'.tmps.getD 3 undef=x3 at r3 gd3
   cases r1 with
   | @p _ _ a1' q1 =>
    cases r3 with
    | @sl _ _ _ _ cap' _ a3 q3 s1 s2 s3 =>
     have H0:=S'.holds _ _ _ hb0 q1
     have H3:=S'.holds _ _ _ hb1 q3
     have hneg':w'.cell? ⟨a1'.b,a1'.o+0,none⟩=some (.bool neg):=by
      have hl:0<b0.v.length:=by
       rcases Nat.eq_zero_or_pos b0.v.length with q|q
       ·rw[List.getElem?_eq_none (by omega)] at hb0v;cases hb0v
       ·exact q
      obtain⟨y,c1,c2⟩:=H0.cell 0 hl
      rw[List.getElem?_eq_getElem hl] at hb0v
      rw[Option.some.inj hb0v] at c2
      cases c2;exact c1
     have hcells:∀j x,ps[j]?=some x→w'.cell? ⟨a3.b,a3.o+0+j,none⟩=some (.string ⟨x.toArray⟩):=fun j x hx=>by
      have hj:j<ps.length:=by
       by_cases q:j<ps.length
       ·exact q
       ·rw[List.getElem?_eq_none (by omega)] at hx;cases hx
      have hj':j<b1.v.length:=by rw[hb1v];simpa using hj
      obtain⟨y,c1,c2⟩:=H3.cell j hj'
      have e:b1.v[j]=.s x:=by
       simp only[hb1v,List.getElem_map]
       rw[List.getElem?_eq_getElem hj] at hx
       rw[Option.some.inj hx]
      rw[e] at c2
      have hy:y=.string ⟨x.toArray⟩:=by
       generalize hs:AV.s x=ax at c2
       cases c2<;>cases hs
       rfl
      rw[Nat.add_zero,←hy];exact c1
     have hne:ps.reverse.flatten≠[]:=by rw[g3];exact zqy z
     have htot:ps.flatten.length≤1000000:=by
      have h1:ps.flatten.length=ps.reverse.flatten.length:=by
       simp only[List.length_flatten,List.map_reverse,List.sum_reverse]
      rw[h1,g3]
      have h2:=znf hz
      unfold dec
      rw[if_neg hz0,zbO];omega
     have tl:=htail neg ps hne g2 htot a1'.b (a1'.o+0) a3.b (a3.o+0) cap' w' hneg' H0.lt H3.lt hcells a'.tmps hsz gd1 gd3
     have ha:a'=⟨a'.tmps,[]⟩:=by
      rcases a' with⟨tm,df⟩
      simp only at hd
      rw[hd]
     show tail.wp P (bodyPost P fn _) a' w'
     rw[ha]
     refine wp_mono tl ?_
     rintro e a2 w2 ⟨rfl,d2,v2,bl⟩
     refine⟨d2,_,zim hres _ _,?_,(hbel E).trans ⟨bl.os,bl.tape,bl.output,bl.size,fun k hk=>bl.block k (Nat.lt_of_lt_of_le hk E.size)⟩⟩
     rw[v2,g3,htx]
     unfold decI
     cases neg
     ·simp only[Bool.false_eq_true,if_false]
      rw[if_neg (by omega)]
      simp
     ·simp only[if_true]
      rw[if_pos (by omega)]
      simp
 exact zbV S final (zfJ tx)
end Go.Eng
namespace Go.Eng
theorem zig {f:Nat} {d:XD} (h:prog f=some d):some d∈progL:=by
 unfold prog at h
 cases h1:progL[f]? with
 | none=>rw[h1] at h;cases h
 | some x =>
  rw[h1] at h
  cases x with
  | none=>cases h
  | some y=>cases h;exact List.mem_of_getElem? h1
def dOkD:Option XD→Bool
 | some (.fn xf)=>xf.body.dOk xf.n
 | _=>true
theorem zji:progL.all dOkD=true:=by kernel_rfl
def isO:Option XD→Bool
 | some (.orc _)=>true
 | _=>false
theorem zeU {f:Nat} {o:List AV→Hp→Option (AV×Hp)} (h:prog f=some (.orc o)):o=orcA f∧(f=33∨f=50∨f=51∨f=130∨f=131∨f=222):=by
 have hf:isO (prog f)=true:=by rw[h];rfl
 have all:(List.range progL.length).all (fun f => !isO (prog f) || (f==33 || f==50 || f==51 || f==130 || f==131 || f==222))=true:=by kernel_rfl
 have hlt:f<progL.length:=by
  unfold prog at h
  by_cases q:f<progL.length
  ·exact q
  ·rw[List.getElem?_eq_none (by omega)] at h;cases h
 rw[List.all_eq_true] at all
 have:=all f (List.mem_range.2 hlt)
 rw[hf] at this
 simp only[Bool.not_true,Bool.false_or,Bool.or_eq_true,beq_iff_eq] at this
 have hc:f=33∨f=50∨f=51∨f=130∨f=131∨f=222:=by omega
 refine⟨?_,hc⟩
 rcases hc with rfl|rfl|rfl|rfl|rfl|rfl
 ·first|(have e:prog 33=some (.orc (orcA 33)):=rfl;rw[e] at h;cases h;rfl)|(have h':(none:Option XD)=some (.orc o):=h;cases h')
 ·first|(have e:prog 50=some (.orc (orcA 50)):=rfl;rw[e] at h;cases h;rfl)|(have h':(none:Option XD)=some (.orc o):=h;cases h')
 ·first|(have e:prog 51=some (.orc (orcA 51)):=rfl;rw[e] at h;cases h;rfl)|(have h':(none:Option XD)=some (.orc o):=h;cases h')
 ·first|(have e:prog 130=some (.orc (orcA 130)):=rfl;rw[e] at h;cases h;rfl)|(have h':(none:Option XD)=some (.orc o):=h;cases h')
 ·first|(have e:prog 131=some (.orc (orcA 131)):=rfl;rw[e] at h;cases h;rfl)|(have h':(none:Option XD)=some (.orc o):=h;cases h')
 ·first|(have e:prog 222=some (.orc (orcA 222)):=rfl;rw[e] at h;cases h;rfl)|(have h':(none:Option XD)=some (.orc o):=h;cases h')
theorem zdt {f:Nat} {d:XD} (h:E1.prog f=some d):prog f=some d∧f≠33:=by
 have h2:(if f=33 then none else prog f)=some d:=h
 split at h2
 ·cases h2
 ·rename_i hf;exact⟨h2,hf⟩
theorem zwB {D:Nat→Prop} {hp:Hp} {a:AV} (hv:V hp D [] (.lst []) a):a=.sn∨a=.se∨a=.e0∨∃m off cap z,a=.sl m off 0 cap z:=by
 generalize hl:([]:List PV)=l at hv
 generalize hr:(PV.lst l)=v at hv
 cases hv with
 | lst cs e d hs hz0 hz hcap hc hv=>cases hr;subst hl;exact .inr (.inr (.inr ⟨_,_,_,_,rfl⟩))
 | lst0 m off cap z=>exact .inr (.inr (.inr ⟨_,_,_,_,rfl⟩))
 | lsn=>exact .inl rfl
 | lse=>exact .inr (.inl rfl)
 | le0=>exact .inr (.inr (.inl rfl))
 | junk _ hv _=>cases hr
 | _=>cases hr
theorem zlH {pr:Nat→Option XD} (hpr:pr 211=prog 211) {xf:XF} (h:prog 211=some (.fn xf)) {D:Nat→Prop} {hp:Hp} {a:AV} (hv:V hp D [] (.lst []) a) (k:Nat):∃b,evF pr (k+1) 211 [a] hp=some (b,hp)∧V hp D [] (.lst []) b:=by
 simp only[evF,hpr]
 rcases zwB hv with rfl|rfl|rfl|⟨m,off,cap,z,rfl⟩
 all_goals first|exact⟨.sn,rfl,.lsn⟩|exact⟨.se,rfl,.lse⟩|(have h':(none:Option XD)=some (.fn xf):=h;cases h')
theorem znC {pr:Nat→Option XD} (hpr:∀f≠33,pr f=prog f) (f:Nat) (xf:XF) (h:pr f=some (.fn xf)) (D:Nat→Prop) (hp:Hp) (args:List PV) (as_:List AV) (v:PV) (e:ovrP f args=some v) (hv:VL hp D [] args as_) (k:Nat):∃a,evF pr (k+1) f as_ hp=some (a,hp)∧V hp D [] v a:=by
 unfold ovrP at e
 split at e
 ·rename_i hf
  subst hf
  split at e
  ·cases e
   obtain⟨hl,hv⟩:=hv
   match as_,hl,hv with
   | [a],_,hv=>exact zlH (hpr 211 (by decide)) ((hpr 211 (by decide)) ▸ h) (hv 0 (by simp) (by simp)) k
  ·cases e
 ·cases e
theorem KE0:PEnvOk E0 where
 ovr:=fun f xf h D hp args asq v e hv k=>znC (fun _ _=>rfl) f xf h D hp args asq v e hv k
 fn:=fun f xf h=>by
  have:=zji
  rw[List.all_eq_true] at this
  exact this _ (zig (show prog f=_ from h))
 orc:=fun f o h Db r M hp args asv v M' e I hv=>by
  obtain⟨rfl,_⟩:=zeU (show prog f=_ from h)
  exact zrt rfl e I hv
theorem KE1:PEnvOk E1 where
 ovr:=fun f xf h D hp args asq v e hv k=>znC (fun f hf=>if_neg hf) f xf h D hp args asq v e hv k
 fn:=fun f xf h=>by
  have:=zji
  rw[List.all_eq_true] at this
  exact this _ (zig (zdt h).1)
 orc:=fun f o h Db r M hp args asv v M' e I hv=>by
  obtain⟨rfl,_⟩:=zeU (zdt h).1
  exact zrt rfl e I hv
variable (P:Program) (T:Tab)
def AllOk:List (Option XD)→List (Option FuncId)→Prop
 | some (.fn xf)::ps,some g::ks=>(∃fn,P.funcs[g]?=some fn∧cFunc P T fn=some xf∧xf.body.regsOk=true)∧AllOk ps ks
 | _::ps,_::ks=>AllOk ps ks
 | _,_=>True
def AllCal:List (Option FuncId)→Prop
 | some g::ks=>(∃fn,P.funcs[g]?=some fn∧fn.body.isNone=false∧(fn.name == "runtime.NumGoroutine")=false)∧AllCal ks
 | none::ks=>AllCal ks
 | []=>True
variable {P T}
theorem ze7:∀{ps:List (Option XD)} {ks:List (Option FuncId)},AllOk P T ps ks→∀{f:Nat} {xf:XF} {g:FuncId},(ps[f]?).join=some (.fn xf)→(ks[f]?).join=some g→∃fn,P.funcs[g]?=some fn∧cFunc P T fn=some xf∧xf.body.regsOk=true
 | [],_,_,f,xf,g,h1,h2=>by simp at h1
 | p::ps,[],_,f,xf,g,h1,h2=>by simp at h2
 | p::ps,k::ks,h,0,xf,g,h1,h2=>by
  simp only[List.getElem?_cons_zero,Option.join_some] at h1 h2
  subst h1;subst h2
  exact h.1
 | p::ps,k::ks,h,f+1,xf,g,h1,h2=>by
  simp only[List.getElem?_cons_succ] at h1 h2
  refine ze7 (ps:=ps) (ks:=ks) ?_ h1 h2
  match p,k,h with
  | some (.fn xf),some g,h=>exact h.2
  | some (.fn xf),none,h=>exact h
  | some (.orc _),_,h=>exact h
  | none,_,h=>exact h
theorem zgw:∀{ks:List (Option FuncId)},AllCal P ks→∀{f:Nat} {g:FuncId},(ks[f]?).join=some g→∃fn,P.funcs[g]?=some fn∧fn.body.isNone=false∧(fn.name == "runtime.NumGoroutine")=false
 | [],_,f,g,h=>by simp at h
 | k::ks,h,0,g,h1=>by
  simp only[List.getElem?_cons_zero,Option.join_some] at h1
  subst h1
  exact h.1
 | k::ks,h,f+1,g,h1=>by
  simp only[List.getElem?_cons_succ] at h1
  refine zgw (ks:=ks) ?_ h1
  match k,h with
  | some g,h=>exact h.2
  | none,h=>exact h
theorem zhM {f:Nat} {args:List AV} {h h':Hp} {v:AV} (e:orcA f args h=some (v,h')):HpOk h h':=by
 unfold orcA at e
 split at e
 ·split at e
  ·simp only[Option.map_eq_some_iff,Prod.mk.injEq] at e
   obtain⟨_,_,_,rfl⟩:=e
   exact .refl h
  ·cases e
 ·split at e
  ·cases e
  ·simp only[Option.map_eq_some_iff,Prod.mk.injEq] at e
   obtain⟨_,_,_,rfl⟩:=e
   exact .refl h
theorem zpB {keyL:List (Option FuncId)} {ρ:Go.Shelf.Ren} {G:Nat} (mixed:P.follows .mixedOrders=true) (hc:AllCal P keyL) (ha:AllOk P T progL keyL) (L:LibOk P ρ (fun f=>(keyL[f]?).join) T G) :
  ProgOk P (fun f=>(keyL[f]?).join) T E1.prog where
 mixed:=mixed
 call:=fun f g h=>zgw hc h
 fn:=fun f xf g h1 h2=>ze7 ha (zdt h1).1 h2
 good:=fun f o args h v h' h1 e=>by
  obtain⟨rfl,_⟩:=zeU (zdt h1).1
  exact zhM e
 orc:=fun f o g h1 hk F args vs h h' v l w e hF TO RL S=>by
  obtain⟨rfl,_⟩:=zeU (zdt h1).1
  exact zjU L hk (zdt h1).2 e TO RL S
theorem zpA {keyL:List (Option FuncId)} {ρ:Go.Shelf.Ren} {G:Nat} (mixed:P.follows .mixedOrders=true) (hc:AllCal P keyL) (ha:AllOk P T progL keyL) (L:LibOk P ρ (fun f=>(keyL[f]?).join) T G)
  (str:∀{g:Nat},(keyL[33]?).join=some g→∀{F:Nat} {args:List AV} {vs:Array Value} {h h':Hp} {v:AV} {l:Loc} {w:World},orcA 33 args h=some (v,h')→TabOk (fun f=>(keyL[f]?).join) T l →
   RelL (fun f=>(keyL[f]?).join) l args vs.toList→Sim (fun f=>(keyL[f]?).join) F l h w→Calls P g vs w fun e w'=>∃l' val,e=.returned val∧Ext l h w l' h' w'∧Sim (fun f=>(keyL[f]?).join) F l' h' w'∧Rel (fun f=>(keyL[f]?).join) l' v val) :
  ProgOk P (fun f=>(keyL[f]?).join) T E0.prog where
 mixed:=mixed
 call:=fun f g h=>zgw hc h
 fn:=fun f xf g h1 h2=>ze7 ha (show prog f=_ from h1) h2
 good:=fun f o args h v h' h1 e=>by
  obtain⟨rfl,_⟩:=zeU (show prog f=_ from h1)
  exact zhM e
 orc:=fun f o g h1 hk F args vs h h' v l w e hF TO RL S=>by
  obtain⟨rfl,hf⟩:=zeU (show prog f=_ from h1)
  by_cases h33:f=33
  ·subst h33
   exact str hk e TO RL S
  ·exact zjU L hk h33 e TO RL S
end Go.Eng
namespace Go.Proofs
open Go.Eng
def Tryz.keyL:List (Option FuncId):=[none,none,none,none,none,none,some 68,none,some 135,some 136,none,some 43,none,some 40,none,none,some 39,some 35,some 109,some 92,some 172,some 111,some 110,some 150,some 49,none,none,none,none,some 94,some 95,some 90,none,some 91,some 84,some 151,some 107,some 149,some 154,some 166,some 105,some 153,some 152,some 98,some 74,none,none,none,some 143,some 104,some 144,some 145,none,none,none,some 179,some 180,some 181,some 165,some 106,some 183,some 184,some 182,some 133,some 97,some 77,none,some 76,none,none,none,none,none,none,none,none,some 203,some 195,some 204,some 205,some 137,none,none,none,none,some 185,none,none,none,none,none,none,none,none,none,none,none,none,none,none,none,none,none,none,none,none,none,some 48,none,none,some 47,none,none,none,some 72,none,none,none,some 55,some 71,some 114,some 69,none,some 113,some 112,some 129,none,some 108,some 52,some 101,some 102,some 103,some 115,some 130,some 131,some 132,some 167,some 155,none,none,none,none,none,none,none,none,none,some 171,some 196,some 197,none,none,none,none,none,none,none,none,none,some 212,none,none,none,none,none,none,none,none,none,none,none,none,none,none,none,none,none,none,none,some 93,some 27,none,some 70,none,none,some 128,none,some 41,none,none,none,none,none,none,none,none,some 66,none,none,none,some 50,none,none,none,none,none,none,none,none,none,none,none,none,none,none,none,none,none,none,none,none,none,none,none,none,none,none,none,none,none,none,none,none,none,none,none,none,none,none,none,none,none,none,none,none,none,none,none,none,none,none,none,none,none,none,none,none,none,none,none,some 25,none,none,none,none,none,none,none,none,none,none,none,none,none,none,none,none,none,some 15,none,some 23,some 24,none,none,none,none,none,none,none,some 44,some 45,some 46,some 73,some 96,some 99,some 100,some 255,some 256,some 257,some 258,none,some 6,some 57,some 12,some 36,some 26,some 116,some 87,some 37,some 38,some 75,some 86,some 142,some 140,some 85,some 88,some 89,some 134,some 138,some 139,some 141,none,none,none,none,none,none,some 4,none,none,some 5,some 13,none,none,none,none,none,none,none,none,none,some 61,some 16,none,some 14,some 17,some 18,some 19,some 20,some 21,some 22,none,none,none,none,none,none,some 125,some 124,none,none,some 42,some 51,some 53,some 54,some 56,some 58,some 59,some 60,some 62,some 63,some 64,some 65,some 67,none,none,some 117,some 118,some 119,some 120,some 121,some 122,some 123,some 126,some 127,some 168,some 169,some 170,none,none,none,none,none,none,none,none,none,none,none,none,none,none,none,none,none,none,none,none,none,none,none,none,none,none,none,none,none,none,none,none,none,none,none,none,none,none,none,none,none,none,none,none,none,none,none,none,none,none,none,none,none,none,none,none,none,none,none,none,none,none,none,none,none,none,none,none,none,none,none,none,none,none,none,none,none,none,none,none,none,none,none,none,none,none,none,none,none,none,none,none,none,none,none,none,none,none,none,none,none,none,none,none,none,none,none,none,none,none,none,none,none,none,none,none,none,none,none,none,none,none,none,none,none,none,none,none,none,none,none,none]
def Tryz.fkeyL:List (Option Nat):=[none,none,none,none,some 327,some 330,some 301,none,none,none,none,none,some 303,some 331,some 344,some 278,some 342,some 345,some 346,some 347,some 348,some 349,some 350,some 280,some 281,some 260,some 305,some 180,none,none,none,none,none,none,none,some 17,some 304,some 308,some 309,some 16,some 13,some 187,some 361,some 11,some 289,some 290,some 291,some 110,some 107,some 24,some 200,some 362,some 128,some 363,some 364,some 118,some 365,some 302,some 366,some 367,some 368,some 341,some 369,some 370,some 371,some 372,some 196,some 373,some 6,some 121,some 182,some 119,some 114,some 292,some 44,some 310,some 67,some 65,none,none,none,none,none,none,some 34,some 314,some 311,some 307,some 315,some 316,some 31,some 33,some 19,some 179,some 29,some 30,some 293,some 64,some 43,some 294,some 295,some 129,some 130,some 131,some 49,some 40,some 59,some 36,some 127,some 18,some 22,some 21,some 124,some 123,some 120,some 132,some 306,some 376,some 377,some 378,some 379,some 380,some 381,some 382,some 358,some 357,some 383,some 384,some 185,some 125,some 133,some 134,some 135,some 63,some 317,some 8,some 9,some 80,some 318,some 319,some 313,some 320,some 312,some 48,some 50,some 51,none,none,none,some 37,some 23,some 35,some 42,some 41,some 38,some 137,none,none,none,none,none,none,none,none,none,some 58,some 39,some 136,some 385,some 386,some 387,some 147,some 20,none,none,none,none,none,none,some 55,some 56,some 57,some 62,some 60,some 61,some 85,none,none,none,none,none,none,none,none,none,some 77,some 148,some 149,none,none,none,none,none,some 76,some 78,some 79,none,none,none,none,none,none,some 159,none,none,none,none,none,none,none,none,none,none,none,none,none,none,none,none,none,none,none,none,none,none,none,none,none,none,none,none,none,none,none,none,none,none,none,none,none,none,none,none,none,none,some 296,some 297,some 298,some 299]
def Tryz.T:Tab:={ fkey:=fun f=>(Tryz.fkeyL[f]?).join,gkey:=fun g=>if g=6 then some 0 else if g=0 then some 3 else if g=1 then some 4 else none }
abbrev OkC (p:Program) (n:Nat):Prop:=∃fn,p.funcs[n]?=some fn∧fn.body.isNone=false∧(fn.name == "runtime.NumGoroutine")=false
abbrev OkF (p:Program) (T:Tab) (n:Nat) (x:XF):Prop:=∃fn,p.funcs[n]?=some fn∧cFunc p T fn=some x∧x.body.regsOk=true
theorem Tryz.okc6:OkC Tryz.prog 68:=⟨_,Tryz.func68,by kernel_rfl,by kernel_rfl⟩
theorem Tryz.okc8:OkC Tryz.prog 135:=⟨_,Tryz.func135,by kernel_rfl,by kernel_rfl⟩
theorem Tryz.okc9:OkC Tryz.prog 136:=⟨_,Tryz.func136,by kernel_rfl,by kernel_rfl⟩
theorem Tryz.okc11:OkC Tryz.prog 43:=⟨_,Tryz.func43,by kernel_rfl,by kernel_rfl⟩
theorem Tryz.okc13:OkC Tryz.prog 40:=⟨_,Tryz.func40,by kernel_rfl,by kernel_rfl⟩
theorem Tryz.okc16:OkC Tryz.prog 39:=⟨_,Tryz.func39,by kernel_rfl,by kernel_rfl⟩
theorem Tryz.okc17:OkC Tryz.prog 35:=⟨_,Tryz.func35,by kernel_rfl,by kernel_rfl⟩
theorem Tryz.okc18:OkC Tryz.prog 109:=⟨_,Tryz.func109,by kernel_rfl,by kernel_rfl⟩
theorem Tryz.okc19:OkC Tryz.prog 92:=⟨_,Tryz.func92,by kernel_rfl,by kernel_rfl⟩
theorem Tryz.okc20:OkC Tryz.prog 172:=⟨_,Tryz.func172,by kernel_rfl,by kernel_rfl⟩
theorem Tryz.okc21:OkC Tryz.prog 111:=⟨_,Tryz.func111,by kernel_rfl,by kernel_rfl⟩
theorem Tryz.okc22:OkC Tryz.prog 110:=⟨_,Tryz.func110,by kernel_rfl,by kernel_rfl⟩
theorem Tryz.okc23:OkC Tryz.prog 150:=⟨_,Tryz.func150,by kernel_rfl,by kernel_rfl⟩
theorem Tryz.okc24:OkC Tryz.prog 49:=⟨_,Tryz.func49,by kernel_rfl,by kernel_rfl⟩
theorem Tryz.okc29:OkC Tryz.prog 94:=⟨_,Tryz.func94,by kernel_rfl,by kernel_rfl⟩
theorem Tryz.okc30:OkC Tryz.prog 95:=⟨_,Tryz.func95,by kernel_rfl,by kernel_rfl⟩
theorem Tryz.okc31:OkC Tryz.prog 90:=⟨_,Tryz.func90,by kernel_rfl,by kernel_rfl⟩
theorem Tryz.okc33:OkC Tryz.prog 91:=⟨_,Tryz.func91,by kernel_rfl,by kernel_rfl⟩
theorem Tryz.okc34:OkC Tryz.prog 84:=⟨_,Tryz.func84,by kernel_rfl,by kernel_rfl⟩
theorem Tryz.okc35:OkC Tryz.prog 151:=⟨_,Tryz.func151,by kernel_rfl,by kernel_rfl⟩
theorem Tryz.okc36:OkC Tryz.prog 107:=⟨_,Tryz.func107,by kernel_rfl,by kernel_rfl⟩
theorem Tryz.okc37:OkC Tryz.prog 149:=⟨_,Tryz.func149,by kernel_rfl,by kernel_rfl⟩
theorem Tryz.okc38:OkC Tryz.prog 154:=⟨_,Tryz.func154,by kernel_rfl,by kernel_rfl⟩
theorem Tryz.okc39:OkC Tryz.prog 166:=⟨_,Tryz.func166,by kernel_rfl,by kernel_rfl⟩
theorem Tryz.okc40:OkC Tryz.prog 105:=⟨_,Tryz.func105,by kernel_rfl,by kernel_rfl⟩
theorem Tryz.okc41:OkC Tryz.prog 153:=⟨_,Tryz.func153,by kernel_rfl,by kernel_rfl⟩
theorem Tryz.okc42:OkC Tryz.prog 152:=⟨_,Tryz.func152,by kernel_rfl,by kernel_rfl⟩
theorem Tryz.okc43:OkC Tryz.prog 98:=⟨_,Tryz.func98,by kernel_rfl,by kernel_rfl⟩
theorem Tryz.okc44:OkC Tryz.prog 74:=⟨_,Tryz.func74,by kernel_rfl,by kernel_rfl⟩
theorem Tryz.okc48:OkC Tryz.prog 143:=⟨_,Tryz.func143,by kernel_rfl,by kernel_rfl⟩
theorem Tryz.okc49:OkC Tryz.prog 104:=⟨_,Tryz.func104,by kernel_rfl,by kernel_rfl⟩
theorem Tryz.okc50:OkC Tryz.prog 144:=⟨_,Tryz.func144,by kernel_rfl,by kernel_rfl⟩
theorem Tryz.okc51:OkC Tryz.prog 145:=⟨_,Tryz.func145,by kernel_rfl,by kernel_rfl⟩
theorem Tryz.okc55:OkC Tryz.prog 179:=⟨_,Tryz.func179,by kernel_rfl,by kernel_rfl⟩
theorem Tryz.okc56:OkC Tryz.prog 180:=⟨_,Tryz.func180,by kernel_rfl,by kernel_rfl⟩
theorem Tryz.okc57:OkC Tryz.prog 181:=⟨_,Tryz.func181,by kernel_rfl,by kernel_rfl⟩
theorem Tryz.okc58:OkC Tryz.prog 165:=⟨_,Tryz.func165,by kernel_rfl,by kernel_rfl⟩
theorem Tryz.okc59:OkC Tryz.prog 106:=⟨_,Tryz.func106,by kernel_rfl,by kernel_rfl⟩
theorem Tryz.okc60:OkC Tryz.prog 183:=⟨_,Tryz.func183,by kernel_rfl,by kernel_rfl⟩
theorem Tryz.okc61:OkC Tryz.prog 184:=⟨_,Tryz.func184,by kernel_rfl,by kernel_rfl⟩
theorem Tryz.okc62:OkC Tryz.prog 182:=⟨_,Tryz.func182,by kernel_rfl,by kernel_rfl⟩
theorem Tryz.okc63:OkC Tryz.prog 133:=⟨_,Tryz.func133,by kernel_rfl,by kernel_rfl⟩
theorem Tryz.okc64:OkC Tryz.prog 97:=⟨_,Tryz.func97,by kernel_rfl,by kernel_rfl⟩
theorem Tryz.okc65:OkC Tryz.prog 77:=⟨_,Tryz.func77,by kernel_rfl,by kernel_rfl⟩
theorem Tryz.okc67:OkC Tryz.prog 76:=⟨_,Tryz.func76,by kernel_rfl,by kernel_rfl⟩
theorem Tryz.okc76:OkC Tryz.prog 203:=⟨_,Tryz.func203,by kernel_rfl,by kernel_rfl⟩
theorem Tryz.okc77:OkC Tryz.prog 195:=⟨_,Tryz.func195,by kernel_rfl,by kernel_rfl⟩
theorem Tryz.okc78:OkC Tryz.prog 204:=⟨_,Tryz.func204,by kernel_rfl,by kernel_rfl⟩
theorem Tryz.okc79:OkC Tryz.prog 205:=⟨_,Tryz.func205,by kernel_rfl,by kernel_rfl⟩
theorem Tryz.okc80:OkC Tryz.prog 137:=⟨_,Tryz.func137,by kernel_rfl,by kernel_rfl⟩
theorem Tryz.okc85:OkC Tryz.prog 185:=⟨_,Tryz.func185,by kernel_rfl,by kernel_rfl⟩
theorem Tryz.okc107:OkC Tryz.prog 48:=⟨_,Tryz.func48,by kernel_rfl,by kernel_rfl⟩
theorem Tryz.okc110:OkC Tryz.prog 47:=⟨_,Tryz.func47,by kernel_rfl,by kernel_rfl⟩
theorem Tryz.okc114:OkC Tryz.prog 72:=⟨_,Tryz.func72,by kernel_rfl,by kernel_rfl⟩
theorem Tryz.okc118:OkC Tryz.prog 55:=⟨_,Tryz.func55,by kernel_rfl,by kernel_rfl⟩
theorem Tryz.okc119:OkC Tryz.prog 71:=⟨_,Tryz.func71,by kernel_rfl,by kernel_rfl⟩
theorem Tryz.okc120:OkC Tryz.prog 114:=⟨_,Tryz.func114,by kernel_rfl,by kernel_rfl⟩
theorem Tryz.okc121:OkC Tryz.prog 69:=⟨_,Tryz.func69,by kernel_rfl,by kernel_rfl⟩
theorem Tryz.okc123:OkC Tryz.prog 113:=⟨_,Tryz.func113,by kernel_rfl,by kernel_rfl⟩
theorem Tryz.okc124:OkC Tryz.prog 112:=⟨_,Tryz.func112,by kernel_rfl,by kernel_rfl⟩
theorem Tryz.okc125:OkC Tryz.prog 129:=⟨_,Tryz.func129,by kernel_rfl,by kernel_rfl⟩
theorem Tryz.okc127:OkC Tryz.prog 108:=⟨_,Tryz.func108,by kernel_rfl,by kernel_rfl⟩
theorem Tryz.okc128:OkC Tryz.prog 52:=⟨_,Tryz.func52,by kernel_rfl,by kernel_rfl⟩
theorem Tryz.okc129:OkC Tryz.prog 101:=⟨_,Tryz.func101,by kernel_rfl,by kernel_rfl⟩
theorem Tryz.okc130:OkC Tryz.prog 102:=⟨_,Tryz.func102,by kernel_rfl,by kernel_rfl⟩
theorem Tryz.okc131:OkC Tryz.prog 103:=⟨_,Tryz.func103,by kernel_rfl,by kernel_rfl⟩
theorem Tryz.okc132:OkC Tryz.prog 115:=⟨_,Tryz.func115,by kernel_rfl,by kernel_rfl⟩
theorem Tryz.okc133:OkC Tryz.prog 130:=⟨_,Tryz.func130,by kernel_rfl,by kernel_rfl⟩
theorem Tryz.okc134:OkC Tryz.prog 131:=⟨_,Tryz.func131,by kernel_rfl,by kernel_rfl⟩
theorem Tryz.okc135:OkC Tryz.prog 132:=⟨_,Tryz.func132,by kernel_rfl,by kernel_rfl⟩
theorem Tryz.okc136:OkC Tryz.prog 167:=⟨_,Tryz.func167,by kernel_rfl,by kernel_rfl⟩
theorem Tryz.okc137:OkC Tryz.prog 155:=⟨_,Tryz.func155,by kernel_rfl,by kernel_rfl⟩
theorem Tryz.okc147:OkC Tryz.prog 171:=⟨_,Tryz.func171,by kernel_rfl,by kernel_rfl⟩
theorem Tryz.okc148:OkC Tryz.prog 196:=⟨_,Tryz.func196,by kernel_rfl,by kernel_rfl⟩
theorem Tryz.okc149:OkC Tryz.prog 197:=⟨_,Tryz.func197,by kernel_rfl,by kernel_rfl⟩
theorem Tryz.okc159:OkC Tryz.prog 212:=⟨_,Tryz.func212,by kernel_rfl,by kernel_rfl⟩
theorem Tryz.okc179:OkC Tryz.prog 93:=⟨_,Tryz.func93,by kernel_rfl,by kernel_rfl⟩
theorem Tryz.okc180:OkC Tryz.prog 27:=⟨_,Tryz.func27,by kernel_rfl,by kernel_rfl⟩
theorem Tryz.okc182:OkC Tryz.prog 70:=⟨_,Tryz.func70,by kernel_rfl,by kernel_rfl⟩
theorem Tryz.okc185:OkC Tryz.prog 128:=⟨_,Tryz.func128,by kernel_rfl,by kernel_rfl⟩
theorem Tryz.okc187:OkC Tryz.prog 41:=⟨_,Tryz.func41,by kernel_rfl,by kernel_rfl⟩
theorem Tryz.okc196:OkC Tryz.prog 66:=⟨_,Tryz.func66,by kernel_rfl,by kernel_rfl⟩
theorem Tryz.okc200:OkC Tryz.prog 50:=⟨_,Tryz.func50,by kernel_rfl,by kernel_rfl⟩
theorem Tryz.okc260:OkC Tryz.prog 25:=⟨_,Tryz.func25,by kernel_rfl,by kernel_rfl⟩
theorem Tryz.okc278:OkC Tryz.prog 15:=⟨_,Tryz.func15,by kernel_rfl,by kernel_rfl⟩
theorem Tryz.okc280:OkC Tryz.prog 23:=⟨_,Tryz.func23,by kernel_rfl,by kernel_rfl⟩
theorem Tryz.okc281:OkC Tryz.prog 24:=⟨_,Tryz.func24,by kernel_rfl,by kernel_rfl⟩
theorem Tryz.okc289:OkC Tryz.prog 44:=⟨_,Tryz.func44,by kernel_rfl,by kernel_rfl⟩
theorem Tryz.okc290:OkC Tryz.prog 45:=⟨_,Tryz.func45,by kernel_rfl,by kernel_rfl⟩
theorem Tryz.okc291:OkC Tryz.prog 46:=⟨_,Tryz.func46,by kernel_rfl,by kernel_rfl⟩
theorem Tryz.okc292:OkC Tryz.prog 73:=⟨_,Tryz.func73,by kernel_rfl,by kernel_rfl⟩
theorem Tryz.okc293:OkC Tryz.prog 96:=⟨_,Tryz.func96,by kernel_rfl,by kernel_rfl⟩
theorem Tryz.okc294:OkC Tryz.prog 99:=⟨_,Tryz.func99,by kernel_rfl,by kernel_rfl⟩
theorem Tryz.okc295:OkC Tryz.prog 100:=⟨_,Tryz.func100,by kernel_rfl,by kernel_rfl⟩
theorem Tryz.okc296:OkC Tryz.prog 255:=⟨_,Tryz.func255,by kernel_rfl,by kernel_rfl⟩
theorem Tryz.okc297:OkC Tryz.prog 256:=⟨_,Tryz.func256,by kernel_rfl,by kernel_rfl⟩
theorem Tryz.okc298:OkC Tryz.prog 257:=⟨_,Tryz.func257,by kernel_rfl,by kernel_rfl⟩
theorem Tryz.okc299:OkC Tryz.prog 258:=⟨_,Tryz.func258,by kernel_rfl,by kernel_rfl⟩
theorem Tryz.okc301:OkC Tryz.prog 6:=⟨_,Tryz.func6,by kernel_rfl,by kernel_rfl⟩
theorem Tryz.okc302:OkC Tryz.prog 57:=⟨_,Tryz.func57,by kernel_rfl,by kernel_rfl⟩
theorem Tryz.okc303:OkC Tryz.prog 12:=⟨_,Tryz.func12,by kernel_rfl,by kernel_rfl⟩
theorem Tryz.okc304:OkC Tryz.prog 36:=⟨_,Tryz.func36,by kernel_rfl,by kernel_rfl⟩
theorem Tryz.okc305:OkC Tryz.prog 26:=⟨_,Tryz.func26,by kernel_rfl,by kernel_rfl⟩
theorem Tryz.okc306:OkC Tryz.prog 116:=⟨_,Tryz.func116,by kernel_rfl,by kernel_rfl⟩
theorem Tryz.okc307:OkC Tryz.prog 87:=⟨_,Tryz.func87,by kernel_rfl,by kernel_rfl⟩
theorem Tryz.okc308:OkC Tryz.prog 37:=⟨_,Tryz.func37,by kernel_rfl,by kernel_rfl⟩
theorem Tryz.okc309:OkC Tryz.prog 38:=⟨_,Tryz.func38,by kernel_rfl,by kernel_rfl⟩
theorem Tryz.okc310:OkC Tryz.prog 75:=⟨_,Tryz.func75,by kernel_rfl,by kernel_rfl⟩
theorem Tryz.okc311:OkC Tryz.prog 86:=⟨_,Tryz.func86,by kernel_rfl,by kernel_rfl⟩
theorem Tryz.okc312:OkC Tryz.prog 142:=⟨_,Tryz.func142,by kernel_rfl,by kernel_rfl⟩
theorem Tryz.okc313:OkC Tryz.prog 140:=⟨_,Tryz.func140,by kernel_rfl,by kernel_rfl⟩
theorem Tryz.okc314:OkC Tryz.prog 85:=⟨_,Tryz.func85,by kernel_rfl,by kernel_rfl⟩
theorem Tryz.okc315:OkC Tryz.prog 88:=⟨_,Tryz.func88,by kernel_rfl,by kernel_rfl⟩
theorem Tryz.okc316:OkC Tryz.prog 89:=⟨_,Tryz.func89,by kernel_rfl,by kernel_rfl⟩
theorem Tryz.okc317:OkC Tryz.prog 134:=⟨_,Tryz.func134,by kernel_rfl,by kernel_rfl⟩
theorem Tryz.okc318:OkC Tryz.prog 138:=⟨_,Tryz.func138,by kernel_rfl,by kernel_rfl⟩
theorem Tryz.okc319:OkC Tryz.prog 139:=⟨_,Tryz.func139,by kernel_rfl,by kernel_rfl⟩
theorem Tryz.okc320:OkC Tryz.prog 141:=⟨_,Tryz.func141,by kernel_rfl,by kernel_rfl⟩
theorem Tryz.okc327:OkC Tryz.prog 4:=⟨_,Tryz.func4,by kernel_rfl,by kernel_rfl⟩
theorem Tryz.okc330:OkC Tryz.prog 5:=⟨_,Tryz.func5,by kernel_rfl,by kernel_rfl⟩
theorem Tryz.okc331:OkC Tryz.prog 13:=⟨_,Tryz.func13,by kernel_rfl,by kernel_rfl⟩
theorem Tryz.okc341:OkC Tryz.prog 61:=⟨_,Tryz.func61,by kernel_rfl,by kernel_rfl⟩
theorem Tryz.okc342:OkC Tryz.prog 16:=⟨_,Tryz.func16,by kernel_rfl,by kernel_rfl⟩
theorem Tryz.okc344:OkC Tryz.prog 14:=⟨_,Tryz.func14,by kernel_rfl,by kernel_rfl⟩
theorem Tryz.okc345:OkC Tryz.prog 17:=⟨_,Tryz.func17,by kernel_rfl,by kernel_rfl⟩
theorem Tryz.okc346:OkC Tryz.prog 18:=⟨_,Tryz.func18,by kernel_rfl,by kernel_rfl⟩
theorem Tryz.okc347:OkC Tryz.prog 19:=⟨_,Tryz.func19,by kernel_rfl,by kernel_rfl⟩
theorem Tryz.okc348:OkC Tryz.prog 20:=⟨_,Tryz.func20,by kernel_rfl,by kernel_rfl⟩
theorem Tryz.okc349:OkC Tryz.prog 21:=⟨_,Tryz.func21,by kernel_rfl,by kernel_rfl⟩
theorem Tryz.okc350:OkC Tryz.prog 22:=⟨_,Tryz.func22,by kernel_rfl,by kernel_rfl⟩
theorem Tryz.okc357:OkC Tryz.prog 125:=⟨_,Tryz.func125,by kernel_rfl,by kernel_rfl⟩
theorem Tryz.okc358:OkC Tryz.prog 124:=⟨_,Tryz.func124,by kernel_rfl,by kernel_rfl⟩
theorem Tryz.okc361:OkC Tryz.prog 42:=⟨_,Tryz.func42,by kernel_rfl,by kernel_rfl⟩
theorem Tryz.okc362:OkC Tryz.prog 51:=⟨_,Tryz.func51,by kernel_rfl,by kernel_rfl⟩
theorem Tryz.okc363:OkC Tryz.prog 53:=⟨_,Tryz.func53,by kernel_rfl,by kernel_rfl⟩
theorem Tryz.okc364:OkC Tryz.prog 54:=⟨_,Tryz.func54,by kernel_rfl,by kernel_rfl⟩
theorem Tryz.okc365:OkC Tryz.prog 56:=⟨_,Tryz.func56,by kernel_rfl,by kernel_rfl⟩
theorem Tryz.okc366:OkC Tryz.prog 58:=⟨_,Tryz.func58,by kernel_rfl,by kernel_rfl⟩
theorem Tryz.okc367:OkC Tryz.prog 59:=⟨_,Tryz.func59,by kernel_rfl,by kernel_rfl⟩
theorem Tryz.okc368:OkC Tryz.prog 60:=⟨_,Tryz.func60,by kernel_rfl,by kernel_rfl⟩
theorem Tryz.okc369:OkC Tryz.prog 62:=⟨_,Tryz.func62,by kernel_rfl,by kernel_rfl⟩
theorem Tryz.okc370:OkC Tryz.prog 63:=⟨_,Tryz.func63,by kernel_rfl,by kernel_rfl⟩
theorem Tryz.okc371:OkC Tryz.prog 64:=⟨_,Tryz.func64,by kernel_rfl,by kernel_rfl⟩
theorem Tryz.okc372:OkC Tryz.prog 65:=⟨_,Tryz.func65,by kernel_rfl,by kernel_rfl⟩
theorem Tryz.okc373:OkC Tryz.prog 67:=⟨_,Tryz.func67,by kernel_rfl,by kernel_rfl⟩
theorem Tryz.okc376:OkC Tryz.prog 117:=⟨_,Tryz.func117,by kernel_rfl,by kernel_rfl⟩
theorem Tryz.okc377:OkC Tryz.prog 118:=⟨_,Tryz.func118,by kernel_rfl,by kernel_rfl⟩
theorem Tryz.okc378:OkC Tryz.prog 119:=⟨_,Tryz.func119,by kernel_rfl,by kernel_rfl⟩
theorem Tryz.okc379:OkC Tryz.prog 120:=⟨_,Tryz.func120,by kernel_rfl,by kernel_rfl⟩
theorem Tryz.okc380:OkC Tryz.prog 121:=⟨_,Tryz.func121,by kernel_rfl,by kernel_rfl⟩
theorem Tryz.okc381:OkC Tryz.prog 122:=⟨_,Tryz.func122,by kernel_rfl,by kernel_rfl⟩
theorem Tryz.okc382:OkC Tryz.prog 123:=⟨_,Tryz.func123,by kernel_rfl,by kernel_rfl⟩
theorem Tryz.okc383:OkC Tryz.prog 126:=⟨_,Tryz.func126,by kernel_rfl,by kernel_rfl⟩
theorem Tryz.okc384:OkC Tryz.prog 127:=⟨_,Tryz.func127,by kernel_rfl,by kernel_rfl⟩
theorem Tryz.okc385:OkC Tryz.prog 168:=⟨_,Tryz.func168,by kernel_rfl,by kernel_rfl⟩
theorem Tryz.okc386:OkC Tryz.prog 169:=⟨_,Tryz.func169,by kernel_rfl,by kernel_rfl⟩
theorem Tryz.okc387:OkC Tryz.prog 170:=⟨_,Tryz.func170,by kernel_rfl,by kernel_rfl⟩
theorem Tryz.okf6:OkF Tryz.prog Tryz.T 68 zBs:=⟨_,Tryz.func68,by kernel_rfl,by kernel_rfl⟩
theorem Tryz.okf8:OkF Tryz.prog Tryz.T 135 zBV:=⟨_,Tryz.func135,by kernel_rfl,by kernel_rfl⟩
theorem Tryz.okf9:OkF Tryz.prog Tryz.T 136 zBW:=⟨_,Tryz.func136,by kernel_rfl,by kernel_rfl⟩
theorem Tryz.okf11:OkF Tryz.prog Tryz.T 43 zAV:=⟨_,Tryz.func43,by kernel_rfl,by kernel_rfl⟩
theorem Tryz.okf13:OkF Tryz.prog Tryz.T 40 zCn:=⟨_,Tryz.func40,by kernel_rfl,by kernel_rfl⟩
theorem Tryz.okf16:OkF Tryz.prog Tryz.T 39 zzS:=⟨_,Tryz.func39,by kernel_rfl,by kernel_rfl⟩
theorem Tryz.okf17:OkF Tryz.prog Tryz.T 35 zCA:=⟨_,Tryz.func35,by kernel_rfl,by kernel_rfl⟩
theorem Tryz.okf18:OkF Tryz.prog Tryz.T 109 zCg:=⟨_,Tryz.func109,by kernel_rfl,by kernel_rfl⟩
theorem Tryz.okf19:OkF Tryz.prog Tryz.T 92 zzV:=⟨_,Tryz.func92,by kernel_rfl,by kernel_rfl⟩
theorem Tryz.okf20:OkF Tryz.prog Tryz.T 172 zBl:=⟨_,Tryz.func172,by kernel_rfl,by kernel_rfl⟩
theorem Tryz.okf21:OkF Tryz.prog Tryz.T 111 zBM:=⟨_,Tryz.func111,by kernel_rfl,by kernel_rfl⟩
theorem Tryz.okf22:OkF Tryz.prog Tryz.T 110 zAd:=⟨_,Tryz.func110,by kernel_rfl,by kernel_rfl⟩
theorem Tryz.okf23:OkF Tryz.prog Tryz.T 150 zB1:=⟨_,Tryz.func150,by kernel_rfl,by kernel_rfl⟩
theorem Tryz.okf24:OkF Tryz.prog Tryz.T 49 zz5:=⟨_,Tryz.func49,by kernel_rfl,by kernel_rfl⟩
theorem Tryz.okf29:OkF Tryz.prog Tryz.T 94 zCc:=⟨_,Tryz.func94,by kernel_rfl,by kernel_rfl⟩
theorem Tryz.okf30:OkF Tryz.prog Tryz.T 95 zAP:=⟨_,Tryz.func95,by kernel_rfl,by kernel_rfl⟩
theorem Tryz.okf31:OkF Tryz.prog Tryz.T 90 zBD:=⟨_,Tryz.func90,by kernel_rfl,by kernel_rfl⟩
theorem Tryz.okf34:OkF Tryz.prog Tryz.T 84 zBI:=⟨_,Tryz.func84,by kernel_rfl,by kernel_rfl⟩
theorem Tryz.okf35:OkF Tryz.prog Tryz.T 151 zzY:=⟨_,Tryz.func151,by kernel_rfl,by kernel_rfl⟩
theorem Tryz.okf36:OkF Tryz.prog Tryz.T 107 zA4:=⟨_,Tryz.func107,by kernel_rfl,by kernel_rfl⟩
theorem Tryz.okf37:OkF Tryz.prog Tryz.T 149 zBy:=⟨_,Tryz.func149,by kernel_rfl,by kernel_rfl⟩
theorem Tryz.okf38:OkF Tryz.prog Tryz.T 154 zCi:=⟨_,Tryz.func154,by kernel_rfl,by kernel_rfl⟩
theorem Tryz.okf39:OkF Tryz.prog Tryz.T 166 zBZ:=⟨_,Tryz.func166,by kernel_rfl,by kernel_rfl⟩
theorem Tryz.okf40:OkF Tryz.prog Tryz.T 105 zCd:=⟨_,Tryz.func105,by kernel_rfl,by kernel_rfl⟩
theorem Tryz.okf41:OkF Tryz.prog Tryz.T 153 zAJ:=⟨_,Tryz.func153,by kernel_rfl,by kernel_rfl⟩
theorem Tryz.okf42:OkF Tryz.prog Tryz.T 152 zz1:=⟨_,Tryz.func152,by kernel_rfl,by kernel_rfl⟩
theorem Tryz.okf43:OkF Tryz.prog Tryz.T 98 zB3:=⟨_,Tryz.func98,by kernel_rfl,by kernel_rfl⟩
theorem Tryz.okf44:OkF Tryz.prog Tryz.T 74 zA2:=⟨_,Tryz.func74,by kernel_rfl,by kernel_rfl⟩
theorem Tryz.okf48:OkF Tryz.prog Tryz.T 143 zAU:=⟨_,Tryz.func143,by kernel_rfl,by kernel_rfl⟩
theorem Tryz.okf49:OkF Tryz.prog Tryz.T 104 zAC:=⟨_,Tryz.func104,by kernel_rfl,by kernel_rfl⟩
theorem Tryz.okf55:OkF Tryz.prog Tryz.T 179 zz0:=⟨_,Tryz.func179,by kernel_rfl,by kernel_rfl⟩
theorem Tryz.okf56:OkF Tryz.prog Tryz.T 180 zAQ:=⟨_,Tryz.func180,by kernel_rfl,by kernel_rfl⟩
theorem Tryz.okf57:OkF Tryz.prog Tryz.T 181 zBB:=⟨_,Tryz.func181,by kernel_rfl,by kernel_rfl⟩
theorem Tryz.okf58:OkF Tryz.prog Tryz.T 165 zAL:=⟨_,Tryz.func165,by kernel_rfl,by kernel_rfl⟩
theorem Tryz.okf59:OkF Tryz.prog Tryz.T 106 zAj:=⟨_,Tryz.func106,by kernel_rfl,by kernel_rfl⟩
theorem Tryz.okf60:OkF Tryz.prog Tryz.T 183 zAi:=⟨_,Tryz.func183,by kernel_rfl,by kernel_rfl⟩
theorem Tryz.okf61:OkF Tryz.prog Tryz.T 184 zz8:=⟨_,Tryz.func184,by kernel_rfl,by kernel_rfl⟩
theorem Tryz.okf62:OkF Tryz.prog Tryz.T 182 zz4:=⟨_,Tryz.func182,by kernel_rfl,by kernel_rfl⟩
theorem Tryz.okf63:OkF Tryz.prog Tryz.T 133 zAe:=⟨_,Tryz.func133,by kernel_rfl,by kernel_rfl⟩
theorem Tryz.okf64:OkF Tryz.prog Tryz.T 97 zzW:=⟨_,Tryz.func97,by kernel_rfl,by kernel_rfl⟩
theorem Tryz.okf65:OkF Tryz.prog Tryz.T 77 zCj:=⟨_,Tryz.func77,by kernel_rfl,by kernel_rfl⟩
theorem Tryz.okf67:OkF Tryz.prog Tryz.T 76 zBE:=⟨_,Tryz.func76,by kernel_rfl,by kernel_rfl⟩
theorem Tryz.okf76:OkF Tryz.prog Tryz.T 203 zAr:=⟨_,Tryz.func203,by kernel_rfl,by kernel_rfl⟩
theorem Tryz.okf77:OkF Tryz.prog Tryz.T 195 zAA:=⟨_,Tryz.func195,by kernel_rfl,by kernel_rfl⟩
theorem Tryz.okf78:OkF Tryz.prog Tryz.T 204 zAy:=⟨_,Tryz.func204,by kernel_rfl,by kernel_rfl⟩
theorem Tryz.okf79:OkF Tryz.prog Tryz.T 205 zAh:=⟨_,Tryz.func205,by kernel_rfl,by kernel_rfl⟩
theorem Tryz.okf80:OkF Tryz.prog Tryz.T 137 zzU:=⟨_,Tryz.func137,by kernel_rfl,by kernel_rfl⟩
theorem Tryz.okf85:OkF Tryz.prog Tryz.T 185 zzP:=⟨_,Tryz.func185,by kernel_rfl,by kernel_rfl⟩
theorem Tryz.okf107:OkF Tryz.prog Tryz.T 48 zAD:=⟨_,Tryz.func48,by kernel_rfl,by kernel_rfl⟩
theorem Tryz.okf110:OkF Tryz.prog Tryz.T 47 zAm:=⟨_,Tryz.func47,by kernel_rfl,by kernel_rfl⟩
theorem Tryz.okf114:OkF Tryz.prog Tryz.T 72 zCN:=⟨_,Tryz.func72,by kernel_rfl,by kernel_rfl⟩
theorem Tryz.okf118:OkF Tryz.prog Tryz.T 55 zAY:=⟨_,Tryz.func55,by kernel_rfl,by kernel_rfl⟩
theorem Tryz.okf119:OkF Tryz.prog Tryz.T 71 zCu:=⟨_,Tryz.func71,by kernel_rfl,by kernel_rfl⟩
theorem Tryz.okf120:OkF Tryz.prog Tryz.T 114 zCr:=⟨_,Tryz.func114,by kernel_rfl,by kernel_rfl⟩
theorem Tryz.okf121:OkF Tryz.prog Tryz.T 69 zCx:=⟨_,Tryz.func69,by kernel_rfl,by kernel_rfl⟩
theorem Tryz.okf123:OkF Tryz.prog Tryz.T 113 zCq:=⟨_,Tryz.func113,by kernel_rfl,by kernel_rfl⟩
theorem Tryz.okf124:OkF Tryz.prog Tryz.T 112 zA6:=⟨_,Tryz.func112,by kernel_rfl,by kernel_rfl⟩
theorem Tryz.okf125:OkF Tryz.prog Tryz.T 129 zCz:=⟨_,Tryz.func129,by kernel_rfl,by kernel_rfl⟩
theorem Tryz.okf127:OkF Tryz.prog Tryz.T 108 zA9:=⟨_,Tryz.func108,by kernel_rfl,by kernel_rfl⟩
theorem Tryz.okf128:OkF Tryz.prog Tryz.T 52 zBF:=⟨_,Tryz.func52,by kernel_rfl,by kernel_rfl⟩
theorem Tryz.okf129:OkF Tryz.prog Tryz.T 101 zAg:=⟨_,Tryz.func101,by kernel_rfl,by kernel_rfl⟩
theorem Tryz.okf132:OkF Tryz.prog Tryz.T 115 zBk:=⟨_,Tryz.func115,by kernel_rfl,by kernel_rfl⟩
theorem Tryz.okf133:OkF Tryz.prog Tryz.T 130 zCe:=⟨_,Tryz.func130,by kernel_rfl,by kernel_rfl⟩
theorem Tryz.okf134:OkF Tryz.prog Tryz.T 131 zAI:=⟨_,Tryz.func131,by kernel_rfl,by kernel_rfl⟩
theorem Tryz.okf135:OkF Tryz.prog Tryz.T 132 zBC:=⟨_,Tryz.func132,by kernel_rfl,by kernel_rfl⟩
theorem Tryz.okf136:OkF Tryz.prog Tryz.T 167 zAf:=⟨_,Tryz.func167,by kernel_rfl,by kernel_rfl⟩
theorem Tryz.okf137:OkF Tryz.prog Tryz.T 155 zzO:=⟨_,Tryz.func155,by kernel_rfl,by kernel_rfl⟩
theorem Tryz.okf147:OkF Tryz.prog Tryz.T 171 zCQ:=⟨_,Tryz.func171,by kernel_rfl,by kernel_rfl⟩
theorem Tryz.okf148:OkF Tryz.prog Tryz.T 196 zAx:=⟨_,Tryz.func196,by kernel_rfl,by kernel_rfl⟩
theorem Tryz.okf149:OkF Tryz.prog Tryz.T 197 zBA:=⟨_,Tryz.func197,by kernel_rfl,by kernel_rfl⟩
theorem Tryz.okf159:OkF Tryz.prog Tryz.T 212 zBm:=⟨_,Tryz.func212,by kernel_rfl,by kernel_rfl⟩
theorem Tryz.okf179:OkF Tryz.prog Tryz.T 93 zBr:=⟨_,Tryz.func93,by kernel_rfl,by kernel_rfl⟩
theorem Tryz.okf180:OkF Tryz.prog Tryz.T 27 zz2:=⟨_,Tryz.func27,by kernel_rfl,by kernel_rfl⟩
theorem Tryz.okf182:OkF Tryz.prog Tryz.T 70 zAH:=⟨_,Tryz.func70,by kernel_rfl,by kernel_rfl⟩
theorem Tryz.okf185:OkF Tryz.prog Tryz.T 128 zCO:=⟨_,Tryz.func128,by kernel_rfl,by kernel_rfl⟩
theorem Tryz.okf187:OkF Tryz.prog Tryz.T 41 zAE:=⟨_,Tryz.func41,by kernel_rfl,by kernel_rfl⟩
theorem Tryz.okf196:OkF Tryz.prog Tryz.T 66 zB5:=⟨_,Tryz.func66,by kernel_rfl,by kernel_rfl⟩
theorem Tryz.okf200:OkF Tryz.prog Tryz.T 50 zBb:=⟨_,Tryz.func50,by kernel_rfl,by kernel_rfl⟩
theorem Tryz.okf260:OkF Tryz.prog Tryz.T 25 zBY:=⟨_,Tryz.func25,by kernel_rfl,by kernel_rfl⟩
theorem Tryz.okf278:OkF Tryz.prog Tryz.T 15 zz6:=⟨_,Tryz.func15,by kernel_rfl,by kernel_rfl⟩
theorem Tryz.okf280:OkF Tryz.prog Tryz.T 23 zzX:=⟨_,Tryz.func23,by kernel_rfl,by kernel_rfl⟩
theorem Tryz.okf281:OkF Tryz.prog Tryz.T 24 zzZ:=⟨_,Tryz.func24,by kernel_rfl,by kernel_rfl⟩
theorem Tryz.okf289:OkF Tryz.prog Tryz.T 44 zBK:=⟨_,Tryz.func44,by kernel_rfl,by kernel_rfl⟩
theorem Tryz.okf290:OkF Tryz.prog Tryz.T 45 zz7:=⟨_,Tryz.func45,by kernel_rfl,by kernel_rfl⟩
theorem Tryz.okf291:OkF Tryz.prog Tryz.T 46 zzJ:=⟨_,Tryz.func46,by kernel_rfl,by kernel_rfl⟩
theorem Tryz.okf292:OkF Tryz.prog Tryz.T 73 zAF:=⟨_,Tryz.func73,by kernel_rfl,by kernel_rfl⟩
theorem Tryz.okf293:OkF Tryz.prog Tryz.T 96 zBg:=⟨_,Tryz.func96,by kernel_rfl,by kernel_rfl⟩
theorem Tryz.okf294:OkF Tryz.prog Tryz.T 99 zAX:=⟨_,Tryz.func99,by kernel_rfl,by kernel_rfl⟩
theorem Tryz.okf295:OkF Tryz.prog Tryz.T 100 zBa:=⟨_,Tryz.func100,by kernel_rfl,by kernel_rfl⟩
theorem Tryz.okf296:OkF Tryz.prog Tryz.T 255 zBe:=⟨_,Tryz.func255,by kernel_rfl,by kernel_rfl⟩
theorem Tryz.okf297:OkF Tryz.prog Tryz.T 256 zA7:=⟨_,Tryz.func256,by kernel_rfl,by kernel_rfl⟩
theorem Tryz.okf298:OkF Tryz.prog Tryz.T 257 zAv:=⟨_,Tryz.func257,by kernel_rfl,by kernel_rfl⟩
theorem Tryz.okf299:OkF Tryz.prog Tryz.T 258 zBz:=⟨_,Tryz.func258,by kernel_rfl,by kernel_rfl⟩
theorem Tryz.okf301:OkF Tryz.prog Tryz.T 6 zCl:=⟨_,Tryz.func6,by kernel_rfl,by kernel_rfl⟩
theorem Tryz.okf302:OkF Tryz.prog Tryz.T 57 zBp:=⟨_,Tryz.func57,by kernel_rfl,by kernel_rfl⟩
theorem Tryz.okf303:OkF Tryz.prog Tryz.T 12 zBL:=⟨_,Tryz.func12,by kernel_rfl,by kernel_rfl⟩
theorem Tryz.okf304:OkF Tryz.prog Tryz.T 36 zBH:=⟨_,Tryz.func36,by kernel_rfl,by kernel_rfl⟩
theorem Tryz.okf305:OkF Tryz.prog Tryz.T 26 zzK:=⟨_,Tryz.func26,by kernel_rfl,by kernel_rfl⟩
theorem Tryz.okf306:OkF Tryz.prog Tryz.T 116 zCk:=⟨_,Tryz.func116,by kernel_rfl,by kernel_rfl⟩
theorem Tryz.okf307:OkF Tryz.prog Tryz.T 87 zCw:=⟨_,Tryz.func87,by kernel_rfl,by kernel_rfl⟩
theorem Tryz.okf308:OkF Tryz.prog Tryz.T 37 zAa:=⟨_,Tryz.func37,by kernel_rfl,by kernel_rfl⟩
theorem Tryz.okf309:OkF Tryz.prog Tryz.T 38 zBG:=⟨_,Tryz.func38,by kernel_rfl,by kernel_rfl⟩
theorem Tryz.okf310:OkF Tryz.prog Tryz.T 75 zB6:=⟨_,Tryz.func75,by kernel_rfl,by kernel_rfl⟩
theorem Tryz.okf311:OkF Tryz.prog Tryz.T 86 zAR:=⟨_,Tryz.func86,by kernel_rfl,by kernel_rfl⟩
theorem Tryz.okf312:OkF Tryz.prog Tryz.T 142 zBN:=⟨_,Tryz.func142,by kernel_rfl,by kernel_rfl⟩
theorem Tryz.okf313:OkF Tryz.prog Tryz.T 140 zBq:=⟨_,Tryz.func140,by kernel_rfl,by kernel_rfl⟩
theorem Tryz.okf314:OkF Tryz.prog Tryz.T 85 zA8:=⟨_,Tryz.func85,by kernel_rfl,by kernel_rfl⟩
theorem Tryz.okf315:OkF Tryz.prog Tryz.T 88 zBf:=⟨_,Tryz.func88,by kernel_rfl,by kernel_rfl⟩
theorem Tryz.okf316:OkF Tryz.prog Tryz.T 89 zAK:=⟨_,Tryz.func89,by kernel_rfl,by kernel_rfl⟩
theorem Tryz.okf317:OkF Tryz.prog Tryz.T 134 zBt:=⟨_,Tryz.func134,by kernel_rfl,by kernel_rfl⟩
theorem Tryz.okf318:OkF Tryz.prog Tryz.T 138 zzF:=⟨_,Tryz.func138,by kernel_rfl,by kernel_rfl⟩
theorem Tryz.okf319:OkF Tryz.prog Tryz.T 139 zBi:=⟨_,Tryz.func139,by kernel_rfl,by kernel_rfl⟩
theorem Tryz.okf320:OkF Tryz.prog Tryz.T 141 zAM:=⟨_,Tryz.func141,by kernel_rfl,by kernel_rfl⟩
theorem Tryz.okf327:OkF Tryz.prog Tryz.T 4 zAl:=⟨_,Tryz.func4,by kernel_rfl,by kernel_rfl⟩
theorem Tryz.okf330:OkF Tryz.prog Tryz.T 5 zzH:=⟨_,Tryz.func5,by kernel_rfl,by kernel_rfl⟩
theorem Tryz.okf331:OkF Tryz.prog Tryz.T 13 zAT:=⟨_,Tryz.func13,by kernel_rfl,by kernel_rfl⟩
theorem Tryz.okf341:OkF Tryz.prog Tryz.T 61 zBx:=⟨_,Tryz.func61,by kernel_rfl,by kernel_rfl⟩
theorem Tryz.okf342:OkF Tryz.prog Tryz.T 16 zCR:=⟨_,Tryz.func16,by kernel_rfl,by kernel_rfl⟩
theorem Tryz.okf344:OkF Tryz.prog Tryz.T 14 zAb:=⟨_,Tryz.func14,by kernel_rfl,by kernel_rfl⟩
theorem Tryz.okf345:OkF Tryz.prog Tryz.T 17 zzL:=⟨_,Tryz.func17,by kernel_rfl,by kernel_rfl⟩
theorem Tryz.okf346:OkF Tryz.prog Tryz.T 18 zAN:=⟨_,Tryz.func18,by kernel_rfl,by kernel_rfl⟩
theorem Tryz.okf347:OkF Tryz.prog Tryz.T 19 zA3:=⟨_,Tryz.func19,by kernel_rfl,by kernel_rfl⟩
theorem Tryz.okf348:OkF Tryz.prog Tryz.T 20 zzR:=⟨_,Tryz.func20,by kernel_rfl,by kernel_rfl⟩
theorem Tryz.okf349:OkF Tryz.prog Tryz.T 21 zB4:=⟨_,Tryz.func21,by kernel_rfl,by kernel_rfl⟩
theorem Tryz.okf350:OkF Tryz.prog Tryz.T 22 zBn:=⟨_,Tryz.func22,by kernel_rfl,by kernel_rfl⟩
theorem Tryz.okf357:OkF Tryz.prog Tryz.T 125 zBj:=⟨_,Tryz.func125,by kernel_rfl,by kernel_rfl⟩
theorem Tryz.okf358:OkF Tryz.prog Tryz.T 124 zCv:=⟨_,Tryz.func124,by kernel_rfl,by kernel_rfl⟩
theorem Tryz.okf361:OkF Tryz.prog Tryz.T 42 zBJ:=⟨_,Tryz.func42,by kernel_rfl,by kernel_rfl⟩
theorem Tryz.okf362:OkF Tryz.prog Tryz.T 51 zB9:=⟨_,Tryz.func51,by kernel_rfl,by kernel_rfl⟩
theorem Tryz.okf363:OkF Tryz.prog Tryz.T 53 zCm:=⟨_,Tryz.func53,by kernel_rfl,by kernel_rfl⟩
theorem Tryz.okf364:OkF Tryz.prog Tryz.T 54 zAw:=⟨_,Tryz.func54,by kernel_rfl,by kernel_rfl⟩
theorem Tryz.okf365:OkF Tryz.prog Tryz.T 56 zCp:=⟨_,Tryz.func56,by kernel_rfl,by kernel_rfl⟩
theorem Tryz.okf366:OkF Tryz.prog Tryz.T 58 zCh:=⟨_,Tryz.func58,by kernel_rfl,by kernel_rfl⟩
theorem Tryz.okf367:OkF Tryz.prog Tryz.T 59 zAc:=⟨_,Tryz.func59,by kernel_rfl,by kernel_rfl⟩
theorem Tryz.okf368:OkF Tryz.prog Tryz.T 60 zBX:=⟨_,Tryz.func60,by kernel_rfl,by kernel_rfl⟩
theorem Tryz.okf369:OkF Tryz.prog Tryz.T 62 zCy:=⟨_,Tryz.func62,by kernel_rfl,by kernel_rfl⟩
theorem Tryz.okf370:OkF Tryz.prog Tryz.T 63 zAO:=⟨_,Tryz.func63,by kernel_rfl,by kernel_rfl⟩
theorem Tryz.okf371:OkF Tryz.prog Tryz.T 64 zCt:=⟨_,Tryz.func64,by kernel_rfl,by kernel_rfl⟩
theorem Tryz.okf372:OkF Tryz.prog Tryz.T 65 zAo:=⟨_,Tryz.func65,by kernel_rfl,by kernel_rfl⟩
theorem Tryz.okf373:OkF Tryz.prog Tryz.T 67 zCb:=⟨_,Tryz.func67,by kernel_rfl,by kernel_rfl⟩
theorem Tryz.okf376:OkF Tryz.prog Tryz.T 117 zBh:=⟨_,Tryz.func117,by kernel_rfl,by kernel_rfl⟩
theorem Tryz.okf377:OkF Tryz.prog Tryz.T 118 zCs:=⟨_,Tryz.func118,by kernel_rfl,by kernel_rfl⟩
theorem Tryz.okf378:OkF Tryz.prog Tryz.T 119 zCo:=⟨_,Tryz.func119,by kernel_rfl,by kernel_rfl⟩
theorem Tryz.okf379:OkF Tryz.prog Tryz.T 120 zB0:=⟨_,Tryz.func120,by kernel_rfl,by kernel_rfl⟩
theorem Tryz.okf380:OkF Tryz.prog Tryz.T 121 zAp:=⟨_,Tryz.func121,by kernel_rfl,by kernel_rfl⟩
theorem Tryz.okf381:OkF Tryz.prog Tryz.T 122 zzG:=⟨_,Tryz.func122,by kernel_rfl,by kernel_rfl⟩
theorem Tryz.okf382:OkF Tryz.prog Tryz.T 123 zzM:=⟨_,Tryz.func123,by kernel_rfl,by kernel_rfl⟩
theorem Tryz.okf383:OkF Tryz.prog Tryz.T 126 zCf:=⟨_,Tryz.func126,by kernel_rfl,by kernel_rfl⟩
theorem Tryz.okf384:OkF Tryz.prog Tryz.T 127 zCL:=⟨_,Tryz.func127,by kernel_rfl,by kernel_rfl⟩
theorem Tryz.okf385:OkF Tryz.prog Tryz.T 168 zAk:=⟨_,Tryz.func168,by kernel_rfl,by kernel_rfl⟩
theorem Tryz.okf386:OkF Tryz.prog Tryz.T 169 zz9:=⟨_,Tryz.func169,by kernel_rfl,by kernel_rfl⟩
theorem Tryz.okf387:OkF Tryz.prog Tryz.T 170 zzI:=⟨_,Tryz.func170,by kernel_rfl,by kernel_rfl⟩
theorem Tryz.allc:AllCal Tryz.prog Tryz.keyL:=⟨Tryz.okc6,Tryz.okc8,Tryz.okc9,Tryz.okc11,Tryz.okc13,Tryz.okc16,Tryz.okc17,Tryz.okc18,Tryz.okc19,Tryz.okc20,Tryz.okc21,Tryz.okc22,Tryz.okc23,Tryz.okc24,Tryz.okc29,Tryz.okc30,Tryz.okc31,Tryz.okc33,Tryz.okc34,Tryz.okc35,Tryz.okc36,Tryz.okc37,Tryz.okc38,Tryz.okc39,Tryz.okc40,Tryz.okc41,Tryz.okc42,Tryz.okc43,Tryz.okc44,Tryz.okc48,Tryz.okc49,Tryz.okc50,Tryz.okc51,Tryz.okc55,Tryz.okc56,Tryz.okc57,Tryz.okc58,Tryz.okc59,Tryz.okc60,Tryz.okc61,Tryz.okc62,Tryz.okc63,Tryz.okc64,Tryz.okc65,Tryz.okc67,Tryz.okc76,Tryz.okc77,Tryz.okc78,Tryz.okc79,Tryz.okc80,Tryz.okc85,Tryz.okc107,Tryz.okc110,Tryz.okc114,Tryz.okc118,Tryz.okc119,Tryz.okc120,Tryz.okc121,Tryz.okc123,Tryz.okc124,Tryz.okc125,Tryz.okc127,Tryz.okc128,Tryz.okc129,Tryz.okc130,Tryz.okc131,Tryz.okc132,Tryz.okc133,Tryz.okc134,Tryz.okc135,Tryz.okc136,Tryz.okc137,Tryz.okc147,Tryz.okc148,Tryz.okc149,Tryz.okc159,Tryz.okc179,Tryz.okc180,Tryz.okc182,Tryz.okc185,Tryz.okc187,Tryz.okc196,Tryz.okc200,Tryz.okc260,Tryz.okc278,Tryz.okc280,Tryz.okc281,Tryz.okc289,Tryz.okc290,Tryz.okc291,Tryz.okc292,Tryz.okc293,Tryz.okc294,Tryz.okc295,Tryz.okc296,Tryz.okc297,Tryz.okc298,Tryz.okc299,Tryz.okc301,Tryz.okc302,Tryz.okc303,Tryz.okc304,Tryz.okc305,Tryz.okc306,Tryz.okc307,Tryz.okc308,Tryz.okc309,Tryz.okc310,Tryz.okc311,Tryz.okc312,Tryz.okc313,Tryz.okc314,Tryz.okc315,Tryz.okc316,Tryz.okc317,Tryz.okc318,Tryz.okc319,Tryz.okc320,Tryz.okc327,Tryz.okc330,Tryz.okc331,Tryz.okc341,Tryz.okc342,Tryz.okc344,Tryz.okc345,Tryz.okc346,Tryz.okc347,Tryz.okc348,Tryz.okc349,Tryz.okc350,Tryz.okc357,Tryz.okc358,Tryz.okc361,Tryz.okc362,Tryz.okc363,Tryz.okc364,Tryz.okc365,Tryz.okc366,Tryz.okc367,Tryz.okc368,Tryz.okc369,Tryz.okc370,Tryz.okc371,Tryz.okc372,Tryz.okc373,Tryz.okc376,Tryz.okc377,Tryz.okc378,Tryz.okc379,Tryz.okc380,Tryz.okc381,Tryz.okc382,Tryz.okc383,Tryz.okc384,Tryz.okc385,Tryz.okc386,Tryz.okc387,True.intro⟩
theorem Tryz.allf:AllOk Tryz.prog Tryz.T progL Tryz.keyL:=⟨Tryz.okf6,Tryz.okf8,Tryz.okf9,Tryz.okf11,Tryz.okf13,Tryz.okf16,Tryz.okf17,Tryz.okf18,Tryz.okf19,Tryz.okf20,Tryz.okf21,Tryz.okf22,Tryz.okf23,Tryz.okf24,Tryz.okf29,Tryz.okf30,Tryz.okf31,Tryz.okf34,Tryz.okf35,Tryz.okf36,Tryz.okf37,Tryz.okf38,Tryz.okf39,Tryz.okf40,Tryz.okf41,Tryz.okf42,Tryz.okf43,Tryz.okf44,Tryz.okf48,Tryz.okf49,Tryz.okf55,Tryz.okf56,Tryz.okf57,Tryz.okf58,Tryz.okf59,Tryz.okf60,Tryz.okf61,Tryz.okf62,Tryz.okf63,Tryz.okf64,Tryz.okf65,Tryz.okf67,Tryz.okf76,Tryz.okf77,Tryz.okf78,Tryz.okf79,Tryz.okf80,Tryz.okf85,Tryz.okf107,Tryz.okf110,Tryz.okf114,Tryz.okf118,Tryz.okf119,Tryz.okf120,Tryz.okf121,Tryz.okf123,Tryz.okf124,Tryz.okf125,Tryz.okf127,Tryz.okf128,Tryz.okf129,Tryz.okf132,Tryz.okf133,Tryz.okf134,Tryz.okf135,Tryz.okf136,Tryz.okf137,Tryz.okf147,Tryz.okf148,Tryz.okf149,Tryz.okf159,Tryz.okf179,Tryz.okf180,Tryz.okf182,Tryz.okf185,Tryz.okf187,Tryz.okf196,Tryz.okf200,Tryz.okf260,Tryz.okf278,Tryz.okf280,Tryz.okf281,Tryz.okf289,Tryz.okf290,Tryz.okf291,Tryz.okf292,Tryz.okf293,Tryz.okf294,Tryz.okf295,Tryz.okf296,Tryz.okf297,Tryz.okf298,Tryz.okf299,Tryz.okf301,Tryz.okf302,Tryz.okf303,Tryz.okf304,Tryz.okf305,Tryz.okf306,Tryz.okf307,Tryz.okf308,Tryz.okf309,Tryz.okf310,Tryz.okf311,Tryz.okf312,Tryz.okf313,Tryz.okf314,Tryz.okf315,Tryz.okf316,Tryz.okf317,Tryz.okf318,Tryz.okf319,Tryz.okf320,Tryz.okf327,Tryz.okf330,Tryz.okf331,Tryz.okf341,Tryz.okf342,Tryz.okf344,Tryz.okf345,Tryz.okf346,Tryz.okf347,Tryz.okf348,Tryz.okf349,Tryz.okf350,Tryz.okf357,Tryz.okf358,Tryz.okf361,Tryz.okf362,Tryz.okf363,Tryz.okf364,Tryz.okf365,Tryz.okf366,Tryz.okf367,Tryz.okf368,Tryz.okf369,Tryz.okf370,Tryz.okf371,Tryz.okf372,Tryz.okf373,Tryz.okf376,Tryz.okf377,Tryz.okf378,Tryz.okf379,Tryz.okf380,Tryz.okf381,Tryz.okf382,Tryz.okf383,Tryz.okf384,Tryz.okf385,Tryz.okf386,Tryz.okf387,True.intro⟩
theorem Tryz.libok:LibOk Tryz.prog Tryz.lren (fun f=>(Tryz.keyL[f]?).join) Tryz.T 6 where
 l105:=Tryz.l105
 l171:=Tryz.l171
 lX:=Tryz.lX
 gname:=by kernel_rfl
 gkey:=rfl
 k50:=rfl
 k51:=rfl
 o130:=fun g h=>⟨Tryz.l160,by kernel_rfl,(Option.some.inj h).symm⟩
 o131:=fun g h=>⟨Tryz.l172,(Option.some.inj h).symm⟩
 o222:=fun g h=>by have h:(none:Option FuncId)=some g:=h;cases h
theorem Tryz.mixed:Tryz.prog.follows .mixedOrders=true:=by kernel_rfl
theorem Tryz.progok1:ProgOk Tryz.prog (fun f=>(Tryz.keyL[f]?).join) Tryz.T E1.prog:=zpB Tryz.mixed Tryz.allc Tryz.allf Tryz.libok
theorem Tryz.gk0:∀g n,Tryz.T.gkey g=some n→n≤4:=fun g n h=>by
 have h:(if g=6 then some 0 else if g=0 then some 3 else if g=1 then some 4 else none)=some n:=h
 repeat
  split at h
  ·cases h;decide
 cases h
theorem Tryz.progok:ProgOk Tryz.prog (fun f=>(Tryz.keyL[f]?).join) Tryz.T E0.prog:=zpA Tryz.mixed Tryz.allc Tryz.allf Tryz.libok fun {g} hk=>by
 obtain rfl:g=91:=(Option.some.inj hk).symm
 exact fun {_ _ _ _ _ _ _ _} e TO RL S=>zpR (pre:=Tryz.strPre) (tail:=Tryz.strTail) Tryz.progok1 KE1 Tryz.gk0 (G:=6) rfl Tryz.func91 rfl (by kernel_rfl) rfl rfl (fun neg ps h1 h2 h3 b1 o1 b3 o3 c w h4 h5 h6 h7 tm h8 h9 h10=>Tryz.str_tail neg ps h1 h2 h3 b1 o1 b3 o3 c w h4 h5 h6 h7 tm h8 h9 h10) e TO RL S
end Go.Proofs
namespace Go.Eng
open Go.RowKit
theorem tabIs_mem {P:Program} {W:World} {name:String} {k:IntKind} {zs:List Int} {g:Nat} {t e:TypeId} {n:Nat}
  (hg:P.globalNamed name=some g) (hty:(P.globals[g]?).map (·.type)=some t) (ht:P.underlying t=some (.array n e)) (he:P.underlying e=some (.int k)) (hce:P.cellsOf e=1) (hct:P.cellsOf t=n) :
  ∀{laid:List (String×DataW Unit)} {ps:List MemPlace},DataW.LaidVars P W laid ps→(name,Lib.tabData k zs)∈laid→Lib.TabIs P W name k zs
 | [],_,_,hm=>by cases hm
 | x::laid,ps,h,hm=>by
  obtain⟨g',t',cs,fuel,p,q,hg',ht',hvar,hd,h2,h3⟩:=h
  rcases List.mem_cons.1 hm with rfl|hm
  ·obtain rfl:=Option.some.inj (hg.symm.trans hg')
   obtain rfl:=Option.some.inj (hty.symm.trans ht')
   unfold Lib.TabIs
   rw[hvar,←Lib.cells_of_tab ht he hce hct hd]
  ·exact tabIs_mem hg hty ht he hce hct (by first|exact h2|exact h3|exact h3.1|exact h2.1) hm
def IsRow (k:IntKind) (w:World) (a:Option Addr) (len cap:Nat) (zs:List Int):Prop :=
 (a=none∧len=0∧cap=0∧zs=[]) ∨
 ∃x,a=some x∧len≤cap∧cap≤maxLen∧zs.length=cap∧(∀i,i<zs.length→w.cell? (x.add i)=some (.int k (zs.getD i 0)))∧∀n∈zs,(Lit.int k n).wf=true
def hpA (bs:List (List AV)):Hp:=⟨fun n=>if n≤4 then (globG n).map fun c=>⟨c,false,0⟩ else (bs[n-5]?).map fun c=>⟨c,false,0⟩,bs.length+5⟩
def locA (gs:Nat→Option At) (ats:List At):Loc:=fun n=>if n≤4 then gs n else ats[n-5]?
def InW (c:List AV) (a:At) (W:World):Prop :=
 a.b<W.heap.size∧a.w=false∧c.length≤a.n∧∀i (h:i<c.length),c[i].scal=true∧∃v,W.cell? ⟨a.b,a.o+i,none⟩=some v∧∀key l,Rel key l c[i] v
def GlobIn (key:Nat→Option FuncId) (W:World) (n:Nat) (a:At):Prop :=
 a.o=0∧∃c cs t fz,globG n=some c∧W.heap[a.b]?=some (.cells cs t fz)∧c.length≤a.n∧RelL key (fun _=>none) c cs.toList
theorem zjJ:∀{n:Nat} {c:List AV},globG n=some c→c.all AV.scal=true
 | 0,c,h=>by cases h;rfl
 | 1,c,h=>by cases h;rfl
 | 2,c,h=>by cases h;rfl
 | 3,c,h=>by cases h;rfl
 | 4,c,h=>by cases h;rfl
 | n+5,c,h=>by cases h
theorem ziD:∀{n:Nat} {c:List AV},globG n=some c→(c.map cst0).all PV.scal=true
 | 0,c,h=>by cases h;decide
 | 1,c,h=>by cases h;decide
 | 2,c,h=>by cases h;decide
 | 3,c,h=>by cases h;rfl
 | 4,c,h=>by cases h;rfl
 | n+5,c,h=>by cases h
theorem zox:∀{n:Nat} {c:List AV},globG n=some c→n≤4
 | 0,c,h=>by omega
 | 1,c,h=>by omega
 | 2,c,h=>by omega
 | 3,c,h=>by omega
 | 4,c,h=>by omega
 | n+5,c,h=>by cases h
theorem zx2 {P:Program} {key:Nat→Option FuncId} {F:Nat} {W:World} {gs:Nat→Option At} (hgs:∀n a,n≤4→gs n=some a→GlobIn key W n a)
  {bs:List (List AV)} {ats:List At} (hl:ats.length=bs.length) (hin:∀(n:Nat) c a,bs[n]?=some c→ats[n]?=some a→InW c a W):Sim key F (locA gs ats) (hpA bs) W:=by
 have hlt:∀n a,n≤4→gs n=some a→a.b<W.heap.size:=fun n a hn hg=>by
  obtain⟨_,c,cs,t,fz,_,h2,_⟩:=hgs n a hn hg
  rcases Nat.lt_or_ge a.b W.heap.size with q|q
  ·exact q
  ·rw[Array.getElem?_eq_none q] at h2;cases h2
 have hout:∀n,bs.length≤n→ats[n]?=none:=fun n hn=>List.getElem?_eq_none (by omega)
 have norw:∀n blk,(hpA bs).m n=some blk→blk.rw=false:=fun n blk e=>by
  simp only[hpA] at e
  split at e<;>(simp only[Option.map_eq_some_iff] at e;obtain⟨c,_,rfl⟩:=e;rfl)
 refine⟨fun n blk a e1 e2=>?_,fun n blk a n' blk' a' e1 e2 e3=>?_,fun n a e=>?_,fun n a e=>?_,fun n hn=>?_⟩
 ·by_cases hn:n≤4
  ·simp only[hpA,if_pos hn,Option.map_eq_some_iff] at e1
   simp only[locA,if_pos hn] at e2
   obtain⟨c,c1,rfl⟩:=e1
   obtain⟨g1,c',cs,t,fz,g2,g3,g4,g5⟩:=hgs n a hn e2
   obtain rfl:=Option.some.inj (c1.symm.trans g2)
   have hsz:c.length=cs.size:=by simpa using g5.1
   refine⟨hlt n a hn e2,g4,fun i hi=>?_,fun i hi=>?_,fun q=>(by cases q),fun _=>⟨rfl,g1,cs,t,fz,g3,hsz.symm⟩⟩
   ·have hi:i<c.length:=hi
    have hi':i<cs.toList.length:=by simp;omega
    refine⟨cs.toList[i],?_,(g5.2 i hi hi').mono fun n a q=>by cases q⟩
    have hb:W.heap[a.b]?=some (.cells cs t fz):=g3
    simp only[World.cell?,hb,g1,Nat.zero_add]
    rw[Array.getElem_toList,Array.getElem?_eq_getElem (by omega)];rfl
   ·have:=zjJ c1
    rw[List.all_eq_true] at this
    exact this _ (List.getElem_mem _)
  ·simp only[hpA,if_neg hn,Option.map_eq_some_iff] at e1
   simp only[locA,if_neg hn] at e2
   obtain⟨c,c1,rfl⟩:=e1
   obtain⟨q1,q2,q3,q4⟩:=hin _ c a c1 e2
   exact⟨q1,q3,fun i hi=>by obtain⟨_,v,v1,v2⟩:=q4 i hi;exact⟨v,v1,v2 key _⟩,fun i hi=>(q4 i hi).1,fun q=>(by cases q),fun q=>by rw[q2] at q;cases q⟩
 ·rw[norw n blk e1] at e3;cases e3
 ·by_cases hn:n≤4
  ·simp only[locA,if_pos hn] at e
   exact hlt n a hn e
  ·simp only[locA,if_neg hn] at e
   have hb:n-5<bs.length:=by
    rcases Nat.lt_or_ge (n-5) bs.length with q|q
    ·exact q
    ·rw[hout _ q] at e;cases e
   exact(hin _ _ a (List.getElem?_eq_getElem hb) e).1
 ·left
  show n<bs.length+5
  by_cases hn:n≤4
  ·omega
  ·simp only[locA,if_neg hn] at e
   rcases Nat.lt_or_ge (n-5) bs.length with q|q
   ·omega
   ·rw[hout _ q] at e;cases e
 ·have hn:bs.length+5≤n:=hn
  simp only[hpA]
  rw[if_neg (by omega),List.getElem?_eq_none (by omega)];rfl
theorem PInv.startG {bs:List (List AV)} (w:(hpA bs).wf):PInv globG (fun _=>False) [] [] (hpA bs):=by
 refine⟨rfl,fun i j m q=>by simp at q,fun m q=>by simp at q,w,fun n m q=>by simp at q,fun n b m q=>by simp at q,fun m d=>d.elim,fun g l q=>?_⟩
 refine⟨⟨l,false,0⟩,?_,⟨rfl,ziD q⟩,fun d=>?_⟩
 ·simp only[hpA,if_pos (zox q),q,Option.map_some]
 ·rcases d with d|d
  ·exact d
  ·exact zkg _ d
theorem glob_tab {P:Program} {key:Nat→Option FuncId} {W:World} {G:Nat} (hg:P.globalNamed "internal/strconv.uint64pow10" = some G) (ht:Lib.TabIs P W "internal/strconv.uint64pow10" .u64 Lib.pow10Tab):GlobIn key W 0 ⟨G,0,20,true⟩:=by
 have hb:∃cs t fz,W.heap[G]?=some (.cells cs t fz)∧cs=(Lib.pow10Tab.map fun z=>Value.int .u64 z).toArray:=by
  unfold Lib.TabIs World.var? at ht
  rw[hg] at ht
  simp only[Option.bind_some] at ht
  split at ht
  ·rename_i cs t fz hh
   cases ht
   exact⟨_,t,fz,hh,rfl⟩
  ·cases ht
 obtain⟨cs,t,fz,hh,rfl⟩:=hb
 refine⟨rfl,powT,_,t,fz,rfl,hh,Nat.le_refl _,by simp[Lib.pow10Tab,powT],fun i h1 h2=>?_⟩
 have hpl:powT.length=20:=rfl
 have hi':i<20:=by rw[←hpl];exact h1
 simp only[powT,List.getElem_map,List.getElem_range,Lib.pow10Tab]
 exact .i _ _
theorem law_calls {P:Program} {key:Nat→Option FuncId} {T:Tab} (K:ProgOk P key T E0.prog) (hTf:∀f k,T.fkey f=some k→key k=some f) {W:World} {gs:Nat→Option At} (hgs:∀n a,n≤4→gs n=some a→GlobIn key W n a)
  (hT:∀g n,T.gkey g=some n→n≤4∧∃m,gs n=some ⟨g,0,m,true⟩)
  {bs:List (List AV)} {ats:List At} (hl:ats.length=bs.length) (hin:∀(n:Nat) c a,bs[n]?=some c→ats[n]?=some a→InW c a W)
  {k g:Nat} (hk:key k=some g) (hpure:E0.pure k=true) {ps:List PV} (hfz:fzL (fz [] fzD) ps=some (ps,[])) (hpf:pf E0 k ps=some (.b true))
  {avs:List AV} {vs:Array Value} (hV:VL (hpA bs) (fun _=>False) [] ps avs) (hR:RelL key (locA gs ats) avs vs.toList) :
  Calls P g vs W fun e w'=>e=.returned (.bool true)∧Below W.heap.size W w':=by
 have hc:pcl E0 k ps []=some (.b true,roM [] []):=zie hpure hfz hpf
 obtain⟨kk,hev⟩:=ze2 hc
 have hw:(hpA bs).wf:=(zx2 (P:=P) (key:=key) (F:=0) hgs hl hin).wf
 have I:PInv globG (fun _=>False) [] [] (hpA bs):=PInv.startG hw
 obtain⟨a,h',r',q1,q2,q3,q4⟩:=zij KE0 kk _ _ _ _ _ _ _ _ _ hev I (VL.dd hV)
 have ha:a=.b true:=by cases q4;rfl
 subst ha
 have S:=zx2 (P:=P) (key:=key) (F:=h'.next) hgs hl hin
 have TO:TabOk key T (locA gs ats):=by
  refine⟨fun f k e=>?_,fun g n e=>?_⟩
  ·exact hTf f k e
  ·obtain⟨h4,m,hm⟩:=hT g n e
   exact⟨m,by simp only[locA,if_pos h4];exact hm⟩
 refine(zcs K kk h'.next k g avs vs _ h' _ _ W q1 hk (Nat.le_refl _) TO hR S).mono ?_
 rintro e w' ⟨l',val,rfl,E,S',rv⟩
 cases rv
 refine⟨rfl,E.os,E.tape,E.output,E.size,fun b hb=>E.frame b hb fun m blk a e1 e2=>?_⟩
 exfalso
 simp only[hpA] at e1
 split at e1<;>(simp only[Option.map_eq_some_iff] at e1;obtain⟨c,c1,rfl⟩:=e1;cases e2)
theorem arg_row {k:IntKind} {W:World} (h0:0<W.heap.size) {a:Option Addr} {len cap:Nat} {zs:List Int} (h:IsRow k W a len cap zs) (n:Nat):∃(c:List AV) (at_:At) (av:AV),InW c at_ W ∧
  (∀key (l:Loc),l n=some at_→Rel key l av (.slice a len cap))∧(∀(h:Hp) (D:Nat→Prop),h.m n=some ⟨c,false,0⟩→¬D n→V h D [] (.lst ((zs.take len).map fun z=>.i k z)) av):=by
 have nilIn:InW [] ⟨0,0,0,false⟩ W:=⟨h0,rfl,Nat.le_refl _,fun i hi=>by simp at hi⟩
 rcases h with⟨rfl,rfl,rfl,rfl⟩|⟨x,rfl,hl,hm,hz,hcell,hwz⟩
 ·exact⟨[],⟨0,0,0,false⟩,.sn,nilIn,fun key l _=>.sn,fun h D _ _=>.lsn⟩
 ·by_cases hlen:len=0
  ·subst hlen
   exact⟨[],⟨0,0,0,false⟩,.e0,nilIn,fun key l _=>.e0 _ _,fun h D _ _=>.le0⟩
  ·obtain⟨b,off,spot⟩:=x
   have hc:=hcell 0 (by omega)
   have hspot:spot=none:=by simpa [Addr.add] using World.cell?_spot hc
   subst hspot
   have hlt:b<W.heap.size:=by
    rcases Nat.lt_or_ge b W.heap.size with q|q
    ·exact q
    ·rw[zcn] at hc
     simp[World.cell?,Array.getElem?_eq_none q] at hc
   have hget:∀i (hi:i<((zs.take len).map fun z=>AV.i k z).length),((zs.take len).map fun z=>AV.i k z)[i]=.i k (zs.getD i 0):=fun i hi=>by
    have hi':i<zs.length:=by simp at hi;omega
    simp only[List.getElem_map,List.getElem_take,List.getD]
    rw[List.getElem?_eq_getElem hi'];rfl
   refine⟨(zs.take len).map fun z=>.i k z,⟨b,off,cap,false⟩,.sl n 0 len cap 1,⟨hlt,rfl,by simp;omega,fun i hi=>?_⟩,fun key l hn=>?_,fun h D hb hD=>?_⟩
   ·rw[hget i hi]
    have hi':i<zs.length:=by simp at hi;omega
    have:=hcell i hi'
    rw[zcn] at this
    exact⟨rfl,_,this,fun key l=>.i _ _⟩
   ·have:=Rel.sl (key:=key) (off:=0) (len:=len) (cap:=cap) (cap':=cap) (z:=1) hn (Nat.le_refl _) (by show 0+cap*1≤cap;omega) hl
    exact this
   ·have hfl:flat ((zs.take len).map fun z=>PV.i k z)=(zs.take len).map fun z=>PV.i k z:=by
     generalize zs.take len=ys
     induction ys with
     | nil=>rfl
     | cons y ys ih=>rw[List.map_cons];show [PV.i k y]++flat _=_;rw[ih];rfl
    have hll:((zs.take len).map fun z=>PV.i k z).length=len:=by simp;omega
    have:=V.lst (h:=h) (D:=D) (r:=[]) (xs:=(zs.take len).map fun z=>PV.i k z) (m:=n) (off:=0) (cap:=cap) (z:=1) (fun i=>.i k (zs.getD i 0)) hb hD (by rw[hfl,List.all_eq_true];intro x hx;obtain⟨y,_,rfl⟩:=List.mem_map.1 hx;rfl) (by decide) (fun x hx=>by
     obtain⟨y,_,rfl⟩:=List.mem_map.1 hx;rfl) (by rw[hll];exact hl) (fun i hi=>by
     rw[hfl] at hi
     have hi2:i<((zs.take len).map fun z=>AV.i k z).length:=by simpa using hi
     rw[Nat.zero_add,List.getElem?_eq_getElem hi2,hget i hi2]) (fun i hi=>by
     have hi1:i<((zs.take len).map fun z=>PV.i k z).length:=by rw[hfl] at hi;exact hi
     have e:(flat ((zs.take len).map fun z=>PV.i k z))[i]=.i k (zs.getD i 0):=by
      simp only[hfl,List.getElem_map,List.getElem_take,List.getD]
      rw[List.getElem?_eq_getElem (by simp at hi1;omega)];rfl
     rw[e]
     exact .i _ _)
    rw[hll] at this
    exact this
theorem row_heap {P:Program} {W:World} {G:Nat} (hg:P.globalNamed "internal/strconv.uint64pow10" = some G) (ht:Lib.TabIs P W "internal/strconv.uint64pow10" .u64 Lib.pow10Tab):0<W.heap.size:=by
 unfold Lib.TabIs World.var? at ht
 rw[hg] at ht
 simp only[Option.bind_some] at ht
 split at ht
 ·rename_i cs t fz hh
  rcases Nat.eq_zero_or_pos W.heap.size with q|q
  ·rw[Array.getElem?_eq_none (by omega)] at hh;cases hh
  ·exact q
 ·cases ht
theorem ints_row {W:World} {a:Option Addr} {len cap:Nat} {zs:List Int} (h:IsRow .i64 W a len cap zs):Ints (zs.take len):=by
 rcases h with⟨rfl,rfl,rfl,rfl⟩|⟨x,rfl,hl,hm,hz,hcell,hwz⟩
 ·exact⟨by simp,fun n hn=>by simp at hn⟩
 ·refine⟨?_,fun n hn=>?_⟩
  ·have:maxLen≤9223372036854775807:=by decide
   simp;omega
  ·have:=bounds_i64 (hwz n (List.mem_of_mem_take hn))
   exact this
end Go.Eng
namespace Go.Eng
open Go.RowKit
end Go.Eng
namespace Go.Eng
open Go.RowKit
def isFnT (P:Program) (t:TypeId):Bool:=match P.underlying t with|some (.func ..)=>true|_=>false
theorem zlo {H:Type} {enc:TypeId×Value→H} {P:Program} {w:World} {base:Nat} {sp:Nat→Bool} {fuel:Nat} {t:TypeId} {v:Value} {x:H} {p:List MemPlace} (ht:isFnT P t=true) (h:DataW.trod enc P w base sp true fuel t [v]=some (.held x,p)) :
  ∃fn first captured,v=.func fn first captured∧enc (t,v)=x:=by
 unfold isFnT at ht
 split at ht
 ·rename_i hu
  cases fuel with
  | zero=>simp[DataW.trod] at h
  | succ fuel =>
   simp only[DataW.trod,hu] at h
   cases v with
   | func fn first captured =>
    simp only[if_true,Option.some.injEq,Prod.mk.injEq,DataW.held.injEq] at h
    exact⟨fn,first,captured,rfl,h.1⟩
   | _=>simp at h
 ·cases ht
theorem zis {P:Program} {t:TypeId} {fn:Fn} {first captured:Array Value} {b:UInt8} {r:List UInt8} (h:funcToken P (t,.func fn first captured)=b::r) :
  ∃f fc,fn=.func f∧first = #[]∧captured = #[]∧P.funcs[f]?=some fc∧fc.name.toUTF8.data.toList=b::r:=by
 cases fn with
 | func f =>
  simp only[funcToken] at h
  split at h
  ·rename_i he
   split at h
   ·rename_i fc hf
    split at h
    ·rw[Bool.and_eq_true] at he
     exact⟨f,fc,rfl,Array.isEmpty_iff.1 he.1,Array.isEmpty_iff.1 he.2,hf,h⟩
    ·cases h
   ·cases h
  ·cases h
 | _=>simp[funcToken] at h
def oneFn (P:Program) (name:List UInt8) (F:FuncId):Bool:=(List.range P.funcs.size).all fun i=>match P.funcs[i]? with|some fn => !(fn.name.toUTF8.data.toList==name) || i==F|none=>true
theorem zhP {P:Program} {name:List UInt8} {F f:FuncId} {fc:Func} (h:oneFn P name F=true) (hf:P.funcs[f]?=some fc) (hn:fc.name.toUTF8.data.toList=name):f=F:=by
 unfold oneFn at h
 rw[List.all_eq_true] at h
 have hlt:f<P.funcs.size:=by
  by_cases q:f<P.funcs.size
  ·exact q
  ·rw[Array.getElem?_eq_none (Nat.le_of_not_lt q)] at hf;cases hf
 have:=h f (List.mem_range.2 hlt)
 rw[hf] at this
 simp only[hn] at this
 simpa using this
theorem zl1 {P:Program} {key:Nat→Option FuncId} {W:World} {n g K1 K2:Nat} {F1 F2:FuncId} {name:String} {t:TypeId} {fs:Array Field} {fa fb:Field} {b1 b2:UInt8} {r1 r2:List UInt8} {d:DataW Unit}
  (hg:P.globalNamed name=some g) (hty:(P.globals[g]?).map (·.type)=some t) (ht:P.underlying t=some (.struct fs)) (hfs:fs.toList=[fa,fb]) (hoa:fa.offset=0) (hob:fb.offset=1)
  (hca:P.cellsOf fa.type=1) (hcb:P.cellsOf fb.type=1) (hct:P.cellsOf t=2) (hua:isFnT P fa.type=true) (hub:isFnT P fb.type=true) (h1:oneFn P (b1::r1) F1=true) (h2:oneFn P (b2::r2) F2=true)
  (k1:key K1=some F1) (k2:key K2=some F2) (hn:globG n=some [.fn K1 [],.fn K2 []]) (hd:d.funcsOut=.agg [.held (b1::r1),.held (b2::r2)]) (h:funcsAt P W name d):GlobIn key W n ⟨g,0,2,true⟩:=by
 obtain⟨g',t',cs,fuel,p,hg',ht',hvar,htr⟩:=h
 obtain rfl:=Option.some.inj (hg.symm.trans hg')
 obtain rfl:=Option.some.inj (hty.symm.trans ht')
 rw[hd] at htr
 cases fuel with
 | zero=>simp[DataW.trod] at htr
 | succ fuel =>
  simp only[DataW.trod,ht,hct] at htr
  split at htr
  ·rename_i hl
   obtain⟨v1,v2,hc⟩:∃v1 v2,cs.toList=[v1,v2]:=by
    generalize cs.toList=l at hl
    match l,hl with
    | [a,b],_=>exact⟨a,b,rfl⟩
   rw[hfs,hc] at htr
   obtain⟨xs,hm,hx⟩:=Option.map_eq_some_iff.1 htr
   simp only[List.mapM_cons,List.mapM_nil,hoa,hob,hca,hcb,List.drop_zero,List.take_succ_cons,List.take_zero,List.drop_succ_cons] at hm
   simp only[Option.bind_eq_bind,Option.bind_eq_some_iff,Option.pure_def,Option.some.injEq] at hm
   obtain⟨x1,e1,ys,⟨x2,e2,zs,rfl,rfl⟩,rfl⟩:=hm
   simp only[List.map_cons,List.map_nil,Prod.mk.injEq,DataW.agg.injEq,List.cons.injEq,and_true] at hx
   obtain⟨⟨y1,y2⟩,_⟩:=hx
   obtain⟨x1,p1⟩:=x1
   obtain⟨x2,p2⟩:=x2
   simp only at y1 y2
   subst y1 y2
   obtain⟨fn1,fi1,ca1,rfl,t1⟩:=zlo hua e1
   obtain⟨fn2,fi2,ca2,rfl,t2⟩:=zlo hub e2
   obtain⟨f1,fc1,rfl,rfl,rfl,m1,n1⟩:=zis t1
   obtain⟨f2,fc2,rfl,rfl,rfl,m2,n2⟩:=zis t2
   obtain rfl:=zhP h1 m1 n1
   obtain rfl:=zhP h2 m2 n2
   have hb:∃cs' t fz,W.heap[g]?=some (.cells cs' t fz)∧cs'=cs:=by
    unfold World.var? at hvar
    rw[hg] at hvar
    simp only[Option.bind_some] at hvar
    split at hvar
    ·rename_i cs' t fz hh
     cases hvar
     exact⟨_,t,fz,hh,rfl⟩
    ·cases hvar
   obtain⟨cs',t'',fz,hh,rfl⟩:=hb
   refine⟨rfl,_,_,t'',fz,hn,hh,Nat.le_refl _,?_⟩
   rw[hc]
   refine RelL.cons ?_ (RelL.cons ?_ .nil)
   ·exact .fn (vs:=[]) (ws := #[]) k1 rfl (fun i h=>by simp at h)
   ·exact .fn (vs:=[]) (ws := #[]) k2 rfl (fun i h=>by simp at h)
  ·cases htr
def fnTabB (P:Program) (g:Nat):Bool :=
 match (P.globals[g]?).map (·.type) with
 | some t =>
  match P.underlying t with
  | some (.struct fs) =>
   match fs.toList with
   | [fa,fb]=>fa.offset==0&&(fb.offset==1&&(P.cellsOf fa.type==1&&(P.cellsOf fb.type==1&&(P.cellsOf t==2&&(isFnT P fa.type&&isFnT P fb.type)))))
   | _=>false
  | _=>false
 | none=>false
theorem glob_fnsB {P:Program} {key:Nat→Option FuncId} {W:World} {n g K1 K2:Nat} {F1 F2:FuncId} {name:String} {b1 b2:UInt8} {r1 r2:List UInt8} {d:DataW Unit}
  (hg:P.globalNamed name=some g) (hB:fnTabB P g=true) (h1:oneFn P (b1::r1) F1=true) (h2:oneFn P (b2::r2) F2=true)
  (k1:key K1=some F1) (k2:key K2=some F2) (hn:globG n=some [.fn K1 [],.fn K2 []]) (hd:d.funcsOut=.agg [.held (b1::r1),.held (b2::r2)]) (h:funcsAt P W name d):GlobIn key W n ⟨g,0,2,true⟩:=by
 unfold fnTabB at hB
 split at hB
 ·rename_i t ht
  split at hB
  ·rename_i fs hu
   split at hB
   ·rename_i fa fb hfs
    simp only[Bool.and_eq_true,beq_iff_eq] at hB
    obtain⟨h3,h4,h5,h6,h7,h8,h9⟩:=hB
    exact zl1 hg ht hu hfs h3 h4 h5 h6 h7 h8 h9 h1 h2 k1 k2 hn hd h
   ·cases hB
  ·cases hB
 ·cases hB
noncomputable def witW (P:Program) (n:Nat) (os:Os) (data:List (String×DataW Unit)):World:=(World.doorLaid P n os).layVars P data
theorem laidH_wit {P:Program} {os:Os} {n fuel:Nat} {laid:List (String×DataW Unit)} (args:Array Value)
  (hf:(World.doorLaid P n os).layFits P (laid.filter fun x=>x.2.handleName?.isNone) []=true)
  (hi:(World.doorLaid P n os).layIfaces P (laid.filter fun x=>x.2.handleName?.isNone) (witW P n os (laid.filter fun x=>x.2.handleName?.isNone))=true)
  (hh:(laid.filter fun x=>x.2.handleName?.isSome&&x.2.funcsIn?.isNone).all (handleAtB P (witW P n os (laid.filter fun x=>x.2.handleName?.isNone)))=true)
  (hF:funcsRun P (witW P n os (laid.filter fun x=>x.2.handleName?.isNone)) fuel ((funcsListed laid).map (·.1))=some ((funcsListed laid).map (·.2.funcsOut))) :
  laidMetH P laid ((witW P n os (laid.filter fun x=>x.2.handleName?.isNone)).forCall (fun _ _=>0) ⟨#[],args,[]⟩).memory:=by
 have hd:laidMet P (laid.filter fun x=>x.2.handleName?.isNone) (witW P n os (laid.filter fun x=>x.2.handleName?.isNone)):=by
  clear hh hF
  generalize (laid.filter fun x=>x.2.handleName?.isNone)=l at *
  have e1:(l.filter fun x=>(l.map (·.1)).contains x.1)=l:=List.filter_eq_self.2 fun x hx=>List.contains_iff_mem.2 (List.mem_map.2 ⟨x,hx,rfl⟩)
  have e2:(l.filter fun x => !(l.map (·.1)).contains x.1)=[]:=List.filter_eq_nil_iff.2 fun x hx=>by rw[List.contains_iff_mem.2 (List.mem_map.2 ⟨x,hx,rfl⟩)];simp
  exact laidMet_layVars (w0:=World.doorLaid P n os) (l.map (·.1)) [] (by rw[e1];rfl) (by rw[e1];exact hf) (by rw[e1];exact hi) (by rw[e2];exact LaidIn.none)
 have hm:laidMetH P laid (witW P n os (laid.filter fun x=>x.2.handleName?.isNone)):=laidMetH_of_parts3 hd hh hF
 exact hm.of_heap (by simp[World.memory,World.forCall,Input.heap])
theorem down_glob:globG 3=some [.fn 296 [],.fn 297 []]:=rfl
theorem up_glob:globG 4=some [.fn 298 [],.fn 299 []]:=rfl
theorem laidH_fn {P:Program} {laid:List (String×DataW Unit)} {W:World} {name:String} {x d:DataW Unit} (h:laidMetH P laid W) (hx:x.handleName?.isSome=true) (hm:(name,x)∈laid) (hi:x.funcsIn?=some d):funcsAt P W name d:=by
 have hm2:(name,x)∈laid.filter fun x=>x.2.handleName?.isSome:=List.mem_filter.2 ⟨hm,hx⟩
 unfold laidMetH at h
 split at h
 ·rename_i he;rw[he] at hm2;cases hm2
 ·rename_i a l he
  have:=h.2 _ (he ▸ hm2)
  simp only at this
  rw[hi] at this
  exact this
theorem laidH_met {P:Program} {laid:List (String×DataW Unit)} {W:World} (h:laidMetH P laid W):laidMet P (laid.filter fun x=>x.2.handleName?.isNone) W:=by
 unfold laidMetH at h
 split at h
 ·rename_i he
  have e:(laid.filter fun x=>x.2.handleName?.isNone)=laid:=by
   rw[List.filter_eq_self]
   intro x hx
   have:=(List.filter_eq_nil_iff.1 he) x hx
   cases hn:x.2.handleName? with
   | none=>rfl
   | some s=>rw[hn] at this;exact absurd rfl this
  rw[e];exact h
 ·exact h.1
end Go.Eng
namespace Go.Eng
def gI (p q:Int):Int:=((Nat.gcd p.natAbs q.natAbs:Nat):Int)
def lowP (p q:Int):Int:=(if q<0 then-p else p)/gI p q
def lowQ (p q:Int):Int:=(if q<0 then-q else q)/gI p q
theorem zf7 {p q:Int} (h:q≠0):gI p q≠0:=by
 unfold gI
 intro e
 have:Nat.gcd p.natAbs q.natAbs=0:=by omega
 have:=Nat.eq_zero_of_gcd_eq_zero_right this
 omega
theorem zeh {p q:Int} (h:q≠0):0<gI p q:=by
 have:=zf7 (p:=p) h
 unfold gI at *
 omega
theorem zct (p q:Int):gI p q∣p:=Int.ofNat_dvd_left.2 (Nat.gcd_dvd_left _ _)
theorem zcV (p q:Int):gI p q∣q:=Int.ofNat_dvd_left.2 (Nat.gcd_dvd_right _ _)
theorem znm (p q:Int):gI (-p) (-q)=gI p q:=by unfold gI;rw[Int.natAbs_neg,Int.natAbs_neg]
theorem zel {p q:Int} (h:q≠0):lowP p q*gI p q=(if q<0 then-p else p)∧lowQ p q*gI p q=(if q<0 then-q else q):=by
 unfold lowP lowQ
 refine⟨Int.ediv_mul_cancel ?_,Int.ediv_mul_cancel ?_⟩
 ·split
  ·exact Int.dvd_neg.2 (zct p q)
  ·exact zct p q
 ·split
  ·exact Int.dvd_neg.2 (zcV p q)
  ·exact zcV p q
theorem zdu {p q:Int} (h:q≠0):0<lowQ p q:=by
 have h1:=(zel (p:=p) h).2
 have h2:=zeh (p:=p) h
 have h3:0<lowQ p q*gI p q:=by rw[h1];split<;>omega
 exact Int.pos_of_mul_pos_left h3 h2
theorem zcv {p q:Int} (h:q≠0):lowP p q*q=p*lowQ p q:=by
 obtain⟨h1,h2⟩:=zel (p:=p) h
 have h3:=zf7 (p:=p) h
 apply Int.eq_of_mul_eq_mul_right h3
 rw[Int.mul_right_comm,h1,Int.mul_assoc,h2]
 split<;>grind
theorem zek {p q:Int} (h:q≠0):Nat.gcd (lowP p q).natAbs (lowQ p q).natAbs=1:=by
 obtain⟨h1,h2⟩:=zel (p:=p) h
 have h3:=zeh (p:=p) h
 have e1:(lowP p q).natAbs*(gI p q).natAbs=p.natAbs:=by rw[←Int.natAbs_mul,h1];split<;>omega
 have e2:(lowQ p q).natAbs*(gI p q).natAbs=q.natAbs:=by rw[←Int.natAbs_mul,h2];split<;>omega
 have e3:(gI p q).natAbs=Nat.gcd p.natAbs q.natAbs:=Int.natAbs_natCast _
 have e4:=Nat.gcd_mul_right (lowP p q).natAbs (gI p q).natAbs (lowQ p q).natAbs
 rw[e1,e2,←e3] at e4
 have:0<(gI p q).natAbs:=by omega
 exact Nat.eq_of_mul_eq_mul_right this (by rw[Nat.one_mul];exact e4.symm)
theorem zfu {p q r s:Int} (hq:0<q) (hs:0<s) (c1:Nat.gcd p.natAbs q.natAbs=1) (c2:Nat.gcd r.natAbs s.natAbs=1) (h:p*s=r*q):p=r∧q=s:=by
 have n1:p.natAbs*s.natAbs=r.natAbs*q.natAbs:=by rw[←Int.natAbs_mul,←Int.natAbs_mul,h]
 have d1:q.natAbs∣s.natAbs:=by
  have:q.natAbs∣p.natAbs*s.natAbs:=⟨r.natAbs,by rw[n1,Nat.mul_comm]⟩
  exact(Nat.Coprime.dvd_of_dvd_mul_left (by rw[Nat.coprime_comm];exact c1) this)
 have d2:s.natAbs∣q.natAbs:=by
  have:s.natAbs∣r.natAbs*q.natAbs:=⟨p.natAbs,by rw[←n1,Nat.mul_comm]⟩
  exact(Nat.Coprime.dvd_of_dvd_mul_left (by rw[Nat.coprime_comm];exact c2) this)
 have e:q.natAbs=s.natAbs:=Nat.dvd_antisymm d1 d2
 have e2:q=s:=by omega
 subst e2
 exact⟨Int.eq_of_mul_eq_mul_right (by omega) h,rfl⟩
theorem zoK {p q r s:Int} (hq:q≠0) (hs:s≠0) (h:p*s=r*q):lowP p q=lowP r s∧lowQ p q=lowQ r s:=by
 refine zfu (zdu hq) (zdu hs) (zek hq) (zek hs) ?_
 have a:=zcv (p:=p) hq
 have b:=zcv (p:=r) hs
 apply Int.eq_of_mul_eq_mul_right (a:=q*s) (Int.mul_ne_zero hq hs)
 calc lowP p q*lowQ r s*(q*s)=(lowP p q*q)*(lowQ r s*s):=by grind
  _=p*lowQ p q*(lowQ r s*s):=by rw[a]
  _=p*s*(lowQ p q*lowQ r s):=by grind
  _=r*q*(lowQ p q*lowQ r s):=by rw[h]
  _=r*lowQ r s*(lowQ p q*q):=by grind
  _=lowP r s*s*(lowQ p q*q):=by rw[b]
  _=lowP r s*lowQ p q*(q*s):=by grind
theorem zde {p q:Int} (hq:0<q) (c:Nat.gcd p.natAbs q.natAbs=1):lowP p q=p∧lowQ p q=q:=by
 unfold lowP lowQ gI
 rw[c,if_neg (by omega),if_neg (by omega)]
 exact⟨Int.ediv_one _,Int.ediv_one _⟩
theorem zfs {p q:Int} (h:q≠0):(lowP p q).natAbs≤p.natAbs:=by
 have h1:=(zel (p:=p) h).1
 have h3:=zeh (p:=p) h
 have e1:(lowP p q).natAbs*(gI p q).natAbs=p.natAbs:=by rw[←Int.natAbs_mul,h1];split<;>omega
 rw[←e1]
 exact Nat.le_mul_of_pos_right _ (by omega)
theorem zft {p q:Int} (h:q≠0):(lowQ p q).natAbs≤q.natAbs:=by
 have h1:=(zel (p:=p) h).2
 have h3:=zeh (p:=p) h
 have e1:(lowQ p q).natAbs*(gI p q).natAbs=q.natAbs:=by rw[←Int.natAbs_mul,h1];split<;>omega
 rw[←e1]
 exact Nat.le_mul_of_pos_right _ (by omega)
end Go.Eng
namespace Go.Eng
theorem zkX {n K:Nat} (hn:n=1229) (hK:K=16384):10000^n≤2^K:=by
 obtain⟨m,hm⟩:∃m,m=83:=⟨_,rfl⟩
 have e:(10000:Nat)^n=(10^59)^m*10^19:=by
  rw[show (10000:Nat)=10^4 from rfl,←Nat.pow_mul,←Nat.pow_mul,←Nat.pow_add]
  congr 1;omega
 have h1:(10:Nat)^59≤2^196:=by decide
 have h2:(10:Nat)^19≤2^64:=by decide
 have h3:((10:Nat)^59)^m≤(2^196)^m:=Nat.pow_le_pow_left h1 m
 have h4:(2^196)^m*2^64=2^(196*m+64):=by rw[←Nat.pow_mul,←Nat.pow_add]
 rw[e]
 refine Nat.le_trans (Nat.mul_le_mul h3 h2) ?_
 rw[h4]
 exact Nat.pow_le_pow_right (by decide) (by omega)
def inR (v:Nat):Prop:=v<2^16384
theorem zlX (v:Nat):(tlen v<1230∨v<2^16384)↔inR v:=by
 obtain⟨n,hn⟩:∃n,n=1229:=⟨_,rfl⟩
 have hb:=zkX (K:=16384) hn rfl
 unfold inR
 generalize (2:Nat)^16384=q at *
 constructor
 ·rintro (h|h)
  ·have h2:v<10000^n:=za3.1 (by omega)
   exact Nat.lt_of_lt_of_le h2 hb
  ·exact h
 ·exact .inr
theorem zaP (v:Nat):wlen v≤512↔inR v:=by
 obtain⟨n,hn⟩:∃n,n=512:=⟨_,rfl⟩
 rw[←hn,zaX]
 unfold inR
 have:(4294967296:Nat)^n=2^16384:=by
  rw[show (4294967296:Nat)=2^32 from rfl,←Nat.pow_mul]
  congr 1;omega
 rw[this]
end Go.Eng
namespace Go.Eng
end Go.Eng
namespace Go.Eng
noncomputable instance inRdec (v:Nat):Decidable (inR v):=Classical.propDecidable _
noncomputable def parseT (s:List UInt8):Int×Int :=
 let neg:Bool:=s.head?==some 45
 let ds:=if neg then s.drop 1 else s
 if 5000<s.length then (0,4)
 else if ds=[]∨(ds.head?=some 48∧(neg=true∨1<ds.length))∨¬ds.all isDig=true then (0,2)
 else if inR (tv ds) then (sgn neg (tv ds),0) else (0,4)
theorem zl2 {l:List UInt8}:(l=[]∨∃c t,l=c::t):=by cases l with
 | nil=>exact .inl rfl
 | cons c t=>exact .inr ⟨c,t,rfl⟩
theorem zdO (s:List UInt8):(5000<s.length∧parseT s=(0,4))∨(s.length≤5000∧∃neg ds,((neg=true∧s=45::ds)∨(neg=false∧s=ds∧ds.head?≠some 45)) ∧
  ((ds=[]∨(ds.head?=some 48∧(neg=true∨1<ds.length))∨¬ds.all isDig=true)∧parseT s=(0,2) ∨
   ds≠[]∧(ds.head?=some 48→neg=false∧ds.length=1)∧ds.all isDig=true∧(inR (tv ds)∧parseT s=(sgn neg (tv ds),0)∨¬inR (tv ds)∧parseT s=(0,4)))):=by
 by_cases hl:5000<s.length
 ·exact .inl ⟨hl,by unfold parseT;simp only[hl,if_true]⟩
 ·right
  refine⟨by omega,s.head?==some 45,if (s.head?==some 45) then s.drop 1 else s,?_,?_⟩
  ·by_cases h:s.head?=some 45
   ·left
    rw[h]
    refine⟨rfl,?_⟩
    cases s with
    | nil=>cases h
    | cons c t=>simp only[List.head?_cons,Option.some.injEq] at h;subst h;rfl
   ·right
    have:(s.head?==some 45)=false:=by simpa using h
    rw[this]
    exact⟨rfl,by simp,by simpa using h⟩
  ·have e:parseT s=(if (if (s.head?==some 45) then s.drop 1 else s)=[]∨((if (s.head?==some 45) then s.drop 1 else s).head?=some 48∧((s.head?==some 45)=true∨1<(if (s.head?==some 45) then s.drop 1 else s).length))∨¬(if (s.head?==some 45) then s.drop 1 else s).all isDig=true then (0,2)
     else if inR (tv (if (s.head?==some 45) then s.drop 1 else s)) then (sgn (s.head?==some 45) (tv (if (s.head?==some 45) then s.drop 1 else s)),0) else (0,4)):=by
    unfold parseT
    simp only[hl,if_false]
   rw[e]
   generalize (if (s.head?==some 45)=true then s.drop 1 else s)=ds
   generalize (s.head?==some 45)=neg
   by_cases h1:ds=[]∨(ds.head?=some 48∧(neg=true∨1<ds.length))∨¬ds.all isDig=true
   ·exact .inl ⟨h1,by rw[if_pos h1]⟩
   ·right
    rw[if_neg h1]
    have n1:ds≠[]:=fun q=>h1 (.inl q)
    refine⟨n1,fun q=>?_,?_,?_⟩
    ·have h2:¬(neg=true∨1<ds.length):=fun r=>h1 (.inr (.inl ⟨q,r⟩))
     have h3:ds.length≠0:=fun r=>n1 (List.eq_nil_of_length_eq_zero r)
     refine⟨?_,?_⟩
     ·cases neg
      ·rfl
      ·exact(h2 (.inl rfl)).elim
     ·have:¬1<ds.length:=fun r=>h2 (.inr r)
      omega
    ·by_cases q:ds.all isDig=true
     ·exact q
     ·exact(h1 (.inr (.inr q))).elim
    ·by_cases h3:inR (tv ds)
     ·exact .inl ⟨h3,by rw[if_pos h3]⟩
     ·exact .inr ⟨h3,by rw[if_neg h3]⟩
end Go.Eng
namespace Go.Eng
theorem zg1 (s:List UInt8) (hs:s.length<4611686018427387904):pf E0 85 [.s s,.s [45]]=some (.b (s.head?==some 45)):=by
 refine zaa (xf:=zzP) rfl (by simp[zzP]) ?_
 simp only[zzP]
 cases s with
 | nil =>
  have q1:(((0:Nat):Int)≥1)=False:=by simp
  simp(disch:=omega)only[go_sem,seval,wqq,Int.natCast_one,q1,Int.natCast_zero,Int.reduceLE,ge_iff_le]
  rfl
 | cons c t =>
  have q1:(((t.length+1:Nat):Int)≥1)=True:=by simp;omega
  have hc:slStrP (c::t) none (some (.i .i64 1))=some (.s [c]):=by
   simp only[slStrP,optP,show (PV.i IntKind.i64 1)=.i .i64 ((1:Nat):Int) from rfl,zbf]
   rw[if_pos ⟨by omega,by simp⟩];rfl
  simp(disch:=omega)only[go_sem,seval,wqq,Int.natCast_one,q1,hc]
  congr 2
  by_cases h:c=45
  ·subst h;rfl
  ·have:(some c==some (45:UInt8))=false:=by simpa using h
   simp[h,this]
theorem zgY {neg:Bool} {s ds:List UInt8} (hs:s.length<4611686018427387904) (h:(neg=true∧s=45::ds)∨(neg=false∧s=ds∧ds.head?≠some 45)):pf E0 129 [.s s,.s [45]]=some (.tu [.s ds,.b neg]):=by
 have inner:pf E0 137 [.s s,.s [45]]=some (.tu [.s ds,.b neg]):=by
  refine zaa (xf:=zzO) rfl (by simp[zzO]) ?_
  simp only[zzO]
  have hp:=zg1 s hs
  rcases h with⟨rfl,rfl⟩|⟨rfl,rfl,h45⟩
  ·have e:((45::ds).head?==some (45:UInt8))=true:=rfl
   rw[e] at hp
   have hc:slStrP (45::ds) (some (.i .i64 1)) none=some (.s ds):=by
    simp only[slStrP,optP,show (PV.i IntKind.i64 1)=.i .i64 ((1:Nat):Int) from rfl,zbf]
    rw[if_pos ⟨by simp,Nat.le_refl _⟩]
    simp
   simp(disch:=omega)only[go_sem,seval,wqq,hp,Int.natCast_one,hc]
  ·have e:(s.head?==some (45:UInt8))=false:=by simpa using h45
   rw[e] at hp
   simp(disch:=omega)only[go_sem,seval,wqq,hp]
 refine zaa (xf:=zAg) rfl (by simp[zAg]) ?_
 simp only[zAg]
 simp(disch:=omega)only[go_sem,seval,wqq,inner]
set_option maxRecDepth 20000 in
theorem zmT (ds:List UInt8):((((ds.reverse.dropWhile (([48,49,50,51,52,53,54,55,56,57]:List UInt8).contains ·)).reverse).dropWhile (([48,49,50,51,52,53,54,55,56,57]:List UInt8).contains ·))=[])=(ds.all isDig=true):=by
 have hc:∀c:UInt8,([48,49,50,51,52,53,54,55,56,57]:List UInt8).contains c=isDig c:=fun c=>by
  have h:∀n:Fin 256,([48,49,50,51,52,53,54,55,56,57]:List UInt8).contains (UInt8.ofNat n.val)=isDig (UInt8.ofNat n.val):=by decide
  have h2:=h ⟨c.toNat,c.toNat_lt⟩
  simpa using h2
 simp only[hc]
 have aux:∀l:List UInt8,l.dropWhile isDig=[]↔l.all isDig=true:=fun l=>by
  induction l with
  | nil=>simp
  | cons c l ih =>
   rw[List.dropWhile_cons,List.all_cons,Bool.and_eq_true]
   by_cases h:isDig c=true
   ·rw[if_pos h,ih];simp[h]
   ·rw[if_neg h];simp[h]
 apply propext
 rw[aux,List.all_reverse]
 constructor
 ·intro h
  by_cases hd:ds.all isDig=true
  ·exact hd
  ·exfalso
   have h1:ds.reverse.dropWhile isDig≠[]:=fun q=>hd (by rw[←List.all_reverse];exact(aux _).1 q)
   obtain⟨c,t,he⟩:∃c t,ds.reverse.dropWhile isDig=c::t:=by
    cases hq:ds.reverse.dropWhile isDig with
    | nil=>exact(h1 hq).elim
    | cons c t=>exact⟨c,t,rfl⟩
   have h2:=List.head?_dropWhile_not isDig ds.reverse
   rw[he] at h h2
   simp only[List.head?_cons] at h2
   simp only[List.all_cons,Bool.and_eq_true] at h
   rw[h.1] at h2
   simp at h2
 ·intro hd
  have:ds.reverse.dropWhile isDig=[]:=(aux _).2 (by rw[List.all_reverse];exact hd)
  rw[this];rfl
theorem zpT (ds:List UInt8) (h:ds.length≤9223372036854775807):∃t,(t=[]↔ds.all isDig=true)∧pf E0 130 [.s ds,.s [48,49,50,51,52,53,54,55,56,57]]=some (.s t):=by
 refine⟨_,by rw[←zmT ds],zmx ?_ rfl⟩
 simp only[orcP,libP]
 rw[if_neg (by decide),if_pos ⟨trivial,h,by decide,by decide⟩]
 rfl
theorem zn6 {l:List UInt8} (h0:l≠[]) (h1:l.length≤18) (h2:l.all isDig=true):pf E0 131 [.s l]=some (.tu [.i .i64 (tv l:Nat),.inil]):=by
 refine zmy ?_ rfl
 simp only[orcP,libP]
 rw[if_neg (by decide),if_pos ⟨trivial,h0,h1,h2⟩]
 rfl
theorem zsq {v:Nat} (h:v<4294967296):PV.lst [(PV.i .u32 ((v:Nat):Int))]=Dw 1 v:=by
 have e:tab 1 (fun k=>(PV.i .u32 ((dgt v k:Nat):Int)))=[(PV.i .u32 ((dgt v 0:Nat):Int))]:=rfl
 rw[Dw,e,zf0,Nat.mod_eq_of_lt h]
theorem zju {v n:Nat} (h:v<10^n):wlen v≤n:=by
 rw[zaX]
 exact Nat.lt_of_lt_of_le h (Nat.pow_le_pow_left (by decide) n)
def wparse_R:XC:=match zAm.body with
 | .seq _ (.seq _ (.seq _ (.seq _ (.seq _ (.seq _ r)))))=>r
 | _=>.skip
theorem zlx {F:PFin} {ds:List UInt8} (hl:ds.length≤5000) (hd:ds.all isDig=true) {fr:PFr} {B:PB} {neg:Bool} (h2:fr 2=.p 0 0) (h4:fr 4=.s ds) (h5:fr 5=.b neg) (h6:fr 6=.nl)
  (cont:∀(fr':PFr) (M':PM),fr' 2=.p 0 0→fr' 5=.b neg→(∀M d,fz M (d+1) (fr' 6)=some (D (tv ds),[]))→PM.blk M' 0=some B→WK E0 F wparse_R [] fr' M') :
  WK E0 F (.loop zBd) [.block 0,.seq wparse_R] fr [some B]:=by
 refine zan zBd.eq_1 (fun(x:Nat×List UInt8) fr M=>x.2.length≤ds.length∧x.2.all isDig=true∧(x.1=0∨x.2.length%9=0)∧x.1*10^x.2.length+tv x.2=tv ds∧fr 2=.p 0 0∧fr 4=.s x.2∧fr 5=.b neg∧(∀M d,fz M (d+1) (fr 6)=some (D x.1,[]))∧PM.blk M 0=some B) (fun x=>x.2.length) ?_ (0,ds) ⟨Nat.le_refl _,hd,.inl rfl,by simp,h2,h4,h5,fun M d=>by rw[h6];rfl,rfl⟩
 rintro⟨m,rs⟩ fr M ⟨hrl,hrd,h9,hv,h2,h4,h5,h6,hb⟩ ih
 simp only at hrl hrd h9 hv h4 h6 ih
 cases rs with
 | nil =>
  have hm:m=tv ds:=by simpa [tv] using hv
  subst hm
  simp(disch:=omega)only[go_sem,seval,wqq,h4,Int.natCast_zero,Int.lt_irrefl,gt_iff_lt]
  exact cont _ _ (h2) (h5) (fun M d=>by simp only[go_sem,seval];exact h6 M d) hb
 | cons c t =>
  have htl:t.length<5000:=by simp only[List.length_cons] at hrl;omega
  obtain⟨n,hn⟩:∃n,n=t.length%9+1:=⟨_,rfl⟩
  have hn9:n≤9:=by omega
  have hnl:n≤(c::t).length:=by simp;omega
  have q1:(((t.length+1:Nat):Int)>0)=True:=by simp
  have i1:(((t.length+1:Nat):Int)-1)=((t.length:Nat):Int):=by omega
  have i2:((t.length:Int)).tmod 9=((t.length%9:Nat):Int):=zcb t.length 9
  have i3:((t.length%9:Nat):Int)+1=(n:Int):=by omega
  obtain⟨a,ha⟩:∃a,a=(c::t).take n:=⟨_,rfl⟩
  obtain⟨b,hbb⟩:∃b,b=(c::t).drop n:=⟨_,rfl⟩
  have hal:a.length=n:=by rw[ha,List.length_take];omega
  have hbl:b.length=(c::t).length-n:=by rw[hbb,List.length_drop]
  have hab:c::t=a++b:=by rw[ha,hbb,List.take_append_drop]
  have had:a.all isDig=true:=by rw[hab,List.all_append,Bool.and_eq_true] at hrd;exact hrd.1
  have hbd:b.all isDig=true:=by rw[hab,List.all_append,Bool.and_eq_true] at hrd;exact hrd.2
  have hc1:slStrP (c::t) none (some (.i .i64 (n:Int)))=some (.s a):=by
   simp only[slStrP,optP,zbf]
   rw[if_pos ⟨by omega,hnl⟩,List.drop_zero,ha]
  have hc2:slStrP (c::t) (some (.i .i64 (n:Int))) none=some (.s b):=by
   simp only[slStrP,optP,zbf]
   rw[if_pos ⟨hnl,Nat.le_refl _⟩,List.take_length,hbb]
  have hat:=zn6 (l:=a) (by intro q;rw[q] at hal;simp at hal;omega) (by omega) had
  have hav:tv a<1000000000:=Nat.lt_of_lt_of_le (zmU a had) (by rw[hal];exact Nat.pow_le_pow_right (by decide) hn9)
  have hvd:=zmU ds hd
  have hmv:m<10^ds.length:=by
   have:m*1≤m*10^(c::t).length:=Nat.mul_le_mul_left _ (Nat.pow_pos (by decide))
   omega
  have hml:=zju hmv
  have hmlt:=zaf m
  have h59:pf E0 59 [D m,Dw 1 1000000000]=some (Dw (wlen m+1) (m*1000000000)):=zid hmlt (by decide) (by omega) (by omega)
  have hmm:m*1000000000<4294967296^(wlen m+1):=by rw[Nat.pow_succ];exact Nat.mul_lt_mul'' hmlt (by decide)
  have h40:pf E0 40 [Dw (wlen m+1) (m*1000000000),Dw 1 (tv a)]=some (Dw (max (wlen m+1) 1+1) (m*1000000000+tv a)):=zps hmm (by omega) (by omega) (by omega)
  have hsl:m*1000000000+tv a<4294967296^(max (wlen m+1) 1+1):=by
   rw[Nat.max_eq_left (by omega)]
   have h1:m*1000000000+tv a<(m+1)*1000000000:=by rw[Nat.add_mul,Nat.one_mul];exact Nat.add_lt_add_left hav _
   have h2:(m+1)*1000000000≤4294967296^wlen m*4294967296:=by
    refine Nat.mul_le_mul (Nat.succ_le_of_lt hmlt) ?_
    omega
   rw[←Nat.pow_succ] at h2
   exact Nat.lt_of_lt_of_le h1 (Nat.le_trans h2 (Nat.pow_le_pow_right (by decide) (by omega)))
  have h49:pf E0 49 [Dw (max (wlen m+1) 1+1) (m*1000000000+tv a)]=some (D (m*1000000000+tv a)):=zbY hsl (by omega)
  have w1:PV.lst [.i .u32 1000000000]=Dw 1 1000000000:=zsq (v:=1000000000) (by decide)
  have w2:PV.lst [(PV.i .u32 ((tv a:Nat):Int))]=Dw 1 (tv a):=zsq (by omega)
  simp(disch:=omega)only[go_sem,seval,wqq,h4,q1,i1,i2,i3,hc1,hc2,hat,h6,w1,h59,zbb,group,List.headD_cons,w2,h40,h49,zcf]
  have hnew:(m*1000000000+tv a)*10^b.length+tv b=tv ds:=by
   rw[←hv,hab,znW,List.length_append,Nat.pow_add,hal]
   rcases h9 with h9|h9
   ·rw[h9];simp
   ·have:n=9:=by simp only[List.length_cons] at h9;omega
    rw[this]
    show (m*10^9+tv a)*10^b.length+tv b=m*(10^9*10^b.length)+(tv a*10^b.length+tv b)
    rw[Nat.add_mul,Nat.mul_assoc];omega
  have hb9:b.length%9=0:=by rw[hbl];simp only[List.length_cons];omega
  refine ih (m*1000000000+tv a,b) _ _ (by rw[hbl];simp only[List.length_cons];omega) ⟨by simp only;omega,hbd,.inr hb9,hnew,h2,rfl,h5,fun M d=>rfl,?_⟩
  refine zbk (zbk hb _) _
theorem zpd (s:List UInt8) (hs:s.length<4611686018427387904):pf E0 110 [.s s]=some (.tu [wiP (clip (parseT s).1),.i .i64 (parseT s).2]):=by
 refine zaa (xf:=zAm) rfl (by simp[zAm]) ?_
 have c0:clip 0=wi0:=zbB (z:=0) (by simp[zbI])
 rcases zdO s with⟨hl,hp⟩|⟨hl,neg,ds,hsg,hsp⟩
 ·rw[hp,c0]
  simp only[zAm]
  have q1:((s.length:Int)>5000)=True:=by simp;omega
  simp(disch:=omega)only[go_sem,seval,wqq,q1]
 ·have hdl:ds.length≤5000:=by
   rcases hsg with⟨_,rfl⟩|⟨_,rfl,_⟩
   ·simp at hl;omega
   ·exact hl
  have q1:((s.length:Int)>5000)=False:=by simp;omega
  have hcp:=zgY hs hsg
  obtain⟨t,ht1,ht2⟩:=zpT ds (by omega)
  have good:ds.all isDig=true→(inR (tv ds)∧parseT s=(sgn neg (tv ds),0)∨¬inR (tv ds)∧parseT s=(0,4))→∀{fr:PFr},fr 2=.p 0 0→fr 4=.s ds→fr 5=.b neg→fr 6=.nl →
    WK E0 ⟨[.cell 2 true 2,.tmp 3],fun w M2=>(fz M2 fzD w).map Prod.fst=some (.tu [wiP (clip (parseT s).1),.i .i64 (parseT s).2])⟩ (.loop zBd) [.block 0,.seq wparse_R] fr [some ⟨[.b false,.nl],true,0⟩]:=fun hd hp {fr} h2 h4 h5 h6=>by
   refine zlx hdl hd h2 h4 h5 h6 fun fr' M' g2 g5 g6 gb=>?_
   unfold wparse_R
   simp only[zAm]
   have hsi:=zaO neg (wlen (tv ds)) (tv ds) (zaf _) (by have:=zju (zmU ds hd);omega)
   have hlt:=zco gb
   have hset:∀Y,PM.blk (List.set M' 0 (some Y)) 0=some Y:=fun Y=>zb3 hlt
   have hres:parseT s=((if inR (tv ds) then (if neg then-(tv ds:Int) else (tv ds:Int)) else 0),lerr (tv ds:Int)):=by
    rcases hp with⟨h1,h2⟩|⟨h1,h2⟩
    ·rw[h2,if_pos h1,zaR (by simpa using (zaP _).2 h1)];rfl
    ·rw[h2,if_neg h1,zfr (by simpa using fun q=>h1 ((zaP _).1 q))]
   have hcl:clip (if neg then-(tv ds:Int) else (tv ds:Int))=clip (parseT s).1:=by
    rw[hres]
    by_cases h1:inR (tv ds)
    ·simp only[if_pos h1]
    ·simp only[if_neg h1]
     rw[zfb,c0]
     cases neg<;>simp<;>exact Nat.lt_of_not_le fun q=>h1 ((zaP _).1 q)
   rw[hcl] at hsi
   have he:lerr (tv ds:Int)=(parseT s).2:=by rw[hres]
   rw[he] at hsi
   simp(disch:=omega)only[go_sem,seval,wqq,g2,g5,g6,hsi,gb,hset]
  simp only[zAm]
  rcases zl2 (l:=ds) with rfl|⟨c,r,rfl⟩
  ·have hp:parseT s=(0,2):=by
    rcases hsp with⟨_,h⟩|⟨h,_⟩
    ·exact h
    ·exact(h rfl).elim
   rw[hp,c0]
   simp(disch:=omega)only[go_sem,seval,wqq,q1,hcp]
  ·have q0:(c::r=[])=False:=by simp
   by_cases ha:(c::r).all isDig=true
   ·have htn:(t=[])=True:=by simp[ht1.2 ha]
    have hts:(t≠[])=False:=by simp[ht1.2 ha]
    by_cases h48:c.toNat=48
    ·have q2:((c.toNat:Int)=48)=True:=by simp;omega
     have hc:c=48:=UInt8.toNat_inj.1 h48
     cases neg
     ·by_cases hr:r=[]
      ·have q3:(((r.length+1:Nat):Int)>1)=False:=by subst hr;simp
       have hp:inR (tv (c::r))∧parseT s=(sgn false (tv (c::r)),0)∨¬inR (tv (c::r))∧parseT s=(0,4):=by
        rcases hsp with⟨h|⟨_,h|h⟩|h,_⟩|⟨_,_,_,h⟩
        ·cases h
        ·cases h
        ·subst hr;simp at h
        ·exact(h ha).elim
        ·exact h
       simp(disch:=omega)only[go_sem,seval,wqq,q1,hcp,q0,ht2,htn,q2,q3]
       exact good ha hp (rfl) (rfl) (rfl) (rfl)
      ·have q3:(((r.length+1:Nat):Int)>1)=True:=by
        cases r with
        | nil=>exact(hr rfl).elim
        | cons _ _=>simp;omega
       have hp:parseT s=(0,2):=by
        rcases hsp with⟨_,h⟩|⟨_,h,_⟩
        ·exact h
        ·have:=(h (by rw[hc];rfl)).2
         cases r with
         | nil=>exact(hr rfl).elim
         | cons _ _=>simp at this
       rw[hp,c0]
       simp(disch:=omega)only[go_sem,seval,wqq,q1,hcp,q0,ht2,htn,q2,q3]
     ·have hp:parseT s=(0,2):=by
       rcases hsp with⟨_,h⟩|⟨_,h,_⟩
       ·exact h
       ·have:=(h (by rw[hc];rfl)).1
        cases this
      rw[hp,c0]
      simp(disch:=omega)only[go_sem,seval,wqq,q1,hcp,q0,ht2,htn,q2]
    ·have q2:((c.toNat:Int)=48)=False:=by simp;omega
     have hp:inR (tv (c::r))∧parseT s=(sgn neg (tv (c::r)),0)∨¬inR (tv (c::r))∧parseT s=(0,4):=by
      rcases hsp with⟨h|⟨h,_⟩|h,_⟩|⟨_,_,_,h⟩
      ·cases h
      ·simp only[List.head?_cons,Option.some.injEq] at h;rw[h] at h48;exact(h48 rfl).elim
      ·exact(h ha).elim
      ·exact h
     simp(disch:=omega)only[go_sem,seval,wqq,q1,hcp,q0,ht2,htn,q2]
     exact good ha hp (rfl) (rfl) (rfl) (rfl)
   ·have htn:(t=[])=False:=by simp only[eq_iff_iff,iff_false];exact fun q=>ha (ht1.1 q)
    have hp:parseT s=(0,2):=by
     rcases hsp with⟨_,h⟩|⟨_,_,h,_⟩
     ·exact h
     ·exact(ha h).elim
    rw[hp,c0]
    simp(disch:=omega)only[go_sem,seval,wqq,q1,hcp,q0,ht2,htn]
end Go.Eng
namespace Go.Eng
theorem zhn {v:Nat} (h:v≠0):∃c t,dec v=c::t∧49≤c.toNat∧c.toNat≤57∧(c::t).length=dlen v:=by
 have h1:=zbN v
 have h0:dlen v≠0:=fun q=>by rw[q] at h1;simp at h1;omega
 obtain⟨n,hn⟩:∃n,dlen v=n+1:=⟨dlen v-1,by omega⟩
 have h2:¬v<10^n:=fun q=>by have:=zav.2 q;omega
 have e:dec v=UInt8.ofNat (48+v/10^n%10)::dtx n v:=by rw[zcr h,hn];rfl
 have hp:0<10^n:=Nat.pow_pos (by decide)
 have h3:v/10^n<10:=by
  rw[Nat.div_lt_iff_lt_mul hp,Nat.mul_comm,←Nat.pow_succ,show n.succ=dlen v from hn.symm];exact h1
 have h4:0<v/10^n:=Nat.div_pos (by omega) hp
 have ht:(UInt8.ofNat (48+v/10^n%10)).toNat=48+v/10^n%10:=dch _ (by omega)
 exact⟨_,_,e,by rw[ht];omega,by rw[ht];omega,by rw[hn];simp⟩
theorem zjk {v w:Nat} (h:dec v=dec w):v=w:=by
 have:=congrArg tv h
 rwa [zlp,zlp] at this
theorem zjj (v:Nat):∀l,dec v≠45::l:=fun l q=>by
 by_cases h:v=0
 ·subst h;cases q
 ·obtain⟨c,t,e,h1,_⟩:=zhn h
  rw[e] at q;cases q
  revert h1;decide
theorem zlJ {z w:Int} (h:decI z=decI w):z=w:=by
 unfold decI at h
 split at h<;>split at h
 ·have:=zjk (List.cons.inj h).2;omega
 ·exact(zjj _ _ h.symm).elim
 ·exact(zjj _ _ h).elim
 ·have:=zjk h;omega
theorem zlr {n K:Nat} (hn:n=177) (hK:K=16384):2^K≤10^(28*n):=by
 have e1:(2:Nat)^K≤(2^93)^n:=by
  rw[←Nat.pow_mul 2]
  exact Nat.pow_le_pow_right (by decide) (by omega)
 have e2:((2:Nat)^93)^n≤(10^28)^n:=Nat.pow_le_pow_left (by decide) n
 rw[←Nat.pow_mul 10] at e2
 exact Nat.le_trans e1 e2
theorem zpU (K:Nat):0<2^K:=Nat.pow_pos (by decide)
theorem zl3:inR 0:=zpU 16384
theorem zfo {v:Nat} (h:inR v):dlen v≤4956:=by
 obtain⟨n,hn⟩:∃n,n=177:=⟨_,rfl⟩
 have e:=zlr (K:=16384) hn rfl
 have h:v<2^16384:=h
 have:=zav.2 (Nat.lt_of_lt_of_le h e)
 omega
theorem ziT (z:Int):parseT (decI z)=if inR z.natAbs then (z,0) else (0,4):=by
 by_cases h0:z=0
 ·subst h0
  have h1:inR (0:Int).natAbs:=zl3
  have h2:decI 0=[48]:=rfl
  rw[if_pos h1,h2]
  have h3:inR (tv [48]):=h1
  unfold parseT
  rw[if_neg (by decide),if_neg (by decide)]
  exact if_pos h3
 ·have hv:z.natAbs≠0:=by omega
  obtain⟨c,t,e,hc1,hc2,hl⟩:=zhn hv
  have hd:=zog z.natAbs
  have ht:=zlp z.natAbs
  have h45:c≠45:=by rintro rfl;revert hc1;decide
  have h48:c≠48:=by rintro rfl;revert hc1;decide
  have hlen:(decI z).length≤dlen z.natAbs+1:=by
   unfold decI;split<;>simp only[List.length_cons,e] at * <;> omega
  have hlen2:dlen z.natAbs≤(decI z).length:=by
   unfold decI;split<;>simp only[List.length_cons,e] at * <;> omega
  rcases zdO (decI z) with⟨h1,h2⟩|⟨h1,neg,ds,hsg,hsp⟩
  ·have:¬inR z.natAbs:=fun q=>by have:=zfo q;omega
   rw[if_neg this,h2]
  ·have hds:ds=dec z.natAbs∧sgn neg z.natAbs=z:=by
    rcases hsg with⟨rfl,g⟩|⟨rfl,g,g2⟩
    ·unfold decI at g
     split at g
     ·cases g;exact⟨rfl,by unfold sgn;simp;omega⟩
     ·exact(zjj _ _ g).elim
    ·unfold decI at g
     split at g
     ·rw[←g] at g2;exact(g2 rfl).elim
     ·exact⟨g.symm,by unfold sgn;simp;omega⟩
   obtain⟨rfl,hs⟩:=hds
   rcases hsp with⟨h|⟨h,_⟩|h,_⟩|⟨_,_,_,⟨h3,h4⟩|⟨h3,h4⟩⟩
   ·rw[e] at h;cases h
   ·rw[e] at h;simp at h;exact(h48 h).elim
   ·exact(h hd).elim
   ·rw[ht] at h3 h4
    rw[if_pos h3,h4,hs]
   ·rw[ht] at h3
    rw[if_neg h3,h4]
theorem zrv (x:WI):pf E0 33 [wiP x]=some (.s (decI x.v)):=by
 refine zpy ?_ rfl
 have hw:∀(l:List Nat),Ok32 l→wordsP (l.map fun n=>(PV.i .u32 ((n:Nat):Int)))=some l:=fun l=>by
  induction l with
  | nil=>intro _;rfl
  | cons n l ih =>
   intro h
   have h1:=h n (List.mem_cons_self ..)
   rw[List.map_cons]
   unfold wordsP
   rw[if_pos ⟨by omega,by omega⟩,ih fun x hx=>h x (List.mem_cons_of_mem _ hx)]
   simp
 have hD:D x.v.natAbs=.lst ((dig x.v.natAbs).map fun n=>(PV.i .u32 ((n:Nat):Int))):=(zwM _ _).symm
 have hg:(dig x.v.natAbs).getLast?≠some 0:=fun q=>by
  by_cases h:x.v.natAbs=0
  ·rw[h] at q;cases q
  ·have h1:=zba h
   have h2:(dig x.v.natAbs).getLast?=some (dgt x.v.natAbs (wlen x.v.natAbs-1)):=by
    rw[List.getLast?_eq_getElem?]
    unfold dig dw
    rw[zbe,za7 (by omega)]
   rw[h2] at q
   have h3:=Option.some.inj q
   rw[zaj] at h3
   have h4:=zfT h
   have h5:x.v.natAbs/4294967296^(wlen x.v.natAbs-1)<4294967296:=by
    have:=zaf x.v.natAbs
    rw[show wlen x.v.natAbs=wlen x.v.natAbs-1+1 by omega,Nat.pow_succ] at this
    exact Nat.div_lt_of_lt_mul this
   have h6:=Nat.div_pos h4 (zbR _)
   rw[Nat.mod_eq_of_lt h5] at h3
   omega
 have hx:=x.lim
 rw[zey,hD]
 simp only[orcP,txtP,if_true,hw _ (zra _),Option.bind_some]
 unfold wtx
 have hnz:decide (x.v<0)=true→dig x.v.natAbs≠[]:=fun h=>by
  have h1:x.v<0:=by simpa using h
  intro q
  have h2:=zeN x.v.natAbs
  rw[q] at h2
  have:=zba (v:=x.v.natAbs) (by omega)
  simp at h2;omega
 rw[if_pos ⟨by rw[zeN];exact hx,hg,hnz⟩,zpW]
 ·have e:(if decide (x.v<0)=true then-((x.v.natAbs:Nat):Int) else ((x.v.natAbs:Nat):Int))=x.v:=by
   by_cases h:x.v<0
   ·rw[if_pos (by simpa using h)];omega
   ·rw[if_neg (by simpa using h)];omega
  rw[e];rfl
end Go.Eng
namespace Go.Eng
theorem zhm {v n:Nat} (h1:10^n≤v) (h2:v<10^(n+1)):dec v=dtx (n+1) v:=by
 have h0:v≠0:=by have:=Nat.pow_pos (n:=n) (by decide:0<10);omega
 have:dlen v=n+1:=by
  have a:=zav.2 h2
  have b:¬dlen v≤n:=fun q=>by have:=zav.1 q;omega
  omega
 rw[zcr h0,this]
theorem zjE {n:Int} (h:Fits64 n):∃x:WI,x.v=n∧pf E0 34 [.i .i64 n]=some (wiP x):=⟨wiOf n h,rfl,zcQ h⟩
end Go.Eng
namespace Go.Eng
def isPP:PV→Bool
 | .p _ _=>true
 | _=>false
@[go_sem] theorem zw7 (n o:Nat):isPP (.p n o)=true:=_root_.id rfl
def slotIn (E:PEnv) (ops:List XOper) (L:List Nat) (c:Nat×Nat):Bool :=
 match ops[c.1]?,ops[c.2]? with
 | some a,some b =>
  match a.op with
  | .load _ _ (.t s)=>L.contains s&&calmOp E b.op&&(ops.all fun o=>o.dst != some s)
  | _=>false
 | _,_=>false
theorem zaw {E:PEnv} {F:PFin} {ops:List XOper} {chk:List (Nat×Nat)} {ks:List KI} {fr:PFr} {M:PM} (L:List Nat) (hL:chk.all (fun c=>calmC E ops c || slotIn E ops L c)=true) (hp:L.all (fun s=>isPP (fr s))=true) (w:WL E F ops ks fr M) :
  WK E F (.drw ops chk) ks fr M:=by
 refine zcL (fun fr2 Ms hT=>?_) w
 rw[List.all_eq_true] at hL hp ⊢
 rintro⟨i,j⟩ hc
 have h1:=hL _ hc
 simp only[Bool.or_eq_true] at h1
 rcases h1 with h1|h1
 ·exact zc6 hT h1
 ·unfold slotIn at h1
  split at h1
  ·rename_i a b ha hb
   split at h1
   ·rename_i z k s hop
    simp only[Bool.and_eq_true] at h1
    obtain⟨⟨c1,c2⟩,c3⟩:=h1
    have hs:=hp s (List.contains_iff_mem.1 c1)
    cases hf:fr s with
    | p n o=>exact zi8 hT ha hb hop c2 c3 hf
    | _=>rw[hf] at hs;simp[isPP] at hs
   ·cases h1
  ·cases h1
attribute [go_sem] List.all_cons List.all_nil
def slotIn2 (E:PEnv) (ops:List XOper) (L:List Nat) (c:Nat×Nat):Bool :=
 match ops[c.1]?,ops[c.2]? with
 | some a,some b =>
  match a.op with
  | .load _ _ (.t s)=>L.contains s&&calmOp E b.op
  | _=>false
 | _,_=>false
theorem zat {E:PEnv} {F:PFin} {ops:List XOper} {chk:List (Nat×Nat)} {ks:List KI} {fr:PFr} {M:PM} (L:List Nat) (hL:chk.all (fun c=>calmC E ops c || slotIn2 E ops L c)=true)
  (hr:WL E ⟨(0::0::L).map XR.tmp,fun w _=>∃l,w=.tu l∧(l.drop 2).all isPP=true⟩ ops [] fr M) (w:WL E F ops ks fr M):WK E F (.drw ops chk) ks fr M:=by
 refine zcL (fun fr2 Ms hT=>?_) w
 have hp:L.all (fun s=>isPP (fr2 s))=true:=by
  obtain⟨lf,q,fr3,M3,vs,e,h1,h2,l,h3,h4⟩:=hr
  simp only[Option.bind_eq_some_iff,unw] at e
  obtain⟨⟨fr4,M4⟩,e1,e2⟩:=e
  simp only[Option.some.injEq,Prod.mk.injEq] at e2
  obtain⟨_,e3,e4⟩:=e2
  rw[←e3,←e4] at h2
  obtain⟨Ms',g1,g2⟩:=zbK e1
  rw[g1] at hT
  cases hT
  have hres:∀(f:PFr) (N:PM) (l:List Nat),pRes f N (l.map XR.tmp)=some (l.map f):=fun f N l=>by
   induction l with
   | nil=>rfl
   | cons a l ih=>simp only[List.map_cons,pRes,pResOne,ih]
  rw[hres] at h2
  cases h2
  simp only[List.map_cons,packP] at h3
  cases h3
  simpa [List.all_map] using h4
 rw[List.all_eq_true] at hL hp ⊢
 rintro⟨i,j⟩ hc
 have h1:=hL _ hc
 simp only[Bool.or_eq_true] at h1
 rcases h1 with h1|h1
 ·exact zc6 hT h1
 ·unfold slotIn2 at h1
  split at h1
  ·rename_i a b ha hb
   split at h1
   ·rename_i z k s hop
    simp only[Bool.and_eq_true] at h1
    obtain⟨c1,c2⟩:=h1
    have hs:=hp s (List.contains_iff_mem.1 c1)
    cases hf:fr2 s with
    | p n o =>
     obtain⟨fri,A,B,q1,q2,q3,q4⟩:=zaz hT ha
     obtain⟨frj,C,D,p1,p2,p3,p4⟩:=zaz hT hb
     have p2':Ms[(i,j).2+1]?=some D:=p2
     have q2':Ms[(i,j).1+1]?=some B:=q2
     refine zcT ?_
     simp only[chkP0,ha,q1,q2,p1,p2]
     rw[if_neg (by rw[hop];simp[XO.cls])]
     rw[hop]
     show chkV ops j (.t s) C D (fr2 s)=true
     rw[hf]
     show verP (some n) C D=true
     rcases p3 with⟨_,v,p3⟩|⟨_,p3⟩
     ·cases hopb:b.op with
      | call f l =>
       rw[hopb] at p3 c2
       obtain⟨ns,rfl⟩:=zce c2 p3
       exact zcK ns C _
      | _=>rw[hopb] at c2;simp[calmOp] at c2
     ·rw[p3];simp[verP]
    | _=>rw[hf] at hs;simp[isPP] at hs
   ·cases h1
  ·cases h1
theorem zal {E:PEnv} {F:PFin} {a b:XC} (hab:a=b) {ks:List KI} {fr:PFr} {M:PM} (w:WK E F b (.loop a::ks) fr M):WK E F (.loop a) ks fr M:=by
 rw[←hab] at w;exact zcA w
def fillC (z:List PV) (off n:Nat) (cs:List PV):Option (List PV):=if cs.length=n∧off+n≤z.length∧cs.all PV.scal=true then some (psplice z off cs) else none
theorem zai {fr:PFr} (G:Nat→Option (List AV)) (z:List PV) (off n:Nat) (x:X) (ps:List (Nat×Nat×X)):fillP G fr z ((off,(n,x))::ps)=fillB fr G ps (fillC z off n (x.pv G fr).cells):=by
 simp only[fillP]
 unfold fillC
 split<;>rfl
theorem zad (z:List PV) (off n:Nat) (cs:List PV):fillC z off n cs=if cs.length=n∧off+n≤z.length∧cs.all PV.scal=true then some (psplice z off cs) else none:=rfl
end Go.Eng
namespace Go.Eng
structure FQ where
 p:WI
 q:WI
 q1:1≤q.v
 cop:Nat.gcd p.v.natAbs q.v.natAbs=1
theorem zlv {y:WI} (hy:1≤y.v):wlen (y.v-1).natAbs≤512:=by
 have h:=(zaP _).1 y.lim
 refine(zaP _).2 ?_
 unfold inR at *
 exact Nat.lt_of_le_of_lt (by omega) h
def FQ.l (f:FQ):WI:=⟨f.q.v-1,zlv f.q1⟩
noncomputable def fqP (f:FQ):PV:=.ag [.b (decide (f.p.v<0)),D f.p.v.natAbs,.b (decide (f.l.v<0)),D f.l.v.natAbs]
@[go_sem] theorem zwZ (M:PM) (d:Nat) (f:FQ):fz M (d+1+1) (fqP f)=some (fqP f,[]):=_root_.id rfl
@[go_sem] theorem zqo (f:FQ):(fqP f).cells=[.b (decide (f.p.v<0)),D f.p.v.natAbs,.b (decide (f.l.v<0)),D f.l.v.natAbs]:=_root_.id rfl
@[go_sem] theorem ztU (f:FQ):PV.ag [.b (decide (f.p.v<0)),D f.p.v.natAbs,.b (decide (f.l.v<0)),D f.l.v.natAbs]=fqP f:=_root_.id rfl
theorem znG (x:WI) (e:Int):pf E0 37 [wiP x,.i .i64 e]=some (wiP x):=by
 refine zaa (xf:=zBy) rfl (by simp[zBy]) ?_
 simp only[zBy]
 simp(disch:=omega)only[go_sem,seval,wqq]
theorem zdM (x g:WI) (h:g.v≠0):∃q:WI,q.v=x.v/g.v∧pf E0 21 [wiP x,wiP g]=some (wiP q):=by
 have fd:=zgZ x g h
 refine⟨x.div g h,rfl,?_⟩
 refine zaa (xf:=zBM) rfl (by simp[zBM]) ?_
 simp only[zBM]
 simp(disch:=omega)only[go_sem,seval,wqq,fd]
noncomputable def wi1:WI:=wiOf 1 (by decide)
theorem zp1:wi1.v=1:=rfl
theorem zdk (x y:WI):pf E0 20 [.lst [wiP x,wiP y]]=some (.tu [wiP (clip (x.v*y.v)),.i .i64 (lerr (x.v*y.v))]):=by
 refine zaa (xf:=zBl) rfl (by simp[zBl]) ?_
 simp only[zBl]
 have f1:pf E0 34 [.i .i64 1]=some (wiP wi1):=zcQ (n:=1) (by decide)
 have m1:pf E0 38 [wiP wi1,wiP x]=some (.tu [wiP x,.i .i64 0]):=by
  have h:=zeE wi1 x
  rw[zp1,Int.one_mul,zaR x.lim,zbB x.lim] at h
  exact h
 have m2:=zeE x y
 generalize wi1=w1 at *
 simp(disch:=omega)only[go_sem,seval,wqq,f1]
 refine zal zBc.eq_1 ?_
 simp(disch:=omega)only[go_sem,seval,wqq,m1]
 refine zal zBc.eq_1 ?_
 by_cases h:wlen (x.v*y.v).natAbs≤512
 ·have e:=zaR h
  rw[e] at m2 ⊢
  simp(disch:=omega)only[go_sem,seval,wqq,m2]
  refine zal zBc.eq_1 ?_
  simp(disch:=omega)only[go_sem,seval,wqq,m2]
 ·have e:=zfr h
  have e2:=zfb h
  rw[e,e2] at m2 ⊢
  simp(disch:=omega)only[go_sem,seval,wqq,m2]
theorem zos:Nat.gcd wi0.v.natAbs wi1.v.natAbs=1:=by decide
noncomputable def fq0:FQ:=⟨wi0,wi1,by decide,zos⟩
theorem zot:fqP fq0=.ag [.b false,.lst [],.b false,.lst []]:=by
 have h1:D (0:Int).natAbs=.lst []:=zp9.symm
 show PV.ag [.b (decide ((0:Int)<0)),D (0:Int).natAbs,.b (decide ((1:Int)-1<0)),D ((1:Int)-1).natAbs]=_
 rw[show (1:Int)-1=0 by decide,h1];rfl
theorem zh1 (x y:WI) (hy:1≤y.v) (hc:Nat.gcd x.v.natAbs y.v.natAbs=1):pf E0 22 [wiP x,wiP y,.i .i64 0,.i .i64 0]=some (.tu [fqP ⟨x,y,hy,hc⟩,.i .i64 0]):=by
 refine zaa (xf:=zAd) rfl (by simp[zAd]) ?_
 simp only[zAd]
 have f1:pf E0 34 [.i .i64 1]=some (wiP wi1):=zcQ (n:=1) (by decide)
 have s1:=zpf y wi1
 rw[zp1] at s1
 have m1:=znG (clip (y.v-1)) (lerr (y.v-1))
 have cv:=zaW (zlv hy)
 generalize lerr (y.v-1)=le at *
 generalize wi1=w1 at *
 have hq:fqP ⟨x,y,hy,hc⟩=.ag [.b (decide (x.v<0)),D x.v.natAbs,.b (decide ((clip (y.v-1)).v<0)),D (clip (y.v-1)).v.natAbs]:=by rw[cv];rfl
 rw[hq]
 generalize clip (y.v-1)=z at *
 simp(disch:=omega)only[go_sem,seval,wqq]
 refine zaw [4,5] rfl (rfl) ?_
 simp(disch:=omega)only[go_sem,seval,wqq,f1,s1,m1,zai,zad]
theorem zkF (x y:WI) {e f:Int} (h:e≠0∨f≠0):pf E0 22 [wiP x,wiP y,.i .i64 e,.i .i64 f]=some (.tu [fqP fq0,.i .i64 4]):=by
 refine zaa (xf:=zAd) rfl (by simp[zAd]) ?_
 simp only[zAd]
 rw[zot]
 by_cases he:e=0
 ·have hf:(f=0)=False:=by simp;rcases h with h|h<;>first|exact h|exact absurd he h
  have he:(e=0)=True:=by simp[he]
  simp(disch:=omega)only[go_sem,seval,wqq,he,hf]
 ·have he:(e=0)=False:=by simp[he]
  simp(disch:=omega)only[go_sem,seval,wqq,he]
theorem zpa (x y:WI) (h:y.v=0):pf E0 24 [wiP x,wiP y]=some (.tu [fqP fq0,.i .i64 1]):=by
 refine zaa (xf:=zz5) rfl (by simp[zz5]) ?_
 simp only[zz5]
 rw[zot]
 have sy:=za6 y
 have sc:(cmpI y.v 0=0)=True:=by rw[h];simp[cmpI]
 simp(disch:=omega)only[go_sem,seval,wqq,sy,sc]
theorem zkr (x y g:WI) (hg:g.v=gI x.v y.v) (hy:0<y.v):∃f:FQ,f.p.v=lowP x.v y.v∧f.q.v=lowQ x.v y.v∧∃a b:WI,pf E0 21 [wiP x,wiP g]=some (wiP a)∧pf E0 21 [wiP y,wiP g]=some (wiP b)∧pf E0 22 [wiP a,wiP b,.i .i64 0,.i .i64 0]=some (.tu [fqP f,.i .i64 0]):=by
 have gn:g.v≠0:=by rw[hg];exact zf7 (by omega)
 obtain⟨a,ha,fa⟩:=zdM x g gn
 obtain⟨b,hb,fb⟩:=zdM y g gn
 have e1:a.v=lowP x.v y.v:=by rw[ha,hg];unfold lowP;rw[if_neg (by omega)]
 have e2:b.v=lowQ x.v y.v:=by rw[hb,hg];unfold lowQ;rw[if_neg (by omega)]
 have hq:1≤b.v:=by rw[e2];exact zdu (by omega)
 have hc:Nat.gcd a.v.natAbs b.v.natAbs=1:=by rw[e1,e2];exact zek (by omega)
 exact⟨⟨a,b,hq,hc⟩,e1,e2,a,b,fa,fb,zh1 a b hq hc⟩
theorem zeR (p q:Int) (h:q<0):lowP (-p) (-q)=lowP p q∧lowQ (-p) (-q)=lowQ p q:=by
 have h2:¬ -q<0:=by omega
 unfold lowP lowQ
 rw[znm]
 simp only[h,h2,if_true,if_false,and_self]
theorem zgf (x y:WI) (h:y.v≠0):∃f:FQ,f.p.v=lowP x.v y.v∧f.q.v=lowQ x.v y.v∧pf E0 24 [wiP x,wiP y]=some (.tu [fqP f,.i .i64 0]):=by
 by_cases hn:y.v<0
 ·have hg:=zg0 x.neg y.neg
  obtain⟨f,h1,h2,a,b,fa,fb,fl⟩:=zkr x.neg y.neg (x.neg.gcd y.neg) rfl (by show 0 < -y.v;omega)
  obtain⟨l1,l2⟩:=zeR x.v y.v hn
  refine⟨f,h1.trans l1,h2.trans l2,?_⟩
  generalize x.neg.gcd y.neg=g at *
  refine zaa (xf:=zz5) rfl (by simp[zz5]) ?_
  simp only[zz5]
  have sy:=za6 y
  have sc:cmpI y.v 0 = -1:=by unfold cmpI;rw[if_pos hn]
  rw[sc] at sy
  have n1:=zeF x
  have n2:=zeF y
  generalize x.neg=xn at *
  generalize y.neg=yn at *
  simp(disch:=omega)only[go_sem,seval,wqq,sy]
  refine zaw [3] rfl (rfl) ?_
  simp(disch:=omega)only[go_sem,seval,wqq,n1,n2,hg]
  refine zaw [3,6] rfl (rfl) ?_
  simp(disch:=omega)only[go_sem,seval,wqq,fa,fb,fl]
 ·have hg:=zg0 x y
  obtain⟨f,h1,h2,a,b,fa,fb,fl⟩:=zkr x y (x.gcd y) rfl (by omega)
  refine⟨f,h1,h2,?_⟩
  generalize x.gcd y=g at *
  refine zaa (xf:=zz5) rfl (by simp[zz5]) ?_
  simp only[zz5]
  have sy:=za6 y
  have sc:cmpI y.v 0=1:=by unfold cmpI;rw[if_neg hn,if_pos (by omega)]
  rw[sc] at sy
  simp(disch:=omega)only[go_sem,seval,wqq,sy,hg]
  refine zaw [3,6] rfl (rfl) ?_
  simp(disch:=omega)only[go_sem,seval,wqq,fa,fb,fl]
end Go.Eng
namespace Go.Eng
theorem zhZ (f:FQ):pf E0 64 [fqP f]=some (wiP f.p):=by
 refine zaa (xf:=zzW) rfl (by simp[zzW]) ?_
 simp only[zzW]
 simp(disch:=omega)only[go_sem,seval,wqq]
theorem zci (f:FQ):pf E0 19 [fqP f]=some (wiP f.q):=by
 refine zaa (xf:=zzV) rfl (by simp[zzV]) ?_
 simp only[zzV]
 have f1:pf E0 34 [.i .i64 1]=some (wiP wi1):=zcQ (n:=1) (by decide)
 have s1:=zgW f.l wi1
 have e:f.l.v+wi1.v=f.q.v:=by show f.q.v-1+1=f.q.v;omega
 have hc:clip f.q.v=f.q:=zbB f.q.lim
 rw[e,hc] at s1
 have m1:=znG f.q (lerr f.q.v)
 generalize lerr f.q.v=le at *
 generalize wi1=w1 at *
 simp(disch:=omega)only[go_sem,seval,wqq]
 refine zat [3] rfl ?_ ?_
 ·simp(disch:=omega)only[go_sem,seval,wqq,f1,s1,m1]
  exact⟨_,rfl,rfl⟩
 simp(disch:=omega)only[go_sem,seval,wqq,f1,s1,m1]
theorem zmm {p q:Int} (hp:Fits64 p) (hq:Fits64 q) (h:q≠0):∃f:FQ,f.p.v=lowP p q∧f.q.v=lowQ p q∧pf E0 17 [.i .i64 p,.i .i64 q]=some (.tu [fqP f,.i .i64 0]):=by
 obtain⟨x,hx,fx⟩:=zjE hp
 obtain⟨y,hy,fy⟩:=zjE hq
 obtain⟨f,h1,h2,fm⟩:=zgf x y (by rw[hy];exact h)
 rw[hx,hy] at h1 h2
 refine⟨f,h1,h2,?_⟩
 refine zaa (xf:=zCA) rfl (by simp[zCA]) ?_
 simp only[zCA]
 simp(disch:=omega)only[go_sem,seval,wqq,fx,fy,fm]
theorem zov (x y:WI):(x.gcd y).v=gI x.v y.v:=rfl
@[go_sem] theorem zt7 (x y:WI):group 2 2 [.b (decide (x.v<0)),Dw (wlen x.v.natAbs) x.v.natAbs,.b (decide (y.v<0)),Dw (wlen y.v.natAbs) y.v.natAbs]=[wiP x,wiP y]:=_root_.id rfl
theorem zkx (a b:FQ) {g s t cx cy cs cd:WI} {ex ey es ed:Int} (hg:pf E0 18 [wiP a.q,wiP b.q]=some (wiP g)) (fs:pf E0 21 [wiP b.q,wiP g]=some (wiP s)) (ft:pf E0 21 [wiP a.q,wiP g]=some (wiP t))
  (nx:pf E0 20 [.lst [wiP a.p,wiP s]]=some (.tu [wiP cx,.i .i64 ex])) (ny:pf E0 20 [.lst [wiP b.p,wiP t]]=some (.tu [wiP cy,.i .i64 ey])) (ns:pf E0 23 [wiP cx,wiP cy]=some (.tu [wiP cs,.i .i64 es]))
  (nd:pf E0 20 [.lst [wiP t,wiP b.q]]=some (.tu [wiP cd,.i .i64 ed])) (f:FQ) (e:Int)
  (hR:(ex=0∧ey=0∧es=0∧ed=0∧pf E0 24 [wiP cs,wiP cd]=some (.tu [fqP f,.i .i64 e]))∨(¬(ex=0∧ey=0∧es=0∧ed=0)∧f=fq0∧e=4)) :
  pf E0 9 [fqP a,fqP b]=some (.tu [fqP f,.i .i64 e]):=by
 have da:=zci a
 have db:=zci b
 refine zaa (xf:=zBW) rfl (by simp[zBW]) ?_
 simp only[zBW]
 simp(disch:=omega)only[go_sem,seval,wqq]
 refine zaw [3] rfl (rfl) ?_
 simp(disch:=omega)only[go_sem,seval,wqq,da,db,hg]
 refine zat [21,6] rfl ?_ ?_
 ·simp(disch:=omega)only[go_sem,seval,wqq,db,fs,nx,zai,zad]
  exact⟨_,rfl,rfl⟩
 simp(disch:=omega)only[go_sem,seval,wqq,db,fs,nx,zai,zad]
 refine zat [32,6] rfl ?_ ?_
 ·simp(disch:=omega)only[go_sem,seval,wqq,da,ft,ny,zai,zad]
  exact⟨_,rfl,rfl⟩
 simp(disch:=omega)only[go_sem,seval,wqq,da,ft,ny,ns,zai,zad]
 refine zaw [6,3] rfl (rfl) ?_
 rcases hR with⟨h1,h2,h3,h4,hM⟩|⟨hn,hf,he⟩
 ·subst h1 h2 h3 h4
  simp(disch:=omega)only[go_sem,seval,wqq,da,db,ft,nd,hM,zai,zad]
 ·subst hf he
  rw[zot]
  by_cases h1:ex=0
  ·by_cases h2:ey=0
   ·by_cases h3:es=0
    ·have h4:(ed=0)=False:=by simp;exact fun q=>hn ⟨h1,h2,h3,q⟩
     subst h1 h2 h3
     simp(disch:=omega)only[go_sem,seval,wqq,da,db,ft,nd,h4,zai,zad]
    ·have h3:(es=0)=False:=by simp[h3]
     subst h1 h2
     simp(disch:=omega)only[go_sem,seval,wqq,da,db,ft,nd,h3,zai,zad]
   ·have h2:(ey=0)=False:=by simp[h2]
    subst h1
    simp(disch:=omega)only[go_sem,seval,wqq,da,db,ft,nd,h2,zai,zad]
  ·have h1:(ex=0)=False:=by simp[h1]
   simp(disch:=omega)only[go_sem,seval,wqq,da,db,ft,nd,h1,zai,zad]
def adX (a b:FQ):Int:=a.p.v*(b.q.v/gI a.q.v b.q.v)
def adY (a b:FQ):Int:=b.p.v*(a.q.v/gI a.q.v b.q.v)
def adD (a b:FQ):Int:=a.q.v/gI a.q.v b.q.v*b.q.v
def adOk (a b:FQ):Prop:=inR (adX a b).natAbs∧inR (adY a b).natAbs∧inR (adX a b+adY a b).natAbs∧inR (adD a b).natAbs
theorem zm2 (a b:FQ):adD a b≠0:=by
 have ha:=a.q1
 have hb:=b.q1
 have h1:a.q.v/gI a.q.v b.q.v*gI a.q.v b.q.v=a.q.v:=Int.ediv_mul_cancel (zct _ _)
 have h2:a.q.v/gI a.q.v b.q.v≠0:=fun q=>by rw[q] at h1;omega
 exact Int.mul_ne_zero h2 (by omega)
theorem zej {z:Int} (h:inR z.natAbs):(clip z).v=z∧lerr z=0:=⟨zaW ((zaP _).2 h),zaR ((zaP _).2 h)⟩
theorem zgR {z:Int} (h:lerr z=0):inR z.natAbs:=by
 by_cases q:wlen z.natAbs≤512
 ·exact(zaP _).1 q
 ·rw[zfr q] at h;cases h
theorem zrA (a b:FQ):(adOk a b→∃f:FQ,f.p.v=lowP (adX a b+adY a b) (adD a b)∧f.q.v=lowQ (adX a b+adY a b) (adD a b)∧pf E0 9 [fqP a,fqP b]=some (.tu [fqP f,.i .i64 0])) ∧
  (¬adOk a b→pf E0 9 [fqP a,fqP b]=some (.tu [fqP fq0,.i .i64 4])):=by
 have hg:=zg0 a.q b.q
 have gv:=zov a.q b.q
 have gn:(a.q.gcd b.q).v≠0:=by rw[gv];exact zf7 (by have:=b.q1;omega)
 obtain⟨s,hs,fs⟩:=zdM b.q (a.q.gcd b.q) gn
 obtain⟨t,ht,ft⟩:=zdM a.q (a.q.gcd b.q) gn
 rw[gv] at hs ht
 have nx:=zdk a.p s
 have ny:=zdk b.p t
 have nd:=zdk t b.q
 have eX:a.p.v*s.v=adX a b:=by rw[hs];rfl
 have eY:b.p.v*t.v=adY a b:=by rw[ht];rfl
 have eD:t.v*b.q.v=adD a b:=by rw[ht];rfl
 rw[eX] at nx
 rw[eY] at ny
 rw[eD] at nd
 have ns:=zgW (clip (adX a b)) (clip (adY a b))
 constructor
 ·rintro⟨r1,r2,r3,r4⟩
  obtain⟨c1,l1⟩:=zej r1
  obtain⟨c2,l2⟩:=zej r2
  obtain⟨c3,l3⟩:=zej r3
  obtain⟨c4,l4⟩:=zej r4
  rw[c1,c2] at ns
  obtain⟨f,h1,h2,fm⟩:=zgf (clip (adX a b+adY a b)) (clip (adD a b)) (by rw[c4];exact zm2 a b)
  rw[c3,c4] at h1 h2
  exact⟨f,h1,h2,zkx a b hg fs ft nx ny ns nd f 0 (.inl ⟨l1,l2,l3,l4,fm⟩)⟩
 ·intro hn
  refine zkx a b hg fs ft nx ny ns nd fq0 4 (.inr ⟨fun ⟨l1,l2,l3,l4⟩=>hn ?_,rfl,rfl⟩)
  have r1:=zgR l1
  have r2:=zgR l2
  rw[(zej r1).1,(zej r2).1] at l3
  exact⟨r1,r2,zgR l3,zgR l4⟩
end Go.Eng
namespace Go.Eng
def FQ.neg (f:FQ):FQ:=⟨f.p.neg,f.q,f.q1,by show Nat.gcd (-f.p.v).natAbs f.q.v.natAbs=1;rw[Int.natAbs_neg];exact f.cop⟩
theorem zkA (a:FQ):pf E0 67 [fqP a]=some (.i .i64 (cmpI a.p.v 0)):=by
 refine zaa (xf:=zBE) rfl (by simp[zBE]) ?_
 simp only[zBE]
 simp(disch:=omega)only[go_sem,seval,wqq]
theorem zkz (a b:FQ) {g h u v w z cp cq:WI} {ep eq:Int} (f:FQ) (e:Int) (hg:pf E0 18 [wiP a.p,wiP b.q]=some (wiP g)) (hh:pf E0 18 [wiP b.p,wiP a.q]=some (wiP h))
  (fu:pf E0 21 [wiP a.p,wiP g]=some (wiP u)) (fv:pf E0 21 [wiP b.p,wiP h]=some (wiP v)) (n1:pf E0 20 [.lst [wiP u,wiP v]]=some (.tu [wiP cp,.i .i64 ep]))
  (fw:pf E0 21 [wiP a.q,wiP h]=some (wiP w)) (fz':pf E0 21 [wiP b.q,wiP g]=some (wiP z)) (n2:pf E0 20 [.lst [wiP w,wiP z]]=some (.tu [wiP cq,.i .i64 eq]))
  (fl:pf E0 22 [wiP cp,wiP cq,.i .i64 ep,.i .i64 eq]=some (.tu [fqP f,.i .i64 e])):pf E0 8 [fqP a,fqP b]=some (.tu [fqP f,.i .i64 e]):=by
 have da:=zci a
 have db:=zci b
 refine zaa (xf:=zBV) rfl (by simp[zBV]) ?_
 simp only[zBV]
 simp(disch:=omega)only[go_sem,seval,wqq]
 refine zat [12,17,2] rfl ?_ ?_
 ·simp(disch:=omega)only[go_sem,seval,wqq,da,db,hg,hh]
  exact⟨_,rfl,rfl⟩
 simp(disch:=omega)only[go_sem,seval,wqq,da,db,hg,hh]
 refine zat [27,7] rfl ?_ ?_
 ·simp(disch:=omega)only[go_sem,seval,wqq,fu,fv,n1,zai,zad]
  exact⟨_,rfl,rfl⟩
 simp(disch:=omega)only[go_sem,seval,wqq,fu,fv,n1,zai,zad]
 refine zaw [7,3,6] rfl (rfl) ?_
 simp(disch:=omega)only[go_sem,seval,wqq,da,db,fw,fz',n2,fl,zai,zad]
end Go.Eng
namespace Go.Eng
theorem zjr {p s:Int} (hs:s≠0):Nat.Coprime (p/gI p s).natAbs (s/gI p s).natAbs:=by
 have g:=zeh (p:=p) hs
 have e1:(p/gI p s).natAbs*(gI p s).natAbs=p.natAbs:=by rw[←Int.natAbs_mul,Int.ediv_mul_cancel (zct p s)]
 have e2:(s/gI p s).natAbs*(gI p s).natAbs=s.natAbs:=by rw[←Int.natAbs_mul,Int.ediv_mul_cancel (zcV p s)]
 have e3:(gI p s).natAbs=Nat.gcd p.natAbs s.natAbs:=Int.natAbs_natCast _
 have e4:=Nat.gcd_mul_right (p/gI p s).natAbs (gI p s).natAbs (s/gI p s).natAbs
 rw[e1,e2,←e3] at e4
 have:0<(gI p s).natAbs:=by omega
 exact Nat.eq_of_mul_eq_mul_right this (by rw[Nat.one_mul];exact e4.symm)
theorem zoN {p q r s:Int} (hq:0<q) (hs:0<s) (c1:Nat.gcd p.natAbs q.natAbs=1) (c2:Nat.gcd r.natAbs s.natAbs=1) :
  p/gI p s*(r/gI r q)=lowP (p*r) (q*s)∧q/gI r q*(s/gI p s)=lowQ (p*r) (q*s)∧0<q/gI r q*(s/gI p s)∧Nat.gcd (p/gI p s*(r/gI r q)).natAbs (q/gI r q*(s/gI p s)).natAbs=1:=by
 have g1:=zeh (p:=p) (q:=s) (by omega)
 have g2:=zeh (p:=r) (q:=q) (by omega)
 have k1:=zjr (p:=p) (s:=s) (by omega)
 have k2:=zjr (p:=r) (s:=q) (by omega)
 have a1:p/gI p s*gI p s=p:=Int.ediv_mul_cancel (zct p s)
 have a2:s/gI p s*gI p s=s:=Int.ediv_mul_cancel (zcV p s)
 have a3:r/gI r q*gI r q=r:=Int.ediv_mul_cancel (zct r q)
 have a4:q/gI r q*gI r q=q:=Int.ediv_mul_cancel (zcV r q)
 generalize gI p s=g at *
 generalize gI r q=h at *
 generalize p/g=u at *
 generalize s/g=z at *
 generalize r/h=v at *
 generalize q/h=w at *
 have z0:0<z:=Int.pos_of_mul_pos_left (by rw[a2];exact hs) g1
 have w0:0<w:=Int.pos_of_mul_pos_left (by rw[a4];exact hq) g2
 have du:u.natAbs∣p.natAbs:=Int.natAbs_dvd_natAbs.2 ⟨g,a1.symm⟩
 have dw:w.natAbs∣q.natAbs:=Int.natAbs_dvd_natAbs.2 ⟨h,a4.symm⟩
 have dv:v.natAbs∣r.natAbs:=Int.natAbs_dvd_natAbs.2 ⟨h,a3.symm⟩
 have dz:z.natAbs∣s.natAbs:=Int.natAbs_dvd_natAbs.2 ⟨g,a2.symm⟩
 have k3:Nat.Coprime u.natAbs w.natAbs:=Nat.Coprime.coprime_dvd_left du (Nat.Coprime.coprime_dvd_right dw c1)
 have k4:Nat.Coprime v.natAbs z.natAbs:=Nat.Coprime.coprime_dvd_left dv (Nat.Coprime.coprime_dvd_right dz c2)
 have hc:Nat.gcd (u*v).natAbs (w*z).natAbs=1:=by
  rw[Int.natAbs_mul,Int.natAbs_mul]
  exact Nat.Coprime.mul_left (Nat.Coprime.mul_right k3 k1) (Nat.Coprime.mul_right k2 k4)
 have hp:0<w*z:=Int.mul_pos w0 z0
 have hx:q*s≠0:=Int.mul_ne_zero (by omega) (by omega)
 have cr:=zcv (p:=p*r) hx
 obtain⟨e1,e2⟩:=zfu (p:=u*v) (q:=w*z) hp (zdu hx) hc (zek hx) (by
  apply Int.eq_of_mul_eq_mul_right (a:=q*s) hx
  have:u*v*(q*s)=p*r*(w*z):=by rw[←a1,←a2,←a3,←a4];grind
  calc u*v*lowQ (p*r) (q*s)*(q*s)=u*v*(q*s)*lowQ (p*r) (q*s):=by grind
   _=p*r*(w*z)*lowQ (p*r) (q*s):=by rw[this]
   _=p*r*lowQ (p*r) (q*s)*(w*z):=by grind
   _=lowP (p*r) (q*s)*(q*s)*(w*z):=by rw[cr]
   _=lowP (p*r) (q*s)*(w*z)*(q*s):=by grind)
 exact⟨e1,e2,hp,hc⟩
def muP (a b:FQ):Int:=lowP (a.p.v*b.p.v) (a.q.v*b.q.v)
def muQ (a b:FQ):Int:=lowQ (a.p.v*b.p.v) (a.q.v*b.q.v)
theorem znE (a b:FQ):(inR (muP a b).natAbs∧inR (muQ a b).natAbs→∃f:FQ,f.p.v=muP a b∧f.q.v=muQ a b∧pf E0 8 [fqP a,fqP b]=some (.tu [fqP f,.i .i64 0])) ∧
  (¬(inR (muP a b).natAbs∧inR (muQ a b).natAbs)→pf E0 8 [fqP a,fqP b]=some (.tu [fqP fq0,.i .i64 4])):=by
 have qa:=a.q1
 have qb:=b.q1
 obtain⟨m1,m2,m3,m4⟩:=zoN (p:=a.p.v) (q:=a.q.v) (r:=b.p.v) (s:=b.q.v) (by omega) (by omega) a.cop b.cop
 have hg:=zg0 a.p b.q
 have hh:=zg0 b.p a.q
 have gv:=zov a.p b.q
 have hv:=zov b.p a.q
 have gn:(a.p.gcd b.q).v≠0:=by rw[gv];exact zf7 (by omega)
 have hn:(b.p.gcd a.q).v≠0:=by rw[hv];exact zf7 (by omega)
 obtain⟨u,eu,fu⟩:=zdM a.p _ gn
 obtain⟨v,ev,fv⟩:=zdM b.p _ hn
 obtain⟨w,ew,fw⟩:=zdM a.q _ hn
 obtain⟨z,ez,fz'⟩:=zdM b.q _ gn
 rw[gv] at eu ez
 rw[hv] at ev ew
 have n1:=zdk u v
 have n2:=zdk w z
 have e1:u.v*v.v=muP a b:=by rw[eu,ev];exact m1
 have e2:w.v*z.v=muQ a b:=by rw[ew,ez];exact m2
 rw[m1,m2] at m4
 rw[m2] at m3
 have m3:0<muQ a b:=m3
 have m4:Nat.gcd (muP a b).natAbs (muQ a b).natAbs=1:=m4
 rw[e1] at n1
 rw[e2] at n2
 constructor
 ·rintro⟨r1,r2⟩
  obtain⟨c1,l1⟩:=zej r1
  obtain⟨c2,l2⟩:=zej r2
  have fl:=zh1 (clip (muP a b)) (clip (muQ a b)) (by rw[c2];omega) (by rw[c1,c2];exact m4)
  rw[l1] at n1
  rw[l2] at n2
  exact⟨⟨clip (muP a b),clip (muQ a b),by rw[c2];omega,by rw[c1,c2];exact m4⟩,c1,c2,zkz a b _ 0 hg hh fu fv n1 fw fz' n2 fl⟩
 ·intro hno
  refine zkz a b fq0 4 hg hh fu fv n1 fw fz' n2 (zkF _ _ ?_)
  by_cases l1:lerr (muP a b)=0
  ·right
   intro l2
   exact hno ⟨zgR l1,zgR l2⟩
  ·exact .inl l1
end Go.Eng
namespace Go.Eng
theorem zky (a b f r:FQ) {e:Int} (h:pf E0 24 [wiP b.q,wiP b.p]=some (.tu [fqP f,.i .i64 0])) (hr:pf E0 8 [fqP a,fqP f]=some (.tu [fqP r,.i .i64 e])):pf E0 65 [fqP a,fqP b]=some (.tu [fqP r,.i .i64 e]):=by
 have db:=zci b
 refine zaa (xf:=zCj) rfl (by simp[zCj]) ?_
 simp only[zCj]
 simp(disch:=omega)only[go_sem,seval,wqq]
 refine zat [11] rfl ?_ ?_
 ·simp(disch:=omega)only[go_sem,seval,wqq,db,h]
  exact⟨_,rfl,rfl⟩
 simp(disch:=omega)only[go_sem,seval,wqq,db,h,hr]
theorem zoj {p q r s:Int} (hr:r≠0) (hs:0<s) (hq:0<q):lowP (p*lowP s r) (q*lowQ s r)=lowP (p*s) (q*r)∧lowQ (p*lowP s r) (q*lowQ s r)=lowQ (p*s) (q*r):=by
 have h1:=zdu (p:=s) hr
 refine zoK (Int.mul_ne_zero (by omega) (by omega)) (Int.mul_ne_zero (by omega) hr) ?_
 have h2:=zcv (p:=s) hr
 calc p*lowP s r*(q*r)=p*q*(lowP s r*r):=by grind
  _=p*q*(s*lowQ s r):=by rw[h2]
  _=p*s*(q*lowQ s r):=by grind
def dvP (a b:FQ):Int:=lowP (a.p.v*b.q.v) (a.q.v*b.p.v)
def dvQ (a b:FQ):Int:=lowQ (a.p.v*b.q.v) (a.q.v*b.p.v)
theorem zrB (a b:FQ) (h:b.p.v≠0):(inR (dvP a b).natAbs∧inR (dvQ a b).natAbs→∃f:FQ,f.p.v=dvP a b∧f.q.v=dvQ a b∧pf E0 65 [fqP a,fqP b]=some (.tu [fqP f,.i .i64 0])) ∧
  (¬(inR (dvP a b).natAbs∧inR (dvQ a b).natAbs)→pf E0 65 [fqP a,fqP b]=some (.tu [fqP fq0,.i .i64 4])):=by
 have qa:=a.q1
 have qb:=b.q1
 obtain⟨f,f1,f2,fm⟩:=zgf b.q b.p h
 obtain⟨l1,l2⟩:=zoj (p:=a.p.v) (q:=a.q.v) (r:=b.p.v) (s:=b.q.v) h (by omega) (by omega)
 have e1:muP a f=dvP a b:=by unfold muP dvP;rw[f1,f2];exact l1
 have e2:muQ a f=dvQ a b:=by unfold muQ dvQ;rw[f1,f2];exact l2
 have hm:=znE a f
 rw[e1,e2] at hm
 refine⟨fun hR=>?_,fun hn=>zky a b f fq0 fm (hm.2 hn)⟩
 obtain⟨r,r1,r2,hr⟩:=hm.1 hR
 exact⟨r,r1,r2,zky a b f r fm hr⟩
end Go.Eng
namespace Go.Eng
noncomputable def ftx (p q:Int):List UInt8:=if q=1 then decI p else decI p++[47]++decI q
theorem zbT (x:WI):(decI x.v).length≤1000000:=by
 have h:=zfo ((zaP _).1 x.lim)
 have h1:(dec x.v.natAbs).length≤4956+1:=by
  unfold dec;split
  ·simp
  ·rw[zbO];omega
 unfold decI;split<;>(try simp only[List.length_cons])<;>omega
theorem zeq (f:FQ):pf E0 16 [fqP f]=some (.s (ftx f.p.v f.q.v)):=by
 have df:=zci f
 have s1:=zrv f.p
 have s2:=zrv f.q
 have sg:=za6 f.l
 have l1:=zbT f.p
 have l2:=zbT f.q
 have hl:f.l.v=f.q.v-1:=rfl
 have q1:=f.q1
 refine zaa (xf:=zzS) rfl (by simp[zzS]) ?_
 simp only[zzS]
 unfold ftx
 by_cases h:f.q.v=1
 ·rw[if_pos h]
  have sc:(cmpI f.l.v 0=0)=True:=by rw[hl,h];simp[cmpI]
  simp(disch:=omega)only[go_sem,seval,wqq,sg,sc,s1]
 ·rw[if_neg h]
  have sc:(cmpI f.l.v 0=0)=False:=by
   have:cmpI f.l.v 0=1:=by unfold cmpI;rw[if_neg (by omega),if_pos (by omega)]
   rw[this];simp
  have a1:binP .add (.s (decI f.p.v)) (.s [47])=some (.s (decI f.p.v++[47])):=zaJ _ _ (by simp only[List.length_cons,List.length_nil];omega)
  have a2:binP .add (.s (decI f.p.v++[47])) (.s (decI f.q.v))=some (.s (decI f.p.v++[47]++decI f.q.v)):=zaJ _ _ (by simp only[List.length_append,List.length_cons,List.length_nil];omega)
  simp(disch:=omega)only[go_sem,seval,wqq,sg,sc]
  refine zaw [1] rfl (rfl) ?_
  simp(disch:=omega)only[go_sem,seval,wqq,df,s1,s2,a1,a2]
end Go.Eng
namespace Go.Eng
noncomputable def rfP (p q:Int):PV:=.ag [.b (decide (p<0)),T p.natAbs,.b (decide (q<0)),T q.natAbs]
@[go_sem] theorem zw3 (M:PM) (d:Nat) (p q:Int):fz M (d+1+1) (rfP p q)=some (rfP p q,[]):=_root_.id rfl
@[go_sem] theorem zqr (p q:Int):(rfP p q).cells=[.b (decide (p<0)),T p.natAbs,.b (decide (q<0)),T q.natAbs]:=_root_.id rfl
@[go_sem] theorem zt0 (p q:Int):PV.ag [.b (decide (p<0)),T p.natAbs,.b (decide (q<0)),T q.natAbs]=rfP p q:=_root_.id rfl
theorem znJ {n:Int} (h:Fits64 n):pf E0 185 [.i .i64 n]=some (rfP n 1):=by
 have h1:=zbx n h
 have h2:=zbx 1 (by decide)
 obtain⟨o,ho⟩:∃o:Int,nP o=nP 1∧rfP n o=rfP n 1:=⟨1,rfl,rfl⟩
 rw[←ho.1] at h2
 rw[←ho.2]
 clear ho
 refine zaa (xf:=zCO) rfl (by simp[zCO]) ?_
 simp only[zCO]
 simp(disch:=omega)only[go_sem,seval,wqq,h1,h2,zai,zad]
theorem zkN (p:Int):pf E0 182 [nP p,nP 0]=some (.tu [rfP 0 1,.i .i64 1]):=by
 have h1:=znJ (n:=0) (by decide)
 obtain⟨o,ho⟩:∃o:Int,o=0:=⟨0,rfl⟩
 obtain⟨r,hr⟩:∃r:Int,r=1:=⟨1,rfl⟩
 have t0:((tlen o.natAbs:Int)=0)=True:=by rw[ho,Int.natAbs_zero,zaH];simp
 have e1:nP 0=nP o:=by rw[ho]
 have e2:rfP 0 1=rfP o r:=by rw[ho,hr]
 rw[e2] at h1
 rw[e1,e2]
 clear e1 e2 ho hr
 refine zaa (xf:=zAH) rfl (by simp[zAH]) ?_
 simp only[zAH]
 simp(disch:=omega)only[go_sem,seval,wqq,t0,h1]
theorem zfC (p q:Int) (h:q≠0) (lp:tlen p.natAbs<90000) (lq:tlen q.natAbs<90000):pf E0 182 [nP p,nP q]=some (.tu [rfP (lowP p q) (lowQ p q),.i .i64 0]):=by
 have t0:((tlen q.natAbs:Int)=0)=False:=by have:=za4 (v:=q.natAbs) (by omega);simp;omega
 refine zaa (xf:=zAH) rfl (by simp[zAH]) ?_
 simp only[zAH]
 by_cases hn:q<0
 ·have sn:decide (q<0)=true:=by simpa using hn
  have n1:=zdN p (by omega)
  have n2:=zdN q (by omega)
  have f1:PV.ag [PV.b true,T q.natAbs]=nP q:=by rw[←sn];rfl
  have f2:PV.ag [PV.b true,Tw (tlen q.natAbs) q.natAbs]=nP q:=by rw[←sn];rfl
  obtain⟨l1,l2⟩:=zeR p q hn
  have gN:=zf7 (p := -p) (q := -q) (by omega)
  have gl:tlen (gI (-p) (-q)).natAbs<90000:=by
   rw[znm]
   have:(gI p q).natAbs≤q.natAbs:=by
    unfold gI;rw[Int.natAbs_natCast];exact Nat.gcd_le_right _ (by omega)
   have:=zas this
   omega
  have g:=znH (-p) (-q) (by rw[Int.natAbs_neg];omega) (by rw[Int.natAbs_neg];omega)
  have d1:=ze0 gN (x := -p) (by rw[Int.natAbs_neg];omega) (by omega)
  have d2:=ze0 gN (x := -q) (by rw[Int.natAbs_neg];omega) (by omega)
  rw[←l1,←l2]
  have e1:lowP (-p) (-q) = -p/gI (-p) (-q):=by unfold lowP;rw[if_neg (by omega)]
  have e2:lowQ (-p) (-q) = -q/gI (-p) (-q):=by unfold lowQ;rw[if_neg (by omega)]
  rw[e1,e2]
  have hg:nP (((Nat.gcd (-p).natAbs (-q).natAbs:Nat):Int))=nP (gI (-p) (-q)):=rfl
  rw[hg] at g
  generalize gI (-p) (-q)=G at *
  generalize-p=P at *
  generalize-q=Q at *
  simp(disch:=omega)only[go_sem,seval,wqq,t0,sn,f1,f2,n1,n2,g,d1,d2,zai,zad]
 ·have sn:decide (q<0)=false:=by simpa using hn
  have f1:PV.ag [PV.b false,T q.natAbs]=nP q:=by rw[←sn];rfl
  have f2:PV.ag [PV.b false,Tw (tlen q.natAbs) q.natAbs]=nP q:=by rw[←sn];rfl
  have gN:=zf7 (p:=p) (q:=q) h
  have gl:tlen (gI p q).natAbs<90000:=by
   have:(gI p q).natAbs≤q.natAbs:=by
    unfold gI;rw[Int.natAbs_natCast];exact Nat.gcd_le_right _ (by omega)
   have:=zas this
   omega
  have g:=znH p q (by omega) (by omega)
  have d1:=ze0 gN (x:=p) (by omega) (by omega)
  have d2:=ze0 gN (x:=q) (by omega) (by omega)
  have e1:lowP p q=p/gI p q:=by unfold lowP;rw[if_neg hn]
  have e2:lowQ p q=q/gI p q:=by unfold lowQ;rw[if_neg hn]
  rw[e1,e2]
  have hg:nP (((Nat.gcd p.natAbs q.natAbs:Nat):Int))=nP (gI p q):=rfl
  rw[hg] at g
  generalize gI p q=G at *
  simp(disch:=omega)only[go_sem,seval,wqq,t0,sn,f1,f2,g,d1,d2,zai,zad]
end Go.Eng
namespace Go.Eng
end Go.Eng
namespace Go.Eng
theorem zeM (z:Int):(decI z).length≤4*tlen z.natAbs+2:=by
 have:dlen z.natAbs≤4*tlen z.natAbs:=by
  rw[zav,Nat.pow_mul];exact zam _
 have h1:(dec z.natAbs).length≤4*tlen z.natAbs+1:=by
  unfold dec;split
  ·simp
  ·rw[zbO];omega
 unfold decI;split<;>(try simp only[List.length_cons])<;>omega
theorem zh4 (p q:Int) (lp:tlen p.natAbs<20000) (lq:tlen q.natAbs<20000):pf E0 196 [rfP p q]=some (.s (ftx p q)):=by
 have t1:=zks (z:=p) (by omega)
 have t2:=zks (z:=q) (by omega)
 have l1:=zeM p
 have l2:=zeM q
 have e1:decI 1=[49]:=by
  unfold decI;rw[if_neg (by decide)]
  show dec 1=[49]
  rw[zhm (v:=1) (n:=0) (by decide) (by decide)];rfl
 refine zaa (xf:=zB5) rfl (by simp[zB5]) ?_
 simp only[zB5]
 unfold ftx
 by_cases h:q=1
 ·rw[if_pos h]
  have t2':pf E0 107 [nP q]=some (.s [49]):=by rw[t2,h,e1]
  simp(disch:=omega)only[go_sem,seval,wqq,t2',t1]
 ·rw[if_neg h]
  have hne:(decI q=[49])=False:=by
   simp only[eq_iff_iff,iff_false]
   intro e;rw[←e1] at e;exact h (zlJ e)
  have a1:binP .add (.s (decI p)) (.s [47])=some (.s (decI p++[47])):=zaJ _ _ (by simp only[List.length_cons,List.length_nil];omega)
  have a2:binP .add (.s (decI p++[47])) (.s (decI q))=some (.s (decI p++[47]++decI q)):=zaJ _ _ (by simp only[List.length_append,List.length_cons,List.length_nil];omega)
  simp(disch:=omega)only[go_sem,seval,wqq,t2,t1,hne,a1,a2]
theorem zg4 (p q r s:Int) (lp:tlen p.natAbs<20000) (lq:tlen q.natAbs<20000) (lr:tlen r.natAbs<20000) (ls:tlen s.natAbs<20000):pf E0 200 [rfP p q,rfP r s]=some (.i .i64 (cmpI (p*s) (r*q))):=by
 have t1:=zar p s
 have t2:=zar r q
 have m1:=zbd p s (by omega) (by omega)
 have m2:=zbd r q (by omega) (by omega)
 have c:=zaQ (p*s) (r*q) (by omega) (by omega)
 generalize p*s=x at *
 generalize r*q=y at *
 refine zaa (xf:=zBb) rfl (by simp[zBb]) ?_
 simp only[zBb]
 simp(disch:=omega)only[go_sem,seval,wqq]
 refine zat [10,12] rfl ?_ ?_
 ·simp(disch:=omega)only[go_sem,seval,wqq,m1,m2,c]
  exact⟨_,rfl,rfl⟩
 simp(disch:=omega)only[go_sem,seval,wqq,m1,m2,c]
end Go.Eng
namespace Go.Eng
end Go.Eng
namespace Go.Eng
theorem zcO {z:Int} (h:tlen z.natAbs<1230):inR z.natAbs:=(zlX _).1 (.inl h)
theorem zqV {z:Int} (h:inR z.natAbs):wlen z.natAbs≤512:=(zaP _).2 h
theorem zln (a b:Int):tlen (a-b).natAbs≤max (tlen a.natAbs) (tlen b.natAbs)+1:=by
 have:=zb1 a (-b)
 rwa [Int.natAbs_neg] at this
end Go.Eng
namespace Go.Eng
theorem zn3 {x y:WI} (h:x.v=y.v):x=y:=by cases x;cases y;cases h;rfl
theorem zni {f g:FQ} (h1:f.p.v=g.p.v) (h2:f.q.v=g.q.v):f=g:=by
 have e1:=zn3 h1
 have e2:=zn3 h2
 cases f;cases g
 simp only at e1 e2
 subst e1 e2;rfl
def FQ.is (f:FQ) (n d:Int):Prop:=f.p.v*d=n*f.q.v
theorem zhH {f:FQ} {n d:Int} (h:d≠0) (h1:f.p.v=lowP n d) (h2:f.q.v=lowQ n d):f.is n d:=by
 unfold FQ.is;rw[h1,h2];exact zcv h
theorem zb7 (f:FQ):f.is f.p.v f.q.v:=rfl
theorem zl4 {f:FQ} {n d:Int} (h:f.is n d) (k:Int):f.is (n*k) (d*k):=by
 unfold FQ.is at *
 rw[←Int.mul_assoc,h];grind
theorem zze (n:Nat):(10:Nat)^(4*n)=10000^n:=by rw[Nat.pow_mul]
theorem zdH (x:WI):tlen x.v.natAbs≤1239:=by
 have h:=zfo ((zaP _).1 x.lim)
 obtain⟨n,hn⟩:∃n:Nat,n=1239:=⟨_,rfl⟩
 have h:dlen x.v.natAbs≤4*n:=by omega
 rw[zav,zze] at h
 rw[←hn,za3]
 exact h
def fsz (n:Nat) (f:FQ):Prop:=tlen f.p.v.natAbs≤n∧tlen f.q.v.natAbs≤n
theorem zir {a g:Int} (h:g∣a):tlen (a/g).natAbs≤tlen a.natAbs:=by
 refine zas ?_
 rw[Int.natAbs_ediv_of_dvd h];exact Nat.div_le_self _ _
theorem zqc (a b:FQ) {n m:Nat} (ha:fsz n a) (hb:fsz m b) (h:n+m+1<1230):∃f:FQ,pf E0 9 [fqP a,fqP b]=some (.tu [fqP f,.i .i64 0])∧f.is (a.p.v*b.q.v+b.p.v*a.q.v) (a.q.v*b.q.v)∧fsz (n+m+1) f:=by
 obtain⟨a1,a2⟩:=ha
 obtain⟨b1,b2⟩:=hb
 have qa:=a.q1
 have qb:=b.q1
 have k1:=zir (zcV a.q.v b.q.v)
 have k2:=zir (zct a.q.v b.q.v)
 have d1:b.q.v/gI a.q.v b.q.v*gI a.q.v b.q.v=b.q.v:=Int.ediv_mul_cancel (zcV _ _)
 have d2:a.q.v/gI a.q.v b.q.v*gI a.q.v b.q.v=a.q.v:=Int.ediv_mul_cancel (zct _ _)
 have t1:tlen (adX a b).natAbs≤n+m:=Nat.le_trans (zar _ _) (by omega)
 have t2:tlen (adY a b).natAbs≤n+m:=Nat.le_trans (zar _ _) (by omega)
 have t3:tlen (adD a b).natAbs≤n+m:=Nat.le_trans (zar _ _) (by omega)
 have t4:tlen (adX a b+adY a b).natAbs≤n+m+1:=Nat.le_trans (zb1 _ _) (by omega)
 have dn:=zm2 a b
 obtain⟨f,h1,h2,hf⟩:=(zrA a b).1 ⟨zcO (by omega),zcO (by omega),zcO (by omega),zcO (by omega)⟩
 refine⟨f,hf,?_,?_,?_⟩
 ·have hs:=zl4 (zhH dn h1 h2) (gI a.q.v b.q.v)
  have e1:(adX a b+adY a b)*gI a.q.v b.q.v=a.p.v*b.q.v+b.p.v*a.q.v:=by
   unfold adX adY
   rw[Int.add_mul,Int.mul_assoc,Int.mul_assoc,d1,d2]
  have e2:adD a b*gI a.q.v b.q.v=a.q.v*b.q.v:=by
   unfold adD
   rw[Int.mul_right_comm,d2]
  rwa [e1,e2] at hs
 ·rw[h1];exact Nat.le_trans (zas (zfs dn)) t4
 ·rw[h2];exact Nat.le_trans (zas (zft dn)) (by omega)
theorem zq5 (a b:FQ) {n m:Nat} (ha:fsz n a) (hb:fsz m b) (h:n+m<1230):∃f:FQ,pf E0 8 [fqP a,fqP b]=some (.tu [fqP f,.i .i64 0])∧f.is (a.p.v*b.p.v) (a.q.v*b.q.v)∧fsz (n+m) f:=by
 obtain⟨a1,a2⟩:=ha
 obtain⟨b1,b2⟩:=hb
 have qa:=a.q1
 have qb:=b.q1
 have dn:a.q.v*b.q.v≠0:=Int.mul_ne_zero (by omega) (by omega)
 have t1:tlen (muP a b).natAbs≤n+m:=Nat.le_trans (zas (zfs dn)) (Nat.le_trans (zar _ _) (by omega))
 have t2:tlen (muQ a b).natAbs≤n+m:=Nat.le_trans (zas (zft dn)) (Nat.le_trans (zar _ _) (by omega))
 obtain⟨f,h1,h2,hf⟩:=(znE a b).1 ⟨zcO (by omega),zcO (by omega)⟩
 exact⟨f,hf,zhH dn h1 h2,by rw[h1];exact t1,by rw[h2];exact t2⟩
theorem zne (a b:FQ) (hb0:b.p.v≠0) {n m:Nat} (ha:fsz n a) (hb:fsz m b) (h:n+m<1230):∃f:FQ,pf E0 65 [fqP a,fqP b]=some (.tu [fqP f,.i .i64 0])∧f.is (a.p.v*b.q.v) (a.q.v*b.p.v)∧fsz (n+m) f:=by
 obtain⟨a1,a2⟩:=ha
 obtain⟨b1,b2⟩:=hb
 have qa:=a.q1
 have dn:a.q.v*b.p.v≠0:=Int.mul_ne_zero (by omega) hb0
 have t1:tlen (dvP a b).natAbs≤n+m:=Nat.le_trans (zas (zfs dn)) (Nat.le_trans (zar _ _) (by omega))
 have t2:tlen (dvQ a b).natAbs≤n+m:=Nat.le_trans (zas (zft dn)) (Nat.le_trans (zar _ _) (by omega))
 obtain⟨f,h1,h2,hf⟩:=(zrB a b hb0).1 ⟨zcO (by omega),zcO (by omega)⟩
 exact⟨f,hf,zhH dn h1 h2,by rw[h1];exact t1,by rw[h2];exact t2⟩
noncomputable def rfQ (f:FQ):PV:=rfP f.p.v f.q.v
theorem zla {f:FQ} {n d:Int} (h1:f.p.v=n) (h2:f.q.v=d):rfP n d=rfQ f:=by rw[←h1,←h2];rfl
theorem zlI {a b c d:Int} (h:a-b=c-d):cmpI a b=cmpI c d:=by
 unfold cmpI
 have e1:(a<b)=(c<d):=by simp only[eq_iff_iff];omega
 have e2:(b<a)=(d<c):=by simp only[eq_iff_iff];omega
 simp only[e1,e2]
theorem zfZ (a b:Int):cmpI b a = -cmpI a b:=by
 unfold cmpI
 rcases Int.lt_trichotomy a b with h|h|h
 ·rw[if_neg (by omega),if_pos h,if_pos h];rfl
 ·subst h;rw[if_neg (by omega),if_neg (by omega)];rfl
 ·rw[if_pos h,if_neg (by omega),if_pos h]
theorem zeL {a b k:Int} (hk:0<k):cmpI (a*k) (b*k)=cmpI a b:=by
 unfold cmpI
 rcases Int.lt_trichotomy a b with h|h|h
 ·have:=Int.mul_lt_mul_of_pos_right h hk
  rw[if_pos this,if_pos h]
 ·subst h;rw[if_neg (by omega),if_neg (by omega),if_neg (by omega),if_neg (by omega)]
 ·have:=Int.mul_lt_mul_of_pos_right h hk
  rw[if_neg (by omega),if_pos this,if_neg (by omega),if_pos h]
theorem zjd {p q r s:Int} (hq:0<q) (hs:0<s) (h:p/q≠r/s):cmpI (p*s) (r*q)=cmpI (p/q) (r/s):=by
 have key:∀{p q r s:Int},0<q→0<s→p/q<r/s→p*s<r*q:=fun {p q r s} hq hs h=>by
  have d1:=Int.mul_ediv_add_emod p q
  have d2:=Int.mul_ediv_add_emod r s
  have m1:=Int.emod_lt_of_pos p hq
  have m2:=Int.emod_nonneg r (show s≠0 by omega)
  have h1:p<q*(r/s):=by
   have:q*(p/q+1)≤q*(r/s):=Int.mul_le_mul_of_nonneg_left (by omega) (by omega)
   rw[Int.mul_add] at this
   omega
  have h2:p*s<q*(r/s)*s:=Int.mul_lt_mul_of_pos_right h1 hs
  have h3:q*(r/s)*s≤r*q:=by
   have:s*(r/s)*q≤r*q:=Int.mul_le_mul_of_nonneg_right (by omega) (by omega)
   have e:q*(r/s)*s=s*(r/s)*q:=by grind
   omega
  omega
 unfold cmpI
 rcases Int.lt_trichotomy (p/q) (r/s) with g|g|g
 ·rw[if_pos (key hq hs g),if_pos g]
 ·exact(h g).elim
 ·have:=key hs hq g
  rw[if_neg (by omega),if_pos this,if_neg (by omega),if_pos g]
theorem zje {p q r s:Int} (h:p/q=r/s):cmpI (p*s) (r*q)=cmpI (p%q*s) (r%s*q):=by
 refine zlI ?_
 have d1:=Int.mul_ediv_add_emod p q
 have d2:=Int.mul_ediv_add_emod r s
 rw[h] at d1
 have e1:p*s=(q*(r/s)+p%q)*s:=by rw[d1]
 have e2:r*q=(s*(r/s)+r%s)*q:=by rw[d2]
 rw[e1,e2]
 grind
theorem zjf {x y q s:Int} (hx:0≤x) (hy:0≤y) (hq:0<q) (hs:0<s) (h:x=0∨y=0):cmpI (x*s) (y*q)=cmpI x 0-cmpI y 0:=by
 rcases h with h|h
 ·subst h
  have:=zeL (a:=0) (b:=y) hq
  rw[Int.zero_mul] at this
  rw[Int.zero_mul,this]
  have e:cmpI 0 0=0:=rfl
  rw[e,zfZ 0 y];omega
 ·subst h
  have:=zeL (a:=x) (b:=0) hs
  rw[Int.zero_mul] at this
  have e:cmpI 0 0=0:=rfl
  rw[Int.zero_mul,this,e];omega
theorem zjg (x y q s:Int):cmpI (x*s) (y*q) = -cmpI (q*y) (s*x):=by
 rw[Int.mul_comm x s,Int.mul_comm y q];exact zfZ _ _
def cmpF (a b:FQ):Int:=cmpI (a.p.v*b.q.v) (b.p.v*a.q.v)
end Go.Eng
namespace Go.Eng
def isPR:PV→Bool
 | .p _ _=>true
 | .sl _ _ _ _ _=>true
 | .tu _=>true
 | _=>false
def slotIn3 (E:PEnv) (ops:List XOper) (L:List Nat) (c:Nat×Nat):Bool :=
 match ops[c.1]?,ops[c.2]? with
 | some a,some b =>
  match a.op.looks with
  | .t s=>a.op.cls==2&&L.contains s&&calmOp E b.op
  | _=>false
 | _,_=>false
end Go.Eng
namespace Go.Eng
def apP:PV→PV→Bool
 | .p a _,.p b _ => !(Nat.beq a b)
 | _,_=>false
def slotSt (ops:List XOper) (L R:List Nat) (c:Nat×Nat):Bool :=
 match ops[c.1]?,ops[c.2]? with
 | some a,some b =>
  match a.op,b.op with
  | .load _ _ (.t s),.store _ (.t r) _=>L.contains s&&R.contains r&&fixedX ops c.2 (.t r)
  | _,_=>false
 | _,_=>false
theorem zax {E:PEnv} {F:PFin} {ops:List XOper} {chk:List (Nat×Nat)} {ks:List KI} {fr:PFr} {M:PM} (L R:List Nat) (hL:chk.all (fun c=>calmC E ops c || slotIn2 E ops L c || slotSt ops L R c)=true)
  (hr:WL E ⟨(0::0::(L++R)).map XR.tmp,fun w _=>∃l,w=.tu l∧((l.drop 2).take L.length).all (fun x=>isPP x&&((l.drop 2).drop L.length).all (apP x))=true⟩ ops [] fr M) (w:WL E F ops ks fr M):WK E F (.drw ops chk) ks fr M:=by
 refine zcL (fun fr2 Ms hT=>?_) w
 have hp:∀s∈L,isPP (fr2 s)=true∧∀r∈R,apP (fr2 s) (fr2 r)=true:=by
  obtain⟨lf,q,fr3,M3,vs,e,h1,h2,l,h3,h4⟩:=hr
  simp only[Option.bind_eq_some_iff,unw] at e
  obtain⟨⟨fr4,M4⟩,e1,e2⟩:=e
  simp only[Option.some.injEq,Prod.mk.injEq] at e2
  obtain⟨_,e3,e4⟩:=e2
  rw[←e3,←e4] at h2
  obtain⟨Ms',g1,g2⟩:=zbK e1
  rw[g1] at hT
  cases hT
  have hres:∀(f:PFr) (N:PM) (l:List Nat),pRes f N (l.map XR.tmp)=some (l.map f):=fun f N l=>by
   induction l with
   | nil=>rfl
   | cons a l ih=>simp only[List.map_cons,pRes,pResOne,ih]
  rw[hres] at h2
  cases h2
  simp only[List.map_cons,packP] at h3
  cases h3
  have h5:(((L++R).map fr2).take L.length).all (fun x=>isPP x&&(((L++R).map fr2).drop L.length).all (apP x))=true:=h4
  rw[List.map_append,List.take_left' (by simp),List.drop_left' (by simp)] at h5
  simp only[List.all_eq_true,List.mem_map,Bool.and_eq_true,forall_exists_index,and_imp,forall_apply_eq_imp_iff₂] at h5
  exact h5
 rw[List.all_eq_true] at hL ⊢
 rintro⟨i,j⟩ hc
 have h1:=hL _ hc
 simp only[Bool.or_eq_true] at h1
 rcases h1 with (h1|h1)|h1
 ·exact zc6 hT h1
 ·unfold slotIn2 at h1
  split at h1
  ·rename_i a b ha hb
   split at h1
   ·rename_i z k s hop
    simp only[Bool.and_eq_true] at h1
    obtain⟨c1,c2⟩:=h1
    have hs:=(hp s (List.contains_iff_mem.1 c1)).1
    cases hf:fr2 s with
    | p n o =>
     obtain⟨fri,A,B,q1,q2,q3,q4⟩:=zaz hT ha
     obtain⟨frj,C,D,p1,p2,p3,p4⟩:=zaz hT hb
     have p2':Ms[(i,j).2+1]?=some D:=p2
     have q2':Ms[(i,j).1+1]?=some B:=q2
     refine zcT ?_
     simp only[chkP0,ha,q1,q2,p1,p2]
     rw[if_neg (by rw[hop];simp[XO.cls])]
     rw[hop]
     show chkV ops j (.t s) C D (fr2 s)=true
     rw[hf]
     show verP (some n) C D=true
     rcases p3 with⟨_,v,p3⟩|⟨_,p3⟩
     ·cases hopb:b.op with
      | call f l =>
       rw[hopb] at p3 c2
       obtain⟨ns,rfl⟩:=zce c2 p3
       exact zcK ns C _
      | _=>rw[hopb] at c2;simp[calmOp] at c2
     ·rw[p3];simp[verP]
    | _=>rw[hf] at hs;simp[isPP] at hs
   ·cases h1
  ·cases h1
 ·unfold slotSt at h1
  split at h1
  ·rename_i a b ha hb
   split at h1
   ·rename_i z k s n r x hop hop2
    simp only[Bool.and_eq_true] at h1
    obtain⟨⟨c1,c2⟩,c3⟩:=h1
    have hap:=(hp s (List.contains_iff_mem.1 c1)).2 r (List.contains_iff_mem.1 c2)
    obtain⟨fri,A,B,q1,q2,q3,q4⟩:=zaz hT ha
    obtain⟨frj,C,D,p1,p2,p3,p4⟩:=zaz hT hb
    have p2':Ms[(i,j).2+1]?=some D:=p2
    have q2':Ms[(i,j).1+1]?=some B:=q2
    have e2:fr2 r=frj r:=p4 (.t r) c3
    refine zcT ?_
    simp only[chkP0,ha,q1,q2,p1,p2]
    rw[if_neg (by rw[hop];simp[XO.cls])]
    rw[hop]
    show chkV ops j (.t s) C D (fr2 s)=true
    cases hf:fr2 s with
    | p n1 o1 =>
     cases hg:fr2 r with
     | p n2 o2 =>
      rw[hf,hg] at hap
      have hne:n1≠n2:=fun q=>by rw[q] at hap;simp[apP] at hap
      show verP (some n1) C D=true
      rcases p3 with⟨_,v,p3⟩|⟨_,p3⟩
      ·rw[hop2] at p3
       simp only[XO.pst,XO.pev] at p3
       rw[show X.pv E.glob frj (.t r)=.p n2 o2 from e2.symm.trans hg] at p3
       simp only at p3
       generalize (X.pv E.glob frj x).cells=cs at p3
       split at p3
       ·split at p3
        ·cases p3
         simp only[verP]
         rw[List.getElem?_set_ne (fun h=>hne h.symm)];simp
        ·cases p3
       ·cases p3
      ·rw[p3];simp[verP]
     | _=>rw[hf,hg] at hap;simp[apP] at hap
    | _=>rw[hf] at hap;simp[apP] at hap
   ·cases h1
  ·cases h1
end Go.Eng
namespace Go.Eng
theorem mG (G L:PM) (k:Nat):PM.blk (G++L) (G.length+k)=PM.blk L k:=by
 unfold PM.blk
 rw[List.getElem?_append_right (by omega),Nat.add_sub_cancel_left]
theorem mG0 (G L:PM):PM.blk (G++L) G.length=PM.blk L 0:=mG G L 0
theorem sG (G L:PM) (k:Nat) (v:Option PB):(G++L).set (G.length+k) v=G++L.set k v:=by
 rw[List.set_append_right _ _ (by omega),Nat.add_sub_cancel_left]
theorem sG0 (G L:PM) (v:Option PB):(G++L).set G.length v=G++L.set 0 v:=sG G L 0 v
theorem lG (G L:PM):(G++L).length=G.length+L.length:=List.length_append
theorem zdS (a b:Int) : -1≤cmpI a b∧cmpI a b≤1:=by unfold cmpI;split<;>(try split)<;>omega
theorem zdy (a b:FQ):pf E0 11 [fqP a,fqP b]=some (.i .i64 (cmpF a b)):=by
 have da:=zci a
 have db:=zci b
 have qa:=a.q1
 have qb:=b.q1
 refine zaa (xf:=zAV) rfl (by simp[zAV]) ?_
 simp only[zAV]
 simp(disch:=omega)only[go_sem,seval,wqq]
 refine zax [16,3,20] [5,6] rfl ?_ ?_
 ·simp(disch:=omega)only[go_sem,seval,wqq,da,db]
  exact⟨_,rfl,rfl⟩
 simp(disch:=omega)only[go_sem,seval,wqq,da,db]
 refine zan zCD.eq_1 (fun(σ:(WI×WI)×(WI×WI)×Int) fr M=>1≤σ.1.2.v∧1≤σ.2.1.2.v∧(σ.2.2=1∨σ.2.2 = -1)∧σ.2.2*cmpI (σ.1.1.v*σ.2.1.2.v) (σ.2.1.1.v*σ.1.2.v)=cmpF a b ∧
  fr 5=.p 2 0∧fr 6=.p 3 0∧fr 7=.p 4 0∧fr 8=.p 5 0∧fr 9=.i .i64 σ.2.2∧∃b0 b1 v2 v3 v4 v5 G,M=b0::b1::some ⟨(wiP σ.1.1).cells,true,v2⟩::some ⟨(wiP σ.1.2).cells,true,v3⟩::some ⟨(wiP σ.2.1.1).cells,true,v4⟩::some ⟨(wiP σ.2.1.2).cells,true,v5⟩::G)
  (fun σ=>σ.1.2.v.toNat) ?_ ((a.p,a.q),(b.p,b.q),1) ⟨qa,qb,.inl rfl,Int.one_mul _,rfl,rfl,rfl,rfl,rfl,_,_,_,_,_,_,[],rfl⟩
 rintro⟨⟨p,q⟩,⟨r,s⟩,g⟩ fr M ⟨hq,hs,hg,hc,h5,h6,h7,h8,h9,b0,b1,v2,v3,v4,v5,G,rfl⟩ ih
 simp only at hq hs hg hc h5 h6 h7 h8 h9
 have d1:=zgZ p q (by omega)
 have d2:=zgZ r s (by omega)
 have xv:(p.div q (by omega)).v=p.v/q.v:=rfl
 have ev:(p.mod q (by omega)).v=p.v%q.v:=rfl
 have yv:(r.div s (by omega)).v=r.v/s.v:=rfl
 have ov:(r.mod s (by omega)).v=r.v%s.v:=rfl
 have e0:=Int.emod_nonneg p.v (show q.v≠0 by omega)
 have o0:=Int.emod_nonneg r.v (show s.v≠0 by omega)
 have e1:=Int.emod_lt_of_pos p.v (show 0<q.v by omega)
 rw[←ev] at e0 e1
 rw[←ov] at o0
 have s1:=zjd (p:=p.v) (q:=q.v) (r:=r.v) (s:=s.v) (by omega) (by omega)
 have s2:=zje (p:=p.v) (q:=q.v) (r:=r.v) (s:=s.v)
 rw[←xv,←yv] at s1
 rw[←xv,←yv,←ev,←ov] at s2
 generalize p.div q (by omega)=x at *
 generalize p.mod q (by omega)=e at *
 generalize r.div s (by omega)=y at *
 generalize r.mod s (by omega)=o at *
 have c1:=zaZ x y
 have g1:=za6 e
 have g2:=za6 o
 have r1:=zdS x.v y.v
 have r2:=zdS e.v 0
 have r3:=zdS o.v 0
 by_cases hxy:x.v=y.v
 ·have t0:(cmpI x.v y.v=0)=True:=by rw[zaC];simp[hxy]
  have hb:=s2 hxy
  by_cases hz:e.v=0∨o.v=0
  ·rw[zjf (by omega) (by omega) (by omega) (by omega) hz] at hb
   have hm:cmpF a b=g*(cmpI e.v 0-cmpI o.v 0):=by rw[←hc,hb]
   have hl : -2≤g*(cmpI e.v 0-cmpI o.v 0)∧g*(cmpI e.v 0-cmpI o.v 0)≤2:=by rcases hg with rfl|rfl<;>omega
   rw[hm]
   by_cases he:e.v=0
   ·have t1:(cmpI e.v 0=0)=True:=by rw[zaC];simp[he]
    simp(disch:=omega)only[go_sem,seval,wqq,h5,h6,h7,h8,h9,d1,d2,mG,mG0,sG,sG0,lG,lqq,c1,g1,g2,t0,t1]
    refine zaw [14] rfl (rfl) ?_
    simp(disch:=omega)only[go_sem,seval,wqq,h5,h6,h7,h8,h9,d1,d2,mG,mG0,sG,sG0,lG,lqq,c1,g1,g2]
   ·have t1:(cmpI e.v 0=0)=False:=by rw[zaC];simp[he]
    have t2:(cmpI o.v 0=0)=True:=by rw[zaC];simp;omega
    simp(disch:=omega)only[go_sem,seval,wqq,h5,h6,h7,h8,h9,d1,d2,mG,mG0,sG,sG0,lG,lqq,c1,g1,g2,t0,t1,t2]
    refine zaw [14] rfl (rfl) ?_
    simp(disch:=omega)only[go_sem,seval,wqq,h5,h6,h7,h8,h9,d1,d2,mG,mG0,sG,sG0,lG,lqq,c1,g1,g2]
  ·have t1:(cmpI e.v 0=0)=False:=by rw[zaC];simp;omega
   have t2:(cmpI o.v 0=0)=False:=by rw[zaC];simp;omega
   have n0 : -1≤g∧g≤1:=by omega
   rw[zjg e.v o.v q.v s.v] at hb
   simp(disch:=omega)only[go_sem,seval,wqq,h5,h6,h7,h8,h9,d1,d2,mG,mG0,sG,sG0,lG,lqq,c1,g1,g2,t0,t1,t2]
   refine zax [11,8,14] [5,6,7] rfl ?_ ?_
   ·simp(disch:=omega)only[go_sem,seval,wqq,h5,h6,h7,h8,h9,d1,d2,mG,mG0,sG,sG0,lG,lqq]
    exact⟨_,rfl,rfl⟩
   simp(disch:=omega)only[go_sem,seval,wqq,h5,h6,h7,h8,h9,d1,d2,mG,mG0,sG,sG0,lG,lqq]
   exact ih ((q,e),(s,o),0-g) _ _ (by simp only;omega) ⟨by simp only;omega,by simp only;omega,by simp only;omega,by simp only;rw[←hc,hb];grind,h5,h6,h7,h8,rfl,_,_,_,_,_,_,_,rfl⟩
 ·have t0:(cmpI x.v y.v=0)=False:=by rw[zaC];simp[hxy]
  have hb:=s1 hxy
  have hm:cmpF a b=g*cmpI x.v y.v:=by rw[←hc,hb]
  have hl : -2≤g*cmpI x.v y.v∧g*cmpI x.v y.v≤2:=by rcases hg with rfl|rfl<;>omega
  rw[hm]
  simp(disch:=omega)only[go_sem,seval,wqq,h5,h6,h7,h8,h9,d1,d2,mG,mG0,sG,sG0,lG,lqq,c1,t0]
end Go.Eng
namespace Go.Eng
@[go_sem] theorem zw4 (M:PM) (d:Nat) (f:FQ):fz M (d+1+1) (rfQ f)=some (rfQ f,[]):=_root_.id rfl
@[go_sem] theorem zqs (f:FQ):(rfQ f).cells=[.b (decide (f.p.v<0)),T f.p.v.natAbs,.b (decide (f.q.v<0)),T f.q.v.natAbs]:=_root_.id rfl
@[go_sem] theorem zs0 (f:FQ):rfP f.p.v f.q.v=rfQ f:=_root_.id rfl
def pk (xs:List Int) (i:Int):Int:=if i<0∨(xs.length:Int)≤i then 0 else xs.getD i.toNat 0
theorem zdC {xs:List Int} (hx:Ints xs) (i:Int):Fits64 (pk xs i):=by
 unfold pk
 by_cases h:i<0∨(xs.length:Int)≤i
 ·rw[if_pos h];decide
 ·rw[if_neg h]
  have hl:i.toNat<xs.length:=by omega
  exact hx.2 _ (by simp[hl])
theorem zsW {xs:List Int} (hx:Ints xs) {i:Int} (hi:Fits64 i):pf E0 180 [ints xs,.i .i64 i]=some (.i .i64 (pk xs i)):=by
 refine zaa (xf:=zz2) rfl (by simp[zz2]) ?_
 simp only[zz2]
 obtain⟨hx1,hx2⟩:=hx
 unfold pk
 by_cases h:i<0
 ·rw[if_pos (.inl h)]
  simp(disch:=omega)only[go_sem,seval,wqq,h]
 ·by_cases h':(xs.length:Int)≤i
  ·rw[if_pos (.inr h')]
   have q1:(i≥(xs.length:Int))=True:=by simp;omega
   simp(disch:=omega)only[go_sem,seval,wqq,h,q1]
  ·rw[if_neg (by omega)]
   have q1:(i≥(xs.length:Int))=False:=by simp;omega
   obtain⟨j,rfl⟩:∃j:Nat,i=j:=⟨i.toNat,by omega⟩
   have hl:j<xs.length:=by omega
   have hg:xs[j]?=some (xs.getD j 0):=by simp[hl]
   simp(disch:=omega)only[go_sem,seval,wqq,h,q1,zdd hg,Int.toNat_natCast]
def mulN (x:Int):Nat→Int
 | 0=>x
 | n+1=>mulN x n*1000000007
theorem zex (x:Int):∀n,tlen (mulN x n).natAbs≤tlen x.natAbs+3*n
 | 0=>Nat.le_refl _
 | n+1=>by
  have h1:=zex x n
  have h2:=zar (mulN x n) 1000000007
  have h3:tlen (1000000007:Int).natAbs≤3:=zah (by decide)
  show tlen (mulN x n*1000000007).natAbs≤_
  omega
def numF (a b:Int):Int:=if a%7<4 then b.tmod 60 else if a%7<6 then b else mulN (b+3) ((a.tdiv 7).tmod 40).toNat
theorem zdF (a:Int) {n:Int} (h:0<n) : -n<a.tmod n∧a.tmod n<n:=by
 have h1:=Int.tmod_lt_of_pos a h
 have h2:=Int.lt_tmod_of_pos a h
 omega
theorem zhO {b:Int} (a:Int) (hb:Fits64 b):tlen (numF a b).natAbs≤122:=by
 unfold Fits64 at hb
 have h1:=zdF b (n:=60) (by omega)
 have h2:=zdF (a.tdiv 7) (n:=40) (by omega)
 have h3:=zex (b+3) ((a.tdiv 7).tmod 40).toNat
 have h4:tlen (b+3).natAbs≤5:=zah (by omega)
 unfold numF
 split
 ·exact Nat.le_trans (zsi (by omega)) (by omega)
 ·split
  ·have:tlen b.natAbs≤5:=zah (by omega)
   omega
  ·omega
theorem ze1 {a b:Int} (ha:Fits64 a) (hb:Fits64 b):pf E0 179 [.i .i64 a,.i .i64 b]=some (nP (numF a b)):=by
 have hb':=hb
 unfold Fits64 at ha hb'
 have h1:=zdF b (n:=60) (by omega)
 have h2:=zdF (a.tdiv 7) (n:=40) (by omega)
 have h4:tlen (b+3).natAbs≤5:=zah (by omega)
 have k0:a%7=if a.tmod 7<0 then a.tmod 7+7 else a.tmod 7:=by
  have e1:=Int.mul_tdiv_add_tmod a 7
  have e2:=zdF a (n:=7) (by omega)
  split<;>omega
 have k1:=zdF a (n:=7) (by omega)
 have r1:=zbx (b.tmod 60) (by unfold Fits64;omega)
 have r2:=zbx b hb
 have r3:=zbx 3 (by decide)
 have r4:=zbx 1000000007 (by decide)
 have r5:=zes b 3 (by have:tlen b.natAbs≤5:=zah (by omega);omega) (by have:tlen (3:Int).natAbs≤1:=zah (by decide);omega)
 have l3:=zex (b+3)
 refine zaa (xf:=zBr) rfl (by simp[zBr]) ?_
 simp only[zBr]
 unfold numF
 rw[k0]
 obtain⟨m,hm⟩:∃m:Int,m=a.tmod 7:=⟨_,rfl⟩
 obtain⟨n,hn⟩:∃n:Int,n=(a.tdiv 7).tmod 40:=⟨_,rfl⟩
 rw[←hm] at k1
 rw[←hn] at h2
 simp only[←hm,←hn]
 have hm':=hm.symm
 have hn':=hn.symm
 have e7:=Int.mul_tdiv_add_tmod a 7
 obtain⟨d,hd⟩:∃d:Int,a.tdiv 7=d:=⟨_,rfl⟩
 rw[hd] at hn' e7
 rw[hm'] at e7
 have hT:tlen (1000000007:Int).natAbs≤3:=zah (by decide)
 by_cases hm0:m<0
 ·rw[if_pos hm0]
  by_cases c4:m+7<4
  ·rw[if_pos c4]
   simp(disch:=omega)only[go_sem,seval,wqq,hm',hm0,c4,r1]
  ·rw[if_neg c4]
   by_cases c6:m+7<6
   ·rw[if_pos c6]
    simp(disch:=omega)only[go_sem,seval,wqq,hm',hm0,c4,c6,r2]
   ·rw[if_neg c6]
    simp(disch:=omega)only[go_sem,seval,wqq,hm',hm0,c4,c6,r2,r3,r5]
    refine zan zB8.eq_1 (fun(i:Nat) fr M=>i≤n.toNat∧fr 0=.i .i64 a∧fr 4=.p 0 0∧fr 6=.p 1 0∧fr 7=(PV.i .i64 ((i:Nat):Int))∧∃v,M=[some ⟨[.b false,.nl],true,0⟩,some ⟨(nP (mulN (b+3) i)).cells,true,v⟩]) (fun i=>n.toNat-i) ?_ 0 ⟨by omega,by simp only[go_sem,seval],by simp only[go_sem,seval],by simp only[go_sem,seval],by simp only[go_sem,seval],_,rfl⟩
    rintro i fr M ⟨hi,f0,f4,f6,f7,v,rfl⟩ ih
    have li:=l3 i
    by_cases hin:(i:Int)<n
    ·have q1:((i:Int)<n)=True:=by simp[hin]
     have mm:=zbd (mulN (b+3) i) 1000000007 (by omega) (by omega)
     have e1:mulN (b+3) i*1000000007=mulN (b+3) (i+1):=rfl
     rw[e1] at mm
     generalize hX:mulN (b+3) i=X at *
     generalize hY:mulN (b+3) (i+1)=Y at *
     simp(disch:=omega)only[go_sem,seval,wqq,f0,f4,f6,f7,hd,hn',q1]
     refine zaw [6] rfl (by simp only[go_sem,seval,f6]) ?_
     simp(disch:=omega)only[go_sem,seval,wqq,f6,f7,r4,mm]
     exact ih (i+1) _ _ (by omega) ⟨by omega,by simp only[go_sem,seval,f0],by simp only[go_sem,seval,f4],by simp only[go_sem,seval,f6],by simp only[go_sem,seval];rw[Int.natCast_succ],_,by rw[hY];rfl⟩
    ·have q1:((i:Int)<n)=False:=by simp[hin]
     obtain rfl:i=n.toNat:=by omega
     generalize mulN (b+3) n.toNat=X at *
     simp(disch:=omega)only[go_sem,seval,wqq,f0,f4,f6,f7,hd,hn',q1]
 ·rw[if_neg hm0]
  by_cases c4:m<4
  ·rw[if_pos c4]
   simp(disch:=omega)only[go_sem,seval,wqq,hm',hm0,c4,r1]
  ·rw[if_neg c4]
   by_cases c6:m<6
   ·rw[if_pos c6]
    simp(disch:=omega)only[go_sem,seval,wqq,hm',hm0,c4,c6,r2]
   ·rw[if_neg c6]
    simp(disch:=omega)only[go_sem,seval,wqq,hm',hm0,c4,c6,r2,r3,r5]
    refine zan zB8.eq_1 (fun(i:Nat) fr M=>i≤n.toNat∧fr 0=.i .i64 a∧fr 4=.p 0 0∧fr 6=.p 1 0∧fr 7=(PV.i .i64 ((i:Nat):Int))∧∃v,M=[some ⟨[.b false,.nl],true,0⟩,some ⟨(nP (mulN (b+3) i)).cells,true,v⟩]) (fun i=>n.toNat-i) ?_ 0 ⟨by omega,by simp only[go_sem,seval],by simp only[go_sem,seval],by simp only[go_sem,seval],by simp only[go_sem,seval],_,rfl⟩
    rintro i fr M ⟨hi,f0,f4,f6,f7,v,rfl⟩ ih
    have li:=l3 i
    by_cases hin:(i:Int)<n
    ·have q1:((i:Int)<n)=True:=by simp[hin]
     have mm:=zbd (mulN (b+3) i) 1000000007 (by omega) (by omega)
     have e1:mulN (b+3) i*1000000007=mulN (b+3) (i+1):=rfl
     rw[e1] at mm
     generalize hX:mulN (b+3) i=X at *
     generalize hY:mulN (b+3) (i+1)=Y at *
     simp(disch:=omega)only[go_sem,seval,wqq,f0,f4,f6,f7,hd,hn',q1]
     refine zaw [6] rfl (by simp only[go_sem,seval,f6]) ?_
     simp(disch:=omega)only[go_sem,seval,wqq,f6,f7,r4,mm]
     exact ih (i+1) _ _ (by omega) ⟨by omega,by simp only[go_sem,seval,f0],by simp only[go_sem,seval,f4],by simp only[go_sem,seval,f6],by simp only[go_sem,seval];rw[Int.natCast_succ],_,by rw[hY];rfl⟩
    ·have q1:((i:Int)<n)=False:=by simp[hin]
     obtain rfl:i=n.toNat:=by omega
     generalize mulN (b+3) n.toNat=X at *
     simp(disch:=omega)only[go_sem,seval,wqq,f0,f4,f6,f7,hd,hn',q1]
theorem znt {P Q:Int} {n:Nat} (hq:Q≠0) (hp:tlen P.natAbs≤n) (hl:tlen Q.natAbs≤n) (hn:n<1230):∃f:FQ,f.p.v=lowP P Q∧f.q.v=lowQ P Q∧fsz n f:=by
 have t1:=Nat.le_trans (zas (zfs (p:=P) hq)) hp
 have t2:=Nat.le_trans (zas (zft (p:=P) hq)) hl
 exact⟨⟨⟨lowP P Q,zqV (zcO (by omega))⟩,⟨lowQ P Q,zqV (zcO (by omega))⟩,zdu hq,zek hq⟩,rfl,rfl,t1,t2⟩
theorem zmu {xs:List Int} (hx:Ints xs) {i:Int} (h0:0≤i) (h1:i≤100):∃f:FQ,fsz 122 f∧pf E0 187 [ints xs,.i .i64 i]=some (rfQ f):=by
 have a0:=zsW hx (i:=i) (by unfold Fits64;omega)
 have a1:=zsW hx (i:=i+1) (by unfold Fits64;omega)
 have a2:=zsW hx (i:=i+2) (by unfold Fits64;omega)
 have a3:=zsW hx (i:=i+3) (by unfold Fits64;omega)
 have n1:=ze1 (zdC hx i) (zdC hx (i+1))
 have n2:=ze1 (zdC hx (i+2)) (zdC hx (i+3))
 have l1:=zhO (pk xs i) (zdC hx (i+1))
 have l2:=zhO (pk xs (i+2)) (zdC hx (i+3))
 generalize numF (pk xs i) (pk xs (i+1))=P at *
 generalize numF (pk xs (i+2)) (pk xs (i+3))=Q at *
 generalize pk xs i=y0 at *
 generalize pk xs (i+1)=y1 at *
 generalize pk xs (i+2)=y2 at *
 generalize pk xs (i+3)=y3 at *
 have o1:=zbx 1 (by decide)
 have t1:tlen (1:Int).natAbs≤1:=zah (by decide)
 by_cases hq:Q=0
 ·obtain⟨f,f1,f2,f3⟩:=znt (P:=P) (Q:=1) (n:=122) (by decide) l1 (by omega) (by omega)
  refine⟨f,f3,?_⟩
  have mk:=zfC P 1 (by decide) (by omega) (by omega)
  rw[zla f1 f2] at mk
  have t0:((tlen Q.natAbs:Int)=0)=True:=by rw[hq,Int.natAbs_zero,zaH];simp
  clear hq f1 f2
  obtain⟨k,hk⟩:∃k:Int,nP k=nP 1:=⟨1,rfl⟩
  rw[←hk] at mk o1
  clear hk
  refine zaa (xf:=zAE) rfl (by simp[zAE]) ?_
  simp only[zAE]
  simp(disch:=omega)only[go_sem,seval,wqq,a2,a3,n2,t0,o1]
  refine zaw [5] rfl (by simp only[go_sem,seval]) ?_
  simp(disch:=omega)only[go_sem,seval,wqq,a0,a1,n1,mk]
 ·obtain⟨f,f1,f2,f3⟩:=znt (P:=P) (Q:=Q) (n:=122) hq l1 l2 (by omega)
  refine⟨f,f3,?_⟩
  have mk:=zfC P Q hq (by omega) (by omega)
  rw[zla f1 f2] at mk
  have t0:((tlen Q.natAbs:Int)=0)=False:=by have:=za4 (v:=Q.natAbs) (by omega);simp;omega
  refine zaa (xf:=zAE) rfl (by simp[zAE]) ?_
  simp only[zAE]
  simp(disch:=omega)only[go_sem,seval,wqq,a2,a3,n2,t0]
  refine zaw [5] rfl (by simp only[go_sem,seval]) ?_
  simp(disch:=omega)only[go_sem,seval,wqq,a0,a1,n1,mk]
end Go.Eng
namespace Go.Eng
end Go.Eng
namespace Go.Eng
theorem zcw (x y:WI):∃(g:FQ) (e:Int),pf E0 24 [wiP x,wiP y]=some (.tu [fqP g,.i .i64 e])∧pf E0 182 [nP x.v,nP y.v]=some (.tu [rfQ g,.i .i64 e])∧(y.v≠0→e=0∧g.p.v=lowP x.v y.v∧g.q.v=lowQ x.v y.v):=by
 have lx:=zdH x
 have ly:=zdH y
 by_cases h:y.v=0
 ·refine⟨fq0,1,zpa x y h,?_,fun q=>(q h).elim⟩
  have:=zkN x.v
  rw[h];exact this
 ·obtain⟨g,g1,g2,mk⟩:=zgf x y h
  refine⟨g,0,mk,?_,fun _=>⟨rfl,g1,g2⟩⟩
  have:=zfC x.v y.v h (by omega) (by omega)
  rw[zla g1 g2] at this;exact this
end Go.Eng
namespace Go.Eng
theorem zgH (x:WI):(decI x.v).length<4611686018427387904:=by have:=zbT x;omega
theorem zjX (f:FQ):pf E0 24 [wiP f.p,wiP f.q]=some (.tu [fqP f,.i .i64 0]):=by
 have hq:=f.q1
 obtain⟨g,g1,g2,mk⟩:=zgf f.p f.q (by omega)
 obtain⟨l1,l2⟩:=zde (p:=f.p.v) (q:=f.q.v) (by omega) f.cop
 have hg:g=f:=zni (g1.trans l1) (g2.trans l2)
 rw[hg] at mk;exact mk
theorem zfi (f:FQ):(ftx f.p.v f.q.v).length<4000000:=by
 have h1:=zbT f.p
 have h2:=zbT f.q
 unfold ftx
 split<;>(try simp only[List.length_append,List.length_cons,List.length_nil])<;>omega
end Go.Eng
namespace Go.Eng
theorem zhI {f:FQ} {n d p q:Int} (hd:d≠0) (hq:0<q) (hc:Nat.gcd p.natAbs q.natAbs=1) (hf:f.is n d) (e:n*q=p*d):f.p.v=p∧f.q.v=q:=by
 unfold FQ.is at hf
 have q1:=f.q1
 refine zfu (by omega) hq f.cop hc ?_
 apply Int.eq_of_mul_eq_mul_right (a:=d) hd
 calc f.p.v*q*d=f.p.v*d*q:=by grind
  _=n*f.q.v*q:=by rw[hf]
  _=n*q*f.q.v:=by grind
  _=p*d*f.q.v:=by rw[e]
  _=p*f.q.v*d:=by grind
theorem zjz {z:Int} {v n:Nat} (hz:z=(v:Int)) (h1:10^n≤v) (h2:v<10^(n+1)):decI z=dtx (n+1) v:=by
 subst hz
 unfold decI;rw[if_neg (by omega),Int.natAbs_natCast]
 exact zhm h1 h2
theorem ziq (f:FQ) {p q:Int} {t:List UInt8} (h1:f.p.v=p) (h2:f.q.v=q) (ht:ftx p q=t):pf E0 16 [fqP f]=some (.s t):=by
 rw[←ht,←h1,←h2];exact zeq f
end Go.Eng
namespace Go.Eng
theorem zly {f g h:FQ} {n d m e:Int} (hf:f.is n d) (hg:g.is m e) (hh:h.is (f.p.v*g.q.v+g.p.v*f.q.v) (f.q.v*g.q.v)):h.is (n*e+m*d) (d*e):=by
 have qf:=f.q1
 have qg:=g.q1
 unfold FQ.is at *
 apply Int.eq_of_mul_eq_mul_right (a:=f.q.v*g.q.v) (Int.mul_ne_zero (by omega) (by omega))
 calc h.p.v*(d*e)*(f.q.v*g.q.v)=h.p.v*(f.q.v*g.q.v)*(d*e):=by grind
  _=(f.p.v*g.q.v+g.p.v*f.q.v)*h.q.v*(d*e):=by rw[hh]
  _=(f.p.v*d*g.q.v*e+g.p.v*e*f.q.v*d)*h.q.v:=by grind
  _=(n*f.q.v*g.q.v*e+m*g.q.v*f.q.v*d)*h.q.v:=by rw[hf,hg]
  _=(n*e+m*d)*h.q.v*(f.q.v*g.q.v):=by grind
theorem zl9 {f g h:FQ} {n d m e:Int} (hf:f.is n d) (hg:g.is m e) (hh:h.is (f.p.v*g.p.v) (f.q.v*g.q.v)):h.is (n*m) (d*e):=by
 have qf:=f.q1
 have qg:=g.q1
 unfold FQ.is at *
 apply Int.eq_of_mul_eq_mul_right (a:=f.q.v*g.q.v) (Int.mul_ne_zero (by omega) (by omega))
 calc h.p.v*(d*e)*(f.q.v*g.q.v)=h.p.v*(f.q.v*g.q.v)*(d*e):=by grind
  _=f.p.v*g.p.v*h.q.v*(d*e):=by rw[hh]
  _=f.p.v*d*(g.p.v*e)*h.q.v:=by grind
  _=n*f.q.v*(m*g.q.v)*h.q.v:=by rw[hf,hg]
  _=n*m*h.q.v*(f.q.v*g.q.v):=by grind
theorem zm3 (a b:FQ) {n m:Nat} {x d y e:Int} (ha:fsz n a) (hb:fsz m b) (h:n+m+1<1230) (xa:a.is x d) (xb:b.is y e):∃f:FQ,pf E0 9 [fqP a,fqP b]=some (.tu [fqP f,.i .i64 0])∧f.is (x*e+y*d) (d*e)∧fsz (n+m+1) f:=by
 obtain⟨f,h1,h2,h3⟩:=zqc a b ha hb h
 exact⟨f,h1,zly xa xb h2,h3⟩
theorem znz (a b:FQ) {n m:Nat} {x d y e:Int} (ha:fsz n a) (hb:fsz m b) (h:n+m<1230) (xa:a.is x d) (xb:b.is y e):∃f:FQ,pf E0 8 [fqP a,fqP b]=some (.tu [fqP f,.i .i64 0])∧f.is (x*y) (d*e)∧fsz (n+m) f:=by
 obtain⟨f,h1,h2,h3⟩:=zq5 a b ha hb h
 exact⟨f,h1,zl9 xa xb h2,h3⟩
noncomputable def makF (x y:WI):FQ×Int:=⟨(zcw x y).choose,(zcw x y).choose_spec.choose⟩
theorem zrF (x y:WI):pf E0 24 [wiP x,wiP y]=some (.tu [fqP (makF x y).1,.i .i64 (makF x y).2]):=(zcw x y).choose_spec.choose_spec.1
theorem zkG (x y:WI):pf E0 182 [nP x.v,nP y.v]=some (.tu [rfQ (makF x y).1,.i .i64 (makF x y).2]):=(zcw x y).choose_spec.choose_spec.2.1
end Go.Eng
namespace Go.Eng
def inK (K:Nat) (z:Int):Prop:=z.natAbs<2^K
instance (K:Nat) (z:Int):Decidable (inK K z):=Nat.decLt _ _
def inB (z:Int):Prop:=inK 8192 z
instance (z:Int):Decidable (inB z):=inferInstanceAs (Decidable (inK 8192 z))
def inL (z:Int):Prop:=inK 16000 z
instance (z:Int):Decidable (inL z):=inferInstanceAs (Decidable (inK 16000 z))
theorem zr4 {x y i j N:Nat} (hx:x<2^i) (hy:y<2^j) (hN:i+j≤N):x*y<2^N:=by
 refine Nat.lt_of_lt_of_le (Nat.mul_lt_mul_of_lt_of_le hx (Nat.le_of_lt hy) (Nat.pow_pos (by decide))) ?_
 rw[←Nat.pow_add]
 exact Nat.pow_le_pow_right (by decide) hN
theorem zk1 {x i N:Nat} (hx:x<2^i) (hN:i≤N):x<2^N:=Nat.lt_of_lt_of_le hx (Nat.pow_le_pow_right (by decide) hN)
theorem zr2 {x y i N:Nat} (hx:x<2^i) (hy:y<2^i) (hN:i+1≤N):x+y<2^N:=by
 refine Nat.lt_of_lt_of_le (Nat.add_lt_add hx hy) ?_
 rw[←Nat.mul_two,←Nat.pow_succ]
 exact Nat.pow_le_pow_right (by decide) hN
theorem zoD {v N:Nat} (h:v<2^N) (hN:N=16384):inR v:=by subst hN;exact h
theorem ziE {K:Nat} {z:Int} (h:inK K z) (hK:K≤16384):wlen z.natAbs≤512:=(zaP _).2 (zoD (zk1 h hK) rfl)
theorem zei {i j N:Nat} {a b:Int} (ha:inK i a) (hb:inK j b) (hN:i+j≤N):inK N (a*b):=by
 unfold inK at *
 rw[Int.natAbs_mul]
 exact zr4 ha hb hN
theorem zgQ {i N:Nat} {a b:Int} (ha:inK i a) (hb:inK i b) (hN:i+1≤N):inK N (a+b):=Nat.lt_of_le_of_lt (Int.natAbs_add_le _ _) (zr2 ha hb hN)
theorem zfm {i:Nat} {a:Int}:inK i (-a)↔inK i a:=by unfold inK;rw[Int.natAbs_neg]
theorem zoB {i N:Nat} {a b:Int} (ha:inK i a) (hb:inK i b) (hN:i+1≤N):inK N (a-b):=zgQ ha (zfm.2 hb) hN
theorem zdZ {i N:Nat} {a:Int} (ha:inK i a) (hN:i≤N):inK N a:=zk1 ha hN
theorem znq {i:Nat} {a b:Int} (ha:inK i a) (h:b.natAbs≤a.natAbs):inK i b:=Nat.lt_of_le_of_lt h ha
theorem zud (K:Nat):inK K 0:=Nat.pow_pos (by decide)
theorem zjQ {z:Int}:inB (-z)↔inB z:=zfm
theorem zuc {z:Int} (h:inB z):wlen z.natAbs≤512:=ziE h (by decide)
theorem zbJ {a b:Int} (ha:inB a) (hb:inB b):wlen (a*b).natAbs≤512:=ziE (zei ha hb (Nat.le_refl _)) (by decide)
theorem zdY {a b:Int} (ha:inB a) (hb:inB b):wlen (a+b).natAbs≤512:=ziE (zgQ ha hb (Nat.le_refl _)) (by decide)
theorem zqT:inK 33 4294967296:=by unfold inK;decide
theorem zf9 {a:Int} (ha:inL a):wlen (a*4294967296).natAbs≤512:=ziE (zei ha zqT (Nat.le_refl _)) (by decide)
theorem zub {a:Int} (ha:inB a):inL a:=zdZ ha (by decide)
theorem zhF {a:Int} (ha:inB a):wlen (a*4294967296).natAbs≤512:=zf9 (zub ha)
theorem zqS:inB 0:=zud _
theorem zjR (K:Nat) (z:Int):inK K z ↔ - two K<z∧z<two K:=by
 unfold inK two
 generalize (2:Nat)^K=q
 omega
theorem zgP (z:Int):inB z ↔ - two 8192<z∧z<two 8192:=zjR _ _
theorem zfn (z:Int):inL z↔¬(two 16000≤(z.natAbs:Int)):=by
 unfold inL
 rw[zjR]
 generalize two 16000=q at *
 omega
def flI (a b:Int):Int:=a/b
def ceI (a b:Int):Int := - (-a/b)
theorem zqJ {a b:Int} (h:0<b):flI a b*b≤a:=Int.ediv_mul_le _ (by omega)
theorem zqX {a b:Int} (h:0<b):a≤ceI a b*b:=by
 have:=Int.ediv_mul_le (-a) (b:=b) (by omega)
 unfold ceI;rw[Int.neg_mul];omega
theorem zcu {a b m:Int} (h:0<b):m≤flI a b↔m*b≤a:=Int.le_ediv_iff_mul_le h
theorem zcp {a b m:Int} (h:0<b):ceI a b≤m↔a≤m*b:=by
 have:=zcu (a := -a) (b:=b) (m := -m) h
 unfold ceI flI at *
 rw[Int.neg_mul] at this
 omega
theorem zhx {a b:Int} (h:0<b):flI a b≤ceI a b:=by
 have h1:=zqJ (a:=a) h
 have h2:=zqX (a:=a) h
 exact Int.le_of_mul_le_mul_right (Int.le_trans h1 h2) h
theorem zqn {a b:Int} (h:0<b):ceI a b=if a%b=0 then a/b else a/b+1:=by
 have e:=Int.emod_add_mul_ediv a b
 have m0:=Int.emod_nonneg a (show b≠0 by omega)
 have m1:=Int.emod_lt_of_pos a h
 have key:∀m,ceI a b≤m↔a≤m*b:=fun m=>zcp h
 generalize a%b=r at *
 generalize a/b=q at *
 split
 ·rename_i hr
  have k1:=(key q).2 (by rw[Int.mul_comm];omega)
  refine Int.le_antisymm k1 ?_
  have k2:=(key (ceI a b)).1 (Int.le_refl _)
  refine Int.le_of_mul_le_mul_right (a:=b) ?_ h
  rw[Int.mul_comm q];omega
 ·rename_i hr
  have k1:=(key (q+1)).2 (by rw[Int.add_mul,Int.mul_comm q];omega)
  refine Int.le_antisymm k1 ?_
  have k2:=(key (ceI a b)).1 (Int.le_refl _)
  have:q<ceI a b:=by
   refine Int.lt_of_mul_lt_mul_right (a:=b) ?_ (by omega)
   rw[Int.mul_comm q];omega
  omega
def min2 (a b:Int):Int:=if b<a then b else a
def max2 (a b:Int):Int:=if b>a then b else a
theorem zj4 (a b:Int):min2 a b=min a b:=by unfold min2;omega
theorem zjZ (a b:Int):max2 a b=max a b:=by unfold max2;omega
def min4 (a b c d:Int):Int:=min2 (min2 (min2 a b) c) d
def max4 (a b c d:Int):Int:=max2 (max2 (max2 a b) c) d
theorem zgU (a b c d:Int):min4 a b c d≤a∧min4 a b c d≤b∧min4 a b c d≤c∧min4 a b c d≤d:=by unfold min4 min2;omega
theorem zgT (a b c d:Int):a≤max4 a b c d∧b≤max4 a b c d∧c≤max4 a b c d∧d≤max4 a b c d:=by unfold max4 max2;omega
theorem zj5 (a b c d:Int):min4 a b c d=a∨min4 a b c d=b∨min4 a b c d=c∨min4 a b c d=d:=by unfold min4 min2;omega
theorem zj0 (a b c d:Int):max4 a b c d=a∨max4 a b c d=b∨max4 a b c d=c∨max4 a b c d=d:=by unfold max4 max2;omega
theorem zbi {a b c:Int} (h:a≤b) (hc:0≤c):a*c≤b*c:=Int.mul_le_mul_of_nonneg_right h hc
theorem zq4 {a b c:Int} (h:a≤b) (hc:c≤0):b*c≤a*c:=Int.mul_le_mul_of_nonpos_right h hc
theorem zjh {a b c d P R q r:Int} (hq:0≤q) (hr:0≤r) (h1:a*q≤P) (h2:P≤b*q) (h3:c*r≤R) (h4:R≤d*r) :
  a*c*(q*r)≤P*R∨a*d*(q*r)≤P*R∨b*c*(q*r)≤P*R∨b*d*(q*r)≤P*R:=by
 have key:∀x:Int,x*q*(c*r)≤x*q*R∨x*q*(d*r)≤x*q*R:=fun x=>by
  rcases Int.le_total 0 (x*q) with h|h
  ·left;exact Int.mul_le_mul_of_nonneg_left h3 h
  ·right;exact Int.mul_le_mul_of_nonpos_left h h4
 have ea:∀x y:Int,x*y*(q*r)=x*q*(y*r):=fun x y=>by grind
 simp only[ea]
 rcases Int.le_total 0 R with h|h
 ·have:=zbi h1 h
  rcases key a with k|k<;>omega
 ·have:=zq4 h2 h
  rcases key b with k|k<;>omega
theorem zob {a b c d P R q r:Int} (hq:0≤q) (hr:0≤r) (h1:a*q≤P) (h2:P≤b*q) (h3:c*r≤R) (h4:R≤d*r) :
  P*R≤a*c*(q*r)∨P*R≤a*d*(q*r)∨P*R≤b*c*(q*r)∨P*R≤b*d*(q*r):=by
 have h:=zjh (a := -b) (b := -a) (P := -P) hq hr (by rw[Int.neg_mul];omega) (by rw[Int.neg_mul];omega) h3 h4
 simp only[Int.neg_mul] at h
 omega
end Go.Eng
namespace Go.Eng
structure IV where
 lo:WI
 hi:WI
 l:inB lo.v
 h:inB hi.v
noncomputable def ivP (x:IV):PV:=.ag [.b (decide (x.lo.v<0)),D x.lo.v.natAbs,.b (decide (x.hi.v<0)),D x.hi.v.natAbs]
@[go_sem] theorem zw0 (M:PM) (d:Nat) (x:IV):fz M (d+1+1) (ivP x)=some (ivP x,[]):=_root_.id rfl
@[go_sem] theorem zbg (x:IV):(ivP x).cells=[.b (decide (x.lo.v<0)),D x.lo.v.natAbs,.b (decide (x.hi.v<0)),D x.hi.v.natAbs]:=_root_.id rfl
@[go_sem] theorem ztV (x:IV):PV.ag [.b (decide (x.lo.v<0)),D x.lo.v.natAbs,.b (decide (x.hi.v<0)),D x.hi.v.natAbs]=ivP x:=_root_.id rfl
noncomputable def rvP (x:IV):PV:=rfP x.lo.v x.hi.v
def ivZ:IV:=⟨wi0,wi0,zqS,zqS⟩
theorem ziG:ivP ivZ=.ag [.b false,.lst [],.b false,.lst []]:=rfl
def iwI (z:Int) (h:inB z):WI:=⟨z,zuc h⟩
def mdI (lo hi:Int):IV×Int:=if h:inB lo∧inB hi then (⟨iwI lo h.1,iwI hi h.2,h.1,h.2⟩,0) else (ivZ,4)
theorem ziH {lo hi:Int} (h:inB lo∧inB hi):(mdI lo hi).2=0∧(mdI lo hi).1.lo.v=lo∧(mdI lo hi).1.hi.v=hi:=by unfold mdI;rw[dif_pos h];exact⟨rfl,rfl,rfl⟩
theorem zj2 {lo hi:Int} (h:¬(inB lo∧inB hi)):mdI lo hi=(ivZ,4):=by unfold mdI;rw[dif_neg h]
theorem zgc {lo hi:Int} (h:(mdI lo hi).2=0):inB lo∧inB hi∧(mdI lo hi).1.lo.v=lo∧(mdI lo hi).1.hi.v=hi:=by
 by_cases q:inB lo∧inB hi
 ·exact⟨q.1,q.2,(ziH q).2⟩
 ·rw[zj2 q] at h;cases h
theorem zqZ (lo hi:Int):(mdI lo hi).2=0∨mdI lo hi=(ivZ,4):=by
 by_cases q:inB lo∧inB hi
 ·exact .inl (ziH q).1
 ·exact .inr (zj2 q)
def ivAdd (x y:IV):IV×Int:=mdI (x.lo.v+y.lo.v) (x.hi.v+y.hi.v)
def mulLo (x y:IV):Int:=min4 (flI (x.lo.v*y.lo.v) 4294967296) (flI (x.lo.v*y.hi.v) 4294967296) (flI (x.hi.v*y.lo.v) 4294967296) (flI (x.hi.v*y.hi.v) 4294967296)
def mulHi (x y:IV):Int:=max4 (ceI (x.lo.v*y.lo.v) 4294967296) (ceI (x.lo.v*y.hi.v) 4294967296) (ceI (x.hi.v*y.lo.v) 4294967296) (ceI (x.hi.v*y.hi.v) 4294967296)
def ivMul (x y:IV):IV×Int:=mdI (mulLo x y) (mulHi x y)
def sgA (a b:Int):Int:=if b<0 then-a else a
def sgB (b:Int):Int:=if b<0 then-b else b
def dFl (a b:Int):Int:=flI (sgA a b*4294967296) (sgB b)
def dCe (a b:Int):Int:=ceI (sgA a b*4294967296) (sgB b)
def divLo (x y:IV):Int:=min4 (dFl x.lo.v y.lo.v) (dFl x.lo.v y.hi.v) (dFl x.hi.v y.lo.v) (dFl x.hi.v y.hi.v)
def divHi (x y:IV):Int:=max4 (dCe x.lo.v y.lo.v) (dCe x.lo.v y.hi.v) (dCe x.hi.v y.lo.v) (dCe x.hi.v y.hi.v)
def has0 (y:IV):Prop:=y.lo.v≤0∧0≤y.hi.v
instance (y:IV):Decidable (has0 y):=inferInstanceAs (Decidable (_∧_))
def ivDiv (x y:IV):IV×Int:=if has0 y then (ivZ,9) else mdI (divLo x y) (divHi x y)
def ivIn (x y:IV):Prop:=y.lo.v≤x.lo.v∧x.hi.v≤y.hi.v
def ivHas (x:IV) (f:FQ):Prop:=x.lo.v*f.q.v≤f.p.v*4294967296∧f.p.v*4294967296≤x.hi.v*f.q.v
instance (x:IV) (f:FQ):Decidable (ivHas x f):=inferInstanceAs (Decidable (_∧_))
def mkSo (a b:FQ):IV×Int:=if inL a.p.v∧inL a.q.v∧inL b.p.v∧inL b.q.v then mdI (flI (a.p.v*4294967296) a.q.v) (ceI (b.p.v*4294967296) b.q.v) else (ivZ,4)
def mkI (a b:FQ):IV×Int:=if cmpF a b>0 then mkSo b a else mkSo a b
theorem zcF {a b c:Int} (h:0<c):a*c≤b*c↔a≤b:=⟨fun k=>Int.le_of_mul_le_mul_right k h,fun k=>Int.mul_le_mul_of_nonneg_right k (Int.le_of_lt h)⟩
theorem zjO {x:IV} {f:FQ} {n d:Int} (hd:0<d) (h:f.is n d):ivHas x f↔x.lo.v*d≤n*4294967296∧n*4294967296≤x.hi.v*d:=by
 have hq:=f.q1
 unfold FQ.is at h
 unfold ivHas
 have e:f.p.v*4294967296*d=n*4294967296*f.q.v:=by rw[Int.mul_right_comm,h];grind
 have k1:∀z:Int,(z*f.q.v≤f.p.v*4294967296↔z*d≤n*4294967296):=fun z=>by
  rw[←zcF hd,←zcF (c:=f.q.v) (a:=z*d) (by omega),e,Int.mul_right_comm z]
 have k2:∀z:Int,(f.p.v*4294967296≤z*f.q.v↔n*4294967296≤z*d):=fun z=>by
  rw[←zcF hd,←zcF (c:=f.q.v) (a:=n*4294967296) (by omega),e,Int.mul_right_comm z]
 rw[k1,k2]
theorem zm6 {a b:FQ} {n d m e:Int} (hd:0<d) (he:0<e) (ha:a.is n d) (hb:b.is m e):cmpF a b=cmpI (n*e) (m*d):=by
 have qa:=a.q1
 have qb:=b.q1
 unfold FQ.is at *
 unfold cmpF
 have k:∀{a b c:Int},0<c→cmpI (a*c) (b*c)=cmpI a b:=fun {a b c} h=>by
  unfold cmpI
  simp only[Int.mul_lt_mul_right h]
 have hde:0<d*e:=Int.mul_pos hd he
 have hqq:0<a.q.v*b.q.v:=Int.mul_pos (by omega) (by omega)
 rw[←k hde,←k (a:=n*e) hqq]
 congr 1
 ·calc a.p.v*b.q.v*(d*e)=a.p.v*d*(b.q.v*e):=by grind
   _=n*a.q.v*(b.q.v*e):=by rw[ha]
   _=n*e*(a.q.v*b.q.v):=by grind
 ·calc b.p.v*a.q.v*(d*e)=b.p.v*e*(a.q.v*d):=by grind
   _=m*b.q.v*(a.q.v*d):=by rw[hb]
   _=m*d*(a.q.v*b.q.v):=by grind
theorem zn5 {x y:IV} {P R q r:Int} (hq:0<q) (hr:0<r) (x1:x.lo.v*q≤P*4294967296) (x2:P*4294967296≤x.hi.v*q) (y1:y.lo.v*r≤R*4294967296) (y2:R*4294967296≤y.hi.v*r)
  (h:(ivAdd x y).2=0):(ivAdd x y).1.lo.v*(q*r)≤(P*r+R*q)*4294967296∧(P*r+R*q)*4294967296≤(ivAdd x y).1.hi.v*(q*r):=by
 unfold ivAdd at h ⊢
 obtain⟨_,_,e1,e2⟩:=zgc h
 rw[e1,e2]
 have a1:=zbi x1 (Int.le_of_lt hr)
 have a2:=zbi x2 (Int.le_of_lt hr)
 have a3:=zbi y1 (Int.le_of_lt hq)
 have a4:=zbi y2 (Int.le_of_lt hq)
 constructor<;>grind
theorem zda {c m P k:Int} (hk:0<k) (hm:m≤flI c 4294967296) (h:c*k≤P*4294967296*4294967296):m*k≤P*4294967296:=by
 have h1:=(zcu (by decide)).1 hm
 have h2:=zbi h1 (Int.le_of_lt hk)
 refine Int.le_of_mul_le_mul_right (a:=4294967296) ?_ (by decide)
 grind
theorem zc7 {c m P k:Int} (hk:0<k) (hm:ceI c 4294967296≤m) (h:P*4294967296*4294967296≤c*k):P*4294967296≤m*k:=by
 have h1:=(zcp (by decide)).1 hm
 have h2:=zbi h1 (Int.le_of_lt hk)
 refine Int.le_of_mul_le_mul_right (a:=4294967296) ?_ (by decide)
 grind
theorem zoM {x y:IV} {P R q r:Int} (hq:0<q) (hr:0<r) (x1:x.lo.v*q≤P*4294967296) (x2:P*4294967296≤x.hi.v*q) (y1:y.lo.v*r≤R*4294967296) (y2:R*4294967296≤y.hi.v*r) :
  mulLo x y*(q*r)≤P*R*4294967296∧P*R*4294967296≤mulHi x y*(q*r):=by
 have hk:0<q*r:=Int.mul_pos hq hr
 have c1:=zjh (Int.le_of_lt hq) (Int.le_of_lt hr) x1 x2 y1 y2
 have c2:=zob (Int.le_of_lt hq) (Int.le_of_lt hr) x1 x2 y1 y2
 rw[show P*4294967296*(R*4294967296)=P*R*4294967296*4294967296 by grind] at c1 c2
 obtain⟨m1,m2,m3,m4⟩:=zgU (flI (x.lo.v*y.lo.v) 4294967296) (flI (x.lo.v*y.hi.v) 4294967296) (flI (x.hi.v*y.lo.v) 4294967296) (flI (x.hi.v*y.hi.v) 4294967296)
 obtain⟨n1,n2,n3,n4⟩:=zgT (ceI (x.lo.v*y.lo.v) 4294967296) (ceI (x.lo.v*y.hi.v) 4294967296) (ceI (x.hi.v*y.lo.v) 4294967296) (ceI (x.hi.v*y.hi.v) 4294967296)
 constructor
 ·rcases c1 with c|c|c|c
  ·exact zda hk m1 c
  ·exact zda hk m2 c
  ·exact zda hk m3 c
  ·exact zda hk m4 c
 ·rcases c2 with c|c|c|c
  ·exact zc7 hk n1 c
  ·exact zc7 hk n2 c
  ·exact zc7 hk n3 c
  ·exact zc7 hk n4 c
theorem zfN {b:Int} (h:b≠0):0<sgB b:=by unfold sgB;split<;>omega
theorem znP {a b c d P q R r:Int} (hq:0<q) (hr:0<r) (h0:¬(c≤0∧0≤d)) (x1:a*q≤P) (x2:P≤b*q) (y1:c*r≤R) (y2:R≤d*r) (hcd:c≤d) :
  ∃x y,(x=a∨x=b)∧(y=c∨y=d)∧sgA x y*(sgB R*q)≤sgA P R*r*sgB y:=by
 have n1:∀z:Int,(z<0→z*r<0)∧(0<z→0<z*r):=fun z=>⟨fun h=>Int.mul_neg_of_neg_of_pos h hr,fun h=>Int.mul_pos h hr⟩
 by_cases hc:0<c
 ·have hR:0<R:=Int.lt_of_lt_of_le ((n1 c).2 hc) y1
  have e1:∀x y:Int,0<y→sgA x y=x∧sgB y=y:=fun x y h=>by unfold sgA sgB;rw[if_neg (by omega),if_neg (by omega)];exact⟨rfl,rfl⟩
  rcases Int.le_total 0 a with ha|ha
  ·refine⟨a,d,.inl rfl,.inr rfl,?_⟩
   rw[(e1 a d (by omega)).1,(e1 a d (by omega)).2,(e1 P R hR).1,(e1 P R hR).2]
   have k1:=zbi x1 (show 0≤r*d from Int.mul_nonneg (by omega) (by omega))
   have k2:=Int.mul_le_mul_of_nonneg_left y2 (show 0≤a*q from Int.mul_nonneg ha (by omega))
   grind
  ·refine⟨a,c,.inl rfl,.inl rfl,?_⟩
   rw[(e1 a c hc).1,(e1 a c hc).2,(e1 P R hR).1,(e1 P R hR).2]
   have k1:=zbi x1 (show 0≤r*c from Int.mul_nonneg (by omega) (by omega))
   have k2:=Int.mul_le_mul_of_nonpos_left (show a*q≤0 from Int.mul_nonpos_of_nonpos_of_nonneg ha (by omega)) y1
   grind
 ·have hd:d<0:=by omega
  have hR:R<0:=Int.lt_of_le_of_lt y2 ((n1 d).1 hd)
  have e1:∀x y:Int,y<0→sgA x y = -x∧sgB y = -y:=fun x y h=>by unfold sgA sgB;rw[if_pos h,if_pos h];exact⟨rfl,rfl⟩
  rcases Int.le_total 0 b with hb|hb
  ·refine⟨b,d,.inr rfl,.inr rfl,?_⟩
   rw[(e1 b d (by omega)).1,(e1 b d (by omega)).2,(e1 P R hR).1,(e1 P R hR).2]
   have k1:=zbi x2 (show 0≤r * -d from Int.mul_nonneg (by omega) (by omega))
   have k2:=Int.mul_le_mul_of_nonneg_left y2 (show 0≤b*q from Int.mul_nonneg hb (by omega))
   grind
  ·refine⟨b,c,.inr rfl,.inl rfl,?_⟩
   rw[(e1 b c (by omega)).1,(e1 b c (by omega)).2,(e1 P R hR).1,(e1 P R hR).2]
   have k1:=zbi x2 (show 0≤r * -c from Int.mul_nonneg (by omega) (by omega))
   have k2:=Int.mul_le_mul_of_nonpos_left (show b*q≤0 from Int.mul_nonpos_of_nonpos_of_nonneg hb (by omega)) y1
   grind
theorem zlg (a b:Int):sgA (-a) b = - sgA a b:=by unfold sgA;split<;>rfl
theorem zr7 {a b c d P q R r:Int} (hq:0<q) (hr:0<r) (h0:¬(c≤0∧0≤d)) (x1:a*q≤P) (x2:P≤b*q) (y1:c*r≤R) (y2:R≤d*r) (hcd:c≤d) :
  ∃x y,(x=a∨x=b)∧(y=c∨y=d)∧sgA P R*r*sgB y≤sgA x y*(sgB R*q):=by
 obtain⟨x,y,hx,hy,h⟩:=znP (a := -b) (b := -a) (P := -P) hq hr h0 (by rw[Int.neg_mul];omega) (by rw[Int.neg_mul];omega) y1 y2 hcd
 refine⟨-x,y,by omega,hy,?_⟩
 rw[zlg] at h ⊢
 simp only[Int.neg_mul] at h ⊢
 omega
theorem zlN (x y:IV) {a b:Int} (ha:a=x.lo.v∨a=x.hi.v) (hb:b=y.lo.v∨b=y.hi.v):divLo x y≤dFl a b:=by
 obtain⟨m1,m2,m3,m4⟩:=zgU (dFl x.lo.v y.lo.v) (dFl x.lo.v y.hi.v) (dFl x.hi.v y.lo.v) (dFl x.hi.v y.hi.v)
 rcases ha with rfl|rfl<;>rcases hb with rfl|rfl<;>assumption
theorem zlM (x y:IV) {a b:Int} (ha:a=x.lo.v∨a=x.hi.v) (hb:b=y.lo.v∨b=y.hi.v):dCe a b≤divHi x y:=by
 obtain⟨m1,m2,m3,m4⟩:=zgT (dCe x.lo.v y.lo.v) (dCe x.lo.v y.hi.v) (dCe x.hi.v y.lo.v) (dCe x.hi.v y.hi.v)
 rcases ha with rfl|rfl<;>rcases hb with rfl|rfl<;>assumption
theorem zjL {c d R r:Int} (hr:0<r) (h0:¬(c≤0∧0≤d)) (y1:c*r≤R) (y2:R≤d*r):R≠0:=by
 rintro rfl
 refine h0 ⟨?_,?_⟩
 ·rcases Int.lt_or_le 0 c with h|h
  ·have:=Int.mul_pos h hr;omega
  ·exact h
 ·rcases Int.lt_or_le d 0 with h|h
  ·have:=Int.mul_neg_of_neg_of_pos h hr;omega
  ·exact h
theorem zoi {x y:IV} {P R q r:Int} (hq:0<q) (hr:0<r) (h0:¬has0 y) (hcd:y.lo.v≤y.hi.v) (x1:x.lo.v*q≤P*4294967296) (x2:P*4294967296≤x.hi.v*q) (y1:y.lo.v*r≤R*4294967296) (y2:R*4294967296≤y.hi.v*r) :
  divLo x y*(sgB R*q)≤sgA P R*r*4294967296∧sgA P R*r*4294967296≤divHi x y*(sgB R*q):=by
 have hR:=zjL hr h0 y1 y2
 have hR1:R≠0:=by omega
 have ek:sgB (R*4294967296)=sgB R*4294967296:=by unfold sgB;split<;>split<;>omega
 have ea:sgA (P*4294967296) (R*4294967296)=sgA P R*4294967296:=by unfold sgA;split<;>split<;>omega
 have hk:0<sgB R*q:=Int.mul_pos (zfN hR1) hq
 have nz:∀y':Int,y'=y.lo.v∨y'=y.hi.v→y'≠0:=fun y' h=>by unfold has0 at h0;omega
 constructor
 ·obtain⟨a,b,ha,hb,h⟩:=znP hq hr h0 x1 x2 y1 y2 hcd
  have m:=zlN x y ha hb
  have pb:=zfN (nz b hb)
  rw[ek,ea] at h
  unfold dFl at m
  rw[zcu pb] at m
  have m2:=zbi m (Int.le_of_lt hk)
  refine Int.le_of_mul_le_mul_right (a:=sgB b) ?_ pb
  have:sgA a b*(sgB R*4294967296*q)=sgA a b*4294967296*(sgB R*q):=by grind
  rw[this] at h
  calc divLo x y*(sgB R*q)*sgB b=divLo x y*sgB b*(sgB R*q):=by grind
   _≤sgA a b*4294967296*(sgB R*q):=m2
   _≤sgA P R*4294967296*r*sgB b:=h
   _=sgA P R*r*4294967296*sgB b:=by grind
 ·obtain⟨a,b,ha,hb,h⟩:=zr7 hq hr h0 x1 x2 y1 y2 hcd
  have m:=zlM x y ha hb
  have pb:=zfN (nz b hb)
  rw[ek,ea] at h
  unfold dCe at m
  rw[zcp pb] at m
  have m2:=zbi m (Int.le_of_lt hk)
  refine Int.le_of_mul_le_mul_right (a:=sgB b) ?_ pb
  have:sgA a b*(sgB R*4294967296*q)=sgA a b*4294967296*(sgB R*q):=by grind
  rw[this] at h
  calc sgA P R*r*4294967296*sgB b=sgA P R*4294967296*r*sgB b:=by grind
   _≤sgA a b*4294967296*(sgB R*q):=h
   _≤divHi x y*sgB b*(sgB R*q):=m2
   _=divHi x y*(sgB R*q)*sgB b:=by grind
end Go.Eng
namespace Go.Eng
def IV.ok (x:IV):Prop:=x.lo.v≤x.hi.v
theorem zga:ivZ.ok:=Int.le_refl _
theorem zj3 {lo hi:Int} (h:lo≤hi):(mdI lo hi).1.ok:=by
 rcases zqZ lo hi with e|e
 ·obtain⟨_,_,e1,e2⟩:=zgc e
  unfold IV.ok;rw[e1,e2];exact h
 ·rw[e];exact zga
theorem zq6 (x y:IV):mulLo x y≤mulHi x y:=by
 have h1:=(zgU (flI (x.lo.v*y.lo.v) 4294967296) (flI (x.lo.v*y.hi.v) 4294967296) (flI (x.hi.v*y.lo.v) 4294967296) (flI (x.hi.v*y.hi.v) 4294967296)).1
 have h2:=(zgT (ceI (x.lo.v*y.lo.v) 4294967296) (ceI (x.lo.v*y.hi.v) 4294967296) (ceI (x.hi.v*y.lo.v) 4294967296) (ceI (x.hi.v*y.hi.v) 4294967296)).1
 exact Int.le_trans h1 (Int.le_trans (zhx (by decide)) h2)
theorem zjM {y:IV} (h:¬has0 y) (hy:y.ok):y.lo.v≠0∧y.hi.v≠0:=by unfold has0 at h;unfold IV.ok at hy;omega
theorem zhK (x y:IV):(ivMul x y).1.ok:=zj3 (zq6 x y)
theorem zhJ {x y:IV} (hx:x.ok) (hy:y.ok):(ivAdd x y).1.ok:=zj3 (by unfold IV.ok at *;omega)
def fdQ (f:FQ):Int:=flI (f.p.v*4294967296) f.q.v
def ceQ (f:FQ):Int:=ceI (f.p.v*4294967296) f.q.v
theorem zfc {a b:FQ}:cmpF a b>0↔b.p.v*a.q.v<a.p.v*b.q.v:=by unfold cmpF cmpI;split<;>(try split)<;>omega
theorem zff {a b:FQ} (h:a.p.v*b.q.v≤b.p.v*a.q.v):fdQ a≤fdQ b:=by
 have qa:=a.q1
 have qb:=b.q1
 unfold fdQ
 rw[zcu (by omega)]
 have f:=zqJ (a:=a.p.v*4294967296) (b:=a.q.v) (by omega)
 generalize flI (a.p.v*4294967296) a.q.v=m at *
 have f2:=zbi f (show 0≤b.q.v by omega)
 have h2:=zbi h (show (0:Int)≤4294967296 by decide)
 refine Int.le_of_mul_le_mul_right (a:=a.q.v) ?_ (by omega)
 grind
theorem zhk {a b:FQ} (h:a.p.v*b.q.v≤b.p.v*a.q.v):ceQ a≤ceQ b:=by
 have qa:=a.q1
 have qb:=b.q1
 unfold ceQ
 rw[zcp (by omega)]
 have f:=zqX (a:=b.p.v*4294967296) (b:=b.q.v) (by omega)
 generalize ceI (b.p.v*4294967296) b.q.v=m at *
 have f2:=zbi f (show 0≤a.q.v by omega)
 have h2:=zbi h (show (0:Int)≤4294967296 by decide)
 refine Int.le_of_mul_le_mul_right (a:=b.q.v) ?_ (by omega)
 grind
theorem ztR (a:FQ):fdQ a≤ceQ a:=zhx (by have:=a.q1;omega)
theorem znp {x:IV} {f:FQ}:ivHas x f↔x.lo.v≤fdQ f∧ceQ f≤x.hi.v:=by
 have hq:=f.q1
 unfold ivHas fdQ ceQ
 rw[zcu (by omega),zcp (by omega)]
theorem zj8 {a b:FQ} (h:a.p.v*b.q.v≤b.p.v*a.q.v):(mkSo a b).1.ok:=by
 unfold mkSo
 split
 ·exact zj3 (Int.le_trans (zff h) (ztR b))
 ·exact zga
theorem zj7 (a b:FQ):(mkI a b).1.ok:=by
 unfold mkI
 split
 ·rename_i h;rw[zfc] at h;exact zj8 (Int.le_of_lt h)
 ·rename_i h;rw[zfc] at h;exact zj8 (by omega)
theorem zny {a b:FQ} (h:(mkSo a b).2=0):(mkSo a b).1.lo.v=fdQ a∧(mkSo a b).1.hi.v=ceQ b:=by
 unfold mkSo at *
 split at h
 ·rename_i q
  rw[if_pos q]
  exact(zgc h).2.2
 ·cases h
theorem zq1 {a b:FQ} (h:(mkI a b).2=0):(mkI a b).1.lo.v=min2 (fdQ a) (fdQ b)∧(mkI a b).1.hi.v=max2 (ceQ a) (ceQ b):=by
 rw[zj4,zjZ]
 unfold mkI at *
 split
 ·rename_i q
  rw[if_pos q] at h
  rw[zfc] at q
  have m1:=zff (Int.le_of_lt q)
  have m2:=zhk (Int.le_of_lt q)
  have k:=zny h
  omega
 ·rename_i q
  rw[if_neg q] at h
  rw[zfc] at q
  have m1:=zff (a:=a) (b:=b) (by omega)
  have m2:=zhk (a:=a) (b:=b) (by omega)
  have k:=zny h
  omega
theorem zoL {a b:FQ} (h:(mkI a b).2=0):ivHas (mkI a b).1 a∧ivHas (mkI a b).1 b:=by
 obtain⟨h1,h2⟩:=zq1 h
 rw[zj4] at h1
 rw[zjZ] at h2
 rw[znp,znp]
 omega
end Go.Eng
namespace Go.Eng
def isPG:PV→Bool
 | .p _ _=>true
 | .fp _=>true
 | _=>false
def slotInF (E:PEnv) (ops:List XOper) (L:List Nat) (c:Nat×Nat):Bool :=
 match ops[c.1]?,ops[c.2]? with
 | some a,some b =>
  match a.op with
  | .load _ _ (.t s)=>L.contains s&&calmOp E b.op&&fixedX ops c.2 (.t s)
  | _=>false
 | _,_=>false
end Go.Eng
namespace Go.Eng
theorem zfM (ns:List Nat) (M:PM):M.map (Option.map PB.ver)=(roM M ns).map (Option.map PB.ver):=by
 refine List.ext_getElem? fun k=>?_
 have h:=(zg8 ns M k).1
 rw[List.getElem?_map,List.getElem?_map]
 exact h.symm
def calmW (E:PEnv) (ops:List XOper) (c:Nat×Nat):Bool :=
 match ops[c.1]?,ops[c.2]? with
 | some _,some b=>calmOp E b.op
 | _,_=>false
theorem zae {E:PEnv} {F:PFin} {ops:List XOper} {chk:List (Nat×Nat)} {ks:List KI} {fr:PFr} {M:PM} (hL:chk.all (calmW E ops)=true) (w:WL E F ops ks fr M):WK E F (.drw ops chk) ks fr M:=by
 refine zcL (fun fr2 Ms hT=>?_) w
 rw[List.all_eq_true] at hL ⊢
 rintro⟨i,j⟩ hc
 have h1:=hL _ hc
 unfold calmW at h1
 split at h1
 ·rename_i a b ha hb
  obtain⟨fri,A,B,q1,q2,q3,q4⟩:=zaz hT ha
  obtain⟨frj,C,D,p1,p2,p3,p4⟩:=zaz hT hb
  have p2':Ms[(i,j).2+1]?=some D:=p2
  rw[chkP,Bool.or_eq_true]
  right
  simp only[chkS,ha,q1,p1,p2]
  rw[decide_eq_true_eq]
  rcases p3 with⟨_,v,p3⟩|⟨_,p3⟩
  ·cases hopb:b.op with
   | call f l =>
    rw[hopb] at p3 h1
    obtain⟨ns,rfl⟩:=zce h1 p3
    exact zfM ns C
   | _=>rw[hopb] at h1;simp[calmOp] at h1
  ·rw[p3]
 ·cases h1
end Go.Eng
namespace Go.Eng
theorem zmH {E:PEnv} {ops:List XOper} {fr fr2:PFr} {M:PM} {Ms:List PM} {P:PV→Bool} {L:List Nat} (hr:WL E ⟨(0::0::L).map XR.tmp,fun w _=>∃l,w=.tu l∧(l.drop 2).all P=true⟩ ops [] fr M) (hT:pOpsT E.glob (pcl E) ops fr M=some (fr2,Ms)):L.all (fun s=>P (fr2 s))=true:=by
 obtain⟨lf,q,fr3,M3,vs,e,h1,h2,l,h3,h4⟩:=hr
 simp only[Option.bind_eq_some_iff,unw] at e
 obtain⟨⟨fr4,M4⟩,e1,e2⟩:=e
 simp only[Option.some.injEq,Prod.mk.injEq] at e2
 obtain⟨_,e3,e4⟩:=e2
 rw[←e3,←e4] at h2
 obtain⟨Ms',g1,g2⟩:=zbK e1
 rw[g1] at hT
 cases hT
 have hres:∀(f:PFr) (N:PM) (l:List Nat),pRes f N (l.map XR.tmp)=some (l.map f):=fun f N l=>by
  induction l with
  | nil=>rfl
  | cons a l ih=>simp only[List.map_cons,pRes,pResOne,ih]
 rw[hres] at h2
 cases h2
 simp only[List.map_cons,packP] at h3
 cases h3
 simpa [List.all_map] using h4
def isPn (n:Nat):PV→Bool
 | .p k _=>k==n
 | _=>false
def loadOf (ops:List XOper) (i s:Nat):Bool :=
 match ops[i]? with
 | some a=>(match a.op with | .load _ _ (.t t)=>t==s|_=>false)
 | none=>false
end Go.Eng
namespace Go.Eng
def isPf (E:PEnv):PV→Bool
 | .fn f _=>E.pure f
 | _=>false
def calmVo (ops:List XOper) (L:List Nat) (c:Nat×Nat):Bool :=
 match ops[c.1]?,ops[c.2]? with
 | some _,some b =>
  match b.op with
  | .callv (.t s) _=>L.contains s&&fixedX ops c.2 (.t s)
  | _=>false
 | _,_=>false
theorem zaI {E:PEnv} {F:PFin} {ops:List XOper} {chk:List (Nat×Nat)} {ks:List KI} {fr:PFr} {M:PM} (L:List Nat) (hL:chk.all (fun c=>calmW E ops c || calmVo ops L c)=true)
  (hr:WL E ⟨(0::0::L).map XR.tmp,fun w _=>∃l,w=.tu l∧(l.drop 2).all (isPf E)=true⟩ ops [] fr M) (w:WL E F ops ks fr M):WK E F (.drw ops chk) ks fr M:=by
 refine zcL (fun fr2 Ms hT=>?_) w
 have hp:=zmH hr hT
 rw[List.all_eq_true] at hL hp ⊢
 rintro⟨i,j⟩ hc
 have h1:=hL _ hc
 rw[Bool.or_eq_true] at h1
 rcases h1 with h1|h1
 ·unfold calmW at h1
  split at h1
  ·rename_i a b ha hb
   obtain⟨fri,A,B,q1,q2,q3,q4⟩:=zaz hT ha
   obtain⟨frj,C,D,p1,p2,p3,p4⟩:=zaz hT hb
   have p2':Ms[(i,j).2+1]?=some D:=p2
   rw[chkP,Bool.or_eq_true]
   right
   simp only[chkS,ha,q1,p1,p2]
   rw[decide_eq_true_eq]
   rcases p3 with⟨_,v,p3⟩|⟨_,p3⟩
   ·cases hopb:b.op with
    | call f l =>
     rw[hopb] at p3 h1
     obtain⟨ns,rfl⟩:=zce h1 p3
     exact zfM ns C
    | _=>rw[hopb] at h1;simp[calmOp] at h1
   ·rw[p3]
  ·cases h1
 ·unfold calmVo at h1
  split at h1
  ·rename_i a b ha hb
   split at h1
   ·rename_i s l hop
    rw[Bool.and_eq_true] at h1
    obtain⟨c1,c2⟩:=h1
    obtain⟨fri,A,B,q1,q2,q3,q4⟩:=zaz hT ha
    obtain⟨frj,C,D,p1,p2,p3,p4⟩:=zaz hT hb
    have p2':Ms[(i,j).2+1]?=some D:=p2
    have hs:=hp s (List.contains_iff_mem.1 c1)
    have hf:=p4 _ c2
    have hf:fr2 s=frj s:=hf
    rw[hf] at hs
    rw[chkP,Bool.or_eq_true]
    right
    simp only[chkS,ha,q1,p1,p2]
    rw[decide_eq_true_eq]
    rcases p3 with⟨_,v,p3⟩|⟨_,p3⟩
    ·rw[hop] at p3
     simp only[XO.pst,X.pv] at p3
     cases hv:frj s with
     | fn f d =>
      rw[hv] at p3 hs
      obtain⟨ns,rfl⟩:=zce hs p3
      exact zfM ns C
     | _=>rw[hv] at hs;simp[isPf] at hs
    ·rw[p3]
   ·cases h1
  ·cases h1
end Go.Eng
namespace Go.Eng
theorem two_mul (i j:Nat):two i*two j=two (i+j):=by unfold two;rw[Nat.pow_add];push_cast;rfl
theorem zoC {K N:Nat} (h:K<N):inK N (two K):=by
 unfold inK;rw[zcG];exact Nat.pow_lt_pow_right (by decide) h
theorem zmW {K:Nat} (h:K<16384):wlen (two K).natAbs≤512:=ziE (zoC (Nat.lt_succ_self K)) (by omega)
noncomputable def wTwo (K:Nat):WI:=clip (two K)
theorem zn2 {K:Nat} (h:K<16384):(wTwo K).v=two K:=zaW (zmW h)
noncomputable def w32:WI:=wiOf 4294967296 (by decide)
theorem zi3:w32.v=4294967296:=rfl
theorem zsj:two 32=4294967296:=by unfold two;decide
theorem f32:pf E0 34 [.i .i64 4294967296]=some (wiP w32):=zcQ (n:=4294967296) (by decide)
theorem zwt:∀k:Nat,k<32→IntKind.i64.wrap (1*2^(min (k:Int).toNat 64))=two k:=by unfold two;decide
theorem zlD {k:Nat} (h:k<32):binP .shl (.i .i64 1) (.i .i64 (k:Int))=some (.i .i64 (two k)):=by
 rw[zgy (h:=by omega)]
 show some (PV.i .i64 (IntKind.i64.wrap (1*2^(min (k:Int).toNat 64))))=_
 rw[zwt k h]
theorem zfS {k:Nat} (h:k<32):Fits64 (two k):=by
 have:∀k:Nat,k<32→2^k<4294967297:=by decide
 have:=this k h
 unfold Fits64 two
 generalize (2:Nat)^k=n at *
 omega
theorem zkJ {K:Nat} (hK:K≤16300):pf E0 293 [(PV.i .i64 ((K:Nat):Int))]=some (wiP (wTwo K)):=by
 refine zaa (xf:=zBg) rfl (by simp[zBg]) ?_
 simp only[zBg]
 have f1:pf E0 34 [.i .i64 1]=some (wiP wi1):=zcQ (n:=1) (by decide)
 have t0:wi1.v=two (K-K):=by rw[Nat.sub_self];rfl
 generalize wi1=w1 at *
 simp(disch:=omega)only[go_sem,seval,wqq,f1]
 refine zan zCW.eq_1 (fun(σ:Nat×WI) fr M=>σ.1≤K∧σ.2.v=two (K-σ.1)∧fr 0=(PV.i .i64 ((σ.1:Nat):Int))∧fr 2=.p 0 0∧fr 3=.p 1 0∧∃v,M=[some ⟨[.b false,.nl],true,0⟩,some ⟨(wiP σ.2).cells,true,v⟩]) (fun σ=>σ.1) ?_ (K,w1) ⟨Nat.le_refl _,t0,rfl,rfl,rfl,_,rfl⟩
 rintro⟨k,x⟩ fr M ⟨hk,hx,f0,f2,f3,v,rfl⟩ ih
 simp only at hk hx f0
 by_cases h:32≤k
 ·have q1:(32≤(k:Int))=True:=by simp;omega
  have g1:=f32
  have m1:=zeE x w32
  rw[zi3,hx,←zsj,two_mul] at m1
  have e1:K-k+32=K-(k-32):=by omega
  rw[e1,zaR (zmW (by omega))] at m1
  have yv:(clip (two (K-(k-32)))).v=two (K-(k-32)):=zaW (zmW (by omega))
  generalize clip (two (K-(k-32)))=y at *
  generalize w32=ww at *
  simp(disch:=omega)only[go_sem,seval,wqq,f0,f2,f3,q1]
  refine zae rfl ?_
  simp(disch:=omega)only[go_sem,seval,wqq,f0,f2,f3,g1,m1]
  exact ih (k-32,y) _ _ (by simp only;omega) ⟨by simp only;omega,yv,by simp only[go_sem,seval];rw[Int.ofNat_sub h];rfl,f2,f3,_,rfl⟩
 ·have q1:(32≤(k:Int))=False:=by simp;omega
  have s1:=zlD (k:=k) (by omega)
  have g1:=zcQ (zfS (k:=k) (by omega))
  have gv:(wiOf (two k) (zfS (k:=k) (by omega))).v=two k:=rfl
  generalize wiOf (two k) (zfS (k:=k) (by omega))=ww at *
  have m1:=zeE x ww
  rw[gv,hx,two_mul] at m1
  have e1:K-k+k=K:=by omega
  rw[e1,zaR (zmW (by omega))] at m1
  have m1:pf E0 38 [wiP x,wiP ww]=some (.tu [wiP (wTwo K),.i .i64 0]):=m1
  generalize wTwo K=y at *
  generalize two k=tk at *
  simp(disch:=omega)only[go_sem,seval,wqq,f0,f2,f3,q1]
  refine zae rfl ?_
  simp(disch:=omega)only[go_sem,seval,wqq,f0,f2,f3,s1,g1,m1]
theorem zcJ {x:WI}:pf E0 295 [wiP x]=some (.tu [wiP (clip (x.v*4294967296)),.i .i64 (lerr (x.v*4294967296))]):=by
 refine zaa (xf:=zBa) rfl (by simp[zBa]) ?_
 simp only[zBa]
 have g1:=f32
 have m1:=zeE x w32
 rw[zi3] at m1
 generalize x.v*4294967296=z at *
 generalize w32=ww at *
 simp(disch:=omega)only[go_sem,seval,wqq]
 refine zae rfl ?_
 simp(disch:=omega)only[go_sem,seval,wqq,g1,m1]
theorem zdl (x y:WI) (h:y.v≠0):pf E0 296 [wiP x,wiP y]=some (.tu [wiP (x.div y h),.i .i64 0]):=by
 have fd:=zgZ x y h
 generalize x.div y h=q at *
 generalize x.mod y h=r at *
 refine zaa (xf:=zBe) rfl (by simp[zBe]) ?_
 simp only[zBe]
 simp(disch:=omega)only[go_sem,seval,wqq,fd]
theorem zd4 (x y:WI) (h:0<y.v):∃q:WI,q.v=ceI x.v y.v∧pf E0 298 [wiP x,wiP y]=some (.tu [wiP q,.i .i64 0]):=by
 have hn:y.v≠0:=by omega
 have fd:=zgZ x y hn
 have e1:(x.div y hn).v=x.v/y.v:=rfl
 have e2:(x.mod y hn).v=x.v%y.v:=rfl
 have c:=zqn (a:=x.v) h
 rw[←e1,←e2] at c
 have bnd:wlen (ceI x.v y.v).natAbs≤512:=by
  refine(zaP _).2 (Nat.lt_of_le_of_lt ?_ ((zaP _).1 x.lim))
  unfold ceI
  rw[Int.natAbs_neg]
  exact Nat.le_trans (zcE _ _) (by rw[Int.natAbs_neg];exact Nat.le_refl _)
 have sr:=za6 (x.mod y hn)
 have a1:=zgW (x.div y hn) wi1
 rw[zp1] at a1
 have g1:pf E0 34 [.i .i64 1]=some (wiP wi1):=zcQ (n:=1) (by decide)
 generalize x.div y hn=q at *
 generalize x.mod y hn=r at *
 generalize wi1=w1 at *
 by_cases hr:r.v=0
 ·rw[if_pos hr] at c
  refine⟨q,by rw[c],?_⟩
  have t0:(cmpI r.v 0=0)=True:=by rw[hr];simp[cmpI]
  refine zaa (xf:=zAv) rfl (by simp[zAv]) ?_
  simp only[zAv]
  simp(disch:=omega)only[go_sem,seval,wqq,fd,sr,t0]
 ·rw[if_neg hr] at c
  have ok:=zaR bnd
  rw[c] at ok
  have cv:(clip (q.v+1)).v=q.v+1:=zaW (by rw[←c];exact bnd)
  refine⟨clip (q.v+1),by rw[cv,c],?_⟩
  rw[ok] at a1
  have t0:(cmpI r.v 0=0)=False:=by rw[zaC];simp[hr]
  generalize clip (q.v+1)=z at *
  refine zaa (xf:=zAv) rfl (by simp[zAv]) ?_
  simp only[zAv]
  simp(disch:=omega)only[go_sem,seval,wqq,fd,sr,t0]
  refine zae rfl ?_
  simp(disch:=omega)only[go_sem,seval,wqq,g1,a1]
theorem zpk (x y:WI):pf E0 297 [wiP x,wiP y]=some (.b (decide (x.v<y.v))):=by
 have c1:=zaZ x y
 have e:decide (cmpI x.v y.v<0)=decide (x.v<y.v):=by unfold cmpI;split<;>(try split)<;>simp<;>omega
 rw[←e]
 refine zaa (xf:=zA7) rfl (by simp[zA7]) ?_
 simp only[zA7]
 simp(disch:=omega)only[go_sem,seval,wqq,c1]
theorem zuw (x y:WI):pf E0 299 [wiP x,wiP y]=some (.b (decide (x.v>y.v))):=by
 have c1:=zaZ x y
 have e:decide (cmpI x.v y.v>0)=decide (x.v>y.v):=by unfold cmpI;split<;>(try split)<;>simp<;>omega
 rw[←e]
 refine zaa (xf:=zBz) rfl (by simp[zBz]) ?_
 simp only[zBz]
 simp(disch:=omega)only[go_sem,seval,wqq,c1]
theorem zgh (x:WI):pf E0 294 [wiP x]=some (.b (decide (inB x.v))):=by
 have hp:pf E0 293 [.i .i64 8192]=some (wiP (wTwo 8192)):=zkJ (K:=8192) (by omega)
 have tv:(wTwo 8192).v=two 8192:=zn2 (by omega)
 have c1:=zaZ x (wTwo 8192)
 have n1:=zeF x
 have c2:=zaZ x.neg (wTwo 8192)
 have nv:x.neg.v = -x.v:=rfl
 rw[tv] at c1 c2
 rw[nv] at c2
 have hb:=zgP x.v
 generalize wTwo 8192=w at *
 generalize x.neg=y at *
 generalize two 8192=t at *
 have e:decide (inB x.v)=(if cmpI x.v t<0 then decide (cmpI (-x.v) t<0) else false):=by
  by_cases h1:x.v<t
  ·have k1:cmpI x.v t<0:=by unfold cmpI;rw[if_pos h1];decide
   rw[if_pos k1]
   by_cases h2 : -x.v<t
   ·have k2:cmpI (-x.v) t<0:=by unfold cmpI;rw[if_pos h2];decide
    rw[decide_eq_true k2]
    exact decide_eq_true (hb.2 (by omega))
   ·have k2:¬cmpI (-x.v) t<0:=by unfold cmpI;rw[if_neg h2];split<;>decide
    rw[decide_eq_false k2]
    exact decide_eq_false (fun q=>by have:=hb.1 q;omega)
  ·have k1:¬cmpI x.v t<0:=by unfold cmpI;rw[if_neg h1];split<;>decide
   rw[if_neg k1]
   exact decide_eq_false (fun q=>by have:=hb.1 q;omega)
 rw[e]
 clear e hb
 refine zaa (xf:=zAX) rfl (by simp[zAX]) ?_
 simp only[zAX]
 simp(disch:=omega)only[go_sem,seval,wqq,hp]
 by_cases h1:cmpI x.v t<0
 ·rw[if_pos h1]
  have h1:(cmpI x.v t<0)=True:=by simp[h1]
  refine zae rfl ?_
  simp(disch:=omega)only[go_sem,seval,wqq,c1,n1,c2,h1]
 ·rw[if_neg h1]
  have h1:(cmpI x.v t<0)=False:=by simp[h1]
  refine zae rfl ?_
  simp(disch:=omega)only[go_sem,seval,wqq,c1,h1]
theorem zh2 (x y:WI):pf E0 290 [wiP x,wiP y]=some (.tu [ivP (mdI x.v y.v).1,.i .i64 (mdI x.v y.v).2]):=by
 have r1:=zgh x
 have r2:=zgh y
 by_cases h:inB x.v∧inB y.v
 ·have q1:decide (inB x.v)=true:=decide_eq_true h.1
  have q2:decide (inB y.v)=true:=decide_eq_true h.2
  rw[q1] at r1
  rw[q2] at r2
  have m1:ivP (mdI x.v y.v).1=.ag [.b (decide (x.v<0)),D x.v.natAbs,.b (decide (y.v<0)),D y.v.natAbs]:=by unfold mdI;rw[dif_pos h];rfl
  rw[m1,(ziH h).1]
  refine zaa (xf:=zz7) rfl (by simp[zz7]) ?_
  simp only[zz7]
  simp(disch:=omega)only[go_sem,seval,wqq,r1,r2,zai,zad]
 ·rw[zj2 h]
  show _=some (PV.tu [ivP ivZ,PV.i .i64 4])
  rw[ziG]
  by_cases h1:inB x.v
  ·have q1:decide (inB x.v)=true:=decide_eq_true h1
   have q2:decide (inB y.v)=false:=decide_eq_false (fun q=>h ⟨h1,q⟩)
   rw[q1] at r1
   rw[q2] at r2
   refine zaa (xf:=zz7) rfl (by simp[zz7]) ?_
   simp only[zz7]
   simp(disch:=omega)only[go_sem,seval,wqq,r1,r2,zai,zad]
  ·have q1:decide (inB x.v)=false:=decide_eq_false h1
   rw[q1] at r1
   refine zaa (xf:=zz7) rfl (by simp[zz7]) ?_
   simp only[zz7]
   simp(disch:=omega)only[go_sem,seval,wqq,r1,zai,zad]
end Go.Eng
namespace Go.Eng
theorem zm7:cst E0.glob (.p 3 0)=.fp [.fn 296 [],.fn 297 []]:=_root_.id rfl
theorem zm8:cst E0.glob (.p 4 0)=.fp [.fn 298 [],.fn 299 []]:=_root_.id rfl
theorem zrx (a:FQ) (h:inL a.p.v):∃q:WI,q.v=fdQ a∧pf E0 291 [.ag [.fn 296 [],.fn 297 []],fqP a]=some (wiP q):=by
 have n1:=zhZ a
 have d1:=zci a
 have s1:=zcJ (x:=a.p)
 rw[zaR (zf9 h)] at s1
 have cv:=zaW (zf9 h)
 have hq:=a.q1
 have fl:=zdl (clip (a.p.v*4294967296)) a.q (by omega)
 have qv:((clip (a.p.v*4294967296)).div a.q (by omega)).v=fdQ a:=by
  show (clip (a.p.v*4294967296)).v/a.q.v=_
  rw[cv];rfl
 generalize clip (a.p.v*4294967296)=z at *
 generalize z.div a.q (by omega)=q at *
 refine⟨q,qv,?_⟩
 refine zaa (xf:=zzJ) rfl (by simp[zzJ]) ?_
 simp only[zzJ]
 simp(disch:=omega)only[go_sem,seval,wqq,n1,s1]
 refine zae rfl ?_
 simp(disch:=omega)only[go_sem,seval,wqq,d1,fl]
theorem zry (a:FQ) (h:inL a.p.v):∃q:WI,q.v=ceQ a∧pf E0 291 [.ag [.fn 298 [],.fn 299 []],fqP a]=some (wiP q):=by
 have n1:=zhZ a
 have d1:=zci a
 have s1:=zcJ (x:=a.p)
 rw[zaR (zf9 h)] at s1
 have cv:=zaW (zf9 h)
 have hq:=a.q1
 obtain⟨q,qv,fl⟩:=zd4 (clip (a.p.v*4294967296)) a.q (by omega)
 rw[cv] at qv
 generalize clip (a.p.v*4294967296)=z at *
 refine⟨q,qv,?_⟩
 refine zaa (xf:=zzJ) rfl (by simp[zzJ]) ?_
 simp only[zzJ]
 simp(disch:=omega)only[go_sem,seval,wqq,n1,s1]
 refine zae rfl ?_
 simp(disch:=omega)only[go_sem,seval,wqq,d1,fl]
theorem zh0 (a:FQ):pf E0 289 [fqP a]=some (.b (decide (¬(inL a.p.v∧inL a.q.v)))):=by
 have hp:pf E0 293 [.i .i64 16000]=some (wiP (wTwo 16000)):=zkJ (K:=16000) (by omega)
 have tv:(wTwo 16000).v=two 16000:=zn2 (by omega)
 have n1:=zhZ a
 have d1:=zci a
 have s1:=za6 a.p
 have g1:=zeF a.p
 have nv:a.p.neg.v = -a.p.v:=rfl
 obtain⟨m,hm,mv⟩:∃m:WI,m=(if a.p.v<0 then a.p.neg else a.p)∧m.v=(a.p.v.natAbs:Int):=⟨_,rfl,by split<;>omega⟩
 have c1:=zaZ m (wTwo 16000)
 have c2:=zaZ a.q (wTwo 16000)
 rw[tv] at c1 c2
 have hq:=a.q1
 have l1:=zfn a.p.v
 have l2:=zfn a.q.v
 rw[←mv] at l1
 rw[show (a.q.v.natAbs:Int)=a.q.v by omega] at l2
 generalize wTwo 16000=w at *
 generalize two 16000=t at *
 have k:∀z:Int,(0≤cmpI z t)↔t≤z:=fun z=>by unfold cmpI;split<;>(try split)<;>omega
 have e:decide (¬(inL a.p.v∧inL a.q.v))=(if 0≤cmpI m.v t then true else decide (0≤cmpI a.q.v t)):=by
  by_cases h1:t≤m.v
  ·rw[if_pos ((k _).2 h1)]
   exact decide_eq_true (fun q=>l1.1 q.1 h1)
  ·rw[if_neg (fun q=>h1 ((k _).1 q))]
   by_cases h2:t≤a.q.v
   ·rw[decide_eq_true ((k _).2 h2)]
    exact decide_eq_true (fun q=>l2.1 q.2 h2)
   ·rw[decide_eq_false (fun q=>h2 ((k _).1 q))]
    exact decide_eq_false (fun q=>q ⟨l1.2 h1,l2.2 h2⟩)
 rw[e]
 clear e k l1 l2
 refine zaa (xf:=zBK) rfl (by simp[zBK]) ?_
 simp only[zBK]
 by_cases hn:a.p.v<0
 ·have q0:(cmpI a.p.v 0<0)=True:=by unfold cmpI;rw[if_pos hn];simp
  rw[if_pos hn] at hm
  rw[←hm] at g1
  simp(disch:=omega)only[go_sem,seval,wqq,hp,n1,s1,q0,g1]
  by_cases h1:0≤cmpI m.v t
  ·rw[if_pos h1]
   have h1:(0≤cmpI m.v t)=True:=by simp[h1]
   refine zae rfl ?_
   simp(disch:=omega)only[go_sem,seval,wqq,c1,h1]
  ·rw[if_neg h1]
   have h1:(0≤cmpI m.v t)=False:=by simp[h1]
   refine zae rfl ?_
   simp(disch:=omega)only[go_sem,seval,wqq,c1,h1,d1,c2]
 ·have q0:(cmpI a.p.v 0<0)=False:=by unfold cmpI;rw[if_neg hn];split<;>simp
  rw[if_neg hn] at hm
  rw[←hm] at n1 s1 q0
  simp(disch:=omega)only[go_sem,seval,wqq,hp,n1,s1,q0]
  by_cases h1:0≤cmpI m.v t
  ·rw[if_pos h1]
   have h1:(0≤cmpI m.v t)=True:=by simp[h1]
   refine zae rfl ?_
   simp(disch:=omega)only[go_sem,seval,wqq,c1,h1]
  ·rw[if_neg h1]
   have h1:(0≤cmpI m.v t)=False:=by simp[h1]
   refine zae rfl ?_
   simp(disch:=omega)only[go_sem,seval,wqq,c1,h1,d1,c2]
theorem zrG (a b c d:FQ) (hab:(cmpF a b>0∧c=b∧d=a)∨(¬cmpF a b>0∧c=a∧d=b)):pf E0 278 [fqP a,fqP b]=some (.tu [ivP (mkSo c d).1,.i .i64 (mkSo c d).2]):=by
 have c1:=zdy a b
 have l1:=zh0 c
 have l2:=zh0 d
 have step:∀q:Prop,(q=(0<cmpF a b))→(q=True∧c=b∧d=a)∨(q=False∧c=a∧d=b):=fun q hq=>by
  rcases hab with⟨h1,h2⟩|⟨h1,h2⟩
  ·left;exact⟨by rw[hq];simp;omega,h2⟩
  ·right;exact⟨by rw[hq];simp;omega,h2⟩
 have s0:=step _ rfl
 clear step hab
 by_cases h1:inL c.p.v∧inL c.q.v
 ·rw[decide_eq_false (fun q=>q h1)] at l1
  by_cases h2:inL d.p.v∧inL d.q.v
  ·rw[decide_eq_false (fun q=>q h2)] at l2
   obtain⟨x,xv,e1⟩:=zrx c h1.1
   obtain⟨y,yv,e2⟩:=zry d h2.1
   have md:=zh2 x y
   have m:mkSo c d=mdI x.v y.v:=by unfold mkSo;rw[if_pos ⟨h1.1,h1.2,h2.1,h2.2⟩,xv,yv];rfl
   rw[m]
   generalize (mdI x.v y.v).1=R at *
   generalize (mdI x.v y.v).2=E at *
   clear m xv yv h1 h2
   refine zaa (xf:=zz6) rfl (by simp[zz6]) ?_
   simp only[zz6]
   rcases s0 with⟨q0,rfl,rfl⟩|⟨q0,rfl,rfl⟩
   ·simp(disch:=omega)only[go_sem,seval,wqq,c1,q0,l1,l2]
    refine zae rfl ?_
    simp(disch:=omega)only[go_sem,seval,wqq,zm7,zm8,e1,e2,md]
   ·simp(disch:=omega)only[go_sem,seval,wqq,c1,q0,l1,l2]
    refine zae rfl ?_
    simp(disch:=omega)only[go_sem,seval,wqq,zm7,zm8,e1,e2,md]
  ·rw[decide_eq_true h2] at l2
   have m:mkSo c d=(ivZ,4):=by unfold mkSo;rw[if_neg (fun q=>h2 q.2.2)]
   rw[m]
   show _=some (PV.tu [ivP ivZ,PV.i .i64 4])
   rw[ziG]
   clear m h1 h2
   refine zaa (xf:=zz6) rfl (by simp[zz6]) ?_
   simp only[zz6]
   rcases s0 with⟨q0,rfl,rfl⟩|⟨q0,rfl,rfl⟩
   ·simp(disch:=omega)only[go_sem,seval,wqq,c1,q0,l1,l2,zai,zad]
   ·simp(disch:=omega)only[go_sem,seval,wqq,c1,q0,l1,l2,zai,zad]
 ·rw[decide_eq_true h1] at l1
  have m:mkSo c d=(ivZ,4):=by unfold mkSo;rw[if_neg (fun q=>h1 ⟨q.1,q.2.1⟩)]
  rw[m]
  show _=some (PV.tu [ivP ivZ,PV.i .i64 4])
  rw[ziG]
  clear m h1
  refine zaa (xf:=zz6) rfl (by simp[zz6]) ?_
  simp only[zz6]
  rcases s0 with⟨q0,rfl,rfl⟩|⟨q0,rfl,rfl⟩
  ·simp(disch:=omega)only[go_sem,seval,wqq,c1,q0,l1,zai,zad]
  ·simp(disch:=omega)only[go_sem,seval,wqq,c1,q0,l1,zai,zad]
theorem zfz (a b:FQ):pf E0 278 [fqP a,fqP b]=some (.tu [ivP (mkI a b).1,.i .i64 (mkI a b).2]):=by
 by_cases h:cmpF a b>0
 ·have:=zrG a b b a (.inl ⟨h,rfl,rfl⟩)
  unfold mkI;rw[if_pos h];exact this
 ·have:=zrG a b a b (.inr ⟨h,rfl,rfl⟩)
  unfold mkI;rw[if_neg h];exact this
theorem zrE (a:FQ):pf E0 377 [fqP a]=some (.tu [ivP (mkI a a).1,.i .i64 (mkI a a).2]):=by
 have m:=zfz a a
 generalize (mkI a a).1=R at *
 generalize (mkI a a).2=E at *
 refine zaa (xf:=zCs) rfl (by simp[zCs]) ?_
 simp only[zCs]
 simp(disch:=omega)only[go_sem,seval,wqq,m]
noncomputable def frQ (x:WI):FQ:=(makF x w32).1
theorem zun {x y:WI} (h:y.v≠0):(makF x y).2=0∧(makF x y).1.p.v=lowP x.v y.v∧(makF x y).1.q.v=lowQ x.v y.v:=(zcw x y).choose_spec.choose_spec.2.2 h
theorem zhA (x:WI):(frQ x).is x.v 4294967296:=by
 obtain⟨_,h1,h2⟩:=zun (x:=x) (y:=w32) (by rw[zi3];decide)
 exact zhH (d:=4294967296) (by decide) h1 h2
theorem zeY (x:WI):pf E0 292 [wiP x]=some (fqP (frQ x)):=by
 have g1:=f32
 have m1:=zrF x w32
 unfold frQ
 generalize (makF x w32).1=R at *
 generalize (makF x w32).2=E at *
 generalize w32=ww at *
 refine zaa (xf:=zAF) rfl (by simp[zAF]) ?_
 simp only[zAF]
 simp(disch:=omega)only[go_sem,seval,wqq]
 refine zae rfl ?_
 simp(disch:=omega)only[go_sem,seval,wqq,g1,m1]
theorem zsU (x:IV):pf E0 280 [ivP x]=some (fqP (frQ x.lo)):=by
 have m1:=zeY x.lo
 generalize frQ x.lo=R at *
 refine zaa (xf:=zzX) rfl (by simp[zzX]) ?_
 simp only[zzX]
 simp(disch:=omega)only[go_sem,seval,wqq,m1]
theorem zsT (x:IV):pf E0 281 [ivP x]=some (fqP (frQ x.hi)):=by
 have m1:=zeY x.hi
 generalize frQ x.hi=R at *
 refine zaa (xf:=zzZ) rfl (by simp[zzZ]) ?_
 simp only[zzZ]
 simp(disch:=omega)only[go_sem,seval,wqq,m1]
theorem zg3 (x:IV) (f:FQ):pf E0 260 [ivP x,fqP f]=some (.b (decide (ivHas x f))):=by
 have h1:=zsU x
 have h2:=zsT x
 have hq:=f.q1
 have e1:=zm6 (by decide) (by omega) (zhA x.lo) (zb7 f)
 have e2:=zm6 (by omega) (by decide) (zb7 f) (zhA x.hi)
 generalize frQ x.lo=A at *
 generalize frQ x.hi=B at *
 have c1:=zdy A f
 have c2:=zdy f B
 rw[e1] at c1
 rw[e2] at c2
 have k:∀a b:Int,(cmpI a b≤0)↔a≤b:=fun a b=>by unfold cmpI;split<;>(try split)<;>omega
 have e:decide (ivHas x f)=(if cmpI (x.lo.v*f.q.v) (f.p.v*4294967296)≤0 then decide (cmpI (f.p.v*4294967296) (x.hi.v*f.q.v)≤0) else false):=by
  simp only[ivHas,k]
  split
  ·rename_i h;simp[h]
  ·rename_i h;simp[h]
 rw[e]
 clear e k e1 e2
 generalize cmpI (x.lo.v*f.q.v) (f.p.v*4294967296)=u at *
 generalize cmpI (f.p.v*4294967296) (x.hi.v*f.q.v)=v at *
 refine zaa (xf:=zBY) rfl (by simp[zBY]) ?_
 simp only[zBY]
 simp(disch:=omega)only[go_sem,seval,wqq]
 by_cases h:u≤0
 ·rw[if_pos h]
  have h:(u≤0)=True:=eq_true h
  refine zae rfl ?_
  simp(disch:=omega)only[go_sem,seval,wqq,h1,h2,c1,c2,h]
 ·rw[if_neg h]
  have h:(u≤0)=False:=eq_false h
  refine zae rfl ?_
  simp(disch:=omega)only[go_sem,seval,wqq,h1,h2,c1,c2,h]
noncomputable def ivTx (x:IV):List UInt8:=[91]++ftx (frQ x.lo).p.v (frQ x.lo).q.v++[44,32]++ftx (frQ x.hi).p.v (frQ x.hi).q.v++[93]
theorem zeZ (x:IV):pf E0 348 [ivP x]=some (.s (ivTx x)):=by
 have h1:=zsU x
 have h2:=zsT x
 unfold ivTx
 generalize frQ x.lo=A at *
 generalize frQ x.hi=B at *
 have t1:=zeq A
 have t2:=zeq B
 have l1:=zfi A
 have l2:=zfi B
 generalize ftx A.p.v A.q.v=X at *
 generalize ftx B.p.v B.q.v=Y at *
 have n1:([91]++X:List UInt8).length<4000002:=by simp;omega
 have n2:([91]++X++[44,32]:List UInt8).length<4000004:=by simp;omega
 have n3:([91]++X++[44,32]++Y:List UInt8).length<8000004:=by simp;omega
 refine zaa (xf:=zzR) rfl (by simp[zzR]) ?_
 simp only[zzR]
 have b1:binP .add (.s [91]) (.s X)=some (.s ([91]++X)):=zaJ _ _ (by simp;omega)
 have b2:binP .add (.s ([91]++X)) (.s [44,32])=some (.s ([91]++X++[44,32])):=zaJ _ _ (by simp;omega)
 have b3:binP .add (.s ([91]++X++[44,32])) (.s Y)=some (.s ([91]++X++[44,32]++Y)):=zaJ _ _ (by simp;omega)
 have b4:binP .add (.s ([91]++X++[44,32]++Y)) (.s [93])=some (.s ([91]++X++[44,32]++Y++[93])):=zaJ _ _ (by simp;omega)
 generalize ([91]++X++[44,32]++Y++[93]:List UInt8)=Z4 at *
 generalize ([91]++X++[44,32]++Y:List UInt8)=Z3 at *
 generalize ([91]++X++[44,32]:List UInt8)=Z2 at *
 generalize ([91]++X:List UInt8)=Z1 at *
 simp(disch:=omega)only[go_sem,seval,wqq]
 refine zae rfl ?_
 simp(disch:=omega)only[go_sem,seval,wqq,h1,h2,t1,t2,b1,b2,b3,b4]
end Go.Eng
