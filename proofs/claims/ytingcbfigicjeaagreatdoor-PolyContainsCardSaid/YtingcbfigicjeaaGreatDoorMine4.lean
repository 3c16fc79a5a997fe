/- The engine and the contracts on which the statement stands: no conditions of its own. -/
import Derived.Test.YtingcbfigicjeaaGreatDoorMine3
import Derived.Below
import Derived.Shelf.Strings.Repeat
import Derived.Shelf.Strings.Builder1
import Derived.Shelf.Strings.SlTrimAscii
import Derived.Shelf.Strings.Search2
import Derived.Shelf.Strconv.Atoi
import Derived.Shelf.Strconv.Itoa3
import Derived.Lib.AppendIntMem
import Derived.Lib.SmallJoins
import Derived.Lib.Case
import Derived.Lib.Join
import Derived.BigCall
import Derived.BigGuard
import Derived.KernelRfl
import Derived.Lib.LaidTab
import Derived.ProofKit
import Derived.OpenShut
import Derived.Lay
import Derived.LaidMore
import Derived.LaidHandle
import Derived.Stop.Joined
set_option linter.unusedSimpArgs false
set_option linter.unusedVariables false
set_option linter.unusedSectionVars false
namespace Go.Eng
def HasT (h:Hp):Prop:=∃b,h.m 0=some b∧b.v=powT
theorem zjL (m:Nat):¬DM [] [] m:=fun d=>by
 obtain⟨n,b,q,_⟩:=d
 simp at q
theorem PInv.start {h:Hp} (w:h.wf) (t:HasT h):PInv globT (fun _=>False) [] [] h:=by
 refine⟨rfl,fun i j m q=>by simp at q,fun m q=>by simp at q,w,fun n m q=>by simp at q,fun n b m q=>by simp at q,fun m d=>d.elim,fun g l q=>?_⟩
 unfold globT at q
 split at q
 ·rename_i hg
  cases q;subst hg
  obtain⟨b,t1,t2⟩:=t
  refine⟨b,t1,⟨t2,by decide⟩,fun d=>?_⟩
  rcases d with d|d
  ·exact d
  ·exact zjL _ d
 ·cases q
theorem VL.dd {h:Hp} {args:List PV} {asq:List AV} (v:VL h (fun _=>False) [] args asq):VL h (DD (fun _=>False) [] []) [] args asq :=
 v.anti fun m d=>by
  rcases d with d|d
  ·exact d
  ·exact(zjL _ d).elim
theorem ziC {h:Hp} {D:Nat→Prop} {r:List Nat}:∀{ps:List (List UInt8)} {l:List AV},VL h D r (ps.map PV.s) l→l=ps.map AV.s
 | [],l,v=>v.of_nil
 | x::ps,l,v=>by
  obtain⟨y,ys,e1,e2,e3⟩:=v.uncons
  rw[e1,List.map_cons,←ziC e3]
  cases e2;rfl
theorem zpc (K:PEnvOk E1) {neg:Bool} {v:Nat} {w:AV} {h:Hp} (hw:h.wf) (t:HasT h) (h0:v≠0) (hl:wlen v≤512) (hv:V h (fun _=>False) [] (D v) w) :
  ∃lf fr' h' m0 m len cap ps,evCode (evF E1.prog lf) lf strA ([.ag [.b neg,w]]++List.replicate 57 undefA) h=some (.normal,fr',h')∧fr'.length=58∧fr'.getD 1 undefA=.p m0 0∧(∃b,h'.m m0=some b∧b.v[0]?=some (.b neg)) ∧
   fr'.getD 3 undefA=.sl m 0 len cap 1∧(∃b,h'.m m=some b∧b.v=ps.map AV.s)∧len=ps.length∧ps≠[]∧ps.length≤20000∧ps.reverse.flatten=dec v:=by
 obtain⟨lf,fr,M,p,ps,e,f1,f3,hg,g1,g2,g3,hb⟩:=zl3 (neg:=neg) h0 hl
 have hv0:VL h (DD (fun _=>False) [] []) [] [.ag [.b neg,D v]] [.ag [.b neg,w]] :=
  VL.dd (.cons ((fun q:VL h (fun _=>False) [] [.b neg,D v] [.b neg,w]=>V.ag q.1 q.2) (.cons (.b neg) (.cons hv .nil))) .nil)
 have F0:VFr h (DD (fun _=>False) [] []) [] (frOf [.ag [.b neg,D v]]) ([.ag [.b neg,w]]++List.replicate 57 undefA):=by
  intro k
  cases k with
  | zero=>exact hv0.2 0 (by simp) (by simp)
  | succ k =>
   have e2:([AV.ag [.b neg,w]]++List.replicate 57 undefA).getD (k+1) undefA=undefA:=by
    simp only[List.singleton_append,List.getD,List.getElem?_cons_succ,List.getElem?_replicate]
    split<;>rfl
   rw[e2]
   exact .junk _ rfl fun _ q=>by cases q
 obtain⟨fr',h',r',q1,q2,q3,q4,q5⟩:=zaX (zhU K lf) lf strA rfl _ _ _ _ _ _ _ _ e (PInv.start hw t) F0 rfl
 have a1:=q4 1
 rw[f1] at a1
 have a3:=q4 3
 rw[f3] at a3
 rcases hg with⟨hn,_⟩|⟨k,ev,rfl,hk⟩
 ·simp at hn;exact(g1 hn).elim
 rw[zaw] at hb hk
 generalize ha1:fr'.getD 1 undefA=A1 at a1
 generalize ha3:fr'.getD 3 undefA=A3 at a3
 cases a1 with
 | @p _ _ m0 _ hm0 =>
  cases a3 with
  | @sl _ _ m _ len cap z hm hlc =>
   obtain⟨b0,c1,c2,c3,c4,c5⟩:=q2.blk 0 _ m0 hb hm0
   obtain⟨b1,d1,d2,d3,d4,d5⟩:=q2.blk k _ m hk hm
   refine⟨lf,fr',h',m0,m,_,_,ps,q1,q5,ha1,⟨b0,c1,?_⟩,ha3,⟨b1,d1,?_⟩,by simp,g1,g2,g3⟩
   ·obtain⟨x,xs,e1,e2,e3⟩:=c4.uncons
    rw[e1]
    cases e2;rfl
   ·exact ziC d4
theorem zpb (K:PEnvOk E1) {w:AV} {h:Hp} (hw:h.wf) (t:HasT h) (hv:V h (fun _=>False) [] (D 0) w) :
  ∃lf fr' h',evCode (evF E1.prog lf) lf strA ([.ag [.b false,w]]++List.replicate 57 undefA) h=some (.ret,fr',h')∧fr'.getD 2 undefA=.s [48]:=by
 have wk:WK E1 ⟨[.tmp 2],fun q _=>q=.s [48]⟩ (.seq strA .fail) [] (frOf [.ag [.b false,D 0]]) []:=by
  simp only[strA]
  have q0:((wlen 0:Int)=0)=True:=by rw[zbM];simp
  simp(disch:=omega)only[go_sem,seval,wqq,q0]
 obtain⟨lf,q,fr,M,vs,e,h1,h2,h3⟩:=wk
 simp only[Option.bind_eq_some_iff] at e
 obtain⟨⟨o,fr1,M1⟩,e1,e2⟩:=e
 simp only[unw] at e2
 cases e2
 have e0:pCode E1.glob (pcl E1) lf strA (frOf [.ag [.b false,D 0]]) []=some (.ret,fr,M):=by
  simp only[pCode] at e1
  cases hs:pCode E1.glob (pcl E1) lf strA (frOf [.ag [.b false,D 0]]) [] with
  | none=>rw[hs] at e1;cases e1
  | some r =>
   obtain⟨o2,fr2,M2⟩:=r
   rw[hs] at e1
   cases o2 with
   | normal=>cases e1
   | exit i=>cases e1;exact(h1 i rfl).elim
   | ret=>cases e1;rfl
 obtain⟨k,e4⟩:=zaI _ e0
 have e5:=zaB (zb3 (Nat.le_max_left k lf)) (Nat.le_max_right k lf) _ e4
 simp only[pRes,pResOne] at h2
 cases h2
 simp only[packP] at h3
 have hv0:VL h (DD (fun _=>False) [] []) [] [.ag [.b false,D 0]] [.ag [.b false,w]] :=
  VL.dd (.cons ((fun q:VL h (fun _=>False) [] [.b false,D 0] [.b false,w]=>V.ag q.1 q.2) (.cons (.b false) (.cons hv .nil))) .nil)
 have F0:VFr h (DD (fun _=>False) [] []) [] (frOf [.ag [.b false,D 0]]) ([.ag [.b false,w]]++List.replicate 57 undefA):=by
  intro k
  cases k with
  | zero=>exact hv0.2 0 (by simp) (by simp)
  | succ k =>
   have e2:([AV.ag [.b false,w]]++List.replicate 57 undefA).getD (k+1) undefA=undefA:=by
    simp only[List.singleton_append,List.getD,List.getElem?_cons_succ,List.getElem?_replicate]
    split<;>rfl
   rw[e2]
   exact .junk _ rfl fun _ q=>by cases q
 obtain⟨fr',h',r',q1,q2,q3,q4,q5⟩:=zaX (zhU K (max k lf)) (max k lf) strA rfl _ _ _ _ _ _ _ _ e5 (PInv.start hw t) F0 rfl
 have a2:=q4 2
 rw[h3] at a2
 generalize ha2:fr'.getD 2 undefA=A2 at a2
 cases a2
 exact⟨_,fr',h',q1,ha2⟩
end Go.Eng
namespace Go.Eng
variable {F:Nat} {key:Nat→Option FuncId}
theorem Ext.below {l:Loc} {h:Hp} {w w':World} {B:Nat} (hB:w.heap.size≤B) (b:RowKit.Below B w w'):Ext l h w l h w' :=
 ⟨l.le_refl,.refl h,fun _ _ e=>.inl e,b.size,b.os,b.tape,b.output,fun k hk _=>b.block k (Nat.lt_of_lt_of_le hk hB)⟩
theorem Sim.below {l:Loc} {h:Hp} {w w':World} {B:Nat} (S:Sim key F l h w) (hB:w.heap.size≤B) (b:RowKit.Below B w w'):Sim key F l h w' :=
 ⟨fun n blk a e1 e2=>(S.holds n blk a e1 e2).move l.le_refl b.size (b.block _ (Nat.lt_of_lt_of_le (S.lt n a e2) hB)),S.apart,fun n a e=>Nat.lt_of_lt_of_le (S.lt n a e) b.size,S.dom,S.wf⟩
theorem zbI {P:Program} {l:Loc} {h:Hp} {w:World} {g:FuncId} {vs:Array Value} {v:AV} {val:Value} (S:Sim key F l h w)
  (c:Calls P g vs w fun e w'=>e=.returned val∧RowKit.Below w.heap.size w w') (r:Rel key l v val) :
  Calls P g vs w fun e w'=>∃l' val,e=.returned val∧Ext l h w l' h w'∧Sim key F l' h w'∧Rel key l' v val :=
 c.mono fun e w' ⟨e1,b⟩=>⟨l,val,e1,.below (Nat.le_refl _) b,S.below (Nat.le_refl _) b,r⟩
theorem zff {l:Loc} (bs:List UInt8):Rel key l (.s bs) (.string ⟨bs.toArray⟩):=by
 have:=Rel.s (key:=key) (l:=l) (⟨bs.toArray⟩:ByteArray)
 simpa using this
end Go.Eng
namespace Go.Eng
open Go.Proofs Go.RowKit Go.Shelf
theorem ziV {v:Nat} (h:v<10):dec v=[UInt8.ofNat (48+v)]:=by
 unfold dec
 split
 ·rename_i h0;subst h0;rfl
 ·rename_i h0
  have hd:dlen v=1:=by
   have h1:dlen v≤1:=zap.2 (by omega)
   have h2:=zbA v
   rcases Nat.eq_zero_or_pos (dlen v) with q|q
   ·rw[q] at h2;simp at h2;omega
   ·omega
  rw[hd]
  show [UInt8.ofNat (48+v/10^0%10)]=_
  rw[Nat.pow_zero,Nat.div_one,Nat.mod_eq_of_lt h]
theorem zg1:∀(n v:Nat),dtx (n+1) v=dtx n (v/10)++[UInt8.ofNat (48+v%10)]
 | 0,v=>by show [UInt8.ofNat (48+v/10^0%10)]=_;rw[Nat.pow_zero,Nat.div_one];rfl
 | n+1,v=>by
  show UInt8.ofNat (48+v/10^(n+1)%10)::dtx (n+1) v=(UInt8.ofNat (48+v/10/10^n%10)::dtx n (v/10))++_
  rw[zg1 n v,Nat.div_div_eq_div_mul,←Nat.pow_succ'];rfl
theorem znm {v:Nat} (h:¬v<10):dec v=dec (v/10)++[UInt8.ofNat (48+v%10)]:=by
 have hd:dlen v=dlen (v/10)+1:=by
  have k:∀m,dlen (v/10)≤m↔dlen v≤m+1:=fun m=>by
   rw[zap,zap,Nat.pow_succ,Nat.div_lt_iff_lt_mul (by decide)]
  have k1:=(k (dlen (v/10))).1 (Nat.le_refl _)
  have k2:0<dlen v:=by
   rcases Nat.eq_zero_or_pos (dlen v) with q|q
   ·have:=zbA v;rw[q] at this;simp at this;omega
   ·exact q
  have k3:=(k (dlen v-1)).2 (by omega)
  omega
 unfold dec
 rw[if_neg (by omega),if_neg (by omega),hd,zg1]
theorem ziU (v:Nat):Lib.decDigits v=dec v:=by
 induction v using Nat.strongRecOn with
 | _ v ih =>
  rw[Lib.decDigits]
  split
  ·rename_i h;exact(ziV h).symm
  ·rename_i h
   rw[ih (v/10) (by omega),←znm h]
theorem zk4 (n:Int):Lib.itoa n=decI n:=by
 unfold Lib.itoa decI
 split
 ·rw[ziU]
 ·rename_i h
  rw[ziU]
  congr 1;omega
theorem zkp (l:List UInt8):∀c,Lib.repeatL l c=(List.replicate c l).flatten
 | 0=>rfl
 | c+1=>by rw[Lib.repeatL,zkp l c,List.replicate_succ,List.flatten_cons]
theorem znr {c:UInt8} (h:isDig c=true):Lib.digitVal c=some (c.toNat-48):=by
 simp only[isDig,decide_eq_true_eq] at h
 unfold Lib.digitVal
 rw[if_pos h]
theorem zkG:∀(l:List UInt8) (a:Nat),l.all isDig=true→Lib.decFrom a l=some (a*10^l.length+tv l)
 | [],a,_=>by simp[Lib.decFrom,tv]
 | c::l,a,h=>by
  simp only[List.all_cons,Bool.and_eq_true] at h
  unfold Lib.decFrom
  rw[znr h.1]
  simp only
  rw[zkG l _ h.2]
  congr 1
  show (a*10+(c.toNat-48))*10^l.length+tv l=a*10^(l.length+1)+((c.toNat-48)*10^l.length+tv l)
  rw[Nat.pow_succ];grind
theorem zkT {l:List UInt8} (h0:l≠[]) (h:l.all isDig=true):Lib.atoi l=some (tv l:Int):=by
 cases l with
 | nil=>exact(h0 rfl).elim
 | cons c l =>
  have hc:isDig c=true:=by simp only[List.all_cons,Bool.and_eq_true] at h;exact h.1
  simp only[isDig,decide_eq_true_eq] at hc
  have h45:(c==45)=false:=by
   rw[beq_eq_false_iff_ne];rintro rfl;revert hc;decide
  have h43:(c==43)=false:=by
   rw[beq_eq_false_iff_ne];rintro rfl;revert hc;decide
  simp only[Lib.atoi,h45,h43,Bool.false_eq_true,if_false]
  unfold Lib.decNat
  simp only[List.isEmpty_cons,Bool.false_eq_true,if_false]
  rw[zkG _ _ h]
  simp
theorem zjl (c:UInt8):∀l:List UInt8,Lib.indexByte l c=idxB l c
 | []=>rfl
 | b::l=>by unfold Lib.indexByte idxB;rw[zjl c l]
structure LibOk (P:Program) (ρ:Ren) (key:Nat→Option FuncId) (T:Tab) (G:Nat):Prop where
 l105:Lays.n105 P ρ
 l171:LaysM.n171 P ρ
 lX:Builder.Extra P ρ
 gname:P.globalNamed "internal/strconv.uint64pow10" = some G
 gkey:T.gkey G=some 0
 k50:key 50=some (ρ.f 171)
 k51:key 51=some (ρ.f 105)
 o130:∀g,key 130=some g→Lays.n160 P ρ∧(P.info? (ρ.t 116)).map (fun i=>(i.zero,i.size))=some (some (.agg (Array.replicate 256 (.bool false))),256)∧g=ρ.f 160
 o131:∀g,key 131=some g→Lays.n172 P ρ∧g=ρ.f 172
 o222:∀g,key 222=some g→Lays.n219 P ρ∧g=ρ.f 219
variable {P:Program} {ρ:Ren} {key:Nat→Option FuncId} {T:Tab} {G:Nat}
theorem ziw {l:Loc} {xs:List UInt8} {v:Value} (h:Rel key l (.s xs) v):∃s:ByteArray,v=.string s∧s.data.toList=xs:=by
 generalize hx:AV.s xs=x at h
 cases h<;>cases hx
 exact⟨_,rfl,rfl⟩
theorem zo0 {l:Loc} {k:IntKind} {n:Int} {v:Value} (h:Rel key l (.i k n) v):v=.int k n:=by
 cases h;rfl
theorem zhX {l:Loc} {a:AV} {vs:Array Value} (h:RelL key l [a] vs.toList):∃v,vs = #[v]∧Rel key l a v:=by
 have hl:=h.1
 rcases vs with⟨vs⟩
 match vs,hl with
 | [v],_=>exact⟨v,rfl,h.2 0 (by simp) (by simp)⟩
theorem zfe {l:Loc} {a b:AV} {vs:Array Value} (h:RelL key l [a,b] vs.toList):∃v w,vs = #[v,w]∧Rel key l a v∧Rel key l b w:=by
 have hl:=h.1
 rcases vs with⟨vs⟩
 match vs,hl with
 | [v,w],_=>exact⟨v,w,rfl,h.2 0 (by simp) (by simp),h.2 1 (by simp) (by simp)⟩
theorem mkS {s:ByteArray} {xs:List UInt8} (h:s.data.toList=xs):s=⟨xs.toArray⟩:=by
 rcases s with⟨d⟩
 rw[←h]
theorem zrO (K:LibOk P ρ key T G) {F:Nat} {l:Loc} {h:Hp} {w:World} (TO:TabOk key T l) (S:Sim key F l h w) (t:∃b,h.m 0=some b∧b.v=powT):Lib.TabIs P w "internal/strconv.uint64pow10" .u64 Lib.pow10Tab:=by
 obtain⟨m,hm⟩:=TO.g G 0 K.gkey
 obtain⟨b,b1,b2⟩:=t
 have H:=S.holds 0 b _ b1 hm
 obtain⟨_,_,cs,ty,fz,h3,h4⟩:=H.whole rfl
 unfold Lib.TabIs World.var?
 rw[K.gname]
 simp only[Option.bind_some]
 simp only at h3
 rw[h3]
 simp only[Option.some.injEq]
 have hlen:b.v.length=20:=by rw[b2];rfl
 apply Array.ext_getElem?
 intro i
 by_cases hi:i<20
 ·obtain⟨v,c1,c2⟩:=H.cell i (by omega)
  have hcs:cs[i]?=some v:=by
   have:=c1
   simp only[World.cell?,Nat.zero_add] at this
   rw[h3] at this
   simpa using this
  have hb:b.v[i]'(by omega)=.i .u64 ((10^i:Nat):Int):=by
   simp only[b2,powT]
   rw[List.getElem_map,List.getElem_range]
  rw[hb] at c2
  rw[hcs,zo0 c2]
  simp[Lib.pow10Tab,hi]
 ·rw[Array.getElem?_eq_none (by omega),Array.getElem?_eq_none (by simp[Lib.pow10Tab];omega)]
theorem zju (K:LibOk P ρ key T G) {f g:Nat} (hk:key f=some g) (hf:f≠33) {F:Nat} {args:List AV} {vs:Array Value} {h h':Hp} {v:AV} {l:Loc} {w:World} (e:orcA f args h=some (v,h')) (TO:TabOk key T l)
  (RL:RelL key l args vs.toList) (S:Sim key F l h w):Calls P g vs w fun e w'=>∃l' val,e=.returned val∧Ext l h w l' h' w'∧Sim key F l' h' w'∧Rel key l' v val:=by
 unfold orcA at e
 rw[if_neg hf] at e
 split at e
 ·cases e
 rename_i ht
 simp only[Option.map_eq_some_iff,Prod.mk.injEq] at e
 obtain⟨v',e1,rfl,rfl⟩:=e
 unfold libA at e1
 split at e1
 ·rename_i n
  split at e1
  ·rename_i hc
   cases e1
   obtain⟨rfl,hn⟩:=hc
   obtain⟨x,rfl,r1⟩:=zhX RL
   rw[zo0 r1]
   obtain rfl:=Option.some.inj (K.k50.symm.trans hk)
   have t:∃b,h.m 0=some b∧b.v=powT:=by
    by_cases q:∃b,h.m 0=some b∧b.v=powT
    ·exact q
    ·exact(ht ⟨rfl,q⟩).elim
   refine zbI S (val:=.string ⟨(decI n).toArray⟩) ((Any.strconv_Itoa K.l171 n hn.1 hn.2 w (zrO K TO S t)).mono ?_) (zff _)
   rintro e w' ⟨rfl,k,os,rfl⟩
   exact⟨by rw[zk4],Lib.below_grow _ _ (Nat.le_refl _) _ _⟩
  ·cases e1
 ·rename_i xs c
  split at e1
  ·rename_i hc
   cases e1
   obtain⟨rfl,h1,h2,h3⟩:=hc
   obtain⟨x,y,rfl,r1,r2⟩:=zfe RL
   obtain⟨s,rfl,rfl⟩:=ziw r1
   rw[zo0 r2]
   obtain rfl:=Option.some.inj (K.k51.symm.trans hk)
   obtain⟨c,rfl⟩:∃k:Nat,c=(k:Int):=⟨c.toNat,by omega⟩
   have hsz:s.size≤1000:=by simpa using h3
   have hm:s.size*c≤1000*1000:=Nat.mul_le_mul hsz (by omega)
   refine zbI S (val:=.string ⟨((List.replicate c s.data.toList).flatten).toArray⟩) ((Any.strings_Repeat K.l105 K.lX s c w (by omega) (by omega)).mono ?_) (zff _)
   rintro e w' ⟨rfl,hb⟩
   exact⟨by rw[zkp],hb⟩
  ·cases e1
 ·rename_i xs cs
  split at e1
  ·rename_i hc
   cases e1
   obtain⟨rfl,h1,h2,h3⟩:=hc
   obtain⟨x,y,rfl,r1,r2⟩:=zfe RL
   obtain⟨s,rfl,rfl⟩:=ziw r1
   obtain⟨c,rfl,rfl⟩:=ziw r2
   obtain⟨l160,i116,rfl⟩:=K.o130 _ hk
   refine zbI S (val:=.string ⟨(((s.data.toList.reverse.dropWhile (c.data.toList.contains ·)).reverse).dropWhile (c.data.toList.contains ·)).toArray⟩) ((Any.strings_Trim_laid l160 i116 s c w (by simpa using h1) (by simpa using h2) (ascii_of_all h3)).mono ?_) (zff _)
   rintro e w' ⟨rfl,hb⟩
   exact⟨rfl,hb⟩
  ·split at e1
   ·rename_i hf
    subst hf
    split at e1
    ·rename_i c hh
     cases e1
     obtain⟨x,y,rfl,r1,r2⟩:=zfe RL
     obtain⟨s,rfl,rfl⟩:=ziw r1
     obtain⟨z,rfl,hz⟩:=ziw r2
     obtain⟨l219,rfl⟩:=K.o222 _ hk
     have ez:z=⟨#[c]⟩:=mkS hz
     subst ez
     refine zbI S (val:=.int .i64 (idxB s.data.toList c)) ((Any.stringslite_Index_one l219 s c w).mono ?_) (.i _ _)
     rintro e w' ⟨rfl,rfl⟩
     exact⟨by rw[zjl],.refl _ _⟩
    ·cases e1
   ·cases e1
 ·rename_i xs
  split at e1
  ·rename_i hc
   cases e1
   obtain⟨rfl,h1,h2,h3⟩:=hc
   obtain⟨x,rfl,r1⟩:=zhX RL
   obtain⟨s,rfl,rfl⟩:=ziw r1
   obtain⟨l172,rfl⟩:=K.o131 _ hk
   refine zbI S (val:=.tuple #[.int .i64 (tv s.data.toList:Nat),.nilIface]) ((Any.strconv_Atoi l172 s _ (by simpa using h2) (zkT h1 h3) w).mono ?_) ?_
   ·rintro e w' ⟨rfl,t,rfl⟩
    exact⟨rfl,Go.Joins.below_bytesWorld _ _ _ _ (Nat.le_refl _)⟩
   ·exact RelL.tu (.cons (.i _ _) (.cons .inil .nil))
  ·cases e1
 ·cases e1
end Go.Eng
namespace Go.Eng
variable {key:Nat→Option FuncId} {P:Program} {T:Tab} {call:Nat→List AV→Hp→Option (AV×Hp)} {F:Nat}
def graft:Code→Code→Code
 | .seq x y,r=>.seq x (graft y r)
 | c,r=>.seq c r
theorem zji (G:GoodCall call) (HC:Callable P key) (CS:CallSound P key T call) (hm:P.follows .mixedOrders=true) (lf:Nat) (c r:Code) (hg:graft c r=.seq c r) (hr:(cCode P T c).regsOk=true)
  {Q:Exit→Act→World→Prop} {l:Loc} {fr fr':Fr} {a:Act} {h h':Hp} {w:World} {out:Out} (TO:TabOk key T l) (R:RelF key l fr a.tmps) (S:Sim key F l h w) (hF:h'.next≤F)
  (he:evCode call lf (cCode P T c) fr h=some (out,fr',h'))
  (cont:∀l' a' w',Ext l h w l' h' w'→RelF key l' fr' a'.tmps→Sim key F l' h' w'→a'.defers=a.defers→Exit.then (r.wp P Q) Q out.toExit a' w'):(graft c r).wp P Q a w:=by
 rw[hg]
 exact wp_seq (zdK G HC CS lf c (zcK G HC CS hm c hr) TO R S hF he cont)
theorem zhg (G:GoodCall call) (HC:Callable P key) (CS:CallSound P key T call) (hm:P.follows .mixedOrders=true) (lf:Nat) (r:Code):∀(c:Code),(cCode P T c).regsOk=true →
  ∀{Q:Exit→Act→World→Prop} {l:Loc} {fr fr':Fr} {a:Act} {h h':Hp} {w:World} {out:Out},TabOk key T l→RelF key l fr a.tmps→Sim key F l h w→h'.next≤F →
  evCode call lf (cCode P T c) fr h=some (out,fr',h') →
  (∀l' a' w',Ext l h w l' h' w'→RelF key l' fr' a'.tmps→Sim key F l' h' w'→a'.defers=a.defers→Exit.then (r.wp P Q) Q out.toExit a' w')→(graft c r).wp P Q a w:=by
 intro c
 induction c with
 | seq x y _ ihy =>
  intro hr Q l fr fr' a h h' w out TO R S hF he cont
  simp only[cCode,XC.regsOk,Bool.and_eq_true] at hr
  simp only[cCode,evCode] at he
  show (Code.seq x (graft y r)).wp P Q a w
  cases h1:evCode call lf (cCode P T x) fr h with
  | none=>rw[h1] at he;cases he
  | some q =>
   obtain⟨o1,fr1,h1'⟩:=q
   rw[h1] at he
   have good1:=zbo G lf _ h1
   cases o1 with
   | normal =>
    simp only at he
    have good2:=zbo G lf _ he
    have hF1:h1'.next≤F:=Nat.le_trans good2.le.next hF
    refine wp_seq (zdK G HC CS lf x (zcK G HC CS hm x hr.1) TO R S hF1 h1 fun l1 a1 w1 E1 R1 S1 d1=>?_)
    exact ihy hr.2 (TO.mono E1.le) R1 S1 hF he fun l2 a2 w2 E2 R2 S2 d2=>cont l2 a2 w2 (.trans (S.hd S1.wf hF1) E1 E2) R2 S2 (d2.trans d1)
   | exit i =>
    cases he
    exact wp_seq (zdK G HC CS lf x (zcK G HC CS hm x hr.1) TO R S hF h1 fun l1 a1 w1 E1 R1 S1 d1=>cont l1 a1 w1 E1 R1 S1 d1)
   | ret =>
    cases he
    exact wp_seq (zdK G HC CS lf x (zcK G HC CS hm x hr.1) TO R S hF h1 fun l1 a1 w1 E1 R1 S1 d1=>cont l1 a1 w1 E1 R1 S1 d1)
 | _=>exact fun hr _ _ _ _ _ _ _ _ _ TO R S hF he cont=>zji G HC CS hm lf _ r rfl hr TO R S hF he cont
theorem zab {n:Nat} {l:List Value} (h:l.length=n+1):∃t l2,l=t::l2∧l2.length=n:=by
 cases l with
 | nil=>simp at h
 | cons t l=>exact⟨t,l,rfl,by simpa using h⟩
theorem zsY (tm:Array Value) (h:tm.size=58):∃t0 t1 t2 t3 t4 t5 t6 t7 t8 t9 t10 t11 t12 t13 t14 t15 t16 t17 t18 t19 t20 t21 t22 t23 t24 t25 t26 t27 t28 t29 t30 t31 t32 t33 t34 t35 t36 t37 t38 t39 t40 t41 t42 t43 t44 t45 t46 t47 t48 t49 t50 t51 t52 t53 t54 t55 t56 t57,tm = #[t0,t1,t2,t3,t4,t5,t6,t7,t8,t9,t10,t11,t12,t13,t14,t15,t16,t17,t18,t19,t20,t21,t22,t23,t24,t25,t26,t27,t28,t29,t30,t31,t32,t33,t34,t35,t36,t37,t38,t39,t40,t41,t42,t43,t44,t45,t46,t47,t48,t49,t50,t51,t52,t53,t54,t55,t56,t57]:=by
 rcases tm with⟨l⟩
 have h:l.length=58:=h
 obtain⟨t0,l0,rfl,h0⟩:=zab h
 obtain⟨t1,l1,rfl,h1⟩:=zab h0
 obtain⟨t2,l2,rfl,h2⟩:=zab h1
 obtain⟨t3,l3,rfl,h3⟩:=zab h2
 obtain⟨t4,l4,rfl,h4⟩:=zab h3
 obtain⟨t5,l5,rfl,h5⟩:=zab h4
 obtain⟨t6,l6,rfl,h6⟩:=zab h5
 obtain⟨t7,l7,rfl,h7⟩:=zab h6
 obtain⟨t8,l8,rfl,h8⟩:=zab h7
 obtain⟨t9,l9,rfl,h9⟩:=zab h8
 obtain⟨t10,l10,rfl,h10⟩:=zab h9
 obtain⟨t11,l11,rfl,h11⟩:=zab h10
 obtain⟨t12,l12,rfl,h12⟩:=zab h11
 obtain⟨t13,l13,rfl,h13⟩:=zab h12
 obtain⟨t14,l14,rfl,h14⟩:=zab h13
 obtain⟨t15,l15,rfl,h15⟩:=zab h14
 obtain⟨t16,l16,rfl,h16⟩:=zab h15
 obtain⟨t17,l17,rfl,h17⟩:=zab h16
 obtain⟨t18,l18,rfl,h18⟩:=zab h17
 obtain⟨t19,l19,rfl,h19⟩:=zab h18
 obtain⟨t20,l20,rfl,h20⟩:=zab h19
 obtain⟨t21,l21,rfl,h21⟩:=zab h20
 obtain⟨t22,l22,rfl,h22⟩:=zab h21
 obtain⟨t23,l23,rfl,h23⟩:=zab h22
 obtain⟨t24,l24,rfl,h24⟩:=zab h23
 obtain⟨t25,l25,rfl,h25⟩:=zab h24
 obtain⟨t26,l26,rfl,h26⟩:=zab h25
 obtain⟨t27,l27,rfl,h27⟩:=zab h26
 obtain⟨t28,l28,rfl,h28⟩:=zab h27
 obtain⟨t29,l29,rfl,h29⟩:=zab h28
 obtain⟨t30,l30,rfl,h30⟩:=zab h29
 obtain⟨t31,l31,rfl,h31⟩:=zab h30
 obtain⟨t32,l32,rfl,h32⟩:=zab h31
 obtain⟨t33,l33,rfl,h33⟩:=zab h32
 obtain⟨t34,l34,rfl,h34⟩:=zab h33
 obtain⟨t35,l35,rfl,h35⟩:=zab h34
 obtain⟨t36,l36,rfl,h36⟩:=zab h35
 obtain⟨t37,l37,rfl,h37⟩:=zab h36
 obtain⟨t38,l38,rfl,h38⟩:=zab h37
 obtain⟨t39,l39,rfl,h39⟩:=zab h38
 obtain⟨t40,l40,rfl,h40⟩:=zab h39
 obtain⟨t41,l41,rfl,h41⟩:=zab h40
 obtain⟨t42,l42,rfl,h42⟩:=zab h41
 obtain⟨t43,l43,rfl,h43⟩:=zab h42
 obtain⟨t44,l44,rfl,h44⟩:=zab h43
 obtain⟨t45,l45,rfl,h45⟩:=zab h44
 obtain⟨t46,l46,rfl,h46⟩:=zab h45
 obtain⟨t47,l47,rfl,h47⟩:=zab h46
 obtain⟨t48,l48,rfl,h48⟩:=zab h47
 obtain⟨t49,l49,rfl,h49⟩:=zab h48
 obtain⟨t50,l50,rfl,h50⟩:=zab h49
 obtain⟨t51,l51,rfl,h51⟩:=zab h50
 obtain⟨t52,l52,rfl,h52⟩:=zab h51
 obtain⟨t53,l53,rfl,h53⟩:=zab h52
 obtain⟨t54,l54,rfl,h54⟩:=zab h53
 obtain⟨t55,l55,rfl,h55⟩:=zab h54
 obtain⟨t56,l56,rfl,h56⟩:=zab h55
 obtain⟨t57,l57,rfl,h57⟩:=zab h56
 obtain rfl:=List.eq_nil_of_length_eq_zero h57
 exact⟨t0,t1,t2,t3,t4,t5,t6,t7,t8,t9,t10,t11,t12,t13,t14,t15,t16,t17,t18,t19,t20,t21,t22,t23,t24,t25,t26,t27,t28,t29,t30,t31,t32,t33,t34,t35,t36,t37,t38,t39,t40,t41,t42,t43,t44,t45,t46,t47,t48,t49,t50,t51,t52,t53,t54,t55,t56,t57,rfl⟩
end Go.Eng
namespace Go.Proofs
open Go.Eng Go.RowKit Go.Shelf
noncomputable def Tryz.strPre:Code:=match Tryz.f122.body with|some (.seq a (.seq b (.seq c (.seq d (.seq e _)))))=>.seq a (.seq b (.seq c (.seq d e)))|_=>.skip
noncomputable def Tryz.strTail:Code:=match Tryz.f122.body with|some (.seq _ (.seq _ (.seq _ (.seq _ (.seq _ r)))))=>r|_=>.skip
theorem Tryz.hidS {p:Prop} (h:p):Hid p:=h
set_option maxHeartbeats 4000000 in
set_option maxRecDepth 100000 in
theorem Tryz.str_tail (neg:Bool) (ps:List (List UInt8)) (hne:ps.reverse.flatten≠[]) (hlen:ps.length≤20000) (htot:ps.flatten.length≤1000000)
  (b1 o1 b3 o3 c:Nat) (w:World) (hneg:w.cell? ⟨b1,o1,none⟩=some (.bool neg)) (hb1:b1<w.heap.size) (hb3:b3<w.heap.size)
  (hcells:∀j x,ps[j]?=some x→w.cell? ⟨b3,o3+j,none⟩=some (.string ⟨x.toArray⟩))
  (tm:Array Value) (hsz:tm.size=58) (h1:tm[1]?=some (.pointer (some ⟨b1,o1,none⟩))) (h3:tm[3]?=some (.slice (some ⟨b3,o3,none⟩) ps.length c)) :
  Tryz.strTail.wp Tryz.prog (fun e a w'=>e=.ret∧a.defers=[]∧a.tmps.getD 2 undef=.string ⟨((if neg then [45] else [])++ps.reverse.flatten).toArray⟩∧Below w.heap.size w w') ⟨tm,[]⟩ w:=by
 have HC:=Tryz.hidS hcells
 clear hcells
 obtain⟨t0,t1,t2,t3,t4,t5,t6,t7,t8,t9,t10,t11,t12,t13,t14,t15,t16,t17,t18,t19,t20,t21,t22,t23,t24,t25,t26,t27,t28,t29,t30,t31,t32,t33,t34,t35,t36,t37,t38,t39,t40,t41,t42,t43,t44,t45,t46,t47,t48,t49,t50,t51,t52,t53,t54,t55,t56,t57,rfl⟩:=zsY tm hsz
 simp only[List.getElem?_toArray,List.getElem?_cons_succ,List.getElem?_cons_zero,Option.some.injEq] at h1 h3
 subst h1
 subst h3
 clear hsz
 unfold Tryz.strTail
 simp only[Tryz.f122]
 have hF:Lib.IsBuilder 212 5 w.heap.size w.heap.size [] (w.alloc (.cells #[.pointer none,.slice none 0 0] 212)):=Lib.fresh_isBuilder 212 5 w
 have hB0:Below w.heap.size w (w.alloc (.cells #[.pointer none,.slice none 0 0] 212)):=(Below.refl w.heap.size w).alloc (Nat.le_refl _) _
 have HF:=Tryz.hidS hF
 have HB0:=Tryz.hidS hB0
 clear hF hB0
 obtain⟨pre,hpre⟩:∃pre:List UInt8,pre=if neg then [45] else []:=⟨_,rfl⟩
 have hprel:pre.length≤1:=by rw[hpre];split<;>simp
 rw[←hpre]
 have tail:∀(k:Nat),((ps.drop k).reverse.flatten).length≤1000000:=fun k=>by
  have e:=congrArg (fun l=>(List.flatten l).length) (List.take_append_drop k ps)
  simp only[List.flatten_append,List.length_append] at e
  have e2:((ps.drop k).reverse.flatten).length=((ps.drop k).flatten).length:=by
   simp only[List.length_flatten,List.map_reverse,List.sum_reverse]
  omega
 have HT:=Tryz.hidS tail
 clear tail
 cases neg
 case' false =>
  have e0:pre=[]:=by simpa using hpre
  have H1:=Tryz.hidS (show Lib.IsBuilder 212 5 w.heap.size w.heap.size (Lib.byteCells pre) (w.alloc (.cells #[.pointer none,.slice none 0 0] 212)) by rw[e0];exact HF.out)
  have HB1:=HB0
  go_wp2_with fail
 case' true =>
  have e0:pre=[45]:=by simpa using hpre
  go_wp2_with fail
  refine(Any.Builder_WriteByte Tryz.l167 Tryz.lX w.heap.size w.heap.size [] 45 _ HF.out (by simp) (by simp)).mono ?_
  rintro e w2 ⟨rfl,h2,hb2⟩
  have H1:=Tryz.hidS (show Lib.IsBuilder 212 5 w.heap.size w.heap.size (Lib.byteCells pre) w2 by rw[e0];exact Or.inr h2)
  have HB1:=Tryz.hidS (HB0.out.trans hb2)
  clear h2 hb2
  go_wp2_with fail
 all_goals (
  go_loopw [9] (fun i wr=>∃k:Nat,k≤ps.length∧i=.int .i64 ((k:Int)-1)∧Hid (Lib.IsBuilder 212 5 w.heap.size w.heap.size (Lib.byteCells (pre++(ps.drop k).reverse.flatten)) wr)∧Hid (Below w.heap.size w wr)) (fun i _=>(intOf i+1).toNat)
  case atStart=>exact⟨ps.length,Nat.le_refl _,rfl,by rw[List.drop_length];simpa using H1,HB1⟩
  case round =>
   obtain⟨k,hk,rfl,HB,HW⟩:=hrel
   by_cases hk0:k=0
   ·subst hk0
    have hd:(ps.drop 0)=ps:=List.drop_zero
    rw[hd] at HB
    go_wp2_with fail
    refine(Any.Builder_String { Tryz.l105 with } Tryz.lX w.heap.size w.heap.size (pre++ps.reverse.flatten) wr HB.out (fun q=>hne (List.append_eq_nil_iff.1 q).2)).mono ?_
    rintro e w3 ⟨rfl,hb3'⟩
    go_wp2_with fail
    exact HW.out.trans hb3'
   ·obtain⟨m,rfl⟩:∃m,k=m+1:=⟨k-1,by omega⟩
    have hm:m<ps.length:=by omega
    obtain⟨x,hx⟩:∃x,ps[m]?=some x:=⟨ps[m],List.getElem?_eq_getElem hm⟩
    have hc:=HC.out m x hx
    rw[←HW.out.cell (p:=⟨b3,o3+m,none⟩) hb3] at hc
    have hdrop:(ps.drop m).reverse.flatten=(ps.drop (m+1)).reverse.flatten++x:=by
     have e:ps.drop m=x::ps.drop (m+1):=by
      have:=List.drop_eq_getElem_cons hm
      rw[List.getElem?_eq_getElem hm] at hx
      cases hx;exact this
     rw[e];simp
    have hl:=HT.out m
    rw[hdrop,List.length_append] at hl
    have Hd:=Tryz.hidS hdrop
    have hBw:w.heap.size≤wr.heap.size:=HW.out.size
    have i1:((m+1:Nat):Int)-1=(m:Int):=by omega
    rw[i1]
    clear hdrop hx
    have hxs:(⟨x.toArray⟩:ByteArray).size=x.length:=rfl
    go_wp2_with fail
    refine(Any.Builder_WriteString { Tryz.l105 with } Tryz.lX w.heap.size w.heap.size _ ⟨x.toArray⟩ wr HB.out (by rw[Lib.byteCells_length,List.length_append,hxs];omega) hBw).mono ?_
    rintro e w2' ⟨rfl,h2',hb2'⟩
    have H2:=Tryz.hidS (show Lib.IsBuilder 212 5 w.heap.size w.heap.size (Lib.byteCells (pre++(ps.drop m).reverse.flatten)) w2' by
     rw[Hd.out,←List.append_assoc,Lib.byteCells_append]
     rw[Lib.strCells_eq] at h2'
     exact Or.inr h2')
    have Hb2:=Tryz.hidS (HW.out.trans hb2')
    clear h2' hb2'
    go_wp2_with fail
    exact⟨⟨m,by omega,rfl,H2,Hb2⟩,by simp[intOf]⟩)
end Go.Proofs
namespace Go.Eng
open Go.RowKit
variable {key:Nat→Option FuncId} {P:Program} {T:Tab}
def Hp.tw (t:Blk) (cs:List AV):Hp:=⟨fun k=>if k=0 then some { t with rw:=false } else if k=5 then some ⟨cs,false,0⟩ else none,6⟩
def Loc.tw (l:Loc) (a1:At):Loc:=fun k=>if k=5 then some a1 else if k≤4 then l k else none
theorem zlW {l l2:Loc} {i:Nat} (hi:i<powT.length) {v:Value} (r:Rel key l powT[i] v):Rel key l2 powT[i] v:=by
 have e:powT[i]=.i .u64 ((10^i:Nat):Int):=by
  simp only[powT];rw[List.getElem_map,List.getElem_range]
 rw[e] at r ⊢
 cases r;exact .i _ _
theorem zm8 {F F':Nat} {l:Loc} {h:Hp} {w:World} (S:Sim key F l h w) {t:Blk} {a0:At} (ht:h.m 0=some t) (hv:t.v=powT) (h0:l 0=some a0) {xs:List Nat} {a1:At}
  (hb:a1.b<w.heap.size∧a1.w=false∧xs.length≤a1.n∧∀i (hi:i<xs.length),w.cell? ⟨a1.b,a1.o+i,none⟩=some (.int .u32 ((xs[i]:Nat):Int))) :
  Sim key F' (Loc.tw l a1) (Hp.tw t (xs.map fun x:Nat=>.i .u32 (x:Int))) w:=by
 refine⟨fun k b a e1 e2=>?_,fun k b a k' b' a' e1 e2 e3=>?_,fun k a e=>?_,fun k a e=>?_,fun k hk=>?_⟩
 ·by_cases hk:k=0
  ·subst hk
   have e2:l 0=some a:=e2
   rw[h0] at e2
   cases e1;cases e2
   have H:=S.holds 0 t a0 ht h0
   refine⟨H.lt,H.len,fun i hi=>?_,H.scal,fun q=>(by cases q),fun q=>⟨rfl,(H.whole q).2⟩⟩
   obtain⟨v,c1,c2⟩:=H.cell i hi
   refine⟨v,c1,?_⟩
   have hi':i<powT.length:=by rw[←hv];exact hi
   have e:t.v[i]=powT[i]:=by simp only[hv]
   simp only at hi ⊢
   rw[e] at c2 ⊢
   exact zlW hi' c2
  ·by_cases hkn:k=5
   ·subst hkn
    cases e1;cases e2
    obtain⟨q1,q0,q2,q3⟩:=hb
    refine⟨q1,by simpa using q2,fun i hi=>?_,fun i hi=>?_,fun q=>(by cases q),fun q=>?_⟩
    ·simp only[List.length_map] at hi
     refine⟨_,q3 i hi,?_⟩
     simp only[List.getElem_map]
     exact .i _ _
    ·simp only[List.getElem_map];rfl
    ·rw[q0] at q;cases q
   ·simp only[Hp.tw,if_neg hk,if_neg hkn] at e1;cases e1
 ·simp only[Hp.tw] at e1
  split at e1
  ·cases e1;cases e3
  ·split at e1
   ·cases e1;cases e3
   ·cases e1
 ·simp only[Loc.tw] at e
  split at e
  ·cases e;exact hb.1
  ·split at e
   ·exact S.lt k a e
   ·cases e
 ·left
  show k<6
  simp only[Loc.tw] at e
  split at e
  ·omega
  ·split at e
   ·omega
   ·cases e
 ·have hk':6≤k:=hk
  simp only[Hp.tw]
  rw[if_neg (by omega),if_neg (by omega)]
theorem zrT {F:Nat} {l:Loc} {h:Hp} {w:World} (S:Sim key F l h w) {t:Blk} {a0:At} (ht:h.m 0=some t) (hv:t.v=powT) (h0:l 0=some a0) {neg:Bool} {wv:AV} {val:Value} {tx:List UInt8}
  (e:txtA [.ag [.b neg,wv]] h=some tx) (r:Rel key l wv val):∃cs a1 wv' v,(∀F',Sim key F' (Loc.tw l a1) (Hp.tw t cs) w)∧Rel key (Loc.tw l a1) wv' val∧wlen v≤512∧(neg=true→v≠0) ∧
   tx=decI (if neg then-(v:Int) else (v:Int))∧V (Hp.tw t cs) (fun _=>False) [] (D v) wv':=by
 have H0:=S.holds 0 t a0 ht h0
 have small:∀{wv':AV},Rel key (Loc.tw l ⟨a0.b,0,0,false⟩) wv' val→txtA [.ag [.b neg,wv']] (Hp.tw t [])=some tx→(∀m off len cap z,wv'=.sl m off len cap z→False) →
   ∃cs a1 wv' v,(∀F',Sim key F' (Loc.tw l a1) (Hp.tw t cs) w)∧Rel key (Loc.tw l a1) wv' val∧wlen v≤512∧(neg=true→v≠0) ∧
   tx=decI (if neg then-(v:Int) else (v:Int))∧V (Hp.tw t cs) (fun _=>False) [] (D v) wv':=fun {wv'} r1 e1 hs=>by
  obtain⟨v,v1,v2,v3,v4⟩:=zh5 e1 fun m off len cap z q=>(hs _ _ _ _ _ q).elim
  exact⟨[],⟨a0.b,0,0,false⟩,wv',v,fun F'=>zm8 (xs:=[]) S ht hv h0 ⟨H0.lt,rfl,Nat.le_refl _,fun i hi=>by simp at hi⟩,r1,v1,v2,v3,v4⟩
 cases r with
 | @sl n off len cap cap' z a ha q1 q2 q3 =>
   replace e:(if len=0 then wtx neg [] else if z=1 then ((h.rd n off len).bind wordsA).bind (wtx neg) else none)=some tx:=e
   split at e
   ·rename_i hl
    subst hl
    exact small (wv':=.e0) (.e0 _ _) e fun _ _ _ _ _ q=>by cases q
   ·rename_i hl
    split at e
    ·rename_i hz
     subst hz
     simp only[Option.bind_eq_some_iff] at e
     obtain⟨xs,⟨cs,e1,e2⟩,e3⟩:=e
     obtain⟨w1,w2⟩:=zea e2
     unfold Hp.rd at e1
     split at e1
     ·rename_i b hb
      split at e1
      ·rename_i hle
       cases e1
       have hxl:xs.length=len:=by
        have:=congrArg List.length w1
        simp at this;omega
       have hg:∀i (hi:i<xs.length),b.v[off+i]?=some (.i .u32 ((xs[i]:Nat):Int)):=fun i hi=>by
        have:((b.v.drop off).take len)[i]?=some (.i .u32 ((xs[i]:Nat):Int)):=by
         rw[w1,List.getElem?_map,List.getElem?_eq_getElem hi];rfl
        rw[List.getElem?_take,if_pos (by omega),List.getElem?_drop] at this
        exact this
       have H:=S.holds n b a hb ha
       let a1:At:=⟨a.b,a.o+off,a.n-off,false⟩
       have hsim:∀F',Sim key F' (Loc.tw l a1) (Hp.tw t (xs.map fun x:Nat=>.i .u32 (x:Int))) w:=fun F'=>zm8 S ht hv h0 ⟨H.lt,rfl,by show xs.length≤a.n-off;have:=H.len;omega,fun i hi=>by
        have h1:=hg i hi
        have hoi:off+i<b.v.length:=by omega
        obtain⟨v,c1,c2⟩:=H.cell (off+i) hoi
        rw[List.getElem?_eq_getElem hoi] at h1
        cases h1':b.v[off+i] with
        | i k m =>
         rw[h1'] at h1 c2
         cases h1
         cases c2
         show w.cell? ⟨a.b,a.o+off+i,none⟩=_
         rw[Nat.add_assoc];exact c1
        | _=>rw[h1'] at h1;cases h1⟩
       have hrel:Rel key (Loc.tw l a1) (.sl 5 0 len cap 1) (.slice (some ⟨a.b,a.o+off,none⟩) len cap'):=by
        have hl:Loc.tw l a1 5=some a1:=rfl
        have:=Rel.sl (key:=key) (off:=0) (len:=len) (cap:=cap) (cap':=cap') (z:=1) hl q1 (by show 0+cap'*1≤a.n-off;omega) q3
        exact this
       have htx:txtA [.ag [.b neg,.sl 5 0 len cap 1]] (Hp.tw t (xs.map fun x:Nat=>.i .u32 (x:Int)))=some tx:=by
        have hrd:(Hp.tw t (xs.map fun x:Nat=>AV.i .u32 (x:Int))).rd 5 0 len=some (xs.map fun x:Nat=>.i .u32 (x:Int)):=by
         simp only[Hp.rd,Hp.tw,if_neg (show (5:Nat)≠0 by decide),if_true]
         rw[if_pos (by simp;omega),List.drop_zero,List.take_of_length_le (by simp;omega)]
        show (if len=0 then wtx neg [] else if 1=1 then (((Hp.tw t (xs.map fun x:Nat=>AV.i .u32 (x:Int))).rd 5 0 len).bind wordsA).bind (wtx neg) else none)=_
        rw[if_neg hl,if_pos rfl,hrd,Option.bind_some,←w1,e2,Option.bind_some]
        exact e3
       obtain⟨v,v1,v2,v3,v4⟩:=zh5 htx fun m off' len' cap'' z q=>by cases q;exact q3
       exact⟨_,a1,_,v,hsim,hrel,v1,v2,v3,v4⟩
      ·cases e1
     ·cases e1
    ·cases e
 | sn=>exact small .sn e fun _ _ _ _ _ q=>by cases q
 | se b=>exact small (.se b) e fun _ _ _ _ _ q=>by cases q
 | e0 b c=>exact small (.e0 b c) e fun _ _ _ _ _ q=>by cases q
 | _=>simp[txtA] at e
end Go.Eng
namespace Go.Eng
open Go.RowKit
variable {key:Nat→Option FuncId} {P:Program} {T:Tab}
theorem zhY {fn:Func} (h:fn.results = #[.tmp 2]) (tmps:Array Value) (w:World):(results fn tmps).run P w=.ok (tmps.getD 2 undef) w:=by
 unfold results
 rw[h,Array.mapM_eq_mapM_toList]
 rfl
theorem zrE {l:Loc} {xs:List UInt8} {v:Value} (h:Rel key l (.s xs) v):v=.string ⟨xs.toArray⟩:=by
 generalize hx:AV.s xs=x at h
 cases h<;>cases hx
 rfl
theorem zp6 (v:Nat):dec v≠[]:=by
 unfold dec
 split
 ·simp
 ·rename_i h
  intro q
  have h1:=congrArg List.length q
  rw[zbQ] at h1
  have:=zbA v
  simp at h1
  rw[h1] at this
  simp at this;omega
theorem ziB {args:List AV} {h:Hp} {l:List UInt8} (e:txtA args h=some l):∃neg w,args=[.ag [.b neg,w]]:=by
 unfold txtA at e
 split at e
 ·exact⟨_,_,rfl⟩
 ·exact⟨_,_,rfl⟩
 ·exact⟨_,_,rfl⟩
 ·exact⟨_,_,rfl⟩
 ·cases e
theorem zpe (K1:ProgOk P key T E1.prog) (KE:PEnvOk E1) (hT0:∀g n,T.gkey g=some n→n≤4) {G:Nat} (hG:T.gkey G=some 0) {fn:Func} {g:Nat} (hfn:P.funcs[g]?=some fn) {pre tail:Code} (hbody:fn.body=some (graft pre tail)) (hpre:cCode P T pre=strA)
  (hnt:fn.ntmps=58) (hres:fn.results = #[.tmp 2])
  (htail:∀(neg:Bool) (ps:List (List UInt8)),ps.reverse.flatten≠[]→ps.length≤20000→ps.flatten.length≤1000000 →
   ∀(b1 o1 b3 o3 c:Nat) (w:World),w.cell? ⟨b1,o1,none⟩=some (.bool neg)→b1<w.heap.size→b3<w.heap.size →
   (∀j x,ps[j]?=some x→w.cell? ⟨b3,o3+j,none⟩=some (.string ⟨x.toArray⟩)) →
   ∀(tm:Array Value),tm.size=58→tm[1]?=some (.pointer (some ⟨b1,o1,none⟩))→tm[3]?=some (.slice (some ⟨b3,o3,none⟩) ps.length c) →
   tail.wp P (fun e a w'=>e=.ret∧a.defers=[]∧a.tmps.getD 2 undef=.string ⟨((if neg then [45] else [])++ps.reverse.flatten).toArray⟩∧Below w.heap.size w w') ⟨tm,[]⟩ w)
  {F:Nat} {args:List AV} {vs:Array Value} {h h':Hp} {v:AV} {l:Loc} {w:World} (e:orcA 33 args h=some (v,h')) (TO:TabOk key T l)
  (RL:RelL key l args vs.toList) (S:Sim key F l h w):Calls P g vs w fun e w'=>∃l' val,e=.returned val∧Ext l h w l' h' w'∧Sim key F l' h' w'∧Rel key l' v val:=by
 unfold orcA at e
 rw[if_pos rfl] at e
 split at e
 case isFalse=>cases e
 rename_i ht
 simp only[Option.map_eq_some_iff,Prod.mk.injEq] at e
 obtain⟨tx,e1,rfl,rfl⟩:=e
 obtain⟨t,t1,t2⟩:=ht
 obtain⟨m0,hl0⟩:=TO.g G 0 hG
 obtain⟨neg,wv,rfl⟩:=ziB e1
 have hvs:∃val,vs = #[.agg #[.bool neg,val]]∧Rel key l wv val:=by
  have hlen:=RL.1
  rcases vs with⟨vs⟩
  match vs,hlen with
  | [x],_ =>
   have r:=RL.2 0 (by simp) (by simp)
   simp only[List.getElem_cons_zero] at r
   cases r with
   | @ag _ ws hn hv =>
    rcases ws with⟨ws⟩
    match ws,hn with
    | [a,b],_ =>
     have r1:=hv 0 (by simp) (by simp)
     have r2:=hv 1 (by simp) (by simp)
     simp only[List.getElem_cons_zero,List.getElem_toArray,List.getElem_cons_succ] at r1 r2
     cases r1
     exact⟨b,rfl,r2⟩
 obtain⟨val,rfl,rv⟩:=hvs
 obtain⟨cs,a1,wv',z,hsim,rv',hz,hneg,htx,hV⟩:=zrT S t1 t2 hl0 e1 rv
 generalize hh0:Hp.tw t cs=h0 at hsim hV
 generalize hll:Loc.tw l a1=l0 at hsim rv'
 have hw0:h0.wf:=(hsim 0).wf
 have hT:HasT h0:=⟨{ t with rw:=false },by rw[←hh0];rfl,t2⟩
 have norw:∀k b,h0.m k=some b→b.rw=false:=fun k b q=>by
  rw[←hh0] at q
  simp only[Hp.tw] at q
  split at q
  ·cases q;rfl
  ·split at q
   ·cases q;rfl
   ·cases q
 have TO0:TabOk key T l0:=⟨TO.f,fun g' n' q=>by
  have hn:=hT0 g' n' q
  obtain⟨m,hm⟩:=TO.g g' n' q
  refine⟨m,?_⟩
  rw[←hll]
  simp only[Loc.tw]
  rw[if_neg (by omega),if_pos hn]
  exact hm⟩
 have RA:RelL key l0 [.ag [.b neg,wv']] [.agg #[.bool neg,val]]:=.cons ((RelL.cons (.b neg) (.cons rv' .nil)).ag) .nil
 have RF:RelF key l0 ([.ag [.b neg,wv']]++List.replicate 57 undefA) (#[.agg #[.bool neg,val]]++Array.replicate (fn.ntmps-(#[Value.agg #[.bool neg,val]]:Array Value).size) undef):=by
  rw[hnt]
  unfold RelF
  rw[Array.toList_append,Array.toList_replicate]
  exact RA.append ⟨by simp,fun i q1 q2=>by rw[List.getElem_replicate,List.getElem_replicate];exact zbr⟩
 have hbel:∀{l1 h1 w1},Ext l0 h0 w l1 h1 w1→Below w.heap.size w w1:=fun {l1 h1 w1} E =>
  ⟨E.os,E.tape,E.output,E.size,fun b hb=>E.frame b hb fun m blk a q1 q2=>by rw[norw m blk q1] at q2;cases q2⟩
 have hregs:(cCode P T pre).regsOk=true:=by rw[hpre];decide
 have goodCall:=zdt K1
 have final:Calls P g #[.agg #[.bool neg,val]] w fun e w'=>e=.returned (.string ⟨tx.toArray⟩)∧Below w.heap.size w w':=by
  refine calls_of_wp hfn hbody ?_
  by_cases hz0:z=0
  ·subst hz0
   have hnf:neg=false:=by
    cases neg
    ·rfl
    ·exact(hneg rfl rfl).elim
   subst hnf
   have htx':tx=[48]:=by rw[htx];rfl
   obtain⟨lf,fr',h1,ev,f2⟩:=zpb KE hw0 hT hV
   refine zhg (goodCall lf) K1.call (zca K1 lf) K1.mixed lf tail pre hregs TO0 RF (hsim h1.next) (Nat.le_refl _) (by rw[hpre];exact ev) fun l' a' w' E R' S' hd=>?_
   have r2:=RelF.get R' 2
   rw[f2] at r2
   refine⟨hd,_,zhY hres _ _,?_,hbel E⟩
   rw[htx']
   generalize a'.tmps.getD 2 undef=x at r2
   rw[zrE r2]
  ·obtain⟨lf,fr',h1,p0,m,len,cap,ps,ev,hlen,f1,⟨b0,hb0,hb0v⟩,f3,⟨b1,hb1,hb1v⟩,rfl,g1,g2,g3⟩:=zpc KE (neg:=neg) hw0 hT hz0 hz hV
   refine zhg (goodCall lf) K1.call (zca K1 lf) K1.mixed lf tail pre hregs TO0 RF (hsim h1.next) (Nat.le_refl _) (by rw[hpre];exact ev) fun l' a' w' E R' S' hd=>?_
   have r1:=RelF.get R' 1
   have r3:=RelF.get R' 3
   rw[f1] at r1
   rw[f3] at r3
   have hsz:a'.tmps.size=58:=by
    have:=R'.1
    simp at this;omega
   have gd:∀i,i<58→a'.tmps[i]?=some (a'.tmps.getD i undef):=fun i hi=>by
    rw[Array.getD_eq_getD_getElem?,Array.getElem?_eq_getElem (by omega)];rfl
   have gd1:=gd 1 (by omega)
   have gd3:=gd 3 (by omega)
   generalize a'.tmps.getD 1 undef=x1 at r1 gd1
   generalize a'.tmps.getD 3 undef=x3 at r3 gd3
   cases r1 with
   | @p _ _ a1' q1 =>
    cases r3 with
    | @sl _ _ _ _ cap' _ a3 q3 s1 s2 s3 =>
     have H0:=S'.holds _ _ _ hb0 q1
     have H3:=S'.holds _ _ _ hb1 q3
     have hneg':w'.cell? ⟨a1'.b,a1'.o+0,none⟩=some (.bool neg):=by
      have hl:0<b0.v.length:=by
       rcases Nat.eq_zero_or_pos b0.v.length with q|q
       ·rw[List.getElem?_eq_none (by omega)] at hb0v;cases hb0v
       ·exact q
      obtain⟨y,c1,c2⟩:=H0.cell 0 hl
      rw[List.getElem?_eq_getElem hl] at hb0v
      rw[Option.some.inj hb0v] at c2
      cases c2;exact c1
     have hcells:∀j x,ps[j]?=some x→w'.cell? ⟨a3.b,a3.o+0+j,none⟩=some (.string ⟨x.toArray⟩):=fun j x hx=>by
      have hj:j<ps.length:=by
       by_cases q:j<ps.length
       ·exact q
       ·rw[List.getElem?_eq_none (by omega)] at hx;cases hx
      have hj':j<b1.v.length:=by rw[hb1v];simpa using hj
      obtain⟨y,c1,c2⟩:=H3.cell j hj'
      have e:b1.v[j]=.s x:=by
       simp only[hb1v,List.getElem_map]
       rw[List.getElem?_eq_getElem hj] at hx
       rw[Option.some.inj hx]
      rw[e] at c2
      have hy:y=.string ⟨x.toArray⟩:=by
       generalize hs:AV.s x=ax at c2
       cases c2<;>cases hs
       rfl
      rw[Nat.add_zero,←hy];exact c1
     have hne:ps.reverse.flatten≠[]:=by rw[g3];exact zp6 z
     have htot:ps.flatten.length≤1000000:=by
      have h1:ps.flatten.length=ps.reverse.flatten.length:=by
       simp only[List.length_flatten,List.map_reverse,List.sum_reverse]
      rw[h1,g3]
      have h2:=zmu hz
      unfold dec
      rw[if_neg hz0,zbQ];omega
     have tl:=htail neg ps hne g2 htot a1'.b (a1'.o+0) a3.b (a3.o+0) cap' w' hneg' H0.lt H3.lt hcells a'.tmps hsz gd1 gd3
     have ha:a'=⟨a'.tmps,[]⟩:=by
      rcases a' with⟨tm,df⟩
      simp only at hd
      rw[hd]
     show tail.wp P (bodyPost P fn _) a' w'
     rw[ha]
     refine wp_mono tl ?_
     rintro e a2 w2 ⟨rfl,d2,v2,bl⟩
     refine⟨d2,_,zhY hres _ _,?_,(hbel E).trans ⟨bl.os,bl.tape,bl.output,bl.size,fun k hk=>bl.block k (Nat.lt_of_lt_of_le hk E.size)⟩⟩
     rw[v2,g3,htx]
     unfold decI
     cases neg
     ·simp only[Bool.false_eq_true,if_false]
      rw[if_neg (by omega)]
      simp
     ·simp only[if_true]
      rw[if_pos (by omega)]
      simp
 exact zbI S final (zff tx)
end Go.Eng
namespace Go.Eng
theorem zhR {f:Nat} {d:XD} (h:prog f=some d):some d∈progL:=by
 unfold prog at h
 cases h1:progL[f]? with
 | none=>rw[h1] at h;cases h
 | some x =>
  rw[h1] at h
  cases x with
  | none=>cases h
  | some y=>cases h;exact List.mem_of_getElem? h1
def dOkD:Option XD→Bool
 | some (.fn xf)=>xf.body.dOk xf.n
 | _=>true
theorem ziS:progL.all dOkD=true:=by kernel_rfl
def isO:Option XD→Bool
 | some (.orc _)=>true
 | _=>false
theorem zet {f:Nat} {o:List AV→Hp→Option (AV×Hp)} (h:prog f=some (.orc o)):o=orcA f∧(f=33∨f=50∨f=51∨f=130∨f=131∨f=222):=by
 have hf:isO (prog f)=true:=by rw[h];rfl
 have all:(List.range progL.length).all (fun f => !isO (prog f) || (f==33 || f==50 || f==51 || f==130 || f==131 || f==222))=true:=by kernel_rfl
 have hlt:f<progL.length:=by
  unfold prog at h
  by_cases q:f<progL.length
  ·exact q
  ·rw[List.getElem?_eq_none (by omega)] at h;cases h
 rw[List.all_eq_true] at all
 have:=all f (List.mem_range.2 hlt)
 rw[hf] at this
 simp only[Bool.not_true,Bool.false_or,Bool.or_eq_true,beq_iff_eq] at this
 have hc:f=33∨f=50∨f=51∨f=130∨f=131∨f=222:=by omega
 refine⟨?_,hc⟩
 rcases hc with rfl|rfl|rfl|rfl|rfl|rfl
 ·first|(have e:prog 33=some (.orc (orcA 33)):=rfl;rw[e] at h;cases h;rfl)|(have h':(none:Option XD)=some (.orc o):=h;cases h')
 ·first|(have e:prog 50=some (.orc (orcA 50)):=rfl;rw[e] at h;cases h;rfl)|(have h':(none:Option XD)=some (.orc o):=h;cases h')
 ·first|(have e:prog 51=some (.orc (orcA 51)):=rfl;rw[e] at h;cases h;rfl)|(have h':(none:Option XD)=some (.orc o):=h;cases h')
 ·first|(have e:prog 130=some (.orc (orcA 130)):=rfl;rw[e] at h;cases h;rfl)|(have h':(none:Option XD)=some (.orc o):=h;cases h')
 ·first|(have e:prog 131=some (.orc (orcA 131)):=rfl;rw[e] at h;cases h;rfl)|(have h':(none:Option XD)=some (.orc o):=h;cases h')
 ·first|(have e:prog 222=some (.orc (orcA 222)):=rfl;rw[e] at h;cases h;rfl)|(have h':(none:Option XD)=some (.orc o):=h;cases h')
theorem zc4 {f:Nat} {d:XD} (h:E1.prog f=some d):prog f=some d∧f≠33:=by
 have h2:(if f=33 then none else prog f)=some d:=h
 split at h2
 ·cases h2
 ·rename_i hf;exact⟨h2,hf⟩
theorem zvI {D:Nat→Prop} {hp:Hp} {a:AV} (hv:V hp D [] (.lst []) a):a=.sn∨a=.se∨a=.e0∨∃m off cap z,a=.sl m off 0 cap z:=by
 generalize hl:([]:List PV)=l at hv
 generalize hr:(PV.lst l)=v at hv
 cases hv with
 | lst cs e d hs hz0 hz hcap hc hv=>cases hr;subst hl;exact .inr (.inr (.inr ⟨_,_,_,_,rfl⟩))
 | lst0 m off cap z=>exact .inr (.inr (.inr ⟨_,_,_,_,rfl⟩))
 | lsn=>exact .inl rfl
 | lse=>exact .inr (.inl rfl)
 | le0=>exact .inr (.inr (.inl rfl))
 | junk _ hv _=>cases hr
 | _=>cases hr
theorem zk1 {pr:Nat→Option XD} (hpr:pr 211=prog 211) {xf:XF} (h:prog 211=some (.fn xf)) {D:Nat→Prop} {hp:Hp} {a:AV} (hv:V hp D [] (.lst []) a) (k:Nat):∃b,evF pr (k+1) 211 [a] hp=some (b,hp)∧V hp D [] (.lst []) b:=by
 simp only[evF,hpr]
 rcases zvI hv with rfl|rfl|rfl|⟨m,off,cap,z,rfl⟩
 all_goals first|exact⟨.sn,rfl,.lsn⟩|exact⟨.se,rfl,.lse⟩|(have h':(none:Option XD)=some (.fn xf):=h;cases h')
theorem zmM {pr:Nat→Option XD} (hpr:∀f≠33,pr f=prog f) (f:Nat) (xf:XF) (h:pr f=some (.fn xf)) (D:Nat→Prop) (hp:Hp) (args:List PV) (as_:List AV) (v:PV) (e:ovrP f args=some v) (hv:VL hp D [] args as_) (k:Nat):∃a,evF pr (k+1) f as_ hp=some (a,hp)∧V hp D [] v a:=by
 unfold ovrP at e
 split at e
 ·rename_i hf
  subst hf
  split at e
  ·cases e
   obtain⟨hl,hv⟩:=hv
   match as_,hl,hv with
   | [a],_,hv=>exact zk1 (hpr 211 (by decide)) ((hpr 211 (by decide)) ▸ h) (hv 0 (by simp) (by simp)) k
  ·cases e
 ·cases e
theorem KE0:PEnvOk E0 where
 ovr:=fun f xf h D hp args asq v e hv k=>zmM (fun _ _=>rfl) f xf h D hp args asq v e hv k
 fn:=fun f xf h=>by
  have:=ziS
  rw[List.all_eq_true] at this
  exact this _ (zhR (show prog f=_ from h))
 orc:=fun f o h Db r M hp args asv v M' e I hv=>by
  obtain⟨rfl,_⟩:=zet (show prog f=_ from h)
  exact zq3 rfl e I hv
theorem KE1:PEnvOk E1 where
 ovr:=fun f xf h D hp args asq v e hv k=>zmM (fun f hf=>if_neg hf) f xf h D hp args asq v e hv k
 fn:=fun f xf h=>by
  have:=ziS
  rw[List.all_eq_true] at this
  exact this _ (zhR (zc4 h).1)
 orc:=fun f o h Db r M hp args asv v M' e I hv=>by
  obtain⟨rfl,_⟩:=zet (zc4 h).1
  exact zq3 rfl e I hv
variable (P:Program) (T:Tab)
def AllOk:List (Option XD)→List (Option FuncId)→Prop
 | some (.fn xf)::ps,some g::ks=>(∃fn,P.funcs[g]?=some fn∧cFunc P T fn=some xf∧xf.body.regsOk=true)∧AllOk ps ks
 | _::ps,_::ks=>AllOk ps ks
 | _,_=>True
def AllCal:List (Option FuncId)→Prop
 | some g::ks=>(∃fn,P.funcs[g]?=some fn∧fn.body.isNone=false∧(fn.name == "runtime.NumGoroutine")=false)∧AllCal ks
 | none::ks=>AllCal ks
 | []=>True
variable {P T}
theorem zeE:∀{ps:List (Option XD)} {ks:List (Option FuncId)},AllOk P T ps ks→∀{f:Nat} {xf:XF} {g:FuncId},(ps[f]?).join=some (.fn xf)→(ks[f]?).join=some g→∃fn,P.funcs[g]?=some fn∧cFunc P T fn=some xf∧xf.body.regsOk=true
 | [],_,_,f,xf,g,h1,h2=>by simp at h1
 | p::ps,[],_,f,xf,g,h1,h2=>by simp at h2
 | p::ps,k::ks,h,0,xf,g,h1,h2=>by
  simp only[List.getElem?_cons_zero,Option.join_some] at h1 h2
  subst h1;subst h2
  exact h.1
 | p::ps,k::ks,h,f+1,xf,g,h1,h2=>by
  simp only[List.getElem?_cons_succ] at h1 h2
  refine zeE (ps:=ps) (ks:=ks) ?_ h1 h2
  match p,k,h with
  | some (.fn xf),some g,h=>exact h.2
  | some (.fn xf),none,h=>exact h
  | some (.orc _),_,h=>exact h
  | none,_,h=>exact h
theorem zgd:∀{ks:List (Option FuncId)},AllCal P ks→∀{f:Nat} {g:FuncId},(ks[f]?).join=some g→∃fn,P.funcs[g]?=some fn∧fn.body.isNone=false∧(fn.name == "runtime.NumGoroutine")=false
 | [],_,f,g,h=>by simp at h
 | k::ks,h,0,g,h1=>by
  simp only[List.getElem?_cons_zero,Option.join_some] at h1
  subst h1
  exact h.1
 | k::ks,h,f+1,g,h1=>by
  simp only[List.getElem?_cons_succ] at h1
  refine zgd (ks:=ks) ?_ h1
  match k,h with
  | some g,h=>exact h.2
  | none,h=>exact h
theorem zhn {f:Nat} {args:List AV} {h h':Hp} {v:AV} (e:orcA f args h=some (v,h')):HpOk h h':=by
 unfold orcA at e
 split at e
 ·split at e
  ·simp only[Option.map_eq_some_iff,Prod.mk.injEq] at e
   obtain⟨_,_,_,rfl⟩:=e
   exact .refl h
  ·cases e
 ·split at e
  ·cases e
  ·simp only[Option.map_eq_some_iff,Prod.mk.injEq] at e
   obtain⟨_,_,_,rfl⟩:=e
   exact .refl h
theorem zoT {keyL:List (Option FuncId)} {ρ:Go.Shelf.Ren} {G:Nat} (mixed:P.follows .mixedOrders=true) (hc:AllCal P keyL) (ha:AllOk P T progL keyL) (L:LibOk P ρ (fun f=>(keyL[f]?).join) T G) :
  ProgOk P (fun f=>(keyL[f]?).join) T E1.prog where
 mixed:=mixed
 call:=fun f g h=>zgd hc h
 fn:=fun f xf g h1 h2=>zeE ha (zc4 h1).1 h2
 good:=fun f o args h v h' h1 e=>by
  obtain⟨rfl,_⟩:=zet (zc4 h1).1
  exact zhn e
 orc:=fun f o g h1 hk F args vs h h' v l w e hF TO RL S=>by
  obtain⟨rfl,_⟩:=zet (zc4 h1).1
  exact zju L hk (zc4 h1).2 e TO RL S
theorem zoS {keyL:List (Option FuncId)} {ρ:Go.Shelf.Ren} {G:Nat} (mixed:P.follows .mixedOrders=true) (hc:AllCal P keyL) (ha:AllOk P T progL keyL) (L:LibOk P ρ (fun f=>(keyL[f]?).join) T G)
  (str:∀{g:Nat},(keyL[33]?).join=some g→∀{F:Nat} {args:List AV} {vs:Array Value} {h h':Hp} {v:AV} {l:Loc} {w:World},orcA 33 args h=some (v,h')→TabOk (fun f=>(keyL[f]?).join) T l →
   RelL (fun f=>(keyL[f]?).join) l args vs.toList→Sim (fun f=>(keyL[f]?).join) F l h w→Calls P g vs w fun e w'=>∃l' val,e=.returned val∧Ext l h w l' h' w'∧Sim (fun f=>(keyL[f]?).join) F l' h' w'∧Rel (fun f=>(keyL[f]?).join) l' v val) :
  ProgOk P (fun f=>(keyL[f]?).join) T E0.prog where
 mixed:=mixed
 call:=fun f g h=>zgd hc h
 fn:=fun f xf g h1 h2=>zeE ha (show prog f=_ from h1) h2
 good:=fun f o args h v h' h1 e=>by
  obtain⟨rfl,_⟩:=zet (show prog f=_ from h1)
  exact zhn e
 orc:=fun f o g h1 hk F args vs h h' v l w e hF TO RL S=>by
  obtain⟨rfl,hf⟩:=zet (show prog f=_ from h1)
  by_cases h33:f=33
  ·subst h33
   exact str hk e TO RL S
  ·exact zju L hk h33 e TO RL S
end Go.Eng
namespace Go.Proofs
open Go.Eng
def Tryz.keyL:List (Option FuncId):=[none,none,none,none,none,none,none,none,some 34,some 31,none,some 36,none,none,none,none,some 63,some 35,some 86,some 77,some 87,some 88,some 90,some 53,some 80,none,none,none,none,some 91,some 14,some 92,none,some 122,some 51,some 138,some 109,some 132,some 52,some 105,some 111,some 62,some 112,some 50,some 25,none,none,none,some 155,some 136,some 156,some 157,none,none,none,some 172,some 173,some 174,some 150,some 110,some 120,some 121,some 151,some 75,some 76,none,none,none,none,none,none,none,none,none,none,none,some 195,some 176,some 153,some 154,some 54,none,none,none,none,some 185,none,none,none,none,none,none,none,none,none,none,none,none,none,none,none,none,none,none,none,none,none,some 79,none,none,some 78,none,none,none,some 58,none,none,none,some 114,some 60,some 131,none,none,some 129,some 119,some 130,none,some 137,some 73,some 133,some 134,some 135,some 113,some 116,some 117,some 118,some 161,some 162,none,none,none,none,none,none,none,none,none,some 152,some 183,some 184,none,none,none,none,none,none,none,none,none,some 201,none,none,none,none,none,none,none,none,none,none,none,none,none,none,none,none,none,none,none,some 71,some 48,none,some 72,none,none,some 24,none,some 22,none,none,none,none,none,none,none,none,none,none,none,none,some 93,none,none,none,none,none,none,none,none,none,none,none,none,none,none,none,none,none,none,none,none,none,none,none,none,none,none,none,none,none,none,none,none,none,none,none,none,none,none,none,none,none,none,none,none,none,none,none,none,none,none,none,none,none,none,none,none,none,none,none,some 45,none,none,none,none,none,none,none,none,none,none,none,none,none,none,none,none,none,some 44,none,some 42,some 46,none,none,none,none,none,none,none,some 106,some 107,some 108,some 104,some 147,some 148,some 149,some 250,some 251,some 252,some 253,none,none,none,none,none,none,none,none,none,none,none,none,none,none,none,none,none,none,none,none,none,none,none,none,none,none,none,none,none,none,none,none,none,none,none,none,none,none,none,none,none,none,none,none,none,some 94,none,none,none,none,none,none,none,none,none,none,none,none,none,none,none,none,some 139,some 140,some 141,some 142,none,none,none,none,none,none,none,none,none,none,none,some 95,some 96,some 97,none,some 144,none,none,none,some 143,some 145,some 175,none,none,none,none,none,none,some 9,some 10,some 11,none,none,some 15,some 16,none,none,none,none,some 26,none,some 29,none,some 32,some 33,some 37,some 38,none,some 43,some 47,some 49,none,none,none,none,some 82,none,none,none,some 89,none,none,none,none,none,none,none,none,none,none,none,none,none,none,none,none,none,none,none,none,none,none,none,none,none,none,none,none,none,none,none,none,none,none,none,none,none,none,none,none,none,none,none,none,none,none,none,none,none,none,none,none,none,none,none,none,none,none,none,none,none,none,none,none,none,none,none,none,none,none,none,none,none,none,none,none,none,none,none,none,none,none,none,none,none,none,none,none,none,none,none,none,none,none]
def Tryz.fkeyL:List (Option Nat):=[none,none,none,none,none,none,none,none,none,some 394,some 395,some 396,none,none,some 30,some 399,some 400,none,none,none,none,none,some 187,none,some 185,some 44,some 405,none,none,some 407,none,some 9,some 409,some 410,some 8,some 17,some 11,some 411,some 412,none,none,none,some 280,some 414,some 278,some 260,some 281,some 415,some 180,some 416,some 43,some 34,some 38,some 23,some 80,none,none,none,some 114,none,some 119,none,some 41,some 16,none,none,none,none,none,none,none,some 179,some 182,some 128,none,some 63,some 64,some 19,some 110,some 107,some 24,none,some 421,none,none,none,some 18,some 20,some 21,some 425,some 22,some 29,some 31,some 200,some 345,some 377,some 378,some 379,none,none,none,none,none,none,some 292,some 39,some 289,some 290,some 291,some 36,some 59,some 40,some 42,some 132,some 118,none,some 133,some 134,some 135,some 124,some 60,some 61,some 33,none,none,none,none,none,none,some 123,some 125,some 120,some 37,some 129,some 130,some 131,some 49,some 127,some 35,some 362,some 363,some 364,some 365,some 385,some 381,some 386,none,some 293,some 294,some 295,some 58,some 62,some 147,some 78,some 79,some 48,some 50,some 51,none,none,none,some 136,some 137,none,none,none,none,none,none,none,none,none,some 55,some 56,some 57,some 387,some 77,none,none,none,none,none,none,some 148,some 149,some 85,none,none,none,none,none,none,none,none,none,some 76,none,none,none,none,none,some 159,none,none,none,none,none,none,none,none,none,none,none,none,none,none,none,none,none,none,none,none,none,none,none,none,none,none,none,none,none,none,none,none,none,none,none,none,none,none,none,none,none,none,none,none,none,none,none,none,some 296,some 297,some 298,some 299]
def Tryz.T:Tab:={ fkey:=fun f=>(Tryz.fkeyL[f]?).join,gkey:=fun g=>if g=8 then some 0 else if g=0 then some 1 else if g=1 then some 2 else if g=2 then some 3 else if g=3 then some 4 else none }
abbrev OkC (p:Program) (n:Nat):Prop:=∃fn,p.funcs[n]?=some fn∧fn.body.isNone=false∧(fn.name == "runtime.NumGoroutine")=false
abbrev OkF (p:Program) (T:Tab) (n:Nat) (x:XF):Prop:=∃fn,p.funcs[n]?=some fn∧cFunc p T fn=some x∧x.body.regsOk=true
theorem Tryz.okc8:OkC Tryz.prog 34:=⟨_,Tryz.func34,by kernel_rfl,by kernel_rfl⟩
theorem Tryz.okc9:OkC Tryz.prog 31:=⟨_,Tryz.func31,by kernel_rfl,by kernel_rfl⟩
theorem Tryz.okc11:OkC Tryz.prog 36:=⟨_,Tryz.func36,by kernel_rfl,by kernel_rfl⟩
theorem Tryz.okc16:OkC Tryz.prog 63:=⟨_,Tryz.func63,by kernel_rfl,by kernel_rfl⟩
theorem Tryz.okc17:OkC Tryz.prog 35:=⟨_,Tryz.func35,by kernel_rfl,by kernel_rfl⟩
theorem Tryz.okc18:OkC Tryz.prog 86:=⟨_,Tryz.func86,by kernel_rfl,by kernel_rfl⟩
theorem Tryz.okc19:OkC Tryz.prog 77:=⟨_,Tryz.func77,by kernel_rfl,by kernel_rfl⟩
theorem Tryz.okc20:OkC Tryz.prog 87:=⟨_,Tryz.func87,by kernel_rfl,by kernel_rfl⟩
theorem Tryz.okc21:OkC Tryz.prog 88:=⟨_,Tryz.func88,by kernel_rfl,by kernel_rfl⟩
theorem Tryz.okc22:OkC Tryz.prog 90:=⟨_,Tryz.func90,by kernel_rfl,by kernel_rfl⟩
theorem Tryz.okc23:OkC Tryz.prog 53:=⟨_,Tryz.func53,by kernel_rfl,by kernel_rfl⟩
theorem Tryz.okc24:OkC Tryz.prog 80:=⟨_,Tryz.func80,by kernel_rfl,by kernel_rfl⟩
theorem Tryz.okc29:OkC Tryz.prog 91:=⟨_,Tryz.func91,by kernel_rfl,by kernel_rfl⟩
theorem Tryz.okc30:OkC Tryz.prog 14:=⟨_,Tryz.func14,by kernel_rfl,by kernel_rfl⟩
theorem Tryz.okc31:OkC Tryz.prog 92:=⟨_,Tryz.func92,by kernel_rfl,by kernel_rfl⟩
theorem Tryz.okc33:OkC Tryz.prog 122:=⟨_,Tryz.func122,by kernel_rfl,by kernel_rfl⟩
theorem Tryz.okc34:OkC Tryz.prog 51:=⟨_,Tryz.func51,by kernel_rfl,by kernel_rfl⟩
theorem Tryz.okc35:OkC Tryz.prog 138:=⟨_,Tryz.func138,by kernel_rfl,by kernel_rfl⟩
theorem Tryz.okc36:OkC Tryz.prog 109:=⟨_,Tryz.func109,by kernel_rfl,by kernel_rfl⟩
theorem Tryz.okc37:OkC Tryz.prog 132:=⟨_,Tryz.func132,by kernel_rfl,by kernel_rfl⟩
theorem Tryz.okc38:OkC Tryz.prog 52:=⟨_,Tryz.func52,by kernel_rfl,by kernel_rfl⟩
theorem Tryz.okc39:OkC Tryz.prog 105:=⟨_,Tryz.func105,by kernel_rfl,by kernel_rfl⟩
theorem Tryz.okc40:OkC Tryz.prog 111:=⟨_,Tryz.func111,by kernel_rfl,by kernel_rfl⟩
theorem Tryz.okc41:OkC Tryz.prog 62:=⟨_,Tryz.func62,by kernel_rfl,by kernel_rfl⟩
theorem Tryz.okc42:OkC Tryz.prog 112:=⟨_,Tryz.func112,by kernel_rfl,by kernel_rfl⟩
theorem Tryz.okc43:OkC Tryz.prog 50:=⟨_,Tryz.func50,by kernel_rfl,by kernel_rfl⟩
theorem Tryz.okc44:OkC Tryz.prog 25:=⟨_,Tryz.func25,by kernel_rfl,by kernel_rfl⟩
theorem Tryz.okc48:OkC Tryz.prog 155:=⟨_,Tryz.func155,by kernel_rfl,by kernel_rfl⟩
theorem Tryz.okc49:OkC Tryz.prog 136:=⟨_,Tryz.func136,by kernel_rfl,by kernel_rfl⟩
theorem Tryz.okc50:OkC Tryz.prog 156:=⟨_,Tryz.func156,by kernel_rfl,by kernel_rfl⟩
theorem Tryz.okc51:OkC Tryz.prog 157:=⟨_,Tryz.func157,by kernel_rfl,by kernel_rfl⟩
theorem Tryz.okc55:OkC Tryz.prog 172:=⟨_,Tryz.func172,by kernel_rfl,by kernel_rfl⟩
theorem Tryz.okc56:OkC Tryz.prog 173:=⟨_,Tryz.func173,by kernel_rfl,by kernel_rfl⟩
theorem Tryz.okc57:OkC Tryz.prog 174:=⟨_,Tryz.func174,by kernel_rfl,by kernel_rfl⟩
theorem Tryz.okc58:OkC Tryz.prog 150:=⟨_,Tryz.func150,by kernel_rfl,by kernel_rfl⟩
theorem Tryz.okc59:OkC Tryz.prog 110:=⟨_,Tryz.func110,by kernel_rfl,by kernel_rfl⟩
theorem Tryz.okc60:OkC Tryz.prog 120:=⟨_,Tryz.func120,by kernel_rfl,by kernel_rfl⟩
theorem Tryz.okc61:OkC Tryz.prog 121:=⟨_,Tryz.func121,by kernel_rfl,by kernel_rfl⟩
theorem Tryz.okc62:OkC Tryz.prog 151:=⟨_,Tryz.func151,by kernel_rfl,by kernel_rfl⟩
theorem Tryz.okc63:OkC Tryz.prog 75:=⟨_,Tryz.func75,by kernel_rfl,by kernel_rfl⟩
theorem Tryz.okc64:OkC Tryz.prog 76:=⟨_,Tryz.func76,by kernel_rfl,by kernel_rfl⟩
theorem Tryz.okc76:OkC Tryz.prog 195:=⟨_,Tryz.func195,by kernel_rfl,by kernel_rfl⟩
theorem Tryz.okc77:OkC Tryz.prog 176:=⟨_,Tryz.func176,by kernel_rfl,by kernel_rfl⟩
theorem Tryz.okc78:OkC Tryz.prog 153:=⟨_,Tryz.func153,by kernel_rfl,by kernel_rfl⟩
theorem Tryz.okc79:OkC Tryz.prog 154:=⟨_,Tryz.func154,by kernel_rfl,by kernel_rfl⟩
theorem Tryz.okc80:OkC Tryz.prog 54:=⟨_,Tryz.func54,by kernel_rfl,by kernel_rfl⟩
theorem Tryz.okc85:OkC Tryz.prog 185:=⟨_,Tryz.func185,by kernel_rfl,by kernel_rfl⟩
theorem Tryz.okc107:OkC Tryz.prog 79:=⟨_,Tryz.func79,by kernel_rfl,by kernel_rfl⟩
theorem Tryz.okc110:OkC Tryz.prog 78:=⟨_,Tryz.func78,by kernel_rfl,by kernel_rfl⟩
theorem Tryz.okc114:OkC Tryz.prog 58:=⟨_,Tryz.func58,by kernel_rfl,by kernel_rfl⟩
theorem Tryz.okc118:OkC Tryz.prog 114:=⟨_,Tryz.func114,by kernel_rfl,by kernel_rfl⟩
theorem Tryz.okc119:OkC Tryz.prog 60:=⟨_,Tryz.func60,by kernel_rfl,by kernel_rfl⟩
theorem Tryz.okc120:OkC Tryz.prog 131:=⟨_,Tryz.func131,by kernel_rfl,by kernel_rfl⟩
theorem Tryz.okc123:OkC Tryz.prog 129:=⟨_,Tryz.func129,by kernel_rfl,by kernel_rfl⟩
theorem Tryz.okc124:OkC Tryz.prog 119:=⟨_,Tryz.func119,by kernel_rfl,by kernel_rfl⟩
theorem Tryz.okc125:OkC Tryz.prog 130:=⟨_,Tryz.func130,by kernel_rfl,by kernel_rfl⟩
theorem Tryz.okc127:OkC Tryz.prog 137:=⟨_,Tryz.func137,by kernel_rfl,by kernel_rfl⟩
theorem Tryz.okc128:OkC Tryz.prog 73:=⟨_,Tryz.func73,by kernel_rfl,by kernel_rfl⟩
theorem Tryz.okc129:OkC Tryz.prog 133:=⟨_,Tryz.func133,by kernel_rfl,by kernel_rfl⟩
theorem Tryz.okc130:OkC Tryz.prog 134:=⟨_,Tryz.func134,by kernel_rfl,by kernel_rfl⟩
theorem Tryz.okc131:OkC Tryz.prog 135:=⟨_,Tryz.func135,by kernel_rfl,by kernel_rfl⟩
theorem Tryz.okc132:OkC Tryz.prog 113:=⟨_,Tryz.func113,by kernel_rfl,by kernel_rfl⟩
theorem Tryz.okc133:OkC Tryz.prog 116:=⟨_,Tryz.func116,by kernel_rfl,by kernel_rfl⟩
theorem Tryz.okc134:OkC Tryz.prog 117:=⟨_,Tryz.func117,by kernel_rfl,by kernel_rfl⟩
theorem Tryz.okc135:OkC Tryz.prog 118:=⟨_,Tryz.func118,by kernel_rfl,by kernel_rfl⟩
theorem Tryz.okc136:OkC Tryz.prog 161:=⟨_,Tryz.func161,by kernel_rfl,by kernel_rfl⟩
theorem Tryz.okc137:OkC Tryz.prog 162:=⟨_,Tryz.func162,by kernel_rfl,by kernel_rfl⟩
theorem Tryz.okc147:OkC Tryz.prog 152:=⟨_,Tryz.func152,by kernel_rfl,by kernel_rfl⟩
theorem Tryz.okc148:OkC Tryz.prog 183:=⟨_,Tryz.func183,by kernel_rfl,by kernel_rfl⟩
theorem Tryz.okc149:OkC Tryz.prog 184:=⟨_,Tryz.func184,by kernel_rfl,by kernel_rfl⟩
theorem Tryz.okc159:OkC Tryz.prog 201:=⟨_,Tryz.func201,by kernel_rfl,by kernel_rfl⟩
theorem Tryz.okc179:OkC Tryz.prog 71:=⟨_,Tryz.func71,by kernel_rfl,by kernel_rfl⟩
theorem Tryz.okc180:OkC Tryz.prog 48:=⟨_,Tryz.func48,by kernel_rfl,by kernel_rfl⟩
theorem Tryz.okc182:OkC Tryz.prog 72:=⟨_,Tryz.func72,by kernel_rfl,by kernel_rfl⟩
theorem Tryz.okc185:OkC Tryz.prog 24:=⟨_,Tryz.func24,by kernel_rfl,by kernel_rfl⟩
theorem Tryz.okc187:OkC Tryz.prog 22:=⟨_,Tryz.func22,by kernel_rfl,by kernel_rfl⟩
theorem Tryz.okc200:OkC Tryz.prog 93:=⟨_,Tryz.func93,by kernel_rfl,by kernel_rfl⟩
theorem Tryz.okc260:OkC Tryz.prog 45:=⟨_,Tryz.func45,by kernel_rfl,by kernel_rfl⟩
theorem Tryz.okc278:OkC Tryz.prog 44:=⟨_,Tryz.func44,by kernel_rfl,by kernel_rfl⟩
theorem Tryz.okc280:OkC Tryz.prog 42:=⟨_,Tryz.func42,by kernel_rfl,by kernel_rfl⟩
theorem Tryz.okc281:OkC Tryz.prog 46:=⟨_,Tryz.func46,by kernel_rfl,by kernel_rfl⟩
theorem Tryz.okc289:OkC Tryz.prog 106:=⟨_,Tryz.func106,by kernel_rfl,by kernel_rfl⟩
theorem Tryz.okc290:OkC Tryz.prog 107:=⟨_,Tryz.func107,by kernel_rfl,by kernel_rfl⟩
theorem Tryz.okc291:OkC Tryz.prog 108:=⟨_,Tryz.func108,by kernel_rfl,by kernel_rfl⟩
theorem Tryz.okc292:OkC Tryz.prog 104:=⟨_,Tryz.func104,by kernel_rfl,by kernel_rfl⟩
theorem Tryz.okc293:OkC Tryz.prog 147:=⟨_,Tryz.func147,by kernel_rfl,by kernel_rfl⟩
theorem Tryz.okc294:OkC Tryz.prog 148:=⟨_,Tryz.func148,by kernel_rfl,by kernel_rfl⟩
theorem Tryz.okc295:OkC Tryz.prog 149:=⟨_,Tryz.func149,by kernel_rfl,by kernel_rfl⟩
theorem Tryz.okc296:OkC Tryz.prog 250:=⟨_,Tryz.func250,by kernel_rfl,by kernel_rfl⟩
theorem Tryz.okc297:OkC Tryz.prog 251:=⟨_,Tryz.func251,by kernel_rfl,by kernel_rfl⟩
theorem Tryz.okc298:OkC Tryz.prog 252:=⟨_,Tryz.func252,by kernel_rfl,by kernel_rfl⟩
theorem Tryz.okc299:OkC Tryz.prog 253:=⟨_,Tryz.func253,by kernel_rfl,by kernel_rfl⟩
theorem Tryz.okc345:OkC Tryz.prog 94:=⟨_,Tryz.func94,by kernel_rfl,by kernel_rfl⟩
theorem Tryz.okc362:OkC Tryz.prog 139:=⟨_,Tryz.func139,by kernel_rfl,by kernel_rfl⟩
theorem Tryz.okc363:OkC Tryz.prog 140:=⟨_,Tryz.func140,by kernel_rfl,by kernel_rfl⟩
theorem Tryz.okc364:OkC Tryz.prog 141:=⟨_,Tryz.func141,by kernel_rfl,by kernel_rfl⟩
theorem Tryz.okc365:OkC Tryz.prog 142:=⟨_,Tryz.func142,by kernel_rfl,by kernel_rfl⟩
theorem Tryz.okc377:OkC Tryz.prog 95:=⟨_,Tryz.func95,by kernel_rfl,by kernel_rfl⟩
theorem Tryz.okc378:OkC Tryz.prog 96:=⟨_,Tryz.func96,by kernel_rfl,by kernel_rfl⟩
theorem Tryz.okc379:OkC Tryz.prog 97:=⟨_,Tryz.func97,by kernel_rfl,by kernel_rfl⟩
theorem Tryz.okc381:OkC Tryz.prog 144:=⟨_,Tryz.func144,by kernel_rfl,by kernel_rfl⟩
theorem Tryz.okc385:OkC Tryz.prog 143:=⟨_,Tryz.func143,by kernel_rfl,by kernel_rfl⟩
theorem Tryz.okc386:OkC Tryz.prog 145:=⟨_,Tryz.func145,by kernel_rfl,by kernel_rfl⟩
theorem Tryz.okc387:OkC Tryz.prog 175:=⟨_,Tryz.func175,by kernel_rfl,by kernel_rfl⟩
theorem Tryz.okc394:OkC Tryz.prog 9:=⟨_,Tryz.func9,by kernel_rfl,by kernel_rfl⟩
theorem Tryz.okc395:OkC Tryz.prog 10:=⟨_,Tryz.func10,by kernel_rfl,by kernel_rfl⟩
theorem Tryz.okc396:OkC Tryz.prog 11:=⟨_,Tryz.func11,by kernel_rfl,by kernel_rfl⟩
theorem Tryz.okc399:OkC Tryz.prog 15:=⟨_,Tryz.func15,by kernel_rfl,by kernel_rfl⟩
theorem Tryz.okc400:OkC Tryz.prog 16:=⟨_,Tryz.func16,by kernel_rfl,by kernel_rfl⟩
theorem Tryz.okc405:OkC Tryz.prog 26:=⟨_,Tryz.func26,by kernel_rfl,by kernel_rfl⟩
theorem Tryz.okc407:OkC Tryz.prog 29:=⟨_,Tryz.func29,by kernel_rfl,by kernel_rfl⟩
theorem Tryz.okc409:OkC Tryz.prog 32:=⟨_,Tryz.func32,by kernel_rfl,by kernel_rfl⟩
theorem Tryz.okc410:OkC Tryz.prog 33:=⟨_,Tryz.func33,by kernel_rfl,by kernel_rfl⟩
theorem Tryz.okc411:OkC Tryz.prog 37:=⟨_,Tryz.func37,by kernel_rfl,by kernel_rfl⟩
theorem Tryz.okc412:OkC Tryz.prog 38:=⟨_,Tryz.func38,by kernel_rfl,by kernel_rfl⟩
theorem Tryz.okc414:OkC Tryz.prog 43:=⟨_,Tryz.func43,by kernel_rfl,by kernel_rfl⟩
theorem Tryz.okc415:OkC Tryz.prog 47:=⟨_,Tryz.func47,by kernel_rfl,by kernel_rfl⟩
theorem Tryz.okc416:OkC Tryz.prog 49:=⟨_,Tryz.func49,by kernel_rfl,by kernel_rfl⟩
theorem Tryz.okc421:OkC Tryz.prog 82:=⟨_,Tryz.func82,by kernel_rfl,by kernel_rfl⟩
theorem Tryz.okc425:OkC Tryz.prog 89:=⟨_,Tryz.func89,by kernel_rfl,by kernel_rfl⟩
theorem Tryz.okf8:OkF Tryz.prog Tryz.T 34 zAi:=⟨_,Tryz.func34,by kernel_rfl,by kernel_rfl⟩
theorem Tryz.okf9:OkF Tryz.prog Tryz.T 31 zAe:=⟨_,Tryz.func31,by kernel_rfl,by kernel_rfl⟩
theorem Tryz.okf11:OkF Tryz.prog Tryz.T 36 zzf:=⟨_,Tryz.func36,by kernel_rfl,by kernel_rfl⟩
theorem Tryz.okf16:OkF Tryz.prog Tryz.T 63 zyr:=⟨_,Tryz.func63,by kernel_rfl,by kernel_rfl⟩
theorem Tryz.okf17:OkF Tryz.prog Tryz.T 35 zAw:=⟨_,Tryz.func35,by kernel_rfl,by kernel_rfl⟩
theorem Tryz.okf18:OkF Tryz.prog Tryz.T 86 zAm:=⟨_,Tryz.func86,by kernel_rfl,by kernel_rfl⟩
theorem Tryz.okf19:OkF Tryz.prog Tryz.T 77 zyt:=⟨_,Tryz.func77,by kernel_rfl,by kernel_rfl⟩
theorem Tryz.okf20:OkF Tryz.prog Tryz.T 87 zzG:=⟨_,Tryz.func87,by kernel_rfl,by kernel_rfl⟩
theorem Tryz.okf21:OkF Tryz.prog Tryz.T 88 zzV:=⟨_,Tryz.func88,by kernel_rfl,by kernel_rfl⟩
theorem Tryz.okf22:OkF Tryz.prog Tryz.T 90 zyJ:=⟨_,Tryz.func90,by kernel_rfl,by kernel_rfl⟩
theorem Tryz.okf23:OkF Tryz.prog Tryz.T 53 zAl:=⟨_,Tryz.func53,by kernel_rfl,by kernel_rfl⟩
theorem Tryz.okf24:OkF Tryz.prog Tryz.T 80 zyD:=⟨_,Tryz.func80,by kernel_rfl,by kernel_rfl⟩
theorem Tryz.okf29:OkF Tryz.prog Tryz.T 91 zAa:=⟨_,Tryz.func91,by kernel_rfl,by kernel_rfl⟩
theorem Tryz.okf30:OkF Tryz.prog Tryz.T 14 zy9:=⟨_,Tryz.func14,by kernel_rfl,by kernel_rfl⟩
theorem Tryz.okf31:OkF Tryz.prog Tryz.T 92 zzU:=⟨_,Tryz.func92,by kernel_rfl,by kernel_rfl⟩
theorem Tryz.okf34:OkF Tryz.prog Tryz.T 51 zzO:=⟨_,Tryz.func51,by kernel_rfl,by kernel_rfl⟩
theorem Tryz.okf35:OkF Tryz.prog Tryz.T 138 zyy:=⟨_,Tryz.func138,by kernel_rfl,by kernel_rfl⟩
theorem Tryz.okf36:OkF Tryz.prog Tryz.T 109 zzs:=⟨_,Tryz.func109,by kernel_rfl,by kernel_rfl⟩
theorem Tryz.okf37:OkF Tryz.prog Tryz.T 132 zzQ:=⟨_,Tryz.func132,by kernel_rfl,by kernel_rfl⟩
theorem Tryz.okf38:OkF Tryz.prog Tryz.T 52 zz9:=⟨_,Tryz.func52,by kernel_rfl,by kernel_rfl⟩
theorem Tryz.okf39:OkF Tryz.prog Tryz.T 105 zAq:=⟨_,Tryz.func105,by kernel_rfl,by kernel_rfl⟩
theorem Tryz.okf40:OkF Tryz.prog Tryz.T 111 zz7:=⟨_,Tryz.func111,by kernel_rfl,by kernel_rfl⟩
theorem Tryz.okf41:OkF Tryz.prog Tryz.T 62 zy8:=⟨_,Tryz.func62,by kernel_rfl,by kernel_rfl⟩
theorem Tryz.okf42:OkF Tryz.prog Tryz.T 112 zyz:=⟨_,Tryz.func112,by kernel_rfl,by kernel_rfl⟩
theorem Tryz.okf43:OkF Tryz.prog Tryz.T 50 zAj:=⟨_,Tryz.func50,by kernel_rfl,by kernel_rfl⟩
theorem Tryz.okf44:OkF Tryz.prog Tryz.T 25 zzo:=⟨_,Tryz.func25,by kernel_rfl,by kernel_rfl⟩
theorem Tryz.okf48:OkF Tryz.prog Tryz.T 155 zzi:=⟨_,Tryz.func155,by kernel_rfl,by kernel_rfl⟩
theorem Tryz.okf49:OkF Tryz.prog Tryz.T 136 zy3:=⟨_,Tryz.func136,by kernel_rfl,by kernel_rfl⟩
theorem Tryz.okf55:OkF Tryz.prog Tryz.T 172 zyw:=⟨_,Tryz.func172,by kernel_rfl,by kernel_rfl⟩
theorem Tryz.okf56:OkF Tryz.prog Tryz.T 173 zzc:=⟨_,Tryz.func173,by kernel_rfl,by kernel_rfl⟩
theorem Tryz.okf57:OkF Tryz.prog Tryz.T 174 zzL:=⟨_,Tryz.func174,by kernel_rfl,by kernel_rfl⟩
theorem Tryz.okf58:OkF Tryz.prog Tryz.T 150 zzb:=⟨_,Tryz.func150,by kernel_rfl,by kernel_rfl⟩
theorem Tryz.okf59:OkF Tryz.prog Tryz.T 110 zyN:=⟨_,Tryz.func110,by kernel_rfl,by kernel_rfl⟩
theorem Tryz.okf60:OkF Tryz.prog Tryz.T 120 zyQ:=⟨_,Tryz.func120,by kernel_rfl,by kernel_rfl⟩
theorem Tryz.okf61:OkF Tryz.prog Tryz.T 121 zyH:=⟨_,Tryz.func121,by kernel_rfl,by kernel_rfl⟩
theorem Tryz.okf62:OkF Tryz.prog Tryz.T 151 zyB:=⟨_,Tryz.func151,by kernel_rfl,by kernel_rfl⟩
theorem Tryz.okf63:OkF Tryz.prog Tryz.T 75 zyI:=⟨_,Tryz.func75,by kernel_rfl,by kernel_rfl⟩
theorem Tryz.okf64:OkF Tryz.prog Tryz.T 76 zyu:=⟨_,Tryz.func76,by kernel_rfl,by kernel_rfl⟩
theorem Tryz.okf76:OkF Tryz.prog Tryz.T 195 zyU:=⟨_,Tryz.func195,by kernel_rfl,by kernel_rfl⟩
theorem Tryz.okf77:OkF Tryz.prog Tryz.T 176 zy1:=⟨_,Tryz.func176,by kernel_rfl,by kernel_rfl⟩
theorem Tryz.okf78:OkF Tryz.prog Tryz.T 153 zy0:=⟨_,Tryz.func153,by kernel_rfl,by kernel_rfl⟩
theorem Tryz.okf79:OkF Tryz.prog Tryz.T 154 zyL:=⟨_,Tryz.func154,by kernel_rfl,by kernel_rfl⟩
theorem Tryz.okf80:OkF Tryz.prog Tryz.T 54 zys:=⟨_,Tryz.func54,by kernel_rfl,by kernel_rfl⟩
theorem Tryz.okf85:OkF Tryz.prog Tryz.T 185 zyo:=⟨_,Tryz.func185,by kernel_rfl,by kernel_rfl⟩
theorem Tryz.okf107:OkF Tryz.prog Tryz.T 79 zy7:=⟨_,Tryz.func79,by kernel_rfl,by kernel_rfl⟩
theorem Tryz.okf110:OkF Tryz.prog Tryz.T 78 zyP:=⟨_,Tryz.func78,by kernel_rfl,by kernel_rfl⟩
theorem Tryz.okf114:OkF Tryz.prog Tryz.T 58 zAJ:=⟨_,Tryz.func58,by kernel_rfl,by kernel_rfl⟩
theorem Tryz.okf118:OkF Tryz.prog Tryz.T 114 zzj:=⟨_,Tryz.func114,by kernel_rfl,by kernel_rfl⟩
theorem Tryz.okf119:OkF Tryz.prog Tryz.T 60 zAt:=⟨_,Tryz.func60,by kernel_rfl,by kernel_rfl⟩
theorem Tryz.okf120:OkF Tryz.prog Tryz.T 131 zAx:=⟨_,Tryz.func131,by kernel_rfl,by kernel_rfl⟩
theorem Tryz.okf123:OkF Tryz.prog Tryz.T 129 zAv:=⟨_,Tryz.func129,by kernel_rfl,by kernel_rfl⟩
theorem Tryz.okf124:OkF Tryz.prog Tryz.T 119 zzu:=⟨_,Tryz.func119,by kernel_rfl,by kernel_rfl⟩
theorem Tryz.okf125:OkF Tryz.prog Tryz.T 130 zAs:=⟨_,Tryz.func130,by kernel_rfl,by kernel_rfl⟩
theorem Tryz.okf127:OkF Tryz.prog Tryz.T 137 zzv:=⟨_,Tryz.func137,by kernel_rfl,by kernel_rfl⟩
theorem Tryz.okf128:OkF Tryz.prog Tryz.T 73 zzS:=⟨_,Tryz.func73,by kernel_rfl,by kernel_rfl⟩
theorem Tryz.okf129:OkF Tryz.prog Tryz.T 133 zyM:=⟨_,Tryz.func133,by kernel_rfl,by kernel_rfl⟩
theorem Tryz.okf132:OkF Tryz.prog Tryz.T 113 zzB:=⟨_,Tryz.func113,by kernel_rfl,by kernel_rfl⟩
theorem Tryz.okf133:OkF Tryz.prog Tryz.T 116 zAh:=⟨_,Tryz.func116,by kernel_rfl,by kernel_rfl⟩
theorem Tryz.okf134:OkF Tryz.prog Tryz.T 117 zze:=⟨_,Tryz.func117,by kernel_rfl,by kernel_rfl⟩
theorem Tryz.okf135:OkF Tryz.prog Tryz.T 118 zzM:=⟨_,Tryz.func118,by kernel_rfl,by kernel_rfl⟩
theorem Tryz.okf136:OkF Tryz.prog Tryz.T 161 zyK:=⟨_,Tryz.func161,by kernel_rfl,by kernel_rfl⟩
theorem Tryz.okf137:OkF Tryz.prog Tryz.T 162 zyq:=⟨_,Tryz.func162,by kernel_rfl,by kernel_rfl⟩
theorem Tryz.okf147:OkF Tryz.prog Tryz.T 152 zAM:=⟨_,Tryz.func152,by kernel_rfl,by kernel_rfl⟩
theorem Tryz.okf148:OkF Tryz.prog Tryz.T 183 zyV:=⟨_,Tryz.func183,by kernel_rfl,by kernel_rfl⟩
theorem Tryz.okf149:OkF Tryz.prog Tryz.T 184 zzW:=⟨_,Tryz.func184,by kernel_rfl,by kernel_rfl⟩
theorem Tryz.okf159:OkF Tryz.prog Tryz.T 201 zzA:=⟨_,Tryz.func201,by kernel_rfl,by kernel_rfl⟩
theorem Tryz.okf179:OkF Tryz.prog Tryz.T 71 zzC:=⟨_,Tryz.func71,by kernel_rfl,by kernel_rfl⟩
theorem Tryz.okf180:OkF Tryz.prog Tryz.T 48 zAc:=⟨_,Tryz.func48,by kernel_rfl,by kernel_rfl⟩
theorem Tryz.okf182:OkF Tryz.prog Tryz.T 72 zy4:=⟨_,Tryz.func72,by kernel_rfl,by kernel_rfl⟩
theorem Tryz.okf185:OkF Tryz.prog Tryz.T 24 zAL:=⟨_,Tryz.func24,by kernel_rfl,by kernel_rfl⟩
theorem Tryz.okf187:OkF Tryz.prog Tryz.T 22 zy5:=⟨_,Tryz.func22,by kernel_rfl,by kernel_rfl⟩
theorem Tryz.okf200:OkF Tryz.prog Tryz.T 93 zzq:=⟨_,Tryz.func93,by kernel_rfl,by kernel_rfl⟩
theorem Tryz.okf260:OkF Tryz.prog Tryz.T 45 zAp:=⟨_,Tryz.func45,by kernel_rfl,by kernel_rfl⟩
theorem Tryz.okf278:OkF Tryz.prog Tryz.T 44 zyC:=⟨_,Tryz.func44,by kernel_rfl,by kernel_rfl⟩
theorem Tryz.okf280:OkF Tryz.prog Tryz.T 42 zyv:=⟨_,Tryz.func42,by kernel_rfl,by kernel_rfl⟩
theorem Tryz.okf281:OkF Tryz.prog Tryz.T 46 zyx:=⟨_,Tryz.func46,by kernel_rfl,by kernel_rfl⟩
theorem Tryz.okf289:OkF Tryz.prog Tryz.T 106 zzP:=⟨_,Tryz.func106,by kernel_rfl,by kernel_rfl⟩
theorem Tryz.okf290:OkF Tryz.prog Tryz.T 107 zyE:=⟨_,Tryz.func107,by kernel_rfl,by kernel_rfl⟩
theorem Tryz.okf291:OkF Tryz.prog Tryz.T 108 zym:=⟨_,Tryz.func108,by kernel_rfl,by kernel_rfl⟩
theorem Tryz.okf292:OkF Tryz.prog Tryz.T 104 zy6:=⟨_,Tryz.func104,by kernel_rfl,by kernel_rfl⟩
theorem Tryz.okf293:OkF Tryz.prog Tryz.T 147 zzD:=⟨_,Tryz.func147,by kernel_rfl,by kernel_rfl⟩
theorem Tryz.okf294:OkF Tryz.prog Tryz.T 148 zza:=⟨_,Tryz.func148,by kernel_rfl,by kernel_rfl⟩
theorem Tryz.okf295:OkF Tryz.prog Tryz.T 149 zzr:=⟨_,Tryz.func149,by kernel_rfl,by kernel_rfl⟩
theorem Tryz.okf296:OkF Tryz.prog Tryz.T 250 zzz:=⟨_,Tryz.func250,by kernel_rfl,by kernel_rfl⟩
theorem Tryz.okf297:OkF Tryz.prog Tryz.T 251 zzn:=⟨_,Tryz.func251,by kernel_rfl,by kernel_rfl⟩
theorem Tryz.okf298:OkF Tryz.prog Tryz.T 252 zyX:=⟨_,Tryz.func252,by kernel_rfl,by kernel_rfl⟩
theorem Tryz.okf299:OkF Tryz.prog Tryz.T 253 zzR:=⟨_,Tryz.func253,by kernel_rfl,by kernel_rfl⟩
theorem Tryz.okf345:OkF Tryz.prog Tryz.T 94 zyn:=⟨_,Tryz.func94,by kernel_rfl,by kernel_rfl⟩
theorem Tryz.okf362:OkF Tryz.prog Tryz.T 139 zAn:=⟨_,Tryz.func139,by kernel_rfl,by kernel_rfl⟩
theorem Tryz.okf363:OkF Tryz.prog Tryz.T 140 zAk:=⟨_,Tryz.func140,by kernel_rfl,by kernel_rfl⟩
theorem Tryz.okf364:OkF Tryz.prog Tryz.T 141 zyZ:=⟨_,Tryz.func141,by kernel_rfl,by kernel_rfl⟩
theorem Tryz.okf365:OkF Tryz.prog Tryz.T 142 zz5:=⟨_,Tryz.func142,by kernel_rfl,by kernel_rfl⟩
theorem Tryz.okf377:OkF Tryz.prog Tryz.T 95 zAy:=⟨_,Tryz.func95,by kernel_rfl,by kernel_rfl⟩
theorem Tryz.okf378:OkF Tryz.prog Tryz.T 96 zAd:=⟨_,Tryz.func96,by kernel_rfl,by kernel_rfl⟩
theorem Tryz.okf379:OkF Tryz.prog Tryz.T 97 zAb:=⟨_,Tryz.func97,by kernel_rfl,by kernel_rfl⟩
theorem Tryz.okf381:OkF Tryz.prog Tryz.T 144 zyk:=⟨_,Tryz.func144,by kernel_rfl,by kernel_rfl⟩
theorem Tryz.okf385:OkF Tryz.prog Tryz.T 143 zyS:=⟨_,Tryz.func143,by kernel_rfl,by kernel_rfl⟩
theorem Tryz.okf386:OkF Tryz.prog Tryz.T 145 zyG:=⟨_,Tryz.func145,by kernel_rfl,by kernel_rfl⟩
theorem Tryz.okf387:OkF Tryz.prog Tryz.T 175 zyl:=⟨_,Tryz.func175,by kernel_rfl,by kernel_rfl⟩
theorem Tryz.okf394:OkF Tryz.prog Tryz.T 9 zyR:=⟨_,Tryz.func9,by kernel_rfl,by kernel_rfl⟩
theorem Tryz.okf395:OkF Tryz.prog Tryz.T 10 zz8:=⟨_,Tryz.func10,by kernel_rfl,by kernel_rfl⟩
theorem Tryz.okf396:OkF Tryz.prog Tryz.T 11 zyO:=⟨_,Tryz.func11,by kernel_rfl,by kernel_rfl⟩
theorem Tryz.okf399:OkF Tryz.prog Tryz.T 15 zzt:=⟨_,Tryz.func15,by kernel_rfl,by kernel_rfl⟩
theorem Tryz.okf400:OkF Tryz.prog Tryz.T 16 zzN:=⟨_,Tryz.func16,by kernel_rfl,by kernel_rfl⟩
theorem Tryz.okf405:OkF Tryz.prog Tryz.T 26 zAG:=⟨_,Tryz.func26,by kernel_rfl,by kernel_rfl⟩
theorem Tryz.okf407:OkF Tryz.prog Tryz.T 29 zyW:=⟨_,Tryz.func29,by kernel_rfl,by kernel_rfl⟩
theorem Tryz.okf409:OkF Tryz.prog Tryz.T 32 zyY:=⟨_,Tryz.func32,by kernel_rfl,by kernel_rfl⟩
theorem Tryz.okf410:OkF Tryz.prog Tryz.T 33 zzT:=⟨_,Tryz.func33,by kernel_rfl,by kernel_rfl⟩
theorem Tryz.okf411:OkF Tryz.prog Tryz.T 37 zAu:=⟨_,Tryz.func37,by kernel_rfl,by kernel_rfl⟩
theorem Tryz.okf412:OkF Tryz.prog Tryz.T 38 zyF:=⟨_,Tryz.func38,by kernel_rfl,by kernel_rfl⟩
theorem Tryz.okf414:OkF Tryz.prog Tryz.T 43 zzH:=⟨_,Tryz.func43,by kernel_rfl,by kernel_rfl⟩
theorem Tryz.okf415:OkF Tryz.prog Tryz.T 47 zzw:=⟨_,Tryz.func47,by kernel_rfl,by kernel_rfl⟩
theorem Tryz.okf416:OkF Tryz.prog Tryz.T 49 zzI:=⟨_,Tryz.func49,by kernel_rfl,by kernel_rfl⟩
theorem Tryz.okf421:OkF Tryz.prog Tryz.T 82 zzE:=⟨_,Tryz.func82,by kernel_rfl,by kernel_rfl⟩
theorem Tryz.okf425:OkF Tryz.prog Tryz.T 89 zzF:=⟨_,Tryz.func89,by kernel_rfl,by kernel_rfl⟩
theorem Tryz.allc:AllCal Tryz.prog Tryz.keyL:=⟨Tryz.okc8,Tryz.okc9,Tryz.okc11,Tryz.okc16,Tryz.okc17,Tryz.okc18,Tryz.okc19,Tryz.okc20,Tryz.okc21,Tryz.okc22,Tryz.okc23,Tryz.okc24,Tryz.okc29,Tryz.okc30,Tryz.okc31,Tryz.okc33,Tryz.okc34,Tryz.okc35,Tryz.okc36,Tryz.okc37,Tryz.okc38,Tryz.okc39,Tryz.okc40,Tryz.okc41,Tryz.okc42,Tryz.okc43,Tryz.okc44,Tryz.okc48,Tryz.okc49,Tryz.okc50,Tryz.okc51,Tryz.okc55,Tryz.okc56,Tryz.okc57,Tryz.okc58,Tryz.okc59,Tryz.okc60,Tryz.okc61,Tryz.okc62,Tryz.okc63,Tryz.okc64,Tryz.okc76,Tryz.okc77,Tryz.okc78,Tryz.okc79,Tryz.okc80,Tryz.okc85,Tryz.okc107,Tryz.okc110,Tryz.okc114,Tryz.okc118,Tryz.okc119,Tryz.okc120,Tryz.okc123,Tryz.okc124,Tryz.okc125,Tryz.okc127,Tryz.okc128,Tryz.okc129,Tryz.okc130,Tryz.okc131,Tryz.okc132,Tryz.okc133,Tryz.okc134,Tryz.okc135,Tryz.okc136,Tryz.okc137,Tryz.okc147,Tryz.okc148,Tryz.okc149,Tryz.okc159,Tryz.okc179,Tryz.okc180,Tryz.okc182,Tryz.okc185,Tryz.okc187,Tryz.okc200,Tryz.okc260,Tryz.okc278,Tryz.okc280,Tryz.okc281,Tryz.okc289,Tryz.okc290,Tryz.okc291,Tryz.okc292,Tryz.okc293,Tryz.okc294,Tryz.okc295,Tryz.okc296,Tryz.okc297,Tryz.okc298,Tryz.okc299,Tryz.okc345,Tryz.okc362,Tryz.okc363,Tryz.okc364,Tryz.okc365,Tryz.okc377,Tryz.okc378,Tryz.okc379,Tryz.okc381,Tryz.okc385,Tryz.okc386,Tryz.okc387,Tryz.okc394,Tryz.okc395,Tryz.okc396,Tryz.okc399,Tryz.okc400,Tryz.okc405,Tryz.okc407,Tryz.okc409,Tryz.okc410,Tryz.okc411,Tryz.okc412,Tryz.okc414,Tryz.okc415,Tryz.okc416,Tryz.okc421,Tryz.okc425,True.intro⟩
theorem Tryz.allf:AllOk Tryz.prog Tryz.T progL Tryz.keyL:=⟨Tryz.okf8,Tryz.okf9,Tryz.okf11,Tryz.okf16,Tryz.okf17,Tryz.okf18,Tryz.okf19,Tryz.okf20,Tryz.okf21,Tryz.okf22,Tryz.okf23,Tryz.okf24,Tryz.okf29,Tryz.okf30,Tryz.okf31,Tryz.okf34,Tryz.okf35,Tryz.okf36,Tryz.okf37,Tryz.okf38,Tryz.okf39,Tryz.okf40,Tryz.okf41,Tryz.okf42,Tryz.okf43,Tryz.okf44,Tryz.okf48,Tryz.okf49,Tryz.okf55,Tryz.okf56,Tryz.okf57,Tryz.okf58,Tryz.okf59,Tryz.okf60,Tryz.okf61,Tryz.okf62,Tryz.okf63,Tryz.okf64,Tryz.okf76,Tryz.okf77,Tryz.okf78,Tryz.okf79,Tryz.okf80,Tryz.okf85,Tryz.okf107,Tryz.okf110,Tryz.okf114,Tryz.okf118,Tryz.okf119,Tryz.okf120,Tryz.okf123,Tryz.okf124,Tryz.okf125,Tryz.okf127,Tryz.okf128,Tryz.okf129,Tryz.okf132,Tryz.okf133,Tryz.okf134,Tryz.okf135,Tryz.okf136,Tryz.okf137,Tryz.okf147,Tryz.okf148,Tryz.okf149,Tryz.okf159,Tryz.okf179,Tryz.okf180,Tryz.okf182,Tryz.okf185,Tryz.okf187,Tryz.okf200,Tryz.okf260,Tryz.okf278,Tryz.okf280,Tryz.okf281,Tryz.okf289,Tryz.okf290,Tryz.okf291,Tryz.okf292,Tryz.okf293,Tryz.okf294,Tryz.okf295,Tryz.okf296,Tryz.okf297,Tryz.okf298,Tryz.okf299,Tryz.okf345,Tryz.okf362,Tryz.okf363,Tryz.okf364,Tryz.okf365,Tryz.okf377,Tryz.okf378,Tryz.okf379,Tryz.okf381,Tryz.okf385,Tryz.okf386,Tryz.okf387,Tryz.okf394,Tryz.okf395,Tryz.okf396,Tryz.okf399,Tryz.okf400,Tryz.okf405,Tryz.okf407,Tryz.okf409,Tryz.okf410,Tryz.okf411,Tryz.okf412,Tryz.okf414,Tryz.okf415,Tryz.okf416,Tryz.okf421,Tryz.okf425,True.intro⟩
theorem Tryz.libok:LibOk Tryz.prog Tryz.lren (fun f=>(Tryz.keyL[f]?).join) Tryz.T 8 where
 l105:=Tryz.l105
 l171:=Tryz.l171
 lX:=Tryz.lX
 gname:=by kernel_rfl
 gkey:=rfl
 k50:=rfl
 k51:=rfl
 o130:=fun g h=>⟨Tryz.l160,by kernel_rfl,(Option.some.inj h).symm⟩
 o131:=fun g h=>⟨Tryz.l172,(Option.some.inj h).symm⟩
 o222:=fun g h=>by have h:(none:Option FuncId)=some g:=h;cases h
theorem Tryz.mixed:Tryz.prog.follows .mixedOrders=true:=by kernel_rfl
theorem Tryz.progok1:ProgOk Tryz.prog (fun f=>(Tryz.keyL[f]?).join) Tryz.T E1.prog:=zoT Tryz.mixed Tryz.allc Tryz.allf Tryz.libok
theorem Tryz.gk0:∀g n,Tryz.T.gkey g=some n→n≤4:=fun g n h=>by
 have h:(if g=8 then some 0 else if g=0 then some 1 else if g=1 then some 2 else if g=2 then some 3 else if g=3 then some 4 else none)=some n:=h
 repeat
  split at h
  ·cases h;decide
 cases h
theorem Tryz.progok:ProgOk Tryz.prog (fun f=>(Tryz.keyL[f]?).join) Tryz.T E0.prog:=zoS Tryz.mixed Tryz.allc Tryz.allf Tryz.libok fun {g} hk=>by
 obtain rfl:g=122:=(Option.some.inj hk).symm
 exact fun {_ _ _ _ _ _ _ _} e TO RL S=>zpe (pre:=Tryz.strPre) (tail:=Tryz.strTail) Tryz.progok1 KE1 Tryz.gk0 (G:=8) rfl Tryz.func122 rfl (by kernel_rfl) rfl rfl (fun neg ps h1 h2 h3 b1 o1 b3 o3 c w h4 h5 h6 h7 tm h8 h9 h10=>Tryz.str_tail neg ps h1 h2 h3 b1 o1 b3 o3 c w h4 h5 h6 h7 tm h8 h9 h10) e TO RL S
end Go.Proofs
namespace Go.Eng
open Go.RowKit
theorem tabIs_mem {P:Program} {W:World} {name:String} {k:IntKind} {zs:List Int} {g:Nat} {t e:TypeId} {n:Nat}
  (hg:P.globalNamed name=some g) (hty:(P.globals[g]?).map (·.type)=some t) (ht:P.underlying t=some (.array n e)) (he:P.underlying e=some (.int k)) (hce:P.cellsOf e=1) (hct:P.cellsOf t=n) :
  ∀{laid:List (String×DataW Unit)} {ps:List MemPlace},DataW.LaidVars P W laid ps→(name,Lib.tabData k zs)∈laid→Lib.TabIs P W name k zs
 | [],_,_,hm=>by cases hm
 | x::laid,ps,h,hm=>by
  obtain⟨g',t',cs,fuel,p,q,hg',ht',hvar,hd,h2,h3⟩:=h
  rcases List.mem_cons.1 hm with rfl|hm
  ·obtain rfl:=Option.some.inj (hg.symm.trans hg')
   obtain rfl:=Option.some.inj (hty.symm.trans ht')
   unfold Lib.TabIs
   rw[hvar,←Lib.cells_of_tab ht he hce hct hd]
  ·exact tabIs_mem hg hty ht he hce hct (by first|exact h2|exact h3|exact h3.1|exact h2.1) hm
def IsRow (k:IntKind) (w:World) (a:Option Addr) (len cap:Nat) (zs:List Int):Prop :=
 (a=none∧len=0∧cap=0∧zs=[]) ∨
 ∃x,a=some x∧len≤cap∧cap≤maxLen∧zs.length=cap∧(∀i,i<zs.length→w.cell? (x.add i)=some (.int k (zs.getD i 0)))∧∀n∈zs,(Lit.int k n).wf=true
def hpA (bs:List (List AV)):Hp:=⟨fun n=>if n≤4 then (globG n).map fun c=>⟨c,false,0⟩ else (bs[n-5]?).map fun c=>⟨c,false,0⟩,bs.length+5⟩
def locA (gs:Nat→Option At) (ats:List At):Loc:=fun n=>if n≤4 then gs n else ats[n-5]?
def InW (c:List AV) (a:At) (W:World):Prop :=
 a.b<W.heap.size∧a.w=false∧c.length≤a.n∧∀i (h:i<c.length),c[i].scal=true∧∃v,W.cell? ⟨a.b,a.o+i,none⟩=some v∧∀key l,Rel key l c[i] v
def GlobIn (key:Nat→Option FuncId) (W:World) (n:Nat) (a:At):Prop :=
 a.o=0∧∃c cs t fz,globG n=some c∧W.heap[a.b]?=some (.cells cs t fz)∧c.length≤a.n∧RelL key (fun _=>none) c cs.toList
theorem zjh:∀{n:Nat} {c:List AV},globG n=some c→c.all AV.scal=true
 | 0,c,h=>by cases h;rfl
 | 1,c,h=>by cases h;rfl
 | 2,c,h=>by cases h;rfl
 | 3,c,h=>by cases h;rfl
 | 4,c,h=>by cases h;rfl
 | n+5,c,h=>by cases h
theorem zig:∀{n:Nat} {c:List AV},globG n=some c→(c.map cst0).all PV.scal=true
 | 0,c,h=>by cases h;decide
 | 1,c,h=>by cases h;decide
 | 2,c,h=>by cases h;decide
 | 3,c,h=>by cases h;rfl
 | 4,c,h=>by cases h;rfl
 | n+5,c,h=>by cases h
theorem znJ:∀{n:Nat} {c:List AV},globG n=some c→n≤4
 | 0,c,h=>by omega
 | 1,c,h=>by omega
 | 2,c,h=>by omega
 | 3,c,h=>by omega
 | 4,c,h=>by omega
 | n+5,c,h=>by cases h
theorem zw3 {P:Program} {key:Nat→Option FuncId} {F:Nat} {W:World} {gs:Nat→Option At} (hgs:∀n a,n≤4→gs n=some a→GlobIn key W n a)
  {bs:List (List AV)} {ats:List At} (hl:ats.length=bs.length) (hin:∀(n:Nat) c a,bs[n]?=some c→ats[n]?=some a→InW c a W):Sim key F (locA gs ats) (hpA bs) W:=by
 have hlt:∀n a,n≤4→gs n=some a→a.b<W.heap.size:=fun n a hn hg=>by
  obtain⟨_,c,cs,t,fz,_,h2,_⟩:=hgs n a hn hg
  rcases Nat.lt_or_ge a.b W.heap.size with q|q
  ·exact q
  ·rw[Array.getElem?_eq_none q] at h2;cases h2
 have hout:∀n,bs.length≤n→ats[n]?=none:=fun n hn=>List.getElem?_eq_none (by omega)
 have norw:∀n blk,(hpA bs).m n=some blk→blk.rw=false:=fun n blk e=>by
  simp only[hpA] at e
  split at e<;>(simp only[Option.map_eq_some_iff] at e;obtain⟨c,_,rfl⟩:=e;rfl)
 refine⟨fun n blk a e1 e2=>?_,fun n blk a n' blk' a' e1 e2 e3=>?_,fun n a e=>?_,fun n a e=>?_,fun n hn=>?_⟩
 ·by_cases hn:n≤4
  ·simp only[hpA,if_pos hn,Option.map_eq_some_iff] at e1
   simp only[locA,if_pos hn] at e2
   obtain⟨c,c1,rfl⟩:=e1
   obtain⟨g1,c',cs,t,fz,g2,g3,g4,g5⟩:=hgs n a hn e2
   obtain rfl:=Option.some.inj (c1.symm.trans g2)
   have hsz:c.length=cs.size:=by simpa using g5.1
   refine⟨hlt n a hn e2,g4,fun i hi=>?_,fun i hi=>?_,fun q=>(by cases q),fun _=>⟨rfl,g1,cs,t,fz,g3,hsz.symm⟩⟩
   ·have hi:i<c.length:=hi
    have hi':i<cs.toList.length:=by simp;omega
    refine⟨cs.toList[i],?_,(g5.2 i hi hi').mono fun n a q=>by cases q⟩
    have hb:W.heap[a.b]?=some (.cells cs t fz):=g3
    simp only[World.cell?,hb,g1,Nat.zero_add]
    rw[Array.getElem_toList,Array.getElem?_eq_getElem (by omega)];rfl
   ·have:=zjh c1
    rw[List.all_eq_true] at this
    exact this _ (List.getElem_mem _)
  ·simp only[hpA,if_neg hn,Option.map_eq_some_iff] at e1
   simp only[locA,if_neg hn] at e2
   obtain⟨c,c1,rfl⟩:=e1
   obtain⟨q1,q2,q3,q4⟩:=hin _ c a c1 e2
   exact⟨q1,q3,fun i hi=>by obtain⟨_,v,v1,v2⟩:=q4 i hi;exact⟨v,v1,v2 key _⟩,fun i hi=>(q4 i hi).1,fun q=>(by cases q),fun q=>by rw[q2] at q;cases q⟩
 ·rw[norw n blk e1] at e3;cases e3
 ·by_cases hn:n≤4
  ·simp only[locA,if_pos hn] at e
   exact hlt n a hn e
  ·simp only[locA,if_neg hn] at e
   have hb:n-5<bs.length:=by
    rcases Nat.lt_or_ge (n-5) bs.length with q|q
    ·exact q
    ·rw[hout _ q] at e;cases e
   exact(hin _ _ a (List.getElem?_eq_getElem hb) e).1
 ·left
  show n<bs.length+5
  by_cases hn:n≤4
  ·omega
  ·simp only[locA,if_neg hn] at e
   rcases Nat.lt_or_ge (n-5) bs.length with q|q
   ·omega
   ·rw[hout _ q] at e;cases e
 ·have hn:bs.length+5≤n:=hn
  simp only[hpA]
  rw[if_neg (by omega),List.getElem?_eq_none (by omega)];rfl
theorem PInv.startG {bs:List (List AV)} (w:(hpA bs).wf):PInv globG (fun _=>False) [] [] (hpA bs):=by
 refine⟨rfl,fun i j m q=>by simp at q,fun m q=>by simp at q,w,fun n m q=>by simp at q,fun n b m q=>by simp at q,fun m d=>d.elim,fun g l q=>?_⟩
 refine⟨⟨l,false,0⟩,?_,⟨rfl,zig q⟩,fun d=>?_⟩
 ·simp only[hpA,if_pos (znJ q),q,Option.map_some]
 ·rcases d with d|d
  ·exact d
  ·exact zjL _ d
theorem glob_tab {P:Program} {key:Nat→Option FuncId} {W:World} {G:Nat} (hg:P.globalNamed "internal/strconv.uint64pow10" = some G) (ht:Lib.TabIs P W "internal/strconv.uint64pow10" .u64 Lib.pow10Tab):GlobIn key W 0 ⟨G,0,20,true⟩:=by
 have hb:∃cs t fz,W.heap[G]?=some (.cells cs t fz)∧cs=(Lib.pow10Tab.map fun z=>Value.int .u64 z).toArray:=by
  unfold Lib.TabIs World.var? at ht
  rw[hg] at ht
  simp only[Option.bind_some] at ht
  split at ht
  ·rename_i cs t fz hh
   cases ht
   exact⟨_,t,fz,hh,rfl⟩
  ·cases ht
 obtain⟨cs,t,fz,hh,rfl⟩:=hb
 refine⟨rfl,powT,_,t,fz,rfl,hh,Nat.le_refl _,by simp[Lib.pow10Tab,powT],fun i h1 h2=>?_⟩
 have hpl:powT.length=20:=rfl
 have hi':i<20:=by rw[←hpl];exact h1
 simp only[powT,List.getElem_map,List.getElem_range,Lib.pow10Tab]
 exact .i _ _
theorem law_calls {P:Program} {key:Nat→Option FuncId} {T:Tab} (K:ProgOk P key T E0.prog) (hTf:∀f k,T.fkey f=some k→key k=some f) {W:World} {gs:Nat→Option At} (hgs:∀n a,n≤4→gs n=some a→GlobIn key W n a)
  (hT:∀g n,T.gkey g=some n→n≤4∧∃m,gs n=some ⟨g,0,m,true⟩)
  {bs:List (List AV)} {ats:List At} (hl:ats.length=bs.length) (hin:∀(n:Nat) c a,bs[n]?=some c→ats[n]?=some a→InW c a W)
  {k g:Nat} (hk:key k=some g) (hpure:E0.pure k=true) {ps:List PV} (hfz:fzL (fz [] fzD) ps=some (ps,[])) (hpf:pf E0 k ps=some (.b true))
  {avs:List AV} {vs:Array Value} (hV:VL (hpA bs) (fun _=>False) [] ps avs) (hR:RelL key (locA gs ats) avs vs.toList) :
  Calls P g vs W fun e w'=>e=.returned (.bool true)∧Below W.heap.size W w':=by
 have hc:pcl E0 k ps []=some (.b true,roM [] []):=zhO hpure hfz hpf
 obtain⟨kk,hev⟩:=zez hc
 have hw:(hpA bs).wf:=(zw3 (P:=P) (key:=key) (F:=0) hgs hl hin).wf
 have I:PInv globG (fun _=>False) [] [] (hpA bs):=PInv.startG hw
 obtain⟨a,h',r',q1,q2,q3,q4⟩:=zhU KE0 kk _ _ _ _ _ _ _ _ _ hev I (VL.dd hV)
 have ha:a=.b true:=by cases q4;rfl
 subst ha
 have S:=zw3 (P:=P) (key:=key) (F:=h'.next) hgs hl hin
 have TO:TabOk key T (locA gs ats):=by
  refine⟨fun f k e=>?_,fun g n e=>?_⟩
  ·exact hTf f k e
  ·obtain⟨h4,m,hm⟩:=hT g n e
   exact⟨m,by simp only[locA,if_pos h4];exact hm⟩
 refine(zca K kk h'.next k g avs vs _ h' _ _ W q1 hk (Nat.le_refl _) TO hR S).mono ?_
 rintro e w' ⟨l',val,rfl,E,S',rv⟩
 cases rv
 refine⟨rfl,E.os,E.tape,E.output,E.size,fun b hb=>E.frame b hb fun m blk a e1 e2=>?_⟩
 exfalso
 simp only[hpA] at e1
 split at e1<;>(simp only[Option.map_eq_some_iff] at e1;obtain⟨c,c1,rfl⟩:=e1;cases e2)
theorem arg_row {k:IntKind} {W:World} (h0:0<W.heap.size) {a:Option Addr} {len cap:Nat} {zs:List Int} (h:IsRow k W a len cap zs) (n:Nat):∃(c:List AV) (at_:At) (av:AV),InW c at_ W ∧
  (∀key (l:Loc),l n=some at_→Rel key l av (.slice a len cap))∧(∀(h:Hp) (D:Nat→Prop),h.m n=some ⟨c,false,0⟩→¬D n→V h D [] (.lst ((zs.take len).map fun z=>.i k z)) av):=by
 have nilIn:InW [] ⟨0,0,0,false⟩ W:=⟨h0,rfl,Nat.le_refl _,fun i hi=>by simp at hi⟩
 rcases h with⟨rfl,rfl,rfl,rfl⟩|⟨x,rfl,hl,hm,hz,hcell,hwz⟩
 ·exact⟨[],⟨0,0,0,false⟩,.sn,nilIn,fun key l _=>.sn,fun h D _ _=>.lsn⟩
 ·by_cases hlen:len=0
  ·subst hlen
   exact⟨[],⟨0,0,0,false⟩,.e0,nilIn,fun key l _=>.e0 _ _,fun h D _ _=>.le0⟩
  ·obtain⟨b,off,spot⟩:=x
   have hc:=hcell 0 (by omega)
   have hspot:spot=none:=by simpa [Addr.add] using World.cell?_spot hc
   subst hspot
   have hlt:b<W.heap.size:=by
    rcases Nat.lt_or_ge b W.heap.size with q|q
    ·exact q
    ·rw[zb7] at hc
     simp[World.cell?,Array.getElem?_eq_none q] at hc
   have hget:∀i (hi:i<((zs.take len).map fun z=>AV.i k z).length),((zs.take len).map fun z=>AV.i k z)[i]=.i k (zs.getD i 0):=fun i hi=>by
    have hi':i<zs.length:=by simp at hi;omega
    simp only[List.getElem_map,List.getElem_take,List.getD]
    rw[List.getElem?_eq_getElem hi'];rfl
   refine⟨(zs.take len).map fun z=>.i k z,⟨b,off,cap,false⟩,.sl n 0 len cap 1,⟨hlt,rfl,by simp;omega,fun i hi=>?_⟩,fun key l hn=>?_,fun h D hb hD=>?_⟩
   ·rw[hget i hi]
    have hi':i<zs.length:=by simp at hi;omega
    have:=hcell i hi'
    rw[zb7] at this
    exact⟨rfl,_,this,fun key l=>.i _ _⟩
   ·have:=Rel.sl (key:=key) (off:=0) (len:=len) (cap:=cap) (cap':=cap) (z:=1) hn (Nat.le_refl _) (by show 0+cap*1≤cap;omega) hl
    exact this
   ·have hfl:flat ((zs.take len).map fun z=>PV.i k z)=(zs.take len).map fun z=>PV.i k z:=by
     generalize zs.take len=ys
     induction ys with
     | nil=>rfl
     | cons y ys ih=>rw[List.map_cons];show [PV.i k y]++flat _=_;rw[ih];rfl
    have hll:((zs.take len).map fun z=>PV.i k z).length=len:=by simp;omega
    have:=V.lst (h:=h) (D:=D) (r:=[]) (xs:=(zs.take len).map fun z=>PV.i k z) (m:=n) (off:=0) (cap:=cap) (z:=1) (fun i=>.i k (zs.getD i 0)) hb hD (by rw[hfl,List.all_eq_true];intro x hx;obtain⟨y,_,rfl⟩:=List.mem_map.1 hx;rfl) (by decide) (fun x hx=>by
     obtain⟨y,_,rfl⟩:=List.mem_map.1 hx;rfl) (by rw[hll];exact hl) (fun i hi=>by
     rw[hfl] at hi
     have hi2:i<((zs.take len).map fun z=>AV.i k z).length:=by simpa using hi
     rw[Nat.zero_add,List.getElem?_eq_getElem hi2,hget i hi2]) (fun i hi=>by
     have hi1:i<((zs.take len).map fun z=>PV.i k z).length:=by rw[hfl] at hi;exact hi
     have e:(flat ((zs.take len).map fun z=>PV.i k z))[i]=.i k (zs.getD i 0):=by
      simp only[hfl,List.getElem_map,List.getElem_take,List.getD]
      rw[List.getElem?_eq_getElem (by simp at hi1;omega)];rfl
     rw[e]
     exact .i _ _)
    rw[hll] at this
    exact this
theorem row_heap {P:Program} {W:World} {G:Nat} (hg:P.globalNamed "internal/strconv.uint64pow10" = some G) (ht:Lib.TabIs P W "internal/strconv.uint64pow10" .u64 Lib.pow10Tab):0<W.heap.size:=by
 unfold Lib.TabIs World.var? at ht
 rw[hg] at ht
 simp only[Option.bind_some] at ht
 split at ht
 ·rename_i cs t fz hh
  rcases Nat.eq_zero_or_pos W.heap.size with q|q
  ·rw[Array.getElem?_eq_none (by omega)] at hh;cases hh
  ·exact q
 ·cases ht
theorem ints_row {W:World} {a:Option Addr} {len cap:Nat} {zs:List Int} (h:IsRow .i64 W a len cap zs):Ints (zs.take len):=by
 rcases h with⟨rfl,rfl,rfl,rfl⟩|⟨x,rfl,hl,hm,hz,hcell,hwz⟩
 ·exact⟨by simp,fun n hn=>by simp at hn⟩
 ·refine⟨?_,fun n hn=>?_⟩
  ·have:maxLen≤9223372036854775807:=by decide
   simp;omega
  ·have:=bounds_i64 (hwz n (List.mem_of_mem_take hn))
   exact this
end Go.Eng
namespace Go.Eng
open Go.RowKit
theorem zhm {P:Program} {W:World} {name:String} {d:DataW Unit}:∀{laid:List (String×DataW Unit)} {ps:List MemPlace},DataW.LaidVars P W laid ps→(name,d)∈laid →
  ∃g t cs fuel p,P.globalNamed name=some g∧(P.globals[g]?).map (·.type)=some t∧W.var? P name=some cs∧DataW.trod (fun _=>()) P W 0 (fun _=>true) false fuel t cs.toList=some (d,p)
 | [],_,_,hm=>by cases hm
 | x::laid,ps,h,hm=>by
  obtain⟨g',t',cs,fuel,p,q,hg',ht',hvar,hd,h2,h3⟩:=h
  rcases List.mem_cons.1 hm with rfl|hm
  ·exact⟨g',t',cs,fuel,p,hg',ht',hvar,hd⟩
  ·exact zhm h2 hm
theorem zie {H:Type} {enc:TypeId×Value→H} {P:Program} {w:World} {base:Nat} {sp:Nat→Bool} {held:Bool} {fuel:Nat} {t e e2:TypeId} {n m:Nat} {k:IntKind} {cs:List Value} {zss:List (List Int)} {p:List MemPlace}
  (ht:P.underlying t=some (.array n e)) (he:P.underlying e=some (.array m e2)) (he2:P.underlying e2=some (.int k)) (c2:P.cellsOf e2=1) (ce:P.cellsOf e=m) (ct:P.cellsOf t=n*m)
  (h:DataW.trod enc P w base sp held fuel t cs=some (.agg (zss.map fun zs=>Lib.tabData k zs),p)):cs=zss.flatten.map fun z=>Value.int k z:=by
 cases fuel with
 | zero=>simp[DataW.trod] at h
 | succ fuel =>
  simp only[DataW.trod,ht,ce,ct] at h
  split at h
  ·rename_i hl
   obtain⟨xs,hm,hx⟩:=Option.map_eq_some_iff.1 h
   have hxs:xs.map (·.1)=zss.map fun zs=>(Lib.tabData k zs:DataW H):=by
    have:=congrArg Prod.fst hx
    simpa using this
   have hxl:xs.length=n:=by simpa using Lib.mapM_length hm
   have hzl:zss.length=n:=by
    have:=congrArg List.length hxs
    simp at this
    omega
   have part:∀i (hi:i<zss.length),(cs.drop (i*m)).take m=(zss[i]).map fun z=>Value.int k z:=fun i hi=>by
    have hin:i<n:=by omega
    obtain⟨b,hb,hf⟩:=Lib.mapM_at hm i i (by rw[List.getElem?_eq_getElem (by rw[List.length_range];exact hin),List.getElem_range])
    have h2:(xs.map (·.1))[i]?=some b.1:=by simp[hb]
    rw[hxs] at h2
    simp only[List.getElem?_map,List.getElem?_eq_getElem hi,Option.map_some,Option.some.injEq] at h2
    exact Lib.cells_of_tab (zs:=zss[i]) (p:=b.2) he he2 c2 ce (by rw[h2];exact hf)
   clear hm hx hxs h hxl
   have key:∀(zss:List (List Int)) (cs:List Value),cs.length=zss.length*m→(∀i (hi:i<zss.length),(cs.drop (i*m)).take m=(zss[i]).map fun z=>Value.int k z)→cs=zss.flatten.map fun z=>Value.int k z:=fun zss=>by
    induction zss with
    | nil=>intro cs hc _;simp at hc;simp[hc]
    | cons a l ih =>
     intro cs hc hp
     have h0:=hp 0 (by simp)
     rw[Nat.zero_mul,List.drop_zero] at h0
     have h1:=ih (cs.drop m) (by rw[List.length_drop,hc,List.length_cons,Nat.succ_mul];omega) fun i hi=>by
      have:=hp (i+1) (by simp;omega)
      rw[List.drop_drop,show m+i*m=(i+1)*m by rw[Nat.succ_mul];omega]
      simpa using this
     have h0:cs.take m=a.map fun z=>Value.int k z:=h0
     rw[List.flatten_cons,List.map_append,←h1,←h0,List.take_append_drop]
   exact key zss cs (by rw[hl,hzl]) part
  ·cases h
theorem znK {P:Program} {key:Nat→Option FuncId} {W:World} {G n:Nat} {name:String} {k:IntKind} {zs:List Int} (hg:P.globalNamed name=some G) (hn:globG n=some (zs.map fun z=>AV.i k z)) (hv:W.var? P name=some (zs.map fun z=>Value.int k z).toArray):GlobIn key W n ⟨G,0,zs.length,true⟩:=by
 have hb:∃cs t fz,W.heap[G]?=some (.cells cs t fz)∧cs=(zs.map fun z=>Value.int k z).toArray:=by
  unfold World.var? at hv
  rw[hg] at hv
  simp only[Option.bind_some] at hv
  split at hv
  ·rename_i cs t fz hh
   cases hv
   exact⟨_,t,fz,hh,rfl⟩
  ·cases hv
 obtain⟨cs,t,fz,hh,rfl⟩:=hb
 refine⟨rfl,_,_,t,fz,hn,hh,by simp,by simp,fun i h1 h2=>?_⟩
 simp only[List.getElem_map]
 exact .i _ _
theorem glob_arr2 {P:Program} {key:Nat→Option FuncId} {W:World} {laid:List (String×DataW Unit)} {ps:List MemPlace} {n g N m:Nat} {name:String} {t e e2:TypeId} {k:IntKind} {zss:List (List Int)} (hg:P.globalNamed name=some g) (hty:(P.globals[g]?).map (·.type)=some t)
  (ht:P.underlying t=some (.array N e)) (he:P.underlying e=some (.array m e2)) (he2:P.underlying e2=some (.int k)) (c2:P.cellsOf e2=1) (ce:P.cellsOf e=m) (ct:P.cellsOf t=N*m)
  (hn:globG n=some (zss.flatten.map fun z=>AV.i k z)) (hL:DataW.LaidVars P W laid ps) (hm:(name,DataW.agg (zss.map fun zs=>Lib.tabData k zs))∈laid):GlobIn key W n ⟨g,0,zss.flatten.length,true⟩:=by
 obtain⟨g',t',cs,fuel,p,h1,h2,h3,h4⟩:=zhm hL hm
 obtain rfl:=Option.some.inj (hg.symm.trans h1)
 obtain rfl:=Option.some.inj (hty.symm.trans h2)
 have hc:=zie ht he he2 c2 ce ct h4
 exact znK hg hn (by rw[h3,←hc])
def monoZ:List (List Int):=[[0,0,0],[1,0,0],[0,1,0],[0,0,1],[2,0,0],[1,1,0],[1,0,1],[0,2,0],[0,1,1],[0,0,2],[3,0,0],[2,1,0],[2,0,1],[1,2,0],[1,1,1],[1,0,2],[0,3,0],[0,2,1],[0,1,2],[0,0,3]]
def chooZ:List (List Int):=[[1,0,0,0],[1,1,0,0],[1,2,1,0],[1,3,3,1]]
theorem mono_glob:globG 1=some (monoZ.flatten.map fun z=>AV.i .i64 z):=rfl
theorem choo_glob:globG 2=some (chooZ.flatten.map fun z=>AV.i .i64 z):=rfl
end Go.Eng
namespace Go.Eng
open Go.RowKit
def isFnT (P:Program) (t:TypeId):Bool:=match P.underlying t with|some (.func ..)=>true|_=>false
theorem zkE {H:Type} {enc:TypeId×Value→H} {P:Program} {w:World} {base:Nat} {sp:Nat→Bool} {fuel:Nat} {t:TypeId} {v:Value} {x:H} {p:List MemPlace} (ht:isFnT P t=true) (h:DataW.trod enc P w base sp true fuel t [v]=some (.held x,p)) :
  ∃fn first captured,v=.func fn first captured∧enc (t,v)=x:=by
 unfold isFnT at ht
 split at ht
 ·rename_i hu
  cases fuel with
  | zero=>simp[DataW.trod] at h
  | succ fuel =>
   simp only[DataW.trod,hu] at h
   cases v with
   | func fn first captured =>
    simp only[if_true,Option.some.injEq,Prod.mk.injEq,DataW.held.injEq] at h
    exact⟨fn,first,captured,rfl,h.1⟩
   | _=>simp at h
 ·cases ht
theorem zh4 {P:Program} {t:TypeId} {fn:Fn} {first captured:Array Value} {b:UInt8} {r:List UInt8} (h:funcToken P (t,.func fn first captured)=b::r) :
  ∃f fc,fn=.func f∧first = #[]∧captured = #[]∧P.funcs[f]?=some fc∧fc.name.toUTF8.data.toList=b::r:=by
 cases fn with
 | func f =>
  simp only[funcToken] at h
  split at h
  ·rename_i he
   split at h
   ·rename_i fc hf
    split at h
    ·rw[Bool.and_eq_true] at he
     exact⟨f,fc,rfl,Array.isEmpty_iff.1 he.1,Array.isEmpty_iff.1 he.2,hf,h⟩
    ·cases h
   ·cases h
  ·cases h
 | _=>simp[funcToken] at h
def oneFn (P:Program) (name:List UInt8) (F:FuncId):Bool:=(List.range P.funcs.size).all fun i=>match P.funcs[i]? with|some fn => !(fn.name.toUTF8.data.toList==name) || i==F|none=>true
theorem zhs {P:Program} {name:List UInt8} {F f:FuncId} {fc:Func} (h:oneFn P name F=true) (hf:P.funcs[f]?=some fc) (hn:fc.name.toUTF8.data.toList=name):f=F:=by
 unfold oneFn at h
 rw[List.all_eq_true] at h
 have hlt:f<P.funcs.size:=by
  by_cases q:f<P.funcs.size
  ·exact q
  ·rw[Array.getElem?_eq_none (Nat.le_of_not_lt q)] at hf;cases hf
 have:=h f (List.mem_range.2 hlt)
 rw[hf] at this
 simp only[hn] at this
 simpa using this
theorem zln {P:Program} {key:Nat→Option FuncId} {W:World} {n g K1 K2:Nat} {F1 F2:FuncId} {name:String} {t:TypeId} {fs:Array Field} {fa fb:Field} {b1 b2:UInt8} {r1 r2:List UInt8} {d:DataW Unit}
  (hg:P.globalNamed name=some g) (hty:(P.globals[g]?).map (·.type)=some t) (ht:P.underlying t=some (.struct fs)) (hfs:fs.toList=[fa,fb]) (hoa:fa.offset=0) (hob:fb.offset=1)
  (hca:P.cellsOf fa.type=1) (hcb:P.cellsOf fb.type=1) (hct:P.cellsOf t=2) (hua:isFnT P fa.type=true) (hub:isFnT P fb.type=true) (h1:oneFn P (b1::r1) F1=true) (h2:oneFn P (b2::r2) F2=true)
  (k1:key K1=some F1) (k2:key K2=some F2) (hn:globG n=some [.fn K1 [],.fn K2 []]) (hd:d.funcsOut=.agg [.held (b1::r1),.held (b2::r2)]) (h:funcsAt P W name d):GlobIn key W n ⟨g,0,2,true⟩:=by
 obtain⟨g',t',cs,fuel,p,hg',ht',hvar,htr⟩:=h
 obtain rfl:=Option.some.inj (hg.symm.trans hg')
 obtain rfl:=Option.some.inj (hty.symm.trans ht')
 rw[hd] at htr
 cases fuel with
 | zero=>simp[DataW.trod] at htr
 | succ fuel =>
  simp only[DataW.trod,ht,hct] at htr
  split at htr
  ·rename_i hl
   obtain⟨v1,v2,hc⟩:∃v1 v2,cs.toList=[v1,v2]:=by
    generalize cs.toList=l at hl
    match l,hl with
    | [a,b],_=>exact⟨a,b,rfl⟩
   rw[hfs,hc] at htr
   obtain⟨xs,hm,hx⟩:=Option.map_eq_some_iff.1 htr
   simp only[List.mapM_cons,List.mapM_nil,hoa,hob,hca,hcb,List.drop_zero,List.take_succ_cons,List.take_zero,List.drop_succ_cons] at hm
   simp only[Option.bind_eq_bind,Option.bind_eq_some_iff,Option.pure_def,Option.some.injEq] at hm
   obtain⟨x1,e1,ys,⟨x2,e2,zs,rfl,rfl⟩,rfl⟩:=hm
   simp only[List.map_cons,List.map_nil,Prod.mk.injEq,DataW.agg.injEq,List.cons.injEq,and_true] at hx
   obtain⟨⟨y1,y2⟩,_⟩:=hx
   obtain⟨x1,p1⟩:=x1
   obtain⟨x2,p2⟩:=x2
   simp only at y1 y2
   subst y1 y2
   obtain⟨fn1,fi1,ca1,rfl,t1⟩:=zkE hua e1
   obtain⟨fn2,fi2,ca2,rfl,t2⟩:=zkE hub e2
   obtain⟨f1,fc1,rfl,rfl,rfl,m1,n1⟩:=zh4 t1
   obtain⟨f2,fc2,rfl,rfl,rfl,m2,n2⟩:=zh4 t2
   obtain rfl:=zhs h1 m1 n1
   obtain rfl:=zhs h2 m2 n2
   have hb:∃cs' t fz,W.heap[g]?=some (.cells cs' t fz)∧cs'=cs:=by
    unfold World.var? at hvar
    rw[hg] at hvar
    simp only[Option.bind_some] at hvar
    split at hvar
    ·rename_i cs' t fz hh
     cases hvar
     exact⟨_,t,fz,hh,rfl⟩
    ·cases hvar
   obtain⟨cs',t'',fz,hh,rfl⟩:=hb
   refine⟨rfl,_,_,t'',fz,hn,hh,Nat.le_refl _,?_⟩
   rw[hc]
   refine RelL.cons ?_ (RelL.cons ?_ .nil)
   ·exact .fn (vs:=[]) (ws := #[]) k1 rfl (fun i h=>by simp at h)
   ·exact .fn (vs:=[]) (ws := #[]) k2 rfl (fun i h=>by simp at h)
  ·cases htr
def fnTabB (P:Program) (g:Nat):Bool :=
 match (P.globals[g]?).map (·.type) with
 | some t =>
  match P.underlying t with
  | some (.struct fs) =>
   match fs.toList with
   | [fa,fb]=>fa.offset==0&&(fb.offset==1&&(P.cellsOf fa.type==1&&(P.cellsOf fb.type==1&&(P.cellsOf t==2&&(isFnT P fa.type&&isFnT P fb.type)))))
   | _=>false
  | _=>false
 | none=>false
theorem glob_fnsB {P:Program} {key:Nat→Option FuncId} {W:World} {n g K1 K2:Nat} {F1 F2:FuncId} {name:String} {b1 b2:UInt8} {r1 r2:List UInt8} {d:DataW Unit}
  (hg:P.globalNamed name=some g) (hB:fnTabB P g=true) (h1:oneFn P (b1::r1) F1=true) (h2:oneFn P (b2::r2) F2=true)
  (k1:key K1=some F1) (k2:key K2=some F2) (hn:globG n=some [.fn K1 [],.fn K2 []]) (hd:d.funcsOut=.agg [.held (b1::r1),.held (b2::r2)]) (h:funcsAt P W name d):GlobIn key W n ⟨g,0,2,true⟩:=by
 unfold fnTabB at hB
 split at hB
 ·rename_i t ht
  split at hB
  ·rename_i fs hu
   split at hB
   ·rename_i fa fb hfs
    simp only[Bool.and_eq_true,beq_iff_eq] at hB
    obtain⟨h3,h4,h5,h6,h7,h8,h9⟩:=hB
    exact zln hg ht hu hfs h3 h4 h5 h6 h7 h8 h9 h1 h2 k1 k2 hn hd h
   ·cases hB
  ·cases hB
 ·cases hB
noncomputable def witW (P:Program) (n:Nat) (os:Os) (data:List (String×DataW Unit)):World:=(World.doorLaid P n os).layVars P data
theorem laidH_wit {P:Program} {os:Os} {n fuel:Nat} {laid:List (String×DataW Unit)} (args:Array Value)
  (hf:(World.doorLaid P n os).layFits P (laid.filter fun x=>x.2.handleName?.isNone) []=true)
  (hi:(World.doorLaid P n os).layIfaces P (laid.filter fun x=>x.2.handleName?.isNone) (witW P n os (laid.filter fun x=>x.2.handleName?.isNone))=true)
  (hh:(laid.filter fun x=>x.2.handleName?.isSome&&x.2.funcsIn?.isNone).all (handleAtB P (witW P n os (laid.filter fun x=>x.2.handleName?.isNone)))=true)
  (hF:funcsRun P (witW P n os (laid.filter fun x=>x.2.handleName?.isNone)) fuel ((funcsListed laid).map (·.1))=some ((funcsListed laid).map (·.2.funcsOut))) :
  laidMetH P laid ((witW P n os (laid.filter fun x=>x.2.handleName?.isNone)).forCall (fun _ _=>0) ⟨#[],args,[]⟩).memory:=by
 have hd:laidMet P (laid.filter fun x=>x.2.handleName?.isNone) (witW P n os (laid.filter fun x=>x.2.handleName?.isNone)):=by
  clear hh hF
  generalize (laid.filter fun x=>x.2.handleName?.isNone)=l at *
  have e1:(l.filter fun x=>(l.map (·.1)).contains x.1)=l:=List.filter_eq_self.2 fun x hx=>List.contains_iff_mem.2 (List.mem_map.2 ⟨x,hx,rfl⟩)
  have e2:(l.filter fun x => !(l.map (·.1)).contains x.1)=[]:=List.filter_eq_nil_iff.2 fun x hx=>by rw[List.contains_iff_mem.2 (List.mem_map.2 ⟨x,hx,rfl⟩)];simp
  exact laidMet_layVars (w0:=World.doorLaid P n os) (l.map (·.1)) [] (by rw[e1];rfl) (by rw[e1];exact hf) (by rw[e1];exact hi) (by rw[e2];exact LaidIn.none)
 have hm:laidMetH P laid (witW P n os (laid.filter fun x=>x.2.handleName?.isNone)):=laidMetH_of_parts3 hd hh hF
 exact hm.of_heap (by simp[World.memory,World.forCall,Input.heap])
theorem down_glob:globG 3=some [.fn 296 [],.fn 297 []]:=rfl
theorem up_glob:globG 4=some [.fn 298 [],.fn 299 []]:=rfl
theorem laidH_fn {P:Program} {laid:List (String×DataW Unit)} {W:World} {name:String} {x d:DataW Unit} (h:laidMetH P laid W) (hx:x.handleName?.isSome=true) (hm:(name,x)∈laid) (hi:x.funcsIn?=some d):funcsAt P W name d:=by
 have hm2:(name,x)∈laid.filter fun x=>x.2.handleName?.isSome:=List.mem_filter.2 ⟨hm,hx⟩
 unfold laidMetH at h
 split at h
 ·rename_i he;rw[he] at hm2;cases hm2
 ·rename_i a l he
  have:=h.2 _ (he ▸ hm2)
  simp only at this
  rw[hi] at this
  exact this
theorem laidH_met {P:Program} {laid:List (String×DataW Unit)} {W:World} (h:laidMetH P laid W):laidMet P (laid.filter fun x=>x.2.handleName?.isNone) W:=by
 unfold laidMetH at h
 split at h
 ·rename_i he
  have e:(laid.filter fun x=>x.2.handleName?.isNone)=laid:=by
   rw[List.filter_eq_self]
   intro x hx
   have:=(List.filter_eq_nil_iff.1 he) x hx
   cases hn:x.2.handleName? with
   | none=>rfl
   | some s=>rw[hn] at this;exact absurd rfl this
  rw[e];exact h
 ·exact h.1
end Go.Eng
namespace Go.Eng
def gI (p q:Int):Int:=((Nat.gcd p.natAbs q.natAbs:Nat):Int)
def lowP (p q:Int):Int:=(if q<0 then-p else p)/gI p q
def lowQ (p q:Int):Int:=(if q<0 then-q else q)/gI p q
theorem zfJ {p q:Int} (h:q≠0):gI p q≠0:=by
 unfold gI
 intro e
 have:Nat.gcd p.natAbs q.natAbs=0:=by omega
 have:=Nat.eq_zero_of_gcd_eq_zero_right this
 omega
theorem zdO {p q:Int} (h:q≠0):0<gI p q:=by
 have:=zfJ (p:=p) h
 unfold gI at *
 omega
theorem zbR (p q:Int):gI p q∣p:=Int.ofNat_dvd_left.2 (Nat.gcd_dvd_left _ _)
theorem zcb (p q:Int):gI p q∣q:=Int.ofNat_dvd_left.2 (Nat.gcd_dvd_right _ _)
theorem zmD (p q:Int):gI (-p) (-q)=gI p q:=by unfold gI;rw[Int.natAbs_neg,Int.natAbs_neg]
theorem zdS {p q:Int} (h:q≠0):lowP p q*gI p q=(if q<0 then-p else p)∧lowQ p q*gI p q=(if q<0 then-q else q):=by
 unfold lowP lowQ
 refine⟨Int.ediv_mul_cancel ?_,Int.ediv_mul_cancel ?_⟩
 ·split
  ·exact Int.dvd_neg.2 (zbR p q)
  ·exact zbR p q
 ·split
  ·exact Int.dvd_neg.2 (zcb p q)
  ·exact zcb p q
theorem zgA {p q:Int} (h:q≠0):0<lowQ p q:=by
 have h1:=(zdS (p:=p) h).2
 have h2:=zdO (p:=p) h
 have h3:0<lowQ p q*gI p q:=by rw[h1];split<;>omega
 exact Int.pos_of_mul_pos_left h3 h2
theorem zfM {p q:Int} (h:q≠0):lowP p q*q=p*lowQ p q:=by
 obtain⟨h1,h2⟩:=zdS (p:=p) h
 have h3:=zfJ (p:=p) h
 apply Int.eq_of_mul_eq_mul_right h3
 rw[Int.mul_right_comm,h1,Int.mul_assoc,h2]
 split<;>grind
theorem zgz {p q:Int} (h:q≠0):Nat.gcd (lowP p q).natAbs (lowQ p q).natAbs=1:=by
 obtain⟨h1,h2⟩:=zdS (p:=p) h
 have h3:=zdO (p:=p) h
 have e1:(lowP p q).natAbs*(gI p q).natAbs=p.natAbs:=by rw[←Int.natAbs_mul,h1];split<;>omega
 have e2:(lowQ p q).natAbs*(gI p q).natAbs=q.natAbs:=by rw[←Int.natAbs_mul,h2];split<;>omega
 have e3:(gI p q).natAbs=Nat.gcd p.natAbs q.natAbs:=Int.natAbs_natCast _
 have e4:=Nat.gcd_mul_right (lowP p q).natAbs (gI p q).natAbs (lowQ p q).natAbs
 rw[e1,e2,←e3] at e4
 have:0<(gI p q).natAbs:=by omega
 exact Nat.eq_of_mul_eq_mul_right this (by rw[Nat.one_mul];exact e4.symm)
theorem ze1 {p q r s:Int} (hq:0<q) (hs:0<s) (c1:Nat.gcd p.natAbs q.natAbs=1) (c2:Nat.gcd r.natAbs s.natAbs=1) (h:p*s=r*q):p=r∧q=s:=by
 have n1:p.natAbs*s.natAbs=r.natAbs*q.natAbs:=by rw[←Int.natAbs_mul,←Int.natAbs_mul,h]
 have d1:q.natAbs∣s.natAbs:=by
  have:q.natAbs∣p.natAbs*s.natAbs:=⟨r.natAbs,by rw[n1,Nat.mul_comm]⟩
  exact(Nat.Coprime.dvd_of_dvd_mul_left (by rw[Nat.coprime_comm];exact c1) this)
 have d2:s.natAbs∣q.natAbs:=by
  have:s.natAbs∣r.natAbs*q.natAbs:=⟨p.natAbs,by rw[←n1,Nat.mul_comm]⟩
  exact(Nat.Coprime.dvd_of_dvd_mul_left (by rw[Nat.coprime_comm];exact c2) this)
 have e:q.natAbs=s.natAbs:=Nat.dvd_antisymm d1 d2
 have e2:q=s:=by omega
 subst e2
 exact⟨Int.eq_of_mul_eq_mul_right (by omega) h,rfl⟩
theorem ze0 {p q:Int} (hq:0<q) (c:Nat.gcd p.natAbs q.natAbs=1):lowP p q=p∧lowQ p q=q:=by
 unfold lowP lowQ gI
 rw[c,if_neg (by omega),if_neg (by omega)]
 exact⟨Int.ediv_one _,Int.ediv_one _⟩
theorem zgx {p q:Int} (h:q≠0):(lowP p q).natAbs≤p.natAbs:=by
 have h1:=(zdS (p:=p) h).1
 have h3:=zdO (p:=p) h
 have e1:(lowP p q).natAbs*(gI p q).natAbs=p.natAbs:=by rw[←Int.natAbs_mul,h1];split<;>omega
 rw[←e1]
 exact Nat.le_mul_of_pos_right _ (by omega)
theorem zgy {p q:Int} (h:q≠0):(lowQ p q).natAbs≤q.natAbs:=by
 have h1:=(zdS (p:=p) h).2
 have h3:=zdO (p:=p) h
 have e1:(lowQ p q).natAbs*(gI p q).natAbs=q.natAbs:=by rw[←Int.natAbs_mul,h1];split<;>omega
 rw[←e1]
 exact Nat.le_mul_of_pos_right _ (by omega)
end Go.Eng
namespace Go.Eng
theorem zkf {n K:Nat} (hn:n=1229) (hK:K=16384):10000^n≤2^K:=by
 obtain⟨m,hm⟩:∃m,m=83:=⟨_,rfl⟩
 have e:(10000:Nat)^n=(10^59)^m*10^19:=by
  rw[show (10000:Nat)=10^4 from rfl,←Nat.pow_mul,←Nat.pow_mul,←Nat.pow_add]
  congr 1;omega
 have h1:(10:Nat)^59≤2^196:=by decide
 have h2:(10:Nat)^19≤2^64:=by decide
 have h3:((10:Nat)^59)^m≤(2^196)^m:=Nat.pow_le_pow_left h1 m
 have h4:(2^196)^m*2^64=2^(196*m+64):=by rw[←Nat.pow_mul,←Nat.pow_add]
 rw[e]
 refine Nat.le_trans (Nat.mul_le_mul h3 h2) ?_
 rw[h4]
 exact Nat.pow_le_pow_right (by decide) (by omega)
def inR (v:Nat):Prop:=v<2^16384
theorem zlj (v:Nat):(tlen v<1230∨v<2^16384)↔inR v:=by
 obtain⟨n,hn⟩:∃n,n=1229:=⟨_,rfl⟩
 have hb:=zkf (K:=16384) hn rfl
 unfold inR
 generalize (2:Nat)^16384=q at *
 constructor
 ·rintro (h|h)
  ·have h2:v<10000^n:=zaP.1 (by omega)
   exact Nat.lt_of_lt_of_le h2 hb
  ·exact h
 ·exact .inr
theorem zaF (v:Nat):wlen v≤512↔inR v:=by
 obtain⟨n,hn⟩:∃n,n=512:=⟨_,rfl⟩
 rw[←hn,zaH]
 unfold inR
 have:(4294967296:Nat)^n=2^16384:=by
  rw[show (4294967296:Nat)=2^32 from rfl,←Nat.pow_mul]
  congr 1;omega
 rw[this]
end Go.Eng
namespace Go.Eng
end Go.Eng
namespace Go.Eng
noncomputable instance inRdec (v:Nat):Decidable (inR v):=Classical.propDecidable _
noncomputable def parseT (s:List UInt8):Int×Int :=
 let neg:Bool:=s.head?==some 45
 let ds:=if neg then s.drop 1 else s
 if 5000<s.length then (0,4)
 else if ds=[]∨(ds.head?=some 48∧(neg=true∨1<ds.length))∨¬ds.all isDig=true then (0,2)
 else if inR (tv ds) then (sgn neg (tv ds),0) else (0,4)
theorem zlo {l:List UInt8}:(l=[]∨∃c t,l=c::t):=by cases l with
 | nil=>exact .inl rfl
 | cons c t=>exact .inr ⟨c,t,rfl⟩
theorem zdk (s:List UInt8):(5000<s.length∧parseT s=(0,4))∨(s.length≤5000∧∃neg ds,((neg=true∧s=45::ds)∨(neg=false∧s=ds∧ds.head?≠some 45)) ∧
  ((ds=[]∨(ds.head?=some 48∧(neg=true∨1<ds.length))∨¬ds.all isDig=true)∧parseT s=(0,2) ∨
   ds≠[]∧(ds.head?=some 48→neg=false∧ds.length=1)∧ds.all isDig=true∧(inR (tv ds)∧parseT s=(sgn neg (tv ds),0)∨¬inR (tv ds)∧parseT s=(0,4)))):=by
 by_cases hl:5000<s.length
 ·exact .inl ⟨hl,by unfold parseT;simp only[hl,if_true]⟩
 ·right
  refine⟨by omega,s.head?==some 45,if (s.head?==some 45) then s.drop 1 else s,?_,?_⟩
  ·by_cases h:s.head?=some 45
   ·left
    rw[h]
    refine⟨rfl,?_⟩
    cases s with
    | nil=>cases h
    | cons c t=>simp only[List.head?_cons,Option.some.injEq] at h;subst h;rfl
   ·right
    have:(s.head?==some 45)=false:=by simpa using h
    rw[this]
    exact⟨rfl,by simp,by simpa using h⟩
  ·have e:parseT s=(if (if (s.head?==some 45) then s.drop 1 else s)=[]∨((if (s.head?==some 45) then s.drop 1 else s).head?=some 48∧((s.head?==some 45)=true∨1<(if (s.head?==some 45) then s.drop 1 else s).length))∨¬(if (s.head?==some 45) then s.drop 1 else s).all isDig=true then (0,2)
     else if inR (tv (if (s.head?==some 45) then s.drop 1 else s)) then (sgn (s.head?==some 45) (tv (if (s.head?==some 45) then s.drop 1 else s)),0) else (0,4)):=by
    unfold parseT
    simp only[hl,if_false]
   rw[e]
   generalize (if (s.head?==some 45)=true then s.drop 1 else s)=ds
   generalize (s.head?==some 45)=neg
   by_cases h1:ds=[]∨(ds.head?=some 48∧(neg=true∨1<ds.length))∨¬ds.all isDig=true
   ·exact .inl ⟨h1,by rw[if_pos h1]⟩
   ·right
    rw[if_neg h1]
    have n1:ds≠[]:=fun q=>h1 (.inl q)
    refine⟨n1,fun q=>?_,?_,?_⟩
    ·have h2:¬(neg=true∨1<ds.length):=fun r=>h1 (.inr (.inl ⟨q,r⟩))
     have h3:ds.length≠0:=fun r=>n1 (List.eq_nil_of_length_eq_zero r)
     refine⟨?_,?_⟩
     ·cases neg
      ·rfl
      ·exact(h2 (.inl rfl)).elim
     ·have:¬1<ds.length:=fun r=>h2 (.inr r)
      omega
    ·by_cases q:ds.all isDig=true
     ·exact q
     ·exact(h1 (.inr (.inr q))).elim
    ·by_cases h3:inR (tv ds)
     ·exact .inl ⟨h3,by rw[if_pos h3]⟩
     ·exact .inr ⟨h3,by rw[if_neg h3]⟩
end Go.Eng
namespace Go.Eng
theorem zgH (s:List UInt8) (hs:s.length<4611686018427387904):pf E0 85 [.s s,.s [45]]=some (.b (s.head?==some 45)):=by
 refine zaa (xf:=zyo) rfl (by simp[zyo]) ?_
 simp only[zyo]
 cases s with
 | nil =>
  have q1:(((0:Nat):Int)≥1)=False:=by simp
  simp(disch:=omega)only[go_sem,seval,wqq,Int.natCast_one,q1,Int.natCast_zero,Int.reduceLE,ge_iff_le]
  rfl
 | cons c t =>
  have q1:(((t.length+1:Nat):Int)≥1)=True:=by simp;omega
  have hc:slStrP (c::t) none (some (.i .i64 1))=some (.s [c]):=by
   simp only[slStrP,optP,show (PV.i IntKind.i64 1)=.i .i64 ((1:Nat):Int) from rfl,za3]
   rw[if_pos ⟨by omega,by simp⟩];rfl
  simp(disch:=omega)only[go_sem,seval,wqq,Int.natCast_one,q1,hc]
  congr 2
  by_cases h:c=45
  ·subst h;rfl
  ·have:(some c==some (45:UInt8))=false:=by simpa using h
   simp[h,this]
theorem zgG {neg:Bool} {s ds:List UInt8} (hs:s.length<4611686018427387904) (h:(neg=true∧s=45::ds)∨(neg=false∧s=ds∧ds.head?≠some 45)):pf E0 129 [.s s,.s [45]]=some (.tu [.s ds,.b neg]):=by
 have inner:pf E0 137 [.s s,.s [45]]=some (.tu [.s ds,.b neg]):=by
  refine zaa (xf:=zyq) rfl (by simp[zyq]) ?_
  simp only[zyq]
  have hp:=zgH s hs
  rcases h with⟨rfl,rfl⟩|⟨rfl,rfl,h45⟩
  ·have e:((45::ds).head?==some (45:UInt8))=true:=rfl
   rw[e] at hp
   have hc:slStrP (45::ds) (some (.i .i64 1)) none=some (.s ds):=by
    simp only[slStrP,optP,show (PV.i IntKind.i64 1)=.i .i64 ((1:Nat):Int) from rfl,za3]
    rw[if_pos ⟨by simp,Nat.le_refl _⟩]
    simp
   simp(disch:=omega)only[go_sem,seval,wqq,hp,Int.natCast_one,hc]
  ·have e:(s.head?==some (45:UInt8))=false:=by simpa using h45
   rw[e] at hp
   simp(disch:=omega)only[go_sem,seval,wqq,hp]
 refine zaa (xf:=zyM) rfl (by simp[zyM]) ?_
 simp only[zyM]
 simp(disch:=omega)only[go_sem,seval,wqq,inner]
set_option maxRecDepth 20000 in
theorem zmb (ds:List UInt8):((((ds.reverse.dropWhile (([48,49,50,51,52,53,54,55,56,57]:List UInt8).contains ·)).reverse).dropWhile (([48,49,50,51,52,53,54,55,56,57]:List UInt8).contains ·))=[])=(ds.all isDig=true):=by
 have hc:∀c:UInt8,([48,49,50,51,52,53,54,55,56,57]:List UInt8).contains c=isDig c:=fun c=>by
  have h:∀n:Fin 256,([48,49,50,51,52,53,54,55,56,57]:List UInt8).contains (UInt8.ofNat n.val)=isDig (UInt8.ofNat n.val):=by decide
  have h2:=h ⟨c.toNat,c.toNat_lt⟩
  simpa using h2
 simp only[hc]
 have aux:∀l:List UInt8,l.dropWhile isDig=[]↔l.all isDig=true:=fun l=>by
  induction l with
  | nil=>simp
  | cons c l ih =>
   rw[List.dropWhile_cons,List.all_cons,Bool.and_eq_true]
   by_cases h:isDig c=true
   ·rw[if_pos h,ih];simp[h]
   ·rw[if_neg h];simp[h]
 apply propext
 rw[aux,List.all_reverse]
 constructor
 ·intro h
  by_cases hd:ds.all isDig=true
  ·exact hd
  ·exfalso
   have h1:ds.reverse.dropWhile isDig≠[]:=fun q=>hd (by rw[←List.all_reverse];exact(aux _).1 q)
   obtain⟨c,t,he⟩:∃c t,ds.reverse.dropWhile isDig=c::t:=by
    cases hq:ds.reverse.dropWhile isDig with
    | nil=>exact(h1 hq).elim
    | cons c t=>exact⟨c,t,rfl⟩
   have h2:=List.head?_dropWhile_not isDig ds.reverse
   rw[he] at h h2
   simp only[List.head?_cons] at h2
   simp only[List.all_cons,Bool.and_eq_true] at h
   rw[h.1] at h2
   simp at h2
 ·intro hd
  have:ds.reverse.dropWhile isDig=[]:=(aux _).2 (by rw[List.all_reverse];exact hd)
  rw[this];rfl
theorem zph (ds:List UInt8) (h:ds.length≤9223372036854775807):∃t,(t=[]↔ds.all isDig=true)∧pf E0 130 [.s ds,.s [48,49,50,51,52,53,54,55,56,57]]=some (.s t):=by
 refine⟨_,by rw[←zmb ds],zlU ?_ rfl⟩
 simp only[orcP,libP]
 rw[if_neg (by decide),if_pos ⟨trivial,h,by decide,by decide⟩]
 rfl
theorem znj {l:List UInt8} (h0:l≠[]) (h1:l.length≤18) (h2:l.all isDig=true):pf E0 131 [.s l]=some (.tu [.i .i64 (tv l:Nat),.inil]):=by
 refine zlV ?_ rfl
 simp only[orcP,libP]
 rw[if_neg (by decide),if_pos ⟨trivial,h0,h1,h2⟩]
 rfl
theorem zrZ {v:Nat} (h:v<4294967296):PV.lst [(PV.i .u32 ((v:Nat):Int))]=Dw 1 v:=by
 have e:tab 1 (fun k=>(PV.i .u32 ((dgt v k:Nat):Int)))=[(PV.i .u32 ((dgt v 0:Nat):Int))]:=rfl
 rw[Dw,e,zfB,Nat.mod_eq_of_lt h]
theorem zi1 {v n:Nat} (h:v<10^n):wlen v≤n:=by
 rw[zaH]
 exact Nat.lt_of_lt_of_le h (Nat.pow_le_pow_left (by decide) n)
def wparse_R:XC:=match zyP.body with
 | .seq _ (.seq _ (.seq _ (.seq _ (.seq _ (.seq _ r)))))=>r
 | _=>.skip
theorem zkQ {F:PFin} {ds:List UInt8} (hl:ds.length≤5000) (hd:ds.all isDig=true) {fr:PFr} {B:PB} {neg:Bool} (h2:fr 2=.p 0 0) (h4:fr 4=.s ds) (h5:fr 5=.b neg) (h6:fr 6=.nl)
  (cont:∀(fr':PFr) (M':PM),fr' 2=.p 0 0→fr' 5=.b neg→(∀M d,fz M (d+1) (fr' 6)=some (D (tv ds),[]))→PM.blk M' 0=some B→WK E0 F wparse_R [] fr' M') :
  WK E0 F (.loop zzy) [.block 0,.seq wparse_R] fr [some B]:=by
 refine zag zzy.eq_1 (fun(x:Nat×List UInt8) fr M=>x.2.length≤ds.length∧x.2.all isDig=true∧(x.1=0∨x.2.length%9=0)∧x.1*10^x.2.length+tv x.2=tv ds∧fr 2=.p 0 0∧fr 4=.s x.2∧fr 5=.b neg∧(∀M d,fz M (d+1) (fr 6)=some (D x.1,[]))∧PM.blk M 0=some B) (fun x=>x.2.length) ?_ (0,ds) ⟨Nat.le_refl _,hd,.inl rfl,by simp,h2,h4,h5,fun M d=>by rw[h6];rfl,rfl⟩
 rintro⟨m,rs⟩ fr M ⟨hrl,hrd,h9,hv,h2,h4,h5,h6,hb⟩ ih
 simp only at hrl hrd h9 hv h4 h6 ih
 cases rs with
 | nil =>
  have hm:m=tv ds:=by simpa [tv] using hv
  subst hm
  simp(disch:=omega)only[go_sem,seval,wqq,h4,Int.natCast_zero,Int.lt_irrefl,gt_iff_lt]
  exact cont _ _ (by simp only[go_sem,seval,h2]) (by simp only[go_sem,seval,h5]) (fun M d=>by simp only[go_sem,seval];exact h6 M d) hb
 | cons c t =>
  have htl:t.length<5000:=by simp only[List.length_cons] at hrl;omega
  obtain⟨n,hn⟩:∃n,n=t.length%9+1:=⟨_,rfl⟩
  have hn9:n≤9:=by omega
  have hnl:n≤(c::t).length:=by simp;omega
  have q1:(((t.length+1:Nat):Int)>0)=True:=by simp
  have i1:(((t.length+1:Nat):Int)-1)=((t.length:Nat):Int):=by omega
  have i2:((t.length:Int)).tmod 9=((t.length%9:Nat):Int):=zco t.length 9
  have i3:((t.length%9:Nat):Int)+1=(n:Int):=by omega
  obtain⟨a,ha⟩:∃a,a=(c::t).take n:=⟨_,rfl⟩
  obtain⟨b,hbb⟩:∃b,b=(c::t).drop n:=⟨_,rfl⟩
  have hal:a.length=n:=by rw[ha,List.length_take];omega
  have hbl:b.length=(c::t).length-n:=by rw[hbb,List.length_drop]
  have hab:c::t=a++b:=by rw[ha,hbb,List.take_append_drop]
  have had:a.all isDig=true:=by rw[hab,List.all_append,Bool.and_eq_true] at hrd;exact hrd.1
  have hbd:b.all isDig=true:=by rw[hab,List.all_append,Bool.and_eq_true] at hrd;exact hrd.2
  have hc1:slStrP (c::t) none (some (.i .i64 (n:Int)))=some (.s a):=by
   simp only[slStrP,optP,za3]
   rw[if_pos ⟨by omega,hnl⟩,List.drop_zero,ha]
  have hc2:slStrP (c::t) (some (.i .i64 (n:Int))) none=some (.s b):=by
   simp only[slStrP,optP,za3]
   rw[if_pos ⟨hnl,Nat.le_refl _⟩,List.take_length,hbb]
  have hat:=znj (l:=a) (by intro q;rw[q] at hal;simp at hal;omega) (by omega) had
  have hav:tv a<1000000000:=Nat.lt_of_lt_of_le (zmc a had) (by rw[hal];exact Nat.pow_le_pow_right (by decide) hn9)
  have hvd:=zmc ds hd
  have hmv:m<10^ds.length:=by
   have:m*1≤m*10^(c::t).length:=Nat.mul_le_mul_left _ (Nat.pow_pos (by decide))
   omega
  have hml:=zi1 hmv
  have hmlt:=zae m
  have h59:pf E0 59 [D m,Dw 1 1000000000]=some (Dw (wlen m+1) (m*1000000000)):=zhM hmlt (by decide) (by omega) (by omega)
  have hmm:m*1000000000<4294967296^(wlen m+1):=by rw[Nat.pow_succ];exact Nat.mul_lt_mul'' hmlt (by decide)
  have h40:pf E0 40 [Dw (wlen m+1) (m*1000000000),Dw 1 (tv a)]=some (Dw (max (wlen m+1) 1+1) (m*1000000000+tv a)):=zoM hmm (by omega) (by omega) (by omega)
  have hsl:m*1000000000+tv a<4294967296^(max (wlen m+1) 1+1):=by
   rw[Nat.max_eq_left (by omega)]
   have h1:m*1000000000+tv a<(m+1)*1000000000:=by rw[Nat.add_mul,Nat.one_mul];exact Nat.add_lt_add_left hav _
   have h2:(m+1)*1000000000≤4294967296^wlen m*4294967296:=by
    refine Nat.mul_le_mul (Nat.succ_le_of_lt hmlt) ?_
    omega
   rw[←Nat.pow_succ] at h2
   exact Nat.lt_of_lt_of_le h1 (Nat.le_trans h2 (Nat.pow_le_pow_right (by decide) (by omega)))
  have h49:pf E0 49 [Dw (max (wlen m+1) 1+1) (m*1000000000+tv a)]=some (D (m*1000000000+tv a)):=zbJ hsl (by omega)
  have w1:PV.lst [.i .u32 1000000000]=Dw 1 1000000000:=zrZ (v:=1000000000) (by decide)
  have w2:PV.lst [(PV.i .u32 ((tv a:Nat):Int))]=Dw 1 (tv a):=zrZ (by omega)
  simp(disch:=omega)only[go_sem,seval,wqq,h4,q1,i1,i2,i3,hc1,hc2,hat,h6,w1,h59,zaK,group,List.headD_cons,w2,h40,h49,zbZ]
  have hnew:(m*1000000000+tv a)*10^b.length+tv b=tv ds:=by
   rw[←hv,hab,zm6,List.length_append,Nat.pow_add,hal]
   rcases h9 with h9|h9
   ·rw[h9];simp
   ·have:n=9:=by simp only[List.length_cons] at h9;omega
    rw[this]
    show (m*10^9+tv a)*10^b.length+tv b=m*(10^9*10^b.length)+(tv a*10^b.length+tv b)
    rw[Nat.add_mul,Nat.mul_assoc];omega
  have hb9:b.length%9=0:=by rw[hbl];simp only[List.length_cons];omega
  refine ih (m*1000000000+tv a,b) _ _ (by rw[hbl];simp only[List.length_cons];omega) ⟨by simp only;omega,hbd,.inr hb9,hnew,by simp only[go_sem,seval,h2],by simp only[go_sem,seval],by simp only[go_sem,seval,h5],fun M d=>by simp only[go_sem,seval],?_⟩
  refine za5 (za5 hb _) _
theorem zov (s:List UInt8) (hs:s.length<4611686018427387904):pf E0 110 [.s s]=some (.tu [wiP (clip (parseT s).1),.i .i64 (parseT s).2]):=by
 refine zaa (xf:=zyP) rfl (by simp[zyP]) ?_
 have c0:clip 0=wi0:=zbn (z:=0) (by simp[zbM])
 rcases zdk s with⟨hl,hp⟩|⟨hl,neg,ds,hsg,hsp⟩
 ·rw[hp,c0]
  simp only[zyP]
  have q1:((s.length:Int)>5000)=True:=by simp;omega
  simp(disch:=omega)only[go_sem,seval,wqq,q1]
 ·have hdl:ds.length≤5000:=by
   rcases hsg with⟨_,rfl⟩|⟨_,rfl,_⟩
   ·simp at hl;omega
   ·exact hl
  have q1:((s.length:Int)>5000)=False:=by simp;omega
  have hcp:=zgG hs hsg
  obtain⟨t,ht1,ht2⟩:=zph ds (by omega)
  have good:ds.all isDig=true→(inR (tv ds)∧parseT s=(sgn neg (tv ds),0)∨¬inR (tv ds)∧parseT s=(0,4))→∀{fr:PFr},fr 2=.p 0 0→fr 4=.s ds→fr 5=.b neg→fr 6=.nl →
    WK E0 ⟨[.cell 2 true 2,.tmp 3],fun w M2=>(fz M2 fzD w).map Prod.fst=some (.tu [wiP (clip (parseT s).1),.i .i64 (parseT s).2])⟩ (.loop zzy) [.block 0,.seq wparse_R] fr [some ⟨[.b false,.nl],true,0⟩]:=fun hd hp {fr} h2 h4 h5 h6=>by
   refine zkQ hdl hd h2 h4 h5 h6 fun fr' M' g2 g5 g6 gb=>?_
   unfold wparse_R
   simp only[zyP]
   have hsi:=zaE neg (wlen (tv ds)) (tv ds) (zae _) (by have:=zi1 (zmc ds hd);omega)
   have hlt:=zbh gb
   have hset:∀Y,PM.blk (List.set M' 0 (some Y)) 0=some Y:=fun Y=>zbO hlt
   have hres:parseT s=((if inR (tv ds) then (if neg then-(tv ds:Int) else (tv ds:Int)) else 0),lerr (tv ds:Int)):=by
    rcases hp with⟨h1,h2⟩|⟨h1,h2⟩
    ·rw[h2,if_pos h1,zaQ (by simpa using (zaF _).2 h1)];rfl
    ·rw[h2,if_neg h1,zeZ (by simpa using fun q=>h1 ((zaF _).1 q))]
   have hcl:clip (if neg then-(tv ds:Int) else (tv ds:Int))=clip (parseT s).1:=by
    rw[hres]
    by_cases h1:inR (tv ds)
    ·simp only[if_pos h1]
    ·simp only[if_neg h1]
     rw[zeI,c0]
     cases neg<;>simp<;>exact Nat.lt_of_not_le fun q=>h1 ((zaF _).1 q)
   rw[hcl] at hsi
   have he:lerr (tv ds:Int)=(parseT s).2:=by rw[hres]
   rw[he] at hsi
   simp(disch:=omega)only[go_sem,seval,wqq,g2,g5,g6,hsi,gb,hset]
  simp only[zyP]
  rcases zlo (l:=ds) with rfl|⟨c,r,rfl⟩
  ·have hp:parseT s=(0,2):=by
    rcases hsp with⟨_,h⟩|⟨h,_⟩
    ·exact h
    ·exact(h rfl).elim
   rw[hp,c0]
   simp(disch:=omega)only[go_sem,seval,wqq,q1,hcp]
  ·have q0:(c::r=[])=False:=by simp
   by_cases ha:(c::r).all isDig=true
   ·have htn:(t=[])=True:=by simp[ht1.2 ha]
    have hts:(t≠[])=False:=by simp[ht1.2 ha]
    by_cases h48:c.toNat=48
    ·have q2:((c.toNat:Int)=48)=True:=by simp;omega
     have hc:c=48:=UInt8.toNat_inj.1 h48
     cases neg
     ·by_cases hr:r=[]
      ·have q3:(((r.length+1:Nat):Int)>1)=False:=by subst hr;simp
       have hp:inR (tv (c::r))∧parseT s=(sgn false (tv (c::r)),0)∨¬inR (tv (c::r))∧parseT s=(0,4):=by
        rcases hsp with⟨h|⟨_,h|h⟩|h,_⟩|⟨_,_,_,h⟩
        ·cases h
        ·cases h
        ·subst hr;simp at h
        ·exact(h ha).elim
        ·exact h
       simp(disch:=omega)only[go_sem,seval,wqq,q1,hcp,q0,ht2,htn,q2,q3]
       exact good ha hp (by simp only[go_sem,seval]) (by simp only[go_sem,seval]) (by simp only[go_sem,seval]) (by simp only[go_sem,seval])
      ·have q3:(((r.length+1:Nat):Int)>1)=True:=by
        cases r with
        | nil=>exact(hr rfl).elim
        | cons _ _=>simp;omega
       have hp:parseT s=(0,2):=by
        rcases hsp with⟨_,h⟩|⟨_,h,_⟩
        ·exact h
        ·have:=(h (by rw[hc];rfl)).2
         cases r with
         | nil=>exact(hr rfl).elim
         | cons _ _=>simp at this
       rw[hp,c0]
       simp(disch:=omega)only[go_sem,seval,wqq,q1,hcp,q0,ht2,htn,q2,q3]
     ·have hp:parseT s=(0,2):=by
       rcases hsp with⟨_,h⟩|⟨_,h,_⟩
       ·exact h
       ·have:=(h (by rw[hc];rfl)).1
        cases this
      rw[hp,c0]
      simp(disch:=omega)only[go_sem,seval,wqq,q1,hcp,q0,ht2,htn,q2]
    ·have q2:((c.toNat:Int)=48)=False:=by simp;omega
     have hp:inR (tv (c::r))∧parseT s=(sgn neg (tv (c::r)),0)∨¬inR (tv (c::r))∧parseT s=(0,4):=by
      rcases hsp with⟨h|⟨h,_⟩|h,_⟩|⟨_,_,_,h⟩
      ·cases h
      ·simp only[List.head?_cons,Option.some.injEq] at h;rw[h] at h48;exact(h48 rfl).elim
      ·exact(h ha).elim
      ·exact h
     simp(disch:=omega)only[go_sem,seval,wqq,q1,hcp,q0,ht2,htn,q2]
     exact good ha hp (by simp only[go_sem,seval]) (by simp only[go_sem,seval]) (by simp only[go_sem,seval]) (by simp only[go_sem,seval])
   ·have htn:(t=[])=False:=by simp only[eq_iff_iff,iff_false];exact fun q=>ha (ht1.1 q)
    have hp:parseT s=(0,2):=by
     rcases hsp with⟨_,h⟩|⟨_,_,h,_⟩
     ·exact h
     ·exact(ha h).elim
    rw[hp,c0]
    simp(disch:=omega)only[go_sem,seval,wqq,q1,hcp,q0,ht2,htn]
end Go.Eng
namespace Go.Eng
theorem zgY {v:Nat} (h:v≠0):∃c t,dec v=c::t∧49≤c.toNat∧c.toNat≤57∧(c::t).length=dlen v:=by
 have h1:=zbA v
 have h0:dlen v≠0:=fun q=>by rw[q] at h1;simp at h1;omega
 obtain⟨n,hn⟩:∃n,dlen v=n+1:=⟨dlen v-1,by omega⟩
 have h2:¬v<10^n:=fun q=>by have:=zap.2 q;omega
 have e:dec v=UInt8.ofNat (48+v/10^n%10)::dtx n v:=by rw[zb9 h,hn];rfl
 have hp:0<10^n:=Nat.pow_pos (by decide)
 have h3:v/10^n<10:=by
  rw[Nat.div_lt_iff_lt_mul hp,Nat.mul_comm,←Nat.pow_succ,show n.succ=dlen v from hn.symm];exact h1
 have h4:0<v/10^n:=Nat.div_pos (by omega) hp
 have ht:(UInt8.ofNat (48+v/10^n%10)).toNat=48+v/10^n%10:=dch _ (by omega)
 exact⟨_,_,e,by rw[ht];omega,by rw[ht];omega,by rw[hn];simp⟩
theorem zp5 (v:Nat):∀l,dec v≠45::l:=fun l q=>by
 by_cases h:v=0
 ·subst h;cases q
 ·obtain⟨c,t,e,h1,_⟩:=zgY h
  rw[e] at q;cases q
  revert h1;decide
theorem zkH {n K:Nat} (hn:n=177) (hK:K=16384):2^K≤10^(28*n):=by
 have e1:(2:Nat)^K≤(2^93)^n:=by
  rw[←Nat.pow_mul 2]
  exact Nat.pow_le_pow_right (by decide) (by omega)
 have e2:((2:Nat)^93)^n≤(10^28)^n:=Nat.pow_le_pow_left (by decide) n
 rw[←Nat.pow_mul 10] at e2
 exact Nat.le_trans e1 e2
theorem zpi (K:Nat):0<2^K:=Nat.pow_pos (by decide)
theorem zlq:inR 0:=zpi 16384
theorem zeV {v:Nat} (h:inR v):dlen v≤4956:=by
 obtain⟨n,hn⟩:∃n,n=177:=⟨_,rfl⟩
 have e:=zkH (K:=16384) hn rfl
 have h:v<2^16384:=h
 have:=zap.2 (Nat.lt_of_lt_of_le h e)
 omega
theorem zis (z:Int):parseT (decI z)=if inR z.natAbs then (z,0) else (0,4):=by
 by_cases h0:z=0
 ·subst h0
  have h1:inR (0:Int).natAbs:=zlq
  have h2:decI 0=[48]:=rfl
  rw[if_pos h1,h2]
  have h3:inR (tv [48]):=h1
  unfold parseT
  rw[if_neg (by decide),if_neg (by decide)]
  exact if_pos h3
 ·have hv:z.natAbs≠0:=by omega
  obtain⟨c,t,e,hc1,hc2,hl⟩:=zgY hv
  have hd:=znq z.natAbs
  have ht:=zrQ z.natAbs
  have h45:c≠45:=by rintro rfl;revert hc1;decide
  have h48:c≠48:=by rintro rfl;revert hc1;decide
  have hlen:(decI z).length≤dlen z.natAbs+1:=by
   unfold decI;split<;>simp only[List.length_cons,e] at * <;> omega
  have hlen2:dlen z.natAbs≤(decI z).length:=by
   unfold decI;split<;>simp only[List.length_cons,e] at * <;> omega
  rcases zdk (decI z) with⟨h1,h2⟩|⟨h1,neg,ds,hsg,hsp⟩
  ·have:¬inR z.natAbs:=fun q=>by have:=zeV q;omega
   rw[if_neg this,h2]
  ·have hds:ds=dec z.natAbs∧sgn neg z.natAbs=z:=by
    rcases hsg with⟨rfl,g⟩|⟨rfl,g,g2⟩
    ·unfold decI at g
     split at g
     ·cases g;exact⟨rfl,by unfold sgn;simp;omega⟩
     ·exact(zp5 _ _ g).elim
    ·unfold decI at g
     split at g
     ·rw[←g] at g2;exact(g2 rfl).elim
     ·exact⟨g.symm,by unfold sgn;simp;omega⟩
   obtain⟨rfl,hs⟩:=hds
   rcases hsp with⟨h|⟨h,_⟩|h,_⟩|⟨_,_,_,⟨h3,h4⟩|⟨h3,h4⟩⟩
   ·rw[e] at h;cases h
   ·rw[e] at h;simp at h;exact(h48 h).elim
   ·exact(h hd).elim
   ·rw[ht] at h3 h4
    rw[if_pos h3,h4,hs]
   ·rw[ht] at h3
    rw[if_neg h3,h4]
theorem zra (x:WI):pf E0 33 [wiP x]=some (.s (decI x.v)):=by
 refine zoQ ?_ rfl
 have hw:∀(l:List Nat),Ok32 l→wordsP (l.map fun n=>(PV.i .u32 ((n:Nat):Int)))=some l:=fun l=>by
  induction l with
  | nil=>intro _;rfl
  | cons n l ih =>
   intro h
   have h1:=h n (List.mem_cons_self ..)
   rw[List.map_cons]
   unfold wordsP
   rw[if_pos ⟨by omega,by omega⟩,ih fun x hx=>h x (List.mem_cons_of_mem _ hx)]
   simp
 have hD:D x.v.natAbs=.lst ((dig x.v.natAbs).map fun n=>(PV.i .u32 ((n:Nat):Int))):=(zvT _ _).symm
 have hg:(dig x.v.natAbs).getLast?≠some 0:=fun q=>by
  by_cases h:x.v.natAbs=0
  ·rw[h] at q;cases q
  ·have h1:=zaZ h
   have h2:(dig x.v.natAbs).getLast?=some (dgt x.v.natAbs (wlen x.v.natAbs-1)):=by
    rw[List.getLast?_eq_getElem?]
    unfold dig dw
    rw[za2,zaT (by omega)]
   rw[h2] at q
   have h3:=Option.some.inj q
   rw[zah] at h3
   have h4:=zfr h
   have h5:x.v.natAbs/4294967296^(wlen x.v.natAbs-1)<4294967296:=by
    have:=zae x.v.natAbs
    rw[show wlen x.v.natAbs=wlen x.v.natAbs-1+1 by omega,Nat.pow_succ] at this
    exact Nat.div_lt_of_lt_mul this
   have h6:=Nat.div_pos h4 (zbD _)
   rw[Nat.mod_eq_of_lt h5] at h3
   omega
 have hx:=x.lim
 rw[zd8,hD]
 simp only[orcP,txtP,if_true,hw _ (zqK _),Option.bind_some]
 unfold wtx
 have hnz:decide (x.v<0)=true→dig x.v.natAbs≠[]:=fun h=>by
  have h1:x.v<0:=by simpa using h
  intro q
  have h2:=zel x.v.natAbs
  rw[q] at h2
  have:=zaZ (v:=x.v.natAbs) (by omega)
  simp at h2;omega
 rw[if_pos ⟨by rw[zel];exact hx,hg,hnz⟩,zpk]
 ·have e:(if decide (x.v<0)=true then-((x.v.natAbs:Nat):Int) else ((x.v.natAbs:Nat):Int))=x.v:=by
   by_cases h:x.v<0
   ·rw[if_pos (by simpa using h)];omega
   ·rw[if_neg (by simpa using h)];omega
  rw[e];rfl
end Go.Eng
namespace Go.Eng
theorem zk5 {v n:Nat} (h1:10^n≤v) (h2:v<10^(n+1)):dec v=dtx (n+1) v:=by
 have h0:v≠0:=by have:=Nat.pow_pos (n:=n) (by decide:0<10);omega
 have:dlen v=n+1:=by
  have a:=zap.2 h2
  have b:¬dlen v≤n:=fun q=>by have:=zap.1 q;omega
  omega
 rw[zb9 h0,this]
theorem zje {n:Int} (h:Fits64 n):∃x:WI,x.v=n∧pf E0 34 [.i .i64 n]=some (wiP x):=⟨wiOf n h,rfl,zbw h⟩
end Go.Eng
namespace Go.Eng
def isPP:PV→Bool
 | .p _ _=>true
 | _=>false
@[go_sem] theorem zwa (n o:Nat):isPP (.p n o)=true:=_root_.id rfl
def slotIn (E:PEnv) (ops:List XOper) (L:List Nat) (c:Nat×Nat):Bool :=
 match ops[c.1]?,ops[c.2]? with
 | some a,some b =>
  match a.op with
  | .load _ _ (.t s)=>L.contains s&&calmOp E b.op&&(ops.all fun o=>o.dst != some s)
  | _=>false
 | _,_=>false
theorem zaC {E:PEnv} {F:PFin} {ops:List XOper} {chk:List (Nat×Nat)} {ks:List KI} {fr:PFr} {M:PM} (L:List Nat) (hL:chk.all (fun c=>calmC E ops c || slotIn E ops L c)=true) (hp:L.all (fun s=>isPP (fr s))=true) (w:WL E F ops ks fr M) :
  WK E F (.drw ops chk) ks fr M:=by
 refine zcZ (fun fr2 Ms hT=>?_) w
 rw[List.all_eq_true] at hL hp ⊢
 rintro⟨i,j⟩ hc
 have h1:=hL _ hc
 simp only[Bool.or_eq_true] at h1
 rcases h1 with h1|h1
 ·exact zdn hT h1
 ·unfold slotIn at h1
  split at h1
  ·rename_i a b ha hb
   split at h1
   ·rename_i z k s hop
    simp only[Bool.and_eq_true] at h1
    obtain⟨⟨c1,c2⟩,c3⟩:=h1
    have hs:=hp s (List.contains_iff_mem.1 c1)
    cases hf:fr s with
    | p n o=>exact ziG hT ha hb hop c2 c3 hf
    | _=>rw[hf] at hs;simp[isPP] at hs
   ·cases h1
  ·cases h1
attribute [go_sem] List.all_cons List.all_nil
def slotIn2 (E:PEnv) (ops:List XOper) (L:List Nat) (c:Nat×Nat):Bool :=
 match ops[c.1]?,ops[c.2]? with
 | some a,some b =>
  match a.op with
  | .load _ _ (.t s)=>L.contains s&&calmOp E b.op
  | _=>false
 | _,_=>false
theorem zb1 {E:PEnv} {F:PFin} {ops:List XOper} {chk:List (Nat×Nat)} {ks:List KI} {fr:PFr} {M:PM} (L:List Nat) (hL:chk.all (fun c=>calmC E ops c || slotIn2 E ops L c)=true)
  (hr:WL E ⟨(0::0::L).map XR.tmp,fun w _=>∃l,w=.tu l∧(l.drop 2).all isPP=true⟩ ops [] fr M) (w:WL E F ops ks fr M):WK E F (.drw ops chk) ks fr M:=by
 refine zcZ (fun fr2 Ms hT=>?_) w
 have hp:L.all (fun s=>isPP (fr2 s))=true:=by
  obtain⟨lf,q,fr3,M3,vs,e,h1,h2,l,h3,h4⟩:=hr
  simp only[Option.bind_eq_some_iff,unw] at e
  obtain⟨⟨fr4,M4⟩,e1,e2⟩:=e
  simp only[Option.some.injEq,Prod.mk.injEq] at e2
  obtain⟨_,e3,e4⟩:=e2
  rw[←e3,←e4] at h2
  obtain⟨Ms',g1,g2⟩:=zbY e1
  rw[g1] at hT
  cases hT
  have hres:∀(f:PFr) (N:PM) (l:List Nat),pRes f N (l.map XR.tmp)=some (l.map f):=fun f N l=>by
   induction l with
   | nil=>rfl
   | cons a l ih=>simp only[List.map_cons,pRes,pResOne,ih]
  rw[hres] at h2
  cases h2
  simp only[List.map_cons,packP] at h3
  cases h3
  simpa [List.all_map] using h4
 rw[List.all_eq_true] at hL hp ⊢
 rintro⟨i,j⟩ hc
 have h1:=hL _ hc
 simp only[Bool.or_eq_true] at h1
 rcases h1 with h1|h1
 ·exact zdn hT h1
 ·unfold slotIn2 at h1
  split at h1
  ·rename_i a b ha hb
   split at h1
   ·rename_i z k s hop
    simp only[Bool.and_eq_true] at h1
    obtain⟨c1,c2⟩:=h1
    have hs:=hp s (List.contains_iff_mem.1 c1)
    cases hf:fr2 s with
    | p n o =>
     obtain⟨fri,A,B,q1,q2,q3,q4⟩:=zax hT ha
     obtain⟨frj,C,D,p1,p2,p3,p4⟩:=zax hT hb
     have p2':Ms[(i,j).2+1]?=some D:=p2
     have q2':Ms[(i,j).1+1]?=some B:=q2
     refine zc2 ?_
     simp only[chkP0,ha,q1,q2,p1,p2]
     rw[if_neg (by rw[hop];simp[XO.cls])]
     rw[hop]
     show chkV ops j (.t s) C D (fr2 s)=true
     rw[hf]
     show verP (some n) C D=true
     rcases p3 with⟨_,v,p3⟩|⟨_,p3⟩
     ·cases hopb:b.op with
      | call f l =>
       rw[hopb] at p3 c2
       obtain⟨ns,rfl⟩:=zcC c2 p3
       exact zdA ns C _
      | _=>rw[hopb] at c2;simp[calmOp] at c2
     ·rw[p3];simp[verP]
    | _=>rw[hf] at hs;simp[isPP] at hs
   ·cases h1
  ·cases h1
theorem zfq {E:PEnv} {F:PFin} {a b:XC} (hab:a=b) {ks:List KI} {fr:PFr} {M:PM} (w:WK E F b (.loop a::ks) fr M):WK E F (.loop a) ks fr M:=by
 rw[←hab] at w;exact zcF w
def fillC (z:List PV) (off n:Nat) (cs:List PV):Option (List PV):=if cs.length=n∧off+n≤z.length∧cs.all PV.scal=true then some (psplice z off cs) else none
theorem zaj {fr:PFr} (G:Nat→Option (List AV)) (z:List PV) (off n:Nat) (x:X) (ps:List (Nat×Nat×X)):fillP G fr z ((off,(n,x))::ps)=fillB fr G ps (fillC z off n (x.pv G fr).cells):=by
 simp only[fillP]
 unfold fillC
 split<;>rfl
theorem zac (z:List PV) (off n:Nat) (cs:List PV):fillC z off n cs=if cs.length=n∧off+n≤z.length∧cs.all PV.scal=true then some (psplice z off cs) else none:=rfl
end Go.Eng
namespace Go.Eng
structure FQ where
 p:WI
 q:WI
 q1:1≤q.v
 cop:Nat.gcd p.v.natAbs q.v.natAbs=1
theorem zkO {y:WI} (hy:1≤y.v):wlen (y.v-1).natAbs≤512:=by
 have h:=(zaF _).1 y.lim
 refine(zaF _).2 ?_
 unfold inR at *
 exact Nat.lt_of_le_of_lt (by omega) h
def FQ.l (f:FQ):WI:=⟨f.q.v-1,zkO f.q1⟩
noncomputable def fqP (f:FQ):PV:=.ag [.b (decide (f.p.v<0)),D f.p.v.natAbs,.b (decide (f.l.v<0)),D f.l.v.natAbs]
@[go_sem] theorem zv4 (M:PM) (d:Nat) (f:FQ):fz M (d+1+1) (fqP f)=some (fqP f,[]):=_root_.id rfl
@[go_sem] theorem zpP (f:FQ):(fqP f).cells=[.b (decide (f.p.v<0)),D f.p.v.natAbs,.b (decide (f.l.v<0)),D f.l.v.natAbs]:=_root_.id rfl
@[go_sem] theorem ztu (f:FQ):PV.ag [.b (decide (f.p.v<0)),D f.p.v.natAbs,.b (decide (f.l.v<0)),D f.l.v.natAbs]=fqP f:=_root_.id rfl
theorem zmO (x:WI) (e:Int):pf E0 37 [wiP x,.i .i64 e]=some (wiP x):=by
 refine zaa (xf:=zzQ) rfl (by simp[zzQ]) ?_
 simp only[zzQ]
 simp(disch:=omega)only[go_sem,seval,wqq]
theorem zdj (x g:WI) (h:g.v≠0):∃q:WI,q.v=x.v/g.v∧pf E0 21 [wiP x,wiP g]=some (wiP q):=by
 have fd:=zin x g h
 refine⟨x.div g h,rfl,?_⟩
 refine zaa (xf:=zzV) rfl (by simp[zzV]) ?_
 simp only[zzV]
 simp(disch:=omega)only[go_sem,seval,wqq,fd]
noncomputable def wi1:WI:=wiOf 1 (by decide)
theorem zpp:wi1.v=1:=rfl
theorem zcV (x y:WI):pf E0 20 [.lst [wiP x,wiP y]]=some (.tu [wiP (clip (x.v*y.v)),.i .i64 (lerr (x.v*y.v))]):=by
 refine zaa (xf:=zzG) rfl (by simp[zzG]) ?_
 simp only[zzG]
 have f1:pf E0 34 [.i .i64 1]=some (wiP wi1):=zbw (n:=1) (by decide)
 have m1:pf E0 38 [wiP wi1,wiP x]=some (.tu [wiP x,.i .i64 0]):=by
  have h:=zdW wi1 x
  rw[zpp,Int.one_mul,zaQ x.lim,zbn x.lim] at h
  exact h
 have m2:=zdW x y
 generalize wi1=w1 at *
 simp(disch:=omega)only[go_sem,seval,wqq,f1]
 refine zfq zzx.eq_1 ?_
 simp(disch:=omega)only[go_sem,seval,wqq,m1]
 refine zfq zzx.eq_1 ?_
 by_cases h:wlen (x.v*y.v).natAbs≤512
 ·have e:=zaQ h
  rw[e] at m2 ⊢
  simp(disch:=omega)only[go_sem,seval,wqq,m2]
  refine zfq zzx.eq_1 ?_
  simp(disch:=omega)only[go_sem,seval,wqq,m2]
 ·have e:=zeZ h
  have e2:=zeI h
  rw[e,e2] at m2 ⊢
  simp(disch:=omega)only[go_sem,seval,wqq,m2]
theorem znD:Nat.gcd wi0.v.natAbs wi1.v.natAbs=1:=by decide
noncomputable def fq0:FQ:=⟨wi0,wi1,by decide,znD⟩
theorem zmz:fqP fq0=.ag [.b false,.lst [],.b false,.lst []]:=by
 have h1:D (0:Int).natAbs=.lst []:=zpw.symm
 show PV.ag [.b (decide ((0:Int)<0)),D (0:Int).natAbs,.b (decide ((1:Int)-1<0)),D ((1:Int)-1).natAbs]=_
 rw[show (1:Int)-1=0 by decide,h1];rfl
theorem zhG (x y:WI) (hy:1≤y.v) (hc:Nat.gcd x.v.natAbs y.v.natAbs=1):pf E0 22 [wiP x,wiP y,.i .i64 0,.i .i64 0]=some (.tu [fqP ⟨x,y,hy,hc⟩,.i .i64 0]):=by
 refine zaa (xf:=zyJ) rfl (by simp[zyJ]) ?_
 simp only[zyJ]
 have f1:pf E0 34 [.i .i64 1]=some (wiP wi1):=zbw (n:=1) (by decide)
 have s1:=zox y wi1
 rw[zpp] at s1
 have m1:=zmO (clip (y.v-1)) (lerr (y.v-1))
 have cv:=zbF (zkO hy)
 generalize lerr (y.v-1)=le at *
 generalize wi1=w1 at *
 have hq:fqP ⟨x,y,hy,hc⟩=.ag [.b (decide (x.v<0)),D x.v.natAbs,.b (decide ((clip (y.v-1)).v<0)),D (clip (y.v-1)).v.natAbs]:=by rw[cv];rfl
 rw[hq]
 generalize clip (y.v-1)=z at *
 simp(disch:=omega)only[go_sem,seval,wqq]
 refine zaC [4,5] rfl (by simp only[go_sem,seval]) ?_
 simp(disch:=omega)only[go_sem,seval,wqq,f1,s1,m1,zaj,zac]
theorem zj3 (x y:WI) {e f:Int} (h:e≠0∨f≠0):pf E0 22 [wiP x,wiP y,.i .i64 e,.i .i64 f]=some (.tu [fqP fq0,.i .i64 4]):=by
 refine zaa (xf:=zyJ) rfl (by simp[zyJ]) ?_
 simp only[zyJ]
 rw[zmz]
 by_cases he:e=0
 ·have hf:(f=0)=False:=by simp;rcases h with h|h<;>first|exact h|exact absurd he h
  have he:(e=0)=True:=by simp[he]
  simp(disch:=omega)only[go_sem,seval,wqq,he,hf]
 ·have he:(e=0)=False:=by simp[he]
  simp(disch:=omega)only[go_sem,seval,wqq,he]
theorem zos (x y:WI) (h:y.v=0):pf E0 24 [wiP x,wiP y]=some (.tu [fqP fq0,.i .i64 1]):=by
 refine zaa (xf:=zyD) rfl (by simp[zyD]) ?_
 simp only[zyD]
 rw[zmz]
 have sy:=zce y
 have sc:(cmpI y.v 0=0)=True:=by rw[h];simp[cmpI]
 simp(disch:=omega)only[go_sem,seval,wqq,sy,sc]
theorem zjX (x y g:WI) (hg:g.v=gI x.v y.v) (hy:0<y.v):∃f:FQ,f.p.v=lowP x.v y.v∧f.q.v=lowQ x.v y.v∧∃a b:WI,pf E0 21 [wiP x,wiP g]=some (wiP a)∧pf E0 21 [wiP y,wiP g]=some (wiP b)∧pf E0 22 [wiP a,wiP b,.i .i64 0,.i .i64 0]=some (.tu [fqP f,.i .i64 0]):=by
 have gn:g.v≠0:=by rw[hg];exact zfJ (by omega)
 obtain⟨a,ha,fa⟩:=zdj x g gn
 obtain⟨b,hb,fb⟩:=zdj y g gn
 have e1:a.v=lowP x.v y.v:=by rw[ha,hg];unfold lowP;rw[if_neg (by omega)]
 have e2:b.v=lowQ x.v y.v:=by rw[hb,hg];unfold lowQ;rw[if_neg (by omega)]
 have hq:1≤b.v:=by rw[e2];exact zgA (by omega)
 have hc:Nat.gcd a.v.natAbs b.v.natAbs=1:=by rw[e1,e2];exact zgz (by omega)
 exact⟨⟨a,b,hq,hc⟩,e1,e2,a,b,fa,fb,zhG a b hq hc⟩
theorem zeq (p q:Int) (h:q<0):lowP (-p) (-q)=lowP p q∧lowQ (-p) (-q)=lowQ p q:=by
 have h2:¬ -q<0:=by omega
 unfold lowP lowQ
 rw[zmD]
 simp only[h,h2,if_true,if_false,and_self]
theorem zhy (x y:WI) (h:y.v≠0):∃f:FQ,f.p.v=lowP x.v y.v∧f.q.v=lowQ x.v y.v∧pf E0 24 [wiP x,wiP y]=some (.tu [fqP f,.i .i64 0]):=by
 by_cases hn:y.v<0
 ·have hg:=zio x.neg y.neg
  obtain⟨f,h1,h2,a,b,fa,fb,fl⟩:=zjX x.neg y.neg (x.neg.gcd y.neg) rfl (by show 0 < -y.v;omega)
  obtain⟨l1,l2⟩:=zeq x.v y.v hn
  refine⟨f,h1.trans l1,h2.trans l2,?_⟩
  generalize x.neg.gcd y.neg=g at *
  refine zaa (xf:=zyD) rfl (by simp[zyD]) ?_
  simp only[zyD]
  have sy:=zce y
  have sc:cmpI y.v 0 = -1:=by unfold cmpI;rw[if_pos hn]
  rw[sc] at sy
  have n1:=zip x
  have n2:=zip y
  generalize x.neg=xn at *
  generalize y.neg=yn at *
  simp(disch:=omega)only[go_sem,seval,wqq,sy]
  refine zaC [3] rfl (by simp only[go_sem,seval]) ?_
  simp(disch:=omega)only[go_sem,seval,wqq,n1,n2,hg]
  refine zaC [3,6] rfl (by simp only[go_sem,seval]) ?_
  simp(disch:=omega)only[go_sem,seval,wqq,fa,fb,fl]
 ·have hg:=zio x y
  obtain⟨f,h1,h2,a,b,fa,fb,fl⟩:=zjX x y (x.gcd y) rfl (by omega)
  refine⟨f,h1,h2,?_⟩
  generalize x.gcd y=g at *
  refine zaa (xf:=zyD) rfl (by simp[zyD]) ?_
  simp only[zyD]
  have sy:=zce y
  have sc:cmpI y.v 0=1:=by unfold cmpI;rw[if_neg hn,if_pos (by omega)]
  rw[sc] at sy
  simp(disch:=omega)only[go_sem,seval,wqq,sy,hg]
  refine zaC [3,6] rfl (by simp only[go_sem,seval]) ?_
  simp(disch:=omega)only[go_sem,seval,wqq,fa,fb,fl]
end Go.Eng
namespace Go.Eng
theorem zhD (f:FQ):pf E0 64 [fqP f]=some (wiP f.p):=by
 refine zaa (xf:=zyu) rfl (by simp[zyu]) ?_
 simp only[zyu]
 simp(disch:=omega)only[go_sem,seval,wqq]
theorem zcf (f:FQ):pf E0 19 [fqP f]=some (wiP f.q):=by
 refine zaa (xf:=zyt) rfl (by simp[zyt]) ?_
 simp only[zyt]
 have f1:pf E0 34 [.i .i64 1]=some (wiP wi1):=zbw (n:=1) (by decide)
 have s1:=zgF f.l wi1
 have e:f.l.v+wi1.v=f.q.v:=by show f.q.v-1+1=f.q.v;omega
 have hc:clip f.q.v=f.q:=zbn f.q.lim
 rw[e,hc] at s1
 have m1:=zmO f.q (lerr f.q.v)
 generalize lerr f.q.v=le at *
 generalize wi1=w1 at *
 simp(disch:=omega)only[go_sem,seval,wqq]
 refine zb1 [3] rfl ?_ ?_
 ·simp(disch:=omega)only[go_sem,seval,wqq,f1,s1,m1]
  exact⟨_,rfl,rfl⟩
 simp(disch:=omega)only[go_sem,seval,wqq,f1,s1,m1]
theorem zoE {p q:Int} (hp:Fits64 p) (hq:Fits64 q) (h:q≠0):∃f:FQ,f.p.v=lowP p q∧f.q.v=lowQ p q∧pf E0 17 [.i .i64 p,.i .i64 q]=some (.tu [fqP f,.i .i64 0]):=by
 obtain⟨x,hx,fx⟩:=zje hp
 obtain⟨y,hy,fy⟩:=zje hq
 obtain⟨f,h1,h2,fm⟩:=zhy x y (by rw[hy];exact h)
 rw[hx,hy] at h1 h2
 refine⟨f,h1,h2,?_⟩
 refine zaa (xf:=zAw) rfl (by simp[zAw]) ?_
 simp only[zAw]
 simp(disch:=omega)only[go_sem,seval,wqq,fx,fy,fm]
theorem znG (x y:WI):(x.gcd y).v=gI x.v y.v:=rfl
@[go_sem] theorem ztH (x y:WI):group 2 2 [.b (decide (x.v<0)),Dw (wlen x.v.natAbs) x.v.natAbs,.b (decide (y.v<0)),Dw (wlen y.v.natAbs) y.v.natAbs]=[wiP x,wiP y]:=_root_.id rfl
theorem zjZ (a b:FQ) {g s t cx cy cs cd:WI} {ex ey es ed:Int} (hg:pf E0 18 [wiP a.q,wiP b.q]=some (wiP g)) (fs:pf E0 21 [wiP b.q,wiP g]=some (wiP s)) (ft:pf E0 21 [wiP a.q,wiP g]=some (wiP t))
  (nx:pf E0 20 [.lst [wiP a.p,wiP s]]=some (.tu [wiP cx,.i .i64 ex])) (ny:pf E0 20 [.lst [wiP b.p,wiP t]]=some (.tu [wiP cy,.i .i64 ey])) (ns:pf E0 23 [wiP cx,wiP cy]=some (.tu [wiP cs,.i .i64 es]))
  (nd:pf E0 20 [.lst [wiP t,wiP b.q]]=some (.tu [wiP cd,.i .i64 ed])) (f:FQ) (e:Int)
  (hR:(ex=0∧ey=0∧es=0∧ed=0∧pf E0 24 [wiP cs,wiP cd]=some (.tu [fqP f,.i .i64 e]))∨(¬(ex=0∧ey=0∧es=0∧ed=0)∧f=fq0∧e=4)) :
  pf E0 9 [fqP a,fqP b]=some (.tu [fqP f,.i .i64 e]):=by
 have da:=zcf a
 have db:=zcf b
 refine zaa (xf:=zAe) rfl (by simp[zAe]) ?_
 simp only[zAe]
 simp(disch:=omega)only[go_sem,seval,wqq]
 refine zaC [3] rfl (by simp only[go_sem,seval]) ?_
 simp(disch:=omega)only[go_sem,seval,wqq,da,db,hg]
 refine zb1 [21,6] rfl ?_ ?_
 ·simp(disch:=omega)only[go_sem,seval,wqq,db,fs,nx,zaj,zac]
  exact⟨_,rfl,rfl⟩
 simp(disch:=omega)only[go_sem,seval,wqq,db,fs,nx,zaj,zac]
 refine zb1 [32,6] rfl ?_ ?_
 ·simp(disch:=omega)only[go_sem,seval,wqq,da,ft,ny,zaj,zac]
  exact⟨_,rfl,rfl⟩
 simp(disch:=omega)only[go_sem,seval,wqq,da,ft,ny,ns,zaj,zac]
 refine zaC [6,3] rfl (by simp only[go_sem,seval]) ?_
 rcases hR with⟨h1,h2,h3,h4,hM⟩|⟨hn,hf,he⟩
 ·subst h1 h2 h3 h4
  simp(disch:=omega)only[go_sem,seval,wqq,da,db,ft,nd,hM,zaj,zac]
 ·subst hf he
  rw[zmz]
  by_cases h1:ex=0
  ·by_cases h2:ey=0
   ·by_cases h3:es=0
    ·have h4:(ed=0)=False:=by simp;exact fun q=>hn ⟨h1,h2,h3,q⟩
     subst h1 h2 h3
     simp(disch:=omega)only[go_sem,seval,wqq,da,db,ft,nd,h4,zaj,zac]
    ·have h3:(es=0)=False:=by simp[h3]
     subst h1 h2
     simp(disch:=omega)only[go_sem,seval,wqq,da,db,ft,nd,h3,zaj,zac]
   ·have h2:(ey=0)=False:=by simp[h2]
    subst h1
    simp(disch:=omega)only[go_sem,seval,wqq,da,db,ft,nd,h2,zaj,zac]
  ·have h1:(ex=0)=False:=by simp[h1]
   simp(disch:=omega)only[go_sem,seval,wqq,da,db,ft,nd,h1,zaj,zac]
def adX (a b:FQ):Int:=a.p.v*(b.q.v/gI a.q.v b.q.v)
def adY (a b:FQ):Int:=b.p.v*(a.q.v/gI a.q.v b.q.v)
def adD (a b:FQ):Int:=a.q.v/gI a.q.v b.q.v*b.q.v
def adOk (a b:FQ):Prop:=inR (adX a b).natAbs∧inR (adY a b).natAbs∧inR (adX a b+adY a b).natAbs∧inR (adD a b).natAbs
theorem ziE (a b:FQ):adD a b≠0:=by
 have ha:=a.q1
 have hb:=b.q1
 have h1:a.q.v/gI a.q.v b.q.v*gI a.q.v b.q.v=a.q.v:=Int.ediv_mul_cancel (zbR _ _)
 have h2:a.q.v/gI a.q.v b.q.v≠0:=fun q=>by rw[q] at h1;omega
 exact Int.mul_ne_zero h2 (by omega)
theorem zdR {z:Int} (h:inR z.natAbs):(clip z).v=z∧lerr z=0:=⟨zbF ((zaF _).2 h),zaQ ((zaF _).2 h)⟩
theorem zgw {z:Int} (h:lerr z=0):inR z.natAbs:=by
 by_cases q:wlen z.natAbs≤512
 ·exact(zaF _).1 q
 ·rw[zeZ q] at h;cases h
theorem zhB (a b:FQ):(adOk a b→∃f:FQ,f.p.v=lowP (adX a b+adY a b) (adD a b)∧f.q.v=lowQ (adX a b+adY a b) (adD a b)∧pf E0 9 [fqP a,fqP b]=some (.tu [fqP f,.i .i64 0])) ∧
  (¬adOk a b→pf E0 9 [fqP a,fqP b]=some (.tu [fqP fq0,.i .i64 4])):=by
 have hg:=zio a.q b.q
 have gv:=znG a.q b.q
 have gn:(a.q.gcd b.q).v≠0:=by rw[gv];exact zfJ (by have:=b.q1;omega)
 obtain⟨s,hs,fs⟩:=zdj b.q (a.q.gcd b.q) gn
 obtain⟨t,ht,ft⟩:=zdj a.q (a.q.gcd b.q) gn
 rw[gv] at hs ht
 have nx:=zcV a.p s
 have ny:=zcV b.p t
 have nd:=zcV t b.q
 have eX:a.p.v*s.v=adX a b:=by rw[hs];rfl
 have eY:b.p.v*t.v=adY a b:=by rw[ht];rfl
 have eD:t.v*b.q.v=adD a b:=by rw[ht];rfl
 rw[eX] at nx
 rw[eY] at ny
 rw[eD] at nd
 have ns:=zgF (clip (adX a b)) (clip (adY a b))
 constructor
 ·rintro⟨r1,r2,r3,r4⟩
  obtain⟨c1,l1⟩:=zdR r1
  obtain⟨c2,l2⟩:=zdR r2
  obtain⟨c3,l3⟩:=zdR r3
  obtain⟨c4,l4⟩:=zdR r4
  rw[c1,c2] at ns
  obtain⟨f,h1,h2,fm⟩:=zhy (clip (adX a b+adY a b)) (clip (adD a b)) (by rw[c4];exact ziE a b)
  rw[c3,c4] at h1 h2
  exact⟨f,h1,h2,zjZ a b hg fs ft nx ny ns nd f 0 (.inl ⟨l1,l2,l3,l4,fm⟩)⟩
 ·intro hn
  refine zjZ a b hg fs ft nx ny ns nd fq0 4 (.inr ⟨fun ⟨l1,l2,l3,l4⟩=>hn ?_,rfl,rfl⟩)
  have r1:=zgw l1
  have r2:=zgw l2
  rw[(zdR r1).1,(zdR r2).1] at l3
  exact⟨r1,r2,zgw l3,zgw l4⟩
end Go.Eng
namespace Go.Eng
def FQ.neg (f:FQ):FQ:=⟨f.p.neg,f.q,f.q1,by show Nat.gcd (-f.p.v).natAbs f.q.v.natAbs=1;rw[Int.natAbs_neg];exact f.cop⟩
theorem zj0 (a b:FQ) {g h u v w z cp cq:WI} {ep eq:Int} (f:FQ) (e:Int) (hg:pf E0 18 [wiP a.p,wiP b.q]=some (wiP g)) (hh:pf E0 18 [wiP b.p,wiP a.q]=some (wiP h))
  (fu:pf E0 21 [wiP a.p,wiP g]=some (wiP u)) (fv:pf E0 21 [wiP b.p,wiP h]=some (wiP v)) (n1:pf E0 20 [.lst [wiP u,wiP v]]=some (.tu [wiP cp,.i .i64 ep]))
  (fw:pf E0 21 [wiP a.q,wiP h]=some (wiP w)) (fz':pf E0 21 [wiP b.q,wiP g]=some (wiP z)) (n2:pf E0 20 [.lst [wiP w,wiP z]]=some (.tu [wiP cq,.i .i64 eq]))
  (fl:pf E0 22 [wiP cp,wiP cq,.i .i64 ep,.i .i64 eq]=some (.tu [fqP f,.i .i64 e])):pf E0 8 [fqP a,fqP b]=some (.tu [fqP f,.i .i64 e]):=by
 have da:=zcf a
 have db:=zcf b
 refine zaa (xf:=zAi) rfl (by simp[zAi]) ?_
 simp only[zAi]
 simp(disch:=omega)only[go_sem,seval,wqq]
 refine zb1 [12,17,2] rfl ?_ ?_
 ·simp(disch:=omega)only[go_sem,seval,wqq,da,db,hg,hh]
  exact⟨_,rfl,rfl⟩
 simp(disch:=omega)only[go_sem,seval,wqq,da,db,hg,hh]
 refine zb1 [27,7] rfl ?_ ?_
 ·simp(disch:=omega)only[go_sem,seval,wqq,fu,fv,n1,zaj,zac]
  exact⟨_,rfl,rfl⟩
 simp(disch:=omega)only[go_sem,seval,wqq,fu,fv,n1,zaj,zac]
 refine zaC [7,3,6] rfl (by simp only[go_sem,seval]) ?_
 simp(disch:=omega)only[go_sem,seval,wqq,da,db,fw,fz',n2,fl,zaj,zac]
end Go.Eng
namespace Go.Eng
theorem ziY {p s:Int} (hs:s≠0):Nat.Coprime (p/gI p s).natAbs (s/gI p s).natAbs:=by
 have g:=zdO (p:=p) hs
 have e1:(p/gI p s).natAbs*(gI p s).natAbs=p.natAbs:=by rw[←Int.natAbs_mul,Int.ediv_mul_cancel (zbR p s)]
 have e2:(s/gI p s).natAbs*(gI p s).natAbs=s.natAbs:=by rw[←Int.natAbs_mul,Int.ediv_mul_cancel (zcb p s)]
 have e3:(gI p s).natAbs=Nat.gcd p.natAbs s.natAbs:=Int.natAbs_natCast _
 have e4:=Nat.gcd_mul_right (p/gI p s).natAbs (gI p s).natAbs (s/gI p s).natAbs
 rw[e1,e2,←e3] at e4
 have:0<(gI p s).natAbs:=by omega
 exact Nat.eq_of_mul_eq_mul_right this (by rw[Nat.one_mul];exact e4.symm)
theorem zn6 {p q r s:Int} (hq:0<q) (hs:0<s) (c1:Nat.gcd p.natAbs q.natAbs=1) (c2:Nat.gcd r.natAbs s.natAbs=1) :
  p/gI p s*(r/gI r q)=lowP (p*r) (q*s)∧q/gI r q*(s/gI p s)=lowQ (p*r) (q*s)∧0<q/gI r q*(s/gI p s)∧Nat.gcd (p/gI p s*(r/gI r q)).natAbs (q/gI r q*(s/gI p s)).natAbs=1:=by
 have g1:=zdO (p:=p) (q:=s) (by omega)
 have g2:=zdO (p:=r) (q:=q) (by omega)
 have k1:=ziY (p:=p) (s:=s) (by omega)
 have k2:=ziY (p:=r) (s:=q) (by omega)
 have a1:p/gI p s*gI p s=p:=Int.ediv_mul_cancel (zbR p s)
 have a2:s/gI p s*gI p s=s:=Int.ediv_mul_cancel (zcb p s)
 have a3:r/gI r q*gI r q=r:=Int.ediv_mul_cancel (zbR r q)
 have a4:q/gI r q*gI r q=q:=Int.ediv_mul_cancel (zcb r q)
 generalize gI p s=g at *
 generalize gI r q=h at *
 generalize p/g=u at *
 generalize s/g=z at *
 generalize r/h=v at *
 generalize q/h=w at *
 have z0:0<z:=Int.pos_of_mul_pos_left (by rw[a2];exact hs) g1
 have w0:0<w:=Int.pos_of_mul_pos_left (by rw[a4];exact hq) g2
 have du:u.natAbs∣p.natAbs:=Int.natAbs_dvd_natAbs.2 ⟨g,a1.symm⟩
 have dw:w.natAbs∣q.natAbs:=Int.natAbs_dvd_natAbs.2 ⟨h,a4.symm⟩
 have dv:v.natAbs∣r.natAbs:=Int.natAbs_dvd_natAbs.2 ⟨h,a3.symm⟩
 have dz:z.natAbs∣s.natAbs:=Int.natAbs_dvd_natAbs.2 ⟨g,a2.symm⟩
 have k3:Nat.Coprime u.natAbs w.natAbs:=Nat.Coprime.coprime_dvd_left du (Nat.Coprime.coprime_dvd_right dw c1)
 have k4:Nat.Coprime v.natAbs z.natAbs:=Nat.Coprime.coprime_dvd_left dv (Nat.Coprime.coprime_dvd_right dz c2)
 have hc:Nat.gcd (u*v).natAbs (w*z).natAbs=1:=by
  rw[Int.natAbs_mul,Int.natAbs_mul]
  exact Nat.Coprime.mul_left (Nat.Coprime.mul_right k3 k1) (Nat.Coprime.mul_right k2 k4)
 have hp:0<w*z:=Int.mul_pos w0 z0
 have hx:q*s≠0:=Int.mul_ne_zero (by omega) (by omega)
 have cr:=zfM (p:=p*r) hx
 obtain⟨e1,e2⟩:=ze1 (p:=u*v) (q:=w*z) hp (zgA hx) hc (zgz hx) (by
  apply Int.eq_of_mul_eq_mul_right (a:=q*s) hx
  have:u*v*(q*s)=p*r*(w*z):=by rw[←a1,←a2,←a3,←a4];grind
  calc u*v*lowQ (p*r) (q*s)*(q*s)=u*v*(q*s)*lowQ (p*r) (q*s):=by grind
   _=p*r*(w*z)*lowQ (p*r) (q*s):=by rw[this]
   _=p*r*lowQ (p*r) (q*s)*(w*z):=by grind
   _=lowP (p*r) (q*s)*(q*s)*(w*z):=by rw[cr]
   _=lowP (p*r) (q*s)*(w*z)*(q*s):=by grind)
 exact⟨e1,e2,hp,hc⟩
def muP (a b:FQ):Int:=lowP (a.p.v*b.p.v) (a.q.v*b.q.v)
def muQ (a b:FQ):Int:=lowQ (a.p.v*b.p.v) (a.q.v*b.q.v)
theorem zhC (a b:FQ):(inR (muP a b).natAbs∧inR (muQ a b).natAbs→∃f:FQ,f.p.v=muP a b∧f.q.v=muQ a b∧pf E0 8 [fqP a,fqP b]=some (.tu [fqP f,.i .i64 0])) ∧
  (¬(inR (muP a b).natAbs∧inR (muQ a b).natAbs)→pf E0 8 [fqP a,fqP b]=some (.tu [fqP fq0,.i .i64 4])):=by
 have qa:=a.q1
 have qb:=b.q1
 obtain⟨m1,m2,m3,m4⟩:=zn6 (p:=a.p.v) (q:=a.q.v) (r:=b.p.v) (s:=b.q.v) (by omega) (by omega) a.cop b.cop
 have hg:=zio a.p b.q
 have hh:=zio b.p a.q
 have gv:=znG a.p b.q
 have hv:=znG b.p a.q
 have gn:(a.p.gcd b.q).v≠0:=by rw[gv];exact zfJ (by omega)
 have hn:(b.p.gcd a.q).v≠0:=by rw[hv];exact zfJ (by omega)
 obtain⟨u,eu,fu⟩:=zdj a.p _ gn
 obtain⟨v,ev,fv⟩:=zdj b.p _ hn
 obtain⟨w,ew,fw⟩:=zdj a.q _ hn
 obtain⟨z,ez,fz'⟩:=zdj b.q _ gn
 rw[gv] at eu ez
 rw[hv] at ev ew
 have n1:=zcV u v
 have n2:=zcV w z
 have e1:u.v*v.v=muP a b:=by rw[eu,ev];exact m1
 have e2:w.v*z.v=muQ a b:=by rw[ew,ez];exact m2
 rw[m1,m2] at m4
 rw[m2] at m3
 have m3:0<muQ a b:=m3
 have m4:Nat.gcd (muP a b).natAbs (muQ a b).natAbs=1:=m4
 rw[e1] at n1
 rw[e2] at n2
 constructor
 ·rintro⟨r1,r2⟩
  obtain⟨c1,l1⟩:=zdR r1
  obtain⟨c2,l2⟩:=zdR r2
  have fl:=zhG (clip (muP a b)) (clip (muQ a b)) (by rw[c2];omega) (by rw[c1,c2];exact m4)
  rw[l1] at n1
  rw[l2] at n2
  exact⟨⟨clip (muP a b),clip (muQ a b),by rw[c2];omega,by rw[c1,c2];exact m4⟩,c1,c2,zj0 a b _ 0 hg hh fu fv n1 fw fz' n2 fl⟩
 ·intro hno
  refine zj0 a b fq0 4 hg hh fu fv n1 fw fz' n2 (zj3 _ _ ?_)
  by_cases l1:lerr (muP a b)=0
  ·right
   intro l2
   exact hno ⟨zgw l1,zgw l2⟩
  ·exact .inl l1
end Go.Eng
namespace Go.Eng
end Go.Eng
namespace Go.Eng
noncomputable def ftx (p q:Int):List UInt8:=if q=1 then decI p else decI p++[47]++decI q
theorem zc3 (x:WI):(decI x.v).length≤1000000:=by
 have h:=zeV ((zaF _).1 x.lim)
 have h1:(dec x.v.natAbs).length≤4956+1:=by
  unfold dec;split
  ·simp
  ·rw[zbQ];omega
 unfold decI;split<;>(try simp only[List.length_cons])<;>omega
theorem zj1 (f:FQ):pf E0 16 [fqP f]=some (.s (ftx f.p.v f.q.v)):=by
 have df:=zcf f
 have s1:=zra f.p
 have s2:=zra f.q
 have sg:=zce f.l
 have l1:=zc3 f.p
 have l2:=zc3 f.q
 have hl:f.l.v=f.q.v-1:=rfl
 have q1:=f.q1
 refine zaa (xf:=zyr) rfl (by simp[zyr]) ?_
 simp only[zyr]
 unfold ftx
 by_cases h:f.q.v=1
 ·rw[if_pos h]
  have sc:(cmpI f.l.v 0=0)=True:=by rw[hl,h];simp[cmpI]
  simp(disch:=omega)only[go_sem,seval,wqq,sg,sc,s1]
 ·rw[if_neg h]
  have sc:(cmpI f.l.v 0=0)=False:=by
   have:cmpI f.l.v 0=1:=by unfold cmpI;rw[if_neg (by omega),if_pos (by omega)]
   rw[this];simp
  have a1:binP .add (.s (decI f.p.v)) (.s [47])=some (.s (decI f.p.v++[47])):=zbu _ _ (by simp only[List.length_cons,List.length_nil];omega)
  have a2:binP .add (.s (decI f.p.v++[47])) (.s (decI f.q.v))=some (.s (decI f.p.v++[47]++decI f.q.v)):=zbu _ _ (by simp only[List.length_append,List.length_cons,List.length_nil];omega)
  simp(disch:=omega)only[go_sem,seval,wqq,sg,sc]
  refine zaC [1] rfl (by simp only[go_sem,seval]) ?_
  simp(disch:=omega)only[go_sem,seval,wqq,df,s1,s2,a1,a2]
end Go.Eng
namespace Go.Eng
noncomputable def rfP (p q:Int):PV:=.ag [.b (decide (p<0)),T p.natAbs,.b (decide (q<0)),T q.natAbs]
@[go_sem] theorem zv7 (M:PM) (d:Nat) (p q:Int):fz M (d+1+1) (rfP p q)=some (rfP p q,[]):=_root_.id rfl
@[go_sem] theorem zpR (p q:Int):(rfP p q).cells=[.b (decide (p<0)),T p.natAbs,.b (decide (q<0)),T q.natAbs]:=_root_.id rfl
@[go_sem] theorem ztx (p q:Int):PV.ag [.b (decide (p<0)),T p.natAbs,.b (decide (q<0)),T q.natAbs]=rfP p q:=_root_.id rfl
theorem zrp {n:Int} (h:Fits64 n):pf E0 185 [.i .i64 n]=some (rfP n 1):=by
 have h1:=zee n h
 have h2:=zee 1 (by decide)
 obtain⟨o,ho⟩:∃o:Int,nP o=nP 1∧rfP n o=rfP n 1:=⟨1,rfl,rfl⟩
 rw[←ho.1] at h2
 rw[←ho.2]
 clear ho
 refine zaa (xf:=zAL) rfl (by simp[zAL]) ?_
 simp only[zAL]
 simp(disch:=omega)only[go_sem,seval,wqq,h1,h2,zaj,zac]
theorem zj9 (p:Int):pf E0 182 [nP p,nP 0]=some (.tu [rfP 0 1,.i .i64 1]):=by
 have h1:=zrp (n:=0) (by decide)
 obtain⟨o,ho⟩:∃o:Int,o=0:=⟨0,rfl⟩
 obtain⟨r,hr⟩:∃r:Int,r=1:=⟨1,rfl⟩
 have t0:((tlen o.natAbs:Int)=0)=True:=by rw[ho,Int.natAbs_zero,zaN];simp
 have e1:nP 0=nP o:=by rw[ho]
 have e2:rfP 0 1=rfP o r:=by rw[ho,hr]
 rw[e2] at h1
 rw[e1,e2]
 clear e1 e2 ho hr
 refine zaa (xf:=zy4) rfl (by simp[zy4]) ?_
 simp only[zy4]
 simp(disch:=omega)only[go_sem,seval,wqq,t0,h1]
theorem ze9 (p q:Int) (h:q≠0) (lp:tlen p.natAbs<90000) (lq:tlen q.natAbs<90000):pf E0 182 [nP p,nP q]=some (.tu [rfP (lowP p q) (lowQ p q),.i .i64 0]):=by
 have t0:((tlen q.natAbs:Int)=0)=False:=by have:=zaY (v:=q.natAbs) (by omega);simp;omega
 refine zaa (xf:=zy4) rfl (by simp[zy4]) ?_
 simp only[zy4]
 by_cases hn:q<0
 ·have sn:decide (q<0)=true:=by simpa using hn
  have n1:=zd1 p (by omega)
  have n2:=zd1 q (by omega)
  have f1:PV.ag [PV.b true,T q.natAbs]=nP q:=by rw[←sn];rfl
  have f2:PV.ag [PV.b true,Tw (tlen q.natAbs) q.natAbs]=nP q:=by rw[←sn];rfl
  obtain⟨l1,l2⟩:=zeq p q hn
  have gN:=zfJ (p := -p) (q := -q) (by omega)
  have gl:tlen (gI (-p) (-q)).natAbs<90000:=by
   rw[zmD]
   have:(gI p q).natAbs≤q.natAbs:=by
    unfold gI;rw[Int.natAbs_natCast];exact Nat.gcd_le_right _ (by omega)
   have:=zao this
   omega
  have g:=zmQ (-p) (-q) (by rw[Int.natAbs_neg];omega) (by rw[Int.natAbs_neg];omega)
  have d1:=zex gN (x := -p) (by rw[Int.natAbs_neg];omega) (by omega)
  have d2:=zex gN (x := -q) (by rw[Int.natAbs_neg];omega) (by omega)
  rw[←l1,←l2]
  have e1:lowP (-p) (-q) = -p/gI (-p) (-q):=by unfold lowP;rw[if_neg (by omega)]
  have e2:lowQ (-p) (-q) = -q/gI (-p) (-q):=by unfold lowQ;rw[if_neg (by omega)]
  rw[e1,e2]
  have hg:nP (((Nat.gcd (-p).natAbs (-q).natAbs:Nat):Int))=nP (gI (-p) (-q)):=rfl
  rw[hg] at g
  generalize gI (-p) (-q)=G at *
  generalize-p=P at *
  generalize-q=Q at *
  simp(disch:=omega)only[go_sem,seval,wqq,t0,sn,f1,f2,n1,n2,g,d1,d2,zaj,zac]
 ·have sn:decide (q<0)=false:=by simpa using hn
  have f1:PV.ag [PV.b false,T q.natAbs]=nP q:=by rw[←sn];rfl
  have f2:PV.ag [PV.b false,Tw (tlen q.natAbs) q.natAbs]=nP q:=by rw[←sn];rfl
  have gN:=zfJ (p:=p) (q:=q) h
  have gl:tlen (gI p q).natAbs<90000:=by
   have:(gI p q).natAbs≤q.natAbs:=by
    unfold gI;rw[Int.natAbs_natCast];exact Nat.gcd_le_right _ (by omega)
   have:=zao this
   omega
  have g:=zmQ p q (by omega) (by omega)
  have d1:=zex gN (x:=p) (by omega) (by omega)
  have d2:=zex gN (x:=q) (by omega) (by omega)
  have e1:lowP p q=p/gI p q:=by unfold lowP;rw[if_neg hn]
  have e2:lowQ p q=q/gI p q:=by unfold lowQ;rw[if_neg hn]
  rw[e1,e2]
  have hg:nP (((Nat.gcd p.natAbs q.natAbs:Nat):Int))=nP (gI p q):=rfl
  rw[hg] at g
  generalize gI p q=G at *
  simp(disch:=omega)only[go_sem,seval,wqq,t0,sn,f1,f2,g,d1,d2,zaj,zac]
end Go.Eng
namespace Go.Eng
end Go.Eng
namespace Go.Eng
theorem zd2 (p q r s:Int) (lp:tlen p.natAbs<20000) (lq:tlen q.natAbs<20000) (lr:tlen r.natAbs<20000) (ls:tlen s.natAbs<20000):pf E0 200 [rfP p q,rfP r s]=some (.i .i64 (cmpI (p*s) (r*q))):=by
 have t1:=zaq p s
 have t2:=zaq r q
 have m1:=zd0 p s (by omega) (by omega)
 have m2:=zd0 r q (by omega) (by omega)
 have c:=za7 (p*s) (r*q) (by omega) (by omega)
 generalize p*s=x at *
 generalize r*q=y at *
 refine zaa (xf:=zzq) rfl (by simp[zzq]) ?_
 simp only[zzq]
 simp(disch:=omega)only[go_sem,seval,wqq]
 refine zb1 [10,12] rfl ?_ ?_
 ·simp(disch:=omega)only[go_sem,seval,wqq,m1,m2,c]
  exact⟨_,rfl,rfl⟩
 simp(disch:=omega)only[go_sem,seval,wqq,m1,m2,c]
end Go.Eng
namespace Go.Eng
end Go.Eng
namespace Go.Eng
theorem zdi {z:Int} (h:tlen z.natAbs<1230):inR z.natAbs:=(zlj _).1 (.inl h)
theorem zqu {z:Int} (h:inR z.natAbs):wlen z.natAbs≤512:=(zaF _).2 h
end Go.Eng
namespace Go.Eng
theorem zkM {x y:WI} (h:x.v=y.v):x=y:=by cases x;cases y;cases h;rfl
theorem zhc {f g:FQ} (h1:f.p.v=g.p.v) (h2:f.q.v=g.q.v):f=g:=by
 have e1:=zkM h1
 have e2:=zkM h2
 cases f;cases g
 simp only at e1 e2
 subst e1 e2;rfl
def FQ.is (f:FQ) (n d:Int):Prop:=f.p.v*d=n*f.q.v
theorem zeo {f:FQ} {n d:Int} (h:d≠0) (h1:f.p.v=lowP n d) (h2:f.q.v=lowQ n d):f.is n d:=by
 unfold FQ.is;rw[h1,h2];exact zfM h
theorem zeW (f:FQ):f.is f.p.v f.q.v:=rfl
theorem znT {f g:FQ} {n d n' d':Int} (hd:d≠0) (hd':d'≠0) (hf:f.is n d) (hg:g.is n' d') (e:n*d'=n'*d):f=g:=by
 unfold FQ.is at hf hg
 have qf:=f.q1
 have qg:=g.q1
 have key:f.p.v*g.q.v=g.p.v*f.q.v:=by
  apply Int.eq_of_mul_eq_mul_right (a:=d*d') (Int.mul_ne_zero hd hd')
  calc f.p.v*g.q.v*(d*d')=f.p.v*d*(g.q.v*d'):=by grind
   _=n*f.q.v*(g.q.v*d'):=by rw[hf]
   _=n*d'*(f.q.v*g.q.v):=by grind
   _=n'*d*(f.q.v*g.q.v):=by rw[e]
   _=n'*g.q.v*(f.q.v*d):=by grind
   _=g.p.v*d'*(f.q.v*d):=by rw[hg]
   _=g.p.v*f.q.v*(d*d'):=by grind
 obtain⟨a,b⟩:=ze1 (by omega) (by omega) f.cop g.cop key
 exact zhc a b
theorem zhk {f:FQ} {n d:Int} (h:f.is n d) (k:Int):f.is (n*k) (d*k):=by
 unfold FQ.is at *
 rw[←Int.mul_assoc,h];grind
theorem zxY (n:Nat):(10:Nat)^(4*n)=10000^n:=by rw[Nat.pow_mul]
theorem zdd (x:WI):tlen x.v.natAbs≤1239:=by
 have h:=zeV ((zaF _).1 x.lim)
 obtain⟨n,hn⟩:∃n:Nat,n=1239:=⟨_,rfl⟩
 have h:dlen x.v.natAbs≤4*n:=by omega
 rw[zap,zxY] at h
 rw[←hn,zaP]
 exact h
def fsz (n:Nat) (f:FQ):Prop:=tlen f.p.v.natAbs≤n∧tlen f.q.v.natAbs≤n
theorem zh3 {a g:Int} (h:g∣a):tlen (a/g).natAbs≤tlen a.natAbs:=by
 refine zao ?_
 rw[Int.natAbs_ediv_of_dvd h];exact Nat.div_le_self _ _
theorem zpy (a b:FQ) {n m:Nat} (ha:fsz n a) (hb:fsz m b) (h:n+m+1<1230):∃f:FQ,pf E0 9 [fqP a,fqP b]=some (.tu [fqP f,.i .i64 0])∧f.is (a.p.v*b.q.v+b.p.v*a.q.v) (a.q.v*b.q.v)∧fsz (n+m+1) f:=by
 obtain⟨a1,a2⟩:=ha
 obtain⟨b1,b2⟩:=hb
 have qa:=a.q1
 have qb:=b.q1
 have k1:=zh3 (zcb a.q.v b.q.v)
 have k2:=zh3 (zbR a.q.v b.q.v)
 have d1:b.q.v/gI a.q.v b.q.v*gI a.q.v b.q.v=b.q.v:=Int.ediv_mul_cancel (zcb _ _)
 have d2:a.q.v/gI a.q.v b.q.v*gI a.q.v b.q.v=a.q.v:=Int.ediv_mul_cancel (zbR _ _)
 have t1:tlen (adX a b).natAbs≤n+m:=Nat.le_trans (zaq _ _) (by omega)
 have t2:tlen (adY a b).natAbs≤n+m:=Nat.le_trans (zaq _ _) (by omega)
 have t3:tlen (adD a b).natAbs≤n+m:=Nat.le_trans (zaq _ _) (by omega)
 have t4:tlen (adX a b+adY a b).natAbs≤n+m+1:=Nat.le_trans (zf3 _ _) (by omega)
 have dn:=ziE a b
 obtain⟨f,h1,h2,hf⟩:=(zhB a b).1 ⟨zdi (by omega),zdi (by omega),zdi (by omega),zdi (by omega)⟩
 refine⟨f,hf,?_,?_,?_⟩
 ·have hs:=zhk (zeo dn h1 h2) (gI a.q.v b.q.v)
  have e1:(adX a b+adY a b)*gI a.q.v b.q.v=a.p.v*b.q.v+b.p.v*a.q.v:=by
   unfold adX adY
   rw[Int.add_mul,Int.mul_assoc,Int.mul_assoc,d1,d2]
  have e2:adD a b*gI a.q.v b.q.v=a.q.v*b.q.v:=by
   unfold adD
   rw[Int.mul_right_comm,d2]
  rwa [e1,e2] at hs
 ·rw[h1];exact Nat.le_trans (zao (zgx dn)) t4
 ·rw[h2];exact Nat.le_trans (zao (zgy dn)) (by omega)
theorem zqF (a b:FQ) {n m:Nat} (ha:fsz n a) (hb:fsz m b) (h:n+m<1230):∃f:FQ,pf E0 8 [fqP a,fqP b]=some (.tu [fqP f,.i .i64 0])∧f.is (a.p.v*b.p.v) (a.q.v*b.q.v)∧fsz (n+m) f:=by
 obtain⟨a1,a2⟩:=ha
 obtain⟨b1,b2⟩:=hb
 have qa:=a.q1
 have qb:=b.q1
 have dn:a.q.v*b.q.v≠0:=Int.mul_ne_zero (by omega) (by omega)
 have t1:tlen (muP a b).natAbs≤n+m:=Nat.le_trans (zao (zgx dn)) (Nat.le_trans (zaq _ _) (by omega))
 have t2:tlen (muQ a b).natAbs≤n+m:=Nat.le_trans (zao (zgy dn)) (Nat.le_trans (zaq _ _) (by omega))
 obtain⟨f,h1,h2,hf⟩:=(zhC a b).1 ⟨zdi (by omega),zdi (by omega)⟩
 exact⟨f,hf,zeo dn h1 h2,by rw[h1];exact t1,by rw[h2];exact t2⟩
noncomputable def rfQ (f:FQ):PV:=rfP f.p.v f.q.v
theorem zkt {f:FQ} {n d:Int} (h1:f.p.v=n) (h2:f.q.v=d):rfP n d=rfQ f:=by rw[←h1,←h2];rfl
theorem zk2 {a b c d:Int} (h:a-b=c-d):cmpI a b=cmpI c d:=by
 unfold cmpI
 have e1:(a<b)=(c<d):=by simp only[eq_iff_iff];omega
 have e2:(b<a)=(d<c):=by simp only[eq_iff_iff];omega
 simp only[e1,e2]
theorem zfz (a b:Int):cmpI b a = -cmpI a b:=by
 unfold cmpI
 rcases Int.lt_trichotomy a b with h|h|h
 ·rw[if_neg (by omega),if_pos h,if_pos h];rfl
 ·subst h;rw[if_neg (by omega),if_neg (by omega)];rfl
 ·rw[if_pos h,if_neg (by omega),if_pos h]
theorem zej {a b k:Int} (hk:0<k):cmpI (a*k) (b*k)=cmpI a b:=by
 unfold cmpI
 rcases Int.lt_trichotomy a b with h|h|h
 ·have:=Int.mul_lt_mul_of_pos_right h hk
  rw[if_pos this,if_pos h]
 ·subst h;rw[if_neg (by omega),if_neg (by omega),if_neg (by omega),if_neg (by omega)]
 ·have:=Int.mul_lt_mul_of_pos_right h hk
  rw[if_neg (by omega),if_pos this,if_neg (by omega),if_pos h]
theorem ziL {p q r s:Int} (hq:0<q) (hs:0<s) (h:p/q≠r/s):cmpI (p*s) (r*q)=cmpI (p/q) (r/s):=by
 have key:∀{p q r s:Int},0<q→0<s→p/q<r/s→p*s<r*q:=fun {p q r s} hq hs h=>by
  have d1:=Int.mul_ediv_add_emod p q
  have d2:=Int.mul_ediv_add_emod r s
  have m1:=Int.emod_lt_of_pos p hq
  have m2:=Int.emod_nonneg r (show s≠0 by omega)
  have h1:p<q*(r/s):=by
   have:q*(p/q+1)≤q*(r/s):=Int.mul_le_mul_of_nonneg_left (by omega) (by omega)
   rw[Int.mul_add] at this
   omega
  have h2:p*s<q*(r/s)*s:=Int.mul_lt_mul_of_pos_right h1 hs
  have h3:q*(r/s)*s≤r*q:=by
   have:s*(r/s)*q≤r*q:=Int.mul_le_mul_of_nonneg_right (by omega) (by omega)
   have e:q*(r/s)*s=s*(r/s)*q:=by grind
   omega
  omega
 unfold cmpI
 rcases Int.lt_trichotomy (p/q) (r/s) with g|g|g
 ·rw[if_pos (key hq hs g),if_pos g]
 ·exact(h g).elim
 ·have:=key hs hq g
  rw[if_neg (by omega),if_pos this,if_neg (by omega),if_pos g]
theorem ziM {p q r s:Int} (h:p/q=r/s):cmpI (p*s) (r*q)=cmpI (p%q*s) (r%s*q):=by
 refine zk2 ?_
 have d1:=Int.mul_ediv_add_emod p q
 have d2:=Int.mul_ediv_add_emod r s
 rw[h] at d1
 have e1:p*s=(q*(r/s)+p%q)*s:=by rw[d1]
 have e2:r*q=(s*(r/s)+r%s)*q:=by rw[d2]
 rw[e1,e2]
 grind
theorem ziN {x y q s:Int} (hx:0≤x) (hy:0≤y) (hq:0<q) (hs:0<s) (h:x=0∨y=0):cmpI (x*s) (y*q)=cmpI x 0-cmpI y 0:=by
 rcases h with h|h
 ·subst h
  have:=zej (a:=0) (b:=y) hq
  rw[Int.zero_mul] at this
  rw[Int.zero_mul,this]
  have e:cmpI 0 0=0:=rfl
  rw[e,zfz 0 y];omega
 ·subst h
  have:=zej (a:=x) (b:=0) hs
  rw[Int.zero_mul] at this
  have e:cmpI 0 0=0:=rfl
  rw[Int.zero_mul,this,e];omega
theorem ziO (x y q s:Int):cmpI (x*s) (y*q) = -cmpI (q*y) (s*x):=by
 rw[Int.mul_comm x s,Int.mul_comm y q];exact zfz _ _
def cmpF (a b:FQ):Int:=cmpI (a.p.v*b.q.v) (b.p.v*a.q.v)
end Go.Eng
namespace Go.Eng
def isPR:PV→Bool
 | .p _ _=>true
 | .sl _ _ _ _ _=>true
 | .tu _=>true
 | _=>false
def slotIn3 (E:PEnv) (ops:List XOper) (L:List Nat) (c:Nat×Nat):Bool :=
 match ops[c.1]?,ops[c.2]? with
 | some a,some b =>
  match a.op.looks with
  | .t s=>a.op.cls==2&&L.contains s&&calmOp E b.op
  | _=>false
 | _,_=>false
end Go.Eng
namespace Go.Eng
def apP:PV→PV→Bool
 | .p a _,.p b _ => !(Nat.beq a b)
 | _,_=>false
def slotSt (ops:List XOper) (L R:List Nat) (c:Nat×Nat):Bool :=
 match ops[c.1]?,ops[c.2]? with
 | some a,some b =>
  match a.op,b.op with
  | .load _ _ (.t s),.store _ (.t r) _=>L.contains s&&R.contains r&&fixedX ops c.2 (.t r)
  | _,_=>false
 | _,_=>false
theorem zia {E:PEnv} {F:PFin} {ops:List XOper} {chk:List (Nat×Nat)} {ks:List KI} {fr:PFr} {M:PM} (L R:List Nat) (hL:chk.all (fun c=>calmC E ops c || slotIn2 E ops L c || slotSt ops L R c)=true)
  (hr:WL E ⟨(0::0::(L++R)).map XR.tmp,fun w _=>∃l,w=.tu l∧((l.drop 2).take L.length).all (fun x=>isPP x&&((l.drop 2).drop L.length).all (apP x))=true⟩ ops [] fr M) (w:WL E F ops ks fr M):WK E F (.drw ops chk) ks fr M:=by
 refine zcZ (fun fr2 Ms hT=>?_) w
 have hp:∀s∈L,isPP (fr2 s)=true∧∀r∈R,apP (fr2 s) (fr2 r)=true:=by
  obtain⟨lf,q,fr3,M3,vs,e,h1,h2,l,h3,h4⟩:=hr
  simp only[Option.bind_eq_some_iff,unw] at e
  obtain⟨⟨fr4,M4⟩,e1,e2⟩:=e
  simp only[Option.some.injEq,Prod.mk.injEq] at e2
  obtain⟨_,e3,e4⟩:=e2
  rw[←e3,←e4] at h2
  obtain⟨Ms',g1,g2⟩:=zbY e1
  rw[g1] at hT
  cases hT
  have hres:∀(f:PFr) (N:PM) (l:List Nat),pRes f N (l.map XR.tmp)=some (l.map f):=fun f N l=>by
   induction l with
   | nil=>rfl
   | cons a l ih=>simp only[List.map_cons,pRes,pResOne,ih]
  rw[hres] at h2
  cases h2
  simp only[List.map_cons,packP] at h3
  cases h3
  have h5:(((L++R).map fr2).take L.length).all (fun x=>isPP x&&(((L++R).map fr2).drop L.length).all (apP x))=true:=h4
  rw[List.map_append,List.take_left' (by simp),List.drop_left' (by simp)] at h5
  simp only[List.all_eq_true,List.mem_map,Bool.and_eq_true,forall_exists_index,and_imp,forall_apply_eq_imp_iff₂] at h5
  exact h5
 rw[List.all_eq_true] at hL ⊢
 rintro⟨i,j⟩ hc
 have h1:=hL _ hc
 simp only[Bool.or_eq_true] at h1
 rcases h1 with (h1|h1)|h1
 ·exact zdn hT h1
 ·unfold slotIn2 at h1
  split at h1
  ·rename_i a b ha hb
   split at h1
   ·rename_i z k s hop
    simp only[Bool.and_eq_true] at h1
    obtain⟨c1,c2⟩:=h1
    have hs:=(hp s (List.contains_iff_mem.1 c1)).1
    cases hf:fr2 s with
    | p n o =>
     obtain⟨fri,A,B,q1,q2,q3,q4⟩:=zax hT ha
     obtain⟨frj,C,D,p1,p2,p3,p4⟩:=zax hT hb
     have p2':Ms[(i,j).2+1]?=some D:=p2
     have q2':Ms[(i,j).1+1]?=some B:=q2
     refine zc2 ?_
     simp only[chkP0,ha,q1,q2,p1,p2]
     rw[if_neg (by rw[hop];simp[XO.cls])]
     rw[hop]
     show chkV ops j (.t s) C D (fr2 s)=true
     rw[hf]
     show verP (some n) C D=true
     rcases p3 with⟨_,v,p3⟩|⟨_,p3⟩
     ·cases hopb:b.op with
      | call f l =>
       rw[hopb] at p3 c2
       obtain⟨ns,rfl⟩:=zcC c2 p3
       exact zdA ns C _
      | _=>rw[hopb] at c2;simp[calmOp] at c2
     ·rw[p3];simp[verP]
    | _=>rw[hf] at hs;simp[isPP] at hs
   ·cases h1
  ·cases h1
 ·unfold slotSt at h1
  split at h1
  ·rename_i a b ha hb
   split at h1
   ·rename_i z k s n r x hop hop2
    simp only[Bool.and_eq_true] at h1
    obtain⟨⟨c1,c2⟩,c3⟩:=h1
    have hap:=(hp s (List.contains_iff_mem.1 c1)).2 r (List.contains_iff_mem.1 c2)
    obtain⟨fri,A,B,q1,q2,q3,q4⟩:=zax hT ha
    obtain⟨frj,C,D,p1,p2,p3,p4⟩:=zax hT hb
    have p2':Ms[(i,j).2+1]?=some D:=p2
    have q2':Ms[(i,j).1+1]?=some B:=q2
    have e2:fr2 r=frj r:=p4 (.t r) c3
    refine zc2 ?_
    simp only[chkP0,ha,q1,q2,p1,p2]
    rw[if_neg (by rw[hop];simp[XO.cls])]
    rw[hop]
    show chkV ops j (.t s) C D (fr2 s)=true
    cases hf:fr2 s with
    | p n1 o1 =>
     cases hg:fr2 r with
     | p n2 o2 =>
      rw[hf,hg] at hap
      have hne:n1≠n2:=fun q=>by rw[q] at hap;simp[apP] at hap
      show verP (some n1) C D=true
      rcases p3 with⟨_,v,p3⟩|⟨_,p3⟩
      ·rw[hop2] at p3
       simp only[XO.pst,XO.pev] at p3
       rw[show X.pv E.glob frj (.t r)=.p n2 o2 from e2.symm.trans hg] at p3
       simp only at p3
       generalize (X.pv E.glob frj x).cells=cs at p3
       split at p3
       ·split at p3
        ·cases p3
         simp only[verP]
         rw[List.getElem?_set_ne (fun h=>hne h.symm)];simp
        ·cases p3
       ·cases p3
      ·rw[p3];simp[verP]
     | _=>rw[hf,hg] at hap;simp[apP] at hap
    | _=>rw[hf] at hap;simp[apP] at hap
   ·cases h1
  ·cases h1
end Go.Eng
namespace Go.Eng
theorem mG (G L:PM) (k:Nat):PM.blk (G++L) (G.length+k)=PM.blk L k:=by
 unfold PM.blk
 rw[List.getElem?_append_right (by omega),Nat.add_sub_cancel_left]
theorem mG0 (G L:PM):PM.blk (G++L) G.length=PM.blk L 0:=mG G L 0
theorem sG (G L:PM) (k:Nat) (v:Option PB):(G++L).set (G.length+k) v=G++L.set k v:=by
 rw[List.set_append_right _ _ (by omega),Nat.add_sub_cancel_left]
theorem sG0 (G L:PM) (v:Option PB):(G++L).set G.length v=G++L.set 0 v:=sG G L 0 v
theorem lG (G L:PM):(G++L).length=G.length+L.length:=List.length_append
theorem zeJ (a b:Int) : -1≤cmpI a b∧cmpI a b≤1:=by unfold cmpI;split<;>(try split)<;>omega
theorem zcq (a b:FQ):pf E0 11 [fqP a,fqP b]=some (.i .i64 (cmpF a b)):=by
 have da:=zcf a
 have db:=zcf b
 have qa:=a.q1
 have qb:=b.q1
 refine zaa (xf:=zzf) rfl (by simp[zzf]) ?_
 simp only[zzf]
 simp(disch:=omega)only[go_sem,seval,wqq]
 refine zia [16,3,20] [5,6] rfl ?_ ?_
 ·simp(disch:=omega)only[go_sem,seval,wqq,da,db]
  exact⟨_,rfl,rfl⟩
 simp(disch:=omega)only[go_sem,seval,wqq,da,db]
 refine zag zAE.eq_1 (fun(σ:(WI×WI)×(WI×WI)×Int) fr M=>1≤σ.1.2.v∧1≤σ.2.1.2.v∧(σ.2.2=1∨σ.2.2 = -1)∧σ.2.2*cmpI (σ.1.1.v*σ.2.1.2.v) (σ.2.1.1.v*σ.1.2.v)=cmpF a b ∧
  fr 5=.p 2 0∧fr 6=.p 3 0∧fr 7=.p 4 0∧fr 8=.p 5 0∧fr 9=.i .i64 σ.2.2∧∃b0 b1 v2 v3 v4 v5 G,M=b0::b1::some ⟨(wiP σ.1.1).cells,true,v2⟩::some ⟨(wiP σ.1.2).cells,true,v3⟩::some ⟨(wiP σ.2.1.1).cells,true,v4⟩::some ⟨(wiP σ.2.1.2).cells,true,v5⟩::G)
  (fun σ=>σ.1.2.v.toNat) ?_ ((a.p,a.q),(b.p,b.q),1) ⟨qa,qb,.inl rfl,Int.one_mul _,by simp only[go_sem,seval],by simp only[go_sem,seval],by simp only[go_sem,seval],by simp only[go_sem,seval],by simp only[go_sem,seval],_,_,_,_,_,_,[],rfl⟩
 rintro⟨⟨p,q⟩,⟨r,s⟩,g⟩ fr M ⟨hq,hs,hg,hc,h5,h6,h7,h8,h9,b0,b1,v2,v3,v4,v5,G,rfl⟩ ih
 simp only at hq hs hg hc h5 h6 h7 h8 h9
 have d1:=zin p q (by omega)
 have d2:=zin r s (by omega)
 have xv:(p.div q (by omega)).v=p.v/q.v:=rfl
 have ev:(p.mod q (by omega)).v=p.v%q.v:=rfl
 have yv:(r.div s (by omega)).v=r.v/s.v:=rfl
 have ov:(r.mod s (by omega)).v=r.v%s.v:=rfl
 have e0:=Int.emod_nonneg p.v (show q.v≠0 by omega)
 have o0:=Int.emod_nonneg r.v (show s.v≠0 by omega)
 have e1:=Int.emod_lt_of_pos p.v (show 0<q.v by omega)
 rw[←ev] at e0 e1
 rw[←ov] at o0
 have s1:=ziL (p:=p.v) (q:=q.v) (r:=r.v) (s:=s.v) (by omega) (by omega)
 have s2:=ziM (p:=p.v) (q:=q.v) (r:=r.v) (s:=s.v)
 rw[←xv,←yv] at s1
 rw[←xv,←yv,←ev,←ov] at s2
 generalize p.div q (by omega)=x at *
 generalize p.mod q (by omega)=e at *
 generalize r.div s (by omega)=y at *
 generalize r.mod s (by omega)=o at *
 have c1:=zaG x y
 have g1:=zce e
 have g2:=zce o
 have r1:=zeJ x.v y.v
 have r2:=zeJ e.v 0
 have r3:=zeJ o.v 0
 by_cases hxy:x.v=y.v
 ·have t0:(cmpI x.v y.v=0)=True:=by rw[zaW];simp[hxy]
  have hb:=s2 hxy
  by_cases hz:e.v=0∨o.v=0
  ·rw[ziN (by omega) (by omega) (by omega) (by omega) hz] at hb
   have hm:cmpF a b=g*(cmpI e.v 0-cmpI o.v 0):=by rw[←hc,hb]
   have hl : -2≤g*(cmpI e.v 0-cmpI o.v 0)∧g*(cmpI e.v 0-cmpI o.v 0)≤2:=by rcases hg with rfl|rfl<;>omega
   rw[hm]
   by_cases he:e.v=0
   ·have t1:(cmpI e.v 0=0)=True:=by rw[zaW];simp[he]
    simp(disch:=omega)only[go_sem,seval,wqq,h5,h6,h7,h8,h9,d1,d2,mG,mG0,sG,sG0,lG,lqq,c1,g1,g2,t0,t1]
    refine zaC [14] rfl (by simp only[go_sem,seval]) ?_
    simp(disch:=omega)only[go_sem,seval,wqq,h5,h6,h7,h8,h9,d1,d2,mG,mG0,sG,sG0,lG,lqq,c1,g1,g2]
   ·have t1:(cmpI e.v 0=0)=False:=by rw[zaW];simp[he]
    have t2:(cmpI o.v 0=0)=True:=by rw[zaW];simp;omega
    simp(disch:=omega)only[go_sem,seval,wqq,h5,h6,h7,h8,h9,d1,d2,mG,mG0,sG,sG0,lG,lqq,c1,g1,g2,t0,t1,t2]
    refine zaC [14] rfl (by simp only[go_sem,seval]) ?_
    simp(disch:=omega)only[go_sem,seval,wqq,h5,h6,h7,h8,h9,d1,d2,mG,mG0,sG,sG0,lG,lqq,c1,g1,g2]
  ·have t1:(cmpI e.v 0=0)=False:=by rw[zaW];simp;omega
   have t2:(cmpI o.v 0=0)=False:=by rw[zaW];simp;omega
   have n0 : -1≤g∧g≤1:=by omega
   rw[ziO e.v o.v q.v s.v] at hb
   simp(disch:=omega)only[go_sem,seval,wqq,h5,h6,h7,h8,h9,d1,d2,mG,mG0,sG,sG0,lG,lqq,c1,g1,g2,t0,t1,t2]
   refine zia [11,8,14] [5,6,7] rfl ?_ ?_
   ·simp(disch:=omega)only[go_sem,seval,wqq,h5,h6,h7,h8,h9,d1,d2,mG,mG0,sG,sG0,lG,lqq]
    exact⟨_,rfl,rfl⟩
   simp(disch:=omega)only[go_sem,seval,wqq,h5,h6,h7,h8,h9,d1,d2,mG,mG0,sG,sG0,lG,lqq]
   exact ih ((q,e),(s,o),0-g) _ _ (by simp only;omega) ⟨by simp only;omega,by simp only;omega,by simp only;omega,by simp only;rw[←hc,hb];grind,by simp only[go_sem,seval,h5],by simp only[go_sem,seval,h6],by simp only[go_sem,seval,h7],by simp only[go_sem,seval,h8],by simp only[go_sem,seval],_,_,_,_,_,_,_,rfl⟩
 ·have t0:(cmpI x.v y.v=0)=False:=by rw[zaW];simp[hxy]
  have hb:=s1 hxy
  have hm:cmpF a b=g*cmpI x.v y.v:=by rw[←hc,hb]
  have hl : -2≤g*cmpI x.v y.v∧g*cmpI x.v y.v≤2:=by rcases hg with rfl|rfl<;>omega
  rw[hm]
  simp(disch:=omega)only[go_sem,seval,wqq,h5,h6,h7,h8,h9,d1,d2,mG,mG0,sG,sG0,lG,lqq,c1,t0]
end Go.Eng
namespace Go.Eng
@[go_sem] theorem zv8 (M:PM) (d:Nat) (f:FQ):fz M (d+1+1) (rfQ f)=some (rfQ f,[]):=_root_.id rfl
@[go_sem] theorem zpS (f:FQ):(rfQ f).cells=[.b (decide (f.p.v<0)),T f.p.v.natAbs,.b (decide (f.q.v<0)),T f.q.v.natAbs]:=_root_.id rfl
@[go_sem] theorem zsy (f:FQ):rfP f.p.v f.q.v=rfQ f:=_root_.id rfl
def pk (xs:List Int) (i:Int):Int:=if i<0∨(xs.length:Int)≤i then 0 else xs.getD i.toNat 0
theorem zcg {xs:List Int} (hx:Ints xs) (i:Int):Fits64 (pk xs i):=by
 unfold pk
 by_cases h:i<0∨(xs.length:Int)≤i
 ·rw[if_pos h];decide
 ·rw[if_neg h]
  have hl:i.toNat<xs.length:=by omega
  exact hx.2 _ (by simp[hl])
theorem zrn {xs:List Int} (hx:Ints xs) {i:Int} (hi:Fits64 i):pf E0 180 [ints xs,.i .i64 i]=some (.i .i64 (pk xs i)):=by
 refine zaa (xf:=zAc) rfl (by simp[zAc]) ?_
 simp only[zAc]
 obtain⟨hx1,hx2⟩:=hx
 unfold pk
 by_cases h:i<0
 ·rw[if_pos (.inl h)]
  simp(disch:=omega)only[go_sem,seval,wqq,h]
 ·by_cases h':(xs.length:Int)≤i
  ·rw[if_pos (.inr h')]
   have q1:(i≥(xs.length:Int))=True:=by simp;omega
   simp(disch:=omega)only[go_sem,seval,wqq,h,q1]
  ·rw[if_neg (by omega)]
   have q1:(i≥(xs.length:Int))=False:=by simp;omega
   obtain⟨j,rfl⟩:∃j:Nat,i=j:=⟨i.toNat,by omega⟩
   have hl:j<xs.length:=by omega
   have hg:xs[j]?=some (xs.getD j 0):=by simp[hl]
   simp(disch:=omega)only[go_sem,seval,wqq,h,q1,zjk hg,Int.toNat_natCast]
def mulN (x:Int):Nat→Int
 | 0=>x
 | n+1=>mulN x n*1000000007
theorem zd6 (x:Int):∀n,tlen (mulN x n).natAbs≤tlen x.natAbs+3*n
 | 0=>Nat.le_refl _
 | n+1=>by
  have h1:=zd6 x n
  have h2:=zaq (mulN x n) 1000000007
  have h3:tlen (1000000007:Int).natAbs≤3:=zai (by decide)
  show tlen (mulN x n*1000000007).natAbs≤_
  omega
def numF (a b:Int):Int:=if a%7<4 then b.tmod 60 else if a%7<6 then b else mulN (b+3) ((a.tdiv 7).tmod 40).toNat
theorem za8 (a:Int) {n:Int} (h:0<n) : -n<a.tmod n∧a.tmod n<n:=by
 have h1:=Int.tmod_lt_of_pos a h
 have h2:=Int.lt_tmod_of_pos a h
 omega
theorem zhr {b:Int} (a:Int) (hb:Fits64 b):tlen (numF a b).natAbs≤122:=by
 unfold Fits64 at hb
 have h1:=za8 b (n:=60) (by omega)
 have h2:=za8 (a.tdiv 7) (n:=40) (by omega)
 have h3:=zd6 (b+3) ((a.tdiv 7).tmod 40).toNat
 have h4:tlen (b+3).natAbs≤5:=zai (by omega)
 unfold numF
 split
 ·exact Nat.le_trans (zkB (by omega)) (by omega)
 ·split
  ·have:tlen b.natAbs≤5:=zai (by omega)
   omega
  ·omega
theorem zey {a b:Int} (ha:Fits64 a) (hb:Fits64 b):pf E0 179 [.i .i64 a,.i .i64 b]=some (nP (numF a b)):=by
 have hb':=hb
 unfold Fits64 at ha hb'
 have h1:=za8 b (n:=60) (by omega)
 have h2:=za8 (a.tdiv 7) (n:=40) (by omega)
 have h4:tlen (b+3).natAbs≤5:=zai (by omega)
 have k0:a%7=if a.tmod 7<0 then a.tmod 7+7 else a.tmod 7:=by
  have e1:=Int.mul_tdiv_add_tmod a 7
  have e2:=za8 a (n:=7) (by omega)
  split<;>omega
 have k1:=za8 a (n:=7) (by omega)
 have r1:=zee (b.tmod 60) (by unfold Fits64;omega)
 have r2:=zee b hb
 have r3:=zee 3 (by decide)
 have r4:=zee 1000000007 (by decide)
 have r5:=zmP b 3 (by have:tlen b.natAbs≤5:=zai (by omega);omega) (by have:tlen (3:Int).natAbs≤1:=zai (by decide);omega)
 have l3:=zd6 (b+3)
 refine zaa (xf:=zzC) rfl (by simp[zzC]) ?_
 simp only[zzC]
 unfold numF
 rw[k0]
 obtain⟨m,hm⟩:∃m:Int,m=a.tmod 7:=⟨_,rfl⟩
 obtain⟨n,hn⟩:∃n:Int,n=(a.tdiv 7).tmod 40:=⟨_,rfl⟩
 rw[←hm] at k1
 rw[←hn] at h2
 simp only[←hm,←hn]
 have hm':=hm.symm
 have hn':=hn.symm
 have e7:=Int.mul_tdiv_add_tmod a 7
 obtain⟨d,hd⟩:∃d:Int,a.tdiv 7=d:=⟨_,rfl⟩
 rw[hd] at hn' e7
 rw[hm'] at e7
 have hT:tlen (1000000007:Int).natAbs≤3:=zai (by decide)
 by_cases hm0:m<0
 ·rw[if_pos hm0]
  by_cases c4:m+7<4
  ·rw[if_pos c4]
   simp(disch:=omega)only[go_sem,seval,wqq,hm',hm0,c4,r1]
  ·rw[if_neg c4]
   by_cases c6:m+7<6
   ·rw[if_pos c6]
    simp(disch:=omega)only[go_sem,seval,wqq,hm',hm0,c4,c6,r2]
   ·rw[if_neg c6]
    simp(disch:=omega)only[go_sem,seval,wqq,hm',hm0,c4,c6,r2,r3,r5]
    refine zag zz4.eq_1 (fun(i:Nat) fr M=>i≤n.toNat∧fr 0=.i .i64 a∧fr 4=.p 0 0∧fr 6=.p 1 0∧fr 7=(PV.i .i64 ((i:Nat):Int))∧∃v,M=[some ⟨[.b false,.nl],true,0⟩,some ⟨(nP (mulN (b+3) i)).cells,true,v⟩]) (fun i=>n.toNat-i) ?_ 0 ⟨by omega,by simp only[go_sem,seval],by simp only[go_sem,seval],by simp only[go_sem,seval],by simp only[go_sem,seval],_,rfl⟩
    rintro i fr M ⟨hi,f0,f4,f6,f7,v,rfl⟩ ih
    have li:=l3 i
    by_cases hin:(i:Int)<n
    ·have q1:((i:Int)<n)=True:=by simp[hin]
     have mm:=zd0 (mulN (b+3) i) 1000000007 (by omega) (by omega)
     have e1:mulN (b+3) i*1000000007=mulN (b+3) (i+1):=rfl
     rw[e1] at mm
     generalize hX:mulN (b+3) i=X at *
     generalize hY:mulN (b+3) (i+1)=Y at *
     simp(disch:=omega)only[go_sem,seval,wqq,f0,f4,f6,f7,hd,hn',q1]
     refine zaC [6] rfl (by simp only[go_sem,seval,f6]) ?_
     simp(disch:=omega)only[go_sem,seval,wqq,f6,f7,r4,mm]
     exact ih (i+1) _ _ (by omega) ⟨by omega,by simp only[go_sem,seval,f0],by simp only[go_sem,seval,f4],by simp only[go_sem,seval,f6],by simp only[go_sem,seval];rw[Int.natCast_succ],_,by rw[hY];rfl⟩
    ·have q1:((i:Int)<n)=False:=by simp[hin]
     obtain rfl:i=n.toNat:=by omega
     generalize mulN (b+3) n.toNat=X at *
     simp(disch:=omega)only[go_sem,seval,wqq,f0,f4,f6,f7,hd,hn',q1]
 ·rw[if_neg hm0]
  by_cases c4:m<4
  ·rw[if_pos c4]
   simp(disch:=omega)only[go_sem,seval,wqq,hm',hm0,c4,r1]
  ·rw[if_neg c4]
   by_cases c6:m<6
   ·rw[if_pos c6]
    simp(disch:=omega)only[go_sem,seval,wqq,hm',hm0,c4,c6,r2]
   ·rw[if_neg c6]
    simp(disch:=omega)only[go_sem,seval,wqq,hm',hm0,c4,c6,r2,r3,r5]
    refine zag zz4.eq_1 (fun(i:Nat) fr M=>i≤n.toNat∧fr 0=.i .i64 a∧fr 4=.p 0 0∧fr 6=.p 1 0∧fr 7=(PV.i .i64 ((i:Nat):Int))∧∃v,M=[some ⟨[.b false,.nl],true,0⟩,some ⟨(nP (mulN (b+3) i)).cells,true,v⟩]) (fun i=>n.toNat-i) ?_ 0 ⟨by omega,by simp only[go_sem,seval],by simp only[go_sem,seval],by simp only[go_sem,seval],by simp only[go_sem,seval],_,rfl⟩
    rintro i fr M ⟨hi,f0,f4,f6,f7,v,rfl⟩ ih
    have li:=l3 i
    by_cases hin:(i:Int)<n
    ·have q1:((i:Int)<n)=True:=by simp[hin]
     have mm:=zd0 (mulN (b+3) i) 1000000007 (by omega) (by omega)
     have e1:mulN (b+3) i*1000000007=mulN (b+3) (i+1):=rfl
     rw[e1] at mm
     generalize hX:mulN (b+3) i=X at *
     generalize hY:mulN (b+3) (i+1)=Y at *
     simp(disch:=omega)only[go_sem,seval,wqq,f0,f4,f6,f7,hd,hn',q1]
     refine zaC [6] rfl (by simp only[go_sem,seval,f6]) ?_
     simp(disch:=omega)only[go_sem,seval,wqq,f6,f7,r4,mm]
     exact ih (i+1) _ _ (by omega) ⟨by omega,by simp only[go_sem,seval,f0],by simp only[go_sem,seval,f4],by simp only[go_sem,seval,f6],by simp only[go_sem,seval];rw[Int.natCast_succ],_,by rw[hY];rfl⟩
    ·have q1:((i:Int)<n)=False:=by simp[hin]
     obtain rfl:i=n.toNat:=by omega
     generalize mulN (b+3) n.toNat=X at *
     simp(disch:=omega)only[go_sem,seval,wqq,f0,f4,f6,f7,hd,hn',q1]
theorem zjw {P Q:Int} {n:Nat} (hq:Q≠0) (hp:tlen P.natAbs≤n) (hl:tlen Q.natAbs≤n) (hn:n<1230):∃f:FQ,f.p.v=lowP P Q∧f.q.v=lowQ P Q∧fsz n f:=by
 have t1:=Nat.le_trans (zao (zgx (p:=P) hq)) hp
 have t2:=Nat.le_trans (zao (zgy (p:=P) hq)) hl
 exact⟨⟨⟨lowP P Q,zqu (zdi (by omega))⟩,⟨lowQ P Q,zqu (zdi (by omega))⟩,zgA hq,zgz hq⟩,rfl,rfl,t1,t2⟩
theorem zlR {xs:List Int} (hx:Ints xs) {i:Int} (h0:0≤i) (h1:i≤100):∃f:FQ,fsz 122 f∧pf E0 187 [ints xs,.i .i64 i]=some (rfQ f):=by
 have a0:=zrn hx (i:=i) (by unfold Fits64;omega)
 have a1:=zrn hx (i:=i+1) (by unfold Fits64;omega)
 have a2:=zrn hx (i:=i+2) (by unfold Fits64;omega)
 have a3:=zrn hx (i:=i+3) (by unfold Fits64;omega)
 have n1:=zey (zcg hx i) (zcg hx (i+1))
 have n2:=zey (zcg hx (i+2)) (zcg hx (i+3))
 have l1:=zhr (pk xs i) (zcg hx (i+1))
 have l2:=zhr (pk xs (i+2)) (zcg hx (i+3))
 generalize numF (pk xs i) (pk xs (i+1))=P at *
 generalize numF (pk xs (i+2)) (pk xs (i+3))=Q at *
 generalize pk xs i=y0 at *
 generalize pk xs (i+1)=y1 at *
 generalize pk xs (i+2)=y2 at *
 generalize pk xs (i+3)=y3 at *
 have o1:=zee 1 (by decide)
 have t1:tlen (1:Int).natAbs≤1:=zai (by decide)
 by_cases hq:Q=0
 ·obtain⟨f,f1,f2,f3⟩:=zjw (P:=P) (Q:=1) (n:=122) (by decide) l1 (by omega) (by omega)
  refine⟨f,f3,?_⟩
  have mk:=ze9 P 1 (by decide) (by omega) (by omega)
  rw[zkt f1 f2] at mk
  have t0:((tlen Q.natAbs:Int)=0)=True:=by rw[hq,Int.natAbs_zero,zaN];simp
  clear hq f1 f2
  obtain⟨k,hk⟩:∃k:Int,nP k=nP 1:=⟨1,rfl⟩
  rw[←hk] at mk o1
  clear hk
  refine zaa (xf:=zy5) rfl (by simp[zy5]) ?_
  simp only[zy5]
  simp(disch:=omega)only[go_sem,seval,wqq,a2,a3,n2,t0,o1]
  refine zaC [5] rfl (by simp only[go_sem,seval]) ?_
  simp(disch:=omega)only[go_sem,seval,wqq,a0,a1,n1,mk]
 ·obtain⟨f,f1,f2,f3⟩:=zjw (P:=P) (Q:=Q) (n:=122) hq l1 l2 (by omega)
  refine⟨f,f3,?_⟩
  have mk:=ze9 P Q hq (by omega) (by omega)
  rw[zkt f1 f2] at mk
  have t0:((tlen Q.natAbs:Int)=0)=False:=by have:=zaY (v:=Q.natAbs) (by omega);simp;omega
  refine zaa (xf:=zy5) rfl (by simp[zy5]) ?_
  simp only[zy5]
  simp(disch:=omega)only[go_sem,seval,wqq,a2,a3,n2,t0]
  refine zaC [5] rfl (by simp only[go_sem,seval]) ?_
  simp(disch:=omega)only[go_sem,seval,wqq,a0,a1,n1,mk]
end Go.Eng
namespace Go.Eng
end Go.Eng
namespace Go.Eng
theorem zcQ (x y:WI):∃(g:FQ) (e:Int),pf E0 24 [wiP x,wiP y]=some (.tu [fqP g,.i .i64 e])∧pf E0 182 [nP x.v,nP y.v]=some (.tu [rfQ g,.i .i64 e])∧(y.v≠0→e=0∧g.p.v=lowP x.v y.v∧g.q.v=lowQ x.v y.v):=by
 have lx:=zdd x
 have ly:=zdd y
 by_cases h:y.v=0
 ·refine⟨fq0,1,zos x y h,?_,fun q=>(q h).elim⟩
  have:=zj9 x.v
  rw[h];exact this
 ·obtain⟨g,g1,g2,mk⟩:=zhy x y h
  refine⟨g,0,mk,?_,fun _=>⟨rfl,g1,g2⟩⟩
  have:=ze9 x.v y.v h (by omega) (by omega)
  rw[zkt g1 g2] at this;exact this
end Go.Eng
namespace Go.Eng
theorem zgp (x:WI):(decI x.v).length<4611686018427387904:=by have:=zc3 x;omega
end Go.Eng
namespace Go.Eng
theorem zqw {f:FQ} {n d p q:Int} (hd:d≠0) (hq:0<q) (hc:Nat.gcd p.natAbs q.natAbs=1) (hf:f.is n d) (e:n*q=p*d):f.p.v=p∧f.q.v=q:=by
 unfold FQ.is at hf
 have q1:=f.q1
 refine ze1 (by omega) hq f.cop hc ?_
 apply Int.eq_of_mul_eq_mul_right (a:=d) hd
 calc f.p.v*q*d=f.p.v*d*q:=by grind
  _=n*f.q.v*q:=by rw[hf]
  _=n*q*f.q.v:=by grind
  _=p*d*f.q.v:=by rw[e]
  _=p*f.q.v*d:=by grind
theorem zmy {z:Int} {v n:Nat} (hz:z=(v:Int)) (h1:10^n≤v) (h2:v<10^(n+1)):decI z=dtx (n+1) v:=by
 subst hz
 unfold decI;rw[if_neg (by omega),Int.natAbs_natCast]
 exact zk5 h1 h2
theorem zrL (f:FQ) {p q:Int} {t:List UInt8} (h1:f.p.v=p) (h2:f.q.v=q) (ht:ftx p q=t):pf E0 16 [fqP f]=some (.s t):=by
 rw[←ht,←h1,←h2];exact zj1 f
end Go.Eng
namespace Go.Eng
theorem zkR {f g h:FQ} {n d m e:Int} (hf:f.is n d) (hg:g.is m e) (hh:h.is (f.p.v*g.q.v+g.p.v*f.q.v) (f.q.v*g.q.v)):h.is (n*e+m*d) (d*e):=by
 have qf:=f.q1
 have qg:=g.q1
 unfold FQ.is at *
 apply Int.eq_of_mul_eq_mul_right (a:=f.q.v*g.q.v) (Int.mul_ne_zero (by omega) (by omega))
 calc h.p.v*(d*e)*(f.q.v*g.q.v)=h.p.v*(f.q.v*g.q.v)*(d*e):=by grind
  _=(f.p.v*g.q.v+g.p.v*f.q.v)*h.q.v*(d*e):=by rw[hh]
  _=(f.p.v*d*g.q.v*e+g.p.v*e*f.q.v*d)*h.q.v:=by grind
  _=(n*f.q.v*g.q.v*e+m*g.q.v*f.q.v*d)*h.q.v:=by rw[hf,hg]
  _=(n*e+m*d)*h.q.v*(f.q.v*g.q.v):=by grind
theorem zlB {f g h:FQ} {n d m e:Int} (hf:f.is n d) (hg:g.is m e) (hh:h.is (f.p.v*g.p.v) (f.q.v*g.q.v)):h.is (n*m) (d*e):=by
 have qf:=f.q1
 have qg:=g.q1
 unfold FQ.is at *
 apply Int.eq_of_mul_eq_mul_right (a:=f.q.v*g.q.v) (Int.mul_ne_zero (by omega) (by omega))
 calc h.p.v*(d*e)*(f.q.v*g.q.v)=h.p.v*(f.q.v*g.q.v)*(d*e):=by grind
  _=f.p.v*g.p.v*h.q.v*(d*e):=by rw[hh]
  _=f.p.v*d*(g.p.v*e)*h.q.v:=by grind
  _=n*f.q.v*(m*g.q.v)*h.q.v:=by rw[hf,hg]
  _=n*m*h.q.v*(f.q.v*g.q.v):=by grind
theorem zpz (a b:FQ) {n m:Nat} {x d y e:Int} (ha:fsz n a) (hb:fsz m b) (h:n+m+1<1230) (xa:a.is x d) (xb:b.is y e):∃f:FQ,pf E0 9 [fqP a,fqP b]=some (.tu [fqP f,.i .i64 0])∧f.is (x*e+y*d) (d*e)∧fsz (n+m+1) f:=by
 obtain⟨f,h1,h2,h3⟩:=zpy a b ha hb h
 exact⟨f,h1,zkR xa xb h2,h3⟩
theorem zqG (a b:FQ) {n m:Nat} {x d y e:Int} (ha:fsz n a) (hb:fsz m b) (h:n+m<1230) (xa:a.is x d) (xb:b.is y e):∃f:FQ,pf E0 8 [fqP a,fqP b]=some (.tu [fqP f,.i .i64 0])∧f.is (x*y) (d*e)∧fsz (n+m) f:=by
 obtain⟨f,h1,h2,h3⟩:=zqF a b ha hb h
 exact⟨f,h1,zlB xa xb h2,h3⟩
noncomputable def makF (x y:WI):FQ×Int:=⟨(zcQ x y).choose,(zcQ x y).choose_spec.choose⟩
theorem zrj (x y:WI):pf E0 24 [wiP x,wiP y]=some (.tu [fqP (makF x y).1,.i .i64 (makF x y).2]):=(zcQ x y).choose_spec.choose_spec.1
end Go.Eng
namespace Go.Eng
def inK (K:Nat) (z:Int):Prop:=z.natAbs<2^K
instance (K:Nat) (z:Int):Decidable (inK K z):=Nat.decLt _ _
def inB (z:Int):Prop:=inK 8192 z
instance (z:Int):Decidable (inB z):=inferInstanceAs (Decidable (inK 8192 z))
def inL (z:Int):Prop:=inK 16000 z
instance (z:Int):Decidable (inL z):=inferInstanceAs (Decidable (inK 16000 z))
theorem zrB {x y i j N:Nat} (hx:x<2^i) (hy:y<2^j) (hN:i+j≤N):x*y<2^N:=by
 refine Nat.lt_of_lt_of_le (Nat.mul_lt_mul_of_lt_of_le hx (Nat.le_of_lt hy) (Nat.pow_pos (by decide))) ?_
 rw[←Nat.pow_add]
 exact Nat.pow_le_pow_right (by decide) hN
theorem zoY {x i N:Nat} (hx:x<2^i) (hN:i≤N):x<2^N:=Nat.lt_of_lt_of_le hx (Nat.pow_le_pow_right (by decide) hN)
theorem zrz {x y i N:Nat} (hx:x<2^i) (hy:y<2^i) (hN:i+1≤N):x+y<2^N:=by
 refine Nat.lt_of_lt_of_le (Nat.add_lt_add hx hy) ?_
 rw[←Nat.mul_two,←Nat.pow_succ]
 exact Nat.pow_le_pow_right (by decide) hN
theorem znR {v N:Nat} (h:v<2^N) (hN:N=16384):inR v:=by subst hN;exact h
theorem zjp {K:Nat} {z:Int} (h:inK K z) (hK:K≤16384):wlen z.natAbs≤512:=(zaF _).2 (znR (zoY h hK) rfl)
theorem zjo {i j N:Nat} {a b:Int} (ha:inK i a) (hb:inK j b) (hN:i+j≤N):inK N (a*b):=by
 unfold inK at *
 rw[Int.natAbs_mul]
 exact zrB ha hb hN
theorem znO {i N:Nat} {a b:Int} (ha:inK i a) (hb:inK i b) (hN:i+1≤N):inK N (a+b):=Nat.lt_of_le_of_lt (Int.natAbs_add_le _ _) (zrz ha hb hN)
theorem znP {i:Nat} {a:Int}:inK i (-a)↔inK i a:=by unfold inK;rw[Int.natAbs_neg]
theorem ztM (K:Nat):inK K 0:=Nat.pow_pos (by decide)
theorem znN {z:Int}:inB (-z)↔inB z:=znP
theorem ztK {z:Int} (h:inB z):wlen z.natAbs≤512:=zjp h (by decide)
theorem zbv {a b:Int} (ha:inB a) (hb:inB b):wlen (a*b).natAbs≤512:=zjp (zjo ha hb (Nat.le_refl _)) (by decide)
theorem zcP {a b:Int} (ha:inB a) (hb:inB b):wlen (a+b).natAbs≤512:=zjp (znO ha hb (Nat.le_refl _)) (by decide)
theorem zlp {a b:Int} (ha:inB a) (hb:inB b):wlen (a-b).natAbs≤512:=zcP ha (znN.2 hb)
theorem ztL:inK 33 4294967296:=by unfold inK;decide
theorem zhi {a:Int} (ha:inL a):wlen (a*4294967296).natAbs≤512:=zjp (zjo ha ztL (Nat.le_refl _)) (by decide)
theorem zqs:inB 0:=ztM _
theorem zjn (K:Nat) (z:Int):inK K z ↔ - two K<z∧z<two K:=by
 unfold inK two
 generalize (2:Nat)^K=q
 omega
theorem zeT (z:Int):inB z ↔ - two 8192<z∧z<two 8192:=zjn _ _
theorem zeU (z:Int):inL z↔¬(two 16000≤(z.natAbs:Int)):=by
 unfold inL
 rw[zjn]
 generalize two 16000=q at *
 omega
def flI (a b:Int):Int:=a/b
def ceI (a b:Int):Int := - (-a/b)
theorem znB {a b:Int} (h:0<b):flI a b*b≤a:=Int.ediv_mul_le _ (by omega)
theorem znY {a b:Int} (h:0<b):a≤ceI a b*b:=by
 have:=Int.ediv_mul_le (-a) (b:=b) (by omega)
 unfold ceI;rw[Int.neg_mul];omega
theorem zcd {a b m:Int} (h:0<b):m≤flI a b↔m*b≤a:=Int.le_ediv_iff_mul_le h
theorem zb8 {a b m:Int} (h:0<b):ceI a b≤m↔a≤m*b:=by
 have:=zcd (a := -a) (b:=b) (m := -m) h
 unfold ceI flI at *
 rw[Int.neg_mul] at this
 omega
theorem znC {a a' b:Int} (h:0<b) (ha:a≤a'):flI a b≤flI a' b:=(zcd h).2 (Int.le_trans (znB h) ha)
theorem znl {a a' b:Int} (h:0<b) (ha:a≤a'):ceI a b≤ceI a' b:=(zb8 h).2 (Int.le_trans ha (znY h))
theorem zg9 {a b:Int} (h:0<b):flI a b≤ceI a b:=by
 have h1:=znB (a:=a) h
 have h2:=znY (a:=a) h
 exact Int.le_of_mul_le_mul_right (Int.le_trans h1 h2) h
theorem zpO {a b:Int} (h:0<b):ceI a b=if a%b=0 then a/b else a/b+1:=by
 have e:=Int.emod_add_mul_ediv a b
 have m0:=Int.emod_nonneg a (show b≠0 by omega)
 have m1:=Int.emod_lt_of_pos a h
 have key:∀m,ceI a b≤m↔a≤m*b:=fun m=>zb8 h
 generalize a%b=r at *
 generalize a/b=q at *
 split
 ·rename_i hr
  have k1:=(key q).2 (by rw[Int.mul_comm];omega)
  refine Int.le_antisymm k1 ?_
  have k2:=(key (ceI a b)).1 (Int.le_refl _)
  refine Int.le_of_mul_le_mul_right (a:=b) ?_ h
  rw[Int.mul_comm q];omega
 ·rename_i hr
  have k1:=(key (q+1)).2 (by rw[Int.add_mul,Int.mul_comm q];omega)
  refine Int.le_antisymm k1 ?_
  have k2:=(key (ceI a b)).1 (Int.le_refl _)
  have:q<ceI a b:=by
   refine Int.lt_of_mul_lt_mul_right (a:=b) ?_ (by omega)
   rw[Int.mul_comm q];omega
  omega
def min2 (a b:Int):Int:=if b<a then b else a
def max2 (a b:Int):Int:=if b>a then b else a
theorem zjD (a b:Int):min2 a b=min a b:=by unfold min2;omega
theorem zjz (a b:Int):max2 a b=max a b:=by unfold max2;omega
def min4 (a b c d:Int):Int:=min2 (min2 (min2 a b) c) d
def max4 (a b c d:Int):Int:=max2 (max2 (max2 a b) c) d
theorem zgC (a b c d:Int):min4 a b c d≤a∧min4 a b c d≤b∧min4 a b c d≤c∧min4 a b c d≤d:=by unfold min4 min2;omega
theorem zgB (a b c d:Int):a≤max4 a b c d∧b≤max4 a b c d∧c≤max4 a b c d∧d≤max4 a b c d:=by unfold max4 max2;omega
theorem zn2 (a b c d:Int):min4 a b c d=a∨min4 a b c d=b∨min4 a b c d=c∨min4 a b c d=d:=by unfold min4 min2;omega
theorem zn1 (a b c d:Int):max4 a b c d=a∨max4 a b c d=b∨max4 a b c d=c∨max4 a b c d=d:=by unfold max4 max2;omega
theorem zbH {a b c:Int} (h:a≤b) (hc:0≤c):a*c≤b*c:=Int.mul_le_mul_of_nonneg_right h hc
theorem zqD {a b c:Int} (h:a≤b) (hc:c≤0):b*c≤a*c:=Int.mul_le_mul_of_nonpos_right h hc
theorem zgn {a b c d P R q r:Int} (hq:0≤q) (hr:0≤r) (h1:a*q≤P) (h2:P≤b*q) (h3:c*r≤R) (h4:R≤d*r) :
  a*c*(q*r)≤P*R∨a*d*(q*r)≤P*R∨b*c*(q*r)≤P*R∨b*d*(q*r)≤P*R:=by
 have key:∀x:Int,x*q*(c*r)≤x*q*R∨x*q*(d*r)≤x*q*R:=fun x=>by
  rcases Int.le_total 0 (x*q) with h|h
  ·left;exact Int.mul_le_mul_of_nonneg_left h3 h
  ·right;exact Int.mul_le_mul_of_nonpos_left h h4
 have ea:∀x y:Int,x*y*(q*r)=x*q*(y*r):=fun x y=>by grind
 simp only[ea]
 rcases Int.le_total 0 R with h|h
 ·have:=zbH h1 h
  rcases key a with k|k<;>omega
 ·have:=zqD h2 h
  rcases key b with k|k<;>omega
theorem ziP {a b c d P R q r:Int} (hq:0≤q) (hr:0≤r) (h1:a*q≤P) (h2:P≤b*q) (h3:c*r≤R) (h4:R≤d*r) :
  P*R≤a*c*(q*r)∨P*R≤a*d*(q*r)∨P*R≤b*c*(q*r)∨P*R≤b*d*(q*r):=by
 have h:=zgn (a := -b) (b := -a) (P := -P) hq hr (by rw[Int.neg_mul];omega) (by rw[Int.neg_mul];omega) h3 h4
 simp only[Int.neg_mul] at h
 omega
end Go.Eng
namespace Go.Eng
structure IV where
 lo:WI
 hi:WI
 l:inB lo.v
 h:inB hi.v
noncomputable def ivP (x:IV):PV:=.ag [.b (decide (x.lo.v<0)),D x.lo.v.natAbs,.b (decide (x.hi.v<0)),D x.hi.v.natAbs]
@[go_sem] theorem zv5 (M:PM) (d:Nat) (x:IV):fz M (d+1+1) (ivP x)=some (ivP x,[]):=_root_.id rfl
@[go_sem] theorem zfy (x:IV):(ivP x).cells=[.b (decide (x.lo.v<0)),D x.lo.v.natAbs,.b (decide (x.hi.v<0)),D x.hi.v.natAbs]:=_root_.id rfl
@[go_sem] theorem ztv (x:IV):PV.ag [.b (decide (x.lo.v<0)),D x.lo.v.natAbs,.b (decide (x.hi.v<0)),D x.hi.v.natAbs]=ivP x:=_root_.id rfl
noncomputable def rvP (x:IV):PV:=rfP x.lo.v x.hi.v
def ivZ:IV:=⟨wi0,wi0,zqs,zqs⟩
theorem znW:ivP ivZ=.ag [.b false,.lst [],.b false,.lst []]:=rfl
def iwI (z:Int) (h:inB z):WI:=⟨z,ztK h⟩
def mdI (lo hi:Int):IV×Int:=if h:inB lo∧inB hi then (⟨iwI lo h.1,iwI hi h.2,h.1,h.2⟩,0) else (ivZ,4)
theorem zij {lo hi:Int} (h:inB lo∧inB hi):(mdI lo hi).2=0∧(mdI lo hi).1.lo.v=lo∧(mdI lo hi).1.hi.v=hi:=by unfold mdI;rw[dif_pos h];exact⟨rfl,rfl,rfl⟩
theorem zjB {lo hi:Int} (h:¬(inB lo∧inB hi)):mdI lo hi=(ivZ,4):=by unfold mdI;rw[dif_neg h]
theorem zfO {lo hi:Int} (h:(mdI lo hi).2=0):inB lo∧inB hi∧(mdI lo hi).1.lo.v=lo∧(mdI lo hi).1.hi.v=hi:=by
 by_cases q:inB lo∧inB hi
 ·exact⟨q.1,q.2,(zij q).2⟩
 ·rw[zjB q] at h;cases h
theorem zqz (lo hi:Int):(mdI lo hi).2=0∨mdI lo hi=(ivZ,4):=by
 by_cases q:inB lo∧inB hi
 ·exact .inl (zij q).1
 ·exact .inr (zjB q)
def ivAdd (x y:IV):IV×Int:=mdI (x.lo.v+y.lo.v) (x.hi.v+y.hi.v)
def mulLo (x y:IV):Int:=min4 (flI (x.lo.v*y.lo.v) 4294967296) (flI (x.lo.v*y.hi.v) 4294967296) (flI (x.hi.v*y.lo.v) 4294967296) (flI (x.hi.v*y.hi.v) 4294967296)
def mulHi (x y:IV):Int:=max4 (ceI (x.lo.v*y.lo.v) 4294967296) (ceI (x.lo.v*y.hi.v) 4294967296) (ceI (x.hi.v*y.lo.v) 4294967296) (ceI (x.hi.v*y.hi.v) 4294967296)
def ivMul (x y:IV):IV×Int:=mdI (mulLo x y) (mulHi x y)
def sgA (a b:Int):Int:=if b<0 then-a else a
def sgB (b:Int):Int:=if b<0 then-b else b
def ivIn (x y:IV):Prop:=y.lo.v≤x.lo.v∧x.hi.v≤y.hi.v
instance (x y:IV):Decidable (ivIn x y):=inferInstanceAs (Decidable (_∧_))
def ivHas (x:IV) (f:FQ):Prop:=x.lo.v*f.q.v≤f.p.v*4294967296∧f.p.v*4294967296≤x.hi.v*f.q.v
instance (x:IV) (f:FQ):Decidable (ivHas x f):=inferInstanceAs (Decidable (_∧_))
def mkSo (a b:FQ):IV×Int:=if inL a.p.v∧inL a.q.v∧inL b.p.v∧inL b.q.v then mdI (flI (a.p.v*4294967296) a.q.v) (ceI (b.p.v*4294967296) b.q.v) else (ivZ,4)
def mkI (a b:FQ):IV×Int:=if cmpF a b>0 then mkSo b a else mkSo a b
theorem zcm {a b c:Int} (h:0<c):a*c≤b*c↔a≤b:=⟨fun k=>Int.le_of_mul_le_mul_right k h,fun k=>Int.mul_le_mul_of_nonneg_right k (Int.le_of_lt h)⟩
theorem zjj {x:IV} {f:FQ} {n d:Int} (hd:0<d) (h:f.is n d):ivHas x f↔x.lo.v*d≤n*4294967296∧n*4294967296≤x.hi.v*d:=by
 have hq:=f.q1
 unfold FQ.is at h
 unfold ivHas
 have e:f.p.v*4294967296*d=n*4294967296*f.q.v:=by rw[Int.mul_right_comm,h];grind
 have k1:∀z:Int,(z*f.q.v≤f.p.v*4294967296↔z*d≤n*4294967296):=fun z=>by
  rw[←zcm hd,←zcm (c:=f.q.v) (a:=z*d) (by omega),e,Int.mul_right_comm z]
 have k2:∀z:Int,(f.p.v*4294967296≤z*f.q.v↔n*4294967296≤z*d):=fun z=>by
  rw[←zcm hd,←zcm (c:=f.q.v) (a:=n*4294967296) (by omega),e,Int.mul_right_comm z]
 rw[k1,k2]
theorem zmk {a b:FQ} {n d m e:Int} (hd:0<d) (he:0<e) (ha:a.is n d) (hb:b.is m e):cmpF a b=cmpI (n*e) (m*d):=by
 have qa:=a.q1
 have qb:=b.q1
 unfold FQ.is at *
 unfold cmpF
 have k:∀{a b c:Int},0<c→cmpI (a*c) (b*c)=cmpI a b:=fun {a b c} h=>by
  unfold cmpI
  simp only[Int.mul_lt_mul_right h]
 have hde:0<d*e:=Int.mul_pos hd he
 have hqq:0<a.q.v*b.q.v:=Int.mul_pos (by omega) (by omega)
 rw[←k hde,←k (a:=n*e) hqq]
 congr 1
 ·calc a.p.v*b.q.v*(d*e)=a.p.v*d*(b.q.v*e):=by grind
   _=n*a.q.v*(b.q.v*e):=by rw[ha]
   _=n*e*(a.q.v*b.q.v):=by grind
 ·calc b.p.v*a.q.v*(d*e)=b.p.v*e*(a.q.v*d):=by grind
   _=m*b.q.v*(a.q.v*d):=by rw[hb]
   _=m*d*(a.q.v*b.q.v):=by grind
theorem zni {x y:IV} {P R q r:Int} (hq:0<q) (hr:0<r) (x1:x.lo.v*q≤P*4294967296) (x2:P*4294967296≤x.hi.v*q) (y1:y.lo.v*r≤R*4294967296) (y2:R*4294967296≤y.hi.v*r)
  (h:(ivAdd x y).2=0):(ivAdd x y).1.lo.v*(q*r)≤(P*r+R*q)*4294967296∧(P*r+R*q)*4294967296≤(ivAdd x y).1.hi.v*(q*r):=by
 unfold ivAdd at h ⊢
 obtain⟨_,_,e1,e2⟩:=zfO h
 rw[e1,e2]
 have a1:=zbH x1 (Int.le_of_lt hr)
 have a2:=zbH x2 (Int.le_of_lt hr)
 have a3:=zbH y1 (Int.le_of_lt hq)
 have a4:=zbH y2 (Int.le_of_lt hq)
 constructor<;>grind
theorem zcM {c m P k:Int} (hk:0<k) (hm:m≤flI c 4294967296) (h:c*k≤P*4294967296*4294967296):m*k≤P*4294967296:=by
 have h1:=(zcd (by decide)).1 hm
 have h2:=zbH h1 (Int.le_of_lt hk)
 refine Int.le_of_mul_le_mul_right (a:=4294967296) ?_ (by decide)
 grind
theorem zcJ {c m P k:Int} (hk:0<k) (hm:ceI c 4294967296≤m) (h:P*4294967296*4294967296≤c*k):P*4294967296≤m*k:=by
 have h1:=(zb8 (by decide)).1 hm
 have h2:=zbH h1 (Int.le_of_lt hk)
 refine Int.le_of_mul_le_mul_right (a:=4294967296) ?_ (by decide)
 grind
theorem zn5 {x y:IV} {P R q r:Int} (hq:0<q) (hr:0<r) (x1:x.lo.v*q≤P*4294967296) (x2:P*4294967296≤x.hi.v*q) (y1:y.lo.v*r≤R*4294967296) (y2:R*4294967296≤y.hi.v*r) :
  mulLo x y*(q*r)≤P*R*4294967296∧P*R*4294967296≤mulHi x y*(q*r):=by
 have hk:0<q*r:=Int.mul_pos hq hr
 have c1:=zgn (Int.le_of_lt hq) (Int.le_of_lt hr) x1 x2 y1 y2
 have c2:=ziP (Int.le_of_lt hq) (Int.le_of_lt hr) x1 x2 y1 y2
 rw[show P*4294967296*(R*4294967296)=P*R*4294967296*4294967296 by grind] at c1 c2
 obtain⟨m1,m2,m3,m4⟩:=zgC (flI (x.lo.v*y.lo.v) 4294967296) (flI (x.lo.v*y.hi.v) 4294967296) (flI (x.hi.v*y.lo.v) 4294967296) (flI (x.hi.v*y.hi.v) 4294967296)
 obtain⟨n1,n2,n3,n4⟩:=zgB (ceI (x.lo.v*y.lo.v) 4294967296) (ceI (x.lo.v*y.hi.v) 4294967296) (ceI (x.hi.v*y.lo.v) 4294967296) (ceI (x.hi.v*y.hi.v) 4294967296)
 constructor
 ·rcases c1 with c|c|c|c
  ·exact zcM hk m1 c
  ·exact zcM hk m2 c
  ·exact zcM hk m3 c
  ·exact zcM hk m4 c
 ·rcases c2 with c|c|c|c
  ·exact zcJ hk n1 c
  ·exact zcJ hk n2 c
  ·exact zcJ hk n3 c
  ·exact zcJ hk n4 c
theorem zo7 (a b:Int):sgA (-a) b = - sgA a b:=by unfold sgA;split<;>rfl
end Go.Eng
namespace Go.Eng
theorem zjm {a z b:Int} (ha:inB a) (hb:inB b) (h1:a≤z) (h2:z≤b):inB z:=by
 rw[zeT] at *
 generalize two 8192=q at *
 omega
def IV.ok (x:IV):Prop:=x.lo.v≤x.hi.v
theorem zjt:ivZ.ok:=Int.le_refl _
theorem zjC {lo hi:Int} (h:lo≤hi):(mdI lo hi).1.ok:=by
 rcases zqz lo hi with e|e
 ·obtain⟨_,_,e1,e2⟩:=zfO e
  unfold IV.ok;rw[e1,e2];exact h
 ·rw[e];exact zjt
theorem zqA {lo hi lo' hi':Int} (h1:lo≤lo') (h2:lo'≤hi') (h3:hi'≤hi) (h:(mdI lo hi).2=0):(mdI lo' hi').2=0∧ivIn (mdI lo' hi').1 (mdI lo hi).1:=by
 obtain⟨b1,b2,e1,e2⟩:=zfO h
 obtain⟨f0,f1,f2⟩:=zij (lo:=lo') (hi:=hi') ⟨zjm b1 b2 h1 (by omega),zjm b1 b2 (by omega) h3⟩
 refine⟨f0,?_⟩
 unfold ivIn
 rw[e1,e2,f1,f2]
 exact⟨h1,h3⟩
theorem zmJ (x y:IV):mulLo x y≤mulHi x y:=by
 have h1:=(zgC (flI (x.lo.v*y.lo.v) 4294967296) (flI (x.lo.v*y.hi.v) 4294967296) (flI (x.hi.v*y.lo.v) 4294967296) (flI (x.hi.v*y.hi.v) 4294967296)).1
 have h2:=(zgB (ceI (x.lo.v*y.lo.v) 4294967296) (ceI (x.lo.v*y.hi.v) 4294967296) (ceI (x.hi.v*y.lo.v) 4294967296) (ceI (x.hi.v*y.hi.v) 4294967296)).1
 exact Int.le_trans h1 (Int.le_trans (zg9 (by decide)) h2)
theorem zlt (x y:IV):(ivMul x y).1.ok:=zjC (zmJ x y)
theorem zls {x y:IV} (hx:x.ok) (hy:y.ok):(ivAdd x y).1.ok:=zjC (by unfold IV.ok at *;omega)
theorem zpx {x y u v:IV} (hx:x.ok) (hy:y.ok) (h1:ivIn x u) (h2:ivIn y v) (h:(ivAdd u v).2=0):(ivAdd x y).2=0∧ivIn (ivAdd x y).1 (ivAdd u v).1:=by
 unfold IV.ok at hx hy
 unfold ivIn at h1 h2
 exact zqA (by omega) (by omega) (by omega) h
theorem zik {a b c d m:Int} (ha:m≤a) (hb:m≤b) (hc:m≤c) (hd:m≤d):m≤min4 a b c d:=by
 rcases zn2 a b c d with h|h|h|h<;>rw[h]<;>assumption
theorem zii {a b c d m:Int} (ha:a≤m) (hb:b≤m) (hc:c≤m) (hd:d≤m):max4 a b c d≤m:=by
 rcases zn1 a b c d with h|h|h|h<;>rw[h]<;>assumption
theorem zcl {u v:IV} {X Y:Int} (h1:u.lo.v≤X) (h2:X≤u.hi.v) (h3:v.lo.v≤Y) (h4:Y≤v.hi.v):mulLo u v≤flI (X*Y) 4294967296∧ceI (X*Y) 4294967296≤mulHi u v:=by
 have c1:=zgn (q:=1) (r:=1) (by decide) (by decide) (a:=u.lo.v) (b:=u.hi.v) (P:=X) (c:=v.lo.v) (d:=v.hi.v) (R:=Y) (by omega) (by omega) (by omega) (by omega)
 have c2:=ziP (q:=1) (r:=1) (by decide) (by decide) (a:=u.lo.v) (b:=u.hi.v) (P:=X) (c:=v.lo.v) (d:=v.hi.v) (R:=Y) (by omega) (by omega) (by omega) (by omega)
 simp only[Int.mul_one] at c1 c2
 obtain⟨m1,m2,m3,m4⟩:=zgC (flI (u.lo.v*v.lo.v) 4294967296) (flI (u.lo.v*v.hi.v) 4294967296) (flI (u.hi.v*v.lo.v) 4294967296) (flI (u.hi.v*v.hi.v) 4294967296)
 obtain⟨n1,n2,n3,n4⟩:=zgB (ceI (u.lo.v*v.lo.v) 4294967296) (ceI (u.lo.v*v.hi.v) 4294967296) (ceI (u.hi.v*v.lo.v) 4294967296) (ceI (u.hi.v*v.hi.v) 4294967296)
 have f:∀{a:Int},a≤X*Y→flI a 4294967296≤flI (X*Y) 4294967296:=fun h=>znC (by decide) h
 have g:∀{a:Int},X*Y≤a→ceI (X*Y) 4294967296≤ceI a 4294967296:=fun h=>znl (by decide) h
 constructor
 ·rcases c1 with c|c|c|c
  ·exact Int.le_trans m1 (f c)
  ·exact Int.le_trans m2 (f c)
  ·exact Int.le_trans m3 (f c)
  ·exact Int.le_trans m4 (f c)
 ·rcases c2 with c|c|c|c
  ·exact Int.le_trans (g c) n1
  ·exact Int.le_trans (g c) n2
  ·exact Int.le_trans (g c) n3
  ·exact Int.le_trans (g c) n4
theorem zqE {x y u v:IV} (hx:x.ok) (hy:y.ok) (h1:ivIn x u) (h2:ivIn y v) (h:(ivMul u v).2=0):(ivMul x y).2=0∧ivIn (ivMul x y).1 (ivMul u v).1:=by
 unfold IV.ok at hx hy
 unfold ivIn at h1 h2
 have k1:=zcl (u:=u) (v:=v) (X:=x.lo.v) (Y:=y.lo.v) (by omega) (by omega) (by omega) (by omega)
 have k2:=zcl (u:=u) (v:=v) (X:=x.lo.v) (Y:=y.hi.v) (by omega) (by omega) (by omega) (by omega)
 have k3:=zcl (u:=u) (v:=v) (X:=x.hi.v) (Y:=y.lo.v) (by omega) (by omega) (by omega) (by omega)
 have k4:=zcl (u:=u) (v:=v) (X:=x.hi.v) (Y:=y.hi.v) (by omega) (by omega) (by omega) (by omega)
 exact zqA (zik k1.1 k2.1 k3.1 k4.1) (zmJ x y) (zii k1.2 k2.2 k3.2 k4.2) h
def fdQ (f:FQ):Int:=flI (f.p.v*4294967296) f.q.v
def ceQ (f:FQ):Int:=ceI (f.p.v*4294967296) f.q.v
theorem zdI {a b:FQ}:cmpF a b>0↔b.p.v*a.q.v<a.p.v*b.q.v:=by unfold cmpF cmpI;split<;>(try split)<;>omega
theorem zeN {a b:FQ} (h:a.p.v*b.q.v≤b.p.v*a.q.v):fdQ a≤fdQ b:=by
 have qa:=a.q1
 have qb:=b.q1
 unfold fdQ
 rw[zcd (by omega)]
 have f:=znB (a:=a.p.v*4294967296) (b:=a.q.v) (by omega)
 generalize flI (a.p.v*4294967296) a.q.v=m at *
 have f2:=zbH f (show 0≤b.q.v by omega)
 have h2:=zbH h (show (0:Int)≤4294967296 by decide)
 refine Int.le_of_mul_le_mul_right (a:=a.q.v) ?_ (by omega)
 grind
theorem zgW {a b:FQ} (h:a.p.v*b.q.v≤b.p.v*a.q.v):ceQ a≤ceQ b:=by
 have qa:=a.q1
 have qb:=b.q1
 unfold ceQ
 rw[zb8 (by omega)]
 have f:=znY (a:=b.p.v*4294967296) (b:=b.q.v) (by omega)
 generalize ceI (b.p.v*4294967296) b.q.v=m at *
 have f2:=zbH f (show 0≤a.q.v by omega)
 have h2:=zbH h (show (0:Int)≤4294967296 by decide)
 refine Int.le_of_mul_le_mul_right (a:=b.q.v) ?_ (by omega)
 grind
theorem ztr (a:FQ):fdQ a≤ceQ a:=zg9 (by have:=a.q1;omega)
theorem zmE {x:IV} {f:FQ}:ivHas x f↔x.lo.v≤fdQ f∧ceQ f≤x.hi.v:=by
 have hq:=f.q1
 unfold ivHas fdQ ceQ
 rw[zcd (by omega),zb8 (by omega)]
theorem zjF {a b:FQ} (h:a.p.v*b.q.v≤b.p.v*a.q.v):(mkSo a b).1.ok:=by
 unfold mkSo
 split
 ·exact zjC (Int.le_trans (zeN h) (ztr b))
 ·exact zjt
theorem zhq (a b:FQ):(mkI a b).1.ok:=by
 unfold mkI
 split
 ·rename_i h;rw[zdI] at h;exact zjF (Int.le_of_lt h)
 ·rename_i h;rw[zdI] at h;exact zjF (by omega)
theorem zmH {a b:FQ} (h:(mkSo a b).2=0):(mkSo a b).1.lo.v=fdQ a∧(mkSo a b).1.hi.v=ceQ b:=by
 unfold mkSo at *
 split at h
 ·rename_i q
  rw[if_pos q]
  exact(zfO h).2.2
 ·cases h
theorem ztZ {a b:FQ} (h:(mkI a b).2=0):(mkI a b).1.lo.v=min2 (fdQ a) (fdQ b)∧(mkI a b).1.hi.v=max2 (ceQ a) (ceQ b):=by
 rw[zjD,zjz]
 unfold mkI at *
 split
 ·rename_i q
  rw[if_pos q] at h
  rw[zdI] at q
  have m1:=zeN (Int.le_of_lt q)
  have m2:=zgW (Int.le_of_lt q)
  have k:=zmH h
  omega
 ·rename_i q
  rw[if_neg q] at h
  rw[zdI] at q
  have m1:=zeN (a:=a) (b:=b) (by omega)
  have m2:=zgW (a:=a) (b:=b) (by omega)
  have k:=zmH h
  omega
theorem zn3 {a b:FQ} (h:(mkI a b).2=0):ivHas (mkI a b).1 a∧ivHas (mkI a b).1 b:=by
 obtain⟨h1,h2⟩:=ztZ h
 rw[zjD] at h1
 rw[zjz] at h2
 rw[zmE,zmE]
 omega
end Go.Eng
namespace Go.Eng
def isPG:PV→Bool
 | .p _ _=>true
 | .fp _=>true
 | _=>false
def slotInF (E:PEnv) (ops:List XOper) (L:List Nat) (c:Nat×Nat):Bool :=
 match ops[c.1]?,ops[c.2]? with
 | some a,some b =>
  match a.op with
  | .load _ _ (.t s)=>L.contains s&&calmOp E b.op&&fixedX ops c.2 (.t s)
  | _=>false
 | _,_=>false
end Go.Eng
namespace Go.Eng
theorem zfi (ns:List Nat) (M:PM):M.map (Option.map PB.ver)=(roM M ns).map (Option.map PB.ver):=by
 refine List.ext_getElem? fun k=>?_
 have h:=(zgM ns M k).1
 rw[List.getElem?_map,List.getElem?_map]
 exact h.symm
def calmW (E:PEnv) (ops:List XOper) (c:Nat×Nat):Bool :=
 match ops[c.1]?,ops[c.2]? with
 | some _,some b=>calmOp E b.op
 | _,_=>false
theorem zak {E:PEnv} {F:PFin} {ops:List XOper} {chk:List (Nat×Nat)} {ks:List KI} {fr:PFr} {M:PM} (hL:chk.all (calmW E ops)=true) (w:WL E F ops ks fr M):WK E F (.drw ops chk) ks fr M:=by
 refine zcZ (fun fr2 Ms hT=>?_) w
 rw[List.all_eq_true] at hL ⊢
 rintro⟨i,j⟩ hc
 have h1:=hL _ hc
 unfold calmW at h1
 split at h1
 ·rename_i a b ha hb
  obtain⟨fri,A,B,q1,q2,q3,q4⟩:=zax hT ha
  obtain⟨frj,C,D,p1,p2,p3,p4⟩:=zax hT hb
  have p2':Ms[(i,j).2+1]?=some D:=p2
  rw[chkP,Bool.or_eq_true]
  right
  simp only[chkS,ha,q1,p1,p2]
  rw[decide_eq_true_eq]
  rcases p3 with⟨_,v,p3⟩|⟨_,p3⟩
  ·cases hopb:b.op with
   | call f l =>
    rw[hopb] at p3 h1
    obtain⟨ns,rfl⟩:=zcC h1 p3
    exact zfi ns C
   | _=>rw[hopb] at h1;simp[calmOp] at h1
  ·rw[p3]
 ·cases h1
end Go.Eng
namespace Go.Eng
theorem zl2 {E:PEnv} {ops:List XOper} {fr fr2:PFr} {M:PM} {Ms:List PM} {P:PV→Bool} {L:List Nat} (hr:WL E ⟨(0::0::L).map XR.tmp,fun w _=>∃l,w=.tu l∧(l.drop 2).all P=true⟩ ops [] fr M) (hT:pOpsT E.glob (pcl E) ops fr M=some (fr2,Ms)):L.all (fun s=>P (fr2 s))=true:=by
 obtain⟨lf,q,fr3,M3,vs,e,h1,h2,l,h3,h4⟩:=hr
 simp only[Option.bind_eq_some_iff,unw] at e
 obtain⟨⟨fr4,M4⟩,e1,e2⟩:=e
 simp only[Option.some.injEq,Prod.mk.injEq] at e2
 obtain⟨_,e3,e4⟩:=e2
 rw[←e3,←e4] at h2
 obtain⟨Ms',g1,g2⟩:=zbY e1
 rw[g1] at hT
 cases hT
 have hres:∀(f:PFr) (N:PM) (l:List Nat),pRes f N (l.map XR.tmp)=some (l.map f):=fun f N l=>by
  induction l with
  | nil=>rfl
  | cons a l ih=>simp only[List.map_cons,pRes,pResOne,ih]
 rw[hres] at h2
 cases h2
 simp only[List.map_cons,packP] at h3
 cases h3
 simpa [List.all_map] using h4
def isPn (n:Nat):PV→Bool
 | .p k _=>k==n
 | _=>false
def loadOf (ops:List XOper) (i s:Nat):Bool :=
 match ops[i]? with
 | some a=>(match a.op with | .load _ _ (.t t)=>t==s|_=>false)
 | none=>false
end Go.Eng
namespace Go.Eng
def isPf (E:PEnv):PV→Bool
 | .fn f _=>E.pure f
 | _=>false
def calmVo (ops:List XOper) (L:List Nat) (c:Nat×Nat):Bool :=
 match ops[c.1]?,ops[c.2]? with
 | some _,some b =>
  match b.op with
  | .callv (.t s) _=>L.contains s&&fixedX ops c.2 (.t s)
  | _=>false
 | _,_=>false
theorem zd9 {E:PEnv} {F:PFin} {ops:List XOper} {chk:List (Nat×Nat)} {ks:List KI} {fr:PFr} {M:PM} (L:List Nat) (hL:chk.all (fun c=>calmW E ops c || calmVo ops L c)=true)
  (hr:WL E ⟨(0::0::L).map XR.tmp,fun w _=>∃l,w=.tu l∧(l.drop 2).all (isPf E)=true⟩ ops [] fr M) (w:WL E F ops ks fr M):WK E F (.drw ops chk) ks fr M:=by
 refine zcZ (fun fr2 Ms hT=>?_) w
 have hp:=zl2 hr hT
 rw[List.all_eq_true] at hL hp ⊢
 rintro⟨i,j⟩ hc
 have h1:=hL _ hc
 rw[Bool.or_eq_true] at h1
 rcases h1 with h1|h1
 ·unfold calmW at h1
  split at h1
  ·rename_i a b ha hb
   obtain⟨fri,A,B,q1,q2,q3,q4⟩:=zax hT ha
   obtain⟨frj,C,D,p1,p2,p3,p4⟩:=zax hT hb
   have p2':Ms[(i,j).2+1]?=some D:=p2
   rw[chkP,Bool.or_eq_true]
   right
   simp only[chkS,ha,q1,p1,p2]
   rw[decide_eq_true_eq]
   rcases p3 with⟨_,v,p3⟩|⟨_,p3⟩
   ·cases hopb:b.op with
    | call f l =>
     rw[hopb] at p3 h1
     obtain⟨ns,rfl⟩:=zcC h1 p3
     exact zfi ns C
    | _=>rw[hopb] at h1;simp[calmOp] at h1
   ·rw[p3]
  ·cases h1
 ·unfold calmVo at h1
  split at h1
  ·rename_i a b ha hb
   split at h1
   ·rename_i s l hop
    rw[Bool.and_eq_true] at h1
    obtain⟨c1,c2⟩:=h1
    obtain⟨fri,A,B,q1,q2,q3,q4⟩:=zax hT ha
    obtain⟨frj,C,D,p1,p2,p3,p4⟩:=zax hT hb
    have p2':Ms[(i,j).2+1]?=some D:=p2
    have hs:=hp s (List.contains_iff_mem.1 c1)
    have hf:=p4 _ c2
    have hf:fr2 s=frj s:=hf
    rw[hf] at hs
    rw[chkP,Bool.or_eq_true]
    right
    simp only[chkS,ha,q1,p1,p2]
    rw[decide_eq_true_eq]
    rcases p3 with⟨_,v,p3⟩|⟨_,p3⟩
    ·rw[hop] at p3
     simp only[XO.pst,X.pv] at p3
     cases hv:frj s with
     | fn f d =>
      rw[hv] at p3 hs
      obtain⟨ns,rfl⟩:=zcC hs p3
      exact zfi ns C
     | _=>rw[hv] at hs;simp[isPf] at hs
    ·rw[p3]
   ·cases h1
  ·cases h1
end Go.Eng
namespace Go.Eng
theorem two_mul (i j:Nat):two i*two j=two (i+j):=by unfold two;rw[Nat.pow_add];push_cast;rfl
theorem znQ {K N:Nat} (h:K<N):inK N (two K):=by
 unfold inK;rw[zcn];exact Nat.pow_lt_pow_right (by decide) h
theorem zmd {K:Nat} (h:K<16384):wlen (two K).natAbs≤512:=zjp (znQ (Nat.lt_succ_self K)) (by omega)
noncomputable def wTwo (K:Nat):WI:=clip (two K)
theorem znd {K:Nat} (h:K<16384):(wTwo K).v=two K:=zbF (zmd h)
noncomputable def w32:WI:=wiOf 4294967296 (by decide)
theorem zkK:w32.v=4294967296:=rfl
theorem zrR:two 32=4294967296:=by unfold two;decide
theorem f32:pf E0 34 [.i .i64 4294967296]=some (wiP w32):=zbw (n:=4294967296) (by decide)
theorem zvv:∀k:Nat,k<32→IntKind.i64.wrap (1*2^(min (k:Int).toNat 64))=two k:=by unfold two;decide
theorem zkW {k:Nat} (h:k<32):binP .shl (.i .i64 1) (.i .i64 (k:Int))=some (.i .i64 (two k)):=by
 rw[zgf (h:=by omega)]
 show some (PV.i .i64 (IntKind.i64.wrap (1*2^(min (k:Int).toNat 64))))=_
 rw[zvv k h]
theorem zfn {k:Nat} (h:k<32):Fits64 (two k):=by
 have:∀k:Nat,k<32→2^k<4294967297:=by decide
 have:=this k h
 unfold Fits64 two
 generalize (2:Nat)^k=n at *
 omega
theorem zj6 {K:Nat} (hK:K≤16300):pf E0 293 [(PV.i .i64 ((K:Nat):Int))]=some (wiP (wTwo K)):=by
 refine zaa (xf:=zzD) rfl (by simp[zzD]) ?_
 simp only[zzD]
 have f1:pf E0 34 [.i .i64 1]=some (wiP wi1):=zbw (n:=1) (by decide)
 have t0:wi1.v=two (K-K):=by rw[Nat.sub_self];rfl
 generalize wi1=w1 at *
 simp(disch:=omega)only[go_sem,seval,wqq,f1]
 refine zag zAT.eq_1 (fun(σ:Nat×WI) fr M=>σ.1≤K∧σ.2.v=two (K-σ.1)∧fr 0=(PV.i .i64 ((σ.1:Nat):Int))∧fr 2=.p 0 0∧fr 3=.p 1 0∧∃v,M=[some ⟨[.b false,.nl],true,0⟩,some ⟨(wiP σ.2).cells,true,v⟩]) (fun σ=>σ.1) ?_ (K,w1) ⟨Nat.le_refl _,t0,by simp only[go_sem,seval],by simp only[go_sem,seval],by simp only[go_sem,seval],_,rfl⟩
 rintro⟨k,x⟩ fr M ⟨hk,hx,f0,f2,f3,v,rfl⟩ ih
 simp only at hk hx f0
 by_cases h:32≤k
 ·have q1:(32≤(k:Int))=True:=by simp;omega
  have g1:=f32
  have m1:=zdW x w32
  rw[zkK,hx,←zrR,two_mul] at m1
  have e1:K-k+32=K-(k-32):=by omega
  rw[e1,zaQ (zmd (by omega))] at m1
  have yv:(clip (two (K-(k-32)))).v=two (K-(k-32)):=zbF (zmd (by omega))
  generalize clip (two (K-(k-32)))=y at *
  generalize w32=ww at *
  simp(disch:=omega)only[go_sem,seval,wqq,f0,f2,f3,q1]
  refine zak rfl ?_
  simp(disch:=omega)only[go_sem,seval,wqq,f0,f2,f3,g1,m1]
  exact ih (k-32,y) _ _ (by simp only;omega) ⟨by simp only;omega,yv,by simp only[go_sem,seval];rw[Int.ofNat_sub h];rfl,by simp only[go_sem,seval,f2],by simp only[go_sem,seval,f3],_,rfl⟩
 ·have q1:(32≤(k:Int))=False:=by simp;omega
  have s1:=zkW (k:=k) (by omega)
  have g1:=zbw (zfn (k:=k) (by omega))
  have gv:(wiOf (two k) (zfn (k:=k) (by omega))).v=two k:=rfl
  generalize wiOf (two k) (zfn (k:=k) (by omega))=ww at *
  have m1:=zdW x ww
  rw[gv,hx,two_mul] at m1
  have e1:K-k+k=K:=by omega
  rw[e1,zaQ (zmd (by omega))] at m1
  have m1:pf E0 38 [wiP x,wiP ww]=some (.tu [wiP (wTwo K),.i .i64 0]):=m1
  generalize wTwo K=y at *
  generalize two k=tk at *
  simp(disch:=omega)only[go_sem,seval,wqq,f0,f2,f3,q1]
  refine zak rfl ?_
  simp(disch:=omega)only[go_sem,seval,wqq,f0,f2,f3,s1,g1,m1]
theorem zhJ {x:WI}:pf E0 295 [wiP x]=some (.tu [wiP (clip (x.v*4294967296)),.i .i64 (lerr (x.v*4294967296))]):=by
 refine zaa (xf:=zzr) rfl (by simp[zzr]) ?_
 simp only[zzr]
 have g1:=f32
 have m1:=zdW x w32
 rw[zkK] at m1
 generalize x.v*4294967296=z at *
 generalize w32=ww at *
 simp(disch:=omega)only[go_sem,seval,wqq]
 refine zak rfl ?_
 simp(disch:=omega)only[go_sem,seval,wqq,g1,m1]
theorem zfS (x y:WI) (h:y.v≠0):pf E0 296 [wiP x,wiP y]=some (.tu [wiP (x.div y h),.i .i64 0]):=by
 have fd:=zin x y h
 generalize x.div y h=q at *
 generalize x.mod y h=r at *
 refine zaa (xf:=zzz) rfl (by simp[zzz]) ?_
 simp only[zzz]
 simp(disch:=omega)only[go_sem,seval,wqq,fd]
theorem zhE (x y:WI) (h:0<y.v):∃q:WI,q.v=ceI x.v y.v∧pf E0 298 [wiP x,wiP y]=some (.tu [wiP q,.i .i64 0]):=by
 have hn:y.v≠0:=by omega
 have fd:=zin x y hn
 have e1:(x.div y hn).v=x.v/y.v:=rfl
 have e2:(x.mod y hn).v=x.v%y.v:=rfl
 have c:=zpO (a:=x.v) h
 rw[←e1,←e2] at c
 have bnd:wlen (ceI x.v y.v).natAbs≤512:=by
  refine(zaF _).2 (Nat.lt_of_le_of_lt ?_ ((zaF _).1 x.lim))
  unfold ceI
  rw[Int.natAbs_neg]
  exact Nat.le_trans (zdr _ _) (by rw[Int.natAbs_neg];exact Nat.le_refl _)
 have sr:=zce (x.mod y hn)
 have a1:=zgF (x.div y hn) wi1
 rw[zpp] at a1
 have g1:pf E0 34 [.i .i64 1]=some (wiP wi1):=zbw (n:=1) (by decide)
 generalize x.div y hn=q at *
 generalize x.mod y hn=r at *
 generalize wi1=w1 at *
 by_cases hr:r.v=0
 ·rw[if_pos hr] at c
  refine⟨q,by rw[c],?_⟩
  have t0:(cmpI r.v 0=0)=True:=by rw[hr];simp[cmpI]
  refine zaa (xf:=zyX) rfl (by simp[zyX]) ?_
  simp only[zyX]
  simp(disch:=omega)only[go_sem,seval,wqq,fd,sr,t0]
 ·rw[if_neg hr] at c
  have ok:=zaQ bnd
  rw[c] at ok
  have cv:(clip (q.v+1)).v=q.v+1:=zbF (by rw[←c];exact bnd)
  refine⟨clip (q.v+1),by rw[cv,c],?_⟩
  rw[ok] at a1
  have t0:(cmpI r.v 0=0)=False:=by rw[zaW];simp[hr]
  generalize clip (q.v+1)=z at *
  refine zaa (xf:=zyX) rfl (by simp[zyX]) ?_
  simp only[zyX]
  simp(disch:=omega)only[go_sem,seval,wqq,fd,sr,t0]
  refine zak rfl ?_
  simp(disch:=omega)only[go_sem,seval,wqq,g1,a1]
theorem zoD (x y:WI):pf E0 297 [wiP x,wiP y]=some (.b (decide (x.v<y.v))):=by
 have c1:=zaG x y
 have e:decide (cmpI x.v y.v<0)=decide (x.v<y.v):=by unfold cmpI;split<;>(try split)<;>simp<;>omega
 rw[←e]
 refine zaa (xf:=zzn) rfl (by simp[zzn]) ?_
 simp only[zzn]
 simp(disch:=omega)only[go_sem,seval,wqq,c1]
theorem zt7 (x y:WI):pf E0 299 [wiP x,wiP y]=some (.b (decide (x.v>y.v))):=by
 have c1:=zaG x y
 have e:decide (cmpI x.v y.v>0)=decide (x.v>y.v):=by unfold cmpI;split<;>(try split)<;>simp<;>omega
 rw[←e]
 refine zaa (xf:=zzR) rfl (by simp[zzR]) ?_
 simp only[zzR]
 simp(disch:=omega)only[go_sem,seval,wqq,c1]
theorem zfR (x:WI):pf E0 294 [wiP x]=some (.b (decide (inB x.v))):=by
 have hp:pf E0 293 [.i .i64 8192]=some (wiP (wTwo 8192)):=zj6 (K:=8192) (by omega)
 have tv:(wTwo 8192).v=two 8192:=znd (by omega)
 have c1:=zaG x (wTwo 8192)
 have n1:=zip x
 have c2:=zaG x.neg (wTwo 8192)
 have nv:x.neg.v = -x.v:=rfl
 rw[tv] at c1 c2
 rw[nv] at c2
 have hb:=zeT x.v
 generalize wTwo 8192=w at *
 generalize x.neg=y at *
 generalize two 8192=t at *
 have e:decide (inB x.v)=(if cmpI x.v t<0 then decide (cmpI (-x.v) t<0) else false):=by
  by_cases h1:x.v<t
  ·have k1:cmpI x.v t<0:=by unfold cmpI;rw[if_pos h1];decide
   rw[if_pos k1]
   by_cases h2 : -x.v<t
   ·have k2:cmpI (-x.v) t<0:=by unfold cmpI;rw[if_pos h2];decide
    rw[decide_eq_true k2]
    exact decide_eq_true (hb.2 (by omega))
   ·have k2:¬cmpI (-x.v) t<0:=by unfold cmpI;rw[if_neg h2];split<;>decide
    rw[decide_eq_false k2]
    exact decide_eq_false (fun q=>by have:=hb.1 q;omega)
  ·have k1:¬cmpI x.v t<0:=by unfold cmpI;rw[if_neg h1];split<;>decide
   rw[if_neg k1]
   exact decide_eq_false (fun q=>by have:=hb.1 q;omega)
 rw[e]
 clear e hb
 refine zaa (xf:=zza) rfl (by simp[zza]) ?_
 simp only[zza]
 simp(disch:=omega)only[go_sem,seval,wqq,hp]
 by_cases h1:cmpI x.v t<0
 ·rw[if_pos h1]
  have h1:(cmpI x.v t<0)=True:=by simp[h1]
  refine zak rfl ?_
  simp(disch:=omega)only[go_sem,seval,wqq,c1,n1,c2,h1]
 ·rw[if_neg h1]
  have h1:(cmpI x.v t<0)=False:=by simp[h1]
  refine zak rfl ?_
  simp(disch:=omega)only[go_sem,seval,wqq,c1,h1]
theorem zj4 (x y:WI):pf E0 290 [wiP x,wiP y]=some (.tu [ivP (mdI x.v y.v).1,.i .i64 (mdI x.v y.v).2]):=by
 have r1:=zfR x
 have r2:=zfR y
 by_cases h:inB x.v∧inB y.v
 ·have q1:decide (inB x.v)=true:=decide_eq_true h.1
  have q2:decide (inB y.v)=true:=decide_eq_true h.2
  rw[q1] at r1
  rw[q2] at r2
  have m1:ivP (mdI x.v y.v).1=.ag [.b (decide (x.v<0)),D x.v.natAbs,.b (decide (y.v<0)),D y.v.natAbs]:=by unfold mdI;rw[dif_pos h];rfl
  rw[m1,(zij h).1]
  refine zaa (xf:=zyE) rfl (by simp[zyE]) ?_
  simp only[zyE]
  simp(disch:=omega)only[go_sem,seval,wqq,r1,r2,zaj,zac]
 ·rw[zjB h]
  show _=some (PV.tu [ivP ivZ,PV.i .i64 4])
  rw[znW]
  by_cases h1:inB x.v
  ·have q1:decide (inB x.v)=true:=decide_eq_true h1
   have q2:decide (inB y.v)=false:=decide_eq_false (fun q=>h ⟨h1,q⟩)
   rw[q1] at r1
   rw[q2] at r2
   refine zaa (xf:=zyE) rfl (by simp[zyE]) ?_
   simp only[zyE]
   simp(disch:=omega)only[go_sem,seval,wqq,r1,r2,zaj,zac]
  ·have q1:decide (inB x.v)=false:=decide_eq_false h1
   rw[q1] at r1
   refine zaa (xf:=zyE) rfl (by simp[zyE]) ?_
   simp only[zyE]
   simp(disch:=omega)only[go_sem,seval,wqq,r1,zaj,zac]
end Go.Eng
namespace Go.Eng
theorem zsd:cst E0.glob (.p 3 0)=.fp [.fn 296 [],.fn 297 []]:=_root_.id rfl
theorem zse:cst E0.glob (.p 4 0)=.fp [.fn 298 [],.fn 299 []]:=_root_.id rfl
theorem zre (a:FQ) (h:inL a.p.v):∃q:WI,q.v=fdQ a∧pf E0 291 [.ag [.fn 296 [],.fn 297 []],fqP a]=some (wiP q):=by
 have n1:=zhD a
 have d1:=zcf a
 have s1:=zhJ (x:=a.p)
 rw[zaQ (zhi h)] at s1
 have cv:=zbF (zhi h)
 have hq:=a.q1
 have fl:=zfS (clip (a.p.v*4294967296)) a.q (by omega)
 have qv:((clip (a.p.v*4294967296)).div a.q (by omega)).v=fdQ a:=by
  show (clip (a.p.v*4294967296)).v/a.q.v=_
  rw[cv];rfl
 generalize clip (a.p.v*4294967296)=z at *
 generalize z.div a.q (by omega)=q at *
 refine⟨q,qv,?_⟩
 refine zaa (xf:=zym) rfl (by simp[zym]) ?_
 simp only[zym]
 simp(disch:=omega)only[go_sem,seval,wqq,n1,s1]
 refine zak rfl ?_
 simp(disch:=omega)only[go_sem,seval,wqq,d1,fl]
theorem zrf (a:FQ) (h:inL a.p.v):∃q:WI,q.v=ceQ a∧pf E0 291 [.ag [.fn 298 [],.fn 299 []],fqP a]=some (wiP q):=by
 have n1:=zhD a
 have d1:=zcf a
 have s1:=zhJ (x:=a.p)
 rw[zaQ (zhi h)] at s1
 have cv:=zbF (zhi h)
 have hq:=a.q1
 obtain⟨q,qv,fl⟩:=zhE (clip (a.p.v*4294967296)) a.q (by omega)
 rw[cv] at qv
 generalize clip (a.p.v*4294967296)=z at *
 refine⟨q,qv,?_⟩
 refine zaa (xf:=zym) rfl (by simp[zym]) ?_
 simp only[zym]
 simp(disch:=omega)only[go_sem,seval,wqq,n1,s1]
 refine zak rfl ?_
 simp(disch:=omega)only[go_sem,seval,wqq,d1,fl]
theorem zhF (a:FQ):pf E0 289 [fqP a]=some (.b (decide (¬(inL a.p.v∧inL a.q.v)))):=by
 have hp:pf E0 293 [.i .i64 16000]=some (wiP (wTwo 16000)):=zj6 (K:=16000) (by omega)
 have tv:(wTwo 16000).v=two 16000:=znd (by omega)
 have n1:=zhD a
 have d1:=zcf a
 have s1:=zce a.p
 have g1:=zip a.p
 have nv:a.p.neg.v = -a.p.v:=rfl
 obtain⟨m,hm,mv⟩:∃m:WI,m=(if a.p.v<0 then a.p.neg else a.p)∧m.v=(a.p.v.natAbs:Int):=⟨_,rfl,by split<;>omega⟩
 have c1:=zaG m (wTwo 16000)
 have c2:=zaG a.q (wTwo 16000)
 rw[tv] at c1 c2
 have hq:=a.q1
 have l1:=zeU a.p.v
 have l2:=zeU a.q.v
 rw[←mv] at l1
 rw[show (a.q.v.natAbs:Int)=a.q.v by omega] at l2
 generalize wTwo 16000=w at *
 generalize two 16000=t at *
 have k:∀z:Int,(0≤cmpI z t)↔t≤z:=fun z=>by unfold cmpI;split<;>(try split)<;>omega
 have e:decide (¬(inL a.p.v∧inL a.q.v))=(if 0≤cmpI m.v t then true else decide (0≤cmpI a.q.v t)):=by
  by_cases h1:t≤m.v
  ·rw[if_pos ((k _).2 h1)]
   exact decide_eq_true (fun q=>l1.1 q.1 h1)
  ·rw[if_neg (fun q=>h1 ((k _).1 q))]
   by_cases h2:t≤a.q.v
   ·rw[decide_eq_true ((k _).2 h2)]
    exact decide_eq_true (fun q=>l2.1 q.2 h2)
   ·rw[decide_eq_false (fun q=>h2 ((k _).1 q))]
    exact decide_eq_false (fun q=>q ⟨l1.2 h1,l2.2 h2⟩)
 rw[e]
 clear e k l1 l2
 refine zaa (xf:=zzP) rfl (by simp[zzP]) ?_
 simp only[zzP]
 by_cases hn:a.p.v<0
 ·have q0:(cmpI a.p.v 0<0)=True:=by unfold cmpI;rw[if_pos hn];simp
  rw[if_pos hn] at hm
  rw[←hm] at g1
  simp(disch:=omega)only[go_sem,seval,wqq,hp,n1,s1,q0,g1]
  by_cases h1:0≤cmpI m.v t
  ·rw[if_pos h1]
   have h1:(0≤cmpI m.v t)=True:=by simp[h1]
   refine zak rfl ?_
   simp(disch:=omega)only[go_sem,seval,wqq,c1,h1]
  ·rw[if_neg h1]
   have h1:(0≤cmpI m.v t)=False:=by simp[h1]
   refine zak rfl ?_
   simp(disch:=omega)only[go_sem,seval,wqq,c1,h1,d1,c2]
 ·have q0:(cmpI a.p.v 0<0)=False:=by unfold cmpI;rw[if_neg hn];split<;>simp
  rw[if_neg hn] at hm
  rw[←hm] at n1 s1 q0
  simp(disch:=omega)only[go_sem,seval,wqq,hp,n1,s1,q0]
  by_cases h1:0≤cmpI m.v t
  ·rw[if_pos h1]
   have h1:(0≤cmpI m.v t)=True:=by simp[h1]
   refine zak rfl ?_
   simp(disch:=omega)only[go_sem,seval,wqq,c1,h1]
  ·rw[if_neg h1]
   have h1:(0≤cmpI m.v t)=False:=by simp[h1]
   refine zak rfl ?_
   simp(disch:=omega)only[go_sem,seval,wqq,c1,h1,d1,c2]
theorem zrk (a b c d:FQ) (hab:(cmpF a b>0∧c=b∧d=a)∨(¬cmpF a b>0∧c=a∧d=b)):pf E0 278 [fqP a,fqP b]=some (.tu [ivP (mkSo c d).1,.i .i64 (mkSo c d).2]):=by
 have c1:=zcq a b
 have l1:=zhF c
 have l2:=zhF d
 have step:∀q:Prop,(q=(0<cmpF a b))→(q=True∧c=b∧d=a)∨(q=False∧c=a∧d=b):=fun q hq=>by
  rcases hab with⟨h1,h2⟩|⟨h1,h2⟩
  ·left;exact⟨by rw[hq];simp;omega,h2⟩
  ·right;exact⟨by rw[hq];simp;omega,h2⟩
 have s0:=step _ rfl
 clear step hab
 by_cases h1:inL c.p.v∧inL c.q.v
 ·rw[decide_eq_false (fun q=>q h1)] at l1
  by_cases h2:inL d.p.v∧inL d.q.v
  ·rw[decide_eq_false (fun q=>q h2)] at l2
   obtain⟨x,xv,e1⟩:=zre c h1.1
   obtain⟨y,yv,e2⟩:=zrf d h2.1
   have md:=zj4 x y
   have m:mkSo c d=mdI x.v y.v:=by unfold mkSo;rw[if_pos ⟨h1.1,h1.2,h2.1,h2.2⟩,xv,yv];rfl
   rw[m]
   generalize (mdI x.v y.v).1=R at *
   generalize (mdI x.v y.v).2=E at *
   clear m xv yv h1 h2
   refine zaa (xf:=zyC) rfl (by simp[zyC]) ?_
   simp only[zyC]
   rcases s0 with⟨q0,rfl,rfl⟩|⟨q0,rfl,rfl⟩
   ·simp(disch:=omega)only[go_sem,seval,wqq,c1,q0,l1,l2]
    refine zak rfl ?_
    simp(disch:=omega)only[go_sem,seval,wqq,zsd,zse,e1,e2,md]
   ·simp(disch:=omega)only[go_sem,seval,wqq,c1,q0,l1,l2]
    refine zak rfl ?_
    simp(disch:=omega)only[go_sem,seval,wqq,zsd,zse,e1,e2,md]
  ·rw[decide_eq_true h2] at l2
   have m:mkSo c d=(ivZ,4):=by unfold mkSo;rw[if_neg (fun q=>h2 q.2.2)]
   rw[m]
   show _=some (PV.tu [ivP ivZ,PV.i .i64 4])
   rw[znW]
   clear m h1 h2
   refine zaa (xf:=zyC) rfl (by simp[zyC]) ?_
   simp only[zyC]
   rcases s0 with⟨q0,rfl,rfl⟩|⟨q0,rfl,rfl⟩
   ·simp(disch:=omega)only[go_sem,seval,wqq,c1,q0,l1,l2,zaj,zac]
   ·simp(disch:=omega)only[go_sem,seval,wqq,c1,q0,l1,l2,zaj,zac]
 ·rw[decide_eq_true h1] at l1
  have m:mkSo c d=(ivZ,4):=by unfold mkSo;rw[if_neg (fun q=>h1 ⟨q.1,q.2.1⟩)]
  rw[m]
  show _=some (PV.tu [ivP ivZ,PV.i .i64 4])
  rw[znW]
  clear m h1
  refine zaa (xf:=zyC) rfl (by simp[zyC]) ?_
  simp only[zyC]
  rcases s0 with⟨q0,rfl,rfl⟩|⟨q0,rfl,rfl⟩
  ·simp(disch:=omega)only[go_sem,seval,wqq,c1,q0,l1,zaj,zac]
  ·simp(disch:=omega)only[go_sem,seval,wqq,c1,q0,l1,zaj,zac]
theorem ze5 (a b:FQ):pf E0 278 [fqP a,fqP b]=some (.tu [ivP (mkI a b).1,.i .i64 (mkI a b).2]):=by
 by_cases h:cmpF a b>0
 ·have:=zrk a b b a (.inl ⟨h,rfl,rfl⟩)
  unfold mkI;rw[if_pos h];exact this
 ·have:=zrk a b a b (.inr ⟨h,rfl,rfl⟩)
  unfold mkI;rw[if_neg h];exact this
theorem zri (a:FQ):pf E0 377 [fqP a]=some (.tu [ivP (mkI a a).1,.i .i64 (mkI a a).2]):=by
 have m:=ze5 a a
 generalize (mkI a a).1=R at *
 generalize (mkI a a).2=E at *
 refine zaa (xf:=zAy) rfl (by simp[zAy]) ?_
 simp only[zAy]
 simp(disch:=omega)only[go_sem,seval,wqq,m]
noncomputable def frQ (x:WI):FQ:=(makF x w32).1
theorem ztX {x y:WI} (h:y.v≠0):(makF x y).2=0∧(makF x y).1.p.v=lowP x.v y.v∧(makF x y).1.q.v=lowQ x.v y.v:=(zcQ x y).choose_spec.choose_spec.2.2 h
theorem zhd (x:WI):(frQ x).is x.v 4294967296:=by
 obtain⟨_,h1,h2⟩:=ztX (x:=x) (y:=w32) (by rw[zkK];decide)
 exact zeo (d:=4294967296) (by decide) h1 h2
theorem zc8 (x:WI):pf E0 292 [wiP x]=some (fqP (frQ x)):=by
 have g1:=f32
 have m1:=zrj x w32
 unfold frQ
 generalize (makF x w32).1=R at *
 generalize (makF x w32).2=E at *
 generalize w32=ww at *
 refine zaa (xf:=zy6) rfl (by simp[zy6]) ?_
 simp only[zy6]
 simp(disch:=omega)only[go_sem,seval,wqq]
 refine zak rfl ?_
 simp(disch:=omega)only[go_sem,seval,wqq,g1,m1]
theorem zq8 (x:IV):pf E0 280 [ivP x]=some (fqP (frQ x.lo)):=by
 have m1:=zc8 x.lo
 generalize frQ x.lo=R at *
 refine zaa (xf:=zyv) rfl (by simp[zyv]) ?_
 simp only[zyv]
 simp(disch:=omega)only[go_sem,seval,wqq,m1]
theorem zst (x:IV):pf E0 281 [ivP x]=some (fqP (frQ x.hi)):=by
 have m1:=zc8 x.hi
 generalize frQ x.hi=R at *
 refine zaa (xf:=zyx) rfl (by simp[zyx]) ?_
 simp only[zyx]
 simp(disch:=omega)only[go_sem,seval,wqq,m1]
noncomputable def wdI (x:IV):WI:=clip (x.hi.v-x.lo.v)
theorem zoz (x:IV):pf E0 414 [ivP x]=some (fqP (frQ (wdI x))):=by
 have m1:=zc8 (wdI x)
 have s1:=zox x.hi x.lo
 rw[zaQ (zlp x.h x.l)] at s1
 have s1:pf E0 39 [wiP x.hi,wiP x.lo]=some (.tu [wiP (wdI x),.i .i64 0]):=s1
 generalize wdI x=d at *
 generalize frQ d=R at *
 refine zaa (xf:=zzH) rfl (by simp[zzH]) ?_
 simp only[zzH]
 simp(disch:=omega)only[go_sem,seval,wqq,s1,m1]
theorem zj2 (x:IV) (f:FQ):pf E0 260 [ivP x,fqP f]=some (.b (decide (ivHas x f))):=by
 have h1:=zq8 x
 have h2:=zst x
 have hq:=f.q1
 have e1:=zmk (by decide) (by omega) (zhd x.lo) (zeW f)
 have e2:=zmk (by omega) (by decide) (zeW f) (zhd x.hi)
 generalize frQ x.lo=A at *
 generalize frQ x.hi=B at *
 have c1:=zcq A f
 have c2:=zcq f B
 rw[e1] at c1
 rw[e2] at c2
 have k:∀a b:Int,(cmpI a b≤0)↔a≤b:=fun a b=>by unfold cmpI;split<;>(try split)<;>omega
 have e:decide (ivHas x f)=(if cmpI (x.lo.v*f.q.v) (f.p.v*4294967296)≤0 then decide (cmpI (f.p.v*4294967296) (x.hi.v*f.q.v)≤0) else false):=by
  simp only[ivHas,k]
  split
  ·rename_i h;simp[h]
  ·rename_i h;simp[h]
 rw[e]
 clear e k e1 e2
 generalize cmpI (x.lo.v*f.q.v) (f.p.v*4294967296)=u at *
 generalize cmpI (f.p.v*4294967296) (x.hi.v*f.q.v)=v at *
 refine zaa (xf:=zAp) rfl (by simp[zAp]) ?_
 simp only[zAp]
 simp(disch:=omega)only[go_sem,seval,wqq]
 by_cases h:u≤0
 ·rw[if_pos h]
  have h:(u≤0)=True:=eq_true h
  refine zak rfl ?_
  simp(disch:=omega)only[go_sem,seval,wqq,h1,h2,c1,c2,h]
 ·rw[if_neg h]
  have h:(u≤0)=False:=eq_false h
  refine zak rfl ?_
  simp(disch:=omega)only[go_sem,seval,wqq,h1,h2,c1,c2,h]
theorem ze4 (x y:IV):pf E0 415 [ivP x,ivP y]=some (.b (decide (ivIn x y))):=by
 have c1:=zaG y.lo x.lo
 have c2:=zaG x.hi y.hi
 have k:∀a b:Int,(cmpI a b≤0)↔a≤b:=fun a b=>by unfold cmpI;split<;>(try split)<;>omega
 have e:decide (ivIn x y)=(if cmpI y.lo.v x.lo.v≤0 then decide (cmpI x.hi.v y.hi.v≤0) else false):=by
  simp only[ivIn,k]
  split
  ·rename_i h;simp[h]
  ·rename_i h;simp[h]
 rw[e]
 clear e k
 generalize cmpI y.lo.v x.lo.v=u at *
 generalize cmpI x.hi.v y.hi.v=v at *
 refine zaa (xf:=zzw) rfl (by simp[zzw]) ?_
 simp only[zzw]
 by_cases h:u≤0
 ·rw[if_pos h]
  have h:(u≤0)=True:=eq_true h
  simp(disch:=omega)only[go_sem,seval,wqq,c1,c2,h]
 ·rw[if_neg h]
  have h:(u≤0)=False:=eq_false h
  simp(disch:=omega)only[go_sem,seval,wqq,c1,c2,h]
end Go.Eng
namespace Go.Eng
theorem zoG (x y:IV):pf E0 379 [ivP x,ivP y]=some (.tu [ivP (ivAdd x y).1,.i .i64 (ivAdd x y).2]):=by
 have a1:=zgF x.lo y.lo
 have a2:=zgF x.hi y.hi
 rw[zaQ (zcP x.l y.l)] at a1
 rw[zaQ (zcP x.h y.h)] at a2
 have v1:=zbF (zcP x.l y.l)
 have v2:=zbF (zcP x.h y.h)
 have md:=zj4 (clip (x.lo.v+y.lo.v)) (clip (x.hi.v+y.hi.v))
 rw[v1,v2] at md
 unfold ivAdd
 generalize mdI (x.lo.v+y.lo.v) (x.hi.v+y.hi.v)=R at *
 generalize clip (x.lo.v+y.lo.v)=u at *
 generalize clip (x.hi.v+y.hi.v)=v at *
 refine zaa (xf:=zAb) rfl (by simp[zAb]) ?_
 simp only[zAb]
 simp(disch:=omega)only[go_sem,seval,wqq,a1,a2,md]
def mnU (a b:WI):WI:=if b.v<a.v then b else a
def mxU (a b:WI):WI:=if b.v>a.v then b else a
theorem zn4 (a b:WI):(mnU a b).v=min2 a.v b.v:=by unfold mnU min2;split<;>rfl
theorem zn7 (a b:WI):(mxU a b).v=max2 a.v b.v:=by unfold mxU max2;split<;>rfl
theorem ztp (ws:List WI):ez 2 (ws.map wiP)=true:=by
 unfold ez
 rw[List.all_eq_true]
 intro x hx
 obtain⟨w,_,rfl⟩:=List.mem_map.1 hx
 rfl
theorem zrK (w:WI) (ws:List WI):slP 2 (.lst ((w::ws).map wiP)) (some (.i .i64 1)) none none=some (.lst (ws.map wiP)):=by
 have h:=ztp (w::ws)
 simp only[slP,Option.isSome_none,Bool.false_eq_true,if_false,optP,asNP,asIP]
 rw[if_pos (by decide)]
 simp only
 rw[if_pos ⟨by simp,Nat.le_refl _,h⟩,List.take_length]
 rfl
theorem zlu (ws:List WI) {i:Nat} (h:i<ws.length):(ws.map wiP)[i]?=some (wiP ws[i]):=by rw[List.getElem?_map,List.getElem?_eq_getElem h];rfl
theorem zmB (M:PM) (d:Nat) (ws:List WI):fzL (fz M (d+1+1)) (ws.map wiP)=some (ws.map wiP,[]):=by
 induction ws with
 | nil=>rfl
 | cons w ws ih=>simp only[List.map_cons,fzL,zqm,ih,List.nil_append]
theorem zoA (w:WI) (ws:List WI) (hl:ws.length<1000):pf E0 387 [.ag [.fn 296 [],.fn 297 []],.lst ((w::ws).map wiP)]=some (wiP (ws.foldl mnU w)):=by
 have s0:=zrK w ws
 have s1:=zlu (w::ws) (i:=0) (by simp)
 refine zaa (xf:=zyl) rfl (by simp[zyl]) ?_
 simp only[zyl]
 have l0:(((w::ws).map wiP).length:Int)=((ws.length+1:Nat):Int):=by simp
 have l1:((ws.map wiP).length:Int)=((ws.length:Nat):Int):=by simp
 have g0:(w::ws)[0]=w:=rfl
 have fz0:fzL (fz [] 12) ((w::ws).map wiP)=some ((w::ws).map wiP,[]):=zmB _ _ _
 generalize (w::ws).map wiP=L0 at *
 generalize hL:ws.map wiP=L1 at *
 simp(disch:=omega)only[go_sem,seval,wqq,s0,s1,l0,l1,g0,fz0]
 refine zag zyA.eq_1 (fun(i:Nat) fr M=>i≤ws.length∧fr 2=.p 0 0∧fr 4=.p 1 0∧fr 5=.p 2 0∧fr 12=.lst L1∧fr 13=(PV.i .i64 ((ws.length:Nat):Int))∧fr 14=(PV.i .i64 ((i:Nat):Int))∧∃v G,M=some ⟨[.fn 296 [],.fn 297 []],true,0⟩::some ⟨[.b false,.nl],true,0⟩::some ⟨(wiP ((ws.take i).foldl mnU w)).cells,true,v⟩::G) (fun i=>ws.length-i) ?_ 0 ⟨by omega,by simp only[go_sem,seval],by simp only[go_sem,seval],by simp only[go_sem,seval],by simp only[go_sem,seval],by simp only[go_sem,seval,l1],by simp only[go_sem,seval],_,[],rfl⟩
 rintro i fr M ⟨hi,f2,f4,f5,f12,f13,f14,v,G,rfl⟩ ih
 by_cases h:i<ws.length
 ·have q1:((i:Int)<(ws.length:Int))=True:=by simp;omega
  have x1:=zlu ws h
  rw[hL] at x1
  have st:(ws.take (i+1)).foldl mnU w=mnU ((ws.take i).foldl mnU w) ws[i]:=by rw[List.take_succ_eq_append_getElem h,List.foldl_append];rfl
  have d1:=zoD ws[i] ((ws.take i).foldl mnU w)
  have hm:mnU ((ws.take i).foldl mnU w) ws[i]=if ws[i].v<((ws.take i).foldl mnU w).v then ws[i] else (ws.take i).foldl mnU w:=rfl
  rw[←st] at hm
  generalize hc:(ws.take i).foldl mnU w=c at *
  generalize hn:(ws.take (i+1)).foldl mnU w=n at *
  generalize ws[i]=b at *
  by_cases hb:b.v<c.v
  ·rw[if_pos hb] at hm
   subst hm
   rw[decide_eq_true hb] at d1
   simp(disch:=omega)only[go_sem,seval,wqq,f2,f4,f5,f12,f13,f14,q1,x1,d1,mG,mG0,sG,sG0,lG,lqq]
   exact ih (i+1) _ _ (by omega) ⟨by omega,by simp only[go_sem,seval,f2],by simp only[go_sem,seval,f4],by simp only[go_sem,seval,f5],by simp only[go_sem,seval,f12],by simp only[go_sem,seval,f13],by simp only[go_sem,seval];rw[Int.natCast_succ],_,_,by rw[hn];rfl⟩
  ·rw[if_neg hb] at hm
   subst hm
   rw[decide_eq_false hb] at d1
   simp(disch:=omega)only[go_sem,seval,wqq,f2,f4,f5,f12,f13,f14,q1,x1,d1,mG,mG0,sG,sG0,lG,lqq]
   exact ih (i+1) _ _ (by omega) ⟨by omega,by simp only[go_sem,seval,f2],by simp only[go_sem,seval,f4],by simp only[go_sem,seval,f5],by simp only[go_sem,seval,f12],by simp only[go_sem,seval,f13],by simp only[go_sem,seval];rw[Int.natCast_succ],_,_,by rw[hn];rfl⟩
 ·have q1:((i:Int)<(ws.length:Int))=False:=by simp;omega
  have e1:ws.take i=ws:=List.take_of_length_le (by omega)
  rw[e1]
  generalize ws.foldl mnU w=c at *
  simp(disch:=omega)only[go_sem,seval,wqq,f2,f4,f5,f12,f13,f14,q1]
theorem zoB (w:WI) (ws:List WI) (hl:ws.length<1000):pf E0 387 [.ag [.fn 298 [],.fn 299 []],.lst ((w::ws).map wiP)]=some (wiP (ws.foldl mxU w)):=by
 have s0:=zrK w ws
 have s1:=zlu (w::ws) (i:=0) (by simp)
 refine zaa (xf:=zyl) rfl (by simp[zyl]) ?_
 simp only[zyl]
 have l0:(((w::ws).map wiP).length:Int)=((ws.length+1:Nat):Int):=by simp
 have l1:((ws.map wiP).length:Int)=((ws.length:Nat):Int):=by simp
 have g0:(w::ws)[0]=w:=rfl
 have fz0:fzL (fz [] 12) ((w::ws).map wiP)=some ((w::ws).map wiP,[]):=zmB _ _ _
 generalize (w::ws).map wiP=L0 at *
 generalize hL:ws.map wiP=L1 at *
 simp(disch:=omega)only[go_sem,seval,wqq,s0,s1,l0,l1,g0,fz0]
 refine zag zyA.eq_1 (fun(i:Nat) fr M=>i≤ws.length∧fr 2=.p 0 0∧fr 4=.p 1 0∧fr 5=.p 2 0∧fr 12=.lst L1∧fr 13=(PV.i .i64 ((ws.length:Nat):Int))∧fr 14=(PV.i .i64 ((i:Nat):Int))∧∃v G,M=some ⟨[.fn 298 [],.fn 299 []],true,0⟩::some ⟨[.b false,.nl],true,0⟩::some ⟨(wiP ((ws.take i).foldl mxU w)).cells,true,v⟩::G) (fun i=>ws.length-i) ?_ 0 ⟨by omega,by simp only[go_sem,seval],by simp only[go_sem,seval],by simp only[go_sem,seval],by simp only[go_sem,seval],by simp only[go_sem,seval,l1],by simp only[go_sem,seval],_,[],rfl⟩
 rintro i fr M ⟨hi,f2,f4,f5,f12,f13,f14,v,G,rfl⟩ ih
 by_cases h:i<ws.length
 ·have q1:((i:Int)<(ws.length:Int))=True:=by simp;omega
  have x1:=zlu ws h
  rw[hL] at x1
  have st:(ws.take (i+1)).foldl mxU w=mxU ((ws.take i).foldl mxU w) ws[i]:=by rw[List.take_succ_eq_append_getElem h,List.foldl_append];rfl
  have d1:=zt7 ws[i] ((ws.take i).foldl mxU w)
  have hm:mxU ((ws.take i).foldl mxU w) ws[i]=if ws[i].v>((ws.take i).foldl mxU w).v then ws[i] else (ws.take i).foldl mxU w:=rfl
  rw[←st] at hm
  generalize hc:(ws.take i).foldl mxU w=c at *
  generalize hn:(ws.take (i+1)).foldl mxU w=n at *
  generalize ws[i]=b at *
  by_cases hb:b.v>c.v
  ·rw[if_pos hb] at hm
   subst hm
   rw[decide_eq_true hb] at d1
   simp(disch:=omega)only[go_sem,seval,wqq,f2,f4,f5,f12,f13,f14,q1,x1,d1,mG,mG0,sG,sG0,lG,lqq]
   exact ih (i+1) _ _ (by omega) ⟨by omega,by simp only[go_sem,seval,f2],by simp only[go_sem,seval,f4],by simp only[go_sem,seval,f5],by simp only[go_sem,seval,f12],by simp only[go_sem,seval,f13],by simp only[go_sem,seval];rw[Int.natCast_succ],_,_,by rw[hn];rfl⟩
  ·rw[if_neg hb] at hm
   subst hm
   rw[decide_eq_false hb] at d1
   simp(disch:=omega)only[go_sem,seval,wqq,f2,f4,f5,f12,f13,f14,q1,x1,d1,mG,mG0,sG,sG0,lG,lqq]
   exact ih (i+1) _ _ (by omega) ⟨by omega,by simp only[go_sem,seval,f2],by simp only[go_sem,seval,f4],by simp only[go_sem,seval,f5],by simp only[go_sem,seval,f12],by simp only[go_sem,seval,f13],by simp only[go_sem,seval];rw[Int.natCast_succ],_,_,by rw[hn];rfl⟩
 ·have q1:((i:Int)<(ws.length:Int))=False:=by simp;omega
  have e1:ws.take i=ws:=List.take_of_length_le (by omega)
  rw[e1]
  generalize ws.foldl mxU w=c at *
  simp(disch:=omega)only[go_sem,seval,wqq,f2,f4,f5,f12,f13,f14,q1]
end Go.Eng
