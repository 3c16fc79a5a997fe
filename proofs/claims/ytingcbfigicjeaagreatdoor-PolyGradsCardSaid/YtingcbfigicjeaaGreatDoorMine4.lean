/- The engine and the contracts on which the statement stands: no conditions of its own. -/
import Derived.Test.YtingcbfigicjeaaGreatDoorMine3
import Derived.Lib.Case
import Derived.Lib.Join
import Derived.BigCall
import Derived.BigGuard
import Derived.KernelRfl
import Derived.Lib.LaidTab
import Derived.ProofKit
import Derived.OpenShut
set_option linter.unusedSimpArgs false
set_option linter.unusedVariables false
set_option linter.unusedSectionVars false
namespace Go.Proofs
open Go.Eng Go.RowKit Go.Shelf
noncomputable def Tryz.strPre:Code:=match Tryz.f122.body with|some (.seq a (.seq b (.seq c (.seq d (.seq e _)))))=>.seq a (.seq b (.seq c (.seq d e)))|_=>.skip
noncomputable def Tryz.strTail:Code:=match Tryz.f122.body with|some (.seq _ (.seq _ (.seq _ (.seq _ (.seq _ r)))))=>r|_=>.skip
theorem Tryz.hidS {p:Prop} (h:p):Hid p:=h
set_option maxHeartbeats 4000000 in
set_option maxRecDepth 100000 in
theorem Tryz.str_tail (neg:Bool) (ps:List (List UInt8)) (hne:ps.reverse.flatten≠[]) (hlen:ps.length≤20000) (htot:ps.flatten.length≤1000000)
  (b1 o1 b3 o3 c:Nat) (w:World) (hneg:w.cell? ⟨b1,o1,none⟩=some (.bool neg)) (hb1:b1<w.heap.size) (hb3:b3<w.heap.size)
  (hcells:∀j x,ps[j]?=some x→w.cell? ⟨b3,o3+j,none⟩=some (.string ⟨x.toArray⟩))
  (tm:Array Value) (hsz:tm.size=58) (h1:tm[1]?=some (.pointer (some ⟨b1,o1,none⟩))) (h3:tm[3]?=some (.slice (some ⟨b3,o3,none⟩) ps.length c)) :
  Tryz.strTail.wp Tryz.prog (fun e a w'=>e=.ret∧a.defers=[]∧a.tmps.getD 2 undef=.string ⟨((if neg then [45] else [])++ps.reverse.flatten).toArray⟩∧Below w.heap.size w w') ⟨tm,[]⟩ w:=by
 have HC:=Tryz.hidS hcells
 clear hcells
 obtain⟨t0,t1,t2,t3,t4,t5,t6,t7,t8,t9,t10,t11,t12,t13,t14,t15,t16,t17,t18,t19,t20,t21,t22,t23,t24,t25,t26,t27,t28,t29,t30,t31,t32,t33,t34,t35,t36,t37,t38,t39,t40,t41,t42,t43,t44,t45,t46,t47,t48,t49,t50,t51,t52,t53,t54,t55,t56,t57,rfl⟩:=zqE tm hsz
 simp only[List.getElem?_toArray,List.getElem?_cons_succ,List.getElem?_cons_zero,Option.some.injEq] at h1 h3
 subst h1
 subst h3
 clear hsz
 unfold Tryz.strTail
 simp only[Tryz.f122]
 have hF:Lib.IsBuilder 212 5 w.heap.size w.heap.size [] (w.alloc (.cells #[.pointer none,.slice none 0 0] 212)):=Lib.fresh_isBuilder 212 5 w
 have hB0:Below w.heap.size w (w.alloc (.cells #[.pointer none,.slice none 0 0] 212)):=(Below.refl w.heap.size w).alloc (Nat.le_refl _) _
 have HF:=Tryz.hidS hF
 have HB0:=Tryz.hidS hB0
 clear hF hB0
 obtain⟨pre,hpre⟩:∃pre:List UInt8,pre=if neg then [45] else []:=⟨_,rfl⟩
 have hprel:pre.length≤1:=by rw[hpre];split<;>simp
 rw[←hpre]
 have tail:∀(k:Nat),((ps.drop k).reverse.flatten).length≤1000000:=fun k=>by
  have e:=congrArg (fun l=>(List.flatten l).length) (List.take_append_drop k ps)
  simp only[List.flatten_append,List.length_append] at e
  have e2:((ps.drop k).reverse.flatten).length=((ps.drop k).flatten).length:=by
   simp only[List.length_flatten,List.map_reverse,List.sum_reverse]
  omega
 have HT:=Tryz.hidS tail
 clear tail
 cases neg
 case' false =>
  have e0:pre=[]:=by simpa using hpre
  have H1:=Tryz.hidS (show Lib.IsBuilder 212 5 w.heap.size w.heap.size (Lib.byteCells pre) (w.alloc (.cells #[.pointer none,.slice none 0 0] 212)) by rw[e0];exact HF.out)
  have HB1:=HB0
  go_wp2_with fail
 case' true =>
  have e0:pre=[45]:=by simpa using hpre
  go_wp2_with fail
  refine(Any.Builder_WriteByte Tryz.l167 Tryz.lX w.heap.size w.heap.size [] 45 _ HF.out (by simp) (by simp)).mono ?_
  rintro e w2 ⟨rfl,h2,hb2⟩
  have H1:=Tryz.hidS (show Lib.IsBuilder 212 5 w.heap.size w.heap.size (Lib.byteCells pre) w2 by rw[e0];exact Or.inr h2)
  have HB1:=Tryz.hidS (HB0.out.trans hb2)
  clear h2 hb2
  go_wp2_with fail
 all_goals (
  go_loopw [9] (fun i wr=>∃k:Nat,k≤ps.length∧i=.int .i64 ((k:Int)-1)∧Hid (Lib.IsBuilder 212 5 w.heap.size w.heap.size (Lib.byteCells (pre++(ps.drop k).reverse.flatten)) wr)∧Hid (Below w.heap.size w wr)) (fun i _=>(intOf i+1).toNat)
  case atStart=>exact⟨ps.length,Nat.le_refl _,rfl,by rw[List.drop_length];simpa using H1,HB1⟩
  case round =>
   obtain⟨k,hk,rfl,HB,HW⟩:=hrel
   by_cases hk0:k=0
   ·subst hk0
    have hd:(ps.drop 0)=ps:=List.drop_zero
    rw[hd] at HB
    go_wp2_with fail
    refine(Any.Builder_String { Tryz.l105 with } Tryz.lX w.heap.size w.heap.size (pre++ps.reverse.flatten) wr HB.out (fun q=>hne (List.append_eq_nil_iff.1 q).2)).mono ?_
    rintro e w3 ⟨rfl,hb3'⟩
    go_wp2_with fail
    exact HW.out.trans hb3'
   ·obtain⟨m,rfl⟩:∃m,k=m+1:=⟨k-1,by omega⟩
    have hm:m<ps.length:=by omega
    obtain⟨x,hx⟩:∃x,ps[m]?=some x:=⟨ps[m],List.getElem?_eq_getElem hm⟩
    have hc:=HC.out m x hx
    rw[←HW.out.cell (p:=⟨b3,o3+m,none⟩) hb3] at hc
    have hdrop:(ps.drop m).reverse.flatten=(ps.drop (m+1)).reverse.flatten++x:=by
     have e:ps.drop m=x::ps.drop (m+1):=by
      have:=List.drop_eq_getElem_cons hm
      rw[List.getElem?_eq_getElem hm] at hx
      cases hx;exact this
     rw[e];simp
    have hl:=HT.out m
    rw[hdrop,List.length_append] at hl
    have Hd:=Tryz.hidS hdrop
    have hBw:w.heap.size≤wr.heap.size:=HW.out.size
    have i1:((m+1:Nat):Int)-1=(m:Int):=by omega
    rw[i1]
    clear hdrop hx
    have hxs:(⟨x.toArray⟩:ByteArray).size=x.length:=rfl
    go_wp2_with fail
    refine(Any.Builder_WriteString { Tryz.l105 with } Tryz.lX w.heap.size w.heap.size _ ⟨x.toArray⟩ wr HB.out (by rw[Lib.byteCells_length,List.length_append,hxs];omega) hBw).mono ?_
    rintro e w2' ⟨rfl,h2',hb2'⟩
    have H2:=Tryz.hidS (show Lib.IsBuilder 212 5 w.heap.size w.heap.size (Lib.byteCells (pre++(ps.drop m).reverse.flatten)) w2' by
     rw[Hd.out,←List.append_assoc,Lib.byteCells_append]
     rw[Lib.strCells_eq] at h2'
     exact Or.inr h2')
    have Hb2:=Tryz.hidS (HW.out.trans hb2')
    clear h2' hb2'
    go_wp2_with fail
    exact⟨⟨m,by omega,rfl,H2,Hb2⟩,by simp[intOf]⟩)
end Go.Proofs
namespace Go.Eng
open Go.RowKit
variable {key:Nat→Option FuncId} {P:Program} {T:Tab}
def Hp.tw (t:Blk) (cs:List AV):Hp:=⟨fun k=>if k=0 then some { t with rw:=false } else if k=5 then some ⟨cs,false,0⟩ else none,6⟩
def Loc.tw (l:Loc) (a1:At):Loc:=fun k=>if k=5 then some a1 else if k≤4 then l k else none
theorem zkA {l l2:Loc} {i:Nat} (hi:i<powT.length) {v:Value} (r:Rel key l powT[i] v):Rel key l2 powT[i] v:=by
 have e:powT[i]=.i .u64 ((10^i:Nat):Int):=by
  simp only[powT];rw[List.getElem_map,List.getElem_range]
 rw[e] at r ⊢
 cases r;exact .i _ _
theorem zlE {F F':Nat} {l:Loc} {h:Hp} {w:World} (S:Sim key F l h w) {t:Blk} {a0:At} (ht:h.m 0=some t) (hv:t.v=powT) (h0:l 0=some a0) {xs:List Nat} {a1:At}
  (hb:a1.b<w.heap.size∧a1.w=false∧xs.length≤a1.n∧∀i (hi:i<xs.length),w.cell? ⟨a1.b,a1.o+i,none⟩=some (.int .u32 ((xs[i]:Nat):Int))) :
  Sim key F' (Loc.tw l a1) (Hp.tw t (xs.map fun x:Nat=>.i .u32 (x:Int))) w:=by
 refine⟨fun k b a e1 e2=>?_,fun k b a k' b' a' e1 e2 e3=>?_,fun k a e=>?_,fun k a e=>?_,fun k hk=>?_⟩
 ·by_cases hk:k=0
  ·subst hk
   have e2:l 0=some a:=e2
   rw[h0] at e2
   cases e1;cases e2
   have H:=S.holds 0 t a0 ht h0
   refine⟨H.lt,H.len,fun i hi=>?_,H.scal,fun q=>(by cases q),fun q=>⟨rfl,(H.whole q).2⟩⟩
   obtain⟨v,c1,c2⟩:=H.cell i hi
   refine⟨v,c1,?_⟩
   have hi':i<powT.length:=by rw[←hv];exact hi
   have e:t.v[i]=powT[i]:=by simp only[hv]
   simp only at hi ⊢
   rw[e] at c2 ⊢
   exact zkA hi' c2
  ·by_cases hkn:k=5
   ·subst hkn
    cases e1;cases e2
    obtain⟨q1,q0,q2,q3⟩:=hb
    refine⟨q1,by simpa using q2,fun i hi=>?_,fun i hi=>?_,fun q=>(by cases q),fun q=>?_⟩
    ·simp only[List.length_map] at hi
     refine⟨_,q3 i hi,?_⟩
     simp only[List.getElem_map]
     exact .i _ _
    ·simp only[List.getElem_map];rfl
    ·rw[q0] at q;cases q
   ·simp only[Hp.tw,if_neg hk,if_neg hkn] at e1;cases e1
 ·simp only[Hp.tw] at e1
  split at e1
  ·cases e1;cases e3
  ·split at e1
   ·cases e1;cases e3
   ·cases e1
 ·simp only[Loc.tw] at e
  split at e
  ·cases e;exact hb.1
  ·split at e
   ·exact S.lt k a e
   ·cases e
 ·left
  show k<6
  simp only[Loc.tw] at e
  split at e
  ·omega
  ·split at e
   ·omega
   ·cases e
 ·have hk':6≤k:=hk
  simp only[Hp.tw]
  rw[if_neg (by omega),if_neg (by omega)]
theorem zpI {F:Nat} {l:Loc} {h:Hp} {w:World} (S:Sim key F l h w) {t:Blk} {a0:At} (ht:h.m 0=some t) (hv:t.v=powT) (h0:l 0=some a0) {neg:Bool} {wv:AV} {val:Value} {tx:List UInt8}
  (e:txtA [.ag [.b neg,wv]] h=some tx) (r:Rel key l wv val):∃cs a1 wv' v,(∀F',Sim key F' (Loc.tw l a1) (Hp.tw t cs) w)∧Rel key (Loc.tw l a1) wv' val∧wlen v≤512∧(neg=true→v≠0) ∧
   tx=decI (if neg then-(v:Int) else (v:Int))∧V (Hp.tw t cs) (fun _=>False) [] (D v) wv':=by
 have H0:=S.holds 0 t a0 ht h0
 have small:∀{wv':AV},Rel key (Loc.tw l ⟨a0.b,0,0,false⟩) wv' val→txtA [.ag [.b neg,wv']] (Hp.tw t [])=some tx→(∀m off len cap z,wv'=.sl m off len cap z→False) →
   ∃cs a1 wv' v,(∀F',Sim key F' (Loc.tw l a1) (Hp.tw t cs) w)∧Rel key (Loc.tw l a1) wv' val∧wlen v≤512∧(neg=true→v≠0) ∧
   tx=decI (if neg then-(v:Int) else (v:Int))∧V (Hp.tw t cs) (fun _=>False) [] (D v) wv':=fun {wv'} r1 e1 hs=>by
  obtain⟨v,v1,v2,v3,v4⟩:=zhc e1 fun m off len cap z q=>(hs _ _ _ _ _ q).elim
  exact⟨[],⟨a0.b,0,0,false⟩,wv',v,fun F'=>zlE (xs:=[]) S ht hv h0 ⟨H0.lt,rfl,Nat.le_refl _,fun i hi=>by simp at hi⟩,r1,v1,v2,v3,v4⟩
 cases r with
 | @sl n off len cap cap' z a ha q1 q2 q3 =>
   replace e:(if len=0 then wtx neg [] else if z=1 then ((h.rd n off len).bind wordsA).bind (wtx neg) else none)=some tx:=e
   split at e
   ·rename_i hl
    subst hl
    exact small (wv':=.e0) (.e0 _ _) e fun _ _ _ _ _ q=>by cases q
   ·rename_i hl
    split at e
    ·rename_i hz
     subst hz
     simp only[Option.bind_eq_some_iff] at e
     obtain⟨xs,⟨cs,e1,e2⟩,e3⟩:=e
     obtain⟨w1,w2⟩:=zdU e2
     unfold Hp.rd at e1
     split at e1
     ·rename_i b hb
      split at e1
      ·rename_i hle
       cases e1
       have hxl:xs.length=len:=by
        have:=congrArg List.length w1
        simp at this;omega
       have hg:∀i (hi:i<xs.length),b.v[off+i]?=some (.i .u32 ((xs[i]:Nat):Int)):=fun i hi=>by
        have:((b.v.drop off).take len)[i]?=some (.i .u32 ((xs[i]:Nat):Int)):=by
         rw[w1,List.getElem?_map,List.getElem?_eq_getElem hi];rfl
        rw[List.getElem?_take,if_pos (by omega),List.getElem?_drop] at this
        exact this
       have H:=S.holds n b a hb ha
       let a1:At:=⟨a.b,a.o+off,a.n-off,false⟩
       have hsim:∀F',Sim key F' (Loc.tw l a1) (Hp.tw t (xs.map fun x:Nat=>.i .u32 (x:Int))) w:=fun F'=>zlE S ht hv h0 ⟨H.lt,rfl,by show xs.length≤a.n-off;have:=H.len;omega,fun i hi=>by
        have h1:=hg i hi
        have hoi:off+i<b.v.length:=by omega
        obtain⟨v,c1,c2⟩:=H.cell (off+i) hoi
        rw[List.getElem?_eq_getElem hoi] at h1
        cases h1':b.v[off+i] with
        | i k m =>
         rw[h1'] at h1 c2
         cases h1
         cases c2
         show w.cell? ⟨a.b,a.o+off+i,none⟩=_
         rw[Nat.add_assoc];exact c1
        | _=>rw[h1'] at h1;cases h1⟩
       have hrel:Rel key (Loc.tw l a1) (.sl 5 0 len cap 1) (.slice (some ⟨a.b,a.o+off,none⟩) len cap'):=by
        have hl:Loc.tw l a1 5=some a1:=rfl
        have:=Rel.sl (key:=key) (off:=0) (len:=len) (cap:=cap) (cap':=cap') (z:=1) hl q1 (by show 0+cap'*1≤a.n-off;omega) q3
        exact this
       have htx:txtA [.ag [.b neg,.sl 5 0 len cap 1]] (Hp.tw t (xs.map fun x:Nat=>.i .u32 (x:Int)))=some tx:=by
        have hrd:(Hp.tw t (xs.map fun x:Nat=>AV.i .u32 (x:Int))).rd 5 0 len=some (xs.map fun x:Nat=>.i .u32 (x:Int)):=by
         simp only[Hp.rd,Hp.tw,if_neg (show (5:Nat)≠0 by decide),if_true]
         rw[if_pos (by simp;omega),List.drop_zero,List.take_of_length_le (by simp;omega)]
        show (if len=0 then wtx neg [] else if 1=1 then (((Hp.tw t (xs.map fun x:Nat=>AV.i .u32 (x:Int))).rd 5 0 len).bind wordsA).bind (wtx neg) else none)=_
        rw[if_neg hl,if_pos rfl,hrd,Option.bind_some,←w1,e2,Option.bind_some]
        exact e3
       obtain⟨v,v1,v2,v3,v4⟩:=zhc htx fun m off' len' cap'' z q=>by cases q;exact q3
       exact⟨_,a1,_,v,hsim,hrel,v1,v2,v3,v4⟩
      ·cases e1
     ·cases e1
    ·cases e
 | sn=>exact small .sn e fun _ _ _ _ _ q=>by cases q
 | se b=>exact small (.se b) e fun _ _ _ _ _ q=>by cases q
 | e0 b c=>exact small (.e0 b c) e fun _ _ _ _ _ q=>by cases q
 | _=>simp[txtA] at e
end Go.Eng
namespace Go.Eng
open Go.RowKit
variable {key:Nat→Option FuncId} {P:Program} {T:Tab}
theorem zg3 {fn:Func} (h:fn.results = #[.tmp 2]) (tmps:Array Value) (w:World):(results fn tmps).run P w=.ok (tmps.getD 2 undef) w:=by
 unfold results
 rw[h,Array.mapM_eq_mapM_toList]
 rfl
theorem zpq {l:Loc} {xs:List UInt8} {v:Value} (h:Rel key l (.s xs) v):v=.string ⟨xs.toArray⟩:=by
 generalize hx:AV.s xs=x at h
 cases h<;>cases hx
 rfl
theorem znY (v:Nat):dec v≠[]:=by
 unfold dec
 split
 ·simp
 ·rename_i h
  intro q
  have h1:=congrArg List.length q
  rw[zbN] at h1
  have:=zby v
  simp at h1
  rw[h1] at this
  simp at this;omega
theorem zhH {args:List AV} {h:Hp} {l:List UInt8} (e:txtA args h=some l):∃neg w,args=[.ag [.b neg,w]]:=by
 unfold txtA at e
 split at e
 ·exact⟨_,_,rfl⟩
 ·exact⟨_,_,rfl⟩
 ·exact⟨_,_,rfl⟩
 ·exact⟨_,_,rfl⟩
 ·cases e
theorem znd (K1:ProgOk P key T E1.prog) (KE:PEnvOk E1) (hT0:∀g n,T.gkey g=some n→n≤4) {G:Nat} (hG:T.gkey G=some 0) {fn:Func} {g:Nat} (hfn:P.funcs[g]?=some fn) {pre tail:Code} (hbody:fn.body=some (graft pre tail)) (hpre:cCode P T pre=strA)
  (hnt:fn.ntmps=58) (hres:fn.results = #[.tmp 2])
  (htail:∀(neg:Bool) (ps:List (List UInt8)),ps.reverse.flatten≠[]→ps.length≤20000→ps.flatten.length≤1000000 →
   ∀(b1 o1 b3 o3 c:Nat) (w:World),w.cell? ⟨b1,o1,none⟩=some (.bool neg)→b1<w.heap.size→b3<w.heap.size →
   (∀j x,ps[j]?=some x→w.cell? ⟨b3,o3+j,none⟩=some (.string ⟨x.toArray⟩)) →
   ∀(tm:Array Value),tm.size=58→tm[1]?=some (.pointer (some ⟨b1,o1,none⟩))→tm[3]?=some (.slice (some ⟨b3,o3,none⟩) ps.length c) →
   tail.wp P (fun e a w'=>e=.ret∧a.defers=[]∧a.tmps.getD 2 undef=.string ⟨((if neg then [45] else [])++ps.reverse.flatten).toArray⟩∧Below w.heap.size w w') ⟨tm,[]⟩ w)
  {F:Nat} {args:List AV} {vs:Array Value} {h h':Hp} {v:AV} {l:Loc} {w:World} (e:orcA 33 args h=some (v,h')) (TO:TabOk key T l)
  (RL:RelL key l args vs.toList) (S:Sim key F l h w):Calls P g vs w fun e w'=>∃l' val,e=.returned val∧Ext l h w l' h' w'∧Sim key F l' h' w'∧Rel key l' v val:=by
 unfold orcA at e
 rw[if_pos rfl] at e
 split at e
 case isFalse=>cases e
 rename_i ht
 simp only[Option.map_eq_some_iff,Prod.mk.injEq] at e
 obtain⟨tx,e1,rfl,rfl⟩:=e
 obtain⟨t,t1,t2⟩:=ht
 obtain⟨m0,hl0⟩:=TO.g G 0 hG
 obtain⟨neg,wv,rfl⟩:=zhH e1
 have hvs:∃val,vs = #[.agg #[.bool neg,val]]∧Rel key l wv val:=by
  have hlen:=RL.1
  rcases vs with⟨vs⟩
  match vs,hlen with
  | [x],_ =>
   have r:=RL.2 0 (by simp) (by simp)
   simp only[List.getElem_cons_zero] at r
   cases r with
   | @ag _ ws hn hv =>
    rcases ws with⟨ws⟩
    match ws,hn with
    | [a,b],_ =>
     have r1:=hv 0 (by simp) (by simp)
     have r2:=hv 1 (by simp) (by simp)
     simp only[List.getElem_cons_zero,List.getElem_toArray,List.getElem_cons_succ] at r1 r2
     cases r1
     exact⟨b,rfl,r2⟩
 obtain⟨val,rfl,rv⟩:=hvs
 obtain⟨cs,a1,wv',z,hsim,rv',hz,hneg,htx,hV⟩:=zpI S t1 t2 hl0 e1 rv
 generalize hh0:Hp.tw t cs=h0 at hsim hV
 generalize hll:Loc.tw l a1=l0 at hsim rv'
 have hw0:h0.wf:=(hsim 0).wf
 have hT:HasT h0:=⟨{ t with rw:=false },by rw[←hh0];rfl,t2⟩
 have norw:∀k b,h0.m k=some b→b.rw=false:=fun k b q=>by
  rw[←hh0] at q
  simp only[Hp.tw] at q
  split at q
  ·cases q;rfl
  ·split at q
   ·cases q;rfl
   ·cases q
 have TO0:TabOk key T l0:=⟨TO.f,fun g' n' q=>by
  have hn:=hT0 g' n' q
  obtain⟨m,hm⟩:=TO.g g' n' q
  refine⟨m,?_⟩
  rw[←hll]
  simp only[Loc.tw]
  rw[if_neg (by omega),if_pos hn]
  exact hm⟩
 have RA:RelL key l0 [.ag [.b neg,wv']] [.agg #[.bool neg,val]]:=.cons ((RelL.cons (.b neg) (.cons rv' .nil)).ag) .nil
 have RF:RelF key l0 ([.ag [.b neg,wv']]++List.replicate 57 undefA) (#[.agg #[.bool neg,val]]++Array.replicate (fn.ntmps-(#[Value.agg #[.bool neg,val]]:Array Value).size) undef):=by
  rw[hnt]
  unfold RelF
  rw[Array.toList_append,Array.toList_replicate]
  exact RA.append ⟨by simp,fun i q1 q2=>by rw[List.getElem_replicate,List.getElem_replicate];exact zbr⟩
 have hbel:∀{l1 h1 w1},Ext l0 h0 w l1 h1 w1→Below w.heap.size w w1:=fun {l1 h1 w1} E =>
  ⟨E.os,E.tape,E.output,E.size,fun b hb=>E.frame b hb fun m blk a q1 q2=>by rw[norw m blk q1] at q2;cases q2⟩
 have hregs:(cCode P T pre).regsOk=true:=by rw[hpre];decide
 have goodCall:=zdl K1
 have final:Calls P g #[.agg #[.bool neg,val]] w fun e w'=>e=.returned (.string ⟨tx.toArray⟩)∧Below w.heap.size w w':=by
  refine calls_of_wp hfn hbody ?_
  by_cases hz0:z=0
  ·subst hz0
   have hnf:neg=false:=by
    cases neg
    ·rfl
    ·exact(hneg rfl rfl).elim
   subst hnf
   have htx':tx=[48]:=by rw[htx];rfl
   obtain⟨lf,fr',h1,ev,f2⟩:=zna KE hw0 hT hV
   refine zgu (goodCall lf) K1.call (zb7 K1 lf) K1.mixed lf tail pre hregs TO0 RF (hsim h1.next) (Nat.le_refl _) (by rw[hpre];exact ev) fun l' a' w' E R' S' hd=>?_
   have r2:=RelF.get R' 2
   rw[f2] at r2
   refine⟨hd,_,zg3 hres _ _,?_,hbel E⟩
   rw[htx']
   generalize a'.tmps.getD 2 undef=x at r2
   rw[zpq r2]
  ·obtain⟨lf,fr',h1,p0,m,len,cap,ps,ev,hlen,f1,⟨b0,hb0,hb0v⟩,f3,⟨b1,hb1,hb1v⟩,rfl,g1,g2,g3⟩:=znb KE (neg:=neg) hw0 hT hz0 hz hV
   refine zgu (goodCall lf) K1.call (zb7 K1 lf) K1.mixed lf tail pre hregs TO0 RF (hsim h1.next) (Nat.le_refl _) (by rw[hpre];exact ev) fun l' a' w' E R' S' hd=>?_
   have r1:=RelF.get R' 1
   have r3:=RelF.get R' 3
   rw[f1] at r1
   rw[f3] at r3
   have hsz:a'.tmps.size=58:=by
    have:=R'.1
    simp at this;omega
   have gd:∀i,i<58→a'.tmps[i]?=some (a'.tmps.getD i undef):=fun i hi=>by
    rw[Array.getD_eq_getD_getElem?,Array.getElem?_eq_getElem (by omega)];rfl
   have gd1:=gd 1 (by omega)
   have gd3:=gd 3 (by omega)
   generalize a'.tmps.getD 1 undef=x1 at r1 gd1
   generalize a'.tmps.getD 3 undef=x3 at r3 gd3
   cases r1 with
   | @p _ _ a1' q1 =>
    cases r3 with
    | @sl _ _ _ _ cap' _ a3 q3 s1 s2 s3 =>
     have H0:=S'.holds _ _ _ hb0 q1
     have H3:=S'.holds _ _ _ hb1 q3
     have hneg':w'.cell? ⟨a1'.b,a1'.o+0,none⟩=some (.bool neg):=by
      have hl:0<b0.v.length:=by
       rcases Nat.eq_zero_or_pos b0.v.length with q|q
       ·rw[List.getElem?_eq_none (by omega)] at hb0v;cases hb0v
       ·exact q
      obtain⟨y,c1,c2⟩:=H0.cell 0 hl
      rw[List.getElem?_eq_getElem hl] at hb0v
      rw[Option.some.inj hb0v] at c2
      cases c2;exact c1
     have hcells:∀j x,ps[j]?=some x→w'.cell? ⟨a3.b,a3.o+0+j,none⟩=some (.string ⟨x.toArray⟩):=fun j x hx=>by
      have hj:j<ps.length:=by
       by_cases q:j<ps.length
       ·exact q
       ·rw[List.getElem?_eq_none (by omega)] at hx;cases hx
      have hj':j<b1.v.length:=by rw[hb1v];simpa using hj
      obtain⟨y,c1,c2⟩:=H3.cell j hj'
      have e:b1.v[j]=.s x:=by
       simp only[hb1v,List.getElem_map]
       rw[List.getElem?_eq_getElem hj] at hx
       rw[Option.some.inj hx]
      rw[e] at c2
      have hy:y=.string ⟨x.toArray⟩:=by
       generalize hs:AV.s x=ax at c2
       cases c2<;>cases hs
       rfl
      rw[Nat.add_zero,←hy];exact c1
     have hne:ps.reverse.flatten≠[]:=by rw[g3];exact znY z
     have htot:ps.flatten.length≤1000000:=by
      have h1:ps.flatten.length=ps.reverse.flatten.length:=by
       simp only[List.length_flatten,List.map_reverse,List.sum_reverse]
      rw[h1,g3]
      have h2:=zk7 hz
      unfold dec
      rw[if_neg hz0,zbN];omega
     have tl:=htail neg ps hne g2 htot a1'.b (a1'.o+0) a3.b (a3.o+0) cap' w' hneg' H0.lt H3.lt hcells a'.tmps hsz gd1 gd3
     have ha:a'=⟨a'.tmps,[]⟩:=by
      rcases a' with⟨tm,df⟩
      simp only at hd
      rw[hd]
     show tail.wp P (bodyPost P fn _) a' w'
     rw[ha]
     refine wp_mono tl ?_
     rintro e a2 w2 ⟨rfl,d2,v2,bl⟩
     refine⟨d2,_,zg3 hres _ _,?_,(hbel E).trans ⟨bl.os,bl.tape,bl.output,bl.size,fun k hk=>bl.block k (Nat.lt_of_lt_of_le hk E.size)⟩⟩
     rw[v2,g3,htx]
     unfold decI
     cases neg
     ·simp only[Bool.false_eq_true,if_false]
      rw[if_neg (by omega)]
      simp
     ·simp only[if_true]
      rw[if_pos (by omega)]
      simp
 exact zbF S final (zeO tx)
end Go.Eng
namespace Go.Eng
theorem zgX {f:Nat} {d:XD} (h:prog f=some d):some d∈progL:=by
 unfold prog at h
 cases h1:progL[f]? with
 | none=>rw[h1] at h;cases h
 | some x =>
  rw[h1] at h
  cases x with
  | none=>cases h
  | some y=>cases h;exact List.mem_of_getElem? h1
def dOkD:Option XD→Bool
 | some (.fn xf)=>xf.body.dOk xf.n
 | _=>true
theorem zhV:progL.all dOkD=true:=by kernel_rfl
def isO:Option XD→Bool
 | some (.orc _)=>true
 | _=>false
theorem zeb {f:Nat} {o:List AV→Hp→Option (AV×Hp)} (h:prog f=some (.orc o)):o=orcA f∧(f=33∨f=50∨f=51∨f=130∨f=131∨f=222):=by
 have hf:isO (prog f)=true:=by rw[h];rfl
 have all:(List.range progL.length).all (fun f => !isO (prog f) || (f==33 || f==50 || f==51 || f==130 || f==131 || f==222))=true:=by kernel_rfl
 have hlt:f<progL.length:=by
  unfold prog at h
  by_cases q:f<progL.length
  ·exact q
  ·rw[List.getElem?_eq_none (by omega)] at h;cases h
 rw[List.all_eq_true] at all
 have:=all f (List.mem_range.2 hlt)
 rw[hf] at this
 simp only[Bool.not_true,Bool.false_or,Bool.or_eq_true,beq_iff_eq] at this
 have hc:f=33∨f=50∨f=51∨f=130∨f=131∨f=222:=by omega
 refine⟨?_,hc⟩
 rcases hc with rfl|rfl|rfl|rfl|rfl|rfl
 ·first|(have e:prog 33=some (.orc (orcA 33)):=rfl;rw[e] at h;cases h;rfl)|(have h':(none:Option XD)=some (.orc o):=h;cases h')
 ·first|(have e:prog 50=some (.orc (orcA 50)):=rfl;rw[e] at h;cases h;rfl)|(have h':(none:Option XD)=some (.orc o):=h;cases h')
 ·first|(have e:prog 51=some (.orc (orcA 51)):=rfl;rw[e] at h;cases h;rfl)|(have h':(none:Option XD)=some (.orc o):=h;cases h')
 ·first|(have e:prog 130=some (.orc (orcA 130)):=rfl;rw[e] at h;cases h;rfl)|(have h':(none:Option XD)=some (.orc o):=h;cases h')
 ·first|(have e:prog 131=some (.orc (orcA 131)):=rfl;rw[e] at h;cases h;rfl)|(have h':(none:Option XD)=some (.orc o):=h;cases h')
 ·first|(have e:prog 222=some (.orc (orcA 222)):=rfl;rw[e] at h;cases h;rfl)|(have h':(none:Option XD)=some (.orc o):=h;cases h')
theorem zcU {f:Nat} {d:XD} (h:E1.prog f=some d):prog f=some d∧f≠33:=by
 have h2:(if f=33 then none else prog f)=some d:=h
 split at h2
 ·cases h2
 ·rename_i hf;exact⟨h2,hf⟩
theorem KE0:PEnvOk E0 where
 fn:=fun f xf h=>by
  have:=zhV
  rw[List.all_eq_true] at this
  exact this _ (zgX (show prog f=_ from h))
 orc:=fun f o h Db r M hp args asv v M' e I hv=>by
  obtain⟨rfl,_⟩:=zeb (show prog f=_ from h)
  exact zoU rfl e I hv
theorem KE1:PEnvOk E1 where
 fn:=fun f xf h=>by
  have:=zhV
  rw[List.all_eq_true] at this
  exact this _ (zgX (zcU h).1)
 orc:=fun f o h Db r M hp args asv v M' e I hv=>by
  obtain⟨rfl,_⟩:=zeb (zcU h).1
  exact zoU rfl e I hv
variable (P:Program) (T:Tab)
def AllOk:List (Option XD)→List (Option FuncId)→Prop
 | some (.fn xf)::ps,some g::ks=>(∃fn,P.funcs[g]?=some fn∧cFunc P T fn=some xf∧xf.body.regsOk=true)∧AllOk ps ks
 | _::ps,_::ks=>AllOk ps ks
 | _,_=>True
def AllCal:List (Option FuncId)→Prop
 | some g::ks=>(∃fn,P.funcs[g]?=some fn∧fn.body.isNone=false∧(fn.name == "runtime.NumGoroutine")=false)∧AllCal ks
 | none::ks=>AllCal ks
 | []=>True
variable {P T}
theorem zem:∀{ps:List (Option XD)} {ks:List (Option FuncId)},AllOk P T ps ks→∀{f:Nat} {xf:XF} {g:FuncId},(ps[f]?).join=some (.fn xf)→(ks[f]?).join=some g→∃fn,P.funcs[g]?=some fn∧cFunc P T fn=some xf∧xf.body.regsOk=true
 | [],_,_,f,xf,g,h1,h2=>by simp at h1
 | p::ps,[],_,f,xf,g,h1,h2=>by simp at h2
 | p::ps,k::ks,h,0,xf,g,h1,h2=>by
  simp only[List.getElem?_cons_zero,Option.join_some] at h1 h2
  subst h1;subst h2
  exact h.1
 | p::ps,k::ks,h,f+1,xf,g,h1,h2=>by
  simp only[List.getElem?_cons_succ] at h1 h2
  refine zem (ps:=ps) (ks:=ks) ?_ h1 h2
  match p,k,h with
  | some (.fn xf),some g,h=>exact h.2
  | some (.fn xf),none,h=>exact h
  | some (.orc _),_,h=>exact h
  | none,_,h=>exact h
theorem zfB:∀{ks:List (Option FuncId)},AllCal P ks→∀{f:Nat} {g:FuncId},(ks[f]?).join=some g→∃fn,P.funcs[g]?=some fn∧fn.body.isNone=false∧(fn.name == "runtime.NumGoroutine")=false
 | [],_,f,g,h=>by simp at h
 | k::ks,h,0,g,h1=>by
  simp only[List.getElem?_cons_zero,Option.join_some] at h1
  subst h1
  exact h.1
 | k::ks,h,f+1,g,h1=>by
  simp only[List.getElem?_cons_succ] at h1
  refine zfB (ks:=ks) ?_ h1
  match k,h with
  | some g,h=>exact h.2
  | none,h=>exact h
theorem zgA {f:Nat} {args:List AV} {h h':Hp} {v:AV} (e:orcA f args h=some (v,h')):HpOk h h':=by
 unfold orcA at e
 split at e
 ·split at e
  ·simp only[Option.map_eq_some_iff,Prod.mk.injEq] at e
   obtain⟨_,_,_,rfl⟩:=e
   exact .refl h
  ·cases e
 ·split at e
  ·cases e
  ·simp only[Option.map_eq_some_iff,Prod.mk.injEq] at e
   obtain⟨_,_,_,rfl⟩:=e
   exact .refl h
theorem zmX {keyL:List (Option FuncId)} {ρ:Go.Shelf.Ren} {G:Nat} (mixed:P.follows .mixedOrders=true) (hc:AllCal P keyL) (ha:AllOk P T progL keyL) (L:LibOk P ρ (fun f=>(keyL[f]?).join) T G) :
  ProgOk P (fun f=>(keyL[f]?).join) T E1.prog where
 mixed:=mixed
 call:=fun f g h=>zfB hc h
 fn:=fun f xf g h1 h2=>zem ha (zcU h1).1 h2
 good:=fun f o args h v h' h1 e=>by
  obtain⟨rfl,_⟩:=zeb (zcU h1).1
  exact zgA e
 orc:=fun f o g h1 hk F args vs h h' v l w e hF TO RL S=>by
  obtain⟨rfl,_⟩:=zeb (zcU h1).1
  exact zir L hk (zcU h1).2 e TO RL S
theorem zmW {keyL:List (Option FuncId)} {ρ:Go.Shelf.Ren} {G:Nat} (mixed:P.follows .mixedOrders=true) (hc:AllCal P keyL) (ha:AllOk P T progL keyL) (L:LibOk P ρ (fun f=>(keyL[f]?).join) T G)
  (str:∀{g:Nat},(keyL[33]?).join=some g→∀{F:Nat} {args:List AV} {vs:Array Value} {h h':Hp} {v:AV} {l:Loc} {w:World},orcA 33 args h=some (v,h')→TabOk (fun f=>(keyL[f]?).join) T l →
   RelL (fun f=>(keyL[f]?).join) l args vs.toList→Sim (fun f=>(keyL[f]?).join) F l h w→Calls P g vs w fun e w'=>∃l' val,e=.returned val∧Ext l h w l' h' w'∧Sim (fun f=>(keyL[f]?).join) F l' h' w'∧Rel (fun f=>(keyL[f]?).join) l' v val) :
  ProgOk P (fun f=>(keyL[f]?).join) T E0.prog where
 mixed:=mixed
 call:=fun f g h=>zfB hc h
 fn:=fun f xf g h1 h2=>zem ha (show prog f=_ from h1) h2
 good:=fun f o args h v h' h1 e=>by
  obtain⟨rfl,_⟩:=zeb (show prog f=_ from h1)
  exact zgA e
 orc:=fun f o g h1 hk F args vs h h' v l w e hF TO RL S=>by
  obtain⟨rfl,hf⟩:=zeb (show prog f=_ from h1)
  by_cases h33:f=33
  ·subst h33
   exact str hk e TO RL S
  ·exact zir L hk h33 e TO RL S
end Go.Eng
namespace Go.Proofs
open Go.Eng
def Tryz.keyL:List (Option FuncId):=[none,none,none,none,none,none,none,none,some 34,some 31,none,some 36,none,none,none,none,some 63,some 35,some 86,some 77,some 87,some 88,some 90,some 53,some 80,none,none,none,none,some 91,some 14,some 92,none,some 122,some 51,some 138,some 109,some 132,some 52,some 105,some 111,some 62,some 112,some 50,some 25,none,none,none,some 155,some 136,some 156,some 157,none,none,none,some 172,some 173,some 174,some 150,some 110,some 120,some 121,some 151,some 75,some 76,none,none,none,none,none,none,none,none,none,none,none,some 195,some 176,some 153,some 154,some 54,none,none,none,none,some 185,none,none,none,none,none,none,none,none,none,none,none,none,none,none,none,none,none,none,none,none,none,some 79,none,none,some 78,none,none,none,some 58,none,none,none,some 114,some 60,some 131,none,none,some 129,none,some 130,none,some 137,none,some 133,some 134,some 135,some 113,some 116,some 117,some 118,some 161,some 162,none,none,none,none,none,none,none,none,none,some 152,some 183,some 184,none,none,none,none,none,none,none,none,none,some 201,none,none,none,none,none,none,none,none,none,none,none,none,none,none,none,none,none,none,none,some 71,some 48,none,some 72,none,none,some 24,none,some 22,none,none,none,none,none,none,none,none,none,none,none,none,none,none,none,none,none,none,none,none,none,none,none,none,none,none,none,none,none,none,none,none,none,none,none,none,none,none,none,none,none,none,none,none,none,none,none,none,none,none,none,none,none,none,none,none,none,none,none,none,none,none,none,none,none,none,none,none,none,none,none,none,none,none,none,none,none,none,none,none,none,none,none,none,none,none,none,none,none,none,none,none,none,none,none,none,none,none,none,none,none,none,none,none,none,none,none,none,none,none,none,none,none,none,none,none,none,none,none,none,none,none,none,none,none,none,none,none,none,none,none,none,none,none,none,none,none,none,none,none,none,none,none,none,none,none,none,none,none,none,none,none,none,none,none,none,none,none,none,none,none,none,none,none,none,none,none,none,none,none,none,none,none,none,none,none,none,none,none,none,none,none,none,none,none,none,none,none,none,none,none,none,none,none,none,none,none,none,none,none,none,none,none,some 6,none,none,none,some 10,some 11,none,none,some 15,some 16,none,none,none,none,some 26,none,some 29,some 30,some 32,some 33,none,none,none,none,none,some 49,some 55,some 56,none,none,some 82,some 83,some 84,some 85,some 89,none,none,none,none,none,none,none,none,none,none,none,none,none,none,none,none,none,none,none,none,none,none,none,none,none,none,none,none,none,none,none,none,none,none,none,none,none,none,none,none,none,none,none,none,none,none,none,none,none,none,none,none,none,none,none,none,none,none,none,none,none,none,none,none,none,none,none,none,none,none,none,none,none,none,none,none,none,none,none,none,none,none,none,none,none,none,none,none,none,none,none,none,none,none]
def Tryz.fkeyL:List (Option Nat):=[none,none,none,none,none,none,some 391,none,none,none,some 395,some 396,none,none,some 30,some 399,some 400,none,none,none,none,none,some 187,none,some 185,some 44,some 405,none,none,some 407,some 408,some 9,some 409,some 410,some 8,some 17,some 11,none,none,none,none,none,none,none,none,none,none,none,some 180,some 416,some 43,some 34,some 38,some 23,some 80,some 417,some 418,none,some 114,none,some 119,none,some 41,some 16,none,none,none,none,none,none,none,some 179,some 182,none,none,some 63,some 64,some 19,some 110,some 107,some 24,none,some 421,some 422,some 423,some 424,some 18,some 20,some 21,some 425,some 22,some 29,some 31,none,none,none,none,none,none,none,none,none,none,none,none,some 39,none,none,none,some 36,some 59,some 40,some 42,some 132,some 118,none,some 133,some 134,some 135,none,some 60,some 61,some 33,none,none,none,none,none,none,some 123,some 125,some 120,some 37,some 129,some 130,some 131,some 49,some 127,some 35,none,none,none,none,none,none,none,none,none,none,none,some 58,some 62,some 147,some 78,some 79,some 48,some 50,some 51,none,none,none,some 136,some 137,none,none,none,none,none,none,none,none,none,some 55,some 56,some 57,none,some 77,none,none,none,none,none,none,some 148,some 149,some 85,none,none,none,none,none,none,none,none,none,some 76,none,none,none,none,none,some 159]
def Tryz.T:Tab:={ fkey:=fun f=>(Tryz.fkeyL[f]?).join,gkey:=fun g=>if g=8 then some 0 else if g=0 then some 1 else if g=1 then some 2 else none }
abbrev OkC (p:Program) (n:Nat):Prop:=∃fn,p.funcs[n]?=some fn∧fn.body.isNone=false∧(fn.name == "runtime.NumGoroutine")=false
abbrev OkF (p:Program) (T:Tab) (n:Nat) (x:XF):Prop:=∃fn,p.funcs[n]?=some fn∧cFunc p T fn=some x∧x.body.regsOk=true
theorem Tryz.okc8:OkC Tryz.prog 34:=⟨_,Tryz.func34,by kernel_rfl,by kernel_rfl⟩
theorem Tryz.okc9:OkC Tryz.prog 31:=⟨_,Tryz.func31,by kernel_rfl,by kernel_rfl⟩
theorem Tryz.okc11:OkC Tryz.prog 36:=⟨_,Tryz.func36,by kernel_rfl,by kernel_rfl⟩
theorem Tryz.okc16:OkC Tryz.prog 63:=⟨_,Tryz.func63,by kernel_rfl,by kernel_rfl⟩
theorem Tryz.okc17:OkC Tryz.prog 35:=⟨_,Tryz.func35,by kernel_rfl,by kernel_rfl⟩
theorem Tryz.okc18:OkC Tryz.prog 86:=⟨_,Tryz.func86,by kernel_rfl,by kernel_rfl⟩
theorem Tryz.okc19:OkC Tryz.prog 77:=⟨_,Tryz.func77,by kernel_rfl,by kernel_rfl⟩
theorem Tryz.okc20:OkC Tryz.prog 87:=⟨_,Tryz.func87,by kernel_rfl,by kernel_rfl⟩
theorem Tryz.okc21:OkC Tryz.prog 88:=⟨_,Tryz.func88,by kernel_rfl,by kernel_rfl⟩
theorem Tryz.okc22:OkC Tryz.prog 90:=⟨_,Tryz.func90,by kernel_rfl,by kernel_rfl⟩
theorem Tryz.okc23:OkC Tryz.prog 53:=⟨_,Tryz.func53,by kernel_rfl,by kernel_rfl⟩
theorem Tryz.okc24:OkC Tryz.prog 80:=⟨_,Tryz.func80,by kernel_rfl,by kernel_rfl⟩
theorem Tryz.okc29:OkC Tryz.prog 91:=⟨_,Tryz.func91,by kernel_rfl,by kernel_rfl⟩
theorem Tryz.okc30:OkC Tryz.prog 14:=⟨_,Tryz.func14,by kernel_rfl,by kernel_rfl⟩
theorem Tryz.okc31:OkC Tryz.prog 92:=⟨_,Tryz.func92,by kernel_rfl,by kernel_rfl⟩
theorem Tryz.okc33:OkC Tryz.prog 122:=⟨_,Tryz.func122,by kernel_rfl,by kernel_rfl⟩
theorem Tryz.okc34:OkC Tryz.prog 51:=⟨_,Tryz.func51,by kernel_rfl,by kernel_rfl⟩
theorem Tryz.okc35:OkC Tryz.prog 138:=⟨_,Tryz.func138,by kernel_rfl,by kernel_rfl⟩
theorem Tryz.okc36:OkC Tryz.prog 109:=⟨_,Tryz.func109,by kernel_rfl,by kernel_rfl⟩
theorem Tryz.okc37:OkC Tryz.prog 132:=⟨_,Tryz.func132,by kernel_rfl,by kernel_rfl⟩
theorem Tryz.okc38:OkC Tryz.prog 52:=⟨_,Tryz.func52,by kernel_rfl,by kernel_rfl⟩
theorem Tryz.okc39:OkC Tryz.prog 105:=⟨_,Tryz.func105,by kernel_rfl,by kernel_rfl⟩
theorem Tryz.okc40:OkC Tryz.prog 111:=⟨_,Tryz.func111,by kernel_rfl,by kernel_rfl⟩
theorem Tryz.okc41:OkC Tryz.prog 62:=⟨_,Tryz.func62,by kernel_rfl,by kernel_rfl⟩
theorem Tryz.okc42:OkC Tryz.prog 112:=⟨_,Tryz.func112,by kernel_rfl,by kernel_rfl⟩
theorem Tryz.okc43:OkC Tryz.prog 50:=⟨_,Tryz.func50,by kernel_rfl,by kernel_rfl⟩
theorem Tryz.okc44:OkC Tryz.prog 25:=⟨_,Tryz.func25,by kernel_rfl,by kernel_rfl⟩
theorem Tryz.okc48:OkC Tryz.prog 155:=⟨_,Tryz.func155,by kernel_rfl,by kernel_rfl⟩
theorem Tryz.okc49:OkC Tryz.prog 136:=⟨_,Tryz.func136,by kernel_rfl,by kernel_rfl⟩
theorem Tryz.okc50:OkC Tryz.prog 156:=⟨_,Tryz.func156,by kernel_rfl,by kernel_rfl⟩
theorem Tryz.okc51:OkC Tryz.prog 157:=⟨_,Tryz.func157,by kernel_rfl,by kernel_rfl⟩
theorem Tryz.okc55:OkC Tryz.prog 172:=⟨_,Tryz.func172,by kernel_rfl,by kernel_rfl⟩
theorem Tryz.okc56:OkC Tryz.prog 173:=⟨_,Tryz.func173,by kernel_rfl,by kernel_rfl⟩
theorem Tryz.okc57:OkC Tryz.prog 174:=⟨_,Tryz.func174,by kernel_rfl,by kernel_rfl⟩
theorem Tryz.okc58:OkC Tryz.prog 150:=⟨_,Tryz.func150,by kernel_rfl,by kernel_rfl⟩
theorem Tryz.okc59:OkC Tryz.prog 110:=⟨_,Tryz.func110,by kernel_rfl,by kernel_rfl⟩
theorem Tryz.okc60:OkC Tryz.prog 120:=⟨_,Tryz.func120,by kernel_rfl,by kernel_rfl⟩
theorem Tryz.okc61:OkC Tryz.prog 121:=⟨_,Tryz.func121,by kernel_rfl,by kernel_rfl⟩
theorem Tryz.okc62:OkC Tryz.prog 151:=⟨_,Tryz.func151,by kernel_rfl,by kernel_rfl⟩
theorem Tryz.okc63:OkC Tryz.prog 75:=⟨_,Tryz.func75,by kernel_rfl,by kernel_rfl⟩
theorem Tryz.okc64:OkC Tryz.prog 76:=⟨_,Tryz.func76,by kernel_rfl,by kernel_rfl⟩
theorem Tryz.okc76:OkC Tryz.prog 195:=⟨_,Tryz.func195,by kernel_rfl,by kernel_rfl⟩
theorem Tryz.okc77:OkC Tryz.prog 176:=⟨_,Tryz.func176,by kernel_rfl,by kernel_rfl⟩
theorem Tryz.okc78:OkC Tryz.prog 153:=⟨_,Tryz.func153,by kernel_rfl,by kernel_rfl⟩
theorem Tryz.okc79:OkC Tryz.prog 154:=⟨_,Tryz.func154,by kernel_rfl,by kernel_rfl⟩
theorem Tryz.okc80:OkC Tryz.prog 54:=⟨_,Tryz.func54,by kernel_rfl,by kernel_rfl⟩
theorem Tryz.okc85:OkC Tryz.prog 185:=⟨_,Tryz.func185,by kernel_rfl,by kernel_rfl⟩
theorem Tryz.okc107:OkC Tryz.prog 79:=⟨_,Tryz.func79,by kernel_rfl,by kernel_rfl⟩
theorem Tryz.okc110:OkC Tryz.prog 78:=⟨_,Tryz.func78,by kernel_rfl,by kernel_rfl⟩
theorem Tryz.okc114:OkC Tryz.prog 58:=⟨_,Tryz.func58,by kernel_rfl,by kernel_rfl⟩
theorem Tryz.okc118:OkC Tryz.prog 114:=⟨_,Tryz.func114,by kernel_rfl,by kernel_rfl⟩
theorem Tryz.okc119:OkC Tryz.prog 60:=⟨_,Tryz.func60,by kernel_rfl,by kernel_rfl⟩
theorem Tryz.okc120:OkC Tryz.prog 131:=⟨_,Tryz.func131,by kernel_rfl,by kernel_rfl⟩
theorem Tryz.okc123:OkC Tryz.prog 129:=⟨_,Tryz.func129,by kernel_rfl,by kernel_rfl⟩
theorem Tryz.okc125:OkC Tryz.prog 130:=⟨_,Tryz.func130,by kernel_rfl,by kernel_rfl⟩
theorem Tryz.okc127:OkC Tryz.prog 137:=⟨_,Tryz.func137,by kernel_rfl,by kernel_rfl⟩
theorem Tryz.okc129:OkC Tryz.prog 133:=⟨_,Tryz.func133,by kernel_rfl,by kernel_rfl⟩
theorem Tryz.okc130:OkC Tryz.prog 134:=⟨_,Tryz.func134,by kernel_rfl,by kernel_rfl⟩
theorem Tryz.okc131:OkC Tryz.prog 135:=⟨_,Tryz.func135,by kernel_rfl,by kernel_rfl⟩
theorem Tryz.okc132:OkC Tryz.prog 113:=⟨_,Tryz.func113,by kernel_rfl,by kernel_rfl⟩
theorem Tryz.okc133:OkC Tryz.prog 116:=⟨_,Tryz.func116,by kernel_rfl,by kernel_rfl⟩
theorem Tryz.okc134:OkC Tryz.prog 117:=⟨_,Tryz.func117,by kernel_rfl,by kernel_rfl⟩
theorem Tryz.okc135:OkC Tryz.prog 118:=⟨_,Tryz.func118,by kernel_rfl,by kernel_rfl⟩
theorem Tryz.okc136:OkC Tryz.prog 161:=⟨_,Tryz.func161,by kernel_rfl,by kernel_rfl⟩
theorem Tryz.okc137:OkC Tryz.prog 162:=⟨_,Tryz.func162,by kernel_rfl,by kernel_rfl⟩
theorem Tryz.okc147:OkC Tryz.prog 152:=⟨_,Tryz.func152,by kernel_rfl,by kernel_rfl⟩
theorem Tryz.okc148:OkC Tryz.prog 183:=⟨_,Tryz.func183,by kernel_rfl,by kernel_rfl⟩
theorem Tryz.okc149:OkC Tryz.prog 184:=⟨_,Tryz.func184,by kernel_rfl,by kernel_rfl⟩
theorem Tryz.okc159:OkC Tryz.prog 201:=⟨_,Tryz.func201,by kernel_rfl,by kernel_rfl⟩
theorem Tryz.okc179:OkC Tryz.prog 71:=⟨_,Tryz.func71,by kernel_rfl,by kernel_rfl⟩
theorem Tryz.okc180:OkC Tryz.prog 48:=⟨_,Tryz.func48,by kernel_rfl,by kernel_rfl⟩
theorem Tryz.okc182:OkC Tryz.prog 72:=⟨_,Tryz.func72,by kernel_rfl,by kernel_rfl⟩
theorem Tryz.okc185:OkC Tryz.prog 24:=⟨_,Tryz.func24,by kernel_rfl,by kernel_rfl⟩
theorem Tryz.okc187:OkC Tryz.prog 22:=⟨_,Tryz.func22,by kernel_rfl,by kernel_rfl⟩
theorem Tryz.okc391:OkC Tryz.prog 6:=⟨_,Tryz.func6,by kernel_rfl,by kernel_rfl⟩
theorem Tryz.okc395:OkC Tryz.prog 10:=⟨_,Tryz.func10,by kernel_rfl,by kernel_rfl⟩
theorem Tryz.okc396:OkC Tryz.prog 11:=⟨_,Tryz.func11,by kernel_rfl,by kernel_rfl⟩
theorem Tryz.okc399:OkC Tryz.prog 15:=⟨_,Tryz.func15,by kernel_rfl,by kernel_rfl⟩
theorem Tryz.okc400:OkC Tryz.prog 16:=⟨_,Tryz.func16,by kernel_rfl,by kernel_rfl⟩
theorem Tryz.okc405:OkC Tryz.prog 26:=⟨_,Tryz.func26,by kernel_rfl,by kernel_rfl⟩
theorem Tryz.okc407:OkC Tryz.prog 29:=⟨_,Tryz.func29,by kernel_rfl,by kernel_rfl⟩
theorem Tryz.okc408:OkC Tryz.prog 30:=⟨_,Tryz.func30,by kernel_rfl,by kernel_rfl⟩
theorem Tryz.okc409:OkC Tryz.prog 32:=⟨_,Tryz.func32,by kernel_rfl,by kernel_rfl⟩
theorem Tryz.okc410:OkC Tryz.prog 33:=⟨_,Tryz.func33,by kernel_rfl,by kernel_rfl⟩
theorem Tryz.okc416:OkC Tryz.prog 49:=⟨_,Tryz.func49,by kernel_rfl,by kernel_rfl⟩
theorem Tryz.okc417:OkC Tryz.prog 55:=⟨_,Tryz.func55,by kernel_rfl,by kernel_rfl⟩
theorem Tryz.okc418:OkC Tryz.prog 56:=⟨_,Tryz.func56,by kernel_rfl,by kernel_rfl⟩
theorem Tryz.okc421:OkC Tryz.prog 82:=⟨_,Tryz.func82,by kernel_rfl,by kernel_rfl⟩
theorem Tryz.okc422:OkC Tryz.prog 83:=⟨_,Tryz.func83,by kernel_rfl,by kernel_rfl⟩
theorem Tryz.okc423:OkC Tryz.prog 84:=⟨_,Tryz.func84,by kernel_rfl,by kernel_rfl⟩
theorem Tryz.okc424:OkC Tryz.prog 85:=⟨_,Tryz.func85,by kernel_rfl,by kernel_rfl⟩
theorem Tryz.okc425:OkC Tryz.prog 89:=⟨_,Tryz.func89,by kernel_rfl,by kernel_rfl⟩
theorem Tryz.okf8:OkF Tryz.prog Tryz.T 34 zwP:=⟨_,Tryz.func34,by kernel_rfl,by kernel_rfl⟩
theorem Tryz.okf9:OkF Tryz.prog Tryz.T 31 zwL:=⟨_,Tryz.func31,by kernel_rfl,by kernel_rfl⟩
theorem Tryz.okf11:OkF Tryz.prog Tryz.T 36 zvZ:=⟨_,Tryz.func36,by kernel_rfl,by kernel_rfl⟩
theorem Tryz.okf16:OkF Tryz.prog Tryz.T 63 zvn:=⟨_,Tryz.func63,by kernel_rfl,by kernel_rfl⟩
theorem Tryz.okf17:OkF Tryz.prog Tryz.T 35 zw4:=⟨_,Tryz.func35,by kernel_rfl,by kernel_rfl⟩
theorem Tryz.okf18:OkF Tryz.prog Tryz.T 86 zwW:=⟨_,Tryz.func86,by kernel_rfl,by kernel_rfl⟩
theorem Tryz.okf19:OkF Tryz.prog Tryz.T 77 zvp:=⟨_,Tryz.func77,by kernel_rfl,by kernel_rfl⟩
theorem Tryz.okf20:OkF Tryz.prog Tryz.T 87 zwf:=⟨_,Tryz.func87,by kernel_rfl,by kernel_rfl⟩
theorem Tryz.okf21:OkF Tryz.prog Tryz.T 88 zwo:=⟨_,Tryz.func88,by kernel_rfl,by kernel_rfl⟩
theorem Tryz.okf22:OkF Tryz.prog Tryz.T 90 zvx:=⟨_,Tryz.func90,by kernel_rfl,by kernel_rfl⟩
theorem Tryz.okf23:OkF Tryz.prog Tryz.T 53 zwI:=⟨_,Tryz.func53,by kernel_rfl,by kernel_rfl⟩
theorem Tryz.okf24:OkF Tryz.prog Tryz.T 80 zvJ:=⟨_,Tryz.func80,by kernel_rfl,by kernel_rfl⟩
theorem Tryz.okf29:OkF Tryz.prog Tryz.T 91 zwH:=⟨_,Tryz.func91,by kernel_rfl,by kernel_rfl⟩
theorem Tryz.okf30:OkF Tryz.prog Tryz.T 14 zv1:=⟨_,Tryz.func14,by kernel_rfl,by kernel_rfl⟩
theorem Tryz.okf31:OkF Tryz.prog Tryz.T 92 zww:=⟨_,Tryz.func92,by kernel_rfl,by kernel_rfl⟩
theorem Tryz.okf34:OkF Tryz.prog Tryz.T 51 zwy:=⟨_,Tryz.func51,by kernel_rfl,by kernel_rfl⟩
theorem Tryz.okf35:OkF Tryz.prog Tryz.T 138 zvr:=⟨_,Tryz.func138,by kernel_rfl,by kernel_rfl⟩
theorem Tryz.okf36:OkF Tryz.prog Tryz.T 109 zv6:=⟨_,Tryz.func109,by kernel_rfl,by kernel_rfl⟩
theorem Tryz.okf37:OkF Tryz.prog Tryz.T 132 zwr:=⟨_,Tryz.func132,by kernel_rfl,by kernel_rfl⟩
theorem Tryz.okf38:OkF Tryz.prog Tryz.T 52 zwS:=⟨_,Tryz.func52,by kernel_rfl,by kernel_rfl⟩
theorem Tryz.okf39:OkF Tryz.prog Tryz.T 105 zwG:=⟨_,Tryz.func105,by kernel_rfl,by kernel_rfl⟩
theorem Tryz.okf40:OkF Tryz.prog Tryz.T 111 zwN:=⟨_,Tryz.func111,by kernel_rfl,by kernel_rfl⟩
theorem Tryz.okf41:OkF Tryz.prog Tryz.T 62 zvY:=⟨_,Tryz.func62,by kernel_rfl,by kernel_rfl⟩
theorem Tryz.okf42:OkF Tryz.prog Tryz.T 112 zvt:=⟨_,Tryz.func112,by kernel_rfl,by kernel_rfl⟩
theorem Tryz.okf43:OkF Tryz.prog Tryz.T 50 zwM:=⟨_,Tryz.func50,by kernel_rfl,by kernel_rfl⟩
theorem Tryz.okf44:OkF Tryz.prog Tryz.T 25 zv7:=⟨_,Tryz.func25,by kernel_rfl,by kernel_rfl⟩
theorem Tryz.okf48:OkF Tryz.prog Tryz.T 155 zvX:=⟨_,Tryz.func155,by kernel_rfl,by kernel_rfl⟩
theorem Tryz.okf49:OkF Tryz.prog Tryz.T 136 zvO:=⟨_,Tryz.func136,by kernel_rfl,by kernel_rfl⟩
theorem Tryz.okf55:OkF Tryz.prog Tryz.T 172 zvs:=⟨_,Tryz.func172,by kernel_rfl,by kernel_rfl⟩
theorem Tryz.okf56:OkF Tryz.prog Tryz.T 173 zvV:=⟨_,Tryz.func173,by kernel_rfl,by kernel_rfl⟩
theorem Tryz.okf57:OkF Tryz.prog Tryz.T 174 zwn:=⟨_,Tryz.func174,by kernel_rfl,by kernel_rfl⟩
theorem Tryz.okf58:OkF Tryz.prog Tryz.T 150 zv0:=⟨_,Tryz.func150,by kernel_rfl,by kernel_rfl⟩
theorem Tryz.okf59:OkF Tryz.prog Tryz.T 110 zvC:=⟨_,Tryz.func110,by kernel_rfl,by kernel_rfl⟩
theorem Tryz.okf60:OkF Tryz.prog Tryz.T 120 zvB:=⟨_,Tryz.func120,by kernel_rfl,by kernel_rfl⟩
theorem Tryz.okf61:OkF Tryz.prog Tryz.T 121 zvv:=⟨_,Tryz.func121,by kernel_rfl,by kernel_rfl⟩
theorem Tryz.okf62:OkF Tryz.prog Tryz.T 151 zvu:=⟨_,Tryz.func151,by kernel_rfl,by kernel_rfl⟩
theorem Tryz.okf63:OkF Tryz.prog Tryz.T 75 zvw:=⟨_,Tryz.func75,by kernel_rfl,by kernel_rfl⟩
theorem Tryz.okf64:OkF Tryz.prog Tryz.T 76 zvq:=⟨_,Tryz.func76,by kernel_rfl,by kernel_rfl⟩
theorem Tryz.okf76:OkF Tryz.prog Tryz.T 195 zvG:=⟨_,Tryz.func195,by kernel_rfl,by kernel_rfl⟩
theorem Tryz.okf77:OkF Tryz.prog Tryz.T 176 zvL:=⟨_,Tryz.func176,by kernel_rfl,by kernel_rfl⟩
theorem Tryz.okf78:OkF Tryz.prog Tryz.T 153 zvM:=⟨_,Tryz.func153,by kernel_rfl,by kernel_rfl⟩
theorem Tryz.okf79:OkF Tryz.prog Tryz.T 154 zvA:=⟨_,Tryz.func154,by kernel_rfl,by kernel_rfl⟩
theorem Tryz.okf80:OkF Tryz.prog Tryz.T 54 zvo:=⟨_,Tryz.func54,by kernel_rfl,by kernel_rfl⟩
theorem Tryz.okf85:OkF Tryz.prog Tryz.T 185 zvl:=⟨_,Tryz.func185,by kernel_rfl,by kernel_rfl⟩
theorem Tryz.okf107:OkF Tryz.prog Tryz.T 79 zvS:=⟨_,Tryz.func79,by kernel_rfl,by kernel_rfl⟩
theorem Tryz.okf110:OkF Tryz.prog Tryz.T 78 zvD:=⟨_,Tryz.func78,by kernel_rfl,by kernel_rfl⟩
theorem Tryz.okf114:OkF Tryz.prog Tryz.T 58 zxb:=⟨_,Tryz.func58,by kernel_rfl,by kernel_rfl⟩
theorem Tryz.okf118:OkF Tryz.prog Tryz.T 114 zv2:=⟨_,Tryz.func114,by kernel_rfl,by kernel_rfl⟩
theorem Tryz.okf119:OkF Tryz.prog Tryz.T 60 zw1:=⟨_,Tryz.func60,by kernel_rfl,by kernel_rfl⟩
theorem Tryz.okf120:OkF Tryz.prog Tryz.T 131 zw0:=⟨_,Tryz.func131,by kernel_rfl,by kernel_rfl⟩
theorem Tryz.okf123:OkF Tryz.prog Tryz.T 129 zw2:=⟨_,Tryz.func129,by kernel_rfl,by kernel_rfl⟩
theorem Tryz.okf125:OkF Tryz.prog Tryz.T 130 zw3:=⟨_,Tryz.func130,by kernel_rfl,by kernel_rfl⟩
theorem Tryz.okf127:OkF Tryz.prog Tryz.T 137 zwa:=⟨_,Tryz.func137,by kernel_rfl,by kernel_rfl⟩
theorem Tryz.okf129:OkF Tryz.prog Tryz.T 133 zvz:=⟨_,Tryz.func133,by kernel_rfl,by kernel_rfl⟩
theorem Tryz.okf132:OkF Tryz.prog Tryz.T 113 zwg:=⟨_,Tryz.func113,by kernel_rfl,by kernel_rfl⟩
theorem Tryz.okf133:OkF Tryz.prog Tryz.T 116 zwX:=⟨_,Tryz.func116,by kernel_rfl,by kernel_rfl⟩
theorem Tryz.okf134:OkF Tryz.prog Tryz.T 117 zvW:=⟨_,Tryz.func117,by kernel_rfl,by kernel_rfl⟩
theorem Tryz.okf135:OkF Tryz.prog Tryz.T 118 zwq:=⟨_,Tryz.func118,by kernel_rfl,by kernel_rfl⟩
theorem Tryz.okf136:OkF Tryz.prog Tryz.T 161 zvy:=⟨_,Tryz.func161,by kernel_rfl,by kernel_rfl⟩
theorem Tryz.okf137:OkF Tryz.prog Tryz.T 162 zvk:=⟨_,Tryz.func162,by kernel_rfl,by kernel_rfl⟩
theorem Tryz.okf147:OkF Tryz.prog Tryz.T 152 zxg:=⟨_,Tryz.func152,by kernel_rfl,by kernel_rfl⟩
theorem Tryz.okf148:OkF Tryz.prog Tryz.T 183 zvI:=⟨_,Tryz.func183,by kernel_rfl,by kernel_rfl⟩
theorem Tryz.okf149:OkF Tryz.prog Tryz.T 184 zwv:=⟨_,Tryz.func184,by kernel_rfl,by kernel_rfl⟩
theorem Tryz.okf159:OkF Tryz.prog Tryz.T 201 zwj:=⟨_,Tryz.func201,by kernel_rfl,by kernel_rfl⟩
theorem Tryz.okf179:OkF Tryz.prog Tryz.T 71 zwh:=⟨_,Tryz.func71,by kernel_rfl,by kernel_rfl⟩
theorem Tryz.okf180:OkF Tryz.prog Tryz.T 48 zwK:=⟨_,Tryz.func48,by kernel_rfl,by kernel_rfl⟩
theorem Tryz.okf182:OkF Tryz.prog Tryz.T 72 zwO:=⟨_,Tryz.func72,by kernel_rfl,by kernel_rfl⟩
theorem Tryz.okf185:OkF Tryz.prog Tryz.T 24 zxI:=⟨_,Tryz.func24,by kernel_rfl,by kernel_rfl⟩
theorem Tryz.okf187:OkF Tryz.prog Tryz.T 22 zvU:=⟨_,Tryz.func22,by kernel_rfl,by kernel_rfl⟩
theorem Tryz.okf391:OkF Tryz.prog Tryz.T 6 zvP:=⟨_,Tryz.func6,by kernel_rfl,by kernel_rfl⟩
theorem Tryz.okf395:OkF Tryz.prog Tryz.T 10 zwV:=⟨_,Tryz.func10,by kernel_rfl,by kernel_rfl⟩
theorem Tryz.okf396:OkF Tryz.prog Tryz.T 11 zvF:=⟨_,Tryz.func11,by kernel_rfl,by kernel_rfl⟩
theorem Tryz.okf399:OkF Tryz.prog Tryz.T 15 zv8:=⟨_,Tryz.func15,by kernel_rfl,by kernel_rfl⟩
theorem Tryz.okf400:OkF Tryz.prog Tryz.T 16 zwx:=⟨_,Tryz.func16,by kernel_rfl,by kernel_rfl⟩
theorem Tryz.okf405:OkF Tryz.prog Tryz.T 26 zxh:=⟨_,Tryz.func26,by kernel_rfl,by kernel_rfl⟩
theorem Tryz.okf407:OkF Tryz.prog Tryz.T 29 zvH:=⟨_,Tryz.func29,by kernel_rfl,by kernel_rfl⟩
theorem Tryz.okf408:OkF Tryz.prog Tryz.T 30 zvT:=⟨_,Tryz.func30,by kernel_rfl,by kernel_rfl⟩
theorem Tryz.okf409:OkF Tryz.prog Tryz.T 32 zvK:=⟨_,Tryz.func32,by kernel_rfl,by kernel_rfl⟩
theorem Tryz.okf410:OkF Tryz.prog Tryz.T 33 zwu:=⟨_,Tryz.func33,by kernel_rfl,by kernel_rfl⟩
theorem Tryz.okf416:OkF Tryz.prog Tryz.T 49 zwd:=⟨_,Tryz.func49,by kernel_rfl,by kernel_rfl⟩
theorem Tryz.okf417:OkF Tryz.prog Tryz.T 55 zwp:=⟨_,Tryz.func55,by kernel_rfl,by kernel_rfl⟩
theorem Tryz.okf418:OkF Tryz.prog Tryz.T 56 zvR:=⟨_,Tryz.func56,by kernel_rfl,by kernel_rfl⟩
theorem Tryz.okf421:OkF Tryz.prog Tryz.T 82 zwi:=⟨_,Tryz.func82,by kernel_rfl,by kernel_rfl⟩
theorem Tryz.okf422:OkF Tryz.prog Tryz.T 83 zvi:=⟨_,Tryz.func83,by kernel_rfl,by kernel_rfl⟩
theorem Tryz.okf423:OkF Tryz.prog Tryz.T 84 zws:=⟨_,Tryz.func84,by kernel_rfl,by kernel_rfl⟩
theorem Tryz.okf424:OkF Tryz.prog Tryz.T 85 zwt:=⟨_,Tryz.func85,by kernel_rfl,by kernel_rfl⟩
theorem Tryz.okf425:OkF Tryz.prog Tryz.T 89 zwe:=⟨_,Tryz.func89,by kernel_rfl,by kernel_rfl⟩
theorem Tryz.allc:AllCal Tryz.prog Tryz.keyL:=⟨Tryz.okc8,Tryz.okc9,Tryz.okc11,Tryz.okc16,Tryz.okc17,Tryz.okc18,Tryz.okc19,Tryz.okc20,Tryz.okc21,Tryz.okc22,Tryz.okc23,Tryz.okc24,Tryz.okc29,Tryz.okc30,Tryz.okc31,Tryz.okc33,Tryz.okc34,Tryz.okc35,Tryz.okc36,Tryz.okc37,Tryz.okc38,Tryz.okc39,Tryz.okc40,Tryz.okc41,Tryz.okc42,Tryz.okc43,Tryz.okc44,Tryz.okc48,Tryz.okc49,Tryz.okc50,Tryz.okc51,Tryz.okc55,Tryz.okc56,Tryz.okc57,Tryz.okc58,Tryz.okc59,Tryz.okc60,Tryz.okc61,Tryz.okc62,Tryz.okc63,Tryz.okc64,Tryz.okc76,Tryz.okc77,Tryz.okc78,Tryz.okc79,Tryz.okc80,Tryz.okc85,Tryz.okc107,Tryz.okc110,Tryz.okc114,Tryz.okc118,Tryz.okc119,Tryz.okc120,Tryz.okc123,Tryz.okc125,Tryz.okc127,Tryz.okc129,Tryz.okc130,Tryz.okc131,Tryz.okc132,Tryz.okc133,Tryz.okc134,Tryz.okc135,Tryz.okc136,Tryz.okc137,Tryz.okc147,Tryz.okc148,Tryz.okc149,Tryz.okc159,Tryz.okc179,Tryz.okc180,Tryz.okc182,Tryz.okc185,Tryz.okc187,Tryz.okc391,Tryz.okc395,Tryz.okc396,Tryz.okc399,Tryz.okc400,Tryz.okc405,Tryz.okc407,Tryz.okc408,Tryz.okc409,Tryz.okc410,Tryz.okc416,Tryz.okc417,Tryz.okc418,Tryz.okc421,Tryz.okc422,Tryz.okc423,Tryz.okc424,Tryz.okc425,True.intro⟩
theorem Tryz.allf:AllOk Tryz.prog Tryz.T progL Tryz.keyL:=⟨Tryz.okf8,Tryz.okf9,Tryz.okf11,Tryz.okf16,Tryz.okf17,Tryz.okf18,Tryz.okf19,Tryz.okf20,Tryz.okf21,Tryz.okf22,Tryz.okf23,Tryz.okf24,Tryz.okf29,Tryz.okf30,Tryz.okf31,Tryz.okf34,Tryz.okf35,Tryz.okf36,Tryz.okf37,Tryz.okf38,Tryz.okf39,Tryz.okf40,Tryz.okf41,Tryz.okf42,Tryz.okf43,Tryz.okf44,Tryz.okf48,Tryz.okf49,Tryz.okf55,Tryz.okf56,Tryz.okf57,Tryz.okf58,Tryz.okf59,Tryz.okf60,Tryz.okf61,Tryz.okf62,Tryz.okf63,Tryz.okf64,Tryz.okf76,Tryz.okf77,Tryz.okf78,Tryz.okf79,Tryz.okf80,Tryz.okf85,Tryz.okf107,Tryz.okf110,Tryz.okf114,Tryz.okf118,Tryz.okf119,Tryz.okf120,Tryz.okf123,Tryz.okf125,Tryz.okf127,Tryz.okf129,Tryz.okf132,Tryz.okf133,Tryz.okf134,Tryz.okf135,Tryz.okf136,Tryz.okf137,Tryz.okf147,Tryz.okf148,Tryz.okf149,Tryz.okf159,Tryz.okf179,Tryz.okf180,Tryz.okf182,Tryz.okf185,Tryz.okf187,Tryz.okf391,Tryz.okf395,Tryz.okf396,Tryz.okf399,Tryz.okf400,Tryz.okf405,Tryz.okf407,Tryz.okf408,Tryz.okf409,Tryz.okf410,Tryz.okf416,Tryz.okf417,Tryz.okf418,Tryz.okf421,Tryz.okf422,Tryz.okf423,Tryz.okf424,Tryz.okf425,True.intro⟩
theorem Tryz.libok:LibOk Tryz.prog Tryz.lren (fun f=>(Tryz.keyL[f]?).join) Tryz.T 8 where
 l105:=Tryz.l105
 l171:=Tryz.l171
 lX:=Tryz.lX
 gname:=by kernel_rfl
 gkey:=rfl
 k50:=rfl
 k51:=rfl
 o130:=fun g h=>⟨Tryz.l160,by kernel_rfl,(Option.some.inj h).symm⟩
 o131:=fun g h=>⟨Tryz.l172,(Option.some.inj h).symm⟩
 o222:=fun g h=>by have h:(none:Option FuncId)=some g:=h;cases h
theorem Tryz.mixed:Tryz.prog.follows .mixedOrders=true:=by kernel_rfl
theorem Tryz.progok1:ProgOk Tryz.prog (fun f=>(Tryz.keyL[f]?).join) Tryz.T E1.prog:=zmX Tryz.mixed Tryz.allc Tryz.allf Tryz.libok
theorem Tryz.gk0:∀g n,Tryz.T.gkey g=some n→n≤4:=fun g n h=>by
 have h:(if g=8 then some 0 else if g=0 then some 1 else if g=1 then some 2 else none)=some n:=h
 repeat
  split at h
  ·cases h;decide
 cases h
theorem Tryz.progok:ProgOk Tryz.prog (fun f=>(Tryz.keyL[f]?).join) Tryz.T E0.prog:=zmW Tryz.mixed Tryz.allc Tryz.allf Tryz.libok fun {g} hk=>by
 obtain rfl:g=122:=(Option.some.inj hk).symm
 exact fun {_ _ _ _ _ _ _ _} e TO RL S=>znd (pre:=Tryz.strPre) (tail:=Tryz.strTail) Tryz.progok1 KE1 Tryz.gk0 (G:=8) rfl Tryz.func122 rfl (by kernel_rfl) rfl rfl (fun neg ps h1 h2 h3 b1 o1 b3 o3 c w h4 h5 h6 h7 tm h8 h9 h10=>Tryz.str_tail neg ps h1 h2 h3 b1 o1 b3 o3 c w h4 h5 h6 h7 tm h8 h9 h10) e TO RL S
end Go.Proofs
namespace Go.Eng
open Go.RowKit
theorem tabIs_mem {P:Program} {W:World} {name:String} {k:IntKind} {zs:List Int} {g:Nat} {t e:TypeId} {n:Nat}
  (hg:P.globalNamed name=some g) (hty:(P.globals[g]?).map (·.type)=some t) (ht:P.underlying t=some (.array n e)) (he:P.underlying e=some (.int k)) (hce:P.cellsOf e=1) (hct:P.cellsOf t=n) :
  ∀{laid:List (String×DataW Unit)} {ps:List MemPlace},DataW.LaidVars P W laid ps→(name,Lib.tabData k zs)∈laid→Lib.TabIs P W name k zs
 | [],_,_,hm=>by cases hm
 | x::laid,ps,h,hm=>by
  obtain⟨g',t',cs,fuel,p,q,hg',ht',hvar,hd,h2,h3⟩:=h
  rcases List.mem_cons.1 hm with rfl|hm
  ·obtain rfl:=Option.some.inj (hg.symm.trans hg')
   obtain rfl:=Option.some.inj (hty.symm.trans ht')
   unfold Lib.TabIs
   rw[hvar,←Lib.cells_of_tab ht he hce hct hd]
  ·exact tabIs_mem hg hty ht he hce hct (by first|exact h2|exact h3|exact h3.1|exact h2.1) hm
def IsRow (k:IntKind) (w:World) (a:Option Addr) (len cap:Nat) (zs:List Int):Prop :=
 (a=none∧len=0∧cap=0∧zs=[]) ∨
 ∃x,a=some x∧len≤cap∧cap≤maxLen∧zs.length=cap∧(∀i,i<zs.length→w.cell? (x.add i)=some (.int k (zs.getD i 0)))∧∀n∈zs,(Lit.int k n).wf=true
def hpA (bs:List (List AV)):Hp:=⟨fun n=>if n≤4 then (globG n).map fun c=>⟨c,false,0⟩ else (bs[n-5]?).map fun c=>⟨c,false,0⟩,bs.length+5⟩
def locA (gs:Nat→Option At) (ats:List At):Loc:=fun n=>if n≤4 then gs n else ats[n-5]?
def InW (c:List AV) (a:At) (W:World):Prop :=
 a.b<W.heap.size∧a.w=false∧c.length≤a.n∧∀i (h:i<c.length),c[i].scal=true∧∃v,W.cell? ⟨a.b,a.o+i,none⟩=some v∧∀key l,Rel key l c[i] v
def GlobIn (key:Nat→Option FuncId) (W:World) (n:Nat) (a:At):Prop :=
 a.o=0∧∃c cs t fz,globG n=some c∧W.heap[a.b]?=some (.cells cs t fz)∧c.length≤a.n∧RelL key (fun _=>none) c cs.toList
theorem zik:∀{n:Nat} {c:List AV},globG n=some c→c.all AV.scal=true
 | 0,c,h=>by cases h;rfl
 | 1,c,h=>by cases h;rfl
 | 2,c,h=>by cases h;rfl
 | 3,c,h=>by cases h;rfl
 | 4,c,h=>by cases h;rfl
 | n+5,c,h=>by cases h
theorem zhn:∀{n:Nat} {c:List AV},globG n=some c→(c.map cst0).all PV.scal=true
 | 0,c,h=>by cases h;decide
 | 1,c,h=>by cases h;decide
 | 2,c,h=>by cases h;decide
 | 3,c,h=>by cases h;rfl
 | 4,c,h=>by cases h;rfl
 | n+5,c,h=>by cases h
theorem zmd:∀{n:Nat} {c:List AV},globG n=some c→n≤4
 | 0,c,h=>by omega
 | 1,c,h=>by omega
 | 2,c,h=>by omega
 | 3,c,h=>by omega
 | 4,c,h=>by omega
 | n+5,c,h=>by cases h
theorem zt0 {P:Program} {key:Nat→Option FuncId} {F:Nat} {W:World} {gs:Nat→Option At} (hgs:∀n a,n≤4→gs n=some a→GlobIn key W n a)
  {bs:List (List AV)} {ats:List At} (hl:ats.length=bs.length) (hin:∀(n:Nat) c a,bs[n]?=some c→ats[n]?=some a→InW c a W):Sim key F (locA gs ats) (hpA bs) W:=by
 have hlt:∀n a,n≤4→gs n=some a→a.b<W.heap.size:=fun n a hn hg=>by
  obtain⟨_,c,cs,t,fz,_,h2,_⟩:=hgs n a hn hg
  rcases Nat.lt_or_ge a.b W.heap.size with q|q
  ·exact q
  ·rw[Array.getElem?_eq_none q] at h2;cases h2
 have hout:∀n,bs.length≤n→ats[n]?=none:=fun n hn=>List.getElem?_eq_none (by omega)
 have norw:∀n blk,(hpA bs).m n=some blk→blk.rw=false:=fun n blk e=>by
  simp only[hpA] at e
  split at e<;>(simp only[Option.map_eq_some_iff] at e;obtain⟨c,_,rfl⟩:=e;rfl)
 refine⟨fun n blk a e1 e2=>?_,fun n blk a n' blk' a' e1 e2 e3=>?_,fun n a e=>?_,fun n a e=>?_,fun n hn=>?_⟩
 ·by_cases hn:n≤4
  ·simp only[hpA,if_pos hn,Option.map_eq_some_iff] at e1
   simp only[locA,if_pos hn] at e2
   obtain⟨c,c1,rfl⟩:=e1
   obtain⟨g1,c',cs,t,fz,g2,g3,g4,g5⟩:=hgs n a hn e2
   obtain rfl:=Option.some.inj (c1.symm.trans g2)
   have hsz:c.length=cs.size:=by simpa using g5.1
   refine⟨hlt n a hn e2,g4,fun i hi=>?_,fun i hi=>?_,fun q=>(by cases q),fun _=>⟨rfl,g1,cs,t,fz,g3,hsz.symm⟩⟩
   ·have hi:i<c.length:=hi
    have hi':i<cs.toList.length:=by simp;omega
    refine⟨cs.toList[i],?_,(g5.2 i hi hi').mono fun n a q=>by cases q⟩
    have hb:W.heap[a.b]?=some (.cells cs t fz):=g3
    simp only[World.cell?,hb,g1,Nat.zero_add]
    rw[Array.getElem_toList,Array.getElem?_eq_getElem (by omega)];rfl
   ·have:=zik c1
    rw[List.all_eq_true] at this
    exact this _ (List.getElem_mem _)
  ·simp only[hpA,if_neg hn,Option.map_eq_some_iff] at e1
   simp only[locA,if_neg hn] at e2
   obtain⟨c,c1,rfl⟩:=e1
   obtain⟨q1,q2,q3,q4⟩:=hin _ c a c1 e2
   exact⟨q1,q3,fun i hi=>by obtain⟨_,v,v1,v2⟩:=q4 i hi;exact⟨v,v1,v2 key _⟩,fun i hi=>(q4 i hi).1,fun q=>(by cases q),fun q=>by rw[q2] at q;cases q⟩
 ·rw[norw n blk e1] at e3;cases e3
 ·by_cases hn:n≤4
  ·simp only[locA,if_pos hn] at e
   exact hlt n a hn e
  ·simp only[locA,if_neg hn] at e
   have hb:n-5<bs.length:=by
    rcases Nat.lt_or_ge (n-5) bs.length with q|q
    ·exact q
    ·rw[hout _ q] at e;cases e
   exact(hin _ _ a (List.getElem?_eq_getElem hb) e).1
 ·left
  show n<bs.length+5
  by_cases hn:n≤4
  ·omega
  ·simp only[locA,if_neg hn] at e
   rcases Nat.lt_or_ge (n-5) bs.length with q|q
   ·omega
   ·rw[hout _ q] at e;cases e
 ·have hn:bs.length+5≤n:=hn
  simp only[hpA]
  rw[if_neg (by omega),List.getElem?_eq_none (by omega)];rfl
theorem PInv.startG {bs:List (List AV)} (w:(hpA bs).wf):PInv globG (fun _=>False) [] [] (hpA bs):=by
 refine⟨rfl,fun i j m q=>by simp at q,fun m q=>by simp at q,w,fun n m q=>by simp at q,fun n b m q=>by simp at q,fun m d=>d.elim,fun g l q=>?_⟩
 refine⟨⟨l,false,0⟩,?_,⟨rfl,zhn q⟩,fun d=>?_⟩
 ·simp only[hpA,if_pos (zmd q),q,Option.map_some]
 ·rcases d with d|d
  ·exact d
  ·exact ziF _ d
theorem glob_tab {P:Program} {key:Nat→Option FuncId} {W:World} {G:Nat} (hg:P.globalNamed "internal/strconv.uint64pow10" = some G) (ht:Lib.TabIs P W "internal/strconv.uint64pow10" .u64 Lib.pow10Tab):GlobIn key W 0 ⟨G,0,20,true⟩:=by
 have hb:∃cs t fz,W.heap[G]?=some (.cells cs t fz)∧cs=(Lib.pow10Tab.map fun z=>Value.int .u64 z).toArray:=by
  unfold Lib.TabIs World.var? at ht
  rw[hg] at ht
  simp only[Option.bind_some] at ht
  split at ht
  ·rename_i cs t fz hh
   cases ht
   exact⟨_,t,fz,hh,rfl⟩
  ·cases ht
 obtain⟨cs,t,fz,hh,rfl⟩:=hb
 refine⟨rfl,powT,_,t,fz,rfl,hh,Nat.le_refl _,by simp[Lib.pow10Tab,powT],fun i h1 h2=>?_⟩
 have hpl:powT.length=20:=rfl
 have hi':i<20:=by rw[←hpl];exact h1
 simp only[powT,List.getElem_map,List.getElem_range,Lib.pow10Tab]
 exact .i _ _
theorem law_calls {P:Program} {key:Nat→Option FuncId} {T:Tab} (K:ProgOk P key T E0.prog) (hTf:∀f k,T.fkey f=some k→key k=some f) {W:World} {gs:Nat→Option At} (hgs:∀n a,n≤4→gs n=some a→GlobIn key W n a)
  (hT:∀g n,T.gkey g=some n→n≤4∧∃m,gs n=some ⟨g,0,m,true⟩)
  {bs:List (List AV)} {ats:List At} (hl:ats.length=bs.length) (hin:∀(n:Nat) c a,bs[n]?=some c→ats[n]?=some a→InW c a W)
  {k g:Nat} (hk:key k=some g) (hpure:E0.pure k=true) {ps:List PV} (hfz:fzL (fz [] fzD) ps=some (ps,[])) (hpf:pf E0 k ps=some (.b true))
  {avs:List AV} {vs:Array Value} (hV:VL (hpA bs) (fun _=>False) [] ps avs) (hR:RelL key (locA gs ats) avs vs.toList) :
  Calls P g vs W fun e w'=>e=.returned (.bool true)∧Below W.heap.size W w':=by
 have hc:pcl E0 k ps []=some (.b true,roM [] []):=zgV hpure hfz hpf
 obtain⟨kk,hev⟩:=zeh hc
 have hw:(hpA bs).wf:=(zt0 (P:=P) (key:=key) (F:=0) hgs hl hin).wf
 have I:PInv globG (fun _=>False) [] [] (hpA bs):=PInv.startG hw
 obtain⟨a,h',r',q1,q2,q3,q4⟩:=zg0 KE0 kk _ _ _ _ _ _ _ _ _ hev I (VL.dd hV)
 have ha:a=.b true:=by cases q4;rfl
 subst ha
 have S:=zt0 (P:=P) (key:=key) (F:=h'.next) hgs hl hin
 have TO:TabOk key T (locA gs ats):=by
  refine⟨fun f k e=>?_,fun g n e=>?_⟩
  ·exact hTf f k e
  ·obtain⟨h4,m,hm⟩:=hT g n e
   exact⟨m,by simp only[locA,if_pos h4];exact hm⟩
 refine(zb7 K kk h'.next k g avs vs _ h' _ _ W q1 hk (Nat.le_refl _) TO hR S).mono ?_
 rintro e w' ⟨l',val,rfl,E,S',rv⟩
 cases rv
 refine⟨rfl,E.os,E.tape,E.output,E.size,fun b hb=>E.frame b hb fun m blk a e1 e2=>?_⟩
 exfalso
 simp only[hpA] at e1
 split at e1<;>(simp only[Option.map_eq_some_iff] at e1;obtain⟨c,c1,rfl⟩:=e1;cases e2)
theorem arg_row {k:IntKind} {W:World} (h0:0<W.heap.size) {a:Option Addr} {len cap:Nat} {zs:List Int} (h:IsRow k W a len cap zs) (n:Nat):∃(c:List AV) (at_:At) (av:AV),InW c at_ W ∧
  (∀key (l:Loc),l n=some at_→Rel key l av (.slice a len cap))∧(∀(h:Hp) (D:Nat→Prop),h.m n=some ⟨c,false,0⟩→¬D n→V h D [] (.lst ((zs.take len).map fun z=>.i k z)) av):=by
 have nilIn:InW [] ⟨0,0,0,false⟩ W:=⟨h0,rfl,Nat.le_refl _,fun i hi=>by simp at hi⟩
 rcases h with⟨rfl,rfl,rfl,rfl⟩|⟨x,rfl,hl,hm,hz,hcell,hwz⟩
 ·exact⟨[],⟨0,0,0,false⟩,.sn,nilIn,fun key l _=>.sn,fun h D _ _=>.lsn⟩
 ·by_cases hlen:len=0
  ·subst hlen
   exact⟨[],⟨0,0,0,false⟩,.e0,nilIn,fun key l _=>.e0 _ _,fun h D _ _=>.le0⟩
  ·obtain⟨b,off,spot⟩:=x
   have hc:=hcell 0 (by omega)
   have hspot:spot=none:=by simpa [Addr.add] using World.cell?_spot hc
   subst hspot
   have hlt:b<W.heap.size:=by
    rcases Nat.lt_or_ge b W.heap.size with q|q
    ·exact q
    ·rw[zb4] at hc
     simp[World.cell?,Array.getElem?_eq_none q] at hc
   have hget:∀i (hi:i<((zs.take len).map fun z=>AV.i k z).length),((zs.take len).map fun z=>AV.i k z)[i]=.i k (zs.getD i 0):=fun i hi=>by
    have hi':i<zs.length:=by simp at hi;omega
    simp only[List.getElem_map,List.getElem_take,List.getD]
    rw[List.getElem?_eq_getElem hi'];rfl
   refine⟨(zs.take len).map fun z=>.i k z,⟨b,off,cap,false⟩,.sl n 0 len cap 1,⟨hlt,rfl,by simp;omega,fun i hi=>?_⟩,fun key l hn=>?_,fun h D hb hD=>?_⟩
   ·rw[hget i hi]
    have hi':i<zs.length:=by simp at hi;omega
    have:=hcell i hi'
    rw[zb4] at this
    exact⟨rfl,_,this,fun key l=>.i _ _⟩
   ·have:=Rel.sl (key:=key) (off:=0) (len:=len) (cap:=cap) (cap':=cap) (z:=1) hn (Nat.le_refl _) (by show 0+cap*1≤cap;omega) hl
    exact this
   ·have hfl:flat ((zs.take len).map fun z=>PV.i k z)=(zs.take len).map fun z=>PV.i k z:=by
     generalize zs.take len=ys
     induction ys with
     | nil=>rfl
     | cons y ys ih=>rw[List.map_cons];show [PV.i k y]++flat _=_;rw[ih];rfl
    have hll:((zs.take len).map fun z=>PV.i k z).length=len:=by simp;omega
    have:=V.lst (h:=h) (D:=D) (r:=[]) (xs:=(zs.take len).map fun z=>PV.i k z) (m:=n) (off:=0) (cap:=cap) (z:=1) (fun i=>.i k (zs.getD i 0)) hb hD (by rw[hfl,List.all_eq_true];intro x hx;obtain⟨y,_,rfl⟩:=List.mem_map.1 hx;rfl) (by decide) (fun x hx=>by
     obtain⟨y,_,rfl⟩:=List.mem_map.1 hx;rfl) (by rw[hll];exact hl) (fun i hi=>by
     rw[hfl] at hi
     have hi2:i<((zs.take len).map fun z=>AV.i k z).length:=by simpa using hi
     rw[Nat.zero_add,List.getElem?_eq_getElem hi2,hget i hi2]) (fun i hi=>by
     have hi1:i<((zs.take len).map fun z=>PV.i k z).length:=by rw[hfl] at hi;exact hi
     have e:(flat ((zs.take len).map fun z=>PV.i k z))[i]=.i k (zs.getD i 0):=by
      simp only[hfl,List.getElem_map,List.getElem_take,List.getD]
      rw[List.getElem?_eq_getElem (by simp at hi1;omega)];rfl
     rw[e]
     exact .i _ _)
    rw[hll] at this
    exact this
theorem row_heap {P:Program} {W:World} {G:Nat} (hg:P.globalNamed "internal/strconv.uint64pow10" = some G) (ht:Lib.TabIs P W "internal/strconv.uint64pow10" .u64 Lib.pow10Tab):0<W.heap.size:=by
 unfold Lib.TabIs World.var? at ht
 rw[hg] at ht
 simp only[Option.bind_some] at ht
 split at ht
 ·rename_i cs t fz hh
  rcases Nat.eq_zero_or_pos W.heap.size with q|q
  ·rw[Array.getElem?_eq_none (by omega)] at hh;cases hh
  ·exact q
 ·cases ht
theorem ints_row {W:World} {a:Option Addr} {len cap:Nat} {zs:List Int} (h:IsRow .i64 W a len cap zs):Ints (zs.take len):=by
 rcases h with⟨rfl,rfl,rfl,rfl⟩|⟨x,rfl,hl,hm,hz,hcell,hwz⟩
 ·exact⟨by simp,fun n hn=>by simp at hn⟩
 ·refine⟨?_,fun n hn=>?_⟩
  ·have:maxLen≤9223372036854775807:=by decide
   simp;omega
  ·have:=bounds_i64 (hwz n (List.mem_of_mem_take hn))
   exact this
end Go.Eng
namespace Go.Eng
open Go.RowKit
theorem zgz {P:Program} {W:World} {name:String} {d:DataW Unit}:∀{laid:List (String×DataW Unit)} {ps:List MemPlace},DataW.LaidVars P W laid ps→(name,d)∈laid →
  ∃g t cs fuel p,P.globalNamed name=some g∧(P.globals[g]?).map (·.type)=some t∧W.var? P name=some cs∧DataW.trod (fun _=>()) P W 0 (fun _=>true) false fuel t cs.toList=some (d,p)
 | [],_,_,hm=>by cases hm
 | x::laid,ps,h,hm=>by
  obtain⟨g',t',cs,fuel,p,q,hg',ht',hvar,hd,h2,h3⟩:=h
  rcases List.mem_cons.1 hm with rfl|hm
  ·exact⟨g',t',cs,fuel,p,hg',ht',hvar,hd⟩
  ·exact zgz h2 hm
theorem zhk {H:Type} {enc:TypeId×Value→H} {P:Program} {w:World} {base:Nat} {sp:Nat→Bool} {held:Bool} {fuel:Nat} {t e e2:TypeId} {n m:Nat} {k:IntKind} {cs:List Value} {zss:List (List Int)} {p:List MemPlace}
  (ht:P.underlying t=some (.array n e)) (he:P.underlying e=some (.array m e2)) (he2:P.underlying e2=some (.int k)) (c2:P.cellsOf e2=1) (ce:P.cellsOf e=m) (ct:P.cellsOf t=n*m)
  (h:DataW.trod enc P w base sp held fuel t cs=some (.agg (zss.map fun zs=>Lib.tabData k zs),p)):cs=zss.flatten.map fun z=>Value.int k z:=by
 cases fuel with
 | zero=>simp[DataW.trod] at h
 | succ fuel =>
  simp only[DataW.trod,ht,ce,ct] at h
  split at h
  ·rename_i hl
   obtain⟨xs,hm,hx⟩:=Option.map_eq_some_iff.1 h
   have hxs:xs.map (·.1)=zss.map fun zs=>(Lib.tabData k zs:DataW H):=by
    have:=congrArg Prod.fst hx
    simpa using this
   have hxl:xs.length=n:=by simpa using Lib.mapM_length hm
   have hzl:zss.length=n:=by
    have:=congrArg List.length hxs
    simp at this
    omega
   have part:∀i (hi:i<zss.length),(cs.drop (i*m)).take m=(zss[i]).map fun z=>Value.int k z:=fun i hi=>by
    have hin:i<n:=by omega
    obtain⟨b,hb,hf⟩:=Lib.mapM_at hm i i (by rw[List.getElem?_eq_getElem (by rw[List.length_range];exact hin),List.getElem_range])
    have h2:(xs.map (·.1))[i]?=some b.1:=by simp[hb]
    rw[hxs] at h2
    simp only[List.getElem?_map,List.getElem?_eq_getElem hi,Option.map_some,Option.some.injEq] at h2
    exact Lib.cells_of_tab (zs:=zss[i]) (p:=b.2) he he2 c2 ce (by rw[h2];exact hf)
   clear hm hx hxs h hxl
   have key:∀(zss:List (List Int)) (cs:List Value),cs.length=zss.length*m→(∀i (hi:i<zss.length),(cs.drop (i*m)).take m=(zss[i]).map fun z=>Value.int k z)→cs=zss.flatten.map fun z=>Value.int k z:=fun zss=>by
    induction zss with
    | nil=>intro cs hc _;simp at hc;simp[hc]
    | cons a l ih =>
     intro cs hc hp
     have h0:=hp 0 (by simp)
     rw[Nat.zero_mul,List.drop_zero] at h0
     have h1:=ih (cs.drop m) (by rw[List.length_drop,hc,List.length_cons,Nat.succ_mul];omega) fun i hi=>by
      have:=hp (i+1) (by simp;omega)
      rw[List.drop_drop,show m+i*m=(i+1)*m by rw[Nat.succ_mul];omega]
      simpa using this
     have h0:cs.take m=a.map fun z=>Value.int k z:=h0
     rw[List.flatten_cons,List.map_append,←h1,←h0,List.take_append_drop]
   exact key zss cs (by rw[hl,hzl]) part
  ·cases h
theorem zme {P:Program} {key:Nat→Option FuncId} {W:World} {G n:Nat} {name:String} {k:IntKind} {zs:List Int} (hg:P.globalNamed name=some G) (hn:globG n=some (zs.map fun z=>AV.i k z)) (hv:W.var? P name=some (zs.map fun z=>Value.int k z).toArray):GlobIn key W n ⟨G,0,zs.length,true⟩:=by
 have hb:∃cs t fz,W.heap[G]?=some (.cells cs t fz)∧cs=(zs.map fun z=>Value.int k z).toArray:=by
  unfold World.var? at hv
  rw[hg] at hv
  simp only[Option.bind_some] at hv
  split at hv
  ·rename_i cs t fz hh
   cases hv
   exact⟨_,t,fz,hh,rfl⟩
  ·cases hv
 obtain⟨cs,t,fz,hh,rfl⟩:=hb
 refine⟨rfl,_,_,t,fz,hn,hh,by simp,by simp,fun i h1 h2=>?_⟩
 simp only[List.getElem_map]
 exact .i _ _
theorem glob_arr2 {P:Program} {key:Nat→Option FuncId} {W:World} {laid:List (String×DataW Unit)} {ps:List MemPlace} {n g N m:Nat} {name:String} {t e e2:TypeId} {k:IntKind} {zss:List (List Int)} (hg:P.globalNamed name=some g) (hty:(P.globals[g]?).map (·.type)=some t)
  (ht:P.underlying t=some (.array N e)) (he:P.underlying e=some (.array m e2)) (he2:P.underlying e2=some (.int k)) (c2:P.cellsOf e2=1) (ce:P.cellsOf e=m) (ct:P.cellsOf t=N*m)
  (hn:globG n=some (zss.flatten.map fun z=>AV.i k z)) (hL:DataW.LaidVars P W laid ps) (hm:(name,DataW.agg (zss.map fun zs=>Lib.tabData k zs))∈laid):GlobIn key W n ⟨g,0,zss.flatten.length,true⟩:=by
 obtain⟨g',t',cs,fuel,p,h1,h2,h3,h4⟩:=zgz hL hm
 obtain rfl:=Option.some.inj (hg.symm.trans h1)
 obtain rfl:=Option.some.inj (hty.symm.trans h2)
 have hc:=zhk ht he he2 c2 ce ct h4
 exact zme hg hn (by rw[h3,←hc])
def monoZ:List (List Int):=[[0,0,0],[1,0,0],[0,1,0],[0,0,1],[2,0,0],[1,1,0],[1,0,1],[0,2,0],[0,1,1],[0,0,2],[3,0,0],[2,1,0],[2,0,1],[1,2,0],[1,1,1],[1,0,2],[0,3,0],[0,2,1],[0,1,2],[0,0,3]]
def chooZ:List (List Int):=[[1,0,0,0],[1,1,0,0],[1,2,1,0],[1,3,3,1]]
theorem mono_glob:globG 1=some (monoZ.flatten.map fun z=>AV.i .i64 z):=rfl
theorem choo_glob:globG 2=some (chooZ.flatten.map fun z=>AV.i .i64 z):=rfl
end Go.Eng
namespace Go.Eng
theorem zi4 {n K:Nat} (hn:n=1229) (hK:K=16384):10000^n≤2^K:=by
 obtain⟨m,hm⟩:∃m,m=83:=⟨_,rfl⟩
 have e:(10000:Nat)^n=(10^59)^m*10^19:=by
  rw[show (10000:Nat)=10^4 from rfl,←Nat.pow_mul,←Nat.pow_mul,←Nat.pow_add]
  congr 1;omega
 have h1:(10:Nat)^59≤2^196:=by decide
 have h2:(10:Nat)^19≤2^64:=by decide
 have h3:((10:Nat)^59)^m≤(2^196)^m:=Nat.pow_le_pow_left h1 m
 have h4:(2^196)^m*2^64=2^(196*m+64):=by rw[←Nat.pow_mul,←Nat.pow_add]
 rw[e]
 refine Nat.le_trans (Nat.mul_le_mul h3 h2) ?_
 rw[h4]
 exact Nat.pow_le_pow_right (by decide) (by omega)
def inR (v:Nat):Prop:=v<2^16384
theorem zj1 (v:Nat):(tlen v<1230∨v<2^16384)↔inR v:=by
 obtain⟨n,hn⟩:∃n,n=1229:=⟨_,rfl⟩
 have hb:=zi4 (K:=16384) hn rfl
 unfold inR
 generalize (2:Nat)^16384=q at *
 constructor
 ·rintro (h|h)
  ·have h2:v<10000^n:=zaX.1 (by omega)
   exact Nat.lt_of_lt_of_le h2 hb
  ·exact h
 ·exact .inr
theorem zaN (v:Nat):wlen v≤512↔inR v:=by
 obtain⟨n,hn⟩:∃n,n=512:=⟨_,rfl⟩
 rw[←hn,zaD]
 unfold inR
 have:(4294967296:Nat)^n=2^16384:=by
  rw[show (4294967296:Nat)=2^32 from rfl,←Nat.pow_mul]
  congr 1;omega
 rw[this]
end Go.Eng
namespace Go.Eng
end Go.Eng
namespace Go.Eng
noncomputable instance inRdec (v:Nat):Decidable (inR v):=Classical.propDecidable _
noncomputable def parseT (s:List UInt8):Int×Int :=
 let neg:Bool:=s.head?==some 45
 let ds:=if neg then s.drop 1 else s
 if 5000<s.length then (0,4)
 else if ds=[]∨(ds.head?=some 48∧(neg=true∨1<ds.length))∨¬ds.all isDig=true then (0,2)
 else if inR (tv ds) then (sgn neg (tv ds),0) else (0,4)
theorem zj6 {l:List UInt8}:(l=[]∨∃c t,l=c::t):=by cases l with
 | nil=>exact .inl rfl
 | cons c t=>exact .inr ⟨c,t,rfl⟩
theorem zdf (s:List UInt8):(5000<s.length∧parseT s=(0,4))∨(s.length≤5000∧∃neg ds,((neg=true∧s=45::ds)∨(neg=false∧s=ds∧ds.head?≠some 45)) ∧
  ((ds=[]∨(ds.head?=some 48∧(neg=true∨1<ds.length))∨¬ds.all isDig=true)∧parseT s=(0,2) ∨
   ds≠[]∧(ds.head?=some 48→neg=false∧ds.length=1)∧ds.all isDig=true∧(inR (tv ds)∧parseT s=(sgn neg (tv ds),0)∨¬inR (tv ds)∧parseT s=(0,4)))):=by
 by_cases hl:5000<s.length
 ·exact .inl ⟨hl,by unfold parseT;simp only[hl,if_true]⟩
 ·right
  refine⟨by omega,s.head?==some 45,if (s.head?==some 45) then s.drop 1 else s,?_,?_⟩
  ·by_cases h:s.head?=some 45
   ·left
    rw[h]
    refine⟨rfl,?_⟩
    cases s with
    | nil=>cases h
    | cons c t=>simp only[List.head?_cons,Option.some.injEq] at h;subst h;rfl
   ·right
    have:(s.head?==some 45)=false:=by simpa using h
    rw[this]
    exact⟨rfl,by simp,by simpa using h⟩
  ·have e:parseT s=(if (if (s.head?==some 45) then s.drop 1 else s)=[]∨((if (s.head?==some 45) then s.drop 1 else s).head?=some 48∧((s.head?==some 45)=true∨1<(if (s.head?==some 45) then s.drop 1 else s).length))∨¬(if (s.head?==some 45) then s.drop 1 else s).all isDig=true then (0,2)
     else if inR (tv (if (s.head?==some 45) then s.drop 1 else s)) then (sgn (s.head?==some 45) (tv (if (s.head?==some 45) then s.drop 1 else s)),0) else (0,4)):=by
    unfold parseT
    simp only[hl,if_false]
   rw[e]
   generalize (if (s.head?==some 45)=true then s.drop 1 else s)=ds
   generalize (s.head?==some 45)=neg
   by_cases h1:ds=[]∨(ds.head?=some 48∧(neg=true∨1<ds.length))∨¬ds.all isDig=true
   ·exact .inl ⟨h1,by rw[if_pos h1]⟩
   ·right
    rw[if_neg h1]
    have n1:ds≠[]:=fun q=>h1 (.inl q)
    refine⟨n1,fun q=>?_,?_,?_⟩
    ·have h2:¬(neg=true∨1<ds.length):=fun r=>h1 (.inr (.inl ⟨q,r⟩))
     have h3:ds.length≠0:=fun r=>n1 (List.eq_nil_of_length_eq_zero r)
     refine⟨?_,?_⟩
     ·cases neg
      ·rfl
      ·exact(h2 (.inl rfl)).elim
     ·have:¬1<ds.length:=fun r=>h2 (.inr r)
      omega
    ·by_cases q:ds.all isDig=true
     ·exact q
     ·exact(h1 (.inr (.inr q))).elim
    ·by_cases h3:inR (tv ds)
     ·exact .inl ⟨h3,by rw[if_pos h3]⟩
     ·exact .inr ⟨h3,by rw[if_neg h3]⟩
end Go.Eng
namespace Go.Eng
theorem zfZ (s:List UInt8) (hs:s.length<4611686018427387904):pf E0 85 [.s s,.s [45]]=some (.b (s.head?==some 45)):=by
 refine zab (xf:=zvl) rfl (by simp[zvl]) ?_
 simp only[zvl]
 cases s with
 | nil =>
  have q1:(((0:Nat):Int)≥1)=False:=by simp
  simp(disch:=omega)only[go_sem,seval,wqq,Int.natCast_one,q1,Int.natCast_zero,Int.reduceLE,ge_iff_le]
  rfl
 | cons c t =>
  have q1:(((t.length+1:Nat):Int)≥1)=True:=by simp;omega
  have hc:slStrP (c::t) none (some (.i .i64 1))=some (.s [c]):=by
   simp only[slStrP,optP,show (PV.i IntKind.i64 1)=.i .i64 ((1:Nat):Int) from rfl,za3]
   rw[if_pos ⟨by omega,by simp⟩];rfl
  simp(disch:=omega)only[go_sem,seval,wqq,Int.natCast_one,q1,hc]
  congr 2
  by_cases h:c=45
  ·subst h;rfl
  ·have:(some c==some (45:UInt8))=false:=by simpa using h
   simp[h,this]
theorem zfX {neg:Bool} {s ds:List UInt8} (hs:s.length<4611686018427387904) (h:(neg=true∧s=45::ds)∨(neg=false∧s=ds∧ds.head?≠some 45)):pf E0 129 [.s s,.s [45]]=some (.tu [.s ds,.b neg]):=by
 have inner:pf E0 137 [.s s,.s [45]]=some (.tu [.s ds,.b neg]):=by
  refine zab (xf:=zvk) rfl (by simp[zvk]) ?_
  simp only[zvk]
  have hp:=zfZ s hs
  rcases h with⟨rfl,rfl⟩|⟨rfl,rfl,h45⟩
  ·have e:((45::ds).head?==some (45:UInt8))=true:=rfl
   rw[e] at hp
   have hc:slStrP (45::ds) (some (.i .i64 1)) none=some (.s ds):=by
    simp only[slStrP,optP,show (PV.i IntKind.i64 1)=.i .i64 ((1:Nat):Int) from rfl,za3]
    rw[if_pos ⟨by simp,Nat.le_refl _⟩]
    simp
   simp(disch:=omega)only[go_sem,seval,wqq,hp,Int.natCast_one,hc]
  ·have e:(s.head?==some (45:UInt8))=false:=by simpa using h45
   rw[e] at hp
   simp(disch:=omega)only[go_sem,seval,wqq,hp]
 refine zab (xf:=zvz) rfl (by simp[zvz]) ?_
 simp only[zvz]
 simp(disch:=omega)only[go_sem,seval,wqq,inner]
set_option maxRecDepth 20000 in
theorem zkP (ds:List UInt8):((((ds.reverse.dropWhile (([48,49,50,51,52,53,54,55,56,57]:List UInt8).contains ·)).reverse).dropWhile (([48,49,50,51,52,53,54,55,56,57]:List UInt8).contains ·))=[])=(ds.all isDig=true):=by
 have hc:∀c:UInt8,([48,49,50,51,52,53,54,55,56,57]:List UInt8).contains c=isDig c:=fun c=>by
  have h:∀n:Fin 256,([48,49,50,51,52,53,54,55,56,57]:List UInt8).contains (UInt8.ofNat n.val)=isDig (UInt8.ofNat n.val):=by decide
  have h2:=h ⟨c.toNat,c.toNat_lt⟩
  simpa using h2
 simp only[hc]
 have aux:∀l:List UInt8,l.dropWhile isDig=[]↔l.all isDig=true:=fun l=>by
  induction l with
  | nil=>simp
  | cons c l ih =>
   rw[List.dropWhile_cons,List.all_cons,Bool.and_eq_true]
   by_cases h:isDig c=true
   ·rw[if_pos h,ih];simp[h]
   ·rw[if_neg h];simp[h]
 apply propext
 rw[aux,List.all_reverse]
 constructor
 ·intro h
  by_cases hd:ds.all isDig=true
  ·exact hd
  ·exfalso
   have h1:ds.reverse.dropWhile isDig≠[]:=fun q=>hd (by rw[←List.all_reverse];exact(aux _).1 q)
   obtain⟨c,t,he⟩:∃c t,ds.reverse.dropWhile isDig=c::t:=by
    cases hq:ds.reverse.dropWhile isDig with
    | nil=>exact(h1 hq).elim
    | cons c t=>exact⟨c,t,rfl⟩
   have h2:=List.head?_dropWhile_not isDig ds.reverse
   rw[he] at h h2
   simp only[List.head?_cons] at h2
   simp only[List.all_cons,Bool.and_eq_true] at h
   rw[h.1] at h2
   simp at h2
 ·intro hd
  have:ds.reverse.dropWhile isDig=[]:=(aux _).2 (by rw[List.all_reverse];exact hd)
  rw[this];rfl
theorem znh (ds:List UInt8) (h:ds.length≤9223372036854775807):∃t,(t=[]↔ds.all isDig=true)∧pf E0 130 [.s ds,.s [48,49,50,51,52,53,54,55,56,57]]=some (.s t):=by
 refine⟨_,by rw[←zkP ds],zky ?_ rfl⟩
 simp only[orcP,libP]
 rw[if_neg (by decide),if_pos ⟨trivial,h,by decide,by decide⟩]
 rfl
theorem zlO {l:List UInt8} (h0:l≠[]) (h1:l.length≤18) (h2:l.all isDig=true):pf E0 131 [.s l]=some (.tu [.i .i64 (tv l:Nat),.inil]):=by
 refine zkz ?_ rfl
 simp only[orcP,libP]
 rw[if_neg (by decide),if_pos ⟨trivial,h0,h1,h2⟩]
 rfl
theorem zpN {v:Nat} (h:v<4294967296):PV.lst [(PV.i .u32 ((v:Nat):Int))]=Dw 1 v:=by
 have e:tab 1 (fun k=>(PV.i .u32 ((dgt v k:Nat):Int)))=[(PV.i .u32 ((dgt v 0:Nat):Int))]:=rfl
 rw[Dw,e,ze4,Nat.mod_eq_of_lt h]
theorem zh4 {v n:Nat} (h:v<10^n):wlen v≤n:=by
 rw[zaD]
 exact Nat.lt_of_lt_of_le h (Nat.pow_le_pow_left (by decide) n)
def wparse_R:XC:=match zvD.body with
 | .seq _ (.seq _ (.seq _ (.seq _ (.seq _ (.seq _ r)))))=>r
 | _=>.skip
theorem zjC {F:PFin} {ds:List UInt8} (hl:ds.length≤5000) (hd:ds.all isDig=true) {fr:PFr} {B:PB} {neg:Bool} (h2:fr 2=.p 0 0) (h4:fr 4=.s ds) (h5:fr 5=.b neg) (h6:fr 6=.nl)
  (cont:∀(fr':PFr) (M':PM),fr' 2=.p 0 0→fr' 5=.b neg→(∀M d,fz M (d+1) (fr' 6)=some (D (tv ds),[]))→PM.blk M' 0=some B→WK E0 F wparse_R [] fr' M') :
  WK E0 F (.loop zwc) [.block 0,.seq wparse_R] fr [some B]:=by
 refine zag zwc.eq_1 (fun(x:Nat×List UInt8) fr M=>x.2.length≤ds.length∧x.2.all isDig=true∧(x.1=0∨x.2.length%9=0)∧x.1*10^x.2.length+tv x.2=tv ds∧fr 2=.p 0 0∧fr 4=.s x.2∧fr 5=.b neg∧(∀M d,fz M (d+1) (fr 6)=some (D x.1,[]))∧PM.blk M 0=some B) (fun x=>x.2.length) ?_ (0,ds) ⟨Nat.le_refl _,hd,.inl rfl,by simp,h2,h4,h5,fun M d=>by rw[h6];rfl,rfl⟩
 rintro⟨m,rs⟩ fr M ⟨hrl,hrd,h9,hv,h2,h4,h5,h6,hb⟩ ih
 simp only at hrl hrd h9 hv h4 h6 ih
 cases rs with
 | nil =>
  have hm:m=tv ds:=by simpa [tv] using hv
  subst hm
  simp(disch:=omega)only[go_sem,seval,wqq,h4,Int.natCast_zero,Int.lt_irrefl,gt_iff_lt]
  exact cont _ _ (by simp only[go_sem,seval,h2]) (by simp only[go_sem,seval,h5]) (fun M d=>by simp only[go_sem,seval];exact h6 M d) hb
 | cons c t =>
  have htl:t.length<5000:=by simp only[List.length_cons] at hrl;omega
  obtain⟨n,hn⟩:∃n,n=t.length%9+1:=⟨_,rfl⟩
  have hn9:n≤9:=by omega
  have hnl:n≤(c::t).length:=by simp;omega
  have q1:(((t.length+1:Nat):Int)>0)=True:=by simp
  have i1:(((t.length+1:Nat):Int)-1)=((t.length:Nat):Int):=by omega
  have i2:((t.length:Int)).tmod 9=((t.length%9:Nat):Int):=zcG t.length 9
  have i3:((t.length%9:Nat):Int)+1=(n:Int):=by omega
  obtain⟨a,ha⟩:∃a,a=(c::t).take n:=⟨_,rfl⟩
  obtain⟨b,hbb⟩:∃b,b=(c::t).drop n:=⟨_,rfl⟩
  have hal:a.length=n:=by rw[ha,List.length_take];omega
  have hbl:b.length=(c::t).length-n:=by rw[hbb,List.length_drop]
  have hab:c::t=a++b:=by rw[ha,hbb,List.take_append_drop]
  have had:a.all isDig=true:=by rw[hab,List.all_append,Bool.and_eq_true] at hrd;exact hrd.1
  have hbd:b.all isDig=true:=by rw[hab,List.all_append,Bool.and_eq_true] at hrd;exact hrd.2
  have hc1:slStrP (c::t) none (some (.i .i64 (n:Int)))=some (.s a):=by
   simp only[slStrP,optP,za3]
   rw[if_pos ⟨by omega,hnl⟩,List.drop_zero,ha]
  have hc2:slStrP (c::t) (some (.i .i64 (n:Int))) none=some (.s b):=by
   simp only[slStrP,optP,za3]
   rw[if_pos ⟨hnl,Nat.le_refl _⟩,List.take_length,hbb]
  have hat:=zlO (l:=a) (by intro q;rw[q] at hal;simp at hal;omega) (by omega) had
  have hav:tv a<1000000000:=Nat.lt_of_lt_of_le (zkQ a had) (by rw[hal];exact Nat.pow_le_pow_right (by decide) hn9)
  have hvd:=zkQ ds hd
  have hmv:m<10^ds.length:=by
   have:m*1≤m*10^(c::t).length:=Nat.mul_le_mul_left _ (Nat.pow_pos (by decide))
   omega
  have hml:=zh4 hmv
  have hmlt:=zad m
  have h59:pf E0 59 [D m,Dw 1 1000000000]=some (Dw (wlen m+1) (m*1000000000)):=zgS hmlt (by decide) (by omega) (by omega)
  have hmm:m*1000000000<4294967296^(wlen m+1):=by rw[Nat.pow_succ];exact Nat.mul_lt_mul'' hmlt (by decide)
  have h40:pf E0 40 [Dw (wlen m+1) (m*1000000000),Dw 1 (tv a)]=some (Dw (max (wlen m+1) 1+1) (m*1000000000+tv a)):=zmQ hmm (by omega) (by omega) (by omega)
  have hsl:m*1000000000+tv a<4294967296^(max (wlen m+1) 1+1):=by
   rw[Nat.max_eq_left (by omega)]
   have h1:m*1000000000+tv a<(m+1)*1000000000:=by rw[Nat.add_mul,Nat.one_mul];exact Nat.add_lt_add_left hav _
   have h2:(m+1)*1000000000≤4294967296^wlen m*4294967296:=by
    refine Nat.mul_le_mul (Nat.succ_le_of_lt hmlt) ?_
    omega
   rw[←Nat.pow_succ] at h2
   exact Nat.lt_of_lt_of_le h1 (Nat.le_trans h2 (Nat.pow_le_pow_right (by decide) (by omega)))
  have h49:pf E0 49 [Dw (max (wlen m+1) 1+1) (m*1000000000+tv a)]=some (D (m*1000000000+tv a)):=zbG hsl (by omega)
  have w1:PV.lst [.i .u32 1000000000]=Dw 1 1000000000:=zpN (v:=1000000000) (by decide)
  have w2:PV.lst [(PV.i .u32 ((tv a:Nat):Int))]=Dw 1 (tv a):=zpN (by omega)
  simp(disch:=omega)only[go_sem,seval,wqq,h4,q1,i1,i2,i3,hc1,hc2,hat,h6,w1,h59,za0,group,List.headD_cons,w2,h40,h49,zbY]
  have hnew:(m*1000000000+tv a)*10^b.length+tv b=tv ds:=by
   rw[←hv,hab,zlC,List.length_append,Nat.pow_add,hal]
   rcases h9 with h9|h9
   ·rw[h9];simp
   ·have:n=9:=by simp only[List.length_cons] at h9;omega
    rw[this]
    show (m*10^9+tv a)*10^b.length+tv b=m*(10^9*10^b.length)+(tv a*10^b.length+tv b)
    rw[Nat.add_mul,Nat.mul_assoc];omega
  have hb9:b.length%9=0:=by rw[hbl];simp only[List.length_cons];omega
  refine ih (m*1000000000+tv a,b) _ _ (by rw[hbl];simp only[List.length_cons];omega) ⟨by simp only;omega,hbd,.inr hb9,hnew,by simp only[go_sem,seval,h2],by simp only[go_sem,seval],by simp only[go_sem,seval,h5],fun M d=>by simp only[go_sem,seval],?_⟩
  refine za8 (za8 hb _) _
theorem zmG (s:List UInt8) (hs:s.length<4611686018427387904):pf E0 110 [.s s]=some (.tu [wiP (clip (parseT s).1),.i .i64 (parseT s).2]):=by
 refine zab (xf:=zvD) rfl (by simp[zvD]) ?_
 have c0:clip 0=wi0:=zbn (z:=0) (by simp[zbJ])
 rcases zdf s with⟨hl,hp⟩|⟨hl,neg,ds,hsg,hsp⟩
 ·rw[hp,c0]
  simp only[zvD]
  have q1:((s.length:Int)>5000)=True:=by simp;omega
  simp(disch:=omega)only[go_sem,seval,wqq,q1]
 ·have hdl:ds.length≤5000:=by
   rcases hsg with⟨_,rfl⟩|⟨_,rfl,_⟩
   ·simp at hl;omega
   ·exact hl
  have q1:((s.length:Int)>5000)=False:=by simp;omega
  have hcp:=zfX hs hsg
  obtain⟨t,ht1,ht2⟩:=znh ds (by omega)
  have good:ds.all isDig=true→(inR (tv ds)∧parseT s=(sgn neg (tv ds),0)∨¬inR (tv ds)∧parseT s=(0,4))→∀{fr:PFr},fr 2=.p 0 0→fr 4=.s ds→fr 5=.b neg→fr 6=.nl →
    WK E0 ⟨[.cell 2 true 2,.tmp 3],fun w M2=>(fz M2 fzD w).map Prod.fst=some (.tu [wiP (clip (parseT s).1),.i .i64 (parseT s).2])⟩ (.loop zwc) [.block 0,.seq wparse_R] fr [some ⟨[.b false,.nl],true,0⟩]:=fun hd hp {fr} h2 h4 h5 h6=>by
   refine zjC hdl hd h2 h4 h5 h6 fun fr' M' g2 g5 g6 gb=>?_
   unfold wparse_R
   simp only[zvD]
   have hsi:=zaC neg (wlen (tv ds)) (tv ds) (zad _) (by have:=zh4 (zkQ ds hd);omega)
   have hlt:=zb5 gb
   have hset:∀Y,PM.blk (List.set M' 0 (some Y)) 0=some Y:=fun Y=>zbL hlt
   have hres:parseT s=((if inR (tv ds) then (if neg then-(tv ds:Int) else (tv ds:Int)) else 0),lerr (tv ds:Int)):=by
    rcases hp with⟨h1,h2⟩|⟨h1,h2⟩
    ·rw[h2,if_pos h1,zcW (by simpa using (zaN _).2 h1)];rfl
    ·rw[h2,if_neg h1,zeD (by simpa using fun q=>h1 ((zaN _).1 q))]
   have hcl:clip (if neg then-(tv ds:Int) else (tv ds:Int))=clip (parseT s).1:=by
    rw[hres]
    by_cases h1:inR (tv ds)
    ·simp only[if_pos h1]
    ·simp only[if_neg h1]
     rw[zeq,c0]
     cases neg<;>simp<;>exact Nat.lt_of_not_le fun q=>h1 ((zaN _).1 q)
   rw[hcl] at hsi
   have he:lerr (tv ds:Int)=(parseT s).2:=by rw[hres]
   rw[he] at hsi
   simp(disch:=omega)only[go_sem,seval,wqq,g2,g5,g6,hsi,gb,hset]
  simp only[zvD]
  rcases zj6 (l:=ds) with rfl|⟨c,r,rfl⟩
  ·have hp:parseT s=(0,2):=by
    rcases hsp with⟨_,h⟩|⟨h,_⟩
    ·exact h
    ·exact(h rfl).elim
   rw[hp,c0]
   simp(disch:=omega)only[go_sem,seval,wqq,q1,hcp]
  ·have q0:(c::r=[])=False:=by simp
   by_cases ha:(c::r).all isDig=true
   ·have htn:(t=[])=True:=by simp[ht1.2 ha]
    have hts:(t≠[])=False:=by simp[ht1.2 ha]
    by_cases h48:c.toNat=48
    ·have q2:((c.toNat:Int)=48)=True:=by simp;omega
     have hc:c=48:=UInt8.toNat_inj.1 h48
     cases neg
     ·by_cases hr:r=[]
      ·have q3:(((r.length+1:Nat):Int)>1)=False:=by subst hr;simp
       have hp:inR (tv (c::r))∧parseT s=(sgn false (tv (c::r)),0)∨¬inR (tv (c::r))∧parseT s=(0,4):=by
        rcases hsp with⟨h|⟨_,h|h⟩|h,_⟩|⟨_,_,_,h⟩
        ·cases h
        ·cases h
        ·subst hr;simp at h
        ·exact(h ha).elim
        ·exact h
       simp(disch:=omega)only[go_sem,seval,wqq,q1,hcp,q0,ht2,htn,q2,q3]
       exact good ha hp (by simp only[go_sem,seval]) (by simp only[go_sem,seval]) (by simp only[go_sem,seval]) (by simp only[go_sem,seval])
      ·have q3:(((r.length+1:Nat):Int)>1)=True:=by
        cases r with
        | nil=>exact(hr rfl).elim
        | cons _ _=>simp;omega
       have hp:parseT s=(0,2):=by
        rcases hsp with⟨_,h⟩|⟨_,h,_⟩
        ·exact h
        ·have:=(h (by rw[hc];rfl)).2
         cases r with
         | nil=>exact(hr rfl).elim
         | cons _ _=>simp at this
       rw[hp,c0]
       simp(disch:=omega)only[go_sem,seval,wqq,q1,hcp,q0,ht2,htn,q2,q3]
     ·have hp:parseT s=(0,2):=by
       rcases hsp with⟨_,h⟩|⟨_,h,_⟩
       ·exact h
       ·have:=(h (by rw[hc];rfl)).1
        cases this
      rw[hp,c0]
      simp(disch:=omega)only[go_sem,seval,wqq,q1,hcp,q0,ht2,htn,q2]
    ·have q2:((c.toNat:Int)=48)=False:=by simp;omega
     have hp:inR (tv (c::r))∧parseT s=(sgn neg (tv (c::r)),0)∨¬inR (tv (c::r))∧parseT s=(0,4):=by
      rcases hsp with⟨h|⟨h,_⟩|h,_⟩|⟨_,_,_,h⟩
      ·cases h
      ·simp only[List.head?_cons,Option.some.injEq] at h;rw[h] at h48;exact(h48 rfl).elim
      ·exact(h ha).elim
      ·exact h
     simp(disch:=omega)only[go_sem,seval,wqq,q1,hcp,q0,ht2,htn,q2]
     exact good ha hp (by simp only[go_sem,seval]) (by simp only[go_sem,seval]) (by simp only[go_sem,seval]) (by simp only[go_sem,seval])
   ·have htn:(t=[])=False:=by simp only[eq_iff_iff,iff_false];exact fun q=>ha (ht1.1 q)
    have hp:parseT s=(0,2):=by
     rcases hsp with⟨_,h⟩|⟨_,_,h,_⟩
     ·exact h
     ·exact(ha h).elim
    rw[hp,c0]
    simp(disch:=omega)only[go_sem,seval,wqq,q1,hcp,q0,ht2,htn]
end Go.Eng
namespace Go.Eng
theorem zgf {v:Nat} (h:v≠0):∃c t,dec v=c::t∧49≤c.toNat∧c.toNat≤57∧(c::t).length=dlen v:=by
 have h1:=zby v
 have h0:dlen v≠0:=fun q=>by rw[q] at h1;simp at h1;omega
 obtain⟨n,hn⟩:∃n,dlen v=n+1:=⟨dlen v-1,by omega⟩
 have h2:¬v<10^n:=fun q=>by have:=zam.2 q;omega
 have e:dec v=UInt8.ofNat (48+v/10^n%10)::dtx n v:=by rw[zb6 h,hn];rfl
 have hp:0<10^n:=Nat.pow_pos (by decide)
 have h3:v/10^n<10:=by
  rw[Nat.div_lt_iff_lt_mul hp,Nat.mul_comm,←Nat.pow_succ,show n.succ=dlen v from hn.symm];exact h1
 have h4:0<v/10^n:=Nat.div_pos (by omega) hp
 have ht:(UInt8.ofNat (48+v/10^n%10)).toNat=48+v/10^n%10:=dch _ (by omega)
 exact⟨_,_,e,by rw[ht];omega,by rw[ht];omega,by rw[hn];simp⟩
theorem znX (v:Nat):∀l,dec v≠45::l:=fun l q=>by
 by_cases h:v=0
 ·subst h;cases q
 ·obtain⟨c,t,e,h1,_⟩:=zgf h
  rw[e] at q;cases q
  revert h1;decide
theorem zjt {n K:Nat} (hn:n=177) (hK:K=16384):2^K≤10^(28*n):=by
 have e1:(2:Nat)^K≤(2^93)^n:=by
  rw[←Nat.pow_mul 2]
  exact Nat.pow_le_pow_right (by decide) (by omega)
 have e2:((2:Nat)^93)^n≤(10^28)^n:=Nat.pow_le_pow_left (by decide) n
 rw[←Nat.pow_mul 10] at e2
 exact Nat.le_trans e1 e2
theorem zni (K:Nat):0<2^K:=Nat.pow_pos (by decide)
theorem zj8:inR 0:=zni 16384
theorem zeA {v:Nat} (h:inR v):dlen v≤4956:=by
 obtain⟨n,hn⟩:∃n,n=177:=⟨_,rfl⟩
 have e:=zjt (K:=16384) hn rfl
 have h:v<2^16384:=h
 have:=zam.2 (Nat.lt_of_lt_of_le h e)
 omega
theorem zhy (z:Int):parseT (decI z)=if inR z.natAbs then (z,0) else (0,4):=by
 by_cases h0:z=0
 ·subst h0
  have h1:inR (0:Int).natAbs:=zj8
  have h2:decI 0=[48]:=rfl
  rw[if_pos h1,h2]
  have h3:inR (tv [48]):=h1
  unfold parseT
  rw[if_neg (by decide),if_neg (by decide)]
  exact if_pos h3
 ·have hv:z.natAbs≠0:=by omega
  obtain⟨c,t,e,hc1,hc2,hl⟩:=zgf hv
  have hd:=zlV z.natAbs
  have ht:=zpG z.natAbs
  have h45:c≠45:=by rintro rfl;revert hc1;decide
  have h48:c≠48:=by rintro rfl;revert hc1;decide
  have hlen:(decI z).length≤dlen z.natAbs+1:=by
   unfold decI;split<;>simp only[List.length_cons,e] at * <;> omega
  have hlen2:dlen z.natAbs≤(decI z).length:=by
   unfold decI;split<;>simp only[List.length_cons,e] at * <;> omega
  rcases zdf (decI z) with⟨h1,h2⟩|⟨h1,neg,ds,hsg,hsp⟩
  ·have:¬inR z.natAbs:=fun q=>by have:=zeA q;omega
   rw[if_neg this,h2]
  ·have hds:ds=dec z.natAbs∧sgn neg z.natAbs=z:=by
    rcases hsg with⟨rfl,g⟩|⟨rfl,g,g2⟩
    ·unfold decI at g
     split at g
     ·cases g;exact⟨rfl,by unfold sgn;simp;omega⟩
     ·exact(znX _ _ g).elim
    ·unfold decI at g
     split at g
     ·rw[←g] at g2;exact(g2 rfl).elim
     ·exact⟨g.symm,by unfold sgn;simp;omega⟩
   obtain⟨rfl,hs⟩:=hds
   rcases hsp with⟨h|⟨h,_⟩|h,_⟩|⟨_,_,_,⟨h3,h4⟩|⟨h3,h4⟩⟩
   ·rw[e] at h;cases h
   ·rw[e] at h;simp at h;exact(h48 h).elim
   ·exact(h hd).elim
   ·rw[ht] at h3 h4
    rw[if_pos h3,h4,hs]
   ·rw[ht] at h3
    rw[if_neg h3,h4]
theorem zoX (x:WI):pf E0 33 [wiP x]=some (.s (decI x.v)):=by
 refine zmU ?_ rfl
 have hw:∀(l:List Nat),Ok32 l→wordsP (l.map fun n=>(PV.i .u32 ((n:Nat):Int)))=some l:=fun l=>by
  induction l with
  | nil=>intro _;rfl
  | cons n l ih =>
   intro h
   have h1:=h n (List.mem_cons_self ..)
   rw[List.map_cons]
   unfold wordsP
   rw[if_pos ⟨by omega,by omega⟩,ih fun x hx=>h x (List.mem_cons_of_mem _ hx)]
   simp
 have hD:D x.v.natAbs=.lst ((dig x.v.natAbs).map fun n=>(PV.i .u32 ((n:Nat):Int))):=(zsR _ _).symm
 have hg:(dig x.v.natAbs).getLast?≠some 0:=fun q=>by
  by_cases h:x.v.natAbs=0
  ·rw[h] at q;cases q
  ·have h1:=zaZ h
   have h2:(dig x.v.natAbs).getLast?=some (dgt x.v.natAbs (wlen x.v.natAbs-1)):=by
    rw[List.getLast?_eq_getElem?]
    unfold dig dw
    rw[za2,zaS (by omega)]
   rw[h2] at q
   have h3:=Option.some.inj q
   rw[zaf] at h3
   have h4:=zeV h
   have h5:x.v.natAbs/4294967296^(wlen x.v.natAbs-1)<4294967296:=by
    have:=zad x.v.natAbs
    rw[show wlen x.v.natAbs=wlen x.v.natAbs-1+1 by omega,Nat.pow_succ] at this
    exact Nat.div_lt_of_lt_mul this
   have h6:=Nat.div_pos h4 (zbC _)
   rw[Nat.mod_eq_of_lt h5] at h3
   omega
 have hx:=x.lim
 rw[zdT,hD]
 simp only[orcP,txtP,if_true,hw _ (zoB _),Option.bind_some]
 unfold wtx
 have hnz:decide (x.v<0)=true→dig x.v.natAbs≠[]:=fun h=>by
  have h1:x.v<0:=by simpa using h
  intro q
  have h2:=zd3 x.v.natAbs
  rw[q] at h2
  have:=zaZ (v:=x.v.natAbs) (by omega)
  simp at h2;omega
 rw[if_pos ⟨by rw[zd3];exact hx,hg,hnz⟩,znl]
 ·have e:(if decide (x.v<0)=true then-((x.v.natAbs:Nat):Int) else ((x.v.natAbs:Nat):Int))=x.v:=by
   by_cases h:x.v<0
   ·rw[if_pos (by simpa using h)];omega
   ·rw[if_neg (by simpa using h)];omega
  rw[e];rfl
end Go.Eng
namespace Go.Eng
theorem zjP {v n:Nat} (h1:10^n≤v) (h2:v<10^(n+1)):dec v=dtx (n+1) v:=by
 have h0:v≠0:=by have:=Nat.pow_pos (n:=n) (by decide:0<10);omega
 have:dlen v=n+1:=by
  have a:=zam.2 h2
  have b:¬dlen v≤n:=fun q=>by have:=zam.1 q;omega
  omega
 rw[zb6 h0,this]
theorem zie {n:Int} (h:Fits64 n):∃x:WI,x.v=n∧pf E0 34 [.i .i64 n]=some (wiP x):=⟨wiOf n h,rfl,zcl h⟩
end Go.Eng
namespace Go.Eng
def isPP:PV→Bool
 | .p _ _=>true
 | _=>false
@[go_sem] theorem zta (n o:Nat):isPP (.p n o)=true:=_root_.id rfl
def slotIn (E:PEnv) (ops:List XOper) (L:List Nat) (c:Nat×Nat):Bool :=
 match ops[c.1]?,ops[c.2]? with
 | some a,some b =>
  match a.op with
  | .load _ _ (.t s)=>L.contains s&&calmOp E b.op&&(ops.all fun o=>o.dst != some s)
  | _=>false
 | _,_=>false
theorem zaA {E:PEnv} {F:PFin} {ops:List XOper} {chk:List (Nat×Nat)} {ks:List KI} {fr:PFr} {M:PM} (L:List Nat) (hL:chk.all (fun c=>calmC E ops c || slotIn E ops L c)=true) (hp:L.all (fun s=>isPP (fr s))=true) (w:WL E F ops ks fr M) :
  WK E F (.drw ops chk) ks fr M:=by
 refine zdu (fun fr2 Ms hT=>?_) w
 rw[List.all_eq_true] at hL hp ⊢
 rintro⟨i,j⟩ hc
 have h1:=hL _ hc
 simp only[Bool.or_eq_true] at h1
 rcases h1 with h1|h1
 ·exact zcA hT h1
 ·unfold slotIn at h1
  split at h1
  ·rename_i a b ha hb
   split at h1
   ·rename_i z k s hop
    simp only[Bool.and_eq_true] at h1
    obtain⟨⟨c1,c2⟩,c3⟩:=h1
    have hs:=hp s (List.contains_iff_mem.1 c1)
    cases hf:fr s with
    | p n o=>exact zhN hT ha hb hop c2 c3 hf
    | _=>rw[hf] at hs;simp[isPP] at hs
   ·cases h1
  ·cases h1
attribute [go_sem] List.all_cons List.all_nil
def slotIn2 (E:PEnv) (ops:List XOper) (L:List Nat) (c:Nat×Nat):Bool :=
 match ops[c.1]?,ops[c.2]? with
 | some a,some b =>
  match a.op with
  | .load _ _ (.t s)=>L.contains s&&calmOp E b.op
  | _=>false
 | _,_=>false
theorem zcg {E:PEnv} {F:PFin} {ops:List XOper} {chk:List (Nat×Nat)} {ks:List KI} {fr:PFr} {M:PM} (L:List Nat) (hL:chk.all (fun c=>calmC E ops c || slotIn2 E ops L c)=true)
  (hr:WL E ⟨(0::0::L).map XR.tmp,fun w _=>∃l,w=.tu l∧(l.drop 2).all isPP=true⟩ ops [] fr M) (w:WL E F ops ks fr M):WK E F (.drw ops chk) ks fr M:=by
 refine zdu (fun fr2 Ms hT=>?_) w
 have hp:L.all (fun s=>isPP (fr2 s))=true:=by
  obtain⟨lf,q,fr3,M3,vs,e,h1,h2,l,h3,h4⟩:=hr
  simp only[Option.bind_eq_some_iff,unw] at e
  obtain⟨⟨fr4,M4⟩,e1,e2⟩:=e
  simp only[Option.some.injEq,Prod.mk.injEq] at e2
  obtain⟨_,e3,e4⟩:=e2
  rw[←e3,←e4] at h2
  obtain⟨Ms',g1,g2⟩:=zbW e1
  rw[g1] at hT
  cases hT
  have hres:∀(f:PFr) (N:PM) (l:List Nat),pRes f N (l.map XR.tmp)=some (l.map f):=fun f N l=>by
   induction l with
   | nil=>rfl
   | cons a l ih=>simp only[List.map_cons,pRes,pResOne,ih]
  rw[hres] at h2
  cases h2
  simp only[List.map_cons,packP] at h3
  cases h3
  simpa [List.all_map] using h4
 rw[List.all_eq_true] at hL hp ⊢
 rintro⟨i,j⟩ hc
 have h1:=hL _ hc
 simp only[Bool.or_eq_true] at h1
 rcases h1 with h1|h1
 ·exact zcA hT h1
 ·unfold slotIn2 at h1
  split at h1
  ·rename_i a b ha hb
   split at h1
   ·rename_i z k s hop
    simp only[Bool.and_eq_true] at h1
    obtain⟨c1,c2⟩:=h1
    have hs:=hp s (List.contains_iff_mem.1 c1)
    cases hf:fr2 s with
    | p n o =>
     obtain⟨fri,A,B,q1,q2,q3,q4⟩:=zaz hT ha
     obtain⟨frj,C,D,p1,p2,p3,p4⟩:=zaz hT hb
     have p2':Ms[(i,j).2+1]?=some D:=p2
     have q2':Ms[(i,j).1+1]?=some B:=q2
     refine zcp ?_
     simp only[chkP0,ha,q1,q2,p1,p2]
     rw[if_neg (by rw[hop];simp[XO.cls])]
     rw[hop]
     show chkV ops j (.t s) C D (fr2 s)=true
     rw[hf]
     show verP (some n) C D=true
     rcases p3 with⟨_,v,p3⟩|⟨_,p3⟩
     ·cases hopb:b.op with
      | call f l =>
       rw[hopb] at p3 c2
       obtain⟨ns,rfl⟩:=zdN c2 p3
       exact zcM ns C _
      | _=>rw[hopb] at c2;simp[calmOp] at c2
     ·rw[p3];simp[verP]
    | _=>rw[hf] at hs;simp[isPP] at hs
   ·cases h1
  ·cases h1
theorem zao {E:PEnv} {F:PFin} {a b:XC} (hab:a=b) {ks:List KI} {fr:PFr} {M:PM} (w:WK E F b (.loop a::ks) fr M):WK E F (.loop a) ks fr M:=by
 rw[←hab] at w;exact zcw w
def fillC (z:List PV) (off n:Nat) (cs:List PV):Option (List PV):=if cs.length=n∧off+n≤z.length∧cs.all PV.scal=true then some (psplice z off cs) else none
theorem zaE {fr:PFr} (G:Nat→Option (List AV)) (z:List PV) (off n:Nat) (x:X) (ps:List (Nat×Nat×X)):fillP G fr z ((off,(n,x))::ps)=fillB fr G ps (fillC z off n (x.pv G fr).cells):=by
 simp only[fillP]
 unfold fillC
 split<;>rfl
theorem zaj (z:List PV) (off n:Nat) (cs:List PV):fillC z off n cs=if cs.length=n∧off+n≤z.length∧cs.all PV.scal=true then some (psplice z off cs) else none:=rfl
end Go.Eng
namespace Go.Eng
theorem zdb {z:Int} (h:tlen z.natAbs<1230):inR z.natAbs:=(zj1 _).1 (.inl h)
theorem zon {z:Int} (h:inR z.natAbs):wlen z.natAbs≤512:=(zaN _).2 h
end Go.Eng
namespace Go.Eng
def upd {α:Type} (X:Nat→α) (i:Nat) (v:α):Nat→α:=fun e=>if e=i then v else X e
theorem zaI {α:Type} (X:Nat→α) (i:Nat) (v:α):upd X i v i=v:=if_pos rfl
theorem za7 {α:Type} {X:Nat→α} {i:Nat} {v:α} {e:Nat} (h:e≠i):upd X i v e=X e:=if_neg h
def cs (n:Nat) (X:Nat→Int):List PV:=(List.range n).map fun e=>.i .i64 (X e)
def zF:Nat→Int:=fun _=>0
def aI (n:Nat) (X:Nat→Int):PV:=.ag (cs n X)
@[go_sem] theorem zaO (n:Nat) (X:Nat→Int):(cs n X).length=n:=by simp[cs]
theorem zbv {n:Nat} (X:Nat→Int) {i:Nat} (h:i<n):(cs n X)[i]?=some (.i .i64 (X i)):=by simp[cs,h]
theorem znU {n:Nat} (X:Nat→Int) {i:Nat} (h:i<(cs n X).length):(cs n X)[i]=.i .i64 (X i):=by simp[cs]
theorem zge {n:Nat} {X Y:Nat→Int} (h:∀e,e<n→X e=Y e):cs n X=cs n Y:=by
 unfold cs
 exact List.map_congr_left fun e he=>by rw[h e (List.mem_range.1 he)]
theorem zhK {n:Nat} {X Y:Nat→Int} (h:∀e,e<n→X e=Y e):aI n X=aI n Y:=by unfold aI;rw[zge h]
@[go_sem] theorem zsX (n:Nat) (X:Nat→Int) (i:Nat) (v:Int):(cs n X).set i (.i .i64 v)=cs n (upd X i v):=by
 refine List.ext_getElem (by simp[cs]) fun k h1 h2=>?_
 rw[znU,List.getElem_set]
 split
 ·rename_i q;subst q;rw[zaI]
 ·rename_i q;rw[znU,za7 (fun z=>q z.symm)]
theorem zc8 {n:Nat} (X:Nat→Int) {off k:Nat} (h:off+k≤n):((cs n X).drop off).take k=cs k (fun e=>X (off+e)):=by
 refine List.ext_getElem (by simp[cs];omega) fun j h1 h2=>?_
 simp[cs]
theorem znV {n:Nat} (X:Nat→Int) {i:Nat} (h:i<n):((cs n X).drop i).take 1=[.i .i64 (X i)]:=by
 rw[zc8 X (show i+1≤n by omega)];rfl
theorem zes (n:Nat) (l:List PV) (Y:Nat→Int) (h:l.length=n):psplice l 0 (cs n Y)=cs n Y:=by
 unfold psplice
 rw[zaO,List.take_zero,List.drop_eq_nil_of_le (by omega),List.nil_append,List.append_nil]
@[go_sem] theorem zqY (n:Nat) (X Y:Nat→Int):psplice (cs n X) 0 (cs n Y)=cs n Y:=zes n _ Y (zaO n X)
@[go_sem] theorem zqZ (n:Nat) (X:Nat→Int):(cs n X).take n=cs n X:=List.take_of_length_le (by rw[zaO];exact Nat.le_refl _)
@[go_sem] theorem zsx (a0 a1 a2 a3 a4 a5 a6 a7 a8 a9 a10 a11 a12 a13 a14 a15 a16 a17 a18 a19:PV) (Y:Nat→Int):psplice [a0,a1,a2,a3,a4,a5,a6,a7,a8,a9,a10,a11,a12,a13,a14,a15,a16,a17,a18,a19] 0 (cs 20 Y)=cs 20 Y:=zes 20 _ Y rfl
@[go_sem] theorem zqX (n:Nat) (X:Nat→Int):(cs n X).all PV.scal=true:=by
 rw[List.all_eq_true]
 intro x hx
 obtain⟨e,_,rfl⟩:=List.mem_map.1 hx
 rfl
@[go_sem] theorem zqW (M:PM) (d n:Nat) (X:Nat→Int):fzL (fz M (d+1)) (cs n X)=some (cs n X,[]):=zgr M d _ (fun _=>rfl) _
@[go_sem] theorem zuu (M:PM) (d n:Nat) (X:Nat→Int):fz M (d+1+1) (aI n X)=some (aI n X,[]):=by unfold aI;rw[zre,zqW,zj4]
@[go_sem] theorem zpS (n:Nat) (X:Nat→Int):(aI n X).cells=cs n X:=_root_.id rfl
@[go_sem] theorem zqA (n:Nat) (X:Nat→Int):PV.ag (cs n X)=aI n X:=_root_.id rfl
theorem zeX {n:Nat} (X:Nat→Int) {j:Nat} (h:j<n):iagP n false 1 (aI n X) (some j)=some (.i .i64 (X j)):=by
 unfold aI
 rw[zdF,if_pos ⟨h,by rw[zaO];omega⟩,Nat.mul_one,znV X h];rfl
theorem zk0 (n:Nat) (X Y:Nat→Int):eqCellsP (List.replicate n 1) (cs n X) (cs n Y)=some (decide (∀e,e<n→X e=Y e)):=by
 have key:∀(l:List Nat),eqCellsP (List.replicate l.length 1) (l.map fun e=>PV.i .i64 (X e)) (l.map fun e=>PV.i .i64 (Y e))=some (decide (∀e∈l,X e=Y e)):=fun l=>by
  induction l with
  | nil=>simp[eqCellsP]
  | cons a l ih =>
   rw[List.length_cons,List.replicate_succ,List.map_cons,List.map_cons]
   simp only[eqCellsP,eqCellP,ih]
   have q:(X a==Y a)=decide (X a=Y a):=by rw[Bool.eq_iff_iff];simp
   simp[q]
 have:=key (List.range n)
 rw[List.length_range] at this
 simpa [cs] using this
noncomputable def cw (n:Nat) (w:Nat→WI):List PV:=(List.range n).flatMap fun e=>[.b (decide ((w e).v<0)),D (w e).v.natAbs]
theorem zhU (n:Nat) (w:Nat→WI):cw (n+1) w=cw n w++[.b (decide ((w n).v<0)),D (w n).v.natAbs]:=by
 unfold cw
 rw[List.range_succ,List.flatMap_append];rfl
@[go_sem] theorem ze3 (n:Nat) (w:Nat→WI):(cw n w).length=2*n:=by
 induction n with
 | zero=>rfl
 | succ n ih=>rw[zhU,List.length_append,ih];rfl
theorem znW {n:Nat} (w:Nat→WI) {i:Nat} (h:i<n):((cw n w).drop (i*2)).take 2=[.b (decide ((w i).v<0)),D (w i).v.natAbs]:=by
 induction n with
 | zero=>omega
 | succ n ih =>
  rw[zhU]
  rcases Nat.lt_or_ge i n with q|q
  ·rw[List.drop_append_of_le_length (by rw[ze3];omega),List.take_append_of_le_length (by rw[List.length_drop,ze3];omega),ih q]
  ·obtain rfl:i=n:=by omega
   rw[List.drop_append,List.drop_eq_nil_of_le (by rw[ze3];omega),ze3,List.nil_append,show i*2-2*i=0 by omega];rfl
theorem zkZ (n:Nat) (X:Nat→Int):eqCellsP (List.replicate n 1) (cs n X) (cs n X)=some true:=by rw[zk0];simp
end Go.Eng
namespace Go.Eng
def gI (p q:Int):Int:=((Nat.gcd p.natAbs q.natAbs:Nat):Int)
def lowP (p q:Int):Int:=(if q<0 then-p else p)/gI p q
def lowQ (p q:Int):Int:=(if q<0 then-q else q)/gI p q
theorem zfb {p q:Int} (h:q≠0):gI p q≠0:=by
 unfold gI
 intro e
 have:Nat.gcd p.natAbs q.natAbs=0:=by omega
 have:=Nat.eq_zero_of_gcd_eq_zero_right this
 omega
theorem zc9 {p q:Int} (h:q≠0):0<gI p q:=by
 have:=zfb (p:=p) h
 unfold gI at *
 omega
theorem zbO (p q:Int):gI p q∣p:=Int.ofNat_dvd_left.2 (Nat.gcd_dvd_left _ _)
theorem zb8 (p q:Int):gI p q∣q:=Int.ofNat_dvd_left.2 (Nat.gcd_dvd_right _ _)
theorem zld (p q:Int):gI (-p) (-q)=gI p q:=by unfold gI;rw[Int.natAbs_neg,Int.natAbs_neg]
theorem zdH {p q:Int} (h:q≠0):lowP p q*gI p q=(if q<0 then-p else p)∧lowQ p q*gI p q=(if q<0 then-q else q):=by
 unfold lowP lowQ
 refine⟨Int.ediv_mul_cancel ?_,Int.ediv_mul_cancel ?_⟩
 ·split
  ·exact Int.dvd_neg.2 (zbO p q)
  ·exact zbO p q
 ·split
  ·exact Int.dvd_neg.2 (zb8 p q)
  ·exact zb8 p q
theorem zfU {p q:Int} (h:q≠0):0<lowQ p q:=by
 have h1:=(zdH (p:=p) h).2
 have h2:=zc9 (p:=p) h
 have h3:0<lowQ p q*gI p q:=by rw[h1];split<;>omega
 exact Int.pos_of_mul_pos_left h3 h2
theorem zfe {p q:Int} (h:q≠0):lowP p q*q=p*lowQ p q:=by
 obtain⟨h1,h2⟩:=zdH (p:=p) h
 have h3:=zfb (p:=p) h
 apply Int.eq_of_mul_eq_mul_right h3
 rw[Int.mul_right_comm,h1,Int.mul_assoc,h2]
 split<;>grind
theorem zfT {p q:Int} (h:q≠0):Nat.gcd (lowP p q).natAbs (lowQ p q).natAbs=1:=by
 obtain⟨h1,h2⟩:=zdH (p:=p) h
 have h3:=zc9 (p:=p) h
 have e1:(lowP p q).natAbs*(gI p q).natAbs=p.natAbs:=by rw[←Int.natAbs_mul,h1];split<;>omega
 have e2:(lowQ p q).natAbs*(gI p q).natAbs=q.natAbs:=by rw[←Int.natAbs_mul,h2];split<;>omega
 have e3:(gI p q).natAbs=Nat.gcd p.natAbs q.natAbs:=Int.natAbs_natCast _
 have e4:=Nat.gcd_mul_right (lowP p q).natAbs (gI p q).natAbs (lowQ p q).natAbs
 rw[e1,e2,←e3] at e4
 have:0<(gI p q).natAbs:=by omega
 exact Nat.eq_of_mul_eq_mul_right this (by rw[Nat.one_mul];exact e4.symm)
theorem zdq {p q r s:Int} (hq:0<q) (hs:0<s) (c1:Nat.gcd p.natAbs q.natAbs=1) (c2:Nat.gcd r.natAbs s.natAbs=1) (h:p*s=r*q):p=r∧q=s:=by
 have n1:p.natAbs*s.natAbs=r.natAbs*q.natAbs:=by rw[←Int.natAbs_mul,←Int.natAbs_mul,h]
 have d1:q.natAbs∣s.natAbs:=by
  have:q.natAbs∣p.natAbs*s.natAbs:=⟨r.natAbs,by rw[n1,Nat.mul_comm]⟩
  exact(Nat.Coprime.dvd_of_dvd_mul_left (by rw[Nat.coprime_comm];exact c1) this)
 have d2:s.natAbs∣q.natAbs:=by
  have:s.natAbs∣r.natAbs*q.natAbs:=⟨p.natAbs,by rw[←n1,Nat.mul_comm]⟩
  exact(Nat.Coprime.dvd_of_dvd_mul_left (by rw[Nat.coprime_comm];exact c2) this)
 have e:q.natAbs=s.natAbs:=Nat.dvd_antisymm d1 d2
 have e2:q=s:=by omega
 subst e2
 exact⟨Int.eq_of_mul_eq_mul_right (by omega) h,rfl⟩
theorem zeF {p q:Int} (hq:0<q) (c:Nat.gcd p.natAbs q.natAbs=1):lowP p q=p∧lowQ p q=q:=by
 unfold lowP lowQ gI
 rw[c,if_neg (by omega),if_neg (by omega)]
 exact⟨Int.ediv_one _,Int.ediv_one _⟩
theorem zfR {p q:Int} (h:q≠0):(lowP p q).natAbs≤p.natAbs:=by
 have h1:=(zdH (p:=p) h).1
 have h3:=zc9 (p:=p) h
 have e1:(lowP p q).natAbs*(gI p q).natAbs=p.natAbs:=by rw[←Int.natAbs_mul,h1];split<;>omega
 rw[←e1]
 exact Nat.le_mul_of_pos_right _ (by omega)
theorem zfS {p q:Int} (h:q≠0):(lowQ p q).natAbs≤q.natAbs:=by
 have h1:=(zdH (p:=p) h).2
 have h3:=zc9 (p:=p) h
 have e1:(lowQ p q).natAbs*(gI p q).natAbs=q.natAbs:=by rw[←Int.natAbs_mul,h1];split<;>omega
 rw[←e1]
 exact Nat.le_mul_of_pos_right _ (by omega)
end Go.Eng
namespace Go.Eng
structure FQ where
 p:WI
 q:WI
 q1:1≤q.v
 cop:Nat.gcd p.v.natAbs q.v.natAbs=1
theorem zjA {y:WI} (hy:1≤y.v):wlen (y.v-1).natAbs≤512:=by
 have h:=(zaN _).1 y.lim
 refine(zaN _).2 ?_
 unfold inR at *
 exact Nat.lt_of_le_of_lt (by omega) h
def FQ.l (f:FQ):WI:=⟨f.q.v-1,zjA f.q1⟩
noncomputable def fqP (f:FQ):PV:=.ag [.b (decide (f.p.v<0)),D f.p.v.natAbs,.b (decide (f.l.v<0)),D f.l.v.natAbs]
@[go_sem] theorem zs5 (M:PM) (d:Nat) (f:FQ):fz M (d+1+1) (fqP f)=some (fqP f,[]):=_root_.id rfl
@[go_sem] theorem znK (f:FQ):(fqP f).cells=[.b (decide (f.p.v<0)),D f.p.v.natAbs,.b (decide (f.l.v<0)),D f.l.v.natAbs]:=_root_.id rfl
@[go_sem] theorem zq6 (f:FQ):PV.ag [.b (decide (f.p.v<0)),D f.p.v.natAbs,.b (decide (f.l.v<0)),D f.l.v.natAbs]=fqP f:=_root_.id rfl
theorem zll (x:WI) (e:Int):pf E0 37 [wiP x,.i .i64 e]=some (wiP x):=by
 refine zab (xf:=zwr) rfl (by simp[zwr]) ?_
 simp only[zwr]
 simp(disch:=omega)only[go_sem,seval,wqq]
theorem zde (x g:WI) (h:g.v≠0):∃q:WI,q.v=x.v/g.v∧pf E0 21 [wiP x,wiP g]=some (wiP q):=by
 have fd:=zkp x g h
 refine⟨x.div g h,rfl,?_⟩
 refine zab (xf:=zwo) rfl (by simp[zwo]) ?_
 simp only[zwo]
 simp(disch:=omega)only[go_sem,seval,wqq,fd]
noncomputable def wi1:WI:=wiOf 1 (by decide)
theorem zpP:wi1.v=1:=rfl
theorem zcK (x y:WI):pf E0 20 [.lst [wiP x,wiP y]]=some (.tu [wiP (clip (x.v*y.v)),.i .i64 (lerr (x.v*y.v))]):=by
 refine zab (xf:=zwf) rfl (by simp[zwf]) ?_
 simp only[zwf]
 have f1:pf E0 34 [.i .i64 1]=some (wiP wi1):=zcl (n:=1) (by decide)
 have m1:pf E0 38 [wiP wi1,wiP x]=some (.tu [wiP x,.i .i64 0]):=by
  have h:=zht wi1 x
  rw[zpP,Int.one_mul,zcW x.lim,zbn x.lim] at h
  exact h
 have m2:=zht x y
 generalize wi1=w1 at *
 simp(disch:=omega)only[go_sem,seval,wqq,f1]
 refine zao zwb.eq_1 ?_
 simp(disch:=omega)only[go_sem,seval,wqq,m1]
 refine zao zwb.eq_1 ?_
 by_cases h:wlen (x.v*y.v).natAbs≤512
 ·have e:=zcW h
  rw[e] at m2 ⊢
  simp(disch:=omega)only[go_sem,seval,wqq,m2]
  refine zao zwb.eq_1 ?_
  simp(disch:=omega)only[go_sem,seval,wqq,m2]
 ·have e:=zeD h
  have e2:=zeq h
  rw[e,e2] at m2 ⊢
  simp(disch:=omega)only[go_sem,seval,wqq,m2]
theorem zl6:Nat.gcd wi0.v.natAbs wi1.v.natAbs=1:=by decide
noncomputable def fq0:FQ:=⟨wi0,wi1,by decide,zl6⟩
theorem zl7:fqP fq0=.ag [.b false,.lst [],.b false,.lst []]:=by
 have h1:D (0:Int).natAbs=.lst []:=znv.symm
 show PV.ag [.b (decide ((0:Int)<0)),D (0:Int).natAbs,.b (decide ((1:Int)-1<0)),D ((1:Int)-1).natAbs]=_
 rw[show (1:Int)-1=0 by decide,h1];rfl
theorem zgN (x y:WI) (hy:1≤y.v) (hc:Nat.gcd x.v.natAbs y.v.natAbs=1):pf E0 22 [wiP x,wiP y,.i .i64 0,.i .i64 0]=some (.tu [fqP ⟨x,y,hy,hc⟩,.i .i64 0]):=by
 refine zab (xf:=zvx) rfl (by simp[zvx]) ?_
 simp only[zvx]
 have f1:pf E0 34 [.i .i64 1]=some (wiP wi1):=zcl (n:=1) (by decide)
 have s1:=zoY y wi1
 rw[zpP] at s1
 have m1:=zll (clip (y.v-1)) (lerr (y.v-1))
 have cv:=zgc (zjA hy)
 generalize lerr (y.v-1)=le at *
 generalize wi1=w1 at *
 have hq:fqP ⟨x,y,hy,hc⟩=.ag [.b (decide (x.v<0)),D x.v.natAbs,.b (decide ((clip (y.v-1)).v<0)),D (clip (y.v-1)).v.natAbs]:=by rw[cv];rfl
 rw[hq]
 generalize clip (y.v-1)=z at *
 simp(disch:=omega)only[go_sem,seval,wqq]
 refine zaA [4,5] rfl (by simp only[go_sem,seval]) ?_
 simp(disch:=omega)only[go_sem,seval,wqq,f1,s1,m1,zaE,zaj]
theorem ziV (x y:WI) {e f:Int} (h:e≠0∨f≠0):pf E0 22 [wiP x,wiP y,.i .i64 e,.i .i64 f]=some (.tu [fqP fq0,.i .i64 4]):=by
 refine zab (xf:=zvx) rfl (by simp[zvx]) ?_
 simp only[zvx]
 rw[zl7]
 by_cases he:e=0
 ·have hf:(f=0)=False:=by simp;rcases h with h|h<;>first|exact h|exact absurd he h
  have he:(e=0)=True:=by simp[he]
  simp(disch:=omega)only[go_sem,seval,wqq,he,hf]
 ·have he:(e=0)=False:=by simp[he]
  simp(disch:=omega)only[go_sem,seval,wqq,he]
theorem ziQ (x y g:WI) (hg:g.v=gI x.v y.v) (hy:0<y.v):∃f:FQ,f.p.v=lowP x.v y.v∧f.q.v=lowQ x.v y.v∧∃a b:WI,pf E0 21 [wiP x,wiP g]=some (wiP a)∧pf E0 21 [wiP y,wiP g]=some (wiP b)∧pf E0 22 [wiP a,wiP b,.i .i64 0,.i .i64 0]=some (.tu [fqP f,.i .i64 0]):=by
 have gn:g.v≠0:=by rw[hg];exact zfb (by omega)
 obtain⟨a,ha,fa⟩:=zde x g gn
 obtain⟨b,hb,fb⟩:=zde y g gn
 have e1:a.v=lowP x.v y.v:=by rw[ha,hg];unfold lowP;rw[if_neg (by omega)]
 have e2:b.v=lowQ x.v y.v:=by rw[hb,hg];unfold lowQ;rw[if_neg (by omega)]
 have hq:1≤b.v:=by rw[e2];exact zfU (by omega)
 have hc:Nat.gcd a.v.natAbs b.v.natAbs=1:=by rw[e1,e2];exact zfT (by omega)
 exact⟨⟨a,b,hq,hc⟩,e1,e2,a,b,fa,fb,zgN a b hq hc⟩
theorem zd8 (p q:Int) (h:q<0):lowP (-p) (-q)=lowP p q∧lowQ (-p) (-q)=lowQ p q:=by
 have h2:¬ -q<0:=by omega
 unfold lowP lowQ
 rw[zld]
 simp only[h,h2,if_true,if_false,and_self]
theorem ziP (x y:WI) (h:y.v≠0):∃f:FQ,f.p.v=lowP x.v y.v∧f.q.v=lowQ x.v y.v∧pf E0 24 [wiP x,wiP y]=some (.tu [fqP f,.i .i64 0]):=by
 by_cases hn:y.v<0
 ·have hg:=zhs x.neg y.neg
  obtain⟨f,h1,h2,a,b,fa,fb,fl⟩:=ziQ x.neg y.neg (x.neg.gcd y.neg) rfl (by show 0 < -y.v;omega)
  obtain⟨l1,l2⟩:=zd8 x.v y.v hn
  refine⟨f,h1.trans l1,h2.trans l2,?_⟩
  generalize x.neg.gcd y.neg=g at *
  refine zab (xf:=zvJ) rfl (by simp[zvJ]) ?_
  simp only[zvJ]
  have sy:=zdc y
  have sc:cmpI y.v 0 = -1:=by unfold cmpI;rw[if_pos hn]
  rw[sc] at sy
  have n1:=zkq x
  have n2:=zkq y
  generalize x.neg=xn at *
  generalize y.neg=yn at *
  simp(disch:=omega)only[go_sem,seval,wqq,sy]
  refine zaA [3] rfl (by simp only[go_sem,seval]) ?_
  simp(disch:=omega)only[go_sem,seval,wqq,n1,n2,hg]
  refine zaA [3,6] rfl (by simp only[go_sem,seval]) ?_
  simp(disch:=omega)only[go_sem,seval,wqq,fa,fb,fl]
 ·have hg:=zhs x y
  obtain⟨f,h1,h2,a,b,fa,fb,fl⟩:=ziQ x y (x.gcd y) rfl (by omega)
  refine⟨f,h1,h2,?_⟩
  generalize x.gcd y=g at *
  refine zab (xf:=zvJ) rfl (by simp[zvJ]) ?_
  simp only[zvJ]
  have sy:=zdc y
  have sc:cmpI y.v 0=1:=by unfold cmpI;rw[if_neg hn,if_pos (by omega)]
  rw[sc] at sy
  simp(disch:=omega)only[go_sem,seval,wqq,sy,hg]
  refine zaA [3,6] rfl (by simp only[go_sem,seval]) ?_
  simp(disch:=omega)only[go_sem,seval,wqq,fa,fb,fl]
end Go.Eng
namespace Go.Eng
theorem zo1 (f:FQ):pf E0 64 [fqP f]=some (wiP f.p):=by
 refine zab (xf:=zvq) rfl (by simp[zvq]) ?_
 simp only[zvq]
 simp(disch:=omega)only[go_sem,seval,wqq]
theorem zdd (f:FQ):pf E0 19 [fqP f]=some (wiP f.q):=by
 refine zab (xf:=zvp) rfl (by simp[zvp]) ?_
 simp only[zvp]
 have f1:pf E0 34 [.i .i64 1]=some (wiP wi1):=zcl (n:=1) (by decide)
 have s1:=zkn f.l wi1
 have e:f.l.v+wi1.v=f.q.v:=by show f.q.v-1+1=f.q.v;omega
 have hc:clip f.q.v=f.q:=zbn f.q.lim
 rw[e,hc] at s1
 have m1:=zll f.q (lerr f.q.v)
 generalize lerr f.q.v=le at *
 generalize wi1=w1 at *
 simp(disch:=omega)only[go_sem,seval,wqq]
 refine zcg [3] rfl ?_ ?_
 ·simp(disch:=omega)only[go_sem,seval,wqq,f1,s1,m1]
  exact⟨_,rfl,rfl⟩
 simp(disch:=omega)only[go_sem,seval,wqq,f1,s1,m1]
theorem zmK {p q:Int} (hp:Fits64 p) (hq:Fits64 q) (h:q≠0):∃f:FQ,f.p.v=lowP p q∧f.q.v=lowQ p q∧pf E0 17 [.i .i64 p,.i .i64 q]=some (.tu [fqP f,.i .i64 0]):=by
 obtain⟨x,hx,fx⟩:=zie hp
 obtain⟨y,hy,fy⟩:=zie hq
 obtain⟨f,h1,h2,fm⟩:=ziP x y (by rw[hy];exact h)
 rw[hx,hy] at h1 h2
 refine⟨f,h1,h2,?_⟩
 refine zab (xf:=zw4) rfl (by simp[zw4]) ?_
 simp only[zw4]
 simp(disch:=omega)only[go_sem,seval,wqq,fx,fy,fm]
theorem zma (x y:WI):(x.gcd y).v=gI x.v y.v:=rfl
@[go_sem] theorem zrh (x y:WI):group 2 2 [.b (decide (x.v<0)),Dw (wlen x.v.natAbs) x.v.natAbs,.b (decide (y.v<0)),Dw (wlen y.v.natAbs) y.v.natAbs]=[wiP x,wiP y]:=_root_.id rfl
theorem ziS (a b:FQ) {g s t cx cy cs cd:WI} {ex ey es ed:Int} (hg:pf E0 18 [wiP a.q,wiP b.q]=some (wiP g)) (fs:pf E0 21 [wiP b.q,wiP g]=some (wiP s)) (ft:pf E0 21 [wiP a.q,wiP g]=some (wiP t))
  (nx:pf E0 20 [.lst [wiP a.p,wiP s]]=some (.tu [wiP cx,.i .i64 ex])) (ny:pf E0 20 [.lst [wiP b.p,wiP t]]=some (.tu [wiP cy,.i .i64 ey])) (ns:pf E0 23 [wiP cx,wiP cy]=some (.tu [wiP cs,.i .i64 es]))
  (nd:pf E0 20 [.lst [wiP t,wiP b.q]]=some (.tu [wiP cd,.i .i64 ed])) (f:FQ) (e:Int)
  (hR:(ex=0∧ey=0∧es=0∧ed=0∧pf E0 24 [wiP cs,wiP cd]=some (.tu [fqP f,.i .i64 e]))∨(¬(ex=0∧ey=0∧es=0∧ed=0)∧f=fq0∧e=4)) :
  pf E0 9 [fqP a,fqP b]=some (.tu [fqP f,.i .i64 e]):=by
 have da:=zdd a
 have db:=zdd b
 refine zab (xf:=zwL) rfl (by simp[zwL]) ?_
 simp only[zwL]
 simp(disch:=omega)only[go_sem,seval,wqq]
 refine zaA [3] rfl (by simp only[go_sem,seval]) ?_
 simp(disch:=omega)only[go_sem,seval,wqq,da,db,hg]
 refine zcg [21,6] rfl ?_ ?_
 ·simp(disch:=omega)only[go_sem,seval,wqq,db,fs,nx,zaE,zaj]
  exact⟨_,rfl,rfl⟩
 simp(disch:=omega)only[go_sem,seval,wqq,db,fs,nx,zaE,zaj]
 refine zcg [32,6] rfl ?_ ?_
 ·simp(disch:=omega)only[go_sem,seval,wqq,da,ft,ny,zaE,zaj]
  exact⟨_,rfl,rfl⟩
 simp(disch:=omega)only[go_sem,seval,wqq,da,ft,ny,ns,zaE,zaj]
 refine zaA [6,3] rfl (by simp only[go_sem,seval]) ?_
 rcases hR with⟨h1,h2,h3,h4,hM⟩|⟨hn,hf,he⟩
 ·subst h1 h2 h3 h4
  simp(disch:=omega)only[go_sem,seval,wqq,da,db,ft,nd,hM,zaE,zaj]
 ·subst hf he
  rw[zl7]
  by_cases h1:ex=0
  ·by_cases h2:ey=0
   ·by_cases h3:es=0
    ·have h4:(ed=0)=False:=by simp;exact fun q=>hn ⟨h1,h2,h3,q⟩
     subst h1 h2 h3
     simp(disch:=omega)only[go_sem,seval,wqq,da,db,ft,nd,h4,zaE,zaj]
    ·have h3:(es=0)=False:=by simp[h3]
     subst h1 h2
     simp(disch:=omega)only[go_sem,seval,wqq,da,db,ft,nd,h3,zaE,zaj]
   ·have h2:(ey=0)=False:=by simp[h2]
    subst h1
    simp(disch:=omega)only[go_sem,seval,wqq,da,db,ft,nd,h2,zaE,zaj]
  ·have h1:(ex=0)=False:=by simp[h1]
   simp(disch:=omega)only[go_sem,seval,wqq,da,db,ft,nd,h1,zaE,zaj]
def adX (a b:FQ):Int:=a.p.v*(b.q.v/gI a.q.v b.q.v)
def adY (a b:FQ):Int:=b.p.v*(a.q.v/gI a.q.v b.q.v)
def adD (a b:FQ):Int:=a.q.v/gI a.q.v b.q.v*b.q.v
def adOk (a b:FQ):Prop:=inR (adX a b).natAbs∧inR (adY a b).natAbs∧inR (adX a b+adY a b).natAbs∧inR (adD a b).natAbs
theorem zf9 (a b:FQ):adD a b≠0:=by
 have ha:=a.q1
 have hb:=b.q1
 have h1:a.q.v/gI a.q.v b.q.v*gI a.q.v b.q.v=a.q.v:=Int.ediv_mul_cancel (zbO _ _)
 have h2:a.q.v/gI a.q.v b.q.v≠0:=fun q=>by rw[q] at h1;omega
 exact Int.mul_ne_zero h2 (by omega)
theorem zdG {z:Int} (h:inR z.natAbs):(clip z).v=z∧lerr z=0:=⟨zgc ((zaN _).2 h),zcW ((zaN _).2 h)⟩
theorem zfQ {z:Int} (h:lerr z=0):inR z.natAbs:=by
 by_cases q:wlen z.natAbs≤512
 ·exact(zaN _).1 q
 ·rw[zeD q] at h;cases h
theorem zgL (a b:FQ):(adOk a b→∃f:FQ,f.p.v=lowP (adX a b+adY a b) (adD a b)∧f.q.v=lowQ (adX a b+adY a b) (adD a b)∧pf E0 9 [fqP a,fqP b]=some (.tu [fqP f,.i .i64 0])) ∧
  (¬adOk a b→pf E0 9 [fqP a,fqP b]=some (.tu [fqP fq0,.i .i64 4])):=by
 have hg:=zhs a.q b.q
 have gv:=zma a.q b.q
 have gn:(a.q.gcd b.q).v≠0:=by rw[gv];exact zfb (by have:=b.q1;omega)
 obtain⟨s,hs,fs⟩:=zde b.q (a.q.gcd b.q) gn
 obtain⟨t,ht,ft⟩:=zde a.q (a.q.gcd b.q) gn
 rw[gv] at hs ht
 have nx:=zcK a.p s
 have ny:=zcK b.p t
 have nd:=zcK t b.q
 have eX:a.p.v*s.v=adX a b:=by rw[hs];rfl
 have eY:b.p.v*t.v=adY a b:=by rw[ht];rfl
 have eD:t.v*b.q.v=adD a b:=by rw[ht];rfl
 rw[eX] at nx
 rw[eY] at ny
 rw[eD] at nd
 have ns:=zkn (clip (adX a b)) (clip (adY a b))
 constructor
 ·rintro⟨r1,r2,r3,r4⟩
  obtain⟨c1,l1⟩:=zdG r1
  obtain⟨c2,l2⟩:=zdG r2
  obtain⟨c3,l3⟩:=zdG r3
  obtain⟨c4,l4⟩:=zdG r4
  rw[c1,c2] at ns
  obtain⟨f,h1,h2,fm⟩:=ziP (clip (adX a b+adY a b)) (clip (adD a b)) (by rw[c4];exact zf9 a b)
  rw[c3,c4] at h1 h2
  exact⟨f,h1,h2,ziS a b hg fs ft nx ny ns nd f 0 (.inl ⟨l1,l2,l3,l4,fm⟩)⟩
 ·intro hn
  refine ziS a b hg fs ft nx ny ns nd fq0 4 (.inr ⟨fun ⟨l1,l2,l3,l4⟩=>hn ?_,rfl,rfl⟩)
  have r1:=zfQ l1
  have r2:=zfQ l2
  rw[(zdG r1).1,(zdG r2).1] at l3
  exact⟨r1,r2,zfQ l3,zfQ l4⟩
end Go.Eng
namespace Go.Eng
def FQ.neg (f:FQ):FQ:=⟨f.p.neg,f.q,f.q1,by show Nat.gcd (-f.p.v).natAbs f.q.v.natAbs=1;rw[Int.natAbs_neg];exact f.cop⟩
theorem ziT (a b:FQ) {g h u v w z cp cq:WI} {ep eq:Int} (f:FQ) (e:Int) (hg:pf E0 18 [wiP a.p,wiP b.q]=some (wiP g)) (hh:pf E0 18 [wiP b.p,wiP a.q]=some (wiP h))
  (fu:pf E0 21 [wiP a.p,wiP g]=some (wiP u)) (fv:pf E0 21 [wiP b.p,wiP h]=some (wiP v)) (n1:pf E0 20 [.lst [wiP u,wiP v]]=some (.tu [wiP cp,.i .i64 ep]))
  (fw:pf E0 21 [wiP a.q,wiP h]=some (wiP w)) (fz':pf E0 21 [wiP b.q,wiP g]=some (wiP z)) (n2:pf E0 20 [.lst [wiP w,wiP z]]=some (.tu [wiP cq,.i .i64 eq]))
  (fl:pf E0 22 [wiP cp,wiP cq,.i .i64 ep,.i .i64 eq]=some (.tu [fqP f,.i .i64 e])):pf E0 8 [fqP a,fqP b]=some (.tu [fqP f,.i .i64 e]):=by
 have da:=zdd a
 have db:=zdd b
 refine zab (xf:=zwP) rfl (by simp[zwP]) ?_
 simp only[zwP]
 simp(disch:=omega)only[go_sem,seval,wqq]
 refine zcg [12,17,2] rfl ?_ ?_
 ·simp(disch:=omega)only[go_sem,seval,wqq,da,db,hg,hh]
  exact⟨_,rfl,rfl⟩
 simp(disch:=omega)only[go_sem,seval,wqq,da,db,hg,hh]
 refine zcg [27,7] rfl ?_ ?_
 ·simp(disch:=omega)only[go_sem,seval,wqq,fu,fv,n1,zaE,zaj]
  exact⟨_,rfl,rfl⟩
 simp(disch:=omega)only[go_sem,seval,wqq,fu,fv,n1,zaE,zaj]
 refine zaA [7,3,6] rfl (by simp only[go_sem,seval]) ?_
 simp(disch:=omega)only[go_sem,seval,wqq,da,db,fw,fz',n2,fl,zaE,zaj]
end Go.Eng
namespace Go.Eng
theorem zh1 {p s:Int} (hs:s≠0):Nat.Coprime (p/gI p s).natAbs (s/gI p s).natAbs:=by
 have g:=zc9 (p:=p) hs
 have e1:(p/gI p s).natAbs*(gI p s).natAbs=p.natAbs:=by rw[←Int.natAbs_mul,Int.ediv_mul_cancel (zbO p s)]
 have e2:(s/gI p s).natAbs*(gI p s).natAbs=s.natAbs:=by rw[←Int.natAbs_mul,Int.ediv_mul_cancel (zb8 p s)]
 have e3:(gI p s).natAbs=Nat.gcd p.natAbs s.natAbs:=Int.natAbs_natCast _
 have e4:=Nat.gcd_mul_right (p/gI p s).natAbs (gI p s).natAbs (s/gI p s).natAbs
 rw[e1,e2,←e3] at e4
 have:0<(gI p s).natAbs:=by omega
 exact Nat.eq_of_mul_eq_mul_right this (by rw[Nat.one_mul];exact e4.symm)
theorem zml {p q r s:Int} (hq:0<q) (hs:0<s) (c1:Nat.gcd p.natAbs q.natAbs=1) (c2:Nat.gcd r.natAbs s.natAbs=1) :
  p/gI p s*(r/gI r q)=lowP (p*r) (q*s)∧q/gI r q*(s/gI p s)=lowQ (p*r) (q*s)∧0<q/gI r q*(s/gI p s)∧Nat.gcd (p/gI p s*(r/gI r q)).natAbs (q/gI r q*(s/gI p s)).natAbs=1:=by
 have g1:=zc9 (p:=p) (q:=s) (by omega)
 have g2:=zc9 (p:=r) (q:=q) (by omega)
 have k1:=zh1 (p:=p) (s:=s) (by omega)
 have k2:=zh1 (p:=r) (s:=q) (by omega)
 have a1:p/gI p s*gI p s=p:=Int.ediv_mul_cancel (zbO p s)
 have a2:s/gI p s*gI p s=s:=Int.ediv_mul_cancel (zb8 p s)
 have a3:r/gI r q*gI r q=r:=Int.ediv_mul_cancel (zbO r q)
 have a4:q/gI r q*gI r q=q:=Int.ediv_mul_cancel (zb8 r q)
 generalize gI p s=g at *
 generalize gI r q=h at *
 generalize p/g=u at *
 generalize s/g=z at *
 generalize r/h=v at *
 generalize q/h=w at *
 have z0:0<z:=Int.pos_of_mul_pos_left (by rw[a2];exact hs) g1
 have w0:0<w:=Int.pos_of_mul_pos_left (by rw[a4];exact hq) g2
 have du:u.natAbs∣p.natAbs:=Int.natAbs_dvd_natAbs.2 ⟨g,a1.symm⟩
 have dw:w.natAbs∣q.natAbs:=Int.natAbs_dvd_natAbs.2 ⟨h,a4.symm⟩
 have dv:v.natAbs∣r.natAbs:=Int.natAbs_dvd_natAbs.2 ⟨h,a3.symm⟩
 have dz:z.natAbs∣s.natAbs:=Int.natAbs_dvd_natAbs.2 ⟨g,a2.symm⟩
 have k3:Nat.Coprime u.natAbs w.natAbs:=Nat.Coprime.coprime_dvd_left du (Nat.Coprime.coprime_dvd_right dw c1)
 have k4:Nat.Coprime v.natAbs z.natAbs:=Nat.Coprime.coprime_dvd_left dv (Nat.Coprime.coprime_dvd_right dz c2)
 have hc:Nat.gcd (u*v).natAbs (w*z).natAbs=1:=by
  rw[Int.natAbs_mul,Int.natAbs_mul]
  exact Nat.Coprime.mul_left (Nat.Coprime.mul_right k3 k1) (Nat.Coprime.mul_right k2 k4)
 have hp:0<w*z:=Int.mul_pos w0 z0
 have hx:q*s≠0:=Int.mul_ne_zero (by omega) (by omega)
 have cr:=zfe (p:=p*r) hx
 obtain⟨e1,e2⟩:=zdq (p:=u*v) (q:=w*z) hp (zfU hx) hc (zfT hx) (by
  apply Int.eq_of_mul_eq_mul_right (a:=q*s) hx
  have:u*v*(q*s)=p*r*(w*z):=by rw[←a1,←a2,←a3,←a4];grind
  calc u*v*lowQ (p*r) (q*s)*(q*s)=u*v*(q*s)*lowQ (p*r) (q*s):=by grind
   _=p*r*(w*z)*lowQ (p*r) (q*s):=by rw[this]
   _=p*r*lowQ (p*r) (q*s)*(w*z):=by grind
   _=lowP (p*r) (q*s)*(q*s)*(w*z):=by rw[cr]
   _=lowP (p*r) (q*s)*(w*z)*(q*s):=by grind)
 exact⟨e1,e2,hp,hc⟩
def muP (a b:FQ):Int:=lowP (a.p.v*b.p.v) (a.q.v*b.q.v)
def muQ (a b:FQ):Int:=lowQ (a.p.v*b.p.v) (a.q.v*b.q.v)
theorem zgM (a b:FQ):(inR (muP a b).natAbs∧inR (muQ a b).natAbs→∃f:FQ,f.p.v=muP a b∧f.q.v=muQ a b∧pf E0 8 [fqP a,fqP b]=some (.tu [fqP f,.i .i64 0])) ∧
  (¬(inR (muP a b).natAbs∧inR (muQ a b).natAbs)→pf E0 8 [fqP a,fqP b]=some (.tu [fqP fq0,.i .i64 4])):=by
 have qa:=a.q1
 have qb:=b.q1
 obtain⟨m1,m2,m3,m4⟩:=zml (p:=a.p.v) (q:=a.q.v) (r:=b.p.v) (s:=b.q.v) (by omega) (by omega) a.cop b.cop
 have hg:=zhs a.p b.q
 have hh:=zhs b.p a.q
 have gv:=zma a.p b.q
 have hv:=zma b.p a.q
 have gn:(a.p.gcd b.q).v≠0:=by rw[gv];exact zfb (by omega)
 have hn:(b.p.gcd a.q).v≠0:=by rw[hv];exact zfb (by omega)
 obtain⟨u,eu,fu⟩:=zde a.p _ gn
 obtain⟨v,ev,fv⟩:=zde b.p _ hn
 obtain⟨w,ew,fw⟩:=zde a.q _ hn
 obtain⟨z,ez,fz'⟩:=zde b.q _ gn
 rw[gv] at eu ez
 rw[hv] at ev ew
 have n1:=zcK u v
 have n2:=zcK w z
 have e1:u.v*v.v=muP a b:=by rw[eu,ev];exact m1
 have e2:w.v*z.v=muQ a b:=by rw[ew,ez];exact m2
 rw[m1,m2] at m4
 rw[m2] at m3
 have m3:0<muQ a b:=m3
 have m4:Nat.gcd (muP a b).natAbs (muQ a b).natAbs=1:=m4
 rw[e1] at n1
 rw[e2] at n2
 constructor
 ·rintro⟨r1,r2⟩
  obtain⟨c1,l1⟩:=zdG r1
  obtain⟨c2,l2⟩:=zdG r2
  have fl:=zgN (clip (muP a b)) (clip (muQ a b)) (by rw[c2];omega) (by rw[c1,c2];exact m4)
  rw[l1] at n1
  rw[l2] at n2
  exact⟨⟨clip (muP a b),clip (muQ a b),by rw[c2];omega,by rw[c1,c2];exact m4⟩,c1,c2,ziT a b _ 0 hg hh fu fv n1 fw fz' n2 fl⟩
 ·intro hno
  refine ziT a b fq0 4 hg hh fu fv n1 fw fz' n2 (ziV _ _ ?_)
  by_cases l1:lerr (muP a b)=0
  ·right
   intro l2
   exact hno ⟨zfQ l1,zfQ l2⟩
  ·exact .inl l1
end Go.Eng
namespace Go.Eng
end Go.Eng
namespace Go.Eng
noncomputable def ftx (p q:Int):List UInt8:=if q=1 then decI p else decI p++[47]++decI q
theorem zcT (x:WI):(decI x.v).length≤1000000:=by
 have h:=zeA ((zaN _).1 x.lim)
 have h1:(dec x.v.natAbs).length≤4956+1:=by
  unfold dec;split
  ·simp
  ·rw[zbN];omega
 unfold decI;split<;>(try simp only[List.length_cons])<;>omega
theorem ziU (f:FQ):pf E0 16 [fqP f]=some (.s (ftx f.p.v f.q.v)):=by
 have df:=zdd f
 have s1:=zoX f.p
 have s2:=zoX f.q
 have sg:=zdc f.l
 have l1:=zcT f.p
 have l2:=zcT f.q
 have hl:f.l.v=f.q.v-1:=rfl
 have q1:=f.q1
 refine zab (xf:=zvn) rfl (by simp[zvn]) ?_
 simp only[zvn]
 unfold ftx
 by_cases h:f.q.v=1
 ·rw[if_pos h]
  have sc:(cmpI f.l.v 0=0)=True:=by rw[hl,h];simp[cmpI]
  simp(disch:=omega)only[go_sem,seval,wqq,sg,sc,s1]
 ·rw[if_neg h]
  have sc:(cmpI f.l.v 0=0)=False:=by
   have:cmpI f.l.v 0=1:=by unfold cmpI;rw[if_neg (by omega),if_pos (by omega)]
   rw[this];simp
  have a1:binP .add (.s (decI f.p.v)) (.s [47])=some (.s (decI f.p.v++[47])):=zbu _ _ (by simp only[List.length_cons,List.length_nil];omega)
  have a2:binP .add (.s (decI f.p.v++[47])) (.s (decI f.q.v))=some (.s (decI f.p.v++[47]++decI f.q.v)):=zbu _ _ (by simp only[List.length_append,List.length_cons,List.length_nil];omega)
  simp(disch:=omega)only[go_sem,seval,wqq,sg,sc]
  refine zaA [1] rfl (by simp only[go_sem,seval]) ?_
  simp(disch:=omega)only[go_sem,seval,wqq,df,s1,s2,a1,a2]
end Go.Eng
namespace Go.Eng
noncomputable def rfP (p q:Int):PV:=.ag [.b (decide (p<0)),T p.natAbs,.b (decide (q<0)),T q.natAbs]
@[go_sem] theorem zs7 (M:PM) (d:Nat) (p q:Int):fz M (d+1+1) (rfP p q)=some (rfP p q,[]):=_root_.id rfl
@[go_sem] theorem znM (p q:Int):(rfP p q).cells=[.b (decide (p<0)),T p.natAbs,.b (decide (q<0)),T q.natAbs]:=_root_.id rfl
@[go_sem] theorem zq8 (p q:Int):PV.ag [.b (decide (p<0)),T p.natAbs,.b (decide (q<0)),T q.natAbs]=rfP p q:=_root_.id rfl
theorem zgO (p q:Int) (h:q≠0) (lp:tlen p.natAbs<90000) (lq:tlen q.natAbs<90000):pf E0 182 [nP p,nP q]=some (.tu [rfP (lowP p q) (lowQ p q),.i .i64 0]):=by
 have t0:((tlen q.natAbs:Int)=0)=False:=by have:=zaY (v:=q.natAbs) (by omega);simp;omega
 refine zab (xf:=zwO) rfl (by simp[zwO]) ?_
 simp only[zwO]
 by_cases hn:q<0
 ·have sn:decide (q<0)=true:=by simpa using hn
  have n1:=zlp p (by omega)
  have n2:=zlp q (by omega)
  have f1:PV.ag [PV.b true,T q.natAbs]=nP q:=by rw[←sn];rfl
  have f2:PV.ag [PV.b true,Tw (tlen q.natAbs) q.natAbs]=nP q:=by rw[←sn];rfl
  obtain⟨l1,l2⟩:=zd8 p q hn
  have gN:=zfb (p := -p) (q := -q) (by omega)
  have gl:tlen (gI (-p) (-q)).natAbs<90000:=by
   rw[zld]
   have:(gI p q).natAbs≤q.natAbs:=by
    unfold gI;rw[Int.natAbs_natCast];exact Nat.gcd_le_right _ (by omega)
   have:=zan this
   omega
  have g:=zln (-p) (-q) (by rw[Int.natAbs_neg];omega) (by rw[Int.natAbs_neg];omega)
  have d1:=zfj gN (x := -p) (by rw[Int.natAbs_neg];omega) (by omega)
  have d2:=zfj gN (x := -q) (by rw[Int.natAbs_neg];omega) (by omega)
  rw[←l1,←l2]
  have e1:lowP (-p) (-q) = -p/gI (-p) (-q):=by unfold lowP;rw[if_neg (by omega)]
  have e2:lowQ (-p) (-q) = -q/gI (-p) (-q):=by unfold lowQ;rw[if_neg (by omega)]
  rw[e1,e2]
  have hg:nP (((Nat.gcd (-p).natAbs (-q).natAbs:Nat):Int))=nP (gI (-p) (-q)):=rfl
  rw[hg] at g
  generalize gI (-p) (-q)=G at *
  generalize-p=P at *
  generalize-q=Q at *
  simp(disch:=omega)only[go_sem,seval,wqq,t0,sn,f1,f2,n1,n2,g,d1,d2,zaE,zaj]
 ·have sn:decide (q<0)=false:=by simpa using hn
  have f1:PV.ag [PV.b false,T q.natAbs]=nP q:=by rw[←sn];rfl
  have f2:PV.ag [PV.b false,Tw (tlen q.natAbs) q.natAbs]=nP q:=by rw[←sn];rfl
  have gN:=zfb (p:=p) (q:=q) h
  have gl:tlen (gI p q).natAbs<90000:=by
   have:(gI p q).natAbs≤q.natAbs:=by
    unfold gI;rw[Int.natAbs_natCast];exact Nat.gcd_le_right _ (by omega)
   have:=zan this
   omega
  have g:=zln p q (by omega) (by omega)
  have d1:=zfj gN (x:=p) (by omega) (by omega)
  have d2:=zfj gN (x:=q) (by omega) (by omega)
  have e1:lowP p q=p/gI p q:=by unfold lowP;rw[if_neg hn]
  have e2:lowQ p q=q/gI p q:=by unfold lowQ;rw[if_neg hn]
  rw[e1,e2]
  have hg:nP (((Nat.gcd p.natAbs q.natAbs:Nat):Int))=nP (gI p q):=rfl
  rw[hg] at g
  generalize gI p q=G at *
  simp(disch:=omega)only[go_sem,seval,wqq,t0,sn,f1,f2,g,d1,d2,zaE,zaj]
end Go.Eng
namespace Go.Eng
end Go.Eng
namespace Go.Eng
end Go.Eng
namespace Go.Eng
end Go.Eng
namespace Go.Eng
theorem zjy {x y:WI} (h:x.v=y.v):x=y:=by cases x;cases y;cases h;rfl
theorem zfa {f g:FQ} (h1:f.p.v=g.p.v) (h2:f.q.v=g.q.v):f=g:=by
 have e1:=zjy h1
 have e2:=zjy h2
 cases f;cases g
 simp only at e1 e2
 subst e1 e2;rfl
def FQ.is (f:FQ) (n d:Int):Prop:=f.p.v*d=n*f.q.v
theorem zd6 {f:FQ} {n d:Int} (h:d≠0) (h1:f.p.v=lowP n d) (h2:f.q.v=lowQ n d):f.is n d:=by
 unfold FQ.is;rw[h1,h2];exact zfe h
theorem zcV (f:FQ):f.is f.p.v f.q.v:=rfl
theorem ziq {f g:FQ} {n d n' d':Int} (hd:d≠0) (hd':d'≠0) (hf:f.is n d) (hg:g.is n' d') (e:n*d'=n'*d):f=g:=by
 unfold FQ.is at hf hg
 have qf:=f.q1
 have qg:=g.q1
 have key:f.p.v*g.q.v=g.p.v*f.q.v:=by
  apply Int.eq_of_mul_eq_mul_right (a:=d*d') (Int.mul_ne_zero hd hd')
  calc f.p.v*g.q.v*(d*d')=f.p.v*d*(g.q.v*d'):=by grind
   _=n*f.q.v*(g.q.v*d'):=by rw[hf]
   _=n*d'*(f.q.v*g.q.v):=by grind
   _=n'*d*(f.q.v*g.q.v):=by rw[e]
   _=n'*g.q.v*(f.q.v*d):=by grind
   _=g.p.v*d'*(f.q.v*d):=by rw[hg]
   _=g.p.v*f.q.v*(d*d'):=by grind
 obtain⟨a,b⟩:=zdq (by omega) (by omega) f.cop g.cop key
 exact zfa a b
theorem zdp {f:FQ} {n d:Int} (h:f.is n d) (k:Int):f.is (n*k) (d*k):=by
 unfold FQ.is at *
 rw[←Int.mul_assoc,h];grind
theorem zuX (n:Nat):(10:Nat)^(4*n)=10000^n:=by rw[Nat.pow_mul]
theorem zno (x:WI):tlen x.v.natAbs≤1239:=by
 have h:=zeA ((zaN _).1 x.lim)
 obtain⟨n,hn⟩:∃n:Nat,n=1239:=⟨_,rfl⟩
 have h:dlen x.v.natAbs≤4*n:=by omega
 rw[zam,zuX] at h
 rw[←hn,zaX]
 exact h
def fsz (n:Nat) (f:FQ):Prop:=tlen f.p.v.natAbs≤n∧tlen f.q.v.natAbs≤n
theorem zhb {a g:Int} (h:g∣a):tlen (a/g).natAbs≤tlen a.natAbs:=by
 refine zan ?_
 rw[Int.natAbs_ediv_of_dvd h];exact Nat.div_le_self _ _
theorem zny (a b:FQ) {n m:Nat} (ha:fsz n a) (hb:fsz m b) (h:n+m+1<1230):∃f:FQ,pf E0 9 [fqP a,fqP b]=some (.tu [fqP f,.i .i64 0])∧f.is (a.p.v*b.q.v+b.p.v*a.q.v) (a.q.v*b.q.v)∧fsz (n+m+1) f:=by
 obtain⟨a1,a2⟩:=ha
 obtain⟨b1,b2⟩:=hb
 have qa:=a.q1
 have qb:=b.q1
 have k1:=zhb (zb8 a.q.v b.q.v)
 have k2:=zhb (zbO a.q.v b.q.v)
 have d1:b.q.v/gI a.q.v b.q.v*gI a.q.v b.q.v=b.q.v:=Int.ediv_mul_cancel (zb8 _ _)
 have d2:a.q.v/gI a.q.v b.q.v*gI a.q.v b.q.v=a.q.v:=Int.ediv_mul_cancel (zbO _ _)
 have t1:tlen (adX a b).natAbs≤n+m:=Nat.le_trans (zav _ _) (by omega)
 have t2:tlen (adY a b).natAbs≤n+m:=Nat.le_trans (zav _ _) (by omega)
 have t3:tlen (adD a b).natAbs≤n+m:=Nat.le_trans (zav _ _) (by omega)
 have t4:tlen (adX a b+adY a b).natAbs≤n+m+1:=Nat.le_trans (zfr _ _) (by omega)
 have dn:=zf9 a b
 obtain⟨f,h1,h2,hf⟩:=(zgL a b).1 ⟨zdb (by omega),zdb (by omega),zdb (by omega),zdb (by omega)⟩
 refine⟨f,hf,?_,?_,?_⟩
 ·have hs:=zdp (zd6 dn h1 h2) (gI a.q.v b.q.v)
  have e1:(adX a b+adY a b)*gI a.q.v b.q.v=a.p.v*b.q.v+b.p.v*a.q.v:=by
   unfold adX adY
   rw[Int.add_mul,Int.mul_assoc,Int.mul_assoc,d1,d2]
  have e2:adD a b*gI a.q.v b.q.v=a.q.v*b.q.v:=by
   unfold adD
   rw[Int.mul_right_comm,d2]
  rwa [e1,e2] at hs
 ·rw[h1];exact Nat.le_trans (zan (zfR dn)) t4
 ·rw[h2];exact Nat.le_trans (zan (zfS dn)) (by omega)
theorem zox (a b:FQ) {n m:Nat} (ha:fsz n a) (hb:fsz m b) (h:n+m<1230):∃f:FQ,pf E0 8 [fqP a,fqP b]=some (.tu [fqP f,.i .i64 0])∧f.is (a.p.v*b.p.v) (a.q.v*b.q.v)∧fsz (n+m) f:=by
 obtain⟨a1,a2⟩:=ha
 obtain⟨b1,b2⟩:=hb
 have qa:=a.q1
 have qb:=b.q1
 have dn:a.q.v*b.q.v≠0:=Int.mul_ne_zero (by omega) (by omega)
 have t1:tlen (muP a b).natAbs≤n+m:=Nat.le_trans (zan (zfR dn)) (Nat.le_trans (zav _ _) (by omega))
 have t2:tlen (muQ a b).natAbs≤n+m:=Nat.le_trans (zan (zfS dn)) (Nat.le_trans (zav _ _) (by omega))
 obtain⟨f,h1,h2,hf⟩:=(zgM a b).1 ⟨zdb (by omega),zdb (by omega)⟩
 exact⟨f,hf,zd6 dn h1 h2,by rw[h1];exact t1,by rw[h2];exact t2⟩
noncomputable def rfQ (f:FQ):PV:=rfP f.p.v f.q.v
theorem zlv {f:FQ} {n d:Int} (h1:f.p.v=n) (h2:f.q.v=d):rfP n d=rfQ f:=by rw[←h1,←h2];rfl
theorem zjN {a b c d:Int} (h:a-b=c-d):cmpI a b=cmpI c d:=by
 unfold cmpI
 have e1:(a<b)=(c<d):=by simp only[eq_iff_iff];omega
 have e2:(b<a)=(d<c):=by simp only[eq_iff_iff];omega
 simp only[e1,e2]
theorem ze2 (a b:Int):cmpI b a = -cmpI a b:=by
 unfold cmpI
 rcases Int.lt_trichotomy a b with h|h|h
 ·rw[if_neg (by omega),if_pos h,if_pos h];rfl
 ·subst h;rw[if_neg (by omega),if_neg (by omega)];rfl
 ·rw[if_pos h,if_neg (by omega),if_pos h]
theorem zd2 {a b k:Int} (hk:0<k):cmpI (a*k) (b*k)=cmpI a b:=by
 unfold cmpI
 rcases Int.lt_trichotomy a b with h|h|h
 ·have:=Int.mul_lt_mul_of_pos_right h hk
  rw[if_pos this,if_pos h]
 ·subst h;rw[if_neg (by omega),if_neg (by omega),if_neg (by omega),if_neg (by omega)]
 ·have:=Int.mul_lt_mul_of_pos_right h hk
  rw[if_neg (by omega),if_pos this,if_neg (by omega),if_pos h]
theorem zhQ {p q r s:Int} (hq:0<q) (hs:0<s) (h:p/q≠r/s):cmpI (p*s) (r*q)=cmpI (p/q) (r/s):=by
 have key:∀{p q r s:Int},0<q→0<s→p/q<r/s→p*s<r*q:=fun {p q r s} hq hs h=>by
  have d1:=Int.mul_ediv_add_emod p q
  have d2:=Int.mul_ediv_add_emod r s
  have m1:=Int.emod_lt_of_pos p hq
  have m2:=Int.emod_nonneg r (show s≠0 by omega)
  have h1:p<q*(r/s):=by
   have:q*(p/q+1)≤q*(r/s):=Int.mul_le_mul_of_nonneg_left (by omega) (by omega)
   rw[Int.mul_add] at this
   omega
  have h2:p*s<q*(r/s)*s:=Int.mul_lt_mul_of_pos_right h1 hs
  have h3:q*(r/s)*s≤r*q:=by
   have:s*(r/s)*q≤r*q:=Int.mul_le_mul_of_nonneg_right (by omega) (by omega)
   have e:q*(r/s)*s=s*(r/s)*q:=by grind
   omega
  omega
 unfold cmpI
 rcases Int.lt_trichotomy (p/q) (r/s) with g|g|g
 ·rw[if_pos (key hq hs g),if_pos g]
 ·exact(h g).elim
 ·have:=key hs hq g
  rw[if_neg (by omega),if_pos this,if_neg (by omega),if_pos g]
theorem zhR {p q r s:Int} (h:p/q=r/s):cmpI (p*s) (r*q)=cmpI (p%q*s) (r%s*q):=by
 refine zjN ?_
 have d1:=Int.mul_ediv_add_emod p q
 have d2:=Int.mul_ediv_add_emod r s
 rw[h] at d1
 have e1:p*s=(q*(r/s)+p%q)*s:=by rw[d1]
 have e2:r*q=(s*(r/s)+r%s)*q:=by rw[d2]
 rw[e1,e2]
 grind
theorem zhS {x y q s:Int} (hx:0≤x) (hy:0≤y) (hq:0<q) (hs:0<s) (h:x=0∨y=0):cmpI (x*s) (y*q)=cmpI x 0-cmpI y 0:=by
 rcases h with h|h
 ·subst h
  have:=zd2 (a:=0) (b:=y) hq
  rw[Int.zero_mul] at this
  rw[Int.zero_mul,this]
  have e:cmpI 0 0=0:=rfl
  rw[e,ze2 0 y];omega
 ·subst h
  have:=zd2 (a:=x) (b:=0) hs
  rw[Int.zero_mul] at this
  have e:cmpI 0 0=0:=rfl
  rw[Int.zero_mul,this,e];omega
theorem zhT (x y q s:Int):cmpI (x*s) (y*q) = -cmpI (q*y) (s*x):=by
 rw[Int.mul_comm x s,Int.mul_comm y q];exact ze2 _ _
def cmpF (a b:FQ):Int:=cmpI (a.p.v*b.q.v) (b.p.v*a.q.v)
theorem zjM (a b:FQ):cmpF a b=0↔a=b:=by
 have qa:=a.q1
 have qb:=b.q1
 unfold cmpF
 rw[zaV]
 constructor
 ·intro h
  obtain⟨x,y⟩:=zdq (by omega) (by omega) a.cop b.cop h
  exact zfa x y
 ·rintro rfl;rfl
end Go.Eng
namespace Go.Eng
def isPR:PV→Bool
 | .p _ _=>true
 | .sl _ _ _ _ _=>true
 | .tu _=>true
 | _=>false
def slotIn3 (E:PEnv) (ops:List XOper) (L:List Nat) (c:Nat×Nat):Bool :=
 match ops[c.1]?,ops[c.2]? with
 | some a,some b =>
  match a.op.looks with
  | .t s=>a.op.cls==2&&L.contains s&&calmOp E b.op
  | _=>false
 | _,_=>false
end Go.Eng
namespace Go.Eng
def apP:PV→PV→Bool
 | .p a _,.p b _ => !(Nat.beq a b)
 | _,_=>false
def slotSt (ops:List XOper) (L R:List Nat) (c:Nat×Nat):Bool :=
 match ops[c.1]?,ops[c.2]? with
 | some a,some b =>
  match a.op,b.op with
  | .load _ _ (.t s),.store _ (.t r) _=>L.contains s&&R.contains r&&fixedX ops c.2 (.t r)
  | _,_=>false
 | _,_=>false
theorem zhg {E:PEnv} {F:PFin} {ops:List XOper} {chk:List (Nat×Nat)} {ks:List KI} {fr:PFr} {M:PM} (L R:List Nat) (hL:chk.all (fun c=>calmC E ops c || slotIn2 E ops L c || slotSt ops L R c)=true)
  (hr:WL E ⟨(0::0::(L++R)).map XR.tmp,fun w _=>∃l,w=.tu l∧((l.drop 2).take L.length).all (fun x=>isPP x&&((l.drop 2).drop L.length).all (apP x))=true⟩ ops [] fr M) (w:WL E F ops ks fr M):WK E F (.drw ops chk) ks fr M:=by
 refine zdu (fun fr2 Ms hT=>?_) w
 have hp:∀s∈L,isPP (fr2 s)=true∧∀r∈R,apP (fr2 s) (fr2 r)=true:=by
  obtain⟨lf,q,fr3,M3,vs,e,h1,h2,l,h3,h4⟩:=hr
  simp only[Option.bind_eq_some_iff,unw] at e
  obtain⟨⟨fr4,M4⟩,e1,e2⟩:=e
  simp only[Option.some.injEq,Prod.mk.injEq] at e2
  obtain⟨_,e3,e4⟩:=e2
  rw[←e3,←e4] at h2
  obtain⟨Ms',g1,g2⟩:=zbW e1
  rw[g1] at hT
  cases hT
  have hres:∀(f:PFr) (N:PM) (l:List Nat),pRes f N (l.map XR.tmp)=some (l.map f):=fun f N l=>by
   induction l with
   | nil=>rfl
   | cons a l ih=>simp only[List.map_cons,pRes,pResOne,ih]
  rw[hres] at h2
  cases h2
  simp only[List.map_cons,packP] at h3
  cases h3
  have h5:(((L++R).map fr2).take L.length).all (fun x=>isPP x&&(((L++R).map fr2).drop L.length).all (apP x))=true:=h4
  rw[List.map_append,List.take_left' (by simp),List.drop_left' (by simp)] at h5
  simp only[List.all_eq_true,List.mem_map,Bool.and_eq_true,forall_exists_index,and_imp,forall_apply_eq_imp_iff₂] at h5
  exact h5
 rw[List.all_eq_true] at hL ⊢
 rintro⟨i,j⟩ hc
 have h1:=hL _ hc
 simp only[Bool.or_eq_true] at h1
 rcases h1 with (h1|h1)|h1
 ·exact zcA hT h1
 ·unfold slotIn2 at h1
  split at h1
  ·rename_i a b ha hb
   split at h1
   ·rename_i z k s hop
    simp only[Bool.and_eq_true] at h1
    obtain⟨c1,c2⟩:=h1
    have hs:=(hp s (List.contains_iff_mem.1 c1)).1
    cases hf:fr2 s with
    | p n o =>
     obtain⟨fri,A,B,q1,q2,q3,q4⟩:=zaz hT ha
     obtain⟨frj,C,D,p1,p2,p3,p4⟩:=zaz hT hb
     have p2':Ms[(i,j).2+1]?=some D:=p2
     have q2':Ms[(i,j).1+1]?=some B:=q2
     refine zcp ?_
     simp only[chkP0,ha,q1,q2,p1,p2]
     rw[if_neg (by rw[hop];simp[XO.cls])]
     rw[hop]
     show chkV ops j (.t s) C D (fr2 s)=true
     rw[hf]
     show verP (some n) C D=true
     rcases p3 with⟨_,v,p3⟩|⟨_,p3⟩
     ·cases hopb:b.op with
      | call f l =>
       rw[hopb] at p3 c2
       obtain⟨ns,rfl⟩:=zdN c2 p3
       exact zcM ns C _
      | _=>rw[hopb] at c2;simp[calmOp] at c2
     ·rw[p3];simp[verP]
    | _=>rw[hf] at hs;simp[isPP] at hs
   ·cases h1
  ·cases h1
 ·unfold slotSt at h1
  split at h1
  ·rename_i a b ha hb
   split at h1
   ·rename_i z k s n r x hop hop2
    simp only[Bool.and_eq_true] at h1
    obtain⟨⟨c1,c2⟩,c3⟩:=h1
    have hap:=(hp s (List.contains_iff_mem.1 c1)).2 r (List.contains_iff_mem.1 c2)
    obtain⟨fri,A,B,q1,q2,q3,q4⟩:=zaz hT ha
    obtain⟨frj,C,D,p1,p2,p3,p4⟩:=zaz hT hb
    have p2':Ms[(i,j).2+1]?=some D:=p2
    have q2':Ms[(i,j).1+1]?=some B:=q2
    have e2:fr2 r=frj r:=p4 (.t r) c3
    refine zcp ?_
    simp only[chkP0,ha,q1,q2,p1,p2]
    rw[if_neg (by rw[hop];simp[XO.cls])]
    rw[hop]
    show chkV ops j (.t s) C D (fr2 s)=true
    cases hf:fr2 s with
    | p n1 o1 =>
     cases hg:fr2 r with
     | p n2 o2 =>
      rw[hf,hg] at hap
      have hne:n1≠n2:=fun q=>by rw[q] at hap;simp[apP] at hap
      show verP (some n1) C D=true
      rcases p3 with⟨_,v,p3⟩|⟨_,p3⟩
      ·rw[hop2] at p3
       simp only[XO.pst,XO.pev] at p3
       rw[show X.pv E.glob frj (.t r)=.p n2 o2 from e2.symm.trans hg] at p3
       simp only at p3
       generalize (X.pv E.glob frj x).cells=cs at p3
       split at p3
       ·split at p3
        ·cases p3
         simp only[verP]
         rw[List.getElem?_set_ne (fun h=>hne h.symm)];simp
        ·cases p3
       ·cases p3
      ·rw[p3];simp[verP]
     | _=>rw[hf,hg] at hap;simp[apP] at hap
    | _=>rw[hf] at hap;simp[apP] at hap
   ·cases h1
  ·cases h1
end Go.Eng
namespace Go.Eng
theorem mG (G L:PM) (k:Nat):PM.blk (G++L) (G.length+k)=PM.blk L k:=by
 unfold PM.blk
 rw[List.getElem?_append_right (by omega),Nat.add_sub_cancel_left]
theorem mG0 (G L:PM):PM.blk (G++L) G.length=PM.blk L 0:=mG G L 0
theorem sG (G L:PM) (k:Nat) (v:Option PB):(G++L).set (G.length+k) v=G++L.set k v:=by
 rw[List.set_append_right _ _ (by omega),Nat.add_sub_cancel_left]
theorem sG0 (G L:PM) (v:Option PB):(G++L).set G.length v=G++L.set 0 v:=sG G L 0 v
theorem lG (G L:PM):(G++L).length=G.length+L.length:=List.length_append
theorem zer (a b:Int) : -1≤cmpI a b∧cmpI a b≤1:=by unfold cmpI;split<;>(try split)<;>omega
theorem zhw (a b:FQ):pf E0 11 [fqP a,fqP b]=some (.i .i64 (cmpF a b)):=by
 have da:=zdd a
 have db:=zdd b
 have qa:=a.q1
 have qb:=b.q1
 refine zab (xf:=zvZ) rfl (by simp[zvZ]) ?_
 simp only[zvZ]
 simp(disch:=omega)only[go_sem,seval,wqq]
 refine zhg [16,3,20] [5,6] rfl ?_ ?_
 ·simp(disch:=omega)only[go_sem,seval,wqq,da,db]
  exact⟨_,rfl,rfl⟩
 simp(disch:=omega)only[go_sem,seval,wqq,da,db]
 refine zag zw8.eq_1 (fun(σ:(WI×WI)×(WI×WI)×Int) fr M=>1≤σ.1.2.v∧1≤σ.2.1.2.v∧(σ.2.2=1∨σ.2.2 = -1)∧σ.2.2*cmpI (σ.1.1.v*σ.2.1.2.v) (σ.2.1.1.v*σ.1.2.v)=cmpF a b ∧
  fr 5=.p 2 0∧fr 6=.p 3 0∧fr 7=.p 4 0∧fr 8=.p 5 0∧fr 9=.i .i64 σ.2.2∧∃b0 b1 v2 v3 v4 v5 G,M=b0::b1::some ⟨(wiP σ.1.1).cells,true,v2⟩::some ⟨(wiP σ.1.2).cells,true,v3⟩::some ⟨(wiP σ.2.1.1).cells,true,v4⟩::some ⟨(wiP σ.2.1.2).cells,true,v5⟩::G)
  (fun σ=>σ.1.2.v.toNat) ?_ ((a.p,a.q),(b.p,b.q),1) ⟨qa,qb,.inl rfl,Int.one_mul _,by simp only[go_sem,seval],by simp only[go_sem,seval],by simp only[go_sem,seval],by simp only[go_sem,seval],by simp only[go_sem,seval],_,_,_,_,_,_,[],rfl⟩
 rintro⟨⟨p,q⟩,⟨r,s⟩,g⟩ fr M ⟨hq,hs,hg,hc,h5,h6,h7,h8,h9,b0,b1,v2,v3,v4,v5,G,rfl⟩ ih
 simp only at hq hs hg hc h5 h6 h7 h8 h9
 have d1:=zkp p q (by omega)
 have d2:=zkp r s (by omega)
 have xv:(p.div q (by omega)).v=p.v/q.v:=rfl
 have ev:(p.mod q (by omega)).v=p.v%q.v:=rfl
 have yv:(r.div s (by omega)).v=r.v/s.v:=rfl
 have ov:(r.mod s (by omega)).v=r.v%s.v:=rfl
 have e0:=Int.emod_nonneg p.v (show q.v≠0 by omega)
 have o0:=Int.emod_nonneg r.v (show s.v≠0 by omega)
 have e1:=Int.emod_lt_of_pos p.v (show 0<q.v by omega)
 rw[←ev] at e0 e1
 rw[←ov] at o0
 have s1:=zhQ (p:=p.v) (q:=q.v) (r:=r.v) (s:=s.v) (by omega) (by omega)
 have s2:=zhR (p:=p.v) (q:=q.v) (r:=r.v) (s:=s.v)
 rw[←xv,←yv] at s1
 rw[←xv,←yv,←ev,←ov] at s2
 generalize p.div q (by omega)=x at *
 generalize p.mod q (by omega)=e at *
 generalize r.div s (by omega)=y at *
 generalize r.mod s (by omega)=o at *
 have c1:=zb9 x y
 have g1:=zdc e
 have g2:=zdc o
 have r1:=zer x.v y.v
 have r2:=zer e.v 0
 have r3:=zer o.v 0
 by_cases hxy:x.v=y.v
 ·have t0:(cmpI x.v y.v=0)=True:=by rw[zaV];simp[hxy]
  have hb:=s2 hxy
  by_cases hz:e.v=0∨o.v=0
  ·rw[zhS (by omega) (by omega) (by omega) (by omega) hz] at hb
   have hm:cmpF a b=g*(cmpI e.v 0-cmpI o.v 0):=by rw[←hc,hb]
   have hl : -2≤g*(cmpI e.v 0-cmpI o.v 0)∧g*(cmpI e.v 0-cmpI o.v 0)≤2:=by rcases hg with rfl|rfl<;>omega
   rw[hm]
   by_cases he:e.v=0
   ·have t1:(cmpI e.v 0=0)=True:=by rw[zaV];simp[he]
    simp(disch:=omega)only[go_sem,seval,wqq,h5,h6,h7,h8,h9,d1,d2,mG,mG0,sG,sG0,lG,lqq,c1,g1,g2,t0,t1]
    refine zaA [14] rfl (by simp only[go_sem,seval]) ?_
    simp(disch:=omega)only[go_sem,seval,wqq,h5,h6,h7,h8,h9,d1,d2,mG,mG0,sG,sG0,lG,lqq,c1,g1,g2]
   ·have t1:(cmpI e.v 0=0)=False:=by rw[zaV];simp[he]
    have t2:(cmpI o.v 0=0)=True:=by rw[zaV];simp;omega
    simp(disch:=omega)only[go_sem,seval,wqq,h5,h6,h7,h8,h9,d1,d2,mG,mG0,sG,sG0,lG,lqq,c1,g1,g2,t0,t1,t2]
    refine zaA [14] rfl (by simp only[go_sem,seval]) ?_
    simp(disch:=omega)only[go_sem,seval,wqq,h5,h6,h7,h8,h9,d1,d2,mG,mG0,sG,sG0,lG,lqq,c1,g1,g2]
  ·have t1:(cmpI e.v 0=0)=False:=by rw[zaV];simp;omega
   have t2:(cmpI o.v 0=0)=False:=by rw[zaV];simp;omega
   have n0 : -1≤g∧g≤1:=by omega
   rw[zhT e.v o.v q.v s.v] at hb
   simp(disch:=omega)only[go_sem,seval,wqq,h5,h6,h7,h8,h9,d1,d2,mG,mG0,sG,sG0,lG,lqq,c1,g1,g2,t0,t1,t2]
   refine zhg [11,8,14] [5,6,7] rfl ?_ ?_
   ·simp(disch:=omega)only[go_sem,seval,wqq,h5,h6,h7,h8,h9,d1,d2,mG,mG0,sG,sG0,lG,lqq]
    exact⟨_,rfl,rfl⟩
   simp(disch:=omega)only[go_sem,seval,wqq,h5,h6,h7,h8,h9,d1,d2,mG,mG0,sG,sG0,lG,lqq]
   exact ih ((q,e),(s,o),0-g) _ _ (by simp only;omega) ⟨by simp only;omega,by simp only;omega,by simp only;omega,by simp only;rw[←hc,hb];grind,by simp only[go_sem,seval,h5],by simp only[go_sem,seval,h6],by simp only[go_sem,seval,h7],by simp only[go_sem,seval,h8],by simp only[go_sem,seval],_,_,_,_,_,_,_,rfl⟩
 ·have t0:(cmpI x.v y.v=0)=False:=by rw[zaV];simp[hxy]
  have hb:=s1 hxy
  have hm:cmpF a b=g*cmpI x.v y.v:=by rw[←hc,hb]
  have hl : -2≤g*cmpI x.v y.v∧g*cmpI x.v y.v≤2:=by rcases hg with rfl|rfl<;>omega
  rw[hm]
  simp(disch:=omega)only[go_sem,seval,wqq,h5,h6,h7,h8,h9,d1,d2,mG,mG0,sG,sG0,lG,lqq,c1,t0]
end Go.Eng
namespace Go.Eng
@[go_sem] theorem zs8 (M:PM) (d:Nat) (f:FQ):fz M (d+1+1) (rfQ f)=some (rfQ f,[]):=_root_.id rfl
@[go_sem] theorem znN (f:FQ):(rfQ f).cells=[.b (decide (f.p.v<0)),T f.p.v.natAbs,.b (decide (f.q.v<0)),T f.q.v.natAbs]:=_root_.id rfl
@[go_sem] theorem zqh (f:FQ):rfP f.p.v f.q.v=rfQ f:=_root_.id rfl
def pk (xs:List Int) (i:Int):Int:=if i<0∨(xs.length:Int)≤i then 0 else xs.getD i.toNat 0
theorem zbX {xs:List Int} (hx:Ints xs) (i:Int):Fits64 (pk xs i):=by
 unfold pk
 by_cases h:i<0∨(xs.length:Int)≤i
 ·rw[if_pos h];decide
 ·rw[if_neg h]
  have hl:i.toNat<xs.length:=by omega
  exact hx.2 _ (by simp[hl])
theorem zo4 {xs:List Int} (hx:Ints xs) {i:Int} (hi:Fits64 i):pf E0 180 [ints xs,.i .i64 i]=some (.i .i64 (pk xs i)):=by
 refine zab (xf:=zwK) rfl (by simp[zwK]) ?_
 simp only[zwK]
 obtain⟨hx1,hx2⟩:=hx
 unfold pk
 by_cases h:i<0
 ·rw[if_pos (.inl h)]
  simp(disch:=omega)only[go_sem,seval,wqq,h]
 ·by_cases h':(xs.length:Int)≤i
  ·rw[if_pos (.inr h')]
   have q1:(i≥(xs.length:Int))=True:=by simp;omega
   simp(disch:=omega)only[go_sem,seval,wqq,h,q1]
  ·rw[if_neg (by omega)]
   have q1:(i≥(xs.length:Int))=False:=by simp;omega
   obtain⟨j,rfl⟩:∃j:Nat,i=j:=⟨i.toNat,by omega⟩
   have hl:j<xs.length:=by omega
   have hg:xs[j]?=some (xs.getD j 0):=by simp[hl]
   simp(disch:=omega)only[go_sem,seval,wqq,h,q1,zfd hg,Int.toNat_natCast]
def mulN (x:Int):Nat→Int
 | 0=>x
 | n+1=>mulN x n*1000000007
theorem zdS (x:Int):∀n,tlen (mulN x n).natAbs≤tlen x.natAbs+3*n
 | 0=>Nat.le_refl _
 | n+1=>by
  have h1:=zdS x n
  have h2:=zav (mulN x n) 1000000007
  have h3:tlen (1000000007:Int).natAbs≤3:=zah (by decide)
  show tlen (mulN x n*1000000007).natAbs≤_
  omega
def numF (a b:Int):Int:=if a%7<4 then b.tmod 60 else if a%7<6 then b else mulN (b+3) ((a.tdiv 7).tmod 40).toNat
theorem za6 (a:Int) {n:Int} (h:0<n) : -n<a.tmod n∧a.tmod n<n:=by
 have h1:=Int.tmod_lt_of_pos a h
 have h2:=Int.lt_tmod_of_pos a h
 omega
theorem zgC {b:Int} (a:Int) (hb:Fits64 b):tlen (numF a b).natAbs≤122:=by
 unfold Fits64 at hb
 have h1:=za6 b (n:=60) (by omega)
 have h2:=za6 (a.tdiv 7) (n:=40) (by omega)
 have h3:=zdS (b+3) ((a.tdiv 7).tmod 40).toNat
 have h4:tlen (b+3).natAbs≤5:=zah (by omega)
 unfold numF
 split
 ·exact Nat.le_trans (zfs (by omega)) (by omega)
 ·split
  ·have:tlen b.natAbs≤5:=zah (by omega)
   omega
  ·omega
theorem zeg {a b:Int} (ha:Fits64 a) (hb:Fits64 b):pf E0 179 [.i .i64 a,.i .i64 b]=some (nP (numF a b)):=by
 have hb':=hb
 unfold Fits64 at ha hb'
 have h1:=za6 b (n:=60) (by omega)
 have h2:=za6 (a.tdiv 7) (n:=40) (by omega)
 have h4:tlen (b+3).natAbs≤5:=zah (by omega)
 have k0:a%7=if a.tmod 7<0 then a.tmod 7+7 else a.tmod 7:=by
  have e1:=Int.mul_tdiv_add_tmod a 7
  have e2:=za6 a (n:=7) (by omega)
  split<;>omega
 have k1:=za6 a (n:=7) (by omega)
 have r1:=zhx (b.tmod 60) (by unfold Fits64;omega)
 have r2:=zhx b hb
 have r3:=zhx 3 (by decide)
 have r4:=zhx 1000000007 (by decide)
 have r5:=zlm b 3 (by have:tlen b.natAbs≤5:=zah (by omega);omega) (by have:tlen (3:Int).natAbs≤1:=zah (by decide);omega)
 have l3:=zdS (b+3)
 refine zab (xf:=zwh) rfl (by simp[zwh]) ?_
 simp only[zwh]
 unfold numF
 rw[k0]
 obtain⟨m,hm⟩:∃m:Int,m=a.tmod 7:=⟨_,rfl⟩
 obtain⟨n,hn⟩:∃n:Int,n=(a.tdiv 7).tmod 40:=⟨_,rfl⟩
 rw[←hm] at k1
 rw[←hn] at h2
 simp only[←hm,←hn]
 have hm':=hm.symm
 have hn':=hn.symm
 have e7:=Int.mul_tdiv_add_tmod a 7
 obtain⟨d,hd⟩:∃d:Int,a.tdiv 7=d:=⟨_,rfl⟩
 rw[hd] at hn' e7
 rw[hm'] at e7
 have hT:tlen (1000000007:Int).natAbs≤3:=zah (by decide)
 by_cases hm0:m<0
 ·rw[if_pos hm0]
  by_cases c4:m+7<4
  ·rw[if_pos c4]
   simp(disch:=omega)only[go_sem,seval,wqq,hm',hm0,c4,r1]
  ·rw[if_neg c4]
   by_cases c6:m+7<6
   ·rw[if_pos c6]
    simp(disch:=omega)only[go_sem,seval,wqq,hm',hm0,c4,c6,r2]
   ·rw[if_neg c6]
    simp(disch:=omega)only[go_sem,seval,wqq,hm',hm0,c4,c6,r2,r3,r5]
    refine zag zwQ.eq_1 (fun(i:Nat) fr M=>i≤n.toNat∧fr 0=.i .i64 a∧fr 4=.p 0 0∧fr 6=.p 1 0∧fr 7=(PV.i .i64 ((i:Nat):Int))∧∃v,M=[some ⟨[.b false,.nl],true,0⟩,some ⟨(nP (mulN (b+3) i)).cells,true,v⟩]) (fun i=>n.toNat-i) ?_ 0 ⟨by omega,by simp only[go_sem,seval],by simp only[go_sem,seval],by simp only[go_sem,seval],by simp only[go_sem,seval],_,rfl⟩
    rintro i fr M ⟨hi,f0,f4,f6,f7,v,rfl⟩ ih
    have li:=l3 i
    by_cases hin:(i:Int)<n
    ·have q1:((i:Int)<n)=True:=by simp[hin]
     have mm:=zlo (mulN (b+3) i) 1000000007 (by omega) (by omega)
     have e1:mulN (b+3) i*1000000007=mulN (b+3) (i+1):=rfl
     rw[e1] at mm
     generalize hX:mulN (b+3) i=X at *
     generalize hY:mulN (b+3) (i+1)=Y at *
     simp(disch:=omega)only[go_sem,seval,wqq,f0,f4,f6,f7,hd,hn',q1]
     refine zaA [6] rfl (by simp only[go_sem,seval,f6]) ?_
     simp(disch:=omega)only[go_sem,seval,wqq,f6,f7,r4,mm]
     exact ih (i+1) _ _ (by omega) ⟨by omega,by simp only[go_sem,seval,f0],by simp only[go_sem,seval,f4],by simp only[go_sem,seval,f6],by simp only[go_sem,seval];rw[Int.natCast_succ],_,by rw[hY];rfl⟩
    ·have q1:((i:Int)<n)=False:=by simp[hin]
     obtain rfl:i=n.toNat:=by omega
     generalize mulN (b+3) n.toNat=X at *
     simp(disch:=omega)only[go_sem,seval,wqq,f0,f4,f6,f7,hd,hn',q1]
 ·rw[if_neg hm0]
  by_cases c4:m<4
  ·rw[if_pos c4]
   simp(disch:=omega)only[go_sem,seval,wqq,hm',hm0,c4,r1]
  ·rw[if_neg c4]
   by_cases c6:m<6
   ·rw[if_pos c6]
    simp(disch:=omega)only[go_sem,seval,wqq,hm',hm0,c4,c6,r2]
   ·rw[if_neg c6]
    simp(disch:=omega)only[go_sem,seval,wqq,hm',hm0,c4,c6,r2,r3,r5]
    refine zag zwQ.eq_1 (fun(i:Nat) fr M=>i≤n.toNat∧fr 0=.i .i64 a∧fr 4=.p 0 0∧fr 6=.p 1 0∧fr 7=(PV.i .i64 ((i:Nat):Int))∧∃v,M=[some ⟨[.b false,.nl],true,0⟩,some ⟨(nP (mulN (b+3) i)).cells,true,v⟩]) (fun i=>n.toNat-i) ?_ 0 ⟨by omega,by simp only[go_sem,seval],by simp only[go_sem,seval],by simp only[go_sem,seval],by simp only[go_sem,seval],_,rfl⟩
    rintro i fr M ⟨hi,f0,f4,f6,f7,v,rfl⟩ ih
    have li:=l3 i
    by_cases hin:(i:Int)<n
    ·have q1:((i:Int)<n)=True:=by simp[hin]
     have mm:=zlo (mulN (b+3) i) 1000000007 (by omega) (by omega)
     have e1:mulN (b+3) i*1000000007=mulN (b+3) (i+1):=rfl
     rw[e1] at mm
     generalize hX:mulN (b+3) i=X at *
     generalize hY:mulN (b+3) (i+1)=Y at *
     simp(disch:=omega)only[go_sem,seval,wqq,f0,f4,f6,f7,hd,hn',q1]
     refine zaA [6] rfl (by simp only[go_sem,seval,f6]) ?_
     simp(disch:=omega)only[go_sem,seval,wqq,f6,f7,r4,mm]
     exact ih (i+1) _ _ (by omega) ⟨by omega,by simp only[go_sem,seval,f0],by simp only[go_sem,seval,f4],by simp only[go_sem,seval,f6],by simp only[go_sem,seval];rw[Int.natCast_succ],_,by rw[hY];rfl⟩
    ·have q1:((i:Int)<n)=False:=by simp[hin]
     obtain rfl:i=n.toNat:=by omega
     generalize mulN (b+3) n.toNat=X at *
     simp(disch:=omega)only[go_sem,seval,wqq,f0,f4,f6,f7,hd,hn',q1]
theorem zit {P Q:Int} {n:Nat} (hq:Q≠0) (hp:tlen P.natAbs≤n) (hl:tlen Q.natAbs≤n) (hn:n<1230):∃f:FQ,f.p.v=lowP P Q∧f.q.v=lowQ P Q∧fsz n f:=by
 have t1:=Nat.le_trans (zan (zfR (p:=P) hq)) hp
 have t2:=Nat.le_trans (zan (zfS (p:=P) hq)) hl
 exact⟨⟨⟨lowP P Q,zon (zdb (by omega))⟩,⟨lowQ P Q,zon (zdb (by omega))⟩,zfU hq,zfT hq⟩,rfl,rfl,t1,t2⟩
theorem zdt {xs:List Int} (hx:Ints xs) {i:Int} (h0:0≤i) (h1:i≤100):∃f:FQ,fsz 122 f∧pf E0 187 [ints xs,.i .i64 i]=some (rfQ f):=by
 have a0:=zo4 hx (i:=i) (by unfold Fits64;omega)
 have a1:=zo4 hx (i:=i+1) (by unfold Fits64;omega)
 have a2:=zo4 hx (i:=i+2) (by unfold Fits64;omega)
 have a3:=zo4 hx (i:=i+3) (by unfold Fits64;omega)
 have n1:=zeg (zbX hx i) (zbX hx (i+1))
 have n2:=zeg (zbX hx (i+2)) (zbX hx (i+3))
 have l1:=zgC (pk xs i) (zbX hx (i+1))
 have l2:=zgC (pk xs (i+2)) (zbX hx (i+3))
 generalize numF (pk xs i) (pk xs (i+1))=P at *
 generalize numF (pk xs (i+2)) (pk xs (i+3))=Q at *
 generalize pk xs i=y0 at *
 generalize pk xs (i+1)=y1 at *
 generalize pk xs (i+2)=y2 at *
 generalize pk xs (i+3)=y3 at *
 have o1:=zhx 1 (by decide)
 have t1:tlen (1:Int).natAbs≤1:=zah (by decide)
 by_cases hq:Q=0
 ·obtain⟨f,f1,f2,f3⟩:=zit (P:=P) (Q:=1) (n:=122) (by decide) l1 (by omega) (by omega)
  refine⟨f,f3,?_⟩
  have mk:=zgO P 1 (by decide) (by omega) (by omega)
  rw[zlv f1 f2] at mk
  have t0:((tlen Q.natAbs:Int)=0)=True:=by rw[hq,Int.natAbs_zero,za5];simp
  clear hq f1 f2
  obtain⟨k,hk⟩:∃k:Int,nP k=nP 1:=⟨1,rfl⟩
  rw[←hk] at mk o1
  clear hk
  refine zab (xf:=zvU) rfl (by simp[zvU]) ?_
  simp only[zvU]
  simp(disch:=omega)only[go_sem,seval,wqq,a2,a3,n2,t0,o1]
  refine zaA [5] rfl (by simp only[go_sem,seval]) ?_
  simp(disch:=omega)only[go_sem,seval,wqq,a0,a1,n1,mk]
 ·obtain⟨f,f1,f2,f3⟩:=zit (P:=P) (Q:=Q) (n:=122) hq l1 l2 (by omega)
  refine⟨f,f3,?_⟩
  have mk:=zgO P Q hq (by omega) (by omega)
  rw[zlv f1 f2] at mk
  have t0:((tlen Q.natAbs:Int)=0)=False:=by have:=zaY (v:=Q.natAbs) (by omega);simp;omega
  refine zab (xf:=zvU) rfl (by simp[zvU]) ?_
  simp only[zvU]
  simp(disch:=omega)only[go_sem,seval,wqq,a2,a3,n2,t0]
  refine zaA [5] rfl (by simp only[go_sem,seval]) ?_
  simp(disch:=omega)only[go_sem,seval,wqq,a0,a1,n1,mk]
end Go.Eng
namespace Go.Eng
def okC (c:Nat→Int):Prop:=∀e,e<20 → -1073741824≤c e∧c e≤1073741824
open Classical in
noncomputable def vlC (c:Nat→Int):Int:=if okC c then 0 else 1
theorem zjD (p:Prop):p=True∨p=False:=by by_cases h:p;exact .inl (eq_true h);exact .inr (eq_false h)
theorem zaK (c:Nat→Int):pf E0 416 [aI 20 c]=some (.i .i64 (vlC c)):=by
 refine zab (xf:=zwd) rfl (by simp[zwd]) ?_
 simp only[zwd]
 simp(disch:=omega)only[go_sem,seval,wqq]
 refine zag zxi.eq_1 (fun(i:Nat) fr M=>i≤20∧(∀e,e<i → -1073741824≤c e∧c e≤1073741824)∧fr 5=aI 20 c∧fr 6=(PV.i .i64 ((i:Nat):Int))) (fun i=>20-i) ?_ 0 ⟨by omega,fun e he=>by omega,by simp only[go_sem,seval],by simp only[go_sem,seval]⟩
 rintro i fr M ⟨hi,hlo,f5,f6⟩ ih
 rcases Nat.lt_or_ge i 20 with h|h
 ·have q1:((i:Int)<20)=True:=eq_true (by omega)
  have ix:=zeX c h
  have bad:¬(-1073741824≤c i∧c i≤1073741824)→vlC c=1:=fun q=>if_neg fun z=>q (z i h)
  rcases zjD (c i < -1073741824) with t1|t1
  ·rw[bad (by have:=of_eq_true t1;omega)]
   simp(disch:=omega)only[go_sem,seval,wqq,f5,f6,q1,ix,t1]
  ·rcases zjD (c i>1073741824) with t2|t2
   ·rw[bad (by have:=of_eq_true t2;omega)]
    simp(disch:=omega)only[go_sem,seval,wqq,f5,f6,q1,ix,t1,t2]
   ·have u1:=of_eq_false t1
    have u2:=of_eq_false t2
    simp(disch:=omega)only[go_sem,seval,wqq,f5,f6,q1,ix,t1,t2]
    refine ih (i+1) _ _ (by omega) ⟨by omega,fun e he=>?_,by simp only[go_sem,seval,f5],by simp only[go_sem,seval];rw[Int.natCast_succ]⟩
    rcases Nat.lt_or_ge e i with z|z
    ·exact hlo e z
    ·obtain rfl:e=i:=by omega
     omega
 ·obtain rfl:i=20:=by omega
  have:vlC c=0:=if_pos hlo
  rw[this]
  simp(disch:=omega)only[go_sem,seval,wqq,f5,f6]
theorem zca (c:Nat→Int):pf E0 417 [aI 20 c]=some (.i .i64 (vlC c)):=by
 refine zab (xf:=zwp) rfl (by simp[zwp]) ?_
 simp only[zwp]
 simp(disch:=omega)only[go_sem,seval,wqq]
 refine zag zxu.eq_1 (fun(i:Nat) fr M=>i≤20∧(∀e,e<i → -1073741824≤c e∧c e≤1073741824)∧fr 1=.p 0 0∧fr 3=(PV.i .i64 ((i:Nat):Int))∧M=[some ⟨cs 20 c,true,0⟩]) (fun i=>20-i) ?_ 0 ⟨by omega,fun e he=>by omega,by simp only[go_sem,seval],by simp only[go_sem,seval],rfl⟩
 rintro i fr M ⟨hi,hlo,f1,f3,rfl⟩ ih
 rcases Nat.lt_or_ge i 20 with h|h
 ·have q1:((i:Int)<20)=True:=eq_true (by omega)
  have qL:(i<20)=True:=eq_true h
  have ix:=zbv c h
  have bad:¬(-1073741824≤c i∧c i≤1073741824)→vlC c=1:=fun q=>if_neg fun z=>q (z i h)
  rcases zjD (c i < -1073741824) with t1|t1
  ·rw[bad (by have:=of_eq_true t1;omega)]
   simp(disch:=omega)only[go_sem,seval,wqq,f1,f3,q1,qL,ix,t1]
  ·rcases zjD (c i>1073741824) with t2|t2
   ·rw[bad (by have:=of_eq_true t2;omega)]
    simp(disch:=omega)only[go_sem,seval,wqq,f1,f3,q1,qL,ix,t1,t2]
   ·have u1:=of_eq_false t1
    have u2:=of_eq_false t2
    simp(disch:=omega)only[go_sem,seval,wqq,f1,f3,q1,qL,ix,t1,t2]
    refine ih (i+1) _ _ (by omega) ⟨by omega,fun e he=>?_,by simp only[go_sem,seval,f1],by simp only[go_sem,seval];rw[Int.natCast_succ],rfl⟩
    rcases Nat.lt_or_ge e i with z|z
    ·exact hlo e z
    ·obtain rfl:e=i:=by omega
     omega
 ·obtain rfl:i=20:=by omega
  have:vlC c=0:=if_pos hlo
  rw[this]
  simp(disch:=omega)only[go_sem,seval,wqq,f1,f3]
theorem zjr {n:Int} (k:Int) (h:n≤0):n.tmod k≤0:=by
 have:=Int.tmod_nonneg k (show 0 ≤ -n by omega)
 rw[Int.neg_tmod] at this
 omega
def genC (n:Int):Int:=if n.tmod 5=1∨n.tmod 5 = -1 then (n.tdiv 5).tmod 10 else if n.tmod 5=2 then (n.tdiv 5).tmod 5000 else if n.tmod 5=3 then 1073741824-(n.tdiv 5).tmod 3 else if n.tmod 5 = -3 then-1073741824-(n.tdiv 5).tmod 3 else 0
def genP (xs:List Int):Nat→Int:=fun e=>genC (pk xs e)
theorem zii {n:Int} (h:Fits64 n) : -1073741824≤genC n∧genC n≤1073741824:=by
 unfold genC
 have a1:=za6 (n.tdiv 5) (n:=10) (by decide)
 have a2:=za6 (n.tdiv 5) (n:=5000) (by decide)
 have a3:=za6 (n.tdiv 5) (n:=3) (by decide)
 split
 ·omega
 ·split
  ·omega
  ·split
   ·rename_i q
    have:0≤n:=by
     rcases Int.lt_or_le n 0 with z|z
     ·have:=zjr 5 (Int.le_of_lt z);omega
     ·exact z
    have h0:0≤(n.tdiv 5).tmod 3:=Int.tmod_nonneg _ (Int.tdiv_nonneg this (by decide))
    omega
   ·split
    ·rename_i q
     have:n≤0:=by
      rcases Int.lt_or_le 0 n with z|z
      ·have:=Int.tmod_nonneg 5 (Int.le_of_lt z);omega
      ·exact z
     have h0:(n.tdiv 5).tmod 3≤0:=zjr _ (by have:=Int.tdiv_nonneg (show 0 ≤ -n by omega) (show (0:Int)≤5 by decide);rw[Int.neg_tdiv] at this;omega)
     omega
    ·omega
theorem zmc {xs:List Int} (hx:Ints xs):okC (genP xs):=fun e _=>zii (zbX hx _)
set_option maxHeartbeats 4000000 in
theorem zoW {xs:List Int} (hx:Ints xs):pf E0 395 [ints xs,.i .i64 0]=some (aI 20 (genP xs)):=by
 refine zab (xf:=zwV) rfl (by simp[zwV]) ?_
 simp only[zwV]
 simp(disch:=omega)only[go_sem,seval,wqq]
 refine zag zxz.eq_1 (fun(i:Nat) fr M=>i≤20∧fr 0=ints xs∧fr 1=.i .i64 0∧fr 4=.p 0 0∧fr 5=.p 1 0∧fr 6=(PV.i .i64 ((i:Nat):Int))∧∃f v,(∀e,e<i→f e=genP xs e)∧(∀e,i≤e→f e=0)∧M=[some ⟨cs 20 zF,true,0⟩,some ⟨cs 20 f,true,v⟩]) (fun i=>20-i) ?_ 0 ⟨by omega,by simp only[go_sem,seval],by simp only[go_sem,seval],by simp only[go_sem,seval],by simp only[go_sem,seval],by simp only[go_sem,seval],zF,0,fun e he=>by omega,fun _ _=>rfl,rfl⟩
 rintro i fr M ⟨hi,f0,f1,f4,f5,f6,f,v,hf,hz,rfl⟩ ih
 rcases Nat.lt_or_ge i 20 with h|h
 ·have q1:((i:Int)<20)=True:=eq_true (by omega)
  have qL:(i<20)=True:=eq_true h
  have zz:(0:Int)+(i:Int)=(i:Int):=Int.zero_add _
  have k:=zo4 hx (i:=(i:Int)) (by unfold Fits64;omega)
  have hg:genP xs i=genC (pk xs i):=rfl
  have bn:=zii (zbX hx i)
  have fn:=zbX hx i
  generalize pk xs i=n at *
  have a1:=za6 (n.tdiv 5) (n:=10) (by decide)
  have a2:=za6 (n.tdiv 5) (n:=5000) (by decide)
  have a3:=za6 (n.tdiv 5) (n:=3) (by decide)
  have wd:IntKind.wrap .i64 (n.tdiv 5)=n.tdiv 5:=by
   unfold Fits64 at fn
   have:(n.tdiv 5).natAbs=n.natAbs/5:=Int.natAbs_tdiv ..
   exact wqa (by omega) (by omega)
  have st:∀g,g=genC n→∀e,e<i+1→upd f i g e=genP xs e:=fun g hgg e he=>by
   unfold upd
   split
   ·rename_i z;rw[z,hg,hgg]
   ·exact hf e (by omega)
  have sz:∀g e,i+1≤e→upd f i g e=0:=fun g e he=>by rw[za7 (by omega)];exact hz e (by omega)
  unfold genC at bn st hg
  by_cases c1:n.tmod 5=1∨n.tmod 5 = -1
  ·rw[if_pos c1] at st bn
   rcases c1 with c1|c1
   ·simp(disch:=omega)only[go_sem,seval,wqq,f0,f1,f4,f5,f6,q1,qL,zz,k,c1,wd]
    exact ih (i+1) _ _ (by omega) ⟨by omega,by simp only[go_sem,seval,f0],by simp only[go_sem,seval,f1],by simp only[go_sem,seval,f4],by simp only[go_sem,seval,f5],by simp only[go_sem,seval,f6];rw[Int.natCast_succ],_,_,st _ rfl,sz _,rfl⟩
   ·simp(disch:=omega)only[go_sem,seval,wqq,f0,f1,f4,f5,f6,q1,qL,zz,k,c1,wd]
    exact ih (i+1) _ _ (by omega) ⟨by omega,by simp only[go_sem,seval,f0],by simp only[go_sem,seval,f1],by simp only[go_sem,seval,f4],by simp only[go_sem,seval,f5],by simp only[go_sem,seval,f6];rw[Int.natCast_succ],_,_,st _ rfl,sz _,rfl⟩
  ·rw[if_neg c1] at st bn hg
   have d1:(n.tmod 5=1)=False:=eq_false fun q=>c1 (.inl q)
   have d2:(n.tmod 5 = -1)=False:=eq_false fun q=>c1 (.inr q)
   by_cases c2:n.tmod 5=2
   ·rw[if_pos c2] at st bn
    simp(disch:=omega)only[go_sem,seval,wqq,f0,f1,f4,f5,f6,q1,qL,zz,k,c2,wd]
    exact ih (i+1) _ _ (by omega) ⟨by omega,by simp only[go_sem,seval,f0],by simp only[go_sem,seval,f1],by simp only[go_sem,seval,f4],by simp only[go_sem,seval,f5],by simp only[go_sem,seval,f6];rw[Int.natCast_succ],_,_,st _ rfl,sz _,rfl⟩
   ·rw[if_neg c2] at st bn hg
    by_cases c3:n.tmod 5=3
    ·rw[if_pos c3] at st bn
     simp(disch:=omega)only[go_sem,seval,wqq,f0,f1,f4,f5,f6,q1,qL,zz,k,c3,wd]
     exact ih (i+1) _ _ (by omega) ⟨by omega,by simp only[go_sem,seval,f0],by simp only[go_sem,seval,f1],by simp only[go_sem,seval,f4],by simp only[go_sem,seval,f5],by simp only[go_sem,seval,f6];rw[Int.natCast_succ],_,_,st _ rfl,sz _,rfl⟩
    ·rw[if_neg c3] at st bn hg
     by_cases c4:n.tmod 5 = -3
     ·rw[if_pos c4] at st bn
      simp(disch:=omega)only[go_sem,seval,wqq,f0,f1,f4,f5,f6,q1,qL,zz,k,c4,wd]
      exact ih (i+1) _ _ (by omega) ⟨by omega,by simp only[go_sem,seval,f0],by simp only[go_sem,seval,f1],by simp only[go_sem,seval,f4],by simp only[go_sem,seval,f5],by simp only[go_sem,seval,f6];rw[Int.natCast_succ],_,_,st _ rfl,sz _,rfl⟩
     ·rw[if_neg c4] at hg
      have d3:(n.tmod 5=2)=False:=eq_false c2
      have d4:(n.tmod 5=3)=False:=eq_false c3
      have d5:(n.tmod 5 = -3)=False:=eq_false c4
      simp(disch:=omega)only[go_sem,seval,wqq,f0,f1,f4,f5,f6,q1,qL,zz,k,d1,d2,d3,d4,d5]
      refine ih (i+1) _ _ (by omega) ⟨by omega,by simp only[go_sem,seval,f0],by simp only[go_sem,seval,f1],by simp only[go_sem,seval,f4],by simp only[go_sem,seval,f5],by simp only[go_sem,seval,f6];rw[Int.natCast_succ],f,_,fun e he=>?_,fun e he=>hz e (by omega),rfl⟩
      rcases Nat.lt_or_ge e i with z|z
      ·exact hf e z
      ·obtain rfl:e=i:=by omega
       rw[hz e (Nat.le_refl _),hg]
 ·obtain rfl:i=20:=by omega
  simp(disch:=omega)only[go_sem,seval,wqq,f0,f1,f4,f5,f6]
  rw[zhK (Y:=genP xs) (fun e he=>hf e he)]
end Go.Eng
namespace Go.Eng
noncomputable def cW (w:Nat→WI):List PV:=[.b (decide ((w 0).v<0)),D (w 0).v.natAbs,.b (decide ((w 1).v<0)),D (w 1).v.natAbs,.b (decide ((w 2).v<0)),D (w 2).v.natAbs,.b (decide ((w 3).v<0)),D (w 3).v.natAbs,.b (decide ((w 4).v<0)),D (w 4).v.natAbs,.b (decide ((w 5).v<0)),D (w 5).v.natAbs,.b (decide ((w 6).v<0)),D (w 6).v.natAbs,.b (decide ((w 7).v<0)),D (w 7).v.natAbs,.b (decide ((w 8).v<0)),D (w 8).v.natAbs]
noncomputable def mW (w:Nat→WI):PV:=.ag (cW w)
def cI (p:Nat→Int):List PV:=[.i .i64 (p 0),.i .i64 (p 1),.i .i64 (p 2),.i .i64 (p 3),.i .i64 (p 4),.i .i64 (p 5),.i .i64 (p 6),.i .i64 (p 7),.i .i64 (p 8)]
def pI (p:Nat→Int):PV:=.ag (cI p)
end Go.Eng
namespace Go.Eng
end Go.Eng
namespace Go.Eng
end Go.Eng
namespace Go.Eng
def gN (X:Nat→Int):Nat→Nat
 | 0=>0
 | i+1=>Nat.gcd (gN X i) (X i).natAbs
noncomputable def gW (x:Nat→WI):Nat→WI
 | 0=>wi0
 | i+1=>(gW x i).gcd (x i)
noncomputable def gC (x:Nat→WI):Nat→List PV
 | 0=>[.b false,.nl]
 | i+1=>[.b (decide ((gW x (i+1)).v<0)),D (gW x (i+1)).v.natAbs]
end Go.Eng
namespace Go.Eng
end Go.Eng
namespace Go.Eng
def sB (n:Nat):Nat→Bool:=fun e=>decide (e<n)
def rtK (a b c d e:Int):Int:=a*(b*c)-a*(d*e)
def rdV (z:Nat→Int):Int:=0+rtK (z 0) (z 4) (z 8) (z 5) (z 7)+rtK (z 1) (z 5) (z 6) (z 3) (z 8)+rtK (z 2) (z 3) (z 7) (z 4) (z 6)
end Go.Eng
namespace Go.Eng
end Go.Eng
namespace Go.Eng
end Go.Eng
namespace Go.Eng
def rpK (a b c d e f:Int):Int:=0+a*b+c*d+e*f
def rprV (z u:Nat→Int):Nat→Int:=fun e=>rpK (z (3*(e/3))) (u (e%3)) (z (3*(e/3)+1)) (u (3+e%3)) (z (3*(e/3)+2)) (u (6+e%3))
end Go.Eng
namespace Go.Eng
end Go.Eng
namespace Go.Eng
theorem zfx (a b:Int):wlen (a*b).natAbs≤wlen a.natAbs+wlen b.natAbs:=by
 rw[Int.natAbs_mul]
 refine zaD.2 ?_
 rw[Nat.pow_add]
 exact Nat.mul_lt_mul'' (zad _) (zad _)
theorem zkU (a b:Nat):wlen (a+b)≤max (wlen a) (wlen b)+1:=by
 refine zaD.2 ?_
 have h1:4294967296^wlen a≤4294967296^max (wlen a) (wlen b):=Nat.pow_le_pow_right (by decide) (Nat.le_max_left _ _)
 have h2:4294967296^wlen b≤4294967296^max (wlen a) (wlen b):=Nat.pow_le_pow_right (by decide) (Nat.le_max_right _ _)
 have h3:=zad a
 have h4:=zad b
 rw[Nat.pow_succ]
 generalize 4294967296^max (wlen a) (wlen b)=t at *
 omega
theorem zfv (a b:Int):wlen (a+b).natAbs≤max (wlen a.natAbs) (wlen b.natAbs)+1 :=
 Nat.le_trans (zbm (Int.natAbs_add_le a b)) (zkU _ _)
def mnV (X:Nat→Int) (i k:Nat):Int:=X (3*((i+1)%3)+(k+1)%3)*X (3*((i+2)%3)+(k+2)%3)-X (3*((i+1)%3)+(k+2)%3)*X (3*((i+2)%3)+(k+1)%3)
end Go.Eng
namespace Go.Eng
def mE:Nat→Int:=fun e=>monoI.getD e 0
theorem zk1:cst E0.glob (.p 1 0)=.fp (cs 60 mE):=rfl
def exN (i j:Nat):Nat:=(mE (i*3+j)).toNat
theorem zaQ:∀i,i<20→∀j,j<3→mE (i*3+j)=(exN i j:Int)∧exN i j≤3:=by decide
def pw3 (X:Nat→Int) (i:Nat):Nat→Int
 | 0=>1
 | j+1=>pw3 X i j*X j^exN i j
def moV (X:Nat→Int) (i:Nat):Int:=pw3 X i 3
def sumT (f:Nat→Int):Nat→Int
 | 0=>0
 | n+1=>sumT f n+f n
def s3 {α:Type} (a b c:α):Nat→α:=fun j=>if j=0 then a else if j=1 then b else c
noncomputable def wc (t:WI):List PV:=[.b (decide (t.v<0)),D t.v.natAbs]
theorem zpO (t:WI):wc t=[.b (decide (t.v<0)),D t.v.natAbs]:=_root_.id rfl
theorem zlL (t:WI):PV.ag (wc t)=wiP t:=_root_.id rfl
theorem zfu (t:WI):(wc t).length=2:=_root_.id rfl
theorem zf6 (t:WI):(wc t).take 2=wc t:=_root_.id rfl
theorem zjw (t u:WI):psplice (wc t) 0 [.b (decide (u.v<0)),D u.v.natAbs]=wc u:=_root_.id rfl
structure WZ (L:List PV) (s:WI):Prop where
 len:L.length=2
 sc:L.all PV.scal=true
 fz:∀(M:PM) (d:Nat),fzL (fz M (d+1)) L=some (wc s,[])
theorem WZ.tk {L:List PV} {s:WI} (h:WZ L s):L.take 2=L:=List.take_of_length_le (by rw[h.len];omega)
theorem WZ.spl {L:List PV} {s:WI} (h:WZ L s) (u:WI):psplice L 0 (wc u)=wc u:=by
 unfold psplice
 rw[List.take_zero,List.drop_eq_nil_of_le (by rw[h.len,zfu];omega),List.nil_append,List.append_nil]
theorem wz0:WZ [.b false,.nl] wi0:=⟨rfl,rfl,fun _ _=>rfl⟩
theorem wzs (s:WI):WZ (wc s) s:=⟨rfl,rfl,fun _ _=>rfl⟩
theorem zt2 (a b:PV) (L:List PV) (h:L.length=2):psplice [a,b] 0 L=L:=by
 unfold psplice
 rw[List.take_zero,List.drop_eq_nil_of_le (by rw[h];exact Nat.le_refl _),List.nil_append,List.append_nil]
theorem zfw {n:Int} (h:Fits64 n):wlen n.natAbs≤2:=by
 unfold Fits64 at h
 exact zaD.2 (by omega)
theorem zoA {t x:WI} {n m:Nat} (ht:wlen t.v.natAbs≤n) (hx:wlen x.v.natAbs≤m) (h:n+m≤512):(clip (t.v*x.v)).v=t.v*x.v∧wlen (t.v*x.v).natAbs≤n+m :=
 ⟨zgc (Nat.le_trans (zfx _ _) (by omega)),Nat.le_trans (zfx _ _) (by omega)⟩
theorem zqB {t x:WI} {n m:Nat} (ht:wlen t.v.natAbs≤n) (hx:wlen x.v.natAbs≤m) (h:max n m+1≤512):(clip (t.v+x.v)).v=t.v+x.v∧wlen (t.v+x.v).natAbs≤max n m+1 :=
 ⟨zgc (Nat.le_trans (zfv _ _) (by omega)),Nat.le_trans (zfv _ _) (by omega)⟩
theorem zdR {i:Nat} (h:i<3):i=0∨i=1∨i=2:=by omega
end Go.Eng
namespace Go.Eng
def rowM (i:Nat):Nat→Int:=fun e=>mE (i*3+e)
def degN (i:Nat):Nat:=exN i 0+exN i 1+exN i 2
theorem zm5 {i:Nat} (h:i<20):rowM i 0=(exN i 0:Int)∧rowM i 1=(exN i 1:Int)∧rowM i 2=(exN i 2:Int):=⟨(zaQ i h 0 (by decide)).1,(zaQ i h 1 (by decide)).1,(zaQ i h 2 (by decide)).1⟩
theorem zg4 {i:Nat} (h:i<20):((cs 60 mE).drop (i*3)).take 3=cs 3 (rowM i):=zc8 (n:=60) mE (off:=i*3) (k:=3) (by omega)
theorem zlw {i:Nat} (h:i<20):(3≤((cs 60 mE).drop (i*3)).length)=True:=eq_true (by rw[List.length_drop,zaO];omega)
theorem zm3:∀i,i<20→∀d,d<20→((∀e,e<3→rowM i e=rowM d e)↔i=d):=by decide
def dgR (c:Nat→Int):Nat→Int
 | 0 => -1
 | i+1=>if c i=0 then dgR c i else if (degN i:Int)>dgR c i then (degN i:Int) else dgR c i
@[go_sem] theorem zt1 (a0 a1 a2:PV) (Y:Nat→Int):psplice [a0,a1,a2] 0 (cs 3 Y)=cs 3 Y:=zes 3 _ Y rfl
theorem zs2 (X Y:Nat→Int):eqaP [1,1,1] (aI 3 X) (aI 3 Y)=some (decide (∀e:Nat,e<3→X e=Y e)):=zk0 3 X Y
set_option maxHeartbeats 4000000 in
theorem zko (c:Nat→Int):pf E0 399 [aI 20 c]=some (.i .i64 (dgR c 20)):=by
 refine zab (xf:=zv8) rfl (by simp[zv8]) ?_
 simp only[zv8]
 simp(disch:=omega)only[go_sem,seval,wqq]
 refine zag zxe.eq_1 (fun(i:Nat) fr M=>i≤20∧fr 3=.i .i64 (dgR c i)∧fr 7=aI 20 c∧fr 8=(PV.i .i64 ((i:Nat):Int))) (fun i=>20-i) ?_ 0 ⟨by omega,by simp only[go_sem,seval];rfl,by simp only[go_sem,seval],by simp only[go_sem,seval]⟩
 rintro i fr M ⟨hi,f3,f7,f8⟩ ih
 rcases Nat.lt_or_ge i 20 with h|h
 ·have q1:((i:Int)<20)=True:=eq_true (by omega)
  have qL:(i<20)=True:=eq_true h
  have ix:=zeX c h
  have rw3:=zg4 h
  have rl:=zlw h
  obtain⟨r0,r1,r2⟩:=zm5 h
  have e0:=(zaQ i h 0 (by decide)).2
  have e1:=(zaQ i h 1 (by decide)).2
  have e2:=(zaQ i h 2 (by decide)).2
  have sm:(exN i 0:Int)+(exN i 1:Int)+(exN i 2:Int)=(degN i:Int):=by unfold degN;omega
  by_cases c0:c i=0
  ·have hs:dgR c (i+1)=dgR c i:=if_pos c0
   have c0':(c i=0)=True:=eq_true c0
   simp(disch:=omega)only[go_sem,seval,wqq,f3,f7,f8,q1,qL,ix,zk1,rw3,rl,c0',zbv,mG,mG0,sG,sG0,lG,lqq]
   exact ih (i+1) _ _ (by omega) ⟨by omega,by simp only[go_sem,seval,f3,hs],by simp only[go_sem,seval,f7],by simp only[go_sem,seval,f8];rw[Int.natCast_succ]⟩
  ·have hs:dgR c (i+1)=if (degN i:Int)>dgR c i then (degN i:Int) else dgR c i:=if_neg c0
   have c0':(c i=0)=False:=eq_false c0
   simp(disch:=omega)only[go_sem,seval,wqq,f3,f7,f8,q1,qL,ix,zk1,rw3,rl,c0',zbv,r0,r1,r2,sm,mG,mG0,sG,sG0,lG,lqq]
   exact ih (i+1) _ _ (by omega) ⟨by omega,by simp only[go_sem,seval,f3,hs],by simp only[go_sem,seval,f7],by simp only[go_sem,seval,f8];rw[Int.natCast_succ]⟩
 ·obtain rfl:i=20:=by omega
  simp(disch:=omega)only[go_sem,seval,wqq,f3,f7,f8]
theorem zmL {d:Nat} (hd:d<20):pf E0 421 [aI 3 (rowM d)]=some ((PV.i .i64 ((d:Nat):Int))):=by
 refine zab (xf:=zwi) rfl (by simp[zwi]) ?_
 simp only[zwi]
 simp(disch:=omega)only[go_sem,seval,wqq]
 refine zag zxl.eq_1 (fun(i:Nat) fr M=>i≤d∧fr 1=.p 0 0∧fr 4=(PV.i .i64 ((i:Nat):Int))∧M=[some ⟨cs 3 (rowM d),true,0⟩]) (fun i=>20-i) ?_ 0 ⟨by omega,by simp only[go_sem,seval],by simp only[go_sem,seval],rfl⟩
 rintro i fr M ⟨hi,f1,f4,rfl⟩ ih
 have h:i<20:=by omega
 have q1:((i:Int)<20)=True:=eq_true (by omega)
 have qL:(i<20)=True:=eq_true h
 have rw3:=zg4 h
 have rl:=zlw h
 have re:=zm3 i h d hd
 by_cases hid:i=d
 ·subst hid
  have eq:eqaP [1,1,1] (aI 3 (rowM i)) (aI 3 (rowM i))=some true:=by rw[zs2];simp
  simp(disch:=omega)only[go_sem,seval,wqq,f1,f4,q1,qL,zk1,rw3,rl,eq,mG,mG0,sG,sG0,lG,lqq]
 ·have eq:eqaP [1,1,1] (aI 3 (rowM i)) (aI 3 (rowM d))=some false:=by rw[zs2,decide_eq_false fun q=>hid (re.1 q)]
  simp(disch:=omega)only[go_sem,seval,wqq,f1,f4,q1,qL,zk1,rw3,rl,eq,mG,mG0,sG,sG0,lG,lqq]
  exact ih (i+1) _ _ (by omega) ⟨by omega,by simp only[go_sem,seval,f1],by simp only[go_sem,seval,f4];rw[Int.natCast_succ],rfl⟩
end Go.Eng
namespace Go.Eng
def cg (n:Nat) (f:Nat→List PV):List PV:=(List.range n).flatMap f
theorem zcS (n:Nat) (f:Nat→List PV):cg (n+1) f=cg n f++f n:=by
 unfold cg
 rw[List.range_succ,List.flatMap_append];simp
theorem zdz {k:Nat} {f:Nat→List PV} (hf:∀e,(f e).length=k) (n:Nat):(cg n f).length=n*k:=by
 induction n with
 | zero=>simp[cg]
 | succ n ih=>rw[zcS,List.length_append,ih,hf,Nat.succ_mul]
theorem znP {f g:Nat→List PV} {n:Nat} (h:∀e,e<n→f e=g e):cg n f=cg n g:=by
 induction n with
 | zero=>rfl
 | succ n ih=>rw[zcS,zcS,ih (fun e he=>h e (by omega)),h n (by omega)]
theorem zc7 {k:Nat} {f:Nat→List PV} (hf:∀e,(f e).length=k) {n i:Nat} (h:i<n):((cg n f).drop (i*k)).take k=f i:=by
 induction n with
 | zero=>omega
 | succ n ih =>
  have hl:=zdz hf n
  rw[zcS]
  rcases Nat.lt_or_ge i n with q|q
  ·have:(i+1)*k≤n*k:=Nat.mul_le_mul_right _ q
   rw[Nat.succ_mul] at this
   rw[List.drop_append_of_le_length (by omega),List.take_append_of_le_length (by rw[List.length_drop];omega),ih q]
  ·obtain rfl:i=n:=by omega
   rw[List.drop_append,List.drop_eq_nil_of_le (by omega),hl,Nat.sub_self,List.drop_zero,List.nil_append,List.take_of_length_le (by rw[hf];exact Nat.le_refl _)]
theorem zlQ {k:Nat} {n i:Nat} (h:i<n):i*k+k≤n*k:=by
 have:(i+1)*k≤n*k:=Nat.mul_le_mul_right _ h
 rw[Nat.succ_mul] at this
 exact this
theorem zkX {k:Nat} {f:Nat→List PV} (hf:∀e,(f e).length=k) {n i:Nat} (h:i<n) {v:List PV} (hv:v.length=k):psplice (cg n f) (i*k) v=cg n (upd f i v):=by
 unfold psplice
 induction n with
 | zero=>omega
 | succ n ih =>
  have hl:=zdz hf n
  rw[zcS,zcS]
  rcases Nat.lt_or_ge i n with q|q
  ·have:=zlQ (k:=k) q
   rw[←ih q,List.take_append_of_le_length (by omega),List.drop_append_of_le_length (by omega),za7 (show n≠i by omega),List.append_assoc,List.append_assoc,List.append_assoc]
  ·obtain rfl:i=n:=by omega
   rw[List.take_append_of_le_length (by omega),List.drop_eq_nil_of_le (by simp[hl,hf,hv]),List.append_nil,zaI,List.take_of_length_le (by omega),znP (fun e he=>(za7 (show e≠i by omega)).symm)]
theorem znj {α β:Type} (F:α→β) (z:Nat→α) (i:Nat) (v:α):upd (fun e=>F (z e)) i (F v)=fun e=>F (upd z i v e):=funext fun e=>by
 unfold upd;split<;>rfl
end Go.Eng
namespace Go.Eng
def facT:List (List Int):=[[],[0],[1],[2],[0,0],[0,1],[0,2],[1,1],[1,2],[2,2],[0,0,0],[0,0,1],[0,0,2],[0,1,1],[0,1,2],[0,2,2],[1,1,1],[1,1,2],[1,2,2],[2,2,2]]
def facL (i:Nat):List Int:=facT.getD i []
def monP:PV:=.lst (facT.map ints)
set_option maxHeartbeats 4000000 in
theorem zlj:pf E0 418 []=some monP:=by
 refine zab (xf:=zvR) rfl (by simp[zvR]) ?_
 simp only[zvR]
 simp(disch:=omega)only[go_sem,seval,wqq]
 rfl
def prL (X:Nat→Int):List Int→Int
 | []=>1
 | a::l=>X a.toNat*prL X l
theorem zfm (X:Nat→Int):∀l:List Int,(∀a∈l,a=0∨a=1∨a=2)→prL X l=X 0^l.count 0*X 1^l.count 1*X 2^l.count 2
 | [],_=>by simp[prL]
 | a::l,h=>by
  have ih:=zfm X l fun b hb=>h b (List.mem_cons_of_mem _ hb)
  rw[prL,ih]
  rcases h a List.mem_cons_self with rfl|rfl|rfl
  ·rw[List.count_cons_self,List.count_cons_of_ne (by decide),List.count_cons_of_ne (by decide),Int.pow_succ]
   show X 0*_=_;grind
  ·rw[List.count_cons_self,List.count_cons_of_ne (by decide),List.count_cons_of_ne (by decide),Int.pow_succ]
   show X 1*_=_;grind
  ·rw[List.count_cons_self,List.count_cons_of_ne (by decide),List.count_cons_of_ne (by decide),Int.pow_succ]
   show X 2*_=_;grind
theorem zgo:∀i,i<20→(∀a∈facL i,a=0∨a=1∨a=2)∧(facL i).length≤3∧exN i 0=(facL i).count 0∧exN i 1=(facL i).count 1∧exN i 2=(facL i).count 2:=by decide
theorem zlb (X:Nat→Int) {i:Nat} (h:i<20):prL X (facL i)=moV X i:=by
 obtain⟨h1,_,h2,h3,h4⟩:=zgo i h
 rw[zfm X _ h1,←h2,←h3,←h4]
 show _=1*X 0^exN i 0*X 1^exN i 1*X 2^exN i 2
 rw[Int.one_mul]
theorem ziz {i:Nat} (h:i<20):idxP 1 monP (some i)=some (.fp [ints (facL i)]):=by
 unfold monP
 have:facT[i]?=some (facL i):=by
  unfold facL
  rw[List.getD,List.getElem?_eq_getElem (show i<facT.length from h)];rfl
 rw[zdo,List.getElem?_map,this];rfl
theorem zs4 {n:Int} (h:Fits64 n):tlen n.natAbs≤5:=by
 unfold Fits64 at h
 exact zah (by omega)
end Go.Eng
namespace Go.Eng
theorem zch (M:PM):appP M 1 8 .nl (ints [])=some (.nl,M):=rfl
theorem zci (M:PM) (m ln:Nat):appP M 1 8 (.sl m 0 ln ln 1) (ints [])=some (.sl m 0 ln ln 1,M):=rfl
end Go.Eng
namespace Go.Eng
theorem zl5:∀i,i<20→∀d,d<20→facL i=facL d→i=d:=by decide
theorem zor {a b:List Int} (h:a.length=b.length) (e:∀k,k<b.length→a.getD k 0=b.getD k 0):a=b:=by
 refine List.ext_getElem h fun k h1 h2=>?_
 have:=e k h2
 simpa [List.getD,List.getElem?_eq_getElem h1,List.getElem?_eq_getElem h2] using this
theorem zj5 {l:List Int} {k:Nat} (h:k<l.length):idxP 1 (ints l) (some k)=some (.fp [.i .i64 (l.getD k 0)]):=zfd (by rw[List.getD,List.getElem?_eq_getElem h];rfl)
set_option maxHeartbeats 4000000 in
theorem zkw {d:Nat} (hd:d<20):pf E0 424 [ints (facL d)]=some ((PV.i .i64 ((d:Nat):Int))):=by
 have l3:=(zgo d hd).2.1
 refine zab (xf:=zwt) rfl (by simp[zwt]) ?_
 simp only[zwt]
 simp(disch:=omega)only[go_sem,seval,wqq,zlj]
 refine zag zxt.eq_1 (fun(i:Nat) fr M=>i≤d∧fr 0=ints (facL d)∧fr 3=monP∧fr 4=(PV.i .i64 ((i:Nat):Int))∧M=[]) (fun i=>20-i) ?_ 0 ⟨by omega,by simp only[go_sem,seval],by simp only[go_sem,seval],by simp only[go_sem,seval],rfl⟩
 rintro i fr M ⟨hi,f0,f3,f4,rfl⟩ ih
 have h:i<20:=by omega
 have q1:((i:Int)<20)=True:=eq_true (by omega)
 have mi:=ziz h
 by_cases hid:i=d
 ·subst hid
  have le:(((facL i).length:Int)=((facL i).length:Int))=True:=eq_true rfl
  simp(disch:=omega)only[go_sem,seval,wqq,f0,f3,f4,q1,mi,le]
  refine zag zwl.eq_1 (fun(k:Nat) fr M=>k≤(facL i).length∧fr 0=ints (facL i)∧fr 3=monP∧fr 4=(PV.i .i64 ((i:Nat):Int))∧fr 5=.b true∧fr 6=(PV.i .i64 ((k:Nat):Int))∧M=[]) (fun k=>(facL i).length-k) ?_ 0 ⟨by omega,by simp only[go_sem,seval,f0],by simp only[go_sem,seval,f3],by simp only[go_sem,seval,f4],by simp only[go_sem,seval],by simp only[go_sem,seval],rfl⟩
  clear f0 f3 f4
  rintro k fr M ⟨hk,f0,f3,f4,f5,f6,rfl⟩ ih2
  rcases Nat.lt_or_ge k (facL i).length with h3|h3
  ·have q2:((k:Int)<((facL i).length:Int))=True:=eq_true (by omega)
   have gk:=zj5 h3
   have ee:((facL i).getD k 0=(facL i).getD k 0)=True:=eq_true rfl
   simp(disch:=omega)only[go_sem,seval,wqq,f0,f3,f4,f5,f6,q2,mi,gk,ee]
   exact ih2 (k+1) _ _ (by omega) ⟨by omega,by simp only[go_sem,seval,f0],by simp only[go_sem,seval,f3],by simp only[go_sem,seval,f4],by simp only[go_sem,seval],by simp only[go_sem,seval,f6];rw[Int.natCast_succ],rfl⟩
  ·obtain rfl:k=(facL i).length:=by omega
   have q2:(((facL i).length:Int)<((facL i).length:Int))=False:=eq_false (Int.lt_irrefl _)
   simp(disch:=omega)only[go_sem,seval,wqq,f0,f3,f4,f5,f6,q2]
 ·by_cases hl:(facL i).length=(facL d).length
  ·have le:(((facL i).length:Int)=((facL d).length:Int))=True:=eq_true (by omega)
   simp(disch:=omega)only[go_sem,seval,wqq,f0,f3,f4,q1,mi,le]
   refine zag zwl.eq_1 (fun(k:Nat) fr M=>k≤(facL d).length∧fr 0=ints (facL d)∧fr 3=monP∧fr 4=(PV.i .i64 ((i:Nat):Int))∧fr 6=(PV.i .i64 ((k:Nat):Int))∧M=[]∧((fr 5=.b true∧∀e,e<k→(facL i).getD e 0=(facL d).getD e 0)∨(fr 5=.b false∧0<k))) (fun k=>(facL d).length-k) ?_ 0 ⟨by omega,by simp only[go_sem,seval,f0],by simp only[go_sem,seval,f3],by simp only[go_sem,seval,f4],by simp only[go_sem,seval],rfl,.inl ⟨by simp only[go_sem,seval],fun e he=>by omega⟩⟩
   clear f0 f3 f4
   rintro k fr M ⟨hk,f0,f3,f4,f6,rfl,f5⟩ ih2
   rcases f5 with⟨f5,hs⟩|⟨f5,hs⟩
   ·rcases Nat.lt_or_ge k (facL d).length with h3|h3
    ·have q2:((k:Int)<((facL d).length:Int))=True:=eq_true (by omega)
     have gk:=zj5 h3
     have gi:=zj5 (show k<(facL i).length by omega)
     by_cases ee:(facL i).getD k 0=(facL d).getD k 0
     ·have ee':((facL i).getD k 0=(facL d).getD k 0)=True:=eq_true ee
      simp(disch:=omega)only[go_sem,seval,wqq,f0,f3,f4,f5,f6,q2,mi,gk,gi,ee']
      refine ih2 (k+1) _ _ (by omega) ⟨by omega,by simp only[go_sem,seval,f0],by simp only[go_sem,seval,f3],by simp only[go_sem,seval,f4],by simp only[go_sem,seval,f6];rw[Int.natCast_succ],rfl,.inl ⟨by simp only[go_sem,seval],fun e he=>?_⟩⟩
      rcases Nat.lt_or_ge e k with z|z
      ·exact hs e z
      ·obtain rfl:e=k:=by omega
       exact ee
     ·have ee':((facL i).getD k 0=(facL d).getD k 0)=False:=eq_false ee
      simp(disch:=omega)only[go_sem,seval,wqq,f0,f3,f4,f5,f6,q2,mi,gk,gi,ee']
      exact ih2 (k+1) _ _ (by omega) ⟨by omega,by simp only[go_sem,seval,f0],by simp only[go_sem,seval,f3],by simp only[go_sem,seval,f4],by simp only[go_sem,seval,f6];rw[Int.natCast_succ],rfl,.inr ⟨by simp only[go_sem,seval],by omega⟩⟩
    ·obtain rfl:k=(facL d).length:=by omega
     exact absurd (zl5 i h d hd (zor hl hs)) hid
   ·rcases zjD ((k:Int)<((facL d).length:Int)) with q2|q2
    ·simp(disch:=omega)only[go_sem,seval,wqq,f0,f3,f4,f5,f6,q2]
     exact ih (i+1) _ _ (by omega) ⟨by omega,by simp only[go_sem,seval,f0],by simp only[go_sem,seval,f3],by simp only[go_sem,seval,f4];rw[Int.natCast_succ],rfl⟩
    ·simp(disch:=omega)only[go_sem,seval,wqq,f0,f3,f4,f5,f6,q2]
     exact ih (i+1) _ _ (by omega) ⟨by omega,by simp only[go_sem,seval,f0],by simp only[go_sem,seval,f3],by simp only[go_sem,seval,f4];rw[Int.natCast_succ],rfl⟩
  ·have le:(((facL i).length:Int)=((facL d).length:Int))=False:=eq_false (by omega)
   simp(disch:=omega)only[go_sem,seval,wqq,f0,f3,f4,q1,mi,le]
   refine zao zwl.eq_1 ?_
   rcases zjD ((0:Int)<((facL d).length:Int)) with q2|q2
   ·simp(disch:=omega)only[go_sem,seval,wqq,f0,f3,f4,q2]
    exact ih (i+1) _ _ (by omega) ⟨by omega,by simp only[go_sem,seval,f0],by simp only[go_sem,seval,f3],by simp only[go_sem,seval,f4];rw[Int.natCast_succ],rfl⟩
   ·simp(disch:=omega)only[go_sem,seval,wqq,f0,f3,f4,q2]
    exact ih (i+1) _ _ (by omega) ⟨by omega,by simp only[go_sem,seval,f0],by simp only[go_sem,seval,f3],by simp only[go_sem,seval,f4];rw[Int.natCast_succ],rfl⟩
end Go.Eng
namespace Go.Eng
def dnN (i j:Nat):Nat:=((List.range 20).find? fun d=>decide (∀e:Nat,e<3→rowM d e=upd (rowM i) j (rowM i j-1) e)).getD 0
theorem znZ:∀i,i<20→∀j,j<3→exN i j≠0→dnN i j<20∧∀e,e<3→upd (rowM i) j (rowM i j-1) e=rowM (dnN i j) e:=by decide
def grJ (c:Nat→Int) (i:Nat) (g:Nat→Int):Nat→Nat→Int
 | 0=>g
 | j+1=>if exN i j=0 then grJ c i g j else upd (grJ c i g j) (j*20+dnN i j) (exN i j*c i)
def grI (c:Nat→Int):Nat→Nat→Int
 | 0=>zF
 | i+1=>grJ c i (grI c i) 3
def gRow (g:Nat→Int) (f:Nat):Nat→Int:=fun e=>g (f*20+e)
open Classical in
noncomputable def grE (c:Nat→Int):Int:=if okC c then (if ∀f,f<3→okC (gRow (grI c 20) f) then 0 else 5) else 1
noncomputable def grV (c:Nat→Int):Nat→Int:=if grE c=0 then grI c 20 else zF
theorem z60:[PV.i .i64 0,PV.i .i64 0,PV.i .i64 0,PV.i .i64 0,PV.i .i64 0,PV.i .i64 0,PV.i .i64 0,PV.i .i64 0,PV.i .i64 0,PV.i .i64 0,PV.i .i64 0,PV.i .i64 0,PV.i .i64 0,PV.i .i64 0,PV.i .i64 0,PV.i .i64 0,PV.i .i64 0,PV.i .i64 0,PV.i .i64 0,PV.i .i64 0,PV.i .i64 0,PV.i .i64 0,PV.i .i64 0,PV.i .i64 0,PV.i .i64 0,PV.i .i64 0,PV.i .i64 0,PV.i .i64 0,PV.i .i64 0,PV.i .i64 0,PV.i .i64 0,PV.i .i64 0,PV.i .i64 0,PV.i .i64 0,PV.i .i64 0,PV.i .i64 0,PV.i .i64 0,PV.i .i64 0,PV.i .i64 0,PV.i .i64 0,PV.i .i64 0,PV.i .i64 0,PV.i .i64 0,PV.i .i64 0,PV.i .i64 0,PV.i .i64 0,PV.i .i64 0,PV.i .i64 0,PV.i .i64 0,PV.i .i64 0,PV.i .i64 0,PV.i .i64 0,PV.i .i64 0,PV.i .i64 0,PV.i .i64 0,PV.i .i64 0,PV.i .i64 0,PV.i .i64 0,PV.i .i64 0,PV.i .i64 0]=cs 60 zF:=rfl
theorem ztV (g:Nat→Int) {f:Nat} (h:f<3):iagP 3 true 20 (aI 60 g) (some f)=some (aI 20 (gRow g f)):=by
 unfold aI
 rw[zdF,if_pos ⟨h,by rw[zaO]⟩,zc8 g (by omega)];rfl
theorem zmD {c:Nat→Int} (h:¬okC c):pf E0 407 [aI 20 c]=some (.tu [aI 60 zF,.i .i64 1]):=by
 have va:=zaK c
 have:vlC c=1:=if_neg h
 rw[this] at va
 refine zab (xf:=zvH) rfl (by simp[zvH]) ?_
 simp only[zvH]
 simp(disch:=omega)only[go_sem,seval,wqq,va,z60]
set_option maxHeartbeats 8000000 in
theorem zmE {c:Nat→Int} (hc:okC c):pf E0 407 [aI 20 c]=some (.tu [aI 60 (grV c),.i .i64 (grE c)]):=by
 have va:=zaK c
 have:vlC c=0:=if_pos hc
 rw[this] at va
 refine zab (xf:=zvH) rfl (by simp[zvH]) ?_
 simp only[zvH]
 simp(disch:=omega)only[go_sem,seval,wqq,va,z60,zk1]
 refine zag zxw.eq_1 (fun(i:Nat) fr M=>i≤20∧fr 1=.p 0 0∧fr 2=.p 1 0∧fr 5=.p 2 0∧fr 19=aI 60 mE∧fr 20=(PV.i .i64 ((i:Nat):Int))∧∃v G,M=some ⟨cs 20 c,true,0⟩::some ⟨cs 60 zF,true,0⟩::some ⟨cs 60 (grI c i),true,v⟩::G) (fun i=>20-i) ?_ 0 ⟨by omega,by simp only[go_sem,seval],by simp only[go_sem,seval],by simp only[go_sem,seval],by simp only[go_sem,seval],by simp only[go_sem,seval],_,[],rfl⟩
 rintro i fr M ⟨hi,f1,f2,f5,f19,f20,v,G,rfl⟩ ih
 rcases Nat.lt_or_ge i 20 with h|h
 ·have q1:((i:Int)<20)=True:=eq_true (by omega)
  have qL:(i<20)=True:=eq_true h
  have ia:iagP 20 true 3 (aI 60 mE) (some i)=some (aI 3 (rowM i)):=by
   unfold aI
   rw[zdF,if_pos ⟨h,by rw[zaO]⟩,zg4 h];rfl
  simp(disch:=omega)only[go_sem,seval,wqq,f1,f2,f5,f19,f20,q1,qL,ia,mG,mG0,sG,sG0,lG,lqq]
  refine zag zxr.eq_1 (fun(j:Nat) fr M=>j≤3∧fr 1=.p 0 0∧fr 2=.p 1 0∧fr 5=.p 2 0∧fr 6=(PV.i .i64 ((i:Nat):Int))∧fr 7=.p (G.length+3) 0∧fr 19=aI 60 mE∧fr 20=(PV.i .i64 ((i:Nat):Int))∧fr 24=aI 3 (rowM i)∧fr 25=(PV.i .i64 ((j:Nat):Int))∧∃v vr H,M=some ⟨cs 20 c,true,0⟩::some ⟨cs 60 zF,true,0⟩::some ⟨cs 60 (grJ c i (grI c i) j),true,v⟩::(G++some ⟨cs 3 (rowM i),true,vr⟩::H)) (fun j=>3-j) ?_ 0 ⟨by omega,by simp only[go_sem,seval,f1],by simp only[go_sem,seval,f2],by simp only[go_sem,seval,f5],by simp only[go_sem,seval],by simp only[go_sem,seval],by simp only[go_sem,seval,f19],by simp only[go_sem,seval,f20],by simp only[go_sem,seval],by simp only[go_sem,seval],_,_,[],rfl⟩
  rintro j fr M ⟨hj,f1,f2,f5,f6,f7,f19,f20,f24,f25,v,vr,H,rfl⟩ ih2
  rcases Nat.lt_or_ge j 3 with h3|h3
  ·have q2:((j:Int)<3)=True:=eq_true (by omega)
   have qJ:(j<3)=True:=eq_true h3
   have iy:=zeX (rowM i) h3
   obtain⟨e1,e2⟩:=zaQ i h j h3
   have e1:rowM i j=(exN i j:Int):=e1
   rw[e1] at iy
   by_cases z:exN i j=0
   ·have zz:((exN i j:Int)=0)=True:=eq_true (by omega)
    have hs:grJ c i (grI c i) (j+1)=grJ c i (grI c i) j:=if_pos z
    simp(disch:=omega)only[go_sem,seval,wqq,f1,f2,f5,f6,f7,f19,f20,f24,f25,q2,qJ,iy,zz,mG,mG0,sG,sG0,lG,lqq]
    exact ih2 (j+1) _ _ (by omega) ⟨by omega,by simp only[go_sem,seval,f1],by simp only[go_sem,seval,f2],by simp only[go_sem,seval,f5],by simp only[go_sem,seval,f6],by simp only[go_sem,seval,f7],by simp only[go_sem,seval,f19],by simp only[go_sem,seval,f20],by simp only[go_sem,seval,f24],by simp only[go_sem,seval,f25];rw[Int.natCast_succ],_,_,_,by rw[hs]⟩
   ·have zz:((exN i j:Int)=0)=False:=eq_false (by omega)
    have hs:grJ c i (grI c i) (j+1)=upd (grJ c i (grI c i) j) (j*20+dnN i j) (exN i j*c i):=if_neg z
    obtain⟨d1,d2⟩:=znZ i h j h3 z
    rw[e1] at d2
    have dd:cs 3 (upd (rowM i) j ((exN i j:Int)-1))=cs 3 (rowM (dnN i j)):=zge d2
    have dx:=zmL d1
    have cg1:=zbv (n:=20) c h
    have cj:=zbv (n:=3) (rowM i) h3
    rw[e1] at cj
    have qD:(dnN i j<20)=True:=eq_true d1
    have qS:(j*20+dnN i j<60)=True:=eq_true (by omega)
    have bc:=hc i h
    have be : -3221225472≤(exN i j:Int)*c i∧(exN i j:Int)*c i≤3221225472:=by
     obtain q|q|q:exN i j=1∨exN i j=2∨exN i j=3:=by omega
     all_goals (rw[q];omega)
    simp(disch:=omega)only[go_sem,seval,wqq,f1,f2,f5,f6,f7,f19,f20,f24,f25,q2,qJ,iy,zz,cj,dd,mG,mG0,sG,sG0,lG,lqq]
    refine zcg [42] rfl ?_ ?_
    ·simp(disch:=omega)only[go_sem,seval,wqq,f1,f2,f5,f6,f7,f19,f20,f24,f25,q2,qJ,qL,qD,qS,iy,zz,cj,dd,dx,cg1,mG,mG0,sG,sG0,lG,lqq]
     exact⟨_,rfl,rfl⟩
    simp(disch:=omega)only[go_sem,seval,wqq,f1,f2,f5,f6,f7,f19,f20,f24,f25,q2,qJ,qL,qD,qS,iy,zz,cj,dd,dx,cg1,mG,mG0,sG,sG0,lG,lqq]
    exact ih2 (j+1) _ _ (by omega) ⟨by omega,by simp only[go_sem,seval,f1],by simp only[go_sem,seval,f2],by simp only[go_sem,seval,f5],by simp only[go_sem,seval,f6],by simp only[go_sem,seval,f7],by simp only[go_sem,seval,f19],by simp only[go_sem,seval,f20],by simp only[go_sem,seval,f24],by simp only[go_sem,seval,f25];rw[Int.natCast_succ],_,_,_,by rw[hs]⟩
  ·obtain rfl:j=3:=by omega
   simp(disch:=omega)only[go_sem,seval,wqq,f1,f2,f5,f6,f7,f19,f20,f24,f25,mG,mG0,sG,sG0,lG,lqq]
   exact ih (i+1) _ _ (by omega) ⟨by omega,by simp only[go_sem,seval,f1],by simp only[go_sem,seval,f2],by simp only[go_sem,seval,f5],by simp only[go_sem,seval,f19],by simp only[go_sem,seval,f20];rw[Int.natCast_succ],_,_,rfl⟩
 ·obtain rfl:i=20:=by omega
  clear ih
  simp(disch:=omega)only[go_sem,seval,wqq,f1,f2,f5,f19,f20,mG,mG0,sG,sG0,lG,lqq]
  by_cases hg:∀f,f<3→okC (gRow (grI c 20) f)
  ·have e1:grE c=0:=by unfold grE;rw[if_pos hc,if_pos hg]
   have e2:grV c=grI c 20:=by unfold grV;rw[e1];rfl
   rw[e1,e2]
   refine zag zwY.eq_1 (fun(f:Nat) fr M=>f≤3∧fr 2=.p 1 0∧fr 5=.p 2 0∧fr 49=aI 60 (grI c 20)∧fr 50=(PV.i .i64 ((f:Nat):Int))∧∃b0 v G,M=b0::some ⟨cs 60 zF,true,0⟩::some ⟨cs 60 (grI c 20),true,v⟩::G) (fun f=>3-f) ?_ 0 ⟨by omega,by simp only[go_sem,seval,f2],by simp only[go_sem,seval,f5],by simp only[go_sem,seval],by simp only[go_sem,seval],_,_,_,rfl⟩
   clear f1 f2 f5 f19 f20
   rintro f fr M ⟨hf,f2,f5,f49,f50,b0,v,G,rfl⟩ ih
   rcases Nat.lt_or_ge f 3 with h3|h3
   ·have q1:((f:Int)<3)=True:=eq_true (by omega)
    have ia:=ztV (grI c 20) h3
    have vb:=zaK (gRow (grI c 20) f)
    have:vlC (gRow (grI c 20) f)=0:=if_pos (hg f h3)
    rw[this] at vb
    simp(disch:=omega)only[go_sem,seval,wqq,f2,f5,f49,f50,q1,ia,vb,mG,mG0,sG,sG0,lG,lqq]
    exact ih (f+1) _ _ (by omega) ⟨by omega,by simp only[go_sem,seval,f2],by simp only[go_sem,seval,f5],by simp only[go_sem,seval,f49],by simp only[go_sem,seval,f50];rw[Int.natCast_succ],_,_,_,rfl⟩
   ·obtain rfl:f=3:=by omega
    simp(disch:=omega)only[go_sem,seval,wqq,f2,f5,f49,f50,mG,mG0,sG,sG0,lG,lqq]
  ·have e1:grE c=5:=by unfold grE;rw[if_pos hc,if_neg hg]
   have e2:grV c=zF:=by unfold grV;rw[e1];rfl
   rw[e1,e2]
   refine zag zwY.eq_1 (fun(f:Nat) fr M=>f≤3∧(∀e,e<f→okC (gRow (grI c 20) e))∧fr 2=.p 1 0∧fr 5=.p 2 0∧fr 49=aI 60 (grI c 20)∧fr 50=(PV.i .i64 ((f:Nat):Int))∧∃b0 v G,M=b0::some ⟨cs 60 zF,true,0⟩::some ⟨cs 60 (grI c 20),true,v⟩::G) (fun f=>3-f) ?_ 0 ⟨by omega,fun e he=>by omega,by simp only[go_sem,seval,f2],by simp only[go_sem,seval,f5],by simp only[go_sem,seval],by simp only[go_sem,seval],_,_,_,rfl⟩
   clear f1 f2 f5 f19 f20
   rintro f fr M ⟨hf,hlo,f2,f5,f49,f50,b0,v,G,rfl⟩ ih
   have h3:f<3:=by
    rcases Nat.lt_or_ge f 3 with z|z
    ·exact z
    ·obtain rfl:f=3:=by omega
     exact absurd hlo hg
   have q1:((f:Int)<3)=True:=eq_true (by omega)
   have ia:=ztV (grI c 20) h3
   have vb:=zaK (gRow (grI c 20) f)
   by_cases ok:okC (gRow (grI c 20) f)
   ·have:vlC (gRow (grI c 20) f)=0:=if_pos ok
    rw[this] at vb
    simp(disch:=omega)only[go_sem,seval,wqq,f2,f5,f49,f50,q1,ia,vb,mG,mG0,sG,sG0,lG,lqq]
    refine ih (f+1) _ _ (by omega) ⟨by omega,fun e he=>?_,by simp only[go_sem,seval,f2],by simp only[go_sem,seval,f5],by simp only[go_sem,seval,f49],by simp only[go_sem,seval,f50];rw[Int.natCast_succ],_,_,_,rfl⟩
    rcases Nat.lt_or_ge e f with z|z
    ·exact hlo e z
    ·obtain rfl:e=f:=by omega
     exact ok
   ·have:vlC (gRow (grI c 20) f)=1:=if_neg ok
    rw[this] at vb
    simp(disch:=omega)only[go_sem,seval,wqq,f2,f5,f49,f50,q1,ia,vb,z60,mG,mG0,sG,sG0,lG,lqq]
theorem zgI (c:Nat→Int):pf E0 407 [aI 20 c]=some (.tu [aI 60 (grV c),.i .i64 (grE c)]):=by
 by_cases hc:okC c
 ·exact zmE hc
 ·have e1:grE c=1:=if_neg hc
  have e2:grV c=zF:=by unfold grV;rw[e1];rfl
  rw[e1,e2]
  exact zmD hc
end Go.Eng
namespace Go.Eng
theorem zo6  (f:Int):pf E0 422 [ints [],.i .i64 f]=some (.tu [ints [],.b false]):=by
 have gn:PV.lst []=ints []:=rfl
 refine zab (xf:=zvi) rfl (by simp[zvi]) ?_
 simp only[zvi]
 simp(disch:=omega)only[go_sem,seval,wqq]
 refine zao zvj.eq_1 ?_
 simp(disch:=omega)only[go_sem,seval,wqq,gn,List.length_cons,List.length_nil]
theorem zo7  (f:Int):pf E0 422 [ints [f],.i .i64 f]=some (.tu [ints [],.b true]):=by
 have g0:idxP 1 (ints [f]) (some 0)=some (.fp [.i .i64 f]):=rfl
 have s0:slP 1 (ints [f]) none (some (.i .i64 0)) none=some (ints []):=rfl
 have s1:slP 1 (ints [f]) (some (.i .i64 1)) none none=some (ints []):=rfl
 have gn:PV.lst []=ints []:=rfl
 refine zab (xf:=zvi) rfl (by simp[zvi]) ?_
 simp only[zvi]
 simp(disch:=omega)only[go_sem,seval,wqq]
 refine zao zvj.eq_1 ?_
 simp(disch:=omega)only[go_sem,seval,wqq,g0,s0,s1,zch,zci,gn,List.length_cons,List.length_nil]
theorem zo8 (a:Int) (f:Int) (ha:a≠f):pf E0 422 [ints [a],.i .i64 f]=some (.tu [ints [],.b false]):=by
 have g0:idxP 1 (ints [a]) (some 0)=some (.fp [.i .i64 a]):=rfl
 have qa:(a=f)=False:=eq_false ha
 have gn:PV.lst []=ints []:=rfl
 refine zab (xf:=zvi) rfl (by simp[zvi]) ?_
 simp only[zvi]
 simp(disch:=omega)only[go_sem,seval,wqq]
 refine zao zvj.eq_1 ?_
 simp(disch:=omega)only[go_sem,seval,wqq,g0,qa,gn,List.length_cons,List.length_nil]
 refine zao zvj.eq_1 ?_
 simp(disch:=omega)only[go_sem,seval,wqq,g0,qa,gn,List.length_cons,List.length_nil]
theorem zo9 (b:Int) (f:Int):pf E0 422 [ints [f,b],.i .i64 f]=some (.tu [ints [b],.b true]):=by
 have g0:idxP 1 (ints [f,b]) (some 0)=some (.fp [.i .i64 f]):=rfl
 have g1:idxP 1 (ints [f,b]) (some 1)=some (.fp [.i .i64 b]):=rfl
 have s0:slP 1 (ints [f,b]) none (some (.i .i64 0)) none=some (ints []):=rfl
 have s1:slP 1 (ints [f,b]) (some (.i .i64 1)) none none=some (ints [b]):=rfl
 have f2:appP ([]:PM) 1 8 .nl (ints [b])=some (.sl 0 0 1 1 1,[some ⟨[.i .i64 b],true,0⟩]):=rfl
 have gr:PV.lst (group 1 1 [.i .i64 b])=ints [b]:=rfl
 refine zab (xf:=zvi) rfl (by simp[zvi]) ?_
 simp only[zvi]
 simp(disch:=omega)only[go_sem,seval,wqq]
 refine zao zvj.eq_1 ?_
 simp(disch:=omega)only[go_sem,seval,wqq,g0,g1,s0,s1,zch,zci,f2,gr,List.length_cons,List.length_nil]
theorem zpa (a:Int) (f:Int) (ha:a≠f):pf E0 422 [ints [a,f],.i .i64 f]=some (.tu [ints [a],.b true]):=by
 have g0:idxP 1 (ints [a,f]) (some 0)=some (.fp [.i .i64 a]):=rfl
 have g1:idxP 1 (ints [a,f]) (some 1)=some (.fp [.i .i64 f]):=rfl
 have qa:(a=f)=False:=eq_false ha
 have s0:slP 1 (ints [a,f]) none (some (.i .i64 1)) none=some (ints [a]):=rfl
 have s1:slP 1 (ints [a,f]) (some (.i .i64 2)) none none=some (ints []):=rfl
 have f2:appP ([]:PM) 1 8 .nl (ints [a])=some (.sl 0 0 1 1 1,[some ⟨[.i .i64 a],true,0⟩]):=rfl
 have gr:PV.lst (group 1 1 [.i .i64 a])=ints [a]:=rfl
 refine zab (xf:=zvi) rfl (by simp[zvi]) ?_
 simp only[zvi]
 simp(disch:=omega)only[go_sem,seval,wqq]
 refine zao zvj.eq_1 ?_
 simp(disch:=omega)only[go_sem,seval,wqq,g0,g1,qa,s0,s1,zch,zci,f2,gr,List.length_cons,List.length_nil]
 refine zao zvj.eq_1 ?_
 simp(disch:=omega)only[go_sem,seval,wqq,g0,g1,qa,s0,s1,zch,zci,f2,gr,List.length_cons,List.length_nil]
theorem zpb (a:Int) (b:Int) (f:Int) (ha:a≠f) (hb:b≠f):pf E0 422 [ints [a,b],.i .i64 f]=some (.tu [ints [],.b false]):=by
 have g0:idxP 1 (ints [a,b]) (some 0)=some (.fp [.i .i64 a]):=rfl
 have g1:idxP 1 (ints [a,b]) (some 1)=some (.fp [.i .i64 b]):=rfl
 have qa:(a=f)=False:=eq_false ha
 have qb:(b=f)=False:=eq_false hb
 have gn:PV.lst []=ints []:=rfl
 refine zab (xf:=zvi) rfl (by simp[zvi]) ?_
 simp only[zvi]
 simp(disch:=omega)only[go_sem,seval,wqq]
 refine zao zvj.eq_1 ?_
 simp(disch:=omega)only[go_sem,seval,wqq,g0,g1,qa,qb,gn,List.length_cons,List.length_nil]
 refine zao zvj.eq_1 ?_
 simp(disch:=omega)only[go_sem,seval,wqq,g0,g1,qa,qb,gn,List.length_cons,List.length_nil]
 refine zao zvj.eq_1 ?_
 simp(disch:=omega)only[go_sem,seval,wqq,g0,g1,qa,qb,gn,List.length_cons,List.length_nil]
theorem zpc (b:Int) (c:Int) (f:Int):pf E0 422 [ints [f,b,c],.i .i64 f]=some (.tu [ints [b,c],.b true]):=by
 have g0:idxP 1 (ints [f,b,c]) (some 0)=some (.fp [.i .i64 f]):=rfl
 have g1:idxP 1 (ints [f,b,c]) (some 1)=some (.fp [.i .i64 b]):=rfl
 have g2:idxP 1 (ints [f,b,c]) (some 2)=some (.fp [.i .i64 c]):=rfl
 have s0:slP 1 (ints [f,b,c]) none (some (.i .i64 0)) none=some (ints []):=rfl
 have s1:slP 1 (ints [f,b,c]) (some (.i .i64 1)) none none=some (ints [b,c]):=rfl
 have f2:appP ([]:PM) 1 8 .nl (ints [b,c])=some (.sl 0 0 2 2 1,[some ⟨[.i .i64 b,.i .i64 c],true,0⟩]):=rfl
 have gr:PV.lst (group 1 2 [.i .i64 b,.i .i64 c])=ints [b,c]:=rfl
 refine zab (xf:=zvi) rfl (by simp[zvi]) ?_
 simp only[zvi]
 simp(disch:=omega)only[go_sem,seval,wqq]
 refine zao zvj.eq_1 ?_
 simp(disch:=omega)only[go_sem,seval,wqq,g0,g1,g2,s0,s1,zch,zci,f2,gr,List.length_cons,List.length_nil]
theorem zpd (a:Int) (c:Int) (f:Int) (ha:a≠f):pf E0 422 [ints [a,f,c],.i .i64 f]=some (.tu [ints [a,c],.b true]):=by
 have g0:idxP 1 (ints [a,f,c]) (some 0)=some (.fp [.i .i64 a]):=rfl
 have g1:idxP 1 (ints [a,f,c]) (some 1)=some (.fp [.i .i64 f]):=rfl
 have g2:idxP 1 (ints [a,f,c]) (some 2)=some (.fp [.i .i64 c]):=rfl
 have qa:(a=f)=False:=eq_false ha
 have s0:slP 1 (ints [a,f,c]) none (some (.i .i64 1)) none=some (ints [a]):=rfl
 have s1:slP 1 (ints [a,f,c]) (some (.i .i64 2)) none none=some (ints [c]):=rfl
 have f2:appP ([]:PM) 1 8 .nl (ints [a])=some (.sl 0 0 1 1 1,[some ⟨[.i .i64 a],true,0⟩]):=rfl
 have f3:appP ([some ⟨[.i .i64 a],true,0⟩]:PM) 1 8 (.sl 0 0 1 1 1) (ints [c])=some (.sl 1 0 2 2 1,[none,some ⟨[.i .i64 a,.i .i64 c],true,0⟩]):=rfl
 have gr:PV.lst (group 1 2 [.i .i64 a,.i .i64 c])=ints [a,c]:=rfl
 refine zab (xf:=zvi) rfl (by simp[zvi]) ?_
 simp only[zvi]
 simp(disch:=omega)only[go_sem,seval,wqq]
 refine zao zvj.eq_1 ?_
 simp(disch:=omega)only[go_sem,seval,wqq,g0,g1,g2,qa,s0,s1,zch,zci,f2,f3,gr,List.length_cons,List.length_nil]
 refine zao zvj.eq_1 ?_
 simp(disch:=omega)only[go_sem,seval,wqq,g0,g1,g2,qa,s0,s1,zch,zci,f2,f3,gr,List.length_cons,List.length_nil]
theorem zpe (a:Int) (b:Int) (f:Int) (ha:a≠f) (hb:b≠f):pf E0 422 [ints [a,b,f],.i .i64 f]=some (.tu [ints [a,b],.b true]):=by
 have g0:idxP 1 (ints [a,b,f]) (some 0)=some (.fp [.i .i64 a]):=rfl
 have g1:idxP 1 (ints [a,b,f]) (some 1)=some (.fp [.i .i64 b]):=rfl
 have g2:idxP 1 (ints [a,b,f]) (some 2)=some (.fp [.i .i64 f]):=rfl
 have qa:(a=f)=False:=eq_false ha
 have qb:(b=f)=False:=eq_false hb
 have s0:slP 1 (ints [a,b,f]) none (some (.i .i64 2)) none=some (ints [a,b]):=rfl
 have s1:slP 1 (ints [a,b,f]) (some (.i .i64 3)) none none=some (ints []):=rfl
 have f2:appP ([]:PM) 1 8 .nl (ints [a,b])=some (.sl 0 0 2 2 1,[some ⟨[.i .i64 a,.i .i64 b],true,0⟩]):=rfl
 have gr:PV.lst (group 1 2 [.i .i64 a,.i .i64 b])=ints [a,b]:=rfl
 refine zab (xf:=zvi) rfl (by simp[zvi]) ?_
 simp only[zvi]
 simp(disch:=omega)only[go_sem,seval,wqq]
 refine zao zvj.eq_1 ?_
 simp(disch:=omega)only[go_sem,seval,wqq,g0,g1,g2,qa,qb,s0,s1,zch,zci,f2,gr,List.length_cons,List.length_nil]
 refine zao zvj.eq_1 ?_
 simp(disch:=omega)only[go_sem,seval,wqq,g0,g1,g2,qa,qb,s0,s1,zch,zci,f2,gr,List.length_cons,List.length_nil]
 refine zao zvj.eq_1 ?_
 simp(disch:=omega)only[go_sem,seval,wqq,g0,g1,g2,qa,qb,s0,s1,zch,zci,f2,gr,List.length_cons,List.length_nil]
theorem zpf (a:Int) (b:Int) (c:Int) (f:Int) (ha:a≠f) (hb:b≠f) (hc:c≠f):pf E0 422 [ints [a,b,c],.i .i64 f]=some (.tu [ints [],.b false]):=by
 have g0:idxP 1 (ints [a,b,c]) (some 0)=some (.fp [.i .i64 a]):=rfl
 have g1:idxP 1 (ints [a,b,c]) (some 1)=some (.fp [.i .i64 b]):=rfl
 have g2:idxP 1 (ints [a,b,c]) (some 2)=some (.fp [.i .i64 c]):=rfl
 have qa:(a=f)=False:=eq_false ha
 have qb:(b=f)=False:=eq_false hb
 have qc:(c=f)=False:=eq_false hc
 have gn:PV.lst []=ints []:=rfl
 refine zab (xf:=zvi) rfl (by simp[zvi]) ?_
 simp only[zvi]
 simp(disch:=omega)only[go_sem,seval,wqq]
 refine zao zvj.eq_1 ?_
 simp(disch:=omega)only[go_sem,seval,wqq,g0,g1,g2,qa,qb,qc,gn,List.length_cons,List.length_nil]
 refine zao zvj.eq_1 ?_
 simp(disch:=omega)only[go_sem,seval,wqq,g0,g1,g2,qa,qb,qc,gn,List.length_cons,List.length_nil]
 refine zao zvj.eq_1 ?_
 simp(disch:=omega)only[go_sem,seval,wqq,g0,g1,g2,qa,qb,qc,gn,List.length_cons,List.length_nil]
 refine zao zvj.eq_1 ?_
 simp(disch:=omega)only[go_sem,seval,wqq,g0,g1,g2,qa,qb,qc,gn,List.length_cons,List.length_nil]
theorem ziZ {l:List Int} (h:l.length≤3) (f:Int):pf E0 422 [ints l,.i .i64 f]=some (.tu [ints (if f∈l then l.erase f else []),.b (decide (f∈l))]):=by
 match l,h with
 | [],_=>exact zo6 f
 | [a],_ =>
  by_cases ha:a=f
  ·subst ha;simpa using zo7 a
  ·have hb:¬f=a:=fun q=>ha q.symm
   simpa [ha,hb] using zo8 a f ha
 | [a,b],_ =>
  by_cases ha:a=f
  ·subst ha;simpa using zo9 b a
  ·have ha':¬f=a:=fun q=>ha q.symm
   by_cases hb:b=f
   ·subst hb;simpa [ha,ha',List.erase_cons] using zpa a b ha
   ·have hb':¬f=b:=fun q=>hb q.symm
    simpa [ha,ha',hb,hb'] using zpb a b f ha hb
 | [a,b,c],_ =>
  by_cases ha:a=f
  ·subst ha;simpa using zpc b c a
  ·have ha':¬f=a:=fun q=>ha q.symm
   by_cases hb:b=f
   ·subst hb;simpa [ha,ha',List.erase_cons] using zpd a c b ha
   ·have hb':¬f=b:=fun q=>hb q.symm
    by_cases hc:c=f
    ·subst hc;simpa [ha,ha',hb,hb',List.erase_cons] using zpe a b c ha hb
    ·have hc':¬f=c:=fun q=>hc q.symm
     simpa [ha,ha',hb,hb',hc,hc'] using zpf a b c f ha hb hc
theorem zkx {l:List Int} (h:l.length≤3) (f:Int):pf E0 423 [ints l,.i .i64 f]=some ((PV.i .i64 ((l.count f:Nat):Int))):=by
 refine zab (xf:=zws) rfl (by simp[zws]) ?_
 simp only[zws]
 simp(disch:=omega)only[go_sem,seval,wqq]
 refine zag zxs.eq_1 (fun(k:Nat) fr M=>k≤l.length∧fr 0=ints l∧fr 1=.i .i64 f∧fr 5=(PV.i .i64 (((l.take k).count f:Nat):Int))∧fr 6=(PV.i .i64 ((k:Nat):Int))∧M=[]) (fun k=>l.length-k) ?_ 0 ⟨by omega,by simp only[go_sem,seval],by simp only[go_sem,seval],by simp only[go_sem,seval];rfl,by simp only[go_sem,seval],rfl⟩
 rintro k fr M ⟨hk,f0,f1,f5,f6,rfl⟩ ih
 rcases Nat.lt_or_ge k l.length with h3|h3
 ·have q1:((k:Int)<(l.length:Int))=True:=eq_true (by omega)
  have gk:=zj5 h3
  have cl:=List.count_le_length (a:=f) (l:=l.take k)
  rw[List.length_take] at cl
  have ct:(l.take (k+1)).count f=(l.take k).count f+if l.getD k 0=f then 1 else 0:=by
   rw[List.take_add_one,List.count_append,List.getD,List.getElem?_eq_getElem h3]
   congr 1
   simp[List.count_cons]
  by_cases e:l.getD k 0=f
  ·have e':(l.getD k 0=f)=True:=eq_true e
   rw[if_pos e] at ct
   simp(disch:=omega)only[go_sem,seval,wqq,f0,f1,f5,f6,q1,gk,e']
   exact ih (k+1) _ _ (by omega) ⟨by omega,by simp only[go_sem,seval,f0],by simp only[go_sem,seval,f1],by simp only[go_sem,seval];rw[ct,Int.natCast_succ],by simp only[go_sem,seval];rw[Int.natCast_succ],rfl⟩
  ·have e':(l.getD k 0=f)=False:=eq_false e
   rw[if_neg e] at ct
   simp(disch:=omega)only[go_sem,seval,wqq,f0,f1,f5,f6,q1,gk,e']
   exact ih (k+1) _ _ (by omega) ⟨by omega,by simp only[go_sem,seval,f0],by simp only[go_sem,seval,f1],by simp only[go_sem,seval,f5];rw[ct,Nat.add_zero],by simp only[go_sem,seval];rw[Int.natCast_succ],rfl⟩
 ·obtain rfl:k=l.length:=by omega
  rw[List.take_length] at f5
  have q1:((l.length:Int)<(l.length:Int))=False:=eq_false (Int.lt_irrefl _)
  simp(disch:=omega)only[go_sem,seval,wqq,f0,f1,f5,f6,q1]
end Go.Eng
namespace Go.Eng
end Go.Eng
namespace Go.Eng
end Go.Eng
namespace Go.Eng
theorem zfL (x:WI):(decI x.v).length<4611686018427387904:=by have:=zcT x;omega
end Go.Eng
namespace Go.Eng
theorem zop {f:FQ} {n d p q:Int} (hd:d≠0) (hq:0<q) (hc:Nat.gcd p.natAbs q.natAbs=1) (hf:f.is n d) (e:n*q=p*d):f.p.v=p∧f.q.v=q:=by
 unfold FQ.is at hf
 have q1:=f.q1
 refine zdq (by omega) hq f.cop hc ?_
 apply Int.eq_of_mul_eq_mul_right (a:=d) hd
 calc f.p.v*q*d=f.p.v*d*q:=by grind
  _=n*f.q.v*q:=by rw[hf]
  _=n*q*f.q.v:=by grind
  _=p*d*f.q.v:=by rw[e]
  _=p*f.q.v*d:=by grind
theorem zla {z:Int} {v n:Nat} (hz:z=(v:Int)) (h1:10^n≤v) (h2:v<10^(n+1)):decI z=dtx (n+1) v:=by
 subst hz
 unfold decI;rw[if_neg (by omega),Int.natAbs_natCast]
 exact zjP h1 h2
theorem zpz (f:FQ) {p q:Int} {t:List UInt8} (h1:f.p.v=p) (h2:f.q.v=q) (ht:ftx p q=t):pf E0 16 [fqP f]=some (.s t):=by
 rw[←ht,←h1,←h2];exact ziU f
end Go.Eng
namespace Go.Eng
theorem zjE {f g h:FQ} {n d m e:Int} (hf:f.is n d) (hg:g.is m e) (hh:h.is (f.p.v*g.q.v+g.p.v*f.q.v) (f.q.v*g.q.v)):h.is (n*e+m*d) (d*e):=by
 have qf:=f.q1
 have qg:=g.q1
 unfold FQ.is at *
 apply Int.eq_of_mul_eq_mul_right (a:=f.q.v*g.q.v) (Int.mul_ne_zero (by omega) (by omega))
 calc h.p.v*(d*e)*(f.q.v*g.q.v)=h.p.v*(f.q.v*g.q.v)*(d*e):=by grind
  _=(f.p.v*g.q.v+g.p.v*f.q.v)*h.q.v*(d*e):=by rw[hh]
  _=(f.p.v*d*g.q.v*e+g.p.v*e*f.q.v*d)*h.q.v:=by grind
  _=(n*f.q.v*g.q.v*e+m*g.q.v*f.q.v*d)*h.q.v:=by rw[hf,hg]
  _=(n*e+m*d)*h.q.v*(f.q.v*g.q.v):=by grind
theorem zkf {f g h:FQ} {n d m e:Int} (hf:f.is n d) (hg:g.is m e) (hh:h.is (f.p.v*g.p.v) (f.q.v*g.q.v)):h.is (n*m) (d*e):=by
 have qf:=f.q1
 have qg:=g.q1
 unfold FQ.is at *
 apply Int.eq_of_mul_eq_mul_right (a:=f.q.v*g.q.v) (Int.mul_ne_zero (by omega) (by omega))
 calc h.p.v*(d*e)*(f.q.v*g.q.v)=h.p.v*(f.q.v*g.q.v)*(d*e):=by grind
  _=f.p.v*g.p.v*h.q.v*(d*e):=by rw[hh]
  _=f.p.v*d*(g.p.v*e)*h.q.v:=by grind
  _=n*f.q.v*(m*g.q.v)*h.q.v:=by rw[hf,hg]
  _=n*m*h.q.v*(f.q.v*g.q.v):=by grind
theorem znz (a b:FQ) {n m:Nat} {x d y e:Int} (ha:fsz n a) (hb:fsz m b) (h:n+m+1<1230) (xa:a.is x d) (xb:b.is y e):∃f:FQ,pf E0 9 [fqP a,fqP b]=some (.tu [fqP f,.i .i64 0])∧f.is (x*e+y*d) (d*e)∧fsz (n+m+1) f:=by
 obtain⟨f,h1,h2,h3⟩:=zny a b ha hb h
 exact⟨f,h1,zjE xa xb h2,h3⟩
theorem zoy (a b:FQ) {n m:Nat} {x d y e:Int} (ha:fsz n a) (hb:fsz m b) (h:n+m<1230) (xa:a.is x d) (xb:b.is y e):∃f:FQ,pf E0 8 [fqP a,fqP b]=some (.tu [fqP f,.i .i64 0])∧f.is (x*y) (d*e)∧fsz (n+m) f:=by
 obtain⟨f,h1,h2,h3⟩:=zox a b ha hb h
 exact⟨f,h1,zkf xa xb h2,h3⟩
end Go.Eng
namespace Go.Eng
end Go.Eng

namespace Go.Eng
end Go.Eng
namespace Go.Eng
def nbits (k:Nat):Nat:=if k=0 then 0 else Nat.log2 k+1
theorem zcX {k:Nat} (h:k≠0):nbits k=nbits (k/2)+1:=by
 unfold nbits
 rw[if_neg h]
 by_cases h2:2≤k
 ·rw[if_neg (by omega),Nat.log2_def k,if_pos h2]
 ·have:k=1:=by omega
  subst this;rfl
theorem zcH {k n:Nat} (h:k<2^n):nbits k≤n:=by
 unfold nbits
 split
 ·omega
 ·rename_i h0
  have:=(Nat.log2_lt h0).2 h
  omega
end Go.Eng
namespace Go.Eng
end Go.Eng
namespace Go.Eng
structure TerOk (X Y S:Int) (C R:Nat) (hs:List Int):Prop where
 c:2≤C∧C≤128
 r:2≤R∧R≤128
 s:1≤S∧S≤65536
 x : -1048576≤X∧X+(C-1)*S≤1048576
 y : -1048576≤Y∧Y+(R-1)*S≤1048576
 len:hs.length=C*R
 h:∀n∈hs,-16384≤n∧n≤16384
theorem TerOk.ints {X Y S:Int} {C R:Nat} {hs:List Int} (t:TerOk X Y S C R hs):Ints hs:=by
 refine⟨?_,fun n hn=>?_⟩
 ·have:C*R≤128*128:=Nat.mul_le_mul t.c.2 t.r.2
  rw[t.len];omega
 ·have:=t.h n hn
  unfold Fits64;omega
end Go.Eng
namespace Go.Eng
end Go.Eng
namespace Go.Eng
end Go.Eng
namespace Go.Eng
end Go.Eng
namespace Go.Eng
end Go.Eng
namespace Go.Eng
end Go.Eng
namespace Go.Eng
end Go.Eng
namespace Go.Eng
end Go.Eng
namespace Go.Eng
theorem zdA (a b:Int):(0≤cmpI a b)=(b≤a):=by
 unfold cmpI
 simp only[eq_iff_iff]
 split
 ·omega
 ·split<;>omega
end Go.Eng

namespace Go.Eng
end Go.Eng
namespace Go.Eng
theorem ziE {k m:Nat} (h:2^m≤k):nbits k=nbits (k/2^m)+m:=by
 induction m with
 | zero=>simp
 | succ m ih =>
  have h1:2^m≤k:=Nat.le_trans (Nat.pow_le_pow_right (by decide) (Nat.le_succ m)) h
  have h2:k/2^m≠0:=by
   have:=Nat.div_pos h1 (Nat.pow_pos (by decide))
   omega
  have e:k/2^m/2=k/2^(m+1):=by rw[Nat.div_div_eq_div_mul,←Nat.pow_succ]
  have h3:=zcX h2
  rw[e] at h3
  have h4:=ih h1
  omega
theorem ziD:nbits 1=1:=by unfold nbits;rw[if_neg (by decide)];rfl
def pw (i:Nat):Nat:=2^(2^i)
theorem zfn (i:Nat):0<pw i:=Nat.pow_pos (by decide)
theorem zpp (i:Nat):2≤pw i:=by
 unfold pw
 have:2^1≤2^(2^i):=Nat.pow_le_pow_right (by decide) (Nat.one_le_two_pow)
 omega
theorem zf3 (i:Nat):pw (i+1)=pw i*pw i:=by
 unfold pw
 rw[←Nat.pow_add,Nat.pow_succ]
 congr 1
 omega
theorem zja:pw 0=2:=rfl
theorem zhq {x i:Nat} (h:pw i≤x):nbits x=nbits (x/pw i)+2^i:=ziE h
theorem zpo {x i:Nat} (h:x<pw (i+1)):x/pw i<pw i:=by
 rw[zf3] at h
 exact Nat.div_lt_of_lt_mul h
theorem zm0 {x i:Nat} (h:pw i≤x):1≤x/pw i:=Nat.div_pos h (zfn i)
end Go.Eng
namespace Go.Eng
theorem zkC (i:Nat):pw i<pw (i+1):=by
 rw[zf3]
 have:=zpp i
 have h2:pw i*2≤pw i*pw i:=Nat.mul_le_mul_left _ this
 omega
theorem zgx {i:Nat} (h:inR (pw i)):i<14:=by
 rcases Nat.lt_or_ge i 14 with q|q
 ·exact q
 ·exfalso
  obtain⟨K,hK⟩:∃K,K=16384:=⟨_,rfl⟩
  obtain⟨a,ha⟩:∃a,a=14:=⟨_,rfl⟩
  rw[←ha] at q
  have h1:2^a≤2^i:=Nat.pow_le_pow_right (by decide) q
  have h2:2^(2^a)≤pw i:=Nat.pow_le_pow_right (by decide) h1
  have e:2^a=K:=by rw[hK,ha]
  rw[e] at h2
  unfold inR at h
  rw[←hK] at h
  omega
theorem zd5 {a b:Nat} (h:a≤b) (hb:inR b):inR a:=Nat.lt_of_le_of_lt h hb
noncomputable def pwI (i:Nat):WI:=clip ((pw i:Nat):Int)
theorem zhA {i:Nat} (h:inR (pw i)):(pwI i).v=((pw i:Nat):Int):=(zdG (z:=((pw i:Nat):Int)) (by rw[Int.natAbs_natCast];exact h)).1
noncomputable def pwL:Nat→List PV
 | 0=>[]
 | j+1=>pwL j++[.b (decide ((pwI j).v<0)),D (pwI j).v.natAbs]
theorem zeK:∀j,(pwL j).length=2*j
 | 0=>rfl
 | j+1=>by rw[pwL,List.length_append,zeK j];simp;omega
theorem zlt:∀{j i:Nat},i<j→((pwL j).drop (i*2)).take 2=[.b (decide ((pwI i).v<0)),D (pwI i).v.natAbs]
 | 0,i,h=>by omega
 | j+1,i,h=>by
  have hl:=zeK j
  rw[pwL]
  by_cases hi:i<j
  ·rw[List.drop_append_of_le_length (by omega),List.take_append_of_le_length (by simp;omega)]
   exact zlt hi
  ·obtain rfl:i=j:=by omega
   rw[List.drop_left' (show (pwL i).length=i*2 by omega)];rfl
theorem zqC (P:PM) (L:List PV) (w1 w2:PV) (r1 r2:Option PB) {j:Nat} (hl:L.length=2*j) (hj:j≤100) (h0:0<j):appP (P++[some ⟨L,true,0⟩,r1,r2,some ⟨[w1,w2],true,0⟩]) 2 32 (.sl P.length 0 j j 2) (.sl (P.length+3) 0 1 1 2) =
  some (.sl (P.length+4) 0 (j+1) (j+1) 2,P++[none,r1,r2,some ⟨[w1,w2],true,0⟩,some ⟨L++[w1,w2],true,0⟩]):=by
 have es:srcP (P++[some (⟨L,true,0⟩:PB),r1,r2,some (⟨[w1,w2],true,0⟩:PB)]) 2 (.sl (P.length+3) 0 1 1 2)=some (1,[w1,w2]):=by
  simp only[srcP,PM.rd,mG]
  rfl
 have e2:PM.blk (P++[some (⟨L,true,0⟩:PB),r1,r2,some (⟨[w1,w2],true,0⟩:PB)]) P.length=some (⟨L,true,0⟩:PB):=by rw[mG0];rfl
 unfold appP
 rw[es]
 simp only[e2]
 rw[if_neg (by simp),if_neg (by decide),if_pos ⟨trivial,by rw[hl];omega,by omega⟩,sG0]
 simp only[List.drop_zero,List.set_cons_zero,lqq,List.length_append,List.length_cons,List.length_nil]
 rw[List.take_of_length_le (by omega)]
theorem zm7 {i:Nat} (h:i<14):binP .shl (.i .i64 1) (.i .i64 (i:Int))=some (.i .i64 ((2^i:Nat):Int)):=by
 have h1:2^i≤2^13:=Nat.pow_le_pow_right (by decide) (by omega)
 rw[zhM _ _ _ _ (by omega),Int.toNat_natCast,show min i (IntKind.bits .i64)=i by simp only[IntKind.bits];omega,Int.one_mul]
 have e:(2:Int)^i=((2^i:Nat):Int):=by simp
 rw[e]
 generalize 2^i=t at *
 rw[wqa (by omega) (by omega)]
set_option maxHeartbeats 2000000 in
theorem zk6 {F:PFin} {ks:List KI} {K J:Nat} {x0:WI} (hR:inR K) (hx0:x0.v=(K:Int)) (hK:1≤K) (hlt:K<pw J) (hJ:J=0∨pw (J-1)≤K) {G R:PM} {fr:PFr} {v:Nat}
  (f1:fr 1=.p 0 0) (f3:fr 3=(PV.i .i64 ((0:Nat):Int))) (f6:fr 6=if J=0 then .nl else .sl (G.length+1) 0 J J 2) (f10:fr 10=.i .i64 ((J:Int)-1))
  (cont:∀fr' v' (y:WI),y.v=1→fr' 1=.p 0 0→fr' 3=.i .i64 ((nbits K:Int)-1)→UK E0 F (.exit 4) ks fr' (some ⟨[.b (decide (y.v<0)),D y.v.natAbs],true,v'⟩::(G++(some ⟨pwL J,true,0⟩::R)))) :
  WK E0 F (.loop zwz) ks fr (some ⟨[.b (decide (x0.v<0)),D x0.v.natAbs],true,v⟩::(G++(some ⟨pwL J,true,0⟩::R))):=by
 have hnb:nbits K≤16384:=by
  obtain⟨q,hq⟩:∃q,q=16384:=⟨_,rfl⟩
  unfold inR at hR
  rw[←hq] at hR ⊢
  exact zcH hR
 have hJ14:∀i,i<J→i<14∧inR (pw i):=fun i hi=>by
  have hm:∀d,pw i≤pw (i+d):=fun d=>by
   induction d with
   | zero=>exact Nat.le_refl _
   | succ d ih=>exact Nat.le_trans ih (Nat.le_of_lt (zkC _))
  have h1:=hm (J-1-i)
  rw[show i+(J-1-i)=J-1 by omega] at h1
  have h2:inR (pw i):=zd5 (by omega) hR
  exact⟨zgx h2,h2⟩
 refine zag zwz.eq_1 (fun(i:Nat) fr M=>i≤J∧∃(y:WI) (Y n v:Nat),y.v=(Y:Int)∧1≤Y∧Y<pw i∧nbits K=nbits Y+n∧fr 1=.p 0 0∧fr 3=(PV.i .i64 ((n:Nat):Int))∧fr 6=(if J=0 then .nl else .sl (G.length+1) 0 J J 2)∧fr 10=.i .i64 ((i:Int)-1) ∧
  M=some ⟨[.b (decide (y.v<0)),D y.v.natAbs],true,v⟩::(G++(some ⟨pwL J,true,0⟩::R))) (fun i=>i) ?_ J ⟨Nat.le_refl _,x0,K,0,v,hx0,hK,hlt,rfl,f1,f3,f6,f10,rfl⟩
 rintro i fr M ⟨hi,y,Y,n,v,hy,hY,hYi,hn,f1,f3,f6,f10,rfl⟩ ih
 cases i with
 | zero =>
  have hY1:Y=1:=by rw[zja] at hYi;omega
  subst hY1
  have f3':fr 3=.i .i64 ((nbits K:Int)-1):=by
   rw[f3,hn,ziD];congr 1;omega
  have q0:((((0:Nat):Int)-1)≥0)=False:=eq_false (by omega)
  simp(disch:=omega)only[go_sem,seval,wqq,f10,q0]
  exact cont _ v y hy (by simp only[go_sem,seval,f1]) (by simp only[go_sem,seval,f3'])
 | succ i =>
  obtain⟨i14,iR⟩:=hJ14 i (by omega)
  have hJ0:J≠0:=by omega
  rw[if_neg hJ0] at f6
  have f6':=f6
  have f10:fr 10=(PV.i .i64 ((i:Nat):Int)):=by rw[f10];congr 1;omega
  have q0:((i:Int)≥0)=True:=eq_true (by omega)
  have pv:=zhA iR
  have cm:=zb9 y (pwI i)
  rw[hy,pv] at cm
  have at_:=zlt (j:=J) (i:=i) (by omega)
  have hl:=zeK J
  have hiJ:(i<J)=True:=eq_true (by omega)
  have h2i:(i*2+2≤2*J)=True:=eq_true (by omega)
  by_cases hc:pw i≤Y
  ·have c0:(cmpI ((Y:Nat):Int) ((pw i:Nat):Int)≥0)=True:=eq_true (by rw[ge_iff_le,zdA];omega)
   simp(disch:=omega)only[go_sem,seval,wqq,f1,f3,f6,f10,q0,cm,c0,hiJ,h2i,hl,at_,mG,mG0,sG,sG0,lG,lqq]
   have dv:=zkp y (pwI i) (by rw[pv];have:=zfn i;omega)
   have dvv:(y.div (pwI i) (by rw[pv];have:=zfn i;omega)).v=((Y/pw i:Nat):Int):=by
    show y.v/(pwI i).v=_
    rw[hy,pv];rfl
   generalize y.div (pwI i) (by rw[pv];have:=zfn i;omega)=y2 at *
   generalize y.mod (pwI i) (by rw[pv];have:=zfn i;omega)=y3 at *
   have sh:=zm7 i14
   have st:=zhq hc
   have p14:2^i≤2^14:=Nat.pow_le_pow_right (by decide) (by omega)
   have g1:=zpo hYi
   have g0:=zm0 hc
   have hs:(n:Int)+((2^i:Nat):Int)=((n+2^i:Nat):Int):=by push_cast;rfl
   generalize 2^i=t at *
   simp(disch:=omega)only[go_sem,seval,wqq,f1,f3,f6,f10,q0,cm,c0,hiJ,h2i,hl,at_,dv,sh,hs,mG,mG0,sG,sG0,lG,lqq]
   exact ih i _ _ (by omega) ⟨by omega,y2,Y/pw i,n+t,_,dvv,g0,g1,by omega,by simp only[go_sem,seval,f1],by simp only[go_sem,seval],by rw[if_neg hJ0];simp only[go_sem,seval,f6],by simp only[go_sem,seval,f10],rfl⟩
  ·have c0:(cmpI ((Y:Nat):Int) ((pw i:Nat):Int)≥0)=False:=eq_false (by rw[ge_iff_le,zdA];omega)
   simp(disch:=omega)only[go_sem,seval,wqq,f1,f3,f6,f10,q0,cm,c0,hiJ,h2i,hl,at_,mG,mG0,sG,sG0,lG,lqq]
   exact ih i _ _ (by omega) ⟨by omega,y,Y,n,_,hy,hY,by omega,by omega,by simp only[go_sem,seval,f1],by simp only[go_sem,seval,f3],by rw[if_neg hJ0];simp only[go_sem,seval,f6],by simp only[go_sem,seval,f10],rfl⟩
end Go.Eng
namespace Go.Eng
theorem zmM (x:WI) (h:x.v.natAbs≤9223372036854775807):pf E0 63 [wiP x]=some (.i .i64 (nbits x.v.natAbs:Int)):=by
 have nb:nbits x.v.natAbs≤63:=zcH (by omega)
 have fin:∀(y:WI),y.v=(x.v.natAbs:Int)→pf E0 80 [wiP y]=some (.tu [.i .i64 (x.v.natAbs:Int),.b true]):=fun y hy=>by
  have sm:=zdL y
  have s1:isSmall (x.v.natAbs:Int)=true:=by unfold isSmall;exact decide_eq_true ⟨by omega,by omega⟩
  have s2:small (x.v.natAbs:Int)=(x.v.natAbs:Int):=by unfold small;rw[if_pos s1]
  rw[hy,s1,s2] at sm
  exact sm
 have sg:=zdc x
 refine zab (xf:=zvw) rfl (by simp[zvw]) ?_
 simp only[zvw]
 by_cases hn:x.v<0
 ·have t0:(cmpI x.v 0<0)=True:=by rw[zdi];simp[hn]
  have n1:=zkq x
  have sm:=fin x.neg (by show-x.v=_;omega)
  generalize x.neg=y at *
  generalize x.v.natAbs=K at *
  simp(disch:=omega)only[go_sem,seval,wqq,sg,t0,n1,sm]
  refine zag zwD.eq_1 (fun(σ:Nat×Nat) fr M=>σ.1+nbits σ.2=nbits K∧σ.2≤K∧fr 3=(PV.i .i64 ((σ.1:Nat):Int))∧fr 4=(PV.i .i64 ((σ.2:Nat):Int))) (fun σ=>σ.2) ?_ (0,K) ⟨by simp,Nat.le_refl _,by simp only[go_sem,seval],by simp only[go_sem,seval]⟩
  rintro⟨n,k⟩ fr M ⟨hs,hk,f3,f4⟩ ih
  simp only at hs hk f3 f4
  by_cases hk0:k=0
  ·have q1:((k:Int)>0)=False:=by simp;omega
   have hN:n=nbits K:=by rw[←hs,hk0];rfl
   rw[←hN]
   simp(disch:=omega)only[go_sem,seval,wqq,f3,f4,q1]
  ·have q1:((k:Int)>0)=True:=by simp;omega
   have k2:(k:Int).tdiv 2=((k/2:Nat):Int):=zbj _ 2
   have hh:=zcX hk0
   simp(disch:=omega)only[go_sem,seval,wqq,f3,f4,q1,k2]
   exact ih (n+1,k/2) _ _ (by simp only;omega) ⟨by simp only;omega,by simp only;omega,by simp only[go_sem,seval];rw[Int.natCast_succ],by simp only[go_sem,seval]⟩
 ·have t0:(cmpI x.v 0<0)=False:=by rw[zdi];simp[hn]
  have sm:=fin x (by omega)
  obtain⟨K,hK⟩:∃K:Nat,K=x.v.natAbs:=⟨_,rfl⟩
  rw[←hK] at sm nb ⊢
  have hKl:K≤9223372036854775807:=by omega
  simp(disch:=omega)only[go_sem,seval,wqq,sg,t0,sm]
  refine zag zwD.eq_1 (fun(σ:Nat×Nat) fr M=>σ.1+nbits σ.2=nbits K∧σ.2≤K∧fr 3=(PV.i .i64 ((σ.1:Nat):Int))∧fr 4=(PV.i .i64 ((σ.2:Nat):Int))) (fun σ=>σ.2) ?_ (0,K) ⟨by simp,Nat.le_refl _,by simp only[go_sem,seval],by simp only[go_sem,seval]⟩
  rintro⟨n,k⟩ fr M ⟨hs,hk,f3,f4⟩ ih
  simp only at hs hk f3 f4
  by_cases hk0:k=0
  ·have q1:((k:Int)>0)=False:=by simp;omega
   have hN:n=nbits K:=by rw[←hs,hk0];rfl
   rw[←hN]
   simp(disch:=omega)only[go_sem,seval,wqq,f3,f4,q1]
  ·have q1:((k:Int)>0)=True:=by simp;omega
   have k2:(k:Int).tdiv 2=((k/2:Nat):Int):=zbj _ 2
   have hh:=zcX hk0
   simp(disch:=omega)only[go_sem,seval,wqq,f3,f4,q1,k2]
   exact ih (n+1,k/2) _ _ (by simp only;omega) ⟨by simp only;omega,by simp only;omega,by simp only[go_sem,seval];rw[Int.natCast_succ],by simp only[go_sem,seval]⟩
theorem zlh {j:Nat} (h:inR (pw j)):pf E0 38 [wiP (pwI j),wiP (pwI j)]=some (.tu [wiP (pwI (j+1)),.i .i64 (lerr ((pw (j+1):Nat):Int))]):=by
 rw[zht,zhA h,←Int.natCast_mul,←zf3];rfl
theorem zuv (b0 b1:Option PB) (w1 w2:PV):appP [b0,b1,some ⟨[w1,w2],true,0⟩] 2 32 .nl (.sl 2 0 1 1 2)=some (.sl 3 0 1 1 2,[b0,b1,some ⟨[w1,w2],true,0⟩,some ⟨[w1,w2],true,0⟩]):=rfl
theorem zom {v K:Nat} (hK:K=16384) (h:v<2^K):inR v:=by subst hK;exact h
theorem zio:inR (pw 1):=by
 obtain⟨K,hK⟩:∃K,K=16384:=⟨_,rfl⟩
 have h:pw 1<2^K:=Nat.lt_of_lt_of_le (show pw 1<2^3 by decide) (Nat.pow_le_pow_right (by decide) (by omega))
 exact zom hK h
set_option maxHeartbeats 2000000 in
theorem zk5 {F:PFin} {ks:List KI} {K:Nat} {x0:WI} (hR:inR K) (hx0:x0.v=(K:Int)) (hK:9223372036854775807<K) {fr:PFr} {v:Nat} {v1:Nat}
  (f1:fr 1=.p 0 0) (f3:fr 3=(PV.i .i64 ((0:Nat):Int))) (f6:fr 6=.nl) (f7:fr 7=.p 1 0)
  (cont:∀fr' (G:PM) (J:Nat),J≠0→fr' 1=.p 0 0→fr' 3=(PV.i .i64 ((0:Nat):Int))→fr' 6=.sl (G.length+1) 0 J J 2→K<pw J→pw (J-1)≤K→∀R,UK E0 F (.exit 2) ks fr' (some ⟨[.b (decide (x0.v<0)),D x0.v.natAbs],true,v⟩::(G++(some ⟨pwL J,true,0⟩::R)))) :
  WK E0 F (.loop zv3) ks fr [some ⟨[.b (decide (x0.v<0)),D x0.v.natAbs],true,v⟩,some ⟨[.b (decide ((pwI 0).v<0)),D (pwI 0).v.natAbs],true,v1⟩]:=by
 have R1:=zio
 have R0:inR (pw 0):=zd5 (Nat.le_of_lt (zkC 0)) R1
 have cm0:=zb9 x0 (pwI 0)
 have c00:(cmpI x0.v (pwI 0).v≥0)=True:=eq_true (by rw[ge_iff_le,zdA,hx0,zhA R0,zja];omega)
 have mu0:=zlh R0
 have le0:lerr ((pw (0+1):Nat):Int)=0:=(zdG (z:=((pw (0+1):Nat):Int)) (by rw[Int.natAbs_natCast];exact R1)).2
 rw[le0] at mu0
 refine zao zv3.eq_1 ?_
 simp(disch:=omega)only[go_sem,seval,wqq,f1,f3,f6,f7,cm0,c00,mu0,zuv,zaE,zaj]
 refine zag zv3.eq_1 (fun(j:Nat) fr M=>1≤j∧inR (pw j)∧pw (j-1)≤K∧fr 1=.p 0 0∧fr 3=(PV.i .i64 ((0:Nat):Int))∧∃(G:PM) (r:Option PB) (v2:Nat),fr 6=.sl (G.length+1) 0 j j 2∧fr 7=.p (G.length+3) 0 ∧
  M=some ⟨[.b (decide (x0.v<0)),D x0.v.natAbs],true,v⟩::(G++[some ⟨pwL j,true,0⟩,r,some ⟨[.b (decide ((pwI j).v<0)),D (pwI j).v.natAbs],true,v2⟩])) (fun j=>K+1-pw (j-1)) ?_ 1
  ⟨Nat.le_refl _,R1,by rw[show pw (1-1)=2 from rfl];omega,by simp only[go_sem,seval,f1],by simp only[go_sem,seval,f3],[_,_],_,_,by simp only[go_sem,seval],by simp only[go_sem,seval],rfl⟩
 rintro j fr M ⟨hj,jR,hjK,f1,f3,G,r,v2,f6,f7,rfl⟩ ih
 have j14:=zgx jR
 have cm:=zb9 x0 (pwI j)
 by_cases hc:pw j≤K
 ·have c0:(cmpI x0.v (pwI j).v≥0)=True:=eq_true (by rw[ge_iff_le,zdA,hx0,zhA jR];omega)
  have mu:=zlh jR
  have apx:∀b0:Option PB,appP (b0::(G++[some ⟨pwL j,true,0⟩,r,some ⟨[.b (decide ((pwI j).v<0)),D (pwI j).v.natAbs],true,v2⟩,some ⟨[PV.b (decide ((pwI j).v<0)),D (pwI j).v.natAbs],true,0⟩])) 2 32 (.sl (G.length+1) 0 j j 2) (.sl (G.length+4) 0 1 1 2) =
   some (.sl (G.length+5) 0 (j+1) (j+1) 2,b0::(G++[none,r,some ⟨[.b (decide ((pwI j).v<0)),D (pwI j).v.natAbs],true,v2⟩,some ⟨[PV.b (decide ((pwI j).v<0)),D (pwI j).v.natAbs],true,0⟩,some ⟨pwL (j+1),true,0⟩])):=fun b0 =>
   zqC (b0::G) (pwL j) _ _ r (some ⟨[.b (decide ((pwI j).v<0)),D (pwI j).v.natAbs],true,v2⟩) (zeK j) (by omega) (by omega)
  by_cases hn:inR (pw (j+1))
  ·have le1:lerr ((pw (j+1):Nat):Int)=0:=(zdG (z:=((pw (j+1):Nat):Int)) (by rw[Int.natAbs_natCast];exact hn)).2
   rw[le1] at mu
   simp(disch:=omega)only[go_sem,seval,wqq,f1,f3,f6,f7,cm,c0,mu,apx,zaE,zaj,mG,mG0,sG,sG0,lG,lqq]
   have:=zkC (j-1)
   rw[show j-1+1=j by omega] at this
   exact ih (j+1) _ _ (by rw[show j+1-1=j by omega];omega) ⟨by omega,hn,hc,by simp only[go_sem,seval,f1],by simp only[go_sem,seval,f3],G++[none,r,_,_],_,_,by simp only[go_sem,seval];simp,by simp only[go_sem,seval];simp,by simp;exact⟨rfl,rfl,rfl,rfl⟩⟩
  ·have le1:(lerr ((pw (j+1):Nat):Int)=0)=False:=eq_false fun q=>hn (by have:=zfQ q;rwa [Int.natAbs_natCast] at this)
   simp(disch:=omega)only[go_sem,seval,wqq,f1,f3,f6,f7,cm,c0,mu,le1,apx,zaE,zaj,mG,mG0,sG,sG0,lG,lqq]
   have e6:∀a b c d p q:Option PB,G++[a,b,c,d,p,q]=(G++[a,b,c,d])++(p::[q]):=fun a b c d p q=>by simp
   rw[e6]
   exact cont _ _ (j+1) (by omega) (by simp only[go_sem,seval,f1]) (by simp only[go_sem,seval,f3]) (by simp only[go_sem,seval];simp) (by
    rcases Nat.lt_or_ge K (pw (j+1)) with q|q
    ·exact q
    ·exact(hn (zd5 q hR)).elim) hc [_]
 ·have c0:(cmpI x0.v (pwI j).v≥0)=False:=eq_false (by rw[ge_iff_le,zdA,hx0,zhA jR];omega)
  simp(disch:=omega)only[go_sem,seval,wqq,f1,f3,f6,f7,cm,c0,mG,mG0,sG,sG0,lG,lqq]
  exact cont _ G j (by omega) (by simp only[go_sem,seval,f1]) (by simp only[go_sem,seval,f3]) (by simp only[go_sem,seval,f6]) (by omega) hjK [_,_]
theorem ziW (x:WI):pf E0 63 [wiP x]=some (.i .i64 (nbits x.v.natAbs:Int)):=by
 by_cases hs:x.v.natAbs≤9223372036854775807
 ·exact zmM x hs
 have hR:inR x.v.natAbs:=(zaN _).1 x.lim
 obtain⟨K,hKe⟩:∃K,K=x.v.natAbs:=⟨_,rfl⟩
 rw[←hKe] at hR hs ⊢
 have hK:9223372036854775807<K:=by omega
 have sg:=zdc x
 have fin:∀(y:WI),y.v=(K:Int)→pf E0 80 [wiP y]=some (.tu [.i .i64 0,.b false]):=fun y hy=>by
  have sm:=zdL y
  have s1:isSmall (K:Int)=false:=by unfold isSmall;exact decide_eq_false (by omega)
  have s2:small (K:Int)=0:=by unfold small;rw[s1];rfl
  rw[hy,s1,s2] at sm
  exact sm
 have fr2:=zcl (n:=2) (by decide)
 have w2:wiOf 2 (by decide)=pwI 0:=WI.ext' (by rw[zhA (zd5 (Nat.le_of_lt (zkC 0)) zio)];rfl)
 rw[w2] at fr2
 have nb1:1≤nbits K:=by unfold nbits;rw[if_neg (by omega)];omega
 have nbe:(nbits K:Int)-1+1=(nbits K:Int):=by omega
 have sy:∀y:WI,y.v=1→pf E0 31 [wiP y]=some (.i .i64 1):=fun y hy=>by rw[zdc,hy];rfl
 refine zab (xf:=zvw) rfl (by simp[zvw]) ?_
 simp only[zvw]
 have nbb:nbits K≤16384:=by
  obtain⟨q,hq⟩:∃q,q=16384:=⟨_,rfl⟩
  unfold inR at hR
  rw[←hq] at hR ⊢
  exact zcH hR
 by_cases hn:x.v<0
 ·have t0:(cmpI x.v 0<0)=True:=by rw[zdi];simp[hn]
  have n1:=zkq x
  have hv:x.neg.v=(K:Int):=by show-x.v=_;omega
  have sm:=fin x.neg hv
  generalize x.neg=y at *
  simp(disch:=omega)only[go_sem,seval,wqq,sg,t0,n1,sm,fr2]
  refine zk5 hR hv hK (by simp only[go_sem,seval]) (by simp only[go_sem,seval]) (by simp only[go_sem,seval]) (by simp only[go_sem,seval]) ?_
  intro fr' G J hJ f1 f3 f6 hlt hle R
  have J14:=zgx (zd5 hle hR)
  simp(disch:=omega)only[go_sem,seval,wqq,f6]
  refine zk6 hR hv (by omega) hlt (.inr hle) (by simp only[go_sem,seval,f1]) (by simp only[go_sem,seval,f3]) (by rw[if_neg hJ];simp only[go_sem,seval,f6]) (by simp only[go_sem,seval]) ?_
  intro fr'' v' y1 hy1 g1 g3
  have syy:=sy y1 hy1
  simp(disch:=omega)only[go_sem,seval,wqq,g1,g3,syy,nbe]
 ·have t0:(cmpI x.v 0<0)=False:=by rw[zdi];simp[hn]
  have hv:x.v=(K:Int):=by omega
  have sm:=fin x hv
  simp(disch:=omega)only[go_sem,seval,wqq,sg,t0,sm,fr2]
  refine zk5 hR hv hK (by simp only[go_sem,seval]) (by simp only[go_sem,seval]) (by simp only[go_sem,seval]) (by simp only[go_sem,seval]) ?_
  intro fr' G J hJ f1 f3 f6 hlt hle R
  have J14:=zgx (zd5 hle hR)
  simp(disch:=omega)only[go_sem,seval,wqq,f6]
  refine zk6 hR hv (by omega) hlt (.inr hle) (by simp only[go_sem,seval,f1]) (by simp only[go_sem,seval,f3]) (by rw[if_neg hJ];simp only[go_sem,seval,f6]) (by simp only[go_sem,seval]) ?_
  intro fr'' v' y1 hy1 g1 g3
  have syy:=sy y1 hy1
  simp(disch:=omega)only[go_sem,seval,wqq,g1,g3,syy,nbe]
theorem ziO (x:FQ):pf E0 44 [fqP x]=some (.i .i64 ((max (nbits x.p.v.natAbs) (nbits x.q.v.natAbs):Nat):Int)):=by
 have a1:=zo1 x
 have a2:=zdd x
 have d1:=ziW x.p
 have d2:=ziW x.q
 generalize nbits x.p.v.natAbs=a at *
 generalize nbits x.q.v.natAbs=b at *
 have hm:mmP true (.i .i64 (a:Int)) [.i .i64 (b:Int)]=some (.i .i64 ((max a b:Nat):Int)):=by
  simp only[mmP,if_true]
  congr 2
  split<;>omega
 refine zab (xf:=zv7) rfl (by simp[zv7]) ?_
 simp only[zv7]
 simp(disch:=omega)only[go_sem,seval,wqq]
 refine zaA [1] rfl (by simp only[go_sem,seval]) ?_
 simp(disch:=omega)only[go_sem,seval,wqq,a1,a2,d1,d2,hm]
end Go.Eng
namespace Go.Eng
theorem zqz {a b:Nat} (la:wlen a≤512) (lb:wlen b≤512) (h:D a=D b):a=b:=by
 have h1:=zbc a b (by omega) (by omega)
 have h2:=zbc a a (by omega) (by omega)
 rw[←h,h2] at h1
 have e:cmpI (a:Int) a=cmpI (a:Int) b:=by simpa using h1
 have z:cmpI (a:Int) a=0:=by simp[cmpI]
 rw[z] at e
 unfold cmpI at e
 split at e
 ·exact absurd e (by decide)
 ·split at e
  ·exact absurd e (by decide)
  ·omega
theorem zlM {x y:WI} (h:wc x=wc y):x=y:=by
 unfold wc at h
 injection h with h1 h2
 injection h2 with h2 _
 have e:=zqz x.lim y.lim h2
 have s:(x.v<0)↔(y.v<0):=by
  injection h1 with h1
  simpa using h1
 exact zjy (by omega)
theorem zj2 {f g:FQ} (h:fqP f=fqP g):f=g:=by
 have h:PV.ag (wc f.p++wc f.l)=PV.ag (wc g.p++wc g.l):=h
 injection h with h
 obtain⟨h1,h2⟩:=List.append_inj h rfl
 have e1:=zlM h1
 have e2:=zlM h2
 refine zfa (by rw[e1]) ?_
 have:f.q.v-1=g.q.v-1:=congrArg WI.v e2
 omega
theorem zc2 {f g:FQ} {d e:Int} (h:some (PV.tu [fqP f,.i .i64 d])=some (.tu [fqP g,.i .i64 e])):f=g∧d=e:=by
 simp only[Option.some.injEq,PV.tu.injEq,List.cons.injEq,PV.i.injEq,true_and,and_true] at h
 exact⟨zj2 h.1,h.2⟩
theorem zfV (a b:FQ):∃(f:FQ) (e:Int),pf E0 8 [fqP a,fqP b]=some (.tu [fqP f,.i .i64 e]):=by
 obtain⟨h1,h2⟩:=zgM a b
 by_cases h:inR (muP a b).natAbs∧inR (muQ a b).natAbs
 ·obtain⟨f,_,_,q⟩:=h1 h;exact⟨f,0,q⟩
 ·exact⟨_,_,h2 h⟩
theorem zfA (a b:FQ):∃(f:FQ) (e:Int),pf E0 9 [fqP a,fqP b]=some (.tu [fqP f,.i .i64 e]):=by
 obtain⟨h1,h2⟩:=zgL a b
 by_cases h:adOk a b
 ·obtain⟨f,_,_,q⟩:=h1 h;exact⟨f,0,q⟩
 ·exact⟨_,_,h2 h⟩
noncomputable def mF (a b:FQ):FQ:=(zfV a b).choose
noncomputable def mFe (a b:FQ):Int:=(zfV a b).choose_spec.choose
theorem zlk (a b:FQ):pf E0 8 [fqP a,fqP b]=some (.tu [fqP (mF a b),.i .i64 (mFe a b)]):=(zfV a b).choose_spec.choose_spec
noncomputable def aF (a b:FQ):FQ:=(zfA a b).choose
noncomputable def aFe (a b:FQ):Int:=(zfA a b).choose_spec.choose
theorem znt (a b:FQ):pf E0 9 [fqP a,fqP b]=some (.tu [fqP (aF a b),.i .i64 (aFe a b)]):=(zfA a b).choose_spec.choose_spec
theorem ziv (a b:FQ) {n m:Nat} {x d y e:Int} (ha:fsz n a) (hb:fsz m b) (h:n+m<1230) (xa:a.is x d) (xb:b.is y e):(mF a b).is (x*y) (d*e)∧fsz (n+m) (mF a b)∧mFe a b=0:=by
 obtain⟨f,h1,h2,h3⟩:=zoy a b ha hb h xa xb
 rw[zlk] at h1
 obtain⟨e1,e2⟩:=zc2 h1
 rw[e1];exact⟨h2,h3,e2⟩
theorem znx (a b:FQ) {n m:Nat} {x d y e:Int} (ha:fsz n a) (hb:fsz m b) (h:n+m+1<1230) (xa:a.is x d) (xb:b.is y e):(aF a b).is (x*e+y*d) (d*e)∧fsz (n+m+1) (aF a b)∧aFe a b=0:=by
 obtain⟨f,h1,h2,h3⟩:=znz a b ha hb h xa xb
 rw[znt] at h1
 obtain⟨e1,e2⟩:=zc2 h1
 rw[e1];exact⟨h2,h3,e2⟩
noncomputable def whQ (n:Int):FQ:=if h:Fits64 n then ⟨wiOf n h,wi1,by decide,Nat.gcd_one_right _⟩ else fq0
theorem zkS {n:Int} (h:Fits64 n):(whQ n).p.v=n∧(whQ n).q.v=1:=by
 unfold whQ
 rw[dif_pos h]
 exact⟨rfl,rfl⟩
theorem zlN {n:Int} (h:Fits64 n):pf E0 17 [.i .i64 n,.i .i64 1]=some (.tu [fqP (whQ n),.i .i64 0]):=by
 obtain⟨f,h1,h2,h3⟩:=zmK h (q:=1) (by decide) (by decide)
 obtain⟨l1,l2⟩:=zeF (p:=n) (q:=1) (by decide) (Nat.gcd_one_right _)
 obtain⟨v1,v2⟩:=zkS h
 obtain rfl:f=whQ n:=zfa ((h1.trans l1).trans v1.symm) ((h2.trans l2).trans v2.symm)
 exact h3
theorem zjx {n:Int} (h:Fits64 n):(whQ n).is n 1∧fsz 5 (whQ n):=by
 obtain⟨v1,v2⟩:=zkS h
 refine⟨?_,?_,?_⟩
 ·show (whQ n).p.v*1=n*(whQ n).q.v
  rw[v1,v2]
 ·rw[v1];exact zs4 h
 ·rw[v2];exact zah (by decide)
theorem zf1 {n:Int} (h:Fits64 n):pf E0 425 [.i .i64 n]=some (fqP (whQ n)):=by
 have o:=zlN h
 refine zab (xf:=zwe) rfl (by simp[zwe]) ?_
 simp only[zwe]
 simp(disch:=omega)only[go_sem,seval,wqq,o]
end Go.Eng
namespace Go.Eng
noncomputable def qc (f:FQ):List PV:=[.b (decide (f.p.v<0)),D f.p.v.natAbs,.b (decide (f.l.v<0)),D f.l.v.natAbs]
theorem zhI (f:FQ):PV.ag (qc f)=fqP f:=_root_.id rfl
theorem zcm (f:FQ):(qc f).length=4:=_root_.id rfl
theorem zbA (f:FQ):(qc f).take 4=qc f:=_root_.id rfl
theorem zdg (a b c d:PV) (f:FQ):psplice [a,b,c,d] 0 [.b (decide (f.p.v<0)),D f.p.v.natAbs,.b (decide (f.l.v<0)),D f.l.v.natAbs]=qc f:=_root_.id rfl
theorem zct (g f:FQ):psplice (qc g) 0 [.b (decide (f.p.v<0)),D f.p.v.natAbs,.b (decide (f.l.v<0)),D f.l.v.natAbs]=qc f:=_root_.id rfl
structure QZ (L:List PV) (f:FQ):Prop where
 len:L.length=4
 sc:L.all PV.scal=true
 fz:∀(M:PM) (d:Nat),fzL (fz M (d+1)) L=some (qc f,[])
theorem QZ.tk {L:List PV} {s:FQ} (h:QZ L s):L.take 4=L:=List.take_of_length_le (by rw[h.len];omega)
theorem QZ.spl {L:List PV} {s:FQ} (h:QZ L s) (f:FQ):psplice L 0 [.b (decide (f.p.v<0)),D f.p.v.natAbs,.b (decide (f.l.v<0)),D f.l.v.natAbs]=qc f:=by
 unfold psplice
 rw[List.take_zero,List.drop_eq_nil_of_le (by rw[h.len];exact Nat.le_refl _),List.nil_append,List.append_nil];rfl
theorem qz0:QZ [.b false,.nl,.b false,.nl] fq0:=⟨rfl,rfl,fun _ _=>rfl⟩
theorem qzs (f:FQ):QZ (qc f) f:=⟨rfl,rfl,fun _ _=>rfl⟩
theorem zuU (a b c d:PV) (L:List PV) (h:L.length=4):psplice [a,b,c,d] 0 L=L:=by
 unfold psplice
 rw[List.take_zero,List.drop_eq_nil_of_le (by rw[h];exact Nat.le_refl _),List.nil_append,List.append_nil]
def fwD (f:FQ):Prop:=max (nbits f.p.v.natAbs) (nbits f.q.v.natAbs)≤1000
noncomputable def tF (U:Nat→FQ) (t:FQ) (l:List Int):FQ:=l.foldl (fun t a=>mF t (U a.toNat)) t
noncomputable def sF (c:Nat→Int) (U:Nat→FQ):Nat→FQ
 | 0=>fq0
 | i+1=>if c i=0 then sF c U i else aF (sF c U i) (tF U (whQ (c i)) (facL i))
def preL (i j:Nat):List Int:=(List.range j).flatMap fun j'=>List.replicate (exN i j') (j':Int)
theorem zkB:∀i,i<20→preL i 3=facL i:=by decide
theorem zi6 (i j:Nat):preL i (j+1)=preL i j++List.replicate (exN i j) (j:Int):=by
 unfold preL
 rw[List.range_succ,List.flatMap_append];simp
theorem zne (U:Nat→FQ) (t:FQ) (i j k:Nat):tF U t (preL i j++List.replicate (k+1) (j:Int))=mF (tF U t (preL i j++List.replicate k (j:Int))) (U j):=by
 unfold tF
 rw[List.replicate_succ',←List.append_assoc,List.foldl_append];rfl
open Classical in
noncomputable def evE (c:Nat→Int) (U:Nat→FQ):Int:=if okC c then (if ∀j,j<3→fwD (U j) then 0 else 4) else 1
noncomputable def evR (c:Nat→Int) (U:Nat→FQ):FQ:=if evE c U=0 then sF c U 20 else fq0
theorem zmB {c:Nat→Int} (h:¬okC c) (u v w:FQ):pf E0 409 [aI 20 c,fqP u,fqP v,fqP w]=some (.tu [fqP fq0,.i .i64 1]):=by
 have va:=zaK c
 have:vlC c=1:=if_neg h
 rw[this] at va
 have z0:=zl7
 refine zab (xf:=zvK) rfl (by simp[zvK]) ?_
 simp only[zvK]
 simp(disch:=omega)only[go_sem,seval,wqq,va,zaE,zaj,zl7]
set_option maxHeartbeats 8000000 in
theorem zmC {c:Nat→Int} (hc:okC c) {U:Nat→FQ}:pf E0 409 [aI 20 c,fqP (U 0),fqP (U 1),fqP (U 2)]=some (.tu [fqP (evR c U),.i .i64 (evE c U)]):=by
 have va:=zaK c
 have:vlC c=0:=if_pos hc
 rw[this] at va
 refine zab (xf:=zvK) rfl (by simp[zvK]) ?_
 simp only[zvK]
 simp(disch:=omega)only[go_sem,seval,wqq,va,zaE,zaj]
 refine zag zxy.eq_1 (fun(j:Nat) fr M=>j≤3∧(∀e,e<j→fwD (U e))∧fr 4=.p 0 0∧fr 8=.p 4 0∧fr 11=.p 5 0∧fr 30=.ag (cg 3 fun e=>qc (U e))∧fr 31=(PV.i .i64 ((j:Nat):Int))∧∃b1 b2 b3 v G,M=some ⟨cs 20 c,true,0⟩::b1::b2::b3::some ⟨[.b false,.nl,.b false,.nl],true,0⟩::some ⟨cg 3 fun e=>qc (U e),true,v⟩::G) (fun j=>3-j) ?_ 0 ⟨by omega,fun e he=>by omega,by simp only[go_sem,seval],by simp only[go_sem,seval],by simp only[go_sem,seval],by simp only[go_sem,seval];rfl,by simp only[go_sem,seval],_,_,_,_,[],rfl⟩
 rintro j fr M ⟨hj,hlo,f4,f8,f11,f30,f31,b1,b2,b3,v,G,rfl⟩ ih
 rcases Nat.lt_or_ge j 3 with h|h
 ·have q1:((j:Int)<3)=True:=eq_true (by omega)
  have qL:(j<3)=True:=eq_true h
  have cx:=zc7 (k:=4) (f:=fun e=>qc (U e)) (fun _=>rfl) h
  have cl:(cg 3 fun e=>qc (U e)).length=12:=zdz (k:=4) (fun _=>rfl) 3
  have dg:=ziO (U j)
  simp(disch:=omega)only[go_sem,seval,wqq,f4,f8,f11,f30,f31,q1,qL,cx,cl,zhI,zdg,zbA,zcm,dg,mG,mG0,sG,sG0,lG,lqq]
  by_cases hw:fwD (U j)
  ·have t1:(1000<((max (nbits (U j).p.v.natAbs) (nbits (U j).q.v.natAbs):Nat):Int))=False:=eq_false (by unfold fwD at hw;omega)
   simp(disch:=omega)only[go_sem,seval,wqq,f4,f8,f11,f30,f31,t1,mG,mG0,sG,sG0,lG,lqq]
   refine ih (j+1) _ _ (by omega) ⟨by omega,fun e he=>?_,by simp only[go_sem,seval,f4],by simp only[go_sem,seval,f8],by simp only[go_sem,seval,f11],by simp only[go_sem,seval,f30],by simp only[go_sem,seval,f31];rw[Int.natCast_succ],_,_,_,_,_,rfl⟩
   rcases Nat.lt_or_ge e j with z|z
   ·exact hlo e z
   ·obtain rfl:e=j:=by omega
    exact hw
  ·have t1:(1000<((max (nbits (U j).p.v.natAbs) (nbits (U j).q.v.natAbs):Nat):Int))=True:=eq_true (by unfold fwD at hw;omega)
   have e1:evE c U=4:=by unfold evE;rw[if_pos hc,if_neg fun q=>hw (q j h)]
   have e2:evR c U=fq0:=by unfold evR;rw[e1];rfl
   rw[e1,e2]
   simp(disch:=omega)only[go_sem,seval,wqq,f4,f8,f11,f30,f31,t1,zaE,zaj,zl7,mG,mG0,sG,sG0,lG,lqq]
 ·obtain rfl:j=3:=by omega
  have e1:evE c U=0:=by unfold evE;rw[if_pos hc,if_pos hlo]
  have e2:evR c U=sF c U 20:=by unfold evR;rw[e1];rfl
  rw[e1,e2]
  clear ih e1 e2 hlo va
  simp(disch:=omega)only[go_sem,seval,wqq,f4,f8,f11,f30,f31,zaE,zaj,mG,mG0,sG,sG0,lG,lqq]
  refine zag zxp.eq_1 (fun(i:Nat) fr M=>i≤20∧fr 8=.p 4 0∧fr 11=.p 5 0∧fr 14=.p (G.length+6) 0∧fr 40=aI 20 c∧fr 41=(PV.i .i64 ((i:Nat):Int))∧∃b0 b1 b2 b3 v vs H L,QZ L (sF c U i)∧M=b0::b1::b2::b3::some ⟨[.b false,.nl,.b false,.nl],true,0⟩::some ⟨cg 3 fun e=>qc (U e),true,v⟩::(G++some ⟨L,true,vs⟩::H)) (fun i=>20-i) ?_ 0 ⟨by omega,by simp only[go_sem,seval,f8],by simp only[go_sem,seval,f11],by simp only[go_sem,seval],by simp only[go_sem,seval],by simp only[go_sem,seval],_,_,_,_,_,_,[],_,qz0,rfl⟩
  rintro i fr M ⟨hi,f8,f11,f14,f40,f41,b0,b1,b2,b3,v,vs,H,L,qz,rfl⟩ ih
  have z1:=qz.len
  have z2:=qz.sc
  have z3:=qz.fz
  have z4:=qz.tk
  have z5:=qz.spl
  rcases Nat.lt_or_ge i 20 with h|h
  ·have q1:((i:Int)<20)=True:=eq_true (by omega)
   have qL:(i<20)=True:=eq_true h
   have ix:=zeX c h
   by_cases c0:c i=0
   ·have c0':(c i=0)=True:=eq_true c0
    have hs:sF c U (i+1)=sF c U i:=if_pos c0
    simp(disch:=omega)only[go_sem,seval,wqq,f8,f11,f14,f40,f41,q1,qL,ix,c0',mG,mG0,sG,sG0,lG,lqq]
    exact ih (i+1) _ _ (by omega) ⟨by omega,by simp only[go_sem,seval,f8],by simp only[go_sem,seval,f11],by simp only[go_sem,seval,f14],by simp only[go_sem,seval,f40],by simp only[go_sem,seval,f41];rw[Int.natCast_succ],_,_,_,_,_,_,_,_,hs ▸ qz,rfl⟩
   ·have c0':(c i=0)=False:=eq_false c0
    have hs:sF c U (i+1)=aF (sF c U i) (tF U (whQ (c i)) (facL i)):=if_neg c0
    have ck:Fits64 (c i):=by have:=hc i h;unfold Fits64;omega
    have k1:=zf1 ck
    have rw3:=zc8 (n:=60) mE (off:=i*3) (k:=3) (by omega)
    have rl:(3≤((cs 60 mE).drop (i*3)).length)=True:=eq_true (by rw[List.length_drop,zaO];omega)
    simp(disch:=omega)only[go_sem,seval,wqq,f8,f11,f14,f40,f41,q1,qL,ix,c0',k1,zk1,rw3,rl,zdg,mG,mG0,sG,sG0,lG,lqq]
    refine zag zxv.eq_1 (fun(j:Nat) fr M=>j≤3∧fr 8=.p 4 0∧fr 11=.p 5 0∧fr 14=.p (G.length+6) 0∧fr 17=.p (G.length+(H.length+1)+6) 0∧fr 40=aI 20 c∧fr 41=(PV.i .i64 ((i:Nat):Int))∧fr 51=aI 3 (fun e=>mE (i*3+e))∧fr 52=(PV.i .i64 ((j:Nat):Int))∧∃b0 b1 b2 b3 v vs vt,M=b0::b1::b2::b3::some ⟨[.b false,.nl,.b false,.nl],true,0⟩::some ⟨cg 3 fun e=>qc (U e),true,v⟩::(G++some ⟨L,true,vs⟩::(H++[some ⟨qc (tF U (whQ (c i)) (preL i j)),true,vt⟩]))) (fun j=>3-j) ?_ 0 ⟨by omega,by simp only[go_sem,seval,f8],by simp only[go_sem,seval,f11],by simp only[go_sem,seval,f14],by simp only[go_sem,seval],by simp only[go_sem,seval,f40],by simp only[go_sem,seval,f41],by simp only[go_sem,seval],by simp only[go_sem,seval],_,_,_,_,_,_,_,rfl⟩
    rintro j fr M ⟨hj,f8,f11,f14,f17,f40,f41,f51,f52,b0,b1,b2,b3,v,vs,vt,rfl⟩ ih2
    rcases Nat.lt_or_ge j 3 with h3|h3
    ·have q2:((j:Int)<3)=True:=eq_true (by omega)
     have qJ:(j<3)=True:=eq_true h3
     have iy:=zeX (fun e=>mE (i*3+e)) h3
     obtain⟨e1,e2⟩:=zaQ i h j h3
     rw[e1] at iy
     simp(disch:=omega)only[go_sem,seval,wqq,f8,f11,f14,f17,f40,f41,f51,f52,q2,qJ,iy,mG,mG0,sG,sG0,lG,lqq]
     refine zag zxq.eq_1 (fun(k:Nat) fr M=>k≤exN i j∧fr 8=.p 4 0∧fr 11=.p 5 0∧fr 14=.p (G.length+6) 0∧fr 17=.p (G.length+(H.length+1)+6) 0∧fr 40=aI 20 c∧fr 41=(PV.i .i64 ((i:Nat):Int))∧fr 51=aI 3 (fun e=>mE (i*3+e))∧fr 52=(PV.i .i64 ((j:Nat):Int))∧fr 18=(PV.i .i64 ((j:Nat):Int))∧fr 56=(PV.i .i64 ((exN i j:Nat):Int))∧fr 57=(PV.i .i64 ((k:Nat):Int))∧∃b0 b1 b2 b3 v vs vt,M=b0::b1::b2::b3::some ⟨[.b false,.nl,.b false,.nl],true,0⟩::some ⟨cg 3 fun e=>qc (U e),true,v⟩::(G++some ⟨L,true,vs⟩::(H++[some ⟨qc (tF U (whQ (c i)) (preL i j++List.replicate k (j:Int))),true,vt⟩]))) (fun k=>exN i j-k) ?_ 0 ⟨by omega,by simp only[go_sem,seval,f8],by simp only[go_sem,seval,f11],by simp only[go_sem,seval,f14],by simp only[go_sem,seval,f17],by simp only[go_sem,seval,f40],by simp only[go_sem,seval,f41],by simp only[go_sem,seval,f51],by simp only[go_sem,seval,f52],by simp only[go_sem,seval],by simp only[go_sem,seval],by simp only[go_sem,seval],_,_,_,_,_,_,_,by rw[List.replicate_zero,List.append_nil]⟩
     rintro k fr M ⟨hk,f8,f11,f14,f17,f40,f41,f51,f52,f18,f56,f57,b0,b1,b2,b3,v,vs,vt,rfl⟩ ih3
     rcases Nat.lt_or_ge k (exN i j) with h4|h4
     ·have q3:((k:Int)<(exN i j:Int))=True:=eq_true (by omega)
      have cx:=zc7 (k:=4) (f:=fun e=>qc (U e)) (fun _=>rfl) h3
      have cl:(j*4+4≤(cg 3 fun e=>qc (U e)).length)=True:=eq_true (by rw[zdz (k:=4) (fun _=>rfl)];exact zlQ h3)
      have st:=zne U (whQ (c i)) i j k
      have pm:=zlk (tF U (whQ (c i)) (preL i j++List.replicate k (j:Int))) (U j)
      simp(disch:=omega)only[go_sem,seval,wqq,f8,f11,f14,f17,f40,f41,f51,f52,f18,f56,f57,q3,qJ,cx,cl,pm,zhI,zbA,zcm,zct,mG,mG0,sG,sG0,lG,lqq]
      exact ih3 (k+1) _ _ (by omega) ⟨by omega,by simp only[go_sem,seval,f8],by simp only[go_sem,seval,f11],by simp only[go_sem,seval,f14],by simp only[go_sem,seval,f17],by simp only[go_sem,seval,f40],by simp only[go_sem,seval,f41],by simp only[go_sem,seval,f51],by simp only[go_sem,seval,f52],by simp only[go_sem,seval,f18],by simp only[go_sem,seval,f56],by simp only[go_sem,seval,f57];rw[Int.natCast_succ],_,_,_,_,_,_,_,by rw[st]⟩
     ·obtain rfl:k=exN i j:=by omega
      have q3:((exN i j:Int)<(exN i j:Int))=False:=eq_false (Int.lt_irrefl _)
      simp(disch:=omega)only[go_sem,seval,wqq,f8,f11,f14,f17,f40,f41,f51,f52,f18,f56,f57,q3,mG,mG0,sG,sG0,lG,lqq]
      exact ih2 (j+1) _ _ (by omega) ⟨by omega,by simp only[go_sem,seval,f8],by simp only[go_sem,seval,f11],by simp only[go_sem,seval,f14],by simp only[go_sem,seval,f17],by simp only[go_sem,seval,f40],by simp only[go_sem,seval,f41],by simp only[go_sem,seval,f51],by simp only[go_sem,seval,f52];rw[Int.natCast_succ],_,_,_,_,_,_,_,by rw[zi6]⟩
    ·obtain rfl:j=3:=by omega
     rw[zkB i h]
     generalize tF U (whQ (c i)) (facL i)=t at *
     have pa:=znt (sF c U i) t
     generalize sF c U i=s at *
     simp(disch:=omega)only[go_sem,seval,wqq,f8,f11,f14,f17,f40,f41,f51,f52,z1,z2,z3,z4,z5,pa,zhI,zbA,zcm,mG,mG0,sG,sG0,lG,lqq]
     refine ih (i+1) _ _ (by omega) ⟨by omega,by simp only[go_sem,seval,f8],by simp only[go_sem,seval,f11],by simp only[go_sem,seval,f14],by simp only[go_sem,seval,f40],by simp only[go_sem,seval,f41];rw[Int.natCast_succ],_,_,_,_,_,_,_,_,hs ▸ qzs _,rfl⟩
  ·obtain rfl:i=20:=by omega
   have sp:=zuU (.b false) .nl (.b false) .nl L z1
   simp(disch:=omega)only[go_sem,seval,wqq,f8,f11,f14,f40,f41,z1,z2,z3,z4,z5,sp,zhI,mG,mG0,sG,sG0,lG,lqq]
end Go.Eng
