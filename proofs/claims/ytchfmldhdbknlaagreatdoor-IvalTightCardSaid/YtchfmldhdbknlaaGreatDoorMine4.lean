/- The engine and the contracts on which the statement stands: no conditions of its own. -/
import Derived.Test.YtchfmldhdbknlaaGreatDoorMine3
import Derived.KernelRfl
import Derived.Lib.LaidTab
import Derived.ProofKit
import Derived.OpenShut
import Derived.Lay
import Derived.LaidMore
import Derived.LaidHandle
import Derived.Stop.Joined
set_option linter.unusedSimpArgs false
set_option linter.unusedVariables false
set_option linter.unusedSectionVars false
namespace Go.Eng
open Go.RowKit
variable {key:Nat→Option FuncId} {P:Program} {T:Tab}
def Hp.tw (t:Blk) (cs:List AV):Hp:=⟨fun k=>if k=0 then some { t with rw:=false } else if k=5 then some ⟨cs,false,0⟩ else none,6⟩
def Loc.tw (l:Loc) (a1:At):Loc:=fun k=>if k=5 then some a1 else if k≤4 then l k else none
theorem zkT {l l2:Loc} {i:Nat} (hi:i<powT.length) {v:Value} (r:Rel key l powT[i] v):Rel key l2 powT[i] v:=by
 have e:powT[i]=.i .u64 ((10^i:Nat):Int):=by
  simp only[powT];rw[List.getElem_map,List.getElem_range]
 rw[e] at r ⊢
 cases r;exact .i _ _
theorem zl2 {F F':Nat} {l:Loc} {h:Hp} {w:World} (S:Sim key F l h w) {t:Blk} {a0:At} (ht:h.m 0=some t) (hv:t.v=powT) (h0:l 0=some a0) {xs:List Nat} {a1:At}
  (hb:a1.b<w.heap.size∧a1.w=false∧xs.length≤a1.n∧∀i (hi:i<xs.length),w.cell? ⟨a1.b,a1.o+i,none⟩=some (.int .u32 ((xs[i]:Nat):Int))) :
  Sim key F' (Loc.tw l a1) (Hp.tw t (xs.map fun x:Nat=>.i .u32 (x:Int))) w:=by
 refine⟨fun k b a e1 e2=>?_,fun k b a k' b' a' e1 e2 e3=>?_,fun k a e=>?_,fun k a e=>?_,fun k hk=>?_⟩
 ·by_cases hk:k=0
  ·subst hk
   have e2:l 0=some a:=e2
   rw[h0] at e2
   cases e1;cases e2
   have H:=S.holds 0 t a0 ht h0
   refine⟨H.lt,H.len,fun i hi=>?_,H.scal,fun q=>(by cases q),fun q=>⟨rfl,(H.whole q).2⟩⟩
   obtain⟨v,c1,c2⟩:=H.cell i hi
   refine⟨v,c1,?_⟩
   have hi':i<powT.length:=by rw[←hv];exact hi
   have e:t.v[i]=powT[i]:=by simp only[hv]
   simp only at hi ⊢
   rw[e] at c2 ⊢
   exact zkT hi' c2
  ·by_cases hkn:k=5
   ·subst hkn
    cases e1;cases e2
    obtain⟨q1,q0,q2,q3⟩:=hb
    refine⟨q1,by simpa using q2,fun i hi=>?_,fun i hi=>?_,fun q=>(by cases q),fun q=>?_⟩
    ·simp only[List.length_map] at hi
     refine⟨_,q3 i hi,?_⟩
     simp only[List.getElem_map]
     exact .i _ _
    ·simp only[List.getElem_map];rfl
    ·rw[q0] at q;cases q
   ·simp only[Hp.tw,if_neg hk,if_neg hkn] at e1;cases e1
 ·simp only[Hp.tw] at e1
  split at e1
  ·cases e1;cases e3
  ·split at e1
   ·cases e1;cases e3
   ·cases e1
 ·simp only[Loc.tw] at e
  split at e
  ·cases e;exact hb.1
  ·split at e
   ·exact S.lt k a e
   ·cases e
 ·left
  show k<6
  simp only[Loc.tw] at e
  split at e
  ·omega
  ·split at e
   ·omega
   ·cases e
 ·have hk':6≤k:=hk
  simp only[Hp.tw]
  rw[if_neg (by omega),if_neg (by omega)]
theorem zpK {F:Nat} {l:Loc} {h:Hp} {w:World} (S:Sim key F l h w) {t:Blk} {a0:At} (ht:h.m 0=some t) (hv:t.v=powT) (h0:l 0=some a0) {neg:Bool} {wv:AV} {val:Value} {tx:List UInt8}
  (e:txtA [.ag [.b neg,wv]] h=some tx) (r:Rel key l wv val):∃cs a1 wv' v,(∀F',Sim key F' (Loc.tw l a1) (Hp.tw t cs) w)∧Rel key (Loc.tw l a1) wv' val∧wlen v≤512∧(neg=true→v≠0) ∧
   tx=decI (if neg then-(v:Int) else (v:Int))∧V (Hp.tw t cs) (fun _=>False) [] (D v) wv':=by
 have H0:=S.holds 0 t a0 ht h0
 have small:∀{wv':AV},Rel key (Loc.tw l ⟨a0.b,0,0,false⟩) wv' val→txtA [.ag [.b neg,wv']] (Hp.tw t [])=some tx→(∀m off len cap z,wv'=.sl m off len cap z→False) →
   ∃cs a1 wv' v,(∀F',Sim key F' (Loc.tw l a1) (Hp.tw t cs) w)∧Rel key (Loc.tw l a1) wv' val∧wlen v≤512∧(neg=true→v≠0) ∧
   tx=decI (if neg then-(v:Int) else (v:Int))∧V (Hp.tw t cs) (fun _=>False) [] (D v) wv':=fun {wv'} r1 e1 hs=>by
  obtain⟨v,v1,v2,v3,v4⟩:=zhe e1 fun m off len cap z q=>(hs _ _ _ _ _ q).elim
  exact⟨[],⟨a0.b,0,0,false⟩,wv',v,fun F'=>zl2 (xs:=[]) S ht hv h0 ⟨H0.lt,rfl,Nat.le_refl _,fun i hi=>by simp at hi⟩,r1,v1,v2,v3,v4⟩
 cases r with
 | @sl n off len cap cap' z a ha q1 q2 q3 =>
   replace e:(if len=0 then wtx neg [] else if z=1 then ((h.rd n off len).bind wordsA).bind (wtx neg) else none)=some tx:=e
   split at e
   ·rename_i hl
    subst hl
    exact small (wv':=.e0) (.e0 _ _) e fun _ _ _ _ _ q=>by cases q
   ·rename_i hl
    split at e
    ·rename_i hz
     subst hz
     simp only[Option.bind_eq_some_iff] at e
     obtain⟨xs,⟨cs,e1,e2⟩,e3⟩:=e
     obtain⟨w1,w2⟩:=zdZ e2
     unfold Hp.rd at e1
     split at e1
     ·rename_i b hb
      split at e1
      ·rename_i hle
       cases e1
       have hxl:xs.length=len:=by
        have:=congrArg List.length w1
        simp at this;omega
       have hg:∀i (hi:i<xs.length),b.v[off+i]?=some (.i .u32 ((xs[i]:Nat):Int)):=fun i hi=>by
        have:((b.v.drop off).take len)[i]?=some (.i .u32 ((xs[i]:Nat):Int)):=by
         rw[w1,List.getElem?_map,List.getElem?_eq_getElem hi];rfl
        rw[List.getElem?_take,if_pos (by omega),List.getElem?_drop] at this
        exact this
       have H:=S.holds n b a hb ha
       let a1:At:=⟨a.b,a.o+off,a.n-off,false⟩
       have hsim:∀F',Sim key F' (Loc.tw l a1) (Hp.tw t (xs.map fun x:Nat=>.i .u32 (x:Int))) w:=fun F'=>zl2 S ht hv h0 ⟨H.lt,rfl,by show xs.length≤a.n-off;have:=H.len;omega,fun i hi=>by
        have h1:=hg i hi
        have hoi:off+i<b.v.length:=by omega
        obtain⟨v,c1,c2⟩:=H.cell (off+i) hoi
        rw[List.getElem?_eq_getElem hoi] at h1
        cases h1':b.v[off+i] with
        | i k m =>
         rw[h1'] at h1 c2
         cases h1
         cases c2
         show w.cell? ⟨a.b,a.o+off+i,none⟩=_
         rw[Nat.add_assoc];exact c1
        | _=>rw[h1'] at h1;cases h1⟩
       have hrel:Rel key (Loc.tw l a1) (.sl 5 0 len cap 1) (.slice (some ⟨a.b,a.o+off,none⟩) len cap'):=by
        have hl:Loc.tw l a1 5=some a1:=rfl
        have:=Rel.sl (key:=key) (off:=0) (len:=len) (cap:=cap) (cap':=cap') (z:=1) hl q1 (by show 0+cap'*1≤a.n-off;omega) q3
        exact this
       have htx:txtA [.ag [.b neg,.sl 5 0 len cap 1]] (Hp.tw t (xs.map fun x:Nat=>.i .u32 (x:Int)))=some tx:=by
        have hrd:(Hp.tw t (xs.map fun x:Nat=>AV.i .u32 (x:Int))).rd 5 0 len=some (xs.map fun x:Nat=>.i .u32 (x:Int)):=by
         simp only[Hp.rd,Hp.tw,if_neg (show (5:Nat)≠0 by decide),if_true]
         rw[if_pos (by simp;omega),List.drop_zero,List.take_of_length_le (by simp;omega)]
        show (if len=0 then wtx neg [] else if 1=1 then (((Hp.tw t (xs.map fun x:Nat=>AV.i .u32 (x:Int))).rd 5 0 len).bind wordsA).bind (wtx neg) else none)=_
        rw[if_neg hl,if_pos rfl,hrd,Option.bind_some,←w1,e2,Option.bind_some]
        exact e3
       obtain⟨v,v1,v2,v3,v4⟩:=zhe htx fun m off' len' cap'' z q=>by cases q;exact q3
       exact⟨_,a1,_,v,hsim,hrel,v1,v2,v3,v4⟩
      ·cases e1
     ·cases e1
    ·cases e
 | sn=>exact small .sn e fun _ _ _ _ _ q=>by cases q
 | se b=>exact small (.se b) e fun _ _ _ _ _ q=>by cases q
 | e0 b c=>exact small (.e0 b c) e fun _ _ _ _ _ q=>by cases q
 | _=>simp[txtA] at e
end Go.Eng
namespace Go.Eng
open Go.RowKit
variable {key:Nat→Option FuncId} {P:Program} {T:Tab}
theorem zg9 {fn:Func} (h:fn.results = #[.tmp 2]) (tmps:Array Value) (w:World):(results fn tmps).run P w=.ok (tmps.getD 2 undef) w:=by
 unfold results
 rw[h,Array.mapM_eq_mapM_toList]
 rfl
theorem zpw {l:Loc} {xs:List UInt8} {v:Value} (h:Rel key l (.s xs) v):v=.string ⟨xs.toArray⟩:=by
 generalize hx:AV.s xs=x at h
 cases h<;>cases hx
 rfl
theorem zog (v:Nat):dec v≠[]:=by
 unfold dec
 split
 ·simp
 ·rename_i h
  intro q
  have h1:=congrArg List.length q
  rw[zbw] at h1
  have:=zbv v
  simp at h1
  rw[h1] at this
  simp at this;omega
theorem zhH {args:List AV} {h:Hp} {l:List UInt8} (e:txtA args h=some l):∃neg w,args=[.ag [.b neg,w]]:=by
 unfold txtA at e
 split at e
 ·exact⟨_,_,rfl⟩
 ·exact⟨_,_,rfl⟩
 ·exact⟨_,_,rfl⟩
 ·exact⟨_,_,rfl⟩
 ·cases e
theorem znI (K1:ProgOk P key T E1.prog) (KE:PEnvOk E1) (hT0:∀g n,T.gkey g=some n→n≤4) {G:Nat} (hG:T.gkey G=some 0) {fn:Func} {g:Nat} (hfn:P.funcs[g]?=some fn) {pre tail:Code} (hbody:fn.body=some (graft pre tail)) (hpre:cCode P T pre=strA)
  (hnt:fn.ntmps=58) (hres:fn.results = #[.tmp 2])
  (htail:∀(neg:Bool) (ps:List (List UInt8)),ps.reverse.flatten≠[]→ps.length≤20000→ps.flatten.length≤1000000 →
   ∀(b1 o1 b3 o3 c:Nat) (w:World),w.cell? ⟨b1,o1,none⟩=some (.bool neg)→b1<w.heap.size→b3<w.heap.size →
   (∀j x,ps[j]?=some x→w.cell? ⟨b3,o3+j,none⟩=some (.string ⟨x.toArray⟩)) →
   ∀(tm:Array Value),tm.size=58→tm[1]?=some (.pointer (some ⟨b1,o1,none⟩))→tm[3]?=some (.slice (some ⟨b3,o3,none⟩) ps.length c) →
   tail.wp P (fun e a w'=>e=.ret∧a.defers=[]∧a.tmps.getD 2 undef=.string ⟨((if neg then [45] else [])++ps.reverse.flatten).toArray⟩∧Below w.heap.size w w') ⟨tm,[]⟩ w)
  {F:Nat} {args:List AV} {vs:Array Value} {h h':Hp} {v:AV} {l:Loc} {w:World} (e:orcA 33 args h=some (v,h')) (TO:TabOk key T l)
  (RL:RelL key l args vs.toList) (S:Sim key F l h w):Calls P g vs w fun e w'=>∃l' val,e=.returned val∧Ext l h w l' h' w'∧Sim key F l' h' w'∧Rel key l' v val:=by
 unfold orcA at e
 rw[if_pos rfl] at e
 split at e
 case isFalse=>cases e
 rename_i ht
 simp only[Option.map_eq_some_iff,Prod.mk.injEq] at e
 obtain⟨tx,e1,rfl,rfl⟩:=e
 obtain⟨t,t1,t2⟩:=ht
 obtain⟨m0,hl0⟩:=TO.g G 0 hG
 obtain⟨neg,wv,rfl⟩:=zhH e1
 have hvs:∃val,vs = #[.agg #[.bool neg,val]]∧Rel key l wv val:=by
  have hlen:=RL.1
  rcases vs with⟨vs⟩
  match vs,hlen with
  | [x],_ =>
   have r:=RL.2 0 (by simp) (by simp)
   simp only[List.getElem_cons_zero] at r
   cases r with
   | @ag _ ws hn hv =>
    rcases ws with⟨ws⟩
    match ws,hn with
    | [a,b],_ =>
     have r1:=hv 0 (by simp) (by simp)
     have r2:=hv 1 (by simp) (by simp)
     simp only[List.getElem_cons_zero,List.getElem_toArray,List.getElem_cons_succ] at r1 r2
     cases r1
     exact⟨b,rfl,r2⟩
 obtain⟨val,rfl,rv⟩:=hvs
 obtain⟨cs,a1,wv',z,hsim,rv',hz,hneg,htx,hV⟩:=zpK S t1 t2 hl0 e1 rv
 generalize hh0:Hp.tw t cs=h0 at hsim hV
 generalize hll:Loc.tw l a1=l0 at hsim rv'
 have hw0:h0.wf:=(hsim 0).wf
 have hT:HasT h0:=⟨{ t with rw:=false },by rw[←hh0];rfl,t2⟩
 have norw:∀k b,h0.m k=some b→b.rw=false:=fun k b q=>by
  rw[←hh0] at q
  simp only[Hp.tw] at q
  split at q
  ·cases q;rfl
  ·split at q
   ·cases q;rfl
   ·cases q
 have TO0:TabOk key T l0:=⟨TO.f,fun g' n' q=>by
  have hn:=hT0 g' n' q
  obtain⟨m,hm⟩:=TO.g g' n' q
  refine⟨m,?_⟩
  rw[←hll]
  simp only[Loc.tw]
  rw[if_neg (by omega),if_pos hn]
  exact hm⟩
 have RA:RelL key l0 [.ag [.b neg,wv']] [.agg #[.bool neg,val]]:=.cons ((RelL.cons (.b neg) (.cons rv' .nil)).ag) .nil
 have RF:RelF key l0 ([.ag [.b neg,wv']]++List.replicate 57 undefA) (#[.agg #[.bool neg,val]]++Array.replicate (fn.ntmps-(#[Value.agg #[.bool neg,val]]:Array Value).size) undef):=by
  rw[hnt]
  unfold RelF
  rw[Array.toList_append,Array.toList_replicate]
  exact RA.append ⟨by simp,fun i q1 q2=>by rw[List.getElem_replicate,List.getElem_replicate];exact zbm⟩
 have hbel:∀{l1 h1 w1},Ext l0 h0 w l1 h1 w1→Below w.heap.size w w1:=fun {l1 h1 w1} E =>
  ⟨E.os,E.tape,E.output,E.size,fun b hb=>E.frame b hb fun m blk a q1 q2=>by rw[norw m blk q1] at q2;cases q2⟩
 have hregs:(cCode P T pre).regsOk=true:=by rw[hpre];decide
 have goodCall:=zdn K1
 have final:Calls P g #[.agg #[.bool neg,val]] w fun e w'=>e=.returned (.string ⟨tx.toArray⟩)∧Below w.heap.size w w':=by
  refine calls_of_wp hfn hbody ?_
  by_cases hz0:z=0
  ·subst hz0
   have hnf:neg=false:=by
    cases neg
    ·rfl
    ·exact(hneg rfl rfl).elim
   subst hnf
   have htx':tx=[48]:=by rw[htx];rfl
   obtain⟨lf,fr',h1,ev,f2⟩:=znF KE hw0 hT hV
   refine zgy (goodCall lf) K1.call (zb7 K1 lf) K1.mixed lf tail pre hregs TO0 RF (hsim h1.next) (Nat.le_refl _) (by rw[hpre];exact ev) fun l' a' w' E R' S' hd=>?_
   have r2:=RelF.get R' 2
   rw[f2] at r2
   refine⟨hd,_,zg9 hres _ _,?_,hbel E⟩
   rw[htx']
   generalize a'.tmps.getD 2 undef=x at r2
   rw[zpw r2]
  ·obtain⟨lf,fr',h1,p0,m,len,cap,ps,ev,hlen,f1,⟨b0,hb0,hb0v⟩,f3,⟨b1,hb1,hb1v⟩,rfl,g1,g2,g3⟩:=znG KE (neg:=neg) hw0 hT hz0 hz hV
   refine zgy (goodCall lf) K1.call (zb7 K1 lf) K1.mixed lf tail pre hregs TO0 RF (hsim h1.next) (Nat.le_refl _) (by rw[hpre];exact ev) fun l' a' w' E R' S' hd=>?_
   have r1:=RelF.get R' 1
   have r3:=RelF.get R' 3
   rw[f1] at r1
   rw[f3] at r3
   have hsz:a'.tmps.size=58:=by
    have:=R'.1
    simp at this;omega
   have gd:∀i,i<58→a'.tmps[i]?=some (a'.tmps.getD i undef):=fun i hi=>by
    rw[Array.getD_eq_getD_getElem?,Array.getElem?_eq_getElem (by omega)];rfl
   have gd1:=gd 1 (by omega)
   have gd3:=gd 3 (by omega)
   generalize a'.tmps.getD 1 undef=x1 at r1 gd1
   generalize a'.tmps.getD 3 undef=x3 at r3 gd3
   cases r1 with
   | @p _ _ a1' q1 =>
    cases r3 with
    | @sl _ _ _ _ cap' _ a3 q3 s1 s2 s3 =>
     have H0:=S'.holds _ _ _ hb0 q1
     have H3:=S'.holds _ _ _ hb1 q3
     have hneg':w'.cell? ⟨a1'.b,a1'.o+0,none⟩=some (.bool neg):=by
      have hl:0<b0.v.length:=by
       rcases Nat.eq_zero_or_pos b0.v.length with q|q
       ·rw[List.getElem?_eq_none (by omega)] at hb0v;cases hb0v
       ·exact q
      obtain⟨y,c1,c2⟩:=H0.cell 0 hl
      rw[List.getElem?_eq_getElem hl] at hb0v
      rw[Option.some.inj hb0v] at c2
      cases c2;exact c1
     have hcells:∀j x,ps[j]?=some x→w'.cell? ⟨a3.b,a3.o+0+j,none⟩=some (.string ⟨x.toArray⟩):=fun j x hx=>by
      have hj:j<ps.length:=by
       by_cases q:j<ps.length
       ·exact q
       ·rw[List.getElem?_eq_none (by omega)] at hx;cases hx
      have hj':j<b1.v.length:=by rw[hb1v];simpa using hj
      obtain⟨y,c1,c2⟩:=H3.cell j hj'
      have e:b1.v[j]=.s x:=by
       simp only[hb1v,List.getElem_map]
       rw[List.getElem?_eq_getElem hj] at hx
       rw[Option.some.inj hx]
      rw[e] at c2
      have hy:y=.string ⟨x.toArray⟩:=by
       generalize hs:AV.s x=ax at c2
       cases c2<;>cases hs
       rfl
      rw[Nat.add_zero,←hy];exact c1
     have hne:ps.reverse.flatten≠[]:=by rw[g3];exact zog z
     have htot:ps.flatten.length≤1000000:=by
      have h1:ps.flatten.length=ps.reverse.flatten.length:=by
       simp only[List.length_flatten,List.map_reverse,List.sum_reverse]
      rw[h1,g3]
      have h2:=zlm hz
      unfold dec
      rw[if_neg hz0,zbw];omega
     have tl:=htail neg ps hne g2 htot a1'.b (a1'.o+0) a3.b (a3.o+0) cap' w' hneg' H0.lt H3.lt hcells a'.tmps hsz gd1 gd3
     have ha:a'=⟨a'.tmps,[]⟩:=by
      rcases a' with⟨tm,df⟩
      simp only at hd
      rw[hd]
     show tail.wp P (bodyPost P fn _) a' w'
     rw[ha]
     refine wp_mono tl ?_
     rintro e a2 w2 ⟨rfl,d2,v2,bl⟩
     refine⟨d2,_,zg9 hres _ _,?_,(hbel E).trans ⟨bl.os,bl.tape,bl.output,bl.size,fun k hk=>bl.block k (Nat.lt_of_lt_of_le hk E.size)⟩⟩
     rw[v2,g3,htx]
     unfold decI
     cases neg
     ·simp only[Bool.false_eq_true,if_false]
      rw[if_neg (by omega)]
      simp
     ·simp only[if_true]
      rw[if_pos (by omega)]
      simp
 exact zbE S final (zeZ tx)
end Go.Eng
namespace Go.Eng
theorem zg3 {f:Nat} {d:XD} (h:prog f=some d):some d∈progL:=by
 unfold prog at h
 cases h1:progL[f]? with
 | none=>rw[h1] at h;cases h
 | some x =>
  rw[h1] at h
  cases x with
  | none=>cases h
  | some y=>cases h;exact List.mem_of_getElem? h1
def dOkD:Option XD→Bool
 | some (.fn xf)=>xf.body.dOk xf.n
 | _=>true
theorem zhW:progL.all dOkD=true:=by kernel_rfl
def isO:Option XD→Bool
 | some (.orc _)=>true
 | _=>false
theorem zei {f:Nat} {o:List AV→Hp→Option (AV×Hp)} (h:prog f=some (.orc o)):o=orcA f∧(f=33∨f=50∨f=51∨f=130∨f=131∨f=222):=by
 have hf:isO (prog f)=true:=by rw[h];rfl
 have all:(List.range progL.length).all (fun f => !isO (prog f) || (f==33 || f==50 || f==51 || f==130 || f==131 || f==222))=true:=by kernel_rfl
 have hlt:f<progL.length:=by
  unfold prog at h
  by_cases q:f<progL.length
  ·exact q
  ·rw[List.getElem?_eq_none (by omega)] at h;cases h
 rw[List.all_eq_true] at all
 have:=all f (List.mem_range.2 hlt)
 rw[hf] at this
 simp only[Bool.not_true,Bool.false_or,Bool.or_eq_true,beq_iff_eq] at this
 have hc:f=33∨f=50∨f=51∨f=130∨f=131∨f=222:=by omega
 refine⟨?_,hc⟩
 rcases hc with rfl|rfl|rfl|rfl|rfl|rfl
 ·first|(have e:prog 33=some (.orc (orcA 33)):=rfl;rw[e] at h;cases h;rfl)|(have h':(none:Option XD)=some (.orc o):=h;cases h')
 ·first|(have e:prog 50=some (.orc (orcA 50)):=rfl;rw[e] at h;cases h;rfl)|(have h':(none:Option XD)=some (.orc o):=h;cases h')
 ·first|(have e:prog 51=some (.orc (orcA 51)):=rfl;rw[e] at h;cases h;rfl)|(have h':(none:Option XD)=some (.orc o):=h;cases h')
 ·first|(have e:prog 130=some (.orc (orcA 130)):=rfl;rw[e] at h;cases h;rfl)|(have h':(none:Option XD)=some (.orc o):=h;cases h')
 ·first|(have e:prog 131=some (.orc (orcA 131)):=rfl;rw[e] at h;cases h;rfl)|(have h':(none:Option XD)=some (.orc o):=h;cases h')
 ·first|(have e:prog 222=some (.orc (orcA 222)):=rfl;rw[e] at h;cases h;rfl)|(have h':(none:Option XD)=some (.orc o):=h;cases h')
theorem zcX {f:Nat} {d:XD} (h:E1.prog f=some d):prog f=some d∧f≠33:=by
 have h2:(if f=33 then none else prog f)=some d:=h
 split at h2
 ·cases h2
 ·rename_i hf;exact⟨h2,hf⟩
theorem ztg {D:Nat→Prop} {hp:Hp} {a:AV} (hv:V hp D [] (.lst []) a):a=.sn∨a=.se∨a=.e0∨∃m off cap z,a=.sl m off 0 cap z:=by
 generalize hl:([]:List PV)=l at hv
 generalize hr:(PV.lst l)=v at hv
 cases hv with
 | lst cs e d hs hz0 hz hcap hc hv=>cases hr;subst hl;exact .inr (.inr (.inr ⟨_,_,_,_,rfl⟩))
 | lst0 m off cap z=>exact .inr (.inr (.inr ⟨_,_,_,_,rfl⟩))
 | lsn=>exact .inl rfl
 | lse=>exact .inr (.inl rfl)
 | le0=>exact .inr (.inr (.inl rfl))
 | junk _ hv _=>cases hr
 | _=>cases hr
theorem zj1 {pr:Nat→Option XD} (hpr:pr 211=prog 211) {xf:XF} (h:prog 211=some (.fn xf)) {D:Nat→Prop} {hp:Hp} {a:AV} (hv:V hp D [] (.lst []) a) (k:Nat):∃b,evF pr (k+1) 211 [a] hp=some (b,hp)∧V hp D [] (.lst []) b:=by
 simp only[evF,hpr]
 rcases ztg hv with rfl|rfl|rfl|⟨m,off,cap,z,rfl⟩
 all_goals first|exact⟨.sn,rfl,.lsn⟩|exact⟨.se,rfl,.lse⟩|(have h':(none:Option XD)=some (.fn xf):=h;cases h')
theorem zlD {pr:Nat→Option XD} (hpr:∀f≠33,pr f=prog f) (f:Nat) (xf:XF) (h:pr f=some (.fn xf)) (D:Nat→Prop) (hp:Hp) (args:List PV) (as_:List AV) (v:PV) (e:ovrP f args=some v) (hv:VL hp D [] args as_) (k:Nat):∃a,evF pr (k+1) f as_ hp=some (a,hp)∧V hp D [] v a:=by
 unfold ovrP at e
 split at e
 ·rename_i hf
  subst hf
  split at e
  ·cases e
   obtain⟨hl,hv⟩:=hv
   match as_,hl,hv with
   | [a],_,hv=>exact zj1 (hpr 211 (by decide)) ((hpr 211 (by decide)) ▸ h) (hv 0 (by simp) (by simp)) k
  ·cases e
 ·cases e
theorem KE0:PEnvOk E0 where
 ovr:=fun f xf h D hp args asq v e hv k=>zlD (fun _ _=>rfl) f xf h D hp args asq v e hv k
 fn:=fun f xf h=>by
  have:=zhW
  rw[List.all_eq_true] at this
  exact this _ (zg3 (show prog f=_ from h))
 orc:=fun f o h Db r M hp args asv v M' e I hv=>by
  obtain⟨rfl,_⟩:=zei (show prog f=_ from h)
  exact zo5 rfl e I hv
theorem KE1:PEnvOk E1 where
 ovr:=fun f xf h D hp args asq v e hv k=>zlD (fun f hf=>if_neg hf) f xf h D hp args asq v e hv k
 fn:=fun f xf h=>by
  have:=zhW
  rw[List.all_eq_true] at this
  exact this _ (zg3 (zcX h).1)
 orc:=fun f o h Db r M hp args asv v M' e I hv=>by
  obtain⟨rfl,_⟩:=zei (zcX h).1
  exact zo5 rfl e I hv
variable (P:Program) (T:Tab)
def AllOk:List (Option XD)→List (Option FuncId)→Prop
 | some (.fn xf)::ps,some g::ks=>(∃fn,P.funcs[g]?=some fn∧cFunc P T fn=some xf∧xf.body.regsOk=true)∧AllOk ps ks
 | _::ps,_::ks=>AllOk ps ks
 | _,_=>True
def AllCal:List (Option FuncId)→Prop
 | some g::ks=>(∃fn,P.funcs[g]?=some fn∧fn.body.isNone=false∧(fn.name == "runtime.NumGoroutine")=false)∧AllCal ks
 | none::ks=>AllCal ks
 | []=>True
variable {P T}
theorem zeu:∀{ps:List (Option XD)} {ks:List (Option FuncId)},AllOk P T ps ks→∀{f:Nat} {xf:XF} {g:FuncId},(ps[f]?).join=some (.fn xf)→(ks[f]?).join=some g→∃fn,P.funcs[g]?=some fn∧cFunc P T fn=some xf∧xf.body.regsOk=true
 | [],_,_,f,xf,g,h1,h2=>by simp at h1
 | p::ps,[],_,f,xf,g,h1,h2=>by simp at h2
 | p::ps,k::ks,h,0,xf,g,h1,h2=>by
  simp only[List.getElem?_cons_zero,Option.join_some] at h1 h2
  subst h1;subst h2
  exact h.1
 | p::ps,k::ks,h,f+1,xf,g,h1,h2=>by
  simp only[List.getElem?_cons_succ] at h1 h2
  refine zeu (ps:=ps) (ks:=ks) ?_ h1 h2
  match p,k,h with
  | some (.fn xf),some g,h=>exact h.2
  | some (.fn xf),none,h=>exact h
  | some (.orc _),_,h=>exact h
  | none,_,h=>exact h
theorem zfL:∀{ks:List (Option FuncId)},AllCal P ks→∀{f:Nat} {g:FuncId},(ks[f]?).join=some g→∃fn,P.funcs[g]?=some fn∧fn.body.isNone=false∧(fn.name == "runtime.NumGoroutine")=false
 | [],_,f,g,h=>by simp at h
 | k::ks,h,0,g,h1=>by
  simp only[List.getElem?_cons_zero,Option.join_some] at h1
  subst h1
  exact h.1
 | k::ks,h,f+1,g,h1=>by
  simp only[List.getElem?_cons_succ] at h1
  refine zfL (ks:=ks) ?_ h1
  match k,h with
  | some g,h=>exact h.2
  | none,h=>exact h
theorem zgE {f:Nat} {args:List AV} {h h':Hp} {v:AV} (e:orcA f args h=some (v,h')):HpOk h h':=by
 unfold orcA at e
 split at e
 ·split at e
  ·simp only[Option.map_eq_some_iff,Prod.mk.injEq] at e
   obtain⟨_,_,_,rfl⟩:=e
   exact .refl h
  ·cases e
 ·split at e
  ·cases e
  ·simp only[Option.map_eq_some_iff,Prod.mk.injEq] at e
   obtain⟨_,_,_,rfl⟩:=e
   exact .refl h
theorem znu {keyL:List (Option FuncId)} {ρ:Go.Shelf.Ren} {G:Nat} (mixed:P.follows .mixedOrders=true) (hc:AllCal P keyL) (ha:AllOk P T progL keyL) (L:LibOk P ρ (fun f=>(keyL[f]?).join) T G) :
  ProgOk P (fun f=>(keyL[f]?).join) T E1.prog where
 mixed:=mixed
 call:=fun f g h=>zfL hc h
 fn:=fun f xf g h1 h2=>zeu ha (zcX h1).1 h2
 good:=fun f o args h v h' h1 e=>by
  obtain⟨rfl,_⟩:=zei (zcX h1).1
  exact zgE e
 orc:=fun f o g h1 hk F args vs h h' v l w e hF TO RL S=>by
  obtain⟨rfl,_⟩:=zei (zcX h1).1
  exact zit L hk (zcX h1).2 e TO RL S
theorem znt {keyL:List (Option FuncId)} {ρ:Go.Shelf.Ren} {G:Nat} (mixed:P.follows .mixedOrders=true) (hc:AllCal P keyL) (ha:AllOk P T progL keyL) (L:LibOk P ρ (fun f=>(keyL[f]?).join) T G)
  (str:∀{g:Nat},(keyL[33]?).join=some g→∀{F:Nat} {args:List AV} {vs:Array Value} {h h':Hp} {v:AV} {l:Loc} {w:World},orcA 33 args h=some (v,h')→TabOk (fun f=>(keyL[f]?).join) T l →
   RelL (fun f=>(keyL[f]?).join) l args vs.toList→Sim (fun f=>(keyL[f]?).join) F l h w→Calls P g vs w fun e w'=>∃l' val,e=.returned val∧Ext l h w l' h' w'∧Sim (fun f=>(keyL[f]?).join) F l' h' w'∧Rel (fun f=>(keyL[f]?).join) l' v val) :
  ProgOk P (fun f=>(keyL[f]?).join) T E0.prog where
 mixed:=mixed
 call:=fun f g h=>zfL hc h
 fn:=fun f xf g h1 h2=>zeu ha (show prog f=_ from h1) h2
 good:=fun f o args h v h' h1 e=>by
  obtain⟨rfl,_⟩:=zei (show prog f=_ from h1)
  exact zgE e
 orc:=fun f o g h1 hk F args vs h h' v l w e hF TO RL S=>by
  obtain⟨rfl,hf⟩:=zei (show prog f=_ from h1)
  by_cases h33:f=33
  ·subst h33
   exact str hk e TO RL S
  ·exact zit L hk h33 e TO RL S
end Go.Eng
namespace Go.Proofs
open Go.Eng
def Tryz.keyL:List (Option FuncId):=[none,none,none,none,none,none,some 37,none,some 112,some 111,none,some 56,none,some 59,none,none,some 22,some 78,some 104,some 76,some 138,some 106,some 105,some 89,some 54,none,none,none,none,some 108,some 81,some 74,none,some 75,some 55,some 137,some 107,some 127,some 93,some 73,some 134,some 131,some 135,some 103,none,none,none,none,some 120,some 121,some 122,some 123,none,none,none,some 155,some 156,some 157,some 153,some 136,some 149,some 150,some 154,none,some 115,some 113,none,some 110,none,none,none,none,none,none,none,none,some 179,some 178,some 175,some 176,none,some 109,none,none,none,some 172,none,none,none,none,none,none,none,none,none,none,none,none,none,none,none,none,none,none,none,none,none,some 77,none,none,some 119,none,none,none,some 38,none,none,none,some 68,some 35,some 88,none,none,some 71,some 98,some 87,none,some 128,some 36,some 140,some 141,some 142,some 82,some 83,some 84,some 85,some 133,some 159,none,none,none,none,none,none,none,none,none,some 132,some 151,some 152,none,none,none,none,none,none,none,none,none,some 177,none,none,none,none,none,none,none,none,none,none,none,none,none,none,none,none,none,none,none,some 101,some 102,none,some 39,none,none,some 86,none,some 52,none,none,none,none,none,none,none,none,some 23,some 63,none,none,some 64,none,none,none,none,none,none,none,none,some 118,none,none,none,none,none,none,some 139,none,none,none,none,none,some 158,none,none,none,none,none,none,none,none,none,none,none,none,none,none,none,none,none,none,none,none,none,none,none,none,none,none,none,none,none,none,none,none,none,none,none,none,none,none,none,none,none,none,none,none,none,none,none,none,none,none,none,none,none,none,none,some 12,none,some 19,some 20,none,none,none,none,none,none,none,some 60,some 61,some 62,some 72,some 114,some 116,some 117,some 237,some 238,some 239,some 240,none,none,none,none,none,none,none,none,none,none,none,none,none,none,none,none,none,none,none,none,none,none,none,none,none,none,none,none,none,none,none,none,none,none,none,none,none,none,none,none,none,none,none,none,some 11,some 14,none,none,some 29,none,none,none,none,none,none,none,none,none,none,none,none,some 32,some 65,some 66,some 67,some 69,none,some 79,none,none,none,none,none,some 17,none,none,none,some 15,some 43,some 41,some 129,some 91,some 130,none,none,some 90,some 92,some 80,none,none,none,none,none,none,none,none,none,none,none,none,none,none,none,none,none,none,none,none,none,none,none,none,none,none,none,none,none,none,none,none,none,none,none,none,none,none,none,none,none,none,none,none,none,none,none,none,none,none,none,none,none,none,none,none,none,none,some 26,none,none,none,none,none,none,none,none,none,none,none,none,none,none,none,none,none,none,none,none,none,none,none,none,none,none,none,none,none,none,none,none,none,none,none,none,none,none,none,none,none,none,none,none,none,none,none,none,none,none,none,some 9,none,some 13,none,some 24,some 25,none,none,some 45,none,none,none,none,none,none,none,some 57,some 58,some 95,none,none,none]
def Tryz.fkeyL:List (Option Nat):=[none,none,none,none,none,none,none,none,none,some 498,none,some 344,some 278,some 500,some 345,some 377,none,some 373,none,some 280,some 281,none,some 16,some 196,some 502,some 503,some 446,none,none,some 348,none,none,some 361,none,none,some 119,some 128,some 6,some 114,some 182,none,some 379,none,some 378,none,some 506,none,none,none,none,none,none,some 187,none,some 24,some 34,some 11,some 514,some 515,some 13,some 289,some 290,some 291,some 197,some 200,some 362,some 363,some 364,some 118,some 365,none,some 123,some 292,some 39,some 31,some 33,some 19,some 107,some 17,some 367,some 387,some 30,some 132,some 133,some 134,some 135,some 185,some 125,some 120,some 23,some 385,some 381,some 386,some 38,none,some 516,none,none,some 124,none,none,some 179,some 180,some 43,some 18,some 22,some 21,some 36,some 29,some 81,some 67,some 9,some 8,some 65,some 293,some 64,some 294,some 295,some 209,some 110,some 48,some 49,some 50,some 51,none,none,none,some 37,some 127,some 380,some 382,some 41,some 147,some 136,some 40,some 42,some 59,some 35,some 20,some 216,some 129,some 130,some 131,none,none,none,none,none,none,some 60,some 61,some 148,some 149,some 58,some 62,some 55,some 56,some 57,some 222,some 137,none,none,none,none,none,none,none,none,none,none,none,none,some 85,none,none,some 78,some 79,some 159,some 77,some 76,none,none,none,none,none,none,none,none,none,none,none,none,none,none,none,none,none,none,none,none,none,none,none,none,none,none,none,none,none,none,none,none,none,none,none,none,none,none,none,none,none,none,none,none,none,none,none,none,none,none,none,none,none,none,none,none,none,some 296,some 297,some 298,some 299]
def Tryz.T:Tab:={ fkey:=fun f=>(Tryz.fkeyL[f]?).join,gkey:=fun g=>if g=5 then some 0 else if g=0 then some 3 else if g=1 then some 4 else none }
abbrev OkC (p:Program) (n:Nat):Prop:=∃fn,p.funcs[n]?=some fn∧fn.body.isNone=false∧(fn.name == "runtime.NumGoroutine")=false
abbrev OkF (p:Program) (T:Tab) (n:Nat) (x:XF):Prop:=∃fn,p.funcs[n]?=some fn∧cFunc p T fn=some x∧x.body.regsOk=true
theorem Tryz.okc6:OkC Tryz.prog 37:=⟨_,Tryz.func37,by kernel_rfl,by kernel_rfl⟩
theorem Tryz.okc8:OkC Tryz.prog 112:=⟨_,Tryz.func112,by kernel_rfl,by kernel_rfl⟩
theorem Tryz.okc9:OkC Tryz.prog 111:=⟨_,Tryz.func111,by kernel_rfl,by kernel_rfl⟩
theorem Tryz.okc11:OkC Tryz.prog 56:=⟨_,Tryz.func56,by kernel_rfl,by kernel_rfl⟩
theorem Tryz.okc13:OkC Tryz.prog 59:=⟨_,Tryz.func59,by kernel_rfl,by kernel_rfl⟩
theorem Tryz.okc16:OkC Tryz.prog 22:=⟨_,Tryz.func22,by kernel_rfl,by kernel_rfl⟩
theorem Tryz.okc17:OkC Tryz.prog 78:=⟨_,Tryz.func78,by kernel_rfl,by kernel_rfl⟩
theorem Tryz.okc18:OkC Tryz.prog 104:=⟨_,Tryz.func104,by kernel_rfl,by kernel_rfl⟩
theorem Tryz.okc19:OkC Tryz.prog 76:=⟨_,Tryz.func76,by kernel_rfl,by kernel_rfl⟩
theorem Tryz.okc20:OkC Tryz.prog 138:=⟨_,Tryz.func138,by kernel_rfl,by kernel_rfl⟩
theorem Tryz.okc21:OkC Tryz.prog 106:=⟨_,Tryz.func106,by kernel_rfl,by kernel_rfl⟩
theorem Tryz.okc22:OkC Tryz.prog 105:=⟨_,Tryz.func105,by kernel_rfl,by kernel_rfl⟩
theorem Tryz.okc23:OkC Tryz.prog 89:=⟨_,Tryz.func89,by kernel_rfl,by kernel_rfl⟩
theorem Tryz.okc24:OkC Tryz.prog 54:=⟨_,Tryz.func54,by kernel_rfl,by kernel_rfl⟩
theorem Tryz.okc29:OkC Tryz.prog 108:=⟨_,Tryz.func108,by kernel_rfl,by kernel_rfl⟩
theorem Tryz.okc30:OkC Tryz.prog 81:=⟨_,Tryz.func81,by kernel_rfl,by kernel_rfl⟩
theorem Tryz.okc31:OkC Tryz.prog 74:=⟨_,Tryz.func74,by kernel_rfl,by kernel_rfl⟩
theorem Tryz.okc33:OkC Tryz.prog 75:=⟨_,Tryz.func75,by kernel_rfl,by kernel_rfl⟩
theorem Tryz.okc34:OkC Tryz.prog 55:=⟨_,Tryz.func55,by kernel_rfl,by kernel_rfl⟩
theorem Tryz.okc35:OkC Tryz.prog 137:=⟨_,Tryz.func137,by kernel_rfl,by kernel_rfl⟩
theorem Tryz.okc36:OkC Tryz.prog 107:=⟨_,Tryz.func107,by kernel_rfl,by kernel_rfl⟩
theorem Tryz.okc37:OkC Tryz.prog 127:=⟨_,Tryz.func127,by kernel_rfl,by kernel_rfl⟩
theorem Tryz.okc38:OkC Tryz.prog 93:=⟨_,Tryz.func93,by kernel_rfl,by kernel_rfl⟩
theorem Tryz.okc39:OkC Tryz.prog 73:=⟨_,Tryz.func73,by kernel_rfl,by kernel_rfl⟩
theorem Tryz.okc40:OkC Tryz.prog 134:=⟨_,Tryz.func134,by kernel_rfl,by kernel_rfl⟩
theorem Tryz.okc41:OkC Tryz.prog 131:=⟨_,Tryz.func131,by kernel_rfl,by kernel_rfl⟩
theorem Tryz.okc42:OkC Tryz.prog 135:=⟨_,Tryz.func135,by kernel_rfl,by kernel_rfl⟩
theorem Tryz.okc43:OkC Tryz.prog 103:=⟨_,Tryz.func103,by kernel_rfl,by kernel_rfl⟩
theorem Tryz.okc48:OkC Tryz.prog 120:=⟨_,Tryz.func120,by kernel_rfl,by kernel_rfl⟩
theorem Tryz.okc49:OkC Tryz.prog 121:=⟨_,Tryz.func121,by kernel_rfl,by kernel_rfl⟩
theorem Tryz.okc50:OkC Tryz.prog 122:=⟨_,Tryz.func122,by kernel_rfl,by kernel_rfl⟩
theorem Tryz.okc51:OkC Tryz.prog 123:=⟨_,Tryz.func123,by kernel_rfl,by kernel_rfl⟩
theorem Tryz.okc55:OkC Tryz.prog 155:=⟨_,Tryz.func155,by kernel_rfl,by kernel_rfl⟩
theorem Tryz.okc56:OkC Tryz.prog 156:=⟨_,Tryz.func156,by kernel_rfl,by kernel_rfl⟩
theorem Tryz.okc57:OkC Tryz.prog 157:=⟨_,Tryz.func157,by kernel_rfl,by kernel_rfl⟩
theorem Tryz.okc58:OkC Tryz.prog 153:=⟨_,Tryz.func153,by kernel_rfl,by kernel_rfl⟩
theorem Tryz.okc59:OkC Tryz.prog 136:=⟨_,Tryz.func136,by kernel_rfl,by kernel_rfl⟩
theorem Tryz.okc60:OkC Tryz.prog 149:=⟨_,Tryz.func149,by kernel_rfl,by kernel_rfl⟩
theorem Tryz.okc61:OkC Tryz.prog 150:=⟨_,Tryz.func150,by kernel_rfl,by kernel_rfl⟩
theorem Tryz.okc62:OkC Tryz.prog 154:=⟨_,Tryz.func154,by kernel_rfl,by kernel_rfl⟩
theorem Tryz.okc64:OkC Tryz.prog 115:=⟨_,Tryz.func115,by kernel_rfl,by kernel_rfl⟩
theorem Tryz.okc65:OkC Tryz.prog 113:=⟨_,Tryz.func113,by kernel_rfl,by kernel_rfl⟩
theorem Tryz.okc67:OkC Tryz.prog 110:=⟨_,Tryz.func110,by kernel_rfl,by kernel_rfl⟩
theorem Tryz.okc76:OkC Tryz.prog 179:=⟨_,Tryz.func179,by kernel_rfl,by kernel_rfl⟩
theorem Tryz.okc77:OkC Tryz.prog 178:=⟨_,Tryz.func178,by kernel_rfl,by kernel_rfl⟩
theorem Tryz.okc78:OkC Tryz.prog 175:=⟨_,Tryz.func175,by kernel_rfl,by kernel_rfl⟩
theorem Tryz.okc79:OkC Tryz.prog 176:=⟨_,Tryz.func176,by kernel_rfl,by kernel_rfl⟩
theorem Tryz.okc81:OkC Tryz.prog 109:=⟨_,Tryz.func109,by kernel_rfl,by kernel_rfl⟩
theorem Tryz.okc85:OkC Tryz.prog 172:=⟨_,Tryz.func172,by kernel_rfl,by kernel_rfl⟩
theorem Tryz.okc107:OkC Tryz.prog 77:=⟨_,Tryz.func77,by kernel_rfl,by kernel_rfl⟩
theorem Tryz.okc110:OkC Tryz.prog 119:=⟨_,Tryz.func119,by kernel_rfl,by kernel_rfl⟩
theorem Tryz.okc114:OkC Tryz.prog 38:=⟨_,Tryz.func38,by kernel_rfl,by kernel_rfl⟩
theorem Tryz.okc118:OkC Tryz.prog 68:=⟨_,Tryz.func68,by kernel_rfl,by kernel_rfl⟩
theorem Tryz.okc119:OkC Tryz.prog 35:=⟨_,Tryz.func35,by kernel_rfl,by kernel_rfl⟩
theorem Tryz.okc120:OkC Tryz.prog 88:=⟨_,Tryz.func88,by kernel_rfl,by kernel_rfl⟩
theorem Tryz.okc123:OkC Tryz.prog 71:=⟨_,Tryz.func71,by kernel_rfl,by kernel_rfl⟩
theorem Tryz.okc124:OkC Tryz.prog 98:=⟨_,Tryz.func98,by kernel_rfl,by kernel_rfl⟩
theorem Tryz.okc125:OkC Tryz.prog 87:=⟨_,Tryz.func87,by kernel_rfl,by kernel_rfl⟩
theorem Tryz.okc127:OkC Tryz.prog 128:=⟨_,Tryz.func128,by kernel_rfl,by kernel_rfl⟩
theorem Tryz.okc128:OkC Tryz.prog 36:=⟨_,Tryz.func36,by kernel_rfl,by kernel_rfl⟩
theorem Tryz.okc129:OkC Tryz.prog 140:=⟨_,Tryz.func140,by kernel_rfl,by kernel_rfl⟩
theorem Tryz.okc130:OkC Tryz.prog 141:=⟨_,Tryz.func141,by kernel_rfl,by kernel_rfl⟩
theorem Tryz.okc131:OkC Tryz.prog 142:=⟨_,Tryz.func142,by kernel_rfl,by kernel_rfl⟩
theorem Tryz.okc132:OkC Tryz.prog 82:=⟨_,Tryz.func82,by kernel_rfl,by kernel_rfl⟩
theorem Tryz.okc133:OkC Tryz.prog 83:=⟨_,Tryz.func83,by kernel_rfl,by kernel_rfl⟩
theorem Tryz.okc134:OkC Tryz.prog 84:=⟨_,Tryz.func84,by kernel_rfl,by kernel_rfl⟩
theorem Tryz.okc135:OkC Tryz.prog 85:=⟨_,Tryz.func85,by kernel_rfl,by kernel_rfl⟩
theorem Tryz.okc136:OkC Tryz.prog 133:=⟨_,Tryz.func133,by kernel_rfl,by kernel_rfl⟩
theorem Tryz.okc137:OkC Tryz.prog 159:=⟨_,Tryz.func159,by kernel_rfl,by kernel_rfl⟩
theorem Tryz.okc147:OkC Tryz.prog 132:=⟨_,Tryz.func132,by kernel_rfl,by kernel_rfl⟩
theorem Tryz.okc148:OkC Tryz.prog 151:=⟨_,Tryz.func151,by kernel_rfl,by kernel_rfl⟩
theorem Tryz.okc149:OkC Tryz.prog 152:=⟨_,Tryz.func152,by kernel_rfl,by kernel_rfl⟩
theorem Tryz.okc159:OkC Tryz.prog 177:=⟨_,Tryz.func177,by kernel_rfl,by kernel_rfl⟩
theorem Tryz.okc179:OkC Tryz.prog 101:=⟨_,Tryz.func101,by kernel_rfl,by kernel_rfl⟩
theorem Tryz.okc180:OkC Tryz.prog 102:=⟨_,Tryz.func102,by kernel_rfl,by kernel_rfl⟩
theorem Tryz.okc182:OkC Tryz.prog 39:=⟨_,Tryz.func39,by kernel_rfl,by kernel_rfl⟩
theorem Tryz.okc185:OkC Tryz.prog 86:=⟨_,Tryz.func86,by kernel_rfl,by kernel_rfl⟩
theorem Tryz.okc187:OkC Tryz.prog 52:=⟨_,Tryz.func52,by kernel_rfl,by kernel_rfl⟩
theorem Tryz.okc196:OkC Tryz.prog 23:=⟨_,Tryz.func23,by kernel_rfl,by kernel_rfl⟩
theorem Tryz.okc197:OkC Tryz.prog 63:=⟨_,Tryz.func63,by kernel_rfl,by kernel_rfl⟩
theorem Tryz.okc200:OkC Tryz.prog 64:=⟨_,Tryz.func64,by kernel_rfl,by kernel_rfl⟩
theorem Tryz.okc209:OkC Tryz.prog 118:=⟨_,Tryz.func118,by kernel_rfl,by kernel_rfl⟩
theorem Tryz.okc216:OkC Tryz.prog 139:=⟨_,Tryz.func139,by kernel_rfl,by kernel_rfl⟩
theorem Tryz.okc222:OkC Tryz.prog 158:=⟨_,Tryz.func158,by kernel_rfl,by kernel_rfl⟩
theorem Tryz.okc278:OkC Tryz.prog 12:=⟨_,Tryz.func12,by kernel_rfl,by kernel_rfl⟩
theorem Tryz.okc280:OkC Tryz.prog 19:=⟨_,Tryz.func19,by kernel_rfl,by kernel_rfl⟩
theorem Tryz.okc281:OkC Tryz.prog 20:=⟨_,Tryz.func20,by kernel_rfl,by kernel_rfl⟩
theorem Tryz.okc289:OkC Tryz.prog 60:=⟨_,Tryz.func60,by kernel_rfl,by kernel_rfl⟩
theorem Tryz.okc290:OkC Tryz.prog 61:=⟨_,Tryz.func61,by kernel_rfl,by kernel_rfl⟩
theorem Tryz.okc291:OkC Tryz.prog 62:=⟨_,Tryz.func62,by kernel_rfl,by kernel_rfl⟩
theorem Tryz.okc292:OkC Tryz.prog 72:=⟨_,Tryz.func72,by kernel_rfl,by kernel_rfl⟩
theorem Tryz.okc293:OkC Tryz.prog 114:=⟨_,Tryz.func114,by kernel_rfl,by kernel_rfl⟩
theorem Tryz.okc294:OkC Tryz.prog 116:=⟨_,Tryz.func116,by kernel_rfl,by kernel_rfl⟩
theorem Tryz.okc295:OkC Tryz.prog 117:=⟨_,Tryz.func117,by kernel_rfl,by kernel_rfl⟩
theorem Tryz.okc296:OkC Tryz.prog 237:=⟨_,Tryz.func237,by kernel_rfl,by kernel_rfl⟩
theorem Tryz.okc297:OkC Tryz.prog 238:=⟨_,Tryz.func238,by kernel_rfl,by kernel_rfl⟩
theorem Tryz.okc298:OkC Tryz.prog 239:=⟨_,Tryz.func239,by kernel_rfl,by kernel_rfl⟩
theorem Tryz.okc299:OkC Tryz.prog 240:=⟨_,Tryz.func240,by kernel_rfl,by kernel_rfl⟩
theorem Tryz.okc344:OkC Tryz.prog 11:=⟨_,Tryz.func11,by kernel_rfl,by kernel_rfl⟩
theorem Tryz.okc345:OkC Tryz.prog 14:=⟨_,Tryz.func14,by kernel_rfl,by kernel_rfl⟩
theorem Tryz.okc348:OkC Tryz.prog 29:=⟨_,Tryz.func29,by kernel_rfl,by kernel_rfl⟩
theorem Tryz.okc361:OkC Tryz.prog 32:=⟨_,Tryz.func32,by kernel_rfl,by kernel_rfl⟩
theorem Tryz.okc362:OkC Tryz.prog 65:=⟨_,Tryz.func65,by kernel_rfl,by kernel_rfl⟩
theorem Tryz.okc363:OkC Tryz.prog 66:=⟨_,Tryz.func66,by kernel_rfl,by kernel_rfl⟩
theorem Tryz.okc364:OkC Tryz.prog 67:=⟨_,Tryz.func67,by kernel_rfl,by kernel_rfl⟩
theorem Tryz.okc365:OkC Tryz.prog 69:=⟨_,Tryz.func69,by kernel_rfl,by kernel_rfl⟩
theorem Tryz.okc367:OkC Tryz.prog 79:=⟨_,Tryz.func79,by kernel_rfl,by kernel_rfl⟩
theorem Tryz.okc373:OkC Tryz.prog 17:=⟨_,Tryz.func17,by kernel_rfl,by kernel_rfl⟩
theorem Tryz.okc377:OkC Tryz.prog 15:=⟨_,Tryz.func15,by kernel_rfl,by kernel_rfl⟩
theorem Tryz.okc378:OkC Tryz.prog 43:=⟨_,Tryz.func43,by kernel_rfl,by kernel_rfl⟩
theorem Tryz.okc379:OkC Tryz.prog 41:=⟨_,Tryz.func41,by kernel_rfl,by kernel_rfl⟩
theorem Tryz.okc380:OkC Tryz.prog 129:=⟨_,Tryz.func129,by kernel_rfl,by kernel_rfl⟩
theorem Tryz.okc381:OkC Tryz.prog 91:=⟨_,Tryz.func91,by kernel_rfl,by kernel_rfl⟩
theorem Tryz.okc382:OkC Tryz.prog 130:=⟨_,Tryz.func130,by kernel_rfl,by kernel_rfl⟩
theorem Tryz.okc385:OkC Tryz.prog 90:=⟨_,Tryz.func90,by kernel_rfl,by kernel_rfl⟩
theorem Tryz.okc386:OkC Tryz.prog 92:=⟨_,Tryz.func92,by kernel_rfl,by kernel_rfl⟩
theorem Tryz.okc387:OkC Tryz.prog 80:=⟨_,Tryz.func80,by kernel_rfl,by kernel_rfl⟩
theorem Tryz.okc446:OkC Tryz.prog 26:=⟨_,Tryz.func26,by kernel_rfl,by kernel_rfl⟩
theorem Tryz.okc498:OkC Tryz.prog 9:=⟨_,Tryz.func9,by kernel_rfl,by kernel_rfl⟩
theorem Tryz.okc500:OkC Tryz.prog 13:=⟨_,Tryz.func13,by kernel_rfl,by kernel_rfl⟩
theorem Tryz.okc502:OkC Tryz.prog 24:=⟨_,Tryz.func24,by kernel_rfl,by kernel_rfl⟩
theorem Tryz.okc503:OkC Tryz.prog 25:=⟨_,Tryz.func25,by kernel_rfl,by kernel_rfl⟩
theorem Tryz.okc506:OkC Tryz.prog 45:=⟨_,Tryz.func45,by kernel_rfl,by kernel_rfl⟩
theorem Tryz.okc514:OkC Tryz.prog 57:=⟨_,Tryz.func57,by kernel_rfl,by kernel_rfl⟩
theorem Tryz.okc515:OkC Tryz.prog 58:=⟨_,Tryz.func58,by kernel_rfl,by kernel_rfl⟩
theorem Tryz.okc516:OkC Tryz.prog 95:=⟨_,Tryz.func95,by kernel_rfl,by kernel_rfl⟩
theorem Tryz.okf6:OkF Tryz.prog Tryz.T 37 zwZ:=⟨_,Tryz.func37,by kernel_rfl,by kernel_rfl⟩
theorem Tryz.okf8:OkF Tryz.prog Tryz.T 112 zxG:=⟨_,Tryz.func112,by kernel_rfl,by kernel_rfl⟩
theorem Tryz.okf9:OkF Tryz.prog Tryz.T 111 zxy:=⟨_,Tryz.func111,by kernel_rfl,by kernel_rfl⟩
theorem Tryz.okf11:OkF Tryz.prog Tryz.T 56 zwA:=⟨_,Tryz.func56,by kernel_rfl,by kernel_rfl⟩
theorem Tryz.okf13:OkF Tryz.prog Tryz.T 59 zxu:=⟨_,Tryz.func59,by kernel_rfl,by kernel_rfl⟩
theorem Tryz.okf16:OkF Tryz.prog Tryz.T 22 zvR:=⟨_,Tryz.func22,by kernel_rfl,by kernel_rfl⟩
theorem Tryz.okf17:OkF Tryz.prog Tryz.T 78 zxP:=⟨_,Tryz.func78,by kernel_rfl,by kernel_rfl⟩
theorem Tryz.okf18:OkF Tryz.prog Tryz.T 104 zxD:=⟨_,Tryz.func104,by kernel_rfl,by kernel_rfl⟩
theorem Tryz.okf19:OkF Tryz.prog Tryz.T 76 zvS:=⟨_,Tryz.func76,by kernel_rfl,by kernel_rfl⟩
theorem Tryz.okf20:OkF Tryz.prog Tryz.T 138 zw3:=⟨_,Tryz.func138,by kernel_rfl,by kernel_rfl⟩
theorem Tryz.okf21:OkF Tryz.prog Tryz.T 106 zw8:=⟨_,Tryz.func106,by kernel_rfl,by kernel_rfl⟩
theorem Tryz.okf22:OkF Tryz.prog Tryz.T 105 zv9:=⟨_,Tryz.func105,by kernel_rfl,by kernel_rfl⟩
theorem Tryz.okf23:OkF Tryz.prog Tryz.T 89 zxN:=⟨_,Tryz.func89,by kernel_rfl,by kernel_rfl⟩
theorem Tryz.okf24:OkF Tryz.prog Tryz.T 54 zv1:=⟨_,Tryz.func54,by kernel_rfl,by kernel_rfl⟩
theorem Tryz.okf29:OkF Tryz.prog Tryz.T 108 zxz:=⟨_,Tryz.func108,by kernel_rfl,by kernel_rfl⟩
theorem Tryz.okf30:OkF Tryz.prog Tryz.T 81 zwE:=⟨_,Tryz.func81,by kernel_rfl,by kernel_rfl⟩
theorem Tryz.okf31:OkF Tryz.prog Tryz.T 74 zxh:=⟨_,Tryz.func74,by kernel_rfl,by kernel_rfl⟩
theorem Tryz.okf34:OkF Tryz.prog Tryz.T 55 zxg:=⟨_,Tryz.func55,by kernel_rfl,by kernel_rfl⟩
theorem Tryz.okf35:OkF Tryz.prog Tryz.T 137 zvW:=⟨_,Tryz.func137,by kernel_rfl,by kernel_rfl⟩
theorem Tryz.okf36:OkF Tryz.prog Tryz.T 107 zwO:=⟨_,Tryz.func107,by kernel_rfl,by kernel_rfl⟩
theorem Tryz.okf37:OkF Tryz.prog Tryz.T 127 zxc:=⟨_,Tryz.func127,by kernel_rfl,by kernel_rfl⟩
theorem Tryz.okf38:OkF Tryz.prog Tryz.T 93 zxM:=⟨_,Tryz.func93,by kernel_rfl,by kernel_rfl⟩
theorem Tryz.okf39:OkF Tryz.prog Tryz.T 73 zxF:=⟨_,Tryz.func73,by kernel_rfl,by kernel_rfl⟩
theorem Tryz.okf40:OkF Tryz.prog Tryz.T 134 zxr:=⟨_,Tryz.func134,by kernel_rfl,by kernel_rfl⟩
theorem Tryz.okf41:OkF Tryz.prog Tryz.T 131 zwz:=⟨_,Tryz.func131,by kernel_rfl,by kernel_rfl⟩
theorem Tryz.okf42:OkF Tryz.prog Tryz.T 135 zvY:=⟨_,Tryz.func135,by kernel_rfl,by kernel_rfl⟩
theorem Tryz.okf43:OkF Tryz.prog Tryz.T 103 zxA:=⟨_,Tryz.func103,by kernel_rfl,by kernel_rfl⟩
theorem Tryz.okf48:OkF Tryz.prog Tryz.T 120 zwC:=⟨_,Tryz.func120,by kernel_rfl,by kernel_rfl⟩
theorem Tryz.okf49:OkF Tryz.prog Tryz.T 121 zwp:=⟨_,Tryz.func121,by kernel_rfl,by kernel_rfl⟩
theorem Tryz.okf55:OkF Tryz.prog Tryz.T 155 zvX:=⟨_,Tryz.func155,by kernel_rfl,by kernel_rfl⟩
theorem Tryz.okf56:OkF Tryz.prog Tryz.T 156 zwG:=⟨_,Tryz.func156,by kernel_rfl,by kernel_rfl⟩
theorem Tryz.okf57:OkF Tryz.prog Tryz.T 157 zxb:=⟨_,Tryz.func157,by kernel_rfl,by kernel_rfl⟩
theorem Tryz.okf58:OkF Tryz.prog Tryz.T 153 zwD:=⟨_,Tryz.func153,by kernel_rfl,by kernel_rfl⟩
theorem Tryz.okf59:OkF Tryz.prog Tryz.T 136 zwf:=⟨_,Tryz.func136,by kernel_rfl,by kernel_rfl⟩
theorem Tryz.okf60:OkF Tryz.prog Tryz.T 149 zwi:=⟨_,Tryz.func149,by kernel_rfl,by kernel_rfl⟩
theorem Tryz.okf61:OkF Tryz.prog Tryz.T 150 zv4:=⟨_,Tryz.func150,by kernel_rfl,by kernel_rfl⟩
theorem Tryz.okf62:OkF Tryz.prog Tryz.T 154 zv0:=⟨_,Tryz.func154,by kernel_rfl,by kernel_rfl⟩
theorem Tryz.okf64:OkF Tryz.prog Tryz.T 115 zvT:=⟨_,Tryz.func115,by kernel_rfl,by kernel_rfl⟩
theorem Tryz.okf65:OkF Tryz.prog Tryz.T 113 zwv:=⟨_,Tryz.func113,by kernel_rfl,by kernel_rfl⟩
theorem Tryz.okf67:OkF Tryz.prog Tryz.T 110 zxe:=⟨_,Tryz.func110,by kernel_rfl,by kernel_rfl⟩
theorem Tryz.okf76:OkF Tryz.prog Tryz.T 179 zwj:=⟨_,Tryz.func179,by kernel_rfl,by kernel_rfl⟩
theorem Tryz.okf77:OkF Tryz.prog Tryz.T 178 zwn:=⟨_,Tryz.func178,by kernel_rfl,by kernel_rfl⟩
theorem Tryz.okf78:OkF Tryz.prog Tryz.T 175 zwo:=⟨_,Tryz.func175,by kernel_rfl,by kernel_rfl⟩
theorem Tryz.okf79:OkF Tryz.prog Tryz.T 176 zwc:=⟨_,Tryz.func176,by kernel_rfl,by kernel_rfl⟩
theorem Tryz.okf81:OkF Tryz.prog Tryz.T 109 zxs:=⟨_,Tryz.func109,by kernel_rfl,by kernel_rfl⟩
theorem Tryz.okf85:OkF Tryz.prog Tryz.T 172 zvO:=⟨_,Tryz.func172,by kernel_rfl,by kernel_rfl⟩
theorem Tryz.okf107:OkF Tryz.prog Tryz.T 77 zww:=⟨_,Tryz.func77,by kernel_rfl,by kernel_rfl⟩
theorem Tryz.okf110:OkF Tryz.prog Tryz.T 119 zwh:=⟨_,Tryz.func119,by kernel_rfl,by kernel_rfl⟩
theorem Tryz.okf114:OkF Tryz.prog Tryz.T 38 zx3:=⟨_,Tryz.func38,by kernel_rfl,by kernel_rfl⟩
theorem Tryz.okf118:OkF Tryz.prog Tryz.T 68 zwH:=⟨_,Tryz.func68,by kernel_rfl,by kernel_rfl⟩
theorem Tryz.okf119:OkF Tryz.prog Tryz.T 35 zxT:=⟨_,Tryz.func35,by kernel_rfl,by kernel_rfl⟩
theorem Tryz.okf120:OkF Tryz.prog Tryz.T 88 zxR:=⟨_,Tryz.func88,by kernel_rfl,by kernel_rfl⟩
theorem Tryz.okf123:OkF Tryz.prog Tryz.T 71 zxQ:=⟨_,Tryz.func71,by kernel_rfl,by kernel_rfl⟩
theorem Tryz.okf124:OkF Tryz.prog Tryz.T 98 zwQ:=⟨_,Tryz.func98,by kernel_rfl,by kernel_rfl⟩
theorem Tryz.okf125:OkF Tryz.prog Tryz.T 87 zxU:=⟨_,Tryz.func87,by kernel_rfl,by kernel_rfl⟩
theorem Tryz.okf127:OkF Tryz.prog Tryz.T 128 zwM:=⟨_,Tryz.func128,by kernel_rfl,by kernel_rfl⟩
theorem Tryz.okf128:OkF Tryz.prog Tryz.T 36 zxj:=⟨_,Tryz.func36,by kernel_rfl,by kernel_rfl⟩
theorem Tryz.okf129:OkF Tryz.prog Tryz.T 140 zwb:=⟨_,Tryz.func140,by kernel_rfl,by kernel_rfl⟩
theorem Tryz.okf132:OkF Tryz.prog Tryz.T 82 zwW:=⟨_,Tryz.func82,by kernel_rfl,by kernel_rfl⟩
theorem Tryz.okf133:OkF Tryz.prog Tryz.T 83 zxw:=⟨_,Tryz.func83,by kernel_rfl,by kernel_rfl⟩
theorem Tryz.okf134:OkF Tryz.prog Tryz.T 84 zwB:=⟨_,Tryz.func84,by kernel_rfl,by kernel_rfl⟩
theorem Tryz.okf135:OkF Tryz.prog Tryz.T 85 zw6:=⟨_,Tryz.func85,by kernel_rfl,by kernel_rfl⟩
theorem Tryz.okf136:OkF Tryz.prog Tryz.T 133 zv8:=⟨_,Tryz.func133,by kernel_rfl,by kernel_rfl⟩
theorem Tryz.okf137:OkF Tryz.prog Tryz.T 159 zvP:=⟨_,Tryz.func159,by kernel_rfl,by kernel_rfl⟩
theorem Tryz.okf147:OkF Tryz.prog Tryz.T 132 zx4:=⟨_,Tryz.func132,by kernel_rfl,by kernel_rfl⟩
theorem Tryz.okf148:OkF Tryz.prog Tryz.T 151 zwk:=⟨_,Tryz.func151,by kernel_rfl,by kernel_rfl⟩
theorem Tryz.okf149:OkF Tryz.prog Tryz.T 152 zxf:=⟨_,Tryz.func152,by kernel_rfl,by kernel_rfl⟩
theorem Tryz.okf159:OkF Tryz.prog Tryz.T 177 zwU:=⟨_,Tryz.func177,by kernel_rfl,by kernel_rfl⟩
theorem Tryz.okf179:OkF Tryz.prog Tryz.T 101 zwT:=⟨_,Tryz.func101,by kernel_rfl,by kernel_rfl⟩
theorem Tryz.okf180:OkF Tryz.prog Tryz.T 102 zxE:=⟨_,Tryz.func102,by kernel_rfl,by kernel_rfl⟩
theorem Tryz.okf182:OkF Tryz.prog Tryz.T 39 zwq:=⟨_,Tryz.func39,by kernel_rfl,by kernel_rfl⟩
theorem Tryz.okf185:OkF Tryz.prog Tryz.T 86 zx2:=⟨_,Tryz.func86,by kernel_rfl,by kernel_rfl⟩
theorem Tryz.okf187:OkF Tryz.prog Tryz.T 52 zwr:=⟨_,Tryz.func52,by kernel_rfl,by kernel_rfl⟩
theorem Tryz.okf196:OkF Tryz.prog Tryz.T 23 zxK:=⟨_,Tryz.func23,by kernel_rfl,by kernel_rfl⟩
theorem Tryz.okf197:OkF Tryz.prog Tryz.T 63 zw1:=⟨_,Tryz.func63,by kernel_rfl,by kernel_rfl⟩
theorem Tryz.okf200:OkF Tryz.prog Tryz.T 64 zwL:=⟨_,Tryz.func64,by kernel_rfl,by kernel_rfl⟩
theorem Tryz.okf209:OkF Tryz.prog Tryz.T 118 zwa:=⟨_,Tryz.func118,by kernel_rfl,by kernel_rfl⟩
theorem Tryz.okf216:OkF Tryz.prog Tryz.T 139 zvK:=⟨_,Tryz.func139,by kernel_rfl,by kernel_rfl⟩
theorem Tryz.okf278:OkF Tryz.prog Tryz.T 12 zv3:=⟨_,Tryz.func12,by kernel_rfl,by kernel_rfl⟩
theorem Tryz.okf280:OkF Tryz.prog Tryz.T 19 zvV:=⟨_,Tryz.func19,by kernel_rfl,by kernel_rfl⟩
theorem Tryz.okf281:OkF Tryz.prog Tryz.T 20 zvU:=⟨_,Tryz.func20,by kernel_rfl,by kernel_rfl⟩
theorem Tryz.okf289:OkF Tryz.prog Tryz.T 60 zxk:=⟨_,Tryz.func60,by kernel_rfl,by kernel_rfl⟩
theorem Tryz.okf290:OkF Tryz.prog Tryz.T 61 zv2:=⟨_,Tryz.func61,by kernel_rfl,by kernel_rfl⟩
theorem Tryz.okf291:OkF Tryz.prog Tryz.T 62 zvJ:=⟨_,Tryz.func62,by kernel_rfl,by kernel_rfl⟩
theorem Tryz.okf292:OkF Tryz.prog Tryz.T 72 zwu:=⟨_,Tryz.func72,by kernel_rfl,by kernel_rfl⟩
theorem Tryz.okf293:OkF Tryz.prog Tryz.T 114 zwX:=⟨_,Tryz.func114,by kernel_rfl,by kernel_rfl⟩
theorem Tryz.okf294:OkF Tryz.prog Tryz.T 116 zwx:=⟨_,Tryz.func116,by kernel_rfl,by kernel_rfl⟩
theorem Tryz.okf295:OkF Tryz.prog Tryz.T 117 zwN:=⟨_,Tryz.func117,by kernel_rfl,by kernel_rfl⟩
theorem Tryz.okf296:OkF Tryz.prog Tryz.T 237 zw2:=⟨_,Tryz.func237,by kernel_rfl,by kernel_rfl⟩
theorem Tryz.okf297:OkF Tryz.prog Tryz.T 238 zwP:=⟨_,Tryz.func238,by kernel_rfl,by kernel_rfl⟩
theorem Tryz.okf298:OkF Tryz.prog Tryz.T 239 zwl:=⟨_,Tryz.func239,by kernel_rfl,by kernel_rfl⟩
theorem Tryz.okf299:OkF Tryz.prog Tryz.T 240 zxi:=⟨_,Tryz.func240,by kernel_rfl,by kernel_rfl⟩
theorem Tryz.okf344:OkF Tryz.prog Tryz.T 11 zv7:=⟨_,Tryz.func11,by kernel_rfl,by kernel_rfl⟩
theorem Tryz.okf345:OkF Tryz.prog Tryz.T 14 zvL:=⟨_,Tryz.func14,by kernel_rfl,by kernel_rfl⟩
theorem Tryz.okf348:OkF Tryz.prog Tryz.T 29 zvQ:=⟨_,Tryz.func29,by kernel_rfl,by kernel_rfl⟩
theorem Tryz.okf361:OkF Tryz.prog Tryz.T 32 zxa:=⟨_,Tryz.func32,by kernel_rfl,by kernel_rfl⟩
theorem Tryz.okf362:OkF Tryz.prog Tryz.T 65 zxH:=⟨_,Tryz.func65,by kernel_rfl,by kernel_rfl⟩
theorem Tryz.okf363:OkF Tryz.prog Tryz.T 66 zxI:=⟨_,Tryz.func66,by kernel_rfl,by kernel_rfl⟩
theorem Tryz.okf364:OkF Tryz.prog Tryz.T 67 zwm:=⟨_,Tryz.func67,by kernel_rfl,by kernel_rfl⟩
theorem Tryz.okf365:OkF Tryz.prog Tryz.T 69 zxO:=⟨_,Tryz.func69,by kernel_rfl,by kernel_rfl⟩
theorem Tryz.okf367:OkF Tryz.prog Tryz.T 79 zv6:=⟨_,Tryz.func79,by kernel_rfl,by kernel_rfl⟩
theorem Tryz.okf373:OkF Tryz.prog Tryz.T 17 zxC:=⟨_,Tryz.func17,by kernel_rfl,by kernel_rfl⟩
theorem Tryz.okf377:OkF Tryz.prog Tryz.T 15 zxS:=⟨_,Tryz.func15,by kernel_rfl,by kernel_rfl⟩
theorem Tryz.okf378:OkF Tryz.prog Tryz.T 43 zxx:=⟨_,Tryz.func43,by kernel_rfl,by kernel_rfl⟩
theorem Tryz.okf379:OkF Tryz.prog Tryz.T 41 zxB:=⟨_,Tryz.func41,by kernel_rfl,by kernel_rfl⟩
theorem Tryz.okf380:OkF Tryz.prog Tryz.T 129 zwg:=⟨_,Tryz.func129,by kernel_rfl,by kernel_rfl⟩
theorem Tryz.okf381:OkF Tryz.prog Tryz.T 91 zvH:=⟨_,Tryz.func91,by kernel_rfl,by kernel_rfl⟩
theorem Tryz.okf382:OkF Tryz.prog Tryz.T 130 zvM:=⟨_,Tryz.func130,by kernel_rfl,by kernel_rfl⟩
theorem Tryz.okf385:OkF Tryz.prog Tryz.T 90 zwe:=⟨_,Tryz.func90,by kernel_rfl,by kernel_rfl⟩
theorem Tryz.okf386:OkF Tryz.prog Tryz.T 92 zv5:=⟨_,Tryz.func92,by kernel_rfl,by kernel_rfl⟩
theorem Tryz.okf387:OkF Tryz.prog Tryz.T 80 zvI:=⟨_,Tryz.func80,by kernel_rfl,by kernel_rfl⟩
theorem Tryz.okf446:OkF Tryz.prog Tryz.T 26 zwF:=⟨_,Tryz.func26,by kernel_rfl,by kernel_rfl⟩
theorem Tryz.okf498:OkF Tryz.prog Tryz.T 9 zwt:=⟨_,Tryz.func9,by kernel_rfl,by kernel_rfl⟩
theorem Tryz.okf500:OkF Tryz.prog Tryz.T 13 zwY:=⟨_,Tryz.func13,by kernel_rfl,by kernel_rfl⟩
theorem Tryz.okf502:OkF Tryz.prog Tryz.T 24 zxd:=⟨_,Tryz.func24,by kernel_rfl,by kernel_rfl⟩
theorem Tryz.okf503:OkF Tryz.prog Tryz.T 25 zwy:=⟨_,Tryz.func25,by kernel_rfl,by kernel_rfl⟩
theorem Tryz.okf506:OkF Tryz.prog Tryz.T 45 zws:=⟨_,Tryz.func45,by kernel_rfl,by kernel_rfl⟩
theorem Tryz.okf514:OkF Tryz.prog Tryz.T 57 zw9:=⟨_,Tryz.func57,by kernel_rfl,by kernel_rfl⟩
theorem Tryz.okf515:OkF Tryz.prog Tryz.T 58 zw7:=⟨_,Tryz.func58,by kernel_rfl,by kernel_rfl⟩
theorem Tryz.okf516:OkF Tryz.prog Tryz.T 95 zxq:=⟨_,Tryz.func95,by kernel_rfl,by kernel_rfl⟩
theorem Tryz.allc:AllCal Tryz.prog Tryz.keyL:=⟨Tryz.okc6,Tryz.okc8,Tryz.okc9,Tryz.okc11,Tryz.okc13,Tryz.okc16,Tryz.okc17,Tryz.okc18,Tryz.okc19,Tryz.okc20,Tryz.okc21,Tryz.okc22,Tryz.okc23,Tryz.okc24,Tryz.okc29,Tryz.okc30,Tryz.okc31,Tryz.okc33,Tryz.okc34,Tryz.okc35,Tryz.okc36,Tryz.okc37,Tryz.okc38,Tryz.okc39,Tryz.okc40,Tryz.okc41,Tryz.okc42,Tryz.okc43,Tryz.okc48,Tryz.okc49,Tryz.okc50,Tryz.okc51,Tryz.okc55,Tryz.okc56,Tryz.okc57,Tryz.okc58,Tryz.okc59,Tryz.okc60,Tryz.okc61,Tryz.okc62,Tryz.okc64,Tryz.okc65,Tryz.okc67,Tryz.okc76,Tryz.okc77,Tryz.okc78,Tryz.okc79,Tryz.okc81,Tryz.okc85,Tryz.okc107,Tryz.okc110,Tryz.okc114,Tryz.okc118,Tryz.okc119,Tryz.okc120,Tryz.okc123,Tryz.okc124,Tryz.okc125,Tryz.okc127,Tryz.okc128,Tryz.okc129,Tryz.okc130,Tryz.okc131,Tryz.okc132,Tryz.okc133,Tryz.okc134,Tryz.okc135,Tryz.okc136,Tryz.okc137,Tryz.okc147,Tryz.okc148,Tryz.okc149,Tryz.okc159,Tryz.okc179,Tryz.okc180,Tryz.okc182,Tryz.okc185,Tryz.okc187,Tryz.okc196,Tryz.okc197,Tryz.okc200,Tryz.okc209,Tryz.okc216,Tryz.okc222,Tryz.okc278,Tryz.okc280,Tryz.okc281,Tryz.okc289,Tryz.okc290,Tryz.okc291,Tryz.okc292,Tryz.okc293,Tryz.okc294,Tryz.okc295,Tryz.okc296,Tryz.okc297,Tryz.okc298,Tryz.okc299,Tryz.okc344,Tryz.okc345,Tryz.okc348,Tryz.okc361,Tryz.okc362,Tryz.okc363,Tryz.okc364,Tryz.okc365,Tryz.okc367,Tryz.okc373,Tryz.okc377,Tryz.okc378,Tryz.okc379,Tryz.okc380,Tryz.okc381,Tryz.okc382,Tryz.okc385,Tryz.okc386,Tryz.okc387,Tryz.okc446,Tryz.okc498,Tryz.okc500,Tryz.okc502,Tryz.okc503,Tryz.okc506,Tryz.okc514,Tryz.okc515,Tryz.okc516,True.intro⟩
theorem Tryz.allf:AllOk Tryz.prog Tryz.T progL Tryz.keyL:=⟨Tryz.okf6,Tryz.okf8,Tryz.okf9,Tryz.okf11,Tryz.okf13,Tryz.okf16,Tryz.okf17,Tryz.okf18,Tryz.okf19,Tryz.okf20,Tryz.okf21,Tryz.okf22,Tryz.okf23,Tryz.okf24,Tryz.okf29,Tryz.okf30,Tryz.okf31,Tryz.okf34,Tryz.okf35,Tryz.okf36,Tryz.okf37,Tryz.okf38,Tryz.okf39,Tryz.okf40,Tryz.okf41,Tryz.okf42,Tryz.okf43,Tryz.okf48,Tryz.okf49,Tryz.okf55,Tryz.okf56,Tryz.okf57,Tryz.okf58,Tryz.okf59,Tryz.okf60,Tryz.okf61,Tryz.okf62,Tryz.okf64,Tryz.okf65,Tryz.okf67,Tryz.okf76,Tryz.okf77,Tryz.okf78,Tryz.okf79,Tryz.okf81,Tryz.okf85,Tryz.okf107,Tryz.okf110,Tryz.okf114,Tryz.okf118,Tryz.okf119,Tryz.okf120,Tryz.okf123,Tryz.okf124,Tryz.okf125,Tryz.okf127,Tryz.okf128,Tryz.okf129,Tryz.okf132,Tryz.okf133,Tryz.okf134,Tryz.okf135,Tryz.okf136,Tryz.okf137,Tryz.okf147,Tryz.okf148,Tryz.okf149,Tryz.okf159,Tryz.okf179,Tryz.okf180,Tryz.okf182,Tryz.okf185,Tryz.okf187,Tryz.okf196,Tryz.okf197,Tryz.okf200,Tryz.okf209,Tryz.okf216,Tryz.okf278,Tryz.okf280,Tryz.okf281,Tryz.okf289,Tryz.okf290,Tryz.okf291,Tryz.okf292,Tryz.okf293,Tryz.okf294,Tryz.okf295,Tryz.okf296,Tryz.okf297,Tryz.okf298,Tryz.okf299,Tryz.okf344,Tryz.okf345,Tryz.okf348,Tryz.okf361,Tryz.okf362,Tryz.okf363,Tryz.okf364,Tryz.okf365,Tryz.okf367,Tryz.okf373,Tryz.okf377,Tryz.okf378,Tryz.okf379,Tryz.okf380,Tryz.okf381,Tryz.okf382,Tryz.okf385,Tryz.okf386,Tryz.okf387,Tryz.okf446,Tryz.okf498,Tryz.okf500,Tryz.okf502,Tryz.okf503,Tryz.okf506,Tryz.okf514,Tryz.okf515,Tryz.okf516,True.intro⟩
theorem Tryz.libok:LibOk Tryz.prog Tryz.lren (fun f=>(Tryz.keyL[f]?).join) Tryz.T 5 where
 l105:=Tryz.l105
 l171:=Tryz.l171
 lX:=Tryz.lX
 gname:=by kernel_rfl
 gkey:=rfl
 k50:=rfl
 k51:=rfl
 o130:=fun g h=>⟨Tryz.l160,by kernel_rfl,(Option.some.inj h).symm⟩
 o131:=fun g h=>⟨Tryz.l172,(Option.some.inj h).symm⟩
 o222:=fun g h=>⟨Tryz.l219,(Option.some.inj h).symm⟩
theorem Tryz.mixed:Tryz.prog.follows .mixedOrders=true:=by kernel_rfl
theorem Tryz.progok1:ProgOk Tryz.prog (fun f=>(Tryz.keyL[f]?).join) Tryz.T E1.prog:=znu Tryz.mixed Tryz.allc Tryz.allf Tryz.libok
theorem Tryz.gk0:∀g n,Tryz.T.gkey g=some n→n≤4:=fun g n h=>by
 have h:(if g=5 then some 0 else if g=0 then some 3 else if g=1 then some 4 else none)=some n:=h
 repeat
  split at h
  ·cases h;decide
 cases h
theorem Tryz.progok:ProgOk Tryz.prog (fun f=>(Tryz.keyL[f]?).join) Tryz.T E0.prog:=znt Tryz.mixed Tryz.allc Tryz.allf Tryz.libok fun {g} hk=>by
 obtain rfl:g=75:=(Option.some.inj hk).symm
 exact fun {_ _ _ _ _ _ _ _} e TO RL S=>znI (pre:=Tryz.strPre) (tail:=Tryz.strTail) Tryz.progok1 KE1 Tryz.gk0 (G:=5) rfl Tryz.func75 rfl (by kernel_rfl) rfl rfl (fun neg ps h1 h2 h3 b1 o1 b3 o3 c w h4 h5 h6 h7 tm h8 h9 h10=>Tryz.str_tail neg ps h1 h2 h3 b1 o1 b3 o3 c w h4 h5 h6 h7 tm h8 h9 h10) e TO RL S
end Go.Proofs
namespace Go.Eng
open Go.RowKit
theorem tabIs_mem {P:Program} {W:World} {name:String} {k:IntKind} {zs:List Int} {g:Nat} {t e:TypeId} {n:Nat}
  (hg:P.globalNamed name=some g) (hty:(P.globals[g]?).map (·.type)=some t) (ht:P.underlying t=some (.array n e)) (he:P.underlying e=some (.int k)) (hce:P.cellsOf e=1) (hct:P.cellsOf t=n) :
  ∀{laid:List (String×DataW Unit)} {ps:List MemPlace},DataW.LaidVars P W laid ps→(name,Lib.tabData k zs)∈laid→Lib.TabIs P W name k zs
 | [],_,_,hm=>by cases hm
 | x::laid,ps,h,hm=>by
  obtain⟨g',t',cs,fuel,p,q,hg',ht',hvar,hd,h2,h3⟩:=h
  rcases List.mem_cons.1 hm with rfl|hm
  ·obtain rfl:=Option.some.inj (hg.symm.trans hg')
   obtain rfl:=Option.some.inj (hty.symm.trans ht')
   unfold Lib.TabIs
   rw[hvar,←Lib.cells_of_tab ht he hce hct hd]
  ·exact tabIs_mem hg hty ht he hce hct (by first|exact h2|exact h3|exact h3.1|exact h2.1) hm
def IsRow (k:IntKind) (w:World) (a:Option Addr) (len cap:Nat) (zs:List Int):Prop :=
 (a=none∧len=0∧cap=0∧zs=[]) ∨
 ∃x,a=some x∧len≤cap∧cap≤maxLen∧zs.length=cap∧(∀i,i<zs.length→w.cell? (x.add i)=some (.int k (zs.getD i 0)))∧∀n∈zs,(Lit.int k n).wf=true
def hpA (bs:List (List AV)):Hp:=⟨fun n=>if n≤4 then (globG n).map fun c=>⟨c,false,0⟩ else (bs[n-5]?).map fun c=>⟨c,false,0⟩,bs.length+5⟩
def locA (gs:Nat→Option At) (ats:List At):Loc:=fun n=>if n≤4 then gs n else ats[n-5]?
def InW (c:List AV) (a:At) (W:World):Prop :=
 a.b<W.heap.size∧a.w=false∧c.length≤a.n∧∀i (h:i<c.length),c[i].scal=true∧∃v,W.cell? ⟨a.b,a.o+i,none⟩=some v∧∀key l,Rel key l c[i] v
def GlobIn (key:Nat→Option FuncId) (W:World) (n:Nat) (a:At):Prop :=
 a.o=0∧∃c cs t fz,globG n=some c∧W.heap[a.b]?=some (.cells cs t fz)∧c.length≤a.n∧RelL key (fun _=>none) c cs.toList
theorem zil:∀{n:Nat} {c:List AV},globG n=some c→c.all AV.scal=true
 | 0,c,h=>by cases h;rfl
 | 1,c,h=>by cases h;rfl
 | 2,c,h=>by cases h;rfl
 | 3,c,h=>by cases h;rfl
 | 4,c,h=>by cases h;rfl
 | n+5,c,h=>by cases h
theorem zhq:∀{n:Nat} {c:List AV},globG n=some c→(c.map cst0).all PV.scal=true
 | 0,c,h=>by cases h;decide
 | 1,c,h=>by cases h;decide
 | 2,c,h=>by cases h;decide
 | 3,c,h=>by cases h;rfl
 | 4,c,h=>by cases h;rfl
 | n+5,c,h=>by cases h
theorem zmy:∀{n:Nat} {c:List AV},globG n=some c→n≤4
 | 0,c,h=>by omega
 | 1,c,h=>by omega
 | 2,c,h=>by omega
 | 3,c,h=>by omega
 | 4,c,h=>by omega
 | n+5,c,h=>by cases h
theorem zux {P:Program} {key:Nat→Option FuncId} {F:Nat} {W:World} {gs:Nat→Option At} (hgs:∀n a,n≤4→gs n=some a→GlobIn key W n a)
  {bs:List (List AV)} {ats:List At} (hl:ats.length=bs.length) (hin:∀(n:Nat) c a,bs[n]?=some c→ats[n]?=some a→InW c a W):Sim key F (locA gs ats) (hpA bs) W:=by
 have hlt:∀n a,n≤4→gs n=some a→a.b<W.heap.size:=fun n a hn hg=>by
  obtain⟨_,c,cs,t,fz,_,h2,_⟩:=hgs n a hn hg
  rcases Nat.lt_or_ge a.b W.heap.size with q|q
  ·exact q
  ·rw[Array.getElem?_eq_none q] at h2;cases h2
 have hout:∀n,bs.length≤n→ats[n]?=none:=fun n hn=>List.getElem?_eq_none (by omega)
 have norw:∀n blk,(hpA bs).m n=some blk→blk.rw=false:=fun n blk e=>by
  simp only[hpA] at e
  split at e<;>(simp only[Option.map_eq_some_iff] at e;obtain⟨c,_,rfl⟩:=e;rfl)
 refine⟨fun n blk a e1 e2=>?_,fun n blk a n' blk' a' e1 e2 e3=>?_,fun n a e=>?_,fun n a e=>?_,fun n hn=>?_⟩
 ·by_cases hn:n≤4
  ·simp only[hpA,if_pos hn,Option.map_eq_some_iff] at e1
   simp only[locA,if_pos hn] at e2
   obtain⟨c,c1,rfl⟩:=e1
   obtain⟨g1,c',cs,t,fz,g2,g3,g4,g5⟩:=hgs n a hn e2
   obtain rfl:=Option.some.inj (c1.symm.trans g2)
   have hsz:c.length=cs.size:=by simpa using g5.1
   refine⟨hlt n a hn e2,g4,fun i hi=>?_,fun i hi=>?_,fun q=>(by cases q),fun _=>⟨rfl,g1,cs,t,fz,g3,hsz.symm⟩⟩
   ·have hi:i<c.length:=hi
    have hi':i<cs.toList.length:=by simp;omega
    refine⟨cs.toList[i],?_,(g5.2 i hi hi').mono fun n a q=>by cases q⟩
    have hb:W.heap[a.b]?=some (.cells cs t fz):=g3
    simp only[World.cell?,hb,g1,Nat.zero_add]
    rw[Array.getElem_toList,Array.getElem?_eq_getElem (by omega)];rfl
   ·have:=zil c1
    rw[List.all_eq_true] at this
    exact this _ (List.getElem_mem _)
  ·simp only[hpA,if_neg hn,Option.map_eq_some_iff] at e1
   simp only[locA,if_neg hn] at e2
   obtain⟨c,c1,rfl⟩:=e1
   obtain⟨q1,q2,q3,q4⟩:=hin _ c a c1 e2
   exact⟨q1,q3,fun i hi=>by obtain⟨_,v,v1,v2⟩:=q4 i hi;exact⟨v,v1,v2 key _⟩,fun i hi=>(q4 i hi).1,fun q=>(by cases q),fun q=>by rw[q2] at q;cases q⟩
 ·rw[norw n blk e1] at e3;cases e3
 ·by_cases hn:n≤4
  ·simp only[locA,if_pos hn] at e
   exact hlt n a hn e
  ·simp only[locA,if_neg hn] at e
   have hb:n-5<bs.length:=by
    rcases Nat.lt_or_ge (n-5) bs.length with q|q
    ·exact q
    ·rw[hout _ q] at e;cases e
   exact(hin _ _ a (List.getElem?_eq_getElem hb) e).1
 ·left
  show n<bs.length+5
  by_cases hn:n≤4
  ·omega
  ·simp only[locA,if_neg hn] at e
   rcases Nat.lt_or_ge (n-5) bs.length with q|q
   ·omega
   ·rw[hout _ q] at e;cases e
 ·have hn:bs.length+5≤n:=hn
  simp only[hpA]
  rw[if_neg (by omega),List.getElem?_eq_none (by omega)];rfl
theorem PInv.startG {bs:List (List AV)} (w:(hpA bs).wf):PInv globG (fun _=>False) [] [] (hpA bs):=by
 refine⟨rfl,fun i j m q=>by simp at q,fun m q=>by simp at q,w,fun n m q=>by simp at q,fun n b m q=>by simp at q,fun m d=>d.elim,fun g l q=>?_⟩
 refine⟨⟨l,false,0⟩,?_,⟨rfl,zhq q⟩,fun d=>?_⟩
 ·simp only[hpA,if_pos (zmy q),q,Option.map_some]
 ·rcases d with d|d
  ·exact d
  ·exact ziH _ d
theorem glob_tab {P:Program} {key:Nat→Option FuncId} {W:World} {G:Nat} (hg:P.globalNamed "internal/strconv.uint64pow10" = some G) (ht:Lib.TabIs P W "internal/strconv.uint64pow10" .u64 Lib.pow10Tab):GlobIn key W 0 ⟨G,0,20,true⟩:=by
 have hb:∃cs t fz,W.heap[G]?=some (.cells cs t fz)∧cs=(Lib.pow10Tab.map fun z=>Value.int .u64 z).toArray:=by
  unfold Lib.TabIs World.var? at ht
  rw[hg] at ht
  simp only[Option.bind_some] at ht
  split at ht
  ·rename_i cs t fz hh
   cases ht
   exact⟨_,t,fz,hh,rfl⟩
  ·cases ht
 obtain⟨cs,t,fz,hh,rfl⟩:=hb
 refine⟨rfl,powT,_,t,fz,rfl,hh,Nat.le_refl _,by simp[Lib.pow10Tab,powT],fun i h1 h2=>?_⟩
 have hpl:powT.length=20:=rfl
 have hi':i<20:=by rw[←hpl];exact h1
 simp only[powT,List.getElem_map,List.getElem_range,Lib.pow10Tab]
 exact .i _ _
theorem law_calls {P:Program} {key:Nat→Option FuncId} {T:Tab} (K:ProgOk P key T E0.prog) (hTf:∀f k,T.fkey f=some k→key k=some f) {W:World} {gs:Nat→Option At} (hgs:∀n a,n≤4→gs n=some a→GlobIn key W n a)
  (hT:∀g n,T.gkey g=some n→n≤4∧∃m,gs n=some ⟨g,0,m,true⟩)
  {bs:List (List AV)} {ats:List At} (hl:ats.length=bs.length) (hin:∀(n:Nat) c a,bs[n]?=some c→ats[n]?=some a→InW c a W)
  {k g:Nat} (hk:key k=some g) (hpure:E0.pure k=true) {ps:List PV} (hfz:fzL (fz [] fzD) ps=some (ps,[])) (hpf:pf E0 k ps=some (.b true))
  {avs:List AV} {vs:Array Value} (hV:VL (hpA bs) (fun _=>False) [] ps avs) (hR:RelL key (locA gs ats) avs vs.toList) :
  Calls P g vs W fun e w'=>e=.returned (.bool true)∧Below W.heap.size W w':=by
 have hc:pcl E0 k ps []=some (.b true,roM [] []):=zg1 hpure hfz hpf
 obtain⟨kk,hev⟩:=zeq hc
 have hw:(hpA bs).wf:=(zux (P:=P) (key:=key) (F:=0) hgs hl hin).wf
 have I:PInv globG (fun _=>False) [] [] (hpA bs):=PInv.startG hw
 obtain⟨a,h',r',q1,q2,q3,q4⟩:=zg6 KE0 kk _ _ _ _ _ _ _ _ _ hev I (VL.dd hV)
 have ha:a=.b true:=by cases q4;rfl
 subst ha
 have S:=zux (P:=P) (key:=key) (F:=h'.next) hgs hl hin
 have TO:TabOk key T (locA gs ats):=by
  refine⟨fun f k e=>?_,fun g n e=>?_⟩
  ·exact hTf f k e
  ·obtain⟨h4,m,hm⟩:=hT g n e
   exact⟨m,by simp only[locA,if_pos h4];exact hm⟩
 refine(zb7 K kk h'.next k g avs vs _ h' _ _ W q1 hk (Nat.le_refl _) TO hR S).mono ?_
 rintro e w' ⟨l',val,rfl,E,S',rv⟩
 cases rv
 refine⟨rfl,E.os,E.tape,E.output,E.size,fun b hb=>E.frame b hb fun m blk a e1 e2=>?_⟩
 exfalso
 simp only[hpA] at e1
 split at e1<;>(simp only[Option.map_eq_some_iff] at e1;obtain⟨c,c1,rfl⟩:=e1;cases e2)
theorem arg_row {k:IntKind} {W:World} (h0:0<W.heap.size) {a:Option Addr} {len cap:Nat} {zs:List Int} (h:IsRow k W a len cap zs) (n:Nat):∃(c:List AV) (at_:At) (av:AV),InW c at_ W ∧
  (∀key (l:Loc),l n=some at_→Rel key l av (.slice a len cap))∧(∀(h:Hp) (D:Nat→Prop),h.m n=some ⟨c,false,0⟩→¬D n→V h D [] (.lst ((zs.take len).map fun z=>.i k z)) av):=by
 have nilIn:InW [] ⟨0,0,0,false⟩ W:=⟨h0,rfl,Nat.le_refl _,fun i hi=>by simp at hi⟩
 rcases h with⟨rfl,rfl,rfl,rfl⟩|⟨x,rfl,hl,hm,hz,hcell,hwz⟩
 ·exact⟨[],⟨0,0,0,false⟩,.sn,nilIn,fun key l _=>.sn,fun h D _ _=>.lsn⟩
 ·by_cases hlen:len=0
  ·subst hlen
   exact⟨[],⟨0,0,0,false⟩,.e0,nilIn,fun key l _=>.e0 _ _,fun h D _ _=>.le0⟩
  ·obtain⟨b,off,spot⟩:=x
   have hc:=hcell 0 (by omega)
   have hspot:spot=none:=by simpa [Addr.add] using World.cell?_spot hc
   subst hspot
   have hlt:b<W.heap.size:=by
    rcases Nat.lt_or_ge b W.heap.size with q|q
    ·exact q
    ·rw[zb4] at hc
     simp[World.cell?,Array.getElem?_eq_none q] at hc
   have hget:∀i (hi:i<((zs.take len).map fun z=>AV.i k z).length),((zs.take len).map fun z=>AV.i k z)[i]=.i k (zs.getD i 0):=fun i hi=>by
    have hi':i<zs.length:=by simp at hi;omega
    simp only[List.getElem_map,List.getElem_take,List.getD]
    rw[List.getElem?_eq_getElem hi'];rfl
   refine⟨(zs.take len).map fun z=>.i k z,⟨b,off,cap,false⟩,.sl n 0 len cap 1,⟨hlt,rfl,by simp;omega,fun i hi=>?_⟩,fun key l hn=>?_,fun h D hb hD=>?_⟩
   ·rw[hget i hi]
    have hi':i<zs.length:=by simp at hi;omega
    have:=hcell i hi'
    rw[zb4] at this
    exact⟨rfl,_,this,fun key l=>.i _ _⟩
   ·have:=Rel.sl (key:=key) (off:=0) (len:=len) (cap:=cap) (cap':=cap) (z:=1) hn (Nat.le_refl _) (by show 0+cap*1≤cap;omega) hl
    exact this
   ·have hfl:flat ((zs.take len).map fun z=>PV.i k z)=(zs.take len).map fun z=>PV.i k z:=by
     generalize zs.take len=ys
     induction ys with
     | nil=>rfl
     | cons y ys ih=>rw[List.map_cons];show [PV.i k y]++flat _=_;rw[ih];rfl
    have hll:((zs.take len).map fun z=>PV.i k z).length=len:=by simp;omega
    have:=V.lst (h:=h) (D:=D) (r:=[]) (xs:=(zs.take len).map fun z=>PV.i k z) (m:=n) (off:=0) (cap:=cap) (z:=1) (fun i=>.i k (zs.getD i 0)) hb hD (by rw[hfl,List.all_eq_true];intro x hx;obtain⟨y,_,rfl⟩:=List.mem_map.1 hx;rfl) (by decide) (fun x hx=>by
     obtain⟨y,_,rfl⟩:=List.mem_map.1 hx;rfl) (by rw[hll];exact hl) (fun i hi=>by
     rw[hfl] at hi
     have hi2:i<((zs.take len).map fun z=>AV.i k z).length:=by simpa using hi
     rw[Nat.zero_add,List.getElem?_eq_getElem hi2,hget i hi2]) (fun i hi=>by
     have hi1:i<((zs.take len).map fun z=>PV.i k z).length:=by rw[hfl] at hi;exact hi
     have e:(flat ((zs.take len).map fun z=>PV.i k z))[i]=.i k (zs.getD i 0):=by
      simp only[hfl,List.getElem_map,List.getElem_take,List.getD]
      rw[List.getElem?_eq_getElem (by simp at hi1;omega)];rfl
     rw[e]
     exact .i _ _)
    rw[hll] at this
    exact this
theorem row_heap {P:Program} {W:World} {G:Nat} (hg:P.globalNamed "internal/strconv.uint64pow10" = some G) (ht:Lib.TabIs P W "internal/strconv.uint64pow10" .u64 Lib.pow10Tab):0<W.heap.size:=by
 unfold Lib.TabIs World.var? at ht
 rw[hg] at ht
 simp only[Option.bind_some] at ht
 split at ht
 ·rename_i cs t fz hh
  rcases Nat.eq_zero_or_pos W.heap.size with q|q
  ·rw[Array.getElem?_eq_none (by omega)] at hh;cases hh
  ·exact q
 ·cases ht
theorem ints_row {W:World} {a:Option Addr} {len cap:Nat} {zs:List Int} (h:IsRow .i64 W a len cap zs):Ints (zs.take len):=by
 rcases h with⟨rfl,rfl,rfl,rfl⟩|⟨x,rfl,hl,hm,hz,hcell,hwz⟩
 ·exact⟨by simp,fun n hn=>by simp at hn⟩
 ·refine⟨?_,fun n hn=>?_⟩
  ·have:maxLen≤9223372036854775807:=by decide
   simp;omega
  ·have:=bounds_i64 (hwz n (List.mem_of_mem_take hn))
   exact this
end Go.Eng
namespace Go.Eng
open Go.RowKit
end Go.Eng
namespace Go.Eng
open Go.RowKit
def isFnT (P:Program) (t:TypeId):Bool:=match P.underlying t with|some (.func ..)=>true|_=>false
theorem zjK {H:Type} {enc:TypeId×Value→H} {P:Program} {w:World} {base:Nat} {sp:Nat→Bool} {fuel:Nat} {t:TypeId} {v:Value} {x:H} {p:List MemPlace} (ht:isFnT P t=true) (h:DataW.trod enc P w base sp true fuel t [v]=some (.held x,p)) :
  ∃fn first captured,v=.func fn first captured∧enc (t,v)=x:=by
 unfold isFnT at ht
 split at ht
 ·rename_i hu
  cases fuel with
  | zero=>simp[DataW.trod] at h
  | succ fuel =>
   simp only[DataW.trod,hu] at h
   cases v with
   | func fn first captured =>
    simp only[if_true,Option.some.injEq,Prod.mk.injEq,DataW.held.injEq] at h
    exact⟨fn,first,captured,rfl,h.1⟩
   | _=>simp at h
 ·cases ht
theorem zhd {P:Program} {t:TypeId} {fn:Fn} {first captured:Array Value} {b:UInt8} {r:List UInt8} (h:funcToken P (t,.func fn first captured)=b::r) :
  ∃f fc,fn=.func f∧first = #[]∧captured = #[]∧P.funcs[f]?=some fc∧fc.name.toUTF8.data.toList=b::r:=by
 cases fn with
 | func f =>
  simp only[funcToken] at h
  split at h
  ·rename_i he
   split at h
   ·rename_i fc hf
    split at h
    ·rw[Bool.and_eq_true] at he
     exact⟨f,fc,rfl,Array.isEmpty_iff.1 he.1,Array.isEmpty_iff.1 he.2,hf,h⟩
    ·cases h
   ·cases h
  ·cases h
 | _=>simp[funcToken] at h
def oneFn (P:Program) (name:List UInt8) (F:FuncId):Bool:=(List.range P.funcs.size).all fun i=>match P.funcs[i]? with|some fn => !(fn.name.toUTF8.data.toList==name) || i==F|none=>true
theorem zgJ {P:Program} {name:List UInt8} {F f:FuncId} {fc:Func} (h:oneFn P name F=true) (hf:P.funcs[f]?=some fc) (hn:fc.name.toUTF8.data.toList=name):f=F:=by
 unfold oneFn at h
 rw[List.all_eq_true] at h
 have hlt:f<P.funcs.size:=by
  by_cases q:f<P.funcs.size
  ·exact q
  ·rw[Array.getElem?_eq_none (Nat.le_of_not_lt q)] at hf;cases hf
 have:=h f (List.mem_range.2 hlt)
 rw[hf] at this
 simp only[hn] at this
 simpa using this
theorem zkl {P:Program} {key:Nat→Option FuncId} {W:World} {n g K1 K2:Nat} {F1 F2:FuncId} {name:String} {t:TypeId} {fs:Array Field} {fa fb:Field} {b1 b2:UInt8} {r1 r2:List UInt8} {d:DataW Unit}
  (hg:P.globalNamed name=some g) (hty:(P.globals[g]?).map (·.type)=some t) (ht:P.underlying t=some (.struct fs)) (hfs:fs.toList=[fa,fb]) (hoa:fa.offset=0) (hob:fb.offset=1)
  (hca:P.cellsOf fa.type=1) (hcb:P.cellsOf fb.type=1) (hct:P.cellsOf t=2) (hua:isFnT P fa.type=true) (hub:isFnT P fb.type=true) (h1:oneFn P (b1::r1) F1=true) (h2:oneFn P (b2::r2) F2=true)
  (k1:key K1=some F1) (k2:key K2=some F2) (hn:globG n=some [.fn K1 [],.fn K2 []]) (hd:d.funcsOut=.agg [.held (b1::r1),.held (b2::r2)]) (h:funcsAt P W name d):GlobIn key W n ⟨g,0,2,true⟩:=by
 obtain⟨g',t',cs,fuel,p,hg',ht',hvar,htr⟩:=h
 obtain rfl:=Option.some.inj (hg.symm.trans hg')
 obtain rfl:=Option.some.inj (hty.symm.trans ht')
 rw[hd] at htr
 cases fuel with
 | zero=>simp[DataW.trod] at htr
 | succ fuel =>
  simp only[DataW.trod,ht,hct] at htr
  split at htr
  ·rename_i hl
   obtain⟨v1,v2,hc⟩:∃v1 v2,cs.toList=[v1,v2]:=by
    generalize cs.toList=l at hl
    match l,hl with
    | [a,b],_=>exact⟨a,b,rfl⟩
   rw[hfs,hc] at htr
   obtain⟨xs,hm,hx⟩:=Option.map_eq_some_iff.1 htr
   simp only[List.mapM_cons,List.mapM_nil,hoa,hob,hca,hcb,List.drop_zero,List.take_succ_cons,List.take_zero,List.drop_succ_cons] at hm
   simp only[Option.bind_eq_bind,Option.bind_eq_some_iff,Option.pure_def,Option.some.injEq] at hm
   obtain⟨x1,e1,ys,⟨x2,e2,zs,rfl,rfl⟩,rfl⟩:=hm
   simp only[List.map_cons,List.map_nil,Prod.mk.injEq,DataW.agg.injEq,List.cons.injEq,and_true] at hx
   obtain⟨⟨y1,y2⟩,_⟩:=hx
   obtain⟨x1,p1⟩:=x1
   obtain⟨x2,p2⟩:=x2
   simp only at y1 y2
   subst y1 y2
   obtain⟨fn1,fi1,ca1,rfl,t1⟩:=zjK hua e1
   obtain⟨fn2,fi2,ca2,rfl,t2⟩:=zjK hub e2
   obtain⟨f1,fc1,rfl,rfl,rfl,m1,n1⟩:=zhd t1
   obtain⟨f2,fc2,rfl,rfl,rfl,m2,n2⟩:=zhd t2
   obtain rfl:=zgJ h1 m1 n1
   obtain rfl:=zgJ h2 m2 n2
   have hb:∃cs' t fz,W.heap[g]?=some (.cells cs' t fz)∧cs'=cs:=by
    unfold World.var? at hvar
    rw[hg] at hvar
    simp only[Option.bind_some] at hvar
    split at hvar
    ·rename_i cs' t fz hh
     cases hvar
     exact⟨_,t,fz,hh,rfl⟩
    ·cases hvar
   obtain⟨cs',t'',fz,hh,rfl⟩:=hb
   refine⟨rfl,_,_,t'',fz,hn,hh,Nat.le_refl _,?_⟩
   rw[hc]
   refine RelL.cons ?_ (RelL.cons ?_ .nil)
   ·exact .fn (vs:=[]) (ws := #[]) k1 rfl (fun i h=>by simp at h)
   ·exact .fn (vs:=[]) (ws := #[]) k2 rfl (fun i h=>by simp at h)
  ·cases htr
def fnTabB (P:Program) (g:Nat):Bool :=
 match (P.globals[g]?).map (·.type) with
 | some t =>
  match P.underlying t with
  | some (.struct fs) =>
   match fs.toList with
   | [fa,fb]=>fa.offset==0&&(fb.offset==1&&(P.cellsOf fa.type==1&&(P.cellsOf fb.type==1&&(P.cellsOf t==2&&(isFnT P fa.type&&isFnT P fb.type)))))
   | _=>false
  | _=>false
 | none=>false
theorem glob_fnsB {P:Program} {key:Nat→Option FuncId} {W:World} {n g K1 K2:Nat} {F1 F2:FuncId} {name:String} {b1 b2:UInt8} {r1 r2:List UInt8} {d:DataW Unit}
  (hg:P.globalNamed name=some g) (hB:fnTabB P g=true) (h1:oneFn P (b1::r1) F1=true) (h2:oneFn P (b2::r2) F2=true)
  (k1:key K1=some F1) (k2:key K2=some F2) (hn:globG n=some [.fn K1 [],.fn K2 []]) (hd:d.funcsOut=.agg [.held (b1::r1),.held (b2::r2)]) (h:funcsAt P W name d):GlobIn key W n ⟨g,0,2,true⟩:=by
 unfold fnTabB at hB
 split at hB
 ·rename_i t ht
  split at hB
  ·rename_i fs hu
   split at hB
   ·rename_i fa fb hfs
    simp only[Bool.and_eq_true,beq_iff_eq] at hB
    obtain⟨h3,h4,h5,h6,h7,h8,h9⟩:=hB
    exact zkl hg ht hu hfs h3 h4 h5 h6 h7 h8 h9 h1 h2 k1 k2 hn hd h
   ·cases hB
  ·cases hB
 ·cases hB
noncomputable def witW (P:Program) (n:Nat) (os:Os) (data:List (String×DataW Unit)):World:=(World.doorLaid P n os).layVars P data
theorem laidH_wit {P:Program} {os:Os} {n fuel:Nat} {laid:List (String×DataW Unit)} (args:Array Value)
  (hf:(World.doorLaid P n os).layFits P (laid.filter fun x=>x.2.handleName?.isNone) []=true)
  (hi:(World.doorLaid P n os).layIfaces P (laid.filter fun x=>x.2.handleName?.isNone) (witW P n os (laid.filter fun x=>x.2.handleName?.isNone))=true)
  (hh:(laid.filter fun x=>x.2.handleName?.isSome&&x.2.funcsIn?.isNone).all (handleAtB P (witW P n os (laid.filter fun x=>x.2.handleName?.isNone)))=true)
  (hF:funcsRun P (witW P n os (laid.filter fun x=>x.2.handleName?.isNone)) fuel ((funcsListed laid).map (·.1))=some ((funcsListed laid).map (·.2.funcsOut))) :
  laidMetH P laid ((witW P n os (laid.filter fun x=>x.2.handleName?.isNone)).forCall (fun _ _=>0) ⟨#[],args,[]⟩).memory:=by
 have hd:laidMet P (laid.filter fun x=>x.2.handleName?.isNone) (witW P n os (laid.filter fun x=>x.2.handleName?.isNone)):=by
  clear hh hF
  generalize (laid.filter fun x=>x.2.handleName?.isNone)=l at *
  have e1:(l.filter fun x=>(l.map (·.1)).contains x.1)=l:=List.filter_eq_self.2 fun x hx=>List.contains_iff_mem.2 (List.mem_map.2 ⟨x,hx,rfl⟩)
  have e2:(l.filter fun x => !(l.map (·.1)).contains x.1)=[]:=List.filter_eq_nil_iff.2 fun x hx=>by rw[List.contains_iff_mem.2 (List.mem_map.2 ⟨x,hx,rfl⟩)];simp
  exact laidMet_layVars (w0:=World.doorLaid P n os) (l.map (·.1)) [] (by rw[e1];rfl) (by rw[e1];exact hf) (by rw[e1];exact hi) (by rw[e2];exact LaidIn.none)
 have hm:laidMetH P laid (witW P n os (laid.filter fun x=>x.2.handleName?.isNone)):=laidMetH_of_parts3 hd hh hF
 exact hm.of_heap (by simp[World.memory,World.forCall,Input.heap])
theorem down_glob:globG 3=some [.fn 296 [],.fn 297 []]:=rfl
theorem up_glob:globG 4=some [.fn 298 [],.fn 299 []]:=rfl
theorem laidH_fn {P:Program} {laid:List (String×DataW Unit)} {W:World} {name:String} {x d:DataW Unit} (h:laidMetH P laid W) (hx:x.handleName?.isSome=true) (hm:(name,x)∈laid) (hi:x.funcsIn?=some d):funcsAt P W name d:=by
 have hm2:(name,x)∈laid.filter fun x=>x.2.handleName?.isSome:=List.mem_filter.2 ⟨hm,hx⟩
 unfold laidMetH at h
 split at h
 ·rename_i he;rw[he] at hm2;cases hm2
 ·rename_i a l he
  have:=h.2 _ (he ▸ hm2)
  simp only at this
  rw[hi] at this
  exact this
theorem laidH_met {P:Program} {laid:List (String×DataW Unit)} {W:World} (h:laidMetH P laid W):laidMet P (laid.filter fun x=>x.2.handleName?.isNone) W:=by
 unfold laidMetH at h
 split at h
 ·rename_i he
  have e:(laid.filter fun x=>x.2.handleName?.isNone)=laid:=by
   rw[List.filter_eq_self]
   intro x hx
   have:=(List.filter_eq_nil_iff.1 he) x hx
   cases hn:x.2.handleName? with
   | none=>rfl
   | some s=>rw[hn] at this;exact absurd rfl this
  rw[e];exact h
 ·exact h.1
end Go.Eng
namespace Go.Eng
def gI (p q:Int):Int:=((Nat.gcd p.natAbs q.natAbs:Nat):Int)
def lowP (p q:Int):Int:=(if q<0 then-p else p)/gI p q
def lowQ (p q:Int):Int:=(if q<0 then-q else q)/gI p q
theorem zfl {p q:Int} (h:q≠0):gI p q≠0:=by
 unfold gI
 intro e
 have:Nat.gcd p.natAbs q.natAbs=0:=by omega
 have:=Nat.eq_zero_of_gcd_eq_zero_right this
 omega
theorem zdH {p q:Int} (h:q≠0):0<gI p q:=by
 have:=zfl (p:=p) h
 unfold gI at *
 omega
theorem zcs (p q:Int):gI p q∣p:=Int.ofNat_dvd_left.2 (Nat.gcd_dvd_left _ _)
theorem zcY (p q:Int):gI p q∣q:=Int.ofNat_dvd_left.2 (Nat.gcd_dvd_right _ _)
theorem zls (p q:Int):gI (-p) (-q)=gI p q:=by unfold gI;rw[Int.natAbs_neg,Int.natAbs_neg]
theorem zdJ {p q:Int} (h:q≠0):lowP p q*gI p q=(if q<0 then-p else p)∧lowQ p q*gI p q=(if q<0 then-q else q):=by
 unfold lowP lowQ
 refine⟨Int.ediv_mul_cancel ?_,Int.ediv_mul_cancel ?_⟩
 ·split
  ·exact Int.dvd_neg.2 (zcs p q)
  ·exact zcs p q
 ·split
  ·exact Int.dvd_neg.2 (zcY p q)
  ·exact zcY p q
theorem zcZ {p q:Int} (h:q≠0):0<lowQ p q:=by
 have h1:=(zdJ (p:=p) h).2
 have h2:=zdH (p:=p) h
 have h3:0<lowQ p q*gI p q:=by rw[h1];split<;>omega
 exact Int.pos_of_mul_pos_left h3 h2
theorem zb9 {p q:Int} (h:q≠0):lowP p q*q=p*lowQ p q:=by
 obtain⟨h1,h2⟩:=zdJ (p:=p) h
 have h3:=zfl (p:=p) h
 apply Int.eq_of_mul_eq_mul_right h3
 rw[Int.mul_right_comm,h1,Int.mul_assoc,h2]
 split<;>grind
theorem zdI {p q:Int} (h:q≠0):Nat.gcd (lowP p q).natAbs (lowQ p q).natAbs=1:=by
 obtain⟨h1,h2⟩:=zdJ (p:=p) h
 have h3:=zdH (p:=p) h
 have e1:(lowP p q).natAbs*(gI p q).natAbs=p.natAbs:=by rw[←Int.natAbs_mul,h1];split<;>omega
 have e2:(lowQ p q).natAbs*(gI p q).natAbs=q.natAbs:=by rw[←Int.natAbs_mul,h2];split<;>omega
 have e3:(gI p q).natAbs=Nat.gcd p.natAbs q.natAbs:=Int.natAbs_natCast _
 have e4:=Nat.gcd_mul_right (lowP p q).natAbs (gI p q).natAbs (lowQ p q).natAbs
 rw[e1,e2,←e3] at e4
 have:0<(gI p q).natAbs:=by omega
 exact Nat.eq_of_mul_eq_mul_right this (by rw[Nat.one_mul];exact e4.symm)
theorem zgG {p q r s:Int} (hq:0<q) (hs:0<s) (c1:Nat.gcd p.natAbs q.natAbs=1) (c2:Nat.gcd r.natAbs s.natAbs=1) (h:p*s=r*q):p=r∧q=s:=by
 have n1:p.natAbs*s.natAbs=r.natAbs*q.natAbs:=by rw[←Int.natAbs_mul,←Int.natAbs_mul,h]
 have d1:q.natAbs∣s.natAbs:=by
  have:q.natAbs∣p.natAbs*s.natAbs:=⟨r.natAbs,by rw[n1,Nat.mul_comm]⟩
  exact(Nat.Coprime.dvd_of_dvd_mul_left (by rw[Nat.coprime_comm];exact c1) this)
 have d2:s.natAbs∣q.natAbs:=by
  have:s.natAbs∣r.natAbs*q.natAbs:=⟨p.natAbs,by rw[←n1,Nat.mul_comm]⟩
  exact(Nat.Coprime.dvd_of_dvd_mul_left (by rw[Nat.coprime_comm];exact c2) this)
 have e:q.natAbs=s.natAbs:=Nat.dvd_antisymm d1 d2
 have e2:q=s:=by omega
 subst e2
 exact⟨Int.eq_of_mul_eq_mul_right (by omega) h,rfl⟩
theorem zmN {p q r s:Int} (hq:q≠0) (hs:s≠0) (h:p*s=r*q):lowP p q=lowP r s∧lowQ p q=lowQ r s:=by
 refine zgG (zcZ hq) (zcZ hs) (zdI hq) (zdI hs) ?_
 have a:=zb9 (p:=p) hq
 have b:=zb9 (p:=r) hs
 apply Int.eq_of_mul_eq_mul_right (a:=q*s) (Int.mul_ne_zero hq hs)
 calc lowP p q*lowQ r s*(q*s)=(lowP p q*q)*(lowQ r s*s):=by grind
  _=p*lowQ p q*(lowQ r s*s):=by rw[a]
  _=p*s*(lowQ p q*lowQ r s):=by grind
  _=r*q*(lowQ p q*lowQ r s):=by rw[h]
  _=r*lowQ r s*(lowQ p q*q):=by grind
  _=lowP r s*s*(lowQ p q*q):=by rw[b]
  _=lowP r s*lowQ p q*(q*s):=by grind
theorem zks {p q:Int} (hq:0<q) (c:Nat.gcd p.natAbs q.natAbs=1):lowP p q=p∧lowQ p q=q:=by
 unfold lowP lowQ gI
 rw[c,if_neg (by omega),if_neg (by omega)]
 exact⟨Int.ediv_one _,Int.ediv_one _⟩
theorem ziv {p q:Int} (h:q≠0):(lowP p q).natAbs≤p.natAbs:=by
 have h1:=(zdJ (p:=p) h).1
 have h3:=zdH (p:=p) h
 have e1:(lowP p q).natAbs*(gI p q).natAbs=p.natAbs:=by rw[←Int.natAbs_mul,h1];split<;>omega
 rw[←e1]
 exact Nat.le_mul_of_pos_right _ (by omega)
theorem ziw {p q:Int} (h:q≠0):(lowQ p q).natAbs≤q.natAbs:=by
 have h1:=(zdJ (p:=p) h).2
 have h3:=zdH (p:=p) h
 have e1:(lowQ p q).natAbs*(gI p q).natAbs=q.natAbs:=by rw[←Int.natAbs_mul,h1];split<;>omega
 rw[←e1]
 exact Nat.le_mul_of_pos_right _ (by omega)
end Go.Eng
namespace Go.Eng
theorem zjl {n K:Nat} (hn:n=1229) (hK:K=16384):10000^n≤2^K:=by
 obtain⟨m,hm⟩:∃m,m=83:=⟨_,rfl⟩
 have e:(10000:Nat)^n=(10^59)^m*10^19:=by
  rw[show (10000:Nat)=10^4 from rfl,←Nat.pow_mul,←Nat.pow_mul,←Nat.pow_add]
  congr 1;omega
 have h1:(10:Nat)^59≤2^196:=by decide
 have h2:(10:Nat)^19≤2^64:=by decide
 have h3:((10:Nat)^59)^m≤(2^196)^m:=Nat.pow_le_pow_left h1 m
 have h4:(2^196)^m*2^64=2^(196*m+64):=by rw[←Nat.pow_mul,←Nat.pow_add]
 rw[e]
 refine Nat.le_trans (Nat.mul_le_mul h3 h2) ?_
 rw[h4]
 exact Nat.pow_le_pow_right (by decide) (by omega)
def inR (v:Nat):Prop:=v<2^16384
theorem zkg (v:Nat):(tlen v<1230∨v<2^16384)↔inR v:=by
 obtain⟨n,hn⟩:∃n,n=1229:=⟨_,rfl⟩
 have hb:=zjl (K:=16384) hn rfl
 unfold inR
 generalize (2:Nat)^16384=q at *
 constructor
 ·rintro (h|h)
  ·have h2:v<10000^n:=za2.1 (by omega)
   exact Nat.lt_of_lt_of_le h2 hb
  ·exact h
 ·exact .inr
theorem zaB (v:Nat):wlen v≤512↔inR v:=by
 obtain⟨n,hn⟩:∃n,n=512:=⟨_,rfl⟩
 rw[←hn,zaS]
 unfold inR
 have:(4294967296:Nat)^n=2^16384:=by
  rw[show (4294967296:Nat)=2^32 from rfl,←Nat.pow_mul]
  congr 1;omega
 rw[this]
end Go.Eng
namespace Go.Eng
end Go.Eng
namespace Go.Eng
noncomputable instance inRdec (v:Nat):Decidable (inR v):=Classical.propDecidable _
noncomputable def parseT (s:List UInt8):Int×Int :=
 let neg:Bool:=s.head?==some 45
 let ds:=if neg then s.drop 1 else s
 if 5000<s.length then (0,4)
 else if ds=[]∨(ds.head?=some 48∧(neg=true∨1<ds.length))∨¬ds.all isDig=true then (0,2)
 else if inR (tv ds) then (sgn neg (tv ds),0) else (0,4)
theorem zkm {l:List UInt8}:(l=[]∨∃c t,l=c::t):=by cases l with
 | nil=>exact .inl rfl
 | cons c t=>exact .inr ⟨c,t,rfl⟩
theorem zdg (s:List UInt8):(5000<s.length∧parseT s=(0,4))∨(s.length≤5000∧∃neg ds,((neg=true∧s=45::ds)∨(neg=false∧s=ds∧ds.head?≠some 45)) ∧
  ((ds=[]∨(ds.head?=some 48∧(neg=true∨1<ds.length))∨¬ds.all isDig=true)∧parseT s=(0,2) ∨
   ds≠[]∧(ds.head?=some 48→neg=false∧ds.length=1)∧ds.all isDig=true∧(inR (tv ds)∧parseT s=(sgn neg (tv ds),0)∨¬inR (tv ds)∧parseT s=(0,4)))):=by
 by_cases hl:5000<s.length
 ·exact .inl ⟨hl,by unfold parseT;simp only[hl,if_true]⟩
 ·right
  refine⟨by omega,s.head?==some 45,if (s.head?==some 45) then s.drop 1 else s,?_,?_⟩
  ·by_cases h:s.head?=some 45
   ·left
    rw[h]
    refine⟨rfl,?_⟩
    cases s with
    | nil=>cases h
    | cons c t=>simp only[List.head?_cons,Option.some.injEq] at h;subst h;rfl
   ·right
    have:(s.head?==some 45)=false:=by simpa using h
    rw[this]
    exact⟨rfl,by simp,by simpa using h⟩
  ·have e:parseT s=(if (if (s.head?==some 45) then s.drop 1 else s)=[]∨((if (s.head?==some 45) then s.drop 1 else s).head?=some 48∧((s.head?==some 45)=true∨1<(if (s.head?==some 45) then s.drop 1 else s).length))∨¬(if (s.head?==some 45) then s.drop 1 else s).all isDig=true then (0,2)
     else if inR (tv (if (s.head?==some 45) then s.drop 1 else s)) then (sgn (s.head?==some 45) (tv (if (s.head?==some 45) then s.drop 1 else s)),0) else (0,4)):=by
    unfold parseT
    simp only[hl,if_false]
   rw[e]
   generalize (if (s.head?==some 45)=true then s.drop 1 else s)=ds
   generalize (s.head?==some 45)=neg
   by_cases h1:ds=[]∨(ds.head?=some 48∧(neg=true∨1<ds.length))∨¬ds.all isDig=true
   ·exact .inl ⟨h1,by rw[if_pos h1]⟩
   ·right
    rw[if_neg h1]
    have n1:ds≠[]:=fun q=>h1 (.inl q)
    refine⟨n1,fun q=>?_,?_,?_⟩
    ·have h2:¬(neg=true∨1<ds.length):=fun r=>h1 (.inr (.inl ⟨q,r⟩))
     have h3:ds.length≠0:=fun r=>n1 (List.eq_nil_of_length_eq_zero r)
     refine⟨?_,?_⟩
     ·cases neg
      ·rfl
      ·exact(h2 (.inl rfl)).elim
     ·have:¬1<ds.length:=fun r=>h2 (.inr r)
      omega
    ·by_cases q:ds.all isDig=true
     ·exact q
     ·exact(h1 (.inr (.inr q))).elim
    ·by_cases h3:inR (tv ds)
     ·exact .inl ⟨h3,by rw[if_pos h3]⟩
     ·exact .inr ⟨h3,by rw[if_neg h3]⟩
end Go.Eng
namespace Go.Eng
theorem zf7 (s:List UInt8) (hs:s.length<4611686018427387904):pf E0 85 [.s s,.s [45]]=some (.b (s.head?==some 45)):=by
 refine zaa (xf:=zvO) rfl (by simp[zvO]) ?_
 simp only[zvO]
 cases s with
 | nil =>
  have q1:(((0:Nat):Int)≥1)=False:=by simp
  simp(disch:=omega)only[go_sem,seval,wqq,Int.natCast_one,q1,Int.natCast_zero,Int.reduceLE,ge_iff_le]
  rfl
 | cons c t =>
  have q1:(((t.length+1:Nat):Int)≥1)=True:=by simp;omega
  have hc:slStrP (c::t) none (some (.i .i64 1))=some (.s [c]):=by
   simp only[slStrP,optP,show (PV.i IntKind.i64 1)=.i .i64 ((1:Nat):Int) from rfl,zaK]
   rw[if_pos ⟨by omega,by simp⟩];rfl
  simp(disch:=omega)only[go_sem,seval,wqq,Int.natCast_one,q1,hc]
  congr 2
  by_cases h:c=45
  ·subst h;rfl
  ·have:(some c==some (45:UInt8))=false:=by simpa using h
   simp[h,this]
theorem zf6 {neg:Bool} {s ds:List UInt8} (hs:s.length<4611686018427387904) (h:(neg=true∧s=45::ds)∨(neg=false∧s=ds∧ds.head?≠some 45)):pf E0 129 [.s s,.s [45]]=some (.tu [.s ds,.b neg]):=by
 have inner:pf E0 137 [.s s,.s [45]]=some (.tu [.s ds,.b neg]):=by
  refine zaa (xf:=zvP) rfl (by simp[zvP]) ?_
  simp only[zvP]
  have hp:=zf7 s hs
  rcases h with⟨rfl,rfl⟩|⟨rfl,rfl,h45⟩
  ·have e:((45::ds).head?==some (45:UInt8))=true:=rfl
   rw[e] at hp
   have hc:slStrP (45::ds) (some (.i .i64 1)) none=some (.s ds):=by
    simp only[slStrP,optP,show (PV.i IntKind.i64 1)=.i .i64 ((1:Nat):Int) from rfl,zaK]
    rw[if_pos ⟨by simp,Nat.le_refl _⟩]
    simp
   simp(disch:=omega)only[go_sem,seval,wqq,hp,Int.natCast_one,hc]
  ·have e:(s.head?==some (45:UInt8))=false:=by simpa using h45
   rw[e] at hp
   simp(disch:=omega)only[go_sem,seval,wqq,hp]
 refine zaa (xf:=zwb) rfl (by simp[zwb]) ?_
 simp only[zwb]
 simp(disch:=omega)only[go_sem,seval,wqq,inner]
set_option maxRecDepth 20000 in
theorem zk9 (ds:List UInt8):((((ds.reverse.dropWhile (([48,49,50,51,52,53,54,55,56,57]:List UInt8).contains ·)).reverse).dropWhile (([48,49,50,51,52,53,54,55,56,57]:List UInt8).contains ·))=[])=(ds.all isDig=true):=by
 have hc:∀c:UInt8,([48,49,50,51,52,53,54,55,56,57]:List UInt8).contains c=isDig c:=fun c=>by
  have h:∀n:Fin 256,([48,49,50,51,52,53,54,55,56,57]:List UInt8).contains (UInt8.ofNat n.val)=isDig (UInt8.ofNat n.val):=by decide
  have h2:=h ⟨c.toNat,c.toNat_lt⟩
  simpa using h2
 simp only[hc]
 have aux:∀l:List UInt8,l.dropWhile isDig=[]↔l.all isDig=true:=fun l=>by
  induction l with
  | nil=>simp
  | cons c l ih =>
   rw[List.dropWhile_cons,List.all_cons,Bool.and_eq_true]
   by_cases h:isDig c=true
   ·rw[if_pos h,ih];simp[h]
   ·rw[if_neg h];simp[h]
 apply propext
 rw[aux,List.all_reverse]
 constructor
 ·intro h
  by_cases hd:ds.all isDig=true
  ·exact hd
  ·exfalso
   have h1:ds.reverse.dropWhile isDig≠[]:=fun q=>hd (by rw[←List.all_reverse];exact(aux _).1 q)
   obtain⟨c,t,he⟩:∃c t,ds.reverse.dropWhile isDig=c::t:=by
    cases hq:ds.reverse.dropWhile isDig with
    | nil=>exact(h1 hq).elim
    | cons c t=>exact⟨c,t,rfl⟩
   have h2:=List.head?_dropWhile_not isDig ds.reverse
   rw[he] at h h2
   simp only[List.head?_cons] at h2
   simp only[List.all_cons,Bool.and_eq_true] at h
   rw[h.1] at h2
   simp at h2
 ·intro hd
  have:ds.reverse.dropWhile isDig=[]:=(aux _).2 (by rw[List.all_reverse];exact hd)
  rw[this];rfl
theorem znK (ds:List UInt8) (h:ds.length≤9223372036854775807):∃t,(t=[]↔ds.all isDig=true)∧pf E0 130 [.s ds,.s [48,49,50,51,52,53,54,55,56,57]]=some (.s t):=by
 refine⟨_,by rw[←zk9 ds],zkQ ?_ rfl⟩
 simp only[orcP,libP]
 rw[if_neg (by decide),if_pos ⟨trivial,h,by decide,by decide⟩]
 rfl
theorem zl9 {l:List UInt8} (h0:l≠[]) (h1:l.length≤18) (h2:l.all isDig=true):pf E0 131 [.s l]=some (.tu [.i .i64 (tv l:Nat),.inil]):=by
 refine zkR ?_ rfl
 simp only[orcP,libP]
 rw[if_neg (by decide),if_pos ⟨trivial,h0,h1,h2⟩]
 rfl
theorem zpP {v:Nat} (h:v<4294967296):PV.lst [(PV.i .u32 ((v:Nat):Int))]=Dw 1 v:=by
 have e:tab 1 (fun k=>(PV.i .u32 ((dgt v k:Nat):Int)))=[(PV.i .u32 ((dgt v 0:Nat):Int))]:=rfl
 rw[Dw,e,zho,Nat.mod_eq_of_lt h]
theorem zh8 {v n:Nat} (h:v<10^n):wlen v≤n:=by
 rw[zaS]
 exact Nat.lt_of_lt_of_le h (Nat.pow_le_pow_left (by decide) n)
def wparse_R:XC:=match zwh.body with
 | .seq _ (.seq _ (.seq _ (.seq _ (.seq _ (.seq _ r)))))=>r
 | _=>.skip
theorem zjU {F:PFin} {ds:List UInt8} (hl:ds.length≤5000) (hd:ds.all isDig=true) {fr:PFr} {B:PB} {neg:Bool} (h2:fr 2=.p 0 0) (h4:fr 4=.s ds) (h5:fr 5=.b neg) (h6:fr 6=.nl)
  (cont:∀(fr':PFr) (M':PM),fr' 2=.p 0 0→fr' 5=.b neg→(∀M d,fz M (d+1) (fr' 6)=some (D (tv ds),[]))→PM.blk M' 0=some B→WK E0 F wparse_R [] fr' M') :
  WK E0 F (.loop zwR) [.block 0,.seq wparse_R] fr [some B]:=by
 refine zao zwR.eq_1 (fun(x:Nat×List UInt8) fr M=>x.2.length≤ds.length∧x.2.all isDig=true∧(x.1=0∨x.2.length%9=0)∧x.1*10^x.2.length+tv x.2=tv ds∧fr 2=.p 0 0∧fr 4=.s x.2∧fr 5=.b neg∧(∀M d,fz M (d+1) (fr 6)=some (D x.1,[]))∧PM.blk M 0=some B) (fun x=>x.2.length) ?_ (0,ds) ⟨Nat.le_refl _,hd,.inl rfl,by simp,h2,h4,h5,fun M d=>by rw[h6];rfl,rfl⟩
 rintro⟨m,rs⟩ fr M ⟨hrl,hrd,h9,hv,h2,h4,h5,h6,hb⟩ ih
 simp only at hrl hrd h9 hv h4 h6 ih
 cases rs with
 | nil =>
  have hm:m=tv ds:=by simpa [tv] using hv
  subst hm
  simp(disch:=omega)only[go_sem,seval,wqq,h4,Int.natCast_zero,Int.lt_irrefl,gt_iff_lt]
  exact cont _ _ (by simp only[go_sem,seval,h2]) (by simp only[go_sem,seval,h5]) (fun M d=>by simp only[go_sem,seval];exact h6 M d) hb
 | cons c t =>
  have htl:t.length<5000:=by simp only[List.length_cons] at hrl;omega
  obtain⟨n,hn⟩:∃n,n=t.length%9+1:=⟨_,rfl⟩
  have hn9:n≤9:=by omega
  have hnl:n≤(c::t).length:=by simp;omega
  have q1:(((t.length+1:Nat):Int)>0)=True:=by simp
  have i1:(((t.length+1:Nat):Int)-1)=((t.length:Nat):Int):=by omega
  have i2:((t.length:Int)).tmod 9=((t.length%9:Nat):Int):=zcj t.length 9
  have i3:((t.length%9:Nat):Int)+1=(n:Int):=by omega
  obtain⟨a,ha⟩:∃a,a=(c::t).take n:=⟨_,rfl⟩
  obtain⟨b,hbb⟩:∃b,b=(c::t).drop n:=⟨_,rfl⟩
  have hal:a.length=n:=by rw[ha,List.length_take];omega
  have hbl:b.length=(c::t).length-n:=by rw[hbb,List.length_drop]
  have hab:c::t=a++b:=by rw[ha,hbb,List.take_append_drop]
  have had:a.all isDig=true:=by rw[hab,List.all_append,Bool.and_eq_true] at hrd;exact hrd.1
  have hbd:b.all isDig=true:=by rw[hab,List.all_append,Bool.and_eq_true] at hrd;exact hrd.2
  have hc1:slStrP (c::t) none (some (.i .i64 (n:Int)))=some (.s a):=by
   simp only[slStrP,optP,zaK]
   rw[if_pos ⟨by omega,hnl⟩,List.drop_zero,ha]
  have hc2:slStrP (c::t) (some (.i .i64 (n:Int))) none=some (.s b):=by
   simp only[slStrP,optP,zaK]
   rw[if_pos ⟨hnl,Nat.le_refl _⟩,List.take_length,hbb]
  have hat:=zl9 (l:=a) (by intro q;rw[q] at hal;simp at hal;omega) (by omega) had
  have hav:tv a<1000000000:=Nat.lt_of_lt_of_le (zla a had) (by rw[hal];exact Nat.pow_le_pow_right (by decide) hn9)
  have hvd:=zla ds hd
  have hmv:m<10^ds.length:=by
   have:m*1≤m*10^(c::t).length:=Nat.mul_le_mul_left _ (Nat.pow_pos (by decide))
   omega
  have hml:=zh8 hmv
  have hmlt:=zai m
  have h59:pf E0 59 [D m,Dw 1 1000000000]=some (Dw (wlen m+1) (m*1000000000)):=zg0 hmlt (by decide) (by omega) (by omega)
  have hmm:m*1000000000<4294967296^(wlen m+1):=by rw[Nat.pow_succ];exact Nat.mul_lt_mul'' hmlt (by decide)
  have h40:pf E0 40 [Dw (wlen m+1) (m*1000000000),Dw 1 (tv a)]=some (Dw (max (wlen m+1) 1+1) (m*1000000000+tv a)):=znn hmm (by omega) (by omega) (by omega)
  have hsl:m*1000000000+tv a<4294967296^(max (wlen m+1) 1+1):=by
   rw[Nat.max_eq_left (by omega)]
   have h1:m*1000000000+tv a<(m+1)*1000000000:=by rw[Nat.add_mul,Nat.one_mul];exact Nat.add_lt_add_left hav _
   have h2:(m+1)*1000000000≤4294967296^wlen m*4294967296:=by
    refine Nat.mul_le_mul (Nat.succ_le_of_lt hmlt) ?_
    omega
   rw[←Nat.pow_succ] at h2
   exact Nat.lt_of_lt_of_le h1 (Nat.le_trans h2 (Nat.pow_le_pow_right (by decide) (by omega)))
  have h49:pf E0 49 [Dw (max (wlen m+1) 1+1) (m*1000000000+tv a)]=some (D (m*1000000000+tv a)):=zbG hsl (by omega)
  have w1:PV.lst [.i .u32 1000000000]=Dw 1 1000000000:=zpP (v:=1000000000) (by decide)
  have w2:PV.lst [(PV.i .u32 ((tv a:Nat):Int))]=Dw 1 (tv a):=zpP (by omega)
  simp(disch:=omega)only[go_sem,seval,wqq,h4,q1,i1,i2,i3,hc1,hc2,hat,h6,w1,h59,zaU,group,List.headD_cons,w2,h40,h49,zbW]
  have hnew:(m*1000000000+tv a)*10^b.length+tv b=tv ds:=by
   rw[←hv,hab,zl0,List.length_append,Nat.pow_add,hal]
   rcases h9 with h9|h9
   ·rw[h9];simp
   ·have:n=9:=by simp only[List.length_cons] at h9;omega
    rw[this]
    show (m*10^9+tv a)*10^b.length+tv b=m*(10^9*10^b.length)+(tv a*10^b.length+tv b)
    rw[Nat.add_mul,Nat.mul_assoc];omega
  have hb9:b.length%9=0:=by rw[hbl];simp only[List.length_cons];omega
  refine ih (m*1000000000+tv a,b) _ _ (by rw[hbl];simp only[List.length_cons];omega) ⟨by simp only;omega,hbd,.inr hb9,hnew,by simp only[go_sem,seval,h2],by simp only[go_sem,seval],by simp only[go_sem,seval,h5],fun M d=>by simp only[go_sem,seval],?_⟩
  refine za4 (za4 hb _) _
theorem ziS (s:List UInt8) (hs:s.length<4611686018427387904):pf E0 110 [.s s]=some (.tu [wiP (clip (parseT s).1),.i .i64 (parseT s).2]):=by
 refine zaa (xf:=zwh) rfl (by simp[zwh]) ?_
 have c0:clip 0=wi0:=zbt (z:=0) (by simp[zbK])
 rcases zdg s with⟨hl,hp⟩|⟨hl,neg,ds,hsg,hsp⟩
 ·rw[hp,c0]
  simp only[zwh]
  have q1:((s.length:Int)>5000)=True:=by simp;omega
  simp(disch:=omega)only[go_sem,seval,wqq,q1]
 ·have hdl:ds.length≤5000:=by
   rcases hsg with⟨_,rfl⟩|⟨_,rfl,_⟩
   ·simp at hl;omega
   ·exact hl
  have q1:((s.length:Int)>5000)=False:=by simp;omega
  have hcp:=zf6 hs hsg
  obtain⟨t,ht1,ht2⟩:=znK ds (by omega)
  have good:ds.all isDig=true→(inR (tv ds)∧parseT s=(sgn neg (tv ds),0)∨¬inR (tv ds)∧parseT s=(0,4))→∀{fr:PFr},fr 2=.p 0 0→fr 4=.s ds→fr 5=.b neg→fr 6=.nl →
    WK E0 ⟨[.cell 2 true 2,.tmp 3],fun w M2=>(fz M2 fzD w).map Prod.fst=some (.tu [wiP (clip (parseT s).1),.i .i64 (parseT s).2])⟩ (.loop zwR) [.block 0,.seq wparse_R] fr [some ⟨[.b false,.nl],true,0⟩]:=fun hd hp {fr} h2 h4 h5 h6=>by
   refine zjU hdl hd h2 h4 h5 h6 fun fr' M' g2 g5 g6 gb=>?_
   unfold wparse_R
   simp only[zwh]
   have hsi:=zaA neg (wlen (tv ds)) (tv ds) (zai _) (by have:=zh8 (zla ds hd);omega)
   have hlt:=zb5 gb
   have hset:∀Y,PM.blk (List.set M' 0 (some Y)) 0=some Y:=fun Y=>zbM hlt
   have hres:parseT s=((if inR (tv ds) then (if neg then-(tv ds:Int) else (tv ds:Int)) else 0),lerr (tv ds:Int)):=by
    rcases hp with⟨h1,h2⟩|⟨h1,h2⟩
    ·rw[h2,if_pos h1,zaC (by simpa using (zaB _).2 h1)];rfl
    ·rw[h2,if_neg h1,zeO (by simpa using fun q=>h1 ((zaB _).1 q))]
   have hcl:clip (if neg then-(tv ds:Int) else (tv ds:Int))=clip (parseT s).1:=by
    rw[hres]
    by_cases h1:inR (tv ds)
    ·simp only[if_pos h1]
    ·simp only[if_neg h1]
     rw[zey,c0]
     cases neg<;>simp<;>exact Nat.lt_of_not_le fun q=>h1 ((zaB _).1 q)
   rw[hcl] at hsi
   have he:lerr (tv ds:Int)=(parseT s).2:=by rw[hres]
   rw[he] at hsi
   simp(disch:=omega)only[go_sem,seval,wqq,g2,g5,g6,hsi,gb,hset]
  simp only[zwh]
  rcases zkm (l:=ds) with rfl|⟨c,r,rfl⟩
  ·have hp:parseT s=(0,2):=by
    rcases hsp with⟨_,h⟩|⟨h,_⟩
    ·exact h
    ·exact(h rfl).elim
   rw[hp,c0]
   simp(disch:=omega)only[go_sem,seval,wqq,q1,hcp]
  ·have q0:(c::r=[])=False:=by simp
   by_cases ha:(c::r).all isDig=true
   ·have htn:(t=[])=True:=by simp[ht1.2 ha]
    have hts:(t≠[])=False:=by simp[ht1.2 ha]
    by_cases h48:c.toNat=48
    ·have q2:((c.toNat:Int)=48)=True:=by simp;omega
     have hc:c=48:=UInt8.toNat_inj.1 h48
     cases neg
     ·by_cases hr:r=[]
      ·have q3:(((r.length+1:Nat):Int)>1)=False:=by subst hr;simp
       have hp:inR (tv (c::r))∧parseT s=(sgn false (tv (c::r)),0)∨¬inR (tv (c::r))∧parseT s=(0,4):=by
        rcases hsp with⟨h|⟨_,h|h⟩|h,_⟩|⟨_,_,_,h⟩
        ·cases h
        ·cases h
        ·subst hr;simp at h
        ·exact(h ha).elim
        ·exact h
       simp(disch:=omega)only[go_sem,seval,wqq,q1,hcp,q0,ht2,htn,q2,q3]
       exact good ha hp (by simp only[go_sem,seval]) (by simp only[go_sem,seval]) (by simp only[go_sem,seval]) (by simp only[go_sem,seval])
      ·have q3:(((r.length+1:Nat):Int)>1)=True:=by
        cases r with
        | nil=>exact(hr rfl).elim
        | cons _ _=>simp;omega
       have hp:parseT s=(0,2):=by
        rcases hsp with⟨_,h⟩|⟨_,h,_⟩
        ·exact h
        ·have:=(h (by rw[hc];rfl)).2
         cases r with
         | nil=>exact(hr rfl).elim
         | cons _ _=>simp at this
       rw[hp,c0]
       simp(disch:=omega)only[go_sem,seval,wqq,q1,hcp,q0,ht2,htn,q2,q3]
     ·have hp:parseT s=(0,2):=by
       rcases hsp with⟨_,h⟩|⟨_,h,_⟩
       ·exact h
       ·have:=(h (by rw[hc];rfl)).1
        cases this
      rw[hp,c0]
      simp(disch:=omega)only[go_sem,seval,wqq,q1,hcp,q0,ht2,htn,q2]
    ·have q2:((c.toNat:Int)=48)=False:=by simp;omega
     have hp:inR (tv (c::r))∧parseT s=(sgn neg (tv (c::r)),0)∨¬inR (tv (c::r))∧parseT s=(0,4):=by
      rcases hsp with⟨h|⟨h,_⟩|h,_⟩|⟨_,_,_,h⟩
      ·cases h
      ·simp only[List.head?_cons,Option.some.injEq] at h;rw[h] at h48;exact(h48 rfl).elim
      ·exact(h ha).elim
      ·exact h
     simp(disch:=omega)only[go_sem,seval,wqq,q1,hcp,q0,ht2,htn,q2]
     exact good ha hp (by simp only[go_sem,seval]) (by simp only[go_sem,seval]) (by simp only[go_sem,seval]) (by simp only[go_sem,seval])
   ·have htn:(t=[])=False:=by simp only[eq_iff_iff,iff_false];exact fun q=>ha (ht1.1 q)
    have hp:parseT s=(0,2):=by
     rcases hsp with⟨_,h⟩|⟨_,_,h,_⟩
     ·exact h
     ·exact(ha h).elim
    rw[hp,c0]
    simp(disch:=omega)only[go_sem,seval,wqq,q1,hcp,q0,ht2,htn]
end Go.Eng
namespace Go.Eng
theorem zgm {v:Nat} (h:v≠0):∃c t,dec v=c::t∧49≤c.toNat∧c.toNat≤57∧(c::t).length=dlen v:=by
 have h1:=zbv v
 have h0:dlen v≠0:=fun q=>by rw[q] at h1;simp at h1;omega
 obtain⟨n,hn⟩:∃n,dlen v=n+1:=⟨dlen v-1,by omega⟩
 have h2:¬v<10^n:=fun q=>by have:=zan.2 q;omega
 have e:dec v=UInt8.ofNat (48+v/10^n%10)::dtx n v:=by rw[zb6 h,hn];rfl
 have hp:0<10^n:=Nat.pow_pos (by decide)
 have h3:v/10^n<10:=by
  rw[Nat.div_lt_iff_lt_mul hp,Nat.mul_comm,←Nat.pow_succ,show n.succ=dlen v from hn.symm];exact h1
 have h4:0<v/10^n:=Nat.div_pos (by omega) hp
 have ht:(UInt8.ofNat (48+v/10^n%10)).toNat=48+v/10^n%10:=dch _ (by omega)
 exact⟨_,_,e,by rw[ht];omega,by rw[ht];omega,by rw[hn];simp⟩
theorem zhY {v w:Nat} (h:dec v=dec w):v=w:=by
 have:=congrArg tv h
 rwa [zjL,zjL] at this
theorem zhX (v:Nat):∀l,dec v≠45::l:=fun l q=>by
 by_cases h:v=0
 ·subst h;cases q
 ·obtain⟨c,t,e,h1,_⟩:=zgm h
  rw[e] at q;cases q
  revert h1;decide
theorem zj3 {z w:Int} (h:decI z=decI w):z=w:=by
 unfold decI at h
 split at h<;>split at h
 ·have:=zhY (List.cons.inj h).2;omega
 ·exact(zhX _ _ h.symm).elim
 ·exact(zhX _ _ h).elim
 ·have:=zhY h;omega
theorem zjN {n K:Nat} (hn:n=177) (hK:K=16384):2^K≤10^(28*n):=by
 have e1:(2:Nat)^K≤(2^93)^n:=by
  rw[←Nat.pow_mul 2]
  exact Nat.pow_le_pow_right (by decide) (by omega)
 have e2:((2:Nat)^93)^n≤(10^28)^n:=Nat.pow_le_pow_left (by decide) n
 rw[←Nat.pow_mul 10] at e2
 exact Nat.le_trans e1 e2
theorem znL (K:Nat):0<2^K:=Nat.pow_pos (by decide)
theorem zko:inR 0:=znL 16384
theorem zeL {v:Nat} (h:inR v):dlen v≤4956:=by
 obtain⟨n,hn⟩:∃n,n=177:=⟨_,rfl⟩
 have e:=zjN (K:=16384) hn rfl
 have h:v<2^16384:=h
 have:=zan.2 (Nat.lt_of_lt_of_le h e)
 omega
theorem zep (z:Int):parseT (decI z)=if inR z.natAbs then (z,0) else (0,4):=by
 by_cases h0:z=0
 ·subst h0
  have h1:inR (0:Int).natAbs:=zko
  have h2:decI 0=[48]:=rfl
  rw[if_pos h1,h2]
  have h3:inR (tv [48]):=h1
  unfold parseT
  rw[if_neg (by decide),if_neg (by decide)]
  exact if_pos h3
 ·have hv:z.natAbs≠0:=by omega
  obtain⟨c,t,e,hc1,hc2,hl⟩:=zgm hv
  have hd:=zh3 z.natAbs
  have ht:=zjL z.natAbs
  have h45:c≠45:=by rintro rfl;revert hc1;decide
  have h48:c≠48:=by rintro rfl;revert hc1;decide
  have hlen:(decI z).length≤dlen z.natAbs+1:=by
   unfold decI;split<;>simp only[List.length_cons,e] at * <;> omega
  have hlen2:dlen z.natAbs≤(decI z).length:=by
   unfold decI;split<;>simp only[List.length_cons,e] at * <;> omega
  rcases zdg (decI z) with⟨h1,h2⟩|⟨h1,neg,ds,hsg,hsp⟩
  ·have:¬inR z.natAbs:=fun q=>by have:=zeL q;omega
   rw[if_neg this,h2]
  ·have hds:ds=dec z.natAbs∧sgn neg z.natAbs=z:=by
    rcases hsg with⟨rfl,g⟩|⟨rfl,g,g2⟩
    ·unfold decI at g
     split at g
     ·cases g;exact⟨rfl,by unfold sgn;simp;omega⟩
     ·exact(zhX _ _ g).elim
    ·unfold decI at g
     split at g
     ·rw[←g] at g2;exact(g2 rfl).elim
     ·exact⟨g.symm,by unfold sgn;simp;omega⟩
   obtain⟨rfl,hs⟩:=hds
   rcases hsp with⟨h|⟨h,_⟩|h,_⟩|⟨_,_,_,⟨h3,h4⟩|⟨h3,h4⟩⟩
   ·rw[e] at h;cases h
   ·rw[e] at h;simp at h;exact(h48 h).elim
   ·exact(h hd).elim
   ·rw[ht] at h3 h4
    rw[if_pos h3,h4,hs]
   ·rw[ht] at h3
    rw[if_neg h3,h4]
theorem zo7 (x:WI):pf E0 33 [wiP x]=some (.s (decI x.v)):=by
 refine znr ?_ rfl
 have hw:∀(l:List Nat),Ok32 l→wordsP (l.map fun n=>(PV.i .u32 ((n:Nat):Int)))=some l:=fun l=>by
  induction l with
  | nil=>intro _;rfl
  | cons n l ih =>
   intro h
   have h1:=h n (List.mem_cons_self ..)
   rw[List.map_cons]
   unfold wordsP
   rw[if_pos ⟨by omega,by omega⟩,ih fun x hx=>h x (List.mem_cons_of_mem _ hx)]
   simp
 have hD:D x.v.natAbs=.lst ((dig x.v.natAbs).map fun n=>(PV.i .u32 ((n:Nat):Int))):=(ztr _ _).symm
 have hg:(dig x.v.natAbs).getLast?≠some 0:=fun q=>by
  by_cases h:x.v.natAbs=0
  ·rw[h] at q;cases q
  ·have h1:=zaT h
   have h2:(dig x.v.natAbs).getLast?=some (dgt x.v.natAbs (wlen x.v.natAbs-1)):=by
    rw[List.getLast?_eq_getElem?]
    unfold dig dw
    rw[zaY,zaM (by omega)]
   rw[h2] at q
   have h3:=Option.some.inj q
   rw[zah] at h3
   have h4:=zgg h
   have h5:x.v.natAbs/4294967296^(wlen x.v.natAbs-1)<4294967296:=by
    have:=zai x.v.natAbs
    rw[show wlen x.v.natAbs=wlen x.v.natAbs-1+1 by omega,Nat.pow_succ] at this
    exact Nat.div_lt_of_lt_mul this
   have h6:=Nat.div_pos h4 (zbz _)
   rw[Nat.mod_eq_of_lt h5] at h3
   omega
 have hx:=x.lim
 rw[zdX,hD]
 simp only[orcP,txtP,if_true,hw _ (zoL _),Option.bind_some]
 unfold wtx
 have hnz:decide (x.v<0)=true→dig x.v.natAbs≠[]:=fun h=>by
  have h1:x.v<0:=by simpa using h
  intro q
  have h2:=zec x.v.natAbs
  rw[q] at h2
  have:=zaT (v:=x.v.natAbs) (by omega)
  simp at h2;omega
 rw[if_pos ⟨by rw[zec];exact hx,hg,hnz⟩,znN]
 ·have e:(if decide (x.v<0)=true then-((x.v.natAbs:Nat):Int) else ((x.v.natAbs:Nat):Int))=x.v:=by
   by_cases h:x.v<0
   ·rw[if_pos (by simpa using h)];omega
   ·rw[if_neg (by simpa using h)];omega
  rw[e];rfl
end Go.Eng
namespace Go.Eng
theorem zeA {v n:Nat} (h1:10^n≤v) (h2:v<10^(n+1)):dec v=dtx (n+1) v:=by
 have h0:v≠0:=by have:=Nat.pow_pos (n:=n) (by decide:0<10);omega
 have:dlen v=n+1:=by
  have a:=zan.2 h2
  have b:¬dlen v≤n:=fun q=>by have:=zan.1 q;omega
  omega
 rw[zb6 h0,this]
theorem zih {n:Int} (h:Fits64 n):∃x:WI,x.v=n∧pf E0 34 [.i .i64 n]=some (wiP x):=⟨wiOf n h,rfl,zcL h⟩
end Go.Eng
namespace Go.Eng
def isPP:PV→Bool
 | .p _ _=>true
 | _=>false
@[go_sem] theorem ztF (n o:Nat):isPP (.p n o)=true:=_root_.id rfl
def slotIn (E:PEnv) (ops:List XOper) (L:List Nat) (c:Nat×Nat):Bool :=
 match ops[c.1]?,ops[c.2]? with
 | some a,some b =>
  match a.op with
  | .load _ _ (.t s)=>L.contains s&&calmOp E b.op&&(ops.all fun o=>o.dst != some s)
  | _=>false
 | _,_=>false
theorem zaH {E:PEnv} {F:PFin} {ops:List XOper} {chk:List (Nat×Nat)} {ks:List KI} {fr:PFr} {M:PM} (L:List Nat) (hL:chk.all (fun c=>calmC E ops c || slotIn E ops L c)=true) (hp:L.all (fun s=>isPP (fr s))=true) (w:WL E F ops ks fr M) :
  WK E F (.drw ops chk) ks fr M:=by
 refine zcS (fun fr2 Ms hT=>?_) w
 rw[List.all_eq_true] at hL hp ⊢
 rintro⟨i,j⟩ hc
 have h1:=hL _ hc
 simp only[Bool.or_eq_true] at h1
 rcases h1 with h1|h1
 ·exact zdj hT h1
 ·unfold slotIn at h1
  split at h1
  ·rename_i a b ha hb
   split at h1
   ·rename_i z k s hop
    simp only[Bool.and_eq_true] at h1
    obtain⟨⟨c1,c2⟩,c3⟩:=h1
    have hs:=hp s (List.contains_iff_mem.1 c1)
    cases hf:fr s with
    | p n o=>exact zhL hT ha hb hop c2 c3 hf
    | _=>rw[hf] at hs;simp[isPP] at hs
   ·cases h1
  ·cases h1
attribute [go_sem] List.all_cons List.all_nil
def slotIn2 (E:PEnv) (ops:List XOper) (L:List Nat) (c:Nat×Nat):Bool :=
 match ops[c.1]?,ops[c.2]? with
 | some a,some b =>
  match a.op with
  | .load _ _ (.t s)=>L.contains s&&calmOp E b.op
  | _=>false
 | _,_=>false
theorem zbf {E:PEnv} {F:PFin} {ops:List XOper} {chk:List (Nat×Nat)} {ks:List KI} {fr:PFr} {M:PM} (L:List Nat) (hL:chk.all (fun c=>calmC E ops c || slotIn2 E ops L c)=true)
  (hr:WL E ⟨(0::0::L).map XR.tmp,fun w _=>∃l,w=.tu l∧(l.drop 2).all isPP=true⟩ ops [] fr M) (w:WL E F ops ks fr M):WK E F (.drw ops chk) ks fr M:=by
 refine zcS (fun fr2 Ms hT=>?_) w
 have hp:L.all (fun s=>isPP (fr2 s))=true:=by
  obtain⟨lf,q,fr3,M3,vs,e,h1,h2,l,h3,h4⟩:=hr
  simp only[Option.bind_eq_some_iff,unw] at e
  obtain⟨⟨fr4,M4⟩,e1,e2⟩:=e
  simp only[Option.some.injEq,Prod.mk.injEq] at e2
  obtain⟨_,e3,e4⟩:=e2
  rw[←e3,←e4] at h2
  obtain⟨Ms',g1,g2⟩:=zbV e1
  rw[g1] at hT
  cases hT
  have hres:∀(f:PFr) (N:PM) (l:List Nat),pRes f N (l.map XR.tmp)=some (l.map f):=fun f N l=>by
   induction l with
   | nil=>rfl
   | cons a l ih=>simp only[List.map_cons,pRes,pResOne,ih]
  rw[hres] at h2
  cases h2
  simp only[List.map_cons,packP] at h3
  cases h3
  simpa [List.all_map] using h4
 rw[List.all_eq_true] at hL hp ⊢
 rintro⟨i,j⟩ hc
 have h1:=hL _ hc
 simp only[Bool.or_eq_true] at h1
 rcases h1 with h1|h1
 ·exact zdj hT h1
 ·unfold slotIn2 at h1
  split at h1
  ·rename_i a b ha hb
   split at h1
   ·rename_i z k s hop
    simp only[Bool.and_eq_true] at h1
    obtain⟨c1,c2⟩:=h1
    have hs:=hp s (List.contains_iff_mem.1 c1)
    cases hf:fr2 s with
    | p n o =>
     obtain⟨fri,A,B,q1,q2,q3,q4⟩:=zau hT ha
     obtain⟨frj,C,D,p1,p2,p3,p4⟩:=zau hT hb
     have p2':Ms[(i,j).2+1]?=some D:=p2
     have q2':Ms[(i,j).1+1]?=some B:=q2
     refine zcV ?_
     simp only[chkP0,ha,q1,q2,p1,p2]
     rw[if_neg (by rw[hop];simp[XO.cls])]
     rw[hop]
     show chkV ops j (.t s) C D (fr2 s)=true
     rw[hf]
     show verP (some n) C D=true
     rcases p3 with⟨_,v,p3⟩|⟨_,p3⟩
     ·cases hopb:b.op with
      | call f l =>
       rw[hopb] at p3 c2
       obtain⟨ns,rfl⟩:=zcv c2 p3
       exact zdy ns C _
      | _=>rw[hopb] at c2;simp[calmOp] at c2
     ·rw[p3];simp[verP]
    | _=>rw[hf] at hs;simp[isPP] at hs
   ·cases h1
  ·cases h1
theorem zgf {E:PEnv} {F:PFin} {a b:XC} (hab:a=b) {ks:List KI} {fr:PFr} {M:PM} (w:WK E F b (.loop a::ks) fr M):WK E F (.loop a) ks fr M:=by
 rw[←hab] at w;exact zcy w
def fillC (z:List PV) (off n:Nat) (cs:List PV):Option (List PV):=if cs.length=n∧off+n≤z.length∧cs.all PV.scal=true then some (psplice z off cs) else none
theorem zam {fr:PFr} (G:Nat→Option (List AV)) (z:List PV) (off n:Nat) (x:X) (ps:List (Nat×Nat×X)):fillP G fr z ((off,(n,x))::ps)=fillB fr G ps (fillC z off n (x.pv G fr).cells):=by
 simp only[fillP]
 unfold fillC
 split<;>rfl
theorem zad (z:List PV) (off n:Nat) (cs:List PV):fillC z off n cs=if cs.length=n∧off+n≤z.length∧cs.all PV.scal=true then some (psplice z off cs) else none:=rfl
end Go.Eng
namespace Go.Eng
structure FQ where
 p:WI
 q:WI
 q1:1≤q.v
 cop:Nat.gcd p.v.natAbs q.v.natAbs=1
theorem zjR {y:WI} (hy:1≤y.v):wlen (y.v-1).natAbs≤512:=by
 have h:=(zaB _).1 y.lim
 refine(zaB _).2 ?_
 unfold inR at *
 exact Nat.lt_of_le_of_lt (by omega) h
def FQ.l (f:FQ):WI:=⟨f.q.v-1,zjR f.q1⟩
noncomputable def fqP (f:FQ):PV:=.ag [.b (decide (f.p.v<0)),D f.p.v.natAbs,.b (decide (f.l.v<0)),D f.l.v.natAbs]
@[go_sem] theorem ztz (M:PM) (d:Nat) (f:FQ):fz M (d+1+1) (fqP f)=some (fqP f,[]):=_root_.id rfl
@[go_sem] theorem zn5 (f:FQ):(fqP f).cells=[.b (decide (f.p.v<0)),D f.p.v.natAbs,.b (decide (f.l.v<0)),D f.l.v.natAbs]:=_root_.id rfl
@[go_sem] theorem zq4 (f:FQ):PV.ag [.b (decide (f.p.v<0)),D f.p.v.natAbs,.b (decide (f.l.v<0)),D f.l.v.natAbs]=fqP f:=_root_.id rfl
theorem zlM (x:WI) (e:Int):pf E0 37 [wiP x,.i .i64 e]=some (wiP x):=by
 refine zaa (xf:=zxc) rfl (by simp[zxc]) ?_
 simp only[zxc]
 simp(disch:=omega)only[go_sem,seval,wqq]
theorem zde (x g:WI) (h:g.v≠0):∃q:WI,q.v=x.v/g.v∧pf E0 21 [wiP x,wiP g]=some (wiP q):=by
 have fd:=ziP x g h
 refine⟨x.div g h,rfl,?_⟩
 refine zaa (xf:=zw8) rfl (by simp[zw8]) ?_
 simp only[zw8]
 simp(disch:=omega)only[go_sem,seval,wqq,fd]
noncomputable def wi1:WI:=wiOf 1 (by decide)
theorem znQ:wi1.v=1:=rfl
theorem zcM (x y:WI):pf E0 20 [.lst [wiP x,wiP y]]=some (.tu [wiP (clip (x.v*y.v)),.i .i64 (lerr (x.v*y.v))]):=by
 refine zaa (xf:=zw3) rfl (by simp[zw3]) ?_
 simp only[zw3]
 have f1:pf E0 34 [.i .i64 1]=some (wiP wi1):=zcL (n:=1) (by decide)
 have m1:pf E0 38 [wiP wi1,wiP x]=some (.tu [wiP x,.i .i64 0]):=by
  have h:=zfy wi1 x
  rw[znQ,Int.one_mul,zaC x.lim,zbt x.lim] at h
  exact h
 have m2:=zfy x y
 generalize wi1=w1 at *
 simp(disch:=omega)only[go_sem,seval,wqq,f1]
 refine zgf zwS.eq_1 ?_
 simp(disch:=omega)only[go_sem,seval,wqq,m1]
 refine zgf zwS.eq_1 ?_
 by_cases h:wlen (x.v*y.v).natAbs≤512
 ·have e:=zaC h
  rw[e] at m2 ⊢
  simp(disch:=omega)only[go_sem,seval,wqq,m2]
  refine zgf zwS.eq_1 ?_
  simp(disch:=omega)only[go_sem,seval,wqq,m2]
 ·have e:=zeO h
  have e2:=zey h
  rw[e,e2] at m2 ⊢
  simp(disch:=omega)only[go_sem,seval,wqq,m2]
theorem zmt:Nat.gcd wi0.v.natAbs wi1.v.natAbs=1:=by decide
noncomputable def fq0:FQ:=⟨wi0,wi1,by decide,zmt⟩
theorem zmu:fqP fq0=.ag [.b false,.lst [],.b false,.lst []]:=by
 have h1:D (0:Int).natAbs=.lst []:=znU.symm
 show PV.ag [.b (decide ((0:Int)<0)),D (0:Int).natAbs,.b (decide ((1:Int)-1<0)),D ((1:Int)-1).natAbs]=_
 rw[show (1:Int)-1=0 by decide,h1];rfl
theorem zgT (x y:WI) (hy:1≤y.v) (hc:Nat.gcd x.v.natAbs y.v.natAbs=1):pf E0 22 [wiP x,wiP y,.i .i64 0,.i .i64 0]=some (.tu [fqP ⟨x,y,hy,hc⟩,.i .i64 0]):=by
 refine zaa (xf:=zv9) rfl (by simp[zv9]) ?_
 simp only[zv9]
 have f1:pf E0 34 [.i .i64 1]=some (wiP wi1):=zcL (n:=1) (by decide)
 have s1:=zo8 y wi1
 rw[znQ] at s1
 have m1:=zlM (clip (y.v-1)) (lerr (y.v-1))
 have cv:=za0 (zjR hy)
 generalize lerr (y.v-1)=le at *
 generalize wi1=w1 at *
 have hq:fqP ⟨x,y,hy,hc⟩=.ag [.b (decide (x.v<0)),D x.v.natAbs,.b (decide ((clip (y.v-1)).v<0)),D (clip (y.v-1)).v.natAbs]:=by rw[cv];rfl
 rw[hq]
 generalize clip (y.v-1)=z at *
 simp(disch:=omega)only[go_sem,seval,wqq]
 refine zaH [4,5] rfl (by simp only[go_sem,seval]) ?_
 simp(disch:=omega)only[go_sem,seval,wqq,f1,s1,m1,zam,zad]
theorem zi8 (x y:WI) {e f:Int} (h:e≠0∨f≠0):pf E0 22 [wiP x,wiP y,.i .i64 e,.i .i64 f]=some (.tu [fqP fq0,.i .i64 4]):=by
 refine zaa (xf:=zv9) rfl (by simp[zv9]) ?_
 simp only[zv9]
 rw[zmu]
 by_cases he:e=0
 ·have hf:(f=0)=False:=by simp;rcases h with h|h<;>first|exact h|exact absurd he h
  have he:(e=0)=True:=by simp[he]
  simp(disch:=omega)only[go_sem,seval,wqq,he,hf]
 ·have he:(e=0)=False:=by simp[he]
  simp(disch:=omega)only[go_sem,seval,wqq,he]
theorem ziQ (x y:WI) (h:y.v=0):pf E0 24 [wiP x,wiP y]=some (.tu [fqP fq0,.i .i64 1]):=by
 refine zaa (xf:=zv1) rfl (by simp[zv1]) ?_
 simp only[zv1]
 rw[zmu]
 have sy:=zbY y
 have sc:(cmpI y.v 0=0)=True:=by rw[h];simp[cmpI]
 simp(disch:=omega)only[go_sem,seval,wqq,sy,sc]
theorem ziR (x y g:WI) (hg:g.v=gI x.v y.v) (hy:0<y.v):∃f:FQ,f.p.v=lowP x.v y.v∧f.q.v=lowQ x.v y.v∧∃a b:WI,pf E0 21 [wiP x,wiP g]=some (wiP a)∧pf E0 21 [wiP y,wiP g]=some (wiP b)∧pf E0 22 [wiP a,wiP b,.i .i64 0,.i .i64 0]=some (.tu [fqP f,.i .i64 0]):=by
 have gn:g.v≠0:=by rw[hg];exact zfl (by omega)
 obtain⟨a,ha,fa⟩:=zde x g gn
 obtain⟨b,hb,fb⟩:=zde y g gn
 have e1:a.v=lowP x.v y.v:=by rw[ha,hg];unfold lowP;rw[if_neg (by omega)]
 have e2:b.v=lowQ x.v y.v:=by rw[hb,hg];unfold lowQ;rw[if_neg (by omega)]
 have hq:1≤b.v:=by rw[e2];exact zcZ (by omega)
 have hc:Nat.gcd a.v.natAbs b.v.natAbs=1:=by rw[e1,e2];exact zdI (by omega)
 exact⟨⟨a,b,hq,hc⟩,e1,e2,a,b,fa,fb,zgT a b hq hc⟩
theorem zef (p q:Int) (h:q<0):lowP (-p) (-q)=lowP p q∧lowQ (-p) (-q)=lowQ p q:=by
 have h2:¬ -q<0:=by omega
 unfold lowP lowQ
 rw[zls]
 simp only[h,h2,if_true,if_false,and_self]
theorem zfx (x y:WI) (h:y.v≠0):∃f:FQ,f.p.v=lowP x.v y.v∧f.q.v=lowQ x.v y.v∧pf E0 24 [wiP x,wiP y]=some (.tu [fqP f,.i .i64 0]):=by
 by_cases hn:y.v<0
 ·have hg:=zhy x.neg y.neg
  obtain⟨f,h1,h2,a,b,fa,fb,fl⟩:=ziR x.neg y.neg (x.neg.gcd y.neg) rfl (by show 0 < -y.v;omega)
  obtain⟨l1,l2⟩:=zef x.v y.v hn
  refine⟨f,h1.trans l1,h2.trans l2,?_⟩
  generalize x.neg.gcd y.neg=g at *
  refine zaa (xf:=zv1) rfl (by simp[zv1]) ?_
  simp only[zv1]
  have sy:=zbY y
  have sc:cmpI y.v 0 = -1:=by unfold cmpI;rw[if_pos hn]
  rw[sc] at sy
  have n1:=zdN x
  have n2:=zdN y
  generalize x.neg=xn at *
  generalize y.neg=yn at *
  simp(disch:=omega)only[go_sem,seval,wqq,sy]
  refine zaH [3] rfl (by simp only[go_sem,seval]) ?_
  simp(disch:=omega)only[go_sem,seval,wqq,n1,n2,hg]
  refine zaH [3,6] rfl (by simp only[go_sem,seval]) ?_
  simp(disch:=omega)only[go_sem,seval,wqq,fa,fb,fl]
 ·have hg:=zhy x y
  obtain⟨f,h1,h2,a,b,fa,fb,fl⟩:=ziR x y (x.gcd y) rfl (by omega)
  refine⟨f,h1,h2,?_⟩
  generalize x.gcd y=g at *
  refine zaa (xf:=zv1) rfl (by simp[zv1]) ?_
  simp only[zv1]
  have sy:=zbY y
  have sc:cmpI y.v 0=1:=by unfold cmpI;rw[if_neg hn,if_pos (by omega)]
  rw[sc] at sy
  simp(disch:=omega)only[go_sem,seval,wqq,sy,hg]
  refine zaH [3,6] rfl (by simp only[go_sem,seval]) ?_
  simp(disch:=omega)only[go_sem,seval,wqq,fa,fb,fl]
end Go.Eng
namespace Go.Eng
theorem zi2 (f:FQ):pf E0 64 [fqP f]=some (wiP f.p):=by
 refine zaa (xf:=zvT) rfl (by simp[zvT]) ?_
 simp only[zvT]
 simp(disch:=omega)only[go_sem,seval,wqq]
theorem zbZ (f:FQ):pf E0 19 [fqP f]=some (wiP f.q):=by
 refine zaa (xf:=zvS) rfl (by simp[zvS]) ?_
 simp only[zvS]
 have f1:pf E0 34 [.i .i64 1]=some (wiP wi1):=zcL (n:=1) (by decide)
 have s1:=zhx f.l wi1
 have e:f.l.v+wi1.v=f.q.v:=by show f.q.v-1+1=f.q.v;omega
 have hc:clip f.q.v=f.q:=zbt f.q.lim
 rw[e,hc] at s1
 have m1:=zlM f.q (lerr f.q.v)
 generalize lerr f.q.v=le at *
 generalize wi1=w1 at *
 simp(disch:=omega)only[go_sem,seval,wqq]
 refine zbf [3] rfl ?_ ?_
 ·simp(disch:=omega)only[go_sem,seval,wqq,f1,s1,m1]
  exact⟨_,rfl,rfl⟩
 simp(disch:=omega)only[go_sem,seval,wqq,f1,s1,m1]
theorem zrE {p q:Int} (hp:Fits64 p) (hq:Fits64 q) (h:q≠0):∃f:FQ,f.p.v=lowP p q∧f.q.v=lowQ p q∧pf E0 17 [.i .i64 p,.i .i64 q]=some (.tu [fqP f,.i .i64 0]):=by
 obtain⟨x,hx,fx⟩:=zih hp
 obtain⟨y,hy,fy⟩:=zih hq
 obtain⟨f,h1,h2,fm⟩:=zfx x y (by rw[hy];exact h)
 rw[hx,hy] at h1 h2
 refine⟨f,h1,h2,?_⟩
 refine zaa (xf:=zxP) rfl (by simp[zxP]) ?_
 simp only[zxP]
 simp(disch:=omega)only[go_sem,seval,wqq,fx,fy,fm]
theorem zmw (x y:WI):(x.gcd y).v=gI x.v y.v:=rfl
@[go_sem] theorem zre (x y:WI):group 2 2 [.b (decide (x.v<0)),Dw (wlen x.v.natAbs) x.v.natAbs,.b (decide (y.v<0)),Dw (wlen y.v.natAbs) y.v.natAbs]=[wiP x,wiP y]:=_root_.id rfl
theorem ziY (a b:FQ) {g s t cx cy cs cd:WI} {ex ey es ed:Int} (hg:pf E0 18 [wiP a.q,wiP b.q]=some (wiP g)) (fs:pf E0 21 [wiP b.q,wiP g]=some (wiP s)) (ft:pf E0 21 [wiP a.q,wiP g]=some (wiP t))
  (nx:pf E0 20 [.lst [wiP a.p,wiP s]]=some (.tu [wiP cx,.i .i64 ex])) (ny:pf E0 20 [.lst [wiP b.p,wiP t]]=some (.tu [wiP cy,.i .i64 ey])) (ns:pf E0 23 [wiP cx,wiP cy]=some (.tu [wiP cs,.i .i64 es]))
  (nd:pf E0 20 [.lst [wiP t,wiP b.q]]=some (.tu [wiP cd,.i .i64 ed])) (f:FQ) (e:Int)
  (hR:(ex=0∧ey=0∧es=0∧ed=0∧pf E0 24 [wiP cs,wiP cd]=some (.tu [fqP f,.i .i64 e]))∨(¬(ex=0∧ey=0∧es=0∧ed=0)∧f=fq0∧e=4)) :
  pf E0 9 [fqP a,fqP b]=some (.tu [fqP f,.i .i64 e]):=by
 have da:=zbZ a
 have db:=zbZ b
 refine zaa (xf:=zxy) rfl (by simp[zxy]) ?_
 simp only[zxy]
 simp(disch:=omega)only[go_sem,seval,wqq]
 refine zaH [3] rfl (by simp only[go_sem,seval]) ?_
 simp(disch:=omega)only[go_sem,seval,wqq,da,db,hg]
 refine zbf [21,6] rfl ?_ ?_
 ·simp(disch:=omega)only[go_sem,seval,wqq,db,fs,nx,zam,zad]
  exact⟨_,rfl,rfl⟩
 simp(disch:=omega)only[go_sem,seval,wqq,db,fs,nx,zam,zad]
 refine zbf [32,6] rfl ?_ ?_
 ·simp(disch:=omega)only[go_sem,seval,wqq,da,ft,ny,zam,zad]
  exact⟨_,rfl,rfl⟩
 simp(disch:=omega)only[go_sem,seval,wqq,da,ft,ny,ns,zam,zad]
 refine zaH [6,3] rfl (by simp only[go_sem,seval]) ?_
 rcases hR with⟨h1,h2,h3,h4,hM⟩|⟨hn,hf,he⟩
 ·subst h1 h2 h3 h4
  simp(disch:=omega)only[go_sem,seval,wqq,da,db,ft,nd,hM,zam,zad]
 ·subst hf he
  rw[zmu]
  by_cases h1:ex=0
  ·by_cases h2:ey=0
   ·by_cases h3:es=0
    ·have h4:(ed=0)=False:=by simp;exact fun q=>hn ⟨h1,h2,h3,q⟩
     subst h1 h2 h3
     simp(disch:=omega)only[go_sem,seval,wqq,da,db,ft,nd,h4,zam,zad]
    ·have h3:(es=0)=False:=by simp[h3]
     subst h1 h2
     simp(disch:=omega)only[go_sem,seval,wqq,da,db,ft,nd,h3,zam,zad]
   ·have h2:(ey=0)=False:=by simp[h2]
    subst h1
    simp(disch:=omega)only[go_sem,seval,wqq,da,db,ft,nd,h2,zam,zad]
  ·have h1:(ex=0)=False:=by simp[h1]
   simp(disch:=omega)only[go_sem,seval,wqq,da,db,ft,nd,h1,zam,zad]
def adX (a b:FQ):Int:=a.p.v*(b.q.v/gI a.q.v b.q.v)
def adY (a b:FQ):Int:=b.p.v*(a.q.v/gI a.q.v b.q.v)
def adD (a b:FQ):Int:=a.q.v/gI a.q.v b.q.v*b.q.v
def adOk (a b:FQ):Prop:=inR (adX a b).natAbs∧inR (adY a b).natAbs∧inR (adX a b+adY a b).natAbs∧inR (adD a b).natAbs
theorem zlf (a b:FQ):adD a b≠0:=by
 have ha:=a.q1
 have hb:=b.q1
 have h1:a.q.v/gI a.q.v b.q.v*gI a.q.v b.q.v=a.q.v:=Int.ediv_mul_cancel (zcs _ _)
 have h2:a.q.v/gI a.q.v b.q.v≠0:=fun q=>by rw[q] at h1;omega
 exact Int.mul_ne_zero h2 (by omega)
theorem zfq {z:Int} (h:inR z.natAbs):(clip z).v=z∧lerr z=0:=⟨za0 ((zaB _).2 h),zaC ((zaB _).2 h)⟩
theorem zhr {z:Int} (h:lerr z=0):inR z.natAbs:=by
 by_cases q:wlen z.natAbs≤512
 ·exact(zaB _).1 q
 ·rw[zeO q] at h;cases h
theorem zgR (a b:FQ):(adOk a b→∃f:FQ,f.p.v=lowP (adX a b+adY a b) (adD a b)∧f.q.v=lowQ (adX a b+adY a b) (adD a b)∧pf E0 9 [fqP a,fqP b]=some (.tu [fqP f,.i .i64 0])) ∧
  (¬adOk a b→pf E0 9 [fqP a,fqP b]=some (.tu [fqP fq0,.i .i64 4])):=by
 have hg:=zhy a.q b.q
 have gv:=zmw a.q b.q
 have gn:(a.q.gcd b.q).v≠0:=by rw[gv];exact zfl (by have:=b.q1;omega)
 obtain⟨s,hs,fs⟩:=zde b.q (a.q.gcd b.q) gn
 obtain⟨t,ht,ft⟩:=zde a.q (a.q.gcd b.q) gn
 rw[gv] at hs ht
 have nx:=zcM a.p s
 have ny:=zcM b.p t
 have nd:=zcM t b.q
 have eX:a.p.v*s.v=adX a b:=by rw[hs];rfl
 have eY:b.p.v*t.v=adY a b:=by rw[ht];rfl
 have eD:t.v*b.q.v=adD a b:=by rw[ht];rfl
 rw[eX] at nx
 rw[eY] at ny
 rw[eD] at nd
 have ns:=zhx (clip (adX a b)) (clip (adY a b))
 constructor
 ·rintro⟨r1,r2,r3,r4⟩
  obtain⟨c1,l1⟩:=zfq r1
  obtain⟨c2,l2⟩:=zfq r2
  obtain⟨c3,l3⟩:=zfq r3
  obtain⟨c4,l4⟩:=zfq r4
  rw[c1,c2] at ns
  obtain⟨f,h1,h2,fm⟩:=zfx (clip (adX a b+adY a b)) (clip (adD a b)) (by rw[c4];exact zlf a b)
  rw[c3,c4] at h1 h2
  exact⟨f,h1,h2,ziY a b hg fs ft nx ny ns nd f 0 (.inl ⟨l1,l2,l3,l4,fm⟩)⟩
 ·intro hn
  refine ziY a b hg fs ft nx ny ns nd fq0 4 (.inr ⟨fun ⟨l1,l2,l3,l4⟩=>hn ?_,rfl,rfl⟩)
  have r1:=zhr l1
  have r2:=zhr l2
  rw[(zfq r1).1,(zfq r2).1] at l3
  exact⟨r1,r2,zhr l3,zhr l4⟩
end Go.Eng
namespace Go.Eng
def FQ.neg (f:FQ):FQ:=⟨f.p.neg,f.q,f.q1,by show Nat.gcd (-f.p.v).natAbs f.q.v.natAbs=1;rw[Int.natAbs_neg];exact f.cop⟩
theorem zpd (a b:FQ):pf E0 81 [fqP a,fqP b]=pf E0 9 [fqP a,fqP b.neg]:=by
 have key:∀r:PV,pf E0 9 [fqP a,fqP b.neg]=some r→(∃f e,r=.tu [fqP f,.i .i64 e])→pf E0 81 [fqP a,fqP b]=some r:=by
  rintro r hr ⟨f,e,rfl⟩
  refine zaa (xf:=zxs) rfl (by simp[zxs]) ?_
  simp only[zxs]
  have n1:=zdN b.p
  have hb:fqP b.neg=.ag [.b (decide (b.p.neg.v<0)),D b.p.neg.v.natAbs,.b (decide (b.l.v<0)),D b.l.v.natAbs]:=rfl
  rw[hb] at hr
  generalize b.p.neg=m at *
  simp(disch:=omega)only[go_sem,seval,wqq]
  refine zbf [2,10] rfl ?_ ?_
  ·simp(disch:=omega)only[go_sem,seval,wqq,n1,hr,zam,zad]
   exact⟨_,rfl,rfl⟩
  simp(disch:=omega)only[go_sem,seval,wqq,n1,hr,zam,zad]
 by_cases h:adOk a b.neg
 ·obtain⟨f,_,_,h1⟩:=(zgR a b.neg).1 h
  rw[h1];exact key _ h1 ⟨_,_,rfl⟩
 ·have h1:=(zgR a b.neg).2 h
  rw[h1];exact key _ h1 ⟨_,_,rfl⟩
theorem zi4 (a:FQ):pf E0 67 [fqP a]=some (.i .i64 (cmpI a.p.v 0)):=by
 refine zaa (xf:=zxe) rfl (by simp[zxe]) ?_
 simp only[zxe]
 simp(disch:=omega)only[go_sem,seval,wqq]
theorem zi1 (a b:FQ) {g h u v w z cp cq:WI} {ep eq:Int} (f:FQ) (e:Int) (hg:pf E0 18 [wiP a.p,wiP b.q]=some (wiP g)) (hh:pf E0 18 [wiP b.p,wiP a.q]=some (wiP h))
  (fu:pf E0 21 [wiP a.p,wiP g]=some (wiP u)) (fv:pf E0 21 [wiP b.p,wiP h]=some (wiP v)) (n1:pf E0 20 [.lst [wiP u,wiP v]]=some (.tu [wiP cp,.i .i64 ep]))
  (fw:pf E0 21 [wiP a.q,wiP h]=some (wiP w)) (fz':pf E0 21 [wiP b.q,wiP g]=some (wiP z)) (n2:pf E0 20 [.lst [wiP w,wiP z]]=some (.tu [wiP cq,.i .i64 eq]))
  (fl:pf E0 22 [wiP cp,wiP cq,.i .i64 ep,.i .i64 eq]=some (.tu [fqP f,.i .i64 e])):pf E0 8 [fqP a,fqP b]=some (.tu [fqP f,.i .i64 e]):=by
 have da:=zbZ a
 have db:=zbZ b
 refine zaa (xf:=zxG) rfl (by simp[zxG]) ?_
 simp only[zxG]
 simp(disch:=omega)only[go_sem,seval,wqq]
 refine zbf [12,17,2] rfl ?_ ?_
 ·simp(disch:=omega)only[go_sem,seval,wqq,da,db,hg,hh]
  exact⟨_,rfl,rfl⟩
 simp(disch:=omega)only[go_sem,seval,wqq,da,db,hg,hh]
 refine zbf [27,7] rfl ?_ ?_
 ·simp(disch:=omega)only[go_sem,seval,wqq,fu,fv,n1,zam,zad]
  exact⟨_,rfl,rfl⟩
 simp(disch:=omega)only[go_sem,seval,wqq,fu,fv,n1,zam,zad]
 refine zaH [7,3,6] rfl (by simp only[go_sem,seval]) ?_
 simp(disch:=omega)only[go_sem,seval,wqq,da,db,fw,fz',n2,fl,zam,zad]
end Go.Eng
namespace Go.Eng
theorem zh5 {p s:Int} (hs:s≠0):Nat.Coprime (p/gI p s).natAbs (s/gI p s).natAbs:=by
 have g:=zdH (p:=p) hs
 have e1:(p/gI p s).natAbs*(gI p s).natAbs=p.natAbs:=by rw[←Int.natAbs_mul,Int.ediv_mul_cancel (zcs p s)]
 have e2:(s/gI p s).natAbs*(gI p s).natAbs=s.natAbs:=by rw[←Int.natAbs_mul,Int.ediv_mul_cancel (zcY p s)]
 have e3:(gI p s).natAbs=Nat.gcd p.natAbs s.natAbs:=Int.natAbs_natCast _
 have e4:=Nat.gcd_mul_right (p/gI p s).natAbs (gI p s).natAbs (s/gI p s).natAbs
 rw[e1,e2,←e3] at e4
 have:0<(gI p s).natAbs:=by omega
 exact Nat.eq_of_mul_eq_mul_right this (by rw[Nat.one_mul];exact e4.symm)
theorem zmR {p q r s:Int} (hq:0<q) (hs:0<s) (c1:Nat.gcd p.natAbs q.natAbs=1) (c2:Nat.gcd r.natAbs s.natAbs=1) :
  p/gI p s*(r/gI r q)=lowP (p*r) (q*s)∧q/gI r q*(s/gI p s)=lowQ (p*r) (q*s)∧0<q/gI r q*(s/gI p s)∧Nat.gcd (p/gI p s*(r/gI r q)).natAbs (q/gI r q*(s/gI p s)).natAbs=1:=by
 have g1:=zdH (p:=p) (q:=s) (by omega)
 have g2:=zdH (p:=r) (q:=q) (by omega)
 have k1:=zh5 (p:=p) (s:=s) (by omega)
 have k2:=zh5 (p:=r) (s:=q) (by omega)
 have a1:p/gI p s*gI p s=p:=Int.ediv_mul_cancel (zcs p s)
 have a2:s/gI p s*gI p s=s:=Int.ediv_mul_cancel (zcY p s)
 have a3:r/gI r q*gI r q=r:=Int.ediv_mul_cancel (zcs r q)
 have a4:q/gI r q*gI r q=q:=Int.ediv_mul_cancel (zcY r q)
 generalize gI p s=g at *
 generalize gI r q=h at *
 generalize p/g=u at *
 generalize s/g=z at *
 generalize r/h=v at *
 generalize q/h=w at *
 have z0:0<z:=Int.pos_of_mul_pos_left (by rw[a2];exact hs) g1
 have w0:0<w:=Int.pos_of_mul_pos_left (by rw[a4];exact hq) g2
 have du:u.natAbs∣p.natAbs:=Int.natAbs_dvd_natAbs.2 ⟨g,a1.symm⟩
 have dw:w.natAbs∣q.natAbs:=Int.natAbs_dvd_natAbs.2 ⟨h,a4.symm⟩
 have dv:v.natAbs∣r.natAbs:=Int.natAbs_dvd_natAbs.2 ⟨h,a3.symm⟩
 have dz:z.natAbs∣s.natAbs:=Int.natAbs_dvd_natAbs.2 ⟨g,a2.symm⟩
 have k3:Nat.Coprime u.natAbs w.natAbs:=Nat.Coprime.coprime_dvd_left du (Nat.Coprime.coprime_dvd_right dw c1)
 have k4:Nat.Coprime v.natAbs z.natAbs:=Nat.Coprime.coprime_dvd_left dv (Nat.Coprime.coprime_dvd_right dz c2)
 have hc:Nat.gcd (u*v).natAbs (w*z).natAbs=1:=by
  rw[Int.natAbs_mul,Int.natAbs_mul]
  exact Nat.Coprime.mul_left (Nat.Coprime.mul_right k3 k1) (Nat.Coprime.mul_right k2 k4)
 have hp:0<w*z:=Int.mul_pos w0 z0
 have hx:q*s≠0:=Int.mul_ne_zero (by omega) (by omega)
 have cr:=zb9 (p:=p*r) hx
 obtain⟨e1,e2⟩:=zgG (p:=u*v) (q:=w*z) hp (zcZ hx) hc (zdI hx) (by
  apply Int.eq_of_mul_eq_mul_right (a:=q*s) hx
  have:u*v*(q*s)=p*r*(w*z):=by rw[←a1,←a2,←a3,←a4];grind
  calc u*v*lowQ (p*r) (q*s)*(q*s)=u*v*(q*s)*lowQ (p*r) (q*s):=by grind
   _=p*r*(w*z)*lowQ (p*r) (q*s):=by rw[this]
   _=p*r*lowQ (p*r) (q*s)*(w*z):=by grind
   _=lowP (p*r) (q*s)*(q*s)*(w*z):=by rw[cr]
   _=lowP (p*r) (q*s)*(w*z)*(q*s):=by grind)
 exact⟨e1,e2,hp,hc⟩
def muP (a b:FQ):Int:=lowP (a.p.v*b.p.v) (a.q.v*b.q.v)
def muQ (a b:FQ):Int:=lowQ (a.p.v*b.p.v) (a.q.v*b.q.v)
theorem zi0 (a b:FQ):(inR (muP a b).natAbs∧inR (muQ a b).natAbs→∃f:FQ,f.p.v=muP a b∧f.q.v=muQ a b∧pf E0 8 [fqP a,fqP b]=some (.tu [fqP f,.i .i64 0])) ∧
  (¬(inR (muP a b).natAbs∧inR (muQ a b).natAbs)→pf E0 8 [fqP a,fqP b]=some (.tu [fqP fq0,.i .i64 4])):=by
 have qa:=a.q1
 have qb:=b.q1
 obtain⟨m1,m2,m3,m4⟩:=zmR (p:=a.p.v) (q:=a.q.v) (r:=b.p.v) (s:=b.q.v) (by omega) (by omega) a.cop b.cop
 have hg:=zhy a.p b.q
 have hh:=zhy b.p a.q
 have gv:=zmw a.p b.q
 have hv:=zmw b.p a.q
 have gn:(a.p.gcd b.q).v≠0:=by rw[gv];exact zfl (by omega)
 have hn:(b.p.gcd a.q).v≠0:=by rw[hv];exact zfl (by omega)
 obtain⟨u,eu,fu⟩:=zde a.p _ gn
 obtain⟨v,ev,fv⟩:=zde b.p _ hn
 obtain⟨w,ew,fw⟩:=zde a.q _ hn
 obtain⟨z,ez,fz'⟩:=zde b.q _ gn
 rw[gv] at eu ez
 rw[hv] at ev ew
 have n1:=zcM u v
 have n2:=zcM w z
 have e1:u.v*v.v=muP a b:=by rw[eu,ev];exact m1
 have e2:w.v*z.v=muQ a b:=by rw[ew,ez];exact m2
 rw[m1,m2] at m4
 rw[m2] at m3
 have m3:0<muQ a b:=m3
 have m4:Nat.gcd (muP a b).natAbs (muQ a b).natAbs=1:=m4
 rw[e1] at n1
 rw[e2] at n2
 constructor
 ·rintro⟨r1,r2⟩
  obtain⟨c1,l1⟩:=zfq r1
  obtain⟨c2,l2⟩:=zfq r2
  have fl:=zgT (clip (muP a b)) (clip (muQ a b)) (by rw[c2];omega) (by rw[c1,c2];exact m4)
  rw[l1] at n1
  rw[l2] at n2
  exact⟨⟨clip (muP a b),clip (muQ a b),by rw[c2];omega,by rw[c1,c2];exact m4⟩,c1,c2,zi1 a b _ 0 hg hh fu fv n1 fw fz' n2 fl⟩
 ·intro hno
  refine zi1 a b fq0 4 hg hh fu fv n1 fw fz' n2 (zi8 _ _ ?_)
  by_cases l1:lerr (muP a b)=0
  ·right
   intro l2
   exact hno ⟨zhr l1,zhr l2⟩
  ·exact .inl l1
end Go.Eng
namespace Go.Eng
theorem znh (a b:FQ) (h:b.p.v=0):pf E0 65 [fqP a,fqP b]=some (.tu [fqP fq0,.i .i64 1]):=by
 have db:=zbZ b
 have mk:=ziQ b.q b.p h
 refine zaa (xf:=zwv) rfl (by simp[zwv]) ?_
 simp only[zwv]
 rw[zmu] at mk ⊢
 simp(disch:=omega)only[go_sem,seval,wqq]
 refine zbf [11] rfl ?_ ?_
 ·simp(disch:=omega)only[go_sem,seval,wqq,db,mk]
  exact⟨_,rfl,rfl⟩
 simp(disch:=omega)only[go_sem,seval,wqq,db,mk]
theorem ziZ (a b f r:FQ) {e:Int} (h:pf E0 24 [wiP b.q,wiP b.p]=some (.tu [fqP f,.i .i64 0])) (hr:pf E0 8 [fqP a,fqP f]=some (.tu [fqP r,.i .i64 e])):pf E0 65 [fqP a,fqP b]=some (.tu [fqP r,.i .i64 e]):=by
 have db:=zbZ b
 refine zaa (xf:=zwv) rfl (by simp[zwv]) ?_
 simp only[zwv]
 simp(disch:=omega)only[go_sem,seval,wqq]
 refine zbf [11] rfl ?_ ?_
 ·simp(disch:=omega)only[go_sem,seval,wqq,db,h]
  exact⟨_,rfl,rfl⟩
 simp(disch:=omega)only[go_sem,seval,wqq,db,h,hr]
theorem zmi {p q r s:Int} (hr:r≠0) (hs:0<s) (hq:0<q):lowP (p*lowP s r) (q*lowQ s r)=lowP (p*s) (q*r)∧lowQ (p*lowP s r) (q*lowQ s r)=lowQ (p*s) (q*r):=by
 have h1:=zcZ (p:=s) hr
 refine zmN (Int.mul_ne_zero (by omega) (by omega)) (Int.mul_ne_zero (by omega) hr) ?_
 have h2:=zb9 (p:=s) hr
 calc p*lowP s r*(q*r)=p*q*(lowP s r*r):=by grind
  _=p*q*(s*lowQ s r):=by rw[h2]
  _=p*s*(q*lowQ s r):=by grind
def dvP (a b:FQ):Int:=lowP (a.p.v*b.q.v) (a.q.v*b.p.v)
def dvQ (a b:FQ):Int:=lowQ (a.p.v*b.q.v) (a.q.v*b.p.v)
theorem zlH (a b:FQ) (h:b.p.v≠0):(inR (dvP a b).natAbs∧inR (dvQ a b).natAbs→∃f:FQ,f.p.v=dvP a b∧f.q.v=dvQ a b∧pf E0 65 [fqP a,fqP b]=some (.tu [fqP f,.i .i64 0])) ∧
  (¬(inR (dvP a b).natAbs∧inR (dvQ a b).natAbs)→pf E0 65 [fqP a,fqP b]=some (.tu [fqP fq0,.i .i64 4])):=by
 have qa:=a.q1
 have qb:=b.q1
 obtain⟨f,f1,f2,fm⟩:=zfx b.q b.p h
 obtain⟨l1,l2⟩:=zmi (p:=a.p.v) (q:=a.q.v) (r:=b.p.v) (s:=b.q.v) h (by omega) (by omega)
 have e1:muP a f=dvP a b:=by unfold muP dvP;rw[f1,f2];exact l1
 have e2:muQ a f=dvQ a b:=by unfold muQ dvQ;rw[f1,f2];exact l2
 have hm:=zi0 a f
 rw[e1,e2] at hm
 refine⟨fun hR=>?_,fun hn=>ziZ a b f fq0 fm (hm.2 hn)⟩
 obtain⟨r,r1,r2,hr⟩:=hm.1 hR
 exact⟨r,r1,r2,ziZ a b f r fm hr⟩
end Go.Eng
namespace Go.Eng
noncomputable def ftx (p q:Int):List UInt8:=if q=1 then decI p else decI p++[47]++decI q
theorem zcf (x:WI):(decI x.v).length≤1000000:=by
 have h:=zeL ((zaB _).1 x.lim)
 have h1:(dec x.v.natAbs).length≤4956+1:=by
  unfold dec;split
  ·simp
  ·rw[zbw];omega
 unfold decI;split<;>(try simp only[List.length_cons])<;>omega
theorem zdP (f:FQ):pf E0 16 [fqP f]=some (.s (ftx f.p.v f.q.v)):=by
 have df:=zbZ f
 have s1:=zo7 f.p
 have s2:=zo7 f.q
 have sg:=zbY f.l
 have l1:=zcf f.p
 have l2:=zcf f.q
 have hl:f.l.v=f.q.v-1:=rfl
 have q1:=f.q1
 refine zaa (xf:=zvR) rfl (by simp[zvR]) ?_
 simp only[zvR]
 unfold ftx
 by_cases h:f.q.v=1
 ·rw[if_pos h]
  have sc:(cmpI f.l.v 0=0)=True:=by rw[hl,h];simp[cmpI]
  simp(disch:=omega)only[go_sem,seval,wqq,sg,sc,s1]
 ·rw[if_neg h]
  have sc:(cmpI f.l.v 0=0)=False:=by
   have:cmpI f.l.v 0=1:=by unfold cmpI;rw[if_neg (by omega),if_pos (by omega)]
   rw[this];simp
  have a1:binP .add (.s (decI f.p.v)) (.s [47])=some (.s (decI f.p.v++[47])):=zaG _ _ (by simp only[List.length_cons,List.length_nil];omega)
  have a2:binP .add (.s (decI f.p.v++[47])) (.s (decI f.q.v))=some (.s (decI f.p.v++[47]++decI f.q.v)):=zaG _ _ (by simp only[List.length_append,List.length_cons,List.length_nil];omega)
  simp(disch:=omega)only[go_sem,seval,wqq,sg,sc]
  refine zaH [1] rfl (by simp only[go_sem,seval]) ?_
  simp(disch:=omega)only[go_sem,seval,wqq,df,s1,s2,a1,a2]
end Go.Eng
namespace Go.Eng
noncomputable def rfP (p q:Int):PV:=.ag [.b (decide (p<0)),T p.natAbs,.b (decide (q<0)),T q.natAbs]
@[go_sem] theorem ztC (M:PM) (d:Nat) (p q:Int):fz M (d+1+1) (rfP p q)=some (rfP p q,[]):=_root_.id rfl
@[go_sem] theorem zn7 (p q:Int):(rfP p q).cells=[.b (decide (p<0)),T p.natAbs,.b (decide (q<0)),T q.natAbs]:=_root_.id rfl
@[go_sem] theorem zq7 (p q:Int):PV.ag [.b (decide (p<0)),T p.natAbs,.b (decide (q<0)),T q.natAbs]=rfP p q:=_root_.id rfl
theorem zpk {n:Int} (h:Fits64 n):pf E0 185 [.i .i64 n]=some (rfP n 1):=by
 have h1:=zdi n h
 have h2:=zdi 1 (by decide)
 obtain⟨o,ho⟩:∃o:Int,nP o=nP 1∧rfP n o=rfP n 1:=⟨1,rfl,rfl⟩
 rw[←ho.1] at h2
 rw[←ho.2]
 clear ho
 refine zaa (xf:=zx2) rfl (by simp[zx2]) ?_
 simp only[zx2]
 simp(disch:=omega)only[go_sem,seval,wqq,h1,h2,zam,zad]
theorem zjc (p:Int):pf E0 182 [nP p,nP 0]=some (.tu [rfP 0 1,.i .i64 1]):=by
 have h1:=zpk (n:=0) (by decide)
 obtain⟨o,ho⟩:∃o:Int,o=0:=⟨0,rfl⟩
 obtain⟨r,hr⟩:∃r:Int,r=1:=⟨1,rfl⟩
 have t0:((tlen o.natAbs:Int)=0)=True:=by rw[ho,Int.natAbs_zero,zaN];simp
 have e1:nP 0=nP o:=by rw[ho]
 have e2:rfP 0 1=rfP o r:=by rw[ho,hr]
 rw[e2] at h1
 rw[e1,e2]
 clear e1 e2 ho hr
 refine zaa (xf:=zwq) rfl (by simp[zwq]) ?_
 simp only[zwq]
 simp(disch:=omega)only[go_sem,seval,wqq,t0,h1]
theorem zeU (p q:Int) (h:q≠0) (lp:tlen p.natAbs<90000) (lq:tlen q.natAbs<90000):pf E0 182 [nP p,nP q]=some (.tu [rfP (lowP p q) (lowQ p q),.i .i64 0]):=by
 have t0:((tlen q.natAbs:Int)=0)=False:=by have:=zaR (v:=q.natAbs) (by omega);simp;omega
 refine zaa (xf:=zwq) rfl (by simp[zwq]) ?_
 simp only[zwq]
 by_cases hn:q<0
 ·have sn:decide (q<0)=true:=by simpa using hn
  have n1:=zdR p (by omega)
  have n2:=zdR q (by omega)
  have f1:PV.ag [PV.b true,T q.natAbs]=nP q:=by rw[←sn];rfl
  have f2:PV.ag [PV.b true,Tw (tlen q.natAbs) q.natAbs]=nP q:=by rw[←sn];rfl
  obtain⟨l1,l2⟩:=zef p q hn
  have gN:=zfl (p := -p) (q := -q) (by omega)
  have gl:tlen (gI (-p) (-q)).natAbs<90000:=by
   rw[zls]
   have:(gI p q).natAbs≤q.natAbs:=by
    unfold gI;rw[Int.natAbs_natCast];exact Nat.gcd_le_right _ (by omega)
   have:=zaw this
   omega
  have g:=zlO (-p) (-q) (by rw[Int.natAbs_neg];omega) (by rw[Int.natAbs_neg];omega)
  have d1:=zen gN (x := -p) (by rw[Int.natAbs_neg];omega) (by omega)
  have d2:=zen gN (x := -q) (by rw[Int.natAbs_neg];omega) (by omega)
  rw[←l1,←l2]
  have e1:lowP (-p) (-q) = -p/gI (-p) (-q):=by unfold lowP;rw[if_neg (by omega)]
  have e2:lowQ (-p) (-q) = -q/gI (-p) (-q):=by unfold lowQ;rw[if_neg (by omega)]
  rw[e1,e2]
  have hg:nP (((Nat.gcd (-p).natAbs (-q).natAbs:Nat):Int))=nP (gI (-p) (-q)):=rfl
  rw[hg] at g
  generalize gI (-p) (-q)=G at *
  generalize-p=P at *
  generalize-q=Q at *
  simp(disch:=omega)only[go_sem,seval,wqq,t0,sn,f1,f2,n1,n2,g,d1,d2,zam,zad]
 ·have sn:decide (q<0)=false:=by simpa using hn
  have f1:PV.ag [PV.b false,T q.natAbs]=nP q:=by rw[←sn];rfl
  have f2:PV.ag [PV.b false,Tw (tlen q.natAbs) q.natAbs]=nP q:=by rw[←sn];rfl
  have gN:=zfl (p:=p) (q:=q) h
  have gl:tlen (gI p q).natAbs<90000:=by
   have:(gI p q).natAbs≤q.natAbs:=by
    unfold gI;rw[Int.natAbs_natCast];exact Nat.gcd_le_right _ (by omega)
   have:=zaw this
   omega
  have g:=zlO p q (by omega) (by omega)
  have d1:=zen gN (x:=p) (by omega) (by omega)
  have d2:=zen gN (x:=q) (by omega) (by omega)
  have e1:lowP p q=p/gI p q:=by unfold lowP;rw[if_neg hn]
  have e2:lowQ p q=q/gI p q:=by unfold lowQ;rw[if_neg hn]
  rw[e1,e2]
  have hg:nP (((Nat.gcd p.natAbs q.natAbs:Nat):Int))=nP (gI p q):=rfl
  rw[hg] at g
  generalize gI p q=G at *
  simp(disch:=omega)only[go_sem,seval,wqq,t0,sn,f1,f2,g,d1,d2,zam,zad]
end Go.Eng

namespace Go.Eng
theorem zeb (z:Int):(decI z).length≤4*tlen z.natAbs+2:=by
 have:dlen z.natAbs≤4*tlen z.natAbs:=by
  rw[zan,Nat.pow_mul];exact zaj _
 have h1:(dec z.natAbs).length≤4*tlen z.natAbs+1:=by
  unfold dec;split
  ·simp
  ·rw[zbw];omega
 unfold decI;split<;>(try simp only[List.length_cons])<;>omega
theorem zkM (p q:Int) (lp:tlen p.natAbs<20000) (lq:tlen q.natAbs<20000):pf E0 196 [rfP p q]=some (.s (ftx p q)):=by
 have t1:=zlF (z:=p) (by omega)
 have t2:=zlF (z:=q) (by omega)
 have l1:=zeb p
 have l2:=zeb q
 have e1:decI 1=[49]:=by
  unfold decI;rw[if_neg (by decide)]
  show dec 1=[49]
  rw[zeA (v:=1) (n:=0) (by decide) (by decide)];rfl
 refine zaa (xf:=zxK) rfl (by simp[zxK]) ?_
 simp only[zxK]
 unfold ftx
 by_cases h:q=1
 ·rw[if_pos h]
  have t2':pf E0 107 [nP q]=some (.s [49]):=by rw[t2,h,e1]
  simp(disch:=omega)only[go_sem,seval,wqq,t2',t1]
 ·rw[if_neg h]
  have hne:(decI q=[49])=False:=by
   simp only[eq_iff_iff,iff_false]
   intro e;rw[←e1] at e;exact h (zj3 e)
  have a1:binP .add (.s (decI p)) (.s [47])=some (.s (decI p++[47])):=zaG _ _ (by simp only[List.length_cons,List.length_nil];omega)
  have a2:binP .add (.s (decI p++[47])) (.s (decI q))=some (.s (decI p++[47]++decI q)):=zaG _ _ (by simp only[List.length_append,List.length_cons,List.length_nil];omega)
  simp(disch:=omega)only[go_sem,seval,wqq,t2,t1,hne,a1,a2]
theorem zf9 (p q r s:Int) (lp:tlen p.natAbs<20000) (lq:tlen q.natAbs<20000) (lr:tlen r.natAbs<20000) (ls:tlen s.natAbs<20000):pf E0 200 [rfP p q,rfP r s]=some (.i .i64 (cmpI (p*s) (r*q))):=by
 have t1:=zce p s
 have t2:=zce r q
 have m1:=zdQ p s (by omega) (by omega)
 have m2:=zdQ r q (by omega) (by omega)
 have c:=za6 (p*s) (r*q) (by omega) (by omega)
 generalize p*s=x at *
 generalize r*q=y at *
 refine zaa (xf:=zwL) rfl (by simp[zwL]) ?_
 simp only[zwL]
 simp(disch:=omega)only[go_sem,seval,wqq]
 refine zbf [10,12] rfl ?_ ?_
 ·simp(disch:=omega)only[go_sem,seval,wqq,m1,m2,c]
  exact⟨_,rfl,rfl⟩
 simp(disch:=omega)only[go_sem,seval,wqq,m1,m2,c]
end Go.Eng
namespace Go.Eng
end Go.Eng
namespace Go.Eng
theorem zlv {z:Int} (h:tlen z.natAbs<1230):inR z.natAbs:=(zkg _).1 (.inl h)
theorem zoC {z:Int} (h:inR z.natAbs):wlen z.natAbs≤512:=(zaB _).2 h
end Go.Eng
namespace Go.Eng
theorem zhi {x y:WI} (h:x.v=y.v):x=y:=by cases x;cases y;cases h;rfl
theorem zot {f g:FQ} (h1:f.p.v=g.p.v) (h2:f.q.v=g.q.v):f=g:=by
 have e1:=zhi h1
 have e2:=zhi h2
 cases f;cases g
 simp only at e1 e2
 subst e1 e2;rfl
def FQ.is (f:FQ) (n d:Int):Prop:=f.p.v*d=n*f.q.v
theorem zfr {f:FQ} {n d:Int} (h:d≠0) (h1:f.p.v=lowP n d) (h2:f.q.v=lowQ n d):f.is n d:=by
 unfold FQ.is;rw[h1,h2];exact zb9 h
theorem ziq (f:FQ):f.is f.p.v f.q.v:=rfl
theorem zgC {f:FQ} {n d:Int} (h:f.is n d) (k:Int):f.is (n*k) (d*k):=by
 unfold FQ.is at *
 rw[←Int.mul_assoc,h];grind
theorem zvl (n:Nat):(10:Nat)^(4*n)=10000^n:=by rw[Nat.pow_mul]
theorem zdY (x:WI):tlen x.v.natAbs≤1239:=by
 have h:=zeL ((zaB _).1 x.lim)
 obtain⟨n,hn⟩:∃n:Nat,n=1239:=⟨_,rfl⟩
 have h:dlen x.v.natAbs≤4*n:=by omega
 rw[zan,zvl] at h
 rw[←hn,za2]
 exact h
def fsz (n:Nat) (f:FQ):Prop:=tlen f.p.v.natAbs≤n∧tlen f.q.v.natAbs≤n
noncomputable def rfQ (f:FQ):PV:=rfP f.p.v f.q.v
theorem zjx {f:FQ} {n d:Int} (h1:f.p.v=n) (h2:f.q.v=d):rfP n d=rfQ f:=by rw[←h1,←h2];rfl
theorem zj2 {a b c d:Int} (h:a-b=c-d):cmpI a b=cmpI c d:=by
 unfold cmpI
 have e1:(a<b)=(c<d):=by simp only[eq_iff_iff];omega
 have e2:(b<a)=(d<c):=by simp only[eq_iff_iff];omega
 simp only[e1,e2]
theorem zfd (a b:Int):cmpI b a = -cmpI a b:=by
 unfold cmpI
 rcases Int.lt_trichotomy a b with h|h|h
 ·rw[if_neg (by omega),if_pos h,if_pos h];rfl
 ·subst h;rw[if_neg (by omega),if_neg (by omega)];rfl
 ·rw[if_pos h,if_neg (by omega),if_pos h]
theorem zea {a b k:Int} (hk:0<k):cmpI (a*k) (b*k)=cmpI a b:=by
 unfold cmpI
 rcases Int.lt_trichotomy a b with h|h|h
 ·have:=Int.mul_lt_mul_of_pos_right h hk
  rw[if_pos this,if_pos h]
 ·subst h;rw[if_neg (by omega),if_neg (by omega),if_neg (by omega),if_neg (by omega)]
 ·have:=Int.mul_lt_mul_of_pos_right h hk
  rw[if_neg (by omega),if_pos this,if_neg (by omega),if_pos h]
theorem zhS {p q r s:Int} (hq:0<q) (hs:0<s) (h:p/q≠r/s):cmpI (p*s) (r*q)=cmpI (p/q) (r/s):=by
 have key:∀{p q r s:Int},0<q→0<s→p/q<r/s→p*s<r*q:=fun {p q r s} hq hs h=>by
  have d1:=Int.mul_ediv_add_emod p q
  have d2:=Int.mul_ediv_add_emod r s
  have m1:=Int.emod_lt_of_pos p hq
  have m2:=Int.emod_nonneg r (show s≠0 by omega)
  have h1:p<q*(r/s):=by
   have:q*(p/q+1)≤q*(r/s):=Int.mul_le_mul_of_nonneg_left (by omega) (by omega)
   rw[Int.mul_add] at this
   omega
  have h2:p*s<q*(r/s)*s:=Int.mul_lt_mul_of_pos_right h1 hs
  have h3:q*(r/s)*s≤r*q:=by
   have:s*(r/s)*q≤r*q:=Int.mul_le_mul_of_nonneg_right (by omega) (by omega)
   have e:q*(r/s)*s=s*(r/s)*q:=by grind
   omega
  omega
 unfold cmpI
 rcases Int.lt_trichotomy (p/q) (r/s) with g|g|g
 ·rw[if_pos (key hq hs g),if_pos g]
 ·exact(h g).elim
 ·have:=key hs hq g
  rw[if_neg (by omega),if_pos this,if_neg (by omega),if_pos g]
theorem zhT {p q r s:Int} (h:p/q=r/s):cmpI (p*s) (r*q)=cmpI (p%q*s) (r%s*q):=by
 refine zj2 ?_
 have d1:=Int.mul_ediv_add_emod p q
 have d2:=Int.mul_ediv_add_emod r s
 rw[h] at d1
 have e1:p*s=(q*(r/s)+p%q)*s:=by rw[d1]
 have e2:r*q=(s*(r/s)+r%s)*q:=by rw[d2]
 rw[e1,e2]
 grind
theorem zhU {x y q s:Int} (hx:0≤x) (hy:0≤y) (hq:0<q) (hs:0<s) (h:x=0∨y=0):cmpI (x*s) (y*q)=cmpI x 0-cmpI y 0:=by
 rcases h with h|h
 ·subst h
  have:=zea (a:=0) (b:=y) hq
  rw[Int.zero_mul] at this
  rw[Int.zero_mul,this]
  have e:cmpI 0 0=0:=rfl
  rw[e,zfd 0 y];omega
 ·subst h
  have:=zea (a:=x) (b:=0) hs
  rw[Int.zero_mul] at this
  have e:cmpI 0 0=0:=rfl
  rw[Int.zero_mul,this,e];omega
theorem zhV (x y q s:Int):cmpI (x*s) (y*q) = -cmpI (q*y) (s*x):=by
 rw[Int.mul_comm x s,Int.mul_comm y q];exact zfd _ _
def cmpF (a b:FQ):Int:=cmpI (a.p.v*b.q.v) (b.p.v*a.q.v)
end Go.Eng
namespace Go.Eng
def isPR:PV→Bool
 | .p _ _=>true
 | .sl _ _ _ _ _=>true
 | .tu _=>true
 | _=>false
def slotIn3 (E:PEnv) (ops:List XOper) (L:List Nat) (c:Nat×Nat):Bool :=
 match ops[c.1]?,ops[c.2]? with
 | some a,some b =>
  match a.op.looks with
  | .t s=>a.op.cls==2&&L.contains s&&calmOp E b.op
  | _=>false
 | _,_=>false
end Go.Eng
namespace Go.Eng
def apP:PV→PV→Bool
 | .p a _,.p b _ => !(Nat.beq a b)
 | _,_=>false
def slotSt (ops:List XOper) (L R:List Nat) (c:Nat×Nat):Bool :=
 match ops[c.1]?,ops[c.2]? with
 | some a,some b =>
  match a.op,b.op with
  | .load _ _ (.t s),.store _ (.t r) _=>L.contains s&&R.contains r&&fixedX ops c.2 (.t r)
  | _,_=>false
 | _,_=>false
theorem ze8 {E:PEnv} {F:PFin} {ops:List XOper} {chk:List (Nat×Nat)} {ks:List KI} {fr:PFr} {M:PM} (L R:List Nat) (hL:chk.all (fun c=>calmC E ops c || slotIn2 E ops L c || slotSt ops L R c)=true)
  (hr:WL E ⟨(0::0::(L++R)).map XR.tmp,fun w _=>∃l,w=.tu l∧((l.drop 2).take L.length).all (fun x=>isPP x&&((l.drop 2).drop L.length).all (apP x))=true⟩ ops [] fr M) (w:WL E F ops ks fr M):WK E F (.drw ops chk) ks fr M:=by
 refine zcS (fun fr2 Ms hT=>?_) w
 have hp:∀s∈L,isPP (fr2 s)=true∧∀r∈R,apP (fr2 s) (fr2 r)=true:=by
  obtain⟨lf,q,fr3,M3,vs,e,h1,h2,l,h3,h4⟩:=hr
  simp only[Option.bind_eq_some_iff,unw] at e
  obtain⟨⟨fr4,M4⟩,e1,e2⟩:=e
  simp only[Option.some.injEq,Prod.mk.injEq] at e2
  obtain⟨_,e3,e4⟩:=e2
  rw[←e3,←e4] at h2
  obtain⟨Ms',g1,g2⟩:=zbV e1
  rw[g1] at hT
  cases hT
  have hres:∀(f:PFr) (N:PM) (l:List Nat),pRes f N (l.map XR.tmp)=some (l.map f):=fun f N l=>by
   induction l with
   | nil=>rfl
   | cons a l ih=>simp only[List.map_cons,pRes,pResOne,ih]
  rw[hres] at h2
  cases h2
  simp only[List.map_cons,packP] at h3
  cases h3
  have h5:(((L++R).map fr2).take L.length).all (fun x=>isPP x&&(((L++R).map fr2).drop L.length).all (apP x))=true:=h4
  rw[List.map_append,List.take_left' (by simp),List.drop_left' (by simp)] at h5
  simp only[List.all_eq_true,List.mem_map,Bool.and_eq_true,forall_exists_index,and_imp,forall_apply_eq_imp_iff₂] at h5
  exact h5
 rw[List.all_eq_true] at hL ⊢
 rintro⟨i,j⟩ hc
 have h1:=hL _ hc
 simp only[Bool.or_eq_true] at h1
 rcases h1 with (h1|h1)|h1
 ·exact zdj hT h1
 ·unfold slotIn2 at h1
  split at h1
  ·rename_i a b ha hb
   split at h1
   ·rename_i z k s hop
    simp only[Bool.and_eq_true] at h1
    obtain⟨c1,c2⟩:=h1
    have hs:=(hp s (List.contains_iff_mem.1 c1)).1
    cases hf:fr2 s with
    | p n o =>
     obtain⟨fri,A,B,q1,q2,q3,q4⟩:=zau hT ha
     obtain⟨frj,C,D,p1,p2,p3,p4⟩:=zau hT hb
     have p2':Ms[(i,j).2+1]?=some D:=p2
     have q2':Ms[(i,j).1+1]?=some B:=q2
     refine zcV ?_
     simp only[chkP0,ha,q1,q2,p1,p2]
     rw[if_neg (by rw[hop];simp[XO.cls])]
     rw[hop]
     show chkV ops j (.t s) C D (fr2 s)=true
     rw[hf]
     show verP (some n) C D=true
     rcases p3 with⟨_,v,p3⟩|⟨_,p3⟩
     ·cases hopb:b.op with
      | call f l =>
       rw[hopb] at p3 c2
       obtain⟨ns,rfl⟩:=zcv c2 p3
       exact zdy ns C _
      | _=>rw[hopb] at c2;simp[calmOp] at c2
     ·rw[p3];simp[verP]
    | _=>rw[hf] at hs;simp[isPP] at hs
   ·cases h1
  ·cases h1
 ·unfold slotSt at h1
  split at h1
  ·rename_i a b ha hb
   split at h1
   ·rename_i z k s n r x hop hop2
    simp only[Bool.and_eq_true] at h1
    obtain⟨⟨c1,c2⟩,c3⟩:=h1
    have hap:=(hp s (List.contains_iff_mem.1 c1)).2 r (List.contains_iff_mem.1 c2)
    obtain⟨fri,A,B,q1,q2,q3,q4⟩:=zau hT ha
    obtain⟨frj,C,D,p1,p2,p3,p4⟩:=zau hT hb
    have p2':Ms[(i,j).2+1]?=some D:=p2
    have q2':Ms[(i,j).1+1]?=some B:=q2
    have e2:fr2 r=frj r:=p4 (.t r) c3
    refine zcV ?_
    simp only[chkP0,ha,q1,q2,p1,p2]
    rw[if_neg (by rw[hop];simp[XO.cls])]
    rw[hop]
    show chkV ops j (.t s) C D (fr2 s)=true
    cases hf:fr2 s with
    | p n1 o1 =>
     cases hg:fr2 r with
     | p n2 o2 =>
      rw[hf,hg] at hap
      have hne:n1≠n2:=fun q=>by rw[q] at hap;simp[apP] at hap
      show verP (some n1) C D=true
      rcases p3 with⟨_,v,p3⟩|⟨_,p3⟩
      ·rw[hop2] at p3
       simp only[XO.pst,XO.pev] at p3
       rw[show X.pv E.glob frj (.t r)=.p n2 o2 from e2.symm.trans hg] at p3
       simp only at p3
       generalize (X.pv E.glob frj x).cells=cs at p3
       split at p3
       ·split at p3
        ·cases p3
         simp only[verP]
         rw[List.getElem?_set_ne (fun h=>hne h.symm)];simp
        ·cases p3
       ·cases p3
      ·rw[p3];simp[verP]
     | _=>rw[hf,hg] at hap;simp[apP] at hap
    | _=>rw[hf] at hap;simp[apP] at hap
   ·cases h1
  ·cases h1
end Go.Eng
namespace Go.Eng
theorem mG (G L:PM) (k:Nat):PM.blk (G++L) (G.length+k)=PM.blk L k:=by
 unfold PM.blk
 rw[List.getElem?_append_right (by omega),Nat.add_sub_cancel_left]
theorem mG0 (G L:PM):PM.blk (G++L) G.length=PM.blk L 0:=mG G L 0
theorem sG (G L:PM) (k:Nat) (v:Option PB):(G++L).set (G.length+k) v=G++L.set k v:=by
 rw[List.set_append_right _ _ (by omega),Nat.add_sub_cancel_left]
theorem sG0 (G L:PM) (v:Option PB):(G++L).set G.length v=G++L.set 0 v:=sG G L 0 v
theorem lG (G L:PM):(G++L).length=G.length+L.length:=List.length_append
theorem zez (a b:Int) : -1≤cmpI a b∧cmpI a b≤1:=by unfold cmpI;split<;>(try split)<;>omega
theorem zbi (a b:FQ):pf E0 11 [fqP a,fqP b]=some (.i .i64 (cmpF a b)):=by
 have da:=zbZ a
 have db:=zbZ b
 have qa:=a.q1
 have qb:=b.q1
 refine zaa (xf:=zwA) rfl (by simp[zwA]) ?_
 simp only[zwA]
 simp(disch:=omega)only[go_sem,seval,wqq]
 refine ze8 [16,3,20] [5,6] rfl ?_ ?_
 ·simp(disch:=omega)only[go_sem,seval,wqq,da,db]
  exact⟨_,rfl,rfl⟩
 simp(disch:=omega)only[go_sem,seval,wqq,da,db]
 refine zao zxW.eq_1 (fun(σ:(WI×WI)×(WI×WI)×Int) fr M=>1≤σ.1.2.v∧1≤σ.2.1.2.v∧(σ.2.2=1∨σ.2.2 = -1)∧σ.2.2*cmpI (σ.1.1.v*σ.2.1.2.v) (σ.2.1.1.v*σ.1.2.v)=cmpF a b ∧
  fr 5=.p 2 0∧fr 6=.p 3 0∧fr 7=.p 4 0∧fr 8=.p 5 0∧fr 9=.i .i64 σ.2.2∧∃b0 b1 v2 v3 v4 v5 G,M=b0::b1::some ⟨(wiP σ.1.1).cells,true,v2⟩::some ⟨(wiP σ.1.2).cells,true,v3⟩::some ⟨(wiP σ.2.1.1).cells,true,v4⟩::some ⟨(wiP σ.2.1.2).cells,true,v5⟩::G)
  (fun σ=>σ.1.2.v.toNat) ?_ ((a.p,a.q),(b.p,b.q),1) ⟨qa,qb,.inl rfl,Int.one_mul _,by simp only[go_sem,seval],by simp only[go_sem,seval],by simp only[go_sem,seval],by simp only[go_sem,seval],by simp only[go_sem,seval],_,_,_,_,_,_,[],rfl⟩
 rintro⟨⟨p,q⟩,⟨r,s⟩,g⟩ fr M ⟨hq,hs,hg,hc,h5,h6,h7,h8,h9,b0,b1,v2,v3,v4,v5,G,rfl⟩ ih
 simp only at hq hs hg hc h5 h6 h7 h8 h9
 have d1:=ziP p q (by omega)
 have d2:=ziP r s (by omega)
 have xv:(p.div q (by omega)).v=p.v/q.v:=rfl
 have ev:(p.mod q (by omega)).v=p.v%q.v:=rfl
 have yv:(r.div s (by omega)).v=r.v/s.v:=rfl
 have ov:(r.mod s (by omega)).v=r.v%s.v:=rfl
 have e0:=Int.emod_nonneg p.v (show q.v≠0 by omega)
 have o0:=Int.emod_nonneg r.v (show s.v≠0 by omega)
 have e1:=Int.emod_lt_of_pos p.v (show 0<q.v by omega)
 rw[←ev] at e0 e1
 rw[←ov] at o0
 have s1:=zhS (p:=p.v) (q:=q.v) (r:=r.v) (s:=s.v) (by omega) (by omega)
 have s2:=zhT (p:=p.v) (q:=q.v) (r:=r.v) (s:=s.v)
 rw[←xv,←yv] at s1
 rw[←xv,←yv,←ev,←ov] at s2
 generalize p.div q (by omega)=x at *
 generalize p.mod q (by omega)=e at *
 generalize r.div s (by omega)=y at *
 generalize r.mod s (by omega)=o at *
 have c1:=za8 x y
 have g1:=zbY e
 have g2:=zbY o
 have r1:=zez x.v y.v
 have r2:=zez e.v 0
 have r3:=zez o.v 0
 by_cases hxy:x.v=y.v
 ·have t0:(cmpI x.v y.v=0)=True:=by rw[zaP];simp[hxy]
  have hb:=s2 hxy
  by_cases hz:e.v=0∨o.v=0
  ·rw[zhU (by omega) (by omega) (by omega) (by omega) hz] at hb
   have hm:cmpF a b=g*(cmpI e.v 0-cmpI o.v 0):=by rw[←hc,hb]
   have hl : -2≤g*(cmpI e.v 0-cmpI o.v 0)∧g*(cmpI e.v 0-cmpI o.v 0)≤2:=by rcases hg with rfl|rfl<;>omega
   rw[hm]
   by_cases he:e.v=0
   ·have t1:(cmpI e.v 0=0)=True:=by rw[zaP];simp[he]
    simp(disch:=omega)only[go_sem,seval,wqq,h5,h6,h7,h8,h9,d1,d2,mG,mG0,sG,sG0,lG,lqq,c1,g1,g2,t0,t1]
    refine zaH [14] rfl (by simp only[go_sem,seval]) ?_
    simp(disch:=omega)only[go_sem,seval,wqq,h5,h6,h7,h8,h9,d1,d2,mG,mG0,sG,sG0,lG,lqq,c1,g1,g2]
   ·have t1:(cmpI e.v 0=0)=False:=by rw[zaP];simp[he]
    have t2:(cmpI o.v 0=0)=True:=by rw[zaP];simp;omega
    simp(disch:=omega)only[go_sem,seval,wqq,h5,h6,h7,h8,h9,d1,d2,mG,mG0,sG,sG0,lG,lqq,c1,g1,g2,t0,t1,t2]
    refine zaH [14] rfl (by simp only[go_sem,seval]) ?_
    simp(disch:=omega)only[go_sem,seval,wqq,h5,h6,h7,h8,h9,d1,d2,mG,mG0,sG,sG0,lG,lqq,c1,g1,g2]
  ·have t1:(cmpI e.v 0=0)=False:=by rw[zaP];simp;omega
   have t2:(cmpI o.v 0=0)=False:=by rw[zaP];simp;omega
   have n0 : -1≤g∧g≤1:=by omega
   rw[zhV e.v o.v q.v s.v] at hb
   simp(disch:=omega)only[go_sem,seval,wqq,h5,h6,h7,h8,h9,d1,d2,mG,mG0,sG,sG0,lG,lqq,c1,g1,g2,t0,t1,t2]
   refine ze8 [11,8,14] [5,6,7] rfl ?_ ?_
   ·simp(disch:=omega)only[go_sem,seval,wqq,h5,h6,h7,h8,h9,d1,d2,mG,mG0,sG,sG0,lG,lqq]
    exact⟨_,rfl,rfl⟩
   simp(disch:=omega)only[go_sem,seval,wqq,h5,h6,h7,h8,h9,d1,d2,mG,mG0,sG,sG0,lG,lqq]
   exact ih ((q,e),(s,o),0-g) _ _ (by simp only;omega) ⟨by simp only;omega,by simp only;omega,by simp only;omega,by simp only;rw[←hc,hb];grind,by simp only[go_sem,seval,h5],by simp only[go_sem,seval,h6],by simp only[go_sem,seval,h7],by simp only[go_sem,seval,h8],by simp only[go_sem,seval],_,_,_,_,_,_,_,rfl⟩
 ·have t0:(cmpI x.v y.v=0)=False:=by rw[zaP];simp[hxy]
  have hb:=s1 hxy
  have hm:cmpF a b=g*cmpI x.v y.v:=by rw[←hc,hb]
  have hl : -2≤g*cmpI x.v y.v∧g*cmpI x.v y.v≤2:=by rcases hg with rfl|rfl<;>omega
  rw[hm]
  simp(disch:=omega)only[go_sem,seval,wqq,h5,h6,h7,h8,h9,d1,d2,mG,mG0,sG,sG0,lG,lqq,c1,t0]
end Go.Eng
namespace Go.Eng
@[go_sem] theorem ztD (M:PM) (d:Nat) (f:FQ):fz M (d+1+1) (rfQ f)=some (rfQ f,[]):=_root_.id rfl
@[go_sem] theorem zn8 (f:FQ):(rfQ f).cells=[.b (decide (f.p.v<0)),T f.p.v.natAbs,.b (decide (f.q.v<0)),T f.q.v.natAbs]:=_root_.id rfl
@[go_sem] theorem zqh (f:FQ):rfP f.p.v f.q.v=rfQ f:=_root_.id rfl
def pk (xs:List Int) (i:Int):Int:=if i<0∨(xs.length:Int)≤i then 0 else xs.getD i.toNat 0
theorem zc4 {xs:List Int} (hx:Ints xs) (i:Int):Fits64 (pk xs i):=by
 unfold pk
 by_cases h:i<0∨(xs.length:Int)≤i
 ·rw[if_pos h];decide
 ·rw[if_neg h]
  have hl:i.toNat<xs.length:=by omega
  exact hx.2 _ (by simp[hl])
theorem zqe {xs:List Int} (hx:Ints xs) {i:Int} (hi:Fits64 i):pf E0 180 [ints xs,.i .i64 i]=some (.i .i64 (pk xs i)):=by
 refine zaa (xf:=zxE) rfl (by simp[zxE]) ?_
 simp only[zxE]
 obtain⟨hx1,hx2⟩:=hx
 unfold pk
 by_cases h:i<0
 ·rw[if_pos (.inl h)]
  simp(disch:=omega)only[go_sem,seval,wqq,h]
 ·by_cases h':(xs.length:Int)≤i
  ·rw[if_pos (.inr h')]
   have q1:(i≥(xs.length:Int))=True:=by simp;omega
   simp(disch:=omega)only[go_sem,seval,wqq,h,q1]
  ·rw[if_neg (by omega)]
   have q1:(i≥(xs.length:Int))=False:=by simp;omega
   obtain⟨j,rfl⟩:∃j:Nat,i=j:=⟨i.toNat,by omega⟩
   have hl:j<xs.length:=by omega
   have hg:xs[j]?=some (xs.getD j 0):=by simp[hl]
   simp(disch:=omega)only[go_sem,seval,wqq,h,q1,zfn hg,Int.toNat_natCast]
def mulN (x:Int):Nat→Int
 | 0=>x
 | n+1=>mulN x n*1000000007
theorem zdW (x:Int):∀n,tlen (mulN x n).natAbs≤tlen x.natAbs+3*n
 | 0=>Nat.le_refl _
 | n+1=>by
  have h1:=zdW x n
  have h2:=zce (mulN x n) 1000000007
  have h3:tlen (1000000007:Int).natAbs≤3:=zae (by decide)
  show tlen (mulN x n*1000000007).natAbs≤_
  omega
def numF (a b:Int):Int:=if a%7<4 then b.tmod 60 else if a%7<6 then b else mulN (b+3) ((a.tdiv 7).tmod 40).toNat
theorem zc7 (a:Int) {n:Int} (h:0<n) : -n<a.tmod n∧a.tmod n<n:=by
 have h1:=Int.tmod_lt_of_pos a h
 have h2:=Int.lt_tmod_of_pos a h
 omega
theorem zgI {b:Int} (a:Int) (hb:Fits64 b):tlen (numF a b).natAbs≤122:=by
 unfold Fits64 at hb
 have h1:=zc7 b (n:=60) (by omega)
 have h2:=zc7 (a.tdiv 7) (n:=40) (by omega)
 have h3:=zdW (b+3) ((a.tdiv 7).tmod 40).toNat
 have h4:tlen (b+3).natAbs≤5:=zae (by omega)
 unfold numF
 split
 ·exact Nat.le_trans (zpH (by omega)) (by omega)
 ·split
  ·have:tlen b.natAbs≤5:=zae (by omega)
   omega
  ·omega
theorem zeo {a b:Int} (ha:Fits64 a) (hb:Fits64 b):pf E0 179 [.i .i64 a,.i .i64 b]=some (nP (numF a b)):=by
 have hb':=hb
 unfold Fits64 at ha hb'
 have h1:=zc7 b (n:=60) (by omega)
 have h2:=zc7 (a.tdiv 7) (n:=40) (by omega)
 have h4:tlen (b+3).natAbs≤5:=zae (by omega)
 have k0:a%7=if a.tmod 7<0 then a.tmod 7+7 else a.tmod 7:=by
  have e1:=Int.mul_tdiv_add_tmod a 7
  have e2:=zc7 a (n:=7) (by omega)
  split<;>omega
 have k1:=zc7 a (n:=7) (by omega)
 have r1:=zdi (b.tmod 60) (by unfold Fits64;omega)
 have r2:=zdi b hb
 have r3:=zdi 3 (by decide)
 have r4:=zdi 1000000007 (by decide)
 have r5:=zlN b 3 (by have:tlen b.natAbs≤5:=zae (by omega);omega) (by have:tlen (3:Int).natAbs≤1:=zae (by decide);omega)
 have l3:=zdW (b+3)
 refine zaa (xf:=zwT) rfl (by simp[zwT]) ?_
 simp only[zwT]
 unfold numF
 rw[k0]
 obtain⟨m,hm⟩:∃m:Int,m=a.tmod 7:=⟨_,rfl⟩
 obtain⟨n,hn⟩:∃n:Int,n=(a.tdiv 7).tmod 40:=⟨_,rfl⟩
 rw[←hm] at k1
 rw[←hn] at h2
 simp only[←hm,←hn]
 have hm':=hm.symm
 have hn':=hn.symm
 have e7:=Int.mul_tdiv_add_tmod a 7
 obtain⟨d,hd⟩:∃d:Int,a.tdiv 7=d:=⟨_,rfl⟩
 rw[hd] at hn' e7
 rw[hm'] at e7
 have hT:tlen (1000000007:Int).natAbs≤3:=zae (by decide)
 by_cases hm0:m<0
 ·rw[if_pos hm0]
  by_cases c4:m+7<4
  ·rw[if_pos c4]
   simp(disch:=omega)only[go_sem,seval,wqq,hm',hm0,c4,r1]
  ·rw[if_neg c4]
   by_cases c6:m+7<6
   ·rw[if_pos c6]
    simp(disch:=omega)only[go_sem,seval,wqq,hm',hm0,c4,c6,r2]
   ·rw[if_neg c6]
    simp(disch:=omega)only[go_sem,seval,wqq,hm',hm0,c4,c6,r2,r3,r5]
    refine zao zxv.eq_1 (fun(i:Nat) fr M=>i≤n.toNat∧fr 0=.i .i64 a∧fr 4=.p 0 0∧fr 6=.p 1 0∧fr 7=(PV.i .i64 ((i:Nat):Int))∧∃v,M=[some ⟨[.b false,.nl],true,0⟩,some ⟨(nP (mulN (b+3) i)).cells,true,v⟩]) (fun i=>n.toNat-i) ?_ 0 ⟨by omega,by simp only[go_sem,seval],by simp only[go_sem,seval],by simp only[go_sem,seval],by simp only[go_sem,seval],_,rfl⟩
    rintro i fr M ⟨hi,f0,f4,f6,f7,v,rfl⟩ ih
    have li:=l3 i
    by_cases hin:(i:Int)<n
    ·have q1:((i:Int)<n)=True:=by simp[hin]
     have mm:=zdQ (mulN (b+3) i) 1000000007 (by omega) (by omega)
     have e1:mulN (b+3) i*1000000007=mulN (b+3) (i+1):=rfl
     rw[e1] at mm
     generalize hX:mulN (b+3) i=X at *
     generalize hY:mulN (b+3) (i+1)=Y at *
     simp(disch:=omega)only[go_sem,seval,wqq,f0,f4,f6,f7,hd,hn',q1]
     refine zaH [6] rfl (by simp only[go_sem,seval,f6]) ?_
     simp(disch:=omega)only[go_sem,seval,wqq,f6,f7,r4,mm]
     exact ih (i+1) _ _ (by omega) ⟨by omega,by simp only[go_sem,seval,f0],by simp only[go_sem,seval,f4],by simp only[go_sem,seval,f6],by simp only[go_sem,seval];rw[Int.natCast_succ],_,by rw[hY];rfl⟩
    ·have q1:((i:Int)<n)=False:=by simp[hin]
     obtain rfl:i=n.toNat:=by omega
     generalize mulN (b+3) n.toNat=X at *
     simp(disch:=omega)only[go_sem,seval,wqq,f0,f4,f6,f7,hd,hn',q1]
 ·rw[if_neg hm0]
  by_cases c4:m<4
  ·rw[if_pos c4]
   simp(disch:=omega)only[go_sem,seval,wqq,hm',hm0,c4,r1]
  ·rw[if_neg c4]
   by_cases c6:m<6
   ·rw[if_pos c6]
    simp(disch:=omega)only[go_sem,seval,wqq,hm',hm0,c4,c6,r2]
   ·rw[if_neg c6]
    simp(disch:=omega)only[go_sem,seval,wqq,hm',hm0,c4,c6,r2,r3,r5]
    refine zao zxv.eq_1 (fun(i:Nat) fr M=>i≤n.toNat∧fr 0=.i .i64 a∧fr 4=.p 0 0∧fr 6=.p 1 0∧fr 7=(PV.i .i64 ((i:Nat):Int))∧∃v,M=[some ⟨[.b false,.nl],true,0⟩,some ⟨(nP (mulN (b+3) i)).cells,true,v⟩]) (fun i=>n.toNat-i) ?_ 0 ⟨by omega,by simp only[go_sem,seval],by simp only[go_sem,seval],by simp only[go_sem,seval],by simp only[go_sem,seval],_,rfl⟩
    rintro i fr M ⟨hi,f0,f4,f6,f7,v,rfl⟩ ih
    have li:=l3 i
    by_cases hin:(i:Int)<n
    ·have q1:((i:Int)<n)=True:=by simp[hin]
     have mm:=zdQ (mulN (b+3) i) 1000000007 (by omega) (by omega)
     have e1:mulN (b+3) i*1000000007=mulN (b+3) (i+1):=rfl
     rw[e1] at mm
     generalize hX:mulN (b+3) i=X at *
     generalize hY:mulN (b+3) (i+1)=Y at *
     simp(disch:=omega)only[go_sem,seval,wqq,f0,f4,f6,f7,hd,hn',q1]
     refine zaH [6] rfl (by simp only[go_sem,seval,f6]) ?_
     simp(disch:=omega)only[go_sem,seval,wqq,f6,f7,r4,mm]
     exact ih (i+1) _ _ (by omega) ⟨by omega,by simp only[go_sem,seval,f0],by simp only[go_sem,seval,f4],by simp only[go_sem,seval,f6],by simp only[go_sem,seval];rw[Int.natCast_succ],_,by rw[hY];rfl⟩
    ·have q1:((i:Int)<n)=False:=by simp[hin]
     obtain rfl:i=n.toNat:=by omega
     generalize mulN (b+3) n.toNat=X at *
     simp(disch:=omega)only[go_sem,seval,wqq,f0,f4,f6,f7,hd,hn',q1]
theorem zlz {P Q:Int} {n:Nat} (hq:Q≠0) (hp:tlen P.natAbs≤n) (hl:tlen Q.natAbs≤n) (hn:n<1230):∃f:FQ,f.p.v=lowP P Q∧f.q.v=lowQ P Q∧fsz n f:=by
 have t1:=Nat.le_trans (zaw (ziv (p:=P) hq)) hp
 have t2:=Nat.le_trans (zaw (ziw (p:=P) hq)) hl
 exact⟨⟨⟨lowP P Q,zoC (zlv (by omega))⟩,⟨lowQ P Q,zoC (zlv (by omega))⟩,zcZ hq,zdI hq⟩,rfl,rfl,t1,t2⟩
theorem zkL {xs:List Int} (hx:Ints xs) {i:Int} (h0:0≤i) (h1:i≤100):∃f:FQ,fsz 122 f∧pf E0 187 [ints xs,.i .i64 i]=some (rfQ f):=by
 have a0:=zqe hx (i:=i) (by unfold Fits64;omega)
 have a1:=zqe hx (i:=i+1) (by unfold Fits64;omega)
 have a2:=zqe hx (i:=i+2) (by unfold Fits64;omega)
 have a3:=zqe hx (i:=i+3) (by unfold Fits64;omega)
 have n1:=zeo (zc4 hx i) (zc4 hx (i+1))
 have n2:=zeo (zc4 hx (i+2)) (zc4 hx (i+3))
 have l1:=zgI (pk xs i) (zc4 hx (i+1))
 have l2:=zgI (pk xs (i+2)) (zc4 hx (i+3))
 generalize numF (pk xs i) (pk xs (i+1))=P at *
 generalize numF (pk xs (i+2)) (pk xs (i+3))=Q at *
 generalize pk xs i=y0 at *
 generalize pk xs (i+1)=y1 at *
 generalize pk xs (i+2)=y2 at *
 generalize pk xs (i+3)=y3 at *
 have o1:=zdi 1 (by decide)
 have t1:tlen (1:Int).natAbs≤1:=zae (by decide)
 by_cases hq:Q=0
 ·obtain⟨f,f1,f2,f3⟩:=zlz (P:=P) (Q:=1) (n:=122) (by decide) l1 (by omega) (by omega)
  refine⟨f,f3,?_⟩
  have mk:=zeU P 1 (by decide) (by omega) (by omega)
  rw[zjx f1 f2] at mk
  have t0:((tlen Q.natAbs:Int)=0)=True:=by rw[hq,Int.natAbs_zero,zaN];simp
  clear hq f1 f2
  obtain⟨k,hk⟩:∃k:Int,nP k=nP 1:=⟨1,rfl⟩
  rw[←hk] at mk o1
  clear hk
  refine zaa (xf:=zwr) rfl (by simp[zwr]) ?_
  simp only[zwr]
  simp(disch:=omega)only[go_sem,seval,wqq,a2,a3,n2,t0,o1]
  refine zaH [5] rfl (by simp only[go_sem,seval]) ?_
  simp(disch:=omega)only[go_sem,seval,wqq,a0,a1,n1,mk]
 ·obtain⟨f,f1,f2,f3⟩:=zlz (P:=P) (Q:=Q) (n:=122) hq l1 l2 (by omega)
  refine⟨f,f3,?_⟩
  have mk:=zeU P Q hq (by omega) (by omega)
  rw[zjx f1 f2] at mk
  have t0:((tlen Q.natAbs:Int)=0)=False:=by have:=zaR (v:=Q.natAbs) (by omega);simp;omega
  refine zaa (xf:=zwr) rfl (by simp[zwr]) ?_
  simp only[zwr]
  simp(disch:=omega)only[go_sem,seval,wqq,a2,a3,n2,t0]
  refine zaH [5] rfl (by simp only[go_sem,seval]) ?_
  simp(disch:=omega)only[go_sem,seval,wqq,a0,a1,n1,mk]
end Go.Eng
namespace Go.Eng
theorem zfo:∀(s:List UInt8),(idxB s 47 = -1∧(47:UInt8) ∉ s)∨∃i:Nat,idxB s 47=(i:Int)∧i<s.length∧s[i]?=some 47∧∀j,j<i→s[j]?≠some 47
 | []=>.inl ⟨rfl,by simp⟩
 | b::l=>by
  by_cases hb:b=47
  ·subst hb
   exact .inr ⟨0,by unfold idxB;simp,by simp,rfl,fun j hj=>by omega⟩
  ·have hb':(b==47)=false:=by simpa using hb
   rcases zfo l with⟨h1,h2⟩|⟨i,h1,h2,h3,h4⟩
   ·left
    refine⟨by unfold idxB;rw[hb',h1];rfl,?_⟩
    simp only[List.mem_cons,not_or]
    exact⟨fun q=>hb q.symm,h2⟩
   ·right
    refine⟨i+1,?_,by simp;omega,by simpa using h3,fun j hj=>?_⟩
    ·unfold idxB
     have:(idxB l 47 == -1)=false:=by rw[h1,beq_eq_false_iff_ne];omega
     rw[hb',this,h1];simp
    ·cases j with
     | zero=>simpa using hb
     | succ j=>simpa using h4 j (by omega)
theorem zna (s:List UInt8):pf E0 222 [.s s,.s [47]]=some (.i .i64 (idxB s 47)):=by
 refine zkS ?_ rfl
 simp only[orcP,libP]
 rfl
theorem zrB (s:List UInt8) (hs:s.length<4611686018427387904):(idxB s 47 = -1→pf E0 209 [.s s,.s [47]]=some (.tu [.s s,.s [],.b false])) ∧
  ∀i:Nat,idxB s 47=(i:Int)→i<s.length→pf E0 209 [.s s,.s [47]]=some (.tu [.s (s.take i),.s (s.drop (i+1)),.b true]):=by
 have h1:=zna s
 constructor
 ·intro h
  rw[h] at h1
  have h2:pf E0 216 [.s s,.s [47]]=some (.tu [.s s,.s [],.b false]):=by
   refine zaa (xf:=zvK) rfl (by simp[zvK]) ?_
   simp only[zvK]
   simp(disch:=omega)only[go_sem,seval,wqq,h1]
  refine zaa (xf:=zwa) rfl (by simp[zwa]) ?_
  simp only[zwa]
  simp(disch:=omega)only[go_sem,seval,wqq,h2]
 ·intro i h hi
  rw[h] at h1
  have c1:slStrP s none (some (.i .i64 (i:Int)))=some (.s (s.take i)):=by
   simp only[slStrP,optP,zaK]
   rw[if_pos ⟨by omega,by omega⟩,List.drop_zero]
  have c2:slStrP s (some (.i .i64 ((i:Int)+1))) none=some (.s (s.drop (i+1))):=by
   have e:((i:Int)+1)=((i+1:Nat):Int):=by omega
   rw[e]
   simp only[slStrP,optP,zaK]
   rw[if_pos ⟨by omega,by omega⟩,List.take_length]
  have g:((i:Int)≥0)=True:=by simp
  have h2:pf E0 216 [.s s,.s [47]]=some (.tu [.s (s.take i),.s (s.drop (i+1)),.b true]):=by
   refine zaa (xf:=zvK) rfl (by simp[zvK]) ?_
   simp only[zvK]
   simp(disch:=omega)only[go_sem,seval,wqq,h1,g,c1,c2]
  refine zaa (xf:=zwa) rfl (by simp[zwa]) ?_
  simp only[zwa]
  simp(disch:=omega)only[go_sem,seval,wqq,h2]
def ParseR (s:List UInt8) (E1 E2:Int) (g:FQ) (e3:Int) (R:FQ) (e:Int):Prop :=
 (¬(E1=0∧E2=0)∧R=fq0∧e=2)∨(E1=0∧E2=0∧((e3≠0∧R=fq0∧e=2)∨(e3=0∧ftx g.p.v g.q.v≠s∧R=fq0∧e=2)∨(e3=0∧ftx g.p.v g.q.v=s∧R=g∧e=0)))
theorem zi3 {s T B0 B:List UInt8} {is:Bool} (hcut:pf E0 209 [.s s,.s [47]]=some (.tu [.s T,.s B0,.b is])) (hB:(is=true∧B=B0)∨(is=false∧B=[49])) {x y:WI} {E1 E2:Int}
  (w1:pf E0 110 [.s T]=some (.tu [wiP x,.i .i64 E1])) (w2:pf E0 110 [.s B]=some (.tu [wiP y,.i .i64 E2])) {g R:FQ} {e3 e:Int} (mk:pf E0 24 [wiP x,wiP y]=some (.tu [fqP g,.i .i64 e3])) (hR:ParseR s E1 E2 g e3 R e) :
  pf E0 197 [.s s]=some (.tu [fqP R,.i .i64 e]):=by
 have st:=zdP g
 refine zaa (xf:=zw1) rfl (by simp[zw1]) ?_
 simp only[zw1]
 rcases hB with⟨rfl,rfl⟩|⟨rfl,rfl⟩ <;>
 (rcases hR with⟨hn,rfl,rfl⟩|⟨rfl,rfl,⟨hn,rfl,rfl⟩|⟨rfl,hn,rfl,rfl⟩|⟨rfl,hn,rfl,rfl⟩⟩
  ·rw[zmu]
   by_cases h1:E1=0
   ·have h2:(E2=0)=False:=by simp;exact fun q=>hn ⟨h1,q⟩
    subst h1
    simp(disch:=omega)only[go_sem,seval,wqq,hcut,w1,w2,h2]
   ·have h1:(E1=0)=False:=by simp[h1]
    simp(disch:=omega)only[go_sem,seval,wqq,hcut,w1,w2,h1]
  ·rw[zmu]
   have h1:(e3=0)=False:=by simp[hn]
   simp(disch:=omega)only[go_sem,seval,wqq,hcut,w1,w2,mk,h1]
  ·rw[zmu]
   have h1:(ftx g.p.v g.q.v=s)=False:=by simp[hn]
   simp(disch:=omega)only[go_sem,seval,wqq,hcut,w1,w2,mk,st,h1]
  ·have h1:(ftx R.p.v R.q.v=s)=True:=by simp[hn]
   simp(disch:=omega)only[go_sem,seval,wqq,hcut,w1,w2,mk,st,h1] )
end Go.Eng
namespace Go.Eng
def SplitR (s T B:List UInt8):Prop:=((47:UInt8) ∉ s∧T=s∧B=[49])∨∃i:Nat,i<s.length∧s[i]?=some 47∧(∀j,j<i→s[j]?≠some 47)∧T=s.take i∧B=s.drop (i+1)
theorem zkZ {s A C T B:List UInt8} (e:s=A++47::C) (hA:(47:UInt8) ∉ A) (h:SplitR s T B):T=A∧B=C:=by
 subst e
 rcases h with⟨h,_⟩|⟨i,h1,h2,h3,rfl,rfl⟩
 ·exact(h (by simp)).elim
 ·have hi:i=A.length:=by
   rcases Nat.lt_trichotomy i A.length with h|h|h
   ·rw[List.getElem?_append_left h] at h2
    exact(hA (List.mem_of_getElem? h2)).elim
   ·exact h
   ·exact(h3 _ h (by simp)).elim
  subst hi
  exact⟨by simp,by simp⟩
theorem zfe (z:Int):(47:UInt8) ∉ decI z:=by
 have key:∀v:Nat,(47:UInt8) ∉ dec v:=fun v h=>by
  have h1:=zh3 v
  rw[List.all_eq_true] at h1
  have h2:=h1 _ h
  revert h2;decide
 unfold decI
 split
 ·simp only[List.mem_cons,not_or]
  exact⟨by decide,key _⟩
 ·exact key _
theorem zj5:decI 1=[49]:=by
 unfold decI;rw[if_neg (by decide)]
 show dec 1=[49]
 rw[zeA (v:=1) (n:=0) (by decide) (by decide)];rfl
theorem zjD {h:FQ} {T B:List UInt8} (hs:SplitR (ftx h.p.v h.q.v) T B):T=decI h.p.v∧B=decI h.q.v:=by
 unfold ftx at hs
 by_cases hq:h.q.v=1
 ·rw[if_pos hq] at hs
  rcases hs with⟨_,h1,h2⟩|⟨i,_,h2,_⟩
  ·rw[hq,zj5];exact⟨h1,h2⟩
  ·exact(zfe _ (List.mem_of_getElem? h2)).elim
 ·rw[if_neg hq,List.append_assoc] at hs
  exact zkZ rfl (zfe _) hs
theorem zkP (s:List UInt8) (hs:s.length<4611686018427387904):∃(T B0 B:List UInt8) (is:Bool),pf E0 209 [.s s,.s [47]]=some (.tu [.s T,.s B0,.b is])∧((is=true∧B=B0)∨(is=false∧B=[49]))∧SplitR s T B ∧
  T.length<4611686018427387904∧B.length<4611686018427387904:=by
 have hc:=zrB s hs
 rcases zfo s with⟨h1,h2⟩|⟨i,h1,h2,h3,h4⟩
 ·exact⟨s,[],[49],false,hc.1 h1,.inr ⟨rfl,rfl⟩,.inl ⟨h2,rfl,rfl⟩,hs,by simp⟩
 ·exact⟨_,_,_,true,hc.2 i h1 h2,.inl ⟨rfl,rfl⟩,.inr ⟨i,h2,h3,h4,rfl,rfl⟩,by simp;omega,by simp;omega⟩
theorem zca (x y:WI):∃(g:FQ) (e:Int),pf E0 24 [wiP x,wiP y]=some (.tu [fqP g,.i .i64 e])∧pf E0 182 [nP x.v,nP y.v]=some (.tu [rfQ g,.i .i64 e])∧(y.v≠0→e=0∧g.p.v=lowP x.v y.v∧g.q.v=lowQ x.v y.v):=by
 have lx:=zdY x
 have ly:=zdY y
 by_cases h:y.v=0
 ·refine⟨fq0,1,ziQ x y h,?_,fun q=>(q h).elim⟩
  have:=zjc x.v
  rw[h];exact this
 ·obtain⟨g,g1,g2,mk⟩:=zfx x y h
  refine⟨g,0,mk,?_,fun _=>⟨rfl,g1,g2⟩⟩
  have:=zeU x.v y.v h (by omega) (by omega)
  rw[zjx g1 g2] at this;exact this
theorem zje (h:FQ) (hl:(ftx h.p.v h.q.v).length<4611686018427387904):pf E0 197 [.s (ftx h.p.v h.q.v)]=some (.tu [fqP h,.i .i64 0]):=by
 obtain⟨T,B0,B,is,hcut,hB,hS,lT,lB⟩:=zkP _ hl
 have w1:=ziS T lT
 have w2:=ziS B lB
 obtain⟨rfl,rfl⟩:=zjD hS
 have p1:=zep h.p.v
 have p2:=zep h.q.v
 rw[if_pos ((zaB _).1 h.p.lim)] at p1
 rw[if_pos ((zaB _).1 h.q.lim)] at p2
 rw[p1] at w1
 rw[p2] at w2
 have hq:=h.q1
 have c1:(clip h.p.v).v=h.p.v:=za0 h.p.lim
 have c2:(clip h.q.v).v=h.q.v:=za0 h.q.lim
 obtain⟨g,g1,g2,mk⟩:=zfx (clip h.p.v) (clip h.q.v) (by rw[c2];omega)
 rw[c1,c2] at g1 g2
 obtain⟨l1,l2⟩:=zks (p:=h.p.v) (q:=h.q.v) (by omega) h.cop
 have hg:g=h:=zot (g1.trans l1) (g2.trans l2)
 subst hg
 exact zi3 hcut hB w1 w2 mk (.inr ⟨rfl,rfl,.inr (.inr ⟨rfl,rfl,rfl,rfl⟩)⟩)
end Go.Eng
namespace Go.Eng
theorem zfY (f:FQ):(ftx f.p.v f.q.v).length<4000000:=by
 have h1:=zcf f.p
 have h2:=zcf f.q
 unfold ftx
 split<;>(try simp only[List.length_append,List.length_cons,List.length_nil])<;>omega
end Go.Eng
namespace Go.Eng
theorem zdF {z:Int} {v n:Nat} (hz:z=(v:Int)) (h1:10^n≤v) (h2:v<10^(n+1)):decI z=dtx (n+1) v:=by
 subst hz
 unfold decI;rw[if_neg (by omega),Int.natAbs_natCast]
 exact zeA h1 h2
theorem zhv {p q a b:Int} (hp:Fits64 p) (hq:Fits64 q) (h:q≠0) (e1:lowP p q=a) (e2:lowQ p q=b) (ha:tlen a.natAbs≤5) (hb:tlen b.natAbs≤5):∃f:FQ,f.p.v=a∧f.q.v=b∧fsz 5 f∧pf E0 17 [.i .i64 p,.i .i64 q]=some (.tu [fqP f,.i .i64 0]):=by
 obtain⟨f,f1,f2,fo⟩:=zrE hp hq h
 rw[e1] at f1
 rw[e2] at f2
 exact⟨f,f1,f2,⟨by rw[f1];exact ha,by rw[f2];exact hb⟩,fo⟩
end Go.Eng
namespace Go.Eng
noncomputable def makF (x y:WI):FQ×Int:=⟨(zca x y).choose,(zca x y).choose_spec.choose⟩
theorem zlK (x y:WI):pf E0 24 [wiP x,wiP y]=some (.tu [fqP (makF x y).1,.i .i64 (makF x y).2]):=(zca x y).choose_spec.choose_spec.1
theorem zlL (x y:WI):pf E0 182 [nP x.v,nP y.v]=some (.tu [rfQ (makF x y).1,.i .i64 (makF x y).2]):=(zca x y).choose_spec.choose_spec.2.1
end Go.Eng
namespace Go.Eng
def inK (K:Nat) (z:Int):Prop:=z.natAbs<2^K
instance (K:Nat) (z:Int):Decidable (inK K z):=Nat.decLt _ _
def inB (z:Int):Prop:=inK 8192 z
instance (z:Int):Decidable (inB z):=inferInstanceAs (Decidable (inK 8192 z))
def inL (z:Int):Prop:=inK 16000 z
instance (z:Int):Decidable (inL z):=inferInstanceAs (Decidable (inK 16000 z))
theorem zpu {x y i j N:Nat} (hx:x<2^i) (hy:y<2^j) (hN:i+j≤N):x*y<2^N:=by
 refine Nat.lt_of_lt_of_le (Nat.mul_lt_mul_of_lt_of_le hx (Nat.le_of_lt hy) (Nat.pow_pos (by decide))) ?_
 rw[←Nat.pow_add]
 exact Nat.pow_le_pow_right (by decide) hN
theorem zjp {x i N:Nat} (hx:x<2^i) (hN:i≤N):x<2^N:=Nat.lt_of_lt_of_le hx (Nat.pow_le_pow_right (by decide) hN)
theorem zpt {x y i N:Nat} (hx:x<2^i) (hy:y<2^i) (hN:i+1≤N):x+y<2^N:=by
 refine Nat.lt_of_lt_of_le (Nat.add_lt_add hx hy) ?_
 rw[←Nat.mul_two,←Nat.pow_succ]
 exact Nat.pow_le_pow_right (by decide) hN
theorem zmD {v N:Nat} (h:v<2^N) (hN:N=16384):inR v:=by subst hN;exact h
theorem zip {K:Nat} {z:Int} (h:inK K z) (hK:K≤16384):wlen z.natAbs≤512:=(zaB _).2 (zmD (zjp h hK) rfl)
theorem zf2 {i j N:Nat} {a b:Int} (ha:inK i a) (hb:inK j b) (hN:i+j≤N):inK N (a*b):=by
 unfold inK at *
 rw[Int.natAbs_mul]
 exact zpu ha hb hN
theorem zmB {i N:Nat} {a b:Int} (ha:inK i a) (hb:inK i b) (hN:i+1≤N):inK N (a+b):=Nat.lt_of_le_of_lt (Int.natAbs_add_le _ _) (zpt ha hb hN)
theorem zf3 {i:Nat} {a:Int}:inK i (-a)↔inK i a:=by unfold inK;rw[Int.natAbs_neg]
theorem zbQ {i N:Nat} {a:Int} (ha:inK i a) (hN:i≤N):inK N a:=zjp ha hN
theorem zgB {i:Nat} {a b:Int} (ha:inK i a) (h:b.natAbs≤a.natAbs):inK i b:=Nat.lt_of_le_of_lt h ha
theorem zri (K:Nat):inK K 0:=Nat.pow_pos (by decide)
theorem zeJ {z:Int}:inB (-z)↔inB z:=zf3
theorem zrh {z:Int} (h:inB z):wlen z.natAbs≤512:=zip h (by decide)
theorem zbq {a b:Int} (ha:inB a) (hb:inB b):wlen (a*b).natAbs≤512:=zip (zf2 ha hb (Nat.le_refl _)) (by decide)
theorem zdq {a b:Int} (ha:inB a) (hb:inB b):wlen (a+b).natAbs≤512:=zip (zmB ha hb (Nat.le_refl _)) (by decide)
theorem zmA:inK 33 4294967296:=by unfold inK;decide
theorem zfp {a:Int} (ha:inL a):wlen (a*4294967296).natAbs≤512:=zip (zf2 ha zmA (Nat.le_refl _)) (by decide)
theorem zoB {a:Int} (ha:inB a):inL a:=zbQ ha (by decide)
theorem zgA {a:Int} (ha:inB a):wlen (a*4294967296).natAbs≤512:=zfp (zoB ha)
theorem zoA:inB 0:=zri _
theorem zio (K:Nat) (z:Int):inK K z ↔ - two K<z∧z<two K:=by
 unfold inK two
 generalize (2:Nat)^K=q
 omega
theorem zf1 (z:Int):inB z ↔ - two 8192<z∧z<two 8192:=zio _ _
theorem zeK (z:Int):inL z↔¬(two 16000≤(z.natAbs:Int)):=by
 unfold inL
 rw[zio]
 generalize two 16000=q at *
 omega
def flI (a b:Int):Int:=a/b
def ceI (a b:Int):Int := - (-a/b)
theorem zmr {a b:Int} (h:0<b):flI a b*b≤a:=Int.ediv_mul_le _ (by omega)
theorem zrs {a b:Int} (h:0<b):a<(flI a b+1)*b:=Int.lt_ediv_add_one_mul_self _ h
theorem zmK {a b:Int} (h:0<b):a≤ceI a b*b:=by
 have:=Int.ediv_mul_le (-a) (b:=b) (by omega)
 unfold ceI;rw[Int.neg_mul];omega
theorem zqQ {a b:Int} (h:0<b):(ceI a b-1)*b<a:=by
 have:=Int.lt_ediv_add_one_mul_self (-a) h
 unfold ceI
 rw[show (- (-a/b)-1)*b = - ((-a/b+1)*b) by rw[←Int.neg_mul];congr 1;omega]
 omega
theorem zbD {a b m:Int} (h:0<b):m≤flI a b↔m*b≤a:=Int.le_ediv_iff_mul_le h
theorem zbB {a b m:Int} (h:0<b):ceI a b≤m↔a≤m*b:=by
 have:=zbD (a := -a) (b:=b) (m := -m) h
 unfold ceI flI at *
 rw[Int.neg_mul] at this
 omega
theorem zkh {a b:Int} (h:0<b):flI a b≤ceI a b:=by
 have h1:=zmr (a:=a) h
 have h2:=zmK (a:=a) h
 exact Int.le_of_mul_le_mul_right (Int.le_trans h1 h2) h
theorem zn4 {a b:Int} (h:0<b):ceI a b=if a%b=0 then a/b else a/b+1:=by
 have e:=Int.emod_add_mul_ediv a b
 have m0:=Int.emod_nonneg a (show b≠0 by omega)
 have m1:=Int.emod_lt_of_pos a h
 have key:∀m,ceI a b≤m↔a≤m*b:=fun m=>zbB h
 generalize a%b=r at *
 generalize a/b=q at *
 split
 ·rename_i hr
  have k1:=(key q).2 (by rw[Int.mul_comm];omega)
  refine Int.le_antisymm k1 ?_
  have k2:=(key (ceI a b)).1 (Int.le_refl _)
  refine Int.le_of_mul_le_mul_right (a:=b) ?_ h
  rw[Int.mul_comm q];omega
 ·rename_i hr
  have k1:=(key (q+1)).2 (by rw[Int.add_mul,Int.mul_comm q];omega)
  refine Int.le_antisymm k1 ?_
  have k2:=(key (ceI a b)).1 (Int.le_refl _)
  have:q<ceI a b:=by
   refine Int.lt_of_mul_lt_mul_right (a:=b) ?_ (by omega)
   rw[Int.mul_comm q];omega
  omega
def min2 (a b:Int):Int:=if b<a then b else a
def max2 (a b:Int):Int:=if b>a then b else a
theorem zmP (a b:Int):min2 a b=min a b:=by unfold min2;omega
theorem zmO (a b:Int):max2 a b=max a b:=by unfold max2;omega
def min4 (a b c d:Int):Int:=min2 (min2 (min2 a b) c) d
def max4 (a b c d:Int):Int:=max2 (max2 (max2 a b) c) d
theorem zgH {a b c:Int} (h:a≤b) (hc:0≤c):a*c≤b*c:=Int.mul_le_mul_of_nonneg_right h hc
end Go.Eng
namespace Go.Eng
structure IV where
 lo:WI
 hi:WI
 l:inB lo.v
 h:inB hi.v
theorem zoD {x y:IV} (h1:x.lo.v=y.lo.v) (h2:x.hi.v=y.hi.v):x=y:=by
 have e1:=zhi h1
 have e2:=zhi h2
 cases x;cases y
 simp only at e1 e2
 subst e1 e2;rfl
noncomputable def ivP (x:IV):PV:=.ag [.b (decide (x.lo.v<0)),D x.lo.v.natAbs,.b (decide (x.hi.v<0)),D x.hi.v.natAbs]
@[go_sem] theorem ztA (M:PM) (d:Nat) (x:IV):fz M (d+1+1) (ivP x)=some (ivP x,[]):=_root_.id rfl
@[go_sem] theorem zcC (x:IV):(ivP x).cells=[.b (decide (x.lo.v<0)),D x.lo.v.natAbs,.b (decide (x.hi.v<0)),D x.hi.v.natAbs]:=_root_.id rfl
@[go_sem] theorem zq5 (x:IV):PV.ag [.b (decide (x.lo.v<0)),D x.lo.v.natAbs,.b (decide (x.hi.v<0)),D x.hi.v.natAbs]=ivP x:=_root_.id rfl
noncomputable def rvP (x:IV):PV:=rfP x.lo.v x.hi.v
def ivZ:IV:=⟨wi0,wi0,zoA,zoA⟩
theorem zp8:ivP ivZ=.ag [.b false,.lst [],.b false,.lst []]:=rfl
def iwI (z:Int) (h:inB z):WI:=⟨z,zrh h⟩
def mdI (lo hi:Int):IV×Int:=if h:inB lo∧inB hi then (⟨iwI lo h.1,iwI hi h.2,h.1,h.2⟩,0) else (ivZ,4)
theorem zfu {lo hi:Int} (h:inB lo∧inB hi):(mdI lo hi).2=0∧(mdI lo hi).1.lo.v=lo∧(mdI lo hi).1.hi.v=hi:=by unfold mdI;rw[dif_pos h];exact⟨rfl,rfl,rfl⟩
theorem ziB {lo hi:Int} (h:¬(inB lo∧inB hi)):mdI lo hi=(ivZ,4):=by unfold mdI;rw[dif_neg h]
theorem zft {lo hi:Int} (h:(mdI lo hi).2=0):inB lo∧inB hi∧(mdI lo hi).1.lo.v=lo∧(mdI lo hi).1.hi.v=hi:=by
 by_cases q:inB lo∧inB hi
 ·exact⟨q.1,q.2,(zfu q).2⟩
 ·rw[ziB q] at h;cases h
theorem zoF (lo hi:Int):(mdI lo hi).2=0∨mdI lo hi=(ivZ,4):=by
 by_cases q:inB lo∧inB hi
 ·exact .inl (zfu q).1
 ·exact .inr (ziB q)
def ivAdd (x y:IV):IV×Int:=mdI (x.lo.v+y.lo.v) (x.hi.v+y.hi.v)
def ivSub (x y:IV):IV×Int:=mdI (x.lo.v-y.hi.v) (x.hi.v-y.lo.v)
def mulLo (x y:IV):Int:=min4 (flI (x.lo.v*y.lo.v) 4294967296) (flI (x.lo.v*y.hi.v) 4294967296) (flI (x.hi.v*y.lo.v) 4294967296) (flI (x.hi.v*y.hi.v) 4294967296)
def mulHi (x y:IV):Int:=max4 (ceI (x.lo.v*y.lo.v) 4294967296) (ceI (x.lo.v*y.hi.v) 4294967296) (ceI (x.hi.v*y.lo.v) 4294967296) (ceI (x.hi.v*y.hi.v) 4294967296)
def ivMul (x y:IV):IV×Int:=mdI (mulLo x y) (mulHi x y)
def sgA (a b:Int):Int:=if b<0 then-a else a
def sgB (b:Int):Int:=if b<0 then-b else b
def dFl (a b:Int):Int:=flI (sgA a b*4294967296) (sgB b)
def dCe (a b:Int):Int:=ceI (sgA a b*4294967296) (sgB b)
def divLo (x y:IV):Int:=min4 (dFl x.lo.v y.lo.v) (dFl x.lo.v y.hi.v) (dFl x.hi.v y.lo.v) (dFl x.hi.v y.hi.v)
def divHi (x y:IV):Int:=max4 (dCe x.lo.v y.lo.v) (dCe x.lo.v y.hi.v) (dCe x.hi.v y.lo.v) (dCe x.hi.v y.hi.v)
def has0 (y:IV):Prop:=y.lo.v≤0∧0≤y.hi.v
instance (y:IV):Decidable (has0 y):=inferInstanceAs (Decidable (_∧_))
def ivDiv (x y:IV):IV×Int:=if has0 y then (ivZ,9) else mdI (divLo x y) (divHi x y)
def ivIn (x y:IV):Prop:=y.lo.v≤x.lo.v∧x.hi.v≤y.hi.v
def ivHas (x:IV) (f:FQ):Prop:=x.lo.v*f.q.v≤f.p.v*4294967296∧f.p.v*4294967296≤x.hi.v*f.q.v
def mkSo (a b:FQ):IV×Int:=if inL a.p.v∧inL a.q.v∧inL b.p.v∧inL b.q.v then mdI (flI (a.p.v*4294967296) a.q.v) (ceI (b.p.v*4294967296) b.q.v) else (ivZ,4)
def mkI (a b:FQ):IV×Int:=if cmpF a b>0 then mkSo b a else mkSo a b
theorem zaX {a b c:Int} (h:0<c):a*c≤b*c↔a≤b:=⟨fun k=>Int.le_of_mul_le_mul_right k h,fun k=>Int.mul_le_mul_of_nonneg_right k (Int.le_of_lt h)⟩
theorem zhR {a b:FQ} {n d m e:Int} (hd:0<d) (he:0<e) (ha:a.is n d) (hb:b.is m e):cmpF a b=cmpI (n*e) (m*d):=by
 have qa:=a.q1
 have qb:=b.q1
 unfold FQ.is at *
 unfold cmpF
 have k:∀{a b c:Int},0<c→cmpI (a*c) (b*c)=cmpI a b:=fun {a b c} h=>by
  unfold cmpI
  simp only[Int.mul_lt_mul_right h]
 have hde:0<d*e:=Int.mul_pos hd he
 have hqq:0<a.q.v*b.q.v:=Int.mul_pos (by omega) (by omega)
 rw[←k hde,←k (a:=n*e) hqq]
 congr 1
 ·calc a.p.v*b.q.v*(d*e)=a.p.v*d*(b.q.v*e):=by grind
   _=n*a.q.v*(b.q.v*e):=by rw[ha]
   _=n*e*(a.q.v*b.q.v):=by grind
 ·calc b.p.v*a.q.v*(d*e)=b.p.v*e*(a.q.v*d):=by grind
   _=m*b.q.v*(a.q.v*d):=by rw[hb]
   _=m*d*(a.q.v*b.q.v):=by grind
theorem zjA {b:Int} (h:b≠0):0<sgB b:=by unfold sgB;split<;>omega
theorem znC (a b:Int):sgA (-a) b = - sgA a b:=by unfold sgA;split<;>rfl
end Go.Eng
namespace Go.Eng
def IV.ok (x:IV):Prop:=x.lo.v≤x.hi.v
theorem zlw:ivZ.ok:=Int.le_refl _
theorem zoG {lo hi:Int} (h:lo≤hi):(mdI lo hi).1.ok:=by
 rcases zoF lo hi with e|e
 ·obtain⟨_,_,e1,e2⟩:=zft e
  unfold IV.ok;rw[e1,e2];exact h
 ·rw[e];exact zlw
theorem zmz {y:IV} (h:¬has0 y) (hy:y.ok):y.lo.v≠0∧y.hi.v≠0:=by unfold has0 at h;unfold IV.ok at hy;omega
def fdQ (f:FQ):Int:=flI (f.p.v*4294967296) f.q.v
def ceQ (f:FQ):Int:=ceI (f.p.v*4294967296) f.q.v
theorem zif {f:FQ} {n d:Int} (hd:0<d) (h:f.is n d):fdQ f=flI (n*4294967296) d:=by
 have hq:=f.q1
 have key:∀m:Int,m≤fdQ f↔m≤flI (n*4294967296) d:=fun m=>by
  unfold fdQ
  rw[zbD (by omega),zbD hd,←zaX hd,←zaX (c:=f.q.v) (a:=m*d) (by omega)]
  unfold FQ.is at h
  have e:f.p.v*4294967296*d=n*4294967296*f.q.v:=by rw[Int.mul_right_comm,h];grind
  rw[e,Int.mul_right_comm m]
 exact Int.le_antisymm ((key _).1 (Int.le_refl _)) ((key _).2 (Int.le_refl _))
theorem zhN {f:FQ} {n d:Int} (hd:0<d) (h:f.is n d):ceQ f=ceI (n*4294967296) d:=by
 have hq:=f.q1
 have key:∀m:Int,ceQ f≤m↔ceI (n*4294967296) d≤m:=fun m=>by
  unfold ceQ
  rw[zbB (by omega),zbB hd,←zaX hd,←zaX (c:=f.q.v) (a:=n*4294967296) (by omega)]
  unfold FQ.is at h
  have e:f.p.v*4294967296*d=n*4294967296*f.q.v:=by rw[Int.mul_right_comm,h];grind
  rw[e,Int.mul_right_comm m]
 exact Int.le_antisymm ((key _).2 (Int.le_refl _)) ((key _).1 (Int.le_refl _))
theorem zhQ {a b:FQ}:cmpF a b<0↔a.p.v*b.q.v<b.p.v*a.q.v:=by unfold cmpF cmpI;split<;>(try split)<;>omega
theorem zcW {a b:FQ}:cmpF a b>0↔b.p.v*a.q.v<a.p.v*b.q.v:=by unfold cmpF cmpI;split<;>(try split)<;>omega
theorem zcE {a b:FQ} (h:a.p.v*b.q.v≤b.p.v*a.q.v):fdQ a≤fdQ b:=by
 have qa:=a.q1
 have qb:=b.q1
 unfold fdQ
 rw[zbD (by omega)]
 have f:=zmr (a:=a.p.v*4294967296) (b:=a.q.v) (by omega)
 generalize flI (a.p.v*4294967296) a.q.v=m at *
 have f2:=zgH f (show 0≤b.q.v by omega)
 have h2:=zgH h (show (0:Int)≤4294967296 by decide)
 refine Int.le_of_mul_le_mul_right (a:=a.q.v) ?_ (by omega)
 grind
theorem zdk {a b:FQ} (h:a.p.v*b.q.v≤b.p.v*a.q.v):ceQ a≤ceQ b:=by
 have qa:=a.q1
 have qb:=b.q1
 unfold ceQ
 rw[zbB (by omega)]
 have f:=zmK (a:=b.p.v*4294967296) (b:=b.q.v) (by omega)
 generalize ceI (b.p.v*4294967296) b.q.v=m at *
 have f2:=zgH f (show 0≤a.q.v by omega)
 have h2:=zgH h (show (0:Int)≤4294967296 by decide)
 refine Int.le_of_mul_le_mul_right (a:=b.q.v) ?_ (by omega)
 grind
theorem zq0 (a:FQ):fdQ a≤ceQ a:=zkh (by have:=a.q1;omega)
theorem ziE {a b:FQ} (h:a.p.v*b.q.v≤b.p.v*a.q.v):(mkSo a b).1.ok:=by
 unfold mkSo
 split
 ·exact zoG (Int.le_trans (zcE h) (zq0 b))
 ·exact zlw
theorem zlA (a b:FQ):(mkI a b).1.ok:=by
 unfold mkI
 split
 ·rename_i h;rw[zcW] at h;exact ziE (Int.le_of_lt h)
 ·rename_i h;rw[zcW] at h;exact ziE (by omega)
theorem zlB {a b:FQ} (h:(mkSo a b).2=0):(mkSo a b).1.lo.v=fdQ a∧(mkSo a b).1.hi.v=ceQ b:=by
 unfold mkSo at *
 split at h
 ·rename_i q
  rw[if_pos q]
  exact(zft h).2.2
 ·cases h
theorem zru {a b:FQ} (h:(mkI a b).2=0):(mkI a b).1.lo.v=min2 (fdQ a) (fdQ b)∧(mkI a b).1.hi.v=max2 (ceQ a) (ceQ b):=by
 rw[zmP,zmO]
 unfold mkI at *
 split
 ·rename_i q
  rw[if_pos q] at h
  rw[zcW] at q
  have m1:=zcE (Int.le_of_lt q)
  have m2:=zdk (Int.le_of_lt q)
  have k:=zlB h
  omega
 ·rename_i q
  rw[if_neg q] at h
  rw[zcW] at q
  have m1:=zcE (a:=a) (b:=b) (by omega)
  have m2:=zdk (a:=a) (b:=b) (by omega)
  have k:=zlB h
  omega
end Go.Eng
namespace Go.Eng
def isPG:PV→Bool
 | .p _ _=>true
 | .fp _=>true
 | _=>false
def slotInF (E:PEnv) (ops:List XOper) (L:List Nat) (c:Nat×Nat):Bool :=
 match ops[c.1]?,ops[c.2]? with
 | some a,some b =>
  match a.op with
  | .load _ _ (.t s)=>L.contains s&&calmOp E b.op&&fixedX ops c.2 (.t s)
  | _=>false
 | _,_=>false
end Go.Eng
namespace Go.Eng
theorem ze2 (ns:List Nat) (M:PM):M.map (Option.map PB.ver)=(roM M ns).map (Option.map PB.ver):=by
 refine List.ext_getElem? fun k=>?_
 have h:=(zgc ns M k).1
 rw[List.getElem?_map,List.getElem?_map]
 exact h.symm
def calmW (E:PEnv) (ops:List XOper) (c:Nat×Nat):Bool :=
 match ops[c.1]?,ops[c.2]? with
 | some _,some b=>calmOp E b.op
 | _,_=>false
theorem zag {E:PEnv} {F:PFin} {ops:List XOper} {chk:List (Nat×Nat)} {ks:List KI} {fr:PFr} {M:PM} (hL:chk.all (calmW E ops)=true) (w:WL E F ops ks fr M):WK E F (.drw ops chk) ks fr M:=by
 refine zcS (fun fr2 Ms hT=>?_) w
 rw[List.all_eq_true] at hL ⊢
 rintro⟨i,j⟩ hc
 have h1:=hL _ hc
 unfold calmW at h1
 split at h1
 ·rename_i a b ha hb
  obtain⟨fri,A,B,q1,q2,q3,q4⟩:=zau hT ha
  obtain⟨frj,C,D,p1,p2,p3,p4⟩:=zau hT hb
  have p2':Ms[(i,j).2+1]?=some D:=p2
  rw[chkP,Bool.or_eq_true]
  right
  simp only[chkS,ha,q1,p1,p2]
  rw[decide_eq_true_eq]
  rcases p3 with⟨_,v,p3⟩|⟨_,p3⟩
  ·cases hopb:b.op with
   | call f l =>
    rw[hopb] at p3 h1
    obtain⟨ns,rfl⟩:=zcv h1 p3
    exact ze2 ns C
   | _=>rw[hopb] at h1;simp[calmOp] at h1
  ·rw[p3]
 ·cases h1
end Go.Eng
namespace Go.Eng
theorem zkY {E:PEnv} {ops:List XOper} {fr fr2:PFr} {M:PM} {Ms:List PM} {P:PV→Bool} {L:List Nat} (hr:WL E ⟨(0::0::L).map XR.tmp,fun w _=>∃l,w=.tu l∧(l.drop 2).all P=true⟩ ops [] fr M) (hT:pOpsT E.glob (pcl E) ops fr M=some (fr2,Ms)):L.all (fun s=>P (fr2 s))=true:=by
 obtain⟨lf,q,fr3,M3,vs,e,h1,h2,l,h3,h4⟩:=hr
 simp only[Option.bind_eq_some_iff,unw] at e
 obtain⟨⟨fr4,M4⟩,e1,e2⟩:=e
 simp only[Option.some.injEq,Prod.mk.injEq] at e2
 obtain⟨_,e3,e4⟩:=e2
 rw[←e3,←e4] at h2
 obtain⟨Ms',g1,g2⟩:=zbV e1
 rw[g1] at hT
 cases hT
 have hres:∀(f:PFr) (N:PM) (l:List Nat),pRes f N (l.map XR.tmp)=some (l.map f):=fun f N l=>by
  induction l with
  | nil=>rfl
  | cons a l ih=>simp only[List.map_cons,pRes,pResOne,ih]
 rw[hres] at h2
 cases h2
 simp only[List.map_cons,packP] at h3
 cases h3
 simpa [List.all_map] using h4
def isPn (n:Nat):PV→Bool
 | .p k _=>k==n
 | _=>false
def loadOf (ops:List XOper) (i s:Nat):Bool :=
 match ops[i]? with
 | some a=>(match a.op with | .load _ _ (.t t)=>t==s|_=>false)
 | none=>false
end Go.Eng
namespace Go.Eng
def isPf (E:PEnv):PV→Bool
 | .fn f _=>E.pure f
 | _=>false
def calmVo (ops:List XOper) (L:List Nat) (c:Nat×Nat):Bool :=
 match ops[c.1]?,ops[c.2]? with
 | some _,some b =>
  match b.op with
  | .callv (.t s) _=>L.contains s&&fixedX ops c.2 (.t s)
  | _=>false
 | _,_=>false
theorem zbp {E:PEnv} {F:PFin} {ops:List XOper} {chk:List (Nat×Nat)} {ks:List KI} {fr:PFr} {M:PM} (L:List Nat) (hL:chk.all (fun c=>calmW E ops c || calmVo ops L c)=true)
  (hr:WL E ⟨(0::0::L).map XR.tmp,fun w _=>∃l,w=.tu l∧(l.drop 2).all (isPf E)=true⟩ ops [] fr M) (w:WL E F ops ks fr M):WK E F (.drw ops chk) ks fr M:=by
 refine zcS (fun fr2 Ms hT=>?_) w
 have hp:=zkY hr hT
 rw[List.all_eq_true] at hL hp ⊢
 rintro⟨i,j⟩ hc
 have h1:=hL _ hc
 rw[Bool.or_eq_true] at h1
 rcases h1 with h1|h1
 ·unfold calmW at h1
  split at h1
  ·rename_i a b ha hb
   obtain⟨fri,A,B,q1,q2,q3,q4⟩:=zau hT ha
   obtain⟨frj,C,D,p1,p2,p3,p4⟩:=zau hT hb
   have p2':Ms[(i,j).2+1]?=some D:=p2
   rw[chkP,Bool.or_eq_true]
   right
   simp only[chkS,ha,q1,p1,p2]
   rw[decide_eq_true_eq]
   rcases p3 with⟨_,v,p3⟩|⟨_,p3⟩
   ·cases hopb:b.op with
    | call f l =>
     rw[hopb] at p3 h1
     obtain⟨ns,rfl⟩:=zcv h1 p3
     exact ze2 ns C
    | _=>rw[hopb] at h1;simp[calmOp] at h1
   ·rw[p3]
  ·cases h1
 ·unfold calmVo at h1
  split at h1
  ·rename_i a b ha hb
   split at h1
   ·rename_i s l hop
    rw[Bool.and_eq_true] at h1
    obtain⟨c1,c2⟩:=h1
    obtain⟨fri,A,B,q1,q2,q3,q4⟩:=zau hT ha
    obtain⟨frj,C,D,p1,p2,p3,p4⟩:=zau hT hb
    have p2':Ms[(i,j).2+1]?=some D:=p2
    have hs:=hp s (List.contains_iff_mem.1 c1)
    have hf:=p4 _ c2
    have hf:fr2 s=frj s:=hf
    rw[hf] at hs
    rw[chkP,Bool.or_eq_true]
    right
    simp only[chkS,ha,q1,p1,p2]
    rw[decide_eq_true_eq]
    rcases p3 with⟨_,v,p3⟩|⟨_,p3⟩
    ·rw[hop] at p3
     simp only[XO.pst,X.pv] at p3
     cases hv:frj s with
     | fn f d =>
      rw[hv] at p3 hs
      obtain⟨ns,rfl⟩:=zcv hs p3
      exact ze2 ns C
     | _=>rw[hv] at hs;simp[isPf] at hs
    ·rw[p3]
   ·cases h1
  ·cases h1
end Go.Eng
namespace Go.Eng
theorem two_mul (i j:Nat):two i*two j=two (i+j):=by unfold two;rw[Nat.pow_add];push_cast;rfl
theorem zmC {K N:Nat} (h:K<N):inK N (two K):=by
 unfold inK;rw[zci];exact Nat.pow_lt_pow_right (by decide) h
theorem zlb {K:Nat} (h:K<16384):wlen (two K).natAbs≤512:=zip (zmC (Nat.lt_succ_self K)) (by omega)
noncomputable def wTwo (K:Nat):WI:=clip (two K)
theorem zl6 {K:Nat} (h:K<16384):(wTwo K).v=two K:=za0 (zlb h)
noncomputable def w32:WI:=wiOf 4294967296 (by decide)
theorem zd4:w32.v=4294967296:=rfl
theorem zpI:two 32=4294967296:=by unfold two;decide
theorem f32:pf E0 34 [.i .i64 4294967296]=some (wiP w32):=zcL (n:=4294967296) (by decide)
theorem zs6:∀k:Nat,k<32→IntKind.i64.wrap (1*2^(min (k:Int).toNat 64))=two k:=by unfold two;decide
theorem zjZ {k:Nat} (h:k<32):binP .shl (.i .i64 1) (.i .i64 (k:Int))=some (.i .i64 (two k)):=by
 rw[zhK (h:=by omega)]
 show some (PV.i .i64 (IntKind.i64.wrap (1*2^(min (k:Int).toNat 64))))=_
 rw[zs6 k h]
theorem ze7 {k:Nat} (h:k<32):Fits64 (two k):=by
 have:∀k:Nat,k<32→2^k<4294967297:=by decide
 have:=this k h
 unfold Fits64 two
 generalize (2:Nat)^k=n at *
 omega
theorem zi9 {K:Nat} (hK:K≤16300):pf E0 293 [(PV.i .i64 ((K:Nat):Int))]=some (wiP (wTwo K)):=by
 refine zaa (xf:=zwX) rfl (by simp[zwX]) ?_
 simp only[zwX]
 have f1:pf E0 34 [.i .i64 1]=some (wiP wi1):=zcL (n:=1) (by decide)
 have t0:wi1.v=two (K-K):=by rw[Nat.sub_self];rfl
 generalize wi1=w1 at *
 simp(disch:=omega)only[go_sem,seval,wqq,f1]
 refine zao zx6.eq_1 (fun(σ:Nat×WI) fr M=>σ.1≤K∧σ.2.v=two (K-σ.1)∧fr 0=(PV.i .i64 ((σ.1:Nat):Int))∧fr 2=.p 0 0∧fr 3=.p 1 0∧∃v,M=[some ⟨[.b false,.nl],true,0⟩,some ⟨(wiP σ.2).cells,true,v⟩]) (fun σ=>σ.1) ?_ (K,w1) ⟨Nat.le_refl _,t0,by simp only[go_sem,seval],by simp only[go_sem,seval],by simp only[go_sem,seval],_,rfl⟩
 rintro⟨k,x⟩ fr M ⟨hk,hx,f0,f2,f3,v,rfl⟩ ih
 simp only at hk hx f0
 by_cases h:32≤k
 ·have q1:(32≤(k:Int))=True:=by simp;omega
  have g1:=f32
  have m1:=zfy x w32
  rw[zd4,hx,←zpI,two_mul] at m1
  have e1:K-k+32=K-(k-32):=by omega
  rw[e1,zaC (zlb (by omega))] at m1
  have yv:(clip (two (K-(k-32)))).v=two (K-(k-32)):=za0 (zlb (by omega))
  generalize clip (two (K-(k-32)))=y at *
  generalize w32=ww at *
  simp(disch:=omega)only[go_sem,seval,wqq,f0,f2,f3,q1]
  refine zag rfl ?_
  simp(disch:=omega)only[go_sem,seval,wqq,f0,f2,f3,g1,m1]
  exact ih (k-32,y) _ _ (by simp only;omega) ⟨by simp only;omega,yv,by simp only[go_sem,seval];rw[Int.ofNat_sub h];rfl,by simp only[go_sem,seval,f2],by simp only[go_sem,seval,f3],_,rfl⟩
 ·have q1:(32≤(k:Int))=False:=by simp;omega
  have s1:=zjZ (k:=k) (by omega)
  have g1:=zcL (ze7 (k:=k) (by omega))
  have gv:(wiOf (two k) (ze7 (k:=k) (by omega))).v=two k:=rfl
  generalize wiOf (two k) (ze7 (k:=k) (by omega))=ww at *
  have m1:=zfy x ww
  rw[gv,hx,two_mul] at m1
  have e1:K-k+k=K:=by omega
  rw[e1,zaC (zlb (by omega))] at m1
  have m1:pf E0 38 [wiP x,wiP ww]=some (.tu [wiP (wTwo K),.i .i64 0]):=m1
  generalize wTwo K=y at *
  generalize two k=tk at *
  simp(disch:=omega)only[go_sem,seval,wqq,f0,f2,f3,q1]
  refine zag rfl ?_
  simp(disch:=omega)only[go_sem,seval,wqq,f0,f2,f3,s1,g1,m1]
theorem zcm {x:WI}:pf E0 295 [wiP x]=some (.tu [wiP (clip (x.v*4294967296)),.i .i64 (lerr (x.v*4294967296))]):=by
 refine zaa (xf:=zwN) rfl (by simp[zwN]) ?_
 simp only[zwN]
 have g1:=f32
 have m1:=zfy x w32
 rw[zd4] at m1
 generalize x.v*4294967296=z at *
 generalize w32=ww at *
 simp(disch:=omega)only[go_sem,seval,wqq]
 refine zag rfl ?_
 simp(disch:=omega)only[go_sem,seval,wqq,g1,m1]
theorem zcN (x y:WI) (h:y.v≠0):pf E0 296 [wiP x,wiP y]=some (.tu [wiP (x.div y h),.i .i64 0]):=by
 have fd:=ziP x y h
 generalize x.div y h=q at *
 generalize x.mod y h=r at *
 refine zaa (xf:=zw2) rfl (by simp[zw2]) ?_
 simp only[zw2]
 simp(disch:=omega)only[go_sem,seval,wqq,fd]
theorem zdv (x y:WI) (h:0<y.v):∃q:WI,q.v=ceI x.v y.v∧pf E0 298 [wiP x,wiP y]=some (.tu [wiP q,.i .i64 0]):=by
 have hn:y.v≠0:=by omega
 have fd:=ziP x y hn
 have e1:(x.div y hn).v=x.v/y.v:=rfl
 have e2:(x.mod y hn).v=x.v%y.v:=rfl
 have c:=zn4 (a:=x.v) h
 rw[←e1,←e2] at c
 have bnd:wlen (ceI x.v y.v).natAbs≤512:=by
  refine(zaB _).2 (Nat.lt_of_le_of_lt ?_ ((zaB _).1 x.lim))
  unfold ceI
  rw[Int.natAbs_neg]
  exact Nat.le_trans (zch _ _) (by rw[Int.natAbs_neg];exact Nat.le_refl _)
 have sr:=zbY (x.mod y hn)
 have a1:=zhx (x.div y hn) wi1
 rw[znQ] at a1
 have g1:pf E0 34 [.i .i64 1]=some (wiP wi1):=zcL (n:=1) (by decide)
 generalize x.div y hn=q at *
 generalize x.mod y hn=r at *
 generalize wi1=w1 at *
 by_cases hr:r.v=0
 ·rw[if_pos hr] at c
  refine⟨q,by rw[c],?_⟩
  have t0:(cmpI r.v 0=0)=True:=by rw[hr];simp[cmpI]
  refine zaa (xf:=zwl) rfl (by simp[zwl]) ?_
  simp only[zwl]
  simp(disch:=omega)only[go_sem,seval,wqq,fd,sr,t0]
 ·rw[if_neg hr] at c
  have ok:=zaC bnd
  rw[c] at ok
  have cv:(clip (q.v+1)).v=q.v+1:=za0 (by rw[←c];exact bnd)
  refine⟨clip (q.v+1),by rw[cv,c],?_⟩
  rw[ok] at a1
  have t0:(cmpI r.v 0=0)=False:=by rw[zaP];simp[hr]
  generalize clip (q.v+1)=z at *
  refine zaa (xf:=zwl) rfl (by simp[zwl]) ?_
  simp only[zwl]
  simp(disch:=omega)only[go_sem,seval,wqq,fd,sr,t0]
  refine zag rfl ?_
  simp(disch:=omega)only[go_sem,seval,wqq,g1,a1]
theorem zng (x y:WI):pf E0 297 [wiP x,wiP y]=some (.b (decide (x.v<y.v))):=by
 have c1:=za8 x y
 have e:decide (cmpI x.v y.v<0)=decide (x.v<y.v):=by unfold cmpI;split<;>(try split)<;>simp<;>omega
 rw[←e]
 refine zaa (xf:=zwP) rfl (by simp[zwP]) ?_
 simp only[zwP]
 simp(disch:=omega)only[go_sem,seval,wqq,c1]
theorem zrG (x y:WI):pf E0 299 [wiP x,wiP y]=some (.b (decide (x.v>y.v))):=by
 have c1:=za8 x y
 have e:decide (cmpI x.v y.v>0)=decide (x.v>y.v):=by unfold cmpI;split<;>(try split)<;>simp<;>omega
 rw[←e]
 refine zaa (xf:=zxi) rfl (by simp[zxi]) ?_
 simp only[zxi]
 simp(disch:=omega)only[go_sem,seval,wqq,c1]
theorem zfz (x:WI):pf E0 294 [wiP x]=some (.b (decide (inB x.v))):=by
 have hp:pf E0 293 [.i .i64 8192]=some (wiP (wTwo 8192)):=zi9 (K:=8192) (by omega)
 have tv:(wTwo 8192).v=two 8192:=zl6 (by omega)
 have c1:=za8 x (wTwo 8192)
 have n1:=zdN x
 have c2:=za8 x.neg (wTwo 8192)
 have nv:x.neg.v = -x.v:=rfl
 rw[tv] at c1 c2
 rw[nv] at c2
 have hb:=zf1 x.v
 generalize wTwo 8192=w at *
 generalize x.neg=y at *
 generalize two 8192=t at *
 have e:decide (inB x.v)=(if cmpI x.v t<0 then decide (cmpI (-x.v) t<0) else false):=by
  by_cases h1:x.v<t
  ·have k1:cmpI x.v t<0:=by unfold cmpI;rw[if_pos h1];decide
   rw[if_pos k1]
   by_cases h2 : -x.v<t
   ·have k2:cmpI (-x.v) t<0:=by unfold cmpI;rw[if_pos h2];decide
    rw[decide_eq_true k2]
    exact decide_eq_true (hb.2 (by omega))
   ·have k2:¬cmpI (-x.v) t<0:=by unfold cmpI;rw[if_neg h2];split<;>decide
    rw[decide_eq_false k2]
    exact decide_eq_false (fun q=>by have:=hb.1 q;omega)
  ·have k1:¬cmpI x.v t<0:=by unfold cmpI;rw[if_neg h1];split<;>decide
   rw[if_neg k1]
   exact decide_eq_false (fun q=>by have:=hb.1 q;omega)
 rw[e]
 clear e hb
 refine zaa (xf:=zwx) rfl (by simp[zwx]) ?_
 simp only[zwx]
 simp(disch:=omega)only[go_sem,seval,wqq,hp]
 by_cases h1:cmpI x.v t<0
 ·rw[if_pos h1]
  have h1:(cmpI x.v t<0)=True:=by simp[h1]
  refine zag rfl ?_
  simp(disch:=omega)only[go_sem,seval,wqq,c1,n1,c2,h1]
 ·rw[if_neg h1]
  have h1:(cmpI x.v t<0)=False:=by simp[h1]
  refine zag rfl ?_
  simp(disch:=omega)only[go_sem,seval,wqq,c1,h1]
theorem zgU (x y:WI):pf E0 290 [wiP x,wiP y]=some (.tu [ivP (mdI x.v y.v).1,.i .i64 (mdI x.v y.v).2]):=by
 have r1:=zfz x
 have r2:=zfz y
 by_cases h:inB x.v∧inB y.v
 ·have q1:decide (inB x.v)=true:=decide_eq_true h.1
  have q2:decide (inB y.v)=true:=decide_eq_true h.2
  rw[q1] at r1
  rw[q2] at r2
  have m1:ivP (mdI x.v y.v).1=.ag [.b (decide (x.v<0)),D x.v.natAbs,.b (decide (y.v<0)),D y.v.natAbs]:=by unfold mdI;rw[dif_pos h];rfl
  rw[m1,(zfu h).1]
  refine zaa (xf:=zv2) rfl (by simp[zv2]) ?_
  simp only[zv2]
  simp(disch:=omega)only[go_sem,seval,wqq,r1,r2,zam,zad]
 ·rw[ziB h]
  show _=some (PV.tu [ivP ivZ,PV.i .i64 4])
  rw[zp8]
  by_cases h1:inB x.v
  ·have q1:decide (inB x.v)=true:=decide_eq_true h1
   have q2:decide (inB y.v)=false:=decide_eq_false (fun q=>h ⟨h1,q⟩)
   rw[q1] at r1
   rw[q2] at r2
   refine zaa (xf:=zv2) rfl (by simp[zv2]) ?_
   simp only[zv2]
   simp(disch:=omega)only[go_sem,seval,wqq,r1,r2,zam,zad]
  ·have q1:decide (inB x.v)=false:=decide_eq_false h1
   rw[q1] at r1
   refine zaa (xf:=zv2) rfl (by simp[zv2]) ?_
   simp only[zv2]
   simp(disch:=omega)only[go_sem,seval,wqq,r1,zam,zad]
end Go.Eng
namespace Go.Eng
theorem zlh:cst E0.glob (.p 3 0)=.fp [.fn 296 [],.fn 297 []]:=_root_.id rfl
theorem zli:cst E0.glob (.p 4 0)=.fp [.fn 298 [],.fn 299 []]:=_root_.id rfl
theorem zpb (a:FQ) (h:inL a.p.v):∃q:WI,q.v=fdQ a∧pf E0 291 [.ag [.fn 296 [],.fn 297 []],fqP a]=some (wiP q):=by
 have n1:=zi2 a
 have d1:=zbZ a
 have s1:=zcm (x:=a.p)
 rw[zaC (zfp h)] at s1
 have cv:=za0 (zfp h)
 have hq:=a.q1
 have fl:=zcN (clip (a.p.v*4294967296)) a.q (by omega)
 have qv:((clip (a.p.v*4294967296)).div a.q (by omega)).v=fdQ a:=by
  show (clip (a.p.v*4294967296)).v/a.q.v=_
  rw[cv];rfl
 generalize clip (a.p.v*4294967296)=z at *
 generalize z.div a.q (by omega)=q at *
 refine⟨q,qv,?_⟩
 refine zaa (xf:=zvJ) rfl (by simp[zvJ]) ?_
 simp only[zvJ]
 simp(disch:=omega)only[go_sem,seval,wqq,n1,s1]
 refine zag rfl ?_
 simp(disch:=omega)only[go_sem,seval,wqq,d1,fl]
theorem zpc (a:FQ) (h:inL a.p.v):∃q:WI,q.v=ceQ a∧pf E0 291 [.ag [.fn 298 [],.fn 299 []],fqP a]=some (wiP q):=by
 have n1:=zi2 a
 have d1:=zbZ a
 have s1:=zcm (x:=a.p)
 rw[zaC (zfp h)] at s1
 have cv:=za0 (zfp h)
 have hq:=a.q1
 obtain⟨q,qv,fl⟩:=zdv (clip (a.p.v*4294967296)) a.q (by omega)
 rw[cv] at qv
 generalize clip (a.p.v*4294967296)=z at *
 refine⟨q,qv,?_⟩
 refine zaa (xf:=zvJ) rfl (by simp[zvJ]) ?_
 simp only[zvJ]
 simp(disch:=omega)only[go_sem,seval,wqq,n1,s1]
 refine zag rfl ?_
 simp(disch:=omega)only[go_sem,seval,wqq,d1,fl]
theorem zgS (a:FQ):pf E0 289 [fqP a]=some (.b (decide (¬(inL a.p.v∧inL a.q.v)))):=by
 have hp:pf E0 293 [.i .i64 16000]=some (wiP (wTwo 16000)):=zi9 (K:=16000) (by omega)
 have tv:(wTwo 16000).v=two 16000:=zl6 (by omega)
 have n1:=zi2 a
 have d1:=zbZ a
 have s1:=zbY a.p
 have g1:=zdN a.p
 have nv:a.p.neg.v = -a.p.v:=rfl
 obtain⟨m,hm,mv⟩:∃m:WI,m=(if a.p.v<0 then a.p.neg else a.p)∧m.v=(a.p.v.natAbs:Int):=⟨_,rfl,by split<;>omega⟩
 have c1:=za8 m (wTwo 16000)
 have c2:=za8 a.q (wTwo 16000)
 rw[tv] at c1 c2
 have hq:=a.q1
 have l1:=zeK a.p.v
 have l2:=zeK a.q.v
 rw[←mv] at l1
 rw[show (a.q.v.natAbs:Int)=a.q.v by omega] at l2
 generalize wTwo 16000=w at *
 generalize two 16000=t at *
 have k:∀z:Int,(0≤cmpI z t)↔t≤z:=fun z=>by unfold cmpI;split<;>(try split)<;>omega
 have e:decide (¬(inL a.p.v∧inL a.q.v))=(if 0≤cmpI m.v t then true else decide (0≤cmpI a.q.v t)):=by
  by_cases h1:t≤m.v
  ·rw[if_pos ((k _).2 h1)]
   exact decide_eq_true (fun q=>l1.1 q.1 h1)
  ·rw[if_neg (fun q=>h1 ((k _).1 q))]
   by_cases h2:t≤a.q.v
   ·rw[decide_eq_true ((k _).2 h2)]
    exact decide_eq_true (fun q=>l2.1 q.2 h2)
   ·rw[decide_eq_false (fun q=>h2 ((k _).1 q))]
    exact decide_eq_false (fun q=>q ⟨l1.2 h1,l2.2 h2⟩)
 rw[e]
 clear e k l1 l2
 refine zaa (xf:=zxk) rfl (by simp[zxk]) ?_
 simp only[zxk]
 by_cases hn:a.p.v<0
 ·have q0:(cmpI a.p.v 0<0)=True:=by unfold cmpI;rw[if_pos hn];simp
  rw[if_pos hn] at hm
  rw[←hm] at g1
  simp(disch:=omega)only[go_sem,seval,wqq,hp,n1,s1,q0,g1]
  by_cases h1:0≤cmpI m.v t
  ·rw[if_pos h1]
   have h1:(0≤cmpI m.v t)=True:=by simp[h1]
   refine zag rfl ?_
   simp(disch:=omega)only[go_sem,seval,wqq,c1,h1]
  ·rw[if_neg h1]
   have h1:(0≤cmpI m.v t)=False:=by simp[h1]
   refine zag rfl ?_
   simp(disch:=omega)only[go_sem,seval,wqq,c1,h1,d1,c2]
 ·have q0:(cmpI a.p.v 0<0)=False:=by unfold cmpI;rw[if_neg hn];split<;>simp
  rw[if_neg hn] at hm
  rw[←hm] at n1 s1 q0
  simp(disch:=omega)only[go_sem,seval,wqq,hp,n1,s1,q0]
  by_cases h1:0≤cmpI m.v t
  ·rw[if_pos h1]
   have h1:(0≤cmpI m.v t)=True:=by simp[h1]
   refine zag rfl ?_
   simp(disch:=omega)only[go_sem,seval,wqq,c1,h1]
  ·rw[if_neg h1]
   have h1:(0≤cmpI m.v t)=False:=by simp[h1]
   refine zag rfl ?_
   simp(disch:=omega)only[go_sem,seval,wqq,c1,h1,d1,c2]
theorem zpg (a b c d:FQ) (hab:(cmpF a b>0∧c=b∧d=a)∨(¬cmpF a b>0∧c=a∧d=b)):pf E0 278 [fqP a,fqP b]=some (.tu [ivP (mkSo c d).1,.i .i64 (mkSo c d).2]):=by
 have c1:=zbi a b
 have l1:=zgS c
 have l2:=zgS d
 have step:∀q:Prop,(q=(0<cmpF a b))→(q=True∧c=b∧d=a)∨(q=False∧c=a∧d=b):=fun q hq=>by
  rcases hab with⟨h1,h2⟩|⟨h1,h2⟩
  ·left;exact⟨by rw[hq];simp;omega,h2⟩
  ·right;exact⟨by rw[hq];simp;omega,h2⟩
 have s0:=step _ rfl
 clear step hab
 by_cases h1:inL c.p.v∧inL c.q.v
 ·rw[decide_eq_false (fun q=>q h1)] at l1
  by_cases h2:inL d.p.v∧inL d.q.v
  ·rw[decide_eq_false (fun q=>q h2)] at l2
   obtain⟨x,xv,e1⟩:=zpb c h1.1
   obtain⟨y,yv,e2⟩:=zpc d h2.1
   have md:=zgU x y
   have m:mkSo c d=mdI x.v y.v:=by unfold mkSo;rw[if_pos ⟨h1.1,h1.2,h2.1,h2.2⟩,xv,yv];rfl
   rw[m]
   generalize (mdI x.v y.v).1=R at *
   generalize (mdI x.v y.v).2=E at *
   clear m xv yv h1 h2
   refine zaa (xf:=zv3) rfl (by simp[zv3]) ?_
   simp only[zv3]
   rcases s0 with⟨q0,rfl,rfl⟩|⟨q0,rfl,rfl⟩
   ·simp(disch:=omega)only[go_sem,seval,wqq,c1,q0,l1,l2]
    refine zag rfl ?_
    simp(disch:=omega)only[go_sem,seval,wqq,zlh,zli,e1,e2,md]
   ·simp(disch:=omega)only[go_sem,seval,wqq,c1,q0,l1,l2]
    refine zag rfl ?_
    simp(disch:=omega)only[go_sem,seval,wqq,zlh,zli,e1,e2,md]
  ·rw[decide_eq_true h2] at l2
   have m:mkSo c d=(ivZ,4):=by unfold mkSo;rw[if_neg (fun q=>h2 q.2.2)]
   rw[m]
   show _=some (PV.tu [ivP ivZ,PV.i .i64 4])
   rw[zp8]
   clear m h1 h2
   refine zaa (xf:=zv3) rfl (by simp[zv3]) ?_
   simp only[zv3]
   rcases s0 with⟨q0,rfl,rfl⟩|⟨q0,rfl,rfl⟩
   ·simp(disch:=omega)only[go_sem,seval,wqq,c1,q0,l1,l2,zam,zad]
   ·simp(disch:=omega)only[go_sem,seval,wqq,c1,q0,l1,l2,zam,zad]
 ·rw[decide_eq_true h1] at l1
  have m:mkSo c d=(ivZ,4):=by unfold mkSo;rw[if_neg (fun q=>h1 ⟨q.1,q.2.1⟩)]
  rw[m]
  show _=some (PV.tu [ivP ivZ,PV.i .i64 4])
  rw[zp8]
  clear m h1
  refine zaa (xf:=zv3) rfl (by simp[zv3]) ?_
  simp only[zv3]
  rcases s0 with⟨q0,rfl,rfl⟩|⟨q0,rfl,rfl⟩
  ·simp(disch:=omega)only[go_sem,seval,wqq,c1,q0,l1,zam,zad]
  ·simp(disch:=omega)only[go_sem,seval,wqq,c1,q0,l1,zam,zad]
theorem zcO (a b:FQ):pf E0 278 [fqP a,fqP b]=some (.tu [ivP (mkI a b).1,.i .i64 (mkI a b).2]):=by
 by_cases h:cmpF a b>0
 ·have:=zpg a b b a (.inl ⟨h,rfl,rfl⟩)
  unfold mkI;rw[if_pos h];exact this
 ·have:=zpg a b a b (.inr ⟨h,rfl,rfl⟩)
  unfold mkI;rw[if_neg h];exact this
theorem zlJ (a:FQ):pf E0 377 [fqP a]=some (.tu [ivP (mkI a a).1,.i .i64 (mkI a a).2]):=by
 have m:=zcO a a
 generalize (mkI a a).1=R at *
 generalize (mkI a a).2=E at *
 refine zaa (xf:=zxS) rfl (by simp[zxS]) ?_
 simp only[zxS]
 simp(disch:=omega)only[go_sem,seval,wqq,m]
noncomputable def frQ (x:WI):FQ:=(makF x w32).1
theorem zkt {x y:WI} (h:y.v≠0):(makF x y).2=0∧(makF x y).1.p.v=lowP x.v y.v∧(makF x y).1.q.v=lowQ x.v y.v:=(zca x y).choose_spec.choose_spec.2.2 h
theorem zb8 (x:WI):(frQ x).is x.v 4294967296:=by
 obtain⟨_,h1,h2⟩:=zkt (x:=x) (y:=w32) (by rw[zd4];decide)
 exact zfr (d:=4294967296) (by decide) h1 h2
theorem zem (x:WI):pf E0 292 [wiP x]=some (fqP (frQ x)):=by
 have g1:=f32
 have m1:=zlK x w32
 unfold frQ
 generalize (makF x w32).1=R at *
 generalize (makF x w32).2=E at *
 generalize w32=ww at *
 refine zaa (xf:=zwu) rfl (by simp[zwu]) ?_
 simp only[zwu]
 simp(disch:=omega)only[go_sem,seval,wqq]
 refine zag rfl ?_
 simp(disch:=omega)only[go_sem,seval,wqq,g1,m1]
theorem ztM (x:IV):pf E0 280 [ivP x]=some (fqP (frQ x.lo)):=by
 have m1:=zem x.lo
 generalize frQ x.lo=R at *
 refine zaa (xf:=zvV) rfl (by simp[zvV]) ?_
 simp only[zvV]
 simp(disch:=omega)only[go_sem,seval,wqq,m1]
theorem ztL (x:IV):pf E0 281 [ivP x]=some (fqP (frQ x.hi)):=by
 have m1:=zem x.hi
 generalize frQ x.hi=R at *
 refine zaa (xf:=zvU) rfl (by simp[zvU]) ?_
 simp only[zvU]
 simp(disch:=omega)only[go_sem,seval,wqq,m1]
noncomputable def ivTx (x:IV):List UInt8:=[91]++ftx (frQ x.lo).p.v (frQ x.lo).q.v++[44,32]++ftx (frQ x.hi).p.v (frQ x.hi).q.v++[93]
theorem zc2 (x:IV):pf E0 348 [ivP x]=some (.s (ivTx x)):=by
 have h1:=ztM x
 have h2:=ztL x
 unfold ivTx
 generalize frQ x.lo=A at *
 generalize frQ x.hi=B at *
 have t1:=zdP A
 have t2:=zdP B
 have l1:=zfY A
 have l2:=zfY B
 generalize ftx A.p.v A.q.v=X at *
 generalize ftx B.p.v B.q.v=Y at *
 have n1:([91]++X:List UInt8).length<4000002:=by simp;omega
 have n2:([91]++X++[44,32]:List UInt8).length<4000004:=by simp;omega
 have n3:([91]++X++[44,32]++Y:List UInt8).length<8000004:=by simp;omega
 refine zaa (xf:=zvQ) rfl (by simp[zvQ]) ?_
 simp only[zvQ]
 have b1:binP .add (.s [91]) (.s X)=some (.s ([91]++X)):=zaG _ _ (by simp;omega)
 have b2:binP .add (.s ([91]++X)) (.s [44,32])=some (.s ([91]++X++[44,32])):=zaG _ _ (by simp;omega)
 have b3:binP .add (.s ([91]++X++[44,32])) (.s Y)=some (.s ([91]++X++[44,32]++Y)):=zaG _ _ (by simp;omega)
 have b4:binP .add (.s ([91]++X++[44,32]++Y)) (.s [93])=some (.s ([91]++X++[44,32]++Y++[93])):=zaG _ _ (by simp;omega)
 generalize ([91]++X++[44,32]++Y++[93]:List UInt8)=Z4 at *
 generalize ([91]++X++[44,32]++Y:List UInt8)=Z3 at *
 generalize ([91]++X++[44,32]:List UInt8)=Z2 at *
 generalize ([91]++X:List UInt8)=Z1 at *
 simp(disch:=omega)only[go_sem,seval,wqq]
 refine zag rfl ?_
 simp(disch:=omega)only[go_sem,seval,wqq,h1,h2,t1,t2,b1,b2,b3,b4]
end Go.Eng
namespace Go.Eng
theorem zi5 (x y:IV):pf E0 379 [ivP x,ivP y]=some (.tu [ivP (ivAdd x y).1,.i .i64 (ivAdd x y).2]):=by
 have a1:=zhx x.lo y.lo
 have a2:=zhx x.hi y.hi
 rw[zaC (zdq x.l y.l)] at a1
 rw[zaC (zdq x.h y.h)] at a2
 have v1:=za0 (zdq x.l y.l)
 have v2:=za0 (zdq x.h y.h)
 have md:=zgU (clip (x.lo.v+y.lo.v)) (clip (x.hi.v+y.hi.v))
 rw[v1,v2] at md
 unfold ivAdd
 generalize mdI (x.lo.v+y.lo.v) (x.hi.v+y.hi.v)=R at *
 generalize clip (x.lo.v+y.lo.v)=u at *
 generalize clip (x.hi.v+y.hi.v)=v at *
 refine zaa (xf:=zxB) rfl (by simp[zxB]) ?_
 simp only[zxB]
 simp(disch:=omega)only[go_sem,seval,wqq,a1,a2,md]
def mnU (a b:WI):WI:=if b.v<a.v then b else a
def mxU (a b:WI):WI:=if b.v>a.v then b else a
theorem zht (a b:WI):(mnU a b).v=min2 a.v b.v:=by unfold mnU min2;split<;>rfl
theorem zhu (a b:WI):(mxU a b).v=max2 a.v b.v:=by unfold mxU max2;split<;>rfl
theorem zqY (ws:List WI):ez 2 (ws.map wiP)=true:=by
 unfold ez
 rw[List.all_eq_true]
 intro x hx
 obtain⟨w,_,rfl⟩:=List.mem_map.1 hx
 rfl
theorem zpC (w:WI) (ws:List WI):slP 2 (.lst ((w::ws).map wiP)) (some (.i .i64 1)) none none=some (.lst (ws.map wiP)):=by
 have h:=zqY (w::ws)
 simp only[slP,Option.isSome_none,Bool.false_eq_true,if_false,optP,asNP,asIP]
 rw[if_pos (by decide)]
 simp only
 rw[if_pos ⟨by simp,Nat.le_refl _,h⟩,List.take_length]
 rfl
theorem zkq (ws:List WI) {i:Nat} (h:i<ws.length):(ws.map wiP)[i]?=some (wiP ws[i]):=by rw[List.getElem?_map,List.getElem?_eq_getElem h];rfl
theorem zlq (M:PM) (d:Nat) (ws:List WI):fzL (fz M (d+1+1)) (ws.map wiP)=some (ws.map wiP,[]):=by
 induction ws with
 | nil=>rfl
 | cons w ws ih=>simp only[List.map_cons,fzL,zox,ih,List.nil_append]
theorem ziT (w:WI) (ws:List WI) (hl:ws.length<1000):pf E0 387 [.ag [.fn 296 [],.fn 297 []],.lst ((w::ws).map wiP)]=some (wiP (ws.foldl mnU w)):=by
 have s0:=zpC w ws
 have s1:=zkq (w::ws) (i:=0) (by simp)
 refine zaa (xf:=zvI) rfl (by simp[zvI]) ?_
 simp only[zvI]
 have l0:(((w::ws).map wiP).length:Int)=((ws.length+1:Nat):Int):=by simp
 have l1:((ws.map wiP).length:Int)=((ws.length:Nat):Int):=by simp
 have g0:(w::ws)[0]=w:=rfl
 have fz0:fzL (fz [] 12) ((w::ws).map wiP)=some ((w::ws).map wiP,[]):=zlq _ _ _
 generalize (w::ws).map wiP=L0 at *
 generalize hL:ws.map wiP=L1 at *
 simp(disch:=omega)only[go_sem,seval,wqq,s0,s1,l0,l1,g0,fz0]
 refine zao zvZ.eq_1 (fun(i:Nat) fr M=>i≤ws.length∧fr 2=.p 0 0∧fr 4=.p 1 0∧fr 5=.p 2 0∧fr 12=.lst L1∧fr 13=(PV.i .i64 ((ws.length:Nat):Int))∧fr 14=(PV.i .i64 ((i:Nat):Int))∧∃v G,M=some ⟨[.fn 296 [],.fn 297 []],true,0⟩::some ⟨[.b false,.nl],true,0⟩::some ⟨(wiP ((ws.take i).foldl mnU w)).cells,true,v⟩::G) (fun i=>ws.length-i) ?_ 0 ⟨by omega,by simp only[go_sem,seval],by simp only[go_sem,seval],by simp only[go_sem,seval],by simp only[go_sem,seval],by simp only[go_sem,seval,l1],by simp only[go_sem,seval],_,[],rfl⟩
 rintro i fr M ⟨hi,f2,f4,f5,f12,f13,f14,v,G,rfl⟩ ih
 by_cases h:i<ws.length
 ·have q1:((i:Int)<(ws.length:Int))=True:=by simp;omega
  have x1:=zkq ws h
  rw[hL] at x1
  have st:(ws.take (i+1)).foldl mnU w=mnU ((ws.take i).foldl mnU w) ws[i]:=by rw[List.take_succ_eq_append_getElem h,List.foldl_append];rfl
  have d1:=zng ws[i] ((ws.take i).foldl mnU w)
  have hm:mnU ((ws.take i).foldl mnU w) ws[i]=if ws[i].v<((ws.take i).foldl mnU w).v then ws[i] else (ws.take i).foldl mnU w:=rfl
  rw[←st] at hm
  generalize hc:(ws.take i).foldl mnU w=c at *
  generalize hn:(ws.take (i+1)).foldl mnU w=n at *
  generalize ws[i]=b at *
  by_cases hb:b.v<c.v
  ·rw[if_pos hb] at hm
   subst hm
   rw[decide_eq_true hb] at d1
   simp(disch:=omega)only[go_sem,seval,wqq,f2,f4,f5,f12,f13,f14,q1,x1,d1,mG,mG0,sG,sG0,lG,lqq]
   exact ih (i+1) _ _ (by omega) ⟨by omega,by simp only[go_sem,seval,f2],by simp only[go_sem,seval,f4],by simp only[go_sem,seval,f5],by simp only[go_sem,seval,f12],by simp only[go_sem,seval,f13],by simp only[go_sem,seval];rw[Int.natCast_succ],_,_,by rw[hn];rfl⟩
  ·rw[if_neg hb] at hm
   subst hm
   rw[decide_eq_false hb] at d1
   simp(disch:=omega)only[go_sem,seval,wqq,f2,f4,f5,f12,f13,f14,q1,x1,d1,mG,mG0,sG,sG0,lG,lqq]
   exact ih (i+1) _ _ (by omega) ⟨by omega,by simp only[go_sem,seval,f2],by simp only[go_sem,seval,f4],by simp only[go_sem,seval,f5],by simp only[go_sem,seval,f12],by simp only[go_sem,seval,f13],by simp only[go_sem,seval];rw[Int.natCast_succ],_,_,by rw[hn];rfl⟩
 ·have q1:((i:Int)<(ws.length:Int))=False:=by simp;omega
  have e1:ws.take i=ws:=List.take_of_length_le (by omega)
  rw[e1]
  generalize ws.foldl mnU w=c at *
  simp(disch:=omega)only[go_sem,seval,wqq,f2,f4,f5,f12,f13,f14,q1]
theorem ziU (w:WI) (ws:List WI) (hl:ws.length<1000):pf E0 387 [.ag [.fn 298 [],.fn 299 []],.lst ((w::ws).map wiP)]=some (wiP (ws.foldl mxU w)):=by
 have s0:=zpC w ws
 have s1:=zkq (w::ws) (i:=0) (by simp)
 refine zaa (xf:=zvI) rfl (by simp[zvI]) ?_
 simp only[zvI]
 have l0:(((w::ws).map wiP).length:Int)=((ws.length+1:Nat):Int):=by simp
 have l1:((ws.map wiP).length:Int)=((ws.length:Nat):Int):=by simp
 have g0:(w::ws)[0]=w:=rfl
 have fz0:fzL (fz [] 12) ((w::ws).map wiP)=some ((w::ws).map wiP,[]):=zlq _ _ _
 generalize (w::ws).map wiP=L0 at *
 generalize hL:ws.map wiP=L1 at *
 simp(disch:=omega)only[go_sem,seval,wqq,s0,s1,l0,l1,g0,fz0]
 refine zao zvZ.eq_1 (fun(i:Nat) fr M=>i≤ws.length∧fr 2=.p 0 0∧fr 4=.p 1 0∧fr 5=.p 2 0∧fr 12=.lst L1∧fr 13=(PV.i .i64 ((ws.length:Nat):Int))∧fr 14=(PV.i .i64 ((i:Nat):Int))∧∃v G,M=some ⟨[.fn 298 [],.fn 299 []],true,0⟩::some ⟨[.b false,.nl],true,0⟩::some ⟨(wiP ((ws.take i).foldl mxU w)).cells,true,v⟩::G) (fun i=>ws.length-i) ?_ 0 ⟨by omega,by simp only[go_sem,seval],by simp only[go_sem,seval],by simp only[go_sem,seval],by simp only[go_sem,seval],by simp only[go_sem,seval,l1],by simp only[go_sem,seval],_,[],rfl⟩
 rintro i fr M ⟨hi,f2,f4,f5,f12,f13,f14,v,G,rfl⟩ ih
 by_cases h:i<ws.length
 ·have q1:((i:Int)<(ws.length:Int))=True:=by simp;omega
  have x1:=zkq ws h
  rw[hL] at x1
  have st:(ws.take (i+1)).foldl mxU w=mxU ((ws.take i).foldl mxU w) ws[i]:=by rw[List.take_succ_eq_append_getElem h,List.foldl_append];rfl
  have d1:=zrG ws[i] ((ws.take i).foldl mxU w)
  have hm:mxU ((ws.take i).foldl mxU w) ws[i]=if ws[i].v>((ws.take i).foldl mxU w).v then ws[i] else (ws.take i).foldl mxU w:=rfl
  rw[←st] at hm
  generalize hc:(ws.take i).foldl mxU w=c at *
  generalize hn:(ws.take (i+1)).foldl mxU w=n at *
  generalize ws[i]=b at *
  by_cases hb:b.v>c.v
  ·rw[if_pos hb] at hm
   subst hm
   rw[decide_eq_true hb] at d1
   simp(disch:=omega)only[go_sem,seval,wqq,f2,f4,f5,f12,f13,f14,q1,x1,d1,mG,mG0,sG,sG0,lG,lqq]
   exact ih (i+1) _ _ (by omega) ⟨by omega,by simp only[go_sem,seval,f2],by simp only[go_sem,seval,f4],by simp only[go_sem,seval,f5],by simp only[go_sem,seval,f12],by simp only[go_sem,seval,f13],by simp only[go_sem,seval];rw[Int.natCast_succ],_,_,by rw[hn];rfl⟩
  ·rw[if_neg hb] at hm
   subst hm
   rw[decide_eq_false hb] at d1
   simp(disch:=omega)only[go_sem,seval,wqq,f2,f4,f5,f12,f13,f14,q1,x1,d1,mG,mG0,sG,sG0,lG,lqq]
   exact ih (i+1) _ _ (by omega) ⟨by omega,by simp only[go_sem,seval,f2],by simp only[go_sem,seval,f4],by simp only[go_sem,seval,f5],by simp only[go_sem,seval,f12],by simp only[go_sem,seval,f13],by simp only[go_sem,seval];rw[Int.natCast_succ],_,_,by rw[hn];rfl⟩
 ·have q1:((i:Int)<(ws.length:Int))=False:=by simp;omega
  have e1:ws.take i=ws:=List.take_of_length_le (by omega)
  rw[e1]
  generalize ws.foldl mxU w=c at *
  simp(disch:=omega)only[go_sem,seval,wqq,f2,f4,f5,f12,f13,f14,q1]
end Go.Eng
namespace Go.Eng
theorem zlt (a b c d:WI):group 2 4 [PV.b (decide (a.v<0)),Dw (wlen a.v.natAbs) a.v.natAbs,PV.b (decide (b.v<0)),Dw (wlen b.v.natAbs) b.v.natAbs,PV.b (decide (c.v<0)),Dw (wlen c.v.natAbs) c.v.natAbs,PV.b (decide (d.v<0)),Dw (wlen d.v.natAbs) d.v.natAbs]=[wiP a,wiP b,wiP c,wiP d]:=_root_.id rfl
theorem zdw (a b:WI) (h:wlen (a.v*b.v).natAbs≤512):∃q:WI,q.v=flI (a.v*b.v) 4294967296∧pf E0 386 [wiP a,wiP b,.fp [.fn 296 [],.fn 297 []]]=some (wiP q):=by
 have m1:=zfy a b
 rw[zaC h] at m1
 have cv:=za0 h
 have g1:=f32
 have wv:=zd4
 obtain⟨q,qv,fl⟩:∃q:WI,q.v=flI (a.v*b.v) 4294967296∧pf E0 296 [wiP (clip (a.v*b.v)),wiP w32]=some (.tu [wiP q,.i .i64 0]):=⟨_,by show (clip (a.v*b.v)).v/w32.v=_;rw[cv,wv];rfl,zcN (clip (a.v*b.v)) w32 (by rw[wv];decide)⟩
 generalize clip (a.v*b.v)=z at *
 generalize w32=ww at *
 refine⟨q,qv,?_⟩
 refine zaa (xf:=zv5) rfl (by simp[zv5]) ?_
 simp only[zv5]
 simp(disch:=omega)only[go_sem,seval,wqq,m1]
 refine zag rfl ?_
 simp(disch:=omega)only[go_sem,seval,wqq,g1,fl]
theorem zdx (a b:WI) (h:wlen (a.v*b.v).natAbs≤512):∃q:WI,q.v=ceI (a.v*b.v) 4294967296∧pf E0 386 [wiP a,wiP b,.fp [.fn 298 [],.fn 299 []]]=some (wiP q):=by
 have m1:=zfy a b
 rw[zaC h] at m1
 have cv:=za0 h
 have g1:=f32
 have wv:=zd4
 obtain⟨q,qv,fl⟩:=zdv (clip (a.v*b.v)) w32 (by rw[wv];decide)
 rw[cv,wv] at qv
 generalize clip (a.v*b.v)=z at *
 generalize w32=ww at *
 refine⟨q,qv,?_⟩
 refine zaa (xf:=zv5) rfl (by simp[zv5]) ?_
 simp only[zv5]
 simp(disch:=omega)only[go_sem,seval,wqq,m1]
 refine zag rfl ?_
 simp(disch:=omega)only[go_sem,seval,wqq,g1,fl]
theorem zkG (x y:IV) {q1 q2 q3 q4:WI} (h1:pf E0 386 [wiP x.lo,wiP y.lo,.fp [.fn 296 [],.fn 297 []]]=some (wiP q1)) (h2:pf E0 386 [wiP x.lo,wiP y.hi,.fp [.fn 296 [],.fn 297 []]]=some (wiP q2))
  (h3:pf E0 386 [wiP x.hi,wiP y.lo,.fp [.fn 296 [],.fn 297 []]]=some (wiP q3)) (h4:pf E0 386 [wiP x.hi,wiP y.hi,.fp [.fn 296 [],.fn 297 []]]=some (wiP q4)) :
  pf E0 381 [.ag [.fn 296 [],.fn 297 []],ivP x,ivP y,.fn 386 [.fp [.fn 296 [],.fn 297 []]]]=some (wiP (mnU (mnU (mnU q1 q2) q3) q4)):=by
 have b:=ziT q1 [q2,q3,q4] (by simp)
 simp only[List.map_cons,List.map_nil,List.foldl_cons,List.foldl_nil] at b
 generalize mnU (mnU (mnU q1 q2) q3) q4=R at *
 refine zaa (xf:=zvH) rfl (by simp[zvH]) ?_
 simp only[zvH]
 simp(disch:=omega)only[go_sem,seval,wqq]
 refine zbp [10,16,22,28] rfl ?_ ?_
 ·simp(disch:=omega)only[go_sem,seval,wqq,h1,h2,h3,h4,b,zam,zad,zlt]
  exact⟨_,rfl,rfl⟩
 simp(disch:=omega)only[go_sem,seval,wqq,h1,h2,h3,h4,b,zam,zad,zlt]
theorem zkH (x y:IV) {q1 q2 q3 q4:WI} (h1:pf E0 386 [wiP x.lo,wiP y.lo,.fp [.fn 298 [],.fn 299 []]]=some (wiP q1)) (h2:pf E0 386 [wiP x.lo,wiP y.hi,.fp [.fn 298 [],.fn 299 []]]=some (wiP q2))
  (h3:pf E0 386 [wiP x.hi,wiP y.lo,.fp [.fn 298 [],.fn 299 []]]=some (wiP q3)) (h4:pf E0 386 [wiP x.hi,wiP y.hi,.fp [.fn 298 [],.fn 299 []]]=some (wiP q4)) :
  pf E0 381 [.ag [.fn 298 [],.fn 299 []],ivP x,ivP y,.fn 386 [.fp [.fn 298 [],.fn 299 []]]]=some (wiP (mxU (mxU (mxU q1 q2) q3) q4)):=by
 have b:=ziU q1 [q2,q3,q4] (by simp)
 simp only[List.map_cons,List.map_nil,List.foldl_cons,List.foldl_nil] at b
 generalize mxU (mxU (mxU q1 q2) q3) q4=R at *
 refine zaa (xf:=zvH) rfl (by simp[zvH]) ?_
 simp only[zvH]
 simp(disch:=omega)only[go_sem,seval,wqq]
 refine zbp [10,16,22,28] rfl ?_ ?_
 ·simp(disch:=omega)only[go_sem,seval,wqq,h1,h2,h3,h4,b,zam,zad,zlt]
  exact⟨_,rfl,rfl⟩
 simp(disch:=omega)only[go_sem,seval,wqq,h1,h2,h3,h4,b,zam,zad,zlt]
theorem znc (x y:IV):∃q:WI,q.v=mulLo x y∧pf E0 385 [.ag [.fn 296 [],.fn 297 []],.fp (ivP x).cells,.fp (ivP y).cells]=some (wiP q):=by
 obtain⟨q1,v1,h1⟩:=zdw x.lo y.lo (zbq x.l y.l)
 obtain⟨q2,v2,h2⟩:=zdw x.lo y.hi (zbq x.l y.h)
 obtain⟨q3,v3,h3⟩:=zdw x.hi y.lo (zbq x.h y.l)
 obtain⟨q4,v4,h4⟩:=zdw x.hi y.hi (zbq x.h y.h)
 have f:=zkG x y h1 h2 h3 h4
 have e:(mnU (mnU (mnU q1 q2) q3) q4).v=mulLo x y:=by
  rw[zht,zht,zht,v1,v2,v3,v4];rfl
 generalize mnU (mnU (mnU q1 q2) q3) q4=R at *
 refine⟨R,e,?_⟩
 refine zaa (xf:=zwe) rfl (by simp[zwe]) ?_
 simp only[zwe]
 simp(disch:=omega)only[go_sem,seval,wqq,f]
theorem znd (x y:IV):∃q:WI,q.v=mulHi x y∧pf E0 385 [.ag [.fn 298 [],.fn 299 []],.fp (ivP x).cells,.fp (ivP y).cells]=some (wiP q):=by
 obtain⟨q1,v1,h1⟩:=zdx x.lo y.lo (zbq x.l y.l)
 obtain⟨q2,v2,h2⟩:=zdx x.lo y.hi (zbq x.l y.h)
 obtain⟨q3,v3,h3⟩:=zdx x.hi y.lo (zbq x.h y.l)
 obtain⟨q4,v4,h4⟩:=zdx x.hi y.hi (zbq x.h y.h)
 have f:=zkH x y h1 h2 h3 h4
 have e:(mxU (mxU (mxU q1 q2) q3) q4).v=mulHi x y:=by
  rw[zhu,zhu,zhu,v1,v2,v3,v4];rfl
 generalize mxU (mxU (mxU q1 q2) q3) q4=R at *
 refine⟨R,e,?_⟩
 refine zaa (xf:=zwe) rfl (by simp[zwe]) ?_
 simp only[zwe]
 simp(disch:=omega)only[go_sem,seval,wqq,f]
theorem zni (x y:IV):pf E0 378 [ivP x,ivP y]=some (.tu [ivP (ivMul x y).1,.i .i64 (ivMul x y).2]):=by
 obtain⟨u,uv,e1⟩:=znc x y
 obtain⟨v,vv,e2⟩:=znd x y
 have md:=zgU u v
 unfold ivMul
 rw[uv,vv] at md
 generalize mdI (mulLo x y) (mulHi x y)=R at *
 rw[zcC,zcC] at e1 e2
 clear uv vv
 refine zaa (xf:=zxx) rfl (by simp[zxx]) ?_
 simp only[zxx]
 simp(disch:=omega)only[go_sem,seval,wqq]
 refine zbp [8,11] rfl ?_ ?_
 ·simp(disch:=omega)only[go_sem,seval,wqq,zlh,zli,e1,e2,md]
  exact⟨_,rfl,rfl⟩
 simp(disch:=omega)only[go_sem,seval,wqq,zlh,zli,e1,e2,md]
end Go.Eng
namespace Go.Eng
theorem zpJ {K:Nat} (h:K≤16384):tlen (two K).natAbs<20000:=by
 have:=ze5 K
 rw[zci];omega
theorem zqz:T 0=.lst []:=by unfold T;rw[zaN];rfl
theorem znB:rvP ivZ=.ag [.b false,.lst [],.b false,.lst []]:=by
 have:rvP ivZ=.ag [.b false,T 0,.b false,T 0]:=rfl
 rw[this,zqz]
theorem zkK {x y:Int} (lx:tlen x.natAbs<50000) (ly:tlen y.natAbs<50000):pf E0 363 [nP x,nP y]=some (.tu [rvP (mdI x y).1,.i .i64 (mdI x y).2]):=by
 have hp:pf E0 128 [.i .i64 8192]=some (nP (two 8192)):=zeT 8192 (by omega)
 have lt:=zpJ (K:=8192) (by omega)
 have n1:=zdR (two 8192) (by omega)
 have ln:tlen (- two 8192).natAbs<20000:=by rw[Int.natAbs_neg];exact lt
 have c1:=za6 x (- two 8192) (by omega) (by omega)
 have c2:=za6 y (two 8192) (by omega) (by omega)
 have c3:=za6 y (- two 8192) (by omega) (by omega)
 have c4:=za6 x (two 8192) (by omega) (by omega)
 have hx:=zf1 x
 have hy:=zf1 y
 have hz:rvP (mdI x y).1=(if inB x∧inB y then rfP x y else .ag [.b false,.lst [],.b false,.lst []]):=by
  split
  ·rename_i h
   obtain⟨_,e1,e2⟩:=zfu h
   unfold rvP;rw[e1,e2]
  ·rename_i h
   rw[ziB h];exact znB
 have he:(mdI x y).2=(if inB x∧inB y then 0 else 4):=by
  split
  ·rename_i h;exact(zfu h).1
  ·rename_i h;rw[ziB h]
 rw[hz,he]
 clear hz he lx ly lt ln
 have k1:∀a b:Int,(cmpI a b≤0)↔a≤b:=fun a b=>by unfold cmpI;split<;>(try split)<;>omega
 have k2:∀a b:Int,(0≤cmpI a b)↔b≤a:=fun a b=>by unfold cmpI;split<;>(try split)<;>omega
 generalize two 8192=t at *
 refine zaa (xf:=zxI) rfl (by simp[zxI]) ?_
 simp only[zxI]
 simp(disch:=omega)only[go_sem,seval,wqq,hp]
 by_cases h1:x ≤ -t
 ·have q1:(cmpI x (-t)≤0)=True:=by rw[k1];exact eq_true h1
  rw[if_neg (fun q=>by have:=hx.1 q.1;omega),if_neg (fun q=>by have:=hx.1 q.1;omega)]
  refine zag rfl ?_
  simp(disch:=omega)only[go_sem,seval,wqq,n1,c1,q1,zam,zad]
 ·have q1:(cmpI x (-t)≤0)=False:=by rw[k1];exact eq_false h1
  by_cases h2:t≤y
  ·have q2:(0≤cmpI y t)=True:=by rw[k2];exact eq_true h2
   rw[if_neg (fun q=>by have:=hy.1 q.2;omega),if_neg (fun q=>by have:=hy.1 q.2;omega)]
   refine zag rfl ?_
   simp(disch:=omega)only[go_sem,seval,wqq,n1,c1,q1,c2,q2,zam,zad]
  ·have q2:(0≤cmpI y t)=False:=by rw[k2];exact eq_false h2
   refine zag rfl ?_
   simp(disch:=omega)only[go_sem,seval,wqq,n1,c1,q1,c2,q2,zam,zad]
   by_cases h3:y ≤ -t
   ·have q3:(cmpI y (-t)≤0)=True:=by rw[k1];exact eq_true h3
    rw[if_neg (fun q=>by have:=hy.1 q.2;omega),if_neg (fun q=>by have:=hy.1 q.2;omega)]
    refine zag rfl ?_
    simp(disch:=omega)only[go_sem,seval,wqq,n1,c3,q3,zam,zad]
   ·have q3:(cmpI y (-t)≤0)=False:=by rw[k1];exact eq_false h3
    by_cases h4:t≤x
    ·have q4:(0≤cmpI x t)=True:=by rw[k2];exact eq_true h4
     rw[if_neg (fun q=>by have:=hx.1 q.1;omega),if_neg (fun q=>by have:=hx.1 q.1;omega)]
     refine zag rfl ?_
     simp(disch:=omega)only[go_sem,seval,wqq,n1,c3,q3,c4,q4,zam,zad]
    ·have q4:(0≤cmpI x t)=False:=by rw[k2];exact eq_false h4
     rw[if_pos ⟨hx.2 ⟨by omega,by omega⟩,hy.2 ⟨by omega,by omega⟩⟩,if_pos ⟨hx.2 ⟨by omega,by omega⟩,hy.2 ⟨by omega,by omega⟩⟩]
     refine zag rfl ?_
     simp(disch:=omega)only[go_sem,seval,wqq,n1,c3,q3,c4,q4,zam,zad]
theorem zlT {a b:Int} (h:0<b):sgA a b=a∧sgB b=b:=by unfold sgA sgB;rw[if_neg (by omega),if_neg (by omega)];exact⟨rfl,rfl⟩
theorem zfB {a b:Int} (hb:b≠0) (la:tlen a.natAbs<50000) (lb:tlen b.natAbs<50000):pf E0 364 [nP a,nP b]=some (nP (flI (sgA a b) (sgB b))):=by
 have d1:=zen (x:=sgA a b) (y:=sgB b) (by unfold sgB;split<;>omega) (by unfold sgA;split<;>(try rw[Int.natAbs_neg])<;>omega) (by unfold sgB;split<;>(try rw[Int.natAbs_neg])<;>omega)
 have d1:pf E0 120 [nP (sgA a b),nP (sgB b)]=some (.tu [nP (flI (sgA a b) (sgB b)),nP (sgA a b%sgB b)]):=d1
 have n1:=zdR a (by omega)
 have n2:=zdR b (by omega)
 generalize flI (sgA a b) (sgB b)=q at *
 generalize sgA a b%sgB b=r at *
 by_cases h:b<0
 ·have sn:decide (b<0)=true:=by simp;omega
  have e1:sgA a b = -a:=by unfold sgA;rw[if_pos h]
  have e2:sgB b = -b:=by unfold sgB;rw[if_pos h]
  rw[e1,e2] at d1
  have f1:PV.ag [PV.b true,Tw (tlen b.natAbs) b.natAbs]=nP b:=by rw[←sn];rfl
  refine zaa (xf:=zwm) rfl (by simp[zwm]) ?_
  simp only[zwm]
  simp(disch:=omega)only[go_sem,seval,wqq,sn,n1,n2,d1,f1]
 ·have sn:decide (b<0)=false:=by simp;omega
  have e1:sgA a b=a:=by unfold sgA;rw[if_neg h]
  have e2:sgB b=b:=by unfold sgB;rw[if_neg h]
  rw[e1,e2] at d1
  have f1:PV.ag [PV.b false,Tw (tlen b.natAbs) b.natAbs]=nP b:=by rw[←sn];rfl
  refine zaa (xf:=zwm) rfl (by simp[zwm]) ?_
  simp only[zwm]
  simp(disch:=omega)only[go_sem,seval,wqq,sn,d1,f1]
theorem zpG {a b:Int} {N:Nat} (la:tlen a.natAbs<N):tlen (flI a b).natAbs<N:=Nat.lt_of_le_of_lt (zaw (zch _ _)) la
theorem zs8 {a b:Int} {N:Nat} (la:tlen a.natAbs<N):tlen (ceI a b).natAbs<N:=by
 unfold ceI;rw[Int.natAbs_neg]
 exact Nat.lt_of_le_of_lt (zaw (zch _ _)) (by rw[Int.natAbs_neg];exact la)
theorem zs9 {a b:Int} {N:Nat} (la:tlen a.natAbs<N):tlen (sgA a b).natAbs<N:=by unfold sgA;split<;>(try rw[Int.natAbs_neg])<;>exact la
theorem zkN {a b:Int} (hb:b≠0) (la:tlen a.natAbs<50000) (lb:tlen b.natAbs<50000):pf E0 365 [nP a,nP b]=some (nP (ceI (sgA a b) (sgB b))):=by
 have n1:=zdR a (by omega)
 have f1:=zfB (a := -a) hb (by rw[Int.natAbs_neg];exact la) lb
 have lf:tlen (flI (sgA (-a) b) (sgB b)).natAbs<50000:=zpG (zs9 (by rw[Int.natAbs_neg];exact la))
 have n2:=zdR (flI (sgA (-a) b) (sgB b)) (by omega)
 have e : - flI (sgA (-a) b) (sgB b)=ceI (sgA a b) (sgB b):=by rw[znC];rfl
 rw[e] at n2
 generalize flI (sgA (-a) b) (sgB b)=q at *
 generalize ceI (sgA a b) (sgB b)=c at *
 refine zaa (xf:=zxO) rfl (by simp[zxO]) ?_
 simp only[zxO]
 simp(disch:=omega)only[go_sem,seval,wqq]
 refine zag rfl ?_
 simp(disch:=omega)only[go_sem,seval,wqq,n1,f1,n2]
theorem zgY (a:FQ):pf E0 362 [rfQ a]=some (.b (decide (¬(inL a.p.v∧inL a.q.v)))):=by
 have hp:pf E0 128 [.i .i64 16000]=some (nP (two 16000)):=zeT 16000 (by omega)
 have lt:=zpJ (K:=16000) (by omega)
 have lp:=zdY a.p
 have lq:=zdY a.q
 obtain⟨m,hm⟩:∃m:Int,m=(a.p.v.natAbs:Int):=⟨_,rfl⟩
 have em:PV.ag [.b false,T a.p.v.natAbs]=nP m:=by
  have:decide (m<0)=false:=by simp;omega
  unfold nP
  rw[this,hm,Int.natAbs_natCast]
 have lm:tlen m.natAbs≤1239:=by rw[hm,Int.natAbs_natCast];exact lp
 have c1:=za6 m (two 16000) (by omega) (by omega)
 have c2:=za6 a.q.v (two 16000) (by omega) (by omega)
 have hq:=a.q1
 have l1:=zeK a.p.v
 have l2:=zeK a.q.v
 rw[←hm] at l1
 rw[show (a.q.v.natAbs:Int)=a.q.v by omega] at l2
 generalize two 16000=t at *
 have k:∀z:Int,(0≤cmpI z t)↔t≤z:=fun z=>by unfold cmpI;split<;>(try split)<;>omega
 have e:decide (¬(inL a.p.v∧inL a.q.v))=(if 0≤cmpI m t then true else decide (0≤cmpI a.q.v t)):=by
  by_cases h1:t≤m
  ·rw[if_pos ((k _).2 h1)]
   exact decide_eq_true (fun q=>l1.1 q.1 h1)
  ·rw[if_neg (fun q=>h1 ((k _).1 q))]
   by_cases h2:t≤a.q.v
   ·rw[decide_eq_true ((k _).2 h2)]
    exact decide_eq_true (fun q=>l2.1 q.2 h2)
   ·rw[decide_eq_false (fun q=>h2 ((k _).1 q))]
    exact decide_eq_false (fun q=>q ⟨l1.2 h1,l2.2 h2⟩)
 rw[e]
 clear e k l1 l2 hm
 unfold rfQ
 generalize a.p.v=P at *
 generalize a.q.v=Q at *
 refine zaa (xf:=zxH) rfl (by simp[zxH]) ?_
 simp only[zxH]
 by_cases h1:0≤cmpI m t
 ·rw[if_pos h1]
  have h1:(0≤cmpI m t)=True:=by simp[h1]
  simp(disch:=omega)only[go_sem,seval,wqq,hp,em,c1,h1]
 ·rw[if_neg h1]
  have h1:(0≤cmpI m t)=False:=by simp[h1]
  simp(disch:=omega)only[go_sem,seval,wqq,hp,em,c1,h1,c2]
end Go.Eng
namespace Go.Eng
@[go_sem] theorem ztE (M:PM) (d:Nat) (x:IV):fz M (d+1+1) (rvP x)=some (rvP x,[]):=_root_.id rfl
@[go_sem] theorem zn9 (x:IV):(rvP x).cells=[.b (decide (x.lo.v<0)),T x.lo.v.natAbs,.b (decide (x.hi.v<0)),T x.hi.v.natAbs]:=_root_.id rfl
@[go_sem] theorem zq8 (x:IV):rfP x.lo.v x.hi.v=rvP x:=_root_.id rfl
theorem zgV:pf E0 128 [.i .i64 32]=some (nP 4294967296):=by
 have h:pf E0 128 [.i .i64 32]=some (nP (two 32)):=zeT 32 (by omega)
 rw[zpI] at h;exact h
theorem zd3 (x:WI):tlen x.v.natAbs≤1239:=zdY x
theorem zvk:tlen (4294967296:Int).natAbs≤3:=zae (by decide)
theorem zpl (a b c d:FQ) (hab:(cmpF a b>0∧c=b∧d=a)∨(¬cmpF a b>0∧c=a∧d=b)):pf E0 345 [rfQ a,rfQ b]=some (.tu [rvP (mkSo c d).1,.i .i64 (mkSo c d).2]):=by
 have c1:pf E0 200 [rfQ a,rfQ b]=some (.i .i64 (cmpF a b)):=zf9 _ _ _ _ (by have:=zd3 a.p;omega) (by have:=zd3 a.q;omega) (by have:=zd3 b.p;omega) (by have:=zd3 b.q;omega)
 have l1:=zgY c
 have l2:=zgY d
 have hp:=zgV
 have t3:=zvk
 have tc:=zd3 c.p
 have tcq:=zd3 c.q
 have td:=zd3 d.p
 have tdq:=zd3 d.q
 have cq:=c.q1
 have dq:=d.q1
 have m1:=zdQ c.p.v 4294967296 (by omega) (by omega)
 have m2:=zdQ d.p.v 4294967296 (by omega) (by omega)
 have t1:=zce c.p.v 4294967296
 have t2:=zce d.p.v 4294967296
 have e1:=zfB (a:=c.p.v*4294967296) (b:=c.q.v) (by omega) (by omega) (by omega)
 have e2:=zkN (a:=d.p.v*4294967296) (b:=d.q.v) (by omega) (by omega) (by omega)
 obtain⟨s1,s2⟩:=zlT (a:=c.p.v*4294967296) (b:=c.q.v) (by omega)
 obtain⟨s3,s4⟩:=zlT (a:=d.p.v*4294967296) (b:=d.q.v) (by omega)
 rw[s1,s2] at e1
 rw[s3,s4] at e2
 have md:=zkK (x:=flI (c.p.v*4294967296) c.q.v) (y:=ceI (d.p.v*4294967296) d.q.v) (zpG (by omega)) (zs8 (by omega))
 have step:∀q:Prop,(q=(0<cmpF a b))→(q=True∧c=b∧d=a)∨(q=False∧c=a∧d=b):=fun q hq=>by
  rcases hab with⟨h1,h2⟩|⟨h1,h2⟩
  ·left;exact⟨by rw[hq];simp;omega,h2⟩
  ·right;exact⟨by rw[hq];simp;omega,h2⟩
 have s0:=step _ rfl
 generalize cmpF a b=cm at *
 clear step hab s1 s2 s3 s4
 unfold mkSo
 by_cases h1:inL c.p.v∧inL c.q.v
 ·rw[decide_eq_false (fun q=>q h1)] at l1
  by_cases h2:inL d.p.v∧inL d.q.v
  ·rw[decide_eq_false (fun q=>q h2)] at l2
   rw[if_pos ⟨h1.1,h1.2,h2.1,h2.2⟩]
   generalize mdI (flI (c.p.v*4294967296) c.q.v) (ceI (d.p.v*4294967296) d.q.v)=R at *
   generalize flI (c.p.v*4294967296) c.q.v=u at *
   generalize ceI (d.p.v*4294967296) d.q.v=v at *
   generalize c.p.v*4294967296=cm at *
   generalize d.p.v*4294967296=dm at *
   obtain⟨s,hs⟩:∃s:Int,s=4294967296:=⟨_,rfl⟩
   rw[←hs] at hp m1 m2
   clear h1 h2 hs
   rcases s0 with⟨q0,rfl,rfl⟩|⟨q0,rfl,rfl⟩
   ·refine zaa (xf:=zvL) rfl (by simp[zvL]) ?_
    simp only[zvL]
    simp(disch:=omega)only[go_sem,seval,wqq,c1,q0,l1,l2,hp]
    refine zag rfl ?_
    simp(disch:=omega)only[go_sem,seval,wqq,m1,m2,e1,e2,md]
   ·refine zaa (xf:=zvL) rfl (by simp[zvL]) ?_
    simp only[zvL]
    simp(disch:=omega)only[go_sem,seval,wqq,c1,q0,l1,l2,hp]
    refine zag rfl ?_
    simp(disch:=omega)only[go_sem,seval,wqq,m1,m2,e1,e2,md]
  ·rw[decide_eq_true h2] at l2
   rw[if_neg (fun q=>h2 q.2.2)]
   show _=some (PV.tu [rvP ivZ,PV.i .i64 4])
   rw[znB]
   rcases s0 with⟨q0,rfl,rfl⟩|⟨q0,rfl,rfl⟩
   ·refine zaa (xf:=zvL) rfl (by simp[zvL]) ?_
    simp only[zvL]
    simp(disch:=omega)only[go_sem,seval,wqq,c1,q0,l1,l2,zam,zad]
   ·refine zaa (xf:=zvL) rfl (by simp[zvL]) ?_
    simp only[zvL]
    simp(disch:=omega)only[go_sem,seval,wqq,c1,q0,l1,l2,zam,zad]
 ·rw[decide_eq_true h1] at l1
  rw[if_neg (fun q=>h1 ⟨q.1,q.2.1⟩)]
  show _=some (PV.tu [rvP ivZ,PV.i .i64 4])
  rw[znB]
  have l2':∃v:Bool,pf E0 362 [rfQ d]=some (.b v):=⟨_,l2⟩
  obtain⟨v,l2⟩:=l2'
  rcases s0 with⟨q0,rfl,rfl⟩|⟨q0,rfl,rfl⟩
  ·refine zaa (xf:=zvL) rfl (by simp[zvL]) ?_
   simp only[zvL]
   simp(disch:=omega)only[go_sem,seval,wqq,c1,q0,l1,l2,zam,zad]
  ·refine zaa (xf:=zvL) rfl (by simp[zvL]) ?_
   simp only[zvL]
   simp(disch:=omega)only[go_sem,seval,wqq,c1,q0,l1,l2,zam,zad]
theorem zkO (a b:FQ):pf E0 345 [rfQ a,rfQ b]=some (.tu [rvP (mkI a b).1,.i .i64 (mkI a b).2]):=by
 by_cases h:cmpF a b>0
 ·have:=zpl a b b a (.inl ⟨h,rfl,rfl⟩)
  unfold mkI;rw[if_pos h];exact this
 ·have:=zpl a b a b (.inr ⟨h,rfl,rfl⟩)
  unfold mkI;rw[if_neg h];exact this
theorem zcl (x:WI):pf E0 373 [nP x.v]=some (rfQ (frQ x)):=by
 have hp:=zgV
 have m1:=zlL x w32
 rw[zd4] at m1
 unfold frQ
 generalize (makF x w32).1=R at *
 generalize (makF x w32).2=E at *
 generalize x.v=z at *
 obtain⟨s,hs⟩:∃s:Int,s=4294967296:=⟨_,rfl⟩
 rw[←hs] at hp m1
 clear hs
 refine zaa (xf:=zxC) rfl (by simp[zxC]) ?_
 simp only[zxC]
 simp(disch:=omega)only[go_sem,seval,wqq]
 refine zag rfl ?_
 simp(disch:=omega)only[go_sem,seval,wqq,hp,m1]
end Go.Eng
namespace Go.Eng
noncomputable def nL (N:Nat) (P:Nat→Int):List PV:=(List.range N).map fun i=>nP (P i)
end Go.Eng
set_option maxRecDepth 10000
namespace Go.Eng
theorem zdt (a b:WI) (ha:inB a.v) (hb:b.v≠0):∃q:WI,q.v=dFl a.v b.v∧pf E0 382 [wiP a,wiP b,.fp [.fn 296 [],.fn 297 []]]=some (wiP q):=by
 have sb:=zbY b
 by_cases h:b.v<0
 ·have n1:=zdN a
  have n2:=zdN b
  have nv:a.neg.v = -a.v:=rfl
  have bv:b.neg.v = -b.v:=rfl
  have t0:(cmpI b.v 0<0)=True:=by unfold cmpI;rw[if_pos h];simp
  have s1:=zcm (x:=a.neg)
  have hs:wlen (a.neg.v*4294967296).natAbs≤512:=zgA (by rw[nv];exact zeJ.2 ha)
  rw[zaC hs] at s1
  have cv:=za0 hs
  have dv:dFl a.v b.v=flI (a.neg.v*4294967296) b.neg.v:=by unfold dFl sgA sgB;rw[if_pos h,if_pos h];rfl
  rw[dv]
  generalize clip (a.neg.v*4294967296)=z at *
  generalize a.neg=u at *
  generalize b.neg=w at *
  obtain⟨q,qv,fl⟩:∃q:WI,q.v=flI (u.v*4294967296) w.v∧pf E0 296 [wiP z,wiP w]=some (.tu [wiP q,.i .i64 0]):=⟨_,by show z.v/w.v=_;rw[cv];rfl,zcN z w (by omega)⟩
  refine⟨q,qv,?_⟩
  refine zaa (xf:=zvM) rfl (by simp[zvM]) ?_
  simp only[zvM]
  simp(disch:=omega)only[go_sem,seval,wqq,sb,t0]
  refine zag rfl ?_
  simp(disch:=omega)only[go_sem,seval,wqq,n1,n2,s1,fl]
 ·have t0:(cmpI b.v 0<0)=False:=by unfold cmpI;rw[if_neg h];split<;>simp
  have s1:=zcm (x:=a)
  have hs:wlen (a.v*4294967296).natAbs≤512:=zgA ha
  rw[zaC hs] at s1
  have cv:=za0 hs
  have dv:dFl a.v b.v=flI (a.v*4294967296) b.v:=by unfold dFl sgA sgB;rw[if_neg h,if_neg h]
  rw[dv]
  have bv:b.v=b.v:=rfl
  generalize clip (a.v*4294967296)=z at *
  obtain⟨q,qv,fl⟩:∃q:WI,q.v=flI (a.v*4294967296) b.v∧pf E0 296 [wiP z,wiP b]=some (.tu [wiP q,.i .i64 0]):=⟨_,by show z.v/b.v=_;rw[cv];rfl,zcN z b (by omega)⟩
  refine⟨q,qv,?_⟩
  refine zaa (xf:=zvM) rfl (by simp[zvM]) ?_
  simp only[zvM]
  simp(disch:=omega)only[go_sem,seval,wqq,sb,t0,s1,fl]
theorem zdu (a b:WI) (ha:inB a.v) (hb:b.v≠0):∃q:WI,q.v=dCe a.v b.v∧pf E0 382 [wiP a,wiP b,.fp [.fn 298 [],.fn 299 []]]=some (wiP q):=by
 have sb:=zbY b
 by_cases h:b.v<0
 ·have n1:=zdN a
  have n2:=zdN b
  have nv:a.neg.v = -a.v:=rfl
  have bv:b.neg.v = -b.v:=rfl
  have t0:(cmpI b.v 0<0)=True:=by unfold cmpI;rw[if_pos h];simp
  have s1:=zcm (x:=a.neg)
  have hs:wlen (a.neg.v*4294967296).natAbs≤512:=zgA (by rw[nv];exact zeJ.2 ha)
  rw[zaC hs] at s1
  have cv:=za0 hs
  have dv:dCe a.v b.v=ceI (a.neg.v*4294967296) b.neg.v:=by unfold dCe sgA sgB;rw[if_pos h,if_pos h];rfl
  rw[dv]
  generalize clip (a.neg.v*4294967296)=z at *
  generalize a.neg=u at *
  generalize b.neg=w at *
  obtain⟨q,qv,fl⟩:=zdv z w (by omega)
  rw[cv] at qv
  refine⟨q,qv,?_⟩
  refine zaa (xf:=zvM) rfl (by simp[zvM]) ?_
  simp only[zvM]
  simp(disch:=omega)only[go_sem,seval,wqq,sb,t0]
  refine zag rfl ?_
  simp(disch:=omega)only[go_sem,seval,wqq,n1,n2,s1,fl]
 ·have t0:(cmpI b.v 0<0)=False:=by unfold cmpI;rw[if_neg h];split<;>simp
  have s1:=zcm (x:=a)
  have hs:wlen (a.v*4294967296).natAbs≤512:=zgA ha
  rw[zaC hs] at s1
  have cv:=za0 hs
  have dv:dCe a.v b.v=ceI (a.v*4294967296) b.v:=by unfold dCe sgA sgB;rw[if_neg h,if_neg h]
  rw[dv]
  have bv:b.v=b.v:=rfl
  generalize clip (a.v*4294967296)=z at *
  obtain⟨q,qv,fl⟩:=zdv z b (by omega)
  rw[cv] at qv
  refine⟨q,qv,?_⟩
  refine zaa (xf:=zvM) rfl (by simp[zvM]) ?_
  simp only[zvM]
  simp(disch:=omega)only[go_sem,seval,wqq,sb,t0,s1,fl]
theorem zkE (x y:IV) {q1 q2 q3 q4:WI} (h1:pf E0 382 [wiP x.lo,wiP y.lo,.fp [.fn 296 [],.fn 297 []]]=some (wiP q1)) (h2:pf E0 382 [wiP x.lo,wiP y.hi,.fp [.fn 296 [],.fn 297 []]]=some (wiP q2))
  (h3:pf E0 382 [wiP x.hi,wiP y.lo,.fp [.fn 296 [],.fn 297 []]]=some (wiP q3)) (h4:pf E0 382 [wiP x.hi,wiP y.hi,.fp [.fn 296 [],.fn 297 []]]=some (wiP q4)) :
  pf E0 381 [.ag [.fn 296 [],.fn 297 []],ivP x,ivP y,.fn 382 [.fp [.fn 296 [],.fn 297 []]]]=some (wiP (mnU (mnU (mnU q1 q2) q3) q4)):=by
 have b:=ziT q1 [q2,q3,q4] (by simp)
 simp only[List.map_cons,List.map_nil,List.foldl_cons,List.foldl_nil] at b
 generalize mnU (mnU (mnU q1 q2) q3) q4=R at *
 refine zaa (xf:=zvH) rfl (by simp[zvH]) ?_
 simp only[zvH]
 simp(disch:=omega)only[go_sem,seval,wqq]
 refine zbp [10,16,22,28] rfl ?_ ?_
 ·simp(disch:=omega)only[go_sem,seval,wqq,h1,h2,h3,h4,b,zam,zad,zlt]
  exact⟨_,rfl,rfl⟩
 simp(disch:=omega)only[go_sem,seval,wqq,h1,h2,h3,h4,b,zam,zad,zlt]
theorem zkF (x y:IV) {q1 q2 q3 q4:WI} (h1:pf E0 382 [wiP x.lo,wiP y.lo,.fp [.fn 298 [],.fn 299 []]]=some (wiP q1)) (h2:pf E0 382 [wiP x.lo,wiP y.hi,.fp [.fn 298 [],.fn 299 []]]=some (wiP q2))
  (h3:pf E0 382 [wiP x.hi,wiP y.lo,.fp [.fn 298 [],.fn 299 []]]=some (wiP q3)) (h4:pf E0 382 [wiP x.hi,wiP y.hi,.fp [.fn 298 [],.fn 299 []]]=some (wiP q4)) :
  pf E0 381 [.ag [.fn 298 [],.fn 299 []],ivP x,ivP y,.fn 382 [.fp [.fn 298 [],.fn 299 []]]]=some (wiP (mxU (mxU (mxU q1 q2) q3) q4)):=by
 have b:=ziU q1 [q2,q3,q4] (by simp)
 simp only[List.map_cons,List.map_nil,List.foldl_cons,List.foldl_nil] at b
 generalize mxU (mxU (mxU q1 q2) q3) q4=R at *
 refine zaa (xf:=zvH) rfl (by simp[zvH]) ?_
 simp only[zvH]
 simp(disch:=omega)only[go_sem,seval,wqq]
 refine zbp [10,16,22,28] rfl ?_ ?_
 ·simp(disch:=omega)only[go_sem,seval,wqq,h1,h2,h3,h4,b,zam,zad,zlt]
  exact⟨_,rfl,rfl⟩
 simp(disch:=omega)only[go_sem,seval,wqq,h1,h2,h3,h4,b,zam,zad,zlt]
theorem zm8 (x y:IV) (n1:y.lo.v≠0) (n2:y.hi.v≠0):∃q:WI,q.v=divLo x y∧pf E0 380 [.ag [.fn 296 [],.fn 297 []],.fp (ivP x).cells,.fp (ivP y).cells]=some (wiP q):=by
 obtain⟨q1,v1,h1⟩:=zdt x.lo y.lo x.l n1
 obtain⟨q2,v2,h2⟩:=zdt x.lo y.hi x.l n2
 obtain⟨q3,v3,h3⟩:=zdt x.hi y.lo x.h n1
 obtain⟨q4,v4,h4⟩:=zdt x.hi y.hi x.h n2
 have f:=zkE x y h1 h2 h3 h4
 have e:(mnU (mnU (mnU q1 q2) q3) q4).v=divLo x y:=by
  rw[zht,zht,zht,v1,v2,v3,v4];rfl
 generalize mnU (mnU (mnU q1 q2) q3) q4=R at *
 refine⟨R,e,?_⟩
 refine zaa (xf:=zwg) rfl (by simp[zwg]) ?_
 simp only[zwg]
 simp(disch:=omega)only[go_sem,seval,wqq,f]
theorem zm9 (x y:IV) (n1:y.lo.v≠0) (n2:y.hi.v≠0):∃q:WI,q.v=divHi x y∧pf E0 380 [.ag [.fn 298 [],.fn 299 []],.fp (ivP x).cells,.fp (ivP y).cells]=some (wiP q):=by
 obtain⟨q1,v1,h1⟩:=zdu x.lo y.lo x.l n1
 obtain⟨q2,v2,h2⟩:=zdu x.lo y.hi x.l n2
 obtain⟨q3,v3,h3⟩:=zdu x.hi y.lo x.h n1
 obtain⟨q4,v4,h4⟩:=zdu x.hi y.hi x.h n2
 have f:=zkF x y h1 h2 h3 h4
 have e:(mxU (mxU (mxU q1 q2) q3) q4).v=divHi x y:=by
  rw[zhu,zhu,zhu,v1,v2,v3,v4];rfl
 generalize mxU (mxU (mxU q1 q2) q3) q4=R at *
 refine⟨R,e,?_⟩
 refine zaa (xf:=zwg) rfl (by simp[zwg]) ?_
 simp only[zwg]
 simp(disch:=omega)only[go_sem,seval,wqq,f]
theorem zi6 (x y:IV) (hy:y.ok):pf E0 367 [ivP x,ivP y]=some (.tu [ivP (ivDiv x y).1,.i .i64 (ivDiv x y).2]):=by
 have s1:=zbY y.lo
 have s2:=zbY y.hi
 have k1:∀a:Int,(cmpI a 0≤0)↔a≤0:=fun a=>by unfold cmpI;split<;>(try split)<;>omega
 have k2:∀a:Int,(0≤cmpI a 0)↔0≤a:=fun a=>by unfold cmpI;split<;>(try split)<;>omega
 unfold ivDiv
 by_cases h:has0 y
 ·rw[if_pos h]
  have q1:(cmpI y.lo.v 0≤0)=True:=eq_true ((k1 _).2 h.1)
  have q2:(0≤cmpI y.hi.v 0)=True:=eq_true ((k2 _).2 h.2)
  show _=some (PV.tu [ivP ivZ,PV.i .i64 9])
  rw[zp8]
  refine zaa (xf:=zv6) rfl (by simp[zv6]) ?_
  simp only[zv6]
  simp(disch:=omega)only[go_sem,seval,wqq,s1,s2,q1,q2,zam,zad]
 ·rw[if_neg h]
  obtain⟨n1,n2⟩:=zmz h hy
  obtain⟨u,uv,e1⟩:=zm8 x y n1 n2
  obtain⟨v,vv,e2⟩:=zm9 x y n1 n2
  have md:=zgU u v
  rw[uv,vv] at md
  generalize mdI (divLo x y) (divHi x y)=R at *
  rw[zcC,zcC] at e1 e2
  clear uv vv
  by_cases hl:y.lo.v≤0
  ·have q1:(cmpI y.lo.v 0≤0)=True:=eq_true ((k1 _).2 hl)
   have q2:(0≤cmpI y.hi.v 0)=False:=eq_false (fun q=>h ⟨hl,(k2 _).1 q⟩)
   refine zaa (xf:=zv6) rfl (by simp[zv6]) ?_
   simp only[zv6]
   simp(disch:=omega)only[go_sem,seval,wqq,s1,s2,q1,q2]
   refine zbp [19,22] rfl ?_ ?_
   ·simp(disch:=omega)only[go_sem,seval,wqq,zlh,zli,e1,e2,md]
    exact⟨_,rfl,rfl⟩
   simp(disch:=omega)only[go_sem,seval,wqq,zlh,zli,e1,e2,md]
  ·have q1:(cmpI y.lo.v 0≤0)=False:=eq_false (fun q=>hl ((k1 _).1 q))
   refine zaa (xf:=zv6) rfl (by simp[zv6]) ?_
   simp only[zv6]
   simp(disch:=omega)only[go_sem,seval,wqq,s1,q1]
   refine zbp [19,22] rfl ?_ ?_
   ·simp(disch:=omega)only[go_sem,seval,wqq,zlh,zli,e1,e2,md]
    exact⟨_,rfl,rfl⟩
   simp(disch:=omega)only[go_sem,seval,wqq,zlh,zli,e1,e2,md]
def ivNeg (y:IV):IV:=⟨y.hi.neg,y.lo.neg,zeJ.2 y.h,zeJ.2 y.l⟩
theorem zis (x y:IV):ivAdd x (ivNeg y)=ivSub x y:=rfl
theorem znj (x y:IV):pf E0 516 [ivP x,ivP y]=some (.tu [ivP (ivSub x y).1,.i .i64 (ivSub x y).2]):=by
 have a:=zi5 x (ivNeg y)
 rw[zis] at a
 have n1:=zdN y.hi
 have n2:=zdN y.lo
 have hq:ivP (ivNeg y)=.ag [.b (decide (y.hi.neg.v<0)),D y.hi.neg.v.natAbs,.b (decide (y.lo.neg.v<0)),D y.lo.neg.v.natAbs]:=rfl
 rw[hq] at a
 generalize ivSub x y=R at *
 clear hq
 generalize y.hi.neg=u at *
 generalize y.lo.neg=v at *
 refine zaa (xf:=zxq) rfl (by simp[zxq]) ?_
 simp only[zxq]
 simp(disch:=omega)only[go_sem,seval,wqq]
 refine zag rfl ?_
 simp(disch:=omega)only[go_sem,seval,wqq,n1,n2,a,zam,zad]
end Go.Eng
set_option maxRecDepth 10000
namespace Go.Eng
end Go.Eng
namespace Go.Eng
def upd {α:Type} (X:Nat→α) (i:Nat) (v:α):Nat→α:=fun e=>if e=i then v else X e
def cs (n:Nat) (X:Nat→Int):List PV:=(List.range n).map fun e=>.i .i64 (X e)
def zF:Nat→Int:=fun _=>0
end Go.Eng
namespace Go.Eng
end Go.Eng
namespace Go.Eng
noncomputable def cW (w:Nat→WI):List PV:=[.b (decide ((w 0).v<0)),D (w 0).v.natAbs,.b (decide ((w 1).v<0)),D (w 1).v.natAbs,.b (decide ((w 2).v<0)),D (w 2).v.natAbs,.b (decide ((w 3).v<0)),D (w 3).v.natAbs,.b (decide ((w 4).v<0)),D (w 4).v.natAbs,.b (decide ((w 5).v<0)),D (w 5).v.natAbs,.b (decide ((w 6).v<0)),D (w 6).v.natAbs,.b (decide ((w 7).v<0)),D (w 7).v.natAbs,.b (decide ((w 8).v<0)),D (w 8).v.natAbs]
noncomputable def mW (w:Nat→WI):PV:=.ag (cW w)
def cI (p:Nat→Int):List PV:=[.i .i64 (p 0),.i .i64 (p 1),.i .i64 (p 2),.i .i64 (p 3),.i .i64 (p 4),.i .i64 (p 5),.i .i64 (p 6),.i .i64 (p 7),.i .i64 (p 8)]
def pI (p:Nat→Int):PV:=.ag (cI p)
end Go.Eng
namespace Go.Eng
end Go.Eng
namespace Go.Eng
end Go.Eng
namespace Go.Eng
def gN (X:Nat→Int):Nat→Nat
 | 0=>0
 | i+1=>Nat.gcd (gN X i) (X i).natAbs
noncomputable def gW (x:Nat→WI):Nat→WI
 | 0=>wi0
 | i+1=>(gW x i).gcd (x i)
noncomputable def gC (x:Nat→WI):Nat→List PV
 | 0=>[.b false,.nl]
 | i+1=>[.b (decide ((gW x (i+1)).v<0)),D (gW x (i+1)).v.natAbs]
end Go.Eng
namespace Go.Eng
end Go.Eng
namespace Go.Eng
def sB (n:Nat):Nat→Bool:=fun e=>decide (e<n)
def rtK (a b c d e:Int):Int:=a*(b*c)-a*(d*e)
def rdV (z:Nat→Int):Int:=0+rtK (z 0) (z 4) (z 8) (z 5) (z 7)+rtK (z 1) (z 5) (z 6) (z 3) (z 8)+rtK (z 2) (z 3) (z 7) (z 4) (z 6)
end Go.Eng
namespace Go.Eng
end Go.Eng
namespace Go.Eng
end Go.Eng
namespace Go.Eng
def rpK (a b c d e f:Int):Int:=0+a*b+c*d+e*f
def rprV (z u:Nat→Int):Nat→Int:=fun e=>rpK (z (3*(e/3))) (u (e%3)) (z (3*(e/3)+1)) (u (3+e%3)) (z (3*(e/3)+2)) (u (6+e%3))
end Go.Eng

namespace Go.Eng
def mnV (X:Nat→Int) (i k:Nat):Int:=X (3*((i+1)%3)+(k+1)%3)*X (3*((i+2)%3)+(k+2)%3)-X (3*((i+1)%3)+(k+2)%3)*X (3*((i+2)%3)+(k+1)%3)
end Go.Eng
namespace Go.Eng
def mE:Nat→Int:=fun e=>monoI.getD e 0
def exN (i j:Nat):Nat:=(mE (i*3+j)).toNat
def pw3 (X:Nat→Int) (i:Nat):Nat→Int
 | 0=>1
 | j+1=>pw3 X i j*X j^exN i j
def sumT (f:Nat→Int):Nat→Int
 | 0=>0
 | n+1=>sumT f n+f n
noncomputable def wc (t:WI):List PV:=[.b (decide (t.v<0)),D t.v.natAbs]
structure WZ (L:List PV) (s:WI):Prop where
 len:L.length=2
 sc:L.all PV.scal=true
 fz:∀(M:PM) (d:Nat),fzL (fz M (d+1)) L=some (wc s,[])
end Go.Eng
namespace Go.Eng
def cg (n:Nat) (f:Nat→List PV):List PV:=(List.range n).flatMap f
theorem zhO (n:Nat) (f:Nat→List PV):cg (n+1) f=cg n f++f n:=by
 unfold cg
 rw[List.range_succ,List.flatMap_append];simp
theorem zob {k:Nat} {f:Nat→List PV} (hf:∀e,(f e).length=k) (n:Nat):(cg n f).length=n*k:=by
 induction n with
 | zero=>simp[cg]
 | succ n ih=>rw[zhO,List.length_append,ih,hf,Nat.succ_mul]
theorem zoc {k:Nat} {f:Nat→List PV} (hf:∀e,(f e).length=k) {n i:Nat} (h:i<n):((cg n f).drop (i*k)).take k=f i:=by
 induction n with
 | zero=>omega
 | succ n ih =>
  have hl:=zob hf n
  rw[zhO]
  rcases Nat.lt_or_ge i n with q|q
  ·have:(i+1)*k≤n*k:=Nat.mul_le_mul_right _ q
   rw[Nat.succ_mul] at this
   rw[List.drop_append_of_le_length (by omega),List.take_append_of_le_length (by rw[List.length_drop];omega),ih q]
  ·obtain rfl:i=n:=by omega
   rw[List.drop_append,List.drop_eq_nil_of_le (by omega),hl,Nat.sub_self,List.drop_zero,List.nil_append,List.take_of_length_le (by rw[hf];exact Nat.le_refl _)]
end Go.Eng
namespace Go.Eng
def facT:List (List Int):=[[],[0],[1],[2],[0,0],[0,1],[0,2],[1,1],[1,2],[2,2],[0,0,0],[0,0,1],[0,0,2],[0,1,1],[0,1,2],[0,2,2],[1,1,1],[1,1,2],[1,2,2],[2,2,2]]
def facL (i:Nat):List Int:=facT.getD i []
def prL (X:Nat→Int):List Int→Int
 | []=>1
 | a::l=>X a.toNat*prL X l
end Go.Eng
namespace Go.Eng
end Go.Eng
namespace Go.Eng
theorem zkD {n m:Int} (hn:Fits64 n) (hm:Fits64 m) (h1:1≤m):pf E0 6 [.i .i64 n,.i .i64 m]=some (.i .i64 (aro n m)):=by
 refine zaa (xf:=zwZ) rfl (by simp[zwZ]) ?_
 simp only[zwZ]
 unfold Fits64 at hn hm
 have a0:=zd6 n h1
 have a1:=zlg n h1
 have q1:(m=0)=False:=by simp;omega
 by_cases h:n<0
 ·have e:(0-(n+1)).tmod m=aro n m:=by
   unfold aro
   rw[if_pos h,Int.tmod_eq_emod_of_nonneg (by omega)]
   congr 1;omega
  simp(disch:=omega)only[go_sem,seval,wqq,h,q1,e]
 ·have e:n.tmod m=aro n m:=by
   unfold aro
   rw[if_neg h,Int.tmod_eq_emod_of_nonneg (by omega)]
  simp(disch:=omega)only[go_sem,seval,wqq,h,q1,e]
theorem zlE {xs:List Int} (hx:Ints xs) {i m:Int} (hi:Fits64 i) (hm:Fits64 m) (h1:1≤m):pf E0 13 [ints xs,.i .i64 i,.i .i64 m]=some (.i .i64 (pick xs i m)):=by
 refine zaa (xf:=zxu) rfl (by simp[zxu]) ?_
 simp only[zxu]
 obtain⟨hx1,hx2⟩:=hx
 unfold pick
 by_cases h:i<0
 ·rw[if_pos (.inl h)]
  simp(disch:=omega)only[go_sem,seval,wqq,h]
 ·by_cases h':(xs.length:Int)≤i
  ·rw[if_pos (.inr h')]
   have q1:(i≥(xs.length:Int))=True:=by simp;omega
   simp(disch:=omega)only[go_sem,seval,wqq,h,q1]
  ·rw[if_neg (by omega)]
   have q1:(i≥(xs.length:Int))=False:=by simp;omega
   obtain⟨j,rfl⟩:∃j:Nat,i=j:=⟨i.toNat,by omega⟩
   have hj:j<xs.length:=by omega
   have hg:xs[j]?=some (xs.getD j 0):=by simp[hj]
   have ha:=zkD (n:=xs.getD j 0) (m:=m) (hx2 _ (by simp[hj])) hm h1
   simp(disch:=omega)only[go_sem,seval,wqq,h,q1,zfn hg,Int.toNat_natCast,ha]
end Go.Eng
namespace Go.Eng
end Go.Eng
namespace Go.Eng
end Go.Eng
namespace Go.Eng
end Go.Eng
