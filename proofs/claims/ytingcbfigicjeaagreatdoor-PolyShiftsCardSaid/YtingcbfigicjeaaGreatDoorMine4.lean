/- The engine and the contracts on which the statement stands: no conditions of its own. -/
import Derived.Test.YtingcbfigicjeaaGreatDoorMine3
set_option linter.unusedSimpArgs false
set_option linter.unusedVariables false
set_option linter.unusedSectionVars false
namespace Go.Eng
theorem zhz {p s:Int} (hs:s≠0):Nat.Coprime (p/gI p s).natAbs (s/gI p s).natAbs:=by
 have g:=zdi (p:=p) hs
 have e1:(p/gI p s).natAbs*(gI p s).natAbs=p.natAbs:=by rw[←Int.natAbs_mul,Int.ediv_mul_cancel (zbN p s)]
 have e2:(s/gI p s).natAbs*(gI p s).natAbs=s.natAbs:=by rw[←Int.natAbs_mul,Int.ediv_mul_cancel (zb6 p s)]
 have e3:(gI p s).natAbs=Nat.gcd p.natAbs s.natAbs:=Int.natAbs_natCast _
 have e4:=Nat.gcd_mul_right (p/gI p s).natAbs (gI p s).natAbs (s/gI p s).natAbs
 rw[e1,e2,←e3] at e4
 have:0<(gI p s).natAbs:=by omega
 exact Nat.eq_of_mul_eq_mul_right this (by rw[Nat.one_mul];exact e4.symm)
theorem zlA {p q r s:Int} (hq:0<q) (hs:0<s) (c1:Nat.gcd p.natAbs q.natAbs=1) (c2:Nat.gcd r.natAbs s.natAbs=1) :
  p/gI p s*(r/gI r q)=lowP (p*r) (q*s)∧q/gI r q*(s/gI p s)=lowQ (p*r) (q*s)∧0<q/gI r q*(s/gI p s)∧Nat.gcd (p/gI p s*(r/gI r q)).natAbs (q/gI r q*(s/gI p s)).natAbs=1:=by
 have g1:=zdi (p:=p) (q:=s) (by omega)
 have g2:=zdi (p:=r) (q:=q) (by omega)
 have k1:=zhz (p:=p) (s:=s) (by omega)
 have k2:=zhz (p:=r) (s:=q) (by omega)
 have a1:p/gI p s*gI p s=p:=Int.ediv_mul_cancel (zbN p s)
 have a2:s/gI p s*gI p s=s:=Int.ediv_mul_cancel (zb6 p s)
 have a3:r/gI r q*gI r q=r:=Int.ediv_mul_cancel (zbN r q)
 have a4:q/gI r q*gI r q=q:=Int.ediv_mul_cancel (zb6 r q)
 generalize gI p s=g at *
 generalize gI r q=h at *
 generalize p/g=u at *
 generalize s/g=z at *
 generalize r/h=v at *
 generalize q/h=w at *
 have z0:0<z:=Int.pos_of_mul_pos_left (by rw[a2];exact hs) g1
 have w0:0<w:=Int.pos_of_mul_pos_left (by rw[a4];exact hq) g2
 have du:u.natAbs∣p.natAbs:=Int.natAbs_dvd_natAbs.2 ⟨g,a1.symm⟩
 have dw:w.natAbs∣q.natAbs:=Int.natAbs_dvd_natAbs.2 ⟨h,a4.symm⟩
 have dv:v.natAbs∣r.natAbs:=Int.natAbs_dvd_natAbs.2 ⟨h,a3.symm⟩
 have dz:z.natAbs∣s.natAbs:=Int.natAbs_dvd_natAbs.2 ⟨g,a2.symm⟩
 have k3:Nat.Coprime u.natAbs w.natAbs:=Nat.Coprime.coprime_dvd_left du (Nat.Coprime.coprime_dvd_right dw c1)
 have k4:Nat.Coprime v.natAbs z.natAbs:=Nat.Coprime.coprime_dvd_left dv (Nat.Coprime.coprime_dvd_right dz c2)
 have hc:Nat.gcd (u*v).natAbs (w*z).natAbs=1:=by
  rw[Int.natAbs_mul,Int.natAbs_mul]
  exact Nat.Coprime.mul_left (Nat.Coprime.mul_right k3 k1) (Nat.Coprime.mul_right k2 k4)
 have hp:0<w*z:=Int.mul_pos w0 z0
 have hx:q*s≠0:=Int.mul_ne_zero (by omega) (by omega)
 have cr:=ze0 (p:=p*r) hx
 obtain⟨e1,e2⟩:=zes (p:=u*v) (q:=w*z) hp (zfE hx) hc (zfD hx) (by
  apply Int.eq_of_mul_eq_mul_right (a:=q*s) hx
  have:u*v*(q*s)=p*r*(w*z):=by rw[←a1,←a2,←a3,←a4];grind
  calc u*v*lowQ (p*r) (q*s)*(q*s)=u*v*(q*s)*lowQ (p*r) (q*s):=by grind
   _=p*r*(w*z)*lowQ (p*r) (q*s):=by rw[this]
   _=p*r*lowQ (p*r) (q*s)*(w*z):=by grind
   _=lowP (p*r) (q*s)*(q*s)*(w*z):=by rw[cr]
   _=lowP (p*r) (q*s)*(w*z)*(q*s):=by grind)
 exact⟨e1,e2,hp,hc⟩
def muP (a b:FQ):Int:=lowP (a.p.v*b.p.v) (a.q.v*b.q.v)
def muQ (a b:FQ):Int:=lowQ (a.p.v*b.p.v) (a.q.v*b.q.v)
theorem zkF (a b:FQ):(inR (muP a b).natAbs∧inR (muQ a b).natAbs→∃f:FQ,f.p.v=muP a b∧f.q.v=muQ a b∧pf E0 8 [fqP a,fqP b]=some (.tu [fqP f,.i .i64 0])) ∧
  (¬(inR (muP a b).natAbs∧inR (muQ a b).natAbs)→pf E0 8 [fqP a,fqP b]=some (.tu [fqP fq0,.i .i64 4])):=by
 have qa:=a.q1
 have qb:=b.q1
 obtain⟨m1,m2,m3,m4⟩:=zlA (p:=a.p.v) (q:=a.q.v) (r:=b.p.v) (s:=b.q.v) (by omega) (by omega) a.cop b.cop
 have hg:=zhd a.p b.q
 have hh:=zhd b.p a.q
 have gv:=zln a.p b.q
 have hv:=zln b.p a.q
 have gn:(a.p.gcd b.q).v≠0:=by rw[gv];exact zg7 (by omega)
 have hn:(b.p.gcd a.q).v≠0:=by rw[hv];exact zg7 (by omega)
 obtain⟨u,eu,fu⟩:=zcQ a.p _ gn
 obtain⟨v,ev,fv⟩:=zcQ b.p _ hn
 obtain⟨w,ew,fw⟩:=zcQ a.q _ hn
 obtain⟨z,ez,fz'⟩:=zcQ b.q _ gn
 rw[gv] at eu ez
 rw[hv] at ev ew
 have n1:=zcp u v
 have n2:=zcp w z
 have e1:u.v*v.v=muP a b:=by rw[eu,ev];exact m1
 have e2:w.v*z.v=muQ a b:=by rw[ew,ez];exact m2
 rw[m1,m2] at m4
 rw[m2] at m3
 have m3:0<muQ a b:=m3
 have m4:Nat.gcd (muP a b).natAbs (muQ a b).natAbs=1:=m4
 rw[e1] at n1
 rw[e2] at n2
 constructor
 ·rintro⟨r1,r2⟩
  obtain⟨c1,l1⟩:=zdm r1
  obtain⟨c2,l2⟩:=zdm r2
  have fl:=zgB (clip (muP a b)) (clip (muQ a b)) (by rw[c2];omega) (by rw[c1,c2];exact m4)
  rw[l1] at n1
  rw[l2] at n2
  exact⟨⟨clip (muP a b),clip (muQ a b),by rw[c2];omega,by rw[c1,c2];exact m4⟩,c1,c2,zii a b _ 0 hg hh fu fv n1 fw fz' n2 fl⟩
 ·intro hno
  refine zii a b fq0 4 hg hh fu fv n1 fw fz' n2 (zik _ _ ?_)
  by_cases l1:lerr (muP a b)=0
  ·right
   intro l2
   exact hno ⟨zfz l1,zfz l2⟩
  ·exact .inl l1
end Go.Eng
namespace Go.Eng
end Go.Eng
namespace Go.Eng
noncomputable def ftx (p q:Int):List UInt8:=if q=1 then decI p else decI p++[47]++decI q
theorem zdQ (x:WI):(decI x.v).length≤1000000:=by
 have h:=zjy ((zbm _).1 x.lim)
 have h1:(dec x.v.natAbs).length≤4956+1:=by
  unfold dec;split
  ·simp
  ·rw[zcz];omega
 unfold decI;split<;>(try simp only[List.length_cons])<;>omega
theorem zij (f:FQ):pf E0 16 [fqP f]=some (.s (ftx f.p.v f.q.v)):=by
 have df:=zd2 f
 have s1:=zn5 f.p
 have s2:=zn5 f.q
 have sg:=zd0 f.l
 have l1:=zdQ f.p
 have l2:=zdQ f.q
 have hl:f.l.v=f.q.v-1:=rfl
 have q1:=f.q1
 refine zab (xf:=ztJ) rfl (by simp[ztJ]) ?_
 simp only[ztJ]
 unfold ftx
 by_cases h:f.q.v=1
 ·rw[if_pos h]
  have sc:(cmpI f.l.v 0=0)=True:=by rw[hl,h];simp[cmpI]
  simp(disch:=omega)only[go_sem,seval,wqq,sg,sc,s1]
 ·rw[if_neg h]
  have sc:(cmpI f.l.v 0=0)=False:=by
   have:cmpI f.l.v 0=1:=by unfold cmpI;rw[if_neg (by omega),if_pos (by omega)]
   rw[this];simp
  have a1:binP .add (.s (decI f.p.v)) (.s [47])=some (.s (decI f.p.v++[47])):=zec _ _ (by simp only[List.length_cons,List.length_nil];omega)
  have a2:binP .add (.s (decI f.p.v++[47])) (.s (decI f.q.v))=some (.s (decI f.p.v++[47]++decI f.q.v)):=zec _ _ (by simp only[List.length_append,List.length_cons,List.length_nil];omega)
  simp(disch:=omega)only[go_sem,seval,wqq,sg,sc]
  refine zaP [1] rfl (by simp only[go_sem,seval]) ?_
  simp(disch:=omega)only[go_sem,seval,wqq,df,s1,s2,a1,a2]
end Go.Eng
namespace Go.Eng
end Go.Eng
namespace Go.Eng
end Go.Eng
namespace Go.Eng
end Go.Eng
namespace Go.Eng
end Go.Eng
namespace Go.Eng
theorem zi4 {x y:WI} (h:x.v=y.v):x=y:=by cases x;cases y;cases h;rfl
theorem zhJ {f g:FQ} (h1:f.p.v=g.p.v) (h2:f.q.v=g.q.v):f=g:=by
 have e1:=zi4 h1
 have e2:=zi4 h2
 cases f;cases g
 simp only at e1 e2
 subst e1 e2;rfl
def FQ.is (f:FQ) (n d:Int):Prop:=f.p.v*d=n*f.q.v
theorem zhU {f:FQ} {n d:Int} (h:d≠0) (h1:f.p.v=lowP n d) (h2:f.q.v=lowQ n d):f.is n d:=by
 unfold FQ.is;rw[h1,h2];exact ze0 h
theorem zlu (f:FQ):f.is f.p.v f.q.v:=rfl
theorem zlv {f g:FQ} {n d n' d':Int} (hd:d≠0) (hd':d'≠0) (hf:f.is n d) (hg:g.is n' d') (e:n*d'=n'*d):f=g:=by
 unfold FQ.is at hf hg
 have qf:=f.q1
 have qg:=g.q1
 have key:f.p.v*g.q.v=g.p.v*f.q.v:=by
  apply Int.eq_of_mul_eq_mul_right (a:=d*d') (Int.mul_ne_zero hd hd')
  calc f.p.v*g.q.v*(d*d')=f.p.v*d*(g.q.v*d'):=by grind
   _=n*f.q.v*(g.q.v*d'):=by rw[hf]
   _=n*d'*(f.q.v*g.q.v):=by grind
   _=n'*d*(f.q.v*g.q.v):=by rw[e]
   _=n'*g.q.v*(f.q.v*d):=by grind
   _=g.p.v*d'*(f.q.v*d):=by rw[hg]
   _=g.p.v*f.q.v*(d*d'):=by grind
 obtain⟨a,b⟩:=zes (by omega) (by omega) f.cop g.cop key
 exact zhJ a b
theorem zjz {f:FQ} {n d:Int} (h:f.is n d) (k:Int):f.is (n*k) (d*k):=by
 unfold FQ.is at *
 rw[←Int.mul_assoc,h];grind
def fsz (n:Nat) (f:FQ):Prop:=tlen f.p.v.natAbs≤n∧tlen f.q.v.natAbs≤n
theorem zgV {a g:Int} (h:g∣a):tlen (a/g).natAbs≤tlen a.natAbs:=by
 refine zaK ?_
 rw[Int.natAbs_ediv_of_dvd h];exact Nat.div_le_self _ _
theorem zmJ (a b:FQ) {n m:Nat} (ha:fsz n a) (hb:fsz m b) (h:n+m+1<1230):∃f:FQ,pf E0 9 [fqP a,fqP b]=some (.tu [fqP f,.i .i64 0])∧f.is (a.p.v*b.q.v+b.p.v*a.q.v) (a.q.v*b.q.v)∧fsz (n+m+1) f:=by
 obtain⟨a1,a2⟩:=ha
 obtain⟨b1,b2⟩:=hb
 have qa:=a.q1
 have qb:=b.q1
 have k1:=zgV (zb6 a.q.v b.q.v)
 have k2:=zgV (zbN a.q.v b.q.v)
 have d1:b.q.v/gI a.q.v b.q.v*gI a.q.v b.q.v=b.q.v:=Int.ediv_mul_cancel (zb6 _ _)
 have d2:a.q.v/gI a.q.v b.q.v*gI a.q.v b.q.v=a.q.v:=Int.ediv_mul_cancel (zbN _ _)
 have t1:tlen (adX a b).natAbs≤n+m:=Nat.le_trans (zaj _ _) (by omega)
 have t2:tlen (adY a b).natAbs≤n+m:=Nat.le_trans (zaj _ _) (by omega)
 have t3:tlen (adD a b).natAbs≤n+m:=Nat.le_trans (zaj _ _) (by omega)
 have t4:tlen (adX a b+adY a b).natAbs≤n+m+1:=Nat.le_trans (zct _ _) (by omega)
 have dn:=zkh a b
 obtain⟨f,h1,h2,hf⟩:=(zkE a b).1 ⟨zcP (by omega),zcP (by omega),zcP (by omega),zcP (by omega)⟩
 refine⟨f,hf,?_,?_,?_⟩
 ·have hs:=zjz (zhU dn h1 h2) (gI a.q.v b.q.v)
  have e1:(adX a b+adY a b)*gI a.q.v b.q.v=a.p.v*b.q.v+b.p.v*a.q.v:=by
   unfold adX adY
   rw[Int.add_mul,Int.mul_assoc,Int.mul_assoc,d1,d2]
  have e2:adD a b*gI a.q.v b.q.v=a.q.v*b.q.v:=by
   unfold adD
   rw[Int.mul_right_comm,d2]
  rwa [e1,e2] at hs
 ·rw[h1];exact Nat.le_trans (zaK (zfB dn)) t4
 ·rw[h2];exact Nat.le_trans (zaK (zfC dn)) (by omega)
theorem znE (a b:FQ) {n m:Nat} (ha:fsz n a) (hb:fsz m b) (h:n+m<1230):∃f:FQ,pf E0 8 [fqP a,fqP b]=some (.tu [fqP f,.i .i64 0])∧f.is (a.p.v*b.p.v) (a.q.v*b.q.v)∧fsz (n+m) f:=by
 obtain⟨a1,a2⟩:=ha
 obtain⟨b1,b2⟩:=hb
 have qa:=a.q1
 have qb:=b.q1
 have dn:a.q.v*b.q.v≠0:=Int.mul_ne_zero (by omega) (by omega)
 have t1:tlen (muP a b).natAbs≤n+m:=Nat.le_trans (zaK (zfB dn)) (Nat.le_trans (zaj _ _) (by omega))
 have t2:tlen (muQ a b).natAbs≤n+m:=Nat.le_trans (zaK (zfC dn)) (Nat.le_trans (zaj _ _) (by omega))
 obtain⟨f,h1,h2,hf⟩:=(zkF a b).1 ⟨zcP (by omega),zcP (by omega)⟩
 exact⟨f,hf,zhU dn h1 h2,by rw[h1];exact t1,by rw[h2];exact t2⟩
end Go.Eng
namespace Go.Eng
def isPR:PV→Bool
 | .p _ _=>true
 | .sl _ _ _ _ _=>true
 | .tu _=>true
 | _=>false
def slotIn3 (E:PEnv) (ops:List XOper) (L:List Nat) (c:Nat×Nat):Bool :=
 match ops[c.1]?,ops[c.2]? with
 | some a,some b =>
  match a.op.looks with
  | .t s=>a.op.cls==2&&L.contains s&&calmOp E b.op
  | _=>false
 | _,_=>false
end Go.Eng
namespace Go.Eng
def apP:PV→PV→Bool
 | .p a _,.p b _ => !(Nat.beq a b)
 | _,_=>false
def slotSt (ops:List XOper) (L R:List Nat) (c:Nat×Nat):Bool :=
 match ops[c.1]?,ops[c.2]? with
 | some a,some b =>
  match a.op,b.op with
  | .load _ _ (.t s),.store _ (.t r) _=>L.contains s&&R.contains r&&fixedX ops c.2 (.t r)
  | _,_=>false
 | _,_=>false
end Go.Eng
namespace Go.Eng
theorem mG (G L:PM) (k:Nat):PM.blk (G++L) (G.length+k)=PM.blk L k:=by
 unfold PM.blk
 rw[List.getElem?_append_right (by omega),Nat.add_sub_cancel_left]
theorem mG0 (G L:PM):PM.blk (G++L) G.length=PM.blk L 0:=mG G L 0
theorem sG (G L:PM) (k:Nat) (v:Option PB):(G++L).set (G.length+k) v=G++L.set k v:=by
 rw[List.set_append_right _ _ (by omega),Nat.add_sub_cancel_left]
theorem sG0 (G L:PM) (v:Option PB):(G++L).set G.length v=G++L.set 0 v:=sG G L 0 v
theorem lG (G L:PM):(G++L).length=G.length+L.length:=List.length_append
end Go.Eng
namespace Go.Eng
def pk (xs:List Int) (i:Int):Int:=if i<0∨(xs.length:Int)≤i then 0 else xs.getD i.toNat 0
theorem zfM {xs:List Int} (hx:Ints xs) (i:Int):Fits64 (pk xs i):=by
 unfold pk
 by_cases h:i<0∨(xs.length:Int)≤i
 ·rw[if_pos h];decide
 ·rw[if_neg h]
  have hl:i.toNat<xs.length:=by omega
  exact hx.2 _ (by simp[hl])
theorem ztk {xs:List Int} (hx:Ints xs) {i:Int} (hi:Fits64 i):pf E0 180 [ints xs,.i .i64 i]=some (.i .i64 (pk xs i)):=by
 refine zab (xf:=zu6) rfl (by simp[zu6]) ?_
 simp only[zu6]
 obtain⟨hx1,hx2⟩:=hx
 unfold pk
 by_cases h:i<0
 ·rw[if_pos (.inl h)]
  simp(disch:=omega)only[go_sem,seval,wqq,h]
 ·by_cases h':(xs.length:Int)≤i
  ·rw[if_pos (.inr h')]
   have q1:(i≥(xs.length:Int))=True:=by simp;omega
   simp(disch:=omega)only[go_sem,seval,wqq,h,q1]
  ·rw[if_neg (by omega)]
   have q1:(i≥(xs.length:Int))=False:=by simp;omega
   obtain⟨j,rfl⟩:∃j:Nat,i=j:=⟨i.toNat,by omega⟩
   have hl:j<xs.length:=by omega
   have hg:xs[j]?=some (xs.getD j 0):=by simp[hl]
   simp(disch:=omega)only[go_sem,seval,wqq,h,q1,zdl hg,Int.toNat_natCast]
theorem za2 (a:Int) {n:Int} (h:0<n) : -n<a.tmod n∧a.tmod n<n:=by
 have h1:=Int.tmod_lt_of_pos a h
 have h2:=Int.lt_tmod_of_pos a h
 omega
theorem zny {P Q:Int} {n:Nat} (hq:Q≠0) (hp:tlen P.natAbs≤n) (hl:tlen Q.natAbs≤n) (hn:n<1230):∃f:FQ,f.p.v=lowP P Q∧f.q.v=lowQ P Q∧fsz n f:=by
 have t1:=Nat.le_trans (zaK (zfB (p:=P) hq)) hp
 have t2:=Nat.le_trans (zaK (zfC (p:=P) hq)) hl
 exact⟨⟨⟨lowP P Q,znt (zcP (by omega))⟩,⟨lowQ P Q,znt (zcP (by omega))⟩,zfE hq,zfD hq⟩,rfl,rfl,t1,t2⟩
end Go.Eng
namespace Go.Eng
def okC (c:Nat→Int):Prop:=∀e,e<20 → -1073741824≤c e∧c e≤1073741824
open Classical in
noncomputable def vlC (c:Nat→Int):Int:=if okC c then 0 else 1
theorem zg5 (p:Prop):p=True∨p=False:=by by_cases h:p;exact .inl (eq_true h);exact .inr (eq_false h)
theorem zaw (c:Nat→Int):pf E0 416 [aI 20 c]=some (.i .i64 (vlC c)):=by
 refine zab (xf:=zut) rfl (by simp[zut]) ?_
 simp only[zut]
 simp(disch:=omega)only[go_sem,seval,wqq]
 refine zag zvp.eq_1 (fun(i:Nat) fr M=>i≤20∧(∀e,e<i → -1073741824≤c e∧c e≤1073741824)∧fr 5=aI 20 c∧fr 6=(PV.i .i64 ((i:Nat):Int))) (fun i=>20-i) ?_ 0 ⟨by omega,fun e he=>by omega,by simp only[go_sem,seval],by simp only[go_sem,seval]⟩
 rintro i fr M ⟨hi,hlo,f5,f6⟩ ih
 rcases Nat.lt_or_ge i 20 with h|h
 ·have q1:((i:Int)<20)=True:=eq_true (by omega)
  have ix:=zc7 c h
  have bad:¬(-1073741824≤c i∧c i≤1073741824)→vlC c=1:=fun q=>if_neg fun z=>q (z i h)
  rcases zg5 (c i < -1073741824) with t1|t1
  ·rw[bad (by have:=of_eq_true t1;omega)]
   simp(disch:=omega)only[go_sem,seval,wqq,f5,f6,q1,ix,t1]
  ·rcases zg5 (c i>1073741824) with t2|t2
   ·rw[bad (by have:=of_eq_true t2;omega)]
    simp(disch:=omega)only[go_sem,seval,wqq,f5,f6,q1,ix,t1,t2]
   ·have u1:=of_eq_false t1
    have u2:=of_eq_false t2
    simp(disch:=omega)only[go_sem,seval,wqq,f5,f6,q1,ix,t1,t2]
    refine ih (i+1) _ _ (by omega) ⟨by omega,fun e he=>?_,by simp only[go_sem,seval,f5],by simp only[go_sem,seval];rw[Int.natCast_succ]⟩
    rcases Nat.lt_or_ge e i with z|z
    ·exact hlo e z
    ·obtain rfl:e=i:=by omega
     omega
 ·obtain rfl:i=20:=by omega
  have:vlC c=0:=if_pos hlo
  rw[this]
  simp(disch:=omega)only[go_sem,seval,wqq,f5,f6]
theorem zcR (c:Nat→Int):pf E0 417 [aI 20 c]=some (.i .i64 (vlC c)):=by
 refine zab (xf:=zuM) rfl (by simp[zuM]) ?_
 simp only[zuM]
 simp(disch:=omega)only[go_sem,seval,wqq]
 refine zag zvA.eq_1 (fun(i:Nat) fr M=>i≤20∧(∀e,e<i → -1073741824≤c e∧c e≤1073741824)∧fr 1=.p 0 0∧fr 3=(PV.i .i64 ((i:Nat):Int))∧M=[some ⟨cs 20 c,true,0⟩]) (fun i=>20-i) ?_ 0 ⟨by omega,fun e he=>by omega,by simp only[go_sem,seval],by simp only[go_sem,seval],rfl⟩
 rintro i fr M ⟨hi,hlo,f1,f3,rfl⟩ ih
 rcases Nat.lt_or_ge i 20 with h|h
 ·have q1:((i:Int)<20)=True:=eq_true (by omega)
  have qL:(i<20)=True:=eq_true h
  have ix:=zbj c h
  have bad:¬(-1073741824≤c i∧c i≤1073741824)→vlC c=1:=fun q=>if_neg fun z=>q (z i h)
  rcases zg5 (c i < -1073741824) with t1|t1
  ·rw[bad (by have:=of_eq_true t1;omega)]
   simp(disch:=omega)only[go_sem,seval,wqq,f1,f3,q1,qL,ix,t1]
  ·rcases zg5 (c i>1073741824) with t2|t2
   ·rw[bad (by have:=of_eq_true t2;omega)]
    simp(disch:=omega)only[go_sem,seval,wqq,f1,f3,q1,qL,ix,t1,t2]
   ·have u1:=of_eq_false t1
    have u2:=of_eq_false t2
    simp(disch:=omega)only[go_sem,seval,wqq,f1,f3,q1,qL,ix,t1,t2]
    refine ih (i+1) _ _ (by omega) ⟨by omega,fun e he=>?_,by simp only[go_sem,seval,f1],by simp only[go_sem,seval];rw[Int.natCast_succ],rfl⟩
    rcases Nat.lt_or_ge e i with z|z
    ·exact hlo e z
    ·obtain rfl:e=i:=by omega
     omega
 ·obtain rfl:i=20:=by omega
  have:vlC c=0:=if_pos hlo
  rw[this]
  simp(disch:=omega)only[go_sem,seval,wqq,f1,f3]
theorem ziY {n:Int} (k:Int) (h:n≤0):n.tmod k≤0:=by
 have:=Int.tmod_nonneg k (show 0 ≤ -n by omega)
 rw[Int.neg_tmod] at this
 omega
def genC (n:Int):Int:=if n.tmod 5=1∨n.tmod 5 = -1 then (n.tdiv 5).tmod 10 else if n.tmod 5=2 then (n.tdiv 5).tmod 5000 else if n.tmod 5=3 then 1073741824-(n.tdiv 5).tmod 3 else if n.tmod 5 = -3 then-1073741824-(n.tdiv 5).tmod 3 else 0
def genP (xs:List Int):Nat→Int:=fun e=>genC (pk xs e)
theorem zhN {n:Int} (h:Fits64 n) : -1073741824≤genC n∧genC n≤1073741824:=by
 unfold genC
 have a1:=za2 (n.tdiv 5) (n:=10) (by decide)
 have a2:=za2 (n.tdiv 5) (n:=5000) (by decide)
 have a3:=za2 (n.tdiv 5) (n:=3) (by decide)
 split
 ·omega
 ·split
  ·omega
  ·split
   ·rename_i q
    have:0≤n:=by
     rcases Int.lt_or_le n 0 with z|z
     ·have:=ziY 5 (Int.le_of_lt z);omega
     ·exact z
    have h0:0≤(n.tdiv 5).tmod 3:=Int.tmod_nonneg _ (Int.tdiv_nonneg this (by decide))
    omega
   ·split
    ·rename_i q
     have:n≤0:=by
      rcases Int.lt_or_le 0 n with z|z
      ·have:=Int.tmod_nonneg 5 (Int.le_of_lt z);omega
      ·exact z
     have h0:(n.tdiv 5).tmod 3≤0:=ziY _ (by have:=Int.tdiv_nonneg (show 0 ≤ -n by omega) (show (0:Int)≤5 by decide);rw[Int.neg_tdiv] at this;omega)
     omega
    ·omega
theorem zlp {xs:List Int} (hx:Ints xs):okC (genP xs):=fun e _=>zhN (zfM hx _)
set_option maxHeartbeats 4000000 in
theorem zn4 {xs:List Int} (hx:Ints xs):pf E0 395 [ints xs,.i .i64 0]=some (aI 20 (genP xs)):=by
 refine zab (xf:=zu3) rfl (by simp[zu3]) ?_
 simp only[zu3]
 simp(disch:=omega)only[go_sem,seval,wqq]
 refine zag zvJ.eq_1 (fun(i:Nat) fr M=>i≤20∧fr 0=ints xs∧fr 1=.i .i64 0∧fr 4=.p 0 0∧fr 5=.p 1 0∧fr 6=(PV.i .i64 ((i:Nat):Int))∧∃f v,(∀e,e<i→f e=genP xs e)∧(∀e,i≤e→f e=0)∧M=[some ⟨cs 20 zF,true,0⟩,some ⟨cs 20 f,true,v⟩]) (fun i=>20-i) ?_ 0 ⟨by omega,by simp only[go_sem,seval],by simp only[go_sem,seval],by simp only[go_sem,seval],by simp only[go_sem,seval],by simp only[go_sem,seval],zF,0,fun e he=>by omega,fun _ _=>rfl,rfl⟩
 rintro i fr M ⟨hi,f0,f1,f4,f5,f6,f,v,hf,hz,rfl⟩ ih
 rcases Nat.lt_or_ge i 20 with h|h
 ·have q1:((i:Int)<20)=True:=eq_true (by omega)
  have qL:(i<20)=True:=eq_true h
  have zz:(0:Int)+(i:Int)=(i:Int):=Int.zero_add _
  have k:=ztk hx (i:=(i:Int)) (by unfold Fits64;omega)
  have hg:genP xs i=genC (pk xs i):=rfl
  have bn:=zhN (zfM hx i)
  have fn:=zfM hx i
  generalize pk xs i=n at *
  have a1:=za2 (n.tdiv 5) (n:=10) (by decide)
  have a2:=za2 (n.tdiv 5) (n:=5000) (by decide)
  have a3:=za2 (n.tdiv 5) (n:=3) (by decide)
  have wd:IntKind.wrap .i64 (n.tdiv 5)=n.tdiv 5:=by
   unfold Fits64 at fn
   have:(n.tdiv 5).natAbs=n.natAbs/5:=Int.natAbs_tdiv ..
   exact wqa (by omega) (by omega)
  have st:∀g,g=genC n→∀e,e<i+1→upd f i g e=genP xs e:=fun g hgg e he=>by
   unfold upd
   split
   ·rename_i z;rw[z,hg,hgg]
   ·exact hf e (by omega)
  have sz:∀g e,i+1≤e→upd f i g e=0:=fun g e he=>by rw[zbJ (by omega)];exact hz e (by omega)
  unfold genC at bn st hg
  by_cases c1:n.tmod 5=1∨n.tmod 5 = -1
  ·rw[if_pos c1] at st bn
   rcases c1 with c1|c1
   ·simp(disch:=omega)only[go_sem,seval,wqq,f0,f1,f4,f5,f6,q1,qL,zz,k,c1,wd]
    exact ih (i+1) _ _ (by omega) ⟨by omega,by simp only[go_sem,seval,f0],by simp only[go_sem,seval,f1],by simp only[go_sem,seval,f4],by simp only[go_sem,seval,f5],by simp only[go_sem,seval,f6];rw[Int.natCast_succ],_,_,st _ rfl,sz _,rfl⟩
   ·simp(disch:=omega)only[go_sem,seval,wqq,f0,f1,f4,f5,f6,q1,qL,zz,k,c1,wd]
    exact ih (i+1) _ _ (by omega) ⟨by omega,by simp only[go_sem,seval,f0],by simp only[go_sem,seval,f1],by simp only[go_sem,seval,f4],by simp only[go_sem,seval,f5],by simp only[go_sem,seval,f6];rw[Int.natCast_succ],_,_,st _ rfl,sz _,rfl⟩
  ·rw[if_neg c1] at st bn hg
   have d1:(n.tmod 5=1)=False:=eq_false fun q=>c1 (.inl q)
   have d2:(n.tmod 5 = -1)=False:=eq_false fun q=>c1 (.inr q)
   by_cases c2:n.tmod 5=2
   ·rw[if_pos c2] at st bn
    simp(disch:=omega)only[go_sem,seval,wqq,f0,f1,f4,f5,f6,q1,qL,zz,k,c2,wd]
    exact ih (i+1) _ _ (by omega) ⟨by omega,by simp only[go_sem,seval,f0],by simp only[go_sem,seval,f1],by simp only[go_sem,seval,f4],by simp only[go_sem,seval,f5],by simp only[go_sem,seval,f6];rw[Int.natCast_succ],_,_,st _ rfl,sz _,rfl⟩
   ·rw[if_neg c2] at st bn hg
    by_cases c3:n.tmod 5=3
    ·rw[if_pos c3] at st bn
     simp(disch:=omega)only[go_sem,seval,wqq,f0,f1,f4,f5,f6,q1,qL,zz,k,c3,wd]
     exact ih (i+1) _ _ (by omega) ⟨by omega,by simp only[go_sem,seval,f0],by simp only[go_sem,seval,f1],by simp only[go_sem,seval,f4],by simp only[go_sem,seval,f5],by simp only[go_sem,seval,f6];rw[Int.natCast_succ],_,_,st _ rfl,sz _,rfl⟩
    ·rw[if_neg c3] at st bn hg
     by_cases c4:n.tmod 5 = -3
     ·rw[if_pos c4] at st bn
      simp(disch:=omega)only[go_sem,seval,wqq,f0,f1,f4,f5,f6,q1,qL,zz,k,c4,wd]
      exact ih (i+1) _ _ (by omega) ⟨by omega,by simp only[go_sem,seval,f0],by simp only[go_sem,seval,f1],by simp only[go_sem,seval,f4],by simp only[go_sem,seval,f5],by simp only[go_sem,seval,f6];rw[Int.natCast_succ],_,_,st _ rfl,sz _,rfl⟩
     ·rw[if_neg c4] at hg
      have d3:(n.tmod 5=2)=False:=eq_false c2
      have d4:(n.tmod 5=3)=False:=eq_false c3
      have d5:(n.tmod 5 = -3)=False:=eq_false c4
      simp(disch:=omega)only[go_sem,seval,wqq,f0,f1,f4,f5,f6,q1,qL,zz,k,d1,d2,d3,d4,d5]
      refine ih (i+1) _ _ (by omega) ⟨by omega,by simp only[go_sem,seval,f0],by simp only[go_sem,seval,f1],by simp only[go_sem,seval,f4],by simp only[go_sem,seval,f5],by simp only[go_sem,seval,f6];rw[Int.natCast_succ],f,_,fun e he=>?_,fun e he=>hz e (by omega),rfl⟩
      rcases Nat.lt_or_ge e i with z|z
      ·exact hf e z
      ·obtain rfl:e=i:=by omega
       rw[hz e (Nat.le_refl _),hg]
 ·obtain rfl:i=20:=by omega
  simp(disch:=omega)only[go_sem,seval,wqq,f0,f1,f4,f5,f6]
  rw[zeN (Y:=genP xs) (fun e he=>hf e he)]
end Go.Eng
namespace Go.Eng
noncomputable def cW (w:Nat→WI):List PV:=[.b (decide ((w 0).v<0)),D (w 0).v.natAbs,.b (decide ((w 1).v<0)),D (w 1).v.natAbs,.b (decide ((w 2).v<0)),D (w 2).v.natAbs,.b (decide ((w 3).v<0)),D (w 3).v.natAbs,.b (decide ((w 4).v<0)),D (w 4).v.natAbs,.b (decide ((w 5).v<0)),D (w 5).v.natAbs,.b (decide ((w 6).v<0)),D (w 6).v.natAbs,.b (decide ((w 7).v<0)),D (w 7).v.natAbs,.b (decide ((w 8).v<0)),D (w 8).v.natAbs]
noncomputable def mW (w:Nat→WI):PV:=.ag (cW w)
def cI (p:Nat→Int):List PV:=[.i .i64 (p 0),.i .i64 (p 1),.i .i64 (p 2),.i .i64 (p 3),.i .i64 (p 4),.i .i64 (p 5),.i .i64 (p 6),.i .i64 (p 7),.i .i64 (p 8)]
def pI (p:Nat→Int):PV:=.ag (cI p)
end Go.Eng
namespace Go.Eng
end Go.Eng
namespace Go.Eng
end Go.Eng
namespace Go.Eng
def gN (X:Nat→Int):Nat→Nat
 | 0=>0
 | i+1=>Nat.gcd (gN X i) (X i).natAbs
noncomputable def gW (x:Nat→WI):Nat→WI
 | 0=>wi0
 | i+1=>(gW x i).gcd (x i)
noncomputable def gC (x:Nat→WI):Nat→List PV
 | 0=>[.b false,.nl]
 | i+1=>[.b (decide ((gW x (i+1)).v<0)),D (gW x (i+1)).v.natAbs]
end Go.Eng
namespace Go.Eng
theorem zgE {z:Int} (lz:tlen z.natAbs<100000):pf E0 117 [nP z]=some (.tu [.i .i64 (small z),.b (isSmall z)]):=by
 obtain⟨mx,hmx⟩:∃mx:Int,mx=9223372036854775807:=⟨_,rfl⟩
 obtain⟨mn,hmn⟩:∃mn:Int,mn = -9223372036854775808:=⟨_,rfl⟩
 have o1:pf E0 114 [.i .i64 9223372036854775807]=some (nP mx):=by rw[hmx];exact zio 9223372036854775807 (by unfold Fits64;omega)
 have o2:pf E0 114 [.i .i64 (-9223372036854775808)]=some (nP mn):=by rw[hmn];exact zio (-9223372036854775808) (by unfold Fits64;omega)
 have l1:tlen (9223372036854775807:Int).natAbs<100000:=by
  have:tlen (9223372036854775807:Int).natAbs≤5:=zaC (by decide)
  omega
 have l2:tlen (-9223372036854775808:Int).natAbs<100000:=by
  have:tlen (-9223372036854775808:Int).natAbs≤5:=zaC (by decide)
  omega
 have c1:=zd3 z mx (by omega) (by rw[hmx];omega)
 have c2:=zd3 z mn (by omega) (by rw[hmn];omega)
 refine zab (xf:=zuF) rfl (by simp[zuF]) ?_
 simp only[zuF]
 have hcz:(nP z).cells=[.b (decide (z<0)),T z.natAbs]:=rfl
 by_cases h1:9223372036854775807<z
 ·have hf:isSmall z=false:=decide_eq_false (by omega)
  have hf2:small z=0:=by unfold small;rw[hf];rfl
  have q1:(cmpI z mx>0)=True:=by rw[zf3];simp;omega
  simp(disch:=omega)only[go_sem,seval,wqq]
  refine zbW (fun fr2 Ms hT=>by rw[List.all_cons,List.all_cons,zby hT rfl,zcf hT (i:=5) (j:=6) rfl rfl rfl rfl rfl (n:=0) (o:=0) (by simp only[go_sem,seval])];rfl) ?_
  simp(disch:=omega)only[go_sem,seval,wqq,o1,o2,c1,c2,q1,hf,hf2]
 ·have q1:(cmpI z mx>0)=False:=by rw[zf3];simp;omega
  by_cases h2:z < -9223372036854775808
  ·have hf:isSmall z=false:=decide_eq_false (by omega)
   have hf2:small z=0:=by unfold small;rw[hf];rfl
   have q2:(cmpI z mn<0)=True:=by rw[zbT];simp;omega
   simp(disch:=omega)only[go_sem,seval,wqq]
   refine zbW (fun fr2 Ms hT=>by rw[List.all_cons,List.all_cons,zby hT rfl,zcf hT (i:=5) (j:=6) rfl rfl rfl rfl rfl (n:=0) (o:=0) (by simp only[go_sem,seval])];rfl) ?_
   simp(disch:=omega)only[go_sem,seval,wqq,o1,o2,c1,c2,q1,q2,hf,hf2]
  ·have q2:(cmpI z mn<0)=False:=by rw[zbT];simp;omega
   have hf:isSmall z=true:=decide_eq_true (by omega)
   have hf2:small z=z:=by unfold small;rw[hf];rfl
   rw[hf,hf2]
   simp(disch:=omega)only[go_sem,seval,wqq]
   refine zbW (fun fr2 Ms hT=>by rw[List.all_cons,List.all_cons,zby hT rfl,zcf hT (i:=5) (j:=6) rfl rfl rfl rfl rfl (n:=0) (o:=0) (by simp only[go_sem,seval])];rfl) ?_
   simp(disch:=omega)only[go_sem,seval,wqq,o1,o2,c1,c2,q1,q2]
   have hv:z.natAbs≤9223372036854775808:=by omega
   have eT:T z.natAbs=Tw (tlen z.natAbs) z.natAbs:=rfl
   refine zag zvI.eq_1 (fun(i:Nat) fr M=>i≤tlen z.natAbs∧fr 1=.p 0 0∧fr 5=.i .i64 ((i:Int)-1)∧fr 4=.i .i64 (sgn (decide (z<0)) (z.natAbs/10000^i))∧M=[some ⟨[.b (decide (z<0)),T z.natAbs],true,0⟩]) id ?_ (tlen z.natAbs) ⟨Nat.le_refl _,by simp only[go_sem,seval],by simp only[go_sem,seval],by simp only[go_sem,seval];rw[Nat.div_eq_of_lt (zau _)];unfold sgn;split<;>rfl,rfl⟩
   rintro i fr M ⟨hi,g1,g5,g4,rfl⟩ ih
   by_cases hi0:i=0
   ·subst hi0
    have e0:sgn (decide (z<0)) (z.natAbs/10000^0)=z:=by
     rw[Nat.pow_zero,Nat.div_one];unfold sgn
     by_cases q:z<0
     ·simp[q];omega
     ·simp[q];omega
    rw[e0] at g4
    simp(disch:=omega)only[go_sem,seval,wqq,g1,g4,g5,Int.natCast_zero,Int.zero_sub,Int.reduceNeg,Int.reduceLE,ge_iff_le]
   ·obtain⟨m,rfl⟩:∃m,i=m+1:=⟨i-1,by omega⟩
    have q1:(((m+1:Nat):Int)-1≥0)=True:=by simp
    have q2:(((m+1:Nat):Int)-1)=(m:Int):=by omega
    have hml:m<tlen z.natAbs:=by omega
    have hsp:z.natAbs/10000^m=z.natAbs/10000^(m+1)*10000+tdg z.natAbs m:=by rw[zcS,zap];omega
    have hd:=zoD z.natAbs m
    have hle:=Nat.div_le_self z.natAbs (10000^m)
    have fin:=fun(fr':PFr) (f1:fr' 1=.p 0 0) (f5:fr' 5=.i .i64 ((m:Int)-1)) (f4:fr' 4=.i .i64 (sgn (decide (z<0)) (z.natAbs/10000^m)))=>ih m fr' _ (by simp only[id];omega) ⟨by omega,f1,f5,f4,rfl⟩
    unfold sgn at g4 fin
    rw[hsp] at fin hle
    generalize z.natAbs/10000^(m+1)=u at *
    by_cases q:z<0
    ·simp only[q,decide_true,if_true] at g4 fin
     have e1 : -(u:Int)*10000-((tdg z.natAbs m:Nat):Int) = -((u*10000+tdg z.natAbs m:Nat):Int):=by omega
     rw[←e1] at fin
     simp(disch:=omega)only[go_sem,seval,wqq,g1,g4,g5,q,q1,q2,eT,zb9]
     exact fin _ (by simp only[go_sem,seval,g1]) (by simp only[go_sem,seval]) (by simp only[go_sem,seval])
    ·simp only[q,decide_false,Bool.false_eq_true,if_false] at g4 fin
     have e1:(u:Int)*10000+((tdg z.natAbs m:Nat):Int)=((u*10000+tdg z.natAbs m:Nat):Int):=by omega
     rw[←e1] at fin
     simp(disch:=omega)only[go_sem,seval,wqq,g1,g4,g5,q,q1,q2,eT,zb9]
     exact fin _ (by simp only[go_sem,seval,g1]) (by simp only[go_sem,seval]) (by simp only[go_sem,seval])
end Go.Eng
namespace Go.Eng
def sB (n:Nat):Nat→Bool:=fun e=>decide (e<n)
end Go.Eng
namespace Go.Eng
end Go.Eng
namespace Go.Eng
end Go.Eng
namespace Go.Eng
end Go.Eng
namespace Go.Eng
end Go.Eng
namespace Go.Eng
theorem zfe (a b:Int):wlen (a*b).natAbs≤wlen a.natAbs+wlen b.natAbs:=by
 rw[Int.natAbs_mul]
 refine zaF.2 ?_
 rw[Nat.pow_add]
 exact Nat.mul_lt_mul'' (zad _) (zad _)
theorem zke (a b:Nat):wlen (a+b)≤max (wlen a) (wlen b)+1:=by
 refine zaF.2 ?_
 have h1:4294967296^wlen a≤4294967296^max (wlen a) (wlen b):=Nat.pow_le_pow_right (by decide) (Nat.le_max_left _ _)
 have h2:4294967296^wlen b≤4294967296^max (wlen a) (wlen b):=Nat.pow_le_pow_right (by decide) (Nat.le_max_right _ _)
 have h3:=zad a
 have h4:=zad b
 rw[Nat.pow_succ]
 generalize 4294967296^max (wlen a) (wlen b)=t at *
 omega
theorem zfd (a b:Int):wlen (a+b).natAbs≤max (wlen a.natAbs) (wlen b.natAbs)+1 :=
 Nat.le_trans (zba (Int.natAbs_add_le a b)) (zke _ _)
end Go.Eng
namespace Go.Eng
def mE:Nat→Int:=fun e=>monoI.getD e 0
theorem zjf:cst E0.glob (.p 1 0)=.fp (cs 60 mE):=rfl
def exN (i j:Nat):Nat:=(mE (i*3+j)).toNat
theorem zaE:∀i,i<20→∀j,j<3→mE (i*3+j)=(exN i j:Int)∧exN i j≤3:=by decide
def pw3 (X:Nat→Int) (i:Nat):Nat→Int
 | 0=>1
 | j+1=>pw3 X i j*X j^exN i j
def moV (X:Nat→Int) (i:Nat):Int:=pw3 X i 3
def sumT (f:Nat→Int):Nat→Int
 | 0=>0
 | n+1=>sumT f n+f n
def evV (c X:Nat→Int):Int:=sumT (fun i=>c i*moV X i) 20
def s3 {α:Type} (a b c:α):Nat→α:=fun j=>if j=0 then a else if j=1 then b else c
noncomputable def wc (t:WI):List PV:=[.b (decide (t.v<0)),D t.v.natAbs]
theorem zoJ (t:WI):wc t=[.b (decide (t.v<0)),D t.v.natAbs]:=_root_.id rfl
theorem zhn (t:WI):PV.ag (wc t)=wiP t:=_root_.id rfl
theorem zdz (t:WI):(wc t).length=2:=_root_.id rfl
theorem zdA (t:WI):(wc t).take 2=wc t:=_root_.id rfl
theorem zfS (t u:WI):psplice (wc t) 0 [.b (decide (u.v<0)),D u.v.natAbs]=wc u:=_root_.id rfl
structure WZ (L:List PV) (s:WI):Prop where
 len:L.length=2
 sc:L.all PV.scal=true
 fz:∀(M:PM) (d:Nat),fzL (fz M (d+1)) L=some (wc s,[])
theorem WZ.tk {L:List PV} {s:WI} (h:WZ L s):L.take 2=L:=List.take_of_length_le (by rw[h.len];omega)
theorem WZ.spl {L:List PV} {s:WI} (h:WZ L s) (u:WI):psplice L 0 (wc u)=wc u:=by
 unfold psplice
 rw[List.take_zero,List.drop_eq_nil_of_le (by rw[h.len,zdz];omega),List.nil_append,List.append_nil]
theorem WZ.spl' {L:List PV} {s:WI} (h:WZ L s) (u:WI):psplice L 0 [.b (decide (u.v<0)),D u.v.natAbs]=wc u:=h.spl u
theorem wz0:WZ [.b false,.nl] wi0:=⟨rfl,rfl,fun _ _=>rfl⟩
theorem wzs (s:WI):WZ (wc s) s:=⟨rfl,rfl,fun _ _=>rfl⟩
theorem zre (a b:PV) (L:List PV) (h:L.length=2):psplice [a,b] 0 L=L:=by
 unfold psplice
 rw[List.take_zero,List.drop_eq_nil_of_le (by rw[h];exact Nat.le_refl _),List.nil_append,List.append_nil]
theorem zcv {n:Int} (h:Fits64 n):wlen n.natAbs≤2:=by
 unfold Fits64 at h
 exact zaF.2 (by omega)
theorem zlB {t x:WI} {n m:Nat} (ht:wlen t.v.natAbs≤n) (hx:wlen x.v.natAbs≤m) (h:n+m≤512):(clip (t.v*x.v)).v=t.v*x.v∧wlen (t.v*x.v).natAbs≤n+m :=
 ⟨zeS (Nat.le_trans (zfe _ _) (by omega)),Nat.le_trans (zfe _ _) (by omega)⟩
theorem zmL {t x:WI} {n m:Nat} (ht:wlen t.v.natAbs≤n) (hx:wlen x.v.natAbs≤m) (h:max n m+1≤512):(clip (t.v+x.v)).v=t.v+x.v∧wlen (t.v+x.v).natAbs≤max n m+1 :=
 ⟨zeS (Nat.le_trans (zfd _ _) (by omega)),Nat.le_trans (zfd _ _) (by omega)⟩
theorem zb1 {i:Nat} (h:i<3):i=0∨i=1∨i=2:=by omega
set_option maxHeartbeats 8000000 in
theorem zkD {c:Nat→Int} (hc:okC c) {x y z:Int} (hx:Fits64 x) (hy:Fits64 y) (hz:Fits64 z):pf E0 398 [aI 20 c,.i .i64 x,.i .i64 y,.i .i64 z]=some (.tu [wiP (clip (evV c (s3 x y z))),.i .i64 0]):=by
 have v:=zaw c
 have:vlC c=0:=if_pos hc
 rw[this] at v
 have x1:=zbk hx
 have x2:=zbk hy
 have x3:=zbk hz
 obtain⟨X,hX⟩:∃X:Nat→WI,X=s3 (wiOf x hx) (wiOf y hy) (wiOf z hz):=⟨_,rfl⟩
 have Xv:∀j,(X j).v=s3 x y z j:=fun j=>by
  rw[hX];unfold s3;split
  ·rfl
  ·split<;>rfl
 have Xl:∀j,wlen (X j).v.natAbs≤2:=fun j=>by
  rw[Xv];unfold s3;split
  ·exact zcv hx
  ·split
   ·exact zcv hy
   ·exact zcv hz
 refine zab (xf:=zu5) rfl (by simp[zu5]) ?_
 simp only[zu5]
 simp(disch:=omega)only[go_sem,seval,wqq,v,x1,x2,x3,zaz,zah]
 refine zag zvL.eq_1 (fun(i:Nat) fr M=>i≤20∧fr 8=.p 1 0∧fr 11=.p 2 0∧fr 12=.p 3 0∧fr 32=aI 20 c∧fr 33=(PV.i .i64 ((i:Nat):Int))∧∃b0 vx vs G L,∃s:WI,s.v=sumT (fun i=>c i*moV (s3 x y z) i) i∧wlen s.v.natAbs≤30+i∧WZ L s∧M=b0::some ⟨[.b false,.nl],true,0⟩::some ⟨cw 3 X,true,vx⟩::some ⟨L,true,vs⟩::G) (fun i=>20-i) ?_ 0 ⟨by omega,by simp only[go_sem,seval],by simp only[go_sem,seval],by simp only[go_sem,seval],by simp only[go_sem,seval],by simp only[go_sem,seval],_,_,_,[],_,wi0,rfl,by decide,wz0,by rw[hX];rfl⟩
 rintro i fr M ⟨hi,f8,f11,f12,f32,f33,b0,vx,vs,G,L,s,sv,sl,wz,rfl⟩ ih
 have z1:=wz.len
 have z2:=wz.sc
 have z3:=wz.fz
 have z4:=wz.tk
 have z5:=wz.spl'
 rcases Nat.lt_or_ge i 20 with h|h
 ·have q1:((i:Int)<20)=True:=eq_true (by omega)
  have qL:(i<20)=True:=eq_true h
  have ix:=zc7 c h
  have ck:Fits64 (c i):=by have:=hc i h;unfold Fits64;omega
  have k1:=zbk ck
  have rw3:=zdO (n:=60) mE (off:=i*3) (k:=3) (by omega)
  have rl:(3≤((cs 60 mE).drop (i*3)).length)=True:=eq_true (by rw[List.length_drop,zbZ];omega)
  simp(disch:=omega)only[go_sem,seval,wqq,f8,f11,f12,f32,f33,q1,qL,ix,k1,zjf,rw3,rl,mG,mG0,sG,sG0,lG,lqq]
  refine zag zvN.eq_1 (fun(j:Nat) fr M=>j≤3∧fr 8=.p 1 0∧fr 11=.p 2 0∧fr 12=.p 3 0∧fr 15=.p (G.length+4) 0∧fr 32=aI 20 c∧fr 33=(PV.i .i64 ((i:Nat):Int))∧fr 41=aI 3 (fun e=>mE (i*3+e))∧fr 42=(PV.i .i64 ((j:Nat):Int))∧∃b0 vx vs v,∃t:WI,t.v=c i*pw3 (s3 x y z) i j∧wlen t.v.natAbs≤2+6*j∧M=b0::some ⟨[.b false,.nl],true,0⟩::some ⟨cw 3 X,true,vx⟩::some ⟨L,true,vs⟩::(G++[some ⟨wc t,true,v⟩])) (fun j=>3-j) ?_ 0 ⟨by omega,by simp only[go_sem,seval,f8],by simp only[go_sem,seval,f11],by simp only[go_sem,seval,f12],by simp only[go_sem,seval],by simp only[go_sem,seval,f32],by simp only[go_sem,seval,f33],by simp only[go_sem,seval],by simp only[go_sem,seval],_,_,_,_,wiOf (c i) ck,(Int.mul_one _).symm,zcv ck,rfl⟩
  rintro j fr M ⟨hj,f8,f11,f12,f15,f32,f33,f41,f42,b0,vx,vs,v,t,tv,tl,rfl⟩ ih2
  rcases Nat.lt_or_ge j 3 with h3|h3
  ·have q2:((j:Int)<3)=True:=eq_true (by omega)
   have qJ:(j<3)=True:=eq_true h3
   have iy:=zc7 (fun e=>mE (i*3+e)) h3
   obtain⟨e1,e2⟩:=zaE i h j h3
   rw[e1] at iy
   simp(disch:=omega)only[go_sem,seval,wqq,f8,f11,f12,f15,f32,f33,f41,f42,q2,qJ,iy,mG,mG0,sG,sG0,lG,lqq]
   refine zag zvM.eq_1 (fun(k:Nat) fr M=>k≤exN i j∧fr 8=.p 1 0∧fr 11=.p 2 0∧fr 12=.p 3 0∧fr 15=.p (G.length+4) 0∧fr 32=aI 20 c∧fr 33=(PV.i .i64 ((i:Nat):Int))∧fr 41=aI 3 (fun e=>mE (i*3+e))∧fr 42=(PV.i .i64 ((j:Nat):Int))∧fr 16=(PV.i .i64 ((j:Nat):Int))∧fr 46=(PV.i .i64 ((exN i j:Nat):Int))∧fr 47=(PV.i .i64 ((k:Nat):Int))∧∃b0 vx vs v,∃t:WI,t.v=c i*(pw3 (s3 x y z) i j*s3 x y z j^k)∧wlen t.v.natAbs≤2+6*j+2*k∧M=b0::some ⟨[.b false,.nl],true,0⟩::some ⟨cw 3 X,true,vx⟩::some ⟨L,true,vs⟩::(G++[some ⟨wc t,true,v⟩])) (fun k=>exN i j-k) ?_ 0 ⟨by omega,by simp only[go_sem,seval,f8],by simp only[go_sem,seval,f11],by simp only[go_sem,seval,f12],by simp only[go_sem,seval,f15],by simp only[go_sem,seval,f32],by simp only[go_sem,seval,f33],by simp only[go_sem,seval,f41],by simp only[go_sem,seval,f42],by simp only[go_sem,seval],by simp only[go_sem,seval],by simp only[go_sem,seval],_,_,_,_,t,by rw[tv,Int.pow_zero,Int.mul_one],by omega,rfl⟩
   rintro k fr M ⟨hk,f8,f11,f12,f15,f32,f33,f41,f42,f16,f46,f47,b0,vx,vs,v,t,tv,tl,rfl⟩ ih3
   rcases Nat.lt_or_ge k (exN i j) with h4|h4
   ·have q3:((k:Int)<(exN i j:Int))=True:=eq_true (by omega)
    have cx:=zkl (n:=3) X h3
    have pm:=zfI t (X j)
    have cl:(j*2+2≤6)=True:=eq_true (by omega)
    obtain⟨m1,m2⟩:=zlB tl (Xl j) (by omega)
    simp(disch:=omega)only[go_sem,seval,wqq,f8,f11,f12,f15,f32,f33,f41,f42,f16,f46,f47,q3,qJ,cx,cl,zdP,pm,zhn,zdA,zdz,zfS,mG,mG0,sG,sG0,lG,lqq]
    refine ih3 (k+1) _ _ (by omega) ⟨by omega,by simp only[go_sem,seval,f8],by simp only[go_sem,seval,f11],by simp only[go_sem,seval,f12],by simp only[go_sem,seval,f15],by simp only[go_sem,seval,f32],by simp only[go_sem,seval,f33],by simp only[go_sem,seval,f41],by simp only[go_sem,seval,f42],by simp only[go_sem,seval,f16],by simp only[go_sem,seval,f46],by simp only[go_sem,seval,f47];rw[Int.natCast_succ],_,_,_,_,clip (t.v*(X j).v),?_,by rw[m1];omega,rfl⟩
    rw[m1,tv,Xv,Int.pow_succ,Int.mul_assoc,Int.mul_assoc]
   ·obtain rfl:k=exN i j:=by omega
    have q3:((exN i j:Int)<(exN i j:Int))=False:=eq_false (Int.lt_irrefl _)
    simp(disch:=omega)only[go_sem,seval,wqq,f8,f11,f12,f15,f32,f33,f41,f42,f16,f46,f47,q3,mG,mG0,sG,sG0,lG,lqq]
    exact ih2 (j+1) _ _ (by omega) ⟨by omega,by simp only[go_sem,seval,f8],by simp only[go_sem,seval,f11],by simp only[go_sem,seval,f12],by simp only[go_sem,seval,f15],by simp only[go_sem,seval,f32],by simp only[go_sem,seval,f33],by simp only[go_sem,seval,f41],by simp only[go_sem,seval,f42];rw[Int.natCast_succ],_,_,_,_,t,tv,by omega,rfl⟩
  ·obtain rfl:j=3:=by omega
   have pa:=zid s t
   obtain⟨m1,m2⟩:=zmL sl tl (by omega)
   simp(disch:=omega)only[go_sem,seval,wqq,f8,f11,f12,f15,f32,f33,f41,f42,z1,z2,z3,z4,z5,pa,zhn,zdA,zdz,mG,mG0,sG,sG0,lG,lqq]
   refine ih (i+1) _ _ (by omega) ⟨by omega,by simp only[go_sem,seval,f8],by simp only[go_sem,seval,f11],by simp only[go_sem,seval,f12],by simp only[go_sem,seval,f32],by simp only[go_sem,seval,f33];rw[Int.natCast_succ],_,_,_,_,_,clip (s.v+t.v),?_,by rw[m1];omega,wzs _,rfl⟩
   rw[m1,sv,tv];rfl
 ·obtain rfl:i=20:=by omega
  have e:clip (evV c (s3 x y z))=s:=WI.ext' ((zeS (by rw[show evV c (s3 x y z)=s.v from sv.symm];omega)).trans sv.symm)
  have sp:psplice [.b false,.nl] 0 L=L:=zre _ _ L z1
  rw[e]
  simp(disch:=omega)only[go_sem,seval,wqq,f8,f11,f12,f32,f33,z1,z2,z3,z4,z5,sp,zhn]
end Go.Eng
namespace Go.Eng
def rowM (i:Nat):Nat→Int:=fun e=>mE (i*3+e)
def degN (i:Nat):Nat:=exN i 0+exN i 1+exN i 2
theorem zmo {i:Nat} (h:i<20):rowM i 0=(exN i 0:Int)∧rowM i 1=(exN i 1:Int)∧rowM i 2=(exN i 2:Int):=⟨(zaE i h 0 (by decide)).1,(zaE i h 1 (by decide)).1,(zaE i h 2 (by decide)).1⟩
theorem zgS {i:Nat} (h:i<20):((cs 60 mE).drop (i*3)).take 3=cs 3 (rowM i):=zdO (n:=60) mE (off:=i*3) (k:=3) (by omega)
theorem zkO {i:Nat} (h:i<20):(3≤((cs 60 mE).drop (i*3)).length)=True:=eq_true (by rw[List.length_drop,zbZ];omega)
theorem zmm:∀i,i<20→∀d,d<20→((∀e,e<3→rowM i e=rowM d e)↔i=d):=by decide
def dgR (c:Nat→Int):Nat→Int
 | 0 => -1
 | i+1=>if c i=0 then dgR c i else if (degN i:Int)>dgR c i then (degN i:Int) else dgR c i
@[go_sem] theorem zsD (a0 a1 a2:PV) (Y:Nat→Int):psplice [a0,a1,a2] 0 (cs 3 Y)=cs 3 Y:=zeg 3 _ Y rfl
theorem zrE (X Y:Nat→Int):eqaP [1,1,1] (aI 3 X) (aI 3 Y)=some (decide (∀e:Nat,e<3→X e=Y e)):=zkj 3 X Y
set_option maxHeartbeats 4000000 in
theorem zex (c:Nat→Int):pf E0 399 [aI 20 c]=some (.i .i64 (dgR c 20)):=by
 refine zab (xf:=zup) rfl (by simp[zup]) ?_
 simp only[zup]
 simp(disch:=omega)only[go_sem,seval,wqq]
 refine zag zvj.eq_1 (fun(i:Nat) fr M=>i≤20∧fr 3=.i .i64 (dgR c i)∧fr 7=aI 20 c∧fr 8=(PV.i .i64 ((i:Nat):Int))) (fun i=>20-i) ?_ 0 ⟨by omega,by simp only[go_sem,seval];rfl,by simp only[go_sem,seval],by simp only[go_sem,seval]⟩
 rintro i fr M ⟨hi,f3,f7,f8⟩ ih
 rcases Nat.lt_or_ge i 20 with h|h
 ·have q1:((i:Int)<20)=True:=eq_true (by omega)
  have qL:(i<20)=True:=eq_true h
  have ix:=zc7 c h
  have rw3:=zgS h
  have rl:=zkO h
  obtain⟨r0,r1,r2⟩:=zmo h
  have e0:=(zaE i h 0 (by decide)).2
  have e1:=(zaE i h 1 (by decide)).2
  have e2:=(zaE i h 2 (by decide)).2
  have sm:(exN i 0:Int)+(exN i 1:Int)+(exN i 2:Int)=(degN i:Int):=by unfold degN;omega
  by_cases c0:c i=0
  ·have hs:dgR c (i+1)=dgR c i:=if_pos c0
   have c0':(c i=0)=True:=eq_true c0
   simp(disch:=omega)only[go_sem,seval,wqq,f3,f7,f8,q1,qL,ix,zjf,rw3,rl,c0',zbj,mG,mG0,sG,sG0,lG,lqq]
   exact ih (i+1) _ _ (by omega) ⟨by omega,by simp only[go_sem,seval,f3,hs],by simp only[go_sem,seval,f7],by simp only[go_sem,seval,f8];rw[Int.natCast_succ]⟩
  ·have hs:dgR c (i+1)=if (degN i:Int)>dgR c i then (degN i:Int) else dgR c i:=if_neg c0
   have c0':(c i=0)=False:=eq_false c0
   simp(disch:=omega)only[go_sem,seval,wqq,f3,f7,f8,q1,qL,ix,zjf,rw3,rl,c0',zbj,r0,r1,r2,sm,mG,mG0,sG,sG0,lG,lqq]
   exact ih (i+1) _ _ (by omega) ⟨by omega,by simp only[go_sem,seval,f3,hs],by simp only[go_sem,seval,f7],by simp only[go_sem,seval,f8];rw[Int.natCast_succ]⟩
 ·obtain rfl:i=20:=by omega
  simp(disch:=omega)only[go_sem,seval,wqq,f3,f7,f8]
theorem zlX {d:Nat} (hd:d<20):pf E0 421 [aI 3 (rowM d)]=some ((PV.i .i64 ((d:Nat):Int))):=by
 refine zab (xf:=zuw) rfl (by simp[zuw]) ?_
 simp only[zuw]
 simp(disch:=omega)only[go_sem,seval,wqq]
 refine zag zvq.eq_1 (fun(i:Nat) fr M=>i≤d∧fr 1=.p 0 0∧fr 4=(PV.i .i64 ((i:Nat):Int))∧M=[some ⟨cs 3 (rowM d),true,0⟩]) (fun i=>20-i) ?_ 0 ⟨by omega,by simp only[go_sem,seval],by simp only[go_sem,seval],rfl⟩
 rintro i fr M ⟨hi,f1,f4,rfl⟩ ih
 have h:i<20:=by omega
 have q1:((i:Int)<20)=True:=eq_true (by omega)
 have qL:(i<20)=True:=eq_true h
 have rw3:=zgS h
 have rl:=zkO h
 have re:=zmm i h d hd
 by_cases hid:i=d
 ·subst hid
  have eq:eqaP [1,1,1] (aI 3 (rowM i)) (aI 3 (rowM i))=some true:=by rw[zrE];simp
  simp(disch:=omega)only[go_sem,seval,wqq,f1,f4,q1,qL,zjf,rw3,rl,eq,mG,mG0,sG,sG0,lG,lqq]
 ·have eq:eqaP [1,1,1] (aI 3 (rowM i)) (aI 3 (rowM d))=some false:=by rw[zrE,decide_eq_false fun q=>hid (re.1 q)]
  simp(disch:=omega)only[go_sem,seval,wqq,f1,f4,q1,qL,zjf,rw3,rl,eq,mG,mG0,sG,sG0,lG,lqq]
  exact ih (i+1) _ _ (by omega) ⟨by omega,by simp only[go_sem,seval,f1],by simp only[go_sem,seval,f4];rw[Int.natCast_succ],rfl⟩
end Go.Eng
namespace Go.Eng
def cg (n:Nat) (f:Nat→List PV):List PV:=(List.range n).flatMap f
theorem zb4 (n:Nat) (f:Nat→List PV):cg (n+1) f=cg n f++f n:=by
 unfold cg
 rw[List.range_succ,List.flatMap_append];simp
theorem zcM {k:Nat} {f:Nat→List PV} (hf:∀e,(f e).length=k) (n:Nat):(cg n f).length=n*k:=by
 induction n with
 | zero=>simp[cg]
 | succ n ih=>rw[zb4,List.length_append,ih,hf,Nat.succ_mul]
theorem zm2 {f g:Nat→List PV} {n:Nat} (h:∀e,e<n→f e=g e):cg n f=cg n g:=by
 induction n with
 | zero=>rfl
 | succ n ih=>rw[zb4,zb4,ih (fun e he=>h e (by omega)),h n (by omega)]
theorem zbF {k:Nat} {f:Nat→List PV} (hf:∀e,(f e).length=k) {n i:Nat} (h:i<n):((cg n f).drop (i*k)).take k=f i:=by
 induction n with
 | zero=>omega
 | succ n ih =>
  have hl:=zcM hf n
  rw[zb4]
  rcases Nat.lt_or_ge i n with q|q
  ·have:(i+1)*k≤n*k:=Nat.mul_le_mul_right _ q
   rw[Nat.succ_mul] at this
   rw[List.drop_append_of_le_length (by omega),List.take_append_of_le_length (by rw[List.length_drop];omega),ih q]
  ·obtain rfl:i=n:=by omega
   rw[List.drop_append,List.drop_eq_nil_of_le (by omega),hl,Nat.sub_self,List.drop_zero,List.nil_append,List.take_of_length_le (by rw[hf];exact Nat.le_refl _)]
theorem zk6 {k:Nat} {n i:Nat} (h:i<n):i*k+k≤n*k:=by
 have:(i+1)*k≤n*k:=Nat.mul_le_mul_right _ h
 rw[Nat.succ_mul] at this
 exact this
theorem zdM {k:Nat} {f:Nat→List PV} (hf:∀e,(f e).length=k) {n i:Nat} (h:i<n) {v:List PV} (hv:v.length=k):psplice (cg n f) (i*k) v=cg n (upd f i v):=by
 unfold psplice
 induction n with
 | zero=>omega
 | succ n ih =>
  have hl:=zcM hf n
  rw[zb4,zb4]
  rcases Nat.lt_or_ge i n with q|q
  ·have:=zk6 (k:=k) q
   rw[←ih q,List.take_append_of_le_length (by omega),List.drop_append_of_le_length (by omega),zbJ (show n≠i by omega),List.append_assoc,List.append_assoc,List.append_assoc]
  ·obtain rfl:i=n:=by omega
   rw[List.take_append_of_le_length (by omega),List.drop_eq_nil_of_le (by simp[hl,hf,hv]),List.append_nil,zbl,List.take_of_length_le (by omega),zm2 (fun e he=>(zbJ (show e≠i by omega)).symm)]
theorem zpO {g:PV→Option (PV×List Nat)} {f:Nat→List PV} (hf:∀e,∀x∈f e,g x=some (x,[])) (n:Nat):fzL g (cg n f)=some (cg n f,[]):=zfy _ _ fun x hx=>by
 obtain⟨e,_,h⟩:=List.mem_flatMap.1 hx
 exact hf e x h
theorem zdy {α β:Type} (F:α→β) (z:Nat→α) (i:Nat) (v:α):upd (fun e=>F (z e)) i (F v)=fun e=>F (upd z i v e):=funext fun e=>by
 unfold upd;split<;>rfl
end Go.Eng
namespace Go.Eng
def facT:List (List Int):=[[],[0],[1],[2],[0,0],[0,1],[0,2],[1,1],[1,2],[2,2],[0,0,0],[0,0,1],[0,0,2],[0,1,1],[0,1,2],[0,2,2],[1,1,1],[1,1,2],[1,2,2],[2,2,2]]
def facL (i:Nat):List Int:=facT.getD i []
def monP:PV:=.lst (facT.map ints)
set_option maxHeartbeats 4000000 in
theorem zig:pf E0 418 []=some monP:=by
 refine zab (xf:=zub) rfl (by simp[zub]) ?_
 simp only[zub]
 simp(disch:=omega)only[go_sem,seval,wqq]
 rfl
def prL (X:Nat→Int):List Int→Int
 | []=>1
 | a::l=>X a.toNat*prL X l
theorem zgK (X:Nat→Int) (a:Int):∀l:List Int,prL X (l++[a])=prL X l*X a.toNat
 | []=>by simp[prL]
 | b::l=>by simp only[List.cons_append,prL,zgK X a l,Int.mul_assoc]
theorem ze7 (X:Nat→Int):∀l:List Int,(∀a∈l,a=0∨a=1∨a=2)→prL X l=X 0^l.count 0*X 1^l.count 1*X 2^l.count 2
 | [],_=>by simp[prL]
 | a::l,h=>by
  have ih:=ze7 X l fun b hb=>h b (List.mem_cons_of_mem _ hb)
  rw[prL,ih]
  rcases h a List.mem_cons_self with rfl|rfl|rfl
  ·rw[List.count_cons_self,List.count_cons_of_ne (by decide),List.count_cons_of_ne (by decide),Int.pow_succ]
   show X 0*_=_;grind
  ·rw[List.count_cons_self,List.count_cons_of_ne (by decide),List.count_cons_of_ne (by decide),Int.pow_succ]
   show X 1*_=_;grind
  ·rw[List.count_cons_self,List.count_cons_of_ne (by decide),List.count_cons_of_ne (by decide),Int.pow_succ]
   show X 2*_=_;grind
theorem zcN:∀i,i<20→(∀a∈facL i,a=0∨a=1∨a=2)∧(facL i).length≤3∧exN i 0=(facL i).count 0∧exN i 1=(facL i).count 1∧exN i 2=(facL i).count 2:=by decide
theorem zhH (X:Nat→Int) {i:Nat} (h:i<20):prL X (facL i)=moV X i:=by
 obtain⟨h1,_,h2,h3,h4⟩:=zcN i h
 rw[ze7 X _ h1,←h2,←h3,←h4]
 show _=1*X 0^exN i 0*X 1^exN i 1*X 2^exN i 2
 rw[Int.one_mul]
theorem zfF {i:Nat} (h:i<20):idxP 1 monP (some i)=some (.fp [ints (facL i)]):=by
 unfold monP
 have:facT[i]?=some (facL i):=by
  unfold facL
  rw[List.getD,List.getElem?_eq_getElem (show i<facT.length from h)];rfl
 rw[zcj,List.getElem?_map,this];rfl
noncomputable def nc (z:Int):List PV:=[.b (decide (z<0)),T z.natAbs]
theorem zkx (z:Int):PV.ag (nc z)=nP z:=_root_.id rfl
theorem zdV (z:Int):(nc z).length=2:=_root_.id rfl
theorem zeu (z:Int):(nc z).take 2=nc z:=_root_.id rfl
theorem zks {n:Int} (h:Fits64 n):tlen n.natAbs≤5:=by
 unfold Fits64 at h
 exact zaC (by omega)
end Go.Eng
namespace Go.Eng
theorem zdG (M:PM):appP M 1 8 .nl (ints [])=some (.nl,M):=rfl
theorem zdH (M:PM) (m ln:Nat):appP M 1 8 (.sl m 0 ln ln 1) (ints [])=some (.sl m 0 ln ln 1,M):=rfl
theorem zl3 (f:Int):pf E0 426 [ints [],.i .i64 f]=some (ints [f]):=by
 have f0:slP 1 (ints []) none (some (.i .i64 0)) none=some (ints []):=rfl
 have f1:slP 1 (ints []) (some (.i .i64 0)) none none=some (ints []):=rfl
 have f2:appP ([some ⟨[.i .i64 f],true,0⟩]:PM) 1 8 (.nl) (.sl 0 0 1 1 1)=some (.sl 1 0 1 1 1,[some ⟨[.i .i64 f],true,0⟩,some ⟨[.i .i64 f],true,0⟩]):=rfl
 have gr:PV.lst (group 1 1 [.i .i64 f])=ints [f]:=rfl
 refine zab (xf:=ztH) rfl (by simp[ztH]) ?_
 simp only[ztH]
 simp(disch:=omega)only[go_sem,seval,wqq]
 refine zay ztK.eq_1 ?_
 simp(disch:=omega)only[go_sem,seval,wqq,zdG,zdH,gr,f0,f1,f2,List.length_cons,List.length_nil]
theorem zl4 (a:Int) (f:Int) (ha:¬a≤f):pf E0 426 [ints [a],.i .i64 f]=some (ints [f,a]):=by
 have f0:slP 1 (ints [a]) none (some (.i .i64 0)) none=some (ints []):=rfl
 have f1:slP 1 (ints [a]) (some (.i .i64 0)) none none=some (ints [a]):=rfl
 have f2:appP ([some ⟨[.i .i64 f],true,0⟩]:PM) 1 8 (.nl) (.sl 0 0 1 1 1)=some (.sl 1 0 1 1 1,[some ⟨[.i .i64 f],true,0⟩,some ⟨[.i .i64 f],true,0⟩]):=rfl
 have f3:appP ([some ⟨[.i .i64 f],true,0⟩,some ⟨[.i .i64 f],true,0⟩]:PM) 1 8 (.sl 1 0 1 1 1) (ints [a])=some (.sl 2 0 2 2 1,[some ⟨[.i .i64 f],true,0⟩,none,some ⟨[.i .i64 f,.i .i64 a],true,0⟩]):=rfl
 have qa:(a≤f)=False:=eq_false ha
 have g0:idxP 1 (ints [a]) (some 0)=some (.fp [.i .i64 a]):=rfl
 have gr:PV.lst (group 1 2 [.i .i64 f,.i .i64 a])=ints [f,a]:=rfl
 refine zab (xf:=ztH) rfl (by simp[ztH]) ?_
 simp only[ztH]
 simp(disch:=omega)only[go_sem,seval,wqq]
 refine zay ztK.eq_1 ?_
 simp(disch:=omega)only[go_sem,seval,wqq,qa,g0,zdG,zdH,gr,f0,f1,f2,f3,List.length_cons,List.length_nil]
theorem zl5 (a:Int) (f:Int) (ha:a≤f):pf E0 426 [ints [a],.i .i64 f]=some (ints [a,f]):=by
 have f0:slP 1 (ints [a]) none (some (.i .i64 1)) none=some (ints [a]):=rfl
 have f1:slP 1 (ints [a]) (some (.i .i64 1)) none none=some (ints []):=rfl
 have f2:appP ([]:PM) 1 8 .nl (ints [a])=some (.sl 0 0 1 1 1,[some ⟨[.i .i64 a],true,0⟩]):=rfl
 have f3:appP ([some ⟨[.i .i64 a],true,0⟩,some ⟨[.i .i64 f],true,0⟩]:PM) 1 8 (.sl 0 0 1 1 1) (.sl 1 0 1 1 1)=some (.sl 2 0 2 2 1,[none,some ⟨[.i .i64 f],true,0⟩,some ⟨[.i .i64 a,.i .i64 f],true,0⟩]):=rfl
 have qa:(a≤f)=True:=eq_true ha
 have g0:idxP 1 (ints [a]) (some 0)=some (.fp [.i .i64 a]):=rfl
 have gr:PV.lst (group 1 2 [.i .i64 a,.i .i64 f])=ints [a,f]:=rfl
 refine zab (xf:=ztH) rfl (by simp[ztH]) ?_
 simp only[ztH]
 simp(disch:=omega)only[go_sem,seval,wqq]
 refine zay ztK.eq_1 ?_
 simp(disch:=omega)only[go_sem,seval,wqq,qa,g0,List.length_cons,List.length_nil]
 refine zay ztK.eq_1 ?_
 simp(disch:=omega)only[go_sem,seval,wqq,qa,g0,zdG,zdH,gr,f0,f1,f2,f3,List.length_cons,List.length_nil]
theorem zl6 (a:Int) (b:Int) (f:Int) (ha:¬a≤f):pf E0 426 [ints [a,b],.i .i64 f]=some (ints [f,a,b]):=by
 have f0:slP 1 (ints [a,b]) none (some (.i .i64 0)) none=some (ints []):=rfl
 have f1:slP 1 (ints [a,b]) (some (.i .i64 0)) none none=some (ints [a,b]):=rfl
 have f2:appP ([some ⟨[.i .i64 f],true,0⟩]:PM) 1 8 (.nl) (.sl 0 0 1 1 1)=some (.sl 1 0 1 1 1,[some ⟨[.i .i64 f],true,0⟩,some ⟨[.i .i64 f],true,0⟩]):=rfl
 have f3:appP ([some ⟨[.i .i64 f],true,0⟩,some ⟨[.i .i64 f],true,0⟩]:PM) 1 8 (.sl 1 0 1 1 1) (ints [a,b])=some (.sl 2 0 3 3 1,[some ⟨[.i .i64 f],true,0⟩,none,some ⟨[.i .i64 f,.i .i64 a,.i .i64 b],true,0⟩]):=rfl
 have qa:(a≤f)=False:=eq_false ha
 have g0:idxP 1 (ints [a,b]) (some 0)=some (.fp [.i .i64 a]):=rfl
 have g1:idxP 1 (ints [a,b]) (some 1)=some (.fp [.i .i64 b]):=rfl
 have gr:PV.lst (group 1 3 [.i .i64 f,.i .i64 a,.i .i64 b])=ints [f,a,b]:=rfl
 refine zab (xf:=ztH) rfl (by simp[ztH]) ?_
 simp only[ztH]
 simp(disch:=omega)only[go_sem,seval,wqq]
 refine zay ztK.eq_1 ?_
 simp(disch:=omega)only[go_sem,seval,wqq,qa,g0,g1,zdG,zdH,gr,f0,f1,f2,f3,List.length_cons,List.length_nil]
theorem zl7 (a:Int) (b:Int) (f:Int) (ha:a≤f) (hb:¬b≤f):pf E0 426 [ints [a,b],.i .i64 f]=some (ints [a,f,b]):=by
 have f0:slP 1 (ints [a,b]) none (some (.i .i64 1)) none=some (ints [a]):=rfl
 have f1:slP 1 (ints [a,b]) (some (.i .i64 1)) none none=some (ints [b]):=rfl
 have f2:appP ([]:PM) 1 8 .nl (ints [a])=some (.sl 0 0 1 1 1,[some ⟨[.i .i64 a],true,0⟩]):=rfl
 have f3:appP ([some ⟨[.i .i64 a],true,0⟩,some ⟨[.i .i64 f],true,0⟩]:PM) 1 8 (.sl 0 0 1 1 1) (.sl 1 0 1 1 1)=some (.sl 2 0 2 2 1,[none,some ⟨[.i .i64 f],true,0⟩,some ⟨[.i .i64 a,.i .i64 f],true,0⟩]):=rfl
 have f4:appP ([none,some ⟨[.i .i64 f],true,0⟩,some ⟨[.i .i64 a,.i .i64 f],true,0⟩]:PM) 1 8 (.sl 2 0 2 2 1) (ints [b])=some (.sl 3 0 3 3 1,[none,some ⟨[.i .i64 f],true,0⟩,none,some ⟨[.i .i64 a,.i .i64 f,.i .i64 b],true,0⟩]):=rfl
 have qa:(a≤f)=True:=eq_true ha
 have g0:idxP 1 (ints [a,b]) (some 0)=some (.fp [.i .i64 a]):=rfl
 have qb:(b≤f)=False:=eq_false hb
 have g1:idxP 1 (ints [a,b]) (some 1)=some (.fp [.i .i64 b]):=rfl
 have gr:PV.lst (group 1 3 [.i .i64 a,.i .i64 f,.i .i64 b])=ints [a,f,b]:=rfl
 refine zab (xf:=ztH) rfl (by simp[ztH]) ?_
 simp only[ztH]
 simp(disch:=omega)only[go_sem,seval,wqq]
 refine zay ztK.eq_1 ?_
 simp(disch:=omega)only[go_sem,seval,wqq,qa,qb,g0,g1,List.length_cons,List.length_nil]
 refine zay ztK.eq_1 ?_
 simp(disch:=omega)only[go_sem,seval,wqq,qa,qb,g0,g1,zdG,zdH,gr,f0,f1,f2,f3,f4,List.length_cons,List.length_nil]
theorem zl8 (a:Int) (b:Int) (f:Int) (ha:a≤f) (hb:b≤f):pf E0 426 [ints [a,b],.i .i64 f]=some (ints [a,b,f]):=by
 have f0:slP 1 (ints [a,b]) none (some (.i .i64 2)) none=some (ints [a,b]):=rfl
 have f1:slP 1 (ints [a,b]) (some (.i .i64 2)) none none=some (ints []):=rfl
 have f2:appP ([]:PM) 1 8 .nl (ints [a,b])=some (.sl 0 0 2 2 1,[some ⟨[.i .i64 a,.i .i64 b],true,0⟩]):=rfl
 have f3:appP ([some ⟨[.i .i64 a,.i .i64 b],true,0⟩,some ⟨[.i .i64 f],true,0⟩]:PM) 1 8 (.sl 0 0 2 2 1) (.sl 1 0 1 1 1)=some (.sl 2 0 3 3 1,[none,some ⟨[.i .i64 f],true,0⟩,some ⟨[.i .i64 a,.i .i64 b,.i .i64 f],true,0⟩]):=rfl
 have qa:(a≤f)=True:=eq_true ha
 have g0:idxP 1 (ints [a,b]) (some 0)=some (.fp [.i .i64 a]):=rfl
 have qb:(b≤f)=True:=eq_true hb
 have g1:idxP 1 (ints [a,b]) (some 1)=some (.fp [.i .i64 b]):=rfl
 have gr:PV.lst (group 1 3 [.i .i64 a,.i .i64 b,.i .i64 f])=ints [a,b,f]:=rfl
 refine zab (xf:=ztH) rfl (by simp[ztH]) ?_
 simp only[ztH]
 simp(disch:=omega)only[go_sem,seval,wqq]
 refine zay ztK.eq_1 ?_
 simp(disch:=omega)only[go_sem,seval,wqq,qa,qb,g0,g1,List.length_cons,List.length_nil]
 refine zay ztK.eq_1 ?_
 simp(disch:=omega)only[go_sem,seval,wqq,qa,qb,g0,g1,List.length_cons,List.length_nil]
 refine zay ztK.eq_1 ?_
 simp(disch:=omega)only[go_sem,seval,wqq,qa,qb,g0,g1,zdG,zdH,gr,f0,f1,f2,f3,List.length_cons,List.length_nil]
end Go.Eng
namespace Go.Eng
def srt3 (l:List Int) (f:Int):List Int :=
 match l with
 | []=>[f]
 | [a]=>if a≤f then [a,f] else [f,a]
 | [a,b]=>if a≤f then (if b≤f then [a,b,f] else [a,f,b]) else [f,a,b]
 | l=>l
theorem zjU {l:List Int} (h:l.length≤2) (f:Int):pf E0 426 [ints l,.i .i64 f]=some (ints (srt3 l f)):=by
 match l,h with
 | [],_=>exact zl3 f
 | [a],_ =>
  by_cases ha:a≤f
  ·rw[show srt3 [a] f=[a,f] from if_pos ha];exact zl5 a f ha
  ·rw[show srt3 [a] f=[f,a] from if_neg ha];exact zl4 a f ha
 | [a,b],_ =>
  by_cases ha:a≤f
  ·by_cases hb:b≤f
   ·rw[show srt3 [a,b] f=[a,b,f] from (if_pos ha).trans (if_pos hb)];exact zl8 a b f ha hb
   ·rw[show srt3 [a,b] f=[a,f,b] from (if_pos ha).trans (if_neg hb)];exact zl7 a b f ha hb
  ·rw[show srt3 [a,b] f=[f,a,b] from if_neg ha];exact zl6 a b f ha
def upN (i:Nat) (f:Nat):Nat:=((List.range 20).find? fun d=>decide (facL d=srt3 (facL i) f)).getD 0
theorem zoI:∀i,i<20→degN i≤2→∀f:Nat,f<3→srt3 (facL i) (f:Int)=facL (upN i f)∧upN i f<20∧i<upN i f:=by decide
theorem zkb:∀i,i<20→degN i≤2→∀f:Nat,f<3→∀j,j<3→exN (upN i f) j=if j=f then exN i j+1 else exN i j:=by decide
theorem zk8:∀i,i<20→(facL i).length=degN i:=by decide
theorem zlj:∀i,i<20→∀d,d<20→facL i=facL d→i=d:=by decide
theorem znz {a b:List Int} (h:a.length=b.length) (e:∀k,k<b.length→a.getD k 0=b.getD k 0):a=b:=by
 refine List.ext_getElem h fun k h1 h2=>?_
 have:=e k h2
 simpa [List.getD,List.getElem?_eq_getElem h1,List.getElem?_eq_getElem h2] using this
theorem zlq {l:List Int} {k:Nat} (h:k<l.length):idxP 1 (ints l) (some k)=some (.fp [.i .i64 (l.getD k 0)]):=zdl (by rw[List.getD,List.getElem?_eq_getElem h];rfl)
set_option maxHeartbeats 4000000 in
theorem zjT {d:Nat} (hd:d<20):pf E0 424 [ints (facL d)]=some ((PV.i .i64 ((d:Nat):Int))):=by
 have l3:=(zcN d hd).2.1
 refine zab (xf:=zuG) rfl (by simp[zuG]) ?_
 simp only[zuG]
 simp(disch:=omega)only[go_sem,seval,wqq,zig]
 refine zag zvB.eq_1 (fun(i:Nat) fr M=>i≤d∧fr 0=ints (facL d)∧fr 3=monP∧fr 4=(PV.i .i64 ((i:Nat):Int))∧M=[]) (fun i=>20-i) ?_ 0 ⟨by omega,by simp only[go_sem,seval],by simp only[go_sem,seval],by simp only[go_sem,seval],rfl⟩
 rintro i fr M ⟨hi,f0,f3,f4,rfl⟩ ih
 have h:i<20:=by omega
 have q1:((i:Int)<20)=True:=eq_true (by omega)
 have mi:=zfF h
 by_cases hid:i=d
 ·subst hid
  have le:(((facL i).length:Int)=((facL i).length:Int))=True:=eq_true rfl
  simp(disch:=omega)only[go_sem,seval,wqq,f0,f3,f4,q1,mi,le]
  refine zag zuy.eq_1 (fun(k:Nat) fr M=>k≤(facL i).length∧fr 0=ints (facL i)∧fr 3=monP∧fr 4=(PV.i .i64 ((i:Nat):Int))∧fr 5=.b true∧fr 6=(PV.i .i64 ((k:Nat):Int))∧M=[]) (fun k=>(facL i).length-k) ?_ 0 ⟨by omega,by simp only[go_sem,seval,f0],by simp only[go_sem,seval,f3],by simp only[go_sem,seval,f4],by simp only[go_sem,seval],by simp only[go_sem,seval],rfl⟩
  clear f0 f3 f4
  rintro k fr M ⟨hk,f0,f3,f4,f5,f6,rfl⟩ ih2
  rcases Nat.lt_or_ge k (facL i).length with h3|h3
  ·have q2:((k:Int)<((facL i).length:Int))=True:=eq_true (by omega)
   have gk:=zlq h3
   have ee:((facL i).getD k 0=(facL i).getD k 0)=True:=eq_true rfl
   simp(disch:=omega)only[go_sem,seval,wqq,f0,f3,f4,f5,f6,q2,mi,gk,ee]
   exact ih2 (k+1) _ _ (by omega) ⟨by omega,by simp only[go_sem,seval,f0],by simp only[go_sem,seval,f3],by simp only[go_sem,seval,f4],by simp only[go_sem,seval],by simp only[go_sem,seval,f6];rw[Int.natCast_succ],rfl⟩
  ·obtain rfl:k=(facL i).length:=by omega
   have q2:(((facL i).length:Int)<((facL i).length:Int))=False:=eq_false (Int.lt_irrefl _)
   simp(disch:=omega)only[go_sem,seval,wqq,f0,f3,f4,f5,f6,q2]
 ·by_cases hl:(facL i).length=(facL d).length
  ·have le:(((facL i).length:Int)=((facL d).length:Int))=True:=eq_true (by omega)
   simp(disch:=omega)only[go_sem,seval,wqq,f0,f3,f4,q1,mi,le]
   refine zag zuy.eq_1 (fun(k:Nat) fr M=>k≤(facL d).length∧fr 0=ints (facL d)∧fr 3=monP∧fr 4=(PV.i .i64 ((i:Nat):Int))∧fr 6=(PV.i .i64 ((k:Nat):Int))∧M=[]∧((fr 5=.b true∧∀e,e<k→(facL i).getD e 0=(facL d).getD e 0)∨(fr 5=.b false∧0<k))) (fun k=>(facL d).length-k) ?_ 0 ⟨by omega,by simp only[go_sem,seval,f0],by simp only[go_sem,seval,f3],by simp only[go_sem,seval,f4],by simp only[go_sem,seval],rfl,.inl ⟨by simp only[go_sem,seval],fun e he=>by omega⟩⟩
   clear f0 f3 f4
   rintro k fr M ⟨hk,f0,f3,f4,f6,rfl,f5⟩ ih2
   rcases f5 with⟨f5,hs⟩|⟨f5,hs⟩
   ·rcases Nat.lt_or_ge k (facL d).length with h3|h3
    ·have q2:((k:Int)<((facL d).length:Int))=True:=eq_true (by omega)
     have gk:=zlq h3
     have gi:=zlq (show k<(facL i).length by omega)
     by_cases ee:(facL i).getD k 0=(facL d).getD k 0
     ·have ee':((facL i).getD k 0=(facL d).getD k 0)=True:=eq_true ee
      simp(disch:=omega)only[go_sem,seval,wqq,f0,f3,f4,f5,f6,q2,mi,gk,gi,ee']
      refine ih2 (k+1) _ _ (by omega) ⟨by omega,by simp only[go_sem,seval,f0],by simp only[go_sem,seval,f3],by simp only[go_sem,seval,f4],by simp only[go_sem,seval,f6];rw[Int.natCast_succ],rfl,.inl ⟨by simp only[go_sem,seval],fun e he=>?_⟩⟩
      rcases Nat.lt_or_ge e k with z|z
      ·exact hs e z
      ·obtain rfl:e=k:=by omega
       exact ee
     ·have ee':((facL i).getD k 0=(facL d).getD k 0)=False:=eq_false ee
      simp(disch:=omega)only[go_sem,seval,wqq,f0,f3,f4,f5,f6,q2,mi,gk,gi,ee']
      exact ih2 (k+1) _ _ (by omega) ⟨by omega,by simp only[go_sem,seval,f0],by simp only[go_sem,seval,f3],by simp only[go_sem,seval,f4],by simp only[go_sem,seval,f6];rw[Int.natCast_succ],rfl,.inr ⟨by simp only[go_sem,seval],by omega⟩⟩
    ·obtain rfl:k=(facL d).length:=by omega
     exact absurd (zlj i h d hd (znz hl hs)) hid
   ·rcases zg5 ((k:Int)<((facL d).length:Int)) with q2|q2
    ·simp(disch:=omega)only[go_sem,seval,wqq,f0,f3,f4,f5,f6,q2]
     exact ih (i+1) _ _ (by omega) ⟨by omega,by simp only[go_sem,seval,f0],by simp only[go_sem,seval,f3],by simp only[go_sem,seval,f4];rw[Int.natCast_succ],rfl⟩
    ·simp(disch:=omega)only[go_sem,seval,wqq,f0,f3,f4,f5,f6,q2]
     exact ih (i+1) _ _ (by omega) ⟨by omega,by simp only[go_sem,seval,f0],by simp only[go_sem,seval,f3],by simp only[go_sem,seval,f4];rw[Int.natCast_succ],rfl⟩
  ·have le:(((facL i).length:Int)=((facL d).length:Int))=False:=eq_false (by omega)
   simp(disch:=omega)only[go_sem,seval,wqq,f0,f3,f4,q1,mi,le]
   refine zay zuy.eq_1 ?_
   rcases zg5 ((0:Int)<((facL d).length:Int)) with q2|q2
   ·simp(disch:=omega)only[go_sem,seval,wqq,f0,f3,f4,q2]
    exact ih (i+1) _ _ (by omega) ⟨by omega,by simp only[go_sem,seval,f0],by simp only[go_sem,seval,f3],by simp only[go_sem,seval,f4];rw[Int.natCast_succ],rfl⟩
   ·simp(disch:=omega)only[go_sem,seval,wqq,f0,f3,f4,q2]
    exact ih (i+1) _ _ (by omega) ⟨by omega,by simp only[go_sem,seval,f0],by simp only[go_sem,seval,f3],by simp only[go_sem,seval,f4];rw[Int.natCast_succ],rfl⟩
end Go.Eng
namespace Go.Eng
def dnN (i j:Nat):Nat:=((List.range 20).find? fun d=>decide (∀e:Nat,e<3→rowM d e=upd (rowM i) j (rowM i j-1) e)).getD 0
theorem znb:∀i,i<20→∀j,j<3→exN i j≠0→dnN i j<20∧∀e,e<3→upd (rowM i) j (rowM i j-1) e=rowM (dnN i j) e:=by decide
def grJ (c:Nat→Int) (i:Nat) (g:Nat→Int):Nat→Nat→Int
 | 0=>g
 | j+1=>if exN i j=0 then grJ c i g j else upd (grJ c i g j) (j*20+dnN i j) (exN i j*c i)
def grI (c:Nat→Int):Nat→Nat→Int
 | 0=>zF
 | i+1=>grJ c i (grI c i) 3
def gRow (g:Nat→Int) (f:Nat):Nat→Int:=fun e=>g (f*20+e)
open Classical in
noncomputable def grE (c:Nat→Int):Int:=if okC c then (if ∀f,f<3→okC (gRow (grI c 20) f) then 0 else 5) else 1
noncomputable def grV (c:Nat→Int):Nat→Int:=if grE c=0 then grI c 20 else zF
theorem z60:[PV.i .i64 0,PV.i .i64 0,PV.i .i64 0,PV.i .i64 0,PV.i .i64 0,PV.i .i64 0,PV.i .i64 0,PV.i .i64 0,PV.i .i64 0,PV.i .i64 0,PV.i .i64 0,PV.i .i64 0,PV.i .i64 0,PV.i .i64 0,PV.i .i64 0,PV.i .i64 0,PV.i .i64 0,PV.i .i64 0,PV.i .i64 0,PV.i .i64 0,PV.i .i64 0,PV.i .i64 0,PV.i .i64 0,PV.i .i64 0,PV.i .i64 0,PV.i .i64 0,PV.i .i64 0,PV.i .i64 0,PV.i .i64 0,PV.i .i64 0,PV.i .i64 0,PV.i .i64 0,PV.i .i64 0,PV.i .i64 0,PV.i .i64 0,PV.i .i64 0,PV.i .i64 0,PV.i .i64 0,PV.i .i64 0,PV.i .i64 0,PV.i .i64 0,PV.i .i64 0,PV.i .i64 0,PV.i .i64 0,PV.i .i64 0,PV.i .i64 0,PV.i .i64 0,PV.i .i64 0,PV.i .i64 0,PV.i .i64 0,PV.i .i64 0,PV.i .i64 0,PV.i .i64 0,PV.i .i64 0,PV.i .i64 0,PV.i .i64 0,PV.i .i64 0,PV.i .i64 0,PV.i .i64 0,PV.i .i64 0]=cs 60 zF:=rfl
theorem zsx (g:Nat→Int) {f:Nat} (h:f<3):iagP 3 true 20 (aI 60 g) (some f)=some (aI 20 (gRow g f)):=by
 unfold aI
 rw[zdk,if_pos ⟨h,by rw[zbZ]⟩,zdO g (by omega)];rfl
theorem zlU {c:Nat→Int} (h:¬okC c):pf E0 407 [aI 20 c]=some (.tu [aI 60 zF,.i .i64 1]):=by
 have va:=zaw c
 have:vlC c=1:=if_neg h
 rw[this] at va
 refine zab (xf:=zt3) rfl (by simp[zt3]) ?_
 simp only[zt3]
 simp(disch:=omega)only[go_sem,seval,wqq,va,z60]
set_option maxHeartbeats 8000000 in
theorem zlV {c:Nat→Int} (hc:okC c):pf E0 407 [aI 20 c]=some (.tu [aI 60 (grV c),.i .i64 (grE c)]):=by
 have va:=zaw c
 have:vlC c=0:=if_pos hc
 rw[this] at va
 refine zab (xf:=zt3) rfl (by simp[zt3]) ?_
 simp only[zt3]
 simp(disch:=omega)only[go_sem,seval,wqq,va,z60,zjf]
 refine zag zvz.eq_1 (fun(i:Nat) fr M=>i≤20∧fr 1=.p 0 0∧fr 2=.p 1 0∧fr 5=.p 2 0∧fr 19=aI 60 mE∧fr 20=(PV.i .i64 ((i:Nat):Int))∧∃v G,M=some ⟨cs 20 c,true,0⟩::some ⟨cs 60 zF,true,0⟩::some ⟨cs 60 (grI c i),true,v⟩::G) (fun i=>20-i) ?_ 0 ⟨by omega,by simp only[go_sem,seval],by simp only[go_sem,seval],by simp only[go_sem,seval],by simp only[go_sem,seval],by simp only[go_sem,seval],_,[],rfl⟩
 rintro i fr M ⟨hi,f1,f2,f5,f19,f20,v,G,rfl⟩ ih
 rcases Nat.lt_or_ge i 20 with h|h
 ·have q1:((i:Int)<20)=True:=eq_true (by omega)
  have qL:(i<20)=True:=eq_true h
  have ia:iagP 20 true 3 (aI 60 mE) (some i)=some (aI 3 (rowM i)):=by
   unfold aI
   rw[zdk,if_pos ⟨h,by rw[zbZ]⟩,zgS h];rfl
  simp(disch:=omega)only[go_sem,seval,wqq,f1,f2,f5,f19,f20,q1,qL,ia,mG,mG0,sG,sG0,lG,lqq]
  refine zag zvC.eq_1 (fun(j:Nat) fr M=>j≤3∧fr 1=.p 0 0∧fr 2=.p 1 0∧fr 5=.p 2 0∧fr 6=(PV.i .i64 ((i:Nat):Int))∧fr 7=.p (G.length+3) 0∧fr 19=aI 60 mE∧fr 20=(PV.i .i64 ((i:Nat):Int))∧fr 24=aI 3 (rowM i)∧fr 25=(PV.i .i64 ((j:Nat):Int))∧∃v vr H,M=some ⟨cs 20 c,true,0⟩::some ⟨cs 60 zF,true,0⟩::some ⟨cs 60 (grJ c i (grI c i) j),true,v⟩::(G++some ⟨cs 3 (rowM i),true,vr⟩::H)) (fun j=>3-j) ?_ 0 ⟨by omega,by simp only[go_sem,seval,f1],by simp only[go_sem,seval,f2],by simp only[go_sem,seval,f5],by simp only[go_sem,seval],by simp only[go_sem,seval],by simp only[go_sem,seval,f19],by simp only[go_sem,seval,f20],by simp only[go_sem,seval],by simp only[go_sem,seval],_,_,[],rfl⟩
  rintro j fr M ⟨hj,f1,f2,f5,f6,f7,f19,f20,f24,f25,v,vr,H,rfl⟩ ih2
  rcases Nat.lt_or_ge j 3 with h3|h3
  ·have q2:((j:Int)<3)=True:=eq_true (by omega)
   have qJ:(j<3)=True:=eq_true h3
   have iy:=zc7 (rowM i) h3
   obtain⟨e1,e2⟩:=zaE i h j h3
   have e1:rowM i j=(exN i j:Int):=e1
   rw[e1] at iy
   by_cases z:exN i j=0
   ·have zz:((exN i j:Int)=0)=True:=eq_true (by omega)
    have hs:grJ c i (grI c i) (j+1)=grJ c i (grI c i) j:=if_pos z
    simp(disch:=omega)only[go_sem,seval,wqq,f1,f2,f5,f6,f7,f19,f20,f24,f25,q2,qJ,iy,zz,mG,mG0,sG,sG0,lG,lqq]
    exact ih2 (j+1) _ _ (by omega) ⟨by omega,by simp only[go_sem,seval,f1],by simp only[go_sem,seval,f2],by simp only[go_sem,seval,f5],by simp only[go_sem,seval,f6],by simp only[go_sem,seval,f7],by simp only[go_sem,seval,f19],by simp only[go_sem,seval,f20],by simp only[go_sem,seval,f24],by simp only[go_sem,seval,f25];rw[Int.natCast_succ],_,_,_,by rw[hs]⟩
   ·have zz:((exN i j:Int)=0)=False:=eq_false (by omega)
    have hs:grJ c i (grI c i) (j+1)=upd (grJ c i (grI c i) j) (j*20+dnN i j) (exN i j*c i):=if_neg z
    obtain⟨d1,d2⟩:=znb i h j h3 z
    rw[e1] at d2
    have dd:cs 3 (upd (rowM i) j ((exN i j:Int)-1))=cs 3 (rowM (dnN i j)):=zf5 d2
    have dx:=zlX d1
    have cg1:=zbj (n:=20) c h
    have cj:=zbj (n:=3) (rowM i) h3
    rw[e1] at cj
    have qD:(dnN i j<20)=True:=eq_true d1
    have qS:(j*20+dnN i j<60)=True:=eq_true (by omega)
    have bc:=hc i h
    have be : -3221225472≤(exN i j:Int)*c i∧(exN i j:Int)*c i≤3221225472:=by
     obtain q|q|q:exN i j=1∨exN i j=2∨exN i j=3:=by omega
     all_goals (rw[q];omega)
    simp(disch:=omega)only[go_sem,seval,wqq,f1,f2,f5,f6,f7,f19,f20,f24,f25,q2,qJ,iy,zz,cj,dd,mG,mG0,sG,sG0,lG,lqq]
    refine zbX [42] rfl ?_ ?_
    ·simp(disch:=omega)only[go_sem,seval,wqq,f1,f2,f5,f6,f7,f19,f20,f24,f25,q2,qJ,qL,qD,qS,iy,zz,cj,dd,dx,cg1,mG,mG0,sG,sG0,lG,lqq]
     exact⟨_,rfl,rfl⟩
    simp(disch:=omega)only[go_sem,seval,wqq,f1,f2,f5,f6,f7,f19,f20,f24,f25,q2,qJ,qL,qD,qS,iy,zz,cj,dd,dx,cg1,mG,mG0,sG,sG0,lG,lqq]
    exact ih2 (j+1) _ _ (by omega) ⟨by omega,by simp only[go_sem,seval,f1],by simp only[go_sem,seval,f2],by simp only[go_sem,seval,f5],by simp only[go_sem,seval,f6],by simp only[go_sem,seval,f7],by simp only[go_sem,seval,f19],by simp only[go_sem,seval,f20],by simp only[go_sem,seval,f24],by simp only[go_sem,seval,f25];rw[Int.natCast_succ],_,_,_,by rw[hs]⟩
  ·obtain rfl:j=3:=by omega
   simp(disch:=omega)only[go_sem,seval,wqq,f1,f2,f5,f6,f7,f19,f20,f24,f25,mG,mG0,sG,sG0,lG,lqq]
   exact ih (i+1) _ _ (by omega) ⟨by omega,by simp only[go_sem,seval,f1],by simp only[go_sem,seval,f2],by simp only[go_sem,seval,f5],by simp only[go_sem,seval,f19],by simp only[go_sem,seval,f20];rw[Int.natCast_succ],_,_,rfl⟩
 ·obtain rfl:i=20:=by omega
  clear ih
  simp(disch:=omega)only[go_sem,seval,wqq,f1,f2,f5,f19,f20,mG,mG0,sG,sG0,lG,lqq]
  by_cases hg:∀f,f<3→okC (gRow (grI c 20) f)
  ·have e1:grE c=0:=by unfold grE;rw[if_pos hc,if_pos hg]
   have e2:grV c=grI c 20:=by unfold grV;rw[e1];rfl
   rw[e1,e2]
   refine zag zu9.eq_1 (fun(f:Nat) fr M=>f≤3∧fr 2=.p 1 0∧fr 5=.p 2 0∧fr 49=aI 60 (grI c 20)∧fr 50=(PV.i .i64 ((f:Nat):Int))∧∃b0 v G,M=b0::some ⟨cs 60 zF,true,0⟩::some ⟨cs 60 (grI c 20),true,v⟩::G) (fun f=>3-f) ?_ 0 ⟨by omega,by simp only[go_sem,seval,f2],by simp only[go_sem,seval,f5],by simp only[go_sem,seval],by simp only[go_sem,seval],_,_,_,rfl⟩
   clear f1 f2 f5 f19 f20
   rintro f fr M ⟨hf,f2,f5,f49,f50,b0,v,G,rfl⟩ ih
   rcases Nat.lt_or_ge f 3 with h3|h3
   ·have q1:((f:Int)<3)=True:=eq_true (by omega)
    have ia:=zsx (grI c 20) h3
    have vb:=zaw (gRow (grI c 20) f)
    have:vlC (gRow (grI c 20) f)=0:=if_pos (hg f h3)
    rw[this] at vb
    simp(disch:=omega)only[go_sem,seval,wqq,f2,f5,f49,f50,q1,ia,vb,mG,mG0,sG,sG0,lG,lqq]
    exact ih (f+1) _ _ (by omega) ⟨by omega,by simp only[go_sem,seval,f2],by simp only[go_sem,seval,f5],by simp only[go_sem,seval,f49],by simp only[go_sem,seval,f50];rw[Int.natCast_succ],_,_,_,rfl⟩
   ·obtain rfl:f=3:=by omega
    simp(disch:=omega)only[go_sem,seval,wqq,f2,f5,f49,f50,mG,mG0,sG,sG0,lG,lqq]
  ·have e1:grE c=5:=by unfold grE;rw[if_pos hc,if_neg hg]
   have e2:grV c=zF:=by unfold grV;rw[e1];rfl
   rw[e1,e2]
   refine zag zu9.eq_1 (fun(f:Nat) fr M=>f≤3∧(∀e,e<f→okC (gRow (grI c 20) e))∧fr 2=.p 1 0∧fr 5=.p 2 0∧fr 49=aI 60 (grI c 20)∧fr 50=(PV.i .i64 ((f:Nat):Int))∧∃b0 v G,M=b0::some ⟨cs 60 zF,true,0⟩::some ⟨cs 60 (grI c 20),true,v⟩::G) (fun f=>3-f) ?_ 0 ⟨by omega,fun e he=>by omega,by simp only[go_sem,seval,f2],by simp only[go_sem,seval,f5],by simp only[go_sem,seval],by simp only[go_sem,seval],_,_,_,rfl⟩
   clear f1 f2 f5 f19 f20
   rintro f fr M ⟨hf,hlo,f2,f5,f49,f50,b0,v,G,rfl⟩ ih
   have h3:f<3:=by
    rcases Nat.lt_or_ge f 3 with z|z
    ·exact z
    ·obtain rfl:f=3:=by omega
     exact absurd hlo hg
   have q1:((f:Int)<3)=True:=eq_true (by omega)
   have ia:=zsx (grI c 20) h3
   have vb:=zaw (gRow (grI c 20) f)
   by_cases ok:okC (gRow (grI c 20) f)
   ·have:vlC (gRow (grI c 20) f)=0:=if_pos ok
    rw[this] at vb
    simp(disch:=omega)only[go_sem,seval,wqq,f2,f5,f49,f50,q1,ia,vb,mG,mG0,sG,sG0,lG,lqq]
    refine ih (f+1) _ _ (by omega) ⟨by omega,fun e he=>?_,by simp only[go_sem,seval,f2],by simp only[go_sem,seval,f5],by simp only[go_sem,seval,f49],by simp only[go_sem,seval,f50];rw[Int.natCast_succ],_,_,_,rfl⟩
    rcases Nat.lt_or_ge e f with z|z
    ·exact hlo e z
    ·obtain rfl:e=f:=by omega
     exact ok
   ·have:vlC (gRow (grI c 20) f)=1:=if_neg ok
    rw[this] at vb
    simp(disch:=omega)only[go_sem,seval,wqq,f2,f5,f49,f50,q1,ia,vb,z60,mG,mG0,sG,sG0,lG,lqq]
theorem zn2 (c:Nat→Int):pf E0 407 [aI 20 c]=some (.tu [aI 60 (grV c),.i .i64 (grE c)]):=by
 by_cases hc:okC c
 ·exact zlV hc
 ·have e1:grE c=1:=if_neg hc
  have e2:grV c=zF:=by unfold grV;rw[e1];rfl
  rw[e1,e2]
  exact zlU hc
end Go.Eng
namespace Go.Eng
theorem zrQ:[PV.b false,T 0]=nc 0:=rfl
theorem zky (z:Int):(nc z).all PV.scal=true:=rfl
theorem zkz (z:Int):psplice [.b false,.nl] 0 (nc z)=nc z:=rfl
theorem zmO (M0 A:PM) (L:List PV) (z:Int) {i:Nat} (hL:L.length=i*2) (hi:i≤1000) :
  appP (M0++(A++[some ⟨L,true,0⟩,some ⟨nc z,true,0⟩])) 2 32 (.sl (M0.length+A.length) 0 i i 2) (.sl (M0.length+(A.length+1)) 0 1 1 2)=some (.sl (M0.length+(A.length+1+1)) 0 (i+1) (i+1) 2,M0++(A++[none,some ⟨nc z,true,0⟩,some ⟨L++nc z,true,0⟩])):=by
 have b1:PM.blk (M0++(A++[some ⟨L,true,0⟩,some ⟨nc z,true,0⟩])) (M0.length+A.length)=some ⟨L,true,0⟩:=by rw[mG,mG0];rfl
 have b2:PM.blk (M0++(A++[some ⟨L,true,0⟩,some ⟨nc z,true,0⟩])) (M0.length+(A.length+1))=some ⟨nc z,true,0⟩:=by rw[mG,mG];rfl
 have s:srcP (M0++(A++[some ⟨L,true,0⟩,some ⟨nc z,true,0⟩])) 2 (.sl (M0.length+(A.length+1)) 0 1 1 2)=some (1,nc z):=by
  simp only[srcP,PM.rd,b2];rfl
 unfold appP
 rw[s]
 simp only[b1,Nat.zero_add,List.drop_zero]
 rw[if_neg (by simp),if_neg (by decide),if_pos ⟨trivial,by omega,by omega⟩,List.take_of_length_le (by omega),sG,sG0]
 simp only[List.set_cons_zero,List.length_append,List.length_cons,List.length_nil,lqq]
theorem zk4 (M0:PM) (z:Int):appP (M0++[some ⟨nc z,true,0⟩]) 2 32 .nl (.sl M0.length 0 1 1 2)=some (.sl (M0.length+1) 0 1 1 2,M0++[some ⟨nc z,true,0⟩,some ⟨nc z,true,0⟩]):=by
 have b2:PM.blk (M0++[some ⟨nc z,true,0⟩]) M0.length=some ⟨nc z,true,0⟩:=by rw[mG0];rfl
 have s:srcP (M0++[some ⟨nc z,true,0⟩]) 2 (.sl M0.length 0 1 1 2)=some (1,nc z):=by
  simp only[srcP,PM.rd,b2];rfl
 unfold appP
 rw[s]
 simp only[List.length_append,lqq]
 rfl
set_option maxHeartbeats 4000000 in
theorem zfL (M0:PM):∃A:PM,pcl E0 419 [] M0=some (.sl (M0.length+A.length) 0 20 20 2,M0++(A++[some ⟨cg 20 (fun _=>nc 0),true,0⟩])):=by
 have x0:=zio 0 (by decide)
 suffices h:∃v M',pcl E0 419 [] M0=some (v,M')∧∃A:PM,v=.sl (M0.length+A.length) 0 20 20 2∧M'=M0++(A++[some ⟨cg 20 (fun _=>nc 0),true,0⟩]) by
  obtain⟨v,M',e,A,rfl,rfl⟩:=h
  exact⟨A,e⟩
 refine zdt (xf:=zuE) rfl rfl (by simp[zuE]) ?_
 simp only[zuE]
 simp(disch:=omega)only[go_sem,seval,wqq]
 refine zag zvF.eq_1 (fun(i:Nat) fr M=>i≤20∧fr 2=(PV.i .i64 ((i:Nat):Int))∧((i=0∧fr 1=.nl∧M=M0)∨(0<i∧∃A:PM,fr 1=.sl (M0.length+A.length) 0 i i 2∧M=M0++(A++[some ⟨cg i (fun _=>nc 0),true,0⟩])))) (fun i=>20-i) ?_ 0 ⟨by omega,by simp only[go_sem,seval],.inl ⟨rfl,by simp only[go_sem,seval],rfl⟩⟩
 rintro i fr M ⟨hi,f2,hA⟩ ih
 rcases Nat.lt_or_ge i 20 with h|h
 ·have q1:((i:Int)<20)=True:=eq_true (by omega)
  rcases hA with⟨rfl,f1,rfl⟩|⟨h0,A,f1,rfl⟩
  ·have f2:fr 2=.i .i64 0:=f2
   have ap:=zk4 M 0
   simp(disch:=omega)only[go_sem,seval,wqq,f2,f1,x0,zaz,zah,zrQ,zdV,zky,zkz,ap,mG,mG0,sG,sG0,lG,lqq]
   exact ih 1 _ _ (by omega) ⟨by omega,by simp only[go_sem,seval],.inr ⟨by omega,[some ⟨nc 0,true,0⟩],by simp only[go_sem,seval],rfl⟩⟩
  ·have ap:=zmO M0 A (cg i fun _=>nc 0) 0 (i:=i) (zcM (k:=2) (fun _=>rfl) i) (by omega)
   simp(disch:=omega)only[go_sem,seval,wqq,f2,f1,x0,q1,zaz,zah,zrQ,zdV,zky,zkz,ap,mG,mG0,sG,sG0,lG,lqq]
   exact ih (i+1) _ _ (by omega) ⟨by omega,by simp only[go_sem,seval,f2];rw[Int.natCast_succ],.inr ⟨by omega,A++[none,some ⟨nc 0,true,0⟩],by simp only[go_sem,seval];rw[List.length_append];rfl,by rw[zb4,List.append_assoc];rfl⟩⟩
 ·obtain rfl:i=20:=by omega
  rcases hA with⟨h0,_⟩|⟨h0,A,f1,rfl⟩
  ·omega
  ·simp(disch:=omega)only[go_sem,seval,wqq,f2,f1,mG,mG0,sG,sG0,lG,lqq]
   exact⟨A,rfl,rfl⟩
theorem zgi (z:Nat) (hz:z≠1):∀(n:Nat) (cs:List PV),group z n cs=(List.range n).map fun i=>.ag ((cs.drop (i*z)).take z)
 | 0,_=>rfl
 | n+1,cs=>by
  rw[group,if_neg hz,zgi z hz n,List.range_succ_eq_map,List.map_cons,List.map_map,Nat.zero_mul,List.drop_zero]
  congr 1
  refine List.map_congr_left fun i _=>?_
  show PV.ag _=PV.ag _
  rw[List.drop_drop,Nat.succ_mul,Nat.add_comm]
noncomputable def nsP (n:Nat) (Z:Nat→Int):PV:=.lst ((List.range n).map fun e=>nP (Z e))
@[go_sem] theorem zrI (M:PM) (d n:Nat) (Z:Nat→Int):fz M (d+1) (nsP n Z)=some (nsP n Z,[]):=_root_.id rfl
theorem zgj (n:Nat) (Z:Nat→Int):PV.lst (group 2 n (cg n fun e=>nc (Z e)))=nsP n Z:=by
 rw[zgi 2 (by decide)]
 unfold nsP
 congr 1
 refine List.map_congr_left fun i hi=>?_
 rw[zbF (k:=2) (fun _=>rfl) (List.mem_range.1 hi)];rfl
theorem zf0 (M:PM) (d n:Nat) (Z:Nat→Int):fzL (fz M (d+1)) (cg n fun e=>nc (Z e))=some (cg n (fun e=>nc (Z e)),[]):=zpO (fun e x hx=>by
 unfold nc at hx
 simp only[List.mem_cons,List.not_mem_nil,or_false] at hx
 rcases hx with rfl|rfl<;>rfl) n
theorem zaX (n:Nat) (Z:Nat→Int):(cg n fun e=>nc (Z e)).length=n*2:=zcM (k:=2) (fun _=>rfl) n
theorem zkA {n:Nat} (Z:Nat→Int) {i:Nat} (h:i<n):idxP 2 (nsP n Z) (some i)=some (.fp (nc (Z i))):=by
 unfold nsP
 rw[zcj,List.getElem?_map,List.getElem?_eq_getElem (by rw[List.length_range];exact h),List.getElem_range]
 rfl
def prR (P:Nat→Int) (f:Nat) (b:Int) (i e:Nat):Int:=(if e<i then-(P e*b) else 0)+(if 1≤exN e f∧dnN e f<i then P (dnN e f) else 0)
def prV (P:Nat→Int) (f:Nat) (b:Int):Nat→Int:=prR P f b 20
theorem zpW:∀i,i<20→degN i≤2→∀f:Nat,f<3→dnN (upN i f) f=i∧1≤exN (upN i f) f:=by decide
theorem zhm:∀e,e<20→∀f:Nat,f<3→1≤exN e f→upN (dnN e f) f=e∧dnN e f<e∧degN (dnN e f)≤2:=by decide
theorem zjY {P:Nat→Int} {f:Nat} {b:Int} {i:Nat} (h:P i=0) (e:Nat):prR P f b (i+1) e=prR P f b i e:=by
 unfold prR
 congr 1
 ·by_cases ei:e=i
  ·subst ei;rw[if_pos (by omega),if_neg (by omega),h,Int.zero_mul,Int.neg_zero]
  ·by_cases el:e<i
   ·rw[if_pos el,if_pos (by omega)]
   ·rw[if_neg el,if_neg (by omega)]
 ·by_cases c:1≤exN e f∧dnN e f<i
  ·rw[if_pos c,if_pos ⟨c.1,by omega⟩]
  ·rw[if_neg c]
   split
   ·rename_i q
    have:dnN e f=i:=by omega
    rw[this,h]
   ·rfl
theorem zjZ {P:Nat→Int} {f:Nat} {b:Int} {i:Nat} (hi:i<20) (hf:f<3) (hd:degN i≤2) {e:Nat} (he:e<20) :
  prR P f b (i+1) e=upd (upd (prR P f b i) i (prR P f b i i-P i*b)) (upN i f) (upd (prR P f b i) i (prR P f b i i-P i*b) (upN i f)+P i) e:=by
 obtain⟨_,u1,u2⟩:=zoI i hi hd f hf
 obtain⟨d1,d2⟩:=zpW i hi hd f hf
 have sec:∀e,e<20→e≠upN i f→(if 1≤exN e f∧dnN e f<i+1 then P (dnN e f) else 0)=if 1≤exN e f∧dnN e f<i then P (dnN e f) else 0:=fun e he hk=>by
  by_cases c:1≤exN e f∧dnN e f<i
  ·rw[if_pos c,if_pos ⟨c.1,by omega⟩]
  ·rw[if_neg c]
   split
   ·rename_i q
    have z:dnN e f=i:=by omega
    have:=(zhm e he f hf q.1).1
    rw[z] at this
    exact absurd this.symm hk
   ·rfl
 by_cases ek:e=upN i f
 ·subst ek
  rw[zbl,zbJ (by omega)]
  have a1:prR P f b (i+1) (upN i f)=0+P i:=by
   unfold prR
   rw[if_neg (show ¬upN i f<i+1 by omega),d1,if_pos ⟨d2,Nat.lt_succ_self i⟩]
  have a2:prR P f b i (upN i f)=0+0:=by
   unfold prR
   rw[if_neg (show ¬upN i f<i by omega),d1,if_neg (fun q=>Nat.lt_irrefl _ q.2)]
  rw[a1,a2]
  omega
 ·rw[zbJ ek]
  by_cases ei:e=i
  ·subst ei
   rw[zbl]
   unfold prR
   rw[sec e he ek,if_pos (Nat.lt_succ_self e),if_neg (Nat.lt_irrefl e)]
   omega
  ·rw[zbJ ei]
   unfold prR
   rw[sec e he ek]
   congr 1
   by_cases el:e<i
   ·rw[if_pos el,if_pos (by omega)]
   ·rw[if_neg el,if_neg (by omega)]
end Go.Eng
namespace Go.Eng
def isPG:PV→Bool
 | .p _ _=>true
 | .fp _=>true
 | _=>false
def slotInF (E:PEnv) (ops:List XOper) (L:List Nat) (c:Nat×Nat):Bool :=
 match ops[c.1]?,ops[c.2]? with
 | some a,some b =>
  match a.op with
  | .load _ _ (.t s)=>L.contains s&&calmOp E b.op&&fixedX ops c.2 (.t s)
  | _=>false
 | _,_=>false
theorem zkd {E:PEnv} {F:PFin} {ops:List XOper} {chk:List (Nat×Nat)} {ks:List KI} {fr:PFr} {M:PM} (L:List Nat) (hL:chk.all (fun c=>calmC E ops c || slotInF E ops L c)=true)
  (hr:WL E ⟨(0::0::L).map XR.tmp,fun w _=>∃l,w=.tu l∧(l.drop 2).all isPG=true⟩ ops [] fr M) (w:WL E F ops ks fr M):WK E F (.drw ops chk) ks fr M:=by
 refine zbW (fun fr2 Ms hT=>?_) w
 have hp:L.all (fun s=>isPG (fr2 s))=true:=by
  obtain⟨lf,q,fr3,M3,vs,e,h1,h2,l,h3,h4⟩:=hr
  simp only[Option.bind_eq_some_iff,unw] at e
  obtain⟨⟨fr4,M4⟩,e1,e2⟩:=e
  simp only[Option.some.injEq,Prod.mk.injEq] at e2
  obtain⟨_,e3,e4⟩:=e2
  rw[←e3,←e4] at h2
  obtain⟨Ms',g1,g2⟩:=zbV e1
  rw[g1] at hT
  cases hT
  have hres:∀(f:PFr) (N:PM) (l:List Nat),pRes f N (l.map XR.tmp)=some (l.map f):=fun f N l=>by
   induction l with
   | nil=>rfl
   | cons a l ih=>simp only[List.map_cons,pRes,pResOne,ih]
  rw[hres] at h2
  cases h2
  simp only[List.map_cons,packP] at h3
  cases h3
  simpa [List.all_map] using h4
 rw[List.all_eq_true] at hL hp ⊢
 rintro⟨i,j⟩ hc
 have h1:=hL _ hc
 simp only[Bool.or_eq_true] at h1
 rcases h1 with h1|h1
 ·exact zby hT h1
 ·unfold slotInF at h1
  split at h1
  ·rename_i a b ha hb
   split at h1
   ·rename_i z k s hop
    simp only[Bool.and_eq_true] at h1
    obtain⟨⟨c1,c2⟩,c3⟩:=h1
    have hs:=hp s (List.contains_iff_mem.1 c1)
    cases hf:fr2 s with
    | p n o =>
     obtain⟨fri,A,B,q1,q2,q3,q4⟩:=zaI hT ha
     obtain⟨frj,C,D,p1,p2,p3,p4⟩:=zaI hT hb
     have p2':Ms[(i,j).2+1]?=some D:=p2
     have q2':Ms[(i,j).1+1]?=some B:=q2
     simp only[chkP,ha,q1,q2,p1,p2]
     rw[if_neg (by rw[hop];simp[XO.cls])]
     rw[hop]
     show chkV ops j (.t s) C D (fr2 s)=true
     rw[hf]
     show verP (some n) C D=true
     rcases p3 with⟨_,v,p3⟩|⟨_,p3⟩
     ·cases hopb:b.op with
      | call f l =>
       rw[hopb] at p3 c2
       obtain⟨ns,rfl⟩:=zez c2 p3
       exact zc4 ns C _
      | _=>rw[hopb] at c2;simp[calmOp] at c2
     ·rw[p3];simp[verP]
    | fp l =>
     obtain⟨fri,A,B,q1,q2,q3,q4⟩:=zaI hT ha
     obtain⟨frj,C,D,p1,p2,p3,p4⟩:=zaI hT hb
     have p2':Ms[(i,j).2+1]?=some D:=p2
     have q2':Ms[(i,j).1+1]?=some B:=q2
     simp only[chkP,ha,q1,q2,p1,p2]
     rw[if_neg (by rw[hop];simp[XO.cls])]
     rw[hop]
     show chkV ops j (.t s) C D (fr2 s)=true
     rw[hf]
     exact c3
    | _=>rw[hf] at hs;simp[isPG] at hs
   ·cases h1
  ·cases h1
end Go.Eng
namespace Go.Eng
theorem ziw {P:Nat→Int} {f:Nat} {b:Int} {n:Nat} (hP:∀e,tlen (P e).natAbs≤n) (hb:Fits64 b) (i e:Nat):tlen (prR P f b i e).natAbs≤n+6:=by
 have z:tlen (0:Int).natAbs=0:=by rw[Int.natAbs_zero,zbh]
 have bl:=zks hb
 have m:=zaj (P e) b
 have h1:=hP e
 have h2:=hP (dnN e f)
 have neg:tlen (-(P e*b)).natAbs=tlen (P e*b).natAbs:=by rw[Int.natAbs_neg]
 unfold prR
 have a:=zct (if e<i then-(P e*b) else 0) (if 1≤exN e f∧dnN e f<i then P (dnN e f) else 0)
 have b1:tlen (if e<i then-(P e*b) else 0).natAbs≤n+5:=by split<;>omega
 have b2:tlen (if 1≤exN e f∧dnN e f<i then P (dnN e f) else 0).natAbs≤n:=by split<;>omega
 omega
theorem zgt (z:Int):nc z=[.b (decide (z<0)),T z.natAbs]:=rfl
theorem zrG (z:Int):(nc z).drop 1=[T z.natAbs]:=rfl
set_option maxHeartbeats 8000000 in
theorem zin {P:Nat→Int} {n:Nat} (hn:n≤1000) (hP:∀e,tlen (P e).natAbs≤n) (hs:∀e,e<20→P e≠0→degN e≤2) {f:Nat} (hf:f<3) {b:Int} (hb:Fits64 b):pf E0 420 [nsP 20 P,(PV.i .i64 ((f:Nat):Int)),.i .i64 b]=some (nsP 20 (prV P f b)):=by
 obtain⟨A,hz⟩:=zfL []
 have bo:=zio b hb
 have bl:=zks hb
 refine zab (xf:=zur) rfl (by simp[zur]) ?_
 simp only[zur]
 simp(disch:=omega)only[go_sem,seval,wqq,hz,zig,List.length_nil,mG,mG0,sG,sG0,lG,lqq]
 refine zag zvi.eq_1 (fun(i:Nat) fr M=>i≤20∧fr 0=nsP 20 P∧fr 1=(PV.i .i64 ((f:Nat):Int))∧fr 2=.i .i64 b∧fr 7=.sl A.length 0 20 20 2∧fr 8=monP∧fr 9=(PV.i .i64 ((i:Nat):Int))∧∃R v,(∀e,e<20→R e=prR P f b i e)∧M=A++[some ⟨cg 20 fun e=>nc (R e),true,v⟩]) (fun i=>20-i) ?_ 0 ⟨by omega,by simp only[go_sem,seval],by simp only[go_sem,seval],by simp only[go_sem,seval],by simp only[go_sem,seval],by simp only[go_sem,seval],by simp only[go_sem,seval],fun _=>0,_,fun e _=>by unfold prR;rw[if_neg (by omega),if_neg (by omega)];rfl,rfl⟩
 rintro i fr M ⟨hi,f0,f1,f2,f7,f8,f9,R,v,hR,rfl⟩ ih
 have L2:=zaX 20 R
 rcases Nat.lt_or_ge i 20 with h|h
 ·have q1:((i:Int)<20)=True:=eq_true (by omega)
  have qL:(i<20)=True:=eq_true h
  have ix:=zkA P h
  by_cases p0:P i=0
  ·have t0:((tlen (P i).natAbs:Int)=0)=True:=eq_true (by rw[p0,Int.natAbs_zero,zbh];rfl)
   simp(disch:=omega)only[go_sem,seval,wqq,f0,f1,f2,f7,f8,f9,q1,qL,ix,zrG,t0,mG,mG0,sG,sG0,lG,lqq]
   exact ih (i+1) _ _ (by omega) ⟨by omega,by simp only[go_sem,seval,f0],by simp only[go_sem,seval,f1],by simp only[go_sem,seval,f2],by simp only[go_sem,seval,f7],by simp only[go_sem,seval,f8],by simp only[go_sem,seval,f9];rw[Int.natCast_succ],R,v,fun e he=>by rw[zjY p0];exact hR e he,rfl⟩
  ·have t0:((tlen (P i).natAbs:Int)=0)=False:=eq_false (fun q=>p0 (by
    have:=zaU (v:=(P i).natAbs) (n:=0)
    have:(P i).natAbs<10000^0:=this.1 (by omega)
    omega))
   have hd:=hs i h p0
   obtain⟨s1,s2,s3'⟩:=zoI i h hd f hf
   have ps:=zjU (l:=facL i) (by rw[zk8 i h];exact hd) (f:Int)
   rw[s1] at ps
   have px:=zjT s2
   have mi:=zfF h
   have mm:=zaj (P i) b
   have r1:=ziw (f:=f) hP hb i i
   have r2:=ziw (f:=f) hP hb i (upN i f)
   rw[←hR i h] at r1
   rw[←hR _ s2] at r2
   have pi:=hP i
   have ld:=zbF (k:=2) (f:=fun e=>nc (R e)) (fun _=>rfl) h
   have le:(i*2+2≤40)=True:=eq_true (by omega)
   have pm:=zod (P i) b (by omega) (by omega)
   have sb:=zof (R i) (P i*b) (by omega) (by omega)
   have st:=zdM (k:=2) (f:=fun e=>nc (R e)) (fun _=>rfl) h (v:=nc (R i-P i*b)) rfl
   rw[zdy nc,zgt (R i-P i*b)] at st
   have cl:=zkx
   have q2:(upN i f<20)=True:=eq_true s2
   have L3:=zaX 20 (upd R i (R i-P i*b))
   have le2:(upN i f*2+2≤40)=True:=eq_true (by omega)
   have ld2:=zbF (k:=2) (f:=fun e=>nc (upd R i (R i-P i*b) e)) (fun _=>rfl) s2
   have rk:upd R i (R i-P i*b) (upN i f)=R (upN i f):=zbJ (by omega)
   have pa:=zgC (upd R i (R i-P i*b) (upN i f)) (P i) (by rw[rk];omega) (by omega)
   have st2:=zdM (k:=2) (f:=fun e=>nc (upd R i (R i-P i*b) e)) (fun _=>rfl) s2 (v:=nc (upd R i (R i-P i*b) (upN i f)+P i)) rfl
   rw[zdy nc,zgt (upd R i (R i-P i*b) (upN i f)+P i)] at st2
   simp(disch:=omega)only[go_sem,seval,wqq,f0,f1,f2,f7,f8,f9,q1,qL,ix,zrG,t0,mG,mG0,sG,sG0,lG,lqq]
   refine zkd [28,32] rfl ?_ ?_
   ·simp(disch:=omega)only[go_sem,seval,wqq,f0,f1,f2,f7,f8,f9,qL,ix,L2,ld,le,zdV,zeu,cl,bo,pm,sb,st,mG,mG0,sG,sG0,lG,lqq]
    exact⟨_,rfl,rfl⟩
   simp(disch:=omega)only[go_sem,seval,wqq,f0,f1,f2,f7,f8,f9,qL,ix,L2,ld,le,zdV,zeu,cl,bo,pm,sb,st,mi,ps,px,q2,L3,le2,ld2,pa,st2,mG,mG0,sG,sG0,lG,lqq]
   refine ih (i+1) _ _ (by omega) ⟨by omega,by simp only[go_sem,seval,f0],by simp only[go_sem,seval,f1],by simp only[go_sem,seval,f2],by simp only[go_sem,seval,f7],by simp only[go_sem,seval,f8],by simp only[go_sem,seval,f9];rw[Int.natCast_succ],_,_,fun e he=>?_,rfl⟩
   rw[zjZ h hf hd he]
   unfold upd
   by_cases e1:e=upN i f
   ·rw[if_pos e1,if_pos e1]
    by_cases e2:upN i f=i
    ·rw[if_pos e2,if_pos e2,hR i h]
    ·rw[if_neg e2,if_neg e2,hR _ s2]
   ·rw[if_neg e1,if_neg e1]
    by_cases e2:e=i
    ·rw[if_pos e2,if_pos e2,hR i h]
    ·rw[if_neg e2,if_neg e2,hR e he]
 ·obtain rfl:i=20:=by omega
  have fzl:=fun M d=>zf0 M d 20 R
  have gr:=zgj 20 R
  have tk:List.take 40 (cg 20 fun e=>nc (R e))=cg 20 fun e=>nc (R e):=List.take_of_length_le (by omega)
  simp(disch:=omega)only[go_sem,seval,wqq,f0,f1,f2,f7,f8,f9,L2,tk,fzl,gr,Option.map_some,mG,mG0,sG,sG0,lG,lqq]
  have:nsP 20 R=nsP 20 (prV P f b):=by
   unfold nsP
   congr 1
   exact List.map_congr_left fun e he=>by rw[hR e (List.mem_range.1 he)];rfl
  rw[this]
end Go.Eng
namespace Go.Eng
end Go.Eng
namespace Go.Eng
end Go.Eng
namespace Go.Eng
end Go.Eng
namespace Go.Eng
theorem znv {f:FQ} {n d p q:Int} (hd:d≠0) (hq:0<q) (hc:Nat.gcd p.natAbs q.natAbs=1) (hf:f.is n d) (e:n*q=p*d):f.p.v=p∧f.q.v=q:=by
 unfold FQ.is at hf
 have q1:=f.q1
 refine zes (by omega) hq f.cop hc ?_
 apply Int.eq_of_mul_eq_mul_right (a:=d) hd
 calc f.p.v*q*d=f.p.v*d*q:=by grind
  _=n*f.q.v*q:=by rw[hf]
  _=n*q*f.q.v:=by grind
  _=p*d*f.q.v:=by rw[e]
  _=p*f.q.v*d:=by grind
theorem zkr {z:Int} {v n:Nat} (hz:z=(v:Int)) (h1:10^n≤v) (h2:v<10^(n+1)):decI z=dtx (n+1) v:=by
 subst hz
 unfold decI;rw[if_neg (by omega),Int.natAbs_natCast]
 exact zjh h1 h2
theorem zoz (f:FQ) {p q:Int} {t:List UInt8} (h1:f.p.v=p) (h2:f.q.v=q) (ht:ftx p q=t):pf E0 16 [fqP f]=some (.s t):=by
 rw[←ht,←h1,←h2];exact zij f
end Go.Eng
namespace Go.Eng
theorem zi8 {f g h:FQ} {n d m e:Int} (hf:f.is n d) (hg:g.is m e) (hh:h.is (f.p.v*g.q.v+g.p.v*f.q.v) (f.q.v*g.q.v)):h.is (n*e+m*d) (d*e):=by
 have qf:=f.q1
 have qg:=g.q1
 unfold FQ.is at *
 apply Int.eq_of_mul_eq_mul_right (a:=f.q.v*g.q.v) (Int.mul_ne_zero (by omega) (by omega))
 calc h.p.v*(d*e)*(f.q.v*g.q.v)=h.p.v*(f.q.v*g.q.v)*(d*e):=by grind
  _=(f.p.v*g.q.v+g.p.v*f.q.v)*h.q.v*(d*e):=by rw[hh]
  _=(f.p.v*d*g.q.v*e+g.p.v*e*f.q.v*d)*h.q.v:=by grind
  _=(n*f.q.v*g.q.v*e+m*g.q.v*f.q.v*d)*h.q.v:=by rw[hf,hg]
  _=(n*e+m*d)*h.q.v*(f.q.v*g.q.v):=by grind
theorem zjH {f g h:FQ} {n d m e:Int} (hf:f.is n d) (hg:g.is m e) (hh:h.is (f.p.v*g.p.v) (f.q.v*g.q.v)):h.is (n*m) (d*e):=by
 have qf:=f.q1
 have qg:=g.q1
 unfold FQ.is at *
 apply Int.eq_of_mul_eq_mul_right (a:=f.q.v*g.q.v) (Int.mul_ne_zero (by omega) (by omega))
 calc h.p.v*(d*e)*(f.q.v*g.q.v)=h.p.v*(f.q.v*g.q.v)*(d*e):=by grind
  _=f.p.v*g.p.v*h.q.v*(d*e):=by rw[hh]
  _=f.p.v*d*(g.p.v*e)*h.q.v:=by grind
  _=n*f.q.v*(m*g.q.v)*h.q.v:=by rw[hf,hg]
  _=n*m*h.q.v*(f.q.v*g.q.v):=by grind
theorem zmK (a b:FQ) {n m:Nat} {x d y e:Int} (ha:fsz n a) (hb:fsz m b) (h:n+m+1<1230) (xa:a.is x d) (xb:b.is y e):∃f:FQ,pf E0 9 [fqP a,fqP b]=some (.tu [fqP f,.i .i64 0])∧f.is (x*e+y*d) (d*e)∧fsz (n+m+1) f:=by
 obtain⟨f,h1,h2,h3⟩:=zmJ a b ha hb h
 exact⟨f,h1,zi8 xa xb h2,h3⟩
theorem znF (a b:FQ) {n m:Nat} {x d y e:Int} (ha:fsz n a) (hb:fsz m b) (h:n+m<1230) (xa:a.is x d) (xb:b.is y e):∃f:FQ,pf E0 8 [fqP a,fqP b]=some (.tu [fqP f,.i .i64 0])∧f.is (x*y) (d*e)∧fsz (n+m) f:=by
 obtain⟨f,h1,h2,h3⟩:=znE a b ha hb h
 exact⟨f,h1,zjH xa xb h2,h3⟩
end Go.Eng
namespace Go.Eng
end Go.Eng

namespace Go.Eng
end Go.Eng
namespace Go.Eng
def nbits (k:Nat):Nat:=if k=0 then 0 else Nat.log2 k+1
theorem zcB {k:Nat} (h:k≠0):nbits k=nbits (k/2)+1:=by
 unfold nbits
 rw[if_neg h]
 by_cases h2:2≤k
 ·rw[if_neg (by omega),Nat.log2_def k,if_pos h2]
 ·have:k=1:=by omega
  subst this;rfl
theorem zcm {k n:Nat} (h:k<2^n):nbits k≤n:=by
 unfold nbits
 split
 ·omega
 ·rename_i h0
  have:=(Nat.log2_lt h0).2 h
  omega
end Go.Eng
namespace Go.Eng
end Go.Eng
namespace Go.Eng
structure TerOk (X Y S:Int) (C R:Nat) (hs:List Int):Prop where
 c:2≤C∧C≤128
 r:2≤R∧R≤128
 s:1≤S∧S≤65536
 x : -1048576≤X∧X+(C-1)*S≤1048576
 y : -1048576≤Y∧Y+(R-1)*S≤1048576
 len:hs.length=C*R
 h:∀n∈hs,-16384≤n∧n≤16384
theorem TerOk.ints {X Y S:Int} {C R:Nat} {hs:List Int} (t:TerOk X Y S C R hs):Ints hs:=by
 refine⟨?_,fun n hn=>?_⟩
 ·have:C*R≤128*128:=Nat.mul_le_mul t.c.2 t.r.2
  rw[t.len];omega
 ·have:=t.h n hn
  unfold Fits64;omega
end Go.Eng
namespace Go.Eng
end Go.Eng
namespace Go.Eng
end Go.Eng
namespace Go.Eng
end Go.Eng
namespace Go.Eng
end Go.Eng
namespace Go.Eng
end Go.Eng
namespace Go.Eng
end Go.Eng
namespace Go.Eng
end Go.Eng
namespace Go.Eng
theorem zdd (a b:Int):(0≤cmpI a b)=(b≤a):=by
 unfold cmpI
 simp only[eq_iff_iff]
 split
 ·omega
 ·split<;>omega
end Go.Eng

namespace Go.Eng
end Go.Eng
namespace Go.Eng
theorem zh3 {k m:Nat} (h:2^m≤k):nbits k=nbits (k/2^m)+m:=by
 induction m with
 | zero=>simp
 | succ m ih =>
  have h1:2^m≤k:=Nat.le_trans (Nat.pow_le_pow_right (by decide) (Nat.le_succ m)) h
  have h2:k/2^m≠0:=by
   have:=Nat.div_pos h1 (Nat.pow_pos (by decide))
   omega
  have e:k/2^m/2=k/2^(m+1):=by rw[Nat.div_div_eq_div_mul,←Nat.pow_succ]
  have h3:=zcB h2
  rw[e] at h3
  have h4:=ih h1
  omega
theorem zh2:nbits 1=1:=by unfold nbits;rw[if_neg (by decide)];rfl
def pw (i:Nat):Nat:=2^(2^i)
theorem ze8 (i:Nat):0<pw i:=Nat.pow_pos (by decide)
theorem zop (i:Nat):2≤pw i:=by
 unfold pw
 have:2^1≤2^(2^i):=Nat.pow_le_pow_right (by decide) (Nat.one_le_two_pow)
 omega
theorem zfO (i:Nat):pw (i+1)=pw i*pw i:=by
 unfold pw
 rw[←Nat.pow_add,Nat.pow_succ]
 congr 1
 omega
theorem ziC:pw 0=2:=rfl
theorem zhb {x i:Nat} (h:pw i≤x):nbits x=nbits (x/pw i)+2^i:=zh3 h
theorem zoo {x i:Nat} (h:x<pw (i+1)):x/pw i<pw i:=by
 rw[zfO] at h
 exact Nat.div_lt_of_lt_mul h
theorem zmi {x i:Nat} (h:pw i≤x):1≤x/pw i:=Nat.div_pos h (ze8 i)
end Go.Eng
namespace Go.Eng
theorem zj1 (i:Nat):pw i<pw (i+1):=by
 rw[zfO]
 have:=zop i
 have h2:pw i*2≤pw i*pw i:=Nat.mul_le_mul_left _ this
 omega
theorem zgl {i:Nat} (h:inR (pw i)):i<14:=by
 rcases Nat.lt_or_ge i 14 with q|q
 ·exact q
 ·exfalso
  obtain⟨K,hK⟩:∃K,K=16384:=⟨_,rfl⟩
  obtain⟨a,ha⟩:∃a,a=14:=⟨_,rfl⟩
  rw[←ha] at q
  have h1:2^a≤2^i:=Nat.pow_le_pow_right (by decide) q
  have h2:2^(2^a)≤pw i:=Nat.pow_le_pow_right (by decide) h1
  have e:2^a=K:=by rw[hK,ha]
  rw[e] at h2
  unfold inR at h
  rw[←hK] at h
  omega
theorem zdT {a b:Nat} (h:a≤b) (hb:inR b):inR a:=Nat.lt_of_le_of_lt h hb
noncomputable def pwI (i:Nat):WI:=clip ((pw i:Nat):Int)
theorem zhf {i:Nat} (h:inR (pw i)):(pwI i).v=((pw i:Nat):Int):=(zdm (z:=((pw i:Nat):Int)) (by rw[Int.natAbs_natCast];exact h)).1
noncomputable def pwL:Nat→List PV
 | 0=>[]
 | j+1=>pwL j++[.b (decide ((pwI j).v<0)),D (pwI j).v.natAbs]
theorem zeA:∀j,(pwL j).length=2*j
 | 0=>rfl
 | j+1=>by rw[pwL,List.length_append,zeA j];simp;omega
theorem zkL:∀{j i:Nat},i<j→((pwL j).drop (i*2)).take 2=[.b (decide ((pwI i).v<0)),D (pwI i).v.natAbs]
 | 0,i,h=>by omega
 | j+1,i,h=>by
  have hl:=zeA j
  rw[pwL]
  by_cases hi:i<j
  ·rw[List.drop_append_of_le_length (by omega),List.take_append_of_le_length (by simp;omega)]
   exact zkL hi
  ·obtain rfl:i=j:=by omega
   rw[List.drop_left' (show (pwL i).length=i*2 by omega)];rfl
theorem zpu (P:PM) (L:List PV) (w1 w2:PV) (r1 r2:Option PB) {j:Nat} (hl:L.length=2*j) (hj:j≤100) (h0:0<j):appP (P++[some ⟨L,true,0⟩,r1,r2,some ⟨[w1,w2],true,0⟩]) 2 32 (.sl P.length 0 j j 2) (.sl (P.length+3) 0 1 1 2) =
  some (.sl (P.length+4) 0 (j+1) (j+1) 2,P++[none,r1,r2,some ⟨[w1,w2],true,0⟩,some ⟨L++[w1,w2],true,0⟩]):=by
 have es:srcP (P++[some (⟨L,true,0⟩:PB),r1,r2,some (⟨[w1,w2],true,0⟩:PB)]) 2 (.sl (P.length+3) 0 1 1 2)=some (1,[w1,w2]):=by
  simp only[srcP,PM.rd,mG]
  rfl
 have e2:PM.blk (P++[some (⟨L,true,0⟩:PB),r1,r2,some (⟨[w1,w2],true,0⟩:PB)]) P.length=some (⟨L,true,0⟩:PB):=by rw[mG0];rfl
 unfold appP
 rw[es]
 simp only[e2]
 rw[if_neg (by simp),if_neg (by decide),if_pos ⟨trivial,by rw[hl];omega,by omega⟩,sG0]
 simp only[List.drop_zero,List.set_cons_zero,lqq,List.length_append,List.length_cons,List.length_nil]
 rw[List.take_of_length_le (by omega)]
theorem zmq {i:Nat} (h:i<14):binP .shl (.i .i64 1) (.i .i64 (i:Int))=some (.i .i64 ((2^i:Nat):Int)):=by
 have h1:2^i≤2^13:=Nat.pow_le_pow_right (by decide) (by omega)
 rw[zhr _ _ _ _ (by omega),Int.toNat_natCast,show min i (IntKind.bits .i64)=i by simp only[IntKind.bits];omega,Int.one_mul]
 have e:(2:Int)^i=((2^i:Nat):Int):=by simp
 rw[e]
 generalize 2^i=t at *
 rw[wqa (by omega) (by omega)]
set_option maxHeartbeats 2000000 in
theorem zko {F:PFin} {ks:List KI} {K J:Nat} {x0:WI} (hR:inR K) (hx0:x0.v=(K:Int)) (hK:1≤K) (hlt:K<pw J) (hJ:J=0∨pw (J-1)≤K) {G R:PM} {fr:PFr} {v:Nat}
  (f1:fr 1=.p 0 0) (f3:fr 3=(PV.i .i64 ((0:Nat):Int))) (f6:fr 6=if J=0 then .nl else .sl (G.length+1) 0 J J 2) (f10:fr 10=.i .i64 ((J:Int)-1))
  (cont:∀fr' v' (y:WI),y.v=1→fr' 1=.p 0 0→fr' 3=.i .i64 ((nbits K:Int)-1)→UK E0 F (.exit 4) ks fr' (some ⟨[.b (decide (y.v<0)),D y.v.natAbs],true,v'⟩::(G++(some ⟨pwL J,true,0⟩::R)))) :
  WK E0 F (.loop zuP) ks fr (some ⟨[.b (decide (x0.v<0)),D x0.v.natAbs],true,v⟩::(G++(some ⟨pwL J,true,0⟩::R))):=by
 have hnb:nbits K≤16384:=by
  obtain⟨q,hq⟩:∃q,q=16384:=⟨_,rfl⟩
  unfold inR at hR
  rw[←hq] at hR ⊢
  exact zcm hR
 have hJ14:∀i,i<J→i<14∧inR (pw i):=fun i hi=>by
  have hm:∀d,pw i≤pw (i+d):=fun d=>by
   induction d with
   | zero=>exact Nat.le_refl _
   | succ d ih=>exact Nat.le_trans ih (Nat.le_of_lt (zj1 _))
  have h1:=hm (J-1-i)
  rw[show i+(J-1-i)=J-1 by omega] at h1
  have h2:inR (pw i):=zdT (by omega) hR
  exact⟨zgl h2,h2⟩
 refine zag zuP.eq_1 (fun(i:Nat) fr M=>i≤J∧∃(y:WI) (Y n v:Nat),y.v=(Y:Int)∧1≤Y∧Y<pw i∧nbits K=nbits Y+n∧fr 1=.p 0 0∧fr 3=(PV.i .i64 ((n:Nat):Int))∧fr 6=(if J=0 then .nl else .sl (G.length+1) 0 J J 2)∧fr 10=.i .i64 ((i:Int)-1) ∧
  M=some ⟨[.b (decide (y.v<0)),D y.v.natAbs],true,v⟩::(G++(some ⟨pwL J,true,0⟩::R))) (fun i=>i) ?_ J ⟨Nat.le_refl _,x0,K,0,v,hx0,hK,hlt,rfl,f1,f3,f6,f10,rfl⟩
 rintro i fr M ⟨hi,y,Y,n,v,hy,hY,hYi,hn,f1,f3,f6,f10,rfl⟩ ih
 cases i with
 | zero =>
  have hY1:Y=1:=by rw[ziC] at hYi;omega
  subst hY1
  have f3':fr 3=.i .i64 ((nbits K:Int)-1):=by
   rw[f3,hn,zh2];congr 1;omega
  have q0:((((0:Nat):Int)-1)≥0)=False:=eq_false (by omega)
  simp(disch:=omega)only[go_sem,seval,wqq,f10,q0]
  exact cont _ v y hy (by simp only[go_sem,seval,f1]) (by simp only[go_sem,seval,f3'])
 | succ i =>
  obtain⟨i14,iR⟩:=hJ14 i (by omega)
  have hJ0:J≠0:=by omega
  rw[if_neg hJ0] at f6
  have f6':=f6
  have f10:fr 10=(PV.i .i64 ((i:Nat):Int)):=by rw[f10];congr 1;omega
  have q0:((i:Int)≥0)=True:=eq_true (by omega)
  have pv:=zhf iR
  have cm:=zbO y (pwI i)
  rw[hy,pv] at cm
  have at_:=zkL (j:=J) (i:=i) (by omega)
  have hl:=zeA J
  have hiJ:(i<J)=True:=eq_true (by omega)
  have h2i:(i*2+2≤2*J)=True:=eq_true (by omega)
  by_cases hc:pw i≤Y
  ·have c0:(cmpI ((Y:Nat):Int) ((pw i:Nat):Int)≥0)=True:=eq_true (by rw[ge_iff_le,zdd];omega)
   simp(disch:=omega)only[go_sem,seval,wqq,f1,f3,f6,f10,q0,cm,c0,hiJ,h2i,hl,at_,mG,mG0,sG,sG0,lG,lqq]
   have dv:=zn1 y (pwI i) (by rw[pv];have:=ze8 i;omega)
   have dvv:(y.div (pwI i) (by rw[pv];have:=ze8 i;omega)).v=((Y/pw i:Nat):Int):=by
    show y.v/(pwI i).v=_
    rw[hy,pv];rfl
   generalize y.div (pwI i) (by rw[pv];have:=ze8 i;omega)=y2 at *
   generalize y.mod (pwI i) (by rw[pv];have:=ze8 i;omega)=y3 at *
   have sh:=zmq i14
   have st:=zhb hc
   have p14:2^i≤2^14:=Nat.pow_le_pow_right (by decide) (by omega)
   have g1:=zoo hYi
   have g0:=zmi hc
   have hs:(n:Int)+((2^i:Nat):Int)=((n+2^i:Nat):Int):=by push_cast;rfl
   generalize 2^i=t at *
   simp(disch:=omega)only[go_sem,seval,wqq,f1,f3,f6,f10,q0,cm,c0,hiJ,h2i,hl,at_,dv,sh,hs,mG,mG0,sG,sG0,lG,lqq]
   exact ih i _ _ (by omega) ⟨by omega,y2,Y/pw i,n+t,_,dvv,g0,g1,by omega,by simp only[go_sem,seval,f1],by simp only[go_sem,seval],by rw[if_neg hJ0];simp only[go_sem,seval,f6],by simp only[go_sem,seval,f10],rfl⟩
  ·have c0:(cmpI ((Y:Nat):Int) ((pw i:Nat):Int)≥0)=False:=eq_false (by rw[ge_iff_le,zdd];omega)
   simp(disch:=omega)only[go_sem,seval,wqq,f1,f3,f6,f10,q0,cm,c0,hiJ,h2i,hl,at_,mG,mG0,sG,sG0,lG,lqq]
   exact ih i _ _ (by omega) ⟨by omega,y,Y,n,_,hy,hY,by omega,by omega,by simp only[go_sem,seval,f1],by simp only[go_sem,seval,f3],by rw[if_neg hJ0];simp only[go_sem,seval,f6],by simp only[go_sem,seval,f10],rfl⟩
end Go.Eng
namespace Go.Eng
theorem zlY (x:WI) (h:x.v.natAbs≤9223372036854775807):pf E0 63 [wiP x]=some (.i .i64 (nbits x.v.natAbs:Int)):=by
 have nb:nbits x.v.natAbs≤63:=zcm (by omega)
 have fin:∀(y:WI),y.v=(x.v.natAbs:Int)→pf E0 80 [wiP y]=some (.tu [.i .i64 (x.v.natAbs:Int),.b true]):=fun y hy=>by
  have sm:=zdr y
  have s1:isSmall (x.v.natAbs:Int)=true:=by unfold isSmall;exact decide_eq_true ⟨by omega,by omega⟩
  have s2:small (x.v.natAbs:Int)=(x.v.natAbs:Int):=by unfold small;rw[if_pos s1]
  rw[hy,s1,s2] at sm
  exact sm
 have sg:=zd0 x
 refine zab (xf:=ztT) rfl (by simp[ztT]) ?_
 simp only[ztT]
 by_cases hn:x.v<0
 ·have t0:(cmpI x.v 0<0)=True:=by rw[zbT];simp[hn]
  have n1:=zjP x
  have sm:=fin x.neg (by show-x.v=_;omega)
  generalize x.neg=y at *
  generalize x.v.natAbs=K at *
  simp(disch:=omega)only[go_sem,seval,wqq,sg,t0,n1,sm]
  refine zag zuO.eq_1 (fun(σ:Nat×Nat) fr M=>σ.1+nbits σ.2=nbits K∧σ.2≤K∧fr 3=(PV.i .i64 ((σ.1:Nat):Int))∧fr 4=(PV.i .i64 ((σ.2:Nat):Int))) (fun σ=>σ.2) ?_ (0,K) ⟨by simp,Nat.le_refl _,by simp only[go_sem,seval],by simp only[go_sem,seval]⟩
  rintro⟨n,k⟩ fr M ⟨hs,hk,f3,f4⟩ ih
  simp only at hs hk f3 f4
  by_cases hk0:k=0
  ·have q1:((k:Int)>0)=False:=by simp;omega
   have hN:n=nbits K:=by rw[←hs,hk0];rfl
   rw[←hN]
   simp(disch:=omega)only[go_sem,seval,wqq,f3,f4,q1]
  ·have q1:((k:Int)>0)=True:=by simp;omega
   have k2:(k:Int).tdiv 2=((k/2:Nat):Int):=zbU _ 2
   have hh:=zcB hk0
   simp(disch:=omega)only[go_sem,seval,wqq,f3,f4,q1,k2]
   exact ih (n+1,k/2) _ _ (by simp only;omega) ⟨by simp only;omega,by simp only;omega,by simp only[go_sem,seval];rw[Int.natCast_succ],by simp only[go_sem,seval]⟩
 ·have t0:(cmpI x.v 0<0)=False:=by rw[zbT];simp[hn]
  have sm:=fin x (by omega)
  obtain⟨K,hK⟩:∃K:Nat,K=x.v.natAbs:=⟨_,rfl⟩
  rw[←hK] at sm nb ⊢
  have hKl:K≤9223372036854775807:=by omega
  simp(disch:=omega)only[go_sem,seval,wqq,sg,t0,sm]
  refine zag zuO.eq_1 (fun(σ:Nat×Nat) fr M=>σ.1+nbits σ.2=nbits K∧σ.2≤K∧fr 3=(PV.i .i64 ((σ.1:Nat):Int))∧fr 4=(PV.i .i64 ((σ.2:Nat):Int))) (fun σ=>σ.2) ?_ (0,K) ⟨by simp,Nat.le_refl _,by simp only[go_sem,seval],by simp only[go_sem,seval]⟩
  rintro⟨n,k⟩ fr M ⟨hs,hk,f3,f4⟩ ih
  simp only at hs hk f3 f4
  by_cases hk0:k=0
  ·have q1:((k:Int)>0)=False:=by simp;omega
   have hN:n=nbits K:=by rw[←hs,hk0];rfl
   rw[←hN]
   simp(disch:=omega)only[go_sem,seval,wqq,f3,f4,q1]
  ·have q1:((k:Int)>0)=True:=by simp;omega
   have k2:(k:Int).tdiv 2=((k/2:Nat):Int):=zbU _ 2
   have hh:=zcB hk0
   simp(disch:=omega)only[go_sem,seval,wqq,f3,f4,q1,k2]
   exact ih (n+1,k/2) _ _ (by simp only;omega) ⟨by simp only;omega,by simp only;omega,by simp only[go_sem,seval];rw[Int.natCast_succ],by simp only[go_sem,seval]⟩
theorem zkv {j:Nat} (h:inR (pw j)):pf E0 38 [wiP (pwI j),wiP (pwI j)]=some (.tu [wiP (pwI (j+1)),.i .i64 (lerr ((pw (j+1):Nat):Int))]):=by
 rw[zfI,zhf h,←Int.natCast_mul,←zfO];rfl
theorem zs5 (b0 b1:Option PB) (w1 w2:PV):appP [b0,b1,some ⟨[w1,w2],true,0⟩] 2 32 .nl (.sl 2 0 1 1 2)=some (.sl 3 0 1 1 2,[b0,b1,some ⟨[w1,w2],true,0⟩,some ⟨[w1,w2],true,0⟩]):=rfl
theorem zns {v K:Nat} (hK:K=16384) (h:v<2^K):inR v:=by subst hK;exact h
theorem zhS:inR (pw 1):=by
 obtain⟨K,hK⟩:∃K,K=16384:=⟨_,rfl⟩
 have h:pw 1<2^K:=Nat.lt_of_lt_of_le (show pw 1<2^3 by decide) (Nat.pow_le_pow_right (by decide) (by omega))
 exact zns hK h
set_option maxHeartbeats 2000000 in
theorem zkn {F:PFin} {ks:List KI} {K:Nat} {x0:WI} (hR:inR K) (hx0:x0.v=(K:Int)) (hK:9223372036854775807<K) {fr:PFr} {v:Nat} {v1:Nat}
  (f1:fr 1=.p 0 0) (f3:fr 3=(PV.i .i64 ((0:Nat):Int))) (f6:fr 6=.nl) (f7:fr 7=.p 1 0)
  (cont:∀fr' (G:PM) (J:Nat),J≠0→fr' 1=.p 0 0→fr' 3=(PV.i .i64 ((0:Nat):Int))→fr' 6=.sl (G.length+1) 0 J J 2→K<pw J→pw (J-1)≤K→∀R,UK E0 F (.exit 2) ks fr' (some ⟨[.b (decide (x0.v<0)),D x0.v.natAbs],true,v⟩::(G++(some ⟨pwL J,true,0⟩::R)))) :
  WK E0 F (.loop zuj) ks fr [some ⟨[.b (decide (x0.v<0)),D x0.v.natAbs],true,v⟩,some ⟨[.b (decide ((pwI 0).v<0)),D (pwI 0).v.natAbs],true,v1⟩]:=by
 have R1:=zhS
 have R0:inR (pw 0):=zdT (Nat.le_of_lt (zj1 0)) R1
 have cm0:=zbO x0 (pwI 0)
 have c00:(cmpI x0.v (pwI 0).v≥0)=True:=eq_true (by rw[ge_iff_le,zdd,hx0,zhf R0,ziC];omega)
 have mu0:=zkv R0
 have le0:lerr ((pw (0+1):Nat):Int)=0:=(zdm (z:=((pw (0+1):Nat):Int)) (by rw[Int.natAbs_natCast];exact R1)).2
 rw[le0] at mu0
 refine zay zuj.eq_1 ?_
 simp(disch:=omega)only[go_sem,seval,wqq,f1,f3,f6,f7,cm0,c00,mu0,zs5,zaz,zah]
 refine zag zuj.eq_1 (fun(j:Nat) fr M=>1≤j∧inR (pw j)∧pw (j-1)≤K∧fr 1=.p 0 0∧fr 3=(PV.i .i64 ((0:Nat):Int))∧∃(G:PM) (r:Option PB) (v2:Nat),fr 6=.sl (G.length+1) 0 j j 2∧fr 7=.p (G.length+3) 0 ∧
  M=some ⟨[.b (decide (x0.v<0)),D x0.v.natAbs],true,v⟩::(G++[some ⟨pwL j,true,0⟩,r,some ⟨[.b (decide ((pwI j).v<0)),D (pwI j).v.natAbs],true,v2⟩])) (fun j=>K+1-pw (j-1)) ?_ 1
  ⟨Nat.le_refl _,R1,by rw[show pw (1-1)=2 from rfl];omega,by simp only[go_sem,seval,f1],by simp only[go_sem,seval,f3],[_,_],_,_,by simp only[go_sem,seval],by simp only[go_sem,seval],rfl⟩
 rintro j fr M ⟨hj,jR,hjK,f1,f3,G,r,v2,f6,f7,rfl⟩ ih
 have j14:=zgl jR
 have cm:=zbO x0 (pwI j)
 by_cases hc:pw j≤K
 ·have c0:(cmpI x0.v (pwI j).v≥0)=True:=eq_true (by rw[ge_iff_le,zdd,hx0,zhf jR];omega)
  have mu:=zkv jR
  have apx:∀b0:Option PB,appP (b0::(G++[some ⟨pwL j,true,0⟩,r,some ⟨[.b (decide ((pwI j).v<0)),D (pwI j).v.natAbs],true,v2⟩,some ⟨[PV.b (decide ((pwI j).v<0)),D (pwI j).v.natAbs],true,0⟩])) 2 32 (.sl (G.length+1) 0 j j 2) (.sl (G.length+4) 0 1 1 2) =
   some (.sl (G.length+5) 0 (j+1) (j+1) 2,b0::(G++[none,r,some ⟨[.b (decide ((pwI j).v<0)),D (pwI j).v.natAbs],true,v2⟩,some ⟨[PV.b (decide ((pwI j).v<0)),D (pwI j).v.natAbs],true,0⟩,some ⟨pwL (j+1),true,0⟩])):=fun b0 =>
   zpu (b0::G) (pwL j) _ _ r (some ⟨[.b (decide ((pwI j).v<0)),D (pwI j).v.natAbs],true,v2⟩) (zeA j) (by omega) (by omega)
  by_cases hn:inR (pw (j+1))
  ·have le1:lerr ((pw (j+1):Nat):Int)=0:=(zdm (z:=((pw (j+1):Nat):Int)) (by rw[Int.natAbs_natCast];exact hn)).2
   rw[le1] at mu
   simp(disch:=omega)only[go_sem,seval,wqq,f1,f3,f6,f7,cm,c0,mu,apx,zaz,zah,mG,mG0,sG,sG0,lG,lqq]
   have:=zj1 (j-1)
   rw[show j-1+1=j by omega] at this
   exact ih (j+1) _ _ (by rw[show j+1-1=j by omega];omega) ⟨by omega,hn,hc,by simp only[go_sem,seval,f1],by simp only[go_sem,seval,f3],G++[none,r,_,_],_,_,by simp only[go_sem,seval];simp,by simp only[go_sem,seval];simp,by simp;exact⟨rfl,rfl,rfl,rfl⟩⟩
  ·have le1:(lerr ((pw (j+1):Nat):Int)=0)=False:=eq_false fun q=>hn (by have:=zfz q;rwa [Int.natAbs_natCast] at this)
   simp(disch:=omega)only[go_sem,seval,wqq,f1,f3,f6,f7,cm,c0,mu,le1,apx,zaz,zah,mG,mG0,sG,sG0,lG,lqq]
   have e6:∀a b c d p q:Option PB,G++[a,b,c,d,p,q]=(G++[a,b,c,d])++(p::[q]):=fun a b c d p q=>by simp
   rw[e6]
   exact cont _ _ (j+1) (by omega) (by simp only[go_sem,seval,f1]) (by simp only[go_sem,seval,f3]) (by simp only[go_sem,seval];simp) (by
    rcases Nat.lt_or_ge K (pw (j+1)) with q|q
    ·exact q
    ·exact(hn (zdT q hR)).elim) hc [_]
 ·have c0:(cmpI x0.v (pwI j).v≥0)=False:=eq_false (by rw[ge_iff_le,zdd,hx0,zhf jR];omega)
  simp(disch:=omega)only[go_sem,seval,wqq,f1,f3,f6,f7,cm,c0,mG,mG0,sG,sG0,lG,lqq]
  exact cont _ G j (by omega) (by simp only[go_sem,seval,f1]) (by simp only[go_sem,seval,f3]) (by simp only[go_sem,seval,f6]) (by omega) hjK [_,_]
theorem zim (x:WI):pf E0 63 [wiP x]=some (.i .i64 (nbits x.v.natAbs:Int)):=by
 by_cases hs:x.v.natAbs≤9223372036854775807
 ·exact zlY x hs
 have hR:inR x.v.natAbs:=(zbm _).1 x.lim
 obtain⟨K,hKe⟩:∃K,K=x.v.natAbs:=⟨_,rfl⟩
 rw[←hKe] at hR hs ⊢
 have hK:9223372036854775807<K:=by omega
 have sg:=zd0 x
 have fin:∀(y:WI),y.v=(K:Int)→pf E0 80 [wiP y]=some (.tu [.i .i64 0,.b false]):=fun y hy=>by
  have sm:=zdr y
  have s1:isSmall (K:Int)=false:=by unfold isSmall;exact decide_eq_false (by omega)
  have s2:small (K:Int)=0:=by unfold small;rw[s1];rfl
  rw[hy,s1,s2] at sm
  exact sm
 have fr2:=zbk (n:=2) (by decide)
 have w2:wiOf 2 (by decide)=pwI 0:=WI.ext' (by rw[zhf (zdT (Nat.le_of_lt (zj1 0)) zhS)];rfl)
 rw[w2] at fr2
 have nb1:1≤nbits K:=by unfold nbits;rw[if_neg (by omega)];omega
 have nbe:(nbits K:Int)-1+1=(nbits K:Int):=by omega
 have sy:∀y:WI,y.v=1→pf E0 31 [wiP y]=some (.i .i64 1):=fun y hy=>by rw[zd0,hy];rfl
 refine zab (xf:=ztT) rfl (by simp[ztT]) ?_
 simp only[ztT]
 have nbb:nbits K≤16384:=by
  obtain⟨q,hq⟩:∃q,q=16384:=⟨_,rfl⟩
  unfold inR at hR
  rw[←hq] at hR ⊢
  exact zcm hR
 by_cases hn:x.v<0
 ·have t0:(cmpI x.v 0<0)=True:=by rw[zbT];simp[hn]
  have n1:=zjP x
  have hv:x.neg.v=(K:Int):=by show-x.v=_;omega
  have sm:=fin x.neg hv
  generalize x.neg=y at *
  simp(disch:=omega)only[go_sem,seval,wqq,sg,t0,n1,sm,fr2]
  refine zkn hR hv hK (by simp only[go_sem,seval]) (by simp only[go_sem,seval]) (by simp only[go_sem,seval]) (by simp only[go_sem,seval]) ?_
  intro fr' G J hJ f1 f3 f6 hlt hle R
  have J14:=zgl (zdT hle hR)
  simp(disch:=omega)only[go_sem,seval,wqq,f6]
  refine zko hR hv (by omega) hlt (.inr hle) (by simp only[go_sem,seval,f1]) (by simp only[go_sem,seval,f3]) (by rw[if_neg hJ];simp only[go_sem,seval,f6]) (by simp only[go_sem,seval]) ?_
  intro fr'' v' y1 hy1 g1 g3
  have syy:=sy y1 hy1
  simp(disch:=omega)only[go_sem,seval,wqq,g1,g3,syy,nbe]
 ·have t0:(cmpI x.v 0<0)=False:=by rw[zbT];simp[hn]
  have hv:x.v=(K:Int):=by omega
  have sm:=fin x hv
  simp(disch:=omega)only[go_sem,seval,wqq,sg,t0,sm,fr2]
  refine zkn hR hv hK (by simp only[go_sem,seval]) (by simp only[go_sem,seval]) (by simp only[go_sem,seval]) (by simp only[go_sem,seval]) ?_
  intro fr' G J hJ f1 f3 f6 hlt hle R
  have J14:=zgl (zdT hle hR)
  simp(disch:=omega)only[go_sem,seval,wqq,f6]
  refine zko hR hv (by omega) hlt (.inr hle) (by simp only[go_sem,seval,f1]) (by simp only[go_sem,seval,f3]) (by rw[if_neg hJ];simp only[go_sem,seval,f6]) (by simp only[go_sem,seval]) ?_
  intro fr'' v' y1 hy1 g1 g3
  have syy:=sy y1 hy1
  simp(disch:=omega)only[go_sem,seval,wqq,g1,g3,syy,nbe]
theorem zie (x:FQ):pf E0 44 [fqP x]=some (.i .i64 ((max (nbits x.p.v.natAbs) (nbits x.q.v.natAbs):Nat):Int)):=by
 have a1:=zn8 x
 have a2:=zd2 x
 have d1:=zim x.p
 have d2:=zim x.q
 generalize nbits x.p.v.natAbs=a at *
 generalize nbits x.q.v.natAbs=b at *
 have hm:mmP true (.i .i64 (a:Int)) [.i .i64 (b:Int)]=some (.i .i64 ((max a b:Nat):Int)):=by
  simp only[mmP,if_true]
  congr 2
  split<;>omega
 refine zab (xf:=zuo) rfl (by simp[zuo]) ?_
 simp only[zuo]
 simp(disch:=omega)only[go_sem,seval,wqq]
 refine zaP [1] rfl (by simp only[go_sem,seval]) ?_
 simp(disch:=omega)only[go_sem,seval,wqq,a1,a2,d1,d2,hm]
end Go.Eng
namespace Go.Eng
theorem zpr {a b:Nat} (la:wlen a≤512) (lb:wlen b≤512) (h:D a=D b):a=b:=by
 have h1:=zaZ a b (by omega) (by omega)
 have h2:=zaZ a a (by omega) (by omega)
 rw[←h,h2] at h1
 have e:cmpI (a:Int) a=cmpI (a:Int) b:=by simpa using h1
 have z:cmpI (a:Int) a=0:=by simp[cmpI]
 rw[z] at e
 unfold cmpI at e
 split at e
 ·exact absurd e (by decide)
 ·split at e
  ·exact absurd e (by decide)
  ·omega
theorem zk1 {x y:WI} (h:wc x=wc y):x=y:=by
 unfold wc at h
 injection h with h1 h2
 injection h2 with h2 _
 have e:=zpr x.lim y.lim h2
 have s:(x.v<0)↔(y.v<0):=by
  injection h1 with h1
  simpa using h1
 exact zi4 (by omega)
theorem zju {f g:FQ} (h:fqP f=fqP g):f=g:=by
 have h:PV.ag (wc f.p++wc f.l)=PV.ag (wc g.p++wc g.l):=h
 injection h with h
 obtain⟨h1,h2⟩:=List.append_inj h rfl
 have e1:=zk1 h1
 have e2:=zk1 h2
 refine zhJ (by rw[e1]) ?_
 have:f.q.v-1=g.q.v-1:=congrArg WI.v e2
 omega
theorem ziZ {f g:FQ} {d e:Int} (h:some (PV.tu [fqP f,.i .i64 d])=some (.tu [fqP g,.i .i64 e])):f=g∧d=e:=by
 simp only[Option.some.injEq,PV.tu.injEq,List.cons.injEq,PV.i.injEq,true_and,and_true] at h
 exact⟨zju h.1,h.2⟩
theorem zfG (a b:FQ):∃(f:FQ) (e:Int),pf E0 8 [fqP a,fqP b]=some (.tu [fqP f,.i .i64 e]):=by
 obtain⟨h1,h2⟩:=zkF a b
 by_cases h:inR (muP a b).natAbs∧inR (muQ a b).natAbs
 ·obtain⟨f,_,_,q⟩:=h1 h;exact⟨f,0,q⟩
 ·exact⟨_,_,h2 h⟩
theorem zfh (a b:FQ):∃(f:FQ) (e:Int),pf E0 9 [fqP a,fqP b]=some (.tu [fqP f,.i .i64 e]):=by
 obtain⟨h1,h2⟩:=zkE a b
 by_cases h:adOk a b
 ·obtain⟨f,_,_,q⟩:=h1 h;exact⟨f,0,q⟩
 ·exact⟨_,_,h2 h⟩
noncomputable def mF (a b:FQ):FQ:=(zfG a b).choose
noncomputable def mFe (a b:FQ):Int:=(zfG a b).choose_spec.choose
theorem zrS (a b:FQ):pf E0 8 [fqP a,fqP b]=some (.tu [fqP (mF a b),.i .i64 (mFe a b)]):=(zfG a b).choose_spec.choose_spec
noncomputable def aF (a b:FQ):FQ:=(zfh a b).choose
noncomputable def aFe (a b:FQ):Int:=(zfh a b).choose_spec.choose
theorem zrR (a b:FQ):pf E0 9 [fqP a,fqP b]=some (.tu [fqP (aF a b),.i .i64 (aFe a b)]):=(zfh a b).choose_spec.choose_spec
theorem zql (a b:FQ) {n m:Nat} {x d y e:Int} (ha:fsz n a) (hb:fsz m b) (h:n+m<1230) (xa:a.is x d) (xb:b.is y e):(mF a b).is (x*y) (d*e)∧fsz (n+m) (mF a b)∧mFe a b=0:=by
 obtain⟨f,h1,h2,h3⟩:=znF a b ha hb h xa xb
 rw[zrS] at h1
 obtain⟨e1,e2⟩:=ziZ h1
 rw[e1];exact⟨h2,h3,e2⟩
theorem zps (a b:FQ) {n m:Nat} {x d y e:Int} (ha:fsz n a) (hb:fsz m b) (h:n+m+1<1230) (xa:a.is x d) (xb:b.is y e):(aF a b).is (x*e+y*d) (d*e)∧fsz (n+m+1) (aF a b)∧aFe a b=0:=by
 obtain⟨f,h1,h2,h3⟩:=zmK a b ha hb h xa xb
 rw[zrR] at h1
 obtain⟨e1,e2⟩:=ziZ h1
 rw[e1];exact⟨h2,h3,e2⟩
noncomputable def whQ (n:Int):FQ:=if h:Fits64 n then ⟨wiOf n h,wi1,by decide,Nat.gcd_one_right _⟩ else fq0
theorem zmD {n:Int} (h:Fits64 n):(whQ n).p.v=n∧(whQ n).q.v=1:=by
 unfold whQ
 rw[dif_pos h]
 exact⟨rfl,rfl⟩
theorem zk3 {n:Int} (h:Fits64 n):pf E0 17 [.i .i64 n,.i .i64 1]=some (.tu [fqP (whQ n),.i .i64 0]):=by
 obtain⟨f,h1,h2,h3⟩:=zn9 h (q:=1) (by decide) (by decide)
 obtain⟨l1,l2⟩:=zgs (p:=n) (q:=1) (by decide) (Nat.gcd_one_right _)
 obtain⟨v1,v2⟩:=zmD h
 obtain rfl:f=whQ n:=zhJ ((h1.trans l1).trans v1.symm) ((h2.trans l2).trans v2.symm)
 exact h3
theorem zk2 {n:Int} (h:Fits64 n):(whQ n).is n 1∧fsz 5 (whQ n):=by
 obtain⟨v1,v2⟩:=zmD h
 refine⟨?_,?_,?_⟩
 ·show (whQ n).p.v*1=n*(whQ n).q.v
  rw[v1,v2]
 ·rw[v1];exact zks h
 ·rw[v2];exact zaC (by decide)
theorem zfK {n:Int} (h:Fits64 n):pf E0 425 [.i .i64 n]=some (fqP (whQ n)):=by
 have o:=zk3 h
 refine zab (xf:=zuu) rfl (by simp[zuu]) ?_
 simp only[zuu]
 simp(disch:=omega)only[go_sem,seval,wqq,o]
end Go.Eng
namespace Go.Eng
noncomputable def qc (f:FQ):List PV:=[.b (decide (f.p.v<0)),D f.p.v.natAbs,.b (decide (f.l.v<0)),D f.l.v.natAbs]
theorem zpb (f:FQ):PV.ag (qc f)=fqP f:=_root_.id rfl
theorem ziD (f:FQ):(qc f).length=4:=_root_.id rfl
theorem zfP (f:FQ):(qc f).take 4=qc f:=_root_.id rfl
theorem zkM (a b c d:PV) (f:FQ):psplice [a,b,c,d] 0 [.b (decide (f.p.v<0)),D f.p.v.natAbs,.b (decide (f.l.v<0)),D f.l.v.natAbs]=qc f:=_root_.id rfl
theorem zmj (g f:FQ):psplice (qc g) 0 [.b (decide (f.p.v<0)),D f.p.v.natAbs,.b (decide (f.l.v<0)),D f.l.v.natAbs]=qc f:=_root_.id rfl
structure QZ (L:List PV) (f:FQ):Prop where
 len:L.length=4
 sc:L.all PV.scal=true
 fz:∀(M:PM) (d:Nat),fzL (fz M (d+1)) L=some (qc f,[])
theorem QZ.tk {L:List PV} {s:FQ} (h:QZ L s):L.take 4=L:=List.take_of_length_le (by rw[h.len];omega)
theorem QZ.spl {L:List PV} {s:FQ} (h:QZ L s) (f:FQ):psplice L 0 [.b (decide (f.p.v<0)),D f.p.v.natAbs,.b (decide (f.l.v<0)),D f.l.v.natAbs]=qc f:=by
 unfold psplice
 rw[List.take_zero,List.drop_eq_nil_of_le (by rw[h.len];exact Nat.le_refl _),List.nil_append,List.append_nil];rfl
theorem qz0:QZ [.b false,.nl,.b false,.nl] fq0:=⟨rfl,rfl,fun _ _=>rfl⟩
theorem qzs (f:FQ):QZ (qc f) f:=⟨rfl,rfl,fun _ _=>rfl⟩
theorem ztp (a b c d:PV) (L:List PV) (h:L.length=4):psplice [a,b,c,d] 0 L=L:=by
 unfold psplice
 rw[List.take_zero,List.drop_eq_nil_of_le (by rw[h];exact Nat.le_refl _),List.nil_append,List.append_nil]
def fwD (f:FQ):Prop:=max (nbits f.p.v.natAbs) (nbits f.q.v.natAbs)≤1000
noncomputable def tF (U:Nat→FQ) (t:FQ) (l:List Int):FQ:=l.foldl (fun t a=>mF t (U a.toNat)) t
noncomputable def sF (c:Nat→Int) (U:Nat→FQ):Nat→FQ
 | 0=>fq0
 | i+1=>if c i=0 then sF c U i else aF (sF c U i) (tF U (whQ (c i)) (facL i))
def preL (i j:Nat):List Int:=(List.range j).flatMap fun j'=>List.replicate (exN i j') (j':Int)
theorem zj0:∀i,i<20→preL i 3=facL i:=by decide
theorem ziy (i j:Nat):preL i (j+1)=preL i j++List.replicate (exN i j) (j:Int):=by
 unfold preL
 rw[List.range_succ,List.flatMap_append];simp
theorem zmx (U:Nat→FQ) (t:FQ) (i j k:Nat):tF U t (preL i j++List.replicate (k+1) (j:Int))=mF (tF U t (preL i j++List.replicate k (j:Int))) (U j):=by
 unfold tF
 rw[List.replicate_succ',←List.append_assoc,List.foldl_append];rfl
open Classical in
noncomputable def evE (c:Nat→Int) (U:Nat→FQ):Int:=if okC c then (if ∀j,j<3→fwD (U j) then 0 else 4) else 1
noncomputable def evR (c:Nat→Int) (U:Nat→FQ):FQ:=if evE c U=0 then sF c U 20 else fq0
theorem zlR {c:Nat→Int} (h:¬okC c) (u v w:FQ):pf E0 409 [aI 20 c,fqP u,fqP v,fqP w]=some (.tu [fqP fq0,.i .i64 1]):=by
 have va:=zaw c
 have:vlC c=1:=if_neg h
 rw[this] at va
 have z0:=zll
 refine zab (xf:=zt2) rfl (by simp[zt2]) ?_
 simp only[zt2]
 simp(disch:=omega)only[go_sem,seval,wqq,va,zaz,zah,zll]
set_option maxHeartbeats 8000000 in
theorem zlS {c:Nat→Int} (hc:okC c) {U:Nat→FQ}:pf E0 409 [aI 20 c,fqP (U 0),fqP (U 1),fqP (U 2)]=some (.tu [fqP (evR c U),.i .i64 (evE c U)]):=by
 have va:=zaw c
 have:vlC c=0:=if_pos hc
 rw[this] at va
 refine zab (xf:=zt2) rfl (by simp[zt2]) ?_
 simp only[zt2]
 simp(disch:=omega)only[go_sem,seval,wqq,va,zaz,zah]
 refine zag zvx.eq_1 (fun(j:Nat) fr M=>j≤3∧(∀e,e<j→fwD (U e))∧fr 4=.p 0 0∧fr 8=.p 4 0∧fr 11=.p 5 0∧fr 30=.ag (cg 3 fun e=>qc (U e))∧fr 31=(PV.i .i64 ((j:Nat):Int))∧∃b1 b2 b3 v G,M=some ⟨cs 20 c,true,0⟩::b1::b2::b3::some ⟨[.b false,.nl,.b false,.nl],true,0⟩::some ⟨cg 3 fun e=>qc (U e),true,v⟩::G) (fun j=>3-j) ?_ 0 ⟨by omega,fun e he=>by omega,by simp only[go_sem,seval],by simp only[go_sem,seval],by simp only[go_sem,seval],by simp only[go_sem,seval];rfl,by simp only[go_sem,seval],_,_,_,_,[],rfl⟩
 rintro j fr M ⟨hj,hlo,f4,f8,f11,f30,f31,b1,b2,b3,v,G,rfl⟩ ih
 rcases Nat.lt_or_ge j 3 with h|h
 ·have q1:((j:Int)<3)=True:=eq_true (by omega)
  have qL:(j<3)=True:=eq_true h
  have cx:=zbF (k:=4) (f:=fun e=>qc (U e)) (fun _=>rfl) h
  have cl:(cg 3 fun e=>qc (U e)).length=12:=zcM (k:=4) (fun _=>rfl) 3
  have dg:=zie (U j)
  simp(disch:=omega)only[go_sem,seval,wqq,f4,f8,f11,f30,f31,q1,qL,cx,cl,zpb,zkM,zfP,ziD,dg,mG,mG0,sG,sG0,lG,lqq]
  by_cases hw:fwD (U j)
  ·have t1:(1000<((max (nbits (U j).p.v.natAbs) (nbits (U j).q.v.natAbs):Nat):Int))=False:=eq_false (by unfold fwD at hw;omega)
   simp(disch:=omega)only[go_sem,seval,wqq,f4,f8,f11,f30,f31,t1,mG,mG0,sG,sG0,lG,lqq]
   refine ih (j+1) _ _ (by omega) ⟨by omega,fun e he=>?_,by simp only[go_sem,seval,f4],by simp only[go_sem,seval,f8],by simp only[go_sem,seval,f11],by simp only[go_sem,seval,f30],by simp only[go_sem,seval,f31];rw[Int.natCast_succ],_,_,_,_,_,rfl⟩
   rcases Nat.lt_or_ge e j with z|z
   ·exact hlo e z
   ·obtain rfl:e=j:=by omega
    exact hw
  ·have t1:(1000<((max (nbits (U j).p.v.natAbs) (nbits (U j).q.v.natAbs):Nat):Int))=True:=eq_true (by unfold fwD at hw;omega)
   have e1:evE c U=4:=by unfold evE;rw[if_pos hc,if_neg fun q=>hw (q j h)]
   have e2:evR c U=fq0:=by unfold evR;rw[e1];rfl
   rw[e1,e2]
   simp(disch:=omega)only[go_sem,seval,wqq,f4,f8,f11,f30,f31,t1,zaz,zah,zll,mG,mG0,sG,sG0,lG,lqq]
 ·obtain rfl:j=3:=by omega
  have e1:evE c U=0:=by unfold evE;rw[if_pos hc,if_pos hlo]
  have e2:evR c U=sF c U 20:=by unfold evR;rw[e1];rfl
  rw[e1,e2]
  clear ih e1 e2 hlo va
  simp(disch:=omega)only[go_sem,seval,wqq,f4,f8,f11,f30,f31,zaz,zah,mG,mG0,sG,sG0,lG,lqq]
  refine zag zvE.eq_1 (fun(i:Nat) fr M=>i≤20∧fr 8=.p 4 0∧fr 11=.p 5 0∧fr 14=.p (G.length+6) 0∧fr 40=aI 20 c∧fr 41=(PV.i .i64 ((i:Nat):Int))∧∃b0 b1 b2 b3 v vs H L,QZ L (sF c U i)∧M=b0::b1::b2::b3::some ⟨[.b false,.nl,.b false,.nl],true,0⟩::some ⟨cg 3 fun e=>qc (U e),true,v⟩::(G++some ⟨L,true,vs⟩::H)) (fun i=>20-i) ?_ 0 ⟨by omega,by simp only[go_sem,seval,f8],by simp only[go_sem,seval,f11],by simp only[go_sem,seval],by simp only[go_sem,seval],by simp only[go_sem,seval],_,_,_,_,_,_,[],_,qz0,rfl⟩
  rintro i fr M ⟨hi,f8,f11,f14,f40,f41,b0,b1,b2,b3,v,vs,H,L,qz,rfl⟩ ih
  have z1:=qz.len
  have z2:=qz.sc
  have z3:=qz.fz
  have z4:=qz.tk
  have z5:=qz.spl
  rcases Nat.lt_or_ge i 20 with h|h
  ·have q1:((i:Int)<20)=True:=eq_true (by omega)
   have qL:(i<20)=True:=eq_true h
   have ix:=zc7 c h
   by_cases c0:c i=0
   ·have c0':(c i=0)=True:=eq_true c0
    have hs:sF c U (i+1)=sF c U i:=if_pos c0
    simp(disch:=omega)only[go_sem,seval,wqq,f8,f11,f14,f40,f41,q1,qL,ix,c0',mG,mG0,sG,sG0,lG,lqq]
    exact ih (i+1) _ _ (by omega) ⟨by omega,by simp only[go_sem,seval,f8],by simp only[go_sem,seval,f11],by simp only[go_sem,seval,f14],by simp only[go_sem,seval,f40],by simp only[go_sem,seval,f41];rw[Int.natCast_succ],_,_,_,_,_,_,_,_,hs ▸ qz,rfl⟩
   ·have c0':(c i=0)=False:=eq_false c0
    have hs:sF c U (i+1)=aF (sF c U i) (tF U (whQ (c i)) (facL i)):=if_neg c0
    have ck:Fits64 (c i):=by have:=hc i h;unfold Fits64;omega
    have k1:=zfK ck
    have rw3:=zdO (n:=60) mE (off:=i*3) (k:=3) (by omega)
    have rl:(3≤((cs 60 mE).drop (i*3)).length)=True:=eq_true (by rw[List.length_drop,zbZ];omega)
    simp(disch:=omega)only[go_sem,seval,wqq,f8,f11,f14,f40,f41,q1,qL,ix,c0',k1,zjf,rw3,rl,zkM,mG,mG0,sG,sG0,lG,lqq]
    refine zag zvw.eq_1 (fun(j:Nat) fr M=>j≤3∧fr 8=.p 4 0∧fr 11=.p 5 0∧fr 14=.p (G.length+6) 0∧fr 17=.p (G.length+(H.length+1)+6) 0∧fr 40=aI 20 c∧fr 41=(PV.i .i64 ((i:Nat):Int))∧fr 51=aI 3 (fun e=>mE (i*3+e))∧fr 52=(PV.i .i64 ((j:Nat):Int))∧∃b0 b1 b2 b3 v vs vt,M=b0::b1::b2::b3::some ⟨[.b false,.nl,.b false,.nl],true,0⟩::some ⟨cg 3 fun e=>qc (U e),true,v⟩::(G++some ⟨L,true,vs⟩::(H++[some ⟨qc (tF U (whQ (c i)) (preL i j)),true,vt⟩]))) (fun j=>3-j) ?_ 0 ⟨by omega,by simp only[go_sem,seval,f8],by simp only[go_sem,seval,f11],by simp only[go_sem,seval,f14],by simp only[go_sem,seval],by simp only[go_sem,seval,f40],by simp only[go_sem,seval,f41],by simp only[go_sem,seval],by simp only[go_sem,seval],_,_,_,_,_,_,_,rfl⟩
    rintro j fr M ⟨hj,f8,f11,f14,f17,f40,f41,f51,f52,b0,b1,b2,b3,v,vs,vt,rfl⟩ ih2
    rcases Nat.lt_or_ge j 3 with h3|h3
    ·have q2:((j:Int)<3)=True:=eq_true (by omega)
     have qJ:(j<3)=True:=eq_true h3
     have iy:=zc7 (fun e=>mE (i*3+e)) h3
     obtain⟨e1,e2⟩:=zaE i h j h3
     rw[e1] at iy
     simp(disch:=omega)only[go_sem,seval,wqq,f8,f11,f14,f17,f40,f41,f51,f52,q2,qJ,iy,mG,mG0,sG,sG0,lG,lqq]
     refine zag zvD.eq_1 (fun(k:Nat) fr M=>k≤exN i j∧fr 8=.p 4 0∧fr 11=.p 5 0∧fr 14=.p (G.length+6) 0∧fr 17=.p (G.length+(H.length+1)+6) 0∧fr 40=aI 20 c∧fr 41=(PV.i .i64 ((i:Nat):Int))∧fr 51=aI 3 (fun e=>mE (i*3+e))∧fr 52=(PV.i .i64 ((j:Nat):Int))∧fr 18=(PV.i .i64 ((j:Nat):Int))∧fr 56=(PV.i .i64 ((exN i j:Nat):Int))∧fr 57=(PV.i .i64 ((k:Nat):Int))∧∃b0 b1 b2 b3 v vs vt,M=b0::b1::b2::b3::some ⟨[.b false,.nl,.b false,.nl],true,0⟩::some ⟨cg 3 fun e=>qc (U e),true,v⟩::(G++some ⟨L,true,vs⟩::(H++[some ⟨qc (tF U (whQ (c i)) (preL i j++List.replicate k (j:Int))),true,vt⟩]))) (fun k=>exN i j-k) ?_ 0 ⟨by omega,by simp only[go_sem,seval,f8],by simp only[go_sem,seval,f11],by simp only[go_sem,seval,f14],by simp only[go_sem,seval,f17],by simp only[go_sem,seval,f40],by simp only[go_sem,seval,f41],by simp only[go_sem,seval,f51],by simp only[go_sem,seval,f52],by simp only[go_sem,seval],by simp only[go_sem,seval],by simp only[go_sem,seval],_,_,_,_,_,_,_,by rw[List.replicate_zero,List.append_nil]⟩
     rintro k fr M ⟨hk,f8,f11,f14,f17,f40,f41,f51,f52,f18,f56,f57,b0,b1,b2,b3,v,vs,vt,rfl⟩ ih3
     rcases Nat.lt_or_ge k (exN i j) with h4|h4
     ·have q3:((k:Int)<(exN i j:Int))=True:=eq_true (by omega)
      have cx:=zbF (k:=4) (f:=fun e=>qc (U e)) (fun _=>rfl) h3
      have cl:(j*4+4≤(cg 3 fun e=>qc (U e)).length)=True:=eq_true (by rw[zcM (k:=4) (fun _=>rfl)];exact zk6 h3)
      have st:=zmx U (whQ (c i)) i j k
      have pm:=zrS (tF U (whQ (c i)) (preL i j++List.replicate k (j:Int))) (U j)
      simp(disch:=omega)only[go_sem,seval,wqq,f8,f11,f14,f17,f40,f41,f51,f52,f18,f56,f57,q3,qJ,cx,cl,pm,zpb,zfP,ziD,zmj,mG,mG0,sG,sG0,lG,lqq]
      exact ih3 (k+1) _ _ (by omega) ⟨by omega,by simp only[go_sem,seval,f8],by simp only[go_sem,seval,f11],by simp only[go_sem,seval,f14],by simp only[go_sem,seval,f17],by simp only[go_sem,seval,f40],by simp only[go_sem,seval,f41],by simp only[go_sem,seval,f51],by simp only[go_sem,seval,f52],by simp only[go_sem,seval,f18],by simp only[go_sem,seval,f56],by simp only[go_sem,seval,f57];rw[Int.natCast_succ],_,_,_,_,_,_,_,by rw[st]⟩
     ·obtain rfl:k=exN i j:=by omega
      have q3:((exN i j:Int)<(exN i j:Int))=False:=eq_false (Int.lt_irrefl _)
      simp(disch:=omega)only[go_sem,seval,wqq,f8,f11,f14,f17,f40,f41,f51,f52,f18,f56,f57,q3,mG,mG0,sG,sG0,lG,lqq]
      exact ih2 (j+1) _ _ (by omega) ⟨by omega,by simp only[go_sem,seval,f8],by simp only[go_sem,seval,f11],by simp only[go_sem,seval,f14],by simp only[go_sem,seval,f17],by simp only[go_sem,seval,f40],by simp only[go_sem,seval,f41],by simp only[go_sem,seval,f51],by simp only[go_sem,seval,f52];rw[Int.natCast_succ],_,_,_,_,_,_,_,by rw[ziy]⟩
    ·obtain rfl:j=3:=by omega
     rw[zj0 i h]
     generalize tF U (whQ (c i)) (facL i)=t at *
     have pa:=zrR (sF c U i) t
     generalize sF c U i=s at *
     simp(disch:=omega)only[go_sem,seval,wqq,f8,f11,f14,f17,f40,f41,f51,f52,z1,z2,z3,z4,z5,pa,zpb,zfP,ziD,mG,mG0,sG,sG0,lG,lqq]
     refine ih (i+1) _ _ (by omega) ⟨by omega,by simp only[go_sem,seval,f8],by simp only[go_sem,seval,f11],by simp only[go_sem,seval,f14],by simp only[go_sem,seval,f40],by simp only[go_sem,seval,f41];rw[Int.natCast_succ],_,_,_,_,_,_,_,_,hs ▸ qzs _,rfl⟩
  ·obtain rfl:i=20:=by omega
   have sp:=ztp (.b false) .nl (.b false) .nl L z1
   simp(disch:=omega)only[go_sem,seval,wqq,f8,f11,f14,f40,f41,z1,z2,z3,z4,z5,sp,zpb,mG,mG0,sG,sG0,lG,lqq]
end Go.Eng
namespace Go.Eng
def chE:Nat→Int:=fun e=>chooI.getD e 0
theorem zs6:cst E0.glob (.p 2 0)=.fp (cs 16 chE):=rfl
def chV (i k j:Nat):Int:=chE (exN i j*4+exN k j)
theorem zm3:∀i,i<20→∀k,k<20→∀j,j<3→0≤chV i k j∧chV i k j≤3:=by decide
def leQ (i k:Nat):Prop:=exN k 0≤exN i 0∧exN k 1≤exN i 1∧exN k 2≤exN i 2
instance (i k:Nat):Decidable (leQ i k):=by unfold leQ;infer_instance
def shP (Y:Nat→Int) (i k:Nat):Nat→Int
 | 0=>1
 | j+1=>shP Y i k j*(chV i k j*Y j^(exN i j-exN k j))
def shT (c Y:Nat→Int) (k i:Nat):Int:=if leQ i k then c i*shP Y i k 3 else 0
def shS (c Y:Nat→Int) (i k:Nat):Int:=sumT (shT c Y k) i
open Classical in
noncomputable def shE' (c S:Nat→Int):Int:=if okC c then (if okC S then 0 else 5) else 1
open Classical in
noncomputable def shE (c Y:Nat→Int):Int:=if okC c then (if okC (shS c Y 20) then 0 else 5) else 1
noncomputable def shV (c Y:Nat→Int):Nat→Int:=if shE c Y=0 then shS c Y 20 else zF
theorem z20:[PV.i .i64 0,PV.i .i64 0,PV.i .i64 0,PV.i .i64 0,PV.i .i64 0,PV.i .i64 0,PV.i .i64 0,PV.i .i64 0,PV.i .i64 0,PV.i .i64 0,PV.i .i64 0,PV.i .i64 0,PV.i .i64 0,PV.i .i64 0,PV.i .i64 0,PV.i .i64 0,PV.i .i64 0,PV.i .i64 0,PV.i .i64 0,PV.i .i64 0]=cs 20 zF:=rfl
theorem z40:[PV.b false,.nl,PV.b false,.nl,PV.b false,.nl,PV.b false,.nl,PV.b false,.nl,PV.b false,.nl,PV.b false,.nl,PV.b false,.nl,PV.b false,.nl,PV.b false,.nl,PV.b false,.nl,PV.b false,.nl,PV.b false,.nl,PV.b false,.nl,PV.b false,.nl,PV.b false,.nl,PV.b false,.nl,PV.b false,.nl,PV.b false,.nl,PV.b false,.nl]=cg 20 (fun _=>[PV.b false,.nl]):=rfl
theorem zd7 {n:Int} (h:Fits64 n):small n=n∧isSmall n=true:=by
 have:isSmall n=true:=decide_eq_true h
 unfold small
 rw[if_pos this]
 exact⟨rfl,this⟩
theorem zgz {c:Nat→Int} (h:¬okC c) (x y z:Int):pf E0 396 [aI 20 c,.i .i64 x,.i .i64 y,.i .i64 z]=some (.tu [aI 20 zF,.i .i64 1]):=by
 have va:=zaw c
 have:vlC c=1:=if_neg h
 rw[this] at va
 refine zab (xf:=zt0) rfl (by simp[zt0]) ?_
 simp only[zt0]
 simp(disch:=omega)only[go_sem,seval,wqq,va,z20]
set_option maxHeartbeats 8000000 in
theorem zjQ {c:Nat→Int} (hc:okC c) {x y z:Int} (hx:Fits64 x) (hy:Fits64 y) (hz:Fits64 z) {Y:Nat→Int} (hY:Y=s3 (-x) (-y) (-z)):pf E0 396 [aI 20 c,.i .i64 x,.i .i64 y,.i .i64 z]=some (.tu [aI 20 (shV c Y),.i .i64 (shE c Y)]):=by
 have va:=zaw c
 have:vlC c=0:=if_pos hc
 rw[this] at va
 have x1:=zbk hx
 have x2:=zbk hy
 have x3:=zbk hz
 obtain⟨X,hX⟩:∃X:Nat→WI,X=s3 (wiOf x hx).neg (wiOf y hy).neg (wiOf z hz).neg:=⟨_,rfl⟩
 have Xv:∀j,(X j).v=Y j:=fun j=>by
  rw[hX,hY];unfold s3;split
  ·rfl
  ·split<;>rfl
 have Xl:∀j,wlen (X j).v.natAbs≤2:=fun j=>by
  rw[Xv,hY];unfold s3;split
  ·rw[Int.natAbs_neg];exact zcv hx
  ·split
   ·rw[Int.natAbs_neg];exact zcv hy
   ·rw[Int.natAbs_neg];exact zcv hz
 refine zab (xf:=zt0) rfl (by simp[zt0]) ?_
 simp only[zt0]
 have zA:(cg 20 fun _=>[PV.b false,.nl]).all PV.scal=true:=rfl
 simp(disch:=omega)only[go_sem,seval,wqq,va,x1,x2,x3,z20,z40,zA,zjf,zaz,zah]
 refine zag zvu.eq_1 (fun(i:Nat) fr M=>i≤20∧fr 4=.p 0 0∧fr 8=.p 1 0∧fr 11=.p 2 0∧fr 12=.p 3 0∧fr 40=aI 60 mE∧fr 41=(PV.i .i64 ((i:Nat):Int))∧∃vx vs G L,∃w:Nat→WI,(∀e,WZ (L e) (w e))∧(∀e,e<20→(w e).v=shS c Y i e∧wlen (w e).v.natAbs≤40+i)∧M=some ⟨cs 20 c,true,0⟩::some ⟨cs 20 zF,true,0⟩::some ⟨cw 3 X,true,vx⟩::some ⟨cg 20 L,true,vs⟩::G) (fun i=>20-i) ?_ 0 ⟨by omega,by simp only[go_sem,seval],by simp only[go_sem,seval],by simp only[go_sem,seval],by simp only[go_sem,seval],by simp only[go_sem,seval],by simp only[go_sem,seval],_,_,[],_,fun _=>wi0,fun _=>wz0,fun e _=>⟨rfl,by show wlen (0:Int).natAbs≤40+0;decide⟩,by rw[hX];rfl⟩
 rintro i fr M ⟨hi,f4,f8,f11,f12,f40,f41,vx,vs,G,L,w,wz,wv,rfl⟩ ih
 have rowI:∀{k:Nat},k<20→iagP 20 true 3 (aI 60 mE) (some k)=some (aI 3 (rowM k)):=fun {k} h=>by
  unfold aI
  rw[zdk,if_pos ⟨h,by rw[zbZ]⟩,zgS h];rfl
 rcases Nat.lt_or_ge i 20 with h|h
 ·have q1:((i:Int)<20)=True:=eq_true (by omega)
  have qL:(i<20)=True:=eq_true h
  have ia:=rowI h
  have ck:Fits64 (c i):=by have:=hc i h;unfold Fits64;omega
  have k1:=zbk ck
  have cg1:=zbj (n:=20) c h
  obtain⟨r0,r1,r2⟩:=zmo h
  simp(disch:=omega)only[go_sem,seval,wqq,f4,f8,f11,f12,f40,f41,q1,qL,ia,zjf,mG,mG0,sG,sG0,lG,lqq]
  refine zag zvr.eq_1 (fun(k:Nat) fr M=>k≤20∧fr 4=.p 0 0∧fr 8=.p 1 0∧fr 11=.p 2 0∧fr 12=.p 3 0∧fr 13=(PV.i .i64 ((i:Nat):Int))∧fr 14=.p (G.length+4) 0∧fr 40=aI 60 mE∧fr 41=(PV.i .i64 ((i:Nat):Int))∧fr 45=aI 60 mE∧fr 46=(PV.i .i64 ((k:Nat):Int))∧∃vx vs vr H L,∃w:Nat→WI,(∀e,WZ (L e) (w e))∧(∀e,e<20→(w e).v=(if e<k then shS c Y (i+1) e else shS c Y i e)∧wlen (w e).v.natAbs≤(if e<k then 41+i else 40+i))∧M=some ⟨cs 20 c,true,0⟩::some ⟨cs 20 zF,true,0⟩::some ⟨cw 3 X,true,vx⟩::some ⟨cg 20 L,true,vs⟩::(G++some ⟨cs 3 (rowM i),true,vr⟩::H)) (fun k=>20-k) ?_ 0 ⟨by omega,by simp only[go_sem,seval,f4],by simp only[go_sem,seval,f8],by simp only[go_sem,seval,f11],by simp only[go_sem,seval,f12],by simp only[go_sem,seval],by simp only[go_sem,seval],by simp only[go_sem,seval,f40],by simp only[go_sem,seval,f41],by simp only[go_sem,seval],by simp only[go_sem,seval],_,_,_,[],_,w,wz,fun e he=>by obtain⟨a,b⟩:=wv e he;exact⟨by rw[a,if_neg (by omega)],by rw[if_neg (by omega)];exact b⟩,rfl⟩
  clear f4 f8 f11 f12 f40 f41 wv wz
  rintro k fr M ⟨hk,f4,f8,f11,f12,f13,f14,f40,f41,f45,f46,vx,vs,vr,H,L,w,wz,wv,rfl⟩ ih2
  rcases Nat.lt_or_ge k 20 with h2|h2
  ·have q2:((k:Int)<20)=True:=eq_true (by omega)
   have qK:(k<20)=True:=eq_true h2
   have ib:=rowI h2
   obtain⟨s0,s1,s2⟩:=zmo h2
   have ss:shS c Y (i+1) k=shS c Y i k+shT c Y k i:=rfl
   by_cases lq:leQ i k
   ·have lq':=lq
    obtain⟨l0,l1,l2⟩:=lq
    have g0:((exN i 0:Int)<(exN k 0:Int))=False:=eq_false (by omega)
    have g1:((exN i 1:Int)<(exN k 1:Int))=False:=eq_false (by omega)
    have g2:((exN i 2:Int)<(exN k 2:Int))=False:=eq_false (by omega)
    simp(disch:=omega)only[go_sem,seval,wqq,f4,f8,f11,f12,f13,f14,f40,f41,f45,f46,q2,qK,qL,ib,zbj,r0,r1,r2,s0,s1,s2,g0,g1,g2,cg1,k1,mG,mG0,sG,sG0,lG,lqq]
    refine zag zvt.eq_1 (fun(j:Nat) fr M=>j≤3∧fr 4=.p 0 0∧fr 8=.p 1 0∧fr 11=.p 2 0∧fr 12=.p 3 0∧fr 13=(PV.i .i64 ((i:Nat):Int))∧fr 14=.p (G.length+4) 0∧fr 15=(PV.i .i64 ((k:Nat):Int))∧fr 16=.p (G.length+(H.length+1)+4) 0∧fr 17=.p (G.length+(H.length+1+1)+4) 0∧fr 40=aI 60 mE∧fr 41=(PV.i .i64 ((i:Nat):Int))∧fr 45=aI 60 mE∧fr 46=(PV.i .i64 ((k:Nat):Int))∧fr 73=(PV.i .i64 ((j:Nat):Int))∧∃vx vs vr vk vt,∃t:WI,t.v=c i*shP Y i k j∧wlen t.v.natAbs≤2+8*j∧M=some ⟨cs 20 c,true,0⟩::some ⟨cs 20 zF,true,0⟩::some ⟨cw 3 X,true,vx⟩::some ⟨cg 20 L,true,vs⟩::(G++some ⟨cs 3 (rowM i),true,vr⟩::(H++[some ⟨cs 3 (rowM k),true,vk⟩,some ⟨wc t,true,vt⟩]))) (fun j=>3-j) ?_ 0 ⟨by omega,by simp only[go_sem,seval,f4],by simp only[go_sem,seval,f8],by simp only[go_sem,seval,f11],by simp only[go_sem,seval,f12],by simp only[go_sem,seval,f13],by simp only[go_sem,seval,f14],by simp only[go_sem,seval],by simp only[go_sem,seval],by simp only[go_sem,seval],by simp only[go_sem,seval,f40],by simp only[go_sem,seval,f41],by simp only[go_sem,seval,f45],by simp only[go_sem,seval,f46],by simp only[go_sem,seval],_,_,_,_,_,wiOf (c i) ck,(Int.mul_one _).symm,zcv ck,rfl⟩
    clear f4 f8 f11 f12 f13 f14 f40 f41 f45 f46
    rintro j fr M ⟨hj,f4,f8,f11,f12,f13,f14,f15,f16,f17,f40,f41,f45,f46,f73,vx,vs,vr,vk,vt,t,tv,tl,rfl⟩ ih3
    rcases Nat.lt_or_ge j 3 with h3|h3
    ·have q3:((j:Int)<3)=True:=eq_true (by omega)
     have qJ:(j<3)=True:=eq_true h3
     obtain⟨e1,e2⟩:=zaE i h j h3
     obtain⟨d1,d2⟩:=zaE k h2 j h3
     have e1:rowM i j=(exN i j:Int):=e1
     have d1:rowM k j=(exN k j:Int):=d1
     have de:exN k j≤exN i j:=by
      obtain rfl|rfl|rfl:=zb1 h3
      ·exact l0
      ·exact l1
      ·exact l2
     have xi:=zbj (n:=3) (rowM i) h3
     have xk:=zbj (n:=3) (rowM k) h3
     rw[e1] at xi
     rw[d1] at xk
     have q4:(exN i j<4)=True:=eq_true (by omega)
     have q5:(exN k j<4)=True:=eq_true (by omega)
     have cb:=zm3 i h k h2 j h3
     have cf:Fits64 (chV i k j):=by unfold Fits64;omega
     have cc:(List.drop (exN k j) (List.drop (exN i j*4) (cs 16 chE)))[0]?=some (.i .i64 (chV i k j)):=by
      rw[List.drop_drop,List.getElem?_drop,Nat.add_zero,zbj _ (by omega)];rfl
     have kc:=zbk cf
     have pm:=zfI t (wiOf (chV i k j) cf)
     have lc:wlen (wiOf (chV i k j) cf).v.natAbs≤2:=zcv cf
     obtain⟨m1,m2⟩:=zlB tl lc (by omega)
     have sb:(exN i j:Int)-(exN k j:Int)=((exN i j-exN k j:Nat):Int):=by omega
     simp(disch:=omega)only[go_sem,seval,wqq,f4,f8,f11,f12,f13,f14,f15,f16,f17,f40,f41,f45,f46,f73,q3,mG,mG0,sG,sG0,lG,lqq]
     refine zaP [17] rfl (by simp only[go_sem,seval,f17]) ?_
     simp(disch:=omega)only[go_sem,seval,wqq,f4,f8,f11,f12,f13,f14,f15,f16,f17,f40,f41,f45,f46,f73,q3,qJ,xi,xk,q4,q5,cc,zs6,kc,pm,sb,zhn,zdA,zdz,zfS,mG,mG0,sG,sG0,lG,lqq]
     refine zag zvv.eq_1 (fun(n:Nat) fr M=>n≤exN i j-exN k j∧fr 4=.p 0 0∧fr 8=.p 1 0∧fr 11=.p 2 0∧fr 12=.p 3 0∧fr 13=(PV.i .i64 ((i:Nat):Int))∧fr 14=.p (G.length+4) 0∧fr 15=(PV.i .i64 ((k:Nat):Int))∧fr 16=.p (G.length+(H.length+1)+4) 0∧fr 17=.p (G.length+(H.length+1+1)+4) 0∧fr 40=aI 60 mE∧fr 41=(PV.i .i64 ((i:Nat):Int))∧fr 45=aI 60 mE∧fr 46=(PV.i .i64 ((k:Nat):Int))∧fr 73=(PV.i .i64 ((j:Nat):Int))∧fr 18=(PV.i .i64 ((j:Nat):Int))∧fr 97=(PV.i .i64 ((exN i j-exN k j:Nat):Int))∧fr 98=(PV.i .i64 ((n:Nat):Int))∧∃vx vs vr vk vt,∃t:WI,t.v=c i*(shP Y i k j*(chV i k j*Y j^n))∧wlen t.v.natAbs≤4+8*j+2*n∧M=some ⟨cs 20 c,true,0⟩::some ⟨cs 20 zF,true,0⟩::some ⟨cw 3 X,true,vx⟩::some ⟨cg 20 L,true,vs⟩::(G++some ⟨cs 3 (rowM i),true,vr⟩::(H++[some ⟨cs 3 (rowM k),true,vk⟩,some ⟨wc t,true,vt⟩]))) (fun n=>exN i j-exN k j-n) ?_ 0 ⟨by omega,by simp only[go_sem,seval,f4],by simp only[go_sem,seval,f8],by simp only[go_sem,seval,f11],by simp only[go_sem,seval,f12],by simp only[go_sem,seval,f13],by simp only[go_sem,seval,f14],by simp only[go_sem,seval,f15],by simp only[go_sem,seval,f16],by simp only[go_sem,seval,f17],by simp only[go_sem,seval,f40],by simp only[go_sem,seval,f41],by simp only[go_sem,seval,f45],by simp only[go_sem,seval,f46],by simp only[go_sem,seval,f73],by simp only[go_sem,seval],by simp only[go_sem,seval],by simp only[go_sem,seval],_,_,_,_,_,clip (t.v*(wiOf (chV i k j) cf).v),by rw[m1,tv,Int.pow_zero,Int.mul_one,Int.mul_assoc];rfl,by rw[m1];omega,rfl⟩
     clear f4 f8 f11 f12 f13 f14 f15 f16 f17 f40 f41 f45 f46 f73 pm m1 m2 tl tv
     rintro n fr M ⟨hn,f4,f8,f11,f12,f13,f14,f15,f16,f17,f40,f41,f45,f46,f73,f18,f97,f98,vx,vs,vr,vk,vt,t,tv,tl,rfl⟩ ih4
     rcases Nat.lt_or_ge n (exN i j-exN k j) with h4|h4
     ·have q6:((n:Int)<((exN i j-exN k j:Nat):Int))=True:=eq_true (by omega)
      have cx:=zkl (n:=3) X h3
      have pm:=zfI t (X j)
      have cl:(j*2+2≤6)=True:=eq_true (by omega)
      obtain⟨m1,m2⟩:=zlB tl (Xl j) (by omega)
      simp(disch:=omega)only[go_sem,seval,wqq,f4,f8,f11,f12,f13,f14,f15,f16,f17,f40,f41,f45,f46,f73,f18,f97,f98,q6,qJ,cx,cl,zdP,pm,zhn,zdA,zdz,zfS,mG,mG0,sG,sG0,lG,lqq]
      refine ih4 (n+1) _ _ (by omega) ⟨by omega,by simp only[go_sem,seval,f4],by simp only[go_sem,seval,f8],by simp only[go_sem,seval,f11],by simp only[go_sem,seval,f12],by simp only[go_sem,seval,f13],by simp only[go_sem,seval,f14],by simp only[go_sem,seval,f15],by simp only[go_sem,seval,f16],by simp only[go_sem,seval,f17],by simp only[go_sem,seval,f40],by simp only[go_sem,seval,f41],by simp only[go_sem,seval,f45],by simp only[go_sem,seval,f46],by simp only[go_sem,seval,f73],by simp only[go_sem,seval,f18],by simp only[go_sem,seval,f97],by simp only[go_sem,seval,f98];rw[Int.natCast_succ],_,_,_,_,_,clip (t.v*(X j).v),?_,by rw[m1];omega,rfl⟩
      rw[m1,tv,Xv,Int.pow_succ];grind
     ·obtain rfl:n=exN i j-exN k j:=by omega
      have q6:(((exN i j-exN k j:Nat):Int)<((exN i j-exN k j:Nat):Int))=False:=eq_false (Int.lt_irrefl _)
      simp(disch:=omega)only[go_sem,seval,wqq,f4,f8,f11,f12,f13,f14,f15,f16,f17,f40,f41,f45,f46,f73,f18,f97,f98,q6,mG,mG0,sG,sG0,lG,lqq]
      exact ih3 (j+1) _ _ (by omega) ⟨by omega,by simp only[go_sem,seval,f4],by simp only[go_sem,seval,f8],by simp only[go_sem,seval,f11],by simp only[go_sem,seval,f12],by simp only[go_sem,seval,f13],by simp only[go_sem,seval,f14],by simp only[go_sem,seval,f15],by simp only[go_sem,seval,f16],by simp only[go_sem,seval,f17],by simp only[go_sem,seval,f40],by simp only[go_sem,seval,f41],by simp only[go_sem,seval,f45],by simp only[go_sem,seval,f46],by simp only[go_sem,seval,f73];rw[Int.natCast_succ],_,_,_,_,_,t,tv,by omega,rfl⟩
    ·obtain rfl:j=3:=by omega
     have st:shT c Y k i=c i*shP Y i k 3:=if_pos lq'
     have z1:=wz k
     have L2:∀e,(L e).length=2:=fun e=>(wz e).len
     have sL:=zbF L2 h2
     have lL:(k*2+2≤(cg 20 L).length)=True:=eq_true (by rw[zcM L2];exact zk6 h2)
     have zf:=z1.fz
     obtain⟨a1,a2⟩:=wv k h2
     rw[if_neg (Nat.lt_irrefl _)] at a1 a2
     have pa:=zid (w k) t
     obtain⟨m1,m2⟩:=zmL a2 tl (by omega)
     have sp:=zdM L2 h2 (v:=wc (clip ((w k).v+t.v))) (zdz _)
     rw[zoJ] at sp
     simp(disch:=omega)only[go_sem,seval,wqq,f4,f8,f11,f12,f13,f14,f15,f16,f17,f40,f41,f45,f46,f73,qK,sL,lL,zf,pa,sp,zhn,zdA,zdz,mG,mG0,sG,sG0,lG,lqq]
     refine ih2 (k+1) _ _ (by omega) ⟨by omega,by simp only[go_sem,seval,f4],by simp only[go_sem,seval,f8],by simp only[go_sem,seval,f11],by simp only[go_sem,seval,f12],by simp only[go_sem,seval,f13],by simp only[go_sem,seval,f14],by simp only[go_sem,seval,f40],by simp only[go_sem,seval,f41],by simp only[go_sem,seval,f45],by simp only[go_sem,seval,f46];rw[Int.natCast_succ],_,_,_,_,upd L k (wc (clip ((w k).v+t.v))),upd w k (clip ((w k).v+t.v)),fun e=>?_,fun e he=>?_,rfl⟩
     ·unfold upd
      split
      ·exact wzs _
      ·exact wz e
     ·by_cases ek:e=k
      ·subst ek
       rw[zbl,if_pos (Nat.lt_succ_self _),if_pos (Nat.lt_succ_self _),m1]
       exact⟨by rw[a1,tv,ss,st],by omega⟩
      ·rw[zbJ ek]
       obtain⟨a,b⟩:=wv e he
       refine⟨?_,by split at b<;>split<;>omega⟩
       rw[a]
       by_cases e1:e<k
       ·rw[if_pos e1,if_pos (by omega)]
       ·rw[if_neg e1,if_neg (by omega)]
   ·have st:shT c Y k i=0:=if_neg lq
    have go:∀e,e<20→(w e).v=(if e<k+1 then shS c Y (i+1) e else shS c Y i e)∧wlen (w e).v.natAbs≤(if e<k+1 then 41+i else 40+i):=fun e he=>by
     obtain⟨a,b⟩:=wv e he
     refine⟨?_,by split at b<;>split<;>omega⟩
     rw[a]
     by_cases ek:e=k
     ·subst ek;rw[if_neg (Nat.lt_irrefl _),if_pos (by omega),ss,st,Int.add_zero]
     ·by_cases e1:e<k
      ·rw[if_pos e1,if_pos (by omega)]
      ·rw[if_neg e1,if_neg (by omega)]
    rcases zg5 ((exN i 0:Int)<(exN k 0:Int)) with g0|g0
    ·simp(disch:=omega)only[go_sem,seval,wqq,f4,f8,f11,f12,f13,f14,f40,f41,f45,f46,q2,qK,ib,zbj,r0,r1,r2,s0,s1,s2,g0,mG,mG0,sG,sG0,lG,lqq]
     exact ih2 (k+1) _ _ (by omega) ⟨by omega,by simp only[go_sem,seval,f4],by simp only[go_sem,seval,f8],by simp only[go_sem,seval,f11],by simp only[go_sem,seval,f12],by simp only[go_sem,seval,f13],by simp only[go_sem,seval,f14],by simp only[go_sem,seval,f40],by simp only[go_sem,seval,f41],by simp only[go_sem,seval,f45],by simp only[go_sem,seval,f46];rw[Int.natCast_succ],_,_,_,_,_,w,wz,go,rfl⟩
    ·rcases zg5 ((exN i 1:Int)<(exN k 1:Int)) with g1|g1
     ·simp(disch:=omega)only[go_sem,seval,wqq,f4,f8,f11,f12,f13,f14,f40,f41,f45,f46,q2,qK,ib,zbj,r0,r1,r2,s0,s1,s2,g0,g1,mG,mG0,sG,sG0,lG,lqq]
      exact ih2 (k+1) _ _ (by omega) ⟨by omega,by simp only[go_sem,seval,f4],by simp only[go_sem,seval,f8],by simp only[go_sem,seval,f11],by simp only[go_sem,seval,f12],by simp only[go_sem,seval,f13],by simp only[go_sem,seval,f14],by simp only[go_sem,seval,f40],by simp only[go_sem,seval,f41],by simp only[go_sem,seval,f45],by simp only[go_sem,seval,f46];rw[Int.natCast_succ],_,_,_,_,_,w,wz,go,rfl⟩
     ·have g2:((exN i 2:Int)<(exN k 2:Int))=True:=eq_true (by
       have u0:=of_eq_false g0
       have u1:=of_eq_false g1
       unfold leQ at lq
       omega)
      simp(disch:=omega)only[go_sem,seval,wqq,f4,f8,f11,f12,f13,f14,f40,f41,f45,f46,q2,qK,ib,zbj,r0,r1,r2,s0,s1,s2,g0,g1,g2,mG,mG0,sG,sG0,lG,lqq]
      exact ih2 (k+1) _ _ (by omega) ⟨by omega,by simp only[go_sem,seval,f4],by simp only[go_sem,seval,f8],by simp only[go_sem,seval,f11],by simp only[go_sem,seval,f12],by simp only[go_sem,seval,f13],by simp only[go_sem,seval,f14],by simp only[go_sem,seval,f40],by simp only[go_sem,seval,f41],by simp only[go_sem,seval,f45],by simp only[go_sem,seval,f46];rw[Int.natCast_succ],_,_,_,_,_,w,wz,go,rfl⟩
  ·obtain rfl:k=20:=by omega
   simp(disch:=omega)only[go_sem,seval,wqq,f4,f8,f11,f12,f13,f14,f40,f41,f45,f46,mG,mG0,sG,sG0,lG,lqq]
   exact ih (i+1) _ _ (by omega) ⟨by omega,by simp only[go_sem,seval,f4],by simp only[go_sem,seval,f8],by simp only[go_sem,seval,f11],by simp only[go_sem,seval,f12],by simp only[go_sem,seval,f40],by simp only[go_sem,seval,f41];rw[Int.natCast_succ],_,_,_,_,w,wz,fun e he=>by obtain⟨a,b⟩:=wv e he;exact⟨by rw[a,if_pos he],by rw[if_pos he] at b;omega⟩,rfl⟩
 ·obtain rfl:i=20:=by omega
  clear ih
  simp(disch:=omega)only[go_sem,seval,wqq,f4,f8,f11,f12,f40,f41,z20,mG,mG0,sG,sG0,lG,lqq]
  have L2:∀e,(L e).length=2:=fun e=>(wz e).len
  have lg:(cg 20 L).length=40:=zcM L2 20
  have tk:List.take 40 (cg 20 L)=cg 20 L:=List.take_of_length_le (by omega)
  simp(disch:=omega)only[go_sem,seval,wqq,lg,tk,mG,mG0,sG,sG0,lG,lqq]
  have vS:∀e,e<20→(w e).v=shS c Y 20 e:=fun e he=>(wv e he).1
  have vF:∀e,e<20→wlen (w e).v.natAbs≤60:=fun e he=>(wv e he).2
  have hE:shE c Y=shE' c (shS c Y 20):=rfl
  have hV:okC (shS c Y 20)→shV c Y=shS c Y 20:=fun o=>by unfold shV shE;rw[if_pos hc,if_pos o];rfl
  have hW:¬okC (shS c Y 20)→shV c Y=zF:=fun o=>by unfold shV shE;rw[if_pos hc,if_neg o];rfl
  generalize shS c Y 20=S at *
  have ia:∀{k:Nat},k<20→iagP 20 true 2 (.ag (cg 20 L)) (some k)=some (.ag (L k)):=fun {k} h=>by
   rw[zdk,if_pos ⟨h,by rw[lg]⟩,zbF L2 h];rfl
  by_cases ok:okC S
  ·have e1:shE' c S=0:=by unfold shE';rw[if_pos hc,if_pos ok]
   rw[hE,e1,hV ok]
   refine zag zuT.eq_1 (fun(k:Nat) fr M=>k≤20∧fr 8=.p 1 0∧fr 19=.p (G.length+4) 0∧fr 122=.ag (cg 20 L)∧fr 123=(PV.i .i64 ((k:Nat):Int))∧∃b0 b2 b3 f v H,(∀e,e<k→f e=S e)∧M=b0::some ⟨cs 20 zF,true,0⟩::b2::b3::(G++some ⟨cs 20 f,true,v⟩::H)) (fun k=>20-k) ?_ 0 ⟨by omega,by simp only[go_sem,seval,f8],by simp only[go_sem,seval],by simp only[go_sem,seval],by simp only[go_sem,seval],_,_,_,zF,_,[],fun e he=>by omega,rfl⟩
   clear f4 f8 f11 f12 f40 f41
   rintro k fr M ⟨hk,f8,f19,f122,f123,b0,b2,b3,f,v,H,hf,rfl⟩ ih
   rcases Nat.lt_or_ge k 20 with h2|h2
   ·have q2:((k:Int)<20)=True:=eq_true (by omega)
    have qK:(k<20)=True:=eq_true h2
    have ib:=ia h2
    have zk:=wz k
    have z1:=zk.len
    have z2:=zk.sc
    have z3:=zk.fz
    have z4:=zk.tk
    have sp:psplice [.b false,.nl] 0 (L k)=L k:=zre _ _ _ z1
    have vk:=vS k h2
    have bk:=ok k h2
    have ps:=zdr (w k)
    obtain⟨s1,s2⟩:=zd7 (n:=S k) (by unfold Fits64;omega)
    rw[vk,s1,s2] at ps
    have t1:(S k < -1073741824)=False:=eq_false (by omega)
    have t2:(S k>1073741824)=False:=eq_false (by omega)
    simp(disch:=omega)only[go_sem,seval,wqq,f8,f19,f122,f123,q2,qK,ib,z1,z2,z3,z4,sp,zhn,ps,t1,t2,mG,mG0,sG,sG0,lG,lqq]
    refine ih (k+1) _ _ (by omega) ⟨by omega,by simp only[go_sem,seval,f8],by simp only[go_sem,seval,f19],by simp only[go_sem,seval,f122],by simp only[go_sem,seval,f123];rw[Int.natCast_succ],_,_,_,_,_,_,fun e he=>?_,rfl⟩
    unfold upd
    split
    ·rename_i q;rw[q]
    ·exact hf e (by omega)
   ·obtain rfl:k=20:=by omega
    simp(disch:=omega)only[go_sem,seval,wqq,f8,f19,f122,f123,mG,mG0,sG,sG0,lG,lqq]
    rw[zeN hf]
  ·have e1:shE' c S=5:=by unfold shE';rw[if_pos hc,if_neg ok]
   rw[hE,e1,hW ok]
   refine zag zuT.eq_1 (fun(k:Nat) fr M=>k≤20∧(∀e,e<k → -1073741824≤S e∧S e≤1073741824)∧fr 8=.p 1 0∧fr 19=.p (G.length+4) 0∧fr 122=.ag (cg 20 L)∧fr 123=(PV.i .i64 ((k:Nat):Int))∧∃b0 b2 b3 f v H,M=b0::some ⟨cs 20 zF,true,0⟩::b2::b3::(G++some ⟨cs 20 f,true,v⟩::H)) (fun k=>20-k) ?_ 0 ⟨by omega,fun e he=>by omega,by simp only[go_sem,seval,f8],by simp only[go_sem,seval],by simp only[go_sem,seval],by simp only[go_sem,seval],_,_,_,zF,_,[],rfl⟩
   clear f4 f8 f11 f12 f40 f41
   rintro k fr M ⟨hk,hlo,f8,f19,f122,f123,b0,b2,b3,f,v,H,rfl⟩ ih
   have h2:k<20:=by
    rcases Nat.lt_or_ge k 20 with z|z
    ·exact z
    ·obtain rfl:k=20:=by omega
     exact absurd hlo ok
   have q2:((k:Int)<20)=True:=eq_true (by omega)
   have qK:(k<20)=True:=eq_true h2
   have ib:=ia h2
   have zk:=wz k
   have z1:=zk.len
   have z2:=zk.sc
   have z3:=zk.fz
   have z4:=zk.tk
   have sp:psplice [.b false,.nl] 0 (L k)=L k:=zre _ _ _ z1
   have vk:=vS k h2
   have ps:=zdr (w k)
   rw[vk] at ps
   cases sm:isSmall (S k) with
   | false =>
    rw[sm] at ps
    simp(disch:=omega)only[go_sem,seval,wqq,f8,f19,f122,f123,q2,qK,ib,z1,z2,z3,z4,sp,zhn,ps,z20,mG,mG0,sG,sG0,lG,lqq]
   | true =>
    have s1:small (S k)=S k:=by unfold small;rw[sm];rfl
    rw[sm,s1] at ps
    rcases zg5 (S k < -1073741824) with t1|t1
    ·simp(disch:=omega)only[go_sem,seval,wqq,f8,f19,f122,f123,q2,qK,ib,z1,z2,z3,z4,sp,zhn,ps,t1,z20,mG,mG0,sG,sG0,lG,lqq]
    ·rcases zg5 (S k>1073741824) with t2|t2
     ·simp(disch:=omega)only[go_sem,seval,wqq,f8,f19,f122,f123,q2,qK,ib,z1,z2,z3,z4,sp,zhn,ps,t1,t2,z20,mG,mG0,sG,sG0,lG,lqq]
     ·simp(disch:=omega)only[go_sem,seval,wqq,f8,f19,f122,f123,q2,qK,ib,z1,z2,z3,z4,sp,zhn,ps,t1,t2,mG,mG0,sG,sG0,lG,lqq]
      have u1:=of_eq_false t1
      have u2:=of_eq_false t2
      refine ih (k+1) _ _ (by omega) ⟨by omega,fun e he=>?_,by simp only[go_sem,seval,f8],by simp only[go_sem,seval,f19],by simp only[go_sem,seval,f122],by simp only[go_sem,seval,f123];rw[Int.natCast_succ],_,_,_,_,_,_,rfl⟩
      rcases Nat.lt_or_ge e k with z|z
      ·exact hlo e z
      ·obtain rfl:e=k:=by omega
       omega
theorem zey (c:Nat→Int) {x y z:Int} (hx:Fits64 x) (hy:Fits64 y) (hz:Fits64 z):pf E0 396 [aI 20 c,.i .i64 x,.i .i64 y,.i .i64 z]=some (.tu [aI 20 (shV c (s3 (-x) (-y) (-z))),.i .i64 (shE c (s3 (-x) (-y) (-z)))]):=by
 by_cases hc:okC c
 ·exact zjQ hc hx hy hz rfl
 ·have e1:shE c (s3 (-x) (-y) (-z))=1:=if_neg hc
  have e2:shV c (s3 (-x) (-y) (-z))=zF:=by unfold shV;rw[e1];rfl
  rw[e1,e2]
  exact zgz hc _ _ _
end Go.Eng
namespace Go.Eng
def bin2 (n k:Nat) (y:Int):Int:=if k≤n then chE (n*4+k)*y^(n-k) else 0
theorem zoh {n k:Nat} (hn:n≤2) (hk:k≤3) (y:Int):bin2 (n+1) k y=y*bin2 n k y+(if 1≤k then bin2 n (k-1) y else 0):=by
 obtain rfl|rfl|rfl:n=0∨n=1∨n=2:=by omega
 all_goals
  obtain rfl|rfl|rfl|rfl:k=0∨k=1∨k=2∨k=3:=by omega
  all_goals
   simp[bin2,chE,chooI]
   try grind
def binB (n:Nat→Nat) (e:Nat) (Y:Nat→Int):Int:=bin2 (n 0) (exN e 0) (Y 0)*bin2 (n 1) (exN e 1) (Y 1)*bin2 (n 2) (exN e 2) (Y 2)
theorem zcG (c Y:Nat→Int) (k i:Nat):shT c Y k i=c i*binB (exN i) k Y:=by
 unfold shT binB
 split
 ·rename_i h
  obtain⟨h0,h1,h2⟩:=h
  unfold bin2
  rw[if_pos h0,if_pos h1,if_pos h2]
  simp only[shP,chV,Int.one_mul]
 ·rename_i h
  have:bin2 (exN i 0) (exN k 0) (Y 0)=0∨bin2 (exN i 1) (exN k 1) (Y 1)=0∨bin2 (exN i 2) (exN k 2) (Y 2)=0:=by
   unfold leQ at h
   unfold bin2
   by_cases h0:exN k 0≤exN i 0
   ·by_cases h1:exN k 1≤exN i 1
    ·exact .inr (.inr (if_neg fun q=>h ⟨h0,h1,q⟩))
    ·exact .inr (.inl (if_neg h1))
   ·exact .inl (if_neg h0)
  rcases this with z|z|z<;>rw[z]<;>simp
theorem zfW {n:Nat→Nat} {e:Nat} {Y:Nat→Int} (h:binB n e Y≠0):exN e 0≤n 0∧exN e 1≤n 1∧exN e 2≤n 2:=by
 unfold binB at h
 refine⟨?_,?_,?_⟩
 all_goals
  refine Classical.byContradiction fun q=>h ?_
  unfold bin2
  rw[if_neg q]
  simp
theorem zlc:∀e,e<20→∀f:Nat,f<3→1≤exN e f→∀j,j<3→exN (dnN e f) j=if j=f then exN e j-1 else exN e j:=by decide
theorem zkI {P:Nat→Int} {c:Int} {n m:Nat→Nat} {Y:Nat→Int} (hP:∀e,e<20→P e=c*binB n e Y) {f:Nat} (hf:f<3) (hm:∀j,j<3→m j=if j=f then n j+1 else n j) (hn:n f≤2) {b:Int} (hb:Y f = -b) {e:Nat} (he:e<20):prV P f b e=c*binB m e Y:=by
 have x3:=(zaE e he f hf).2
 have pa:=zoh hn x3 (Y f)
 have m0:=hm 0 (by decide)
 have m1:=hm 1 (by decide)
 have m2:=hm 2 (by decide)
 have e1:prV P f b e=Y f*P e+(if 1≤exN e f then P (dnN e f) else 0):=by
  unfold prV prR
  rw[if_pos he,hb]
  congr 1
  ·grind
  ·by_cases q:1≤exN e f
   ·have:=(zhm e he f hf q).2.1
    rw[if_pos ⟨q,by omega⟩,if_pos q]
   ·rw[if_neg q,if_neg fun z=>q z.1]
 have e2:(if 1≤exN e f then P (dnN e f) else 0)=c*(if 1≤exN e f then binB n (dnN e f) Y else 0):=by
  split
  ·rename_i q
   have:=(zhm e he f hf q).2.1
   exact hP _ (by omega)
  ·rw[Int.mul_zero]
 rw[e1,e2,hP e he]
 have key:binB m e Y=Y f*binB n e Y+(if 1≤exN e f then binB n (dnN e f) Y else 0):=by
  unfold binB
  obtain rfl|rfl|rfl:=zb1 hf
  all_goals
   simp only[Nat.reduceEqDiff,↓reduceIte] at m0 m1 m2
   rw[m0,m1,m2,pa]
   split
   ·rename_i q
    have d0:=zlc e he _ hf q 0 (by decide)
    have d1:=zlc e he _ hf q 1 (by decide)
    have d2:=zlc e he _ hf q 2 (by decide)
    simp only[↓reduceIte,Nat.reduceEqDiff] at d0 d1 d2
    rw[d0,d1,d2]
    grind
   ·grind
 rw[key]
 grind
end Go.Eng
namespace Go.Eng
theorem zlT {c:Nat→Int} {U:Nat→FQ}:pf E0 409 [aI 20 c,fqP (U 0),fqP (U 1),fqP (U 2)]=some (.tu [fqP (evR c U),.i .i64 (evE c U)]):=by
 by_cases hc:okC c
 ·exact zlS hc
 ·have e1:evE c U=1:=if_neg hc
  have e2:evR c U=fq0:=by unfold evR;rw[e1];rfl
  rw[e1,e2]
  exact zlR hc _ _ _
theorem znu {f:FQ} {n d:Int} {k:Nat} (h:f.is n d) (hd:d≠0) (hn:tlen n.natAbs≤k) (hl:tlen d.natAbs≤k) (hk:k<1230):fsz k f:=by
 obtain⟨g,g1,g2,g3⟩:=zny hd hn hl hk
 obtain rfl:f=g:=zlv hd hd h (zhU hd g1 g2) rfl
 exact g3
theorem zhT {f:FQ} {n d k:Int} (hk:k≠0) (h:f.is (n*k) (d*k)):f.is n d:=by
 have h:f.p.v*(d*k)=n*k*f.q.v:=h
 show f.p.v*d=n*f.q.v
 refine Int.eq_of_mul_eq_mul_right hk ?_
 rw[Int.mul_assoc,h]
 grind
def pP (U:Nat→FQ):Nat→Int:=fun j=>(U j).p.v
def qQ (U:Nat→FQ):Nat→Int:=fun j=>(U j).q.v
theorem zoB {U:Nat→FQ} {n:Nat} (hU:∀j,j<3→fsz n (U j)):∀(l:List Int) (t:FQ) (x d:Int) (m:Nat),(∀a∈l,a=0∨a=1∨a=2)→t.is x d→fsz m t→m+n*l.length<1230 →
  (tF U t l).is (x*prL (pP U) l) (d*prL (qQ U) l)∧fsz (m+n*l.length) (tF U t l)
 | [],t,x,d,m,_,h1,h2,_=>by
  show t.is (x*1) (d*1)∧fsz (m+n*0) t
  rw[Int.mul_one,Int.mul_one]
  exact⟨h1,h2⟩
 | a::l,t,x,d,m,ha,h1,h2,h3=>by
  have ej:a.toNat<3:=by rcases ha a List.mem_cons_self with rfl|rfl|rfl<;>decide
  rw[List.length_cons,Nat.mul_succ] at h3
  obtain⟨i1,i2,_⟩:=zql t (U a.toNat) h2 (hU _ ej) (by omega) h1 (zlu _)
  obtain⟨k1,k2⟩:=zoB hU l (mF t (U a.toNat)) _ _ (m+n) (fun b hb=>ha b (List.mem_cons_of_mem _ hb)) i1 i2 (by omega)
  have e:tF U t (a::l)=tF U (mF t (U a.toNat)) l:=rfl
  rw[e]
  refine⟨?_,?_⟩
  ·have e1:x*prL (pP U) (a::l)=x*(U a.toNat).p.v*prL (pP U) l:=by rw[prL,←Int.mul_assoc];rfl
   have e2:d*prL (qQ U) (a::l)=d*(U a.toNat).q.v*prL (qQ U) l:=by rw[prL,←Int.mul_assoc];rfl
   rw[e1,e2];exact k1
  ·rw[List.length_cons,Nat.mul_succ]
   exact⟨Nat.le_trans k2.1 (by omega),Nat.le_trans k2.2 (by omega)⟩
def coV (Q:Nat→Int) (i:Nat):Int:=Q 0^(3-exN i 0)*Q 1^(3-exN i 1)*Q 2^(3-exN i 2)
def dnV (Q:Nat→Int):Int:=Q 0^3*Q 1^3*Q 2^3
theorem zq1 (x:Int) {e:Nat} (h:e≤3):x^e*x^(3-e)=x^3:=by rw[←Int.pow_add];congr 1;omega
theorem znD (Q:Nat→Int) {i:Nat} (h:i<20):moV Q i*coV Q i=dnV Q:=by
 have h0:=zq1 (Q 0) (zaE i h 0 (by decide)).2
 have h1:=zq1 (Q 1) (zaE i h 1 (by decide)).2
 have h2:=zq1 (Q 2) (zaE i h 2 (by decide)).2
 have e:moV Q i=1*Q 0^exN i 0*Q 1^exN i 1*Q 2^exN i 2:=rfl
 rw[e]
 unfold coV dnV
 rw[←h0,←h1,←h2]
 grind
theorem zaV {x:Int} {n:Nat} (h:tlen x.natAbs≤n):∀k:Nat,tlen (x^k).natAbs≤1+n*k
 | 0=>by rw[Int.pow_zero];have:=ziW (z:=1) (by decide);omega
 | k+1=>by
  have:=zaV h k
  have m:=zaj (x^k) x
  rw[Int.pow_succ,Nat.mul_succ]
  omega
theorem znc {U:Nat→FQ}:dnV (qQ U)≠0:=by
 have q:∀j,(qQ U j)≠0:=fun j=>by have:=(U j).q1;show (U j).q.v≠0;omega
 exact Int.mul_ne_zero (Int.mul_ne_zero (Int.pow_ne_zero (q 0)) (Int.pow_ne_zero (q 1))) (Int.pow_ne_zero (q 2))
def evS (c P Q:Nat→Int) (i:Nat):Int:=sumT (fun i=>c i*moV P i*coV Q i) i
theorem ziX {c P Q:Nat→Int} {n i:Nat} (hc:okC c) (h:i<20) (hP:∀j,j<3→tlen (P j).natAbs≤n) (hQ:∀j,j<3→tlen (Q j).natAbs≤n):tlen (c i*moV P i*coV Q i).natAbs≤11+9*n:=by
 have ck:Fits64 (c i):=by have:=hc i h;unfold Fits64;omega
 have a0:=zks ck
 have e:moV P i=1*P 0^exN i 0*P 1^exN i 1*P 2^exN i 2:=rfl
 have d0:=(zaE i h 0 (by decide)).2
 have d1:=(zaE i h 1 (by decide)).2
 have d2:=(zaE i h 2 (by decide)).2
 have p0:=zaV (hP 0 (by decide)) (exN i 0)
 have p1:=zaV (hP 1 (by decide)) (exN i 1)
 have p2:=zaV (hP 2 (by decide)) (exN i 2)
 have q0:=zaV (hQ 0 (by decide)) (3-exN i 0)
 have q1:=zaV (hQ 1 (by decide)) (3-exN i 1)
 have q2:=zaV (hQ 2 (by decide)) (3-exN i 2)
 have s0:n*exN i 0+n*(3-exN i 0)=n*3:=by rw[←Nat.mul_add];congr 1;omega
 have s1:n*exN i 1+n*(3-exN i 1)=n*3:=by rw[←Nat.mul_add];congr 1;omega
 have s2:n*exN i 2+n*(3-exN i 2)=n*3:=by rw[←Nat.mul_add];congr 1;omega
 rw[e,Int.one_mul]
 unfold coV
 generalize exN i 0=x0 at *
 generalize exN i 1=x1 at *
 generalize exN i 2=x2 at *
 have m1:=zaj (P 0^x0) (P 1^x1)
 have m2:=zaj (P 0^x0*P 1^x1) (P 2^x2)
 have m3:=zaj (c i) (P 0^x0*P 1^x1*P 2^x2)
 have m4:=zaj (Q 0^(3-x0)) (Q 1^(3-x1))
 have m5:=zaj (Q 0^(3-x0)*Q 1^(3-x1)) (Q 2^(3-x2))
 have m6:=zaj (c i*(P 0^x0*P 1^x1*P 2^x2)) (Q 0^(3-x0)*Q 1^(3-x1)*Q 2^(3-x2))
 omega
theorem zou {c:Nat→Int} {U:Nat→FQ} {n:Nat} (hc:okC c) (hn:n≤76) (hU:∀j,j<3→fsz n (U j)):∀i,i≤20→(sF c U i).is (evS c (pP U) (qQ U) i) (dnV (qQ U))∧tlen (evS c (pP U) (qQ U) i).natAbs≤12+9*n+i∧fsz 750 (sF c U i)
 | 0,_=>by
  have z:tlen (0:Int).natAbs=0:=by rw[Int.natAbs_zero,zbh]
  refine⟨?_,?_,?_⟩
  ·show (0:Int)*dnV (qQ U)=0*1
   rw[Int.zero_mul,Int.zero_mul]
  ·show tlen (0:Int).natAbs≤_
   omega
  ·refine⟨?_,?_⟩
   ·show tlen (0:Int).natAbs≤750;omega
   ·show tlen (1:Int).natAbs≤750
    have:=ziW (z:=1) (by decide);omega
 | i+1,hi=>by
  obtain⟨h1,h2,h3⟩:=zou hc hn hU i (by omega)
  have es:evS c (pP U) (qQ U) (i+1)=evS c (pP U) (qQ U) i+c i*moV (pP U) i*coV (qQ U) i:=rfl
  have tt:tlen (c i*moV (pP U) i*coV (qQ U) i).natAbs≤11+9*n:=ziX (P:=pP U) (Q:=qQ U) (i:=i) (n:=n) hc (by omega) (fun j hj=>(hU j hj).1) (fun j hj=>(hU j hj).2)
  have ta:=zct (evS c (pP U) (qQ U) i) (c i*moV (pP U) i*coV (qQ U) i)
  have td:tlen (dnV (qQ U)).natAbs≤3+9*n:=by
   have a:=zaV (hU 0 (by decide)).2 3
   have b:=zaV (hU 1 (by decide)).2 3
   have d:=zaV (hU 2 (by decide)).2 3
   have m1:=zaj (qQ U 0^3) (qQ U 1^3)
   have m2:=zaj (qQ U 0^3*qQ U 1^3) (qQ U 2^3)
   unfold dnV
   have a:tlen (qQ U 0^3).natAbs≤1+n*3:=a
   have b:tlen (qQ U 1^3).natAbs≤1+n*3:=b
   have d:tlen (qQ U 2^3).natAbs≤1+n*3:=d
   omega
  by_cases c0:c i=0
  ·have hs:sF c U (i+1)=sF c U i:=if_pos c0
   rw[hs,es,c0,Int.zero_mul,Int.zero_mul,Int.add_zero]
   exact⟨h1,by omega,h3⟩
  ·have hs:sF c U (i+1)=aF (sF c U i) (tF U (whQ (c i)) (facL i)):=if_neg c0
   have ck:Fits64 (c i):=by have:=hc i (by omega);unfold Fits64;omega
   obtain⟨w1,w2⟩:=zk2 ck
   obtain⟨f1,f2,_⟩:=zcN i (by omega)
   have nl:n*(facL i).length≤n*3:=Nat.mul_le_mul_left _ f2
   obtain⟨t1,t2⟩:=zoB hU (facL i) (whQ (c i)) _ _ 5 f1 w1 w2 (by omega)
   rw[zhH _ (show i<20 by omega),zhH _ (show i<20 by omega),Int.one_mul] at t1
   have t2:fsz 233 (tF U (whQ (c i)) (facL i)):=⟨Nat.le_trans t2.1 (by omega),Nat.le_trans t2.2 (by omega)⟩
   obtain⟨a1,_,_⟩:=zps _ _ h3 t2 (by omega) h1 t1
   have mo:=znD (qQ U) (show i<20 by omega)
   have mz:moV (qQ U) i≠0:=fun z=>znc (U:=U) (by rw[←mo,z,Int.zero_mul])
   have a2:(aF (sF c U i) (tF U (whQ (c i)) (facL i))).is (evS c (pP U) (qQ U) (i+1)) (dnV (qQ U)):=by
    refine zhT mz ?_
    rw[es]
    have e:(evS c (pP U) (qQ U) i+c i*moV (pP U) i*coV (qQ U) i)*moV (qQ U) i=evS c (pP U) (qQ U) i*moV (qQ U) i+c i*moV (pP U) i*dnV (qQ U):=by rw[←mo];grind
    rw[e];exact a1
   rw[hs]
   refine⟨a2,by rw[es];omega,znu a2 znc (by rw[es];omega) (by omega) (by decide)⟩
end Go.Eng
namespace Go.Eng
def cnt (l:List Int):Nat→Nat:=fun j=>l.count (j:Int)
def chP (c:Int) (Y:Nat→Int) (l:List Int):Nat→Int:=fun e=>c*binB (cnt l) e Y
theorem zf4:∀l:List Int,cnt l 0+cnt l 1+cnt l 2≤l.length
 | []=>by decide
 | a::l=>by
  have ih:l.count (0:Int)+l.count (1:Int)+l.count (2:Int)≤l.length:=zf4 l
  show (a::l).count (0:Int)+(a::l).count (1:Int)+(a::l).count (2:Int)≤_
  simp only[List.count_cons,List.length_cons]
  by_cases h0:a=0
  ·subst h0;simp;omega
  ·by_cases h1:a=1
   ·subst h1;simp;omega
   ·by_cases h2:a=2
    ·subst h2;simp;omega
    ·simp[h0,h1,h2];omega
theorem zpP (z:Nat):0≤chE z∧chE z≤3:=by
 by_cases h:z<16
 ·have:∀z,z<16→0≤chE z∧chE z≤3:=by decide
  exact this z h
 ·have:chE z=0:=by
   unfold chE
   rw[List.getD,List.getElem?_eq_none (by show 16≤z;omega)];rfl
  omega
theorem zfk {n k m:Nat} {y:Int} (hy:tlen y.natAbs≤m):tlen (bin2 n k y).natAbs≤2+m*n:=by
 unfold bin2
 split
 ·have c:=zpP (n*4+k)
  have c1:=ziW (z:=chE (n*4+k)) (by omega)
  have p:=zaV hy (n-k)
  have e:=zaj (chE (n*4+k)) (y^(n-k))
  have:m*(n-k)≤m*n:=Nat.mul_le_mul_left _ (Nat.sub_le _ _)
  omega
 ·rw[Int.natAbs_zero,zbh];omega
theorem zf1 {c:Int} {Y:Nat→Int} {l:List Int} (hc:Fits64 c) (hY:∀j,tlen (Y j).natAbs≤5) (hl:l.length≤3) (e:Nat):tlen (chP c Y l e).natAbs≤30:=by
 have k:=zf4 l
 have c5:=zks hc
 have b0:=zfk (n:=cnt l 0) (k:=exN e 0) (hY 0)
 have b1:=zfk (n:=cnt l 1) (k:=exN e 1) (hY 1)
 have b2:=zfk (n:=cnt l 2) (k:=exN e 2) (hY 2)
 unfold chP binB
 generalize bin2 (cnt l 0) (exN e 0) (Y 0)=x0 at *
 generalize bin2 (cnt l 1) (exN e 1) (Y 1)=x1 at *
 generalize bin2 (cnt l 2) (exN e 2) (Y 2)=x2 at *
 have m1:=zaj x0 x1
 have m2:=zaj (x0*x1) x2
 have m3:=zaj c (x0*x1*x2)
 omega
theorem zdb (c:Int) (Y:Nat→Int):∀e,e<20→chP c Y [] e=upd zF 0 c e:=fun e he=>by
 have d:∀e,e<20→(e=0∧exN e 0=0∧exN e 1=0∧exN e 2=0)∨(e≠0∧(1≤exN e 0∨1≤exN e 1∨1≤exN e 2)):=by decide
 have cz:cnt []=fun _=>0:=rfl
 unfold chP binB
 rw[cz]
 rcases d e he with⟨rfl,h0,h1,h2⟩|⟨h,h'⟩
 ·rw[h0,h1,h2,zbl]
  simp[bin2,chE,chooI]
 ·rw[zbJ h]
  have:bin2 0 (exN e 0) (Y 0)=0∨bin2 0 (exN e 1) (Y 1)=0∨bin2 0 (exN e 2) (Y 2)=0:=by
   rcases h' with q|q|q
   ·exact .inl (if_neg (by omega))
   ·exact .inr (.inl (if_neg (by omega)))
   ·exact .inr (.inr (if_neg (by omega)))
  show _=(0:Int)
  rcases this with z|z|z<;>rw[z]<;>simp
theorem zdN (c:Int) (Y:Nat→Int) {i:Nat} (h:i<20) (e:Nat):chP c Y (facL i) e=c*binB (exN i) e Y:=by
 obtain⟨_,_,h2,h3,h4⟩:=zcN i h
 unfold chP binB cnt
 rw[h2,h3,h4];rfl
theorem zef {c:Int} {Y:Nat→Int} {l:List Int} (hl:l.length≤2) {f:Nat} (hf:f<3) {b:Int} (hb:Y f = -b):∀e,e<20→prV (chP c Y l) f b e=chP c Y (l++[(f:Int)]) e:=fun e he=>by
 have k:=zf4 l
 refine zkI (n:=cnt l) (m:=cnt (l++[(f:Int)])) (fun _ _=>rfl) hf (fun j hj=>?_) ?_ hb he
 ·unfold cnt
  rw[List.count_append,List.count_cons,List.count_nil]
  have e:((f:Int)==(j:Int))=decide (j=f):=by rw[Bool.eq_iff_iff];simp;omega
  rw[e]
  by_cases q:j=f
  ·subst q;simp
  ·simp[q]
 ·obtain rfl|rfl|rfl:=zb1 hf<;>omega
theorem zdc {c:Int} {Y:Nat→Int} {l:List Int} (hl:l.length≤2):∀e,e<20→chP c Y l e≠0→degN e≤2:=fun e _ h=>by
 have k:=zf4 l
 obtain⟨a,b,d⟩:=zfW (n:=cnt l) (e:=e) (Y:=Y) fun q=>h (by unfold chP;rw[q,Int.mul_zero])
 unfold degN
 omega
theorem zh5 {n:Nat} {Z W:Nat→Int} (h:∀e,e<n→Z e=W e):nsP n Z=nsP n W:=by
 unfold nsP
 congr 1
 exact List.map_congr_left fun e he=>by rw[h e (List.mem_range.1 he)]
end Go.Eng
namespace Go.Eng
def cL:Nat→Int:=fun e=>[2,3,0,0,0,0,-1].getD e 0
theorem zje:okC cL:=by unfold okC;decide
theorem zmX:[PV.i .i64 2,.i .i64 3,.i .i64 0,.i .i64 0,.i .i64 0,.i .i64 0,.i .i64 (-1),.i .i64 0,.i .i64 0,.i .i64 0,.i .i64 0,.i .i64 0,.i .i64 0,.i .i64 0,.i .i64 0,.i .i64 0,.i .i64 0,.i .i64 0,.i .i64 0,.i .i64 0]=cs 20 cL:=rfl
theorem zjW {n:Int} (h:Fits64 n):pf E0 410 [.i .i64 n]=some (fqP (whQ n)):=by
 have o:=zk3 h
 refine zab (xf:=zuK) rfl (by simp[zuK]) ?_
 simp only[zuK]
 simp(disch:=omega)only[go_sem,seval,wqq,o]
theorem zdh {f:FQ} (h1:f.p.v.natAbs≤4611686018427387904) (h2:f.q.v.natAbs≤4611686018427387904):fwD f:=by
 have a:=zcm (k:=f.p.v.natAbs) (n:=63) (by omega)
 have b:=zcm (k:=f.q.v.natAbs) (n:=63) (by omega)
 unfold fwD
 omega
theorem zjC:∃h x:FQ,pf E0 17 [.i .i64 1,.i .i64 2]=some (.tu [fqP h,.i .i64 0])∧pf E0 409 [aI 20 cL,fqP h,fqP fq0,fqP (whQ 4)]=some (.tu [fqP x,.i .i64 0])∧pf E0 16 [fqP x]=some (.s [51,47,50]):=by
 obtain⟨h,h1,h2,ho⟩:=zn9 (p:=1) (q:=2) (by decide) (by decide) (by decide)
 have l1:lowP 1 2=1∧lowQ 1 2=2:=zgs (p:=1) (q:=2) (by decide) (by decide)
 have h1:=h1.trans l1.1
 have h2:=h2.trans l1.2
 have hz:fsz 5 h:=⟨by rw[h1];exact zaC (by decide),by rw[h2];exact zaC (by decide)⟩
 obtain⟨w1,w2⟩:=zmD (n:=4) (by decide)
 obtain⟨_,wz⟩:=zk2 (n:=4) (by decide)
 have fz:fsz 5 fq0:=⟨by show tlen (0:Int).natAbs≤5;exact zaC (by decide),by show tlen (1:Int).natAbs≤5;exact zaC (by decide)⟩
 have U3:∀j,j<3→fsz 5 (s3 h fq0 (whQ 4) j):=fun j hj=>by
  obtain rfl|rfl|rfl:=zb1 hj
  ·exact hz
  ·exact fz
  ·exact wz
 have ev:=zlT (c:=cL) (U:=s3 h fq0 (whQ 4))
 have e0:evE cL (s3 h fq0 (whQ 4))=0:=by
  unfold evE
  rw[if_pos zje,if_pos fun j hj=>?_]
  obtain rfl|rfl|rfl:=zb1 hj
  ·exact zdh (by show h.p.v.natAbs≤_;rw[h1];decide) (by show h.q.v.natAbs≤_;rw[h2];decide)
  ·exact zdh (by show (0:Int).natAbs≤_;decide) (by show (1:Int).natAbs≤_;decide)
  ·exact zdh (by show (whQ 4).p.v.natAbs≤_;rw[w1];decide) (by show (whQ 4).q.v.natAbs≤_;rw[w2];decide)
 have e1:evR cL (s3 h fq0 (whQ 4))=sF cL (s3 h fq0 (whQ 4)) 20:=if_pos e0
 rw[e0,e1] at ev
 obtain⟨i1,_,_⟩:=zou (c:=cL) (U:=s3 h fq0 (whQ 4)) (n:=5) zje (by decide) U3 20 (by decide)
 have p3:pP (s3 h fq0 (whQ 4))=s3 1 0 4:=funext fun j=>by
  unfold pP s3
  split
  ·exact h1
  ·split
   ·rfl
   ·exact w1
 have q3:qQ (s3 h fq0 (whQ 4))=s3 2 1 1:=funext fun j=>by
  unfold qQ s3
  split
  ·exact h2
  ·split
   ·rfl
   ·exact w2
 rw[p3,q3] at i1
 have v1:evS cL (s3 1 0 4) (s3 2 1 1) 20=12:=by decide
 have v2:dnV (s3 2 1 1)=8:=by decide
 rw[v1,v2] at i1
 obtain⟨x1,x2⟩:=znv (p:=3) (q:=2) (by decide) (by decide) (by decide) i1 (by decide)
 have d3:decI 3=[51]:=(zkr (v:=3) (n:=0) rfl (by decide) (by decide)).trans rfl
 have d2:decI 2=[50]:=(zkr (v:=2) (n:=0) rfl (by decide) (by decide)).trans rfl
 have s1:=zoz _ (t:=[51,47,50]) x1 x2 (by unfold ftx;rw[if_neg (by decide),d3,d2];rfl)
 exact⟨h,_,ho,ev,s1⟩
theorem zjD:pf E0 407 [aI 20 cL]=some (.tu [aI 60 (grI cL 20),.i .i64 0]):=by
 have g:=zn2 cL
 have e0:grE cL=0:=by
  unfold grE
  rw[if_pos zje,if_pos (by unfold okC;decide)]
 have e1:grV cL=grI cL 20:=if_pos e0
 rw[e0,e1] at g
 exact g
def sL:Nat→Int:=fun e=>[-1,3,0,1,0,0,-1].getD e 0
theorem zjE:pf E0 396 [aI 20 cL,.i .i64 1,.i .i64 0,.i .i64 0]=some (.tu [aI 20 sL,.i .i64 0]):=by
 have g:=zey cL (x:=1) (y:=0) (z:=0) (by decide) (by decide) (by decide)
 have ok:okC (shS cL (s3 (-1) (-0) (-0)) 20):=by unfold okC;decide
 have e0:shE cL (s3 (-1) (-0) (-0))=0:=by unfold shE;rw[if_pos zje,if_pos ok]
 have e1:shV cL (s3 (-1) (-0) (-0))=shS cL (s3 (-1) (-0) (-0)) 20:=if_pos e0
 have e2:aI 20 (shS cL (s3 (-1) (-0) (-0)) 20)=aI 20 sL:=zeN (by decide)
 rw[e0,e1,e2] at g
 exact g
def gL:Nat→Int:=fun e=>[3,0,0,-1].getD e 0
theorem zp9:[PV.i .i64 3,.i .i64 0,.i .i64 0,.i .i64 (-1),.i .i64 0,.i .i64 0,.i .i64 0,.i .i64 0,.i .i64 0,.i .i64 0,.i .i64 0,.i .i64 0,.i .i64 0,.i .i64 0,.i .i64 0,.i .i64 0,.i .i64 0,.i .i64 0,.i .i64 0,.i .i64 0]=cs 20 gL:=rfl
theorem zq7:[PV.i .i64 (-1),.i .i64 3,.i .i64 0,.i .i64 1,.i .i64 0,.i .i64 0,.i .i64 (-1),.i .i64 0,.i .i64 0,.i .i64 0,.i .i64 0,.i .i64 0,.i .i64 0,.i .i64 0,.i .i64 0,.i .i64 0,.i .i64 0,.i .i64 0,.i .i64 0,.i .i64 0]=cs 20 sL:=rfl
theorem znA:(cs 60 (grI cL 20)).take 20=cs 20 gL:=by
 have h:=zdO (n:=60) (grI cL 20) (off:=0) (k:=20) (by decide)
 rw[List.drop_zero] at h
 rw[h]
 exact zf5 (by decide)
theorem zjp (X:Nat→Int):eqaP [1,1,1,1,1,1,1,1,1,1,1,1,1,1,1,1,1,1,1,1] (aI 20 X) (aI 20 X)=some true:=zm8 20 X
theorem zta:dgR cL 20=2:=by decide
set_option maxHeartbeats 8000000 in
theorem zjR:pf E0 400 []=some (.b true):=by
 obtain⟨h,x,ho,ev,s1⟩:=zjC
 have gr:=zjD
 have sh:=zjE
 have dg:=zex cL
 rw[zta] at dg
 rw[zll] at ev
 have w4:=zjW (n:=4) (by decide)
 refine zab (xf:=zuB) rfl (by simp[zuB]) ?_
 simp only[zuB]
 simp(disch:=omega)only[go_sem,seval,wqq,ho,zmX,z60]
 refine zaP [1,2] rfl (by simp only[go_sem,seval]) ?_
 simp(disch:=omega)only[go_sem,seval,wqq,w4,zll,ev,z60,gr,sh,s1,dg,zp9,zq7,zmX,znA,zjp]
end Go.Eng
namespace Go.Eng
theorem zas {f g:Nat→Int}:∀{n:Nat},(∀i,i<n→f i=g i)→sumT f n=sumT g n
 | 0,_=>rfl
 | n+1,h=>by
  show sumT f n+f n=sumT g n+g n
  rw[zas (n:=n) fun i hi=>h i (by omega),h n (by omega)]
theorem zmp {x y z:Int} (hx:Fits64 x) (hy:Fits64 y) (hz:Fits64 z) (j:Nat):Fits64 (s3 x y z j):=by
 unfold s3;split
 ·exact hx
 ·split
  ·exact hy
  ·exact hz
end Go.Eng
namespace Go.Eng
theorem ziP {c Y:Nat→Int} (hc:okC c) (hY:∀j,tlen (Y j).natAbs≤5) (k:Nat):∀i,i≤20→tlen (shS c Y i k).natAbs≤31+i
 | 0,_=>by show tlen (0:Int).natAbs≤_;rw[Int.natAbs_zero,zbh];omega
 | i+1,hi=>by
  have ih:=ziP hc hY k i (by omega)
  have ck:Fits64 (c i):=by have:=hc i (by omega);unfold Fits64;omega
  have t:=zf1 ck hY (zcN i (by omega)).2.1 k
  rw[zdN _ _ (by omega),←zcG] at t
  have a:=zct (shS c Y i k) (shT c Y k i)
  show tlen (shS c Y i k+shT c Y k i).natAbs≤_
  omega
set_option maxHeartbeats 16000000 in
theorem ziq {c:Nat→Int} (hc:okC c) {x y z:Int} (hx:Fits64 x) (hy:Fits64 y) (hz:Fits64 z) {Y:Nat→Int} (hY:Y=s3 (-x) (-y) (-z)):pf E0 397 [aI 20 c,.i .i64 x,.i .i64 y,.i .i64 z]=some (.tu [aI 20 (shV c Y),.i .i64 (shE c Y)]):=by
 have va:=zcR c
 have:vlC c=0:=if_pos hc
 rw[this] at va
 have Yl:∀j,tlen (Y j).natAbs≤5:=fun j=>by
  rw[hY];unfold s3;split
  ·rw[Int.natAbs_neg];exact zks hx
  ·split
   ·rw[Int.natAbs_neg];exact zks hy
   ·rw[Int.natAbs_neg];exact zks hz
 have Sl:=fun k i hi=>ziP hc Yl k i hi
 obtain⟨A,hA⟩:=zfL [some ⟨cs 20 c,true,0⟩,some ⟨cs 20 zF,true,0⟩,some ⟨cs 20 zF,true,0⟩,some ⟨cs 20 zF,true,0⟩,some ⟨[.i .i64 x,.i .i64 y,.i .i64 z],true,0⟩]
 rw[show ([some ⟨cs 20 c,true,0⟩,some ⟨cs 20 zF,true,0⟩,some ⟨cs 20 zF,true,0⟩,some ⟨cs 20 zF,true,0⟩,some ⟨[.i .i64 x,.i .i64 y,.i .i64 z],true,0⟩]:PM).length+A.length=A.length+5 from Nat.add_comm _ _] at hA
 refine zab (xf:=zt4) rfl (by simp[zt4]) ?_
 simp only[zt4]
 simp(disch:=omega)only[go_sem,seval,wqq,va,z20,zig,hA,List.length_cons,List.length_nil,mG,mG0,sG,sG0,lG,lqq]
 refine zag zvy.eq_1 (fun(i:Nat) fr M=>i≤20∧fr 4=.p 0 0∧fr 8=.p 1 0∧fr 10=.p 2 0∧fr 11=.p 3 0∧fr 12=.sl 4 0 3 3 1∧fr 13=monP∧fr 14=.sl (A.length+5) 0 20 20 2∧fr 15=(PV.i .i64 ((i:Nat):Int))∧∃vs G S,(∀e,e<20→S e=shS c Y i e)∧M=some ⟨cs 20 c,true,0⟩::some ⟨cs 20 zF,true,0⟩::some ⟨cs 20 zF,true,0⟩::some ⟨cs 20 zF,true,0⟩::some ⟨[.i .i64 x,.i .i64 y,.i .i64 z],true,0⟩::(A++some ⟨cg 20 fun e=>nc (S e),true,vs⟩::G)) (fun i=>20-i) ?_ 0 ⟨by omega,by simp only[go_sem,seval],by simp only[go_sem,seval],by simp only[go_sem,seval],by simp only[go_sem,seval],by simp only[go_sem,seval],by simp only[go_sem,seval],by simp only[go_sem,seval],by simp only[go_sem,seval],_,[],zF,fun _ _=>rfl,rfl⟩
 clear hA
 rintro i fr M ⟨hi,f4,f8,f10,f11,f12,f13,f14,f15,vs,G,S,hS,rfl⟩ ih
 rcases Nat.lt_or_ge i 20 with h|h
 ·have q1:((i:Int)<20)=True:=eq_true (by omega)
  have qL:(i<20)=True:=eq_true h
  have ck:Fits64 (c i):=by have:=hc i h;unfold Fits64;omega
  have cg1:=zbj (n:=20) c h
  have co:=zio (c i) ck
  obtain⟨hf,hl,_⟩:=zcN i h
  have mi:=zfF h
  obtain⟨B,hB⟩:=zfL (some ⟨cs 20 c,true,0⟩::some ⟨cs 20 zF,true,0⟩::some ⟨cs 20 zF,true,0⟩::some ⟨cs 20 zF,true,0⟩::some ⟨[.i .i64 x,.i .i64 y,.i .i64 z],true,0⟩::(A++some ⟨cg 20 fun e=>nc (S e),true,vs⟩::G))
  have hn:(some ⟨cs 20 c,true,0⟩::some ⟨cs 20 zF,true,0⟩::some ⟨cs 20 zF,true,0⟩::some ⟨cs 20 zF,true,0⟩::some ⟨[.i .i64 x,.i .i64 y,.i .i64 z],true,0⟩::(A++some ⟨cg 20 fun e=>nc (S e),true,vs⟩::G):PM).length+B.length=A.length+(G.length+B.length+1)+5:=by
   simp only[List.length_cons,List.length_append];omega
  rw[hn] at hB
  have l40:(cg 20 fun _=>nc 0).length=40:=zaX 20 (fun _=>0)
  have st0:psplice (cg 20 fun _=>nc 0) 0 [.b (decide (c i<0)),T (c i).natAbs]=cg 20 fun e=>nc (upd zF 0 (c i) e):=by
   have:=zdM (k:=2) (n:=20) (f:=fun e=>nc (zF e)) (fun _=>rfl) (i:=0) (by decide) (v:=nc (c i)) rfl
   rw[zdy nc] at this
   exact this
  simp(disch:=omega)only[go_sem,seval,wqq,f4,f8,f10,f11,f12,f13,f14,f15,q1,qL,hB,cg1,co,l40,st0,mG,mG0,sG,sG0,lG,lqq]
  refine zag zvH.eq_1 (fun(k:Nat) fr M=>k≤(facL i).length∧fr 4=.p 0 0∧fr 8=.p 1 0∧fr 10=.p 2 0∧fr 11=.p 3 0∧fr 12=.sl 4 0 3 3 1∧fr 13=monP∧fr 14=.sl (A.length+5) 0 20 20 2∧fr 15=(PV.i .i64 ((i:Nat):Int))∧fr 17=(PV.i .i64 ((k:Nat):Int))∧((k=0∧fr 16=.sl (A.length+(G.length+B.length+1)+5) 0 20 20 2∧∃vs vp,M=some ⟨cs 20 c,true,0⟩::some ⟨cs 20 zF,true,0⟩::some ⟨cs 20 zF,true,0⟩::some ⟨cs 20 zF,true,0⟩::some ⟨[.i .i64 x,.i .i64 y,.i .i64 z],true,0⟩::(A++some ⟨cg 20 fun e=>nc (S e),true,vs⟩::(G++(B++[some ⟨cg 20 fun e=>nc (upd zF 0 (c i) e),true,vp⟩]))))∨(0<k∧fr 16=nsP 20 (chP (c i) Y ((facL i).take k))∧∃vs H,M=some ⟨cs 20 c,true,0⟩::some ⟨cs 20 zF,true,0⟩::some ⟨cs 20 zF,true,0⟩::some ⟨cs 20 zF,true,0⟩::some ⟨[.i .i64 x,.i .i64 y,.i .i64 z],true,0⟩::(A++some ⟨cg 20 fun e=>nc (S e),true,vs⟩::H)))) (fun k=>(facL i).length-k) ?_ 0 ⟨by omega,by simp only[go_sem,seval,f4],by simp only[go_sem,seval,f8],by simp only[go_sem,seval,f10],by simp only[go_sem,seval,f11],by simp only[go_sem,seval,f12],by simp only[go_sem,seval,f13],by simp only[go_sem,seval,f14],by simp only[go_sem,seval,f15],by simp only[go_sem,seval],.inl ⟨rfl,by simp only[go_sem,seval],_,_,rfl⟩⟩
  clear f4 f8 f10 f11 f12 f13 f14 f15
  rintro k fr M ⟨hk,f4,f8,f10,f11,f12,f13,f14,f15,f17,hM⟩ ih2
  rcases Nat.lt_or_ge k (facL i).length with h3|h3
  ·have q2:((k:Int)<((facL i).length:Int))=True:=eq_true (by omega)
   have gk:(facL i)[k]?=some (facL i)[k]:=List.getElem?_eq_getElem h3
   have tk:=List.take_succ_eq_append_getElem h3
   have hm:=hf _ (List.getElem_mem h3)
   generalize (facL i)[k]=a at *
   have ik:=zdl gk
   obtain⟨n,hn,n3⟩:∃n:Nat,a=(n:Int)∧n<3:=⟨a.toNat,by omega,by omega⟩
   subst hn
   have nL:(n<3)=True:=eq_true n3
   have bF:=zmp hx hy hz n
   have by3:([.i .i64 x,.i .i64 y,.i .i64 z]:List PV)[n]?=some (.i .i64 (s3 x y z n)):=by
    obtain rfl|rfl|rfl:=zb1 n3<;>rfl
   have hYn:Y n = -(s3 x y z n):=by
    rw[hY]
    obtain rfl|rfl|rfl:=zb1 n3<;>rfl
   have lk:((facL i).take k).length≤2:=by rw[List.length_take];omega
   have pp:=zin (P:=chP (c i) Y ((facL i).take k)) (n:=30) (by decide) (zf1 ck Yl (by omega)) (zdc lk) n3 bF
   rw[zh5 (zef lk n3 hYn),←tk] at pp
   rcases hM with⟨rfl,f16,vs,vp,rfl⟩|⟨k0,f16,vs,H,rfl⟩
   ·have P40:=zaX 20 (upd zF 0 (c i))
    have Pt:List.take 40 (cg 20 fun e=>nc (upd zF 0 (c i) e))=cg 20 fun e=>nc (upd zF 0 (c i) e):=List.take_of_length_le (by omega)
    have fz0:=fun M d=>zf0 M d 20 (upd zF 0 (c i))
    have gr:=zgj 20 (upd zF 0 (c i))
    rw[zh5 (W:=chP (c i) Y []) fun e he=>(zdb _ Y e he).symm] at gr
    rw[List.take_zero] at pp
    have f17:fr 17=.i .i64 0:=f17
    have q2:((0:Int)<((facL i).length:Int))=True:=q2
    have ik:idxP 1 (ints (facL i)) (some 0)=_:=ik
    simp(disch:=omega)only[go_sem,seval,wqq,f4,f8,f10,f11,f12,f13,f14,f15,f16,f17,q1,qL,q2,mi,ik,nL,by3,P40,Pt,fz0,gr,Option.map_some,pp,mG,mG0,sG,sG0,lG,lqq]
    exact ih2 1 _ _ (by omega) ⟨by omega,by simp only[go_sem,seval,f4],by simp only[go_sem,seval,f8],by simp only[go_sem,seval,f10],by simp only[go_sem,seval,f11],by simp only[go_sem,seval,f12],by simp only[go_sem,seval,f13],by simp only[go_sem,seval,f14],by simp only[go_sem,seval,f15],by simp only[go_sem,seval,f17],.inr ⟨by omega,by simp only[go_sem,seval],_,_,rfl⟩⟩
   ·simp(disch:=omega)only[go_sem,seval,wqq,f4,f8,f10,f11,f12,f13,f14,f15,f16,f17,q1,qL,q2,mi,ik,nL,by3,pp,mG,mG0,sG,sG0,lG,lqq]
    exact ih2 (k+1) _ _ (by omega) ⟨by omega,by simp only[go_sem,seval,f4],by simp only[go_sem,seval,f8],by simp only[go_sem,seval,f10],by simp only[go_sem,seval,f11],by simp only[go_sem,seval,f12],by simp only[go_sem,seval,f13],by simp only[go_sem,seval,f14],by simp only[go_sem,seval,f15],by simp only[go_sem,seval,f17];rw[Int.natCast_succ],.inr ⟨by omega,by simp only[go_sem,seval],_,_,rfl⟩⟩
  ·obtain rfl:k=(facL i).length:=by omega
   have q2:(((facL i).length:Int)<((facL i).length:Int))=False:=eq_false (Int.lt_irrefl _)
   rcases hM with⟨hk0,f16,vs,vp,rfl⟩|⟨k0,f16,vs,H,rfl⟩
   ·have hnil:facL i=[]:=List.eq_nil_of_length_eq_zero hk0
    simp(disch:=omega)only[go_sem,seval,wqq,f4,f8,f10,f11,f12,f13,f14,f15,f16,f17,q1,qL,q2,mi,mG,mG0,sG,sG0,lG,lqq]
    refine zag zvb.eq_1 (fun(e:Nat) fr M=>e≤20∧fr 4=.p 0 0∧fr 8=.p 1 0∧fr 10=.p 2 0∧fr 11=.p 3 0∧fr 12=.sl 4 0 3 3 1∧fr 13=monP∧fr 14=.sl (A.length+5) 0 20 20 2∧fr 15=(PV.i .i64 ((i:Nat):Int))∧fr 16=.sl (A.length+(G.length+B.length+1)+5) 0 20 20 2∧fr 18=(PV.i .i64 ((e:Nat):Int))∧∃vs vp R,(∀g,g<20→R g=if g<e then shS c Y (i+1) g else shS c Y i g)∧M=some ⟨cs 20 c,true,0⟩::some ⟨cs 20 zF,true,0⟩::some ⟨cs 20 zF,true,0⟩::some ⟨cs 20 zF,true,0⟩::some ⟨[.i .i64 x,.i .i64 y,.i .i64 z],true,0⟩::(A++some ⟨cg 20 fun e=>nc (R e),true,vs⟩::(G++(B++[some ⟨cg 20 fun e=>nc (upd zF 0 (c i) e),true,vp⟩])))) (fun e=>20-e) ?_ 0 ⟨by omega,by simp only[go_sem,seval,f4],by simp only[go_sem,seval,f8],by simp only[go_sem,seval,f10],by simp only[go_sem,seval,f11],by simp only[go_sem,seval,f12],by simp only[go_sem,seval,f13],by simp only[go_sem,seval,f14],by simp only[go_sem,seval,f15],by simp only[go_sem,seval,f16],by simp only[go_sem,seval],_,_,S,fun g hg=>by rw[if_neg (by omega)];exact hS g hg,rfl⟩
    clear f4 f8 f10 f11 f12 f13 f14 f15 f16
    rintro e fr M ⟨he,f4,f8,f10,f11,f12,f13,f14,f15,f16,f18,vs,vp,R,hR,rfl⟩ ih3
    have R40:=zaX 20 R
    rcases Nat.lt_or_ge e 20 with h2|h2
    ·have q4:((e:Int)<20)=True:=eq_true (by omega)
     have qE:(e<20)=True:=eq_true h2
     have sv:=hR e h2
     rw[if_neg (Nat.lt_irrefl _)] at sv
     have s1:=Sl e i (by omega)
     rw[←sv] at s1
     have qv:upd zF 0 (c i) e=shT c Y e i:=by rw[←zdb _ Y e h2,←hnil,zdN _ _ h,zcG]
     have ql:tlen (upd zF 0 (c i) e).natAbs≤30:=by rw[←zdb _ Y e h2];exact zf1 ck Yl (by decide) e
     have le:(e*2+2≤40)=True:=eq_true (by omega)
     have ldR:=zbF (k:=2) (f:=fun e=>nc (R e)) (fun _=>rfl) h2
     have ldQ:=zbF (k:=2) (f:=fun e=>nc (upd zF 0 (c i) e)) (fun _=>rfl) h2
     have Q40:=zaX 20 (upd zF 0 (c i))
     have pa:=zgC (R e) (upd zF 0 (c i) e) (by omega) (by omega)
     have st:=zdM (k:=2) (f:=fun e=>nc (R e)) (fun _=>rfl) h2 (v:=nc (R e+upd zF 0 (c i) e)) rfl
     rw[zdy nc,zgt (R e+upd zF 0 (c i) e)] at st
     simp(disch:=omega)only[go_sem,seval,wqq,f4,f8,f10,f11,f12,f13,f14,f15,f16,f18,q4,qE,R40,le,ldR,ldQ,Q40,pa,st,zkx,zdV,zeu,mG,mG0,sG,sG0,lG,lqq]
     refine ih3 (e+1) _ _ (by omega) ⟨by omega,by simp only[go_sem,seval,f4],by simp only[go_sem,seval,f8],by simp only[go_sem,seval,f10],by simp only[go_sem,seval,f11],by simp only[go_sem,seval,f12],by simp only[go_sem,seval,f13],by simp only[go_sem,seval,f14],by simp only[go_sem,seval,f15],by simp only[go_sem,seval,f16],by simp only[go_sem,seval,f18];rw[Int.natCast_succ],_,_,_,fun g hg=>?_,rfl⟩
     by_cases eg:g=e
     ·subst eg
      rw[zbl,if_pos (Nat.lt_succ_self g),sv]
      show _=shS c Y i g+shT c Y g i;rw[←qv]
     ·rw[zbJ eg,hR g hg]
      by_cases e1:g<e
      ·rw[if_pos e1,if_pos (by omega)]
      ·rw[if_neg e1,if_neg (by omega)]
    ·obtain rfl:e=20:=by omega
     simp(disch:=omega)only[go_sem,seval,wqq,f4,f8,f10,f11,f12,f13,f14,f15,f16,f18,mG,mG0,sG,sG0,lG,lqq]
     exact ih (i+1) _ _ (by omega) ⟨by omega,by simp only[go_sem,seval,f4],by simp only[go_sem,seval,f8],by simp only[go_sem,seval,f10],by simp only[go_sem,seval,f11],by simp only[go_sem,seval,f12],by simp only[go_sem,seval,f13],by simp only[go_sem,seval,f14],by simp only[go_sem,seval,f15];rw[Int.natCast_succ],_,_,R,fun g hg=>by rw[hR g hg,if_pos hg],rfl⟩
   ·rw[List.take_length] at f16
    simp(disch:=omega)only[go_sem,seval,wqq,f4,f8,f10,f11,f12,f13,f14,f15,f16,f17,q1,qL,q2,mi,mG,mG0,sG,sG0,lG,lqq]
    refine zag zvb.eq_1 (fun(e:Nat) fr M=>e≤20∧fr 4=.p 0 0∧fr 8=.p 1 0∧fr 10=.p 2 0∧fr 11=.p 3 0∧fr 12=.sl 4 0 3 3 1∧fr 13=monP∧fr 14=.sl (A.length+5) 0 20 20 2∧fr 15=(PV.i .i64 ((i:Nat):Int))∧fr 16=nsP 20 (chP (c i) Y (facL i))∧fr 18=(PV.i .i64 ((e:Nat):Int))∧∃vs H R,(∀g,g<20→R g=if g<e then shS c Y (i+1) g else shS c Y i g)∧M=some ⟨cs 20 c,true,0⟩::some ⟨cs 20 zF,true,0⟩::some ⟨cs 20 zF,true,0⟩::some ⟨cs 20 zF,true,0⟩::some ⟨[.i .i64 x,.i .i64 y,.i .i64 z],true,0⟩::(A++some ⟨cg 20 fun e=>nc (R e),true,vs⟩::H)) (fun e=>20-e) ?_ 0 ⟨by omega,by simp only[go_sem,seval,f4],by simp only[go_sem,seval,f8],by simp only[go_sem,seval,f10],by simp only[go_sem,seval,f11],by simp only[go_sem,seval,f12],by simp only[go_sem,seval,f13],by simp only[go_sem,seval,f14],by simp only[go_sem,seval,f15],by simp only[go_sem,seval,f16],by simp only[go_sem,seval],_,_,S,fun g hg=>by rw[if_neg (by omega)];exact hS g hg,rfl⟩
    clear f4 f8 f10 f11 f12 f13 f14 f15 f16
    rintro e fr M ⟨he,f4,f8,f10,f11,f12,f13,f14,f15,f16,f18,vs,H,R,hR,rfl⟩ ih3
    have R40:=zaX 20 R
    rcases Nat.lt_or_ge e 20 with h2|h2
    ·have q4:((e:Int)<20)=True:=eq_true (by omega)
     have qE:(e<20)=True:=eq_true h2
     have sv:=hR e h2
     rw[if_neg (Nat.lt_irrefl _)] at sv
     have s1:=Sl e i (by omega)
     rw[←sv] at s1
     have qv:chP (c i) Y (facL i) e=shT c Y e i:=by rw[zdN _ _ h,zcG]
     have ql:tlen (chP (c i) Y (facL i) e).natAbs≤30:=zf1 ck Yl hl e
     have le:(e*2+2≤40)=True:=eq_true (by omega)
     have ldR:=zbF (k:=2) (f:=fun e=>nc (R e)) (fun _=>rfl) h2
     have ldQ:=zkA (chP (c i) Y (facL i)) h2
     have pa:=zgC (R e) (chP (c i) Y (facL i) e) (by omega) (by omega)
     have st:=zdM (k:=2) (f:=fun e=>nc (R e)) (fun _=>rfl) h2 (v:=nc (R e+chP (c i) Y (facL i) e)) rfl
     rw[zdy nc,zgt (R e+chP (c i) Y (facL i) e)] at st
     simp(disch:=omega)only[go_sem,seval,wqq,f4,f8,f10,f11,f12,f13,f14,f15,f16,f18,q4,qE,R40,le,ldR,ldQ,pa,st,zkx,zdV,zeu,mG,mG0,sG,sG0,lG,lqq]
     refine ih3 (e+1) _ _ (by omega) ⟨by omega,by simp only[go_sem,seval,f4],by simp only[go_sem,seval,f8],by simp only[go_sem,seval,f10],by simp only[go_sem,seval,f11],by simp only[go_sem,seval,f12],by simp only[go_sem,seval,f13],by simp only[go_sem,seval,f14],by simp only[go_sem,seval,f15],by simp only[go_sem,seval,f16],by simp only[go_sem,seval,f18];rw[Int.natCast_succ],_,_,_,fun g hg=>?_,rfl⟩
     by_cases eg:g=e
     ·subst eg
      rw[zbl,if_pos (Nat.lt_succ_self g),sv]
      show _=shS c Y i g+shT c Y g i;rw[←qv]
     ·rw[zbJ eg,hR g hg]
      by_cases e1:g<e
      ·rw[if_pos e1,if_pos (by omega)]
      ·rw[if_neg e1,if_neg (by omega)]
    ·obtain rfl:e=20:=by omega
     simp(disch:=omega)only[go_sem,seval,wqq,f4,f8,f10,f11,f12,f13,f14,f15,f16,f18,mG,mG0,sG,sG0,lG,lqq]
     exact ih (i+1) _ _ (by omega) ⟨by omega,by simp only[go_sem,seval,f4],by simp only[go_sem,seval,f8],by simp only[go_sem,seval,f10],by simp only[go_sem,seval,f11],by simp only[go_sem,seval,f12],by simp only[go_sem,seval,f13],by simp only[go_sem,seval,f14],by simp only[go_sem,seval,f15];rw[Int.natCast_succ],_,_,R,fun g hg=>by rw[hR g hg,if_pos hg],rfl⟩
 ·obtain rfl:i=20:=by omega
  clear ih
  simp(disch:=omega)only[go_sem,seval,wqq,f4,f8,f10,f11,f12,f13,f14,f15,mG,mG0,sG,sG0,lG,lqq]
  have vS:∀e,e<20→S e=shS c Y 20 e:=hS
  have vF:∀e,e<20→tlen (S e).natAbs≤60:=fun e he=>by rw[hS e he];exact Nat.le_trans (Sl e 20 (by decide)) (by decide)
  have hE:shE c Y=shE' c (shS c Y 20):=rfl
  have hV:okC (shS c Y 20)→shV c Y=shS c Y 20:=fun o=>by unfold shV shE;rw[if_pos hc,if_pos o];rfl
  have hW:¬okC (shS c Y 20)→shV c Y=zF:=fun o=>by unfold shV shE;rw[if_pos hc,if_neg o];rfl
  have S40:=zaX 20 S
  generalize shS c Y 20=Z at *
  by_cases ok:okC Z
  ·have e1:shE' c Z=0:=by unfold shE';rw[if_pos hc,if_pos ok]
   rw[hE,e1,hV ok]
   refine zag zva.eq_1 (fun(k:Nat) fr M=>k≤20∧fr 8=.p 1 0∧fr 10=.p 2 0∧fr 14=.sl (A.length+5) 0 20 20 2∧fr 19=(PV.i .i64 ((k:Nat):Int))∧∃b0 b3 b4 f v vs G,(∀e,e<k→f e=Z e)∧M=b0::some ⟨cs 20 zF,true,0⟩::some ⟨cs 20 f,true,v⟩::b3::b4::(A++some ⟨cg 20 fun e=>nc (S e),true,vs⟩::G)) (fun k=>20-k) ?_ 0 ⟨by omega,by simp only[go_sem,seval,f8],by simp only[go_sem,seval,f10],by simp only[go_sem,seval,f14],by simp only[go_sem,seval],_,_,_,zF,_,_,_,fun e he=>by omega,rfl⟩
   clear f4 f8 f10 f11 f12 f13 f14 f15
   rintro k fr M ⟨hk,f8,f10,f14,f19,b0,b3,b4,f,v,vs,G,hf,rfl⟩ ih
   rcases Nat.lt_or_ge k 20 with h2|h2
   ·have q2:((k:Int)<20)=True:=eq_true (by omega)
    have qK:(k<20)=True:=eq_true h2
    have le:(k*2+2≤40)=True:=eq_true (by omega)
    have ld:=zbF (k:=2) (f:=fun e=>nc (S e)) (fun _=>rfl) h2
    have vk:=vS k h2
    have bk:=ok k h2
    have ps:=zgE (z:=S k) (by have:=vF k h2;omega)
    obtain⟨s1,s2⟩:=zd7 (n:=Z k) (by unfold Fits64;omega)
    rw[vk] at ld
    rw[vk,s1,s2] at ps
    have t1:(Z k < -1073741824)=False:=eq_false (by omega)
    have t2:(Z k>1073741824)=False:=eq_false (by omega)
    simp(disch:=omega)only[go_sem,seval,wqq,f8,f10,f14,f19,q2,qK,le,ld,S40,zkx,ps,t1,t2,mG,mG0,sG,sG0,lG,lqq]
    refine ih (k+1) _ _ (by omega) ⟨by omega,by simp only[go_sem,seval,f8],by simp only[go_sem,seval,f10],by simp only[go_sem,seval,f14],by simp only[go_sem,seval,f19];rw[Int.natCast_succ],_,_,_,_,_,_,_,fun e he=>?_,rfl⟩
    unfold upd
    split
    ·rename_i q;rw[q]
    ·exact hf e (by omega)
   ·obtain rfl:k=20:=by omega
    simp(disch:=omega)only[go_sem,seval,wqq,f8,f10,f14,f19,mG,mG0,sG,sG0,lG,lqq]
    rw[zeN hf]
  ·have e1:shE' c Z=5:=by unfold shE';rw[if_pos hc,if_neg ok]
   rw[hE,e1,hW ok]
   refine zag zva.eq_1 (fun(k:Nat) fr M=>k≤20∧(∀e,e<k → -1073741824≤Z e∧Z e≤1073741824)∧fr 8=.p 1 0∧fr 10=.p 2 0∧fr 11=.p 3 0∧fr 14=.sl (A.length+5) 0 20 20 2∧fr 19=(PV.i .i64 ((k:Nat):Int))∧∃b0 b4 f v vs G,M=b0::some ⟨cs 20 zF,true,0⟩::some ⟨cs 20 f,true,v⟩::some ⟨cs 20 zF,true,0⟩::b4::(A++some ⟨cg 20 fun e=>nc (S e),true,vs⟩::G)) (fun k=>20-k) ?_ 0 ⟨by omega,fun e he=>by omega,by simp only[go_sem,seval,f8],by simp only[go_sem,seval,f10],by simp only[go_sem,seval,f11],by simp only[go_sem,seval,f14],by simp only[go_sem,seval],_,_,zF,_,_,_,rfl⟩
   clear f4 f8 f10 f11 f12 f13 f14 f15
   rintro k fr M ⟨hk,hlo,f8,f10,f11,f14,f19,b0,b4,f,v,vs,G,rfl⟩ ih
   have h2:k<20:=by
    rcases Nat.lt_or_ge k 20 with z|z
    ·exact z
    ·obtain rfl:k=20:=by omega
     exact absurd hlo ok
   have q2:((k:Int)<20)=True:=eq_true (by omega)
   have qK:(k<20)=True:=eq_true h2
   have le:(k*2+2≤40)=True:=eq_true (by omega)
   have ld:=zbF (k:=2) (f:=fun e=>nc (S e)) (fun _=>rfl) h2
   have vk:=vS k h2
   have ps:=zgE (z:=S k) (by have:=vF k h2;omega)
   rw[vk] at ld ps
   cases sm:isSmall (Z k) with
   | false =>
    rw[sm] at ps
    simp(disch:=omega)only[go_sem,seval,wqq,f8,f10,f11,f14,f19,q2,qK,le,ld,S40,zkx,ps,mG,mG0,sG,sG0,lG,lqq]
   | true =>
    have s1:small (Z k)=Z k:=by unfold small;rw[sm];rfl
    rw[sm,s1] at ps
    rcases zg5 (Z k < -1073741824) with t1|t1
    ·simp(disch:=omega)only[go_sem,seval,wqq,f8,f10,f11,f14,f19,q2,qK,le,ld,S40,zkx,ps,t1,mG,mG0,sG,sG0,lG,lqq]
    ·rcases zg5 (Z k>1073741824) with t2|t2
     ·simp(disch:=omega)only[go_sem,seval,wqq,f8,f10,f11,f14,f19,q2,qK,le,ld,S40,zkx,ps,t1,t2,mG,mG0,sG,sG0,lG,lqq]
     ·simp(disch:=omega)only[go_sem,seval,wqq,f8,f10,f11,f14,f19,q2,qK,le,ld,S40,zkx,ps,t1,t2,mG,mG0,sG,sG0,lG,lqq]
      have u1:=of_eq_false t1
      have u2:=of_eq_false t2
      refine ih (k+1) _ _ (by omega) ⟨by omega,fun e he=>?_,by simp only[go_sem,seval,f8],by simp only[go_sem,seval,f10],by simp only[go_sem,seval,f11],by simp only[go_sem,seval,f14],by simp only[go_sem,seval,f19];rw[Int.natCast_succ],_,_,_,_,_,_,rfl⟩
      rcases Nat.lt_or_ge e k with z|z
      ·exact hlo e z
      ·obtain rfl:e=k:=by omega
       omega
theorem zip {c:Nat→Int} (h:¬okC c) (x y z:Int):pf E0 397 [aI 20 c,.i .i64 x,.i .i64 y,.i .i64 z]=some (.tu [aI 20 zF,.i .i64 1]):=by
 have va:=zcR c
 have:vlC c=1:=if_neg h
 rw[this] at va
 refine zab (xf:=zt4) rfl (by simp[zt4]) ?_
 simp only[zt4]
 simp(disch:=omega)only[go_sem,seval,wqq,va,z20]
theorem zgD (c:Nat→Int) {x y z:Int} (hx:Fits64 x) (hy:Fits64 y) (hz:Fits64 z):pf E0 397 [aI 20 c,.i .i64 x,.i .i64 y,.i .i64 z]=some (.tu [aI 20 (shV c (s3 (-x) (-y) (-z))),.i .i64 (shE c (s3 (-x) (-y) (-z)))]):=by
 by_cases hc:okC c
 ·exact ziq hc hx hy hz rfl
 ·have e1:shE c (s3 (-x) (-y) (-z))=1:=if_neg hc
  have e2:shV c (s3 (-x) (-y) (-z))=zF:=by unfold shV;rw[e1];rfl
  rw[e1,e2]
  exact zip hc _ _ _
end Go.Eng
namespace Go.Eng
theorem zq2 (P g:Nat→Int) (hP:∀e,e<20→P e≠0→degN e≤2):sumT (fun k=>(if 1≤exN k 0 then P (dnN k 0) else 0)*g k) 20=sumT (fun i=>P i*g (upN i 0)) 20:=by
 have l:sumT (fun k=>(if 1≤exN k 0 then P (dnN k 0) else 0)*g k) 20=((((((((((((((((((((0+0*g 0)+P 0*g 1)+0*g 2)+0*g 3)+P 1*g 4)+P 2*g 5)+P 3*g 6)+0*g 7)+0*g 8)+0*g 9)+P 4*g 10)+P 5*g 11)+P 6*g 12)+P 7*g 13)+P 8*g 14)+P 9*g 15)+0*g 16)+0*g 17)+0*g 18)+0*g 19):=rfl
 have r:sumT (fun i=>P i*g (upN i 0)) 20=((((((((((((((((((((0+P 0*g 1)+P 1*g 4)+P 2*g 5)+P 3*g 6)+P 4*g 10)+P 5*g 11)+P 6*g 12)+P 7*g 13)+P 8*g 14)+P 9*g 15)+P 10*g (upN 10 0))+P 11*g (upN 11 0))+P 12*g (upN 12 0))+P 13*g (upN 13 0))+P 14*g (upN 14 0))+P 15*g (upN 15 0))+P 16*g (upN 16 0))+P 17*g (upN 17 0))+P 18*g (upN 18 0))+P 19*g (upN 19 0)):=rfl
 have z:∀e,e<20→3≤degN e→P e=0:=fun e he hd=>Classical.byContradiction fun q=>by have:=hP e he q;omega
 have z10:=z 10 (by decide) (by decide)
 have z11:=z 11 (by decide) (by decide)
 have z12:=z 12 (by decide) (by decide)
 have z13:=z 13 (by decide) (by decide)
 have z14:=z 14 (by decide) (by decide)
 have z15:=z 15 (by decide) (by decide)
 have z16:=z 16 (by decide) (by decide)
 have z17:=z 17 (by decide) (by decide)
 have z18:=z 18 (by decide) (by decide)
 have z19:=z 19 (by decide) (by decide)
 rw[l,r,z10,z11,z12,z13,z14,z15,z16,z17,z18,z19]
 simp only[Int.zero_mul,Int.add_zero,Int.zero_add]
theorem zq3 (P g:Nat→Int) (hP:∀e,e<20→P e≠0→degN e≤2):sumT (fun k=>(if 1≤exN k 1 then P (dnN k 1) else 0)*g k) 20=sumT (fun i=>P i*g (upN i 1)) 20:=by
 have l:sumT (fun k=>(if 1≤exN k 1 then P (dnN k 1) else 0)*g k) 20=((((((((((((((((((((0+0*g 0)+0*g 1)+P 0*g 2)+0*g 3)+0*g 4)+P 1*g 5)+0*g 6)+P 2*g 7)+P 3*g 8)+0*g 9)+0*g 10)+P 4*g 11)+0*g 12)+P 5*g 13)+P 6*g 14)+0*g 15)+P 7*g 16)+P 8*g 17)+P 9*g 18)+0*g 19):=rfl
 have r:sumT (fun i=>P i*g (upN i 1)) 20=((((((((((((((((((((0+P 0*g 2)+P 1*g 5)+P 2*g 7)+P 3*g 8)+P 4*g 11)+P 5*g 13)+P 6*g 14)+P 7*g 16)+P 8*g 17)+P 9*g 18)+P 10*g (upN 10 1))+P 11*g (upN 11 1))+P 12*g (upN 12 1))+P 13*g (upN 13 1))+P 14*g (upN 14 1))+P 15*g (upN 15 1))+P 16*g (upN 16 1))+P 17*g (upN 17 1))+P 18*g (upN 18 1))+P 19*g (upN 19 1)):=rfl
 have z:∀e,e<20→3≤degN e→P e=0:=fun e he hd=>Classical.byContradiction fun q=>by have:=hP e he q;omega
 have z10:=z 10 (by decide) (by decide)
 have z11:=z 11 (by decide) (by decide)
 have z12:=z 12 (by decide) (by decide)
 have z13:=z 13 (by decide) (by decide)
 have z14:=z 14 (by decide) (by decide)
 have z15:=z 15 (by decide) (by decide)
 have z16:=z 16 (by decide) (by decide)
 have z17:=z 17 (by decide) (by decide)
 have z18:=z 18 (by decide) (by decide)
 have z19:=z 19 (by decide) (by decide)
 rw[l,r,z10,z11,z12,z13,z14,z15,z16,z17,z18,z19]
 simp only[Int.zero_mul,Int.add_zero,Int.zero_add]
theorem zq4 (P g:Nat→Int) (hP:∀e,e<20→P e≠0→degN e≤2):sumT (fun k=>(if 1≤exN k 2 then P (dnN k 2) else 0)*g k) 20=sumT (fun i=>P i*g (upN i 2)) 20:=by
 have l:sumT (fun k=>(if 1≤exN k 2 then P (dnN k 2) else 0)*g k) 20=((((((((((((((((((((0+0*g 0)+0*g 1)+0*g 2)+P 0*g 3)+0*g 4)+0*g 5)+P 1*g 6)+0*g 7)+P 2*g 8)+P 3*g 9)+0*g 10)+0*g 11)+P 4*g 12)+0*g 13)+P 5*g 14)+P 6*g 15)+0*g 16)+P 7*g 17)+P 8*g 18)+P 9*g 19):=rfl
 have r:sumT (fun i=>P i*g (upN i 2)) 20=((((((((((((((((((((0+P 0*g 3)+P 1*g 6)+P 2*g 8)+P 3*g 9)+P 4*g 12)+P 5*g 14)+P 6*g 15)+P 7*g 17)+P 8*g 18)+P 9*g 19)+P 10*g (upN 10 2))+P 11*g (upN 11 2))+P 12*g (upN 12 2))+P 13*g (upN 13 2))+P 14*g (upN 14 2))+P 15*g (upN 15 2))+P 16*g (upN 16 2))+P 17*g (upN 17 2))+P 18*g (upN 18 2))+P 19*g (upN 19 2)):=rfl
 have z:∀e,e<20→3≤degN e→P e=0:=fun e he hd=>Classical.byContradiction fun q=>by have:=hP e he q;omega
 have z10:=z 10 (by decide) (by decide)
 have z11:=z 11 (by decide) (by decide)
 have z12:=z 12 (by decide) (by decide)
 have z13:=z 13 (by decide) (by decide)
 have z14:=z 14 (by decide) (by decide)
 have z15:=z 15 (by decide) (by decide)
 have z16:=z 16 (by decide) (by decide)
 have z17:=z 17 (by decide) (by decide)
 have z18:=z 18 (by decide) (by decide)
 have z19:=z 19 (by decide) (by decide)
 rw[l,r,z10,z11,z12,z13,z14,z15,z16,z17,z18,z19]
 simp only[Int.zero_mul,Int.add_zero,Int.zero_add]
theorem zto (P g:Nat→Int) (hP:∀e,e<20→P e≠0→degN e≤2) {f:Nat} (hf:f<3):sumT (fun k=>(if 1≤exN k f then P (dnN k f) else 0)*g k) 20=sumT (fun i=>P i*g (upN i f)) 20:=by
 obtain rfl|rfl|rfl:=zb1 hf
 ·exact zq2 P g hP
 ·exact zq3 P g hP
 ·exact zq4 P g hP
theorem zc5 (F G:Nat→Int):∀n,sumT (fun k=>F k+G k) n=sumT F n+sumT G n
 | 0=>rfl
 | n+1=>by
  show sumT (fun k=>F k+G k) n+(F n+G n)=sumT F n+F n+(sumT G n+G n)
  rw[zc5 F G n];omega
theorem zeI (a:Int) (F:Nat→Int):∀n,sumT (fun k=>a*F k) n=a*sumT F n
 | 0=>(Int.mul_zero a).symm
 | n+1=>by
  show sumT (fun k=>a*F k) n+a*F n=a*(sumT F n+F n)
  rw[zeI a F n,Int.mul_add]
theorem zcs:∀n,sumT (fun _=>0) n=0
 | 0=>rfl
 | n+1=>by show sumT (fun _=>0) n+0=0;rw[zcs n];rfl
theorem zfb (F:Nat→Nat→Int) (g:Nat→Int) (m:Nat):∀n,sumT (fun k=>sumT (F k) n*g k) m=sumT (fun i=>sumT (fun k=>F k i*g k) m) n
 | 0=>by
  show sumT (fun k=>0*g k) m=0
  rw[zas (g:=fun _=>0) fun i _=>Int.zero_mul _]
  exact zcs m
 | n+1=>by
  show sumT (fun k=>(sumT (F k) n+F k n)*g k) m=sumT (fun i=>sumT (fun k=>F k i*g k) m) n+sumT (fun k=>F k n*g k) m
  rw[←zfb F g m n,←zc5]
  exact zas fun i _=>Int.add_mul ..
def linV (P g:Nat→Int):Int:=sumT (fun k=>P k*g k) 20
theorem zix (P:Nat→Int) (g:Nat→Int) (hP:∀e,e<20→P e≠0→degN e≤2) {f:Nat} (hf:f<3) (b:Int):linV (prV P f b) g = -b*linV P g+linV P (fun i=>g (upN i f)):=by
 have e:∀k,k<20→prV P f b k*g k = -b*(P k*g k)+(if 1≤exN k f then P (dnN k f) else 0)*g k:=fun k hk=>by
  unfold prV prR
  rw[if_pos hk]
  by_cases q:1≤exN k f
  ·have:=(zhm k hk f hf q).2.1
   rw[if_pos ⟨q,by omega⟩,if_pos q];grind
  ·rw[if_neg q,if_neg fun z=>q z.1];grind
 unfold linV
 rw[zas e,zc5,zeI,zto P g hP hf]
theorem zer {P Q g:Nat→Int} (h:∀e,e<20→P e=Q e):linV P g=linV Q g:=zas fun i hi=>by rw[h i hi]
theorem zgp (P g:Nat→Int) (a:Int):linV P (fun k=>a*g k)=a*linV P g:=by
 unfold linV
 rw[←zeI]
 exact zas fun i _=>by grind
theorem zjB (P g h:Nat→Int):linV P (fun k=>g k+h k)=linV P g+linV P h:=by
 unfold linV
 rw[←zc5]
 exact zas fun i _=>by grind
theorem zgq {P g h:Nat→Int} (hP:∀e,e<20→P e≠0→degN e≤2) (H:∀e,e<20→degN e≤2→g e=h e):linV P g=linV P h:=zas fun i hi=>by
 by_cases z:P i=0
 ·show P i*g i=P i*h i
  rw[z,Int.zero_mul,Int.zero_mul]
 ·rw[H i hi (hP i hi z)]
theorem zqn (X:Nat→Int) {i f:Nat} (hi:i<20) (hd:degN i≤2) (hf:f<3):moV X (upN i f)=X f*moV X i:=by
 have h0:=zkb i hi hd f hf 0 (by decide)
 have h1:=zkb i hi hd f hf 1 (by decide)
 have h2:=zkb i hi hd f hf 2 (by decide)
 show 1*X 0^exN (upN i f) 0*X 1^exN (upN i f) 1*X 2^exN (upN i f) 2=X f*(1*X 0^exN i 0*X 1^exN i 1*X 2^exN i 2)
 rw[h0,h1,h2]
 obtain rfl|rfl|rfl:=zb1 hf
 all_goals
  simp only[↓reduceIte,Nat.reduceEqDiff,Int.pow_succ]
  grind
def addV (X Y:Nat→Int):Nat→Int:=fun j=>X j+Y j
theorem zki (c:Int) (X Y:Nat→Int) (l:List Int) (hl:l.length≤3) (ha:∀a∈l,a=0∨a=1∨a=2):∀k,k≤l.length→linV (chP c Y (l.take k)) (moV X)=c*prL (addV X Y) (l.take k)
 | 0,_=>by
  rw[List.take_zero]
  have e:linV (chP c Y []) (moV X)=linV (upd zF 0 c) (moV X):=zer (zdb c Y)
  have m0:moV X 0=1*X 0^0*X 1^0*X 2^0:=rfl
  rw[e]
  unfold linV
  rw[zas (g:=fun k=>if k=0 then c*moV X 0 else 0) fun k _=>by
   unfold upd zF
   by_cases q:k=0
   ·subst q;simp
   ·simp[q]]
  simp[sumT,m0,prL]
 | k+1,hk=>by
  have ih:=zki c X Y l hl ha k (by omega)
  have h3:k<l.length:=by omega
  have tk:=List.take_succ_eq_append_getElem h3
  have hm:=ha _ (List.getElem_mem h3)
  rw[tk,zgK]
  generalize l[k]=a at *
  obtain⟨n,hn,n3⟩:∃n:Nat,a=(n:Int)∧n<3:=⟨a.toNat,by omega,by omega⟩
  subst hn
  have lk:(l.take k).length≤2:=by rw[List.length_take];omega
  rw[zer fun e he=>(zef (b := -(Y n)) lk n3 (by omega) e he).symm,zix _ _ (zdc lk) n3,zgq (zdc lk) (h:=fun i=>X n*moV X i) fun e he hd=>zqn X he hd n3,zgp,ih]
  show _=c*(prL (addV X Y) (l.take k)*(X n+Y n))
  grind
theorem ziQ (c Y:Nat→Int) (g:Nat→Int):linV (shS c Y 20) g=sumT (fun i=>linV (chP (c i) Y (facL i)) g) 20:=by
 have:=zfb (fun k i=>shT c Y k i) g 20 20
 show sumT (fun k=>sumT (shT c Y k) 20*g k) 20=_
 rw[this]
 exact zas fun i hi=>zas fun k _=>by rw[zdN _ _ hi,zcG]
theorem zow (c X Y:Nat→Int):evV (shS c Y 20) X=evV c (addV X Y):=by
 have h:=ziQ c Y (moV X)
 show linV (shS c Y 20) (moV X)=_
 rw[h]
 refine zas fun i hi=>?_
 obtain⟨ha,hl,_⟩:=zcN i hi
 have:=zki (c i) X Y (facL i) hl ha (facL i).length (Nat.le_refl _)
 rw[List.take_length,zhH _ hi] at this
 exact this
end Go.Eng
namespace Go.Eng
theorem zmS (Z:Nat→Int) {i f e:Nat} (hi:i<20) (hd:degN i≤2) (hf:f<3) (he:e<20):binB (exN (upN i f)) e Z=Z f*binB (exN i) e Z+(if 1≤exN e f then binB (exN i) (dnN e f) Z else 0):=by
 have u:exN i f≤2:=by unfold degN at hd;obtain rfl|rfl|rfl:=zb1 hf<;>omega
 have h:=zkI (P:=fun e=>1*binB (exN i) e Z) (c:=1) (n:=exN i) (m:=exN (upN i f)) (Y:=Z) (fun _ _=>rfl) hf (fun j hj=>zkb i hi hd f hf j hj) u (b := -(Z f)) (by omega) he
 rw[Int.one_mul] at h
 rw[←h]
 unfold prV prR
 rw[if_pos he]
 by_cases q:1≤exN e f
 ·have:=(zhm e he f hf q).2.1
  rw[if_pos ⟨q,by omega⟩,if_pos q];grind
 ·rw[if_neg q,if_neg fun z=>q z.1];grind
theorem zm4 (c:Int) (Y Z:Nat→Int) (l:List Int) (hl:l.length≤3) (ha:∀a∈l,a=0∨a=1∨a=2):∀k,k≤l.length→∀e,e<20→linV (chP c Y (l.take k)) (fun i=>binB (exN i) e Z)=chP c (addV Y Z) (l.take k) e
 | 0,_,e,he=>by
  rw[List.take_zero,zdb c _ e he]
  have q:linV (chP c Y []) (fun i=>binB (exN i) e Z)=linV (upd zF 0 c) (fun i=>binB (exN i) e Z):=zer (zdb c Y)
  rw[q]
  have x0:binB (exN 0) e Z=if e=0 then 1 else 0:=by
   have:=zdN 1 Z (i:=0) (by decide) e
   have f0:facL 0=[]:=rfl
   rw[f0,Int.one_mul,zdb 1 Z e he] at this
   rw[←this];rfl
  unfold linV
  rw[zas (g:=fun k=>if k=0 then c*binB (exN 0) e Z else 0) fun k _=>by
   unfold upd zF
   by_cases q:k=0
   ·subst q;simp
   ·simp[q]]
  have:sumT (fun k=>if k=0 then c*binB (exN 0) e Z else 0) 20=c*binB (exN 0) e Z:=by simp[sumT]
  rw[this,x0]
  unfold upd zF
  split<;>simp
 | k+1,hk,e,he=>by
  have ih:=zm4 c Y Z l hl ha k (by omega)
  have h3:k<l.length:=by omega
  have tk:=List.take_succ_eq_append_getElem h3
  have hm:=ha _ (List.getElem_mem h3)
  rw[tk]
  generalize l[k]=a at *
  obtain⟨n,hn,n3⟩:∃n:Nat,a=(n:Int)∧n<3:=⟨a.toNat,by omega,by omega⟩
  subst hn
  have lk:(l.take k).length≤2:=by rw[List.length_take];omega
  have st:=zef (c:=c) (Y:=addV Y Z) (b := -(Y n)-Z n) lk n3 (by show Y n+Z n=_;omega) e he
  rw[zer fun e he=>(zef (b := -(Y n)) lk n3 (by omega) e he).symm,zix _ _ (zdc lk) n3,zgq (zdc lk) (h:=fun i=>Z n*binB (exN i) e Z+(if 1≤exN e n then binB (exN i) (dnN e n) Z else 0)) fun i hi hd=>zmS Z hi hd n3 he,zjB,zgp,ih e he,←st]
  unfold prV prR
  rw[if_pos he]
  by_cases q:1≤exN e n
  ·have:=(zhm e he n n3 q).2.1
   rw[if_pos ⟨q,by omega⟩]
   simp only[if_pos q]
   rw[ih _ (by omega)]
   grind
  ·rw[if_neg fun z=>q z.1]
   simp only[if_neg q]
   have:linV (chP c Y (l.take k)) (fun _=>0)=0:=by
    unfold linV
    rw[zas (g:=fun _=>0) fun i _=>Int.mul_zero _]
    exact zcs 20
   rw[this]
   grind
def zeV (Y:Nat→Int):Nat→Int:=fun j => -(Y j)
theorem zni:∀i,i<20→∀e,e<20→exN i 0=exN e 0→exN i 1=exN e 1→exN i 2=exN e 2→i=e:=by decide
theorem zfV:∀n,n≤3→chE (n*4+n)=1:=by decide
theorem zhq {n k:Nat} (hn:n≤3):bin2 n k 0=if n=k then 1 else 0:=by
 unfold bin2
 by_cases h:n=k
 ·subst h
  rw[if_pos (Nat.le_refl _),if_pos rfl,zfV n hn,Nat.sub_self];rfl
 ·rw[if_neg h]
  by_cases h2:k≤n
  ·rw[if_pos h2,Int.zero_pow (by omega),Int.mul_zero]
  ·rw[if_neg h2]
theorem zpx {i e:Nat} (hi:i<20) (he:e<20) {Z:Nat→Int} (hZ:∀j,Z j=0):binB (exN i) e Z=if i=e then 1 else 0:=by
 unfold binB
 rw[hZ,hZ,hZ,zhq (zaE i hi 0 (by decide)).2,zhq (zaE i hi 1 (by decide)).2,zhq (zaE i hi 2 (by decide)).2]
 by_cases h:i=e
 ·subst h;simp
 ·rw[if_neg h]
  have:=fun a b c=>h (zni i hi e he a b c)
  by_cases h0:exN i 0=exN e 0
  ·by_cases h1:exN i 1=exN e 1
   ·rw[if_neg (show ¬exN i 2=exN e 2 from fun q=>this h0 h1 q),Int.mul_zero]
   ·rw[if_neg h1];simp
  ·rw[if_neg h0];simp
theorem zkU (c:Nat→Int) {e:Nat}:∀n,e<n→sumT (fun i=>c i*if i=e then 1 else 0) n=c e:=by
 intro n
 induction n with
 | zero=>intro h;omega
 | succ n ih =>
  intro h
  show sumT (fun i=>c i*if i=e then 1 else 0) n+c n*(if n=e then 1 else 0)=c e
  by_cases q:n=e
  ·subst q
   rw[if_pos rfl,zas (g:=fun _=>0) fun i hi=>by rw[if_neg (by omega),Int.mul_zero],zcs];omega
  ·rw[if_neg q,ih (by omega)];omega
theorem ziR (c Y:Nat→Int) {e:Nat} (he:e<20):shS (shS c Y 20) (zeV Y) 20 e=c e:=by
 have h1:shS (shS c Y 20) (zeV Y) 20 e=linV (shS c Y 20) (fun i=>binB (exN i) e (zeV Y)):=zas fun i _=>zcG _ _ _ _
 rw[h1,ziQ]
 rw[zas (g:=fun i=>c i*if i=e then 1 else 0) fun i hi=>?_]
 ·exact zkU c 20 he
 ·obtain⟨ha,hl,_⟩:=zcN i hi
  have:=zm4 (c i) Y (zeV Y) (facL i) hl ha (facL i).length (Nat.le_refl _) e he
  rw[List.take_length,zdN _ _ hi,zpx hi he (fun j=>by show Y j + -(Y j)=0;omega)] at this
  exact this
theorem zei (c:Nat→Int):∀n,(∀i,i<n→c i≠0→(degN i:Int)≤dgR c n)∧(dgR c n = -1∨∃i,i<n∧c i≠0∧dgR c n=degN i)
 | 0=>⟨fun i hi=>by omega,.inl rfl⟩
 | n+1=>by
  obtain⟨h1,h2⟩:=zei c n
  by_cases z:c n=0
  ·have e:dgR c (n+1)=dgR c n:=if_pos z
   rw[e]
   refine⟨fun i hi hc=>h1 i (Nat.lt_of_le_of_ne (by omega) fun q=>hc (q ▸ z)) hc,?_⟩
   rcases h2 with h2|⟨i,a,b,d⟩
   ·exact .inl h2
   ·exact .inr ⟨i,by omega,b,d⟩
  ·have e:dgR c (n+1)=if (degN n:Int)>dgR c n then (degN n:Int) else dgR c n:=if_neg z
   rw[e]
   split
   ·rename_i q
    refine⟨fun i hi hc=>?_,.inr ⟨n,by omega,z,rfl⟩⟩
    rcases Nat.lt_or_ge i n with p|p
    ·have:=h1 i p hc;omega
    ·obtain rfl:i=n:=by omega
     exact Int.le_refl _
   ·rename_i q
    refine⟨fun i hi hc=>?_,?_⟩
    ·rcases Nat.lt_or_ge i n with p|p
     ·exact h1 i p hc
     ·obtain rfl:i=n:=by omega
      omega
    ·rcases h2 with h2|⟨i,a,b,d⟩
     ·exfalso;omega
     ·exact .inr ⟨i,by omega,b,d⟩
theorem znw:∀i,i<20→∀e,e<20→leQ i e→degN e≤degN i∧(degN e=degN i→i=e):=by decide
theorem zmQ {i:Nat} (hi:i<20) (Y:Nat→Int):binB (exN i) i Y=1:=by
 have b:∀n y,n≤3→bin2 n n y=1:=fun n y hn=>by
  unfold bin2
  rw[if_pos (Nat.le_refl _),zfV n hn,Nat.sub_self,Int.pow_zero,Int.mul_one]
 unfold binB
 rw[b _ _ (zaE i hi 0 (by decide)).2,b _ _ (zaE i hi 1 (by decide)).2,b _ _ (zaE i hi 2 (by decide)).2];rfl
theorem zkQ (c Y:Nat→Int) {e:Nat} (he:e<20) (h:dgR c 20≤degN e):shS c Y 20 e=c e:=by
 obtain⟨h1,_⟩:=zei c 20
 have:∀i,i<20→shT c Y e i=c i*if i=e then 1 else 0:=fun i hi=>by
  rw[zcG]
  by_cases z:c i=0
  ·rw[z,Int.zero_mul,Int.zero_mul]
  ·by_cases q:i=e
   ·subst q;rw[if_pos rfl,zmQ hi]
   ·rw[if_neg q]
    have:=h1 i hi z
    have b0:binB (exN i) e Y=0:=Classical.byContradiction fun nz=>by
     obtain⟨a,b,d⟩:=zfW nz
     obtain⟨l1,l2⟩:=znw i hi e he ⟨a,b,d⟩
     exact q (l2 (by omega))
    rw[b0]
 unfold shS
 rw[zas this,zkU c 20 he]
theorem zov (c Y:Nat→Int):dgR (shS c Y 20) 20=dgR c 20:=by
 obtain⟨a1,a2⟩:=zei c 20
 obtain⟨b1,b2⟩:=zei (shS c Y 20) 20
 have up:dgR (shS c Y 20) 20≤dgR c 20:=by
  rcases b2 with b2|⟨i,h,hz,d⟩
  ·have : -1≤dgR c 20:=by rcases a2 with a2|⟨_,_,_,d⟩<;>omega
   omega
  ·rcases Int.lt_or_le (dgR c 20) (degN i) with q|q
   ·have t:=zkQ c Y h (by omega)
    rw[t] at hz
    have:=a1 i h hz
    omega
   ·omega
 rcases a2 with a2|⟨i,h,hz,d⟩
 ·have : -1≤dgR (shS c Y 20) 20:=by rcases b2 with b2|⟨_,_,_,d⟩<;>omega
  omega
 ·have t:=zkQ c Y h (by omega)
  have:=b1 i h (by rw[t];exact hz)
  omega
end Go.Eng
namespace Go.Eng
theorem zrc {c:Nat→Int} (hc:okC c) {a b d x y z:Int} (ha : -20<a∧a<20) (hb : -20<b∧b<20) (hd : -20<d∧d<20) (hx : -1000<x∧x<1000) (hy : -1000<y∧y<1000) (hz : -1000<z∧z<1000) (h:shE c (s3 (-a) (-b) (-d))=0) :
  ∃(u:WI),pf E0 398 [aI 20 (shV c (s3 (-a) (-b) (-d))),.i .i64 x,.i .i64 y,.i .i64 z]=some (.tu [wiP u,.i .i64 0])∧pf E0 398 [aI 20 c,.i .i64 (x-a),.i .i64 (y-b),.i .i64 (z-d)]=some (.tu [wiP u,.i .i64 0]) ∧
   pf E0 396 [aI 20 (shV c (s3 (-a) (-b) (-d))),.i .i64 (0-a),.i .i64 (0-b),.i .i64 (0-d)]=some (.tu [aI 20 c,.i .i64 0])∧pf E0 399 [aI 20 (shV c (s3 (-a) (-b) (-d)))]=some (.i .i64 (dgR c 20))∧pf E0 399 [aI 20 c]=some (.i .i64 (dgR c 20)):=by
 have hV:shV c (s3 (-a) (-b) (-d))=shS c (s3 (-a) (-b) (-d)) 20:=if_pos h
 have ok:okC (shS c (s3 (-a) (-b) (-d)) 20):=by
  unfold shE at h
  rw[if_pos hc] at h
  split at h
  ·assumption
  ·cases h
 rw[hV]
 have f:∀n:Int,-2000<n→n<2000→Fits64 n:=fun n h1 h2=>by unfold Fits64;omega
 have i1:=zkD ok (f x (by omega) (by omega)) (f y (by omega) (by omega)) (f z (by omega) (by omega))
 have i2:=zkD hc (f (x-a) (by omega) (by omega)) (f (y-b) (by omega) (by omega)) (f (z-d) (by omega) (by omega))
 have ad:addV (s3 x y z) (s3 (-a) (-b) (-d))=s3 (x-a) (y-b) (z-d):=funext fun j=>by
  unfold addV s3;split
  ·omega
  ·split<;>omega
 rw[zow,ad] at i1
 have bk:=zey (shS c (s3 (-a) (-b) (-d)) 20) (f (0-a) (by omega) (by omega)) (f (0-b) (by omega) (by omega)) (f (0-d) (by omega) (by omega))
 have zz:s3 (-(0-a)) (-(0-b)) (-(0-d))=zeV (s3 (-a) (-b) (-d)):=funext fun j=>by
  unfold zeV s3;split
  ·omega
  ·split<;>omega
 rw[zz] at bk
 have ok2:okC (shS (shS c (s3 (-a) (-b) (-d)) 20) (zeV (s3 (-a) (-b) (-d))) 20):=fun e he=>by rw[ziR c _ he];exact hc e he
 have e2:shE (shS c (s3 (-a) (-b) (-d)) 20) (zeV (s3 (-a) (-b) (-d)))=0:=by unfold shE;rw[if_pos ok,if_pos ok2]
 have v2:shV (shS c (s3 (-a) (-b) (-d)) 20) (zeV (s3 (-a) (-b) (-d)))=shS (shS c (s3 (-a) (-b) (-d)) 20) (zeV (s3 (-a) (-b) (-d))) 20:=if_pos e2
 rw[e2,v2,zeN fun e he=>ziR c _ he] at bk
 have d1:=zex (shS c (s3 (-a) (-b) (-d)) 20)
 rw[zov] at d1
 exact⟨_,i1,i2,bk,d1,zex c⟩
def bN:Nat→Int:=fun e=>[0,0,0,-1073741825].getD e 0
set_option maxHeartbeats 8000000 in
set_option maxRecDepth 10000 in
theorem p_PolyShifts {xs:List Int} (hx:Ints xs) {a b d x y:Int} (fa:Fits64 a) (fb:Fits64 b) (fd:Fits64 d) (fx:Fits64 x) (fy:Fits64 y):pf E0 388 [ints xs,.i .i64 a,.i .i64 b,.i .i64 d,.i .i64 x,.i .i64 y]=some (.b true):=by
 have gp:=zn4 hx
 have hc:=zlp hx
 generalize genP xs=c at *
 have lv:=zjR
 have ta:=za2 a (n:=20) (by decide)
 have tb:=za2 b (n:=20) (by decide)
 have td:=za2 d (n:=20) (by decide)
 have tx:=za2 x (n:=1000) (by decide)
 have ty:=za2 y (n:=1000) (by decide)
 have tz:=za2 x (n:=77) (by decide)
 have ga:Fits64 (a.tmod 20):=by unfold Fits64;omega
 have gb:Fits64 (b.tmod 20):=by unfold Fits64;omega
 have gd:Fits64 (d.tmod 20):=by unfold Fits64;omega
 have p0:=zey c fa fb fd
 have r0:=zgD c fa fb fd
 have p1:=zey c ga gb gd
 have r1:=zgD c ga gb gd
 have pt:=fun h=>zrc hc ta tb td tx ty (z:=x.tmod 77) (by omega) h
 have bad:=zgz (c:=bN) (by unfold okC bN;decide) a b d
 have zb:cs 20 (upd zF 3 (-1073741825))=cs 20 bN:=zf5 (by decide)
 have q0:=zjp (shV c (s3 (-a) (-b) (-d)))
 have q1:=zjp (shV c (s3 (-(a.tmod 20)) (-(b.tmod 20)) (-(d.tmod 20))))
 have qc':=zjp c
 generalize shV c (s3 (-a) (-b) (-d))=V0 at *
 generalize shE c (s3 (-a) (-b) (-d))=E0' at *
 generalize shV c (s3 (-(a.tmod 20)) (-(b.tmod 20)) (-(d.tmod 20)))=V1 at *
 generalize shE c (s3 (-(a.tmod 20)) (-(b.tmod 20)) (-(d.tmod 20)))=E1' at *
 refine zab (xf:=zt8) rfl (by simp[zt8]) ?_
 simp only[zt8]
 simp(disch:=omega)only[go_sem,seval,wqq,gp,zaz,zah]
 refine zay ztV.eq_1 ?_
 rcases zg5 (E0'=0) with k0|k0
 all_goals
  simp(disch:=omega)only[go_sem,seval,wqq,p0,r0,q0,k0]
  refine zay ztV.eq_1 ?_
  by_cases e1:E1'=0
  ·obtain⟨u,i1,i2,bk,d1,d2⟩:=pt e1
   subst e1
   have cm:=zbO u u
   have c0:cmpI u.v u.v=0:=by simp[cmpI]
   rw[c0] at cm
   simp(disch:=omega)only[go_sem,seval,wqq,p1,r1,q1,i1,i2,bk]
   refine zaP [13] rfl (by simp only[go_sem,seval]) ?_
   simp(disch:=omega)only[go_sem,seval,wqq,cm,qc',d1,d2,zhn]
   refine zay ztV.eq_1 ?_
   simp(disch:=omega)only[go_sem,seval,wqq,z20,zb,bad,lv]
  ·have k1:(E1'=0)=False:=eq_false e1
   simp(disch:=omega)only[go_sem,seval,wqq,p1,r1,q1,k1]
   refine zay ztV.eq_1 ?_
   simp(disch:=omega)only[go_sem,seval,wqq,z20,zb,bad,lv]
end Go.Eng
