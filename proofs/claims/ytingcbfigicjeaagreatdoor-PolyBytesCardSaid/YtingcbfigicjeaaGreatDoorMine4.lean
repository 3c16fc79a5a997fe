/- The engine and the contracts on which the statement stands: no conditions of its own. -/
import Derived.Test.YtingcbfigicjeaaGreatDoorMine3
set_option linter.unusedSimpArgs false
set_option linter.unusedVariables false
set_option linter.unusedSectionVars false
namespace Go.Eng
theorem znB (f:FQ):pf E0 64 [fqP f]=some (wiP f.p):=by
 refine zab (xf:=zs6) rfl (by simp[zs6]) ?_
 simp only[zs6]
 simp(disch:=omega)only[go_sem,seval,wqq]
theorem zdI (f:FQ):pf E0 19 [fqP f]=some (wiP f.q):=by
 refine zab (xf:=zs7) rfl (by simp[zs7]) ?_
 simp only[zs7]
 have f1:pf E0 34 [.i .i64 1]=some (wiP wi1):=zbS (n:=1) (by decide)
 have s1:=zjf f.l wi1
 have e:f.l.v+wi1.v=f.q.v:=by show f.q.v-1+1=f.q.v;omega
 have hc:clip f.q.v=f.q:=zbt f.q.lim
 rw[e,hc] at s1
 have m1:=zj9 f.q (lerr f.q.v)
 generalize lerr f.q.v=le at *
 generalize wi1=w1 at *
 simp(disch:=omega)only[go_sem,seval,wqq]
 refine zbQ [3] rfl ?_ ?_
 ·simp(disch:=omega)only[go_sem,seval,wqq,f1,s1,m1]
  exact⟨_,rfl,rfl⟩
 simp(disch:=omega)only[go_sem,seval,wqq,f1,s1,m1]
theorem znC {p q:Int} (hp:Fits64 p) (hq:Fits64 q) (h:q≠0):∃f:FQ,f.p.v=lowP p q∧f.q.v=lowQ p q∧pf E0 17 [.i .i64 p,.i .i64 q]=some (.tu [fqP f,.i .i64 0]):=by
 obtain⟨x,hx,fx⟩:=zhj hp
 obtain⟨y,hy,fy⟩:=zhj hq
 obtain⟨f,h1,h2,fm⟩:=zj5 x y (by rw[hy];exact h)
 rw[hx,hy] at h1 h2
 refine⟨f,h1,h2,?_⟩
 refine zab (xf:=zum) rfl (by simp[zum]) ?_
 simp only[zum]
 simp(disch:=omega)only[go_sem,seval,wqq,fx,fy,fm]
theorem zkN (x y:WI):(x.gcd y).v=gI x.v y.v:=rfl
@[go_sem] theorem zpA (x y:WI):group 2 2 [.b (decide (x.v<0)),Dw (wlen x.v.natAbs) x.v.natAbs,.b (decide (y.v<0)),Dw (wlen y.v.natAbs) y.v.natAbs]=[wiP x,wiP y]:=_root_.id rfl
theorem zhP (a b:FQ) {g s t cx cy cs cd:WI} {ex ey es ed:Int} (hg:pf E0 18 [wiP a.q,wiP b.q]=some (wiP g)) (fs:pf E0 21 [wiP b.q,wiP g]=some (wiP s)) (ft:pf E0 21 [wiP a.q,wiP g]=some (wiP t))
  (nx:pf E0 20 [.lst [wiP a.p,wiP s]]=some (.tu [wiP cx,.i .i64 ex])) (ny:pf E0 20 [.lst [wiP b.p,wiP t]]=some (.tu [wiP cy,.i .i64 ey])) (ns:pf E0 23 [wiP cx,wiP cy]=some (.tu [wiP cs,.i .i64 es]))
  (nd:pf E0 20 [.lst [wiP t,wiP b.q]]=some (.tu [wiP cd,.i .i64 ed])) (f:FQ) (e:Int)
  (hR:(ex=0∧ey=0∧es=0∧ed=0∧pf E0 24 [wiP cs,wiP cd]=some (.tu [fqP f,.i .i64 e]))∨(¬(ex=0∧ey=0∧es=0∧ed=0)∧f=fq0∧e=4)) :
  pf E0 9 [fqP a,fqP b]=some (.tu [fqP f,.i .i64 e]):=by
 have da:=zdI a
 have db:=zdI b
 refine zab (xf:=zt6) rfl (by simp[zt6]) ?_
 simp only[zt6]
 simp(disch:=omega)only[go_sem,seval,wqq]
 refine zaN [3] rfl (by simp only[go_sem,seval]) ?_
 simp(disch:=omega)only[go_sem,seval,wqq,da,db,hg]
 refine zbQ [21,6] rfl ?_ ?_
 ·simp(disch:=omega)only[go_sem,seval,wqq,db,fs,nx,zat,zaf]
  exact⟨_,rfl,rfl⟩
 simp(disch:=omega)only[go_sem,seval,wqq,db,fs,nx,zat,zaf]
 refine zbQ [32,6] rfl ?_ ?_
 ·simp(disch:=omega)only[go_sem,seval,wqq,da,ft,ny,zat,zaf]
  exact⟨_,rfl,rfl⟩
 simp(disch:=omega)only[go_sem,seval,wqq,da,ft,ny,ns,zat,zaf]
 refine zaN [6,3] rfl (by simp only[go_sem,seval]) ?_
 rcases hR with⟨h1,h2,h3,h4,hM⟩|⟨hn,hf,he⟩
 ·subst h1 h2 h3 h4
  simp(disch:=omega)only[go_sem,seval,wqq,da,db,ft,nd,hM,zat,zaf]
 ·subst hf he
  rw[zkL]
  by_cases h1:ex=0
  ·by_cases h2:ey=0
   ·by_cases h3:es=0
    ·have h4:(ed=0)=False:=by simp;exact fun q=>hn ⟨h1,h2,h3,q⟩
     subst h1 h2 h3
     simp(disch:=omega)only[go_sem,seval,wqq,da,db,ft,nd,h4,zat,zaf]
    ·have h3:(es=0)=False:=by simp[h3]
     subst h1 h2
     simp(disch:=omega)only[go_sem,seval,wqq,da,db,ft,nd,h3,zat,zaf]
   ·have h2:(ey=0)=False:=by simp[h2]
    subst h1
    simp(disch:=omega)only[go_sem,seval,wqq,da,db,ft,nd,h2,zat,zaf]
  ·have h1:(ex=0)=False:=by simp[h1]
   simp(disch:=omega)only[go_sem,seval,wqq,da,db,ft,nd,h1,zat,zaf]
def adX (a b:FQ):Int:=a.p.v*(b.q.v/gI a.q.v b.q.v)
def adY (a b:FQ):Int:=b.p.v*(a.q.v/gI a.q.v b.q.v)
def adD (a b:FQ):Int:=a.q.v/gI a.q.v b.q.v*b.q.v
def adOk (a b:FQ):Prop:=inR (adX a b).natAbs∧inR (adY a b).natAbs∧inR (adX a b+adY a b).natAbs∧inR (adD a b).natAbs
theorem zjK (a b:FQ):adD a b≠0:=by
 have ha:=a.q1
 have hb:=b.q1
 have h1:a.q.v/gI a.q.v b.q.v*gI a.q.v b.q.v=a.q.v:=Int.ediv_mul_cancel (zbI _ _)
 have h2:a.q.v/gI a.q.v b.q.v≠0:=fun q=>by rw[q] at h1;omega
 exact Int.mul_ne_zero h2 (by omega)
theorem zc8 {z:Int} (h:inR z.natAbs):(clip z).v=z∧lerr z=0:=⟨zfG ((zbg _).2 h),zc9 ((zbg _).2 h)⟩
theorem zfb {z:Int} (h:lerr z=0):inR z.natAbs:=by
 by_cases q:wlen z.natAbs≤512
 ·exact(zbg _).1 q
 ·rw[zfc q] at h;cases h
theorem zj7 (a b:FQ):(adOk a b→∃f:FQ,f.p.v=lowP (adX a b+adY a b) (adD a b)∧f.q.v=lowQ (adX a b+adY a b) (adD a b)∧pf E0 9 [fqP a,fqP b]=some (.tu [fqP f,.i .i64 0])) ∧
  (¬adOk a b→pf E0 9 [fqP a,fqP b]=some (.tu [fqP fq0,.i .i64 4])):=by
 have hg:=zgK a.q b.q
 have gv:=zkN a.q b.q
 have gn:(a.q.gcd b.q).v≠0:=by rw[gv];exact zgD (by have:=b.q1;omega)
 obtain⟨s,hs,fs⟩:=zcB b.q (a.q.gcd b.q) gn
 obtain⟨t,ht,ft⟩:=zcB a.q (a.q.gcd b.q) gn
 rw[gv] at hs ht
 have nx:=zce a.p s
 have ny:=zce b.p t
 have nd:=zce t b.q
 have eX:a.p.v*s.v=adX a b:=by rw[hs];rfl
 have eY:b.p.v*t.v=adY a b:=by rw[ht];rfl
 have eD:t.v*b.q.v=adD a b:=by rw[ht];rfl
 rw[eX] at nx
 rw[eY] at ny
 rw[eD] at nd
 have ns:=zjf (clip (adX a b)) (clip (adY a b))
 constructor
 ·rintro⟨r1,r2,r3,r4⟩
  obtain⟨c1,l1⟩:=zc8 r1
  obtain⟨c2,l2⟩:=zc8 r2
  obtain⟨c3,l3⟩:=zc8 r3
  obtain⟨c4,l4⟩:=zc8 r4
  rw[c1,c2] at ns
  obtain⟨f,h1,h2,fm⟩:=zj5 (clip (adX a b+adY a b)) (clip (adD a b)) (by rw[c4];exact zjK a b)
  rw[c3,c4] at h1 h2
  exact⟨f,h1,h2,zhP a b hg fs ft nx ny ns nd f 0 (.inl ⟨l1,l2,l3,l4,fm⟩)⟩
 ·intro hn
  refine zhP a b hg fs ft nx ny ns nd fq0 4 (.inr ⟨fun ⟨l1,l2,l3,l4⟩=>hn ?_,rfl,rfl⟩)
  have r1:=zfb l1
  have r2:=zfb l2
  rw[(zc8 r1).1,(zc8 r2).1] at l3
  exact⟨r1,r2,zfb l3,zfb l4⟩
end Go.Eng
namespace Go.Eng
def FQ.neg (f:FQ):FQ:=⟨f.p.neg,f.q,f.q1,by show Nat.gcd (-f.p.v).natAbs f.q.v.natAbs=1;rw[Int.natAbs_neg];exact f.cop⟩
theorem zhQ (a b:FQ) {g h u v w z cp cq:WI} {ep eq:Int} (f:FQ) (e:Int) (hg:pf E0 18 [wiP a.p,wiP b.q]=some (wiP g)) (hh:pf E0 18 [wiP b.p,wiP a.q]=some (wiP h))
  (fu:pf E0 21 [wiP a.p,wiP g]=some (wiP u)) (fv:pf E0 21 [wiP b.p,wiP h]=some (wiP v)) (n1:pf E0 20 [.lst [wiP u,wiP v]]=some (.tu [wiP cp,.i .i64 ep]))
  (fw:pf E0 21 [wiP a.q,wiP h]=some (wiP w)) (fz':pf E0 21 [wiP b.q,wiP g]=some (wiP z)) (n2:pf E0 20 [.lst [wiP w,wiP z]]=some (.tu [wiP cq,.i .i64 eq]))
  (fl:pf E0 22 [wiP cp,wiP cq,.i .i64 ep,.i .i64 eq]=some (.tu [fqP f,.i .i64 e])):pf E0 8 [fqP a,fqP b]=some (.tu [fqP f,.i .i64 e]):=by
 have da:=zdI a
 have db:=zdI b
 refine zab (xf:=zud) rfl (by simp[zud]) ?_
 simp only[zud]
 simp(disch:=omega)only[go_sem,seval,wqq]
 refine zbQ [12,17,2] rfl ?_ ?_
 ·simp(disch:=omega)only[go_sem,seval,wqq,da,db,hg,hh]
  exact⟨_,rfl,rfl⟩
 simp(disch:=omega)only[go_sem,seval,wqq,da,db,hg,hh]
 refine zbQ [27,7] rfl ?_ ?_
 ·simp(disch:=omega)only[go_sem,seval,wqq,fu,fv,n1,zat,zaf]
  exact⟨_,rfl,rfl⟩
 simp(disch:=omega)only[go_sem,seval,wqq,fu,fv,n1,zat,zaf]
 refine zaN [7,3,6] rfl (by simp only[go_sem,seval]) ?_
 simp(disch:=omega)only[go_sem,seval,wqq,da,db,fw,fz',n2,fl,zat,zaf]
end Go.Eng
namespace Go.Eng
theorem zg8 {p s:Int} (hs:s≠0):Nat.Coprime (p/gI p s).natAbs (s/gI p s).natAbs:=by
 have g:=zc6 (p:=p) hs
 have e1:(p/gI p s).natAbs*(gI p s).natAbs=p.natAbs:=by rw[←Int.natAbs_mul,Int.ediv_mul_cancel (zbI p s)]
 have e2:(s/gI p s).natAbs*(gI p s).natAbs=s.natAbs:=by rw[←Int.natAbs_mul,Int.ediv_mul_cancel (zbW p s)]
 have e3:(gI p s).natAbs=Nat.gcd p.natAbs s.natAbs:=Int.natAbs_natCast _
 have e4:=Nat.gcd_mul_right (p/gI p s).natAbs (gI p s).natAbs (s/gI p s).natAbs
 rw[e1,e2,←e3] at e4
 have:0<(gI p s).natAbs:=by omega
 exact Nat.eq_of_mul_eq_mul_right this (by rw[Nat.one_mul];exact e4.symm)
theorem zkZ {p q r s:Int} (hq:0<q) (hs:0<s) (c1:Nat.gcd p.natAbs q.natAbs=1) (c2:Nat.gcd r.natAbs s.natAbs=1) :
  p/gI p s*(r/gI r q)=lowP (p*r) (q*s)∧q/gI r q*(s/gI p s)=lowQ (p*r) (q*s)∧0<q/gI r q*(s/gI p s)∧Nat.gcd (p/gI p s*(r/gI r q)).natAbs (q/gI r q*(s/gI p s)).natAbs=1:=by
 have g1:=zc6 (p:=p) (q:=s) (by omega)
 have g2:=zc6 (p:=r) (q:=q) (by omega)
 have k1:=zg8 (p:=p) (s:=s) (by omega)
 have k2:=zg8 (p:=r) (s:=q) (by omega)
 have a1:p/gI p s*gI p s=p:=Int.ediv_mul_cancel (zbI p s)
 have a2:s/gI p s*gI p s=s:=Int.ediv_mul_cancel (zbW p s)
 have a3:r/gI r q*gI r q=r:=Int.ediv_mul_cancel (zbI r q)
 have a4:q/gI r q*gI r q=q:=Int.ediv_mul_cancel (zbW r q)
 generalize gI p s=g at *
 generalize gI r q=h at *
 generalize p/g=u at *
 generalize s/g=z at *
 generalize r/h=v at *
 generalize q/h=w at *
 have z0:0<z:=Int.pos_of_mul_pos_left (by rw[a2];exact hs) g1
 have w0:0<w:=Int.pos_of_mul_pos_left (by rw[a4];exact hq) g2
 have du:u.natAbs∣p.natAbs:=Int.natAbs_dvd_natAbs.2 ⟨g,a1.symm⟩
 have dw:w.natAbs∣q.natAbs:=Int.natAbs_dvd_natAbs.2 ⟨h,a4.symm⟩
 have dv:v.natAbs∣r.natAbs:=Int.natAbs_dvd_natAbs.2 ⟨h,a3.symm⟩
 have dz:z.natAbs∣s.natAbs:=Int.natAbs_dvd_natAbs.2 ⟨g,a2.symm⟩
 have k3:Nat.Coprime u.natAbs w.natAbs:=Nat.Coprime.coprime_dvd_left du (Nat.Coprime.coprime_dvd_right dw c1)
 have k4:Nat.Coprime v.natAbs z.natAbs:=Nat.Coprime.coprime_dvd_left dv (Nat.Coprime.coprime_dvd_right dz c2)
 have hc:Nat.gcd (u*v).natAbs (w*z).natAbs=1:=by
  rw[Int.natAbs_mul,Int.natAbs_mul]
  exact Nat.Coprime.mul_left (Nat.Coprime.mul_right k3 k1) (Nat.Coprime.mul_right k2 k4)
 have hp:0<w*z:=Int.mul_pos w0 z0
 have hx:q*s≠0:=Int.mul_ne_zero (by omega) (by omega)
 have cr:=zeA (p:=p*r) hx
 obtain⟨e1,e2⟩:=zd8 (p:=u*v) (q:=w*z) hp (zfg hx) hc (zff hx) (by
  apply Int.eq_of_mul_eq_mul_right (a:=q*s) hx
  have:u*v*(q*s)=p*r*(w*z):=by rw[←a1,←a2,←a3,←a4];grind
  calc u*v*lowQ (p*r) (q*s)*(q*s)=u*v*(q*s)*lowQ (p*r) (q*s):=by grind
   _=p*r*(w*z)*lowQ (p*r) (q*s):=by rw[this]
   _=p*r*lowQ (p*r) (q*s)*(w*z):=by grind
   _=lowP (p*r) (q*s)*(q*s)*(w*z):=by rw[cr]
   _=lowP (p*r) (q*s)*(w*z)*(q*s):=by grind)
 exact⟨e1,e2,hp,hc⟩
def muP (a b:FQ):Int:=lowP (a.p.v*b.p.v) (a.q.v*b.q.v)
def muQ (a b:FQ):Int:=lowQ (a.p.v*b.p.v) (a.q.v*b.q.v)
theorem zj8 (a b:FQ):(inR (muP a b).natAbs∧inR (muQ a b).natAbs→∃f:FQ,f.p.v=muP a b∧f.q.v=muQ a b∧pf E0 8 [fqP a,fqP b]=some (.tu [fqP f,.i .i64 0])) ∧
  (¬(inR (muP a b).natAbs∧inR (muQ a b).natAbs)→pf E0 8 [fqP a,fqP b]=some (.tu [fqP fq0,.i .i64 4])):=by
 have qa:=a.q1
 have qb:=b.q1
 obtain⟨m1,m2,m3,m4⟩:=zkZ (p:=a.p.v) (q:=a.q.v) (r:=b.p.v) (s:=b.q.v) (by omega) (by omega) a.cop b.cop
 have hg:=zgK a.p b.q
 have hh:=zgK b.p a.q
 have gv:=zkN a.p b.q
 have hv:=zkN b.p a.q
 have gn:(a.p.gcd b.q).v≠0:=by rw[gv];exact zgD (by omega)
 have hn:(b.p.gcd a.q).v≠0:=by rw[hv];exact zgD (by omega)
 obtain⟨u,eu,fu⟩:=zcB a.p _ gn
 obtain⟨v,ev,fv⟩:=zcB b.p _ hn
 obtain⟨w,ew,fw⟩:=zcB a.q _ hn
 obtain⟨z,ez,fz'⟩:=zcB b.q _ gn
 rw[gv] at eu ez
 rw[hv] at ev ew
 have n1:=zce u v
 have n2:=zce w z
 have e1:u.v*v.v=muP a b:=by rw[eu,ev];exact m1
 have e2:w.v*z.v=muQ a b:=by rw[ew,ez];exact m2
 rw[m1,m2] at m4
 rw[m2] at m3
 have m3:0<muQ a b:=m3
 have m4:Nat.gcd (muP a b).natAbs (muQ a b).natAbs=1:=m4
 rw[e1] at n1
 rw[e2] at n2
 constructor
 ·rintro⟨r1,r2⟩
  obtain⟨c1,l1⟩:=zc8 r1
  obtain⟨c2,l2⟩:=zc8 r2
  have fl:=zgc (clip (muP a b)) (clip (muQ a b)) (by rw[c2];omega) (by rw[c1,c2];exact m4)
  rw[l1] at n1
  rw[l2] at n2
  exact⟨⟨clip (muP a b),clip (muQ a b),by rw[c2];omega,by rw[c1,c2];exact m4⟩,c1,c2,zhQ a b _ 0 hg hh fu fv n1 fw fz' n2 fl⟩
 ·intro hno
  refine zhQ a b fq0 4 hg hh fu fv n1 fw fz' n2 (zhT _ _ ?_)
  by_cases l1:lerr (muP a b)=0
  ·right
   intro l2
   exact hno ⟨zfb l1,zfb l2⟩
  ·exact .inl l1
end Go.Eng
namespace Go.Eng
end Go.Eng
namespace Go.Eng
noncomputable def ftx (p q:Int):List UInt8:=if q=1 then decI p else decI p++[47]++decI q
theorem zdw (x:WI):(decI x.v).length≤1000000:=by
 have h:=ziZ ((zbg _).1 x.lim)
 have h1:(dec x.v.natAbs).length≤4956+1:=by
  unfold dec;split
  ·simp
  ·rw[zcm];omega
 unfold decI;split<;>(try simp only[List.length_cons])<;>omega
theorem zhR (f:FQ):pf E0 16 [fqP f]=some (.s (ftx f.p.v f.q.v)):=by
 have df:=zdI f
 have s1:=zny f.p
 have s2:=zny f.q
 have sg:=zdG f.l
 have l1:=zdw f.p
 have l2:=zdw f.q
 have hl:f.l.v=f.q.v-1:=rfl
 have q1:=f.q1
 refine zab (xf:=zs4) rfl (by simp[zs4]) ?_
 simp only[zs4]
 unfold ftx
 by_cases h:f.q.v=1
 ·rw[if_pos h]
  have sc:(cmpI f.l.v 0=0)=True:=by rw[hl,h];simp[cmpI]
  simp(disch:=omega)only[go_sem,seval,wqq,sg,sc,s1]
 ·rw[if_neg h]
  have sc:(cmpI f.l.v 0=0)=False:=by
   have:cmpI f.l.v 0=1:=by unfold cmpI;rw[if_neg (by omega),if_pos (by omega)]
   rw[this];simp
  have a1:binP .add (.s (decI f.p.v)) (.s [47])=some (.s (decI f.p.v++[47])):=zdR _ _ (by simp only[List.length_cons,List.length_nil];omega)
  have a2:binP .add (.s (decI f.p.v++[47])) (.s (decI f.q.v))=some (.s (decI f.p.v++[47]++decI f.q.v)):=zdR _ _ (by simp only[List.length_append,List.length_cons,List.length_nil];omega)
  simp(disch:=omega)only[go_sem,seval,wqq,sg,sc]
  refine zaN [1] rfl (by simp only[go_sem,seval]) ?_
  simp(disch:=omega)only[go_sem,seval,wqq,df,s1,s2,a1,a2]
end Go.Eng
namespace Go.Eng
end Go.Eng
namespace Go.Eng
end Go.Eng
namespace Go.Eng
end Go.Eng
namespace Go.Eng
end Go.Eng
namespace Go.Eng
theorem ziw {x y:WI} (h:x.v=y.v):x=y:=by cases x;cases y;cases h;rfl
theorem zhi {f g:FQ} (h1:f.p.v=g.p.v) (h2:f.q.v=g.q.v):f=g:=by
 have e1:=ziw h1
 have e2:=ziw h2
 cases f;cases g
 simp only at e1 e2
 subst e1 e2;rfl
def FQ.is (f:FQ) (n d:Int):Prop:=f.p.v*d=n*f.q.v
theorem zhv {f:FQ} {n d:Int} (h:d≠0) (h1:f.p.v=lowP n d) (h2:f.q.v=lowQ n d):f.is n d:=by
 unfold FQ.is;rw[h1,h2];exact zeA h
theorem zkT (f:FQ):f.is f.p.v f.q.v:=rfl
theorem zkU {f g:FQ} {n d n' d':Int} (hd:d≠0) (hd':d'≠0) (hf:f.is n d) (hg:g.is n' d') (e:n*d'=n'*d):f=g:=by
 unfold FQ.is at hf hg
 have qf:=f.q1
 have qg:=g.q1
 have key:f.p.v*g.q.v=g.p.v*f.q.v:=by
  apply Int.eq_of_mul_eq_mul_right (a:=d*d') (Int.mul_ne_zero hd hd')
  calc f.p.v*g.q.v*(d*d')=f.p.v*d*(g.q.v*d'):=by grind
   _=n*f.q.v*(g.q.v*d'):=by rw[hf]
   _=n*d'*(f.q.v*g.q.v):=by grind
   _=n'*d*(f.q.v*g.q.v):=by rw[e]
   _=n'*g.q.v*(f.q.v*d):=by grind
   _=g.p.v*d'*(f.q.v*d):=by rw[hg]
   _=g.p.v*f.q.v*(d*d'):=by grind
 obtain⟨a,b⟩:=zd8 (by omega) (by omega) f.cop g.cop key
 exact zhi a b
theorem zi0 {f:FQ} {n d:Int} (h:f.is n d) (k:Int):f.is (n*k) (d*k):=by
 unfold FQ.is at *
 rw[←Int.mul_assoc,h];grind
def fsz (n:Nat) (f:FQ):Prop:=tlen f.p.v.natAbs≤n∧tlen f.q.v.natAbs≤n
theorem zgs {a g:Int} (h:g∣a):tlen (a/g).natAbs≤tlen a.natAbs:=by
 refine zaV ?_
 rw[Int.natAbs_ediv_of_dvd h];exact Nat.div_le_self _ _
theorem zma (a b:FQ) {n m:Nat} (ha:fsz n a) (hb:fsz m b) (h:n+m+1<1230):∃f:FQ,pf E0 9 [fqP a,fqP b]=some (.tu [fqP f,.i .i64 0])∧f.is (a.p.v*b.q.v+b.p.v*a.q.v) (a.q.v*b.q.v)∧fsz (n+m+1) f:=by
 obtain⟨a1,a2⟩:=ha
 obtain⟨b1,b2⟩:=hb
 have qa:=a.q1
 have qb:=b.q1
 have k1:=zgs (zbW a.q.v b.q.v)
 have k2:=zgs (zbI a.q.v b.q.v)
 have d1:b.q.v/gI a.q.v b.q.v*gI a.q.v b.q.v=b.q.v:=Int.ediv_mul_cancel (zbW _ _)
 have d2:a.q.v/gI a.q.v b.q.v*gI a.q.v b.q.v=a.q.v:=Int.ediv_mul_cancel (zbI _ _)
 have t1:tlen (adX a b).natAbs≤n+m:=Nat.le_trans (zas _ _) (by omega)
 have t2:tlen (adY a b).natAbs≤n+m:=Nat.le_trans (zas _ _) (by omega)
 have t3:tlen (adD a b).natAbs≤n+m:=Nat.le_trans (zas _ _) (by omega)
 have t4:tlen (adX a b+adY a b).natAbs≤n+m+1:=Nat.le_trans (zeM _ _) (by omega)
 have dn:=zjK a b
 obtain⟨f,h1,h2,hf⟩:=(zj7 a b).1 ⟨zcz (by omega),zcz (by omega),zcz (by omega),zcz (by omega)⟩
 refine⟨f,hf,?_,?_,?_⟩
 ·have hs:=zi0 (zhv dn h1 h2) (gI a.q.v b.q.v)
  have e1:(adX a b+adY a b)*gI a.q.v b.q.v=a.p.v*b.q.v+b.p.v*a.q.v:=by
   unfold adX adY
   rw[Int.add_mul,Int.mul_assoc,Int.mul_assoc,d1,d2]
  have e2:adD a b*gI a.q.v b.q.v=a.q.v*b.q.v:=by
   unfold adD
   rw[Int.mul_right_comm,d2]
  rwa [e1,e2] at hs
 ·rw[h1];exact Nat.le_trans (zaV (zfd dn)) t4
 ·rw[h2];exact Nat.le_trans (zaV (zfe dn)) (by omega)
theorem zm4 (a b:FQ) {n m:Nat} (ha:fsz n a) (hb:fsz m b) (h:n+m<1230):∃f:FQ,pf E0 8 [fqP a,fqP b]=some (.tu [fqP f,.i .i64 0])∧f.is (a.p.v*b.p.v) (a.q.v*b.q.v)∧fsz (n+m) f:=by
 obtain⟨a1,a2⟩:=ha
 obtain⟨b1,b2⟩:=hb
 have qa:=a.q1
 have qb:=b.q1
 have dn:a.q.v*b.q.v≠0:=Int.mul_ne_zero (by omega) (by omega)
 have t1:tlen (muP a b).natAbs≤n+m:=Nat.le_trans (zaV (zfd dn)) (Nat.le_trans (zas _ _) (by omega))
 have t2:tlen (muQ a b).natAbs≤n+m:=Nat.le_trans (zaV (zfe dn)) (Nat.le_trans (zas _ _) (by omega))
 obtain⟨f,h1,h2,hf⟩:=(zj8 a b).1 ⟨zcz (by omega),zcz (by omega)⟩
 exact⟨f,hf,zhv dn h1 h2,by rw[h1];exact t1,by rw[h2];exact t2⟩
end Go.Eng
namespace Go.Eng
def b2sP (M:PM):PV→Option (PV×PM)
 | .nl=>some (.s [],M)
 | .sl n off ln _ z =>
  if ln=0 then some (.s [],M) else
  if z=1 then (match (PM.rd M n off ln).bind bytesP with|some l=>some (.s l,M)|none=>none) else none
 | .lst xs=>match bytesP xs with|some l=>some (.s l,M)|none=>none
 | _=>none
@[go_sem] theorem zr5 {E:PEnv} {F:PFin} {d:Option Nat} {af:List Nat} {l:List XOper} {ks:List KI} {fr:PFr} {M:PM} (x:X):WL E F (⟨d,.b2s x,af,none⟩::l) ks fr M=WV E F (b2sP M (x.pv E.glob fr)) d l ks fr:=by
 rw[zaE]
 have:XO.pst E.glob (pcl E) fr M (.b2s x)=b2sP M (x.pv E.glob fr):=by
  simp only[XO.pst,XO.pev]
  cases x.pv E.glob fr<;>rfl
 rw[this]
def isPR:PV→Bool
 | .p _ _=>true
 | .sl _ _ _ _ _=>true
 | .tu _=>true
 | _=>false
def slotIn3 (E:PEnv) (ops:List XOper) (L:List Nat) (c:Nat×Nat):Bool :=
 match ops[c.1]?,ops[c.2]? with
 | some a,some b =>
  match a.op.looks with
  | .t s=>a.op.cls==2&&L.contains s&&calmOp E b.op
  | _=>false
 | _,_=>false
end Go.Eng
namespace Go.Eng
def apP:PV→PV→Bool
 | .p a _,.p b _ => !(Nat.beq a b)
 | _,_=>false
def slotSt (ops:List XOper) (L R:List Nat) (c:Nat×Nat):Bool :=
 match ops[c.1]?,ops[c.2]? with
 | some a,some b =>
  match a.op,b.op with
  | .load _ _ (.t s),.store _ (.t r) _=>L.contains s&&R.contains r&&fixedX ops c.2 (.t r)
  | _,_=>false
 | _,_=>false
end Go.Eng
namespace Go.Eng
theorem mG (G L:PM) (k:Nat):PM.blk (G++L) (G.length+k)=PM.blk L k:=by
 unfold PM.blk
 rw[List.getElem?_append_right (by omega),Nat.add_sub_cancel_left]
theorem mG0 (G L:PM):PM.blk (G++L) G.length=PM.blk L 0:=mG G L 0
theorem sG (G L:PM) (k:Nat) (v:Option PB):(G++L).set (G.length+k) v=G++L.set k v:=by
 rw[List.set_append_right _ _ (by omega),Nat.add_sub_cancel_left]
theorem sG0 (G L:PM) (v:Option PB):(G++L).set G.length v=G++L.set 0 v:=sG G L 0 v
theorem lG (G L:PM):(G++L).length=G.length+L.length:=List.length_append
end Go.Eng
namespace Go.Eng
def pk (xs:List Int) (i:Int):Int:=if i<0∨(xs.length:Int)≤i then 0 else xs.getD i.toNat 0
theorem zfo {xs:List Int} (hx:Ints xs) (i:Int):Fits64 (pk xs i):=by
 unfold pk
 by_cases h:i<0∨(xs.length:Int)≤i
 ·rw[if_pos h];decide
 ·rw[if_neg h]
  have hl:i.toNat<xs.length:=by omega
  exact hx.2 _ (by simp[hl])
theorem zsE {xs:List Int} (hx:Ints xs) {i:Int} (hi:Fits64 i):pf E0 180 [ints xs,.i .i64 i]=some (.i .i64 (pk xs i)):=by
 refine zab (xf:=zt8) rfl (by simp[zt8]) ?_
 simp only[zt8]
 obtain⟨hx1,hx2⟩:=hx
 unfold pk
 by_cases h:i<0
 ·rw[if_pos (.inl h)]
  simp(disch:=omega)only[go_sem,seval,wqq,h]
 ·by_cases h':(xs.length:Int)≤i
  ·rw[if_pos (.inr h')]
   have q1:(i≥(xs.length:Int))=True:=by simp;omega
   simp(disch:=omega)only[go_sem,seval,wqq,h,q1]
  ·rw[if_neg (by omega)]
   have q1:(i≥(xs.length:Int))=False:=by simp;omega
   obtain⟨j,rfl⟩:∃j:Nat,i=j:=⟨i.toNat,by omega⟩
   have hl:j<xs.length:=by omega
   have hg:xs[j]?=some (xs.getD j 0):=by simp[hl]
   simp(disch:=omega)only[go_sem,seval,wqq,h,q1,zhr hg,Int.toNat_natCast]
theorem zb0 (a:Int) {n:Int} (h:0<n) : -n<a.tmod n∧a.tmod n<n:=by
 have h1:=Int.tmod_lt_of_pos a h
 have h2:=Int.lt_tmod_of_pos a h
 omega
theorem zmX {P Q:Int} {n:Nat} (hq:Q≠0) (hp:tlen P.natAbs≤n) (hl:tlen Q.natAbs≤n) (hn:n<1230):∃f:FQ,f.p.v=lowP P Q∧f.q.v=lowQ P Q∧fsz n f:=by
 have t1:=Nat.le_trans (zaV (zfd (p:=P) hq)) hp
 have t2:=Nat.le_trans (zaV (zfe (p:=P) hq)) hl
 exact⟨⟨⟨lowP P Q,zmT (zcz (by omega))⟩,⟨lowQ P Q,zmT (zcz (by omega))⟩,zfg hq,zff hq⟩,rfl,rfl,t1,t2⟩
end Go.Eng
namespace Go.Eng
def okC (c:Nat→Int):Prop:=∀e,e<20 → -1073741824≤c e∧c e≤1073741824
open Classical in
noncomputable def vlC (c:Nat→Int):Int:=if okC c then 0 else 1
theorem zl7 (p:Prop):p=True∨p=False:=by by_cases h:p;exact .inl (eq_true h);exact .inr (eq_false h)
theorem zaB (c:Nat→Int):pf E0 416 [aI 20 c]=some (.i .i64 (vlC c)):=by
 refine zab (xf:=ztM) rfl (by simp[ztM]) ?_
 simp only[ztM]
 simp(disch:=omega)only[go_sem,seval,wqq]
 refine zai zuw.eq_1 (fun(i:Nat) fr M=>i≤20∧(∀e,e<i → -1073741824≤c e∧c e≤1073741824)∧fr 5=aI 20 c∧fr 6=(PV.i .i64 ((i:Nat):Int))) (fun i=>20-i) ?_ 0 ⟨by omega,fun e he=>by omega,by simp only[go_sem,seval],by simp only[go_sem,seval]⟩
 rintro i fr M ⟨hi,hlo,f5,f6⟩ ih
 rcases Nat.lt_or_ge i 20 with h|h
 ·have q1:((i:Int)<20)=True:=eq_true (by omega)
  have ix:=zdp c h
  have bad:¬(-1073741824≤c i∧c i≤1073741824)→vlC c=1:=fun q=>if_neg fun z=>q (z i h)
  rcases zl7 (c i < -1073741824) with t1|t1
  ·rw[bad (by have:=of_eq_true t1;omega)]
   simp(disch:=omega)only[go_sem,seval,wqq,f5,f6,q1,ix,t1]
  ·rcases zl7 (c i>1073741824) with t2|t2
   ·rw[bad (by have:=of_eq_true t2;omega)]
    simp(disch:=omega)only[go_sem,seval,wqq,f5,f6,q1,ix,t1,t2]
   ·have u1:=of_eq_false t1
    have u2:=of_eq_false t2
    simp(disch:=omega)only[go_sem,seval,wqq,f5,f6,q1,ix,t1,t2]
    refine ih (i+1) _ _ (by omega) ⟨by omega,fun e he=>?_,by simp only[go_sem,seval,f5],by simp only[go_sem,seval];rw[Int.natCast_succ]⟩
    rcases Nat.lt_or_ge e i with z|z
    ·exact hlo e z
    ·obtain rfl:e=i:=by omega
     omega
 ·obtain rfl:i=20:=by omega
  have:vlC c=0:=if_pos hlo
  rw[this]
  simp(disch:=omega)only[go_sem,seval,wqq,f5,f6]
theorem zio {n:Int} (k:Int) (h:n≤0):n.tmod k≤0:=by
 have:=Int.tmod_nonneg k (show 0 ≤ -n by omega)
 rw[Int.neg_tmod] at this
 omega
def genC (n:Int):Int:=if n.tmod 5=1∨n.tmod 5 = -1 then (n.tdiv 5).tmod 10 else if n.tmod 5=2 then (n.tdiv 5).tmod 5000 else if n.tmod 5=3 then 1073741824-(n.tdiv 5).tmod 3 else if n.tmod 5 = -3 then-1073741824-(n.tdiv 5).tmod 3 else 0
def genP (xs:List Int):Nat→Int:=fun e=>genC (pk xs e)
theorem zhn {n:Int} (h:Fits64 n) : -1073741824≤genC n∧genC n≤1073741824:=by
 unfold genC
 have a1:=zb0 (n.tdiv 5) (n:=10) (by decide)
 have a2:=zb0 (n.tdiv 5) (n:=5000) (by decide)
 have a3:=zb0 (n.tdiv 5) (n:=3) (by decide)
 split
 ·omega
 ·split
  ·omega
  ·split
   ·rename_i q
    have:0≤n:=by
     rcases Int.lt_or_le n 0 with z|z
     ·have:=zio 5 (Int.le_of_lt z);omega
     ·exact z
    have h0:0≤(n.tdiv 5).tmod 3:=Int.tmod_nonneg _ (Int.tdiv_nonneg this (by decide))
    omega
   ·split
    ·rename_i q
     have:n≤0:=by
      rcases Int.lt_or_le 0 n with z|z
      ·have:=Int.tmod_nonneg 5 (Int.le_of_lt z);omega
      ·exact z
     have h0:(n.tdiv 5).tmod 3≤0:=zio _ (by have:=Int.tdiv_nonneg (show 0 ≤ -n by omega) (show (0:Int)≤5 by decide);rw[Int.neg_tdiv] at this;omega)
     omega
    ·omega
theorem zkP {xs:List Int} (hx:Ints xs):okC (genP xs):=fun e _=>zhn (zfo hx _)
set_option maxHeartbeats 4000000 in
theorem znx {xs:List Int} (hx:Ints xs):pf E0 395 [ints xs,.i .i64 0]=some (aI 20 (genP xs)):=by
 refine zab (xf:=zug) rfl (by simp[zug]) ?_
 simp only[zug]
 simp(disch:=omega)only[go_sem,seval,wqq]
 refine zai zuJ.eq_1 (fun(i:Nat) fr M=>i≤20∧fr 0=ints xs∧fr 1=.i .i64 0∧fr 4=.p 0 0∧fr 5=.p 1 0∧fr 6=(PV.i .i64 ((i:Nat):Int))∧∃f v,(∀e,e<i→f e=genP xs e)∧(∀e,i≤e→f e=0)∧M=[some ⟨cs 20 zF,true,0⟩,some ⟨cs 20 f,true,v⟩]) (fun i=>20-i) ?_ 0 ⟨by omega,by simp only[go_sem,seval],by simp only[go_sem,seval],by simp only[go_sem,seval],by simp only[go_sem,seval],by simp only[go_sem,seval],zF,0,fun e he=>by omega,fun _ _=>rfl,rfl⟩
 rintro i fr M ⟨hi,f0,f1,f4,f5,f6,f,v,hf,hz,rfl⟩ ih
 rcases Nat.lt_or_ge i 20 with h|h
 ·have q1:((i:Int)<20)=True:=eq_true (by omega)
  have qL:(i<20)=True:=eq_true h
  have zz:(0:Int)+(i:Int)=(i:Int):=Int.zero_add _
  have k:=zsE hx (i:=(i:Int)) (by unfold Fits64;omega)
  have hg:genP xs i=genC (pk xs i):=rfl
  have bn:=zhn (zfo hx i)
  have fn:=zfo hx i
  generalize pk xs i=n at *
  have a1:=zb0 (n.tdiv 5) (n:=10) (by decide)
  have a2:=zb0 (n.tdiv 5) (n:=5000) (by decide)
  have a3:=zb0 (n.tdiv 5) (n:=3) (by decide)
  have wd:IntKind.wrap .i64 (n.tdiv 5)=n.tdiv 5:=by
   unfold Fits64 at fn
   have:(n.tdiv 5).natAbs=n.natAbs/5:=Int.natAbs_tdiv ..
   exact wqa (by omega) (by omega)
  have st:∀g,g=genC n→∀e,e<i+1→upd f i g e=genP xs e:=fun g hgg e he=>by
   unfold upd
   split
   ·rename_i z;rw[z,hg,hgg]
   ·exact hf e (by omega)
  have sz:∀g e,i+1≤e→upd f i g e=0:=fun g e he=>by rw[zdM (by omega)];exact hz e (by omega)
  unfold genC at bn st hg
  by_cases c1:n.tmod 5=1∨n.tmod 5 = -1
  ·rw[if_pos c1] at st bn
   rcases c1 with c1|c1
   ·simp(disch:=omega)only[go_sem,seval,wqq,f0,f1,f4,f5,f6,q1,qL,zz,k,c1,wd]
    exact ih (i+1) _ _ (by omega) ⟨by omega,by simp only[go_sem,seval,f0],by simp only[go_sem,seval,f1],by simp only[go_sem,seval,f4],by simp only[go_sem,seval,f5],by simp only[go_sem,seval,f6];rw[Int.natCast_succ],_,_,st _ rfl,sz _,rfl⟩
   ·simp(disch:=omega)only[go_sem,seval,wqq,f0,f1,f4,f5,f6,q1,qL,zz,k,c1,wd]
    exact ih (i+1) _ _ (by omega) ⟨by omega,by simp only[go_sem,seval,f0],by simp only[go_sem,seval,f1],by simp only[go_sem,seval,f4],by simp only[go_sem,seval,f5],by simp only[go_sem,seval,f6];rw[Int.natCast_succ],_,_,st _ rfl,sz _,rfl⟩
  ·rw[if_neg c1] at st bn hg
   have d1:(n.tmod 5=1)=False:=eq_false fun q=>c1 (.inl q)
   have d2:(n.tmod 5 = -1)=False:=eq_false fun q=>c1 (.inr q)
   by_cases c2:n.tmod 5=2
   ·rw[if_pos c2] at st bn
    simp(disch:=omega)only[go_sem,seval,wqq,f0,f1,f4,f5,f6,q1,qL,zz,k,c2,wd]
    exact ih (i+1) _ _ (by omega) ⟨by omega,by simp only[go_sem,seval,f0],by simp only[go_sem,seval,f1],by simp only[go_sem,seval,f4],by simp only[go_sem,seval,f5],by simp only[go_sem,seval,f6];rw[Int.natCast_succ],_,_,st _ rfl,sz _,rfl⟩
   ·rw[if_neg c2] at st bn hg
    by_cases c3:n.tmod 5=3
    ·rw[if_pos c3] at st bn
     simp(disch:=omega)only[go_sem,seval,wqq,f0,f1,f4,f5,f6,q1,qL,zz,k,c3,wd]
     exact ih (i+1) _ _ (by omega) ⟨by omega,by simp only[go_sem,seval,f0],by simp only[go_sem,seval,f1],by simp only[go_sem,seval,f4],by simp only[go_sem,seval,f5],by simp only[go_sem,seval,f6];rw[Int.natCast_succ],_,_,st _ rfl,sz _,rfl⟩
    ·rw[if_neg c3] at st bn hg
     by_cases c4:n.tmod 5 = -3
     ·rw[if_pos c4] at st bn
      simp(disch:=omega)only[go_sem,seval,wqq,f0,f1,f4,f5,f6,q1,qL,zz,k,c4,wd]
      exact ih (i+1) _ _ (by omega) ⟨by omega,by simp only[go_sem,seval,f0],by simp only[go_sem,seval,f1],by simp only[go_sem,seval,f4],by simp only[go_sem,seval,f5],by simp only[go_sem,seval,f6];rw[Int.natCast_succ],_,_,st _ rfl,sz _,rfl⟩
     ·rw[if_neg c4] at hg
      have d3:(n.tmod 5=2)=False:=eq_false c2
      have d4:(n.tmod 5=3)=False:=eq_false c3
      have d5:(n.tmod 5 = -3)=False:=eq_false c4
      simp(disch:=omega)only[go_sem,seval,wqq,f0,f1,f4,f5,f6,q1,qL,zz,k,d1,d2,d3,d4,d5]
      refine ih (i+1) _ _ (by omega) ⟨by omega,by simp only[go_sem,seval,f0],by simp only[go_sem,seval,f1],by simp only[go_sem,seval,f4],by simp only[go_sem,seval,f5],by simp only[go_sem,seval,f6];rw[Int.natCast_succ],f,_,fun e he=>?_,fun e he=>hz e (by omega),rfl⟩
      rcases Nat.lt_or_ge e i with z|z
      ·exact hf e z
      ·obtain rfl:e=i:=by omega
       rw[hz e (Nat.le_refl _),hg]
 ·obtain rfl:i=20:=by omega
  simp(disch:=omega)only[go_sem,seval,wqq,f0,f1,f4,f5,f6]
  rw[zfB (Y:=genP xs) (fun e he=>hf e he)]
end Go.Eng
namespace Go.Eng
noncomputable def cW (w:Nat→WI):List PV:=[.b (decide ((w 0).v<0)),D (w 0).v.natAbs,.b (decide ((w 1).v<0)),D (w 1).v.natAbs,.b (decide ((w 2).v<0)),D (w 2).v.natAbs,.b (decide ((w 3).v<0)),D (w 3).v.natAbs,.b (decide ((w 4).v<0)),D (w 4).v.natAbs,.b (decide ((w 5).v<0)),D (w 5).v.natAbs,.b (decide ((w 6).v<0)),D (w 6).v.natAbs,.b (decide ((w 7).v<0)),D (w 7).v.natAbs,.b (decide ((w 8).v<0)),D (w 8).v.natAbs]
noncomputable def mW (w:Nat→WI):PV:=.ag (cW w)
def cI (p:Nat→Int):List PV:=[.i .i64 (p 0),.i .i64 (p 1),.i .i64 (p 2),.i .i64 (p 3),.i .i64 (p 4),.i .i64 (p 5),.i .i64 (p 6),.i .i64 (p 7),.i .i64 (p 8)]
def pI (p:Nat→Int):PV:=.ag (cI p)
end Go.Eng
namespace Go.Eng
end Go.Eng
namespace Go.Eng
end Go.Eng
namespace Go.Eng
def gN (X:Nat→Int):Nat→Nat
 | 0=>0
 | i+1=>Nat.gcd (gN X i) (X i).natAbs
noncomputable def gW (x:Nat→WI):Nat→WI
 | 0=>wi0
 | i+1=>(gW x i).gcd (x i)
noncomputable def gC (x:Nat→WI):Nat→List PV
 | 0=>[.b false,.nl]
 | i+1=>[.b (decide ((gW x (i+1)).v<0)),D (gW x (i+1)).v.natAbs]
end Go.Eng
namespace Go.Eng
end Go.Eng
namespace Go.Eng
def sB (n:Nat):Nat→Bool:=fun e=>decide (e<n)
def rtK (a b c d e:Int):Int:=a*(b*c)-a*(d*e)
def rdV (z:Nat→Int):Int:=0+rtK (z 0) (z 4) (z 8) (z 5) (z 7)+rtK (z 1) (z 5) (z 6) (z 3) (z 8)+rtK (z 2) (z 3) (z 7) (z 4) (z 6)
end Go.Eng
namespace Go.Eng
end Go.Eng
namespace Go.Eng
end Go.Eng
namespace Go.Eng
def rpK (a b c d e f:Int):Int:=0+a*b+c*d+e*f
def rprV (z u:Nat→Int):Nat→Int:=fun e=>rpK (z (3*(e/3))) (u (e%3)) (z (3*(e/3)+1)) (u (3+e%3)) (z (3*(e/3)+2)) (u (6+e%3))
end Go.Eng
namespace Go.Eng
end Go.Eng
namespace Go.Eng
theorem zeS (a b:Int):wlen (a*b).natAbs≤wlen a.natAbs+wlen b.natAbs:=by
 rw[Int.natAbs_mul]
 refine zaz.2 ?_
 rw[Nat.pow_add]
 exact Nat.mul_lt_mul'' (zac _) (zac _)
theorem zjG (a b:Nat):wlen (a+b)≤max (wlen a) (wlen b)+1:=by
 refine zaz.2 ?_
 have h1:4294967296^wlen a≤4294967296^max (wlen a) (wlen b):=Nat.pow_le_pow_right (by decide) (Nat.le_max_left _ _)
 have h2:4294967296^wlen b≤4294967296^max (wlen a) (wlen b):=Nat.pow_le_pow_right (by decide) (Nat.le_max_right _ _)
 have h3:=zac a
 have h4:=zac b
 rw[Nat.pow_succ]
 generalize 4294967296^max (wlen a) (wlen b)=t at *
 omega
theorem zeQ (a b:Int):wlen (a+b).natAbs≤max (wlen a.natAbs) (wlen b.natAbs)+1 :=
 Nat.le_trans (za5 (Int.natAbs_add_le a b)) (zjG _ _)
def mnV (X:Nat→Int) (i k:Nat):Int:=X (3*((i+1)%3)+(k+1)%3)*X (3*((i+2)%3)+(k+2)%3)-X (3*((i+1)%3)+(k+2)%3)*X (3*((i+2)%3)+(k+1)%3)
end Go.Eng
namespace Go.Eng
def mE:Nat→Int:=fun e=>monoI.getD e 0
theorem zjN:cst E0.glob (.p 1 0)=.fp (cs 60 mE):=rfl
def exN (i j:Nat):Nat:=(mE (i*3+j)).toNat
theorem zaZ:∀i,i<20→∀j,j<3→mE (i*3+j)=(exN i j:Int)∧exN i j≤3:=by decide
def pw3 (X:Nat→Int) (i:Nat):Nat→Int
 | 0=>1
 | j+1=>pw3 X i j*X j^exN i j
def moV (X:Nat→Int) (i:Nat):Int:=pw3 X i 3
def sumT (f:Nat→Int):Nat→Int
 | 0=>0
 | n+1=>sumT f n+f n
def s3 {α:Type} (a b c:α):Nat→α:=fun j=>if j=0 then a else if j=1 then b else c
noncomputable def wc (t:WI):List PV:=[.b (decide (t.v<0)),D t.v.natAbs]
theorem zn7 (t:WI):wc t=[.b (decide (t.v<0)),D t.v.natAbs]:=_root_.id rfl
theorem zkr (t:WI):PV.ag (wc t)=wiP t:=_root_.id rfl
theorem zeP (t:WI):(wc t).length=2:=_root_.id rfl
theorem zfy (t:WI):(wc t).take 2=wc t:=_root_.id rfl
theorem ziv (t u:WI):psplice (wc t) 0 [.b (decide (u.v<0)),D u.v.natAbs]=wc u:=_root_.id rfl
structure WZ (L:List PV) (s:WI):Prop where
 len:L.length=2
 sc:L.all PV.scal=true
 fz:∀(M:PM) (d:Nat),fzL (fz M (d+1)) L=some (wc s,[])
theorem WZ.tk {L:List PV} {s:WI} (h:WZ L s):L.take 2=L:=List.take_of_length_le (by rw[h.len];omega)
theorem WZ.spl {L:List PV} {s:WI} (h:WZ L s) (u:WI):psplice L 0 (wc u)=wc u:=by
 unfold psplice
 rw[List.take_zero,List.drop_eq_nil_of_le (by rw[h.len,zeP];omega),List.nil_append,List.append_nil]
theorem wz0:WZ [.b false,.nl] wi0:=⟨rfl,rfl,fun _ _=>rfl⟩
theorem wzs (s:WI):WZ (wc s) s:=⟨rfl,rfl,fun _ _=>rfl⟩
theorem zrU (a b:PV) (L:List PV) (h:L.length=2):psplice [a,b] 0 L=L:=by
 unfold psplice
 rw[List.take_zero,List.drop_eq_nil_of_le (by rw[h];exact Nat.le_refl _),List.nil_append,List.append_nil]
theorem zeR {n:Int} (h:Fits64 n):wlen n.natAbs≤2:=by
 unfold Fits64 at h
 exact zaz.2 (by omega)
theorem zm7 {t x:WI} {n m:Nat} (ht:wlen t.v.natAbs≤n) (hx:wlen x.v.natAbs≤m) (h:n+m≤512):(clip (t.v*x.v)).v=t.v*x.v∧wlen (t.v*x.v).natAbs≤n+m :=
 ⟨zfG (Nat.le_trans (zeS _ _) (by omega)),Nat.le_trans (zeS _ _) (by omega)⟩
theorem zoZ {t x:WI} {n m:Nat} (ht:wlen t.v.natAbs≤n) (hx:wlen x.v.natAbs≤m) (h:max n m+1≤512):(clip (t.v+x.v)).v=t.v+x.v∧wlen (t.v+x.v).natAbs≤max n m+1 :=
 ⟨zfG (Nat.le_trans (zeQ _ _) (by omega)),Nat.le_trans (zeQ _ _) (by omega)⟩
theorem zik {i:Nat} (h:i<3):i=0∨i=1∨i=2:=by omega
end Go.Eng
namespace Go.Eng
def cg (n:Nat) (f:Nat→List PV):List PV:=(List.range n).flatMap f
theorem zck (n:Nat) (f:Nat→List PV):cg (n+1) f=cg n f++f n:=by
 unfold cg
 rw[List.range_succ,List.flatMap_append];simp
theorem zdv {k:Nat} {f:Nat→List PV} (hf:∀e,(f e).length=k) (n:Nat):(cg n f).length=n*k:=by
 induction n with
 | zero=>simp[cg]
 | succ n ih=>rw[zck,List.length_append,ih,hf,Nat.succ_mul]
theorem zmq {f g:Nat→List PV} {n:Nat} (h:∀e,e<n→f e=g e):cg n f=cg n g:=by
 induction n with
 | zero=>rfl
 | succ n ih=>rw[zck,zck,ih (fun e he=>h e (by omega)),h n (by omega)]
theorem zfF {k:Nat} {f:Nat→List PV} (hf:∀e,(f e).length=k) {n i:Nat} (h:i<n):((cg n f).drop (i*k)).take k=f i:=by
 induction n with
 | zero=>omega
 | succ n ih =>
  have hl:=zdv hf n
  rw[zck]
  rcases Nat.lt_or_ge i n with q|q
  ·have:(i+1)*k≤n*k:=Nat.mul_le_mul_right _ q
   rw[Nat.succ_mul] at this
   rw[List.drop_append_of_le_length (by omega),List.take_append_of_le_length (by rw[List.length_drop];omega),ih q]
  ·obtain rfl:i=n:=by omega
   rw[List.drop_append,List.drop_eq_nil_of_le (by omega),hl,Nat.sub_self,List.drop_zero,List.nil_append,List.take_of_length_le (by rw[hf];exact Nat.le_refl _)]
theorem zkz {k:Nat} {n i:Nat} (h:i<n):i*k+k≤n*k:=by
 have:(i+1)*k≤n*k:=Nat.mul_le_mul_right _ h
 rw[Nat.succ_mul] at this
 exact this
theorem zmr {k:Nat} {f:Nat→List PV} (hf:∀e,(f e).length=k) {n i:Nat} (h:i<n) {v:List PV} (hv:v.length=k):psplice (cg n f) (i*k) v=cg n (upd f i v):=by
 unfold psplice
 induction n with
 | zero=>omega
 | succ n ih =>
  have hl:=zdv hf n
  rw[zck,zck]
  rcases Nat.lt_or_ge i n with q|q
  ·have:=zkz (k:=k) q
   rw[←ih q,List.take_append_of_le_length (by omega),List.drop_append_of_le_length (by omega),zdM (show n≠i by omega),List.append_assoc,List.append_assoc,List.append_assoc]
  ·obtain rfl:i=n:=by omega
   rw[List.take_append_of_le_length (by omega),List.drop_eq_nil_of_le (by simp[hl,hf,hv]),List.append_nil,zcP,List.take_of_length_le (by omega),zmq (fun e he=>(zdM (show e≠i by omega)).symm)]
end Go.Eng
namespace Go.Eng
def facT:List (List Int):=[[],[0],[1],[2],[0,0],[0,1],[0,2],[1,1],[1,2],[2,2],[0,0,0],[0,0,1],[0,0,2],[0,1,1],[0,1,2],[0,2,2],[1,1,1],[1,1,2],[1,2,2],[2,2,2]]
def facL (i:Nat):List Int:=facT.getD i []
def prL (X:Nat→Int):List Int→Int
 | []=>1
 | a::l=>X a.toNat*prL X l
theorem zeI (X:Nat→Int):∀l:List Int,(∀a∈l,a=0∨a=1∨a=2)→prL X l=X 0^l.count 0*X 1^l.count 1*X 2^l.count 2
 | [],_=>by simp[prL]
 | a::l,h=>by
  have ih:=zeI X l fun b hb=>h b (List.mem_cons_of_mem _ hb)
  rw[prL,ih]
  rcases h a List.mem_cons_self with rfl|rfl|rfl
  ·rw[List.count_cons_self,List.count_cons_of_ne (by decide),List.count_cons_of_ne (by decide),Int.pow_succ]
   show X 0*_=_;grind
  ·rw[List.count_cons_self,List.count_cons_of_ne (by decide),List.count_cons_of_ne (by decide),Int.pow_succ]
   show X 1*_=_;grind
  ·rw[List.count_cons_self,List.count_cons_of_ne (by decide),List.count_cons_of_ne (by decide),Int.pow_succ]
   show X 2*_=_;grind
theorem zjX:∀i,i<20→(∀a∈facL i,a=0∨a=1∨a=2)∧(facL i).length≤3∧exN i 0=(facL i).count 0∧exN i 1=(facL i).count 1∧exN i 2=(facL i).count 2:=by decide
theorem zjW (X:Nat→Int) {i:Nat} (h:i<20):prL X (facL i)=moV X i:=by
 obtain⟨h1,_,h2,h3,h4⟩:=zjX i h
 rw[zeI X _ h1,←h2,←h3,←h4]
 show _=1*X 0^exN i 0*X 1^exN i 1*X 2^exN i 2
 rw[Int.one_mul]
theorem zqZ {n:Int} (h:Fits64 n):tlen n.natAbs≤5:=by
 unfold Fits64 at h
 exact zaQ (by omega)
end Go.Eng
namespace Go.Eng
end Go.Eng
namespace Go.Eng
end Go.Eng
namespace Go.Eng
end Go.Eng
namespace Go.Eng
theorem zmV {f:FQ} {n d p q:Int} (hd:d≠0) (hq:0<q) (hc:Nat.gcd p.natAbs q.natAbs=1) (hf:f.is n d) (e:n*q=p*d):f.p.v=p∧f.q.v=q:=by
 unfold FQ.is at hf
 have q1:=f.q1
 refine zd8 (by omega) hq f.cop hc ?_
 apply Int.eq_of_mul_eq_mul_right (a:=d) hd
 calc f.p.v*q*d=f.p.v*d*q:=by grind
  _=n*f.q.v*q:=by rw[hf]
  _=n*q*f.q.v:=by grind
  _=p*d*f.q.v:=by rw[e]
  _=p*f.q.v*d:=by grind
theorem zjV {z:Int} {v n:Nat} (hz:z=(v:Int)) (h1:10^n≤v) (h2:v<10^(n+1)):decI z=dtx (n+1) v:=by
 subst hz
 unfold decI;rw[if_neg (by omega),Int.natAbs_natCast]
 exact ziJ h1 h2
theorem znY (f:FQ) {p q:Int} {t:List UInt8} (h1:f.p.v=p) (h2:f.q.v=q) (ht:ftx p q=t):pf E0 16 [fqP f]=some (.s t):=by
 rw[←ht,←h1,←h2];exact zhR f
end Go.Eng
namespace Go.Eng
theorem ziB {f g h:FQ} {n d m e:Int} (hf:f.is n d) (hg:g.is m e) (hh:h.is (f.p.v*g.q.v+g.p.v*f.q.v) (f.q.v*g.q.v)):h.is (n*e+m*d) (d*e):=by
 have qf:=f.q1
 have qg:=g.q1
 unfold FQ.is at *
 apply Int.eq_of_mul_eq_mul_right (a:=f.q.v*g.q.v) (Int.mul_ne_zero (by omega) (by omega))
 calc h.p.v*(d*e)*(f.q.v*g.q.v)=h.p.v*(f.q.v*g.q.v)*(d*e):=by grind
  _=(f.p.v*g.q.v+g.p.v*f.q.v)*h.q.v*(d*e):=by rw[hh]
  _=(f.p.v*d*g.q.v*e+g.p.v*e*f.q.v*d)*h.q.v:=by grind
  _=(n*f.q.v*g.q.v*e+m*g.q.v*f.q.v*d)*h.q.v:=by rw[hf,hg]
  _=(n*e+m*d)*h.q.v*(f.q.v*g.q.v):=by grind
theorem zi7 {f g h:FQ} {n d m e:Int} (hf:f.is n d) (hg:g.is m e) (hh:h.is (f.p.v*g.p.v) (f.q.v*g.q.v)):h.is (n*m) (d*e):=by
 have qf:=f.q1
 have qg:=g.q1
 unfold FQ.is at *
 apply Int.eq_of_mul_eq_mul_right (a:=f.q.v*g.q.v) (Int.mul_ne_zero (by omega) (by omega))
 calc h.p.v*(d*e)*(f.q.v*g.q.v)=h.p.v*(f.q.v*g.q.v)*(d*e):=by grind
  _=f.p.v*g.p.v*h.q.v*(d*e):=by rw[hh]
  _=f.p.v*d*(g.p.v*e)*h.q.v:=by grind
  _=n*f.q.v*(m*g.q.v)*h.q.v:=by rw[hf,hg]
  _=n*m*h.q.v*(f.q.v*g.q.v):=by grind
theorem zmb (a b:FQ) {n m:Nat} {x d y e:Int} (ha:fsz n a) (hb:fsz m b) (h:n+m+1<1230) (xa:a.is x d) (xb:b.is y e):∃f:FQ,pf E0 9 [fqP a,fqP b]=some (.tu [fqP f,.i .i64 0])∧f.is (x*e+y*d) (d*e)∧fsz (n+m+1) f:=by
 obtain⟨f,h1,h2,h3⟩:=zma a b ha hb h
 exact⟨f,h1,ziB xa xb h2,h3⟩
theorem zm5 (a b:FQ) {n m:Nat} {x d y e:Int} (ha:fsz n a) (hb:fsz m b) (h:n+m<1230) (xa:a.is x d) (xb:b.is y e):∃f:FQ,pf E0 8 [fqP a,fqP b]=some (.tu [fqP f,.i .i64 0])∧f.is (x*y) (d*e)∧fsz (n+m) f:=by
 obtain⟨f,h1,h2,h3⟩:=zm4 a b ha hb h
 exact⟨f,h1,zi7 xa xb h2,h3⟩
end Go.Eng
namespace Go.Eng
end Go.Eng
namespace Go.Eng
end Go.Eng
namespace Go.Eng
end Go.Eng
namespace Go.Eng
def nbits (k:Nat):Nat:=if k=0 then 0 else Nat.log2 k+1
theorem zco {k:Nat} (h:k≠0):nbits k=nbits (k/2)+1:=by
 unfold nbits
 rw[if_neg h]
 by_cases h2:2≤k
 ·rw[if_neg (by omega),Nat.log2_def k,if_pos h2]
 ·have:k=1:=by omega
  subst this;rfl
theorem zca {k n:Nat} (h:k<2^n):nbits k≤n:=by
 unfold nbits
 split
 ·omega
 ·rename_i h0
  have:=(Nat.log2_lt h0).2 h
  omega
end Go.Eng
namespace Go.Eng
end Go.Eng
namespace Go.Eng
structure TerOk (X Y S:Int) (C R:Nat) (hs:List Int):Prop where
 c:2≤C∧C≤128
 r:2≤R∧R≤128
 s:1≤S∧S≤65536
 x : -1048576≤X∧X+(C-1)*S≤1048576
 y : -1048576≤Y∧Y+(R-1)*S≤1048576
 len:hs.length=C*R
 h:∀n∈hs,-16384≤n∧n≤16384
theorem TerOk.ints {X Y S:Int} {C R:Nat} {hs:List Int} (t:TerOk X Y S C R hs):Ints hs:=by
 refine⟨?_,fun n hn=>?_⟩
 ·have:C*R≤128*128:=Nat.mul_le_mul t.c.2 t.r.2
  rw[t.len];omega
 ·have:=t.h n hn
  unfold Fits64;omega
end Go.Eng
namespace Go.Eng
end Go.Eng
namespace Go.Eng
end Go.Eng
namespace Go.Eng
end Go.Eng
namespace Go.Eng
end Go.Eng
namespace Go.Eng
end Go.Eng
namespace Go.Eng
end Go.Eng
namespace Go.Eng
end Go.Eng
namespace Go.Eng
theorem zc0 (a b:Int):(0≤cmpI a b)=(b≤a):=by
 unfold cmpI
 simp only[eq_iff_iff]
 split
 ·omega
 ·split<;>omega
end Go.Eng
namespace Go.Eng
end Go.Eng
namespace Go.Eng
end Go.Eng
namespace Go.Eng
theorem zhE {k m:Nat} (h:2^m≤k):nbits k=nbits (k/2^m)+m:=by
 induction m with
 | zero=>simp
 | succ m ih =>
  have h1:2^m≤k:=Nat.le_trans (Nat.pow_le_pow_right (by decide) (Nat.le_succ m)) h
  have h2:k/2^m≠0:=by
   have:=Nat.div_pos h1 (Nat.pow_pos (by decide))
   omega
  have e:k/2^m/2=k/2^(m+1):=by rw[Nat.div_div_eq_div_mul,←Nat.pow_succ]
  have h3:=zco h2
  rw[e] at h3
  have h4:=ih h1
  omega
theorem zhD:nbits 1=1:=by unfold nbits;rw[if_neg (by decide)];rfl
def pw (i:Nat):Nat:=2^(2^i)
theorem zeJ (i:Nat):0<pw i:=Nat.pow_pos (by decide)
theorem znQ (i:Nat):2≤pw i:=by
 unfold pw
 have:2^1≤2^(2^i):=Nat.pow_le_pow_right (by decide) (Nat.one_le_two_pow)
 omega
theorem zfq (i:Nat):pw (i+1)=pw i*pw i:=by
 unfold pw
 rw[←Nat.pow_add,Nat.pow_succ]
 congr 1
 omega
theorem zh4:pw 0=2:=rfl
theorem zgI {x i:Nat} (h:pw i≤x):nbits x=nbits (x/pw i)+2^i:=zhE h
theorem znP {x i:Nat} (h:x<pw (i+1)):x/pw i<pw i:=by
 rw[zfq] at h
 exact Nat.div_lt_of_lt_mul h
theorem zlF {x i:Nat} (h:pw i≤x):1≤x/pw i:=Nat.div_pos h (zeJ i)
end Go.Eng
namespace Go.Eng
theorem zjt (i:Nat):pw i<pw (i+1):=by
 rw[zfq]
 have:=znQ i
 have h2:pw i*2≤pw i*pw i:=Nat.mul_le_mul_left _ this
 omega
theorem zfV {i:Nat} (h:inR (pw i)):i<14:=by
 rcases Nat.lt_or_ge i 14 with q|q
 ·exact q
 ·exfalso
  obtain⟨K,hK⟩:∃K,K=16384:=⟨_,rfl⟩
  obtain⟨a,ha⟩:∃a,a=14:=⟨_,rfl⟩
  rw[←ha] at q
  have h1:2^a≤2^i:=Nat.pow_le_pow_right (by decide) q
  have h2:2^(2^a)≤pw i:=Nat.pow_le_pow_right (by decide) h1
  have e:2^a=K:=by rw[hK,ha]
  rw[e] at h2
  unfold inR at h
  rw[←hK] at h
  omega
theorem zdA {a b:Nat} (h:a≤b) (hb:inR b):inR a:=Nat.lt_of_le_of_lt h hb
noncomputable def pwI (i:Nat):WI:=clip ((pw i:Nat):Int)
theorem zgN {i:Nat} (h:inR (pw i)):(pwI i).v=((pw i:Nat):Int):=(zc8 (z:=((pw i:Nat):Int)) (by rw[Int.natAbs_natCast];exact h)).1
noncomputable def pwL:Nat→List PV
 | 0=>[]
 | j+1=>pwL j++[.b (decide ((pwI j).v<0)),D (pwI j).v.natAbs]
theorem zeb:∀j,(pwL j).length=2*j
 | 0=>rfl
 | j+1=>by rw[pwL,List.length_append,zeb j];simp;omega
theorem zke:∀{j i:Nat},i<j→((pwL j).drop (i*2)).take 2=[.b (decide ((pwI i).v<0)),D (pwI i).v.natAbs]
 | 0,i,h=>by omega
 | j+1,i,h=>by
  have hl:=zeb j
  rw[pwL]
  by_cases hi:i<j
  ·rw[List.drop_append_of_le_length (by omega),List.take_append_of_le_length (by simp;omega)]
   exact zke hi
  ·obtain rfl:i=j:=by omega
   rw[List.drop_left' (show (pwL i).length=i*2 by omega)];rfl
theorem zo0 (P:PM) (L:List PV) (w1 w2:PV) (r1 r2:Option PB) {j:Nat} (hl:L.length=2*j) (hj:j≤100) (h0:0<j):appP (P++[some ⟨L,true,0⟩,r1,r2,some ⟨[w1,w2],true,0⟩]) 2 32 (.sl P.length 0 j j 2) (.sl (P.length+3) 0 1 1 2) =
  some (.sl (P.length+4) 0 (j+1) (j+1) 2,P++[none,r1,r2,some ⟨[w1,w2],true,0⟩,some ⟨L++[w1,w2],true,0⟩]):=by
 have es:srcP (P++[some (⟨L,true,0⟩:PB),r1,r2,some (⟨[w1,w2],true,0⟩:PB)]) 2 (.sl (P.length+3) 0 1 1 2)=some (1,[w1,w2]):=by
  simp only[srcP,PM.rd,mG]
  rfl
 have e2:PM.blk (P++[some (⟨L,true,0⟩:PB),r1,r2,some (⟨[w1,w2],true,0⟩:PB)]) P.length=some (⟨L,true,0⟩:PB):=by rw[mG0];rfl
 unfold appP
 rw[es]
 simp only[e2]
 rw[if_neg (by simp),if_neg (by decide),if_pos ⟨trivial,by rw[hl];omega,by omega⟩,sG0]
 simp only[List.drop_zero,List.set_cons_zero,lqq,List.length_append,List.length_cons,List.length_nil]
 rw[List.take_of_length_le (by omega)]
theorem zlN {i:Nat} (h:i<14):binP .shl (.i .i64 1) (.i .i64 (i:Int))=some (.i .i64 ((2^i:Nat):Int)):=by
 have h1:2^i≤2^13:=Nat.pow_le_pow_right (by decide) (by omega)
 rw[zcS _ _ _ _ (by omega),Int.toNat_natCast,show min i (IntKind.bits .i64)=i by simp only[IntKind.bits];omega,Int.one_mul]
 have e:(2:Int)^i=((2^i:Nat):Int):=by simp
 rw[e]
 generalize 2^i=t at *
 rw[wqa (by omega) (by omega)]
set_option maxHeartbeats 2000000 in
theorem zjR {F:PFin} {ks:List KI} {K J:Nat} {x0:WI} (hR:inR K) (hx0:x0.v=(K:Int)) (hK:1≤K) (hlt:K<pw J) (hJ:J=0∨pw (J-1)≤K) {G R:PM} {fr:PFr} {v:Nat}
  (f1:fr 1=.p 0 0) (f3:fr 3=(PV.i .i64 ((0:Nat):Int))) (f6:fr 6=if J=0 then .nl else .sl (G.length+1) 0 J J 2) (f10:fr 10=.i .i64 ((J:Int)-1))
  (cont:∀fr' v' (y:WI),y.v=1→fr' 1=.p 0 0→fr' 3=.i .i64 ((nbits K:Int)-1)→UK E0 F (.exit 4) ks fr' (some ⟨[.b (decide (y.v<0)),D y.v.natAbs],true,v'⟩::(G++(some ⟨pwL J,true,0⟩::R)))) :
  WK E0 F (.loop zt1) ks fr (some ⟨[.b (decide (x0.v<0)),D x0.v.natAbs],true,v⟩::(G++(some ⟨pwL J,true,0⟩::R))):=by
 have hnb:nbits K≤16384:=by
  obtain⟨q,hq⟩:∃q,q=16384:=⟨_,rfl⟩
  unfold inR at hR
  rw[←hq] at hR ⊢
  exact zca hR
 have hJ14:∀i,i<J→i<14∧inR (pw i):=fun i hi=>by
  have hm:∀d,pw i≤pw (i+d):=fun d=>by
   induction d with
   | zero=>exact Nat.le_refl _
   | succ d ih=>exact Nat.le_trans ih (Nat.le_of_lt (zjt _))
  have h1:=hm (J-1-i)
  rw[show i+(J-1-i)=J-1 by omega] at h1
  have h2:inR (pw i):=zdA (by omega) hR
  exact⟨zfV h2,h2⟩
 refine zai zt1.eq_1 (fun(i:Nat) fr M=>i≤J∧∃(y:WI) (Y n v:Nat),y.v=(Y:Int)∧1≤Y∧Y<pw i∧nbits K=nbits Y+n∧fr 1=.p 0 0∧fr 3=(PV.i .i64 ((n:Nat):Int))∧fr 6=(if J=0 then .nl else .sl (G.length+1) 0 J J 2)∧fr 10=.i .i64 ((i:Int)-1) ∧
  M=some ⟨[.b (decide (y.v<0)),D y.v.natAbs],true,v⟩::(G++(some ⟨pwL J,true,0⟩::R))) (fun i=>i) ?_ J ⟨Nat.le_refl _,x0,K,0,v,hx0,hK,hlt,rfl,f1,f3,f6,f10,rfl⟩
 rintro i fr M ⟨hi,y,Y,n,v,hy,hY,hYi,hn,f1,f3,f6,f10,rfl⟩ ih
 cases i with
 | zero =>
  have hY1:Y=1:=by rw[zh4] at hYi;omega
  subst hY1
  have f3':fr 3=.i .i64 ((nbits K:Int)-1):=by
   rw[f3,hn,zhD];congr 1;omega
  have q0:((((0:Nat):Int)-1)≥0)=False:=eq_false (by omega)
  simp(disch:=omega)only[go_sem,seval,wqq,f10,q0]
  exact cont _ v y hy (by simp only[go_sem,seval,f1]) (by simp only[go_sem,seval,f3'])
 | succ i =>
  obtain⟨i14,iR⟩:=hJ14 i (by omega)
  have hJ0:J≠0:=by omega
  rw[if_neg hJ0] at f6
  have f6':=f6
  have f10:fr 10=(PV.i .i64 ((i:Nat):Int)):=by rw[f10];congr 1;omega
  have q0:((i:Int)≥0)=True:=eq_true (by omega)
  have pv:=zgN iR
  have cm:=zcd y (pwI i)
  rw[hy,pv] at cm
  have at_:=zke (j:=J) (i:=i) (by omega)
  have hl:=zeb J
  have hiJ:(i<J)=True:=eq_true (by omega)
  have h2i:(i*2+2≤2*J)=True:=eq_true (by omega)
  by_cases hc:pw i≤Y
  ·have c0:(cmpI ((Y:Nat):Int) ((pw i:Nat):Int)≥0)=True:=eq_true (by rw[ge_iff_le,zc0];omega)
   simp(disch:=omega)only[go_sem,seval,wqq,f1,f3,f6,f10,q0,cm,c0,hiJ,h2i,hl,at_,mG,mG0,sG,sG0,lG,lqq]
   have dv:=znt y (pwI i) (by rw[pv];have:=zeJ i;omega)
   have dvv:(y.div (pwI i) (by rw[pv];have:=zeJ i;omega)).v=((Y/pw i:Nat):Int):=by
    show y.v/(pwI i).v=_
    rw[hy,pv];rfl
   generalize y.div (pwI i) (by rw[pv];have:=zeJ i;omega)=y2 at *
   generalize y.mod (pwI i) (by rw[pv];have:=zeJ i;omega)=y3 at *
   have sh:=zlN i14
   have st:=zgI hc
   have p14:2^i≤2^14:=Nat.pow_le_pow_right (by decide) (by omega)
   have g1:=znP hYi
   have g0:=zlF hc
   have hs:(n:Int)+((2^i:Nat):Int)=((n+2^i:Nat):Int):=by push_cast;rfl
   generalize 2^i=t at *
   simp(disch:=omega)only[go_sem,seval,wqq,f1,f3,f6,f10,q0,cm,c0,hiJ,h2i,hl,at_,dv,sh,hs,mG,mG0,sG,sG0,lG,lqq]
   exact ih i _ _ (by omega) ⟨by omega,y2,Y/pw i,n+t,_,dvv,g0,g1,by omega,by simp only[go_sem,seval,f1],by simp only[go_sem,seval],by rw[if_neg hJ0];simp only[go_sem,seval,f6],by simp only[go_sem,seval,f10],rfl⟩
  ·have c0:(cmpI ((Y:Nat):Int) ((pw i:Nat):Int)≥0)=False:=eq_false (by rw[ge_iff_le,zc0];omega)
   simp(disch:=omega)only[go_sem,seval,wqq,f1,f3,f6,f10,q0,cm,c0,hiJ,h2i,hl,at_,mG,mG0,sG,sG0,lG,lqq]
   exact ih i _ _ (by omega) ⟨by omega,y,Y,n,_,hy,hY,by omega,by omega,by simp only[go_sem,seval,f1],by simp only[go_sem,seval,f3],by rw[if_neg hJ0];simp only[go_sem,seval,f6],by simp only[go_sem,seval,f10],rfl⟩
end Go.Eng
namespace Go.Eng
theorem zlq (x:WI) (h:x.v.natAbs≤9223372036854775807):pf E0 63 [wiP x]=some (.i .i64 (nbits x.v.natAbs:Int)):=by
 have nb:nbits x.v.natAbs≤63:=zca (by omega)
 have fin:∀(y:WI),y.v=(x.v.natAbs:Int)→pf E0 80 [wiP y]=some (.tu [.i .i64 (x.v.natAbs:Int),.b true]):=fun y hy=>by
  have sm:=zdd y
  have s1:isSmall (x.v.natAbs:Int)=true:=by unfold isSmall;exact decide_eq_true ⟨by omega,by omega⟩
  have s2:small (x.v.natAbs:Int)=(x.v.natAbs:Int):=by unfold small;rw[if_pos s1]
  rw[hy,s1,s2] at sm
  exact sm
 have sg:=zdG x
 refine zab (xf:=zte) rfl (by simp[zte]) ?_
 simp only[zte]
 by_cases hn:x.v<0
 ·have t0:(cmpI x.v 0<0)=True:=by rw[zcF];simp[hn]
  have n1:=zji x
  have sm:=fin x.neg (by show-x.v=_;omega)
  generalize x.neg=y at *
  generalize x.v.natAbs=K at *
  simp(disch:=omega)only[go_sem,seval,wqq,sg,t0,n1,sm]
  refine zai zt0.eq_1 (fun(σ:Nat×Nat) fr M=>σ.1+nbits σ.2=nbits K∧σ.2≤K∧fr 3=(PV.i .i64 ((σ.1:Nat):Int))∧fr 4=(PV.i .i64 ((σ.2:Nat):Int))) (fun σ=>σ.2) ?_ (0,K) ⟨by simp,Nat.le_refl _,by simp only[go_sem,seval],by simp only[go_sem,seval]⟩
  rintro⟨n,k⟩ fr M ⟨hs,hk,f3,f4⟩ ih
  simp only at hs hk f3 f4
  by_cases hk0:k=0
  ·have q1:((k:Int)>0)=False:=by simp;omega
   have hN:n=nbits K:=by rw[←hs,hk0];rfl
   rw[←hN]
   simp(disch:=omega)only[go_sem,seval,wqq,f3,f4,q1]
  ·have q1:((k:Int)>0)=True:=by simp;omega
   have k2:(k:Int).tdiv 2=((k/2:Nat):Int):=zcM _ 2
   have hh:=zco hk0
   simp(disch:=omega)only[go_sem,seval,wqq,f3,f4,q1,k2]
   exact ih (n+1,k/2) _ _ (by simp only;omega) ⟨by simp only;omega,by simp only;omega,by simp only[go_sem,seval];rw[Int.natCast_succ],by simp only[go_sem,seval]⟩
 ·have t0:(cmpI x.v 0<0)=False:=by rw[zcF];simp[hn]
  have sm:=fin x (by omega)
  obtain⟨K,hK⟩:∃K:Nat,K=x.v.natAbs:=⟨_,rfl⟩
  rw[←hK] at sm nb ⊢
  have hKl:K≤9223372036854775807:=by omega
  simp(disch:=omega)only[go_sem,seval,wqq,sg,t0,sm]
  refine zai zt0.eq_1 (fun(σ:Nat×Nat) fr M=>σ.1+nbits σ.2=nbits K∧σ.2≤K∧fr 3=(PV.i .i64 ((σ.1:Nat):Int))∧fr 4=(PV.i .i64 ((σ.2:Nat):Int))) (fun σ=>σ.2) ?_ (0,K) ⟨by simp,Nat.le_refl _,by simp only[go_sem,seval],by simp only[go_sem,seval]⟩
  rintro⟨n,k⟩ fr M ⟨hs,hk,f3,f4⟩ ih
  simp only at hs hk f3 f4
  by_cases hk0:k=0
  ·have q1:((k:Int)>0)=False:=by simp;omega
   have hN:n=nbits K:=by rw[←hs,hk0];rfl
   rw[←hN]
   simp(disch:=omega)only[go_sem,seval,wqq,f3,f4,q1]
  ·have q1:((k:Int)>0)=True:=by simp;omega
   have k2:(k:Int).tdiv 2=((k/2:Nat):Int):=zcM _ 2
   have hh:=zco hk0
   simp(disch:=omega)only[go_sem,seval,wqq,f3,f4,q1,k2]
   exact ih (n+1,k/2) _ _ (by simp only;omega) ⟨by simp only;omega,by simp only;omega,by simp only[go_sem,seval];rw[Int.natCast_succ],by simp only[go_sem,seval]⟩
theorem zj1 {j:Nat} (h:inR (pw j)):pf E0 38 [wiP (pwI j),wiP (pwI j)]=some (.tu [wiP (pwI (j+1)),.i .i64 (lerr ((pw (j+1):Nat):Int))]):=by
 rw[zgL,zgN h,←Int.natCast_mul,←zfq];rfl
theorem zsq (b0 b1:Option PB) (w1 w2:PV):appP [b0,b1,some ⟨[w1,w2],true,0⟩] 2 32 .nl (.sl 2 0 1 1 2)=some (.sl 3 0 1 1 2,[b0,b1,some ⟨[w1,w2],true,0⟩,some ⟨[w1,w2],true,0⟩]):=rfl
theorem zmS {v K:Nat} (hK:K=16384) (h:v<2^K):inR v:=by subst hK;exact h
theorem zht:inR (pw 1):=by
 obtain⟨K,hK⟩:∃K,K=16384:=⟨_,rfl⟩
 have h:pw 1<2^K:=Nat.lt_of_lt_of_le (show pw 1<2^3 by decide) (Nat.pow_le_pow_right (by decide) (by omega))
 exact zmS hK h
set_option maxHeartbeats 2000000 in
theorem zjQ {F:PFin} {ks:List KI} {K:Nat} {x0:WI} (hR:inR K) (hx0:x0.v=(K:Int)) (hK:9223372036854775807<K) {fr:PFr} {v:Nat} {v1:Nat}
  (f1:fr 1=.p 0 0) (f3:fr 3=(PV.i .i64 ((0:Nat):Int))) (f6:fr 6=.nl) (f7:fr 7=.p 1 0)
  (cont:∀fr' (G:PM) (J:Nat),J≠0→fr' 1=.p 0 0→fr' 3=(PV.i .i64 ((0:Nat):Int))→fr' 6=.sl (G.length+1) 0 J J 2→K<pw J→pw (J-1)≤K→∀R,UK E0 F (.exit 2) ks fr' (some ⟨[.b (decide (x0.v<0)),D x0.v.natAbs],true,v⟩::(G++(some ⟨pwL J,true,0⟩::R)))) :
  WK E0 F (.loop ztA) ks fr [some ⟨[.b (decide (x0.v<0)),D x0.v.natAbs],true,v⟩,some ⟨[.b (decide ((pwI 0).v<0)),D (pwI 0).v.natAbs],true,v1⟩]:=by
 have R1:=zht
 have R0:inR (pw 0):=zdA (Nat.le_of_lt (zjt 0)) R1
 have cm0:=zcd x0 (pwI 0)
 have c00:(cmpI x0.v (pwI 0).v≥0)=True:=eq_true (by rw[ge_iff_le,zc0,hx0,zgN R0,zh4];omega)
 have mu0:=zj1 R0
 have le0:lerr ((pw (0+1):Nat):Int)=0:=(zc8 (z:=((pw (0+1):Nat):Int)) (by rw[Int.natAbs_natCast];exact R1)).2
 rw[le0] at mu0
 refine zdl ztA.eq_1 ?_
 simp(disch:=omega)only[go_sem,seval,wqq,f1,f3,f6,f7,cm0,c00,mu0,zsq,zat,zaf]
 refine zai ztA.eq_1 (fun(j:Nat) fr M=>1≤j∧inR (pw j)∧pw (j-1)≤K∧fr 1=.p 0 0∧fr 3=(PV.i .i64 ((0:Nat):Int))∧∃(G:PM) (r:Option PB) (v2:Nat),fr 6=.sl (G.length+1) 0 j j 2∧fr 7=.p (G.length+3) 0 ∧
  M=some ⟨[.b (decide (x0.v<0)),D x0.v.natAbs],true,v⟩::(G++[some ⟨pwL j,true,0⟩,r,some ⟨[.b (decide ((pwI j).v<0)),D (pwI j).v.natAbs],true,v2⟩])) (fun j=>K+1-pw (j-1)) ?_ 1
  ⟨Nat.le_refl _,R1,by rw[show pw (1-1)=2 from rfl];omega,by simp only[go_sem,seval,f1],by simp only[go_sem,seval,f3],[_,_],_,_,by simp only[go_sem,seval],by simp only[go_sem,seval],rfl⟩
 rintro j fr M ⟨hj,jR,hjK,f1,f3,G,r,v2,f6,f7,rfl⟩ ih
 have j14:=zfV jR
 have cm:=zcd x0 (pwI j)
 by_cases hc:pw j≤K
 ·have c0:(cmpI x0.v (pwI j).v≥0)=True:=eq_true (by rw[ge_iff_le,zc0,hx0,zgN jR];omega)
  have mu:=zj1 jR
  have apx:∀b0:Option PB,appP (b0::(G++[some ⟨pwL j,true,0⟩,r,some ⟨[.b (decide ((pwI j).v<0)),D (pwI j).v.natAbs],true,v2⟩,some ⟨[PV.b (decide ((pwI j).v<0)),D (pwI j).v.natAbs],true,0⟩])) 2 32 (.sl (G.length+1) 0 j j 2) (.sl (G.length+4) 0 1 1 2) =
   some (.sl (G.length+5) 0 (j+1) (j+1) 2,b0::(G++[none,r,some ⟨[.b (decide ((pwI j).v<0)),D (pwI j).v.natAbs],true,v2⟩,some ⟨[PV.b (decide ((pwI j).v<0)),D (pwI j).v.natAbs],true,0⟩,some ⟨pwL (j+1),true,0⟩])):=fun b0 =>
   zo0 (b0::G) (pwL j) _ _ r (some ⟨[.b (decide ((pwI j).v<0)),D (pwI j).v.natAbs],true,v2⟩) (zeb j) (by omega) (by omega)
  by_cases hn:inR (pw (j+1))
  ·have le1:lerr ((pw (j+1):Nat):Int)=0:=(zc8 (z:=((pw (j+1):Nat):Int)) (by rw[Int.natAbs_natCast];exact hn)).2
   rw[le1] at mu
   simp(disch:=omega)only[go_sem,seval,wqq,f1,f3,f6,f7,cm,c0,mu,apx,zat,zaf,mG,mG0,sG,sG0,lG,lqq]
   have:=zjt (j-1)
   rw[show j-1+1=j by omega] at this
   exact ih (j+1) _ _ (by rw[show j+1-1=j by omega];omega) ⟨by omega,hn,hc,by simp only[go_sem,seval,f1],by simp only[go_sem,seval,f3],G++[none,r,_,_],_,_,by simp only[go_sem,seval];simp,by simp only[go_sem,seval];simp,by simp;exact⟨rfl,rfl,rfl,rfl⟩⟩
  ·have le1:(lerr ((pw (j+1):Nat):Int)=0)=False:=eq_false fun q=>hn (by have:=zfb q;rwa [Int.natAbs_natCast] at this)
   simp(disch:=omega)only[go_sem,seval,wqq,f1,f3,f6,f7,cm,c0,mu,le1,apx,zat,zaf,mG,mG0,sG,sG0,lG,lqq]
   have e6:∀a b c d p q:Option PB,G++[a,b,c,d,p,q]=(G++[a,b,c,d])++(p::[q]):=fun a b c d p q=>by simp
   rw[e6]
   exact cont _ _ (j+1) (by omega) (by simp only[go_sem,seval,f1]) (by simp only[go_sem,seval,f3]) (by simp only[go_sem,seval];simp) (by
    rcases Nat.lt_or_ge K (pw (j+1)) with q|q
    ·exact q
    ·exact(hn (zdA q hR)).elim) hc [_]
 ·have c0:(cmpI x0.v (pwI j).v≥0)=False:=eq_false (by rw[ge_iff_le,zc0,hx0,zgN jR];omega)
  simp(disch:=omega)only[go_sem,seval,wqq,f1,f3,f6,f7,cm,c0,mG,mG0,sG,sG0,lG,lqq]
  exact cont _ G j (by omega) (by simp only[go_sem,seval,f1]) (by simp only[go_sem,seval,f3]) (by simp only[go_sem,seval,f6]) (by omega) hjK [_,_]
theorem zhU (x:WI):pf E0 63 [wiP x]=some (.i .i64 (nbits x.v.natAbs:Int)):=by
 by_cases hs:x.v.natAbs≤9223372036854775807
 ·exact zlq x hs
 have hR:inR x.v.natAbs:=(zbg _).1 x.lim
 obtain⟨K,hKe⟩:∃K,K=x.v.natAbs:=⟨_,rfl⟩
 rw[←hKe] at hR hs ⊢
 have hK:9223372036854775807<K:=by omega
 have sg:=zdG x
 have fin:∀(y:WI),y.v=(K:Int)→pf E0 80 [wiP y]=some (.tu [.i .i64 0,.b false]):=fun y hy=>by
  have sm:=zdd y
  have s1:isSmall (K:Int)=false:=by unfold isSmall;exact decide_eq_false (by omega)
  have s2:small (K:Int)=0:=by unfold small;rw[s1];rfl
  rw[hy,s1,s2] at sm
  exact sm
 have fr2:=zbS (n:=2) (by decide)
 have w2:wiOf 2 (by decide)=pwI 0:=WI.ext' (by rw[zgN (zdA (Nat.le_of_lt (zjt 0)) zht)];rfl)
 rw[w2] at fr2
 have nb1:1≤nbits K:=by unfold nbits;rw[if_neg (by omega)];omega
 have nbe:(nbits K:Int)-1+1=(nbits K:Int):=by omega
 have sy:∀y:WI,y.v=1→pf E0 31 [wiP y]=some (.i .i64 1):=fun y hy=>by rw[zdG,hy];rfl
 refine zab (xf:=zte) rfl (by simp[zte]) ?_
 simp only[zte]
 have nbb:nbits K≤16384:=by
  obtain⟨q,hq⟩:∃q,q=16384:=⟨_,rfl⟩
  unfold inR at hR
  rw[←hq] at hR ⊢
  exact zca hR
 by_cases hn:x.v<0
 ·have t0:(cmpI x.v 0<0)=True:=by rw[zcF];simp[hn]
  have n1:=zji x
  have hv:x.neg.v=(K:Int):=by show-x.v=_;omega
  have sm:=fin x.neg hv
  generalize x.neg=y at *
  simp(disch:=omega)only[go_sem,seval,wqq,sg,t0,n1,sm,fr2]
  refine zjQ hR hv hK (by simp only[go_sem,seval]) (by simp only[go_sem,seval]) (by simp only[go_sem,seval]) (by simp only[go_sem,seval]) ?_
  intro fr' G J hJ f1 f3 f6 hlt hle R
  have J14:=zfV (zdA hle hR)
  simp(disch:=omega)only[go_sem,seval,wqq,f6]
  refine zjR hR hv (by omega) hlt (.inr hle) (by simp only[go_sem,seval,f1]) (by simp only[go_sem,seval,f3]) (by rw[if_neg hJ];simp only[go_sem,seval,f6]) (by simp only[go_sem,seval]) ?_
  intro fr'' v' y1 hy1 g1 g3
  have syy:=sy y1 hy1
  simp(disch:=omega)only[go_sem,seval,wqq,g1,g3,syy,nbe]
 ·have t0:(cmpI x.v 0<0)=False:=by rw[zcF];simp[hn]
  have hv:x.v=(K:Int):=by omega
  have sm:=fin x hv
  simp(disch:=omega)only[go_sem,seval,wqq,sg,t0,sm,fr2]
  refine zjQ hR hv hK (by simp only[go_sem,seval]) (by simp only[go_sem,seval]) (by simp only[go_sem,seval]) (by simp only[go_sem,seval]) ?_
  intro fr' G J hJ f1 f3 f6 hlt hle R
  have J14:=zfV (zdA hle hR)
  simp(disch:=omega)only[go_sem,seval,wqq,f6]
  refine zjR hR hv (by omega) hlt (.inr hle) (by simp only[go_sem,seval,f1]) (by simp only[go_sem,seval,f3]) (by rw[if_neg hJ];simp only[go_sem,seval,f6]) (by simp only[go_sem,seval]) ?_
  intro fr'' v' y1 hy1 g1 g3
  have syy:=sy y1 hy1
  simp(disch:=omega)only[go_sem,seval,wqq,g1,g3,syy,nbe]
theorem zhN (x:FQ):pf E0 44 [fqP x]=some (.i .i64 ((max (nbits x.p.v.natAbs) (nbits x.q.v.natAbs):Nat):Int)):=by
 have a1:=znB x
 have a2:=zdI x
 have d1:=zhU x.p
 have d2:=zhU x.q
 generalize nbits x.p.v.natAbs=a at *
 generalize nbits x.q.v.natAbs=b at *
 have hm:mmP true (.i .i64 (a:Int)) [.i .i64 (b:Int)]=some (.i .i64 ((max a b:Nat):Int)):=by
  simp only[mmP,if_true]
  congr 2
  split<;>omega
 refine zab (xf:=ztE) rfl (by simp[ztE]) ?_
 simp only[ztE]
 simp(disch:=omega)only[go_sem,seval,wqq]
 refine zaN [1] rfl (by simp only[go_sem,seval]) ?_
 simp(disch:=omega)only[go_sem,seval,wqq,a1,a2,d1,d2,hm]
end Go.Eng
namespace Go.Eng
theorem zoW {a b:Nat} (la:wlen a≤512) (lb:wlen b≤512) (h:D a=D b):a=b:=by
 have h1:=zaT a b (by omega) (by omega)
 have h2:=zaT a a (by omega) (by omega)
 rw[←h,h2] at h1
 have e:cmpI (a:Int) a=cmpI (a:Int) b:=by simpa using h1
 have z:cmpI (a:Int) a=0:=by simp[cmpI]
 rw[z] at e
 unfold cmpI at e
 split at e
 ·exact absurd e (by decide)
 ·split at e
  ·exact absurd e (by decide)
  ·omega
theorem zks {x y:WI} (h:wc x=wc y):x=y:=by
 unfold wc at h
 injection h with h1 h2
 injection h2 with h2 _
 have e:=zoW x.lim y.lim h2
 have s:(x.v<0)↔(y.v<0):=by
  injection h1 with h1
  simpa using h1
 exact ziw (by omega)
theorem ziV {f g:FQ} (h:fqP f=fqP g):f=g:=by
 have h:PV.ag (wc f.p++wc f.l)=PV.ag (wc g.p++wc g.l):=h
 injection h with h
 obtain⟨h1,h2⟩:=List.append_inj h rfl
 have e1:=zks h1
 have e2:=zks h2
 refine zhi (by rw[e1]) ?_
 have:f.q.v-1=g.q.v-1:=congrArg WI.v e2
 omega
theorem zip {f g:FQ} {d e:Int} (h:some (PV.tu [fqP f,.i .i64 d])=some (.tu [fqP g,.i .i64 e])):f=g∧d=e:=by
 simp only[Option.some.injEq,PV.tu.injEq,List.cons.injEq,PV.i.injEq,true_and,and_true] at h
 exact⟨ziV h.1,h.2⟩
theorem zfi (a b:FQ):∃(f:FQ) (e:Int),pf E0 8 [fqP a,fqP b]=some (.tu [fqP f,.i .i64 e]):=by
 obtain⟨h1,h2⟩:=zj8 a b
 by_cases h:inR (muP a b).natAbs∧inR (muQ a b).natAbs
 ·obtain⟨f,_,_,q⟩:=h1 h;exact⟨f,0,q⟩
 ·exact⟨_,_,h2 h⟩
theorem zeV (a b:FQ):∃(f:FQ) (e:Int),pf E0 9 [fqP a,fqP b]=some (.tu [fqP f,.i .i64 e]):=by
 obtain⟨h1,h2⟩:=zj7 a b
 by_cases h:adOk a b
 ·obtain⟨f,_,_,q⟩:=h1 h;exact⟨f,0,q⟩
 ·exact⟨_,_,h2 h⟩
noncomputable def mF (a b:FQ):FQ:=(zfi a b).choose
noncomputable def mFe (a b:FQ):Int:=(zfi a b).choose_spec.choose
theorem zra (a b:FQ):pf E0 8 [fqP a,fqP b]=some (.tu [fqP (mF a b),.i .i64 (mFe a b)]):=(zfi a b).choose_spec.choose_spec
noncomputable def aF (a b:FQ):FQ:=(zeV a b).choose
noncomputable def aFe (a b:FQ):Int:=(zeV a b).choose_spec.choose
theorem zq9 (a b:FQ):pf E0 9 [fqP a,fqP b]=some (.tu [fqP (aF a b),.i .i64 (aFe a b)]):=(zeV a b).choose_spec.choose_spec
theorem zpK (a b:FQ) {n m:Nat} {x d y e:Int} (ha:fsz n a) (hb:fsz m b) (h:n+m<1230) (xa:a.is x d) (xb:b.is y e):(mF a b).is (x*y) (d*e)∧fsz (n+m) (mF a b)∧mFe a b=0:=by
 obtain⟨f,h1,h2,h3⟩:=zm5 a b ha hb h xa xb
 rw[zra] at h1
 obtain⟨e1,e2⟩:=zip h1
 rw[e1];exact⟨h2,h3,e2⟩
theorem zoX (a b:FQ) {n m:Nat} {x d y e:Int} (ha:fsz n a) (hb:fsz m b) (h:n+m+1<1230) (xa:a.is x d) (xb:b.is y e):(aF a b).is (x*e+y*d) (d*e)∧fsz (n+m+1) (aF a b)∧aFe a b=0:=by
 obtain⟨f,h1,h2,h3⟩:=zmb a b ha hb h xa xb
 rw[zq9] at h1
 obtain⟨e1,e2⟩:=zip h1
 rw[e1];exact⟨h2,h3,e2⟩
noncomputable def whQ (n:Int):FQ:=if h:Fits64 n then ⟨wiOf n h,wi1,by decide,Nat.gcd_one_right _⟩ else fq0
theorem zl2 {n:Int} (h:Fits64 n):(whQ n).p.v=n∧(whQ n).q.v=1:=by
 unfold whQ
 rw[dif_pos h]
 exact⟨rfl,rfl⟩
theorem zku {n:Int} (h:Fits64 n):pf E0 17 [.i .i64 n,.i .i64 1]=some (.tu [fqP (whQ n),.i .i64 0]):=by
 obtain⟨f,h1,h2,h3⟩:=znC h (q:=1) (by decide) (by decide)
 obtain⟨l1,l2⟩:=zf0 (p:=n) (q:=1) (by decide) (Nat.gcd_one_right _)
 obtain⟨v1,v2⟩:=zl2 h
 obtain rfl:f=whQ n:=zhi ((h1.trans l1).trans v1.symm) ((h2.trans l2).trans v2.symm)
 exact h3
theorem zkt {n:Int} (h:Fits64 n):(whQ n).is n 1∧fsz 5 (whQ n):=by
 obtain⟨v1,v2⟩:=zl2 h
 refine⟨?_,?_,?_⟩
 ·show (whQ n).p.v*1=n*(whQ n).q.v
  rw[v1,v2]
 ·rw[v1];exact zqZ h
 ·rw[v2];exact zaQ (by decide)
theorem zfm {n:Int} (h:Fits64 n):pf E0 425 [.i .i64 n]=some (fqP (whQ n)):=by
 have o:=zku h
 refine zab (xf:=ztP) rfl (by simp[ztP]) ?_
 simp only[ztP]
 simp(disch:=omega)only[go_sem,seval,wqq,o]
end Go.Eng
namespace Go.Eng
noncomputable def qc (f:FQ):List PV:=[.b (decide (f.p.v<0)),D f.p.v.natAbs,.b (decide (f.l.v<0)),D f.l.v.natAbs]
theorem zoF (f:FQ):PV.ag (qc f)=fqP f:=_root_.id rfl
theorem zh5 (f:FQ):(qc f).length=4:=_root_.id rfl
theorem zfr (f:FQ):(qc f).take 4=qc f:=_root_.id rfl
theorem zkf (a b c d:PV) (f:FQ):psplice [a,b,c,d] 0 [.b (decide (f.p.v<0)),D f.p.v.natAbs,.b (decide (f.l.v<0)),D f.l.v.natAbs]=qc f:=_root_.id rfl
theorem zlG (g f:FQ):psplice (qc g) 0 [.b (decide (f.p.v<0)),D f.p.v.natAbs,.b (decide (f.l.v<0)),D f.l.v.natAbs]=qc f:=_root_.id rfl
structure QZ (L:List PV) (f:FQ):Prop where
 len:L.length=4
 sc:L.all PV.scal=true
 fz:∀(M:PM) (d:Nat),fzL (fz M (d+1)) L=some (qc f,[])
theorem QZ.tk {L:List PV} {s:FQ} (h:QZ L s):L.take 4=L:=List.take_of_length_le (by rw[h.len];omega)
theorem QZ.spl {L:List PV} {s:FQ} (h:QZ L s) (f:FQ):psplice L 0 [.b (decide (f.p.v<0)),D f.p.v.natAbs,.b (decide (f.l.v<0)),D f.l.v.natAbs]=qc f:=by
 unfold psplice
 rw[List.take_zero,List.drop_eq_nil_of_le (by rw[h.len];exact Nat.le_refl _),List.nil_append,List.append_nil];rfl
theorem qz0:QZ [.b false,.nl,.b false,.nl] fq0:=⟨rfl,rfl,fun _ _=>rfl⟩
theorem qzs (f:FQ):QZ (qc f) f:=⟨rfl,rfl,fun _ _=>rfl⟩
theorem zsI (a b c d:PV) (L:List PV) (h:L.length=4):psplice [a,b,c,d] 0 L=L:=by
 unfold psplice
 rw[List.take_zero,List.drop_eq_nil_of_le (by rw[h];exact Nat.le_refl _),List.nil_append,List.append_nil]
def fwD (f:FQ):Prop:=max (nbits f.p.v.natAbs) (nbits f.q.v.natAbs)≤1000
noncomputable def tF (U:Nat→FQ) (t:FQ) (l:List Int):FQ:=l.foldl (fun t a=>mF t (U a.toNat)) t
noncomputable def sF (c:Nat→Int) (U:Nat→FQ):Nat→FQ
 | 0=>fq0
 | i+1=>if c i=0 then sF c U i else aF (sF c U i) (tF U (whQ (c i)) (facL i))
def preL (i j:Nat):List Int:=(List.range j).flatMap fun j'=>List.replicate (exN i j') (j':Int)
theorem zjs:∀i,i<20→preL i 3=facL i:=by decide
theorem zh0 (i j:Nat):preL i (j+1)=preL i j++List.replicate (exN i j) (j:Int):=by
 unfold preL
 rw[List.range_succ,List.flatMap_append];simp
theorem zlU (U:Nat→FQ) (t:FQ) (i j k:Nat):tF U t (preL i j++List.replicate (k+1) (j:Int))=mF (tF U t (preL i j++List.replicate k (j:Int))) (U j):=by
 unfold tF
 rw[List.replicate_succ',←List.append_assoc,List.foldl_append];rfl
open Classical in
noncomputable def evE (c:Nat→Int) (U:Nat→FQ):Int:=if okC c then (if ∀j,j<3→fwD (U j) then 0 else 4) else 1
noncomputable def evR (c:Nat→Int) (U:Nat→FQ):FQ:=if evE c U=0 then sF c U 20 else fq0
theorem zlf {c:Nat→Int} (h:¬okC c) (u v w:FQ):pf E0 409 [aI 20 c,fqP u,fqP v,fqP w]=some (.tu [fqP fq0,.i .i64 1]):=by
 have va:=zaB c
 have:vlC c=1:=if_neg h
 rw[this] at va
 have z0:=zkL
 refine zab (xf:=zto) rfl (by simp[zto]) ?_
 simp only[zto]
 simp(disch:=omega)only[go_sem,seval,wqq,va,zat,zaf,zkL]
set_option maxHeartbeats 8000000 in
theorem zlg {c:Nat→Int} (hc:okC c) {U:Nat→FQ}:pf E0 409 [aI 20 c,fqP (U 0),fqP (U 1),fqP (U 2)]=some (.tu [fqP (evR c U),.i .i64 (evE c U)]):=by
 have va:=zaB c
 have:vlC c=0:=if_pos hc
 rw[this] at va
 refine zab (xf:=zto) rfl (by simp[zto]) ?_
 simp only[zto]
 simp(disch:=omega)only[go_sem,seval,wqq,va,zat,zaf]
 refine zai zuE.eq_1 (fun(j:Nat) fr M=>j≤3∧(∀e,e<j→fwD (U e))∧fr 4=.p 0 0∧fr 8=.p 4 0∧fr 11=.p 5 0∧fr 30=.ag (cg 3 fun e=>qc (U e))∧fr 31=(PV.i .i64 ((j:Nat):Int))∧∃b1 b2 b3 v G,M=some ⟨cs 20 c,true,0⟩::b1::b2::b3::some ⟨[.b false,.nl,.b false,.nl],true,0⟩::some ⟨cg 3 fun e=>qc (U e),true,v⟩::G) (fun j=>3-j) ?_ 0 ⟨by omega,fun e he=>by omega,by simp only[go_sem,seval],by simp only[go_sem,seval],by simp only[go_sem,seval],by simp only[go_sem,seval];rfl,by simp only[go_sem,seval],_,_,_,_,[],rfl⟩
 rintro j fr M ⟨hj,hlo,f4,f8,f11,f30,f31,b1,b2,b3,v,G,rfl⟩ ih
 rcases Nat.lt_or_ge j 3 with h|h
 ·have q1:((j:Int)<3)=True:=eq_true (by omega)
  have qL:(j<3)=True:=eq_true h
  have cx:=zfF (k:=4) (f:=fun e=>qc (U e)) (fun _=>rfl) h
  have cl:(cg 3 fun e=>qc (U e)).length=12:=zdv (k:=4) (fun _=>rfl) 3
  have dg:=zhN (U j)
  simp(disch:=omega)only[go_sem,seval,wqq,f4,f8,f11,f30,f31,q1,qL,cx,cl,zoF,zkf,zfr,zh5,dg,mG,mG0,sG,sG0,lG,lqq]
  by_cases hw:fwD (U j)
  ·have t1:(1000<((max (nbits (U j).p.v.natAbs) (nbits (U j).q.v.natAbs):Nat):Int))=False:=eq_false (by unfold fwD at hw;omega)
   simp(disch:=omega)only[go_sem,seval,wqq,f4,f8,f11,f30,f31,t1,mG,mG0,sG,sG0,lG,lqq]
   refine ih (j+1) _ _ (by omega) ⟨by omega,fun e he=>?_,by simp only[go_sem,seval,f4],by simp only[go_sem,seval,f8],by simp only[go_sem,seval,f11],by simp only[go_sem,seval,f30],by simp only[go_sem,seval,f31];rw[Int.natCast_succ],_,_,_,_,_,rfl⟩
   rcases Nat.lt_or_ge e j with z|z
   ·exact hlo e z
   ·obtain rfl:e=j:=by omega
    exact hw
  ·have t1:(1000<((max (nbits (U j).p.v.natAbs) (nbits (U j).q.v.natAbs):Nat):Int))=True:=eq_true (by unfold fwD at hw;omega)
   have e1:evE c U=4:=by unfold evE;rw[if_pos hc,if_neg fun q=>hw (q j h)]
   have e2:evR c U=fq0:=by unfold evR;rw[e1];rfl
   rw[e1,e2]
   simp(disch:=omega)only[go_sem,seval,wqq,f4,f8,f11,f30,f31,t1,zat,zaf,zkL,mG,mG0,sG,sG0,lG,lqq]
 ·obtain rfl:j=3:=by omega
  have e1:evE c U=0:=by unfold evE;rw[if_pos hc,if_pos hlo]
  have e2:evR c U=sF c U 20:=by unfold evR;rw[e1];rfl
  rw[e1,e2]
  clear ih e1 e2 hlo va
  simp(disch:=omega)only[go_sem,seval,wqq,f4,f8,f11,f30,f31,zat,zaf,mG,mG0,sG,sG0,lG,lqq]
  refine zai zuF.eq_1 (fun(i:Nat) fr M=>i≤20∧fr 8=.p 4 0∧fr 11=.p 5 0∧fr 14=.p (G.length+6) 0∧fr 40=aI 20 c∧fr 41=(PV.i .i64 ((i:Nat):Int))∧∃b0 b1 b2 b3 v vs H L,QZ L (sF c U i)∧M=b0::b1::b2::b3::some ⟨[.b false,.nl,.b false,.nl],true,0⟩::some ⟨cg 3 fun e=>qc (U e),true,v⟩::(G++some ⟨L,true,vs⟩::H)) (fun i=>20-i) ?_ 0 ⟨by omega,by simp only[go_sem,seval,f8],by simp only[go_sem,seval,f11],by simp only[go_sem,seval],by simp only[go_sem,seval],by simp only[go_sem,seval],_,_,_,_,_,_,[],_,qz0,rfl⟩
  rintro i fr M ⟨hi,f8,f11,f14,f40,f41,b0,b1,b2,b3,v,vs,H,L,qz,rfl⟩ ih
  have z1:=qz.len
  have z2:=qz.sc
  have z3:=qz.fz
  have z4:=qz.tk
  have z5:=qz.spl
  rcases Nat.lt_or_ge i 20 with h|h
  ·have q1:((i:Int)<20)=True:=eq_true (by omega)
   have qL:(i<20)=True:=eq_true h
   have ix:=zdp c h
   by_cases c0:c i=0
   ·have c0':(c i=0)=True:=eq_true c0
    have hs:sF c U (i+1)=sF c U i:=if_pos c0
    simp(disch:=omega)only[go_sem,seval,wqq,f8,f11,f14,f40,f41,q1,qL,ix,c0',mG,mG0,sG,sG0,lG,lqq]
    exact ih (i+1) _ _ (by omega) ⟨by omega,by simp only[go_sem,seval,f8],by simp only[go_sem,seval,f11],by simp only[go_sem,seval,f14],by simp only[go_sem,seval,f40],by simp only[go_sem,seval,f41];rw[Int.natCast_succ],_,_,_,_,_,_,_,_,hs ▸ qz,rfl⟩
   ·have c0':(c i=0)=False:=eq_false c0
    have hs:sF c U (i+1)=aF (sF c U i) (tF U (whQ (c i)) (facL i)):=if_neg c0
    have ck:Fits64 (c i):=by have:=hc i h;unfold Fits64;omega
    have k1:=zfm ck
    have rw3:=zer (n:=60) mE (off:=i*3) (k:=3) (by omega)
    have rl:(3≤((cs 60 mE).drop (i*3)).length)=True:=eq_true (by rw[List.length_drop,zb5];omega)
    simp(disch:=omega)only[go_sem,seval,wqq,f8,f11,f14,f40,f41,q1,qL,ix,c0',k1,zjN,rw3,rl,zkf,mG,mG0,sG,sG0,lG,lqq]
    refine zai zuD.eq_1 (fun(j:Nat) fr M=>j≤3∧fr 8=.p 4 0∧fr 11=.p 5 0∧fr 14=.p (G.length+6) 0∧fr 17=.p (G.length+(H.length+1)+6) 0∧fr 40=aI 20 c∧fr 41=(PV.i .i64 ((i:Nat):Int))∧fr 51=aI 3 (fun e=>mE (i*3+e))∧fr 52=(PV.i .i64 ((j:Nat):Int))∧∃b0 b1 b2 b3 v vs vt,M=b0::b1::b2::b3::some ⟨[.b false,.nl,.b false,.nl],true,0⟩::some ⟨cg 3 fun e=>qc (U e),true,v⟩::(G++some ⟨L,true,vs⟩::(H++[some ⟨qc (tF U (whQ (c i)) (preL i j)),true,vt⟩]))) (fun j=>3-j) ?_ 0 ⟨by omega,by simp only[go_sem,seval,f8],by simp only[go_sem,seval,f11],by simp only[go_sem,seval,f14],by simp only[go_sem,seval],by simp only[go_sem,seval,f40],by simp only[go_sem,seval,f41],by simp only[go_sem,seval],by simp only[go_sem,seval],_,_,_,_,_,_,_,rfl⟩
    rintro j fr M ⟨hj,f8,f11,f14,f17,f40,f41,f51,f52,b0,b1,b2,b3,v,vs,vt,rfl⟩ ih2
    rcases Nat.lt_or_ge j 3 with h3|h3
    ·have q2:((j:Int)<3)=True:=eq_true (by omega)
     have qJ:(j<3)=True:=eq_true h3
     have iy:=zdp (fun e=>mE (i*3+e)) h3
     obtain⟨e1,e2⟩:=zaZ i h j h3
     rw[e1] at iy
     simp(disch:=omega)only[go_sem,seval,wqq,f8,f11,f14,f17,f40,f41,f51,f52,q2,qJ,iy,mG,mG0,sG,sG0,lG,lqq]
     refine zai zuG.eq_1 (fun(k:Nat) fr M=>k≤exN i j∧fr 8=.p 4 0∧fr 11=.p 5 0∧fr 14=.p (G.length+6) 0∧fr 17=.p (G.length+(H.length+1)+6) 0∧fr 40=aI 20 c∧fr 41=(PV.i .i64 ((i:Nat):Int))∧fr 51=aI 3 (fun e=>mE (i*3+e))∧fr 52=(PV.i .i64 ((j:Nat):Int))∧fr 18=(PV.i .i64 ((j:Nat):Int))∧fr 56=(PV.i .i64 ((exN i j:Nat):Int))∧fr 57=(PV.i .i64 ((k:Nat):Int))∧∃b0 b1 b2 b3 v vs vt,M=b0::b1::b2::b3::some ⟨[.b false,.nl,.b false,.nl],true,0⟩::some ⟨cg 3 fun e=>qc (U e),true,v⟩::(G++some ⟨L,true,vs⟩::(H++[some ⟨qc (tF U (whQ (c i)) (preL i j++List.replicate k (j:Int))),true,vt⟩]))) (fun k=>exN i j-k) ?_ 0 ⟨by omega,by simp only[go_sem,seval,f8],by simp only[go_sem,seval,f11],by simp only[go_sem,seval,f14],by simp only[go_sem,seval,f17],by simp only[go_sem,seval,f40],by simp only[go_sem,seval,f41],by simp only[go_sem,seval,f51],by simp only[go_sem,seval,f52],by simp only[go_sem,seval],by simp only[go_sem,seval],by simp only[go_sem,seval],_,_,_,_,_,_,_,by rw[List.replicate_zero,List.append_nil]⟩
     rintro k fr M ⟨hk,f8,f11,f14,f17,f40,f41,f51,f52,f18,f56,f57,b0,b1,b2,b3,v,vs,vt,rfl⟩ ih3
     rcases Nat.lt_or_ge k (exN i j) with h4|h4
     ·have q3:((k:Int)<(exN i j:Int))=True:=eq_true (by omega)
      have cx:=zfF (k:=4) (f:=fun e=>qc (U e)) (fun _=>rfl) h3
      have cl:(j*4+4≤(cg 3 fun e=>qc (U e)).length)=True:=eq_true (by rw[zdv (k:=4) (fun _=>rfl)];exact zkz h3)
      have st:=zlU U (whQ (c i)) i j k
      have pm:=zra (tF U (whQ (c i)) (preL i j++List.replicate k (j:Int))) (U j)
      simp(disch:=omega)only[go_sem,seval,wqq,f8,f11,f14,f17,f40,f41,f51,f52,f18,f56,f57,q3,qJ,cx,cl,pm,zoF,zfr,zh5,zlG,mG,mG0,sG,sG0,lG,lqq]
      exact ih3 (k+1) _ _ (by omega) ⟨by omega,by simp only[go_sem,seval,f8],by simp only[go_sem,seval,f11],by simp only[go_sem,seval,f14],by simp only[go_sem,seval,f17],by simp only[go_sem,seval,f40],by simp only[go_sem,seval,f41],by simp only[go_sem,seval,f51],by simp only[go_sem,seval,f52],by simp only[go_sem,seval,f18],by simp only[go_sem,seval,f56],by simp only[go_sem,seval,f57];rw[Int.natCast_succ],_,_,_,_,_,_,_,by rw[st]⟩
     ·obtain rfl:k=exN i j:=by omega
      have q3:((exN i j:Int)<(exN i j:Int))=False:=eq_false (Int.lt_irrefl _)
      simp(disch:=omega)only[go_sem,seval,wqq,f8,f11,f14,f17,f40,f41,f51,f52,f18,f56,f57,q3,mG,mG0,sG,sG0,lG,lqq]
      exact ih2 (j+1) _ _ (by omega) ⟨by omega,by simp only[go_sem,seval,f8],by simp only[go_sem,seval,f11],by simp only[go_sem,seval,f14],by simp only[go_sem,seval,f17],by simp only[go_sem,seval,f40],by simp only[go_sem,seval,f41],by simp only[go_sem,seval,f51],by simp only[go_sem,seval,f52];rw[Int.natCast_succ],_,_,_,_,_,_,_,by rw[zh0]⟩
    ·obtain rfl:j=3:=by omega
     rw[zjs i h]
     generalize tF U (whQ (c i)) (facL i)=t at *
     have pa:=zq9 (sF c U i) t
     generalize sF c U i=s at *
     simp(disch:=omega)only[go_sem,seval,wqq,f8,f11,f14,f17,f40,f41,f51,f52,z1,z2,z3,z4,z5,pa,zoF,zfr,zh5,mG,mG0,sG,sG0,lG,lqq]
     refine ih (i+1) _ _ (by omega) ⟨by omega,by simp only[go_sem,seval,f8],by simp only[go_sem,seval,f11],by simp only[go_sem,seval,f14],by simp only[go_sem,seval,f40],by simp only[go_sem,seval,f41];rw[Int.natCast_succ],_,_,_,_,_,_,_,_,hs ▸ qzs _,rfl⟩
  ·obtain rfl:i=20:=by omega
   have sp:=zsI (.b false) .nl (.b false) .nl L z1
   simp(disch:=omega)only[go_sem,seval,wqq,f8,f11,f14,f40,f41,z1,z2,z3,z4,z5,sp,zoF,mG,mG0,sG,sG0,lG,lqq]
end Go.Eng
namespace Go.Eng
theorem zlh {c:Nat→Int} {U:Nat→FQ}:pf E0 409 [aI 20 c,fqP (U 0),fqP (U 1),fqP (U 2)]=some (.tu [fqP (evR c U),.i .i64 (evE c U)]):=by
 by_cases hc:okC c
 ·exact zlg hc
 ·have e1:evE c U=1:=if_neg hc
  have e2:evR c U=fq0:=by unfold evR;rw[e1];rfl
  rw[e1,e2]
  exact zlf hc _ _ _
theorem zmU {f:FQ} {n d:Int} {k:Nat} (h:f.is n d) (hd:d≠0) (hn:tlen n.natAbs≤k) (hl:tlen d.natAbs≤k) (hk:k<1230):fsz k f:=by
 obtain⟨g,g1,g2,g3⟩:=zmX hd hn hl hk
 obtain rfl:f=g:=zkU hd hd h (zhv hd g1 g2) rfl
 exact g3
theorem zhu {f:FQ} {n d k:Int} (hk:k≠0) (h:f.is (n*k) (d*k)):f.is n d:=by
 have h:f.p.v*(d*k)=n*k*f.q.v:=h
 show f.p.v*d=n*f.q.v
 refine Int.eq_of_mul_eq_mul_right hk ?_
 rw[Int.mul_assoc,h]
 grind
def pP (U:Nat→FQ):Nat→Int:=fun j=>(U j).p.v
def qQ (U:Nat→FQ):Nat→Int:=fun j=>(U j).q.v
theorem zn0 {U:Nat→FQ} {n:Nat} (hU:∀j,j<3→fsz n (U j)):∀(l:List Int) (t:FQ) (x d:Int) (m:Nat),(∀a∈l,a=0∨a=1∨a=2)→t.is x d→fsz m t→m+n*l.length<1230 →
  (tF U t l).is (x*prL (pP U) l) (d*prL (qQ U) l)∧fsz (m+n*l.length) (tF U t l)
 | [],t,x,d,m,_,h1,h2,_=>by
  show t.is (x*1) (d*1)∧fsz (m+n*0) t
  rw[Int.mul_one,Int.mul_one]
  exact⟨h1,h2⟩
 | a::l,t,x,d,m,ha,h1,h2,h3=>by
  have ej:a.toNat<3:=by rcases ha a List.mem_cons_self with rfl|rfl|rfl<;>decide
  rw[List.length_cons,Nat.mul_succ] at h3
  obtain⟨i1,i2,_⟩:=zpK t (U a.toNat) h2 (hU _ ej) (by omega) h1 (zkT _)
  obtain⟨k1,k2⟩:=zn0 hU l (mF t (U a.toNat)) _ _ (m+n) (fun b hb=>ha b (List.mem_cons_of_mem _ hb)) i1 i2 (by omega)
  have e:tF U t (a::l)=tF U (mF t (U a.toNat)) l:=rfl
  rw[e]
  refine⟨?_,?_⟩
  ·have e1:x*prL (pP U) (a::l)=x*(U a.toNat).p.v*prL (pP U) l:=by rw[prL,←Int.mul_assoc];rfl
   have e2:d*prL (qQ U) (a::l)=d*(U a.toNat).q.v*prL (qQ U) l:=by rw[prL,←Int.mul_assoc];rfl
   rw[e1,e2];exact k1
  ·rw[List.length_cons,Nat.mul_succ]
   exact⟨Nat.le_trans k2.1 (by omega),Nat.le_trans k2.2 (by omega)⟩
def coV (Q:Nat→Int) (i:Nat):Int:=Q 0^(3-exN i 0)*Q 1^(3-exN i 1)*Q 2^(3-exN i 2)
def dnV (Q:Nat→Int):Int:=Q 0^3*Q 1^3*Q 2^3
theorem zqk (x:Int) {e:Nat} (h:e≤3):x^e*x^(3-e)=x^3:=by rw[←Int.pow_add];congr 1;omega
theorem zm3 (Q:Nat→Int) {i:Nat} (h:i<20):moV Q i*coV Q i=dnV Q:=by
 have h0:=zqk (Q 0) (zaZ i h 0 (by decide)).2
 have h1:=zqk (Q 1) (zaZ i h 1 (by decide)).2
 have h2:=zqk (Q 2) (zaZ i h 2 (by decide)).2
 have e:moV Q i=1*Q 0^exN i 0*Q 1^exN i 1*Q 2^exN i 2:=rfl
 rw[e]
 unfold coV dnV
 rw[←h0,←h1,←h2]
 grind
theorem zaR {x:Int} {n:Nat} (h:tlen x.natAbs≤n):∀k:Nat,tlen (x^k).natAbs≤1+n*k
 | 0=>by rw[Int.pow_zero];have:=zkl (z:=1) (by decide);omega
 | k+1=>by
  have:=zaR h k
  have m:=zas (x^k) x
  rw[Int.pow_succ,Nat.mul_succ]
  omega
theorem zmB {U:Nat→FQ}:dnV (qQ U)≠0:=by
 have q:∀j,(qQ U j)≠0:=fun j=>by have:=(U j).q1;show (U j).q.v≠0;omega
 exact Int.mul_ne_zero (Int.mul_ne_zero (Int.pow_ne_zero (q 0)) (Int.pow_ne_zero (q 1))) (Int.pow_ne_zero (q 2))
def evS (c P Q:Nat→Int) (i:Nat):Int:=sumT (fun i=>c i*moV P i*coV Q i) i
theorem zim {c P Q:Nat→Int} {n i:Nat} (hc:okC c) (h:i<20) (hP:∀j,j<3→tlen (P j).natAbs≤n) (hQ:∀j,j<3→tlen (Q j).natAbs≤n):tlen (c i*moV P i*coV Q i).natAbs≤11+9*n:=by
 have ck:Fits64 (c i):=by have:=hc i h;unfold Fits64;omega
 have a0:=zqZ ck
 have e:moV P i=1*P 0^exN i 0*P 1^exN i 1*P 2^exN i 2:=rfl
 have d0:=(zaZ i h 0 (by decide)).2
 have d1:=(zaZ i h 1 (by decide)).2
 have d2:=(zaZ i h 2 (by decide)).2
 have p0:=zaR (hP 0 (by decide)) (exN i 0)
 have p1:=zaR (hP 1 (by decide)) (exN i 1)
 have p2:=zaR (hP 2 (by decide)) (exN i 2)
 have q0:=zaR (hQ 0 (by decide)) (3-exN i 0)
 have q1:=zaR (hQ 1 (by decide)) (3-exN i 1)
 have q2:=zaR (hQ 2 (by decide)) (3-exN i 2)
 have s0:n*exN i 0+n*(3-exN i 0)=n*3:=by rw[←Nat.mul_add];congr 1;omega
 have s1:n*exN i 1+n*(3-exN i 1)=n*3:=by rw[←Nat.mul_add];congr 1;omega
 have s2:n*exN i 2+n*(3-exN i 2)=n*3:=by rw[←Nat.mul_add];congr 1;omega
 rw[e,Int.one_mul]
 unfold coV
 generalize exN i 0=x0 at *
 generalize exN i 1=x1 at *
 generalize exN i 2=x2 at *
 have m1:=zas (P 0^x0) (P 1^x1)
 have m2:=zas (P 0^x0*P 1^x1) (P 2^x2)
 have m3:=zas (c i) (P 0^x0*P 1^x1*P 2^x2)
 have m4:=zas (Q 0^(3-x0)) (Q 1^(3-x1))
 have m5:=zas (Q 0^(3-x0)*Q 1^(3-x1)) (Q 2^(3-x2))
 have m6:=zas (c i*(P 0^x0*P 1^x1*P 2^x2)) (Q 0^(3-x0)*Q 1^(3-x1)*Q 2^(3-x2))
 omega
theorem znW {c:Nat→Int} {U:Nat→FQ} {n:Nat} (hc:okC c) (hn:n≤76) (hU:∀j,j<3→fsz n (U j)):∀i,i≤20→(sF c U i).is (evS c (pP U) (qQ U) i) (dnV (qQ U))∧tlen (evS c (pP U) (qQ U) i).natAbs≤12+9*n+i∧fsz 750 (sF c U i)
 | 0,_=>by
  have z:tlen (0:Int).natAbs=0:=by rw[Int.natAbs_zero,zin]
  refine⟨?_,?_,?_⟩
  ·show (0:Int)*dnV (qQ U)=0*1
   rw[Int.zero_mul,Int.zero_mul]
  ·show tlen (0:Int).natAbs≤_
   omega
  ·refine⟨?_,?_⟩
   ·show tlen (0:Int).natAbs≤750;omega
   ·show tlen (1:Int).natAbs≤750
    have:=zkl (z:=1) (by decide);omega
 | i+1,hi=>by
  obtain⟨h1,h2,h3⟩:=znW hc hn hU i (by omega)
  have es:evS c (pP U) (qQ U) (i+1)=evS c (pP U) (qQ U) i+c i*moV (pP U) i*coV (qQ U) i:=rfl
  have tt:tlen (c i*moV (pP U) i*coV (qQ U) i).natAbs≤11+9*n:=zim (P:=pP U) (Q:=qQ U) (i:=i) (n:=n) hc (by omega) (fun j hj=>(hU j hj).1) (fun j hj=>(hU j hj).2)
  have ta:=zeM (evS c (pP U) (qQ U) i) (c i*moV (pP U) i*coV (qQ U) i)
  have td:tlen (dnV (qQ U)).natAbs≤3+9*n:=by
   have a:=zaR (hU 0 (by decide)).2 3
   have b:=zaR (hU 1 (by decide)).2 3
   have d:=zaR (hU 2 (by decide)).2 3
   have m1:=zas (qQ U 0^3) (qQ U 1^3)
   have m2:=zas (qQ U 0^3*qQ U 1^3) (qQ U 2^3)
   unfold dnV
   have a:tlen (qQ U 0^3).natAbs≤1+n*3:=a
   have b:tlen (qQ U 1^3).natAbs≤1+n*3:=b
   have d:tlen (qQ U 2^3).natAbs≤1+n*3:=d
   omega
  by_cases c0:c i=0
  ·have hs:sF c U (i+1)=sF c U i:=if_pos c0
   rw[hs,es,c0,Int.zero_mul,Int.zero_mul,Int.add_zero]
   exact⟨h1,by omega,h3⟩
  ·have hs:sF c U (i+1)=aF (sF c U i) (tF U (whQ (c i)) (facL i)):=if_neg c0
   have ck:Fits64 (c i):=by have:=hc i (by omega);unfold Fits64;omega
   obtain⟨w1,w2⟩:=zkt ck
   obtain⟨f1,f2,_⟩:=zjX i (by omega)
   have nl:n*(facL i).length≤n*3:=Nat.mul_le_mul_left _ f2
   obtain⟨t1,t2⟩:=zn0 hU (facL i) (whQ (c i)) _ _ 5 f1 w1 w2 (by omega)
   rw[zjW _ (show i<20 by omega),zjW _ (show i<20 by omega),Int.one_mul] at t1
   have t2:fsz 233 (tF U (whQ (c i)) (facL i)):=⟨Nat.le_trans t2.1 (by omega),Nat.le_trans t2.2 (by omega)⟩
   obtain⟨a1,_,_⟩:=zoX _ _ h3 t2 (by omega) h1 t1
   have mo:=zm3 (qQ U) (show i<20 by omega)
   have mz:moV (qQ U) i≠0:=fun z=>zmB (U:=U) (by rw[←mo,z,Int.zero_mul])
   have a2:(aF (sF c U i) (tF U (whQ (c i)) (facL i))).is (evS c (pP U) (qQ U) (i+1)) (dnV (qQ U)):=by
    refine zhu mz ?_
    rw[es]
    have e:(evS c (pP U) (qQ U) i+c i*moV (pP U) i*coV (qQ U) i)*moV (qQ U) i=evS c (pP U) (qQ U) i*moV (qQ U) i+c i*moV (pP U) i*dnV (qQ U):=by rw[←mo];grind
    rw[e];exact a1
   rw[hs]
   refine⟨a2,by rw[es];omega,zmU a2 zmB (by rw[es];omega) (by omega) (by decide)⟩
end Go.Eng
namespace Go.Eng
def rowM (i:Nat):Nat→Int:=fun e=>mE (i*3+e)
def degN (i:Nat):Nat:=exN i 0+exN i 1+exN i 2
theorem zlM {i:Nat} (h:i<20):rowM i 0=(exN i 0:Int)∧rowM i 1=(exN i 1:Int)∧rowM i 2=(exN i 2:Int):=⟨(zaZ i h 0 (by decide)).1,(zaZ i h 1 (by decide)).1,(zaZ i h 2 (by decide)).1⟩
theorem zgq {i:Nat} (h:i<20):((cs 60 mE).drop (i*3)).take 3=cs 3 (rowM i):=zer (n:=60) mE (off:=i*3) (k:=3) (by omega)
theorem zki {i:Nat} (h:i<20):(3≤((cs 60 mE).drop (i*3)).length)=True:=eq_true (by rw[List.length_drop,zb5];omega)
theorem zlL:∀i,i<20→∀d,d<20→((∀e,e<3→rowM i e=rowM d e)↔i=d):=by decide
def dgR (c:Nat→Int):Nat→Int
 | 0 => -1
 | i+1=>if c i=0 then dgR c i else if (degN i:Int)>dgR c i then (degN i:Int) else dgR c i
@[go_sem] theorem zrT (a0 a1 a2:PV) (Y:Nat→Int):psplice [a0,a1,a2] 0 (cs 3 Y)=cs 3 Y:=zdV 3 _ Y rfl
theorem zqW (X Y:Nat→Int):eqaP [1,1,1] (aI 3 X) (aI 3 Y)=some (decide (∀e:Nat,e<3→X e=Y e)):=zjM 3 X Y
set_option maxHeartbeats 4000000 in
theorem zjh (c:Nat→Int):pf E0 399 [aI 20 c]=some (.i .i64 (dgR c 20)):=by
 refine zab (xf:=ztI) rfl (by simp[ztI]) ?_
 simp only[ztI]
 simp(disch:=omega)only[go_sem,seval,wqq]
 refine zai zus.eq_1 (fun(i:Nat) fr M=>i≤20∧fr 3=.i .i64 (dgR c i)∧fr 7=aI 20 c∧fr 8=(PV.i .i64 ((i:Nat):Int))) (fun i=>20-i) ?_ 0 ⟨by omega,by simp only[go_sem,seval];rfl,by simp only[go_sem,seval],by simp only[go_sem,seval]⟩
 rintro i fr M ⟨hi,f3,f7,f8⟩ ih
 rcases Nat.lt_or_ge i 20 with h|h
 ·have q1:((i:Int)<20)=True:=eq_true (by omega)
  have qL:(i<20)=True:=eq_true h
  have ix:=zdp c h
  have rw3:=zgq h
  have rl:=zki h
  obtain⟨r0,r1,r2⟩:=zlM h
  have e0:=(zaZ i h 0 (by decide)).2
  have e1:=(zaZ i h 1 (by decide)).2
  have e2:=(zaZ i h 2 (by decide)).2
  have sm:(exN i 0:Int)+(exN i 1:Int)+(exN i 2:Int)=(degN i:Int):=by unfold degN;omega
  by_cases c0:c i=0
  ·have hs:dgR c (i+1)=dgR c i:=if_pos c0
   have c0':(c i=0)=True:=eq_true c0
   simp(disch:=omega)only[go_sem,seval,wqq,f3,f7,f8,q1,qL,ix,zjN,rw3,rl,c0',zbf,mG,mG0,sG,sG0,lG,lqq]
   exact ih (i+1) _ _ (by omega) ⟨by omega,by simp only[go_sem,seval,f3,hs],by simp only[go_sem,seval,f7],by simp only[go_sem,seval,f8];rw[Int.natCast_succ]⟩
  ·have hs:dgR c (i+1)=if (degN i:Int)>dgR c i then (degN i:Int) else dgR c i:=if_neg c0
   have c0':(c i=0)=False:=eq_false c0
   simp(disch:=omega)only[go_sem,seval,wqq,f3,f7,f8,q1,qL,ix,zjN,rw3,rl,c0',zbf,r0,r1,r2,sm,mG,mG0,sG,sG0,lG,lqq]
   exact ih (i+1) _ _ (by omega) ⟨by omega,by simp only[go_sem,seval,f3,hs],by simp only[go_sem,seval,f7],by simp only[go_sem,seval,f8];rw[Int.natCast_succ]⟩
 ·obtain rfl:i=20:=by omega
  simp(disch:=omega)only[go_sem,seval,wqq,f3,f7,f8]
theorem zln {d:Nat} (hd:d<20):pf E0 421 [aI 3 (rowM d)]=some ((PV.i .i64 ((d:Nat):Int))):=by
 refine zab (xf:=ztL) rfl (by simp[ztL]) ?_
 simp only[ztL]
 simp(disch:=omega)only[go_sem,seval,wqq]
 refine zai zuz.eq_1 (fun(i:Nat) fr M=>i≤d∧fr 1=.p 0 0∧fr 4=(PV.i .i64 ((i:Nat):Int))∧M=[some ⟨cs 3 (rowM d),true,0⟩]) (fun i=>20-i) ?_ 0 ⟨by omega,by simp only[go_sem,seval],by simp only[go_sem,seval],rfl⟩
 rintro i fr M ⟨hi,f1,f4,rfl⟩ ih
 have h:i<20:=by omega
 have q1:((i:Int)<20)=True:=eq_true (by omega)
 have qL:(i<20)=True:=eq_true h
 have rw3:=zgq h
 have rl:=zki h
 have re:=zlL i h d hd
 by_cases hid:i=d
 ·subst hid
  have eq:eqaP [1,1,1] (aI 3 (rowM i)) (aI 3 (rowM i))=some true:=by rw[zqW];simp
  simp(disch:=omega)only[go_sem,seval,wqq,f1,f4,q1,qL,zjN,rw3,rl,eq,mG,mG0,sG,sG0,lG,lqq]
 ·have eq:eqaP [1,1,1] (aI 3 (rowM i)) (aI 3 (rowM d))=some false:=by rw[zqW,decide_eq_false fun q=>hid (re.1 q)]
  simp(disch:=omega)only[go_sem,seval,wqq,f1,f4,q1,qL,zjN,rw3,rl,eq,mG,mG0,sG,sG0,lG,lqq]
  exact ih (i+1) _ _ (by omega) ⟨by omega,by simp only[go_sem,seval,f1],by simp only[go_sem,seval,f4];rw[Int.natCast_succ],rfl⟩
end Go.Eng
namespace Go.Eng
def dnN (i j:Nat):Nat:=((List.range 20).find? fun d=>decide (∀e:Nat,e<3→rowM d e=upd (rowM i) j (rowM i j-1) e)).getD 0
theorem zmA:∀i,i<20→∀j,j<3→exN i j≠0→dnN i j<20∧∀e,e<3→upd (rowM i) j (rowM i j-1) e=rowM (dnN i j) e:=by decide
def grJ (c:Nat→Int) (i:Nat) (g:Nat→Int):Nat→Nat→Int
 | 0=>g
 | j+1=>if exN i j=0 then grJ c i g j else upd (grJ c i g j) (j*20+dnN i j) (exN i j*c i)
def grI (c:Nat→Int):Nat→Nat→Int
 | 0=>zF
 | i+1=>grJ c i (grI c i) 3
def gRow (g:Nat→Int) (f:Nat):Nat→Int:=fun e=>g (f*20+e)
open Classical in
noncomputable def grE (c:Nat→Int):Int:=if okC c then (if ∀f,f<3→okC (gRow (grI c 20) f) then 0 else 5) else 1
noncomputable def grV (c:Nat→Int):Nat→Int:=if grE c=0 then grI c 20 else zF
theorem z60:[PV.i .i64 0,PV.i .i64 0,PV.i .i64 0,PV.i .i64 0,PV.i .i64 0,PV.i .i64 0,PV.i .i64 0,PV.i .i64 0,PV.i .i64 0,PV.i .i64 0,PV.i .i64 0,PV.i .i64 0,PV.i .i64 0,PV.i .i64 0,PV.i .i64 0,PV.i .i64 0,PV.i .i64 0,PV.i .i64 0,PV.i .i64 0,PV.i .i64 0,PV.i .i64 0,PV.i .i64 0,PV.i .i64 0,PV.i .i64 0,PV.i .i64 0,PV.i .i64 0,PV.i .i64 0,PV.i .i64 0,PV.i .i64 0,PV.i .i64 0,PV.i .i64 0,PV.i .i64 0,PV.i .i64 0,PV.i .i64 0,PV.i .i64 0,PV.i .i64 0,PV.i .i64 0,PV.i .i64 0,PV.i .i64 0,PV.i .i64 0,PV.i .i64 0,PV.i .i64 0,PV.i .i64 0,PV.i .i64 0,PV.i .i64 0,PV.i .i64 0,PV.i .i64 0,PV.i .i64 0,PV.i .i64 0,PV.i .i64 0,PV.i .i64 0,PV.i .i64 0,PV.i .i64 0,PV.i .i64 0,PV.i .i64 0,PV.i .i64 0,PV.i .i64 0,PV.i .i64 0,PV.i .i64 0,PV.i .i64 0]=cs 60 zF:=rfl
theorem zrN (g:Nat→Int) {f:Nat} (h:f<3):iagP 3 true 20 (aI 60 g) (some f)=some (aI 20 (gRow g f)):=by
 unfold aI
 rw[zc7,if_pos ⟨h,by rw[zb5]⟩,zer g (by omega)];rfl
theorem zli {c:Nat→Int} (h:¬okC c):pf E0 407 [aI 20 c]=some (.tu [aI 60 zF,.i .i64 1]):=by
 have va:=zaB c
 have:vlC c=1:=if_neg h
 rw[this] at va
 refine zab (xf:=ztn) rfl (by simp[ztn]) ?_
 simp only[ztn]
 simp(disch:=omega)only[go_sem,seval,wqq,va,z60]
set_option maxHeartbeats 8000000 in
theorem zlj {c:Nat→Int} (hc:okC c):pf E0 407 [aI 20 c]=some (.tu [aI 60 (grV c),.i .i64 (grE c)]):=by
 have va:=zaB c
 have:vlC c=0:=if_pos hc
 rw[this] at va
 refine zab (xf:=ztn) rfl (by simp[ztn]) ?_
 simp only[ztn]
 simp(disch:=omega)only[go_sem,seval,wqq,va,z60,zjN]
 refine zai zuB.eq_1 (fun(i:Nat) fr M=>i≤20∧fr 1=.p 0 0∧fr 2=.p 1 0∧fr 5=.p 2 0∧fr 19=aI 60 mE∧fr 20=(PV.i .i64 ((i:Nat):Int))∧∃v G,M=some ⟨cs 20 c,true,0⟩::some ⟨cs 60 zF,true,0⟩::some ⟨cs 60 (grI c i),true,v⟩::G) (fun i=>20-i) ?_ 0 ⟨by omega,by simp only[go_sem,seval],by simp only[go_sem,seval],by simp only[go_sem,seval],by simp only[go_sem,seval],by simp only[go_sem,seval],_,[],rfl⟩
 rintro i fr M ⟨hi,f1,f2,f5,f19,f20,v,G,rfl⟩ ih
 rcases Nat.lt_or_ge i 20 with h|h
 ·have q1:((i:Int)<20)=True:=eq_true (by omega)
  have qL:(i<20)=True:=eq_true h
  have ia:iagP 20 true 3 (aI 60 mE) (some i)=some (aI 3 (rowM i)):=by
   unfold aI
   rw[zc7,if_pos ⟨h,by rw[zb5]⟩,zgq h];rfl
  simp(disch:=omega)only[go_sem,seval,wqq,f1,f2,f5,f19,f20,q1,qL,ia,mG,mG0,sG,sG0,lG,lqq]
  refine zai zuC.eq_1 (fun(j:Nat) fr M=>j≤3∧fr 1=.p 0 0∧fr 2=.p 1 0∧fr 5=.p 2 0∧fr 6=(PV.i .i64 ((i:Nat):Int))∧fr 7=.p (G.length+3) 0∧fr 19=aI 60 mE∧fr 20=(PV.i .i64 ((i:Nat):Int))∧fr 24=aI 3 (rowM i)∧fr 25=(PV.i .i64 ((j:Nat):Int))∧∃v vr H,M=some ⟨cs 20 c,true,0⟩::some ⟨cs 60 zF,true,0⟩::some ⟨cs 60 (grJ c i (grI c i) j),true,v⟩::(G++some ⟨cs 3 (rowM i),true,vr⟩::H)) (fun j=>3-j) ?_ 0 ⟨by omega,by simp only[go_sem,seval,f1],by simp only[go_sem,seval,f2],by simp only[go_sem,seval,f5],by simp only[go_sem,seval],by simp only[go_sem,seval],by simp only[go_sem,seval,f19],by simp only[go_sem,seval,f20],by simp only[go_sem,seval],by simp only[go_sem,seval],_,_,[],rfl⟩
  rintro j fr M ⟨hj,f1,f2,f5,f6,f7,f19,f20,f24,f25,v,vr,H,rfl⟩ ih2
  rcases Nat.lt_or_ge j 3 with h3|h3
  ·have q2:((j:Int)<3)=True:=eq_true (by omega)
   have qJ:(j<3)=True:=eq_true h3
   have iy:=zdp (rowM i) h3
   obtain⟨e1,e2⟩:=zaZ i h j h3
   have e1:rowM i j=(exN i j:Int):=e1
   rw[e1] at iy
   by_cases z:exN i j=0
   ·have zz:((exN i j:Int)=0)=True:=eq_true (by omega)
    have hs:grJ c i (grI c i) (j+1)=grJ c i (grI c i) j:=if_pos z
    simp(disch:=omega)only[go_sem,seval,wqq,f1,f2,f5,f6,f7,f19,f20,f24,f25,q2,qJ,iy,zz,mG,mG0,sG,sG0,lG,lqq]
    exact ih2 (j+1) _ _ (by omega) ⟨by omega,by simp only[go_sem,seval,f1],by simp only[go_sem,seval,f2],by simp only[go_sem,seval,f5],by simp only[go_sem,seval,f6],by simp only[go_sem,seval,f7],by simp only[go_sem,seval,f19],by simp only[go_sem,seval,f20],by simp only[go_sem,seval,f24],by simp only[go_sem,seval,f25];rw[Int.natCast_succ],_,_,_,by rw[hs]⟩
   ·have zz:((exN i j:Int)=0)=False:=eq_false (by omega)
    have hs:grJ c i (grI c i) (j+1)=upd (grJ c i (grI c i) j) (j*20+dnN i j) (exN i j*c i):=if_neg z
    obtain⟨d1,d2⟩:=zmA i h j h3 z
    rw[e1] at d2
    have dd:cs 3 (upd (rowM i) j ((exN i j:Int)-1))=cs 3 (rowM (dnN i j)):=zfI d2
    have dx:=zln d1
    have cg1:=zbf (n:=20) c h
    have cj:=zbf (n:=3) (rowM i) h3
    rw[e1] at cj
    have qD:(dnN i j<20)=True:=eq_true d1
    have qS:(j*20+dnN i j<60)=True:=eq_true (by omega)
    have bc:=hc i h
    have be : -3221225472≤(exN i j:Int)*c i∧(exN i j:Int)*c i≤3221225472:=by
     obtain q|q|q:exN i j=1∨exN i j=2∨exN i j=3:=by omega
     all_goals (rw[q];omega)
    simp(disch:=omega)only[go_sem,seval,wqq,f1,f2,f5,f6,f7,f19,f20,f24,f25,q2,qJ,iy,zz,cj,dd,mG,mG0,sG,sG0,lG,lqq]
    refine zbQ [42] rfl ?_ ?_
    ·simp(disch:=omega)only[go_sem,seval,wqq,f1,f2,f5,f6,f7,f19,f20,f24,f25,q2,qJ,qL,qD,qS,iy,zz,cj,dd,dx,cg1,mG,mG0,sG,sG0,lG,lqq]
     exact⟨_,rfl,rfl⟩
    simp(disch:=omega)only[go_sem,seval,wqq,f1,f2,f5,f6,f7,f19,f20,f24,f25,q2,qJ,qL,qD,qS,iy,zz,cj,dd,dx,cg1,mG,mG0,sG,sG0,lG,lqq]
    exact ih2 (j+1) _ _ (by omega) ⟨by omega,by simp only[go_sem,seval,f1],by simp only[go_sem,seval,f2],by simp only[go_sem,seval,f5],by simp only[go_sem,seval,f6],by simp only[go_sem,seval,f7],by simp only[go_sem,seval,f19],by simp only[go_sem,seval,f20],by simp only[go_sem,seval,f24],by simp only[go_sem,seval,f25];rw[Int.natCast_succ],_,_,_,by rw[hs]⟩
  ·obtain rfl:j=3:=by omega
   simp(disch:=omega)only[go_sem,seval,wqq,f1,f2,f5,f6,f7,f19,f20,f24,f25,mG,mG0,sG,sG0,lG,lqq]
   exact ih (i+1) _ _ (by omega) ⟨by omega,by simp only[go_sem,seval,f1],by simp only[go_sem,seval,f2],by simp only[go_sem,seval,f5],by simp only[go_sem,seval,f19],by simp only[go_sem,seval,f20];rw[Int.natCast_succ],_,_,rfl⟩
 ·obtain rfl:i=20:=by omega
  clear ih
  simp(disch:=omega)only[go_sem,seval,wqq,f1,f2,f5,f19,f20,mG,mG0,sG,sG0,lG,lqq]
  by_cases hg:∀f,f<3→okC (gRow (grI c 20) f)
  ·have e1:grE c=0:=by unfold grE;rw[if_pos hc,if_pos hg]
   have e2:grV c=grI c 20:=by unfold grV;rw[e1];rfl
   rw[e1,e2]
   refine zai zul.eq_1 (fun(f:Nat) fr M=>f≤3∧fr 2=.p 1 0∧fr 5=.p 2 0∧fr 49=aI 60 (grI c 20)∧fr 50=(PV.i .i64 ((f:Nat):Int))∧∃b0 v G,M=b0::some ⟨cs 60 zF,true,0⟩::some ⟨cs 60 (grI c 20),true,v⟩::G) (fun f=>3-f) ?_ 0 ⟨by omega,by simp only[go_sem,seval,f2],by simp only[go_sem,seval,f5],by simp only[go_sem,seval],by simp only[go_sem,seval],_,_,_,rfl⟩
   clear f1 f2 f5 f19 f20
   rintro f fr M ⟨hf,f2,f5,f49,f50,b0,v,G,rfl⟩ ih
   rcases Nat.lt_or_ge f 3 with h3|h3
   ·have q1:((f:Int)<3)=True:=eq_true (by omega)
    have ia:=zrN (grI c 20) h3
    have vb:=zaB (gRow (grI c 20) f)
    have:vlC (gRow (grI c 20) f)=0:=if_pos (hg f h3)
    rw[this] at vb
    simp(disch:=omega)only[go_sem,seval,wqq,f2,f5,f49,f50,q1,ia,vb,mG,mG0,sG,sG0,lG,lqq]
    exact ih (f+1) _ _ (by omega) ⟨by omega,by simp only[go_sem,seval,f2],by simp only[go_sem,seval,f5],by simp only[go_sem,seval,f49],by simp only[go_sem,seval,f50];rw[Int.natCast_succ],_,_,_,rfl⟩
   ·obtain rfl:f=3:=by omega
    simp(disch:=omega)only[go_sem,seval,wqq,f2,f5,f49,f50,mG,mG0,sG,sG0,lG,lqq]
  ·have e1:grE c=5:=by unfold grE;rw[if_pos hc,if_neg hg]
   have e2:grV c=zF:=by unfold grV;rw[e1];rfl
   rw[e1,e2]
   refine zai zul.eq_1 (fun(f:Nat) fr M=>f≤3∧(∀e,e<f→okC (gRow (grI c 20) e))∧fr 2=.p 1 0∧fr 5=.p 2 0∧fr 49=aI 60 (grI c 20)∧fr 50=(PV.i .i64 ((f:Nat):Int))∧∃b0 v G,M=b0::some ⟨cs 60 zF,true,0⟩::some ⟨cs 60 (grI c 20),true,v⟩::G) (fun f=>3-f) ?_ 0 ⟨by omega,fun e he=>by omega,by simp only[go_sem,seval,f2],by simp only[go_sem,seval,f5],by simp only[go_sem,seval],by simp only[go_sem,seval],_,_,_,rfl⟩
   clear f1 f2 f5 f19 f20
   rintro f fr M ⟨hf,hlo,f2,f5,f49,f50,b0,v,G,rfl⟩ ih
   have h3:f<3:=by
    rcases Nat.lt_or_ge f 3 with z|z
    ·exact z
    ·obtain rfl:f=3:=by omega
     exact absurd hlo hg
   have q1:((f:Int)<3)=True:=eq_true (by omega)
   have ia:=zrN (grI c 20) h3
   have vb:=zaB (gRow (grI c 20) f)
   by_cases ok:okC (gRow (grI c 20) f)
   ·have:vlC (gRow (grI c 20) f)=0:=if_pos ok
    rw[this] at vb
    simp(disch:=omega)only[go_sem,seval,wqq,f2,f5,f49,f50,q1,ia,vb,mG,mG0,sG,sG0,lG,lqq]
    refine ih (f+1) _ _ (by omega) ⟨by omega,fun e he=>?_,by simp only[go_sem,seval,f2],by simp only[go_sem,seval,f5],by simp only[go_sem,seval,f49],by simp only[go_sem,seval,f50];rw[Int.natCast_succ],_,_,_,rfl⟩
    rcases Nat.lt_or_ge e f with z|z
    ·exact hlo e z
    ·obtain rfl:e=f:=by omega
     exact ok
   ·have:vlC (gRow (grI c 20) f)=1:=if_neg ok
    rw[this] at vb
    simp(disch:=omega)only[go_sem,seval,wqq,f2,f5,f49,f50,q1,ia,vb,z60,mG,mG0,sG,sG0,lG,lqq]
theorem znv (c:Nat→Int):pf E0 407 [aI 20 c]=some (.tu [aI 60 (grV c),.i .i64 (grE c)]):=by
 by_cases hc:okC c
 ·exact zlj hc
 ·have e1:grE c=1:=if_neg hc
  have e2:grV c=zF:=by unfold grV;rw[e1];rfl
  rw[e1,e2]
  exact zli hc
end Go.Eng
namespace Go.Eng
def chE:Nat→Int:=fun e=>chooI.getD e 0
theorem zsr:cst E0.glob (.p 2 0)=.fp (cs 16 chE):=rfl
def chV (i k j:Nat):Int:=chE (exN i j*4+exN k j)
theorem zms:∀i,i<20→∀k,k<20→∀j,j<3→0≤chV i k j∧chV i k j≤3:=by decide
def leQ (i k:Nat):Prop:=exN k 0≤exN i 0∧exN k 1≤exN i 1∧exN k 2≤exN i 2
instance (i k:Nat):Decidable (leQ i k):=by unfold leQ;infer_instance
def shP (Y:Nat→Int) (i k:Nat):Nat→Int
 | 0=>1
 | j+1=>shP Y i k j*(chV i k j*Y j^(exN i j-exN k j))
def shT (c Y:Nat→Int) (k i:Nat):Int:=if leQ i k then c i*shP Y i k 3 else 0
def shS (c Y:Nat→Int) (i k:Nat):Int:=sumT (shT c Y k) i
open Classical in
noncomputable def shE' (c S:Nat→Int):Int:=if okC c then (if okC S then 0 else 5) else 1
open Classical in
noncomputable def shE (c Y:Nat→Int):Int:=if okC c then (if okC (shS c Y 20) then 0 else 5) else 1
noncomputable def shV (c Y:Nat→Int):Nat→Int:=if shE c Y=0 then shS c Y 20 else zF
theorem z20:[PV.i .i64 0,PV.i .i64 0,PV.i .i64 0,PV.i .i64 0,PV.i .i64 0,PV.i .i64 0,PV.i .i64 0,PV.i .i64 0,PV.i .i64 0,PV.i .i64 0,PV.i .i64 0,PV.i .i64 0,PV.i .i64 0,PV.i .i64 0,PV.i .i64 0,PV.i .i64 0,PV.i .i64 0,PV.i .i64 0,PV.i .i64 0,PV.i .i64 0]=cs 20 zF:=rfl
theorem z40:[PV.b false,.nl,PV.b false,.nl,PV.b false,.nl,PV.b false,.nl,PV.b false,.nl,PV.b false,.nl,PV.b false,.nl,PV.b false,.nl,PV.b false,.nl,PV.b false,.nl,PV.b false,.nl,PV.b false,.nl,PV.b false,.nl,PV.b false,.nl,PV.b false,.nl,PV.b false,.nl,PV.b false,.nl,PV.b false,.nl,PV.b false,.nl,PV.b false,.nl]=cg 20 (fun _=>[PV.b false,.nl]):=rfl
theorem zgT {n:Int} (h:Fits64 n):small n=n∧isSmall n=true:=by
 have:isSmall n=true:=decide_eq_true h
 unfold small
 rw[if_pos this]
 exact⟨rfl,this⟩
theorem zjj {c:Nat→Int} (h:¬okC c) (x y z:Int):pf E0 396 [aI 20 c,.i .i64 x,.i .i64 y,.i .i64 z]=some (.tu [aI 20 zF,.i .i64 1]):=by
 have va:=zaB c
 have:vlC c=1:=if_neg h
 rw[this] at va
 refine zab (xf:=zth) rfl (by simp[zth]) ?_
 simp only[zth]
 simp(disch:=omega)only[go_sem,seval,wqq,va,z20]
set_option maxHeartbeats 8000000 in
theorem zjk {c:Nat→Int} (hc:okC c) {x y z:Int} (hx:Fits64 x) (hy:Fits64 y) (hz:Fits64 z) {Y:Nat→Int} (hY:Y=s3 (-x) (-y) (-z)):pf E0 396 [aI 20 c,.i .i64 x,.i .i64 y,.i .i64 z]=some (.tu [aI 20 (shV c Y),.i .i64 (shE c Y)]):=by
 have va:=zaB c
 have:vlC c=0:=if_pos hc
 rw[this] at va
 have x1:=zbS hx
 have x2:=zbS hy
 have x3:=zbS hz
 obtain⟨X,hX⟩:∃X:Nat→WI,X=s3 (wiOf x hx).neg (wiOf y hy).neg (wiOf z hz).neg:=⟨_,rfl⟩
 have Xv:∀j,(X j).v=Y j:=fun j=>by
  rw[hX,hY];unfold s3;split
  ·rfl
  ·split<;>rfl
 have Xl:∀j,wlen (X j).v.natAbs≤2:=fun j=>by
  rw[Xv,hY];unfold s3;split
  ·rw[Int.natAbs_neg];exact zeR hx
  ·split
   ·rw[Int.natAbs_neg];exact zeR hy
   ·rw[Int.natAbs_neg];exact zeR hz
 refine zab (xf:=zth) rfl (by simp[zth]) ?_
 simp only[zth]
 have zA:(cg 20 fun _=>[PV.b false,.nl]).all PV.scal=true:=rfl
 simp(disch:=omega)only[go_sem,seval,wqq,va,x1,x2,x3,z20,z40,zA,zjN,zat,zaf]
 refine zai zuA.eq_1 (fun(i:Nat) fr M=>i≤20∧fr 4=.p 0 0∧fr 8=.p 1 0∧fr 11=.p 2 0∧fr 12=.p 3 0∧fr 40=aI 60 mE∧fr 41=(PV.i .i64 ((i:Nat):Int))∧∃vx vs G L,∃w:Nat→WI,(∀e,WZ (L e) (w e))∧(∀e,e<20→(w e).v=shS c Y i e∧wlen (w e).v.natAbs≤40+i)∧M=some ⟨cs 20 c,true,0⟩::some ⟨cs 20 zF,true,0⟩::some ⟨cw 3 X,true,vx⟩::some ⟨cg 20 L,true,vs⟩::G) (fun i=>20-i) ?_ 0 ⟨by omega,by simp only[go_sem,seval],by simp only[go_sem,seval],by simp only[go_sem,seval],by simp only[go_sem,seval],by simp only[go_sem,seval],by simp only[go_sem,seval],_,_,[],_,fun _=>wi0,fun _=>wz0,fun e _=>⟨rfl,by show wlen (0:Int).natAbs≤40+0;decide⟩,by rw[hX];rfl⟩
 rintro i fr M ⟨hi,f4,f8,f11,f12,f40,f41,vx,vs,G,L,w,wz,wv,rfl⟩ ih
 have rowI:∀{k:Nat},k<20→iagP 20 true 3 (aI 60 mE) (some k)=some (aI 3 (rowM k)):=fun {k} h=>by
  unfold aI
  rw[zc7,if_pos ⟨h,by rw[zb5]⟩,zgq h];rfl
 rcases Nat.lt_or_ge i 20 with h|h
 ·have q1:((i:Int)<20)=True:=eq_true (by omega)
  have qL:(i<20)=True:=eq_true h
  have ia:=rowI h
  have ck:Fits64 (c i):=by have:=hc i h;unfold Fits64;omega
  have k1:=zbS ck
  have cg1:=zbf (n:=20) c h
  obtain⟨r0,r1,r2⟩:=zlM h
  simp(disch:=omega)only[go_sem,seval,wqq,f4,f8,f11,f12,f40,f41,q1,qL,ia,zjN,mG,mG0,sG,sG0,lG,lqq]
  refine zai zux.eq_1 (fun(k:Nat) fr M=>k≤20∧fr 4=.p 0 0∧fr 8=.p 1 0∧fr 11=.p 2 0∧fr 12=.p 3 0∧fr 13=(PV.i .i64 ((i:Nat):Int))∧fr 14=.p (G.length+4) 0∧fr 40=aI 60 mE∧fr 41=(PV.i .i64 ((i:Nat):Int))∧fr 45=aI 60 mE∧fr 46=(PV.i .i64 ((k:Nat):Int))∧∃vx vs vr H L,∃w:Nat→WI,(∀e,WZ (L e) (w e))∧(∀e,e<20→(w e).v=(if e<k then shS c Y (i+1) e else shS c Y i e)∧wlen (w e).v.natAbs≤(if e<k then 41+i else 40+i))∧M=some ⟨cs 20 c,true,0⟩::some ⟨cs 20 zF,true,0⟩::some ⟨cw 3 X,true,vx⟩::some ⟨cg 20 L,true,vs⟩::(G++some ⟨cs 3 (rowM i),true,vr⟩::H)) (fun k=>20-k) ?_ 0 ⟨by omega,by simp only[go_sem,seval,f4],by simp only[go_sem,seval,f8],by simp only[go_sem,seval,f11],by simp only[go_sem,seval,f12],by simp only[go_sem,seval],by simp only[go_sem,seval],by simp only[go_sem,seval,f40],by simp only[go_sem,seval,f41],by simp only[go_sem,seval],by simp only[go_sem,seval],_,_,_,[],_,w,wz,fun e he=>by obtain⟨a,b⟩:=wv e he;exact⟨by rw[a,if_neg (by omega)],by rw[if_neg (by omega)];exact b⟩,rfl⟩
  clear f4 f8 f11 f12 f40 f41 wv wz
  rintro k fr M ⟨hk,f4,f8,f11,f12,f13,f14,f40,f41,f45,f46,vx,vs,vr,H,L,w,wz,wv,rfl⟩ ih2
  rcases Nat.lt_or_ge k 20 with h2|h2
  ·have q2:((k:Int)<20)=True:=eq_true (by omega)
   have qK:(k<20)=True:=eq_true h2
   have ib:=rowI h2
   obtain⟨s0,s1,s2⟩:=zlM h2
   have ss:shS c Y (i+1) k=shS c Y i k+shT c Y k i:=rfl
   by_cases lq:leQ i k
   ·have lq':=lq
    obtain⟨l0,l1,l2⟩:=lq
    have g0:((exN i 0:Int)<(exN k 0:Int))=False:=eq_false (by omega)
    have g1:((exN i 1:Int)<(exN k 1:Int))=False:=eq_false (by omega)
    have g2:((exN i 2:Int)<(exN k 2:Int))=False:=eq_false (by omega)
    simp(disch:=omega)only[go_sem,seval,wqq,f4,f8,f11,f12,f13,f14,f40,f41,f45,f46,q2,qK,qL,ib,zbf,r0,r1,r2,s0,s1,s2,g0,g1,g2,cg1,k1,mG,mG0,sG,sG0,lG,lqq]
    refine zai zuy.eq_1 (fun(j:Nat) fr M=>j≤3∧fr 4=.p 0 0∧fr 8=.p 1 0∧fr 11=.p 2 0∧fr 12=.p 3 0∧fr 13=(PV.i .i64 ((i:Nat):Int))∧fr 14=.p (G.length+4) 0∧fr 15=(PV.i .i64 ((k:Nat):Int))∧fr 16=.p (G.length+(H.length+1)+4) 0∧fr 17=.p (G.length+(H.length+1+1)+4) 0∧fr 40=aI 60 mE∧fr 41=(PV.i .i64 ((i:Nat):Int))∧fr 45=aI 60 mE∧fr 46=(PV.i .i64 ((k:Nat):Int))∧fr 73=(PV.i .i64 ((j:Nat):Int))∧∃vx vs vr vk vt,∃t:WI,t.v=c i*shP Y i k j∧wlen t.v.natAbs≤2+8*j∧M=some ⟨cs 20 c,true,0⟩::some ⟨cs 20 zF,true,0⟩::some ⟨cw 3 X,true,vx⟩::some ⟨cg 20 L,true,vs⟩::(G++some ⟨cs 3 (rowM i),true,vr⟩::(H++[some ⟨cs 3 (rowM k),true,vk⟩,some ⟨wc t,true,vt⟩]))) (fun j=>3-j) ?_ 0 ⟨by omega,by simp only[go_sem,seval,f4],by simp only[go_sem,seval,f8],by simp only[go_sem,seval,f11],by simp only[go_sem,seval,f12],by simp only[go_sem,seval,f13],by simp only[go_sem,seval,f14],by simp only[go_sem,seval],by simp only[go_sem,seval],by simp only[go_sem,seval],by simp only[go_sem,seval,f40],by simp only[go_sem,seval,f41],by simp only[go_sem,seval,f45],by simp only[go_sem,seval,f46],by simp only[go_sem,seval],_,_,_,_,_,wiOf (c i) ck,(Int.mul_one _).symm,zeR ck,rfl⟩
    clear f4 f8 f11 f12 f13 f14 f40 f41 f45 f46
    rintro j fr M ⟨hj,f4,f8,f11,f12,f13,f14,f15,f16,f17,f40,f41,f45,f46,f73,vx,vs,vr,vk,vt,t,tv,tl,rfl⟩ ih3
    rcases Nat.lt_or_ge j 3 with h3|h3
    ·have q3:((j:Int)<3)=True:=eq_true (by omega)
     have qJ:(j<3)=True:=eq_true h3
     obtain⟨e1,e2⟩:=zaZ i h j h3
     obtain⟨d1,d2⟩:=zaZ k h2 j h3
     have e1:rowM i j=(exN i j:Int):=e1
     have d1:rowM k j=(exN k j:Int):=d1
     have de:exN k j≤exN i j:=by
      obtain rfl|rfl|rfl:=zik h3
      ·exact l0
      ·exact l1
      ·exact l2
     have xi:=zbf (n:=3) (rowM i) h3
     have xk:=zbf (n:=3) (rowM k) h3
     rw[e1] at xi
     rw[d1] at xk
     have q4:(exN i j<4)=True:=eq_true (by omega)
     have q5:(exN k j<4)=True:=eq_true (by omega)
     have cb:=zms i h k h2 j h3
     have cf:Fits64 (chV i k j):=by unfold Fits64;omega
     have cc:(List.drop (exN k j) (List.drop (exN i j*4) (cs 16 chE)))[0]?=some (.i .i64 (chV i k j)):=by
      rw[List.drop_drop,List.getElem?_drop,Nat.add_zero,zbf _ (by omega)];rfl
     have kc:=zbS cf
     have pm:=zgL t (wiOf (chV i k j) cf)
     have lc:wlen (wiOf (chV i k j) cf).v.natAbs≤2:=zeR cf
     obtain⟨m1,m2⟩:=zm7 tl lc (by omega)
     have sb:(exN i j:Int)-(exN k j:Int)=((exN i j-exN k j:Nat):Int):=by omega
     simp(disch:=omega)only[go_sem,seval,wqq,f4,f8,f11,f12,f13,f14,f15,f16,f17,f40,f41,f45,f46,f73,q3,mG,mG0,sG,sG0,lG,lqq]
     refine zaN [17] rfl (by simp only[go_sem,seval,f17]) ?_
     simp(disch:=omega)only[go_sem,seval,wqq,f4,f8,f11,f12,f13,f14,f15,f16,f17,f40,f41,f45,f46,f73,q3,qJ,xi,xk,q4,q5,cc,zsr,kc,pm,sb,zkr,zfy,zeP,ziv,mG,mG0,sG,sG0,lG,lqq]
     refine zai zuv.eq_1 (fun(n:Nat) fr M=>n≤exN i j-exN k j∧fr 4=.p 0 0∧fr 8=.p 1 0∧fr 11=.p 2 0∧fr 12=.p 3 0∧fr 13=(PV.i .i64 ((i:Nat):Int))∧fr 14=.p (G.length+4) 0∧fr 15=(PV.i .i64 ((k:Nat):Int))∧fr 16=.p (G.length+(H.length+1)+4) 0∧fr 17=.p (G.length+(H.length+1+1)+4) 0∧fr 40=aI 60 mE∧fr 41=(PV.i .i64 ((i:Nat):Int))∧fr 45=aI 60 mE∧fr 46=(PV.i .i64 ((k:Nat):Int))∧fr 73=(PV.i .i64 ((j:Nat):Int))∧fr 18=(PV.i .i64 ((j:Nat):Int))∧fr 97=(PV.i .i64 ((exN i j-exN k j:Nat):Int))∧fr 98=(PV.i .i64 ((n:Nat):Int))∧∃vx vs vr vk vt,∃t:WI,t.v=c i*(shP Y i k j*(chV i k j*Y j^n))∧wlen t.v.natAbs≤4+8*j+2*n∧M=some ⟨cs 20 c,true,0⟩::some ⟨cs 20 zF,true,0⟩::some ⟨cw 3 X,true,vx⟩::some ⟨cg 20 L,true,vs⟩::(G++some ⟨cs 3 (rowM i),true,vr⟩::(H++[some ⟨cs 3 (rowM k),true,vk⟩,some ⟨wc t,true,vt⟩]))) (fun n=>exN i j-exN k j-n) ?_ 0 ⟨by omega,by simp only[go_sem,seval,f4],by simp only[go_sem,seval,f8],by simp only[go_sem,seval,f11],by simp only[go_sem,seval,f12],by simp only[go_sem,seval,f13],by simp only[go_sem,seval,f14],by simp only[go_sem,seval,f15],by simp only[go_sem,seval,f16],by simp only[go_sem,seval,f17],by simp only[go_sem,seval,f40],by simp only[go_sem,seval,f41],by simp only[go_sem,seval,f45],by simp only[go_sem,seval,f46],by simp only[go_sem,seval,f73],by simp only[go_sem,seval],by simp only[go_sem,seval],by simp only[go_sem,seval],_,_,_,_,_,clip (t.v*(wiOf (chV i k j) cf).v),by rw[m1,tv,Int.pow_zero,Int.mul_one,Int.mul_assoc];rfl,by rw[m1];omega,rfl⟩
     clear f4 f8 f11 f12 f13 f14 f15 f16 f17 f40 f41 f45 f46 f73 pm m1 m2 tl tv
     rintro n fr M ⟨hn,f4,f8,f11,f12,f13,f14,f15,f16,f17,f40,f41,f45,f46,f73,f18,f97,f98,vx,vs,vr,vk,vt,t,tv,tl,rfl⟩ ih4
     rcases Nat.lt_or_ge n (exN i j-exN k j) with h4|h4
     ·have q6:((n:Int)<((exN i j-exN k j:Nat):Int))=True:=eq_true (by omega)
      have cx:=zmy (n:=3) X h3
      have pm:=zgL t (X j)
      have cl:(j*2+2≤6)=True:=eq_true (by omega)
      obtain⟨m1,m2⟩:=zm7 tl (Xl j) (by omega)
      simp(disch:=omega)only[go_sem,seval,wqq,f4,f8,f11,f12,f13,f14,f15,f16,f17,f40,f41,f45,f46,f73,f18,f97,f98,q6,qJ,cx,cl,zes,pm,zkr,zfy,zeP,ziv,mG,mG0,sG,sG0,lG,lqq]
      refine ih4 (n+1) _ _ (by omega) ⟨by omega,by simp only[go_sem,seval,f4],by simp only[go_sem,seval,f8],by simp only[go_sem,seval,f11],by simp only[go_sem,seval,f12],by simp only[go_sem,seval,f13],by simp only[go_sem,seval,f14],by simp only[go_sem,seval,f15],by simp only[go_sem,seval,f16],by simp only[go_sem,seval,f17],by simp only[go_sem,seval,f40],by simp only[go_sem,seval,f41],by simp only[go_sem,seval,f45],by simp only[go_sem,seval,f46],by simp only[go_sem,seval,f73],by simp only[go_sem,seval,f18],by simp only[go_sem,seval,f97],by simp only[go_sem,seval,f98];rw[Int.natCast_succ],_,_,_,_,_,clip (t.v*(X j).v),?_,by rw[m1];omega,rfl⟩
      rw[m1,tv,Xv,Int.pow_succ];grind
     ·obtain rfl:n=exN i j-exN k j:=by omega
      have q6:(((exN i j-exN k j:Nat):Int)<((exN i j-exN k j:Nat):Int))=False:=eq_false (Int.lt_irrefl _)
      simp(disch:=omega)only[go_sem,seval,wqq,f4,f8,f11,f12,f13,f14,f15,f16,f17,f40,f41,f45,f46,f73,f18,f97,f98,q6,mG,mG0,sG,sG0,lG,lqq]
      exact ih3 (j+1) _ _ (by omega) ⟨by omega,by simp only[go_sem,seval,f4],by simp only[go_sem,seval,f8],by simp only[go_sem,seval,f11],by simp only[go_sem,seval,f12],by simp only[go_sem,seval,f13],by simp only[go_sem,seval,f14],by simp only[go_sem,seval,f15],by simp only[go_sem,seval,f16],by simp only[go_sem,seval,f17],by simp only[go_sem,seval,f40],by simp only[go_sem,seval,f41],by simp only[go_sem,seval,f45],by simp only[go_sem,seval,f46],by simp only[go_sem,seval,f73];rw[Int.natCast_succ],_,_,_,_,_,t,tv,by omega,rfl⟩
    ·obtain rfl:j=3:=by omega
     have st:shT c Y k i=c i*shP Y i k 3:=if_pos lq'
     have z1:=wz k
     have L2:∀e,(L e).length=2:=fun e=>(wz e).len
     have sL:=zfF L2 h2
     have lL:(k*2+2≤(cg 20 L).length)=True:=eq_true (by rw[zdv L2];exact zkz h2)
     have zf:=z1.fz
     obtain⟨a1,a2⟩:=wv k h2
     rw[if_neg (Nat.lt_irrefl _)] at a1 a2
     have pa:=zjf (w k) t
     obtain⟨m1,m2⟩:=zoZ a2 tl (by omega)
     have sp:=zmr L2 h2 (v:=wc (clip ((w k).v+t.v))) (zeP _)
     rw[zn7] at sp
     simp(disch:=omega)only[go_sem,seval,wqq,f4,f8,f11,f12,f13,f14,f15,f16,f17,f40,f41,f45,f46,f73,qK,sL,lL,zf,pa,sp,zkr,zfy,zeP,mG,mG0,sG,sG0,lG,lqq]
     refine ih2 (k+1) _ _ (by omega) ⟨by omega,by simp only[go_sem,seval,f4],by simp only[go_sem,seval,f8],by simp only[go_sem,seval,f11],by simp only[go_sem,seval,f12],by simp only[go_sem,seval,f13],by simp only[go_sem,seval,f14],by simp only[go_sem,seval,f40],by simp only[go_sem,seval,f41],by simp only[go_sem,seval,f45],by simp only[go_sem,seval,f46];rw[Int.natCast_succ],_,_,_,_,upd L k (wc (clip ((w k).v+t.v))),upd w k (clip ((w k).v+t.v)),fun e=>?_,fun e he=>?_,rfl⟩
     ·unfold upd
      split
      ·exact wzs _
      ·exact wz e
     ·by_cases ek:e=k
      ·subst ek
       rw[zcP,if_pos (Nat.lt_succ_self _),if_pos (Nat.lt_succ_self _),m1]
       exact⟨by rw[a1,tv,ss,st],by omega⟩
      ·rw[zdM ek]
       obtain⟨a,b⟩:=wv e he
       refine⟨?_,by split at b<;>split<;>omega⟩
       rw[a]
       by_cases e1:e<k
       ·rw[if_pos e1,if_pos (by omega)]
       ·rw[if_neg e1,if_neg (by omega)]
   ·have st:shT c Y k i=0:=if_neg lq
    have go:∀e,e<20→(w e).v=(if e<k+1 then shS c Y (i+1) e else shS c Y i e)∧wlen (w e).v.natAbs≤(if e<k+1 then 41+i else 40+i):=fun e he=>by
     obtain⟨a,b⟩:=wv e he
     refine⟨?_,by split at b<;>split<;>omega⟩
     rw[a]
     by_cases ek:e=k
     ·subst ek;rw[if_neg (Nat.lt_irrefl _),if_pos (by omega),ss,st,Int.add_zero]
     ·by_cases e1:e<k
      ·rw[if_pos e1,if_pos (by omega)]
      ·rw[if_neg e1,if_neg (by omega)]
    rcases zl7 ((exN i 0:Int)<(exN k 0:Int)) with g0|g0
    ·simp(disch:=omega)only[go_sem,seval,wqq,f4,f8,f11,f12,f13,f14,f40,f41,f45,f46,q2,qK,ib,zbf,r0,r1,r2,s0,s1,s2,g0,mG,mG0,sG,sG0,lG,lqq]
     exact ih2 (k+1) _ _ (by omega) ⟨by omega,by simp only[go_sem,seval,f4],by simp only[go_sem,seval,f8],by simp only[go_sem,seval,f11],by simp only[go_sem,seval,f12],by simp only[go_sem,seval,f13],by simp only[go_sem,seval,f14],by simp only[go_sem,seval,f40],by simp only[go_sem,seval,f41],by simp only[go_sem,seval,f45],by simp only[go_sem,seval,f46];rw[Int.natCast_succ],_,_,_,_,_,w,wz,go,rfl⟩
    ·rcases zl7 ((exN i 1:Int)<(exN k 1:Int)) with g1|g1
     ·simp(disch:=omega)only[go_sem,seval,wqq,f4,f8,f11,f12,f13,f14,f40,f41,f45,f46,q2,qK,ib,zbf,r0,r1,r2,s0,s1,s2,g0,g1,mG,mG0,sG,sG0,lG,lqq]
      exact ih2 (k+1) _ _ (by omega) ⟨by omega,by simp only[go_sem,seval,f4],by simp only[go_sem,seval,f8],by simp only[go_sem,seval,f11],by simp only[go_sem,seval,f12],by simp only[go_sem,seval,f13],by simp only[go_sem,seval,f14],by simp only[go_sem,seval,f40],by simp only[go_sem,seval,f41],by simp only[go_sem,seval,f45],by simp only[go_sem,seval,f46];rw[Int.natCast_succ],_,_,_,_,_,w,wz,go,rfl⟩
     ·have g2:((exN i 2:Int)<(exN k 2:Int))=True:=eq_true (by
       have u0:=of_eq_false g0
       have u1:=of_eq_false g1
       unfold leQ at lq
       omega)
      simp(disch:=omega)only[go_sem,seval,wqq,f4,f8,f11,f12,f13,f14,f40,f41,f45,f46,q2,qK,ib,zbf,r0,r1,r2,s0,s1,s2,g0,g1,g2,mG,mG0,sG,sG0,lG,lqq]
      exact ih2 (k+1) _ _ (by omega) ⟨by omega,by simp only[go_sem,seval,f4],by simp only[go_sem,seval,f8],by simp only[go_sem,seval,f11],by simp only[go_sem,seval,f12],by simp only[go_sem,seval,f13],by simp only[go_sem,seval,f14],by simp only[go_sem,seval,f40],by simp only[go_sem,seval,f41],by simp only[go_sem,seval,f45],by simp only[go_sem,seval,f46];rw[Int.natCast_succ],_,_,_,_,_,w,wz,go,rfl⟩
  ·obtain rfl:k=20:=by omega
   simp(disch:=omega)only[go_sem,seval,wqq,f4,f8,f11,f12,f13,f14,f40,f41,f45,f46,mG,mG0,sG,sG0,lG,lqq]
   exact ih (i+1) _ _ (by omega) ⟨by omega,by simp only[go_sem,seval,f4],by simp only[go_sem,seval,f8],by simp only[go_sem,seval,f11],by simp only[go_sem,seval,f12],by simp only[go_sem,seval,f40],by simp only[go_sem,seval,f41];rw[Int.natCast_succ],_,_,_,_,w,wz,fun e he=>by obtain⟨a,b⟩:=wv e he;exact⟨by rw[a,if_pos he],by rw[if_pos he] at b;omega⟩,rfl⟩
 ·obtain rfl:i=20:=by omega
  clear ih
  simp(disch:=omega)only[go_sem,seval,wqq,f4,f8,f11,f12,f40,f41,z20,mG,mG0,sG,sG0,lG,lqq]
  have L2:∀e,(L e).length=2:=fun e=>(wz e).len
  have lg:(cg 20 L).length=40:=zdv L2 20
  have tk:List.take 40 (cg 20 L)=cg 20 L:=List.take_of_length_le (by omega)
  simp(disch:=omega)only[go_sem,seval,wqq,lg,tk,mG,mG0,sG,sG0,lG,lqq]
  have vS:∀e,e<20→(w e).v=shS c Y 20 e:=fun e he=>(wv e he).1
  have vF:∀e,e<20→wlen (w e).v.natAbs≤60:=fun e he=>(wv e he).2
  have hE:shE c Y=shE' c (shS c Y 20):=rfl
  have hV:okC (shS c Y 20)→shV c Y=shS c Y 20:=fun o=>by unfold shV shE;rw[if_pos hc,if_pos o];rfl
  have hW:¬okC (shS c Y 20)→shV c Y=zF:=fun o=>by unfold shV shE;rw[if_pos hc,if_neg o];rfl
  generalize shS c Y 20=S at *
  have ia:∀{k:Nat},k<20→iagP 20 true 2 (.ag (cg 20 L)) (some k)=some (.ag (L k)):=fun {k} h=>by
   rw[zc7,if_pos ⟨h,by rw[lg]⟩,zfF L2 h];rfl
  by_cases ok:okC S
  ·have e1:shE' c S=0:=by unfold shE';rw[if_pos hc,if_pos ok]
   rw[hE,e1,hV ok]
   refine zai zuc.eq_1 (fun(k:Nat) fr M=>k≤20∧fr 8=.p 1 0∧fr 19=.p (G.length+4) 0∧fr 122=.ag (cg 20 L)∧fr 123=(PV.i .i64 ((k:Nat):Int))∧∃b0 b2 b3 f v H,(∀e,e<k→f e=S e)∧M=b0::some ⟨cs 20 zF,true,0⟩::b2::b3::(G++some ⟨cs 20 f,true,v⟩::H)) (fun k=>20-k) ?_ 0 ⟨by omega,by simp only[go_sem,seval,f8],by simp only[go_sem,seval],by simp only[go_sem,seval],by simp only[go_sem,seval],_,_,_,zF,_,[],fun e he=>by omega,rfl⟩
   clear f4 f8 f11 f12 f40 f41
   rintro k fr M ⟨hk,f8,f19,f122,f123,b0,b2,b3,f,v,H,hf,rfl⟩ ih
   rcases Nat.lt_or_ge k 20 with h2|h2
   ·have q2:((k:Int)<20)=True:=eq_true (by omega)
    have qK:(k<20)=True:=eq_true h2
    have ib:=ia h2
    have zk:=wz k
    have z1:=zk.len
    have z2:=zk.sc
    have z3:=zk.fz
    have z4:=zk.tk
    have sp:psplice [.b false,.nl] 0 (L k)=L k:=zrU _ _ _ z1
    have vk:=vS k h2
    have bk:=ok k h2
    have ps:=zdd (w k)
    obtain⟨s1,s2⟩:=zgT (n:=S k) (by unfold Fits64;omega)
    rw[vk,s1,s2] at ps
    have t1:(S k < -1073741824)=False:=eq_false (by omega)
    have t2:(S k>1073741824)=False:=eq_false (by omega)
    simp(disch:=omega)only[go_sem,seval,wqq,f8,f19,f122,f123,q2,qK,ib,z1,z2,z3,z4,sp,zkr,ps,t1,t2,mG,mG0,sG,sG0,lG,lqq]
    refine ih (k+1) _ _ (by omega) ⟨by omega,by simp only[go_sem,seval,f8],by simp only[go_sem,seval,f19],by simp only[go_sem,seval,f122],by simp only[go_sem,seval,f123];rw[Int.natCast_succ],_,_,_,_,_,_,fun e he=>?_,rfl⟩
    unfold upd
    split
    ·rename_i q;rw[q]
    ·exact hf e (by omega)
   ·obtain rfl:k=20:=by omega
    simp(disch:=omega)only[go_sem,seval,wqq,f8,f19,f122,f123,mG,mG0,sG,sG0,lG,lqq]
    rw[zfB hf]
  ·have e1:shE' c S=5:=by unfold shE';rw[if_pos hc,if_neg ok]
   rw[hE,e1,hW ok]
   refine zai zuc.eq_1 (fun(k:Nat) fr M=>k≤20∧(∀e,e<k → -1073741824≤S e∧S e≤1073741824)∧fr 8=.p 1 0∧fr 19=.p (G.length+4) 0∧fr 122=.ag (cg 20 L)∧fr 123=(PV.i .i64 ((k:Nat):Int))∧∃b0 b2 b3 f v H,M=b0::some ⟨cs 20 zF,true,0⟩::b2::b3::(G++some ⟨cs 20 f,true,v⟩::H)) (fun k=>20-k) ?_ 0 ⟨by omega,fun e he=>by omega,by simp only[go_sem,seval,f8],by simp only[go_sem,seval],by simp only[go_sem,seval],by simp only[go_sem,seval],_,_,_,zF,_,[],rfl⟩
   clear f4 f8 f11 f12 f40 f41
   rintro k fr M ⟨hk,hlo,f8,f19,f122,f123,b0,b2,b3,f,v,H,rfl⟩ ih
   have h2:k<20:=by
    rcases Nat.lt_or_ge k 20 with z|z
    ·exact z
    ·obtain rfl:k=20:=by omega
     exact absurd hlo ok
   have q2:((k:Int)<20)=True:=eq_true (by omega)
   have qK:(k<20)=True:=eq_true h2
   have ib:=ia h2
   have zk:=wz k
   have z1:=zk.len
   have z2:=zk.sc
   have z3:=zk.fz
   have z4:=zk.tk
   have sp:psplice [.b false,.nl] 0 (L k)=L k:=zrU _ _ _ z1
   have vk:=vS k h2
   have ps:=zdd (w k)
   rw[vk] at ps
   cases sm:isSmall (S k) with
   | false =>
    rw[sm] at ps
    simp(disch:=omega)only[go_sem,seval,wqq,f8,f19,f122,f123,q2,qK,ib,z1,z2,z3,z4,sp,zkr,ps,z20,mG,mG0,sG,sG0,lG,lqq]
   | true =>
    have s1:small (S k)=S k:=by unfold small;rw[sm];rfl
    rw[sm,s1] at ps
    rcases zl7 (S k < -1073741824) with t1|t1
    ·simp(disch:=omega)only[go_sem,seval,wqq,f8,f19,f122,f123,q2,qK,ib,z1,z2,z3,z4,sp,zkr,ps,t1,z20,mG,mG0,sG,sG0,lG,lqq]
    ·rcases zl7 (S k>1073741824) with t2|t2
     ·simp(disch:=omega)only[go_sem,seval,wqq,f8,f19,f122,f123,q2,qK,ib,z1,z2,z3,z4,sp,zkr,ps,t1,t2,z20,mG,mG0,sG,sG0,lG,lqq]
     ·simp(disch:=omega)only[go_sem,seval,wqq,f8,f19,f122,f123,q2,qK,ib,z1,z2,z3,z4,sp,zkr,ps,t1,t2,mG,mG0,sG,sG0,lG,lqq]
      have u1:=of_eq_false t1
      have u2:=of_eq_false t2
      refine ih (k+1) _ _ (by omega) ⟨by omega,fun e he=>?_,by simp only[go_sem,seval,f8],by simp only[go_sem,seval,f19],by simp only[go_sem,seval,f122],by simp only[go_sem,seval,f123];rw[Int.natCast_succ],_,_,_,_,_,_,rfl⟩
      rcases Nat.lt_or_ge e k with z|z
      ·exact hlo e z
      ·obtain rfl:e=k:=by omega
       omega
theorem zll (c:Nat→Int) {x y z:Int} (hx:Fits64 x) (hy:Fits64 y) (hz:Fits64 z):pf E0 396 [aI 20 c,.i .i64 x,.i .i64 y,.i .i64 z]=some (.tu [aI 20 (shV c (s3 (-x) (-y) (-z))),.i .i64 (shE c (s3 (-x) (-y) (-z)))]):=by
 by_cases hc:okC c
 ·exact zjk hc hx hy hz rfl
 ·have e1:shE c (s3 (-x) (-y) (-z))=1:=if_neg hc
  have e2:shV c (s3 (-x) (-y) (-z))=zF:=by unfold shV;rw[e1];rfl
  rw[e1,e2]
  exact zjj hc _ _ _
end Go.Eng
namespace Go.Eng
def cL:Nat→Int:=fun e=>[2,3,0,0,0,0,-1].getD e 0
theorem ziG:okC cL:=by unfold okC;decide
theorem zmm:[PV.i .i64 2,.i .i64 3,.i .i64 0,.i .i64 0,.i .i64 0,.i .i64 0,.i .i64 (-1),.i .i64 0,.i .i64 0,.i .i64 0,.i .i64 0,.i .i64 0,.i .i64 0,.i .i64 0,.i .i64 0,.i .i64 0,.i .i64 0,.i .i64 0,.i .i64 0,.i .i64 0]=cs 20 cL:=rfl
theorem zjq {n:Int} (h:Fits64 n):pf E0 410 [.i .i64 n]=some (fqP (whQ n)):=by
 have o:=zku h
 refine zab (xf:=ztU) rfl (by simp[ztU]) ?_
 simp only[ztU]
 simp(disch:=omega)only[go_sem,seval,wqq,o]
theorem zc5 {f:FQ} (h1:f.p.v.natAbs≤4611686018427387904) (h2:f.q.v.natAbs≤4611686018427387904):fwD f:=by
 have a:=zca (k:=f.p.v.natAbs) (n:=63) (by omega)
 have b:=zca (k:=f.q.v.natAbs) (n:=63) (by omega)
 unfold fwD
 omega
theorem zi2:∃h x:FQ,pf E0 17 [.i .i64 1,.i .i64 2]=some (.tu [fqP h,.i .i64 0])∧pf E0 409 [aI 20 cL,fqP h,fqP fq0,fqP (whQ 4)]=some (.tu [fqP x,.i .i64 0])∧pf E0 16 [fqP x]=some (.s [51,47,50]):=by
 obtain⟨h,h1,h2,ho⟩:=znC (p:=1) (q:=2) (by decide) (by decide) (by decide)
 have l1:lowP 1 2=1∧lowQ 1 2=2:=zf0 (p:=1) (q:=2) (by decide) (by decide)
 have h1:=h1.trans l1.1
 have h2:=h2.trans l1.2
 have hz:fsz 5 h:=⟨by rw[h1];exact zaQ (by decide),by rw[h2];exact zaQ (by decide)⟩
 obtain⟨w1,w2⟩:=zl2 (n:=4) (by decide)
 obtain⟨_,wz⟩:=zkt (n:=4) (by decide)
 have fz:fsz 5 fq0:=⟨by show tlen (0:Int).natAbs≤5;exact zaQ (by decide),by show tlen (1:Int).natAbs≤5;exact zaQ (by decide)⟩
 have U3:∀j,j<3→fsz 5 (s3 h fq0 (whQ 4) j):=fun j hj=>by
  obtain rfl|rfl|rfl:=zik hj
  ·exact hz
  ·exact fz
  ·exact wz
 have ev:=zlh (c:=cL) (U:=s3 h fq0 (whQ 4))
 have e0:evE cL (s3 h fq0 (whQ 4))=0:=by
  unfold evE
  rw[if_pos ziG,if_pos fun j hj=>?_]
  obtain rfl|rfl|rfl:=zik hj
  ·exact zc5 (by show h.p.v.natAbs≤_;rw[h1];decide) (by show h.q.v.natAbs≤_;rw[h2];decide)
  ·exact zc5 (by show (0:Int).natAbs≤_;decide) (by show (1:Int).natAbs≤_;decide)
  ·exact zc5 (by show (whQ 4).p.v.natAbs≤_;rw[w1];decide) (by show (whQ 4).q.v.natAbs≤_;rw[w2];decide)
 have e1:evR cL (s3 h fq0 (whQ 4))=sF cL (s3 h fq0 (whQ 4)) 20:=if_pos e0
 rw[e0,e1] at ev
 obtain⟨i1,_,_⟩:=znW (c:=cL) (U:=s3 h fq0 (whQ 4)) (n:=5) ziG (by decide) U3 20 (by decide)
 have p3:pP (s3 h fq0 (whQ 4))=s3 1 0 4:=funext fun j=>by
  unfold pP s3
  split
  ·exact h1
  ·split
   ·rfl
   ·exact w1
 have q3:qQ (s3 h fq0 (whQ 4))=s3 2 1 1:=funext fun j=>by
  unfold qQ s3
  split
  ·exact h2
  ·split
   ·rfl
   ·exact w2
 rw[p3,q3] at i1
 have v1:evS cL (s3 1 0 4) (s3 2 1 1) 20=12:=by decide
 have v2:dnV (s3 2 1 1)=8:=by decide
 rw[v1,v2] at i1
 obtain⟨x1,x2⟩:=zmV (p:=3) (q:=2) (by decide) (by decide) (by decide) i1 (by decide)
 have d3:decI 3=[51]:=(zjV (v:=3) (n:=0) rfl (by decide) (by decide)).trans rfl
 have d2:decI 2=[50]:=(zjV (v:=2) (n:=0) rfl (by decide) (by decide)).trans rfl
 have s1:=znY _ (t:=[51,47,50]) x1 x2 (by unfold ftx;rw[if_neg (by decide),d3,d2];rfl)
 exact⟨h,_,ho,ev,s1⟩
theorem zi3:pf E0 407 [aI 20 cL]=some (.tu [aI 60 (grI cL 20),.i .i64 0]):=by
 have g:=znv cL
 have e0:grE cL=0:=by
  unfold grE
  rw[if_pos ziG,if_pos (by unfold okC;decide)]
 have e1:grV cL=grI cL 20:=if_pos e0
 rw[e0,e1] at g
 exact g
def sL:Nat→Int:=fun e=>[-1,3,0,1,0,0,-1].getD e 0
theorem zi4:pf E0 396 [aI 20 cL,.i .i64 1,.i .i64 0,.i .i64 0]=some (.tu [aI 20 sL,.i .i64 0]):=by
 have g:=zll cL (x:=1) (y:=0) (z:=0) (by decide) (by decide) (by decide)
 have ok:okC (shS cL (s3 (-1) (-0) (-0)) 20):=by unfold okC;decide
 have e0:shE cL (s3 (-1) (-0) (-0))=0:=by unfold shE;rw[if_pos ziG,if_pos ok]
 have e1:shV cL (s3 (-1) (-0) (-0))=shS cL (s3 (-1) (-0) (-0)) 20:=if_pos e0
 have e2:aI 20 (shS cL (s3 (-1) (-0) (-0)) 20)=aI 20 sL:=zfB (by decide)
 rw[e0,e1,e2] at g
 exact g
def gL:Nat→Int:=fun e=>[3,0,0,-1].getD e 0
theorem zpz:[PV.i .i64 3,.i .i64 0,.i .i64 0,.i .i64 (-1),.i .i64 0,.i .i64 0,.i .i64 0,.i .i64 0,.i .i64 0,.i .i64 0,.i .i64 0,.i .i64 0,.i .i64 0,.i .i64 0,.i .i64 0,.i .i64 0,.i .i64 0,.i .i64 0,.i .i64 0,.i .i64 0]=cs 20 gL:=rfl
theorem zqn:[PV.i .i64 (-1),.i .i64 3,.i .i64 0,.i .i64 1,.i .i64 0,.i .i64 0,.i .i64 (-1),.i .i64 0,.i .i64 0,.i .i64 0,.i .i64 0,.i .i64 0,.i .i64 0,.i .i64 0,.i .i64 0,.i .i64 0,.i .i64 0,.i .i64 0,.i .i64 0,.i .i64 0]=cs 20 sL:=rfl
theorem zmY:(cs 60 (grI cL 20)).take 20=cs 20 gL:=by
 have h:=zer (n:=60) (grI cL 20) (off:=0) (k:=20) (by decide)
 rw[List.drop_zero] at h
 rw[h]
 exact zfI (by decide)
theorem zd0 (X:Nat→Int):eqaP [1,1,1,1,1,1,1,1,1,1,1,1,1,1,1,1,1,1,1,1] (aI 20 X) (aI 20 X)=some true:=zmw 20 X
theorem zsw:dgR cL 20=2:=by decide
set_option maxHeartbeats 8000000 in
theorem zjl:pf E0 400 []=some (.b true):=by
 obtain⟨h,x,ho,ev,s1⟩:=zi2
 have gr:=zi3
 have sh:=zi4
 have dg:=zjh cL
 rw[zsw] at dg
 rw[zkL] at ev
 have w4:=zjq (n:=4) (by decide)
 refine zab (xf:=ztV) rfl (by simp[ztV]) ?_
 simp only[ztV]
 simp(disch:=omega)only[go_sem,seval,wqq,ho,zmm,z60]
 refine zaN [1,2] rfl (by simp only[go_sem,seval]) ?_
 simp(disch:=omega)only[go_sem,seval,wqq,w4,zkL,ev,z60,gr,sh,s1,dg,zpz,zqn,zmm,zmY,zd0]
end Go.Eng
namespace Go.Eng
theorem zob {M:PM} {m:Nat} {l:List Nat} {K:List (Nat×PB)} (hw:Wr M m (bl l) K):∃v e ns,PM.blk M m=some ⟨[v],true,e⟩∧fz M 11 v=some (.lst (bl l),ns):=by
 obtain⟨v,e,hb,sc,hg,hn,hk⟩:=hw
 have z:=ziY 9 hg
 simp only[Option.map_eq_some_iff] at z
 obtain⟨⟨q,ns⟩,z1,rfl⟩:=z
 exact⟨v,e,ns,hb,z1⟩
theorem zga {c:Nat→Int} (hc:∀e,e<20→Fits64 (c e)):pf E0 401 [aI 20 c]=some (.lst (bl (encN c 20))):=by
 refine zab (xf:=ztG) rfl (by simp[ztG]) ?_
 simp only[ztG]
 simp(disch:=omega)only[go_sem,seval,wqq,zat,zaf]
 refine zai zuq.eq_1 (fun(i:Nat) fr M=>i≤20∧fr 3=.p 1 0∧fr 6=aI 20 c∧fr 7=(PV.i .i64 ((i:Nat):Int))∧Wr M 1 (bl (encN c i)) []) (fun i=>20-i) ?_ 0 ⟨by omega,by simp only[go_sem,seval],by simp only[go_sem,seval],by simp only[go_sem,seval],.nl,0,rfl,rfl,.inl ⟨rfl,rfl⟩,trivial,fun c h=>by cases h⟩
 rintro i fr M ⟨hi,f3,f6,f7,hw⟩ ih
 rcases Nat.lt_or_ge i 20 with h|h
 ·have q1:((i:Int)<20)=True:=eq_true (by omega)
  have ix:=zdp c h
  have el:=zc2 (c:=c) (n:=i) fun e he=>hc e (by omega)
  obtain⟨M',h1,h2⟩:=znH hw (hc i h) (by rw[zaL];omega)
  have en:bl (encN c i)++bl (ib (c i))=bl (encN c (i+1)):=by rw[←zcV];rfl
  rw[en] at h2
  simp(disch:=omega)only[go_sem,seval,wqq,f3,f6,f7,q1,ix,h1]
  exact ih (i+1) _ _ (by omega) ⟨by omega,by simp only[go_sem,seval,f3],by simp only[go_sem,seval,f6],by simp only[go_sem,seval,f7];rw[Int.natCast_succ],h2⟩
 ·obtain rfl:i=20:=by omega
  have el:=zc2 (c:=c) (n:=20) hc
  obtain⟨v,e,ns,hb,hz⟩:=zob hw
  have dn:=znu (l:=encN c 20) (by omega)
  clear ih
  simp(disch:=omega)only[go_sem,seval,wqq,f3,f6,f7,hb,hz,dn]
theorem za8 {c:Nat→Int} (hc:∀e,e<20→Fits64 (c e)):pf E0 403 [aI 20 c]=some (.lst (bl (encN c 20))):=by
 refine zab (xf:=ztK) rfl (by simp[ztK]) ?_
 simp only[ztK]
 simp(disch:=omega)only[go_sem,seval,wqq]
 refine zai zuu.eq_1 (fun(i:Nat) fr M=>i≤20∧fr 1=.p 0 0∧fr 4=(PV.i .i64 ((i:Nat):Int))∧Grows M (fr 3) (bl (encN c i))∧NotIn (fr 3) 0∧PM.blk M 0=some ⟨cs 20 c,true,0⟩) (fun i=>20-i) ?_ 0 ⟨by omega,by simp only[go_sem,seval],by simp only[go_sem,seval],.inl ⟨rfl,by simp only[go_sem,seval]⟩,by simp only[go_sem,seval];trivial,rfl⟩
 rintro i fr M ⟨hi,f1,f4,hg,hn,hb⟩ ih
 rcases Nat.lt_or_ge i 20 with h|h
 ·have q1:((i:Int)<20)=True:=eq_true (by omega)
  have qL:(i<20)=True:=eq_true h
  have cg1:=zbf (n:=20) c h
  have ri:=zls (hc i h)
  have el:=zc2 (c:=c) (n:=i) fun e he=>hc e (by omega)
  have il:=zjY (hc i h)
  obtain⟨v',M',a1,a2,a3⟩:=zdP hg (zfw M (ib (c i))) (by rw[zaL,zaL];omega)
  obtain⟨b1,b2⟩:=a3 0 _ hb hn
  have en:bl (encN c i)++bl (ib (c i))=bl (encN c (i+1)):=by rw[←zcV];rfl
  rw[en] at a2
  simp(disch:=omega)only[go_sem,seval,wqq,f1,f4,q1,qL,hb,cg1,ri,a1]
  exact ih (i+1) _ _ (by omega) ⟨by omega,by simp only[go_sem,seval,f1],by simp only[go_sem,seval,f4];rw[Int.natCast_succ],by simp only[go_sem,seval];exact a2,by simp only[go_sem,seval];exact b2,b1⟩
 ·obtain rfl:i=20:=by omega
  have z:=ziY 10 hg
  clear ih
  simp(disch:=omega)only[go_sem,seval,wqq,f1,f4]
  exact z
end Go.Eng
namespace Go.Eng
def adV (X:Nat→Int):Nat→Int:=fun e=>mnV X (e%3) (e/3)
end Go.Eng
namespace Go.Eng
end Go.Eng
namespace Go.Eng
def isPF (E:PEnv):PV→Bool
 | .fn f _=>E.pure f
 | _=>false
def slotIn4 (E:PEnv) (ops:List XOper) (L V:List Nat) (c:Nat×Nat):Bool :=
 match ops[c.1]?,ops[c.2]? with
 | some a,some b =>
  match a.op with
  | .load _ _ (.t s)=>L.contains s&&(match b.op with | .callv (.t v) _=>V.contains v&&fixedX ops c.2 (.t v)|_=>calmOp E b.op)
  | _=>false
 | _,_=>false
end Go.Eng
namespace Go.Eng
def slarrB (m off n z:Nat) (lo hi:Option PV):Option PB→Option PV
 | some b=>if off+n*z≤b.v.length then slP z (.sl m off n n z) lo hi none else none
 | none=>none
def slarrP (M:PM) (n z:Nat) (lo hi:Option PV):PV→Option PV
 | .p m off=>slarrB m off n z lo hi (PM.blk M m)
 | .fp l=>if n*z≤l.length∧n*z≠0∧l.all PV.scal=true then slP z (.lst (group z n (l.take (n*z)))) lo hi none else none
 | _=>none
def rwV (a b c un ud vn vd:Int):Int:=a*un*vd+b*vn*ud+c*(ud*vd)
end Go.Eng
namespace Go.Eng
def q8 (a b c d e f g h:Int):PV:=.ag [.i .i64 a,.i .i64 b,.i .i64 c,.i .i64 d,.i .i64 e,.i .i64 f,.i .i64 g,.i .i64 h]
end Go.Eng
namespace Go.Eng
end Go.Eng
namespace Go.Eng
end Go.Eng
namespace Go.Eng
end Go.Eng
namespace Go.Eng
def rwF (p:Nat→Int) (i:Nat) (u v:FQ):Int:=rwV (p (3*i)) (p (3*i+1)) (p (3*i+2)) u.p.v u.q.v v.p.v v.q.v
end Go.Eng
namespace Go.Eng
def oneI:Nat→Int:=fun e=>if e%4=0 then 1 else 0
end Go.Eng
namespace Go.Eng
end Go.Eng
namespace Go.Eng
theorem hF (p:Nat→Int):PV.ag [.i .i64 (p 0),.i .i64 (p 1),.i .i64 (p 2),.i .i64 (p 3),.i .i64 (p 4),.i .i64 (p 5),.i .i64 (p 6),.i .i64 (p 7),.i .i64 (p 8)]=pI p:=rfl
def e9 (a b:Nat→Int):Bool:=a 0==b 0&&(a 1==b 1&&(a 2==b 2&&(a 3==b 3&&(a 4==b 4&&(a 5==b 5&&(a 6==b 6&&(a 7==b 7&&a 8==b 8)))))))
end Go.Eng
namespace Go.Eng
def gEnt (n d:Int):Int:=if n.tmod 6=1∨n.tmod 6 = -1 then (n.tdiv 6).tmod 8 else if n.tmod 6=2 then (n.tdiv 6).tmod 1000 else if n.tmod 6=3 then 1073741824-(n.tdiv 6).tmod 4 else d
def g0P:Nat→Int:=fun e=>if e=0 then 2 else if e=4 then 2 else if e=8 then 1 else 0
def gMix (ns:Nat→Int) (i:Nat):Nat→Int:=fun e=>if e<i then gEnt (ns e) (g0P e) else g0P e
theorem gk0 (ns:Nat→Int) (h:gEnt (ns 0) (g0P 0)=g0P 0):cI (gMix ns 0)=cI (gMix ns 1):=by
 have e:gMix ns 0=gMix ns 1:=by
  funext e
  unfold gMix
  by_cases q:e=0
  ·subst q;rw[if_neg (by decide),if_pos (by decide),h]
  ·by_cases r:e<0
   ·rw[if_pos r,if_pos (by omega)]
   ·rw[if_neg r,if_neg (by omega)]
 rw[e]
end Go.Eng
namespace Go.Eng
end Go.Eng
namespace Go.Eng
end Go.Eng
namespace Go.Eng
end Go.Eng
namespace Go.Eng
end Go.Eng
namespace Go.Eng
end Go.Eng
namespace Go.Eng
end Go.Eng
namespace Go.Eng
end Go.Eng
namespace Go.Eng
end Go.Eng
namespace Go.Eng
end Go.Eng
namespace Go.Eng
def bin2 (n k:Nat) (y:Int):Int:=if k≤n then chE (n*4+k)*y^(n-k) else 0
end Go.Eng
namespace Go.Eng
end Go.Eng
namespace Go.Eng
end Go.Eng
namespace Go.Eng
end Go.Eng
namespace Go.Eng
end Go.Eng
namespace Go.Eng
def mixF (i:Nat) (f g:Nat→Int):Nat→Int:=fun e=>if e<i then f e else g e
theorem zm0 {i n:Nat} (h:n≤i) (f g:Nat→Int):cs n (mixF i f g)=cs n f:=zfI fun e he=>if_pos (by omega)
theorem zm1 (i:Nat) (f g:Nat→Int) (v:Int) (h:v=f i):upd (mixF i f g) i v=mixF (i+1) f g:=funext fun e=>by
 unfold upd mixF
 by_cases q:e=i
 ·subst q;rw[if_pos rfl,if_pos (by omega)];exact h
 ·rw[if_neg q]
  by_cases r:e<i
  ·rw[if_pos r,if_pos (by omega)]
  ·rw[if_neg r,if_neg (by omega)]
end Go.Eng
namespace Go.Eng
def ub (l:List Nat):List UInt8:=l.map UInt8.ofNat
theorem zaj (l:List Nat):bytesP (bl l)=some (ub l):=by
 induction l with
 | nil=>rfl
 | cons a l ih =>
  show (bytesP (bl l)).map _=_
  rw[ih];rfl
theorem zbd (M:PM) (l:List Nat):b2sP M (.lst (bl l))=some (.s (ub l),M):=by
 have h:=zaj l
 show (match bytesP (bl l) with|some l=>some (PV.s l,M)|none=>none)=_
 rw[h]
def rdK (l:List Nat):Nat→List Nat×Int
 | 0=>(l,0)
 | k+1=>(rdS (rdK l k)).2
def rdX (l:List Nat) (k:Nat):Int:=uz (rdS (rdK l k)).1
theorem zft (l:List Nat):∀k,∀b∈(rdK l k).1,b∈l
 | 0,b,h=>h
 | k+1,b,h=>zft l k b (zlI _ b h)
theorem ze6 (c:Nat→Int):∀(n k:Nat),k≤n→∃t,encN c n=encN c k++t
 | 0,k,h=>⟨[],by (obtain rfl:k=0:=(by omega));rfl⟩
 | n+1,k,h=>by
  by_cases q:k=n+1
  ·exact⟨[],by rw[q,List.append_nil]⟩
  ·obtain⟨t,ht⟩:=ze6 c n k (by omega)
   exact⟨t++ib (c n),by show encN c n++ib (c n)=_;rw[ht,List.append_assoc]⟩
theorem zfs {c:Nat→Int} {n:Nat} (hc:∀e,e<n→Fits64 (c e)):∀k,k≤n→∃t,encN c n=encN c k++t∧rdK (encN c n) k=(t,0)
 | 0,_=>⟨encN c n,rfl,rfl⟩
 | k+1,hk=>by
  obtain⟨t,h1,h2⟩:=zfs hc k (by omega)
  obtain⟨t',h3⟩:=ze6 c n (k+1) hk
  have h4:t=ib (c k)++t':=by
   have:encN c k++t=encN c k++(ib (c k)++t'):=by
    rw[←h1,h3]
    show encN c k++ib (c k)++t'=_
    rw[List.append_assoc]
   exact List.append_cancel_left this
  refine⟨t',h3,?_⟩
  show (rdS (rdK (encN c n) k)).2=_
  rw[h2,h4,zkg (hc k (by omega))]
theorem zh8 {c:Nat→Int} {n:Nat} (hc:∀e,e<n→Fits64 (c e)) {k:Nat} (hk:k<n):rdX (encN c n) k=c k:=by
 obtain⟨t,h1,h2⟩:=zfs hc k (by omega)
 obtain⟨t',h3⟩:=ze6 c n (k+1) hk
 have h4:t=ib (c k)++t':=by
  have:encN c k++t=encN c k++(ib (c k)++t'):=by
   rw[←h1,h3]
   show encN c k++ib (c k)++t'=_
   rw[List.append_assoc]
  exact List.append_cancel_left this
 unfold rdX
 rw[h2,h4,zkg (hc k hk)]
 exact zqA (hc k hk)
theorem zlH {c:Nat→Int} {n:Nat} (hc:∀e,e<n→Fits64 (c e)):rdK (encN c n) n=([],0):=by
 obtain⟨t,h1,h2⟩:=zfs hc n (Nat.le_refl _)
 have:t=[]:=by
  have e:encN c n++[]=encN c n++t:=by rw[List.append_nil];exact h1
  exact(List.append_cancel_left e).symm
 rw[h2,this]
set_option maxHeartbeats 4000000 in
theorem zf9 {l:List Nat} (hb:∀b∈l,b<256) (hl:l.length<100000000000):pf E0 402 [.lst (bl l)]=some (if ((rdK l 20).2=0∧(rdK l 20).1=[])∧ub (encN (rdX l) 20)=ub l then .tu [aI 20 (rdX l),.i .i64 0] else .tu [aI 20 zF,.i .i64 2]):=by
 have rd:=fun M=>zj6 (M:=M) hl
 refine zab (xf:=ztD) rfl (by simp[ztD]) ?_
 simp only[ztD]
 simp(disch:=omega)only[go_sem,seval,wqq,rd,z20]
 refine zai zur.eq_1 (fun(i:Nat) fr M=>i≤20∧(∀e,e<i→Fits64 (rdX l e))∧fr 0=.lst (bl l)∧fr 2=.p 0 0∧fr 4=.p 1 0∧fr 5=.p 2 0∧fr 9=(PV.i .i64 ((i:Nat):Int))∧∃w v,M=[some ⟨cs 20 zF,true,0⟩,some ⟨[.lst (bl (rdK l i).1),.i .i64 (rdK l i).2],true,w⟩,some ⟨cs 20 (mixF i (rdX l) zF),true,v⟩]) (fun i=>20-i) ?_ 0 ⟨by omega,fun e he=>by omega,by simp only[go_sem,seval],by simp only[go_sem,seval],by simp only[go_sem,seval],by simp only[go_sem,seval],by simp only[go_sem,seval],_,_,rfl⟩
 rintro i fr M ⟨hi,hx,f0,f2,f4,f5,f9,w,v,rfl⟩ ih
 rcases Nat.lt_or_ge i 20 with h|h
 ·have q1:((i:Int)<20)=True:=eq_true (by omega)
  have qL:(i<20)=True:=eq_true h
  obtain⟨x1,w',x2⟩:=zfn (M:=[some ⟨cs 20 zF,true,0⟩,some ⟨[.lst (bl (rdK l i).1),.i .i64 (rdK l i).2],true,w⟩,some ⟨cs 20 (mixF i (rdX l) zF),true,v⟩]) (m:=1) (s:=rdK l i) (w:=w) (fun b hb'=>hb b (zft l i b hb')) rfl
  have mu:=zm1 i (rdX l) zF (uz (rdS (rdK l i)).1) rfl
  simp(disch:=omega)only[go_sem,seval,wqq,f0,f2,f4,f5,f9,q1,qL,x2,List.set_cons_succ,List.set_cons_zero]
  exact ih (i+1) _ _ (by omega) ⟨by omega,fun e he=>by
   rcases Nat.lt_or_ge e i with z|z
   ·exact hx e z
   ·obtain rfl:e=i:=by omega
    exact x1,by simp only[go_sem,seval,f0],by simp only[go_sem,seval,f2],by simp only[go_sem,seval,f4],by simp only[go_sem,seval,f5],by simp only[go_sem,seval,f9];rw[Int.natCast_succ],w',_,by rw[mu];rfl⟩
 ·obtain rfl:i=20:=by omega
  clear ih
  rw[zm0 (Nat.le_refl 20)]
  have en:=zga hx
  have dn:=zpR (M:=[some ⟨cs 20 zF,true,0⟩,some ⟨[.lst (bl (rdK l 20).1),.i .i64 (rdK l 20).2],true,w⟩,some ⟨cs 20 (rdX l),true,v⟩]) (m:=1) (l:=(rdK l 20).1) (e:=(rdK l 20).2) (w:=w) rfl
  simp(disch:=omega)only[go_sem,seval,wqq,f0,f2,f4,f5,f9]
  refine za2 rfl ?_
  generalize hs:rdK l 20=s at *
  obtain⟨r,e⟩:=s
  by_cases he:e=0∧r=[]
  ·obtain⟨rfl,rfl⟩:=he
   have e0:(if (0:Int)=0∧([]:List Nat)≠[] then (2:Int) else 0)=0:=if_neg fun q=>q.2 rfl
   have dn:pcl E0 205 [.p 1 0] _=some (.i .i64 (if (0:Int)=0∧([]:List Nat)≠[] then (2:Int) else 0),_):=dn
   rw[e0] at dn
   by_cases hu:ub (encN (rdX l) 20)=ub l
   ·have hu':(ub (encN (rdX l) 20)=ub l)=True:=eq_true hu
    rw[if_pos ⟨⟨rfl,rfl⟩,hu⟩]
    simp(disch:=omega)only[go_sem,seval,wqq,f0,f2,f4,f5,f9,dn,en,zbd,hu',z20]
   ·have hu':(ub (encN (rdX l) 20)=ub l)=False:=eq_false hu
    rw[if_neg fun q=>hu q.2]
    simp(disch:=omega)only[go_sem,seval,wqq,f0,f2,f4,f5,f9,dn,en,zbd,hu',z20]
  ·obtain⟨q,hq,q0⟩:∃q:Int,(if e=0∧r≠[] then (2:Int) else e)=q∧q≠0:=by
    by_cases c:e=0∧r≠[]
    ·exact⟨2,if_pos c,by decide⟩
    ·refine⟨e,if_neg c,fun z=>?_⟩
     by_cases r0:r=[]
     ·exact he ⟨z,r0⟩
     ·exact c ⟨z,r0⟩
   have dn:pcl E0 205 [.p 1 0] _=some (.i .i64 (if e=0∧r≠[] then (2:Int) else e),_):=dn
   rw[hq] at dn
   have q0':(q=0)=False:=eq_false q0
   rw[if_neg fun z=>he z.1]
   simp(disch:=omega)only[go_sem,seval,wqq,f0,f2,f4,f5,f9,dn,q0',z20]
end Go.Eng
namespace Go.Eng
theorem zdZ (c:Nat→Int):∀n,∀b∈encN c n,b<256
 | 0,b,h=>by cases h
 | n+1,b,h=>by
  rcases List.mem_append.1 h with h|h
  ·exact zdZ c n b h
  ·exact zl0 _ b h
theorem zhb {c d:Nat→Int}:∀{n:Nat},(∀e,e<n→c e=d e)→encN c n=encN d n
 | 0,_=>rfl
 | n+1,h=>by
  show encN c n++ib (c n)=encN d n++ib (d n)
  rw[zhb fun e he=>h e (by omega),h n (by omega)]
theorem zjg {c:Nat→Int} (hc:∀e,e<20→Fits64 (c e)):pf E0 402 [.lst (bl (encN c 20))]=some (.tu [aI 20 c,.i .i64 0]):=by
 have el:=zc2 (c:=c) (n:=20) hc
 have h:=zf9 (zdZ c 20) (by omega)
 have e1:=zlH hc
 have e2:∀e,e<20→rdX (encN c 20) e=c e:=fun e he=>zh8 hc he
 have e3:aI 20 (rdX (encN c 20))=aI 20 c:=zfB e2
 rw[e1,zhb e2,e3,if_pos ⟨⟨rfl,rfl⟩,rfl⟩] at h
 exact h
theorem zdW {l:List Nat} (hb:∀b∈l,b<256) (hl:l.length<100000000000):∃(x:Nat→Int) (e:Int),pf E0 402 [.lst (bl l)]=some (.tu [aI 20 x,.i .i64 e])∧((e=0∧(∀k,k<20→Fits64 (x k))∧ub (encN x 20)=ub l)∨(e=2∧x=zF)):=by
 have h:=zf9 hb hl
 by_cases q:((rdK l 20).2=0∧(rdK l 20).1=[])∧ub (encN (rdX l) 20)=ub l
 ·rw[if_pos q] at h
  refine⟨_,_,h,.inl ⟨rfl,fun k hk=>?_,q.2⟩⟩
  have hm:∀b∈(rdK l k).1,b<256:=fun b hb'=>hb b (zft l k b hb')
  exact(zfn (M:=[some ⟨[.lst (bl (rdK l k).1),.i .i64 (rdK l k).2],true,0⟩]) (m:=0) (s:=rdK l k) (w:=0) hm rfl).1
 ·rw[if_neg q] at h
  exact⟨_,_,h,.inr ⟨rfl,rfl⟩⟩
end Go.Eng
namespace Go.Eng
theorem zjx {E:PEnv} {ops:List XOper} {fr fr2:PFr} {M:PM} {Ms:List PM} {P:PV→Bool} {L:List Nat} (hr:WL E ⟨(0::0::L).map XR.tmp,fun w _=>∃l,w=.tu l∧(l.drop 2).all P=true⟩ ops [] fr M) (hT:pOpsT E.glob (pcl E) ops fr M=some (fr2,Ms)):L.all (fun s=>P (fr2 s))=true:=by
 obtain⟨lf,q,fr3,M3,vs,e,h1,h2,l,h3,h4⟩:=hr
 simp only[Option.bind_eq_some_iff,unw] at e
 obtain⟨⟨fr4,M4⟩,e1,e2⟩:=e
 simp only[Option.some.injEq,Prod.mk.injEq] at e2
 obtain⟨_,e3,e4⟩:=e2
 rw[←e3,←e4] at h2
 obtain⟨Ms',g1,g2⟩:=zbO e1
 rw[g1] at hT
 cases hT
 have hres:∀(f:PFr) (N:PM) (l:List Nat),pRes f N (l.map XR.tmp)=some (l.map f):=fun f N l=>by
  induction l with
  | nil=>rfl
  | cons a l ih=>simp only[List.map_cons,pRes,pResOne,ih]
 rw[hres] at h2
 cases h2
 simp only[List.map_cons,packP] at h3
 cases h3
 simpa [List.all_map] using h4
theorem zf1 {E:PEnv}:∀{ops:List XOper} {j:Nat} {fr fr2:PFr} {M C:PM} {Ms:List PM} {frC:PFr},j≤ops.length→pOps E.glob (pcl E) (ops.take j) fr M=some (frC,C)→pOpsT E.glob (pcl E) ops fr M=some (fr2,Ms)→Ms[j]?=some C
 | ops,0,fr,fr2,M,C,Ms,frC,_,h,hT=>by
  simp[pOps] at h
  obtain⟨_,rfl⟩:=h
  cases ops with
  | nil=>simp[pOpsT] at hT;rw[←hT.2];rfl
  | cons o l =>
   simp only[pOpsT] at hT
   split at hT
   ·split at hT
    ·simp only[Option.map_eq_some_iff] at hT
     obtain⟨r,_,e⟩:=hT
     cases e;rfl
    ·cases hT
   ·simp only[Option.map_eq_some_iff] at hT
    obtain⟨r,_,e⟩:=hT
    cases e;rfl
   ·cases hT
 | [],j+1,fr,fr2,M,C,Ms,frC,hj,h,hT=>by simp at hj
 | o::l,j+1,fr,fr2,M,C,Ms,frC,hj,h,hT=>by
  have hj':j≤l.length:=by simpa using hj
  simp only[List.take_succ_cons,pOps] at h
  simp only[pOpsT] at hT
  split at hT
  ·rename_i hw
   rw[hw] at h
   simp only at h
   split at hT
   ·rename_i v M1 hp
    rw[hp] at h
    simp only[Option.map_eq_some_iff] at hT
    obtain⟨⟨f3,Ms1⟩,e1,e2⟩:=hT
    cases e2
    show Ms1[j]?=some C
    exact zf1 hj' h e1
   ·cases hT
  ·rename_i hw
   rw[hw] at h
   simp only at h
   simp only[Option.map_eq_some_iff] at hT
   obtain⟨⟨f3,Ms1⟩,e1,e2⟩:=hT
   cases e2
   show Ms1[j]?=some C
   exact zf1 hj' h e1
  ·cases hT
theorem zj0 {E:PEnv} {ops:List XOper} {fr:PFr} {M C:PM} (h:WL E ⟨[],fun _ M2=>M2=C⟩ ops [] fr M):∃frC,pOps E.glob (pcl E) ops fr M=some (frC,C):=by
 obtain⟨lf,q,fr3,M3,vs,e,h1,h2,h3⟩:=h
 simp only[Option.bind_eq_some_iff,unw] at e
 obtain⟨⟨fr4,M4⟩,e1,e2⟩:=e
 simp only[Option.some.injEq,Prod.mk.injEq] at e2
 obtain⟨_,e3,e4⟩:=e2
 have h3:M3=C:=h3
 rw[←h3,←e4]
 exact⟨fr4,e1⟩
def isPn (n:Nat):PV→Bool
 | .p k _=>k==n
 | _=>false
def loadOf (ops:List XOper) (i s:Nat):Bool :=
 match ops[i]? with
 | some a=>(match a.op with | .load _ _ (.t t)=>t==s|_=>false)
 | none=>false
theorem zjF {E:PEnv} {F:PFin} {ops:List XOper} {chk:List (Nat×Nat)} {ks:List KI} {fr:PFr} {M:PM} (i j s n:Nat) (C D:PM) (hL:chk.all (fun c=>c==(i,j) || calmW E ops c)=true) (ha:loadOf ops i s=true) (hj:j<ops.length)
  (hs:WL E ⟨(0::0::[s]).map XR.tmp,fun w _=>∃l,w=.tu l∧(l.drop 2).all (isPn n)=true⟩ ops [] fr M)
  (h1:WL E ⟨[],fun _ M2=>M2=C⟩ (ops.take j) [] fr M) (h2:WL E ⟨[],fun _ M2=>M2=D⟩ (ops.take (j+1)) [] fr M) (hv:verP (some n) C D=true) (w:WL E F ops ks fr M):WK E F (.drw ops chk) ks fr M:=by
 refine zcR (fun fr2 Ms hT=>?_) w
 have hp:=zjx hs hT
 obtain⟨f1,g1⟩:=zj0 h1
 obtain⟨f2,g2⟩:=zj0 h2
 have c1:=zf1 (Nat.le_of_lt hj) g1 hT
 have c2:=zf1 hj g2 hT
 rw[List.all_eq_true] at hL ⊢
 rintro⟨a,b⟩ hc
 have hh:=hL _ hc
 simp only[Bool.or_eq_true,beq_iff_eq,Prod.mk.injEq] at hh
 rcases hh with⟨rfl,rfl⟩|hh
 ·unfold loadOf at ha
  split at ha
  ·rename_i o ho
   split at ha
   ·rename_i z k t hop
    obtain rfl:t=s:=by simpa using ha
    obtain⟨fri,A,B,q1,q2,q3,q4⟩:=zay hT ho
    have q2':Ms[(a,b).1+1]?=some B:=q2
    have c2':Ms[(a,b).2+1]?=some D:=c2
    refine zcZ ?_
    simp only[chkP0,ho,q1,q2,c1,c2]
    rw[if_neg (by rw[hop];simp[XO.cls])]
    rw[hop]
    show chkV ops b (.t t) C D (fr2 t)=true
    simp only[List.all_cons,List.all_nil,Bool.and_true] at hp
    cases hf:fr2 t with
    | p m off =>
     rw[hf] at hp
     have:m=n:=by simpa [isPn] using hp
     subst this
     exact hv
    | _=>rw[hf] at hp;simp[isPn] at hp
   ·cases ha
  ·cases ha
 ·
  have e:([(a,b)]:List (Nat×Nat)).all (calmW E ops)=true:=by simp[hh]
  unfold calmW at hh
  split at hh
  ·rename_i x y hx hy
   obtain⟨fri,A,B,q1,q2,q3,q4⟩:=zay hT hx
   obtain⟨frj,C',D',p1,p2,p3,p4⟩:=zay hT hy
   have p2':Ms[(a,b).2+1]?=some D':=p2
   rw[chkP,Bool.or_eq_true]
   right
   simp only[chkS,hx,q1,p1,p2]
   rw[decide_eq_true_eq]
   rcases p3 with⟨_,v,p3⟩|⟨_,p3⟩
   ·cases hopb:y.op with
    | call f l =>
     rw[hopb] at p3 hh
     obtain⟨ns,rfl⟩:=zdf hh p3
     exact zgp ns C'
    | _=>rw[hopb] at hh;simp[calmOp] at hh
   ·rw[p3]
  ·cases hh
end Go.Eng
namespace Go.Eng
theorem zqB (n:Nat):1≤(vbN n).length:=by
 rw[vbN];split<;>simp
theorem zjT (c:Nat→Int):∀n,n≤(encN c n).length
 | 0=>Nat.zero_le _
 | n+1=>by
  have:=zjT c n
  have:=zqB (zz (c n))
  show n+1≤(encN c n++ib (c n)).length
  rw[List.length_append]
  unfold ib;omega
theorem zme (M:PM) {l:List Nat} (h:1≤l.length) (hl:l.length<1000000000):appP M 1 1 .nl (.lst (bl l))=some (.sl M.length 0 l.length l.length 1,M++[some ⟨bl l,true,0⟩]):=by
 have s:=zfw M l
 have lb:=zaL l
 unfold appP
 rw[s]
 simp only[lb]
 rw[if_neg (by omega),if_pos (by omega)]
theorem zmh (l:List Nat) {k:Nat} (hk:k<l.length) (b:Nat):psplice (bl l) k [.i .u8 (b:Int)]=bl (l.set k b):=by
 unfold psplice bl
 rw[List.map_set,List.set_eq_take_append_cons_drop,if_pos (by simpa using hk)]
 simp
theorem zpM (n:Nat):mmP false (.i .i64 (n:Int)) [.i .i64 60]=some (.i .i64 ((min n 60:Nat):Int)):=by
 show some (PV.i .i64 (if (60:Int)<(n:Int) then 60 else (n:Int)))=_
 have:(if (60:Int)<(n:Int) then (60:Int) else (n:Int))=((min n 60:Nat):Int):=by split<;>omega
 rw[this]
theorem zkw (l:List Nat) (k b:Nat):(bl l).set k (.i .u8 (b:Int))=bl (l.set k b):=(List.map_set ..).symm
theorem zo2 (b0 b1 b2 b3:Option PB) (l:List Nat) (b:Nat) (hl:l.length<1000000000):appP [b0,b1,b2,b3,some ⟨bl l,true,0⟩,some ⟨[.i .u8 (b:Int)],true,0⟩] 1 1 (.sl 4 0 l.length l.length 1) (.sl 5 0 1 1 1)=some (.sl 6 0 (l.length+1) (l.length+1) 1,[b0,b1,b2,b3,none,some ⟨[.i .u8 (b:Int)],true,0⟩,some ⟨bl (l++[b]),true,0⟩]):=by
 have s:srcP [b0,b1,b2,b3,some ⟨bl l,true,0⟩,some ⟨[.i .u8 (b:Int)],true,0⟩] 1 (.sl 5 0 1 1 1)=some (1,[.i .u8 (b:Int)]):=rfl
 have lb:=zaL l
 have hb:PM.blk [b0,b1,b2,b3,some ⟨bl l,true,0⟩,some ⟨[.i .u8 (b:Int)],true,0⟩] 4=some ⟨bl l,true,0⟩:=rfl
 unfold appP
 rw[s]
 simp only[hb]
 rw[if_neg (by simp),if_neg (by decide),if_pos ⟨trivial,by omega,by omega⟩,List.drop_zero,List.take_of_length_le (by omega),zcV]
 rfl
theorem zih (l:List Nat) (k:Nat) (hk:k≤l.length):slP 1 (.lst (bl l)) none (some (.i .i64 (k:Int))) none=some (.lst (bl (l.take k))):=by
 have e:=zmH l
 have lb:=zaL l
 have n1:asNP (.i .i64 (k:Int))=some k:=zcD _ k
 have d:(bl l).take k=bl (l.take k):=List.map_take.symm
 generalize bl l=t at *
 simp[slP,optP,n1,e,hk,d,lb]
theorem zjL {M:PM} {n:Nat} {l:List Nat} {r:Bool} {w N:Nat} (hb:PM.blk M n=some ⟨bl l,r,w⟩) (hN:l.length=N) (h0:N≠0):b2sP M (.sl n 0 N N 1)=some (.s (ub l),M):=by
 have hr:PM.rd M n 0 N=some (bl l):=by
  have lb:=zaL l
  unfold PM.rd
  rw[hb]
  simp only[Nat.zero_add,List.drop_zero]
  rw[if_pos (by omega),List.take_of_length_le (by omega)]
 show (if N=0 then some (PV.s [],M) else if 1=1 then (match (PM.rd M n 0 N).bind bytesP with|some l=>some (PV.s l,M)|none=>none) else none)=_
 rw[if_neg h0,if_pos rfl,hr,Option.bind_some,zaj]
set_option maxHeartbeats 8000000 in
theorem zfk {xs:List Int} (hx:Ints xs) {raw:List Nat} (hr:∀b∈raw,b<256) (hrl:raw.length≤9223372036854775807) {at_ n:Int} {by_:Nat} (fa:Fits64 at_) (fb:by_<256) (fn:Fits64 n):pf E0 389 [ints xs,.lst (bl raw),.i .i64 at_,.i .u8 (by_:Int),.i .i64 n]=some (.b true):=by
 have gp:=znx hx
 have hc:=zkP hx
 generalize genP xs=c0 at *
 have lv:=zjl
 have a1:=zb0 at_ (n:=20) (by decide)
 have a2:0≤(at_.tmod 20+20).tmod 20∧(at_.tmod 20+20).tmod 20<20:=⟨Int.tmod_nonneg _ (by omega),Int.tmod_lt_of_pos _ (by decide)⟩
 obtain⟨i,hi⟩:∃i:Nat,(at_.tmod 20+20).tmod 20=(i:Int):=⟨((at_.tmod 20+20).tmod 20).toNat,by omega⟩
 have i20:i<20:=by omega
 have iL:(i<20)=True:=eq_true i20
 obtain⟨c,hcd⟩:∃c,c=upd c0 i n:=⟨_,rfl⟩
 have fc:∀e,e<20→Fits64 (c e):=fun e he=>by
  rw[hcd]
  by_cases q:e=i
  ·subst q;rw[zcP];exact fn
  ·rw[zdM q];have:=hc e he;unfold Fits64;omega
 have en:=zga fc
 have re:=za8 fc
 have de:=zjg fc
 have el:=zc2 (c:=c) (n:=20) fc
 have eb:=zdZ c 20
 have rd:=fun M=>zj6 (M:=M) (l:=encN c 20) (by omega)
 refine zab (xf:=ztu) rfl (by simp[ztu]) ?_
 simp only[ztu]
 simp(disch:=omega)only[go_sem,seval,wqq,gp,z20,hi,iL,←hcd,en,de,rd]
 have h0:=zfn (M:=[some ⟨cs 20 c,true,2⟩,some ⟨cs 20 c,true,1⟩,some ⟨[.lst (bl (encN c 20)),.i .i64 0],true,0⟩]) (m:=2) (s:=(encN c 20,0)) (w:=0) eb rfl
 have e0:uz (rdS (encN c 20,0)).1=c 0:=zh8 (c:=c) (n:=20) fc (k:=0) (by decide)
 rw[e0] at h0
 obtain⟨_,w',h0⟩:=h0
 simp only[List.set_cons_succ,List.set_cons_zero] at h0
 generalize (rdS (encN c 20,0)).2=S at h0
 have cg0:(cs 20 c)[0]?=some (.i .i64 (c 0)):=zbf c (by decide)
 refine zjF 23 21 60 0 [some ⟨cs 20 c,true,2⟩,some ⟨cs 20 c,true,1⟩,some ⟨[.lst (bl (encN c 20)),.i .i64 0],true,0⟩] [some ⟨cs 20 c,true,2⟩,some ⟨cs 20 c,true,1⟩,some ⟨[.lst (bl S.1),.i .i64 S.2],true,w'⟩] rfl rfl (by decide) ?_ ?_ ?_ rfl ?_
 ·simp(disch:=omega)only[go_sem,seval,wqq,zbd,re,zd0,h0,cg0]
  exact⟨_,rfl,rfl⟩
 ·simp only[List.take_succ_cons,List.take_zero]
  simp(disch:=omega)only[go_sem,seval,wqq,zbd,re,zd0,h0,cg0]
 ·simp only[List.take_succ_cons,List.take_zero]
  simp(disch:=omega)only[go_sem,seval,wqq,zbd,re,zd0,h0,cg0]
 simp(disch:=omega)only[go_sem,seval,wqq,zbd,re,zd0,h0,cg0]
 have eg:=zjT c 20
 clear h0 cg0 e0 rd en re de
 have eN:ub (encN c 20)=ub (encN c 20):=rfl
 clear eN
 generalize encN c 20=B at *
 obtain⟨N,hN⟩:∃N,N=B.length:=⟨_,rfl⟩
 have ap:=fun M=>zme M (l:=B) (by omega) (by omega)
 rw[←hN] at ap eg el
 have n0:((N:Int)=0)=False:=eq_false (by omega)
 have t1:=Int.lt_tmod_of_pos at_ (show (0:Int)<(N:Int) by omega)
 have t2:=Int.tmod_lt_of_pos at_ (show (0:Int)<(N:Int) by omega)
 have t3:0≤(at_.tmod N+N).tmod N∧(at_.tmod N+N).tmod N<N:=⟨Int.tmod_nonneg _ (by omega),Int.tmod_lt_of_pos _ (by omega)⟩
 obtain⟨k,hk⟩:∃k:Nat,(at_.tmod N+N).tmod N=(k:Int):=⟨((at_.tmod N+N).tmod N).toNat,by omega⟩
 have kN:(k<N)=True:=eq_true (by omega)
 have lb:=zaL B
 have bs:=zmh B (k:=k) (by omega) by_
 have mn:=zpM raw.length
 have lr:=zaL raw
 have s0:=zih raw (min raw.length 60) (by omega)
 have s3:=zih B (N-1) (by omega)
 have n1:(N:Int)-1=((N-1:Nat):Int):=by omega
 have bs2:=zkw B k by_
 have ap2:=fun b0 b1 b2 b3=>zo2 b0 b1 b2 b3 B by_ (by omega)
 rw[←hN] at ap2
 simp(disch:=omega)only[go_sem,seval,wqq,ap,n0,hk,kN,bs2,lb,←hN,lr,mn,s0,s3,n1,ap2,zat,zaf]
 have hB0:∀b∈raw.take (min raw.length 60),b<256:=fun b hb=>hr b (List.mem_of_mem_take hb)
 have hB3:∀b∈B.take (N-1),b<256:=fun b hb=>eb b (List.mem_of_mem_take hb)
 have hB2:∀b∈B++[by_],b<256:=fun b hb=>by
  rcases List.mem_append.1 hb with h|h
  ·exact eb b h
  ·obtain rfl:b=by_:=by simpa using h
   exact fb
 have hB1:∀b∈B.set k by_,b<256:=fun b hb=>by
  rcases List.mem_or_eq_of_mem_set hb with h|h
  ·exact eb b h
  ·rw[h];exact fb
 have n1':(B.set k by_).length=N:=by rw[List.length_set];omega
 have n2':(B++[by_]).length=N+1:=by rw[List.length_append];simp;omega
 have n0':(raw.take (min raw.length 60)).length≤60:=by rw[List.length_take];omega
 have n3':(B.take (N-1)).length≤N:=by rw[List.length_take];omega
 generalize raw.take (min raw.length 60)=l0 at *
 generalize B.take (N-1)=l3 at *
 generalize B.set k by_=B1 at *
 generalize B++[by_]=B2 at *
 have nN:(N=0)=False:=eq_false (by omega)
 have fb1:∀(b0 b1 b2:Option PB) (r:Bool) (w:Nat) (G:List (Option PB)),b2sP (b0::b1::b2::some ⟨bl B1,r,w⟩::G) (.sl 3 0 N N 1)=some (.s (ub B1),b0::b1::b2::some ⟨bl B1,r,w⟩::G):=fun b0 b1 b2 r w G=>zjL rfl n1' (by omega)
 have fb2:∀(b0 b1 b2 b3 b4 b5:Option PB) (r:Bool) (w:Nat) (G:List (Option PB)),b2sP (b0::b1::b2::b3::b4::b5::some ⟨bl B2,r,w⟩::G) (.sl 6 0 (N+1) (N+1) 1)=some (.s (ub B2),b0::b1::b2::b3::b4::b5::some ⟨bl B2,r,w⟩::G):=fun b0 b1 b2 b3 b4 b5 r w G=>zjL rfl n2' (by omega)
 have le1:(N≤(bl B1).length)=True:=eq_true (by rw[zaL];omega)
 have le2:(N+1≤(bl B2).length)=True:=eq_true (by rw[zaL];omega)
 have fzB:∀(M:PM) (d:Nat) (l:List Nat),fzL (fz M (d+1)) (bl l)=some (bl l,[]):=fun M d l=>zcK M d _ (fun _=>rfl) _
 have k1:=zaL B1
 have k2:=zaL B2
 have gr1:group 1 N (bl B1)=bl B1:=zbo _ _ (by omega)
 have gr2:group 1 (N+1) (bl B2)=bl B2:=zbo _ _ (by omega)
 have tk1:(bl B1).take N=bl B1:=List.take_of_length_le (by omega)
 have tk2:(bl B2).take (N+1)=bl B2:=List.take_of_length_le (by omega)
 clear ap ap2 mn s0 s3 bs bs2 hk t1 t2 t3
 refine zai zuo.eq_1 (fun(i:Nat) fr M=>i≤4∧fr 17=.sl 7 0 4 4 1∧fr 18=(PV.i .i64 ((i:Nat):Int))∧∃b0 b1 b2 b4 b5 r3 w3 r6 w6 G,M=b0::b1::b2::some ⟨bl B1,r3,w3⟩::b4::b5::some ⟨bl B2,r6,w6⟩::some ⟨[.lst (bl l0),.sl 3 0 N N 1,.sl 6 0 (N+1) (N+1) 1,.lst (bl l3)],true,0⟩::G) (fun i=>4-i) ?_ 0 ⟨by omega,by simp only[go_sem,seval],by simp only[go_sem,seval],_,_,_,_,_,_,_,_,_,[],rfl⟩
 rintro i fr M ⟨hi,f17,f18,b0,b1,b2,b4,b5,r3,w3,r6,w6,G,rfl⟩ ih
 rcases Nat.lt_or_ge i 4 with h|h
 ·obtain rfl|rfl|rfl|rfl:i=0∨i=1∨i=2∨i=3:=by omega
  ·obtain⟨x,e,d,hd⟩:=zdW hB0 (by omega)
   have q1:True:=trivial
   rcases hd with⟨rfl,hx,hu⟩|⟨rfl,rfl⟩
   ·have re:=za8 hx
    have hu':(ub (encN x 20)=ub l0)=True:=eq_true hu
    simp(disch:=omega)only[go_sem,seval,wqq,f17,f18,d,nN,le1,le2,fzB,gr1,gr2,zaj,tk1,tk2,z20,mG,mG0,sG,sG0,lG,lqq]
    refine za2 rfl ?_
    simp(disch:=omega)only[go_sem,seval,wqq,f17,f18,re,zbd,fb1,fb2,zaj,hu',nN,le1,le2,fzB,gr1,gr2,tk1,tk2,z20,mG,mG0,sG,sG0,lG,lqq]
    exact ih (0+1) _ _ (by omega) ⟨by omega,by simp only[go_sem,seval,f17],by simp only[go_sem,seval,f18];try rfl,_,_,_,_,_,_,_,_,_,_,rfl⟩
   ·simp(disch:=omega)only[go_sem,seval,wqq,f17,f18,d,nN,le1,le2,fzB,gr1,gr2,zaj,tk1,tk2,z20,mG,mG0,sG,sG0,lG,lqq]
    refine za2 rfl ?_
    simp(disch:=omega)only[go_sem,seval,wqq,f17,f18,zbd,zd0,zaj,nN,le1,le2,fzB,gr1,gr2,tk1,tk2,z20,mG,mG0,sG,sG0,lG,lqq]
    exact ih (0+1) _ _ (by omega) ⟨by omega,by simp only[go_sem,seval,f17],by simp only[go_sem,seval,f18];try rfl,_,_,_,_,_,_,_,_,_,_,rfl⟩
  ·obtain⟨x,e,d,hd⟩:=zdW hB1 (by omega)
   have q1:True:=trivial
   rcases hd with⟨rfl,hx,hu⟩|⟨rfl,rfl⟩
   ·have re:=za8 hx
    have hu':(ub (encN x 20)=ub B1)=True:=eq_true hu
    simp(disch:=omega)only[go_sem,seval,wqq,f17,f18,d,nN,le1,le2,fzB,gr1,gr2,zaj,tk1,tk2,z20,mG,mG0,sG,sG0,lG,lqq]
    refine za2 rfl ?_
    simp(disch:=omega)only[go_sem,seval,wqq,f17,f18,re,zbd,fb1,fb2,zaj,hu',nN,le1,le2,fzB,gr1,gr2,tk1,tk2,z20,mG,mG0,sG,sG0,lG,lqq]
    exact ih (1+1) _ _ (by omega) ⟨by omega,by simp only[go_sem,seval,f17],by simp only[go_sem,seval,f18];try rfl,_,_,_,_,_,_,_,_,_,_,rfl⟩
   ·simp(disch:=omega)only[go_sem,seval,wqq,f17,f18,d,nN,le1,le2,fzB,gr1,gr2,zaj,tk1,tk2,z20,mG,mG0,sG,sG0,lG,lqq]
    refine za2 rfl ?_
    simp(disch:=omega)only[go_sem,seval,wqq,f17,f18,zbd,zd0,zaj,nN,le1,le2,fzB,gr1,gr2,tk1,tk2,z20,mG,mG0,sG,sG0,lG,lqq]
    exact ih (1+1) _ _ (by omega) ⟨by omega,by simp only[go_sem,seval,f17],by simp only[go_sem,seval,f18];try rfl,_,_,_,_,_,_,_,_,_,_,rfl⟩
  ·obtain⟨x,e,d,hd⟩:=zdW hB2 (by omega)
   have q1:True:=trivial
   rcases hd with⟨rfl,hx,hu⟩|⟨rfl,rfl⟩
   ·have re:=za8 hx
    have hu':(ub (encN x 20)=ub B2)=True:=eq_true hu
    simp(disch:=omega)only[go_sem,seval,wqq,f17,f18,d,nN,le1,le2,fzB,gr1,gr2,zaj,tk1,tk2,z20,mG,mG0,sG,sG0,lG,lqq]
    refine za2 rfl ?_
    simp(disch:=omega)only[go_sem,seval,wqq,f17,f18,re,zbd,fb1,fb2,zaj,hu',nN,le1,le2,fzB,gr1,gr2,tk1,tk2,z20,mG,mG0,sG,sG0,lG,lqq]
    exact ih (2+1) _ _ (by omega) ⟨by omega,by simp only[go_sem,seval,f17],by simp only[go_sem,seval,f18];try rfl,_,_,_,_,_,_,_,_,_,_,rfl⟩
   ·simp(disch:=omega)only[go_sem,seval,wqq,f17,f18,d,nN,le1,le2,fzB,gr1,gr2,zaj,tk1,tk2,z20,mG,mG0,sG,sG0,lG,lqq]
    refine za2 rfl ?_
    simp(disch:=omega)only[go_sem,seval,wqq,f17,f18,zbd,zd0,zaj,nN,le1,le2,fzB,gr1,gr2,tk1,tk2,z20,mG,mG0,sG,sG0,lG,lqq]
    exact ih (2+1) _ _ (by omega) ⟨by omega,by simp only[go_sem,seval,f17],by simp only[go_sem,seval,f18];try rfl,_,_,_,_,_,_,_,_,_,_,rfl⟩
  ·obtain⟨x,e,d,hd⟩:=zdW hB3 (by omega)
   have q1:True:=trivial
   rcases hd with⟨rfl,hx,hu⟩|⟨rfl,rfl⟩
   ·have re:=za8 hx
    have hu':(ub (encN x 20)=ub l3)=True:=eq_true hu
    simp(disch:=omega)only[go_sem,seval,wqq,f17,f18,d,nN,le1,le2,fzB,gr1,gr2,zaj,tk1,tk2,z20,mG,mG0,sG,sG0,lG,lqq]
    refine za2 rfl ?_
    simp(disch:=omega)only[go_sem,seval,wqq,f17,f18,re,zbd,fb1,fb2,zaj,hu',nN,le1,le2,fzB,gr1,gr2,tk1,tk2,z20,mG,mG0,sG,sG0,lG,lqq]
    exact ih (3+1) _ _ (by omega) ⟨by omega,by simp only[go_sem,seval,f17],by simp only[go_sem,seval,f18];try rfl,_,_,_,_,_,_,_,_,_,_,rfl⟩
   ·simp(disch:=omega)only[go_sem,seval,wqq,f17,f18,d,nN,le1,le2,fzB,gr1,gr2,zaj,tk1,tk2,z20,mG,mG0,sG,sG0,lG,lqq]
    refine za2 rfl ?_
    simp(disch:=omega)only[go_sem,seval,wqq,f17,f18,zbd,zd0,zaj,nN,le1,le2,fzB,gr1,gr2,tk1,tk2,z20,mG,mG0,sG,sG0,lG,lqq]
    exact ih (3+1) _ _ (by omega) ⟨by omega,by simp only[go_sem,seval,f17],by simp only[go_sem,seval,f18];try rfl,_,_,_,_,_,_,_,_,_,_,rfl⟩
 ·obtain rfl:i=4:=by omega
  clear ih
  simp(disch:=omega)only[go_sem,seval,wqq,f17,f18,lv,mG,mG0,sG,sG0,lG,lqq]
end Go.Eng
namespace Go.Eng
open Go.Proofs Go.RowKit
def Byts (zs:List Int):Prop:=zs.length≤9223372036854775807∧∀z∈zs,0≤z∧z≤255
theorem byts_row {W:World} {a:Option Addr} {len cap:Nat} {zs:List Int} (h:IsRow .u8 W a len cap zs):Byts (zs.take len):=by
 rcases h with⟨rfl,rfl,rfl,rfl⟩|⟨x,rfl,hl,hm,hz,hcell,hwz⟩
 ·exact⟨by simp,fun n hn=>by simp at hn⟩
 ·refine⟨?_,fun n hn=>?_⟩
  ·have:maxLen≤9223372036854775807:=by decide
   simp;omega
  ·have:=bounds_u8 (hwz n (List.mem_of_mem_take hn))
   exact⟨this.1,by omega⟩
theorem zky {zs:List Int} (h:Byts zs):(zs.map fun z=>PV.i .u8 z)=bl (zs.map Int.toNat)∧∀b∈zs.map Int.toNat,b<256:=by
 refine⟨?_,fun b hb=>?_⟩
 ·unfold bl
  rw[List.map_map]
  refine List.map_congr_left fun z hz=>?_
  have:=h.2 z hz
  show PV.i .u8 z=PV.i .u8 ((z.toNat:Nat):Int)
  rw[Int.toNat_of_nonneg this.1]
 ·obtain⟨z,hz,rfl⟩:=List.mem_map.1 hb
  have:=h.2 z hz
  omega
theorem p_PolyBytesR {xs zs:List Int} (hx:Ints xs) (hz:Byts zs) {at_ b n:Int} (fa:Fits64 at_) (fb:0≤b∧b≤255) (fn:Fits64 n):pf E0 389 [ints xs,.lst (zs.map fun z=>PV.i .u8 z),.i .i64 at_,.i .u8 b,.i .i64 n]=some (.b true):=by
 obtain⟨e1,e2⟩:=zky hz
 have h:=zfk hx e2 (by rw[List.length_map];exact hz.1) fa (by_:=b.toNat) (by omega) fn
 rw[Int.toNat_of_nonneg fb.1] at h
 rw[e1];exact h
end Go.Eng
