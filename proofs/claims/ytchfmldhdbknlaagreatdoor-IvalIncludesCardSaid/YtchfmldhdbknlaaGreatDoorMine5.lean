/- The engine and the contracts on which the statement stands: no conditions of its own. -/
import Derived.Test.YtchfmldhdbknlaaGreatDoorMine4
set_option linter.unusedSimpArgs false
set_option linter.unusedVariables false
set_option linter.unusedSectionVars false
namespace Go.Eng
theorem zpo {K:Nat} (h:K≤16384):tlen (two K).natAbs<20000:=by
 have:=ze5 K
 rw[zcg];omega
theorem zqi:T 0=.lst []:=by unfold T;rw[zaO];rfl
theorem znd:rvP ivZ=.ag [.b false,.lst [],.b false,.lst []]:=by
 have:rvP ivZ=.ag [.b false,T 0,.b false,T 0]:=rfl
 rw[this,zqi]
theorem zkD {x y:Int} (lx:tlen x.natAbs<50000) (ly:tlen y.natAbs<50000):pf E0 363 [nP x,nP y]=some (.tu [rvP (mdI x y).1,.i .i64 (mdI x y).2]):=by
 have hp:pf E0 128 [.i .i64 8192]=some (nP (two 8192)):=zeS 8192 (by omega)
 have lt:=zpo (K:=8192) (by omega)
 have n1:=zc9 (two 8192) (by omega)
 have ln:tlen (- two 8192).natAbs<20000:=by rw[Int.natAbs_neg];exact lt
 have c1:=za7 x (- two 8192) (by omega) (by omega)
 have c2:=za7 y (two 8192) (by omega) (by omega)
 have c3:=za7 y (- two 8192) (by omega) (by omega)
 have c4:=za7 x (two 8192) (by omega) (by omega)
 have hx:=zeD x
 have hy:=zeD y
 have hz:rvP (mdI x y).1=(if inB x∧inB y then rfP x y else .ag [.b false,.lst [],.b false,.lst []]):=by
  split
  ·rename_i h
   obtain⟨_,e1,e2⟩:=zdU h
   unfold rvP;rw[e1,e2]
  ·rename_i h
   rw[ziD h];exact znd
 have he:(mdI x y).2=(if inB x∧inB y then 0 else 4):=by
  split
  ·rename_i h;exact(zdU h).1
  ·rename_i h;rw[ziD h]
 rw[hz,he]
 clear hz he lx ly lt ln
 have k1:∀a b:Int,(cmpI a b≤0)↔a≤b:=fun a b=>by unfold cmpI;split<;>(try split)<;>omega
 have k2:∀a b:Int,(0≤cmpI a b)↔b≤a:=fun a b=>by unfold cmpI;split<;>(try split)<;>omega
 generalize two 8192=t at *
 refine zaa (xf:=zxe) rfl (by simp[zxe]) ?_
 simp only[zxe]
 simp(disch:=omega)only[go_sem,seval,wqq,hp]
 by_cases h1:x ≤ -t
 ·have q1:(cmpI x (-t)≤0)=True:=by rw[k1];exact eq_true h1
  rw[if_neg (fun q=>by have:=hx.1 q.1;omega),if_neg (fun q=>by have:=hx.1 q.1;omega)]
  refine zag rfl ?_
  simp(disch:=omega)only[go_sem,seval,wqq,n1,c1,q1,zaw,zah]
 ·have q1:(cmpI x (-t)≤0)=False:=by rw[k1];exact eq_false h1
  by_cases h2:t≤y
  ·have q2:(0≤cmpI y t)=True:=by rw[k2];exact eq_true h2
   rw[if_neg (fun q=>by have:=hy.1 q.2;omega),if_neg (fun q=>by have:=hy.1 q.2;omega)]
   refine zag rfl ?_
   simp(disch:=omega)only[go_sem,seval,wqq,n1,c1,q1,c2,q2,zaw,zah]
  ·have q2:(0≤cmpI y t)=False:=by rw[k2];exact eq_false h2
   refine zag rfl ?_
   simp(disch:=omega)only[go_sem,seval,wqq,n1,c1,q1,c2,q2,zaw,zah]
   by_cases h3:y ≤ -t
   ·have q3:(cmpI y (-t)≤0)=True:=by rw[k1];exact eq_true h3
    rw[if_neg (fun q=>by have:=hy.1 q.2;omega),if_neg (fun q=>by have:=hy.1 q.2;omega)]
    refine zag rfl ?_
    simp(disch:=omega)only[go_sem,seval,wqq,n1,c3,q3,zaw,zah]
   ·have q3:(cmpI y (-t)≤0)=False:=by rw[k1];exact eq_false h3
    by_cases h4:t≤x
    ·have q4:(0≤cmpI x t)=True:=by rw[k2];exact eq_true h4
     rw[if_neg (fun q=>by have:=hx.1 q.1;omega),if_neg (fun q=>by have:=hx.1 q.1;omega)]
     refine zag rfl ?_
     simp(disch:=omega)only[go_sem,seval,wqq,n1,c3,q3,c4,q4,zaw,zah]
    ·have q4:(0≤cmpI x t)=False:=by rw[k2];exact eq_false h4
     rw[if_pos ⟨hx.2 ⟨by omega,by omega⟩,hy.2 ⟨by omega,by omega⟩⟩,if_pos ⟨hx.2 ⟨by omega,by omega⟩,hy.2 ⟨by omega,by omega⟩⟩]
     refine zag rfl ?_
     simp(disch:=omega)only[go_sem,seval,wqq,n1,c3,q3,c4,q4,zaw,zah]
theorem zlL {a b:Int} (h:0<b):sgA a b=a∧sgB b=b:=by unfold sgA sgB;rw[if_neg (by omega),if_neg (by omega)];exact⟨rfl,rfl⟩
theorem zfv {a b:Int} (hb:b≠0) (la:tlen a.natAbs<50000) (lb:tlen b.natAbs<50000):pf E0 364 [nP a,nP b]=some (nP (flI (sgA a b) (sgB b))):=by
 have d1:=zei (x:=sgA a b) (y:=sgB b) (by unfold sgB;split<;>omega) (by unfold sgA;split<;>(try rw[Int.natAbs_neg])<;>omega) (by unfold sgB;split<;>(try rw[Int.natAbs_neg])<;>omega)
 have d1:pf E0 120 [nP (sgA a b),nP (sgB b)]=some (.tu [nP (flI (sgA a b) (sgB b)),nP (sgA a b%sgB b)]):=d1
 have n1:=zc9 a (by omega)
 have n2:=zc9 b (by omega)
 generalize flI (sgA a b) (sgB b)=q at *
 generalize sgA a b%sgB b=r at *
 by_cases h:b<0
 ·have sn:decide (b<0)=true:=by simp;omega
  have e1:sgA a b = -a:=by unfold sgA;rw[if_pos h]
  have e2:sgB b = -b:=by unfold sgB;rw[if_pos h]
  rw[e1,e2] at d1
  have f1:PV.ag [PV.b true,Tw (tlen b.natAbs) b.natAbs]=nP b:=by rw[←sn];rfl
  refine zaa (xf:=zv3) rfl (by simp[zv3]) ?_
  simp only[zv3]
  simp(disch:=omega)only[go_sem,seval,wqq,sn,n1,n2,d1,f1]
 ·have sn:decide (b<0)=false:=by simp;omega
  have e1:sgA a b=a:=by unfold sgA;rw[if_neg h]
  have e2:sgB b=b:=by unfold sgB;rw[if_neg h]
  rw[e1,e2] at d1
  have f1:PV.ag [PV.b false,Tw (tlen b.natAbs) b.natAbs]=nP b:=by rw[←sn];rfl
  refine zaa (xf:=zv3) rfl (by simp[zv3]) ?_
  simp only[zv3]
  simp(disch:=omega)only[go_sem,seval,wqq,sn,d1,f1]
theorem zpl {a b:Int} {N:Nat} (la:tlen a.natAbs<N):tlen (flI a b).natAbs<N:=Nat.lt_of_le_of_lt (zat (zce _ _)) la
theorem zsU {a b:Int} {N:Nat} (la:tlen a.natAbs<N):tlen (ceI a b).natAbs<N:=by
 unfold ceI;rw[Int.natAbs_neg]
 exact Nat.lt_of_le_of_lt (zat (zce _ _)) (by rw[Int.natAbs_neg];exact la)
theorem zsV {a b:Int} {N:Nat} (la:tlen a.natAbs<N):tlen (sgA a b).natAbs<N:=by unfold sgA;split<;>(try rw[Int.natAbs_neg])<;>exact la
theorem zkG {a b:Int} (hb:b≠0) (la:tlen a.natAbs<50000) (lb:tlen b.natAbs<50000):pf E0 365 [nP a,nP b]=some (nP (ceI (sgA a b) (sgB b))):=by
 have n1:=zc9 a (by omega)
 have f1:=zfv (a := -a) hb (by rw[Int.natAbs_neg];exact la) lb
 have lf:tlen (flI (sgA (-a) b) (sgB b)).natAbs<50000:=zpl (zsV (by rw[Int.natAbs_neg];exact la))
 have n2:=zc9 (flI (sgA (-a) b) (sgB b)) (by omega)
 have e : - flI (sgA (-a) b) (sgB b)=ceI (sgA a b) (sgB b):=by rw[zjv];rfl
 rw[e] at n2
 generalize flI (sgA (-a) b) (sgB b)=q at *
 generalize ceI (sgA a b) (sgB b)=c at *
 refine zaa (xf:=zxm) rfl (by simp[zxm]) ?_
 simp only[zxm]
 simp(disch:=omega)only[go_sem,seval,wqq]
 refine zag rfl ?_
 simp(disch:=omega)only[go_sem,seval,wqq,n1,f1,n2]
theorem zgW (a:FQ):pf E0 362 [rfQ a]=some (.b (decide (¬(inL a.p.v∧inL a.q.v)))):=by
 have hp:pf E0 128 [.i .i64 16000]=some (nP (two 16000)):=zeS 16000 (by omega)
 have lt:=zpo (K:=16000) (by omega)
 have lp:=zdP a.p
 have lq:=zdP a.q
 obtain⟨m,hm⟩:∃m:Int,m=(a.p.v.natAbs:Int):=⟨_,rfl⟩
 have em:PV.ag [.b false,T a.p.v.natAbs]=nP m:=by
  have:decide (m<0)=false:=by simp;omega
  unfold nP
  rw[this,hm,Int.natAbs_natCast]
 have lm:tlen m.natAbs≤1239:=by rw[hm,Int.natAbs_natCast];exact lp
 have c1:=za7 m (two 16000) (by omega) (by omega)
 have c2:=za7 a.q.v (two 16000) (by omega) (by omega)
 have hq:=a.q1
 have l1:=zeJ a.p.v
 have l2:=zeJ a.q.v
 rw[←hm] at l1
 rw[show (a.q.v.natAbs:Int)=a.q.v by omega] at l2
 generalize two 16000=t at *
 have k:∀z:Int,(0≤cmpI z t)↔t≤z:=fun z=>by unfold cmpI;split<;>(try split)<;>omega
 have e:decide (¬(inL a.p.v∧inL a.q.v))=(if 0≤cmpI m t then true else decide (0≤cmpI a.q.v t)):=by
  by_cases h1:t≤m
  ·rw[if_pos ((k _).2 h1)]
   exact decide_eq_true (fun q=>l1.1 q.1 h1)
  ·rw[if_neg (fun q=>h1 ((k _).1 q))]
   by_cases h2:t≤a.q.v
   ·rw[decide_eq_true ((k _).2 h2)]
    exact decide_eq_true (fun q=>l2.1 q.2 h2)
   ·rw[decide_eq_false (fun q=>h2 ((k _).1 q))]
    exact decide_eq_false (fun q=>q ⟨l1.2 h1,l2.2 h2⟩)
 rw[e]
 clear e k l1 l2 hm
 unfold rfQ
 generalize a.p.v=P at *
 generalize a.q.v=Q at *
 refine zaa (xf:=zw4) rfl (by simp[zw4]) ?_
 simp only[zw4]
 by_cases h1:0≤cmpI m t
 ·rw[if_pos h1]
  have h1:(0≤cmpI m t)=True:=by simp[h1]
  simp(disch:=omega)only[go_sem,seval,wqq,hp,em,c1,h1]
 ·rw[if_neg h1]
  have h1:(0≤cmpI m t)=False:=by simp[h1]
  simp(disch:=omega)only[go_sem,seval,wqq,hp,em,c1,h1,c2]
end Go.Eng
namespace Go.Eng
@[go_sem] theorem ztq (M:PM) (d:Nat) (x:IV):fz M (d+1+1) (rvP x)=some (rvP x,[]):=_root_.id rfl
@[go_sem] theorem znL (x:IV):(rvP x).cells=[.b (decide (x.lo.v<0)),T x.lo.v.natAbs,.b (decide (x.hi.v<0)),T x.hi.v.natAbs]:=_root_.id rfl
@[go_sem] theorem zqN (x:IV):rfP x.lo.v x.hi.v=rvP x:=_root_.id rfl
theorem zeR:pf E0 128 [.i .i64 32]=some (nP 4294967296):=by
 have h:pf E0 128 [.i .i64 32]=some (nP (two 32)):=zeS 32 (by omega)
 rw[zpn] at h;exact h
theorem zdd (x:WI):tlen x.v.natAbs≤1239:=zdP x
theorem zug:tlen (4294967296:Int).natAbs≤3:=zad (by decide)
theorem zo0 (a b c d:FQ) (hab:(cmpF a b>0∧c=b∧d=a)∨(¬cmpF a b>0∧c=a∧d=b)):pf E0 345 [rfQ a,rfQ b]=some (.tu [rvP (mkSo c d).1,.i .i64 (mkSo c d).2]):=by
 have c1:pf E0 200 [rfQ a,rfQ b]=some (.i .i64 (cmpF a b)):=zf7 _ _ _ _ (by have:=zdd a.p;omega) (by have:=zdd a.q;omega) (by have:=zdd b.p;omega) (by have:=zdd b.q;omega)
 have l1:=zgW c
 have l2:=zgW d
 have hp:=zeR
 have t3:=zug
 have tc:=zdd c.p
 have tcq:=zdd c.q
 have td:=zdd d.p
 have tdq:=zdd d.q
 have cq:=c.q1
 have dq:=d.q1
 have m1:=zco c.p.v 4294967296 (by omega) (by omega)
 have m2:=zco d.p.v 4294967296 (by omega) (by omega)
 have t1:=zbp c.p.v 4294967296
 have t2:=zbp d.p.v 4294967296
 have e1:=zfv (a:=c.p.v*4294967296) (b:=c.q.v) (by omega) (by omega) (by omega)
 have e2:=zkG (a:=d.p.v*4294967296) (b:=d.q.v) (by omega) (by omega) (by omega)
 obtain⟨s1,s2⟩:=zlL (a:=c.p.v*4294967296) (b:=c.q.v) (by omega)
 obtain⟨s3,s4⟩:=zlL (a:=d.p.v*4294967296) (b:=d.q.v) (by omega)
 rw[s1,s2] at e1
 rw[s3,s4] at e2
 have md:=zkD (x:=flI (c.p.v*4294967296) c.q.v) (y:=ceI (d.p.v*4294967296) d.q.v) (zpl (by omega)) (zsU (by omega))
 have step:∀q:Prop,(q=(0<cmpF a b))→(q=True∧c=b∧d=a)∨(q=False∧c=a∧d=b):=fun q hq=>by
  rcases hab with⟨h1,h2⟩|⟨h1,h2⟩
  ·left;exact⟨by rw[hq];simp;omega,h2⟩
  ·right;exact⟨by rw[hq];simp;omega,h2⟩
 have s0:=step _ rfl
 generalize cmpF a b=cm at *
 clear step hab s1 s2 s3 s4
 unfold mkSo
 by_cases h1:inL c.p.v∧inL c.q.v
 ·rw[decide_eq_false (fun q=>q h1)] at l1
  by_cases h2:inL d.p.v∧inL d.q.v
  ·rw[decide_eq_false (fun q=>q h2)] at l2
   rw[if_pos ⟨h1.1,h1.2,h2.1,h2.2⟩]
   generalize mdI (flI (c.p.v*4294967296) c.q.v) (ceI (d.p.v*4294967296) d.q.v)=R at *
   generalize flI (c.p.v*4294967296) c.q.v=u at *
   generalize ceI (d.p.v*4294967296) d.q.v=v at *
   generalize c.p.v*4294967296=cm at *
   generalize d.p.v*4294967296=dm at *
   obtain⟨s,hs⟩:∃s:Int,s=4294967296:=⟨_,rfl⟩
   rw[←hs] at hp m1 m2
   clear h1 h2 hs
   rcases s0 with⟨q0,rfl,rfl⟩|⟨q0,rfl,rfl⟩
   ·refine zaa (xf:=zvt) rfl (by simp[zvt]) ?_
    simp only[zvt]
    simp(disch:=omega)only[go_sem,seval,wqq,c1,q0,l1,l2,hp]
    refine zag rfl ?_
    simp(disch:=omega)only[go_sem,seval,wqq,m1,m2,e1,e2,md]
   ·refine zaa (xf:=zvt) rfl (by simp[zvt]) ?_
    simp only[zvt]
    simp(disch:=omega)only[go_sem,seval,wqq,c1,q0,l1,l2,hp]
    refine zag rfl ?_
    simp(disch:=omega)only[go_sem,seval,wqq,m1,m2,e1,e2,md]
  ·rw[decide_eq_true h2] at l2
   rw[if_neg (fun q=>h2 q.2.2)]
   show _=some (PV.tu [rvP ivZ,PV.i .i64 4])
   rw[znd]
   rcases s0 with⟨q0,rfl,rfl⟩|⟨q0,rfl,rfl⟩
   ·refine zaa (xf:=zvt) rfl (by simp[zvt]) ?_
    simp only[zvt]
    simp(disch:=omega)only[go_sem,seval,wqq,c1,q0,l1,l2,zaw,zah]
   ·refine zaa (xf:=zvt) rfl (by simp[zvt]) ?_
    simp only[zvt]
    simp(disch:=omega)only[go_sem,seval,wqq,c1,q0,l1,l2,zaw,zah]
 ·rw[decide_eq_true h1] at l1
  rw[if_neg (fun q=>h1 ⟨q.1,q.2.1⟩)]
  show _=some (PV.tu [rvP ivZ,PV.i .i64 4])
  rw[znd]
  have l2':∃v:Bool,pf E0 362 [rfQ d]=some (.b v):=⟨_,l2⟩
  obtain⟨v,l2⟩:=l2'
  rcases s0 with⟨q0,rfl,rfl⟩|⟨q0,rfl,rfl⟩
  ·refine zaa (xf:=zvt) rfl (by simp[zvt]) ?_
   simp only[zvt]
   simp(disch:=omega)only[go_sem,seval,wqq,c1,q0,l1,l2,zaw,zah]
  ·refine zaa (xf:=zvt) rfl (by simp[zvt]) ?_
   simp only[zvt]
   simp(disch:=omega)only[go_sem,seval,wqq,c1,q0,l1,l2,zaw,zah]
theorem zkI (a b:FQ):pf E0 345 [rfQ a,rfQ b]=some (.tu [rvP (mkI a b).1,.i .i64 (mkI a b).2]):=by
 by_cases h:cmpF a b>0
 ·have:=zo0 a b b a (.inl ⟨h,rfl,rfl⟩)
  unfold mkI;rw[if_pos h];exact this
 ·have:=zo0 a b a b (.inr ⟨h,rfl,rfl⟩)
  unfold mkI;rw[if_neg h];exact this
theorem zgV (x:WI):pf E0 373 [nP x.v]=some (rfQ (frQ x)):=by
 have hp:=zeR
 have m1:=zi5 x w32
 rw[ze8] at m1
 unfold frQ
 generalize (makF x w32).1=R at *
 generalize (makF x w32).2=E at *
 generalize x.v=z at *
 obtain⟨s,hs⟩:∃s:Int,s=4294967296:=⟨_,rfl⟩
 rw[←hs] at hp m1
 clear hs
 refine zaa (xf:=zxk) rfl (by simp[zxk]) ?_
 simp only[zxk]
 simp(disch:=omega)only[go_sem,seval,wqq]
 refine zag rfl ?_
 simp(disch:=omega)only[go_sem,seval,wqq,hp,m1]
end Go.Eng
namespace Go.Eng
noncomputable def nL (N:Nat) (P:Nat→Int):List PV:=(List.range N).map fun i=>nP (P i)
end Go.Eng
set_option maxRecDepth 10000
namespace Go.Eng
theorem zdo (a b:WI) (ha:inB a.v) (hb:b.v≠0):∃q:WI,q.v=dFl a.v b.v∧pf E0 382 [wiP a,wiP b,.fp [.fn 296 [],.fn 297 []]]=some (wiP q):=by
 have sb:=zbY b
 by_cases h:b.v<0
 ·have n1:=zdV a
  have n2:=zdV b
  have nv:a.neg.v = -a.v:=rfl
  have bv:b.neg.v = -b.v:=rfl
  have t0:(cmpI b.v 0<0)=True:=by unfold cmpI;rw[if_pos h];simp
  have s1:=zcl (x:=a.neg)
  have hs:wlen (a.neg.v*4294967296).natAbs≤512:=zgC (by rw[nv];exact zeF.2 ha)
  rw[zaK hs] at s1
  have cv:=zaB hs
  have dv:dFl a.v b.v=flI (a.neg.v*4294967296) b.neg.v:=by unfold dFl sgA sgB;rw[if_pos h,if_pos h];rfl
  rw[dv]
  generalize clip (a.neg.v*4294967296)=z at *
  generalize a.neg=u at *
  generalize b.neg=w at *
  obtain⟨q,qv,fl⟩:∃q:WI,q.v=flI (u.v*4294967296) w.v∧pf E0 296 [wiP z,wiP w]=some (.tu [wiP q,.i .i64 0]):=⟨_,by show z.v/w.v=_;rw[cv];rfl,zcJ z w (by omega)⟩
  refine⟨q,qv,?_⟩
  refine zaa (xf:=zvu) rfl (by simp[zvu]) ?_
  simp only[zvu]
  simp(disch:=omega)only[go_sem,seval,wqq,sb,t0]
  refine zag rfl ?_
  simp(disch:=omega)only[go_sem,seval,wqq,n1,n2,s1,fl]
 ·have t0:(cmpI b.v 0<0)=False:=by unfold cmpI;rw[if_neg h];split<;>simp
  have s1:=zcl (x:=a)
  have hs:wlen (a.v*4294967296).natAbs≤512:=zgC ha
  rw[zaK hs] at s1
  have cv:=zaB hs
  have dv:dFl a.v b.v=flI (a.v*4294967296) b.v:=by unfold dFl sgA sgB;rw[if_neg h,if_neg h]
  rw[dv]
  have bv:b.v=b.v:=rfl
  generalize clip (a.v*4294967296)=z at *
  obtain⟨q,qv,fl⟩:∃q:WI,q.v=flI (a.v*4294967296) b.v∧pf E0 296 [wiP z,wiP b]=some (.tu [wiP q,.i .i64 0]):=⟨_,by show z.v/b.v=_;rw[cv];rfl,zcJ z b (by omega)⟩
  refine⟨q,qv,?_⟩
  refine zaa (xf:=zvu) rfl (by simp[zvu]) ?_
  simp only[zvu]
  simp(disch:=omega)only[go_sem,seval,wqq,sb,t0,s1,fl]
theorem zdp (a b:WI) (ha:inB a.v) (hb:b.v≠0):∃q:WI,q.v=dCe a.v b.v∧pf E0 382 [wiP a,wiP b,.fp [.fn 298 [],.fn 299 []]]=some (wiP q):=by
 have sb:=zbY b
 by_cases h:b.v<0
 ·have n1:=zdV a
  have n2:=zdV b
  have nv:a.neg.v = -a.v:=rfl
  have bv:b.neg.v = -b.v:=rfl
  have t0:(cmpI b.v 0<0)=True:=by unfold cmpI;rw[if_pos h];simp
  have s1:=zcl (x:=a.neg)
  have hs:wlen (a.neg.v*4294967296).natAbs≤512:=zgC (by rw[nv];exact zeF.2 ha)
  rw[zaK hs] at s1
  have cv:=zaB hs
  have dv:dCe a.v b.v=ceI (a.neg.v*4294967296) b.neg.v:=by unfold dCe sgA sgB;rw[if_pos h,if_pos h];rfl
  rw[dv]
  generalize clip (a.neg.v*4294967296)=z at *
  generalize a.neg=u at *
  generalize b.neg=w at *
  obtain⟨q,qv,fl⟩:=zdq z w (by omega)
  rw[cv] at qv
  refine⟨q,qv,?_⟩
  refine zaa (xf:=zvu) rfl (by simp[zvu]) ?_
  simp only[zvu]
  simp(disch:=omega)only[go_sem,seval,wqq,sb,t0]
  refine zag rfl ?_
  simp(disch:=omega)only[go_sem,seval,wqq,n1,n2,s1,fl]
 ·have t0:(cmpI b.v 0<0)=False:=by unfold cmpI;rw[if_neg h];split<;>simp
  have s1:=zcl (x:=a)
  have hs:wlen (a.v*4294967296).natAbs≤512:=zgC ha
  rw[zaK hs] at s1
  have cv:=zaB hs
  have dv:dCe a.v b.v=ceI (a.v*4294967296) b.v:=by unfold dCe sgA sgB;rw[if_neg h,if_neg h]
  rw[dv]
  have bv:b.v=b.v:=rfl
  generalize clip (a.v*4294967296)=z at *
  obtain⟨q,qv,fl⟩:=zdq z b (by omega)
  rw[cv] at qv
  refine⟨q,qv,?_⟩
  refine zaa (xf:=zvu) rfl (by simp[zvu]) ?_
  simp only[zvu]
  simp(disch:=omega)only[go_sem,seval,wqq,sb,t0,s1,fl]
theorem zkw (x y:IV) {q1 q2 q3 q4:WI} (h1:pf E0 382 [wiP x.lo,wiP y.lo,.fp [.fn 296 [],.fn 297 []]]=some (wiP q1)) (h2:pf E0 382 [wiP x.lo,wiP y.hi,.fp [.fn 296 [],.fn 297 []]]=some (wiP q2))
  (h3:pf E0 382 [wiP x.hi,wiP y.lo,.fp [.fn 296 [],.fn 297 []]]=some (wiP q3)) (h4:pf E0 382 [wiP x.hi,wiP y.hi,.fp [.fn 296 [],.fn 297 []]]=some (wiP q4)) :
  pf E0 381 [.ag [.fn 296 [],.fn 297 []],ivP x,ivP y,.fn 382 [.fp [.fn 296 [],.fn 297 []]]]=some (wiP (mnU (mnU (mnU q1 q2) q3) q4)):=by
 have b:=ziX q1 [q2,q3,q4] (by simp)
 simp only[List.map_cons,List.map_nil,List.foldl_cons,List.foldl_nil] at b
 generalize mnU (mnU (mnU q1 q2) q3) q4=R at *
 refine zaa (xf:=zvp) rfl (by simp[zvp]) ?_
 simp only[zvp]
 simp(disch:=omega)only[go_sem,seval,wqq]
 refine zbr [10,16,22,28] rfl ?_ ?_
 ·simp(disch:=omega)only[go_sem,seval,wqq,h1,h2,h3,h4,b,zaw,zah,zll]
  exact⟨_,rfl,rfl⟩
 simp(disch:=omega)only[go_sem,seval,wqq,h1,h2,h3,h4,b,zaw,zah,zll]
theorem zkx (x y:IV) {q1 q2 q3 q4:WI} (h1:pf E0 382 [wiP x.lo,wiP y.lo,.fp [.fn 298 [],.fn 299 []]]=some (wiP q1)) (h2:pf E0 382 [wiP x.lo,wiP y.hi,.fp [.fn 298 [],.fn 299 []]]=some (wiP q2))
  (h3:pf E0 382 [wiP x.hi,wiP y.lo,.fp [.fn 298 [],.fn 299 []]]=some (wiP q3)) (h4:pf E0 382 [wiP x.hi,wiP y.hi,.fp [.fn 298 [],.fn 299 []]]=some (wiP q4)) :
  pf E0 381 [.ag [.fn 298 [],.fn 299 []],ivP x,ivP y,.fn 382 [.fp [.fn 298 [],.fn 299 []]]]=some (wiP (mxU (mxU (mxU q1 q2) q3) q4)):=by
 have b:=ziY q1 [q2,q3,q4] (by simp)
 simp only[List.map_cons,List.map_nil,List.foldl_cons,List.foldl_nil] at b
 generalize mxU (mxU (mxU q1 q2) q3) q4=R at *
 refine zaa (xf:=zvp) rfl (by simp[zvp]) ?_
 simp only[zvp]
 simp(disch:=omega)only[go_sem,seval,wqq]
 refine zbr [10,16,22,28] rfl ?_ ?_
 ·simp(disch:=omega)only[go_sem,seval,wqq,h1,h2,h3,h4,b,zaw,zah,zll]
  exact⟨_,rfl,rfl⟩
 simp(disch:=omega)only[go_sem,seval,wqq,h1,h2,h3,h4,b,zaw,zah,zll]
theorem zmJ (x y:IV) (n1:y.lo.v≠0) (n2:y.hi.v≠0):∃q:WI,q.v=divLo x y∧pf E0 380 [.ag [.fn 296 [],.fn 297 []],.fp (ivP x).cells,.fp (ivP y).cells]=some (wiP q):=by
 obtain⟨q1,v1,h1⟩:=zdo x.lo y.lo x.l n1
 obtain⟨q2,v2,h2⟩:=zdo x.lo y.hi x.l n2
 obtain⟨q3,v3,h3⟩:=zdo x.hi y.lo x.h n1
 obtain⟨q4,v4,h4⟩:=zdo x.hi y.hi x.h n2
 have f:=zkw x y h1 h2 h3 h4
 have e:(mnU (mnU (mnU q1 q2) q3) q4).v=divLo x y:=by
  rw[zhr,zhr,zhr,v1,v2,v3,v4];rfl
 generalize mnU (mnU (mnU q1 q2) q3) q4=R at *
 refine⟨R,e,?_⟩
 refine zaa (xf:=zvX) rfl (by simp[zvX]) ?_
 simp only[zvX]
 simp(disch:=omega)only[go_sem,seval,wqq,f]
theorem zmK (x y:IV) (n1:y.lo.v≠0) (n2:y.hi.v≠0):∃q:WI,q.v=divHi x y∧pf E0 380 [.ag [.fn 298 [],.fn 299 []],.fp (ivP x).cells,.fp (ivP y).cells]=some (wiP q):=by
 obtain⟨q1,v1,h1⟩:=zdp x.lo y.lo x.l n1
 obtain⟨q2,v2,h2⟩:=zdp x.lo y.hi x.l n2
 obtain⟨q3,v3,h3⟩:=zdp x.hi y.lo x.h n1
 obtain⟨q4,v4,h4⟩:=zdp x.hi y.hi x.h n2
 have f:=zkx x y h1 h2 h3 h4
 have e:(mxU (mxU (mxU q1 q2) q3) q4).v=divHi x y:=by
  rw[zhs,zhs,zhs,v1,v2,v3,v4];rfl
 generalize mxU (mxU (mxU q1 q2) q3) q4=R at *
 refine⟨R,e,?_⟩
 refine zaa (xf:=zvX) rfl (by simp[zvX]) ?_
 simp only[zvX]
 simp(disch:=omega)only[go_sem,seval,wqq,f]
theorem zi3 (x y:IV) (hy:y.ok):pf E0 367 [ivP x,ivP y]=some (.tu [ivP (ivDiv x y).1,.i .i64 (ivDiv x y).2]):=by
 have s1:=zbY y.lo
 have s2:=zbY y.hi
 have k1:∀a:Int,(cmpI a 0≤0)↔a≤0:=fun a=>by unfold cmpI;split<;>(try split)<;>omega
 have k2:∀a:Int,(0≤cmpI a 0)↔0≤a:=fun a=>by unfold cmpI;split<;>(try split)<;>omega
 unfold ivDiv
 by_cases h:has0 y
 ·rw[if_pos h]
  have q1:(cmpI y.lo.v 0≤0)=True:=eq_true ((k1 _).2 h.1)
  have q2:(0≤cmpI y.hi.v 0)=True:=eq_true ((k2 _).2 h.2)
  show _=some (PV.tu [ivP ivZ,PV.i .i64 9])
  rw[zpR]
  refine zaa (xf:=zvP) rfl (by simp[zvP]) ?_
  simp only[zvP]
  simp(disch:=omega)only[go_sem,seval,wqq,s1,s2,q1,q2,zaw,zah]
 ·rw[if_neg h]
  obtain⟨n1,n2⟩:=zik h hy
  obtain⟨u,uv,e1⟩:=zmJ x y n1 n2
  obtain⟨v,vv,e2⟩:=zmK x y n1 n2
  have md:=zgS u v
  rw[uv,vv] at md
  generalize mdI (divLo x y) (divHi x y)=R at *
  rw[zcB,zcB] at e1 e2
  clear uv vv
  by_cases hl:y.lo.v≤0
  ·have q1:(cmpI y.lo.v 0≤0)=True:=eq_true ((k1 _).2 hl)
   have q2:(0≤cmpI y.hi.v 0)=False:=eq_false (fun q=>h ⟨hl,(k2 _).1 q⟩)
   refine zaa (xf:=zvP) rfl (by simp[zvP]) ?_
   simp only[zvP]
   simp(disch:=omega)only[go_sem,seval,wqq,s1,s2,q1,q2]
   refine zbr [19,22] rfl ?_ ?_
   ·simp(disch:=omega)only[go_sem,seval,wqq,zk9,zla,e1,e2,md]
    exact⟨_,rfl,rfl⟩
   simp(disch:=omega)only[go_sem,seval,wqq,zk9,zla,e1,e2,md]
  ·have q1:(cmpI y.lo.v 0≤0)=False:=eq_false (fun q=>hl ((k1 _).1 q))
   refine zaa (xf:=zvP) rfl (by simp[zvP]) ?_
   simp only[zvP]
   simp(disch:=omega)only[go_sem,seval,wqq,s1,q1]
   refine zbr [19,22] rfl ?_ ?_
   ·simp(disch:=omega)only[go_sem,seval,wqq,zk9,zla,e1,e2,md]
    exact⟨_,rfl,rfl⟩
   simp(disch:=omega)only[go_sem,seval,wqq,zk9,zla,e1,e2,md]
def ivNeg (y:IV):IV:=⟨y.hi.neg,y.lo.neg,zeF.2 y.h,zeF.2 y.l⟩
theorem ziq (x y:IV):ivAdd x (ivNeg y)=ivSub x y:=rfl
theorem zmV (x y:IV):pf E0 516 [ivP x,ivP y]=some (.tu [ivP (ivSub x y).1,.i .i64 (ivSub x y).2]):=by
 have a:=zi2 x (ivNeg y)
 rw[ziq] at a
 have n1:=zdV y.hi
 have n2:=zdV y.lo
 have hq:ivP (ivNeg y)=.ag [.b (decide (y.hi.neg.v<0)),D y.hi.neg.v.natAbs,.b (decide (y.lo.neg.v<0)),D y.lo.neg.v.natAbs]:=rfl
 rw[hq] at a
 generalize ivSub x y=R at *
 clear hq
 generalize y.hi.neg=u at *
 generalize y.lo.neg=v at *
 refine zaa (xf:=zw7) rfl (by simp[zw7]) ?_
 simp only[zw7]
 simp(disch:=omega)only[go_sem,seval,wqq]
 refine zag rfl ?_
 simp(disch:=omega)only[go_sem,seval,wqq,n1,n2,a,zaw,zah]
end Go.Eng
set_option maxRecDepth 10000
namespace Go.Eng
end Go.Eng
namespace Go.Eng
def upd {α:Type} (X:Nat→α) (i:Nat) (v:α):Nat→α:=fun e=>if e=i then v else X e
def cs (n:Nat) (X:Nat→Int):List PV:=(List.range n).map fun e=>.i .i64 (X e)
def zF:Nat→Int:=fun _=>0
end Go.Eng
namespace Go.Eng
end Go.Eng
namespace Go.Eng
noncomputable def cW (w:Nat→WI):List PV:=[.b (decide ((w 0).v<0)),D (w 0).v.natAbs,.b (decide ((w 1).v<0)),D (w 1).v.natAbs,.b (decide ((w 2).v<0)),D (w 2).v.natAbs,.b (decide ((w 3).v<0)),D (w 3).v.natAbs,.b (decide ((w 4).v<0)),D (w 4).v.natAbs,.b (decide ((w 5).v<0)),D (w 5).v.natAbs,.b (decide ((w 6).v<0)),D (w 6).v.natAbs,.b (decide ((w 7).v<0)),D (w 7).v.natAbs,.b (decide ((w 8).v<0)),D (w 8).v.natAbs]
noncomputable def mW (w:Nat→WI):PV:=.ag (cW w)
def cI (p:Nat→Int):List PV:=[.i .i64 (p 0),.i .i64 (p 1),.i .i64 (p 2),.i .i64 (p 3),.i .i64 (p 4),.i .i64 (p 5),.i .i64 (p 6),.i .i64 (p 7),.i .i64 (p 8)]
def pI (p:Nat→Int):PV:=.ag (cI p)
end Go.Eng
namespace Go.Eng
end Go.Eng
namespace Go.Eng
end Go.Eng
namespace Go.Eng
def gN (X:Nat→Int):Nat→Nat
 | 0=>0
 | i+1=>Nat.gcd (gN X i) (X i).natAbs
noncomputable def gW (x:Nat→WI):Nat→WI
 | 0=>wi0
 | i+1=>(gW x i).gcd (x i)
noncomputable def gC (x:Nat→WI):Nat→List PV
 | 0=>[.b false,.nl]
 | i+1=>[.b (decide ((gW x (i+1)).v<0)),D (gW x (i+1)).v.natAbs]
end Go.Eng
namespace Go.Eng
end Go.Eng
namespace Go.Eng
def sB (n:Nat):Nat→Bool:=fun e=>decide (e<n)
def rtK (a b c d e:Int):Int:=a*(b*c)-a*(d*e)
def rdV (z:Nat→Int):Int:=0+rtK (z 0) (z 4) (z 8) (z 5) (z 7)+rtK (z 1) (z 5) (z 6) (z 3) (z 8)+rtK (z 2) (z 3) (z 7) (z 4) (z 6)
end Go.Eng
namespace Go.Eng
end Go.Eng
namespace Go.Eng
end Go.Eng
namespace Go.Eng
def rpK (a b c d e f:Int):Int:=0+a*b+c*d+e*f
def rprV (z u:Nat→Int):Nat→Int:=fun e=>rpK (z (3*(e/3))) (u (e%3)) (z (3*(e/3)+1)) (u (3+e%3)) (z (3*(e/3)+2)) (u (6+e%3))
end Go.Eng

namespace Go.Eng
def mnV (X:Nat→Int) (i k:Nat):Int:=X (3*((i+1)%3)+(k+1)%3)*X (3*((i+2)%3)+(k+2)%3)-X (3*((i+1)%3)+(k+2)%3)*X (3*((i+2)%3)+(k+1)%3)
end Go.Eng
namespace Go.Eng
noncomputable def wc (t:WI):List PV:=[.b (decide (t.v<0)),D t.v.natAbs]
structure WZ (L:List PV) (s:WI):Prop where
 len:L.length=2
 sc:L.all PV.scal=true
 fz:∀(M:PM) (d:Nat),fzL (fz M (d+1)) L=some (wc s,[])
end Go.Eng
namespace Go.Eng
def cg (n:Nat) (f:Nat→List PV):List PV:=(List.range n).flatMap f
end Go.Eng
namespace Go.Eng
def facT:List (List Int):=[[],[0],[1],[2],[0,0],[0,1],[0,2],[1,1],[1,2],[2,2],[0,0,0],[0,0,1],[0,0,2],[0,1,1],[0,1,2],[0,2,2],[1,1,1],[1,1,2],[1,2,2],[2,2,2]]
def facL (i:Nat):List Int:=facT.getD i []
def prL (X:Nat→Int):List Int→Int
 | []=>1
 | a::l=>X a.toNat*prL X l
end Go.Eng
namespace Go.Eng
end Go.Eng
namespace Go.Eng
theorem zgO {n m:Int} (hn:Fits64 n) (hm:Fits64 m) (h1:1≤m):pf E0 6 [.i .i64 n,.i .i64 m]=some (.i .i64 (aro n m)):=by
 refine zaa (xf:=zwH) rfl (by simp[zwH]) ?_
 simp only[zwH]
 unfold Fits64 at hn hm
 have a0:=zcR n h1
 have a1:=zhH n h1
 have q1:(m=0)=False:=by simp;omega
 by_cases h:n<0
 ·have e:(0-(n+1)).tmod m=aro n m:=by
   unfold aro
   rw[if_pos h,Int.tmod_eq_emod_of_nonneg (by omega)]
   congr 1;omega
  simp(disch:=omega)only[go_sem,seval,wqq,h,q1,e]
 ·have e:n.tmod m=aro n m:=by
   unfold aro
   rw[if_neg h,Int.tmod_eq_emod_of_nonneg (by omega)]
  simp(disch:=omega)only[go_sem,seval,wqq,h,q1,e]
theorem zly {xs:List Int} (hx:Ints xs) {i m:Int} (hi:Fits64 i) (hm:Fits64 m) (h1:1≤m):pf E0 13 [ints xs,.i .i64 i,.i .i64 m]=some (.i .i64 (pick xs i m)):=by
 refine zaa (xf:=zxb) rfl (by simp[zxb]) ?_
 simp only[zxb]
 obtain⟨hx1,hx2⟩:=hx
 unfold pick
 by_cases h:i<0
 ·rw[if_pos (.inl h)]
  simp(disch:=omega)only[go_sem,seval,wqq,h]
 ·by_cases h':(xs.length:Int)≤i
  ·rw[if_pos (.inr h')]
   have q1:(i≥(xs.length:Int))=True:=by simp;omega
   simp(disch:=omega)only[go_sem,seval,wqq,h,q1]
  ·rw[if_neg (by omega)]
   have q1:(i≥(xs.length:Int))=False:=by simp;omega
   obtain⟨j,rfl⟩:∃j:Nat,i=j:=⟨i.toNat,by omega⟩
   have hj:j<xs.length:=by omega
   have hg:xs[j]?=some (xs.getD j 0):=by simp[hj]
   have ha:=zgO (n:=xs.getD j 0) (m:=m) (hx2 _ (by simp[hj])) hm h1
   simp(disch:=omega)only[go_sem,seval,wqq,h,q1,zfn hg,Int.toNat_natCast,ha]
end Go.Eng
namespace Go.Eng
end Go.Eng
namespace Go.Eng
end Go.Eng
namespace Go.Eng
end Go.Eng
namespace Go.Eng
structure TerOk (X Y S:Int) (C R:Nat) (hs:List Int):Prop where
 c:2≤C∧C≤128
 r:2≤R∧R≤128
 s:1≤S∧S≤65536
 x : -1048576≤X∧X+(C-1)*S≤1048576
 y : -1048576≤Y∧Y+(R-1)*S≤1048576
 len:hs.length=C*R
 h:∀n∈hs,-16384≤n∧n≤16384
theorem TerOk.ints {X Y S:Int} {C R:Nat} {hs:List Int} (t:TerOk X Y S C R hs):Ints hs:=by
 refine⟨?_,fun n hn=>?_⟩
 ·have:C*R≤128*128:=Nat.mul_le_mul t.c.2 t.r.2
  rw[t.len];omega
 ·have:=t.h n hn
  unfold Fits64;omega
end Go.Eng
namespace Go.Eng
end Go.Eng
namespace Go.Eng
end Go.Eng
namespace Go.Eng
end Go.Eng
namespace Go.Eng
end Go.Eng
namespace Go.Eng
end Go.Eng
namespace Go.Eng
end Go.Eng
namespace Go.Eng
end Go.Eng
namespace Go.Eng
end Go.Eng

namespace Go.Eng
end Go.Eng
namespace Go.Eng
def pw (i:Nat):Nat:=2^(2^i)
end Go.Eng
namespace Go.Eng
noncomputable def pwI (i:Nat):WI:=clip ((pw i:Nat):Int)
noncomputable def pwL:Nat→List PV
 | 0=>[]
 | j+1=>pwL j++[.b (decide ((pwI j).v<0)),D (pwI j).v.natAbs]
end Go.Eng
namespace Go.Eng
end Go.Eng
namespace Go.Eng
noncomputable def whQ (n:Int):FQ:=if h:Fits64 n then ⟨wiOf n h,wi1,by decide,Nat.gcd_one_right _⟩ else fq0
end Go.Eng
namespace Go.Eng
noncomputable def qc (f:FQ):List PV:=[.b (decide (f.p.v<0)),D f.p.v.natAbs,.b (decide (f.l.v<0)),D f.l.v.natAbs]
structure QZ (L:List PV) (f:FQ):Prop where
 len:L.length=4
 sc:L.all PV.scal=true
 fz:∀(M:PM) (d:Nat),fzL (fz M (d+1)) L=some (qc f,[])
end Go.Eng
namespace Go.Eng
noncomputable def vc (x:IV):List PV:=[.b (decide (x.lo.v<0)),D x.lo.v.natAbs,.b (decide (x.hi.v<0)),D x.hi.v.natAbs]
structure VZ (L:List PV) (x:IV):Prop where
 len:L.length=4
 sc:L.all PV.scal=true
 fz:∀(M:PM) (d:Nat),fzL (fz M (d+1)) L=some (vc x,[])
def enT (U:Nat→IV) (r:IV×Int) (l:List Int):IV×Int:=l.foldl (fun r a=>if r.2=0 then ivMul r.1 (U a.toNat) else r) r
noncomputable def enX (c:Nat→Int) (U:Nat→IV) (i:Nat) (s:IV) (b:Bool):IV×Int :=
 if b=false∧(enT U (mkI (whQ (c i)) (whQ (c i))) (facL i)).2=0 then ivAdd s (enT U (mkI (whQ (c i)) (whQ (c i))) (facL i)).1 else enT U (mkI (whQ (c i)) (whQ (c i))) (facL i)
noncomputable def enS (c:Nat→Int) (U:Nat→IV):Nat→IV×Bool×Int
 | 0=>(ivZ,true,0)
 | i+1=>if (enS c U i).2.2≠0 then enS c U i else if c i=0 then enS c U i else
  if (enX c U i (enS c U i).1 (enS c U i).2.1).2=0 then ((enX c U i (enS c U i).1 (enS c U i).2.1).1,false,0) else (ivZ,true,(enX c U i (enS c U i).1 (enS c U i).2.1).2)
end Go.Eng
namespace Go.Eng
end Go.Eng
namespace Go.Eng
end Go.Eng
namespace Go.Eng
end Go.Eng
namespace Go.Eng
end Go.Eng
namespace Go.Eng
theorem z20:[PV.i .i64 0,PV.i .i64 0,PV.i .i64 0,PV.i .i64 0,PV.i .i64 0,PV.i .i64 0,PV.i .i64 0,PV.i .i64 0,PV.i .i64 0,PV.i .i64 0,PV.i .i64 0,PV.i .i64 0,PV.i .i64 0,PV.i .i64 0,PV.i .i64 0,PV.i .i64 0,PV.i .i64 0,PV.i .i64 0,PV.i .i64 0,PV.i .i64 0]=cs 20 zF:=rfl
end Go.Eng
namespace Go.Eng
end Go.Eng
namespace Go.Eng
def adV (X:Nat→Int):Nat→Int:=fun e=>mnV X (e%3) (e/3)
end Go.Eng
namespace Go.Eng
end Go.Eng
namespace Go.Eng
def isPF (E:PEnv):PV→Bool
 | .fn f _=>E.pure f
 | _=>false
def slotIn4 (E:PEnv) (ops:List XOper) (L V:List Nat) (c:Nat×Nat):Bool :=
 match ops[c.1]?,ops[c.2]? with
 | some a,some b =>
  match a.op with
  | .load _ _ (.t s)=>L.contains s&&(match b.op with | .callv (.t v) _=>V.contains v&&fixedX ops c.2 (.t v)|_=>calmOp E b.op)
  | _=>false
 | _,_=>false
end Go.Eng
namespace Go.Eng
def slarrB (m off n z:Nat) (lo hi:Option PV):Option PB→Option PV
 | some b=>if off+n*z≤b.v.length then slP z (.sl m off n n z) lo hi none else none
 | none=>none
def slarrP (M:PM) (n z:Nat) (lo hi:Option PV):PV→Option PV
 | .p m off=>slarrB m off n z lo hi (PM.blk M m)
 | .fp l=>if n*z≤l.length∧n*z≠0∧l.all PV.scal=true then slP z (.lst (group z n (l.take (n*z)))) lo hi none else none
 | _=>none
def rwV (a b c un ud vn vd:Int):Int:=a*un*vd+b*vn*ud+c*(ud*vd)
end Go.Eng
namespace Go.Eng
def q8 (a b c d e f g h:Int):PV:=.ag [.i .i64 a,.i .i64 b,.i .i64 c,.i .i64 d,.i .i64 e,.i .i64 f,.i .i64 g,.i .i64 h]
end Go.Eng
namespace Go.Eng
end Go.Eng
namespace Go.Eng
end Go.Eng
namespace Go.Eng
end Go.Eng
namespace Go.Eng
def rwF (p:Nat→Int) (i:Nat) (u v:FQ):Int:=rwV (p (3*i)) (p (3*i+1)) (p (3*i+2)) u.p.v u.q.v v.p.v v.q.v
end Go.Eng
namespace Go.Eng
def oneI:Nat→Int:=fun e=>if e%4=0 then 1 else 0
end Go.Eng
namespace Go.Eng
end Go.Eng
namespace Go.Eng
theorem hF (p:Nat→Int):PV.ag [.i .i64 (p 0),.i .i64 (p 1),.i .i64 (p 2),.i .i64 (p 3),.i .i64 (p 4),.i .i64 (p 5),.i .i64 (p 6),.i .i64 (p 7),.i .i64 (p 8)]=pI p:=rfl
def e9 (a b:Nat→Int):Bool:=a 0==b 0&&(a 1==b 1&&(a 2==b 2&&(a 3==b 3&&(a 4==b 4&&(a 5==b 5&&(a 6==b 6&&(a 7==b 7&&a 8==b 8)))))))
end Go.Eng
namespace Go.Eng
def gEnt (n d:Int):Int:=if n.tmod 6=1∨n.tmod 6 = -1 then (n.tdiv 6).tmod 8 else if n.tmod 6=2 then (n.tdiv 6).tmod 1000 else if n.tmod 6=3 then 1073741824-(n.tdiv 6).tmod 4 else d
def g0P:Nat→Int:=fun e=>if e=0 then 2 else if e=4 then 2 else if e=8 then 1 else 0
def gMix (ns:Nat→Int) (i:Nat):Nat→Int:=fun e=>if e<i then gEnt (ns e) (g0P e) else g0P e
theorem gk0 (ns:Nat→Int) (h:gEnt (ns 0) (g0P 0)=g0P 0):cI (gMix ns 0)=cI (gMix ns 1):=by
 have e:gMix ns 0=gMix ns 1:=by
  funext e
  unfold gMix
  by_cases q:e=0
  ·subst q;rw[if_neg (by decide),if_pos (by decide),h]
  ·by_cases r:e<0
   ·rw[if_pos r,if_pos (by omega)]
   ·rw[if_neg r,if_neg (by omega)]
 rw[e]
end Go.Eng
namespace Go.Eng
end Go.Eng
namespace Go.Eng
end Go.Eng
namespace Go.Eng
end Go.Eng
namespace Go.Eng
end Go.Eng
namespace Go.Eng
end Go.Eng
namespace Go.Eng
end Go.Eng
namespace Go.Eng
end Go.Eng
namespace Go.Eng
theorem zlh (xs:List Int) (i:Int):∃f:FQ,Ints xs→0≤i→i≤100→fsz 122 f∧pf E0 187 [ints xs,.i .i64 i]=some (rfQ f):=by
 by_cases h:Ints xs∧0≤i∧i≤100
 ·obtain⟨f,h1,h2⟩:=zkE h.1 h.2.1 h.2.2
  exact⟨f,fun _ _ _=>⟨h1,h2⟩⟩
 ·exact⟨fq0,fun a b c=>absurd ⟨a,b,c⟩ h⟩
noncomputable def frcF (xs:List Int) (i:Int):FQ:=(zlh xs i).choose
theorem zlA {xs:List Int} (hx:Ints xs) {i:Int} (h0:0≤i) (h1:i≤100):pf E0 187 [ints xs,.i .i64 i]=some (rfQ (frcF xs i)):=((zlh xs i).choose_spec hx h0 h1).2
end Go.Eng
set_option maxRecDepth 10000
namespace Go.Eng
noncomputable def smF (xs:List Int) (i:Int):FQ:=(makF (clip (pick xs i 1000000%401-200)) (clip (1+pick xs i 1000000/401%16))).1
theorem zjw {z:Int} (h : -1000000≤z∧z≤1000000):wlen z.natAbs≤512:=zgc (by unfold Fits64;omega)
theorem zfw {xs:List Int} (hx:Ints xs) {i:Int} (hi:Fits64 i):pf E0 361 [ints xs,.i .i64 i]=some (rfQ (smF xs i)):=by
 have pk:=zly hx hi (m:=1000000) (by decide) (by decide)
 have k0:=zdK xs i (m:=1000000) (by decide)
 have k1:=zje xs i (m:=1000000) (by decide)
 unfold smF
 generalize pick xs i 1000000=k at *
 have e1:k.tmod 401=k%401:=Int.tmod_eq_emod_of_nonneg k0
 have e2:k.tdiv 401=k/401:=Int.tdiv_eq_ediv_of_nonneg k0
 have e3:(k/401).tmod 16=k/401%16:=Int.tmod_eq_emod_of_nonneg (Int.ediv_nonneg k0 (by decide))
 have b1 : -200≤k%401-200∧k%401-200≤200:=by omega
 have b2:1≤1+k/401%16∧1+k/401%16≤16:=by omega
 have o1:=zcK (k%401-200) (by unfold Fits64;omega)
 have o2:=zcK (1+k/401%16) (by unfold Fits64;omega)
 have m:=zi5 (clip (k%401-200)) (clip (1+k/401%16))
 rw[zaB (zjw (by omega)),zaB (zjw (by omega))] at m
 generalize makF (clip (k%401-200)) (clip (1+k/401%16))=R at *
 generalize hu:k%401-200=u at *
 generalize hv:1+k/401%16=v at *
 refine zaa (xf:=zwU) rfl (by simp[zwU]) ?_
 simp only[zwU]
 simp(disch:=omega)only[go_sem,seval,wqq,pk,e1,e2,e3,hu,hv,o1,o2,m]
noncomputable def enF (xs:List Int) (i:Int):FQ×FQ :=
 if pick xs i 1000000%4=0 then (frcF xs (i+1),frcF xs (i+3)) else if pick xs i 1000000%4=1 then (smF xs (i+1),smF xs (i+1)) else (smF xs (i+1),smF xs (i+2))
theorem zkH {xs:List Int} (hx:Ints xs) {i:Int} (h0:0≤i) (h1:i≤90):pf E0 344 [ints xs,.i .i64 i]=some (.tu [rfQ (enF xs i).1,rfQ (enF xs i).2]):=by
 have pk:=zly hx (i:=i) (m:=1000000) (by unfold Fits64;omega) (by decide) (by decide)
 have k0:=zdK xs i (m:=1000000) (by decide)
 have k1:=zje xs i (m:=1000000) (by decide)
 have f1:=zlA hx (i:=i+1) (by omega) (by omega)
 have f2:=zlA hx (i:=i+3) (by omega) (by omega)
 have s1:=zfw hx (i:=i+1) (by unfold Fits64;omega)
 have s2:=zfw hx (i:=i+2) (by unfold Fits64;omega)
 unfold enF
 generalize pick xs i 1000000=k at *
 have e1:k.tmod 4=k%4:=Int.tmod_eq_emod_of_nonneg k0
 generalize frcF xs (i+1)=F1 at *
 generalize frcF xs (i+3)=F2 at *
 generalize smF xs (i+1)=S1 at *
 generalize smF xs (i+2)=S2 at *
 by_cases h:k%4=0
 ·rw[if_pos h]
  have q:(k%4=0)=True:=eq_true h
  refine zaa (xf:=zvO) rfl (by simp[zvO]) ?_
  simp only[zvO]
  simp(disch:=omega)only[go_sem,seval,wqq,pk,e1,q,f1,f2]
 ·rw[if_neg h]
  have q:(k%4=0)=False:=eq_false h
  by_cases h':k%4=1
  ·rw[if_pos h']
   have q':(k%4=1)=True:=eq_true h'
   refine zaa (xf:=zvO) rfl (by simp[zvO]) ?_
   simp only[zvO]
   simp(disch:=omega)only[go_sem,seval,wqq,pk,e1,q,q',s1]
   refine ze9 [7] [4] rfl ?_ ?_
   ·simp(disch:=omega)only[go_sem,seval,wqq]
    exact⟨_,rfl,rfl⟩
   simp(disch:=omega)only[go_sem,seval,wqq]
  ·rw[if_neg h']
   have q':(k%4=1)=False:=eq_false h'
   refine zaa (xf:=zvO) rfl (by simp[zvO]) ?_
   simp only[zvO]
   simp(disch:=omega)only[go_sem,seval,wqq,pk,e1,q,q',s1]
   refine zag rfl ?_
   simp(disch:=omega)only[go_sem,seval,wqq,s2]
noncomputable def inI (xs:List Int) (i:Int):IV:=(mkI (enF xs i).1 (enF xs i).2).1
theorem zln (xs:List Int) (i:Int):(inI xs i).ok:=zgG _ _
theorem zda {xs:List Int} (hx:Ints xs) {i:Int} (h0:0≤i) (h1:i≤90):pf E0 446 [ints xs,.i .i64 i]=some (rvP (inI xs i)):=by
 have e:=zkH hx h0 h1
 have m:=zkI (enF xs i).1 (enF xs i).2
 unfold inI
 generalize mkI (enF xs i).1 (enF xs i).2=R at *
 generalize (enF xs i).1=a at *
 generalize (enF xs i).2=b at *
 refine zaa (xf:=zwe) rfl (by simp[zwe]) ?_
 simp only[zwe]
 simp(disch:=omega)only[go_sem,seval,wqq,e,m]
def insN (x:IV) (k:Int):Int:=x.lo.v*6+(x.hi.v-x.lo.v)*aro k 7
noncomputable def inF (x:IV) (k:Int):FQ:=(makF (clip (insN x k)) (clip 25769803776)).1
theorem zpA (k:Int):0≤aro k 7∧aro k 7<7:=⟨zcR k (by decide),zhH k (by decide)⟩
theorem zip (x:IV) (k:Int):wlen (insN x k).natAbs≤512:=by
 obtain⟨a0,a1⟩:=zpA k
 have i6:inK 3 6:=by unfold inK;decide
 have ia:inK 3 (aro k 7):=by unfold inK;omega
 have h1:inK 8196 (x.lo.v*6):=zcu (i:=8192) (j:=3) x.l i6 (by decide)
 have h2:inK 8193 (x.hi.v-x.lo.v):=zio (i:=8192) x.h x.l (by decide)
 have h3:inK 8196 ((x.hi.v-x.lo.v)*aro k 7):=zcu h2 ia (by decide)
 exact zhp (zeH h1 h3 (N:=8197) (by decide)) (by decide)
theorem zpu:wlen (25769803776:Int).natAbs≤512:=zgc (by decide)
theorem zod (x:IV) (k:Int):(inF x k).is (insN x k) 25769803776:=by
 have h:=ziy (x:=clip (insN x k)) (y:=clip 25769803776) (by rw[zaB zpu];decide)
 rw[zaB zpu,zaB (zip x k)] at h
 exact zlp (d:=25769803776) (by decide) h.2.1 h.2.2
theorem zeG {x:IV} (hx:x.ok) (k:Int):ivHas x (inF x k):=by
 rw[zn9 (by decide) (zod x k)]
 unfold IV.ok at hx
 unfold insN
 obtain⟨a0,a1⟩:=zpA k
 generalize aro k 7=n at *
 have p1:=Int.mul_nonneg (show 0≤x.hi.v-x.lo.v by omega) a0
 have p2:=Int.mul_le_mul_of_nonneg_left (show n≤6 by omega) (show 0≤x.hi.v-x.lo.v by omega)
 generalize (x.hi.v-x.lo.v)*n=d at *
 omega
theorem zck (x:IV) {k:Int} (hk:Fits64 k):pf E0 350 [rvP x,.i .i64 k]=some (rfQ (inF x k)):=by
 have ar:=zgO hk (m:=7) (by decide) (by decide)
 obtain⟨a0,a1⟩:=zpA k
 have t1:=zdd x.lo
 have t2:=zdd x.hi
 have ts:=zug
 have t6:tlen (6:Int).natAbs≤1:=zad (by decide)
 have ta:tlen (aro k 7).natAbs≤1:=zad (by omega)
 have s1:=zoY x.hi.v x.lo.v (by omega) (by omega)
 have o6:=zcK 6 (by decide)
 have oa:=zcK (aro k 7) (by unfold Fits64;omega)
 have m1:=zco x.lo.v 6 (by omega) (by omega)
 have hp:=zeR
 have ls:=zjB x.hi.v (-x.lo.v)
 rw[Int.natAbs_neg,←Int.sub_eq_add_neg] at ls
 have m2:=zco (x.hi.v-x.lo.v) (aro k 7) (by omega) (by omega)
 have l1:=zbp x.lo.v 6
 have l2:=zbp (x.hi.v-x.lo.v) (aro k 7)
 have ad:=zgT (x.lo.v*6) ((x.hi.v-x.lo.v)*aro k 7) (by omega) (by omega)
 have m3:=zco 4294967296 6 (by omega) (by omega)
 have mk:=zi5 (clip (insN x k)) (clip 25769803776)
 rw[zaB zpu,zaB (zip x k)] at mk
 have e3:(4294967296:Int)*6=25769803776:=by decide
 rw[e3] at m3
 have mk:pf E0 182 [nP (insN x k),nP 25769803776]=some (.tu [rfQ (inF x k),.i .i64 (makF (clip (insN x k)) (clip 25769803776)).2]):=mk
 have ad:pf E0 119 [nP (x.lo.v*6),nP ((x.hi.v-x.lo.v)*aro k 7)]=some (nP (insN x k)):=ad
 generalize (makF (clip (insN x k)) (clip 25769803776)).2=E at *
 generalize inF x k=R at *
 generalize insN x k=n at *
 generalize (x.hi.v-x.lo.v)*aro k 7=d at *
 generalize x.hi.v-x.lo.v=w at *
 generalize x.lo.v*6=u at *
 generalize aro k 7=a at *
 obtain⟨c,hc⟩:∃c:Int,c=25769803776:=⟨_,rfl⟩
 rw[←hc] at m3 mk
 obtain⟨s,hs⟩:∃s:Int,s=4294967296:=⟨_,rfl⟩
 rw[←hs] at hp m3
 obtain⟨g,hg⟩:∃g:Int,g=6:=⟨_,rfl⟩
 have o6:pf E0 114 [.i .i64 6]=some (nP g):=by rw[hg];exact o6
 rw[←hg] at m1 m3
 clear hc hs hg
 refine zaa (xf:=zwC) rfl (by simp[zwC]) ?_
 simp only[zwC]
 simp(disch:=omega)only[go_sem,seval,wqq,ar,s1]
 refine zag rfl ?_
 simp(disch:=omega)only[go_sem,seval,wqq,o6,oa,m1,m2,ad,hp,m3,mk]
theorem zm7 (f:FQ):pf E0 197 [.s (ftx f.p.v f.q.v)]=some (.tu [fqP f,.i .i64 0]):=zja f (by have:=zfV f;omega)
theorem zk1 (f:FQ):pf E0 196 [rfQ f]=some (.s (ftx f.p.v f.q.v)):=zkF _ _ (by have:=zdd f.p;omega) (by have:=zdd f.q;omega)
theorem zeh (f:FQ):pf E0 500 [rfQ f]=some (fqP f):=by
 have h1:=zk1 f
 have h2:=zm7 f
 generalize ftx f.p.v f.q.v=t at *
 refine zaa (xf:=zwG) rfl (by simp[zwG]) ?_
 simp only[zwG]
 simp(disch:=omega)only[go_sem,seval,wqq,h1,h2]
theorem zmh (a:Int):flI (a*4294967296) 4294967296=a:=Int.mul_ediv_cancel _ (by decide)
theorem zl1 (a:Int):ceI (a*4294967296) 4294967296=a:=by
 unfold ceI
 rw[←Int.neg_mul,Int.mul_ediv_cancel _ (by decide)];omega
theorem zn1 (x:WI):fdQ (frQ x)=x.v∧ceQ (frQ x)=x.v:=by
 rw[zn0 (by decide) (zgx x),znF (by decide) (zgx x),zmh,zl1]
 exact⟨rfl,rfl⟩
theorem zlg {x:WI} (h:inB x.v):inL (frQ x).p.v∧inL (frQ x).q.v:=by
 obtain⟨_,h1,h2⟩:=ziy (x:=x) (y:=w32) (by rw[ze8];decide)
 rw[ze8] at h1 h2
 have h1:(frQ x).p.v=lowP x.v 4294967296:=h1
 have h2:(frQ x).q.v=lowQ x.v 4294967296:=h2
 rw[h1,h2]
 exact⟨zd4 (zoc h) (zfZ (by decide)),zd4 (zbf zmm (by decide)) (zf0 (by decide))⟩
theorem zok {x:IV} (hx:x.ok):mkI (frQ x.lo) (frQ x.hi)=(x,0):=by
 unfold IV.ok at hx
 have hc:¬cmpF (frQ x.lo) (frQ x.hi)>0:=by
  rw[znN (by decide) (by decide) (zgx x.lo) (zgx x.hi)]
  have:=Int.mul_le_mul_of_nonneg_right hx (show (0:Int)≤4294967296 by decide)
  unfold cmpI
  split
  ·decide
  ·split
   ·omega
   ·decide
 obtain⟨l1,l2⟩:=zlg x.l
 obtain⟨l3,l4⟩:=zlg x.h
 unfold mkI
 rw[if_neg hc]
 unfold mkSo
 rw[if_pos ⟨l1,l2,l3,l4⟩]
 have e1:flI ((frQ x.lo).p.v*4294967296) (frQ x.lo).q.v=x.lo.v:=(zn1 x.lo).1
 have e2:ceI ((frQ x.hi).p.v*4294967296) (frQ x.hi).q.v=x.hi.v:=(zn1 x.hi).2
 rw[e1,e2]
 obtain⟨a,b,c⟩:=zdU ⟨x.l,x.h⟩
 have:(mdI x.lo.v x.hi.v).1=x:=zof b c
 exact Prod.ext this a
theorem zi4 {x:IV} (hx:x.ok):pf E0 503 [rvP x]=some (ivP x):=by
 have h1:=zgV x.lo
 have h2:=zgV x.hi
 have n1:=zeh (frQ x.lo)
 have n2:=zeh (frQ x.hi)
 have m:=zcj (frQ x.lo) (frQ x.hi)
 rw[zok hx] at m
 generalize frQ x.lo=A at *
 generalize frQ x.hi=B at *
 refine zaa (xf:=zwh) rfl (by simp[zwh]) ?_
 simp only[zwh]
 simp(disch:=omega)only[go_sem,seval,wqq]
 refine zag rfl ?_
 simp(disch:=omega)only[go_sem,seval,wqq,h1,h2,n1,n2,m]
end Go.Eng
set_option maxRecDepth 10000
namespace Go.Eng
theorem zim {z:Int} (h:Fits64 z):inK 64 z:=by
 unfold inK
 unfold Fits64 at h
 have:(2:Nat)^64=18446744073709551616:=by decide
 omega
theorem zkn {a b:FQ} {l h:Int} (f1:Fits64 a.p.v) (f2:Fits64 a.q.v) (f3:Fits64 b.p.v) (f4:Fits64 b.q.v) (hl:min2 (fdQ a) (fdQ b)=l) (hh:max2 (ceQ a) (ceQ b)=h):(mkI a b).2=0∧(mkI a b).1.lo.v=l∧(mkI a b).1.hi.v=h:=by
 have big:∀f:FQ,Fits64 f.p.v→inB (fdQ f)∧inB (ceQ f):=fun f hf=>by
  have hm:inK 97 (f.p.v*4294967296):=zcu (zim hf) zmm (by decide)
  refine⟨zbf (zd4 hm (zce _ _)) (by decide),?_⟩
  have:inK 97 (-(f.p.v*4294967296)):=zeI.2 hm
  refine zbf (i:=97) ?_ (by decide)
  unfold ceQ ceI
  rw[zeI]
  exact zd4 this (zce _ _)
 have so:∀c d:FQ,Fits64 c.p.v→Fits64 c.q.v→Fits64 d.p.v→Fits64 d.q.v→(mkSo c d).2=0:=fun c d g1 g2 g3 g4=>by
  have il:∀{z:Int},Fits64 z→inL z:=fun q=>zbf (zim q) (by decide)
  unfold mkSo
  rw[if_pos ⟨il g1,il g2,il g3,il g4⟩]
  exact(zdU ⟨(big c g1).1,(big d g3).2⟩).1
 have z:(mkI a b).2=0:=by
  unfold mkI
  split
  ·exact so b a f3 f4 f1 f2
  ·exact so a b f1 f2 f3 f4
 obtain⟨v1,v2⟩:=zol z
 exact⟨z,v1.trans hl,v2.trans hh⟩
theorem zka (x:WI):(frQ x).p.v=lowP x.v 4294967296∧(frQ x).q.v=lowQ x.v 4294967296:=by
 obtain⟨_,h1,h2⟩:=ziy (x:=x) (y:=w32) (by rw[ze8];decide)
 exact⟨h1,h2⟩
theorem zfY {x:IV} {l h p1 q1 p2 q2:Int} {s t:List UInt8} (hl:x.lo.v=l) (hh:x.hi.v=h) (e1:lowP l 4294967296=p1) (e2:lowQ l 4294967296=q1) (e3:lowP h 4294967296=p2) (e4:lowQ h 4294967296=q2) (hs:ftx p1 q1=s) (ht:ftx p2 q2=t) :
  ivTx x=[91]++s++[44,32]++t++[93]:=by
 unfold ivTx
 rw[(zka x.lo).1,(zka x.lo).2,(zka x.hi).1,(zka x.hi).2,hl,hh,e1,e2,e3,e4,hs,ht]
theorem zhn {f:FQ} {p q l h:Int} (hp:f.p.v=p) (hq:f.q.v=q) (e1:flI (p*4294967296) q=l) (e2:ceI (p*4294967296) q=h):fdQ f=l∧ceQ f=h:=by
 unfold fdQ ceQ
 rw[hp,hq];exact⟨e1,e2⟩
set_option maxHeartbeats 4000000 in
theorem zkA:pf E0 502 []=some (.b true):=by
 obtain⟨o,o1,o2,_,fo⟩:=zht (p:=1) (q:=1) (a:=1) (b:=1) (by decide) (by decide) (by decide) (by decide) (by decide) (zad (by decide)) (zad (by decide))
 obtain⟨t,t1,t2,_,ft⟩:=zht (p:=1) (q:=3) (a:=1) (b:=3) (by decide) (by decide) (by decide) (by decide) (by decide) (zad (by decide)) (zad (by decide))
 obtain⟨h,h1,h2,_,fh⟩:=zht (p:=1) (q:=2) (a:=1) (b:=2) (by decide) (by decide) (by decide) (by decide) (by decide) (zad (by decide)) (zad (by decide))
 obtain⟨w,w1,w2,_,fw⟩:=zht (p:=2) (q:=1) (a:=2) (b:=1) (by decide) (by decide) (by decide) (by decide) (by decide) (zad (by decide)) (zad (by decide))
 obtain⟨u,u1,u2,_,fu⟩:=zht (p:=4) (q:=1) (a:=4) (b:=1) (by decide) (by decide) (by decide) (by decide) (by decide) (zad (by decide)) (zad (by decide))
 obtain⟨v,v1,v2,_,fv⟩:=zht (p:=8) (q:=1) (a:=8) (b:=1) (by decide) (by decide) (by decide) (by decide) (by decide) (zad (by decide)) (zad (by decide))
 obtain⟨to1,to2⟩:=zhn (l:=4294967296) (h:=4294967296) o1 o2 (by decide) (by decide)
 obtain⟨tt1,tt2⟩:=zhn (l:=1431655765) (h:=1431655766) t1 t2 (by decide) (by decide)
 obtain⟨th1,th2⟩:=zhn (l:=2147483648) (h:=2147483648) h1 h2 (by decide) (by decide)
 obtain⟨tw1,tw2⟩:=zhn (l:=8589934592) (h:=8589934592) w1 w2 (by decide) (by decide)
 obtain⟨tu1,tu2⟩:=zhn (l:=17179869184) (h:=17179869184) u1 u2 (by decide) (by decide)
 obtain⟨tv1,tv2⟩:=zhn (l:=34359738368) (h:=34359738368) v1 v2 (by decide) (by decide)
 have fi:∀{z n:Int},z=n→Fits64 n→Fits64 z:=fun h g=>h ▸ g
 obtain⟨a0,a1,a2⟩:=zkn (a:=h) (b:=h) (l:=2147483648) (h:=2147483648) (fi h1 (by decide)) (fi h2 (by decide)) (fi h1 (by decide)) (fi h2 (by decide)) (by rw[th1];decide) (by rw[th2];decide)
 obtain⟨b0,b1,b2⟩:=zkn (a:=t) (b:=t) (l:=1431655765) (h:=1431655766) (fi t1 (by decide)) (fi t2 (by decide)) (fi t1 (by decide)) (fi t2 (by decide)) (by rw[tt1];decide) (by rw[tt2];decide)
 obtain⟨c0,c1,c2⟩:=zkn (a:=o) (b:=w) (l:=4294967296) (h:=8589934592) (fi o1 (by decide)) (fi o2 (by decide)) (fi w1 (by decide)) (fi w2 (by decide)) (by rw[to1,tw1];decide) (by rw[to2,tw2];decide)
 obtain⟨d0,d1,d2⟩:=zkn (a:=v) (b:=u) (l:=17179869184) (h:=34359738368) (fi v1 (by decide)) (fi v2 (by decide)) (fi u1 (by decide)) (fi u2 (by decide)) (by rw[tv1,tu1];decide) (by rw[tv2,tu2];decide)
 have ma:=zlB h
 have mb:=zlB t
 have mc:=zcj o w
 have md:=zcj v u
 have dv:=zi3 (mkI o w).1 (mkI v u).1 (zgG _ _)
 rw[a0] at ma
 rw[b0] at mb
 rw[c0] at mc
 rw[d0] at md
 generalize (mkI h h).1=A at *
 generalize (mkI t t).1=B at *
 generalize (mkI o w).1=C at *
 generalize (mkI v u).1=D at *
 have n0:¬has0 D:=by unfold has0;omega
 have el:divLo C D=536870912:=by unfold divLo;rw[c1,c2,d1,d2];decide
 have eh:divHi C D=2147483648:=by unfold divHi;rw[c1,c2,d1,d2];decide
 have eq:ivDiv C D=mdI 536870912 2147483648:=by unfold ivDiv;rw[if_neg n0,el,eh]
 obtain⟨q0,q1,q2⟩:=zdU (lo:=536870912) (hi:=2147483648) ⟨zbf (zim (by decide)) (by decide),zbf (zim (by decide)) (by decide)⟩
 rw[eq,q0] at dv
 generalize (mdI 536870912 2147483648).1=Q at *
 have k1:decI 1=[49]:=(zdA (v:=1) (n:=0) rfl (by decide) (by decide)).trans rfl
 have k2:decI 2=[50]:=(zdA (v:=2) (n:=0) rfl (by decide) (by decide)).trans rfl
 have k8:decI 8=[56]:=(zdA (v:=8) (n:=0) rfl (by decide) (by decide)).trans rfl
 have k3:decI 1431655765=[49,52,51,49,54,53,53,55,54,53]:=(zdA (v:=1431655765) (n:=9) rfl (by decide) (by decide)).trans rfl
 have k4:decI 4294967296=[52,50,57,52,57,54,55,50,57,54]:=(zdA (v:=4294967296) (n:=9) rfl (by decide) (by decide)).trans rfl
 have k5:decI 715827883=[55,49,53,56,50,55,56,56,51]:=(zdA (v:=715827883) (n:=8) rfl (by decide) (by decide)).trans rfl
 have k6:decI 2147483648=[50,49,52,55,52,56,51,54,52,56]:=(zdA (v:=2147483648) (n:=9) rfl (by decide) (by decide)).trans rfl
 have x12:ftx 1 2=[49,47,50]:=by unfold ftx;rw[if_neg (by decide),k1,k2];rfl
 have x18:ftx 1 8=[49,47,56]:=by unfold ftx;rw[if_neg (by decide),k1,k8];rfl
 have xb1:ftx 1431655765 4294967296=[49,52,51,49,54,53,53,55,54,53,47,52,50,57,52,57,54,55,50,57,54]:=by unfold ftx;rw[if_neg (by decide),k3,k4];rfl
 have xb2:ftx 715827883 2147483648=[55,49,53,56,50,55,56,56,51,47,50,49,52,55,52,56,51,54,52,56]:=by unfold ftx;rw[if_neg (by decide),k5,k6];rfl
 have sa:=zcX A
 have sb:=zcX B
 have sq:=zcX Q
 rw[zfY a1 a2 (p1:=1) (q1:=2) (p2:=1) (q2:=2) (by decide) (by decide) (by decide) (by decide) x12 x12] at sa
 rw[zfY b1 b2 (p1:=1431655765) (q1:=4294967296) (p2:=715827883) (q2:=2147483648) (by decide) (by decide) (by decide) (by decide) xb1 xb2] at sb
 rw[zfY q1 q2 (p1:=1) (q1:=8) (p2:=1) (q2:=2) (by decide) (by decide) (by decide) (by decide) x18 x12] at sq
 simp only[List.cons_append,List.nil_append] at sa sb sq
 clear a1 a2 b1 b2 c1 c2 d1 d2 q1 q2 h1 h2 t1 t2 o1 o2 w1 w2 u1 u2 v1 v2 to1 to2 tt1 tt2 th1 th2 tw1 tw2 tu1 tu2 tv1 tv2
 refine zaa (xf:=zwN) rfl (by simp[zwN]) ?_
 simp only[zwN]
 have hx:xs_8253e7=[91,49,52,51,49,54,53,53,55,54,53,47,52,50,57,52,57,54,55,50,57,54,44,32,55,49,53,56,50,55,56,56,51,47,50,49,52,55,52,56,51,54,52,56,93]:=rfl
 simp(disch:=omega)only[go_sem,seval,wqq,fo,ft,fh,fw,fu,fv,ma,mb,mc,md,dv,sa,sb,sq,hx,decide_true]
end Go.Eng
set_option maxRecDepth 10000
namespace Go.Eng
noncomputable def opI (k:Nat) (x y:IV):IV×Int:=if k=0 then ivAdd x y else if k=1 then ivSub x y else if k=2 then ivMul x y else ivDiv x y
theorem zlD {k:Nat} (hk:k<4) (x y:IV) (hy:y.ok):pf E0 506 [(PV.i .i64 ((k:Nat):Int)),ivP x,ivP y]=some (.tu [ivP (opI k x y).1,.i .i64 (opI k x y).2]):=by
 have a:=zi2 x y
 have s:=zmV x y
 have m:=zmU x y
 have d:=zi3 x y hy
 unfold opI
 generalize ivAdd x y=A at *
 generalize ivSub x y=S at *
 generalize ivMul x y=Mm at *
 generalize ivDiv x y=Dd at *
 obtain rfl|rfl|rfl|rfl:k=0∨k=1∨k=2∨k=3:=by omega
 all_goals
  refine zaa (xf:=zwc) rfl (by simp[zwc]) ?_
  simp only[zwc]
  simp(disch:=omega)only[go_sem,seval,wqq,a,s,m,d,Int.natCast_zero,Int.natCast_one,Int.cast_ofNat_Int]
end Go.Eng
set_option maxRecDepth 10000
namespace Go.Eng
theorem zq6 (x y:IV):opI 0 x y=ivAdd x y:=if_pos rfl
theorem zq7 (x y:IV):opI 1 x y=ivSub x y:=(if_neg (by decide)).trans (if_pos rfl)
theorem zq8 (x y:IV):opI 2 x y=ivMul x y:=(if_neg (by decide)).trans ((if_neg (by decide)).trans (if_pos rfl))
theorem zq9 (x y:IV):opI 3 x y=ivDiv x y:=(if_neg (by decide)).trans ((if_neg (by decide)).trans (if_neg (by decide)))
theorem zos {k:Nat} (hk:k<4) {x y u v:IV} (hx:x.ok) (hy:y.ok) (hv:v.ok) (h1:ivIn x u) (h2:ivIn y v) (h:(opI k u v).2=0):(opI k x y).2=0∧ivIn (opI k x y).1 (opI k u v).1:=by
 obtain rfl|rfl|rfl|rfl:k=0∨k=1∨k=2∨k=3:=by omega
 ·simp only[zq6] at h ⊢;exact znv hx hy h1 h2 h
 ·simp only[zq7] at h ⊢;exact zpj hx hy h1 h2 h
 ·simp only[zq8] at h ⊢;exact zoo hx hy h1 h2 h
 ·simp only[zq9] at h ⊢;exact znS hx hy hv h1 h2 h
theorem ziG {c d:FQ} {U:IV} (hc:ivHas U c) (hd:ivHas U d) (l1:inL c.p.v) (l2:inL c.q.v) (l3:inL d.p.v) (l4:inL d.q.v) (h:c.p.v*d.q.v≤d.p.v*c.q.v):(mkSo c d).2=0:=by
 rw[zlm] at hc hd
 have m:=zdi h
 have m2:=zmf d
 have m3:=zmf c
 unfold mkSo
 rw[if_pos ⟨l1,l2,l3,l4⟩]
 exact(zdU ⟨zeE U.l U.h hc.1 (Int.le_trans m3 hc.2),zeE U.l U.h (Int.le_trans hd.1 m2) hd.2⟩).1
theorem zlu {c d:FQ} {U:IV} (hc:ivHas U c) (hd:ivHas U d) (l1:inL c.p.v∧inL c.q.v) (l3:inL d.p.v∧inL d.q.v):(mkI c d).2=0∧ivIn (mkI c d).1 U:=by
 have z:(mkI c d).2=0:=by
  unfold mkI
  split
  ·rename_i h;rw[zcT] at h
   exact ziG hd hc l3.1 l3.2 l1.1 l1.2 (Int.le_of_lt h)
  ·rename_i h;rw[zcT] at h
   exact ziG hc hd l1.1 l1.2 l3.1 l3.2 (by omega)
 refine⟨z,?_⟩
 obtain⟨v1,v2⟩:=zol z
 rw[zlm] at hc hd
 rw[ziE] at v1
 rw[ziA] at v2
 unfold ivIn
 omega
theorem zkf (x:IV) (k:Int):inL (inF x k).p.v∧inL (inF x k).q.v:=by
 have h:=ziy (x:=clip (insN x k)) (y:=clip 25769803776) (by rw[zaB zpu];decide)
 rw[zaB zpu,zaB (zip x k)] at h
 obtain⟨_,h1,h2⟩:=h
 have h1:(inF x k).p.v=lowP (insN x k) 25769803776:=h1
 have h2:(inF x k).q.v=lowQ (insN x k) 25769803776:=h2
 obtain⟨a0,a1⟩:=zpA k
 have i6:inK 3 6:=by unfold inK;decide
 have ia:inK 3 (aro k 7):=by unfold inK;omega
 have g1:inK 8196 (x.lo.v*6):=zcu (i:=8192) (j:=3) x.l i6 (by decide)
 have g2:inK 8193 (x.hi.v-x.lo.v):=zio (i:=8192) x.h x.l (by decide)
 have g3:inK 8196 ((x.hi.v-x.lo.v)*aro k 7):=zcu g2 ia (by decide)
 have g4:inK 8197 (insN x k):=zeH g1 g3 (N:=8197) (by decide)
 rw[h1,h2]
 exact⟨zd4 (zbf g4 (by decide)) (zfZ (by decide)),zd4 (zbf (zim (by decide)) (by decide)) (zf0 (by decide))⟩
theorem zfC {n:Int} (h:Fits64 n) {m:Int} (hm:1<m) (hm2:m≤1000):Fits64 (n.tdiv m):=by
 have h1:(n.tdiv m).natAbs=n.natAbs/m.natAbs:=Int.natAbs_tdiv ..
 have h2:n.natAbs/m.natAbs≤n.natAbs/2:=Nat.div_le_div_left (by omega) (by decide)
 unfold Fits64 at *
 omega
theorem zfE {z:Int} (h:Fits64 z):IntKind.i64.wrap z=z:=wqa (by unfold Fits64 at h;omega) (by unfold Fits64 at h;omega)
set_option maxHeartbeats 4000000 in
theorem p_IvalIncludes {xs:List Int} (hx:Ints xs) {k n:Int} (hk:Fits64 k) (hn:Fits64 n):pf E0 496 [ints xs,.i .i64 k,.i .i64 n]=some (.b true):=by
 have i1:=zda hx (i:=0) (by decide) (by decide)
 have i2:=zda hx (i:=6) (by decide) (by decide)
 have oa:=zln xs 0
 have ob:=zln xs 6
 generalize inI xs 0=U at *
 generalize inI xs 6=V at *
 have v1:=zi4 oa
 have v2:=zi4 ob
 have lv:=zkA
 have k7:=zfC hk (m:=7) (by decide) (by decide)
 have n7:=zfC hn (m:=7) (by decide) (by decide)
 have wn:=zfE n7
 have wk:=zfE k7
 have j1:=zck U hk
 have j2:=zck U hn
 have j3:=zck V n7
 have j4:=zck V k7
 obtain⟨z1,w1⟩:=zlu (zeG oa k) (zeG oa n) (zkf U k) (zkf U n)
 obtain⟨z2,w2⟩:=zlu (zeG ob (n.tdiv 7)) (zeG ob (k.tdiv 7)) (zkf V _) (zkf V _)
 generalize inF U k=a at *
 generalize inF U n=b at *
 generalize inF V (n.tdiv 7)=c at *
 generalize inF V (k.tdiv 7)=d at *
 have na:=zeh a
 have nb:=zeh b
 have nc:=zeh c
 have nd:=zeh d
 have m1:=zcj a b
 have m2:=zcj c d
 rw[z1] at m1
 rw[z2] at m2
 have ox:=zgG a b
 have oy:=zgG c d
 generalize (mkI a b).1=X at *
 generalize (mkI c d).1=Y at *
 have r1:=zeP X U
 have r2:=zeP Y V
 rw[decide_eq_true w1] at r1
 rw[decide_eq_true w2] at r2
 refine zaa (xf:=zvV) rfl (by simp[zvV]) ?_
 simp only[zvV]
 simp(disch:=omega)only[go_sem,seval,wqq,i1,i2]
 refine zag rfl ?_
 simp(disch:=omega)only[go_sem,seval,wqq,j1,j2,na,nb,m1]
 refine zag rfl ?_
 simp(disch:=omega)only[go_sem,seval,wqq,j3,j4,nc,nd,m2,wn,wk]
 refine zag rfl ?_
 simp(disch:=omega)only[go_sem,seval,wqq,v1,v2,r1,r2,ne_eq,not_true_eq_false,decide_false]
 refine zan zw2.eq_1 (fun(k:Nat) fr M=>k≤4∧fr 7=.p 0 0∧fr 8=.p 1 0∧fr 9=.p 2 0∧fr 11=.p 3 0∧fr 13=(PV.i .i64 ((k:Nat):Int))∧∃e1 e2 e3 e4 G,M=some ⟨(rvP U).cells,true,e1⟩::some ⟨(rvP V).cells,true,e2⟩::some ⟨(ivP X).cells,true,e3⟩::some ⟨(ivP Y).cells,true,e4⟩::G) (fun k=>4-k) ?_ 0 ⟨by omega,by simp only[go_sem,seval],by simp only[go_sem,seval],by simp only[go_sem,seval],by simp only[go_sem,seval],by simp only[go_sem,seval],_,_,_,_,[],rfl⟩
 rintro i fr M ⟨hi,f7,f8,f9,f11,f13,e1,e2,e3,e4,G,rfl⟩ ih
 rcases Nat.lt_or_ge i 4 with h|h
 ·have q1:((i:Int)<4)=True:=eq_true (by omega)
  have p1:=zlD h X Y oy
  have p2:=zlD h U V ob
  have inc:=zos h ox oy ob w1 w2
  generalize opI i X Y=R at *
  generalize opI i U V=S at *
  have rw1:=zeP R.1 S.1
  simp(disch:=omega)only[go_sem,seval,wqq,f7,f8,f9,f11,f13,q1,p1,mG,mG0,sG,sG0,lG,lqq]
  refine zag rfl ?_
  by_cases hS:S.2=0
  ·obtain⟨g1,g2⟩:=inc hS
   have hS':(S.2=0)=True:=eq_true hS
   have g1':(R.2=0)=True:=eq_true g1
   rw[decide_eq_true g2] at rw1
   simp(disch:=omega)only[go_sem,seval,wqq,f7,f8,f9,f11,f13,v1,v2,p1,p2,hS',g1',rw1,ne_eq,not_true_eq_false,decide_false,mG,mG0,sG,sG0,lG,lqq]
   exact ih (i+1) _ _ (by omega) ⟨by omega,by simp only[go_sem,seval,f7],by simp only[go_sem,seval,f8],by simp only[go_sem,seval,f9],by simp only[go_sem,seval,f11],by simp only[go_sem,seval];rw[Int.natCast_succ],_,_,_,_,_,rfl⟩
  ·have hS':(S.2=0)=False:=eq_false hS
   simp(disch:=omega)only[go_sem,seval,wqq,f7,f8,f9,f11,f13,v1,v2,p1,p2,hS',mG,mG0,sG,sG0,lG,lqq]
   exact ih (i+1) _ _ (by omega) ⟨by omega,by simp only[go_sem,seval,f7],by simp only[go_sem,seval,f8],by simp only[go_sem,seval,f9],by simp only[go_sem,seval,f11],by simp only[go_sem,seval];rw[Int.natCast_succ],_,_,_,_,_,rfl⟩
 ·obtain rfl:i=4:=by omega
  have q1:(((4:Nat):Int)<4)=False:=by simp
  simp(disch:=omega)only[go_sem,seval,wqq,f7,f8,f9,f11,f13,q1,lv,mG,mG0,sG,sG0,lG,lqq]
end Go.Eng
