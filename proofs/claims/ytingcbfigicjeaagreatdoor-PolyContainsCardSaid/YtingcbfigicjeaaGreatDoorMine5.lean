/- The engine and the contracts on which the statement stands: no conditions of its own. -/
import Derived.Test.YtingcbfigicjeaaGreatDoorMine4
set_option linter.unusedSimpArgs false
set_option linter.unusedVariables false
set_option linter.unusedSectionVars false
namespace Go.Eng
theorem zsn (a b c d:WI):group 2 4 [PV.b (decide (a.v<0)),Dw (wlen a.v.natAbs) a.v.natAbs,PV.b (decide (b.v<0)),Dw (wlen b.v.natAbs) b.v.natAbs,PV.b (decide (c.v<0)),Dw (wlen c.v.natAbs) c.v.natAbs,PV.b (decide (d.v<0)),Dw (wlen d.v.natAbs) d.v.natAbs]=[wiP a,wiP b,wiP c,wiP d]:=_root_.id rfl
theorem zdy (a b:WI) (h:wlen (a.v*b.v).natAbs≤512):∃q:WI,q.v=flI (a.v*b.v) 4294967296∧pf E0 386 [wiP a,wiP b,.fp [.fn 296 [],.fn 297 []]]=some (wiP q):=by
 have m1:=zdW a b
 rw[zaQ h] at m1
 have cv:=zbF h
 have g1:=f32
 have wv:=zkK
 obtain⟨q,qv,fl⟩:∃q:WI,q.v=flI (a.v*b.v) 4294967296∧pf E0 296 [wiP (clip (a.v*b.v)),wiP w32]=some (.tu [wiP q,.i .i64 0]):=⟨_,by show (clip (a.v*b.v)).v/w32.v=_;rw[cv,wv];rfl,zfS (clip (a.v*b.v)) w32 (by rw[wv];decide)⟩
 generalize clip (a.v*b.v)=z at *
 generalize w32=ww at *
 refine⟨q,qv,?_⟩
 refine zaa (xf:=zyG) rfl (by simp[zyG]) ?_
 simp only[zyG]
 simp(disch:=omega)only[go_sem,seval,wqq,m1]
 refine zak rfl ?_
 simp(disch:=omega)only[go_sem,seval,wqq,g1,fl]
theorem zdz (a b:WI) (h:wlen (a.v*b.v).natAbs≤512):∃q:WI,q.v=ceI (a.v*b.v) 4294967296∧pf E0 386 [wiP a,wiP b,.fp [.fn 298 [],.fn 299 []]]=some (wiP q):=by
 have m1:=zdW a b
 rw[zaQ h] at m1
 have cv:=zbF h
 have g1:=f32
 have wv:=zkK
 obtain⟨q,qv,fl⟩:=zhE (clip (a.v*b.v)) w32 (by rw[wv];decide)
 rw[cv,wv] at qv
 generalize clip (a.v*b.v)=z at *
 generalize w32=ww at *
 refine⟨q,qv,?_⟩
 refine zaa (xf:=zyG) rfl (by simp[zyG]) ?_
 simp only[zyG]
 simp(disch:=omega)only[go_sem,seval,wqq,m1]
 refine zak rfl ?_
 simp(disch:=omega)only[go_sem,seval,wqq,g1,fl]
theorem zlM (x y:IV) {q1 q2 q3 q4:WI} (h1:pf E0 386 [wiP x.lo,wiP y.lo,.fp [.fn 296 [],.fn 297 []]]=some (wiP q1)) (h2:pf E0 386 [wiP x.lo,wiP y.hi,.fp [.fn 296 [],.fn 297 []]]=some (wiP q2))
  (h3:pf E0 386 [wiP x.hi,wiP y.lo,.fp [.fn 296 [],.fn 297 []]]=some (wiP q3)) (h4:pf E0 386 [wiP x.hi,wiP y.hi,.fp [.fn 296 [],.fn 297 []]]=some (wiP q4)) :
  pf E0 381 [.ag [.fn 296 [],.fn 297 []],ivP x,ivP y,.fn 386 [.fp [.fn 296 [],.fn 297 []]]]=some (wiP (mnU (mnU (mnU q1 q2) q3) q4)):=by
 have b:=zoA q1 [q2,q3,q4] (by simp)
 simp only[List.map_cons,List.map_nil,List.foldl_cons,List.foldl_nil] at b
 generalize mnU (mnU (mnU q1 q2) q3) q4=R at *
 refine zaa (xf:=zyk) rfl (by simp[zyk]) ?_
 simp only[zyk]
 simp(disch:=omega)only[go_sem,seval,wqq]
 refine zd9 [10,16,22,28] rfl ?_ ?_
 ·simp(disch:=omega)only[go_sem,seval,wqq,h1,h2,h3,h4,b,zaj,zac,zsn]
  exact⟨_,rfl,rfl⟩
 simp(disch:=omega)only[go_sem,seval,wqq,h1,h2,h3,h4,b,zaj,zac,zsn]
theorem zlN (x y:IV) {q1 q2 q3 q4:WI} (h1:pf E0 386 [wiP x.lo,wiP y.lo,.fp [.fn 298 [],.fn 299 []]]=some (wiP q1)) (h2:pf E0 386 [wiP x.lo,wiP y.hi,.fp [.fn 298 [],.fn 299 []]]=some (wiP q2))
  (h3:pf E0 386 [wiP x.hi,wiP y.lo,.fp [.fn 298 [],.fn 299 []]]=some (wiP q3)) (h4:pf E0 386 [wiP x.hi,wiP y.hi,.fp [.fn 298 [],.fn 299 []]]=some (wiP q4)) :
  pf E0 381 [.ag [.fn 298 [],.fn 299 []],ivP x,ivP y,.fn 386 [.fp [.fn 298 [],.fn 299 []]]]=some (wiP (mxU (mxU (mxU q1 q2) q3) q4)):=by
 have b:=zoB q1 [q2,q3,q4] (by simp)
 simp only[List.map_cons,List.map_nil,List.foldl_cons,List.foldl_nil] at b
 generalize mxU (mxU (mxU q1 q2) q3) q4=R at *
 refine zaa (xf:=zyk) rfl (by simp[zyk]) ?_
 simp only[zyk]
 simp(disch:=omega)only[go_sem,seval,wqq]
 refine zd9 [10,16,22,28] rfl ?_ ?_
 ·simp(disch:=omega)only[go_sem,seval,wqq,h1,h2,h3,h4,b,zaj,zac,zsn]
  exact⟨_,rfl,rfl⟩
 simp(disch:=omega)only[go_sem,seval,wqq,h1,h2,h3,h4,b,zaj,zac,zsn]
theorem zot (x y:IV):∃q:WI,q.v=mulLo x y∧pf E0 385 [.ag [.fn 296 [],.fn 297 []],.fp (ivP x).cells,.fp (ivP y).cells]=some (wiP q):=by
 obtain⟨q1,v1,h1⟩:=zdy x.lo y.lo (zbv x.l y.l)
 obtain⟨q2,v2,h2⟩:=zdy x.lo y.hi (zbv x.l y.h)
 obtain⟨q3,v3,h3⟩:=zdy x.hi y.lo (zbv x.h y.l)
 obtain⟨q4,v4,h4⟩:=zdy x.hi y.hi (zbv x.h y.h)
 have f:=zlM x y h1 h2 h3 h4
 have e:(mnU (mnU (mnU q1 q2) q3) q4).v=mulLo x y:=by
  rw[zn4,zn4,zn4,v1,v2,v3,v4];rfl
 generalize mnU (mnU (mnU q1 q2) q3) q4=R at *
 refine⟨R,e,?_⟩
 refine zaa (xf:=zyS) rfl (by simp[zyS]) ?_
 simp only[zyS]
 simp(disch:=omega)only[go_sem,seval,wqq,f]
theorem zou (x y:IV):∃q:WI,q.v=mulHi x y∧pf E0 385 [.ag [.fn 298 [],.fn 299 []],.fp (ivP x).cells,.fp (ivP y).cells]=some (wiP q):=by
 obtain⟨q1,v1,h1⟩:=zdz x.lo y.lo (zbv x.l y.l)
 obtain⟨q2,v2,h2⟩:=zdz x.lo y.hi (zbv x.l y.h)
 obtain⟨q3,v3,h3⟩:=zdz x.hi y.lo (zbv x.h y.l)
 obtain⟨q4,v4,h4⟩:=zdz x.hi y.hi (zbv x.h y.h)
 have f:=zlN x y h1 h2 h3 h4
 have e:(mxU (mxU (mxU q1 q2) q3) q4).v=mulHi x y:=by
  rw[zn7,zn7,zn7,v1,v2,v3,v4];rfl
 generalize mxU (mxU (mxU q1 q2) q3) q4=R at *
 refine⟨R,e,?_⟩
 refine zaa (xf:=zyS) rfl (by simp[zyS]) ?_
 simp only[zyS]
 simp(disch:=omega)only[go_sem,seval,wqq,f]
theorem zoH (x y:IV):pf E0 378 [ivP x,ivP y]=some (.tu [ivP (ivMul x y).1,.i .i64 (ivMul x y).2]):=by
 obtain⟨u,uv,e1⟩:=zot x y
 obtain⟨v,vv,e2⟩:=zou x y
 have md:=zj4 u v
 unfold ivMul
 rw[uv,vv] at md
 generalize mdI (mulLo x y) (mulHi x y)=R at *
 rw[zfy,zfy] at e1 e2
 clear uv vv
 refine zaa (xf:=zAd) rfl (by simp[zAd]) ?_
 simp only[zAd]
 simp(disch:=omega)only[go_sem,seval,wqq]
 refine zd9 [8,11] rfl ?_ ?_
 ·simp(disch:=omega)only[go_sem,seval,wqq,zsd,zse,e1,e2,md]
  exact⟨_,rfl,rfl⟩
 simp(disch:=omega)only[go_sem,seval,wqq,zsd,zse,e1,e2,md]
end Go.Eng
namespace Go.Eng
theorem zrS {K:Nat} (h:K≤16384):tlen (two K).natAbs<20000:=by
 have:=zfl K
 rw[zcn];omega
theorem zsS:T 0=.lst []:=by unfold T;rw[zaN];rfl
theorem zo5:rvP ivZ=.ag [.b false,.lst [],.b false,.lst []]:=by
 have:rvP ivZ=.ag [.b false,T 0,.b false,T 0]:=rfl
 rw[this,zsS]
theorem zlP {x y:Int} (lx:tlen x.natAbs<50000) (ly:tlen y.natAbs<50000):pf E0 363 [nP x,nP y]=some (.tu [rvP (mdI x y).1,.i .i64 (mdI x y).2]):=by
 have hp:pf E0 128 [.i .i64 8192]=some (nP (two 8192)):=ze8 8192 (by omega)
 have lt:=zrS (K:=8192) (by omega)
 have n1:=zd1 (two 8192) (by omega)
 have ln:tlen (- two 8192).natAbs<20000:=by rw[Int.natAbs_neg];exact lt
 have c1:=za7 x (- two 8192) (by omega) (by omega)
 have c2:=za7 y (two 8192) (by omega) (by omega)
 have c3:=za7 y (- two 8192) (by omega) (by omega)
 have c4:=za7 x (two 8192) (by omega) (by omega)
 have hx:=zeT x
 have hy:=zeT y
 have hz:rvP (mdI x y).1=(if inB x∧inB y then rfP x y else .ag [.b false,.lst [],.b false,.lst []]):=by
  split
  ·rename_i h
   obtain⟨_,e1,e2⟩:=zij h
   unfold rvP;rw[e1,e2]
  ·rename_i h
   rw[zjB h];exact zo5
 have he:(mdI x y).2=(if inB x∧inB y then 0 else 4):=by
  split
  ·rename_i h;exact(zij h).1
  ·rename_i h;rw[zjB h]
 rw[hz,he]
 clear hz he lx ly lt ln
 have k1:∀a b:Int,(cmpI a b≤0)↔a≤b:=fun a b=>by unfold cmpI;split<;>(try split)<;>omega
 have k2:∀a b:Int,(0≤cmpI a b)↔b≤a:=fun a b=>by unfold cmpI;split<;>(try split)<;>omega
 generalize two 8192=t at *
 refine zaa (xf:=zAk) rfl (by simp[zAk]) ?_
 simp only[zAk]
 simp(disch:=omega)only[go_sem,seval,wqq,hp]
 by_cases h1:x ≤ -t
 ·have q1:(cmpI x (-t)≤0)=True:=by rw[k1];exact eq_true h1
  rw[if_neg (fun q=>by have:=hx.1 q.1;omega),if_neg (fun q=>by have:=hx.1 q.1;omega)]
  refine zak rfl ?_
  simp(disch:=omega)only[go_sem,seval,wqq,n1,c1,q1,zaj,zac]
 ·have q1:(cmpI x (-t)≤0)=False:=by rw[k1];exact eq_false h1
  by_cases h2:t≤y
  ·have q2:(0≤cmpI y t)=True:=by rw[k2];exact eq_true h2
   rw[if_neg (fun q=>by have:=hy.1 q.2;omega),if_neg (fun q=>by have:=hy.1 q.2;omega)]
   refine zak rfl ?_
   simp(disch:=omega)only[go_sem,seval,wqq,n1,c1,q1,c2,q2,zaj,zac]
  ·have q2:(0≤cmpI y t)=False:=by rw[k2];exact eq_false h2
   refine zak rfl ?_
   simp(disch:=omega)only[go_sem,seval,wqq,n1,c1,q1,c2,q2,zaj,zac]
   by_cases h3:y ≤ -t
   ·have q3:(cmpI y (-t)≤0)=True:=by rw[k1];exact eq_true h3
    rw[if_neg (fun q=>by have:=hy.1 q.2;omega),if_neg (fun q=>by have:=hy.1 q.2;omega)]
    refine zak rfl ?_
    simp(disch:=omega)only[go_sem,seval,wqq,n1,c3,q3,zaj,zac]
   ·have q3:(cmpI y (-t)≤0)=False:=by rw[k1];exact eq_false h3
    by_cases h4:t≤x
    ·have q4:(0≤cmpI x t)=True:=by rw[k2];exact eq_true h4
     rw[if_neg (fun q=>by have:=hx.1 q.1;omega),if_neg (fun q=>by have:=hx.1 q.1;omega)]
     refine zak rfl ?_
     simp(disch:=omega)only[go_sem,seval,wqq,n1,c3,q3,c4,q4,zaj,zac]
    ·have q4:(0≤cmpI x t)=False:=by rw[k2];exact eq_false h4
     rw[if_pos ⟨hx.2 ⟨by omega,by omega⟩,hy.2 ⟨by omega,by omega⟩⟩,if_pos ⟨hx.2 ⟨by omega,by omega⟩,hy.2 ⟨by omega,by omega⟩⟩]
     refine zak rfl ?_
     simp(disch:=omega)only[go_sem,seval,wqq,n1,c3,q3,c4,q4,zaj,zac]
theorem zm0 {a b:Int} (h:0<b):sgA a b=a∧sgB b=b:=by unfold sgA sgB;rw[if_neg (by omega),if_neg (by omega)];exact⟨rfl,rfl⟩
theorem zfV {a b:Int} (hb:b≠0) (la:tlen a.natAbs<50000) (lb:tlen b.natAbs<50000):pf E0 364 [nP a,nP b]=some (nP (flI (sgA a b) (sgB b))):=by
 have d1:=zex (x:=sgA a b) (y:=sgB b) (by unfold sgB;split<;>omega) (by unfold sgA;split<;>(try rw[Int.natAbs_neg])<;>omega) (by unfold sgB;split<;>(try rw[Int.natAbs_neg])<;>omega)
 have d1:pf E0 120 [nP (sgA a b),nP (sgB b)]=some (.tu [nP (flI (sgA a b) (sgB b)),nP (sgA a b%sgB b)]):=d1
 have n1:=zd1 a (by omega)
 have n2:=zd1 b (by omega)
 generalize flI (sgA a b) (sgB b)=q at *
 generalize sgA a b%sgB b=r at *
 by_cases h:b<0
 ·have sn:decide (b<0)=true:=by simp;omega
  have e1:sgA a b = -a:=by unfold sgA;rw[if_pos h]
  have e2:sgB b = -b:=by unfold sgB;rw[if_pos h]
  rw[e1,e2] at d1
  have f1:PV.ag [PV.b true,Tw (tlen b.natAbs) b.natAbs]=nP b:=by rw[←sn];rfl
  refine zaa (xf:=zyZ) rfl (by simp[zyZ]) ?_
  simp only[zyZ]
  simp(disch:=omega)only[go_sem,seval,wqq,sn,n1,n2,d1,f1]
 ·have sn:decide (b<0)=false:=by simp;omega
  have e1:sgA a b=a:=by unfold sgA;rw[if_neg h]
  have e2:sgB b=b:=by unfold sgB;rw[if_neg h]
  rw[e1,e2] at d1
  have f1:PV.ag [PV.b false,Tw (tlen b.natAbs) b.natAbs]=nP b:=by rw[←sn];rfl
  refine zaa (xf:=zyZ) rfl (by simp[zyZ]) ?_
  simp only[zyZ]
  simp(disch:=omega)only[go_sem,seval,wqq,sn,d1,f1]
theorem zrP {a b:Int} {N:Nat} (la:tlen a.natAbs<N):tlen (flI a b).natAbs<N:=Nat.lt_of_le_of_lt (zao (zdr _ _)) la
theorem zvy {a b:Int} {N:Nat} (la:tlen a.natAbs<N):tlen (ceI a b).natAbs<N:=by
 unfold ceI;rw[Int.natAbs_neg]
 exact Nat.lt_of_le_of_lt (zao (zdr _ _)) (by rw[Int.natAbs_neg];exact la)
theorem zvz {a b:Int} {N:Nat} (la:tlen a.natAbs<N):tlen (sgA a b).natAbs<N:=by unfold sgA;split<;>(try rw[Int.natAbs_neg])<;>exact la
theorem zlS {a b:Int} (hb:b≠0) (la:tlen a.natAbs<50000) (lb:tlen b.natAbs<50000):pf E0 365 [nP a,nP b]=some (nP (ceI (sgA a b) (sgB b))):=by
 have n1:=zd1 a (by omega)
 have f1:=zfV (a := -a) hb (by rw[Int.natAbs_neg];exact la) lb
 have lf:tlen (flI (sgA (-a) b) (sgB b)).natAbs<50000:=zrP (zvz (by rw[Int.natAbs_neg];exact la))
 have n2:=zd1 (flI (sgA (-a) b) (sgB b)) (by omega)
 have e : - flI (sgA (-a) b) (sgB b)=ceI (sgA a b) (sgB b):=by rw[zo7];rfl
 rw[e] at n2
 generalize flI (sgA (-a) b) (sgB b)=q at *
 generalize ceI (sgA a b) (sgB b)=c at *
 refine zaa (xf:=zz5) rfl (by simp[zz5]) ?_
 simp only[zz5]
 simp(disch:=omega)only[go_sem,seval,wqq]
 refine zak rfl ?_
 simp(disch:=omega)only[go_sem,seval,wqq,n1,f1,n2]
theorem zhI (a:FQ):pf E0 362 [rfQ a]=some (.b (decide (¬(inL a.p.v∧inL a.q.v)))):=by
 have hp:pf E0 128 [.i .i64 16000]=some (nP (two 16000)):=ze8 16000 (by omega)
 have lt:=zrS (K:=16000) (by omega)
 have lp:=zdd a.p
 have lq:=zdd a.q
 obtain⟨m,hm⟩:∃m:Int,m=(a.p.v.natAbs:Int):=⟨_,rfl⟩
 have em:PV.ag [.b false,T a.p.v.natAbs]=nP m:=by
  have:decide (m<0)=false:=by simp;omega
  unfold nP
  rw[this,hm,Int.natAbs_natCast]
 have lm:tlen m.natAbs≤1239:=by rw[hm,Int.natAbs_natCast];exact lp
 have c1:=za7 m (two 16000) (by omega) (by omega)
 have c2:=za7 a.q.v (two 16000) (by omega) (by omega)
 have hq:=a.q1
 have l1:=zeU a.p.v
 have l2:=zeU a.q.v
 rw[←hm] at l1
 rw[show (a.q.v.natAbs:Int)=a.q.v by omega] at l2
 generalize two 16000=t at *
 have k:∀z:Int,(0≤cmpI z t)↔t≤z:=fun z=>by unfold cmpI;split<;>(try split)<;>omega
 have e:decide (¬(inL a.p.v∧inL a.q.v))=(if 0≤cmpI m t then true else decide (0≤cmpI a.q.v t)):=by
  by_cases h1:t≤m
  ·rw[if_pos ((k _).2 h1)]
   exact decide_eq_true (fun q=>l1.1 q.1 h1)
  ·rw[if_neg (fun q=>h1 ((k _).1 q))]
   by_cases h2:t≤a.q.v
   ·rw[decide_eq_true ((k _).2 h2)]
    exact decide_eq_true (fun q=>l2.1 q.2 h2)
   ·rw[decide_eq_false (fun q=>h2 ((k _).1 q))]
    exact decide_eq_false (fun q=>q ⟨l1.2 h1,l2.2 h2⟩)
 rw[e]
 clear e k l1 l2 hm
 unfold rfQ
 generalize a.p.v=P at *
 generalize a.q.v=Q at *
 refine zaa (xf:=zAn) rfl (by simp[zAn]) ?_
 simp only[zAn]
 by_cases h1:0≤cmpI m t
 ·rw[if_pos h1]
  have h1:(0≤cmpI m t)=True:=by simp[h1]
  simp(disch:=omega)only[go_sem,seval,wqq,hp,em,c1,h1]
 ·rw[if_neg h1]
  have h1:(0≤cmpI m t)=False:=by simp[h1]
  simp(disch:=omega)only[go_sem,seval,wqq,hp,em,c1,h1,c2]
end Go.Eng
namespace Go.Eng
@[go_sem] theorem zv9 (M:PM) (d:Nat) (x:IV):fz M (d+1+1) (rvP x)=some (rvP x,[]):=_root_.id rfl
@[go_sem] theorem zpT (x:IV):(rvP x).cells=[.b (decide (x.lo.v<0)),T x.lo.v.natAbs,.b (decide (x.hi.v<0)),T x.hi.v.natAbs]:=_root_.id rfl
@[go_sem] theorem zty (x:IV):rfP x.lo.v x.hi.v=rvP x:=_root_.id rfl
theorem zlQ:pf E0 128 [.i .i64 32]=some (nP 4294967296):=by
 have h:pf E0 128 [.i .i64 32]=some (nP (two 32)):=ze8 32 (by omega)
 rw[zrR] at h;exact h
theorem zdm (x:WI):tlen x.v.natAbs≤1239:=zdd x
theorem zxX:tlen (4294967296:Int).natAbs≤3:=zai (by decide)
theorem zrq (a b c d:FQ) (hab:(cmpF a b>0∧c=b∧d=a)∨(¬cmpF a b>0∧c=a∧d=b)):pf E0 345 [rfQ a,rfQ b]=some (.tu [rvP (mkSo c d).1,.i .i64 (mkSo c d).2]):=by
 have c1:pf E0 200 [rfQ a,rfQ b]=some (.i .i64 (cmpF a b)):=zd2 _ _ _ _ (by have:=zdm a.p;omega) (by have:=zdm a.q;omega) (by have:=zdm b.p;omega) (by have:=zdm b.q;omega)
 have l1:=zhI c
 have l2:=zhI d
 have hp:=zlQ
 have t3:=zxX
 have tc:=zdm c.p
 have tcq:=zdm c.q
 have td:=zdm d.p
 have tdq:=zdm d.q
 have cq:=c.q1
 have dq:=d.q1
 have m1:=zd0 c.p.v 4294967296 (by omega) (by omega)
 have m2:=zd0 d.p.v 4294967296 (by omega) (by omega)
 have t1:=zaq c.p.v 4294967296
 have t2:=zaq d.p.v 4294967296
 have e1:=zfV (a:=c.p.v*4294967296) (b:=c.q.v) (by omega) (by omega) (by omega)
 have e2:=zlS (a:=d.p.v*4294967296) (b:=d.q.v) (by omega) (by omega) (by omega)
 obtain⟨s1,s2⟩:=zm0 (a:=c.p.v*4294967296) (b:=c.q.v) (by omega)
 obtain⟨s3,s4⟩:=zm0 (a:=d.p.v*4294967296) (b:=d.q.v) (by omega)
 rw[s1,s2] at e1
 rw[s3,s4] at e2
 have md:=zlP (x:=flI (c.p.v*4294967296) c.q.v) (y:=ceI (d.p.v*4294967296) d.q.v) (zrP (by omega)) (zvy (by omega))
 have step:∀q:Prop,(q=(0<cmpF a b))→(q=True∧c=b∧d=a)∨(q=False∧c=a∧d=b):=fun q hq=>by
  rcases hab with⟨h1,h2⟩|⟨h1,h2⟩
  ·left;exact⟨by rw[hq];simp;omega,h2⟩
  ·right;exact⟨by rw[hq];simp;omega,h2⟩
 have s0:=step _ rfl
 generalize cmpF a b=cm at *
 clear step hab s1 s2 s3 s4
 unfold mkSo
 by_cases h1:inL c.p.v∧inL c.q.v
 ·rw[decide_eq_false (fun q=>q h1)] at l1
  by_cases h2:inL d.p.v∧inL d.q.v
  ·rw[decide_eq_false (fun q=>q h2)] at l2
   rw[if_pos ⟨h1.1,h1.2,h2.1,h2.2⟩]
   generalize mdI (flI (c.p.v*4294967296) c.q.v) (ceI (d.p.v*4294967296) d.q.v)=R at *
   generalize flI (c.p.v*4294967296) c.q.v=u at *
   generalize ceI (d.p.v*4294967296) d.q.v=v at *
   generalize c.p.v*4294967296=cm at *
   generalize d.p.v*4294967296=dm at *
   obtain⟨s,hs⟩:∃s:Int,s=4294967296:=⟨_,rfl⟩
   rw[←hs] at hp m1 m2
   clear h1 h2 hs
   rcases s0 with⟨q0,rfl,rfl⟩|⟨q0,rfl,rfl⟩
   ·refine zaa (xf:=zyn) rfl (by simp[zyn]) ?_
    simp only[zyn]
    simp(disch:=omega)only[go_sem,seval,wqq,c1,q0,l1,l2,hp]
    refine zak rfl ?_
    simp(disch:=omega)only[go_sem,seval,wqq,m1,m2,e1,e2,md]
   ·refine zaa (xf:=zyn) rfl (by simp[zyn]) ?_
    simp only[zyn]
    simp(disch:=omega)only[go_sem,seval,wqq,c1,q0,l1,l2,hp]
    refine zak rfl ?_
    simp(disch:=omega)only[go_sem,seval,wqq,m1,m2,e1,e2,md]
  ·rw[decide_eq_true h2] at l2
   rw[if_neg (fun q=>h2 q.2.2)]
   show _=some (PV.tu [rvP ivZ,PV.i .i64 4])
   rw[zo5]
   rcases s0 with⟨q0,rfl,rfl⟩|⟨q0,rfl,rfl⟩
   ·refine zaa (xf:=zyn) rfl (by simp[zyn]) ?_
    simp only[zyn]
    simp(disch:=omega)only[go_sem,seval,wqq,c1,q0,l1,l2,zaj,zac]
   ·refine zaa (xf:=zyn) rfl (by simp[zyn]) ?_
    simp only[zyn]
    simp(disch:=omega)only[go_sem,seval,wqq,c1,q0,l1,l2,zaj,zac]
 ·rw[decide_eq_true h1] at l1
  rw[if_neg (fun q=>h1 ⟨q.1,q.2.1⟩)]
  show _=some (PV.tu [rvP ivZ,PV.i .i64 4])
  rw[zo5]
  have l2':∃v:Bool,pf E0 362 [rfQ d]=some (.b v):=⟨_,l2⟩
  obtain⟨v,l2⟩:=l2'
  rcases s0 with⟨q0,rfl,rfl⟩|⟨q0,rfl,rfl⟩
  ·refine zaa (xf:=zyn) rfl (by simp[zyn]) ?_
   simp only[zyn]
   simp(disch:=omega)only[go_sem,seval,wqq,c1,q0,l1,l2,zaj,zac]
  ·refine zaa (xf:=zyn) rfl (by simp[zyn]) ?_
   simp only[zyn]
   simp(disch:=omega)only[go_sem,seval,wqq,c1,q0,l1,l2,zaj,zac]
theorem zlT (a b:FQ):pf E0 345 [rfQ a,rfQ b]=some (.tu [rvP (mkI a b).1,.i .i64 (mkI a b).2]):=by
 by_cases h:cmpF a b>0
 ·have:=zrq a b b a (.inl ⟨h,rfl,rfl⟩)
  unfold mkI;rw[if_pos h];exact this
 ·have:=zrq a b a b (.inr ⟨h,rfl,rfl⟩)
  unfold mkI;rw[if_neg h];exact this
end Go.Eng
namespace Go.Eng
noncomputable def nL (N:Nat) (P:Nat→Int):List PV:=(List.range N).map fun i=>nP (P i)
end Go.Eng
set_option maxRecDepth 10000
namespace Go.Eng
end Go.Eng
set_option maxRecDepth 10000
namespace Go.Eng
end Go.Eng
namespace Go.Eng
def upd {α:Type} (X:Nat→α) (i:Nat) (v:α):Nat→α:=fun e=>if e=i then v else X e
theorem zfo {α:Type} (X:Nat→α) (i:Nat) (v:α):upd X i v i=v:=if_pos rfl
theorem zf4 {α:Type} {X:Nat→α} {i:Nat} {v:α} {e:Nat} (h:e≠i):upd X i v e=X e:=if_neg h
def cs (n:Nat) (X:Nat→Int):List PV:=(List.range n).map fun e=>.i .i64 (X e)
def zF:Nat→Int:=fun _=>0
def aI (n:Nat) (X:Nat→Int):PV:=.ag (cs n X)
@[go_sem] theorem zct (n:Nat) (X:Nat→Int):(cs n X).length=n:=by simp[cs]
theorem zb2 {n:Nat} (X:Nat→Int) {i:Nat} (h:i<n):(cs n X)[i]?=some (.i .i64 (X i)):=by simp[cs,h]
theorem zp1 {n:Nat} (X:Nat→Int) {i:Nat} (h:i<(cs n X).length):(cs n X)[i]=.i .i64 (X i):=by simp[cs]
theorem ziQ {n:Nat} {X Y:Nat→Int} (h:∀e,e<n→X e=Y e):cs n X=cs n Y:=by
 unfold cs
 exact List.map_congr_left fun e he=>by rw[h e (List.mem_range.1 he)]
theorem ziD {n:Nat} {X Y:Nat→Int} (h:∀e,e<n→X e=Y e):aI n X=aI n Y:=by unfold aI;rw[ziQ h]
@[go_sem] theorem zvW (n:Nat) (X:Nat→Int) (i:Nat) (v:Int):(cs n X).set i (.i .i64 v)=cs n (upd X i v):=by
 refine List.ext_getElem (by simp[cs]) fun k h1 h2=>?_
 rw[zp1,List.getElem_set]
 split
 ·rename_i q;subst q;rw[zfo]
 ·rename_i q;rw[zp1,zf4 (fun z=>q z.symm)]
theorem zek {n:Nat} (X:Nat→Int) {off k:Nat} (h:off+k≤n):((cs n X).drop off).take k=cs k (fun e=>X (off+e)):=by
 refine List.ext_getElem (by simp[cs];omega) fun j h1 h2=>?_
 simp[cs]
theorem zp3 {n:Nat} (X:Nat→Int) {i:Nat} (h:i<n):((cs n X).drop i).take 1=[.i .i64 (X i)]:=by
 rw[zek X (show i+1≤n by omega)];rfl
theorem zeK (n:Nat) (l:List PV) (Y:Nat→Int) (h:l.length=n):psplice l 0 (cs n Y)=cs n Y:=by
 unfold psplice
 rw[zct,List.take_zero,List.drop_eq_nil_of_le (by omega),List.nil_append,List.append_nil]
@[go_sem] theorem zti (n:Nat) (X Y:Nat→Int):psplice (cs n X) 0 (cs n Y)=cs n Y:=zeK n _ Y (zct n X)
@[go_sem] theorem ztj (n:Nat) (X:Nat→Int):(cs n X).take n=cs n X:=List.take_of_length_le (by rw[zct];exact Nat.le_refl _)
@[go_sem] theorem zvw (a0 a1 a2 a3 a4 a5 a6 a7 a8 a9 a10 a11 a12 a13 a14 a15 a16 a17 a18 a19:PV) (Y:Nat→Int):psplice [a0,a1,a2,a3,a4,a5,a6,a7,a8,a9,a10,a11,a12,a13,a14,a15,a16,a17,a18,a19] 0 (cs 20 Y)=cs 20 Y:=zeK 20 _ Y rfl
@[go_sem] theorem zth (n:Nat) (X:Nat→Int):(cs n X).all PV.scal=true:=by
 rw[List.all_eq_true]
 intro x hx
 obtain⟨e,_,rfl⟩:=List.mem_map.1 hx
 rfl
@[go_sem] theorem ztg (M:PM) (d n:Nat) (X:Nat→Int):fzL (fz M (d+1)) (cs n X)=some (cs n X,[]):=zhe M d _ (fun _=>rfl) _
@[go_sem] theorem zxx (M:PM) (d n:Nat) (X:Nat→Int):fz M (d+1+1) (aI n X)=some (aI n X,[]):=by unfold aI;rw[ztE,ztg,zlm]
@[go_sem] theorem zr4 (n:Nat) (X:Nat→Int):(aI n X).cells=cs n X:=_root_.id rfl
@[go_sem] theorem zsU (n:Nat) (X:Nat→Int):PV.ag (cs n X)=aI n X:=_root_.id rfl
theorem zdD {n:Nat} (X:Nat→Int) {j:Nat} (h:j<n):iagP n false 1 (aI n X) (some j)=some (.i .i64 (X j)):=by
 unfold aI
 rw[zdQ,if_pos ⟨h,by rw[zct];omega⟩,Nat.mul_one,zp3 X h];rfl
theorem zmo (n:Nat) (X Y:Nat→Int):eqCellsP (List.replicate n 1) (cs n X) (cs n Y)=some (decide (∀e,e<n→X e=Y e)):=by
 have key:∀(l:List Nat),eqCellsP (List.replicate l.length 1) (l.map fun e=>PV.i .i64 (X e)) (l.map fun e=>PV.i .i64 (Y e))=some (decide (∀e∈l,X e=Y e)):=fun l=>by
  induction l with
  | nil=>simp[eqCellsP]
  | cons a l ih =>
   rw[List.length_cons,List.replicate_succ,List.map_cons,List.map_cons]
   simp only[eqCellsP,eqCellP,ih]
   have q:(X a==Y a)=decide (X a=Y a):=by rw[Bool.eq_iff_iff];simp
   simp[q]
 have:=key (List.range n)
 rw[List.length_range] at this
 simpa [cs] using this
noncomputable def cw (n:Nat) (w:Nat→WI):List PV:=(List.range n).flatMap fun e=>[.b (decide ((w e).v<0)),D (w e).v.natAbs]
theorem ziR (n:Nat) (w:Nat→WI):cw (n+1) w=cw n w++[.b (decide ((w n).v<0)),D (w n).v.natAbs]:=by
 unfold cw
 rw[List.range_succ,List.flatMap_append];rfl
@[go_sem] theorem zfA (n:Nat) (w:Nat→WI):(cw n w).length=2*n:=by
 induction n with
 | zero=>rfl
 | succ n ih=>rw[ziR,List.length_append,ih];rfl
theorem zp4 {n:Nat} (w:Nat→WI) {i:Nat} (h:i<n):((cw n w).drop (i*2)).take 2=[.b (decide ((w i).v<0)),D (w i).v.natAbs]:=by
 induction n with
 | zero=>omega
 | succ n ih =>
  rw[ziR]
  rcases Nat.lt_or_ge i n with q|q
  ·rw[List.drop_append_of_le_length (by rw[zfA];omega),List.take_append_of_le_length (by rw[List.length_drop,zfA];omega),ih q]
  ·obtain rfl:i=n:=by omega
   rw[List.drop_append,List.drop_eq_nil_of_le (by rw[zfA];omega),zfA,List.nil_append,show i*2-2*i=0 by omega];rfl
theorem zp2 (n:Nat) (X:Nat→Int):eqCellsP (List.replicate n 1) (cs n X) (cs n X)=some true:=by rw[zmo];simp
end Go.Eng
namespace Go.Eng
def okC (c:Nat→Int):Prop:=∀e,e<20 → -1073741824≤c e∧c e≤1073741824
open Classical in
noncomputable def vlC (c:Nat→Int):Int:=if okC c then 0 else 1
theorem zpt (p:Prop):p=True∨p=False:=by by_cases h:p;exact .inl (eq_true h);exact .inr (eq_false h)
theorem zaD (c:Nat→Int):pf E0 416 [aI 20 c]=some (.i .i64 (vlC c)):=by
 refine zaa (xf:=zzI) rfl (by simp[zzI]) ?_
 simp only[zzI]
 simp(disch:=omega)only[go_sem,seval,wqq]
 refine zag zAU.eq_1 (fun(i:Nat) fr M=>i≤20∧(∀e,e<i → -1073741824≤c e∧c e≤1073741824)∧fr 5=aI 20 c∧fr 6=(PV.i .i64 ((i:Nat):Int))) (fun i=>20-i) ?_ 0 ⟨by omega,fun e he=>by omega,by simp only[go_sem,seval],by simp only[go_sem,seval]⟩
 rintro i fr M ⟨hi,hlo,f5,f6⟩ ih
 rcases Nat.lt_or_ge i 20 with h|h
 ·have q1:((i:Int)<20)=True:=eq_true (by omega)
  have ix:=zdD c h
  have bad:¬(-1073741824≤c i∧c i≤1073741824)→vlC c=1:=fun q=>if_neg fun z=>q (z i h)
  rcases zpt (c i < -1073741824) with t1|t1
  ·rw[bad (by have:=of_eq_true t1;omega)]
   simp(disch:=omega)only[go_sem,seval,wqq,f5,f6,q1,ix,t1]
  ·rcases zpt (c i>1073741824) with t2|t2
   ·rw[bad (by have:=of_eq_true t2;omega)]
    simp(disch:=omega)only[go_sem,seval,wqq,f5,f6,q1,ix,t1,t2]
   ·have u1:=of_eq_false t1
    have u2:=of_eq_false t2
    simp(disch:=omega)only[go_sem,seval,wqq,f5,f6,q1,ix,t1,t2]
    refine ih (i+1) _ _ (by omega) ⟨by omega,fun e he=>?_,by simp only[go_sem,seval,f5],by simp only[go_sem,seval];rw[Int.natCast_succ]⟩
    rcases Nat.lt_or_ge e i with z|z
    ·exact hlo e z
    ·obtain rfl:e=i:=by omega
     omega
 ·obtain rfl:i=20:=by omega
  have:vlC c=0:=if_pos hlo
  rw[this]
  simp(disch:=omega)only[go_sem,seval,wqq,f5,f6]
theorem zkD {n:Int} (k:Int) (h:n≤0):n.tmod k≤0:=by
 have:=Int.tmod_nonneg k (show 0 ≤ -n by omega)
 rw[Int.neg_tmod] at this
 omega
def genC (n:Int):Int:=if n.tmod 5=1∨n.tmod 5 = -1 then (n.tdiv 5).tmod 10 else if n.tmod 5=2 then (n.tdiv 5).tmod 5000 else if n.tmod 5=3 then 1073741824-(n.tdiv 5).tmod 3 else if n.tmod 5 = -3 then-1073741824-(n.tdiv 5).tmod 3 else 0
def genP (xs:List Int):Nat→Int:=fun e=>genC (pk xs e)
theorem znI {n:Int} (h:Fits64 n) : -1073741824≤genC n∧genC n≤1073741824:=by
 unfold genC
 have a1:=za8 (n.tdiv 5) (n:=10) (by decide)
 have a2:=za8 (n.tdiv 5) (n:=5000) (by decide)
 have a3:=za8 (n.tdiv 5) (n:=3) (by decide)
 split
 ·omega
 ·split
  ·omega
  ·split
   ·rename_i q
    have:0≤n:=by
     rcases Int.lt_or_le n 0 with z|z
     ·have:=zkD 5 (Int.le_of_lt z);omega
     ·exact z
    have h0:0≤(n.tdiv 5).tmod 3:=Int.tmod_nonneg _ (Int.tdiv_nonneg this (by decide))
    omega
   ·split
    ·rename_i q
     have:n≤0:=by
      rcases Int.lt_or_le 0 n with z|z
      ·have:=Int.tmod_nonneg 5 (Int.le_of_lt z);omega
      ·exact z
     have h0:(n.tdiv 5).tmod 3≤0:=zkD _ (by have:=Int.tdiv_nonneg (show 0 ≤ -n by omega) (show (0:Int)≤5 by decide);rw[Int.neg_tdiv] at this;omega)
     omega
    ·omega
set_option maxHeartbeats 4000000 in
theorem zq9 {xs:List Int} (hx:Ints xs):pf E0 395 [ints xs,.i .i64 0]=some (aI 20 (genP xs)):=by
 refine zaa (xf:=zz8) rfl (by simp[zz8]) ?_
 simp only[zz8]
 simp(disch:=omega)only[go_sem,seval,wqq]
 refine zag zA7.eq_1 (fun(i:Nat) fr M=>i≤20∧fr 0=ints xs∧fr 1=.i .i64 0∧fr 4=.p 0 0∧fr 5=.p 1 0∧fr 6=(PV.i .i64 ((i:Nat):Int))∧∃f v,(∀e,e<i→f e=genP xs e)∧(∀e,i≤e→f e=0)∧M=[some ⟨cs 20 zF,true,0⟩,some ⟨cs 20 f,true,v⟩]) (fun i=>20-i) ?_ 0 ⟨by omega,by simp only[go_sem,seval],by simp only[go_sem,seval],by simp only[go_sem,seval],by simp only[go_sem,seval],by simp only[go_sem,seval],zF,0,fun e he=>by omega,fun _ _=>rfl,rfl⟩
 rintro i fr M ⟨hi,f0,f1,f4,f5,f6,f,v,hf,hz,rfl⟩ ih
 rcases Nat.lt_or_ge i 20 with h|h
 ·have q1:((i:Int)<20)=True:=eq_true (by omega)
  have qL:(i<20)=True:=eq_true h
  have zz:(0:Int)+(i:Int)=(i:Int):=Int.zero_add _
  have k:=zrn hx (i:=(i:Int)) (by unfold Fits64;omega)
  have hg:genP xs i=genC (pk xs i):=rfl
  have bn:=znI (zcg hx i)
  have fn:=zcg hx i
  generalize pk xs i=n at *
  have a1:=za8 (n.tdiv 5) (n:=10) (by decide)
  have a2:=za8 (n.tdiv 5) (n:=5000) (by decide)
  have a3:=za8 (n.tdiv 5) (n:=3) (by decide)
  have wd:IntKind.wrap .i64 (n.tdiv 5)=n.tdiv 5:=by
   unfold Fits64 at fn
   have:(n.tdiv 5).natAbs=n.natAbs/5:=Int.natAbs_tdiv ..
   exact wqa (by omega) (by omega)
  have st:∀g,g=genC n→∀e,e<i+1→upd f i g e=genP xs e:=fun g hgg e he=>by
   unfold upd
   split
   ·rename_i z;rw[z,hg,hgg]
   ·exact hf e (by omega)
  have sz:∀g e,i+1≤e→upd f i g e=0:=fun g e he=>by rw[zf4 (by omega)];exact hz e (by omega)
  unfold genC at bn st hg
  by_cases c1:n.tmod 5=1∨n.tmod 5 = -1
  ·rw[if_pos c1] at st bn
   rcases c1 with c1|c1
   ·simp(disch:=omega)only[go_sem,seval,wqq,f0,f1,f4,f5,f6,q1,qL,zz,k,c1,wd]
    exact ih (i+1) _ _ (by omega) ⟨by omega,by simp only[go_sem,seval,f0],by simp only[go_sem,seval,f1],by simp only[go_sem,seval,f4],by simp only[go_sem,seval,f5],by simp only[go_sem,seval,f6];rw[Int.natCast_succ],_,_,st _ rfl,sz _,rfl⟩
   ·simp(disch:=omega)only[go_sem,seval,wqq,f0,f1,f4,f5,f6,q1,qL,zz,k,c1,wd]
    exact ih (i+1) _ _ (by omega) ⟨by omega,by simp only[go_sem,seval,f0],by simp only[go_sem,seval,f1],by simp only[go_sem,seval,f4],by simp only[go_sem,seval,f5],by simp only[go_sem,seval,f6];rw[Int.natCast_succ],_,_,st _ rfl,sz _,rfl⟩
  ·rw[if_neg c1] at st bn hg
   have d1:(n.tmod 5=1)=False:=eq_false fun q=>c1 (.inl q)
   have d2:(n.tmod 5 = -1)=False:=eq_false fun q=>c1 (.inr q)
   by_cases c2:n.tmod 5=2
   ·rw[if_pos c2] at st bn
    simp(disch:=omega)only[go_sem,seval,wqq,f0,f1,f4,f5,f6,q1,qL,zz,k,c2,wd]
    exact ih (i+1) _ _ (by omega) ⟨by omega,by simp only[go_sem,seval,f0],by simp only[go_sem,seval,f1],by simp only[go_sem,seval,f4],by simp only[go_sem,seval,f5],by simp only[go_sem,seval,f6];rw[Int.natCast_succ],_,_,st _ rfl,sz _,rfl⟩
   ·rw[if_neg c2] at st bn hg
    by_cases c3:n.tmod 5=3
    ·rw[if_pos c3] at st bn
     simp(disch:=omega)only[go_sem,seval,wqq,f0,f1,f4,f5,f6,q1,qL,zz,k,c3,wd]
     exact ih (i+1) _ _ (by omega) ⟨by omega,by simp only[go_sem,seval,f0],by simp only[go_sem,seval,f1],by simp only[go_sem,seval,f4],by simp only[go_sem,seval,f5],by simp only[go_sem,seval,f6];rw[Int.natCast_succ],_,_,st _ rfl,sz _,rfl⟩
    ·rw[if_neg c3] at st bn hg
     by_cases c4:n.tmod 5 = -3
     ·rw[if_pos c4] at st bn
      simp(disch:=omega)only[go_sem,seval,wqq,f0,f1,f4,f5,f6,q1,qL,zz,k,c4,wd]
      exact ih (i+1) _ _ (by omega) ⟨by omega,by simp only[go_sem,seval,f0],by simp only[go_sem,seval,f1],by simp only[go_sem,seval,f4],by simp only[go_sem,seval,f5],by simp only[go_sem,seval,f6];rw[Int.natCast_succ],_,_,st _ rfl,sz _,rfl⟩
     ·rw[if_neg c4] at hg
      have d3:(n.tmod 5=2)=False:=eq_false c2
      have d4:(n.tmod 5=3)=False:=eq_false c3
      have d5:(n.tmod 5 = -3)=False:=eq_false c4
      simp(disch:=omega)only[go_sem,seval,wqq,f0,f1,f4,f5,f6,q1,qL,zz,k,d1,d2,d3,d4,d5]
      refine ih (i+1) _ _ (by omega) ⟨by omega,by simp only[go_sem,seval,f0],by simp only[go_sem,seval,f1],by simp only[go_sem,seval,f4],by simp only[go_sem,seval,f5],by simp only[go_sem,seval,f6];rw[Int.natCast_succ],f,_,fun e he=>?_,fun e he=>hz e (by omega),rfl⟩
      rcases Nat.lt_or_ge e i with z|z
      ·exact hf e z
      ·obtain rfl:e=i:=by omega
       rw[hz e (Nat.le_refl _),hg]
 ·obtain rfl:i=20:=by omega
  simp(disch:=omega)only[go_sem,seval,wqq,f0,f1,f4,f5,f6]
  rw[ziD (Y:=genP xs) (fun e he=>hf e he)]
end Go.Eng
namespace Go.Eng
noncomputable def cW (w:Nat→WI):List PV:=[.b (decide ((w 0).v<0)),D (w 0).v.natAbs,.b (decide ((w 1).v<0)),D (w 1).v.natAbs,.b (decide ((w 2).v<0)),D (w 2).v.natAbs,.b (decide ((w 3).v<0)),D (w 3).v.natAbs,.b (decide ((w 4).v<0)),D (w 4).v.natAbs,.b (decide ((w 5).v<0)),D (w 5).v.natAbs,.b (decide ((w 6).v<0)),D (w 6).v.natAbs,.b (decide ((w 7).v<0)),D (w 7).v.natAbs,.b (decide ((w 8).v<0)),D (w 8).v.natAbs]
noncomputable def mW (w:Nat→WI):PV:=.ag (cW w)
def cI (p:Nat→Int):List PV:=[.i .i64 (p 0),.i .i64 (p 1),.i .i64 (p 2),.i .i64 (p 3),.i .i64 (p 4),.i .i64 (p 5),.i .i64 (p 6),.i .i64 (p 7),.i .i64 (p 8)]
def pI (p:Nat→Int):PV:=.ag (cI p)
end Go.Eng
namespace Go.Eng
end Go.Eng
namespace Go.Eng
end Go.Eng
namespace Go.Eng
def gN (X:Nat→Int):Nat→Nat
 | 0=>0
 | i+1=>Nat.gcd (gN X i) (X i).natAbs
noncomputable def gW (x:Nat→WI):Nat→WI
 | 0=>wi0
 | i+1=>(gW x i).gcd (x i)
noncomputable def gC (x:Nat→WI):Nat→List PV
 | 0=>[.b false,.nl]
 | i+1=>[.b (decide ((gW x (i+1)).v<0)),D (gW x (i+1)).v.natAbs]
end Go.Eng
namespace Go.Eng
end Go.Eng
namespace Go.Eng
def sB (n:Nat):Nat→Bool:=fun e=>decide (e<n)
def rtK (a b c d e:Int):Int:=a*(b*c)-a*(d*e)
def rdV (z:Nat→Int):Int:=0+rtK (z 0) (z 4) (z 8) (z 5) (z 7)+rtK (z 1) (z 5) (z 6) (z 3) (z 8)+rtK (z 2) (z 3) (z 7) (z 4) (z 6)
end Go.Eng
namespace Go.Eng
end Go.Eng
namespace Go.Eng
end Go.Eng
namespace Go.Eng
def rpK (a b c d e f:Int):Int:=0+a*b+c*d+e*f
def rprV (z u:Nat→Int):Nat→Int:=fun e=>rpK (z (3*(e/3))) (u (e%3)) (z (3*(e/3)+1)) (u (3+e%3)) (z (3*(e/3)+2)) (u (6+e%3))
end Go.Eng

namespace Go.Eng
theorem zf9 (a b:Int):wlen (a*b).natAbs≤wlen a.natAbs+wlen b.natAbs:=by
 rw[Int.natAbs_mul]
 refine zaH.2 ?_
 rw[Nat.pow_add]
 exact Nat.mul_lt_mul'' (zae _) (zae _)
theorem zmg (a b:Nat):wlen (a+b)≤max (wlen a) (wlen b)+1:=by
 refine zaH.2 ?_
 have h1:4294967296^wlen a≤4294967296^max (wlen a) (wlen b):=Nat.pow_le_pow_right (by decide) (Nat.le_max_left _ _)
 have h2:4294967296^wlen b≤4294967296^max (wlen a) (wlen b):=Nat.pow_le_pow_right (by decide) (Nat.le_max_right _ _)
 have h3:=zae a
 have h4:=zae b
 rw[Nat.pow_succ]
 generalize 4294967296^max (wlen a) (wlen b)=t at *
 omega
theorem zf7 (a b:Int):wlen (a+b).natAbs≤max (wlen a.natAbs) (wlen b.natAbs)+1 :=
 Nat.le_trans (zbm (Int.natAbs_add_le a b)) (zmg _ _)
def mnV (X:Nat→Int) (i k:Nat):Int:=X (3*((i+1)%3)+(k+1)%3)*X (3*((i+2)%3)+(k+2)%3)-X (3*((i+1)%3)+(k+2)%3)*X (3*((i+2)%3)+(k+1)%3)
end Go.Eng
namespace Go.Eng
def mE:Nat→Int:=fun e=>monoI.getD e 0
theorem zk3:cst E0.glob (.p 1 0)=.fp (cs 60 mE):=rfl
def exN (i j:Nat):Nat:=(mE (i*3+j)).toNat
theorem za1:∀i,i<20→∀j,j<3→mE (i*3+j)=(exN i j:Int)∧exN i j≤3:=by decide
def pw3 (X:Nat→Int) (i:Nat):Nat→Int
 | 0=>1
 | j+1=>pw3 X i j*X j^exN i j
def moV (X:Nat→Int) (i:Nat):Int:=pw3 X i 3
def sumT (f:Nat→Int):Nat→Int
 | 0=>0
 | n+1=>sumT f n+f n
def s3 {α:Type} (a b c:α):Nat→α:=fun j=>if j=0 then a else if j=1 then b else c
noncomputable def wc (t:WI):List PV:=[.b (decide (t.v<0)),D t.v.natAbs]
theorem zr1 (t:WI):wc t=[.b (decide (t.v<0)),D t.v.natAbs]:=_root_.id rfl
theorem zne (t:WI):PV.ag (wc t)=wiP t:=_root_.id rfl
theorem zf6 (t:WI):(wc t).length=2:=_root_.id rfl
theorem zgQ (t:WI):(wc t).take 2=wc t:=_root_.id rfl
theorem zkL (t u:WI):psplice (wc t) 0 [.b (decide (u.v<0)),D u.v.natAbs]=wc u:=_root_.id rfl
structure WZ (L:List PV) (s:WI):Prop where
 len:L.length=2
 sc:L.all PV.scal=true
 fz:∀(M:PM) (d:Nat),fzL (fz M (d+1)) L=some (wc s,[])
theorem WZ.tk {L:List PV} {s:WI} (h:WZ L s):L.take 2=L:=List.take_of_length_le (by rw[h.len];omega)
theorem WZ.spl {L:List PV} {s:WI} (h:WZ L s) (u:WI):psplice L 0 (wc u)=wc u:=by
 unfold psplice
 rw[List.take_zero,List.drop_eq_nil_of_le (by rw[h.len,zf6];omega),List.nil_append,List.append_nil]
theorem wz0:WZ [.b false,.nl] wi0:=⟨rfl,rfl,fun _ _=>rfl⟩
theorem wzs (s:WI):WZ (wc s) s:=⟨rfl,rfl,fun _ _=>rfl⟩
theorem spl2 (a b:PV) (L:List PV) (h:L.length=2):psplice [a,b] 0 L=L:=by
 unfold psplice
 rw[List.take_zero,List.drop_eq_nil_of_le (by rw[h];exact Nat.le_refl _),List.nil_append,List.append_nil]
theorem zf8 {n:Int} (h:Fits64 n):wlen n.natAbs≤2:=by
 unfold Fits64 at h
 exact zaH.2 (by omega)
theorem zqI {t x:WI} {n m:Nat} (ht:wlen t.v.natAbs≤n) (hx:wlen x.v.natAbs≤m) (h:n+m≤512):(clip (t.v*x.v)).v=t.v*x.v∧wlen (t.v*x.v).natAbs≤n+m :=
 ⟨zbF (Nat.le_trans (zf9 _ _) (by omega)),Nat.le_trans (zf9 _ _) (by omega)⟩
theorem zsV {t x:WI} {n m:Nat} (ht:wlen t.v.natAbs≤n) (hx:wlen x.v.natAbs≤m) (h:max n m+1≤512):(clip (t.v+x.v)).v=t.v+x.v∧wlen (t.v+x.v).natAbs≤max n m+1 :=
 ⟨zbF (Nat.le_trans (zf7 _ _) (by omega)),Nat.le_trans (zf7 _ _) (by omega)⟩
theorem zkz {i:Nat} (h:i<3):i=0∨i=1∨i=2:=by omega
end Go.Eng
namespace Go.Eng
def cg (n:Nat) (f:Nat→List PV):List PV:=(List.range n).flatMap f
theorem zby (n:Nat) (f:Nat→List PV):cg (n+1) f=cg n f++f n:=by
 unfold cg
 rw[List.range_succ,List.flatMap_append];simp
theorem zcr {k:Nat} {f:Nat→List PV} (hf:∀e,(f e).length=k) (n:Nat):(cg n f).length=n*k:=by
 induction n with
 | zero=>simp[cg]
 | succ n ih=>rw[zby,List.length_append,ih,hf,Nat.succ_mul]
theorem ziI {f g:Nat→List PV} {n:Nat} (h:∀e,e<n→f e=g e):cg n f=cg n g:=by
 induction n with
 | zero=>rfl
 | succ n ih=>rw[zby,zby,ih (fun e he=>h e (by omega)),h n (by omega)]
theorem zdH {k:Nat} {f:Nat→List PV} (hf:∀e,(f e).length=k) {n i:Nat} (h:i<n):((cg n f).drop (i*k)).take k=f i:=by
 induction n with
 | zero=>omega
 | succ n ih =>
  have hl:=zcr hf n
  rw[zby]
  rcases Nat.lt_or_ge i n with q|q
  ·have:(i+1)*k≤n*k:=Nat.mul_le_mul_right _ q
   rw[Nat.succ_mul] at this
   rw[List.drop_append_of_le_length (by omega),List.take_append_of_le_length (by rw[List.length_drop];omega),ih q]
  ·obtain rfl:i=n:=by omega
   rw[List.drop_append,List.drop_eq_nil_of_le (by omega),hl,Nat.sub_self,List.drop_zero,List.nil_append,List.take_of_length_le (by rw[hf];exact Nat.le_refl _)]
theorem zk0 {k:Nat} {n i:Nat} (h:i<n):i*k+k≤n*k:=by
 have:(i+1)*k≤n*k:=Nat.mul_le_mul_right _ h
 rw[Nat.succ_mul] at this
 exact this
theorem ziJ {k:Nat} {f:Nat→List PV} (hf:∀e,(f e).length=k) {n i:Nat} (h:i<n) {v:List PV} (hv:v.length=k):psplice (cg n f) (i*k) v=cg n (upd f i v):=by
 unfold psplice
 induction n with
 | zero=>omega
 | succ n ih =>
  have hl:=zcr hf n
  rw[zby,zby]
  rcases Nat.lt_or_ge i n with q|q
  ·have:=zk0 (k:=k) q
   rw[←ih q,List.take_append_of_le_length (by omega),List.drop_append_of_le_length (by omega),zf4 (show n≠i by omega),List.append_assoc,List.append_assoc,List.append_assoc]
  ·obtain rfl:i=n:=by omega
   rw[List.take_append_of_le_length (by omega),List.drop_eq_nil_of_le (by simp[hl,hf,hv]),List.append_nil,zfo,List.take_of_length_le (by omega),ziI (fun e he=>(zf4 (show e≠i by omega)).symm)]
theorem zpV {g:PV→Option (PV×List Nat)} {f:Nat→List PV} (hf:∀e,∀x∈f e,g x=some (x,[])) (n:Nat):fzL g (cg n f)=some (cg n f,[]):=zgt _ _ fun x hx=>by
 obtain⟨e,_,h⟩:=List.mem_flatMap.1 hx
 exact hf e x h
end Go.Eng
namespace Go.Eng
def facT:List (List Int):=[[],[0],[1],[2],[0,0],[0,1],[0,2],[1,1],[1,2],[2,2],[0,0,0],[0,0,1],[0,0,2],[0,1,1],[0,1,2],[0,2,2],[1,1,1],[1,1,2],[1,2,2],[2,2,2]]
def facL (i:Nat):List Int:=facT.getD i []
def prL (X:Nat→Int):List Int→Int
 | []=>1
 | a::l=>X a.toNat*prL X l
theorem zfZ (X:Nat→Int):∀l:List Int,(∀a∈l,a=0∨a=1∨a=2)→prL X l=X 0^l.count 0*X 1^l.count 1*X 2^l.count 2
 | [],_=>by simp[prL]
 | a::l,h=>by
  have ih:=zfZ X l fun b hb=>h b (List.mem_cons_of_mem _ hb)
  rw[prL,ih]
  rcases h a List.mem_cons_self with rfl|rfl|rfl
  ·rw[List.count_cons_self,List.count_cons_of_ne (by decide),List.count_cons_of_ne (by decide),Int.pow_succ]
   show X 0*_=_;grind
  ·rw[List.count_cons_self,List.count_cons_of_ne (by decide),List.count_cons_of_ne (by decide),Int.pow_succ]
   show X 1*_=_;grind
  ·rw[List.count_cons_self,List.count_cons_of_ne (by decide),List.count_cons_of_ne (by decide),Int.pow_succ]
   show X 2*_=_;grind
theorem zg8:∀i,i<20→(∀a∈facL i,a=0∨a=1∨a=2)∧(facL i).length≤3∧exN i 0=(facL i).count 0∧exN i 1=(facL i).count 1∧exN i 2=(facL i).count 2:=by decide
theorem zg7 (X:Nat→Int) {i:Nat} (h:i<20):prL X (facL i)=moV X i:=by
 obtain⟨h1,_,h2,h3,h4⟩:=zg8 i h
 rw[zfZ X _ h1,←h2,←h3,←h4]
 show _=1*X 0^exN i 0*X 1^exN i 1*X 2^exN i 2
 rw[Int.one_mul]
theorem zv3 {n:Int} (h:Fits64 n):tlen n.natAbs≤5:=by
 unfold Fits64 at h
 exact zai (by omega)
end Go.Eng
namespace Go.Eng
end Go.Eng
namespace Go.Eng
end Go.Eng
namespace Go.Eng
end Go.Eng
namespace Go.Eng
def nbits (k:Nat):Nat:=if k=0 then 0 else Nat.log2 k+1
theorem zc5 {k:Nat} (h:k≠0):nbits k=nbits (k/2)+1:=by
 unfold nbits
 rw[if_neg h]
 by_cases h2:2≤k
 ·rw[if_neg (by omega),Nat.log2_def k,if_pos h2]
 ·have:k=1:=by omega
  subst this;rfl
theorem zcS {k n:Nat} (h:k<2^n):nbits k≤n:=by
 unfold nbits
 split
 ·omega
 ·rename_i h0
  have:=(Nat.log2_lt h0).2 h
  omega
end Go.Eng
namespace Go.Eng
end Go.Eng
namespace Go.Eng
structure TerOk (X Y S:Int) (C R:Nat) (hs:List Int):Prop where
 c:2≤C∧C≤128
 r:2≤R∧R≤128
 s:1≤S∧S≤65536
 x : -1048576≤X∧X+(C-1)*S≤1048576
 y : -1048576≤Y∧Y+(R-1)*S≤1048576
 len:hs.length=C*R
 h:∀n∈hs,-16384≤n∧n≤16384
theorem TerOk.ints {X Y S:Int} {C R:Nat} {hs:List Int} (t:TerOk X Y S C R hs):Ints hs:=by
 refine⟨?_,fun n hn=>?_⟩
 ·have:C*R≤128*128:=Nat.mul_le_mul t.c.2 t.r.2
  rw[t.len];omega
 ·have:=t.h n hn
  unfold Fits64;omega
end Go.Eng
namespace Go.Eng
end Go.Eng
namespace Go.Eng
end Go.Eng
namespace Go.Eng
end Go.Eng
namespace Go.Eng
end Go.Eng
namespace Go.Eng
end Go.Eng
namespace Go.Eng
end Go.Eng
namespace Go.Eng
end Go.Eng
namespace Go.Eng
theorem zdJ (a b:Int):(0≤cmpI a b)=(b≤a):=by
 unfold cmpI
 simp only[eq_iff_iff]
 split
 ·omega
 ·split<;>omega
end Go.Eng
namespace Go.Eng
end Go.Eng
namespace Go.Eng
end Go.Eng
namespace Go.Eng
theorem zjK {k m:Nat} (h:2^m≤k):nbits k=nbits (k/2^m)+m:=by
 induction m with
 | zero=>simp
 | succ m ih =>
  have h1:2^m≤k:=Nat.le_trans (Nat.pow_le_pow_right (by decide) (Nat.le_succ m)) h
  have h2:k/2^m≠0:=by
   have:=Nat.div_pos h1 (Nat.pow_pos (by decide))
   omega
  have e:k/2^m/2=k/2^(m+1):=by rw[Nat.div_div_eq_div_mul,←Nat.pow_succ]
  have h3:=zc5 h2
  rw[e] at h3
  have h4:=ih h1
  omega
theorem zjJ:nbits 1=1:=by unfold nbits;rw[if_neg (by decide)];rfl
def pw (i:Nat):Nat:=2^(2^i)
theorem zf0 (i:Nat):0<pw i:=Nat.pow_pos (by decide)
theorem zrC (i:Nat):2≤pw i:=by
 unfold pw
 have:2^1≤2^(2^i):=Nat.pow_le_pow_right (by decide) (Nat.one_le_two_pow)
 omega
theorem zgK (i:Nat):pw (i+1)=pw i*pw i:=by
 unfold pw
 rw[←Nat.pow_add,Nat.pow_succ]
 congr 1
 omega
theorem zkl:pw 0=2:=rfl
theorem zil {x i:Nat} (h:pw i≤x):nbits x=nbits (x/pw i)+2^i:=zjK h
theorem zrA {x i:Nat} (h:x<pw (i+1)):x/pw i<pw i:=by
 rw[zgK] at h
 exact Nat.div_lt_of_lt_mul h
theorem zoX {x i:Nat} (h:pw i≤x):1≤x/pw i:=Nat.div_pos h (zf0 i)
end Go.Eng
namespace Go.Eng
theorem zlX (i:Nat):pw i<pw (i+1):=by
 rw[zgK]
 have:=zrC i
 have h2:pw i*2≤pw i*pw i:=Nat.mul_le_mul_left _ this
 omega
theorem zhj {i:Nat} (h:inR (pw i)):i<14:=by
 rcases Nat.lt_or_ge i 14 with q|q
 ·exact q
 ·exfalso
  obtain⟨K,hK⟩:∃K,K=16384:=⟨_,rfl⟩
  obtain⟨a,ha⟩:∃a,a=14:=⟨_,rfl⟩
  rw[←ha] at q
  have h1:2^a≤2^i:=Nat.pow_le_pow_right (by decide) q
  have h2:2^(2^a)≤pw i:=Nat.pow_le_pow_right (by decide) h1
  have e:2^a=K:=by rw[hK,ha]
  rw[e] at h2
  unfold inR at h
  rw[←hK] at h
  omega
theorem zen {a b:Nat} (h:a≤b) (hb:inR b):inR a:=Nat.lt_of_le_of_lt h hb
noncomputable def pwI (i:Nat):WI:=clip ((pw i:Nat):Int)
theorem ziu {i:Nat} (h:inR (pw i)):(pwI i).v=((pw i:Nat):Int):=(zdR (z:=((pw i:Nat):Int)) (by rw[Int.natAbs_natCast];exact h)).1
noncomputable def pwL:Nat→List PV
 | 0=>[]
 | j+1=>pwL j++[.b (decide ((pwI j).v<0)),D (pwI j).v.natAbs]
theorem zfb:∀j,(pwL j).length=2*j
 | 0=>rfl
 | j+1=>by rw[pwL,List.length_append,zfb j];simp;omega
theorem zmV:∀{j i:Nat},i<j→((pwL j).drop (i*2)).take 2=[.b (decide ((pwI i).v<0)),D (pwI i).v.natAbs]
 | 0,i,h=>by omega
 | j+1,i,h=>by
  have hl:=zfb j
  rw[pwL]
  by_cases hi:i<j
  ·rw[List.drop_append_of_le_length (by omega),List.take_append_of_le_length (by simp;omega)]
   exact zmV hi
  ·obtain rfl:i=j:=by omega
   rw[List.drop_left' (show (pwL i).length=i*2 by omega)];rfl
theorem zsW (P:PM) (L:List PV) (w1 w2:PV) (r1 r2:Option PB) {j:Nat} (hl:L.length=2*j) (hj:j≤100) (h0:0<j):appP (P++[some ⟨L,true,0⟩,r1,r2,some ⟨[w1,w2],true,0⟩]) 2 32 (.sl P.length 0 j j 2) (.sl (P.length+3) 0 1 1 2) =
  some (.sl (P.length+4) 0 (j+1) (j+1) 2,P++[none,r1,r2,some ⟨[w1,w2],true,0⟩,some ⟨L++[w1,w2],true,0⟩]):=by
 have es:srcP (P++[some (⟨L,true,0⟩:PB),r1,r2,some (⟨[w1,w2],true,0⟩:PB)]) 2 (.sl (P.length+3) 0 1 1 2)=some (1,[w1,w2]):=by
  simp only[srcP,PM.rd,mG]
  rfl
 have e2:PM.blk (P++[some (⟨L,true,0⟩:PB),r1,r2,some (⟨[w1,w2],true,0⟩:PB)]) P.length=some (⟨L,true,0⟩:PB):=by rw[mG0];rfl
 unfold appP
 rw[es]
 simp only[e2]
 rw[if_neg (by simp),if_neg (by decide),if_pos ⟨trivial,by rw[hl];omega,by omega⟩,sG0]
 simp only[List.drop_zero,List.set_cons_zero,lqq,List.length_append,List.length_cons,List.length_nil]
 rw[List.take_of_length_le (by omega)]
theorem zo8 {i:Nat} (h:i<14):binP .shl (.i .i64 1) (.i .i64 (i:Int))=some (.i .i64 ((2^i:Nat):Int)):=by
 have h1:2^i≤2^13:=Nat.pow_le_pow_right (by decide) (by omega)
 rw[zgf _ _ _ _ (by omega),Int.toNat_natCast,show min i (IntKind.bits .i64)=i by simp only[IntKind.bits];omega,Int.one_mul]
 have e:(2:Int)^i=((2^i:Nat):Int):=by simp
 rw[e]
 generalize 2^i=t at *
 rw[wqa (by omega) (by omega)]
set_option maxHeartbeats 2000000 in
theorem zmt {F:PFin} {ks:List KI} {K J:Nat} {x0:WI} (hR:inR K) (hx0:x0.v=(K:Int)) (hK:1≤K) (hlt:K<pw J) (hJ:J=0∨pw (J-1)≤K) {G R:PM} {fr:PFr} {v:Nat}
  (f1:fr 1=.p 0 0) (f3:fr 3=(PV.i .i64 ((0:Nat):Int))) (f6:fr 6=if J=0 then .nl else .sl (G.length+1) 0 J J 2) (f10:fr 10=.i .i64 ((J:Int)-1))
  (cont:∀fr' v' (y:WI),y.v=1→fr' 1=.p 0 0→fr' 3=.i .i64 ((nbits K:Int)-1)→UK E0 F (.exit 4) ks fr' (some ⟨[.b (decide (y.v<0)),D y.v.natAbs],true,v'⟩::(G++(some ⟨pwL J,true,0⟩::R)))) :
  WK E0 F (.loop zz2) ks fr (some ⟨[.b (decide (x0.v<0)),D x0.v.natAbs],true,v⟩::(G++(some ⟨pwL J,true,0⟩::R))):=by
 have hnb:nbits K≤16384:=by
  obtain⟨q,hq⟩:∃q,q=16384:=⟨_,rfl⟩
  unfold inR at hR
  rw[←hq] at hR ⊢
  exact zcS hR
 have hJ14:∀i,i<J→i<14∧inR (pw i):=fun i hi=>by
  have hm:∀d,pw i≤pw (i+d):=fun d=>by
   induction d with
   | zero=>exact Nat.le_refl _
   | succ d ih=>exact Nat.le_trans ih (Nat.le_of_lt (zlX _))
  have h1:=hm (J-1-i)
  rw[show i+(J-1-i)=J-1 by omega] at h1
  have h2:inR (pw i):=zen (by omega) hR
  exact⟨zhj h2,h2⟩
 refine zag zz2.eq_1 (fun(i:Nat) fr M=>i≤J∧∃(y:WI) (Y n v:Nat),y.v=(Y:Int)∧1≤Y∧Y<pw i∧nbits K=nbits Y+n∧fr 1=.p 0 0∧fr 3=(PV.i .i64 ((n:Nat):Int))∧fr 6=(if J=0 then .nl else .sl (G.length+1) 0 J J 2)∧fr 10=.i .i64 ((i:Int)-1) ∧
  M=some ⟨[.b (decide (y.v<0)),D y.v.natAbs],true,v⟩::(G++(some ⟨pwL J,true,0⟩::R))) (fun i=>i) ?_ J ⟨Nat.le_refl _,x0,K,0,v,hx0,hK,hlt,rfl,f1,f3,f6,f10,rfl⟩
 rintro i fr M ⟨hi,y,Y,n,v,hy,hY,hYi,hn,f1,f3,f6,f10,rfl⟩ ih
 cases i with
 | zero =>
  have hY1:Y=1:=by rw[zkl] at hYi;omega
  subst hY1
  have f3':fr 3=.i .i64 ((nbits K:Int)-1):=by
   rw[f3,hn,zjJ];congr 1;omega
  have q0:((((0:Nat):Int)-1)≥0)=False:=eq_false (by omega)
  simp(disch:=omega)only[go_sem,seval,wqq,f10,q0]
  exact cont _ v y hy (by simp only[go_sem,seval,f1]) (by simp only[go_sem,seval,f3'])
 | succ i =>
  obtain⟨i14,iR⟩:=hJ14 i (by omega)
  have hJ0:J≠0:=by omega
  rw[if_neg hJ0] at f6
  have f6':=f6
  have f10:fr 10=(PV.i .i64 ((i:Nat):Int)):=by rw[f10];congr 1;omega
  have q0:((i:Int)≥0)=True:=eq_true (by omega)
  have pv:=ziu iR
  have cm:=zaG y (pwI i)
  rw[hy,pv] at cm
  have at_:=zmV (j:=J) (i:=i) (by omega)
  have hl:=zfb J
  have hiJ:(i<J)=True:=eq_true (by omega)
  have h2i:(i*2+2≤2*J)=True:=eq_true (by omega)
  by_cases hc:pw i≤Y
  ·have c0:(cmpI ((Y:Nat):Int) ((pw i:Nat):Int)≥0)=True:=eq_true (by rw[ge_iff_le,zdJ];omega)
   simp(disch:=omega)only[go_sem,seval,wqq,f1,f3,f6,f10,q0,cm,c0,hiJ,h2i,hl,at_,mG,mG0,sG,sG0,lG,lqq]
   have dv:=zin y (pwI i) (by rw[pv];have:=zf0 i;omega)
   have dvv:(y.div (pwI i) (by rw[pv];have:=zf0 i;omega)).v=((Y/pw i:Nat):Int):=by
    show y.v/(pwI i).v=_
    rw[hy,pv];rfl
   generalize y.div (pwI i) (by rw[pv];have:=zf0 i;omega)=y2 at *
   generalize y.mod (pwI i) (by rw[pv];have:=zf0 i;omega)=y3 at *
   have sh:=zo8 i14
   have st:=zil hc
   have p14:2^i≤2^14:=Nat.pow_le_pow_right (by decide) (by omega)
   have g1:=zrA hYi
   have g0:=zoX hc
   have hs:(n:Int)+((2^i:Nat):Int)=((n+2^i:Nat):Int):=by push_cast;rfl
   generalize 2^i=t at *
   simp(disch:=omega)only[go_sem,seval,wqq,f1,f3,f6,f10,q0,cm,c0,hiJ,h2i,hl,at_,dv,sh,hs,mG,mG0,sG,sG0,lG,lqq]
   exact ih i _ _ (by omega) ⟨by omega,y2,Y/pw i,n+t,_,dvv,g0,g1,by omega,by simp only[go_sem,seval,f1],by simp only[go_sem,seval],by rw[if_neg hJ0];simp only[go_sem,seval,f6],by simp only[go_sem,seval,f10],rfl⟩
  ·have c0:(cmpI ((Y:Nat):Int) ((pw i:Nat):Int)≥0)=False:=eq_false (by rw[ge_iff_le,zdJ];omega)
   simp(disch:=omega)only[go_sem,seval,wqq,f1,f3,f6,f10,q0,cm,c0,hiJ,h2i,hl,at_,mG,mG0,sG,sG0,lG,lqq]
   exact ih i _ _ (by omega) ⟨by omega,y,Y,n,_,hy,hY,by omega,by omega,by simp only[go_sem,seval,f1],by simp only[go_sem,seval,f3],by rw[if_neg hJ0];simp only[go_sem,seval,f6],by simp only[go_sem,seval,f10],rfl⟩
end Go.Eng
namespace Go.Eng
theorem zoI (x:WI) (h:x.v.natAbs≤9223372036854775807):pf E0 63 [wiP x]=some (.i .i64 (nbits x.v.natAbs:Int)):=by
 have nb:nbits x.v.natAbs≤63:=zcS (by omega)
 have fin:∀(y:WI),y.v=(x.v.natAbs:Int)→pf E0 80 [wiP y]=some (.tu [.i .i64 (x.v.natAbs:Int),.b true]):=fun y hy=>by
  have sm:=zdX y
  have s1:isSmall (x.v.natAbs:Int)=true:=by unfold isSmall;exact decide_eq_true ⟨by omega,by omega⟩
  have s2:small (x.v.natAbs:Int)=(x.v.natAbs:Int):=by unfold small;rw[if_pos s1]
  rw[hy,s1,s2] at sm
  exact sm
 have sg:=zce x
 refine zaa (xf:=zyI) rfl (by simp[zyI]) ?_
 simp only[zyI]
 by_cases hn:x.v<0
 ·have t0:(cmpI x.v 0<0)=True:=by rw[zdo];simp[hn]
  have n1:=zip x
  have sm:=fin x.neg (by show-x.v=_;omega)
  generalize x.neg=y at *
  generalize x.v.natAbs=K at *
  simp(disch:=omega)only[go_sem,seval,wqq,sg,t0,n1,sm]
  refine zag zzZ.eq_1 (fun(σ:Nat×Nat) fr M=>σ.1+nbits σ.2=nbits K∧σ.2≤K∧fr 3=(PV.i .i64 ((σ.1:Nat):Int))∧fr 4=(PV.i .i64 ((σ.2:Nat):Int))) (fun σ=>σ.2) ?_ (0,K) ⟨by simp,Nat.le_refl _,by simp only[go_sem,seval],by simp only[go_sem,seval]⟩
  rintro⟨n,k⟩ fr M ⟨hs,hk,f3,f4⟩ ih
  simp only at hs hk f3 f4
  by_cases hk0:k=0
  ·have q1:((k:Int)>0)=False:=by simp;omega
   have hN:n=nbits K:=by rw[←hs,hk0];rfl
   rw[←hN]
   simp(disch:=omega)only[go_sem,seval,wqq,f3,f4,q1]
  ·have q1:((k:Int)>0)=True:=by simp;omega
   have k2:(k:Int).tdiv 2=((k/2:Nat):Int):=za9 _ 2
   have hh:=zc5 hk0
   simp(disch:=omega)only[go_sem,seval,wqq,f3,f4,q1,k2]
   exact ih (n+1,k/2) _ _ (by simp only;omega) ⟨by simp only;omega,by simp only;omega,by simp only[go_sem,seval];rw[Int.natCast_succ],by simp only[go_sem,seval]⟩
 ·have t0:(cmpI x.v 0<0)=False:=by rw[zdo];simp[hn]
  have sm:=fin x (by omega)
  obtain⟨K,hK⟩:∃K:Nat,K=x.v.natAbs:=⟨_,rfl⟩
  rw[←hK] at sm nb ⊢
  have hKl:K≤9223372036854775807:=by omega
  simp(disch:=omega)only[go_sem,seval,wqq,sg,t0,sm]
  refine zag zzZ.eq_1 (fun(σ:Nat×Nat) fr M=>σ.1+nbits σ.2=nbits K∧σ.2≤K∧fr 3=(PV.i .i64 ((σ.1:Nat):Int))∧fr 4=(PV.i .i64 ((σ.2:Nat):Int))) (fun σ=>σ.2) ?_ (0,K) ⟨by simp,Nat.le_refl _,by simp only[go_sem,seval],by simp only[go_sem,seval]⟩
  rintro⟨n,k⟩ fr M ⟨hs,hk,f3,f4⟩ ih
  simp only at hs hk f3 f4
  by_cases hk0:k=0
  ·have q1:((k:Int)>0)=False:=by simp;omega
   have hN:n=nbits K:=by rw[←hs,hk0];rfl
   rw[←hN]
   simp(disch:=omega)only[go_sem,seval,wqq,f3,f4,q1]
  ·have q1:((k:Int)>0)=True:=by simp;omega
   have k2:(k:Int).tdiv 2=((k/2:Nat):Int):=za9 _ 2
   have hh:=zc5 hk0
   simp(disch:=omega)only[go_sem,seval,wqq,f3,f4,q1,k2]
   exact ih (n+1,k/2) _ _ (by simp only;omega) ⟨by simp only;omega,by simp only;omega,by simp only[go_sem,seval];rw[Int.natCast_succ],by simp only[go_sem,seval]⟩
theorem zmK {j:Nat} (h:inR (pw j)):pf E0 38 [wiP (pwI j),wiP (pwI j)]=some (.tu [wiP (pwI (j+1)),.i .i64 (lerr ((pw (j+1):Nat):Int))]):=by
 rw[zdW,ziu h,←Int.natCast_mul,←zgK];rfl
theorem zxz (b0 b1:Option PB) (w1 w2:PV):appP [b0,b1,some ⟨[w1,w2],true,0⟩] 2 32 .nl (.sl 2 0 1 1 2)=some (.sl 3 0 1 1 2,[b0,b1,some ⟨[w1,w2],true,0⟩,some ⟨[w1,w2],true,0⟩]):=rfl
theorem zqt {v K:Nat} (hK:K=16384) (h:v<2^K):inR v:=by subst hK;exact h
theorem zjq:inR (pw 1):=by
 obtain⟨K,hK⟩:∃K,K=16384:=⟨_,rfl⟩
 have h:pw 1<2^K:=Nat.lt_of_lt_of_le (show pw 1<2^3 by decide) (Nat.pow_le_pow_right (by decide) (by omega))
 exact zqt hK h
set_option maxHeartbeats 2000000 in
theorem zms {F:PFin} {ks:List KI} {K:Nat} {x0:WI} (hR:inR K) (hx0:x0.v=(K:Int)) (hK:9223372036854775807<K) {fr:PFr} {v:Nat} {v1:Nat}
  (f1:fr 1=.p 0 0) (f3:fr 3=(PV.i .i64 ((0:Nat):Int))) (f6:fr 6=.nl) (f7:fr 7=.p 1 0)
  (cont:∀fr' (G:PM) (J:Nat),J≠0→fr' 1=.p 0 0→fr' 3=(PV.i .i64 ((0:Nat):Int))→fr' 6=.sl (G.length+1) 0 J J 2→K<pw J→pw (J-1)≤K→∀R,UK E0 F (.exit 2) ks fr' (some ⟨[.b (decide (x0.v<0)),D x0.v.natAbs],true,v⟩::(G++(some ⟨pwL J,true,0⟩::R)))) :
  WK E0 F (.loop zzk) ks fr [some ⟨[.b (decide (x0.v<0)),D x0.v.natAbs],true,v⟩,some ⟨[.b (decide ((pwI 0).v<0)),D (pwI 0).v.natAbs],true,v1⟩]:=by
 have R1:=zjq
 have R0:inR (pw 0):=zen (Nat.le_of_lt (zlX 0)) R1
 have cm0:=zaG x0 (pwI 0)
 have c00:(cmpI x0.v (pwI 0).v≥0)=True:=eq_true (by rw[ge_iff_le,zdJ,hx0,ziu R0,zkl];omega)
 have mu0:=zmK R0
 have le0:lerr ((pw (0+1):Nat):Int)=0:=(zdR (z:=((pw (0+1):Nat):Int)) (by rw[Int.natAbs_natCast];exact R1)).2
 rw[le0] at mu0
 refine zfq zzk.eq_1 ?_
 simp(disch:=omega)only[go_sem,seval,wqq,f1,f3,f6,f7,cm0,c00,mu0,zxz,zaj,zac]
 refine zag zzk.eq_1 (fun(j:Nat) fr M=>1≤j∧inR (pw j)∧pw (j-1)≤K∧fr 1=.p 0 0∧fr 3=(PV.i .i64 ((0:Nat):Int))∧∃(G:PM) (r:Option PB) (v2:Nat),fr 6=.sl (G.length+1) 0 j j 2∧fr 7=.p (G.length+3) 0 ∧
  M=some ⟨[.b (decide (x0.v<0)),D x0.v.natAbs],true,v⟩::(G++[some ⟨pwL j,true,0⟩,r,some ⟨[.b (decide ((pwI j).v<0)),D (pwI j).v.natAbs],true,v2⟩])) (fun j=>K+1-pw (j-1)) ?_ 1
  ⟨Nat.le_refl _,R1,by rw[show pw (1-1)=2 from rfl];omega,by simp only[go_sem,seval,f1],by simp only[go_sem,seval,f3],[_,_],_,_,by simp only[go_sem,seval],by simp only[go_sem,seval],rfl⟩
 rintro j fr M ⟨hj,jR,hjK,f1,f3,G,r,v2,f6,f7,rfl⟩ ih
 have j14:=zhj jR
 have cm:=zaG x0 (pwI j)
 by_cases hc:pw j≤K
 ·have c0:(cmpI x0.v (pwI j).v≥0)=True:=eq_true (by rw[ge_iff_le,zdJ,hx0,ziu jR];omega)
  have mu:=zmK jR
  have apx:∀b0:Option PB,appP (b0::(G++[some ⟨pwL j,true,0⟩,r,some ⟨[.b (decide ((pwI j).v<0)),D (pwI j).v.natAbs],true,v2⟩,some ⟨[PV.b (decide ((pwI j).v<0)),D (pwI j).v.natAbs],true,0⟩])) 2 32 (.sl (G.length+1) 0 j j 2) (.sl (G.length+4) 0 1 1 2) =
   some (.sl (G.length+5) 0 (j+1) (j+1) 2,b0::(G++[none,r,some ⟨[.b (decide ((pwI j).v<0)),D (pwI j).v.natAbs],true,v2⟩,some ⟨[PV.b (decide ((pwI j).v<0)),D (pwI j).v.natAbs],true,0⟩,some ⟨pwL (j+1),true,0⟩])):=fun b0 =>
   zsW (b0::G) (pwL j) _ _ r (some ⟨[.b (decide ((pwI j).v<0)),D (pwI j).v.natAbs],true,v2⟩) (zfb j) (by omega) (by omega)
  by_cases hn:inR (pw (j+1))
  ·have le1:lerr ((pw (j+1):Nat):Int)=0:=(zdR (z:=((pw (j+1):Nat):Int)) (by rw[Int.natAbs_natCast];exact hn)).2
   rw[le1] at mu
   simp(disch:=omega)only[go_sem,seval,wqq,f1,f3,f6,f7,cm,c0,mu,apx,zaj,zac,mG,mG0,sG,sG0,lG,lqq]
   have:=zlX (j-1)
   rw[show j-1+1=j by omega] at this
   exact ih (j+1) _ _ (by rw[show j+1-1=j by omega];omega) ⟨by omega,hn,hc,by simp only[go_sem,seval,f1],by simp only[go_sem,seval,f3],G++[none,r,_,_],_,_,by simp only[go_sem,seval];simp,by simp only[go_sem,seval];simp,by simp;exact⟨rfl,rfl,rfl,rfl⟩⟩
  ·have le1:(lerr ((pw (j+1):Nat):Int)=0)=False:=eq_false fun q=>hn (by have:=zgw q;rwa [Int.natAbs_natCast] at this)
   simp(disch:=omega)only[go_sem,seval,wqq,f1,f3,f6,f7,cm,c0,mu,le1,apx,zaj,zac,mG,mG0,sG,sG0,lG,lqq]
   have e6:∀a b c d p q:Option PB,G++[a,b,c,d,p,q]=(G++[a,b,c,d])++(p::[q]):=fun a b c d p q=>by simp
   rw[e6]
   exact cont _ _ (j+1) (by omega) (by simp only[go_sem,seval,f1]) (by simp only[go_sem,seval,f3]) (by simp only[go_sem,seval];simp) (by
    rcases Nat.lt_or_ge K (pw (j+1)) with q|q
    ·exact q
    ·exact(hn (zen q hR)).elim) hc [_]
 ·have c0:(cmpI x0.v (pwI j).v≥0)=False:=eq_false (by rw[ge_iff_le,zdJ,hx0,ziu jR];omega)
  simp(disch:=omega)only[go_sem,seval,wqq,f1,f3,f6,f7,cm,c0,mG,mG0,sG,sG0,lG,lqq]
  exact cont _ G j (by omega) (by simp only[go_sem,seval,f1]) (by simp only[go_sem,seval,f3]) (by simp only[go_sem,seval,f6]) (by omega) hjK [_,_]
theorem zj5 (x:WI):pf E0 63 [wiP x]=some (.i .i64 (nbits x.v.natAbs:Int)):=by
 by_cases hs:x.v.natAbs≤9223372036854775807
 ·exact zoI x hs
 have hR:inR x.v.natAbs:=(zaF _).1 x.lim
 obtain⟨K,hKe⟩:∃K,K=x.v.natAbs:=⟨_,rfl⟩
 rw[←hKe] at hR hs ⊢
 have hK:9223372036854775807<K:=by omega
 have sg:=zce x
 have fin:∀(y:WI),y.v=(K:Int)→pf E0 80 [wiP y]=some (.tu [.i .i64 0,.b false]):=fun y hy=>by
  have sm:=zdX y
  have s1:isSmall (K:Int)=false:=by unfold isSmall;exact decide_eq_false (by omega)
  have s2:small (K:Int)=0:=by unfold small;rw[s1];rfl
  rw[hy,s1,s2] at sm
  exact sm
 have fr2:=zbw (n:=2) (by decide)
 have w2:wiOf 2 (by decide)=pwI 0:=WI.ext' (by rw[ziu (zen (Nat.le_of_lt (zlX 0)) zjq)];rfl)
 rw[w2] at fr2
 have nb1:1≤nbits K:=by unfold nbits;rw[if_neg (by omega)];omega
 have nbe:(nbits K:Int)-1+1=(nbits K:Int):=by omega
 have sy:∀y:WI,y.v=1→pf E0 31 [wiP y]=some (.i .i64 1):=fun y hy=>by rw[zce,hy];rfl
 refine zaa (xf:=zyI) rfl (by simp[zyI]) ?_
 simp only[zyI]
 have nbb:nbits K≤16384:=by
  obtain⟨q,hq⟩:∃q,q=16384:=⟨_,rfl⟩
  unfold inR at hR
  rw[←hq] at hR ⊢
  exact zcS hR
 by_cases hn:x.v<0
 ·have t0:(cmpI x.v 0<0)=True:=by rw[zdo];simp[hn]
  have n1:=zip x
  have hv:x.neg.v=(K:Int):=by show-x.v=_;omega
  have sm:=fin x.neg hv
  generalize x.neg=y at *
  simp(disch:=omega)only[go_sem,seval,wqq,sg,t0,n1,sm,fr2]
  refine zms hR hv hK (by simp only[go_sem,seval]) (by simp only[go_sem,seval]) (by simp only[go_sem,seval]) (by simp only[go_sem,seval]) ?_
  intro fr' G J hJ f1 f3 f6 hlt hle R
  have J14:=zhj (zen hle hR)
  simp(disch:=omega)only[go_sem,seval,wqq,f6]
  refine zmt hR hv (by omega) hlt (.inr hle) (by simp only[go_sem,seval,f1]) (by simp only[go_sem,seval,f3]) (by rw[if_neg hJ];simp only[go_sem,seval,f6]) (by simp only[go_sem,seval]) ?_
  intro fr'' v' y1 hy1 g1 g3
  have syy:=sy y1 hy1
  simp(disch:=omega)only[go_sem,seval,wqq,g1,g3,syy,nbe]
 ·have t0:(cmpI x.v 0<0)=False:=by rw[zdo];simp[hn]
  have hv:x.v=(K:Int):=by omega
  have sm:=fin x hv
  simp(disch:=omega)only[go_sem,seval,wqq,sg,t0,sm,fr2]
  refine zms hR hv hK (by simp only[go_sem,seval]) (by simp only[go_sem,seval]) (by simp only[go_sem,seval]) (by simp only[go_sem,seval]) ?_
  intro fr' G J hJ f1 f3 f6 hlt hle R
  have J14:=zhj (zen hle hR)
  simp(disch:=omega)only[go_sem,seval,wqq,f6]
  refine zmt hR hv (by omega) hlt (.inr hle) (by simp only[go_sem,seval,f1]) (by simp only[go_sem,seval,f3]) (by rw[if_neg hJ];simp only[go_sem,seval,f6]) (by simp only[go_sem,seval]) ?_
  intro fr'' v' y1 hy1 g1 g3
  have syy:=sy y1 hy1
  simp(disch:=omega)only[go_sem,seval,wqq,g1,g3,syy,nbe]
theorem zjV (x:FQ):pf E0 44 [fqP x]=some (.i .i64 ((max (nbits x.p.v.natAbs) (nbits x.q.v.natAbs):Nat):Int)):=by
 have a1:=zhD x
 have a2:=zcf x
 have d1:=zj5 x.p
 have d2:=zj5 x.q
 generalize nbits x.p.v.natAbs=a at *
 generalize nbits x.q.v.natAbs=b at *
 have hm:mmP true (.i .i64 (a:Int)) [.i .i64 (b:Int)]=some (.i .i64 ((max a b:Nat):Int)):=by
  simp only[mmP,if_true]
  congr 2
  split<;>omega
 refine zaa (xf:=zzo) rfl (by simp[zzo]) ?_
 simp only[zzo]
 simp(disch:=omega)only[go_sem,seval,wqq]
 refine zaC [1] rfl (by simp only[go_sem,seval]) ?_
 simp(disch:=omega)only[go_sem,seval,wqq,a1,a2,d1,d2,hm]
end Go.Eng
namespace Go.Eng
theorem zsR {a b:Nat} (la:wlen a≤512) (lb:wlen b≤512) (h:D a=D b):a=b:=by
 have h1:=zbc a b (by omega) (by omega)
 have h2:=zbc a a (by omega) (by omega)
 rw[←h,h2] at h1
 have e:cmpI (a:Int) a=cmpI (a:Int) b:=by simpa using h1
 have z:cmpI (a:Int) a=0:=by simp[cmpI]
 rw[z] at e
 unfold cmpI at e
 split at e
 ·exact absurd e (by decide)
 ·split at e
  ·exact absurd e (by decide)
  ·omega
theorem znf {x y:WI} (h:wc x=wc y):x=y:=by
 unfold wc at h
 injection h with h1 h2
 injection h2 with h2 _
 have e:=zsR x.lim y.lim h2
 have s:(x.v<0)↔(y.v<0):=by
  injection h1 with h1
  simpa using h1
 exact zkM (by omega)
theorem zlk {f g:FQ} (h:fqP f=fqP g):f=g:=by
 have h:PV.ag (wc f.p++wc f.l)=PV.ag (wc g.p++wc g.l):=h
 injection h with h
 obtain⟨h1,h2⟩:=List.append_inj h rfl
 have e1:=znf h1
 have e2:=znf h2
 refine zhc (by rw[e1]) ?_
 have:f.q.v-1=g.q.v-1:=congrArg WI.v e2
 omega
theorem zkF {f g:FQ} {d e:Int} (h:some (PV.tu [fqP f,.i .i64 d])=some (.tu [fqP g,.i .i64 e])):f=g∧d=e:=by
 simp only[Option.some.injEq,PV.tu.injEq,List.cons.injEq,PV.i.injEq,true_and,and_true] at h
 exact⟨zlk h.1,h.2⟩
theorem zgD (a b:FQ):∃(f:FQ) (e:Int),pf E0 8 [fqP a,fqP b]=some (.tu [fqP f,.i .i64 e]):=by
 obtain⟨h1,h2⟩:=zhC a b
 by_cases h:inR (muP a b).natAbs∧inR (muQ a b).natAbs
 ·obtain⟨f,_,_,q⟩:=h1 h;exact⟨f,0,q⟩
 ·exact⟨_,_,h2 h⟩
theorem zgc (a b:FQ):∃(f:FQ) (e:Int),pf E0 9 [fqP a,fqP b]=some (.tu [fqP f,.i .i64 e]):=by
 obtain⟨h1,h2⟩:=zhB a b
 by_cases h:adOk a b
 ·obtain⟨f,_,_,q⟩:=h1 h;exact⟨f,0,q⟩
 ·exact⟨_,_,h2 h⟩
noncomputable def mF (a b:FQ):FQ:=(zgD a b).choose
noncomputable def mFe (a b:FQ):Int:=(zgD a b).choose_spec.choose
theorem zwi (a b:FQ):pf E0 8 [fqP a,fqP b]=some (.tu [fqP (mF a b),.i .i64 (mFe a b)]):=(zgD a b).choose_spec.choose_spec
noncomputable def aF (a b:FQ):FQ:=(zgc a b).choose
noncomputable def aFe (a b:FQ):Int:=(zgc a b).choose_spec.choose
theorem zwh (a b:FQ):pf E0 9 [fqP a,fqP b]=some (.tu [fqP (aF a b),.i .i64 (aFe a b)]):=(zgc a b).choose_spec.choose_spec
theorem ztW (a b:FQ) {n m:Nat} {x d y e:Int} (ha:fsz n a) (hb:fsz m b) (h:n+m<1230) (xa:a.is x d) (xb:b.is y e):(mF a b).is (x*y) (d*e)∧fsz (n+m) (mF a b)∧mFe a b=0:=by
 obtain⟨f,h1,h2,h3⟩:=zqG a b ha hb h xa xb
 rw[zwi] at h1
 obtain⟨e1,e2⟩:=zkF h1
 rw[e1];exact⟨h2,h3,e2⟩
theorem zsT (a b:FQ) {n m:Nat} {x d y e:Int} (ha:fsz n a) (hb:fsz m b) (h:n+m+1<1230) (xa:a.is x d) (xb:b.is y e):(aF a b).is (x*e+y*d) (d*e)∧fsz (n+m+1) (aF a b)∧aFe a b=0:=by
 obtain⟨f,h1,h2,h3⟩:=zpz a b ha hb h xa xb
 rw[zwh] at h1
 obtain⟨e1,e2⟩:=zkF h1
 rw[e1];exact⟨h2,h3,e2⟩
noncomputable def whQ (n:Int):FQ:=if h:Fits64 n then ⟨wiOf n h,wi1,by decide,Nat.gcd_one_right _⟩ else fq0
theorem zmf {n:Int} (h:Fits64 n):(whQ n).p.v=n∧(whQ n).q.v=1:=by
 unfold whQ
 rw[dif_pos h]
 exact⟨rfl,rfl⟩
theorem znh {n:Int} (h:Fits64 n):pf E0 17 [.i .i64 n,.i .i64 1]=some (.tu [fqP (whQ n),.i .i64 0]):=by
 obtain⟨f,h1,h2,h3⟩:=zoE h (q:=1) (by decide) (by decide)
 obtain⟨l1,l2⟩:=ze0 (p:=n) (q:=1) (by decide) (Nat.gcd_one_right _)
 obtain⟨v1,v2⟩:=zmf h
 obtain rfl:f=whQ n:=zhc ((h1.trans l1).trans v1.symm) ((h2.trans l2).trans v2.symm)
 exact h3
theorem zng {n:Int} (h:Fits64 n):(whQ n).is n 1∧fsz 5 (whQ n):=by
 obtain⟨v1,v2⟩:=zmf h
 refine⟨?_,?_,?_⟩
 ·show (whQ n).p.v*1=n*(whQ n).q.v
  rw[v1,v2]
 ·rw[v1];exact zv3 h
 ·rw[v2];exact zai (by decide)
theorem zdZ {n:Int} (h:Fits64 n):pf E0 425 [.i .i64 n]=some (fqP (whQ n)):=by
 have o:=znh h
 refine zaa (xf:=zzF) rfl (by simp[zzF]) ?_
 simp only[zzF]
 simp(disch:=omega)only[go_sem,seval,wqq,o]
end Go.Eng
namespace Go.Eng
noncomputable def qc (f:FQ):List PV:=[.b (decide (f.p.v<0)),D f.p.v.natAbs,.b (decide (f.l.v<0)),D f.l.v.natAbs]
theorem zpv (f:FQ):PV.ag (qc f)=fqP f:=_root_.id rfl
theorem zhV (f:FQ):(qc f).length=4:=_root_.id rfl
theorem zgL (f:FQ):(qc f).take 4=qc f:=_root_.id rfl
theorem zmW (a b c d:PV) (f:FQ):psplice [a,b,c,d] 0 [.b (decide (f.p.v<0)),D f.p.v.natAbs,.b (decide (f.l.v<0)),D f.l.v.natAbs]=qc f:=_root_.id rfl
theorem zoZ (g f:FQ):psplice (qc g) 0 [.b (decide (f.p.v<0)),D f.p.v.natAbs,.b (decide (f.l.v<0)),D f.l.v.natAbs]=qc f:=_root_.id rfl
structure QZ (L:List PV) (f:FQ):Prop where
 len:L.length=4
 sc:L.all PV.scal=true
 fz:∀(M:PM) (d:Nat),fzL (fz M (d+1)) L=some (qc f,[])
theorem QZ.tk {L:List PV} {s:FQ} (h:QZ L s):L.take 4=L:=List.take_of_length_le (by rw[h.len];omega)
theorem QZ.spl {L:List PV} {s:FQ} (h:QZ L s) (f:FQ):psplice L 0 [.b (decide (f.p.v<0)),D f.p.v.natAbs,.b (decide (f.l.v<0)),D f.l.v.natAbs]=qc f:=by
 unfold psplice
 rw[List.take_zero,List.drop_eq_nil_of_le (by rw[h.len];exact Nat.le_refl _),List.nil_append,List.append_nil];rfl
theorem qz0:QZ [.b false,.nl,.b false,.nl] fq0:=⟨rfl,rfl,fun _ _=>rfl⟩
theorem qzs (f:FQ):QZ (qc f) f:=⟨rfl,rfl,fun _ _=>rfl⟩
theorem zw5 (a b c d:PV) (L:List PV) (h:L.length=4):psplice [a,b,c,d] 0 L=L:=by
 unfold psplice
 rw[List.take_zero,List.drop_eq_nil_of_le (by rw[h];exact Nat.le_refl _),List.nil_append,List.append_nil]
def fwD (f:FQ):Prop:=max (nbits f.p.v.natAbs) (nbits f.q.v.natAbs)≤1000
noncomputable def tF (U:Nat→FQ) (t:FQ) (l:List Int):FQ:=l.foldl (fun t a=>mF t (U a.toNat)) t
noncomputable def sF (c:Nat→Int) (U:Nat→FQ):Nat→FQ
 | 0=>fq0
 | i+1=>if c i=0 then sF c U i else aF (sF c U i) (tF U (whQ (c i)) (facL i))
def preL (i j:Nat):List Int:=(List.range j).flatMap fun j'=>List.replicate (exN i j') (j':Int)
theorem zhQ:∀i,i<20→preL i 3=facL i:=by decide
theorem zd3 (i j:Nat):preL i (j+1)=preL i j++List.replicate (exN i j) (j:Int):=by
 unfold preL
 rw[List.range_succ,List.flatMap_append];simp
theorem zpf (U:Nat→FQ) (t:FQ) (i j k:Nat):tF U t (preL i j++List.replicate (k+1) (j:Int))=mF (tF U t (preL i j++List.replicate k (j:Int))) (U j):=by
 unfold tF
 rw[List.replicate_succ',←List.append_assoc,List.foldl_append];rfl
open Classical in
noncomputable def evE (c:Nat→Int) (U:Nat→FQ):Int:=if okC c then (if ∀j,j<3→fwD (U j) then 0 else 4) else 1
noncomputable def evR (c:Nat→Int) (U:Nat→FQ):FQ:=if evE c U=0 then sF c U 20 else fq0
theorem zon {c:Nat→Int} (h:¬okC c) (u v w:FQ):pf E0 409 [aI 20 c,fqP u,fqP v,fqP w]=some (.tu [fqP fq0,.i .i64 1]):=by
 have va:=zaD c
 have:vlC c=1:=if_neg h
 rw[this] at va
 have z0:=zmz
 refine zaa (xf:=zyY) rfl (by simp[zyY]) ?_
 simp only[zyY]
 simp(disch:=omega)only[go_sem,seval,wqq,va,zaj,zac,zmz]
set_option maxHeartbeats 8000000 in
theorem zoo {c:Nat→Int} (hc:okC c) {U:Nat→FQ}:pf E0 409 [aI 20 c,fqP (U 0),fqP (U 1),fqP (U 2)]=some (.tu [fqP (evR c U),.i .i64 (evE c U)]):=by
 have va:=zaD c
 have:vlC c=0:=if_pos hc
 rw[this] at va
 refine zaa (xf:=zyY) rfl (by simp[zyY]) ?_
 simp only[zyY]
 simp(disch:=omega)only[go_sem,seval,wqq,va,zaj,zac]
 refine zag zAY.eq_1 (fun(j:Nat) fr M=>j≤3∧(∀e,e<j→fwD (U e))∧fr 4=.p 0 0∧fr 8=.p 4 0∧fr 11=.p 5 0∧fr 30=.ag (cg 3 fun e=>qc (U e))∧fr 31=(PV.i .i64 ((j:Nat):Int))∧∃b1 b2 b3 v G,M=some ⟨cs 20 c,true,0⟩::b1::b2::b3::some ⟨[.b false,.nl,.b false,.nl],true,0⟩::some ⟨cg 3 fun e=>qc (U e),true,v⟩::G) (fun j=>3-j) ?_ 0 ⟨by omega,fun e he=>by omega,by simp only[go_sem,seval],by simp only[go_sem,seval],by simp only[go_sem,seval],by simp only[go_sem,seval];rfl,by simp only[go_sem,seval],_,_,_,_,[],rfl⟩
 rintro j fr M ⟨hj,hlo,f4,f8,f11,f30,f31,b1,b2,b3,v,G,rfl⟩ ih
 rcases Nat.lt_or_ge j 3 with h|h
 ·have q1:((j:Int)<3)=True:=eq_true (by omega)
  have qL:(j<3)=True:=eq_true h
  have cx:=zdH (k:=4) (f:=fun e=>qc (U e)) (fun _=>rfl) h
  have cl:(cg 3 fun e=>qc (U e)).length=12:=zcr (k:=4) (fun _=>rfl) 3
  have dg:=zjV (U j)
  simp(disch:=omega)only[go_sem,seval,wqq,f4,f8,f11,f30,f31,q1,qL,cx,cl,zpv,zmW,zgL,zhV,dg,mG,mG0,sG,sG0,lG,lqq]
  by_cases hw:fwD (U j)
  ·have t1:(1000<((max (nbits (U j).p.v.natAbs) (nbits (U j).q.v.natAbs):Nat):Int))=False:=eq_false (by unfold fwD at hw;omega)
   simp(disch:=omega)only[go_sem,seval,wqq,f4,f8,f11,f30,f31,t1,mG,mG0,sG,sG0,lG,lqq]
   refine ih (j+1) _ _ (by omega) ⟨by omega,fun e he=>?_,by simp only[go_sem,seval,f4],by simp only[go_sem,seval,f8],by simp only[go_sem,seval,f11],by simp only[go_sem,seval,f30],by simp only[go_sem,seval,f31];rw[Int.natCast_succ],_,_,_,_,_,rfl⟩
   rcases Nat.lt_or_ge e j with z|z
   ·exact hlo e z
   ·obtain rfl:e=j:=by omega
    exact hw
  ·have t1:(1000<((max (nbits (U j).p.v.natAbs) (nbits (U j).q.v.natAbs):Nat):Int))=True:=eq_true (by unfold fwD at hw;omega)
   have e1:evE c U=4:=by unfold evE;rw[if_pos hc,if_neg fun q=>hw (q j h)]
   have e2:evR c U=fq0:=by unfold evR;rw[e1];rfl
   rw[e1,e2]
   simp(disch:=omega)only[go_sem,seval,wqq,f4,f8,f11,f30,f31,t1,zaj,zac,zmz,mG,mG0,sG,sG0,lG,lqq]
 ·obtain rfl:j=3:=by omega
  have e1:evE c U=0:=by unfold evE;rw[if_pos hc,if_pos hlo]
  have e2:evR c U=sF c U 20:=by unfold evR;rw[e1];rfl
  rw[e1,e2]
  clear ih e1 e2 hlo va
  simp(disch:=omega)only[go_sem,seval,wqq,f4,f8,f11,f30,f31,zaj,zac,mG,mG0,sG,sG0,lG,lqq]
  refine zag zA2.eq_1 (fun(i:Nat) fr M=>i≤20∧fr 8=.p 4 0∧fr 11=.p 5 0∧fr 14=.p (G.length+6) 0∧fr 40=aI 20 c∧fr 41=(PV.i .i64 ((i:Nat):Int))∧∃b0 b1 b2 b3 v vs H L,QZ L (sF c U i)∧M=b0::b1::b2::b3::some ⟨[.b false,.nl,.b false,.nl],true,0⟩::some ⟨cg 3 fun e=>qc (U e),true,v⟩::(G++some ⟨L,true,vs⟩::H)) (fun i=>20-i) ?_ 0 ⟨by omega,by simp only[go_sem,seval,f8],by simp only[go_sem,seval,f11],by simp only[go_sem,seval],by simp only[go_sem,seval],by simp only[go_sem,seval],_,_,_,_,_,_,[],_,qz0,rfl⟩
  rintro i fr M ⟨hi,f8,f11,f14,f40,f41,b0,b1,b2,b3,v,vs,H,L,qz,rfl⟩ ih
  have z1:=qz.len
  have z2:=qz.sc
  have z3:=qz.fz
  have z4:=qz.tk
  have z5:=qz.spl
  rcases Nat.lt_or_ge i 20 with h|h
  ·have q1:((i:Int)<20)=True:=eq_true (by omega)
   have qL:(i<20)=True:=eq_true h
   have ix:=zdD c h
   by_cases c0:c i=0
   ·have c0':(c i=0)=True:=eq_true c0
    have hs:sF c U (i+1)=sF c U i:=if_pos c0
    simp(disch:=omega)only[go_sem,seval,wqq,f8,f11,f14,f40,f41,q1,qL,ix,c0',mG,mG0,sG,sG0,lG,lqq]
    exact ih (i+1) _ _ (by omega) ⟨by omega,by simp only[go_sem,seval,f8],by simp only[go_sem,seval,f11],by simp only[go_sem,seval,f14],by simp only[go_sem,seval,f40],by simp only[go_sem,seval,f41];rw[Int.natCast_succ],_,_,_,_,_,_,_,_,hs ▸ qz,rfl⟩
   ·have c0':(c i=0)=False:=eq_false c0
    have hs:sF c U (i+1)=aF (sF c U i) (tF U (whQ (c i)) (facL i)):=if_neg c0
    have ck:Fits64 (c i):=by have:=hc i h;unfold Fits64;omega
    have k1:=zdZ ck
    have rw3:=zek (n:=60) mE (off:=i*3) (k:=3) (by omega)
    have rl:(3≤((cs 60 mE).drop (i*3)).length)=True:=eq_true (by rw[List.length_drop,zct];omega)
    simp(disch:=omega)only[go_sem,seval,wqq,f8,f11,f14,f40,f41,q1,qL,ix,c0',k1,zk3,rw3,rl,zmW,mG,mG0,sG,sG0,lG,lqq]
    refine zag zA3.eq_1 (fun(j:Nat) fr M=>j≤3∧fr 8=.p 4 0∧fr 11=.p 5 0∧fr 14=.p (G.length+6) 0∧fr 17=.p (G.length+(H.length+1)+6) 0∧fr 40=aI 20 c∧fr 41=(PV.i .i64 ((i:Nat):Int))∧fr 51=aI 3 (fun e=>mE (i*3+e))∧fr 52=(PV.i .i64 ((j:Nat):Int))∧∃b0 b1 b2 b3 v vs vt,M=b0::b1::b2::b3::some ⟨[.b false,.nl,.b false,.nl],true,0⟩::some ⟨cg 3 fun e=>qc (U e),true,v⟩::(G++some ⟨L,true,vs⟩::(H++[some ⟨qc (tF U (whQ (c i)) (preL i j)),true,vt⟩]))) (fun j=>3-j) ?_ 0 ⟨by omega,by simp only[go_sem,seval,f8],by simp only[go_sem,seval,f11],by simp only[go_sem,seval,f14],by simp only[go_sem,seval],by simp only[go_sem,seval,f40],by simp only[go_sem,seval,f41],by simp only[go_sem,seval],by simp only[go_sem,seval],_,_,_,_,_,_,_,rfl⟩
    rintro j fr M ⟨hj,f8,f11,f14,f17,f40,f41,f51,f52,b0,b1,b2,b3,v,vs,vt,rfl⟩ ih2
    rcases Nat.lt_or_ge j 3 with h3|h3
    ·have q2:((j:Int)<3)=True:=eq_true (by omega)
     have qJ:(j<3)=True:=eq_true h3
     have iy:=zdD (fun e=>mE (i*3+e)) h3
     obtain⟨e1,e2⟩:=za1 i h j h3
     rw[e1] at iy
     simp(disch:=omega)only[go_sem,seval,wqq,f8,f11,f14,f17,f40,f41,f51,f52,q2,qJ,iy,mG,mG0,sG,sG0,lG,lqq]
     refine zag zAZ.eq_1 (fun(k:Nat) fr M=>k≤exN i j∧fr 8=.p 4 0∧fr 11=.p 5 0∧fr 14=.p (G.length+6) 0∧fr 17=.p (G.length+(H.length+1)+6) 0∧fr 40=aI 20 c∧fr 41=(PV.i .i64 ((i:Nat):Int))∧fr 51=aI 3 (fun e=>mE (i*3+e))∧fr 52=(PV.i .i64 ((j:Nat):Int))∧fr 18=(PV.i .i64 ((j:Nat):Int))∧fr 56=(PV.i .i64 ((exN i j:Nat):Int))∧fr 57=(PV.i .i64 ((k:Nat):Int))∧∃b0 b1 b2 b3 v vs vt,M=b0::b1::b2::b3::some ⟨[.b false,.nl,.b false,.nl],true,0⟩::some ⟨cg 3 fun e=>qc (U e),true,v⟩::(G++some ⟨L,true,vs⟩::(H++[some ⟨qc (tF U (whQ (c i)) (preL i j++List.replicate k (j:Int))),true,vt⟩]))) (fun k=>exN i j-k) ?_ 0 ⟨by omega,by simp only[go_sem,seval,f8],by simp only[go_sem,seval,f11],by simp only[go_sem,seval,f14],by simp only[go_sem,seval,f17],by simp only[go_sem,seval,f40],by simp only[go_sem,seval,f41],by simp only[go_sem,seval,f51],by simp only[go_sem,seval,f52],by simp only[go_sem,seval],by simp only[go_sem,seval],by simp only[go_sem,seval],_,_,_,_,_,_,_,by rw[List.replicate_zero,List.append_nil]⟩
     rintro k fr M ⟨hk,f8,f11,f14,f17,f40,f41,f51,f52,f18,f56,f57,b0,b1,b2,b3,v,vs,vt,rfl⟩ ih3
     rcases Nat.lt_or_ge k (exN i j) with h4|h4
     ·have q3:((k:Int)<(exN i j:Int))=True:=eq_true (by omega)
      have cx:=zdH (k:=4) (f:=fun e=>qc (U e)) (fun _=>rfl) h3
      have cl:(j*4+4≤(cg 3 fun e=>qc (U e)).length)=True:=eq_true (by rw[zcr (k:=4) (fun _=>rfl)];exact zk0 h3)
      have st:=zpf U (whQ (c i)) i j k
      have pm:=zwi (tF U (whQ (c i)) (preL i j++List.replicate k (j:Int))) (U j)
      simp(disch:=omega)only[go_sem,seval,wqq,f8,f11,f14,f17,f40,f41,f51,f52,f18,f56,f57,q3,qJ,cx,cl,pm,zpv,zgL,zhV,zoZ,mG,mG0,sG,sG0,lG,lqq]
      exact ih3 (k+1) _ _ (by omega) ⟨by omega,by simp only[go_sem,seval,f8],by simp only[go_sem,seval,f11],by simp only[go_sem,seval,f14],by simp only[go_sem,seval,f17],by simp only[go_sem,seval,f40],by simp only[go_sem,seval,f41],by simp only[go_sem,seval,f51],by simp only[go_sem,seval,f52],by simp only[go_sem,seval,f18],by simp only[go_sem,seval,f56],by simp only[go_sem,seval,f57];rw[Int.natCast_succ],_,_,_,_,_,_,_,by rw[st]⟩
     ·obtain rfl:k=exN i j:=by omega
      have q3:((exN i j:Int)<(exN i j:Int))=False:=eq_false (Int.lt_irrefl _)
      simp(disch:=omega)only[go_sem,seval,wqq,f8,f11,f14,f17,f40,f41,f51,f52,f18,f56,f57,q3,mG,mG0,sG,sG0,lG,lqq]
      exact ih2 (j+1) _ _ (by omega) ⟨by omega,by simp only[go_sem,seval,f8],by simp only[go_sem,seval,f11],by simp only[go_sem,seval,f14],by simp only[go_sem,seval,f17],by simp only[go_sem,seval,f40],by simp only[go_sem,seval,f41],by simp only[go_sem,seval,f51],by simp only[go_sem,seval,f52];rw[Int.natCast_succ],_,_,_,_,_,_,_,by rw[zd3]⟩
    ·obtain rfl:j=3:=by omega
     rw[zhQ i h]
     generalize tF U (whQ (c i)) (facL i)=t at *
     have pa:=zwh (sF c U i) t
     generalize sF c U i=s at *
     simp(disch:=omega)only[go_sem,seval,wqq,f8,f11,f14,f17,f40,f41,f51,f52,z1,z2,z3,z4,z5,pa,zpv,zgL,zhV,mG,mG0,sG,sG0,lG,lqq]
     refine ih (i+1) _ _ (by omega) ⟨by omega,by simp only[go_sem,seval,f8],by simp only[go_sem,seval,f11],by simp only[go_sem,seval,f14],by simp only[go_sem,seval,f40],by simp only[go_sem,seval,f41];rw[Int.natCast_succ],_,_,_,_,_,_,_,_,hs ▸ qzs _,rfl⟩
  ·obtain rfl:i=20:=by omega
   have sp:=zw5 (.b false) .nl (.b false) .nl L z1
   simp(disch:=omega)only[go_sem,seval,wqq,f8,f11,f14,f40,f41,z1,z2,z3,z4,z5,sp,zpv,mG,mG0,sG,sG0,lG,lqq]
end Go.Eng
namespace Go.Eng
noncomputable def vc (x:IV):List PV:=[.b (decide (x.lo.v<0)),D x.lo.v.natAbs,.b (decide (x.hi.v<0)),D x.hi.v.natAbs]
theorem zpm (x:IV):PV.ag (vc x)=ivP x:=_root_.id rfl
theorem zd7 (x:IV):(vc x).length=4:=_root_.id rfl
theorem zfp (x:IV):(vc x).take 4=vc x:=_root_.id rfl
theorem zrY (a b c d:PV) (x:IV):psplice [a,b,c,d] 0 [.b (decide (x.lo.v<0)),D x.lo.v.natAbs,.b (decide (x.hi.v<0)),D x.hi.v.natAbs]=vc x:=_root_.id rfl
theorem zgP (y x:IV):psplice (vc y) 0 [.b (decide (x.lo.v<0)),D x.lo.v.natAbs,.b (decide (x.hi.v<0)),D x.hi.v.natAbs]=vc x:=_root_.id rfl
structure VZ (L:List PV) (x:IV):Prop where
 len:L.length=4
 sc:L.all PV.scal=true
 fz:∀(M:PM) (d:Nat),fzL (fz M (d+1)) L=some (vc x,[])
theorem VZ.tk {L:List PV} {s:IV} (h:VZ L s):L.take 4=L:=List.take_of_length_le (by rw[h.len];omega)
theorem VZ.spl {L:List PV} {s:IV} (h:VZ L s) (f:IV):psplice L 0 [.b (decide (f.lo.v<0)),D f.lo.v.natAbs,.b (decide (f.hi.v<0)),D f.hi.v.natAbs]=vc f:=by
 unfold psplice
 rw[List.take_zero,List.drop_eq_nil_of_le (by rw[h.len];exact Nat.le_refl _),List.nil_append,List.append_nil];rfl
theorem VZ.spl2 {L:List PV} {s:IV} (h:VZ L s) (f:IV):psplice L 0 (vc f)=vc f:=h.spl f
theorem vz0:VZ [.b false,.nl,.b false,.nl] ivZ:=⟨rfl,rfl,fun _ _=>rfl⟩
theorem vzs (f:IV):VZ (vc f) f:=⟨rfl,rfl,fun _ _=>rfl⟩
def enT (U:Nat→IV) (r:IV×Int) (l:List Int):IV×Int:=l.foldl (fun r a=>if r.2=0 then ivMul r.1 (U a.toNat) else r) r
theorem zlb (U:Nat→IV) (t:IV×Int) (i j k:Nat):enT U t (preL i j++List.replicate (k+1) (j:Int))=(if (enT U t (preL i j++List.replicate k (j:Int))).2=0 then ivMul (enT U t (preL i j++List.replicate k (j:Int))).1 (U j) else enT U t (preL i j++List.replicate k (j:Int))):=by
 unfold enT
 rw[List.replicate_succ',←List.append_assoc,List.foldl_append];rfl
noncomputable def enX (c:Nat→Int) (U:Nat→IV) (i:Nat) (s:IV) (b:Bool):IV×Int :=
 if b=false∧(enT U (mkI (whQ (c i)) (whQ (c i))) (facL i)).2=0 then ivAdd s (enT U (mkI (whQ (c i)) (whQ (c i))) (facL i)).1 else enT U (mkI (whQ (c i)) (whQ (c i))) (facL i)
noncomputable def enS (c:Nat→Int) (U:Nat→IV):Nat→IV×Bool×Int
 | 0=>(ivZ,true,0)
 | i+1=>if (enS c U i).2.2≠0 then enS c U i else if c i=0 then enS c U i else
  if (enX c U i (enS c U i).1 (enS c U i).2.1).2=0 then ((enX c U i (enS c U i).1 (enS c U i).2.1).1,false,0) else (ivZ,true,(enX c U i (enS c U i).1 (enS c U i).2.1).2)
theorem zi3 {c:Nat→Int} {U:Nat→IV} {i:Nat} (h:(enS c U i).2.2≠0):∀k,enS c U (i+k)=enS c U i
 | 0=>rfl
 | k+1=>by
  have ih:=zi3 h k
  show enS c U (i+k+1)=_
  rw[enS,ih,if_pos h]
open Classical in
noncomputable def enR (c:Nat→Int) (U:Nat→IV):IV×Int:=if okC c then ((enS c U 20).1,(enS c U 20).2.2) else (ivZ,1)
theorem zq4 {c:Nat→Int} (h:¬okC c) (u v w:IV):pf E0 412 [aI 20 c,ivP u,ivP v,ivP w]=some (.tu [ivP ivZ,.i .i64 1]):=by
 have va:=zaD c
 have:vlC c=1:=if_neg h
 rw[this] at va
 refine zaa (xf:=zyF) rfl (by simp[zyF]) ?_
 simp only[zyF]
 simp(disch:=omega)only[go_sem,seval,wqq,va,zaj,zac,znW]
set_option maxHeartbeats 8000000 in
theorem zq5 {c:Nat→Int} (hc:okC c) {U:Nat→IV}:pf E0 412 [aI 20 c,ivP (U 0),ivP (U 1),ivP (U 2)]=some (.tu [ivP (enS c U 20).1,.i .i64 (enS c U 20).2.2]):=by
 have va:=zaD c
 have:vlC c=0:=if_pos hc
 rw[this] at va
 refine zaa (xf:=zyF) rfl (by simp[zyF]) ?_
 simp only[zyF]
 simp(disch:=omega)only[go_sem,seval,wqq,va,zaj,zac]
 refine zag zAC.eq_1 (fun(i:Nat) fr M=>i≤20∧(enS c U i).2.2=0∧fr 8=.p 4 0∧fr 11=.p 5 0∧fr 12=.p 6 0∧fr 13=.b (enS c U i).2.1∧fr 31=aI 20 c∧fr 32=(PV.i .i64 ((i:Nat):Int))∧∃b0 b1 b2 b3 v vs H L,VZ L (enS c U i).1∧M=b0::b1::b2::b3::some ⟨[.b false,.nl,.b false,.nl],true,0⟩::some ⟨cg 3 fun e=>vc (U e),true,v⟩::some ⟨L,true,vs⟩::H) (fun i=>20-i) ?_ 0 ⟨by omega,rfl,by simp only[go_sem,seval],by simp only[go_sem,seval],by simp only[go_sem,seval],by simp only[go_sem,seval];rfl,by simp only[go_sem,seval],by simp only[go_sem,seval],_,_,_,_,_,_,[],_,vz0,rfl⟩
 rintro i fr M ⟨hi,e0,f8,f11,f12,f13,f31,f32,b0,b1,b2,b3,v,vs,H,L,vz,rfl⟩ ih
 have z1:=vz.len
 have z2:=vz.sc
 have z3:=vz.fz
 have z4:=vz.tk
 have z5:=vz.spl
 have z6:=vz.spl2
 rcases Nat.lt_or_ge i 20 with h|h
 ·have q1:((i:Int)<20)=True:=eq_true (by omega)
  have qL:(i<20)=True:=eq_true h
  have ix:=zdD c h
  by_cases c0:c i=0
  ·have c0':(c i=0)=True:=eq_true c0
   have hs:enS c U (i+1)=enS c U i:=by rw[enS,if_neg (by rw[e0];simp),if_pos c0]
   simp(disch:=omega)only[go_sem,seval,wqq,f8,f11,f12,f13,f31,f32,q1,qL,ix,c0',mG,mG0,sG,sG0,lG,lqq]
   exact ih (i+1) _ _ (by omega) ⟨by omega,by rw[hs];exact e0,by simp only[go_sem,seval,f8],by simp only[go_sem,seval,f11],by simp only[go_sem,seval,f12],by simp only[go_sem,seval,f13];rw[hs],by simp only[go_sem,seval,f31],by simp only[go_sem,seval,f32];rw[Int.natCast_succ],_,_,_,_,_,_,_,_,hs ▸ vz,rfl⟩
  ·have c0':(c i=0)=False:=eq_false c0
   have ck:Fits64 (c i):=by have:=hc i h;unfold Fits64;omega
   have k1:=zdZ ck
   have k2:=zri (whQ (c i))
   have rw3:=zek (n:=60) mE (off:=i*3) (k:=3) (by omega)
   have rl:(3≤((cs 60 mE).drop (i*3)).length)=True:=eq_true (by rw[List.length_drop,zct];omega)
   have hs:enS c U (i+1)=if (enX c U i (enS c U i).1 (enS c U i).2.1).2=0 then ((enX c U i (enS c U i).1 (enS c U i).2.1).1,false,0) else (ivZ,true,(enX c U i (enS c U i).1 (enS c U i).2.1).2):=by rw[enS,if_neg (by rw[e0];simp),if_neg c0]
   have hx:enX c U i (enS c U i).1 (enS c U i).2.1=if (enS c U i).2.1=false∧(enT U (mkI (whQ (c i)) (whQ (c i))) (facL i)).2=0 then ivAdd (enS c U i).1 (enT U (mkI (whQ (c i)) (whQ (c i))) (facL i)).1 else enT U (mkI (whQ (c i)) (whQ (c i))) (facL i):=rfl
   generalize hr0:mkI (whQ (c i)) (whQ (c i))=r0 at *
   simp(disch:=omega)only[go_sem,seval,wqq,f8,f11,f12,f13,f31,f32,q1,qL,ix,c0',k1,k2,zk3,rw3,rl,zrY,mG,mG0,sG,sG0,lG,lqq]
   refine zag zAA.eq_1 (fun(j:Nat) fr M=>j≤3∧fr 8=.p 4 0∧fr 11=.p 5 0∧fr 12=.p 6 0∧fr 13=.b (enS c U i).2.1∧fr 16=.p (H.length+7) 0∧fr 17=.i .i64 (enT U r0 (preL i j)).2∧fr 31=aI 20 c∧fr 32=(PV.i .i64 ((i:Nat):Int))∧fr 46=aI 3 (fun e=>mE (i*3+e))∧fr 47=(PV.i .i64 ((j:Nat):Int))∧∃b0 b1 b2 b3 v vs vt,M=b0::b1::b2::b3::some ⟨[.b false,.nl,.b false,.nl],true,0⟩::some ⟨cg 3 fun e=>vc (U e),true,v⟩::some ⟨L,true,vs⟩::(H++[some ⟨vc (enT U r0 (preL i j)).1,true,vt⟩])) (fun j=>3-j) ?_ 0 ⟨by omega,by simp only[go_sem,seval,f8],by simp only[go_sem,seval,f11],by simp only[go_sem,seval,f12],by simp only[go_sem,seval,f13],by simp only[go_sem,seval],by simp only[go_sem,seval];rfl,by simp only[go_sem,seval,f31],by simp only[go_sem,seval,f32],by simp only[go_sem,seval],by simp only[go_sem,seval],_,_,_,_,_,_,_,rfl⟩
   rintro j fr M ⟨hj,f8,f11,f12,f13,f16,f17,f31,f32,f46,f47,b0,b1,b2,b3,v,vs,vt,rfl⟩ ih2
   rcases Nat.lt_or_ge j 3 with h3|h3
   ·have q2:((j:Int)<3)=True:=eq_true (by omega)
    have qJ:(j<3)=True:=eq_true h3
    have iy:=zdD (fun e=>mE (i*3+e)) h3
    obtain⟨e1,e2⟩:=za1 i h j h3
    rw[e1] at iy
    simp(disch:=omega)only[go_sem,seval,wqq,f8,f11,f12,f13,f16,f17,f31,f32,f46,f47,q2,qJ,iy,mG,mG0,sG,sG0,lG,lqq]
    refine zag zAD.eq_1 (fun(k:Nat) fr M=>k≤exN i j∧fr 8=.p 4 0∧fr 11=.p 5 0∧fr 12=.p 6 0∧fr 13=.b (enS c U i).2.1∧fr 16=.p (H.length+7) 0∧fr 17=.i .i64 (enT U r0 (preL i j++List.replicate k (j:Int))).2∧fr 31=aI 20 c∧fr 32=(PV.i .i64 ((i:Nat):Int))∧fr 46=aI 3 (fun e=>mE (i*3+e))∧fr 47=(PV.i .i64 ((j:Nat):Int))∧fr 18=(PV.i .i64 ((j:Nat):Int))∧fr 51=(PV.i .i64 ((exN i j:Nat):Int))∧fr 52=(PV.i .i64 ((k:Nat):Int))∧∃b0 b1 b2 b3 v vs vt,M=b0::b1::b2::b3::some ⟨[.b false,.nl,.b false,.nl],true,0⟩::some ⟨cg 3 fun e=>vc (U e),true,v⟩::some ⟨L,true,vs⟩::(H++[some ⟨vc (enT U r0 (preL i j++List.replicate k (j:Int))).1,true,vt⟩])) (fun k=>exN i j-k) ?_ 0 ⟨by omega,by simp only[go_sem,seval,f8],by simp only[go_sem,seval,f11],by simp only[go_sem,seval,f12],by simp only[go_sem,seval,f13],by simp only[go_sem,seval,f16],by rw[List.replicate_zero,List.append_nil];simp only[go_sem,seval,f17],by simp only[go_sem,seval,f31],by simp only[go_sem,seval,f32],by simp only[go_sem,seval,f46],by simp only[go_sem,seval,f47],by simp only[go_sem,seval],by simp only[go_sem,seval],by simp only[go_sem,seval],_,_,_,_,_,_,_,by rw[List.replicate_zero,List.append_nil]⟩
    rintro k fr M ⟨hk,f8,f11,f12,f13,f16,f17,f31,f32,f46,f47,f18,f51,f52,b0,b1,b2,b3,v,vs,vt,rfl⟩ ih3
    rcases Nat.lt_or_ge k (exN i j) with h4|h4
    ·have q3:((k:Int)<(exN i j:Int))=True:=eq_true (by omega)
     have cx:=zdH (k:=4) (f:=fun e=>vc (U e)) (fun _=>rfl) h3
     have cl:(j*4+4≤(cg 3 fun e=>vc (U e)).length)=True:=eq_true (by rw[zcr (k:=4) (fun _=>rfl)];exact zk0 h3)
     have st:=zlb U r0 i j k
     have pm:=zoH (enT U r0 (preL i j++List.replicate k (j:Int))).1 (U j)
     generalize hT:enT U r0 (preL i j++List.replicate k (j:Int))=tt at *
     generalize hT':enT U r0 (preL i j++List.replicate (k+1) (j:Int))=tn at *
     by_cases he:tt.2=0
     ·rw[if_pos he] at st
      have he':(tt.2=0)=True:=eq_true he
      obtain⟨mm,hm⟩:∃mm,mm=ivMul tt.1 (U j):=⟨_,rfl⟩
      rw[←hm] at pm st
      rw[st] at hT'
      simp(disch:=omega)only[go_sem,seval,wqq,f8,f11,f12,f13,f16,f17,f31,f32,f46,f47,f18,f51,f52,q3,qJ,cx,cl,pm,he',zpm,zfp,zd7,zgP,mG,mG0,sG,sG0,lG,lqq]
      exact ih3 (k+1) _ _ (by omega) ⟨by omega,by simp only[go_sem,seval,f8],by simp only[go_sem,seval,f11],by simp only[go_sem,seval,f12],by simp only[go_sem,seval,f13],by simp only[go_sem,seval,f16],by rw[hT'];simp only[go_sem,seval],by simp only[go_sem,seval,f31],by simp only[go_sem,seval,f32],by simp only[go_sem,seval,f46],by simp only[go_sem,seval,f47],by simp only[go_sem,seval,f18],by simp only[go_sem,seval,f51],by simp only[go_sem,seval,f52];rw[Int.natCast_succ],_,_,_,_,_,_,_,by rw[hT']⟩
     ·rw[if_neg he] at st
      rw[st] at hT'
      have he':(tt.2=0)=False:=eq_false he
      simp(disch:=omega)only[go_sem,seval,wqq,f8,f11,f12,f13,f16,f17,f31,f32,f46,f47,f18,f51,f52,q3,he',mG,mG0,sG,sG0,lG,lqq]
      exact ih3 (k+1) _ _ (by omega) ⟨by omega,by simp only[go_sem,seval,f8],by simp only[go_sem,seval,f11],by simp only[go_sem,seval,f12],by simp only[go_sem,seval,f13],by simp only[go_sem,seval,f16],by rw[hT'];simp only[go_sem,seval,f17],by simp only[go_sem,seval,f31],by simp only[go_sem,seval,f32],by simp only[go_sem,seval,f46],by simp only[go_sem,seval,f47],by simp only[go_sem,seval,f18],by simp only[go_sem,seval,f51],by simp only[go_sem,seval,f52];rw[Int.natCast_succ],_,_,_,_,_,_,_,by rw[hT']⟩
    ·obtain rfl:k=exN i j:=by omega
     have q3:((exN i j:Int)<(exN i j:Int))=False:=eq_false (Int.lt_irrefl _)
     simp(disch:=omega)only[go_sem,seval,wqq,f8,f11,f12,f13,f16,f17,f31,f32,f46,f47,f18,f51,f52,q3,mG,mG0,sG,sG0,lG,lqq]
     exact ih2 (j+1) _ _ (by omega) ⟨by omega,by simp only[go_sem,seval,f8],by simp only[go_sem,seval,f11],by simp only[go_sem,seval,f12],by simp only[go_sem,seval,f13],by simp only[go_sem,seval,f16],by rw[zd3];simp only[go_sem,seval,f17],by simp only[go_sem,seval,f31],by simp only[go_sem,seval,f32],by simp only[go_sem,seval,f46],by simp only[go_sem,seval,f47];rw[Int.natCast_succ],_,_,_,_,_,_,_,by rw[zd3]⟩
   ·obtain rfl:j=3:=by omega
    rw[zhQ i h] at f17 ⊢
    clear ih2
    have er:∀e:Int,e≠0→enS c U (i+1)=(ivZ,true,e)→enS c U 20=(ivZ,true,e):=fun e he hq=>by
     have:=zi3 (c:=c) (U:=U) (i:=i+1) (by rw[hq];exact he) (19-i)
     rw[show i+1+(19-i)=20 by omega,hq] at this
     exact this
    generalize hT:enT U r0 (facL i)=t at *
    have pa:=zoG (enS c U i).1 t.1
    rw[hx] at hs
    generalize hS:enS c U i=st at *
    obtain⟨s,b,e⟩:=st
    simp only at f13 hs z3 z5 pa vz
    cases b with
    | true =>
     simp only[Bool.true_eq_false,false_and,if_false] at hs
     by_cases he:t.2=0
     ·rw[if_pos he] at hs
      have he':(t.2=0)=True:=eq_true he
      simp(disch:=omega)only[go_sem,seval,wqq,f8,f11,f12,f13,f16,f17,f31,f32,f46,f47,he',z1,z2,z3,z4,z5,z6,zpm,zfp,zd7,mG,mG0,sG,sG0,lG,lqq]
      refine ih (i+1) _ _ (by omega) ⟨by omega,by rw[hs],by simp only[go_sem,seval,f8],by simp only[go_sem,seval,f11],by simp only[go_sem,seval,f12],by simp only[go_sem,seval];rw[hs],by simp only[go_sem,seval,f31],by simp only[go_sem,seval,f32];rw[Int.natCast_succ],_,_,_,_,_,_,_,_,by rw[hs];exact vzs _,rfl⟩
     ·rw[if_neg he] at hs
      have he':(t.2=0)=False:=eq_false he
      have h20:=er _ he hs
      rw[h20]
      simp(disch:=omega)only[go_sem,seval,wqq,f8,f11,f12,f13,f16,f17,f31,f32,f46,f47,he',zaj,zac,znW,mG,mG0,sG,sG0,lG,lqq]
    | false =>
     by_cases he:t.2=0
     ·have he':(t.2=0)=True:=eq_true he
      simp only[he,and_self,if_true] at hs
      generalize ivAdd s t.1=aa at *
      by_cases ha:aa.2=0
      ·rw[if_pos ha] at hs
       have ha':(aa.2=0)=True:=eq_true ha
       simp(disch:=omega)only[go_sem,seval,wqq,f8,f11,f12,f13,f16,f17,f31,f32,f46,f47,he',z1,z2,z3,z4,z5,z6,pa,ha',zpm,zfp,zd7,zgP,mG,mG0,sG,sG0,lG,lqq]
       refine ih (i+1) _ _ (by omega) ⟨by omega,by rw[hs],by simp only[go_sem,seval,f8],by simp only[go_sem,seval,f11],by simp only[go_sem,seval,f12],by simp only[go_sem,seval];rw[hs],by simp only[go_sem,seval,f31],by simp only[go_sem,seval,f32];rw[Int.natCast_succ],_,_,_,_,_,_,_,_,by rw[hs];exact vzs _,rfl⟩
      ·rw[if_neg ha] at hs
       have ha':(aa.2=0)=False:=eq_false ha
       have h20:=er _ ha hs
       rw[h20]
       simp(disch:=omega)only[go_sem,seval,wqq,f8,f11,f12,f13,f16,f17,f31,f32,f46,f47,he',z1,z2,z3,z4,z5,z6,pa,ha',zpm,zfp,zd7,zgP,zaj,zac,znW,mG,mG0,sG,sG0,lG,lqq]
     ·have he':(t.2=0)=False:=eq_false he
      simp only[he,and_false,if_false] at hs
      have h20:=er _ he hs
      rw[h20]
      simp(disch:=omega)only[go_sem,seval,wqq,f8,f11,f12,f13,f16,f17,f31,f32,f46,f47,he',zaj,zac,znW,mG,mG0,sG,sG0,lG,lqq]
 ·obtain rfl:i=20:=by omega
  have sp:=zw5 (.b false) .nl (.b false) .nl L z1
  rw[e0]
  generalize (enS c U 20).1=s at *
  simp(disch:=omega)only[go_sem,seval,wqq,f8,f11,f12,f13,f31,f32,z1,z2,z3,z4,z5,sp,zpm,mG,mG0,sG,sG0,lG,lqq]
theorem zfU {c:Nat→Int} {U:Nat→IV}:pf E0 412 [aI 20 c,ivP (U 0),ivP (U 1),ivP (U 2)]=some (.tu [ivP (enR c U).1,.i .i64 (enR c U).2]):=by
 unfold enR
 by_cases hc:okC c
 ·rw[if_pos hc];exact zq5 hc
 ·rw[if_neg hc];exact zq4 hc _ _ _
end Go.Eng
namespace Go.Eng
noncomputable def rc (x:IV):List PV:=[.b (decide (x.lo.v<0)),T x.lo.v.natAbs,.b (decide (x.hi.v<0)),T x.hi.v.natAbs]
theorem zmX (x:IV):(rc x).length=4:=_root_.id rfl
end Go.Eng
namespace Go.Eng
theorem zjW {c:Nat→Int} {U:Nat→FQ}:pf E0 409 [aI 20 c,fqP (U 0),fqP (U 1),fqP (U 2)]=some (.tu [fqP (evR c U),.i .i64 (evE c U)]):=by
 by_cases hc:okC c
 ·exact zoo hc
 ·have e1:evE c U=1:=if_neg hc
  have e2:evR c U=fq0:=by unfold evR;rw[e1];rfl
  rw[e1,e2]
  exact zon hc _ _ _
theorem zqv {f:FQ} {n d:Int} {k:Nat} (h:f.is n d) (hd:d≠0) (hn:tlen n.natAbs≤k) (hl:tlen d.natAbs≤k) (hk:k<1230):fsz k f:=by
 obtain⟨g,g1,g2,g3⟩:=zjw hd hn hl hk
 obtain rfl:f=g:=znT hd hd h (zeo hd g1 g2) rfl
 exact g3
theorem zjr {f:FQ} {n d k:Int} (hk:k≠0) (h:f.is (n*k) (d*k)):f.is n d:=by
 have h:f.p.v*(d*k)=n*k*f.q.v:=h
 show f.p.v*d=n*f.q.v
 refine Int.eq_of_mul_eq_mul_right hk ?_
 rw[Int.mul_assoc,h]
 grind
def pP (U:Nat→FQ):Nat→Int:=fun j=>(U j).p.v
def qQ (U:Nat→FQ):Nat→Int:=fun j=>(U j).q.v
theorem zrN {U:Nat→FQ} {n:Nat} (hU:∀j,j<3→fsz n (U j)):∀(l:List Int) (t:FQ) (x d:Int) (m:Nat),(∀a∈l,a=0∨a=1∨a=2)→t.is x d→fsz m t→m+n*l.length<1230 →
  (tF U t l).is (x*prL (pP U) l) (d*prL (qQ U) l)∧fsz (m+n*l.length) (tF U t l)
 | [],t,x,d,m,_,h1,h2,_=>by
  show t.is (x*1) (d*1)∧fsz (m+n*0) t
  rw[Int.mul_one,Int.mul_one]
  exact⟨h1,h2⟩
 | a::l,t,x,d,m,ha,h1,h2,h3=>by
  have ej:a.toNat<3:=by rcases ha a List.mem_cons_self with rfl|rfl|rfl<;>decide
  rw[List.length_cons,Nat.mul_succ] at h3
  obtain⟨i1,i2,_⟩:=ztW t (U a.toNat) h2 (hU _ ej) (by omega) h1 (zeW _)
  obtain⟨k1,k2⟩:=zrN hU l (mF t (U a.toNat)) _ _ (m+n) (fun b hb=>ha b (List.mem_cons_of_mem _ hb)) i1 i2 (by omega)
  have e:tF U t (a::l)=tF U (mF t (U a.toNat)) l:=rfl
  rw[e]
  refine⟨?_,?_⟩
  ·have e1:x*prL (pP U) (a::l)=x*(U a.toNat).p.v*prL (pP U) l:=by rw[prL,←Int.mul_assoc];rfl
   have e2:d*prL (qQ U) (a::l)=d*(U a.toNat).q.v*prL (qQ U) l:=by rw[prL,←Int.mul_assoc];rfl
   rw[e1,e2];exact k1
  ·rw[List.length_cons,Nat.mul_succ]
   exact⟨Nat.le_trans k2.1 (by omega),Nat.le_trans k2.2 (by omega)⟩
def coV (Q:Nat→Int) (i:Nat):Int:=Q 0^(3-exN i 0)*Q 1^(3-exN i 1)*Q 2^(3-exN i 2)
def dnV (Q:Nat→Int):Int:=Q 0^3*Q 1^3*Q 2^3
theorem zrw (x:Int) {e:Nat} (h:e≤3):x^e*x^(3-e)=x^3:=by rw[←Int.pow_add];congr 1;omega
theorem zmI (Q:Nat→Int) {i:Nat} (h:i<20):moV Q i*coV Q i=dnV Q:=by
 have h0:=zrw (Q 0) (za1 i h 0 (by decide)).2
 have h1:=zrw (Q 1) (za1 i h 1 (by decide)).2
 have h2:=zrw (Q 2) (za1 i h 2 (by decide)).2
 have e:moV Q i=1*Q 0^exN i 0*Q 1^exN i 1*Q 2^exN i 2:=rfl
 rw[e]
 unfold coV dnV
 rw[←h0,←h1,←h2]
 grind
theorem zba {x:Int} {n:Nat} (h:tlen x.natAbs≤n):∀k:Nat,tlen (x^k).natAbs≤1+n*k
 | 0=>by rw[Int.pow_zero];have:=zkB (z:=1) (by decide);omega
 | k+1=>by
  have:=zba h k
  have m:=zaq (x^k) x
  rw[Int.pow_succ,Nat.mul_succ]
  omega
theorem znt {U:Nat→FQ}:dnV (qQ U)≠0:=by
 have q:∀j,(qQ U j)≠0:=fun j=>by have:=(U j).q1;show (U j).q.v≠0;omega
 exact Int.mul_ne_zero (Int.mul_ne_zero (Int.pow_ne_zero (q 0)) (Int.pow_ne_zero (q 1))) (Int.pow_ne_zero (q 2))
def evS (c P Q:Nat→Int) (i:Nat):Int:=sumT (fun i=>c i*moV P i*coV Q i) i
theorem zkC {c P Q:Nat→Int} {n i:Nat} (hc:okC c) (h:i<20) (hP:∀j,j<3→tlen (P j).natAbs≤n) (hQ:∀j,j<3→tlen (Q j).natAbs≤n):tlen (c i*moV P i*coV Q i).natAbs≤11+9*n:=by
 have ck:Fits64 (c i):=by have:=hc i h;unfold Fits64;omega
 have a0:=zv3 ck
 have e:moV P i=1*P 0^exN i 0*P 1^exN i 1*P 2^exN i 2:=rfl
 have d0:=(za1 i h 0 (by decide)).2
 have d1:=(za1 i h 1 (by decide)).2
 have d2:=(za1 i h 2 (by decide)).2
 have p0:=zba (hP 0 (by decide)) (exN i 0)
 have p1:=zba (hP 1 (by decide)) (exN i 1)
 have p2:=zba (hP 2 (by decide)) (exN i 2)
 have q0:=zba (hQ 0 (by decide)) (3-exN i 0)
 have q1:=zba (hQ 1 (by decide)) (3-exN i 1)
 have q2:=zba (hQ 2 (by decide)) (3-exN i 2)
 have s0:n*exN i 0+n*(3-exN i 0)=n*3:=by rw[←Nat.mul_add];congr 1;omega
 have s1:n*exN i 1+n*(3-exN i 1)=n*3:=by rw[←Nat.mul_add];congr 1;omega
 have s2:n*exN i 2+n*(3-exN i 2)=n*3:=by rw[←Nat.mul_add];congr 1;omega
 rw[e,Int.one_mul]
 unfold coV
 generalize exN i 0=x0 at *
 generalize exN i 1=x1 at *
 generalize exN i 2=x2 at *
 have m1:=zaq (P 0^x0) (P 1^x1)
 have m2:=zaq (P 0^x0*P 1^x1) (P 2^x2)
 have m3:=zaq (c i) (P 0^x0*P 1^x1*P 2^x2)
 have m4:=zaq (Q 0^(3-x0)) (Q 1^(3-x1))
 have m5:=zaq (Q 0^(3-x0)*Q 1^(3-x1)) (Q 2^(3-x2))
 have m6:=zaq (c i*(P 0^x0*P 1^x1*P 2^x2)) (Q 0^(3-x0)*Q 1^(3-x1)*Q 2^(3-x2))
 omega
theorem zo6 {c:Nat→Int} {U:Nat→FQ} {n:Nat} (hc:okC c) (hn:n≤76) (hU:∀j,j<3→fsz n (U j)):∀i,i≤20→(sF c U i).is (evS c (pP U) (qQ U) i) (dnV (qQ U))∧tlen (evS c (pP U) (qQ U) i).natAbs≤12+9*n+i∧fsz 750 (sF c U i)
 | 0,_=>by
  have z:tlen (0:Int).natAbs=0:=by rw[Int.natAbs_zero,zaN]
  refine⟨?_,?_,?_⟩
  ·show (0:Int)*dnV (qQ U)=0*1
   rw[Int.zero_mul,Int.zero_mul]
  ·show tlen (0:Int).natAbs≤_
   omega
  ·refine⟨?_,?_⟩
   ·show tlen (0:Int).natAbs≤750;omega
   ·show tlen (1:Int).natAbs≤750
    have:=zkB (z:=1) (by decide);omega
 | i+1,hi=>by
  obtain⟨h1,h2,h3⟩:=zo6 hc hn hU i (by omega)
  have es:evS c (pP U) (qQ U) (i+1)=evS c (pP U) (qQ U) i+c i*moV (pP U) i*coV (qQ U) i:=rfl
  have tt:tlen (c i*moV (pP U) i*coV (qQ U) i).natAbs≤11+9*n:=zkC (P:=pP U) (Q:=qQ U) (i:=i) (n:=n) hc (by omega) (fun j hj=>(hU j hj).1) (fun j hj=>(hU j hj).2)
  have ta:=zf3 (evS c (pP U) (qQ U) i) (c i*moV (pP U) i*coV (qQ U) i)
  have td:tlen (dnV (qQ U)).natAbs≤3+9*n:=by
   have a:=zba (hU 0 (by decide)).2 3
   have b:=zba (hU 1 (by decide)).2 3
   have d:=zba (hU 2 (by decide)).2 3
   have m1:=zaq (qQ U 0^3) (qQ U 1^3)
   have m2:=zaq (qQ U 0^3*qQ U 1^3) (qQ U 2^3)
   unfold dnV
   have a:tlen (qQ U 0^3).natAbs≤1+n*3:=a
   have b:tlen (qQ U 1^3).natAbs≤1+n*3:=b
   have d:tlen (qQ U 2^3).natAbs≤1+n*3:=d
   omega
  by_cases c0:c i=0
  ·have hs:sF c U (i+1)=sF c U i:=if_pos c0
   rw[hs,es,c0,Int.zero_mul,Int.zero_mul,Int.add_zero]
   exact⟨h1,by omega,h3⟩
  ·have hs:sF c U (i+1)=aF (sF c U i) (tF U (whQ (c i)) (facL i)):=if_neg c0
   have ck:Fits64 (c i):=by have:=hc i (by omega);unfold Fits64;omega
   obtain⟨w1,w2⟩:=zng ck
   obtain⟨f1,f2,_⟩:=zg8 i (by omega)
   have nl:n*(facL i).length≤n*3:=Nat.mul_le_mul_left _ f2
   obtain⟨t1,t2⟩:=zrN hU (facL i) (whQ (c i)) _ _ 5 f1 w1 w2 (by omega)
   rw[zg7 _ (show i<20 by omega),zg7 _ (show i<20 by omega),Int.one_mul] at t1
   have t2:fsz 233 (tF U (whQ (c i)) (facL i)):=⟨Nat.le_trans t2.1 (by omega),Nat.le_trans t2.2 (by omega)⟩
   obtain⟨a1,_,_⟩:=zsT _ _ h3 t2 (by omega) h1 t1
   have mo:=zmI (qQ U) (show i<20 by omega)
   have mz:moV (qQ U) i≠0:=fun z=>znt (U:=U) (by rw[←mo,z,Int.zero_mul])
   have a2:(aF (sF c U i) (tF U (whQ (c i)) (facL i))).is (evS c (pP U) (qQ U) (i+1)) (dnV (qQ U)):=by
    refine zjr mz ?_
    rw[es]
    have e:(evS c (pP U) (qQ U) i+c i*moV (pP U) i*coV (qQ U) i)*moV (qQ U) i=evS c (pP U) (qQ U) i*moV (qQ U) i+c i*moV (pP U) i*dnV (qQ U):=by rw[←mo];grind
    rw[e];exact a1
   rw[hs]
   refine⟨a2,by rw[es];omega,zqv a2 znt (by rw[es];omega) (by omega) (by decide)⟩
end Go.Eng
namespace Go.Eng
def rowM (i:Nat):Nat→Int:=fun e=>mE (i*3+e)
def degN (i:Nat):Nat:=exN i 0+exN i 1+exN i 2
theorem zo4 {i:Nat} (h:i<20):rowM i 0=(exN i 0:Int)∧rowM i 1=(exN i 1:Int)∧rowM i 2=(exN i 2:Int):=⟨(za1 i h 0 (by decide)).1,(za1 i h 1 (by decide)).1,(za1 i h 2 (by decide)).1⟩
theorem zh0 {i:Nat} (h:i<20):((cs 60 mE).drop (i*3)).take 3=cs 3 (rowM i):=zek (n:=60) mE (off:=i*3) (k:=3) (by omega)
theorem zmZ {i:Nat} (h:i<20):(3≤((cs 60 mE).drop (i*3)).length)=True:=eq_true (by rw[List.length_drop,zct];omega)
theorem zo2:∀i,i<20→∀d,d<20→((∀e,e<3→rowM i e=rowM d e)↔i=d):=by decide
def dgR (c:Nat→Int):Nat→Int
 | 0 => -1
 | i+1=>if c i=0 then dgR c i else if (degN i:Int)>dgR c i then (degN i:Int) else dgR c i
@[go_sem] theorem zw4 (a0 a1 a2:PV) (Y:Nat→Int):psplice [a0,a1,a2] 0 (cs 3 Y)=cs 3 Y:=zeK 3 _ Y rfl
theorem zv1 (X Y:Nat→Int):eqaP [1,1,1] (aI 3 X) (aI 3 Y)=some (decide (∀e:Nat,e<3→X e=Y e)):=zmo 3 X Y
set_option maxHeartbeats 4000000 in
theorem zlJ (c:Nat→Int):pf E0 399 [aI 20 c]=some (.i .i64 (dgR c 20)):=by
 refine zaa (xf:=zzt) rfl (by simp[zzt]) ?_
 simp only[zzt]
 simp(disch:=omega)only[go_sem,seval,wqq]
 refine zag zAO.eq_1 (fun(i:Nat) fr M=>i≤20∧fr 3=.i .i64 (dgR c i)∧fr 7=aI 20 c∧fr 8=(PV.i .i64 ((i:Nat):Int))) (fun i=>20-i) ?_ 0 ⟨by omega,by simp only[go_sem,seval];rfl,by simp only[go_sem,seval],by simp only[go_sem,seval]⟩
 rintro i fr M ⟨hi,f3,f7,f8⟩ ih
 rcases Nat.lt_or_ge i 20 with h|h
 ·have q1:((i:Int)<20)=True:=eq_true (by omega)
  have qL:(i<20)=True:=eq_true h
  have ix:=zdD c h
  have rw3:=zh0 h
  have rl:=zmZ h
  obtain⟨r0,r1,r2⟩:=zo4 h
  have e0:=(za1 i h 0 (by decide)).2
  have e1:=(za1 i h 1 (by decide)).2
  have e2:=(za1 i h 2 (by decide)).2
  have sm:(exN i 0:Int)+(exN i 1:Int)+(exN i 2:Int)=(degN i:Int):=by unfold degN;omega
  by_cases c0:c i=0
  ·have hs:dgR c (i+1)=dgR c i:=if_pos c0
   have c0':(c i=0)=True:=eq_true c0
   simp(disch:=omega)only[go_sem,seval,wqq,f3,f7,f8,q1,qL,ix,zk3,rw3,rl,c0',zb2,mG,mG0,sG,sG0,lG,lqq]
   exact ih (i+1) _ _ (by omega) ⟨by omega,by simp only[go_sem,seval,f3,hs],by simp only[go_sem,seval,f7],by simp only[go_sem,seval,f8];rw[Int.natCast_succ]⟩
  ·have hs:dgR c (i+1)=if (degN i:Int)>dgR c i then (degN i:Int) else dgR c i:=if_neg c0
   have c0':(c i=0)=False:=eq_false c0
   simp(disch:=omega)only[go_sem,seval,wqq,f3,f7,f8,q1,qL,ix,zk3,rw3,rl,c0',zb2,r0,r1,r2,sm,mG,mG0,sG,sG0,lG,lqq]
   exact ih (i+1) _ _ (by omega) ⟨by omega,by simp only[go_sem,seval,f3,hs],by simp only[go_sem,seval,f7],by simp only[go_sem,seval,f8];rw[Int.natCast_succ]⟩
 ·obtain rfl:i=20:=by omega
  simp(disch:=omega)only[go_sem,seval,wqq,f3,f7,f8]
theorem zoF {d:Nat} (hd:d<20):pf E0 421 [aI 3 (rowM d)]=some ((PV.i .i64 ((d:Nat):Int))):=by
 refine zaa (xf:=zzE) rfl (by simp[zzE]) ?_
 simp only[zzE]
 simp(disch:=omega)only[go_sem,seval,wqq]
 refine zag zAQ.eq_1 (fun(i:Nat) fr M=>i≤d∧fr 1=.p 0 0∧fr 4=(PV.i .i64 ((i:Nat):Int))∧M=[some ⟨cs 3 (rowM d),true,0⟩]) (fun i=>20-i) ?_ 0 ⟨by omega,by simp only[go_sem,seval],by simp only[go_sem,seval],rfl⟩
 rintro i fr M ⟨hi,f1,f4,rfl⟩ ih
 have h:i<20:=by omega
 have q1:((i:Int)<20)=True:=eq_true (by omega)
 have qL:(i<20)=True:=eq_true h
 have rw3:=zh0 h
 have rl:=zmZ h
 have re:=zo2 i h d hd
 by_cases hid:i=d
 ·subst hid
  have eq:eqaP [1,1,1] (aI 3 (rowM i)) (aI 3 (rowM i))=some true:=by rw[zv1];simp
  simp(disch:=omega)only[go_sem,seval,wqq,f1,f4,q1,qL,zk3,rw3,rl,eq,mG,mG0,sG,sG0,lG,lqq]
 ·have eq:eqaP [1,1,1] (aI 3 (rowM i)) (aI 3 (rowM d))=some false:=by rw[zv1,decide_eq_false fun q=>hid (re.1 q)]
  simp(disch:=omega)only[go_sem,seval,wqq,f1,f4,q1,qL,zk3,rw3,rl,eq,mG,mG0,sG,sG0,lG,lqq]
  exact ih (i+1) _ _ (by omega) ⟨by omega,by simp only[go_sem,seval,f1],by simp only[go_sem,seval,f4];rw[Int.natCast_succ],rfl⟩
end Go.Eng
namespace Go.Eng
def dnN (i j:Nat):Nat:=((List.range 20).find? fun d=>decide (∀e:Nat,e<3→rowM d e=upd (rowM i) j (rowM i j-1) e)).getD 0
theorem zp7:∀i,i<20→∀j,j<3→exN i j≠0→dnN i j<20∧∀e,e<3→upd (rowM i) j (rowM i j-1) e=rowM (dnN i j) e:=by decide
def grJ (c:Nat→Int) (i:Nat) (g:Nat→Int):Nat→Nat→Int
 | 0=>g
 | j+1=>if exN i j=0 then grJ c i g j else upd (grJ c i g j) (j*20+dnN i j) (exN i j*c i)
def grI (c:Nat→Int):Nat→Nat→Int
 | 0=>zF
 | i+1=>grJ c i (grI c i) 3
def gRow (g:Nat→Int) (f:Nat):Nat→Int:=fun e=>g (f*20+e)
open Classical in
noncomputable def grE (c:Nat→Int):Int:=if okC c then (if ∀f,f<3→okC (gRow (grI c 20) f) then 0 else 5) else 1
noncomputable def grV (c:Nat→Int):Nat→Int:=if grE c=0 then grI c 20 else zF
theorem z60:[PV.i .i64 0,PV.i .i64 0,PV.i .i64 0,PV.i .i64 0,PV.i .i64 0,PV.i .i64 0,PV.i .i64 0,PV.i .i64 0,PV.i .i64 0,PV.i .i64 0,PV.i .i64 0,PV.i .i64 0,PV.i .i64 0,PV.i .i64 0,PV.i .i64 0,PV.i .i64 0,PV.i .i64 0,PV.i .i64 0,PV.i .i64 0,PV.i .i64 0,PV.i .i64 0,PV.i .i64 0,PV.i .i64 0,PV.i .i64 0,PV.i .i64 0,PV.i .i64 0,PV.i .i64 0,PV.i .i64 0,PV.i .i64 0,PV.i .i64 0,PV.i .i64 0,PV.i .i64 0,PV.i .i64 0,PV.i .i64 0,PV.i .i64 0,PV.i .i64 0,PV.i .i64 0,PV.i .i64 0,PV.i .i64 0,PV.i .i64 0,PV.i .i64 0,PV.i .i64 0,PV.i .i64 0,PV.i .i64 0,PV.i .i64 0,PV.i .i64 0,PV.i .i64 0,PV.i .i64 0,PV.i .i64 0,PV.i .i64 0,PV.i .i64 0,PV.i .i64 0,PV.i .i64 0,PV.i .i64 0,PV.i .i64 0,PV.i .i64 0,PV.i .i64 0,PV.i .i64 0,PV.i .i64 0,PV.i .i64 0]=cs 60 zF:=rfl
theorem zwY (g:Nat→Int) {f:Nat} (h:f<3):iagP 3 true 20 (aI 60 g) (some f)=some (aI 20 (gRow g f)):=by
 unfold aI
 rw[zdQ,if_pos ⟨h,by rw[zct]⟩,zek g (by omega)];rfl
theorem zop {c:Nat→Int} (h:¬okC c):pf E0 407 [aI 20 c]=some (.tu [aI 60 zF,.i .i64 1]):=by
 have va:=zaD c
 have:vlC c=1:=if_neg h
 rw[this] at va
 refine zaa (xf:=zyW) rfl (by simp[zyW]) ?_
 simp only[zyW]
 simp(disch:=omega)only[go_sem,seval,wqq,va,z60]
set_option maxHeartbeats 8000000 in
theorem zoq {c:Nat→Int} (hc:okC c):pf E0 407 [aI 20 c]=some (.tu [aI 60 (grV c),.i .i64 (grE c)]):=by
 have va:=zaD c
 have:vlC c=0:=if_pos hc
 rw[this] at va
 refine zaa (xf:=zyW) rfl (by simp[zyW]) ?_
 simp only[zyW]
 simp(disch:=omega)only[go_sem,seval,wqq,va,z60,zk3]
 refine zag zAX.eq_1 (fun(i:Nat) fr M=>i≤20∧fr 1=.p 0 0∧fr 2=.p 1 0∧fr 5=.p 2 0∧fr 19=aI 60 mE∧fr 20=(PV.i .i64 ((i:Nat):Int))∧∃v G,M=some ⟨cs 20 c,true,0⟩::some ⟨cs 60 zF,true,0⟩::some ⟨cs 60 (grI c i),true,v⟩::G) (fun i=>20-i) ?_ 0 ⟨by omega,by simp only[go_sem,seval],by simp only[go_sem,seval],by simp only[go_sem,seval],by simp only[go_sem,seval],by simp only[go_sem,seval],_,[],rfl⟩
 rintro i fr M ⟨hi,f1,f2,f5,f19,f20,v,G,rfl⟩ ih
 rcases Nat.lt_or_ge i 20 with h|h
 ·have q1:((i:Int)<20)=True:=eq_true (by omega)
  have qL:(i<20)=True:=eq_true h
  have ia:iagP 20 true 3 (aI 60 mE) (some i)=some (aI 3 (rowM i)):=by
   unfold aI
   rw[zdQ,if_pos ⟨h,by rw[zct]⟩,zh0 h];rfl
  simp(disch:=omega)only[go_sem,seval,wqq,f1,f2,f5,f19,f20,q1,qL,ia,mG,mG0,sG,sG0,lG,lqq]
  refine zag zA4.eq_1 (fun(j:Nat) fr M=>j≤3∧fr 1=.p 0 0∧fr 2=.p 1 0∧fr 5=.p 2 0∧fr 6=(PV.i .i64 ((i:Nat):Int))∧fr 7=.p (G.length+3) 0∧fr 19=aI 60 mE∧fr 20=(PV.i .i64 ((i:Nat):Int))∧fr 24=aI 3 (rowM i)∧fr 25=(PV.i .i64 ((j:Nat):Int))∧∃v vr H,M=some ⟨cs 20 c,true,0⟩::some ⟨cs 60 zF,true,0⟩::some ⟨cs 60 (grJ c i (grI c i) j),true,v⟩::(G++some ⟨cs 3 (rowM i),true,vr⟩::H)) (fun j=>3-j) ?_ 0 ⟨by omega,by simp only[go_sem,seval,f1],by simp only[go_sem,seval,f2],by simp only[go_sem,seval,f5],by simp only[go_sem,seval],by simp only[go_sem,seval],by simp only[go_sem,seval,f19],by simp only[go_sem,seval,f20],by simp only[go_sem,seval],by simp only[go_sem,seval],_,_,[],rfl⟩
  rintro j fr M ⟨hj,f1,f2,f5,f6,f7,f19,f20,f24,f25,v,vr,H,rfl⟩ ih2
  rcases Nat.lt_or_ge j 3 with h3|h3
  ·have q2:((j:Int)<3)=True:=eq_true (by omega)
   have qJ:(j<3)=True:=eq_true h3
   have iy:=zdD (rowM i) h3
   obtain⟨e1,e2⟩:=za1 i h j h3
   have e1:rowM i j=(exN i j:Int):=e1
   rw[e1] at iy
   by_cases z:exN i j=0
   ·have zz:((exN i j:Int)=0)=True:=eq_true (by omega)
    have hs:grJ c i (grI c i) (j+1)=grJ c i (grI c i) j:=if_pos z
    simp(disch:=omega)only[go_sem,seval,wqq,f1,f2,f5,f6,f7,f19,f20,f24,f25,q2,qJ,iy,zz,mG,mG0,sG,sG0,lG,lqq]
    exact ih2 (j+1) _ _ (by omega) ⟨by omega,by simp only[go_sem,seval,f1],by simp only[go_sem,seval,f2],by simp only[go_sem,seval,f5],by simp only[go_sem,seval,f6],by simp only[go_sem,seval,f7],by simp only[go_sem,seval,f19],by simp only[go_sem,seval,f20],by simp only[go_sem,seval,f24],by simp only[go_sem,seval,f25];rw[Int.natCast_succ],_,_,_,by rw[hs]⟩
   ·have zz:((exN i j:Int)=0)=False:=eq_false (by omega)
    have hs:grJ c i (grI c i) (j+1)=upd (grJ c i (grI c i) j) (j*20+dnN i j) (exN i j*c i):=if_neg z
    obtain⟨d1,d2⟩:=zp7 i h j h3 z
    rw[e1] at d2
    have dd:cs 3 (upd (rowM i) j ((exN i j:Int)-1))=cs 3 (rowM (dnN i j)):=ziQ d2
    have dx:=zoF d1
    have cg1:=zb2 (n:=20) c h
    have cj:=zb2 (n:=3) (rowM i) h3
    rw[e1] at cj
    have qD:(dnN i j<20)=True:=eq_true d1
    have qS:(j*20+dnN i j<60)=True:=eq_true (by omega)
    have bc:=hc i h
    have be : -3221225472≤(exN i j:Int)*c i∧(exN i j:Int)*c i≤3221225472:=by
     obtain q|q|q:exN i j=1∨exN i j=2∨exN i j=3:=by omega
     all_goals (rw[q];omega)
    simp(disch:=omega)only[go_sem,seval,wqq,f1,f2,f5,f6,f7,f19,f20,f24,f25,q2,qJ,iy,zz,cj,dd,mG,mG0,sG,sG0,lG,lqq]
    refine zb1 [42] rfl ?_ ?_
    ·simp(disch:=omega)only[go_sem,seval,wqq,f1,f2,f5,f6,f7,f19,f20,f24,f25,q2,qJ,qL,qD,qS,iy,zz,cj,dd,dx,cg1,mG,mG0,sG,sG0,lG,lqq]
     exact⟨_,rfl,rfl⟩
    simp(disch:=omega)only[go_sem,seval,wqq,f1,f2,f5,f6,f7,f19,f20,f24,f25,q2,qJ,qL,qD,qS,iy,zz,cj,dd,dx,cg1,mG,mG0,sG,sG0,lG,lqq]
    exact ih2 (j+1) _ _ (by omega) ⟨by omega,by simp only[go_sem,seval,f1],by simp only[go_sem,seval,f2],by simp only[go_sem,seval,f5],by simp only[go_sem,seval,f6],by simp only[go_sem,seval,f7],by simp only[go_sem,seval,f19],by simp only[go_sem,seval,f20],by simp only[go_sem,seval,f24],by simp only[go_sem,seval,f25];rw[Int.natCast_succ],_,_,_,by rw[hs]⟩
  ·obtain rfl:j=3:=by omega
   simp(disch:=omega)only[go_sem,seval,wqq,f1,f2,f5,f6,f7,f19,f20,f24,f25,mG,mG0,sG,sG0,lG,lqq]
   exact ih (i+1) _ _ (by omega) ⟨by omega,by simp only[go_sem,seval,f1],by simp only[go_sem,seval,f2],by simp only[go_sem,seval,f5],by simp only[go_sem,seval,f19],by simp only[go_sem,seval,f20];rw[Int.natCast_succ],_,_,rfl⟩
 ·obtain rfl:i=20:=by omega
  clear ih
  simp(disch:=omega)only[go_sem,seval,wqq,f1,f2,f5,f19,f20,mG,mG0,sG,sG0,lG,lqq]
  by_cases hg:∀f,f<3→okC (gRow (grI c 20) f)
  ·have e1:grE c=0:=by unfold grE;rw[if_pos hc,if_pos hg]
   have e2:grV c=grI c 20:=by unfold grV;rw[e1];rfl
   rw[e1,e2]
   refine zag zAr.eq_1 (fun(f:Nat) fr M=>f≤3∧fr 2=.p 1 0∧fr 5=.p 2 0∧fr 49=aI 60 (grI c 20)∧fr 50=(PV.i .i64 ((f:Nat):Int))∧∃b0 v G,M=b0::some ⟨cs 60 zF,true,0⟩::some ⟨cs 60 (grI c 20),true,v⟩::G) (fun f=>3-f) ?_ 0 ⟨by omega,by simp only[go_sem,seval,f2],by simp only[go_sem,seval,f5],by simp only[go_sem,seval],by simp only[go_sem,seval],_,_,_,rfl⟩
   clear f1 f2 f5 f19 f20
   rintro f fr M ⟨hf,f2,f5,f49,f50,b0,v,G,rfl⟩ ih
   rcases Nat.lt_or_ge f 3 with h3|h3
   ·have q1:((f:Int)<3)=True:=eq_true (by omega)
    have ia:=zwY (grI c 20) h3
    have vb:=zaD (gRow (grI c 20) f)
    have:vlC (gRow (grI c 20) f)=0:=if_pos (hg f h3)
    rw[this] at vb
    simp(disch:=omega)only[go_sem,seval,wqq,f2,f5,f49,f50,q1,ia,vb,mG,mG0,sG,sG0,lG,lqq]
    exact ih (f+1) _ _ (by omega) ⟨by omega,by simp only[go_sem,seval,f2],by simp only[go_sem,seval,f5],by simp only[go_sem,seval,f49],by simp only[go_sem,seval,f50];rw[Int.natCast_succ],_,_,_,rfl⟩
   ·obtain rfl:f=3:=by omega
    simp(disch:=omega)only[go_sem,seval,wqq,f2,f5,f49,f50,mG,mG0,sG,sG0,lG,lqq]
  ·have e1:grE c=5:=by unfold grE;rw[if_pos hc,if_neg hg]
   have e2:grV c=zF:=by unfold grV;rw[e1];rfl
   rw[e1,e2]
   refine zag zAr.eq_1 (fun(f:Nat) fr M=>f≤3∧(∀e,e<f→okC (gRow (grI c 20) e))∧fr 2=.p 1 0∧fr 5=.p 2 0∧fr 49=aI 60 (grI c 20)∧fr 50=(PV.i .i64 ((f:Nat):Int))∧∃b0 v G,M=b0::some ⟨cs 60 zF,true,0⟩::some ⟨cs 60 (grI c 20),true,v⟩::G) (fun f=>3-f) ?_ 0 ⟨by omega,fun e he=>by omega,by simp only[go_sem,seval,f2],by simp only[go_sem,seval,f5],by simp only[go_sem,seval],by simp only[go_sem,seval],_,_,_,rfl⟩
   clear f1 f2 f5 f19 f20
   rintro f fr M ⟨hf,hlo,f2,f5,f49,f50,b0,v,G,rfl⟩ ih
   have h3:f<3:=by
    rcases Nat.lt_or_ge f 3 with z|z
    ·exact z
    ·obtain rfl:f=3:=by omega
     exact absurd hlo hg
   have q1:((f:Int)<3)=True:=eq_true (by omega)
   have ia:=zwY (grI c 20) h3
   have vb:=zaD (gRow (grI c 20) f)
   by_cases ok:okC (gRow (grI c 20) f)
   ·have:vlC (gRow (grI c 20) f)=0:=if_pos ok
    rw[this] at vb
    simp(disch:=omega)only[go_sem,seval,wqq,f2,f5,f49,f50,q1,ia,vb,mG,mG0,sG,sG0,lG,lqq]
    refine ih (f+1) _ _ (by omega) ⟨by omega,fun e he=>?_,by simp only[go_sem,seval,f2],by simp only[go_sem,seval,f5],by simp only[go_sem,seval,f49],by simp only[go_sem,seval,f50];rw[Int.natCast_succ],_,_,_,rfl⟩
    rcases Nat.lt_or_ge e f with z|z
    ·exact hlo e z
    ·obtain rfl:e=f:=by omega
     exact ok
   ·have:vlC (gRow (grI c 20) f)=1:=if_neg ok
    rw[this] at vb
    simp(disch:=omega)only[go_sem,seval,wqq,f2,f5,f49,f50,q1,ia,vb,z60,mG,mG0,sG,sG0,lG,lqq]
theorem zq6 (c:Nat→Int):pf E0 407 [aI 20 c]=some (.tu [aI 60 (grV c),.i .i64 (grE c)]):=by
 by_cases hc:okC c
 ·exact zoq hc
 ·have e1:grE c=1:=if_neg hc
  have e2:grV c=zF:=by unfold grV;rw[e1];rfl
  rw[e1,e2]
  exact zop hc
end Go.Eng
namespace Go.Eng
def chE:Nat→Int:=fun e=>chooI.getD e 0
theorem zxA:cst E0.glob (.p 2 0)=.fp (cs 16 chE):=rfl
def chV (i k j:Nat):Int:=chE (exN i j*4+exN k j)
theorem zpW:∀i,i<20→∀k,k<20→∀j,j<3→0≤chV i k j∧chV i k j≤3:=by decide
def leQ (i k:Nat):Prop:=exN k 0≤exN i 0∧exN k 1≤exN i 1∧exN k 2≤exN i 2
instance (i k:Nat):Decidable (leQ i k):=by unfold leQ;infer_instance
def shP (Y:Nat→Int) (i k:Nat):Nat→Int
 | 0=>1
 | j+1=>shP Y i k j*(chV i k j*Y j^(exN i j-exN k j))
def shT (c Y:Nat→Int) (k i:Nat):Int:=if leQ i k then c i*shP Y i k 3 else 0
def shS (c Y:Nat→Int) (i k:Nat):Int:=sumT (shT c Y k) i
open Classical in
noncomputable def shE' (c S:Nat→Int):Int:=if okC c then (if okC S then 0 else 5) else 1
open Classical in
noncomputable def shE (c Y:Nat→Int):Int:=if okC c then (if okC (shS c Y 20) then 0 else 5) else 1
noncomputable def shV (c Y:Nat→Int):Nat→Int:=if shE c Y=0 then shS c Y 20 else zF
theorem z20:[PV.i .i64 0,PV.i .i64 0,PV.i .i64 0,PV.i .i64 0,PV.i .i64 0,PV.i .i64 0,PV.i .i64 0,PV.i .i64 0,PV.i .i64 0,PV.i .i64 0,PV.i .i64 0,PV.i .i64 0,PV.i .i64 0,PV.i .i64 0,PV.i .i64 0,PV.i .i64 0,PV.i .i64 0,PV.i .i64 0,PV.i .i64 0,PV.i .i64 0]=cs 20 zF:=rfl
theorem z40:[PV.b false,.nl,PV.b false,.nl,PV.b false,.nl,PV.b false,.nl,PV.b false,.nl,PV.b false,.nl,PV.b false,.nl,PV.b false,.nl,PV.b false,.nl,PV.b false,.nl,PV.b false,.nl,PV.b false,.nl,PV.b false,.nl,PV.b false,.nl,PV.b false,.nl,PV.b false,.nl,PV.b false,.nl,PV.b false,.nl,PV.b false,.nl,PV.b false,.nl]=cg 20 (fun _=>[PV.b false,.nl]):=rfl
theorem ziA {n:Int} (h:Fits64 n):small n=n∧isSmall n=true:=by
 have:isSmall n=true:=decide_eq_true h
 unfold small
 rw[if_pos this]
 exact⟨rfl,this⟩
theorem zlK {c:Nat→Int} (h:¬okC c) (x y z:Int):pf E0 396 [aI 20 c,.i .i64 x,.i .i64 y,.i .i64 z]=some (.tu [aI 20 zF,.i .i64 1]):=by
 have va:=zaD c
 have:vlC c=1:=if_neg h
 rw[this] at va
 refine zaa (xf:=zyO) rfl (by simp[zyO]) ?_
 simp only[zyO]
 simp(disch:=omega)only[go_sem,seval,wqq,va,z20]
set_option maxHeartbeats 8000000 in
theorem zlL {c:Nat→Int} (hc:okC c) {x y z:Int} (hx:Fits64 x) (hy:Fits64 y) (hz:Fits64 z) {Y:Nat→Int} (hY:Y=s3 (-x) (-y) (-z)):pf E0 396 [aI 20 c,.i .i64 x,.i .i64 y,.i .i64 z]=some (.tu [aI 20 (shV c Y),.i .i64 (shE c Y)]):=by
 have va:=zaD c
 have:vlC c=0:=if_pos hc
 rw[this] at va
 have x1:=zbw hx
 have x2:=zbw hy
 have x3:=zbw hz
 obtain⟨X,hX⟩:∃X:Nat→WI,X=s3 (wiOf x hx).neg (wiOf y hy).neg (wiOf z hz).neg:=⟨_,rfl⟩
 have Xv:∀j,(X j).v=Y j:=fun j=>by
  rw[hX,hY];unfold s3;split
  ·rfl
  ·split<;>rfl
 have Xl:∀j,wlen (X j).v.natAbs≤2:=fun j=>by
  rw[Xv,hY];unfold s3;split
  ·rw[Int.natAbs_neg];exact zf8 hx
  ·split
   ·rw[Int.natAbs_neg];exact zf8 hy
   ·rw[Int.natAbs_neg];exact zf8 hz
 refine zaa (xf:=zyO) rfl (by simp[zyO]) ?_
 simp only[zyO]
 have zA:(cg 20 fun _=>[PV.b false,.nl]).all PV.scal=true:=rfl
 simp(disch:=omega)only[go_sem,seval,wqq,va,x1,x2,x3,z20,z40,zA,zk3,zaj,zac]
 refine zag zAP.eq_1 (fun(i:Nat) fr M=>i≤20∧fr 4=.p 0 0∧fr 8=.p 1 0∧fr 11=.p 2 0∧fr 12=.p 3 0∧fr 40=aI 60 mE∧fr 41=(PV.i .i64 ((i:Nat):Int))∧∃vx vs G L,∃w:Nat→WI,(∀e,WZ (L e) (w e))∧(∀e,e<20→(w e).v=shS c Y i e∧wlen (w e).v.natAbs≤40+i)∧M=some ⟨cs 20 c,true,0⟩::some ⟨cs 20 zF,true,0⟩::some ⟨cw 3 X,true,vx⟩::some ⟨cg 20 L,true,vs⟩::G) (fun i=>20-i) ?_ 0 ⟨by omega,by simp only[go_sem,seval],by simp only[go_sem,seval],by simp only[go_sem,seval],by simp only[go_sem,seval],by simp only[go_sem,seval],by simp only[go_sem,seval],_,_,[],_,fun _=>wi0,fun _=>wz0,fun e _=>⟨rfl,by show wlen (0:Int).natAbs≤40+0;decide⟩,by rw[hX];rfl⟩
 rintro i fr M ⟨hi,f4,f8,f11,f12,f40,f41,vx,vs,G,L,w,wz,wv,rfl⟩ ih
 have rowI:∀{k:Nat},k<20→iagP 20 true 3 (aI 60 mE) (some k)=some (aI 3 (rowM k)):=fun {k} h=>by
  unfold aI
  rw[zdQ,if_pos ⟨h,by rw[zct]⟩,zh0 h];rfl
 rcases Nat.lt_or_ge i 20 with h|h
 ·have q1:((i:Int)<20)=True:=eq_true (by omega)
  have qL:(i<20)=True:=eq_true h
  have ia:=rowI h
  have ck:Fits64 (c i):=by have:=hc i h;unfold Fits64;omega
  have k1:=zbw ck
  have cg1:=zb2 (n:=20) c h
  obtain⟨r0,r1,r2⟩:=zo4 h
  simp(disch:=omega)only[go_sem,seval,wqq,f4,f8,f11,f12,f40,f41,q1,qL,ia,zk3,mG,mG0,sG,sG0,lG,lqq]
  refine zag zAV.eq_1 (fun(k:Nat) fr M=>k≤20∧fr 4=.p 0 0∧fr 8=.p 1 0∧fr 11=.p 2 0∧fr 12=.p 3 0∧fr 13=(PV.i .i64 ((i:Nat):Int))∧fr 14=.p (G.length+4) 0∧fr 40=aI 60 mE∧fr 41=(PV.i .i64 ((i:Nat):Int))∧fr 45=aI 60 mE∧fr 46=(PV.i .i64 ((k:Nat):Int))∧∃vx vs vr H L,∃w:Nat→WI,(∀e,WZ (L e) (w e))∧(∀e,e<20→(w e).v=(if e<k then shS c Y (i+1) e else shS c Y i e)∧wlen (w e).v.natAbs≤(if e<k then 41+i else 40+i))∧M=some ⟨cs 20 c,true,0⟩::some ⟨cs 20 zF,true,0⟩::some ⟨cw 3 X,true,vx⟩::some ⟨cg 20 L,true,vs⟩::(G++some ⟨cs 3 (rowM i),true,vr⟩::H)) (fun k=>20-k) ?_ 0 ⟨by omega,by simp only[go_sem,seval,f4],by simp only[go_sem,seval,f8],by simp only[go_sem,seval,f11],by simp only[go_sem,seval,f12],by simp only[go_sem,seval],by simp only[go_sem,seval],by simp only[go_sem,seval,f40],by simp only[go_sem,seval,f41],by simp only[go_sem,seval],by simp only[go_sem,seval],_,_,_,[],_,w,wz,fun e he=>by obtain⟨a,b⟩:=wv e he;exact⟨by rw[a,if_neg (by omega)],by rw[if_neg (by omega)];exact b⟩,rfl⟩
  clear f4 f8 f11 f12 f40 f41 wv wz
  rintro k fr M ⟨hk,f4,f8,f11,f12,f13,f14,f40,f41,f45,f46,vx,vs,vr,H,L,w,wz,wv,rfl⟩ ih2
  rcases Nat.lt_or_ge k 20 with h2|h2
  ·have q2:((k:Int)<20)=True:=eq_true (by omega)
   have qK:(k<20)=True:=eq_true h2
   have ib:=rowI h2
   obtain⟨s0,s1,s2⟩:=zo4 h2
   have ss:shS c Y (i+1) k=shS c Y i k+shT c Y k i:=rfl
   by_cases lq:leQ i k
   ·have lq':=lq
    obtain⟨l0,l1,l2⟩:=lq
    have g0:((exN i 0:Int)<(exN k 0:Int))=False:=eq_false (by omega)
    have g1:((exN i 1:Int)<(exN k 1:Int))=False:=eq_false (by omega)
    have g2:((exN i 2:Int)<(exN k 2:Int))=False:=eq_false (by omega)
    simp(disch:=omega)only[go_sem,seval,wqq,f4,f8,f11,f12,f13,f14,f40,f41,f45,f46,q2,qK,qL,ib,zb2,r0,r1,r2,s0,s1,s2,g0,g1,g2,cg1,k1,mG,mG0,sG,sG0,lG,lqq]
    refine zag zAS.eq_1 (fun(j:Nat) fr M=>j≤3∧fr 4=.p 0 0∧fr 8=.p 1 0∧fr 11=.p 2 0∧fr 12=.p 3 0∧fr 13=(PV.i .i64 ((i:Nat):Int))∧fr 14=.p (G.length+4) 0∧fr 15=(PV.i .i64 ((k:Nat):Int))∧fr 16=.p (G.length+(H.length+1)+4) 0∧fr 17=.p (G.length+(H.length+1+1)+4) 0∧fr 40=aI 60 mE∧fr 41=(PV.i .i64 ((i:Nat):Int))∧fr 45=aI 60 mE∧fr 46=(PV.i .i64 ((k:Nat):Int))∧fr 73=(PV.i .i64 ((j:Nat):Int))∧∃vx vs vr vk vt,∃t:WI,t.v=c i*shP Y i k j∧wlen t.v.natAbs≤2+8*j∧M=some ⟨cs 20 c,true,0⟩::some ⟨cs 20 zF,true,0⟩::some ⟨cw 3 X,true,vx⟩::some ⟨cg 20 L,true,vs⟩::(G++some ⟨cs 3 (rowM i),true,vr⟩::(H++[some ⟨cs 3 (rowM k),true,vk⟩,some ⟨wc t,true,vt⟩]))) (fun j=>3-j) ?_ 0 ⟨by omega,by simp only[go_sem,seval,f4],by simp only[go_sem,seval,f8],by simp only[go_sem,seval,f11],by simp only[go_sem,seval,f12],by simp only[go_sem,seval,f13],by simp only[go_sem,seval,f14],by simp only[go_sem,seval],by simp only[go_sem,seval],by simp only[go_sem,seval],by simp only[go_sem,seval,f40],by simp only[go_sem,seval,f41],by simp only[go_sem,seval,f45],by simp only[go_sem,seval,f46],by simp only[go_sem,seval],_,_,_,_,_,wiOf (c i) ck,(Int.mul_one _).symm,zf8 ck,rfl⟩
    clear f4 f8 f11 f12 f13 f14 f40 f41 f45 f46
    rintro j fr M ⟨hj,f4,f8,f11,f12,f13,f14,f15,f16,f17,f40,f41,f45,f46,f73,vx,vs,vr,vk,vt,t,tv,tl,rfl⟩ ih3
    rcases Nat.lt_or_ge j 3 with h3|h3
    ·have q3:((j:Int)<3)=True:=eq_true (by omega)
     have qJ:(j<3)=True:=eq_true h3
     obtain⟨e1,e2⟩:=za1 i h j h3
     obtain⟨d1,d2⟩:=za1 k h2 j h3
     have e1:rowM i j=(exN i j:Int):=e1
     have d1:rowM k j=(exN k j:Int):=d1
     have de:exN k j≤exN i j:=by
      obtain rfl|rfl|rfl:=zkz h3
      ·exact l0
      ·exact l1
      ·exact l2
     have xi:=zb2 (n:=3) (rowM i) h3
     have xk:=zb2 (n:=3) (rowM k) h3
     rw[e1] at xi
     rw[d1] at xk
     have q4:(exN i j<4)=True:=eq_true (by omega)
     have q5:(exN k j<4)=True:=eq_true (by omega)
     have cb:=zpW i h k h2 j h3
     have cf:Fits64 (chV i k j):=by unfold Fits64;omega
     have cc:(List.drop (exN k j) (List.drop (exN i j*4) (cs 16 chE)))[0]?=some (.i .i64 (chV i k j)):=by
      rw[List.drop_drop,List.getElem?_drop,Nat.add_zero,zb2 _ (by omega)];rfl
     have kc:=zbw cf
     have pm:=zdW t (wiOf (chV i k j) cf)
     have lc:wlen (wiOf (chV i k j) cf).v.natAbs≤2:=zf8 cf
     obtain⟨m1,m2⟩:=zqI tl lc (by omega)
     have sb:(exN i j:Int)-(exN k j:Int)=((exN i j-exN k j:Nat):Int):=by omega
     simp(disch:=omega)only[go_sem,seval,wqq,f4,f8,f11,f12,f13,f14,f15,f16,f17,f40,f41,f45,f46,f73,q3,mG,mG0,sG,sG0,lG,lqq]
     refine zaC [17] rfl (by simp only[go_sem,seval,f17]) ?_
     simp(disch:=omega)only[go_sem,seval,wqq,f4,f8,f11,f12,f13,f14,f15,f16,f17,f40,f41,f45,f46,f73,q3,qJ,xi,xk,q4,q5,cc,zxA,kc,pm,sb,zne,zgQ,zf6,zkL,mG,mG0,sG,sG0,lG,lqq]
     refine zag zAR.eq_1 (fun(n:Nat) fr M=>n≤exN i j-exN k j∧fr 4=.p 0 0∧fr 8=.p 1 0∧fr 11=.p 2 0∧fr 12=.p 3 0∧fr 13=(PV.i .i64 ((i:Nat):Int))∧fr 14=.p (G.length+4) 0∧fr 15=(PV.i .i64 ((k:Nat):Int))∧fr 16=.p (G.length+(H.length+1)+4) 0∧fr 17=.p (G.length+(H.length+1+1)+4) 0∧fr 40=aI 60 mE∧fr 41=(PV.i .i64 ((i:Nat):Int))∧fr 45=aI 60 mE∧fr 46=(PV.i .i64 ((k:Nat):Int))∧fr 73=(PV.i .i64 ((j:Nat):Int))∧fr 18=(PV.i .i64 ((j:Nat):Int))∧fr 97=(PV.i .i64 ((exN i j-exN k j:Nat):Int))∧fr 98=(PV.i .i64 ((n:Nat):Int))∧∃vx vs vr vk vt,∃t:WI,t.v=c i*(shP Y i k j*(chV i k j*Y j^n))∧wlen t.v.natAbs≤4+8*j+2*n∧M=some ⟨cs 20 c,true,0⟩::some ⟨cs 20 zF,true,0⟩::some ⟨cw 3 X,true,vx⟩::some ⟨cg 20 L,true,vs⟩::(G++some ⟨cs 3 (rowM i),true,vr⟩::(H++[some ⟨cs 3 (rowM k),true,vk⟩,some ⟨wc t,true,vt⟩]))) (fun n=>exN i j-exN k j-n) ?_ 0 ⟨by omega,by simp only[go_sem,seval,f4],by simp only[go_sem,seval,f8],by simp only[go_sem,seval,f11],by simp only[go_sem,seval,f12],by simp only[go_sem,seval,f13],by simp only[go_sem,seval,f14],by simp only[go_sem,seval,f15],by simp only[go_sem,seval,f16],by simp only[go_sem,seval,f17],by simp only[go_sem,seval,f40],by simp only[go_sem,seval,f41],by simp only[go_sem,seval,f45],by simp only[go_sem,seval,f46],by simp only[go_sem,seval,f73],by simp only[go_sem,seval],by simp only[go_sem,seval],by simp only[go_sem,seval],_,_,_,_,_,clip (t.v*(wiOf (chV i k j) cf).v),by rw[m1,tv,Int.pow_zero,Int.mul_one,Int.mul_assoc];rfl,by rw[m1];omega,rfl⟩
     clear f4 f8 f11 f12 f13 f14 f15 f16 f17 f40 f41 f45 f46 f73 pm m1 m2 tl tv
     rintro n fr M ⟨hn,f4,f8,f11,f12,f13,f14,f15,f16,f17,f40,f41,f45,f46,f73,f18,f97,f98,vx,vs,vr,vk,vt,t,tv,tl,rfl⟩ ih4
     rcases Nat.lt_or_ge n (exN i j-exN k j) with h4|h4
     ·have q6:((n:Int)<((exN i j-exN k j:Nat):Int))=True:=eq_true (by omega)
      have cx:=zp4 (n:=3) X h3
      have pm:=zdW t (X j)
      have cl:(j*2+2≤6)=True:=eq_true (by omega)
      obtain⟨m1,m2⟩:=zqI tl (Xl j) (by omega)
      simp(disch:=omega)only[go_sem,seval,wqq,f4,f8,f11,f12,f13,f14,f15,f16,f17,f40,f41,f45,f46,f73,f18,f97,f98,q6,qJ,cx,cl,zfA,pm,zne,zgQ,zf6,zkL,mG,mG0,sG,sG0,lG,lqq]
      refine ih4 (n+1) _ _ (by omega) ⟨by omega,by simp only[go_sem,seval,f4],by simp only[go_sem,seval,f8],by simp only[go_sem,seval,f11],by simp only[go_sem,seval,f12],by simp only[go_sem,seval,f13],by simp only[go_sem,seval,f14],by simp only[go_sem,seval,f15],by simp only[go_sem,seval,f16],by simp only[go_sem,seval,f17],by simp only[go_sem,seval,f40],by simp only[go_sem,seval,f41],by simp only[go_sem,seval,f45],by simp only[go_sem,seval,f46],by simp only[go_sem,seval,f73],by simp only[go_sem,seval,f18],by simp only[go_sem,seval,f97],by simp only[go_sem,seval,f98];rw[Int.natCast_succ],_,_,_,_,_,clip (t.v*(X j).v),?_,by rw[m1];omega,rfl⟩
      rw[m1,tv,Xv,Int.pow_succ];grind
     ·obtain rfl:n=exN i j-exN k j:=by omega
      have q6:(((exN i j-exN k j:Nat):Int)<((exN i j-exN k j:Nat):Int))=False:=eq_false (Int.lt_irrefl _)
      simp(disch:=omega)only[go_sem,seval,wqq,f4,f8,f11,f12,f13,f14,f15,f16,f17,f40,f41,f45,f46,f73,f18,f97,f98,q6,mG,mG0,sG,sG0,lG,lqq]
      exact ih3 (j+1) _ _ (by omega) ⟨by omega,by simp only[go_sem,seval,f4],by simp only[go_sem,seval,f8],by simp only[go_sem,seval,f11],by simp only[go_sem,seval,f12],by simp only[go_sem,seval,f13],by simp only[go_sem,seval,f14],by simp only[go_sem,seval,f15],by simp only[go_sem,seval,f16],by simp only[go_sem,seval,f17],by simp only[go_sem,seval,f40],by simp only[go_sem,seval,f41],by simp only[go_sem,seval,f45],by simp only[go_sem,seval,f46],by simp only[go_sem,seval,f73];rw[Int.natCast_succ],_,_,_,_,_,t,tv,by omega,rfl⟩
    ·obtain rfl:j=3:=by omega
     have st:shT c Y k i=c i*shP Y i k 3:=if_pos lq'
     have z1:=wz k
     have L2:∀e,(L e).length=2:=fun e=>(wz e).len
     have sL:=zdH L2 h2
     have lL:(k*2+2≤(cg 20 L).length)=True:=eq_true (by rw[zcr L2];exact zk0 h2)
     have zf:=z1.fz
     obtain⟨a1,a2⟩:=wv k h2
     rw[if_neg (Nat.lt_irrefl _)] at a1 a2
     have pa:=zgF (w k) t
     obtain⟨m1,m2⟩:=zsV a2 tl (by omega)
     have sp:=ziJ L2 h2 (v:=wc (clip ((w k).v+t.v))) (zf6 _)
     rw[zr1] at sp
     simp(disch:=omega)only[go_sem,seval,wqq,f4,f8,f11,f12,f13,f14,f15,f16,f17,f40,f41,f45,f46,f73,qK,sL,lL,zf,pa,sp,zne,zgQ,zf6,mG,mG0,sG,sG0,lG,lqq]
     refine ih2 (k+1) _ _ (by omega) ⟨by omega,by simp only[go_sem,seval,f4],by simp only[go_sem,seval,f8],by simp only[go_sem,seval,f11],by simp only[go_sem,seval,f12],by simp only[go_sem,seval,f13],by simp only[go_sem,seval,f14],by simp only[go_sem,seval,f40],by simp only[go_sem,seval,f41],by simp only[go_sem,seval,f45],by simp only[go_sem,seval,f46];rw[Int.natCast_succ],_,_,_,_,upd L k (wc (clip ((w k).v+t.v))),upd w k (clip ((w k).v+t.v)),fun e=>?_,fun e he=>?_,rfl⟩
     ·unfold upd
      split
      ·exact wzs _
      ·exact wz e
     ·by_cases ek:e=k
      ·subst ek
       rw[zfo,if_pos (Nat.lt_succ_self _),if_pos (Nat.lt_succ_self _),m1]
       exact⟨by rw[a1,tv,ss,st],by omega⟩
      ·rw[zf4 ek]
       obtain⟨a,b⟩:=wv e he
       refine⟨?_,by split at b<;>split<;>omega⟩
       rw[a]
       by_cases e1:e<k
       ·rw[if_pos e1,if_pos (by omega)]
       ·rw[if_neg e1,if_neg (by omega)]
   ·have st:shT c Y k i=0:=if_neg lq
    have go:∀e,e<20→(w e).v=(if e<k+1 then shS c Y (i+1) e else shS c Y i e)∧wlen (w e).v.natAbs≤(if e<k+1 then 41+i else 40+i):=fun e he=>by
     obtain⟨a,b⟩:=wv e he
     refine⟨?_,by split at b<;>split<;>omega⟩
     rw[a]
     by_cases ek:e=k
     ·subst ek;rw[if_neg (Nat.lt_irrefl _),if_pos (by omega),ss,st,Int.add_zero]
     ·by_cases e1:e<k
      ·rw[if_pos e1,if_pos (by omega)]
      ·rw[if_neg e1,if_neg (by omega)]
    rcases zpt ((exN i 0:Int)<(exN k 0:Int)) with g0|g0
    ·simp(disch:=omega)only[go_sem,seval,wqq,f4,f8,f11,f12,f13,f14,f40,f41,f45,f46,q2,qK,ib,zb2,r0,r1,r2,s0,s1,s2,g0,mG,mG0,sG,sG0,lG,lqq]
     exact ih2 (k+1) _ _ (by omega) ⟨by omega,by simp only[go_sem,seval,f4],by simp only[go_sem,seval,f8],by simp only[go_sem,seval,f11],by simp only[go_sem,seval,f12],by simp only[go_sem,seval,f13],by simp only[go_sem,seval,f14],by simp only[go_sem,seval,f40],by simp only[go_sem,seval,f41],by simp only[go_sem,seval,f45],by simp only[go_sem,seval,f46];rw[Int.natCast_succ],_,_,_,_,_,w,wz,go,rfl⟩
    ·rcases zpt ((exN i 1:Int)<(exN k 1:Int)) with g1|g1
     ·simp(disch:=omega)only[go_sem,seval,wqq,f4,f8,f11,f12,f13,f14,f40,f41,f45,f46,q2,qK,ib,zb2,r0,r1,r2,s0,s1,s2,g0,g1,mG,mG0,sG,sG0,lG,lqq]
      exact ih2 (k+1) _ _ (by omega) ⟨by omega,by simp only[go_sem,seval,f4],by simp only[go_sem,seval,f8],by simp only[go_sem,seval,f11],by simp only[go_sem,seval,f12],by simp only[go_sem,seval,f13],by simp only[go_sem,seval,f14],by simp only[go_sem,seval,f40],by simp only[go_sem,seval,f41],by simp only[go_sem,seval,f45],by simp only[go_sem,seval,f46];rw[Int.natCast_succ],_,_,_,_,_,w,wz,go,rfl⟩
     ·have g2:((exN i 2:Int)<(exN k 2:Int))=True:=eq_true (by
       have u0:=of_eq_false g0
       have u1:=of_eq_false g1
       unfold leQ at lq
       omega)
      simp(disch:=omega)only[go_sem,seval,wqq,f4,f8,f11,f12,f13,f14,f40,f41,f45,f46,q2,qK,ib,zb2,r0,r1,r2,s0,s1,s2,g0,g1,g2,mG,mG0,sG,sG0,lG,lqq]
      exact ih2 (k+1) _ _ (by omega) ⟨by omega,by simp only[go_sem,seval,f4],by simp only[go_sem,seval,f8],by simp only[go_sem,seval,f11],by simp only[go_sem,seval,f12],by simp only[go_sem,seval,f13],by simp only[go_sem,seval,f14],by simp only[go_sem,seval,f40],by simp only[go_sem,seval,f41],by simp only[go_sem,seval,f45],by simp only[go_sem,seval,f46];rw[Int.natCast_succ],_,_,_,_,_,w,wz,go,rfl⟩
  ·obtain rfl:k=20:=by omega
   simp(disch:=omega)only[go_sem,seval,wqq,f4,f8,f11,f12,f13,f14,f40,f41,f45,f46,mG,mG0,sG,sG0,lG,lqq]
   exact ih (i+1) _ _ (by omega) ⟨by omega,by simp only[go_sem,seval,f4],by simp only[go_sem,seval,f8],by simp only[go_sem,seval,f11],by simp only[go_sem,seval,f12],by simp only[go_sem,seval,f40],by simp only[go_sem,seval,f41];rw[Int.natCast_succ],_,_,_,_,w,wz,fun e he=>by obtain⟨a,b⟩:=wv e he;exact⟨by rw[a,if_pos he],by rw[if_pos he] at b;omega⟩,rfl⟩
 ·obtain rfl:i=20:=by omega
  clear ih
  simp(disch:=omega)only[go_sem,seval,wqq,f4,f8,f11,f12,f40,f41,z20,mG,mG0,sG,sG0,lG,lqq]
  have L2:∀e,(L e).length=2:=fun e=>(wz e).len
  have lg:(cg 20 L).length=40:=zcr L2 20
  have tk:List.take 40 (cg 20 L)=cg 20 L:=List.take_of_length_le (by omega)
  simp(disch:=omega)only[go_sem,seval,wqq,lg,tk,mG,mG0,sG,sG0,lG,lqq]
  have vS:∀e,e<20→(w e).v=shS c Y 20 e:=fun e he=>(wv e he).1
  have vF:∀e,e<20→wlen (w e).v.natAbs≤60:=fun e he=>(wv e he).2
  have hE:shE c Y=shE' c (shS c Y 20):=rfl
  have hV:okC (shS c Y 20)→shV c Y=shS c Y 20:=fun o=>by unfold shV shE;rw[if_pos hc,if_pos o];rfl
  have hW:¬okC (shS c Y 20)→shV c Y=zF:=fun o=>by unfold shV shE;rw[if_pos hc,if_neg o];rfl
  generalize shS c Y 20=S at *
  have ia:∀{k:Nat},k<20→iagP 20 true 2 (.ag (cg 20 L)) (some k)=some (.ag (L k)):=fun {k} h=>by
   rw[zdQ,if_pos ⟨h,by rw[lg]⟩,zdH L2 h];rfl
  by_cases ok:okC S
  ·have e1:shE' c S=0:=by unfold shE';rw[if_pos hc,if_pos ok]
   rw[hE,e1,hV ok]
   refine zag zAg.eq_1 (fun(k:Nat) fr M=>k≤20∧fr 8=.p 1 0∧fr 19=.p (G.length+4) 0∧fr 122=.ag (cg 20 L)∧fr 123=(PV.i .i64 ((k:Nat):Int))∧∃b0 b2 b3 f v H,(∀e,e<k→f e=S e)∧M=b0::some ⟨cs 20 zF,true,0⟩::b2::b3::(G++some ⟨cs 20 f,true,v⟩::H)) (fun k=>20-k) ?_ 0 ⟨by omega,by simp only[go_sem,seval,f8],by simp only[go_sem,seval],by simp only[go_sem,seval],by simp only[go_sem,seval],_,_,_,zF,_,[],fun e he=>by omega,rfl⟩
   clear f4 f8 f11 f12 f40 f41
   rintro k fr M ⟨hk,f8,f19,f122,f123,b0,b2,b3,f,v,H,hf,rfl⟩ ih
   rcases Nat.lt_or_ge k 20 with h2|h2
   ·have q2:((k:Int)<20)=True:=eq_true (by omega)
    have qK:(k<20)=True:=eq_true h2
    have ib:=ia h2
    have zk:=wz k
    have z1:=zk.len
    have z2:=zk.sc
    have z3:=zk.fz
    have z4:=zk.tk
    have sp:psplice [.b false,.nl] 0 (L k)=L k:=spl2 _ _ _ z1
    have vk:=vS k h2
    have bk:=ok k h2
    have ps:=zdX (w k)
    obtain⟨s1,s2⟩:=ziA (n:=S k) (by unfold Fits64;omega)
    rw[vk,s1,s2] at ps
    have t1:(S k < -1073741824)=False:=eq_false (by omega)
    have t2:(S k>1073741824)=False:=eq_false (by omega)
    simp(disch:=omega)only[go_sem,seval,wqq,f8,f19,f122,f123,q2,qK,ib,z1,z2,z3,z4,sp,zne,ps,t1,t2,mG,mG0,sG,sG0,lG,lqq]
    refine ih (k+1) _ _ (by omega) ⟨by omega,by simp only[go_sem,seval,f8],by simp only[go_sem,seval,f19],by simp only[go_sem,seval,f122],by simp only[go_sem,seval,f123];rw[Int.natCast_succ],_,_,_,_,_,_,fun e he=>?_,rfl⟩
    unfold upd
    split
    ·rename_i q;rw[q]
    ·exact hf e (by omega)
   ·obtain rfl:k=20:=by omega
    simp(disch:=omega)only[go_sem,seval,wqq,f8,f19,f122,f123,mG,mG0,sG,sG0,lG,lqq]
    rw[ziD hf]
  ·have e1:shE' c S=5:=by unfold shE';rw[if_pos hc,if_neg ok]
   rw[hE,e1,hW ok]
   refine zag zAg.eq_1 (fun(k:Nat) fr M=>k≤20∧(∀e,e<k → -1073741824≤S e∧S e≤1073741824)∧fr 8=.p 1 0∧fr 19=.p (G.length+4) 0∧fr 122=.ag (cg 20 L)∧fr 123=(PV.i .i64 ((k:Nat):Int))∧∃b0 b2 b3 f v H,M=b0::some ⟨cs 20 zF,true,0⟩::b2::b3::(G++some ⟨cs 20 f,true,v⟩::H)) (fun k=>20-k) ?_ 0 ⟨by omega,fun e he=>by omega,by simp only[go_sem,seval,f8],by simp only[go_sem,seval],by simp only[go_sem,seval],by simp only[go_sem,seval],_,_,_,zF,_,[],rfl⟩
   clear f4 f8 f11 f12 f40 f41
   rintro k fr M ⟨hk,hlo,f8,f19,f122,f123,b0,b2,b3,f,v,H,rfl⟩ ih
   have h2:k<20:=by
    rcases Nat.lt_or_ge k 20 with z|z
    ·exact z
    ·obtain rfl:k=20:=by omega
     exact absurd hlo ok
   have q2:((k:Int)<20)=True:=eq_true (by omega)
   have qK:(k<20)=True:=eq_true h2
   have ib:=ia h2
   have zk:=wz k
   have z1:=zk.len
   have z2:=zk.sc
   have z3:=zk.fz
   have z4:=zk.tk
   have sp:psplice [.b false,.nl] 0 (L k)=L k:=spl2 _ _ _ z1
   have vk:=vS k h2
   have ps:=zdX (w k)
   rw[vk] at ps
   cases sm:isSmall (S k) with
   | false =>
    rw[sm] at ps
    simp(disch:=omega)only[go_sem,seval,wqq,f8,f19,f122,f123,q2,qK,ib,z1,z2,z3,z4,sp,zne,ps,z20,mG,mG0,sG,sG0,lG,lqq]
   | true =>
    have s1:small (S k)=S k:=by unfold small;rw[sm];rfl
    rw[sm,s1] at ps
    rcases zpt (S k < -1073741824) with t1|t1
    ·simp(disch:=omega)only[go_sem,seval,wqq,f8,f19,f122,f123,q2,qK,ib,z1,z2,z3,z4,sp,zne,ps,t1,z20,mG,mG0,sG,sG0,lG,lqq]
    ·rcases zpt (S k>1073741824) with t2|t2
     ·simp(disch:=omega)only[go_sem,seval,wqq,f8,f19,f122,f123,q2,qK,ib,z1,z2,z3,z4,sp,zne,ps,t1,t2,z20,mG,mG0,sG,sG0,lG,lqq]
     ·simp(disch:=omega)only[go_sem,seval,wqq,f8,f19,f122,f123,q2,qK,ib,z1,z2,z3,z4,sp,zne,ps,t1,t2,mG,mG0,sG,sG0,lG,lqq]
      have u1:=of_eq_false t1
      have u2:=of_eq_false t2
      refine ih (k+1) _ _ (by omega) ⟨by omega,fun e he=>?_,by simp only[go_sem,seval,f8],by simp only[go_sem,seval,f19],by simp only[go_sem,seval,f122],by simp only[go_sem,seval,f123];rw[Int.natCast_succ],_,_,_,_,_,_,rfl⟩
      rcases Nat.lt_or_ge e k with z|z
      ·exact hlo e z
      ·obtain rfl:e=k:=by omega
       omega
theorem zow (c:Nat→Int) {x y z:Int} (hx:Fits64 x) (hy:Fits64 y) (hz:Fits64 z):pf E0 396 [aI 20 c,.i .i64 x,.i .i64 y,.i .i64 z]=some (.tu [aI 20 (shV c (s3 (-x) (-y) (-z))),.i .i64 (shE c (s3 (-x) (-y) (-z)))]):=by
 by_cases hc:okC c
 ·exact zlL hc hx hy hz rfl
 ·have e1:shE c (s3 (-x) (-y) (-z))=1:=if_neg hc
  have e2:shV c (s3 (-x) (-y) (-z))=zF:=by unfold shV;rw[e1];rfl
  rw[e1,e2]
  exact zlK hc _ _ _
end Go.Eng
namespace Go.Eng
def cL:Nat→Int:=fun e=>[2,3,0,0,0,0,-1].getD e 0
theorem zkZ:okC cL:=by unfold okC;decide
theorem zpM:[PV.i .i64 2,.i .i64 3,.i .i64 0,.i .i64 0,.i .i64 0,.i .i64 0,.i .i64 (-1),.i .i64 0,.i .i64 0,.i .i64 0,.i .i64 0,.i .i64 0,.i .i64 0,.i .i64 0,.i .i64 0,.i .i64 0,.i .i64 0,.i .i64 0,.i .i64 0,.i .i64 0]=cs 20 cL:=rfl
theorem zhN {n:Int} (h:Fits64 n):pf E0 410 [.i .i64 n]=some (fqP (whQ n)):=by
 have o:=znh h
 refine zaa (xf:=zzT) rfl (by simp[zzT]) ?_
 simp only[zzT]
 simp(disch:=omega)only[go_sem,seval,wqq,o]
theorem zdN {f:FQ} (h1:f.p.v.natAbs≤4611686018427387904) (h2:f.q.v.natAbs≤4611686018427387904):fwD f:=by
 have a:=zcS (k:=f.p.v.natAbs) (n:=63) (by omega)
 have b:=zcS (k:=f.q.v.natAbs) (n:=63) (by omega)
 unfold fwD
 omega
theorem zlv:∃h x:FQ,pf E0 17 [.i .i64 1,.i .i64 2]=some (.tu [fqP h,.i .i64 0])∧pf E0 409 [aI 20 cL,fqP h,fqP fq0,fqP (whQ 4)]=some (.tu [fqP x,.i .i64 0])∧pf E0 16 [fqP x]=some (.s [51,47,50]):=by
 obtain⟨h,h1,h2,ho⟩:=zoE (p:=1) (q:=2) (by decide) (by decide) (by decide)
 have l1:lowP 1 2=1∧lowQ 1 2=2:=ze0 (p:=1) (q:=2) (by decide) (by decide)
 have h1:=h1.trans l1.1
 have h2:=h2.trans l1.2
 have hz:fsz 5 h:=⟨by rw[h1];exact zai (by decide),by rw[h2];exact zai (by decide)⟩
 obtain⟨w1,w2⟩:=zmf (n:=4) (by decide)
 obtain⟨_,wz⟩:=zng (n:=4) (by decide)
 have fz:fsz 5 fq0:=⟨by show tlen (0:Int).natAbs≤5;exact zai (by decide),by show tlen (1:Int).natAbs≤5;exact zai (by decide)⟩
 have U3:∀j,j<3→fsz 5 (s3 h fq0 (whQ 4) j):=fun j hj=>by
  obtain rfl|rfl|rfl:=zkz hj
  ·exact hz
  ·exact fz
  ·exact wz
 have ev:=zjW (c:=cL) (U:=s3 h fq0 (whQ 4))
 have e0:evE cL (s3 h fq0 (whQ 4))=0:=by
  unfold evE
  rw[if_pos zkZ,if_pos fun j hj=>?_]
  obtain rfl|rfl|rfl:=zkz hj
  ·exact zdN (by show h.p.v.natAbs≤_;rw[h1];decide) (by show h.q.v.natAbs≤_;rw[h2];decide)
  ·exact zdN (by show (0:Int).natAbs≤_;decide) (by show (1:Int).natAbs≤_;decide)
  ·exact zdN (by show (whQ 4).p.v.natAbs≤_;rw[w1];decide) (by show (whQ 4).q.v.natAbs≤_;rw[w2];decide)
 have e1:evR cL (s3 h fq0 (whQ 4))=sF cL (s3 h fq0 (whQ 4)) 20:=if_pos e0
 rw[e0,e1] at ev
 obtain⟨i1,_,_⟩:=zo6 (c:=cL) (U:=s3 h fq0 (whQ 4)) (n:=5) zkZ (by decide) U3 20 (by decide)
 have p3:pP (s3 h fq0 (whQ 4))=s3 1 0 4:=funext fun j=>by
  unfold pP s3
  split
  ·exact h1
  ·split
   ·rfl
   ·exact w1
 have q3:qQ (s3 h fq0 (whQ 4))=s3 2 1 1:=funext fun j=>by
  unfold qQ s3
  split
  ·exact h2
  ·split
   ·rfl
   ·exact w2
 rw[p3,q3] at i1
 have v1:evS cL (s3 1 0 4) (s3 2 1 1) 20=12:=by decide
 have v2:dnV (s3 2 1 1)=8:=by decide
 rw[v1,v2] at i1
 obtain⟨x1,x2⟩:=zqw (p:=3) (q:=2) (by decide) (by decide) (by decide) i1 (by decide)
 have d3:decI 3=[51]:=(zmy (v:=3) (n:=0) rfl (by decide) (by decide)).trans rfl
 have d2:decI 2=[50]:=(zmy (v:=2) (n:=0) rfl (by decide) (by decide)).trans rfl
 have s1:=zrL _ (t:=[51,47,50]) x1 x2 (by unfold ftx;rw[if_neg (by decide),d3,d2];rfl)
 exact⟨h,_,ho,ev,s1⟩
theorem zlw:pf E0 407 [aI 20 cL]=some (.tu [aI 60 (grI cL 20),.i .i64 0]):=by
 have g:=zq6 cL
 have e0:grE cL=0:=by
  unfold grE
  rw[if_pos zkZ,if_pos (by unfold okC;decide)]
 have e1:grV cL=grI cL 20:=if_pos e0
 rw[e0,e1] at g
 exact g
def sL:Nat→Int:=fun e=>[-1,3,0,1,0,0,-1].getD e 0
theorem zlx:pf E0 396 [aI 20 cL,.i .i64 1,.i .i64 0,.i .i64 0]=some (.tu [aI 20 sL,.i .i64 0]):=by
 have g:=zow cL (x:=1) (y:=0) (z:=0) (by decide) (by decide) (by decide)
 have ok:okC (shS cL (s3 (-1) (-0) (-0)) 20):=by unfold okC;decide
 have e0:shE cL (s3 (-1) (-0) (-0))=0:=by unfold shE;rw[if_pos zkZ,if_pos ok]
 have e1:shV cL (s3 (-1) (-0) (-0))=shS cL (s3 (-1) (-0) (-0)) 20:=if_pos e0
 have e2:aI 20 (shS cL (s3 (-1) (-0) (-0)) 20)=aI 20 sL:=ziD (by decide)
 rw[e0,e1,e2] at g
 exact g
def gL:Nat→Int:=fun e=>[3,0,0,-1].getD e 0
theorem ztG:[PV.i .i64 3,.i .i64 0,.i .i64 0,.i .i64 (-1),.i .i64 0,.i .i64 0,.i .i64 0,.i .i64 0,.i .i64 0,.i .i64 0,.i .i64 0,.i .i64 0,.i .i64 0,.i .i64 0,.i .i64 0,.i .i64 0,.i .i64 0,.i .i64 0,.i .i64 0,.i .i64 0]=cs 20 gL:=rfl
theorem zvq:[PV.i .i64 (-1),.i .i64 3,.i .i64 0,.i .i64 1,.i .i64 0,.i .i64 0,.i .i64 (-1),.i .i64 0,.i .i64 0,.i .i64 0,.i .i64 0,.i .i64 0,.i .i64 0,.i .i64 0,.i .i64 0,.i .i64 0,.i .i64 0,.i .i64 0,.i .i64 0,.i .i64 0]=cs 20 sL:=rfl
theorem zqy:(cs 60 (grI cL 20)).take 20=cs 20 gL:=by
 have h:=zek (n:=60) (grI cL 20) (off:=0) (k:=20) (by decide)
 rw[List.drop_zero] at h
 rw[h]
 exact ziQ (by decide)
theorem ztm (X:Nat→Int):eqaP [1,1,1,1,1,1,1,1,1,1,1,1,1,1,1,1,1,1,1,1] (aI 20 X) (aI 20 X)=some true:=zp2 20 X
theorem zxE:dgR cL 20=2:=by decide
set_option maxHeartbeats 8000000 in
theorem ze6:pf E0 400 []=some (.b true):=by
 obtain⟨h,x,ho,ev,s1⟩:=zlv
 have gr:=zlw
 have sh:=zlx
 have dg:=zlJ cL
 rw[zxE] at dg
 rw[zmz] at ev
 have w4:=zhN (n:=4) (by decide)
 refine zaa (xf:=zzN) rfl (by simp[zzN]) ?_
 simp only[zzN]
 simp(disch:=omega)only[go_sem,seval,wqq,ho,zpM,z60]
 refine zaC [1,2] rfl (by simp only[go_sem,seval]) ?_
 simp(disch:=omega)only[go_sem,seval,wqq,w4,zmz,ev,z60,gr,sh,s1,dg,ztG,zvq,zpM,zqy,ztm]
end Go.Eng
namespace Go.Eng
def adV (X:Nat→Int):Nat→Int:=fun e=>mnV X (e%3) (e/3)
end Go.Eng
namespace Go.Eng
end Go.Eng
namespace Go.Eng
def isPF (E:PEnv):PV→Bool
 | .fn f _=>E.pure f
 | _=>false
def slotIn4 (E:PEnv) (ops:List XOper) (L V:List Nat) (c:Nat×Nat):Bool :=
 match ops[c.1]?,ops[c.2]? with
 | some a,some b =>
  match a.op with
  | .load _ _ (.t s)=>L.contains s&&(match b.op with | .callv (.t v) _=>V.contains v&&fixedX ops c.2 (.t v)|_=>calmOp E b.op)
  | _=>false
 | _,_=>false
end Go.Eng
namespace Go.Eng
def slarrB (m off n z:Nat) (lo hi:Option PV):Option PB→Option PV
 | some b=>if off+n*z≤b.v.length then slP z (.sl m off n n z) lo hi none else none
 | none=>none
def slarrP (M:PM) (n z:Nat) (lo hi:Option PV):PV→Option PV
 | .p m off=>slarrB m off n z lo hi (PM.blk M m)
 | .fp l=>if n*z≤l.length∧n*z≠0∧l.all PV.scal=true then slP z (.lst (group z n (l.take (n*z)))) lo hi none else none
 | _=>none
def rwV (a b c un ud vn vd:Int):Int:=a*un*vd+b*vn*ud+c*(ud*vd)
end Go.Eng
namespace Go.Eng
def q8 (a b c d e f g h:Int):PV:=.ag [.i .i64 a,.i .i64 b,.i .i64 c,.i .i64 d,.i .i64 e,.i .i64 f,.i .i64 g,.i .i64 h]
end Go.Eng
namespace Go.Eng
end Go.Eng
namespace Go.Eng
end Go.Eng
namespace Go.Eng
end Go.Eng
namespace Go.Eng
theorem zjI {k n:Nat} (h:2^n≤k):n<nbits k:=by
 have h0:k≠0:=fun q=>by have:=Nat.two_pow_pos n;omega
 unfold nbits
 rw[if_neg h0]
 have:=(Nat.le_log2 h0).2 h
 omega
theorem zkX {k n:Nat} (h:nbits k≤n):k<2^n:=Nat.lt_of_not_le fun q=>by have:=zjI q;omega
theorem zvm:(2:Nat)^250≤10000^19:=by decide
theorem zfv {k:Nat} (h:nbits k≤1000):tlen k≤76:=by
 have h2:nbits k≤250*4:=h
 have e1:∀m:Nat,m=250→2^(m*4)≤10000^(19*4):=fun m hm=>by
  rw[Nat.pow_mul,Nat.pow_mul]
  exact Nat.pow_le_pow_left (by rw[hm];exact zvm) 4
 refine zaP.2 (Nat.lt_of_lt_of_le (zkX h2) (e1 250 rfl))
def rwF (p:Nat→Int) (i:Nat) (u v:FQ):Int:=rwV (p (3*i)) (p (3*i+1)) (p (3*i+2)) u.p.v u.q.v v.p.v v.q.v
theorem ztA (u:FQ):u.q.v≠0:=by have:=u.q1;omega
end Go.Eng
namespace Go.Eng
def oneI:Nat→Int:=fun e=>if e%4=0 then 1 else 0
end Go.Eng
namespace Go.Eng
end Go.Eng
namespace Go.Eng
theorem hF (p:Nat→Int):PV.ag [.i .i64 (p 0),.i .i64 (p 1),.i .i64 (p 2),.i .i64 (p 3),.i .i64 (p 4),.i .i64 (p 5),.i .i64 (p 6),.i .i64 (p 7),.i .i64 (p 8)]=pI p:=rfl
def e9 (a b:Nat→Int):Bool:=a 0==b 0&&(a 1==b 1&&(a 2==b 2&&(a 3==b 3&&(a 4==b 4&&(a 5==b 5&&(a 6==b 6&&(a 7==b 7&&a 8==b 8)))))))
end Go.Eng
namespace Go.Eng
def gEnt (n d:Int):Int:=if n.tmod 6=1∨n.tmod 6 = -1 then (n.tdiv 6).tmod 8 else if n.tmod 6=2 then (n.tdiv 6).tmod 1000 else if n.tmod 6=3 then 1073741824-(n.tdiv 6).tmod 4 else d
def g0P:Nat→Int:=fun e=>if e=0 then 2 else if e=4 then 2 else if e=8 then 1 else 0
def gMix (ns:Nat→Int) (i:Nat):Nat→Int:=fun e=>if e<i then gEnt (ns e) (g0P e) else g0P e
theorem gk0 (ns:Nat→Int) (h:gEnt (ns 0) (g0P 0)=g0P 0):cI (gMix ns 0)=cI (gMix ns 1):=by
 have e:gMix ns 0=gMix ns 1:=by
  funext e
  unfold gMix
  by_cases q:e=0
  ·subst q;rw[if_neg (by decide),if_pos (by decide),h]
  ·by_cases r:e<0
   ·rw[if_pos r,if_pos (by omega)]
   ·rw[if_neg r,if_neg (by omega)]
 rw[e]
end Go.Eng
namespace Go.Eng
theorem zhL (x:WI):∃s:List UInt8,pf E0 107 [nP x.v]=some (.s s)∧pf E0 110 [.s s]=some (.tu [wiP x,.i .i64 0]):=by
 have lx:=zdd x
 have h1:=zrb (z:=x.v) (by omega)
 have h2:=zov (decI x.v) (zgp x)
 rw[zis,if_pos ((zaF _).1 x.lim)] at h2
 have hc:clip x.v=x:=zbn x.lim
 simp only at h2
 rw[hc] at h2
 exact⟨_,h1,h2⟩
end Go.Eng
namespace Go.Eng
end Go.Eng
namespace Go.Eng
end Go.Eng
namespace Go.Eng
end Go.Eng
namespace Go.Eng
end Go.Eng
namespace Go.Eng
end Go.Eng
namespace Go.Eng
theorem zrm (f:FQ):pf E0 405 [rfQ f]=some (fqP f):=by
 obtain⟨s,t1,t2⟩:=zhL f.p
 obtain⟨u,v1,v2⟩:=zhL f.q
 have m:=zhy f.p f.q (ztA f)
 obtain⟨g,g1,g2,gm⟩:=m
 have hq:=f.q1
 obtain⟨l1,l2⟩:=ze0 (p:=f.p.v) (q:=f.q.v) (by omega) f.cop
 obtain rfl:g=f:=zhc (g1.trans l1) (g2.trans l2)
 refine zaa (xf:=zAG) rfl (by simp[zAG]) ?_
 simp only[zAG]
 unfold rfQ rfP
 simp(disch:=omega)only[go_sem,seval,wqq,t1,t2,v1,v2,gm]
end Go.Eng
namespace Go.Eng
def GrowsK (z:Nat) (M:PM) (v:PV) (n:Nat) (cs:List PV):Prop :=
 cs.length=n*z∧((n=0∧v=.nl)∨∃k e,v=.sl k 0 n n z∧PM.blk M k=some ⟨cs,true,e⟩)
theorem zfL (z:Nat) (M:PM):GrowsK z M .nl 0 []:=⟨by simp,.inl ⟨rfl,rfl⟩⟩
theorem zcA {z:Nat} {M:PM} {v:PV} {n:Nat} {cs:List PV} (h:GrowsK z M v n cs) (c:Option PB):GrowsK z (M++[c]) v n cs:=by
 refine⟨h.1,?_⟩
 rcases h.2 with h|⟨k,e,h1,h2⟩
 ·exact .inl h
 ·refine .inr ⟨k,e,h1,?_⟩
  have hl:=zbh h2
  rw[zaw] at h2 ⊢
  rw[List.getElem?_append_left hl];exact h2
theorem zcc {z:Nat} {v:PV} {n:Nat} {cs:List PV}:∀(L:PM) {M:PM},GrowsK z M v n cs→GrowsK z (M++L) v n cs
 | [],M,h=>by rw[List.append_nil];exact h
 | c::L,M,h=>by
  have:=zcc L (zcA h c)
  rwa [List.append_assoc,List.singleton_append] at this
theorem zjM {z:Nat} {M:PM} {v:PV} {n:Nat} {cs:List PV} (h:GrowsK z M v n cs) {j:Nat} (hj:M.length≤j):NotIn v j:=by
 rcases h.2 with⟨_,rfl⟩|⟨k,e,rfl,hb⟩
 ·trivial
 ·have:=zbh hb
  simp[NotIn];omega
theorem zgT {z by_:Nat} (hz:1≤z) (hby:by_≤100000) {M:PM} {v:PV} {n:Nat} {cs:List PV} (h:GrowsK z M v n cs) {x:Nat} {c:List PV} {b:Bool} {e:Nat} (hc:c.length=z) (hx:PM.blk M x=some ⟨c,b,e⟩) (hl:n<100000) :
  ∃v' M',appP M z by_ v (.sl x 0 1 1 z)=some (v',M')∧GrowsK z M' v' (n+1) (cs++c)∧(∀j b,PM.blk M j=some b→NotIn v j→PM.blk M' j=some b∧NotIn v' j)∧M.length≤M'.length:=by
 have hs:srcP M z (.sl x 0 1 1 z)=some (1,c):=by
  have:PM.rd M x 0 (1*z)=some c:=by
   unfold PM.rd
   rw[hx]
   simp only[Nat.zero_add,Nat.one_mul,List.drop_zero]
   rw[if_pos (by omega),List.take_of_length_le (by omega)]
  simp only[srcP]
  rw[if_neg (by decide),if_pos trivial,this];rfl
 have hm:(n+1)*by_≤100000*100000:=Nat.mul_le_mul (by omega) hby
 obtain⟨h0,h⟩:=h
 rcases h with⟨rfl,rfl⟩|⟨k,e',rfl,hb⟩
 ·have:cs=[]:=List.length_eq_zero_iff.1 (by omega)
  subst this
  refine⟨.sl M.length 0 1 1 z,M++[some (⟨c,true,0⟩:PB)],?_,⟨by simp[hc],.inr ⟨M.length,0,rfl,?_⟩⟩,?_,by simp⟩
  ·simp only[appP,hs]
   rw[if_neg (by decide),if_pos (by omega)]
  ·rw[List.nil_append];exact zaK _ _
  ·intro j b hj _
   have hlt:=zbh hj
   refine⟨?_,by simp[NotIn];omega⟩
   rw[zaw] at hj ⊢
   rw[List.getElem?_append_left hlt];exact hj
 ·have hlt:=zbh hb
  refine⟨.sl M.length 0 (n+1) (n+1) z,M.set k none++[some (⟨cs++c,true,0⟩:PB)],?_,⟨by rw[List.length_append,h0,hc,Nat.succ_mul],.inr ⟨M.length,0,rfl,?_⟩⟩,?_,by simp⟩
  ·simp only[appP,hs,hb]
   rw[if_neg (by omega),if_neg (by decide),if_pos ⟨trivial,by omega,by omega⟩,List.drop_zero,List.take_of_length_le (by omega)]
  ·have:=zaK (M.set k none) (some (⟨cs++c,true,0⟩:PB))
   simpa using this
  ·intro j b hj hne
   have hltj:=zbh hj
   refine⟨?_,by simp[NotIn];omega⟩
   rw[zaw] at hj ⊢
   rw[List.getElem?_append_left (by simp;omega),List.getElem?_set_ne hne];exact hj
theorem zmj {E:PEnv} {F:PFin} {r:Option (PV×PM)} {P:PV→PM→Prop} {d:Option Nat} {l:List XOper} {ks:List KI} {fr:PFr} (h:∃v' M',r=some (v',M')∧P v' M') (k:∀v' M',P v' M'→WV E F (some (v',M')) d l ks fr):WV E F r d l ks fr:=by
 obtain⟨v',M',rfl,hp⟩:=h
 exact k v' M' hp
def Apart2 (va vb:PV):Prop:=∀k n z,vb=.sl k 0 n n z→NotIn va k
theorem zft {z n m:Nat} {M:PM} {va vb:PV} {ca cb:List PV} (ga:GrowsK z M va n ca) (gb:GrowsK z M vb m cb) (h:Apart2 va vb):Apart2 vb va:=by
 intro k n' z' e
 rcases gb.2 with⟨_,rfl⟩|⟨k2,e2,rfl,_⟩
 ·trivial
 ·have:=h k2 m z rfl
  rw[e] at this
  simp only[NotIn] at this ⊢
  exact fun q=>this q.symm
theorem zdP {z n:Nat} {M M':PM} {v w w':PV} {cs:List PV} (g:GrowsK z M v n cs) (h:Apart2 w v) (hk:∀j b,PM.blk M j=some b→NotIn w j→PM.blk M' j=some b∧NotIn w' j):GrowsK z M' v n cs∧Apart2 w' v:=by
 rcases g.2 with⟨h0,rfl⟩|⟨k,e,rfl,hb⟩
 ·exact⟨⟨g.1,.inl ⟨h0,rfl⟩⟩,fun k n z e=>by cases e⟩
 ·obtain⟨b1,b2⟩:=hk k _ hb (h k n z rfl)
  refine⟨⟨g.1,.inr ⟨k,e,rfl,b1⟩⟩,fun k' n' z' e'=>?_⟩
  cases e'
  exact b2
theorem zpD {G:PM} {va vb:PV} {n m:Nat} {ca cb c:List PV} (ga:GrowsK 4 G va n ca) (gb:GrowsK 4 G vb m cb) (gn:Apart2 va vb) (hc:c.length=4) (hn:n<100000) (p1 p2 p3:Option PB) (b4:PB) :
  ∃v' M',appP (G++[p1,p2,p3,some b4,some ⟨c,true,0⟩]) 4 64 va (.sl (G.length+4) 0 1 1 4)=some (v',M')∧(GrowsK 4 M' v' (n+1) (ca++c)∧PM.blk M' (G.length+3)=some b4∧GrowsK 4 M' vb m cb∧Apart2 v' vb):=by
 have gb':=zcc [p1,p2,p3,some b4,some ⟨c,true,0⟩] gb
 obtain⟨v',M',h1,h2,h3,h4⟩:=zgT (z:=4) (by_:=64) (by decide) (by decide) (zcc [p1,p2,p3,some b4,some ⟨c,true,0⟩] ga) (x:=G.length+4) hc (b:=true) (e:=0) (mG _ _ _) hn
 obtain⟨k1,k2⟩:=zdP gb' gn h3
 exact⟨v',M',h1,h2,(h3 _ _ (mG _ _ _) (zjM ga (by omega))).1,k1,k2⟩
theorem zpE {M2:PM} {va vb:PV} {n m:Nat} {ca cb c:List PV} (ga:GrowsK 4 M2 va n ca) (gb:GrowsK 4 M2 vb m cb) (gn:Apart2 va vb) (hc:c.length=4) (hm:m<100000) :
  ∃v' M',appP (M2++[some ⟨c,true,0⟩]) 4 64 vb (.sl M2.length 0 1 1 4)=some (v',M')∧(GrowsK 4 M' va n ca∧GrowsK 4 M' v' (m+1) (cb++c)∧Apart2 va v'):=by
 have ga':=zcA ga (some ⟨c,true,0⟩)
 obtain⟨v',M',h1,h2,h3,h4⟩:=zgT (z:=4) (by_:=64) (by decide) (by decide) (zcA gb (some ⟨c,true,0⟩)) (x:=M2.length) hc (b:=true) (e:=0) (zaK _ _) hm
 obtain⟨k1,k2⟩:=zdP ga' (zft ga gb gn) h3
 exact⟨v',M',h1,k1,h2,zft h2 k1 k2⟩
theorem zfI {z n d:Nat} {M:PM} {v:PV} {cs cs':List PV} (g:GrowsK z M v n cs) (hn:n≠0) (hz:z≠0) (h:fzL (fz M d) cs=some (cs',[])):∃ns,fz M (d+1) v=some (.lst (group z n cs'),ns):=by
 rcases g.2 with⟨h0,_⟩|⟨k,e,rfl,hb⟩
 ·exact absurd h0 hn
 ·refine⟨[k],?_⟩
  have hr:PM.rd M k 0 (n*z)=some cs:=by
   unfold PM.rd
   rw[hb]
   simp only[Nat.zero_add,List.drop_zero]
   rw[if_pos (by rw[g.1];exact Nat.le_refl _),List.take_of_length_le (by rw[g.1];exact Nat.le_refl _)]
  rw[fz]
  rw[if_neg hn,if_neg hz,hr]
  simp only[h,Option.map_some]
theorem zmA (xs:List Int) (i:Int):∃f:FQ,Ints xs→0≤i→i≤100→fsz 122 f∧pf E0 187 [ints xs,.i .i64 i]=some (rfQ f):=by
 by_cases h:Ints xs∧0≤i∧i≤100
 ·obtain⟨f,h1,h2⟩:=zlR h.1 h.2.1 h.2.2
  exact⟨f,fun _ _ _=>⟨h1,h2⟩⟩
 ·exact⟨fq0,fun a b c=>absurd ⟨a,b,c⟩ h⟩
noncomputable def frcF (xs:List Int) (i:Int):FQ:=(zmA xs i).choose
theorem zmN {xs:List Int} (hx:Ints xs) {i:Int} (h0:0≤i) (h1:i≤100):pf E0 187 [ints xs,.i .i64 i]=some (rfQ (frcF xs i)):=((zmA xs i).choose_spec hx h0 h1).2
theorem zlz {a b:FQ} (h:cmpF a b>0):mkI b a=mkI a b:=by
 unfold mkI
 rw[if_pos h,if_neg]
 rw[zdI] at *
 omega
noncomputable def bxM (xs:List Int) (j:Nat):IV×Int:=mkI (frcF xs (8*j)) (frcF xs (8*j+4))
noncomputable def bxU (xs:List Int) (j:Nat):IV:=(bxM xs j).1
def bxOk (xs:List Int):Prop:=∀j,j<3→(bxM xs j).2=0
open Classical in
set_option maxHeartbeats 4000000 in
theorem zt3 {xs:List Int} (hx:Ints xs):pf E0 411 [ints xs,.i .i64 0]=some (if bxOk xs then .tu [.lst [ivP (bxU xs 0),ivP (bxU xs 1),ivP (bxU xs 2)],.lst [rvP (bxU xs 0),rvP (bxU xs 1),rvP (bxU xs 2)],.b true] else .tu [.lst [],.lst [],.b false]):=by
 refine zaa (xf:=zAu) rfl (by simp[zAu]) ?_
 simp only[zAu]
 simp(disch:=omega)only[go_sem,seval,wqq]
 refine zag zBa.eq_1 (fun(j:Nat) fr M=>j≤3∧(∀e,e<j→(bxM xs e).2=0)∧fr 0=ints xs∧fr 1=.i .i64 0∧fr 9=(PV.i .i64 ((j:Nat):Int))∧∃va vb,fr 7=va∧fr 8=vb∧GrowsK 4 M va j (cg j fun e=>vc (bxU xs e))∧GrowsK 4 M vb j (cg j fun e=>rc (bxU xs e))∧Apart2 va vb) (fun j=>3-j) ?_ 0 ⟨by omega,fun e he=>by omega,by simp only[go_sem,seval],by simp only[go_sem,seval],by simp only[go_sem,seval],.nl,.nl,by simp only[go_sem,seval],by simp only[go_sem,seval],zfL _ _,zfL _ _,fun _ _ _ _=>trivial⟩
 rintro j fr G ⟨hj,he,f0,f1,f9,va,vb,f7,f8,ga,gb,gn⟩ ih
 rcases Nat.lt_or_ge j 3 with h|h
 ·have q1:((j:Int)<3)=True:=eq_true (by omega)
  have z1:(0+8*(j:Int))=8*(j:Int):=by omega
  have n1:=zmN hx (i:=8*(j:Int)) (by omega) (by omega)
  have n2:=zmN hx (i:=8*(j:Int)+4) (by omega) (by omega)
  have hb:bxM xs j=mkI (frcF xs (8*j)) (frcF xs (8*j+4)):=rfl
  have hu:bxU xs j=(bxM xs j).1:=rfl
  generalize frcF xs (8*(j:Int))=a at *
  generalize frcF xs (8*(j:Int)+4)=b at *
  have c1:pf E0 200 [rfQ a,rfQ b]=some (.i .i64 (cmpF a b)):=zd2 _ _ _ _ (by have:=zdm a.p;omega) (by have:=zdm a.q;omega) (by have:=zdm b.p;omega) (by have:=zdm b.q;omega)
  have o1:=zrm a
  have o2:=zrm b
  have fin:∀c d:FQ,mkI c d=bxM xs j→pf E0 278 [fqP c,fqP d]=some (.tu [ivP (bxU xs j),.i .i64 (bxM xs j).2])∧pf E0 345 [rfQ c,rfQ d]=some (.tu [rvP (bxU xs j),.i .i64 (bxM xs j).2]):=fun c d hc=>by
   rw[hu,←hc];exact⟨ze5 c d,zlT c d⟩
  obtain⟨c,d,hcd⟩:∃c d:FQ,((0<cmpF a b)=True∧c=b∧d=a)∨((0<cmpF a b)=False∧c=a∧d=b):=by
   by_cases hc:cmpF a b>0
   ·exact⟨b,a,.inl ⟨eq_true hc,rfl,rfl⟩⟩
   ·exact⟨a,b,.inr ⟨eq_false hc,rfl,rfl⟩⟩
  obtain⟨m1,m2⟩:=fin c d (by
   rcases hcd with⟨q2,rfl,rfl⟩|⟨q2,rfl,rfl⟩
   ·exact(zlz (of_eq_true q2)).trans hb.symm
   ·exact hb.symm)
  clear fin hb hu
  by_cases he2:(bxM xs j).2=0
  ·have hlast:∀e,e<j+1→(bxM xs e).2=0:=fun e h'=>by
    rcases Nat.lt_or_ge e j with q|q
    ·exact he e q
    ·obtain rfl:e=j:=by omega
     exact he2
   rw[he2] at m1 m2
   rcases hcd with⟨q2,rfl,rfl⟩|⟨q2,rfl,rfl⟩
   ·simp(disch:=omega)only[go_sem,seval,wqq,f0,f1,f7,f8,f9,q1,z1,n1,n2,c1,q2,mG,mG0,sG,sG0,lG,lqq]
    refine zak rfl ?_
    simp(disch:=omega)only[go_sem,seval,wqq,f0,f1,f7,f8,f9,o1,o2,m1,m2,zaj,zac,mG,mG0,sG,sG0,lG,lqq]
    refine zmj (zpD ga gb gn (zd7 (bxU xs j)) (by omega) _ _ _ _) ?_
    rintro va' M2 ⟨h1,h2,h3,h4⟩
    simp(disch:=omega)only[go_sem,seval,wqq,f0,f1,f8,f9,h2,zaj,zac,mG,mG0,sG,sG0,lG,lqq]
    refine zmj (zpE h1 h3 h4 (zmX (bxU xs j)) (by omega)) ?_
    rintro vb' M3 ⟨h5,h6,h7⟩
    simp(disch:=omega)only[go_sem,seval,wqq,f0,f1,f9,mG,mG0,sG,sG0,lG,lqq]
    exact ih (j+1) _ _ (by omega) ⟨by omega,hlast,by simp only[go_sem,seval,f0],by simp only[go_sem,seval,f1],by simp only[go_sem,seval];rw[Int.natCast_succ],va',vb',by simp only[go_sem,seval],by simp only[go_sem,seval],by rw[zby];exact h5,by rw[zby];exact h6,h7⟩
   ·simp(disch:=omega)only[go_sem,seval,wqq,f0,f1,f7,f8,f9,q1,z1,n1,n2,c1,q2,mG,mG0,sG,sG0,lG,lqq]
    refine zak rfl ?_
    simp(disch:=omega)only[go_sem,seval,wqq,f0,f1,f7,f8,f9,o1,o2,m1,m2,zaj,zac,mG,mG0,sG,sG0,lG,lqq]
    refine zmj (zpD ga gb gn (zd7 (bxU xs j)) (by omega) _ _ _ _) ?_
    rintro va' M2 ⟨h1,h2,h3,h4⟩
    simp(disch:=omega)only[go_sem,seval,wqq,f0,f1,f8,f9,h2,zaj,zac,mG,mG0,sG,sG0,lG,lqq]
    refine zmj (zpE h1 h3 h4 (zmX (bxU xs j)) (by omega)) ?_
    rintro vb' M3 ⟨h5,h6,h7⟩
    simp(disch:=omega)only[go_sem,seval,wqq,f0,f1,f9,mG,mG0,sG,sG0,lG,lqq]
    exact ih (j+1) _ _ (by omega) ⟨by omega,hlast,by simp only[go_sem,seval,f0],by simp only[go_sem,seval,f1],by simp only[go_sem,seval];rw[Int.natCast_succ],va',vb',by simp only[go_sem,seval],by simp only[go_sem,seval],by rw[zby];exact h5,by rw[zby];exact h6,h7⟩
  ·rw[if_neg (fun q:bxOk xs=>he2 (q j h))]
   have he2:((bxM xs j).2=0)=False:=eq_false he2
   rcases hcd with⟨q2,rfl,rfl⟩|⟨q2,rfl,rfl⟩
   ·simp(disch:=omega)only[go_sem,seval,wqq,f0,f1,f7,f8,f9,q1,z1,n1,n2,c1,q2,mG,mG0,sG,sG0,lG,lqq]
    refine zak rfl ?_
    simp(disch:=omega)only[go_sem,seval,wqq,f0,f1,f7,f8,f9,o1,o2,m1,m2,he2,mG,mG0,sG,sG0,lG,lqq]
   ·simp(disch:=omega)only[go_sem,seval,wqq,f0,f1,f7,f8,f9,q1,z1,n1,n2,c1,q2,mG,mG0,sG,sG0,lG,lqq]
    refine zak rfl ?_
    simp(disch:=omega)only[go_sem,seval,wqq,f0,f1,f7,f8,f9,o1,o2,m1,m2,he2,mG,mG0,sG,sG0,lG,lqq]
 ·obtain rfl:j=3:=by omega
  rw[if_pos (show bxOk xs from he)]
  obtain⟨n1,z1⟩:=zfI (d:=10) ga (by decide) (by decide) (zpV (fun e x hx=>by
   rcases List.mem_cons.1 hx with rfl|hx
   ·rfl
   rcases List.mem_cons.1 hx with rfl|hx
   ·rfl
   rcases List.mem_cons.1 hx with rfl|hx
   ·rfl
   rcases List.mem_cons.1 hx with rfl|hx
   ·rfl
   cases hx) 3)
  obtain⟨n2,z2⟩:=zfI (d:=10) gb (by decide) (by decide) (zpV (fun e x hx=>by
   rcases List.mem_cons.1 hx with rfl|hx
   ·rfl
   rcases List.mem_cons.1 hx with rfl|hx
   ·rfl
   rcases List.mem_cons.1 hx with rfl|hx
   ·rfl
   rcases List.mem_cons.1 hx with rfl|hx
   ·rfl
   cases hx) 3)
  have q1:(((3:Nat):Int)<3)=False:=by simp
  have q0:((3:Nat)<3)=False:=by simp
  simp(disch:=omega)only[go_sem,seval,wqq,f0,f1,f7,f8,f9,q1,q0,z1,z2,mG,mG0,sG,sG0,lG,lqq]
  rfl
end Go.Eng
set_option maxRecDepth 10000
namespace Go.Eng
end Go.Eng
set_option maxRecDepth 10000
namespace Go.Eng
end Go.Eng
set_option maxRecDepth 10000
namespace Go.Eng
end Go.Eng
set_option maxRecDepth 10000
namespace Go.Eng
theorem zpA (a b:FQ):∃r:FQ×Int,pf E0 9 [fqP a,fqP b]=some (.tu [fqP r.1,.i .i64 r.2])∧((r.2=0∧r.1.is (a.p.v*b.q.v+b.p.v*a.q.v) (a.q.v*b.q.v))∨r.2=4):=by
 by_cases q:adOk a b
 ·obtain⟨f,h1,h2,hf⟩:=(zhB a b).1 q
  refine⟨(f,0),hf,.inl ⟨rfl,?_⟩⟩
  have dn:=ziE a b
  have d1:b.q.v/gI a.q.v b.q.v*gI a.q.v b.q.v=b.q.v:=Int.ediv_mul_cancel (zcb _ _)
  have d2:a.q.v/gI a.q.v b.q.v*gI a.q.v b.q.v=a.q.v:=Int.ediv_mul_cancel (zbR _ _)
  have hs:=zhk (zeo dn h1 h2) (gI a.q.v b.q.v)
  have e1:(adX a b+adY a b)*gI a.q.v b.q.v=a.p.v*b.q.v+b.p.v*a.q.v:=by
   unfold adX adY
   rw[Int.add_mul,Int.mul_assoc,Int.mul_assoc,d1,d2]
  have e2:adD a b*gI a.q.v b.q.v=a.q.v*b.q.v:=by
   unfold adD
   rw[Int.mul_right_comm,d2]
  rwa [e1,e2] at hs
 ·exact⟨(fq0,4),(zhB a b).2 q,.inr rfl⟩
noncomputable def addX (a b:FQ):FQ×Int:=(zpA a b).choose
theorem zrc (a b:FQ):pf E0 9 [fqP a,fqP b]=some (.tu [fqP (addX a b).1,.i .i64 (addX a b).2]):=(zpA a b).choose_spec.1
theorem zqJ (a b:FQ):∃r:FQ×Int,pf E0 8 [fqP a,fqP b]=some (.tu [fqP r.1,.i .i64 r.2])∧((r.2=0∧r.1.is (a.p.v*b.p.v) (a.q.v*b.q.v))∨r.2=4):=by
 have qa:=a.q1
 have qb:=b.q1
 by_cases q:inR (muP a b).natAbs∧inR (muQ a b).natAbs
 ·obtain⟨f,h1,h2,hf⟩:=(zhC a b).1 q
  exact⟨(f,0),hf,.inl ⟨rfl,zeo (Int.mul_ne_zero (by omega) (by omega)) h1 h2⟩⟩
 ·exact⟨(fq0,4),(zhC a b).2 q,.inr rfl⟩
noncomputable def mulX (a b:FQ):FQ×Int:=(zqJ a b).choose
theorem zrl (a b:FQ):pf E0 8 [fqP a,fqP b]=some (.tu [fqP (mulX a b).1,.i .i64 (mulX a b).2]):=(zqJ a b).choose_spec.1
theorem znV {x y:IV} (h:(ivMul x y).2=0):(ivMul x y).1.lo.v=mulLo x y∧(ivMul x y).1.hi.v=mulHi x y:=by
 unfold ivMul at *
 exact(zfO h).2.2
end Go.Eng
namespace Go.Eng
def vbN (n:Nat):List Nat:=if n<128 then [n] else (128+n%128)::vbN (n/128)
termination_by n
end Go.Eng
namespace Go.Eng
def rdU (i n:Nat):List Nat→Nat×List Nat×Int
 | []=>(0,[],3)
 | c::l=>if (i=9∧1<c)∨(0<i∧c=0) then (0,l,2) else if c<128 then (n+c*128^i,l,0) else rdU (i+1) (n+c%128*128^i) l
end Go.Eng
namespace Go.Eng
end Go.Eng
namespace Go.Eng
end Go.Eng
namespace Go.Eng
end Go.Eng
namespace Go.Eng
end Go.Eng
namespace Go.Eng
def bin2 (n k:Nat) (y:Int):Int:=if k≤n then chE (n*4+k)*y^(n-k) else 0
end Go.Eng
namespace Go.Eng
end Go.Eng
namespace Go.Eng
theorem zdB {f g:Nat→Int}:∀{n:Nat},(∀i,i<n→f i=g i)→sumT f n=sumT g n
 | 0,_=>rfl
 | n+1,h=>by
  show sumT f n+f n=sumT g n+g n
  rw[zdB (n:=n) fun i hi=>h i (by omega),h n (by omega)]
end Go.Eng
namespace Go.Eng
end Go.Eng
namespace Go.Eng
theorem zh2 (a:Int) (F:Nat→Int):∀n,sumT (fun k=>a*F k) n=a*sumT F n
 | 0=>(Int.mul_zero a).symm
 | n+1=>by
  show sumT (fun k=>a*F k) n+a*F n=a*(sumT F n+F n)
  rw[zh2 a F n,Int.mul_add]
def linV (P g:Nat→Int):Int:=sumT (fun k=>P k*g k) 20
theorem zho (P g:Nat→Int) (a:Int):linV P (fun k=>a*g k)=a*linV P g:=by
 unfold linV
 rw[←zh2]
 exact zdB fun i _=>by grind
end Go.Eng
namespace Go.Eng
theorem znE {f:FQ} (h:fwD f):fsz 76 f:=by
 unfold fwD at h
 exact⟨zfv (by omega),zfv (by omega)⟩
end Go.Eng
namespace Go.Eng
end Go.Eng
namespace Go.Eng
end Go.Eng
namespace Go.Eng
end Go.Eng
namespace Go.Eng
end Go.Eng
namespace Go.Eng
end Go.Eng
namespace Go.Eng
end Go.Eng
namespace Go.Eng
def hmV (X Y:Nat→Int) (i:Nat):Int:=moV X i*coV Y i
theorem zja (c X Y:Nat→Int):evS c X Y 20=linV c (hmV X Y):=zdB fun i _=>Int.mul_assoc ..
end Go.Eng
namespace Go.Eng
theorem zkg {p q x y:Int} (h:p*y=x*q) {e:Nat} (he:e≤3):p^e*q^(3-e)*y^3=x^e*y^(3-e)*q^3:=by
 rw[←zrw y he,←zrw q he]
 have k:(p*y)^e=(x*q)^e:=by rw[h]
 rw[Int.mul_pow,Int.mul_pow] at k
 generalize p^e=a at *
 generalize y^e=b at *
 generalize x^e=c at *
 generalize q^e=d at *
 generalize q^(3-e)=u
 generalize y^(3-e)=v
 grind
theorem ztI {P Q X Y:Nat→Int} (h:∀j,j<3→P j*Y j=X j*Q j) {i:Nat} (hi:i<20):hmV P Q i*dnV Y=hmV X Y i*dnV Q:=by
 have e0:=zkg (h 0 (by decide)) (za1 i hi 0 (by decide)).2
 have e1:=zkg (h 1 (by decide)) (za1 i hi 1 (by decide)).2
 have e2:=zkg (h 2 (by decide)) (za1 i hi 2 (by decide)).2
 have m:∀Z:Nat→Int,moV Z i=1*Z 0^exN i 0*Z 1^exN i 1*Z 2^exN i 2:=fun _=>rfl
 unfold hmV coV dnV
 rw[m,m]
 generalize P 0^exN i 0=a0 at *
 generalize P 1^exN i 1=a1 at *
 generalize P 2^exN i 2=a2 at *
 generalize X 0^exN i 0=b0 at *
 generalize X 1^exN i 1=b1 at *
 generalize X 2^exN i 2=b2 at *
 generalize Q 0^(3-exN i 0)=c0 at *
 generalize Q 1^(3-exN i 1)=c1 at *
 generalize Q 2^(3-exN i 2)=c2 at *
 generalize Y 0^(3-exN i 0)=d0 at *
 generalize Y 1^(3-exN i 1)=d1 at *
 generalize Y 2^(3-exN i 2)=d2 at *
 generalize Y 0^3=y0 at *
 generalize Y 1^3=y1 at *
 generalize Y 2^3=y2 at *
 generalize Q 0^3=q0 at *
 generalize Q 1^3=q1 at *
 generalize Q 2^3=q2 at *
 calc 1*a0*a1*a2*(c0*c1*c2)*(y0*y1*y2)=(a0*c0*y0)*(a1*c1*y1)*(a2*c2*y2):=by grind
  _=(b0*d0*q0)*(b1*d1*q1)*(b2*d2*q2):=by rw[e0,e1,e2]
  _=_:=by grind
theorem zqg (c:Nat→Int) {P Q X Y:Nat→Int} (h:∀j,j<3→P j*Y j=X j*Q j):evS c P Q 20*dnV Y=evS c X Y 20*dnV Q:=by
 rw[zja,zja,Int.mul_comm,Int.mul_comm _ (dnV Q),←zho,←zho]
 exact zdB fun i hi=>congrArg (c i * ·) (by have:=ztI h hi;show dnV Y*hmV P Q i=dnV Q*hmV X Y i;rw[Int.mul_comm,this,Int.mul_comm])
theorem ztn {c:Nat→Int} {U:Nat→FQ} (hc:okC c) (hU:∀j,j<3→fwD (U j)) {X Y:Nat→Int} (h:∀j,j<3→(U j).is (X j) (Y j)):(sF c U 20).is (evS c X Y 20) (dnV Y):=by
 obtain⟨a1,_,_⟩:=zo6 hc (by decide) (fun j hj=>znE (hU j hj)) 20 (by decide)
 have e:=zqg c (P:=pP U) (Q:=qQ U) (X:=X) (Y:=Y) h
 unfold FQ.is at *
 refine Int.eq_of_mul_eq_mul_right (znt (U:=U)) ?_
 calc (sF c U 20).p.v*dnV Y*dnV (qQ U)=(sF c U 20).p.v*dnV (qQ U)*dnV Y:=by grind
  _=evS c (pP U) (qQ U) 20*(sF c U 20).q.v*dnV Y:=by rw[a1]
  _=evS c (pP U) (qQ U) 20*dnV Y*(sF c U 20).q.v:=by grind
  _=evS c X Y 20*dnV (qQ U)*(sF c U 20).q.v:=by rw[e]
  _=_:=by grind
end Go.Eng
set_option maxRecDepth 10000
namespace Go.Eng
def hasR (x:IV) (n d:Int):Prop:=x.lo.v*d≤n*4294967296∧n*4294967296≤x.hi.v*d
theorem znL {x:IV} {n d k:Int} (hk:0<k) (h:hasR x n d):hasR x (n*k) (d*k):=by
 have a:=zbH h.1 (Int.le_of_lt hk)
 have b:=zbH h.2 (Int.le_of_lt hk)
 unfold hasR
 constructor<;>grind
theorem znM {x:IV} {n d k:Int} (hk:0<k) (h:hasR x (n*k) (d*k)):hasR x n d:=by
 unfold hasR at *
 constructor
 ·refine Int.le_of_mul_le_mul_right (a:=k) ?_ hk;grind
 ·refine Int.le_of_mul_le_mul_right (a:=k) ?_ hk;grind
theorem zxQ {x y:IV} {n d m e:Int} (hd:0<d) (he:0<e) (h1:hasR x n d) (h2:hasR y m e) (h:(ivMul x y).2=0):hasR (ivMul x y).1 (n*m) (d*e):=by
 have hh:=zn5 (x:=x) (y:=y) hd he h1.1 h1.2 h2.1 h2.2
 obtain⟨v1,v2⟩:=znV h
 unfold hasR
 rw[v1,v2];exact hh
theorem zxy {x y:IV} {n m d:Int} (hd:0<d) (h1:hasR x n d) (h2:hasR y m d) (h:(ivAdd x y).2=0):hasR (ivAdd x y).1 (n+m) d:=by
 have hh:=zni (x:=x) (y:=y) hd hd h1.1 h1.2 h2.1 h2.2 h
 refine znM hd ?_
 rw[Int.add_mul];exact hh
theorem zds (U:Nat→IV) (r:IV×Int) (a:Int) (l:List Int):enT U r (a::l)=enT U (if r.2=0 then ivMul r.1 (U a.toNat) else r) l:=rfl
theorem zcx (U:Nat→IV):∀(l:List Int) (r:IV×Int),r.2≠0→(enT U r l).2≠0
 | [],_,h=>h
 | a::l,r,h=>by rw[zds,if_neg h];exact zcx U l r h
theorem zi5 {X:Nat→IV} {P Q:Nat→Int} (hQ:∀j,j<3→0<Q j) (h:∀j,j<3→hasR (X j) (P j) (Q j)) :
  ∀(l:List Int) (r:IV×Int) (n d:Int),(∀a∈l,a=0∨a=1∨a=2)→0<d→hasR r.1 n d→(enT X r l).2=0→hasR (enT X r l).1 (n*prL P l) (d*prL Q l)∧0<d*prL Q l
 | [],r,n,d,_,hd,hr,_=>by
  show hasR r.1 (n*1) (d*1)∧0<d*1
  rw[Int.mul_one,Int.mul_one];exact⟨hr,hd⟩
 | a::l,r,n,d,ha,hd,hr,he=>by
  have ej:a.toNat<3:=by rcases ha a List.mem_cons_self with rfl|rfl|rfl<;>decide
  rw[zds] at *
  have r0:r.2=0:=by
   by_cases q:r.2=0
   ·exact q
   ·rw[if_neg q] at he;exact absurd he (zcx X l r q)
  rw[if_pos r0] at *
  have m0:(ivMul r.1 (X a.toNat)).2=0:=by
   by_cases q:(ivMul r.1 (X a.toNat)).2=0
   ·exact q
   ·exact absurd he (zcx X l _ q)
  have m1:=zxQ hd (hQ _ ej) hr (h _ ej) m0
  have k:=zi5 hQ h l (ivMul r.1 (X a.toNat)) _ _ (fun b hb=>ha b (List.mem_cons_of_mem _ hb)) (Int.mul_pos hd (hQ _ ej)) m1 he
  have e1:n*prL P (a::l)=n*P a.toNat*prL P l:=by rw[prL,←Int.mul_assoc]
  have e2:d*prL Q (a::l)=d*Q a.toNat*prL Q l:=by rw[prL,←Int.mul_assoc]
  rw[e1,e2];exact k
theorem zpo {k:Int} (hk:Fits64 k) (h:(mkI (whQ k) (whQ k)).2=0):hasR (mkI (whQ k) (whQ k)).1 k 1:=by
 have m:=(zn3 h).1
 unfold ivHas at m
 obtain⟨w1,w2⟩:=zmf hk
 rw[w1,w2] at m;exact m
theorem zlg (c P Q:Nat→Int) (i:Nat):evS c P Q (i+1)=evS c P Q i+c i*moV P i*coV Q i:=rfl
theorem zpY {Q:Nat→Int} (hQ:∀j,j<3→0<Q j) (i:Nat):0<coV Q i:=Int.mul_pos (Int.mul_pos (Int.pow_pos (hQ 0 (by decide))) (Int.pow_pos (hQ 1 (by decide)))) (Int.pow_pos (hQ 2 (by decide)))
theorem zi2 {Q:Nat→Int} (hQ:∀j,j<3→0<Q j):0<dnV Q:=Int.mul_pos (Int.mul_pos (Int.pow_pos (hQ 0 (by decide))) (Int.pow_pos (hQ 1 (by decide)))) (Int.pow_pos (hQ 2 (by decide)))
theorem zlc {c:Nat→Int} (hc:okC c) {X:Nat→IV} {P Q:Nat→Int} (hQ:∀j,j<3→0<Q j) (h:∀j,j<3→hasR (X j) (P j) (Q j)) {i:Nat} (hi:i<20)
  (he:(enT X (mkI (whQ (c i)) (whQ (c i))) (facL i)).2=0):hasR (enT X (mkI (whQ (c i)) (whQ (c i))) (facL i)).1 (c i*moV P i*coV Q i) (dnV Q):=by
 have ck:Fits64 (c i):=by have:=hc i hi;unfold Fits64;omega
 obtain⟨f1,f2,_⟩:=zg8 i (by omega)
 have w0:(mkI (whQ (c i)) (whQ (c i))).2=0:=by
  by_cases q:(mkI (whQ (c i)) (whQ (c i))).2=0
  ·exact q
  ·exact absurd he (zcx X _ _ q)
 obtain⟨k,_⟩:=zi5 hQ h (facL i) _ _ 1 f1 (by decide) (zpo ck w0) he
 rw[zg7 _ hi,zg7 _ hi,Int.one_mul] at k
 have k:=znL (zpY hQ i) k
 rw[zmI Q hi] at k
 exact k
theorem zi4 {c:Nat→Int} (hc:okC c) {X:Nat→IV} {P Q:Nat→Int} (hQ:∀j,j<3→0<Q j) (h:∀j,j<3→hasR (X j) (P j) (Q j)) :
  ∀i,i≤20→(enS c X i).2.2=0→((enS c X i).2.1=true→(enS c X i).1=ivZ∧evS c P Q i=0)∧((enS c X i).2.1=false→hasR (enS c X i).1 (evS c P Q i) (dnV Q))
 | 0,_,_=>⟨fun _=>⟨rfl,rfl⟩,fun q=>by cases q⟩
 | i+1,hi,he=>by
  have e0:(enS c X i).2.2=0:=by
   by_cases q:(enS c X i).2.2=0
   ·exact q
   ·rw[enS,if_pos q] at he;exact he
  obtain⟨h1,h2⟩:=zi4 hc hQ h i (by omega) e0
  rw[zlg]
  rw[enS,if_neg (fun q=>q e0)] at *
  by_cases c0:c i=0
  ·rw[if_pos c0] at *
   rw[c0,Int.zero_mul,Int.zero_mul,Int.add_zero]
   exact⟨h1,h2⟩
  ·rw[if_neg c0] at *
   by_cases x0:(enX c X i (enS c X i).1 (enS c X i).2.1).2=0
   ·rw[if_pos x0] at *
    refine⟨fun q=>(by cases q),fun _=>?_⟩
    show hasR (enX c X i (enS c X i).1 (enS c X i).2.1).1 _ _
    have tm:=fun q=>zlc hc hQ h (show i<20 by omega) q
    unfold enX at *
    generalize enT X (mkI (whQ (c i)) (whQ (c i))) (facL i)=T at *
    cases hb:(enS c X i).2.1 with
    | true =>
     have nn:¬((enS c X i).2.1=false∧T.2=0):=fun w=>by rw[hb] at w;exact absurd w.1 (by simp)
     rw[if_neg nn] at x0
     rw[if_neg (fun w=>absurd w.1 (by simp))]
     rw[(h1 hb).2,Int.zero_add];exact tm x0
    | false =>
     have t0:T.2=0:=by
      by_cases q:T.2=0
      ·exact q
      ·rw[if_neg (fun w=>q w.2)] at x0;exact x0
     have pp:(enS c X i).2.1=false∧T.2=0:=⟨hb,t0⟩
     rw[if_pos pp] at x0
     rw[if_pos ⟨rfl,t0⟩]
     exact zxy (zi2 hQ) (h2 hb) (tm t0) x0
   ·rw[if_neg x0] at he
    exact absurd he x0
theorem zmw {U X:Nat→IV} (hU:∀j,j<3→(U j).ok) (h:∀j,j<3→ivIn (U j) (X j)) :
  ∀(l:List Int) (r s:IV×Int),(∀a∈l,a=0∨a=1∨a=2)→r.2=0→ivIn r.1 s.1→r.1.ok→(enT X s l).2=0→(enT U r l).2=0∧ivIn (enT U r l).1 (enT X s l).1∧(enT U r l).1.ok
 | [],r,s,_,h1,h2,h3,_=>⟨h1,h2,h3⟩
 | a::l,r,s,ha,h1,h2,h3,he=>by
  have ej:a.toNat<3:=by rcases ha a List.mem_cons_self with rfl|rfl|rfl<;>decide
  rw[zds X] at he ⊢
  have s0:s.2=0:=by
   by_cases q:s.2=0
   ·exact q
   ·rw[if_neg q] at he;exact absurd he (zcx X l s q)
  rw[if_pos s0] at he ⊢
  rw[zds U,if_pos h1]
  have m0:(ivMul s.1 (X a.toNat)).2=0:=by
   by_cases q:(ivMul s.1 (X a.toNat)).2=0
   ·exact q
   ·exact absurd he (zcx X l _ q)
  obtain⟨k1,k2⟩:=zqE h3 (hU _ ej) h2 (h _ ej) m0
  exact zmw hU h l (ivMul r.1 (U a.toNat)) (ivMul s.1 (X a.toNat)) (fun b hb=>ha b (List.mem_cons_of_mem _ hb)) k1 k2 (zlt _ _) he
theorem zqc {c:Nat→Int} {U:Nat→IV} {i:Nat} (e0:(enS c U i).2.2=0) (c0:c i=0):enS c U (i+1)=enS c U i:=by rw[enS,if_neg (fun q=>q e0),if_pos c0]
theorem zqb {c:Nat→Int} {U:Nat→IV} {i:Nat} (e0:(enS c U i).2.2=0) (c0:c i≠0):enS c U (i+1)=if (enX c U i (enS c U i).1 (enS c U i).2.1).2=0 then ((enX c U i (enS c U i).1 (enS c U i).2.1).1,false,0) else (ivZ,true,(enX c U i (enS c U i).1 (enS c U i).2.1).2):=by rw[enS,if_neg (fun q=>q e0),if_neg c0]
theorem zjs (x:IV):ivIn x x:=⟨Int.le_refl _,Int.le_refl _⟩
theorem zmv {c:Nat→Int} {U X:Nat→IV} (hU:∀j,j<3→(U j).ok) (h:∀j,j<3→ivIn (U j) (X j)) :
  ∀i,i≤20→(enS c X i).2.2=0→(enS c U i).2.2=0∧(enS c U i).2.1=(enS c X i).2.1∧ivIn (enS c U i).1 (enS c X i).1∧(enS c U i).1.ok
 | 0,_,_=>by
  have e:∀Y:Nat→IV,enS c Y 0=(ivZ,true,0):=fun _=>by rw[enS]
  rw[e,e]
  exact⟨_root_.id rfl,_root_.id rfl,zjs _,zjt⟩
 | i+1,hi,he=>by
  have e0:(enS c X i).2.2=0:=by
   by_cases q:(enS c X i).2.2=0
   ·exact q
   ·rw[enS,if_pos q] at he;exact he
  obtain⟨h1,h2,h3,h4⟩:=zmv hU h i (by omega) e0
  by_cases c0:c i=0
  ·rw[zqc e0 c0,zqc h1 c0]
   exact⟨h1,h2,h3,h4⟩
  ·rw[zqb e0 c0] at he ⊢
   rw[zqb h1 c0]
   by_cases x0:(enX c X i (enS c X i).1 (enS c X i).2.1).2=0
   ·rw[if_pos x0] at he ⊢
    obtain⟨f1,f2,_⟩:=zg8 i (by omega)
    have key:(enX c U i (enS c U i).1 (enS c U i).2.1).2=0∧ivIn (enX c U i (enS c U i).1 (enS c U i).2.1).1 (enX c X i (enS c X i).1 (enS c X i).2.1).1∧(enX c U i (enS c U i).1 (enS c U i).2.1).1.ok:=by
     have tm:=fun q w=>zmw hU h (facL i) (mkI (whQ (c i)) (whQ (c i))) (mkI (whQ (c i)) (whQ (c i))) f1 q ⟨Int.le_refl _,Int.le_refl _⟩ (zhq _ _) w
     have tw:=zcx X (facL i) (mkI (whQ (c i)) (whQ (c i)))
     unfold enX at *
     generalize enT X (mkI (whQ (c i)) (whQ (c i))) (facL i)=T at *
     generalize enT U (mkI (whQ (c i)) (whQ (c i))) (facL i)=T' at *
     generalize mkI (whQ (c i)) (whQ (c i))=W at *
     have w0:T.2=0→W.2=0:=fun q=>by
      by_cases z:W.2=0
      ·exact z
      ·exact absurd q (tw z)
     rw[h2]
     cases hb:(enS c X i).2.1 with
     | true =>
      have nn:∀t:Int,¬((enS c X i).2.1=false∧t=0):=fun t w=>by rw[hb] at w;exact absurd w.1 (by simp)
      have n2:∀t:Int,¬(true=false∧t=0):=fun t w=>absurd w.1 (by simp)
      rw[if_neg (nn _)] at x0
      rw[if_neg (n2 _),if_neg (n2 _)]
      exact tm (w0 x0) x0
     | false =>
      have t0:T.2=0:=by
       by_cases q:T.2=0
       ·exact q
       ·rw[if_neg (fun w=>q w.2)] at x0;exact x0
      obtain⟨k1,k2,k3⟩:=tm (w0 t0) t0
      have pp:(enS c X i).2.1=false∧T.2=0:=⟨hb,t0⟩
      rw[if_pos pp] at x0
      rw[if_pos ⟨rfl,k1⟩,if_pos ⟨rfl,t0⟩]
      obtain⟨m1,m2⟩:=zpx h4 k3 h3 k2 x0
      exact⟨m1,m2,zls h4 k3⟩
    obtain⟨y1,y2,y3⟩:=key
    rw[if_pos y1]
    exact⟨rfl,rfl,y2,y3⟩
   ·rw[if_neg x0] at he
    exact absurd he x0
theorem znx {c:Nat→Int} {X:Nat→IV} {U:Nat→FQ} (he:(enR c X).2=0) (hv:evE c U=0) (h:∀j,j<3→ivHas (X j) (U j)):ivHas (enR c X).1 (evR c U):=by
 unfold evE at hv
 by_cases hc:okC c
 ·rw[if_pos hc] at hv
  by_cases hU:∀j,j<3→fwD (U j)
  ·have hR:evR c U=sF c U 20:=if_pos (by unfold evE;rw[if_pos hc,if_pos hU])
   have hE:enR c X=((enS c X 20).1,(enS c X 20).2.2):=if_pos hc
   rw[hE] at he ⊢
   rw[hR]
   have hQ:∀j,j<3→0<qQ U j:=fun j _=>by have:=(U j).q1;show 0<(U j).q.v;omega
   have is:=ztn hc hU (X:=pP U) (Y:=qQ U) (fun j _=>zeW (U j))
   obtain⟨k1,k2⟩:=zi4 hc hQ (P:=pP U) (X:=X) h 20 (Nat.le_refl _) he
   rw[zjj (zi2 hQ) is]
   cases hb:(enS c X 20).2.1 with
   | true =>
    obtain⟨z1,z2⟩:=k1 hb
    show (enS c X 20).1.lo.v*_≤_∧_≤(enS c X 20).1.hi.v*_
    rw[z1,z2,Int.zero_mul]
    show (0:Int)*_≤0∧0≤(0:Int)*_
    rw[Int.zero_mul];exact⟨Int.le_refl _,Int.le_refl _⟩
   | false=>exact k2 hb
  ·rw[if_neg hU] at hv;cases hv
 ·rw[if_neg hc] at hv;cases hv
theorem zqa {c:Nat→Int} {U X:Nat→IV} (hU:∀j,j<3→(U j).ok) (h:∀j,j<3→ivIn (U j) (X j)) (he:(enR c X).2=0):(enR c U).2=0∧ivIn (enR c U).1 (enR c X).1:=by
 unfold enR at *
 by_cases hc:okC c
 ·rw[if_pos hc] at *
  rw[if_pos hc]
  obtain⟨k1,_,k2,_⟩:=zmv hU h 20 (Nat.le_refl _) he
  exact⟨k1,k2⟩
 ·rw[if_neg hc] at he;cases he
end Go.Eng
set_option maxRecDepth 10000
namespace Go.Eng
def zc:List PV:=[.b false,.nl,.b false,.nl]
noncomputable def qJ (f:Nat→FQ) (n:Nat):List PV:=cg 3 (fun e=>if e<n then qc (f e) else zc)
noncomputable def vJ (f:Nat→IV) (n:Nat):List PV:=cg 3 (fun e=>if e<n then vc (f e) else zc)
theorem zwW (f:Nat→FQ) (n e:Nat):(if e<n then qc (f e) else zc).length=4:=by split<;>rfl
theorem zvG (f:Nat→IV) (n e:Nat):(if e<n then vc (f e) else zc).length=4:=by split<;>rfl
theorem zrD (f:Nat→FQ) (n:Nat):(qJ f n).length=12:=zcr (k:=4) (zwW f n) 3
theorem zna (f:Nat→IV) (n:Nat):(vJ f n).length=12:=zcr (k:=4) (zvG f n) 3
theorem zvn (f:Nat→FQ) {n:Nat} (h:n<3):psplice (qJ f n) (n*4) [.b (decide ((f n).p.v<0)),D (f n).p.v.natAbs,.b (decide ((f n).l.v<0)),D (f n).l.v.natAbs]=qJ f (n+1):=by
 have:=ziJ (k:=4) (f:=fun e=>if e<n then qc (f e) else zc) (zwW f n) (n:=3) (i:=n) h (v:=qc (f n)) (zhV _)
 show psplice (qJ f n) (n*4) (qc (f n))=_
 unfold qJ
 rw[this]
 exact ziI fun e he=>by
  unfold upd
  show (if e=n then _ else if e<n then _ else zc)=_
  by_cases q:e=n
  ·subst q;rw[if_pos rfl,if_pos (by omega)]
  ·rw[if_neg q]
   by_cases r:e<n
   ·rw[if_pos r,if_pos (by omega)]
   ·rw[if_neg r,if_neg (by omega)]
theorem zvH (f:Nat→IV) {n:Nat} (h:n<3):psplice (vJ f n) (n*4) [.b (decide ((f n).lo.v<0)),D (f n).lo.v.natAbs,.b (decide ((f n).hi.v<0)),D (f n).hi.v.natAbs]=vJ f (n+1):=by
 have:=ziJ (k:=4) (f:=fun e=>if e<n then vc (f e) else zc) (zvG f n) (n:=3) (i:=n) h (v:=vc (f n)) (zd7 _)
 show psplice (vJ f n) (n*4) (vc (f n))=_
 unfold vJ
 rw[this]
 exact ziI fun e he=>by
  unfold upd
  show (if e=n then _ else if e<n then _ else zc)=_
  by_cases q:e=n
  ·subst q;rw[if_pos rfl,if_pos (by omega)]
  ·rw[if_neg q]
   by_cases r:e<n
   ·rw[if_pos r,if_pos (by omega)]
   ·rw[if_neg r,if_neg (by omega)]
theorem zsx (f:Nat→FQ):qJ f 3=[.b (decide ((f 0).p.v<0)),D (f 0).p.v.natAbs,.b (decide ((f 0).l.v<0)),D (f 0).l.v.natAbs,.b (decide ((f 1).p.v<0)),D (f 1).p.v.natAbs,.b (decide ((f 1).l.v<0)),D (f 1).l.v.natAbs,.b (decide ((f 2).p.v<0)),D (f 2).p.v.natAbs,.b (decide ((f 2).l.v<0)),D (f 2).l.v.natAbs]:=_root_.id rfl
theorem zsH (f:Nat→IV):vJ f 3=[.b (decide ((f 0).lo.v<0)),D (f 0).lo.v.natAbs,.b (decide ((f 0).hi.v<0)),D (f 0).hi.v.natAbs,.b (decide ((f 1).lo.v<0)),D (f 1).lo.v.natAbs,.b (decide ((f 1).hi.v<0)),D (f 1).hi.v.natAbs,.b (decide ((f 2).lo.v<0)),D (f 2).lo.v.natAbs,.b (decide ((f 2).hi.v<0)),D (f 2).hi.v.natAbs]:=_root_.id rfl
noncomputable def ptQ (P:Nat→FQ):List PV:=cg 12 (fun e=>qc (P e))
theorem zoU (P:Nat→FQ):(ptQ P).length=48:=zcr (k:=4) (fun _=>rfl) 12
theorem zki (P:Nat→FQ) {i k:Nat} (h:i<4) (hk:k<3):((ptQ P).drop (i*12+k*4)).take 4=qc (P (i*3+k)):=by
 have:=zdH (k:=4) (f:=fun e=>qc (P e)) (n:=12) (i:=i*3+k) (fun _=>rfl) (by omega)
 rw[show (i*3+k)*4=i*12+k*4 by omega] at this
 exact this
noncomputable def inP (X:Nat→IV) (t:FQ) (j:Nat):FQ:=(addX (frQ (X j).lo) (mulX (frQ (wdI (X j))) t).1).1
noncomputable def inV (X:Nat→IV) (t:FQ) (j:Nat):IV:=(mkI (frQ (X j).lo) (inP X t j)).1
theorem zqn (X:Nat→IV) {j:Nat} (h:j<3):[ivP (X 0),ivP (X 1),ivP (X 2)][j]?=some (ivP (X j)):=by
 obtain rfl|rfl|rfl:j=0∨j=1∨j=2:=by omega
 all_goals rfl
theorem zqq {x:IV} (h:x.ok):ivHas x (frQ x.lo):=by rw[zjj (by decide) (zhd x.lo)];exact⟨Int.le_refl _,Int.mul_le_mul_of_nonneg_right h (by decide)⟩
theorem zqp {x:IV} (h:x.ok):ivHas x (frQ x.hi):=by rw[zjj (by decide) (zhd x.hi)];exact⟨Int.mul_le_mul_of_nonneg_right h (by decide),Int.le_refl _⟩
set_option maxHeartbeats 8000000 in
theorem zml {F:PFin} {ks:List KI} {X:Nat→IV} {c:List PV} {R:IV} {pt:FQ} {e0 e1 e2 e3 e4:Nat} {fr:PFr}
  (f7:fr 7=.p 0 0) (f8:fr 8=.lst [ivP (X 0),ivP (X 1),ivP (X 2)]) (f11:fr 11=.p 1 0) (f13:fr 13=.p 2 0) (f15:fr 15=.p 3 0) (f16:fr 16=.p 4 0) (f17:fr 17=(PV.i .i64 ((0:Nat):Int)))
  (rt:∀fr' M',fr' 6=.b true→UK E0 F .ret ks fr' M')
  (cont:∀fr' e0 e1 e2 e3 e4 G,(∀e,e<3→ivHas (X e) (inP X pt e))→fr' 7=.p 0 0→fr' 8=.lst [ivP (X 0),ivP (X 1),ivP (X 2)]→fr' 11=.p 1 0→fr' 15=.p 3 0→fr' 16=.p 4 0→UK E0 F (.exit 0) ks fr' (some ⟨c,true,e0⟩::some ⟨(ivP R).cells,true,e1⟩::some ⟨(fqP pt).cells,true,e2⟩::some ⟨qJ (inP X pt) 3,true,e3⟩::some ⟨vJ (inV X pt) 3,true,e4⟩::G)) :
  WK E0 F (.loop zzd) ks fr [some ⟨c,true,e0⟩,some ⟨(ivP R).cells,true,e1⟩,some ⟨(fqP pt).cells,true,e2⟩,some ⟨[PV.b false,.nl,.b false,.nl,.b false,.nl,.b false,.nl,.b false,.nl,.b false,.nl],true,e3⟩,some ⟨[PV.b false,.nl,.b false,.nl,.b false,.nl,.b false,.nl,.b false,.nl,.b false,.nl],true,e4⟩]:=by
 have lv:=ze6
 refine zag zzd.eq_1 (fun(j:Nat) fr M=>j≤3∧(∀e,e<j→ivHas (X e) (inP X pt e))∧fr 7=.p 0 0∧fr 8=.lst [ivP (X 0),ivP (X 1),ivP (X 2)]∧fr 11=.p 1 0∧fr 13=.p 2 0∧fr 15=.p 3 0∧fr 16=.p 4 0∧fr 17=(PV.i .i64 ((j:Nat):Int))∧∃e0 e1 e2 e3 e4 G,M=some ⟨c,true,e0⟩::some ⟨(ivP R).cells,true,e1⟩::some ⟨(fqP pt).cells,true,e2⟩::some ⟨qJ (inP X pt) j,true,e3⟩::some ⟨vJ (inV X pt) j,true,e4⟩::G) (fun j=>3-j) ?_ 0 ⟨by omega,fun e he=>absurd he (by omega),f7,f8,f11,f13,f15,f16,f17,e0,e1,e2,e3,e4,[],rfl⟩
 clear f7 f8 f11 f13 f15 f16 f17
 rintro j fr M ⟨hj,hh,f7,f8,f11,f13,f15,f16,f17,e0,e1,e2,e3,e4,G,rfl⟩ ih
 rcases Nat.lt_or_ge j 3 with h|h
 ·have q1:((j:Int)<3)=True:=eq_true (by omega)
  have qL:(j<3)=True:=eq_true h
  have gx:=zqn X h
  have lo:=zq8 (X j)
  have wd:=zoz (X j)
  have ms:=zrl (frQ (wdI (X j))) pt
  have asq:=zrc (frQ (X j).lo) (mulX (frQ (wdI (X j))) pt).1
  have mk:=ze5 (frQ (X j).lo) (addX (frQ (X j).lo) (mulX (frQ (wdI (X j))) pt).1).1
  have hs:=zj2 (X j) (addX (frQ (X j).lo) (mulX (frQ (wdI (X j))) pt).1).1
  have z1:=zvn (inP X pt) h
  have z2:=zvH (inV X pt) h
  have l1:=zrD (inP X pt) j
  have l2:=zna (inV X pt) j
  have l3:(j*4≤8)=True:=eq_true (by omega)
  have i1:inP X pt j=(addX (frQ (X j).lo) (mulX (frQ (wdI (X j))) pt).1).1:=rfl
  have i2:inV X pt j=(mkI (frQ (X j).lo) (addX (frQ (X j).lo) (mulX (frQ (wdI (X j))) pt).1).1).1:=rfl
  rw[←i1] at mk hs
  rw[←i1] at i2
  have asq:pf E0 9 [fqP (frQ (X j).lo),fqP (mulX (frQ (wdI (X j))) pt).1]=some (.tu [fqP (inP X pt j),.i .i64 (addX (frQ (X j).lo) (mulX (frQ (wdI (X j))) pt).1).2]):=asq
  rw[←i2] at mk
  have nx:ivHas (X j) (inP X pt j)→∀e,e<j+1→ivHas (X e) (inP X pt e):=fun w e he=>by
   rcases Nat.lt_or_ge e j with q|q
   ·exact hh e q
   ·obtain rfl:e=j:=by omega
    exact w
  generalize inP X pt j=f at *
  generalize inV X pt j=V at *
  generalize (addX (frQ (X j).lo) (mulX (frQ (wdI (X j))) pt).1).2=E2 at *
  generalize (mkI (frQ (X j).lo) f).2=E3 at *
  generalize mulX (frQ (wdI (X j))) pt=S at *
  obtain⟨S,E1⟩:=S
  simp only at ms asq
  by_cases h1:E1=0
  ·have h1':(E1=0)=True:=eq_true h1
   by_cases h2:E2=0
   ·have h2':(E2=0)=True:=eq_true h2
    by_cases h3:E3=0
    ·have h3':(E3=0)=True:=eq_true h3
     by_cases h4:ivHas (X j) f
     ·rw[decide_eq_true h4] at hs
      simp(disch:=omega)only[go_sem,seval,wqq,f7,f8,f11,f13,f15,f16,f17,q1,qL,gx,lo,wd,ms,asq,mk,h1',h2',h3',hs,z1,z2,l1,l2,l3,mG,mG0,sG,sG0,lG,lqq]
      exact ih (j+1) _ _ (by omega) ⟨by omega,nx h4,by simp only[go_sem,seval,f7],by simp only[go_sem,seval,f8],by simp only[go_sem,seval,f11],by simp only[go_sem,seval,f13],by simp only[go_sem,seval,f15],by simp only[go_sem,seval,f16],by simp only[go_sem,seval];rw[Int.natCast_succ],_,_,_,_,_,_,rfl⟩
     ·rw[decide_eq_false h4] at hs
      simp(disch:=omega)only[go_sem,seval,wqq,f7,f8,f11,f13,f15,f16,f17,q1,qL,gx,lo,wd,ms,asq,mk,h1',h2',h3',hs,lv,mG,mG0,sG,sG0,lG,lqq]
      exact rt _ _ (by simp only[go_sem,seval])
    ·have h3':(E3=0)=False:=eq_false h3
     simp(disch:=omega)only[go_sem,seval,wqq,f7,f8,f11,f13,f15,f16,f17,q1,qL,gx,lo,wd,ms,asq,mk,h1',h2',h3',lv,mG,mG0,sG,sG0,lG,lqq]
     exact rt _ _ (by simp only[go_sem,seval])
   ·have h2':(E2=0)=False:=eq_false h2
    simp(disch:=omega)only[go_sem,seval,wqq,f7,f8,f11,f13,f15,f16,f17,q1,qL,gx,lo,wd,ms,asq,mk,h1',h2',lv,mG,mG0,sG,sG0,lG,lqq]
    exact rt _ _ (by simp only[go_sem,seval])
  ·have h1':(E1=0)=False:=eq_false h1
   simp(disch:=omega)only[go_sem,seval,wqq,f7,f8,f11,f13,f15,f16,f17,q1,qL,gx,lo,wd,ms,asq,mk,h1',lv,mG,mG0,sG,sG0,lG,lqq]
   exact rt _ _ (by simp only[go_sem,seval])
 ·obtain rfl:j=3:=by omega
  have q1:(((3:Nat):Int)<3)=False:=by simp
  simp(disch:=omega)only[go_sem,seval,wqq,f7,f8,f11,f13,f15,f16,f17,q1,mG,mG0,sG,sG0,lG,lqq]
  exact cont _ _ _ _ _ _ _ hh (by simp only[go_sem,seval,f7]) (by simp only[go_sem,seval,f8]) (by simp only[go_sem,seval,f11]) (by simp only[go_sem,seval,f15]) (by simp only[go_sem,seval,f16])
set_option maxHeartbeats 8000000 in
theorem zmm {F:PFin} {ks:List KI} {c:Nat→Int} {R:IV} {P:Nat→FQ} {bx:PV} {e0 e1 e5:Nat} {m2 m3 m4:Option PB} {G:PM} {fr:PFr}
  (hp:∀i,i<4→evE c (fun k=>P (i*3+k))=0→ivHas R (evR c (fun k=>P (i*3+k))))
  (f7:fr 7=.p 0 0) (f8:fr 8=bx) (f11:fr 11=.p 1 0) (f16:fr 16=.p 4 0) (f26:fr 26=.sl (G.length+5) 0 4 4 12) (f27:fr 27=(PV.i .i64 ((0:Nat):Int)))
  (cont:∀fr' e0 e1 G,fr' 7=.p 0 0→fr' 8=bx→fr' 11=.p 1 0→fr' 16=.p 4 0→UK E0 F (.exit 2) ks fr' (some ⟨cs 20 c,true,e0⟩::some ⟨(ivP R).cells,true,e1⟩::m2::m3::m4::G)) :
  WK E0 F (.loop zzh) ks fr (some ⟨cs 20 c,true,e0⟩::some ⟨(ivP R).cells,true,e1⟩::m2::m3::m4::(G++[some ⟨ptQ P,true,e5⟩])):=by
 refine zag zzh.eq_1 (fun(i:Nat) fr M=>i≤4∧fr 7=.p 0 0∧fr 8=bx∧fr 11=.p 1 0∧fr 16=.p 4 0∧fr 26=.sl (G.length+5) 0 4 4 12∧fr 27=(PV.i .i64 ((i:Nat):Int))∧∃e0 e1 e5 H,M=some ⟨cs 20 c,true,e0⟩::some ⟨(ivP R).cells,true,e1⟩::m2::m3::m4::(G++(some ⟨ptQ P,true,e5⟩::H))) (fun i=>4-i) ?_ 0 ⟨by omega,f7,f8,f11,f16,f26,f27,e0,e1,e5,[],rfl⟩
 clear f7 f8 f11 f16 f26 f27
 rintro i fr M ⟨hi,f7,f8,f11,f16,f26,f27,e0,e1,e5,H,rfl⟩ ih
 rcases Nat.lt_or_ge i 4 with h|h
 ·have q1:((i:Int)<4)=True:=eq_true (by omega)
  have qL:(i<4)=True:=eq_true h
  have t0:=zki P h (k:=0) (by decide)
  have t1:=zki P h (k:=1) (by decide)
  have t2:=zki P h (k:=2) (by decide)
  rw[Nat.zero_mul,Nat.add_zero] at t0
  rw[Nat.one_mul] at t1
  rw[show 2*4=8 from rfl] at t2
  have ll:=zoU P
  have b0:(i*12+4≤48)=True:=eq_true (by omega)
  have b1:(i*12+4+4≤48)=True:=eq_true (by omega)
  have b2:(i*12+8+4≤48)=True:=eq_true (by omega)
  have ev:=zjW (c:=c) (U:=fun k=>P (i*3+k))
  have hq:=hp i h
  generalize evR c (fun k=>P (i*3+k))=V at *
  generalize evE c (fun k=>P (i*3+k))=E at *
  simp only[Nat.add_zero] at ev
  have hs:=zj2 R V
  by_cases hE:E=0
  ·have hE':(E=0)=True:=eq_true hE
   rw[decide_eq_true (hq hE)] at hs
   simp(disch:=omega)only[go_sem,seval,wqq,f7,f8,f11,f16,f26,f27,q1,qL,t0,t1,t2,ll,b0,b1,b2,zpv,Nat.add_zero,ev,hE',hs,mG,mG0,sG,sG0,lG,lqq]
   exact ih (i+1) _ _ (by omega) ⟨by omega,by simp only[go_sem,seval,f7],by simp only[go_sem,seval,f8],by simp only[go_sem,seval,f11],by simp only[go_sem,seval,f16],by simp only[go_sem,seval,f26],by simp only[go_sem,seval];rw[Int.natCast_succ],_,_,_,_,rfl⟩
  ·have hE':(E=0)=False:=eq_false hE
   simp(disch:=omega)only[go_sem,seval,wqq,f7,f8,f11,f16,f26,f27,q1,qL,t0,t1,t2,ll,b0,b1,b2,zpv,Nat.add_zero,ev,hE',mG,mG0,sG,sG0,lG,lqq]
   exact ih (i+1) _ _ (by omega) ⟨by omega,by simp only[go_sem,seval,f7],by simp only[go_sem,seval,f8],by simp only[go_sem,seval,f11],by simp only[go_sem,seval,f16],by simp only[go_sem,seval,f26],by simp only[go_sem,seval];rw[Int.natCast_succ],_,_,_,_,rfl⟩
 ·obtain rfl:i=4:=by omega
  have q1:(((4:Nat):Int)<4)=False:=by simp
  simp(disch:=omega)only[go_sem,seval,wqq,f7,f8,f11,f16,f26,f27,q1,mG,mG0,sG,sG0,lG,lqq]
  exact cont _ _ _ _ (by simp only[go_sem,seval,f7]) (by simp only[go_sem,seval,f8]) (by simp only[go_sem,seval,f11]) (by simp only[go_sem,seval,f16])
set_option maxHeartbeats 8000000 in
theorem zmn {F:PFin} {ks:List KI} {X s:Nat→IV} {n:Nat} {e4:Nat} {m0 m1 m2 m3:Option PB} {G:PM} {fr:PFr}
  (f8:fr 8=.lst [ivP (X 0),ivP (X 1),ivP (X 2)]) (f11:fr 11=.p 1 0) (f16:fr 16=.p 4 0) (f30:fr 30=.p n 0) (f32:fr 32=(PV.i .i64 ((0:Nat):Int)))
  (rt:∀fr' M',fr' 6=.b true→UK E0 F .ret ks fr' M')
  (cont:∀fr',(∀e,e<3→ivIn (s e) (X e))→fr' 11=.p 1 0→fr' 30=.p n 0→UK E0 F (.exit 4) ks fr' (m0::m1::m2::m3::some ⟨vJ s 3,true,e4⟩::G)) :
  WK E0 F (.loop zzg) ks fr (m0::m1::m2::m3::some ⟨vJ s 3,true,e4⟩::G):=by
 have lv:=ze6
 refine zag zzg.eq_1 (fun(j:Nat) fr M=>j≤3∧(∀e,e<j→ivIn (s e) (X e))∧fr 8=.lst [ivP (X 0),ivP (X 1),ivP (X 2)]∧fr 11=.p 1 0∧fr 16=.p 4 0∧fr 30=.p n 0∧fr 32=(PV.i .i64 ((j:Nat):Int))∧M=m0::m1::m2::m3::some ⟨vJ s 3,true,e4⟩::G) (fun j=>3-j) ?_ 0 ⟨by omega,fun e he=>absurd he (by omega),f8,f11,f16,f30,f32,rfl⟩
 clear f8 f11 f16 f30 f32
 rintro j fr M ⟨hj,hh,f8,f11,f16,f30,f32,rfl⟩ ih
 rcases Nat.lt_or_ge j 3 with h|h
 ·have q1:((j:Int)<3)=True:=eq_true (by omega)
  have qL:(j<3)=True:=eq_true h
  have gx:=zqn X h
  have tx:((vJ s 3).drop (j*4)).take 4=vc (s j):=by
   have:=zdH (k:=4) (f:=fun e=>if e<3 then vc (s e) else zc) (n:=3) (i:=j) (zvG s 3) h
   rw[if_pos h] at this;exact this
  have ll:=zna s 3
  have b0:(j*4+4≤12)=True:=eq_true (by omega)
  have l3:(j*4≤8)=True:=eq_true (by omega)
  have wi:=ze4 (s j) (X j)
  by_cases hw:ivIn (s j) (X j)
  ·rw[decide_eq_true hw] at wi
   simp(disch:=omega)only[go_sem,seval,wqq,f8,f11,f16,f30,f32,q1,qL,gx,tx,ll,b0,l3,zpm,wi,mG,mG0,sG,sG0,lG,lqq]
   exact ih (j+1) _ _ (by omega) ⟨by omega,fun e he=>by
    rcases Nat.lt_or_ge e j with q|q
    ·exact hh e q
    ·obtain rfl:e=j:=by omega
     exact hw,by simp only[go_sem,seval,f8],by simp only[go_sem,seval,f11],by simp only[go_sem,seval,f16],by simp only[go_sem,seval,f30],by simp only[go_sem,seval];rw[Int.natCast_succ],rfl⟩
  ·rw[decide_eq_false hw] at wi
   simp(disch:=omega)only[go_sem,seval,wqq,f8,f11,f16,f30,f32,q1,qL,gx,tx,ll,b0,l3,zpm,wi,lv,mG,mG0,sG,sG0,lG,lqq]
   exact rt _ _ (by simp only[go_sem,seval])
 ·obtain rfl:j=3:=by omega
  have q1:(((3:Nat):Int)<3)=False:=by simp
  simp(disch:=omega)only[go_sem,seval,wqq,f8,f11,f16,f30,f32,q1,mG,mG0,sG,sG0,lG,lqq]
  exact cont _ hh (by simp only[go_sem,seval,f11]) (by simp only[go_sem,seval,f30])
theorem zpL (xs:List Int) (j:Nat):(bxU xs j).ok:=zhq _ _
noncomputable def pcP (X:Nat→IV) (t:FQ) (e:Nat):FQ:=if e<3 then inP X t e else if e<6 then frQ (X (e-3)).lo else if e<9 then frQ (X (e-6)).hi else if e=9 then frQ (X 0).lo else if e=10 then frQ (X 1).hi else inP X t 2
theorem zmS (X:Nat→IV) (t:FQ):[PV.b (decide ((inP X t 0).p.v<0)),D (inP X t 0).p.v.natAbs,.b (decide ((inP X t 0).l.v<0)),D (inP X t 0).l.v.natAbs,.b (decide ((inP X t 1).p.v<0)),D (inP X t 1).p.v.natAbs,.b (decide ((inP X t 1).l.v<0)),D (inP X t 1).l.v.natAbs,.b (decide ((inP X t 2).p.v<0)),D (inP X t 2).p.v.natAbs,.b (decide ((inP X t 2).l.v<0)),D (inP X t 2).l.v.natAbs,.b (decide ((frQ (X 0).lo).p.v<0)),D (frQ (X 0).lo).p.v.natAbs,.b (decide ((frQ (X 0).lo).l.v<0)),D (frQ (X 0).lo).l.v.natAbs,.b (decide ((frQ (X 1).lo).p.v<0)),D (frQ (X 1).lo).p.v.natAbs,.b (decide ((frQ (X 1).lo).l.v<0)),D (frQ (X 1).lo).l.v.natAbs,.b (decide ((frQ (X 2).lo).p.v<0)),D (frQ (X 2).lo).p.v.natAbs,.b (decide ((frQ (X 2).lo).l.v<0)),D (frQ (X 2).lo).l.v.natAbs,.b (decide ((frQ (X 0).hi).p.v<0)),D (frQ (X 0).hi).p.v.natAbs,.b (decide ((frQ (X 0).hi).l.v<0)),D (frQ (X 0).hi).l.v.natAbs,.b (decide ((frQ (X 1).hi).p.v<0)),D (frQ (X 1).hi).p.v.natAbs,.b (decide ((frQ (X 1).hi).l.v<0)),D (frQ (X 1).hi).l.v.natAbs,.b (decide ((frQ (X 2).hi).p.v<0)),D (frQ (X 2).hi).p.v.natAbs,.b (decide ((frQ (X 2).hi).l.v<0)),D (frQ (X 2).hi).l.v.natAbs,.b (decide ((frQ (X 0).lo).p.v<0)),D (frQ (X 0).lo).p.v.natAbs,.b (decide ((frQ (X 0).lo).l.v<0)),D (frQ (X 0).lo).l.v.natAbs,.b (decide ((frQ (X 1).hi).p.v<0)),D (frQ (X 1).hi).p.v.natAbs,.b (decide ((frQ (X 1).hi).l.v<0)),D (frQ (X 1).hi).l.v.natAbs,.b (decide ((inP X t 2).p.v<0)),D (inP X t 2).p.v.natAbs,.b (decide ((inP X t 2).l.v<0)),D (inP X t 2).l.v.natAbs]=ptQ (pcP X t):=_root_.id rfl
theorem zkb {X:Nat→IV} {t:FQ} (h:∀e,e<3→ivHas (X e) (inP X t e)) (ok:∀e,e<3→(X e).ok) {i:Nat} (hi:i<4):∀k,k<3→ivHas (X k) (pcP X t (i*3+k)):=fun k hk=>by
 have o:=ok k hk
 have hl:=zqq o
 have hh:=zqp o
 have hn:=h k hk
 obtain rfl|rfl|rfl|rfl:i=0∨i=1∨i=2∨i=3:=by omega
 all_goals (obtain rfl|rfl|rfl:k=0∨k=1∨k=2:=by omega)
 all_goals first|exact hn|exact hl|exact hh
set_option maxHeartbeats 8000000 in
theorem p_PolyContains {xs ms:List Int} (hx:Ints xs) (hm:Ints ms) {t:Int} (ft:Fits64 t):pf E0 394 [ints xs,ints ms,.i .i64 t]=some (.b true):=by
 have gp:=zq9 hx
 generalize genP xs=c at *
 have lv:=ze6
 have bx:=zt3 hm
 have a1:=za8 t (n:=8) (by decide)
 have a2:0≤(t.tmod 8+8).tmod 8∧(t.tmod 8+8).tmod 8<8:=⟨Int.tmod_nonneg _ (by omega),Int.tmod_lt_of_pos _ (by decide)⟩
 obtain⟨of,_,_,ho⟩:=zoE (p:=(t.tmod 8+8).tmod 8) (q:=7) (by unfold Fits64;omega) (by decide) (by decide)
 have w1:=zhN (n:=1) (by decide)
 have cm:=zcq of (whQ 1)
 refine zaa (xf:=zyR) rfl (by simp[zyR]) ?_
 simp only[zyR]
 by_cases hok:bxOk ms
 ·rw[if_pos hok] at bx
  generalize hU:bxU ms=X at *
  have en:=zfU (c:=c) (U:=X)
  have RH:=fun U=>znx (c:=c) (X:=X) (U:=U)
  have RI:=fun U h=>zqa (c:=c) (U:=U) (X:=X) h
  have enI:=fun V=>zfU (c:=c) (U:=V)
  have okX:∀e,e<3→(X e).ok:=by subst hU;exact fun e he=>zpL ms e
  generalize enR c X=R at *
  obtain⟨R,E⟩:=R
  simp only at en
  by_cases hE:E=0
  ·have hE':(E=0)=True:=eq_true hE
   simp(disch:=omega)only[go_sem,seval,wqq,gp,z20,bx,zaj,zac,en,hE',ho]
   refine zak rfl ?_
   simp(disch:=omega)only[go_sem,seval,wqq,gp,z20,bx,zaj,zac,en,hE',ho,w1,cm]
   have lo0:=zq8 (X 0)
   have lo1:=zq8 (X 1)
   have lo2:=zq8 (X 2)
   have hi0:=zst (X 0)
   have hi1:=zst (X 1)
   have hi2:=zst (X 2)
   by_cases hc:cmpF of (whQ 1)>0
   ·have hc':(0<cmpF of (whQ 1))=True:=eq_true hc
    simp(disch:=omega)only[go_sem,seval,wqq,gp,z20,bx,hc',w1]
    refine zml (X:=X) (c:=cs 20 c) (R:=R) (pt:=(whQ 1)) (by simp only[go_sem,seval]) (by simp only[go_sem,seval]) (by simp only[go_sem,seval]) (by simp only[go_sem,seval]) (by simp only[go_sem,seval]) (by simp only[go_sem,seval]) (by simp only[go_sem,seval]) (fun fr' M' h=>by simp(disch:=omega)only[go_sem,seval,wqq,h]) ?_
    intro fr' e0 e1 e2 e3 e4 G hh f7 f8 f11 f15 f16
    have in2:=enI (inV X (whQ 1))
    have fin:(enR c (inV X (whQ 1))).2=0→(∀e,e<3→ivIn (inV X (whQ 1) e) (X e))→ivIn (enR c (inV X (whQ 1))).1 R:=fun _ q=>(RI _ (fun e _=>zhq _ _) q hE).2
    have hp:∀i,i<4→evE c (fun k=>pcP X (whQ 1) (i*3+k))=0→ivHas R (evR c (fun k=>pcP X (whQ 1) (i*3+k))):=fun i hi q=>RH _ hE q (fun k hk=>zkb hh okX hi k hk)
    generalize enR c (inV X (whQ 1))=W at *
    obtain⟨W,EW⟩:=W
    simp only at in2 fin
    simp(disch:=omega)only[go_sem,seval,wqq,f7,f8,f11,f15,f16,zsx,mG,mG0,sG,sG0,lG,lqq]
    refine zak rfl ?_
    simp(disch:=omega)only[go_sem,seval,wqq,f7,f8,f11,f15,f16,lo0,lo1,lo2,hi0,hi1,hi2,zsx,zaj,zac,zmS,mG,mG0,sG,sG0,lG,lqq]
    refine zmm (G:=G) (P:=pcP X (whQ 1)) hp (bx:=.lst [ivP (X 0),ivP (X 1),ivP (X 2)]) (by simp only[go_sem,seval,f7]) (by simp only[go_sem,seval,f8]) (by simp only[go_sem,seval,f11]) (by simp only[go_sem,seval,f16]) (by simp only[go_sem,seval]) (by simp only[go_sem,seval]) ?_
    intro fr' e0 e1 G f7 f8 f11 f16
    by_cases hW:EW=0
    ·have hW':(EW=0)=True:=eq_true hW
     simp(disch:=omega)only[go_sem,seval,wqq,f7,f8,f11,f16,zsH,in2,hW',mG,mG0,sG,sG0,lG,lqq]
     refine zmn (n:=G.length+5) (X:=X) (s:=inV X (whQ 1)) (by simp only[go_sem,seval,f8]) (by simp only[go_sem,seval,f11]) (by simp only[go_sem,seval,f16]) (by simp only[go_sem,seval]) (by simp only[go_sem,seval]) (fun fr' M' h=>by simp(disch:=omega)only[go_sem,seval,wqq,h]) ?_
     intro fr' hn f11 f30
     have wi:=ze4 W R
     rw[decide_eq_true (fin hW hn)] at wi
     simp(disch:=omega)only[go_sem,seval,wqq,f11,f30,wi,lv,mG,mG0,sG,sG0,lG,lqq]
    ·have hW':(EW=0)=False:=eq_false hW
     simp(disch:=omega)only[go_sem,seval,wqq,f7,f8,f11,f16,zsH,in2,hW',lv,mG,mG0,sG,sG0,lG,lqq]
   ·have hc':(0<cmpF of (whQ 1))=False:=eq_false hc
    simp(disch:=omega)only[go_sem,seval,wqq,gp,z20,bx,hc',w1]
    refine zml (X:=X) (c:=cs 20 c) (R:=R) (pt:=of) (by simp only[go_sem,seval]) (by simp only[go_sem,seval]) (by simp only[go_sem,seval]) (by simp only[go_sem,seval]) (by simp only[go_sem,seval]) (by simp only[go_sem,seval]) (by simp only[go_sem,seval]) (fun fr' M' h=>by simp(disch:=omega)only[go_sem,seval,wqq,h]) ?_
    intro fr' e0 e1 e2 e3 e4 G hh f7 f8 f11 f15 f16
    have in2:=enI (inV X of)
    have fin:(enR c (inV X of)).2=0→(∀e,e<3→ivIn (inV X of e) (X e))→ivIn (enR c (inV X of)).1 R:=fun _ q=>(RI _ (fun e _=>zhq _ _) q hE).2
    have hp:∀i,i<4→evE c (fun k=>pcP X of (i*3+k))=0→ivHas R (evR c (fun k=>pcP X of (i*3+k))):=fun i hi q=>RH _ hE q (fun k hk=>zkb hh okX hi k hk)
    generalize enR c (inV X of)=W at *
    obtain⟨W,EW⟩:=W
    simp only at in2 fin
    simp(disch:=omega)only[go_sem,seval,wqq,f7,f8,f11,f15,f16,zsx,mG,mG0,sG,sG0,lG,lqq]
    refine zak rfl ?_
    simp(disch:=omega)only[go_sem,seval,wqq,f7,f8,f11,f15,f16,lo0,lo1,lo2,hi0,hi1,hi2,zsx,zaj,zac,zmS,mG,mG0,sG,sG0,lG,lqq]
    refine zmm (G:=G) (P:=pcP X of) hp (bx:=.lst [ivP (X 0),ivP (X 1),ivP (X 2)]) (by simp only[go_sem,seval,f7]) (by simp only[go_sem,seval,f8]) (by simp only[go_sem,seval,f11]) (by simp only[go_sem,seval,f16]) (by simp only[go_sem,seval]) (by simp only[go_sem,seval]) ?_
    intro fr' e0 e1 G f7 f8 f11 f16
    by_cases hW:EW=0
    ·have hW':(EW=0)=True:=eq_true hW
     simp(disch:=omega)only[go_sem,seval,wqq,f7,f8,f11,f16,zsH,in2,hW',mG,mG0,sG,sG0,lG,lqq]
     refine zmn (n:=G.length+5) (X:=X) (s:=inV X of) (by simp only[go_sem,seval,f8]) (by simp only[go_sem,seval,f11]) (by simp only[go_sem,seval,f16]) (by simp only[go_sem,seval]) (by simp only[go_sem,seval]) (fun fr' M' h=>by simp(disch:=omega)only[go_sem,seval,wqq,h]) ?_
     intro fr' hn f11 f30
     have wi:=ze4 W R
     rw[decide_eq_true (fin hW hn)] at wi
     simp(disch:=omega)only[go_sem,seval,wqq,f11,f30,wi,lv,mG,mG0,sG,sG0,lG,lqq]
    ·have hW':(EW=0)=False:=eq_false hW
     simp(disch:=omega)only[go_sem,seval,wqq,f7,f8,f11,f16,zsH,in2,hW',lv,mG,mG0,sG,sG0,lG,lqq]
  ·have hE':(E=0)=False:=eq_false hE
   simp(disch:=omega)only[go_sem,seval,wqq,gp,z20,bx,zaj,zac,en,hE',lv]
 ·rw[if_neg hok] at bx
  simp(disch:=omega)only[go_sem,seval,wqq,gp,z20,bx,lv]
end Go.Eng
