/- The engine and the contracts on which the statement stands: no conditions of its own. -/
import Derived.Test.YthjpijjeidddoaaGreatDoorMine5
set_option linter.unusedSimpArgs false
set_option linter.unusedVariables false
set_option linter.unusedSectionVars false
namespace Go.Eng
theorem zkB (x y:IV):pf E0 379 [ivP x,ivP y]=some (.tu [ivP (ivAdd x y).1,.i .i64 (ivAdd x y).2]):=by
 have a1:=zgW x.lo y.lo
 have a2:=zgW x.hi y.hi
 rw[zaR (zdY x.l y.l)] at a1
 rw[zaR (zdY x.h y.h)] at a2
 have v1:=zaW (zdY x.l y.l)
 have v2:=zaW (zdY x.h y.h)
 have md:=zh2 (clip (x.lo.v+y.lo.v)) (clip (x.hi.v+y.hi.v))
 rw[v1,v2] at md
 unfold ivAdd
 generalize mdI (x.lo.v+y.lo.v) (x.hi.v+y.hi.v)=R at *
 generalize clip (x.lo.v+y.lo.v)=u at *
 generalize clip (x.hi.v+y.hi.v)=v at *
 refine zaa (xf:=zB0) rfl (by simp[zB0]) ?_
 simp only[zB0]
 simp(disch:=omega)only[go_sem,seval,wqq,a1,a2,md]
def mnU (a b:WI):WI:=if b.v<a.v then b else a
def mxU (a b:WI):WI:=if b.v>a.v then b else a
theorem ziI (a b:WI):(mnU a b).v=min2 a.v b.v:=by unfold mnU min2;split<;>rfl
theorem ziJ (a b:WI):(mxU a b).v=max2 a.v b.v:=by unfold mxU max2;split<;>rfl
theorem ztP (ws:List WI):ez 2 (ws.map wiP)=true:=by
 unfold ez
 rw[List.all_eq_true]
 intro x hx
 obtain⟨w,_,rfl⟩:=List.mem_map.1 hx
 rfl
theorem zsf (w:WI) (ws:List WI):slP 2 (.lst ((w::ws).map wiP)) (some (.i .i64 1)) none none=some (.lst (ws.map wiP)):=by
 have h:=ztP (w::ws)
 simp only[slP,Option.isSome_none,Bool.false_eq_true,if_false,optP,asNP,asIP]
 rw[if_pos (by decide)]
 simp only
 rw[if_pos ⟨by simp,Nat.le_refl _,h⟩,List.take_length]
 rfl
theorem zl6 (ws:List WI) {i:Nat} (h:i<ws.length):(ws.map wiP)[i]?=some (wiP ws[i]):=by rw[List.getElem?_map,List.getElem?_eq_getElem h];rfl
theorem znk (M:PM) (d:Nat) (ws:List WI):fzL (fz M (d+1+1)) (ws.map wiP)=some (ws.map wiP,[]):=by
 induction ws with
 | nil=>rfl
 | cons w ws ih=>simp only[List.map_cons,fzL,zqN,ih,List.nil_append]
theorem zkt (w:WI) (ws:List WI) (hl:ws.length<1000):pf E0 387 [.ag [.fn 296 [],.fn 297 []],.lst ((w::ws).map wiP)]=some (wiP (ws.foldl mnU w)):=by
 have s0:=zsf w ws
 have s1:=zl6 (w::ws) (i:=0) (by simp)
 refine zaa (xf:=zzI) rfl (by simp[zzI]) ?_
 simp only[zzI]
 have l0:(((w::ws).map wiP).length:Int)=((ws.length+1:Nat):Int):=by simp
 have l1:((ws.map wiP).length:Int)=((ws.length:Nat):Int):=by simp
 have g0:(w::ws)[0]=w:=rfl
 have fz0:fzL (fz [] 12) ((w::ws).map wiP)=some ((w::ws).map wiP,[]):=znk _ _ _
 generalize (w::ws).map wiP=L0 at *
 generalize hL:ws.map wiP=L1 at *
 simp(disch:=omega)only[go_sem,seval,wqq,s0,s1,l0,l1,g0,fz0]
 refine zan zz3.eq_1 (fun(i:Nat) fr M=>i≤ws.length∧fr 2=.p 0 0∧fr 4=.p 1 0∧fr 5=.p 2 0∧fr 12=.lst L1∧fr 13=(PV.i .i64 ((ws.length:Nat):Int))∧fr 14=(PV.i .i64 ((i:Nat):Int))∧∃v G,M=some ⟨[.fn 296 [],.fn 297 []],true,0⟩::some ⟨[.b false,.nl],true,0⟩::some ⟨(wiP ((ws.take i).foldl mnU w)).cells,true,v⟩::G) (fun i=>ws.length-i) ?_ 0 ⟨by omega,rfl,rfl,rfl,rfl,by simp only[go_sem,seval,l1],rfl,_,[],rfl⟩
 rintro i fr M ⟨hi,f2,f4,f5,f12,f13,f14,v,G,rfl⟩ ih
 by_cases h:i<ws.length
 ·have q1:((i:Int)<(ws.length:Int))=True:=by simp;omega
  have x1:=zl6 ws h
  rw[hL] at x1
  have st:(ws.take (i+1)).foldl mnU w=mnU ((ws.take i).foldl mnU w) ws[i]:=by rw[List.take_succ_eq_append_getElem h,List.foldl_append];rfl
  have d1:=zpk ws[i] ((ws.take i).foldl mnU w)
  have hm:mnU ((ws.take i).foldl mnU w) ws[i]=if ws[i].v<((ws.take i).foldl mnU w).v then ws[i] else (ws.take i).foldl mnU w:=rfl
  rw[←st] at hm
  generalize hc:(ws.take i).foldl mnU w=c at *
  generalize hn:(ws.take (i+1)).foldl mnU w=n at *
  generalize ws[i]=b at *
  by_cases hb:b.v<c.v
  ·rw[if_pos hb] at hm
   subst hm
   rw[decide_eq_true hb] at d1
   simp(disch:=omega)only[go_sem,seval,wqq,f2,f4,f5,f12,f13,f14,q1,x1,d1,mG,mG0,sG,sG0,lG,lqq]
   exact ih (i+1) _ _ (by omega) ⟨by omega,f2,f4,f5,f12,f13,tS _,_,_,by rw[hn];rfl⟩
  ·rw[if_neg hb] at hm
   subst hm
   rw[decide_eq_false hb] at d1
   simp(disch:=omega)only[go_sem,seval,wqq,f2,f4,f5,f12,f13,f14,q1,x1,d1,mG,mG0,sG,sG0,lG,lqq]
   exact ih (i+1) _ _ (by omega) ⟨by omega,f2,f4,f5,f12,f13,tS _,_,_,by rw[hn];rfl⟩
 ·have q1:((i:Int)<(ws.length:Int))=False:=by simp;omega
  have e1:ws.take i=ws:=List.take_of_length_le (by omega)
  rw[e1]
  generalize ws.foldl mnU w=c at *
  simp(disch:=omega)only[go_sem,seval,wqq,f2,f4,f5,f12,f13,f14,q1]
theorem zku (w:WI) (ws:List WI) (hl:ws.length<1000):pf E0 387 [.ag [.fn 298 [],.fn 299 []],.lst ((w::ws).map wiP)]=some (wiP (ws.foldl mxU w)):=by
 have s0:=zsf w ws
 have s1:=zl6 (w::ws) (i:=0) (by simp)
 refine zaa (xf:=zzI) rfl (by simp[zzI]) ?_
 simp only[zzI]
 have l0:(((w::ws).map wiP).length:Int)=((ws.length+1:Nat):Int):=by simp
 have l1:((ws.map wiP).length:Int)=((ws.length:Nat):Int):=by simp
 have g0:(w::ws)[0]=w:=rfl
 have fz0:fzL (fz [] 12) ((w::ws).map wiP)=some ((w::ws).map wiP,[]):=znk _ _ _
 generalize (w::ws).map wiP=L0 at *
 generalize hL:ws.map wiP=L1 at *
 simp(disch:=omega)only[go_sem,seval,wqq,s0,s1,l0,l1,g0,fz0]
 refine zan zz3.eq_1 (fun(i:Nat) fr M=>i≤ws.length∧fr 2=.p 0 0∧fr 4=.p 1 0∧fr 5=.p 2 0∧fr 12=.lst L1∧fr 13=(PV.i .i64 ((ws.length:Nat):Int))∧fr 14=(PV.i .i64 ((i:Nat):Int))∧∃v G,M=some ⟨[.fn 298 [],.fn 299 []],true,0⟩::some ⟨[.b false,.nl],true,0⟩::some ⟨(wiP ((ws.take i).foldl mxU w)).cells,true,v⟩::G) (fun i=>ws.length-i) ?_ 0 ⟨by omega,rfl,rfl,rfl,rfl,by simp only[go_sem,seval,l1],rfl,_,[],rfl⟩
 rintro i fr M ⟨hi,f2,f4,f5,f12,f13,f14,v,G,rfl⟩ ih
 by_cases h:i<ws.length
 ·have q1:((i:Int)<(ws.length:Int))=True:=by simp;omega
  have x1:=zl6 ws h
  rw[hL] at x1
  have st:(ws.take (i+1)).foldl mxU w=mxU ((ws.take i).foldl mxU w) ws[i]:=by rw[List.take_succ_eq_append_getElem h,List.foldl_append];rfl
  have d1:=zuw ws[i] ((ws.take i).foldl mxU w)
  have hm:mxU ((ws.take i).foldl mxU w) ws[i]=if ws[i].v>((ws.take i).foldl mxU w).v then ws[i] else (ws.take i).foldl mxU w:=rfl
  rw[←st] at hm
  generalize hc:(ws.take i).foldl mxU w=c at *
  generalize hn:(ws.take (i+1)).foldl mxU w=n at *
  generalize ws[i]=b at *
  by_cases hb:b.v>c.v
  ·rw[if_pos hb] at hm
   subst hm
   rw[decide_eq_true hb] at d1
   simp(disch:=omega)only[go_sem,seval,wqq,f2,f4,f5,f12,f13,f14,q1,x1,d1,mG,mG0,sG,sG0,lG,lqq]
   exact ih (i+1) _ _ (by omega) ⟨by omega,f2,f4,f5,f12,f13,tS _,_,_,by rw[hn];rfl⟩
  ·rw[if_neg hb] at hm
   subst hm
   rw[decide_eq_false hb] at d1
   simp(disch:=omega)only[go_sem,seval,wqq,f2,f4,f5,f12,f13,f14,q1,x1,d1,mG,mG0,sG,sG0,lG,lqq]
   exact ih (i+1) _ _ (by omega) ⟨by omega,f2,f4,f5,f12,f13,tS _,_,_,by rw[hn];rfl⟩
 ·have q1:((i:Int)<(ws.length:Int))=False:=by simp;omega
  have e1:ws.take i=ws:=List.take_of_length_le (by omega)
  rw[e1]
  generalize ws.foldl mxU w=c at *
  simp(disch:=omega)only[go_sem,seval,wqq,f2,f4,f5,f12,f13,f14,q1]
end Go.Eng
namespace Go.Eng
theorem zno (a b c d:WI):group 2 4 [PV.b (decide (a.v<0)),Dw (wlen a.v.natAbs) a.v.natAbs,PV.b (decide (b.v<0)),Dw (wlen b.v.natAbs) b.v.natAbs,PV.b (decide (c.v<0)),Dw (wlen c.v.natAbs) c.v.natAbs,PV.b (decide (d.v<0)),Dw (wlen d.v.natAbs) d.v.natAbs]=[wiP a,wiP b,wiP c,wiP d]:=_root_.id rfl
theorem zd5 (a b:WI) (h:wlen (a.v*b.v).natAbs≤512):∃q:WI,q.v=flI (a.v*b.v) 4294967296∧pf E0 386 [wiP a,wiP b,.fp [.fn 296 [],.fn 297 []]]=some (wiP q):=by
 have m1:=zeE a b
 rw[zaR h] at m1
 have cv:=zaW h
 have g1:=f32
 have wv:=zi3
 obtain⟨q,qv,fl⟩:∃q:WI,q.v=flI (a.v*b.v) 4294967296∧pf E0 296 [wiP (clip (a.v*b.v)),wiP w32]=some (.tu [wiP q,.i .i64 0]):=⟨_,by show (clip (a.v*b.v)).v/w32.v=_;rw[cv,wv];rfl,zdl (clip (a.v*b.v)) w32 (by rw[wv];decide)⟩
 generalize clip (a.v*b.v)=z at *
 generalize w32=ww at *
 refine⟨q,qv,?_⟩
 refine zaa (xf:=zz9) rfl (by simp[zz9]) ?_
 simp only[zz9]
 simp(disch:=omega)only[go_sem,seval,wqq,m1]
 refine zae rfl ?_
 simp(disch:=omega)only[go_sem,seval,wqq,g1,fl]
theorem zd6 (a b:WI) (h:wlen (a.v*b.v).natAbs≤512):∃q:WI,q.v=ceI (a.v*b.v) 4294967296∧pf E0 386 [wiP a,wiP b,.fp [.fn 298 [],.fn 299 []]]=some (wiP q):=by
 have m1:=zeE a b
 rw[zaR h] at m1
 have cv:=zaW h
 have g1:=f32
 have wv:=zi3
 obtain⟨q,qv,fl⟩:=zd4 (clip (a.v*b.v)) w32 (by rw[wv];decide)
 rw[cv,wv] at qv
 generalize clip (a.v*b.v)=z at *
 generalize w32=ww at *
 refine⟨q,qv,?_⟩
 refine zaa (xf:=zz9) rfl (by simp[zz9]) ?_
 simp only[zz9]
 simp(disch:=omega)only[go_sem,seval,wqq,m1]
 refine zae rfl ?_
 simp(disch:=omega)only[go_sem,seval,wqq,g1,fl]
theorem zmq (x y:IV) {q1 q2 q3 q4:WI} (h1:pf E0 386 [wiP x.lo,wiP y.lo,.fp [.fn 296 [],.fn 297 []]]=some (wiP q1)) (h2:pf E0 386 [wiP x.lo,wiP y.hi,.fp [.fn 296 [],.fn 297 []]]=some (wiP q2))
  (h3:pf E0 386 [wiP x.hi,wiP y.lo,.fp [.fn 296 [],.fn 297 []]]=some (wiP q3)) (h4:pf E0 386 [wiP x.hi,wiP y.hi,.fp [.fn 296 [],.fn 297 []]]=some (wiP q4)) :
  pf E0 381 [.ag [.fn 296 [],.fn 297 []],ivP x,ivP y,.fn 386 [.fp [.fn 296 [],.fn 297 []]]]=some (wiP (mnU (mnU (mnU q1 q2) q3) q4)):=by
 have b:=zkt q1 [q2,q3,q4] (by simp)
 simp only[List.map_cons,List.map_nil,List.foldl_cons,List.foldl_nil] at b
 generalize mnU (mnU (mnU q1 q2) q3) q4=R at *
 refine zaa (xf:=zzG) rfl (by simp[zzG]) ?_
 simp only[zzG]
 simp(disch:=omega)only[go_sem,seval,wqq]
 refine zaI [10,16,22,28] rfl ?_ ?_
 ·simp(disch:=omega)only[go_sem,seval,wqq,h1,h2,h3,h4,b,zai,zad,zno]
  exact⟨_,rfl,rfl⟩
 simp(disch:=omega)only[go_sem,seval,wqq,h1,h2,h3,h4,b,zai,zad,zno]
theorem zmr (x y:IV) {q1 q2 q3 q4:WI} (h1:pf E0 386 [wiP x.lo,wiP y.lo,.fp [.fn 298 [],.fn 299 []]]=some (wiP q1)) (h2:pf E0 386 [wiP x.lo,wiP y.hi,.fp [.fn 298 [],.fn 299 []]]=some (wiP q2))
  (h3:pf E0 386 [wiP x.hi,wiP y.lo,.fp [.fn 298 [],.fn 299 []]]=some (wiP q3)) (h4:pf E0 386 [wiP x.hi,wiP y.hi,.fp [.fn 298 [],.fn 299 []]]=some (wiP q4)) :
  pf E0 381 [.ag [.fn 298 [],.fn 299 []],ivP x,ivP y,.fn 386 [.fp [.fn 298 [],.fn 299 []]]]=some (wiP (mxU (mxU (mxU q1 q2) q3) q4)):=by
 have b:=zku q1 [q2,q3,q4] (by simp)
 simp only[List.map_cons,List.map_nil,List.foldl_cons,List.foldl_nil] at b
 generalize mxU (mxU (mxU q1 q2) q3) q4=R at *
 refine zaa (xf:=zzG) rfl (by simp[zzG]) ?_
 simp only[zzG]
 simp(disch:=omega)only[go_sem,seval,wqq]
 refine zaI [10,16,22,28] rfl ?_ ?_
 ·simp(disch:=omega)only[go_sem,seval,wqq,h1,h2,h3,h4,b,zai,zad,zno]
  exact⟨_,rfl,rfl⟩
 simp(disch:=omega)only[go_sem,seval,wqq,h1,h2,h3,h4,b,zai,zad,zno]
theorem zpb (x y:IV):∃q:WI,q.v=mulLo x y∧pf E0 385 [.ag [.fn 296 [],.fn 297 []],.fp (ivP x).cells,.fp (ivP y).cells]=some (wiP q):=by
 obtain⟨q1,v1,h1⟩:=zd5 x.lo y.lo (zbJ x.l y.l)
 obtain⟨q2,v2,h2⟩:=zd5 x.lo y.hi (zbJ x.l y.h)
 obtain⟨q3,v3,h3⟩:=zd5 x.hi y.lo (zbJ x.h y.l)
 obtain⟨q4,v4,h4⟩:=zd5 x.hi y.hi (zbJ x.h y.h)
 have f:=zmq x y h1 h2 h3 h4
 have e:(mnU (mnU (mnU q1 q2) q3) q4).v=mulLo x y:=by
  rw[ziI,ziI,ziI,v1,v2,v3,v4];rfl
 generalize mnU (mnU (mnU q1 q2) q3) q4=R at *
 refine⟨R,e,?_⟩
 refine zaa (xf:=zAk) rfl (by simp[zAk]) ?_
 simp only[zAk]
 simp(disch:=omega)only[go_sem,seval,wqq,f]
theorem zpc (x y:IV):∃q:WI,q.v=mulHi x y∧pf E0 385 [.ag [.fn 298 [],.fn 299 []],.fp (ivP x).cells,.fp (ivP y).cells]=some (wiP q):=by
 obtain⟨q1,v1,h1⟩:=zd6 x.lo y.lo (zbJ x.l y.l)
 obtain⟨q2,v2,h2⟩:=zd6 x.lo y.hi (zbJ x.l y.h)
 obtain⟨q3,v3,h3⟩:=zd6 x.hi y.lo (zbJ x.h y.l)
 obtain⟨q4,v4,h4⟩:=zd6 x.hi y.hi (zbJ x.h y.h)
 have f:=zmr x y h1 h2 h3 h4
 have e:(mxU (mxU (mxU q1 q2) q3) q4).v=mulHi x y:=by
  rw[ziJ,ziJ,ziJ,v1,v2,v3,v4];rfl
 generalize mxU (mxU (mxU q1 q2) q3) q4=R at *
 refine⟨R,e,?_⟩
 refine zaa (xf:=zAk) rfl (by simp[zAk]) ?_
 simp only[zAk]
 simp(disch:=omega)only[go_sem,seval,wqq,f]
theorem zkD (x y:IV):pf E0 378 [ivP x,ivP y]=some (.tu [ivP (ivMul x y).1,.i .i64 (ivMul x y).2]):=by
 obtain⟨u,uv,e1⟩:=zpb x y
 obtain⟨v,vv,e2⟩:=zpc x y
 have md:=zh2 u v
 unfold ivMul
 rw[uv,vv] at md
 generalize mdI (mulLo x y) (mulHi x y)=R at *
 rw[zbg,zbg] at e1 e2
 clear uv vv
 refine zaa (xf:=zCo) rfl (by simp[zCo]) ?_
 simp only[zCo]
 simp(disch:=omega)only[go_sem,seval,wqq]
 refine zaI [8,11] rfl ?_ ?_
 ·simp(disch:=omega)only[go_sem,seval,wqq,zm7,zm8,e1,e2,md]
  exact⟨_,rfl,rfl⟩
 simp(disch:=omega)only[go_sem,seval,wqq,zm7,zm8,e1,e2,md]
end Go.Eng
namespace Go.Eng
theorem zsk {K:Nat} (h:K≤16384):tlen (two K).natAbs<20000:=by
 have:=zfQ K
 rw[zcG];omega
theorem zqa:T 0=.lst []:=by unfold T;rw[zaH];rfl
theorem zld:rvP ivZ=.ag [.b false,.lst [],.b false,.lst []]:=by
 have:rvP ivZ=.ag [.b false,T 0,.b false,T 0]:=rfl
 rw[this,zqa]
theorem zd7 {x y:Int} (lx:tlen x.natAbs<50000) (ly:tlen y.natAbs<50000):pf E0 363 [nP x,nP y]=some (.tu [rvP (mdI x y).1,.i .i64 (mdI x y).2]):=by
 have hp:pf E0 128 [.i .i64 8192]=some (nP (two 8192)):=zfB 8192 (by omega)
 have lt:=zsk (K:=8192) (by omega)
 have n1:=zdN (two 8192) (by omega)
 have ln:tlen (- two 8192).natAbs<20000:=by rw[Int.natAbs_neg];exact lt
 have c1:=zaQ x (- two 8192) (by omega) (by omega)
 have c2:=zaQ y (two 8192) (by omega) (by omega)
 have c3:=zaQ y (- two 8192) (by omega) (by omega)
 have c4:=zaQ x (two 8192) (by omega) (by omega)
 have hx:=zgP x
 have hy:=zgP y
 have hz:rvP (mdI x y).1=(if inB x∧inB y then rfP x y else .ag [.b false,.lst [],.b false,.lst []]):=by
  split
  ·rename_i h
   obtain⟨_,e1,e2⟩:=ziH h
   unfold rvP;rw[e1,e2]
  ·rename_i h
   rw[zj2 h];exact zld
 have he:(mdI x y).2=(if inB x∧inB y then 0 else 4):=by
  split
  ·rename_i h;exact(ziH h).1
  ·rename_i h;rw[zj2 h]
 rw[hz,he]
 clear hz he lx ly lt ln
 have k1:∀a b:Int,(cmpI a b≤0)↔a≤b:=fun a b=>by unfold cmpI;split<;>(try split)<;>omega
 have k2:∀a b:Int,(0≤cmpI a b)↔b≤a:=fun a b=>by unfold cmpI;split<;>(try split)<;>omega
 generalize two 8192=t at *
 refine zaa (xf:=zCm) rfl (by simp[zCm]) ?_
 simp only[zCm]
 simp(disch:=omega)only[go_sem,seval,wqq,hp]
 by_cases h1:x ≤ -t
 ·have q1:(cmpI x (-t)≤0)=True:=by rw[k1];exact eq_true h1
  rw[if_neg (fun q=>by have:=hx.1 q.1;omega),if_neg (fun q=>by have:=hx.1 q.1;omega)]
  refine zae rfl ?_
  simp(disch:=omega)only[go_sem,seval,wqq,n1,c1,q1,zai,zad]
 ·have q1:(cmpI x (-t)≤0)=False:=by rw[k1];exact eq_false h1
  by_cases h2:t≤y
  ·have q2:(0≤cmpI y t)=True:=by rw[k2];exact eq_true h2
   rw[if_neg (fun q=>by have:=hy.1 q.2;omega),if_neg (fun q=>by have:=hy.1 q.2;omega)]
   refine zae rfl ?_
   simp(disch:=omega)only[go_sem,seval,wqq,n1,c1,q1,c2,q2,zai,zad]
  ·have q2:(0≤cmpI y t)=False:=by rw[k2];exact eq_false h2
   refine zae rfl ?_
   simp(disch:=omega)only[go_sem,seval,wqq,n1,c1,q1,c2,q2,zai,zad]
   by_cases h3:y ≤ -t
   ·have q3:(cmpI y (-t)≤0)=True:=by rw[k1];exact eq_true h3
    rw[if_neg (fun q=>by have:=hy.1 q.2;omega),if_neg (fun q=>by have:=hy.1 q.2;omega)]
    refine zae rfl ?_
    simp(disch:=omega)only[go_sem,seval,wqq,n1,c3,q3,zai,zad]
   ·have q3:(cmpI y (-t)≤0)=False:=by rw[k1];exact eq_false h3
    by_cases h4:t≤x
    ·have q4:(0≤cmpI x t)=True:=by rw[k2];exact eq_true h4
     rw[if_neg (fun q=>by have:=hx.1 q.1;omega),if_neg (fun q=>by have:=hx.1 q.1;omega)]
     refine zae rfl ?_
     simp(disch:=omega)only[go_sem,seval,wqq,n1,c3,q3,c4,q4,zai,zad]
    ·have q4:(0≤cmpI x t)=False:=by rw[k2];exact eq_false h4
     rw[if_pos ⟨hx.2 ⟨by omega,by omega⟩,hy.2 ⟨by omega,by omega⟩⟩,if_pos ⟨hx.2 ⟨by omega,by omega⟩,hy.2 ⟨by omega,by omega⟩⟩]
     refine zae rfl ?_
     simp(disch:=omega)only[go_sem,seval,wqq,n1,c3,q3,c4,q4,zai,zad]
theorem zip {a b:Int} (h:0<b):sgA a b=a∧sgB b=b:=by unfold sgA sgB;rw[if_neg (by omega),if_neg (by omega)];exact⟨rfl,rfl⟩
theorem zet {a b:Int} (hb:b≠0) (la:tlen a.natAbs<50000) (lb:tlen b.natAbs<50000):pf E0 364 [nP a,nP b]=some (nP (flI (sgA a b) (sgB b))):=by
 have d1:=ze0 (x:=sgA a b) (y:=sgB b) (by unfold sgB;split<;>omega) (by unfold sgA;split<;>(try rw[Int.natAbs_neg])<;>omega) (by unfold sgB;split<;>(try rw[Int.natAbs_neg])<;>omega)
 have d1:pf E0 120 [nP (sgA a b),nP (sgB b)]=some (.tu [nP (flI (sgA a b) (sgB b)),nP (sgA a b%sgB b)]):=d1
 have n1:=zdN a (by omega)
 have n2:=zdN b (by omega)
 generalize flI (sgA a b) (sgB b)=q at *
 generalize sgA a b%sgB b=r at *
 by_cases h:b<0
 ·have sn:decide (b<0)=true:=by simp;omega
  have e1:sgA a b = -a:=by unfold sgA;rw[if_pos h]
  have e2:sgB b = -b:=by unfold sgB;rw[if_pos h]
  rw[e1,e2] at d1
  have f1:PV.ag [PV.b true,Tw (tlen b.natAbs) b.natAbs]=nP b:=by rw[←sn];rfl
  refine zaa (xf:=zAw) rfl (by simp[zAw]) ?_
  simp only[zAw]
  simp(disch:=omega)only[go_sem,seval,wqq,sn,n1,n2,d1,f1]
 ·have sn:decide (b<0)=false:=by simp;omega
  have e1:sgA a b=a:=by unfold sgA;rw[if_neg h]
  have e2:sgB b=b:=by unfold sgB;rw[if_neg h]
  rw[e1,e2] at d1
  have f1:PV.ag [PV.b false,Tw (tlen b.natAbs) b.natAbs]=nP b:=by rw[←sn];rfl
  refine zaa (xf:=zAw) rfl (by simp[zAw]) ?_
  simp only[zAw]
  simp(disch:=omega)only[go_sem,seval,wqq,sn,d1,f1]
theorem zll {a b:Int} {N:Nat} (la:tlen a.natAbs<N):tlen (flI a b).natAbs<N:=Nat.lt_of_le_of_lt (zas (zcE _ _)) la
theorem zmQ {a b:Int} {N:Nat} (la:tlen a.natAbs<N):tlen (ceI a b).natAbs<N:=by
 unfold ceI;rw[Int.natAbs_neg]
 exact Nat.lt_of_le_of_lt (zas (zcE _ _)) (by rw[Int.natAbs_neg];exact la)
theorem zmR {a b:Int} {N:Nat} (la:tlen a.natAbs<N):tlen (sgA a b).natAbs<N:=by unfold sgA;split<;>(try rw[Int.natAbs_neg])<;>exact la
theorem zh6 {a b:Int} (hb:b≠0) (la:tlen a.natAbs<50000) (lb:tlen b.natAbs<50000):pf E0 365 [nP a,nP b]=some (nP (ceI (sgA a b) (sgB b))):=by
 have n1:=zdN a (by omega)
 have f1:=zet (a := -a) hb (by rw[Int.natAbs_neg];exact la) lb
 have lf:tlen (flI (sgA (-a) b) (sgB b)).natAbs<50000:=zll (zmR (by rw[Int.natAbs_neg];exact la))
 have n2:=zdN (flI (sgA (-a) b) (sgB b)) (by omega)
 have e : - flI (sgA (-a) b) (sgB b)=ceI (sgA a b) (sgB b):=by rw[zlg];rfl
 rw[e] at n2
 generalize flI (sgA (-a) b) (sgB b)=q at *
 generalize ceI (sgA a b) (sgB b)=c at *
 refine zaa (xf:=zCp) rfl (by simp[zCp]) ?_
 simp only[zCp]
 simp(disch:=omega)only[go_sem,seval,wqq]
 refine zae rfl ?_
 simp(disch:=omega)only[go_sem,seval,wqq,n1,f1,n2]
theorem zh9 (a:FQ):pf E0 362 [rfQ a]=some (.b (decide (¬(inL a.p.v∧inL a.q.v)))):=by
 have hp:pf E0 128 [.i .i64 16000]=some (nP (two 16000)):=zfB 16000 (by omega)
 have lt:=zsk (K:=16000) (by omega)
 have lp:=zdH a.p
 have lq:=zdH a.q
 obtain⟨m,hm⟩:∃m:Int,m=(a.p.v.natAbs:Int):=⟨_,rfl⟩
 have em:PV.ag [.b false,T a.p.v.natAbs]=nP m:=by
  have:decide (m<0)=false:=by simp;omega
  unfold nP
  rw[this,hm,Int.natAbs_natCast]
 have lm:tlen m.natAbs≤1239:=by rw[hm,Int.natAbs_natCast];exact lp
 have c1:=zaQ m (two 16000) (by omega) (by omega)
 have c2:=zaQ a.q.v (two 16000) (by omega) (by omega)
 have hq:=a.q1
 have l1:=zfn a.p.v
 have l2:=zfn a.q.v
 rw[←hm] at l1
 rw[show (a.q.v.natAbs:Int)=a.q.v by omega] at l2
 generalize two 16000=t at *
 have k:∀z:Int,(0≤cmpI z t)↔t≤z:=fun z=>by unfold cmpI;split<;>(try split)<;>omega
 have e:decide (¬(inL a.p.v∧inL a.q.v))=(if 0≤cmpI m t then true else decide (0≤cmpI a.q.v t)):=by
  by_cases h1:t≤m
  ·rw[if_pos ((k _).2 h1)]
   exact decide_eq_true (fun q=>l1.1 q.1 h1)
  ·rw[if_neg (fun q=>h1 ((k _).1 q))]
   by_cases h2:t≤a.q.v
   ·rw[decide_eq_true ((k _).2 h2)]
    exact decide_eq_true (fun q=>l2.1 q.2 h2)
   ·rw[decide_eq_false (fun q=>h2 ((k _).1 q))]
    exact decide_eq_false (fun q=>q ⟨l1.2 h1,l2.2 h2⟩)
 rw[e]
 clear e k l1 l2 hm
 unfold rfQ
 generalize a.p.v=P at *
 generalize a.q.v=Q at *
 refine zaa (xf:=zB9) rfl (by simp[zB9]) ?_
 simp only[zB9]
 by_cases h1:0≤cmpI m t
 ·rw[if_pos h1]
  have h1:(0≤cmpI m t)=True:=by simp[h1]
  simp(disch:=omega)only[go_sem,seval,wqq,hp,em,c1,h1]
 ·rw[if_neg h1]
  have h1:(0≤cmpI m t)=False:=by simp[h1]
  simp(disch:=omega)only[go_sem,seval,wqq,hp,em,c1,h1,c2]
end Go.Eng
namespace Go.Eng
@[go_sem] theorem zw5 (M:PM) (d:Nat) (x:IV):fz M (d+1+1) (rvP x)=some (rvP x,[]):=_root_.id rfl
@[go_sem] theorem zqt (x:IV):(rvP x).cells=[.b (decide (x.lo.v<0)),T x.lo.v.natAbs,.b (decide (x.hi.v<0)),T x.hi.v.natAbs]:=_root_.id rfl
@[go_sem] theorem zt1 (x:IV):rfP x.lo.v x.hi.v=rvP x:=_root_.id rfl
theorem zdm:pf E0 128 [.i .i64 32]=some (nP 4294967296):=by
 have h:pf E0 128 [.i .i64 32]=some (nP (two 32)):=zfB 32 (by omega)
 rw[zsj] at h;exact h
theorem zbp (x:WI):tlen x.v.natAbs≤1239:=zdH x
theorem zs8:tlen (4294967296:Int).natAbs≤3:=zah (by decide)
theorem zrN (a b c d:FQ) (hab:(cmpF a b>0∧c=b∧d=a)∨(¬cmpF a b>0∧c=a∧d=b)):pf E0 345 [rfQ a,rfQ b]=some (.tu [rvP (mkSo c d).1,.i .i64 (mkSo c d).2]):=by
 have c1:pf E0 200 [rfQ a,rfQ b]=some (.i .i64 (cmpF a b)):=zg4 _ _ _ _ (by have:=zbp a.p;omega) (by have:=zbp a.q;omega) (by have:=zbp b.p;omega) (by have:=zbp b.q;omega)
 have l1:=zh9 c
 have l2:=zh9 d
 have hp:=zdm
 have t3:=zs8
 have tc:=zbp c.p
 have tcq:=zbp c.q
 have td:=zbp d.p
 have tdq:=zbp d.q
 have cq:=c.q1
 have dq:=d.q1
 have m1:=zbd c.p.v 4294967296 (by omega) (by omega)
 have m2:=zbd d.p.v 4294967296 (by omega) (by omega)
 have t1:=zar c.p.v 4294967296
 have t2:=zar d.p.v 4294967296
 have e1:=zet (a:=c.p.v*4294967296) (b:=c.q.v) (by omega) (by omega) (by omega)
 have e2:=zh6 (a:=d.p.v*4294967296) (b:=d.q.v) (by omega) (by omega) (by omega)
 obtain⟨s1,s2⟩:=zip (a:=c.p.v*4294967296) (b:=c.q.v) (by omega)
 obtain⟨s3,s4⟩:=zip (a:=d.p.v*4294967296) (b:=d.q.v) (by omega)
 rw[s1,s2] at e1
 rw[s3,s4] at e2
 have md:=zd7 (x:=flI (c.p.v*4294967296) c.q.v) (y:=ceI (d.p.v*4294967296) d.q.v) (zll (by omega)) (zmQ (by omega))
 have step:∀q:Prop,(q=(0<cmpF a b))→(q=True∧c=b∧d=a)∨(q=False∧c=a∧d=b):=fun q hq=>by
  rcases hab with⟨h1,h2⟩|⟨h1,h2⟩
  ·left;exact⟨by rw[hq];simp;omega,h2⟩
  ·right;exact⟨by rw[hq];simp;omega,h2⟩
 have s0:=step _ rfl
 generalize cmpF a b=cm at *
 clear step hab s1 s2 s3 s4
 unfold mkSo
 by_cases h1:inL c.p.v∧inL c.q.v
 ·rw[decide_eq_false (fun q=>q h1)] at l1
  by_cases h2:inL d.p.v∧inL d.q.v
  ·rw[decide_eq_false (fun q=>q h2)] at l2
   rw[if_pos ⟨h1.1,h1.2,h2.1,h2.2⟩]
   generalize mdI (flI (c.p.v*4294967296) c.q.v) (ceI (d.p.v*4294967296) d.q.v)=R at *
   generalize flI (c.p.v*4294967296) c.q.v=u at *
   generalize ceI (d.p.v*4294967296) d.q.v=v at *
   generalize c.p.v*4294967296=cm at *
   generalize d.p.v*4294967296=dm at *
   obtain⟨s,hs⟩:∃s:Int,s=4294967296:=⟨_,rfl⟩
   rw[←hs] at hp m1 m2
   clear h1 h2 hs
   rcases s0 with⟨q0,rfl,rfl⟩|⟨q0,rfl,rfl⟩
   ·refine zaa (xf:=zzL) rfl (by simp[zzL]) ?_
    simp only[zzL]
    simp(disch:=omega)only[go_sem,seval,wqq,c1,q0,l1,l2,hp]
    refine zae rfl ?_
    simp(disch:=omega)only[go_sem,seval,wqq,m1,m2,e1,e2,md]
   ·refine zaa (xf:=zzL) rfl (by simp[zzL]) ?_
    simp only[zzL]
    simp(disch:=omega)only[go_sem,seval,wqq,c1,q0,l1,l2,hp]
    refine zae rfl ?_
    simp(disch:=omega)only[go_sem,seval,wqq,m1,m2,e1,e2,md]
  ·rw[decide_eq_true h2] at l2
   rw[if_neg (fun q=>h2 q.2.2)]
   show _=some (PV.tu [rvP ivZ,PV.i .i64 4])
   rw[zld]
   rcases s0 with⟨q0,rfl,rfl⟩|⟨q0,rfl,rfl⟩
   ·refine zaa (xf:=zzL) rfl (by simp[zzL]) ?_
    simp only[zzL]
    simp(disch:=omega)only[go_sem,seval,wqq,c1,q0,l1,l2,zai,zad]
   ·refine zaa (xf:=zzL) rfl (by simp[zzL]) ?_
    simp only[zzL]
    simp(disch:=omega)only[go_sem,seval,wqq,c1,q0,l1,l2,zai,zad]
 ·rw[decide_eq_true h1] at l1
  rw[if_neg (fun q=>h1 ⟨q.1,q.2.1⟩)]
  show _=some (PV.tu [rvP ivZ,PV.i .i64 4])
  rw[zld]
  have l2':∃v:Bool,pf E0 362 [rfQ d]=some (.b v):=⟨_,l2⟩
  obtain⟨v,l2⟩:=l2'
  rcases s0 with⟨q0,rfl,rfl⟩|⟨q0,rfl,rfl⟩
  ·refine zaa (xf:=zzL) rfl (by simp[zzL]) ?_
   simp only[zzL]
   simp(disch:=omega)only[go_sem,seval,wqq,c1,q0,l1,l2,zai,zad]
  ·refine zaa (xf:=zzL) rfl (by simp[zzL]) ?_
   simp only[zzL]
   simp(disch:=omega)only[go_sem,seval,wqq,c1,q0,l1,l2,zai,zad]
theorem zfD (a b:FQ):pf E0 345 [rfQ a,rfQ b]=some (.tu [rvP (mkI a b).1,.i .i64 (mkI a b).2]):=by
 by_cases h:cmpF a b>0
 ·have:=zrN a b b a (.inl ⟨h,rfl,rfl⟩)
  unfold mkI;rw[if_pos h];exact this
 ·have:=zrN a b a b (.inr ⟨h,rfl,rfl⟩)
  unfold mkI;rw[if_neg h];exact this
theorem zrM (a:FQ):pf E0 384 [rfQ a]=some (.tu [rvP (mkI a a).1,.i .i64 (mkI a a).2]):=by
 have m:=zfD a a
 generalize (mkI a a).1=R at *
 generalize (mkI a a).2=E at *
 refine zaa (xf:=zCL) rfl (by simp[zCL]) ?_
 simp only[zCL]
 simp(disch:=omega)only[go_sem,seval,wqq,m]
theorem zmv:pf E0 368 []=some (rvP ivZ):=by
 rw[zld]
 refine zaa (xf:=zBX) rfl (by simp[zBX]) ?_
 simp only[zBX]
 simp(disch:=omega)only[go_sem,seval,wqq,zai,zad]
theorem zh8 (x:WI):pf E0 373 [nP x.v]=some (rfQ (frQ x)):=by
 have hp:=zdm
 have m1:=zkG x w32
 rw[zi3] at m1
 unfold frQ
 generalize (makF x w32).1=R at *
 generalize (makF x w32).2=E at *
 generalize x.v=z at *
 obtain⟨s,hs⟩:∃s:Int,s=4294967296:=⟨_,rfl⟩
 rw[←hs] at hp m1
 clear hs
 refine zaa (xf:=zCb) rfl (by simp[zCb]) ?_
 simp only[zCb]
 simp(disch:=omega)only[go_sem,seval,wqq]
 refine zae rfl ?_
 simp(disch:=omega)only[go_sem,seval,wqq,hp,m1]
theorem zia (x:IV):pf E0 349 [rvP x]=some (.s (ivTx x)):=by
 have h1:=zh8 x.lo
 have h2:=zh8 x.hi
 unfold ivTx
 generalize frQ x.lo=A at *
 generalize frQ x.hi=B at *
 have t1:pf E0 196 [rfQ A]=some (.s (ftx A.p.v A.q.v)):=zh4 _ _ (by have:=zbp A.p;omega) (by have:=zbp A.q;omega)
 have t2:pf E0 196 [rfQ B]=some (.s (ftx B.p.v B.q.v)):=zh4 _ _ (by have:=zbp B.p;omega) (by have:=zbp B.q;omega)
 have l1:=zfi A
 have l2:=zfi B
 generalize ftx A.p.v A.q.v=X at *
 generalize ftx B.p.v B.q.v=Y at *
 have n1:([91]++X:List UInt8).length<4000002:=by simp;omega
 have n2:([91]++X++[44,32]:List UInt8).length<4000004:=by simp;omega
 have n3:([91]++X++[44,32]++Y:List UInt8).length<8000004:=by simp;omega
 have b1:binP .add (.s [91]) (.s X)=some (.s ([91]++X)):=zaJ _ _ (by simp;omega)
 have b2:binP .add (.s ([91]++X)) (.s [44,32])=some (.s ([91]++X++[44,32])):=zaJ _ _ (by simp;omega)
 have b3:binP .add (.s ([91]++X++[44,32])) (.s Y)=some (.s ([91]++X++[44,32]++Y)):=zaJ _ _ (by simp;omega)
 have b4:binP .add (.s ([91]++X++[44,32]++Y)) (.s [93])=some (.s ([91]++X++[44,32]++Y++[93])):=zaJ _ _ (by simp;omega)
 generalize ([91]++X++[44,32]++Y++[93]:List UInt8)=Z4 at *
 generalize ([91]++X++[44,32]++Y:List UInt8)=Z3 at *
 generalize ([91]++X++[44,32]:List UInt8)=Z2 at *
 generalize ([91]++X:List UInt8)=Z1 at *
 refine zaa (xf:=zB4) rfl (by simp[zB4]) ?_
 simp only[zB4]
 simp(disch:=omega)only[go_sem,seval,wqq]
 refine zae rfl ?_
 simp(disch:=omega)only[go_sem,seval,wqq,h1,h2,t1,t2,b1,b2,b3,b4]
theorem zdz (x y:IV):pf E0 371 [rvP x,rvP y]=some (.tu [rvP (ivAdd x y).1,.i .i64 (ivAdd x y).2]):=by
 have t1:=zbp x.lo
 have t2:=zbp x.hi
 have t3:=zbp y.lo
 have t4:=zbp y.hi
 have a1:=zes x.lo.v y.lo.v (by omega) (by omega)
 have a2:=zes x.hi.v y.hi.v (by omega) (by omega)
 have s1:=zb1 x.lo.v y.lo.v
 have s2:=zb1 x.hi.v y.hi.v
 have md:=zd7 (x:=x.lo.v+y.lo.v) (y:=x.hi.v+y.hi.v) (by omega) (by omega)
 unfold ivAdd
 generalize mdI (x.lo.v+y.lo.v) (x.hi.v+y.hi.v)=R at *
 generalize x.lo.v+y.lo.v=u at *
 generalize x.hi.v+y.hi.v=v at *
 refine zaa (xf:=zCt) rfl (by simp[zCt]) ?_
 simp only[zCt]
 simp(disch:=omega)only[go_sem,seval,wqq]
 refine zae rfl ?_
 simp(disch:=omega)only[go_sem,seval,wqq,a1,a2,md]
end Go.Eng
namespace Go.Eng
def minN (f:Nat→Int):Nat→Int
 | 0=>0
 | 1=>f 0
 | k+2=>min2 (minN f (k+1)) (f (k+1))
def maxN (f:Nat→Int):Nat→Int
 | 0=>0
 | 1=>f 0
 | k+2=>max2 (maxN f (k+1)) (f (k+1))
theorem znw (f:Nat→Int) {k:Nat} (h:1≤k):minN f (k+1)=min2 (minN f k) (f k):=by
 obtain⟨j,rfl⟩:∃j,k=j+1:=⟨k-1,by omega⟩
 rfl
theorem znu (f:Nat→Int) {k:Nat} (h:1≤k):maxN f (k+1)=max2 (maxN f k) (f k):=by
 obtain⟨j,rfl⟩:∃j,k=j+1:=⟨k-1,by omega⟩
 rfl
theorem znx {f:Nat→Int} {N:Nat} (hf:∀i,tlen (f i).natAbs<N):∀k,1≤k→tlen (minN f k).natAbs<N
 | 1,_=>hf 0
 | k+2,_=>by
  rw[znw f (by omega)]
  unfold min2
  split
  ·exact hf _
  ·exact znx hf (k+1) (by omega)
theorem znv {f:Nat→Int} {N:Nat} (hf:∀i,tlen (f i).natAbs<N):∀k,1≤k→tlen (maxN f k).natAbs<N
 | 1,_=>hf 0
 | k+2,_=>by
  rw[znu f (by omega)]
  unfold max2
  split
  ·exact hf _
  ·exact znv hf (k+1) (by omega)
noncomputable def nL (N:Nat) (P:Nat→Int):List PV:=(List.range N).map fun i=>nP (P i)
theorem zma {N i:Nat} (P:Nat→Int) (h:i<N):(nL N P)[i]?=some (nP (P i)):=by
 unfold nL;rw[List.getElem?_map,List.getElem?_range h];rfl
theorem zq8 (N:Nat) (P:Nat→Int):(nL N P).length=N:=by simp[nL]
theorem zrz {N:Nat} (h1:1≤N) (hN:N≤100) (P Q:Nat→Int) (hq:∀i,Q i≠0) (lp:∀i,tlen (P i).natAbs<40000) (lq:∀i,tlen (Q i).natAbs<40000) :
  pf E0 383 [.lst (nL N P),.lst (nL N Q)]=some (.tu [nP (minN (fun i=>flI (sgA (P i) (Q i)) (sgB (Q i))) N),nP (maxN (fun i=>ceI (sgA (P i) (Q i)) (sgB (Q i))) N)]):=by
 have fl:∀i,pf E0 364 [nP (P i),nP (Q i)]=some (nP (flI (sgA (P i) (Q i)) (sgB (Q i)))):=fun i=>zet (hq i) (by have:=lp i;omega) (by have:=lq i;omega)
 have ce:∀i,pf E0 365 [nP (P i),nP (Q i)]=some (nP (ceI (sgA (P i) (Q i)) (sgB (Q i)))):=fun i=>zh6 (hq i) (by have:=lp i;omega) (by have:=lq i;omega)
 obtain⟨f,hf⟩:∃f:Nat→Int,f=fun i=>flI (sgA (P i) (Q i)) (sgB (Q i)):=⟨_,rfl⟩
 obtain⟨c,hc⟩:∃c:Nat→Int,c=fun i=>ceI (sgA (P i) (Q i)) (sgB (Q i)):=⟨_,rfl⟩
 have lf:∀i,tlen (f i).natAbs<40000:=fun i=>by rw[hf];exact zll (zmR (lp i))
 have lc:∀i,tlen (c i).natAbs<40000:=fun i=>by rw[hc];exact zmQ (zmR (lp i))
 have mt:=fun k hk=>znx lf k hk
 have xt:=fun k hk=>znv lc k hk
 rw[←hf,←hc]
 have fl:∀i,pf E0 364 [nP (P i),nP (Q i)]=some (nP (f i)):=fun i=>by rw[fl i,hf]
 have ce:∀i,pf E0 365 [nP (P i),nP (Q i)]=some (nP (c i)):=fun i=>by rw[ce i,hc]
 clear hf hc
 have m0:minN f 1=f 0:=rfl
 have x0:maxN c 1=c 0:=rfl
 have p0:=zma P (show 0<N by omega)
 have q0:=zma Q (show 0<N by omega)
 have ln:((nL N P).length:Int)=(N:Int):=by rw[zq8]
 have pa:∀i,i<N→(nL N P)[i]?=some (nP (P i)):=fun i h=>zma P h
 have qa:∀i,i<N→(nL N Q)[i]?=some (nP (Q i)):=fun i h=>zma Q h
 generalize nL N P=LP at *
 generalize nL N Q=LQ at *
 refine zaa (xf:=zCf) rfl (by simp[zCf]) ?_
 simp only[zCf]
 have fl0:=fl 0
 have ce0:=ce 0
 rw[←m0] at fl0
 rw[←x0] at ce0
 generalize hz:minN f 1=lo0 at *
 generalize hy:maxN c 1=hi0 at *
 generalize P 0=P0 at *
 generalize Q 0=Q0 at *
 simp(disch:=omega)only[go_sem,seval,wqq]
 simp(disch:=omega)only[go_sem,seval,wqq,p0,q0,fl0,ce0]
 refine zan zC3.eq_1 (fun(i:Nat) fr M=>1≤i∧i≤N∧fr 0=.lst LP∧fr 1=.lst LQ∧fr 4=.p 0 0∧fr 5=.p 1 0∧fr 6=.p 2 0∧fr 7=.p 3 0∧fr 8=(PV.i .i64 ((i:Nat):Int))∧∃v w G,M=some ⟨[.b false,.nl],true,0⟩::some ⟨[.b false,.nl],true,0⟩::some ⟨(nP (minN f i)).cells,true,v⟩::some ⟨(nP (maxN c i)).cells,true,w⟩::G) (fun i=>N-i) ?_ 1 ⟨by omega,by omega,rfl,rfl,rfl,rfl,rfl,rfl,rfl,_,_,[],by rw[hz,hy];rfl⟩
 clear fl0 ce0 p0 q0 m0 x0
 rintro i fr M ⟨i1,hi,f0,f1,f4,f5,f6,f7,f8,v,w,G,rfl⟩ ih
 by_cases h:i<N
 ·have q1:((i:Int)<(N:Int))=True:=by simp;omega
  have pi:=pa i h
  have qi:=qa i h
  have fli:=fl i
  have cei:=ce i
  have c1:=zaQ (f i) (minN f i) (by have:=lf i;omega) (by have:=mt i i1;omega)
  have c2:=zaQ (c i) (maxN c i) (by have:=lc i;omega) (by have:=xt i i1;omega)
  have s1:=znw f i1
  have s2:=znu c i1
  unfold min2 at s1
  unfold max2 at s2
  have k1:∀a b:Int,(cmpI a b<0)↔a<b:=fun a b=>by unfold cmpI;split<;>(try split)<;>omega
  have k2:∀a b:Int,(0<cmpI a b)↔b<a:=fun a b=>by unfold cmpI;split<;>(try split)<;>omega
  have e1:(cmpI (f i) (minN f i)<0)=(f i<minN f i):=propext (k1 _ _)
  have e2:(0<cmpI (c i) (maxN c i))=(maxN c i<c i):=propext (k2 _ _)
  generalize hA:minN f i=A at *
  generalize hB:maxN c i=B at *
  generalize hA':minN f (i+1)=A' at *
  generalize hB':maxN c (i+1)=B' at *
  generalize f i=x at *
  generalize c i=y at *
  generalize P i=Pi at *
  generalize Q i=Qi at *
  clear k1 k2
  by_cases hx:x<A
  ·rw[if_pos hx] at s1
   have hx:(x<A)=True:=eq_true hx
   by_cases hy2:B<y
   ·rw[if_pos hy2] at s2
    have hy2:(B<y)=True:=eq_true hy2
    simp(disch:=omega)only[go_sem,seval,wqq,ln,f0,f1,f4,f5,f6,f7,f8,q1,pi,qi,fli,cei,c1,c2,e1,e2,hx,hy2,mG,mG0,sG,sG0,lG,lqq]
    exact ih (i+1) _ _ (by omega) ⟨by omega,by omega,f0,f1,f4,f5,f6,f7,tS _,_,_,_,by rw[hA',hB',s1,s2];rfl⟩
   ·rw[if_neg hy2] at s2
    have hy2:(B<y)=False:=eq_false hy2
    simp(disch:=omega)only[go_sem,seval,wqq,ln,f0,f1,f4,f5,f6,f7,f8,q1,pi,qi,fli,cei,c1,c2,e1,e2,hx,hy2,mG,mG0,sG,sG0,lG,lqq]
    exact ih (i+1) _ _ (by omega) ⟨by omega,by omega,f0,f1,f4,f5,f6,f7,tS _,_,_,_,by rw[hA',hB',s1,s2];rfl⟩
  ·rw[if_neg hx] at s1
   have hx:(x<A)=False:=eq_false hx
   by_cases hy2:B<y
   ·rw[if_pos hy2] at s2
    have hy2:(B<y)=True:=eq_true hy2
    simp(disch:=omega)only[go_sem,seval,wqq,ln,f0,f1,f4,f5,f6,f7,f8,q1,pi,qi,fli,cei,c1,c2,e1,e2,hx,hy2,mG,mG0,sG,sG0,lG,lqq]
    exact ih (i+1) _ _ (by omega) ⟨by omega,by omega,f0,f1,f4,f5,f6,f7,tS _,_,_,_,by rw[hA',hB',s1,s2];rfl⟩
   ·rw[if_neg hy2] at s2
    have hy2:(B<y)=False:=eq_false hy2
    simp(disch:=omega)only[go_sem,seval,wqq,ln,f0,f1,f4,f5,f6,f7,f8,q1,pi,qi,fli,cei,c1,c2,e1,e2,hx,hy2,mG,mG0,sG,sG0,lG,lqq]
    exact ih (i+1) _ _ (by omega) ⟨by omega,by omega,f0,f1,f4,f5,f6,f7,tS _,_,_,_,by rw[hA',hB',s1,s2];rfl⟩
 ·have q1:((i:Int)<(N:Int))=False:=by simp;omega
  obtain rfl:i=N:=by omega
  generalize minN f i=A at *
  generalize maxN c i=B at *
  simp(disch:=omega)only[go_sem,seval,wqq,f0,f1,f4,f5,f6,f7,f8,q1,ln,mG,mG0,sG,sG0,lG,lqq]
  refine zax [6,7] [4] rfl ?_ ?_
  ·simp(disch:=omega)only[go_sem,seval,wqq,f4,f5,f6,f7,mG,mG0,sG,sG0,lG,lqq]
   exact⟨_,rfl,rfl⟩
  simp(disch:=omega)only[go_sem,seval,wqq,f4,f5,f6,f7,mG,mG0,sG,sG0,lG,lqq]
theorem zoz (a b c d:Int):group 2 4 [PV.b (decide (a<0)),Tw (tlen a.natAbs) a.natAbs,PV.b (decide (b<0)),Tw (tlen b.natAbs) b.natAbs,PV.b (decide (c<0)),Tw (tlen c.natAbs) c.natAbs,PV.b (decide (d<0)),Tw (tlen d.natAbs) d.natAbs]=[nP a,nP b,nP c,nP d]:=_root_.id rfl
def pick4 (a b c d:Int) (i:Nat):Int:=if i=0 then a else if i=1 then b else if i=2 then c else d
theorem zkU {a b c d:Int} {N:Nat} (ha:tlen a.natAbs<N) (hb:tlen b.natAbs<N) (hc:tlen c.natAbs<N) (hd:tlen d.natAbs<N) (i:Nat):tlen (pick4 a b c d i).natAbs<N:=by
 unfold pick4;split<;>(try split)<;>(try split)<;>assumption
theorem zpw {a b c d:Int} (ha:a≠0) (hb:b≠0) (hc:c≠0) (hd:d≠0) (i:Nat):pick4 a b c d i≠0:=by
 unfold pick4;split<;>(try split)<;>(try split)<;>assumption
theorem zkw {a b c d p q r s:Int} (ha:tlen a.natAbs<40000) (hb:tlen b.natAbs<40000) (hc:tlen c.natAbs<40000) (hd:tlen d.natAbs<40000) (hp:tlen p.natAbs<40000) (hq:tlen q.natAbs<40000) (hr:tlen r.natAbs<40000) (hs:tlen s.natAbs<40000)
  (np:p≠0) (nq:q≠0) (nr:r≠0) (ns:s≠0):pf E0 383 [.lst [nP a,nP b,nP c,nP d],.lst [nP p,nP q,nP r,nP s]] =
  some (.tu [nP (min4 (flI (sgA a p) (sgB p)) (flI (sgA b q) (sgB q)) (flI (sgA c r) (sgB r)) (flI (sgA d s) (sgB s))),nP (max4 (ceI (sgA a p) (sgB p)) (ceI (sgA b q) (sgB q)) (ceI (sgA c r) (sgB r)) (ceI (sgA d s) (sgB s)))]) :=
 zrz (N:=4) (by decide) (by decide) (pick4 a b c d) (pick4 p q r s) (zpw np nq nr ns) (zkU ha hb hc hd) (zkU hp hq hr hs)
theorem zdA (x y:IV):pf E0 369 [rvP x,rvP y]=some (.tu [rvP (ivMul x y).1,.i .i64 (ivMul x y).2]):=by
 have hp:=zdm
 have t1:=zbp x.lo
 have t2:=zbp x.hi
 have t3:=zbp y.lo
 have t4:=zbp y.hi
 have ts:=zs8
 have m1:=zbd x.lo.v y.lo.v (by omega) (by omega)
 have m2:=zbd x.lo.v y.hi.v (by omega) (by omega)
 have m3:=zbd x.hi.v y.lo.v (by omega) (by omega)
 have m4:=zbd x.hi.v y.hi.v (by omega) (by omega)
 have s1:=zar x.lo.v y.lo.v
 have s2:=zar x.lo.v y.hi.v
 have s3:=zar x.hi.v y.lo.v
 have s4:=zar x.hi.v y.hi.v
 have en:=zkw (a:=x.lo.v*y.lo.v) (b:=x.lo.v*y.hi.v) (c:=x.hi.v*y.lo.v) (d:=x.hi.v*y.hi.v) (p:=4294967296) (q:=4294967296) (r:=4294967296) (s:=4294967296) (by omega) (by omega) (by omega) (by omega) (by omega) (by omega) (by omega) (by omega) (by decide) (by decide) (by decide) (by decide)
 have sg:∀z:Int,sgA z 4294967296=z:=fun z=>(zip (b:=4294967296) (by decide)).1
 have sb:sgB 4294967296=4294967296:=(zip (a:=0) (b:=4294967296) (by decide)).2
 simp only[sg,sb] at en
 have tl:tlen (mulLo x y).natAbs<40000:=by
  rcases zj5 (flI (x.lo.v*y.lo.v) 4294967296) (flI (x.lo.v*y.hi.v) 4294967296) (flI (x.hi.v*y.lo.v) 4294967296) (flI (x.hi.v*y.hi.v) 4294967296) with h|h|h|h<;>(unfold mulLo;rw[h];exact zll (by omega))
 have th:tlen (mulHi x y).natAbs<40000:=by
  rcases zj0 (ceI (x.lo.v*y.lo.v) 4294967296) (ceI (x.lo.v*y.hi.v) 4294967296) (ceI (x.hi.v*y.lo.v) 4294967296) (ceI (x.hi.v*y.hi.v) 4294967296) with h|h|h|h<;>(unfold mulHi;rw[h];exact zmQ (by omega))
 have md:=zd7 (x:=mulLo x y) (y:=mulHi x y) (by omega) (by omega)
 have en:pf E0 383 [.lst [nP (x.lo.v*y.lo.v),nP (x.lo.v*y.hi.v),nP (x.hi.v*y.lo.v),nP (x.hi.v*y.hi.v)],.lst [nP 4294967296,nP 4294967296,nP 4294967296,nP 4294967296]]=some (.tu [nP (mulLo x y),nP (mulHi x y)]):=en
 unfold ivMul
 generalize mdI (mulLo x y) (mulHi x y)=R at *
 generalize mulLo x y=u at *
 generalize mulHi x y=v at *
 generalize x.lo.v*y.lo.v=a at *
 generalize x.lo.v*y.hi.v=b at *
 generalize x.hi.v*y.lo.v=c at *
 generalize x.hi.v*y.hi.v=d at *
 obtain⟨s,hs⟩:∃s:Int,s=4294967296:=⟨_,rfl⟩
 rw[←hs] at hp en
 clear hs sg sb
 refine zaa (xf:=zCy) rfl (by simp[zCy]) ?_
 simp only[zCy]
 simp(disch:=omega)only[go_sem,seval,wqq,hp]
 refine zae rfl ?_
 simp(disch:=omega)only[go_sem,seval,wqq,m1,m2,m3,m4,zai,zad,zoz,en,md]
end Go.Eng
set_option maxRecDepth 10000
namespace Go.Eng
theorem zd2 (a b:WI) (ha:inB a.v) (hb:b.v≠0):∃q:WI,q.v=dFl a.v b.v∧pf E0 382 [wiP a,wiP b,.fp [.fn 296 [],.fn 297 []]]=some (wiP q):=by
 have sb:=za6 b
 by_cases h:b.v<0
 ·have n1:=zeF a
  have n2:=zeF b
  have nv:a.neg.v = -a.v:=rfl
  have bv:b.neg.v = -b.v:=rfl
  have t0:(cmpI b.v 0<0)=True:=by unfold cmpI;rw[if_pos h];simp
  have s1:=zcJ (x:=a.neg)
  have hs:wlen (a.neg.v*4294967296).natAbs≤512:=zhF (by rw[nv];exact zjQ.2 ha)
  rw[zaR hs] at s1
  have cv:=zaW hs
  have dv:dFl a.v b.v=flI (a.neg.v*4294967296) b.neg.v:=by unfold dFl sgA sgB;rw[if_pos h,if_pos h];rfl
  rw[dv]
  generalize clip (a.neg.v*4294967296)=z at *
  generalize a.neg=u at *
  generalize b.neg=w at *
  obtain⟨q,qv,fl⟩:∃q:WI,q.v=flI (u.v*4294967296) w.v∧pf E0 296 [wiP z,wiP w]=some (.tu [wiP q,.i .i64 0]):=⟨_,by show z.v/w.v=_;rw[cv];rfl,zdl z w (by omega)⟩
  refine⟨q,qv,?_⟩
  refine zaa (xf:=zzM) rfl (by simp[zzM]) ?_
  simp only[zzM]
  simp(disch:=omega)only[go_sem,seval,wqq,sb,t0]
  refine zae rfl ?_
  simp(disch:=omega)only[go_sem,seval,wqq,n1,n2,s1,fl]
 ·have t0:(cmpI b.v 0<0)=False:=by unfold cmpI;rw[if_neg h];split<;>simp
  have s1:=zcJ (x:=a)
  have hs:wlen (a.v*4294967296).natAbs≤512:=zhF ha
  rw[zaR hs] at s1
  have cv:=zaW hs
  have dv:dFl a.v b.v=flI (a.v*4294967296) b.v:=by unfold dFl sgA sgB;rw[if_neg h,if_neg h]
  rw[dv]
  have bv:b.v=b.v:=rfl
  generalize clip (a.v*4294967296)=z at *
  obtain⟨q,qv,fl⟩:∃q:WI,q.v=flI (a.v*4294967296) b.v∧pf E0 296 [wiP z,wiP b]=some (.tu [wiP q,.i .i64 0]):=⟨_,by show z.v/b.v=_;rw[cv];rfl,zdl z b (by omega)⟩
  refine⟨q,qv,?_⟩
  refine zaa (xf:=zzM) rfl (by simp[zzM]) ?_
  simp only[zzM]
  simp(disch:=omega)only[go_sem,seval,wqq,sb,t0,s1,fl]
theorem zd3 (a b:WI) (ha:inB a.v) (hb:b.v≠0):∃q:WI,q.v=dCe a.v b.v∧pf E0 382 [wiP a,wiP b,.fp [.fn 298 [],.fn 299 []]]=some (wiP q):=by
 have sb:=za6 b
 by_cases h:b.v<0
 ·have n1:=zeF a
  have n2:=zeF b
  have nv:a.neg.v = -a.v:=rfl
  have bv:b.neg.v = -b.v:=rfl
  have t0:(cmpI b.v 0<0)=True:=by unfold cmpI;rw[if_pos h];simp
  have s1:=zcJ (x:=a.neg)
  have hs:wlen (a.neg.v*4294967296).natAbs≤512:=zhF (by rw[nv];exact zjQ.2 ha)
  rw[zaR hs] at s1
  have cv:=zaW hs
  have dv:dCe a.v b.v=ceI (a.neg.v*4294967296) b.neg.v:=by unfold dCe sgA sgB;rw[if_pos h,if_pos h];rfl
  rw[dv]
  generalize clip (a.neg.v*4294967296)=z at *
  generalize a.neg=u at *
  generalize b.neg=w at *
  obtain⟨q,qv,fl⟩:=zd4 z w (by omega)
  rw[cv] at qv
  refine⟨q,qv,?_⟩
  refine zaa (xf:=zzM) rfl (by simp[zzM]) ?_
  simp only[zzM]
  simp(disch:=omega)only[go_sem,seval,wqq,sb,t0]
  refine zae rfl ?_
  simp(disch:=omega)only[go_sem,seval,wqq,n1,n2,s1,fl]
 ·have t0:(cmpI b.v 0<0)=False:=by unfold cmpI;rw[if_neg h];split<;>simp
  have s1:=zcJ (x:=a)
  have hs:wlen (a.v*4294967296).natAbs≤512:=zhF ha
  rw[zaR hs] at s1
  have cv:=zaW hs
  have dv:dCe a.v b.v=ceI (a.v*4294967296) b.v:=by unfold dCe sgA sgB;rw[if_neg h,if_neg h]
  rw[dv]
  have bv:b.v=b.v:=rfl
  generalize clip (a.v*4294967296)=z at *
  obtain⟨q,qv,fl⟩:=zd4 z b (by omega)
  rw[cv] at qv
  refine⟨q,qv,?_⟩
  refine zaa (xf:=zzM) rfl (by simp[zzM]) ?_
  simp only[zzM]
  simp(disch:=omega)only[go_sem,seval,wqq,sb,t0,s1,fl]
theorem zmo (x y:IV) {q1 q2 q3 q4:WI} (h1:pf E0 382 [wiP x.lo,wiP y.lo,.fp [.fn 296 [],.fn 297 []]]=some (wiP q1)) (h2:pf E0 382 [wiP x.lo,wiP y.hi,.fp [.fn 296 [],.fn 297 []]]=some (wiP q2))
  (h3:pf E0 382 [wiP x.hi,wiP y.lo,.fp [.fn 296 [],.fn 297 []]]=some (wiP q3)) (h4:pf E0 382 [wiP x.hi,wiP y.hi,.fp [.fn 296 [],.fn 297 []]]=some (wiP q4)) :
  pf E0 381 [.ag [.fn 296 [],.fn 297 []],ivP x,ivP y,.fn 382 [.fp [.fn 296 [],.fn 297 []]]]=some (wiP (mnU (mnU (mnU q1 q2) q3) q4)):=by
 have b:=zkt q1 [q2,q3,q4] (by simp)
 simp only[List.map_cons,List.map_nil,List.foldl_cons,List.foldl_nil] at b
 generalize mnU (mnU (mnU q1 q2) q3) q4=R at *
 refine zaa (xf:=zzG) rfl (by simp[zzG]) ?_
 simp only[zzG]
 simp(disch:=omega)only[go_sem,seval,wqq]
 refine zaI [10,16,22,28] rfl ?_ ?_
 ·simp(disch:=omega)only[go_sem,seval,wqq,h1,h2,h3,h4,b,zai,zad,zno]
  exact⟨_,rfl,rfl⟩
 simp(disch:=omega)only[go_sem,seval,wqq,h1,h2,h3,h4,b,zai,zad,zno]
theorem zmp (x y:IV) {q1 q2 q3 q4:WI} (h1:pf E0 382 [wiP x.lo,wiP y.lo,.fp [.fn 298 [],.fn 299 []]]=some (wiP q1)) (h2:pf E0 382 [wiP x.lo,wiP y.hi,.fp [.fn 298 [],.fn 299 []]]=some (wiP q2))
  (h3:pf E0 382 [wiP x.hi,wiP y.lo,.fp [.fn 298 [],.fn 299 []]]=some (wiP q3)) (h4:pf E0 382 [wiP x.hi,wiP y.hi,.fp [.fn 298 [],.fn 299 []]]=some (wiP q4)) :
  pf E0 381 [.ag [.fn 298 [],.fn 299 []],ivP x,ivP y,.fn 382 [.fp [.fn 298 [],.fn 299 []]]]=some (wiP (mxU (mxU (mxU q1 q2) q3) q4)):=by
 have b:=zku q1 [q2,q3,q4] (by simp)
 simp only[List.map_cons,List.map_nil,List.foldl_cons,List.foldl_nil] at b
 generalize mxU (mxU (mxU q1 q2) q3) q4=R at *
 refine zaa (xf:=zzG) rfl (by simp[zzG]) ?_
 simp only[zzG]
 simp(disch:=omega)only[go_sem,seval,wqq]
 refine zaI [10,16,22,28] rfl ?_ ?_
 ·simp(disch:=omega)only[go_sem,seval,wqq,h1,h2,h3,h4,b,zai,zad,zno]
  exact⟨_,rfl,rfl⟩
 simp(disch:=omega)only[go_sem,seval,wqq,h1,h2,h3,h4,b,zai,zad,zno]
theorem zo5 (x y:IV) (n1:y.lo.v≠0) (n2:y.hi.v≠0):∃q:WI,q.v=divLo x y∧pf E0 380 [.ag [.fn 296 [],.fn 297 []],.fp (ivP x).cells,.fp (ivP y).cells]=some (wiP q):=by
 obtain⟨q1,v1,h1⟩:=zd2 x.lo y.lo x.l n1
 obtain⟨q2,v2,h2⟩:=zd2 x.lo y.hi x.l n2
 obtain⟨q3,v3,h3⟩:=zd2 x.hi y.lo x.h n1
 obtain⟨q4,v4,h4⟩:=zd2 x.hi y.hi x.h n2
 have f:=zmo x y h1 h2 h3 h4
 have e:(mnU (mnU (mnU q1 q2) q3) q4).v=divLo x y:=by
  rw[ziI,ziI,ziI,v1,v2,v3,v4];rfl
 generalize mnU (mnU (mnU q1 q2) q3) q4=R at *
 refine⟨R,e,?_⟩
 refine zaa (xf:=zAp) rfl (by simp[zAp]) ?_
 simp only[zAp]
 simp(disch:=omega)only[go_sem,seval,wqq,f]
theorem zo6 (x y:IV) (n1:y.lo.v≠0) (n2:y.hi.v≠0):∃q:WI,q.v=divHi x y∧pf E0 380 [.ag [.fn 298 [],.fn 299 []],.fp (ivP x).cells,.fp (ivP y).cells]=some (wiP q):=by
 obtain⟨q1,v1,h1⟩:=zd3 x.lo y.lo x.l n1
 obtain⟨q2,v2,h2⟩:=zd3 x.lo y.hi x.l n2
 obtain⟨q3,v3,h3⟩:=zd3 x.hi y.lo x.h n1
 obtain⟨q4,v4,h4⟩:=zd3 x.hi y.hi x.h n2
 have f:=zmp x y h1 h2 h3 h4
 have e:(mxU (mxU (mxU q1 q2) q3) q4).v=divHi x y:=by
  rw[ziJ,ziJ,ziJ,v1,v2,v3,v4];rfl
 generalize mxU (mxU (mxU q1 q2) q3) q4=R at *
 refine⟨R,e,?_⟩
 refine zaa (xf:=zAp) rfl (by simp[zAp]) ?_
 simp only[zAp]
 simp(disch:=omega)only[go_sem,seval,wqq,f]
theorem zkC (x y:IV) (hy:y.ok):pf E0 367 [ivP x,ivP y]=some (.tu [ivP (ivDiv x y).1,.i .i64 (ivDiv x y).2]):=by
 have s1:=za6 y.lo
 have s2:=za6 y.hi
 have k1:∀a:Int,(cmpI a 0≤0)↔a≤0:=fun a=>by unfold cmpI;split<;>(try split)<;>omega
 have k2:∀a:Int,(0≤cmpI a 0)↔0≤a:=fun a=>by unfold cmpI;split<;>(try split)<;>omega
 unfold ivDiv
 by_cases h:has0 y
 ·rw[if_pos h]
  have q1:(cmpI y.lo.v 0≤0)=True:=eq_true ((k1 _).2 h.1)
  have q2:(0≤cmpI y.hi.v 0)=True:=eq_true ((k2 _).2 h.2)
  show _=some (PV.tu [ivP ivZ,PV.i .i64 9])
  rw[ziG]
  refine zaa (xf:=zAc) rfl (by simp[zAc]) ?_
  simp only[zAc]
  simp(disch:=omega)only[go_sem,seval,wqq,s1,s2,q1,q2,zai,zad]
 ·rw[if_neg h]
  obtain⟨n1,n2⟩:=zjM h hy
  obtain⟨u,uv,e1⟩:=zo5 x y n1 n2
  obtain⟨v,vv,e2⟩:=zo6 x y n1 n2
  have md:=zh2 u v
  rw[uv,vv] at md
  generalize mdI (divLo x y) (divHi x y)=R at *
  rw[zbg,zbg] at e1 e2
  clear uv vv
  by_cases hl:y.lo.v≤0
  ·have q1:(cmpI y.lo.v 0≤0)=True:=eq_true ((k1 _).2 hl)
   have q2:(0≤cmpI y.hi.v 0)=False:=eq_false (fun q=>h ⟨hl,(k2 _).1 q⟩)
   refine zaa (xf:=zAc) rfl (by simp[zAc]) ?_
   simp only[zAc]
   simp(disch:=omega)only[go_sem,seval,wqq,s1,s2,q1,q2]
   refine zaI [19,22] rfl ?_ ?_
   ·simp(disch:=omega)only[go_sem,seval,wqq,zm7,zm8,e1,e2,md]
    exact⟨_,rfl,rfl⟩
   simp(disch:=omega)only[go_sem,seval,wqq,zm7,zm8,e1,e2,md]
  ·have q1:(cmpI y.lo.v 0≤0)=False:=eq_false (fun q=>hl ((k1 _).1 q))
   refine zaa (xf:=zAc) rfl (by simp[zAc]) ?_
   simp only[zAc]
   simp(disch:=omega)only[go_sem,seval,wqq,s1,q1]
   refine zaI [19,22] rfl ?_ ?_
   ·simp(disch:=omega)only[go_sem,seval,wqq,zm7,zm8,e1,e2,md]
    exact⟨_,rfl,rfl⟩
   simp(disch:=omega)only[go_sem,seval,wqq,zm7,zm8,e1,e2,md]
end Go.Eng
set_option maxRecDepth 10000
namespace Go.Eng
theorem zlf (a k b:Int):sgA (a*k) b=sgA a b*k:=by unfold sgA;split<;>simp[Int.neg_mul]
theorem zyX:nP 0=wiP wi0:=by
 show PV.ag [.b false,T 0]=_
 rw[zqa];exact zlY
theorem zkP (x y:IV) (hy:y.ok):pf E0 372 [rvP x,rvP y]=some (.tu [rvP (ivDiv x y).1,.i .i64 (ivDiv x y).2]):=by
 have hp:=zdm
 have t1:=zbp x.lo
 have t2:=zbp x.hi
 have t3:=zbp y.lo
 have t4:=zbp y.hi
 have ts:=zs8
 have tz:tlen (0:Int).natAbs=0:=by rw[Int.natAbs_zero,zaH]
 have c1:=zaQ y.lo.v 0 (by omega) (by omega)
 have c2:=zaQ y.hi.v 0 (by omega) (by omega)
 rw[zyX] at c1 c2
 have k1:∀a:Int,(cmpI a 0≤0)↔a≤0:=fun a=>by unfold cmpI;split<;>(try split)<;>omega
 have k2:∀a:Int,(0≤cmpI a 0)↔0≤a:=fun a=>by unfold cmpI;split<;>(try split)<;>omega
 unfold ivDiv
 by_cases h:has0 y
 ·rw[if_pos h]
  have q1:(cmpI y.lo.v 0≤0)=True:=eq_true ((k1 _).2 h.1)
  have q2:(0≤cmpI y.hi.v 0)=True:=eq_true ((k2 _).2 h.2)
  show _=some (PV.tu [rvP ivZ,PV.i .i64 9])
  rw[zld]
  refine zaa (xf:=zAo) rfl (by simp[zAo]) ?_
  simp only[zAo]
  simp(disch:=omega)only[go_sem,seval,wqq,c1,c2,q1,q2,zai,zad]
 ·rw[if_neg h]
  obtain⟨n1,n2⟩:=zjM h hy
  have m1:=zbd x.lo.v 4294967296 (by omega) (by omega)
  have m2:=zbd x.hi.v 4294967296 (by omega) (by omega)
  have s1:=zar x.lo.v 4294967296
  have s2:=zar x.hi.v 4294967296
  have en:=zkw (a:=x.lo.v*4294967296) (b:=x.lo.v*4294967296) (c:=x.hi.v*4294967296) (d:=x.hi.v*4294967296) (p:=y.lo.v) (q:=y.hi.v) (r:=y.lo.v) (s:=y.hi.v) (by omega) (by omega) (by omega) (by omega) (by omega) (by omega) (by omega) (by omega) n1 n2 n1 n2
  simp only[zlf] at en
  have en:pf E0 383 [.lst [nP (x.lo.v*4294967296),nP (x.lo.v*4294967296),nP (x.hi.v*4294967296),nP (x.hi.v*4294967296)],.lst [nP y.lo.v,nP y.hi.v,nP y.lo.v,nP y.hi.v]]=some (.tu [nP (divLo x y),nP (divHi x y)]):=en
  have tf:∀a b:Int,tlen (a*4294967296).natAbs<40000→tlen (sgA a b*4294967296).natAbs<40000:=fun a b ht=>by rw[←zlf];exact zmR ht
  have tl:tlen (divLo x y).natAbs<40000:=by
   rcases zj5 (dFl x.lo.v y.lo.v) (dFl x.lo.v y.hi.v) (dFl x.hi.v y.lo.v) (dFl x.hi.v y.hi.v) with h|h|h|h<;>(unfold divLo;rw[h];exact zll (tf _ _ (by omega)))
  have th:tlen (divHi x y).natAbs<40000:=by
   rcases zj0 (dCe x.lo.v y.lo.v) (dCe x.lo.v y.hi.v) (dCe x.hi.v y.lo.v) (dCe x.hi.v y.hi.v) with h|h|h|h<;>(unfold divHi;rw[h];exact zmQ (tf _ _ (by omega)))
  have md:=zd7 (x:=divLo x y) (y:=divHi x y) (by omega) (by omega)
  generalize mdI (divLo x y) (divHi x y)=R at *
  generalize divLo x y=u at *
  generalize divHi x y=v at *
  generalize x.lo.v*4294967296=a at *
  generalize x.hi.v*4294967296=b at *
  obtain⟨s,hs⟩:∃s:Int,s=4294967296:=⟨_,rfl⟩
  rw[←hs] at hp m1 m2
  clear hs tf
  by_cases hl:y.lo.v≤0
  ·have q1:(cmpI y.lo.v 0≤0)=True:=eq_true ((k1 _).2 hl)
   have q2:(0≤cmpI y.hi.v 0)=False:=eq_false (fun q=>h ⟨hl,(k2 _).1 q⟩)
   refine zaa (xf:=zAo) rfl (by simp[zAo]) ?_
   simp only[zAo]
   simp(disch:=omega)only[go_sem,seval,wqq,c1,c2,q1,q2,zai,zad]
   refine zae rfl ?_
   simp(disch:=omega)only[go_sem,seval,wqq,hp,m1]
   refine zae rfl ?_
   simp(disch:=omega)only[go_sem,seval,wqq,hp,m2,zai,zad,zoz,en,md]
  ·have q1:(cmpI y.lo.v 0≤0)=False:=eq_false (fun q=>hl ((k1 _).1 q))
   refine zaa (xf:=zAo) rfl (by simp[zAo]) ?_
   simp only[zAo]
   simp(disch:=omega)only[go_sem,seval,wqq,c1,q1,zai,zad]
   refine zae rfl ?_
   simp(disch:=omega)only[go_sem,seval,wqq,hp,m1]
   refine zae rfl ?_
   simp(disch:=omega)only[go_sem,seval,wqq,hp,m2,zai,zad,zoz,en,md]
end Go.Eng
namespace Go.Eng
def upd {α:Type} (X:Nat→α) (i:Nat) (v:α):Nat→α:=fun e=>if e=i then v else X e
def cs (n:Nat) (X:Nat→Int):List PV:=(List.range n).map fun e=>.i .i64 (X e)
def zF:Nat→Int:=fun _=>0
end Go.Eng
namespace Go.Eng
end Go.Eng
namespace Go.Eng
noncomputable def cW (w:Nat→WI):List PV:=[.b (decide ((w 0).v<0)),D (w 0).v.natAbs,.b (decide ((w 1).v<0)),D (w 1).v.natAbs,.b (decide ((w 2).v<0)),D (w 2).v.natAbs,.b (decide ((w 3).v<0)),D (w 3).v.natAbs,.b (decide ((w 4).v<0)),D (w 4).v.natAbs,.b (decide ((w 5).v<0)),D (w 5).v.natAbs,.b (decide ((w 6).v<0)),D (w 6).v.natAbs,.b (decide ((w 7).v<0)),D (w 7).v.natAbs,.b (decide ((w 8).v<0)),D (w 8).v.natAbs]
noncomputable def mW (w:Nat→WI):PV:=.ag (cW w)
def cI (p:Nat→Int):List PV:=[.i .i64 (p 0),.i .i64 (p 1),.i .i64 (p 2),.i .i64 (p 3),.i .i64 (p 4),.i .i64 (p 5),.i .i64 (p 6),.i .i64 (p 7),.i .i64 (p 8)]
def pI (p:Nat→Int):PV:=.ag (cI p)
theorem zau (w:Nat→WI):cW w=[.b (decide ((w 0).v<0)),D (w 0).v.natAbs,.b (decide ((w 1).v<0)),D (w 1).v.natAbs,.b (decide ((w 2).v<0)),D (w 2).v.natAbs,.b (decide ((w 3).v<0)),D (w 3).v.natAbs,.b (decide ((w 4).v<0)),D (w 4).v.natAbs,.b (decide ((w 5).v<0)),D (w 5).v.natAbs,.b (decide ((w 6).v<0)),D (w 6).v.natAbs,.b (decide ((w 7).v<0)),D (w 7).v.natAbs,.b (decide ((w 8).v<0)),D (w 8).v.natAbs]:=_root_.id rfl
theorem zak (p:Nat→Int):cI p=[.i .i64 (p 0),.i .i64 (p 1),.i .i64 (p 2),.i .i64 (p 3),.i .i64 (p 4),.i .i64 (p 5),.i .i64 (p 6),.i .i64 (p 7),.i .i64 (p 8)]:=_root_.id rfl
@[go_sem] theorem zyH (M:PM) (d:Nat) (w:Nat→WI):fz M (d+1+1) (mW w)=some (mW w,[]):=_root_.id rfl
@[go_sem] theorem zsD (w:Nat→WI):(mW w).cells=cW w:=_root_.id rfl
@[go_sem] theorem zyL (M:PM) (d:Nat) (p:Nat→Int):fz M (d+1+1) (pI p)=some (pI p,[]):=_root_.id rfl
@[go_sem] theorem zsG (p:Nat→Int):(pI p).cells=cI p:=_root_.id rfl
@[go_sem] theorem ztW (w:Nat→WI):PV.ag (cW w)=mW w:=_root_.id rfl
@[go_sem] theorem ztZ (p:Nat→Int):PV.ag (cI p)=pI p:=_root_.id rfl
noncomputable def zW:Nat→WI:=fun _=>wi0
def zI:Nat→Int:=fun _=>0
noncomputable def cP (n:Nat) (w:Nat→WI):List PV:=[if 0<n then .b (decide ((w 0).v<0)) else .b false,if 0<n then D (w 0).v.natAbs else .nl,if 1<n then .b (decide ((w 1).v<0)) else .b false,if 1<n then D (w 1).v.natAbs else .nl,if 2<n then .b (decide ((w 2).v<0)) else .b false,if 2<n then D (w 2).v.natAbs else .nl,if 3<n then .b (decide ((w 3).v<0)) else .b false,if 3<n then D (w 3).v.natAbs else .nl,if 4<n then .b (decide ((w 4).v<0)) else .b false,if 4<n then D (w 4).v.natAbs else .nl,if 5<n then .b (decide ((w 5).v<0)) else .b false,if 5<n then D (w 5).v.natAbs else .nl,if 6<n then .b (decide ((w 6).v<0)) else .b false,if 6<n then D (w 6).v.natAbs else .nl,if 7<n then .b (decide ((w 7).v<0)) else .b false,if 7<n then D (w 7).v.natAbs else .nl,if 8<n then .b (decide ((w 8).v<0)) else .b false,if 8<n then D (w 8).v.natAbs else .nl]
theorem zc4 (n:Nat) (w:Nat→WI):cP n w=[if 0<n then .b (decide ((w 0).v<0)) else .b false,if 0<n then D (w 0).v.natAbs else .nl,if 1<n then .b (decide ((w 1).v<0)) else .b false,if 1<n then D (w 1).v.natAbs else .nl,if 2<n then .b (decide ((w 2).v<0)) else .b false,if 2<n then D (w 2).v.natAbs else .nl,if 3<n then .b (decide ((w 3).v<0)) else .b false,if 3<n then D (w 3).v.natAbs else .nl,if 4<n then .b (decide ((w 4).v<0)) else .b false,if 4<n then D (w 4).v.natAbs else .nl,if 5<n then .b (decide ((w 5).v<0)) else .b false,if 5<n then D (w 5).v.natAbs else .nl,if 6<n then .b (decide ((w 6).v<0)) else .b false,if 6<n then D (w 6).v.natAbs else .nl,if 7<n then .b (decide ((w 7).v<0)) else .b false,if 7<n then D (w 7).v.natAbs else .nl,if 8<n then .b (decide ((w 8).v<0)) else .b false,if 8<n then D (w 8).v.natAbs else .nl]:=_root_.id rfl
theorem cP9 (w:Nat→WI):cP 9 w=cW w:=rfl
def cQ (n:Nat) (p:Nat→Int):List PV:=[.i .i64 (if 0<n then p 0 else 0),.i .i64 (if 1<n then p 1 else 0),.i .i64 (if 2<n then p 2 else 0),.i .i64 (if 3<n then p 3 else 0),.i .i64 (if 4<n then p 4 else 0),.i .i64 (if 5<n then p 5 else 0),.i .i64 (if 6<n then p 6 else 0),.i .i64 (if 7<n then p 7 else 0),.i .i64 (if 8<n then p 8 else 0)]
theorem cQ9 (p:Nat→Int):cQ 9 p=cI p:=rfl
theorem zfv {i:Nat} (h:i<9):i=0∨i=1∨i=2∨i=3∨i=4∨i=5∨i=6∨i=7∨i=8:=by omega
theorem zi1 {i:Nat} (h:i<3):i=0∨i=1∨i=2:=by omega
@[go_sem] theorem zy4 (p:Nat→Int):(cI p).all PV.scal=true:=_root_.id rfl
@[go_sem] theorem zy6 (w:Nat→WI):(cW w).all PV.scal=true:=_root_.id rfl
@[go_sem] theorem zyQ (p:Nat→Int):(cI p).length=9:=_root_.id rfl
@[go_sem] theorem zyW (w:Nat→WI):(cW w).length=18:=_root_.id rfl
@[go_sem] theorem zzf (p:Nat→Int):(cI p).take 9=cI p:=_root_.id rfl
@[go_sem] theorem zzh (w:Nat→WI):(cW w).take 18=cW w:=_root_.id rfl
@[go_sem] theorem zyS (n:Nat) (w:Nat→WI):(cP n w).length=18:=_root_.id rfl
@[go_sem] theorem zyT (n:Nat) (p:Nat→Int):(cQ n p).length=9:=_root_.id rfl
@[go_sem] theorem zy9 (n:Nat) (w u:Nat→WI):psplice (cP n w) 0 (cW u)=cW u:=_root_.id rfl
@[go_sem] theorem zza (n:Nat) (w u:Nat→Int):psplice (cQ n w) 0 (cI u)=cI u:=_root_.id rfl
noncomputable def ofW (p:Nat→Int):Nat→WI:=fun e=>clip (p e)
theorem zoP {p:Nat→Int} {e:Nat} (h:Fits64 (p e)):(ofW p e).v=p e:=zaW (zez h)
theorem zcd {n:Int} (h:Fits64 n):pf E0 34 [.i .i64 n]=some (wiP (clip n)):=by
 rw[zcQ h]
 congr 2
 exact WI.ext' (by rw[zaW (zez h)];rfl)
set_option maxHeartbeats 2000000 in
theorem zpn {p:Nat→Int} (hp:∀e,Fits64 (p e)):pf E0 307 [pI p]=some (mW (ofW p)):=by
 refine zaa (xf:=zCw) rfl (by simp[zCw]) ?_
 simp only[zCw]
 simp(disch:=omega)only[go_sem,seval,wqq]
 refine zan zC7.eq_1 (fun(i:Nat) fr M=>i≤9∧fr 2=.p 1 0∧fr 3=.p 2 0∧fr 7=pI p∧fr 8=(PV.i .i64 ((i:Nat):Int))∧∃b0 b1 v,M=[b0,some ⟨cP 0 zW,true,b1⟩,some ⟨cP i (ofW p),true,v⟩]) (fun i=>9-i) ?_ 0 ⟨by omega,rfl,rfl,rfl,rfl,_,_,_,rfl⟩
 rintro i fr M ⟨hi,f2,f3,f7,f8,b0,b1,v,rfl⟩ ih
 rcases Nat.lt_or_ge i 9 with h9|h9
 ·have q1:((i:Int)<9)=True:=eq_true (by omega)
  obtain rfl|rfl|rfl|rfl|rfl|rfl|rfl|rfl|rfl:=zfv h9
  ·have fr0:=zcd (hp 0)
   simp(disch:=omega)only[go_sem,seval,wqq,f2,f3,f7,f8,pI,zak,zc4,fr0]
   exact ih 1 _ _ (by omega) ⟨by omega,f2,f3,f7,rfl,_,_,_,rfl⟩
  ·have fr0:=zcd (hp 1)
   simp(disch:=omega)only[go_sem,seval,wqq,f2,f3,f7,f8,pI,zak,zc4,fr0]
   exact ih 2 _ _ (by omega) ⟨by omega,f2,f3,f7,rfl,_,_,_,rfl⟩
  ·have fr0:=zcd (hp 2)
   simp(disch:=omega)only[go_sem,seval,wqq,f2,f3,f7,f8,pI,zak,zc4,fr0]
   exact ih 3 _ _ (by omega) ⟨by omega,f2,f3,f7,rfl,_,_,_,rfl⟩
  ·have fr0:=zcd (hp 3)
   simp(disch:=omega)only[go_sem,seval,wqq,f2,f3,f7,f8,pI,zak,zc4,fr0]
   exact ih 4 _ _ (by omega) ⟨by omega,f2,f3,f7,rfl,_,_,_,rfl⟩
  ·have fr0:=zcd (hp 4)
   simp(disch:=omega)only[go_sem,seval,wqq,f2,f3,f7,f8,pI,zak,zc4,fr0]
   exact ih 5 _ _ (by omega) ⟨by omega,f2,f3,f7,rfl,_,_,_,rfl⟩
  ·have fr0:=zcd (hp 5)
   simp(disch:=omega)only[go_sem,seval,wqq,f2,f3,f7,f8,pI,zak,zc4,fr0]
   exact ih 6 _ _ (by omega) ⟨by omega,f2,f3,f7,rfl,_,_,_,rfl⟩
  ·have fr0:=zcd (hp 6)
   simp(disch:=omega)only[go_sem,seval,wqq,f2,f3,f7,f8,pI,zak,zc4,fr0]
   exact ih 7 _ _ (by omega) ⟨by omega,f2,f3,f7,rfl,_,_,_,rfl⟩
  ·have fr0:=zcd (hp 7)
   simp(disch:=omega)only[go_sem,seval,wqq,f2,f3,f7,f8,pI,zak,zc4,fr0]
   exact ih 8 _ _ (by omega) ⟨by omega,f2,f3,f7,rfl,_,_,_,rfl⟩
  ·have fr0:=zcd (hp 8)
   simp(disch:=omega)only[go_sem,seval,wqq,f2,f3,f7,f8,pI,zak,zc4,fr0]
   exact ih 9 _ _ (by omega) ⟨by omega,f2,f3,f7,rfl,_,_,_,rfl⟩
 ·obtain rfl:i=9:=by omega
  simp(disch:=omega)only[go_sem,seval,wqq,f2,f3,f7,f8,cP9]
end Go.Eng
namespace Go.Eng
theorem zdQ (p:Prop):(p=True)∨(p=False):=by by_cases h:p<;>simp[h]
noncomputable def tW (a b:WI):WI:=clip (a.v*b.v)
noncomputable def aW (a b:WI):WI:=clip (a.v+b.v)
noncomputable def sW (a b:WI):WI:=clip (a.v-b.v)
theorem zaF (a b:WI):pf E0 313 [wiP a,wiP b]=some (wiP (tW a b)):=by
 have h:=zeE a b
 unfold tW
 generalize clip (a.v*b.v)=c at *
 refine zaa (xf:=zBq) rfl (by simp[zBq]) ?_
 simp only[zBq]
 simp(disch:=omega)only[go_sem,seval,wqq,h]
theorem zer (a b:WI):pf E0 312 [wiP a,wiP b]=some (wiP (aW a b)):=by
 have h:=zgW a b
 unfold aW
 generalize clip (a.v+b.v)=c at *
 refine zaa (xf:=zBN) rfl (by simp[zBN]) ?_
 simp only[zBN]
 simp(disch:=omega)only[go_sem,seval,wqq,h]
theorem zbw (a b:WI):pf E0 319 [wiP a,wiP b]=some (wiP (sW a b)):=by
 have h:=zpf a b
 unfold sW
 generalize clip (a.v-b.v)=c at *
 refine zaa (xf:=zBi) rfl (by simp[zBi]) ?_
 simp only[zBi]
 simp(disch:=omega)only[go_sem,seval,wqq,h]
noncomputable def mnW (x:Nat→WI) (i k:Nat):WI:=sW (tW (x (3*((i+1)%3)+(k+1)%3)) (x (3*((i+2)%3)+(k+2)%3))) (tW (x (3*((i+1)%3)+(k+2)%3)) (x (3*((i+2)%3)+(k+1)%3)))
theorem zpm (x:Nat→WI) {i k:Nat} (hi:i<3) (hk:k<3) (b:Option PB) (G:PM):∃G',pcl E0 318 [.i .i64 (i:Int),.i .i64 (k:Int),.p 0 0] (some ⟨cW x,true,0⟩::b::G)=some (wiP (mnW x i k),some ⟨cW x,true,0⟩::b::(G++G')):=by
 obtain rfl|rfl|rfl:=zi1 hi<;>obtain rfl|rfl|rfl:=zi1 hk
 ·have t1:=zaF (x 4) (x 8)
  have t2:=zaF (x 5) (x 7)
  have t3:=zbw (tW (x 4) (x 8)) (tW (x 5) (x 7))
  refine⟨[some ⟨[.b (decide ((sW (tW (x 4) (x 8)) (tW (x 5) (x 7))).v<0)),D (sW (tW (x 4) (x 8)) (tW (x 5) (x 7))).v.natAbs],true,1⟩],?_⟩
  show pcl E0 318 [.i .i64 0,.i .i64 0,.p 0 0] (some ⟨cW x,true,0⟩::b::G)=some (wiP (sW (tW (x 4) (x 8)) (tW (x 5) (x 7))),some ⟨cW x,true,0⟩::b::(G++[some ⟨[.b (decide ((sW (tW (x 4) (x 8)) (tW (x 5) (x 7))).v<0)),D (sW (tW (x 4) (x 8)) (tW (x 5) (x 7))).v.natAbs],true,1⟩]))
  refine zbE (xf:=zzF) rfl rfl (by simp[zzF]) ?_
  simp only[zzF]
  simp(disch:=omega)only[go_sem,seval,wqq]
  refine zat [39,45] rfl ?_ ?_
  ·simp(disch:=omega)only[go_sem,seval,wqq,zau,t1,t2,t3,mG,mG0,sG,sG0,lG,lqq]
   exact⟨_,rfl,rfl⟩
  simp(disch:=omega)only[go_sem,seval,wqq,zau,t1,t2,t3,mG,mG0,sG,sG0,lG,lqq]
 ·have t1:=zaF (x 5) (x 6)
  have t2:=zaF (x 3) (x 8)
  have t3:=zbw (tW (x 5) (x 6)) (tW (x 3) (x 8))
  refine⟨[some ⟨[.b (decide ((sW (tW (x 5) (x 6)) (tW (x 3) (x 8))).v<0)),D (sW (tW (x 5) (x 6)) (tW (x 3) (x 8))).v.natAbs],true,1⟩],?_⟩
  show pcl E0 318 [.i .i64 0,.i .i64 1,.p 0 0] (some ⟨cW x,true,0⟩::b::G)=some (wiP (sW (tW (x 5) (x 6)) (tW (x 3) (x 8))),some ⟨cW x,true,0⟩::b::(G++[some ⟨[.b (decide ((sW (tW (x 5) (x 6)) (tW (x 3) (x 8))).v<0)),D (sW (tW (x 5) (x 6)) (tW (x 3) (x 8))).v.natAbs],true,1⟩]))
  refine zbE (xf:=zzF) rfl rfl (by simp[zzF]) ?_
  simp only[zzF]
  simp(disch:=omega)only[go_sem,seval,wqq]
  refine zat [39,45] rfl ?_ ?_
  ·simp(disch:=omega)only[go_sem,seval,wqq,zau,t1,t2,t3,mG,mG0,sG,sG0,lG,lqq]
   exact⟨_,rfl,rfl⟩
  simp(disch:=omega)only[go_sem,seval,wqq,zau,t1,t2,t3,mG,mG0,sG,sG0,lG,lqq]
 ·have t1:=zaF (x 3) (x 7)
  have t2:=zaF (x 4) (x 6)
  have t3:=zbw (tW (x 3) (x 7)) (tW (x 4) (x 6))
  refine⟨[some ⟨[.b (decide ((sW (tW (x 3) (x 7)) (tW (x 4) (x 6))).v<0)),D (sW (tW (x 3) (x 7)) (tW (x 4) (x 6))).v.natAbs],true,1⟩],?_⟩
  show pcl E0 318 [.i .i64 0,.i .i64 2,.p 0 0] (some ⟨cW x,true,0⟩::b::G)=some (wiP (sW (tW (x 3) (x 7)) (tW (x 4) (x 6))),some ⟨cW x,true,0⟩::b::(G++[some ⟨[.b (decide ((sW (tW (x 3) (x 7)) (tW (x 4) (x 6))).v<0)),D (sW (tW (x 3) (x 7)) (tW (x 4) (x 6))).v.natAbs],true,1⟩]))
  refine zbE (xf:=zzF) rfl rfl (by simp[zzF]) ?_
  simp only[zzF]
  simp(disch:=omega)only[go_sem,seval,wqq]
  refine zat [39,45] rfl ?_ ?_
  ·simp(disch:=omega)only[go_sem,seval,wqq,zau,t1,t2,t3,mG,mG0,sG,sG0,lG,lqq]
   exact⟨_,rfl,rfl⟩
  simp(disch:=omega)only[go_sem,seval,wqq,zau,t1,t2,t3,mG,mG0,sG,sG0,lG,lqq]
 ·have t1:=zaF (x 7) (x 2)
  have t2:=zaF (x 8) (x 1)
  have t3:=zbw (tW (x 7) (x 2)) (tW (x 8) (x 1))
  refine⟨[some ⟨[.b (decide ((sW (tW (x 7) (x 2)) (tW (x 8) (x 1))).v<0)),D (sW (tW (x 7) (x 2)) (tW (x 8) (x 1))).v.natAbs],true,1⟩],?_⟩
  show pcl E0 318 [.i .i64 1,.i .i64 0,.p 0 0] (some ⟨cW x,true,0⟩::b::G)=some (wiP (sW (tW (x 7) (x 2)) (tW (x 8) (x 1))),some ⟨cW x,true,0⟩::b::(G++[some ⟨[.b (decide ((sW (tW (x 7) (x 2)) (tW (x 8) (x 1))).v<0)),D (sW (tW (x 7) (x 2)) (tW (x 8) (x 1))).v.natAbs],true,1⟩]))
  refine zbE (xf:=zzF) rfl rfl (by simp[zzF]) ?_
  simp only[zzF]
  simp(disch:=omega)only[go_sem,seval,wqq]
  refine zat [39,45] rfl ?_ ?_
  ·simp(disch:=omega)only[go_sem,seval,wqq,zau,t1,t2,t3,mG,mG0,sG,sG0,lG,lqq]
   exact⟨_,rfl,rfl⟩
  simp(disch:=omega)only[go_sem,seval,wqq,zau,t1,t2,t3,mG,mG0,sG,sG0,lG,lqq]
 ·have t1:=zaF (x 8) (x 0)
  have t2:=zaF (x 6) (x 2)
  have t3:=zbw (tW (x 8) (x 0)) (tW (x 6) (x 2))
  refine⟨[some ⟨[.b (decide ((sW (tW (x 8) (x 0)) (tW (x 6) (x 2))).v<0)),D (sW (tW (x 8) (x 0)) (tW (x 6) (x 2))).v.natAbs],true,1⟩],?_⟩
  show pcl E0 318 [.i .i64 1,.i .i64 1,.p 0 0] (some ⟨cW x,true,0⟩::b::G)=some (wiP (sW (tW (x 8) (x 0)) (tW (x 6) (x 2))),some ⟨cW x,true,0⟩::b::(G++[some ⟨[.b (decide ((sW (tW (x 8) (x 0)) (tW (x 6) (x 2))).v<0)),D (sW (tW (x 8) (x 0)) (tW (x 6) (x 2))).v.natAbs],true,1⟩]))
  refine zbE (xf:=zzF) rfl rfl (by simp[zzF]) ?_
  simp only[zzF]
  simp(disch:=omega)only[go_sem,seval,wqq]
  refine zat [39,45] rfl ?_ ?_
  ·simp(disch:=omega)only[go_sem,seval,wqq,zau,t1,t2,t3,mG,mG0,sG,sG0,lG,lqq]
   exact⟨_,rfl,rfl⟩
  simp(disch:=omega)only[go_sem,seval,wqq,zau,t1,t2,t3,mG,mG0,sG,sG0,lG,lqq]
 ·have t1:=zaF (x 6) (x 1)
  have t2:=zaF (x 7) (x 0)
  have t3:=zbw (tW (x 6) (x 1)) (tW (x 7) (x 0))
  refine⟨[some ⟨[.b (decide ((sW (tW (x 6) (x 1)) (tW (x 7) (x 0))).v<0)),D (sW (tW (x 6) (x 1)) (tW (x 7) (x 0))).v.natAbs],true,1⟩],?_⟩
  show pcl E0 318 [.i .i64 1,.i .i64 2,.p 0 0] (some ⟨cW x,true,0⟩::b::G)=some (wiP (sW (tW (x 6) (x 1)) (tW (x 7) (x 0))),some ⟨cW x,true,0⟩::b::(G++[some ⟨[.b (decide ((sW (tW (x 6) (x 1)) (tW (x 7) (x 0))).v<0)),D (sW (tW (x 6) (x 1)) (tW (x 7) (x 0))).v.natAbs],true,1⟩]))
  refine zbE (xf:=zzF) rfl rfl (by simp[zzF]) ?_
  simp only[zzF]
  simp(disch:=omega)only[go_sem,seval,wqq]
  refine zat [39,45] rfl ?_ ?_
  ·simp(disch:=omega)only[go_sem,seval,wqq,zau,t1,t2,t3,mG,mG0,sG,sG0,lG,lqq]
   exact⟨_,rfl,rfl⟩
  simp(disch:=omega)only[go_sem,seval,wqq,zau,t1,t2,t3,mG,mG0,sG,sG0,lG,lqq]
 ·have t1:=zaF (x 1) (x 5)
  have t2:=zaF (x 2) (x 4)
  have t3:=zbw (tW (x 1) (x 5)) (tW (x 2) (x 4))
  refine⟨[some ⟨[.b (decide ((sW (tW (x 1) (x 5)) (tW (x 2) (x 4))).v<0)),D (sW (tW (x 1) (x 5)) (tW (x 2) (x 4))).v.natAbs],true,1⟩],?_⟩
  show pcl E0 318 [.i .i64 2,.i .i64 0,.p 0 0] (some ⟨cW x,true,0⟩::b::G)=some (wiP (sW (tW (x 1) (x 5)) (tW (x 2) (x 4))),some ⟨cW x,true,0⟩::b::(G++[some ⟨[.b (decide ((sW (tW (x 1) (x 5)) (tW (x 2) (x 4))).v<0)),D (sW (tW (x 1) (x 5)) (tW (x 2) (x 4))).v.natAbs],true,1⟩]))
  refine zbE (xf:=zzF) rfl rfl (by simp[zzF]) ?_
  simp only[zzF]
  simp(disch:=omega)only[go_sem,seval,wqq]
  refine zat [39,45] rfl ?_ ?_
  ·simp(disch:=omega)only[go_sem,seval,wqq,zau,t1,t2,t3,mG,mG0,sG,sG0,lG,lqq]
   exact⟨_,rfl,rfl⟩
  simp(disch:=omega)only[go_sem,seval,wqq,zau,t1,t2,t3,mG,mG0,sG,sG0,lG,lqq]
 ·have t1:=zaF (x 2) (x 3)
  have t2:=zaF (x 0) (x 5)
  have t3:=zbw (tW (x 2) (x 3)) (tW (x 0) (x 5))
  refine⟨[some ⟨[.b (decide ((sW (tW (x 2) (x 3)) (tW (x 0) (x 5))).v<0)),D (sW (tW (x 2) (x 3)) (tW (x 0) (x 5))).v.natAbs],true,1⟩],?_⟩
  show pcl E0 318 [.i .i64 2,.i .i64 1,.p 0 0] (some ⟨cW x,true,0⟩::b::G)=some (wiP (sW (tW (x 2) (x 3)) (tW (x 0) (x 5))),some ⟨cW x,true,0⟩::b::(G++[some ⟨[.b (decide ((sW (tW (x 2) (x 3)) (tW (x 0) (x 5))).v<0)),D (sW (tW (x 2) (x 3)) (tW (x 0) (x 5))).v.natAbs],true,1⟩]))
  refine zbE (xf:=zzF) rfl rfl (by simp[zzF]) ?_
  simp only[zzF]
  simp(disch:=omega)only[go_sem,seval,wqq]
  refine zat [39,45] rfl ?_ ?_
  ·simp(disch:=omega)only[go_sem,seval,wqq,zau,t1,t2,t3,mG,mG0,sG,sG0,lG,lqq]
   exact⟨_,rfl,rfl⟩
  simp(disch:=omega)only[go_sem,seval,wqq,zau,t1,t2,t3,mG,mG0,sG,sG0,lG,lqq]
 ·have t1:=zaF (x 0) (x 4)
  have t2:=zaF (x 1) (x 3)
  have t3:=zbw (tW (x 0) (x 4)) (tW (x 1) (x 3))
  refine⟨[some ⟨[.b (decide ((sW (tW (x 0) (x 4)) (tW (x 1) (x 3))).v<0)),D (sW (tW (x 0) (x 4)) (tW (x 1) (x 3))).v.natAbs],true,1⟩],?_⟩
  show pcl E0 318 [.i .i64 2,.i .i64 2,.p 0 0] (some ⟨cW x,true,0⟩::b::G)=some (wiP (sW (tW (x 0) (x 4)) (tW (x 1) (x 3))),some ⟨cW x,true,0⟩::b::(G++[some ⟨[.b (decide ((sW (tW (x 0) (x 4)) (tW (x 1) (x 3))).v<0)),D (sW (tW (x 0) (x 4)) (tW (x 1) (x 3))).v.natAbs],true,1⟩]))
  refine zbE (xf:=zzF) rfl rfl (by simp[zzF]) ?_
  simp only[zzF]
  simp(disch:=omega)only[go_sem,seval,wqq]
  refine zat [39,45] rfl ?_ ?_
  ·simp(disch:=omega)only[go_sem,seval,wqq,zau,t1,t2,t3,mG,mG0,sG,sG0,lG,lqq]
   exact⟨_,rfl,rfl⟩
  simp(disch:=omega)only[go_sem,seval,wqq,zau,t1,t2,t3,mG,mG0,sG,sG0,lG,lqq]
noncomputable def adW (x:Nat→WI):Nat→WI:=fun e=>mnW x (e%3) (e/3)
end Go.Eng
namespace Go.Eng
noncomputable def cS (s:Nat→Bool) (w:Nat→WI):List PV:=[if s 0 then .b (decide ((w 0).v<0)) else .b false,if s 0 then D (w 0).v.natAbs else .nl,if s 1 then .b (decide ((w 1).v<0)) else .b false,if s 1 then D (w 1).v.natAbs else .nl,if s 2 then .b (decide ((w 2).v<0)) else .b false,if s 2 then D (w 2).v.natAbs else .nl,if s 3 then .b (decide ((w 3).v<0)) else .b false,if s 3 then D (w 3).v.natAbs else .nl,if s 4 then .b (decide ((w 4).v<0)) else .b false,if s 4 then D (w 4).v.natAbs else .nl,if s 5 then .b (decide ((w 5).v<0)) else .b false,if s 5 then D (w 5).v.natAbs else .nl,if s 6 then .b (decide ((w 6).v<0)) else .b false,if s 6 then D (w 6).v.natAbs else .nl,if s 7 then .b (decide ((w 7).v<0)) else .b false,if s 7 then D (w 7).v.natAbs else .nl,if s 8 then .b (decide ((w 8).v<0)) else .b false,if s 8 then D (w 8).v.natAbs else .nl]
theorem zeK (s:Nat→Bool) (w:Nat→WI):cS s w=[if s 0 then .b (decide ((w 0).v<0)) else .b false,if s 0 then D (w 0).v.natAbs else .nl,if s 1 then .b (decide ((w 1).v<0)) else .b false,if s 1 then D (w 1).v.natAbs else .nl,if s 2 then .b (decide ((w 2).v<0)) else .b false,if s 2 then D (w 2).v.natAbs else .nl,if s 3 then .b (decide ((w 3).v<0)) else .b false,if s 3 then D (w 3).v.natAbs else .nl,if s 4 then .b (decide ((w 4).v<0)) else .b false,if s 4 then D (w 4).v.natAbs else .nl,if s 5 then .b (decide ((w 5).v<0)) else .b false,if s 5 then D (w 5).v.natAbs else .nl,if s 6 then .b (decide ((w 6).v<0)) else .b false,if s 6 then D (w 6).v.natAbs else .nl,if s 7 then .b (decide ((w 7).v<0)) else .b false,if s 7 then D (w 7).v.natAbs else .nl,if s 8 then .b (decide ((w 8).v<0)) else .b false,if s 8 then D (w 8).v.natAbs else .nl]:=_root_.id rfl
@[go_sem] theorem zyU (s:Nat→Bool) (w:Nat→WI):(cS s w).length=18:=_root_.id rfl
def sA (n:Nat):Nat→Bool:=fun e=>decide (3*(e%3)+e/3<n)
set_option maxHeartbeats 2000000 in
theorem zph (x:Nat→WI):pf E0 311 [mW x]=some (mW (adW x)):=by
 refine zaa (xf:=zAR) rfl (by simp[zAR]) ?_
 simp only[zAR]
 simp(disch:=omega)only[go_sem,seval,wqq]
 refine zan zCI.eq_1 (fun(i:Nat) fr M=>i≤3∧fr 2=.p 1 0∧fr 3=.fn 318 [.p 0 0]∧fr 4=.p 2 0∧fr 8=(PV.i .i64 ((i:Nat):Int))∧∃b v G,M=some ⟨cW x,true,0⟩::some ⟨cP 0 zW,true,b⟩::some ⟨cS (sA (3*i)) (adW x),true,v⟩::G) (fun i=>3-i) ?_ 0 ⟨by omega,rfl,rfl,rfl,rfl,_,_,_,rfl⟩
 rintro i fr M ⟨hi,f2,f3,f4,f8,b,v,G,rfl⟩ ih
 rcases Nat.lt_or_ge i 3 with h3|h3
 ·have q1:((i:Int)<3)=True:=eq_true (by omega)
  simp(disch:=omega)only[go_sem,seval,wqq,f2,f3,f4,f8,q1]
  refine zan zCC.eq_1 (fun(k:Nat) fr M=>k≤3∧fr 2=.p 1 0∧fr 3=.fn 318 [.p 0 0]∧fr 4=.p 2 0∧fr 8=(PV.i .i64 ((i:Nat):Int))∧fr 5=(PV.i .i64 ((i:Nat):Int))∧fr 11=(PV.i .i64 ((k:Nat):Int))∧∃b v G,M=some ⟨cW x,true,0⟩::some ⟨cP 0 zW,true,b⟩::some ⟨cS (sA (3*i+k)) (adW x),true,v⟩::G) (fun k=>3-k) ?_ 0 ⟨by omega,f2,f3,f4,f8,rfl,rfl,_,_,_,rfl⟩
  rintro k fr M ⟨hk,f2,f3,f4,f8,f5,f11,b,v,G,rfl⟩ ih2
  rcases Nat.lt_or_ge k 3 with h4|h4
  ·obtain⟨G',mn⟩:=zpm x h3 h4 (some ⟨cP 0 zW,true,b⟩) (some ⟨cS (sA (3*i+k)) (adW x),true,v⟩::G)
   have q2:((k:Int)<3)=True:=eq_true (by omega)
   obtain rfl|rfl|rfl:=zi1 h3<;>obtain rfl|rfl|rfl:=zi1 h4
   ·have mn:pcl E0 318 [.i .i64 0,.i .i64 0,.p 0 0] _=_:=mn
    simp(disch:=omega)only[go_sem,seval,wqq,f2,f3,f4,f8,f5,f11,mn]
    exact ih2 1 _ _ (by omega) ⟨by omega,f2,f3,f4,f8,f5,rfl,_,_,_,rfl⟩
   ·have mn:pcl E0 318 [.i .i64 0,.i .i64 1,.p 0 0] _=_:=mn
    simp(disch:=omega)only[go_sem,seval,wqq,f2,f3,f4,f8,f5,f11,mn]
    exact ih2 2 _ _ (by omega) ⟨by omega,f2,f3,f4,f8,f5,rfl,_,_,_,rfl⟩
   ·have mn:pcl E0 318 [.i .i64 0,.i .i64 2,.p 0 0] _=_:=mn
    simp(disch:=omega)only[go_sem,seval,wqq,f2,f3,f4,f8,f5,f11,mn]
    exact ih2 3 _ _ (by omega) ⟨by omega,f2,f3,f4,f8,f5,rfl,_,_,_,rfl⟩
   ·have mn:pcl E0 318 [.i .i64 1,.i .i64 0,.p 0 0] _=_:=mn
    simp(disch:=omega)only[go_sem,seval,wqq,f2,f3,f4,f8,f5,f11,mn]
    exact ih2 1 _ _ (by omega) ⟨by omega,f2,f3,f4,f8,f5,rfl,_,_,_,rfl⟩
   ·have mn:pcl E0 318 [.i .i64 1,.i .i64 1,.p 0 0] _=_:=mn
    simp(disch:=omega)only[go_sem,seval,wqq,f2,f3,f4,f8,f5,f11,mn]
    exact ih2 2 _ _ (by omega) ⟨by omega,f2,f3,f4,f8,f5,rfl,_,_,_,rfl⟩
   ·have mn:pcl E0 318 [.i .i64 1,.i .i64 2,.p 0 0] _=_:=mn
    simp(disch:=omega)only[go_sem,seval,wqq,f2,f3,f4,f8,f5,f11,mn]
    exact ih2 3 _ _ (by omega) ⟨by omega,f2,f3,f4,f8,f5,rfl,_,_,_,rfl⟩
   ·have mn:pcl E0 318 [.i .i64 2,.i .i64 0,.p 0 0] _=_:=mn
    simp(disch:=omega)only[go_sem,seval,wqq,f2,f3,f4,f8,f5,f11,mn]
    exact ih2 1 _ _ (by omega) ⟨by omega,f2,f3,f4,f8,f5,rfl,_,_,_,rfl⟩
   ·have mn:pcl E0 318 [.i .i64 2,.i .i64 1,.p 0 0] _=_:=mn
    simp(disch:=omega)only[go_sem,seval,wqq,f2,f3,f4,f8,f5,f11,mn]
    exact ih2 2 _ _ (by omega) ⟨by omega,f2,f3,f4,f8,f5,rfl,_,_,_,rfl⟩
   ·have mn:pcl E0 318 [.i .i64 2,.i .i64 2,.p 0 0] _=_:=mn
    simp(disch:=omega)only[go_sem,seval,wqq,f2,f3,f4,f8,f5,f11,mn]
    exact ih2 3 _ _ (by omega) ⟨by omega,f2,f3,f4,f8,f5,rfl,_,_,_,rfl⟩
  ·obtain rfl:k=3:=by omega
   simp(disch:=omega)only[go_sem,seval,wqq,f2,f3,f4,f8,f5,f11]
   exact ih (i+1) _ _ (by omega) ⟨by omega,f2,f3,f4,tS _,b,v,G,rfl⟩
 ·obtain rfl:i=3:=by omega
  have c9:cS (sA (3*3)) (adW x)=cW (adW x):=rfl
  simp(disch:=omega)only[go_sem,seval,wqq,f2,f3,f4,f8,c9]
noncomputable def dtW (x:Nat→WI):WI:=aW (aW (tW (x 0) (adW x 0)) (tW (x 1) (adW x 3))) (tW (x 2) (adW x 6))
theorem zgg (x:Nat→WI):pf E0 306 [mW x]=some (wiP (dtW x)):=by
 have ha:=zph x
 unfold dtW
 generalize adW x=a at *
 have t1:=zaF (x 0) (a 0)
 have t2:=zaF (x 1) (a 3)
 have t3:=zaF (x 2) (a 6)
 generalize tW (x 0) (a 0)=u1 at *
 generalize tW (x 1) (a 3)=u2 at *
 generalize tW (x 2) (a 6)=u3 at *
 have t4:=zer u1 u2
 generalize aW u1 u2=u4 at *
 have t5:=zer u4 u3
 refine zaa (xf:=zCk) rfl (by simp[zCk]) ?_
 simp only[zCk]
 simp(disch:=omega)only[go_sem,seval,wqq,ha]
 refine zat [11,13,17,19] rfl ?_ ?_
 ·simp(disch:=omega)only[go_sem,seval,wqq,zau,t1,t2,t3,t4,t5]
  exact⟨_,rfl,rfl⟩
 simp(disch:=omega)only[go_sem,seval,wqq,zau,t1,t2,t3,t4,t5]
def okP (p:Nat→Int):Prop:=∀e,e<9 → -1073741824≤p e∧p e≤1073741824
open Classical in
noncomputable def vlP (p:Nat→Int):Int:=if okP p then (if (dtW (ofW p)).v=0 then 10 else 0) else 1
set_option maxHeartbeats 2000000 in
theorem zcI {p:Nat→Int} (hp:∀e,Fits64 (p e)):pf E0 302 [pI p]=some (.i .i64 (vlP p)):=by
 have hm:=zpn hp
 have hd:=zgg (ofW p)
 have sg:=za6 (dtW (ofW p))
 have bad:∀e,e<9→¬(-1073741824≤p e∧p e≤1073741824)→vlP p=1:=fun e he h=>by unfold vlP;rw[if_neg fun q=>h (q e he)]
 have good:okP p→vlP p=if (dtW (ofW p)).v=0 then 10 else 0:=fun h=>by unfold vlP;rw[if_pos h]
 generalize vlP p=V at *
 generalize dtW (ofW p)=dt at *
 refine zaa (xf:=zBp) rfl (by simp[zBp]) ?_
 simp only[zBp]
 simp(disch:=omega)only[go_sem,seval,wqq]
 refine zan zCV.eq_1 (fun(i:Nat) fr M=>i≤9∧(∀e,e<i → -1073741824≤p e∧p e≤1073741824)∧fr 1=.p 0 0∧fr 6=pI p∧fr 7=(PV.i .i64 ((i:Nat):Int))∧M=[some ⟨cI p,true,0⟩]) (fun i=>9-i) ?_ 0 ⟨by omega,fun e he=>by omega,rfl,rfl,rfl,rfl⟩
 rintro i fr M ⟨hi,hlo,f1,f6,f7,rfl⟩ ih
 rcases Nat.lt_or_ge i 9 with h9|h9
 ·have nxt:∀j,(-1073741824≤p j∧p j≤1073741824)→j=i→∀e,e<j+1 → -1073741824≤p e∧p e≤1073741824:=fun j hj hji e he=>by
   subst hji
   rcases Nat.lt_or_ge e j with h|h
   ·exact hlo e h
   ·obtain rfl:e=j:=by omega
    exact hj
  have hpe:=hp i
  unfold Fits64 at hpe
  rcases zdQ (p i < -1073741824) with t1|t1
  ·rw[bad i h9 (by have:=of_eq_true t1;omega)]
   obtain rfl|rfl|rfl|rfl|rfl|rfl|rfl|rfl|rfl:=zfv h9
   all_goals simp(disch:=omega)only[go_sem,seval,wqq,f1,f6,f7,pI,zak,t1]
  ·rcases zdQ (p i>1073741824) with t2|t2
   ·rw[bad i h9 (by have:=of_eq_true t2;omega)]
    obtain rfl|rfl|rfl|rfl|rfl|rfl|rfl|rfl|rfl:=zfv h9
    all_goals simp(disch:=omega)only[go_sem,seval,wqq,f1,f6,f7,pI,zak,t1,t2]
   ·have u1:=of_eq_false t1
    have u2:=of_eq_false t2
    have nx:=nxt i (by omega) rfl
    obtain rfl|rfl|rfl|rfl|rfl|rfl|rfl|rfl|rfl:=zfv h9
    all_goals
     simp(disch:=omega)only[go_sem,seval,wqq,f1,f6,f7,pI,zak,t1,t2]
     first|exact ih 1 _ _ (by omega) ⟨by omega,nx,f1,f6,rfl,rfl⟩|exact ih 2 _ _ (by omega) ⟨by omega,nx,f1,f6,rfl,rfl⟩|exact ih 3 _ _ (by omega) ⟨by omega,nx,f1,f6,rfl,rfl⟩|exact ih 4 _ _ (by omega) ⟨by omega,nx,f1,f6,rfl,rfl⟩|exact ih 5 _ _ (by omega) ⟨by omega,nx,f1,f6,rfl,rfl⟩|exact ih 6 _ _ (by omega) ⟨by omega,nx,f1,f6,rfl,rfl⟩|exact ih 7 _ _ (by omega) ⟨by omega,nx,f1,f6,rfl,rfl⟩|exact ih 8 _ _ (by omega) ⟨by omega,nx,f1,f6,rfl,rfl⟩|exact ih 9 _ _ (by omega) ⟨by omega,nx,f1,f6,rfl,rfl⟩
 ·obtain rfl:i=9:=by omega
  rw[good hlo]
  by_cases h0:dt.v=0
  ·have c0:(cmpI dt.v 0=0)=True:=by rw[zaC];simp[h0]
   rw[if_pos h0]
   simp(disch:=omega)only[go_sem,seval,wqq,f1,f6,f7,hm,hd,sg,c0]
  ·have c0:(cmpI dt.v 0=0)=False:=by rw[zaC];simp[h0]
   rw[if_neg h0]
   simp(disch:=omega)only[go_sem,seval,wqq,f1,f6,f7,hm,hd,sg,c0]
end Go.Eng
namespace Go.Eng
def gN (X:Nat→Int):Nat→Nat
 | 0=>0
 | i+1=>Nat.gcd (gN X i) (X i).natAbs
def fN (X:Nat→Int):Nat→Int
 | 0=>0
 | i+1=>if fN X i=0 then cmpI (X i) 0 else fN X i
theorem znh (X:Nat→Int):∀i,fN X i=0∨fN X i=1∨fN X i = -1
 | 0=>.inl rfl
 | i+1=>by
  have h:=zdS (X i) 0
  have:=znh X i
  unfold fN
  split<;>omega
theorem zjC (X:Nat→Int):∀i,fN X i=0→gN X i=0
 | 0,_=>rfl
 | i+1,h=>by
  unfold fN at h
  split at h
  ·rename_i h0
   have h1:=zjC X i h0
   rw[zaC] at h
   show Nat.gcd (gN X i) (X i).natAbs=0
   rw[h1,h];rfl
  ·rename_i h0;exact(h0 h).elim
noncomputable def gW (x:Nat→WI):Nat→WI
 | 0=>wi0
 | i+1=>(gW x i).gcd (x i)
theorem zw6 (x:Nat→WI):∀i,(gW x i).v=(gN (fun e=>(x e).v) i:Int)
 | 0=>rfl
 | i+1=>by
  show ((Nat.gcd (gW x i).v.natAbs (x i).v.natAbs:Nat):Int)=_
  rw[zw6 x i,Int.natAbs_natCast];rfl
noncomputable def gC (x:Nat→WI):Nat→List PV
 | 0=>[.b false,.nl]
 | i+1=>[.b (decide ((gW x (i+1)).v<0)),D (gW x (i+1)).v.natAbs]
def okN (X:Nat→Int):Prop:=∀e,e<9 → -1073741824≤X e/gN X 9∧X e/gN X 9≤1073741824
open Classical in
noncomputable def nfP (X:Nat→Int):Nat→Int:=if okN X then fun e=>X e/gN X 9*fN X 9 else zI
open Classical in
noncomputable def nfE (X:Nat→Int):Int:=if okN X then 0 else 5
theorem pI0:PV.ag [.i .i64 0,.i .i64 0,.i .i64 0,.i .i64 0,.i .i64 0,.i .i64 0,.i .i64 0,.i .i64 0,.i .i64 0]=pI zI:=rfl
theorem zm0 {q s:Int} (h1 : -9223372036854775808≤q) (h2:q≤9223372036854775807) (ho:¬(-1073741824≤q∧q≤1073741824)) (hs:s=1∨s = -1):IntKind.i64.wrap (q*s) < -1073741824∨IntKind.i64.wrap (q*s)>1073741824:=by
 rcases hs with rfl|rfl
 ·rw[Int.mul_one,wqa (by omega) (by omega)];omega
 ·by_cases hm:q = -9223372036854775808
  ·subst hm;left;decide
  ·rw[show q * -1 = -q by omega,wqa (by omega) (by omega)];omega
set_option maxHeartbeats 8000000 in
theorem zkH (x:Nat→WI) (hg:gN (fun e=>(x e).v) 9≠0):pf E0 314 [mW x]=some (.tu [pI (nfP fun e=>(x e).v),.i .i64 (nfE fun e=>(x e).v)]):=by
 obtain⟨X,hX⟩:∃X:Nat→Int,X=fun e=>(x e).v:=⟨_,rfl⟩
 have gv:=zw6 x 9
 rw[←hX] at hg gv ⊢
 have Xe:∀e,(x e).v=X e:=fun e=>by rw[hX]
 have fr9:=znh X 9
 have s9:fN X 9=1∨fN X 9 = -1:=by
  rcases fr9 with h|h
  ·exact(hg (zjC X 9 h)).elim
  ·exact h
 have gw0:(gW x 9).v≠0:=by rw[gv];omega
 have bad:∀e,e<9→¬(-1073741824≤X e/gN X 9∧X e/gN X 9≤1073741824)→nfP X=zI∧nfE X=5:=fun e he h=>by
  have hn:¬okN X:=fun q=>h (q e he)
  exact⟨by unfold nfP;rw[if_neg hn],by unfold nfE;rw[if_neg hn]⟩
 have good:okN X→nfP X=(fun e=>X e/gN X 9*fN X 9)∧nfE X=0:=fun h=>⟨by unfold nfP;rw[if_pos h],by unfold nfE;rw[if_pos h]⟩
 generalize nfP X=P at *
 generalize nfE X=E at *
 have sgn:∀e,pf E0 31 [wiP (x e)]=some (.i .i64 (cmpI (X e) 0)):=fun e=>by rw[←Xe];exact za6 (x e)
 have gcd:∀e,pf E0 18 [wiP (gW x e),wiP (x e)]=some (wiP (gW x (e+1))):=fun e=>zg0 (gW x e) (x e)
 refine zaa (xf:=zA8) rfl (by simp[zA8]) ?_
 simp only[zA8]
 simp(disch:=omega)only[go_sem,seval,wqq]
 refine zan zCS.eq_1 (fun(i:Nat) fr M=>i≤9∧fr 1=.p 0 0∧fr 2=.p 1 0∧fr 4=.p 2 0∧fr 5=.i .i64 (fN X i)∧fr 17=mW x∧fr 18=(PV.i .i64 ((i:Nat):Int))∧∃b v G,M=some ⟨cW x,true,0⟩::some ⟨cQ 0 zI,true,b⟩::some ⟨gC x i,true,v⟩::G) (fun i=>9-i) ?_ 0 ⟨by omega,rfl,rfl,rfl,by simp only[go_sem,seval];try rfl,rfl,rfl,_,_,[],rfl⟩
 rintro i fr M ⟨hi,f1,f2,f4,f5,f17,f18,b,v,G,rfl⟩ ih
 rcases Nat.lt_or_ge i 9 with h9|h9
 ·have h5:=f5
  by_cases h0:fN X i=0
  ·have hs:fN X (i+1)=cmpI (X i) 0:=by show (if fN X i=0 then _ else _)=_;rw[if_pos h0]
   rw[h0] at f5
   have g1:=gcd i
   have g2:=sgn i
   obtain rfl|rfl|rfl|rfl|rfl|rfl|rfl|rfl|rfl:=zfv h9
   all_goals
    simp only[seval] at g1
    simp(disch:=omega)only[go_sem,seval,wqq,f1,f2,f4,f5,f17,f18,mW,zau,gC,g1,g2,mG,mG0,sG,sG0,lG,lqq]
    first|exact ih 1 _ _ (by omega) ⟨by omega,f1,f2,f4,by rw[hs];simp only[go_sem,seval],f17,rfl,_,_,_,rfl⟩|exact ih 2 _ _ (by omega) ⟨by omega,f1,f2,f4,by rw[hs];simp only[go_sem,seval],f17,rfl,_,_,_,rfl⟩|exact ih 3 _ _ (by omega) ⟨by omega,f1,f2,f4,by rw[hs];simp only[go_sem,seval],f17,rfl,_,_,_,rfl⟩|exact ih 4 _ _ (by omega) ⟨by omega,f1,f2,f4,by rw[hs];simp only[go_sem,seval],f17,rfl,_,_,_,rfl⟩|exact ih 5 _ _ (by omega) ⟨by omega,f1,f2,f4,by rw[hs];simp only[go_sem,seval],f17,rfl,_,_,_,rfl⟩|exact ih 6 _ _ (by omega) ⟨by omega,f1,f2,f4,by rw[hs];simp only[go_sem,seval],f17,rfl,_,_,_,rfl⟩|exact ih 7 _ _ (by omega) ⟨by omega,f1,f2,f4,by rw[hs];simp only[go_sem,seval],f17,rfl,_,_,_,rfl⟩|exact ih 8 _ _ (by omega) ⟨by omega,f1,f2,f4,by rw[hs];simp only[go_sem,seval],f17,rfl,_,_,_,rfl⟩|exact ih 9 _ _ (by omega) ⟨by omega,f1,f2,f4,by rw[hs];simp only[go_sem,seval],f17,rfl,_,_,_,rfl⟩
  ·have hs:fN X (i+1)=fN X i:=by show (if fN X i=0 then _ else _)=_;rw[if_neg h0]
   have t0:(fN X i=0)=False:=eq_false h0
   have g1:=gcd i
   obtain rfl|rfl|rfl|rfl|rfl|rfl|rfl|rfl|rfl:=zfv h9
   all_goals
    simp only[seval] at g1
    simp(disch:=omega)only[go_sem,seval,wqq,f1,f2,f4,f5,f17,f18,mW,zau,gC,g1,t0,mG,mG0,sG,sG0,lG,lqq]
    first|exact ih 1 _ _ (by omega) ⟨by omega,f1,f2,f4,by rw[hs];simp only[go_sem,seval,f5],f17,rfl,_,_,_,rfl⟩|exact ih 2 _ _ (by omega) ⟨by omega,f1,f2,f4,by rw[hs];simp only[go_sem,seval,f5],f17,rfl,_,_,_,rfl⟩|exact ih 3 _ _ (by omega) ⟨by omega,f1,f2,f4,by rw[hs];simp only[go_sem,seval,f5],f17,rfl,_,_,_,rfl⟩|exact ih 4 _ _ (by omega) ⟨by omega,f1,f2,f4,by rw[hs];simp only[go_sem,seval,f5],f17,rfl,_,_,_,rfl⟩|exact ih 5 _ _ (by omega) ⟨by omega,f1,f2,f4,by rw[hs];simp only[go_sem,seval,f5],f17,rfl,_,_,_,rfl⟩|exact ih 6 _ _ (by omega) ⟨by omega,f1,f2,f4,by rw[hs];simp only[go_sem,seval,f5],f17,rfl,_,_,_,rfl⟩|exact ih 7 _ _ (by omega) ⟨by omega,f1,f2,f4,by rw[hs];simp only[go_sem,seval,f5],f17,rfl,_,_,_,rfl⟩|exact ih 8 _ _ (by omega) ⟨by omega,f1,f2,f4,by rw[hs];simp only[go_sem,seval,f5],f17,rfl,_,_,_,rfl⟩|exact ih 9 _ _ (by omega) ⟨by omega,f1,f2,f4,by rw[hs];simp only[go_sem,seval,f5],f17,rfl,_,_,_,rfl⟩
 ·obtain rfl:i=9:=by omega
  clear ih
  have gC9:gC x 9=[.b (decide ((gW x 9).v<0)),D (gW x 9).v.natAbs]:=rfl
  generalize hgw:gW x 9=g at *
  simp(disch:=omega)only[go_sem,seval,wqq,f1,f2,f4,f5,f17,f18,gC9,mG,mG0,sG,sG0,lG,lqq]
  have dvq:∀e,((x e).div g gw0).v=X e/gN X 9:=fun e=>by
   show (x e).v/g.v=_
   rw[Xe,gv]
  refine zan zCK.eq_1 (fun(i:Nat) fr M=>i≤9∧(∀e,e<i → -1073741824≤X e/gN X 9∧X e/gN X 9≤1073741824)∧fr 2=.p 1 0∧fr 4=.p 2 0∧fr 5=.i .i64 (fN X 9)∧fr 8=.p (G.length+3) 0∧fr 29=mW x∧fr 30=(PV.i .i64 ((i:Nat):Int))∧∃b v R,M=some ⟨cW x,true,0⟩::some ⟨cQ 0 zI,true,b⟩::some ⟨[.b (decide (g.v<0)),D g.v.natAbs],true,v⟩::(G++(some ⟨cQ i (fun e=>X e/gN X 9*fN X 9),true,i⟩::R)))
   (fun i=>9-i) ?_ 0 ⟨by omega,fun e he=>by omega,f2,f4,f5,rfl,rfl,rfl,b,v,[],rfl⟩
  clear b v f1 f2 f4 f5 f17 f18
  rintro i fr M ⟨hi,hlo,f2,f4,f5,f8,f29,f30,b,v,R,rfl⟩ ih
  rcases Nat.lt_or_ge i 9 with h9|h9
  ·have nxt:∀j,(-1073741824≤X j/gN X 9∧X j/gN X 9≤1073741824)→j=i→∀e,e<j+1 → -1073741824≤X e/gN X 9∧X e/gN X 9≤1073741824:=fun j hj hji e he=>by
    subst hji
    rcases Nat.lt_or_ge e j with h|h
    ·exact hlo e h
    ·obtain rfl:e=j:=by omega
     exact hj
   have dv:=zgZ (x i) g gw0
   have sm:=zfy ((x i).div g gw0)
   have dq:=dvq i
   generalize (x i).div g gw0=d at *
   generalize (x i).mod g gw0=d2 at *
   by_cases hq : -1073741824≤X i/gN X 9∧X i/gN X 9≤1073741824
   ·have nx:=nxt i hq rfl
    have s1:isSmall d.v=true:=by unfold isSmall;exact decide_eq_true (by rw[dq];omega)
    have s2:small d.v=X i/gN X 9:=by unfold small;rw[s1,dq];rfl
    rw[s1,s2] at sm
    have hqs : -1073741824≤X i/gN X 9*fN X 9∧X i/gN X 9*fN X 9≤1073741824:=by
     rcases s9 with h|h<;>rw[h]<;>omega
    clear dvq bad nxt
    generalize hQ:(fun e=>X e/(gN X 9:Int)*fN X 9)=Y at *
    have hY:X i/gN X 9*fN X 9=Y i:=by rw[←hQ]
    have t1:(Y i < -1073741824)=False:=eq_false (by omega)
    have t2:(Y i>1073741824)=False:=eq_false (by omega)
    rw[hY] at hqs
    generalize X i/(gN X 9:Int)=q at *
    obtain rfl|rfl|rfl|rfl|rfl|rfl|rfl|rfl|rfl:=zfv h9
    all_goals
     simp(disch:=omega)only[go_sem,seval,wqq,f2,f4,f5,f8,f29,f30,mW,zau,dv,sm,hY,t1,t2,mG,mG0,sG,sG0,lG,lqq]
     first|exact ih 1 _ _ (by omega) ⟨by omega,nx,f2,f4,f5,f8,f29,rfl,b,v,_,rfl⟩|exact ih 2 _ _ (by omega) ⟨by omega,nx,f2,f4,f5,f8,f29,rfl,b,v,_,rfl⟩|exact ih 3 _ _ (by omega) ⟨by omega,nx,f2,f4,f5,f8,f29,rfl,b,v,_,rfl⟩|exact ih 4 _ _ (by omega) ⟨by omega,nx,f2,f4,f5,f8,f29,rfl,b,v,_,rfl⟩|exact ih 5 _ _ (by omega) ⟨by omega,nx,f2,f4,f5,f8,f29,rfl,b,v,_,rfl⟩|exact ih 6 _ _ (by omega) ⟨by omega,nx,f2,f4,f5,f8,f29,rfl,b,v,_,rfl⟩|exact ih 7 _ _ (by omega) ⟨by omega,nx,f2,f4,f5,f8,f29,rfl,b,v,_,rfl⟩|exact ih 8 _ _ (by omega) ⟨by omega,nx,f2,f4,f5,f8,f29,rfl,b,v,_,rfl⟩|exact ih 9 _ _ (by omega) ⟨by omega,nx,f2,f4,f5,f8,f29,rfl,b,v,_,rfl⟩
   ·obtain⟨rfl,rfl⟩:=bad i h9 hq
    clear ih good dvq bad nxt
    by_cases hs:isSmall d.v=true
    ·have s2:small d.v=X i/gN X 9:=by unfold small;rw[if_pos hs,dq]
     rw[hs,s2] at sm
     have hb : -9223372036854775808≤X i/gN X 9∧X i/gN X 9≤9223372036854775807:=by rw[←dq];exact of_decide_eq_true hs
     have wo:=zm0 hb.1 hb.2 hq s9
     generalize X i/(gN X 9:Int)=q at *
     generalize hW:IntKind.i64.wrap (q*fN X 9)=w at *
     rcases zdQ (w < -1073741824) with t1|t1
     ·obtain rfl|rfl|rfl|rfl|rfl|rfl|rfl|rfl|rfl:=zfv h9 <;>
      simp(disch:=omega)only[go_sem,seval,wqq,f2,f4,f5,f8,f29,f30,mW,zau,dv,sm,hW,t1,pI0,mG,mG0,sG,sG0,lG,lqq]
     ·have t2:(w>1073741824)=True:=eq_true (by have:=of_eq_false t1;omega)
      obtain rfl|rfl|rfl|rfl|rfl|rfl|rfl|rfl|rfl:=zfv h9 <;>
      simp(disch:=omega)only[go_sem,seval,wqq,f2,f4,f5,f8,f29,f30,mW,zau,dv,sm,hW,t1,t2,pI0,mG,mG0,sG,sG0,lG,lqq]
    ·have hs:isSmall d.v=false:=by simpa using hs
     have s2:small d.v=0:=by unfold small;rw[hs];rfl
     rw[hs,s2] at sm
     obtain rfl|rfl|rfl|rfl|rfl|rfl|rfl|rfl|rfl:=zfv h9 <;>
     simp(disch:=omega)only[go_sem,seval,wqq,f2,f4,f5,f8,f29,f30,mW,zau,dv,sm,pI0,mG,mG0,sG,sG0,lG,lqq]
  ·obtain rfl:i=9:=by omega
   obtain⟨rfl,rfl⟩:=good hlo
   simp(disch:=omega)only[go_sem,seval,wqq,f2,f4,f5,f8,f29,f30,cQ9,mG,mG0,sG,sG0,lG,lqq]
end Go.Eng
namespace Go.Eng
end Go.Eng
namespace Go.Eng
noncomputable def cN (z:Nat→Int):List PV:=[.b (decide (z 0<0)),T (z 0).natAbs,.b (decide (z 1<0)),T (z 1).natAbs,.b (decide (z 2<0)),T (z 2).natAbs,.b (decide (z 3<0)),T (z 3).natAbs,.b (decide (z 4<0)),T (z 4).natAbs,.b (decide (z 5<0)),T (z 5).natAbs,.b (decide (z 6<0)),T (z 6).natAbs,.b (decide (z 7<0)),T (z 7).natAbs,.b (decide (z 8<0)),T (z 8).natAbs]
noncomputable def nM (z:Nat→Int):PV:=.ag (cN z)
theorem zch (z:Nat→Int):cN z=[.b (decide (z 0<0)),T (z 0).natAbs,.b (decide (z 1<0)),T (z 1).natAbs,.b (decide (z 2<0)),T (z 2).natAbs,.b (decide (z 3<0)),T (z 3).natAbs,.b (decide (z 4<0)),T (z 4).natAbs,.b (decide (z 5<0)),T (z 5).natAbs,.b (decide (z 6<0)),T (z 6).natAbs,.b (decide (z 7<0)),T (z 7).natAbs,.b (decide (z 8<0)),T (z 8).natAbs]:=_root_.id rfl
noncomputable def cT (s:Nat→Bool) (z:Nat→Int):List PV:=[if s 0 then .b (decide (z 0<0)) else .b false,if s 0 then T (z 0).natAbs else .nl,if s 1 then .b (decide (z 1<0)) else .b false,if s 1 then T (z 1).natAbs else .nl,if s 2 then .b (decide (z 2<0)) else .b false,if s 2 then T (z 2).natAbs else .nl,if s 3 then .b (decide (z 3<0)) else .b false,if s 3 then T (z 3).natAbs else .nl,if s 4 then .b (decide (z 4<0)) else .b false,if s 4 then T (z 4).natAbs else .nl,if s 5 then .b (decide (z 5<0)) else .b false,if s 5 then T (z 5).natAbs else .nl,if s 6 then .b (decide (z 6<0)) else .b false,if s 6 then T (z 6).natAbs else .nl,if s 7 then .b (decide (z 7<0)) else .b false,if s 7 then T (z 7).natAbs else .nl,if s 8 then .b (decide (z 8<0)) else .b false,if s 8 then T (z 8).natAbs else .nl]
theorem zc5 (s:Nat→Bool) (z:Nat→Int):cT s z=[if s 0 then .b (decide (z 0<0)) else .b false,if s 0 then T (z 0).natAbs else .nl,if s 1 then .b (decide (z 1<0)) else .b false,if s 1 then T (z 1).natAbs else .nl,if s 2 then .b (decide (z 2<0)) else .b false,if s 2 then T (z 2).natAbs else .nl,if s 3 then .b (decide (z 3<0)) else .b false,if s 3 then T (z 3).natAbs else .nl,if s 4 then .b (decide (z 4<0)) else .b false,if s 4 then T (z 4).natAbs else .nl,if s 5 then .b (decide (z 5<0)) else .b false,if s 5 then T (z 5).natAbs else .nl,if s 6 then .b (decide (z 6<0)) else .b false,if s 6 then T (z 6).natAbs else .nl,if s 7 then .b (decide (z 7<0)) else .b false,if s 7 then T (z 7).natAbs else .nl,if s 8 then .b (decide (z 8<0)) else .b false,if s 8 then T (z 8).natAbs else .nl]:=_root_.id rfl
def sB (n:Nat):Nat→Bool:=fun e=>decide (e<n)
@[go_sem] theorem zyI (M:PM) (d:Nat) (w:Nat→Int):fz M (d+1+1) (nM w)=some (nM w,[]):=_root_.id rfl
@[go_sem] theorem zsE (w:Nat→Int):(nM w).cells=cN w:=_root_.id rfl
@[go_sem] theorem ztX (w:Nat→Int):PV.ag (cN w)=nM w:=_root_.id rfl
@[go_sem] theorem zy5 (w:Nat→Int):(cN w).all PV.scal=true:=_root_.id rfl
@[go_sem] theorem zyR (w:Nat→Int):(cN w).length=18:=_root_.id rfl
@[go_sem] theorem zzg (w:Nat→Int):(cN w).take 18=cN w:=_root_.id rfl
@[go_sem] theorem zyV (s:Nat→Bool) (w:Nat→Int):(cT s w).length=18:=_root_.id rfl
@[go_sem] theorem zzb (s:Nat→Bool) (w u:Nat→Int):psplice (cT s w) 0 (cN u)=cN u:=_root_.id rfl
theorem cT9 (z:Nat→Int):cT (sB 9) z=cN z:=rfl
set_option maxHeartbeats 2000000 in
theorem zrJ {p:Nat→Int} (hp:∀e,Fits64 (p e)):pf E0 357 [pI p]=some (nM p):=by
 refine zaa (xf:=zBj) rfl (by simp[zBj]) ?_
 simp only[zBj]
 simp(disch:=omega)only[go_sem,seval,wqq]
 refine zan zCU.eq_1 (fun(i:Nat) fr M=>i≤9∧fr 1=.p 0 0∧fr 2=.p 1 0∧fr 3=.p 2 0∧fr 4=(PV.i .i64 ((i:Nat):Int))∧∃b v,M=[some ⟨cI p,true,0⟩,some ⟨cT (sB 0) p,true,b⟩,some ⟨cT (sB i) p,true,v⟩]) (fun i=>9-i) ?_ 0 ⟨by omega,rfl,rfl,rfl,rfl,_,_,rfl⟩
 rintro i fr M ⟨hi,f1,f2,f3,f4,b,v,rfl⟩ ih
 rcases Nat.lt_or_ge i 9 with h9|h9
 ·obtain rfl|rfl|rfl|rfl|rfl|rfl|rfl|rfl|rfl:=zfv h9
  ·have h0:=zbx (p 0) (hp 0)
   simp(disch:=omega)only[go_sem,seval,wqq,f1,f2,f3,f4,zak,zc5,h0]
   exact ih 1 _ _ (by omega) ⟨by omega,f1,f2,f3,rfl,_,_,rfl⟩
  ·have h0:=zbx (p 1) (hp 1)
   simp(disch:=omega)only[go_sem,seval,wqq,f1,f2,f3,f4,zak,zc5,h0]
   exact ih 2 _ _ (by omega) ⟨by omega,f1,f2,f3,rfl,_,_,rfl⟩
  ·have h0:=zbx (p 2) (hp 2)
   simp(disch:=omega)only[go_sem,seval,wqq,f1,f2,f3,f4,zak,zc5,h0]
   exact ih 3 _ _ (by omega) ⟨by omega,f1,f2,f3,rfl,_,_,rfl⟩
  ·have h0:=zbx (p 3) (hp 3)
   simp(disch:=omega)only[go_sem,seval,wqq,f1,f2,f3,f4,zak,zc5,h0]
   exact ih 4 _ _ (by omega) ⟨by omega,f1,f2,f3,rfl,_,_,rfl⟩
  ·have h0:=zbx (p 4) (hp 4)
   simp(disch:=omega)only[go_sem,seval,wqq,f1,f2,f3,f4,zak,zc5,h0]
   exact ih 5 _ _ (by omega) ⟨by omega,f1,f2,f3,rfl,_,_,rfl⟩
  ·have h0:=zbx (p 5) (hp 5)
   simp(disch:=omega)only[go_sem,seval,wqq,f1,f2,f3,f4,zak,zc5,h0]
   exact ih 6 _ _ (by omega) ⟨by omega,f1,f2,f3,rfl,_,_,rfl⟩
  ·have h0:=zbx (p 6) (hp 6)
   simp(disch:=omega)only[go_sem,seval,wqq,f1,f2,f3,f4,zak,zc5,h0]
   exact ih 7 _ _ (by omega) ⟨by omega,f1,f2,f3,rfl,_,_,rfl⟩
  ·have h0:=zbx (p 7) (hp 7)
   simp(disch:=omega)only[go_sem,seval,wqq,f1,f2,f3,f4,zak,zc5,h0]
   exact ih 8 _ _ (by omega) ⟨by omega,f1,f2,f3,rfl,_,_,rfl⟩
  ·have h0:=zbx (p 8) (hp 8)
   simp(disch:=omega)only[go_sem,seval,wqq,f1,f2,f3,f4,zak,zc5,h0]
   exact ih 9 _ _ (by omega) ⟨by omega,f1,f2,f3,rfl,_,_,rfl⟩
 ·obtain rfl:i=9:=by omega
  simp(disch:=omega)only[go_sem,seval,wqq,f1,f2,f3,f4,cT9]
def rtK (a b c d e:Int):Int:=a*(b*c)-a*(d*e)
def rdV (z:Nat→Int):Int:=0+rtK (z 0) (z 4) (z 8) (z 5) (z 7)+rtK (z 1) (z 5) (z 6) (z 3) (z 8)+rtK (z 2) (z 3) (z 7) (z 4) (z 6)
theorem zhd {a b c d e S:Int} (la:tlen a.natAbs≤9000) (lb:tlen b.natAbs≤9000) (lc:tlen c.natAbs≤9000) (ld:tlen d.natAbs≤9000) (le:tlen e.natAbs≤9000) (lS:tlen S.natAbs≤60000) :
  pf E0 118 [nP b,nP c]=some (nP (b*c))∧pf E0 118 [nP a,nP (b*c)]=some (nP (a*(b*c)))∧pf E0 118 [nP d,nP e]=some (nP (d*e))∧pf E0 118 [nP a,nP (d*e)]=some (nP (a*(d*e))) ∧
  pf E0 121 [nP (a*(b*c)),nP (a*(d*e))]=some (nP (rtK a b c d e))∧pf E0 119 [nP S,nP (rtK a b c d e)]=some (nP (S+rtK a b c d e))∧tlen (S+rtK a b c d e).natAbs≤max (tlen S.natAbs) 27001+1:=by
 have h1:=zar b c
 have h2:=zar a (b*c)
 have h3:=zar d e
 have h4:=zar a (d*e)
 have h5:=zln (a*(b*c)) (a*(d*e))
 have h6:=zb1 S (rtK a b c d e)
 have h5:tlen (rtK a b c d e).natAbs≤max (tlen (a*(b*c)).natAbs) (tlen (a*(d*e)).natAbs)+1:=h5
 exact⟨zbd _ _ (by omega) (by omega),zbd _ _ (by omega) (by omega),zbd _ _ (by omega) (by omega),zbd _ _ (by omega) (by omega),znI _ _ (by omega) (by omega),zes _ _ (by omega) (by omega),by omega⟩
set_option maxHeartbeats 2000000 in
theorem zrL {z:Nat→Int} (hz:∀e,tlen (z e).natAbs≤9000):pf E0 358 [nM z]=some (nP (rdV z)):=by
 have o0:=zbx 0 (by decide)
 have n0:PV.ag [.b false,Tw (tlen 0) 0]=nP 0:=rfl
 obtain⟨a1,a2,a3,a4,a5,a6,a7⟩:=zhd (a:=z 0) (b:=z 4) (c:=z 8) (d:=z 5) (e:=z 7) (S:=0) (hz _) (hz _) (hz _) (hz _) (hz _) (by rw[Int.natAbs_zero,zaH];decide)
 obtain⟨b1,b2,b3,b4,b5,b6,b7⟩:=zhd (a:=z 1) (b:=z 5) (c:=z 6) (d:=z 3) (e:=z 8) (S:=0+rtK (z 0) (z 4) (z 8) (z 5) (z 7)) (hz _) (hz _) (hz _) (hz _) (hz _) (by rw[Int.natAbs_zero,zaH] at a7;omega)
 obtain⟨c1,c2,c3,c4,c5,c6,c7⟩:=zhd (a:=z 2) (b:=z 3) (c:=z 7) (d:=z 4) (e:=z 6) (S:=0+rtK (z 0) (z 4) (z 8) (z 5) (z 7)+rtK (z 1) (z 5) (z 6) (z 3) (z 8)) (hz _) (hz _) (hz _) (hz _) (hz _) (by rw[Int.natAbs_zero,zaH] at a7;omega)
 unfold rdV
 clear a7 b7 c7
 refine zaa (xf:=zCv) rfl (by simp[zCv]) ?_
 simp only[zCv]
 simp(disch:=omega)only[go_sem,seval,wqq,o0]
 refine zal zBo.eq_1 ?_
 simp(disch:=omega)only[go_sem,seval,wqq]
 refine zat [14] rfl ?_ ?_
 ·simp(disch:=omega)only[go_sem,seval,wqq,zch,a1,a2,a3,a4,a5,a6]
  exact⟨_,rfl,rfl⟩
 simp(disch:=omega)only[go_sem,seval,wqq,zch,a1,a2,a3,a4,a5,a6]
 refine zat [32] rfl ?_ ?_
 ·simp(disch:=omega)only[go_sem,seval,wqq,zch,a1,a2,a3,a4,a5,a6]
  exact⟨_,rfl,rfl⟩
 simp(disch:=omega)only[go_sem,seval,wqq,zch,a1,a2,a3,a4,a5,a6]
 refine zaw [3] rfl (rfl) ?_
 simp(disch:=omega)only[go_sem,seval,wqq,n0,a1,a2,a3,a4,a5,a6]
 refine zal zBo.eq_1 ?_
 simp(disch:=omega)only[go_sem,seval,wqq]
 refine zat [14] rfl ?_ ?_
 ·simp(disch:=omega)only[go_sem,seval,wqq,zch,b1,b2,b3,b4,b5,b6]
  exact⟨_,rfl,rfl⟩
 simp(disch:=omega)only[go_sem,seval,wqq,zch,b1,b2,b3,b4,b5,b6]
 refine zat [32] rfl ?_ ?_
 ·simp(disch:=omega)only[go_sem,seval,wqq,zch,b1,b2,b3,b4,b5,b6]
  exact⟨_,rfl,rfl⟩
 simp(disch:=omega)only[go_sem,seval,wqq,zch,b1,b2,b3,b4,b5,b6]
 refine zaw [3] rfl (rfl) ?_
 simp(disch:=omega)only[go_sem,seval,wqq,n0,b1,b2,b3,b4,b5,b6]
 refine zal zBo.eq_1 ?_
 simp(disch:=omega)only[go_sem,seval,wqq]
 refine zat [14] rfl ?_ ?_
 ·simp(disch:=omega)only[go_sem,seval,wqq,zch,c1,c2,c3,c4,c5,c6]
  exact⟨_,rfl,rfl⟩
 simp(disch:=omega)only[go_sem,seval,wqq,zch,c1,c2,c3,c4,c5,c6]
 refine zat [32] rfl ?_ ?_
 ·simp(disch:=omega)only[go_sem,seval,wqq,zch,c1,c2,c3,c4,c5,c6]
  exact⟨_,rfl,rfl⟩
 simp(disch:=omega)only[go_sem,seval,wqq,zch,c1,c2,c3,c4,c5,c6]
 refine zaw [3] rfl (rfl) ?_
 simp(disch:=omega)only[go_sem,seval,wqq,n0,c1,c2,c3,c4,c5,c6]
 refine zal zBo.eq_1 ?_
 simp(disch:=omega)only[go_sem,seval,wqq]
end Go.Eng
namespace Go.Eng
end Go.Eng
namespace Go.Eng
noncomputable def pS (a b:Nat→WI) (i k:Nat):Nat→WI
 | 0=>wi0
 | j+1=>aW (pS a b i k j) (tW (a (3*i+j)) (b (3*j+k)))
noncomputable def prW (a b:Nat→WI):Nat→WI:=fun e=>pS a b (e/3) (e%3) 3
set_option maxHeartbeats 4000000 in
theorem zrI (a b:Nat→WI):pf E0 316 [mW a,mW b]=some (mW (prW a b)):=by
 refine zaa (xf:=zAK) rfl (by simp[zAK]) ?_
 simp only[zAK]
 simp(disch:=omega)only[go_sem,seval,wqq]
 refine zan zCE.eq_1 (fun(i:Nat) fr M=>i≤3∧fr 2=.p 0 0∧fr 3=.p 1 0∧fr 4=.p 2 0∧fr 5=.p 3 0∧fr 9=(PV.i .i64 ((i:Nat):Int))∧∃c v,M=[some ⟨cW a,true,0⟩,some ⟨cW b,true,0⟩,some ⟨cP 0 zW,true,c⟩,some ⟨cS (sB (3*i)) (prW a b),true,v⟩]) (fun i=>3-i) ?_ 0 ⟨by omega,rfl,rfl,rfl,rfl,rfl,_,_,rfl⟩
 rintro i fr M ⟨hi,f2,f3,f4,f5,f9,c,v,rfl⟩ ih
 rcases Nat.lt_or_ge i 3 with h3|h3
 ·have q1:((i:Int)<3)=True:=eq_true (by omega)
  simp(disch:=omega)only[go_sem,seval,wqq,f2,f3,f4,f5,f9,q1]
  refine zan zCG.eq_1 (fun(k:Nat) fr M=>k≤3∧fr 2=.p 0 0∧fr 3=.p 1 0∧fr 4=.p 2 0∧fr 5=.p 3 0∧fr 9=(PV.i .i64 ((i:Nat):Int))∧fr 6=(PV.i .i64 ((i:Nat):Int))∧fr 12=(PV.i .i64 ((k:Nat):Int))∧∃c v,M=[some ⟨cW a,true,0⟩,some ⟨cW b,true,0⟩,some ⟨cP 0 zW,true,c⟩,some ⟨cS (sB (3*i+k)) (prW a b),true,v⟩]) (fun k=>3-k) ?_ 0 ⟨by omega,f2,f3,f4,f5,f9,rfl,rfl,_,_,rfl⟩
  rintro k fr M ⟨hk,f2,f3,f4,f5,f9,f6,f12,c,v,rfl⟩ ih2
  rcases Nat.lt_or_ge k 3 with h4|h4
  ·have q2:((k:Int)<3)=True:=eq_true (by omega)
   have t1:=zaF (a (3*i)) (b k)
   have t2:=zaF (a (3*i+1)) (b (3+k))
   have t3:=zaF (a (3*i+2)) (b (6+k))
   have s1:=zer wi0 (tW (a (3*i)) (b k))
   have s2:=zer (aW wi0 (tW (a (3*i)) (b k))) (tW (a (3*i+1)) (b (3+k)))
   have s3:=zer (aW (aW wi0 (tW (a (3*i)) (b k))) (tW (a (3*i+1)) (b (3+k)))) (tW (a (3*i+2)) (b (6+k)))
   obtain rfl|rfl|rfl:=zi1 h3<;>obtain rfl|rfl|rfl:=zi1 h4
   all_goals
    simp only[seval] at t1 t2 t3 s1 s2 s3
    simp(disch:=omega)only[go_sem,seval,wqq,f2,f3,f4,f5,f9,f6,f12]
    refine zal zAs.eq_1 ?_
    simp(disch:=omega)only[go_sem,seval,wqq,f2,f3,f4,f5,f9,f6,f12]
    refine zat [26] rfl ?_ ?_
    ·simp(disch:=omega)only[go_sem,seval,wqq,f2,f3,f4,f5,f9,f6,f12,zau,zeK,sB,t1,s1]
     exact⟨_,rfl,rfl⟩
    simp(disch:=omega)only[go_sem,seval,wqq,f2,f3,f4,f5,f9,f6,f12,zau,zeK,sB,t1,s1]
    refine zal zAs.eq_1 ?_
    simp(disch:=omega)only[go_sem,seval,wqq,f2,f3,f4,f5,f9,f6,f12]
    refine zat [26] rfl ?_ ?_
    ·simp(disch:=omega)only[go_sem,seval,wqq,f2,f3,f4,f5,f9,f6,f12,zau,zeK,sB,t2,s2]
     exact⟨_,rfl,rfl⟩
    simp(disch:=omega)only[go_sem,seval,wqq,f2,f3,f4,f5,f9,f6,f12,zau,zeK,sB,t2,s2]
    refine zal zAs.eq_1 ?_
    simp(disch:=omega)only[go_sem,seval,wqq,f2,f3,f4,f5,f9,f6,f12]
    refine zat [26] rfl ?_ ?_
    ·simp(disch:=omega)only[go_sem,seval,wqq,f2,f3,f4,f5,f9,f6,f12,zau,zeK,sB,t3,s3]
     exact⟨_,rfl,rfl⟩
    simp(disch:=omega)only[go_sem,seval,wqq,f2,f3,f4,f5,f9,f6,f12,zau,zeK,sB,t3,s3]
    refine zal zAs.eq_1 ?_
    simp(disch:=omega)only[go_sem,seval,wqq,f2,f3,f4,f5,f9,f6,f12]
    first|exact ih2 1 _ _ (by omega) ⟨by omega,f2,f3,f4,f5,f9,f6,rfl,_,_,rfl⟩|exact ih2 2 _ _ (by omega) ⟨by omega,f2,f3,f4,f5,f9,f6,rfl,_,_,rfl⟩|exact ih2 3 _ _ (by omega) ⟨by omega,f2,f3,f4,f5,f9,f6,rfl,_,_,rfl⟩
  ·obtain rfl:k=3:=by omega
   simp(disch:=omega)only[go_sem,seval,wqq,f2,f3,f4,f5,f9,f6,f12]
   exact ih (i+1) _ _ (by omega) ⟨by omega,f2,f3,f4,f5,tS _,c,v,rfl⟩
 ·obtain rfl:i=3:=by omega
  have c9:cS (sB (3*3)) (prW a b)=cW (prW a b):=rfl
  simp(disch:=omega)only[go_sem,seval,wqq,f2,f3,f4,f5,f9,c9]
end Go.Eng
namespace Go.Eng
def rpK (a b c d e f:Int):Int:=0+a*b+c*d+e*f
def rprV (z u:Nat→Int):Nat→Int:=fun e=>rpK (z (3*(e/3))) (u (e%3)) (z (3*(e/3)+1)) (u (3+e%3)) (z (3*(e/3)+2)) (u (6+e%3))
end Go.Eng

namespace Go.Eng
theorem zcC (a b:Int):wlen (a*b).natAbs≤wlen a.natAbs+wlen b.natAbs:=by
 rw[Int.natAbs_mul]
 refine zaX.2 ?_
 rw[Nat.pow_add]
 exact Nat.mul_lt_mul'' (zaf _) (zaf _)
theorem zmY (a b:Nat):wlen (a+b)≤max (wlen a) (wlen b)+1:=by
 refine zaX.2 ?_
 have h1:4294967296^wlen a≤4294967296^max (wlen a) (wlen b):=Nat.pow_le_pow_right (by decide) (Nat.le_max_left _ _)
 have h2:4294967296^wlen b≤4294967296^max (wlen a) (wlen b):=Nat.pow_le_pow_right (by decide) (Nat.le_max_right _ _)
 have h3:=zaf a
 have h4:=zaf b
 rw[Nat.pow_succ]
 generalize 4294967296^max (wlen a) (wlen b)=t at *
 omega
theorem zcB (a b:Int):wlen (a+b).natAbs≤max (wlen a.natAbs) (wlen b.natAbs)+1 :=
 Nat.le_trans (zbA (Int.natAbs_add_le a b)) (zmY _ _)
theorem zgs (a b:Int):wlen (a-b).natAbs≤max (wlen a.natAbs) (wlen b.natAbs)+1:=by
 have:=zcB a (-b)
 rw[Int.natAbs_neg] at this
 rw[Int.sub_eq_add_neg];exact this
theorem zmL {a b:WI} {n m:Nat} (ha:wlen a.v.natAbs≤n) (hb:wlen b.v.natAbs≤m) (h:n+m≤512):(tW a b).v=a.v*b.v∧wlen (a.v*b.v).natAbs≤n+m:=by
 have:=zcC a.v b.v
 exact⟨zaW (by omega),by omega⟩
theorem zqb {a b:WI} {n m:Nat} (ha:wlen a.v.natAbs≤n) (hb:wlen b.v.natAbs≤m) (h:max n m+1≤512):(aW a b).v=a.v+b.v∧wlen (a.v+b.v).natAbs≤max n m+1:=by
 have:=zcB a.v b.v
 exact⟨zaW (by omega),by omega⟩
theorem zy3 {a b:WI} {n m:Nat} (ha:wlen a.v.natAbs≤n) (hb:wlen b.v.natAbs≤m) (h:max n m+1≤512):(sW a b).v=a.v-b.v∧wlen (a.v-b.v).natAbs≤max n m+1:=by
 have:=zgs a.v b.v
 exact⟨zaW (by omega),by omega⟩
def mnV (X:Nat→Int) (i k:Nat):Int:=X (3*((i+1)%3)+(k+1)%3)*X (3*((i+2)%3)+(k+2)%3)-X (3*((i+1)%3)+(k+2)%3)*X (3*((i+2)%3)+(k+1)%3)
theorem zq3 {x:Nat→WI} {n:Nat} (hx:∀e,wlen (x e).v.natAbs≤n) (hn:n≤100) (i k:Nat):(mnW x i k).v=mnV (fun e=>(x e).v) i k∧wlen (mnW x i k).v.natAbs≤2*n+1:=by
 unfold mnW mnV
 obtain⟨a1,a2⟩:=zmL (hx (3*((i+1)%3)+(k+1)%3)) (hx (3*((i+2)%3)+(k+2)%3)) (by omega)
 obtain⟨b1,b2⟩:=zmL (hx (3*((i+1)%3)+(k+2)%3)) (hx (3*((i+2)%3)+(k+1)%3)) (by omega)
 rw[←a1] at a2
 rw[←b1] at b2
 obtain⟨c1,c2⟩:=zy3 a2 b2 (by omega)
 rw[a1,b1] at c1
 exact⟨c1,by rw[←a1,←b1] at c1;rw[c1];omega⟩
theorem ztM {x:Nat→WI} {n:Nat} (hx:∀e,wlen (x e).v.natAbs≤n) (hn:n≤100):(dtW x).v=rdV (fun e=>(x e).v):=by
 obtain⟨a1,a2⟩:=zq3 hx hn 0 0
 obtain⟨b1,b2⟩:=zq3 hx hn 0 1
 obtain⟨c1,c2⟩:=zq3 hx hn 0 2
 obtain⟨t1,u1⟩:=zmL (hx 0) a2 (by omega)
 obtain⟨t2,u2⟩:=zmL (hx 1) b2 (by omega)
 obtain⟨t3,u3⟩:=zmL (hx 2) c2 (by omega)
 rw[←t1] at u1
 rw[←t2] at u2
 rw[←t3] at u3
 obtain⟨s1,v1⟩:=zqb u1 u2 (by omega)
 rw[←s1] at v1
 obtain⟨s2,v2⟩:=zqb v1 u3 (by omega)
 have e:(dtW x).v=(aW (aW (tW (x 0) (mnW x 0 0)) (tW (x 1) (mnW x 0 1))) (tW (x 2) (mnW x 0 2))).v:=rfl
 rw[e,s2,s1,t1,t2,t3,a1,b1,c1]
 unfold rdV rtK mnV
 simp only[Nat.reduceAdd,Nat.reduceMul,Nat.reduceMod]
 generalize (x 0).v=y0
 generalize (x 1).v=y1
 generalize (x 2).v=y2
 generalize (x 3).v=y3
 generalize (x 4).v=y4
 generalize (x 5).v=y5
 generalize (x 6).v=y6
 generalize (x 7).v=y7
 generalize (x 8).v=y8
 grind
theorem zy1 {x y:Nat→WI} {n:Nat} (hx:∀e,wlen (x e).v.natAbs≤n) (hy:∀e,wlen (y e).v.natAbs≤n) (hn:n≤100) (e:Nat):(prW x y e).v=rprV (fun e=>(x e).v) (fun e=>(y e).v) e:=by
 have e0:prW x y e=aW (aW (aW wi0 (tW (x (3*(e/3)+0)) (y (3*0+e%3)))) (tW (x (3*(e/3)+1)) (y (3*1+e%3)))) (tW (x (3*(e/3)+2)) (y (3*2+e%3))):=rfl
 obtain⟨t1,u1⟩:=zmL (hx (3*(e/3)+0)) (hy (3*0+e%3)) (by omega)
 obtain⟨t2,u2⟩:=zmL (hx (3*(e/3)+1)) (hy (3*1+e%3)) (by omega)
 obtain⟨t3,u3⟩:=zmL (hx (3*(e/3)+2)) (hy (3*2+e%3)) (by omega)
 rw[←t1] at u1
 rw[←t2] at u2
 rw[←t3] at u3
 have z0:wlen wi0.v.natAbs≤0:=Nat.le_of_eq rfl
 obtain⟨s1,v1⟩:=zqb z0 u1 (by omega)
 rw[←s1] at v1
 obtain⟨s2,v2⟩:=zqb v1 u2 (by omega)
 rw[←s2] at v2
 obtain⟨s3,_⟩:=zqb v2 u3 (by omega)
 rw[e0,s3,s2,s1,t1,t2,t3]
 unfold rprV rpK
 simp only[Nat.add_zero,Nat.mul_zero,Nat.mul_one,Nat.zero_add]
 rfl
end Go.Eng
namespace Go.Eng
def mE:Nat→Int:=fun e=>monoI.getD e 0
def exN (i j:Nat):Nat:=(mE (i*3+j)).toNat
def pw3 (X:Nat→Int) (i:Nat):Nat→Int
 | 0=>1
 | j+1=>pw3 X i j*X j^exN i j
def sumT (f:Nat→Int):Nat→Int
 | 0=>0
 | n+1=>sumT f n+f n
noncomputable def wc (t:WI):List PV:=[.b (decide (t.v<0)),D t.v.natAbs]
structure WZ (L:List PV) (s:WI):Prop where
 len:L.length=2
 sc:L.all PV.scal=true
 fz:∀(M:PM) (d:Nat),fzL (fz M (d+1)) L=some (wc s,[])
end Go.Eng
namespace Go.Eng
def cg (n:Nat) (f:Nat→List PV):List PV:=(List.range n).flatMap f
theorem zjb (n:Nat) (f:Nat→List PV):cg (n+1) f=cg n f++f n:=by
 unfold cg
 rw[List.range_succ,List.flatMap_append];simp
theorem zja {k:Nat} {f:Nat→List PV} (hf:∀e,(f e).length=k) (n:Nat):(cg n f).length=n*k:=by
 induction n with
 | zero=>simp[cg]
 | succ n ih=>rw[zjb,List.length_append,ih,hf,Nat.succ_mul]
theorem zm5 {k:Nat} {f:Nat→List PV} (hf:∀e,(f e).length=k) {n i:Nat} (h:i<n):((cg n f).drop (i*k)).take k=f i:=by
 induction n with
 | zero=>omega
 | succ n ih =>
  have hl:=zja hf n
  rw[zjb]
  rcases Nat.lt_or_ge i n with q|q
  ·have:(i+1)*k≤n*k:=Nat.mul_le_mul_right _ q
   rw[Nat.succ_mul] at this
   rw[List.drop_append_of_le_length (by omega),List.take_append_of_le_length (by rw[List.length_drop];omega),ih q]
  ·obtain rfl:i=n:=by omega
   rw[List.drop_append,List.drop_eq_nil_of_le (by omega),hl,Nat.sub_self,List.drop_zero,List.nil_append,List.take_of_length_le (by rw[hf];exact Nat.le_refl _)]
end Go.Eng
namespace Go.Eng
def facT:List (List Int):=[[],[0],[1],[2],[0,0],[0,1],[0,2],[1,1],[1,2],[2,2],[0,0,0],[0,0,1],[0,0,2],[0,1,1],[0,1,2],[0,2,2],[1,1,1],[1,1,2],[1,2,2],[2,2,2]]
def facL (i:Nat):List Int:=facT.getD i []
def prL (X:Nat→Int):List Int→Int
 | []=>1
 | a::l=>X a.toNat*prL X l
end Go.Eng
namespace Go.Eng
theorem zgS {f:FQ} {n d n' d':Int} (hd:d≠0) (h:f.is n d) (e:n*d'=n'*d):f.is n' d':=by
 unfold FQ.is at *
 apply Int.eq_of_mul_eq_mul_right hd
 calc f.p.v*d'*d=f.p.v*d*d':=by grind
  _=n*f.q.v*d':=by rw[h]
  _=n*d'*f.q.v:=by grind
  _=n'*d*f.q.v:=by rw[e]
  _=n'*f.q.v*d:=by grind
end Go.Eng
namespace Go.Eng
theorem zhV {n m:Int} (hn:Fits64 n) (hm:Fits64 m) (h1:1≤m):pf E0 6 [.i .i64 n,.i .i64 m]=some (.i .i64 (aro n m)):=by
 refine zaa (xf:=zBs) rfl (by simp[zBs]) ?_
 simp only[zBs]
 unfold Fits64 at hn hm
 have a0:=zds n h1
 have a1:=zi5 n h1
 have q1:(m=0)=False:=by simp;omega
 by_cases h:n<0
 ·have e:(0-(n+1)).tmod m=aro n m:=by
   unfold aro
   rw[if_pos h,Int.tmod_eq_emod_of_nonneg (by omega)]
   congr 1;omega
  simp(disch:=omega)only[go_sem,seval,wqq,h,q1,e]
 ·have e:n.tmod m=aro n m:=by
   unfold aro
   rw[if_neg h,Int.tmod_eq_emod_of_nonneg (by omega)]
  simp(disch:=omega)only[go_sem,seval,wqq,h,q1,e]
theorem znD {xs:List Int} (hx:Ints xs) {i m:Int} (hi:Fits64 i) (hm:Fits64 m) (h1:1≤m):pf E0 13 [ints xs,.i .i64 i,.i .i64 m]=some (.i .i64 (pick xs i m)):=by
 refine zaa (xf:=zCn) rfl (by simp[zCn]) ?_
 simp only[zCn]
 obtain⟨hx1,hx2⟩:=hx
 unfold pick
 by_cases h:i<0
 ·rw[if_pos (.inl h)]
  simp(disch:=omega)only[go_sem,seval,wqq,h]
 ·by_cases h':(xs.length:Int)≤i
  ·rw[if_pos (.inr h')]
   have q1:(i≥(xs.length:Int))=True:=by simp;omega
   simp(disch:=omega)only[go_sem,seval,wqq,h,q1]
  ·rw[if_neg (by omega)]
   have q1:(i≥(xs.length:Int))=False:=by simp;omega
   obtain⟨j,rfl⟩:∃j:Nat,i=j:=⟨i.toNat,by omega⟩
   have hj:j<xs.length:=by omega
   have hg:xs[j]?=some (xs.getD j 0):=by simp[hj]
   have ha:=zhV (n:=xs.getD j 0) (m:=m) (hx2 _ (by simp[hj])) hm h1
   simp(disch:=omega)only[go_sem,seval,wqq,h,q1,zdd hg,Int.toNat_natCast,ha]
end Go.Eng
namespace Go.Eng
end Go.Eng
namespace Go.Eng
theorem zhq {f g h:FQ} {n d m e:Int} (hf:f.is n d) (hg:g.is m e) (hm:g.p.v≠0) (hh:h.is (f.p.v*g.q.v) (f.q.v*g.p.v)):h.is (n*e) (d*m):=by
 have qf:=f.q1
 have qg:=g.q1
 unfold FQ.is at *
 apply Int.eq_of_mul_eq_mul_right (a:=f.q.v*g.q.v*g.p.v) (Int.mul_ne_zero (Int.mul_ne_zero (by omega) (by omega)) hm)
 calc h.p.v*(d*m)*(f.q.v*g.q.v*g.p.v)=h.p.v*(f.q.v*g.p.v)*(d*(m*g.q.v)):=by grind
  _=f.p.v*g.q.v*h.q.v*(d*(g.p.v*e)):=by rw[hh,hg]
  _=f.p.v*d*(g.q.v*h.q.v*(g.p.v*e)):=by grind
  _=n*f.q.v*(g.q.v*h.q.v*(g.p.v*e)):=by rw[hf]
  _=n*e*h.q.v*(f.q.v*g.q.v*g.p.v):=by grind
def nbits (k:Nat):Nat:=if k=0 then 0 else Nat.log2 k+1
theorem zdv {k:Nat} (h:k≠0):nbits k=nbits (k/2)+1:=by
 unfold nbits
 rw[if_neg h]
 by_cases h2:2≤k
 ·rw[if_neg (by omega),Nat.log2_def k,if_pos h2]
 ·have:k=1:=by omega
  subst this;rfl
theorem zdg {k n:Nat} (h:k<2^n):nbits k≤n:=by
 unfold nbits
 split
 ·omega
 ·rename_i h0
  have:=(Nat.log2_lt h0).2 h
  omega
end Go.Eng
namespace Go.Eng
end Go.Eng
namespace Go.Eng
structure TerOk (X Y S:Int) (C R:Nat) (hs:List Int):Prop where
 c:2≤C∧C≤128
 r:2≤R∧R≤128
 s:1≤S∧S≤65536
 x : -1048576≤X∧X+(C-1)*S≤1048576
 y : -1048576≤Y∧Y+(R-1)*S≤1048576
 len:hs.length=C*R
 h:∀n∈hs,-16384≤n∧n≤16384
theorem TerOk.ints {X Y S:Int} {C R:Nat} {hs:List Int} (t:TerOk X Y S C R hs):Ints hs:=by
 refine⟨?_,fun n hn=>?_⟩
 ·have:C*R≤128*128:=Nat.mul_le_mul t.c.2 t.r.2
  rw[t.len];omega
 ·have:=t.h n hn
  unfold Fits64;omega
end Go.Eng
namespace Go.Eng
end Go.Eng
namespace Go.Eng
end Go.Eng
namespace Go.Eng
end Go.Eng
namespace Go.Eng
end Go.Eng
namespace Go.Eng
end Go.Eng
namespace Go.Eng
end Go.Eng
namespace Go.Eng
end Go.Eng
namespace Go.Eng
theorem zed (a b:Int):(0≤cmpI a b)=(b≤a):=by
 unfold cmpI
 simp only[eq_iff_iff]
 split
 ·omega
 ·split<;>omega
end Go.Eng
namespace Go.Eng
end Go.Eng
namespace Go.Eng
end Go.Eng
namespace Go.Eng
theorem zkd {k m:Nat} (h:2^m≤k):nbits k=nbits (k/2^m)+m:=by
 induction m with
 | zero=>simp
 | succ m ih =>
  have h1:2^m≤k:=Nat.le_trans (Nat.pow_le_pow_right (by decide) (Nat.le_succ m)) h
  have h2:k/2^m≠0:=by
   have:=Nat.div_pos h1 (Nat.pow_pos (by decide))
   omega
  have e:k/2^m/2=k/2^(m+1):=by rw[Nat.div_div_eq_div_mul,←Nat.pow_succ]
  have h3:=zdv h2
  rw[e] at h3
  have h4:=ih h1
  omega
theorem zkc:nbits 1=1:=by unfold nbits;rw[if_neg (by decide)];rfl
def pw (i:Nat):Nat:=2^(2^i)
theorem zgo (i:Nat):0<pw i:=Nat.pow_pos (by decide)
theorem zr5 (i:Nat):2≤pw i:=by
 unfold pw
 have:2^1≤2^(2^i):=Nat.pow_le_pow_right (by decide) (Nat.one_le_two_pow)
 omega
theorem zg6 (i:Nat):pw (i+1)=pw i*pw i:=by
 unfold pw
 rw[←Nat.pow_add,Nat.pow_succ]
 congr 1
 omega
theorem zk2:pw 0=2:=rfl
theorem ziK {x i:Nat} (h:pw i≤x):nbits x=nbits (x/pw i)+2^i:=zkd h
theorem zr3 {x i:Nat} (h:x<pw (i+1)):x/pw i<pw i:=by
 rw[zg6] at h
 exact Nat.div_lt_of_lt_mul h
theorem zpE {x i:Nat} (h:pw i≤x):1≤x/pw i:=Nat.div_pos h (zgo i)
end Go.Eng
namespace Go.Eng
theorem zmA (i:Nat):pw i<pw (i+1):=by
 rw[zg6]
 have:=zr5 i
 have h2:pw i*2≤pw i*pw i:=Nat.mul_le_mul_left _ this
 omega
theorem zhG {i:Nat} (h:inR (pw i)):i<14:=by
 rcases Nat.lt_or_ge i 14 with q|q
 ·exact q
 ·exfalso
  obtain⟨K,hK⟩:∃K,K=16384:=⟨_,rfl⟩
  obtain⟨a,ha⟩:∃a,a=14:=⟨_,rfl⟩
  rw[←ha] at q
  have h1:2^a≤2^i:=Nat.pow_le_pow_right (by decide) q
  have h2:2^(2^a)≤pw i:=Nat.pow_le_pow_right (by decide) h1
  have e:2^a=K:=by rw[hK,ha]
  rw[e] at h2
  unfold inR at h
  rw[←hK] at h
  omega
theorem zeP {a b:Nat} (h:a≤b) (hb:inR b):inR a:=Nat.lt_of_le_of_lt h hb
noncomputable def pwI (i:Nat):WI:=clip ((pw i:Nat):Int)
theorem ziV {i:Nat} (h:inR (pw i)):(pwI i).v=((pw i:Nat):Int):=(zej (z:=((pw i:Nat):Int)) (by rw[Int.natAbs_natCast];exact h)).1
noncomputable def pwL:Nat→List PV
 | 0=>[]
 | j+1=>pwL j++[.b (decide ((pwI j).v<0)),D (pwI j).v.natAbs]
theorem zfF:∀j,(pwL j).length=2*j
 | 0=>rfl
 | j+1=>by rw[pwL,List.length_append,zfF j];simp;omega
theorem znO:∀{j i:Nat},i<j→((pwL j).drop (i*2)).take 2=[.b (decide ((pwI i).v<0)),D (pwI i).v.natAbs]
 | 0,i,h=>by omega
 | j+1,i,h=>by
  have hl:=zfF j
  rw[pwL]
  by_cases hi:i<j
  ·rw[List.drop_append_of_le_length (by omega),List.take_append_of_le_length (by simp;omega)]
   exact znO hi
  ·obtain rfl:i=j:=by omega
   rw[List.drop_left' (show (pwL i).length=i*2 by omega)];rfl
theorem ztp (P:PM) (L:List PV) (w1 w2:PV) (r1 r2:Option PB) {j:Nat} (hl:L.length=2*j) (hj:j≤100) (h0:0<j):appP (P++[some ⟨L,true,0⟩,r1,r2,some ⟨[w1,w2],true,0⟩]) 2 32 (.sl P.length 0 j j 2) (.sl (P.length+3) 0 1 1 2) =
  some (.sl (P.length+4) 0 (j+1) (j+1) 2,P++[none,r1,r2,some ⟨[w1,w2],true,0⟩,some ⟨L++[w1,w2],true,0⟩]):=by
 have es:srcP (P++[some (⟨L,true,0⟩:PB),r1,r2,some (⟨[w1,w2],true,0⟩:PB)]) 2 (.sl (P.length+3) 0 1 1 2)=some (1,[w1,w2]):=by
  simp only[srcP,PM.rd,mG]
  rfl
 have e2:PM.blk (P++[some (⟨L,true,0⟩:PB),r1,r2,some (⟨[w1,w2],true,0⟩:PB)]) P.length=some (⟨L,true,0⟩:PB):=by rw[mG0];rfl
 unfold appP
 rw[es]
 simp only[e2]
 rw[if_neg (by simp),if_neg (by decide),if_pos ⟨trivial,by rw[hl];omega,by omega⟩,sG0]
 simp only[List.drop_zero,List.set_cons_zero,lqq,List.length_append,List.length_cons,List.length_nil]
 rw[List.take_of_length_le (by omega)]
theorem zpJ {i:Nat} (h:i<14):binP .shl (.i .i64 1) (.i .i64 (i:Int))=some (.i .i64 ((2^i:Nat):Int)):=by
 have h1:2^i≤2^13:=Nat.pow_le_pow_right (by decide) (by omega)
 rw[zgy _ _ _ _ (by omega),Int.toNat_natCast,show min i (IntKind.bits .i64)=i by simp only[IntKind.bits];omega,Int.one_mul]
 have e:(2:Int)^i=((2^i:Nat):Int):=by simp
 rw[e]
 generalize 2^i=t at *
 rw[wqa (by omega) (by omega)]
set_option maxHeartbeats 2000000 in
theorem znd {F:PFin} {ks:List KI} {K J:Nat} {x0:WI} (hR:inR K) (hx0:x0.v=(K:Int)) (hK:1≤K) (hlt:K<pw J) (hJ:J=0∨pw (J-1)≤K) {G R:PM} {fr:PFr} {v:Nat}
  (f1:fr 1=.p 0 0) (f3:fr 3=(PV.i .i64 ((0:Nat):Int))) (f6:fr 6=if J=0 then .nl else .sl (G.length+1) 0 J J 2) (f10:fr 10=.i .i64 ((J:Int)-1))
  (cont:∀fr' v' (y:WI),y.v=1→fr' 1=.p 0 0→fr' 3=.i .i64 ((nbits K:Int)-1)→UK E0 F (.exit 4) ks fr' (some ⟨[.b (decide (y.v<0)),D y.v.natAbs],true,v'⟩::(G++(some ⟨pwL J,true,0⟩::R)))) :
  WK E0 F (.loop zBO) ks fr (some ⟨[.b (decide (x0.v<0)),D x0.v.natAbs],true,v⟩::(G++(some ⟨pwL J,true,0⟩::R))):=by
 have hnb:nbits K≤16384:=by
  obtain⟨q,hq⟩:∃q,q=16384:=⟨_,rfl⟩
  unfold inR at hR
  rw[←hq] at hR ⊢
  exact zdg hR
 have hJ14:∀i,i<J→i<14∧inR (pw i):=fun i hi=>by
  have hm:∀d,pw i≤pw (i+d):=fun d=>by
   induction d with
   | zero=>exact Nat.le_refl _
   | succ d ih=>exact Nat.le_trans ih (Nat.le_of_lt (zmA _))
  have h1:=hm (J-1-i)
  rw[show i+(J-1-i)=J-1 by omega] at h1
  have h2:inR (pw i):=zeP (by omega) hR
  exact⟨zhG h2,h2⟩
 refine zan zBO.eq_1 (fun(i:Nat) fr M=>i≤J∧∃(y:WI) (Y n v:Nat),y.v=(Y:Int)∧1≤Y∧Y<pw i∧nbits K=nbits Y+n∧fr 1=.p 0 0∧fr 3=(PV.i .i64 ((n:Nat):Int))∧fr 6=(if J=0 then .nl else .sl (G.length+1) 0 J J 2)∧fr 10=.i .i64 ((i:Int)-1) ∧
  M=some ⟨[.b (decide (y.v<0)),D y.v.natAbs],true,v⟩::(G++(some ⟨pwL J,true,0⟩::R))) (fun i=>i) ?_ J ⟨Nat.le_refl _,x0,K,0,v,hx0,hK,hlt,rfl,f1,f3,f6,f10,rfl⟩
 rintro i fr M ⟨hi,y,Y,n,v,hy,hY,hYi,hn,f1,f3,f6,f10,rfl⟩ ih
 cases i with
 | zero =>
  have hY1:Y=1:=by rw[zk2] at hYi;omega
  subst hY1
  have f3':fr 3=.i .i64 ((nbits K:Int)-1):=by
   rw[f3,hn,zkc];congr 1;omega
  have q0:((((0:Nat):Int)-1)≥0)=False:=eq_false (by omega)
  simp(disch:=omega)only[go_sem,seval,wqq,f10,q0]
  exact cont _ v y hy (by simp only[go_sem,seval,f1]) (by simp only[go_sem,seval,f3'])
 | succ i =>
  obtain⟨i14,iR⟩:=hJ14 i (by omega)
  have hJ0:J≠0:=by omega
  rw[if_neg hJ0] at f6
  have f6':=f6
  have f10:fr 10=(PV.i .i64 ((i:Nat):Int)):=by rw[f10];congr 1;omega
  have q0:((i:Int)≥0)=True:=eq_true (by omega)
  have pv:=ziV iR
  have cm:=zaZ y (pwI i)
  rw[hy,pv] at cm
  have at_:=znO (j:=J) (i:=i) (by omega)
  have hl:=zfF J
  have hiJ:(i<J)=True:=eq_true (by omega)
  have h2i:(i*2+2≤2*J)=True:=eq_true (by omega)
  by_cases hc:pw i≤Y
  ·have c0:(cmpI ((Y:Nat):Int) ((pw i:Nat):Int)≥0)=True:=eq_true (by rw[ge_iff_le,zed];omega)
   simp(disch:=omega)only[go_sem,seval,wqq,f1,f3,f6,f10,q0,cm,c0,hiJ,h2i,hl,at_,mG,mG0,sG,sG0,lG,lqq]
   have dv:=zgZ y (pwI i) (by rw[pv];have:=zgo i;omega)
   have dvv:(y.div (pwI i) (by rw[pv];have:=zgo i;omega)).v=((Y/pw i:Nat):Int):=by
    show y.v/(pwI i).v=_
    rw[hy,pv];rfl
   generalize y.div (pwI i) (by rw[pv];have:=zgo i;omega)=y2 at *
   generalize y.mod (pwI i) (by rw[pv];have:=zgo i;omega)=y3 at *
   have sh:=zpJ i14
   have st:=ziK hc
   have p14:2^i≤2^14:=Nat.pow_le_pow_right (by decide) (by omega)
   have g1:=zr3 hYi
   have g0:=zpE hc
   have hs:(n:Int)+((2^i:Nat):Int)=((n+2^i:Nat):Int):=by push_cast;rfl
   generalize 2^i=t at *
   simp(disch:=omega)only[go_sem,seval,wqq,f1,f3,f6,f10,q0,cm,c0,hiJ,h2i,hl,at_,dv,sh,hs,mG,mG0,sG,sG0,lG,lqq]
   exact ih i _ _ (by omega) ⟨by omega,y2,Y/pw i,n+t,_,dvv,g0,g1,by omega,by simp only[go_sem,seval,f1],by simp only[go_sem,seval],by rw[if_neg hJ0];simp only[go_sem,seval,f6],by simp only[go_sem,seval,f10],rfl⟩
  ·have c0:(cmpI ((Y:Nat):Int) ((pw i:Nat):Int)≥0)=False:=eq_false (by rw[ge_iff_le,zed];omega)
   simp(disch:=omega)only[go_sem,seval,wqq,f1,f3,f6,f10,q0,cm,c0,hiJ,h2i,hl,at_,mG,mG0,sG,sG0,lG,lqq]
   exact ih i _ _ (by omega) ⟨by omega,y,Y,n,_,hy,hY,by omega,by omega,by simp only[go_sem,seval,f1],by simp only[go_sem,seval,f3],by rw[if_neg hJ0];simp only[go_sem,seval,f6],by simp only[go_sem,seval,f10],rfl⟩
end Go.Eng
namespace Go.Eng
theorem zpo (x:WI) (h:x.v.natAbs≤9223372036854775807):pf E0 63 [wiP x]=some (.i .i64 (nbits x.v.natAbs:Int)):=by
 have nb:nbits x.v.natAbs≤63:=zdg (by omega)
 have fin:∀(y:WI),y.v=(x.v.natAbs:Int)→pf E0 80 [wiP y]=some (.tu [.i .i64 (x.v.natAbs:Int),.b true]):=fun y hy=>by
  have sm:=zfy y
  have s1:isSmall (x.v.natAbs:Int)=true:=by unfold isSmall;exact decide_eq_true ⟨by omega,by omega⟩
  have s2:small (x.v.natAbs:Int)=(x.v.natAbs:Int):=by unfold small;rw[if_pos s1]
  rw[hy,s1,s2] at sm
  exact sm
 have sg:=za6 x
 refine zaa (xf:=zAe) rfl (by simp[zAe]) ?_
 simp only[zAe]
 by_cases hn:x.v<0
 ·have t0:(cmpI x.v 0<0)=True:=by rw[zdR];simp[hn]
  have n1:=zeF x
  have sm:=fin x.neg (by show-x.v=_;omega)
  generalize x.neg=y at *
  generalize x.v.natAbs=K at *
  simp(disch:=omega)only[go_sem,seval,wqq,sg,t0,n1,sm]
  refine zan zBP.eq_1 (fun(σ:Nat×Nat) fr M=>σ.1+nbits σ.2=nbits K∧σ.2≤K∧fr 3=(PV.i .i64 ((σ.1:Nat):Int))∧fr 4=(PV.i .i64 ((σ.2:Nat):Int))) (fun σ=>σ.2) ?_ (0,K) ⟨by simp,Nat.le_refl _,by simp only[go_sem,seval],by simp only[go_sem,seval]⟩
  rintro⟨n,k⟩ fr M ⟨hs,hk,f3,f4⟩ ih
  simp only at hs hk f3 f4
  by_cases hk0:k=0
  ·have q1:((k:Int)>0)=False:=by simp;omega
   have hN:n=nbits K:=by rw[←hs,hk0];rfl
   rw[←hN]
   simp(disch:=omega)only[go_sem,seval,wqq,f3,f4,q1]
  ·have q1:((k:Int)>0)=True:=by simp;omega
   have k2:(k:Int).tdiv 2=((k/2:Nat):Int):=zbm _ 2
   have hh:=zdv hk0
   simp(disch:=omega)only[go_sem,seval,wqq,f3,f4,q1,k2]
   exact ih (n+1,k/2) _ _ (by simp only;omega) ⟨by simp only;omega,by simp only;omega,by simp only[go_sem,seval];rw[Int.natCast_succ],by simp only[go_sem,seval]⟩
 ·have t0:(cmpI x.v 0<0)=False:=by rw[zdR];simp[hn]
  have sm:=fin x (by omega)
  obtain⟨K,hK⟩:∃K:Nat,K=x.v.natAbs:=⟨_,rfl⟩
  rw[←hK] at sm nb ⊢
  have hKl:K≤9223372036854775807:=by omega
  simp(disch:=omega)only[go_sem,seval,wqq,sg,t0,sm]
  refine zan zBP.eq_1 (fun(σ:Nat×Nat) fr M=>σ.1+nbits σ.2=nbits K∧σ.2≤K∧fr 3=(PV.i .i64 ((σ.1:Nat):Int))∧fr 4=(PV.i .i64 ((σ.2:Nat):Int))) (fun σ=>σ.2) ?_ (0,K) ⟨by simp,Nat.le_refl _,by simp only[go_sem,seval],by simp only[go_sem,seval]⟩
  rintro⟨n,k⟩ fr M ⟨hs,hk,f3,f4⟩ ih
  simp only at hs hk f3 f4
  by_cases hk0:k=0
  ·have q1:((k:Int)>0)=False:=by simp;omega
   have hN:n=nbits K:=by rw[←hs,hk0];rfl
   rw[←hN]
   simp(disch:=omega)only[go_sem,seval,wqq,f3,f4,q1]
  ·have q1:((k:Int)>0)=True:=by simp;omega
   have k2:(k:Int).tdiv 2=((k/2:Nat):Int):=zbm _ 2
   have hh:=zdv hk0
   simp(disch:=omega)only[go_sem,seval,wqq,f3,f4,q1,k2]
   exact ih (n+1,k/2) _ _ (by simp only;omega) ⟨by simp only;omega,by simp only;omega,by simp only[go_sem,seval];rw[Int.natCast_succ],by simp only[go_sem,seval]⟩
theorem znA {j:Nat} (h:inR (pw j)):pf E0 38 [wiP (pwI j),wiP (pwI j)]=some (.tu [wiP (pwI (j+1)),.i .i64 (lerr ((pw (j+1):Nat):Int))]):=by
 rw[zeE,ziV h,←Int.natCast_mul,←zg6];rfl
theorem zyw (b0 b1:Option PB) (w1 w2:PV):appP [b0,b1,some ⟨[w1,w2],true,0⟩] 2 32 .nl (.sl 2 0 1 1 2)=some (.sl 3 0 1 1 2,[b0,b1,some ⟨[w1,w2],true,0⟩,some ⟨[w1,w2],true,0⟩]):=rfl
theorem zqU {v K:Nat} (hK:K=16384) (h:v<2^K):inR v:=by subst hK;exact h
theorem zjS:inR (pw 1):=by
 obtain⟨K,hK⟩:∃K,K=16384:=⟨_,rfl⟩
 have h:pw 1<2^K:=Nat.lt_of_lt_of_le (show pw 1<2^3 by decide) (Nat.pow_le_pow_right (by decide) (by omega))
 exact zqU hK h
set_option maxHeartbeats 2000000 in
theorem znc {F:PFin} {ks:List KI} {K:Nat} {x0:WI} (hR:inR K) (hx0:x0.v=(K:Int)) (hK:9223372036854775807<K) {fr:PFr} {v:Nat} {v1:Nat}
  (f1:fr 1=.p 0 0) (f3:fr 3=(PV.i .i64 ((0:Nat):Int))) (f6:fr 6=.nl) (f7:fr 7=.p 1 0)
  (cont:∀fr' (G:PM) (J:Nat),J≠0→fr' 1=.p 0 0→fr' 3=(PV.i .i64 ((0:Nat):Int))→fr' 6=.sl (G.length+1) 0 J J 2→K<pw J→pw (J-1)≤K→∀R,UK E0 F (.exit 2) ks fr' (some ⟨[.b (decide (x0.v<0)),D x0.v.natAbs],true,v⟩::(G++(some ⟨pwL J,true,0⟩::R)))) :
  WK E0 F (.loop zA0) ks fr [some ⟨[.b (decide (x0.v<0)),D x0.v.natAbs],true,v⟩,some ⟨[.b (decide ((pwI 0).v<0)),D (pwI 0).v.natAbs],true,v1⟩]:=by
 have R1:=zjS
 have R0:inR (pw 0):=zeP (Nat.le_of_lt (zmA 0)) R1
 have cm0:=zaZ x0 (pwI 0)
 have c00:(cmpI x0.v (pwI 0).v≥0)=True:=eq_true (by rw[ge_iff_le,zed,hx0,ziV R0,zk2];omega)
 have mu0:=znA R0
 have le0:lerr ((pw (0+1):Nat):Int)=0:=(zej (z:=((pw (0+1):Nat):Int)) (by rw[Int.natAbs_natCast];exact R1)).2
 rw[le0] at mu0
 refine zal zA0.eq_1 ?_
 simp(disch:=omega)only[go_sem,seval,wqq,f1,f3,f6,f7,cm0,c00,mu0,zyw,zai,zad]
 refine zan zA0.eq_1 (fun(j:Nat) fr M=>1≤j∧inR (pw j)∧pw (j-1)≤K∧fr 1=.p 0 0∧fr 3=(PV.i .i64 ((0:Nat):Int))∧∃(G:PM) (r:Option PB) (v2:Nat),fr 6=.sl (G.length+1) 0 j j 2∧fr 7=.p (G.length+3) 0 ∧
  M=some ⟨[.b (decide (x0.v<0)),D x0.v.natAbs],true,v⟩::(G++[some ⟨pwL j,true,0⟩,r,some ⟨[.b (decide ((pwI j).v<0)),D (pwI j).v.natAbs],true,v2⟩])) (fun j=>K+1-pw (j-1)) ?_ 1
  ⟨Nat.le_refl _,R1,by rw[show pw (1-1)=2 from rfl];omega,by simp only[go_sem,seval,f1],by simp only[go_sem,seval,f3],[_,_],_,_,by simp only[go_sem,seval],by simp only[go_sem,seval],rfl⟩
 rintro j fr M ⟨hj,jR,hjK,f1,f3,G,r,v2,f6,f7,rfl⟩ ih
 have j14:=zhG jR
 have cm:=zaZ x0 (pwI j)
 by_cases hc:pw j≤K
 ·have c0:(cmpI x0.v (pwI j).v≥0)=True:=eq_true (by rw[ge_iff_le,zed,hx0,ziV jR];omega)
  have mu:=znA jR
  have apx:∀b0:Option PB,appP (b0::(G++[some ⟨pwL j,true,0⟩,r,some ⟨[.b (decide ((pwI j).v<0)),D (pwI j).v.natAbs],true,v2⟩,some ⟨[PV.b (decide ((pwI j).v<0)),D (pwI j).v.natAbs],true,0⟩])) 2 32 (.sl (G.length+1) 0 j j 2) (.sl (G.length+4) 0 1 1 2) =
   some (.sl (G.length+5) 0 (j+1) (j+1) 2,b0::(G++[none,r,some ⟨[.b (decide ((pwI j).v<0)),D (pwI j).v.natAbs],true,v2⟩,some ⟨[PV.b (decide ((pwI j).v<0)),D (pwI j).v.natAbs],true,0⟩,some ⟨pwL (j+1),true,0⟩])):=fun b0 =>
   ztp (b0::G) (pwL j) _ _ r (some ⟨[.b (decide ((pwI j).v<0)),D (pwI j).v.natAbs],true,v2⟩) (zfF j) (by omega) (by omega)
  by_cases hn:inR (pw (j+1))
  ·have le1:lerr ((pw (j+1):Nat):Int)=0:=(zej (z:=((pw (j+1):Nat):Int)) (by rw[Int.natAbs_natCast];exact hn)).2
   rw[le1] at mu
   simp(disch:=omega)only[go_sem,seval,wqq,f1,f3,f6,f7,cm,c0,mu,apx,zai,zad,mG,mG0,sG,sG0,lG,lqq]
   have:=zmA (j-1)
   rw[show j-1+1=j by omega] at this
   exact ih (j+1) _ _ (by rw[show j+1-1=j by omega];omega) ⟨by omega,hn,hc,by simp only[go_sem,seval,f1],by simp only[go_sem,seval,f3],G++[none,r,_,_],_,_,by simp only[go_sem,seval];simp,by simp only[go_sem,seval];simp,by simp;exact⟨rfl,rfl,rfl,rfl⟩⟩
  ·have le1:(lerr ((pw (j+1):Nat):Int)=0)=False:=eq_false fun q=>hn (by have:=zgR q;rwa [Int.natAbs_natCast] at this)
   simp(disch:=omega)only[go_sem,seval,wqq,f1,f3,f6,f7,cm,c0,mu,le1,apx,zai,zad,mG,mG0,sG,sG0,lG,lqq]
   have e6:∀a b c d p q:Option PB,G++[a,b,c,d,p,q]=(G++[a,b,c,d])++(p::[q]):=fun a b c d p q=>by simp
   rw[e6]
   exact cont _ _ (j+1) (by omega) (by simp only[go_sem,seval,f1]) (by simp only[go_sem,seval,f3]) (by simp only[go_sem,seval];simp) (by
    rcases Nat.lt_or_ge K (pw (j+1)) with q|q
    ·exact q
    ·exact(hn (zeP q hR)).elim) hc [_]
 ·have c0:(cmpI x0.v (pwI j).v≥0)=False:=eq_false (by rw[ge_iff_le,zed,hx0,ziV jR];omega)
  simp(disch:=omega)only[go_sem,seval,wqq,f1,f3,f6,f7,cm,c0,mG,mG0,sG,sG0,lG,lqq]
  exact cont _ G j (by omega) (by simp only[go_sem,seval,f1]) (by simp only[go_sem,seval,f3]) (by simp only[go_sem,seval,f6]) (by omega) hjK [_,_]
theorem zkI (x:WI):pf E0 63 [wiP x]=some (.i .i64 (nbits x.v.natAbs:Int)):=by
 by_cases hs:x.v.natAbs≤9223372036854775807
 ·exact zpo x hs
 have hR:inR x.v.natAbs:=(zaP _).1 x.lim
 obtain⟨K,hKe⟩:∃K,K=x.v.natAbs:=⟨_,rfl⟩
 rw[←hKe] at hR hs ⊢
 have hK:9223372036854775807<K:=by omega
 have sg:=za6 x
 have fin:∀(y:WI),y.v=(K:Int)→pf E0 80 [wiP y]=some (.tu [.i .i64 0,.b false]):=fun y hy=>by
  have sm:=zfy y
  have s1:isSmall (K:Int)=false:=by unfold isSmall;exact decide_eq_false (by omega)
  have s2:small (K:Int)=0:=by unfold small;rw[s1];rfl
  rw[hy,s1,s2] at sm
  exact sm
 have fr2:=zcQ (n:=2) (by decide)
 have w2:wiOf 2 (by decide)=pwI 0:=WI.ext' (by rw[ziV (zeP (Nat.le_of_lt (zmA 0)) zjS)];rfl)
 rw[w2] at fr2
 have nb1:1≤nbits K:=by unfold nbits;rw[if_neg (by omega)];omega
 have nbe:(nbits K:Int)-1+1=(nbits K:Int):=by omega
 have sy:∀y:WI,y.v=1→pf E0 31 [wiP y]=some (.i .i64 1):=fun y hy=>by rw[za6,hy];rfl
 refine zaa (xf:=zAe) rfl (by simp[zAe]) ?_
 simp only[zAe]
 have nbb:nbits K≤16384:=by
  obtain⟨q,hq⟩:∃q,q=16384:=⟨_,rfl⟩
  unfold inR at hR
  rw[←hq] at hR ⊢
  exact zdg hR
 by_cases hn:x.v<0
 ·have t0:(cmpI x.v 0<0)=True:=by rw[zdR];simp[hn]
  have n1:=zeF x
  have hv:x.neg.v=(K:Int):=by show-x.v=_;omega
  have sm:=fin x.neg hv
  generalize x.neg=y at *
  simp(disch:=omega)only[go_sem,seval,wqq,sg,t0,n1,sm,fr2]
  refine znc hR hv hK (by simp only[go_sem,seval]) (by simp only[go_sem,seval]) (by simp only[go_sem,seval]) (by simp only[go_sem,seval]) ?_
  intro fr' G J hJ f1 f3 f6 hlt hle R
  have J14:=zhG (zeP hle hR)
  simp(disch:=omega)only[go_sem,seval,wqq,f6]
  refine znd hR hv (by omega) hlt (.inr hle) (by simp only[go_sem,seval,f1]) (by simp only[go_sem,seval,f3]) (by rw[if_neg hJ];simp only[go_sem,seval,f6]) (by simp only[go_sem,seval]) ?_
  intro fr'' v' y1 hy1 g1 g3
  have syy:=sy y1 hy1
  simp(disch:=omega)only[go_sem,seval,wqq,g1,g3,syy,nbe]
 ·have t0:(cmpI x.v 0<0)=False:=by rw[zdR];simp[hn]
  have hv:x.v=(K:Int):=by omega
  have sm:=fin x hv
  simp(disch:=omega)only[go_sem,seval,wqq,sg,t0,sm,fr2]
  refine znc hR hv hK (by simp only[go_sem,seval]) (by simp only[go_sem,seval]) (by simp only[go_sem,seval]) (by simp only[go_sem,seval]) ?_
  intro fr' G J hJ f1 f3 f6 hlt hle R
  have J14:=zhG (zeP hle hR)
  simp(disch:=omega)only[go_sem,seval,wqq,f6]
  refine znd hR hv (by omega) hlt (.inr hle) (by simp only[go_sem,seval,f1]) (by simp only[go_sem,seval,f3]) (by rw[if_neg hJ];simp only[go_sem,seval,f6]) (by simp only[go_sem,seval]) ?_
  intro fr'' v' y1 hy1 g1 g3
  have syy:=sy y1 hy1
  simp(disch:=omega)only[go_sem,seval,wqq,g1,g3,syy,nbe]
theorem zbW (x:FQ):pf E0 44 [fqP x]=some (.i .i64 ((max (nbits x.p.v.natAbs) (nbits x.q.v.natAbs):Nat):Int)):=by
 have a1:=zhZ x
 have a2:=zci x
 have d1:=zkI x.p
 have d2:=zkI x.q
 generalize nbits x.p.v.natAbs=a at *
 generalize nbits x.q.v.natAbs=b at *
 have hm:mmP true (.i .i64 (a:Int)) [.i .i64 (b:Int)]=some (.i .i64 ((max a b:Nat):Int)):=by
  simp only[mmP,if_true]
  congr 2
  split<;>omega
 refine zaa (xf:=zA2) rfl (by simp[zA2]) ?_
 simp only[zA2]
 simp(disch:=omega)only[go_sem,seval,wqq]
 refine zaw [1] rfl (by simp only[go_sem,seval]) ?_
 simp(disch:=omega)only[go_sem,seval,wqq,a1,a2,d1,d2,hm]
end Go.Eng
namespace Go.Eng
noncomputable def whQ (n:Int):FQ:=if h:Fits64 n then ⟨wiOf n h,wi1,by decide,Nat.gcd_one_right _⟩ else fq0
theorem zp0 {n:Int} (h:Fits64 n):(whQ n).p.v=n∧(whQ n).q.v=1:=by
 unfold whQ
 rw[dif_pos h]
 exact⟨rfl,rfl⟩
theorem zss {n:Int} (h:Fits64 n):pf E0 17 [.i .i64 n,.i .i64 1]=some (.tu [fqP (whQ n),.i .i64 0]):=by
 obtain⟨f,h1,h2,h3⟩:=zmm h (q:=1) (by decide) (by decide)
 obtain⟨l1,l2⟩:=zde (p:=n) (q:=1) (by decide) (Nat.gcd_one_right _)
 obtain⟨v1,v2⟩:=zp0 h
 obtain rfl:f=whQ n:=zni ((h1.trans l1).trans v1.symm) ((h2.trans l2).trans v2.symm)
 exact h3
end Go.Eng
namespace Go.Eng
noncomputable def qc (f:FQ):List PV:=[.b (decide (f.p.v<0)),D f.p.v.natAbs,.b (decide (f.l.v<0)),D f.l.v.natAbs]
theorem zwi (f:FQ):PV.ag (qc f)=fqP f:=_root_.id rfl
structure QZ (L:List PV) (f:FQ):Prop where
 len:L.length=4
 sc:L.all PV.scal=true
 fz:∀(M:PM) (d:Nat),fzL (fz M (d+1)) L=some (qc f,[])
end Go.Eng
namespace Go.Eng
noncomputable def vc (x:IV):List PV:=[.b (decide (x.lo.v<0)),D x.lo.v.natAbs,.b (decide (x.hi.v<0)),D x.hi.v.natAbs]
structure VZ (L:List PV) (x:IV):Prop where
 len:L.length=4
 sc:L.all PV.scal=true
 fz:∀(M:PM) (d:Nat),fzL (fz M (d+1)) L=some (vc x,[])
def enT (U:Nat→IV) (r:IV×Int) (l:List Int):IV×Int:=l.foldl (fun r a=>if r.2=0 then ivMul r.1 (U a.toNat) else r) r
noncomputable def enX (c:Nat→Int) (U:Nat→IV) (i:Nat) (s:IV) (b:Bool):IV×Int :=
 if b=false∧(enT U (mkI (whQ (c i)) (whQ (c i))) (facL i)).2=0 then ivAdd s (enT U (mkI (whQ (c i)) (whQ (c i))) (facL i)).1 else enT U (mkI (whQ (c i)) (whQ (c i))) (facL i)
noncomputable def enS (c:Nat→Int) (U:Nat→IV):Nat→IV×Bool×Int
 | 0=>(ivZ,true,0)
 | i+1=>if (enS c U i).2.2≠0 then enS c U i else if c i=0 then enS c U i else
  if (enX c U i (enS c U i).1 (enS c U i).2.1).2=0 then ((enX c U i (enS c U i).1 (enS c U i).2.1).1,false,0) else (ivZ,true,(enX c U i (enS c U i).1 (enS c U i).2.1).2)
end Go.Eng
namespace Go.Eng
theorem zst {n:Int} (h:Fits64 n):rfP n 1=rfQ (whQ n):=by unfold whQ;rw[dif_pos h];rfl
end Go.Eng
namespace Go.Eng
end Go.Eng
namespace Go.Eng
end Go.Eng
namespace Go.Eng
end Go.Eng
namespace Go.Eng
def chE:Nat→Int:=fun e=>chooI.getD e 0
def chV (i k j:Nat):Int:=chE (exN i j*4+exN k j)
def shP (Y:Nat→Int) (i k:Nat):Nat→Int
 | 0=>1
 | j+1=>shP Y i k j*(chV i k j*Y j^(exN i j-exN k j))
theorem z20:[PV.i .i64 0,PV.i .i64 0,PV.i .i64 0,PV.i .i64 0,PV.i .i64 0,PV.i .i64 0,PV.i .i64 0,PV.i .i64 0,PV.i .i64 0,PV.i .i64 0,PV.i .i64 0,PV.i .i64 0,PV.i .i64 0,PV.i .i64 0,PV.i .i64 0,PV.i .i64 0,PV.i .i64 0,PV.i .i64 0,PV.i .i64 0,PV.i .i64 0]=cs 20 zF:=rfl
end Go.Eng
namespace Go.Eng
end Go.Eng
namespace Go.Eng
theorem zq9 {p:Nat→Int} (hp:∀e,Fits64 (p e)):(fun e=>(ofW p e).v)=p:=funext fun e=>zoP (hp e)
theorem ziL {p:Nat→Int} (hp:∀e,Fits64 (p e)) (e:Nat):wlen (ofW p e).v.natAbs≤2:=by
 rw[zoP (hp e)]
 have h:=hp e
 unfold Fits64 at h
 exact zcM (by omega)
theorem zor {n:Int} (h:Fits64 n):tlen n.natAbs≤5:=by
 unfold Fits64 at h
 exact zah (by omega)
theorem zp3 {p:Nat→Int} (hp:∀e,Fits64 (p e)):(dtW (ofW p)).v=rdV p:=by
 rw[ztM (ziL hp) (by decide),zq9 hp]
set_option maxHeartbeats 2000000 in
theorem zrK {p:Nat→Int} (hp:∀e,Fits64 (p e)):pf E0 341 [pI p]=some (.i .i64 (vlP p)):=by
 have hm:=zrJ hp
 have hd:=zrL (z:=p) fun e=>Nat.le_trans (zor (hp e)) (by decide)
 have bad:∀e,e<9→¬(-1073741824≤p e∧p e≤1073741824)→vlP p=1:=fun e he h=>by unfold vlP;rw[if_neg fun q=>h (q e he)]
 have good:okP p→vlP p=if rdV p=0 then 10 else 0:=fun h=>by unfold vlP;rw[if_pos h,zp3 hp]
 have tl0:rdV p=0→(tlen (rdV p).natAbs:Int)=0:=fun h=>by rw[h,Int.natAbs_zero,zaH];rfl
 have tl1:rdV p≠0→¬(tlen (rdV p).natAbs:Int)=0:=fun h=>by have:=za4 (v:=(rdV p).natAbs) (by omega);omega
 generalize vlP p=V at *
 generalize rdV p=d at *
 have fd:fldP false 1 1 (nP d)=some (T d.natAbs):=rfl
 refine zaa (xf:=zBx) rfl (by simp[zBx]) ?_
 simp only[zBx]
 simp(disch:=omega)only[go_sem,seval,wqq]
 refine zan zCZ.eq_1 (fun(i:Nat) fr M=>i≤9∧(∀e,e<i → -1073741824≤p e∧p e≤1073741824)∧fr 1=.p 0 0∧fr 3=(PV.i .i64 ((i:Nat):Int))∧M=[some ⟨cI p,true,0⟩]) (fun i=>9-i) ?_ 0 ⟨by omega,fun e he=>by omega,rfl,rfl,rfl⟩
 rintro i fr M ⟨hi,hlo,f1,f3,rfl⟩ ih
 rcases Nat.lt_or_ge i 9 with h9|h9
 ·have nxt:∀j,(-1073741824≤p j∧p j≤1073741824)→j=i→∀e,e<j+1 → -1073741824≤p e∧p e≤1073741824:=fun j hj hji e he=>by
   subst hji
   rcases Nat.lt_or_ge e j with h|h
   ·exact hlo e h
   ·obtain rfl:e=j:=by omega
    exact hj
  obtain rfl|rfl|rfl|rfl|rfl|rfl|rfl|rfl|rfl:=zfv h9
  ·have hpe:=hp 0
   unfold Fits64 at hpe
   rcases zdQ (p 0 < -1073741824) with t1|t1
   ·rw[bad 0 (by decide) (by have:=of_eq_true t1;omega)]
    simp(disch:=omega)only[go_sem,seval,wqq,f1,f3,zak,t1]
   ·rcases zdQ (p 0>1073741824) with t2|t2
    ·rw[bad 0 (by decide) (by have:=of_eq_true t2;omega)]
     simp(disch:=omega)only[go_sem,seval,wqq,f1,f3,zak,t1,t2]
    ·have u1:=of_eq_false t1
     have u2:=of_eq_false t2
     simp(disch:=omega)only[go_sem,seval,wqq,f1,f3,zak,t1,t2]
     exact ih 1 _ _ (by omega) ⟨by omega,nxt 0 (by omega) rfl,f1,rfl,rfl⟩
  ·have hpe:=hp 1
   unfold Fits64 at hpe
   rcases zdQ (p 1 < -1073741824) with t1|t1
   ·rw[bad 1 (by decide) (by have:=of_eq_true t1;omega)]
    simp(disch:=omega)only[go_sem,seval,wqq,f1,f3,zak,t1]
   ·rcases zdQ (p 1>1073741824) with t2|t2
    ·rw[bad 1 (by decide) (by have:=of_eq_true t2;omega)]
     simp(disch:=omega)only[go_sem,seval,wqq,f1,f3,zak,t1,t2]
    ·have u1:=of_eq_false t1
     have u2:=of_eq_false t2
     simp(disch:=omega)only[go_sem,seval,wqq,f1,f3,zak,t1,t2]
     exact ih 2 _ _ (by omega) ⟨by omega,nxt 1 (by omega) rfl,f1,rfl,rfl⟩
  ·have hpe:=hp 2
   unfold Fits64 at hpe
   rcases zdQ (p 2 < -1073741824) with t1|t1
   ·rw[bad 2 (by decide) (by have:=of_eq_true t1;omega)]
    simp(disch:=omega)only[go_sem,seval,wqq,f1,f3,zak,t1]
   ·rcases zdQ (p 2>1073741824) with t2|t2
    ·rw[bad 2 (by decide) (by have:=of_eq_true t2;omega)]
     simp(disch:=omega)only[go_sem,seval,wqq,f1,f3,zak,t1,t2]
    ·have u1:=of_eq_false t1
     have u2:=of_eq_false t2
     simp(disch:=omega)only[go_sem,seval,wqq,f1,f3,zak,t1,t2]
     exact ih 3 _ _ (by omega) ⟨by omega,nxt 2 (by omega) rfl,f1,rfl,rfl⟩
  ·have hpe:=hp 3
   unfold Fits64 at hpe
   rcases zdQ (p 3 < -1073741824) with t1|t1
   ·rw[bad 3 (by decide) (by have:=of_eq_true t1;omega)]
    simp(disch:=omega)only[go_sem,seval,wqq,f1,f3,zak,t1]
   ·rcases zdQ (p 3>1073741824) with t2|t2
    ·rw[bad 3 (by decide) (by have:=of_eq_true t2;omega)]
     simp(disch:=omega)only[go_sem,seval,wqq,f1,f3,zak,t1,t2]
    ·have u1:=of_eq_false t1
     have u2:=of_eq_false t2
     simp(disch:=omega)only[go_sem,seval,wqq,f1,f3,zak,t1,t2]
     exact ih 4 _ _ (by omega) ⟨by omega,nxt 3 (by omega) rfl,f1,rfl,rfl⟩
  ·have hpe:=hp 4
   unfold Fits64 at hpe
   rcases zdQ (p 4 < -1073741824) with t1|t1
   ·rw[bad 4 (by decide) (by have:=of_eq_true t1;omega)]
    simp(disch:=omega)only[go_sem,seval,wqq,f1,f3,zak,t1]
   ·rcases zdQ (p 4>1073741824) with t2|t2
    ·rw[bad 4 (by decide) (by have:=of_eq_true t2;omega)]
     simp(disch:=omega)only[go_sem,seval,wqq,f1,f3,zak,t1,t2]
    ·have u1:=of_eq_false t1
     have u2:=of_eq_false t2
     simp(disch:=omega)only[go_sem,seval,wqq,f1,f3,zak,t1,t2]
     exact ih 5 _ _ (by omega) ⟨by omega,nxt 4 (by omega) rfl,f1,rfl,rfl⟩
  ·have hpe:=hp 5
   unfold Fits64 at hpe
   rcases zdQ (p 5 < -1073741824) with t1|t1
   ·rw[bad 5 (by decide) (by have:=of_eq_true t1;omega)]
    simp(disch:=omega)only[go_sem,seval,wqq,f1,f3,zak,t1]
   ·rcases zdQ (p 5>1073741824) with t2|t2
    ·rw[bad 5 (by decide) (by have:=of_eq_true t2;omega)]
     simp(disch:=omega)only[go_sem,seval,wqq,f1,f3,zak,t1,t2]
    ·have u1:=of_eq_false t1
     have u2:=of_eq_false t2
     simp(disch:=omega)only[go_sem,seval,wqq,f1,f3,zak,t1,t2]
     exact ih 6 _ _ (by omega) ⟨by omega,nxt 5 (by omega) rfl,f1,rfl,rfl⟩
  ·have hpe:=hp 6
   unfold Fits64 at hpe
   rcases zdQ (p 6 < -1073741824) with t1|t1
   ·rw[bad 6 (by decide) (by have:=of_eq_true t1;omega)]
    simp(disch:=omega)only[go_sem,seval,wqq,f1,f3,zak,t1]
   ·rcases zdQ (p 6>1073741824) with t2|t2
    ·rw[bad 6 (by decide) (by have:=of_eq_true t2;omega)]
     simp(disch:=omega)only[go_sem,seval,wqq,f1,f3,zak,t1,t2]
    ·have u1:=of_eq_false t1
     have u2:=of_eq_false t2
     simp(disch:=omega)only[go_sem,seval,wqq,f1,f3,zak,t1,t2]
     exact ih 7 _ _ (by omega) ⟨by omega,nxt 6 (by omega) rfl,f1,rfl,rfl⟩
  ·have hpe:=hp 7
   unfold Fits64 at hpe
   rcases zdQ (p 7 < -1073741824) with t1|t1
   ·rw[bad 7 (by decide) (by have:=of_eq_true t1;omega)]
    simp(disch:=omega)only[go_sem,seval,wqq,f1,f3,zak,t1]
   ·rcases zdQ (p 7>1073741824) with t2|t2
    ·rw[bad 7 (by decide) (by have:=of_eq_true t2;omega)]
     simp(disch:=omega)only[go_sem,seval,wqq,f1,f3,zak,t1,t2]
    ·have u1:=of_eq_false t1
     have u2:=of_eq_false t2
     simp(disch:=omega)only[go_sem,seval,wqq,f1,f3,zak,t1,t2]
     exact ih 8 _ _ (by omega) ⟨by omega,nxt 7 (by omega) rfl,f1,rfl,rfl⟩
  ·have hpe:=hp 8
   unfold Fits64 at hpe
   rcases zdQ (p 8 < -1073741824) with t1|t1
   ·rw[bad 8 (by decide) (by have:=of_eq_true t1;omega)]
    simp(disch:=omega)only[go_sem,seval,wqq,f1,f3,zak,t1]
   ·rcases zdQ (p 8>1073741824) with t2|t2
    ·rw[bad 8 (by decide) (by have:=of_eq_true t2;omega)]
     simp(disch:=omega)only[go_sem,seval,wqq,f1,f3,zak,t1,t2]
    ·have u1:=of_eq_false t1
     have u2:=of_eq_false t2
     simp(disch:=omega)only[go_sem,seval,wqq,f1,f3,zak,t1,t2]
     exact ih 9 _ _ (by omega) ⟨by omega,nxt 8 (by omega) rfl,f1,rfl,rfl⟩
 ·obtain rfl:i=9:=by omega
  rw[good hlo]
  by_cases h0:d=0
  ·have c0:((tlen d.natAbs:Int)=0)=True:=eq_true (tl0 h0)
   rw[if_pos h0]
   simp(disch:=omega)only[go_sem,seval,wqq,f1,f3,hm,hd,fd,c0]
  ·have c0:((tlen d.natAbs:Int)=0)=False:=eq_false (tl1 h0)
   rw[if_neg h0]
   simp(disch:=omega)only[go_sem,seval,wqq,f1,f3,hm,hd,fd,c0]
theorem znn {X:Nat→Int}:∀{i:Nat},gN X i=0→∀e,e<i→X e=0
 | 0,_,e,h=>by omega
 | i+1,h,e,he=>by
  have h:Nat.gcd (gN X i) (X i).natAbs=0:=h
  obtain⟨h1,h2⟩:=Nat.gcd_eq_zero_iff.1 h
  rcases Nat.lt_or_ge e i with q|q
  ·exact znn h1 e q
  ·obtain rfl:e=i:=by omega
   omega
def adV (X:Nat→Int):Nat→Int:=fun e=>mnV X (e%3) (e/3)
theorem zwj (X:Nat→Int):rdV X=X 0*adV X 0+X 1*adV X 3+X 2*adV X 6:=by
 unfold rdV rtK adV mnV
 simp only[Nat.reduceAdd,Nat.reduceMul,Nat.reduceMod,Nat.reduceDiv]
 grind
theorem zn4 {X:Nat→Int} (h:gN (adV X) 9=0):rdV X=0:=by
 have z:=znn h
 rw[zwj,z 0 (by decide),z 3 (by decide),z 6 (by decide)]
 simp
end Go.Eng
namespace Go.Eng
@[go_sem] theorem sp9 (a b c d e f g h i:PV) (Y:Nat→Int):psplice [a,b,c,d,e,f,g,h,i] 0 (cI Y)=cI Y:=_root_.id rfl
theorem zqz {p:Nat→Int} (hp:∀e,Fits64 (p e)) (h:vlP p=0):rdV p≠0:=fun q=>by
 unfold vlP at h
 split at h
 ·rw[zp3 hp,q,if_pos rfl] at h;cases h
 ·cases h
open Classical in
noncomputable def IP (p:Nat→Int):Nat→Int:=if vlP p=0 then nfP (adV p) else zI
open Classical in
noncomputable def IE (p:Nat→Int):Int:=if vlP p=0 then nfE (adV p) else vlP p
theorem zwN {p:Nat→Int} (hp:∀e,Fits64 (p e)):(fun e=>(adW (ofW p) e).v)=adV p:=funext fun e=>by
 have:=(zq3 (ziL hp) (by decide) (e%3) (e/3)).1
 rw[zq9 hp] at this
 exact this
theorem zkq {p:Nat→Int} (hp:∀e,Fits64 (p e)):pf E0 308 [pI p]=some (.tu [pI (IP p),.i .i64 (IE p)]):=by
 have hv:=zcI hp
 have hm:=zpn hp
 have ha:=zph (ofW p)
 unfold IP IE
 by_cases h:vlP p=0
 ·have hn:=zkH (adW (ofW p)) (by rw[zwN hp];exact fun q=>zqz hp h (zn4 q))
  rw[zwN hp] at hn
  rw[if_pos h,if_pos h]
  rw[h] at hv
  refine zaa (xf:=zAa) rfl (by simp[zAa]) ?_
  simp only[zAa]
  simp(disch:=omega)only[go_sem,seval,wqq,hv,hm,ha,hn]
 ·rw[if_neg h,if_neg h]
  generalize vlP p=V at *
  have h:(V=0)=False:=eq_false h
  refine zaa (xf:=zAa) rfl (by simp[zAa]) ?_
  simp only[zAa]
  simp(disch:=omega)only[go_sem,seval,wqq,hv,h,pI0]
end Go.Eng
namespace Go.Eng
def isPF (E:PEnv):PV→Bool
 | .fn f _=>E.pure f
 | _=>false
def slotIn4 (E:PEnv) (ops:List XOper) (L V:List Nat) (c:Nat×Nat):Bool :=
 match ops[c.1]?,ops[c.2]? with
 | some a,some b =>
  match a.op with
  | .load _ _ (.t s)=>L.contains s&&(match b.op with | .callv (.t v) _=>V.contains v&&fixedX ops c.2 (.t v)|_=>calmOp E b.op)
  | _=>false
 | _,_=>false
theorem zd8 {E:PEnv} {F:PFin} {ops:List XOper} {chk:List (Nat×Nat)} {ks:List KI} {fr:PFr} {M:PM} (L V:List Nat) (hL:chk.all (fun c=>calmC E ops c || slotIn4 E ops L V c)=true)
  (hr:WL E ⟨(0::0::(L++V)).map XR.tmp,fun w _=>∃l,w=.tu l∧((l.drop 2).take L.length).all isPP=true∧((l.drop 2).drop L.length).all (isPF E)=true⟩ ops [] fr M) (w:WL E F ops ks fr M):WK E F (.drw ops chk) ks fr M:=by
 refine zcL (fun fr2 Ms hT=>?_) w
 have hpv:L.all (fun s=>isPP (fr2 s))=true∧V.all (fun s=>isPF E (fr2 s))=true:=by
  obtain⟨lf,q,fr3,M3,vs,e,h1,h2,l,h3,h4,h5⟩:=hr
  simp only[Option.bind_eq_some_iff,unw] at e
  obtain⟨⟨fr4,M4⟩,e1,e2⟩:=e
  simp only[Option.some.injEq,Prod.mk.injEq] at e2
  obtain⟨_,e3,e4⟩:=e2
  rw[←e3,←e4] at h2
  obtain⟨Ms',g1,g2⟩:=zbK e1
  rw[g1] at hT
  cases hT
  have hres:∀(f:PFr) (N:PM) (l:List Nat),pRes f N (l.map XR.tmp)=some (l.map f):=fun f N l=>by
   induction l with
   | nil=>rfl
   | cons a l ih=>simp only[List.map_cons,pRes,pResOne,ih]
  rw[hres] at h2
  cases h2
  simp only[List.map_cons,packP] at h3
  cases h3
  rw[List.map_append] at h4 h5
  have d2:(fr2 0::fr2 0::(L.map fr2++V.map fr2)).drop 2=L.map fr2++V.map fr2:=rfl
  rw[d2,List.take_left' (by simp)] at h4
  rw[d2,List.drop_left' (by simp)] at h5
  exact⟨by simpa [List.all_map] using h4,by simpa [List.all_map] using h5⟩
 obtain⟨hp,hv⟩:=hpv
 rw[List.all_eq_true] at hL hp hv ⊢
 rintro⟨i,j⟩ hc
 have h1:=hL _ hc
 simp only[Bool.or_eq_true] at h1
 rcases h1 with h1|h1
 ·exact zc6 hT h1
 ·unfold slotIn4 at h1
  split at h1
  ·rename_i a b ha hb
   split at h1
   ·rename_i z k s hop
    simp only[Bool.and_eq_true] at h1
    obtain⟨c1,c2⟩:=h1
    have hs:=hp s (List.contains_iff_mem.1 c1)
    cases hf:fr2 s with
    | p n o =>
     obtain⟨fri,A,B,q1,q2,q3,q4⟩:=zaz hT ha
     obtain⟨frj,C,D,p1,p2,p3,p4⟩:=zaz hT hb
     have p2':Ms[(i,j).2+1]?=some D:=p2
     have q2':Ms[(i,j).1+1]?=some B:=q2
     refine zcT ?_
     simp only[chkP0,ha,q1,q2,p1,p2]
     rw[if_neg (by rw[hop];simp[XO.cls])]
     rw[hop]
     show chkV ops j (.t s) C D (fr2 s)=true
     rw[hf]
     show verP (some n) C D=true
     rcases p3 with⟨_,v,p3⟩|⟨_,p3⟩
     ·split at c2
      ·rename_i vs l hopb
       simp only[Bool.and_eq_true] at c2
       have hv':=hv vs (List.contains_iff_mem.1 c2.1)
       have e1:=p4 (.t vs) c2.2
       have e1:fr2 vs=frj vs:=e1
       rw[hopb] at p3
       rw[e1] at hv'
       cases hfn:frj vs with
       | fn f c =>
        rw[hfn] at hv'
        have p3:(match (X.t vs).pv E.glob frj with | .fn f c=>pcl E f (l.map (X.pv E.glob frj)++c) C|_=>none)=some (v,D):=p3
        rw[show (X.t vs).pv E.glob frj=frj vs from rfl,hfn] at p3
        obtain⟨ns,rfl⟩:=zce hv' p3
        exact zcK ns C _
       | _=>rw[hfn] at hv';simp[isPF] at hv'
      ·rename_i hno
       cases hopb:b.op with
       | call f l =>
        rw[hopb] at p3 c2
        obtain⟨ns,rfl⟩:=zce c2 p3
        exact zcK ns C _
       | _=>rw[hopb] at c2;simp[calmOp] at c2
     ·rw[p3];simp[verP]
    | _=>rw[hf] at hs;simp[isPP] at hs
   ·cases h1
  ·cases h1
@[go_sem] theorem zzE (a0 a1 a2 a3 a4 a5 a6 a7 a8 a9 a10 a11 a12 a13 a14 a15 a16 a17:PV) (Y:Nat→WI):psplice [a0,a1,a2,a3,a4,a5,a6,a7,a8,a9,a10,a11,a12,a13,a14,a15,a16,a17] 0 (cW Y)=cW Y:=_root_.id rfl
def ptP (x y:Int):PV:=.ag [.i .i64 x,.i .i64 y]
@[go_sem] theorem zw2 (M:PM) (d:Nat) (x y:Int):fz M (d+1+1) (ptP x y)=some (ptP x y,[]):=_root_.id rfl
@[go_sem] theorem zqq (x y:Int):(ptP x y).cells=[.i .i64 x,.i .i64 y]:=_root_.id rfl
@[go_sem] theorem zsK (x y:Int):PV.ag [.i .i64 x,.i .i64 y]=ptP x y:=_root_.id rfl
def colI (a b c d e f:Int):Nat→Int
 | 0=>a|1=>b|2=>c|3=>d|4=>e|5=>f|6=>1|7=>1|8=>1|_=>1
theorem zcq {a b c d e f:Int} (ha:Fits64 a) (hb:Fits64 b) (hc:Fits64 c) (hd:Fits64 d) (he:Fits64 e) (hf:Fits64 f):∀i,Fits64 (colI a b c d e f i)
 | 0=>ha|1=>hb|2=>hc|3=>hd|4=>he|5=>hf|6=>by show Fits64 1;decide|7=>by show Fits64 1;decide|8=>by show Fits64 1;decide|n+9=>by show Fits64 1;decide
theorem zdj {a d b e c f:Int} (ha:Fits64 a) (hb:Fits64 b) (hc:Fits64 c) (hd:Fits64 d) (he:Fits64 e) (hf:Fits64 f):pf E0 320 [ptP a d,ptP b e,ptP c f]=some (mW (ofW (colI a b c d e f))):=by
 have hm:=zpn (zcq ha hb hc hd he hf)
 have hp:pI (colI a b c d e f)=.ag [.i .i64 a,.i .i64 b,.i .i64 c,.i .i64 d,.i .i64 e,.i .i64 f,.i .i64 1,.i .i64 1,.i .i64 1]:=rfl
 rw[hp] at hm
 refine zaa (xf:=zAM) rfl (by simp[zAM]) ?_
 simp only[zAM]
 simp(disch:=omega)only[go_sem,seval,wqq,hm,zai,zad]
end Go.Eng
namespace Go.Eng
def slarrB (m off n z:Nat) (lo hi:Option PV):Option PB→Option PV
 | some b=>if off+n*z≤b.v.length then slP z (.sl m off n n z) lo hi none else none
 | none=>none
def slarrP (M:PM) (n z:Nat) (lo hi:Option PV):PV→Option PV
 | .p m off=>slarrB m off n z lo hi (PM.blk M m)
 | .fp l=>if n*z≤l.length∧n*z≠0∧l.all PV.scal=true then slP z (.lst (group z n (l.take (n*z)))) lo hi none else none
 | _=>none
@[go_sem] theorem zs5 (M:PM) (n z m off:Nat) (lo hi:Option PV):slarrP M n z lo hi (.p m off)=slarrB m off n z lo hi (PM.blk M m):=_root_.id rfl
@[go_sem] theorem zs4 (m off n z:Nat) (lo hi:Option PV) (b:PB):slarrB m off n z lo hi (some b)=if off+n*z≤b.v.length then slP z (.sl m off n n z) lo hi none else none:=_root_.id rfl
@[go_sem] theorem ztk {E:PEnv} {F:PFin} {d:Option Nat} {af:List Nat} {l:List XOper} {ks:List KI} {fr:PFr} {M:PM} (n z:Nat) (x:X) (lo hi:Option X):WL E F (⟨d,.slarr n z x lo hi,af,none⟩::l) ks fr M=WV1 E F (slarrP M n z (lo.map (X.pv E.glob fr)) (hi.map (X.pv E.glob fr)) (x.pv E.glob fr)) d l ks fr M:=by
 rw[za0,←za1]
 have:XO.pst E.glob (pcl E) fr M (.slarr n z x lo hi)=(slarrP M n z (lo.map (X.pv E.glob fr)) (hi.map (X.pv E.glob fr)) (x.pv E.glob fr)).map fun v=>(v,M):=by
  simp only[XO.pst,XO.pev]
  generalize x.pv E.glob fr=a
  cases a with
  | p m off =>
   simp only[slarrP]
   cases PM.blk M m with
   | none=>rfl
   | some b=>simp only[slarrB];split<;>rfl
  | fp c=>simp only[slarrP];split<;>rfl
  | _=>rfl
 rw[this]
theorem zx3:slP 1 (.sl 0 0 9 9 1) (some (.i .i64 6)) none none=some (.sl 0 6 3 3 1):=rfl
theorem zy7:slP 1 (.sl 0 0 9 9 1) none (some (.i .i64 3)) none=some (.sl 0 0 3 9 1):=rfl
theorem zmF:slP 1 (.sl 0 0 9 9 1) (some (.i .i64 3)) (some (.i .i64 6)) none=some (.sl 0 3 3 6 1):=rfl
theorem gr3 (a b c:Int):group 1 3 [PV.i .i64 a,.i .i64 b,.i .i64 c]=[.i .i64 a,.i .i64 b,.i .i64 c]:=rfl
theorem zkO {n:Int} (hn:Fits64 n):∃f:FQ,f.is n 1∧fsz 5 f∧pf E0 317 [.i .i64 n]=some (fqP f):=by
 have hn':=hn
 unfold Fits64 at hn'
 obtain⟨f,f1,f2,fo⟩:=zmm hn (q:=1) (by decide) (by decide)
 obtain⟨l1,l2⟩:=zde (p:=n) (q:=1) (by decide) (Nat.gcd_one_right _)
 have f1:=f1.trans l1
 have f2:=f2.trans l2
 have fi:=zb7 f
 rw[f1,f2] at fi
 refine⟨f,fi,⟨by rw[f1];exact zah (by omega),by rw[f2];exact zah (by decide)⟩,?_⟩
 refine zaa (xf:=zBt) rfl (by simp[zBt]) ?_
 simp only[zBt]
 simp(disch:=omega)only[go_sem,seval,wqq,fo]
theorem zt9 (a b c:Int) (j:Nat) (v:Int) (h:[a,b,c][j]?=some v):idxP 1 (.lst [.i .i64 a,.i .i64 b,.i .i64 c]) (some j)=some (.fp [.i .i64 v]):=zdd (xs:=[a,b,c]) h
set_option maxHeartbeats 2000000 in
theorem zh3 {a b c:Int} (ha:Fits64 a) (hb:Fits64 b) (hc:Fits64 c) {u v:FQ} {n m:Nat} (zu:fsz n u) (zv:fsz m v) (hs:n+m≤1000) {un ud vn vd:Int} (hud:ud≠0) (hvd:vd≠0) (ui:u.is un ud) (vi:v.is vn vd) :
  ∃r:FQ,pf E0 310 [.lst [.i .i64 a,.i .i64 b,.i .i64 c],fqP u,fqP v]=some (fqP r)∧r.is (a*un*vd+b*vn*ud+c*(ud*vd)) (ud*vd)∧fsz (n+m+20) r:=by
 obtain⟨wa,ia,za,fa⟩:=zkO ha
 obtain⟨wb,ib,zb,fb⟩:=zkO hb
 obtain⟨wc,ic,zc,fc⟩:=zkO hc
 obtain⟨x,fx,ix,zx⟩:=znz wa u za zu (by omega) ia ui
 obtain⟨y,fy,iy,zy⟩:=znz wb v zb zv (by omega) ib vi
 obtain⟨s,fs,is,zs⟩:=zm3 x y zx zy (by omega) ix iy
 obtain⟨r,fr',ir,zr⟩:=zm3 s wc zs zc (by omega) is ic
 have hD:ud*vd≠0:=Int.mul_ne_zero hud hvd
 refine⟨r,?_,zgS (by simp only[Int.one_mul,Int.mul_one];exact hD) ir (by grind),⟨Nat.le_trans zr.1 (by omega),Nat.le_trans zr.2 (by omega)⟩⟩
 clear ia ib ic ix iy is ir ui vi
 have i0:=zt9 a b c 0 a rfl
 have i1:=zt9 a b c 1 b rfl
 have i2:=zt9 a b c 2 c rfl
 refine zaa (xf:=zB6) rfl (by simp[zB6]) ?_
 simp only[zB6]
 simp(disch:=omega)only[go_sem,seval,wqq]
 refine zd8 [4] [15] rfl ?_ ?_
 ·simp(disch:=omega)only[go_sem,seval,wqq,i0,i1,i2,fa,fx]
  exact⟨_,rfl,rfl,rfl⟩
 simp(disch:=omega)only[go_sem,seval,wqq,i0,i1,i2,fa,fx]
 refine zd8 [5] [25] rfl ?_ ?_
 ·simp(disch:=omega)only[go_sem,seval,wqq,i0,i1,i2,fb,fy]
  exact⟨_,rfl,rfl,rfl⟩
 simp(disch:=omega)only[go_sem,seval,wqq,i0,i1,i2,fb,fy,fs]
 refine zd8 [12] [42] rfl ?_ ?_
 ·simp(disch:=omega)only[go_sem,seval,wqq,i0,i1,i2,fc,fr']
  exact⟨_,rfl,rfl,rfl⟩
 simp(disch:=omega)only[go_sem,seval,wqq,i0,i1,i2,fc,fr']
def rwV (a b c un ud vn vd:Int):Int:=a*un*vd+b*vn*ud+c*(ud*vd)
set_option maxHeartbeats 4000000 in
theorem zgX {p:Nat→Int} (hp:∀e,Fits64 (p e)) (hv:vlP p=0) {u v:FQ} {n m:Nat} (zu:fsz n u) (zv:fsz m v) (hs:n+m≤500) {un ud vn vd:Int} (hud:ud≠0) (hvd:vd≠0) (ui:u.is un ud) (vi:v.is vn vd)
  (du:max (nbits u.p.v.natAbs) (nbits u.q.v.natAbs)≤1000) (dv:max (nbits v.p.v.natAbs) (nbits v.q.v.natAbs)≤1000) (h0:rwV (p 6) (p 7) (p 8) un ud vn vd≠0) :
  ∃x y:FQ,pf E0 305 [pI p,fqP u,fqP v]=some (.tu [fqP x,fqP y,.i .i64 0])∧x.is (rwV (p 0) (p 1) (p 2) un ud vn vd) (rwV (p 6) (p 7) (p 8) un ud vn vd)∧y.is (rwV (p 3) (p 4) (p 5) un ud vn vd) (rwV (p 6) (p 7) (p 8) un ud vn vd)∧fsz (2*(n+m)+40) x∧fsz (2*(n+m)+40) y:=by
 have pv:=zcI hp
 rw[hv] at pv
 have d1:=zbW u
 have d2:=zbW v
 have hD:ud*vd≠0:=Int.mul_ne_zero hud hvd
 obtain⟨r2,f2,i2,z2⟩:=zh3 (hp 6) (hp 7) (hp 8) zu zv (by omega) hud hvd ui vi
 obtain⟨r0,f0,i0,z0⟩:=zh3 (hp 0) (hp 1) (hp 2) zu zv (by omega) hud hvd ui vi
 obtain⟨r1,f1,i1,z1⟩:=zh3 (hp 3) (hp 4) (hp 5) zu zv (by omega) hud hvd ui vi
 have i2:r2.is (rwV (p 6) (p 7) (p 8) un ud vn vd) (ud*vd):=i2
 have i0:r0.is (rwV (p 0) (p 1) (p 2) un ud vn vd) (ud*vd):=i0
 have i1:r1.is (rwV (p 3) (p 4) (p 5) un ud vn vd) (ud*vd):=i1
 generalize rwV (p 6) (p 7) (p 8) un ud vn vd=W at *
 generalize rwV (p 0) (p 1) (p 2) un ud vn vd=U at *
 generalize rwV (p 3) (p 4) (p 5) un ud vn vd=V at *
 have r20:r2.p.v≠0:=fun q=>by
  unfold FQ.is at i2
  rw[q,Int.zero_mul] at i2
  have hq:=r2.q1
  exact Int.mul_ne_zero h0 (by omega) i2.symm
 obtain⟨x,fx,ix,zx⟩:=zne r0 r2 r20 z0 z2 (by omega)
 obtain⟨y,fy,iy,zy⟩:=zne r1 r2 r20 z1 z2 (by omega)
 have ix:=zhq i0 i2 r20 ix
 have iy:=zhq i1 i2 r20 iy
 have sg:=zkA r2
 have s0:(cmpI r2.p.v 0=0)=False:=by rw[zaC];simp[r20]
 refine⟨x,y,?_,zgS (Int.mul_ne_zero hD h0) ix (by grind),zgS (Int.mul_ne_zero hD h0) iy (by grind),⟨Nat.le_trans zx.1 (by omega),Nat.le_trans zx.2 (by omega)⟩,⟨Nat.le_trans zy.1 (by omega),Nat.le_trans zy.2 (by omega)⟩⟩
 generalize max (nbits u.p.v.natAbs) (nbits u.q.v.natAbs)=A at *
 generalize max (nbits v.p.v.natAbs) (nbits v.q.v.natAbs)=B at *
 have t1:((A:Int)>1000)=False:=eq_false (by omega)
 have t2:((B:Int)>1000)=False:=eq_false (by omega)
 clear ix iy i0 i1 i2 ui vi
 have hF:PV.ag [.i .i64 (p 0),.i .i64 (p 1),.i .i64 (p 2),.i .i64 (p 3),.i .i64 (p 4),.i .i64 (p 5),.i .i64 (p 6),.i .i64 (p 7),.i .i64 (p 8)]=pI p:=rfl
 refine zaa (xf:=zzK) rfl (by simp[zzK]) ?_
 simp only[zzK]
 simp(disch:=omega)only[go_sem,seval,wqq,pv,d1,d2,t1,t2,zak,hF,zx3,gr3,f2,sg,s0]
 refine zaw [10] rfl (rfl) ?_
 simp(disch:=omega)only[go_sem,seval,wqq,zak,zy7,gr3,f0,fx]
 refine zaw [10] rfl (rfl) ?_
 simp(disch:=omega)only[go_sem,seval,wqq,zak,zmF,gr3,f1,fy]
 refine zax [13] [6] rfl ?_ ?_
 ·simp(disch:=omega)only[go_sem,seval,wqq]
  exact⟨_,rfl,rfl⟩
 simp(disch:=omega)only[go_sem,seval,wqq]
end Go.Eng
namespace Go.Eng
def q8 (a b c d e f g h:Int):PV:=.ag [.i .i64 a,.i .i64 b,.i .i64 c,.i .i64 d,.i .i64 e,.i .i64 f,.i .i64 g,.i .i64 h]
noncomputable def bsW (w:Nat→WI) (f0 f1 f2:WI):Nat→WI:=fun e=>tW (w e) (if e%3=0 then f0 else if e%3=1 then f1 else f2)
set_option maxHeartbeats 8000000 in
set_option maxRecDepth 100000 in
theorem zpi {x0 y0 x1 y1 x2 y2 x3 y3:Int} (hx0:Fits64 x0) (hy0:Fits64 y0) (hx1:Fits64 x1) (hy1:Fits64 y1) (hx2:Fits64 x2) (hy2:Fits64 y2) (hx3:Fits64 x3) (hy3:Fits64 y3)
  {w:Nat→WI} {f0 f1 f2:WI} (hw:w=ofW (colI x0 x1 x2 y0 y1 y2)) (h0:f0=dtW (ofW (colI x3 x1 x2 y3 y1 y2))) (h1:f1=dtW (ofW (colI x0 x3 x2 y0 y3 y2))) (h2:f2=dtW (ofW (colI x0 x1 x3 y0 y1 y3)))
  (n0:f0.v≠0) (n1:f1.v≠0) (n2:f2.v≠0) (n3:(dtW (bsW w f0 f1 f2)).v≠0):pf E0 315 [q8 x0 y0 x1 y1 x2 y2 x3 y3]=some (.tu [mW (bsW w f0 f1 f2),.b true]):=by
 have c0:=zdj hx0 hx1 hx2 hy0 hy1 hy2
 have c1:=zdj hx3 hx1 hx2 hy3 hy1 hy2
 have c2:=zdj hx0 hx3 hx2 hy0 hy3 hy2
 have c3:=zdj hx0 hx1 hx3 hy0 hy1 hy3
 have d1:=zgg (ofW (colI x3 x1 x2 y3 y1 y2))
 have d2:=zgg (ofW (colI x0 x3 x2 y0 y3 y2))
 have d3:=zgg (ofW (colI x0 x1 x3 y0 y1 y3))
 rw[←hw] at c0
 rw[←h0] at d1
 rw[←h1] at d2
 rw[←h2] at d3
 generalize ofW (colI x3 x1 x2 y3 y1 y2)=w1 at *
 generalize ofW (colI x0 x3 x2 y0 y3 y2)=w2 at *
 generalize ofW (colI x0 x1 x3 y0 y1 y3)=w3 at *
 clear hw h0 h1 h2
 have s0:=za6 f0
 have s1:=za6 f1
 have s2:=za6 f2
 have e0:(cmpI f0.v 0=0)=False:=by rw[zaC];simp[n0]
 have e1:(cmpI f1.v 0=0)=False:=by rw[zaC];simp[n1]
 have e2:(cmpI f2.v 0=0)=False:=by rw[zaC];simp[n2]
 have d4:=zgg (bsW w f0 f1 f2)
 have s4:=za6 (dtW (bsW w f0 f1 f2))
 have e4:(cmpI (dtW (bsW w f0 f1 f2)).v 0=0)=False:=by rw[zaC];simp[n3]
 have t0:=zaF (w 0) f0
 have t1:=zaF (w 1) f1
 have t2:=zaF (w 2) f2
 have t3:=zaF (w 3) f0
 have t4:=zaF (w 4) f1
 have t5:=zaF (w 5) f2
 have t6:=zaF (w 6) f0
 have t7:=zaF (w 7) f1
 have t8:=zaF (w 8) f2
 have hB:PV.ag [.b (decide ((tW (w 0) f0).v<0)),D (tW (w 0) f0).v.natAbs,.b (decide ((tW (w 1) f1).v<0)),D (tW (w 1) f1).v.natAbs,.b (decide ((tW (w 2) f2).v<0)),D (tW (w 2) f2).v.natAbs,.b (decide ((tW (w 3) f0).v<0)),D (tW (w 3) f0).v.natAbs,.b (decide ((tW (w 4) f1).v<0)),D (tW (w 4) f1).v.natAbs,.b (decide ((tW (w 5) f2).v<0)),D (tW (w 5) f2).v.natAbs,.b (decide ((tW (w 6) f0).v<0)),D (tW (w 6) f0).v.natAbs,.b (decide ((tW (w 7) f1).v<0)),D (tW (w 7) f1).v.natAbs,.b (decide ((tW (w 8) f2).v<0)),D (tW (w 8) f2).v.natAbs]=mW (bsW w f0 f1 f2):=rfl
 generalize dtW (bsW w f0 f1 f2)=dd at *
 generalize bsW w f0 f1 f2=bs at *
 generalize tW (w 0) f0=r0 at *
 generalize tW (w 1) f1=r1 at *
 generalize tW (w 2) f2=r2 at *
 generalize tW (w 3) f0=r3 at *
 generalize tW (w 4) f1=r4 at *
 generalize tW (w 5) f2=r5 at *
 generalize tW (w 6) f0=r6 at *
 generalize tW (w 7) f1=r7 at *
 generalize tW (w 8) f2=r8 at *
 unfold q8
 refine zaa (xf:=zBf) rfl (by simp[zBf]) ?_
 simp only[zBf]
 simp(disch:=omega)only[go_sem,seval,wqq,c0]
 refine zd8 [28,30,32,37,39,41] [18,27,36] rfl ?_ ?_
 ·simp(disch:=omega)only[go_sem,seval,wqq,c1,c2,c3,d1,d2,d3,zai,zad]
  exact⟨_,rfl,rfl,rfl⟩
 simp(disch:=omega)only[go_sem,seval,wqq,c1,c2,c3,d1,d2,d3,zai,zad]
 refine zal zAG.eq_1 ?_
 simp(disch:=omega)only[go_sem,seval,wqq,s0,e0]
 refine zal zzN.eq_1 ?_
 simp(disch:=omega)only[go_sem,seval,wqq,zau,t0]
 refine zal zzN.eq_1 ?_
 simp(disch:=omega)only[go_sem,seval,wqq,zau,t3]
 refine zal zzN.eq_1 ?_
 simp(disch:=omega)only[go_sem,seval,wqq,zau,t6]
 refine zal zzN.eq_1 ?_
 simp(disch:=omega)only[go_sem,seval,wqq]
 refine zal zAG.eq_1 ?_
 simp(disch:=omega)only[go_sem,seval,wqq,s1,e1]
 refine zal zzN.eq_1 ?_
 simp(disch:=omega)only[go_sem,seval,wqq,zau,t1]
 refine zal zzN.eq_1 ?_
 simp(disch:=omega)only[go_sem,seval,wqq,zau,t4]
 refine zal zzN.eq_1 ?_
 simp(disch:=omega)only[go_sem,seval,wqq,zau,t7]
 refine zal zzN.eq_1 ?_
 simp(disch:=omega)only[go_sem,seval,wqq]
 refine zal zAG.eq_1 ?_
 simp(disch:=omega)only[go_sem,seval,wqq,s2,e2]
 refine zal zzN.eq_1 ?_
 simp(disch:=omega)only[go_sem,seval,wqq,zau,t2]
 refine zal zzN.eq_1 ?_
 simp(disch:=omega)only[go_sem,seval,wqq,zau,t5]
 refine zal zzN.eq_1 ?_
 simp(disch:=omega)only[go_sem,seval,wqq,zau,t8]
 refine zal zzN.eq_1 ?_
 simp(disch:=omega)only[go_sem,seval,wqq]
 refine zal zAG.eq_1 ?_
 simp(disch:=omega)only[go_sem,seval,wqq]
 refine zaw [5] rfl (rfl) ?_
 simp(disch:=omega)only[go_sem,seval,wqq,hB,d4,s4,e4]
def okQ (x:Int):Prop := -1048576≤x∧x≤1048576
theorem zdK {x y:Int} (hx:okQ x) (hy:okQ y):((if y>x then y else x)>1048576)=False∧((if y<x then y else x) < -1048576)=False:=by
 unfold okQ at hx hy
 exact⟨eq_false (by split<;>omega),eq_false (by split<;>omega)⟩
set_option maxHeartbeats 8000000 in
set_option maxRecDepth 100000 in
theorem zo7 {x0 y0 x1 y1 x2 y2 x3 y3 u0 v0 u1 v1 u2 v2 u3 v3:Int} (hx0:okQ x0) (hy0:okQ y0) (hx1:okQ x1) (hy1:okQ y1) (hx2:okQ x2) (hy2:okQ y2) (hx3:okQ x3) (hy3:okQ y3) (hu0:okQ u0) (hv0:okQ v0) (hu1:okQ u1) (hv1:okQ v1) (hu2:okQ u2) (hv2:okQ v2) (hu3:okQ u3) (hv3:okQ v3)
  {A B:Nat→WI} (ba:pf E0 315 [q8 x0 y0 x1 y1 x2 y2 x3 y3]=some (.tu [mW A,.b true])) (bb:pf E0 315 [q8 u0 v0 u1 v1 u2 v2 u3 v3]=some (.tu [mW B,.b true])) (hg:gN (fun e=>(prW B (adW A) e).v) 9≠0) :
  pf E0 309 [q8 x0 y0 x1 y1 x2 y2 x3 y3,q8 u0 v0 u1 v1 u2 v2 u3 v3]=some (.tu [pI (nfP fun e=>(prW B (adW A) e).v),.i .i64 (nfE fun e=>(prW B (adW A) e).v)]):=by
 have ad:=zph A
 have pr:=zrI B (adW A)
 have nm:=zkH (prW B (adW A)) hg
 generalize nfP (fun e=>(prW B (adW A) e).v)=P at *
 generalize nfE (fun e=>(prW B (adW A) e).v)=E at *
 generalize prW B (adW A)=Q at *
 generalize adW A=R at *
 obtain⟨a0,b0⟩:=zdK hx0 hy0
 obtain⟨a1,b1⟩:=zdK hx1 hy1
 obtain⟨a2,b2⟩:=zdK hx2 hy2
 obtain⟨a3,b3⟩:=zdK hx3 hy3
 obtain⟨a4,b4⟩:=zdK hu0 hv0
 obtain⟨a5,b5⟩:=zdK hu1 hv1
 obtain⟨a6,b6⟩:=zdK hu2 hv2
 obtain⟨a7,b7⟩:=zdK hu3 hv3
 unfold q8 at ba bb ⊢
 refine zaa (xf:=zBG) rfl (by simp[zBG]) ?_
 simp only[zBG]
 simp(disch:=omega)only[go_sem,seval,wqq,zai,zad]
 refine zal zBu.eq_1 ?_
 simp(disch:=omega)only[go_sem,seval,wqq]
 refine zal zzT.eq_1 ?_
 simp(disch:=omega)only[go_sem,seval,wqq,q8,a0,b0]
 refine zal zzT.eq_1 ?_
 simp(disch:=omega)only[go_sem,seval,wqq,q8,a1,b1]
 refine zal zzT.eq_1 ?_
 simp(disch:=omega)only[go_sem,seval,wqq,q8,a2,b2]
 refine zal zzT.eq_1 ?_
 simp(disch:=omega)only[go_sem,seval,wqq,q8,a3,b3]
 refine zal zzT.eq_1 ?_
 simp(disch:=omega)only[go_sem,seval,wqq]
 refine zal zBu.eq_1 ?_
 simp(disch:=omega)only[go_sem,seval,wqq]
 refine zal zzT.eq_1 ?_
 simp(disch:=omega)only[go_sem,seval,wqq,q8,a4,b4]
 refine zal zzT.eq_1 ?_
 simp(disch:=omega)only[go_sem,seval,wqq,q8,a5,b5]
 refine zal zzT.eq_1 ?_
 simp(disch:=omega)only[go_sem,seval,wqq,q8,a6,b6]
 refine zal zzT.eq_1 ?_
 simp(disch:=omega)only[go_sem,seval,wqq,q8,a7,b7]
 refine zal zzT.eq_1 ?_
 simp(disch:=omega)only[go_sem,seval,wqq]
 refine zal zBu.eq_1 ?_
 simp(disch:=omega)only[go_sem,seval,wqq,ba,bb]
 refine zaw [12] rfl (rfl) ?_
 simp(disch:=omega)only[go_sem,seval,wqq,ad,pr,nm]
end Go.Eng
namespace Go.Eng
end Go.Eng
namespace Go.Eng
theorem ztL {x:Nat→WI} {n:Nat} (hx:∀e,wlen (x e).v.natAbs≤n) (hn:n≤100):wlen (dtW x).v.natAbs≤3*n+4:=by
 rw[ztM hx hn]
 have key:∀a b c d e:Nat,wlen (rtK (x a).v (x b).v (x c).v (x d).v (x e).v).natAbs≤3*n+1:=fun a b c d e=>by
  have h1:=zcC (x b).v (x c).v
  have h2:=zcC (x a).v ((x b).v*(x c).v)
  have h3:=zcC (x d).v (x e).v
  have h4:=zcC (x a).v ((x d).v*(x e).v)
  have h5:=zgs ((x a).v*((x b).v*(x c).v)) ((x a).v*((x d).v*(x e).v))
  have h5:wlen (rtK (x a).v (x b).v (x c).v (x d).v (x e).v).natAbs≤_:=h5
  have:=hx a
  have:=hx b
  have:=hx c
  have:=hx d
  have:=hx e
  omega
 have k1:=key 0 4 8 5 7
 have k2:=key 1 5 6 3 8
 have k3:=key 2 3 7 4 6
 have a1:=zcB 0 (rtK (x 0).v (x 4).v (x 8).v (x 5).v (x 7).v)
 have a2:=zcB (0+rtK (x 0).v (x 4).v (x 8).v (x 5).v (x 7).v) (rtK (x 1).v (x 5).v (x 6).v (x 3).v (x 8).v)
 have a3:=zcB (0+rtK (x 0).v (x 4).v (x 8).v (x 5).v (x 7).v+rtK (x 1).v (x 5).v (x 6).v (x 3).v (x 8).v) (rtK (x 2).v (x 3).v (x 7).v (x 4).v (x 6).v)
 rw[Int.natAbs_zero,zbI] at a1
 show wlen (0+rtK (x 0).v (x 4).v (x 8).v (x 5).v (x 7).v+rtK (x 1).v (x 5).v (x 6).v (x 3).v (x 8).v+rtK (x 2).v (x 3).v (x 7).v (x 4).v (x 6).v).natAbs≤_
 omega
def bsV (c:Nat→Int) (F0 F1 F2:Int):Nat→Int:=fun e=>c e*(if e%3=0 then F0 else if e%3=1 then F1 else F2)
theorem zyx {c:Nat→Int} (hc:∀e,Fits64 (c e)) {f0 f1 f2:WI} (l0:wlen f0.v.natAbs≤10) (l1:wlen f1.v.natAbs≤10) (l2:wlen f2.v.natAbs≤10) (e:Nat) :
  (bsW (ofW c) f0 f1 f2 e).v=bsV c f0.v f1.v f2.v e∧wlen (bsW (ofW c) f0 f1 f2 e).v.natAbs≤12:=by
 have hf:wlen (if e%3=0 then f0 else if e%3=1 then f1 else f2).v.natAbs≤10:=by
  split
  ·exact l0
  ·split
   ·exact l1
   ·exact l2
 obtain⟨h1,h2⟩:=zmL (ziL hc e) hf (by decide)
 have e1:(bsW (ofW c) f0 f1 f2 e).v=(ofW c e).v*(if e%3=0 then f0 else if e%3=1 then f1 else f2).v:=h1
 rw[e1]
 refine⟨?_,h2⟩
 rw[zoP (hc e)]
 unfold bsV
 congr 1
 split
 ·rfl
 ·split<;>rfl
theorem zao {x:Int} (h:okQ x):Fits64 x:=by unfold okQ at h;unfold Fits64;omega
def baV (x0 y0 x1 y1 x2 y2 x3 y3:Int):Nat→Int:=bsV (colI x0 x1 x2 y0 y1 y2) (rdV (colI x3 x1 x2 y3 y1 y2)) (rdV (colI x0 x3 x2 y0 y3 y2)) (rdV (colI x0 x1 x3 y0 y1 y3))
theorem zhW {x0 y0 x1 y1 x2 y2 x3 y3:Int} (hx0:okQ x0) (hy0:okQ y0) (hx1:okQ x1) (hy1:okQ y1) (hx2:okQ x2) (hy2:okQ y2) (hx3:okQ x3) (hy3:okQ y3)
  (n0:rdV (colI x3 x1 x2 y3 y1 y2)≠0) (n1:rdV (colI x0 x3 x2 y0 y3 y2)≠0) (n2:rdV (colI x0 x1 x3 y0 y1 y3)≠0) (n3:rdV (baV x0 y0 x1 y1 x2 y2 x3 y3)≠0) :
  ∃A:Nat→WI,pf E0 315 [q8 x0 y0 x1 y1 x2 y2 x3 y3]=some (.tu [mW A,.b true])∧(fun e=>(A e).v)=baV x0 y0 x1 y1 x2 y2 x3 y3∧∀e,wlen (A e).v.natAbs≤12:=by
 have c0:=zcq (zao hx0) (zao hx1) (zao hx2) (zao hy0) (zao hy1) (zao hy2)
 have c1:=zcq (zao hx3) (zao hx1) (zao hx2) (zao hy3) (zao hy1) (zao hy2)
 have c2:=zcq (zao hx0) (zao hx3) (zao hx2) (zao hy0) (zao hy3) (zao hy2)
 have c3:=zcq (zao hx0) (zao hx1) (zao hx3) (zao hy0) (zao hy1) (zao hy3)
 have l1:=ztL (ziL c1) (by decide)
 have l2:=ztL (ziL c2) (by decide)
 have l3:=ztL (ziL c3) (by decide)
 have e1:=zp3 c1
 have e2:=zp3 c2
 have e3:=zp3 c3
 have bv:=zyx c0 l1 l2 l3
 have bf:(fun e=>(bsW (ofW (colI x0 x1 x2 y0 y1 y2)) (dtW (ofW (colI x3 x1 x2 y3 y1 y2))) (dtW (ofW (colI x0 x3 x2 y0 y3 y2))) (dtW (ofW (colI x0 x1 x3 y0 y1 y3))) e).v)=baV x0 y0 x1 y1 x2 y2 x3 y3:=funext fun e=>by
  rw[(bv e).1,e1,e2,e3];rfl
 refine⟨_,zpi (zao hx0) (zao hy0) (zao hx1) (zao hy1) (zao hx2) (zao hy2) (zao hx3) (zao hy3) rfl rfl rfl rfl (by rw[e1];exact n0) (by rw[e2];exact n1) (by rw[e3];exact n2) ?_,bf,fun e=>(bv e).2⟩
 rw[ztM (fun e=>(bv e).2) (by decide),bf]
 exact n3
theorem zo8 {x0 y0 x1 y1 x2 y2 x3 y3 u0 v0 u1 v1 u2 v2 u3 v3:Int} (hx0:okQ x0) (hy0:okQ y0) (hx1:okQ x1) (hy1:okQ y1) (hx2:okQ x2) (hy2:okQ y2) (hx3:okQ x3) (hy3:okQ y3) (hu0:okQ u0) (hv0:okQ v0) (hu1:okQ u1) (hv1:okQ v1) (hu2:okQ u2) (hv2:okQ v2) (hu3:okQ u3) (hv3:okQ v3)
  (n0:rdV (colI x3 x1 x2 y3 y1 y2)≠0) (n1:rdV (colI x0 x3 x2 y0 y3 y2)≠0) (n2:rdV (colI x0 x1 x3 y0 y1 y3)≠0) (n3:rdV (baV x0 y0 x1 y1 x2 y2 x3 y3)≠0)
  (m0:rdV (colI u3 u1 u2 v3 v1 v2)≠0) (m1:rdV (colI u0 u3 u2 v0 v3 v2)≠0) (m2:rdV (colI u0 u1 u3 v0 v1 v3)≠0) (m3:rdV (baV u0 v0 u1 v1 u2 v2 u3 v3)≠0)
  {Y:Nat→Int} (hY:Y=rprV (baV u0 v0 u1 v1 u2 v2 u3 v3) (adV (baV x0 y0 x1 y1 x2 y2 x3 y3))) (hg:gN Y 9≠0) :
  pf E0 309 [q8 x0 y0 x1 y1 x2 y2 x3 y3,q8 u0 v0 u1 v1 u2 v2 u3 v3]=some (.tu [pI (nfP Y),.i .i64 (nfE Y)]):=by
 obtain⟨A,fa,va,la⟩:=zhW hx0 hy0 hx1 hy1 hx2 hy2 hx3 hy3 n0 n1 n2 n3
 obtain⟨B,fb,vb,lb⟩:=zhW hu0 hv0 hu1 hv1 hu2 hv2 hu3 hv3 m0 m1 m2 m3
 have ml:∀e,(adW A e).v=adV (baV x0 y0 x1 y1 x2 y2 x3 y3) e∧wlen (adW A e).v.natAbs≤25:=fun e=>by
  obtain⟨h1,h2⟩:=zq3 la (by decide) (e%3) (e/3)
  rw[va] at h1
  exact⟨h1,h2⟩
 have pe:(fun e=>(prW B (adW A) e).v)=Y:=funext fun e=>by
  rw[zy1 (n:=25) (fun e=>Nat.le_trans (lb e) (by decide)) (fun e=>(ml e).2) (by decide) e,vb,hY]
  congr 1
  exact funext fun e=>(ml e).1
 have:=zo7 hx0 hy0 hx1 hy1 hx2 hy2 hx3 hy3 hu0 hv0 hu1 hv1 hu2 hv2 hu3 hv3 fa fb (by rw[pe];exact hg)
 rw[pe] at this
 exact this
end Go.Eng
namespace Go.Eng
def tb (l:List Int):Nat→Int:=fun e=>l.getD e 0
theorem zhc {l:List Int} (h:∀n∈l,Fits64 n) (e:Nat):Fits64 (tb l e):=by
 unfold tb
 by_cases he:e<l.length
 ·exact h _ (by simp[List.getD,List.getElem?_eq_getElem he])
 ·have:l.getD e 0=0:=by simp[List.getD,List.getElem?_eq_none (Nat.le_of_not_lt he)]
  rw[this];decide
theorem zkf {X:Nat→Int} {g:Nat} {s:Int} (hg:gN X 9=g) (hs:fN X 9=s) (hq:∀e,e<9 → -1073741824≤X e/(g:Int)∧X e/(g:Int)≤1073741824):nfP X=(fun e=>X e/(g:Int)*s)∧nfE X=0:=by
 subst hg hs
 have ok:okN X:=hq
 exact⟨by unfold nfP;rw[if_pos ok],by unfold nfE;rw[if_pos ok]⟩
theorem zkR {n:Int} (hn:Fits64 n):∃f:FQ,f.is n 1∧fsz 5 f∧f.p.v=n∧f.q.v=1∧pf E0 304 [.i .i64 n]=some (fqP f):=by
 have hn':=hn
 unfold Fits64 at hn'
 obtain⟨f,f1,f2,fo⟩:=zmm hn (q:=1) (by decide) (by decide)
 obtain⟨l1,l2⟩:=zde (p:=n) (q:=1) (by decide) (Nat.gcd_one_right _)
 have f1:=f1.trans l1
 have f2:=f2.trans l2
 have fi:=zb7 f
 rw[f1,f2] at fi
 refine⟨f,fi,⟨by rw[f1];exact zah (by omega),by rw[f2];exact zah (by decide)⟩,f1,f2,?_⟩
 refine zaa (xf:=zBH) rfl (by simp[zBH]) ?_
 simp only[zBH]
 simp(disch:=omega)only[go_sem,seval,wqq,fo]
theorem zwX {f:FQ} (h1:f.p.v.natAbs≤4611686018427387904) (h2:f.q.v.natAbs≤4611686018427387904):max (nbits f.p.v.natAbs) (nbits f.q.v.natAbs)≤1000:=by
 have a:=zdg (k:=f.p.v.natAbs) (n:=63) (by omega)
 have b:=zdg (k:=f.q.v.natAbs) (n:=63) (by omega)
 omega
theorem eq9 (a b c d e f g h i:Int):eqCellsP [1,1,1,1,1,1,1,1,1] [PV.i .i64 a,PV.i .i64 b,PV.i .i64 c,PV.i .i64 d,PV.i .i64 e,PV.i .i64 f,PV.i .i64 g,PV.i .i64 h,PV.i .i64 i] [PV.i .i64 a,PV.i .i64 b,PV.i .i64 c,PV.i .i64 d,PV.i .i64 e,PV.i .i64 f,PV.i .i64 g,PV.i .i64 h,PV.i .i64 i]=some true:=by
 simp[eqCellsP,eqCellP]
def pQ:Nat→Int:=tb [2,0,3,0,2,5,0,0,1]
def rQ:Nat→Int:=tb [6,0,0,0,6,0,-1,-1,4]
def yQ:Nat→Int:=rprV (baV 0 0 2 0 3 3 0 2) (adV (baV 0 0 1 0 1 1 0 1))
theorem zhf {p:Nat→Int} (hp:∀e,Fits64 (p e)) (ok:okP p) (h:rdV p≠0):vlP p=0:=by
 unfold vlP
 rw[if_pos ok,zp3 hp,if_neg h]
theorem zpl:pf E0 308 [pI pQ]=some (.tu [.ag [.i .i64 1,.i .i64 0,.i .i64 (-3),.i .i64 0,.i .i64 1,.i .i64 (-5),.i .i64 0,.i .i64 0,.i .i64 2],.i .i64 0]):=by
 have hp:∀e,Fits64 (pQ e):=zhc (by decide)
 have v0:vlP pQ=0:=zhf hp (fun e he=>by obtain rfl|rfl|rfl|rfl|rfl|rfl|rfl|rfl|rfl:=zfv he<;>decide) (by decide)
 have h:=zkq hp
 unfold IP IE at h
 rw[if_pos v0,if_pos v0] at h
 obtain⟨e1,e2⟩:=zkf (X:=adV pQ) (g:=2) (s:=1) (by decide) (by decide) (fun e he=>by obtain rfl|rfl|rfl|rfl|rfl|rfl|rfl|rfl|rfl:=zfv he<;>decide)
 rw[e1,e2] at h
 have w0:adV pQ 0/((2:Nat):Int)*1=1:=by decide
 have w1:adV pQ 1/((2:Nat):Int)*1=0:=by decide
 have w2:adV pQ 2/((2:Nat):Int)*1=(-3):=by decide
 have w3:adV pQ 3/((2:Nat):Int)*1=0:=by decide
 have w4:adV pQ 4/((2:Nat):Int)*1=1:=by decide
 have w5:adV pQ 5/((2:Nat):Int)*1=(-5):=by decide
 have w6:adV pQ 6/((2:Nat):Int)*1=0:=by decide
 have w7:adV pQ 7/((2:Nat):Int)*1=0:=by decide
 have w8:adV pQ 8/((2:Nat):Int)*1=2:=by decide
 unfold pI cI at h
 simp only[w0,w1,w2,w3,w4,w5,w6,w7,w8] at h
 unfold pI cI
 exact h
theorem zmn:pf E0 309 [q8 0 0 1 0 1 1 0 1,q8 0 0 2 0 3 3 0 2]=some (.tu [.ag [.i .i64 6,.i .i64 0,.i .i64 0,.i .i64 0,.i .i64 6,.i .i64 0,.i .i64 (-1),.i .i64 (-1),.i .i64 4],.i .i64 0]):=by
 have h:=zo8 (x0:=0) (y0:=0) (x1:=1) (y1:=0) (x2:=1) (y2:=1) (x3:=0) (y3:=1) (u0:=0) (v0:=0) (u1:=2) (v1:=0) (u2:=3) (v2:=3) (u3:=0) (v3:=2) (by unfold okQ;decide) (by unfold okQ;decide) (by unfold okQ;decide) (by unfold okQ;decide) (by unfold okQ;decide) (by unfold okQ;decide) (by unfold okQ;decide) (by unfold okQ;decide) (by unfold okQ;decide) (by unfold okQ;decide) (by unfold okQ;decide) (by unfold okQ;decide) (by unfold okQ;decide) (by unfold okQ;decide) (by unfold okQ;decide) (by unfold okQ;decide)
  (by decide) (by decide) (by decide) (by decide) (by decide) (by decide) (by decide) (by decide) (Y:=yQ) rfl (by decide)
 obtain⟨e1,e2⟩:=zkf (X:=yQ) (g:=2) (s:=(-1)) (by decide) (by decide) (fun e he=>by obtain rfl|rfl|rfl|rfl|rfl|rfl|rfl|rfl|rfl:=zfv he<;>decide)
 rw[e1,e2] at h
 have w0:yQ 0/((2:Nat):Int)*(-1)=6:=by decide
 have w1:yQ 1/((2:Nat):Int)*(-1)=0:=by decide
 have w2:yQ 2/((2:Nat):Int)*(-1)=0:=by decide
 have w3:yQ 3/((2:Nat):Int)*(-1)=0:=by decide
 have w4:yQ 4/((2:Nat):Int)*(-1)=6:=by decide
 have w5:yQ 5/((2:Nat):Int)*(-1)=0:=by decide
 have w6:yQ 6/((2:Nat):Int)*(-1)=(-1):=by decide
 have w7:yQ 7/((2:Nat):Int)*(-1)=(-1):=by decide
 have w8:yQ 8/((2:Nat):Int)*(-1)=4:=by decide
 unfold pI cI at h
 simp only[w0,w1,w2,w3,w4,w5,w6,w7,w8] at h
 exact h
set_option maxHeartbeats 4000000 in
set_option maxRecDepth 20000 in
theorem zkE:pf E0 303 []=some (.b true):=by
 have hp:∀e,Fits64 (pQ e):=zhc (by decide)
 have hr:∀e,Fits64 (rQ e):=zhc (by decide)
 have vp:vlP pQ=0:=zhf hp (fun e he=>by obtain rfl|rfl|rfl|rfl|rfl|rfl|rfl|rfl|rfl:=zfv he<;>decide) (by decide)
 have vr:vlP rQ=0:=zhf hr (fun e he=>by obtain rfl|rfl|rfl|rfl|rfl|rfl|rfl|rfl|rfl:=zfv he<;>decide) (by decide)
 obtain⟨h,h1,h2,ho⟩:=zmm (p:=1) (q:=2) (by decide) (by decide) (by decide)
 have l1:lowP 1 2=1∧lowQ 1 2=2:=zde (p:=1) (q:=2) (by decide) (by decide)
 have h1:=h1.trans l1.1
 have h2:=h2.trans l1.2
 have hi:=zb7 h
 rw[h1,h2] at hi
 have hz:fsz 5 h:=⟨by rw[h1];exact zah (by decide),by rw[h2];exact zah (by decide)⟩
 have hd:=zwX (f:=h) (by rw[h1];decide) (by rw[h2];decide)
 obtain⟨o,oi,oz,o1,o2,oo⟩:=zkR (n:=1) (by decide)
 have od:=zwX (f:=o) (by rw[o1];decide) (by rw[o2];decide)
 obtain⟨x,y,ap,xi,yi,_,_⟩:=zgX hp vp hz oz (by decide) (by decide) (by decide) hi oi hd od (by decide)
 obtain⟨u,v,aq,ui,vi,_,_⟩:=zgX hr vr hz hz (by decide) (by decide) (by decide) hi hi hd hd (by decide)
 obtain⟨x1,x2⟩:=zhI (p:=4) (q:=1) (by decide) (by decide) (by decide) xi (by decide)
 obtain⟨y1,y2⟩:=zhI (p:=7) (q:=1) (by decide) (by decide) (by decide) yi (by decide)
 obtain⟨u1,u2⟩:=zhI (p:=1) (q:=1) (by decide) (by decide) (by decide) ui (by decide)
 obtain⟨v1,v2⟩:=zhI (p:=1) (q:=1) (by decide) (by decide) (by decide) vi (by decide)
 have d4:decI 4=[52]:=(zjz (v:=4) (n:=0) rfl (by decide) (by decide)).trans rfl
 have d7:decI 7=[55]:=(zjz (v:=7) (n:=0) rfl (by decide) (by decide)).trans rfl
 have d1:decI 1=[49]:=(zjz (v:=1) (n:=0) rfl (by decide) (by decide)).trans rfl
 have s1:=ziq x (t:=[52]) x1 x2 (by unfold ftx;rw[if_pos rfl,d4])
 have s2:=ziq y (t:=[55]) y1 y2 (by unfold ftx;rw[if_pos rfl,d7])
 have s3:=ziq u (t:=[49]) u1 u2 (by unfold ftx;rw[if_pos rfl,d1])
 have s4:=ziq v (t:=[49]) v1 v2 (by unfold ftx;rw[if_pos rfl,d1])
 have fr:=zmn
 have iv:=zpl
 have ePQ:pI pQ=.ag [.i .i64 2,.i .i64 0,.i .i64 3,.i .i64 0,.i .i64 2,.i .i64 5,.i .i64 0,.i .i64 0,.i .i64 1]:=rfl
 have eRQ:pI rQ=.ag [.i .i64 6,.i .i64 0,.i .i64 0,.i .i64 0,.i .i64 6,.i .i64 0,.i .i64 (-1),.i .i64 (-1),.i .i64 4]:=rfl
 rw[ePQ] at ap iv
 rw[eRQ] at aq
 unfold q8 at fr
 clear xi yi ui vi hi oi vp vr hp hr
 refine zaa (xf:=zBL) rfl (by simp[zBL]) ?_
 simp only[zBL]
 simp(disch:=omega)only[go_sem,seval,wqq,ho,zai,zad]
 refine zaw [1,2] rfl (rfl) ?_
 simp(disch:=omega)only[go_sem,seval,wqq,oo,ap,iv,fr,aq,s1,s2,s3,s4,eq9,zai,zad]
end Go.Eng
namespace Go.Eng
theorem zkb {k n:Nat} (h:2^n≤k):n<nbits k:=by
 have h0:k≠0:=fun q=>by have:=Nat.two_pow_pos n;omega
 unfold nbits
 rw[if_neg h0]
 have:=(Nat.le_log2 h0).2 h
 omega
theorem zlE {k n:Nat} (h:nbits k≤n):k<2^n:=Nat.lt_of_not_le fun q=>by have:=zkb q;omega
theorem zwh:(2:Nat)^250≤10000^19:=by decide
theorem zfW {k:Nat} (h:nbits k≤1000):tlen k≤76:=by
 have h2:nbits k≤250*4:=h
 have e1:∀m:Nat,m=250→2^(m*4)≤10000^(19*4):=fun m hm=>by
  rw[Nat.pow_mul,Nat.pow_mul]
  exact Nat.pow_le_pow_left (by rw[hm];exact zwh) 4
 refine za3.2 (Nat.lt_of_lt_of_le (zlE h2) (e1 250 rfl))
def fw (f:FQ):Prop:=nbits f.p.v.natAbs≤1000∧nbits f.q.v.natAbs≤1000
def rwF (p:Nat→Int) (i:Nat) (u v:FQ):Int:=rwV (p (3*i)) (p (3*i+1)) (p (3*i+2)) u.p.v u.q.v v.p.v v.q.v
open Classical in
noncomputable def aE (p:Nat→Int) (u v:FQ):Int:=if vlP p=0 then (if fw u∧fw v then (if rwF p 2 u v=0 then 9 else 0) else 4) else vlP p
set_option maxHeartbeats 4000000 in
theorem zmk {p:Nat→Int} (hp:∀e,Fits64 (p e)) (u v:FQ) (h:vlP p≠0):pf E0 305 [pI p,fqP u,fqP v]=some (.tu [fqP fq0,fqP fq0,.i .i64 (vlP p)]):=by
 have pv:=zcI hp
 generalize vlP p=a at *
 have t:(a=0)=False:=eq_false h
 refine zaa (xf:=zzK) rfl (by simp[zzK]) ?_
 simp only[zzK]
 simp(disch:=omega)only[go_sem,seval,wqq,pv,t,zot]
set_option maxHeartbeats 4000000 in
theorem zmj {p:Nat→Int} (hp:∀e,Fits64 (p e)) (u v:FQ) (hv:vlP p=0) (h:¬(fw u∧fw v)):pf E0 305 [pI p,fqP u,fqP v]=some (.tu [fqP fq0,fqP fq0,.i .i64 4]):=by
 have pv:=zcI hp
 rw[hv] at pv
 have d1:=zbW u
 have d2:=zbW v
 have h':max (nbits u.p.v.natAbs) (nbits u.q.v.natAbs)>1000∨max (nbits v.p.v.natAbs) (nbits v.q.v.natAbs)>1000:=by unfold fw at h;omega
 generalize max (nbits u.p.v.natAbs) (nbits u.q.v.natAbs)=A at *
 generalize max (nbits v.p.v.natAbs) (nbits v.q.v.natAbs)=B at *
 clear h
 by_cases t:A>1000
 ·have t1:((A:Int)>1000)=True:=eq_true (by omega)
  refine zaa (xf:=zzK) rfl (by simp[zzK]) ?_
  simp only[zzK]
  simp(disch:=omega)only[go_sem,seval,wqq,pv,d1,d2,t1,zot]
 ·have t1:((A:Int)>1000)=False:=eq_false (by omega)
  have t2:((B:Int)>1000)=True:=eq_true (by omega)
  refine zaa (xf:=zzK) rfl (by simp[zzK]) ?_
  simp only[zzK]
  simp(disch:=omega)only[go_sem,seval,wqq,pv,d1,d2,t1,t2,zot]
theorem zhB {u:FQ} (h:fw u):fsz 76 u:=⟨zfW h.1,zfW h.2⟩
theorem ziC (u:FQ):u.q.v≠0:=by have:=u.q1;omega
set_option maxHeartbeats 4000000 in
theorem zml {p:Nat→Int} (hp:∀e,Fits64 (p e)) (u v:FQ) (hv:vlP p=0) (h:fw u∧fw v) (h0:rwF p 2 u v=0):pf E0 305 [pI p,fqP u,fqP v]=some (.tu [fqP fq0,fqP fq0,.i .i64 9]):=by
 have pv:=zcI hp
 rw[hv] at pv
 have d1:=zbW u
 have d2:=zbW v
 obtain⟨r2,f2,i2,z2⟩:=zh3 (hp 6) (hp 7) (hp 8) (zhB h.1) (zhB h.2) (by omega) (ziC u) (ziC v) (zb7 u) (zb7 v)
 have i2:r2.is (rwF p 2 u v) (u.q.v*v.q.v):=i2
 rw[h0] at i2
 have r20:r2.p.v=0:=by
  unfold FQ.is at i2
  rw[Int.zero_mul] at i2
  exact(Int.mul_eq_zero.1 i2).resolve_right (Int.mul_ne_zero (ziC u) (ziC v))
 have sg:=zkA r2
 rw[r20,show cmpI 0 0=0 from by decide] at sg
 have h':¬(max (nbits u.p.v.natAbs) (nbits u.q.v.natAbs)>1000)∧¬(max (nbits v.p.v.natAbs) (nbits v.q.v.natAbs)>1000):=by unfold fw at h;omega
 generalize max (nbits u.p.v.natAbs) (nbits u.q.v.natAbs)=A at *
 generalize max (nbits v.p.v.natAbs) (nbits v.q.v.natAbs)=B at *
 have t1:((A:Int)>1000)=False:=eq_false (by omega)
 have t2:((B:Int)>1000)=False:=eq_false (by omega)
 clear i2 h0 h
 have hF:PV.ag [.i .i64 (p 0),.i .i64 (p 1),.i .i64 (p 2),.i .i64 (p 3),.i .i64 (p 4),.i .i64 (p 5),.i .i64 (p 6),.i .i64 (p 7),.i .i64 (p 8)]=pI p:=rfl
 refine zaa (xf:=zzK) rfl (by simp[zzK]) ?_
 simp only[zzK]
 simp(disch:=omega)only[go_sem,seval,wqq,pv,d1,d2,t1,t2,zak,hF,zx3,gr3,f2,sg,zot]
theorem zmi {p:Nat→Int} (hp:∀e,Fits64 (p e)) (u v:FQ):∃x y:FQ,pf E0 305 [pI p,fqP u,fqP v]=some (.tu [fqP x,fqP y,.i .i64 (aE p u v)]) ∧
  (aE p u v=0→x.is (rwF p 0 u v) (rwF p 2 u v)∧y.is (rwF p 1 u v) (rwF p 2 u v)∧fsz 344 x∧fsz 344 y∧rwF p 2 u v≠0∧vlP p=0∧fw u∧fw v)∧(aE p u v≠0→x=fq0∧y=fq0):=by
 unfold aE
 by_cases hv:vlP p=0
 ·rw[if_pos hv]
  by_cases h:fw u∧fw v
  ·rw[if_pos h]
   by_cases h0:rwF p 2 u v=0
   ·rw[if_pos h0]
    exact⟨fq0,fq0,zml hp u v hv h h0,fun q=>absurd q (by decide),fun _=>⟨rfl,rfl⟩⟩
   ·rw[if_neg h0]
    obtain⟨x,y,e,ix,iy,zx,zy⟩:=zgX hp hv (zhB h.1) (zhB h.2) (by omega) (ziC u) (ziC v) (zb7 u) (zb7 v) (Nat.max_le.2 h.1) (Nat.max_le.2 h.2) h0
    exact⟨x,y,e,fun _=>⟨ix,iy,zx,zy,h0,hv,h.1,h.2⟩,fun q=>absurd rfl q⟩
  ·rw[if_neg h]
   exact⟨fq0,fq0,zmj hp u v hv h,fun q=>absurd q (by decide),fun _=>⟨rfl,rfl⟩⟩
 ·rw[if_neg hv]
  exact⟨fq0,fq0,zmk hp u v hv,fun q=>absurd q hv,fun _=>⟨rfl,rfl⟩⟩
end Go.Eng
namespace Go.Eng
def oneI:Nat→Int:=fun e=>if e%4=0 then 1 else 0
end Go.Eng
namespace Go.Eng
end Go.Eng
namespace Go.Eng
theorem hF (p:Nat→Int):PV.ag [.i .i64 (p 0),.i .i64 (p 1),.i .i64 (p 2),.i .i64 (p 3),.i .i64 (p 4),.i .i64 (p 5),.i .i64 (p 6),.i .i64 (p 7),.i .i64 (p 8)]=pI p:=rfl
def e9 (a b:Nat→Int):Bool:=a 0==b 0&&(a 1==b 1&&(a 2==b 2&&(a 3==b 3&&(a 4==b 4&&(a 5==b 5&&(a 6==b 6&&(a 7==b 7&&a 8==b 8)))))))
theorem zmw {p:Nat→Int} (hp:∀e,Fits64 (p e)) {at_ n:Int} (fa:Fits64 at_) (fn:Fits64 n):∃q:Nat→Int,(∀e,Fits64 (q e))∧pf E0 330 [pI p,.i .i64 at_,.i .i64 n]=some (pI q):=by
 have b1:=Int.tmod_lt_of_pos at_ (show (0:Int)<9 by decide)
 have b2:=Int.lt_tmod_of_pos at_ (show (0:Int)<9 by decide)
 obtain⟨j,hj⟩:∃j:Nat,at_.tmod 9+9=(j:Int):=⟨(at_.tmod 9+9).toNat,by omega⟩
 have t9:(j:Int).tmod 9=((j%9:Nat):Int):=zcb _ 9
 have k9:j%9<9:=Nat.mod_lt _ (by decide)
 have jb:j≤18:=by omega
 generalize hk:j%9=k at *
 refine⟨fun e=>if e=k then n else p e,fun e=>by
  show Fits64 (if e=k then n else p e)
  split
  ·exact fn
  ·exact hp e,?_⟩
 clear hk
 obtain rfl|rfl|rfl|rfl|rfl|rfl|rfl|rfl|rfl:=zfv k9
 ·have hR:PV.ag [.i .i64 n,.i .i64 (p 1),.i .i64 (p 2),.i .i64 (p 3),.i .i64 (p 4),.i .i64 (p 5),.i .i64 (p 6),.i .i64 (p 7),.i .i64 (p 8)]=pI (fun e=>if e=0 then n else p e):=rfl
  refine zaa (xf:=zzH) rfl (by simp[zzH]) ?_
  simp only[zzH]
  simp(disch:=omega)only[go_sem,seval,wqq,zak,hj,t9,hR]
 ·have hR:PV.ag [.i .i64 (p 0),.i .i64 n,.i .i64 (p 2),.i .i64 (p 3),.i .i64 (p 4),.i .i64 (p 5),.i .i64 (p 6),.i .i64 (p 7),.i .i64 (p 8)]=pI (fun e=>if e=1 then n else p e):=rfl
  refine zaa (xf:=zzH) rfl (by simp[zzH]) ?_
  simp only[zzH]
  simp(disch:=omega)only[go_sem,seval,wqq,zak,hj,t9,hR]
 ·have hR:PV.ag [.i .i64 (p 0),.i .i64 (p 1),.i .i64 n,.i .i64 (p 3),.i .i64 (p 4),.i .i64 (p 5),.i .i64 (p 6),.i .i64 (p 7),.i .i64 (p 8)]=pI (fun e=>if e=2 then n else p e):=rfl
  refine zaa (xf:=zzH) rfl (by simp[zzH]) ?_
  simp only[zzH]
  simp(disch:=omega)only[go_sem,seval,wqq,zak,hj,t9,hR]
 ·have hR:PV.ag [.i .i64 (p 0),.i .i64 (p 1),.i .i64 (p 2),.i .i64 n,.i .i64 (p 4),.i .i64 (p 5),.i .i64 (p 6),.i .i64 (p 7),.i .i64 (p 8)]=pI (fun e=>if e=3 then n else p e):=rfl
  refine zaa (xf:=zzH) rfl (by simp[zzH]) ?_
  simp only[zzH]
  simp(disch:=omega)only[go_sem,seval,wqq,zak,hj,t9,hR]
 ·have hR:PV.ag [.i .i64 (p 0),.i .i64 (p 1),.i .i64 (p 2),.i .i64 (p 3),.i .i64 n,.i .i64 (p 5),.i .i64 (p 6),.i .i64 (p 7),.i .i64 (p 8)]=pI (fun e=>if e=4 then n else p e):=rfl
  refine zaa (xf:=zzH) rfl (by simp[zzH]) ?_
  simp only[zzH]
  simp(disch:=omega)only[go_sem,seval,wqq,zak,hj,t9,hR]
 ·have hR:PV.ag [.i .i64 (p 0),.i .i64 (p 1),.i .i64 (p 2),.i .i64 (p 3),.i .i64 (p 4),.i .i64 n,.i .i64 (p 6),.i .i64 (p 7),.i .i64 (p 8)]=pI (fun e=>if e=5 then n else p e):=rfl
  refine zaa (xf:=zzH) rfl (by simp[zzH]) ?_
  simp only[zzH]
  simp(disch:=omega)only[go_sem,seval,wqq,zak,hj,t9,hR]
 ·have hR:PV.ag [.i .i64 (p 0),.i .i64 (p 1),.i .i64 (p 2),.i .i64 (p 3),.i .i64 (p 4),.i .i64 (p 5),.i .i64 n,.i .i64 (p 7),.i .i64 (p 8)]=pI (fun e=>if e=6 then n else p e):=rfl
  refine zaa (xf:=zzH) rfl (by simp[zzH]) ?_
  simp only[zzH]
  simp(disch:=omega)only[go_sem,seval,wqq,zak,hj,t9,hR]
 ·have hR:PV.ag [.i .i64 (p 0),.i .i64 (p 1),.i .i64 (p 2),.i .i64 (p 3),.i .i64 (p 4),.i .i64 (p 5),.i .i64 (p 6),.i .i64 n,.i .i64 (p 8)]=pI (fun e=>if e=7 then n else p e):=rfl
  refine zaa (xf:=zzH) rfl (by simp[zzH]) ?_
  simp only[zzH]
  simp(disch:=omega)only[go_sem,seval,wqq,zak,hj,t9,hR]
 ·have hR:PV.ag [.i .i64 (p 0),.i .i64 (p 1),.i .i64 (p 2),.i .i64 (p 3),.i .i64 (p 4),.i .i64 (p 5),.i .i64 (p 6),.i .i64 (p 7),.i .i64 n]=pI (fun e=>if e=8 then n else p e):=rfl
  refine zaa (xf:=zzH) rfl (by simp[zzH]) ?_
  simp only[zzH]
  simp(disch:=omega)only[go_sem,seval,wqq,zak,hj,t9,hR]
theorem ziP {p:Nat→Int} (hp:∀e,Fits64 (p e)) {k:Int} (fk:Fits64 k):∃q:Nat→Int,(∀e,Fits64 (q e))∧pf E0 331 [pI p,.i .i64 k]=some (pI q):=by
 have bd:∀x:Int,-1000<x.tmod 1000∧x.tmod 1000<1000:=fun x=>⟨Int.lt_tmod_of_pos x (by decide),Int.tmod_lt_of_pos x (by decide)⟩
 have pr:∀x:Int,-1000000≤x.tmod 1000*k.tmod 1000∧x.tmod 1000*k.tmod 1000≤1000000:=fun x=>by
  have h1:=bd x
  have h2:=bd k
  have h3:(x.tmod 1000*k.tmod 1000).natAbs≤1000*1000:=by
   rw[Int.natAbs_mul]
   exact Nat.mul_le_mul (by omega) (by omega)
  omega
 have b0:=bd (p 0)
 have b1:=bd (p 1)
 have b2:=bd (p 2)
 have p0:=pr (p 0)
 have p1:=pr (p 1)
 have p2:=pr (p 2)
 have bk:=bd k
 have hR:PV.ag [.i .i64 ((p 0).tmod 1000),.i .i64 ((p 1).tmod 1000),.i .i64 ((p 2).tmod 1000),.i .i64 (p 3),.i .i64 (p 4),.i .i64 (p 5),.i .i64 ((p 0).tmod 1000*k.tmod 1000),.i .i64 ((p 1).tmod 1000*k.tmod 1000),.i .i64 ((p 2).tmod 1000*k.tmod 1000)]=pI (fun e=>if e<3 then (p e).tmod 1000 else if e<6 then p e else (p (e-6)).tmod 1000*k.tmod 1000):=rfl
 refine⟨fun e=>if e<3 then (p e).tmod 1000 else if e<6 then p e else (p (e-6)).tmod 1000*k.tmod 1000,fun e=>by
  show Fits64 (if e<3 then (p e).tmod 1000 else if e<6 then p e else (p (e-6)).tmod 1000*k.tmod 1000)
  split
  ·have:=bd (p e);unfold Fits64;omega
  ·split
   ·exact hp e
   ·have:=pr (p (e-6));unfold Fits64;omega,?_⟩
 refine zaa (xf:=zAT) rfl (by simp[zAT]) ?_
 simp only[zAT]
 simp(disch:=omega)only[go_sem,seval,wqq,zak]
 refine zal zAu.eq_1 ?_
 simp(disch:=omega)only[go_sem,seval,wqq]
 refine zal zAu.eq_1 ?_
 simp(disch:=omega)only[go_sem,seval,wqq]
 refine zal zAu.eq_1 ?_
 simp(disch:=omega)only[go_sem,seval,wqq]
 refine zal zAu.eq_1 ?_
 simp(disch:=omega)only[go_sem,seval,wqq,hR]
theorem zmt {xs:List Int} (hx:Ints xs) {i:Int} (hi:Fits64 i):∃n,Fits64 n∧pf E0 180 [ints xs,.i .i64 i]=some (.i .i64 n):=by
 obtain⟨hx1,hx2⟩:=hx
 by_cases h:i<0
 ·have h:(i<0)=True:=eq_true h
  refine⟨0,by decide,?_⟩
  refine zaa (xf:=zz2) rfl (by simp[zz2]) ?_
  simp only[zz2]
  simp(disch:=omega)only[go_sem,seval,wqq,h]
 ·have h0:(i<0)=False:=eq_false h
  by_cases h':(xs.length:Int)≤i
  ·have q1:(i≥(xs.length:Int))=True:=eq_true h'
   refine⟨0,by decide,?_⟩
   refine zaa (xf:=zz2) rfl (by simp[zz2]) ?_
   simp only[zz2]
   simp(disch:=omega)only[go_sem,seval,wqq,h0,q1]
  ·have q1:(i≥(xs.length:Int))=False:=eq_false h'
   obtain⟨j,rfl⟩:∃j:Nat,i=j:=⟨i.toNat,by omega⟩
   have hj:j<xs.length:=by omega
   have hg:xs[j]?=some (xs.getD j 0):=by simp[hj]
   refine⟨xs.getD j 0,hx2 _ (by simp[hj]),?_⟩
   refine zaa (xf:=zz2) rfl (by simp[zz2]) ?_
   simp only[zz2]
   simp(disch:=omega)only[go_sem,seval,wqq,h0,q1,zdd hg,Int.toNat_natCast]
end Go.Eng
namespace Go.Eng
def gEnt (n d:Int):Int:=if n.tmod 6=1∨n.tmod 6 = -1 then (n.tdiv 6).tmod 8 else if n.tmod 6=2 then (n.tdiv 6).tmod 1000 else if n.tmod 6=3 then 1073741824-(n.tdiv 6).tmod 4 else d
def g0P:Nat→Int:=fun e=>if e=0 then 2 else if e=4 then 2 else if e=8 then 1 else 0
theorem zjH (n d:Int) (hd:Fits64 d):Fits64 (gEnt n d):=by
 have a1:=Int.lt_tmod_of_pos (n.tdiv 6) (show (0:Int)<8 by decide)
 have a2:=Int.tmod_lt_of_pos (n.tdiv 6) (show (0:Int)<8 by decide)
 have b1:=Int.lt_tmod_of_pos (n.tdiv 6) (show (0:Int)<1000 by decide)
 have b2:=Int.tmod_lt_of_pos (n.tdiv 6) (show (0:Int)<1000 by decide)
 have c1:=Int.lt_tmod_of_pos (n.tdiv 6) (show (0:Int)<4 by decide)
 have c2:=Int.tmod_lt_of_pos (n.tdiv 6) (show (0:Int)<4 by decide)
 unfold gEnt
 split
 ·unfold Fits64;omega
 ·split
  ·unfold Fits64;omega
  ·split
   ·unfold Fits64;omega
   ·exact hd
def gMix (ns:Nat→Int) (i:Nat):Nat→Int:=fun e=>if e<i then gEnt (ns e) (g0P e) else g0P e
theorem gmS (ns:Nat→Int) {i:Nat} (hi:i<9) {x:Int} (h:gEnt (ns i) (g0P i)=x):(cI (gMix ns i)).set i (.i .i64 x)=cI (gMix ns (i+1)):=by
 obtain rfl|rfl|rfl|rfl|rfl|rfl|rfl|rfl|rfl:=zfv hi
 all_goals (subst h;rfl)
theorem gkS (ns:Nat→Int) {i:Nat} (h:gEnt (ns i) (g0P i)=g0P i):cI (gMix ns i)=cI (gMix ns (i+1)):=by
 have e:gMix ns i=gMix ns (i+1):=by
  funext e
  unfold gMix
  by_cases q:e=i
  ·subst q;rw[if_neg (by omega),if_pos (by omega),h]
  ·by_cases r:e<i
   ·rw[if_pos r,if_pos (by omega)]
   ·rw[if_neg r,if_neg (by omega)]
 rw[e]
theorem zi7 (p:Nat→Int):(cI p).length=9:=_root_.id rfl
set_option maxHeartbeats 8000000 in
theorem zpe {xs:List Int} (hx:Ints xs):∃p:Nat→Int,(∀e,Fits64 (p e))∧pf E0 301 [ints xs,.i .i64 0]=some (pI p):=by
 have pk:∀e:Nat,∃n,Fits64 n∧(e<100→pf E0 180 [ints xs,.i .i64 ((e:Nat):Int)]=some (.i .i64 n)):=fun e=>by
  by_cases h:e<100
  ·obtain⟨n,h1,h2⟩:=zmt hx (i:=((e:Nat):Int)) (by unfold Fits64;omega)
   exact⟨n,h1,fun _=>h2⟩
  ·exact⟨0,by decide,fun q=>(h q).elim⟩
 obtain⟨ns,hns⟩:∃ns:Nat→Int,∀e,Fits64 (ns e)∧(e<100→pf E0 180 [ints xs,.i .i64 ((e:Nat):Int)]=some (.i .i64 (ns e))):=⟨fun e=>Classical.choose (pk e),fun e=>Classical.choose_spec (pk e)⟩
 have g0f:∀e,Fits64 (g0P e):=fun e=>by unfold g0P;split<;>(try split)<;>(try split)<;>decide
 refine⟨gMix ns 9,fun e=>by
  show Fits64 (if e<9 then gEnt (ns e) (g0P e) else g0P e)
  split
  ·exact zjH _ _ (g0f e)
  ·exact g0f e,?_⟩
 have c0:[PV.i .i64 2,.i .i64 0,.i .i64 0,.i .i64 0,.i .i64 2,.i .i64 0,.i .i64 0,.i .i64 0,.i .i64 1]=cI (gMix ns 0):=rfl
 refine zaa (xf:=zCl) rfl (by simp[zCl]) ?_
 simp only[zCl]
 simp(disch:=omega)only[go_sem,seval,wqq,zai,zad]
 refine zan zC1.eq_1 (fun(i:Nat) fr M=>i≤9∧fr 0=ints xs∧fr 1=.i .i64 0∧fr 4=.p 0 0∧fr 5=.p 1 0∧fr 6=(PV.i .i64 ((i:Nat):Int))∧∃b v,M=[some ⟨cQ 0 zI,true,b⟩,some ⟨cI (gMix ns i),true,v⟩]) (fun i=>9-i) ?_ 0 ⟨by omega,rfl,rfl,rfl,rfl,rfl,_,_,rfl⟩
 rintro i fr M ⟨hi,f0,f1,f4,f5,f6,b,v,rfl⟩ ih
 rcases Nat.lt_or_ge i 9 with h9|h9
 ·obtain⟨nf,np⟩:=hns i
  have np:=np (by omega)
  have a1:=Int.lt_tmod_of_pos ((ns i).tdiv 6) (show (0:Int)<4 by decide)
  have a2:=Int.tmod_lt_of_pos ((ns i).tdiv 6) (show (0:Int)<4 by decide)
  have dv : -9223372036854775808≤(ns i).tdiv 6∧(ns i).tdiv 6≤9223372036854775807:=by
   unfold Fits64 at nf
   have:=Int.mul_tdiv_add_tmod (ns i) 6
   have m1:=Int.lt_tmod_of_pos (ns i) (show (0:Int)<6 by decide)
   have m2:=Int.tmod_lt_of_pos (ns i) (show (0:Int)<6 by decide)
   omega
  have q1:((i:Int)<9)=True:=eq_true (by omega)
  have iL:(i<9)=True:=eq_true h9
  have z1:(0:Int)+((i:Nat):Int)=((i:Nat):Int):=Int.zero_add _
  have hE:gEnt (ns i) (g0P i)=gEnt (ns i) (g0P i):=rfl
  rcases zdQ ((ns i).tmod 6=1) with t1|t1
  ·have hv:gEnt (ns i) (g0P i)=((ns i).tdiv 6).tmod 8:=by unfold gEnt;rw[if_pos (.inl (of_eq_true t1))]
   obtain⟨k,hk⟩:∃k,k=ns i:=⟨_,rfl⟩
   simp(disch:=omega)only[go_sem,seval,wqq,f0,f1,f4,f5,f6,np,q1,z1,iL,zi7,t1]
   exact ih (i+1) _ _ (by omega) ⟨by omega,f0,f1,f4,f5,tS _,b,v+1,by rw[←gmS ns h9 hv]⟩
  rcases zdQ ((ns i).tmod 6 = -1) with t2|t2
  ·have hv:gEnt (ns i) (g0P i)=((ns i).tdiv 6).tmod 8:=by unfold gEnt;rw[if_pos (.inr (of_eq_true t2))]
   simp(disch:=omega)only[go_sem,seval,wqq,f0,f1,f4,f5,f6,np,q1,z1,iL,zi7,t1,t2]
   exact ih (i+1) _ _ (by omega) ⟨by omega,f0,f1,f4,f5,tS _,b,v+1,by rw[←gmS ns h9 hv]⟩
  have nt:¬((ns i).tmod 6=1∨(ns i).tmod 6 = -1):=fun q=>q.elim (of_eq_false t1) (of_eq_false t2)
  rcases zdQ ((ns i).tmod 6=2) with t3|t3
  ·have hv:gEnt (ns i) (g0P i)=((ns i).tdiv 6).tmod 1000:=by unfold gEnt;rw[if_neg nt,if_pos (of_eq_true t3)]
   simp(disch:=omega)only[go_sem,seval,wqq,f0,f1,f4,f5,f6,np,q1,z1,iL,zi7,t1,t2,t3]
   exact ih (i+1) _ _ (by omega) ⟨by omega,f0,f1,f4,f5,tS _,b,v+1,by rw[←gmS ns h9 hv]⟩
  rcases zdQ ((ns i).tmod 6=3) with t4|t4
  ·have hv:gEnt (ns i) (g0P i)=1073741824-((ns i).tdiv 6).tmod 4:=by unfold gEnt;rw[if_neg nt,if_neg (of_eq_false t3),if_pos (of_eq_true t4)]
   simp(disch:=omega)only[go_sem,seval,wqq,f0,f1,f4,f5,f6,np,q1,z1,iL,zi7,t1,t2,t3,t4]
   exact ih (i+1) _ _ (by omega) ⟨by omega,f0,f1,f4,f5,tS _,b,v+1,by rw[←gmS ns h9 hv]⟩
  have hv:gEnt (ns i) (g0P i)=g0P i:=by unfold gEnt;rw[if_neg nt,if_neg (of_eq_false t3),if_neg (of_eq_false t4)]
  simp(disch:=omega)only[go_sem,seval,wqq,f0,f1,f4,f5,f6,np,q1,z1,iL,zi7,t1,t2,t3,t4]
  exact ih (i+1) _ _ (by omega) ⟨by omega,f0,f1,f4,f5,tS _,b,v,by rw[←gkS ns hv]⟩
 ·obtain rfl:i=9:=by omega
  simp(disch:=omega)only[go_sem,seval,wqq,f0,f1,f4,f5,f6]
end Go.Eng
namespace Go.Eng
theorem zic (x:WI):∃s:List UInt8,pf E0 107 [nP x.v]=some (.s s)∧pf E0 110 [.s s]=some (.tu [wiP x,.i .i64 0]):=by
 have lx:=zdH x
 have h1:=zks (z:=x.v) (by omega)
 have h2:=zpd (decI x.v) (zgH x)
 rw[ziT,if_pos ((zaP _).1 x.lim)] at h2
 have hc:clip x.v=x:=zbB x.lim
 simp only at h2
 rw[hc] at h2
 exact⟨_,h1,h2⟩
theorem zgj (f:FQ):pf E0 342 [rfQ f]=some (fqP f):=by
 obtain⟨s,a1,a2⟩:=zic f.p
 obtain⟨t,b1,b2⟩:=zic f.q
 have mk:=zjX f
 refine zaa (xf:=zCR) rfl (by simp[zCR]) ?_
 simp only[zCR]
 simp(disch:=omega)only[go_sem,seval,wqq,a1,a2,b1,b2,mk]
end Go.Eng
namespace Go.Eng
end Go.Eng
namespace Go.Eng
end Go.Eng
namespace Go.Eng
end Go.Eng
namespace Go.Eng
end Go.Eng
namespace Go.Eng
end Go.Eng
namespace Go.Eng
end Go.Eng
namespace Go.Eng
theorem znj (xs:List Int) (i:Int):∃f:FQ,Ints xs→0≤i→i≤100→fsz 122 f∧pf E0 187 [ints xs,.i .i64 i]=some (rfQ f):=by
 by_cases h:Ints xs∧0≤i∧i≤100
 ·obtain⟨f,h1,h2⟩:=zmu h.1 h.2.1 h.2.2
  exact⟨f,fun _ _ _=>⟨h1,h2⟩⟩
 ·exact⟨fq0,fun a b c=>absurd ⟨a,b,c⟩ h⟩
noncomputable def frcF (xs:List Int) (i:Int):FQ:=(znj xs i).choose
theorem znF {xs:List Int} (hx:Ints xs) {i:Int} (h0:0≤i) (h1:i≤100):pf E0 187 [ints xs,.i .i64 i]=some (rfQ (frcF xs i)):=((znj xs i).choose_spec hx h0 h1).2
end Go.Eng
set_option maxRecDepth 10000
namespace Go.Eng
noncomputable def smF (xs:List Int) (i:Int):FQ:=(makF (clip (pick xs i 1000000%401-200)) (clip (1+pick xs i 1000000/401%16))).1
theorem zlh {z:Int} (h : -1000000≤z∧z≤1000000):wlen z.natAbs≤512:=zez (by unfold Fits64;omega)
theorem zgk {xs:List Int} (hx:Ints xs) {i:Int} (hi:Fits64 i):pf E0 361 [ints xs,.i .i64 i]=some (rfQ (smF xs i)):=by
 have pk:=znD hx hi (m:=1000000) (by decide) (by decide)
 have k0:=zeu xs i (m:=1000000) (by decide)
 have k1:=zkV xs i (m:=1000000) (by decide)
 unfold smF
 generalize pick xs i 1000000=k at *
 have e1:k.tmod 401=k%401:=Int.tmod_eq_emod_of_nonneg k0
 have e2:k.tdiv 401=k/401:=Int.tdiv_eq_ediv_of_nonneg k0
 have e3:(k/401).tmod 16=k/401%16:=Int.tmod_eq_emod_of_nonneg (Int.ediv_nonneg k0 (by decide))
 have b1 : -200≤k%401-200∧k%401-200≤200:=by omega
 have b2:1≤1+k/401%16∧1+k/401%16≤16:=by omega
 have o1:=zbx (k%401-200) (by unfold Fits64;omega)
 have o2:=zbx (1+k/401%16) (by unfold Fits64;omega)
 have m:=zkG (clip (k%401-200)) (clip (1+k/401%16))
 rw[zaW (zlh (by omega)),zaW (zlh (by omega))] at m
 generalize makF (clip (k%401-200)) (clip (1+k/401%16))=R at *
 generalize hu:k%401-200=u at *
 generalize hv:1+k/401%16=v at *
 refine zaa (xf:=zBJ) rfl (by simp[zBJ]) ?_
 simp only[zBJ]
 simp(disch:=omega)only[go_sem,seval,wqq,pk,e1,e2,e3,hu,hv,o1,o2,m]
noncomputable def enF (xs:List Int) (i:Int):FQ×FQ :=
 if pick xs i 1000000%4=0 then (frcF xs (i+1),frcF xs (i+3)) else if pick xs i 1000000%4=1 then (smF xs (i+1),smF xs (i+1)) else (smF xs (i+1),smF xs (i+2))
theorem zh7 {xs:List Int} (hx:Ints xs) {i:Int} (h0:0≤i) (h1:i≤90):pf E0 344 [ints xs,.i .i64 i]=some (.tu [rfQ (enF xs i).1,rfQ (enF xs i).2]):=by
 have pk:=znD hx (i:=i) (m:=1000000) (by unfold Fits64;omega) (by decide) (by decide)
 have k0:=zeu xs i (m:=1000000) (by decide)
 have k1:=zkV xs i (m:=1000000) (by decide)
 have f1:=znF hx (i:=i+1) (by omega) (by omega)
 have f2:=znF hx (i:=i+3) (by omega) (by omega)
 have s1:=zgk hx (i:=i+1) (by unfold Fits64;omega)
 have s2:=zgk hx (i:=i+2) (by unfold Fits64;omega)
 unfold enF
 generalize pick xs i 1000000=k at *
 have e1:k.tmod 4=k%4:=Int.tmod_eq_emod_of_nonneg k0
 generalize frcF xs (i+1)=F1 at *
 generalize frcF xs (i+3)=F2 at *
 generalize smF xs (i+1)=S1 at *
 generalize smF xs (i+2)=S2 at *
 by_cases h:k%4=0
 ·rw[if_pos h]
  have q:(k%4=0)=True:=eq_true h
  refine zaa (xf:=zAb) rfl (by simp[zAb]) ?_
  simp only[zAb]
  simp(disch:=omega)only[go_sem,seval,wqq,pk,e1,q,f1,f2]
 ·rw[if_neg h]
  have q:(k%4=0)=False:=eq_false h
  by_cases h':k%4=1
  ·rw[if_pos h']
   have q':(k%4=1)=True:=eq_true h'
   refine zaa (xf:=zAb) rfl (by simp[zAb]) ?_
   simp only[zAb]
   simp(disch:=omega)only[go_sem,seval,wqq,pk,e1,q,q',s1]
   refine zax [7] [4] rfl ?_ ?_
   ·simp(disch:=omega)only[go_sem,seval,wqq]
    exact⟨_,rfl,rfl⟩
   simp(disch:=omega)only[go_sem,seval,wqq]
  ·rw[if_neg h']
   have q':(k%4=1)=False:=eq_false h'
   refine zaa (xf:=zAb) rfl (by simp[zAb]) ?_
   simp only[zAb]
   simp(disch:=omega)only[go_sem,seval,wqq,pk,e1,q,q',s1]
   refine zae rfl ?_
   simp(disch:=omega)only[go_sem,seval,wqq,s2]
def insN (x:IV) (k:Int):Int:=x.lo.v*6+(x.hi.v-x.lo.v)*aro k 7
noncomputable def inF (x:IV) (k:Int):FQ:=(makF (clip (insN x k)) (clip 25769803776)).1
theorem zwP (k:Int):0≤aro k 7∧aro k 7<7:=⟨zds k (by decide),zi5 k (by decide)⟩
theorem zqW (x:IV) (k:Int):wlen (insN x k).natAbs≤512:=by
 obtain⟨a0,a1⟩:=zwP k
 have i6:inK 3 6:=by unfold inK;decide
 have ia:inK 3 (aro k 7):=by unfold inK;omega
 have h1:inK 8196 (x.lo.v*6):=zei (i:=8192) (j:=3) x.l i6 (by decide)
 have h2:inK 8193 (x.hi.v-x.lo.v):=zoB (i:=8192) x.h x.l (by decide)
 have h3:inK 8196 ((x.hi.v-x.lo.v)*aro k 7):=zei h2 ia (by decide)
 exact ziE (zgQ h1 h3 (N:=8197) (by decide)) (by decide)
theorem zzl:wlen (25769803776:Int).natAbs≤512:=zez (by decide)
theorem ziS (x:IV) {k:Int} (hk:Fits64 k):pf E0 350 [rvP x,.i .i64 k]=some (rfQ (inF x k)):=by
 have ar:=zhV hk (m:=7) (by decide) (by decide)
 obtain⟨a0,a1⟩:=zwP k
 have t1:=zbp x.lo
 have t2:=zbp x.hi
 have ts:=zs8
 have t6:tlen (6:Int).natAbs≤1:=zah (by decide)
 have ta:tlen (aro k 7).natAbs≤1:=zah (by omega)
 have s1:=znI x.hi.v x.lo.v (by omega) (by omega)
 have o6:=zbx 6 (by decide)
 have oa:=zbx (aro k 7) (by unfold Fits64;omega)
 have m1:=zbd x.lo.v 6 (by omega) (by omega)
 have hp:=zdm
 have ls:=zb1 x.hi.v (-x.lo.v)
 rw[Int.natAbs_neg,←Int.sub_eq_add_neg] at ls
 have m2:=zbd (x.hi.v-x.lo.v) (aro k 7) (by omega) (by omega)
 have l1:=zar x.lo.v 6
 have l2:=zar (x.hi.v-x.lo.v) (aro k 7)
 have ad:=zes (x.lo.v*6) ((x.hi.v-x.lo.v)*aro k 7) (by omega) (by omega)
 have m3:=zbd 4294967296 6 (by omega) (by omega)
 have mk:=zkG (clip (insN x k)) (clip 25769803776)
 rw[zaW zzl,zaW (zqW x k)] at mk
 have e3:(4294967296:Int)*6=25769803776:=by decide
 rw[e3] at m3
 have mk:pf E0 182 [nP (insN x k),nP 25769803776]=some (.tu [rfQ (inF x k),.i .i64 (makF (clip (insN x k)) (clip 25769803776)).2]):=mk
 have ad:pf E0 119 [nP (x.lo.v*6),nP ((x.hi.v-x.lo.v)*aro k 7)]=some (nP (insN x k)):=ad
 generalize (makF (clip (insN x k)) (clip 25769803776)).2=E at *
 generalize inF x k=R at *
 generalize insN x k=n at *
 generalize (x.hi.v-x.lo.v)*aro k 7=d at *
 generalize x.hi.v-x.lo.v=w at *
 generalize x.lo.v*6=u at *
 generalize aro k 7=a at *
 obtain⟨c,hc⟩:∃c:Int,c=25769803776:=⟨_,rfl⟩
 rw[←hc] at m3 mk
 obtain⟨s,hs⟩:∃s:Int,s=4294967296:=⟨_,rfl⟩
 rw[←hs] at hp m3
 obtain⟨g,hg⟩:∃g:Int,g=6:=⟨_,rfl⟩
 have o6:pf E0 114 [.i .i64 6]=some (nP g):=by rw[hg];exact o6
 rw[←hg] at m1 m3
 clear hc hs hg
 refine zaa (xf:=zBn) rfl (by simp[zBn]) ?_
 simp only[zBn]
 simp(disch:=omega)only[go_sem,seval,wqq,ar,s1]
 refine zae rfl ?_
 simp(disch:=omega)only[go_sem,seval,wqq,o6,oa,m1,m2,ad,hp,m3,mk]
end Go.Eng
set_option maxRecDepth 10000
namespace Go.Eng
theorem zoA {z:Int} (h:Fits64 z):inK 64 z:=by
 unfold inK
 unfold Fits64 at h
 have:(2:Nat)^64=18446744073709551616:=by decide
 omega
theorem zup {a b:FQ} {l h:Int} (f1:Fits64 a.p.v) (f2:Fits64 a.q.v) (f3:Fits64 b.p.v) (f4:Fits64 b.q.v) (hl:min2 (fdQ a) (fdQ b)=l) (hh:max2 (ceQ a) (ceQ b)=h):(mkI a b).2=0∧(mkI a b).1.lo.v=l∧(mkI a b).1.hi.v=h:=by
 have big:∀f:FQ,Fits64 f.p.v→inB (fdQ f)∧inB (ceQ f):=fun f hf=>by
  have hm:inK 97 (f.p.v*4294967296):=zei (zoA hf) zqT (by decide)
  refine⟨zdZ (znq hm (zcE _ _)) (by decide),?_⟩
  have:inK 97 (-(f.p.v*4294967296)):=zfm.2 hm
  refine zdZ (i:=97) ?_ (by decide)
  unfold ceQ ceI
  rw[zfm]
  exact znq this (zcE _ _)
 have so:∀c d:FQ,Fits64 c.p.v→Fits64 c.q.v→Fits64 d.p.v→Fits64 d.q.v→(mkSo c d).2=0:=fun c d g1 g2 g3 g4=>by
  have il:∀{z:Int},Fits64 z→inL z:=fun q=>zdZ (zoA q) (by decide)
  unfold mkSo
  rw[if_pos ⟨il g1,il g2,il g3,il g4⟩]
  exact(ziH ⟨(big c g1).1,(big d g3).2⟩).1
 have z:(mkI a b).2=0:=by
  unfold mkI
  split
  ·exact so b a f3 f4 f1 f2
  ·exact so a b f1 f2 f3 f4
 obtain⟨v1,v2⟩:=zq1 z
 exact⟨z,v1.trans hl,v2.trans hh⟩
end Go.Eng
set_option maxRecDepth 10000
namespace Go.Eng
end Go.Eng
set_option maxRecDepth 10000
namespace Go.Eng
theorem zoG {x y:IV} (h:(ivMul x y).2=0):(ivMul x y).1.lo.v=mulLo x y∧(ivMul x y).1.hi.v=mulHi x y:=by
 unfold ivMul at *
 exact(zgc h).2.2
theorem zjT {x y:IV} (h:(ivDiv x y).2=0):¬has0 y∧(ivDiv x y).1.lo.v=divLo x y∧(ivDiv x y).1.hi.v=divHi x y:=by
 unfold ivDiv at *
 by_cases q:has0 y
 ·rw[if_pos q] at h;cases h
 ·rw[if_neg q] at *
  exact⟨q,(zgc h).2.2⟩
end Go.Eng
namespace Go.Eng
def vbN (n:Nat):List Nat:=if n<128 then [n] else (128+n%128)::vbN (n/128)
termination_by n
end Go.Eng
namespace Go.Eng
def rdU (i n:Nat):List Nat→Nat×List Nat×Int
 | []=>(0,[],3)
 | c::l=>if (i=9∧1<c)∨(0<i∧c=0) then (0,l,2) else if c<128 then (n+c*128^i,l,0) else rdU (i+1) (n+c%128*128^i) l
end Go.Eng
namespace Go.Eng
end Go.Eng
namespace Go.Eng
end Go.Eng
namespace Go.Eng
end Go.Eng
namespace Go.Eng
end Go.Eng
namespace Go.Eng
def bin2 (n k:Nat) (y:Int):Int:=if k≤n then chE (n*4+k)*y^(n-k) else 0
end Go.Eng
namespace Go.Eng
end Go.Eng
namespace Go.Eng
end Go.Eng
namespace Go.Eng
end Go.Eng
namespace Go.Eng
end Go.Eng
namespace Go.Eng
end Go.Eng
namespace Go.Eng
end Go.Eng
namespace Go.Eng
end Go.Eng
namespace Go.Eng
theorem zke (s:List UInt8):decide (s≠s)=false:=by simp
end Go.Eng
set_option maxRecDepth 10000
namespace Go.Eng
end Go.Eng
namespace Go.Eng
end Go.Eng
set_option maxRecDepth 10000
namespace Go.Eng
end Go.Eng
set_option maxRecDepth 10000
namespace Go.Eng
end Go.Eng
set_option maxRecDepth 10000
namespace Go.Eng
end Go.Eng
namespace Go.Eng
end Go.Eng
namespace Go.Eng
end Go.Eng
namespace Go.Eng
end Go.Eng
namespace Go.Eng
end Go.Eng
namespace Go.Eng
end Go.Eng
set_option maxRecDepth 10000
namespace Go.Eng
def hasR (x:IV) (n d:Int):Prop:=x.lo.v*d≤n*4294967296∧n*4294967296≤x.hi.v*d
theorem zgN {x:IV} {n d k:Int} (hk:0<k) (h:hasR x n d):hasR x (n*k) (d*k):=by
 have a:=zbi h.1 (Int.le_of_lt hk)
 have b:=zbi h.2 (Int.le_of_lt hk)
 unfold hasR
 constructor<;>grind
theorem zjN {x:IV} {n d k:Int} (hk:0<k) (h:hasR x (n*k) (d*k)):hasR x n d:=by
 unfold hasR at *
 constructor
 ·refine Int.le_of_mul_le_mul_right (a:=k) ?_ hk;grind
 ·refine Int.le_of_mul_le_mul_right (a:=k) ?_ hk;grind
theorem zxe {x y:IV} {n d m e:Int} (hd:0<d) (he:0<e) (h1:hasR x n d) (h2:hasR y m e) (h:(ivMul x y).2=0):hasR (ivMul x y).1 (n*m) (d*e):=by
 have hh:=zoM (x:=x) (y:=y) hd he h1.1 h1.2 h2.1 h2.2
 obtain⟨v1,v2⟩:=zoG h
 unfold hasR
 rw[v1,v2];exact hh
theorem zwO {x y:IV} {n m d:Int} (hd:0<d) (h1:hasR x n d) (h2:hasR y m d) (h:(ivAdd x y).2=0):hasR (ivAdd x y).1 (n+m) d:=by
 have hh:=zn5 (x:=x) (y:=y) hd hd h1.1 h1.2 h2.1 h2.2 h
 refine zjN hd ?_
 rw[Int.add_mul];exact hh
theorem zpZ {k:Int} (hk:Fits64 k) (h:(mkI (whQ k) (whQ k)).2=0):hasR (mkI (whQ k) (whQ k)).1 k 1:=by
 have m:=(zoL h).1
 unfold ivHas at m
 obtain⟨w1,w2⟩:=zp0 hk
 rw[w1,w2] at m;exact m
end Go.Eng
set_option maxRecDepth 10000
namespace Go.Eng
theorem zbj {E:PEnv} {F:PFin} {a b:XC} (hab:a=b) {ks:List KI} {fr:PFr} {M:PM} (h:WK E F b (.loop a::ks) fr M):WK E F (.loop a) ks fr M:=by subst hab;exact zcA h
theorem zpK:slP 1 (.sl 0 0 9 9 1) (some (.i .i64 0)) (some (.i .i64 3)) none=some (.sl 0 0 3 9 1):=rfl
theorem zpL:slP 1 (.sl 0 0 9 9 1) (some (.i .i64 6)) (some (.i .i64 9)) none=some (.sl 0 6 3 3 1):=rfl
theorem zoy (a b c:Int):group 1 3 [PV.i .i64 a,.i .i64 b,.i .i64 c]=[.i .i64 a,.i .i64 b,.i .i64 c]:=_root_.id rfl
theorem zn8 (p:Nat→Int):(cI p).take 3=[.i .i64 (p 0),.i .i64 (p 1),.i .i64 (p 2)]:=_root_.id rfl
theorem zn9 (p:Nat→Int):((cI p).drop 3).take 3=[.i .i64 (p 3),.i .i64 (p 4),.i .i64 (p 5)]:=_root_.id rfl
theorem zoa (p:Nat→Int):((cI p).drop 6).take 3=[.i .i64 (p 6),.i .i64 (p 7),.i .i64 (p 8)]:=_root_.id rfl
noncomputable def whI (n:Int):IV:=(mkI (whQ n) (whQ n)).1
theorem zsr (n:Int):(whI n).ok:=zj7 _ _
theorem zkQ {n:Int} (h:Fits64 n):pf E0 376 [.i .i64 n]=some (ivP (whI n)):=by
 have w:=zss h
 have o:=zrE (whQ n)
 unfold whI
 generalize (mkI (whQ n) (whQ n)).1=R at *
 generalize (mkI (whQ n) (whQ n)).2=E at *
 refine zaa (xf:=zBh) rfl (by simp[zBh]) ?_
 simp only[zBh]
 simp(disch:=omega)only[go_sem,seval,wqq,w,o]
theorem zaS {n:Int} (h:Fits64 n):pf E0 370 [.i .i64 n]=some (rvP (whI n)):=by
 have w:=znJ h
 rw[zst h] at w
 have o:=zrM (whQ n)
 unfold whI
 generalize (mkI (whQ n) (whQ n)).1=R at *
 generalize (mkI (whQ n) (whQ n)).2=E at *
 refine zaa (xf:=zAO) rfl (by simp[zAO]) ?_
 simp only[zAO]
 simp(disch:=omega)only[go_sem,seval,wqq,w,o]
noncomputable def roS (a b c:Int) (u v:IV):IV×Int :=
 if (ivMul (whI a) u).2=0 then (if (ivMul (whI b) v).2=0 then (if (ivAdd (ivMul (whI a) u).1 (ivMul (whI b) v).1).2=0 then ivAdd (ivAdd (ivMul (whI a) u).1 (ivMul (whI b) v).1).1 (whI c) else (ivZ,(ivAdd (ivMul (whI a) u).1 (ivMul (whI b) v).1).2)) else (ivZ,(ivMul (whI b) v).2)) else (ivZ,(ivMul (whI a) u).2)
theorem zlb (a b c:Int) {u v:IV}:(roS a b c u v).1.ok:=by
 unfold roS
 split
 ·split
  ·split
   ·exact zhJ (zhJ (zhK _ _) (zhK _ _)) (zsr _)
   ·exact zga
  ·exact zga
 ·exact zga
set_option maxHeartbeats 4000000 in
theorem zkK {a b c:Int} (ha:Fits64 a) (hb:Fits64 b) (hc:Fits64 c) (u v:IV):pf E0 366 [.lst [.i .i64 a,.i .i64 b,.i .i64 c],ivP u,ivP v]=some (.tu [ivP (roS a b c u v).1,.i .i64 (roS a b c u v).2]):=by
 have s1:=zkQ ha
 have s2:=zkQ hb
 have s3:=zkQ hc
 have m1:=zkD (whI a) u
 have m2:=zkD (whI b) v
 have a1:=zkB (ivMul (whI a) u).1 (ivMul (whI b) v).1
 have a2:=zkB (ivAdd (ivMul (whI a) u).1 (ivMul (whI b) v).1).1 (whI c)
 unfold roS
 generalize ivAdd (ivAdd (ivMul (whI a) u).1 (ivMul (whI b) v).1).1 (whI c)=D at *
 generalize ivAdd (ivMul (whI a) u).1 (ivMul (whI b) v).1=C at *
 generalize ivMul (whI a) u=A at *
 generalize ivMul (whI b) v=B at *
 obtain⟨A,EA⟩:=A
 obtain⟨B,EB⟩:=B
 obtain⟨C,EC⟩:=C
 obtain⟨D,ED⟩:=D
 simp only at m1 m2 a1 a2 ⊢
 refine zaa (xf:=zCh) rfl (by simp[zCh]) ?_
 simp only[zCh]
 by_cases hA:EA=0
 ·have hA':(EA=0)=True:=eq_true hA
  rw[if_pos hA]
  by_cases hB:EB=0
  ·have hB':(EB=0)=True:=eq_true hB
   rw[if_pos hB]
   by_cases hC:EC=0
   ·have hC':(EC=0)=True:=eq_true hC
    rw[if_pos hC]
    simp(disch:=omega)only[go_sem,seval,wqq,s1,m1]
    refine zaI [14] rfl ?_ ?_
    ·simp(disch:=omega)only[go_sem,seval,wqq,s1,m1]
     exact⟨_,rfl,rfl⟩
    simp(disch:=omega)only[go_sem,seval,wqq,s1,m1,hA',s2,m2]
    refine zaI [28] rfl ?_ ?_
    ·simp(disch:=omega)only[go_sem,seval,wqq,s2,m2]
     exact⟨_,rfl,rfl⟩
    simp(disch:=omega)only[go_sem,seval,wqq,s1,m1,hA',s2,m2,hB',a1,hC',s3,a2]
    refine zaI [52] rfl ?_ ?_
    ·simp(disch:=omega)only[go_sem,seval,wqq,s3,a2]
     exact⟨_,rfl,rfl⟩
    simp(disch:=omega)only[go_sem,seval,wqq,s3,a2]
   ·have hC':(EC=0)=False:=eq_false hC
    rw[if_neg hC]
    simp(disch:=omega)only[go_sem,seval,wqq,s1,m1]
    refine zaI [14] rfl ?_ ?_
    ·simp(disch:=omega)only[go_sem,seval,wqq,s1,m1]
     exact⟨_,rfl,rfl⟩
    simp(disch:=omega)only[go_sem,seval,wqq,s1,m1,hA',s2,m2]
    refine zaI [28] rfl ?_ ?_
    ·simp(disch:=omega)only[go_sem,seval,wqq,s2,m2]
     exact⟨_,rfl,rfl⟩
    simp(disch:=omega)only[go_sem,seval,wqq,s1,m1,hA',s2,m2,hB',a1,hC',ziG]
  ·have hB':(EB=0)=False:=eq_false hB
   rw[if_neg hB]
   simp(disch:=omega)only[go_sem,seval,wqq,s1,m1]
   refine zaI [14] rfl ?_ ?_
   ·simp(disch:=omega)only[go_sem,seval,wqq,s1,m1]
    exact⟨_,rfl,rfl⟩
   simp(disch:=omega)only[go_sem,seval,wqq,s1,m1,hA',s2,m2]
   refine zaI [28] rfl ?_ ?_
   ·simp(disch:=omega)only[go_sem,seval,wqq,s2,m2]
    exact⟨_,rfl,rfl⟩
   simp(disch:=omega)only[go_sem,seval,wqq,s1,m1,hA',s2,m2,hB',ziG]
 ·have hA':(EA=0)=False:=eq_false hA
  rw[if_neg hA]
  simp(disch:=omega)only[go_sem,seval,wqq,s1,m1]
  refine zaI [14] rfl ?_ ?_
  ·simp(disch:=omega)only[go_sem,seval,wqq,s1,m1]
   exact⟨_,rfl,rfl⟩
  simp(disch:=omega)only[go_sem,seval,wqq,s1,m1,hA',ziG]
noncomputable def rwE (p:Nat→Int) (u v:IV) (i:Nat):IV×Int:=roS (p (3*i)) (p (3*i+1)) (p (3*i+2)) u v
def pjR (E:Int) (A B C X Y:IV×Int):IV×IV×Int :=
 if E=0 then (if A.2=0 then (if B.2=0 then (if C.2=0 then (if X.2=0 then (if Y.2=0 then (X.1,Y.1,0)
   else (ivZ,ivZ,Y.2)) else (ivZ,ivZ,X.2)) else (ivZ,ivZ,C.2)) else (ivZ,ivZ,B.2)) else (ivZ,ivZ,A.2)) else (ivZ,ivZ,E)
noncomputable def pjE (p:Nat→Int) (u v:IV):IV×IV×Int:=pjR (vlP p) (rwE p u v 0) (rwE p u v 1) (rwE p u v 2) (ivDiv (rwE p u v 0).1 (rwE p u v 2).1) (ivDiv (rwE p u v 1).1 (rwE p u v 2).1)
set_option maxHeartbeats 4000000 in
theorem ziQ {p:Nat→Int} (hp:∀e,Fits64 (p e)) (u v:IV):pf E0 346 [pI p,ivP u,ivP v]=some (.tu [ivP (pjE p u v).1,ivP (pjE p u v).2.1,.i .i64 (pjE p u v).2.2]):=by
 have va:=zcI hp
 have w0:pf E0 366 [.lst [.i .i64 (p 0),.i .i64 (p 1),.i .i64 (p 2)],ivP u,ivP v]=some (.tu [ivP (rwE p u v 0).1,.i .i64 (rwE p u v 0).2]):=zkK (hp 0) (hp 1) (hp 2) u v
 have w1:pf E0 366 [.lst [.i .i64 (p 3),.i .i64 (p 4),.i .i64 (p 5)],ivP u,ivP v]=some (.tu [ivP (rwE p u v 1).1,.i .i64 (rwE p u v 1).2]):=zkK (hp 3) (hp 4) (hp 5) u v
 have w2:pf E0 366 [.lst [.i .i64 (p 6),.i .i64 (p 7),.i .i64 (p 8)],ivP u,ivP v]=some (.tu [ivP (rwE p u v 2).1,.i .i64 (rwE p u v 2).2]):=zkK (hp 6) (hp 7) (hp 8) u v
 have ok2:(rwE p u v 2).1.ok:=zlb _ _ _
 have d0:=zkC (rwE p u v 0).1 (rwE p u v 2).1 ok2
 have d1:=zkC (rwE p u v 1).1 (rwE p u v 2).1 ok2
 unfold pjE pjR
 generalize rwE p u v 0=A at *
 generalize rwE p u v 1=B at *
 generalize rwE p u v 2=C at *
 generalize vlP p=E at *
 obtain⟨A,EA⟩:=A
 obtain⟨B,EB⟩:=B
 obtain⟨C,EC⟩:=C
 simp only at w0 w1 w2 d0 d1 ⊢
 generalize ivDiv A C=X at *
 generalize ivDiv B C=Y at *
 obtain⟨X,EX⟩:=X
 obtain⟨Y,EY⟩:=Y
 simp only at d0 d1 ⊢
 refine zaa (xf:=zAN) rfl (by simp[zAN]) ?_
 simp only[zAN]
 by_cases hE:E=0
 ·have hE':(E=0)=True:=eq_true hE
  rw[if_pos hE]
  simp(disch:=omega)only[go_sem,seval,wqq,va,hE']
  refine zbj zAt.eq_1 ?_
  simp(disch:=omega)only[go_sem,seval,wqq,zpK,zmF,zpL,zoy,zn8,zn9,zoa,w0]
  by_cases hEA:EA=0
  ·have hEA':(EA=0)=True:=eq_true hEA
   rw[if_pos hEA]
   simp(disch:=omega)only[go_sem,seval,wqq,hEA']
   refine zbj zAt.eq_1 ?_
   simp(disch:=omega)only[go_sem,seval,wqq,zpK,zmF,zpL,zoy,zn8,zn9,zoa,w1]
   by_cases hEB:EB=0
   ·have hEB':(EB=0)=True:=eq_true hEB
    rw[if_pos hEB]
    simp(disch:=omega)only[go_sem,seval,wqq,hEB']
    refine zbj zAt.eq_1 ?_
    simp(disch:=omega)only[go_sem,seval,wqq,zpK,zmF,zpL,zoy,zn8,zn9,zoa,w2]
    by_cases hEC:EC=0
    ·have hEC':(EC=0)=True:=eq_true hEC
     rw[if_pos hEC]
     simp(disch:=omega)only[go_sem,seval,wqq,hEC']
     refine zbj zAt.eq_1 ?_
     simp(disch:=omega)only[go_sem,seval,wqq,d0]
     by_cases hEX:EX=0
     ·have hEX':(EX=0)=True:=eq_true hEX
      rw[if_pos hEX]
      simp(disch:=omega)only[go_sem,seval,wqq,hEX',d1]
      by_cases hEY:EY=0
      ·have hEY':(EY=0)=True:=eq_true hEY
       rw[if_pos hEY]
       simp(disch:=omega)only[go_sem,seval,wqq,hEY']
       refine zax [16] [6] rfl ?_ ?_
       ·simp(disch:=omega)only[go_sem,seval,wqq,apP]
        exact⟨_,rfl,rfl⟩
       simp(disch:=omega)only[go_sem,seval,wqq]
      ·have hEY':(EY=0)=False:=eq_false hEY
       rw[if_neg hEY]
       simp(disch:=omega)only[go_sem,seval,wqq,hEY',ziG]
     ·have hEX':(EX=0)=False:=eq_false hEX
      rw[if_neg hEX]
      simp(disch:=omega)only[go_sem,seval,wqq,hEX',ziG]
    ·have hEC':(EC=0)=False:=eq_false hEC
     rw[if_neg hEC]
     simp(disch:=omega)only[go_sem,seval,wqq,hEC',ziG]
   ·have hEB':(EB=0)=False:=eq_false hEB
    rw[if_neg hEB]
    simp(disch:=omega)only[go_sem,seval,wqq,hEB',ziG]
  ·have hEA':(EA=0)=False:=eq_false hEA
   rw[if_neg hEA]
   simp(disch:=omega)only[go_sem,seval,wqq,hEA',ziG]
 ·have hE':(E=0)=False:=eq_false hE
  rw[if_neg hE]
  simp(disch:=omega)only[go_sem,seval,wqq,va,hE',ziG]
end Go.Eng
set_option maxRecDepth 10000
namespace Go.Eng
theorem zwm {a b c:Int} {u v:IV} (h:¬(ivMul (whI a) u).2=0):roS a b c u v=(ivZ,(ivMul (whI a) u).2):=if_neg h
theorem zwn {a b c:Int} {u v:IV} (h:(ivMul (whI a) u).2=0) (h2:¬(ivMul (whI b) v).2=0):roS a b c u v=(ivZ,(ivMul (whI b) v).2):=by unfold roS;rw[if_pos h,if_neg h2]
theorem zwo {a b c:Int} {u v:IV} (h:(ivMul (whI a) u).2=0) (h2:(ivMul (whI b) v).2=0) (h3:¬(ivAdd (ivMul (whI a) u).1 (ivMul (whI b) v).1).2=0):roS a b c u v=(ivZ,(ivAdd (ivMul (whI a) u).1 (ivMul (whI b) v).1).2):=by unfold roS;rw[if_pos h,if_pos h2,if_neg h3]
theorem zmD {a b c:Int} {u v:IV} (h:(ivMul (whI a) u).2=0) (h2:(ivMul (whI b) v).2=0) (h3:(ivAdd (ivMul (whI a) u).1 (ivMul (whI b) v).1).2=0):roS a b c u v=ivAdd (ivAdd (ivMul (whI a) u).1 (ivMul (whI b) v).1).1 (whI c):=by unfold roS;rw[if_pos h,if_pos h2,if_pos h3]
theorem zp6 (p:Nat→Int) (u v:IV):rwE p u v 0=roS (p 0) (p 1) (p 2) u v:=rfl
theorem zp7 (p:Nat→Int) (u v:IV):rwE p u v 1=roS (p 3) (p 4) (p 5) u v:=rfl
theorem zp8 (p:Nat→Int) (u v:IV):rwE p u v 2=roS (p 6) (p 7) (p 8) u v:=rfl
theorem zxV {p:Nat→Int} {u v:IV} (h:¬vlP p=0):pjE p u v=(ivZ,ivZ,vlP p):=if_neg h
theorem zrT {p:Nat→Int} {u v:IV} (h:vlP p=0) (h0:¬(rwE p u v 0).2=0):pjE p u v=(ivZ,ivZ,(rwE p u v 0).2):=by unfold pjE pjR;rw[if_pos h,if_neg h0]
theorem zrU {p:Nat→Int} {u v:IV} (h:vlP p=0) (h0:(rwE p u v 0).2=0) (h1:¬(rwE p u v 1).2=0):pjE p u v=(ivZ,ivZ,(rwE p u v 1).2):=by unfold pjE pjR;rw[if_pos h,if_pos h0,if_neg h1]
theorem zrV {p:Nat→Int} {u v:IV} (h:vlP p=0) (h0:(rwE p u v 0).2=0) (h1:(rwE p u v 1).2=0) (h2:¬(rwE p u v 2).2=0):pjE p u v=(ivZ,ivZ,(rwE p u v 2).2):=by unfold pjE pjR;rw[if_pos h,if_pos h0,if_pos h1,if_neg h2]
theorem zxU {p:Nat→Int} {u v:IV} (h:vlP p=0) (h0:(rwE p u v 0).2=0) (h1:(rwE p u v 1).2=0) (h2:(rwE p u v 2).2=0) :
  pjE p u v=(if (ivDiv (rwE p u v 0).1 (rwE p u v 2).1).2=0 then (if (ivDiv (rwE p u v 1).1 (rwE p u v 2).1).2=0 then ((ivDiv (rwE p u v 0).1 (rwE p u v 2).1).1,(ivDiv (rwE p u v 1).1 (rwE p u v 2).1).1,0) else (ivZ,ivZ,(ivDiv (rwE p u v 1).1 (rwE p u v 2).1).2)) else (ivZ,ivZ,(ivDiv (rwE p u v 0).1 (rwE p u v 2).1).2)):=by unfold pjE pjR;rw[if_pos h,if_pos h0,if_pos h1,if_pos h2]
theorem zlG (p:Nat→Int):cI p=[.i .i64 (p 0),.i .i64 (p 1),.i .i64 (p 2),.i .i64 (p 3),.i .i64 (p 4),.i .i64 (p 5),.i .i64 (p 6),.i .i64 (p 7),.i .i64 (p 8)]:=_root_.id rfl
set_option maxHeartbeats 8000000 in
theorem ziR {p:Nat→Int} (hp:∀e,Fits64 (p e)) (u v:IV):pf E0 347 [pI p,rvP u,rvP v]=some (.tu [rvP (pjE p u v).1,rvP (pjE p u v).2.1,.i .i64 (pjE p u v).2.2]):=by
 have va:=zrK hp
 have zr:=zmv
 have x0:=zaS (hp 0)
 have x1:=zaS (hp 1)
 have x2:=zaS (hp 2)
 have a0:=zdA (whI (p 0)) u
 have b0:=zdA (whI (p 1)) v
 have s0:=zdz (ivMul (whI (p 0)) u).1 (ivMul (whI (p 1)) v).1
 have t0:=zdz (ivAdd (ivMul (whI (p 0)) u).1 (ivMul (whI (p 1)) v).1).1 (whI (p 2))
 have x3:=zaS (hp 3)
 have x4:=zaS (hp 4)
 have x5:=zaS (hp 5)
 have a1:=zdA (whI (p 3)) u
 have b1:=zdA (whI (p 4)) v
 have s1:=zdz (ivMul (whI (p 3)) u).1 (ivMul (whI (p 4)) v).1
 have t1:=zdz (ivAdd (ivMul (whI (p 3)) u).1 (ivMul (whI (p 4)) v).1).1 (whI (p 5))
 have x6:=zaS (hp 6)
 have x7:=zaS (hp 7)
 have x8:=zaS (hp 8)
 have a2:=zdA (whI (p 6)) u
 have b2:=zdA (whI (p 7)) v
 have s2:=zdz (ivMul (whI (p 6)) u).1 (ivMul (whI (p 7)) v).1
 have t2:=zdz (ivAdd (ivMul (whI (p 6)) u).1 (ivMul (whI (p 7)) v).1).1 (whI (p 8))
 have ok2:(rwE p u v 2).1.ok:=zlb _ _ _
 have d0:=zkP (rwE p u v 0).1 (rwE p u v 2).1 ok2
 have d1:=zkP (rwE p u v 1).1 (rwE p u v 2).1 ok2
 refine zaa (xf:=zA3) rfl (by simp[zA3]) ?_
 simp only[zA3]
 by_cases hE:vlP p=0
 ·have hE':(vlP p=0)=True:=eq_true hE
  simp(disch:=omega)only[go_sem,seval,wqq,va,zr,hE']
  refine zbj zAz.eq_1 ?_
  simp(disch:=omega)only[go_sem,seval,wqq]
  refine zae rfl ?_
  simp(disch:=omega)only[go_sem,seval,wqq,zlG,x0,a0]
  by_cases hA0:(ivMul (whI (p 0)) u).2=0
  ·have hA0':((ivMul (whI (p 0)) u).2=0)=True:=eq_true hA0
   simp(disch:=omega)only[go_sem,seval,wqq,hA0']
   refine zae rfl ?_
   simp(disch:=omega)only[go_sem,seval,wqq,zlG,x1,b0]
   by_cases hB0:(ivMul (whI (p 1)) v).2=0
   ·have hB0':((ivMul (whI (p 1)) v).2=0)=True:=eq_true hB0
    simp(disch:=omega)only[go_sem,seval,wqq,hB0',s0]
    by_cases hS0:(ivAdd (ivMul (whI (p 0)) u).1 (ivMul (whI (p 1)) v).1).2=0
    ·have hS0':((ivAdd (ivMul (whI (p 0)) u).1 (ivMul (whI (p 1)) v).1).2=0)=True:=eq_true hS0
     simp(disch:=omega)only[go_sem,seval,wqq,hS0']
     refine zae rfl ?_
     simp(disch:=omega)only[go_sem,seval,wqq,zlG,x2,t0]
     by_cases hT0:(ivAdd (ivAdd (ivMul (whI (p 0)) u).1 (ivMul (whI (p 1)) v).1).1 (whI (p 2))).2=0
     ·have hT0':((ivAdd (ivAdd (ivMul (whI (p 0)) u).1 (ivMul (whI (p 1)) v).1).1 (whI (p 2))).2=0)=True:=eq_true hT0
      have z0:(rwE p u v 0).2=0:=by rw[zp6,zmD hA0 hB0 hS0];exact hT0
      have y0:(ivAdd (ivAdd (ivMul (whI (p 0)) u).1 (ivMul (whI (p 1)) v).1).1 (whI (p 2)))=rwE p u v 0:=by rw[zp6,zmD hA0 hB0 hS0]
      have w0:((rwE p u v 0).2=0)=True:=eq_true z0
      simp(disch:=omega)only[go_sem,seval,wqq,w0,y0,appP,srcP,PM.rd,Option.map_some,zai,zad]
      refine zbj zAz.eq_1 ?_
      simp(disch:=omega)only[go_sem,seval,wqq]
      refine zae rfl ?_
      simp(disch:=omega)only[go_sem,seval,wqq,zlG,x3,a1]
      by_cases hA1:(ivMul (whI (p 3)) u).2=0
      ·have hA1':((ivMul (whI (p 3)) u).2=0)=True:=eq_true hA1
       simp(disch:=omega)only[go_sem,seval,wqq,hA1']
       refine zae rfl ?_
       simp(disch:=omega)only[go_sem,seval,wqq,zlG,x4,b1]
       by_cases hB1:(ivMul (whI (p 4)) v).2=0
       ·have hB1':((ivMul (whI (p 4)) v).2=0)=True:=eq_true hB1
        simp(disch:=omega)only[go_sem,seval,wqq,hB1',s1]
        by_cases hS1:(ivAdd (ivMul (whI (p 3)) u).1 (ivMul (whI (p 4)) v).1).2=0
        ·have hS1':((ivAdd (ivMul (whI (p 3)) u).1 (ivMul (whI (p 4)) v).1).2=0)=True:=eq_true hS1
         simp(disch:=omega)only[go_sem,seval,wqq,hS1']
         refine zae rfl ?_
         simp(disch:=omega)only[go_sem,seval,wqq,zlG,x5,t1]
         by_cases hT1:(ivAdd (ivAdd (ivMul (whI (p 3)) u).1 (ivMul (whI (p 4)) v).1).1 (whI (p 5))).2=0
         ·have hT1':((ivAdd (ivAdd (ivMul (whI (p 3)) u).1 (ivMul (whI (p 4)) v).1).1 (whI (p 5))).2=0)=True:=eq_true hT1
          have z1:(rwE p u v 1).2=0:=by rw[zp7,zmD hA1 hB1 hS1];exact hT1
          have y1:(ivAdd (ivAdd (ivMul (whI (p 3)) u).1 (ivMul (whI (p 4)) v).1).1 (whI (p 5)))=rwE p u v 1:=by rw[zp7,zmD hA1 hB1 hS1]
          have w1:((rwE p u v 1).2=0)=True:=eq_true z1
          simp(disch:=omega)only[go_sem,seval,wqq,w1,y1,appP,srcP,PM.rd,Option.map_some,zai,zad]
          refine zbj zAz.eq_1 ?_
          simp(disch:=omega)only[go_sem,seval,wqq]
          refine zae rfl ?_
          simp(disch:=omega)only[go_sem,seval,wqq,zlG,x6,a2]
          by_cases hA2:(ivMul (whI (p 6)) u).2=0
          ·have hA2':((ivMul (whI (p 6)) u).2=0)=True:=eq_true hA2
           simp(disch:=omega)only[go_sem,seval,wqq,hA2']
           refine zae rfl ?_
           simp(disch:=omega)only[go_sem,seval,wqq,zlG,x7,b2]
           by_cases hB2:(ivMul (whI (p 7)) v).2=0
           ·have hB2':((ivMul (whI (p 7)) v).2=0)=True:=eq_true hB2
            simp(disch:=omega)only[go_sem,seval,wqq,hB2',s2]
            by_cases hS2:(ivAdd (ivMul (whI (p 6)) u).1 (ivMul (whI (p 7)) v).1).2=0
            ·have hS2':((ivAdd (ivMul (whI (p 6)) u).1 (ivMul (whI (p 7)) v).1).2=0)=True:=eq_true hS2
             simp(disch:=omega)only[go_sem,seval,wqq,hS2']
             refine zae rfl ?_
             simp(disch:=omega)only[go_sem,seval,wqq,zlG,x8,t2]
             by_cases hT2:(ivAdd (ivAdd (ivMul (whI (p 6)) u).1 (ivMul (whI (p 7)) v).1).1 (whI (p 8))).2=0
             ·have hT2':((ivAdd (ivAdd (ivMul (whI (p 6)) u).1 (ivMul (whI (p 7)) v).1).1 (whI (p 8))).2=0)=True:=eq_true hT2
              have z2:(rwE p u v 2).2=0:=by rw[zp8,zmD hA2 hB2 hS2];exact hT2
              have y2:(ivAdd (ivAdd (ivMul (whI (p 6)) u).1 (ivMul (whI (p 7)) v).1).1 (whI (p 8)))=rwE p u v 2:=by rw[zp8,zmD hA2 hB2 hS2]
              have w2:((rwE p u v 2).2=0)=True:=eq_true z2
              simp(disch:=omega)only[go_sem,seval,wqq,w2,y2,appP,srcP,PM.rd,Option.map_some,zai,zad]
              rw[zxU hE z0 z1 z2]
              clear y0 y1 y2
              generalize ivDiv (rwE p u v 0).1 (rwE p u v 2).1=X at *
              generalize ivDiv (rwE p u v 1).1 (rwE p u v 2).1=Y at *
              refine zbj zAz.eq_1 ?_
              by_cases hX:X.2=0
              ·have hX':(X.2=0)=True:=eq_true hX
               rw[if_pos hX]
               by_cases hY:Y.2=0
               ·have hY':(Y.2=0)=True:=eq_true hY
                rw[if_pos hY]
                simp(disch:=omega)only[go_sem,seval,wqq,d0,hX',d1,hY']
                refine zax [23] [6] rfl ?_ ?_
                ·simp only[go_sem,seval,apP]
                 exact⟨_,rfl,rfl⟩
                simp only[go_sem,seval]
               ·have hY':(Y.2=0)=False:=eq_false hY
                rw[if_neg hY]
                simp(disch:=omega)only[go_sem,seval,wqq,d0,hX',d1,hY']
                refine zax [9] [6] rfl ?_ ?_
                ·simp only[go_sem,seval,apP]
                 exact⟨_,rfl,rfl⟩
                simp only[go_sem,seval]
              ·have hX':(X.2=0)=False:=eq_false hX
               rw[if_neg hX]
               simp(disch:=omega)only[go_sem,seval,wqq,d0,hX']
               refine zax [9] [6] rfl ?_ ?_
               ·simp only[go_sem,seval,apP]
                exact⟨_,rfl,rfl⟩
               simp only[go_sem,seval]
             ·have hT2':((ivAdd (ivAdd (ivMul (whI (p 6)) u).1 (ivMul (whI (p 7)) v).1).1 (whI (p 8))).2=0)=False:=eq_false hT2
              have nn:(rwE p u v 2).2=(ivAdd (ivAdd (ivMul (whI (p 6)) u).1 (ivMul (whI (p 7)) v).1).1 (whI (p 8))).2:=by rw[zp8,zmD hA2 hB2 hS2]
              rw[zrV hE z0 z1 (by rw[nn];exact hT2),nn]
              simp(disch:=omega)only[go_sem,seval,wqq,hT2']
              refine zax [9] [6] rfl ?_ ?_
              ·simp only[go_sem,seval,apP]
               exact⟨_,rfl,rfl⟩
              simp only[go_sem,seval]
            ·have hS2':((ivAdd (ivMul (whI (p 6)) u).1 (ivMul (whI (p 7)) v).1).2=0)=False:=eq_false hS2
             have nn:(rwE p u v 2).2=(ivAdd (ivMul (whI (p 6)) u).1 (ivMul (whI (p 7)) v).1).2:=by rw[zp8,zwo hA2 hB2 hS2]
             rw[zrV hE z0 z1 (by rw[nn];exact hS2),nn]
             simp(disch:=omega)only[go_sem,seval,wqq,hS2']
             refine zax [9] [6] rfl ?_ ?_
             ·simp only[go_sem,seval,apP]
              exact⟨_,rfl,rfl⟩
             simp only[go_sem,seval]
           ·have hB2':((ivMul (whI (p 7)) v).2=0)=False:=eq_false hB2
            have nn:(rwE p u v 2).2=(ivMul (whI (p 7)) v).2:=by rw[zp8,zwn hA2 hB2]
            rw[zrV hE z0 z1 (by rw[nn];exact hB2),nn]
            simp(disch:=omega)only[go_sem,seval,wqq,hB2']
            refine zax [9] [6] rfl ?_ ?_
            ·simp only[go_sem,seval,apP]
             exact⟨_,rfl,rfl⟩
            simp only[go_sem,seval]
          ·have hA2':((ivMul (whI (p 6)) u).2=0)=False:=eq_false hA2
           have nn:(rwE p u v 2).2=(ivMul (whI (p 6)) u).2:=by rw[zp8,zwm hA2]
           rw[zrV hE z0 z1 (by rw[nn];exact hA2),nn]
           simp(disch:=omega)only[go_sem,seval,wqq,hA2']
           refine zax [9] [6] rfl ?_ ?_
           ·simp only[go_sem,seval,apP]
            exact⟨_,rfl,rfl⟩
           simp only[go_sem,seval]
         ·have hT1':((ivAdd (ivAdd (ivMul (whI (p 3)) u).1 (ivMul (whI (p 4)) v).1).1 (whI (p 5))).2=0)=False:=eq_false hT1
          have nn:(rwE p u v 1).2=(ivAdd (ivAdd (ivMul (whI (p 3)) u).1 (ivMul (whI (p 4)) v).1).1 (whI (p 5))).2:=by rw[zp7,zmD hA1 hB1 hS1]
          rw[zrU hE z0 (by rw[nn];exact hT1),nn]
          simp(disch:=omega)only[go_sem,seval,wqq,hT1']
          refine zax [9] [6] rfl ?_ ?_
          ·simp only[go_sem,seval,apP]
           exact⟨_,rfl,rfl⟩
          simp only[go_sem,seval]
        ·have hS1':((ivAdd (ivMul (whI (p 3)) u).1 (ivMul (whI (p 4)) v).1).2=0)=False:=eq_false hS1
         have nn:(rwE p u v 1).2=(ivAdd (ivMul (whI (p 3)) u).1 (ivMul (whI (p 4)) v).1).2:=by rw[zp7,zwo hA1 hB1 hS1]
         rw[zrU hE z0 (by rw[nn];exact hS1),nn]
         simp(disch:=omega)only[go_sem,seval,wqq,hS1']
         refine zax [9] [6] rfl ?_ ?_
         ·simp only[go_sem,seval,apP]
          exact⟨_,rfl,rfl⟩
         simp only[go_sem,seval]
       ·have hB1':((ivMul (whI (p 4)) v).2=0)=False:=eq_false hB1
        have nn:(rwE p u v 1).2=(ivMul (whI (p 4)) v).2:=by rw[zp7,zwn hA1 hB1]
        rw[zrU hE z0 (by rw[nn];exact hB1),nn]
        simp(disch:=omega)only[go_sem,seval,wqq,hB1']
        refine zax [9] [6] rfl ?_ ?_
        ·simp only[go_sem,seval,apP]
         exact⟨_,rfl,rfl⟩
        simp only[go_sem,seval]
      ·have hA1':((ivMul (whI (p 3)) u).2=0)=False:=eq_false hA1
       have nn:(rwE p u v 1).2=(ivMul (whI (p 3)) u).2:=by rw[zp7,zwm hA1]
       rw[zrU hE z0 (by rw[nn];exact hA1),nn]
       simp(disch:=omega)only[go_sem,seval,wqq,hA1']
       refine zax [9] [6] rfl ?_ ?_
       ·simp only[go_sem,seval,apP]
        exact⟨_,rfl,rfl⟩
       simp only[go_sem,seval]
     ·have hT0':((ivAdd (ivAdd (ivMul (whI (p 0)) u).1 (ivMul (whI (p 1)) v).1).1 (whI (p 2))).2=0)=False:=eq_false hT0
      have nn:(rwE p u v 0).2=(ivAdd (ivAdd (ivMul (whI (p 0)) u).1 (ivMul (whI (p 1)) v).1).1 (whI (p 2))).2:=by rw[zp6,zmD hA0 hB0 hS0]
      rw[zrT hE  (by rw[nn];exact hT0),nn]
      simp(disch:=omega)only[go_sem,seval,wqq,hT0']
      refine zax [9] [6] rfl ?_ ?_
      ·simp only[go_sem,seval,apP]
       exact⟨_,rfl,rfl⟩
      simp only[go_sem,seval]
    ·have hS0':((ivAdd (ivMul (whI (p 0)) u).1 (ivMul (whI (p 1)) v).1).2=0)=False:=eq_false hS0
     have nn:(rwE p u v 0).2=(ivAdd (ivMul (whI (p 0)) u).1 (ivMul (whI (p 1)) v).1).2:=by rw[zp6,zwo hA0 hB0 hS0]
     rw[zrT hE  (by rw[nn];exact hS0),nn]
     simp(disch:=omega)only[go_sem,seval,wqq,hS0']
     refine zax [9] [6] rfl ?_ ?_
     ·simp only[go_sem,seval,apP]
      exact⟨_,rfl,rfl⟩
     simp only[go_sem,seval]
   ·have hB0':((ivMul (whI (p 1)) v).2=0)=False:=eq_false hB0
    have nn:(rwE p u v 0).2=(ivMul (whI (p 1)) v).2:=by rw[zp6,zwn hA0 hB0]
    rw[zrT hE  (by rw[nn];exact hB0),nn]
    simp(disch:=omega)only[go_sem,seval,wqq,hB0']
    refine zax [9] [6] rfl ?_ ?_
    ·simp only[go_sem,seval,apP]
     exact⟨_,rfl,rfl⟩
    simp only[go_sem,seval]
  ·have hA0':((ivMul (whI (p 0)) u).2=0)=False:=eq_false hA0
   have nn:(rwE p u v 0).2=(ivMul (whI (p 0)) u).2:=by rw[zp6,zwm hA0]
   rw[zrT hE  (by rw[nn];exact hA0),nn]
   simp(disch:=omega)only[go_sem,seval,wqq,hA0']
   refine zax [9] [6] rfl ?_ ?_
   ·simp only[go_sem,seval,apP]
    exact⟨_,rfl,rfl⟩
   simp only[go_sem,seval]
 ·have hE':(vlP p=0)=False:=eq_false hE
  rw[zxV hE]
  simp(disch:=omega)only[go_sem,seval,wqq,va,zr,hE']
  refine zax [9] [6] rfl ?_ ?_
  ·simp only[go_sem,seval,apP]
   exact⟨_,rfl,rfl⟩
  simp only[go_sem,seval]
end Go.Eng
set_option maxRecDepth 10000
namespace Go.Eng
theorem zqQ {x:IV} (h:x.ok):ivHas x (frQ x.lo):=by rw[zjO (by decide) (zhA x.lo)];exact⟨Int.le_refl _,Int.mul_le_mul_of_nonneg_right h (by decide)⟩
theorem zqP {x:IV} (h:x.ok):ivHas x (frQ x.hi):=by rw[zjO (by decide) (zhA x.hi)];exact⟨Int.mul_le_mul_of_nonneg_right h (by decide),Int.le_refl _⟩
end Go.Eng
