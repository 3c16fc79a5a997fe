/- The engine and the contracts on which the statement stands: no conditions of its own. -/
import Derived.Test.YtchfmldhdbknlaaGreatDoorMine4
set_option linter.unusedSimpArgs false
set_option linter.unusedVariables false
set_option linter.unusedSectionVars false
namespace Go.Eng
theorem zi6 (x y:IV):pf E0 379 [ivP x,ivP y]=some (.tu [ivP (ivAdd x y).1,.i .i64 (ivAdd x y).2]):=by
 have a1:=zhD x.lo y.lo
 have a2:=zhD x.hi y.hi
 rw[zaC (zdq x.l y.l)] at a1
 rw[zaC (zdq x.h y.h)] at a2
 have v1:=zaH (zdq x.l y.l)
 have v2:=zaH (zdq x.h y.h)
 have md:=zgZ (clip (x.lo.v+y.lo.v)) (clip (x.hi.v+y.hi.v))
 rw[v1,v2] at md
 unfold ivAdd
 generalize mdI (x.lo.v+y.lo.v) (x.hi.v+y.hi.v)=R at *
 generalize clip (x.lo.v+y.lo.v)=u at *
 generalize clip (x.hi.v+y.hi.v)=v at *
 refine zaa (xf:=zxT) rfl (by simp[zxT]) ?_
 simp only[zxT]
 simp(disch:=omega)only[go_sem,seval,wqq,a1,a2,md]
def mnU (a b:WI):WI:=if b.v<a.v then b else a
def mxU (a b:WI):WI:=if b.v>a.v then b else a
theorem zhz (a b:WI):(mnU a b).v=min2 a.v b.v:=by unfold mnU min2;split<;>rfl
theorem zhA (a b:WI):(mxU a b).v=max2 a.v b.v:=by unfold mxU max2;split<;>rfl
theorem zq1 (ws:List WI):ez 2 (ws.map wiP)=true:=by
 unfold ez
 rw[List.all_eq_true]
 intro x hx
 obtain⟨w,_,rfl⟩:=List.mem_map.1 hx
 rfl
theorem zpD (w:WI) (ws:List WI):slP 2 (.lst ((w::ws).map wiP)) (some (.i .i64 1)) none none=some (.lst (ws.map wiP)):=by
 have h:=zq1 (w::ws)
 simp only[slP,Option.isSome_none,Bool.false_eq_true,if_false,optP,asNP,asIP]
 rw[if_pos (by decide)]
 simp only
 rw[if_pos ⟨by simp,Nat.le_refl _,h⟩,List.take_length]
 rfl
theorem zkp (ws:List WI) {i:Nat} (h:i<ws.length):(ws.map wiP)[i]?=some (wiP ws[i]):=by rw[List.getElem?_map,List.getElem?_eq_getElem h];rfl
theorem zlo (M:PM) (d:Nat) (ws:List WI):fzL (fz M (d+1+1)) (ws.map wiP)=some (ws.map wiP,[]):=by
 induction ws with
 | nil=>rfl
 | cons w ws ih=>simp only[List.map_cons,fzL,zos,ih,List.nil_append]
theorem ziX (w:WI) (ws:List WI) (hl:ws.length<1000):pf E0 387 [.ag [.fn 296 [],.fn 297 []],.lst ((w::ws).map wiP)]=some (wiP (ws.foldl mnU w)):=by
 have s0:=zpD w ws
 have s1:=zkp (w::ws) (i:=0) (by simp)
 refine zaa (xf:=zvQ) rfl (by simp[zvQ]) ?_
 simp only[zvQ]
 have l0:(((w::ws).map wiP).length:Int)=((ws.length+1:Nat):Int):=by simp
 have l1:((ws.map wiP).length:Int)=((ws.length:Nat):Int):=by simp
 have g0:(w::ws)[0]=w:=rfl
 have fz0:fzL (fz [] 12) ((w::ws).map wiP)=some ((w::ws).map wiP,[]):=zlo _ _ _
 generalize (w::ws).map wiP=L0 at *
 generalize hL:ws.map wiP=L1 at *
 simp(disch:=omega)only[go_sem,seval,wqq,s0,s1,l0,l1,g0,fz0]
 refine zao zv7.eq_1 (fun(i:Nat) fr M=>i≤ws.length∧fr 2=.p 0 0∧fr 4=.p 1 0∧fr 5=.p 2 0∧fr 12=.lst L1∧fr 13=(PV.i .i64 ((ws.length:Nat):Int))∧fr 14=(PV.i .i64 ((i:Nat):Int))∧∃v G,M=some ⟨[.fn 296 [],.fn 297 []],true,0⟩::some ⟨[.b false,.nl],true,0⟩::some ⟨(wiP ((ws.take i).foldl mnU w)).cells,true,v⟩::G) (fun i=>ws.length-i) ?_ 0 ⟨by omega,by simp only[go_sem,seval],by simp only[go_sem,seval],by simp only[go_sem,seval],by simp only[go_sem,seval],by simp only[go_sem,seval,l1],by simp only[go_sem,seval],_,[],rfl⟩
 rintro i fr M ⟨hi,f2,f4,f5,f12,f13,f14,v,G,rfl⟩ ih
 by_cases h:i<ws.length
 ·have q1:((i:Int)<(ws.length:Int))=True:=by simp;omega
  have x1:=zkp ws h
  rw[hL] at x1
  have st:(ws.take (i+1)).foldl mnU w=mnU ((ws.take i).foldl mnU w) ws[i]:=by rw[List.take_succ_eq_append_getElem h,List.foldl_append];rfl
  have d1:=znb ws[i] ((ws.take i).foldl mnU w)
  have hm:mnU ((ws.take i).foldl mnU w) ws[i]=if ws[i].v<((ws.take i).foldl mnU w).v then ws[i] else (ws.take i).foldl mnU w:=rfl
  rw[←st] at hm
  generalize hc:(ws.take i).foldl mnU w=c at *
  generalize hn:(ws.take (i+1)).foldl mnU w=n at *
  generalize ws[i]=b at *
  by_cases hb:b.v<c.v
  ·rw[if_pos hb] at hm
   subst hm
   rw[decide_eq_true hb] at d1
   simp(disch:=omega)only[go_sem,seval,wqq,f2,f4,f5,f12,f13,f14,q1,x1,d1,mG,mG0,sG,sG0,lG,lqq]
   exact ih (i+1) _ _ (by omega) ⟨by omega,by simp only[go_sem,seval,f2],by simp only[go_sem,seval,f4],by simp only[go_sem,seval,f5],by simp only[go_sem,seval,f12],by simp only[go_sem,seval,f13],by simp only[go_sem,seval];rw[Int.natCast_succ],_,_,by rw[hn];rfl⟩
  ·rw[if_neg hb] at hm
   subst hm
   rw[decide_eq_false hb] at d1
   simp(disch:=omega)only[go_sem,seval,wqq,f2,f4,f5,f12,f13,f14,q1,x1,d1,mG,mG0,sG,sG0,lG,lqq]
   exact ih (i+1) _ _ (by omega) ⟨by omega,by simp only[go_sem,seval,f2],by simp only[go_sem,seval,f4],by simp only[go_sem,seval,f5],by simp only[go_sem,seval,f12],by simp only[go_sem,seval,f13],by simp only[go_sem,seval];rw[Int.natCast_succ],_,_,by rw[hn];rfl⟩
 ·have q1:((i:Int)<(ws.length:Int))=False:=by simp;omega
  have e1:ws.take i=ws:=List.take_of_length_le (by omega)
  rw[e1]
  generalize ws.foldl mnU w=c at *
  simp(disch:=omega)only[go_sem,seval,wqq,f2,f4,f5,f12,f13,f14,q1]
theorem ziY (w:WI) (ws:List WI) (hl:ws.length<1000):pf E0 387 [.ag [.fn 298 [],.fn 299 []],.lst ((w::ws).map wiP)]=some (wiP (ws.foldl mxU w)):=by
 have s0:=zpD w ws
 have s1:=zkp (w::ws) (i:=0) (by simp)
 refine zaa (xf:=zvQ) rfl (by simp[zvQ]) ?_
 simp only[zvQ]
 have l0:(((w::ws).map wiP).length:Int)=((ws.length+1:Nat):Int):=by simp
 have l1:((ws.map wiP).length:Int)=((ws.length:Nat):Int):=by simp
 have g0:(w::ws)[0]=w:=rfl
 have fz0:fzL (fz [] 12) ((w::ws).map wiP)=some ((w::ws).map wiP,[]):=zlo _ _ _
 generalize (w::ws).map wiP=L0 at *
 generalize hL:ws.map wiP=L1 at *
 simp(disch:=omega)only[go_sem,seval,wqq,s0,s1,l0,l1,g0,fz0]
 refine zao zv7.eq_1 (fun(i:Nat) fr M=>i≤ws.length∧fr 2=.p 0 0∧fr 4=.p 1 0∧fr 5=.p 2 0∧fr 12=.lst L1∧fr 13=(PV.i .i64 ((ws.length:Nat):Int))∧fr 14=(PV.i .i64 ((i:Nat):Int))∧∃v G,M=some ⟨[.fn 298 [],.fn 299 []],true,0⟩::some ⟨[.b false,.nl],true,0⟩::some ⟨(wiP ((ws.take i).foldl mxU w)).cells,true,v⟩::G) (fun i=>ws.length-i) ?_ 0 ⟨by omega,by simp only[go_sem,seval],by simp only[go_sem,seval],by simp only[go_sem,seval],by simp only[go_sem,seval],by simp only[go_sem,seval,l1],by simp only[go_sem,seval],_,[],rfl⟩
 rintro i fr M ⟨hi,f2,f4,f5,f12,f13,f14,v,G,rfl⟩ ih
 by_cases h:i<ws.length
 ·have q1:((i:Int)<(ws.length:Int))=True:=by simp;omega
  have x1:=zkp ws h
  rw[hL] at x1
  have st:(ws.take (i+1)).foldl mxU w=mxU ((ws.take i).foldl mxU w) ws[i]:=by rw[List.take_succ_eq_append_getElem h,List.foldl_append];rfl
  have d1:=zrG ws[i] ((ws.take i).foldl mxU w)
  have hm:mxU ((ws.take i).foldl mxU w) ws[i]=if ws[i].v>((ws.take i).foldl mxU w).v then ws[i] else (ws.take i).foldl mxU w:=rfl
  rw[←st] at hm
  generalize hc:(ws.take i).foldl mxU w=c at *
  generalize hn:(ws.take (i+1)).foldl mxU w=n at *
  generalize ws[i]=b at *
  by_cases hb:b.v>c.v
  ·rw[if_pos hb] at hm
   subst hm
   rw[decide_eq_true hb] at d1
   simp(disch:=omega)only[go_sem,seval,wqq,f2,f4,f5,f12,f13,f14,q1,x1,d1,mG,mG0,sG,sG0,lG,lqq]
   exact ih (i+1) _ _ (by omega) ⟨by omega,by simp only[go_sem,seval,f2],by simp only[go_sem,seval,f4],by simp only[go_sem,seval,f5],by simp only[go_sem,seval,f12],by simp only[go_sem,seval,f13],by simp only[go_sem,seval];rw[Int.natCast_succ],_,_,by rw[hn];rfl⟩
  ·rw[if_neg hb] at hm
   subst hm
   rw[decide_eq_false hb] at d1
   simp(disch:=omega)only[go_sem,seval,wqq,f2,f4,f5,f12,f13,f14,q1,x1,d1,mG,mG0,sG,sG0,lG,lqq]
   exact ih (i+1) _ _ (by omega) ⟨by omega,by simp only[go_sem,seval,f2],by simp only[go_sem,seval,f4],by simp only[go_sem,seval,f5],by simp only[go_sem,seval,f12],by simp only[go_sem,seval,f13],by simp only[go_sem,seval];rw[Int.natCast_succ],_,_,by rw[hn];rfl⟩
 ·have q1:((i:Int)<(ws.length:Int))=False:=by simp;omega
  have e1:ws.take i=ws:=List.take_of_length_le (by omega)
  rw[e1]
  generalize ws.foldl mxU w=c at *
  simp(disch:=omega)only[go_sem,seval,wqq,f2,f4,f5,f12,f13,f14,q1]
end Go.Eng
namespace Go.Eng
theorem zlr (a b c d:WI):group 2 4 [PV.b (decide (a.v<0)),Dw (wlen a.v.natAbs) a.v.natAbs,PV.b (decide (b.v<0)),Dw (wlen b.v.natAbs) b.v.natAbs,PV.b (decide (c.v<0)),Dw (wlen c.v.natAbs) c.v.natAbs,PV.b (decide (d.v<0)),Dw (wlen d.v.natAbs) d.v.natAbs]=[wiP a,wiP b,wiP c,wiP d]:=_root_.id rfl
theorem zdx (a b:WI) (h:wlen (a.v*b.v).natAbs≤512):∃q:WI,q.v=flI (a.v*b.v) 4294967296∧pf E0 386 [wiP a,wiP b,.fp [.fn 296 [],.fn 297 []]]=some (wiP q):=by
 have m1:=zfC a b
 rw[zaC h] at m1
 have cv:=zaH h
 have g1:=f32
 have wv:=zfb
 obtain⟨q,qv,fl⟩:∃q:WI,q.v=flI (a.v*b.v) 4294967296∧pf E0 296 [wiP (clip (a.v*b.v)),wiP w32]=some (.tu [wiP q,.i .i64 0]):=⟨_,by show (clip (a.v*b.v)).v/w32.v=_;rw[cv,wv];rfl,zcM (clip (a.v*b.v)) w32 (by rw[wv];decide)⟩
 generalize clip (a.v*b.v)=z at *
 generalize w32=ww at *
 refine⟨q,qv,?_⟩
 refine zaa (xf:=zwc) rfl (by simp[zwc]) ?_
 simp only[zwc]
 simp(disch:=omega)only[go_sem,seval,wqq,m1]
 refine zah rfl ?_
 simp(disch:=omega)only[go_sem,seval,wqq,g1,fl]
theorem zdy (a b:WI) (h:wlen (a.v*b.v).natAbs≤512):∃q:WI,q.v=ceI (a.v*b.v) 4294967296∧pf E0 386 [wiP a,wiP b,.fp [.fn 298 [],.fn 299 []]]=some (wiP q):=by
 have m1:=zfC a b
 rw[zaC h] at m1
 have cv:=zaH h
 have g1:=f32
 have wv:=zfb
 obtain⟨q,qv,fl⟩:=zdv (clip (a.v*b.v)) w32 (by rw[wv];decide)
 rw[cv,wv] at qv
 generalize clip (a.v*b.v)=z at *
 generalize w32=ww at *
 refine⟨q,qv,?_⟩
 refine zaa (xf:=zwc) rfl (by simp[zwc]) ?_
 simp only[zwc]
 simp(disch:=omega)only[go_sem,seval,wqq,m1]
 refine zah rfl ?_
 simp(disch:=omega)only[go_sem,seval,wqq,g1,fl]
theorem zkE (x y:IV) {q1 q2 q3 q4:WI} (h1:pf E0 386 [wiP x.lo,wiP y.lo,.fp [.fn 296 [],.fn 297 []]]=some (wiP q1)) (h2:pf E0 386 [wiP x.lo,wiP y.hi,.fp [.fn 296 [],.fn 297 []]]=some (wiP q2))
  (h3:pf E0 386 [wiP x.hi,wiP y.lo,.fp [.fn 296 [],.fn 297 []]]=some (wiP q3)) (h4:pf E0 386 [wiP x.hi,wiP y.hi,.fp [.fn 296 [],.fn 297 []]]=some (wiP q4)) :
  pf E0 381 [.ag [.fn 296 [],.fn 297 []],ivP x,ivP y,.fn 386 [.fp [.fn 296 [],.fn 297 []]]]=some (wiP (mnU (mnU (mnU q1 q2) q3) q4)):=by
 have b:=ziX q1 [q2,q3,q4] (by simp)
 simp only[List.map_cons,List.map_nil,List.foldl_cons,List.foldl_nil] at b
 generalize mnU (mnU (mnU q1 q2) q3) q4=R at *
 refine zaa (xf:=zvP) rfl (by simp[zvP]) ?_
 simp only[zvP]
 simp(disch:=omega)only[go_sem,seval,wqq]
 refine zbq [10,16,22,28] rfl ?_ ?_
 ·simp(disch:=omega)only[go_sem,seval,wqq,h1,h2,h3,h4,b,zam,zad,zlr]
  exact⟨_,rfl,rfl⟩
 simp(disch:=omega)only[go_sem,seval,wqq,h1,h2,h3,h4,b,zam,zad,zlr]
theorem zkF (x y:IV) {q1 q2 q3 q4:WI} (h1:pf E0 386 [wiP x.lo,wiP y.lo,.fp [.fn 298 [],.fn 299 []]]=some (wiP q1)) (h2:pf E0 386 [wiP x.lo,wiP y.hi,.fp [.fn 298 [],.fn 299 []]]=some (wiP q2))
  (h3:pf E0 386 [wiP x.hi,wiP y.lo,.fp [.fn 298 [],.fn 299 []]]=some (wiP q3)) (h4:pf E0 386 [wiP x.hi,wiP y.hi,.fp [.fn 298 [],.fn 299 []]]=some (wiP q4)) :
  pf E0 381 [.ag [.fn 298 [],.fn 299 []],ivP x,ivP y,.fn 386 [.fp [.fn 298 [],.fn 299 []]]]=some (wiP (mxU (mxU (mxU q1 q2) q3) q4)):=by
 have b:=ziY q1 [q2,q3,q4] (by simp)
 simp only[List.map_cons,List.map_nil,List.foldl_cons,List.foldl_nil] at b
 generalize mxU (mxU (mxU q1 q2) q3) q4=R at *
 refine zaa (xf:=zvP) rfl (by simp[zvP]) ?_
 simp only[zvP]
 simp(disch:=omega)only[go_sem,seval,wqq]
 refine zbq [10,16,22,28] rfl ?_ ?_
 ·simp(disch:=omega)only[go_sem,seval,wqq,h1,h2,h3,h4,b,zam,zad,zlr]
  exact⟨_,rfl,rfl⟩
 simp(disch:=omega)only[go_sem,seval,wqq,h1,h2,h3,h4,b,zam,zad,zlr]
theorem zm7 (x y:IV):∃q:WI,q.v=mulLo x y∧pf E0 385 [.ag [.fn 296 [],.fn 297 []],.fp (ivP x).cells,.fp (ivP y).cells]=some (wiP q):=by
 obtain⟨q1,v1,h1⟩:=zdx x.lo y.lo (zbr x.l y.l)
 obtain⟨q2,v2,h2⟩:=zdx x.lo y.hi (zbr x.l y.h)
 obtain⟨q3,v3,h3⟩:=zdx x.hi y.lo (zbr x.h y.l)
 obtain⟨q4,v4,h4⟩:=zdx x.hi y.hi (zbr x.h y.h)
 have f:=zkE x y h1 h2 h3 h4
 have e:(mnU (mnU (mnU q1 q2) q3) q4).v=mulLo x y:=by
  rw[zhz,zhz,zhz,v1,v2,v3,v4];rfl
 generalize mnU (mnU (mnU q1 q2) q3) q4=R at *
 refine⟨R,e,?_⟩
 refine zaa (xf:=zwo) rfl (by simp[zwo]) ?_
 simp only[zwo]
 simp(disch:=omega)only[go_sem,seval,wqq,f]
theorem zm8 (x y:IV):∃q:WI,q.v=mulHi x y∧pf E0 385 [.ag [.fn 298 [],.fn 299 []],.fp (ivP x).cells,.fp (ivP y).cells]=some (wiP q):=by
 obtain⟨q1,v1,h1⟩:=zdy x.lo y.lo (zbr x.l y.l)
 obtain⟨q2,v2,h2⟩:=zdy x.lo y.hi (zbr x.l y.h)
 obtain⟨q3,v3,h3⟩:=zdy x.hi y.lo (zbr x.h y.l)
 obtain⟨q4,v4,h4⟩:=zdy x.hi y.hi (zbr x.h y.h)
 have f:=zkF x y h1 h2 h3 h4
 have e:(mxU (mxU (mxU q1 q2) q3) q4).v=mulHi x y:=by
  rw[zhA,zhA,zhA,v1,v2,v3,v4];rfl
 generalize mxU (mxU (mxU q1 q2) q3) q4=R at *
 refine⟨R,e,?_⟩
 refine zaa (xf:=zwo) rfl (by simp[zwo]) ?_
 simp only[zwo]
 simp(disch:=omega)only[go_sem,seval,wqq,f]
theorem zne (x y:IV):pf E0 378 [ivP x,ivP y]=some (.tu [ivP (ivMul x y).1,.i .i64 (ivMul x y).2]):=by
 obtain⟨u,uv,e1⟩:=zm7 x y
 obtain⟨v,vv,e2⟩:=zm8 x y
 have md:=zgZ u v
 unfold ivMul
 rw[uv,vv] at md
 generalize mdI (mulLo x y) (mulHi x y)=R at *
 rw[zcC,zcC] at e1 e2
 clear uv vv
 refine zaa (xf:=zxK) rfl (by simp[zxK]) ?_
 simp only[zxK]
 simp(disch:=omega)only[go_sem,seval,wqq]
 refine zbq [8,11] rfl ?_ ?_
 ·simp(disch:=omega)only[go_sem,seval,wqq,zlf,zlg,e1,e2,md]
  exact⟨_,rfl,rfl⟩
 simp(disch:=omega)only[go_sem,seval,wqq,zlf,zlg,e1,e2,md]
end Go.Eng
namespace Go.Eng
theorem zpJ {K:Nat} (h:K≤16384):tlen (two K).natAbs<20000:=by
 have:=ze8 K
 rw[zch];omega
theorem zqz:T 0=.lst []:=by unfold T;rw[zaP];rfl
theorem znx:rvP ivZ=.ag [.b false,.lst [],.b false,.lst []]:=by
 have:rvP ivZ=.ag [.b false,T 0,.b false,T 0]:=rfl
 rw[this,zqz]
theorem zkI {x y:Int} (lx:tlen x.natAbs<50000) (ly:tlen y.natAbs<50000):pf E0 363 [nP x,nP y]=some (.tu [rvP (mdI x y).1,.i .i64 (mdI x y).2]):=by
 have hp:pf E0 128 [.i .i64 8192]=some (nP (two 8192)):=zeV 8192 (by omega)
 have lt:=zpJ (K:=8192) (by omega)
 have n1:=zdf (two 8192) (by omega)
 have ln:tlen (- two 8192).natAbs<20000:=by rw[Int.natAbs_neg];exact lt
 have c1:=za7 x (- two 8192) (by omega) (by omega)
 have c2:=za7 y (two 8192) (by omega) (by omega)
 have c3:=za7 y (- two 8192) (by omega) (by omega)
 have c4:=za7 x (two 8192) (by omega) (by omega)
 have hx:=zf5 x
 have hy:=zf5 y
 have hz:rvP (mdI x y).1=(if inB x∧inB y then rfP x y else .ag [.b false,.lst [],.b false,.lst []]):=by
  split
  ·rename_i h
   obtain⟨_,e1,e2⟩:=zfy h
   unfold rvP;rw[e1,e2]
  ·rename_i h
   rw[ziF h];exact znx
 have he:(mdI x y).2=(if inB x∧inB y then 0 else 4):=by
  split
  ·rename_i h;exact(zfy h).1
  ·rename_i h;rw[ziF h]
 rw[hz,he]
 clear hz he lx ly lt ln
 have k1:∀a b:Int,(cmpI a b≤0)↔a≤b:=fun a b=>by unfold cmpI;split<;>(try split)<;>omega
 have k2:∀a b:Int,(0≤cmpI a b)↔b≤a:=fun a b=>by unfold cmpI;split<;>(try split)<;>omega
 generalize two 8192=t at *
 refine zaa (xf:=zxD) rfl (by simp[zxD]) ?_
 simp only[zxD]
 simp(disch:=omega)only[go_sem,seval,wqq,hp]
 by_cases h1:x ≤ -t
 ·have q1:(cmpI x (-t)≤0)=True:=by rw[k1];exact eq_true h1
  rw[if_neg (fun q=>by have:=hx.1 q.1;omega),if_neg (fun q=>by have:=hx.1 q.1;omega)]
  refine zah rfl ?_
  simp(disch:=omega)only[go_sem,seval,wqq,n1,c1,q1,zam,zad]
 ·have q1:(cmpI x (-t)≤0)=False:=by rw[k1];exact eq_false h1
  by_cases h2:t≤y
  ·have q2:(0≤cmpI y t)=True:=by rw[k2];exact eq_true h2
   rw[if_neg (fun q=>by have:=hy.1 q.2;omega),if_neg (fun q=>by have:=hy.1 q.2;omega)]
   refine zah rfl ?_
   simp(disch:=omega)only[go_sem,seval,wqq,n1,c1,q1,c2,q2,zam,zad]
  ·have q2:(0≤cmpI y t)=False:=by rw[k2];exact eq_false h2
   refine zah rfl ?_
   simp(disch:=omega)only[go_sem,seval,wqq,n1,c1,q1,c2,q2,zam,zad]
   by_cases h3:y ≤ -t
   ·have q3:(cmpI y (-t)≤0)=True:=by rw[k1];exact eq_true h3
    rw[if_neg (fun q=>by have:=hy.1 q.2;omega),if_neg (fun q=>by have:=hy.1 q.2;omega)]
    refine zah rfl ?_
    simp(disch:=omega)only[go_sem,seval,wqq,n1,c3,q3,zam,zad]
   ·have q3:(cmpI y (-t)≤0)=False:=by rw[k1];exact eq_false h3
    by_cases h4:t≤x
    ·have q4:(0≤cmpI x t)=True:=by rw[k2];exact eq_true h4
     rw[if_neg (fun q=>by have:=hx.1 q.1;omega),if_neg (fun q=>by have:=hx.1 q.1;omega)]
     refine zah rfl ?_
     simp(disch:=omega)only[go_sem,seval,wqq,n1,c3,q3,c4,q4,zam,zad]
    ·have q4:(0≤cmpI x t)=False:=by rw[k2];exact eq_false h4
     rw[if_pos ⟨hx.2 ⟨by omega,by omega⟩,hy.2 ⟨by omega,by omega⟩⟩,if_pos ⟨hx.2 ⟨by omega,by omega⟩,hy.2 ⟨by omega,by omega⟩⟩]
     refine zah rfl ?_
     simp(disch:=omega)only[go_sem,seval,wqq,n1,c3,q3,c4,q4,zam,zad]
theorem zlR {a b:Int} (h:0<b):sgA a b=a∧sgB b=b:=by unfold sgA sgB;rw[if_neg (by omega),if_neg (by omega)];exact⟨rfl,rfl⟩
theorem zfF {a b:Int} (hb:b≠0) (la:tlen a.natAbs<50000) (lb:tlen b.natAbs<50000):pf E0 364 [nP a,nP b]=some (nP (flI (sgA a b) (sgB b))):=by
 have d1:=zem (x:=sgA a b) (y:=sgB b) (by unfold sgB;split<;>omega) (by unfold sgA;split<;>(try rw[Int.natAbs_neg])<;>omega) (by unfold sgB;split<;>(try rw[Int.natAbs_neg])<;>omega)
 have d1:pf E0 120 [nP (sgA a b),nP (sgB b)]=some (.tu [nP (flI (sgA a b) (sgB b)),nP (sgA a b%sgB b)]):=d1
 have n1:=zdf a (by omega)
 have n2:=zdf b (by omega)
 generalize flI (sgA a b) (sgB b)=q at *
 generalize sgA a b%sgB b=r at *
 by_cases h:b<0
 ·have sn:decide (b<0)=true:=by simp;omega
  have e1:sgA a b = -a:=by unfold sgA;rw[if_pos h]
  have e2:sgB b = -b:=by unfold sgB;rw[if_pos h]
  rw[e1,e2] at d1
  have f1:PV.ag [PV.b true,Tw (tlen b.natAbs) b.natAbs]=nP b:=by rw[←sn];rfl
  refine zaa (xf:=zwv) rfl (by simp[zwv]) ?_
  simp only[zwv]
  simp(disch:=omega)only[go_sem,seval,wqq,sn,n1,n2,d1,f1]
 ·have sn:decide (b<0)=false:=by simp;omega
  have e1:sgA a b=a:=by unfold sgA;rw[if_neg h]
  have e2:sgB b=b:=by unfold sgB;rw[if_neg h]
  rw[e1,e2] at d1
  have f1:PV.ag [PV.b false,Tw (tlen b.natAbs) b.natAbs]=nP b:=by rw[←sn];rfl
  refine zaa (xf:=zwv) rfl (by simp[zwv]) ?_
  simp only[zwv]
  simp(disch:=omega)only[go_sem,seval,wqq,sn,d1,f1]
theorem zpG {a b:Int} {N:Nat} (la:tlen a.natAbs<N):tlen (flI a b).natAbs<N:=Nat.lt_of_le_of_lt (zau (zcg _ _)) la
theorem ztj {a b:Int} {N:Nat} (la:tlen a.natAbs<N):tlen (ceI a b).natAbs<N:=by
 unfold ceI;rw[Int.natAbs_neg]
 exact Nat.lt_of_le_of_lt (zau (zcg _ _)) (by rw[Int.natAbs_neg];exact la)
theorem ztk {a b:Int} {N:Nat} (la:tlen a.natAbs<N):tlen (sgA a b).natAbs<N:=by unfold sgA;split<;>(try rw[Int.natAbs_neg])<;>exact la
theorem zkL {a b:Int} (hb:b≠0) (la:tlen a.natAbs<50000) (lb:tlen b.natAbs<50000):pf E0 365 [nP a,nP b]=some (nP (ceI (sgA a b) (sgB b))):=by
 have n1:=zdf a (by omega)
 have f1:=zfF (a := -a) hb (by rw[Int.natAbs_neg];exact la) lb
 have lf:tlen (flI (sgA (-a) b) (sgB b)).natAbs<50000:=zpG (ztk (by rw[Int.natAbs_neg];exact la))
 have n2:=zdf (flI (sgA (-a) b) (sgB b)) (by omega)
 have e : - flI (sgA (-a) b) (sgB b)=ceI (sgA a b) (sgB b):=by rw[zjA];rfl
 rw[e] at n2
 generalize flI (sgA (-a) b) (sgB b)=q at *
 generalize ceI (sgA a b) (sgB b)=c at *
 refine zaa (xf:=zxH) rfl (by simp[zxH]) ?_
 simp only[zxH]
 simp(disch:=omega)only[go_sem,seval,wqq]
 refine zah rfl ?_
 simp(disch:=omega)only[go_sem,seval,wqq,n1,f1,n2]
theorem zg4 (a:FQ):pf E0 362 [rfQ a]=some (.b (decide (¬(inL a.p.v∧inL a.q.v)))):=by
 have hp:pf E0 128 [.i .i64 16000]=some (nP (two 16000)):=zeV 16000 (by omega)
 have lt:=zpJ (K:=16000) (by omega)
 have lp:=zdY a.p
 have lq:=zdY a.q
 obtain⟨m,hm⟩:∃m:Int,m=(a.p.v.natAbs:Int):=⟨_,rfl⟩
 have em:PV.ag [.b false,T a.p.v.natAbs]=nP m:=by
  have:decide (m<0)=false:=by simp;omega
  unfold nP
  rw[this,hm,Int.natAbs_natCast]
 have lm:tlen m.natAbs≤1239:=by rw[hm,Int.natAbs_natCast];exact lp
 have c1:=za7 m (two 16000) (by omega) (by omega)
 have c2:=za7 a.q.v (two 16000) (by omega) (by omega)
 have hq:=a.q1
 have l1:=zeM a.p.v
 have l2:=zeM a.q.v
 rw[←hm] at l1
 rw[show (a.q.v.natAbs:Int)=a.q.v by omega] at l2
 generalize two 16000=t at *
 have k:∀z:Int,(0≤cmpI z t)↔t≤z:=fun z=>by unfold cmpI;split<;>(try split)<;>omega
 have e:decide (¬(inL a.p.v∧inL a.q.v))=(if 0≤cmpI m t then true else decide (0≤cmpI a.q.v t)):=by
  by_cases h1:t≤m
  ·rw[if_pos ((k _).2 h1)]
   exact decide_eq_true (fun q=>l1.1 q.1 h1)
  ·rw[if_neg (fun q=>h1 ((k _).1 q))]
   by_cases h2:t≤a.q.v
   ·rw[decide_eq_true ((k _).2 h2)]
    exact decide_eq_true (fun q=>l2.1 q.2 h2)
   ·rw[decide_eq_false (fun q=>h2 ((k _).1 q))]
    exact decide_eq_false (fun q=>q ⟨l1.2 h1,l2.2 h2⟩)
 rw[e]
 clear e k l1 l2 hm
 unfold rfQ
 generalize a.p.v=P at *
 generalize a.q.v=Q at *
 refine zaa (xf:=zxU) rfl (by simp[zxU]) ?_
 simp only[zxU]
 by_cases h1:0≤cmpI m t
 ·rw[if_pos h1]
  have h1:(0≤cmpI m t)=True:=by simp[h1]
  simp(disch:=omega)only[go_sem,seval,wqq,hp,em,c1,h1]
 ·rw[if_neg h1]
  have h1:(0≤cmpI m t)=False:=by simp[h1]
  simp(disch:=omega)only[go_sem,seval,wqq,hp,em,c1,h1,c2]
end Go.Eng
namespace Go.Eng
@[go_sem] theorem ztQ (M:PM) (d:Nat) (x:IV):fz M (d+1+1) (rvP x)=some (rvP x,[]):=_root_.id rfl
@[go_sem] theorem zn7 (x:IV):(rvP x).cells=[.b (decide (x.lo.v<0)),T x.lo.v.natAbs,.b (decide (x.hi.v<0)),T x.hi.v.natAbs]:=_root_.id rfl
@[go_sem] theorem zra (x:IV):rfP x.lo.v x.hi.v=rvP x:=_root_.id rfl
theorem zeU:pf E0 128 [.i .i64 32]=some (nP 4294967296):=by
 have h:pf E0 128 [.i .i64 32]=some (nP (two 32)):=zeV 32 (by omega)
 rw[zpI] at h;exact h
theorem zdj (x:WI):tlen x.v.natAbs≤1239:=zdY x
theorem zuI:tlen (4294967296:Int).natAbs≤3:=zae (by decide)
theorem zpl (a b c d:FQ) (hab:(cmpF a b>0∧c=b∧d=a)∨(¬cmpF a b>0∧c=a∧d=b)):pf E0 345 [rfQ a,rfQ b]=some (.tu [rvP (mkSo c d).1,.i .i64 (mkSo c d).2]):=by
 have c1:pf E0 200 [rfQ a,rfQ b]=some (.i .i64 (cmpF a b)):=zgd _ _ _ _ (by have:=zdj a.p;omega) (by have:=zdj a.q;omega) (by have:=zdj b.p;omega) (by have:=zdj b.q;omega)
 have l1:=zg4 c
 have l2:=zg4 d
 have hp:=zeU
 have t3:=zuI
 have tc:=zdj c.p
 have tcq:=zdj c.q
 have td:=zdj d.p
 have tdq:=zdj d.q
 have cq:=c.q1
 have dq:=d.q1
 have m1:=zcn c.p.v 4294967296 (by omega) (by omega)
 have m2:=zcn d.p.v 4294967296 (by omega) (by omega)
 have t1:=zbo c.p.v 4294967296
 have t2:=zbo d.p.v 4294967296
 have e1:=zfF (a:=c.p.v*4294967296) (b:=c.q.v) (by omega) (by omega) (by omega)
 have e2:=zkL (a:=d.p.v*4294967296) (b:=d.q.v) (by omega) (by omega) (by omega)
 obtain⟨s1,s2⟩:=zlR (a:=c.p.v*4294967296) (b:=c.q.v) (by omega)
 obtain⟨s3,s4⟩:=zlR (a:=d.p.v*4294967296) (b:=d.q.v) (by omega)
 rw[s1,s2] at e1
 rw[s3,s4] at e2
 have md:=zkI (x:=flI (c.p.v*4294967296) c.q.v) (y:=ceI (d.p.v*4294967296) d.q.v) (zpG (by omega)) (ztj (by omega))
 have step:∀q:Prop,(q=(0<cmpF a b))→(q=True∧c=b∧d=a)∨(q=False∧c=a∧d=b):=fun q hq=>by
  rcases hab with⟨h1,h2⟩|⟨h1,h2⟩
  ·left;exact⟨by rw[hq];simp;omega,h2⟩
  ·right;exact⟨by rw[hq];simp;omega,h2⟩
 have s0:=step _ rfl
 generalize cmpF a b=cm at *
 clear step hab s1 s2 s3 s4
 unfold mkSo
 by_cases h1:inL c.p.v∧inL c.q.v
 ·rw[decide_eq_false (fun q=>q h1)] at l1
  by_cases h2:inL d.p.v∧inL d.q.v
  ·rw[decide_eq_false (fun q=>q h2)] at l2
   rw[if_pos ⟨h1.1,h1.2,h2.1,h2.2⟩]
   generalize mdI (flI (c.p.v*4294967296) c.q.v) (ceI (d.p.v*4294967296) d.q.v)=R at *
   generalize flI (c.p.v*4294967296) c.q.v=u at *
   generalize ceI (d.p.v*4294967296) d.q.v=v at *
   generalize c.p.v*4294967296=cm at *
   generalize d.p.v*4294967296=dm at *
   obtain⟨s,hs⟩:∃s:Int,s=4294967296:=⟨_,rfl⟩
   rw[←hs] at hp m1 m2
   clear h1 h2 hs
   rcases s0 with⟨q0,rfl,rfl⟩|⟨q0,rfl,rfl⟩
   ·refine zaa (xf:=zvU) rfl (by simp[zvU]) ?_
    simp only[zvU]
    simp(disch:=omega)only[go_sem,seval,wqq,c1,q0,l1,l2,hp]
    refine zah rfl ?_
    simp(disch:=omega)only[go_sem,seval,wqq,m1,m2,e1,e2,md]
   ·refine zaa (xf:=zvU) rfl (by simp[zvU]) ?_
    simp only[zvU]
    simp(disch:=omega)only[go_sem,seval,wqq,c1,q0,l1,l2,hp]
    refine zah rfl ?_
    simp(disch:=omega)only[go_sem,seval,wqq,m1,m2,e1,e2,md]
  ·rw[decide_eq_true h2] at l2
   rw[if_neg (fun q=>h2 q.2.2)]
   show _=some (PV.tu [rvP ivZ,PV.i .i64 4])
   rw[znx]
   rcases s0 with⟨q0,rfl,rfl⟩|⟨q0,rfl,rfl⟩
   ·refine zaa (xf:=zvU) rfl (by simp[zvU]) ?_
    simp only[zvU]
    simp(disch:=omega)only[go_sem,seval,wqq,c1,q0,l1,l2,zam,zad]
   ·refine zaa (xf:=zvU) rfl (by simp[zvU]) ?_
    simp only[zvU]
    simp(disch:=omega)only[go_sem,seval,wqq,c1,q0,l1,l2,zam,zad]
 ·rw[decide_eq_true h1] at l1
  rw[if_neg (fun q=>h1 ⟨q.1,q.2.1⟩)]
  show _=some (PV.tu [rvP ivZ,PV.i .i64 4])
  rw[znx]
  have l2':∃v:Bool,pf E0 362 [rfQ d]=some (.b v):=⟨_,l2⟩
  obtain⟨v,l2⟩:=l2'
  rcases s0 with⟨q0,rfl,rfl⟩|⟨q0,rfl,rfl⟩
  ·refine zaa (xf:=zvU) rfl (by simp[zvU]) ?_
   simp only[zvU]
   simp(disch:=omega)only[go_sem,seval,wqq,c1,q0,l1,l2,zam,zad]
  ·refine zaa (xf:=zvU) rfl (by simp[zvU]) ?_
   simp only[zvU]
   simp(disch:=omega)only[go_sem,seval,wqq,c1,q0,l1,l2,zam,zad]
theorem zkN (a b:FQ):pf E0 345 [rfQ a,rfQ b]=some (.tu [rvP (mkI a b).1,.i .i64 (mkI a b).2]):=by
 by_cases h:cmpF a b>0
 ·have:=zpl a b b a (.inl ⟨h,rfl,rfl⟩)
  unfold mkI;rw[if_pos h];exact this
 ·have:=zpl a b a b (.inr ⟨h,rfl,rfl⟩)
  unfold mkI;rw[if_neg h];exact this
theorem zg3 (x:WI):pf E0 373 [nP x.v]=some (rfQ (frQ x)):=by
 have hp:=zeU
 have m1:=zja x w32
 rw[zfb] at m1
 unfold frQ
 generalize (makF x w32).1=R at *
 generalize (makF x w32).2=E at *
 generalize x.v=z at *
 obtain⟨s,hs⟩:∃s:Int,s=4294967296:=⟨_,rfl⟩
 rw[←hs] at hp m1
 clear hs
 refine zaa (xf:=zxA) rfl (by simp[zxA]) ?_
 simp only[zxA]
 simp(disch:=omega)only[go_sem,seval,wqq]
 refine zah rfl ?_
 simp(disch:=omega)only[go_sem,seval,wqq,hp,m1]
end Go.Eng
namespace Go.Eng
noncomputable def nL (N:Nat) (P:Nat→Int):List PV:=(List.range N).map fun i=>nP (P i)
end Go.Eng
set_option maxRecDepth 10000
namespace Go.Eng
theorem zdt (a b:WI) (ha:inB a.v) (hb:b.v≠0):∃q:WI,q.v=dFl a.v b.v∧pf E0 382 [wiP a,wiP b,.fp [.fn 296 [],.fn 297 []]]=some (wiP q):=by
 have sb:=zbZ b
 by_cases h:b.v<0
 ·have n1:=zdP a
  have n2:=zdP b
  have nv:a.neg.v = -a.v:=rfl
  have bv:b.neg.v = -b.v:=rfl
  have t0:(cmpI b.v 0<0)=True:=by unfold cmpI;rw[if_pos h];simp
  have s1:=zck (x:=a.neg)
  have hs:wlen (a.neg.v*4294967296).natAbs≤512:=zgF (by rw[nv];exact zeK.2 ha)
  rw[zaC hs] at s1
  have cv:=zaH hs
  have dv:dFl a.v b.v=flI (a.neg.v*4294967296) b.neg.v:=by unfold dFl sgA sgB;rw[if_pos h,if_pos h];rfl
  rw[dv]
  generalize clip (a.neg.v*4294967296)=z at *
  generalize a.neg=u at *
  generalize b.neg=w at *
  obtain⟨q,qv,fl⟩:∃q:WI,q.v=flI (u.v*4294967296) w.v∧pf E0 296 [wiP z,wiP w]=some (.tu [wiP q,.i .i64 0]):=⟨_,by show z.v/w.v=_;rw[cv];rfl,zcM z w (by omega)⟩
  refine⟨q,qv,?_⟩
  refine zaa (xf:=zvT) rfl (by simp[zvT]) ?_
  simp only[zvT]
  simp(disch:=omega)only[go_sem,seval,wqq,sb,t0]
  refine zah rfl ?_
  simp(disch:=omega)only[go_sem,seval,wqq,n1,n2,s1,fl]
 ·have t0:(cmpI b.v 0<0)=False:=by unfold cmpI;rw[if_neg h];split<;>simp
  have s1:=zck (x:=a)
  have hs:wlen (a.v*4294967296).natAbs≤512:=zgF ha
  rw[zaC hs] at s1
  have cv:=zaH hs
  have dv:dFl a.v b.v=flI (a.v*4294967296) b.v:=by unfold dFl sgA sgB;rw[if_neg h,if_neg h]
  rw[dv]
  have bv:b.v=b.v:=rfl
  generalize clip (a.v*4294967296)=z at *
  obtain⟨q,qv,fl⟩:∃q:WI,q.v=flI (a.v*4294967296) b.v∧pf E0 296 [wiP z,wiP b]=some (.tu [wiP q,.i .i64 0]):=⟨_,by show z.v/b.v=_;rw[cv];rfl,zcM z b (by omega)⟩
  refine⟨q,qv,?_⟩
  refine zaa (xf:=zvT) rfl (by simp[zvT]) ?_
  simp only[zvT]
  simp(disch:=omega)only[go_sem,seval,wqq,sb,t0,s1,fl]
theorem zdu (a b:WI) (ha:inB a.v) (hb:b.v≠0):∃q:WI,q.v=dCe a.v b.v∧pf E0 382 [wiP a,wiP b,.fp [.fn 298 [],.fn 299 []]]=some (wiP q):=by
 have sb:=zbZ b
 by_cases h:b.v<0
 ·have n1:=zdP a
  have n2:=zdP b
  have nv:a.neg.v = -a.v:=rfl
  have bv:b.neg.v = -b.v:=rfl
  have t0:(cmpI b.v 0<0)=True:=by unfold cmpI;rw[if_pos h];simp
  have s1:=zck (x:=a.neg)
  have hs:wlen (a.neg.v*4294967296).natAbs≤512:=zgF (by rw[nv];exact zeK.2 ha)
  rw[zaC hs] at s1
  have cv:=zaH hs
  have dv:dCe a.v b.v=ceI (a.neg.v*4294967296) b.neg.v:=by unfold dCe sgA sgB;rw[if_pos h,if_pos h];rfl
  rw[dv]
  generalize clip (a.neg.v*4294967296)=z at *
  generalize a.neg=u at *
  generalize b.neg=w at *
  obtain⟨q,qv,fl⟩:=zdv z w (by omega)
  rw[cv] at qv
  refine⟨q,qv,?_⟩
  refine zaa (xf:=zvT) rfl (by simp[zvT]) ?_
  simp only[zvT]
  simp(disch:=omega)only[go_sem,seval,wqq,sb,t0]
  refine zah rfl ?_
  simp(disch:=omega)only[go_sem,seval,wqq,n1,n2,s1,fl]
 ·have t0:(cmpI b.v 0<0)=False:=by unfold cmpI;rw[if_neg h];split<;>simp
  have s1:=zck (x:=a)
  have hs:wlen (a.v*4294967296).natAbs≤512:=zgF ha
  rw[zaC hs] at s1
  have cv:=zaH hs
  have dv:dCe a.v b.v=ceI (a.v*4294967296) b.v:=by unfold dCe sgA sgB;rw[if_neg h,if_neg h]
  rw[dv]
  have bv:b.v=b.v:=rfl
  generalize clip (a.v*4294967296)=z at *
  obtain⟨q,qv,fl⟩:=zdv z b (by omega)
  rw[cv] at qv
  refine⟨q,qv,?_⟩
  refine zaa (xf:=zvT) rfl (by simp[zvT]) ?_
  simp only[zvT]
  simp(disch:=omega)only[go_sem,seval,wqq,sb,t0,s1,fl]
theorem zkC (x y:IV) {q1 q2 q3 q4:WI} (h1:pf E0 382 [wiP x.lo,wiP y.lo,.fp [.fn 296 [],.fn 297 []]]=some (wiP q1)) (h2:pf E0 382 [wiP x.lo,wiP y.hi,.fp [.fn 296 [],.fn 297 []]]=some (wiP q2))
  (h3:pf E0 382 [wiP x.hi,wiP y.lo,.fp [.fn 296 [],.fn 297 []]]=some (wiP q3)) (h4:pf E0 382 [wiP x.hi,wiP y.hi,.fp [.fn 296 [],.fn 297 []]]=some (wiP q4)) :
  pf E0 381 [.ag [.fn 296 [],.fn 297 []],ivP x,ivP y,.fn 382 [.fp [.fn 296 [],.fn 297 []]]]=some (wiP (mnU (mnU (mnU q1 q2) q3) q4)):=by
 have b:=ziX q1 [q2,q3,q4] (by simp)
 simp only[List.map_cons,List.map_nil,List.foldl_cons,List.foldl_nil] at b
 generalize mnU (mnU (mnU q1 q2) q3) q4=R at *
 refine zaa (xf:=zvP) rfl (by simp[zvP]) ?_
 simp only[zvP]
 simp(disch:=omega)only[go_sem,seval,wqq]
 refine zbq [10,16,22,28] rfl ?_ ?_
 ·simp(disch:=omega)only[go_sem,seval,wqq,h1,h2,h3,h4,b,zam,zad,zlr]
  exact⟨_,rfl,rfl⟩
 simp(disch:=omega)only[go_sem,seval,wqq,h1,h2,h3,h4,b,zam,zad,zlr]
theorem zkD (x y:IV) {q1 q2 q3 q4:WI} (h1:pf E0 382 [wiP x.lo,wiP y.lo,.fp [.fn 298 [],.fn 299 []]]=some (wiP q1)) (h2:pf E0 382 [wiP x.lo,wiP y.hi,.fp [.fn 298 [],.fn 299 []]]=some (wiP q2))
  (h3:pf E0 382 [wiP x.hi,wiP y.lo,.fp [.fn 298 [],.fn 299 []]]=some (wiP q3)) (h4:pf E0 382 [wiP x.hi,wiP y.hi,.fp [.fn 298 [],.fn 299 []]]=some (wiP q4)) :
  pf E0 381 [.ag [.fn 298 [],.fn 299 []],ivP x,ivP y,.fn 382 [.fp [.fn 298 [],.fn 299 []]]]=some (wiP (mxU (mxU (mxU q1 q2) q3) q4)):=by
 have b:=ziY q1 [q2,q3,q4] (by simp)
 simp only[List.map_cons,List.map_nil,List.foldl_cons,List.foldl_nil] at b
 generalize mxU (mxU (mxU q1 q2) q3) q4=R at *
 refine zaa (xf:=zvP) rfl (by simp[zvP]) ?_
 simp only[zvP]
 simp(disch:=omega)only[go_sem,seval,wqq]
 refine zbq [10,16,22,28] rfl ?_ ?_
 ·simp(disch:=omega)only[go_sem,seval,wqq,h1,h2,h3,h4,b,zam,zad,zlr]
  exact⟨_,rfl,rfl⟩
 simp(disch:=omega)only[go_sem,seval,wqq,h1,h2,h3,h4,b,zam,zad,zlr]
theorem zm3 (x y:IV) (n1:y.lo.v≠0) (n2:y.hi.v≠0):∃q:WI,q.v=divLo x y∧pf E0 380 [.ag [.fn 296 [],.fn 297 []],.fp (ivP x).cells,.fp (ivP y).cells]=some (wiP q):=by
 obtain⟨q1,v1,h1⟩:=zdt x.lo y.lo x.l n1
 obtain⟨q2,v2,h2⟩:=zdt x.lo y.hi x.l n2
 obtain⟨q3,v3,h3⟩:=zdt x.hi y.lo x.h n1
 obtain⟨q4,v4,h4⟩:=zdt x.hi y.hi x.h n2
 have f:=zkC x y h1 h2 h3 h4
 have e:(mnU (mnU (mnU q1 q2) q3) q4).v=divLo x y:=by
  rw[zhz,zhz,zhz,v1,v2,v3,v4];rfl
 generalize mnU (mnU (mnU q1 q2) q3) q4=R at *
 refine⟨R,e,?_⟩
 refine zaa (xf:=zwp) rfl (by simp[zwp]) ?_
 simp only[zwp]
 simp(disch:=omega)only[go_sem,seval,wqq,f]
theorem zm4 (x y:IV) (n1:y.lo.v≠0) (n2:y.hi.v≠0):∃q:WI,q.v=divHi x y∧pf E0 380 [.ag [.fn 298 [],.fn 299 []],.fp (ivP x).cells,.fp (ivP y).cells]=some (wiP q):=by
 obtain⟨q1,v1,h1⟩:=zdu x.lo y.lo x.l n1
 obtain⟨q2,v2,h2⟩:=zdu x.lo y.hi x.l n2
 obtain⟨q3,v3,h3⟩:=zdu x.hi y.lo x.h n1
 obtain⟨q4,v4,h4⟩:=zdu x.hi y.hi x.h n2
 have f:=zkD x y h1 h2 h3 h4
 have e:(mxU (mxU (mxU q1 q2) q3) q4).v=divHi x y:=by
  rw[zhA,zhA,zhA,v1,v2,v3,v4];rfl
 generalize mxU (mxU (mxU q1 q2) q3) q4=R at *
 refine⟨R,e,?_⟩
 refine zaa (xf:=zwp) rfl (by simp[zwp]) ?_
 simp only[zwp]
 simp(disch:=omega)only[go_sem,seval,wqq,f]
theorem zi7 (x y:IV) (hy:y.ok):pf E0 367 [ivP x,ivP y]=some (.tu [ivP (ivDiv x y).1,.i .i64 (ivDiv x y).2]):=by
 have s1:=zbZ y.lo
 have s2:=zbZ y.hi
 have k1:∀a:Int,(cmpI a 0≤0)↔a≤0:=fun a=>by unfold cmpI;split<;>(try split)<;>omega
 have k2:∀a:Int,(0≤cmpI a 0)↔0≤a:=fun a=>by unfold cmpI;split<;>(try split)<;>omega
 unfold ivDiv
 by_cases h:has0 y
 ·rw[if_pos h]
  have q1:(cmpI y.lo.v 0≤0)=True:=eq_true ((k1 _).2 h.1)
  have q2:(0≤cmpI y.hi.v 0)=True:=eq_true ((k2 _).2 h.2)
  show _=some (PV.tu [ivP ivZ,PV.i .i64 9])
  rw[zp8]
  refine zaa (xf:=zwf) rfl (by simp[zwf]) ?_
  simp only[zwf]
  simp(disch:=omega)only[go_sem,seval,wqq,s1,s2,q1,q2,zam,zad]
 ·rw[if_neg h]
  obtain⟨n1,n2⟩:=zmx h hy
  obtain⟨u,uv,e1⟩:=zm3 x y n1 n2
  obtain⟨v,vv,e2⟩:=zm4 x y n1 n2
  have md:=zgZ u v
  rw[uv,vv] at md
  generalize mdI (divLo x y) (divHi x y)=R at *
  rw[zcC,zcC] at e1 e2
  clear uv vv
  by_cases hl:y.lo.v≤0
  ·have q1:(cmpI y.lo.v 0≤0)=True:=eq_true ((k1 _).2 hl)
   have q2:(0≤cmpI y.hi.v 0)=False:=eq_false (fun q=>h ⟨hl,(k2 _).1 q⟩)
   refine zaa (xf:=zwf) rfl (by simp[zwf]) ?_
   simp only[zwf]
   simp(disch:=omega)only[go_sem,seval,wqq,s1,s2,q1,q2]
   refine zbq [19,22] rfl ?_ ?_
   ·simp(disch:=omega)only[go_sem,seval,wqq,zlf,zlg,e1,e2,md]
    exact⟨_,rfl,rfl⟩
   simp(disch:=omega)only[go_sem,seval,wqq,zlf,zlg,e1,e2,md]
  ·have q1:(cmpI y.lo.v 0≤0)=False:=eq_false (fun q=>hl ((k1 _).1 q))
   refine zaa (xf:=zwf) rfl (by simp[zwf]) ?_
   simp only[zwf]
   simp(disch:=omega)only[go_sem,seval,wqq,s1,q1]
   refine zbq [19,22] rfl ?_ ?_
   ·simp(disch:=omega)only[go_sem,seval,wqq,zlf,zlg,e1,e2,md]
    exact⟨_,rfl,rfl⟩
   simp(disch:=omega)only[go_sem,seval,wqq,zlf,zlg,e1,e2,md]
def ivNeg (y:IV):IV:=⟨y.hi.neg,y.lo.neg,zeK.2 y.h,zeK.2 y.l⟩
theorem ziw (x y:IV):ivAdd x (ivNeg y)=ivSub x y:=rfl
theorem znf (x y:IV):pf E0 516 [ivP x,ivP y]=some (.tu [ivP (ivSub x y).1,.i .i64 (ivSub x y).2]):=by
 have a:=zi6 x (ivNeg y)
 rw[ziw] at a
 have n1:=zdP y.hi
 have n2:=zdP y.lo
 have hq:ivP (ivNeg y)=.ag [.b (decide (y.hi.neg.v<0)),D y.hi.neg.v.natAbs,.b (decide (y.lo.neg.v<0)),D y.lo.neg.v.natAbs]:=rfl
 rw[hq] at a
 generalize ivSub x y=R at *
 clear hq
 generalize y.hi.neg=u at *
 generalize y.lo.neg=v at *
 refine zaa (xf:=zxG) rfl (by simp[zxG]) ?_
 simp only[zxG]
 simp(disch:=omega)only[go_sem,seval,wqq]
 refine zah rfl ?_
 simp(disch:=omega)only[go_sem,seval,wqq,n1,n2,a,zam,zad]
end Go.Eng
set_option maxRecDepth 10000
namespace Go.Eng
end Go.Eng
namespace Go.Eng
def upd {α:Type} (X:Nat→α) (i:Nat) (v:α):Nat→α:=fun e=>if e=i then v else X e
def cs (n:Nat) (X:Nat→Int):List PV:=(List.range n).map fun e=>.i .i64 (X e)
def zF:Nat→Int:=fun _=>0
end Go.Eng
namespace Go.Eng
end Go.Eng
namespace Go.Eng
noncomputable def cW (w:Nat→WI):List PV:=[.b (decide ((w 0).v<0)),D (w 0).v.natAbs,.b (decide ((w 1).v<0)),D (w 1).v.natAbs,.b (decide ((w 2).v<0)),D (w 2).v.natAbs,.b (decide ((w 3).v<0)),D (w 3).v.natAbs,.b (decide ((w 4).v<0)),D (w 4).v.natAbs,.b (decide ((w 5).v<0)),D (w 5).v.natAbs,.b (decide ((w 6).v<0)),D (w 6).v.natAbs,.b (decide ((w 7).v<0)),D (w 7).v.natAbs,.b (decide ((w 8).v<0)),D (w 8).v.natAbs]
noncomputable def mW (w:Nat→WI):PV:=.ag (cW w)
def cI (p:Nat→Int):List PV:=[.i .i64 (p 0),.i .i64 (p 1),.i .i64 (p 2),.i .i64 (p 3),.i .i64 (p 4),.i .i64 (p 5),.i .i64 (p 6),.i .i64 (p 7),.i .i64 (p 8)]
def pI (p:Nat→Int):PV:=.ag (cI p)
end Go.Eng
namespace Go.Eng
end Go.Eng
namespace Go.Eng
end Go.Eng
namespace Go.Eng
def gN (X:Nat→Int):Nat→Nat
 | 0=>0
 | i+1=>Nat.gcd (gN X i) (X i).natAbs
noncomputable def gW (x:Nat→WI):Nat→WI
 | 0=>wi0
 | i+1=>(gW x i).gcd (x i)
noncomputable def gC (x:Nat→WI):Nat→List PV
 | 0=>[.b false,.nl]
 | i+1=>[.b (decide ((gW x (i+1)).v<0)),D (gW x (i+1)).v.natAbs]
end Go.Eng
namespace Go.Eng
end Go.Eng
namespace Go.Eng
def sB (n:Nat):Nat→Bool:=fun e=>decide (e<n)
def rtK (a b c d e:Int):Int:=a*(b*c)-a*(d*e)
def rdV (z:Nat→Int):Int:=0+rtK (z 0) (z 4) (z 8) (z 5) (z 7)+rtK (z 1) (z 5) (z 6) (z 3) (z 8)+rtK (z 2) (z 3) (z 7) (z 4) (z 6)
end Go.Eng
namespace Go.Eng
end Go.Eng
namespace Go.Eng
end Go.Eng
namespace Go.Eng
def rpK (a b c d e f:Int):Int:=0+a*b+c*d+e*f
def rprV (z u:Nat→Int):Nat→Int:=fun e=>rpK (z (3*(e/3))) (u (e%3)) (z (3*(e/3)+1)) (u (3+e%3)) (z (3*(e/3)+2)) (u (6+e%3))
end Go.Eng

namespace Go.Eng
def mnV (X:Nat→Int) (i k:Nat):Int:=X (3*((i+1)%3)+(k+1)%3)*X (3*((i+2)%3)+(k+2)%3)-X (3*((i+1)%3)+(k+2)%3)*X (3*((i+2)%3)+(k+1)%3)
end Go.Eng
namespace Go.Eng
noncomputable def wc (t:WI):List PV:=[.b (decide (t.v<0)),D t.v.natAbs]
structure WZ (L:List PV) (s:WI):Prop where
 len:L.length=2
 sc:L.all PV.scal=true
 fz:∀(M:PM) (d:Nat),fzL (fz M (d+1)) L=some (wc s,[])
end Go.Eng
namespace Go.Eng
def cg (n:Nat) (f:Nat→List PV):List PV:=(List.range n).flatMap f
end Go.Eng
namespace Go.Eng
def facT:List (List Int):=[[],[0],[1],[2],[0,0],[0,1],[0,2],[1,1],[1,2],[2,2],[0,0,0],[0,0,1],[0,0,2],[0,1,1],[0,1,2],[0,2,2],[1,1,1],[1,1,2],[1,2,2],[2,2,2]]
def facL (i:Nat):List Int:=facT.getD i []
def prL (X:Nat→Int):List Int→Int
 | []=>1
 | a::l=>X a.toNat*prL X l
end Go.Eng
namespace Go.Eng
end Go.Eng
namespace Go.Eng
theorem zgT {n m:Int} (hn:Fits64 n) (hm:Fits64 m) (h1:1≤m):pf E0 6 [.i .i64 n,.i .i64 m]=some (.i .i64 (aro n m)):=by
 refine zaa (xf:=zw8) rfl (by simp[zw8]) ?_
 simp only[zw8]
 unfold Fits64 at hn hm
 have a0:=zcU n h1
 have a1:=zhQ n h1
 have q1:(m=0)=False:=by simp;omega
 by_cases h:n<0
 ·have e:(0-(n+1)).tmod m=aro n m:=by
   unfold aro
   rw[if_pos h,Int.tmod_eq_emod_of_nonneg (by omega)]
   congr 1;omega
  simp(disch:=omega)only[go_sem,seval,wqq,h,q1,e]
 ·have e:n.tmod m=aro n m:=by
   unfold aro
   rw[if_neg h,Int.tmod_eq_emod_of_nonneg (by omega)]
  simp(disch:=omega)only[go_sem,seval,wqq,h,q1,e]
theorem zlE {xs:List Int} (hx:Ints xs) {i m:Int} (hi:Fits64 i) (hm:Fits64 m) (h1:1≤m):pf E0 13 [ints xs,.i .i64 i,.i .i64 m]=some (.i .i64 (pick xs i m)):=by
 refine zaa (xf:=zxV) rfl (by simp[zxV]) ?_
 simp only[zxV]
 obtain⟨hx1,hx2⟩:=hx
 unfold pick
 by_cases h:i<0
 ·rw[if_pos (.inl h)]
  simp(disch:=omega)only[go_sem,seval,wqq,h]
 ·by_cases h':(xs.length:Int)≤i
  ·rw[if_pos (.inr h')]
   have q1:(i≥(xs.length:Int))=True:=by simp;omega
   simp(disch:=omega)only[go_sem,seval,wqq,h,q1]
  ·rw[if_neg (by omega)]
   have q1:(i≥(xs.length:Int))=False:=by simp;omega
   obtain⟨j,rfl⟩:∃j:Nat,i=j:=⟨i.toNat,by omega⟩
   have hj:j<xs.length:=by omega
   have hg:xs[j]?=some (xs.getD j 0):=by simp[hj]
   have ha:=zgT (n:=xs.getD j 0) (m:=m) (hx2 _ (by simp[hj])) hm h1
   simp(disch:=omega)only[go_sem,seval,wqq,h,q1,zfs hg,Int.toNat_natCast,ha]
end Go.Eng
namespace Go.Eng
end Go.Eng
namespace Go.Eng
end Go.Eng
namespace Go.Eng
end Go.Eng
namespace Go.Eng
structure TerOk (X Y S:Int) (C R:Nat) (hs:List Int):Prop where
 c:2≤C∧C≤128
 r:2≤R∧R≤128
 s:1≤S∧S≤65536
 x : -1048576≤X∧X+(C-1)*S≤1048576
 y : -1048576≤Y∧Y+(R-1)*S≤1048576
 len:hs.length=C*R
 h:∀n∈hs,-16384≤n∧n≤16384
theorem TerOk.ints {X Y S:Int} {C R:Nat} {hs:List Int} (t:TerOk X Y S C R hs):Ints hs:=by
 refine⟨?_,fun n hn=>?_⟩
 ·have:C*R≤128*128:=Nat.mul_le_mul t.c.2 t.r.2
  rw[t.len];omega
 ·have:=t.h n hn
  unfold Fits64;omega
end Go.Eng
namespace Go.Eng
end Go.Eng
namespace Go.Eng
end Go.Eng
namespace Go.Eng
end Go.Eng
namespace Go.Eng
end Go.Eng
namespace Go.Eng
end Go.Eng
namespace Go.Eng
end Go.Eng
namespace Go.Eng
end Go.Eng
namespace Go.Eng
end Go.Eng

namespace Go.Eng
end Go.Eng
namespace Go.Eng
def pw (i:Nat):Nat:=2^(2^i)
end Go.Eng
namespace Go.Eng
noncomputable def pwI (i:Nat):WI:=clip ((pw i:Nat):Int)
noncomputable def pwL:Nat→List PV
 | 0=>[]
 | j+1=>pwL j++[.b (decide ((pwI j).v<0)),D (pwI j).v.natAbs]
end Go.Eng
namespace Go.Eng
end Go.Eng
namespace Go.Eng
noncomputable def whQ (n:Int):FQ:=if h:Fits64 n then ⟨wiOf n h,wi1,by decide,Nat.gcd_one_right _⟩ else fq0
end Go.Eng
namespace Go.Eng
noncomputable def qc (f:FQ):List PV:=[.b (decide (f.p.v<0)),D f.p.v.natAbs,.b (decide (f.l.v<0)),D f.l.v.natAbs]
structure QZ (L:List PV) (f:FQ):Prop where
 len:L.length=4
 sc:L.all PV.scal=true
 fz:∀(M:PM) (d:Nat),fzL (fz M (d+1)) L=some (qc f,[])
end Go.Eng
namespace Go.Eng
noncomputable def vc (x:IV):List PV:=[.b (decide (x.lo.v<0)),D x.lo.v.natAbs,.b (decide (x.hi.v<0)),D x.hi.v.natAbs]
structure VZ (L:List PV) (x:IV):Prop where
 len:L.length=4
 sc:L.all PV.scal=true
 fz:∀(M:PM) (d:Nat),fzL (fz M (d+1)) L=some (vc x,[])
def enT (U:Nat→IV) (r:IV×Int) (l:List Int):IV×Int:=l.foldl (fun r a=>if r.2=0 then ivMul r.1 (U a.toNat) else r) r
noncomputable def enX (c:Nat→Int) (U:Nat→IV) (i:Nat) (s:IV) (b:Bool):IV×Int :=
 if b=false∧(enT U (mkI (whQ (c i)) (whQ (c i))) (facL i)).2=0 then ivAdd s (enT U (mkI (whQ (c i)) (whQ (c i))) (facL i)).1 else enT U (mkI (whQ (c i)) (whQ (c i))) (facL i)
noncomputable def enS (c:Nat→Int) (U:Nat→IV):Nat→IV×Bool×Int
 | 0=>(ivZ,true,0)
 | i+1=>if (enS c U i).2.2≠0 then enS c U i else if c i=0 then enS c U i else
  if (enX c U i (enS c U i).1 (enS c U i).2.1).2=0 then ((enX c U i (enS c U i).1 (enS c U i).2.1).1,false,0) else (ivZ,true,(enX c U i (enS c U i).1 (enS c U i).2.1).2)
end Go.Eng
namespace Go.Eng
end Go.Eng
namespace Go.Eng
end Go.Eng
namespace Go.Eng
end Go.Eng
namespace Go.Eng
end Go.Eng
namespace Go.Eng
theorem z20:[PV.i .i64 0,PV.i .i64 0,PV.i .i64 0,PV.i .i64 0,PV.i .i64 0,PV.i .i64 0,PV.i .i64 0,PV.i .i64 0,PV.i .i64 0,PV.i .i64 0,PV.i .i64 0,PV.i .i64 0,PV.i .i64 0,PV.i .i64 0,PV.i .i64 0,PV.i .i64 0,PV.i .i64 0,PV.i .i64 0,PV.i .i64 0,PV.i .i64 0]=cs 20 zF:=rfl
end Go.Eng
namespace Go.Eng
end Go.Eng
namespace Go.Eng
def adV (X:Nat→Int):Nat→Int:=fun e=>mnV X (e%3) (e/3)
end Go.Eng
namespace Go.Eng
end Go.Eng
namespace Go.Eng
def isPF (E:PEnv):PV→Bool
 | .fn f _=>E.pure f
 | _=>false
def slotIn4 (E:PEnv) (ops:List XOper) (L V:List Nat) (c:Nat×Nat):Bool :=
 match ops[c.1]?,ops[c.2]? with
 | some a,some b =>
  match a.op with
  | .load _ _ (.t s)=>L.contains s&&(match b.op with | .callv (.t v) _=>V.contains v&&fixedX ops c.2 (.t v)|_=>calmOp E b.op)
  | _=>false
 | _,_=>false
end Go.Eng
namespace Go.Eng
def slarrB (m off n z:Nat) (lo hi:Option PV):Option PB→Option PV
 | some b=>if off+n*z≤b.v.length then slP z (.sl m off n n z) lo hi none else none
 | none=>none
def slarrP (M:PM) (n z:Nat) (lo hi:Option PV):PV→Option PV
 | .p m off=>slarrB m off n z lo hi (PM.blk M m)
 | .fp l=>if n*z≤l.length∧n*z≠0∧l.all PV.scal=true then slP z (.lst (group z n (l.take (n*z)))) lo hi none else none
 | _=>none
def rwV (a b c un ud vn vd:Int):Int:=a*un*vd+b*vn*ud+c*(ud*vd)
end Go.Eng
namespace Go.Eng
def q8 (a b c d e f g h:Int):PV:=.ag [.i .i64 a,.i .i64 b,.i .i64 c,.i .i64 d,.i .i64 e,.i .i64 f,.i .i64 g,.i .i64 h]
end Go.Eng
namespace Go.Eng
end Go.Eng
namespace Go.Eng
end Go.Eng
namespace Go.Eng
end Go.Eng
namespace Go.Eng
def rwF (p:Nat→Int) (i:Nat) (u v:FQ):Int:=rwV (p (3*i)) (p (3*i+1)) (p (3*i+2)) u.p.v u.q.v v.p.v v.q.v
end Go.Eng
namespace Go.Eng
def oneI:Nat→Int:=fun e=>if e%4=0 then 1 else 0
end Go.Eng
namespace Go.Eng
end Go.Eng
namespace Go.Eng
theorem hF (p:Nat→Int):PV.ag [.i .i64 (p 0),.i .i64 (p 1),.i .i64 (p 2),.i .i64 (p 3),.i .i64 (p 4),.i .i64 (p 5),.i .i64 (p 6),.i .i64 (p 7),.i .i64 (p 8)]=pI p:=rfl
def e9 (a b:Nat→Int):Bool:=a 0==b 0&&(a 1==b 1&&(a 2==b 2&&(a 3==b 3&&(a 4==b 4&&(a 5==b 5&&(a 6==b 6&&(a 7==b 7&&a 8==b 8)))))))
end Go.Eng
namespace Go.Eng
def gEnt (n d:Int):Int:=if n.tmod 6=1∨n.tmod 6 = -1 then (n.tdiv 6).tmod 8 else if n.tmod 6=2 then (n.tdiv 6).tmod 1000 else if n.tmod 6=3 then 1073741824-(n.tdiv 6).tmod 4 else d
def g0P:Nat→Int:=fun e=>if e=0 then 2 else if e=4 then 2 else if e=8 then 1 else 0
def gMix (ns:Nat→Int) (i:Nat):Nat→Int:=fun e=>if e<i then gEnt (ns e) (g0P e) else g0P e
theorem gk0 (ns:Nat→Int) (h:gEnt (ns 0) (g0P 0)=g0P 0):cI (gMix ns 0)=cI (gMix ns 1):=by
 have e:gMix ns 0=gMix ns 1:=by
  funext e
  unfold gMix
  by_cases q:e=0
  ·subst q;rw[if_neg (by decide),if_pos (by decide),h]
  ·by_cases r:e<0
   ·rw[if_pos r,if_pos (by omega)]
   ·rw[if_neg r,if_neg (by omega)]
 rw[e]
end Go.Eng
namespace Go.Eng
end Go.Eng
namespace Go.Eng
end Go.Eng
namespace Go.Eng
end Go.Eng
namespace Go.Eng
end Go.Eng
namespace Go.Eng
end Go.Eng
namespace Go.Eng
end Go.Eng
namespace Go.Eng
end Go.Eng
namespace Go.Eng
theorem zln (xs:List Int) (i:Int):∃f:FQ,Ints xs→0≤i→i≤100→fsz 122 f∧pf E0 187 [ints xs,.i .i64 i]=some (rfQ f):=by
 by_cases h:Ints xs∧0≤i∧i≤100
 ·obtain⟨f,h1,h2⟩:=zkJ h.1 h.2.1 h.2.2
  exact⟨f,fun _ _ _=>⟨h1,h2⟩⟩
 ·exact⟨fq0,fun a b c=>absurd ⟨a,b,c⟩ h⟩
noncomputable def frcF (xs:List Int) (i:Int):FQ:=(zln xs i).choose
theorem zlI {xs:List Int} (hx:Ints xs) {i:Int} (h0:0≤i) (h1:i≤100):pf E0 187 [ints xs,.i .i64 i]=some (rfQ (frcF xs i)):=((zln xs i).choose_spec hx h0 h1).2
end Go.Eng
set_option maxRecDepth 10000
namespace Go.Eng
noncomputable def smF (xs:List Int) (i:Int):FQ:=(makF (clip (pick xs i 1000000%401-200)) (clip (1+pick xs i 1000000/401%16))).1
theorem zjB {z:Int} (h : -1000000≤z∧z≤1000000):wlen z.natAbs≤512:=zgj (by unfold Fits64;omega)
theorem zfG {xs:List Int} (hx:Ints xs) {i:Int} (hi:Fits64 i):pf E0 361 [ints xs,.i .i64 i]=some (rfQ (smF xs i)):=by
 have pk:=zlE hx hi (m:=1000000) (by decide) (by decide)
 have k0:=zdT xs i (m:=1000000) (by decide)
 have k1:=zjj xs i (m:=1000000) (by decide)
 unfold smF
 generalize pick xs i 1000000=k at *
 have e1:k.tmod 401=k%401:=Int.tmod_eq_emod_of_nonneg k0
 have e2:k.tdiv 401=k/401:=Int.tdiv_eq_ediv_of_nonneg k0
 have e3:(k/401).tmod 16=k/401%16:=Int.tmod_eq_emod_of_nonneg (Int.ediv_nonneg k0 (by decide))
 have b1 : -200≤k%401-200∧k%401-200≤200:=by omega
 have b2:1≤1+k/401%16∧1+k/401%16≤16:=by omega
 have o1:=zcN (k%401-200) (by unfold Fits64;omega)
 have o2:=zcN (1+k/401%16) (by unfold Fits64;omega)
 have m:=zja (clip (k%401-200)) (clip (1+k/401%16))
 rw[zaH (zjB (by omega)),zaH (zjB (by omega))] at m
 generalize makF (clip (k%401-200)) (clip (1+k/401%16))=R at *
 generalize hu:k%401-200=u at *
 generalize hv:1+k/401%16=v at *
 refine zaa (xf:=zxn) rfl (by simp[zxn]) ?_
 simp only[zxn]
 simp(disch:=omega)only[go_sem,seval,wqq,pk,e1,e2,e3,hu,hv,o1,o2,m]
noncomputable def enF (xs:List Int) (i:Int):FQ×FQ :=
 if pick xs i 1000000%4=0 then (frcF xs (i+1),frcF xs (i+3)) else if pick xs i 1000000%4=1 then (smF xs (i+1),smF xs (i+1)) else (smF xs (i+1),smF xs (i+2))
theorem zkM {xs:List Int} (hx:Ints xs) {i:Int} (h0:0≤i) (h1:i≤90):pf E0 344 [ints xs,.i .i64 i]=some (.tu [rfQ (enF xs i).1,rfQ (enF xs i).2]):=by
 have pk:=zlE hx (i:=i) (m:=1000000) (by unfold Fits64;omega) (by decide) (by decide)
 have k0:=zdT xs i (m:=1000000) (by decide)
 have k1:=zjj xs i (m:=1000000) (by decide)
 have f1:=zlI hx (i:=i+1) (by omega) (by omega)
 have f2:=zlI hx (i:=i+3) (by omega) (by omega)
 have s1:=zfG hx (i:=i+1) (by unfold Fits64;omega)
 have s2:=zfG hx (i:=i+2) (by unfold Fits64;omega)
 unfold enF
 generalize pick xs i 1000000=k at *
 have e1:k.tmod 4=k%4:=Int.tmod_eq_emod_of_nonneg k0
 generalize frcF xs (i+1)=F1 at *
 generalize frcF xs (i+3)=F2 at *
 generalize smF xs (i+1)=S1 at *
 generalize smF xs (i+2)=S2 at *
 by_cases h:k%4=0
 ·rw[if_pos h]
  have q:(k%4=0)=True:=eq_true h
  refine zaa (xf:=zwe) rfl (by simp[zwe]) ?_
  simp only[zwe]
  simp(disch:=omega)only[go_sem,seval,wqq,pk,e1,q,f1,f2]
 ·rw[if_neg h]
  have q:(k%4=0)=False:=eq_false h
  by_cases h':k%4=1
  ·rw[if_pos h']
   have q':(k%4=1)=True:=eq_true h'
   refine zaa (xf:=zwe) rfl (by simp[zwe]) ?_
   simp only[zwe]
   simp(disch:=omega)only[go_sem,seval,wqq,pk,e1,q,q',s1]
   refine zfc [7] [4] rfl ?_ ?_
   ·simp(disch:=omega)only[go_sem,seval,wqq]
    exact⟨_,rfl,rfl⟩
   simp(disch:=omega)only[go_sem,seval,wqq]
  ·rw[if_neg h']
   have q':(k%4=1)=False:=eq_false h'
   refine zaa (xf:=zwe) rfl (by simp[zwe]) ?_
   simp only[zwe]
   simp(disch:=omega)only[go_sem,seval,wqq,pk,e1,q,q',s1]
   refine zah rfl ?_
   simp(disch:=omega)only[go_sem,seval,wqq,s2]
noncomputable def inI (xs:List Int) (i:Int):IV:=(mkI (enF xs i).1 (enF xs i).2).1
theorem zlt (xs:List Int) (i:Int):(inI xs i).ok:=zlA _ _
theorem zdg {xs:List Int} (hx:Ints xs) {i:Int} (h0:0≤i) (h1:i≤90):pf E0 446 [ints xs,.i .i64 i]=some (rvP (inI xs i)):=by
 have e:=zkM hx h0 h1
 have m:=zkN (enF xs i).1 (enF xs i).2
 unfold inI
 generalize mkI (enF xs i).1 (enF xs i).2=R at *
 generalize (enF xs i).1=a at *
 generalize (enF xs i).2=b at *
 refine zaa (xf:=zwO) rfl (by simp[zwO]) ?_
 simp only[zwO]
 simp(disch:=omega)only[go_sem,seval,wqq,e,m]
def insN (x:IV) (k:Int):Int:=x.lo.v*6+(x.hi.v-x.lo.v)*aro k 7
noncomputable def inF (x:IV) (k:Int):FQ:=(makF (clip (insN x k)) (clip 25769803776)).1
theorem zqB (k:Int):0≤aro k 7∧aro k 7<7:=⟨zcU k (by decide),zhQ k (by decide)⟩
theorem zlv (x:IV) (k:Int):wlen (insN x k).natAbs≤512:=by
 obtain⟨a0,a1⟩:=zqB k
 have i6:inK 3 6:=by unfold inK;decide
 have ia:inK 3 (aro k 7):=by unfold inK;omega
 have h1:inK 8196 (x.lo.v*6):=zdJ (i:=8192) (j:=3) x.l i6 (by decide)
 have h2:inK 8193 (x.hi.v-x.lo.v):=zmz (i:=8192) x.h x.l (by decide)
 have h3:inK 8196 ((x.hi.v-x.lo.v)*aro k 7):=zdJ h2 ia (by decide)
 exact zhw (zf6 h1 h3 (N:=8197) (by decide)) (by decide)
theorem zts:wlen (25769803776:Int).natAbs≤512:=zgj (by decide)
theorem zox (x:IV) (k:Int):(inF x k).is (insN x k) 25769803776:=by
 have h:=zks (x:=clip (insN x k)) (y:=clip 25769803776) (by rw[zaH zts];decide)
 rw[zaH zts,zaH (zlv x k)] at h
 exact zfw (d:=25769803776) (by decide) h.2.1 h.2.2
theorem zit {x:IV} (hx:x.ok) (k:Int):ivHas x (inF x k):=by
 rw[zfr (by decide) (zox x k)]
 unfold IV.ok at hx
 unfold insN
 obtain⟨a0,a1⟩:=zqB k
 generalize aro k 7=n at *
 have p1:=Int.mul_nonneg (show 0≤x.hi.v-x.lo.v by omega) a0
 have p2:=Int.mul_le_mul_of_nonneg_left (show n≤6 by omega) (show 0≤x.hi.v-x.lo.v by omega)
 generalize (x.hi.v-x.lo.v)*n=d at *
 omega
theorem zeo (x:IV) {k:Int} (hk:Fits64 k):pf E0 350 [rvP x,.i .i64 k]=some (rfQ (inF x k)):=by
 have ar:=zgT hk (m:=7) (by decide) (by decide)
 obtain⟨a0,a1⟩:=zqB k
 have t1:=zdj x.lo
 have t2:=zdj x.hi
 have ts:=zuI
 have t6:tlen (6:Int).natAbs≤1:=zae (by decide)
 have ta:tlen (aro k 7).natAbs≤1:=zae (by omega)
 have s1:=zpj x.hi.v x.lo.v (by omega) (by omega)
 have o6:=zcN 6 (by decide)
 have oa:=zcN (aro k 7) (by unfold Fits64;omega)
 have m1:=zcn x.lo.v 6 (by omega) (by omega)
 have hp:=zeU
 have ls:=zjG x.hi.v (-x.lo.v)
 rw[Int.natAbs_neg,←Int.sub_eq_add_neg] at ls
 have m2:=zcn (x.hi.v-x.lo.v) (aro k 7) (by omega) (by omega)
 have l1:=zbo x.lo.v 6
 have l2:=zbo (x.hi.v-x.lo.v) (aro k 7)
 have ad:=zg1 (x.lo.v*6) ((x.hi.v-x.lo.v)*aro k 7) (by omega) (by omega)
 have m3:=zcn 4294967296 6 (by omega) (by omega)
 have mk:=zja (clip (insN x k)) (clip 25769803776)
 rw[zaH zts,zaH (zlv x k)] at mk
 have e3:(4294967296:Int)*6=25769803776:=by decide
 rw[e3] at m3
 have mk:pf E0 182 [nP (insN x k),nP 25769803776]=some (.tu [rfQ (inF x k),.i .i64 (makF (clip (insN x k)) (clip 25769803776)).2]):=mk
 have ad:pf E0 119 [nP (x.lo.v*6),nP ((x.hi.v-x.lo.v)*aro k 7)]=some (nP (insN x k)):=ad
 generalize (makF (clip (insN x k)) (clip 25769803776)).2=E at *
 generalize inF x k=R at *
 generalize insN x k=n at *
 generalize (x.hi.v-x.lo.v)*aro k 7=d at *
 generalize x.hi.v-x.lo.v=w at *
 generalize x.lo.v*6=u at *
 generalize aro k 7=a at *
 obtain⟨c,hc⟩:∃c:Int,c=25769803776:=⟨_,rfl⟩
 rw[←hc] at m3 mk
 obtain⟨s,hs⟩:∃s:Int,s=4294967296:=⟨_,rfl⟩
 rw[←hs] at hp m3
 obtain⟨g,hg⟩:∃g:Int,g=6:=⟨_,rfl⟩
 have o6:pf E0 114 [.i .i64 6]=some (nP g):=by rw[hg];exact o6
 rw[←hg] at m1 m3
 clear hc hs hg
 refine zaa (xf:=zw9) rfl (by simp[zw9]) ?_
 simp only[zw9]
 simp(disch:=omega)only[go_sem,seval,wqq,ar,s1]
 refine zah rfl ?_
 simp(disch:=omega)only[go_sem,seval,wqq,o6,oa,m1,m2,ad,hp,m3,mk]
theorem znr (f:FQ):pf E0 197 [.s (ftx f.p.v f.q.v)]=some (.tu [fqP f,.i .i64 0]):=zjf f (by have:=zf2 f;omega)
theorem zk6 (f:FQ):pf E0 196 [rfQ f]=some (.s (ftx f.p.v f.q.v)):=zkK _ _ (by have:=zdj f.p;omega) (by have:=zdj f.q;omega)
theorem zg0 (f:FQ):pf E0 500 [rfQ f]=some (fqP f):=by
 have h1:=zk6 f
 have h2:=znr f
 generalize ftx f.p.v f.q.v=t at *
 refine zaa (xf:=zw2) rfl (by simp[zw2]) ?_
 simp only[zw2]
 simp(disch:=omega)only[go_sem,seval,wqq,h1,h2]
theorem zmq (a:Int):flI (a*4294967296) 4294967296=a:=Int.mul_ediv_cancel _ (by decide)
theorem zl8 (a:Int):ceI (a*4294967296) 4294967296=a:=by
 unfold ceI
 rw[←Int.neg_mul,Int.mul_ediv_cancel _ (by decide)];omega
theorem zol (x:WI):fdQ (frQ x)=x.v∧ceQ (frQ x)=x.v:=by
 rw[zok (by decide) (zeb x),zn1 (by decide) (zeb x),zmq,zl8]
 exact⟨rfl,rfl⟩
theorem zlm {x:WI} (h:inB x.v):inL (frQ x).p.v∧inL (frQ x).q.v:=by
 obtain⟨_,h1,h2⟩:=zks (x:=x) (y:=w32) (by rw[zfb];decide)
 rw[zfb] at h1 h2
 have h1:(frQ x).p.v=lowP x.v 4294967296:=h1
 have h2:(frQ x).q.v=lowQ x.v 4294967296:=h2
 rw[h1,h2]
 exact⟨zgG (zow h) (ziz (by decide)),zgG (zbR zmy (by decide)) (ziA (by decide))⟩
theorem zoF {x:IV} (hx:x.ok):mkI (frQ x.lo) (frQ x.hi)=(x,0):=by
 unfold IV.ok at hx
 have hc:¬cmpF (frQ x.lo) (frQ x.hi)>0:=by
  rw[zhW (by decide) (by decide) (zeb x.lo) (zeb x.hi)]
  have:=Int.mul_le_mul_of_nonneg_right hx (show (0:Int)≤4294967296 by decide)
  unfold cmpI
  split
  ·decide
  ·split
   ·omega
   ·decide
 obtain⟨l1,l2⟩:=zlm x.l
 obtain⟨l3,l4⟩:=zlm x.h
 unfold mkI
 rw[if_neg hc]
 unfold mkSo
 rw[if_pos ⟨l1,l2,l3,l4⟩]
 have e1:flI ((frQ x.lo).p.v*4294967296) (frQ x.lo).q.v=x.lo.v:=(zol x.lo).1
 have e2:ceI ((frQ x.hi).p.v*4294967296) (frQ x.hi).q.v=x.hi.v:=(zol x.hi).2
 rw[e1,e2]
 obtain⟨a,b,c⟩:=zfy ⟨x.l,x.h⟩
 have:(mdI x.lo.v x.hi.v).1=x:=zoz b c
 exact Prod.ext this a
theorem zi8 {x:IV} (hx:x.ok):pf E0 503 [rvP x]=some (ivP x):=by
 have h1:=zg3 x.lo
 have h2:=zg3 x.hi
 have n1:=zg0 (frQ x.lo)
 have n2:=zg0 (frQ x.hi)
 have m:=zdw (frQ x.lo) (frQ x.hi)
 rw[zoF hx] at m
 generalize frQ x.lo=A at *
 generalize frQ x.hi=B at *
 refine zaa (xf:=zwN) rfl (by simp[zwN]) ?_
 simp only[zwN]
 simp(disch:=omega)only[go_sem,seval,wqq]
 refine zah rfl ?_
 simp(disch:=omega)only[go_sem,seval,wqq,h1,h2,n1,n2,m]
end Go.Eng
set_option maxRecDepth 10000
namespace Go.Eng
theorem zkm {z:Int} (h:Fits64 z):inK 64 z:=by
 unfold inK
 unfold Fits64 at h
 have:(2:Nat)^64=18446744073709551616:=by decide
 omega
theorem zkt {a b:FQ} {l h:Int} (f1:Fits64 a.p.v) (f2:Fits64 a.q.v) (f3:Fits64 b.p.v) (f4:Fits64 b.q.v) (hl:min2 (fdQ a) (fdQ b)=l) (hh:max2 (ceQ a) (ceQ b)=h):(mkI a b).2=0∧(mkI a b).1.lo.v=l∧(mkI a b).1.hi.v=h:=by
 have big:∀f:FQ,Fits64 f.p.v→inB (fdQ f)∧inB (ceQ f):=fun f hf=>by
  have hm:inK 97 (f.p.v*4294967296):=zdJ (zkm hf) zmy (by decide)
  refine⟨zbR (zgG hm (zcg _ _)) (by decide),?_⟩
  have:inK 97 (-(f.p.v*4294967296)):=zeL.2 hm
  refine zbR (i:=97) ?_ (by decide)
  unfold ceQ ceI
  rw[zeL]
  exact zgG this (zcg _ _)
 have so:∀c d:FQ,Fits64 c.p.v→Fits64 c.q.v→Fits64 d.p.v→Fits64 d.q.v→(mkSo c d).2=0:=fun c d g1 g2 g3 g4=>by
  have il:∀{z:Int},Fits64 z→inL z:=fun q=>zbR (zkm q) (by decide)
  unfold mkSo
  rw[if_pos ⟨il g1,il g2,il g3,il g4⟩]
  exact(zfy ⟨(big c g1).1,(big d g3).2⟩).1
 have z:(mkI a b).2=0:=by
  unfold mkI
  split
  ·exact so b a f3 f4 f1 f2
  ·exact so a b f1 f2 f3 f4
 obtain⟨v1,v2⟩:=zrt z
 exact⟨z,v1.trans hl,v2.trans hh⟩
theorem zkh (x:WI):(frQ x).p.v=lowP x.v 4294967296∧(frQ x).q.v=lowQ x.v 4294967296:=by
 obtain⟨_,h1,h2⟩:=zks (x:=x) (y:=w32) (by rw[zfb];decide)
 exact⟨h1,h2⟩
theorem zf7 {x:IV} {l h p1 q1 p2 q2:Int} {s t:List UInt8} (hl:x.lo.v=l) (hh:x.hi.v=h) (e1:lowP l 4294967296=p1) (e2:lowQ l 4294967296=q1) (e3:lowP h 4294967296=p2) (e4:lowQ h 4294967296=q2) (hs:ftx p1 q1=s) (ht:ftx p2 q2=t) :
  ivTx x=[91]++s++[44,32]++t++[93]:=by
 unfold ivTx
 rw[(zkh x.lo).1,(zkh x.lo).2,(zkh x.hi).1,(zkh x.hi).2,hl,hh,e1,e2,e3,e4,hs,ht]
theorem zhu {f:FQ} {p q l h:Int} (hp:f.p.v=p) (hq:f.q.v=q) (e1:flI (p*4294967296) q=l) (e2:ceI (p*4294967296) q=h):fdQ f=l∧ceQ f=h:=by
 unfold fdQ ceQ
 rw[hp,hq];exact⟨e1,e2⟩
set_option maxHeartbeats 4000000 in
theorem zkG:pf E0 502 []=some (.b true):=by
 obtain⟨o,o1,o2,_,fo⟩:=zhB (p:=1) (q:=1) (a:=1) (b:=1) (by decide) (by decide) (by decide) (by decide) (by decide) (zae (by decide)) (zae (by decide))
 obtain⟨t,t1,t2,_,ft⟩:=zhB (p:=1) (q:=3) (a:=1) (b:=3) (by decide) (by decide) (by decide) (by decide) (by decide) (zae (by decide)) (zae (by decide))
 obtain⟨h,h1,h2,_,fh⟩:=zhB (p:=1) (q:=2) (a:=1) (b:=2) (by decide) (by decide) (by decide) (by decide) (by decide) (zae (by decide)) (zae (by decide))
 obtain⟨w,w1,w2,_,fw⟩:=zhB (p:=2) (q:=1) (a:=2) (b:=1) (by decide) (by decide) (by decide) (by decide) (by decide) (zae (by decide)) (zae (by decide))
 obtain⟨u,u1,u2,_,fu⟩:=zhB (p:=4) (q:=1) (a:=4) (b:=1) (by decide) (by decide) (by decide) (by decide) (by decide) (zae (by decide)) (zae (by decide))
 obtain⟨v,v1,v2,_,fv⟩:=zhB (p:=8) (q:=1) (a:=8) (b:=1) (by decide) (by decide) (by decide) (by decide) (by decide) (zae (by decide)) (zae (by decide))
 obtain⟨to1,to2⟩:=zhu (l:=4294967296) (h:=4294967296) o1 o2 (by decide) (by decide)
 obtain⟨tt1,tt2⟩:=zhu (l:=1431655765) (h:=1431655766) t1 t2 (by decide) (by decide)
 obtain⟨th1,th2⟩:=zhu (l:=2147483648) (h:=2147483648) h1 h2 (by decide) (by decide)
 obtain⟨tw1,tw2⟩:=zhu (l:=8589934592) (h:=8589934592) w1 w2 (by decide) (by decide)
 obtain⟨tu1,tu2⟩:=zhu (l:=17179869184) (h:=17179869184) u1 u2 (by decide) (by decide)
 obtain⟨tv1,tv2⟩:=zhu (l:=34359738368) (h:=34359738368) v1 v2 (by decide) (by decide)
 have fi:∀{z n:Int},z=n→Fits64 n→Fits64 z:=fun h g=>h ▸ g
 obtain⟨a0,a1,a2⟩:=zkt (a:=h) (b:=h) (l:=2147483648) (h:=2147483648) (fi h1 (by decide)) (fi h2 (by decide)) (fi h1 (by decide)) (fi h2 (by decide)) (by rw[th1];decide) (by rw[th2];decide)
 obtain⟨b0,b1,b2⟩:=zkt (a:=t) (b:=t) (l:=1431655765) (h:=1431655766) (fi t1 (by decide)) (fi t2 (by decide)) (fi t1 (by decide)) (fi t2 (by decide)) (by rw[tt1];decide) (by rw[tt2];decide)
 obtain⟨c0,c1,c2⟩:=zkt (a:=o) (b:=w) (l:=4294967296) (h:=8589934592) (fi o1 (by decide)) (fi o2 (by decide)) (fi w1 (by decide)) (fi w2 (by decide)) (by rw[to1,tw1];decide) (by rw[to2,tw2];decide)
 obtain⟨d0,d1,d2⟩:=zkt (a:=v) (b:=u) (l:=17179869184) (h:=34359738368) (fi v1 (by decide)) (fi v2 (by decide)) (fi u1 (by decide)) (fi u2 (by decide)) (by rw[tv1,tu1];decide) (by rw[tv2,tu2];decide)
 have ma:=zlJ h
 have mb:=zlJ t
 have mc:=zdw o w
 have md:=zdw v u
 have dv:=zi7 (mkI o w).1 (mkI v u).1 (zlA _ _)
 rw[a0] at ma
 rw[b0] at mb
 rw[c0] at mc
 rw[d0] at md
 generalize (mkI h h).1=A at *
 generalize (mkI t t).1=B at *
 generalize (mkI o w).1=C at *
 generalize (mkI v u).1=D at *
 have n0:¬has0 D:=by unfold has0;omega
 have el:divLo C D=536870912:=by unfold divLo;rw[c1,c2,d1,d2];decide
 have eh:divHi C D=2147483648:=by unfold divHi;rw[c1,c2,d1,d2];decide
 have eq:ivDiv C D=mdI 536870912 2147483648:=by unfold ivDiv;rw[if_neg n0,el,eh]
 obtain⟨q0,q1,q2⟩:=zfy (lo:=536870912) (hi:=2147483648) ⟨zbR (zkm (by decide)) (by decide),zbR (zkm (by decide)) (by decide)⟩
 rw[eq,q0] at dv
 generalize (mdI 536870912 2147483648).1=Q at *
 have k1:decI 1=[49]:=(zdG (v:=1) (n:=0) rfl (by decide) (by decide)).trans rfl
 have k2:decI 2=[50]:=(zdG (v:=2) (n:=0) rfl (by decide) (by decide)).trans rfl
 have k8:decI 8=[56]:=(zdG (v:=8) (n:=0) rfl (by decide) (by decide)).trans rfl
 have k3:decI 1431655765=[49,52,51,49,54,53,53,55,54,53]:=(zdG (v:=1431655765) (n:=9) rfl (by decide) (by decide)).trans rfl
 have k4:decI 4294967296=[52,50,57,52,57,54,55,50,57,54]:=(zdG (v:=4294967296) (n:=9) rfl (by decide) (by decide)).trans rfl
 have k5:decI 715827883=[55,49,53,56,50,55,56,56,51]:=(zdG (v:=715827883) (n:=8) rfl (by decide) (by decide)).trans rfl
 have k6:decI 2147483648=[50,49,52,55,52,56,51,54,52,56]:=(zdG (v:=2147483648) (n:=9) rfl (by decide) (by decide)).trans rfl
 have x12:ftx 1 2=[49,47,50]:=by unfold ftx;rw[if_neg (by decide),k1,k2];rfl
 have x18:ftx 1 8=[49,47,56]:=by unfold ftx;rw[if_neg (by decide),k1,k8];rfl
 have xb1:ftx 1431655765 4294967296=[49,52,51,49,54,53,53,55,54,53,47,52,50,57,52,57,54,55,50,57,54]:=by unfold ftx;rw[if_neg (by decide),k3,k4];rfl
 have xb2:ftx 715827883 2147483648=[55,49,53,56,50,55,56,56,51,47,50,49,52,55,52,56,51,54,52,56]:=by unfold ftx;rw[if_neg (by decide),k5,k6];rfl
 have sa:=zc2 A
 have sb:=zc2 B
 have sq:=zc2 Q
 rw[zf7 a1 a2 (p1:=1) (q1:=2) (p2:=1) (q2:=2) (by decide) (by decide) (by decide) (by decide) x12 x12] at sa
 rw[zf7 b1 b2 (p1:=1431655765) (q1:=4294967296) (p2:=715827883) (q2:=2147483648) (by decide) (by decide) (by decide) (by decide) xb1 xb2] at sb
 rw[zf7 q1 q2 (p1:=1) (q1:=8) (p2:=1) (q2:=2) (by decide) (by decide) (by decide) (by decide) x18 x12] at sq
 simp only[List.cons_append,List.nil_append] at sa sb sq
 clear a1 a2 b1 b2 c1 c2 d1 d2 q1 q2 h1 h2 t1 t2 o1 o2 w1 w2 u1 u2 v1 v2 to1 to2 tt1 tt2 th1 th2 tw1 tw2 tu1 tu2 tv1 tv2
 refine zaa (xf:=zxd) rfl (by simp[zxd]) ?_
 simp only[zxd]
 have hx:xs_8253e7=[91,49,52,51,49,54,53,53,55,54,53,47,52,50,57,52,57,54,55,50,57,54,44,32,55,49,53,56,50,55,56,56,51,47,50,49,52,55,52,56,51,54,52,56,93]:=rfl
 simp(disch:=omega)only[go_sem,seval,wqq,fo,ft,fh,fw,fu,fv,ma,mb,mc,md,dv,sa,sb,sq,hx,decide_true]
end Go.Eng
set_option maxRecDepth 10000
namespace Go.Eng
noncomputable def opI (k:Nat) (x y:IV):IV×Int:=if k=0 then ivAdd x y else if k=1 then ivSub x y else if k=2 then ivMul x y else ivDiv x y
theorem zph {k:Nat} (hk:k<4) (x y:IV) (hy:y.ok):pf E0 506 [(PV.i .i64 ((k:Nat):Int)),ivP x,ivP y]=some (.tu [ivP (opI k x y).1,.i .i64 (opI k x y).2]):=by
 have a:=zi6 x y
 have s:=znf x y
 have m:=zne x y
 have d:=zi7 x y hy
 unfold opI
 generalize ivAdd x y=A at *
 generalize ivSub x y=S at *
 generalize ivMul x y=Mm at *
 generalize ivDiv x y=Dd at *
 obtain rfl|rfl|rfl|rfl:k=0∨k=1∨k=2∨k=3:=by omega
 all_goals
  refine zaa (xf:=zwC) rfl (by simp[zwC]) ?_
  simp only[zwC]
  simp(disch:=omega)only[go_sem,seval,wqq,a,s,m,d,Int.natCast_zero,Int.natCast_one,Int.cast_ofNat_Int]
end Go.Eng
set_option maxRecDepth 10000
namespace Go.Eng
theorem zrv (x y:IV):opI 0 x y=ivAdd x y:=if_pos rfl
theorem zrw (x y:IV):opI 1 x y=ivSub x y:=(if_neg (by decide)).trans (if_pos rfl)
theorem zrx (x y:IV):opI 2 x y=ivMul x y:=(if_neg (by decide)).trans ((if_neg (by decide)).trans (if_pos rfl))
theorem zry (x y:IV):opI 3 x y=ivDiv x y:=(if_neg (by decide)).trans ((if_neg (by decide)).trans (if_neg (by decide)))
theorem zl5 (a b:FQ):∃r:FQ×Int,pf E0 9 [fqP a,fqP b]=some (.tu [fqP r.1,.i .i64 r.2])∧((r.2=0∧r.1.is (a.p.v*b.q.v+b.p.v*a.q.v) (a.q.v*b.q.v))∨r.2=4):=by
 by_cases q:adOk a b
 ·obtain⟨f,h1,h2,hf⟩:=(zgW a b).1 q
  refine⟨(f,0),hf,.inl ⟨rfl,?_⟩⟩
  have dn:=zle a b
  have d1:b.q.v/gI a.q.v b.q.v*gI a.q.v b.q.v=b.q.v:=Int.ediv_mul_cancel (zcX _ _)
  have d2:a.q.v/gI a.q.v b.q.v*gI a.q.v b.q.v=a.q.v:=Int.ediv_mul_cancel (zcr _ _)
  have hs:=zgH (zfw dn h1 h2) (gI a.q.v b.q.v)
  have e1:(adX a b+adY a b)*gI a.q.v b.q.v=a.p.v*b.q.v+b.p.v*a.q.v:=by
   unfold adX adY
   rw[Int.add_mul,Int.mul_assoc,Int.mul_assoc,d1,d2]
  have e2:adD a b*gI a.q.v b.q.v=a.q.v*b.q.v:=by
   unfold adD
   rw[Int.mul_right_comm,d2]
  rwa [e1,e2] at hs
 ·exact⟨(fq0,4),(zgW a b).2 q,.inr rfl⟩
noncomputable def addX (a b:FQ):FQ×Int:=(zl5 a b).choose
theorem zlG (a b:FQ):pf E0 9 [fqP a,fqP b]=some (.tu [fqP (addX a b).1,.i .i64 (addX a b).2]):=(zl5 a b).choose_spec.1
theorem zhP (a b:FQ):((addX a b).2=0∧(addX a b).1.is (a.p.v*b.q.v+b.p.v*a.q.v) (a.q.v*b.q.v))∨(addX a b).2=4:=(zl5 a b).choose_spec.2
noncomputable def subX (a b:FQ):FQ×Int:=addX a b.neg
theorem zpm (a b:FQ):pf E0 81 [fqP a,fqP b]=some (.tu [fqP (subX a b).1,.i .i64 (subX a b).2]):=by
 rw[zpb];exact zlG a b.neg
theorem znE (a b:FQ):((subX a b).2=0∧(subX a b).1.is (a.p.v*b.q.v-b.p.v*a.q.v) (a.q.v*b.q.v))∨(subX a b).2=4:=by
 have h:=zhP a b.neg
 have e:a.p.v*b.neg.q.v+b.neg.p.v*a.q.v=a.p.v*b.q.v-b.p.v*a.q.v:=by
  show a.p.v*b.q.v + -b.p.v*a.q.v=_
  rw[Int.neg_mul];omega
 rw[e] at h
 exact h
theorem zmP (a b:FQ):∃r:FQ×Int,pf E0 8 [fqP a,fqP b]=some (.tu [fqP r.1,.i .i64 r.2])∧((r.2=0∧r.1.is (a.p.v*b.p.v) (a.q.v*b.q.v))∨r.2=4):=by
 have qa:=a.q1
 have qb:=b.q1
 by_cases q:inR (muP a b).natAbs∧inR (muQ a b).natAbs
 ·obtain⟨f,h1,h2,hf⟩:=(zi2 a b).1 q
  exact⟨(f,0),hf,.inl ⟨rfl,zfw (Int.mul_ne_zero (by omega) (by omega)) h1 h2⟩⟩
 ·exact⟨(fq0,4),(zi2 a b).2 q,.inr rfl⟩
noncomputable def mulX (a b:FQ):FQ×Int:=(zmP a b).choose
theorem zpg (a b:FQ):pf E0 8 [fqP a,fqP b]=some (.tu [fqP (mulX a b).1,.i .i64 (mulX a b).2]):=(zmP a b).choose_spec.1
theorem zmM (a b:FQ):((mulX a b).2=0∧(mulX a b).1.is (a.p.v*b.p.v) (a.q.v*b.q.v))∨(mulX a b).2=4:=(zmP a b).choose_spec.2
theorem zmj (a b:FQ):∃r:FQ×Int,pf E0 65 [fqP a,fqP b]=some (.tu [fqP r.1,.i .i64 r.2])∧(b.p.v≠0→(r.2=0∧r.1.is (sgA a.p.v b.p.v*b.q.v) (sgB b.p.v*a.q.v))∨r.2=4):=by
 have qa:=a.q1
 by_cases hb:b.p.v=0
 ·exact⟨(fq0,1),znd a b hb,fun q=>absurd hb q⟩
 ·by_cases q:inR (dvP a b).natAbs∧inR (dvQ a b).natAbs
  ·obtain⟨f,h1,h2,hf⟩:=(zlH a b hb).1 q
   refine⟨(f,0),hf,fun _=>.inl ⟨rfl,?_⟩⟩
   have h:f.is (a.p.v*b.q.v) (a.q.v*b.p.v):=zfw (Int.mul_ne_zero (by omega) hb) h1 h2
   unfold sgA sgB
   by_cases n:b.p.v<0
   ·rw[if_pos n,if_pos n]
    have h':=zgH h (-1)
    rw[show a.p.v*b.q.v * -1 = -a.p.v*b.q.v by rw[Int.neg_mul];omega,show a.q.v*b.p.v * -1 = -b.p.v*a.q.v by rw[Int.neg_mul,Int.mul_comm b.p.v];omega] at h'
    exact h'
   ·rw[if_neg n,if_neg n,Int.mul_comm b.p.v]
    exact h
  ·exact⟨(fq0,4),(zlH a b hb).2 q,fun _=>.inr rfl⟩
noncomputable def divX (a b:FQ):FQ×Int:=(zmj a b).choose
theorem zo8 (a b:FQ):pf E0 65 [fqP a,fqP b]=some (.tu [fqP (divX a b).1,.i .i64 (divX a b).2]):=(zmj a b).choose_spec.1
theorem zmf (a b:FQ) (hb:b.p.v≠0):((divX a b).2=0∧(divX a b).1.is (sgA a.p.v b.p.v*b.q.v) (sgB b.p.v*a.q.v))∨(divX a b).2=4:=(zmj a b).choose_spec.2 hb
noncomputable def exF (k:Nat) (a b:FQ):FQ×Int:=if k=0 then addX a b else if k=1 then subX a b else if k=2 then mulX a b else divX a b
theorem znc {k:Nat} (hk:k<4) (a b:FQ):pf E0 515 [(PV.i .i64 ((k:Nat):Int)),fqP a,fqP b]=some (.tu [fqP (exF k a b).1,.i .i64 (exF k a b).2]):=by
 have fa:=zlG a b
 have fs:=zpm a b
 have fm:=zpg a b
 have fd:=zo8 a b
 unfold exF
 generalize addX a b=A at *
 generalize subX a b=S at *
 generalize mulX a b=Mm at *
 generalize divX a b=Dd at *
 obtain rfl|rfl|rfl|rfl:k=0∨k=1∨k=2∨k=3:=by omega
 all_goals
  refine zaa (xf:=zxk) rfl (by simp[zxk]) ?_
  simp only[zxk]
  simp(disch:=omega)only[go_sem,seval,wqq,fa,fs,fm,fd,Int.natCast_zero,Int.natCast_one,Int.cast_ofNat_Int]
theorem zqW (x y:FQ):exF 0 x y=addX x y:=if_pos rfl
theorem zqX (x y:FQ):exF 1 x y=subX x y:=(if_neg (by decide)).trans (if_pos rfl)
theorem zqY (x y:FQ):exF 2 x y=mulX x y:=(if_neg (by decide)).trans ((if_neg (by decide)).trans (if_pos rfl))
theorem zqZ (x y:FQ):exF 3 x y=divX x y:=(if_neg (by decide)).trans ((if_neg (by decide)).trans (if_neg (by decide)))
theorem zmF {x y:IV} (h:(ivMul x y).2=0):(ivMul x y).1.lo.v=mulLo x y∧(ivMul x y).1.hi.v=mulHi x y:=by
 unfold ivMul at *
 exact(zee h).2.2
theorem zmE {x y:IV} (h:(ivDiv x y).2=0):¬has0 y∧(ivDiv x y).1.lo.v=divLo x y∧(ivDiv x y).1.hi.v=divHi x y:=by
 unfold ivDiv at *
 by_cases q:has0 y
 ·rw[if_pos q] at h;cases h
 ·rw[if_neg q] at *
  exact⟨q,(zee h).2.2⟩
theorem zoi {k:Nat} (hk:k<4) {x y:IV} {f g:FQ} (hy:y.ok) (hf:ivHas x f) (hg:ivHas y g) (h:(opI k x y).2=0):((exF k f g).2=0→ivHas (opI k x y).1 (exF k f g).1)∧(exF k f g).2≠1:=by
 have qf:=f.q1
 have qg:=g.q1
 have hm:0<f.q.v*g.q.v:=Int.mul_pos (by omega) (by omega)
 obtain rfl|rfl|rfl|rfl:k=0∨k=1∨k=2∨k=3:=by omega
 ·simp only[zrv,zqW] at h ⊢
  have hh:=zl4 (by omega) (by omega) hf.1 hf.2 hg.1 hg.2 h
  rcases zhP f g with⟨z,is⟩|z
  ·exact⟨fun _=>(zfr hm is).2 hh,by omega⟩
  ·exact⟨fun q=>by omega,by omega⟩
 ·simp only[zrw,zqX] at h ⊢
  have hh:=znF (by omega) (by omega) hf.1 hf.2 hg.1 hg.2 h
  rcases znE f g with⟨z,is⟩|z
  ·exact⟨fun _=>(zfr hm is).2 hh,by omega⟩
  ·exact⟨fun q=>by omega,by omega⟩
 ·simp only[zrx,zqY] at h ⊢
  have hh:=zmN (x:=x) (y:=y) (P:=f.p.v) (R:=g.p.v) (q:=f.q.v) (r:=g.q.v) (by omega) (by omega) hf.1 hf.2 hg.1 hg.2
  obtain⟨v1,v2⟩:=zmF h
  rcases zmM f g with⟨z,is⟩|z
  ·refine⟨fun _=>(zfr hm is).2 ?_,by omega⟩
   rw[v1,v2];exact hh
  ·exact⟨fun q=>by omega,by omega⟩
 ·simp only[zry,zqZ] at h ⊢
  obtain⟨n0,v1,v2⟩:=zmE h
  have hh:=zmg (x:=x) (y:=y) (P:=f.p.v) (R:=g.p.v) (q:=f.q.v) (r:=g.q.v) (by omega) (by omega) n0 hy hf.1 hf.2 hg.1 hg.2
  have gz:g.p.v≠0:=fun q=>zls (r:=g.q.v) (by omega) n0 hg.1 hg.2 (by rw[q];decide)
  rcases zmf f g gz with⟨z,is⟩|z
  ·refine⟨fun _=>(zfr (Int.mul_pos (ze5 gz) (by omega)) is).2 ?_,by omega⟩
   rw[v1,v2];exact hh
  ·exact⟨fun q=>by omega,by omega⟩
set_option maxHeartbeats 4000000 in
theorem p_IvalEncloses {xs:List Int} (hx:Ints xs) {k n:Int} (hk:Fits64 k) (hn:Fits64 n):pf E0 499 [ints xs,.i .i64 k,.i .i64 n]=some (.b true):=by
 have i1:=zdg hx (i:=0) (by decide) (by decide)
 have i2:=zdg hx (i:=6) (by decide) (by decide)
 have oa:=zlt xs 0
 have ob:=zlt xs 6
 generalize inI xs 0=U at *
 generalize inI xs 6=V at *
 have v1:=zi8 oa
 have v2:=zi8 ob
 have lv:=zkG
 have j1:=zeo U hk
 have j2:=zeo V hn
 have h1:=zit oa k
 have h2:=zit ob n
 generalize inF U k=a at *
 generalize inF V n=b at *
 have na:=zg0 a
 have nb:=zg0 b
 have r1:=zgc U a
 have r2:=zgc V b
 rw[decide_eq_true h1] at r1
 rw[decide_eq_true h2] at r2
 refine zaa (xf:=zwq) rfl (by simp[zwq]) ?_
 simp only[zwq]
 simp(disch:=omega)only[go_sem,seval,wqq,i1,i2,j1,j2,na,nb]
 refine zah rfl ?_
 simp(disch:=omega)only[go_sem,seval,wqq,v1,v2,r1,r2]
 refine zao zxv.eq_1 (fun(k:Nat) fr M=>k≤4∧fr 7=.p 0 0∧fr 8=.p 1 0∧fr 9=.p 2 0∧fr 10=.p 3 0∧fr 11=(PV.i .i64 ((k:Nat):Int))∧∃e1 e2 e3 e4 G,M=some ⟨(rvP U).cells,true,e1⟩::some ⟨(rvP V).cells,true,e2⟩::some ⟨(fqP a).cells,true,e3⟩::some ⟨(fqP b).cells,true,e4⟩::G) (fun k=>4-k) ?_ 0 ⟨by omega,by simp only[go_sem,seval],by simp only[go_sem,seval],by simp only[go_sem,seval],by simp only[go_sem,seval],by simp only[go_sem,seval],_,_,_,_,[],rfl⟩
 rintro i fr M ⟨hi,f7,f8,f9,f10,f11,e1,e2,e3,e4,G,rfl⟩ ih
 rcases Nat.lt_or_ge i 4 with h|h
 ·have q1:((i:Int)<4)=True:=eq_true (by omega)
  have p1:=zph h U V ob
  have p2:=znc h a b
  have ex:=zoi h ob h1 h2
  generalize opI i U V=R at *
  generalize exF i a b=S at *
  have ch:=zgc R.1 S.1
  simp(disch:=omega)only[go_sem,seval,wqq,f7,f8,f9,f10,f11,q1,mG,mG0,sG,sG0,lG,lqq]
  refine zah rfl ?_
  by_cases hR:R.2=0
  ·obtain⟨g1,g2⟩:=ex hR
   have hR':(R.2=0)=True:=eq_true hR
   have g2':(S.2=1)=False:=eq_false g2
   by_cases hS:S.2=0
   ·rw[decide_eq_true (g1 hS)] at ch
    have hS':(S.2=0)=True:=eq_true hS
    simp(disch:=omega)only[go_sem,seval,wqq,f7,f8,f9,f10,f11,v1,v2,p1,p2,hR',hS',g2',ch,mG,mG0,sG,sG0,lG,lqq]
    exact ih (i+1) _ _ (by omega) ⟨by omega,by simp only[go_sem,seval,f7],by simp only[go_sem,seval,f8],by simp only[go_sem,seval,f9],by simp only[go_sem,seval,f10],by simp only[go_sem,seval];rw[Int.natCast_succ],_,_,_,_,_,rfl⟩
   ·have hS':(S.2=0)=False:=eq_false hS
    simp(disch:=omega)only[go_sem,seval,wqq,f7,f8,f9,f10,f11,v1,v2,p1,p2,hR',hS',g2',mG,mG0,sG,sG0,lG,lqq]
    exact ih (i+1) _ _ (by omega) ⟨by omega,by simp only[go_sem,seval,f7],by simp only[go_sem,seval,f8],by simp only[go_sem,seval,f9],by simp only[go_sem,seval,f10],by simp only[go_sem,seval];rw[Int.natCast_succ],_,_,_,_,_,rfl⟩
  ·have hR':(R.2=0)=False:=eq_false hR
   simp(disch:=omega)only[go_sem,seval,wqq,f7,f8,f9,f10,f11,v1,v2,p1,p2,hR',mG,mG0,sG,sG0,lG,lqq]
   exact ih (i+1) _ _ (by omega) ⟨by omega,by simp only[go_sem,seval,f7],by simp only[go_sem,seval,f8],by simp only[go_sem,seval,f9],by simp only[go_sem,seval,f10],by simp only[go_sem,seval];rw[Int.natCast_succ],_,_,_,_,_,rfl⟩
 ·obtain rfl:i=4:=by omega
  have q1:(((4:Nat):Int)<4)=False:=by simp
  simp(disch:=omega)only[go_sem,seval,wqq,f7,f8,f9,f10,f11,q1,lv,mG,mG0,sG,sG0,lG,lqq]
end Go.Eng
