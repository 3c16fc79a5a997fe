/- The engine and the contracts on which the statement stands: no conditions of its own. -/
import Derived.Test.YtchfmldhdbknlaaGreatDoorMine4
set_option linter.unusedSimpArgs false
set_option linter.unusedVariables false
set_option linter.unusedSectionVars false
namespace Go.Eng
def mnU (a b:WI):WI:=if b.v<a.v then b else a
def mxU (a b:WI):WI:=if b.v>a.v then b else a
theorem zl8 (a b:WI):(mnU a b).v=min2 a.v b.v:=by unfold mnU min2;split<;>rfl
theorem zl9 (a b:WI):(mxU a b).v=max2 a.v b.v:=by unfold mxU max2;split<;>rfl
theorem zqb (ws:List WI):ez 2 (ws.map wiP)=true:=by
 unfold ez
 rw[List.all_eq_true]
 intro x hx
 obtain⟨w,_,rfl⟩:=List.mem_map.1 hx
 rfl
theorem zoQ (w:WI) (ws:List WI):slP 2 (.lst ((w::ws).map wiP)) (some (.i .i64 1)) none none=some (.lst (ws.map wiP)):=by
 have h:=zqb (w::ws)
 simp only[slP,Option.isSome_none,Bool.false_eq_true,if_false,optP,asNP,asIP]
 rw[if_pos (by decide)]
 simp only
 rw[if_pos ⟨by simp,Nat.le_refl _,h⟩,List.take_length]
 rfl
theorem zjZ (ws:List WI) {i:Nat} (h:i<ws.length):(ws.map wiP)[i]?=some (wiP ws[i]):=by rw[List.getElem?_map,List.getElem?_eq_getElem h];rfl
theorem zkW (M:PM) (d:Nat) (ws:List WI):fzL (fz M (d+1+1)) (ws.map wiP)=some (ws.map wiP,[]):=by
 induction ws with
 | nil=>rfl
 | cons w ws ih=>simp only[List.map_cons,fzL,znJ,ih,List.nil_append]
theorem ziE (w:WI) (ws:List WI) (hl:ws.length<1000):pf E0 387 [.ag [.fn 296 [],.fn 297 []],.lst ((w::ws).map wiP)]=some (wiP (ws.foldl mnU w)):=by
 have s0:=zoQ w ws
 have s1:=zjZ (w::ws) (i:=0) (by simp)
 refine zaa (xf:=zu6) rfl (by simp[zu6]) ?_
 simp only[zu6]
 have l0:(((w::ws).map wiP).length:Int)=((ws.length+1:Nat):Int):=by simp
 have l1:((ws.map wiP).length:Int)=((ws.length:Nat):Int):=by simp
 have g0:(w::ws)[0]=w:=rfl
 have fz0:fzL (fz [] 12) ((w::ws).map wiP)=some ((w::ws).map wiP,[]):=zkW _ _ _
 generalize (w::ws).map wiP=L0 at *
 generalize hL:ws.map wiP=L1 at *
 simp(disch:=omega)only[go_sem,seval,wqq,s0,s1,l0,l1,g0,fz0]
 refine zan zvo.eq_1 (fun(i:Nat) fr M=>i≤ws.length∧fr 2=.p 0 0∧fr 4=.p 1 0∧fr 5=.p 2 0∧fr 12=.lst L1∧fr 13=(PV.i .i64 ((ws.length:Nat):Int))∧fr 14=(PV.i .i64 ((i:Nat):Int))∧∃v G,M=some ⟨[.fn 296 [],.fn 297 []],true,0⟩::some ⟨[.b false,.nl],true,0⟩::some ⟨(wiP ((ws.take i).foldl mnU w)).cells,true,v⟩::G) (fun i=>ws.length-i) ?_ 0 ⟨by omega,by simp only[go_sem,seval],by simp only[go_sem,seval],by simp only[go_sem,seval],by simp only[go_sem,seval],by simp only[go_sem,seval,l1],by simp only[go_sem,seval],_,[],rfl⟩
 rintro i fr M ⟨hi,f2,f4,f5,f12,f13,f14,v,G,rfl⟩ ih
 by_cases h:i<ws.length
 ·have q1:((i:Int)<(ws.length:Int))=True:=by simp;omega
  have x1:=zjZ ws h
  rw[hL] at x1
  have st:(ws.take (i+1)).foldl mnU w=mnU ((ws.take i).foldl mnU w) ws[i]:=by rw[List.take_succ_eq_append_getElem h,List.foldl_append];rfl
  have d1:=zmw ws[i] ((ws.take i).foldl mnU w)
  have hm:mnU ((ws.take i).foldl mnU w) ws[i]=if ws[i].v<((ws.take i).foldl mnU w).v then ws[i] else (ws.take i).foldl mnU w:=rfl
  rw[←st] at hm
  generalize hc:(ws.take i).foldl mnU w=c at *
  generalize hn:(ws.take (i+1)).foldl mnU w=n at *
  generalize ws[i]=b at *
  by_cases hb:b.v<c.v
  ·rw[if_pos hb] at hm
   subst hm
   rw[decide_eq_true hb] at d1
   simp(disch:=omega)only[go_sem,seval,wqq,f2,f4,f5,f12,f13,f14,q1,x1,d1,mG,mG0,sG,sG0,lG,lqq]
   exact ih (i+1) _ _ (by omega) ⟨by omega,by simp only[go_sem,seval,f2],by simp only[go_sem,seval,f4],by simp only[go_sem,seval,f5],by simp only[go_sem,seval,f12],by simp only[go_sem,seval,f13],by simp only[go_sem,seval];rw[Int.natCast_succ],_,_,by rw[hn];rfl⟩
  ·rw[if_neg hb] at hm
   subst hm
   rw[decide_eq_false hb] at d1
   simp(disch:=omega)only[go_sem,seval,wqq,f2,f4,f5,f12,f13,f14,q1,x1,d1,mG,mG0,sG,sG0,lG,lqq]
   exact ih (i+1) _ _ (by omega) ⟨by omega,by simp only[go_sem,seval,f2],by simp only[go_sem,seval,f4],by simp only[go_sem,seval,f5],by simp only[go_sem,seval,f12],by simp only[go_sem,seval,f13],by simp only[go_sem,seval];rw[Int.natCast_succ],_,_,by rw[hn];rfl⟩
 ·have q1:((i:Int)<(ws.length:Int))=False:=by simp;omega
  have e1:ws.take i=ws:=List.take_of_length_le (by omega)
  rw[e1]
  generalize ws.foldl mnU w=c at *
  simp(disch:=omega)only[go_sem,seval,wqq,f2,f4,f5,f12,f13,f14,q1]
theorem ziF (w:WI) (ws:List WI) (hl:ws.length<1000):pf E0 387 [.ag [.fn 298 [],.fn 299 []],.lst ((w::ws).map wiP)]=some (wiP (ws.foldl mxU w)):=by
 have s0:=zoQ w ws
 have s1:=zjZ (w::ws) (i:=0) (by simp)
 refine zaa (xf:=zu6) rfl (by simp[zu6]) ?_
 simp only[zu6]
 have l0:(((w::ws).map wiP).length:Int)=((ws.length+1:Nat):Int):=by simp
 have l1:((ws.map wiP).length:Int)=((ws.length:Nat):Int):=by simp
 have g0:(w::ws)[0]=w:=rfl
 have fz0:fzL (fz [] 12) ((w::ws).map wiP)=some ((w::ws).map wiP,[]):=zkW _ _ _
 generalize (w::ws).map wiP=L0 at *
 generalize hL:ws.map wiP=L1 at *
 simp(disch:=omega)only[go_sem,seval,wqq,s0,s1,l0,l1,g0,fz0]
 refine zan zvo.eq_1 (fun(i:Nat) fr M=>i≤ws.length∧fr 2=.p 0 0∧fr 4=.p 1 0∧fr 5=.p 2 0∧fr 12=.lst L1∧fr 13=(PV.i .i64 ((ws.length:Nat):Int))∧fr 14=(PV.i .i64 ((i:Nat):Int))∧∃v G,M=some ⟨[.fn 298 [],.fn 299 []],true,0⟩::some ⟨[.b false,.nl],true,0⟩::some ⟨(wiP ((ws.take i).foldl mxU w)).cells,true,v⟩::G) (fun i=>ws.length-i) ?_ 0 ⟨by omega,by simp only[go_sem,seval],by simp only[go_sem,seval],by simp only[go_sem,seval],by simp only[go_sem,seval],by simp only[go_sem,seval,l1],by simp only[go_sem,seval],_,[],rfl⟩
 rintro i fr M ⟨hi,f2,f4,f5,f12,f13,f14,v,G,rfl⟩ ih
 by_cases h:i<ws.length
 ·have q1:((i:Int)<(ws.length:Int))=True:=by simp;omega
  have x1:=zjZ ws h
  rw[hL] at x1
  have st:(ws.take (i+1)).foldl mxU w=mxU ((ws.take i).foldl mxU w) ws[i]:=by rw[List.take_succ_eq_append_getElem h,List.foldl_append];rfl
  have d1:=zqL ws[i] ((ws.take i).foldl mxU w)
  have hm:mxU ((ws.take i).foldl mxU w) ws[i]=if ws[i].v>((ws.take i).foldl mxU w).v then ws[i] else (ws.take i).foldl mxU w:=rfl
  rw[←st] at hm
  generalize hc:(ws.take i).foldl mxU w=c at *
  generalize hn:(ws.take (i+1)).foldl mxU w=n at *
  generalize ws[i]=b at *
  by_cases hb:b.v>c.v
  ·rw[if_pos hb] at hm
   subst hm
   rw[decide_eq_true hb] at d1
   simp(disch:=omega)only[go_sem,seval,wqq,f2,f4,f5,f12,f13,f14,q1,x1,d1,mG,mG0,sG,sG0,lG,lqq]
   exact ih (i+1) _ _ (by omega) ⟨by omega,by simp only[go_sem,seval,f2],by simp only[go_sem,seval,f4],by simp only[go_sem,seval,f5],by simp only[go_sem,seval,f12],by simp only[go_sem,seval,f13],by simp only[go_sem,seval];rw[Int.natCast_succ],_,_,by rw[hn];rfl⟩
  ·rw[if_neg hb] at hm
   subst hm
   rw[decide_eq_false hb] at d1
   simp(disch:=omega)only[go_sem,seval,wqq,f2,f4,f5,f12,f13,f14,q1,x1,d1,mG,mG0,sG,sG0,lG,lqq]
   exact ih (i+1) _ _ (by omega) ⟨by omega,by simp only[go_sem,seval,f2],by simp only[go_sem,seval,f4],by simp only[go_sem,seval,f5],by simp only[go_sem,seval,f12],by simp only[go_sem,seval,f13],by simp only[go_sem,seval];rw[Int.natCast_succ],_,_,by rw[hn];rfl⟩
 ·have q1:((i:Int)<(ws.length:Int))=False:=by simp;omega
  have e1:ws.take i=ws:=List.take_of_length_le (by omega)
  rw[e1]
  generalize ws.foldl mxU w=c at *
  simp(disch:=omega)only[go_sem,seval,wqq,f2,f4,f5,f12,f13,f14,q1]
end Go.Eng
namespace Go.Eng
theorem zpn (a b c d:WI):group 2 4 [PV.b (decide (a.v<0)),Dw (wlen a.v.natAbs) a.v.natAbs,PV.b (decide (b.v<0)),Dw (wlen b.v.natAbs) b.v.natAbs,PV.b (decide (c.v<0)),Dw (wlen c.v.natAbs) c.v.natAbs,PV.b (decide (d.v<0)),Dw (wlen d.v.natAbs) d.v.natAbs]=[wiP a,wiP b,wiP c,wiP d]:=_root_.id rfl
end Go.Eng
namespace Go.Eng
theorem zoW {K:Nat} (h:K≤16384):tlen (two K).natAbs<20000:=by
 have:=zeP K
 rw[zcc];omega
theorem zpO:T 0=.lst []:=by unfold T;rw[zaM];rfl
theorem zmP:rvP ivZ=.ag [.b false,.lst [],.b false,.lst []]:=by
 have:rvP ivZ=.ag [.b false,T 0,.b false,T 0]:=rfl
 rw[this,zpO]
theorem zki {x y:Int} (lx:tlen x.natAbs<50000) (ly:tlen y.natAbs<50000):pf E0 363 [nP x,nP y]=some (.tu [rvP (mdI x y).1,.i .i64 (mdI x y).2]):=by
 have hp:pf E0 128 [.i .i64 8192]=some (nP (two 8192)):=zeD 8192 (by omega)
 have lt:=zoW (K:=8192) (by omega)
 have n1:=zc1 (two 8192) (by omega)
 have ln:tlen (- two 8192).natAbs<20000:=by rw[Int.natAbs_neg];exact lt
 have c1:=za4 x (- two 8192) (by omega) (by omega)
 have c2:=za4 y (two 8192) (by omega) (by omega)
 have c3:=za4 y (- two 8192) (by omega) (by omega)
 have c4:=za4 x (two 8192) (by omega) (by omega)
 have hx:=zfI x
 have hy:=zfI y
 have hz:rvP (mdI x y).1=(if inB x∧inB y then rfP x y else .ag [.b false,.lst [],.b false,.lst []]):=by
  split
  ·rename_i h
   obtain⟨_,e1,e2⟩:=zfb h
   unfold rvP;rw[e1,e2]
  ·rename_i h
   rw[zik h];exact zmP
 have he:(mdI x y).2=(if inB x∧inB y then 0 else 4):=by
  split
  ·rename_i h;exact(zfb h).1
  ·rename_i h;rw[zik h]
 rw[hz,he]
 clear hz he lx ly lt ln
 have k1:∀a b:Int,(cmpI a b≤0)↔a≤b:=fun a b=>by unfold cmpI;split<;>(try split)<;>omega
 have k2:∀a b:Int,(0≤cmpI a b)↔b≤a:=fun a b=>by unfold cmpI;split<;>(try split)<;>omega
 generalize two 8192=t at *
 refine zaa (xf:=zwQ) rfl (by simp[zwQ]) ?_
 simp only[zwQ]
 simp(disch:=omega)only[go_sem,seval,wqq,hp]
 by_cases h1:x ≤ -t
 ·have q1:(cmpI x (-t)≤0)=True:=by rw[k1];exact eq_true h1
  rw[if_neg (fun q=>by have:=hx.1 q.1;omega),if_neg (fun q=>by have:=hx.1 q.1;omega)]
  refine zag rfl ?_
  simp(disch:=omega)only[go_sem,seval,wqq,n1,c1,q1,zaw,zah]
 ·have q1:(cmpI x (-t)≤0)=False:=by rw[k1];exact eq_false h1
  by_cases h2:t≤y
  ·have q2:(0≤cmpI y t)=True:=by rw[k2];exact eq_true h2
   rw[if_neg (fun q=>by have:=hy.1 q.2;omega),if_neg (fun q=>by have:=hy.1 q.2;omega)]
   refine zag rfl ?_
   simp(disch:=omega)only[go_sem,seval,wqq,n1,c1,q1,c2,q2,zaw,zah]
  ·have q2:(0≤cmpI y t)=False:=by rw[k2];exact eq_false h2
   refine zag rfl ?_
   simp(disch:=omega)only[go_sem,seval,wqq,n1,c1,q1,c2,q2,zaw,zah]
   by_cases h3:y ≤ -t
   ·have q3:(cmpI y (-t)≤0)=True:=by rw[k1];exact eq_true h3
    rw[if_neg (fun q=>by have:=hy.1 q.2;omega),if_neg (fun q=>by have:=hy.1 q.2;omega)]
    refine zag rfl ?_
    simp(disch:=omega)only[go_sem,seval,wqq,n1,c3,q3,zaw,zah]
   ·have q3:(cmpI y (-t)≤0)=False:=by rw[k1];exact eq_false h3
    by_cases h4:t≤x
    ·have q4:(0≤cmpI x t)=True:=by rw[k2];exact eq_true h4
     rw[if_neg (fun q=>by have:=hx.1 q.1;omega),if_neg (fun q=>by have:=hx.1 q.1;omega)]
     refine zag rfl ?_
     simp(disch:=omega)only[go_sem,seval,wqq,n1,c3,q3,c4,q4,zaw,zah]
    ·have q4:(0≤cmpI x t)=False:=by rw[k2];exact eq_false h4
     rw[if_pos ⟨hx.2 ⟨by omega,by omega⟩,hy.2 ⟨by omega,by omega⟩⟩,if_pos ⟨hx.2 ⟨by omega,by omega⟩,hy.2 ⟨by omega,by omega⟩⟩]
     refine zag rfl ?_
     simp(disch:=omega)only[go_sem,seval,wqq,n1,c3,q3,c4,q4,zaw,zah]
theorem zlm {a b:Int} (h:0<b):sgA a b=a∧sgB b=b:=by unfold sgA sgB;rw[if_neg (by omega),if_neg (by omega)];exact⟨rfl,rfl⟩
theorem zfi {a b:Int} (hb:b≠0) (la:tlen a.natAbs<50000) (lb:tlen b.natAbs<50000):pf E0 364 [nP a,nP b]=some (nP (flI (sgA a b) (sgB b))):=by
 have d1:=zd5 (x:=sgA a b) (y:=sgB b) (by unfold sgB;split<;>omega) (by unfold sgA;split<;>(try rw[Int.natAbs_neg])<;>omega) (by unfold sgB;split<;>(try rw[Int.natAbs_neg])<;>omega)
 have d1:pf E0 120 [nP (sgA a b),nP (sgB b)]=some (.tu [nP (flI (sgA a b) (sgB b)),nP (sgA a b%sgB b)]):=d1
 have n1:=zc1 a (by omega)
 have n2:=zc1 b (by omega)
 generalize flI (sgA a b) (sgB b)=q at *
 generalize sgA a b%sgB b=r at *
 by_cases h:b<0
 ·have sn:decide (b<0)=true:=by simp;omega
  have e1:sgA a b = -a:=by unfold sgA;rw[if_pos h]
  have e2:sgB b = -b:=by unfold sgB;rw[if_pos h]
  rw[e1,e2] at d1
  have f1:PV.ag [PV.b true,Tw (tlen b.natAbs) b.natAbs]=nP b:=by rw[←sn];rfl
  refine zaa (xf:=zvK) rfl (by simp[zvK]) ?_
  simp only[zvK]
  simp(disch:=omega)only[go_sem,seval,wqq,sn,n1,n2,d1,f1]
 ·have sn:decide (b<0)=false:=by simp;omega
  have e1:sgA a b=a:=by unfold sgA;rw[if_neg h]
  have e2:sgB b=b:=by unfold sgB;rw[if_neg h]
  rw[e1,e2] at d1
  have f1:PV.ag [PV.b false,Tw (tlen b.natAbs) b.natAbs]=nP b:=by rw[←sn];rfl
  refine zaa (xf:=zvK) rfl (by simp[zvK]) ?_
  simp only[zvK]
  simp(disch:=omega)only[go_sem,seval,wqq,sn,d1,f1]
theorem zoT {a b:Int} {N:Nat} (la:tlen a.natAbs<N):tlen (flI a b).natAbs<N:=Nat.lt_of_le_of_lt (zat (zca _ _)) la
theorem zsx {a b:Int} {N:Nat} (la:tlen a.natAbs<N):tlen (ceI a b).natAbs<N:=by
 unfold ceI;rw[Int.natAbs_neg]
 exact Nat.lt_of_le_of_lt (zat (zca _ _)) (by rw[Int.natAbs_neg];exact la)
theorem zsy {a b:Int} {N:Nat} (la:tlen a.natAbs<N):tlen (sgA a b).natAbs<N:=by unfold sgA;split<;>(try rw[Int.natAbs_neg])<;>exact la
theorem zkl {a b:Int} (hb:b≠0) (la:tlen a.natAbs<50000) (lb:tlen b.natAbs<50000):pf E0 365 [nP a,nP b]=some (nP (ceI (sgA a b) (sgB b))):=by
 have n1:=zc1 a (by omega)
 have f1:=zfi (a := -a) hb (by rw[Int.natAbs_neg];exact la) lb
 have lf:tlen (flI (sgA (-a) b) (sgB b)).natAbs<50000:=zoT (zsy (by rw[Int.natAbs_neg];exact la))
 have n2:=zc1 (flI (sgA (-a) b) (sgB b)) (by omega)
 have e : - flI (sgA (-a) b) (sgB b)=ceI (sgA a b) (sgB b):=by rw[zmQ];rfl
 rw[e] at n2
 generalize flI (sgA (-a) b) (sgB b)=q at *
 generalize ceI (sgA a b) (sgB b)=c at *
 refine zaa (xf:=zwW) rfl (by simp[zwW]) ?_
 simp only[zwW]
 simp(disch:=omega)only[go_sem,seval,wqq]
 refine zag rfl ?_
 simp(disch:=omega)only[go_sem,seval,wqq,n1,f1,n2]
theorem zgG (a:FQ):pf E0 362 [rfQ a]=some (.b (decide (¬(inL a.p.v∧inL a.q.v)))):=by
 have hp:pf E0 128 [.i .i64 16000]=some (nP (two 16000)):=zeD 16000 (by omega)
 have lt:=zoW (K:=16000) (by omega)
 have lp:=zdG a.p
 have lq:=zdG a.q
 obtain⟨m,hm⟩:∃m:Int,m=(a.p.v.natAbs:Int):=⟨_,rfl⟩
 have em:PV.ag [.b false,T a.p.v.natAbs]=nP m:=by
  have:decide (m<0)=false:=by simp;omega
  unfold nP
  rw[this,hm,Int.natAbs_natCast]
 have lm:tlen m.natAbs≤1239:=by rw[hm,Int.natAbs_natCast];exact lp
 have c1:=za4 m (two 16000) (by omega) (by omega)
 have c2:=za4 a.q.v (two 16000) (by omega) (by omega)
 have hq:=a.q1
 have l1:=zeu a.p.v
 have l2:=zeu a.q.v
 rw[←hm] at l1
 rw[show (a.q.v.natAbs:Int)=a.q.v by omega] at l2
 generalize two 16000=t at *
 have k:∀z:Int,(0≤cmpI z t)↔t≤z:=fun z=>by unfold cmpI;split<;>(try split)<;>omega
 have e:decide (¬(inL a.p.v∧inL a.q.v))=(if 0≤cmpI m t then true else decide (0≤cmpI a.q.v t)):=by
  by_cases h1:t≤m
  ·rw[if_pos ((k _).2 h1)]
   exact decide_eq_true (fun q=>l1.1 q.1 h1)
  ·rw[if_neg (fun q=>h1 ((k _).1 q))]
   by_cases h2:t≤a.q.v
   ·rw[decide_eq_true ((k _).2 h2)]
    exact decide_eq_true (fun q=>l2.1 q.2 h2)
   ·rw[decide_eq_false (fun q=>h2 ((k _).1 q))]
    exact decide_eq_false (fun q=>q ⟨l1.2 h1,l2.2 h2⟩)
 rw[e]
 clear e k l1 l2 hm
 unfold rfQ
 generalize a.p.v=P at *
 generalize a.q.v=Q at *
 refine zaa (xf:=zw1) rfl (by simp[zw1]) ?_
 simp only[zw1]
 by_cases h1:0≤cmpI m t
 ·rw[if_pos h1]
  have h1:(0≤cmpI m t)=True:=by simp[h1]
  simp(disch:=omega)only[go_sem,seval,wqq,hp,em,c1,h1]
 ·rw[if_neg h1]
  have h1:(0≤cmpI m t)=False:=by simp[h1]
  simp(disch:=omega)only[go_sem,seval,wqq,hp,em,c1,h1,c2]
end Go.Eng
namespace Go.Eng
@[go_sem] theorem zs4 (M:PM) (d:Nat) (x:IV):fz M (d+1+1) (rvP x)=some (rvP x,[]):=_root_.id rfl
@[go_sem] theorem znn (x:IV):(rvP x).cells=[.b (decide (x.lo.v<0)),T x.lo.v.natAbs,.b (decide (x.hi.v<0)),T x.hi.v.natAbs]:=_root_.id rfl
@[go_sem] theorem zqj (x:IV):rfP x.lo.v x.hi.v=rvP x:=_root_.id rfl
theorem zeC:pf E0 128 [.i .i64 32]=some (nP 4294967296):=by
 have h:pf E0 128 [.i .i64 32]=some (nP (two 32)):=zeD 32 (by omega)
 rw[zoV] at h;exact h
theorem zc5 (x:WI):tlen x.v.natAbs≤1239:=zdG x
theorem ztY:tlen (4294967296:Int).natAbs≤3:=zad (by decide)
theorem zoz (a b c d:FQ) (hab:(cmpF a b>0∧c=b∧d=a)∨(¬cmpF a b>0∧c=a∧d=b)):pf E0 345 [rfQ a,rfQ b]=some (.tu [rvP (mkSo c d).1,.i .i64 (mkSo c d).2]):=by
 have c1:pf E0 200 [rfQ a,rfQ b]=some (.i .i64 (cmpF a b)):=zfP _ _ _ _ (by have:=zc5 a.p;omega) (by have:=zc5 a.q;omega) (by have:=zc5 b.p;omega) (by have:=zc5 b.q;omega)
 have l1:=zgG c
 have l2:=zgG d
 have hp:=zeC
 have t3:=ztY
 have tc:=zc5 c.p
 have tcq:=zc5 c.q
 have td:=zc5 d.p
 have tdq:=zc5 d.q
 have cq:=c.q1
 have dq:=d.q1
 have m1:=zci c.p.v 4294967296 (by omega) (by omega)
 have m2:=zci d.p.v 4294967296 (by omega) (by omega)
 have t1:=zbl c.p.v 4294967296
 have t2:=zbl d.p.v 4294967296
 have e1:=zfi (a:=c.p.v*4294967296) (b:=c.q.v) (by omega) (by omega) (by omega)
 have e2:=zkl (a:=d.p.v*4294967296) (b:=d.q.v) (by omega) (by omega) (by omega)
 obtain⟨s1,s2⟩:=zlm (a:=c.p.v*4294967296) (b:=c.q.v) (by omega)
 obtain⟨s3,s4⟩:=zlm (a:=d.p.v*4294967296) (b:=d.q.v) (by omega)
 rw[s1,s2] at e1
 rw[s3,s4] at e2
 have md:=zki (x:=flI (c.p.v*4294967296) c.q.v) (y:=ceI (d.p.v*4294967296) d.q.v) (zoT (by omega)) (zsx (by omega))
 have step:∀q:Prop,(q=(0<cmpF a b))→(q=True∧c=b∧d=a)∨(q=False∧c=a∧d=b):=fun q hq=>by
  rcases hab with⟨h1,h2⟩|⟨h1,h2⟩
  ·left;exact⟨by rw[hq];simp;omega,h2⟩
  ·right;exact⟨by rw[hq];simp;omega,h2⟩
 have s0:=step _ rfl
 generalize cmpF a b=cm at *
 clear step hab s1 s2 s3 s4
 unfold mkSo
 by_cases h1:inL c.p.v∧inL c.q.v
 ·rw[decide_eq_false (fun q=>q h1)] at l1
  by_cases h2:inL d.p.v∧inL d.q.v
  ·rw[decide_eq_false (fun q=>q h2)] at l2
   rw[if_pos ⟨h1.1,h1.2,h2.1,h2.2⟩]
   generalize mdI (flI (c.p.v*4294967296) c.q.v) (ceI (d.p.v*4294967296) d.q.v)=R at *
   generalize flI (c.p.v*4294967296) c.q.v=u at *
   generalize ceI (d.p.v*4294967296) d.q.v=v at *
   generalize c.p.v*4294967296=cm at *
   generalize d.p.v*4294967296=dm at *
   obtain⟨s,hs⟩:∃s:Int,s=4294967296:=⟨_,rfl⟩
   rw[←hs] at hp m1 m2
   clear h1 h2 hs
   rcases s0 with⟨q0,rfl,rfl⟩|⟨q0,rfl,rfl⟩
   ·refine zaa (xf:=zva) rfl (by simp[zva]) ?_
    simp only[zva]
    simp(disch:=omega)only[go_sem,seval,wqq,c1,q0,l1,l2,hp]
    refine zag rfl ?_
    simp(disch:=omega)only[go_sem,seval,wqq,m1,m2,e1,e2,md]
   ·refine zaa (xf:=zva) rfl (by simp[zva]) ?_
    simp only[zva]
    simp(disch:=omega)only[go_sem,seval,wqq,c1,q0,l1,l2,hp]
    refine zag rfl ?_
    simp(disch:=omega)only[go_sem,seval,wqq,m1,m2,e1,e2,md]
  ·rw[decide_eq_true h2] at l2
   rw[if_neg (fun q=>h2 q.2.2)]
   show _=some (PV.tu [rvP ivZ,PV.i .i64 4])
   rw[zmP]
   rcases s0 with⟨q0,rfl,rfl⟩|⟨q0,rfl,rfl⟩
   ·refine zaa (xf:=zva) rfl (by simp[zva]) ?_
    simp only[zva]
    simp(disch:=omega)only[go_sem,seval,wqq,c1,q0,l1,l2,zaw,zah]
   ·refine zaa (xf:=zva) rfl (by simp[zva]) ?_
    simp only[zva]
    simp(disch:=omega)only[go_sem,seval,wqq,c1,q0,l1,l2,zaw,zah]
 ·rw[decide_eq_true h1] at l1
  rw[if_neg (fun q=>h1 ⟨q.1,q.2.1⟩)]
  show _=some (PV.tu [rvP ivZ,PV.i .i64 4])
  rw[zmP]
  have l2':∃v:Bool,pf E0 362 [rfQ d]=some (.b v):=⟨_,l2⟩
  obtain⟨v,l2⟩:=l2'
  rcases s0 with⟨q0,rfl,rfl⟩|⟨q0,rfl,rfl⟩
  ·refine zaa (xf:=zva) rfl (by simp[zva]) ?_
   simp only[zva]
   simp(disch:=omega)only[go_sem,seval,wqq,c1,q0,l1,l2,zaw,zah]
  ·refine zaa (xf:=zva) rfl (by simp[zva]) ?_
   simp only[zva]
   simp(disch:=omega)only[go_sem,seval,wqq,c1,q0,l1,l2,zaw,zah]
theorem zkn (a b:FQ):pf E0 345 [rfQ a,rfQ b]=some (.tu [rvP (mkI a b).1,.i .i64 (mkI a b).2]):=by
 by_cases h:cmpF a b>0
 ·have:=zoz a b b a (.inl ⟨h,rfl,rfl⟩)
  unfold mkI;rw[if_pos h];exact this
 ·have:=zoz a b a b (.inr ⟨h,rfl,rfl⟩)
  unfold mkI;rw[if_neg h];exact this
theorem zgF (x:WI):pf E0 373 [nP x.v]=some (rfQ (frQ x)):=by
 have hp:=zeC
 have m1:=ziK x w32
 rw[zfU] at m1
 unfold frQ
 generalize (makF x w32).1=R at *
 generalize (makF x w32).2=E at *
 generalize x.v=z at *
 obtain⟨s,hs⟩:∃s:Int,s=4294967296:=⟨_,rfl⟩
 rw[←hs] at hp m1
 clear hs
 refine zaa (xf:=zwP) rfl (by simp[zwP]) ?_
 simp only[zwP]
 simp(disch:=omega)only[go_sem,seval,wqq]
 refine zag rfl ?_
 simp(disch:=omega)only[go_sem,seval,wqq,hp,m1]
end Go.Eng
namespace Go.Eng
noncomputable def nL (N:Nat) (P:Nat→Int):List PV:=(List.range N).map fun i=>nP (P i)
end Go.Eng
set_option maxRecDepth 10000
namespace Go.Eng
theorem zdf (a b:WI) (ha:inB a.v) (hb:b.v≠0):∃q:WI,q.v=dFl a.v b.v∧pf E0 382 [wiP a,wiP b,.fp [.fn 296 [],.fn 297 []]]=some (wiP q):=by
 have sb:=zbT b
 by_cases h:b.v<0
 ·have n1:=zfe a
  have n2:=zfe b
  have nv:a.neg.v = -a.v:=rfl
  have bv:b.neg.v = -b.v:=rfl
  have t0:(cmpI b.v 0<0)=True:=by unfold cmpI;rw[if_pos h];simp
  have s1:=zcf (x:=a.neg)
  have hs:wlen (a.neg.v*4294967296).natAbs≤512:=zgi (by rw[nv];exact zh4.2 ha)
  rw[za7 hs] at s1
  have cv:=zbc hs
  have dv:dFl a.v b.v=flI (a.neg.v*4294967296) b.neg.v:=by unfold dFl sgA sgB;rw[if_pos h,if_pos h];rfl
  rw[dv]
  generalize clip (a.neg.v*4294967296)=z at *
  generalize a.neg=u at *
  generalize b.neg=w at *
  obtain⟨q,qv,fl⟩:∃q:WI,q.v=flI (u.v*4294967296) w.v∧pf E0 296 [wiP z,wiP w]=some (.tu [wiP q,.i .i64 0]):=⟨_,by show z.v/w.v=_;rw[cv];rfl,zdy z w (by omega)⟩
  refine⟨q,qv,?_⟩
  refine zaa (xf:=zvb) rfl (by simp[zvb]) ?_
  simp only[zvb]
  simp(disch:=omega)only[go_sem,seval,wqq,sb,t0]
  refine zag rfl ?_
  simp(disch:=omega)only[go_sem,seval,wqq,n1,n2,s1,fl]
 ·have t0:(cmpI b.v 0<0)=False:=by unfold cmpI;rw[if_neg h];split<;>simp
  have s1:=zcf (x:=a)
  have hs:wlen (a.v*4294967296).natAbs≤512:=zgi ha
  rw[za7 hs] at s1
  have cv:=zbc hs
  have dv:dFl a.v b.v=flI (a.v*4294967296) b.v:=by unfold dFl sgA sgB;rw[if_neg h,if_neg h]
  rw[dv]
  have bv:b.v=b.v:=rfl
  generalize clip (a.v*4294967296)=z at *
  obtain⟨q,qv,fl⟩:∃q:WI,q.v=flI (a.v*4294967296) b.v∧pf E0 296 [wiP z,wiP b]=some (.tu [wiP q,.i .i64 0]):=⟨_,by show z.v/b.v=_;rw[cv];rfl,zdy z b (by omega)⟩
  refine⟨q,qv,?_⟩
  refine zaa (xf:=zvb) rfl (by simp[zvb]) ?_
  simp only[zvb]
  simp(disch:=omega)only[go_sem,seval,wqq,sb,t0,s1,fl]
theorem zdg (a b:WI) (ha:inB a.v) (hb:b.v≠0):∃q:WI,q.v=dCe a.v b.v∧pf E0 382 [wiP a,wiP b,.fp [.fn 298 [],.fn 299 []]]=some (wiP q):=by
 have sb:=zbT b
 by_cases h:b.v<0
 ·have n1:=zfe a
  have n2:=zfe b
  have nv:a.neg.v = -a.v:=rfl
  have bv:b.neg.v = -b.v:=rfl
  have t0:(cmpI b.v 0<0)=True:=by unfold cmpI;rw[if_pos h];simp
  have s1:=zcf (x:=a.neg)
  have hs:wlen (a.neg.v*4294967296).natAbs≤512:=zgi (by rw[nv];exact zh4.2 ha)
  rw[za7 hs] at s1
  have cv:=zbc hs
  have dv:dCe a.v b.v=ceI (a.neg.v*4294967296) b.neg.v:=by unfold dCe sgA sgB;rw[if_pos h,if_pos h];rfl
  rw[dv]
  generalize clip (a.neg.v*4294967296)=z at *
  generalize a.neg=u at *
  generalize b.neg=w at *
  obtain⟨q,qv,fl⟩:=zeA z w (by omega)
  rw[cv] at qv
  refine⟨q,qv,?_⟩
  refine zaa (xf:=zvb) rfl (by simp[zvb]) ?_
  simp only[zvb]
  simp(disch:=omega)only[go_sem,seval,wqq,sb,t0]
  refine zag rfl ?_
  simp(disch:=omega)only[go_sem,seval,wqq,n1,n2,s1,fl]
 ·have t0:(cmpI b.v 0<0)=False:=by unfold cmpI;rw[if_neg h];split<;>simp
  have s1:=zcf (x:=a)
  have hs:wlen (a.v*4294967296).natAbs≤512:=zgi ha
  rw[za7 hs] at s1
  have cv:=zbc hs
  have dv:dCe a.v b.v=ceI (a.v*4294967296) b.v:=by unfold dCe sgA sgB;rw[if_neg h,if_neg h]
  rw[dv]
  have bv:b.v=b.v:=rfl
  generalize clip (a.v*4294967296)=z at *
  obtain⟨q,qv,fl⟩:=zeA z b (by omega)
  rw[cv] at qv
  refine⟨q,qv,?_⟩
  refine zaa (xf:=zvb) rfl (by simp[zvb]) ?_
  simp only[zvb]
  simp(disch:=omega)only[go_sem,seval,wqq,sb,t0,s1,fl]
theorem zkd (x y:IV) {q1 q2 q3 q4:WI} (h1:pf E0 382 [wiP x.lo,wiP y.lo,.fp [.fn 296 [],.fn 297 []]]=some (wiP q1)) (h2:pf E0 382 [wiP x.lo,wiP y.hi,.fp [.fn 296 [],.fn 297 []]]=some (wiP q2))
  (h3:pf E0 382 [wiP x.hi,wiP y.lo,.fp [.fn 296 [],.fn 297 []]]=some (wiP q3)) (h4:pf E0 382 [wiP x.hi,wiP y.hi,.fp [.fn 296 [],.fn 297 []]]=some (wiP q4)) :
  pf E0 381 [.ag [.fn 296 [],.fn 297 []],ivP x,ivP y,.fn 382 [.fp [.fn 296 [],.fn 297 []]]]=some (wiP (mnU (mnU (mnU q1 q2) q3) q4)):=by
 have b:=ziE q1 [q2,q3,q4] (by simp)
 simp only[List.map_cons,List.map_nil,List.foldl_cons,List.foldl_nil] at b
 generalize mnU (mnU (mnU q1 q2) q3) q4=R at *
 refine zaa (xf:=zu7) rfl (by simp[zu7]) ?_
 simp only[zu7]
 simp(disch:=omega)only[go_sem,seval,wqq]
 refine zcG [10,16,22,28] rfl ?_ ?_
 ·simp(disch:=omega)only[go_sem,seval,wqq,h1,h2,h3,h4,b,zaw,zah,zpn]
  exact⟨_,rfl,rfl⟩
 simp(disch:=omega)only[go_sem,seval,wqq,h1,h2,h3,h4,b,zaw,zah,zpn]
theorem zke (x y:IV) {q1 q2 q3 q4:WI} (h1:pf E0 382 [wiP x.lo,wiP y.lo,.fp [.fn 298 [],.fn 299 []]]=some (wiP q1)) (h2:pf E0 382 [wiP x.lo,wiP y.hi,.fp [.fn 298 [],.fn 299 []]]=some (wiP q2))
  (h3:pf E0 382 [wiP x.hi,wiP y.lo,.fp [.fn 298 [],.fn 299 []]]=some (wiP q3)) (h4:pf E0 382 [wiP x.hi,wiP y.hi,.fp [.fn 298 [],.fn 299 []]]=some (wiP q4)) :
  pf E0 381 [.ag [.fn 298 [],.fn 299 []],ivP x,ivP y,.fn 382 [.fp [.fn 298 [],.fn 299 []]]]=some (wiP (mxU (mxU (mxU q1 q2) q3) q4)):=by
 have b:=ziF q1 [q2,q3,q4] (by simp)
 simp only[List.map_cons,List.map_nil,List.foldl_cons,List.foldl_nil] at b
 generalize mxU (mxU (mxU q1 q2) q3) q4=R at *
 refine zaa (xf:=zu7) rfl (by simp[zu7]) ?_
 simp only[zu7]
 simp(disch:=omega)only[go_sem,seval,wqq]
 refine zcG [10,16,22,28] rfl ?_ ?_
 ·simp(disch:=omega)only[go_sem,seval,wqq,h1,h2,h3,h4,b,zaw,zah,zpn]
  exact⟨_,rfl,rfl⟩
 simp(disch:=omega)only[go_sem,seval,wqq,h1,h2,h3,h4,b,zaw,zah,zpn]
theorem zmo (x y:IV) (n1:y.lo.v≠0) (n2:y.hi.v≠0):∃q:WI,q.v=divLo x y∧pf E0 380 [.ag [.fn 296 [],.fn 297 []],.fp (ivP x).cells,.fp (ivP y).cells]=some (wiP q):=by
 obtain⟨q1,v1,h1⟩:=zdf x.lo y.lo x.l n1
 obtain⟨q2,v2,h2⟩:=zdf x.lo y.hi x.l n2
 obtain⟨q3,v3,h3⟩:=zdf x.hi y.lo x.h n1
 obtain⟨q4,v4,h4⟩:=zdf x.hi y.hi x.h n2
 have f:=zkd x y h1 h2 h3 h4
 have e:(mnU (mnU (mnU q1 q2) q3) q4).v=divLo x y:=by
  rw[zl8,zl8,zl8,v1,v2,v3,v4];rfl
 generalize mnU (mnU (mnU q1 q2) q3) q4=R at *
 refine⟨R,e,?_⟩
 refine zaa (xf:=zvE) rfl (by simp[zvE]) ?_
 simp only[zvE]
 simp(disch:=omega)only[go_sem,seval,wqq,f]
theorem zmp (x y:IV) (n1:y.lo.v≠0) (n2:y.hi.v≠0):∃q:WI,q.v=divHi x y∧pf E0 380 [.ag [.fn 298 [],.fn 299 []],.fp (ivP x).cells,.fp (ivP y).cells]=some (wiP q):=by
 obtain⟨q1,v1,h1⟩:=zdg x.lo y.lo x.l n1
 obtain⟨q2,v2,h2⟩:=zdg x.lo y.hi x.l n2
 obtain⟨q3,v3,h3⟩:=zdg x.hi y.lo x.h n1
 obtain⟨q4,v4,h4⟩:=zdg x.hi y.hi x.h n2
 have f:=zke x y h1 h2 h3 h4
 have e:(mxU (mxU (mxU q1 q2) q3) q4).v=divHi x y:=by
  rw[zl9,zl9,zl9,v1,v2,v3,v4];rfl
 generalize mxU (mxU (mxU q1 q2) q3) q4=R at *
 refine⟨R,e,?_⟩
 refine zaa (xf:=zvE) rfl (by simp[zvE]) ?_
 simp only[zvE]
 simp(disch:=omega)only[go_sem,seval,wqq,f]
theorem zmx (x y:IV) (hy:y.ok):pf E0 367 [ivP x,ivP y]=some (.tu [ivP (ivDiv x y).1,.i .i64 (ivDiv x y).2]):=by
 have s1:=zbT y.lo
 have s2:=zbT y.hi
 have k1:∀a:Int,(cmpI a 0≤0)↔a≤0:=fun a=>by unfold cmpI;split<;>(try split)<;>omega
 have k2:∀a:Int,(0≤cmpI a 0)↔0≤a:=fun a=>by unfold cmpI;split<;>(try split)<;>omega
 unfold ivDiv
 by_cases h:has0 y
 ·rw[if_pos h]
  have q1:(cmpI y.lo.v 0≤0)=True:=eq_true ((k1 _).2 h.1)
  have q2:(0≤cmpI y.hi.v 0)=True:=eq_true ((k2 _).2 h.2)
  show _=some (PV.tu [ivP ivZ,PV.i .i64 9])
  rw[znS]
  refine zaa (xf:=zvu) rfl (by simp[zvu]) ?_
  simp only[zvu]
  simp(disch:=omega)only[go_sem,seval,wqq,s1,s2,q1,q2,zaw,zah]
 ·rw[if_neg h]
  obtain⟨n1,n2⟩:=zlT h hy
  obtain⟨u,uv,e1⟩:=zmo x y n1 n2
  obtain⟨v,vv,e2⟩:=zmp x y n1 n2
  have md:=zle u v
  rw[uv,vv] at md
  generalize mdI (divLo x y) (divHi x y)=R at *
  rw[zeX,zeX] at e1 e2
  clear uv vv
  by_cases hl:y.lo.v≤0
  ·have q1:(cmpI y.lo.v 0≤0)=True:=eq_true ((k1 _).2 hl)
   have q2:(0≤cmpI y.hi.v 0)=False:=eq_false (fun q=>h ⟨hl,(k2 _).1 q⟩)
   refine zaa (xf:=zvu) rfl (by simp[zvu]) ?_
   simp only[zvu]
   simp(disch:=omega)only[go_sem,seval,wqq,s1,s2,q1,q2]
   refine zcG [19,22] rfl ?_ ?_
   ·simp(disch:=omega)only[go_sem,seval,wqq,zjz,zjA,e1,e2,md]
    exact⟨_,rfl,rfl⟩
   simp(disch:=omega)only[go_sem,seval,wqq,zjz,zjA,e1,e2,md]
  ·have q1:(cmpI y.lo.v 0≤0)=False:=eq_false (fun q=>hl ((k1 _).1 q))
   refine zaa (xf:=zvu) rfl (by simp[zvu]) ?_
   simp only[zvu]
   simp(disch:=omega)only[go_sem,seval,wqq,s1,q1]
   refine zcG [19,22] rfl ?_ ?_
   ·simp(disch:=omega)only[go_sem,seval,wqq,zjz,zjA,e1,e2,md]
    exact⟨_,rfl,rfl⟩
   simp(disch:=omega)only[go_sem,seval,wqq,zjz,zjA,e1,e2,md]
theorem zqp (a b:WI):group 2 2 [PV.b (decide (a.v<0)),Dw (wlen a.v.natAbs) a.v.natAbs,PV.b (decide (b.v<0)),Dw (wlen b.v.natAbs) b.v.natAbs]=[wiP a,wiP b]:=_root_.id rfl
theorem zgw (a b:WI):pf E0 387 [.ag [.fn 296 [],.fn 297 []],.lst [wiP a,wiP b]]=some (wiP (mnU a b)):=ziE a [b] (by simp)
theorem zgx (a b:WI):pf E0 387 [.ag [.fn 298 [],.fn 299 []],.lst [wiP a,wiP b]]=some (wiP (mxU a b)):=ziF a [b] (by simp)
theorem zgA (x y:IV):pf E0 504 [ivP x,ivP y]=some (ivP (ivHull x y)):=by
 have b1:=zgw x.lo y.lo
 have b2:=zgx x.hi y.hi
 have hq:ivP (ivHull x y)=.ag [.b (decide ((mnU x.lo y.lo).v<0)),D (mnU x.lo y.lo).v.natAbs,.b (decide ((mxU x.hi y.hi).v<0)),D (mxU x.hi y.hi).v.natAbs]:=rfl
 rw[hq]
 generalize mnU x.lo y.lo=u at *
 generalize mxU x.hi y.hi=v at *
 refine zaa (xf:=zwD) rfl (by simp[zwD]) ?_
 simp only[zwD]
 simp(disch:=omega)only[go_sem,seval,wqq]
 refine zag rfl ?_
 simp(disch:=omega)only[go_sem,seval,wqq,zjz,zjA,b1,b2,zaw,zah,zqp]
theorem zgC (x y:IV):pf E0 505 [ivP x,ivP y]=some (.tu [ivP (ivMeet x y).1,.b (ivMeet x y).2]):=by
 have b1:=zgx x.lo y.lo
 have b2:=zgw x.hi y.hi
 have hq:ivP (ivMeet0 x y)=.ag [.b (decide ((mxU x.lo y.lo).v<0)),D (mxU x.lo y.lo).v.natAbs,.b (decide ((mnU x.hi y.hi).v<0)),D (mnU x.hi y.hi).v.natAbs]:=rfl
 have hm:ivMeet x y=if (mxU x.lo y.lo).v>(mnU x.hi y.hi).v then (ivZ,false) else (ivMeet0 x y,true):=rfl
 rw[hm]
 have c:=zaG (mxU x.lo y.lo) (mnU x.hi y.hi)
 generalize mxU x.lo y.lo=u at *
 generalize mnU x.hi y.hi=v at *
 have k:∀a b:Int,(0<cmpI a b)↔b<a:=fun a b=>by unfold cmpI;split<;>(try split)<;>omega
 by_cases h:u.v>v.v
 ·rw[if_pos h]
  have q:(0<cmpI u.v v.v)=True:=eq_true ((k _ _).2 h)
  show _=some (PV.tu [ivP ivZ,PV.b false])
  rw[znS]
  refine zaa (xf:=zvH) rfl (by simp[zvH]) ?_
  simp only[zvH]
  simp(disch:=omega)only[go_sem,seval,wqq]
  refine zag rfl ?_
  simp(disch:=omega)only[go_sem,seval,wqq,zjz,zjA,b1,b2,zaw,zah,zqp,c,q]
 ·rw[if_neg h]
  have q:(0<cmpI u.v v.v)=False:=eq_false (fun z=>h ((k _ _).1 z))
  show _=some (PV.tu [ivP (ivMeet0 x y),PV.b true])
  rw[hq]
  refine zaa (xf:=zvH) rfl (by simp[zvH]) ?_
  simp only[zvH]
  simp(disch:=omega)only[go_sem,seval,wqq]
  refine zag rfl ?_
  simp(disch:=omega)only[go_sem,seval,wqq,zjz,zjA,b1,b2,zaw,zah,zqp,c,q]
end Go.Eng
set_option maxRecDepth 10000
namespace Go.Eng
end Go.Eng
namespace Go.Eng
def upd {α:Type} (X:Nat→α) (i:Nat) (v:α):Nat→α:=fun e=>if e=i then v else X e
def cs (n:Nat) (X:Nat→Int):List PV:=(List.range n).map fun e=>.i .i64 (X e)
def zF:Nat→Int:=fun _=>0
end Go.Eng
namespace Go.Eng
end Go.Eng
namespace Go.Eng
noncomputable def cW (w:Nat→WI):List PV:=[.b (decide ((w 0).v<0)),D (w 0).v.natAbs,.b (decide ((w 1).v<0)),D (w 1).v.natAbs,.b (decide ((w 2).v<0)),D (w 2).v.natAbs,.b (decide ((w 3).v<0)),D (w 3).v.natAbs,.b (decide ((w 4).v<0)),D (w 4).v.natAbs,.b (decide ((w 5).v<0)),D (w 5).v.natAbs,.b (decide ((w 6).v<0)),D (w 6).v.natAbs,.b (decide ((w 7).v<0)),D (w 7).v.natAbs,.b (decide ((w 8).v<0)),D (w 8).v.natAbs]
noncomputable def mW (w:Nat→WI):PV:=.ag (cW w)
def cI (p:Nat→Int):List PV:=[.i .i64 (p 0),.i .i64 (p 1),.i .i64 (p 2),.i .i64 (p 3),.i .i64 (p 4),.i .i64 (p 5),.i .i64 (p 6),.i .i64 (p 7),.i .i64 (p 8)]
def pI (p:Nat→Int):PV:=.ag (cI p)
end Go.Eng
namespace Go.Eng
end Go.Eng
namespace Go.Eng
end Go.Eng
namespace Go.Eng
def gN (X:Nat→Int):Nat→Nat
 | 0=>0
 | i+1=>Nat.gcd (gN X i) (X i).natAbs
noncomputable def gW (x:Nat→WI):Nat→WI
 | 0=>wi0
 | i+1=>(gW x i).gcd (x i)
noncomputable def gC (x:Nat→WI):Nat→List PV
 | 0=>[.b false,.nl]
 | i+1=>[.b (decide ((gW x (i+1)).v<0)),D (gW x (i+1)).v.natAbs]
end Go.Eng
namespace Go.Eng
end Go.Eng
namespace Go.Eng
def sB (n:Nat):Nat→Bool:=fun e=>decide (e<n)
def rtK (a b c d e:Int):Int:=a*(b*c)-a*(d*e)
def rdV (z:Nat→Int):Int:=0+rtK (z 0) (z 4) (z 8) (z 5) (z 7)+rtK (z 1) (z 5) (z 6) (z 3) (z 8)+rtK (z 2) (z 3) (z 7) (z 4) (z 6)
end Go.Eng
namespace Go.Eng
end Go.Eng
namespace Go.Eng
end Go.Eng
namespace Go.Eng
def rpK (a b c d e f:Int):Int:=0+a*b+c*d+e*f
def rprV (z u:Nat→Int):Nat→Int:=fun e=>rpK (z (3*(e/3))) (u (e%3)) (z (3*(e/3)+1)) (u (3+e%3)) (z (3*(e/3)+2)) (u (6+e%3))
end Go.Eng

namespace Go.Eng
def mnV (X:Nat→Int) (i k:Nat):Int:=X (3*((i+1)%3)+(k+1)%3)*X (3*((i+2)%3)+(k+2)%3)-X (3*((i+1)%3)+(k+2)%3)*X (3*((i+2)%3)+(k+1)%3)
end Go.Eng
namespace Go.Eng
def mE:Nat→Int:=fun e=>monoI.getD e 0
def exN (i j:Nat):Nat:=(mE (i*3+j)).toNat
def pw3 (X:Nat→Int) (i:Nat):Nat→Int
 | 0=>1
 | j+1=>pw3 X i j*X j^exN i j
def sumT (f:Nat→Int):Nat→Int
 | 0=>0
 | n+1=>sumT f n+f n
noncomputable def wc (t:WI):List PV:=[.b (decide (t.v<0)),D t.v.natAbs]
structure WZ (L:List PV) (s:WI):Prop where
 len:L.length=2
 sc:L.all PV.scal=true
 fz:∀(M:PM) (d:Nat),fzL (fz M (d+1)) L=some (wc s,[])
end Go.Eng
namespace Go.Eng
def cg (n:Nat) (f:Nat→List PV):List PV:=(List.range n).flatMap f
theorem zht (n:Nat) (f:Nat→List PV):cg (n+1) f=cg n f++f n:=by
 unfold cg
 rw[List.range_succ,List.flatMap_append];simp
theorem zhs {k:Nat} {f:Nat→List PV} (hf:∀e,(f e).length=k) (n:Nat):(cg n f).length=n*k:=by
 induction n with
 | zero=>simp[cg]
 | succ n ih=>rw[zht,List.length_append,ih,hf,Nat.succ_mul]
theorem zkO {k:Nat} {f:Nat→List PV} (hf:∀e,(f e).length=k) {n i:Nat} (h:i<n):((cg n f).drop (i*k)).take k=f i:=by
 induction n with
 | zero=>omega
 | succ n ih =>
  have hl:=zhs hf n
  rw[zht]
  rcases Nat.lt_or_ge i n with q|q
  ·have:(i+1)*k≤n*k:=Nat.mul_le_mul_right _ q
   rw[Nat.succ_mul] at this
   rw[List.drop_append_of_le_length (by omega),List.take_append_of_le_length (by rw[List.length_drop];omega),ih q]
  ·obtain rfl:i=n:=by omega
   rw[List.drop_append,List.drop_eq_nil_of_le (by omega),hl,Nat.sub_self,List.drop_zero,List.nil_append,List.take_of_length_le (by rw[hf];exact Nat.le_refl _)]
theorem znp {k:Nat} {n i:Nat} (h:i<n):i*k+k≤n*k:=by
 have:(i+1)*k≤n*k:=Nat.mul_le_mul_right _ h
 rw[Nat.succ_mul] at this
 exact this
end Go.Eng
namespace Go.Eng
def facT:List (List Int):=[[],[0],[1],[2],[0,0],[0,1],[0,2],[1,1],[1,2],[2,2],[0,0,0],[0,0,1],[0,0,2],[0,1,1],[0,1,2],[0,2,2],[1,1,1],[1,1,2],[1,2,2],[2,2,2]]
def facL (i:Nat):List Int:=facT.getD i []
def prL (X:Nat→Int):List Int→Int
 | []=>1
 | a::l=>X a.toNat*prL X l
end Go.Eng
namespace Go.Eng
end Go.Eng
namespace Go.Eng
theorem zgv {n m:Int} (hn:Fits64 n) (hm:Fits64 m) (h1:1≤m):pf E0 6 [.i .i64 n,.i .i64 m]=some (.i .i64 (aro n m)):=by
 refine zaa (xf:=zwg) rfl (by simp[zwg]) ?_
 simp only[zwg]
 unfold Fits64 at hn hm
 have a0:=zcJ n h1
 have a1:=zhn n h1
 have q1:(m=0)=False:=by simp;omega
 by_cases h:n<0
 ·have e:(0-(n+1)).tmod m=aro n m:=by
   unfold aro
   rw[if_pos h,Int.tmod_eq_emod_of_nonneg (by omega)]
   congr 1;omega
  simp(disch:=omega)only[go_sem,seval,wqq,h,q1,e]
 ·have e:n.tmod m=aro n m:=by
   unfold aro
   rw[if_neg h,Int.tmod_eq_emod_of_nonneg (by omega)]
  simp(disch:=omega)only[go_sem,seval,wqq,h,q1,e]
theorem zla {xs:List Int} (hx:Ints xs) {i m:Int} (hi:Fits64 i) (hm:Fits64 m) (h1:1≤m):pf E0 13 [ints xs,.i .i64 i,.i .i64 m]=some (.i .i64 (pick xs i m)):=by
 refine zaa (xf:=zwU) rfl (by simp[zwU]) ?_
 simp only[zwU]
 obtain⟨hx1,hx2⟩:=hx
 unfold pick
 by_cases h:i<0
 ·rw[if_pos (.inl h)]
  simp(disch:=omega)only[go_sem,seval,wqq,h]
 ·by_cases h':(xs.length:Int)≤i
  ·rw[if_pos (.inr h')]
   have q1:(i≥(xs.length:Int))=True:=by simp;omega
   simp(disch:=omega)only[go_sem,seval,wqq,h,q1]
  ·rw[if_neg (by omega)]
   have q1:(i≥(xs.length:Int))=False:=by simp;omega
   obtain⟨j,rfl⟩:∃j:Nat,i=j:=⟨i.toNat,by omega⟩
   have hj:j<xs.length:=by omega
   have hg:xs[j]?=some (xs.getD j 0):=by simp[hj]
   have ha:=zgv (n:=xs.getD j 0) (m:=m) (hx2 _ (by simp[hj])) hm h1
   simp(disch:=omega)only[go_sem,seval,wqq,h,q1,ze7 hg,Int.toNat_natCast,ha]
end Go.Eng
namespace Go.Eng
end Go.Eng
namespace Go.Eng
end Go.Eng
namespace Go.Eng
end Go.Eng
namespace Go.Eng
structure TerOk (X Y S:Int) (C R:Nat) (hs:List Int):Prop where
 c:2≤C∧C≤128
 r:2≤R∧R≤128
 s:1≤S∧S≤65536
 x : -1048576≤X∧X+(C-1)*S≤1048576
 y : -1048576≤Y∧Y+(R-1)*S≤1048576
 len:hs.length=C*R
 h:∀n∈hs,-16384≤n∧n≤16384
theorem TerOk.ints {X Y S:Int} {C R:Nat} {hs:List Int} (t:TerOk X Y S C R hs):Ints hs:=by
 refine⟨?_,fun n hn=>?_⟩
 ·have:C*R≤128*128:=Nat.mul_le_mul t.c.2 t.r.2
  rw[t.len];omega
 ·have:=t.h n hn
  unfold Fits64;omega
end Go.Eng
namespace Go.Eng
end Go.Eng
namespace Go.Eng
end Go.Eng
namespace Go.Eng
end Go.Eng
namespace Go.Eng
end Go.Eng
namespace Go.Eng
end Go.Eng
namespace Go.Eng
end Go.Eng
namespace Go.Eng
end Go.Eng
namespace Go.Eng
end Go.Eng

namespace Go.Eng
end Go.Eng
namespace Go.Eng
def pw (i:Nat):Nat:=2^(2^i)
end Go.Eng
namespace Go.Eng
noncomputable def pwI (i:Nat):WI:=clip ((pw i:Nat):Int)
noncomputable def pwL:Nat→List PV
 | 0=>[]
 | j+1=>pwL j++[.b (decide ((pwI j).v<0)),D (pwI j).v.natAbs]
end Go.Eng
namespace Go.Eng
end Go.Eng
namespace Go.Eng
noncomputable def whQ (n:Int):FQ:=if h:Fits64 n then ⟨wiOf n h,wi1,by decide,Nat.gcd_one_right _⟩ else fq0
end Go.Eng
namespace Go.Eng
noncomputable def qc (f:FQ):List PV:=[.b (decide (f.p.v<0)),D f.p.v.natAbs,.b (decide (f.l.v<0)),D f.l.v.natAbs]
theorem zoJ (f:FQ):PV.ag (qc f)=fqP f:=_root_.id rfl
structure QZ (L:List PV) (f:FQ):Prop where
 len:L.length=4
 sc:L.all PV.scal=true
 fz:∀(M:PM) (d:Nat),fzL (fz M (d+1)) L=some (qc f,[])
end Go.Eng
namespace Go.Eng
noncomputable def vc (x:IV):List PV:=[.b (decide (x.lo.v<0)),D x.lo.v.natAbs,.b (decide (x.hi.v<0)),D x.hi.v.natAbs]
structure VZ (L:List PV) (x:IV):Prop where
 len:L.length=4
 sc:L.all PV.scal=true
 fz:∀(M:PM) (d:Nat),fzL (fz M (d+1)) L=some (vc x,[])
def enT (U:Nat→IV) (r:IV×Int) (l:List Int):IV×Int:=l.foldl (fun r a=>if r.2=0 then ivMul r.1 (U a.toNat) else r) r
noncomputable def enX (c:Nat→Int) (U:Nat→IV) (i:Nat) (s:IV) (b:Bool):IV×Int :=
 if b=false∧(enT U (mkI (whQ (c i)) (whQ (c i))) (facL i)).2=0 then ivAdd s (enT U (mkI (whQ (c i)) (whQ (c i))) (facL i)).1 else enT U (mkI (whQ (c i)) (whQ (c i))) (facL i)
noncomputable def enS (c:Nat→Int) (U:Nat→IV):Nat→IV×Bool×Int
 | 0=>(ivZ,true,0)
 | i+1=>if (enS c U i).2.2≠0 then enS c U i else if c i=0 then enS c U i else
  if (enX c U i (enS c U i).1 (enS c U i).2.1).2=0 then ((enX c U i (enS c U i).1 (enS c U i).2.1).1,false,0) else (ivZ,true,(enX c U i (enS c U i).1 (enS c U i).2.1).2)
end Go.Eng
namespace Go.Eng
end Go.Eng
namespace Go.Eng
end Go.Eng
namespace Go.Eng
end Go.Eng
namespace Go.Eng
end Go.Eng
namespace Go.Eng
def chE:Nat→Int:=fun e=>chooI.getD e 0
def chV (i k j:Nat):Int:=chE (exN i j*4+exN k j)
def shP (Y:Nat→Int) (i k:Nat):Nat→Int
 | 0=>1
 | j+1=>shP Y i k j*(chV i k j*Y j^(exN i j-exN k j))
theorem z20:[PV.i .i64 0,PV.i .i64 0,PV.i .i64 0,PV.i .i64 0,PV.i .i64 0,PV.i .i64 0,PV.i .i64 0,PV.i .i64 0,PV.i .i64 0,PV.i .i64 0,PV.i .i64 0,PV.i .i64 0,PV.i .i64 0,PV.i .i64 0,PV.i .i64 0,PV.i .i64 0,PV.i .i64 0,PV.i .i64 0,PV.i .i64 0,PV.i .i64 0]=cs 20 zF:=rfl
end Go.Eng
namespace Go.Eng
end Go.Eng
namespace Go.Eng
def adV (X:Nat→Int):Nat→Int:=fun e=>mnV X (e%3) (e/3)
end Go.Eng
namespace Go.Eng
end Go.Eng
namespace Go.Eng
def isPF (E:PEnv):PV→Bool
 | .fn f _=>E.pure f
 | _=>false
def slotIn4 (E:PEnv) (ops:List XOper) (L V:List Nat) (c:Nat×Nat):Bool :=
 match ops[c.1]?,ops[c.2]? with
 | some a,some b =>
  match a.op with
  | .load _ _ (.t s)=>L.contains s&&(match b.op with | .callv (.t v) _=>V.contains v&&fixedX ops c.2 (.t v)|_=>calmOp E b.op)
  | _=>false
 | _,_=>false
end Go.Eng
namespace Go.Eng
def slarrB (m off n z:Nat) (lo hi:Option PV):Option PB→Option PV
 | some b=>if off+n*z≤b.v.length then slP z (.sl m off n n z) lo hi none else none
 | none=>none
def slarrP (M:PM) (n z:Nat) (lo hi:Option PV):PV→Option PV
 | .p m off=>slarrB m off n z lo hi (PM.blk M m)
 | .fp l=>if n*z≤l.length∧n*z≠0∧l.all PV.scal=true then slP z (.lst (group z n (l.take (n*z)))) lo hi none else none
 | _=>none
def rwV (a b c un ud vn vd:Int):Int:=a*un*vd+b*vn*ud+c*(ud*vd)
end Go.Eng
namespace Go.Eng
def q8 (a b c d e f g h:Int):PV:=.ag [.i .i64 a,.i .i64 b,.i .i64 c,.i .i64 d,.i .i64 e,.i .i64 f,.i .i64 g,.i .i64 h]
end Go.Eng
namespace Go.Eng
end Go.Eng
namespace Go.Eng
end Go.Eng
namespace Go.Eng
end Go.Eng
namespace Go.Eng
def rwF (p:Nat→Int) (i:Nat) (u v:FQ):Int:=rwV (p (3*i)) (p (3*i+1)) (p (3*i+2)) u.p.v u.q.v v.p.v v.q.v
end Go.Eng
namespace Go.Eng
def oneI:Nat→Int:=fun e=>if e%4=0 then 1 else 0
end Go.Eng
namespace Go.Eng
end Go.Eng
namespace Go.Eng
theorem hF (p:Nat→Int):PV.ag [.i .i64 (p 0),.i .i64 (p 1),.i .i64 (p 2),.i .i64 (p 3),.i .i64 (p 4),.i .i64 (p 5),.i .i64 (p 6),.i .i64 (p 7),.i .i64 (p 8)]=pI p:=rfl
def e9 (a b:Nat→Int):Bool:=a 0==b 0&&(a 1==b 1&&(a 2==b 2&&(a 3==b 3&&(a 4==b 4&&(a 5==b 5&&(a 6==b 6&&(a 7==b 7&&a 8==b 8)))))))
end Go.Eng
namespace Go.Eng
def gEnt (n d:Int):Int:=if n.tmod 6=1∨n.tmod 6 = -1 then (n.tdiv 6).tmod 8 else if n.tmod 6=2 then (n.tdiv 6).tmod 1000 else if n.tmod 6=3 then 1073741824-(n.tdiv 6).tmod 4 else d
def g0P:Nat→Int:=fun e=>if e=0 then 2 else if e=4 then 2 else if e=8 then 1 else 0
def gMix (ns:Nat→Int) (i:Nat):Nat→Int:=fun e=>if e<i then gEnt (ns e) (g0P e) else g0P e
theorem gk0 (ns:Nat→Int) (h:gEnt (ns 0) (g0P 0)=g0P 0):cI (gMix ns 0)=cI (gMix ns 1):=by
 have e:gMix ns 0=gMix ns 1:=by
  funext e
  unfold gMix
  by_cases q:e=0
  ·subst q;rw[if_neg (by decide),if_pos (by decide),h]
  ·by_cases r:e<0
   ·rw[if_pos r,if_pos (by omega)]
   ·rw[if_neg r,if_neg (by omega)]
 rw[e]
end Go.Eng
namespace Go.Eng
end Go.Eng
namespace Go.Eng
end Go.Eng
namespace Go.Eng
end Go.Eng
namespace Go.Eng
end Go.Eng
namespace Go.Eng
end Go.Eng
namespace Go.Eng
end Go.Eng
namespace Go.Eng
end Go.Eng
namespace Go.Eng
theorem zkV (xs:List Int) (i:Int):∃f:FQ,Ints xs→0≤i→i≤100→fsz 122 f∧pf E0 187 [ints xs,.i .i64 i]=some (rfQ f):=by
 by_cases h:Ints xs∧0≤i∧i≤100
 ·obtain⟨f,h1,h2⟩:=zkj h.1 h.2.1 h.2.2
  exact⟨f,fun _ _ _=>⟨h1,h2⟩⟩
 ·exact⟨fq0,fun a b c=>absurd ⟨a,b,c⟩ h⟩
noncomputable def frcF (xs:List Int) (i:Int):FQ:=(zkV xs i).choose
theorem zlc {xs:List Int} (hx:Ints xs) {i:Int} (h0:0≤i) (h1:i≤100):pf E0 187 [ints xs,.i .i64 i]=some (rfQ (frcF xs i)):=((zkV xs i).choose_spec hx h0 h1).2
end Go.Eng
set_option maxRecDepth 10000
namespace Go.Eng
noncomputable def smF (xs:List Int) (i:Int):FQ:=(makF (clip (pick xs i 1000000%401-200)) (clip (1+pick xs i 1000000/401%16))).1
theorem zja {z:Int} (h : -1000000≤z∧z≤1000000):wlen z.natAbs≤512:=zfV (by unfold Fits64;omega)
theorem zdz {xs:List Int} (hx:Ints xs) {i:Int} (hi:Fits64 i):pf E0 361 [ints xs,.i .i64 i]=some (rfQ (smF xs i)):=by
 have pk:=zla hx hi (m:=1000000) (by decide) (by decide)
 have k0:=zdB xs i (m:=1000000) (by decide)
 have k1:=ziT xs i (m:=1000000) (by decide)
 unfold smF
 generalize pick xs i 1000000=k at *
 have e1:k.tmod 401=k%401:=Int.tmod_eq_emod_of_nonneg k0
 have e2:k.tdiv 401=k/401:=Int.tdiv_eq_ediv_of_nonneg k0
 have e3:(k/401).tmod 16=k/401%16:=Int.tmod_eq_emod_of_nonneg (Int.ediv_nonneg k0 (by decide))
 have b1 : -200≤k%401-200∧k%401-200≤200:=by omega
 have b2:1≤1+k/401%16∧1+k/401%16≤16:=by omega
 have o1:=zcB (k%401-200) (by unfold Fits64;omega)
 have o2:=zcB (1+k/401%16) (by unfold Fits64;omega)
 have m:=ziK (clip (k%401-200)) (clip (1+k/401%16))
 rw[zbc (zja (by omega)),zbc (zja (by omega))] at m
 generalize makF (clip (k%401-200)) (clip (1+k/401%16))=R at *
 generalize hu:k%401-200=u at *
 generalize hv:1+k/401%16=v at *
 refine zaa (xf:=zwr) rfl (by simp[zwr]) ?_
 simp only[zwr]
 simp(disch:=omega)only[go_sem,seval,wqq,pk,e1,e2,e3,hu,hv,o1,o2,m]
noncomputable def enF (xs:List Int) (i:Int):FQ×FQ :=
 if pick xs i 1000000%4=0 then (frcF xs (i+1),frcF xs (i+3)) else if pick xs i 1000000%4=1 then (smF xs (i+1),smF xs (i+1)) else (smF xs (i+1),smF xs (i+2))
theorem zkm {xs:List Int} (hx:Ints xs) {i:Int} (h0:0≤i) (h1:i≤90):pf E0 344 [ints xs,.i .i64 i]=some (.tu [rfQ (enF xs i).1,rfQ (enF xs i).2]):=by
 have pk:=zla hx (i:=i) (m:=1000000) (by unfold Fits64;omega) (by decide) (by decide)
 have k0:=zdB xs i (m:=1000000) (by decide)
 have k1:=ziT xs i (m:=1000000) (by decide)
 have f1:=zlc hx (i:=i+1) (by omega) (by omega)
 have f2:=zlc hx (i:=i+3) (by omega) (by omega)
 have s1:=zdz hx (i:=i+1) (by unfold Fits64;omega)
 have s2:=zdz hx (i:=i+2) (by unfold Fits64;omega)
 unfold enF
 generalize pick xs i 1000000=k at *
 have e1:k.tmod 4=k%4:=Int.tmod_eq_emod_of_nonneg k0
 generalize frcF xs (i+1)=F1 at *
 generalize frcF xs (i+3)=F2 at *
 generalize smF xs (i+1)=S1 at *
 generalize smF xs (i+2)=S2 at *
 by_cases h:k%4=0
 ·rw[if_pos h]
  have q:(k%4=0)=True:=eq_true h
  refine zaa (xf:=zvv) rfl (by simp[zvv]) ?_
  simp only[zvv]
  simp(disch:=omega)only[go_sem,seval,wqq,pk,e1,q,f1,f2]
 ·rw[if_neg h]
  have q:(k%4=0)=False:=eq_false h
  by_cases h':k%4=1
  ·rw[if_pos h']
   have q':(k%4=1)=True:=eq_true h'
   refine zaa (xf:=zvv) rfl (by simp[zvv]) ?_
   simp only[zvv]
   simp(disch:=omega)only[go_sem,seval,wqq,pk,e1,q,q',s1]
   refine zeS [7] [4] rfl ?_ ?_
   ·simp(disch:=omega)only[go_sem,seval,wqq]
    exact⟨_,rfl,rfl⟩
   simp(disch:=omega)only[go_sem,seval,wqq]
  ·rw[if_neg h']
   have q':(k%4=1)=False:=eq_false h'
   refine zaa (xf:=zvv) rfl (by simp[zvv]) ?_
   simp only[zvv]
   simp(disch:=omega)only[go_sem,seval,wqq,pk,e1,q,q',s1]
   refine zag rfl ?_
   simp(disch:=omega)only[go_sem,seval,wqq,s2]
noncomputable def inI (xs:List Int) (i:Int):IV:=(mkI (enF xs i).1 (enF xs i).2).1
theorem zkZ (xs:List Int) (i:Int):(inI xs i).ok:=zk6 _ _
theorem zc2 {xs:List Int} (hx:Ints xs) {i:Int} (h0:0≤i) (h1:i≤90):pf E0 446 [ints xs,.i .i64 i]=some (rvP (inI xs i)):=by
 have e:=zkm hx h0 h1
 have m:=zkn (enF xs i).1 (enF xs i).2
 unfold inI
 generalize mkI (enF xs i).1 (enF xs i).2=R at *
 generalize (enF xs i).1=a at *
 generalize (enF xs i).2=b at *
 refine zaa (xf:=zvX) rfl (by simp[zvX]) ?_
 simp only[zvX]
 simp(disch:=omega)only[go_sem,seval,wqq,e,m]
def insN (x:IV) (k:Int):Int:=x.lo.v*6+(x.hi.v-x.lo.v)*aro k 7
noncomputable def inF (x:IV) (k:Int):FQ:=(makF (clip (insN x k)) (clip 25769803776)).1
theorem zsR (k:Int):0≤aro k 7∧aro k 7<7:=⟨zcJ k (by decide),zhn k (by decide)⟩
theorem znQ (x:IV) (k:Int):wlen (insN x k).natAbs≤512:=by
 obtain⟨a0,a1⟩:=zsR k
 have i6:inK 3 6:=by unfold inK;decide
 have ia:inK 3 (aro k 7):=by unfold inK;omega
 have h1:inK 8196 (x.lo.v*6):=zes (i:=8192) (j:=3) x.l i6 (by decide)
 have h2:inK 8193 (x.hi.v-x.lo.v):=zlV (i:=8192) x.h x.l (by decide)
 have h3:inK 8196 ((x.hi.v-x.lo.v)*aro k 7):=zes h2 ia (by decide)
 exact zjW (zh5 h1 h3 (N:=8197) (by decide)) (by decide)
theorem zuN:wlen (25769803776:Int).natAbs≤512:=zfV (by decide)
theorem zd7 (x:IV) {k:Int} (hk:Fits64 k):pf E0 350 [rvP x,.i .i64 k]=some (rfQ (inF x k)):=by
 have ar:=zgv hk (m:=7) (by decide) (by decide)
 obtain⟨a0,a1⟩:=zsR k
 have t1:=zc5 x.lo
 have t2:=zc5 x.hi
 have ts:=ztY
 have t6:tlen (6:Int).natAbs≤1:=zad (by decide)
 have ta:tlen (aro k 7).natAbs≤1:=zad (by omega)
 have s1:=zox x.hi.v x.lo.v (by omega) (by omega)
 have o6:=zcB 6 (by decide)
 have oa:=zcB (aro k 7) (by unfold Fits64;omega)
 have m1:=zci x.lo.v 6 (by omega) (by omega)
 have hp:=zeC
 have ls:=zjf x.hi.v (-x.lo.v)
 rw[Int.natAbs_neg,←Int.sub_eq_add_neg] at ls
 have m2:=zci (x.hi.v-x.lo.v) (aro k 7) (by omega) (by omega)
 have l1:=zbl x.lo.v 6
 have l2:=zbl (x.hi.v-x.lo.v) (aro k 7)
 have ad:=zgD (x.lo.v*6) ((x.hi.v-x.lo.v)*aro k 7) (by omega) (by omega)
 have m3:=zci 4294967296 6 (by omega) (by omega)
 have mk:=ziK (clip (insN x k)) (clip 25769803776)
 rw[zbc zuN,zbc (znQ x k)] at mk
 have e3:(4294967296:Int)*6=25769803776:=by decide
 rw[e3] at m3
 have mk:pf E0 182 [nP (insN x k),nP 25769803776]=some (.tu [rfQ (inF x k),.i .i64 (makF (clip (insN x k)) (clip 25769803776)).2]):=mk
 have ad:pf E0 119 [nP (x.lo.v*6),nP ((x.hi.v-x.lo.v)*aro k 7)]=some (nP (insN x k)):=ad
 generalize (makF (clip (insN x k)) (clip 25769803776)).2=E at *
 generalize inF x k=R at *
 generalize insN x k=n at *
 generalize (x.hi.v-x.lo.v)*aro k 7=d at *
 generalize x.hi.v-x.lo.v=w at *
 generalize x.lo.v*6=u at *
 generalize aro k 7=a at *
 obtain⟨c,hc⟩:∃c:Int,c=25769803776:=⟨_,rfl⟩
 rw[←hc] at m3 mk
 obtain⟨s,hs⟩:∃s:Int,s=4294967296:=⟨_,rfl⟩
 rw[←hs] at hp m3
 obtain⟨g,hg⟩:∃g:Int,g=6:=⟨_,rfl⟩
 have o6:pf E0 114 [.i .i64 6]=some (nP g):=by rw[hg];exact o6
 rw[←hg] at m1 m3
 clear hc hs hg
 refine zaa (xf:=zwo) rfl (by simp[zwo]) ?_
 simp only[zwo]
 simp(disch:=omega)only[go_sem,seval,wqq,ar,s1]
 refine zag rfl ?_
 simp(disch:=omega)only[go_sem,seval,wqq,o6,oa,m1,m2,ad,hp,m3,mk]
theorem zmJ (f:FQ):pf E0 197 [.s (ftx f.p.v f.q.v)]=some (.tu [fqP f,.i .i64 0]):=ziP f (by have:=zfF f;omega)
theorem zkG (f:FQ):pf E0 196 [rfQ f]=some (.s (ftx f.p.v f.q.v)):=zkk _ _ (by have:=zc5 f.p;omega) (by have:=zc5 f.q;omega)
theorem zfh (f:FQ):pf E0 500 [rfQ f]=some (fqP f):=by
 have h1:=zkG f
 have h2:=zmJ f
 generalize ftx f.p.v f.q.v=t at *
 refine zaa (xf:=zwm) rfl (by simp[zwm]) ?_
 simp only[zwm]
 simp(disch:=omega)only[go_sem,seval,wqq,h1,h2]
theorem zlO (a:Int):flI (a*4294967296) 4294967296=a:=Int.mul_ediv_cancel _ (by decide)
theorem zlB (a:Int):ceI (a*4294967296) 4294967296=a:=by
 unfold ceI
 rw[←Int.neg_mul,Int.mul_ediv_cancel _ (by decide)];omega
theorem znB (x:WI):fdQ (frQ x)=x.v∧ceQ (frQ x)=x.v:=by
 rw[znA (by decide) (zdT x),znh (by decide) (zdT x),zlO,zlB]
 exact⟨rfl,rfl⟩
theorem zkU {x:WI} (h:inB x.v):inL (frQ x).p.v∧inL (frQ x).q.v:=by
 obtain⟨_,h1,h2⟩:=zl3 (x:=x) (y:=w32) (by rw[zfU];decide)
 rw[zfU] at h1 h2
 have h1:(frQ x).p.v=lowP x.v 4294967296:=h1
 have h2:(frQ x).q.v=lowQ x.v 4294967296:=h2
 rw[h1,h2]
 exact⟨zgj (znO h) (zic (by decide)),zgj (zbL zlU (by decide)) (zid (by decide))⟩
theorem znY {x:IV} (hx:x.ok):mkI (frQ x.lo) (frQ x.hi)=(x,0):=by
 unfold IV.ok at hx
 have hc:¬cmpF (frQ x.lo) (frQ x.hi)>0:=by
  rw[zhv (by decide) (by decide) (zdT x.lo) (zdT x.hi)]
  have:=Int.mul_le_mul_of_nonneg_right hx (show (0:Int)≤4294967296 by decide)
  unfold cmpI
  split
  ·decide
  ·split
   ·omega
   ·decide
 obtain⟨l1,l2⟩:=zkU x.l
 obtain⟨l3,l4⟩:=zkU x.h
 unfold mkI
 rw[if_neg hc]
 unfold mkSo
 rw[if_pos ⟨l1,l2,l3,l4⟩]
 have e1:flI ((frQ x.lo).p.v*4294967296) (frQ x.lo).q.v=x.lo.v:=(znB x.lo).1
 have e2:ceI ((frQ x.hi).p.v*4294967296) (frQ x.hi).q.v=x.hi.v:=(znB x.hi).2
 rw[e1,e2]
 obtain⟨a,b,c⟩:=zfb ⟨x.l,x.h⟩
 have:(mdI x.lo.v x.hi.v).1=x:=zh8 b c
 exact Prod.ext this a
theorem ziJ {x:IV} (hx:x.ok):pf E0 503 [rvP x]=some (ivP x):=by
 have h1:=zgF x.lo
 have h2:=zgF x.hi
 have n1:=zfh (frQ x.lo)
 have n2:=zfh (frQ x.hi)
 have m:=zdh (frQ x.lo) (frQ x.hi)
 rw[znY hx] at m
 generalize frQ x.lo=A at *
 generalize frQ x.hi=B at *
 refine zaa (xf:=zvY) rfl (by simp[zvY]) ?_
 simp only[zvY]
 simp(disch:=omega)only[go_sem,seval,wqq]
 refine zag rfl ?_
 simp(disch:=omega)only[go_sem,seval,wqq,h1,h2,n1,n2,m]
end Go.Eng
set_option maxRecDepth 10000
namespace Go.Eng
theorem zjV {z:Int} (h:Fits64 z):inK 64 z:=by
 unfold inK
 unfold Fits64 at h
 have:(2:Nat)^64=18446744073709551616:=by decide
 omega
theorem zj3 {a b:FQ} {l h:Int} (f1:Fits64 a.p.v) (f2:Fits64 a.q.v) (f3:Fits64 b.p.v) (f4:Fits64 b.q.v) (hl:min2 (fdQ a) (fdQ b)=l) (hh:max2 (ceQ a) (ceQ b)=h):(mkI a b).2=0∧(mkI a b).1.lo.v=l∧(mkI a b).1.hi.v=h:=by
 have big:∀f:FQ,Fits64 f.p.v→inB (fdQ f)∧inB (ceQ f):=fun f hf=>by
  have hm:inK 97 (f.p.v*4294967296):=zes (zjV hf) zlU (by decide)
  refine⟨zbL (zgj hm (zca _ _)) (by decide),?_⟩
  have:inK 97 (-(f.p.v*4294967296)):=zet.2 hm
  refine zbL (i:=97) ?_ (by decide)
  unfold ceQ ceI
  rw[zet]
  exact zgj this (zca _ _)
 have so:∀c d:FQ,Fits64 c.p.v→Fits64 c.q.v→Fits64 d.p.v→Fits64 d.q.v→(mkSo c d).2=0:=fun c d g1 g2 g3 g4=>by
  have il:∀{z:Int},Fits64 z→inL z:=fun q=>zbL (zjV q) (by decide)
  unfold mkSo
  rw[if_pos ⟨il g1,il g2,il g3,il g4⟩]
  exact(zfb ⟨(big c g1).1,(big d g3).2⟩).1
 have z:(mkI a b).2=0:=by
  unfold mkI
  split
  ·exact so b a f3 f4 f1 f2
  ·exact so a b f1 f2 f3 f4
 obtain⟨v1,v2⟩:=zqC z
 exact⟨z,v1.trans hl,v2.trans hh⟩
theorem zjQ (x:WI):(frQ x).p.v=lowP x.v 4294967296∧(frQ x).q.v=lowQ x.v 4294967296:=by
 obtain⟨_,h1,h2⟩:=zl3 (x:=x) (y:=w32) (by rw[zfU];decide)
 exact⟨h1,h2⟩
theorem zfJ {x:IV} {l h p1 q1 p2 q2:Int} {s t:List UInt8} (hl:x.lo.v=l) (hh:x.hi.v=h) (e1:lowP l 4294967296=p1) (e2:lowQ l 4294967296=q1) (e3:lowP h 4294967296=p2) (e4:lowQ h 4294967296=q2) (hs:ftx p1 q1=s) (ht:ftx p2 q2=t) :
  ivTx x=[91]++s++[44,32]++t++[93]:=by
 unfold ivTx
 rw[(zjQ x.lo).1,(zjQ x.lo).2,(zjQ x.hi).1,(zjQ x.hi).2,hl,hh,e1,e2,e3,e4,hs,ht]
theorem zg7 {f:FQ} {p q l h:Int} (hp:f.p.v=p) (hq:f.q.v=q) (e1:flI (p*4294967296) q=l) (e2:ceI (p*4294967296) q=h):fdQ f=l∧ceQ f=h:=by
 unfold fdQ ceQ
 rw[hp,hq];exact⟨e1,e2⟩
set_option maxHeartbeats 4000000 in
theorem zkf:pf E0 502 []=some (.b true):=by
 obtain⟨o,o1,o2,_,fo⟩:=zhb (p:=1) (q:=1) (a:=1) (b:=1) (by decide) (by decide) (by decide) (by decide) (by decide) (zad (by decide)) (zad (by decide))
 obtain⟨t,t1,t2,_,ft⟩:=zhb (p:=1) (q:=3) (a:=1) (b:=3) (by decide) (by decide) (by decide) (by decide) (by decide) (zad (by decide)) (zad (by decide))
 obtain⟨h,h1,h2,_,fh⟩:=zhb (p:=1) (q:=2) (a:=1) (b:=2) (by decide) (by decide) (by decide) (by decide) (by decide) (zad (by decide)) (zad (by decide))
 obtain⟨w,w1,w2,_,fw⟩:=zhb (p:=2) (q:=1) (a:=2) (b:=1) (by decide) (by decide) (by decide) (by decide) (by decide) (zad (by decide)) (zad (by decide))
 obtain⟨u,u1,u2,_,fu⟩:=zhb (p:=4) (q:=1) (a:=4) (b:=1) (by decide) (by decide) (by decide) (by decide) (by decide) (zad (by decide)) (zad (by decide))
 obtain⟨v,v1,v2,_,fv⟩:=zhb (p:=8) (q:=1) (a:=8) (b:=1) (by decide) (by decide) (by decide) (by decide) (by decide) (zad (by decide)) (zad (by decide))
 obtain⟨to1,to2⟩:=zg7 (l:=4294967296) (h:=4294967296) o1 o2 (by decide) (by decide)
 obtain⟨tt1,tt2⟩:=zg7 (l:=1431655765) (h:=1431655766) t1 t2 (by decide) (by decide)
 obtain⟨th1,th2⟩:=zg7 (l:=2147483648) (h:=2147483648) h1 h2 (by decide) (by decide)
 obtain⟨tw1,tw2⟩:=zg7 (l:=8589934592) (h:=8589934592) w1 w2 (by decide) (by decide)
 obtain⟨tu1,tu2⟩:=zg7 (l:=17179869184) (h:=17179869184) u1 u2 (by decide) (by decide)
 obtain⟨tv1,tv2⟩:=zg7 (l:=34359738368) (h:=34359738368) v1 v2 (by decide) (by decide)
 have fi:∀{z n:Int},z=n→Fits64 n→Fits64 z:=fun h g=>h ▸ g
 obtain⟨a0,a1,a2⟩:=zj3 (a:=h) (b:=h) (l:=2147483648) (h:=2147483648) (fi h1 (by decide)) (fi h2 (by decide)) (fi h1 (by decide)) (fi h2 (by decide)) (by rw[th1];decide) (by rw[th2];decide)
 obtain⟨b0,b1,b2⟩:=zj3 (a:=t) (b:=t) (l:=1431655765) (h:=1431655766) (fi t1 (by decide)) (fi t2 (by decide)) (fi t1 (by decide)) (fi t2 (by decide)) (by rw[tt1];decide) (by rw[tt2];decide)
 obtain⟨c0,c1,c2⟩:=zj3 (a:=o) (b:=w) (l:=4294967296) (h:=8589934592) (fi o1 (by decide)) (fi o2 (by decide)) (fi w1 (by decide)) (fi w2 (by decide)) (by rw[to1,tw1];decide) (by rw[to2,tw2];decide)
 obtain⟨d0,d1,d2⟩:=zj3 (a:=v) (b:=u) (l:=17179869184) (h:=34359738368) (fi v1 (by decide)) (fi v2 (by decide)) (fi u1 (by decide)) (fi u2 (by decide)) (by rw[tv1,tu1];decide) (by rw[tv2,tu2];decide)
 have ma:=zld h
 have mb:=zld t
 have mc:=zdh o w
 have md:=zdh v u
 have dv:=zmx (mkI o w).1 (mkI v u).1 (zk6 _ _)
 rw[a0] at ma
 rw[b0] at mb
 rw[c0] at mc
 rw[d0] at md
 generalize (mkI h h).1=A at *
 generalize (mkI t t).1=B at *
 generalize (mkI o w).1=C at *
 generalize (mkI v u).1=D at *
 have n0:¬has0 D:=by unfold has0;omega
 have el:divLo C D=536870912:=by unfold divLo;rw[c1,c2,d1,d2];decide
 have eh:divHi C D=2147483648:=by unfold divHi;rw[c1,c2,d1,d2];decide
 have eq:ivDiv C D=mdI 536870912 2147483648:=by unfold ivDiv;rw[if_neg n0,el,eh]
 obtain⟨q0,q1,q2⟩:=zfb (lo:=536870912) (hi:=2147483648) ⟨zbL (zjV (by decide)) (by decide),zbL (zjV (by decide)) (by decide)⟩
 rw[eq,q0] at dv
 generalize (mdI 536870912 2147483648).1=Q at *
 have k1:decI 1=[49]:=(zdp (v:=1) (n:=0) rfl (by decide) (by decide)).trans rfl
 have k2:decI 2=[50]:=(zdp (v:=2) (n:=0) rfl (by decide) (by decide)).trans rfl
 have k8:decI 8=[56]:=(zdp (v:=8) (n:=0) rfl (by decide) (by decide)).trans rfl
 have k3:decI 1431655765=[49,52,51,49,54,53,53,55,54,53]:=(zdp (v:=1431655765) (n:=9) rfl (by decide) (by decide)).trans rfl
 have k4:decI 4294967296=[52,50,57,52,57,54,55,50,57,54]:=(zdp (v:=4294967296) (n:=9) rfl (by decide) (by decide)).trans rfl
 have k5:decI 715827883=[55,49,53,56,50,55,56,56,51]:=(zdp (v:=715827883) (n:=8) rfl (by decide) (by decide)).trans rfl
 have k6:decI 2147483648=[50,49,52,55,52,56,51,54,52,56]:=(zdp (v:=2147483648) (n:=9) rfl (by decide) (by decide)).trans rfl
 have x12:ftx 1 2=[49,47,50]:=by unfold ftx;rw[if_neg (by decide),k1,k2];rfl
 have x18:ftx 1 8=[49,47,56]:=by unfold ftx;rw[if_neg (by decide),k1,k8];rfl
 have xb1:ftx 1431655765 4294967296=[49,52,51,49,54,53,53,55,54,53,47,52,50,57,52,57,54,55,50,57,54]:=by unfold ftx;rw[if_neg (by decide),k3,k4];rfl
 have xb2:ftx 715827883 2147483648=[55,49,53,56,50,55,56,56,51,47,50,49,52,55,52,56,51,54,52,56]:=by unfold ftx;rw[if_neg (by decide),k5,k6];rfl
 have sa:=zbz A
 have sb:=zbz B
 have sq:=zbz Q
 rw[zfJ a1 a2 (p1:=1) (q1:=2) (p2:=1) (q2:=2) (by decide) (by decide) (by decide) (by decide) x12 x12] at sa
 rw[zfJ b1 b2 (p1:=1431655765) (q1:=4294967296) (p2:=715827883) (q2:=2147483648) (by decide) (by decide) (by decide) (by decide) xb1 xb2] at sb
 rw[zfJ q1 q2 (p1:=1) (q1:=8) (p2:=1) (q2:=2) (by decide) (by decide) (by decide) (by decide) x18 x12] at sq
 simp only[List.cons_append,List.nil_append] at sa sb sq
 clear a1 a2 b1 b2 c1 c2 d1 d2 q1 q2 h1 h2 t1 t2 o1 o2 w1 w2 u1 u2 v1 v2 to1 to2 tt1 tt2 th1 th2 tw1 tw2 tu1 tu2 tv1 tv2
 refine zaa (xf:=zwy) rfl (by simp[zwy]) ?_
 simp only[zwy]
 have hx:xs_8253e7=[91,49,52,51,49,54,53,53,55,54,53,47,52,50,57,52,57,54,55,50,57,54,44,32,55,49,53,56,50,55,56,56,51,47,50,49,52,55,52,56,51,54,52,56,93]:=rfl
 simp(disch:=omega)only[go_sem,seval,wqq,fo,ft,fh,fw,fu,fv,ma,mb,mc,md,dv,sa,sb,sq,hx,decide_true]
end Go.Eng
set_option maxRecDepth 10000
namespace Go.Eng
end Go.Eng
set_option maxRecDepth 10000
namespace Go.Eng
end Go.Eng
namespace Go.Eng
def vbN (n:Nat):List Nat:=if n<128 then [n] else (128+n%128)::vbN (n/128)
termination_by n
end Go.Eng
namespace Go.Eng
def rdU (i n:Nat):List Nat→Nat×List Nat×Int
 | []=>(0,[],3)
 | c::l=>if (i=9∧1<c)∨(0<i∧c=0) then (0,l,2) else if c<128 then (n+c*128^i,l,0) else rdU (i+1) (n+c%128*128^i) l
end Go.Eng
namespace Go.Eng
end Go.Eng
namespace Go.Eng
end Go.Eng
namespace Go.Eng
end Go.Eng
namespace Go.Eng
end Go.Eng
namespace Go.Eng
def bin2 (n k:Nat) (y:Int):Int:=if k≤n then chE (n*4+k)*y^(n-k) else 0
end Go.Eng
namespace Go.Eng
end Go.Eng
namespace Go.Eng
end Go.Eng
namespace Go.Eng
end Go.Eng
namespace Go.Eng
end Go.Eng
namespace Go.Eng
end Go.Eng
namespace Go.Eng
end Go.Eng
namespace Go.Eng
end Go.Eng
namespace Go.Eng
theorem zir (s:List UInt8):decide (s≠s)=false:=by simp
end Go.Eng
set_option maxRecDepth 10000
namespace Go.Eng
theorem zh2 (a b:IV):ivHull a b=ivHull b a:=by
 refine zh8 ?_ ?_
 ·show (if b.lo.v<a.lo.v then b.lo else a.lo).v=(if a.lo.v<b.lo.v then a.lo else b.lo).v
  split<;>split<;>omega
 ·show (if b.hi.v>a.hi.v then b.hi else a.hi).v=(if a.hi.v>b.hi.v then a.hi else b.hi).v
  split<;>split<;>omega
theorem zha (a b:IV):ivMeet0 a b=ivMeet0 b a:=by
 refine zh8 ?_ ?_
 ·show (if b.lo.v>a.lo.v then b.lo else a.lo).v=(if a.lo.v>b.lo.v then a.lo else b.lo).v
  split<;>split<;>omega
 ·show (if b.hi.v<a.hi.v then b.hi else a.hi).v=(if a.hi.v<b.hi.v then a.hi else b.hi).v
  split<;>split<;>omega
theorem zil (a b:IV):ivMeet a b=ivMeet b a:=by unfold ivMeet;rw[zha]
theorem znL (a b:IV):(ivHull a b).lo.v=min a.lo.v b.lo.v∧(ivHull a b).hi.v=max a.hi.v b.hi.v:=by
 constructor
 ·show (if b.lo.v<a.lo.v then b.lo else a.lo).v=_
  split<;>omega
 ·show (if b.hi.v>a.hi.v then b.hi else a.hi).v=_
  split<;>omega
theorem zfK (a b:IV):(ivMeet0 a b).lo.v=max a.lo.v b.lo.v∧(ivMeet0 a b).hi.v=min a.hi.v b.hi.v:=by
 constructor
 ·show (if b.lo.v>a.lo.v then b.lo else a.lo).v=_
  split<;>omega
 ·show (if b.hi.v<a.hi.v then b.hi else a.hi).v=_
  split<;>omega
theorem zim {a b:IV} (h:(ivMeet a b).2=true):(ivMeet a b).1=ivMeet0 a b:=by
 unfold ivMeet at *
 split
 ·rename_i q;rw[if_pos q] at h;cases h
 ·rfl
theorem zl6 {a b:IV} (h:(ivMeet a b).2=false):min a.hi.v b.hi.v<max a.lo.v b.lo.v:=by
 unfold ivMeet at h
 obtain⟨v1,v2⟩:=zfK a b
 split at h
 ·rename_i q;omega
 ·cases h
theorem zj2 {a b:IV} {f:FQ} (h:(ivMeet a b).2=true):ivHas (ivMeet a b).1 f↔ivHas a f∧ivHas b f:=by
 rw[zim h]
 obtain⟨v1,v2⟩:=zfK a b
 rw[zdU,zdU,zdU]
 omega
theorem zl5 {a b:IV} {f:FQ} (h:(ivMeet a b).2=false):¬(ivHas a f∧ivHas b f):=by
 have:=zl6 h
 have:=znC f
 rw[zdU,zdU]
 omega
def thrQ (a b c:FQ) (i:Nat):FQ:=if i=0 then a else if i=1 then b else c
theorem ztR (P:Nat→FQ):[PV.b (decide ((P 0).p.v<0)),D (P 0).p.v.natAbs,.b (decide ((P 0).l.v<0)),D (P 0).l.v.natAbs,.b (decide ((P 1).p.v<0)),D (P 1).p.v.natAbs,.b (decide ((P 1).l.v<0)),D (P 1).l.v.natAbs,.b (decide ((P 2).p.v<0)),D (P 2).p.v.natAbs,.b (decide ((P 2).l.v<0)),D (P 2).l.v.natAbs]=cg 3 (fun e=>qc (P e)):=rfl
set_option maxHeartbeats 8000000 in
theorem p_IvalLattice {xs:List Int} (hx:Ints xs) {k:Int} (hk:Fits64 k):pf E0 493 [ints xs,.i .i64 k]=some (.b true):=by
 have i1:=zc2 hx (i:=0) (by decide) (by decide)
 have i2:=zc2 hx (i:=6) (by decide) (by decide)
 have oa:=zkZ xs 0
 have ob:=zkZ xs 6
 have s2:=zdz hx (i:=2) (by decide)
 generalize inI xs 0=A at *
 generalize inI xs 6=B at *
 generalize smF xs 2=S2 at *
 have v1:=ziJ oa
 have v2:=ziJ ob
 have lv:=zkf
 have j1:=zd7 A hk
 have j2:=zd7 B hk
 generalize inF A k=Fa at *
 generalize inF B k=Fb at *
 have na:=zfh Fa
 have nb:=zfh Fb
 have nc:=zfh S2
 have u1:=zgA A B
 have u2:=zgA B A
 rw[zh2 B A] at u2
 have m1:=zgC A B
 have m2:=zgC B A
 rw[zil B A] at m2
 obtain⟨hl,hh⟩:=znL A B
 have wa:=zde A (ivHull A B)
 have wb:=zde B (ivHull A B)
 rw[decide_eq_true (show ivIn A (ivHull A B) from ⟨by omega,by omega⟩)] at wa
 rw[decide_eq_true (show ivIn B (ivHull A B) from ⟨by omega,by omega⟩)] at wb
 have hhas:∀f:FQ,ivHas A f→ivHas (ivHull A B) f:=fun f hf=>by
  rw[zdU] at *;omega
 have mhas:=fun f=>zj2 (a:=A) (b:=B) (f:=f)
 have mno:=fun f=>zl5 (a:=A) (b:=B) (f:=f)
 have min1:(ivMeet A B).2=true→pf E0 415 [ivP (ivMeet A B).1,ivP A]=some (.b true)∧pf E0 415 [ivP (ivMeet A B).1,ivP B]=some (.b true):=fun h=>by
  have e:=zim h
  obtain⟨z1,z2⟩:=zfK A B
  have w1:=zde (ivMeet A B).1 A
  have w2:=zde (ivMeet A B).1 B
  rw[decide_eq_true (show ivIn (ivMeet A B).1 A from by rw[e];exact⟨by omega,by omega⟩)] at w1
  rw[decide_eq_true (show ivIn (ivMeet A B).1 B from by rw[e];exact⟨by omega,by omega⟩)] at w2
  exact⟨w1,w2⟩
 generalize ivHull A B=H at *
 generalize ivMeet A B=R at *
 have t1:=zbz H
 have t2:=zbz R.1
 generalize ivTx H=th at *
 generalize ivTx R.1=tm at *
 obtain⟨P,hP⟩:∃P:Nat→FQ,P=thrQ Fa Fb S2:=⟨_,rfl⟩
 have p0:Fa=P 0:=by rw[hP];rfl
 have p1:Fb=P 1:=by rw[hP];rfl
 have p2:S2=P 2:=by rw[hP];rfl
 subst p0 p1 p2
 clear hP hl hh
 have nbb:∀b:Bool,(b==b)=true:=fun b=>by cases b<;>rfl
 refine zaa (xf:=zvF) rfl (by simp[zvF]) ?_
 simp only[zvF]
 obtain⟨m,is⟩:=R
 simp only at m1 m2 min1 mhas mno t2
 cases is with
 | true =>
  obtain⟨w1,w2⟩:=min1 rfl
  have mhas:=fun f=>mhas f rfl
  clear mno min1
  simp(disch:=omega)only[go_sem,seval,wqq,i1,i2,v1,v2,u1,u2,m1,m2]
  refine zag rfl ?_
  simp(disch:=omega)only[go_sem,seval,wqq,t1,t2,wa,wb,w1,w2,nbb,zir,Bool.not_true]
  simp(disch:=omega)only[go_sem,seval,wqq,i1,i2,j1,j2,na,nb,s2,nc,zaw,zah,ztR]
  refine zan zv4.eq_1 (fun(j:Nat) fr M=>j≤3∧fr 5=.p 0 0∧fr 6=.p 1 0∧fr 7=.p 2 0∧fr 9=.p 4 0∧fr 10=.b true∧fr 13=.sl 6 0 3 3 4∧fr 14=(PV.i .i64 ((j:Nat):Int))∧∃b3 b5 e1 e2 e3 e4 G,M=some ⟨(ivP A).cells,true,e1⟩::some ⟨(ivP B).cells,true,e2⟩::some ⟨(ivP H).cells,true,e3⟩::b3::some ⟨(ivP m).cells,true,e4⟩::b5::some ⟨cg 3 (fun e=>qc (P e)),true,0⟩::G) (fun j=>3-j) ?_ 0 ⟨by omega,by simp only[go_sem,seval],by simp only[go_sem,seval],by simp only[go_sem,seval],by simp only[go_sem,seval],by simp only[go_sem,seval],by simp only[go_sem,seval],by simp only[go_sem,seval],_,_,_,_,_,_,[],rfl⟩
  rintro j fr M ⟨hj,f5,f6,f7,f9,f10,f13,f14,b3,b5,e1,e2,e3,e4,G,rfl⟩ ih
  rcases Nat.lt_or_ge j 3 with h|h
  ·have q1:((j:Int)<3)=True:=eq_true (by omega)
   have qL:(j<3)=True:=eq_true h
   have cx:=zkO (k:=4) (f:=fun e=>qc (P e)) (fun _=>rfl) h
   have cl:(j*4+4≤(cg 3 fun e=>qc (P e)).length)=True:=eq_true (by rw[zhs (k:=4) (fun _=>rfl)];exact znp h)
   have a1:=zcP A (P j)
   have a2:=zcP B (P j)
   have a3:=zcP m (P j)
   have a4:=zcP H (P j)
   have mh:=mhas (P j)
   have hh:=hhas (P j)
   clear mhas hhas
   generalize P j=f at *
   by_cases ha:ivHas A f
   ·rw[decide_eq_true ha] at a1
    rw[decide_eq_true (hh ha)] at a4
    by_cases hb:ivHas B f
    ·rw[decide_eq_true hb] at a2
     rw[decide_eq_true (mh.2 ⟨ha,hb⟩)] at a3
     simp(disch:=omega)only[go_sem,seval,wqq,f5,f6,f7,f9,f10,f13,f14,q1,qL,cx,cl,zoJ,a1,a2,a3,a4,nbb,Bool.not_true,beq_self_eq_true,mG,mG0,sG,sG0,lG,lqq]
     exact ih (j+1) _ _ (by omega) ⟨by omega,by simp only[go_sem,seval,f5],by simp only[go_sem,seval,f6],by simp only[go_sem,seval,f7],by simp only[go_sem,seval,f9],by simp only[go_sem,seval,f10],by simp only[go_sem,seval,f13],by simp only[go_sem,seval];rw[Int.natCast_succ],_,_,_,_,_,_,_,rfl⟩
    ·rw[decide_eq_false hb] at a2
     rw[decide_eq_false (fun q=>hb (mh.1 q).2)] at a3
     simp(disch:=omega)only[go_sem,seval,wqq,f5,f6,f7,f9,f10,f13,f14,q1,qL,cx,cl,zoJ,a1,a2,a3,a4,nbb,Bool.not_true,beq_self_eq_true,mG,mG0,sG,sG0,lG,lqq]
     exact ih (j+1) _ _ (by omega) ⟨by omega,by simp only[go_sem,seval,f5],by simp only[go_sem,seval,f6],by simp only[go_sem,seval,f7],by simp only[go_sem,seval,f9],by simp only[go_sem,seval,f10],by simp only[go_sem,seval,f13],by simp only[go_sem,seval];rw[Int.natCast_succ],_,_,_,_,_,_,_,rfl⟩
   ·rw[decide_eq_false ha] at a1
    rw[decide_eq_false (fun q=>ha (mh.1 q).1)] at a3
    simp(disch:=omega)only[go_sem,seval,wqq,f5,f6,f7,f9,f10,f13,f14,q1,qL,cx,cl,zoJ,a1,a3,nbb,Bool.not_true,beq_self_eq_true,mG,mG0,sG,sG0,lG,lqq]
    exact ih (j+1) _ _ (by omega) ⟨by omega,by simp only[go_sem,seval,f5],by simp only[go_sem,seval,f6],by simp only[go_sem,seval,f7],by simp only[go_sem,seval,f9],by simp only[go_sem,seval,f10],by simp only[go_sem,seval,f13],by simp only[go_sem,seval];rw[Int.natCast_succ],_,_,_,_,_,_,_,rfl⟩
  ·obtain rfl:j=3:=by omega
   have q1:(((3:Nat):Int)<3)=False:=by simp
   simp(disch:=omega)only[go_sem,seval,wqq,f5,f6,f7,f9,f10,f13,f14,q1,lv,mG,mG0,sG,sG0,lG,lqq]
 | false =>
  have mno:=fun f=>mno f rfl
  clear mhas min1
  simp(disch:=omega)only[go_sem,seval,wqq,i1,i2,v1,v2,u1,u2,m1,m2]
  refine zag rfl ?_
  simp(disch:=omega)only[go_sem,seval,wqq,t1,t2,wa,wb,nbb,zir,Bool.not_true]
  simp(disch:=omega)only[go_sem,seval,wqq,i1,i2,j1,j2,na,nb,s2,nc,zaw,zah,ztR]
  refine zan zv4.eq_1 (fun(j:Nat) fr M=>j≤3∧fr 5=.p 0 0∧fr 6=.p 1 0∧fr 7=.p 2 0∧fr 9=.p 4 0∧fr 10=.b false∧fr 13=.sl 6 0 3 3 4∧fr 14=(PV.i .i64 ((j:Nat):Int))∧∃b3 b5 e1 e2 e3 e4 G,M=some ⟨(ivP A).cells,true,e1⟩::some ⟨(ivP B).cells,true,e2⟩::some ⟨(ivP H).cells,true,e3⟩::b3::some ⟨(ivP m).cells,true,e4⟩::b5::some ⟨cg 3 (fun e=>qc (P e)),true,0⟩::G) (fun j=>3-j) ?_ 0 ⟨by omega,by simp only[go_sem,seval],by simp only[go_sem,seval],by simp only[go_sem,seval],by simp only[go_sem,seval],by simp only[go_sem,seval],by simp only[go_sem,seval],by simp only[go_sem,seval],_,_,_,_,_,_,[],rfl⟩
  rintro j fr M ⟨hj,f5,f6,f7,f9,f10,f13,f14,b3,b5,e1,e2,e3,e4,G,rfl⟩ ih
  rcases Nat.lt_or_ge j 3 with h|h
  ·have q1:((j:Int)<3)=True:=eq_true (by omega)
   have qL:(j<3)=True:=eq_true h
   have cx:=zkO (k:=4) (f:=fun e=>qc (P e)) (fun _=>rfl) h
   have cl:(j*4+4≤(cg 3 fun e=>qc (P e)).length)=True:=eq_true (by rw[zhs (k:=4) (fun _=>rfl)];exact znp h)
   have a1:=zcP A (P j)
   have a2:=zcP B (P j)
   have mh:=mno (P j)
   clear mno hhas
   generalize P j=f at *
   by_cases ha:ivHas A f
   ·rw[decide_eq_true ha] at a1
    rw[decide_eq_false (fun q=>mh ⟨ha,q⟩)] at a2
    simp(disch:=omega)only[go_sem,seval,wqq,f5,f6,f7,f9,f10,f13,f14,q1,qL,cx,cl,zoJ,a1,a2,nbb,Bool.not_true,beq_self_eq_true,mG,mG0,sG,sG0,lG,lqq]
    exact ih (j+1) _ _ (by omega) ⟨by omega,by simp only[go_sem,seval,f5],by simp only[go_sem,seval,f6],by simp only[go_sem,seval,f7],by simp only[go_sem,seval,f9],by simp only[go_sem,seval,f10],by simp only[go_sem,seval,f13],by simp only[go_sem,seval];rw[Int.natCast_succ],_,_,_,_,_,_,_,rfl⟩
   ·rw[decide_eq_false ha] at a1
    simp(disch:=omega)only[go_sem,seval,wqq,f5,f6,f7,f9,f10,f13,f14,q1,qL,cx,cl,zoJ,a1,nbb,Bool.not_true,beq_self_eq_true,mG,mG0,sG,sG0,lG,lqq]
    exact ih (j+1) _ _ (by omega) ⟨by omega,by simp only[go_sem,seval,f5],by simp only[go_sem,seval,f6],by simp only[go_sem,seval,f7],by simp only[go_sem,seval,f9],by simp only[go_sem,seval,f10],by simp only[go_sem,seval,f13],by simp only[go_sem,seval];rw[Int.natCast_succ],_,_,_,_,_,_,_,rfl⟩
  ·obtain rfl:j=3:=by omega
   have q1:(((3:Nat):Int)<3)=False:=by simp
   simp(disch:=omega)only[go_sem,seval,wqq,f5,f6,f7,f9,f10,f13,f14,q1,lv,mG,mG0,sG,sG0,lG,lqq]
end Go.Eng
