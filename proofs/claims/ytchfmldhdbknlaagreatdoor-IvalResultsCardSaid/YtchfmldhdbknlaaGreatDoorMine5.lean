/- The engine and the contracts on which the statement stands: no conditions of its own. -/
import Derived.Test.YtchfmldhdbknlaaGreatDoorMine4
set_option linter.unusedSimpArgs false
set_option linter.unusedVariables false
set_option linter.unusedSectionVars false
namespace Go.Eng
def minN (f:Nat→Int):Nat→Int
 | 0=>0
 | 1=>f 0
 | k+2=>min2 (minN f (k+1)) (f (k+1))
def maxN (f:Nat→Int):Nat→Int
 | 0=>0
 | 1=>f 0
 | k+2=>max2 (maxN f (k+1)) (f (k+1))
theorem zlc (f:Nat→Int) {k:Nat} (h:1≤k):minN f (k+1)=min2 (minN f k) (f k):=by
 obtain⟨j,rfl⟩:∃j,k=j+1:=⟨k-1,by omega⟩
 rfl
theorem zk9 (f:Nat→Int) {k:Nat} (h:1≤k):maxN f (k+1)=max2 (maxN f k) (f k):=by
 obtain⟨j,rfl⟩:∃j,k=j+1:=⟨k-1,by omega⟩
 rfl
theorem zld {f:Nat→Int} {N:Nat} (hf:∀i,tlen (f i).natAbs<N):∀k,1≤k→tlen (minN f k).natAbs<N
 | 1,_=>hf 0
 | k+2,_=>by
  rw[zlc f (by omega)]
  unfold min2
  split
  ·exact hf _
  ·exact zld hf (k+1) (by omega)
theorem zla {f:Nat→Int} {N:Nat} (hf:∀i,tlen (f i).natAbs<N):∀k,1≤k→tlen (maxN f k).natAbs<N
 | 1,_=>hf 0
 | k+2,_=>by
  rw[zk9 f (by omega)]
  unfold max2
  split
  ·exact hf _
  ·exact zla hf (k+1) (by omega)
noncomputable def nL (N:Nat) (P:Nat→Int):List PV:=(List.range N).map fun i=>nP (P i)
theorem zj2 {N i:Nat} (P:Nat→Int) (h:i<N):(nL N P)[i]?=some (nP (P i)):=by
 unfold nL;rw[List.getElem?_map,List.getElem?_range h];rfl
theorem zoc (N:Nat) (P:Nat→Int):(nL N P).length=N:=by simp[nL]
theorem zoE {N:Nat} (h1:1≤N) (hN:N≤100) (P Q:Nat→Int) (hq:∀i,Q i≠0) (lp:∀i,tlen (P i).natAbs<40000) (lq:∀i,tlen (Q i).natAbs<40000) :
  pf E0 383 [.lst (nL N P),.lst (nL N Q)]=some (.tu [nP (minN (fun i=>flI (sgA (P i) (Q i)) (sgB (Q i))) N),nP (maxN (fun i=>ceI (sgA (P i) (Q i)) (sgB (Q i))) N)]):=by
 have fl:∀i,pf E0 364 [nP (P i),nP (Q i)]=some (nP (flI (sgA (P i) (Q i)) (sgB (Q i)))):=fun i=>zdH (hq i) (by have:=lp i;omega) (by have:=lq i;omega)
 have ce:∀i,pf E0 365 [nP (P i),nP (Q i)]=some (nP (ceI (sgA (P i) (Q i)) (sgB (Q i)))):=fun i=>zgC (hq i) (by have:=lp i;omega) (by have:=lq i;omega)
 obtain⟨f,hf⟩:∃f:Nat→Int,f=fun i=>flI (sgA (P i) (Q i)) (sgB (Q i)):=⟨_,rfl⟩
 obtain⟨c,hc⟩:∃c:Nat→Int,c=fun i=>ceI (sgA (P i) (Q i)) (sgB (Q i)):=⟨_,rfl⟩
 have lf:∀i,tlen (f i).natAbs<40000:=fun i=>by rw[hf];exact zje (zkH (lp i))
 have lc:∀i,tlen (c i).natAbs<40000:=fun i=>by rw[hc];exact zkG (zkH (lp i))
 have mt:=fun k hk=>zld lf k hk
 have xt:=fun k hk=>zla lc k hk
 rw[←hf,←hc]
 have fl:∀i,pf E0 364 [nP (P i),nP (Q i)]=some (nP (f i)):=fun i=>by rw[fl i,hf]
 have ce:∀i,pf E0 365 [nP (P i),nP (Q i)]=some (nP (c i)):=fun i=>by rw[ce i,hc]
 clear hf hc
 have m0:minN f 1=f 0:=rfl
 have x0:maxN c 1=c 0:=rfl
 have p0:=zj2 P (show 0<N by omega)
 have q0:=zj2 Q (show 0<N by omega)
 have ln:((nL N P).length:Int)=(N:Int):=by rw[zoc]
 have pa:∀i,i<N→(nL N P)[i]?=some (nP (P i)):=fun i h=>zj2 P h
 have qa:∀i,i<N→(nL N Q)[i]?=some (nP (Q i)):=fun i h=>zj2 Q h
 generalize nL N P=LP at *
 generalize nL N Q=LQ at *
 refine zaa (xf:=zwH) rfl (by simp[zwH]) ?_
 simp only[zwH]
 have fl0:=fl 0
 have ce0:=ce 0
 rw[←m0] at fl0
 rw[←x0] at ce0
 generalize hz:minN f 1=lo0 at *
 generalize hy:maxN c 1=hi0 at *
 generalize P 0=P0 at *
 generalize Q 0=Q0 at *
 simp(disch:=omega)only[go_sem,seval,wqq]
 simp(disch:=omega)only[go_sem,seval,wqq,p0,q0,fl0,ce0]
 refine zan zxy.eq_1 (fun(i:Nat) fr M=>1≤i∧i≤N∧fr 0=.lst LP∧fr 1=.lst LQ∧fr 4=.p 0 0∧fr 5=.p 1 0∧fr 6=.p 2 0∧fr 7=.p 3 0∧fr 8=(PV.i .i64 ((i:Nat):Int))∧∃v w G,M=some ⟨[.b false,.nl],true,0⟩::some ⟨[.b false,.nl],true,0⟩::some ⟨(nP (minN f i)).cells,true,v⟩::some ⟨(nP (maxN c i)).cells,true,w⟩::G) (fun i=>N-i) ?_ 1 ⟨by omega,by omega,by simp only[go_sem,seval],by simp only[go_sem,seval],by simp only[go_sem,seval],by simp only[go_sem,seval],by simp only[go_sem,seval],by simp only[go_sem,seval],by simp only[go_sem,seval],_,_,[],by rw[hz,hy];rfl⟩
 clear fl0 ce0 p0 q0 m0 x0
 rintro i fr M ⟨i1,hi,f0,f1,f4,f5,f6,f7,f8,v,w,G,rfl⟩ ih
 by_cases h:i<N
 ·have q1:((i:Int)<(N:Int))=True:=by simp;omega
  have pi:=pa i h
  have qi:=qa i h
  have fli:=fl i
  have cei:=ce i
  have c1:=zaC (f i) (minN f i) (by have:=lf i;omega) (by have:=mt i i1;omega)
  have c2:=zaC (c i) (maxN c i) (by have:=lc i;omega) (by have:=xt i i1;omega)
  have s1:=zlc f i1
  have s2:=zk9 c i1
  unfold min2 at s1
  unfold max2 at s2
  have k1:∀a b:Int,(cmpI a b<0)↔a<b:=fun a b=>by unfold cmpI;split<;>(try split)<;>omega
  have k2:∀a b:Int,(0<cmpI a b)↔b<a:=fun a b=>by unfold cmpI;split<;>(try split)<;>omega
  have e1:(cmpI (f i) (minN f i)<0)=(f i<minN f i):=propext (k1 _ _)
  have e2:(0<cmpI (c i) (maxN c i))=(maxN c i<c i):=propext (k2 _ _)
  generalize hA:minN f i=A at *
  generalize hB:maxN c i=B at *
  generalize hA':minN f (i+1)=A' at *
  generalize hB':maxN c (i+1)=B' at *
  generalize f i=x at *
  generalize c i=y at *
  generalize P i=Pi at *
  generalize Q i=Qi at *
  clear k1 k2
  by_cases hx:x<A
  ·rw[if_pos hx] at s1
   have hx:(x<A)=True:=eq_true hx
   by_cases hy2:B<y
   ·rw[if_pos hy2] at s2
    have hy2:(B<y)=True:=eq_true hy2
    simp(disch:=omega)only[go_sem,seval,wqq,ln,f0,f1,f4,f5,f6,f7,f8,q1,pi,qi,fli,cei,c1,c2,e1,e2,hx,hy2,mG,mG0,sG,sG0,lG,lqq]
    exact ih (i+1) _ _ (by omega) ⟨by omega,by omega,by simp only[go_sem,seval,f0],by simp only[go_sem,seval,f1],by simp only[go_sem,seval,f4],by simp only[go_sem,seval,f5],by simp only[go_sem,seval,f6],by simp only[go_sem,seval,f7],by simp only[go_sem,seval];rw[Int.natCast_succ],_,_,_,by rw[hA',hB',s1,s2];rfl⟩
   ·rw[if_neg hy2] at s2
    have hy2:(B<y)=False:=eq_false hy2
    simp(disch:=omega)only[go_sem,seval,wqq,ln,f0,f1,f4,f5,f6,f7,f8,q1,pi,qi,fli,cei,c1,c2,e1,e2,hx,hy2,mG,mG0,sG,sG0,lG,lqq]
    exact ih (i+1) _ _ (by omega) ⟨by omega,by omega,by simp only[go_sem,seval,f0],by simp only[go_sem,seval,f1],by simp only[go_sem,seval,f4],by simp only[go_sem,seval,f5],by simp only[go_sem,seval,f6],by simp only[go_sem,seval,f7],by simp only[go_sem,seval];rw[Int.natCast_succ],_,_,_,by rw[hA',hB',s1,s2];rfl⟩
  ·rw[if_neg hx] at s1
   have hx:(x<A)=False:=eq_false hx
   by_cases hy2:B<y
   ·rw[if_pos hy2] at s2
    have hy2:(B<y)=True:=eq_true hy2
    simp(disch:=omega)only[go_sem,seval,wqq,ln,f0,f1,f4,f5,f6,f7,f8,q1,pi,qi,fli,cei,c1,c2,e1,e2,hx,hy2,mG,mG0,sG,sG0,lG,lqq]
    exact ih (i+1) _ _ (by omega) ⟨by omega,by omega,by simp only[go_sem,seval,f0],by simp only[go_sem,seval,f1],by simp only[go_sem,seval,f4],by simp only[go_sem,seval,f5],by simp only[go_sem,seval,f6],by simp only[go_sem,seval,f7],by simp only[go_sem,seval];rw[Int.natCast_succ],_,_,_,by rw[hA',hB',s1,s2];rfl⟩
   ·rw[if_neg hy2] at s2
    have hy2:(B<y)=False:=eq_false hy2
    simp(disch:=omega)only[go_sem,seval,wqq,ln,f0,f1,f4,f5,f6,f7,f8,q1,pi,qi,fli,cei,c1,c2,e1,e2,hx,hy2,mG,mG0,sG,sG0,lG,lqq]
    exact ih (i+1) _ _ (by omega) ⟨by omega,by omega,by simp only[go_sem,seval,f0],by simp only[go_sem,seval,f1],by simp only[go_sem,seval,f4],by simp only[go_sem,seval,f5],by simp only[go_sem,seval,f6],by simp only[go_sem,seval,f7],by simp only[go_sem,seval];rw[Int.natCast_succ],_,_,_,by rw[hA',hB',s1,s2];rfl⟩
 ·have q1:((i:Int)<(N:Int))=False:=by simp;omega
  obtain rfl:i=N:=by omega
  generalize minN f i=A at *
  generalize maxN c i=B at *
  simp(disch:=omega)only[go_sem,seval,wqq,f0,f1,f4,f5,f6,f7,f8,q1,ln,mG,mG0,sG,sG0,lG,lqq]
  refine zdq [6,7] [4] rfl ?_ ?_
  ·simp(disch:=omega)only[go_sem,seval,wqq,f4,f5,f6,f7,mG,mG0,sG,sG0,lG,lqq]
   exact⟨_,rfl,rfl⟩
  simp(disch:=omega)only[go_sem,seval,wqq,f4,f5,f6,f7,mG,mG0,sG,sG0,lG,lqq]
theorem zl2 (a b c d:Int):group 2 4 [PV.b (decide (a<0)),Tw (tlen a.natAbs) a.natAbs,PV.b (decide (b<0)),Tw (tlen b.natAbs) b.natAbs,PV.b (decide (c<0)),Tw (tlen c.natAbs) c.natAbs,PV.b (decide (d<0)),Tw (tlen d.natAbs) d.natAbs]=[nP a,nP b,nP c,nP d]:=_root_.id rfl
def pick4 (a b c d:Int) (i:Nat):Int:=if i=0 then a else if i=1 then b else if i=2 then c else d
theorem ziQ {a b c d:Int} {N:Nat} (ha:tlen a.natAbs<N) (hb:tlen b.natAbs<N) (hc:tlen c.natAbs<N) (hd:tlen d.natAbs<N) (i:Nat):tlen (pick4 a b c d i).natAbs<N:=by
 unfold pick4;split<;>(try split)<;>(try split)<;>assumption
theorem zmS {a b c d:Int} (ha:a≠0) (hb:b≠0) (hc:c≠0) (hd:d≠0) (i:Nat):pick4 a b c d i≠0:=by
 unfold pick4;split<;>(try split)<;>(try split)<;>assumption
theorem ziC {a b c d p q r s:Int} (ha:tlen a.natAbs<40000) (hb:tlen b.natAbs<40000) (hc:tlen c.natAbs<40000) (hd:tlen d.natAbs<40000) (hp:tlen p.natAbs<40000) (hq:tlen q.natAbs<40000) (hr:tlen r.natAbs<40000) (hs:tlen s.natAbs<40000)
  (np:p≠0) (nq:q≠0) (nr:r≠0) (ns:s≠0):pf E0 383 [.lst [nP a,nP b,nP c,nP d],.lst [nP p,nP q,nP r,nP s]] =
  some (.tu [nP (min4 (flI (sgA a p) (sgB p)) (flI (sgA b q) (sgB q)) (flI (sgA c r) (sgB r)) (flI (sgA d s) (sgB s))),nP (max4 (ceI (sgA a p) (sgB p)) (ceI (sgA b q) (sgB q)) (ceI (sgA c r) (sgB r)) (ceI (sgA d s) (sgB s)))]) :=
 zoE (N:=4) (by decide) (by decide) (pick4 a b c d) (pick4 p q r s) (zmS np nq nr ns) (ziQ ha hb hc hd) (ziQ hp hq hr hs)
theorem zmK (x y:IV):pf E0 369 [rvP x,rvP y]=some (.tu [rvP (ivMul x y).1,.i .i64 (ivMul x y).2]):=by
 have hp:=zdn
 have t1:=za0 x.lo
 have t2:=za0 x.hi
 have t3:=za0 y.lo
 have t4:=za0 y.hi
 have ts:=zsx
 have m1:=zbD x.lo.v y.lo.v (by omega) (by omega)
 have m2:=zbD x.lo.v y.hi.v (by omega) (by omega)
 have m3:=zbD x.hi.v y.lo.v (by omega) (by omega)
 have m4:=zbD x.hi.v y.hi.v (by omega) (by omega)
 have s1:=zaH x.lo.v y.lo.v
 have s2:=zaH x.lo.v y.hi.v
 have s3:=zaH x.hi.v y.lo.v
 have s4:=zaH x.hi.v y.hi.v
 have en:=ziC (a:=x.lo.v*y.lo.v) (b:=x.lo.v*y.hi.v) (c:=x.hi.v*y.lo.v) (d:=x.hi.v*y.hi.v) (p:=4294967296) (q:=4294967296) (r:=4294967296) (s:=4294967296) (by omega) (by omega) (by omega) (by omega) (by omega) (by omega) (by omega) (by omega) (by decide) (by decide) (by decide) (by decide)
 have sg:∀z:Int,sgA z 4294967296=z:=fun z=>(zgR (b:=4294967296) (by decide)).1
 have sb:sgB 4294967296=4294967296:=(zgR (a:=0) (b:=4294967296) (by decide)).2
 simp only[sg,sb] at en
 have tl:tlen (mulLo x y).natAbs<40000:=by
  rcases zih (flI (x.lo.v*y.lo.v) 4294967296) (flI (x.lo.v*y.hi.v) 4294967296) (flI (x.hi.v*y.lo.v) 4294967296) (flI (x.hi.v*y.hi.v) 4294967296) with h|h|h|h<;>(unfold mulLo;rw[h];exact zje (by omega))
 have th:tlen (mulHi x y).natAbs<40000:=by
  rcases zie (ceI (x.lo.v*y.lo.v) 4294967296) (ceI (x.lo.v*y.hi.v) 4294967296) (ceI (x.hi.v*y.lo.v) 4294967296) (ceI (x.hi.v*y.hi.v) 4294967296) with h|h|h|h<;>(unfold mulHi;rw[h];exact zkG (by omega))
 have md:=zcG (x:=mulLo x y) (y:=mulHi x y) (by omega) (by omega)
 have en:pf E0 383 [.lst [nP (x.lo.v*y.lo.v),nP (x.lo.v*y.hi.v),nP (x.hi.v*y.lo.v),nP (x.hi.v*y.hi.v)],.lst [nP 4294967296,nP 4294967296,nP 4294967296,nP 4294967296]]=some (.tu [nP (mulLo x y),nP (mulHi x y)]):=en
 unfold ivMul
 generalize mdI (mulLo x y) (mulHi x y)=R at *
 generalize mulLo x y=u at *
 generalize mulHi x y=v at *
 generalize x.lo.v*y.lo.v=a at *
 generalize x.lo.v*y.hi.v=b at *
 generalize x.hi.v*y.lo.v=c at *
 generalize x.hi.v*y.hi.v=d at *
 obtain⟨s,hs⟩:∃s:Int,s=4294967296:=⟨_,rfl⟩
 rw[←hs] at hp en
 clear hs sg sb
 refine zaa (xf:=zxb) rfl (by simp[zxb]) ?_
 simp only[zxb]
 simp(disch:=omega)only[go_sem,seval,wqq,hp]
 refine zaf rfl ?_
 simp(disch:=omega)only[go_sem,seval,wqq,m1,m2,m3,m4,zao,zae,zl2,en,md]
end Go.Eng
set_option maxRecDepth 10000
namespace Go.Eng
theorem zdh (a b:WI) (ha:inB a.v) (hb:b.v≠0):∃q:WI,q.v=dFl a.v b.v∧pf E0 382 [wiP a,wiP b,.fp [.fn 296 [],.fn 297 []]]=some (wiP q):=by
 have sb:=zbW b
 by_cases h:b.v<0
 ·have n1:=zdT a
  have n2:=zdT b
  have nv:a.neg.v = -a.v:=rfl
  have bv:b.neg.v = -b.v:=rfl
  have t0:(cmpI b.v 0<0)=True:=by unfold cmpI;rw[if_pos h];simp
  have s1:=zch (x:=a.neg)
  have hs:wlen (a.neg.v*4294967296).natAbs≤512:=zgk (by rw[nv];exact zez.2 ha)
  rw[zaM hs] at s1
  have cv:=za4 hs
  have dv:dFl a.v b.v=flI (a.neg.v*4294967296) b.neg.v:=by unfold dFl sgA sgB;rw[if_pos h,if_pos h];rfl
  rw[dv]
  generalize clip (a.neg.v*4294967296)=z at *
  generalize a.neg=u at *
  generalize b.neg=w at *
  obtain⟨q,qv,fl⟩:∃q:WI,q.v=flI (u.v*4294967296) w.v∧pf E0 296 [wiP z,wiP w]=some (.tu [wiP q,.i .i64 0]):=⟨_,by show z.v/w.v=_;rw[cv];rfl,zcF z w (by omega)⟩
  refine⟨q,qv,?_⟩
  refine zaa (xf:=zu6) rfl (by simp[zu6]) ?_
  simp only[zu6]
  simp(disch:=omega)only[go_sem,seval,wqq,sb,t0]
  refine zaf rfl ?_
  simp(disch:=omega)only[go_sem,seval,wqq,n1,n2,s1,fl]
 ·have t0:(cmpI b.v 0<0)=False:=by unfold cmpI;rw[if_neg h];split<;>simp
  have s1:=zch (x:=a)
  have hs:wlen (a.v*4294967296).natAbs≤512:=zgk ha
  rw[zaM hs] at s1
  have cv:=za4 hs
  have dv:dFl a.v b.v=flI (a.v*4294967296) b.v:=by unfold dFl sgA sgB;rw[if_neg h,if_neg h]
  rw[dv]
  have bv:b.v=b.v:=rfl
  generalize clip (a.v*4294967296)=z at *
  obtain⟨q,qv,fl⟩:∃q:WI,q.v=flI (a.v*4294967296) b.v∧pf E0 296 [wiP z,wiP b]=some (.tu [wiP q,.i .i64 0]):=⟨_,by show z.v/b.v=_;rw[cv];rfl,zcF z b (by omega)⟩
  refine⟨q,qv,?_⟩
  refine zaa (xf:=zu6) rfl (by simp[zu6]) ?_
  simp only[zu6]
  simp(disch:=omega)only[go_sem,seval,wqq,sb,t0,s1,fl]
theorem zdi (a b:WI) (ha:inB a.v) (hb:b.v≠0):∃q:WI,q.v=dCe a.v b.v∧pf E0 382 [wiP a,wiP b,.fp [.fn 298 [],.fn 299 []]]=some (wiP q):=by
 have sb:=zbW b
 by_cases h:b.v<0
 ·have n1:=zdT a
  have n2:=zdT b
  have nv:a.neg.v = -a.v:=rfl
  have bv:b.neg.v = -b.v:=rfl
  have t0:(cmpI b.v 0<0)=True:=by unfold cmpI;rw[if_pos h];simp
  have s1:=zch (x:=a.neg)
  have hs:wlen (a.neg.v*4294967296).natAbs≤512:=zgk (by rw[nv];exact zez.2 ha)
  rw[zaM hs] at s1
  have cv:=za4 hs
  have dv:dCe a.v b.v=ceI (a.neg.v*4294967296) b.neg.v:=by unfold dCe sgA sgB;rw[if_pos h,if_pos h];rfl
  rw[dv]
  generalize clip (a.neg.v*4294967296)=z at *
  generalize a.neg=u at *
  generalize b.neg=w at *
  obtain⟨q,qv,fl⟩:=zdj z w (by omega)
  rw[cv] at qv
  refine⟨q,qv,?_⟩
  refine zaa (xf:=zu6) rfl (by simp[zu6]) ?_
  simp only[zu6]
  simp(disch:=omega)only[go_sem,seval,wqq,sb,t0]
  refine zaf rfl ?_
  simp(disch:=omega)only[go_sem,seval,wqq,n1,n2,s1,fl]
 ·have t0:(cmpI b.v 0<0)=False:=by unfold cmpI;rw[if_neg h];split<;>simp
  have s1:=zch (x:=a)
  have hs:wlen (a.v*4294967296).natAbs≤512:=zgk ha
  rw[zaM hs] at s1
  have cv:=za4 hs
  have dv:dCe a.v b.v=ceI (a.v*4294967296) b.v:=by unfold dCe sgA sgB;rw[if_neg h,if_neg h]
  rw[dv]
  have bv:b.v=b.v:=rfl
  generalize clip (a.v*4294967296)=z at *
  obtain⟨q,qv,fl⟩:=zdj z b (by omega)
  rw[cv] at qv
  refine⟨q,qv,?_⟩
  refine zaa (xf:=zu6) rfl (by simp[zu6]) ?_
  simp only[zu6]
  simp(disch:=omega)only[go_sem,seval,wqq,sb,t0,s1,fl]
theorem zkb (x y:IV) {q1 q2 q3 q4:WI} (h1:pf E0 382 [wiP x.lo,wiP y.lo,.fp [.fn 296 [],.fn 297 []]]=some (wiP q1)) (h2:pf E0 382 [wiP x.lo,wiP y.hi,.fp [.fn 296 [],.fn 297 []]]=some (wiP q2))
  (h3:pf E0 382 [wiP x.hi,wiP y.lo,.fp [.fn 296 [],.fn 297 []]]=some (wiP q3)) (h4:pf E0 382 [wiP x.hi,wiP y.hi,.fp [.fn 296 [],.fn 297 []]]=some (wiP q4)) :
  pf E0 381 [.ag [.fn 296 [],.fn 297 []],ivP x,ivP y,.fn 382 [.fp [.fn 296 [],.fn 297 []]]]=some (wiP (mnU (mnU (mnU q1 q2) q3) q4)):=by
 have b:=ziz q1 [q2,q3,q4] (by simp)
 simp only[List.map_cons,List.map_nil,List.foldl_cons,List.foldl_nil] at b
 generalize mnU (mnU (mnU q1 q2) q3) q4=R at *
 refine zaa (xf:=zu1) rfl (by simp[zu1]) ?_
 simp only[zu1]
 simp(disch:=omega)only[go_sem,seval,wqq]
 refine zbo [10,16,22,28] rfl ?_ ?_
 ·simp(disch:=omega)only[go_sem,seval,wqq,h1,h2,h3,h4,b,zao,zae,zk2]
  exact⟨_,rfl,rfl⟩
 simp(disch:=omega)only[go_sem,seval,wqq,h1,h2,h3,h4,b,zao,zae,zk2]
theorem zkc (x y:IV) {q1 q2 q3 q4:WI} (h1:pf E0 382 [wiP x.lo,wiP y.lo,.fp [.fn 298 [],.fn 299 []]]=some (wiP q1)) (h2:pf E0 382 [wiP x.lo,wiP y.hi,.fp [.fn 298 [],.fn 299 []]]=some (wiP q2))
  (h3:pf E0 382 [wiP x.hi,wiP y.lo,.fp [.fn 298 [],.fn 299 []]]=some (wiP q3)) (h4:pf E0 382 [wiP x.hi,wiP y.hi,.fp [.fn 298 [],.fn 299 []]]=some (wiP q4)) :
  pf E0 381 [.ag [.fn 298 [],.fn 299 []],ivP x,ivP y,.fn 382 [.fp [.fn 298 [],.fn 299 []]]]=some (wiP (mxU (mxU (mxU q1 q2) q3) q4)):=by
 have b:=ziA q1 [q2,q3,q4] (by simp)
 simp only[List.map_cons,List.map_nil,List.foldl_cons,List.foldl_nil] at b
 generalize mxU (mxU (mxU q1 q2) q3) q4=R at *
 refine zaa (xf:=zu1) rfl (by simp[zu1]) ?_
 simp only[zu1]
 simp(disch:=omega)only[go_sem,seval,wqq]
 refine zbo [10,16,22,28] rfl ?_ ?_
 ·simp(disch:=omega)only[go_sem,seval,wqq,h1,h2,h3,h4,b,zao,zae,zk2]
  exact⟨_,rfl,rfl⟩
 simp(disch:=omega)only[go_sem,seval,wqq,h1,h2,h3,h4,b,zao,zae,zk2]
theorem zms (x y:IV) (n1:y.lo.v≠0) (n2:y.hi.v≠0):∃q:WI,q.v=divLo x y∧pf E0 380 [.ag [.fn 296 [],.fn 297 []],.fp (ivP x).cells,.fp (ivP y).cells]=some (wiP q):=by
 obtain⟨q1,v1,h1⟩:=zdh x.lo y.lo x.l n1
 obtain⟨q2,v2,h2⟩:=zdh x.lo y.hi x.l n2
 obtain⟨q3,v3,h3⟩:=zdh x.hi y.lo x.h n1
 obtain⟨q4,v4,h4⟩:=zdh x.hi y.hi x.h n2
 have f:=zkb x y h1 h2 h3 h4
 have e:(mnU (mnU (mnU q1 q2) q3) q4).v=divLo x y:=by
  rw[zg8,zg8,zg8,v1,v2,v3,v4];rfl
 generalize mnU (mnU (mnU q1 q2) q3) q4=R at *
 refine⟨R,e,?_⟩
 refine zaa (xf:=zvw) rfl (by simp[zvw]) ?_
 simp only[zvw]
 simp(disch:=omega)only[go_sem,seval,wqq,f]
theorem zmt (x y:IV) (n1:y.lo.v≠0) (n2:y.hi.v≠0):∃q:WI,q.v=divHi x y∧pf E0 380 [.ag [.fn 298 [],.fn 299 []],.fp (ivP x).cells,.fp (ivP y).cells]=some (wiP q):=by
 obtain⟨q1,v1,h1⟩:=zdi x.lo y.lo x.l n1
 obtain⟨q2,v2,h2⟩:=zdi x.lo y.hi x.l n2
 obtain⟨q3,v3,h3⟩:=zdi x.hi y.lo x.h n1
 obtain⟨q4,v4,h4⟩:=zdi x.hi y.hi x.h n2
 have f:=zkc x y h1 h2 h3 h4
 have e:(mxU (mxU (mxU q1 q2) q3) q4).v=divHi x y:=by
  rw[zg9,zg9,zg9,v1,v2,v3,v4];rfl
 generalize mxU (mxU (mxU q1 q2) q3) q4=R at *
 refine⟨R,e,?_⟩
 refine zaa (xf:=zvw) rfl (by simp[zvw]) ?_
 simp only[zvw]
 simp(disch:=omega)only[go_sem,seval,wqq,f]
theorem ziG (x y:IV) (hy:y.ok):pf E0 367 [ivP x,ivP y]=some (.tu [ivP (ivDiv x y).1,.i .i64 (ivDiv x y).2]):=by
 have s1:=zbW y.lo
 have s2:=zbW y.hi
 have k1:∀a:Int,(cmpI a 0≤0)↔a≤0:=fun a=>by unfold cmpI;split<;>(try split)<;>omega
 have k2:∀a:Int,(0≤cmpI a 0)↔0≤a:=fun a=>by unfold cmpI;split<;>(try split)<;>omega
 unfold ivDiv
 by_cases h:has0 y
 ·rw[if_pos h]
  have q1:(cmpI y.lo.v 0≤0)=True:=eq_true ((k1 _).2 h.1)
  have q2:(0≤cmpI y.hi.v 0)=True:=eq_true ((k2 _).2 h.2)
  show _=some (PV.tu [ivP ivZ,PV.i .i64 9])
  rw[zpx]
  refine zaa (xf:=zvr) rfl (by simp[zvr]) ?_
  simp only[zvr]
  simp(disch:=omega)only[go_sem,seval,wqq,s1,s2,q1,q2,zao,zae]
 ·rw[if_neg h]
  obtain⟨n1,n2⟩:=zhZ h hy
  obtain⟨u,uv,e1⟩:=zms x y n1 n2
  obtain⟨v,vv,e2⟩:=zmt x y n1 n2
  have md:=zgA u v
  rw[uv,vv] at md
  generalize mdI (divLo x y) (divHi x y)=R at *
  rw[zcw,zcw] at e1 e2
  clear uv vv
  by_cases hl:y.lo.v≤0
  ·have q1:(cmpI y.lo.v 0≤0)=True:=eq_true ((k1 _).2 hl)
   have q2:(0≤cmpI y.hi.v 0)=False:=eq_false (fun q=>h ⟨hl,(k2 _).1 q⟩)
   refine zaa (xf:=zvr) rfl (by simp[zvr]) ?_
   simp only[zvr]
   simp(disch:=omega)only[go_sem,seval,wqq,s1,s2,q1,q2]
   refine zbo [19,22] rfl ?_ ?_
   ·simp(disch:=omega)only[go_sem,seval,wqq,zkQ,zkR,e1,e2,md]
    exact⟨_,rfl,rfl⟩
   simp(disch:=omega)only[go_sem,seval,wqq,zkQ,zkR,e1,e2,md]
  ·have q1:(cmpI y.lo.v 0≤0)=False:=eq_false (fun q=>hl ((k1 _).1 q))
   refine zaa (xf:=zvr) rfl (by simp[zvr]) ?_
   simp only[zvr]
   simp(disch:=omega)only[go_sem,seval,wqq,s1,q1]
   refine zbo [19,22] rfl ?_ ?_
   ·simp(disch:=omega)only[go_sem,seval,wqq,zkQ,zkR,e1,e2,md]
    exact⟨_,rfl,rfl⟩
   simp(disch:=omega)only[go_sem,seval,wqq,zkQ,zkR,e1,e2,md]
def ivNeg (y:IV):IV:=⟨y.hi.neg,y.lo.neg,zez.2 y.h,zez.2 y.l⟩
theorem zh3 (x y:IV):ivAdd x (ivNeg y)=ivSub x y:=rfl
theorem zmE (x y:IV):pf E0 516 [ivP x,ivP y]=some (.tu [ivP (ivSub x y).1,.i .i64 (ivSub x y).2]):=by
 have a:=ziF x (ivNeg y)
 rw[zh3] at a
 have n1:=zdT y.hi
 have n2:=zdT y.lo
 have hq:ivP (ivNeg y)=.ag [.b (decide (y.hi.neg.v<0)),D y.hi.neg.v.natAbs,.b (decide (y.lo.neg.v<0)),D y.lo.neg.v.natAbs]:=rfl
 rw[hq] at a
 generalize ivSub x y=R at *
 clear hq
 generalize y.hi.neg=u at *
 generalize y.lo.neg=v at *
 refine zaa (xf:=zwW) rfl (by simp[zwW]) ?_
 simp only[zwW]
 simp(disch:=omega)only[go_sem,seval,wqq]
 refine zaf rfl ?_
 simp(disch:=omega)only[go_sem,seval,wqq,n1,n2,a,zao,zae]
end Go.Eng
set_option maxRecDepth 10000
namespace Go.Eng
theorem zmL (x y:IV):pf E0 517 [rvP x,rvP y]=some (.tu [rvP (ivSub x y).1,.i .i64 (ivSub x y).2]):=by
 have t1:=za0 x.lo
 have t2:=za0 x.hi
 have t3:=za0 y.lo
 have t4:=za0 y.hi
 have a1:=zlr x.lo.v y.hi.v (by omega) (by omega)
 have a2:=zlr x.hi.v y.lo.v (by omega) (by omega)
 have s1:=zcJ x.lo.v (-y.hi.v)
 have s2:=zcJ x.hi.v (-y.lo.v)
 rw[Int.natAbs_neg,←Int.sub_eq_add_neg] at s1 s2
 have md:=zcG (x:=x.lo.v-y.hi.v) (y:=x.hi.v-y.lo.v) (by omega) (by omega)
 unfold ivSub
 generalize mdI (x.lo.v-y.hi.v) (x.hi.v-y.lo.v)=R at *
 generalize x.lo.v-y.hi.v=u at *
 generalize x.hi.v-y.lo.v=v at *
 refine zaa (xf:=zw8) rfl (by simp[zw8]) ?_
 simp only[zw8]
 simp(disch:=omega)only[go_sem,seval,wqq]
 refine zaf rfl ?_
 simp(disch:=omega)only[go_sem,seval,wqq,a1,a2,md]
theorem zi8 (a k b:Int):sgA (a*k) b=sgA a b*k:=by unfold sgA;split<;>simp[Int.neg_mul]
theorem zuv:nP 0=wiP wi0:=by
 show PV.ag [.b false,T 0]=_
 rw[znl];exact zjO
theorem zmJ (x y:IV) (hy:y.ok):pf E0 372 [rvP x,rvP y]=some (.tu [rvP (ivDiv x y).1,.i .i64 (ivDiv x y).2]):=by
 have hp:=zdn
 have t1:=za0 x.lo
 have t2:=za0 x.hi
 have t3:=za0 y.lo
 have t4:=za0 y.hi
 have ts:=zsx
 have tz:tlen (0:Int).natAbs=0:=by rw[Int.natAbs_zero,zaI]
 have c1:=zaC y.lo.v 0 (by omega) (by omega)
 have c2:=zaC y.hi.v 0 (by omega) (by omega)
 rw[zuv] at c1 c2
 have k1:∀a:Int,(cmpI a 0≤0)↔a≤0:=fun a=>by unfold cmpI;split<;>(try split)<;>omega
 have k2:∀a:Int,(0≤cmpI a 0)↔0≤a:=fun a=>by unfold cmpI;split<;>(try split)<;>omega
 unfold ivDiv
 by_cases h:has0 y
 ·rw[if_pos h]
  have q1:(cmpI y.lo.v 0≤0)=True:=eq_true ((k1 _).2 h.1)
  have q2:(0≤cmpI y.hi.v 0)=True:=eq_true ((k2 _).2 h.2)
  show _=some (PV.tu [rvP ivZ,PV.i .i64 9])
  rw[zku]
  refine zaa (xf:=zvC) rfl (by simp[zvC]) ?_
  simp only[zvC]
  simp(disch:=omega)only[go_sem,seval,wqq,c1,c2,q1,q2,zao,zae]
 ·rw[if_neg h]
  obtain⟨n1,n2⟩:=zhZ h hy
  have m1:=zbD x.lo.v 4294967296 (by omega) (by omega)
  have m2:=zbD x.hi.v 4294967296 (by omega) (by omega)
  have s1:=zaH x.lo.v 4294967296
  have s2:=zaH x.hi.v 4294967296
  have en:=ziC (a:=x.lo.v*4294967296) (b:=x.lo.v*4294967296) (c:=x.hi.v*4294967296) (d:=x.hi.v*4294967296) (p:=y.lo.v) (q:=y.hi.v) (r:=y.lo.v) (s:=y.hi.v) (by omega) (by omega) (by omega) (by omega) (by omega) (by omega) (by omega) (by omega) n1 n2 n1 n2
  simp only[zi8] at en
  have en:pf E0 383 [.lst [nP (x.lo.v*4294967296),nP (x.lo.v*4294967296),nP (x.hi.v*4294967296),nP (x.hi.v*4294967296)],.lst [nP y.lo.v,nP y.hi.v,nP y.lo.v,nP y.hi.v]]=some (.tu [nP (divLo x y),nP (divHi x y)]):=en
  have tf:∀a b:Int,tlen (a*4294967296).natAbs<40000→tlen (sgA a b*4294967296).natAbs<40000:=fun a b ht=>by rw[←zi8];exact zkH ht
  have tl:tlen (divLo x y).natAbs<40000:=by
   rcases zih (dFl x.lo.v y.lo.v) (dFl x.lo.v y.hi.v) (dFl x.hi.v y.lo.v) (dFl x.hi.v y.hi.v) with h|h|h|h<;>(unfold divLo;rw[h];exact zje (tf _ _ (by omega)))
  have th:tlen (divHi x y).natAbs<40000:=by
   rcases zie (dCe x.lo.v y.lo.v) (dCe x.lo.v y.hi.v) (dCe x.hi.v y.lo.v) (dCe x.hi.v y.hi.v) with h|h|h|h<;>(unfold divHi;rw[h];exact zkG (tf _ _ (by omega)))
  have md:=zcG (x:=divLo x y) (y:=divHi x y) (by omega) (by omega)
  generalize mdI (divLo x y) (divHi x y)=R at *
  generalize divLo x y=u at *
  generalize divHi x y=v at *
  generalize x.lo.v*4294967296=a at *
  generalize x.hi.v*4294967296=b at *
  obtain⟨s,hs⟩:∃s:Int,s=4294967296:=⟨_,rfl⟩
  rw[←hs] at hp m1 m2
  clear hs tf
  by_cases hl:y.lo.v≤0
  ·have q1:(cmpI y.lo.v 0≤0)=True:=eq_true ((k1 _).2 hl)
   have q2:(0≤cmpI y.hi.v 0)=False:=eq_false (fun q=>h ⟨hl,(k2 _).1 q⟩)
   refine zaa (xf:=zvC) rfl (by simp[zvC]) ?_
   simp only[zvC]
   simp(disch:=omega)only[go_sem,seval,wqq,c1,c2,q1,q2,zao,zae]
   refine zaf rfl ?_
   simp(disch:=omega)only[go_sem,seval,wqq,hp,m1]
   refine zaf rfl ?_
   simp(disch:=omega)only[go_sem,seval,wqq,hp,m2,zao,zae,zl2,en,md]
  ·have q1:(cmpI y.lo.v 0≤0)=False:=eq_false (fun q=>hl ((k1 _).1 q))
   refine zaa (xf:=zvC) rfl (by simp[zvC]) ?_
   simp only[zvC]
   simp(disch:=omega)only[go_sem,seval,wqq,c1,q1,zao,zae]
   refine zaf rfl ?_
   simp(disch:=omega)only[go_sem,seval,wqq,hp,m1]
   refine zaf rfl ?_
   simp(disch:=omega)only[go_sem,seval,wqq,hp,m2,zao,zae,zl2,en,md]
end Go.Eng
namespace Go.Eng
def upd {α:Type} (X:Nat→α) (i:Nat) (v:α):Nat→α:=fun e=>if e=i then v else X e
def cs (n:Nat) (X:Nat→Int):List PV:=(List.range n).map fun e=>.i .i64 (X e)
def zF:Nat→Int:=fun _=>0
end Go.Eng
namespace Go.Eng
end Go.Eng
namespace Go.Eng
noncomputable def cW (w:Nat→WI):List PV:=[.b (decide ((w 0).v<0)),D (w 0).v.natAbs,.b (decide ((w 1).v<0)),D (w 1).v.natAbs,.b (decide ((w 2).v<0)),D (w 2).v.natAbs,.b (decide ((w 3).v<0)),D (w 3).v.natAbs,.b (decide ((w 4).v<0)),D (w 4).v.natAbs,.b (decide ((w 5).v<0)),D (w 5).v.natAbs,.b (decide ((w 6).v<0)),D (w 6).v.natAbs,.b (decide ((w 7).v<0)),D (w 7).v.natAbs,.b (decide ((w 8).v<0)),D (w 8).v.natAbs]
noncomputable def mW (w:Nat→WI):PV:=.ag (cW w)
def cI (p:Nat→Int):List PV:=[.i .i64 (p 0),.i .i64 (p 1),.i .i64 (p 2),.i .i64 (p 3),.i .i64 (p 4),.i .i64 (p 5),.i .i64 (p 6),.i .i64 (p 7),.i .i64 (p 8)]
def pI (p:Nat→Int):PV:=.ag (cI p)
end Go.Eng
namespace Go.Eng
end Go.Eng
namespace Go.Eng
end Go.Eng
namespace Go.Eng
def gN (X:Nat→Int):Nat→Nat
 | 0=>0
 | i+1=>Nat.gcd (gN X i) (X i).natAbs
noncomputable def gW (x:Nat→WI):Nat→WI
 | 0=>wi0
 | i+1=>(gW x i).gcd (x i)
noncomputable def gC (x:Nat→WI):Nat→List PV
 | 0=>[.b false,.nl]
 | i+1=>[.b (decide ((gW x (i+1)).v<0)),D (gW x (i+1)).v.natAbs]
end Go.Eng
namespace Go.Eng
end Go.Eng
namespace Go.Eng
def sB (n:Nat):Nat→Bool:=fun e=>decide (e<n)
def rtK (a b c d e:Int):Int:=a*(b*c)-a*(d*e)
def rdV (z:Nat→Int):Int:=0+rtK (z 0) (z 4) (z 8) (z 5) (z 7)+rtK (z 1) (z 5) (z 6) (z 3) (z 8)+rtK (z 2) (z 3) (z 7) (z 4) (z 6)
end Go.Eng
namespace Go.Eng
end Go.Eng
namespace Go.Eng
end Go.Eng
namespace Go.Eng
def rpK (a b c d e f:Int):Int:=0+a*b+c*d+e*f
def rprV (z u:Nat→Int):Nat→Int:=fun e=>rpK (z (3*(e/3))) (u (e%3)) (z (3*(e/3)+1)) (u (3+e%3)) (z (3*(e/3)+2)) (u (6+e%3))
end Go.Eng

namespace Go.Eng
def mnV (X:Nat→Int) (i k:Nat):Int:=X (3*((i+1)%3)+(k+1)%3)*X (3*((i+2)%3)+(k+2)%3)-X (3*((i+1)%3)+(k+2)%3)*X (3*((i+2)%3)+(k+1)%3)
end Go.Eng
namespace Go.Eng
noncomputable def wc (t:WI):List PV:=[.b (decide (t.v<0)),D t.v.natAbs]
structure WZ (L:List PV) (s:WI):Prop where
 len:L.length=2
 sc:L.all PV.scal=true
 fz:∀(M:PM) (d:Nat),fzL (fz M (d+1)) L=some (wc s,[])
end Go.Eng
namespace Go.Eng
def cg (n:Nat) (f:Nat→List PV):List PV:=(List.range n).flatMap f
end Go.Eng
namespace Go.Eng
def facT:List (List Int):=[[],[0],[1],[2],[0,0],[0,1],[0,2],[1,1],[1,2],[2,2],[0,0,0],[0,0,1],[0,0,2],[0,1,1],[0,1,2],[0,2,2],[1,1,1],[1,1,2],[1,2,2],[2,2,2]]
def facL (i:Nat):List Int:=facT.getD i []
def prL (X:Nat→Int):List Int→Int
 | []=>1
 | a::l=>X a.toNat*prL X l
end Go.Eng
namespace Go.Eng
end Go.Eng
namespace Go.Eng
theorem zka {n m:Int} (hn:Fits64 n) (hm:Fits64 m) (h1:1≤m):pf E0 6 [.i .i64 n,.i .i64 m]=some (.i .i64 (aro n m)):=by
 refine zaa (xf:=zwe) rfl (by simp[zwe]) ?_
 simp only[zwe]
 unfold Fits64 at hn hm
 have a0:=zdV n h1
 have a1:=zkP n h1
 have q1:(m=0)=False:=by simp;omega
 by_cases h:n<0
 ·have e:(0-(n+1)).tmod m=aro n m:=by
   unfold aro
   rw[if_pos h,Int.tmod_eq_emod_of_nonneg (by omega)]
   congr 1;omega
  simp(disch:=omega)only[go_sem,seval,wqq,h,q1,e]
 ·have e:n.tmod m=aro n m:=by
   unfold aro
   rw[if_neg h,Int.tmod_eq_emod_of_nonneg (by omega)]
  simp(disch:=omega)only[go_sem,seval,wqq,h,q1,e]
theorem zli {xs:List Int} (hx:Ints xs) {i m:Int} (hi:Fits64 i) (hm:Fits64 m) (h1:1≤m):pf E0 13 [ints xs,.i .i64 i,.i .i64 m]=some (.i .i64 (pick xs i m)):=by
 refine zaa (xf:=zwN) rfl (by simp[zwN]) ?_
 simp only[zwN]
 obtain⟨hx1,hx2⟩:=hx
 unfold pick
 by_cases h:i<0
 ·rw[if_pos (.inl h)]
  simp(disch:=omega)only[go_sem,seval,wqq,h]
 ·by_cases h':(xs.length:Int)≤i
  ·rw[if_pos (.inr h')]
   have q1:(i≥(xs.length:Int))=True:=by simp;omega
   simp(disch:=omega)only[go_sem,seval,wqq,h,q1]
  ·rw[if_neg (by omega)]
   have q1:(i≥(xs.length:Int))=False:=by simp;omega
   obtain⟨j,rfl⟩:∃j:Nat,i=j:=⟨i.toNat,by omega⟩
   have hj:j<xs.length:=by omega
   have hg:xs[j]?=some (xs.getD j 0):=by simp[hj]
   have ha:=zka (n:=xs.getD j 0) (m:=m) (hx2 _ (by simp[hj])) hm h1
   simp(disch:=omega)only[go_sem,seval,wqq,h,q1,zfb hg,Int.toNat_natCast,ha]
end Go.Eng
namespace Go.Eng
end Go.Eng
namespace Go.Eng
end Go.Eng
namespace Go.Eng
end Go.Eng
namespace Go.Eng
structure TerOk (X Y S:Int) (C R:Nat) (hs:List Int):Prop where
 c:2≤C∧C≤128
 r:2≤R∧R≤128
 s:1≤S∧S≤65536
 x : -1048576≤X∧X+(C-1)*S≤1048576
 y : -1048576≤Y∧Y+(R-1)*S≤1048576
 len:hs.length=C*R
 h:∀n∈hs,-16384≤n∧n≤16384
theorem TerOk.ints {X Y S:Int} {C R:Nat} {hs:List Int} (t:TerOk X Y S C R hs):Ints hs:=by
 refine⟨?_,fun n hn=>?_⟩
 ·have:C*R≤128*128:=Nat.mul_le_mul t.c.2 t.r.2
  rw[t.len];omega
 ·have:=t.h n hn
  unfold Fits64;omega
end Go.Eng
namespace Go.Eng
end Go.Eng
namespace Go.Eng
end Go.Eng
namespace Go.Eng
end Go.Eng
namespace Go.Eng
end Go.Eng
namespace Go.Eng
end Go.Eng
namespace Go.Eng
end Go.Eng
namespace Go.Eng
end Go.Eng
namespace Go.Eng
end Go.Eng

namespace Go.Eng
end Go.Eng
namespace Go.Eng
def pw (i:Nat):Nat:=2^(2^i)
end Go.Eng
namespace Go.Eng
noncomputable def pwI (i:Nat):WI:=clip ((pw i:Nat):Int)
noncomputable def pwL:Nat→List PV
 | 0=>[]
 | j+1=>pwL j++[.b (decide ((pwI j).v<0)),D (pwI j).v.natAbs]
end Go.Eng
namespace Go.Eng
end Go.Eng
namespace Go.Eng
noncomputable def whQ (n:Int):FQ:=if h:Fits64 n then ⟨wiOf n h,wi1,by decide,Nat.gcd_one_right _⟩ else fq0
end Go.Eng
namespace Go.Eng
noncomputable def qc (f:FQ):List PV:=[.b (decide (f.p.v<0)),D f.p.v.natAbs,.b (decide (f.l.v<0)),D f.l.v.natAbs]
structure QZ (L:List PV) (f:FQ):Prop where
 len:L.length=4
 sc:L.all PV.scal=true
 fz:∀(M:PM) (d:Nat),fzL (fz M (d+1)) L=some (qc f,[])
end Go.Eng
namespace Go.Eng
noncomputable def vc (x:IV):List PV:=[.b (decide (x.lo.v<0)),D x.lo.v.natAbs,.b (decide (x.hi.v<0)),D x.hi.v.natAbs]
structure VZ (L:List PV) (x:IV):Prop where
 len:L.length=4
 sc:L.all PV.scal=true
 fz:∀(M:PM) (d:Nat),fzL (fz M (d+1)) L=some (vc x,[])
def enT (U:Nat→IV) (r:IV×Int) (l:List Int):IV×Int:=l.foldl (fun r a=>if r.2=0 then ivMul r.1 (U a.toNat) else r) r
noncomputable def enX (c:Nat→Int) (U:Nat→IV) (i:Nat) (s:IV) (b:Bool):IV×Int :=
 if b=false∧(enT U (mkI (whQ (c i)) (whQ (c i))) (facL i)).2=0 then ivAdd s (enT U (mkI (whQ (c i)) (whQ (c i))) (facL i)).1 else enT U (mkI (whQ (c i)) (whQ (c i))) (facL i)
noncomputable def enS (c:Nat→Int) (U:Nat→IV):Nat→IV×Bool×Int
 | 0=>(ivZ,true,0)
 | i+1=>if (enS c U i).2.2≠0 then enS c U i else if c i=0 then enS c U i else
  if (enX c U i (enS c U i).1 (enS c U i).2.1).2=0 then ((enX c U i (enS c U i).1 (enS c U i).2.1).1,false,0) else (ivZ,true,(enX c U i (enS c U i).1 (enS c U i).2.1).2)
end Go.Eng
namespace Go.Eng
end Go.Eng
namespace Go.Eng
end Go.Eng
namespace Go.Eng
end Go.Eng
namespace Go.Eng
end Go.Eng
namespace Go.Eng
theorem z20:[PV.i .i64 0,PV.i .i64 0,PV.i .i64 0,PV.i .i64 0,PV.i .i64 0,PV.i .i64 0,PV.i .i64 0,PV.i .i64 0,PV.i .i64 0,PV.i .i64 0,PV.i .i64 0,PV.i .i64 0,PV.i .i64 0,PV.i .i64 0,PV.i .i64 0,PV.i .i64 0,PV.i .i64 0,PV.i .i64 0,PV.i .i64 0,PV.i .i64 0]=cs 20 zF:=rfl
end Go.Eng
namespace Go.Eng
end Go.Eng
namespace Go.Eng
def adV (X:Nat→Int):Nat→Int:=fun e=>mnV X (e%3) (e/3)
end Go.Eng
namespace Go.Eng
end Go.Eng
namespace Go.Eng
def isPF (E:PEnv):PV→Bool
 | .fn f _=>E.pure f
 | _=>false
def slotIn4 (E:PEnv) (ops:List XOper) (L V:List Nat) (c:Nat×Nat):Bool :=
 match ops[c.1]?,ops[c.2]? with
 | some a,some b =>
  match a.op with
  | .load _ _ (.t s)=>L.contains s&&(match b.op with | .callv (.t v) _=>V.contains v&&fixedX ops c.2 (.t v)|_=>calmOp E b.op)
  | _=>false
 | _,_=>false
end Go.Eng
namespace Go.Eng
def slarrB (m off n z:Nat) (lo hi:Option PV):Option PB→Option PV
 | some b=>if off+n*z≤b.v.length then slP z (.sl m off n n z) lo hi none else none
 | none=>none
def slarrP (M:PM) (n z:Nat) (lo hi:Option PV):PV→Option PV
 | .p m off=>slarrB m off n z lo hi (PM.blk M m)
 | .fp l=>if n*z≤l.length∧n*z≠0∧l.all PV.scal=true then slP z (.lst (group z n (l.take (n*z)))) lo hi none else none
 | _=>none
def rwV (a b c un ud vn vd:Int):Int:=a*un*vd+b*vn*ud+c*(ud*vd)
end Go.Eng
namespace Go.Eng
def q8 (a b c d e f g h:Int):PV:=.ag [.i .i64 a,.i .i64 b,.i .i64 c,.i .i64 d,.i .i64 e,.i .i64 f,.i .i64 g,.i .i64 h]
end Go.Eng
namespace Go.Eng
end Go.Eng
namespace Go.Eng
end Go.Eng
namespace Go.Eng
end Go.Eng
namespace Go.Eng
def rwF (p:Nat→Int) (i:Nat) (u v:FQ):Int:=rwV (p (3*i)) (p (3*i+1)) (p (3*i+2)) u.p.v u.q.v v.p.v v.q.v
end Go.Eng
namespace Go.Eng
def oneI:Nat→Int:=fun e=>if e%4=0 then 1 else 0
end Go.Eng
namespace Go.Eng
end Go.Eng
namespace Go.Eng
theorem hF (p:Nat→Int):PV.ag [.i .i64 (p 0),.i .i64 (p 1),.i .i64 (p 2),.i .i64 (p 3),.i .i64 (p 4),.i .i64 (p 5),.i .i64 (p 6),.i .i64 (p 7),.i .i64 (p 8)]=pI p:=rfl
def e9 (a b:Nat→Int):Bool:=a 0==b 0&&(a 1==b 1&&(a 2==b 2&&(a 3==b 3&&(a 4==b 4&&(a 5==b 5&&(a 6==b 6&&(a 7==b 7&&a 8==b 8)))))))
end Go.Eng
namespace Go.Eng
def gEnt (n d:Int):Int:=if n.tmod 6=1∨n.tmod 6 = -1 then (n.tdiv 6).tmod 8 else if n.tmod 6=2 then (n.tdiv 6).tmod 1000 else if n.tmod 6=3 then 1073741824-(n.tdiv 6).tmod 4 else d
def g0P:Nat→Int:=fun e=>if e=0 then 2 else if e=4 then 2 else if e=8 then 1 else 0
def gMix (ns:Nat→Int) (i:Nat):Nat→Int:=fun e=>if e<i then gEnt (ns e) (g0P e) else g0P e
theorem gk0 (ns:Nat→Int) (h:gEnt (ns 0) (g0P 0)=g0P 0):cI (gMix ns 0)=cI (gMix ns 1):=by
 have e:gMix ns 0=gMix ns 1:=by
  funext e
  unfold gMix
  by_cases q:e=0
  ·subst q;rw[if_neg (by decide),if_pos (by decide),h]
  ·by_cases r:e<0
   ·rw[if_pos r,if_pos (by omega)]
   ·rw[if_neg r,if_neg (by omega)]
 rw[e]
end Go.Eng
namespace Go.Eng
end Go.Eng
namespace Go.Eng
end Go.Eng
namespace Go.Eng
end Go.Eng
namespace Go.Eng
end Go.Eng
namespace Go.Eng
end Go.Eng
namespace Go.Eng
end Go.Eng
namespace Go.Eng
end Go.Eng
namespace Go.Eng
theorem zkY (xs:List Int) (i:Int):∃f:FQ,Ints xs→0≤i→i≤100→fsz 122 f∧pf E0 187 [ints xs,.i .i64 i]=some (rfQ f):=by
 by_cases h:Ints xs∧0≤i∧i≤100
 ·obtain⟨f,h1,h2⟩:=zki h.1 h.2.1 h.2.2
  exact⟨f,fun _ _ _=>⟨h1,h2⟩⟩
 ·exact⟨fq0,fun a b c=>absurd ⟨a,b,c⟩ h⟩
noncomputable def frcF (xs:List Int) (i:Int):FQ:=(zkY xs i).choose
theorem zlk {xs:List Int} (hx:Ints xs) {i:Int} (h0:0≤i) (h1:i≤100):pf E0 187 [ints xs,.i .i64 i]=some (rfQ (frcF xs i)):=((zkY xs i).choose_spec hx h0 h1).2
end Go.Eng
set_option maxRecDepth 10000
namespace Go.Eng
noncomputable def smF (xs:List Int) (i:Int):FQ:=(makF (clip (pick xs i 1000000%401-200)) (clip (1+pick xs i 1000000/401%16))).1
theorem zi9 {z:Int} (h : -1000000≤z∧z≤1000000):wlen z.natAbs≤512:=zjo (by unfold Fits64;omega)
theorem zfl {xs:List Int} (hx:Ints xs) {i:Int} (hi:Fits64 i):pf E0 361 [ints xs,.i .i64 i]=some (rfQ (smF xs i)):=by
 have pk:=zli hx hi (m:=1000000) (by decide) (by decide)
 have k0:=zdJ xs i (m:=1000000) (by decide)
 have k1:=ziR xs i (m:=1000000) (by decide)
 unfold smF
 generalize pick xs i 1000000=k at *
 have e1:k.tmod 401=k%401:=Int.tmod_eq_emod_of_nonneg k0
 have e2:k.tdiv 401=k/401:=Int.tdiv_eq_ediv_of_nonneg k0
 have e3:(k/401).tmod 16=k/401%16:=Int.tmod_eq_emod_of_nonneg (Int.ediv_nonneg k0 (by decide))
 have b1 : -200≤k%401-200∧k%401-200≤200:=by omega
 have b2:1≤1+k/401%16∧1+k/401%16≤16:=by omega
 have o1:=zc7 (k%401-200) (by unfold Fits64;omega)
 have o2:=zc7 (1+k/401%16) (by unfold Fits64;omega)
 have m:=zlm (clip (k%401-200)) (clip (1+k/401%16))
 rw[za4 (zi9 (by omega)),za4 (zi9 (by omega))] at m
 generalize makF (clip (k%401-200)) (clip (1+k/401%16))=R at *
 generalize hu:k%401-200=u at *
 generalize hv:1+k/401%16=v at *
 refine zaa (xf:=zwq) rfl (by simp[zwq]) ?_
 simp only[zwq]
 simp(disch:=omega)only[go_sem,seval,wqq,pk,e1,e2,e3,hu,hv,o1,o2,m]
noncomputable def enF (xs:List Int) (i:Int):FQ×FQ :=
 if pick xs i 1000000%4=0 then (frcF xs (i+1),frcF xs (i+3)) else if pick xs i 1000000%4=1 then (smF xs (i+1),smF xs (i+1)) else (smF xs (i+1),smF xs (i+2))
theorem zkj {xs:List Int} (hx:Ints xs) {i:Int} (h0:0≤i) (h1:i≤90):pf E0 344 [ints xs,.i .i64 i]=some (.tu [rfQ (enF xs i).1,rfQ (enF xs i).2]):=by
 have pk:=zli hx (i:=i) (m:=1000000) (by unfold Fits64;omega) (by decide) (by decide)
 have k0:=zdJ xs i (m:=1000000) (by decide)
 have k1:=ziR xs i (m:=1000000) (by decide)
 have f1:=zlk hx (i:=i+1) (by omega) (by omega)
 have f2:=zlk hx (i:=i+3) (by omega) (by omega)
 have s1:=zfl hx (i:=i+1) (by unfold Fits64;omega)
 have s2:=zfl hx (i:=i+2) (by unfold Fits64;omega)
 unfold enF
 generalize pick xs i 1000000=k at *
 have e1:k.tmod 4=k%4:=Int.tmod_eq_emod_of_nonneg k0
 generalize frcF xs (i+1)=F1 at *
 generalize frcF xs (i+3)=F2 at *
 generalize smF xs (i+1)=S1 at *
 generalize smF xs (i+2)=S2 at *
 by_cases h:k%4=0
 ·rw[if_pos h]
  have q:(k%4=0)=True:=eq_true h
  refine zaa (xf:=zvq) rfl (by simp[zvq]) ?_
  simp only[zvq]
  simp(disch:=omega)only[go_sem,seval,wqq,pk,e1,q,f1,f2]
 ·rw[if_neg h]
  have q:(k%4=0)=False:=eq_false h
  by_cases h':k%4=1
  ·rw[if_pos h']
   have q':(k%4=1)=True:=eq_true h'
   refine zaa (xf:=zvq) rfl (by simp[zvq]) ?_
   simp only[zvq]
   simp(disch:=omega)only[go_sem,seval,wqq,pk,e1,q,q',s1]
   refine zdq [7] [4] rfl ?_ ?_
   ·simp(disch:=omega)only[go_sem,seval,wqq]
    exact⟨_,rfl,rfl⟩
   simp(disch:=omega)only[go_sem,seval,wqq]
  ·rw[if_neg h']
   have q':(k%4=1)=False:=eq_false h'
   refine zaa (xf:=zvq) rfl (by simp[zvq]) ?_
   simp only[zvq]
   simp(disch:=omega)only[go_sem,seval,wqq,pk,e1,q,q',s1]
   refine zaf rfl ?_
   simp(disch:=omega)only[go_sem,seval,wqq,s2]
noncomputable def inI (xs:List Int) (i:Int):IV:=(mkI (enF xs i).1 (enF xs i).2).1
theorem zk3 (xs:List Int) (i:Int):(inI xs i).ok:=zle _ _
theorem zc4 {xs:List Int} (hx:Ints xs) {i:Int} (h0:0≤i) (h1:i≤90):pf E0 446 [ints xs,.i .i64 i]=some (rvP (inI xs i)):=by
 have e:=zkj hx h0 h1
 have m:=zkk (enF xs i).1 (enF xs i).2
 unfold inI
 generalize mkI (enF xs i).1 (enF xs i).2=R at *
 generalize (enF xs i).1=a at *
 generalize (enF xs i).2=b at *
 refine zaa (xf:=zvZ) rfl (by simp[zvZ]) ?_
 simp only[zvZ]
 simp(disch:=omega)only[go_sem,seval,wqq,e,m]
theorem zmX (f:FQ):pf E0 197 [.s (ftx f.p.v f.q.v)]=some (.tu [fqP f,.i .i64 0]):=ziM f (by have:=zdz f;omega)
theorem zkF (f:FQ):pf E0 196 [rfQ f]=some (.s (ftx f.p.v f.q.v)):=zeJ _ _ (by have:=za0 f.p;omega) (by have:=za0 f.q;omega)
theorem zlo (f:FQ):pf E0 500 [rfQ f]=some (fqP f):=by
 have h1:=zkF f
 have h2:=zmX f
 generalize ftx f.p.v f.q.v=t at *
 refine zaa (xf:=zwi) rfl (by simp[zwi]) ?_
 simp only[zwi]
 simp(disch:=omega)only[go_sem,seval,wqq,h1,h2]
theorem zmM (x:IV):pf E0 501 [ivP x,rvP x]=some (.b true):=by
 have h1:=zcg x
 have h2:=zkl x
 generalize ivTx x=t at *
 refine zaa (xf:=zwK) rfl (by simp[zwK]) ?_
 simp only[zwK]
 simp(disch:=omega)only[go_sem,seval,wqq]
 refine zaf rfl ?_
 simp(disch:=omega)only[go_sem,seval,wqq,h1,h2,decide_true]
theorem zlX (a:Int):flI (a*4294967296) 4294967296=a:=Int.mul_ediv_cancel _ (by decide)
theorem zlK (a:Int):ceI (a*4294967296) 4294967296=a:=by
 unfold ceI
 rw[←Int.neg_mul,Int.mul_ediv_cancel _ (by decide)];omega
theorem znP (x:WI):fdQ (frQ x)=x.v∧ceQ (frQ x)=x.v:=by
 rw[znO (by decide) (zgf x),znv (by decide) (zgf x),zlX,zlK]
 exact⟨rfl,rfl⟩
theorem zkX {x:WI} (h:inB x.v):inL (frQ x).p.v∧inL (frQ x).q.v:=by
 obtain⟨_,h1,h2⟩:=zmc (x:=x) (y:=w32) (by rw[zeX];decide)
 rw[zeX] at h1 h2
 have h1:(frQ x).p.v=lowP x.v 4294967296:=h1
 have h2:(frQ x).q.v=lowQ x.v 4294967296:=h2
 rw[h1,h2]
 exact⟨zgl (zn0 h) (zh7 (by decide)),zgl (zbO zl3 (by decide)) (zh8 (by decide))⟩
theorem zn9 {x:IV} (hx:x.ok):mkI (frQ x.lo) (frQ x.hi)=(x,0):=by
 unfold IV.ok at hx
 have hc:¬cmpF (frQ x.lo) (frQ x.hi)>0:=by
  rw[znD (by decide) (by decide) (zgf x.lo) (zgf x.hi)]
  have:=Int.mul_le_mul_of_nonneg_right hx (show (0:Int)≤4294967296 by decide)
  unfold cmpI
  split
  ·decide
  ·split
   ·omega
   ·decide
 obtain⟨l1,l2⟩:=zkX x.l
 obtain⟨l3,l4⟩:=zkX x.h
 unfold mkI
 rw[if_neg hc]
 unfold mkSo
 rw[if_pos ⟨l1,l2,l3,l4⟩]
 have e1:flI ((frQ x.lo).p.v*4294967296) (frQ x.lo).q.v=x.lo.v:=(znP x.lo).1
 have e2:ceI ((frQ x.hi).p.v*4294967296) (frQ x.hi).q.v=x.hi.v:=(znP x.hi).2
 rw[e1,e2]
 obtain⟨a,b,c⟩:=zff ⟨x.l,x.h⟩
 have:(mdI x.lo.v x.hi.v).1=x:=zn3 b c
 exact Prod.ext this a
theorem ziH {x:IV} (hx:x.ok):pf E0 503 [rvP x]=some (ivP x):=by
 have h1:=zdo x.lo
 have h2:=zdo x.hi
 have n1:=zlo (frQ x.lo)
 have n2:=zlo (frQ x.hi)
 have m:=zdk (frQ x.lo) (frQ x.hi)
 rw[zn9 hx] at m
 generalize frQ x.lo=A at *
 generalize frQ x.hi=B at *
 refine zaa (xf:=zvU) rfl (by simp[zvU]) ?_
 simp only[zvU]
 simp(disch:=omega)only[go_sem,seval,wqq]
 refine zaf rfl ?_
 simp(disch:=omega)only[go_sem,seval,wqq,h1,h2,n1,n2,m]
end Go.Eng
set_option maxRecDepth 10000
namespace Go.Eng
theorem zjU {z:Int} (h:Fits64 z):inK 64 z:=by
 unfold inK
 unfold Fits64 at h
 have:(2:Nat)^64=18446744073709551616:=by decide
 omega
theorem zj0 {a b:FQ} {l h:Int} (f1:Fits64 a.p.v) (f2:Fits64 a.q.v) (f3:Fits64 b.p.v) (f4:Fits64 b.q.v) (hl:min2 (fdQ a) (fdQ b)=l) (hh:max2 (ceQ a) (ceQ b)=h):(mkI a b).2=0∧(mkI a b).1.lo.v=l∧(mkI a b).1.hi.v=h:=by
 have big:∀f:FQ,Fits64 f.p.v→inB (fdQ f)∧inB (ceQ f):=fun f hf=>by
  have hm:inK 97 (f.p.v*4294967296):=zfL (zjU hf) zl3 (by decide)
  refine⟨zbO (zgl hm (zcb _ _)) (by decide),?_⟩
  have:inK 97 (-(f.p.v*4294967296)):=zfM.2 hm
  refine zbO (i:=97) ?_ (by decide)
  unfold ceQ ceI
  rw[zfM]
  exact zgl this (zcb _ _)
 have so:∀c d:FQ,Fits64 c.p.v→Fits64 c.q.v→Fits64 d.p.v→Fits64 d.q.v→(mkSo c d).2=0:=fun c d g1 g2 g3 g4=>by
  have il:∀{z:Int},Fits64 z→inL z:=fun q=>zbO (zjU q) (by decide)
  unfold mkSo
  rw[if_pos ⟨il g1,il g2,il g3,il g4⟩]
  exact(zff ⟨(big c g1).1,(big d g3).2⟩).1
 have z:(mkI a b).2=0:=by
  unfold mkI
  split
  ·exact so b a f3 f4 f1 f2
  ·exact so a b f1 f2 f3 f4
 obtain⟨v1,v2⟩:=zqL z
 exact⟨z,v1.trans hl,v2.trans hh⟩
theorem zjP (x:WI):(frQ x).p.v=lowP x.v 4294967296∧(frQ x).q.v=lowQ x.v 4294967296:=by
 obtain⟨_,h1,h2⟩:=zmc (x:=x) (y:=w32) (by rw[zeX];decide)
 exact⟨h1,h2⟩
theorem zfN {x:IV} {l h p1 q1 p2 q2:Int} {s t:List UInt8} (hl:x.lo.v=l) (hh:x.hi.v=h) (e1:lowP l 4294967296=p1) (e2:lowQ l 4294967296=q1) (e3:lowP h 4294967296=p2) (e4:lowQ h 4294967296=q2) (hs:ftx p1 q1=s) (ht:ftx p2 q2=t) :
  ivTx x=[91]++s++[44,32]++t++[93]:=by
 unfold ivTx
 rw[(zjP x.lo).1,(zjP x.lo).2,(zjP x.hi).1,(zjP x.hi).2,hl,hh,e1,e2,e3,e4,hs,ht]
theorem zg5 {f:FQ} {p q l h:Int} (hp:f.p.v=p) (hq:f.q.v=q) (e1:flI (p*4294967296) q=l) (e2:ceI (p*4294967296) q=h):fdQ f=l∧ceQ f=h:=by
 unfold fdQ ceQ
 rw[hp,hq];exact⟨e1,e2⟩
set_option maxHeartbeats 4000000 in
theorem zkf:pf E0 502 []=some (.b true):=by
 obtain⟨o,o1,o2,_,fo⟩:=zha (p:=1) (q:=1) (a:=1) (b:=1) (by decide) (by decide) (by decide) (by decide) (by decide) (zad (by decide)) (zad (by decide))
 obtain⟨t,t1,t2,_,ft⟩:=zha (p:=1) (q:=3) (a:=1) (b:=3) (by decide) (by decide) (by decide) (by decide) (by decide) (zad (by decide)) (zad (by decide))
 obtain⟨h,h1,h2,_,fh⟩:=zha (p:=1) (q:=2) (a:=1) (b:=2) (by decide) (by decide) (by decide) (by decide) (by decide) (zad (by decide)) (zad (by decide))
 obtain⟨w,w1,w2,_,fw⟩:=zha (p:=2) (q:=1) (a:=2) (b:=1) (by decide) (by decide) (by decide) (by decide) (by decide) (zad (by decide)) (zad (by decide))
 obtain⟨u,u1,u2,_,fu⟩:=zha (p:=4) (q:=1) (a:=4) (b:=1) (by decide) (by decide) (by decide) (by decide) (by decide) (zad (by decide)) (zad (by decide))
 obtain⟨v,v1,v2,_,fv⟩:=zha (p:=8) (q:=1) (a:=8) (b:=1) (by decide) (by decide) (by decide) (by decide) (by decide) (zad (by decide)) (zad (by decide))
 obtain⟨to1,to2⟩:=zg5 (l:=4294967296) (h:=4294967296) o1 o2 (by decide) (by decide)
 obtain⟨tt1,tt2⟩:=zg5 (l:=1431655765) (h:=1431655766) t1 t2 (by decide) (by decide)
 obtain⟨th1,th2⟩:=zg5 (l:=2147483648) (h:=2147483648) h1 h2 (by decide) (by decide)
 obtain⟨tw1,tw2⟩:=zg5 (l:=8589934592) (h:=8589934592) w1 w2 (by decide) (by decide)
 obtain⟨tu1,tu2⟩:=zg5 (l:=17179869184) (h:=17179869184) u1 u2 (by decide) (by decide)
 obtain⟨tv1,tv2⟩:=zg5 (l:=34359738368) (h:=34359738368) v1 v2 (by decide) (by decide)
 have fi:∀{z n:Int},z=n→Fits64 n→Fits64 z:=fun h g=>h ▸ g
 obtain⟨a0,a1,a2⟩:=zj0 (a:=h) (b:=h) (l:=2147483648) (h:=2147483648) (fi h1 (by decide)) (fi h2 (by decide)) (fi h1 (by decide)) (fi h2 (by decide)) (by rw[th1];decide) (by rw[th2];decide)
 obtain⟨b0,b1,b2⟩:=zj0 (a:=t) (b:=t) (l:=1431655765) (h:=1431655766) (fi t1 (by decide)) (fi t2 (by decide)) (fi t1 (by decide)) (fi t2 (by decide)) (by rw[tt1];decide) (by rw[tt2];decide)
 obtain⟨c0,c1,c2⟩:=zj0 (a:=o) (b:=w) (l:=4294967296) (h:=8589934592) (fi o1 (by decide)) (fi o2 (by decide)) (fi w1 (by decide)) (fi w2 (by decide)) (by rw[to1,tw1];decide) (by rw[to2,tw2];decide)
 obtain⟨d0,d1,d2⟩:=zj0 (a:=v) (b:=u) (l:=17179869184) (h:=34359738368) (fi v1 (by decide)) (fi v2 (by decide)) (fi u1 (by decide)) (fi u2 (by decide)) (by rw[tv1,tu1];decide) (by rw[tv2,tu2];decide)
 have ma:=zll h
 have mb:=zll t
 have mc:=zdk o w
 have md:=zdk v u
 have dv:=ziG (mkI o w).1 (mkI v u).1 (zle _ _)
 rw[a0] at ma
 rw[b0] at mb
 rw[c0] at mc
 rw[d0] at md
 generalize (mkI h h).1=A at *
 generalize (mkI t t).1=B at *
 generalize (mkI o w).1=C at *
 generalize (mkI v u).1=D at *
 have n0:¬has0 D:=by unfold has0;omega
 have el:divLo C D=536870912:=by unfold divLo;rw[c1,c2,d1,d2];decide
 have eh:divHi C D=2147483648:=by unfold divHi;rw[c1,c2,d1,d2];decide
 have eq:ivDiv C D=mdI 536870912 2147483648:=by unfold ivDiv;rw[if_neg n0,el,eh]
 obtain⟨q0,q1,q2⟩:=zff (lo:=536870912) (hi:=2147483648) ⟨zbO (zjU (by decide)) (by decide),zbO (zjU (by decide)) (by decide)⟩
 rw[eq,q0] at dv
 generalize (mdI 536870912 2147483648).1=Q at *
 have k1:decI 1=[49]:=(zdx (v:=1) (n:=0) rfl (by decide) (by decide)).trans rfl
 have k2:decI 2=[50]:=(zdx (v:=2) (n:=0) rfl (by decide) (by decide)).trans rfl
 have k8:decI 8=[56]:=(zdx (v:=8) (n:=0) rfl (by decide) (by decide)).trans rfl
 have k3:decI 1431655765=[49,52,51,49,54,53,53,55,54,53]:=(zdx (v:=1431655765) (n:=9) rfl (by decide) (by decide)).trans rfl
 have k4:decI 4294967296=[52,50,57,52,57,54,55,50,57,54]:=(zdx (v:=4294967296) (n:=9) rfl (by decide) (by decide)).trans rfl
 have k5:decI 715827883=[55,49,53,56,50,55,56,56,51]:=(zdx (v:=715827883) (n:=8) rfl (by decide) (by decide)).trans rfl
 have k6:decI 2147483648=[50,49,52,55,52,56,51,54,52,56]:=(zdx (v:=2147483648) (n:=9) rfl (by decide) (by decide)).trans rfl
 have x12:ftx 1 2=[49,47,50]:=by unfold ftx;rw[if_neg (by decide),k1,k2];rfl
 have x18:ftx 1 8=[49,47,56]:=by unfold ftx;rw[if_neg (by decide),k1,k8];rfl
 have xb1:ftx 1431655765 4294967296=[49,52,51,49,54,53,53,55,54,53,47,52,50,57,52,57,54,55,50,57,54]:=by unfold ftx;rw[if_neg (by decide),k3,k4];rfl
 have xb2:ftx 715827883 2147483648=[55,49,53,56,50,55,56,56,51,47,50,49,52,55,52,56,51,54,52,56]:=by unfold ftx;rw[if_neg (by decide),k5,k6];rfl
 have sa:=zcg A
 have sb:=zcg B
 have sq:=zcg Q
 rw[zfN a1 a2 (p1:=1) (q1:=2) (p2:=1) (q2:=2) (by decide) (by decide) (by decide) (by decide) x12 x12] at sa
 rw[zfN b1 b2 (p1:=1431655765) (q1:=4294967296) (p2:=715827883) (q2:=2147483648) (by decide) (by decide) (by decide) (by decide) xb1 xb2] at sb
 rw[zfN q1 q2 (p1:=1) (q1:=8) (p2:=1) (q2:=2) (by decide) (by decide) (by decide) (by decide) x18 x12] at sq
 simp only[List.cons_append,List.nil_append] at sa sb sq
 clear a1 a2 b1 b2 c1 c2 d1 d2 q1 q2 h1 h2 t1 t2 o1 o2 w1 w2 u1 u2 v1 v2 to1 to2 tt1 tt2 th1 th2 tw1 tw2 tu1 tu2 tv1 tv2
 refine zaa (xf:=zwx) rfl (by simp[zwx]) ?_
 simp only[zwx]
 have hx:xs_8253e7=[91,49,52,51,49,54,53,53,55,54,53,47,52,50,57,52,57,54,55,50,57,54,44,32,55,49,53,56,50,55,56,56,51,47,50,49,52,55,52,56,51,54,52,56,93]:=rfl
 simp(disch:=omega)only[go_sem,seval,wqq,fo,ft,fh,fw,fu,fv,ma,mb,mc,md,dv,sa,sb,sq,hx,decide_true]
end Go.Eng
set_option maxRecDepth 10000
namespace Go.Eng
noncomputable def opI (k:Nat) (x y:IV):IV×Int:=if k=0 then ivAdd x y else if k=1 then ivSub x y else if k=2 then ivMul x y else ivDiv x y
theorem zoJ {k:Nat} (hk:k<4) (x y:IV) (hy:y.ok):pf E0 506 [(PV.i .i64 ((k:Nat):Int)),ivP x,ivP y]=some (.tu [ivP (opI k x y).1,.i .i64 (opI k x y).2]):=by
 have a:=ziF x y
 have s:=zmE x y
 have m:=zmD x y
 have d:=ziG x y hy
 unfold opI
 generalize ivAdd x y=A at *
 generalize ivSub x y=S at *
 generalize ivMul x y=Mm at *
 generalize ivDiv x y=Dd at *
 obtain rfl|rfl|rfl|rfl:k=0∨k=1∨k=2∨k=3:=by omega
 all_goals
  refine zaa (xf:=zvL) rfl (by simp[zvL]) ?_
  simp only[zvL]
  simp(disch:=omega)only[go_sem,seval,wqq,a,s,m,d,Int.natCast_zero,Int.natCast_one,Int.cast_ofNat_Int]
theorem zmF {k:Nat} (hk:k<4) (x y:IV) (hy:y.ok):pf E0 507 [(PV.i .i64 ((k:Nat):Int)),rvP x,rvP y]=some (.tu [rvP (opI k x y).1,.i .i64 (opI k x y).2]):=by
 have a:=zmI x y
 have s:=zmL x y
 have m:=zmK x y
 have d:=zmJ x y hy
 unfold opI
 generalize ivAdd x y=A at *
 generalize ivSub x y=S at *
 generalize ivMul x y=Mm at *
 generalize ivDiv x y=Dd at *
 obtain rfl|rfl|rfl|rfl:k=0∨k=1∨k=2∨k=3:=by omega
 all_goals
  refine zaa (xf:=zvT) rfl (by simp[zvT]) ?_
  simp only[zvT]
  simp(disch:=omega)only[go_sem,seval,wqq,a,s,m,d,Int.natCast_zero,Int.natCast_one,Int.cast_ofNat_Int]
end Go.Eng
set_option maxRecDepth 10000
namespace Go.Eng
theorem p_IvalResults {xs:List Int} (hx:Ints xs):pf E0 495 [ints xs]=some (.b true):=by
 have i1:=zc4 hx (i:=0) (by decide) (by decide)
 have i2:=zc4 hx (i:=6) (by decide) (by decide)
 have oa:=zk3 xs 0
 have ob:=zk3 xs 6
 generalize inI xs 0=A at *
 generalize inI xs 6=B at *
 have v1:=ziH oa
 have v2:=ziH ob
 have lv:=zkf
 refine zaa (xf:=zvE) rfl (by simp[zvE]) ?_
 simp only[zvE]
 simp(disch:=omega)only[go_sem,seval,wqq,i1,i2]
 refine zan zwM.eq_1 (fun(k:Nat) fr M=>k≤4∧fr 3=.p 0 0∧fr 4=.p 1 0∧fr 5=(PV.i .i64 ((k:Nat):Int))∧∃v w G,M=some ⟨(rvP A).cells,true,v⟩::some ⟨(rvP B).cells,true,w⟩::G) (fun k=>4-k) ?_ 0 ⟨by omega,by simp only[go_sem,seval],by simp only[go_sem,seval],by simp only[go_sem,seval],_,_,[],rfl⟩
 rintro k fr M ⟨hk,f3,f4,f5,v,w,G,rfl⟩ ih
 rcases Nat.lt_or_ge k 4 with h|h
 ·have q1:((k:Int)<4)=True:=eq_true (by omega)
  have m1:=zoJ h A B ob
  have m2:=zmF h A B ob
  generalize opI k A B=R at *
  have s1:=zmM R.1
  simp(disch:=omega)only[go_sem,seval,wqq,f3,f4,f5,q1,mG,mG0,sG,sG0,lG,lqq]
  refine zaf rfl ?_
  simp(disch:=omega)only[go_sem,seval,wqq,f3,f4,f5,v1,v2,m1,m2,s1,ne_eq,not_true_eq_false,decide_false,mG,mG0,sG,sG0,lG,lqq]
  exact ih (k+1) _ _ (by omega) ⟨by omega,by simp only[go_sem,seval,f3],by simp only[go_sem,seval,f4],by simp only[go_sem,seval];rw[Int.natCast_succ],_,_,_,rfl⟩
 ·obtain rfl:k=4:=by omega
  have q1:(((4:Nat):Int)<4)=False:=by simp
  simp(disch:=omega)only[go_sem,seval,wqq,f3,f4,f5,q1,lv,mG,mG0,sG,sG0,lG,lqq]
end Go.Eng
