/- The engine and the contracts on which the statement stands: no conditions of its own. -/
import Derived.Test.YtchfmldhdbknlaaGreatDoorMine4
set_option linter.unusedSimpArgs false
set_option linter.unusedVariables false
set_option linter.unusedSectionVars false
namespace Go.Eng
def minN (f:Nat→Int):Nat→Int
 | 0=>0
 | 1=>f 0
 | k+2=>min2 (minN f (k+1)) (f (k+1))
def maxN (f:Nat→Int):Nat→Int
 | 0=>0
 | 1=>f 0
 | k+2=>max2 (maxN f (k+1)) (f (k+1))
theorem zkJ (f:Nat→Int) {k:Nat} (h:1≤k):minN f (k+1)=min2 (minN f k) (f k):=by
 obtain⟨j,rfl⟩:∃j,k=j+1:=⟨k-1,by omega⟩
 rfl
theorem zkG (f:Nat→Int) {k:Nat} (h:1≤k):maxN f (k+1)=max2 (maxN f k) (f k):=by
 obtain⟨j,rfl⟩:∃j,k=j+1:=⟨k-1,by omega⟩
 rfl
theorem zkK {f:Nat→Int} {N:Nat} (hf:∀i,tlen (f i).natAbs<N):∀k,1≤k→tlen (minN f k).natAbs<N
 | 1,_=>hf 0
 | k+2,_=>by
  rw[zkJ f (by omega)]
  unfold min2
  split
  ·exact hf _
  ·exact zkK hf (k+1) (by omega)
theorem zkH {f:Nat→Int} {N:Nat} (hf:∀i,tlen (f i).natAbs<N):∀k,1≤k→tlen (maxN f k).natAbs<N
 | 1,_=>hf 0
 | k+2,_=>by
  rw[zkG f (by omega)]
  unfold max2
  split
  ·exact hf _
  ·exact zkH hf (k+1) (by omega)
noncomputable def nL (N:Nat) (P:Nat→Int):List PV:=(List.range N).map fun i=>nP (P i)
theorem zjI {N i:Nat} (P:Nat→Int) (h:i<N):(nL N P)[i]?=some (nP (P i)):=by
 unfold nL;rw[List.getElem?_map,List.getElem?_range h];rfl
theorem znt (N:Nat) (P:Nat→Int):(nL N P).length=N:=by simp[nL]
theorem znV {N:Nat} (h1:1≤N) (hN:N≤100) (P Q:Nat→Int) (hq:∀i,Q i≠0) (lp:∀i,tlen (P i).natAbs<40000) (lq:∀i,tlen (Q i).natAbs<40000) :
  pf E0 383 [.lst (nL N P),.lst (nL N Q)]=some (.tu [nP (minN (fun i=>flI (sgA (P i) (Q i)) (sgB (Q i))) N),nP (maxN (fun i=>ceI (sgA (P i) (Q i)) (sgB (Q i))) N)]):=by
 have fl:∀i,pf E0 364 [nP (P i),nP (Q i)]=some (nP (flI (sgA (P i) (Q i)) (sgB (Q i)))):=fun i=>zdz (hq i) (by have:=lp i;omega) (by have:=lq i;omega)
 have ce:∀i,pf E0 365 [nP (P i),nP (Q i)]=some (nP (ceI (sgA (P i) (Q i)) (sgB (Q i)))):=fun i=>zgt (hq i) (by have:=lp i;omega) (by have:=lq i;omega)
 obtain⟨f,hf⟩:∃f:Nat→Int,f=fun i=>flI (sgA (P i) (Q i)) (sgB (Q i)):=⟨_,rfl⟩
 obtain⟨c,hc⟩:∃c:Nat→Int,c=fun i=>ceI (sgA (P i) (Q i)) (sgB (Q i)):=⟨_,rfl⟩
 have lf:∀i,tlen (f i).natAbs<40000:=fun i=>by rw[hf];exact zki (zmA (lp i))
 have lc:∀i,tlen (c i).natAbs<40000:=fun i=>by rw[hc];exact zmz (zmA (lp i))
 have mt:=fun k hk=>zkK lf k hk
 have xt:=fun k hk=>zkH lc k hk
 rw[←hf,←hc]
 have fl:∀i,pf E0 364 [nP (P i),nP (Q i)]=some (nP (f i)):=fun i=>by rw[fl i,hf]
 have ce:∀i,pf E0 365 [nP (P i),nP (Q i)]=some (nP (c i)):=fun i=>by rw[ce i,hc]
 clear hf hc
 have m0:minN f 1=f 0:=rfl
 have x0:maxN c 1=c 0:=rfl
 have p0:=zjI P (show 0<N by omega)
 have q0:=zjI Q (show 0<N by omega)
 have ln:((nL N P).length:Int)=(N:Int):=by rw[znt]
 have pa:∀i,i<N→(nL N P)[i]?=some (nP (P i)):=fun i h=>zjI P h
 have qa:∀i,i<N→(nL N Q)[i]?=some (nP (Q i)):=fun i h=>zjI Q h
 generalize nL N P=LP at *
 generalize nL N Q=LQ at *
 refine zab (xf:=zwb) rfl (by simp[zwb]) ?_
 simp only[zwb]
 have fl0:=fl 0
 have ce0:=ce 0
 rw[←m0] at fl0
 rw[←x0] at ce0
 generalize hz:minN f 1=lo0 at *
 generalize hy:maxN c 1=hi0 at *
 generalize P 0=P0 at *
 generalize Q 0=Q0 at *
 simp(disch:=omega)only[go_sem,seval,wqq]
 simp(disch:=omega)only[go_sem,seval,wqq,p0,q0,fl0,ce0]
 refine zar zwT.eq_1 (fun(i:Nat) fr M=>1≤i∧i≤N∧fr 0=.lst LP∧fr 1=.lst LQ∧fr 4=.p 0 0∧fr 5=.p 1 0∧fr 6=.p 2 0∧fr 7=.p 3 0∧fr 8=(PV.i .i64 ((i:Nat):Int))∧∃v w G,M=some ⟨[.b false,.nl],true,0⟩::some ⟨[.b false,.nl],true,0⟩::some ⟨(nP (minN f i)).cells,true,v⟩::some ⟨(nP (maxN c i)).cells,true,w⟩::G) (fun i=>N-i) ?_ 1 ⟨by omega,by omega,by simp only[go_sem,seval],by simp only[go_sem,seval],by simp only[go_sem,seval],by simp only[go_sem,seval],by simp only[go_sem,seval],by simp only[go_sem,seval],by simp only[go_sem,seval],_,_,[],by rw[hz,hy];rfl⟩
 clear fl0 ce0 p0 q0 m0 x0
 rintro i fr M ⟨i1,hi,f0,f1,f4,f5,f6,f7,f8,v,w,G,rfl⟩ ih
 by_cases h:i<N
 ·have q1:((i:Int)<(N:Int))=True:=by simp;omega
  have pi:=pa i h
  have qi:=qa i h
  have fli:=fl i
  have cei:=ce i
  have c1:=zaI (f i) (minN f i) (by have:=lf i;omega) (by have:=mt i i1;omega)
  have c2:=zaI (c i) (maxN c i) (by have:=lc i;omega) (by have:=xt i i1;omega)
  have s1:=zkJ f i1
  have s2:=zkG c i1
  unfold min2 at s1
  unfold max2 at s2
  have k1:∀a b:Int,(cmpI a b<0)↔a<b:=fun a b=>by unfold cmpI;split<;>(try split)<;>omega
  have k2:∀a b:Int,(0<cmpI a b)↔b<a:=fun a b=>by unfold cmpI;split<;>(try split)<;>omega
  have e1:(cmpI (f i) (minN f i)<0)=(f i<minN f i):=propext (k1 _ _)
  have e2:(0<cmpI (c i) (maxN c i))=(maxN c i<c i):=propext (k2 _ _)
  generalize hA:minN f i=A at *
  generalize hB:maxN c i=B at *
  generalize hA':minN f (i+1)=A' at *
  generalize hB':maxN c (i+1)=B' at *
  generalize f i=x at *
  generalize c i=y at *
  generalize P i=Pi at *
  generalize Q i=Qi at *
  clear k1 k2
  by_cases hx:x<A
  ·rw[if_pos hx] at s1
   have hx:(x<A)=True:=eq_true hx
   by_cases hy2:B<y
   ·rw[if_pos hy2] at s2
    have hy2:(B<y)=True:=eq_true hy2
    simp(disch:=omega)only[go_sem,seval,wqq,ln,f0,f1,f4,f5,f6,f7,f8,q1,pi,qi,fli,cei,c1,c2,e1,e2,hx,hy2,mG,mG0,sG,sG0,lG,lqq]
    exact ih (i+1) _ _ (by omega) ⟨by omega,by omega,by simp only[go_sem,seval,f0],by simp only[go_sem,seval,f1],by simp only[go_sem,seval,f4],by simp only[go_sem,seval,f5],by simp only[go_sem,seval,f6],by simp only[go_sem,seval,f7],by simp only[go_sem,seval];rw[Int.natCast_succ],_,_,_,by rw[hA',hB',s1,s2];rfl⟩
   ·rw[if_neg hy2] at s2
    have hy2:(B<y)=False:=eq_false hy2
    simp(disch:=omega)only[go_sem,seval,wqq,ln,f0,f1,f4,f5,f6,f7,f8,q1,pi,qi,fli,cei,c1,c2,e1,e2,hx,hy2,mG,mG0,sG,sG0,lG,lqq]
    exact ih (i+1) _ _ (by omega) ⟨by omega,by omega,by simp only[go_sem,seval,f0],by simp only[go_sem,seval,f1],by simp only[go_sem,seval,f4],by simp only[go_sem,seval,f5],by simp only[go_sem,seval,f6],by simp only[go_sem,seval,f7],by simp only[go_sem,seval];rw[Int.natCast_succ],_,_,_,by rw[hA',hB',s1,s2];rfl⟩
  ·rw[if_neg hx] at s1
   have hx:(x<A)=False:=eq_false hx
   by_cases hy2:B<y
   ·rw[if_pos hy2] at s2
    have hy2:(B<y)=True:=eq_true hy2
    simp(disch:=omega)only[go_sem,seval,wqq,ln,f0,f1,f4,f5,f6,f7,f8,q1,pi,qi,fli,cei,c1,c2,e1,e2,hx,hy2,mG,mG0,sG,sG0,lG,lqq]
    exact ih (i+1) _ _ (by omega) ⟨by omega,by omega,by simp only[go_sem,seval,f0],by simp only[go_sem,seval,f1],by simp only[go_sem,seval,f4],by simp only[go_sem,seval,f5],by simp only[go_sem,seval,f6],by simp only[go_sem,seval,f7],by simp only[go_sem,seval];rw[Int.natCast_succ],_,_,_,by rw[hA',hB',s1,s2];rfl⟩
   ·rw[if_neg hy2] at s2
    have hy2:(B<y)=False:=eq_false hy2
    simp(disch:=omega)only[go_sem,seval,wqq,ln,f0,f1,f4,f5,f6,f7,f8,q1,pi,qi,fli,cei,c1,c2,e1,e2,hx,hy2,mG,mG0,sG,sG0,lG,lqq]
    exact ih (i+1) _ _ (by omega) ⟨by omega,by omega,by simp only[go_sem,seval,f0],by simp only[go_sem,seval,f1],by simp only[go_sem,seval,f4],by simp only[go_sem,seval,f5],by simp only[go_sem,seval,f6],by simp only[go_sem,seval,f7],by simp only[go_sem,seval];rw[Int.natCast_succ],_,_,_,by rw[hA',hB',s1,s2];rfl⟩
 ·have q1:((i:Int)<(N:Int))=False:=by simp;omega
  obtain rfl:i=N:=by omega
  generalize minN f i=A at *
  generalize maxN c i=B at *
  simp(disch:=omega)only[go_sem,seval,wqq,f0,f1,f4,f5,f6,f7,f8,q1,ln,mG,mG0,sG,sG0,lG,lqq]
  refine zeJ [6,7] [4] rfl ?_ ?_
  ·simp(disch:=omega)only[go_sem,seval,wqq,f4,f5,f6,f7,mG,mG0,sG,sG0,lG,lqq]
   exact⟨_,rfl,rfl⟩
  simp(disch:=omega)only[go_sem,seval,wqq,f4,f5,f6,f7,mG,mG0,sG,sG0,lG,lqq]
theorem zpP (a b c d:Int):group 2 4 [PV.b (decide (a<0)),Tw (tlen a.natAbs) a.natAbs,PV.b (decide (b<0)),Tw (tlen b.natAbs) b.natAbs,PV.b (decide (c<0)),Tw (tlen c.natAbs) c.natAbs,PV.b (decide (d<0)),Tw (tlen d.natAbs) d.natAbs]=[nP a,nP b,nP c,nP d]:=_root_.id rfl
def pick4 (a b c d:Int) (i:Nat):Int:=if i=0 then a else if i=1 then b else if i=2 then c else d
theorem ziB {a b c d:Int} {N:Nat} (ha:tlen a.natAbs<N) (hb:tlen b.natAbs<N) (hc:tlen c.natAbs<N) (hd:tlen d.natAbs<N) (i:Nat):tlen (pick4 a b c d i).natAbs<N:=by
 unfold pick4;split<;>(try split)<;>(try split)<;>assumption
theorem zmf {a b c d:Int} (ha:a≠0) (hb:b≠0) (hc:c≠0) (hd:d≠0) (i:Nat):pick4 a b c d i≠0:=by
 unfold pick4;split<;>(try split)<;>(try split)<;>assumption
theorem zl5 {a b c d p q r s:Int} (ha:tlen a.natAbs<40000) (hb:tlen b.natAbs<40000) (hc:tlen c.natAbs<40000) (hd:tlen d.natAbs<40000) (hp:tlen p.natAbs<40000) (hq:tlen q.natAbs<40000) (hr:tlen r.natAbs<40000) (hs:tlen s.natAbs<40000)
  (np:p≠0) (nq:q≠0) (nr:r≠0) (ns:s≠0):pf E0 383 [.lst [nP a,nP b,nP c,nP d],.lst [nP p,nP q,nP r,nP s]] =
  some (.tu [nP (min4 (flI (sgA a p) (sgB p)) (flI (sgA b q) (sgB q)) (flI (sgA c r) (sgB r)) (flI (sgA d s) (sgB s))),nP (max4 (ceI (sgA a p) (sgB p)) (ceI (sgA b q) (sgB q)) (ceI (sgA c r) (sgB r)) (ceI (sgA d s) (sgB s)))]) :=
 znV (N:=4) (by decide) (by decide) (pick4 a b c d) (pick4 p q r s) (zmf np nq nr ns) (ziB ha hb hc hd) (ziB hp hq hr hs)
theorem ziw (x y:IV):pf E0 369 [rvP x,rvP y]=some (.tu [rvP (ivMul x y).1,.i .i64 (ivMul x y).2]):=by
 have hp:=zet
 have t1:=zbn x.lo
 have t2:=zbn x.hi
 have t3:=zbn y.lo
 have t4:=zbn y.hi
 have ts:=ztl
 have m1:=zcG x.lo.v y.lo.v (by omega) (by omega)
 have m2:=zcG x.lo.v y.hi.v (by omega) (by omega)
 have m3:=zcG x.hi.v y.lo.v (by omega) (by omega)
 have m4:=zcG x.hi.v y.hi.v (by omega) (by omega)
 have s1:=za8 x.lo.v y.lo.v
 have s2:=za8 x.lo.v y.hi.v
 have s3:=za8 x.hi.v y.lo.v
 have s4:=za8 x.hi.v y.hi.v
 have en:=zl5 (a:=x.lo.v*y.lo.v) (b:=x.lo.v*y.hi.v) (c:=x.hi.v*y.lo.v) (d:=x.hi.v*y.hi.v) (p:=4294967296) (q:=4294967296) (r:=4294967296) (s:=4294967296) (by omega) (by omega) (by omega) (by omega) (by omega) (by omega) (by omega) (by omega) (by decide) (by decide) (by decide) (by decide)
 have sg:∀z:Int,sgA z 4294967296=z:=fun z=>(zgJ (b:=4294967296) (by decide)).1
 have sb:sgB 4294967296=4294967296:=(zgJ (a:=0) (b:=4294967296) (by decide)).2
 simp only[sg,sb] at en
 have tl:tlen (mulLo x y).natAbs<40000:=by
  rcases zlF (flI (x.lo.v*y.lo.v) 4294967296) (flI (x.lo.v*y.hi.v) 4294967296) (flI (x.hi.v*y.lo.v) 4294967296) (flI (x.hi.v*y.hi.v) 4294967296) with h|h|h|h<;>(unfold mulLo;rw[h];exact zki (by omega))
 have th:tlen (mulHi x y).natAbs<40000:=by
  rcases zlD (ceI (x.lo.v*y.lo.v) 4294967296) (ceI (x.lo.v*y.hi.v) 4294967296) (ceI (x.hi.v*y.lo.v) 4294967296) (ceI (x.hi.v*y.hi.v) 4294967296) with h|h|h|h<;>(unfold mulHi;rw[h];exact zmz (by omega))
 have md:=zes (x:=mulLo x y) (y:=mulHi x y) (by omega) (by omega)
 have en:pf E0 383 [.lst [nP (x.lo.v*y.lo.v),nP (x.lo.v*y.hi.v),nP (x.hi.v*y.lo.v),nP (x.hi.v*y.hi.v)],.lst [nP 4294967296,nP 4294967296,nP 4294967296,nP 4294967296]]=some (.tu [nP (mulLo x y),nP (mulHi x y)]):=en
 unfold ivMul
 generalize mdI (mulLo x y) (mulHi x y)=R at *
 generalize mulLo x y=u at *
 generalize mulHi x y=v at *
 generalize x.lo.v*y.lo.v=a at *
 generalize x.lo.v*y.hi.v=b at *
 generalize x.hi.v*y.lo.v=c at *
 generalize x.hi.v*y.hi.v=d at *
 obtain⟨s,hs⟩:∃s:Int,s=4294967296:=⟨_,rfl⟩
 rw[←hs] at hp en
 clear hs sg sb
 refine zab (xf:=zwo) rfl (by simp[zwo]) ?_
 simp only[zwo]
 simp(disch:=omega)only[go_sem,seval,wqq,hp]
 refine zag rfl ?_
 simp(disch:=omega)only[go_sem,seval,wqq,m1,m2,m3,m4,zap,zad,zpP,en,md]
end Go.Eng
set_option maxRecDepth 10000
namespace Go.Eng
theorem zdd (a b:WI) (ha:inB a.v) (hb:b.v≠0):∃q:WI,q.v=dFl a.v b.v∧pf E0 382 [wiP a,wiP b,.fp [.fn 296 [],.fn 297 []]]=some (wiP q):=by
 have sb:=zbW b
 by_cases h:b.v<0
 ·have n1:=ze5 a
  have n2:=ze5 b
  have nv:a.neg.v = -a.v:=rfl
  have bv:b.neg.v = -b.v:=rfl
  have t0:(cmpI b.v 0<0)=True:=by unfold cmpI;rw[if_pos h];simp
  have s1:=zcg (x:=a.neg)
  have hs:wlen (a.neg.v*4294967296).natAbs≤512:=zgb (by rw[nv];exact zhR.2 ha)
  rw[zaJ hs] at s1
  have cv:=zaK hs
  have dv:dFl a.v b.v=flI (a.neg.v*4294967296) b.neg.v:=by unfold dFl sgA sgB;rw[if_pos h,if_pos h];rfl
  rw[dv]
  generalize clip (a.neg.v*4294967296)=z at *
  generalize a.neg=u at *
  generalize b.neg=w at *
  obtain⟨q,qv,fl⟩:∃q:WI,q.v=flI (u.v*4294967296) w.v∧pf E0 296 [wiP z,wiP w]=some (.tu [wiP q,.i .i64 0]):=⟨_,by show z.v/w.v=_;rw[cv];rfl,zcE z w (by omega)⟩
  refine⟨q,qv,?_⟩
  refine zab (xf:=zuB) rfl (by simp[zuB]) ?_
  simp only[zuB]
  simp(disch:=omega)only[go_sem,seval,wqq,sb,t0]
  refine zag rfl ?_
  simp(disch:=omega)only[go_sem,seval,wqq,n1,n2,s1,fl]
 ·have t0:(cmpI b.v 0<0)=False:=by unfold cmpI;rw[if_neg h];split<;>simp
  have s1:=zcg (x:=a)
  have hs:wlen (a.v*4294967296).natAbs≤512:=zgb ha
  rw[zaJ hs] at s1
  have cv:=zaK hs
  have dv:dFl a.v b.v=flI (a.v*4294967296) b.v:=by unfold dFl sgA sgB;rw[if_neg h,if_neg h]
  rw[dv]
  have bv:b.v=b.v:=rfl
  generalize clip (a.v*4294967296)=z at *
  obtain⟨q,qv,fl⟩:∃q:WI,q.v=flI (a.v*4294967296) b.v∧pf E0 296 [wiP z,wiP b]=some (.tu [wiP q,.i .i64 0]):=⟨_,by show z.v/b.v=_;rw[cv];rfl,zcE z b (by omega)⟩
  refine⟨q,qv,?_⟩
  refine zab (xf:=zuB) rfl (by simp[zuB]) ?_
  simp only[zuB]
  simp(disch:=omega)only[go_sem,seval,wqq,sb,t0,s1,fl]
theorem zde (a b:WI) (ha:inB a.v) (hb:b.v≠0):∃q:WI,q.v=dCe a.v b.v∧pf E0 382 [wiP a,wiP b,.fp [.fn 298 [],.fn 299 []]]=some (wiP q):=by
 have sb:=zbW b
 by_cases h:b.v<0
 ·have n1:=ze5 a
  have n2:=ze5 b
  have nv:a.neg.v = -a.v:=rfl
  have bv:b.neg.v = -b.v:=rfl
  have t0:(cmpI b.v 0<0)=True:=by unfold cmpI;rw[if_pos h];simp
  have s1:=zcg (x:=a.neg)
  have hs:wlen (a.neg.v*4294967296).natAbs≤512:=zgb (by rw[nv];exact zhR.2 ha)
  rw[zaJ hs] at s1
  have cv:=zaK hs
  have dv:dCe a.v b.v=ceI (a.neg.v*4294967296) b.neg.v:=by unfold dCe sgA sgB;rw[if_pos h,if_pos h];rfl
  rw[dv]
  generalize clip (a.neg.v*4294967296)=z at *
  generalize a.neg=u at *
  generalize b.neg=w at *
  obtain⟨q,qv,fl⟩:=zdf z w (by omega)
  rw[cv] at qv
  refine⟨q,qv,?_⟩
  refine zab (xf:=zuB) rfl (by simp[zuB]) ?_
  simp only[zuB]
  simp(disch:=omega)only[go_sem,seval,wqq,sb,t0]
  refine zag rfl ?_
  simp(disch:=omega)only[go_sem,seval,wqq,n1,n2,s1,fl]
 ·have t0:(cmpI b.v 0<0)=False:=by unfold cmpI;rw[if_neg h];split<;>simp
  have s1:=zcg (x:=a)
  have hs:wlen (a.v*4294967296).natAbs≤512:=zgb ha
  rw[zaJ hs] at s1
  have cv:=zaK hs
  have dv:dCe a.v b.v=ceI (a.v*4294967296) b.v:=by unfold dCe sgA sgB;rw[if_neg h,if_neg h]
  rw[dv]
  have bv:b.v=b.v:=rfl
  generalize clip (a.v*4294967296)=z at *
  obtain⟨q,qv,fl⟩:=zdf z b (by omega)
  rw[cv] at qv
  refine⟨q,qv,?_⟩
  refine zab (xf:=zuB) rfl (by simp[zuB]) ?_
  simp only[zuB]
  simp(disch:=omega)only[go_sem,seval,wqq,sb,t0,s1,fl]
theorem zjQ (x y:IV) {q1 q2 q3 q4:WI} (h1:pf E0 382 [wiP x.lo,wiP y.lo,.fp [.fn 296 [],.fn 297 []]]=some (wiP q1)) (h2:pf E0 382 [wiP x.lo,wiP y.hi,.fp [.fn 296 [],.fn 297 []]]=some (wiP q2))
  (h3:pf E0 382 [wiP x.hi,wiP y.lo,.fp [.fn 296 [],.fn 297 []]]=some (wiP q3)) (h4:pf E0 382 [wiP x.hi,wiP y.hi,.fp [.fn 296 [],.fn 297 []]]=some (wiP q4)) :
  pf E0 381 [.ag [.fn 296 [],.fn 297 []],ivP x,ivP y,.fn 382 [.fp [.fn 296 [],.fn 297 []]]]=some (wiP (mnU (mnU (mnU q1 q2) q3) q4)):=by
 have b:=zij q1 [q2,q3,q4] (by simp)
 simp only[List.map_cons,List.map_nil,List.foldl_cons,List.foldl_nil] at b
 generalize mnU (mnU (mnU q1 q2) q3) q4=R at *
 refine zab (xf:=zuw) rfl (by simp[zuw]) ?_
 simp only[zuw]
 simp(disch:=omega)only[go_sem,seval,wqq]
 refine zbm [10,16,22,28] rfl ?_ ?_
 ·simp(disch:=omega)only[go_sem,seval,wqq,h1,h2,h3,h4,b,zap,zad,zkB]
  exact⟨_,rfl,rfl⟩
 simp(disch:=omega)only[go_sem,seval,wqq,h1,h2,h3,h4,b,zap,zad,zkB]
theorem zjR (x y:IV) {q1 q2 q3 q4:WI} (h1:pf E0 382 [wiP x.lo,wiP y.lo,.fp [.fn 298 [],.fn 299 []]]=some (wiP q1)) (h2:pf E0 382 [wiP x.lo,wiP y.hi,.fp [.fn 298 [],.fn 299 []]]=some (wiP q2))
  (h3:pf E0 382 [wiP x.hi,wiP y.lo,.fp [.fn 298 [],.fn 299 []]]=some (wiP q3)) (h4:pf E0 382 [wiP x.hi,wiP y.hi,.fp [.fn 298 [],.fn 299 []]]=some (wiP q4)) :
  pf E0 381 [.ag [.fn 298 [],.fn 299 []],ivP x,ivP y,.fn 382 [.fp [.fn 298 [],.fn 299 []]]]=some (wiP (mxU (mxU (mxU q1 q2) q3) q4)):=by
 have b:=zik q1 [q2,q3,q4] (by simp)
 simp only[List.map_cons,List.map_nil,List.foldl_cons,List.foldl_nil] at b
 generalize mxU (mxU (mxU q1 q2) q3) q4=R at *
 refine zab (xf:=zuw) rfl (by simp[zuw]) ?_
 simp only[zuw]
 simp(disch:=omega)only[go_sem,seval,wqq]
 refine zbm [10,16,22,28] rfl ?_ ?_
 ·simp(disch:=omega)only[go_sem,seval,wqq,h1,h2,h3,h4,b,zap,zad,zkB]
  exact⟨_,rfl,rfl⟩
 simp(disch:=omega)only[go_sem,seval,wqq,h1,h2,h3,h4,b,zap,zad,zkB]
theorem zlU (x y:IV) (n1:y.lo.v≠0) (n2:y.hi.v≠0):∃q:WI,q.v=divLo x y∧pf E0 380 [.ag [.fn 296 [],.fn 297 []],.fp (ivP x).cells,.fp (ivP y).cells]=some (wiP q):=by
 obtain⟨q1,v1,h1⟩:=zdd x.lo y.lo x.l n1
 obtain⟨q2,v2,h2⟩:=zdd x.lo y.hi x.l n2
 obtain⟨q3,v3,h3⟩:=zdd x.hi y.lo x.h n1
 obtain⟨q4,v4,h4⟩:=zdd x.hi y.hi x.h n2
 have f:=zjQ x y h1 h2 h3 h4
 have e:(mnU (mnU (mnU q1 q2) q3) q4).v=divLo x y:=by
  rw[zgY,zgY,zgY,v1,v2,v3,v4];rfl
 generalize mnU (mnU (mnU q1 q2) q3) q4=R at *
 refine⟨R,e,?_⟩
 refine zab (xf:=zu1) rfl (by simp[zu1]) ?_
 simp only[zu1]
 simp(disch:=omega)only[go_sem,seval,wqq,f]
theorem zlV (x y:IV) (n1:y.lo.v≠0) (n2:y.hi.v≠0):∃q:WI,q.v=divHi x y∧pf E0 380 [.ag [.fn 298 [],.fn 299 []],.fp (ivP x).cells,.fp (ivP y).cells]=some (wiP q):=by
 obtain⟨q1,v1,h1⟩:=zde x.lo y.lo x.l n1
 obtain⟨q2,v2,h2⟩:=zde x.lo y.hi x.l n2
 obtain⟨q3,v3,h3⟩:=zde x.hi y.lo x.h n1
 obtain⟨q4,v4,h4⟩:=zde x.hi y.hi x.h n2
 have f:=zjR x y h1 h2 h3 h4
 have e:(mxU (mxU (mxU q1 q2) q3) q4).v=divHi x y:=by
  rw[zgZ,zgZ,zgZ,v1,v2,v3,v4];rfl
 generalize mxU (mxU (mxU q1 q2) q3) q4=R at *
 refine⟨R,e,?_⟩
 refine zab (xf:=zu1) rfl (by simp[zu1]) ?_
 simp only[zu1]
 simp(disch:=omega)only[go_sem,seval,wqq,f]
theorem zl6 (x y:IV) (hy:y.ok):pf E0 367 [ivP x,ivP y]=some (.tu [ivP (ivDiv x y).1,.i .i64 (ivDiv x y).2]):=by
 have s1:=zbW y.lo
 have s2:=zbW y.hi
 have k1:∀a:Int,(cmpI a 0≤0)↔a≤0:=fun a=>by unfold cmpI;split<;>(try split)<;>omega
 have k2:∀a:Int,(0≤cmpI a 0)↔0≤a:=fun a=>by unfold cmpI;split<;>(try split)<;>omega
 unfold ivDiv
 by_cases h:has0 y
 ·rw[if_pos h]
  have q1:(cmpI y.lo.v 0≤0)=True:=eq_true ((k1 _).2 h.1)
  have q2:(0≤cmpI y.hi.v 0)=True:=eq_true ((k2 _).2 h.2)
  show _=some (PV.tu [ivP ivZ,PV.i .i64 9])
  rw[zoO]
  refine zab (xf:=zuV) rfl (by simp[zuV]) ?_
  simp only[zuV]
  simp(disch:=omega)only[go_sem,seval,wqq,s1,s2,q1,q2,zap,zad]
 ·rw[if_neg h]
  obtain⟨n1,n2⟩:=zls h hy
  obtain⟨u,uv,e1⟩:=zlU x y n1 n2
  obtain⟨v,vv,e2⟩:=zlV x y n1 n2
  have md:=zgq u v
  rw[uv,vv] at md
  generalize mdI (divLo x y) (divHi x y)=R at *
  rw[zcw,zcw] at e1 e2
  clear uv vv
  by_cases hl:y.lo.v≤0
  ·have q1:(cmpI y.lo.v 0≤0)=True:=eq_true ((k1 _).2 hl)
   have q2:(0≤cmpI y.hi.v 0)=False:=eq_false (fun q=>h ⟨hl,(k2 _).1 q⟩)
   refine zab (xf:=zuV) rfl (by simp[zuV]) ?_
   simp only[zuV]
   simp(disch:=omega)only[go_sem,seval,wqq,s1,s2,q1,q2]
   refine zbm [19,22] rfl ?_ ?_
   ·simp(disch:=omega)only[go_sem,seval,wqq,zkq,zkr,e1,e2,md]
    exact⟨_,rfl,rfl⟩
   simp(disch:=omega)only[go_sem,seval,wqq,zkq,zkr,e1,e2,md]
  ·have q1:(cmpI y.lo.v 0≤0)=False:=eq_false (fun q=>hl ((k1 _).1 q))
   refine zab (xf:=zuV) rfl (by simp[zuV]) ?_
   simp only[zuV]
   simp(disch:=omega)only[go_sem,seval,wqq,s1,q1]
   refine zbm [19,22] rfl ?_ ?_
   ·simp(disch:=omega)only[go_sem,seval,wqq,zkq,zkr,e1,e2,md]
    exact⟨_,rfl,rfl⟩
   simp(disch:=omega)only[go_sem,seval,wqq,zkq,zkr,e1,e2,md]
end Go.Eng
set_option maxRecDepth 10000
namespace Go.Eng
end Go.Eng
namespace Go.Eng
def upd {α:Type} (X:Nat→α) (i:Nat) (v:α):Nat→α:=fun e=>if e=i then v else X e
def cs (n:Nat) (X:Nat→Int):List PV:=(List.range n).map fun e=>.i .i64 (X e)
def zF:Nat→Int:=fun _=>0
end Go.Eng
namespace Go.Eng
end Go.Eng
namespace Go.Eng
noncomputable def cW (w:Nat→WI):List PV:=[.b (decide ((w 0).v<0)),D (w 0).v.natAbs,.b (decide ((w 1).v<0)),D (w 1).v.natAbs,.b (decide ((w 2).v<0)),D (w 2).v.natAbs,.b (decide ((w 3).v<0)),D (w 3).v.natAbs,.b (decide ((w 4).v<0)),D (w 4).v.natAbs,.b (decide ((w 5).v<0)),D (w 5).v.natAbs,.b (decide ((w 6).v<0)),D (w 6).v.natAbs,.b (decide ((w 7).v<0)),D (w 7).v.natAbs,.b (decide ((w 8).v<0)),D (w 8).v.natAbs]
noncomputable def mW (w:Nat→WI):PV:=.ag (cW w)
def cI (p:Nat→Int):List PV:=[.i .i64 (p 0),.i .i64 (p 1),.i .i64 (p 2),.i .i64 (p 3),.i .i64 (p 4),.i .i64 (p 5),.i .i64 (p 6),.i .i64 (p 7),.i .i64 (p 8)]
def pI (p:Nat→Int):PV:=.ag (cI p)
end Go.Eng
namespace Go.Eng
end Go.Eng
namespace Go.Eng
end Go.Eng
namespace Go.Eng
def gN (X:Nat→Int):Nat→Nat
 | 0=>0
 | i+1=>Nat.gcd (gN X i) (X i).natAbs
noncomputable def gW (x:Nat→WI):Nat→WI
 | 0=>wi0
 | i+1=>(gW x i).gcd (x i)
noncomputable def gC (x:Nat→WI):Nat→List PV
 | 0=>[.b false,.nl]
 | i+1=>[.b (decide ((gW x (i+1)).v<0)),D (gW x (i+1)).v.natAbs]
end Go.Eng
namespace Go.Eng
end Go.Eng
namespace Go.Eng
def sB (n:Nat):Nat→Bool:=fun e=>decide (e<n)
def rtK (a b c d e:Int):Int:=a*(b*c)-a*(d*e)
def rdV (z:Nat→Int):Int:=0+rtK (z 0) (z 4) (z 8) (z 5) (z 7)+rtK (z 1) (z 5) (z 6) (z 3) (z 8)+rtK (z 2) (z 3) (z 7) (z 4) (z 6)
end Go.Eng
namespace Go.Eng
end Go.Eng
namespace Go.Eng
end Go.Eng
namespace Go.Eng
def rpK (a b c d e f:Int):Int:=0+a*b+c*d+e*f
def rprV (z u:Nat→Int):Nat→Int:=fun e=>rpK (z (3*(e/3))) (u (e%3)) (z (3*(e/3)+1)) (u (3+e%3)) (z (3*(e/3)+2)) (u (6+e%3))
end Go.Eng

namespace Go.Eng
def mnV (X:Nat→Int) (i k:Nat):Int:=X (3*((i+1)%3)+(k+1)%3)*X (3*((i+2)%3)+(k+2)%3)-X (3*((i+1)%3)+(k+2)%3)*X (3*((i+2)%3)+(k+1)%3)
end Go.Eng
namespace Go.Eng
def mE:Nat→Int:=fun e=>monoI.getD e 0
def exN (i j:Nat):Nat:=(mE (i*3+j)).toNat
def pw3 (X:Nat→Int) (i:Nat):Nat→Int
 | 0=>1
 | j+1=>pw3 X i j*X j^exN i j
def sumT (f:Nat→Int):Nat→Int
 | 0=>0
 | n+1=>sumT f n+f n
noncomputable def wc (t:WI):List PV:=[.b (decide (t.v<0)),D t.v.natAbs]
structure WZ (L:List PV) (s:WI):Prop where
 len:L.length=2
 sc:L.all PV.scal=true
 fz:∀(M:PM) (d:Nat),fzL (fz M (d+1)) L=some (wc s,[])
end Go.Eng
namespace Go.Eng
def cg (n:Nat) (f:Nat→List PV):List PV:=(List.range n).flatMap f
end Go.Eng
namespace Go.Eng
def facT:List (List Int):=[[],[0],[1],[2],[0,0],[0,1],[0,2],[1,1],[1,2],[2,2],[0,0,0],[0,0,1],[0,0,2],[0,1,1],[0,1,2],[0,2,2],[1,1,1],[1,1,2],[1,2,2],[2,2,2]]
def facL (i:Nat):List Int:=facT.getD i []
def prL (X:Nat→Int):List Int→Int
 | []=>1
 | a::l=>X a.toNat*prL X l
end Go.Eng
namespace Go.Eng
end Go.Eng
namespace Go.Eng
theorem zeq {n m:Int} (hn:Fits64 n) (hm:Fits64 m) (h1:1≤m):pf E0 6 [.i .i64 n,.i .i64 m]=some (.i .i64 (aro n m)):=by
 refine zab (xf:=zvH) rfl (by simp[zvH]) ?_
 simp only[zvH]
 unfold Fits64 at hn hm
 have a0:=zby n h1
 have a1:=zeL n h1
 have q1:(m=0)=False:=by simp;omega
 by_cases h:n<0
 ·have e:(0-(n+1)).tmod m=aro n m:=by
   unfold aro
   rw[if_pos h,Int.tmod_eq_emod_of_nonneg (by omega)]
   congr 1;omega
  simp(disch:=omega)only[go_sem,seval,wqq,h,q1,e]
 ·have e:n.tmod m=aro n m:=by
   unfold aro
   rw[if_neg h,Int.tmod_eq_emod_of_nonneg (by omega)]
  simp(disch:=omega)only[go_sem,seval,wqq,h,q1,e]
end Go.Eng
namespace Go.Eng
end Go.Eng
namespace Go.Eng
end Go.Eng
namespace Go.Eng
end Go.Eng
namespace Go.Eng
structure TerOk (X Y S:Int) (C R:Nat) (hs:List Int):Prop where
 c:2≤C∧C≤128
 r:2≤R∧R≤128
 s:1≤S∧S≤65536
 x : -1048576≤X∧X+(C-1)*S≤1048576
 y : -1048576≤Y∧Y+(R-1)*S≤1048576
 len:hs.length=C*R
 h:∀n∈hs,-16384≤n∧n≤16384
theorem TerOk.ints {X Y S:Int} {C R:Nat} {hs:List Int} (t:TerOk X Y S C R hs):Ints hs:=by
 refine⟨?_,fun n hn=>?_⟩
 ·have:C*R≤128*128:=Nat.mul_le_mul t.c.2 t.r.2
  rw[t.len];omega
 ·have:=t.h n hn
  unfold Fits64;omega
end Go.Eng
namespace Go.Eng
end Go.Eng
namespace Go.Eng
end Go.Eng
namespace Go.Eng
end Go.Eng
namespace Go.Eng
end Go.Eng
namespace Go.Eng
end Go.Eng
namespace Go.Eng
end Go.Eng
namespace Go.Eng
end Go.Eng
namespace Go.Eng
end Go.Eng

namespace Go.Eng
end Go.Eng
namespace Go.Eng
def pw (i:Nat):Nat:=2^(2^i)
end Go.Eng
namespace Go.Eng
noncomputable def pwI (i:Nat):WI:=clip ((pw i:Nat):Int)
noncomputable def pwL:Nat→List PV
 | 0=>[]
 | j+1=>pwL j++[.b (decide ((pwI j).v<0)),D (pwI j).v.natAbs]
end Go.Eng
namespace Go.Eng
end Go.Eng
namespace Go.Eng
noncomputable def whQ (n:Int):FQ:=if h:Fits64 n then ⟨wiOf n h,wi1,by decide,Nat.gcd_one_right _⟩ else fq0
end Go.Eng
namespace Go.Eng
noncomputable def qc (f:FQ):List PV:=[.b (decide (f.p.v<0)),D f.p.v.natAbs,.b (decide (f.l.v<0)),D f.l.v.natAbs]
structure QZ (L:List PV) (f:FQ):Prop where
 len:L.length=4
 sc:L.all PV.scal=true
 fz:∀(M:PM) (d:Nat),fzL (fz M (d+1)) L=some (qc f,[])
end Go.Eng
namespace Go.Eng
noncomputable def vc (x:IV):List PV:=[.b (decide (x.lo.v<0)),D x.lo.v.natAbs,.b (decide (x.hi.v<0)),D x.hi.v.natAbs]
structure VZ (L:List PV) (x:IV):Prop where
 len:L.length=4
 sc:L.all PV.scal=true
 fz:∀(M:PM) (d:Nat),fzL (fz M (d+1)) L=some (vc x,[])
def enT (U:Nat→IV) (r:IV×Int) (l:List Int):IV×Int:=l.foldl (fun r a=>if r.2=0 then ivMul r.1 (U a.toNat) else r) r
noncomputable def enX (c:Nat→Int) (U:Nat→IV) (i:Nat) (s:IV) (b:Bool):IV×Int :=
 if b=false∧(enT U (mkI (whQ (c i)) (whQ (c i))) (facL i)).2=0 then ivAdd s (enT U (mkI (whQ (c i)) (whQ (c i))) (facL i)).1 else enT U (mkI (whQ (c i)) (whQ (c i))) (facL i)
noncomputable def enS (c:Nat→Int) (U:Nat→IV):Nat→IV×Bool×Int
 | 0=>(ivZ,true,0)
 | i+1=>if (enS c U i).2.2≠0 then enS c U i else if c i=0 then enS c U i else
  if (enX c U i (enS c U i).1 (enS c U i).2.1).2=0 then ((enX c U i (enS c U i).1 (enS c U i).2.1).1,false,0) else (ivZ,true,(enX c U i (enS c U i).1 (enS c U i).2.1).2)
end Go.Eng
namespace Go.Eng
end Go.Eng
namespace Go.Eng
end Go.Eng
namespace Go.Eng
end Go.Eng
namespace Go.Eng
end Go.Eng
namespace Go.Eng
def chE:Nat→Int:=fun e=>chooI.getD e 0
def chV (i k j:Nat):Int:=chE (exN i j*4+exN k j)
def shP (Y:Nat→Int) (i k:Nat):Nat→Int
 | 0=>1
 | j+1=>shP Y i k j*(chV i k j*Y j^(exN i j-exN k j))
theorem z20:[PV.i .i64 0,PV.i .i64 0,PV.i .i64 0,PV.i .i64 0,PV.i .i64 0,PV.i .i64 0,PV.i .i64 0,PV.i .i64 0,PV.i .i64 0,PV.i .i64 0,PV.i .i64 0,PV.i .i64 0,PV.i .i64 0,PV.i .i64 0,PV.i .i64 0,PV.i .i64 0,PV.i .i64 0,PV.i .i64 0,PV.i .i64 0,PV.i .i64 0]=cs 20 zF:=rfl
end Go.Eng
namespace Go.Eng
end Go.Eng
namespace Go.Eng
def adV (X:Nat→Int):Nat→Int:=fun e=>mnV X (e%3) (e/3)
end Go.Eng
namespace Go.Eng
end Go.Eng
namespace Go.Eng
def isPF (E:PEnv):PV→Bool
 | .fn f _=>E.pure f
 | _=>false
def slotIn4 (E:PEnv) (ops:List XOper) (L V:List Nat) (c:Nat×Nat):Bool :=
 match ops[c.1]?,ops[c.2]? with
 | some a,some b =>
  match a.op with
  | .load _ _ (.t s)=>L.contains s&&(match b.op with | .callv (.t v) _=>V.contains v&&fixedX ops c.2 (.t v)|_=>calmOp E b.op)
  | _=>false
 | _,_=>false
end Go.Eng
namespace Go.Eng
def slarrB (m off n z:Nat) (lo hi:Option PV):Option PB→Option PV
 | some b=>if off+n*z≤b.v.length then slP z (.sl m off n n z) lo hi none else none
 | none=>none
def slarrP (M:PM) (n z:Nat) (lo hi:Option PV):PV→Option PV
 | .p m off=>slarrB m off n z lo hi (PM.blk M m)
 | .fp l=>if n*z≤l.length∧n*z≠0∧l.all PV.scal=true then slP z (.lst (group z n (l.take (n*z)))) lo hi none else none
 | _=>none
def rwV (a b c un ud vn vd:Int):Int:=a*un*vd+b*vn*ud+c*(ud*vd)
end Go.Eng
namespace Go.Eng
def q8 (a b c d e f g h:Int):PV:=.ag [.i .i64 a,.i .i64 b,.i .i64 c,.i .i64 d,.i .i64 e,.i .i64 f,.i .i64 g,.i .i64 h]
end Go.Eng
namespace Go.Eng
end Go.Eng
namespace Go.Eng
end Go.Eng
namespace Go.Eng
end Go.Eng
namespace Go.Eng
def rwF (p:Nat→Int) (i:Nat) (u v:FQ):Int:=rwV (p (3*i)) (p (3*i+1)) (p (3*i+2)) u.p.v u.q.v v.p.v v.q.v
end Go.Eng
namespace Go.Eng
def oneI:Nat→Int:=fun e=>if e%4=0 then 1 else 0
end Go.Eng
namespace Go.Eng
end Go.Eng
namespace Go.Eng
theorem hF (p:Nat→Int):PV.ag [.i .i64 (p 0),.i .i64 (p 1),.i .i64 (p 2),.i .i64 (p 3),.i .i64 (p 4),.i .i64 (p 5),.i .i64 (p 6),.i .i64 (p 7),.i .i64 (p 8)]=pI p:=rfl
def e9 (a b:Nat→Int):Bool:=a 0==b 0&&(a 1==b 1&&(a 2==b 2&&(a 3==b 3&&(a 4==b 4&&(a 5==b 5&&(a 6==b 6&&(a 7==b 7&&a 8==b 8)))))))
end Go.Eng
namespace Go.Eng
def gEnt (n d:Int):Int:=if n.tmod 6=1∨n.tmod 6 = -1 then (n.tdiv 6).tmod 8 else if n.tmod 6=2 then (n.tdiv 6).tmod 1000 else if n.tmod 6=3 then 1073741824-(n.tdiv 6).tmod 4 else d
def g0P:Nat→Int:=fun e=>if e=0 then 2 else if e=4 then 2 else if e=8 then 1 else 0
def gMix (ns:Nat→Int) (i:Nat):Nat→Int:=fun e=>if e<i then gEnt (ns e) (g0P e) else g0P e
theorem gk0 (ns:Nat→Int) (h:gEnt (ns 0) (g0P 0)=g0P 0):cI (gMix ns 0)=cI (gMix ns 1):=by
 have e:gMix ns 0=gMix ns 1:=by
  funext e
  unfold gMix
  by_cases q:e=0
  ·subst q;rw[if_neg (by decide),if_pos (by decide),h]
  ·by_cases r:e<0
   ·rw[if_pos r,if_pos (by omega)]
   ·rw[if_neg r,if_neg (by omega)]
 rw[e]
end Go.Eng
namespace Go.Eng
end Go.Eng
namespace Go.Eng
end Go.Eng
namespace Go.Eng
end Go.Eng
namespace Go.Eng
end Go.Eng
namespace Go.Eng
end Go.Eng
namespace Go.Eng
end Go.Eng
namespace Go.Eng
end Go.Eng
namespace Go.Eng
end Go.Eng
set_option maxRecDepth 10000
namespace Go.Eng
theorem ziR {z:Int} (h : -1000000≤z∧z≤1000000):wlen z.natAbs≤512:=zi5 (by unfold Fits64;omega)
theorem zmk (f:FQ):pf E0 197 [.s (ftx f.p.v f.q.v)]=some (.tu [fqP f,.i .i64 0]):=zix f (by have:=zds f;omega)
theorem zkh (f:FQ):pf E0 196 [rfQ f]=some (.s (ftx f.p.v f.q.v)):=zeu _ _ (by have:=zbn f.p;omega) (by have:=zbn f.q;omega)
theorem zgr (f:FQ):pf E0 500 [rfQ f]=some (fqP f):=by
 have h1:=zkh f
 have h2:=zmk f
 generalize ftx f.p.v f.q.v=t at *
 refine zab (xf:=zvF) rfl (by simp[zvF]) ?_
 simp only[zvF]
 simp(disch:=omega)only[go_sem,seval,wqq,h1,h2]
theorem zb5 (x:IV):pf E0 501 [ivP x,rvP x]=some (.b true):=by
 have h1:=zcf x
 have h2:=zjY x
 generalize ivTx x=t at *
 refine zab (xf:=zv6) rfl (by simp[zv6]) ?_
 simp only[zv6]
 simp(disch:=omega)only[go_sem,seval,wqq]
 refine zag rfl ?_
 simp(disch:=omega)only[go_sem,seval,wqq,h1,h2,decide_true]
end Go.Eng
set_option maxRecDepth 10000
namespace Go.Eng
theorem zjA {z:Int} (h:Fits64 z):inK 64 z:=by
 unfold inK
 unfold Fits64 at h
 have:(2:Nat)^64=18446744073709551616:=by decide
 omega
theorem zjG {a b:FQ} {l h:Int} (f1:Fits64 a.p.v) (f2:Fits64 a.q.v) (f3:Fits64 b.p.v) (f4:Fits64 b.q.v) (hl:min2 (fdQ a) (fdQ b)=l) (hh:max2 (ceQ a) (ceQ b)=h):(mkI a b).2=0∧(mkI a b).1.lo.v=l∧(mkI a b).1.hi.v=h:=by
 have big:∀f:FQ,Fits64 f.p.v→inB (fdQ f)∧inB (ceQ f):=fun f hf=>by
  have hm:inK 97 (f.p.v*4294967296):=zfA (zjA hf) znl (by decide)
  refine⟨zbp (zkC hm (zcb _ _)) (by decide),?_⟩
  have:inK 97 (-(f.p.v*4294967296)):=zfB.2 hm
  refine zbp (i:=97) ?_ (by decide)
  unfold ceQ ceI
  rw[zfB]
  exact zkC this (zcb _ _)
 have so:∀c d:FQ,Fits64 c.p.v→Fits64 c.q.v→Fits64 d.p.v→Fits64 d.q.v→(mkSo c d).2=0:=fun c d g1 g2 g3 g4=>by
  have il:∀{z:Int},Fits64 z→inL z:=fun q=>zbp (zjA q) (by decide)
  unfold mkSo
  rw[if_pos ⟨il g1,il g2,il g3,il g4⟩]
  exact(zfE ⟨(big c g1).1,(big d g3).2⟩).1
 have z:(mkI a b).2=0:=by
  unfold mkI
  split
  ·exact so b a f3 f4 f1 f2
  ·exact so a b f1 f2 f3 f4
 obtain⟨v1,v2⟩:=zp4 z
 exact⟨z,v1.trans hl,v2.trans hh⟩
theorem zju (x:WI):(frQ x).p.v=lowP x.v 4294967296∧(frQ x).q.v=lowQ x.v 4294967296:=by
 obtain⟨_,h1,h2⟩:=zp2 (x:=x) (y:=w32) (by rw[zhd];decide)
 exact⟨h1,h2⟩
theorem zfD {x:IV} {l h p1 q1 p2 q2:Int} {s t:List UInt8} (hl:x.lo.v=l) (hh:x.hi.v=h) (e1:lowP l 4294967296=p1) (e2:lowQ l 4294967296=q1) (e3:lowP h 4294967296=p2) (e4:lowQ h 4294967296=q2) (hs:ftx p1 q1=s) (ht:ftx p2 q2=t) :
  ivTx x=[91]++s++[44,32]++t++[93]:=by
 unfold ivTx
 rw[(zju x.lo).1,(zju x.lo).2,(zju x.hi).1,(zju x.hi).2,hl,hh,e1,e2,e3,e4,hs,ht]
theorem zgV {f:FQ} {p q l h:Int} (hp:f.p.v=p) (hq:f.q.v=q) (e1:flI (p*4294967296) q=l) (e2:ceI (p*4294967296) q=h):fdQ f=l∧ceQ f=h:=by
 unfold fdQ ceQ
 rw[hp,hq];exact⟨e1,e2⟩
set_option maxHeartbeats 4000000 in
theorem zjU:pf E0 502 []=some (.b true):=by
 obtain⟨o,o1,o2,_,fo⟩:=zg0 (p:=1) (q:=1) (a:=1) (b:=1) (by decide) (by decide) (by decide) (by decide) (by decide) (zaj (by decide)) (zaj (by decide))
 obtain⟨t,t1,t2,_,ft⟩:=zg0 (p:=1) (q:=3) (a:=1) (b:=3) (by decide) (by decide) (by decide) (by decide) (by decide) (zaj (by decide)) (zaj (by decide))
 obtain⟨h,h1,h2,_,fh⟩:=zg0 (p:=1) (q:=2) (a:=1) (b:=2) (by decide) (by decide) (by decide) (by decide) (by decide) (zaj (by decide)) (zaj (by decide))
 obtain⟨w,w1,w2,_,fw⟩:=zg0 (p:=2) (q:=1) (a:=2) (b:=1) (by decide) (by decide) (by decide) (by decide) (by decide) (zaj (by decide)) (zaj (by decide))
 obtain⟨u,u1,u2,_,fu⟩:=zg0 (p:=4) (q:=1) (a:=4) (b:=1) (by decide) (by decide) (by decide) (by decide) (by decide) (zaj (by decide)) (zaj (by decide))
 obtain⟨v,v1,v2,_,fv⟩:=zg0 (p:=8) (q:=1) (a:=8) (b:=1) (by decide) (by decide) (by decide) (by decide) (by decide) (zaj (by decide)) (zaj (by decide))
 obtain⟨to1,to2⟩:=zgV (l:=4294967296) (h:=4294967296) o1 o2 (by decide) (by decide)
 obtain⟨tt1,tt2⟩:=zgV (l:=1431655765) (h:=1431655766) t1 t2 (by decide) (by decide)
 obtain⟨th1,th2⟩:=zgV (l:=2147483648) (h:=2147483648) h1 h2 (by decide) (by decide)
 obtain⟨tw1,tw2⟩:=zgV (l:=8589934592) (h:=8589934592) w1 w2 (by decide) (by decide)
 obtain⟨tu1,tu2⟩:=zgV (l:=17179869184) (h:=17179869184) u1 u2 (by decide) (by decide)
 obtain⟨tv1,tv2⟩:=zgV (l:=34359738368) (h:=34359738368) v1 v2 (by decide) (by decide)
 have fi:∀{z n:Int},z=n→Fits64 n→Fits64 z:=fun h g=>h ▸ g
 obtain⟨a0,a1,a2⟩:=zjG (a:=h) (b:=h) (l:=2147483648) (h:=2147483648) (fi h1 (by decide)) (fi h2 (by decide)) (fi h1 (by decide)) (fi h2 (by decide)) (by rw[th1];decide) (by rw[th2];decide)
 obtain⟨b0,b1,b2⟩:=zjG (a:=t) (b:=t) (l:=1431655765) (h:=1431655766) (fi t1 (by decide)) (fi t2 (by decide)) (fi t1 (by decide)) (fi t2 (by decide)) (by rw[tt1];decide) (by rw[tt2];decide)
 obtain⟨c0,c1,c2⟩:=zjG (a:=o) (b:=w) (l:=4294967296) (h:=8589934592) (fi o1 (by decide)) (fi o2 (by decide)) (fi w1 (by decide)) (fi w2 (by decide)) (by rw[to1,tw1];decide) (by rw[to2,tw2];decide)
 obtain⟨d0,d1,d2⟩:=zjG (a:=v) (b:=u) (l:=17179869184) (h:=34359738368) (fi v1 (by decide)) (fi v2 (by decide)) (fi u1 (by decide)) (fi u2 (by decide)) (by rw[tv1,tu1];decide) (by rw[tv2,tu2];decide)
 have ma:=zgp h
 have mb:=zgp t
 have mc:=zcF o w
 have md:=zcF v u
 have dv:=zl6 (mkI o w).1 (mkI v u).1 (znq _ _)
 rw[a0] at ma
 rw[b0] at mb
 rw[c0] at mc
 rw[d0] at md
 generalize (mkI h h).1=A at *
 generalize (mkI t t).1=B at *
 generalize (mkI o w).1=C at *
 generalize (mkI v u).1=D at *
 have n0:¬has0 D:=by unfold has0;omega
 have el:divLo C D=536870912:=by unfold divLo;rw[c1,c2,d1,d2];decide
 have eh:divHi C D=2147483648:=by unfold divHi;rw[c1,c2,d1,d2];decide
 have eq:ivDiv C D=mdI 536870912 2147483648:=by unfold ivDiv;rw[if_neg n0,el,eh]
 obtain⟨q0,q1,q2⟩:=zfE (lo:=536870912) (hi:=2147483648) ⟨zbp (zjA (by decide)) (by decide),zbp (zjA (by decide)) (by decide)⟩
 rw[eq,q0] at dv
 generalize (mdI 536870912 2147483648).1=Q at *
 have k1:decI 1=[49]:=(zdq (v:=1) (n:=0) rfl (by decide) (by decide)).trans rfl
 have k2:decI 2=[50]:=(zdq (v:=2) (n:=0) rfl (by decide) (by decide)).trans rfl
 have k8:decI 8=[56]:=(zdq (v:=8) (n:=0) rfl (by decide) (by decide)).trans rfl
 have k3:decI 1431655765=[49,52,51,49,54,53,53,55,54,53]:=(zdq (v:=1431655765) (n:=9) rfl (by decide) (by decide)).trans rfl
 have k4:decI 4294967296=[52,50,57,52,57,54,55,50,57,54]:=(zdq (v:=4294967296) (n:=9) rfl (by decide) (by decide)).trans rfl
 have k5:decI 715827883=[55,49,53,56,50,55,56,56,51]:=(zdq (v:=715827883) (n:=8) rfl (by decide) (by decide)).trans rfl
 have k6:decI 2147483648=[50,49,52,55,52,56,51,54,52,56]:=(zdq (v:=2147483648) (n:=9) rfl (by decide) (by decide)).trans rfl
 have x12:ftx 1 2=[49,47,50]:=by unfold ftx;rw[if_neg (by decide),k1,k2];rfl
 have x18:ftx 1 8=[49,47,56]:=by unfold ftx;rw[if_neg (by decide),k1,k8];rfl
 have xb1:ftx 1431655765 4294967296=[49,52,51,49,54,53,53,55,54,53,47,52,50,57,52,57,54,55,50,57,54]:=by unfold ftx;rw[if_neg (by decide),k3,k4];rfl
 have xb2:ftx 715827883 2147483648=[55,49,53,56,50,55,56,56,51,47,50,49,52,55,52,56,51,54,52,56]:=by unfold ftx;rw[if_neg (by decide),k5,k6];rfl
 have sa:=zcf A
 have sb:=zcf B
 have sq:=zcf Q
 rw[zfD a1 a2 (p1:=1) (q1:=2) (p2:=1) (q2:=2) (by decide) (by decide) (by decide) (by decide) x12 x12] at sa
 rw[zfD b1 b2 (p1:=1431655765) (q1:=4294967296) (p2:=715827883) (q2:=2147483648) (by decide) (by decide) (by decide) (by decide) xb1 xb2] at sb
 rw[zfD q1 q2 (p1:=1) (q1:=8) (p2:=1) (q2:=2) (by decide) (by decide) (by decide) (by decide) x18 x12] at sq
 simp only[List.cons_append,List.nil_append] at sa sb sq
 clear a1 a2 b1 b2 c1 c2 d1 d2 q1 q2 h1 h2 t1 t2 o1 o2 w1 w2 u1 u2 v1 v2 to1 to2 tt1 tt2 th1 th2 tw1 tw2 tu1 tu2 tv1 tv2
 refine zab (xf:=zvP) rfl (by simp[zvP]) ?_
 simp only[zvP]
 have hx:xs_8253e7=[91,49,52,51,49,54,53,53,55,54,53,47,52,50,57,52,57,54,55,50,57,54,44,32,55,49,53,56,50,55,56,56,51,47,50,49,52,55,52,56,51,54,52,56,93]:=rfl
 simp(disch:=omega)only[go_sem,seval,wqq,fo,ft,fh,fw,fu,fv,ma,mb,mc,md,dv,sa,sb,sq,hx,decide_true]
end Go.Eng
set_option maxRecDepth 10000
namespace Go.Eng
end Go.Eng
set_option maxRecDepth 10000
namespace Go.Eng
end Go.Eng
namespace Go.Eng
def vbN (n:Nat):List Nat:=if n<128 then [n] else (128+n%128)::vbN (n/128)
termination_by n
end Go.Eng
namespace Go.Eng
def rdU (i n:Nat):List Nat→Nat×List Nat×Int
 | []=>(0,[],3)
 | c::l=>if (i=9∧1<c)∨(0<i∧c=0) then (0,l,2) else if c<128 then (n+c*128^i,l,0) else rdU (i+1) (n+c%128*128^i) l
end Go.Eng
namespace Go.Eng
end Go.Eng
namespace Go.Eng
end Go.Eng
namespace Go.Eng
end Go.Eng
namespace Go.Eng
end Go.Eng
namespace Go.Eng
def bin2 (n k:Nat) (y:Int):Int:=if k≤n then chE (n*4+k)*y^(n-k) else 0
end Go.Eng
namespace Go.Eng
end Go.Eng
namespace Go.Eng
end Go.Eng
namespace Go.Eng
end Go.Eng
namespace Go.Eng
end Go.Eng
namespace Go.Eng
end Go.Eng
namespace Go.Eng
end Go.Eng
namespace Go.Eng
end Go.Eng
namespace Go.Eng
end Go.Eng
set_option maxRecDepth 10000
namespace Go.Eng
end Go.Eng
namespace Go.Eng
theorem zlT {n m:Int} (hn:Fits64 n) (h0:0≤m) (h1:m≤1152921504606846976):pf E0 122 [.i .i64 n,.i .i64 m]=some (.i .i64 (aro n (2*m+1)-m)):=by
 refine zab (xf:=zvK) rfl (by simp[zvK]) ?_
 simp only[zvK]
 have ha:=zeq (m:=2*m+1) hn (by unfold Fits64;omega) (by omega)
 have a0:=zby n (m:=2*m+1) (by omega)
 have a1:=zeL n (m:=2*m+1) (by omega)
 simp(disch:=omega)only[go_sem,seval,wqq,ha]
end Go.Eng
set_option maxRecDepth 10000
namespace Go.Eng
def k6 (i:Nat):Nat:=if i=0 then 8159 else if i=1 then 8160 else if i=2 then 8192 else if i=3 then 15999 else if i=4 then 16000 else 16001
theorem zte:[PV.i .i64 8159,.i .i64 8160,.i .i64 8192,.i .i64 15999,.i .i64 16000,.i .i64 16001]=cg 6 (fun e=>[(PV.i .i64 ((k6 e:Nat):Int))]):=rfl
theorem zlw (i:Nat):k6 i≤16001:=by unfold k6;repeat (first|omega|split)
theorem ztX {j:Nat} (h:j<6):(cg 6 (fun e=>[(PV.i .i64 ((k6 e:Nat):Int))]))[j]?=some ((PV.i .i64 ((k6 j:Nat):Int))):=by
 have:j=0∨j=1∨j=2∨j=3∨j=4∨j=5:=by omega
 rcases this with h|h|h|h|h|h<;>subst h<;>rfl
theorem ziQ {z:Int} (h : -100≤z∧z≤100):inK 7 z:=by unfold inK;obtain⟨a,b⟩:=h;constructor<;>simp<;>omega
theorem zua {z:Int} (h:wlen z.natAbs≤512):tlen z.natAbs<90000:=by have:=zcr (clip z);rw[zaK h] at this;omega
theorem zkQ (a:FQ):pf E0 188 [rfQ a]=some (rfQ a.neg):=zl9 a.p.v a.q.v (by have:=zcr a.p;omega)
theorem zkj {z:Int} (h:wlen z.natAbs≤512):tlen z.natAbs<100000000:=Nat.lt_trans (zua h) (by decide)
set_option maxHeartbeats 4000000 in
theorem p_IvalLimits {k n m:Int} (hk:Fits64 k) (hn:Fits64 n) (hm:Fits64 m):pf E0 494 [.i .i64 k,.i .i64 n,.i .i64 m]=some (.b true):=by
 have b1:=zlT (n:=n) (m:=2) hn (by decide) (by decide)
 have b2:=zeq (n:=k) (m:=6) hk (by decide) (by decide)
 have b3:=zeq (n:=m) (m:=3) hm (by decide) (by decide)
 have a1:=zby n (m:=2*2+1) (by decide)
 have a2:=zeL n (m:=2*2+1) (by decide)
 obtain⟨d,hd⟩:∃d,d=aro n (2*2+1)-2:=⟨_,rfl⟩
 rw[←hd] at b1
 have d1 : -2≤d∧d≤2:=by omega
 obtain⟨j,hj⟩:=Int.eq_ofNat_of_zero_le (zby k (m:=6) (by decide))
 obtain⟨t,ht⟩:=Int.eq_ofNat_of_zero_le (zby m (m:=3) (by decide))
 have j6:j<6:=by have:=zeL k (m:=6) (by decide);omega
 have t3:t<3:=by have:=zeL m (m:=3) (by decide);omega
 rw[hj] at b2
 rw[ht] at b3
 have t31:((t:Int)*31)=((t*31:Nat):Int):=by omega
 have e1:=zcH (k6 j) (by have:=zlw j;omega)
 have e2:=zcH (t*31) (by omega)
 have o1:=zfJ d (by unfold Fits64;omega)
 have dd:0≤d*d∧d*d≤4:=by
  have:d = -2∨d = -1∨d=0∨d=1∨d=2:=by omega
  rcases this with h|h|h|h|h<;>rw[h]<;>decide
 have o2:=zfJ (1+d*d) (by unfold Fits64;omega)
 have lv:=zjU
 refine zab (xf:=zva) rfl (by simp[zva]) ?_
 simp only[zva]
 have qL:(j<6)=True:=eq_true j6
 have gx:=ztX j6
 have kd:inK 16002 d:=zbp (ziQ (by omega)) (by decide)
 have kdd:inK 16003 (1+d*d):=zbp (ziQ (by omega)) (by decide)
 have kP:inK 16003 (two (k6 j)+d):=zfz (i:=16002) (zhT (by have:=zlw j;omega)) kd (by decide)
 have kQ:inK 16004 (two (k6 j)+d+(1+d*d)):=zfz kP kdd (by decide)
 have wP:=zfC kP (by decide)
 have wQ:=zfC kQ (by decide)
 have wT:wlen (two (t*31)).natAbs≤512:=zhe (by omega)
 have s1:=ze8 (two (k6 j)) d (zkj (zhe (by have:=zlw j;omega))) (zkj (ziR (by omega)))
 have s2:=ze8 (two (k6 j)+d) (1+d*d) (zkj wP) (zkj (ziR (by omega)))
 generalize two (k6 j)+d=P at *
 generalize P+(1+d*d)=Q at *
 generalize two (t*31)=R at *
 have m1:=ziq (clip P) (clip R)
 have m2:=ziq (clip Q) (clip P)
 rw[zaK wP,zaK wT] at m1
 rw[zaK wP,zaK wQ] at m2
 generalize makF (clip P) (clip R)=A1 at *
 generalize makF (clip Q) (clip P)=A2 at *
 obtain⟨A1,E1⟩:=A1
 obtain⟨A2,E2⟩:=A2
 have nbb:∀b:Bool,(b==b)=true:=fun b=>by cases b<;>rfl
 by_cases h4:m%4=0
 ·have h4t:m.tmod 4=0:=Int.tmod_eq_zero_of_dvd (Int.dvd_of_emod_eq_zero h4)
  have n1:=zgr A2
  have n2:=zgr A2.neg
  have ng:=zkQ A2
  have x1:=zcF A2 A2.neg
  have x2:=zdi A2 A2.neg
  have y1:=zgp A2.neg
  have y2:=zdi A2.neg A2.neg
  generalize A2.neg=B2 at *
  generalize mkI A2 B2=X at *
  generalize mkI B2 B2=Y at *
  obtain⟨X,EX⟩:=X
  obtain⟨Y,EY⟩:=Y
  have v1:=zio X X
  have v2:=ziv X X
  have v3:=zip X Y
  have v4:=ziw X Y
  generalize ivAdd X X=U at *
  generalize ivMul X Y=V at *
  obtain⟨U,EU⟩:=U
  obtain⟨V,EV⟩:=V
  have c1:=zb5 X
  have c2:=zb5 Y
  have c3:=zb5 U
  have c4:=zb5 V
  simp(disch:=omega)only[go_sem,seval,wqq,b1,b2,b3,t31,e1,e2,o1,o2,s1,s2,m1,m2,zap,zad,zte,qL,gx,h4t,decide_true,decide_false,ng]
  refine zag rfl ?_
  simp(disch:=omega)only[go_sem,seval,wqq,o2,s2,m1,m2,ng,n1,n2,x1,x2,y1,y2]
  refine zag rfl ?_
  simp(disch:=omega)only[go_sem,seval,wqq,o2,s2,m1,m2,ng,n1,n2,x1,x2,y1,y2,v1,v2,v3,v4,c1,c2,c3,c4,lv,ne_eq,not_true_eq_false,decide_false,nbb,Bool.not_true]
 ·have h4t:(m.tmod 4=0)=False:=eq_false (fun h=>h4 (Int.emod_eq_zero_of_dvd (Int.dvd_of_tmod_eq_zero h)))
  have n1:=zgr A1
  have n2:=zgr A1.neg
  have ng:=zkQ A1
  have x1:=zcF A1 A1.neg
  have x2:=zdi A1 A1.neg
  have y1:=zgp A1.neg
  have y2:=zdi A1.neg A1.neg
  generalize A1.neg=B2 at *
  generalize mkI A1 B2=X at *
  generalize mkI B2 B2=Y at *
  obtain⟨X,EX⟩:=X
  obtain⟨Y,EY⟩:=Y
  have v1:=zio X X
  have v2:=ziv X X
  have v3:=zip X Y
  have v4:=ziw X Y
  generalize ivAdd X X=U at *
  generalize ivMul X Y=V at *
  obtain⟨U,EU⟩:=U
  obtain⟨V,EV⟩:=V
  have c1:=zb5 X
  have c2:=zb5 Y
  have c3:=zb5 U
  have c4:=zb5 V
  simp(disch:=omega)only[go_sem,seval,wqq,b1,b2,b3,t31,e1,e2,o1,o2,s1,s2,m1,m2,zap,zad,zte,qL,gx,h4t,decide_true,decide_false,ng]
  refine zag rfl ?_
  simp(disch:=omega)only[go_sem,seval,wqq,o2,s2,m1,m2,ng,n1,n2,x1,x2,y1,y2,v1,v2,v3,v4,c1,c2,c3,c4,lv,ne_eq,not_true_eq_false,decide_false,nbb,Bool.not_true]
