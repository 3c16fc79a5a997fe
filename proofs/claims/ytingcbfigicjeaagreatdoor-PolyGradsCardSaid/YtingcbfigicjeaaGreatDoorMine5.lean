/- The engine and the contracts on which the statement stands: no conditions of its own. -/
import Derived.Test.YtingcbfigicjeaaGreatDoorMine4
set_option linter.unusedSimpArgs false
set_option linter.unusedVariables false
set_option linter.unusedSectionVars false
namespace Go.Eng
theorem zfY {c:Nat→Int} {U:Nat→FQ}:pf E0 409 [aI 20 c,fqP (U 0),fqP (U 1),fqP (U 2)]=some (.tu [fqP (evR c U),.i .i64 (evE c U)]):=by
 by_cases hc:okC c
 ·exact zmC hc
 ·have e1:evE c U=1:=if_neg hc
  have e2:evR c U=fq0:=by unfold evR;rw[e1];rfl
  rw[e1,e2]
  exact zmB hc _ _ _
theorem zle {f:FQ} {n d:Int} {k:Nat} (h:f.is n d) (hd:d≠0) (hn:tlen n.natAbs≤k) (hl:tlen d.natAbs≤k) (hk:k<1230):fsz k f:=by
 obtain⟨g,g1,g2,g3⟩:=zit hd hn hl hk
 obtain rfl:f=g:=ziq hd hd h (zd6 hd g1 g2) rfl
 exact g3
theorem zip {f:FQ} {n d k:Int} (hk:k≠0) (h:f.is (n*k) (d*k)):f.is n d:=by
 have h:f.p.v*(d*k)=n*k*f.q.v:=h
 show f.p.v*d=n*f.q.v
 refine Int.eq_of_mul_eq_mul_right hk ?_
 rw[Int.mul_assoc,h]
 grind
def pP (U:Nat→FQ):Nat→Int:=fun j=>(U j).p.v
def qQ (U:Nat→FQ):Nat→Int:=fun j=>(U j).q.v
theorem zpC {U:Nat→FQ} {n:Nat} (hU:∀j,j<3→fsz n (U j)):∀(l:List Int) (t:FQ) (x d:Int) (m:Nat),(∀a∈l,a=0∨a=1∨a=2)→t.is x d→fsz m t→m+n*l.length<1230 →
  (tF U t l).is (x*prL (pP U) l) (d*prL (qQ U) l)∧fsz (m+n*l.length) (tF U t l)
 | [],t,x,d,m,_,h1,h2,_=>by
  show t.is (x*1) (d*1)∧fsz (m+n*0) t
  rw[Int.mul_one,Int.mul_one]
  exact⟨h1,h2⟩
 | a::l,t,x,d,m,ha,h1,h2,h3=>by
  have ej:a.toNat<3:=by rcases ha a List.mem_cons_self with rfl|rfl|rfl<;>decide
  rw[List.length_cons,Nat.mul_succ] at h3
  obtain⟨i1,i2,_⟩:=ziv t (U a.toNat) h2 (hU _ ej) (by omega) h1 (zcV _)
  obtain⟨k1,k2⟩:=zpC hU l (mF t (U a.toNat)) _ _ (m+n) (fun b hb=>ha b (List.mem_cons_of_mem _ hb)) i1 i2 (by omega)
  have e:tF U t (a::l)=tF U (mF t (U a.toNat)) l:=rfl
  rw[e]
  refine⟨?_,?_⟩
  ·have e1:x*prL (pP U) (a::l)=x*(U a.toNat).p.v*prL (pP U) l:=by rw[prL,←Int.mul_assoc];rfl
   have e2:d*prL (qQ U) (a::l)=d*(U a.toNat).q.v*prL (qQ U) l:=by rw[prL,←Int.mul_assoc];rfl
   rw[e1,e2];exact k1
  ·rw[List.length_cons,Nat.mul_succ]
   exact⟨Nat.le_trans k2.1 (by omega),Nat.le_trans k2.2 (by omega)⟩
def coV (Q:Nat→Int) (i:Nat):Int:=Q 0^(3-exN i 0)*Q 1^(3-exN i 1)*Q 2^(3-exN i 2)
def dnV (Q:Nat→Int):Int:=Q 0^3*Q 1^3*Q 2^3
theorem zpk (x:Int) {e:Nat} (h:e≤3):x^e*x^(3-e)=x^3:=by rw[←Int.pow_add];congr 1;omega
theorem zow (Q:Nat→Int) {i:Nat} (h:i<20):moV Q i*coV Q i=dnV Q:=by
 have h0:=zpk (Q 0) (zaQ i h 0 (by decide)).2
 have h1:=zpk (Q 1) (zaQ i h 1 (by decide)).2
 have h2:=zpk (Q 2) (zaQ i h 2 (by decide)).2
 have e:moV Q i=1*Q 0^exN i 0*Q 1^exN i 1*Q 2^exN i 2:=rfl
 rw[e]
 unfold coV dnV
 rw[←h0,←h1,←h2]
 grind
theorem zba {x:Int} {n:Nat} (h:tlen x.natAbs≤n):∀k:Nat,tlen (x^k).natAbs≤1+n*k
 | 0=>by rw[Int.pow_zero];have:=zfs (z:=1) (by decide);omega
 | k+1=>by
  have:=zba h k
  have m:=zav (x^k) x
  rw[Int.pow_succ,Nat.mul_succ]
  omega
theorem zlY {U:Nat→FQ}:dnV (qQ U)≠0:=by
 have q:∀j,(qQ U j)≠0:=fun j=>by have:=(U j).q1;show (U j).q.v≠0;omega
 exact Int.mul_ne_zero (Int.mul_ne_zero (Int.pow_ne_zero (q 0)) (Int.pow_ne_zero (q 1))) (Int.pow_ne_zero (q 2))
def evS (c P Q:Nat→Int) (i:Nat):Int:=sumT (fun i=>c i*moV P i*coV Q i) i
theorem zjq {c P Q:Nat→Int} {n i:Nat} (hc:okC c) (h:i<20) (hP:∀j,j<3→tlen (P j).natAbs≤n) (hQ:∀j,j<3→tlen (Q j).natAbs≤n):tlen (c i*moV P i*coV Q i).natAbs≤11+9*n:=by
 have ck:Fits64 (c i):=by have:=hc i h;unfold Fits64;omega
 have a0:=zs4 ck
 have e:moV P i=1*P 0^exN i 0*P 1^exN i 1*P 2^exN i 2:=rfl
 have d0:=(zaQ i h 0 (by decide)).2
 have d1:=(zaQ i h 1 (by decide)).2
 have d2:=(zaQ i h 2 (by decide)).2
 have p0:=zba (hP 0 (by decide)) (exN i 0)
 have p1:=zba (hP 1 (by decide)) (exN i 1)
 have p2:=zba (hP 2 (by decide)) (exN i 2)
 have q0:=zba (hQ 0 (by decide)) (3-exN i 0)
 have q1:=zba (hQ 1 (by decide)) (3-exN i 1)
 have q2:=zba (hQ 2 (by decide)) (3-exN i 2)
 have s0:n*exN i 0+n*(3-exN i 0)=n*3:=by rw[←Nat.mul_add];congr 1;omega
 have s1:n*exN i 1+n*(3-exN i 1)=n*3:=by rw[←Nat.mul_add];congr 1;omega
 have s2:n*exN i 2+n*(3-exN i 2)=n*3:=by rw[←Nat.mul_add];congr 1;omega
 rw[e,Int.one_mul]
 unfold coV
 generalize exN i 0=x0 at *
 generalize exN i 1=x1 at *
 generalize exN i 2=x2 at *
 have m1:=zav (P 0^x0) (P 1^x1)
 have m2:=zav (P 0^x0*P 1^x1) (P 2^x2)
 have m3:=zav (c i) (P 0^x0*P 1^x1*P 2^x2)
 have m4:=zav (Q 0^(3-x0)) (Q 1^(3-x1))
 have m5:=zav (Q 0^(3-x0)*Q 1^(3-x1)) (Q 2^(3-x2))
 have m6:=zav (c i*(P 0^x0*P 1^x1*P 2^x2)) (Q 0^(3-x0)*Q 1^(3-x1)*Q 2^(3-x2))
 omega
theorem zm6 {c:Nat→Int} {U:Nat→FQ} {n:Nat} (hc:okC c) (hn:n≤76) (hU:∀j,j<3→fsz n (U j)):∀i,i≤20→(sF c U i).is (evS c (pP U) (qQ U) i) (dnV (qQ U))∧tlen (evS c (pP U) (qQ U) i).natAbs≤12+9*n+i∧fsz 750 (sF c U i)
 | 0,_=>by
  have z:tlen (0:Int).natAbs=0:=by rw[Int.natAbs_zero,za5]
  refine⟨?_,?_,?_⟩
  ·show (0:Int)*dnV (qQ U)=0*1
   rw[Int.zero_mul,Int.zero_mul]
  ·show tlen (0:Int).natAbs≤_
   omega
  ·refine⟨?_,?_⟩
   ·show tlen (0:Int).natAbs≤750;omega
   ·show tlen (1:Int).natAbs≤750
    have:=zfs (z:=1) (by decide);omega
 | i+1,hi=>by
  obtain⟨h1,h2,h3⟩:=zm6 hc hn hU i (by omega)
  have es:evS c (pP U) (qQ U) (i+1)=evS c (pP U) (qQ U) i+c i*moV (pP U) i*coV (qQ U) i:=rfl
  have tt:tlen (c i*moV (pP U) i*coV (qQ U) i).natAbs≤11+9*n:=zjq (P:=pP U) (Q:=qQ U) (i:=i) (n:=n) hc (by omega) (fun j hj=>(hU j hj).1) (fun j hj=>(hU j hj).2)
  have ta:=zfr (evS c (pP U) (qQ U) i) (c i*moV (pP U) i*coV (qQ U) i)
  have td:tlen (dnV (qQ U)).natAbs≤3+9*n:=by
   have a:=zba (hU 0 (by decide)).2 3
   have b:=zba (hU 1 (by decide)).2 3
   have d:=zba (hU 2 (by decide)).2 3
   have m1:=zav (qQ U 0^3) (qQ U 1^3)
   have m2:=zav (qQ U 0^3*qQ U 1^3) (qQ U 2^3)
   unfold dnV
   have a:tlen (qQ U 0^3).natAbs≤1+n*3:=a
   have b:tlen (qQ U 1^3).natAbs≤1+n*3:=b
   have d:tlen (qQ U 2^3).natAbs≤1+n*3:=d
   omega
  by_cases c0:c i=0
  ·have hs:sF c U (i+1)=sF c U i:=if_pos c0
   rw[hs,es,c0,Int.zero_mul,Int.zero_mul,Int.add_zero]
   exact⟨h1,by omega,h3⟩
  ·have hs:sF c U (i+1)=aF (sF c U i) (tF U (whQ (c i)) (facL i)):=if_neg c0
   have ck:Fits64 (c i):=by have:=hc i (by omega);unfold Fits64;omega
   obtain⟨w1,w2⟩:=zjx ck
   obtain⟨f1,f2,_⟩:=zgo i (by omega)
   have nl:n*(facL i).length≤n*3:=Nat.mul_le_mul_left _ f2
   obtain⟨t1,t2⟩:=zpC hU (facL i) (whQ (c i)) _ _ 5 f1 w1 w2 (by omega)
   rw[zlb _ (show i<20 by omega),zlb _ (show i<20 by omega),Int.one_mul] at t1
   have t2:fsz 233 (tF U (whQ (c i)) (facL i)):=⟨Nat.le_trans t2.1 (by omega),Nat.le_trans t2.2 (by omega)⟩
   obtain⟨a1,_,_⟩:=znx _ _ h3 t2 (by omega) h1 t1
   have mo:=zow (qQ U) (show i<20 by omega)
   have mz:moV (qQ U) i≠0:=fun z=>zlY (U:=U) (by rw[←mo,z,Int.zero_mul])
   have a2:(aF (sF c U i) (tF U (whQ (c i)) (facL i))).is (evS c (pP U) (qQ U) (i+1)) (dnV (qQ U)):=by
    refine zip mz ?_
    rw[es]
    have e:(evS c (pP U) (qQ U) i+c i*moV (pP U) i*coV (qQ U) i)*moV (qQ U) i=evS c (pP U) (qQ U) i*moV (qQ U) i+c i*moV (pP U) i*dnV (qQ U):=by rw[←mo];grind
    rw[e];exact a1
   rw[hs]
   refine⟨a2,by rw[es];omega,zle a2 zlY (by rw[es];omega) (by omega) (by decide)⟩
end Go.Eng
namespace Go.Eng
def chE:Nat→Int:=fun e=>chooI.getD e 0
theorem zuy:cst E0.glob (.p 2 0)=.fp (cs 16 chE):=rfl
def chV (i k j:Nat):Int:=chE (exN i j*4+exN k j)
theorem znQ:∀i,i<20→∀k,k<20→∀j,j<3→0≤chV i k j∧chV i k j≤3:=by decide
def leQ (i k:Nat):Prop:=exN k 0≤exN i 0∧exN k 1≤exN i 1∧exN k 2≤exN i 2
instance (i k:Nat):Decidable (leQ i k):=by unfold leQ;infer_instance
def shP (Y:Nat→Int) (i k:Nat):Nat→Int
 | 0=>1
 | j+1=>shP Y i k j*(chV i k j*Y j^(exN i j-exN k j))
def shT (c Y:Nat→Int) (k i:Nat):Int:=if leQ i k then c i*shP Y i k 3 else 0
def shS (c Y:Nat→Int) (i k:Nat):Int:=sumT (shT c Y k) i
open Classical in
noncomputable def shE' (c S:Nat→Int):Int:=if okC c then (if okC S then 0 else 5) else 1
open Classical in
noncomputable def shE (c Y:Nat→Int):Int:=if okC c then (if okC (shS c Y 20) then 0 else 5) else 1
noncomputable def shV (c Y:Nat→Int):Nat→Int:=if shE c Y=0 then shS c Y 20 else zF
theorem z20:[PV.i .i64 0,PV.i .i64 0,PV.i .i64 0,PV.i .i64 0,PV.i .i64 0,PV.i .i64 0,PV.i .i64 0,PV.i .i64 0,PV.i .i64 0,PV.i .i64 0,PV.i .i64 0,PV.i .i64 0,PV.i .i64 0,PV.i .i64 0,PV.i .i64 0,PV.i .i64 0,PV.i .i64 0,PV.i .i64 0,PV.i .i64 0,PV.i .i64 0]=cs 20 zF:=rfl
theorem z40:[PV.b false,.nl,PV.b false,.nl,PV.b false,.nl,PV.b false,.nl,PV.b false,.nl,PV.b false,.nl,PV.b false,.nl,PV.b false,.nl,PV.b false,.nl,PV.b false,.nl,PV.b false,.nl,PV.b false,.nl,PV.b false,.nl,PV.b false,.nl,PV.b false,.nl,PV.b false,.nl,PV.b false,.nl,PV.b false,.nl,PV.b false,.nl,PV.b false,.nl]=cg 20 (fun _=>[PV.b false,.nl]):=rfl
theorem zhG {n:Int} (h:Fits64 n):small n=n∧isSmall n=true:=by
 have:isSmall n=true:=decide_eq_true h
 unfold small
 rw[if_pos this]
 exact⟨rfl,this⟩
theorem zkr {c:Nat→Int} (h:¬okC c) (x y z:Int):pf E0 396 [aI 20 c,.i .i64 x,.i .i64 y,.i .i64 z]=some (.tu [aI 20 zF,.i .i64 1]):=by
 have va:=zaK c
 have:vlC c=1:=if_neg h
 rw[this] at va
 refine zab (xf:=zvF) rfl (by simp[zvF]) ?_
 simp only[zvF]
 simp(disch:=omega)only[go_sem,seval,wqq,va,z20]
set_option maxHeartbeats 8000000 in
theorem zks {c:Nat→Int} (hc:okC c) {x y z:Int} (hx:Fits64 x) (hy:Fits64 y) (hz:Fits64 z) {Y:Nat→Int} (hY:Y=s3 (-x) (-y) (-z)):pf E0 396 [aI 20 c,.i .i64 x,.i .i64 y,.i .i64 z]=some (.tu [aI 20 (shV c Y),.i .i64 (shE c Y)]):=by
 have va:=zaK c
 have:vlC c=0:=if_pos hc
 rw[this] at va
 have x1:=zcl hx
 have x2:=zcl hy
 have x3:=zcl hz
 obtain⟨X,hX⟩:∃X:Nat→WI,X=s3 (wiOf x hx).neg (wiOf y hy).neg (wiOf z hz).neg:=⟨_,rfl⟩
 have Xv:∀j,(X j).v=Y j:=fun j=>by
  rw[hX,hY];unfold s3;split
  ·rfl
  ·split<;>rfl
 have Xl:∀j,wlen (X j).v.natAbs≤2:=fun j=>by
  rw[Xv,hY];unfold s3;split
  ·rw[Int.natAbs_neg];exact zfw hx
  ·split
   ·rw[Int.natAbs_neg];exact zfw hy
   ·rw[Int.natAbs_neg];exact zfw hz
 refine zab (xf:=zvF) rfl (by simp[zvF]) ?_
 simp only[zvF]
 have zA:(cg 20 fun _=>[PV.b false,.nl]).all PV.scal=true:=rfl
 simp(disch:=omega)only[go_sem,seval,wqq,va,x1,x2,x3,z20,z40,zA,zk1,zaE,zaj]
 refine zag zxj.eq_1 (fun(i:Nat) fr M=>i≤20∧fr 4=.p 0 0∧fr 8=.p 1 0∧fr 11=.p 2 0∧fr 12=.p 3 0∧fr 40=aI 60 mE∧fr 41=(PV.i .i64 ((i:Nat):Int))∧∃vx vs G L,∃w:Nat→WI,(∀e,WZ (L e) (w e))∧(∀e,e<20→(w e).v=shS c Y i e∧wlen (w e).v.natAbs≤40+i)∧M=some ⟨cs 20 c,true,0⟩::some ⟨cs 20 zF,true,0⟩::some ⟨cw 3 X,true,vx⟩::some ⟨cg 20 L,true,vs⟩::G) (fun i=>20-i) ?_ 0 ⟨by omega,by simp only[go_sem,seval],by simp only[go_sem,seval],by simp only[go_sem,seval],by simp only[go_sem,seval],by simp only[go_sem,seval],by simp only[go_sem,seval],_,_,[],_,fun _=>wi0,fun _=>wz0,fun e _=>⟨rfl,by show wlen (0:Int).natAbs≤40+0;decide⟩,by rw[hX];rfl⟩
 rintro i fr M ⟨hi,f4,f8,f11,f12,f40,f41,vx,vs,G,L,w,wz,wv,rfl⟩ ih
 have rowI:∀{k:Nat},k<20→iagP 20 true 3 (aI 60 mE) (some k)=some (aI 3 (rowM k)):=fun {k} h=>by
  unfold aI
  rw[zdF,if_pos ⟨h,by rw[zaO]⟩,zg4 h];rfl
 rcases Nat.lt_or_ge i 20 with h|h
 ·have q1:((i:Int)<20)=True:=eq_true (by omega)
  have qL:(i<20)=True:=eq_true h
  have ia:=rowI h
  have ck:Fits64 (c i):=by have:=hc i h;unfold Fits64;omega
  have k1:=zcl ck
  have cg1:=zbv (n:=20) c h
  obtain⟨r0,r1,r2⟩:=zm5 h
  simp(disch:=omega)only[go_sem,seval,wqq,f4,f8,f11,f12,f40,f41,q1,qL,ia,zk1,mG,mG0,sG,sG0,lG,lqq]
  refine zag zxm.eq_1 (fun(k:Nat) fr M=>k≤20∧fr 4=.p 0 0∧fr 8=.p 1 0∧fr 11=.p 2 0∧fr 12=.p 3 0∧fr 13=(PV.i .i64 ((i:Nat):Int))∧fr 14=.p (G.length+4) 0∧fr 40=aI 60 mE∧fr 41=(PV.i .i64 ((i:Nat):Int))∧fr 45=aI 60 mE∧fr 46=(PV.i .i64 ((k:Nat):Int))∧∃vx vs vr H L,∃w:Nat→WI,(∀e,WZ (L e) (w e))∧(∀e,e<20→(w e).v=(if e<k then shS c Y (i+1) e else shS c Y i e)∧wlen (w e).v.natAbs≤(if e<k then 41+i else 40+i))∧M=some ⟨cs 20 c,true,0⟩::some ⟨cs 20 zF,true,0⟩::some ⟨cw 3 X,true,vx⟩::some ⟨cg 20 L,true,vs⟩::(G++some ⟨cs 3 (rowM i),true,vr⟩::H)) (fun k=>20-k) ?_ 0 ⟨by omega,by simp only[go_sem,seval,f4],by simp only[go_sem,seval,f8],by simp only[go_sem,seval,f11],by simp only[go_sem,seval,f12],by simp only[go_sem,seval],by simp only[go_sem,seval],by simp only[go_sem,seval,f40],by simp only[go_sem,seval,f41],by simp only[go_sem,seval],by simp only[go_sem,seval],_,_,_,[],_,w,wz,fun e he=>by obtain⟨a,b⟩:=wv e he;exact⟨by rw[a,if_neg (by omega)],by rw[if_neg (by omega)];exact b⟩,rfl⟩
  clear f4 f8 f11 f12 f40 f41 wv wz
  rintro k fr M ⟨hk,f4,f8,f11,f12,f13,f14,f40,f41,f45,f46,vx,vs,vr,H,L,w,wz,wv,rfl⟩ ih2
  rcases Nat.lt_or_ge k 20 with h2|h2
  ·have q2:((k:Int)<20)=True:=eq_true (by omega)
   have qK:(k<20)=True:=eq_true h2
   have ib:=rowI h2
   obtain⟨s0,s1,s2⟩:=zm5 h2
   have ss:shS c Y (i+1) k=shS c Y i k+shT c Y k i:=rfl
   by_cases lq:leQ i k
   ·have lq':=lq
    obtain⟨l0,l1,l2⟩:=lq
    have g0:((exN i 0:Int)<(exN k 0:Int))=False:=eq_false (by omega)
    have g1:((exN i 1:Int)<(exN k 1:Int))=False:=eq_false (by omega)
    have g2:((exN i 2:Int)<(exN k 2:Int))=False:=eq_false (by omega)
    simp(disch:=omega)only[go_sem,seval,wqq,f4,f8,f11,f12,f13,f14,f40,f41,f45,f46,q2,qK,qL,ib,zbv,r0,r1,r2,s0,s1,s2,g0,g1,g2,cg1,k1,mG,mG0,sG,sG0,lG,lqq]
    refine zag zxn.eq_1 (fun(j:Nat) fr M=>j≤3∧fr 4=.p 0 0∧fr 8=.p 1 0∧fr 11=.p 2 0∧fr 12=.p 3 0∧fr 13=(PV.i .i64 ((i:Nat):Int))∧fr 14=.p (G.length+4) 0∧fr 15=(PV.i .i64 ((k:Nat):Int))∧fr 16=.p (G.length+(H.length+1)+4) 0∧fr 17=.p (G.length+(H.length+1+1)+4) 0∧fr 40=aI 60 mE∧fr 41=(PV.i .i64 ((i:Nat):Int))∧fr 45=aI 60 mE∧fr 46=(PV.i .i64 ((k:Nat):Int))∧fr 73=(PV.i .i64 ((j:Nat):Int))∧∃vx vs vr vk vt,∃t:WI,t.v=c i*shP Y i k j∧wlen t.v.natAbs≤2+8*j∧M=some ⟨cs 20 c,true,0⟩::some ⟨cs 20 zF,true,0⟩::some ⟨cw 3 X,true,vx⟩::some ⟨cg 20 L,true,vs⟩::(G++some ⟨cs 3 (rowM i),true,vr⟩::(H++[some ⟨cs 3 (rowM k),true,vk⟩,some ⟨wc t,true,vt⟩]))) (fun j=>3-j) ?_ 0 ⟨by omega,by simp only[go_sem,seval,f4],by simp only[go_sem,seval,f8],by simp only[go_sem,seval,f11],by simp only[go_sem,seval,f12],by simp only[go_sem,seval,f13],by simp only[go_sem,seval,f14],by simp only[go_sem,seval],by simp only[go_sem,seval],by simp only[go_sem,seval],by simp only[go_sem,seval,f40],by simp only[go_sem,seval,f41],by simp only[go_sem,seval,f45],by simp only[go_sem,seval,f46],by simp only[go_sem,seval],_,_,_,_,_,wiOf (c i) ck,(Int.mul_one _).symm,zfw ck,rfl⟩
    clear f4 f8 f11 f12 f13 f14 f40 f41 f45 f46
    rintro j fr M ⟨hj,f4,f8,f11,f12,f13,f14,f15,f16,f17,f40,f41,f45,f46,f73,vx,vs,vr,vk,vt,t,tv,tl,rfl⟩ ih3
    rcases Nat.lt_or_ge j 3 with h3|h3
    ·have q3:((j:Int)<3)=True:=eq_true (by omega)
     have qJ:(j<3)=True:=eq_true h3
     obtain⟨e1,e2⟩:=zaQ i h j h3
     obtain⟨d1,d2⟩:=zaQ k h2 j h3
     have e1:rowM i j=(exN i j:Int):=e1
     have d1:rowM k j=(exN k j:Int):=d1
     have de:exN k j≤exN i j:=by
      obtain rfl|rfl|rfl:=zdR h3
      ·exact l0
      ·exact l1
      ·exact l2
     have xi:=zbv (n:=3) (rowM i) h3
     have xk:=zbv (n:=3) (rowM k) h3
     rw[e1] at xi
     rw[d1] at xk
     have q4:(exN i j<4)=True:=eq_true (by omega)
     have q5:(exN k j<4)=True:=eq_true (by omega)
     have cb:=znQ i h k h2 j h3
     have cf:Fits64 (chV i k j):=by unfold Fits64;omega
     have cc:(List.drop (exN k j) (List.drop (exN i j*4) (cs 16 chE)))[0]?=some (.i .i64 (chV i k j)):=by
      rw[List.drop_drop,List.getElem?_drop,Nat.add_zero,zbv _ (by omega)];rfl
     have kc:=zcl cf
     have pm:=zht t (wiOf (chV i k j) cf)
     have lc:wlen (wiOf (chV i k j) cf).v.natAbs≤2:=zfw cf
     obtain⟨m1,m2⟩:=zoA tl lc (by omega)
     have sb:(exN i j:Int)-(exN k j:Int)=((exN i j-exN k j:Nat):Int):=by omega
     simp(disch:=omega)only[go_sem,seval,wqq,f4,f8,f11,f12,f13,f14,f15,f16,f17,f40,f41,f45,f46,f73,q3,mG,mG0,sG,sG0,lG,lqq]
     refine zaA [17] rfl (by simp only[go_sem,seval,f17]) ?_
     simp(disch:=omega)only[go_sem,seval,wqq,f4,f8,f11,f12,f13,f14,f15,f16,f17,f40,f41,f45,f46,f73,q3,qJ,xi,xk,q4,q5,cc,zuy,kc,pm,sb,zlL,zf6,zfu,zjw,mG,mG0,sG,sG0,lG,lqq]
     refine zag zxk.eq_1 (fun(n:Nat) fr M=>n≤exN i j-exN k j∧fr 4=.p 0 0∧fr 8=.p 1 0∧fr 11=.p 2 0∧fr 12=.p 3 0∧fr 13=(PV.i .i64 ((i:Nat):Int))∧fr 14=.p (G.length+4) 0∧fr 15=(PV.i .i64 ((k:Nat):Int))∧fr 16=.p (G.length+(H.length+1)+4) 0∧fr 17=.p (G.length+(H.length+1+1)+4) 0∧fr 40=aI 60 mE∧fr 41=(PV.i .i64 ((i:Nat):Int))∧fr 45=aI 60 mE∧fr 46=(PV.i .i64 ((k:Nat):Int))∧fr 73=(PV.i .i64 ((j:Nat):Int))∧fr 18=(PV.i .i64 ((j:Nat):Int))∧fr 97=(PV.i .i64 ((exN i j-exN k j:Nat):Int))∧fr 98=(PV.i .i64 ((n:Nat):Int))∧∃vx vs vr vk vt,∃t:WI,t.v=c i*(shP Y i k j*(chV i k j*Y j^n))∧wlen t.v.natAbs≤4+8*j+2*n∧M=some ⟨cs 20 c,true,0⟩::some ⟨cs 20 zF,true,0⟩::some ⟨cw 3 X,true,vx⟩::some ⟨cg 20 L,true,vs⟩::(G++some ⟨cs 3 (rowM i),true,vr⟩::(H++[some ⟨cs 3 (rowM k),true,vk⟩,some ⟨wc t,true,vt⟩]))) (fun n=>exN i j-exN k j-n) ?_ 0 ⟨by omega,by simp only[go_sem,seval,f4],by simp only[go_sem,seval,f8],by simp only[go_sem,seval,f11],by simp only[go_sem,seval,f12],by simp only[go_sem,seval,f13],by simp only[go_sem,seval,f14],by simp only[go_sem,seval,f15],by simp only[go_sem,seval,f16],by simp only[go_sem,seval,f17],by simp only[go_sem,seval,f40],by simp only[go_sem,seval,f41],by simp only[go_sem,seval,f45],by simp only[go_sem,seval,f46],by simp only[go_sem,seval,f73],by simp only[go_sem,seval],by simp only[go_sem,seval],by simp only[go_sem,seval],_,_,_,_,_,clip (t.v*(wiOf (chV i k j) cf).v),by rw[m1,tv,Int.pow_zero,Int.mul_one,Int.mul_assoc];rfl,by rw[m1];omega,rfl⟩
     clear f4 f8 f11 f12 f13 f14 f15 f16 f17 f40 f41 f45 f46 f73 pm m1 m2 tl tv
     rintro n fr M ⟨hn,f4,f8,f11,f12,f13,f14,f15,f16,f17,f40,f41,f45,f46,f73,f18,f97,f98,vx,vs,vr,vk,vt,t,tv,tl,rfl⟩ ih4
     rcases Nat.lt_or_ge n (exN i j-exN k j) with h4|h4
     ·have q6:((n:Int)<((exN i j-exN k j:Nat):Int))=True:=eq_true (by omega)
      have cx:=znW (n:=3) X h3
      have pm:=zht t (X j)
      have cl:(j*2+2≤6)=True:=eq_true (by omega)
      obtain⟨m1,m2⟩:=zoA tl (Xl j) (by omega)
      simp(disch:=omega)only[go_sem,seval,wqq,f4,f8,f11,f12,f13,f14,f15,f16,f17,f40,f41,f45,f46,f73,f18,f97,f98,q6,qJ,cx,cl,ze3,pm,zlL,zf6,zfu,zjw,mG,mG0,sG,sG0,lG,lqq]
      refine ih4 (n+1) _ _ (by omega) ⟨by omega,by simp only[go_sem,seval,f4],by simp only[go_sem,seval,f8],by simp only[go_sem,seval,f11],by simp only[go_sem,seval,f12],by simp only[go_sem,seval,f13],by simp only[go_sem,seval,f14],by simp only[go_sem,seval,f15],by simp only[go_sem,seval,f16],by simp only[go_sem,seval,f17],by simp only[go_sem,seval,f40],by simp only[go_sem,seval,f41],by simp only[go_sem,seval,f45],by simp only[go_sem,seval,f46],by simp only[go_sem,seval,f73],by simp only[go_sem,seval,f18],by simp only[go_sem,seval,f97],by simp only[go_sem,seval,f98];rw[Int.natCast_succ],_,_,_,_,_,clip (t.v*(X j).v),?_,by rw[m1];omega,rfl⟩
      rw[m1,tv,Xv,Int.pow_succ];grind
     ·obtain rfl:n=exN i j-exN k j:=by omega
      have q6:(((exN i j-exN k j:Nat):Int)<((exN i j-exN k j:Nat):Int))=False:=eq_false (Int.lt_irrefl _)
      simp(disch:=omega)only[go_sem,seval,wqq,f4,f8,f11,f12,f13,f14,f15,f16,f17,f40,f41,f45,f46,f73,f18,f97,f98,q6,mG,mG0,sG,sG0,lG,lqq]
      exact ih3 (j+1) _ _ (by omega) ⟨by omega,by simp only[go_sem,seval,f4],by simp only[go_sem,seval,f8],by simp only[go_sem,seval,f11],by simp only[go_sem,seval,f12],by simp only[go_sem,seval,f13],by simp only[go_sem,seval,f14],by simp only[go_sem,seval,f15],by simp only[go_sem,seval,f16],by simp only[go_sem,seval,f17],by simp only[go_sem,seval,f40],by simp only[go_sem,seval,f41],by simp only[go_sem,seval,f45],by simp only[go_sem,seval,f46],by simp only[go_sem,seval,f73];rw[Int.natCast_succ],_,_,_,_,_,t,tv,by omega,rfl⟩
    ·obtain rfl:j=3:=by omega
     have st:shT c Y k i=c i*shP Y i k 3:=if_pos lq'
     have z1:=wz k
     have L2:∀e,(L e).length=2:=fun e=>(wz e).len
     have sL:=zc7 L2 h2
     have lL:(k*2+2≤(cg 20 L).length)=True:=eq_true (by rw[zdz L2];exact zlQ h2)
     have zf:=z1.fz
     obtain⟨a1,a2⟩:=wv k h2
     rw[if_neg (Nat.lt_irrefl _)] at a1 a2
     have pa:=zkn (w k) t
     obtain⟨m1,m2⟩:=zqB a2 tl (by omega)
     have sp:=zkX L2 h2 (v:=wc (clip ((w k).v+t.v))) (zfu _)
     rw[zpO] at sp
     simp(disch:=omega)only[go_sem,seval,wqq,f4,f8,f11,f12,f13,f14,f15,f16,f17,f40,f41,f45,f46,f73,qK,sL,lL,zf,pa,sp,zlL,zf6,zfu,mG,mG0,sG,sG0,lG,lqq]
     refine ih2 (k+1) _ _ (by omega) ⟨by omega,by simp only[go_sem,seval,f4],by simp only[go_sem,seval,f8],by simp only[go_sem,seval,f11],by simp only[go_sem,seval,f12],by simp only[go_sem,seval,f13],by simp only[go_sem,seval,f14],by simp only[go_sem,seval,f40],by simp only[go_sem,seval,f41],by simp only[go_sem,seval,f45],by simp only[go_sem,seval,f46];rw[Int.natCast_succ],_,_,_,_,upd L k (wc (clip ((w k).v+t.v))),upd w k (clip ((w k).v+t.v)),fun e=>?_,fun e he=>?_,rfl⟩
     ·unfold upd
      split
      ·exact wzs _
      ·exact wz e
     ·by_cases ek:e=k
      ·subst ek
       rw[zaI,if_pos (Nat.lt_succ_self _),if_pos (Nat.lt_succ_self _),m1]
       exact⟨by rw[a1,tv,ss,st],by omega⟩
      ·rw[za7 ek]
       obtain⟨a,b⟩:=wv e he
       refine⟨?_,by split at b<;>split<;>omega⟩
       rw[a]
       by_cases e1:e<k
       ·rw[if_pos e1,if_pos (by omega)]
       ·rw[if_neg e1,if_neg (by omega)]
   ·have st:shT c Y k i=0:=if_neg lq
    have go:∀e,e<20→(w e).v=(if e<k+1 then shS c Y (i+1) e else shS c Y i e)∧wlen (w e).v.natAbs≤(if e<k+1 then 41+i else 40+i):=fun e he=>by
     obtain⟨a,b⟩:=wv e he
     refine⟨?_,by split at b<;>split<;>omega⟩
     rw[a]
     by_cases ek:e=k
     ·subst ek;rw[if_neg (Nat.lt_irrefl _),if_pos (by omega),ss,st,Int.add_zero]
     ·by_cases e1:e<k
      ·rw[if_pos e1,if_pos (by omega)]
      ·rw[if_neg e1,if_neg (by omega)]
    rcases zjD ((exN i 0:Int)<(exN k 0:Int)) with g0|g0
    ·simp(disch:=omega)only[go_sem,seval,wqq,f4,f8,f11,f12,f13,f14,f40,f41,f45,f46,q2,qK,ib,zbv,r0,r1,r2,s0,s1,s2,g0,mG,mG0,sG,sG0,lG,lqq]
     exact ih2 (k+1) _ _ (by omega) ⟨by omega,by simp only[go_sem,seval,f4],by simp only[go_sem,seval,f8],by simp only[go_sem,seval,f11],by simp only[go_sem,seval,f12],by simp only[go_sem,seval,f13],by simp only[go_sem,seval,f14],by simp only[go_sem,seval,f40],by simp only[go_sem,seval,f41],by simp only[go_sem,seval,f45],by simp only[go_sem,seval,f46];rw[Int.natCast_succ],_,_,_,_,_,w,wz,go,rfl⟩
    ·rcases zjD ((exN i 1:Int)<(exN k 1:Int)) with g1|g1
     ·simp(disch:=omega)only[go_sem,seval,wqq,f4,f8,f11,f12,f13,f14,f40,f41,f45,f46,q2,qK,ib,zbv,r0,r1,r2,s0,s1,s2,g0,g1,mG,mG0,sG,sG0,lG,lqq]
      exact ih2 (k+1) _ _ (by omega) ⟨by omega,by simp only[go_sem,seval,f4],by simp only[go_sem,seval,f8],by simp only[go_sem,seval,f11],by simp only[go_sem,seval,f12],by simp only[go_sem,seval,f13],by simp only[go_sem,seval,f14],by simp only[go_sem,seval,f40],by simp only[go_sem,seval,f41],by simp only[go_sem,seval,f45],by simp only[go_sem,seval,f46];rw[Int.natCast_succ],_,_,_,_,_,w,wz,go,rfl⟩
     ·have g2:((exN i 2:Int)<(exN k 2:Int))=True:=eq_true (by
       have u0:=of_eq_false g0
       have u1:=of_eq_false g1
       unfold leQ at lq
       omega)
      simp(disch:=omega)only[go_sem,seval,wqq,f4,f8,f11,f12,f13,f14,f40,f41,f45,f46,q2,qK,ib,zbv,r0,r1,r2,s0,s1,s2,g0,g1,g2,mG,mG0,sG,sG0,lG,lqq]
      exact ih2 (k+1) _ _ (by omega) ⟨by omega,by simp only[go_sem,seval,f4],by simp only[go_sem,seval,f8],by simp only[go_sem,seval,f11],by simp only[go_sem,seval,f12],by simp only[go_sem,seval,f13],by simp only[go_sem,seval,f14],by simp only[go_sem,seval,f40],by simp only[go_sem,seval,f41],by simp only[go_sem,seval,f45],by simp only[go_sem,seval,f46];rw[Int.natCast_succ],_,_,_,_,_,w,wz,go,rfl⟩
  ·obtain rfl:k=20:=by omega
   simp(disch:=omega)only[go_sem,seval,wqq,f4,f8,f11,f12,f13,f14,f40,f41,f45,f46,mG,mG0,sG,sG0,lG,lqq]
   exact ih (i+1) _ _ (by omega) ⟨by omega,by simp only[go_sem,seval,f4],by simp only[go_sem,seval,f8],by simp only[go_sem,seval,f11],by simp only[go_sem,seval,f12],by simp only[go_sem,seval,f40],by simp only[go_sem,seval,f41];rw[Int.natCast_succ],_,_,_,_,w,wz,fun e he=>by obtain⟨a,b⟩:=wv e he;exact⟨by rw[a,if_pos he],by rw[if_pos he] at b;omega⟩,rfl⟩
 ·obtain rfl:i=20:=by omega
  clear ih
  simp(disch:=omega)only[go_sem,seval,wqq,f4,f8,f11,f12,f40,f41,z20,mG,mG0,sG,sG0,lG,lqq]
  have L2:∀e,(L e).length=2:=fun e=>(wz e).len
  have lg:(cg 20 L).length=40:=zdz L2 20
  have tk:List.take 40 (cg 20 L)=cg 20 L:=List.take_of_length_le (by omega)
  simp(disch:=omega)only[go_sem,seval,wqq,lg,tk,mG,mG0,sG,sG0,lG,lqq]
  have vS:∀e,e<20→(w e).v=shS c Y 20 e:=fun e he=>(wv e he).1
  have vF:∀e,e<20→wlen (w e).v.natAbs≤60:=fun e he=>(wv e he).2
  have hE:shE c Y=shE' c (shS c Y 20):=rfl
  have hV:okC (shS c Y 20)→shV c Y=shS c Y 20:=fun o=>by unfold shV shE;rw[if_pos hc,if_pos o];rfl
  have hW:¬okC (shS c Y 20)→shV c Y=zF:=fun o=>by unfold shV shE;rw[if_pos hc,if_neg o];rfl
  generalize shS c Y 20=S at *
  have ia:∀{k:Nat},k<20→iagP 20 true 2 (.ag (cg 20 L)) (some k)=some (.ag (L k)):=fun {k} h=>by
   rw[zdF,if_pos ⟨h,by rw[lg]⟩,zc7 L2 h];rfl
  by_cases ok:okC S
  ·have e1:shE' c S=0:=by unfold shE';rw[if_pos hc,if_pos ok]
   rw[hE,e1,hV ok]
   refine zag zwU.eq_1 (fun(k:Nat) fr M=>k≤20∧fr 8=.p 1 0∧fr 19=.p (G.length+4) 0∧fr 122=.ag (cg 20 L)∧fr 123=(PV.i .i64 ((k:Nat):Int))∧∃b0 b2 b3 f v H,(∀e,e<k→f e=S e)∧M=b0::some ⟨cs 20 zF,true,0⟩::b2::b3::(G++some ⟨cs 20 f,true,v⟩::H)) (fun k=>20-k) ?_ 0 ⟨by omega,by simp only[go_sem,seval,f8],by simp only[go_sem,seval],by simp only[go_sem,seval],by simp only[go_sem,seval],_,_,_,zF,_,[],fun e he=>by omega,rfl⟩
   clear f4 f8 f11 f12 f40 f41
   rintro k fr M ⟨hk,f8,f19,f122,f123,b0,b2,b3,f,v,H,hf,rfl⟩ ih
   rcases Nat.lt_or_ge k 20 with h2|h2
   ·have q2:((k:Int)<20)=True:=eq_true (by omega)
    have qK:(k<20)=True:=eq_true h2
    have ib:=ia h2
    have zk:=wz k
    have z1:=zk.len
    have z2:=zk.sc
    have z3:=zk.fz
    have z4:=zk.tk
    have sp:psplice [.b false,.nl] 0 (L k)=L k:=zt2 _ _ _ z1
    have vk:=vS k h2
    have bk:=ok k h2
    have ps:=zdL (w k)
    obtain⟨s1,s2⟩:=zhG (n:=S k) (by unfold Fits64;omega)
    rw[vk,s1,s2] at ps
    have t1:(S k < -1073741824)=False:=eq_false (by omega)
    have t2:(S k>1073741824)=False:=eq_false (by omega)
    simp(disch:=omega)only[go_sem,seval,wqq,f8,f19,f122,f123,q2,qK,ib,z1,z2,z3,z4,sp,zlL,ps,t1,t2,mG,mG0,sG,sG0,lG,lqq]
    refine ih (k+1) _ _ (by omega) ⟨by omega,by simp only[go_sem,seval,f8],by simp only[go_sem,seval,f19],by simp only[go_sem,seval,f122],by simp only[go_sem,seval,f123];rw[Int.natCast_succ],_,_,_,_,_,_,fun e he=>?_,rfl⟩
    unfold upd
    split
    ·rename_i q;rw[q]
    ·exact hf e (by omega)
   ·obtain rfl:k=20:=by omega
    simp(disch:=omega)only[go_sem,seval,wqq,f8,f19,f122,f123,mG,mG0,sG,sG0,lG,lqq]
    rw[zhK hf]
  ·have e1:shE' c S=5:=by unfold shE';rw[if_pos hc,if_neg ok]
   rw[hE,e1,hW ok]
   refine zag zwU.eq_1 (fun(k:Nat) fr M=>k≤20∧(∀e,e<k → -1073741824≤S e∧S e≤1073741824)∧fr 8=.p 1 0∧fr 19=.p (G.length+4) 0∧fr 122=.ag (cg 20 L)∧fr 123=(PV.i .i64 ((k:Nat):Int))∧∃b0 b2 b3 f v H,M=b0::some ⟨cs 20 zF,true,0⟩::b2::b3::(G++some ⟨cs 20 f,true,v⟩::H)) (fun k=>20-k) ?_ 0 ⟨by omega,fun e he=>by omega,by simp only[go_sem,seval,f8],by simp only[go_sem,seval],by simp only[go_sem,seval],by simp only[go_sem,seval],_,_,_,zF,_,[],rfl⟩
   clear f4 f8 f11 f12 f40 f41
   rintro k fr M ⟨hk,hlo,f8,f19,f122,f123,b0,b2,b3,f,v,H,rfl⟩ ih
   have h2:k<20:=by
    rcases Nat.lt_or_ge k 20 with z|z
    ·exact z
    ·obtain rfl:k=20:=by omega
     exact absurd hlo ok
   have q2:((k:Int)<20)=True:=eq_true (by omega)
   have qK:(k<20)=True:=eq_true h2
   have ib:=ia h2
   have zk:=wz k
   have z1:=zk.len
   have z2:=zk.sc
   have z3:=zk.fz
   have z4:=zk.tk
   have sp:psplice [.b false,.nl] 0 (L k)=L k:=zt2 _ _ _ z1
   have vk:=vS k h2
   have ps:=zdL (w k)
   rw[vk] at ps
   cases sm:isSmall (S k) with
   | false =>
    rw[sm] at ps
    simp(disch:=omega)only[go_sem,seval,wqq,f8,f19,f122,f123,q2,qK,ib,z1,z2,z3,z4,sp,zlL,ps,z20,mG,mG0,sG,sG0,lG,lqq]
   | true =>
    have s1:small (S k)=S k:=by unfold small;rw[sm];rfl
    rw[sm,s1] at ps
    rcases zjD (S k < -1073741824) with t1|t1
    ·simp(disch:=omega)only[go_sem,seval,wqq,f8,f19,f122,f123,q2,qK,ib,z1,z2,z3,z4,sp,zlL,ps,t1,z20,mG,mG0,sG,sG0,lG,lqq]
    ·rcases zjD (S k>1073741824) with t2|t2
     ·simp(disch:=omega)only[go_sem,seval,wqq,f8,f19,f122,f123,q2,qK,ib,z1,z2,z3,z4,sp,zlL,ps,t1,t2,z20,mG,mG0,sG,sG0,lG,lqq]
     ·simp(disch:=omega)only[go_sem,seval,wqq,f8,f19,f122,f123,q2,qK,ib,z1,z2,z3,z4,sp,zlL,ps,t1,t2,mG,mG0,sG,sG0,lG,lqq]
      have u1:=of_eq_false t1
      have u2:=of_eq_false t2
      refine ih (k+1) _ _ (by omega) ⟨by omega,fun e he=>?_,by simp only[go_sem,seval,f8],by simp only[go_sem,seval,f19],by simp only[go_sem,seval,f122],by simp only[go_sem,seval,f123];rw[Int.natCast_succ],_,_,_,_,_,_,rfl⟩
      rcases Nat.lt_or_ge e k with z|z
      ·exact hlo e z
      ·obtain rfl:e=k:=by omega
       omega
theorem zmH (c:Nat→Int) {x y z:Int} (hx:Fits64 x) (hy:Fits64 y) (hz:Fits64 z):pf E0 396 [aI 20 c,.i .i64 x,.i .i64 y,.i .i64 z]=some (.tu [aI 20 (shV c (s3 (-x) (-y) (-z))),.i .i64 (shE c (s3 (-x) (-y) (-z)))]):=by
 by_cases hc:okC c
 ·exact zks hc hx hy hz rfl
 ·have e1:shE c (s3 (-x) (-y) (-z))=1:=if_neg hc
  have e2:shV c (s3 (-x) (-y) (-z))=zF:=by unfold shV;rw[e1];rfl
  rw[e1,e2]
  exact zkr hc _ _ _
end Go.Eng
namespace Go.Eng
def cL:Nat→Int:=fun e=>[2,3,0,0,0,0,-1].getD e 0
theorem zjL:okC cL:=by unfold okC;decide
theorem znI:[PV.i .i64 2,.i .i64 3,.i .i64 0,.i .i64 0,.i .i64 0,.i .i64 0,.i .i64 (-1),.i .i64 0,.i .i64 0,.i .i64 0,.i .i64 0,.i .i64 0,.i .i64 0,.i .i64 0,.i .i64 0,.i .i64 0,.i .i64 0,.i .i64 0,.i .i64 0,.i .i64 0]=cs 20 cL:=rfl
theorem zgT {n:Int} (h:Fits64 n):pf E0 410 [.i .i64 n]=some (fqP (whQ n)):=by
 have o:=zlN h
 refine zab (xf:=zwu) rfl (by simp[zwu]) ?_
 simp only[zwu]
 simp(disch:=omega)only[go_sem,seval,wqq,o]
theorem zdE {f:FQ} (h1:f.p.v.natAbs≤4611686018427387904) (h2:f.q.v.natAbs≤4611686018427387904):fwD f:=by
 have a:=zcH (k:=f.p.v.natAbs) (n:=63) (by omega)
 have b:=zcH (k:=f.q.v.natAbs) (n:=63) (by omega)
 unfold fwD
 omega
theorem zka:∃h x:FQ,pf E0 17 [.i .i64 1,.i .i64 2]=some (.tu [fqP h,.i .i64 0])∧pf E0 409 [aI 20 cL,fqP h,fqP fq0,fqP (whQ 4)]=some (.tu [fqP x,.i .i64 0])∧pf E0 16 [fqP x]=some (.s [51,47,50]):=by
 obtain⟨h,h1,h2,ho⟩:=zmK (p:=1) (q:=2) (by decide) (by decide) (by decide)
 have l1:lowP 1 2=1∧lowQ 1 2=2:=zeF (p:=1) (q:=2) (by decide) (by decide)
 have h1:=h1.trans l1.1
 have h2:=h2.trans l1.2
 have hz:fsz 5 h:=⟨by rw[h1];exact zah (by decide),by rw[h2];exact zah (by decide)⟩
 obtain⟨w1,w2⟩:=zkS (n:=4) (by decide)
 obtain⟨_,wz⟩:=zjx (n:=4) (by decide)
 have fz:fsz 5 fq0:=⟨by show tlen (0:Int).natAbs≤5;exact zah (by decide),by show tlen (1:Int).natAbs≤5;exact zah (by decide)⟩
 have U3:∀j,j<3→fsz 5 (s3 h fq0 (whQ 4) j):=fun j hj=>by
  obtain rfl|rfl|rfl:=zdR hj
  ·exact hz
  ·exact fz
  ·exact wz
 have ev:=zfY (c:=cL) (U:=s3 h fq0 (whQ 4))
 have e0:evE cL (s3 h fq0 (whQ 4))=0:=by
  unfold evE
  rw[if_pos zjL,if_pos fun j hj=>?_]
  obtain rfl|rfl|rfl:=zdR hj
  ·exact zdE (by show h.p.v.natAbs≤_;rw[h1];decide) (by show h.q.v.natAbs≤_;rw[h2];decide)
  ·exact zdE (by show (0:Int).natAbs≤_;decide) (by show (1:Int).natAbs≤_;decide)
  ·exact zdE (by show (whQ 4).p.v.natAbs≤_;rw[w1];decide) (by show (whQ 4).q.v.natAbs≤_;rw[w2];decide)
 have e1:evR cL (s3 h fq0 (whQ 4))=sF cL (s3 h fq0 (whQ 4)) 20:=if_pos e0
 rw[e0,e1] at ev
 obtain⟨i1,_,_⟩:=zm6 (c:=cL) (U:=s3 h fq0 (whQ 4)) (n:=5) zjL (by decide) U3 20 (by decide)
 have p3:pP (s3 h fq0 (whQ 4))=s3 1 0 4:=funext fun j=>by
  unfold pP s3
  split
  ·exact h1
  ·split
   ·rfl
   ·exact w1
 have q3:qQ (s3 h fq0 (whQ 4))=s3 2 1 1:=funext fun j=>by
  unfold qQ s3
  split
  ·exact h2
  ·split
   ·rfl
   ·exact w2
 rw[p3,q3] at i1
 have v1:evS cL (s3 1 0 4) (s3 2 1 1) 20=12:=by decide
 have v2:dnV (s3 2 1 1)=8:=by decide
 rw[v1,v2] at i1
 obtain⟨x1,x2⟩:=zop (p:=3) (q:=2) (by decide) (by decide) (by decide) i1 (by decide)
 have d3:decI 3=[51]:=(zla (v:=3) (n:=0) rfl (by decide) (by decide)).trans rfl
 have d2:decI 2=[50]:=(zla (v:=2) (n:=0) rfl (by decide) (by decide)).trans rfl
 have s1:=zpz _ (t:=[51,47,50]) x1 x2 (by unfold ftx;rw[if_neg (by decide),d3,d2];rfl)
 exact⟨h,_,ho,ev,s1⟩
theorem zkb:pf E0 407 [aI 20 cL]=some (.tu [aI 60 (grI cL 20),.i .i64 0]):=by
 have g:=zgI cL
 have e0:grE cL=0:=by
  unfold grE
  rw[if_pos zjL,if_pos (by unfold okC;decide)]
 have e1:grV cL=grI cL 20:=if_pos e0
 rw[e0,e1] at g
 exact g
def sL:Nat→Int:=fun e=>[-1,3,0,1,0,0,-1].getD e 0
theorem zkc:pf E0 396 [aI 20 cL,.i .i64 1,.i .i64 0,.i .i64 0]=some (.tu [aI 20 sL,.i .i64 0]):=by
 have g:=zmH cL (x:=1) (y:=0) (z:=0) (by decide) (by decide) (by decide)
 have ok:okC (shS cL (s3 (-1) (-0) (-0)) 20):=by unfold okC;decide
 have e0:shE cL (s3 (-1) (-0) (-0))=0:=by unfold shE;rw[if_pos zjL,if_pos ok]
 have e1:shV cL (s3 (-1) (-0) (-0))=shS cL (s3 (-1) (-0) (-0)) 20:=if_pos e0
 have e2:aI 20 (shS cL (s3 (-1) (-0) (-0)) 20)=aI 20 sL:=zhK (by decide)
 rw[e0,e1,e2] at g
 exact g
def gL:Nat→Int:=fun e=>[3,0,0,-1].getD e 0
theorem zrg:[PV.i .i64 3,.i .i64 0,.i .i64 0,.i .i64 (-1),.i .i64 0,.i .i64 0,.i .i64 0,.i .i64 0,.i .i64 0,.i .i64 0,.i .i64 0,.i .i64 0,.i .i64 0,.i .i64 0,.i .i64 0,.i .i64 0,.i .i64 0,.i .i64 0,.i .i64 0,.i .i64 0]=cs 20 gL:=rfl
theorem zsr:[PV.i .i64 (-1),.i .i64 3,.i .i64 0,.i .i64 1,.i .i64 0,.i .i64 0,.i .i64 (-1),.i .i64 0,.i .i64 0,.i .i64 0,.i .i64 0,.i .i64 0,.i .i64 0,.i .i64 0,.i .i64 0,.i .i64 0,.i .i64 0,.i .i64 0,.i .i64 0,.i .i64 0]=cs 20 sL:=rfl
theorem zos:(cs 60 (grI cL 20)).take 20=cs 20 gL:=by
 have h:=zc8 (n:=60) (grI cL 20) (off:=0) (k:=20) (by decide)
 rw[List.drop_zero] at h
 rw[h]
 exact zge (by decide)
theorem zq2 (X:Nat→Int):eqaP [1,1,1,1,1,1,1,1,1,1,1,1,1,1,1,1,1,1,1,1] (aI 20 X) (aI 20 X)=some true:=zkZ 20 X
theorem zuC:dgR cL 20=2:=by decide
set_option maxHeartbeats 8000000 in
theorem zkt:pf E0 400 []=some (.b true):=by
 obtain⟨h,x,ho,ev,s1⟩:=zka
 have gr:=zkb
 have sh:=zkc
 have dg:=zko cL
 rw[zuC] at dg
 rw[zl7] at ev
 have w4:=zgT (n:=4) (by decide)
 refine zab (xf:=zwx) rfl (by simp[zwx]) ?_
 simp only[zwx]
 simp(disch:=omega)only[go_sem,seval,wqq,ho,znI,z60]
 refine zaA [1,2] rfl (by simp only[go_sem,seval]) ?_
 simp(disch:=omega)only[go_sem,seval,wqq,w4,zl7,ev,z60,gr,sh,s1,dg,zrg,zsr,znI,zos,zq2]
end Go.Eng
namespace Go.Eng
def isPG:PV→Bool
 | .p _ _=>true
 | .fp _=>true
 | _=>false
def slotInF (E:PEnv) (ops:List XOper) (L:List Nat) (c:Nat×Nat):Bool :=
 match ops[c.1]?,ops[c.2]? with
 | some a,some b =>
  match a.op with
  | .load _ _ (.t s)=>L.contains s&&calmOp E b.op&&fixedX ops c.2 (.t s)
  | _=>false
 | _,_=>false
end Go.Eng
namespace Go.Eng
def slotP (E:PEnv) (ops:List XOper) (L:List Nat) (c:Nat×Nat):Bool :=
 match ops[c.1]?,ops[c.2]? with
 | some a,some b =>
  match a.op with
  | .load _ _ (.t s)=>L.contains s&&calmOp E b.op
  | _=>false
 | _,_=>false
def slotZ (ops:List XOper) (R:List Nat) (c:Nat×Nat):Bool :=
 match ops[c.1]?,ops[c.2]? with
 | some a,some b =>
  match a.op with
  | .load _ _ x=>fixedX ops c.2 (srcX ops 4 x)&&(match srcX ops 4 x with | .t r=>R.contains r | .k _=>false)
  | _=>false
 | _,_=>false
theorem zg6 {E:PEnv} {ops:List XOper} {fr fr2:PFr} {M:PM} {Ms:List PM} {P:PV→Bool} {L:List Nat} (hr:WL E ⟨(0::0::L).map XR.tmp,fun w _=>∃l,w=.tu l∧(l.drop 2).all P=true⟩ ops [] fr M) (hT:pOpsT E.glob (pcl E) ops fr M=some (fr2,Ms)):L.all (fun s=>P (fr2 s))=true:=by
 obtain⟨lf,q,fr3,M3,vs,e,h1,h2,l,h3,h4⟩:=hr
 simp only[Option.bind_eq_some_iff,unw] at e
 obtain⟨⟨fr4,M4⟩,e1,e2⟩:=e
 simp only[Option.some.injEq,Prod.mk.injEq] at e2
 obtain⟨_,e3,e4⟩:=e2
 rw[←e3,←e4] at h2
 obtain⟨Ms',g1,g2⟩:=zbW e1
 rw[g1] at hT
 cases hT
 have hres:∀(f:PFr) (N:PM) (l:List Nat),pRes f N (l.map XR.tmp)=some (l.map f):=fun f N l=>by
  induction l with
  | nil=>rfl
  | cons a l ih=>simp only[List.map_cons,pRes,pResOne,ih]
 rw[hres] at h2
 cases h2
 simp only[List.map_cons,packP] at h3
 cases h3
 simpa [List.all_map] using h4
theorem zkT {E:PEnv} {F:PFin} {ops:List XOper} {chk:List (Nat×Nat)} {ks:List KI} {fr:PFr} {M:PM} (L R:List Nat) (hL:chk.all (fun c=>calmC E ops c || slotP E ops L c || slotZ ops R c)=true)
  (hr:WL E ⟨(0::0::L).map XR.tmp,fun w _=>∃l,w=.tu l∧(l.drop 2).all isPP=true⟩ ops [] fr M) (hz:WL E ⟨(0::0::R).map XR.tmp,fun w _=>∃l,w=.tu l∧(l.drop 2).all isFz=true⟩ ops [] fr M) (w:WL E F ops ks fr M):WK E F (.drw ops chk) ks fr M:=by
 refine zdu (fun fr2 Ms hT=>?_) w
 have hp:=zg6 hr hT
 have hq:=zg6 hz hT
 rw[List.all_eq_true] at hL hp hq ⊢
 rintro⟨i,j⟩ hc
 have h1:=hL _ hc
 simp only[Bool.or_eq_true] at h1
 rcases h1 with (h1|h1)|h1
 ·exact zcA hT h1
 ·unfold slotP at h1
  split at h1
  ·rename_i a b ha hb
   split at h1
   ·rename_i z k s hop
    simp only[Bool.and_eq_true] at h1
    obtain⟨c1,c2⟩:=h1
    have hs:=hp s (List.contains_iff_mem.1 c1)
    cases hf:fr2 s with
    | p n o =>
     obtain⟨fri,A,B,q1,q2,q3,q4⟩:=zaz hT ha
     obtain⟨frj,C,D,p1,p2,p3,p4⟩:=zaz hT hb
     have p2':Ms[(i,j).2+1]?=some D:=p2
     have q2':Ms[(i,j).1+1]?=some B:=q2
     refine zcp ?_
     simp only[chkP0,ha,q1,q2,p1,p2]
     rw[if_neg (by rw[hop];simp[XO.cls])]
     rw[hop]
     show chkV ops j (.t s) C D (fr2 s)=true
     rw[hf]
     show verP (some n) C D=true
     rcases p3 with⟨_,v,p3⟩|⟨_,p3⟩
     ·cases hopb:b.op with
      | call f l =>
       rw[hopb] at p3 c2
       obtain⟨ns,rfl⟩:=zdN c2 p3
       exact zcM ns C _
      | _=>rw[hopb] at c2;simp[calmOp] at c2
     ·rw[p3];simp[verP]
    | _=>rw[hf] at hs;simp[isPP] at hs
   ·cases h1
  ·cases h1
 ·unfold slotZ at h1
  split at h1
  ·rename_i a b ha hb
   split at h1
   ·rename_i z k x hop
    simp only[Bool.and_eq_true] at h1
    obtain⟨c1,c2⟩:=h1
    split at c2
    ·rename_i r hr'
     have hs:=hq r (List.contains_iff_mem.1 c2)
     obtain⟨fri,A,B,q1,q2,q3,q4⟩:=zaz hT ha
     obtain⟨frj,C,D,p1,p2,p3,p4⟩:=zaz hT hb
     have l1:(i,j).1<Ms.length:=(List.getElem?_eq_some_iff.1 q1).1
     have l2:(i,j).2+1<Ms.length:=(List.getElem?_eq_some_iff.1 p2).1
     have hx:a.op.looks=x:=by rw[hop];rfl
     have hcl:(a.op.cls != 1)=true:=by rw[hop];rfl
     rw[chkP,Bool.or_eq_true]
     right
     rw[chkF,ha]
     simp only[hx,hcl,c1,hr',decide_eq_true l1,decide_eq_true l2,Bool.true_and,Bool.and_true]
     rw[Bool.and_eq_true]
     refine⟨?_,hs⟩
     rw[←hr'];exact c1
    ·cases c2
   ·cases h1
  ·cases h1
end Go.Eng
namespace Go.Eng
def grS (c:Nat→Int) (f e:Nat):Nat→Int
 | 0=>0
 | i+1=>if exN i f≠0∧dnN i f=e then exN i f*c i else grS c f e i
theorem zh5:∀i,i<20→∀f,f<3→exN i f≠0→dnN i f<20:=by decide
theorem zoc:∀i,i<20→∀f:Nat,f<3→((f:Int)∈facL i↔exN i f≠0)∧(facL i).count (f:Int)=exN i f∧(exN i f≠0→(facL i).erase (f:Int)=facL (dnN i f)):=by decide
theorem zoj (c:Nat→Int) {i:Nat} (hi:i<20) (g:Nat→Int) {f e:Nat} (hf:f<3) (he:e<20):∀j,j≤3→grJ c i g j (f*20+e)=if f<j∧exN i f≠0∧dnN i f=e then exN i f*c i else g (f*20+e)
 | 0,_=>by rw[if_neg (by omega)];rfl
 | j+1,hj=>by
  have ih:=zoj c hi g hf he j (by omega)
  show (if exN i j=0 then grJ c i g j else upd (grJ c i g j) (j*20+dnN i j) (exN i j*c i)) (f*20+e)=_
  by_cases z:exN i j=0
  ·rw[if_pos z,ih]
   by_cases q:f=j
   ·subst q;rw[if_neg (by omega),if_neg (by omega)]
   ·have:(f<j+1)=(f<j):=by simp only[eq_iff_iff];omega
    simp only[this]
  ·rw[if_neg z]
   have d:=zh5 i hi j (by omega) z
   by_cases q:f=j
   ·subst q
    by_cases r:dnN i f=e
    ·rw[if_pos ⟨by omega,z,r⟩,r,zaI]
    ·rw[za7 (by omega),ih,if_neg (by omega),if_neg (by omega)]
   ·have:(f<j+1)=(f<j):=by simp only[eq_iff_iff];omega
    rw[za7 (by omega),ih];simp only[this]
theorem zmf (c:Nat→Int) {f e:Nat} (hf:f<3) (he:e<20):∀i,i≤20→grI c i (f*20+e)=grS c f e i
 | 0,_=>rfl
 | i+1,hi=>by
  have ih:=zmf c hf he i (by omega)
  show grJ c i (grI c i) 3 (f*20+e)=if _ then _ else _
  rw[zoj c (by omega) _ hf he 3 (by omega),ih]
  by_cases q:exN i f≠0∧dnN i f=e
  ·rw[if_pos ⟨hf,q⟩,if_pos q]
  ·rw[if_neg (fun r=>q r.2),if_neg q]
def rgT (c:Nat→Int) (f i:Nat):Nat→Int:=fun x=>if x/20<f then grS c (x/20) (x%20) 20 else if x/20=f then grS c f (x%20) i else 0
theorem zuP (c:Nat→Int):rgT c 0 0=zF:=funext fun x=>by
 unfold rgT
 rw[if_neg (by omega)]
 split<;>rfl
theorem zuQ (c:Nat→Int) (f:Nat):rgT c f 20=rgT c (f+1) 0:=funext fun x=>by
 unfold rgT
 by_cases q:x/20<f
 ·rw[if_pos q,if_pos (by omega)]
 ·rw[if_neg q]
  by_cases r:x/20=f
  ·rw[if_pos r,if_pos (by omega),r]
  ·rw[if_neg r,if_neg (by omega)]
   split<;>rfl
theorem zuR (c:Nat→Int) {f i:Nat} (hi:i<20) (hf:f<3) (z:exN i f≠0):upd (rgT c f i) (f*20+dnN i f) (exN i f*c i)=rgT c f (i+1):=funext fun x=>by
 have d:=zh5 i hi f hf z
 unfold upd rgT
 show _=if _ then _ else if _ then (if exN i f≠0∧dnN i f=x%20 then exN i f*c i else grS c f (x%20) i) else 0
 by_cases q:x=f*20+dnN i f
 ·rw[if_pos q,if_neg (by omega),if_pos (by omega),if_pos ⟨z,by omega⟩]
 ·rw[if_neg q]
  by_cases r:x/20<f
  ·rw[if_pos r,if_pos r]
  ·rw[if_neg r,if_neg r]
   by_cases s:x/20=f
   ·rw[if_pos s,if_pos s,if_neg (by omega)]
   ·rw[if_neg s,if_neg s]
theorem zuS (c:Nat→Int) {f i:Nat} (z:exN i f=0):rgT c f i=rgT c f (i+1):=funext fun x=>by
 unfold rgT
 show _=if _ then _ else if _ then (if exN i f≠0∧dnN i f=x%20 then exN i f*c i else grS c f (x%20) i) else 0
 rw[if_neg (show ¬(exN i f≠0∧dnN i f=x%20) by omega)]
theorem zps (c:Nat→Int):cs 60 (rgT c 3 0)=cs 60 (grI c 20):=zge fun x hx=>by
 have e:x=x/20*20+x%20:=by omega
 have h:=zmf c (f:=x/20) (e:=x%20) (by omega) (by omega) 20 (by omega)
 rw[←e] at h
 rw[h]
 unfold rgT
 rw[if_pos (by omega)]
set_option maxHeartbeats 8000000 in
theorem ziX (c:Nat→Int):pf E0 408 [aI 20 c]=some (.tu [aI 60 (grV c),.i .i64 (grE c)]):=by
 have va:=zca c
 by_cases hc:okC c
 ·have:vlC c=0:=if_pos hc
  rw[this] at va
  refine zab (xf:=zvT) rfl (by simp[zvT]) ?_
  simp only[zvT]
  simp(disch:=omega)only[go_sem,seval,wqq,va,z60,zlj]
  refine zag zxD.eq_1 (fun(f:Nat) fr M=>f≤3∧fr 1=.p 0 0∧fr 2=.p 1 0∧fr 4=.p 2 0∧fr 5=.p 3 0∧fr 6=monP∧fr 7=(PV.i .i64 ((f:Nat):Int))∧∃v,M=[some ⟨cs 20 c,true,0⟩,some ⟨cs 60 zF,true,0⟩,some ⟨cs 60 (rgT c f 0),true,v⟩,some ⟨cs 60 zF,true,0⟩]) (fun i=>3-i) ?_ 0 ⟨by omega,by simp only[go_sem,seval],by simp only[go_sem,seval],by simp only[go_sem,seval],by simp only[go_sem,seval],by simp only[go_sem,seval],by simp only[go_sem,seval],_,by rw[zuP]⟩
  rintro f fr M ⟨hf,f1,f2,f4,f5,f6,f7,v,rfl⟩ ih
  rcases Nat.lt_or_ge f 3 with h|h
  ·have q1:((f:Int)<3)=True:=eq_true (by omega)
   have qF:(f<3)=True:=eq_true h
   simp(disch:=omega)only[go_sem,seval,wqq,f1,f2,f4,f5,f6,f7,q1,mG,mG0,sG,sG0,lG,lqq]
   refine zag zxB.eq_1 (fun(i:Nat) fr M=>i≤20∧f≤3∧fr 1=.p 0 0∧fr 2=.p 1 0∧fr 4=.p 2 0∧fr 5=.p 3 0∧fr 6=monP∧fr 7=(PV.i .i64 ((f:Nat):Int))∧fr 8=(PV.i .i64 ((i:Nat):Int))∧∃v,M=[some ⟨cs 20 c,true,0⟩,some ⟨cs 60 zF,true,0⟩,some ⟨cs 60 (rgT c f i),true,v⟩,some ⟨cs 60 zF,true,0⟩]) (fun i=>20-i) ?_ 0 ⟨by omega,by omega,by simp only[go_sem,seval,f1],by simp only[go_sem,seval,f2],by simp only[go_sem,seval,f4],by simp only[go_sem,seval,f5],by simp only[go_sem,seval,f6],by simp only[go_sem,seval,f7],by simp only[go_sem,seval],_,rfl⟩
   clear f1 f2 f4 f5 f6 f7
   rintro i fr M ⟨hi,_,f1,f2,f4,f5,f6,f7,f8,v,rfl⟩ ih2
   rcases Nat.lt_or_ge i 20 with h3|h3
   ·have q2:((i:Int)<20)=True:=eq_true (by omega)
    have qI:(i<20)=True:=eq_true h3
    have mi:=ziz h3
    obtain⟨fo1,fo2,_⟩:=zgo i h3
    obtain⟨d1,d2,d3⟩:=zoc i h3 f h
    have wo:=ziZ fo2 (f:Int)
    have ti:=zkx fo2 (f:Int)
    rw[d2] at ti
    by_cases z:exN i f=0
    ·have nm:¬((f:Int)∈facL i):=fun q=>d1.1 q z
     rw[if_neg nm,decide_eq_false nm] at wo
     simp(disch:=omega)only[go_sem,seval,wqq,f1,f2,f4,f5,f6,f7,f8,q2,mi,wo,mG,mG0,sG,sG0,lG,lqq]
     exact ih2 (i+1) _ _ (by omega) ⟨by omega,hf,by simp only[go_sem,seval,f1],by simp only[go_sem,seval,f2],by simp only[go_sem,seval,f4],by simp only[go_sem,seval,f5],by simp only[go_sem,seval,f6],by simp only[go_sem,seval,f7],by simp only[go_sem,seval,f8];rw[Int.natCast_succ],_,by rw[zuS c z]⟩
    ·have nm:(f:Int)∈facL i:=d1.2 z
     rw[if_pos nm,decide_eq_true nm,d3 z] at wo
     have dl:=zh5 i h3 f h z
     have dx:=zkw dl
     have cg1:=zbv (n:=20) c h3
     have qD:(dnN i f<20)=True:=eq_true dl
     have qS:(f*20+dnN i f<60)=True:=eq_true (by omega)
     have bc:=hc i h3
     obtain⟨_,e3⟩:=zaQ i h3 f h
     have be : -3221225472≤(exN i f:Int)*c i∧(exN i f:Int)*c i≤3221225472:=by
      obtain q|q|q:exN i f=1∨exN i f=2∨exN i f=3:=by omega
      all_goals (rw[q];omega)
     have ru:=zuR c h3 h z
     simp(disch:=omega)only[go_sem,seval,wqq,f1,f2,f4,f5,f6,f7,f8,q2,mi,wo,mG,mG0,sG,sG0,lG,lqq]
     refine zkT [45] [6] rfl ?_ ?_ ?_
     ·simp(disch:=omega)only[go_sem,seval,wqq,f1,f2,f4,f5,f6,f7,f8,q2,qI,qF,qD,qS,mi,wo,dx,cg1,ti,mG,mG0,sG,sG0,lG,lqq]
      exact⟨_,rfl,rfl⟩
     ·simp(disch:=omega)only[go_sem,seval,wqq,f1,f2,f4,f5,f6,f7,f8,q2,qI,qF,qD,qS,mi,wo,dx,cg1,ti,mG,mG0,sG,sG0,lG,lqq]
      exact⟨_,rfl,rfl⟩
     simp(disch:=omega)only[go_sem,seval,wqq,f1,f2,f4,f5,f6,f7,f8,q2,qI,qF,qD,qS,mi,wo,dx,cg1,ti,mG,mG0,sG,sG0,lG,lqq]
     exact ih2 (i+1) _ _ (by omega) ⟨by omega,hf,by simp only[go_sem,seval,f1],by simp only[go_sem,seval,f2],by simp only[go_sem,seval,f4],by simp only[go_sem,seval,f5],by simp only[go_sem,seval,f6],by simp only[go_sem,seval,f7],by simp only[go_sem,seval,f8];rw[Int.natCast_succ],_,by rw[ru]⟩
   ·obtain rfl:i=20:=by omega
    simp(disch:=omega)only[go_sem,seval,wqq,f1,f2,f4,f5,f6,f7,f8,mG,mG0,sG,sG0,lG,lqq]
    exact ih (f+1) _ _ (by omega) ⟨by omega,by simp only[go_sem,seval,f1],by simp only[go_sem,seval,f2],by simp only[go_sem,seval,f4],by simp only[go_sem,seval,f5],by simp only[go_sem,seval,f6],by simp only[go_sem,seval,f7];rw[Int.natCast_succ],_,by rw[zuQ]⟩
  ·obtain rfl:f=3:=by omega
   clear ih
   simp(disch:=omega)only[go_sem,seval,wqq,f1,f2,f4,f5,f6,f7,mG,mG0,sG,sG0,lG,lqq]
   rw[zps]
   by_cases hg:∀f,f<3→okC (gRow (grI c 20) f)
   ·have e1:grE c=0:=by unfold grE;rw[if_pos hc,if_pos hg]
    have e2:grV c=grI c 20:=by unfold grV;rw[e1];rfl
    rw[e1,e2]
    refine zag zw5.eq_1 (fun(f:Nat) fr M=>f≤3∧fr 2=.p 1 0∧fr 4=.p 2 0∧fr 5=.p 3 0∧fr 11=(PV.i .i64 ((f:Nat):Int))∧∃v,M=[some ⟨cs 20 c,true,0⟩,some ⟨cs 60 zF,true,0⟩,some ⟨cs 60 (grI c 20),true,v⟩,some ⟨cs 60 zF,true,0⟩]) (fun f=>3-f) ?_ 0 ⟨by omega,by simp only[go_sem,seval,f2],by simp only[go_sem,seval,f4],by simp only[go_sem,seval,f5],by simp only[go_sem,seval],_,rfl⟩
    clear f1 f2 f4 f5 f6 f7
    rintro f fr M ⟨hf,f2,f4,f5,f11,v,rfl⟩ ih
    rcases Nat.lt_or_ge f 3 with h3|h3
    ·have q1:((f:Int)<3)=True:=eq_true (by omega)
     have qF:(f<3)=True:=eq_true h3
     have ia:((cs 60 (grI c 20)).drop (f*20)).take 20=cs 20 (gRow (grI c 20) f):=zc8 _ (by omega)
     have il:(f*20≤40)=True:=eq_true (by omega)
     have vb:=zca (gRow (grI c 20) f)
     have:vlC (gRow (grI c 20) f)=0:=if_pos (hg f h3)
     rw[this] at vb
     simp(disch:=omega)only[go_sem,seval,wqq,f2,f4,f5,f11,q1,qF,ia,il,vb,mG,mG0,sG,sG0,lG,lqq]
     exact ih (f+1) _ _ (by omega) ⟨by omega,by simp only[go_sem,seval,f2],by simp only[go_sem,seval,f4],by simp only[go_sem,seval,f5],by simp only[go_sem,seval,f11];rw[Int.natCast_succ],_,rfl⟩
    ·obtain rfl:f=3:=by omega
     simp(disch:=omega)only[go_sem,seval,wqq,f2,f4,f5,f11,mG,mG0,sG,sG0,lG,lqq]
   ·have e1:grE c=5:=by unfold grE;rw[if_pos hc,if_neg hg]
    have e2:grV c=zF:=by unfold grV;rw[e1];rfl
    rw[e1,e2]
    refine zag zw5.eq_1 (fun(f:Nat) fr M=>f≤3∧(∀e,e<f→okC (gRow (grI c 20) e))∧fr 2=.p 1 0∧fr 4=.p 2 0∧fr 5=.p 3 0∧fr 11=(PV.i .i64 ((f:Nat):Int))∧∃v,M=[some ⟨cs 20 c,true,0⟩,some ⟨cs 60 zF,true,0⟩,some ⟨cs 60 (grI c 20),true,v⟩,some ⟨cs 60 zF,true,0⟩]) (fun f=>3-f) ?_ 0 ⟨by omega,fun e he=>by omega,by simp only[go_sem,seval,f2],by simp only[go_sem,seval,f4],by simp only[go_sem,seval,f5],by simp only[go_sem,seval],_,rfl⟩
    clear f1 f2 f4 f5 f6 f7
    rintro f fr M ⟨hf,hlo,f2,f4,f5,f11,v,rfl⟩ ih
    have h3:f<3:=by
     rcases Nat.lt_or_ge f 3 with z|z
     ·exact z
     ·obtain rfl:f=3:=by omega
      exact absurd hlo hg
    have q1:((f:Int)<3)=True:=eq_true (by omega)
    have qF:(f<3)=True:=eq_true h3
    have ia:((cs 60 (grI c 20)).drop (f*20)).take 20=cs 20 (gRow (grI c 20) f):=zc8 _ (by omega)
    have il:(f*20≤40)=True:=eq_true (by omega)
    have vb:=zca (gRow (grI c 20) f)
    by_cases ok:okC (gRow (grI c 20) f)
    ·have:vlC (gRow (grI c 20) f)=0:=if_pos ok
     rw[this] at vb
     simp(disch:=omega)only[go_sem,seval,wqq,f2,f4,f5,f11,q1,qF,ia,il,vb,mG,mG0,sG,sG0,lG,lqq]
     refine ih (f+1) _ _ (by omega) ⟨by omega,fun e he=>?_,by simp only[go_sem,seval,f2],by simp only[go_sem,seval,f4],by simp only[go_sem,seval,f5],by simp only[go_sem,seval,f11];rw[Int.natCast_succ],_,rfl⟩
     rcases Nat.lt_or_ge e f with z|z
     ·exact hlo e z
     ·obtain rfl:e=f:=by omega
      exact ok
    ·have:vlC (gRow (grI c 20) f)=1:=if_neg ok
     rw[this] at vb
     simp(disch:=omega)only[go_sem,seval,wqq,f2,f4,f5,f11,q1,qF,ia,il,vb,z60,mG,mG0,sG,sG0,lG,lqq]
 ·have:vlC c=1:=if_neg hc
  rw[this] at va
  have e1:grE c=1:=if_neg hc
  have e2:grV c=zF:=by unfold grV;rw[e1];rfl
  rw[e1,e2]
  refine zab (xf:=zvT) rfl (by simp[zvT]) ?_
  simp only[zvT]
  simp(disch:=omega)only[go_sem,seval,wqq,va,z60]
end Go.Eng
namespace Go.Eng
def adV (X:Nat→Int):Nat→Int:=fun e=>mnV X (e%3) (e/3)
end Go.Eng
namespace Go.Eng
end Go.Eng
namespace Go.Eng
def isPF (E:PEnv):PV→Bool
 | .fn f _=>E.pure f
 | _=>false
def slotIn4 (E:PEnv) (ops:List XOper) (L V:List Nat) (c:Nat×Nat):Bool :=
 match ops[c.1]?,ops[c.2]? with
 | some a,some b =>
  match a.op with
  | .load _ _ (.t s)=>L.contains s&&(match b.op with | .callv (.t v) _=>V.contains v&&fixedX ops c.2 (.t v)|_=>calmOp E b.op)
  | _=>false
 | _,_=>false
end Go.Eng
namespace Go.Eng
def slarrB (m off n z:Nat) (lo hi:Option PV):Option PB→Option PV
 | some b=>if off+n*z≤b.v.length then slP z (.sl m off n n z) lo hi none else none
 | none=>none
def slarrP (M:PM) (n z:Nat) (lo hi:Option PV):PV→Option PV
 | .p m off=>slarrB m off n z lo hi (PM.blk M m)
 | .fp l=>if n*z≤l.length∧n*z≠0∧l.all PV.scal=true then slP z (.lst (group z n (l.take (n*z)))) lo hi none else none
 | _=>none
def rwV (a b c un ud vn vd:Int):Int:=a*un*vd+b*vn*ud+c*(ud*vd)
end Go.Eng
namespace Go.Eng
def q8 (a b c d e f g h:Int):PV:=.ag [.i .i64 a,.i .i64 b,.i .i64 c,.i .i64 d,.i .i64 e,.i .i64 f,.i .i64 g,.i .i64 h]
end Go.Eng
namespace Go.Eng
end Go.Eng
namespace Go.Eng
end Go.Eng
namespace Go.Eng
end Go.Eng
namespace Go.Eng
theorem ziC {k n:Nat} (h:2^n≤k):n<nbits k:=by
 have h0:k≠0:=fun q=>by have:=Nat.two_pow_pos n;omega
 unfold nbits
 rw[if_neg h0]
 have:=(Nat.le_log2 h0).2 h
 omega
theorem zjJ {k n:Nat} (h:nbits k≤n):k<2^n:=Nat.lt_of_not_le fun q=>by have:=ziC q;omega
theorem zsm:(2:Nat)^250≤10000^19:=by decide
theorem zeZ {k:Nat} (h:nbits k≤1000):tlen k≤76:=by
 have h2:nbits k≤250*4:=h
 have e1:∀m:Nat,m=250→2^(m*4)≤10000^(19*4):=fun m hm=>by
  rw[Nat.pow_mul,Nat.pow_mul]
  exact Nat.pow_le_pow_left (by rw[hm];exact zsm) 4
 refine zaX.2 (Nat.lt_of_lt_of_le (zjJ h2) (e1 250 rfl))
def rwF (p:Nat→Int) (i:Nat) (u v:FQ):Int:=rwV (p (3*i)) (p (3*i+1)) (p (3*i+2)) u.p.v u.q.v v.p.v v.q.v
theorem zra (u:FQ):u.q.v≠0:=by have:=u.q1;omega
end Go.Eng
namespace Go.Eng
def oneI:Nat→Int:=fun e=>if e%4=0 then 1 else 0
end Go.Eng
namespace Go.Eng
end Go.Eng
namespace Go.Eng
theorem hF (p:Nat→Int):PV.ag [.i .i64 (p 0),.i .i64 (p 1),.i .i64 (p 2),.i .i64 (p 3),.i .i64 (p 4),.i .i64 (p 5),.i .i64 (p 6),.i .i64 (p 7),.i .i64 (p 8)]=pI p:=rfl
def e9 (a b:Nat→Int):Bool:=a 0==b 0&&(a 1==b 1&&(a 2==b 2&&(a 3==b 3&&(a 4==b 4&&(a 5==b 5&&(a 6==b 6&&(a 7==b 7&&a 8==b 8)))))))
end Go.Eng
namespace Go.Eng
def gEnt (n d:Int):Int:=if n.tmod 6=1∨n.tmod 6 = -1 then (n.tdiv 6).tmod 8 else if n.tmod 6=2 then (n.tdiv 6).tmod 1000 else if n.tmod 6=3 then 1073741824-(n.tdiv 6).tmod 4 else d
def g0P:Nat→Int:=fun e=>if e=0 then 2 else if e=4 then 2 else if e=8 then 1 else 0
def gMix (ns:Nat→Int) (i:Nat):Nat→Int:=fun e=>if e<i then gEnt (ns e) (g0P e) else g0P e
theorem gk0 (ns:Nat→Int) (h:gEnt (ns 0) (g0P 0)=g0P 0):cI (gMix ns 0)=cI (gMix ns 1):=by
 have e:gMix ns 0=gMix ns 1:=by
  funext e
  unfold gMix
  by_cases q:e=0
  ·subst q;rw[if_neg (by decide),if_pos (by decide),h]
  ·by_cases r:e<0
   ·rw[if_pos r,if_pos (by omega)]
   ·rw[if_neg r,if_neg (by omega)]
 rw[e]
end Go.Eng
namespace Go.Eng
theorem zgR (x:WI):∃s:List UInt8,pf E0 107 [nP x.v]=some (.s s)∧pf E0 110 [.s s]=some (.tu [wiP x,.i .i64 0]):=by
 have lx:=zno x
 have h1:=zoZ (z:=x.v) (by omega)
 have h2:=zmG (decI x.v) (zfL x)
 rw[zhy,if_pos ((zaN _).1 x.lim)] at h2
 have hc:clip x.v=x:=zbn x.lim
 simp only at h2
 rw[hc] at h2
 exact⟨_,h1,h2⟩
end Go.Eng
namespace Go.Eng
end Go.Eng
namespace Go.Eng
end Go.Eng
namespace Go.Eng
end Go.Eng
namespace Go.Eng
theorem zkv (f:FQ):pf E0 405 [rfQ f]=some (fqP f):=by
 obtain⟨s,t1,t2⟩:=zgR f.p
 obtain⟨u,v1,v2⟩:=zgR f.q
 have m:=ziP f.p f.q (zra f)
 obtain⟨g,g1,g2,gm⟩:=m
 have hq:=f.q1
 obtain⟨l1,l2⟩:=zeF (p:=f.p.v) (q:=f.q.v) (by omega) f.cop
 obtain rfl:g=f:=zfa (g1.trans l1) (g2.trans l2)
 refine zab (xf:=zxh) rfl (by simp[zxh]) ?_
 simp only[zxh]
 unfold rfQ rfP
 simp(disch:=omega)only[go_sem,seval,wqq,t1,t2,v1,v2,gm]
end Go.Eng
namespace Go.Eng
end Go.Eng
namespace Go.Eng
end Go.Eng
namespace Go.Eng
def bin2 (n k:Nat) (y:Int):Int:=if k≤n then chE (n*4+k)*y^(n-k) else 0
theorem zn0:∀e,e<20→∀f:Nat,f<3→1≤exN e f→∀j,j<3→exN (dnN e f) j=if j=f then exN e j-1 else exN e j:=by decide
end Go.Eng
namespace Go.Eng
end Go.Eng
namespace Go.Eng
theorem zaM {f g:Nat→Int}:∀{n:Nat},(∀i,i<n→f i=g i)→sumT f n=sumT g n
 | 0,_=>rfl
 | n+1,h=>by
  show sumT f n+f n=sumT g n+g n
  rw[zaM (n:=n) fun i hi=>h i (by omega),h n (by omega)]
end Go.Eng
namespace Go.Eng
end Go.Eng
namespace Go.Eng
theorem zeR (F G:Nat→Int):∀n,sumT (fun k=>F k+G k) n=sumT F n+sumT G n
 | 0=>rfl
 | n+1=>by
  show sumT (fun k=>F k+G k) n+(F n+G n)=sumT F n+F n+(sumT G n+G n)
  rw[zeR F G n];omega
theorem zg8 (a:Int) (F:Nat→Int):∀n,sumT (fun k=>a*F k) n=a*sumT F n
 | 0=>(Int.mul_zero a).symm
 | n+1=>by
  show sumT (fun k=>a*F k) n+a*F n=a*(sumT F n+F n)
  rw[zg8 a F n,Int.mul_add]
theorem zcO:∀n,sumT (fun _=>0) n=0
 | 0=>rfl
 | n+1=>by show sumT (fun _=>0) n+0=0;rw[zcO n];rfl
theorem zfq (F:Nat→Nat→Int) (g:Nat→Int) (m:Nat):∀n,sumT (fun k=>sumT (F k) n*g k) m=sumT (fun i=>sumT (fun k=>F k i*g k) m) n
 | 0=>by
  show sumT (fun k=>0*g k) m=0
  rw[zaM (g:=fun _=>0) fun i _=>Int.zero_mul _]
  exact zcO m
 | n+1=>by
  show sumT (fun k=>(sumT (F k) n+F k n)*g k) m=sumT (fun i=>sumT (fun k=>F k i*g k) m) n+sumT (fun k=>F k n*g k) m
  rw[←zfq F g m n,←zeR]
  exact zaM fun i _=>Int.add_mul ..
def linV (P g:Nat→Int):Int:=sumT (fun k=>P k*g k) 20
theorem zbS (P g:Nat→Int) (a:Int):linV P (fun k=>a*g k)=a*linV P g:=by
 unfold linV
 rw[←zg8]
 exact zaM fun i _=>by grind
theorem zeE (P g h:Nat→Int):linV P (fun k=>g k+h k)=linV P g+linV P h:=by
 unfold linV
 rw[←zeR]
 exact zaM fun i _=>by grind
end Go.Eng
namespace Go.Eng
theorem zl8 {f:FQ} (h:fwD f):fsz 76 f:=by
 unfold fwD at h
 exact⟨zeZ (by omega),zeZ (by omega)⟩
theorem zn8 {c:Nat→Int} {U:Nat→FQ} (h:evE c U=0):∀j,j<3→fwD (U j):=by
 unfold evE at h
 by_cases q:okC c
 ·rw[if_pos q] at h
  by_cases r:∀j,j<3→fwD (U j)
  ·exact r
  ·rw[if_neg r] at h;cases h
 ·rw[if_neg q] at h;cases h
end Go.Eng
namespace Go.Eng
theorem zpB (c:Nat→Int) {e:Nat}:∀n,e<n→sumT (fun i=>c i*if i=e then 1 else 0) n=c e:=by
 intro n
 induction n with
 | zero=>intro h;omega
 | succ n ih =>
  intro h
  show sumT (fun i=>c i*if i=e then 1 else 0) n+c n*(if n=e then 1 else 0)=c e
  by_cases q:n=e
  ·subst q
   rw[if_pos rfl,zaM (g:=fun _=>0) fun i hi=>by rw[if_neg (by omega),Int.mul_zero],zcO];omega
  ·rw[if_neg q,ih (by omega)];omega
end Go.Eng
namespace Go.Eng
theorem zg9 {f:Nat→Int} {n:Nat} (h:∀i,i<n→f i=0):sumT f n=0:=by
 rw[zaM h];exact zcO n
theorem zn1:∀i,i<20→∀i',i'<20→∀f,f<3→(exN i f≠0∧exN i' f≠0∧dnN i f=dnN i' f)→i=i':=by decide
theorem zil (c:Nat→Int) {f e:Nat} (hf:f<3):∀n,n≤20→grS c f e n=sumT (fun i=>if exN i f≠0∧dnN i f=e then exN i f*c i else 0) n
 | 0,_=>rfl
 | n+1,hn=>by
  have ih:=zil c (e:=e) hf n (by omega)
  show (if exN n f≠0∧dnN n f=e then exN n f*c n else grS c f e n)=sumT _ n+(if exN n f≠0∧dnN n f=e then exN n f*c n else 0)
  by_cases q:exN n f≠0∧dnN n f=e
  ·rw[if_pos q,if_pos q,zg9,Int.zero_add]
   intro i hi
   refine if_neg fun r=>?_
   have:=zn1 i (by omega) n (by omega) f hf ⟨r.1,q.1,r.2.trans q.2.symm⟩
   omega
  ·rw[if_neg q,if_neg q,Int.add_zero];exact ih
def tG (f:Nat) (g:Nat→Int):Nat→Int:=fun i=>if exN i f≠0 then exN i f*g (dnN i f) else 0
theorem zcf (c g:Nat→Int) {f:Nat} (hf:f<3):linV (gRow (grI c 20) f) g=linV c (tG f g):=by
 unfold linV
 rw[zaM (g:=fun e=>sumT (fun i=>if exN i f≠0∧dnN i f=e then exN i f*c i else 0) 20*g e) fun e he=>by
  rw[←zil c hf 20 (Nat.le_refl _),←zmf c hf he 20 (Nat.le_refl _)];rfl]
 rw[zfq (fun e i=>if exN i f≠0∧dnN i f=e then exN i f*c i else 0)]
 refine zaM fun i hi=>?_
 unfold tG
 by_cases q:exN i f≠0
 ·rw[if_pos q]
  have h:=zpB (fun e=>exN i f*c i*g e) (e:=dnN i f) 20 (zh5 i hi f hf q)
  rw[zaM (g:=fun e=>exN i f*c i*g e*if e=dnN i f then 1 else 0),h]
  ·grind
  ·intro e _
   by_cases r:dnN i f=e
   ·rw[if_pos ⟨q,r⟩,if_pos r.symm,Int.mul_one]
   ·rw[if_neg fun z=>r z.2,if_neg fun z=>r z.symm,Int.zero_mul,Int.mul_zero]
 ·rw[if_neg q,Int.mul_zero]
  exact zg9 fun e _=>by rw[if_neg fun z=>q z.1,Int.zero_mul]
theorem znu {f i:Nat} (g:Nat→Int) (h:exN i f=0):tG f g i=0:=if_neg fun q=>q h
theorem zha {f i k:Nat} (g:Nat→Int) (h:exN i f=k+1):tG f g i=((k:Int)+1)*g (dnN i f):=by
 unfold tG
 rw[if_pos (by omega),h];rfl
def hmV (X Y:Nat→Int) (i:Nat):Int:=moV X i*coV Y i
theorem zfO (c X Y:Nat→Int):evS c X Y 20=linV c (hmV X Y):=zaM fun i _=>Int.mul_assoc ..
def rsV (X Y:Nat→Int) (f i:Nat):Int:=(if f=0 then 1 else X 0^exN i 0*Y 0^(3-exN i 0))*(if f=1 then 1 else X 1^exN i 1*Y 1^(3-exN i 1))*(if f=2 then 1 else X 2^exN i 2*Y 2^(3-exN i 2))
theorem zgw (X Y:Nat→Int) {f:Nat} (hf:f<3) (i:Nat):hmV X Y i=X f^exN i f*Y f^(3-exN i f)*rsV X Y f i:=by
 have e:moV X i=1*X 0^exN i 0*X 1^exN i 1*X 2^exN i 2:=rfl
 unfold hmV coV rsV
 rw[e]
 obtain rfl|rfl|rfl:=zdR hf
 ·rw[if_pos rfl,if_neg (by decide),if_neg (by decide)];grind
 ·rw[if_neg (by decide),if_pos rfl,if_neg (by decide)];grind
 ·rw[if_neg (by decide),if_neg (by decide),if_pos rfl];grind
theorem zpv (X Y:Nat→Int) {f:Nat} (hf:f<3) (v:Int) (i:Nat):rsV (upd X f v) Y f i=rsV X Y f i:=by
 unfold rsV
 obtain rfl|rfl|rfl:=zdR hf
 ·rw[za7 (e:=1) (by decide),za7 (e:=2) (by decide)];rfl
 ·rw[za7 (e:=0) (by decide),za7 (e:=2) (by decide)];rfl
 ·rw[za7 (e:=0) (by decide),za7 (e:=1) (by decide)];rfl
theorem zsp (X Y:Nat→Int) {f i:Nat} (hi:i<20) (hf:f<3) (h:exN i f≠0):rsV X Y f (dnN i f)=rsV X Y f i:=by
 have d:=zn0 i hi f hf (by omega)
 unfold rsV
 obtain rfl|rfl|rfl:=zdR hf
 ·rw[d 1 (by decide),d 2 (by decide)];rfl
 ·rw[d 0 (by decide),d 2 (by decide)];rfl
 ·rw[d 0 (by decide),d 1 (by decide)];rfl
theorem zho (X Y:Nat→Int) {f i k:Nat} (hi:i<20) (hf:f<3) (h:exN i f=k+1):dnN i f<20∧exN (dnN i f) f=k∧rsV X Y f (dnN i f)=rsV X Y f i:=by
 refine⟨zh5 i hi f hf (by omega),?_,zsp X Y hi hf (by omega)⟩
 rw[zn0 i hi f hf (by omega) f hf,if_pos rfl,h];rfl
theorem zpF (X Y:Nat→Int) {f:Nat} (hf:f<3) (B:Int) {i:Nat} (hi:i<20) :
  6*Y f^3*hmV (upd X f (X f+B)) Y i=6*Y f^3*hmV X Y i+6*Y f^2*B*tG f (hmV X Y) i+3*Y f*B^2*tG f (tG f (hmV X Y)) i+B^3*tG f (tG f (tG f (hmV X Y))) i:=by
 have u:=zgw (upd X f (X f+B)) Y hf i
 rw[zpv X Y hf,zaI] at u
 have s:=zgw X Y hf
 have k3:=(zaQ i hi f hf).2
 rw[u,s i]
 obtain q|q|q|q:exN i f=0∨exN i f=1∨exN i f=2∨exN i f=3:=by omega
 ·rw[znu _ q,znu _ q,znu _ q,q];grind
 ·obtain⟨a1,a2,a3⟩:=zho X Y (k:=0) hi hf q
  rw[zha (k:=0) _ q,zha (k:=0) _ q,zha (k:=0) _ q,znu _ a2,znu _ a2,s,a3,a2,q];grind
 ·obtain⟨a1,a2,a3⟩:=zho X Y (k:=1) hi hf q
  obtain⟨b1,b2,b3⟩:=zho X Y (k:=0) a1 hf a2
  rw[zha (k:=1) _ q,zha (k:=1) _ q,zha (k:=1) _ q,zha (k:=0) _ a2,zha (k:=0) _ a2,znu _ b2,s,s,b3,a3,b2,a2,q];grind
 ·obtain⟨a1,a2,a3⟩:=zho X Y (k:=2) hi hf q
  obtain⟨b1,b2,b3⟩:=zho X Y (k:=1) a1 hf a2
  obtain⟨c1,c2,c3⟩:=zho X Y (k:=0) b1 hf b2
  rw[zha (k:=2) _ q,zha (k:=2) _ q,zha (k:=2) _ q,zha (k:=1) _ a2,zha (k:=1) _ a2,zha (k:=0) _ b2,s,s,s,c3,b3,a3,c2,b2,a2,q];grind
def dK (c:Nat→Int) (f:Nat):Nat→Nat→Int
 | 0=>c
 | k+1=>gRow (grI (dK c f k) 20) f
theorem zpE (c X Y:Nat→Int) {f:Nat} (hf:f<3) (B:Int) :
  6*Y f^3*evS c (upd X f (X f+B)) Y 20=6*Y f^3*evS (dK c f 0) X Y 20+6*Y f^2*B*evS (dK c f 1) X Y 20+3*Y f*B^2*evS (dK c f 2) X Y 20+B^3*evS (dK c f 3) X Y 20:=by
 have e1:linV (dK c f 1) (hmV X Y)=linV c (tG f (hmV X Y)):=zcf c _ hf
 have e2:linV (dK c f 2) (hmV X Y)=linV c (tG f (tG f (hmV X Y))):=(zcf _ _ hf).trans (zcf c _ hf)
 have e3:linV (dK c f 3) (hmV X Y)=linV c (tG f (tG f (tG f (hmV X Y)))):=((zcf _ _ hf).trans (zcf _ _ hf)).trans (zcf c _ hf)
 have e0:linV (dK c f 0) (hmV X Y)=linV c (hmV X Y):=rfl
 simp only[zfO,e0,e1,e2,e3]
 rw[←zbS,←zbS,←zbS,←zbS,←zbS,←zeE,←zeE,←zeE]
 exact zaM fun i hi=>congrArg (c i * ·) (zpF X Y hf B hi)
end Go.Eng
namespace Go.Eng
theorem zi5 {p q x y:Int} (h:p*y=x*q) {e:Nat} (he:e≤3):p^e*q^(3-e)*y^3=x^e*y^(3-e)*q^3:=by
 rw[←zpk y he,←zpk q he]
 have k:(p*y)^e=(x*q)^e:=by rw[h]
 rw[Int.mul_pow,Int.mul_pow] at k
 generalize p^e=a at *
 generalize y^e=b at *
 generalize x^e=c at *
 generalize q^e=d at *
 generalize q^(3-e)=u
 generalize y^(3-e)=v
 grind
theorem zri {P Q X Y:Nat→Int} (h:∀j,j<3→P j*Y j=X j*Q j) {i:Nat} (hi:i<20):hmV P Q i*dnV Y=hmV X Y i*dnV Q:=by
 have e0:=zi5 (h 0 (by decide)) (zaQ i hi 0 (by decide)).2
 have e1:=zi5 (h 1 (by decide)) (zaQ i hi 1 (by decide)).2
 have e2:=zi5 (h 2 (by decide)) (zaQ i hi 2 (by decide)).2
 have m:∀Z:Nat→Int,moV Z i=1*Z 0^exN i 0*Z 1^exN i 1*Z 2^exN i 2:=fun _=>rfl
 unfold hmV coV dnV
 rw[m,m]
 generalize P 0^exN i 0=a0 at *
 generalize P 1^exN i 1=a1 at *
 generalize P 2^exN i 2=a2 at *
 generalize X 0^exN i 0=b0 at *
 generalize X 1^exN i 1=b1 at *
 generalize X 2^exN i 2=b2 at *
 generalize Q 0^(3-exN i 0)=c0 at *
 generalize Q 1^(3-exN i 1)=c1 at *
 generalize Q 2^(3-exN i 2)=c2 at *
 generalize Y 0^(3-exN i 0)=d0 at *
 generalize Y 1^(3-exN i 1)=d1 at *
 generalize Y 2^(3-exN i 2)=d2 at *
 generalize Y 0^3=y0 at *
 generalize Y 1^3=y1 at *
 generalize Y 2^3=y2 at *
 generalize Q 0^3=q0 at *
 generalize Q 1^3=q1 at *
 generalize Q 2^3=q2 at *
 calc 1*a0*a1*a2*(c0*c1*c2)*(y0*y1*y2)=(a0*c0*y0)*(a1*c1*y1)*(a2*c2*y2):=by grind
  _=(b0*d0*q0)*(b1*d1*q1)*(b2*d2*q2):=by rw[e0,e1,e2]
  _=_:=by grind
theorem zn9 (c:Nat→Int) {P Q X Y:Nat→Int} (h:∀j,j<3→P j*Y j=X j*Q j):evS c P Q 20*dnV Y=evS c X Y 20*dnV Q:=by
 rw[zfO,zfO,Int.mul_comm,Int.mul_comm _ (dnV Q),←zbS,←zbS]
 exact zaM fun i hi=>congrArg (c i * ·) (by have:=zri h hi;show dnV Y*hmV P Q i=dnV Q*hmV X Y i;rw[Int.mul_comm,this,Int.mul_comm])
theorem zoa {c:Nat→Int} {U:Nat→FQ} (hc:okC c) (hU:∀j,j<3→fwD (U j)) {X Y:Nat→Int} (h:∀j,j<3→(U j).is (X j) (Y j)):(sF c U 20).is (evS c X Y 20) (dnV Y):=by
 obtain⟨a1,_,_⟩:=zm6 hc (by decide) (fun j hj=>zl8 (hU j hj)) 20 (by decide)
 have e:=zn9 c (P:=pP U) (Q:=qQ U) (X:=X) (Y:=Y) h
 unfold FQ.is at *
 refine Int.eq_of_mul_eq_mul_right (zlY (U:=U)) ?_
 calc (sF c U 20).p.v*dnV Y*dnV (qQ U)=(sF c U 20).p.v*dnV (qQ U)*dnV Y:=by grind
  _=evS c (pP U) (qQ U) 20*(sF c U 20).q.v*dnV Y:=by rw[a1]
  _=evS c (pP U) (qQ U) 20*dnV Y*(sF c U 20).q.v:=by grind
  _=evS c X Y 20*dnV (qQ U)*(sF c U 20).q.v:=by rw[e]
  _=_:=by grind
theorem zot {a b:FQ} (h:mFe a b=0) {x y d e:Int} (xa:a.is x d) (xb:b.is y e):(mF a b).is (x*y) (d*e):=by
 by_cases q:inR (muP a b).natAbs∧inR (muQ a b).natAbs
 ·obtain⟨f,h1,h2,hf⟩:=(zgM a b).1 q
  rw[zlk] at hf
  obtain⟨e1,_⟩:=zc2 hf
  rw[e1]
  have qa:=a.q1
  have qb:=b.q1
  have dn:a.q.v*b.q.v≠0:=Int.mul_ne_zero (by omega) (by omega)
  have hi:f.is (a.p.v*b.p.v) (a.q.v*b.q.v):=zd6 dn h1 h2
  unfold FQ.is at *
  refine Int.eq_of_mul_eq_mul_right dn ?_
  calc f.p.v*(d*e)*(a.q.v*b.q.v)=f.p.v*(a.q.v*b.q.v)*(d*e):=by grind
   _=a.p.v*b.p.v*f.q.v*(d*e):=by rw[hi]
   _=a.p.v*d*(b.p.v*e)*f.q.v:=by grind
   _=x*a.q.v*(y*b.q.v)*f.q.v:=by rw[xa,xb]
   _=_:=by grind
 ·have hf:=(zgM a b).2 q
  rw[zlk] at hf
  obtain⟨_,e2⟩:=zc2 hf
  rw[h] at e2;cases e2
theorem znw {a b:FQ} (h:aFe a b=0) {x y d:Int} (hd:d≠0) (ha:a.is x d) (hb:b.is y d):(aF a b).is (x+y) d:=by
 by_cases q:adOk a b
 ·obtain⟨f,h1,h2,hf⟩:=(zgL a b).1 q
  rw[znt] at hf
  obtain⟨e1,_⟩:=zc2 hf
  rw[e1]
  have qa:=a.q1
  have qb:=b.q1
  have gp:=zc9 (p:=a.q.v) (q:=b.q.v) (by omega)
  have d1:b.q.v/gI a.q.v b.q.v*gI a.q.v b.q.v=b.q.v:=Int.ediv_mul_cancel (zb8 _ _)
  have d2:a.q.v/gI a.q.v b.q.v*gI a.q.v b.q.v=a.q.v:=Int.ediv_mul_cancel (zbO _ _)
  have hi:f.is (adX a b+adY a b) (adD a b):=zd6 (zf9 a b) h1 h2
  have dn:=zf9 a b
  have eX:adX a b=a.p.v*(b.q.v/gI a.q.v b.q.v):=rfl
  have eY:adY a b=b.p.v*(a.q.v/gI a.q.v b.q.v):=rfl
  have eD:adD a b=a.q.v/gI a.q.v b.q.v*b.q.v:=rfl
  generalize gI a.q.v b.q.v=g at *
  generalize a.q.v/g=A at *
  generalize b.q.v/g=B at *
  generalize adX a b=u at *
  generalize adY a b=v at *
  generalize adD a b=w at *
  unfold FQ.is at *
  have k1:u*d=x*w:=by
   refine Int.eq_of_mul_eq_mul_right (a:=g) (by omega) ?_
   calc u*d*g=a.p.v*d*(B*g):=by rw[eX];grind
    _=x*a.q.v*b.q.v:=by rw[ha,d1]
    _=x*(A*g)*b.q.v:=by rw[d2]
    _=x*w*g:=by rw[eD];grind
  have k2:v*d=y*w:=by
   calc v*d=b.p.v*d*A:=by rw[eY];grind
    _=y*b.q.v*A:=by rw[hb]
    _=y*w:=by rw[eD];grind
  refine Int.eq_of_mul_eq_mul_right dn ?_
  calc f.p.v*d*w=f.p.v*w*d:=by grind
   _=(u+v)*f.q.v*d:=by rw[hi]
   _=(u*d+v*d)*f.q.v:=by grind
   _=(x*w+y*w)*f.q.v:=by rw[k1,k2]
   _=_:=by grind
 ·have hf:=(zgL a b).2 q
  rw[znt] at hf
  obtain⟨_,e2⟩:=zc2 hf
  rw[h] at e2;cases e2
end Go.Eng
namespace Go.Eng
def wtK (B D:Int):Nat→Int
 | 0=>6*D^3
 | 1=>6*D^2*B
 | 2=>3*D*B^2
 | 3=>B^3
 | _=>0
def rtJ (D:Int):Nat→Int
 | 0=>6*D^3
 | 1=>6*D^2
 | 2=>3*D
 | _=>1
def fcK:Nat→Int
 | 0=>1
 | k+1=>fcK k*((k:Int)+1)
theorem zsq (B D:Int) {k:Nat} (hk:k<4):B^k*rtJ D k=wtK B D k∧D^k*fcK k*rtJ D k=6*D^3:=by
 obtain rfl|rfl|rfl|rfl:k=0∨k=1∨k=2∨k=3:=by omega
 ·exact⟨by show B^0*(6*D^3)=6*D^3;grind,by show D^0*1*(6*D^3)=6*D^3;grind⟩
 ·exact⟨by show B^1*(6*D^2)=6*D^2*B;grind,by show D^1*(1*(0+1))*(6*D^2)=6*D^3;grind⟩
 ·exact⟨by show B^2*(3*D)=3*D*B^2;grind,by show D^2*(1*(0+1)*(1+1))*(3*D)=6*D^3;grind⟩
 ·exact⟨by show B^3*1=B^3;grind,by show D^3*(1*(0+1)*(1+1)*(2+1))*1=6*D^3;grind⟩
def smK (c X Y:Nat→Int) (f:Nat) (B:Int) (k:Nat):Int:=sumT (fun k=>evS (dK c f k) X Y 20*wtK B (Y f) k) k
theorem zpy (c X Y:Nat→Int) {f:Nat} (hf:f<3) (B:Int):smK c X Y f B 4=6*Y f^3*evS c (upd X f (X f+B)) Y 20:=by
 rw[zpE c X Y hf B]
 show 0+evS (dK c f 0) X Y 20*(6*Y f^3)+evS (dK c f 1) X Y 20*(6*Y f^2*B)+evS (dK c f 2) X Y 20*(3*Y f*B^2)+evS (dK c f 3) X Y 20*B^3=_
 grind
theorem zng {v w m:FQ} {E N B D:Int} {k:Nat} (hk:k<4) (hm:m=mF v w) (he:mFe v w=0) (hv:v.is E N) (hw:w.is (B^k) (D^k*fcK k)):m.is (E*wtK B D k) (N*(6*D^3)):=by
 subst hm
 obtain⟨r1,r2⟩:=zsq B D hk
 have h:=zdp (zot he hv hw) (rtJ D k)
 rwa [Int.mul_assoc,Int.mul_assoc,r1,r2] at h
theorem zk9 {c:Nat→Int} {U:Nat→FQ} (h:evE c U=0):okC c:=by
 unfold evE at h
 by_cases q:okC c
 ·exact q
 ·rw[if_neg q] at h;cases h
theorem zoi {c:Nat→Int} (h:grE c=0):grV c=grI c 20:=if_pos h
theorem zn6 (X:Nat→Int):eqaP [1,1,1,1,1,1,1,1,1,1,1,1,1,1,1,1,1,1,1,1,1,1,1,1,1,1,1,1,1,1,1,1,1,1,1,1,1,1,1,1,1,1,1,1,1,1,1,1,1,1,1,1,1,1,1,1,1,1,1,1] (aI 60 X) (aI 60 X)=some true:=zkZ 60 X
theorem zoo {k:Nat} (hk:k<4):∃f:FQ,f.is 1 ((k:Int)+1)∧fsz 5 f∧pf E0 17 [.i .i64 1,.i .i64 ((k:Int)+1)]=some (.tu [fqP f,.i .i64 0]):=by
 obtain⟨f,h1,h2,hf⟩:=zmK (p:=1) (q:=(k:Int)+1) (by decide) (by unfold Fits64;omega) (by omega)
 have hi:f.is 1 ((k:Int)+1):=zd6 (by omega) h1 h2
 have t1:=zfs (z:=1) (by decide)
 have t2:=zfs (z:=(k:Int)+1) (by omega)
 exact⟨f,hi,zle hi (by omega) (by omega) (by omega) (by decide),hf⟩
theorem zpl {w t f:FQ} {B D:Int} {k:Nat} (hk:k<4) (hw:w.is (B^k) (D^k*fcK k)) (zw:fsz (5+127*k) w) (ht:t.is B D) (zt:fsz 122 t) (hf:f.is 1 ((k:Int)+1)) (zf:fsz 5 f) :
  (mF (mF w t) f).is (B^(k+1)) (D^(k+1)*fcK (k+1))∧fsz (5+127*(k+1)) (mF (mF w t) f):=by
 obtain⟨a1,a2,_⟩:=ziv w t zw zt (by omega) hw ht
 obtain⟨b1,b2,_⟩:=ziv _ f a2 zf (by omega) a1 hf
 refine⟨?_,?_⟩
 ·have e1:B^k*B*1=B^(k+1):=by rw[Int.mul_one,Int.pow_succ]
  have e2:D^k*fcK k*D*((k:Int)+1)=D^(k+1)*fcK (k+1):=by
   show _=D^(k+1)*(fcK k*((k:Int)+1))
   rw[Int.pow_succ];grind
  rwa [e1,e2] at b1
 ·exact⟨Nat.le_trans b2.1 (by omega),Nat.le_trans b2.2 (by omega)⟩
theorem zsz (X Y Z:Nat→Int):psplice (cs 20 X++cs 20 Y) 0 (cs 20 Z)=cs 20 Z++cs 20 Y:=by
 unfold psplice
 rw[zaO,List.take_zero,List.nil_append,List.drop_append_of_le_length (by rw[zaO];exact Nat.le_refl _),List.drop_eq_nil_of_le (by rw[zaO];exact Nat.le_refl _),List.nil_append]
theorem zsA (X Y Z:Nat→Int):psplice (cs 20 X++cs 20 Y) 20 (cs 20 Z)=cs 20 X++cs 20 Z:=by
 unfold psplice
 rw[zaO,List.take_append_of_le_length (by rw[zaO];exact Nat.le_refl _),List.take_of_length_le (by rw[zaO];exact Nat.le_refl _),List.drop_eq_nil_of_le (by rw[List.length_append,zaO,zaO];exact Nat.le_refl _),List.append_nil]
theorem zlF (X Y:Nat→Int):(cs 20 X++cs 20 Y).take 20=cs 20 X:=by rw[List.take_append_of_le_length (by rw[zaO];exact Nat.le_refl _),List.take_of_length_le (by rw[zaO];exact Nat.le_refl _)]
theorem zlG (X Y:Nat→Int):(cs 20 Y).take 20=cs 20 Y:=List.take_of_length_le (by rw[zaO];exact Nat.le_refl _)
theorem zpH (X Y:Nat→Int):(cs 20 X++cs 20 Y).drop 20=cs 20 Y:=by rw[List.drop_append_of_le_length (by rw[zaO];exact Nat.le_refl _),List.drop_eq_nil_of_le (by rw[zaO];exact Nat.le_refl _),List.nil_append]
theorem zoe (a b c:FQ):[PV.b (decide (a.p.v<0)),D a.p.v.natAbs,.b (decide (a.l.v<0)),D a.l.v.natAbs,.b (decide (b.p.v<0)),D b.p.v.natAbs,.b (decide (b.l.v<0)),D b.l.v.natAbs,.b (decide (c.p.v<0)),D c.p.v.natAbs,.b (decide (c.l.v<0)),D c.l.v.natAbs]=cg 3 fun e=>qc (s3 a b c e):=rfl
theorem zkY (U:Nat→FQ):(cg 3 fun e=>qc (U e)).length=12:=zdz (k:=4) (fun _=>rfl) 3
theorem zsU (U:Nat→FQ):(cg 3 fun e=>qc (U e)).take 4=qc (U 0):=zc7 (k:=4) (f:=fun e=>qc (U e)) (fun _=>rfl) (n:=3) (i:=0) (by decide)
theorem zsV (U:Nat→FQ):((cg 3 fun e=>qc (U e)).drop 4).take 4=qc (U 1):=zc7 (k:=4) (f:=fun e=>qc (U e)) (fun _=>rfl) (n:=3) (i:=1) (by decide)
theorem zsW (U:Nat→FQ):((cg 3 fun e=>qc (U e)).drop 8).take 4=qc (U 2):=zc7 (k:=4) (f:=fun e=>qc (U e)) (fun _=>rfl) (n:=3) (i:=2) (by decide)
theorem zuw (U:Nat→FQ) {f:Nat} (hf:f<3):((cg 3 fun e=>qc (U e)).drop (f*4)).take 4=qc (U f):=zc7 (k:=4) (f:=fun e=>qc (U e)) (fun _=>rfl) (n:=3) (i:=f) hf
theorem zux (U:Nat→FQ) {f:Nat} (hf:f<3) (v:FQ):psplice (cg 3 fun e=>qc (U e)) (f*4) [.b (decide (v.p.v<0)),D v.p.v.natAbs,.b (decide (v.l.v<0)),D v.l.v.natAbs]=cg 3 fun e=>qc (upd U f v e):=by
 have h:psplice (cg 3 fun e=>qc (U e)) (f*4) (qc v)=_:=zkX (k:=4) (f:=fun e=>qc (U e)) (fun _=>rfl) (n:=3) (i:=f) hf rfl
 rw[znj qc U f v] at h
 exact h
set_option maxHeartbeats 16000000 in
theorem p_PolyGrads {xs ms:List Int} (hx:Ints xs) (hm:Ints ms) {at_ by_:Int} (fa:Fits64 at_) (fb:Fits64 by_):pf E0 391 [ints xs,ints ms,.i .i64 at_,.i .i64 by_]=some (.b true):=by
 have gp:=zoW hx
 have hc:=zmc hx
 generalize genP xs=c at *
 have lv:=zkt
 obtain⟨g0,z0,k0⟩:=zdt hm (i:=0) (by decide) (by decide)
 obtain⟨g1,z1,k1⟩:=zdt hm (i:=4) (by decide) (by decide)
 obtain⟨g2,z2,k2⟩:=zdt hm (i:=8) (by decide) (by decide)
 obtain⟨t,zt,k3⟩:=zdt hm (i:=12) (by decide) (by decide)
 have o0:=zkv g0
 have o1:=zkv g1
 have o2:=zkv g2
 have o3:=zkv t
 have a1:=za6 at_ (n:=20) (by decide)
 have a2:0≤(at_.tmod 20+20).tmod 20∧(at_.tmod 20+20).tmod 20<20:=⟨Int.tmod_nonneg _ (by omega),Int.tmod_lt_of_pos _ (by decide)⟩
 have b1:=za6 at_ (n:=3) (by decide)
 have b2:0≤(at_.tmod 3+3).tmod 3∧(at_.tmod 3+3).tmod 3<3:=⟨Int.tmod_nonneg _ (by omega),Int.tmod_lt_of_pos _ (by decide)⟩
 obtain⟨i,hi⟩:∃i:Nat,(at_.tmod 20+20).tmod 20=(i:Int):=⟨((at_.tmod 20+20).tmod 20).toNat,by omega⟩
 obtain⟨f,hf⟩:∃f:Nat,(at_.tmod 3+3).tmod 3=(f:Int):=⟨((at_.tmod 3+3).tmod 3).toNat,by omega⟩
 have i20:i<20:=by omega
 have f3:f<3:=by omega
 have iL:(i<20)=True:=eq_true i20
 have fL:(f<3)=True:=eq_true f3
 refine zab (xf:=zvP) rfl (by simp[zvP]) ?_
 simp only[zvP]
 have h1:=zgI c
 have h2:=ziX c
 have h3:=zgI (upd c i by_)
 have h4:=ziX (upd c i by_)
 simp(disch:=omega)only[go_sem,seval,wqq,gp,z20,hi,iL,zaE,zaj,zsz,zsA,List.length_append]
 refine zao zvQ.eq_1 ?_
 simp(disch:=omega)only[go_sem,seval,wqq,h1,h2,z60,zlF,zpH,zlG,List.length_append,zn6]
 refine zao zvQ.eq_1 ?_
 simp(disch:=omega)only[go_sem,seval,wqq,h3,h4,z60,zlF,zpH,zlG,List.length_append,zn6]
 refine zao zvQ.eq_1 ?_
 simp(disch:=omega)only[go_sem,seval,wqq,k0,k1,k2,k3,o0,o1,o2,o3,zaE,zaj,hf,fL]
 obtain⟨U,hU⟩:∃U,U=s3 g0 g1 g2:=⟨_,rfl⟩
 have f12:=zoe g0 g1 g2
 rw[←hU] at f12
 have lU:=zkY U
 have sU:=zuw U f3
 have fL4:(f*4≤8)=True:=eq_true (by omega)
 have zU:∀j,j<3→fsz 122 (U j):=fun j hj=>by
  rw[hU]
  obtain rfl|rfl|rfl:=zdR hj
  ·exact z0
  ·exact z1
  ·exact z2
 clear hU
 obtain⟨q,hq⟩:∃q,q=aF (U f) t:=⟨_,rfl⟩
 have ad:=znt (U f) t
 rw[←hq] at ad
 have wU:=zux U f3 q
 obtain⟨V,hV⟩:∃V,V=upd U f q:=⟨_,rfl⟩
 rw[←hV] at wU
 have lV:=zkY V
 have v0:=zsU V
 have v1:=zsV V
 have v2:=zsW V
 have ev:=zfY (c:=c) (U:=V)
 have w1:=zgT (n:=1) (by decide)
 clear h1 h2 h3 h4 gp
 simp(disch:=omega)only[go_sem,seval,wqq,fL,f12,lU,sU,fL4,zhI,ad,wU,lV,v0,v1,v2,ev,zcm,zbA,zdg,zct]
 by_cases c0:evE c V=0
 ·have rV:evR c V=sF c V 20:=if_pos c0
  rw[rV,c0]
  obtain⟨X,hX⟩:∃X,X=upd (pP U) f (pP U f*t.q.v):=⟨_,rfl⟩
  obtain⟨Y,hY⟩:∃Y,Y=upd (qQ U) f (qQ U f*t.q.v):=⟨_,rfl⟩
  obtain⟨B,hB⟩:∃B,B=t.p.v*qQ U f:=⟨_,rfl⟩
  have qt:=t.q1
  have tB:t.is B (Y f):=by
   have h:=zdp (zcV t) (qQ U f)
   rw[hB,hY,zaI,Int.mul_comm (qQ U f)];exact h
  have uX:∀j,j<3→(U j).is (X j) (Y j):=fun j hj=>by
   rw[hX,hY]
   by_cases e:j=f
   ·subst e;rw[zaI,zaI];exact zdp (zcV (U j)) t.q.v
   ·rw[za7 e,za7 e];exact zcV (U j)
  have vX:∀j,j<3→(V j).is (upd X f (X f+B) j) (Y j):=fun j hj=>by
   rw[hV]
   by_cases e:j=f
   ·subst e
    obtain⟨i1,_,_⟩:=znx (U j) t (zU j hj) zt (by decide) (zcV _) (zcV _)
    rw[zaI,zaI,hq,hX,hY,hB,zaI,zaI];exact i1
   ·rw[za7 e,za7 e];exact uX j hj
  have yf:Y f≠0:=by
   rw[hY,zaI]
   have:=(U f).q1
   exact Int.mul_ne_zero (by show (U f).q.v≠0;omega) (by omega)
  have wv:=zoa (zk9 c0) (zn8 c0) vX
  have dY:dnV Y≠0:=by
   have q:∀j,j<3→Y j≠0:=fun j hj=>by
    rw[hY]
    by_cases e:j=f
    ·subst e;rw[zaI];have:=(U j).q1;exact Int.mul_ne_zero (by show (U j).q.v≠0;omega) (by omega)
    ·rw[za7 e];have:=(U j).q1;show (U j).q.v≠0;omega
   exact Int.mul_ne_zero (Int.mul_ne_zero (Int.pow_ne_zero (q 0 (by decide))) (Int.pow_ne_zero (q 1 (by decide)))) (Int.pow_ne_zero (q 2 (by decide)))
  have dD:dnV Y*(6*Y f^3)≠0:=Int.mul_ne_zero dY (Int.mul_ne_zero (by decide) (Int.pow_ne_zero yf))
  generalize sF c V 20=want at wv ⊢
  clear hX hY hB hV hq ev wU lV v0 v1 v2 f12 vX
  simp(disch:=omega)only[go_sem,seval,wqq,c0,w1,z20,zhI]
  refine zag zwZ.eq_1 (fun(k:Nat) fr M=>k≤4∧fr 17=.p 7 0∧fr 18=.p 8 0∧fr 19=(PV.i .i64 ((f:Nat):Int))∧fr 21=.p 10 0∧fr 23=.p 11 0∧fr 24=.p 12 0∧fr 25=.p 13 0∧fr 26=(PV.i .i64 ((k:Nat):Int))∧∃b0 b1 b2 b3 b4 b5 b6 b9 v7 v8 v10 v11 v12 v13 G L s w,QZ L s∧s.is (smK c X Y f B k) (dnV Y*(6*Y f^3))∧w.is (B^k) (Y f^k*fcK k)∧fsz (5+127*k) w ∧
   M=b0::b1::b2::b3::b4::b5::b6::some ⟨cg 3 fun e=>qc (U e),true,v7⟩::some ⟨qc t,true,v8⟩::b9::some ⟨qc want,true,v10⟩::some ⟨L,true,v11⟩::some ⟨qc w,true,v12⟩::some ⟨cs 20 (dK c f k),true,v13⟩::G) (fun k=>4-k) ?_ 0 ⟨by omega,by simp only[go_sem,seval],by simp only[go_sem,seval],by simp only[go_sem,seval],by simp only[go_sem,seval],by simp only[go_sem,seval],by simp only[go_sem,seval],by simp only[go_sem,seval],by simp only[go_sem,seval],_,_,_,_,_,_,_,_,_,_,_,_,_,_,[],_,fq0,whQ 1,qz0,?_,?_,?_,rfl⟩
  ·rintro k fr M ⟨hk,f17,f18,f19,f21,f23,f24,f25,f26,b0,b1,b2,b3,b4,b5,b6,b9,v7,v8,v10,v11,v12,v13,G,L,s,w,qz,hs,hw,zw,rfl⟩ ih
   have z1:=qz.len
   have z2:=qz.sc
   have z3:=qz.fz
   have z4:=qz.tk
   have z5:=qz.spl
   rcases Nat.lt_or_ge k 4 with h4|h4
   ·have q1:((k:Int)<4)=True:=eq_true (by omega)
    have ev:=zfY (c:=dK c f k) (U:=U)
    have u0:=zsU U
    have u1:=zsV U
    have u2:=zsW U
    by_cases c1:evE (dK c f k) U=0
    ·have rV:evR (dK c f k) U=sF (dK c f k) U 20:=if_pos c1
     rw[rV,c1] at ev
     have hv:=zoa (zk9 c1) (zn8 c1) uX
     generalize sF (dK c f k) U 20=v at *
     have pm:=zlk v w
     by_cases c2:mFe v w=0
     ·obtain⟨m,hm⟩:∃m,m=mF v w:=⟨_,rfl⟩
      have hmi:=zng h4 hm c2 hv hw
      rw[c2,←hm] at pm
      have pa:=znt s m
      by_cases c3:aFe s m=0
      ·have hsi:=znw c3 dD hs hmi
       rw[c3] at pa
       obtain⟨r,r1,r2,r3⟩:=zoo h4
       obtain⟨n1,n2⟩:=zpl h4 hw zw tB zt r1 r2
       obtain⟨y1,y2,y3⟩:=ziv w t zw zt (by omega) hw tB
       have y4:=(ziv _ r y2 r2 (by omega) y1 r1).2.2
       have m1:=zlk w t
       have m2:=zlk (mF w t) r
       rw[y3] at m1
       rw[y4] at m2
       generalize mF (mF w t) r=w' at *
       generalize mF w t=w1 at *
       have gd:=zgI (dK c f k)
       have es:smK c X Y f B (k+1)=smK c X Y f B k+evS (dK c f k) X Y 20*wtK B (Y f) k:=rfl
       rw[←es] at hsi
       generalize aF s m=s' at *
       by_cases c4:grE (dK c f k)=0
       ·rw[zoi c4,c4] at gd
        have ld:((cs 60 (grI (dK c f k) 20)).drop (f*20)).take 20=cs 20 (dK c f (k+1)):=zc8 _ (by omega)
        have il:(f*20≤40)=True:=eq_true (by omega)
        simp(disch:=omega)only[go_sem,seval,wqq,f17,f18,f19,f21,f23,f24,f25,f26,q1,z1,z2,z3,z4,z5,lU,u0,u1,u2,ev,pm,pa,r3,m1,m2,gd,ld,il,fL,zhI,zcm,zbA,zdg,zct,z60,mG,mG0,sG,sG0,lG,lqq]
        exact ih (k+1) _ _ (by omega) ⟨by omega,by simp only[go_sem,seval,f17],by simp only[go_sem,seval,f18],by simp only[go_sem,seval,f19],by simp only[go_sem,seval,f21],by simp only[go_sem,seval,f23],by simp only[go_sem,seval,f24],by simp only[go_sem,seval,f25],by simp only[go_sem,seval,f26];rw[Int.natCast_succ],_,_,_,_,_,_,_,_,_,_,_,_,_,_,_,_,_,_,qzs _,hsi,n1,n2,rfl⟩
       ·have c5:(grE (dK c f k)=0)=False:=eq_false c4
        simp(disch:=omega)only[go_sem,seval,wqq,f17,f18,f19,f21,f23,f24,f25,f26,q1,z1,z2,z3,z4,z5,lU,u0,u1,u2,ev,pm,pa,r3,m1,m2,gd,c5,lv,zhI,zcm,zbA,zdg,zct,z60,mG,mG0,sG,sG0,lG,lqq]
      ·have c4:(aFe s m=0)=False:=eq_false c3
       simp(disch:=omega)only[go_sem,seval,wqq,f17,f18,f19,f21,f23,f24,f25,f26,q1,z1,z2,z3,z4,z5,lU,u0,u1,u2,ev,pm,pa,c4,lv,zhI,zcm,zbA,zdg,zct,mG,mG0,sG,sG0,lG,lqq]
     ·have c3:(mFe v w=0)=False:=eq_false c2
      simp(disch:=omega)only[go_sem,seval,wqq,f17,f18,f19,f21,f23,f24,f25,f26,q1,lU,u0,u1,u2,ev,pm,c3,lv,zhI,zcm,zbA,zdg,zct,mG,mG0,sG,sG0,lG,lqq]
    ·have c2:(evE (dK c f k) U=0)=False:=eq_false c1
     have pm:=zlk (evR (dK c f k) U) w
     simp(disch:=omega)only[go_sem,seval,wqq,f17,f18,f19,f21,f23,f24,f25,f26,q1,lU,u0,u1,u2,ev,pm,c2,lv,zhI,zcm,zbA,zdg,zct,mG,mG0,sG,sG0,lG,lqq]
   ·obtain rfl:k=4:=by omega
    have key:cmpF s want=0:=(zjM _ _).2 (ziq dD dY hs wv (by rw[zpy c X Y f3 B];grind))
    clear ih
    simp(disch:=omega)only[go_sem,seval,wqq,f17,f18,f19,f21,f23,f24,f25,f26,z1,z2,z3,z4,z5,zhI,zcm,zbA,zhw,key,lv,mG,mG0,sG,sG0,lG,lqq]
  ·show (0:Int)*_=0*1
   rw[Int.zero_mul,Int.zero_mul]
  ·show (whQ 1).p.v*(Y f^0*1)=B^0*(whQ 1).q.v
   obtain⟨e1,e2⟩:=zkS (n:=1) (by decide)
   rw[e1,e2];grind
  ·exact(zjx (n:=1) (by decide)).2
 ·have c1:(evE c V=0)=False:=eq_false c0
  simp(disch:=omega)only[go_sem,seval,wqq,c1,lv]
end Go.Eng
