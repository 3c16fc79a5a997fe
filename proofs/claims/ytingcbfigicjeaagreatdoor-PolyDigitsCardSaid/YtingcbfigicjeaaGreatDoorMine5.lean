/- The engine and the contracts on which the statement stands: no conditions of its own. -/
import Derived.Test.YtingcbfigicjeaaGreatDoorMine4
set_option linter.unusedSimpArgs false
set_option linter.unusedVariables false
set_option linter.unusedSectionVars false
namespace Go.Eng
theorem zjR (f:FQ):pf E0 405 [rfQ f]=some (fqP f):=by
 obtain⟨s,t1,t2⟩:=zgx f.p
 obtain⟨u,v1,v2⟩:=zgx f.q
 have m:=zie f.p f.q (zp2 f)
 obtain⟨g,g1,g2,gm⟩:=m
 have hq:=f.q1
 obtain⟨l1,l2⟩:=zeo (p:=f.p.v) (q:=f.q.v) (by omega) f.cop
 obtain rfl:g=f:=zga (g1.trans l1) (g2.trans l2)
 refine zab (xf:=zvV) rfl (by simp[zvV]) ?_
 simp only[zvV]
 unfold rfQ rfP
 simp(disch:=omega)only[go_sem,seval,wqq,t1,t2,v1,v2,gm]
theorem zim (c:Nat→Int):pf E0 406 [aI 20 c]=some (.i .i64 (dgR c 20)):=by
 refine zab (xf:=zu3) rfl (by simp[zu3]) ?_
 simp only[zu3]
 simp(disch:=omega)only[go_sem,seval,wqq,zn1]
 refine zah zv1.eq_1 (fun(i:Nat) fr M=>i≤20∧fr 1=.p 0 0∧fr 3=.i .i64 (dgR c i)∧fr 4=monP∧fr 5=(PV.i .i64 ((i:Nat):Int))∧M=[some ⟨cs 20 c,true,0⟩]) (fun i=>20-i) ?_ 0 ⟨by omega,by simp only[go_sem,seval],by simp only[go_sem,seval];rfl,by simp only[go_sem,seval],by simp only[go_sem,seval],rfl⟩
 rintro i fr M ⟨hi,f1,f3,f4,f5,rfl⟩ ih
 rcases Nat.lt_or_ge i 20 with h|h
 ·have q1:((i:Int)<20)=True:=eq_true (by omega)
  have qL:(i<20)=True:=eq_true h
  have ix:=zby c h
  have mi:=zlB h
  have dl:((facL i).length:Int)=(degN i:Int):=by rw[zla i h]
  by_cases c0:c i=0
  ·have hs:dgR c (i+1)=dgR c i:=if_pos c0
   have c0':(c i=0)=True:=eq_true c0
   simp(disch:=omega)only[go_sem,seval,wqq,f1,f3,f4,f5,q1,qL,ix,c0',mG,mG0,sG,sG0,lG,lqq]
   exact ih (i+1) _ _ (by omega) ⟨by omega,by simp only[go_sem,seval,f1],by simp only[go_sem,seval,f3,hs],by simp only[go_sem,seval,f4],by simp only[go_sem,seval,f5];rw[Int.natCast_succ],rfl⟩
  ·have hs:dgR c (i+1)=if (degN i:Int)>dgR c i then (degN i:Int) else dgR c i:=if_neg c0
   have c0':(c i=0)=False:=eq_false c0
   simp(disch:=omega)only[go_sem,seval,wqq,f1,f3,f4,f5,q1,qL,ix,mi,dl,c0',mG,mG0,sG,sG0,lG,lqq]
   exact ih (i+1) _ _ (by omega) ⟨by omega,by simp only[go_sem,seval,f1],by simp only[go_sem,seval,f3,hs],by simp only[go_sem,seval,f4],by simp only[go_sem,seval,f5];rw[Int.natCast_succ],rfl⟩
 ·obtain rfl:i=20:=by omega
  simp(disch:=omega)only[go_sem,seval,wqq,f1,f3,f4,f5]
theorem zki {z:Int} {K:Nat} (hK:K≤1001) (z0:two K-14≤z) (z1:z≤two K+14) (z2:z≠0):(∃f:FQ,pf E0 182 [nP z,nP 1]=some (.tu [rfQ f,.i .i64 0]))∧∃f:FQ,pf E0 182 [nP 3,nP z]=some (.tu [rfQ f,.i .i64 0]):=by
 have l:=zdd K
 have b:z.natAbs≤2^K+14:=by unfold two at z0 z1;generalize 2^K=t at *;omega
 have lz:tlen z.natAbs≤1003:=by
  have:=zam b
  have:=zgM (2^K) 14
  have:=zag (v:=14) (n:=1) (by decide)
  omega
 have l1:=zc1 (z:=1) (by decide)
 have l3:=zc1 (z:=3) (by decide)
 have h:=zdc z 1 (by decide) (by omega) (by omega)
 have g:=zdc 3 z z2 (by omega) (by omega)
 obtain⟨f,f1,f2,_⟩:=zeZ (P:=z) (Q:=1) (n:=1003) (by decide) lz (by omega) (by decide)
 obtain⟨f',g1,g2,_⟩:=zeZ (P:=3) (Q:=z) (n:=1003) z2 (by omega) lz (by decide)
 rw[zd3 f1 f2] at h
 rw[zd3 g1 g2] at g
 exact⟨⟨f,h⟩,f',g⟩
theorem zmO {n:Int} (fn:Fits64 n):∃f:FQ,pf E0 404 [.i .i64 n]=some (rfQ f):=by
 have a3:0≤(n.tmod 3+3).tmod 3∧(n.tmod 3+3).tmod 3<3:=⟨Int.tmod_nonneg _ (by have:=Int.lt_tmod_of_pos n (show (0:Int)<3 by decide);omega),Int.tmod_lt_of_pos _ (by decide)⟩
 have b1:=Int.lt_tmod_of_pos n (show (0:Int)<3 by decide)
 have b2:=Int.tmod_lt_of_pos n (show (0:Int)<3 by decide)
 have b3:=Int.lt_tmod_of_pos n (show (0:Int)<7 by decide)
 have b4:=Int.tmod_lt_of_pos n (show (0:Int)<7 by decide)
 obtain⟨K,hK⟩:∃K:Nat,999+(n.tmod 3+3).tmod 3=(K:Int):=⟨(999+(n.tmod 3+3).tmod 3).toNat,by omega⟩
 have pw:=zjS K (by omega)
 obtain⟨a,ha⟩:∃a,a=n.tmod 7:=⟨_,rfl⟩
 have o1:=zcd 1 (by decide)
 have o3:=zcd 3 (by decide)
 have o7:=zcd 7 (by decide)
 have oa:=zcd a (by unfold Fits64;omega)
 have t32:14<two K:=by
  unfold two
  have h1:2^5≤2^K:=Nat.pow_le_pow_right (by decide) (by omega)
  have h2:(2:Nat)^5=32:=rfl
  omega
 have lt:=zdd K
 have la:=zc1 (z:=a) (by omega)
 have l7:=zc1 (z:=7) (by decide)
 have ad:=zgu (two K) a (by rw[zb7];omega) (by omega)
 have ls:=zdz (two K) a
 rw[zb7] at ls
 have sb:=zod (two K+a) 7 (by omega) (by omega)
 obtain⟨⟨u,u1⟩,v,v1⟩:=zki (z:=two K+a) (K:=K) (by omega) (by omega) (by omega) (by omega)
 obtain⟨⟨x,x1⟩,y,y1⟩:=zki (z:=two K+a-7) (K:=K) (by omega) (by omega) (by omega) (by omega)
 have key:∀b c:Bool,decide (n.tmod 2=0)=b→decide (n.tmod 5=0)=c→pf E0 404 [.i .i64 n]=some (rfQ (if b then (if c then y else x) else (if c then v else u))):=fun b c hb hc=>by
  have kb:(n.tmod 2=0)=(b=true):=by rw[←hb,decide_eq_true_eq]
  have kc:(n.tmod 5=0)=(c=true):=by rw[←hc,decide_eq_true_eq]
  refine zab (xf:=zvK) rfl (by simp[zvK]) ?_
  simp only[zvK]
  cases b<;>cases c
  all_goals simp(disch:=omega)only[go_sem,seval,wqq,←ha,hK,pw,oa,o1,o3,o7,ad,kb,kc,sb]
  ·refine zan [3] rfl (by simp only[go_sem,seval]) ?_
   simp(disch:=omega)only[go_sem,seval,wqq,←ha,hK,pw,oa,o1,o3,o7,ad,kb,kc,sb,u1,v1,x1,y1]
  ·refine zan [3] rfl (by simp only[go_sem,seval]) ?_
   simp(disch:=omega)only[go_sem,seval,wqq,←ha,hK,pw,oa,o1,o3,o7,ad,kb,kc,sb,u1,v1,x1,y1]
   refine zan [3] rfl (by simp only[go_sem,seval]) ?_
   simp(disch:=omega)only[go_sem,seval,wqq,←ha,hK,pw,oa,o1,o3,o7,ad,kb,kc,sb,u1,v1,x1,y1]
  ·refine zan [3] rfl (by simp only[go_sem,seval]) ?_
   simp(disch:=omega)only[go_sem,seval,wqq,←ha,hK,pw,oa,o1,o3,o7,ad,kb,kc,sb,u1,v1,x1,y1]
   refine zan [3] rfl (by simp only[go_sem,seval]) ?_
   simp(disch:=omega)only[go_sem,seval,wqq,←ha,hK,pw,oa,o1,o3,o7,ad,kb,kc,sb,u1,v1,x1,y1]
  ·refine zan [3] rfl (by simp only[go_sem,seval]) ?_
   simp(disch:=omega)only[go_sem,seval,wqq,←ha,hK,pw,oa,o1,o3,o7,ad,kb,kc,sb,u1,v1,x1,y1]
   refine zan [3] rfl (by simp only[go_sem,seval]) ?_
   simp(disch:=omega)only[go_sem,seval,wqq,←ha,hK,pw,oa,o1,o3,o7,ad,kb,kc,sb,u1,v1,x1,y1]
   refine zan [3] rfl (by simp only[go_sem,seval]) ?_
   simp(disch:=omega)only[go_sem,seval,wqq,←ha,hK,pw,oa,o1,o3,o7,ad,kb,kc,sb,u1,v1,x1,y1]
 exact⟨_,key _ _ rfl rfl⟩
theorem p_PolyDigits {xs ms:List Int} (hx:Ints xs) (hm:Ints ms) {n:Int} (fn:Fits64 n):pf E0 390 [ints xs,ints ms,.i .i64 n]=some (.b true):=by
 have gp:=zn2 hx
 generalize genP xs=c at *
 have lv:=zjP
 obtain⟨f0,_,k0⟩:=zjT hm (i:=0) (by decide) (by decide)
 obtain⟨f1,k1⟩:=zmO fn
 have k2:pf E0 185 [.i .i64 n]=some (rfQ (whQ n)):=by rw[zkG fn,zd3 (zfQ fn).1 (zfQ fn).2]
 generalize whQ n=f2 at k2
 have k3:pf E0 185 [.i .i64 0]=some (rfQ (whQ 0)):=by rw[zkG (by decide),zd3 (zfQ (by decide)).1 (zfQ (by decide)).2]
 generalize whQ 0=f3 at k3
 have d0:=zb1 f0
 have d1:=zb1 f1
 have d2:=zb1 f2
 have d3:=zb1 f3
 have r0:=zcc f0
 have r1:=zcc f1
 have r2:=zcc f2
 have r3:=zcc f3
 have o0:=zjR f0
 have o1:=zjR f1
 have o2:=zjR f2
 have o3:=zjR f3
 have e1:=zes c
 have e2:=zim c
 have e3:=zes zF
 have e4:dgR zF 20 = -1:=by decide
 rw[e4] at e3
 refine zab (xf:=zuw) rfl (by simp[zuw]) ?_
 simp only[zuw]
 simp(disch:=omega)only[go_sem,seval,wqq,gp,zaC,zaj,k0,k1,k2,k3]
 refine zbR zud.eq_1 ?_
 simp(disch:=omega)only[go_sem,seval,wqq,za7,o0,d0,r0]
 refine zaZ [32] rfl ?_ ?_
 ·simp(disch:=omega)only[go_sem,seval,wqq,za7,o0,d0,r0]
  exact⟨_,rfl,rfl⟩
 simp(disch:=omega)only[go_sem,seval,wqq,za7,o0,d0,r0]
 refine zbR zud.eq_1 ?_
 simp(disch:=omega)only[go_sem,seval,wqq,za7,o1,d1,r1]
 refine zaZ [32] rfl ?_ ?_
 ·simp(disch:=omega)only[go_sem,seval,wqq,za7,o1,d1,r1]
  exact⟨_,rfl,rfl⟩
 simp(disch:=omega)only[go_sem,seval,wqq,za7,o1,d1,r1]
 refine zbR zud.eq_1 ?_
 simp(disch:=omega)only[go_sem,seval,wqq,za7,o2,d2,r2]
 refine zaZ [32] rfl ?_ ?_
 ·simp(disch:=omega)only[go_sem,seval,wqq,za7,o2,d2,r2]
  exact⟨_,rfl,rfl⟩
 simp(disch:=omega)only[go_sem,seval,wqq,za7,o2,d2,r2]
 refine zbR zud.eq_1 ?_
 simp(disch:=omega)only[go_sem,seval,wqq,za7,o3,d3,r3]
 refine zaZ [32] rfl ?_ ?_
 ·simp(disch:=omega)only[go_sem,seval,wqq,za7,o3,d3,r3]
  exact⟨_,rfl,rfl⟩
 simp(disch:=omega)only[go_sem,seval,wqq,za7,o3,d3,r3]
 refine zbR zud.eq_1 ?_
 simp(disch:=omega)only[go_sem,seval,wqq]
 refine zan [7] rfl (by simp only[go_sem,seval]) ?_
 simp(disch:=omega)only[go_sem,seval,wqq,e1,e2,e3,z20,lv]
 trace_state
end Go.Eng
