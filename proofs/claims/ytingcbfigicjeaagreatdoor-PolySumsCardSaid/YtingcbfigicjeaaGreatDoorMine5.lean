/- The engine and the contracts on which the statement stands: no conditions of its own. -/
import Derived.Test.YtingcbfigicjeaaGreatDoorMine4
set_option linter.unusedSimpArgs false
set_option linter.unusedVariables false
set_option linter.unusedSectionVars false
namespace Go.Eng
theorem zhq {u v w:Int} (c:Nat.gcd u.natAbs v.natAbs=1) (h:u∣v*w):u∣w:=by
 rw[←Int.natAbs_dvd_natAbs] at *
 rw[Int.natAbs_mul] at h
 exact Nat.Coprime.dvd_of_dvd_mul_left c h
theorem zkB {f:FQ} {x d:Int} (h:f.is x d):∃k,d=f.q.v*k∧x=f.p.v*k:=by
 have hq:=f.q1
 obtain⟨k,hk⟩:f.q.v∣d:=zhq (v:=f.p.v) (by rw[Nat.gcd_comm];exact f.cop) ⟨x,by unfold FQ.is at h;rw[h,Int.mul_comm]⟩
 refine⟨k,hk,?_⟩
 unfold FQ.is at h
 rw[hk] at h
 exact Int.eq_of_mul_eq_mul_right (a:=f.q.v) (by omega) (by rw[←h];grind)
theorem zex {a m x:Int} (h:x=a*m) (hm:m≠0):tlen a.natAbs≤tlen x.natAbs:=by
 refine zam ?_
 rw[h,Int.natAbs_mul]
 exact Nat.le_mul_of_pos_right _ (by omega)
theorem zlb (a b:FQ) {n:Nat} {x y d:Int} (hd:d≠0) (ha:a.is x d) (hb:b.is y d) (hx:tlen x.natAbs≤n) (hy:tlen y.natAbs≤n) (ht:tlen d.natAbs≤n) (hn:n+1<1230):∃f:FQ,pf E0 9 [fqP a,fqP b]=some (.tu [fqP f,.i .i64 0])∧f.is (x+y) d:=by
 obtain⟨k,k1,k2⟩:=zkB ha
 obtain⟨l,l1,l2⟩:=zkB hb
 have qa:=a.q1
 have qb:=b.q1
 have gp:=zcQ (p:=a.q.v) (q:=b.q.v) (by omega)
 have d1:b.q.v/gI a.q.v b.q.v*gI a.q.v b.q.v=b.q.v:=Int.ediv_mul_cancel (zb0 _ _)
 have d2:a.q.v/gI a.q.v b.q.v*gI a.q.v b.q.v=a.q.v:=Int.ediv_mul_cancel (zbI _ _)
 have cp:=zfq (p:=a.q.v) (s:=b.q.v) (by omega)
 have eX:adX a b=a.p.v*(b.q.v/gI a.q.v b.q.v):=rfl
 have eY:adY a b=b.p.v*(a.q.v/gI a.q.v b.q.v):=rfl
 have eD:adD a b=a.q.v/gI a.q.v b.q.v*b.q.v:=rfl
 have b0:b.q.v/gI a.q.v b.q.v≠0:=fun z=>by rw[z] at d1;omega
 generalize gI a.q.v b.q.v=g at *
 generalize a.q.v/g=A at *
 generalize b.q.v/g=B at *
 have kl:A*k=B*l:=Int.eq_of_mul_eq_mul_right (a:=g) (by omega) (by
  have e:a.q.v*k=b.q.v*l:=by rw[←k1,←l1]
  rw[←d1,←d2] at e
  grind)
 obtain⟨m,hm⟩:B∣k:=zhq (v:=A) (by rw[Nat.gcd_comm];exact cp) ⟨l,kl⟩
 have lm:l=A*m:=Int.eq_of_mul_eq_mul_left (a:=B) b0 (by rw[←kl,hm];grind)
 have x1:x=adX a b*m:=by rw[k2,eX,hm];grind
 have y1:y=adY a b*m:=by rw[l2,eY,lm];grind
 have z1:d=adD a b*m:=by rw[l1,eD,lm];grind
 have m0:m≠0:=fun z=>by rw[z,Int.mul_zero] at z1;exact hd z1
 have s1:x+y=(adX a b+adY a b)*m:=by rw[x1,y1,Int.add_mul]
 have t1:=zex x1 m0
 have t2:=zex y1 m0
 have t3:=zex z1 m0
 have t4:=zex s1 m0
 have t5:=zdt x y
 obtain⟨f,h1,h2,hf⟩:=(zim a b).1 ⟨zbR (by omega),zbR (by omega),zbR (by omega),zbR (by omega)⟩
 refine⟨f,hf,?_⟩
 rw[s1,z1]
 exact zgb (zga (zhg a b) h1 h2) m
def smC (c:Nat→Int):Nat→Int:=fun e=>(c e).tmod 1000000
theorem zmQ (z:Int) : -1000000<z.tmod 1000000∧z.tmod 1000000<1000000:=za4 z (by decide)
theorem zls (c d P Q:Nat→Int) (n:Nat):evS (fun e=>c e+d e) P Q n=evS c P Q n+evS d P Q n:=by
 show sumT _ _=sumT _ _+sumT _ _
 rw[←zgG]
 exact zgH fun i _=>by grind
theorem zlv {f:FQ} (h:fwD f):fsz 76 f:=by
 unfold fwD at h
 exact⟨zeF (by omega),zeF (by omega)⟩
theorem znr {c d:Nat→Int} (hc:okC c) (hd:okC d) (hs:okC fun e=>c e+d e) {U:Nat→FQ} (hU:∀j,j<3→fwD (U j)):∃f:FQ,pf E0 9 [fqP (sF c U 20),fqP (sF d U 20)]=some (.tu [fqP f,.i .i64 0])∧cmpF f (sF (fun e=>c e+d e) U 20)=0:=by
 have hz:∀j,j<3→fsz 76 (U j):=fun j hj=>zlv (hU j hj)
 obtain⟨a1,a2,_⟩:=ziO hc (by decide) hz 20 (by decide)
 obtain⟨b1,b2,_⟩:=ziO hd (by decide) hz 20 (by decide)
 obtain⟨s1,s2,_⟩:=ziO hs (by decide) hz 20 (by decide)
 have td:tlen (dnV (qQ U)).natAbs≤3+9*76:=by
  have a:=zaK (hz 0 (by decide)).2 3
  have b:=zaK (hz 1 (by decide)).2 3
  have d:=zaK (hz 2 (by decide)).2 3
  have m1:=zar (qQ U 0^3) (qQ U 1^3)
  have m2:=zar (qQ U 0^3*qQ U 1^3) (qQ U 2^3)
  unfold dnV
  have a:tlen (qQ U 0^3).natAbs≤1+76*3:=a
  have b:tlen (qQ U 1^3).natAbs≤1+76*3:=b
  have d:tlen (qQ U 2^3).natAbs≤1+76*3:=d
  omega
 obtain⟨f,h1,h2⟩:=zlb _ _ (n:=716) zhB a1 b1 (by omega) (by omega) (by omega) (by decide)
 refine⟨f,h1,(zjh _ _).2 ?_⟩
 refine zhU zhB zhB h2 s1 ?_
 rw[zls]
def mixF (i:Nat) (f g:Nat→Int):Nat→Int:=fun e=>if e<i then f e else g e
theorem zh2 {i n:Nat} (h:n≤i) (f g:Nat→Int):cs n (mixF i f g)=cs n f:=zfS fun e he=>if_pos (by omega)
theorem znG (i:Nat) (f g:Nat→Int):mixF i f g i=g i:=if_neg (by omega)
theorem zh3 (i:Nat) (f g:Nat→Int) (v:Int) (h:v=f i):upd (mixF i f g) i v=mixF (i+1) f g:=funext fun e=>by
 unfold upd mixF
 by_cases q:e=i
 ·subst q;rw[if_pos rfl,if_pos (by omega)];exact h
 ·rw[if_neg q]
  by_cases r:e<i
  ·rw[if_pos r,if_pos (by omega)]
  ·rw[if_neg r,if_neg (by omega)]
theorem zkv {c d:Nat→Int} (hc:okC c) (hd:okC d) (U:Nat→FQ):evE c U=evE d U:=by unfold evE;rw[if_pos hc,if_pos hd]
theorem zpX {c:Nat→Int} {U:Nat→FQ} (h:evE c U=0):∀j,j<3→fwD (U j):=by
 unfold evE at h
 by_cases q:okC c
 ·rw[if_pos q] at h
  by_cases r:∀j,j<3→fwD (U j)
  ·exact r
  ·rw[if_neg r] at h;cases h
 ·rw[if_neg q] at h;cases h
set_option maxHeartbeats 4000000 in
theorem p_PolySums {xs ms ps:List Int} (hx:Ints xs) (hm:Ints ms) (hp:Ints ps):pf E0 392 [ints xs,ints ms,ints ps]=some (.b true):=by
 have ga:=zkG hx
 have gb:=zkG hm
 generalize genP xs=a at *
 generalize genP ms=b at *
 have ka:okC (smC a):=fun e _=>by have:=zmQ (a e);show-1073741824≤(a e).tmod 1000000∧(a e).tmod 1000000≤1073741824;omega
 have kb:okC (smC b):=fun e _=>by have:=zmQ (b e);show-1073741824≤(b e).tmod 1000000∧(b e).tmod 1000000≤1073741824;omega
 have kc:okC (fun e=>smC a e+smC b e):=fun e _=>by have:=zmQ (a e);have:=zmQ (b e);show-1073741824≤(a e).tmod 1000000+(b e).tmod 1000000∧(a e).tmod 1000000+(b e).tmod 1000000≤1073741824;omega
 have lv:=zjW
 obtain⟨f0,_,k0⟩:=zel hp (i:=0) (by decide) (by decide)
 obtain⟨f1,_,k1⟩:=zel hp (i:=4) (by decide) (by decide)
 obtain⟨g2,_,k2⟩:=zel hp (i:=8) (by decide) (by decide)
 have o0:=zl8 f0
 have o1:=zl8 f1
 have o2:=zl8 g2
 have ea:=zej (c:=smC a) (U:=s3 f0 f1 g2)
 have eb:=zej (c:=smC b) (U:=s3 f0 f1 g2)
 have ec:=zej (c:=fun e=>smC a e+smC b e) (U:=s3 f0 f1 g2)
 rw[show s3 f0 f1 g2 0=f0 from rfl,show s3 f0 f1 g2 1=f1 from rfl,show s3 f0 f1 g2 2=g2 from rfl] at ea eb ec
 have sm:=znr ka kb kc (U:=s3 f0 f1 g2)
 have nb:=zkv kb ka (s3 f0 f1 g2)
 have nc:=zkv kc ka (s3 f0 f1 g2)
 have nd:=zpX (c:=smC a) (U:=s3 f0 f1 g2)
 rw[nb] at eb
 rw[nc] at ec
 have va:evE (smC a) (s3 f0 f1 g2)=0→evR (smC a) (s3 f0 f1 g2)=sF (smC a) (s3 f0 f1 g2) 20:=fun q=>if_pos q
 have vb:evE (smC a) (s3 f0 f1 g2)=0→evR (smC b) (s3 f0 f1 g2)=sF (smC b) (s3 f0 f1 g2) 20:=fun q=>if_pos (nb.trans q)
 have vc:evE (smC a) (s3 f0 f1 g2)=0→evR (fun e=>smC a e+smC b e) (s3 f0 f1 g2)=sF (fun e=>smC a e+smC b e) (s3 f0 f1 g2) 20:=fun q=>if_pos (nc.trans q)
 generalize s3 f0 f1 g2=U at *
 refine zab (xf:=zut) rfl (by simp[zut]) ?_
 simp only[zut]
 simp(disch:=omega)only[go_sem,seval,wqq,ga,gb,z20]
 refine zai zvC.eq_1 (fun(i:Nat) fr M=>i≤20∧fr 2=ints ps∧fr 7=.p 0 0∧fr 8=.p 1 0∧fr 9=.p 2 0∧fr 10=(PV.i .i64 ((i:Nat):Int))∧∃v0 v1 v2,M=[some ⟨cs 20 (mixF i (smC a) a),true,v0⟩,some ⟨cs 20 (mixF i (smC b) b),true,v1⟩,some ⟨cs 20 (mixF i (fun e=>smC a e+smC b e) zF),true,v2⟩]) (fun i=>20-i) ?_ 0 ⟨by omega,by simp only[go_sem,seval],by simp only[go_sem,seval],by simp only[go_sem,seval],by simp only[go_sem,seval],by simp only[go_sem,seval],_,_,_,rfl⟩
 rintro i fr M ⟨hi,f2,f7,f8,f9,f10,v0,v1,v2,rfl⟩ ih
 rcases Nat.lt_or_ge i 20 with h|h
 ·have q1:((i:Int)<20)=True:=eq_true (by omega)
  have qL:(i<20)=True:=eq_true h
  have i0:=zbb (mixF i (smC a) a) h
  have i1:=zbb (mixF i (smC b) b) h
  rw[znG] at i0 i1
  have j0:=zh3 i (smC a) a ((a i).tmod 1000000) rfl
  have j1:=zh3 i (smC b) b ((b i).tmod 1000000) rfl
  have j2:=zh3 i (fun e=>smC a e+smC b e) zF ((a i).tmod 1000000+(b i).tmod 1000000) rfl
  have t0:=zmQ (a i)
  have t1:=zmQ (b i)
  have i2:=zbb (upd (mixF i (smC a) a) i ((a i).tmod 1000000)) h
  have i3:=zbb (upd (mixF i (smC b) b) i ((b i).tmod 1000000)) h
  rw[zc8] at i2 i3
  simp(disch:=omega)only[go_sem,seval,wqq,f2,f7,f8,f9,f10,q1,qL,i0,i1,i2,i3,mG,mG0,sG,sG0,lG,lqq]
  exact ih (i+1) _ _ (by omega) ⟨by omega,by simp only[go_sem,seval,f2],by simp only[go_sem,seval,f7],by simp only[go_sem,seval,f8],by simp only[go_sem,seval,f9],by simp only[go_sem,seval,f10];rw[Int.natCast_succ],_,_,_,by rw[j0,j1,j2]⟩
 ·obtain rfl:i=20:=by omega
  rw[zh2 (Nat.le_refl 20),zh2 (Nat.le_refl 20),zh2 (Nat.le_refl 20)]
  clear ih
  simp(disch:=omega)only[go_sem,seval,wqq,f2,f7,f8,f9,f10,k0,k1,k2,o0,o1,o2,ea,eb,ec]
  by_cases c0:evE (smC a) U=0
  ·obtain⟨s,s1,s2⟩:=sm (nd c0)
   rw[va c0,vb c0,vc c0,c0]
   simp(disch:=omega)only[go_sem,seval,wqq,s1,s2,lv,zg2,mG,mG0,sG,sG0,lG,lqq]
  ·have c1:(evE (smC a) U=0)=False:=eq_false c0
   simp(disch:=omega)only[go_sem,seval,wqq,c1,lv,mG,mG0,sG,sG0,lG,lqq]
end Go.Eng
