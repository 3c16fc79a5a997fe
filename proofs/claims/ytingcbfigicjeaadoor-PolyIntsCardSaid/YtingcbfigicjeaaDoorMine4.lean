/- The engine and the contracts on which the statement stands: no conditions of its own. -/
import Derived.Test.YtingcbfigicjeaaDoorMine3
set_option linter.unusedSimpArgs false
set_option linter.unusedVariables false
set_option linter.unusedSectionVars false
namespace Go.Eng
def okC (c:Nat→Int):Prop:=∀e,e<20 → -1073741824≤c e∧c e≤1073741824
open Classical in
noncomputable def vlC (c:Nat→Int):Int:=if okC c then 0 else 1
theorem zlJ (p:Prop):p=True∨p=False:=by by_cases h:p;exact .inl (eq_true h);exact .inr (eq_false h)
theorem zav (c:Nat→Int):pf E0 416 [aI 20 c]=some (.i .i64 (vlC c)):=by
 refine zab (xf:=ztb) rfl (by simp[ztb]) ?_
 simp only[ztb]
 simp(disch:=omega)only[go_sem,seval,wqq]
 refine zag zt0.eq_1 (fun(i:Nat) fr M=>i≤20∧(∀e,e<i → -1073741824≤c e∧c e≤1073741824)∧fr 5=aI 20 c∧fr 6=(PV.i .i64 ((i:Nat):Int))) (fun i=>20-i) ?_ 0 ⟨by omega,fun e he=>by omega,by simp only[go_sem,seval],by simp only[go_sem,seval]⟩
 rintro i fr M ⟨hi,hlo,f5,f6⟩ ih
 rcases Nat.lt_or_ge i 20 with h|h
 ·have q1:((i:Int)<20)=True:=eq_true (by omega)
  have ix:=zcS c h
  have bad:¬(-1073741824≤c i∧c i≤1073741824)→vlC c=1:=fun q=>if_neg fun z=>q (z i h)
  rcases zlJ (c i < -1073741824) with t1|t1
  ·rw[bad (by have:=of_eq_true t1;omega)]
   simp(disch:=omega)only[go_sem,seval,wqq,f5,f6,q1,ix,t1]
  ·rcases zlJ (c i>1073741824) with t2|t2
   ·rw[bad (by have:=of_eq_true t2;omega)]
    simp(disch:=omega)only[go_sem,seval,wqq,f5,f6,q1,ix,t1,t2]
   ·have u1:=of_eq_false t1
    have u2:=of_eq_false t2
    simp(disch:=omega)only[go_sem,seval,wqq,f5,f6,q1,ix,t1,t2]
    refine ih (i+1) _ _ (by omega) ⟨by omega,fun e he=>?_,by simp only[go_sem,seval,f5],by simp only[go_sem,seval];rw[Int.natCast_succ]⟩
    rcases Nat.lt_or_ge e i with z|z
    ·exact hlo e z
    ·obtain rfl:e=i:=by omega
     omega
 ·obtain rfl:i=20:=by omega
  have:vlC c=0:=if_pos hlo
  rw[this]
  simp(disch:=omega)only[go_sem,seval,wqq,f5,f6]
theorem zic {n:Int} (k:Int) (h:n≤0):n.tmod k≤0:=by
 have:=Int.tmod_nonneg k (show 0 ≤ -n by omega)
 rw[Int.neg_tmod] at this
 omega
def genC (n:Int):Int:=if n.tmod 5=1∨n.tmod 5 = -1 then (n.tdiv 5).tmod 10 else if n.tmod 5=2 then (n.tdiv 5).tmod 5000 else if n.tmod 5=3 then 1073741824-(n.tdiv 5).tmod 3 else if n.tmod 5 = -3 then-1073741824-(n.tdiv 5).tmod 3 else 0
def genP (xs:List Int):Nat→Int:=fun e=>genC (pk xs e)
theorem zg9 {n:Int} (h:Fits64 n) : -1073741824≤genC n∧genC n≤1073741824:=by
 unfold genC
 have a1:=zb5 (n.tdiv 5) (n:=10) (by decide)
 have a2:=zb5 (n.tdiv 5) (n:=5000) (by decide)
 have a3:=zb5 (n.tdiv 5) (n:=3) (by decide)
 split
 ·omega
 ·split
  ·omega
  ·split
   ·rename_i q
    have:0≤n:=by
     rcases Int.lt_or_le n 0 with z|z
     ·have:=zic 5 (Int.le_of_lt z);omega
     ·exact z
    have h0:0≤(n.tdiv 5).tmod 3:=Int.tmod_nonneg _ (Int.tdiv_nonneg this (by decide))
    omega
   ·split
    ·rename_i q
     have:n≤0:=by
      rcases Int.lt_or_le 0 n with z|z
      ·have:=Int.tmod_nonneg 5 (Int.le_of_lt z);omega
      ·exact z
     have h0:(n.tdiv 5).tmod 3≤0:=zic _ (by have:=Int.tdiv_nonneg (show 0 ≤ -n by omega) (show (0:Int)≤5 by decide);rw[Int.neg_tdiv] at this;omega)
     omega
    ·omega
theorem zkq {xs:List Int} (hx:Ints xs):okC (genP xs):=fun e _=>zg9 (zfi hx _)
set_option maxHeartbeats 4000000 in
theorem zm6 {xs:List Int} (hx:Ints xs):pf E0 395 [ints xs,.i .i64 0]=some (aI 20 (genP xs)):=by
 refine zab (xf:=zty) rfl (by simp[zty]) ?_
 simp only[zty]
 simp(disch:=omega)only[go_sem,seval,wqq]
 refine zag zuh.eq_1 (fun(i:Nat) fr M=>i≤20∧fr 0=ints xs∧fr 1=.i .i64 0∧fr 4=.p 0 0∧fr 5=.p 1 0∧fr 6=(PV.i .i64 ((i:Nat):Int))∧∃f v,(∀e,e<i→f e=genP xs e)∧(∀e,i≤e→f e=0)∧M=[some ⟨cs 20 zF,true,0⟩,some ⟨cs 20 f,true,v⟩]) (fun i=>20-i) ?_ 0 ⟨by omega,by simp only[go_sem,seval],by simp only[go_sem,seval],by simp only[go_sem,seval],by simp only[go_sem,seval],by simp only[go_sem,seval],zF,0,fun e he=>by omega,fun _ _=>rfl,rfl⟩
 rintro i fr M ⟨hi,f0,f1,f4,f5,f6,f,v,hf,hz,rfl⟩ ih
 rcases Nat.lt_or_ge i 20 with h|h
 ·have q1:((i:Int)<20)=True:=eq_true (by omega)
  have qL:(i<20)=True:=eq_true h
  have zz:(0:Int)+(i:Int)=(i:Int):=Int.zero_add _
  have k:=zr1 hx (i:=(i:Int)) (by unfold Fits64;omega)
  have hg:genP xs i=genC (pk xs i):=rfl
  have bn:=zg9 (zfi hx i)
  have fn:=zfi hx i
  generalize pk xs i=n at *
  have a1:=zb5 (n.tdiv 5) (n:=10) (by decide)
  have a2:=zb5 (n.tdiv 5) (n:=5000) (by decide)
  have a3:=zb5 (n.tdiv 5) (n:=3) (by decide)
  have wd:IntKind.wrap .i64 (n.tdiv 5)=n.tdiv 5:=by
   unfold Fits64 at fn
   have:(n.tdiv 5).natAbs=n.natAbs/5:=Int.natAbs_tdiv ..
   exact wqa (by omega) (by omega)
  have st:∀g,g=genC n→∀e,e<i+1→upd f i g e=genP xs e:=fun g hgg e he=>by
   unfold upd
   split
   ·rename_i z;rw[z,hg,hgg]
   ·exact hf e (by omega)
  have sz:∀g e,i+1≤e→upd f i g e=0:=fun g e he=>by rw[zeJ (by omega)];exact hz e (by omega)
  unfold genC at bn st hg
  by_cases c1:n.tmod 5=1∨n.tmod 5 = -1
  ·rw[if_pos c1] at st bn
   rcases c1 with c1|c1
   ·simp(disch:=omega)only[go_sem,seval,wqq,f0,f1,f4,f5,f6,q1,qL,zz,k,c1,wd]
    exact ih (i+1) _ _ (by omega) ⟨by omega,by simp only[go_sem,seval,f0],by simp only[go_sem,seval,f1],by simp only[go_sem,seval,f4],by simp only[go_sem,seval,f5],by simp only[go_sem,seval,f6];rw[Int.natCast_succ],_,_,st _ rfl,sz _,rfl⟩
   ·simp(disch:=omega)only[go_sem,seval,wqq,f0,f1,f4,f5,f6,q1,qL,zz,k,c1,wd]
    exact ih (i+1) _ _ (by omega) ⟨by omega,by simp only[go_sem,seval,f0],by simp only[go_sem,seval,f1],by simp only[go_sem,seval,f4],by simp only[go_sem,seval,f5],by simp only[go_sem,seval,f6];rw[Int.natCast_succ],_,_,st _ rfl,sz _,rfl⟩
  ·rw[if_neg c1] at st bn hg
   have d1:(n.tmod 5=1)=False:=eq_false fun q=>c1 (.inl q)
   have d2:(n.tmod 5 = -1)=False:=eq_false fun q=>c1 (.inr q)
   by_cases c2:n.tmod 5=2
   ·rw[if_pos c2] at st bn
    simp(disch:=omega)only[go_sem,seval,wqq,f0,f1,f4,f5,f6,q1,qL,zz,k,c2,wd]
    exact ih (i+1) _ _ (by omega) ⟨by omega,by simp only[go_sem,seval,f0],by simp only[go_sem,seval,f1],by simp only[go_sem,seval,f4],by simp only[go_sem,seval,f5],by simp only[go_sem,seval,f6];rw[Int.natCast_succ],_,_,st _ rfl,sz _,rfl⟩
   ·rw[if_neg c2] at st bn hg
    by_cases c3:n.tmod 5=3
    ·rw[if_pos c3] at st bn
     simp(disch:=omega)only[go_sem,seval,wqq,f0,f1,f4,f5,f6,q1,qL,zz,k,c3,wd]
     exact ih (i+1) _ _ (by omega) ⟨by omega,by simp only[go_sem,seval,f0],by simp only[go_sem,seval,f1],by simp only[go_sem,seval,f4],by simp only[go_sem,seval,f5],by simp only[go_sem,seval,f6];rw[Int.natCast_succ],_,_,st _ rfl,sz _,rfl⟩
    ·rw[if_neg c3] at st bn hg
     by_cases c4:n.tmod 5 = -3
     ·rw[if_pos c4] at st bn
      simp(disch:=omega)only[go_sem,seval,wqq,f0,f1,f4,f5,f6,q1,qL,zz,k,c4,wd]
      exact ih (i+1) _ _ (by omega) ⟨by omega,by simp only[go_sem,seval,f0],by simp only[go_sem,seval,f1],by simp only[go_sem,seval,f4],by simp only[go_sem,seval,f5],by simp only[go_sem,seval,f6];rw[Int.natCast_succ],_,_,st _ rfl,sz _,rfl⟩
     ·rw[if_neg c4] at hg
      have d3:(n.tmod 5=2)=False:=eq_false c2
      have d4:(n.tmod 5=3)=False:=eq_false c3
      have d5:(n.tmod 5 = -3)=False:=eq_false c4
      simp(disch:=omega)only[go_sem,seval,wqq,f0,f1,f4,f5,f6,q1,qL,zz,k,d1,d2,d3,d4,d5]
      refine ih (i+1) _ _ (by omega) ⟨by omega,by simp only[go_sem,seval,f0],by simp only[go_sem,seval,f1],by simp only[go_sem,seval,f4],by simp only[go_sem,seval,f5],by simp only[go_sem,seval,f6];rw[Int.natCast_succ],f,_,fun e he=>?_,fun e he=>hz e (by omega),rfl⟩
      rcases Nat.lt_or_ge e i with z|z
      ·exact hf e z
      ·obtain rfl:e=i:=by omega
       rw[hz e (Nat.le_refl _),hg]
 ·obtain rfl:i=20:=by omega
  simp(disch:=omega)only[go_sem,seval,wqq,f0,f1,f4,f5,f6]
  rw[zgI (Y:=genP xs) (fun e he=>hf e he)]
end Go.Eng
namespace Go.Eng
noncomputable def cW (w:Nat→WI):List PV:=[.b (decide ((w 0).v<0)),D (w 0).v.natAbs,.b (decide ((w 1).v<0)),D (w 1).v.natAbs,.b (decide ((w 2).v<0)),D (w 2).v.natAbs,.b (decide ((w 3).v<0)),D (w 3).v.natAbs,.b (decide ((w 4).v<0)),D (w 4).v.natAbs,.b (decide ((w 5).v<0)),D (w 5).v.natAbs,.b (decide ((w 6).v<0)),D (w 6).v.natAbs,.b (decide ((w 7).v<0)),D (w 7).v.natAbs,.b (decide ((w 8).v<0)),D (w 8).v.natAbs]
noncomputable def mW (w:Nat→WI):PV:=.ag (cW w)
def cI (p:Nat→Int):List PV:=[.i .i64 (p 0),.i .i64 (p 1),.i .i64 (p 2),.i .i64 (p 3),.i .i64 (p 4),.i .i64 (p 5),.i .i64 (p 6),.i .i64 (p 7),.i .i64 (p 8)]
def pI (p:Nat→Int):PV:=.ag (cI p)
end Go.Eng
namespace Go.Eng
end Go.Eng
namespace Go.Eng
end Go.Eng
namespace Go.Eng
def gN (X:Nat→Int):Nat→Nat
 | 0=>0
 | i+1=>Nat.gcd (gN X i) (X i).natAbs
noncomputable def gW (x:Nat→WI):Nat→WI
 | 0=>wi0
 | i+1=>(gW x i).gcd (x i)
noncomputable def gC (x:Nat→WI):Nat→List PV
 | 0=>[.b false,.nl]
 | i+1=>[.b (decide ((gW x (i+1)).v<0)),D (gW x (i+1)).v.natAbs]
end Go.Eng
namespace Go.Eng
end Go.Eng
namespace Go.Eng
def sB (n:Nat):Nat→Bool:=fun e=>decide (e<n)
end Go.Eng
namespace Go.Eng
end Go.Eng
namespace Go.Eng
end Go.Eng
namespace Go.Eng
end Go.Eng
namespace Go.Eng
end Go.Eng
namespace Go.Eng
theorem zeM (a b:Int):wlen (a*b).natAbs≤wlen a.natAbs+wlen b.natAbs:=by
 rw[Int.natAbs_mul]
 refine zaC.2 ?_
 rw[Nat.pow_add]
 exact Nat.mul_lt_mul'' (zac _) (zac _)
theorem zjo (a b:Nat):wlen (a+b)≤max (wlen a) (wlen b)+1:=by
 refine zaC.2 ?_
 have h1:4294967296^wlen a≤4294967296^max (wlen a) (wlen b):=Nat.pow_le_pow_right (by decide) (Nat.le_max_left _ _)
 have h2:4294967296^wlen b≤4294967296^max (wlen a) (wlen b):=Nat.pow_le_pow_right (by decide) (Nat.le_max_right _ _)
 have h3:=zac a
 have h4:=zac b
 rw[Nat.pow_succ]
 generalize 4294967296^max (wlen a) (wlen b)=t at *
 omega
theorem zeL (a b:Int):wlen (a+b).natAbs≤max (wlen a.natAbs) (wlen b.natAbs)+1 :=
 Nat.le_trans (za7 (Int.natAbs_add_le a b)) (zjo _ _)
end Go.Eng
namespace Go.Eng
def mE:Nat→Int:=fun e=>monoI.getD e 0
theorem ziw:cst E0.glob (.p 1 0)=.fp (cs 60 mE):=rfl
def exN (i j:Nat):Nat:=(mE (i*3+j)).toNat
theorem zaU:∀i,i<20→∀j,j<3→mE (i*3+j)=(exN i j:Int)∧exN i j≤3:=by decide
def pw3 (X:Nat→Int) (i:Nat):Nat→Int
 | 0=>1
 | j+1=>pw3 X i j*X j^exN i j
def moV (X:Nat→Int) (i:Nat):Int:=pw3 X i 3
def sumT (f:Nat→Int):Nat→Int
 | 0=>0
 | n+1=>sumT f n+f n
def evV (c X:Nat→Int):Int:=sumT (fun i=>c i*moV X i) 20
def s3 {α:Type} (a b c:α):Nat→α:=fun j=>if j=0 then a else if j=1 then b else c
noncomputable def wc (t:WI):List PV:=[.b (decide (t.v<0)),D t.v.natAbs]
theorem znF (t:WI):wc t=[.b (decide (t.v<0)),D t.v.natAbs]:=_root_.id rfl
theorem zii (t:WI):PV.ag (wc t)=wiP t:=_root_.id rfl
theorem zdh (t:WI):(wc t).length=2:=_root_.id rfl
theorem zdi (t:WI):(wc t).take 2=wc t:=_root_.id rfl
theorem zfo (t u:WI):psplice (wc t) 0 [.b (decide (u.v<0)),D u.v.natAbs]=wc u:=_root_.id rfl
structure WZ (L:List PV) (s:WI):Prop where
 len:L.length=2
 sc:L.all PV.scal=true
 fz:∀(M:PM) (d:Nat),fzL (fz M (d+1)) L=some (wc s,[])
theorem WZ.tk {L:List PV} {s:WI} (h:WZ L s):L.take 2=L:=List.take_of_length_le (by rw[h.len];omega)
theorem WZ.spl {L:List PV} {s:WI} (h:WZ L s) (u:WI):psplice L 0 (wc u)=wc u:=by
 unfold psplice
 rw[List.take_zero,List.drop_eq_nil_of_le (by rw[h.len,zdh];omega),List.nil_append,List.append_nil]
theorem WZ.spl' {L:List PV} {s:WI} (h:WZ L s) (u:WI):psplice L 0 [.b (decide (u.v<0)),D u.v.natAbs]=wc u:=h.spl u
theorem wz0:WZ [.b false,.nl] wi0:=⟨rfl,rfl,fun _ _=>rfl⟩
theorem wzs (s:WI):WZ (wc s) s:=⟨rfl,rfl,fun _ _=>rfl⟩
theorem zpZ (a b:PV) (L:List PV) (h:L.length=2):psplice [a,b] 0 L=L:=by
 unfold psplice
 rw[List.take_zero,List.drop_eq_nil_of_le (by rw[h];exact Nat.le_refl _),List.nil_append,List.append_nil]
theorem zcn {n:Int} (h:Fits64 n):wlen n.natAbs≤2:=by
 unfold Fits64 at h
 exact zaC.2 (by omega)
set_option maxHeartbeats 4000000 in
theorem zkX (c:Nat→Int) (h:¬okC c) (x y z:Int):pf E0 398 [aI 20 c,.i .i64 x,.i .i64 y,.i .i64 z]=some (.tu [wiP wi0,.i .i64 1]):=by
 have v:=zav c
 have:vlC c=1:=if_neg h
 rw[this] at v
 refine zab (xf:=zsR) rfl (by simp[zsR]) ?_
 simp only[zsR]
 simp(disch:=omega)only[go_sem,seval,wqq,v,zay,zah]
theorem zkC {t x:WI} {n m:Nat} (ht:wlen t.v.natAbs≤n) (hx:wlen x.v.natAbs≤m) (h:n+m≤512):(clip (t.v*x.v)).v=t.v*x.v∧wlen (t.v*x.v).natAbs≤n+m :=
 ⟨zdt (Nat.le_trans (zeM _ _) (by omega)),Nat.le_trans (zeM _ _) (by omega)⟩
theorem zlO {t x:WI} {n m:Nat} (ht:wlen t.v.natAbs≤n) (hx:wlen x.v.natAbs≤m) (h:max n m+1≤512):(clip (t.v+x.v)).v=t.v+x.v∧wlen (t.v+x.v).natAbs≤max n m+1 :=
 ⟨zdt (Nat.le_trans (zeL _ _) (by omega)),Nat.le_trans (zeL _ _) (by omega)⟩
theorem zh9 {i:Nat} (h:i<3):i=0∨i=1∨i=2:=by omega
set_option maxHeartbeats 8000000 in
theorem zm5 {c:Nat→Int} (hc:okC c) {x y z:Int} (hx:Fits64 x) (hy:Fits64 y) (hz:Fits64 z):pf E0 398 [aI 20 c,.i .i64 x,.i .i64 y,.i .i64 z]=some (.tu [wiP (clip (evV c (s3 x y z))),.i .i64 0]):=by
 have v:=zav c
 have:vlC c=0:=if_pos hc
 rw[this] at v
 have x1:=zbg hx
 have x2:=zbg hy
 have x3:=zbg hz
 obtain⟨X,hX⟩:∃X:Nat→WI,X=s3 (wiOf x hx) (wiOf y hy) (wiOf z hz):=⟨_,rfl⟩
 have Xv:∀j,(X j).v=s3 x y z j:=fun j=>by
  rw[hX];unfold s3;split
  ·rfl
  ·split<;>rfl
 have Xl:∀j,wlen (X j).v.natAbs≤2:=fun j=>by
  rw[Xv];unfold s3;split
  ·exact zcn hx
  ·split
   ·exact zcn hy
   ·exact zcn hz
 refine zab (xf:=zsR) rfl (by simp[zsR]) ?_
 simp only[zsR]
 simp(disch:=omega)only[go_sem,seval,wqq,v,x1,x2,x3,zay,zah]
 refine zag zue.eq_1 (fun(i:Nat) fr M=>i≤20∧fr 8=.p 1 0∧fr 11=.p 2 0∧fr 12=.p 3 0∧fr 32=aI 20 c∧fr 33=(PV.i .i64 ((i:Nat):Int))∧∃b0 vx vs G L,∃s:WI,s.v=sumT (fun i=>c i*moV (s3 x y z) i) i∧wlen s.v.natAbs≤30+i∧WZ L s∧M=b0::some ⟨[.b false,.nl],true,0⟩::some ⟨cw 3 X,true,vx⟩::some ⟨L,true,vs⟩::G) (fun i=>20-i) ?_ 0 ⟨by omega,by simp only[go_sem,seval],by simp only[go_sem,seval],by simp only[go_sem,seval],by simp only[go_sem,seval],by simp only[go_sem,seval],_,_,_,[],_,wi0,rfl,by decide,wz0,by rw[hX];rfl⟩
 rintro i fr M ⟨hi,f8,f11,f12,f32,f33,b0,vx,vs,G,L,s,sv,sl,wz,rfl⟩ ih
 have z1:=wz.len
 have z2:=wz.sc
 have z3:=wz.fz
 have z4:=wz.tk
 have z5:=wz.spl'
 rcases Nat.lt_or_ge i 20 with h|h
 ·have q1:((i:Int)<20)=True:=eq_true (by omega)
  have qL:(i<20)=True:=eq_true h
  have ix:=zcS c h
  have ck:Fits64 (c i):=by have:=hc i h;unfold Fits64;omega
  have k1:=zbg ck
  have rw3:=zdu (n:=60) mE (off:=i*3) (k:=3) (by omega)
  have rl:(3≤((cs 60 mE).drop (i*3)).length)=True:=eq_true (by rw[List.length_drop,zbT];omega)
  simp(disch:=omega)only[go_sem,seval,wqq,f8,f11,f12,f32,f33,q1,qL,ix,k1,ziw,rw3,rl,mG,mG0,sG,sG0,lG,lqq]
  refine zag zud.eq_1 (fun(j:Nat) fr M=>j≤3∧fr 8=.p 1 0∧fr 11=.p 2 0∧fr 12=.p 3 0∧fr 15=.p (G.length+4) 0∧fr 32=aI 20 c∧fr 33=(PV.i .i64 ((i:Nat):Int))∧fr 41=aI 3 (fun e=>mE (i*3+e))∧fr 42=(PV.i .i64 ((j:Nat):Int))∧∃b0 vx vs v,∃t:WI,t.v=c i*pw3 (s3 x y z) i j∧wlen t.v.natAbs≤2+6*j∧M=b0::some ⟨[.b false,.nl],true,0⟩::some ⟨cw 3 X,true,vx⟩::some ⟨L,true,vs⟩::(G++[some ⟨wc t,true,v⟩])) (fun j=>3-j) ?_ 0 ⟨by omega,by simp only[go_sem,seval,f8],by simp only[go_sem,seval,f11],by simp only[go_sem,seval,f12],by simp only[go_sem,seval],by simp only[go_sem,seval,f32],by simp only[go_sem,seval,f33],by simp only[go_sem,seval],by simp only[go_sem,seval],_,_,_,_,wiOf (c i) ck,(Int.mul_one _).symm,zcn ck,rfl⟩
  rintro j fr M ⟨hj,f8,f11,f12,f15,f32,f33,f41,f42,b0,vx,vs,v,t,tv,tl,rfl⟩ ih2
  rcases Nat.lt_or_ge j 3 with h3|h3
  ·have q2:((j:Int)<3)=True:=eq_true (by omega)
   have qJ:(j<3)=True:=eq_true h3
   have iy:=zcS (fun e=>mE (i*3+e)) h3
   obtain⟨e1,e2⟩:=zaU i h j h3
   rw[e1] at iy
   simp(disch:=omega)only[go_sem,seval,wqq,f8,f11,f12,f15,f32,f33,f41,f42,q2,qJ,iy,mG,mG0,sG,sG0,lG,lqq]
   refine zag zug.eq_1 (fun(k:Nat) fr M=>k≤exN i j∧fr 8=.p 1 0∧fr 11=.p 2 0∧fr 12=.p 3 0∧fr 15=.p (G.length+4) 0∧fr 32=aI 20 c∧fr 33=(PV.i .i64 ((i:Nat):Int))∧fr 41=aI 3 (fun e=>mE (i*3+e))∧fr 42=(PV.i .i64 ((j:Nat):Int))∧fr 16=(PV.i .i64 ((j:Nat):Int))∧fr 46=(PV.i .i64 ((exN i j:Nat):Int))∧fr 47=(PV.i .i64 ((k:Nat):Int))∧∃b0 vx vs v,∃t:WI,t.v=c i*(pw3 (s3 x y z) i j*s3 x y z j^k)∧wlen t.v.natAbs≤2+6*j+2*k∧M=b0::some ⟨[.b false,.nl],true,0⟩::some ⟨cw 3 X,true,vx⟩::some ⟨L,true,vs⟩::(G++[some ⟨wc t,true,v⟩])) (fun k=>exN i j-k) ?_ 0 ⟨by omega,by simp only[go_sem,seval,f8],by simp only[go_sem,seval,f11],by simp only[go_sem,seval,f12],by simp only[go_sem,seval,f15],by simp only[go_sem,seval,f32],by simp only[go_sem,seval,f33],by simp only[go_sem,seval,f41],by simp only[go_sem,seval,f42],by simp only[go_sem,seval],by simp only[go_sem,seval],by simp only[go_sem,seval],_,_,_,_,t,by rw[tv,Int.pow_zero,Int.mul_one],by omega,rfl⟩
   rintro k fr M ⟨hk,f8,f11,f12,f15,f32,f33,f41,f42,f16,f46,f47,b0,vx,vs,v,t,tv,tl,rfl⟩ ih3
   rcases Nat.lt_or_ge k (exN i j) with h4|h4
   ·have q3:((k:Int)<(exN i j:Int))=True:=eq_true (by omega)
    have cx:=zju (n:=3) X h3
    have pm:=zfe t (X j)
    have cl:(j*2+2≤6)=True:=eq_true (by omega)
    obtain⟨m1,m2⟩:=zkC tl (Xl j) (by omega)
    simp(disch:=omega)only[go_sem,seval,wqq,f8,f11,f12,f15,f32,f33,f41,f42,f16,f46,f47,q3,qJ,cx,cl,zdv,pm,zii,zdi,zdh,zfo,mG,mG0,sG,sG0,lG,lqq]
    refine ih3 (k+1) _ _ (by omega) ⟨by omega,by simp only[go_sem,seval,f8],by simp only[go_sem,seval,f11],by simp only[go_sem,seval,f12],by simp only[go_sem,seval,f15],by simp only[go_sem,seval,f32],by simp only[go_sem,seval,f33],by simp only[go_sem,seval,f41],by simp only[go_sem,seval,f42],by simp only[go_sem,seval,f16],by simp only[go_sem,seval,f46],by simp only[go_sem,seval,f47];rw[Int.natCast_succ],_,_,_,_,clip (t.v*(X j).v),?_,by rw[m1];omega,rfl⟩
    rw[m1,tv,Xv,Int.pow_succ,Int.mul_assoc,Int.mul_assoc]
   ·obtain rfl:k=exN i j:=by omega
    have q3:((exN i j:Int)<(exN i j:Int))=False:=eq_false (Int.lt_irrefl _)
    simp(disch:=omega)only[go_sem,seval,wqq,f8,f11,f12,f15,f32,f33,f41,f42,f16,f46,f47,q3,mG,mG0,sG,sG0,lG,lqq]
    exact ih2 (j+1) _ _ (by omega) ⟨by omega,by simp only[go_sem,seval,f8],by simp only[go_sem,seval,f11],by simp only[go_sem,seval,f12],by simp only[go_sem,seval,f15],by simp only[go_sem,seval,f32],by simp only[go_sem,seval,f33],by simp only[go_sem,seval,f41],by simp only[go_sem,seval,f42];rw[Int.natCast_succ],_,_,_,_,t,tv,by omega,rfl⟩
  ·obtain rfl:j=3:=by omega
   have pa:=zhz s t
   obtain⟨m1,m2⟩:=zlO sl tl (by omega)
   simp(disch:=omega)only[go_sem,seval,wqq,f8,f11,f12,f15,f32,f33,f41,f42,z1,z2,z3,z4,z5,pa,zii,zdi,zdh,mG,mG0,sG,sG0,lG,lqq]
   refine ih (i+1) _ _ (by omega) ⟨by omega,by simp only[go_sem,seval,f8],by simp only[go_sem,seval,f11],by simp only[go_sem,seval,f12],by simp only[go_sem,seval,f32],by simp only[go_sem,seval,f33];rw[Int.natCast_succ],_,_,_,_,_,clip (s.v+t.v),?_,by rw[m1];omega,wzs _,rfl⟩
   rw[m1,sv,tv];rfl
 ·obtain rfl:i=20:=by omega
  have e:clip (evV c (s3 x y z))=s:=WI.ext' ((zdt (by rw[show evV c (s3 x y z)=s.v from sv.symm];omega)).trans sv.symm)
  have sp:psplice [.b false,.nl] 0 L=L:=zpZ _ _ L z1
  rw[e]
  simp(disch:=omega)only[go_sem,seval,wqq,f8,f11,f12,f32,f33,z1,z2,z3,z4,z5,sp,zii]
end Go.Eng
namespace Go.Eng
def cg (n:Nat) (f:Nat→List PV):List PV:=(List.range n).flatMap f
theorem zcq (n:Nat) (f:Nat→List PV):cg (n+1) f=cg n f++f n:=by
 unfold cg
 rw[List.range_succ,List.flatMap_append];simp
theorem zcW {k:Nat} {f:Nat→List PV} (hf:∀e,(f e).length=k) (n:Nat):(cg n f).length=n*k:=by
 induction n with
 | zero=>simp[cg]
 | succ n ih=>rw[zcq,List.length_append,ih,hf,Nat.succ_mul]
theorem zl2 {f g:Nat→List PV} {n:Nat} (h:∀e,e<n→f e=g e):cg n f=cg n g:=by
 induction n with
 | zero=>rfl
 | succ n ih=>rw[zcq,zcq,ih (fun e he=>h e (by omega)),h n (by omega)]
theorem zep {k:Nat} {f:Nat→List PV} (hf:∀e,(f e).length=k) {n i:Nat} (h:i<n):((cg n f).drop (i*k)).take k=f i:=by
 induction n with
 | zero=>omega
 | succ n ih =>
  have hl:=zcW hf n
  rw[zcq]
  rcases Nat.lt_or_ge i n with q|q
  ·have:(i+1)*k≤n*k:=Nat.mul_le_mul_right _ q
   rw[Nat.succ_mul] at this
   rw[List.drop_append_of_le_length (by omega),List.take_append_of_le_length (by rw[List.length_drop];omega),ih q]
  ·obtain rfl:i=n:=by omega
   rw[List.drop_append,List.drop_eq_nil_of_le (by omega),hl,Nat.sub_self,List.drop_zero,List.nil_append,List.take_of_length_le (by rw[hf];exact Nat.le_refl _)]
theorem ziv {k:Nat} {n i:Nat} (h:i<n):i*k+k≤n*k:=by
 have:(i+1)*k≤n*k:=Nat.mul_le_mul_right _ h
 rw[Nat.succ_mul] at this
 exact this
theorem zl3 {k:Nat} {f:Nat→List PV} (hf:∀e,(f e).length=k) {n i:Nat} (h:i<n) {v:List PV} (hv:v.length=k):psplice (cg n f) (i*k) v=cg n (upd f i v):=by
 unfold psplice
 induction n with
 | zero=>omega
 | succ n ih =>
  have hl:=zcW hf n
  rw[zcq,zcq]
  rcases Nat.lt_or_ge i n with q|q
  ·have:=ziv (k:=k) q
   rw[←ih q,List.take_append_of_le_length (by omega),List.drop_append_of_le_length (by omega),zeJ (show n≠i by omega),List.append_assoc,List.append_assoc,List.append_assoc]
  ·obtain rfl:i=n:=by omega
   rw[List.take_append_of_le_length (by omega),List.drop_eq_nil_of_le (by simp[hl,hf,hv]),List.append_nil,zei,List.take_of_length_le (by omega),zl2 (fun e he=>(zeJ (show e≠i by omega)).symm)]
end Go.Eng
namespace Go.Eng
def facT:List (List Int):=[[],[0],[1],[2],[0,0],[0,1],[0,2],[1,1],[1,2],[2,2],[0,0,0],[0,0,1],[0,0,2],[0,1,1],[0,1,2],[0,2,2],[1,1,1],[1,1,2],[1,2,2],[2,2,2]]
def facL (i:Nat):List Int:=facT.getD i []
def monP:PV:=.lst (facT.map ints)
set_option maxHeartbeats 4000000 in
theorem zm4:pf E0 418 []=some monP:=by
 refine zab (xf:=zsP) rfl (by simp[zsP]) ?_
 simp only[zsP]
 simp(disch:=omega)only[go_sem,seval,wqq]
 rfl
def prL (X:Nat→Int):List Int→Int
 | []=>1
 | a::l=>X a.toNat*prL X l
theorem zf2 (X:Nat→Int) (a:Int):∀l:List Int,prL X (l++[a])=prL X l*X a.toNat
 | []=>by simp[prL]
 | b::l=>by simp only[List.cons_append,prL,zf2 X a l,Int.mul_assoc]
theorem zeF (X:Nat→Int):∀l:List Int,(∀a∈l,a=0∨a=1∨a=2)→prL X l=X 0^l.count 0*X 1^l.count 1*X 2^l.count 2
 | [],_=>by simp[prL]
 | a::l,h=>by
  have ih:=zeF X l fun b hb=>h b (List.mem_cons_of_mem _ hb)
  rw[prL,ih]
  rcases h a List.mem_cons_self with rfl|rfl|rfl
  ·rw[List.count_cons_self,List.count_cons_of_ne (by decide),List.count_cons_of_ne (by decide),Int.pow_succ]
   show X 0*_=_;grind
  ·rw[List.count_cons_self,List.count_cons_of_ne (by decide),List.count_cons_of_ne (by decide),Int.pow_succ]
   show X 1*_=_;grind
  ·rw[List.count_cons_self,List.count_cons_of_ne (by decide),List.count_cons_of_ne (by decide),Int.pow_succ]
   show X 2*_=_;grind
theorem zg2:∀i,i<20→(∀a∈facL i,a=0∨a=1∨a=2)∧(facL i).length≤3∧exN i 0=(facL i).count 0∧exN i 1=(facL i).count 1∧exN i 2=(facL i).count 2:=by decide
theorem zg1 (X:Nat→Int) {i:Nat} (h:i<20):prL X (facL i)=moV X i:=by
 obtain⟨h1,_,h2,h3,h4⟩:=zg2 i h
 rw[zeF X _ h1,←h2,←h3,←h4]
 show _=1*X 0^exN i 0*X 1^exN i 1*X 2^exN i 2
 rw[Int.one_mul]
theorem zkA {i:Nat} (h:i<20):idxP 1 monP (some i)=some (.fp [ints (facL i)]):=by
 unfold monP
 have:facT[i]?=some (facL i):=by
  unfold facL
  rw[List.getD,List.getElem?_eq_getElem (show i<facT.length from h)];rfl
 rw[zcN,List.getElem?_map,this];rfl
noncomputable def nc (z:Int):List PV:=[.b (decide (z<0)),T z.natAbs]
theorem zph (z:Int):PV.ag (nc z)=nP z:=_root_.id rfl
theorem zhq (z:Int):(nc z).length=2:=_root_.id rfl
theorem zfc (z:Int):(nc z).take 2=nc z:=_root_.id rfl
theorem zjG (z u:Int):psplice (nc z) 0 [.b (decide (u<0)),T u.natAbs]=nc u:=_root_.id rfl
theorem zle (X:Nat→Int) {l:List Int} {k:Nat} (h:k<l.length):prL X (l.take (k+1))=prL X (l.take k)*X (l[k]).toNat:=by
 rw[List.take_succ_eq_append_getElem h,zf2]
theorem zlI {n:Int} (h:Fits64 n):tlen n.natAbs≤5:=by
 unfold Fits64 at h
 exact zaF (by omega)
set_option maxHeartbeats 8000000 in
theorem zng {c:Nat→Int} (hc:okC c) {x y z:Int} (hx:Fits64 x) (hy:Fits64 y) (hz:Fits64 z):pf E0 428 [aI 20 c,.i .i64 x,.i .i64 y,.i .i64 z]=some (nP (evV c (s3 x y z))):=by
 have x1:=zhJ x hx
 have x2:=zhJ y hy
 have x3:=zhJ z hz
 have x0:=zhJ 0 (by decide)
 obtain⟨X,hX⟩:∃X:Nat→Int,X=s3 x y z:=⟨_,rfl⟩
 have Xl:∀j,tlen (X j).natAbs≤5:=fun j=>by
  rw[hX];unfold s3;split
  ·exact zlI hx
  ·split
   ·exact zlI hy
   ·exact zlI hz
 have pl:[PV.b (decide (x<0)),T x.natAbs,.b (decide (y<0)),T y.natAbs,.b (decide (z<0)),T z.natAbs]=cg 3 (fun e=>nc (X e)):=by rw[hX];rfl
 rw[←hX]
 refine zab (xf:=ztL) rfl (by simp[ztL]) ?_
 simp only[ztL]
 simp(disch:=omega)only[go_sem,seval,wqq,zm4,x0,x1,x2,x3,zay,zah]
 refine zag zuj.eq_1 (fun(i:Nat) fr M=>i≤20∧fr 4=.p 0 0∧fr 8=.p 1 0∧fr 9=.sl 2 0 3 3 2∧fr 10=.p 3 0∧fr 11=monP∧fr 12=(PV.i .i64 ((i:Nat):Int))∧∃vs G,tlen (sumT (fun i=>c i*moV X i) i).natAbs≤30+i∧M=some ⟨cs 20 c,true,0⟩::some ⟨[.b false,.nl],true,0⟩::some ⟨cg 3 (fun e=>nc (X e)),true,0⟩::some ⟨nc (sumT (fun i=>c i*moV X i) i),true,vs⟩::G) (fun i=>20-i) ?_ 0 ⟨by omega,by simp only[go_sem,seval],by simp only[go_sem,seval],by simp only[go_sem,seval],by simp only[go_sem,seval],by simp only[go_sem,seval],by simp only[go_sem,seval],_,[],by show tlen (0:Int).natAbs≤30+0;rw[Int.natAbs_zero,zbO];omega,by rw[hX];rfl⟩
 rintro i fr M ⟨hi,f4,f8,f9,f10,f11,f12,vs,G,sl,rfl⟩ ih
 rcases Nat.lt_or_ge i 20 with h|h
 ·have q1:((i:Int)<20)=True:=eq_true (by omega)
  have qL:(i<20)=True:=eq_true h
  have ix:=zbm c h
  have ck:Fits64 (c i):=by have:=hc i h;unfold Fits64;omega
  have k1:=zhJ (c i) ck
  have mi:=zkA h
  obtain⟨hf,hl,_⟩:=zg2 i h
  have mo:=zg1 X h
  simp(disch:=omega)only[go_sem,seval,wqq,f4,f8,f9,f10,f11,f12,q1,qL,ix,k1,mG,mG0,sG,sG0,lG,lqq]
  refine zag zuk.eq_1 (fun(k:Nat) fr M=>k≤(facL i).length∧fr 4=.p 0 0∧fr 8=.p 1 0∧fr 9=.sl 2 0 3 3 2∧fr 10=.p 3 0∧fr 11=monP∧fr 12=(PV.i .i64 ((i:Nat):Int))∧fr 13=.p (G.length+4) 0∧fr 14=(PV.i .i64 ((k:Nat):Int))∧∃v,tlen (c i*prL X ((facL i).take k)).natAbs≤5+5*k∧M=some ⟨cs 20 c,true,0⟩::some ⟨[.b false,.nl],true,0⟩::some ⟨cg 3 (fun e=>nc (X e)),true,0⟩::some ⟨nc (sumT (fun i=>c i*moV X i) i),true,vs⟩::(G++[some ⟨nc (c i*prL X ((facL i).take k)),true,v⟩])) (fun k=>(facL i).length-k) ?_ 0 ⟨by omega,by simp only[go_sem,seval,f4],by simp only[go_sem,seval,f8],by simp only[go_sem,seval,f9],by simp only[go_sem,seval,f10],by simp only[go_sem,seval,f11],by simp only[go_sem,seval,f12],by simp only[go_sem,seval],by simp only[go_sem,seval],_,by rw[List.take_zero,prL,Int.mul_one];exact zlI ck,by rw[List.take_zero,prL,Int.mul_one];rfl⟩
  rintro k fr M ⟨hk,f4,f8,f9,f10,f11,f12,f13,f14,v,tl,rfl⟩ ih2
  rcases Nat.lt_or_ge k (facL i).length with h3|h3
  ·have q2:((k:Int)<((facL i).length:Int))=True:=eq_true (by omega)
   have gk:(facL i)[k]?=some (facL i)[k]:=List.getElem?_eq_getElem h3
   have st:=zle X h3
   have hm:=hf _ (List.getElem_mem h3)
   generalize (facL i)[k]=a at *
   have ik:=zew gk
   obtain⟨n,hn,n3⟩:∃n:Nat,a=(n:Int)∧n<3:=⟨a.toNat,by omega,by omega⟩
   subst hn
   rw[Int.toNat_natCast] at st
   have cx:=zep (k:=2) (f:=fun e=>nc (X e)) (fun _=>rfl) n3
   have cl:(n*2+2≤(cg 3 fun e=>nc (X e)).length)=True:=eq_true (by rw[zcW (k:=2) (fun _=>rfl)];exact ziv n3)
   have nL:(n<3)=True:=eq_true n3
   have tm:=zaq (c i*prL X ((facL i).take k)) (X n)
   have tx:=Xl n
   have pm:=znh (c i*prL X ((facL i).take k)) (X n) (by omega) (by omega)
   simp(disch:=omega)only[go_sem,seval,wqq,f4,f8,f9,f10,f11,f12,f13,f14,q1,q2,mi,ik,cx,cl,nL,pm,zph,zfc,zhq,zjG,mG,mG0,sG,sG0,lG,lqq]
   exact ih2 (k+1) _ _ (by omega) ⟨by omega,by simp only[go_sem,seval,f4],by simp only[go_sem,seval,f8],by simp only[go_sem,seval,f9],by simp only[go_sem,seval,f10],by simp only[go_sem,seval,f11],by simp only[go_sem,seval,f12],by simp only[go_sem,seval,f13],by simp only[go_sem,seval,f14];rw[Int.natCast_succ],_,by rw[st,←Int.mul_assoc];omega,by rw[st,←Int.mul_assoc]⟩
  ·obtain rfl:k=(facL i).length:=by omega
   have q2:(((facL i).length:Int)<((facL i).length:Int))=False:=eq_false (Int.lt_irrefl _)
   rw[List.take_length,mo] at tl
   rw[List.take_length,mo]
   have pa:=znf (sumT (fun i=>c i*moV X i) i) (c i*moV X i) (by omega) (by omega)
   have ta:=zdg (sumT (fun i=>c i*moV X i) i) (c i*moV X i)
   simp(disch:=omega)only[go_sem,seval,wqq,f4,f8,f9,f10,f11,f12,f13,f14,q2,mi,pa,zph,zfc,zhq,zjG,mG,mG0,sG,sG0,lG,lqq]
   exact ih (i+1) _ _ (by omega) ⟨by omega,by simp only[go_sem,seval,f4],by simp only[go_sem,seval,f8],by simp only[go_sem,seval,f9],by simp only[go_sem,seval,f10],by simp only[go_sem,seval,f11],by simp only[go_sem,seval,f12];rw[Int.natCast_succ],_,_,by show tlen (sumT (fun i=>c i*moV X i) i+c i*moV X i).natAbs≤_;omega,rfl⟩
 ·obtain rfl:i=20:=by omega
  simp(disch:=omega)only[go_sem,seval,wqq,f4,f8,f9,f10,f11,f12,zph,zfc,zhq]
  rfl
end Go.Eng
namespace Go.Eng
end Go.Eng
namespace Go.Eng
end Go.Eng
namespace Go.Eng
end Go.Eng
namespace Go.Eng
theorem zmx {f:FQ} {n d p q:Int} (hd:d≠0) (hq:0<q) (hc:Nat.gcd p.natAbs q.natAbs=1) (hf:f.is n d) (e:n*q=p*d):f.p.v=p∧f.q.v=q:=by
 unfold FQ.is at hf
 have q1:=f.q1
 refine zd1 (by omega) hq f.cop hc ?_
 apply Int.eq_of_mul_eq_mul_right (a:=d) hd
 calc f.p.v*q*d=f.p.v*d*q:=by grind
  _=n*f.q.v*q:=by rw[hf]
  _=n*q*f.q.v:=by grind
  _=p*d*f.q.v:=by rw[e]
  _=p*f.q.v*d:=by grind
theorem zjA {z:Int} {v n:Nat} (hz:z=(v:Int)) (h1:10^n≤v) (h2:v<10^(n+1)):decI z=dtx (n+1) v:=by
 subst hz
 unfold decI;rw[if_neg (by omega),Int.natAbs_natCast]
 exact ziy h1 h2
theorem znx (f:FQ) {p q:Int} {t:List UInt8} (h1:f.p.v=p) (h2:f.q.v=q) (ht:ftx p q=t):pf E0 16 [fqP f]=some (.s t):=by
 rw[←ht,←h1,←h2];exact zeB f
end Go.Eng
namespace Go.Eng
theorem zio {f g h:FQ} {n d m e:Int} (hf:f.is n d) (hg:g.is m e) (hh:h.is (f.p.v*g.q.v+g.p.v*f.q.v) (f.q.v*g.q.v)):h.is (n*e+m*d) (d*e):=by
 have qf:=f.q1
 have qg:=g.q1
 unfold FQ.is at *
 apply Int.eq_of_mul_eq_mul_right (a:=f.q.v*g.q.v) (Int.mul_ne_zero (by omega) (by omega))
 calc h.p.v*(d*e)*(f.q.v*g.q.v)=h.p.v*(f.q.v*g.q.v)*(d*e):=by grind
  _=(f.p.v*g.q.v+g.p.v*f.q.v)*h.q.v*(d*e):=by rw[hh]
  _=(f.p.v*d*g.q.v*e+g.p.v*e*f.q.v*d)*h.q.v:=by grind
  _=(n*f.q.v*g.q.v*e+m*g.q.v*f.q.v*d)*h.q.v:=by rw[hf,hg]
  _=(n*e+m*d)*h.q.v*(f.q.v*g.q.v):=by grind
theorem ziW {f g h:FQ} {n d m e:Int} (hf:f.is n d) (hg:g.is m e) (hh:h.is (f.p.v*g.p.v) (f.q.v*g.q.v)):h.is (n*m) (d*e):=by
 have qf:=f.q1
 have qg:=g.q1
 unfold FQ.is at *
 apply Int.eq_of_mul_eq_mul_right (a:=f.q.v*g.q.v) (Int.mul_ne_zero (by omega) (by omega))
 calc h.p.v*(d*e)*(f.q.v*g.q.v)=h.p.v*(f.q.v*g.q.v)*(d*e):=by grind
  _=f.p.v*g.p.v*h.q.v*(d*e):=by rw[hh]
  _=f.p.v*d*(g.p.v*e)*h.q.v:=by grind
  _=n*f.q.v*(m*g.q.v)*h.q.v:=by rw[hf,hg]
  _=n*m*h.q.v*(f.q.v*g.q.v):=by grind
theorem zlN (a b:FQ) {n m:Nat} {x d y e:Int} (ha:fsz n a) (hb:fsz m b) (h:n+m+1<1230) (xa:a.is x d) (xb:b.is y e):∃f:FQ,pf E0 9 [fqP a,fqP b]=some (.tu [fqP f,.i .i64 0])∧f.is (x*e+y*d) (d*e)∧fsz (n+m+1) f:=by
 obtain⟨f,h1,h2,h3⟩:=zlM a b ha hb h
 exact⟨f,h1,zio xa xb h2,h3⟩
theorem zmF (a b:FQ) {n m:Nat} {x d y e:Int} (ha:fsz n a) (hb:fsz m b) (h:n+m<1230) (xa:a.is x d) (xb:b.is y e):∃f:FQ,pf E0 8 [fqP a,fqP b]=some (.tu [fqP f,.i .i64 0])∧f.is (x*y) (d*e)∧fsz (n+m) f:=by
 obtain⟨f,h1,h2,h3⟩:=zmE a b ha hb h
 exact⟨f,h1,ziW xa xb h2,h3⟩
end Go.Eng
namespace Go.Eng
end Go.Eng

namespace Go.Eng
end Go.Eng
namespace Go.Eng
def nbits (k:Nat):Nat:=if k=0 then 0 else Nat.log2 k+1
theorem zcs {k:Nat} (h:k≠0):nbits k=nbits (k/2)+1:=by
 unfold nbits
 rw[if_neg h]
 by_cases h2:2≤k
 ·rw[if_neg (by omega),Nat.log2_def k,if_pos h2]
 ·have:k=1:=by omega
  subst this;rfl
theorem zbz {k n:Nat} (h:k<2^n):nbits k≤n:=by
 unfold nbits
 split
 ·omega
 ·rename_i h0
  have:=(Nat.log2_lt h0).2 h
  omega
end Go.Eng
namespace Go.Eng
end Go.Eng
namespace Go.Eng
structure TerOk (X Y S:Int) (C R:Nat) (hs:List Int):Prop where
 c:2≤C∧C≤128
 r:2≤R∧R≤128
 s:1≤S∧S≤65536
 x : -1048576≤X∧X+(C-1)*S≤1048576
 y : -1048576≤Y∧Y+(R-1)*S≤1048576
 len:hs.length=C*R
 h:∀n∈hs,-16384≤n∧n≤16384
theorem TerOk.ints {X Y S:Int} {C R:Nat} {hs:List Int} (t:TerOk X Y S C R hs):Ints hs:=by
 refine⟨?_,fun n hn=>?_⟩
 ·have:C*R≤128*128:=Nat.mul_le_mul t.c.2 t.r.2
  rw[t.len];omega
 ·have:=t.h n hn
  unfold Fits64;omega
end Go.Eng
namespace Go.Eng
end Go.Eng
namespace Go.Eng
end Go.Eng
namespace Go.Eng
end Go.Eng
namespace Go.Eng
end Go.Eng
namespace Go.Eng
end Go.Eng
namespace Go.Eng
end Go.Eng
namespace Go.Eng
end Go.Eng
namespace Go.Eng
theorem zcX (a b:Int):(0≤cmpI a b)=(b≤a):=by
 unfold cmpI
 simp only[eq_iff_iff]
 split
 ·omega
 ·split<;>omega
end Go.Eng

namespace Go.Eng
end Go.Eng
namespace Go.Eng
theorem zhp {k m:Nat} (h:2^m≤k):nbits k=nbits (k/2^m)+m:=by
 induction m with
 | zero=>simp
 | succ m ih =>
  have h1:2^m≤k:=Nat.le_trans (Nat.pow_le_pow_right (by decide) (Nat.le_succ m)) h
  have h2:k/2^m≠0:=by
   have:=Nat.div_pos h1 (Nat.pow_pos (by decide))
   omega
  have e:k/2^m/2=k/2^(m+1):=by rw[Nat.div_div_eq_div_mul,←Nat.pow_succ]
  have h3:=zcs h2
  rw[e] at h3
  have h4:=ih h1
  omega
theorem zho:nbits 1=1:=by unfold nbits;rw[if_neg (by decide)];rfl
def pw (i:Nat):Nat:=2^(2^i)
theorem zeG (i:Nat):0<pw i:=Nat.pow_pos (by decide)
theorem znq (i:Nat):2≤pw i:=by
 unfold pw
 have:2^1≤2^(2^i):=Nat.pow_le_pow_right (by decide) (Nat.one_le_two_pow)
 omega
theorem zfk (i:Nat):pw (i+1)=pw i*pw i:=by
 unfold pw
 rw[←Nat.pow_add,Nat.pow_succ]
 congr 1
 omega
theorem zhT:pw 0=2:=rfl
theorem zgt {x i:Nat} (h:pw i≤x):nbits x=nbits (x/pw i)+2^i:=zhp h
theorem znp {x i:Nat} (h:x<pw (i+1)):x/pw i<pw i:=by
 rw[zfk] at h
 exact Nat.div_lt_of_lt_mul h
theorem zlh {x i:Nat} (h:pw i≤x):1≤x/pw i:=Nat.div_pos h (zeG i)
end Go.Eng
namespace Go.Eng
theorem zjd (i:Nat):pw i<pw (i+1):=by
 rw[zfk]
 have:=znq i
 have h2:pw i*2≤pw i*pw i:=Nat.mul_le_mul_left _ this
 omega
theorem zfK {i:Nat} (h:inR (pw i)):i<14:=by
 rcases Nat.lt_or_ge i 14 with q|q
 ·exact q
 ·exfalso
  obtain⟨K,hK⟩:∃K,K=16384:=⟨_,rfl⟩
  obtain⟨a,ha⟩:∃a,a=14:=⟨_,rfl⟩
  rw[←ha] at q
  have h1:2^a≤2^i:=Nat.pow_le_pow_right (by decide) q
  have h2:2^(2^a)≤pw i:=Nat.pow_le_pow_right (by decide) h1
  have e:2^a=K:=by rw[hK,ha]
  rw[e] at h2
  unfold inR at h
  rw[←hK] at h
  omega
theorem zdz {a b:Nat} (h:a≤b) (hb:inR b):inR a:=Nat.lt_of_le_of_lt h hb
noncomputable def pwI (i:Nat):WI:=clip ((pw i:Nat):Int)
theorem zgy {i:Nat} (h:inR (pw i)):(pwI i).v=((pw i:Nat):Int):=(zc5 (z:=((pw i:Nat):Int)) (by rw[Int.natAbs_natCast];exact h)).1
noncomputable def pwL:Nat→List PV
 | 0=>[]
 | j+1=>pwL j++[.b (decide ((pwI j).v<0)),D (pwI j).v.natAbs]
theorem zd6:∀j,(pwL j).length=2*j
 | 0=>rfl
 | j+1=>by rw[pwL,List.length_append,zd6 j];simp;omega
theorem zjP:∀{j i:Nat},i<j→((pwL j).drop (i*2)).take 2=[.b (decide ((pwI i).v<0)),D (pwI i).v.natAbs]
 | 0,i,h=>by omega
 | j+1,i,h=>by
  have hl:=zd6 j
  rw[pwL]
  by_cases hi:i<j
  ·rw[List.drop_append_of_le_length (by omega),List.take_append_of_le_length (by simp;omega)]
   exact zjP hi
  ·obtain rfl:i=j:=by omega
   rw[List.drop_left' (show (pwL i).length=i*2 by omega)];rfl
theorem zos (P:PM) (L:List PV) (w1 w2:PV) (r1 r2:Option PB) {j:Nat} (hl:L.length=2*j) (hj:j≤100) (h0:0<j):appP (P++[some ⟨L,true,0⟩,r1,r2,some ⟨[w1,w2],true,0⟩]) 2 32 (.sl P.length 0 j j 2) (.sl (P.length+3) 0 1 1 2) =
  some (.sl (P.length+4) 0 (j+1) (j+1) 2,P++[none,r1,r2,some ⟨[w1,w2],true,0⟩,some ⟨L++[w1,w2],true,0⟩]):=by
 have es:srcP (P++[some (⟨L,true,0⟩:PB),r1,r2,some (⟨[w1,w2],true,0⟩:PB)]) 2 (.sl (P.length+3) 0 1 1 2)=some (1,[w1,w2]):=by
  simp only[srcP,PM.rd,mG]
  rfl
 have e2:PM.blk (P++[some (⟨L,true,0⟩:PB),r1,r2,some (⟨[w1,w2],true,0⟩:PB)]) P.length=some (⟨L,true,0⟩:PB):=by rw[mG0];rfl
 unfold appP
 rw[es]
 simp only[e2]
 rw[if_neg (by simp),if_neg (by decide),if_pos ⟨trivial,by rw[hl];omega,by omega⟩,sG0]
 simp only[List.drop_zero,List.set_cons_zero,lqq,List.length_append,List.length_cons,List.length_nil]
 rw[List.take_of_length_le (by omega)]
theorem zlq {i:Nat} (h:i<14):binP .shl (.i .i64 1) (.i .i64 (i:Int))=some (.i .i64 ((2^i:Nat):Int)):=by
 have h1:2^i≤2^13:=Nat.pow_le_pow_right (by decide) (by omega)
 rw[zgK _ _ _ _ (by omega),Int.toNat_natCast,show min i (IntKind.bits .i64)=i by simp only[IntKind.bits];omega,Int.one_mul]
 have e:(2:Int)^i=((2^i:Nat):Int):=by simp
 rw[e]
 generalize 2^i=t at *
 rw[wqa (by omega) (by omega)]
set_option maxHeartbeats 2000000 in
theorem zjx {F:PFin} {ks:List KI} {K J:Nat} {x0:WI} (hR:inR K) (hx0:x0.v=(K:Int)) (hK:1≤K) (hlt:K<pw J) (hJ:J=0∨pw (J-1)≤K) {G R:PM} {fr:PFr} {v:Nat}
  (f1:fr 1=.p 0 0) (f3:fr 3=(PV.i .i64 ((0:Nat):Int))) (f6:fr 6=if J=0 then .nl else .sl (G.length+1) 0 J J 2) (f10:fr 10=.i .i64 ((J:Int)-1))
  (cont:∀fr' v' (y:WI),y.v=1→fr' 1=.p 0 0→fr' 3=.i .i64 ((nbits K:Int)-1)→UK E0 F (.exit 4) ks fr' (some ⟨[.b (decide (y.v<0)),D y.v.natAbs],true,v'⟩::(G++(some ⟨pwL J,true,0⟩::R)))) :
  WK E0 F (.loop ztq) ks fr (some ⟨[.b (decide (x0.v<0)),D x0.v.natAbs],true,v⟩::(G++(some ⟨pwL J,true,0⟩::R))):=by
 have hnb:nbits K≤16384:=by
  obtain⟨q,hq⟩:∃q,q=16384:=⟨_,rfl⟩
  unfold inR at hR
  rw[←hq] at hR ⊢
  exact zbz hR
 have hJ14:∀i,i<J→i<14∧inR (pw i):=fun i hi=>by
  have hm:∀d,pw i≤pw (i+d):=fun d=>by
   induction d with
   | zero=>exact Nat.le_refl _
   | succ d ih=>exact Nat.le_trans ih (Nat.le_of_lt (zjd _))
  have h1:=hm (J-1-i)
  rw[show i+(J-1-i)=J-1 by omega] at h1
  have h2:inR (pw i):=zdz (by omega) hR
  exact⟨zfK h2,h2⟩
 refine zag ztq.eq_1 (fun(i:Nat) fr M=>i≤J∧∃(y:WI) (Y n v:Nat),y.v=(Y:Int)∧1≤Y∧Y<pw i∧nbits K=nbits Y+n∧fr 1=.p 0 0∧fr 3=(PV.i .i64 ((n:Nat):Int))∧fr 6=(if J=0 then .nl else .sl (G.length+1) 0 J J 2)∧fr 10=.i .i64 ((i:Int)-1) ∧
  M=some ⟨[.b (decide (y.v<0)),D y.v.natAbs],true,v⟩::(G++(some ⟨pwL J,true,0⟩::R))) (fun i=>i) ?_ J ⟨Nat.le_refl _,x0,K,0,v,hx0,hK,hlt,rfl,f1,f3,f6,f10,rfl⟩
 rintro i fr M ⟨hi,y,Y,n,v,hy,hY,hYi,hn,f1,f3,f6,f10,rfl⟩ ih
 cases i with
 | zero =>
  have hY1:Y=1:=by rw[zhT] at hYi;omega
  subst hY1
  have f3':fr 3=.i .i64 ((nbits K:Int)-1):=by
   rw[f3,hn,zho];congr 1;omega
  have q0:((((0:Nat):Int)-1)≥0)=False:=eq_false (by omega)
  simp(disch:=omega)only[go_sem,seval,wqq,f10,q0]
  exact cont _ v y hy (by simp only[go_sem,seval,f1]) (by simp only[go_sem,seval,f3'])
 | succ i =>
  obtain⟨i14,iR⟩:=hJ14 i (by omega)
  have hJ0:J≠0:=by omega
  rw[if_neg hJ0] at f6
  have f6':=f6
  have f10:fr 10=(PV.i .i64 ((i:Nat):Int)):=by rw[f10];congr 1;omega
  have q0:((i:Int)≥0)=True:=eq_true (by omega)
  have pv:=zgy iR
  have cm:=zci y (pwI i)
  rw[hy,pv] at cm
  have at_:=zjP (j:=J) (i:=i) (by omega)
  have hl:=zd6 J
  have hiJ:(i<J)=True:=eq_true (by omega)
  have h2i:(i*2+2≤2*J)=True:=eq_true (by omega)
  by_cases hc:pw i≤Y
  ·have c0:(cmpI ((Y:Nat):Int) ((pw i:Nat):Int)≥0)=True:=eq_true (by rw[ge_iff_le,zcX];omega)
   simp(disch:=omega)only[go_sem,seval,wqq,f1,f3,f6,f10,q0,cm,c0,hiJ,h2i,hl,at_,mG,mG0,sG,sG0,lG,lqq]
   have dv:=zm1 y (pwI i) (by rw[pv];have:=zeG i;omega)
   have dvv:(y.div (pwI i) (by rw[pv];have:=zeG i;omega)).v=((Y/pw i:Nat):Int):=by
    show y.v/(pwI i).v=_
    rw[hy,pv];rfl
   generalize y.div (pwI i) (by rw[pv];have:=zeG i;omega)=y2 at *
   generalize y.mod (pwI i) (by rw[pv];have:=zeG i;omega)=y3 at *
   have sh:=zlq i14
   have st:=zgt hc
   have p14:2^i≤2^14:=Nat.pow_le_pow_right (by decide) (by omega)
   have g1:=znp hYi
   have g0:=zlh hc
   have hs:(n:Int)+((2^i:Nat):Int)=((n+2^i:Nat):Int):=by push_cast;rfl
   generalize 2^i=t at *
   simp(disch:=omega)only[go_sem,seval,wqq,f1,f3,f6,f10,q0,cm,c0,hiJ,h2i,hl,at_,dv,sh,hs,mG,mG0,sG,sG0,lG,lqq]
   exact ih i _ _ (by omega) ⟨by omega,y2,Y/pw i,n+t,_,dvv,g0,g1,by omega,by simp only[go_sem,seval,f1],by simp only[go_sem,seval],by rw[if_neg hJ0];simp only[go_sem,seval,f6],by simp only[go_sem,seval,f10],rfl⟩
  ·have c0:(cmpI ((Y:Nat):Int) ((pw i:Nat):Int)≥0)=False:=eq_false (by rw[ge_iff_le,zcX];omega)
   simp(disch:=omega)only[go_sem,seval,wqq,f1,f3,f6,f10,q0,cm,c0,hiJ,h2i,hl,at_,mG,mG0,sG,sG0,lG,lqq]
   exact ih i _ _ (by omega) ⟨by omega,y,Y,n,_,hy,hY,by omega,by omega,by simp only[go_sem,seval,f1],by simp only[go_sem,seval,f3],by rw[if_neg hJ0];simp only[go_sem,seval,f6],by simp only[go_sem,seval,f10],rfl⟩
end Go.Eng
namespace Go.Eng
theorem zk2 (x:WI) (h:x.v.natAbs≤9223372036854775807):pf E0 63 [wiP x]=some (.i .i64 (nbits x.v.natAbs:Int)):=by
 have nb:nbits x.v.natAbs≤63:=zbz (by omega)
 have fin:∀(y:WI),y.v=(x.v.natAbs:Int)→pf E0 80 [wiP y]=some (.tu [.i .i64 (x.v.natAbs:Int),.b true]):=fun y hy=>by
  have sm:=zda y
  have s1:isSmall (x.v.natAbs:Int)=true:=by unfold isSmall;exact decide_eq_true ⟨by omega,by omega⟩
  have s2:small (x.v.natAbs:Int)=(x.v.natAbs:Int):=by unfold small;rw[if_pos s1]
  rw[hy,s1,s2] at sm
  exact sm
 have sg:=zdF x
 refine zab (xf:=zsB) rfl (by simp[zsB]) ?_
 simp only[zsB]
 by_cases hn:x.v<0
 ·have t0:(cmpI x.v 0<0)=True:=by rw[zcH];simp[hn]
  have n1:=zi5 x
  have sm:=fin x.neg (by show-x.v=_;omega)
  generalize x.neg=y at *
  generalize x.v.natAbs=K at *
  simp(disch:=omega)only[go_sem,seval,wqq,sg,t0,n1,sm]
  refine zag ztt.eq_1 (fun(σ:Nat×Nat) fr M=>σ.1+nbits σ.2=nbits K∧σ.2≤K∧fr 3=(PV.i .i64 ((σ.1:Nat):Int))∧fr 4=(PV.i .i64 ((σ.2:Nat):Int))) (fun σ=>σ.2) ?_ (0,K) ⟨by simp,Nat.le_refl _,by simp only[go_sem,seval],by simp only[go_sem,seval]⟩
  rintro⟨n,k⟩ fr M ⟨hs,hk,f3,f4⟩ ih
  simp only at hs hk f3 f4
  by_cases hk0:k=0
  ·have q1:((k:Int)>0)=False:=by simp;omega
   have hN:n=nbits K:=by rw[←hs,hk0];rfl
   rw[←hN]
   simp(disch:=omega)only[go_sem,seval,wqq,f3,f4,q1]
  ·have q1:((k:Int)>0)=True:=by simp;omega
   have k2:(k:Int).tdiv 2=((k/2:Nat):Int):=zbR _ 2
   have hh:=zcs hk0
   simp(disch:=omega)only[go_sem,seval,wqq,f3,f4,q1,k2]
   exact ih (n+1,k/2) _ _ (by simp only;omega) ⟨by simp only;omega,by simp only;omega,by simp only[go_sem,seval];rw[Int.natCast_succ],by simp only[go_sem,seval]⟩
 ·have t0:(cmpI x.v 0<0)=False:=by rw[zcH];simp[hn]
  have sm:=fin x (by omega)
  obtain⟨K,hK⟩:∃K:Nat,K=x.v.natAbs:=⟨_,rfl⟩
  rw[←hK] at sm nb ⊢
  have hKl:K≤9223372036854775807:=by omega
  simp(disch:=omega)only[go_sem,seval,wqq,sg,t0,sm]
  refine zag ztt.eq_1 (fun(σ:Nat×Nat) fr M=>σ.1+nbits σ.2=nbits K∧σ.2≤K∧fr 3=(PV.i .i64 ((σ.1:Nat):Int))∧fr 4=(PV.i .i64 ((σ.2:Nat):Int))) (fun σ=>σ.2) ?_ (0,K) ⟨by simp,Nat.le_refl _,by simp only[go_sem,seval],by simp only[go_sem,seval]⟩
  rintro⟨n,k⟩ fr M ⟨hs,hk,f3,f4⟩ ih
  simp only at hs hk f3 f4
  by_cases hk0:k=0
  ·have q1:((k:Int)>0)=False:=by simp;omega
   have hN:n=nbits K:=by rw[←hs,hk0];rfl
   rw[←hN]
   simp(disch:=omega)only[go_sem,seval,wqq,f3,f4,q1]
  ·have q1:((k:Int)>0)=True:=by simp;omega
   have k2:(k:Int).tdiv 2=((k/2:Nat):Int):=zbR _ 2
   have hh:=zcs hk0
   simp(disch:=omega)only[go_sem,seval,wqq,f3,f4,q1,k2]
   exact ih (n+1,k/2) _ _ (by simp only;omega) ⟨by simp only;omega,by simp only;omega,by simp only[go_sem,seval];rw[Int.natCast_succ],by simp only[go_sem,seval]⟩
theorem zjE {j:Nat} (h:inR (pw j)):pf E0 38 [wiP (pwI j),wiP (pwI j)]=some (.tu [wiP (pwI (j+1)),.i .i64 (lerr ((pw (j+1):Nat):Int))]):=by
 rw[zfe,zgy h,←Int.natCast_mul,←zfk];rfl
theorem zrL (b0 b1:Option PB) (w1 w2:PV):appP [b0,b1,some ⟨[w1,w2],true,0⟩] 2 32 .nl (.sl 2 0 1 1 2)=some (.sl 3 0 1 1 2,[b0,b1,some ⟨[w1,w2],true,0⟩,some ⟨[w1,w2],true,0⟩]):=rfl
theorem zmt {v K:Nat} (hK:K=16384) (h:v<2^K):inR v:=by subst hK;exact h
theorem zhe:inR (pw 1):=by
 obtain⟨K,hK⟩:∃K,K=16384:=⟨_,rfl⟩
 have h:pw 1<2^K:=Nat.lt_of_lt_of_le (show pw 1<2^3 by decide) (Nat.pow_le_pow_right (by decide) (by omega))
 exact zmt hK h
set_option maxHeartbeats 2000000 in
theorem zjw {F:PFin} {ks:List KI} {K:Nat} {x0:WI} (hR:inR K) (hx0:x0.v=(K:Int)) (hK:9223372036854775807<K) {fr:PFr} {v:Nat} {v1:Nat}
  (f1:fr 1=.p 0 0) (f3:fr 3=(PV.i .i64 ((0:Nat):Int))) (f6:fr 6=.nl) (f7:fr 7=.p 1 0)
  (cont:∀fr' (G:PM) (J:Nat),J≠0→fr' 1=.p 0 0→fr' 3=(PV.i .i64 ((0:Nat):Int))→fr' 6=.sl (G.length+1) 0 J J 2→K<pw J→pw (J-1)≤K→∀R,UK E0 F (.exit 2) ks fr' (some ⟨[.b (decide (x0.v<0)),D x0.v.natAbs],true,v⟩::(G++(some ⟨pwL J,true,0⟩::R)))) :
  WK E0 F (.loop zs2) ks fr [some ⟨[.b (decide (x0.v<0)),D x0.v.natAbs],true,v⟩,some ⟨[.b (decide ((pwI 0).v<0)),D (pwI 0).v.natAbs],true,v1⟩]:=by
 have R1:=zhe
 have R0:inR (pw 0):=zdz (Nat.le_of_lt (zjd 0)) R1
 have cm0:=zci x0 (pwI 0)
 have c00:(cmpI x0.v (pwI 0).v≥0)=True:=eq_true (by rw[ge_iff_le,zcX,hx0,zgy R0,zhT];omega)
 have mu0:=zjE R0
 have le0:lerr ((pw (0+1):Nat):Int)=0:=(zc5 (z:=((pw (0+1):Nat):Int)) (by rw[Int.natAbs_natCast];exact R1)).2
 rw[le0] at mu0
 refine zb7 zs2.eq_1 ?_
 simp(disch:=omega)only[go_sem,seval,wqq,f1,f3,f6,f7,cm0,c00,mu0,zrL,zay,zah]
 refine zag zs2.eq_1 (fun(j:Nat) fr M=>1≤j∧inR (pw j)∧pw (j-1)≤K∧fr 1=.p 0 0∧fr 3=(PV.i .i64 ((0:Nat):Int))∧∃(G:PM) (r:Option PB) (v2:Nat),fr 6=.sl (G.length+1) 0 j j 2∧fr 7=.p (G.length+3) 0 ∧
  M=some ⟨[.b (decide (x0.v<0)),D x0.v.natAbs],true,v⟩::(G++[some ⟨pwL j,true,0⟩,r,some ⟨[.b (decide ((pwI j).v<0)),D (pwI j).v.natAbs],true,v2⟩])) (fun j=>K+1-pw (j-1)) ?_ 1
  ⟨Nat.le_refl _,R1,by rw[show pw (1-1)=2 from rfl];omega,by simp only[go_sem,seval,f1],by simp only[go_sem,seval,f3],[_,_],_,_,by simp only[go_sem,seval],by simp only[go_sem,seval],rfl⟩
 rintro j fr M ⟨hj,jR,hjK,f1,f3,G,r,v2,f6,f7,rfl⟩ ih
 have j14:=zfK jR
 have cm:=zci x0 (pwI j)
 by_cases hc:pw j≤K
 ·have c0:(cmpI x0.v (pwI j).v≥0)=True:=eq_true (by rw[ge_iff_le,zcX,hx0,zgy jR];omega)
  have mu:=zjE jR
  have apx:∀b0:Option PB,appP (b0::(G++[some ⟨pwL j,true,0⟩,r,some ⟨[.b (decide ((pwI j).v<0)),D (pwI j).v.natAbs],true,v2⟩,some ⟨[PV.b (decide ((pwI j).v<0)),D (pwI j).v.natAbs],true,0⟩])) 2 32 (.sl (G.length+1) 0 j j 2) (.sl (G.length+4) 0 1 1 2) =
   some (.sl (G.length+5) 0 (j+1) (j+1) 2,b0::(G++[none,r,some ⟨[.b (decide ((pwI j).v<0)),D (pwI j).v.natAbs],true,v2⟩,some ⟨[PV.b (decide ((pwI j).v<0)),D (pwI j).v.natAbs],true,0⟩,some ⟨pwL (j+1),true,0⟩])):=fun b0 =>
   zos (b0::G) (pwL j) _ _ r (some ⟨[.b (decide ((pwI j).v<0)),D (pwI j).v.natAbs],true,v2⟩) (zd6 j) (by omega) (by omega)
  by_cases hn:inR (pw (j+1))
  ·have le1:lerr ((pw (j+1):Nat):Int)=0:=(zc5 (z:=((pw (j+1):Nat):Int)) (by rw[Int.natAbs_natCast];exact hn)).2
   rw[le1] at mu
   simp(disch:=omega)only[go_sem,seval,wqq,f1,f3,f6,f7,cm,c0,mu,apx,zay,zah,mG,mG0,sG,sG0,lG,lqq]
   have:=zjd (j-1)
   rw[show j-1+1=j by omega] at this
   exact ih (j+1) _ _ (by rw[show j+1-1=j by omega];omega) ⟨by omega,hn,hc,by simp only[go_sem,seval,f1],by simp only[go_sem,seval,f3],G++[none,r,_,_],_,_,by simp only[go_sem,seval];simp,by simp only[go_sem,seval];simp,by simp;exact⟨rfl,rfl,rfl,rfl⟩⟩
  ·have le1:(lerr ((pw (j+1):Nat):Int)=0)=False:=eq_false fun q=>hn (by have:=ze5 q;rwa [Int.natAbs_natCast] at this)
   simp(disch:=omega)only[go_sem,seval,wqq,f1,f3,f6,f7,cm,c0,mu,le1,apx,zay,zah,mG,mG0,sG,sG0,lG,lqq]
   have e6:∀a b c d p q:Option PB,G++[a,b,c,d,p,q]=(G++[a,b,c,d])++(p::[q]):=fun a b c d p q=>by simp
   rw[e6]
   exact cont _ _ (j+1) (by omega) (by simp only[go_sem,seval,f1]) (by simp only[go_sem,seval,f3]) (by simp only[go_sem,seval];simp) (by
    rcases Nat.lt_or_ge K (pw (j+1)) with q|q
    ·exact q
    ·exact(hn (zdz q hR)).elim) hc [_]
 ·have c0:(cmpI x0.v (pwI j).v≥0)=False:=eq_false (by rw[ge_iff_le,zcX,hx0,zgy jR];omega)
  simp(disch:=omega)only[go_sem,seval,wqq,f1,f3,f6,f7,cm,c0,mG,mG0,sG,sG0,lG,lqq]
  exact cont _ G j (by omega) (by simp only[go_sem,seval,f1]) (by simp only[go_sem,seval,f3]) (by simp only[go_sem,seval,f6]) (by omega) hjK [_,_]
theorem zhI (x:WI):pf E0 63 [wiP x]=some (.i .i64 (nbits x.v.natAbs:Int)):=by
 by_cases hs:x.v.natAbs≤9223372036854775807
 ·exact zk2 x hs
 have hR:inR x.v.natAbs:=(za4 _).1 x.lim
 obtain⟨K,hKe⟩:∃K,K=x.v.natAbs:=⟨_,rfl⟩
 rw[←hKe] at hR hs ⊢
 have hK:9223372036854775807<K:=by omega
 have sg:=zdF x
 have fin:∀(y:WI),y.v=(K:Int)→pf E0 80 [wiP y]=some (.tu [.i .i64 0,.b false]):=fun y hy=>by
  have sm:=zda y
  have s1:isSmall (K:Int)=false:=by unfold isSmall;exact decide_eq_false (by omega)
  have s2:small (K:Int)=0:=by unfold small;rw[s1];rfl
  rw[hy,s1,s2] at sm
  exact sm
 have fr2:=zbg (n:=2) (by decide)
 have w2:wiOf 2 (by decide)=pwI 0:=WI.ext' (by rw[zgy (zdz (Nat.le_of_lt (zjd 0)) zhe)];rfl)
 rw[w2] at fr2
 have nb1:1≤nbits K:=by unfold nbits;rw[if_neg (by omega)];omega
 have nbe:(nbits K:Int)-1+1=(nbits K:Int):=by omega
 have sy:∀y:WI,y.v=1→pf E0 31 [wiP y]=some (.i .i64 1):=fun y hy=>by rw[zdF,hy];rfl
 refine zab (xf:=zsB) rfl (by simp[zsB]) ?_
 simp only[zsB]
 have nbb:nbits K≤16384:=by
  obtain⟨q,hq⟩:∃q,q=16384:=⟨_,rfl⟩
  unfold inR at hR
  rw[←hq] at hR ⊢
  exact zbz hR
 by_cases hn:x.v<0
 ·have t0:(cmpI x.v 0<0)=True:=by rw[zcH];simp[hn]
  have n1:=zi5 x
  have hv:x.neg.v=(K:Int):=by show-x.v=_;omega
  have sm:=fin x.neg hv
  generalize x.neg=y at *
  simp(disch:=omega)only[go_sem,seval,wqq,sg,t0,n1,sm,fr2]
  refine zjw hR hv hK (by simp only[go_sem,seval]) (by simp only[go_sem,seval]) (by simp only[go_sem,seval]) (by simp only[go_sem,seval]) ?_
  intro fr' G J hJ f1 f3 f6 hlt hle R
  have J14:=zfK (zdz hle hR)
  simp(disch:=omega)only[go_sem,seval,wqq,f6]
  refine zjx hR hv (by omega) hlt (.inr hle) (by simp only[go_sem,seval,f1]) (by simp only[go_sem,seval,f3]) (by rw[if_neg hJ];simp only[go_sem,seval,f6]) (by simp only[go_sem,seval]) ?_
  intro fr'' v' y1 hy1 g1 g3
  have syy:=sy y1 hy1
  simp(disch:=omega)only[go_sem,seval,wqq,g1,g3,syy,nbe]
 ·have t0:(cmpI x.v 0<0)=False:=by rw[zcH];simp[hn]
  have hv:x.v=(K:Int):=by omega
  have sm:=fin x hv
  simp(disch:=omega)only[go_sem,seval,wqq,sg,t0,sm,fr2]
  refine zjw hR hv hK (by simp only[go_sem,seval]) (by simp only[go_sem,seval]) (by simp only[go_sem,seval]) (by simp only[go_sem,seval]) ?_
  intro fr' G J hJ f1 f3 f6 hlt hle R
  have J14:=zfK (zdz hle hR)
  simp(disch:=omega)only[go_sem,seval,wqq,f6]
  refine zjx hR hv (by omega) hlt (.inr hle) (by simp only[go_sem,seval,f1]) (by simp only[go_sem,seval,f3]) (by rw[if_neg hJ];simp only[go_sem,seval,f6]) (by simp only[go_sem,seval]) ?_
  intro fr'' v' y1 hy1 g1 g3
  have syy:=sy y1 hy1
  simp(disch:=omega)only[go_sem,seval,wqq,g1,g3,syy,nbe]
theorem zhB (x:FQ):pf E0 44 [fqP x]=some (.i .i64 ((max (nbits x.p.v.natAbs) (nbits x.q.v.natAbs):Nat):Int)):=by
 have a1:=zna x
 have a2:=zdH x
 have d1:=zhI x.p
 have d2:=zhI x.q
 generalize nbits x.p.v.natAbs=a at *
 generalize nbits x.q.v.natAbs=b at *
 have hm:mmP true (.i .i64 (a:Int)) [.i .i64 (b:Int)]=some (.i .i64 ((max a b:Nat):Int)):=by
  simp only[mmP,if_true]
  congr 2
  split<;>omega
 refine zab (xf:=zs4) rfl (by simp[zs4]) ?_
 simp only[zs4]
 simp(disch:=omega)only[go_sem,seval,wqq]
 refine zaQ [1] rfl (by simp only[go_sem,seval]) ?_
 simp(disch:=omega)only[go_sem,seval,wqq,a1,a2,d1,d2,hm]
end Go.Eng
namespace Go.Eng
theorem zop {a b:Nat} (la:wlen a≤512) (lb:wlen b≤512) (h:D a=D b):a=b:=by
 have h1:=zaW a b (by omega) (by omega)
 have h2:=zaW a a (by omega) (by omega)
 rw[←h,h2] at h1
 have e:cmpI (a:Int) a=cmpI (a:Int) b:=by simpa using h1
 have z:cmpI (a:Int) a=0:=by simp[cmpI]
 rw[z] at e
 unfold cmpI at e
 split at e
 ·exact absurd e (by decide)
 ·split at e
  ·exact absurd e (by decide)
  ·omega
theorem zj5 {x y:WI} (h:wc x=wc y):x=y:=by
 unfold wc at h
 injection h with h1 h2
 injection h2 with h2 _
 have e:=zop x.lim y.lim h2
 have s:(x.v<0)↔(y.v<0):=by
  injection h1 with h1
  simpa using h1
 exact zik (by omega)
theorem ziL {f g:FQ} (h:fqP f=fqP g):f=g:=by
 have h:PV.ag (wc f.p++wc f.l)=PV.ag (wc g.p++wc g.l):=h
 injection h with h
 obtain⟨h1,h2⟩:=List.append_inj h rfl
 have e1:=zj5 h1
 have e2:=zj5 h2
 refine zg4 (by rw[e1]) ?_
 have:f.q.v-1=g.q.v-1:=congrArg WI.v e2
 omega
theorem zid {f g:FQ} {d e:Int} (h:some (PV.tu [fqP f,.i .i64 d])=some (.tu [fqP g,.i .i64 e])):f=g∧d=e:=by
 simp only[Option.some.injEq,PV.tu.injEq,List.cons.injEq,PV.i.injEq,true_and,and_true] at h
 exact⟨ziL h.1,h.2⟩
theorem zfb (a b:FQ):∃(f:FQ) (e:Int),pf E0 8 [fqP a,fqP b]=some (.tu [fqP f,.i .i64 e]):=by
 obtain⟨h1,h2⟩:=zjK a b
 by_cases h:inR (muP a b).natAbs∧inR (muQ a b).natAbs
 ·obtain⟨f,_,_,q⟩:=h1 h;exact⟨f,0,q⟩
 ·exact⟨_,_,h2 h⟩
theorem zeP (a b:FQ):∃(f:FQ) (e:Int),pf E0 9 [fqP a,fqP b]=some (.tu [fqP f,.i .i64 e]):=by
 obtain⟨h1,h2⟩:=zjJ a b
 by_cases h:adOk a b
 ·obtain⟨f,_,_,q⟩:=h1 h;exact⟨f,0,q⟩
 ·exact⟨_,_,h2 h⟩
noncomputable def mF (a b:FQ):FQ:=(zfb a b).choose
noncomputable def mFe (a b:FQ):Int:=(zfb a b).choose_spec.choose
theorem zqA (a b:FQ):pf E0 8 [fqP a,fqP b]=some (.tu [fqP (mF a b),.i .i64 (mFe a b)]):=(zfb a b).choose_spec.choose_spec
noncomputable def aF (a b:FQ):FQ:=(zeP a b).choose
noncomputable def aFe (a b:FQ):Int:=(zeP a b).choose_spec.choose
theorem zqz (a b:FQ):pf E0 9 [fqP a,fqP b]=some (.tu [fqP (aF a b),.i .i64 (aFe a b)]):=(zeP a b).choose_spec.choose_spec
theorem zpf (a b:FQ) {n m:Nat} {x d y e:Int} (ha:fsz n a) (hb:fsz m b) (h:n+m<1230) (xa:a.is x d) (xb:b.is y e):(mF a b).is (x*y) (d*e)∧fsz (n+m) (mF a b)∧mFe a b=0:=by
 obtain⟨f,h1,h2,h3⟩:=zmF a b ha hb h xa xb
 rw[zqA] at h1
 obtain⟨e1,e2⟩:=zid h1
 rw[e1];exact⟨h2,h3,e2⟩
theorem zoq (a b:FQ) {n m:Nat} {x d y e:Int} (ha:fsz n a) (hb:fsz m b) (h:n+m+1<1230) (xa:a.is x d) (xb:b.is y e):(aF a b).is (x*e+y*d) (d*e)∧fsz (n+m+1) (aF a b)∧aFe a b=0:=by
 obtain⟨f,h1,h2,h3⟩:=zlN a b ha hb h xa xb
 rw[zqz] at h1
 obtain⟨e1,e2⟩:=zid h1
 rw[e1];exact⟨h2,h3,e2⟩
noncomputable def whQ (n:Int):FQ:=if h:Fits64 n then ⟨wiOf n h,wi1,by decide,Nat.gcd_one_right _⟩ else fq0
theorem zgG {n:Int} (h:Fits64 n):(whQ n).p.v=n∧(whQ n).q.v=1:=by
 unfold whQ
 rw[dif_pos h]
 exact⟨rfl,rfl⟩
theorem zj6 {n:Int} (h:Fits64 n):pf E0 17 [.i .i64 n,.i .i64 1]=some (.tu [fqP (whQ n),.i .i64 0]):=by
 obtain⟨f,h1,h2,h3⟩:=znb h (q:=1) (by decide) (by decide)
 obtain⟨l1,l2⟩:=zfP (p:=n) (q:=1) (by decide) (Nat.gcd_one_right _)
 obtain⟨v1,v2⟩:=zgG h
 obtain rfl:f=whQ n:=zg4 ((h1.trans l1).trans v1.symm) ((h2.trans l2).trans v2.symm)
 exact h3
theorem zij {n:Int} (h:Fits64 n):(whQ n).is n 1∧fsz 5 (whQ n):=by
 obtain⟨v1,v2⟩:=zgG h
 refine⟨?_,?_,?_⟩
 ·show (whQ n).p.v*1=n*(whQ n).q.v
  rw[v1,v2]
 ·rw[v1];exact zlI h
 ·rw[v2];exact zaF (by decide)
theorem zfg {n:Int} (h:Fits64 n):pf E0 425 [.i .i64 n]=some (fqP (whQ n)):=by
 have o:=zj6 h
 refine zab (xf:=ztd) rfl (by simp[ztd]) ?_
 simp only[ztd]
 simp(disch:=omega)only[go_sem,seval,wqq,o]
end Go.Eng
namespace Go.Eng
noncomputable def qc (f:FQ):List PV:=[.b (decide (f.p.v<0)),D f.p.v.natAbs,.b (decide (f.l.v<0)),D f.l.v.natAbs]
theorem zn8 (f:FQ):PV.ag (qc f)=fqP f:=_root_.id rfl
theorem zhU (f:FQ):(qc f).length=4:=_root_.id rfl
theorem zfl (f:FQ):(qc f).take 4=qc f:=_root_.id rfl
theorem zjQ (a b c d:PV) (f:FQ):psplice [a,b,c,d] 0 [.b (decide (f.p.v<0)),D f.p.v.natAbs,.b (decide (f.l.v<0)),D f.l.v.natAbs]=qc f:=_root_.id rfl
theorem zli (g f:FQ):psplice (qc g) 0 [.b (decide (f.p.v<0)),D f.p.v.natAbs,.b (decide (f.l.v<0)),D f.l.v.natAbs]=qc f:=_root_.id rfl
structure QZ (L:List PV) (f:FQ):Prop where
 len:L.length=4
 sc:L.all PV.scal=true
 fz:∀(M:PM) (d:Nat),fzL (fz M (d+1)) L=some (qc f,[])
theorem QZ.tk {L:List PV} {s:FQ} (h:QZ L s):L.take 4=L:=List.take_of_length_le (by rw[h.len];omega)
theorem QZ.spl {L:List PV} {s:FQ} (h:QZ L s) (f:FQ):psplice L 0 [.b (decide (f.p.v<0)),D f.p.v.natAbs,.b (decide (f.l.v<0)),D f.l.v.natAbs]=qc f:=by
 unfold psplice
 rw[List.take_zero,List.drop_eq_nil_of_le (by rw[h.len];exact Nat.le_refl _),List.nil_append,List.append_nil];rfl
theorem qz0:QZ [.b false,.nl,.b false,.nl] fq0:=⟨rfl,rfl,fun _ _=>rfl⟩
theorem qzs (f:FQ):QZ (qc f) f:=⟨rfl,rfl,fun _ _=>rfl⟩
theorem zr6 (a b c d:PV) (L:List PV) (h:L.length=4):psplice [a,b,c,d] 0 L=L:=by
 unfold psplice
 rw[List.take_zero,List.drop_eq_nil_of_le (by rw[h];exact Nat.le_refl _),List.nil_append,List.append_nil]
def fwD (f:FQ):Prop:=max (nbits f.p.v.natAbs) (nbits f.q.v.natAbs)≤1000
noncomputable def tF (U:Nat→FQ) (t:FQ) (l:List Int):FQ:=l.foldl (fun t a=>mF t (U a.toNat)) t
noncomputable def sF (c:Nat→Int) (U:Nat→FQ):Nat→FQ
 | 0=>fq0
 | i+1=>if c i=0 then sF c U i else aF (sF c U i) (tF U (whQ (c i)) (facL i))
def preL (i j:Nat):List Int:=(List.range j).flatMap fun j'=>List.replicate (exN i j') (j':Int)
theorem zjc:∀i,i<20→preL i 3=facL i:=by decide
theorem zhP (i j:Nat):preL i (j+1)=preL i j++List.replicate (exN i j) (j:Int):=by
 unfold preL
 rw[List.range_succ,List.flatMap_append];simp
theorem zlx (U:Nat→FQ) (t:FQ) (i j k:Nat):tF U t (preL i j++List.replicate (k+1) (j:Int))=mF (tF U t (preL i j++List.replicate k (j:Int))) (U j):=by
 unfold tF
 rw[List.replicate_succ',←List.append_assoc,List.foldl_append];rfl
open Classical in
noncomputable def evE (c:Nat→Int) (U:Nat→FQ):Int:=if okC c then (if ∀j,j<3→fwD (U j) then 0 else 4) else 1
noncomputable def evR (c:Nat→Int) (U:Nat→FQ):FQ:=if evE c U=0 then sF c U 20 else fq0
theorem zkS {c:Nat→Int} (h:¬okC c) (u v w:FQ):pf E0 409 [aI 20 c,fqP u,fqP v,fqP w]=some (.tu [fqP fq0,.i .i64 1]):=by
 have va:=zav c
 have:vlC c=1:=if_neg h
 rw[this] at va
 have z0:=zkm
 refine zab (xf:=zsI) rfl (by simp[zsI]) ?_
 simp only[zsI]
 simp(disch:=omega)only[go_sem,seval,wqq,va,zay,zah,zkm]
set_option maxHeartbeats 8000000 in
theorem zkT {c:Nat→Int} (hc:okC c) {U:Nat→FQ}:pf E0 409 [aI 20 c,fqP (U 0),fqP (U 1),fqP (U 2)]=some (.tu [fqP (evR c U),.i .i64 (evE c U)]):=by
 have va:=zav c
 have:vlC c=0:=if_pos hc
 rw[this] at va
 refine zab (xf:=zsI) rfl (by simp[zsI]) ?_
 simp only[zsI]
 simp(disch:=omega)only[go_sem,seval,wqq,va,zay,zah]
 refine zag zt8.eq_1 (fun(j:Nat) fr M=>j≤3∧(∀e,e<j→fwD (U e))∧fr 4=.p 0 0∧fr 8=.p 4 0∧fr 11=.p 5 0∧fr 30=.ag (cg 3 fun e=>qc (U e))∧fr 31=(PV.i .i64 ((j:Nat):Int))∧∃b1 b2 b3 v G,M=some ⟨cs 20 c,true,0⟩::b1::b2::b3::some ⟨[.b false,.nl,.b false,.nl],true,0⟩::some ⟨cg 3 fun e=>qc (U e),true,v⟩::G) (fun j=>3-j) ?_ 0 ⟨by omega,fun e he=>by omega,by simp only[go_sem,seval],by simp only[go_sem,seval],by simp only[go_sem,seval],by simp only[go_sem,seval];rfl,by simp only[go_sem,seval],_,_,_,_,[],rfl⟩
 rintro j fr M ⟨hj,hlo,f4,f8,f11,f30,f31,b1,b2,b3,v,G,rfl⟩ ih
 rcases Nat.lt_or_ge j 3 with h|h
 ·have q1:((j:Int)<3)=True:=eq_true (by omega)
  have qL:(j<3)=True:=eq_true h
  have cx:=zep (k:=4) (f:=fun e=>qc (U e)) (fun _=>rfl) h
  have cl:(cg 3 fun e=>qc (U e)).length=12:=zcW (k:=4) (fun _=>rfl) 3
  have dg:=zhB (U j)
  simp(disch:=omega)only[go_sem,seval,wqq,f4,f8,f11,f30,f31,q1,qL,cx,cl,zn8,zjQ,zfl,zhU,dg,mG,mG0,sG,sG0,lG,lqq]
  by_cases hw:fwD (U j)
  ·have t1:(1000<((max (nbits (U j).p.v.natAbs) (nbits (U j).q.v.natAbs):Nat):Int))=False:=eq_false (by unfold fwD at hw;omega)
   simp(disch:=omega)only[go_sem,seval,wqq,f4,f8,f11,f30,f31,t1,mG,mG0,sG,sG0,lG,lqq]
   refine ih (j+1) _ _ (by omega) ⟨by omega,fun e he=>?_,by simp only[go_sem,seval,f4],by simp only[go_sem,seval,f8],by simp only[go_sem,seval,f11],by simp only[go_sem,seval,f30],by simp only[go_sem,seval,f31];rw[Int.natCast_succ],_,_,_,_,_,rfl⟩
   rcases Nat.lt_or_ge e j with z|z
   ·exact hlo e z
   ·obtain rfl:e=j:=by omega
    exact hw
  ·have t1:(1000<((max (nbits (U j).p.v.natAbs) (nbits (U j).q.v.natAbs):Nat):Int))=True:=eq_true (by unfold fwD at hw;omega)
   have e1:evE c U=4:=by unfold evE;rw[if_pos hc,if_neg fun q=>hw (q j h)]
   have e2:evR c U=fq0:=by unfold evR;rw[e1];rfl
   rw[e1,e2]
   simp(disch:=omega)only[go_sem,seval,wqq,f4,f8,f11,f30,f31,t1,zay,zah,zkm,mG,mG0,sG,sG0,lG,lqq]
 ·obtain rfl:j=3:=by omega
  have e1:evE c U=0:=by unfold evE;rw[if_pos hc,if_pos hlo]
  have e2:evR c U=sF c U 20:=by unfold evR;rw[e1];rfl
  rw[e1,e2]
  clear ih e1 e2 hlo va
  simp(disch:=omega)only[go_sem,seval,wqq,f4,f8,f11,f30,f31,zay,zah,mG,mG0,sG,sG0,lG,lqq]
  refine zag zt9.eq_1 (fun(i:Nat) fr M=>i≤20∧fr 8=.p 4 0∧fr 11=.p 5 0∧fr 14=.p (G.length+6) 0∧fr 40=aI 20 c∧fr 41=(PV.i .i64 ((i:Nat):Int))∧∃b0 b1 b2 b3 v vs H L,QZ L (sF c U i)∧M=b0::b1::b2::b3::some ⟨[.b false,.nl,.b false,.nl],true,0⟩::some ⟨cg 3 fun e=>qc (U e),true,v⟩::(G++some ⟨L,true,vs⟩::H)) (fun i=>20-i) ?_ 0 ⟨by omega,by simp only[go_sem,seval,f8],by simp only[go_sem,seval,f11],by simp only[go_sem,seval],by simp only[go_sem,seval],by simp only[go_sem,seval],_,_,_,_,_,_,[],_,qz0,rfl⟩
  rintro i fr M ⟨hi,f8,f11,f14,f40,f41,b0,b1,b2,b3,v,vs,H,L,qz,rfl⟩ ih
  have z1:=qz.len
  have z2:=qz.sc
  have z3:=qz.fz
  have z4:=qz.tk
  have z5:=qz.spl
  rcases Nat.lt_or_ge i 20 with h|h
  ·have q1:((i:Int)<20)=True:=eq_true (by omega)
   have qL:(i<20)=True:=eq_true h
   have ix:=zcS c h
   by_cases c0:c i=0
   ·have c0':(c i=0)=True:=eq_true c0
    have hs:sF c U (i+1)=sF c U i:=if_pos c0
    simp(disch:=omega)only[go_sem,seval,wqq,f8,f11,f14,f40,f41,q1,qL,ix,c0',mG,mG0,sG,sG0,lG,lqq]
    exact ih (i+1) _ _ (by omega) ⟨by omega,by simp only[go_sem,seval,f8],by simp only[go_sem,seval,f11],by simp only[go_sem,seval,f14],by simp only[go_sem,seval,f40],by simp only[go_sem,seval,f41];rw[Int.natCast_succ],_,_,_,_,_,_,_,_,hs ▸ qz,rfl⟩
   ·have c0':(c i=0)=False:=eq_false c0
    have hs:sF c U (i+1)=aF (sF c U i) (tF U (whQ (c i)) (facL i)):=if_neg c0
    have ck:Fits64 (c i):=by have:=hc i h;unfold Fits64;omega
    have k1:=zfg ck
    have rw3:=zdu (n:=60) mE (off:=i*3) (k:=3) (by omega)
    have rl:(3≤((cs 60 mE).drop (i*3)).length)=True:=eq_true (by rw[List.length_drop,zbT];omega)
    simp(disch:=omega)only[go_sem,seval,wqq,f8,f11,f14,f40,f41,q1,qL,ix,c0',k1,ziw,rw3,rl,zjQ,mG,mG0,sG,sG0,lG,lqq]
    refine zag zt5.eq_1 (fun(j:Nat) fr M=>j≤3∧fr 8=.p 4 0∧fr 11=.p 5 0∧fr 14=.p (G.length+6) 0∧fr 17=.p (G.length+(H.length+1)+6) 0∧fr 40=aI 20 c∧fr 41=(PV.i .i64 ((i:Nat):Int))∧fr 51=aI 3 (fun e=>mE (i*3+e))∧fr 52=(PV.i .i64 ((j:Nat):Int))∧∃b0 b1 b2 b3 v vs vt,M=b0::b1::b2::b3::some ⟨[.b false,.nl,.b false,.nl],true,0⟩::some ⟨cg 3 fun e=>qc (U e),true,v⟩::(G++some ⟨L,true,vs⟩::(H++[some ⟨qc (tF U (whQ (c i)) (preL i j)),true,vt⟩]))) (fun j=>3-j) ?_ 0 ⟨by omega,by simp only[go_sem,seval,f8],by simp only[go_sem,seval,f11],by simp only[go_sem,seval,f14],by simp only[go_sem,seval],by simp only[go_sem,seval,f40],by simp only[go_sem,seval,f41],by simp only[go_sem,seval],by simp only[go_sem,seval],_,_,_,_,_,_,_,rfl⟩
    rintro j fr M ⟨hj,f8,f11,f14,f17,f40,f41,f51,f52,b0,b1,b2,b3,v,vs,vt,rfl⟩ ih2
    rcases Nat.lt_or_ge j 3 with h3|h3
    ·have q2:((j:Int)<3)=True:=eq_true (by omega)
     have qJ:(j<3)=True:=eq_true h3
     have iy:=zcS (fun e=>mE (i*3+e)) h3
     obtain⟨e1,e2⟩:=zaU i h j h3
     rw[e1] at iy
     simp(disch:=omega)only[go_sem,seval,wqq,f8,f11,f14,f17,f40,f41,f51,f52,q2,qJ,iy,mG,mG0,sG,sG0,lG,lqq]
     refine zag zt6.eq_1 (fun(k:Nat) fr M=>k≤exN i j∧fr 8=.p 4 0∧fr 11=.p 5 0∧fr 14=.p (G.length+6) 0∧fr 17=.p (G.length+(H.length+1)+6) 0∧fr 40=aI 20 c∧fr 41=(PV.i .i64 ((i:Nat):Int))∧fr 51=aI 3 (fun e=>mE (i*3+e))∧fr 52=(PV.i .i64 ((j:Nat):Int))∧fr 18=(PV.i .i64 ((j:Nat):Int))∧fr 56=(PV.i .i64 ((exN i j:Nat):Int))∧fr 57=(PV.i .i64 ((k:Nat):Int))∧∃b0 b1 b2 b3 v vs vt,M=b0::b1::b2::b3::some ⟨[.b false,.nl,.b false,.nl],true,0⟩::some ⟨cg 3 fun e=>qc (U e),true,v⟩::(G++some ⟨L,true,vs⟩::(H++[some ⟨qc (tF U (whQ (c i)) (preL i j++List.replicate k (j:Int))),true,vt⟩]))) (fun k=>exN i j-k) ?_ 0 ⟨by omega,by simp only[go_sem,seval,f8],by simp only[go_sem,seval,f11],by simp only[go_sem,seval,f14],by simp only[go_sem,seval,f17],by simp only[go_sem,seval,f40],by simp only[go_sem,seval,f41],by simp only[go_sem,seval,f51],by simp only[go_sem,seval,f52],by simp only[go_sem,seval],by simp only[go_sem,seval],by simp only[go_sem,seval],_,_,_,_,_,_,_,by rw[List.replicate_zero,List.append_nil]⟩
     rintro k fr M ⟨hk,f8,f11,f14,f17,f40,f41,f51,f52,f18,f56,f57,b0,b1,b2,b3,v,vs,vt,rfl⟩ ih3
     rcases Nat.lt_or_ge k (exN i j) with h4|h4
     ·have q3:((k:Int)<(exN i j:Int))=True:=eq_true (by omega)
      have cx:=zep (k:=4) (f:=fun e=>qc (U e)) (fun _=>rfl) h3
      have cl:(j*4+4≤(cg 3 fun e=>qc (U e)).length)=True:=eq_true (by rw[zcW (k:=4) (fun _=>rfl)];exact ziv h3)
      have st:=zlx U (whQ (c i)) i j k
      have pm:=zqA (tF U (whQ (c i)) (preL i j++List.replicate k (j:Int))) (U j)
      simp(disch:=omega)only[go_sem,seval,wqq,f8,f11,f14,f17,f40,f41,f51,f52,f18,f56,f57,q3,qJ,cx,cl,pm,zn8,zfl,zhU,zli,mG,mG0,sG,sG0,lG,lqq]
      exact ih3 (k+1) _ _ (by omega) ⟨by omega,by simp only[go_sem,seval,f8],by simp only[go_sem,seval,f11],by simp only[go_sem,seval,f14],by simp only[go_sem,seval,f17],by simp only[go_sem,seval,f40],by simp only[go_sem,seval,f41],by simp only[go_sem,seval,f51],by simp only[go_sem,seval,f52],by simp only[go_sem,seval,f18],by simp only[go_sem,seval,f56],by simp only[go_sem,seval,f57];rw[Int.natCast_succ],_,_,_,_,_,_,_,by rw[st]⟩
     ·obtain rfl:k=exN i j:=by omega
      have q3:((exN i j:Int)<(exN i j:Int))=False:=eq_false (Int.lt_irrefl _)
      simp(disch:=omega)only[go_sem,seval,wqq,f8,f11,f14,f17,f40,f41,f51,f52,f18,f56,f57,q3,mG,mG0,sG,sG0,lG,lqq]
      exact ih2 (j+1) _ _ (by omega) ⟨by omega,by simp only[go_sem,seval,f8],by simp only[go_sem,seval,f11],by simp only[go_sem,seval,f14],by simp only[go_sem,seval,f17],by simp only[go_sem,seval,f40],by simp only[go_sem,seval,f41],by simp only[go_sem,seval,f51],by simp only[go_sem,seval,f52];rw[Int.natCast_succ],_,_,_,_,_,_,_,by rw[zhP]⟩
    ·obtain rfl:j=3:=by omega
     rw[zjc i h]
     generalize tF U (whQ (c i)) (facL i)=t at *
     have pa:=zqz (sF c U i) t
     generalize sF c U i=s at *
     simp(disch:=omega)only[go_sem,seval,wqq,f8,f11,f14,f17,f40,f41,f51,f52,z1,z2,z3,z4,z5,pa,zn8,zfl,zhU,mG,mG0,sG,sG0,lG,lqq]
     refine ih (i+1) _ _ (by omega) ⟨by omega,by simp only[go_sem,seval,f8],by simp only[go_sem,seval,f11],by simp only[go_sem,seval,f14],by simp only[go_sem,seval,f40],by simp only[go_sem,seval,f41];rw[Int.natCast_succ],_,_,_,_,_,_,_,_,hs ▸ qzs _,rfl⟩
  ·obtain rfl:i=20:=by omega
   have sp:=zr6 (.b false) .nl (.b false) .nl L z1
   simp(disch:=omega)only[go_sem,seval,wqq,f8,f11,f14,f40,f41,z1,z2,z3,z4,z5,sp,zn8,mG,mG0,sG,sG0,lG,lqq]
end Go.Eng
namespace Go.Eng
theorem zhC {c:Nat→Int} {U:Nat→FQ}:pf E0 409 [aI 20 c,fqP (U 0),fqP (U 1),fqP (U 2)]=some (.tu [fqP (evR c U),.i .i64 (evE c U)]):=by
 by_cases hc:okC c
 ·exact zkT hc
 ·have e1:evE c U=1:=if_neg hc
  have e2:evR c U=fq0:=by unfold evR;rw[e1];rfl
  rw[e1,e2]
  exact zkS hc _ _ _
theorem zmv {f:FQ} {n d:Int} {k:Nat} (h:f.is n d) (hd:d≠0) (hn:tlen n.natAbs≤k) (hl:tlen d.natAbs≤k) (hk:k<1230):fsz k f:=by
 obtain⟨g,g1,g2,g3⟩:=zmz hd hn hl hk
 obtain rfl:f=g:=zkv hd hd h (zhg hd g1 g2) rfl
 exact g3
theorem zhf {f:FQ} {n d k:Int} (hk:k≠0) (h:f.is (n*k) (d*k)):f.is n d:=by
 have h:f.p.v*(d*k)=n*k*f.q.v:=h
 show f.p.v*d=n*f.q.v
 refine Int.eq_of_mul_eq_mul_right hk ?_
 rw[Int.mul_assoc,h]
 grind
theorem zmw {f:FQ} {n:Int} (h:f.is n 1):f.p.v=n∧f.q.v=1:=by
 have h:f.p.v*1=n*f.q.v:=h
 rw[Int.mul_one] at h
 have c:=f.cop
 have q1:=f.q1
 have d:f.q.v.natAbs∣f.p.v.natAbs:=by rw[h,Int.natAbs_mul];exact Nat.dvd_mul_left _ _
 rw[Nat.gcd_eq_right d] at c
 have e:f.q.v=1:=by omega
 rw[e,Int.mul_one] at h
 exact⟨h,e⟩
def pP (U:Nat→FQ):Nat→Int:=fun j=>(U j).p.v
def qQ (U:Nat→FQ):Nat→Int:=fun j=>(U j).q.v
theorem znz {U:Nat→FQ} {n:Nat} (hU:∀j,j<3→fsz n (U j)):∀(l:List Int) (t:FQ) (x d:Int) (m:Nat),(∀a∈l,a=0∨a=1∨a=2)→t.is x d→fsz m t→m+n*l.length<1230 →
  (tF U t l).is (x*prL (pP U) l) (d*prL (qQ U) l)∧fsz (m+n*l.length) (tF U t l)
 | [],t,x,d,m,_,h1,h2,_=>by
  show t.is (x*1) (d*1)∧fsz (m+n*0) t
  rw[Int.mul_one,Int.mul_one]
  exact⟨h1,h2⟩
 | a::l,t,x,d,m,ha,h1,h2,h3=>by
  have ej:a.toNat<3:=by rcases ha a List.mem_cons_self with rfl|rfl|rfl<;>decide
  rw[List.length_cons,Nat.mul_succ] at h3
  obtain⟨i1,i2,_⟩:=zpf t (U a.toNat) h2 (hU _ ej) (by omega) h1 (zku _)
  obtain⟨k1,k2⟩:=znz hU l (mF t (U a.toNat)) _ _ (m+n) (fun b hb=>ha b (List.mem_cons_of_mem _ hb)) i1 i2 (by omega)
  have e:tF U t (a::l)=tF U (mF t (U a.toNat)) l:=rfl
  rw[e]
  refine⟨?_,?_⟩
  ·have e1:x*prL (pP U) (a::l)=x*(U a.toNat).p.v*prL (pP U) l:=by rw[prL,←Int.mul_assoc];rfl
   have e2:d*prL (qQ U) (a::l)=d*(U a.toNat).q.v*prL (qQ U) l:=by rw[prL,←Int.mul_assoc];rfl
   rw[e1,e2];exact k1
  ·rw[List.length_cons,Nat.mul_succ]
   exact⟨Nat.le_trans k2.1 (by omega),Nat.le_trans k2.2 (by omega)⟩
def coV (Q:Nat→Int) (i:Nat):Int:=Q 0^(3-exN i 0)*Q 1^(3-exN i 1)*Q 2^(3-exN i 2)
def dnV (Q:Nat→Int):Int:=Q 0^3*Q 1^3*Q 2^3
theorem zpQ (x:Int) {e:Nat} (h:e≤3):x^e*x^(3-e)=x^3:=by rw[←Int.pow_add];congr 1;omega
theorem zmD (Q:Nat→Int) {i:Nat} (h:i<20):moV Q i*coV Q i=dnV Q:=by
 have h0:=zpQ (Q 0) (zaU i h 0 (by decide)).2
 have h1:=zpQ (Q 1) (zaU i h 1 (by decide)).2
 have h2:=zpQ (Q 2) (zaU i h 2 (by decide)).2
 have e:moV Q i=1*Q 0^exN i 0*Q 1^exN i 1*Q 2^exN i 2:=rfl
 rw[e]
 unfold coV dnV
 rw[←h0,←h1,←h2]
 grind
theorem zaS {x:Int} {n:Nat} (h:tlen x.natAbs≤n):∀k:Nat,tlen (x^k).natAbs≤1+n*k
 | 0=>by rw[Int.pow_zero];have:=zjZ (z:=1) (by decide);omega
 | k+1=>by
  have:=zaS h k
  have m:=zaq (x^k) x
  rw[Int.pow_succ,Nat.mul_succ]
  omega
theorem zmc {U:Nat→FQ}:dnV (qQ U)≠0:=by
 have q:∀j,(qQ U j)≠0:=fun j=>by have:=(U j).q1;show (U j).q.v≠0;omega
 exact Int.mul_ne_zero (Int.mul_ne_zero (Int.pow_ne_zero (q 0)) (Int.pow_ne_zero (q 1))) (Int.pow_ne_zero (q 2))
def evS (c P Q:Nat→Int) (i:Nat):Int:=sumT (fun i=>c i*moV P i*coV Q i) i
theorem zib {c P Q:Nat→Int} {n i:Nat} (hc:okC c) (h:i<20) (hP:∀j,j<3→tlen (P j).natAbs≤n) (hQ:∀j,j<3→tlen (Q j).natAbs≤n):tlen (c i*moV P i*coV Q i).natAbs≤11+9*n:=by
 have ck:Fits64 (c i):=by have:=hc i h;unfold Fits64;omega
 have a0:=zlI ck
 have e:moV P i=1*P 0^exN i 0*P 1^exN i 1*P 2^exN i 2:=rfl
 have d0:=(zaU i h 0 (by decide)).2
 have d1:=(zaU i h 1 (by decide)).2
 have d2:=(zaU i h 2 (by decide)).2
 have p0:=zaS (hP 0 (by decide)) (exN i 0)
 have p1:=zaS (hP 1 (by decide)) (exN i 1)
 have p2:=zaS (hP 2 (by decide)) (exN i 2)
 have q0:=zaS (hQ 0 (by decide)) (3-exN i 0)
 have q1:=zaS (hQ 1 (by decide)) (3-exN i 1)
 have q2:=zaS (hQ 2 (by decide)) (3-exN i 2)
 have s0:n*exN i 0+n*(3-exN i 0)=n*3:=by rw[←Nat.mul_add];congr 1;omega
 have s1:n*exN i 1+n*(3-exN i 1)=n*3:=by rw[←Nat.mul_add];congr 1;omega
 have s2:n*exN i 2+n*(3-exN i 2)=n*3:=by rw[←Nat.mul_add];congr 1;omega
 rw[e,Int.one_mul]
 unfold coV
 generalize exN i 0=x0 at *
 generalize exN i 1=x1 at *
 generalize exN i 2=x2 at *
 have m1:=zaq (P 0^x0) (P 1^x1)
 have m2:=zaq (P 0^x0*P 1^x1) (P 2^x2)
 have m3:=zaq (c i) (P 0^x0*P 1^x1*P 2^x2)
 have m4:=zaq (Q 0^(3-x0)) (Q 1^(3-x1))
 have m5:=zaq (Q 0^(3-x0)*Q 1^(3-x1)) (Q 2^(3-x2))
 have m6:=zaq (c i*(P 0^x0*P 1^x1*P 2^x2)) (Q 0^(3-x0)*Q 1^(3-x1)*Q 2^(3-x2))
 omega
theorem zlp {c:Nat→Int} {U:Nat→FQ} {n:Nat} (hc:okC c) (hn:n≤76) (hU:∀j,j<3→fsz n (U j)):∀i,i≤20→(sF c U i).is (evS c (pP U) (qQ U) i) (dnV (qQ U))∧tlen (evS c (pP U) (qQ U) i).natAbs≤12+9*n+i∧fsz 750 (sF c U i)
 | 0,_=>by
  have z:tlen (0:Int).natAbs=0:=by rw[Int.natAbs_zero,zbO]
  refine⟨?_,?_,?_⟩
  ·show (0:Int)*dnV (qQ U)=0*1
   rw[Int.zero_mul,Int.zero_mul]
  ·show tlen (0:Int).natAbs≤_
   omega
  ·refine⟨?_,?_⟩
   ·show tlen (0:Int).natAbs≤750;omega
   ·show tlen (1:Int).natAbs≤750
    have:=zjZ (z:=1) (by decide);omega
 | i+1,hi=>by
  obtain⟨h1,h2,h3⟩:=zlp hc hn hU i (by omega)
  have es:evS c (pP U) (qQ U) (i+1)=evS c (pP U) (qQ U) i+c i*moV (pP U) i*coV (qQ U) i:=rfl
  have tt:tlen (c i*moV (pP U) i*coV (qQ U) i).natAbs≤11+9*n:=zib (P:=pP U) (Q:=qQ U) (i:=i) (n:=n) hc (by omega) (fun j hj=>(hU j hj).1) (fun j hj=>(hU j hj).2)
  have ta:=zdg (evS c (pP U) (qQ U) i) (c i*moV (pP U) i*coV (qQ U) i)
  have td:tlen (dnV (qQ U)).natAbs≤3+9*n:=by
   have a:=zaS (hU 0 (by decide)).2 3
   have b:=zaS (hU 1 (by decide)).2 3
   have d:=zaS (hU 2 (by decide)).2 3
   have m1:=zaq (qQ U 0^3) (qQ U 1^3)
   have m2:=zaq (qQ U 0^3*qQ U 1^3) (qQ U 2^3)
   unfold dnV
   have a:tlen (qQ U 0^3).natAbs≤1+n*3:=a
   have b:tlen (qQ U 1^3).natAbs≤1+n*3:=b
   have d:tlen (qQ U 2^3).natAbs≤1+n*3:=d
   omega
  by_cases c0:c i=0
  ·have hs:sF c U (i+1)=sF c U i:=if_pos c0
   rw[hs,es,c0,Int.zero_mul,Int.zero_mul,Int.add_zero]
   exact⟨h1,by omega,h3⟩
  ·have hs:sF c U (i+1)=aF (sF c U i) (tF U (whQ (c i)) (facL i)):=if_neg c0
   have ck:Fits64 (c i):=by have:=hc i (by omega);unfold Fits64;omega
   obtain⟨w1,w2⟩:=zij ck
   obtain⟨f1,f2,_⟩:=zg2 i (by omega)
   have nl:n*(facL i).length≤n*3:=Nat.mul_le_mul_left _ f2
   obtain⟨t1,t2⟩:=znz hU (facL i) (whQ (c i)) _ _ 5 f1 w1 w2 (by omega)
   rw[zg1 _ (show i<20 by omega),zg1 _ (show i<20 by omega),Int.one_mul] at t1
   have t2:fsz 233 (tF U (whQ (c i)) (facL i)):=⟨Nat.le_trans t2.1 (by omega),Nat.le_trans t2.2 (by omega)⟩
   obtain⟨a1,_,_⟩:=zoq _ _ h3 t2 (by omega) h1 t1
   have mo:=zmD (qQ U) (show i<20 by omega)
   have mz:moV (qQ U) i≠0:=fun z=>zmc (U:=U) (by rw[←mo,z,Int.zero_mul])
   have a2:(aF (sF c U i) (tF U (whQ (c i)) (facL i))).is (evS c (pP U) (qQ U) (i+1)) (dnV (qQ U)):=by
    refine zhf mz ?_
    rw[es]
    have e:(evS c (pP U) (qQ U) i+c i*moV (pP U) i*coV (qQ U) i)*moV (qQ U) i=evS c (pP U) (qQ U) i*moV (qQ U) i+c i*moV (pP U) i*dnV (qQ U):=by rw[←mo];grind
    rw[e];exact a1
   rw[hs]
   refine⟨a2,by rw[es];omega,zmv a2 zmc (by rw[es];omega) (by omega) (by decide)⟩
end Go.Eng
namespace Go.Eng
def rowM (i:Nat):Nat→Int:=fun e=>mE (i*3+e)
def degN (i:Nat):Nat:=exN i 0+exN i 1+exN i 2
theorem zln {i:Nat} (h:i<20):rowM i 0=(exN i 0:Int)∧rowM i 1=(exN i 1:Int)∧rowM i 2=(exN i 2:Int):=⟨(zaU i h 0 (by decide)).1,(zaU i h 1 (by decide)).1,(zaU i h 2 (by decide)).1⟩
theorem zga {i:Nat} (h:i<20):((cs 60 mE).drop (i*3)).take 3=cs 3 (rowM i):=zdu (n:=60) mE (off:=i*3) (k:=3) (by omega)
theorem zjS {i:Nat} (h:i<20):(3≤((cs 60 mE).drop (i*3)).length)=True:=eq_true (by rw[List.length_drop,zbT];omega)
theorem zll:∀i,i<20→∀d,d<20→((∀e,e<3→rowM i e=rowM d e)↔i=d):=by decide
def dgR (c:Nat→Int):Nat→Int
 | 0 => -1
 | i+1=>if c i=0 then dgR c i else if (degN i:Int)>dgR c i then (degN i:Int) else dgR c i
@[go_sem] theorem zrj (a0 a1 a2:PV) (Y:Nat→Int):psplice [a0,a1,a2] 0 (cs 3 Y)=cs 3 Y:=zdR 3 _ Y rfl
theorem zqp (X Y:Nat→Int):eqaP [1,1,1] (aI 3 X) (aI 3 Y)=some (decide (∀e:Nat,e<3→X e=Y e)):=zjs 3 X Y
set_option maxHeartbeats 4000000 in
theorem zi4 (c:Nat→Int):pf E0 399 [aI 20 c]=some (.i .i64 (dgR c 20)):=by
 refine zab (xf:=zs7) rfl (by simp[zs7]) ?_
 simp only[zs7]
 simp(disch:=omega)only[go_sem,seval,wqq]
 refine zag ztV.eq_1 (fun(i:Nat) fr M=>i≤20∧fr 3=.i .i64 (dgR c i)∧fr 7=aI 20 c∧fr 8=(PV.i .i64 ((i:Nat):Int))) (fun i=>20-i) ?_ 0 ⟨by omega,by simp only[go_sem,seval];rfl,by simp only[go_sem,seval],by simp only[go_sem,seval]⟩
 rintro i fr M ⟨hi,f3,f7,f8⟩ ih
 rcases Nat.lt_or_ge i 20 with h|h
 ·have q1:((i:Int)<20)=True:=eq_true (by omega)
  have qL:(i<20)=True:=eq_true h
  have ix:=zcS c h
  have rw3:=zga h
  have rl:=zjS h
  obtain⟨r0,r1,r2⟩:=zln h
  have e0:=(zaU i h 0 (by decide)).2
  have e1:=(zaU i h 1 (by decide)).2
  have e2:=(zaU i h 2 (by decide)).2
  have sm:(exN i 0:Int)+(exN i 1:Int)+(exN i 2:Int)=(degN i:Int):=by unfold degN;omega
  by_cases c0:c i=0
  ·have hs:dgR c (i+1)=dgR c i:=if_pos c0
   have c0':(c i=0)=True:=eq_true c0
   simp(disch:=omega)only[go_sem,seval,wqq,f3,f7,f8,q1,qL,ix,ziw,rw3,rl,c0',zbm,mG,mG0,sG,sG0,lG,lqq]
   exact ih (i+1) _ _ (by omega) ⟨by omega,by simp only[go_sem,seval,f3,hs],by simp only[go_sem,seval,f7],by simp only[go_sem,seval,f8];rw[Int.natCast_succ]⟩
  ·have hs:dgR c (i+1)=if (degN i:Int)>dgR c i then (degN i:Int) else dgR c i:=if_neg c0
   have c0':(c i=0)=False:=eq_false c0
   simp(disch:=omega)only[go_sem,seval,wqq,f3,f7,f8,q1,qL,ix,ziw,rw3,rl,c0',zbm,r0,r1,r2,sm,mG,mG0,sG,sG0,lG,lqq]
   exact ih (i+1) _ _ (by omega) ⟨by omega,by simp only[go_sem,seval,f3,hs],by simp only[go_sem,seval,f7],by simp only[go_sem,seval,f8];rw[Int.natCast_succ]⟩
 ·obtain rfl:i=20:=by omega
  simp(disch:=omega)only[go_sem,seval,wqq,f3,f7,f8]
theorem zk1 {d:Nat} (hd:d<20):pf E0 421 [aI 3 (rowM d)]=some ((PV.i .i64 ((d:Nat):Int))):=by
 refine zab (xf:=zte) rfl (by simp[zte]) ?_
 simp only[zte]
 simp(disch:=omega)only[go_sem,seval,wqq]
 refine zag ztZ.eq_1 (fun(i:Nat) fr M=>i≤d∧fr 1=.p 0 0∧fr 4=(PV.i .i64 ((i:Nat):Int))∧M=[some ⟨cs 3 (rowM d),true,0⟩]) (fun i=>20-i) ?_ 0 ⟨by omega,by simp only[go_sem,seval],by simp only[go_sem,seval],rfl⟩
 rintro i fr M ⟨hi,f1,f4,rfl⟩ ih
 have h:i<20:=by omega
 have q1:((i:Int)<20)=True:=eq_true (by omega)
 have qL:(i<20)=True:=eq_true h
 have rw3:=zga h
 have rl:=zjS h
 have re:=zll i h d hd
 by_cases hid:i=d
 ·subst hid
  have eq:eqaP [1,1,1] (aI 3 (rowM i)) (aI 3 (rowM i))=some true:=by rw[zqp];simp
  simp(disch:=omega)only[go_sem,seval,wqq,f1,f4,q1,qL,ziw,rw3,rl,eq,mG,mG0,sG,sG0,lG,lqq]
 ·have eq:eqaP [1,1,1] (aI 3 (rowM i)) (aI 3 (rowM d))=some false:=by rw[zqp,decide_eq_false fun q=>hid (re.1 q)]
  simp(disch:=omega)only[go_sem,seval,wqq,f1,f4,q1,qL,ziw,rw3,rl,eq,mG,mG0,sG,sG0,lG,lqq]
  exact ih (i+1) _ _ (by omega) ⟨by omega,by simp only[go_sem,seval,f1],by simp only[go_sem,seval,f4];rw[Int.natCast_succ],rfl⟩
end Go.Eng
namespace Go.Eng
def dnN (i j:Nat):Nat:=((List.range 20).find? fun d=>decide (∀e:Nat,e<3→rowM d e=upd (rowM i) j (rowM i j-1) e)).getD 0
theorem zmb:∀i,i<20→∀j,j<3→exN i j≠0→dnN i j<20∧∀e,e<3→upd (rowM i) j (rowM i j-1) e=rowM (dnN i j) e:=by decide
def grJ (c:Nat→Int) (i:Nat) (g:Nat→Int):Nat→Nat→Int
 | 0=>g
 | j+1=>if exN i j=0 then grJ c i g j else upd (grJ c i g j) (j*20+dnN i j) (exN i j*c i)
def grI (c:Nat→Int):Nat→Nat→Int
 | 0=>zF
 | i+1=>grJ c i (grI c i) 3
def gRow (g:Nat→Int) (f:Nat):Nat→Int:=fun e=>g (f*20+e)
open Classical in
noncomputable def grE (c:Nat→Int):Int:=if okC c then (if ∀f,f<3→okC (gRow (grI c 20) f) then 0 else 5) else 1
noncomputable def grV (c:Nat→Int):Nat→Int:=if grE c=0 then grI c 20 else zF
theorem z60:[PV.i .i64 0,PV.i .i64 0,PV.i .i64 0,PV.i .i64 0,PV.i .i64 0,PV.i .i64 0,PV.i .i64 0,PV.i .i64 0,PV.i .i64 0,PV.i .i64 0,PV.i .i64 0,PV.i .i64 0,PV.i .i64 0,PV.i .i64 0,PV.i .i64 0,PV.i .i64 0,PV.i .i64 0,PV.i .i64 0,PV.i .i64 0,PV.i .i64 0,PV.i .i64 0,PV.i .i64 0,PV.i .i64 0,PV.i .i64 0,PV.i .i64 0,PV.i .i64 0,PV.i .i64 0,PV.i .i64 0,PV.i .i64 0,PV.i .i64 0,PV.i .i64 0,PV.i .i64 0,PV.i .i64 0,PV.i .i64 0,PV.i .i64 0,PV.i .i64 0,PV.i .i64 0,PV.i .i64 0,PV.i .i64 0,PV.i .i64 0,PV.i .i64 0,PV.i .i64 0,PV.i .i64 0,PV.i .i64 0,PV.i .i64 0,PV.i .i64 0,PV.i .i64 0,PV.i .i64 0,PV.i .i64 0,PV.i .i64 0,PV.i .i64 0,PV.i .i64 0,PV.i .i64 0,PV.i .i64 0,PV.i .i64 0,PV.i .i64 0,PV.i .i64 0,PV.i .i64 0,PV.i .i64 0,PV.i .i64 0]=cs 60 zF:=rfl
theorem zrd (g:Nat→Int) {f:Nat} (h:f<3):iagP 3 true 20 (aI 60 g) (some f)=some (aI 20 (gRow g f)):=by
 unfold aI
 rw[zc4,if_pos ⟨h,by rw[zbT]⟩,zdu g (by omega)];rfl
theorem zkU {c:Nat→Int} (h:¬okC c):pf E0 407 [aI 20 c]=some (.tu [aI 60 zF,.i .i64 1]):=by
 have va:=zav c
 have:vlC c=1:=if_neg h
 rw[this] at va
 refine zab (xf:=zsJ) rfl (by simp[zsJ]) ?_
 simp only[zsJ]
 simp(disch:=omega)only[go_sem,seval,wqq,va,z60]
set_option maxHeartbeats 8000000 in
theorem zkV {c:Nat→Int} (hc:okC c):pf E0 407 [aI 20 c]=some (.tu [aI 60 (grV c),.i .i64 (grE c)]):=by
 have va:=zav c
 have:vlC c=0:=if_pos hc
 rw[this] at va
 refine zab (xf:=zsJ) rfl (by simp[zsJ]) ?_
 simp only[zsJ]
 simp(disch:=omega)only[go_sem,seval,wqq,va,z60,ziw]
 refine zag zua.eq_1 (fun(i:Nat) fr M=>i≤20∧fr 1=.p 0 0∧fr 2=.p 1 0∧fr 5=.p 2 0∧fr 19=aI 60 mE∧fr 20=(PV.i .i64 ((i:Nat):Int))∧∃v G,M=some ⟨cs 20 c,true,0⟩::some ⟨cs 60 zF,true,0⟩::some ⟨cs 60 (grI c i),true,v⟩::G) (fun i=>20-i) ?_ 0 ⟨by omega,by simp only[go_sem,seval],by simp only[go_sem,seval],by simp only[go_sem,seval],by simp only[go_sem,seval],by simp only[go_sem,seval],_,[],rfl⟩
 rintro i fr M ⟨hi,f1,f2,f5,f19,f20,v,G,rfl⟩ ih
 rcases Nat.lt_or_ge i 20 with h|h
 ·have q1:((i:Int)<20)=True:=eq_true (by omega)
  have qL:(i<20)=True:=eq_true h
  have ia:iagP 20 true 3 (aI 60 mE) (some i)=some (aI 3 (rowM i)):=by
   unfold aI
   rw[zc4,if_pos ⟨h,by rw[zbT]⟩,zga h];rfl
  simp(disch:=omega)only[go_sem,seval,wqq,f1,f2,f5,f19,f20,q1,qL,ia,mG,mG0,sG,sG0,lG,lqq]
  refine zag zt7.eq_1 (fun(j:Nat) fr M=>j≤3∧fr 1=.p 0 0∧fr 2=.p 1 0∧fr 5=.p 2 0∧fr 6=(PV.i .i64 ((i:Nat):Int))∧fr 7=.p (G.length+3) 0∧fr 19=aI 60 mE∧fr 20=(PV.i .i64 ((i:Nat):Int))∧fr 24=aI 3 (rowM i)∧fr 25=(PV.i .i64 ((j:Nat):Int))∧∃v vr H,M=some ⟨cs 20 c,true,0⟩::some ⟨cs 60 zF,true,0⟩::some ⟨cs 60 (grJ c i (grI c i) j),true,v⟩::(G++some ⟨cs 3 (rowM i),true,vr⟩::H)) (fun j=>3-j) ?_ 0 ⟨by omega,by simp only[go_sem,seval,f1],by simp only[go_sem,seval,f2],by simp only[go_sem,seval,f5],by simp only[go_sem,seval],by simp only[go_sem,seval],by simp only[go_sem,seval,f19],by simp only[go_sem,seval,f20],by simp only[go_sem,seval],by simp only[go_sem,seval],_,_,[],rfl⟩
  rintro j fr M ⟨hj,f1,f2,f5,f6,f7,f19,f20,f24,f25,v,vr,H,rfl⟩ ih2
  rcases Nat.lt_or_ge j 3 with h3|h3
  ·have q2:((j:Int)<3)=True:=eq_true (by omega)
   have qJ:(j<3)=True:=eq_true h3
   have iy:=zcS (rowM i) h3
   obtain⟨e1,e2⟩:=zaU i h j h3
   have e1:rowM i j=(exN i j:Int):=e1
   rw[e1] at iy
   by_cases z:exN i j=0
   ·have zz:((exN i j:Int)=0)=True:=eq_true (by omega)
    have hs:grJ c i (grI c i) (j+1)=grJ c i (grI c i) j:=if_pos z
    simp(disch:=omega)only[go_sem,seval,wqq,f1,f2,f5,f6,f7,f19,f20,f24,f25,q2,qJ,iy,zz,mG,mG0,sG,sG0,lG,lqq]
    exact ih2 (j+1) _ _ (by omega) ⟨by omega,by simp only[go_sem,seval,f1],by simp only[go_sem,seval,f2],by simp only[go_sem,seval,f5],by simp only[go_sem,seval,f6],by simp only[go_sem,seval,f7],by simp only[go_sem,seval,f19],by simp only[go_sem,seval,f20],by simp only[go_sem,seval,f24],by simp only[go_sem,seval,f25];rw[Int.natCast_succ],_,_,_,by rw[hs]⟩
   ·have zz:((exN i j:Int)=0)=False:=eq_false (by omega)
    have hs:grJ c i (grI c i) (j+1)=upd (grJ c i (grI c i) j) (j*20+dnN i j) (exN i j*c i):=if_neg z
    obtain⟨d1,d2⟩:=zmb i h j h3 z
    rw[e1] at d2
    have dd:cs 3 (upd (rowM i) j ((exN i j:Int)-1))=cs 3 (rowM (dnN i j)):=zfv d2
    have dx:=zk1 d1
    have cg1:=zbm (n:=20) c h
    have cj:=zbm (n:=3) (rowM i) h3
    rw[e1] at cj
    have qD:(dnN i j<20)=True:=eq_true d1
    have qS:(j*20+dnN i j<60)=True:=eq_true (by omega)
    have bc:=hc i h
    have be : -3221225472≤(exN i j:Int)*c i∧(exN i j:Int)*c i≤3221225472:=by
     obtain q|q|q:exN i j=1∨exN i j=2∨exN i j=3:=by omega
     all_goals (rw[q];omega)
    simp(disch:=omega)only[go_sem,seval,wqq,f1,f2,f5,f6,f7,f19,f20,f24,f25,q2,qJ,iy,zz,cj,dd,mG,mG0,sG,sG0,lG,lqq]
    refine zaT [42] rfl ?_ ?_
    ·simp(disch:=omega)only[go_sem,seval,wqq,f1,f2,f5,f6,f7,f19,f20,f24,f25,q2,qJ,qL,qD,qS,iy,zz,cj,dd,dx,cg1,mG,mG0,sG,sG0,lG,lqq]
     exact⟨_,rfl,rfl⟩
    simp(disch:=omega)only[go_sem,seval,wqq,f1,f2,f5,f6,f7,f19,f20,f24,f25,q2,qJ,qL,qD,qS,iy,zz,cj,dd,dx,cg1,mG,mG0,sG,sG0,lG,lqq]
    exact ih2 (j+1) _ _ (by omega) ⟨by omega,by simp only[go_sem,seval,f1],by simp only[go_sem,seval,f2],by simp only[go_sem,seval,f5],by simp only[go_sem,seval,f6],by simp only[go_sem,seval,f7],by simp only[go_sem,seval,f19],by simp only[go_sem,seval,f20],by simp only[go_sem,seval,f24],by simp only[go_sem,seval,f25];rw[Int.natCast_succ],_,_,_,by rw[hs]⟩
  ·obtain rfl:j=3:=by omega
   simp(disch:=omega)only[go_sem,seval,wqq,f1,f2,f5,f6,f7,f19,f20,f24,f25,mG,mG0,sG,sG0,lG,lqq]
   exact ih (i+1) _ _ (by omega) ⟨by omega,by simp only[go_sem,seval,f1],by simp only[go_sem,seval,f2],by simp only[go_sem,seval,f5],by simp only[go_sem,seval,f19],by simp only[go_sem,seval,f20];rw[Int.natCast_succ],_,_,rfl⟩
 ·obtain rfl:i=20:=by omega
  clear ih
  simp(disch:=omega)only[go_sem,seval,wqq,f1,f2,f5,f19,f20,mG,mG0,sG,sG0,lG,lqq]
  by_cases hg:∀f,f<3→okC (gRow (grI c 20) f)
  ·have e1:grE c=0:=by unfold grE;rw[if_pos hc,if_pos hg]
   have e2:grV c=grI c 20:=by unfold grV;rw[e1];rfl
   rw[e1,e2]
   refine zag ztK.eq_1 (fun(f:Nat) fr M=>f≤3∧fr 2=.p 1 0∧fr 5=.p 2 0∧fr 49=aI 60 (grI c 20)∧fr 50=(PV.i .i64 ((f:Nat):Int))∧∃b0 v G,M=b0::some ⟨cs 60 zF,true,0⟩::some ⟨cs 60 (grI c 20),true,v⟩::G) (fun f=>3-f) ?_ 0 ⟨by omega,by simp only[go_sem,seval,f2],by simp only[go_sem,seval,f5],by simp only[go_sem,seval],by simp only[go_sem,seval],_,_,_,rfl⟩
   clear f1 f2 f5 f19 f20
   rintro f fr M ⟨hf,f2,f5,f49,f50,b0,v,G,rfl⟩ ih
   rcases Nat.lt_or_ge f 3 with h3|h3
   ·have q1:((f:Int)<3)=True:=eq_true (by omega)
    have ia:=zrd (grI c 20) h3
    have vb:=zav (gRow (grI c 20) f)
    have:vlC (gRow (grI c 20) f)=0:=if_pos (hg f h3)
    rw[this] at vb
    simp(disch:=omega)only[go_sem,seval,wqq,f2,f5,f49,f50,q1,ia,vb,mG,mG0,sG,sG0,lG,lqq]
    exact ih (f+1) _ _ (by omega) ⟨by omega,by simp only[go_sem,seval,f2],by simp only[go_sem,seval,f5],by simp only[go_sem,seval,f49],by simp only[go_sem,seval,f50];rw[Int.natCast_succ],_,_,_,rfl⟩
   ·obtain rfl:f=3:=by omega
    simp(disch:=omega)only[go_sem,seval,wqq,f2,f5,f49,f50,mG,mG0,sG,sG0,lG,lqq]
  ·have e1:grE c=5:=by unfold grE;rw[if_pos hc,if_neg hg]
   have e2:grV c=zF:=by unfold grV;rw[e1];rfl
   rw[e1,e2]
   refine zag ztK.eq_1 (fun(f:Nat) fr M=>f≤3∧(∀e,e<f→okC (gRow (grI c 20) e))∧fr 2=.p 1 0∧fr 5=.p 2 0∧fr 49=aI 60 (grI c 20)∧fr 50=(PV.i .i64 ((f:Nat):Int))∧∃b0 v G,M=b0::some ⟨cs 60 zF,true,0⟩::some ⟨cs 60 (grI c 20),true,v⟩::G) (fun f=>3-f) ?_ 0 ⟨by omega,fun e he=>by omega,by simp only[go_sem,seval,f2],by simp only[go_sem,seval,f5],by simp only[go_sem,seval],by simp only[go_sem,seval],_,_,_,rfl⟩
   clear f1 f2 f5 f19 f20
   rintro f fr M ⟨hf,hlo,f2,f5,f49,f50,b0,v,G,rfl⟩ ih
   have h3:f<3:=by
    rcases Nat.lt_or_ge f 3 with z|z
    ·exact z
    ·obtain rfl:f=3:=by omega
     exact absurd hlo hg
   have q1:((f:Int)<3)=True:=eq_true (by omega)
   have ia:=zrd (grI c 20) h3
   have vb:=zav (gRow (grI c 20) f)
   by_cases ok:okC (gRow (grI c 20) f)
   ·have:vlC (gRow (grI c 20) f)=0:=if_pos ok
    rw[this] at vb
    simp(disch:=omega)only[go_sem,seval,wqq,f2,f5,f49,f50,q1,ia,vb,mG,mG0,sG,sG0,lG,lqq]
    refine ih (f+1) _ _ (by omega) ⟨by omega,fun e he=>?_,by simp only[go_sem,seval,f2],by simp only[go_sem,seval,f5],by simp only[go_sem,seval,f49],by simp only[go_sem,seval,f50];rw[Int.natCast_succ],_,_,_,rfl⟩
    rcases Nat.lt_or_ge e f with z|z
    ·exact hlo e z
    ·obtain rfl:e=f:=by omega
     exact ok
   ·have:vlC (gRow (grI c 20) f)=1:=if_neg ok
    rw[this] at vb
    simp(disch:=omega)only[go_sem,seval,wqq,f2,f5,f49,f50,q1,ia,vb,z60,mG,mG0,sG,sG0,lG,lqq]
theorem zm2 (c:Nat→Int):pf E0 407 [aI 20 c]=some (.tu [aI 60 (grV c),.i .i64 (grE c)]):=by
 by_cases hc:okC c
 ·exact zkV hc
 ·have e1:grE c=1:=if_neg hc
  have e2:grV c=zF:=by unfold grV;rw[e1];rfl
  rw[e1,e2]
  exact zkU hc
end Go.Eng
namespace Go.Eng
def chE:Nat→Int:=fun e=>chooI.getD e 0
theorem zrM:cst E0.glob (.p 2 0)=.fp (cs 16 chE):=rfl
def chV (i k j:Nat):Int:=chE (exN i j*4+exN k j)
theorem zl4:∀i,i<20→∀k,k<20→∀j,j<3→0≤chV i k j∧chV i k j≤3:=by decide
def leQ (i k:Nat):Prop:=exN k 0≤exN i 0∧exN k 1≤exN i 1∧exN k 2≤exN i 2
instance (i k:Nat):Decidable (leQ i k):=by unfold leQ;infer_instance
def shP (Y:Nat→Int) (i k:Nat):Nat→Int
 | 0=>1
 | j+1=>shP Y i k j*(chV i k j*Y j^(exN i j-exN k j))
def shT (c Y:Nat→Int) (k i:Nat):Int:=if leQ i k then c i*shP Y i k 3 else 0
def shS (c Y:Nat→Int) (i k:Nat):Int:=sumT (shT c Y k) i
open Classical in
noncomputable def shE' (c S:Nat→Int):Int:=if okC c then (if okC S then 0 else 5) else 1
open Classical in
noncomputable def shE (c Y:Nat→Int):Int:=if okC c then (if okC (shS c Y 20) then 0 else 5) else 1
noncomputable def shV (c Y:Nat→Int):Nat→Int:=if shE c Y=0 then shS c Y 20 else zF
theorem z20:[PV.i .i64 0,PV.i .i64 0,PV.i .i64 0,PV.i .i64 0,PV.i .i64 0,PV.i .i64 0,PV.i .i64 0,PV.i .i64 0,PV.i .i64 0,PV.i .i64 0,PV.i .i64 0,PV.i .i64 0,PV.i .i64 0,PV.i .i64 0,PV.i .i64 0,PV.i .i64 0,PV.i .i64 0,PV.i .i64 0,PV.i .i64 0,PV.i .i64 0]=cs 20 zF:=rfl
theorem z40:[PV.b false,.nl,PV.b false,.nl,PV.b false,.nl,PV.b false,.nl,PV.b false,.nl,PV.b false,.nl,PV.b false,.nl,PV.b false,.nl,PV.b false,.nl,PV.b false,.nl,PV.b false,.nl,PV.b false,.nl,PV.b false,.nl,PV.b false,.nl,PV.b false,.nl,PV.b false,.nl,PV.b false,.nl,PV.b false,.nl,PV.b false,.nl,PV.b false,.nl]=cg 20 (fun _=>[PV.b false,.nl]):=rfl
theorem zgE {n:Int} (h:Fits64 n):small n=n∧isSmall n=true:=by
 have:isSmall n=true:=decide_eq_true h
 unfold small
 rw[if_pos this]
 exact⟨rfl,this⟩
theorem zi6 {c:Nat→Int} (h:¬okC c) (x y z:Int):pf E0 396 [aI 20 c,.i .i64 x,.i .i64 y,.i .i64 z]=some (.tu [aI 20 zF,.i .i64 1]):=by
 have va:=zav c
 have:vlC c=1:=if_neg h
 rw[this] at va
 refine zab (xf:=zsF) rfl (by simp[zsF]) ?_
 simp only[zsF]
 simp(disch:=omega)only[go_sem,seval,wqq,va,z20]
set_option maxHeartbeats 8000000 in
theorem zi7 {c:Nat→Int} (hc:okC c) {x y z:Int} (hx:Fits64 x) (hy:Fits64 y) (hz:Fits64 z) {Y:Nat→Int} (hY:Y=s3 (-x) (-y) (-z)):pf E0 396 [aI 20 c,.i .i64 x,.i .i64 y,.i .i64 z]=some (.tu [aI 20 (shV c Y),.i .i64 (shE c Y)]):=by
 have va:=zav c
 have:vlC c=0:=if_pos hc
 rw[this] at va
 have x1:=zbg hx
 have x2:=zbg hy
 have x3:=zbg hz
 obtain⟨X,hX⟩:∃X:Nat→WI,X=s3 (wiOf x hx).neg (wiOf y hy).neg (wiOf z hz).neg:=⟨_,rfl⟩
 have Xv:∀j,(X j).v=Y j:=fun j=>by
  rw[hX,hY];unfold s3;split
  ·rfl
  ·split<;>rfl
 have Xl:∀j,wlen (X j).v.natAbs≤2:=fun j=>by
  rw[Xv,hY];unfold s3;split
  ·rw[Int.natAbs_neg];exact zcn hx
  ·split
   ·rw[Int.natAbs_neg];exact zcn hy
   ·rw[Int.natAbs_neg];exact zcn hz
 refine zab (xf:=zsF) rfl (by simp[zsF]) ?_
 simp only[zsF]
 have zA:(cg 20 fun _=>[PV.b false,.nl]).all PV.scal=true:=rfl
 simp(disch:=omega)only[go_sem,seval,wqq,va,x1,x2,x3,z20,z40,zA,ziw,zay,zah]
 refine zag zt4.eq_1 (fun(i:Nat) fr M=>i≤20∧fr 4=.p 0 0∧fr 8=.p 1 0∧fr 11=.p 2 0∧fr 12=.p 3 0∧fr 40=aI 60 mE∧fr 41=(PV.i .i64 ((i:Nat):Int))∧∃vx vs G L,∃w:Nat→WI,(∀e,WZ (L e) (w e))∧(∀e,e<20→(w e).v=shS c Y i e∧wlen (w e).v.natAbs≤40+i)∧M=some ⟨cs 20 c,true,0⟩::some ⟨cs 20 zF,true,0⟩::some ⟨cw 3 X,true,vx⟩::some ⟨cg 20 L,true,vs⟩::G) (fun i=>20-i) ?_ 0 ⟨by omega,by simp only[go_sem,seval],by simp only[go_sem,seval],by simp only[go_sem,seval],by simp only[go_sem,seval],by simp only[go_sem,seval],by simp only[go_sem,seval],_,_,[],_,fun _=>wi0,fun _=>wz0,fun e _=>⟨rfl,by show wlen (0:Int).natAbs≤40+0;decide⟩,by rw[hX];rfl⟩
 rintro i fr M ⟨hi,f4,f8,f11,f12,f40,f41,vx,vs,G,L,w,wz,wv,rfl⟩ ih
 have rowI:∀{k:Nat},k<20→iagP 20 true 3 (aI 60 mE) (some k)=some (aI 3 (rowM k)):=fun {k} h=>by
  unfold aI
  rw[zc4,if_pos ⟨h,by rw[zbT]⟩,zga h];rfl
 rcases Nat.lt_or_ge i 20 with h|h
 ·have q1:((i:Int)<20)=True:=eq_true (by omega)
  have qL:(i<20)=True:=eq_true h
  have ia:=rowI h
  have ck:Fits64 (c i):=by have:=hc i h;unfold Fits64;omega
  have k1:=zbg ck
  have cg1:=zbm (n:=20) c h
  obtain⟨r0,r1,r2⟩:=zln h
  simp(disch:=omega)only[go_sem,seval,wqq,f4,f8,f11,f12,f40,f41,q1,qL,ia,ziw,mG,mG0,sG,sG0,lG,lqq]
  refine zag ztY.eq_1 (fun(k:Nat) fr M=>k≤20∧fr 4=.p 0 0∧fr 8=.p 1 0∧fr 11=.p 2 0∧fr 12=.p 3 0∧fr 13=(PV.i .i64 ((i:Nat):Int))∧fr 14=.p (G.length+4) 0∧fr 40=aI 60 mE∧fr 41=(PV.i .i64 ((i:Nat):Int))∧fr 45=aI 60 mE∧fr 46=(PV.i .i64 ((k:Nat):Int))∧∃vx vs vr H L,∃w:Nat→WI,(∀e,WZ (L e) (w e))∧(∀e,e<20→(w e).v=(if e<k then shS c Y (i+1) e else shS c Y i e)∧wlen (w e).v.natAbs≤(if e<k then 41+i else 40+i))∧M=some ⟨cs 20 c,true,0⟩::some ⟨cs 20 zF,true,0⟩::some ⟨cw 3 X,true,vx⟩::some ⟨cg 20 L,true,vs⟩::(G++some ⟨cs 3 (rowM i),true,vr⟩::H)) (fun k=>20-k) ?_ 0 ⟨by omega,by simp only[go_sem,seval,f4],by simp only[go_sem,seval,f8],by simp only[go_sem,seval,f11],by simp only[go_sem,seval,f12],by simp only[go_sem,seval],by simp only[go_sem,seval],by simp only[go_sem,seval,f40],by simp only[go_sem,seval,f41],by simp only[go_sem,seval],by simp only[go_sem,seval],_,_,_,[],_,w,wz,fun e he=>by obtain⟨a,b⟩:=wv e he;exact⟨by rw[a,if_neg (by omega)],by rw[if_neg (by omega)];exact b⟩,rfl⟩
  clear f4 f8 f11 f12 f40 f41 wv wz
  rintro k fr M ⟨hk,f4,f8,f11,f12,f13,f14,f40,f41,f45,f46,vx,vs,vr,H,L,w,wz,wv,rfl⟩ ih2
  rcases Nat.lt_or_ge k 20 with h2|h2
  ·have q2:((k:Int)<20)=True:=eq_true (by omega)
   have qK:(k<20)=True:=eq_true h2
   have ib:=rowI h2
   obtain⟨s0,s1,s2⟩:=zln h2
   have ss:shS c Y (i+1) k=shS c Y i k+shT c Y k i:=rfl
   by_cases lq:leQ i k
   ·have lq':=lq
    obtain⟨l0,l1,l2⟩:=lq
    have g0:((exN i 0:Int)<(exN k 0:Int))=False:=eq_false (by omega)
    have g1:((exN i 1:Int)<(exN k 1:Int))=False:=eq_false (by omega)
    have g2:((exN i 2:Int)<(exN k 2:Int))=False:=eq_false (by omega)
    simp(disch:=omega)only[go_sem,seval,wqq,f4,f8,f11,f12,f13,f14,f40,f41,f45,f46,q2,qK,qL,ib,zbm,r0,r1,r2,s0,s1,s2,g0,g1,g2,cg1,k1,mG,mG0,sG,sG0,lG,lqq]
    refine zag zt2.eq_1 (fun(j:Nat) fr M=>j≤3∧fr 4=.p 0 0∧fr 8=.p 1 0∧fr 11=.p 2 0∧fr 12=.p 3 0∧fr 13=(PV.i .i64 ((i:Nat):Int))∧fr 14=.p (G.length+4) 0∧fr 15=(PV.i .i64 ((k:Nat):Int))∧fr 16=.p (G.length+(H.length+1)+4) 0∧fr 17=.p (G.length+(H.length+1+1)+4) 0∧fr 40=aI 60 mE∧fr 41=(PV.i .i64 ((i:Nat):Int))∧fr 45=aI 60 mE∧fr 46=(PV.i .i64 ((k:Nat):Int))∧fr 73=(PV.i .i64 ((j:Nat):Int))∧∃vx vs vr vk vt,∃t:WI,t.v=c i*shP Y i k j∧wlen t.v.natAbs≤2+8*j∧M=some ⟨cs 20 c,true,0⟩::some ⟨cs 20 zF,true,0⟩::some ⟨cw 3 X,true,vx⟩::some ⟨cg 20 L,true,vs⟩::(G++some ⟨cs 3 (rowM i),true,vr⟩::(H++[some ⟨cs 3 (rowM k),true,vk⟩,some ⟨wc t,true,vt⟩]))) (fun j=>3-j) ?_ 0 ⟨by omega,by simp only[go_sem,seval,f4],by simp only[go_sem,seval,f8],by simp only[go_sem,seval,f11],by simp only[go_sem,seval,f12],by simp only[go_sem,seval,f13],by simp only[go_sem,seval,f14],by simp only[go_sem,seval],by simp only[go_sem,seval],by simp only[go_sem,seval],by simp only[go_sem,seval,f40],by simp only[go_sem,seval,f41],by simp only[go_sem,seval,f45],by simp only[go_sem,seval,f46],by simp only[go_sem,seval],_,_,_,_,_,wiOf (c i) ck,(Int.mul_one _).symm,zcn ck,rfl⟩
    clear f4 f8 f11 f12 f13 f14 f40 f41 f45 f46
    rintro j fr M ⟨hj,f4,f8,f11,f12,f13,f14,f15,f16,f17,f40,f41,f45,f46,f73,vx,vs,vr,vk,vt,t,tv,tl,rfl⟩ ih3
    rcases Nat.lt_or_ge j 3 with h3|h3
    ·have q3:((j:Int)<3)=True:=eq_true (by omega)
     have qJ:(j<3)=True:=eq_true h3
     obtain⟨e1,e2⟩:=zaU i h j h3
     obtain⟨d1,d2⟩:=zaU k h2 j h3
     have e1:rowM i j=(exN i j:Int):=e1
     have d1:rowM k j=(exN k j:Int):=d1
     have de:exN k j≤exN i j:=by
      obtain rfl|rfl|rfl:=zh9 h3
      ·exact l0
      ·exact l1
      ·exact l2
     have xi:=zbm (n:=3) (rowM i) h3
     have xk:=zbm (n:=3) (rowM k) h3
     rw[e1] at xi
     rw[d1] at xk
     have q4:(exN i j<4)=True:=eq_true (by omega)
     have q5:(exN k j<4)=True:=eq_true (by omega)
     have cb:=zl4 i h k h2 j h3
     have cf:Fits64 (chV i k j):=by unfold Fits64;omega
     have cc:(List.drop (exN k j) (List.drop (exN i j*4) (cs 16 chE)))[0]?=some (.i .i64 (chV i k j)):=by
      rw[List.drop_drop,List.getElem?_drop,Nat.add_zero,zbm _ (by omega)];rfl
     have kc:=zbg cf
     have pm:=zfe t (wiOf (chV i k j) cf)
     have lc:wlen (wiOf (chV i k j) cf).v.natAbs≤2:=zcn cf
     obtain⟨m1,m2⟩:=zkC tl lc (by omega)
     have sb:(exN i j:Int)-(exN k j:Int)=((exN i j-exN k j:Nat):Int):=by omega
     simp(disch:=omega)only[go_sem,seval,wqq,f4,f8,f11,f12,f13,f14,f15,f16,f17,f40,f41,f45,f46,f73,q3,mG,mG0,sG,sG0,lG,lqq]
     refine zaQ [17] rfl (by simp only[go_sem,seval,f17]) ?_
     simp(disch:=omega)only[go_sem,seval,wqq,f4,f8,f11,f12,f13,f14,f15,f16,f17,f40,f41,f45,f46,f73,q3,qJ,xi,xk,q4,q5,cc,zrM,kc,pm,sb,zii,zdi,zdh,zfo,mG,mG0,sG,sG0,lG,lqq]
     refine zag zt1.eq_1 (fun(n:Nat) fr M=>n≤exN i j-exN k j∧fr 4=.p 0 0∧fr 8=.p 1 0∧fr 11=.p 2 0∧fr 12=.p 3 0∧fr 13=(PV.i .i64 ((i:Nat):Int))∧fr 14=.p (G.length+4) 0∧fr 15=(PV.i .i64 ((k:Nat):Int))∧fr 16=.p (G.length+(H.length+1)+4) 0∧fr 17=.p (G.length+(H.length+1+1)+4) 0∧fr 40=aI 60 mE∧fr 41=(PV.i .i64 ((i:Nat):Int))∧fr 45=aI 60 mE∧fr 46=(PV.i .i64 ((k:Nat):Int))∧fr 73=(PV.i .i64 ((j:Nat):Int))∧fr 18=(PV.i .i64 ((j:Nat):Int))∧fr 97=(PV.i .i64 ((exN i j-exN k j:Nat):Int))∧fr 98=(PV.i .i64 ((n:Nat):Int))∧∃vx vs vr vk vt,∃t:WI,t.v=c i*(shP Y i k j*(chV i k j*Y j^n))∧wlen t.v.natAbs≤4+8*j+2*n∧M=some ⟨cs 20 c,true,0⟩::some ⟨cs 20 zF,true,0⟩::some ⟨cw 3 X,true,vx⟩::some ⟨cg 20 L,true,vs⟩::(G++some ⟨cs 3 (rowM i),true,vr⟩::(H++[some ⟨cs 3 (rowM k),true,vk⟩,some ⟨wc t,true,vt⟩]))) (fun n=>exN i j-exN k j-n) ?_ 0 ⟨by omega,by simp only[go_sem,seval,f4],by simp only[go_sem,seval,f8],by simp only[go_sem,seval,f11],by simp only[go_sem,seval,f12],by simp only[go_sem,seval,f13],by simp only[go_sem,seval,f14],by simp only[go_sem,seval,f15],by simp only[go_sem,seval,f16],by simp only[go_sem,seval,f17],by simp only[go_sem,seval,f40],by simp only[go_sem,seval,f41],by simp only[go_sem,seval,f45],by simp only[go_sem,seval,f46],by simp only[go_sem,seval,f73],by simp only[go_sem,seval],by simp only[go_sem,seval],by simp only[go_sem,seval],_,_,_,_,_,clip (t.v*(wiOf (chV i k j) cf).v),by rw[m1,tv,Int.pow_zero,Int.mul_one,Int.mul_assoc];rfl,by rw[m1];omega,rfl⟩
     clear f4 f8 f11 f12 f13 f14 f15 f16 f17 f40 f41 f45 f46 f73 pm m1 m2 tl tv
     rintro n fr M ⟨hn,f4,f8,f11,f12,f13,f14,f15,f16,f17,f40,f41,f45,f46,f73,f18,f97,f98,vx,vs,vr,vk,vt,t,tv,tl,rfl⟩ ih4
     rcases Nat.lt_or_ge n (exN i j-exN k j) with h4|h4
     ·have q6:((n:Int)<((exN i j-exN k j:Nat):Int))=True:=eq_true (by omega)
      have cx:=zju (n:=3) X h3
      have pm:=zfe t (X j)
      have cl:(j*2+2≤6)=True:=eq_true (by omega)
      obtain⟨m1,m2⟩:=zkC tl (Xl j) (by omega)
      simp(disch:=omega)only[go_sem,seval,wqq,f4,f8,f11,f12,f13,f14,f15,f16,f17,f40,f41,f45,f46,f73,f18,f97,f98,q6,qJ,cx,cl,zdv,pm,zii,zdi,zdh,zfo,mG,mG0,sG,sG0,lG,lqq]
      refine ih4 (n+1) _ _ (by omega) ⟨by omega,by simp only[go_sem,seval,f4],by simp only[go_sem,seval,f8],by simp only[go_sem,seval,f11],by simp only[go_sem,seval,f12],by simp only[go_sem,seval,f13],by simp only[go_sem,seval,f14],by simp only[go_sem,seval,f15],by simp only[go_sem,seval,f16],by simp only[go_sem,seval,f17],by simp only[go_sem,seval,f40],by simp only[go_sem,seval,f41],by simp only[go_sem,seval,f45],by simp only[go_sem,seval,f46],by simp only[go_sem,seval,f73],by simp only[go_sem,seval,f18],by simp only[go_sem,seval,f97],by simp only[go_sem,seval,f98];rw[Int.natCast_succ],_,_,_,_,_,clip (t.v*(X j).v),?_,by rw[m1];omega,rfl⟩
      rw[m1,tv,Xv,Int.pow_succ];grind
     ·obtain rfl:n=exN i j-exN k j:=by omega
      have q6:(((exN i j-exN k j:Nat):Int)<((exN i j-exN k j:Nat):Int))=False:=eq_false (Int.lt_irrefl _)
      simp(disch:=omega)only[go_sem,seval,wqq,f4,f8,f11,f12,f13,f14,f15,f16,f17,f40,f41,f45,f46,f73,f18,f97,f98,q6,mG,mG0,sG,sG0,lG,lqq]
      exact ih3 (j+1) _ _ (by omega) ⟨by omega,by simp only[go_sem,seval,f4],by simp only[go_sem,seval,f8],by simp only[go_sem,seval,f11],by simp only[go_sem,seval,f12],by simp only[go_sem,seval,f13],by simp only[go_sem,seval,f14],by simp only[go_sem,seval,f15],by simp only[go_sem,seval,f16],by simp only[go_sem,seval,f17],by simp only[go_sem,seval,f40],by simp only[go_sem,seval,f41],by simp only[go_sem,seval,f45],by simp only[go_sem,seval,f46],by simp only[go_sem,seval,f73];rw[Int.natCast_succ],_,_,_,_,_,t,tv,by omega,rfl⟩
    ·obtain rfl:j=3:=by omega
     have st:shT c Y k i=c i*shP Y i k 3:=if_pos lq'
     have z1:=wz k
     have L2:∀e,(L e).length=2:=fun e=>(wz e).len
     have sL:=zep L2 h2
     have lL:(k*2+2≤(cg 20 L).length)=True:=eq_true (by rw[zcW L2];exact ziv h2)
     have zf:=z1.fz
     obtain⟨a1,a2⟩:=wv k h2
     rw[if_neg (Nat.lt_irrefl _)] at a1 a2
     have pa:=zhz (w k) t
     obtain⟨m1,m2⟩:=zlO a2 tl (by omega)
     have sp:=zl3 L2 h2 (v:=wc (clip ((w k).v+t.v))) (zdh _)
     rw[znF] at sp
     simp(disch:=omega)only[go_sem,seval,wqq,f4,f8,f11,f12,f13,f14,f15,f16,f17,f40,f41,f45,f46,f73,qK,sL,lL,zf,pa,sp,zii,zdi,zdh,mG,mG0,sG,sG0,lG,lqq]
     refine ih2 (k+1) _ _ (by omega) ⟨by omega,by simp only[go_sem,seval,f4],by simp only[go_sem,seval,f8],by simp only[go_sem,seval,f11],by simp only[go_sem,seval,f12],by simp only[go_sem,seval,f13],by simp only[go_sem,seval,f14],by simp only[go_sem,seval,f40],by simp only[go_sem,seval,f41],by simp only[go_sem,seval,f45],by simp only[go_sem,seval,f46];rw[Int.natCast_succ],_,_,_,_,upd L k (wc (clip ((w k).v+t.v))),upd w k (clip ((w k).v+t.v)),fun e=>?_,fun e he=>?_,rfl⟩
     ·unfold upd
      split
      ·exact wzs _
      ·exact wz e
     ·by_cases ek:e=k
      ·subst ek
       rw[zei,if_pos (Nat.lt_succ_self _),if_pos (Nat.lt_succ_self _),m1]
       exact⟨by rw[a1,tv,ss,st],by omega⟩
      ·rw[zeJ ek]
       obtain⟨a,b⟩:=wv e he
       refine⟨?_,by split at b<;>split<;>omega⟩
       rw[a]
       by_cases e1:e<k
       ·rw[if_pos e1,if_pos (by omega)]
       ·rw[if_neg e1,if_neg (by omega)]
   ·have st:shT c Y k i=0:=if_neg lq
    have go:∀e,e<20→(w e).v=(if e<k+1 then shS c Y (i+1) e else shS c Y i e)∧wlen (w e).v.natAbs≤(if e<k+1 then 41+i else 40+i):=fun e he=>by
     obtain⟨a,b⟩:=wv e he
     refine⟨?_,by split at b<;>split<;>omega⟩
     rw[a]
     by_cases ek:e=k
     ·subst ek;rw[if_neg (Nat.lt_irrefl _),if_pos (by omega),ss,st,Int.add_zero]
     ·by_cases e1:e<k
      ·rw[if_pos e1,if_pos (by omega)]
      ·rw[if_neg e1,if_neg (by omega)]
    rcases zlJ ((exN i 0:Int)<(exN k 0:Int)) with g0|g0
    ·simp(disch:=omega)only[go_sem,seval,wqq,f4,f8,f11,f12,f13,f14,f40,f41,f45,f46,q2,qK,ib,zbm,r0,r1,r2,s0,s1,s2,g0,mG,mG0,sG,sG0,lG,lqq]
     exact ih2 (k+1) _ _ (by omega) ⟨by omega,by simp only[go_sem,seval,f4],by simp only[go_sem,seval,f8],by simp only[go_sem,seval,f11],by simp only[go_sem,seval,f12],by simp only[go_sem,seval,f13],by simp only[go_sem,seval,f14],by simp only[go_sem,seval,f40],by simp only[go_sem,seval,f41],by simp only[go_sem,seval,f45],by simp only[go_sem,seval,f46];rw[Int.natCast_succ],_,_,_,_,_,w,wz,go,rfl⟩
    ·rcases zlJ ((exN i 1:Int)<(exN k 1:Int)) with g1|g1
     ·simp(disch:=omega)only[go_sem,seval,wqq,f4,f8,f11,f12,f13,f14,f40,f41,f45,f46,q2,qK,ib,zbm,r0,r1,r2,s0,s1,s2,g0,g1,mG,mG0,sG,sG0,lG,lqq]
      exact ih2 (k+1) _ _ (by omega) ⟨by omega,by simp only[go_sem,seval,f4],by simp only[go_sem,seval,f8],by simp only[go_sem,seval,f11],by simp only[go_sem,seval,f12],by simp only[go_sem,seval,f13],by simp only[go_sem,seval,f14],by simp only[go_sem,seval,f40],by simp only[go_sem,seval,f41],by simp only[go_sem,seval,f45],by simp only[go_sem,seval,f46];rw[Int.natCast_succ],_,_,_,_,_,w,wz,go,rfl⟩
     ·have g2:((exN i 2:Int)<(exN k 2:Int))=True:=eq_true (by
       have u0:=of_eq_false g0
       have u1:=of_eq_false g1
       unfold leQ at lq
       omega)
      simp(disch:=omega)only[go_sem,seval,wqq,f4,f8,f11,f12,f13,f14,f40,f41,f45,f46,q2,qK,ib,zbm,r0,r1,r2,s0,s1,s2,g0,g1,g2,mG,mG0,sG,sG0,lG,lqq]
      exact ih2 (k+1) _ _ (by omega) ⟨by omega,by simp only[go_sem,seval,f4],by simp only[go_sem,seval,f8],by simp only[go_sem,seval,f11],by simp only[go_sem,seval,f12],by simp only[go_sem,seval,f13],by simp only[go_sem,seval,f14],by simp only[go_sem,seval,f40],by simp only[go_sem,seval,f41],by simp only[go_sem,seval,f45],by simp only[go_sem,seval,f46];rw[Int.natCast_succ],_,_,_,_,_,w,wz,go,rfl⟩
  ·obtain rfl:k=20:=by omega
   simp(disch:=omega)only[go_sem,seval,wqq,f4,f8,f11,f12,f13,f14,f40,f41,f45,f46,mG,mG0,sG,sG0,lG,lqq]
   exact ih (i+1) _ _ (by omega) ⟨by omega,by simp only[go_sem,seval,f4],by simp only[go_sem,seval,f8],by simp only[go_sem,seval,f11],by simp only[go_sem,seval,f12],by simp only[go_sem,seval,f40],by simp only[go_sem,seval,f41];rw[Int.natCast_succ],_,_,_,_,w,wz,fun e he=>by obtain⟨a,b⟩:=wv e he;exact⟨by rw[a,if_pos he],by rw[if_pos he] at b;omega⟩,rfl⟩
 ·obtain rfl:i=20:=by omega
  clear ih
  simp(disch:=omega)only[go_sem,seval,wqq,f4,f8,f11,f12,f40,f41,z20,mG,mG0,sG,sG0,lG,lqq]
  have L2:∀e,(L e).length=2:=fun e=>(wz e).len
  have lg:(cg 20 L).length=40:=zcW L2 20
  have tk:List.take 40 (cg 20 L)=cg 20 L:=List.take_of_length_le (by omega)
  simp(disch:=omega)only[go_sem,seval,wqq,lg,tk,mG,mG0,sG,sG0,lG,lqq]
  have vS:∀e,e<20→(w e).v=shS c Y 20 e:=fun e he=>(wv e he).1
  have vF:∀e,e<20→wlen (w e).v.natAbs≤60:=fun e he=>(wv e he).2
  have hE:shE c Y=shE' c (shS c Y 20):=rfl
  have hV:okC (shS c Y 20)→shV c Y=shS c Y 20:=fun o=>by unfold shV shE;rw[if_pos hc,if_pos o];rfl
  have hW:¬okC (shS c Y 20)→shV c Y=zF:=fun o=>by unfold shV shE;rw[if_pos hc,if_neg o];rfl
  generalize shS c Y 20=S at *
  have ia:∀{k:Nat},k<20→iagP 20 true 2 (.ag (cg 20 L)) (some k)=some (.ag (L k)):=fun {k} h=>by
   rw[zc4,if_pos ⟨h,by rw[lg]⟩,zep L2 h];rfl
  by_cases ok:okC S
  ·have e1:shE' c S=0:=by unfold shE';rw[if_pos hc,if_pos ok]
   rw[hE,e1,hV ok]
   refine zag ztD.eq_1 (fun(k:Nat) fr M=>k≤20∧fr 8=.p 1 0∧fr 19=.p (G.length+4) 0∧fr 122=.ag (cg 20 L)∧fr 123=(PV.i .i64 ((k:Nat):Int))∧∃b0 b2 b3 f v H,(∀e,e<k→f e=S e)∧M=b0::some ⟨cs 20 zF,true,0⟩::b2::b3::(G++some ⟨cs 20 f,true,v⟩::H)) (fun k=>20-k) ?_ 0 ⟨by omega,by simp only[go_sem,seval,f8],by simp only[go_sem,seval],by simp only[go_sem,seval],by simp only[go_sem,seval],_,_,_,zF,_,[],fun e he=>by omega,rfl⟩
   clear f4 f8 f11 f12 f40 f41
   rintro k fr M ⟨hk,f8,f19,f122,f123,b0,b2,b3,f,v,H,hf,rfl⟩ ih
   rcases Nat.lt_or_ge k 20 with h2|h2
   ·have q2:((k:Int)<20)=True:=eq_true (by omega)
    have qK:(k<20)=True:=eq_true h2
    have ib:=ia h2
    have zk:=wz k
    have z1:=zk.len
    have z2:=zk.sc
    have z3:=zk.fz
    have z4:=zk.tk
    have sp:psplice [.b false,.nl] 0 (L k)=L k:=zpZ _ _ _ z1
    have vk:=vS k h2
    have bk:=ok k h2
    have ps:=zda (w k)
    obtain⟨s1,s2⟩:=zgE (n:=S k) (by unfold Fits64;omega)
    rw[vk,s1,s2] at ps
    have t1:(S k < -1073741824)=False:=eq_false (by omega)
    have t2:(S k>1073741824)=False:=eq_false (by omega)
    simp(disch:=omega)only[go_sem,seval,wqq,f8,f19,f122,f123,q2,qK,ib,z1,z2,z3,z4,sp,zii,ps,t1,t2,mG,mG0,sG,sG0,lG,lqq]
    refine ih (k+1) _ _ (by omega) ⟨by omega,by simp only[go_sem,seval,f8],by simp only[go_sem,seval,f19],by simp only[go_sem,seval,f122],by simp only[go_sem,seval,f123];rw[Int.natCast_succ],_,_,_,_,_,_,fun e he=>?_,rfl⟩
    unfold upd
    split
    ·rename_i q;rw[q]
    ·exact hf e (by omega)
   ·obtain rfl:k=20:=by omega
    simp(disch:=omega)only[go_sem,seval,wqq,f8,f19,f122,f123,mG,mG0,sG,sG0,lG,lqq]
    rw[zgI hf]
  ·have e1:shE' c S=5:=by unfold shE';rw[if_pos hc,if_neg ok]
   rw[hE,e1,hW ok]
   refine zag ztD.eq_1 (fun(k:Nat) fr M=>k≤20∧(∀e,e<k → -1073741824≤S e∧S e≤1073741824)∧fr 8=.p 1 0∧fr 19=.p (G.length+4) 0∧fr 122=.ag (cg 20 L)∧fr 123=(PV.i .i64 ((k:Nat):Int))∧∃b0 b2 b3 f v H,M=b0::some ⟨cs 20 zF,true,0⟩::b2::b3::(G++some ⟨cs 20 f,true,v⟩::H)) (fun k=>20-k) ?_ 0 ⟨by omega,fun e he=>by omega,by simp only[go_sem,seval,f8],by simp only[go_sem,seval],by simp only[go_sem,seval],by simp only[go_sem,seval],_,_,_,zF,_,[],rfl⟩
   clear f4 f8 f11 f12 f40 f41
   rintro k fr M ⟨hk,hlo,f8,f19,f122,f123,b0,b2,b3,f,v,H,rfl⟩ ih
   have h2:k<20:=by
    rcases Nat.lt_or_ge k 20 with z|z
    ·exact z
    ·obtain rfl:k=20:=by omega
     exact absurd hlo ok
   have q2:((k:Int)<20)=True:=eq_true (by omega)
   have qK:(k<20)=True:=eq_true h2
   have ib:=ia h2
   have zk:=wz k
   have z1:=zk.len
   have z2:=zk.sc
   have z3:=zk.fz
   have z4:=zk.tk
   have sp:psplice [.b false,.nl] 0 (L k)=L k:=zpZ _ _ _ z1
   have vk:=vS k h2
   have ps:=zda (w k)
   rw[vk] at ps
   cases sm:isSmall (S k) with
   | false =>
    rw[sm] at ps
    simp(disch:=omega)only[go_sem,seval,wqq,f8,f19,f122,f123,q2,qK,ib,z1,z2,z3,z4,sp,zii,ps,z20,mG,mG0,sG,sG0,lG,lqq]
   | true =>
    have s1:small (S k)=S k:=by unfold small;rw[sm];rfl
    rw[sm,s1] at ps
    rcases zlJ (S k < -1073741824) with t1|t1
    ·simp(disch:=omega)only[go_sem,seval,wqq,f8,f19,f122,f123,q2,qK,ib,z1,z2,z3,z4,sp,zii,ps,t1,z20,mG,mG0,sG,sG0,lG,lqq]
    ·rcases zlJ (S k>1073741824) with t2|t2
     ·simp(disch:=omega)only[go_sem,seval,wqq,f8,f19,f122,f123,q2,qK,ib,z1,z2,z3,z4,sp,zii,ps,t1,t2,z20,mG,mG0,sG,sG0,lG,lqq]
     ·simp(disch:=omega)only[go_sem,seval,wqq,f8,f19,f122,f123,q2,qK,ib,z1,z2,z3,z4,sp,zii,ps,t1,t2,mG,mG0,sG,sG0,lG,lqq]
      have u1:=of_eq_false t1
      have u2:=of_eq_false t2
      refine ih (k+1) _ _ (by omega) ⟨by omega,fun e he=>?_,by simp only[go_sem,seval,f8],by simp only[go_sem,seval,f19],by simp only[go_sem,seval,f122],by simp only[go_sem,seval,f123];rw[Int.natCast_succ],_,_,_,_,_,_,rfl⟩
      rcases Nat.lt_or_ge e k with z|z
      ·exact hlo e z
      ·obtain rfl:e=k:=by omega
       omega
theorem zkY (c:Nat→Int) {x y z:Int} (hx:Fits64 x) (hy:Fits64 y) (hz:Fits64 z):pf E0 396 [aI 20 c,.i .i64 x,.i .i64 y,.i .i64 z]=some (.tu [aI 20 (shV c (s3 (-x) (-y) (-z))),.i .i64 (shE c (s3 (-x) (-y) (-z)))]):=by
 by_cases hc:okC c
 ·exact zi7 hc hx hy hz rfl
 ·have e1:shE c (s3 (-x) (-y) (-z))=1:=if_neg hc
  have e2:shV c (s3 (-x) (-y) (-z))=zF:=by unfold shV;rw[e1];rfl
  rw[e1,e2]
  exact zi6 hc _ _ _
end Go.Eng
namespace Go.Eng
def cL:Nat→Int:=fun e=>[2,3,0,0,0,0,-1].getD e 0
theorem ziu:okC cL:=by unfold okC;decide
theorem zlX:[PV.i .i64 2,.i .i64 3,.i .i64 0,.i .i64 0,.i .i64 0,.i .i64 0,.i .i64 (-1),.i .i64 0,.i .i64 0,.i .i64 0,.i .i64 0,.i .i64 0,.i .i64 0,.i .i64 0,.i .i64 0,.i .i64 0,.i .i64 0,.i .i64 0,.i .i64 0,.i .i64 0]=cs 20 cL:=rfl
theorem zbB {n:Int} (h:Fits64 n):pf E0 410 [.i .i64 n]=some (fqP (whQ n)):=by
 have o:=zj6 h
 refine zab (xf:=zth) rfl (by simp[zth]) ?_
 simp only[zth]
 simp(disch:=omega)only[go_sem,seval,wqq,o]
theorem zc1 {f:FQ} (h1:f.p.v.natAbs≤4611686018427387904) (h2:f.q.v.natAbs≤4611686018427387904):fwD f:=by
 have a:=zbz (k:=f.p.v.natAbs) (n:=63) (by omega)
 have b:=zbz (k:=f.q.v.natAbs) (n:=63) (by omega)
 unfold fwD
 omega
theorem ziR:∃h x:FQ,pf E0 17 [.i .i64 1,.i .i64 2]=some (.tu [fqP h,.i .i64 0])∧pf E0 409 [aI 20 cL,fqP h,fqP fq0,fqP (whQ 4)]=some (.tu [fqP x,.i .i64 0])∧pf E0 16 [fqP x]=some (.s [51,47,50]):=by
 obtain⟨h,h1,h2,ho⟩:=znb (p:=1) (q:=2) (by decide) (by decide) (by decide)
 have l1:lowP 1 2=1∧lowQ 1 2=2:=zfP (p:=1) (q:=2) (by decide) (by decide)
 have h1:=h1.trans l1.1
 have h2:=h2.trans l1.2
 have hz:fsz 5 h:=⟨by rw[h1];exact zaF (by decide),by rw[h2];exact zaF (by decide)⟩
 obtain⟨w1,w2⟩:=zgG (n:=4) (by decide)
 obtain⟨_,wz⟩:=zij (n:=4) (by decide)
 have fz:fsz 5 fq0:=⟨by show tlen (0:Int).natAbs≤5;exact zaF (by decide),by show tlen (1:Int).natAbs≤5;exact zaF (by decide)⟩
 have U3:∀j,j<3→fsz 5 (s3 h fq0 (whQ 4) j):=fun j hj=>by
  obtain rfl|rfl|rfl:=zh9 hj
  ·exact hz
  ·exact fz
  ·exact wz
 have ev:=zhC (c:=cL) (U:=s3 h fq0 (whQ 4))
 have e0:evE cL (s3 h fq0 (whQ 4))=0:=by
  unfold evE
  rw[if_pos ziu,if_pos fun j hj=>?_]
  obtain rfl|rfl|rfl:=zh9 hj
  ·exact zc1 (by show h.p.v.natAbs≤_;rw[h1];decide) (by show h.q.v.natAbs≤_;rw[h2];decide)
  ·exact zc1 (by show (0:Int).natAbs≤_;decide) (by show (1:Int).natAbs≤_;decide)
  ·exact zc1 (by show (whQ 4).p.v.natAbs≤_;rw[w1];decide) (by show (whQ 4).q.v.natAbs≤_;rw[w2];decide)
 have e1:evR cL (s3 h fq0 (whQ 4))=sF cL (s3 h fq0 (whQ 4)) 20:=if_pos e0
 rw[e0,e1] at ev
 obtain⟨i1,_,_⟩:=zlp (c:=cL) (U:=s3 h fq0 (whQ 4)) (n:=5) ziu (by decide) U3 20 (by decide)
 have p3:pP (s3 h fq0 (whQ 4))=s3 1 0 4:=funext fun j=>by
  unfold pP s3
  split
  ·exact h1
  ·split
   ·rfl
   ·exact w1
 have q3:qQ (s3 h fq0 (whQ 4))=s3 2 1 1:=funext fun j=>by
  unfold qQ s3
  split
  ·exact h2
  ·split
   ·rfl
   ·exact w2
 rw[p3,q3] at i1
 have v1:evS cL (s3 1 0 4) (s3 2 1 1) 20=12:=by decide
 have v2:dnV (s3 2 1 1)=8:=by decide
 rw[v1,v2] at i1
 obtain⟨x1,x2⟩:=zmx (p:=3) (q:=2) (by decide) (by decide) (by decide) i1 (by decide)
 have d3:decI 3=[51]:=(zjA (v:=3) (n:=0) rfl (by decide) (by decide)).trans rfl
 have d2:decI 2=[50]:=(zjA (v:=2) (n:=0) rfl (by decide) (by decide)).trans rfl
 have s1:=znx _ (t:=[51,47,50]) x1 x2 (by unfold ftx;rw[if_neg (by decide),d3,d2];rfl)
 exact⟨h,_,ho,ev,s1⟩
theorem ziS:pf E0 407 [aI 20 cL]=some (.tu [aI 60 (grI cL 20),.i .i64 0]):=by
 have g:=zm2 cL
 have e0:grE cL=0:=by
  unfold grE
  rw[if_pos ziu,if_pos (by unfold okC;decide)]
 have e1:grV cL=grI cL 20:=if_pos e0
 rw[e0,e1] at g
 exact g
def sL:Nat→Int:=fun e=>[-1,3,0,1,0,0,-1].getD e 0
theorem ziT:pf E0 396 [aI 20 cL,.i .i64 1,.i .i64 0,.i .i64 0]=some (.tu [aI 20 sL,.i .i64 0]):=by
 have g:=zkY cL (x:=1) (y:=0) (z:=0) (by decide) (by decide) (by decide)
 have ok:okC (shS cL (s3 (-1) (-0) (-0)) 20):=by unfold okC;decide
 have e0:shE cL (s3 (-1) (-0) (-0))=0:=by unfold shE;rw[if_pos ziu,if_pos ok]
 have e1:shV cL (s3 (-1) (-0) (-0))=shS cL (s3 (-1) (-0) (-0)) 20:=if_pos e0
 have e2:aI 20 (shS cL (s3 (-1) (-0) (-0)) 20)=aI 20 sL:=zgI (by decide)
 rw[e0,e1,e2] at g
 exact g
def gL:Nat→Int:=fun e=>[3,0,0,-1].getD e 0
theorem zo3:[PV.i .i64 3,.i .i64 0,.i .i64 0,.i .i64 (-1),.i .i64 0,.i .i64 0,.i .i64 0,.i .i64 0,.i .i64 0,.i .i64 0,.i .i64 0,.i .i64 0,.i .i64 0,.i .i64 0,.i .i64 0,.i .i64 0,.i .i64 0,.i .i64 0,.i .i64 0,.i .i64 0]=cs 20 gL:=rfl
theorem zpT:[PV.i .i64 (-1),.i .i64 3,.i .i64 0,.i .i64 1,.i .i64 0,.i .i64 0,.i .i64 (-1),.i .i64 0,.i .i64 0,.i .i64 0,.i .i64 0,.i .i64 0,.i .i64 0,.i .i64 0,.i .i64 0,.i .i64 0,.i .i64 0,.i .i64 0,.i .i64 0,.i .i64 0]=cs 20 sL:=rfl
theorem zmA:(cs 60 (grI cL 20)).take 20=cs 20 gL:=by
 have h:=zdu (n:=60) (grI cL 20) (off:=0) (k:=20) (by decide)
 rw[List.drop_zero] at h
 rw[h]
 exact zfv (by decide)
theorem zoR (X:Nat→Int):eqaP [1,1,1,1,1,1,1,1,1,1,1,1,1,1,1,1,1,1,1,1] (aI 20 X) (aI 20 X)=some true:=zl8 20 X
theorem zrQ:dgR cL 20=2:=by decide
set_option maxHeartbeats 8000000 in
theorem zi8:pf E0 400 []=some (.b true):=by
 obtain⟨h,x,ho,ev,s1⟩:=ziR
 have gr:=ziS
 have sh:=ziT
 have dg:=zi4 cL
 rw[zrQ] at dg
 rw[zkm] at ev
 have w4:=zbB (n:=4) (by decide)
 refine zab (xf:=zti) rfl (by simp[zti]) ?_
 simp only[zti]
 simp(disch:=omega)only[go_sem,seval,wqq,ho,zlX,z60]
 refine zaQ [1,2] rfl (by simp only[go_sem,seval]) ?_
 simp(disch:=omega)only[go_sem,seval,wqq,w4,zkm,ev,z60,gr,sh,s1,dg,zo3,zpT,zlX,zmA,zoR]
end Go.Eng
namespace Go.Eng
theorem zgc {f g:Nat→Int}:∀{n:Nat},(∀i,i<n→f i=g i)→sumT f n=sumT g n
 | 0,_=>rfl
 | n+1,h=>by
  show sumT f n+f n=sumT g n+g n
  rw[zgc (n:=n) fun i hi=>h i (by omega),h n (by omega)]
theorem zkk (c X:Nat→Int):evS c X (fun _=>1) 20=evV c X:=zgc fun i _=>by
 show c i*moV X i*(1^_*1^_*1^_)=c i*moV X i
 rw[Int.one_pow,Int.one_pow,Int.one_pow,Int.mul_one,Int.mul_one,Int.mul_one]
theorem zlo {x y z:Int} (hx:Fits64 x) (hy:Fits64 y) (hz:Fits64 z) (j:Nat):Fits64 (s3 x y z j):=by
 unfold s3;split
 ·exact hx
 ·split
  ·exact hy
  ·exact hz
theorem zmp {n:Int} (h:Fits64 n):fwD (whQ n):=by
 obtain⟨a,b⟩:=zgG h
 unfold Fits64 at h
 unfold fwD
 rw[a,b]
 have k:=zbz (k:=n.natAbs) (n:=64) (by omega)
 have l:=zbz (k:=(1:Int).natAbs) (n:=64) (by decide)
 omega
theorem zmi {c:Nat→Int} (hc:okC c) {X:Nat→Int} (hX:∀j,Fits64 (X j)):∃f:FQ,pf E0 409 [aI 20 c,fqP (whQ (X 0)),fqP (whQ (X 1)),fqP (whQ (X 2))]=some (.tu [fqP f,.i .i64 0])∧f.p.v=evV c X∧f.q.v=1:=by
 have ev:=zhC (c:=c) (U:=fun j=>whQ (X j))
 have e0:evE c (fun j=>whQ (X j))=0:=by
  unfold evE
  rw[if_pos hc,if_pos fun j _=>zmp (hX j)]
 have e1:evR c (fun j=>whQ (X j))=sF c (fun j=>whQ (X j)) 20:=if_pos e0
 rw[e0,e1] at ev
 obtain⟨i1,_,_⟩:=zlp (c:=c) (U:=fun j=>whQ (X j)) (n:=5) hc (by decide) (fun j _=>(zij (hX j)).2) 20 (by decide)
 have p3:pP (fun j=>whQ (X j))=X:=funext fun j=>(zgG (hX j)).1
 have q3:qQ (fun j=>whQ (X j))=fun _=>1:=funext fun j=>(zgG (hX j)).2
 have dn:dnV (fun _=>1)=1:=by decide
 rw[p3,q3,zkk,dn] at i1
 obtain⟨v1,v2⟩:=zmw i1
 exact⟨_,ev,v1,v2⟩
theorem zjC {c:Nat→Int} (hc:okC c) {x y z:Int} (hx:Fits64 x) (hy:Fits64 y) (hz:Fits64 z):∃(n:WI) (f:FQ) (r:PV) (s:List UInt8),pf E0 398 [aI 20 c,.i .i64 x,.i .i64 y,.i .i64 z]=some (.tu [wiP n,.i .i64 0])∧pf E0 409 [aI 20 c,fqP (whQ x),fqP (whQ y),fqP (whQ z)]=some (.tu [fqP f,.i .i64 0]) ∧
  pf E0 428 [aI 20 c,.i .i64 x,.i .i64 y,.i .i64 z]=some (nP n.v)∧pf E0 33 [wiP n]=some (.s s)∧pf E0 107 [nP n.v]=some (.s s)∧pf E0 16 [fqP f]=some (.s s):=by
 obtain⟨f,ev,f1,f2⟩:=zmi hc (zlo hx hy hz)
 have pi:=zm5 hc hx hy hz
 have ri:=zng hc hx hy hz
 have lm:wlen (evV c (s3 x y z)).natAbs≤512:=by rw[←f1];exact f.p.lim
 have cv:=zdt lm
 have tl:=zlE f.p
 rw[f1] at tl
 have ps:=zkZ (clip (evV c (s3 x y z)))
 have pt:=zm8 (z:=evV c (s3 x y z)) (by omega)
 have pf:=zeB f
 rw[f1,f2] at pf
 unfold ftx at pf
 rw[if_pos rfl] at pf
 rw[cv] at ps
 exact⟨clip (evV c (s3 x y z)),f,.nl,_,pi,ev,by rw[cv];exact ri,ps,by rw[cv];exact pt,pf⟩
def bL:Nat→Int:=fun e=>[0,0,0,0,0,0,0,1073741825].getD e 0
theorem zlz (x:Int) : -100<x.tmod 100∧x.tmod 100<100:=zb5 x (by decide)
set_option maxHeartbeats 8000000 in
theorem p_PolyInts {xs:List Int} (hx:Ints xs) {x y z:Int} (fx:Fits64 x) (fy:Fits64 y) (fz:Fits64 z):pf E0 427 [ints xs,.i .i64 x,.i .i64 y,.i .i64 z]=some (.b true):=by
 have gp:=zm6 hx
 have hc:=zkq hx
 generalize genP xs=c at *
 have lv:=zi8
 have t1:=zlz x
 have t2:=zlz y
 have t3:=zlz z
 have gx:Fits64 (x.tmod 100):=by unfold Fits64;omega
 have gy:Fits64 (y.tmod 100):=by unfold Fits64;omega
 have gz:Fits64 (z.tmod 100):=by unfold Fits64;omega
 obtain⟨n0,f0,_,s0,a0,b0,c0,d0,e0,g0⟩:=zjC hc fx fy fz
 obtain⟨n1,f1,_,s1,a1,b1,c1,d1,e1,g1⟩:=zjC hc gx gy gz
 have bad:=zkX bL (by unfold okC bL;decide) x y z
 have wx:=zbB fx
 have wy:=zbB fy
 have wz:=zbB fz
 have vx:=zbB gx
 have vy:=zbB gy
 have vz:=zbB gz
 have zb:cs 20 (upd zF 7 1073741825)=cs 20 bL:=zfv (by decide)
 refine zab (xf:=zsY) rfl (by simp[zsY]) ?_
 simp only[zsY]
 simp(disch:=omega)only[go_sem,seval,wqq,gp,zay,zah]
 refine zb7 zsS.eq_1 ?_
 simp(disch:=omega)only[go_sem,seval,wqq,a0,b0,c0,d0,e0,g0]
 refine zaT [9,58,61] rfl ?_ ?_
 ·simp(disch:=omega)only[go_sem,seval,wqq,wx,wy,wz,a0,b0,c0,d0,e0,g0]
  exact⟨_,rfl,rfl⟩
 simp(disch:=omega)only[go_sem,seval,wqq,wx,wy,wz,a0,b0,c0,d0,e0,g0]
 refine zaT [9,13,77,79,81] rfl ?_ ?_
 ·simp(disch:=omega)only[go_sem,seval,wqq,a0,b0,c0,d0,e0,g0]
  exact⟨_,rfl,rfl⟩
 simp(disch:=omega)only[go_sem,seval,wqq,a0,b0,c0,d0,e0,g0]
 refine zb7 zsS.eq_1 ?_
 simp(disch:=omega)only[go_sem,seval,wqq,a1,b1,c1,d1,e1,g1]
 refine zaT [9,58,61] rfl ?_ ?_
 ·simp(disch:=omega)only[go_sem,seval,wqq,vx,vy,vz,a1,b1,c1,d1,e1,g1]
  exact⟨_,rfl,rfl⟩
 simp(disch:=omega)only[go_sem,seval,wqq,vx,vy,vz,a1,b1,c1,d1,e1,g1]
 refine zaT [9,13,77,79,81] rfl ?_ ?_
 ·simp(disch:=omega)only[go_sem,seval,wqq,a1,b1,c1,d1,e1,g1]
  exact⟨_,rfl,rfl⟩
 simp(disch:=omega)only[go_sem,seval,wqq,a1,b1,c1,d1,e1,g1]
 refine zb7 zsS.eq_1 ?_
 simp(disch:=omega)only[go_sem,seval,wqq,z20,zb,bad,lv]
end Go.Eng
