/- The engine and the contracts on which the statement stands: no conditions of its own. -/
import Derived.Test.YtchfmldhdbknlaaGreatDoorMine2
import Derived.Below
import Derived.Shelf.Strings.Repeat
import Derived.Shelf.Strings.Builder1
import Derived.Shelf.Strings.SlTrimAscii
import Derived.Shelf.Strings.Search2
import Derived.Shelf.Strconv.Atoi
import Derived.Shelf.Strconv.Itoa3
import Derived.Lib.AppendIntMem
import Derived.Lib.SmallJoins
import Derived.Lib.Case
import Derived.Lib.Join
import Derived.BigCall
import Derived.BigGuard
set_option linter.unusedSimpArgs false
set_option linter.unusedVariables false
set_option linter.unusedSectionVars false
namespace Go.Eng
theorem zfS {P T s c d r:Nat} (hP:0<P) (hT:T=s%P+P*c) (hs:s=T+P*d+P*4294967296*r) :
  s/P%4294967296=(c+d)%4294967296∧T+P*d=s%(P*4294967296)+P*4294967296*((c+d)/4294967296):=by
 have e1:s/P=c+d+4294967296*r:=by
  have h1:=Nat.div_add_mod s P
  have h2:P*(s/P)=P*(c+d+4294967296*r):=by
   rw[Nat.mul_add,Nat.mul_add,←Nat.mul_assoc];omega
  exact Nat.eq_of_mul_eq_mul_left hP h2
 have e2:s/P%4294967296=(c+d)%4294967296:=by omega
 refine⟨e2,?_⟩
 rw[Nat.mod_mul,e2,hT]
 have h3:=Nat.div_add_mod (c+d) 4294967296
 have h4:P*(c+d)=P*4294967296*((c+d)/4294967296)+P*((c+d)%4294967296):=by
  rw[Nat.mul_assoc,←Nat.mul_add,h3]
 rw[Nat.mul_add] at h4
 omega
theorem zb1 (a i:Nat):a=a%4294967296^i+4294967296^i*dgt a i+4294967296^i*4294967296*(a/(4294967296^i*4294967296)):=by
 have h:=zaD a i
 have h2:=Nat.div_add_mod a (4294967296^i*4294967296)
 rw[Nat.pow_succ] at h
 omega
theorem zbu {a n i:Nat} (h:a<4294967296^n) (hi:n≤i):dgt a i=0:=by
 rw[zah,Nat.div_eq_of_lt (Nat.lt_of_lt_of_le h (Nat.pow_le_pow_right (by decide) hi))]
theorem zdO (b0:Option PB) (c v e:Nat) (h:c+v<18446744073709551616) :
  pcl E0 77 [.i .u64 (v:Int),.p 1 0] [b0,some ⟨[.i .u64 (c:Int)],true,e⟩]=some ((PV.i .u32 (((c+v)%4294967296:Nat):Int)),[b0,some ⟨[.i .u64 (((c+v)/4294967296:Nat):Int)],true,e+2⟩]) :=
 zc1 _ 1 c v e rfl h
theorem zf8 (b0:Option PB) (c e:Nat) (h:c<18446744073709551616) :
  pcl E0 77 [.i .u64 0,.p 1 0] [b0,some ⟨[.i .u64 (c:Int)],true,e⟩]=some ((PV.i .u32 ((c%4294967296:Nat):Int)),[b0,some ⟨[.i .u64 ((c/4294967296:Nat):Int)],true,e+2⟩]) :=
 zc1 _ 1 c 0 e rfl h
theorem zk2 {F:PFin} {ks:List KI} {n m a b:Nat} (hm:m≤n) (ha:a<4294967296^n) (hb:b<4294967296^m) (hn:n<1099511627776) {fr:PFr} {M:PM} (h0:fr 0=Dw n a) (h1:fr 1=Dw m b)
  (h5:fr 5=.sl 0 0 (n+1) (n+1) 1) (h6:fr 6=.fn 77 [.p 1 0]) (h22:fr 22=.i .i64 ((n+1:Nat):Int)) (h23:fr 23=.i .i64 0) (hM:M=[some ⟨List.replicate (n+1) (.i .u32 0),true,0⟩,some ⟨[.i .u64 0],true,0⟩])
  (cont:∀fr' e b2,fr' 5=.sl 0 0 (n+1) (n+1) 1→UK E0 F (.exit 0) ks fr' [some ⟨tab (n+1) (fun k=>(PV.i .u32 ((dgt (a+b) k:Nat):Int))),true,e⟩,b2]):WK E0 F (.loop zwK) ks fr M:=by
 refine zao zwK.eq_1 (fun(i:Nat) fr M=>i≤n+1∧fr 0=Dw n a∧fr 1=Dw m b∧fr 5=.sl 0 0 (n+1) (n+1) 1∧fr 6=.fn 77 [.p 1 0]∧fr 22=.i .i64 ((n+1:Nat):Int)∧fr 23=.i .i64 (i:Int) ∧
  ∃c e1 e2:Nat,M=[some ⟨tab (n+1) fun k=>(PV.i .u32 ((if k<i then dgt (a+b) k else 0:Nat):Int)),true,e1⟩,some ⟨[.i .u64 (c:Int)],true,e2⟩]∧c≤1∧a%4294967296^i+b%4294967296^i=(a+b)%4294967296^i+4294967296^i*c)
  (fun i=>n+1-i) ?_ 0 ⟨Nat.zero_le _,h0,h1,h5,h6,h22,h23,0,0,0,by rw[hM,zcd];rfl,Nat.zero_le _,by simp[Nat.mod_one]⟩
 rintro i fr M ⟨hi,h0,h1,h5,h6,h22,h23,c,e1,e2,rfl,hc,hinv⟩ ih
 by_cases hin:i<n+1
 ·have hc0:((i:Int)<((n+1:Nat):Int))=True:=by simp;omega
  have da:=zat a i
  have db:=zat b i
  have fin:∀v fr' e1 e2,v=dgt a i+dgt b i→fr' 0=Dw n a→fr' 1=Dw m b→fr' 5=.sl 0 0 (n+1) (n+1) 1→fr' 6=.fn 77 [.p 1 0]→fr' 22=.i .i64 ((n+1:Nat):Int)→fr' 23=.i .i64 ((i+1:Nat):Int) →
    WK E0 F (.loop zwK) ks fr' [some ⟨tab (n+1) fun k=>if k=i then (PV.i .u32 (((c+v)%4294967296:Nat):Int)) else (PV.i .u32 ((if k<i then dgt (a+b) k else 0:Nat):Int)),true,e1⟩,some ⟨[.i .u64 (((c+v)/4294967296:Nat):Int)],true,e2⟩]:=by
   intro v fr' e1 e2 hv g0 g1 g5 g6 g22 g23
   subst hv
   have sa:=zb1 a i
   have sb:=zb1 b i
   obtain⟨k1,k2⟩:=zfS (P:=4294967296^i) (T:=a%4294967296^i+b%4294967296^i) (s:=a+b) (c:=c) (d:=dgt a i+dgt b i) (r:=a/(4294967296^i*4294967296)+b/(4294967296^i*4294967296)) (zbz i) hinv (by rw[Nat.mul_add,Nat.mul_add];omega)
   refine ih (i+1) fr' _ (by omega) ⟨by omega,g0,g1,g5,g6,g22,g23,(c+(dgt a i+dgt b i))/4294967296,e1,e2,?_,by omega,?_⟩
   ·congr 3
    refine zaf fun k hk=>?_
    by_cases hki:k=i
    ·subst hki
     rw[if_pos rfl,if_pos (by omega)]
     congr 2;rw[zah (a+b)];exact k1.symm
    ·rw[if_neg hki]
     congr 1
     by_cases h:k<i
     ·rw[if_pos h,if_pos (by omega)]
     ·rw[if_neg h,if_neg (by omega)]
   ·rw[zaD,zaD b,Nat.pow_succ,←k2,Nat.mul_add];omega
  by_cases hia:i<n
  ·have hc1:((i:Int)<(n:Int))=True:=by simp;omega
   by_cases him:i<m
   ·have hc2:((i:Int)<(m:Int))=True:=by simp;omega
    simp(disch:=omega)only[go_sem,seval,wqq,zbe,zbS,zbT,zax,zbk,zcI,h0,h1,h5,h6,h22,h23,hc0,hc1,hc2,Int.zero_add,zaV,zdO,zas,hin]
    exact fin _ _ _ _ rfl (by simp only[go_sem,seval,h0]) (by simp only[go_sem,seval,h1]) (by simp only[go_sem,seval,h5]) (by simp only[go_sem,seval,h6]) (by simp only[go_sem,seval,h22]) (by simp only[go_sem,seval])
   ·have hc2:((i:Int)<(m:Int))=False:=by simp;omega
    have hz:dgt b i=0:=zbu hb (by omega)
    simp(disch:=omega)only[go_sem,seval,wqq,zbe,zbS,zbT,zax,zbk,zcI,h0,h1,h5,h6,h22,h23,hc0,hc1,hc2,Int.zero_add,zaV,zdO,zas,hin]
    exact fin _ _ _ _ (by omega) (by simp only[go_sem,seval,h0]) (by simp only[go_sem,seval,h1]) (by simp only[go_sem,seval,h5]) (by simp only[go_sem,seval,h6]) (by simp only[go_sem,seval,h22]) (by simp only[go_sem,seval])
  ·have hc1:((i:Int)<(n:Int))=False:=by simp;omega
   have hc2:((i:Int)<(m:Int))=False:=by simp;omega
   have hz:dgt b i=0:=zbu hb (by omega)
   have hz2:dgt a i=0:=zbu ha (by omega)
   simp(disch:=omega)only[go_sem,seval,wqq,zbe,zbS,zbT,zax,zbk,zcI,h0,h1,h5,h6,h22,h23,hc0,hc1,hc2,Int.zero_add,zaV,zf8,zas,hin]
   have f0:=fun fr' e1 e2=>fin 0 fr' e1 e2
   simp only[Nat.add_zero] at f0
   exact f0 _ _ _ (by omega) (by simp only[go_sem,seval,h0]) (by simp only[go_sem,seval,h1]) (by simp only[go_sem,seval,h5]) (by simp only[go_sem,seval,h6]) (by simp only[go_sem,seval,h22]) (by simp only[go_sem,seval])
 ·have hc0:((i:Int)<((n+1:Nat):Int))=False:=by simp;omega
  obtain rfl:i=n+1:=by omega
  simp(disch:=omega)only[go_sem,seval,wqq,zbe,zbS,zbT,zax,zbk,zcI,h22,h23,hc0]
  have:=cont (fr.put 24 (.b false)) e1 (some ⟨[.i .u64 (c:Int)],true,e2⟩) (by simp only[go_sem,seval,h5])
  have ht:(tab (n+1) fun k=>(PV.i .u32 ((if k<n+1 then dgt (a+b) k else 0:Nat):Int)))=tab (n+1) fun k=>(PV.i .u32 ((dgt (a+b) k:Nat):Int)):=zaf fun k hk=>by rw[if_pos hk]
  rw[←ht] at this
  exact this
theorem znn {n m a b:Nat} (ha:a<4294967296^n) (hb:b<4294967296^m) (hn:n<1073741824) (hm:m<1073741824):pf E0 40 [Dw n a,Dw m b]=some (Dw (max n m+1) (a+b)):=by
 refine zaa (xf:=zxr) rfl (by simp[zxr]) ?_
 simp only[zxr]
 have fin:∀(n m a b:Nat),m≤n→a<4294967296^n→b<4294967296^m→n<1073741824→∀fr M,fr 0=Dw n a→fr 1=Dw m b→fr 5=.sl 0 0 (n+1) (n+1) 1→fr 6=.fn 77 [.p 1 0]→fr 22=.i .i64 ((n+1:Nat):Int)→fr 23=.i .i64 0→M=[some ⟨List.replicate (n+1) (.i .u32 0),true,0⟩,some ⟨[.i .u64 0],true,0⟩]→∀n' s,n'=n+1→s=a+b →
   WK E0 { res:=[XR.tmp 4],Q:=fun w M2=>Option.map Prod.fst (fz M2 12 w)=some (Dw n' s) } (.loop zwK) [KI.block 0,KI.seq ((XC.reg [⟨some 55,.mov (.t 5),[],none⟩,⟨some 4,.mov (.t 55),[0,0],none⟩]).seq XC.ret)] fr M:=by
  intro n m a b hm ha hb hn fr M h0 h1 h5 h6 h22 h23 hM n' s hn' hs
  subst hn' hs
  refine zk2 hm ha hb (by omega) h0 h1 h5 h6 h22 h23 hM fun fr' e b2 g5=>?_
  simp only[go_sem,seval,g5]
 by_cases h:n<m
 ·have hc:((n:Int)<(m:Int))=True:=by simp;omega
  simp(disch:=omega)only[go_sem,seval,wqq,zbe,zbS,zbT,zax,zbk,zcI,hc,zco]
  exact fin m n b a (by omega) hb ha (by omega) _ _ (by simp only[go_sem,seval]) (by simp only[go_sem,seval]) (by simp only[go_sem,seval]) (by simp only[go_sem,seval]) (by simp only[go_sem,seval]) (by simp only[go_sem,seval]) rfl _ _ (by omega) (by omega)
 ·have hc:((n:Int)<(m:Int))=False:=by simp;omega
  simp(disch:=omega)only[go_sem,seval,wqq,zbe,zbS,zbT,zax,zbk,zcI,hc,zco]
  exact fin n m a b (by omega) ha hb (by omega) _ _ (by simp only[go_sem,seval]) (by simp only[go_sem,seval]) (by simp only[go_sem,seval]) (by simp only[go_sem,seval]) (by simp only[go_sem,seval]) (by simp only[go_sem,seval]) rfl _ _ (by omega) rfl
theorem zie (n:Nat) (k:IntKind) (g:Nat→Int):ez 1 (tab n fun j=>PV.i k (g j))=true:=by
 unfold ez tab
 simp[PV.cells]
theorem zgw (n:Nat) (k:IntKind) (g:Nat→Int):flat (tab n fun j=>PV.i k (g j))=tab n fun j=>PV.i k (g j):=by
 unfold flat tab
 rw[List.flatMap_map]
 simp only[PV.cells]
 rw[←List.map_eq_flatMap]
theorem zoe {n a e:Nat} {l:List PV} (hl:l.length=n):cpyP [some ⟨l,true,e⟩] 1 (.sl 0 0 n n 1) (Dw n a)=some (.i .i64 (n:Int),[some ⟨tab n fun k=>(PV.i .u32 ((dgt a k:Nat):Int)),true,e+1⟩]):=by
 have h1:srcP [some ⟨l,true,e⟩] 1 (Dw n a)=some (n,tab n fun k=>(PV.i .u32 ((dgt a k:Nat):Int))):=by
  simp only[srcP,Dw,zie,if_true,zgw,zaY]
 simp only[cpyP,h1,ne_eq,not_true_eq_false,if_false,zj0,Nat.min_self,Nat.mul_one,Nat.zero_add,hl,Nat.le_refl,and_self,if_true,List.set_cons_zero,zk4]
 congr 5
 simp[psplice,hl]
theorem zk1 {F:PFin} {ks:List KI} {n m a b s e0:Nat} (hs:a=s+b) (hb:b<4294967296^m) (hn:n<1099511627776) (hm:m<1099511627776) {fr:PFr} {M:PM} (h0:fr 0=.sl 0 0 n n 1) (h1:fr 1=Dw m b)
  (h5:fr 5=.i .u64 0) (h10:fr 10=.i .i64 (n:Int)) (h11:fr 11=.i .i64 0) (hM:M=[some ⟨tab n fun k=>(PV.i .u32 ((dgt a k:Nat):Int)),true,e0⟩])
  (cont:∀fr' e (c:Nat),fr' 5=.i .u64 (c:Int)→UK E0 F (.exit 0) ks fr' [some ⟨tab n (fun k=>(PV.i .u32 ((dgt s k:Nat):Int))),true,e⟩]):WK E0 F (.loop zwd) ks fr M:=by
 refine zao zwd.eq_1 (fun(i:Nat) fr M=>i≤n∧fr 0=.sl 0 0 n n 1∧fr 1=Dw m b∧fr 10=.i .i64 (n:Int)∧fr 11=.i .i64 (i:Int) ∧
  ∃c e:Nat,fr 5=.i .u64 (c:Int)∧M=[some ⟨tab n fun k=>(PV.i .u32 ((if k<i then dgt s k else dgt a k:Nat):Int)),true,e⟩]∧c≤1∧s%4294967296^i+b%4294967296^i=a%4294967296^i+4294967296^i*c)
  (fun i=>n-i) ?_ 0 ⟨Nat.zero_le _,h0,h1,h10,h11,0,e0,h5,by rw[hM];rfl,Nat.zero_le _,by simp[Nat.mod_one]⟩
 rintro i fr M ⟨hi,h0,h1,h10,h11,c,e,h5,rfl,hc,hinv⟩ ih
 by_cases hin:i<n
 ·have hc0:((i:Int)<(n:Int))=True:=by simp;omega
  have da:=zat a i
  have db:=zat b i
  have ds:=zat s i
  have hget:(tab n fun k=>(PV.i .u32 ((if k<i then dgt s k else dgt a k:Nat):Int)))[i]?=some ((PV.i .u32 ((dgt a i:Nat):Int))):=by rw[zaM hin,if_neg (by omega)]
  have fin:∀z c' fr' e,z<4294967296→dgt a i+4294967296*c'=z+c+dgt b i→fr' 0=.sl 0 0 n n 1→fr' 1=Dw m b→fr' 10=.i .i64 (n:Int)→fr' 11=.i .i64 ((i+1:Nat):Int)→fr' 5=.i .u64 (c':Int)→∀M',M'=[some ⟨tab n fun k=>if k=i then (PV.i .u32 ((z:Nat):Int)) else (PV.i .u32 ((if k<i then dgt s k else dgt a k:Nat):Int)),true,e⟩] →
    WK E0 F (.loop zwd) ks fr' M':=by
   intro z c' fr' e hz heq g0 g1 g10 g11 g5 M' hM'
   subst hM'
   have sa:=zb1 s i
   have sb:=zb1 b i
   obtain⟨k1,k2⟩:=zfS (P:=4294967296^i) (T:=s%4294967296^i+b%4294967296^i) (s:=a) (c:=c) (d:=dgt s i+dgt b i) (r:=s/(4294967296^i*4294967296)+b/(4294967296^i*4294967296)) (zbz i) hinv (by rw[Nat.mul_add,Nat.mul_add];omega)
   have k1':dgt a i=(c+(dgt s i+dgt b i))%4294967296:=by rw[zah a];exact k1
   have hz':z=dgt s i:=by omega
   have hc':c'=(c+(dgt s i+dgt b i))/4294967296:=by omega
   refine ih (i+1) fr' _ (by omega) ⟨by omega,g0,g1,g10,g11,c',e,g5,?_,by omega,?_⟩
   ·congr 3
    refine zaf fun k hk=>?_
    by_cases hki:k=i
    ·subst hki
     rw[if_pos rfl,if_pos (by omega),hz']
    ·rw[if_neg hki]
     congr 1
     by_cases h:k<i
     ·rw[if_pos h,if_pos (by omega)]
     ·rw[if_neg h,if_neg (by omega)]
   ·rw[hc',zaD,zaD b,Nat.pow_succ,←k2,Nat.mul_add];omega
  have i0:((i:Int)+1)=((i+1:Nat):Int):=by omega
  by_cases him:i<m
  ·have hc2:((i:Int)<(m:Int))=True:=by simp;omega
   by_cases hgt:dgt a i<c+dgt b i
   ·have hg:((dgt a i:Int)<(c:Int)+(dgt b i:Int))=True:=by simp;omega
    simp(disch:=omega)only[go_sem,seval,wqq,h0,h1,h5,h10,h11,hc0,hc2,zaV,hin,hget,hg,i0,zas]
    refine fin (dgt a i+4294967296-(c+dgt b i)) 1 _ (e+1) (by omega) (by omega) (by simp only[go_sem,seval,h0]) (by simp only[go_sem,seval,h1]) (by simp only[go_sem,seval,h10]) (by simp only[go_sem,seval]) (by simp only[go_sem,seval];try rfl) _ ?_
    congr 3
    refine zaf fun k hk=>?_
    split
    ·congr 1;omega
    ·rfl
   ·have hg:((dgt a i:Int)<(c:Int)+(dgt b i:Int))=False:=by simp;omega
    simp(disch:=omega)only[go_sem,seval,wqq,h0,h1,h5,h10,h11,hc0,hc2,zaV,hin,hget,hg,i0,zas]
    refine fin (dgt a i-(c+dgt b i)) 0 _ (e+1) (by omega) (by omega) (by simp only[go_sem,seval,h0]) (by simp only[go_sem,seval,h1]) (by simp only[go_sem,seval,h10]) (by simp only[go_sem,seval]) (by simp only[go_sem,seval];try rfl) _ ?_
    congr 3
    refine zaf fun k hk=>?_
    split
    ·congr 1;omega
    ·rfl
  ·have hc2:((i:Int)<(m:Int))=False:=by simp;omega
   have hz:dgt b i=0:=zbu hb (by omega)
   by_cases hgt:dgt a i<c
   ·have hg:((dgt a i:Int)<(c:Int))=True:=by simp;omega
    simp(disch:=omega)only[go_sem,seval,wqq,h0,h1,h5,h10,h11,hc0,hc2,zaV,hin,hget,hg,i0,zas]
    refine fin (dgt a i+4294967296-c) 1 _ (e+1) (by omega) (by omega) (by simp only[go_sem,seval,h0]) (by simp only[go_sem,seval,h1]) (by simp only[go_sem,seval,h10]) (by simp only[go_sem,seval]) (by simp only[go_sem,seval];try rfl) _ ?_
    congr 3
    refine zaf fun k hk=>?_
    split
    ·congr 1;omega
    ·rfl
   ·have hg:((dgt a i:Int)<(c:Int))=False:=by simp;omega
    simp(disch:=omega)only[go_sem,seval,wqq,h0,h1,h5,h10,h11,hc0,hc2,zaV,hin,hget,hg,i0,zas]
    refine fin (dgt a i-c) 0 _ (e+1) (by omega) (by omega) (by simp only[go_sem,seval,h0]) (by simp only[go_sem,seval,h1]) (by simp only[go_sem,seval,h10]) (by simp only[go_sem,seval]) (by simp only[go_sem,seval];try rfl) _ ?_
    congr 3
    refine zaf fun k hk=>?_
    split
    ·congr 1;omega
    ·rfl
 ·have hc0:((i:Int)<(n:Int))=False:=by simp;omega
  obtain rfl:i=n:=by omega
  simp only[go_sem,seval,h10,h11,hc0]
  have ht:(tab i fun k=>(PV.i .u32 ((if k<i then dgt s k else dgt a k:Nat):Int)))=tab i fun k=>(PV.i .u32 ((dgt s k:Nat):Int)):=zaf fun k hk=>by rw[if_pos hk]
  rw[ht]
  exact cont _ e c (by simp only[go_sem,seval,h5])
theorem za9 {n m a b s:Nat} (hs:a=s+b) (hb:b<4294967296^m) (hn:n<1073741824) (hm:m<1073741824) (ha:a<4294967296^n):pf E0 42 [Dw n a,Dw m b]=some (Dw n s):=by
 by_cases h0:n=0
 ·subst h0
  have ha0:a=0:=by simpa using ha
  obtain rfl:s=0:=by omega
  obtain rfl:b=0:=by omega
  have hsub:∃v M',pcl E0 62 [.nl,Dw m 0] []=some (v,M')∧M'=[]:=by
   refine zeV (xf:=zv0) rfl rfl (by simp[zv0]) ?_
   simp only[zv0]
   simp only[go_sem,seval]
   refine zcy ?_
   simp only[zwd]
   simp(disch:=omega)only[go_sem,seval,wqq,Int.lt_irrefl]
  obtain⟨v,M',h1,rfl⟩:=hsub
  refine zaa (xf:=zvY) rfl (by simp[zvY]) ?_
  simp only[zvY]
  have hc:cpyP [] 1 .nl (Dw 0 a)=some (.i .i64 0,[]):=by
   simp[cpyP,Dw,srcP,ez,tab]
  simp only[go_sem,seval,Int.natCast_zero,zcA,Int.reduceLE,Int.reduceToNat,zdK,hc,h1]
  rfl
 ·have hsub:∃v M',pcl E0 62 [.sl 0 0 n n 1,Dw m b] [some ⟨tab n fun k=>(PV.i .u32 ((dgt a k:Nat):Int)),true,1⟩]=some (v,M')∧∃e,M'=[some ⟨tab n fun k=>(PV.i .u32 ((dgt s k:Nat):Int)),true,e⟩]:=by
   refine zeV (xf:=zv0) rfl rfl (by simp[zv0]) ?_
   simp only[zv0]
   simp only[go_sem,seval]
   refine zk1 hs hb (by omega) (by omega) (by simp only[go_sem,seval]) (by simp only[go_sem,seval]) (by simp only[go_sem,seval]) (by simp only[go_sem,seval]) (by simp only[go_sem,seval]) rfl fun fr' e c g5=>?_
   simp only[go_sem,seval,g5]
   exact⟨e,rfl⟩
  obtain⟨v,M',h1,e,rfl⟩:=hsub
  refine zaa (xf:=zvY) rfl (by simp[zvY]) ?_
  simp only[zvY]
  have hc:=zoe (n:=n) (a:=a) (e:=0) (l:=List.replicate n (.i .u32 0)) (by simp)
  simp(disch:=omega)only[go_sem,seval,wqq,zco,hc,h1,h0]
end Go.Eng
namespace Go.Eng
theorem zix {a b:Nat}:a+b<4294967296^(max (wlen a) (wlen b)+1):=by
 have h1:=Nat.lt_of_lt_of_le (zai a) (Nat.pow_le_pow_right (by decide:0<4294967296) (Nat.le_max_left (wlen a) (wlen b)))
 have h2:=Nat.lt_of_lt_of_le (zai b) (Nat.pow_le_pow_right (by decide:0<4294967296) (Nat.le_max_right (wlen a) (wlen b)))
 rw[Nat.pow_succ];omega
theorem zhx (x y:WI):pf E0 23 [wiP x,wiP y]=some (.tu [wiP (clip (x.v+y.v)),.i .i64 (lerr (x.v+y.v))]):=by
 refine zaa (xf:=zxN) rfl (by simp[zxN]) ?_
 simp only[zxN]
 have lx:=x.lim
 have ly:=y.lim
 have hsum:=znn (zai x.v.natAbs) (zai y.v.natAbs) (by omega) (by omega)
 have hcmp:=zbF x.v.natAbs y.v.natAbs (by omega) (by omega)
 have lm:max (wlen x.v.natAbs) (wlen y.v.natAbs)+1<1099511627776:=by omega
 by_cases hx:x.v<0
 ·by_cases hy:y.v<0
  ·have hsg:=zaA true _ _ (zix (a:=x.v.natAbs) (b:=y.v.natAbs)) lm
   have e1:(if true=true then-((x.v.natAbs+y.v.natAbs:Nat):Int) else ((x.v.natAbs+y.v.natAbs:Nat):Int))=x.v+y.v:=by rw[if_pos rfl];omega
   have e2:lerr ((x.v.natAbs+y.v.natAbs:Nat):Int)=lerr (x.v+y.v):=by rw[←e1,if_pos rfl,zeN]
   rw[e1,e2] at hsg
   simp only[go_sem,seval,hx,hy]
   refine zbo rfl ?_
   simp only[go_sem,seval,hsum,hsg]
  ·by_cases hab:x.v.natAbs<y.v.natAbs
   ·have hc:(cmpI (x.v.natAbs:Int) (y.v.natAbs:Int)<0)=True:=by unfold cmpI;simp;omega
    have hd:=za9 (a:=y.v.natAbs) (b:=x.v.natAbs) (s:=y.v.natAbs-x.v.natAbs) (by omega) (zai _) (by omega) (by omega) (zai y.v.natAbs)
    have hsg:=zaA false (wlen y.v.natAbs) (y.v.natAbs-x.v.natAbs) (Nat.lt_of_le_of_lt (Nat.sub_le _ _) (zai _)) (by omega)
    have e1:((y.v.natAbs-x.v.natAbs:Nat):Int)=x.v+y.v:=by omega
    rw[if_neg (by simp),e1] at hsg
    simp only[go_sem,seval,hx,hy,hcmp,hc]
    refine zbo rfl ?_
    simp only[go_sem,seval,hd,hsg]
   ·have hc:(cmpI (x.v.natAbs:Int) (y.v.natAbs:Int)<0)=False:=by unfold cmpI;simp;omega
    have hd:=za9 (a:=x.v.natAbs) (b:=y.v.natAbs) (s:=x.v.natAbs-y.v.natAbs) (by omega) (zai _) (by omega) (by omega) (zai x.v.natAbs)
    have hsg:=zaA true (wlen x.v.natAbs) (x.v.natAbs-y.v.natAbs) (Nat.lt_of_le_of_lt (Nat.sub_le _ _) (zai _)) (by omega)
    have e1 : -((x.v.natAbs-y.v.natAbs:Nat):Int)=x.v+y.v:=by omega
    rw[if_pos rfl,e1,←zeN,e1] at hsg
    simp only[go_sem,seval,hx,hy,hcmp,hc]
    refine zbo rfl ?_
    simp only[go_sem,seval,hd,hsg]
 ·by_cases hy:y.v<0
  ·by_cases hab:x.v.natAbs<y.v.natAbs
   ·have hc:(cmpI (x.v.natAbs:Int) (y.v.natAbs:Int)<0)=True:=by unfold cmpI;simp;omega
    have hd:=za9 (a:=y.v.natAbs) (b:=x.v.natAbs) (s:=y.v.natAbs-x.v.natAbs) (by omega) (zai _) (by omega) (by omega) (zai y.v.natAbs)
    have hsg:=zaA true (wlen y.v.natAbs) (y.v.natAbs-x.v.natAbs) (Nat.lt_of_le_of_lt (Nat.sub_le _ _) (zai _)) (by omega)
    have e1 : -((y.v.natAbs-x.v.natAbs:Nat):Int)=x.v+y.v:=by omega
    rw[if_pos rfl,e1,←zeN,e1] at hsg
    simp only[go_sem,seval,hx,hy,hcmp,hc]
    refine zbo rfl ?_
    simp only[go_sem,seval,hd,hsg]
   ·have hc:(cmpI (x.v.natAbs:Int) (y.v.natAbs:Int)<0)=False:=by unfold cmpI;simp;omega
    have hd:=za9 (a:=x.v.natAbs) (b:=y.v.natAbs) (s:=x.v.natAbs-y.v.natAbs) (by omega) (zai _) (by omega) (by omega) (zai x.v.natAbs)
    have hsg:=zaA false (wlen x.v.natAbs) (x.v.natAbs-y.v.natAbs) (Nat.lt_of_le_of_lt (Nat.sub_le _ _) (zai _)) (by omega)
    have e1:((x.v.natAbs-y.v.natAbs:Nat):Int)=x.v+y.v:=by omega
    rw[if_neg (by simp),e1] at hsg
    simp only[go_sem,seval,hx,hy,hcmp,hc]
    refine zbo rfl ?_
    simp only[go_sem,seval,hd,hsg]
  ·have hsg:=zaA false _ _ (zix (a:=x.v.natAbs) (b:=y.v.natAbs)) lm
   have e1:((x.v.natAbs+y.v.natAbs:Nat):Int)=x.v+y.v:=by omega
   rw[if_neg (by simp),e1] at hsg
   simp only[go_sem,seval,hx,hy]
   refine zbo rfl ?_
   simp only[go_sem,seval,hsum,hsg]
attribute [go_sem] zhx
theorem zo8 (x y:WI):pf E0 39 [wiP x,wiP y]=some (.tu [wiP (clip (x.v-y.v)),.i .i64 (lerr (x.v-y.v))]):=by
 refine zaa (xf:=zxF) rfl (by simp[zxF]) ?_
 simp only[zxF]
 simp only[go_sem,seval]
 refine zbo rfl ?_
 simp only[go_sem,seval]
 rfl
attribute [go_sem] zo8
theorem zpz (P w b i j:Nat):P+w*4294967296^i*b=(P%4294967296^(i+j)+w*4294967296^i*(b%4294967296^j))+4294967296^(i+j)*(dgt P (i+j)+w*dgt b j)+4294967296^(i+j)*4294967296*(P/(4294967296^(i+j)*4294967296)+w*(b/(4294967296^j*4294967296))):=by
 have sp:=zb1 P (i+j)
 have sb:=zb1 b j
 rw[Nat.pow_add] at sp ⊢
 generalize 4294967296^i=p at *
 generalize 4294967296^j=q at *
 generalize P%(p*q)=r1 at *
 generalize P/(p*q*4294967296)=r2 at *
 generalize b%q=r3 at *
 generalize b/(q*4294967296)=r4 at *
 generalize dgt P (i+j)=r5 at *
 generalize dgt b j=r6 at *
 subst sp sb
 grind
theorem zkW {F:PFin} {ks:List KI} {n m P b w i e0:Nat} (hb:b<4294967296^m) (hw:w<4294967296) (hi:i<n) (hn:n<1073741824) (hm:m<1073741824) {fr:PFr} {M:PM} (h1:fr 25=Dw m b) (h5:fr 5=.sl 0 0 (n+m) (n+m) 1)
  (h6:fr 6=.i .i64 (i:Int)) (h7:fr 7=(PV.i .u32 ((w:Nat):Int))) (h8:fr 8=.i .u64 0) (h26:fr 26=.i .i64 (m:Int)) (h27:fr 27=.i .i64 0) (hM:M=[some ⟨tab (n+m) fun k=>(PV.i .u32 ((dgt P k:Nat):Int)),true,e0⟩]) (a:PV) (h0:fr 1=a) (N:PV) (h19:fr 19=N) (L:PV) (h18:fr 18=L) (I:PV) (h20:fr 20=I)
  (cont:∀fr' e c,fr' 1=a→fr' 5=.sl 0 0 (n+m) (n+m) 1→fr' 6=.i .i64 (i:Int)→fr' 18=L→fr' 19=N→fr' 20=I→fr' 8=.i .u64 ((c:Nat):Int)→c<4294967296→P%4294967296^(i+m)+w*4294967296^i*b=(P+w*4294967296^i*b)%4294967296^(i+m)+4294967296^(i+m)*c →
   UK E0 F (.exit 2) ks fr' [some ⟨tab (n+m) (fun k=>(PV.i .u32 ((if k<i+m then dgt (P+w*4294967296^i*b) k else dgt P k:Nat):Int))),true,e⟩]):WK E0 F (.loop zxL) ks fr M:=by
 refine zao zxL.eq_1 (fun(j:Nat) fr M=>j≤m∧fr 25=Dw m b∧fr 5=.sl 0 0 (n+m) (n+m) 1∧fr 6=.i .i64 (i:Int)∧fr 7=(PV.i .u32 ((w:Nat):Int))∧fr 26=.i .i64 (m:Int)∧fr 27=.i .i64 (j:Int)∧fr 1=a∧fr 18=L∧fr 19=N∧fr 20=I ∧
  ∃c e:Nat,fr 8=.i .u64 (c:Int)∧M=[some ⟨tab (n+m) fun k=>(PV.i .u32 ((if k<i+j then dgt (P+w*4294967296^i*b) k else dgt P k:Nat):Int)),true,e⟩]∧c<4294967296∧P%4294967296^(i+j)+w*4294967296^i*(b%4294967296^j)=(P+w*4294967296^i*b)%4294967296^(i+j)+4294967296^(i+j)*c)
  (fun j=>m-j) ?_ 0 ⟨Nat.zero_le _,h1,h5,h6,h7,h26,h27,h0,h18,h19,h20,0,e0,h8,?_,by decide,?_⟩
 ·rintro j fr M ⟨hj,h25,h5,h6,h7,h26,h27,h0,h18,h19,h20,c,e,h8,rfl,hc,hinv⟩ ih
  by_cases hjm:j<m
  ·have hc0:((j:Int)<(m:Int))=True:=by simp;omega
   have db:=zat b j
   have dp:=zat P (i+j)
   have hget:(tab (n+m) fun k=>(PV.i .u32 ((if k<i+j then dgt (P+w*4294967296^i*b) k else dgt P k:Nat):Int)))[i+j]?=some (PV.i .u32 ((dgt P (i+j):Nat):Int)):=by rw[zaM (by omega),if_neg (by omega)]
   have hij:((i:Int)+(j:Int))=((i+j:Nat):Int):=by omega
   have j1:((j:Int)+1)=((j+1:Nat):Int):=by omega
   have hmul:w*dgt b j≤4294967295*4294967295:=Nat.mul_le_mul (by omega) (by omega)
   have hww:((w:Int)*(dgt b j:Int))=((w*dgt b j:Nat):Int):=by simp
   have hadd:(((w*dgt b j:Nat):Int)+(dgt P (i+j):Int)+(c:Int))=((w*dgt b j+dgt P (i+j)+c:Nat):Int):=by omega
   have hlt:i+j<n+m:=by omega
   simp(disch:=omega)only[go_sem,seval,wqq,h25,h5,h6,h7,h8,h26,h27,hc0,zaV,hij,hget,hww,hadd,hlt,j1,zbb,zas,Int.reduceToNat,Nat.reducePow]
   obtain⟨k1,k2⟩:=zfS (c:=c) (zbz (i+j)) hinv (zpz P w b i j)
   have hx:c+(dgt P (i+j)+w*dgt b j)=w*dgt b j+dgt P (i+j)+c:=by omega
   rw[hx] at k1 k2
   refine ih (j+1) _ _ (by omega) ⟨by omega,by simp only[go_sem,seval,h25],by simp only[go_sem,seval,h5],by simp only[go_sem,seval,h6],by simp only[go_sem,seval,h7],by simp only[go_sem,seval,h26],by simp only[go_sem,seval],by simp only[go_sem,seval,h0],by simp only[go_sem,seval,h18],by simp only[go_sem,seval,h19],by simp only[go_sem,seval,h20],(w*dgt b j+dgt P (i+j)+c)/4294967296,e+1,by simp only[go_sem,seval],?_,by omega,?_⟩
   ·congr 3
    refine zaf fun k hk=>?_
    by_cases hki:k=i+j
    ·subst hki
     rw[if_pos rfl,if_pos (by omega)]
     congr 2;rw[zah (P+w*4294967296^i*b)];exact k1.symm
    ·rw[if_neg hki]
     congr 2
     by_cases h:k<i+j
     ·rw[if_pos h,if_pos (by omega)]
     ·rw[if_neg h,if_neg (by omega)]
   ·rw[show i+(j+1)=i+j+1 by omega,Nat.pow_succ,←k2,←Nat.pow_succ,zaD P,zaD b]
    rw[Nat.pow_add]
    grind
  ·have hc0:((j:Int)<(m:Int))=False:=by simp;omega
   obtain rfl:j=m:=by omega
   simp only[go_sem,seval,h26,h27,hc0]
   rw[Nat.mod_eq_of_lt hb] at hinv
   exact cont _ e c (by simp only[go_sem,seval,h0]) (by simp only[go_sem,seval,h5]) (by simp only[go_sem,seval,h6]) (by simp only[go_sem,seval,h18]) (by simp only[go_sem,seval,h19]) (by simp only[go_sem,seval,h20]) (by simp only[go_sem,seval,h8]) hc hinv
 ·rw[hM]
  congr 3
  refine zaf fun k hk=>?_
  congr 2
  by_cases h:k<i+0
  ·rw[if_pos h,zah,zah]
   have e1:(4294967296:Nat)^i=4294967296^k*(4294967296^(i-k-1)*4294967296):=by
    rw[←Nat.pow_succ,←Nat.pow_add];congr 1;omega
   rw[e1,show w*(4294967296^k*(4294967296^(i-k-1)*4294967296))*b=4294967296^k*(4294967296*(w*4294967296^(i-k-1)*b)) by grind,Nat.add_mul_div_left _ _ (zbz k),Nat.add_mul_mod_self_left]
  ·rw[if_neg h]
 ·have e1:P+w*4294967296^i*b=P+4294967296^i*(w*b):=by grind
  rw[Nat.add_zero,Nat.pow_zero,Nat.mod_one,e1,Nat.add_mul_mod_self_left];simp
theorem zno {n m a b:Nat} (ha:a<4294967296^n) (hb:b<4294967296^m) (hn:n<536870912) (hm:m<536870912) (h0:n+m≠0):pf E0 59 [Dw n a,Dw m b]=some (Dw (n+m) (a*b)):=by
 refine zaa (xf:=zwf) rfl (by simp[zwf]) ?_
 simp only[zwf]
 have hnm:((n:Int)+(m:Int))=((n+m:Nat):Int):=by omega
 simp(disch:=omega)only[go_sem,seval,wqq,hnm,zco]
 refine zao zxt.eq_1 (fun(i:Nat) fr M=>i≤n∧fr 1=Dw m b∧fr 5=.sl 0 0 (n+m) (n+m) 1∧fr 18=Dw n a∧fr 19=.i .i64 (n:Int)∧fr 20=.i .i64 (i:Int) ∧
  ∃e:Nat,M=[some ⟨tab (n+m) fun k=>(PV.i .u32 ((dgt (a%4294967296^i*b) k:Nat):Int)),true,e⟩]) (fun i=>n-i) ?_ 0 ⟨Nat.zero_le _,by simp only[go_sem,seval],by simp only[go_sem,seval],by simp only[go_sem,seval],by simp only[go_sem,seval],by simp only[go_sem,seval];try rfl,0,?_⟩
 ·rintro i fr M ⟨hi,h1,h5,h18,h19,h20,e,rfl⟩ ih
  by_cases hin:i<n
  ·have hc0:((i:Int)<(n:Int))=True:=by simp;omega
   have i1:((i:Int)+1)=((i+1:Nat):Int):=by omega
   simp(disch:=omega)only[go_sem,seval,wqq,h1,h5,h18,h19,h20,hc0,zaV]
   refine zkW (n:=n) (P:=a%4294967296^i*b) (w:=dgt a i) hb (zat a i) hin (by omega) (by omega) (by simp only[go_sem,seval,h1]) (by simp only[go_sem,seval,h5]) (by simp only[go_sem,seval]) (by simp only[go_sem,seval]) (by simp only[go_sem,seval]) (by simp only[go_sem,seval]) (by simp only[go_sem,seval]) rfl (Dw m b) (by simp only[go_sem,seval,h1]) (.i .i64 (n:Int)) (by simp only[go_sem,seval,h19]) (Dw n a) (by simp only[go_sem,seval,h18]) (.i .i64 (i:Int)) (by simp only[go_sem,seval,h20]) fun fr' e' c g1 g5 g6 g18 g19 g20 g8 hc hinv=>?_
   have him:((i:Int)+(m:Int))=((i+m:Nat):Int):=by omega
   have hlt:i+m<n+m:=by omega
   simp(disch:=omega)only[go_sem,seval,wqq,g1,g5,g6,g18,g19,g20,g8,him,hlt,i1,zas]
   have hP:a%4294967296^(i+1)*b=a%4294967296^i*b+dgt a i*4294967296^i*b:=by rw[zaD];grind
   have hPl:a%4294967296^i*b<4294967296^(i+m):=by
    rw[Nat.pow_add]
    exact Nat.mul_lt_mul'' (Nat.mod_lt _ (zbz i)) hb
   refine ih (i+1) _ _ (by omega) ⟨by omega,by simp only[go_sem,seval,g1],by simp only[go_sem,seval,g5],by simp only[go_sem,seval,g18],by simp only[go_sem,seval,g19],by simp only[go_sem,seval],e'+1,?_⟩
   congr 3
   refine zaf fun k hk=>?_
   rw[hP]
   rw[Nat.mod_eq_of_lt hPl] at hinv
   have hval:a%4294967296^i*b+dgt a i*4294967296^i*b=(a%4294967296^i*b+dgt a i*4294967296^i*b)%4294967296^(i+m)+4294967296^(i+m)*c:=hinv
   have hd:(a%4294967296^i*b+dgt a i*4294967296^i*b)/4294967296^(i+m)=c:=by
    have h1:=Nat.div_add_mod (a%4294967296^i*b+dgt a i*4294967296^i*b) (4294967296^(i+m))
    exact Nat.eq_of_mul_eq_mul_left (zbz (i+m)) (by omega)
   by_cases hki:k=i+m
   ·subst hki
    rw[if_pos rfl,zah,hd]
    congr 2;omega
   ·rw[if_neg hki]
    congr 2
    by_cases h:k<i+m
    ·rw[if_pos h]
    ·rw[if_neg h,zbu hPl (by omega)]
     have:a%4294967296^i*b+dgt a i*4294967296^i*b<4294967296^(i+m+1):=by
      rw[Nat.pow_succ]
      have h2:=Nat.mod_lt (a%4294967296^i*b+dgt a i*4294967296^i*b) (zbz (i+m))
      have h3:4294967296^(i+m)*(c+1)≤4294967296^(i+m)*4294967296:=Nat.mul_le_mul_left _ (by omega)
      rw[Nat.mul_add] at h3
      omega
     rw[zbu this (by omega)]
  ·have hc0:((i:Int)<(n:Int))=False:=by simp;omega
   obtain rfl:i=n:=by omega
   simp only[go_sem,seval,h5,h19,h20,hc0]
   rw[Nat.mod_eq_of_lt ha]
   simp only[h0,if_false];rfl
 ·rw[zcd]
  congr 3
  refine zaf fun k hk=>?_
  simp[Nat.mod_one,zdm]
end Go.Eng
namespace Go.Eng
theorem zo4 {x y:Nat} (hx:x<18446744073709551616) (hy:y<18446744073709551616):binP .or (.i .u64 (x:Int)) (.i .u64 (y:Int))=some (.i .u64 ((x ||| y:Nat):Int)):=by
 have h:(BitVec.ofInt 64 (x:Int) ||| BitVec.ofInt 64 (y:Int)).toNat=x ||| y:=by
  rw[BitVec.toNat_or,BitVec.ofInt_natCast,BitVec.ofInt_natCast,BitVec.toNat_ofNat,BitVec.toNat_ofNat,Nat.mod_eq_of_lt (by omega),Nat.mod_eq_of_lt (by omega)]
 have hlt:x ||| y<2^64:=Nat.or_lt_two_pow (by omega) (by omega)
 have h2:binP .or (.i .u64 (x:Int)) (.i .u64 (y:Int))=some (.i .u64 (IntKind.wrap .u64 (((BitVec.ofInt 64 (x:Int) ||| BitVec.ofInt 64 (y:Int)).toNat:Nat):Int))):=rfl
 rw[h2,h,wqb (by omega) (by omega)]
theorem zeh {h y:Nat} (hh:h<4294967296) (hy:y<4294967296):binP .or (.i .u64 ((h*4294967296:Nat):Int)) (.i .u64 (y:Int))=some (.i .u64 ((h*4294967296+y:Nat):Int)):=by
 rw[zo4 (by omega) (by omega)]
 have:=Nat.two_pow_add_eq_or_of_lt (i:=32) (b:=y) (by omega) h
 rw[show (2:Nat)^32=4294967296 by decide] at this
 rw[Nat.mul_comm h,←this]
theorem zg0 {n m a b:Nat} (ha:a<4294967296^n) (hb:b<4294967296^m) (hn:n<536870912) (hm:m<536870912):pf E0 59 [Dw n a,Dw m b]=some (Dw (n+m) (a*b)):=by
 by_cases h0:n+m=0
 ·obtain rfl:n=0:=by omega
  obtain rfl:m=0:=by omega
  refine zaa (xf:=zwf) rfl (by simp[zwf]) ?_
  simp only[zwf]
  simp(disch:=omega)only[go_sem,seval,wqq,Int.natCast_zero,Int.add_zero,zcA,Int.reduceLE,Int.reduceToNat,zdK]
  refine zcy ?_
  simp only[zxt]
  simp(disch:=omega)only[go_sem,seval,wqq,Int.lt_irrefl]
  rfl
 ·exact zno ha hb hn hm h0
theorem zoK {a b:Nat}:a*b<4294967296^(wlen a+wlen b):=by
 rw[Nat.pow_add]
 exact Nat.mul_lt_mul'' (zai a) (zai b)
theorem zfy (x y:WI):pf E0 38 [wiP x,wiP y]=some (.tu [wiP (clip (x.v*y.v)),.i .i64 (lerr (x.v*y.v))]):=by
 refine zaa (xf:=zxM) rfl (by simp[zxM]) ?_
 simp only[zxM]
 have lx:=x.lim
 have ly:=y.lim
 have ht:=zg0 (zai x.v.natAbs) (zai y.v.natAbs) (by omega) (by omega)
 have hs:=zaA (decide (x.v<0) != decide (y.v<0)) _ _ (zoK (a:=x.v.natAbs) (b:=y.v.natAbs)) (by omega)
 have e1:(if (decide (x.v<0) != decide (y.v<0))=true then-((x.v.natAbs*y.v.natAbs:Nat):Int) else ((x.v.natAbs*y.v.natAbs:Nat):Int))=x.v*y.v:=by
  rw[←Int.natAbs_mul]
  by_cases hx:x.v<0<;>by_cases hy:y.v<0
  ·have:=Int.mul_pos_of_neg_of_neg hx hy
   simp[hx,hy];omega
  ·have:=Int.mul_nonpos_of_nonpos_of_nonneg (show x.v≤0 by omega) (show 0≤y.v by omega)
   simp[hx,hy];omega
  ·have:=Int.mul_nonpos_of_nonneg_of_nonpos (show 0≤x.v by omega) (show y.v≤0 by omega)
   simp[hx,hy];omega
  ·have:=Int.mul_nonneg (show 0≤x.v by omega) (show 0≤y.v by omega)
   simp[hx,hy];omega
 have e2:lerr ((x.v.natAbs*y.v.natAbs:Nat):Int)=lerr (x.v*y.v):=by
  unfold lerr
  rw[Int.natAbs_mul,Int.natAbs_natCast]
 rw[e1,e2] at hs
 simp only[go_sem,seval]
 refine zbo rfl ?_
 have hb:(!(decide (x.v<0)==decide (y.v<0)))=(decide (x.v<0) != decide (y.v<0)):=rfl
 simp only[go_sem,seval,ht,hb,hs]
attribute [go_sem] zfy
theorem zj8 (a w i:Nat) (hw0:0<w) (hi:i≠0):(a/4294967296^i%w*4294967296+dgt a (i-1))%w=a/4294967296^(i-1)%w∧(a/4294967296^i%w*4294967296+dgt a (i-1))/w=dgt (a/w) (i-1):=by
 have hd:=zat a (i-1)
 have e1:a/4294967296^(i-1)=a/4294967296^i*4294967296+dgt a (i-1):=by
  rw[zah,show (4294967296:Nat)^i=4294967296^(i-1)*4294967296 by rw[←Nat.pow_succ];congr 1;omega,←Nat.div_div_eq_div_mul]
  have:=Nat.div_add_mod (a/4294967296^(i-1)) 4294967296
  omega
 have e2:=Nat.div_add_mod (a/4294967296^i) w
 have hr:a/4294967296^i%w<w:=Nat.mod_lt _ hw0
 generalize a/4294967296^i%w=r at *
 have e3:a/4294967296^(i-1)=(r*4294967296+dgt a (i-1))+w*(4294967296*(a/4294967296^i/w)):=by rw[e1];grind
 constructor
 ·rw[e3,Nat.add_mul_mod_self_left]
 ·rw[zah (a/w),Nat.div_div_eq_div_mul,Nat.mul_comm w,←Nat.div_div_eq_div_mul,e3,Nat.add_mul_div_left _ _ hw0,Nat.add_mul_mod_self_left]
  rw[Nat.mod_eq_of_lt]
  refine Nat.div_lt_of_lt_mul ?_
  have:(r+1)*4294967296≤w*4294967296:=Nat.mul_le_mul_right _ hr
  omega
theorem zgZ {E:PEnv} (hE:E.prog 48=some (.fn zwC)) {n a w:Nat} (ha:a<4294967296^n) (hw:w<4294967296) (hw0:w≠0) (hn:n<1073741824) (hO:E.ovr 48 [Dw n a,(PV.i .u32 ((w:Nat):Int))]=none:=by rfl):pf E 48 [Dw n a,(PV.i .u32 ((w:Nat):Int))]=some (.tu [Dw n (a/w),(PV.i .u32 ((a%w:Nat):Int))]):=by
 refine zaa (xf:=zwC) hE (by simp[zwC]) ?_ hO
 simp only[zwC]
 have hmw:a%w<w:=Nat.mod_lt _ (by omega)
 by_cases hn0:n=0
 ·subst hn0
  have ha0:a=0:=by simpa using ha
  subst ha0
  simp(disch:=omega)only[go_sem,seval,wqq,Int.natCast_zero,Int.add_zero,zcA,Int.reduceLE,Int.reduceToNat,zdK,Int.zero_sub,Int.reduceNeg]
  refine zcy ?_
  simp only[zxJ]
  simp(disch:=omega)only[go_sem,seval,wqq,Int.lt_irrefl,Int.reduceNeg,Int.reduceLE]
  rw[Nat.zero_div,Nat.zero_mod];rfl
 ·simp(disch:=omega)only[go_sem,seval,wqq,zco]
  refine zao zxJ.eq_1 (fun(i:Nat) fr M=>i≤n∧fr 0=Dw n a∧fr 1=(PV.i .u32 ((w:Nat):Int))∧fr 6=.sl 0 0 n n 1∧fr 8=.i .i64 ((i:Int)-1)∧fr 7=.i .u64 ((a/4294967296^i%w:Nat):Int) ∧
   ∃e:Nat,M=[some ⟨tab n fun k=>(PV.i .u32 ((if i≤k then dgt (a/w) k else 0:Nat):Int)),true,e⟩]) (fun i=>i) ?_ n ⟨Nat.le_refl _,by simp only[go_sem,seval],by simp only[go_sem,seval],by simp only[go_sem,seval],by simp only[go_sem,seval],?_,0,?_⟩
  ·rintro i fr M ⟨hi,h0,h1,h6,h8,h7,e,rfl⟩ ih
   by_cases hi0:i=0
   ·subst hi0
    simp only[Nat.pow_zero,Nat.div_one,Nat.zero_le,if_true] at h7 ⊢
    simp(disch:=omega)only[go_sem,seval,wqq,h6,h7,h8,Int.natCast_zero,Int.zero_sub,Int.reduceNeg,Int.reduceLE]
    rw[if_neg hn0];rfl
   ·have hc0:((0:Int)≤(i:Int)-1)=True:=by simp;omega
    have i1:((i:Int)-1)=((i-1:Nat):Int):=by omega
    have hr:a/4294967296^i%w<w:=Nat.mod_lt _ (by omega)
    have hd:=zat a (i-1)
    have hd2:=zat (a/w) (i-1)
    have hin:i-1<n:=by omega
    obtain⟨k1,k2⟩:=zj8 a w i (by omega) hi0
    have hr2:a/4294967296^(i-1)%w<w:=Nat.mod_lt _ (by omega)
    simp(disch:=omega)only[go_sem,seval,wqq,h0,h1,h6,h7,h8,hc0,i1,zaV,Int.reduceToNat,Nat.reducePow,zeh,zbr,zcj,zas,hin,k1,k2]
    have i2:(((i-1:Nat):Int)-1)=((i:Int)-1)-1:=by omega
    refine ih (i-1) _ _ (by omega) ⟨by omega,by simp only[go_sem,seval,h0],by simp only[go_sem,seval,h1],by simp only[go_sem,seval,h6],by simp only[go_sem,seval],by simp only[go_sem,seval],e+1,?_⟩
    congr 3
    refine zaf fun k hk=>?_
    by_cases hki:k=i-1
    ·subst hki
     rw[if_pos rfl,if_pos (Nat.le_refl _)]
    ·rw[if_neg hki]
     congr 2
     by_cases h:i≤k
     ·rw[if_pos h,if_pos (by omega)]
     ·rw[if_neg h,if_neg (by omega)]
  ·rw[Nat.div_eq_of_lt ha,Nat.zero_mod];simp only[go_sem,seval];try rfl
  ·rw[zcd]
   congr 3
   refine zaf fun k hk=>?_
   rw[if_neg (by omega)];rfl
theorem znm {n a w:Nat} (ha:a<4294967296^n) (hw:w<4294967296) (hw0:w≠0) (hn:n<1073741824):pf E0 48 [Dw n a,(PV.i .u32 ((w:Nat):Int))]=some (.tu [Dw n (a/w),(PV.i .u32 ((a%w:Nat):Int))]):=zgZ rfl ha hw hw0 hn
theorem zc9 {v n:Nat} (h:v<4294967296^n):wlen v≤n:=zaS.2 h
theorem zjS {n:Int} (h:Fits64 n):wlen n.natAbs≤512:=by
 obtain⟨h1,h2⟩:=h
 have:wlen n.natAbs≤2:=zc9 (by omega)
 omega
def wiOf (n:Int) (h:Fits64 n):WI:=⟨n,zjS h⟩
theorem zcL {n:Int} (h:Fits64 n):pf E0 34 [.i .i64 n]=some (wiP (wiOf n h)):=by
 refine zaa (xf:=zxg) rfl (by simp[zxg]) ?_
 simp only[zxg]
 obtain⟨h1,h2⟩:=h
 have hlt:n.natAbs<4294967296^2:=by omega
 have hs:=zaA (decide (n<0)) 2 n.natAbs hlt (by omega)
 have hw:wlen n.natAbs≤512:=by have:=zc9 hlt;omega
 rw[zaC (by simpa using hw)] at hs
 have e1:(if decide (n<0)=true then-((n.natAbs:Nat):Int) else ((n.natAbs:Nat):Int))=n:=by
  by_cases hn:n<0<;>simp[hn]<;>omega
 rw[e1,zbt hw] at hs
 have hD:Dw 2 n.natAbs=.lst [(PV.i .u32 ((n.natAbs%4294967296:Nat):Int)),(PV.i .u32 ((n.natAbs/4294967296:Nat):Int))]:=by
  have e:tab 2 (fun k=>(PV.i .u32 ((dgt n.natAbs k:Nat):Int)))=[(PV.i .u32 ((dgt n.natAbs 0:Nat):Int)),(PV.i .u32 ((dgt n.natAbs 1:Nat):Int))]:=rfl
  have:n.natAbs/4294967296^1%4294967296=n.natAbs/4294967296:=by rw[Nat.pow_one];exact Nat.mod_eq_of_lt (by omega)
  rw[Dw,e,zah,zah,this,Nat.pow_zero,Nat.div_one]
 rw[hD] at hs
 by_cases hn:n<0
 ·have u1:IntKind.wrap .u64 (0-IntKind.wrap .u64 n)=(n.natAbs:Int):=by rw[zd1,zd1];omega
  have hd:decide (n<0)=true:=by simp[hn]
  rw[hd] at hs
  simp(disch:=omega)only[go_sem,seval,wqq,hn,u1,zbb,Int.reduceToNat,Nat.reducePow,group,hs,List.headD_cons]
  simp only[zdX,wiOf,hd]
 ·have u1:IntKind.wrap .u64 n=(n.natAbs:Int):=by rw[zd1];omega
  have hd:decide (n<0)=false:=by simp;omega
  rw[hd] at hs
  simp(disch:=omega)only[go_sem,seval,wqq,hn,u1,zbb,Int.reduceToNat,Nat.reducePow,group,hs,List.headD_cons]
  simp only[zdX,wiOf,hd]
def isSmall (z:Int):Bool:=decide (-9223372036854775808≤z∧z≤9223372036854775807)
def small (z:Int):Int:=if isSmall z then z else 0
end Go.Eng
namespace Go.Eng
def len8 (j:Nat):Nat:=if j=0 then 0 else Nat.log2 j+1
set_option maxRecDepth 20000 in
theorem zfJ:∀j:Fin 256,(xs_1d3e63[j.val]?).map UInt8.toNat=some (len8 j.val):=by decide+kernel
theorem zeM {j:Nat} (h:j<256):len8 j≤8:=by
 unfold len8
 split
 ·omega
 ·have:Nat.log2 j<8:=(Nat.log2_lt (by omega)).2 (by omega)
  omega
theorem zkp {j:Nat} (h:j<256):istrP (.s xs_1d3e63) (some j)=some (.i .u8 (len8 j:Int)):=by
 have:=zfJ ⟨j,h⟩
 rw[zmG]
 simp only[Option.map_eq_some_iff] at this ⊢
 obtain⟨c,h1,h2⟩:=this
 exact⟨c,h1,by rw[h2]⟩
theorem zee {x s:Nat} (h:2^s≤x):Nat.log2 x=Nat.log2 (x/2^s)+s:=by
 induction s generalizing x with
 | zero=>simp
 | succ s ih =>
  have h2:2≤x:=Nat.le_trans (by rw[Nat.pow_succ];have:=Nat.pow_pos (n:=s) (show 0<2 by decide);omega) h
  rw[Nat.log2_def,if_pos h2,ih (x:=x/2) (by rw[Nat.le_div_iff_mul_le (by decide),←Nat.pow_succ];exact h),Nat.div_div_eq_div_mul,show 2*2^s=2^(s+1) by rw[Nat.pow_succ,Nat.mul_comm]]
  omega
theorem zmM {x:Nat} (h:65536≤x):Nat.log2 x=Nat.log2 (x/65536)+16:=zee (s:=16) h
theorem zlx {x:Nat} (h:256≤x):Nat.log2 x=Nat.log2 (x/256)+8:=zee (s:=8) h
def bits32 (x:Nat):Nat:=if x=0 then 0 else Nat.log2 x+1
theorem znb (x:Nat) (hx:x<4294967296):pf E0 76 [(PV.i .u32 ((x:Nat):Int))]=some (.i .i64 (bits32 x:Int)):=by
 refine zaa (xf:=zwj) rfl (by simp[zwj]) ?_
 simp only[zwj]
 have shr:∀(y:Nat) (s:Int),0≤s→s≤32→binP .shr (.i .u32 (y:Int)) (.i .u64 s)=some (.i .u32 ((y/2^s.toNat:Nat):Int)):=fun y s h1 h2=>by
  rw[zfO _ _ _ _ h1,show min s.toNat (IntKind.bits .u32)=s.toNat by simp only[IntKind.bits];omega,show ((2:Int)^s.toNat)=((2^s.toNat:Nat):Int) by simp,zfv]
 have hfold:=fun(j:Nat) (h:j<256)=>zkp h
 have hb:∀y:Nat,y≠0→len8 y=Nat.log2 y+1:=fun y h=>by unfold len8;rw[if_neg h]
 have b0:bits32 x=len8 x:=rfl
 by_cases h1:65536≤x
 ·have c1:((65536:Int)≤(x:Int))=True:=by simp;omega
  have l1:=zmM h1
  by_cases h2:256≤x/65536
  ·have c2:((256:Int)≤((x/65536:Nat):Int))=True:=by simp;omega
   have l2:=zlx h2
   have l3:=zeM (j:=x/65536/256) (by omega)
   have l4:=hb (x/65536/256) (by omega)
   have l5:=hb x (by omega)
   simp(disch:=omega)only[go_sem,seval,wqq,c1,c2,shr,hfold]
   rw[b0];congr 2;omega
  ·have c2:((256:Int)≤((x/65536:Nat):Int))=False:=by simp;omega
   have l3:=zeM (j:=x/65536) (by omega)
   have l4:=hb (x/65536) (by omega)
   have l5:=hb x (by omega)
   simp(disch:=omega)only[go_sem,seval,wqq,c1,c2,shr,hfold]
   rw[b0];congr 2;omega
 ·have c1:((65536:Int)≤(x:Int))=False:=by simp;omega
  by_cases h2:256≤x
  ·have c2:((256:Int)≤(x:Int))=True:=by simp;omega
   have l2:=zlx h2
   have l3:=zeM (j:=x/256) (by omega)
   have l4:=hb (x/256) (by omega)
   have l5:=hb x (by omega)
   simp(disch:=omega)only[go_sem,seval,wqq,c1,c2,shr,hfold]
   rw[b0];congr 2;omega
  ·have c2:((256:Int)≤(x:Int))=False:=by simp;omega
   have l3:=zeM (j:=x) (by omega)
   simp(disch:=omega)only[go_sem,seval,wqq,c1,c2,shr,hfold]
   rw[b0];congr 2;omega
theorem zfa {x:Nat} (h:x<4294967296):bits32 x≤32:=by
 unfold bits32
 split
 ·omega
 ·have:Nat.log2 x<32:=(Nat.log2_lt (by omega)).2 (by omega)
  omega
theorem zo6 (x:Nat) (hx:x<4294967296):pf E0 55 [(PV.i .u32 ((x:Nat):Int))]=some (.i .i64 ((32-bits32 x:Nat):Int)):=by
 refine zaa (xf:=zvX) rfl (by simp[zvX]) ?_
 simp only[zvX]
 have:=zfa hx
 simp(disch:=omega)only[go_sem,seval,wqq,znb]
 congr 2;omega
theorem zmL {x:Nat} (hx:x<4294967296) (h0:x≠0):2147483648≤x*2^(32-bits32 x)∧x*2^(32-bits32 x)<4294967296∧32-bits32 x<32:=by
 have hb:=zfa hx
 have h1:2^Nat.log2 x≤x:=Nat.log2_self_le h0
 have h2:x<2^(Nat.log2 x+1):=Nat.lt_log2_self
 unfold bits32 at *
 rw[if_neg h0] at *
 refine⟨?_,?_,by omega⟩
 ·have:2^Nat.log2 x*2^(32-(Nat.log2 x+1))≤x*2^(32-(Nat.log2 x+1)):=Nat.mul_le_mul_right _ h1
  rw[←Nat.pow_add,show Nat.log2 x+(32-(Nat.log2 x+1))=31 by omega] at this
  omega
 ·have:x*2^(32-(Nat.log2 x+1))<2^(Nat.log2 x+1)*2^(32-(Nat.log2 x+1)):=Nat.mul_lt_mul_of_pos_right h2 (Nat.pow_pos (by decide))
  rw[←Nat.pow_add,show Nat.log2 x+1+(32-(Nat.log2 x+1))=32 by omega] at this
  omega
theorem zaU (M:PM) (b:Option PB):PM.blk (M++[b]) M.length=b:=by
 unfold PM.blk;cases b<;>simp
theorem zbW (M:PM) (b c:Option PB):(M++[b]).set M.length c=M++[c]:=by simp[List.set_append]
theorem zjY {x y:Nat} (hx:x<4294967296) (hy:y<4294967296):binP .or (.i .u32 (x:Int)) (.i .u32 (y:Int))=some (.i .u32 ((x ||| y:Nat):Int)):=by
 have h:(BitVec.ofInt 32 (x:Int) ||| BitVec.ofInt 32 (y:Int)).toNat=x ||| y:=by
  rw[BitVec.toNat_or,BitVec.ofInt_natCast,BitVec.ofInt_natCast,BitVec.toNat_ofNat,BitVec.toNat_ofNat,Nat.mod_eq_of_lt (by omega),Nat.mod_eq_of_lt (by omega)]
 have hlt:x ||| y<2^32:=Nat.or_lt_two_pow (by omega) (by omega)
 have h2:binP .or (.i .u32 (x:Int)) (.i .u32 (y:Int))=some (.i .u32 (IntKind.wrap .u32 (((BitVec.ofInt 32 (x:Int) ||| BitVec.ofInt 32 (y:Int)).toNat:Nat):Int))):=rfl
 rw[h2,h,wqc (by omega) (by omega)]
theorem zhG {x by_ c:Nat} (hb:by_<32) (hx:x<4294967296) (hc:c<2^by_):c ||| x*2^by_%4294967296=(c+x*2^by_)%4294967296∧(c+x*2^by_)/4294967296=x*2^by_/4294967296∧x*2^by_/4294967296<2^by_:=by
 have e:(4294967296:Nat)=2^by_*2^(32-by_):=by rw[←Nat.pow_add,show by_+(32-by_)=32 by omega]
 have hp:0<2^by_:=Nat.pow_pos (by decide)
 have h1:x*2^by_%4294967296=2^by_*(x%2^(32-by_)):=by rw[e,Nat.mul_comm x,Nat.mul_mod_mul_left]
 have h2:x*2^by_/4294967296=x/2^(32-by_):=by rw[e,Nat.mul_comm x,Nat.mul_div_mul_left _ _ hp]
 have h3:x%2^(32-by_)<2^(32-by_):=Nat.mod_lt _ (Nat.pow_pos (by decide))
 have h4:2^by_*(x%2^(32-by_)+1)≤2^by_*2^(32-by_):=Nat.mul_le_mul_left _ h3
 rw[←e,Nat.mul_add] at h4
 have h5:=Nat.div_add_mod (x*2^by_) 4294967296
 rw[h1] at h5
 refine⟨?_,?_,?_⟩
 ·rw[h1,Nat.or_comm,←Nat.two_pow_add_eq_or_of_lt hc]
  omega
 ·omega
 ·rw[h2,Nat.div_lt_iff_lt_mul (Nat.pow_pos (by decide)),←e];exact hx
theorem zfH {F:PFin} {ks:List KI} {n a by_ e0:Nat} (M0:PM) (hn:n<1073741824) (hb:by_<32) (ha:a<4294967296^n) {fr:PFr} {M:PM} (h1:fr 1=.i .i64 (by_:Int)) (h5:fr 5=.sl M0.length 0 (n+1) (n+1) 1) (h13:fr 13=Dw n a) (h14:fr 14=.i .i64 (n:Int)) (h15:fr 15=.i .i64 0)
  (hM:M=M0++[some ⟨List.replicate (n+1) (.i .u32 0),true,e0⟩])
  (cont:∀fr' e,fr' 5=.sl M0.length 0 (n+1) (n+1) 1→UK E0 F (.exit 0) ks fr' (M0++[some ⟨tab (n+1) (fun k=>(PV.i .u32 ((dgt (a*2^by_) k:Nat):Int))),true,e⟩])):WK E0 F (.loop zw5) ks fr M:=by
 refine zao zw5.eq_1 (fun(i:Nat) fr M=>i≤n∧fr 1=.i .i64 (by_:Int)∧fr 5=.sl M0.length 0 (n+1) (n+1) 1∧fr 13=Dw n a∧fr 14=.i .i64 (n:Int)∧fr 15=.i .i64 (i:Int) ∧
  ∃c e:Nat,M=M0++[some ⟨tab (n+1) fun k=>(PV.i .u32 ((if k<i then dgt (a*2^by_) k else if k=i then c else 0:Nat):Int)),true,e⟩]∧c<2^by_∧a%4294967296^i*2^by_=(a*2^by_)%4294967296^i+4294967296^i*c)
  (fun i=>n-i) ?_ 0 ⟨Nat.zero_le _,h1,h5,h13,h14,h15,0,e0,?_,Nat.pow_pos (by decide),by simp[Nat.mod_one]⟩
 ·rintro i fr M ⟨hi,h1,h5,h13,h14,h15,c,e,rfl,hc,hinv⟩ ih
  by_cases hin:i<n
  ·have hc0:((i:Int)<(n:Int))=True:=by simp;omega
   have i1:((i:Int)+1)=((i+1:Nat):Int):=by omega
   have hd:=zat a i
   have hin1:i<n+1:=by omega
   have hin2:i+1<n+1:=by omega
   have hp32:2^by_<4294967296:=by
    have:=Nat.pow_lt_pow_right (show 1<2 by decide) hb
    omega
   have hv:dgt a i*2^by_<18446744073709551616:=by
    have:=Nat.mul_lt_mul'' hd hp32
    omega
   have hsh:binP .shl (.i .u64 (dgt a i:Int)) (.i .i64 (by_:Int))=some (.i .u64 ((dgt a i*2^by_:Nat):Int)):=by
    rw[zfN _ _ _ (by omega) (by omega),Int.toNat_natCast,wqb (by omega) (by omega)]
   obtain⟨w1,w2,w3⟩:=zhG hb hd hc
   have hget:(tab (n+1) fun k=>(PV.i .u32 ((if k<i then dgt (a*2^by_) k else if k=i then c else 0:Nat):Int)))[i]?=some (PV.i .u32 ((c:Nat):Int)):=by rw[zaM hin1,if_neg (by omega),if_pos rfl]
   simp(disch:=omega)only[go_sem,seval,wqq,h1,h5,h13,h14,h15,hc0,i1,zaV,hsh,hin1,hin2,zaU,zbW,zas,hget,zbb,zjY,w1]
   obtain⟨k1,k2⟩:=zfS (P:=4294967296^i) (T:=a%4294967296^i*2^by_) (s:=a*2^by_) (c:=c) (d:=dgt a i*2^by_) (r:=a/(4294967296^i*4294967296)*2^by_) (zbz i) hinv (by
    have:=zb1 a i
    generalize a/(4294967296^i*4294967296)=q at *
    generalize a%4294967296^i=r at *
    generalize 4294967296^i=p at *
    generalize dgt a i=d at *
    generalize 2^by_=t at *
    subst this
    grind)
   refine ih (i+1) _ _ (by omega) ⟨by omega,by simp only[go_sem,seval,h1],by simp only[go_sem,seval,h5],by simp only[go_sem,seval,h13],by simp only[go_sem,seval,h14],by simp only[go_sem,seval],dgt a i*2^by_/4294967296,e+1+1,?_,w3,?_⟩
   ·congr 4
    refine zaf fun k hk=>?_
    by_cases h1:k=i+1
    ·subst h1
     rw[if_pos rfl,if_neg (by omega),if_pos rfl]
    ·rw[if_neg h1]
     by_cases h2:k=i
     ·subst h2
      rw[if_pos rfl,if_pos (by omega)]
      congr 2;rw[zah (a*2^by_)];exact k1.symm
     ·rw[if_neg h2]
      congr 2
      by_cases h3:k<i
      ·rw[if_pos h3,if_pos (by omega)]
      ·rw[if_neg h3,if_neg (by omega),if_neg (by omega),if_neg (by omega)]
   ·rw[←w2,Nat.pow_succ,←k2,←Nat.pow_succ,zaD]
    grind
  ·have hc0:((i:Int)<(n:Int))=False:=by simp;omega
   obtain rfl:i=n:=by omega
   simp only[go_sem,seval,h14,h15,hc0]
   rw[Nat.mod_eq_of_lt ha] at hinv
   have hcd:c=dgt (a*2^by_) i:=by
    have h1:=Nat.div_add_mod (a*2^by_) (4294967296^i)
    have h2:(a*2^by_)/4294967296^i=c:=Nat.eq_of_mul_eq_mul_left (zbz i) (by omega)
    rw[zah,h2,Nat.mod_eq_of_lt]
    have:=Nat.pow_lt_pow_right (show 1<2 by decide) hb
    omega
   have ht:(tab (i+1) fun k=>(PV.i .u32 ((if k<i then dgt (a*2^by_) k else if k=i then c else 0:Nat):Int)))=tab (i+1) fun k=>(PV.i .u32 ((dgt (a*2^by_) k:Nat):Int)):=zaf fun k hk=>by
    by_cases h:k<i
    ·rw[if_pos h]
    ·rw[if_neg h,if_pos (by omega),hcd,show k=i by omega]
   rw[ht]
   exact cont _ e (by simp only[go_sem,seval,h5])
 ·rw[hM,zcd]
  congr 4
  refine zaf fun k hk=>?_
  by_cases h:k=0
  ·rw[if_neg (by omega),if_pos h];rfl
  ·rw[if_neg (by omega),if_neg h];rfl
theorem zfD {n a by_:Nat} (M:PM) (hn:n<1073741824) (hb:by_<32) (ha:a<4294967296^n):∃e,pcl E0 56 [Dw n a,.i .i64 (by_:Int)] M=some (.sl M.length 0 (n+1) (n+1) 1,M++[some ⟨tab (n+1) (fun k=>(PV.i .u32 ((dgt (a*2^by_) k:Nat):Int))),true,e⟩]):=by
 have key:∃v M',pcl E0 56 [Dw n a,.i .i64 (by_:Int)] M=some (v,M')∧v=.sl M.length 0 (n+1) (n+1) 1∧∃e,M'=M++[some ⟨tab (n+1) (fun k=>(PV.i .u32 ((dgt (a*2^by_) k:Nat):Int))),true,e⟩]:=by
  refine zeV (xf:=zwG) rfl rfl (by simp[zwG]) ?_
  simp only[zwG]
  have n1:((n:Int)+1)=((n+1:Nat):Int):=by omega
  simp(disch:=omega)only[go_sem,seval,wqq,n1,zco]
  refine zfH M hn hb ha (by simp only[go_sem,seval]) (by simp only[go_sem,seval]) (by simp only[go_sem,seval]) (by simp only[go_sem,seval]) (by simp only[go_sem,seval]) rfl fun fr' e g5=>?_
  simp only[go_sem,seval,g5]
  exact⟨e,rfl⟩
 obtain⟨v,M',h,rfl,e,rfl⟩:=key
 exact⟨e,h⟩
end Go.Eng
namespace Go.Eng
theorem zbA {x:Int} (h:0≤x):binP .shr (.i .u64 x) (.i .u64 63)=some (.i .u64 (x/9223372036854775808)):=by
 rw[zfO _ _ _ _ (by omega),show min (63:Int).toNat (IntKind.bits .u64)=63 by decide,Int.fdiv_eq_ediv_of_nonneg _ (by omega)]
 rfl
theorem zgn {L X j k:Nat} (hL:L<4294967296^j):dgt (L+4294967296^j*X) k=if j≤k then dgt X (k-j) else dgt L k:=by
 split
 ·rename_i h
  rw[zah,zah,show (4294967296:Nat)^k=4294967296^j*4294967296^(k-j) by rw[←Nat.pow_add];congr 1;omega,←Nat.div_div_eq_div_mul,Nat.add_mul_div_left _ _ (zbz j),Nat.div_eq_of_lt hL,Nat.zero_add]
 ·rename_i h
  rw[zah,zah,show (4294967296:Nat)^j=4294967296^k*(4294967296*4294967296^(j-k-1)) by rw[←Nat.pow_succ',←Nat.pow_add];congr 1;omega,Nat.mul_assoc,Nat.add_mul_div_left _ _ (zbz k),Nat.mul_assoc,Nat.add_mul_mod_self_left]
theorem zbd {U j i:Nat}:dgt U (j+i)=dgt (U/4294967296^j) i:=by
 rw[zah,zah,Nat.pow_add,←Nat.div_div_eq_div_mul]
theorem zme {U j k:Nat} (h:k<j):dgt (U%4294967296^j) k=dgt U k:=by
 have:=zgn (L:=U%4294967296^j) (X:=U/4294967296^j) (j:=j) (k:=k) (Nat.mod_lt _ (zbz j))
 rw[Nat.mod_add_div,if_neg (by omega)] at this
 exact this.symm
theorem zh2 {X n i b:Nat} (h:i<n):dgt (X+4294967296^n*b) i=dgt X i:=by
 rw[zah,zah,show (4294967296:Nat)^n=4294967296^i*(4294967296*4294967296^(n-i-1)) by rw[←Nat.pow_succ',←Nat.pow_add];congr 1;omega,Nat.mul_assoc,Nat.add_mul_div_left _ _ (zbz i),Nat.mul_assoc,Nat.add_mul_mod_self_left]
set_option maxHeartbeats 2000000 in
theorem zjG {F:PFin} {ks:List KI} {n N U v q j X' bo e0 cap cv:Nat} {b1:Nat} {rest:PM} (hn:n<1073741824) (hj:j+(n+1)≤N) (hN:N<1073741824) (hv:v<4294967296^n) (hq:q<4294967296) (hbo:bo≤1)
  (hX:U/4294967296^j+4294967296^(n+1)*bo=X'+q*v) {fr:PFr} {M:PM} (h0:fr 0=.sl 0 j (n+1) cap 1) (h1:fr 1=.sl 1 0 n cv 1) (h2:fr 2=.i .u64 (q:Int)) (h7:fr 7=.i .u64 0) (h8:fr 8=.i .u64 0) (h13:fr 13=.i .i64 ((n+1:Nat):Int)) (h14:fr 14=.i .i64 0)
  (hM:M=some ⟨tab N fun k=>(PV.i .u32 ((dgt U k:Nat):Int)),true,e0⟩::some ⟨tab (n+1) fun k=>(PV.i .u32 ((dgt v k:Nat):Int)),true,b1⟩::rest)
  (cont:∀fr' e (c:Nat),fr' 8=.i .u64 (c:Int)→c≤1→X'%4294967296^(n+1)+(q*v)%4294967296^(n+1)=(U/4294967296^j+4294967296^(n+1)*bo)%4294967296^(n+1)+4294967296^(n+1)*c →
   UK E0 F (.exit 0) ks fr' (some ⟨tab N fun k=>(PV.i .u32 ((if j≤k∧k<j+(n+1) then dgt X' (k-j) else dgt U k:Nat):Int)),true,e⟩::some ⟨tab (n+1) fun k=>(PV.i .u32 ((dgt v k:Nat):Int)),true,b1⟩::rest)):WK E0 F (.loop zw4) ks fr M:=by
 refine zao zw4.eq_1 (fun(i:Nat) fr M=>i≤n+1∧fr 0=.sl 0 j (n+1) cap 1∧fr 1=.sl 1 0 n cv 1∧fr 2=.i .u64 (q:Int)∧fr 13=.i .i64 ((n+1:Nat):Int)∧fr 14=.i .i64 (i:Int) ∧
  ∃cy c e:Nat,fr 7=.i .u64 (cy:Int)∧fr 8=.i .u64 (c:Int)∧M=some ⟨tab N fun k=>(PV.i .u32 ((if j≤k∧k<j+i then dgt X' (k-j) else dgt U k:Nat):Int)),true,e⟩::some ⟨tab (n+1) fun k=>(PV.i .u32 ((dgt v k:Nat):Int)),true,b1⟩::rest∧cy<4294967296∧c≤1 ∧
   q*(v%4294967296^i)=(q*v)%4294967296^i+4294967296^i*cy∧X'%4294967296^i+(q*v)%4294967296^i=(U/4294967296^j+4294967296^(n+1)*bo)%4294967296^i+4294967296^i*c)
  (fun i=>n+1-i) ?_ 0 ⟨Nat.zero_le _,h0,h1,h2,h13,h14,0,0,e0,h7,h8,?_,by decide,by decide,by simp[Nat.mod_one],by simp[Nat.mod_one]⟩
 ·rintro i fr M ⟨hi,h0,h1,h2,h13,h14,cy,c,e,h7,h8,rfl,hcy,hc,hinv1,hinv2⟩ ih
  by_cases hin:i<n+1
  ·have hc0:((i:Int)<((n+1:Nat):Int))=True:=by simp;omega
   have i1:((i:Int)+1)=((i+1:Nat):Int):=by omega
   have hdv:=zat v i
   have hdx:=zat X' i
   have hdu:=zat U (j+i)
   have hdA:dgt (U/4294967296^j+4294967296^(n+1)*bo) i=dgt U (j+i):=by rw[zh2 hin,zbd]
   have hji:j+i<N:=by omega
   have hget:(tab N fun k=>(PV.i .u32 ((if j≤k∧k<j+i then dgt X' (k-j) else dgt U k:Nat):Int)))[j+i]?=some (PV.i .u32 ((dgt U (j+i):Nat):Int)):=by rw[zaM hji,if_neg (by omega)]
   have hmul:q*dgt v i≤4294967295*4294967295:=Nat.mul_le_mul (by omega) (by omega)
   obtain⟨k1,k2⟩:=zfS (P:=4294967296^i) (T:=q*(v%4294967296^i)) (s:=q*v) (c:=cy) (d:=q*dgt v i) (r:=q*(v/(4294967296^i*4294967296))) (zbz i) hinv1 (by
    have:=zb1 v i
    generalize v/(4294967296^i*4294967296)=z at *
    generalize v%4294967296^i=r at *
    generalize 4294967296^i=p at *
    generalize dgt v i=d at *
    subst this
    grind)
   have k1':dgt (q*v) i=(cy+q*dgt v i)%4294967296:=by rw[zah (q*v)];exact k1
   obtain⟨k3,k4⟩:=zfS (P:=4294967296^i) (T:=X'%4294967296^i+(q*v)%4294967296^i) (s:=U/4294967296^j+4294967296^(n+1)*bo) (c:=c) (d:=dgt X' i+dgt (q*v) i) (r:=X'/(4294967296^i*4294967296)+q*v/(4294967296^i*4294967296)) (zbz i) hinv2 (by
    rw[hX]
    have h1:=zb1 X' i
    have h2:=zb1 (q*v) i
    rw[Nat.mul_add,Nat.mul_add];omega)
   rw[←zah,hdA,k1'] at k3
   have fin:∀(t:Int) fr',t=(dgt X' i:Int)→fr' 0=.sl 0 j (n+1) cap 1→fr' 1=.sl 1 0 n cv 1→fr' 2=.i .u64 (q:Int)→fr' 13=.i .i64 ((n+1:Nat):Int)→fr' 14=.i .i64 ((i+1:Nat):Int)→fr' 7=.i .u64 (((cy+q*dgt v i)/4294967296:Nat):Int)→fr' 8=.i .u64 (((c+(dgt X' i+(cy+q*dgt v i)%4294967296))/4294967296:Nat):Int) →
     WK E0 F (.loop zw4) ks fr' (some ⟨tab N fun k=>if k=j+i then .i .u32 t else (PV.i .u32 ((if j≤k∧k<j+i then dgt X' (k-j) else dgt U k:Nat):Int)),true,e+1⟩::some ⟨tab (n+1) fun k=>(PV.i .u32 ((dgt v k:Nat):Int)),true,b1⟩::rest):=by
    intro t fr' ht g0 g1 g2 g13 g14 g7 g8
    refine ih (i+1) _ _ (by omega) ⟨by omega,g0,g1,g2,g13,g14,_,_,e+1,g7,g8,?_,by omega,by omega,?_,?_⟩
    ·congr 3
     refine zaf fun k hk=>?_
     by_cases hki:k=j+i
     ·subst hki
      rw[if_pos rfl,if_pos (by omega),ht,show j+i-j=i by omega]
     ·rw[if_neg hki]
      congr 2
      by_cases h:j≤k∧k<j+i
      ·rw[if_pos h,if_pos (by omega)]
      ·rw[if_neg h,if_neg (by omega)]
    ·rw[Nat.pow_succ,←k2,←Nat.pow_succ,zaD];grind
    ·rw[k1'] at k4
     rw[Nat.pow_succ,←k4,←Nat.pow_succ,zaD X',zaD (q*v),k1',Nat.mul_add];omega
   have hpl:(cy+q*dgt v i)%4294967296<4294967296:=Nat.mod_lt _ (by decide)
   have p64:cy+q*dgt v i<18446744073709551616:=by omega
   have wneg:∀x:Int,-1≤x→x<0→IntKind.wrap .u64 x=18446744073709551615:=fun x h1 h2=>by rw[zd1];omega
   have wneg2:∀x:Int,-4294967296≤x→x<0→IntKind.wrap .u64 x=18446744073709551616+x:=fun x h1 h2=>by rw[zd1];omega
   by_cases him:i<n
   ·have hc1:((i:Int)<(n:Int))=True:=by simp;omega
    have hgv:(tab (n+1) fun k=>(PV.i .u32 ((dgt v k:Nat):Int)))[i]?=some (PV.i .u32 ((dgt v i:Nat):Int)):=zaM (by omega)
    have hww:((cy:Int)+(q:Int)*(dgt v i:Int))=((cy+q*dgt v i:Nat):Int):=by simp
    have hqq:IntKind.wrap .u64 ((q:Int)*(dgt v i:Int))=(q:Int)*(dgt v i:Int):=by
     have:((q:Int)*(dgt v i:Int))=((q*dgt v i:Nat):Int):=by simp
     rw[this,wqb (by omega) (by omega)]
    generalize hp:cy+q*dgt v i=p at *
    by_cases hle:p%4294967296+c≤dgt U (j+i)
    ·simp(disch:=omega)only[go_sem,seval,wqq,h0,h1,h2,h7,h8,h13,h14,hc0,hc1,i1,hget,hgv,him,hin,hqq,hww,zbb,hji,zas,zbA]
     exact fin _ _ (by omega) (by simp only[go_sem,seval,h0]) (by simp only[go_sem,seval,h1]) (by simp only[go_sem,seval,h2]) (by simp only[go_sem,seval,h13]) (by simp only[go_sem,seval]) (by simp only[go_sem,seval]) (by simp only[go_sem,seval];congr 1;omega)
    ·by_cases hle2:p%4294967296≤dgt U (j+i)
     ·simp(disch:=omega)only[go_sem,seval,wqq,h0,h1,h2,h7,h8,h13,h14,hc0,hc1,i1,hget,hgv,him,hin,hqq,hww,zbb,hji,zas,zbA,wneg,zd0]
      exact fin _ _ (by omega) (by simp only[go_sem,seval,h0]) (by simp only[go_sem,seval,h1]) (by simp only[go_sem,seval,h2]) (by simp only[go_sem,seval,h13]) (by simp only[go_sem,seval]) (by simp only[go_sem,seval]) (by simp only[go_sem,seval];congr 1;omega)
     ·simp(disch:=omega)only[go_sem,seval,wqq,h0,h1,h2,h7,h8,h13,h14,hc0,hc1,i1,hget,hgv,him,hin,hqq,hww,zbb,hji,zas,zbA,wneg2,zd0]
      exact fin _ _ (by omega) (by simp only[go_sem,seval,h0]) (by simp only[go_sem,seval,h1]) (by simp only[go_sem,seval,h2]) (by simp only[go_sem,seval,h13]) (by simp only[go_sem,seval]) (by simp only[go_sem,seval]) (by simp only[go_sem,seval];congr 1;omega)
   ·have hc1:((i:Int)<(n:Int))=False:=by simp;omega
    have hz:dgt v i=0:=zbu hv (by omega)
    simp only[hz,Nat.mul_zero,Nat.add_zero] at fin k3 hpl p64
    by_cases hle:cy%4294967296+c≤dgt U (j+i)
    ·simp(disch:=omega)only[go_sem,seval,wqq,h0,h1,h2,h7,h8,h13,h14,hc0,hc1,i1,hget,hin,zbb,hji,zas,zbA]
     exact fin _ _ (by omega) (by simp only[go_sem,seval,h0]) (by simp only[go_sem,seval,h1]) (by simp only[go_sem,seval,h2]) (by simp only[go_sem,seval,h13]) (by simp only[go_sem,seval]) (by simp only[go_sem,seval]) (by simp only[go_sem,seval];congr 1;omega)
    ·by_cases hle2:cy%4294967296≤dgt U (j+i)
     ·simp(disch:=omega)only[go_sem,seval,wqq,h0,h1,h2,h7,h8,h13,h14,hc0,hc1,i1,hget,hin,zbb,hji,zas,zbA,wneg,zd0]
      exact fin _ _ (by omega) (by simp only[go_sem,seval,h0]) (by simp only[go_sem,seval,h1]) (by simp only[go_sem,seval,h2]) (by simp only[go_sem,seval,h13]) (by simp only[go_sem,seval]) (by simp only[go_sem,seval]) (by simp only[go_sem,seval];congr 1;omega)
     ·simp(disch:=omega)only[go_sem,seval,wqq,h0,h1,h2,h7,h8,h13,h14,hc0,hc1,i1,hget,hin,zbb,hji,zas,zbA,wneg2,zd0]
      exact fin _ _ (by omega) (by simp only[go_sem,seval,h0]) (by simp only[go_sem,seval,h1]) (by simp only[go_sem,seval,h2]) (by simp only[go_sem,seval,h13]) (by simp only[go_sem,seval]) (by simp only[go_sem,seval]) (by simp only[go_sem,seval];congr 1;omega)
  ·have hc0:((i:Int)<((n+1:Nat):Int))=False:=by simp;omega
   obtain rfl:i=n+1:=by omega
   simp only[go_sem,seval,h13,h14,hc0]
   exact cont _ e c (by simp only[go_sem,seval,h8]) hc hinv2
 ·rw[hM]
  congr 3
  refine zaf fun k hk=>?_
  rw[if_neg (by omega)]
end Go.Eng
namespace Go.Eng
theorem zgD {N n j U X':Nat} (hU:U<4294967296^(j+(n+1))) (hX:X'<4294967296^(n+1)):(tab N fun k=>(PV.i .u32 ((if j≤k∧k<j+(n+1) then dgt X' (k-j) else dgt U k:Nat):Int)))=tab N fun k=>(PV.i .u32 ((dgt (U%4294967296^j+4294967296^j*X') k:Nat):Int)):=by
 refine zaf fun k hk=>?_
 congr 2
 rw[zgn (Nat.mod_lt _ (zbz j))]
 by_cases h1:j≤k
 ·rw[if_pos h1]
  by_cases h2:k<j+(n+1)
  ·rw[if_pos ⟨h1,h2⟩]
  ·rw[if_neg (by omega),zbu hU (by omega),zbu hX (by omega)]
 ·rw[if_neg (by omega),if_neg h1,zme (by omega)]
theorem zlP {n N U v q j X' bo e0 cap cv b1:Nat} {rest:PM} (hn:n<1073741824) (hj:j+(n+1)≤N) (hN:N<1073741824) (hv:v<4294967296^n) (hq:q<4294967296) (hbo:bo≤1)
  (hU:U<4294967296^(j+(n+1))) (hX':X'<4294967296^(n+1)) (hX:U/4294967296^j+4294967296^(n+1)*bo=X'+q*v) :
  ∃e,pcl E0 57 [.sl 0 j (n+1) cap 1,.sl 1 0 n cv 1,.i .u64 (q:Int)] (some ⟨tab N fun k=>(PV.i .u32 ((dgt U k:Nat):Int)),true,e0⟩::some ⟨tab (n+1) fun k=>(PV.i .u32 ((dgt v k:Nat):Int)),true,b1⟩::rest) =
   some (.b (decide (bo=1)),some ⟨tab N fun k=>(PV.i .u32 ((dgt (U%4294967296^j+4294967296^j*X') k:Nat):Int)),true,e⟩::some ⟨tab (n+1) fun k=>(PV.i .u32 ((dgt v k:Nat):Int)),true,b1⟩::rest):=by
 have key:∃w M',pcl E0 57 [.sl 0 j (n+1) cap 1,.sl 1 0 n cv 1,.i .u64 (q:Int)] (some ⟨tab N fun k=>(PV.i .u32 ((dgt U k:Nat):Int)),true,e0⟩::some ⟨tab (n+1) fun k=>(PV.i .u32 ((dgt v k:Nat):Int)),true,b1⟩::rest)=some (w,M') ∧
   w=.b (decide (bo=1))∧∃e,M'=some ⟨tab N fun k=>(PV.i .u32 ((dgt (U%4294967296^j+4294967296^j*X') k:Nat):Int)),true,e⟩::some ⟨tab (n+1) fun k=>(PV.i .u32 ((dgt v k:Nat):Int)),true,b1⟩::rest:=by
  refine zeV (xf:=zxb) rfl rfl (by simp[zxb]) ?_
  simp only[zxb]
  simp(disch:=omega)only[go_sem,seval,wqq]
  refine zjG (cap:=cap) (cv:=cv) hn hj hN hv hq hbo hX (by simp only[go_sem,seval]) (by simp only[go_sem,seval]) (by simp only[go_sem,seval]) (by simp only[go_sem,seval]) (by simp only[go_sem,seval]) (by simp only[go_sem,seval]) (by simp only[go_sem,seval]) rfl fun fr' e c g8 hc hinv=>?_
  rw[zgD hU hX']
  have hXlt:U/4294967296^j<4294967296^(n+1):=by
   rw[Nat.div_lt_iff_lt_mul (zbz j),←Nat.pow_add,Nat.add_comm (n+1)];exact hU
  have hqv:q*v<4294967296^(n+1):=by
   rw[Nat.pow_succ,Nat.mul_comm]
   exact Nat.mul_lt_mul'' hv hq
  rw[Nat.mod_eq_of_lt hX',Nat.mod_eq_of_lt hqv,Nat.add_mul_mod_self_left,Nat.mod_eq_of_lt hXlt] at hinv
  have hcb:c=bo:=by
   have:=zbz (n+1)
   exact Nat.eq_of_mul_eq_mul_left this (by omega)
  simp only[go_sem,seval,g8]
  refine⟨?_,e,rfl⟩
  congr 1
  exact decide_eq_decide.2 (by omega)
 obtain⟨w,M',h,rfl,e,rfl⟩:=key
 exact⟨e,h⟩
theorem zel (b0 b1 b2:Option PB) (Cs:PM) (c v e:Nat) (h:c+v<18446744073709551616) :
  pcl E0 77 [.i .u64 (v:Int),.p (Cs.length+1+1+1) 0] (b0::b1::b2::(Cs++[some ⟨[.i .u64 (c:Int)],true,e⟩]))=some ((PV.i .u32 (((c+v)%4294967296:Nat):Int)),b0::b1::b2::(Cs++[some ⟨[.i .u64 (((c+v)/4294967296:Nat):Int)],true,e+2⟩])):=by
 have hb:PM.blk (b0::b1::b2::(Cs++[some ⟨[.i .u64 (c:Int)],true,e⟩])) (Cs.length+1+1+1)=some ⟨[.i .u64 (c:Int)],true,e⟩:=by
  rw[zew,zew,zew,zaU]
 rw[zc1 _ _ c v e hb h]
 congr 2
 rw[List.set_cons_succ,List.set_cons_succ,List.set_cons_succ,zbW]
set_option maxHeartbeats 1000000 in
theorem zjV {F:PFin} {ks:List KI} {n N U v j X' X'' e0 cap cv:Nat} {b1:Nat} {b2:Option PB} {Cs:PM} (hn:n<1073741824) (hj:j+(n+1)≤N) (hN:N<1073741824) (hv:v<4294967296^n)
  (hXU:U/4294967296^j=X') (hX:X'+v=X''+4294967296^(n+1)) {O out I:PV} {fr:PFr} {M:PM} (h9:fr 9=.sl 0 0 N cap 1) (h10:fr 10=.sl 1 0 n cv 1) (h11:fr 11=.i .i64 (n:Int)) (h15:fr 15=.i .i64 (j:Int)) (h19:fr 19=.fn 77 [.p (Cs.length+1+1+1) 0]) (h169:fr 169=.i .i64 ((n+1:Nat):Int)) (h170:fr 170=.i .i64 0)
  (h12:fr 12=O) (h13:fr 13=out) (h14:fr 14=I) (S:PV) (h8:fr 8=S)
  (hM:M=some ⟨tab N fun k=>(PV.i .u32 ((dgt U k:Nat):Int)),true,e0⟩::some ⟨tab (n+1) fun k=>(PV.i .u32 ((dgt v k:Nat):Int)),true,b1⟩::b2::(Cs++[some ⟨[.i .u64 0],true,0⟩]))
  (cont:∀fr' e cb,fr' 8=S→fr' 9=.sl 0 0 N cap 1→fr' 10=.sl 1 0 n cv 1→fr' 11=.i .i64 (n:Int)→fr' 12=O→fr' 13=out→fr' 14=I→fr' 15=.i .i64 (j:Int) →
   UK E0 F (.exit 4) ks fr' (some ⟨tab N fun k=>(PV.i .u32 ((if j≤k∧k<j+(n+1) then dgt X'' (k-j) else dgt U k:Nat):Int)),true,e⟩::some ⟨tab (n+1) fun k=>(PV.i .u32 ((dgt v k:Nat):Int)),true,b1⟩::b2::(Cs++[cb]))):WK E0 F (.loop zwI) ks fr M:=by
 refine zao zwI.eq_1 (fun(i:Nat) fr M=>i≤n+1∧fr 9=.sl 0 0 N cap 1∧fr 10=.sl 1 0 n cv 1∧fr 11=.i .i64 (n:Int)∧fr 15=.i .i64 (j:Int)∧fr 19=.fn 77 [.p (Cs.length+1+1+1) 0]∧fr 169=.i .i64 ((n+1:Nat):Int)∧fr 170=.i .i64 (i:Int)∧fr 12=O∧fr 13=out∧fr 14=I∧fr 8=S ∧
  ∃c e e2:Nat,M=some ⟨tab N fun k=>(PV.i .u32 ((if j≤k∧k<j+i then dgt X'' (k-j) else dgt U k:Nat):Int)),true,e⟩::some ⟨tab (n+1) fun k=>(PV.i .u32 ((dgt v k:Nat):Int)),true,b1⟩::b2::(Cs++[some ⟨[.i .u64 (c:Int)],true,e2⟩])∧c≤1∧X'%4294967296^i+v%4294967296^i=(X''+4294967296^(n+1)*1)%4294967296^i+4294967296^i*c)
  (fun i=>n+1-i) ?_ 0 ⟨Nat.zero_le _,h9,h10,h11,h15,h19,h169,h170,h12,h13,h14,h8,0,e0,0,?_,Nat.zero_le _,by simp[Nat.mod_one]⟩
 ·rintro i fr M ⟨hi,h9,h10,h11,h15,h19,h169,h170,h12,h13,h14,h8,c,e,e2,rfl,hc,hinv⟩ ih
  by_cases hin:i<n+1
  ·have hc0:((i:Int)<((n+1:Nat):Int))=True:=by simp;omega
   have i1:((i:Int)+1)=((i+1:Nat):Int):=by omega
   have hji0:((j:Int)+(i:Int))=((j+i:Nat):Int):=by omega
   have da:=zat U (j+i)
   have db:=zat v i
   have hji:j+i<N:=by omega
   have hget:(tab N fun k=>(PV.i .u32 ((if j≤k∧k<j+i then dgt X'' (k-j) else dgt U k:Nat):Int)))[j+i]?=some (PV.i .u32 ((dgt U (j+i):Nat):Int)):=by rw[zaM hji,if_neg (by omega)]
   have hUX:dgt U (j+i)=dgt X' i:=by rw[zbd,hXU]
   have fin:∀w fr' e e2,w=dgt U (j+i)+dgt v i→fr' 9=.sl 0 0 N cap 1→fr' 10=.sl 1 0 n cv 1→fr' 11=.i .i64 (n:Int)→fr' 15=.i .i64 (j:Int)→fr' 19=.fn 77 [.p (Cs.length+1+1+1) 0]→fr' 169=.i .i64 ((n+1:Nat):Int)→fr' 170=.i .i64 ((i+1:Nat):Int)→fr' 12=O→fr' 13=out→fr' 14=I→fr' 8=S →
     WK E0 F (.loop zwI) ks fr' (some ⟨tab N fun k=>if k=j+i then (PV.i .u32 (((c+w)%4294967296:Nat):Int)) else (PV.i .u32 ((if j≤k∧k<j+i then dgt X'' (k-j) else dgt U k:Nat):Int)),true,e⟩::some ⟨tab (n+1) fun k=>(PV.i .u32 ((dgt v k:Nat):Int)),true,b1⟩::b2::(Cs++[some ⟨[.i .u64 (((c+w)/4294967296:Nat):Int)],true,e2⟩])):=by
    intro w fr' e e2 hw g9 g10 g11 g15 g19 g169 g170 g12 g13 g14 g8
    subst hw
    rw[hUX]
    have sa:=zb1 X' i
    have sb:=zb1 v i
    obtain⟨k1,k2⟩:=zfS (P:=4294967296^i) (T:=X'%4294967296^i+v%4294967296^i) (s:=X''+4294967296^(n+1)*1) (c:=c) (d:=dgt X' i+dgt v i) (r:=X'/(4294967296^i*4294967296)+v/(4294967296^i*4294967296)) (zbz i) hinv (by rw[Nat.mul_add,Nat.mul_add,Nat.mul_one,←hX];omega)
    rw[←zah,zh2 hin] at k1
    have ha:=zat X' i
    refine ih (i+1) fr' _ (by omega) ⟨by omega,g9,g10,g11,g15,g19,g169,g170,g12,g13,g14,g8,(c+(dgt X' i+dgt v i))/4294967296,e,e2,?_,by omega,?_⟩
    ·congr 3
     refine zaf fun k hk=>?_
     by_cases hki:k=j+i
     ·subst hki
      rw[if_pos rfl,if_pos (by omega),show j+i-j=i by omega,k1]
     ·rw[if_neg hki]
      congr 2
      by_cases h:j≤k∧k<j+i
      ·rw[if_pos h,if_pos (by omega)]
      ·rw[if_neg h,if_neg (by omega)]
    ·rw[zaD,zaD v,show (4294967296:Nat)^(i+1)=4294967296^i*4294967296 from Nat.pow_succ ..,←k2,Nat.mul_add];omega
   by_cases him:i<n
   ·have hc1:((i:Int)<(n:Int))=True:=by simp;omega
    have hgv:(tab (n+1) fun k=>(PV.i .u32 ((dgt v k:Nat):Int)))[i]?=some (PV.i .u32 ((dgt v i:Nat):Int)):=zaM (by omega)
    simp(disch:=omega)only[go_sem,seval,wqq,zbe,zbS,zbT,zax,zbk,zcI,h9,h10,h11,h15,h19,h169,h170,hc0,hc1,hji0,hget,hgv,him,hji,zel,zas]
    exact fin _ _ _ _ rfl (by simp only[go_sem,seval,h9]) (by simp only[go_sem,seval,h10]) (by simp only[go_sem,seval,h11]) (by simp only[go_sem,seval,h15]) (by simp only[go_sem,seval,h19]) (by simp only[go_sem,seval,h169]) (by simp only[go_sem,seval]) (by simp only[go_sem,seval,h12]) (by simp only[go_sem,seval,h13]) (by simp only[go_sem,seval,h14]) (by simp only[go_sem,seval,h8])
   ·have hc1:((i:Int)<(n:Int))=False:=by simp;omega
    have hz:dgt v i=0:=zbu hv (by omega)
    simp(disch:=omega)only[go_sem,seval,wqq,zbe,zbS,zbT,zax,zbk,zcI,h9,h10,h11,h15,h19,h169,h170,hc0,hc1,hji0,hget,hji,zel,zas,Int.add_zero]
    exact fin _ _ _ _ (by omega) (by simp only[go_sem,seval,h9]) (by simp only[go_sem,seval,h10]) (by simp only[go_sem,seval,h11]) (by simp only[go_sem,seval,h15]) (by simp only[go_sem,seval,h19]) (by simp only[go_sem,seval,h169]) (by simp only[go_sem,seval]) (by simp only[go_sem,seval,h12]) (by simp only[go_sem,seval,h13]) (by simp only[go_sem,seval,h14]) (by simp only[go_sem,seval,h8])
  ·have hc0:((i:Int)<((n+1:Nat):Int))=False:=by simp;omega
   obtain rfl:i=n+1:=by omega
   simp only[go_sem,seval,h169,h170,hc0]
   exact cont _ e _ (by simp only[go_sem,seval,h8]) (by simp only[go_sem,seval,h9]) (by simp only[go_sem,seval,h10]) (by simp only[go_sem,seval,h11]) (by simp only[go_sem,seval,h12]) (by simp only[go_sem,seval,h13]) (by simp only[go_sem,seval,h14]) (by simp only[go_sem,seval,h15])
 ·rw[hM]
  congr 3
  refine zaf fun k hk=>?_
  rw[if_neg (by omega)]
end Go.Eng
namespace Go.Eng
theorem zns {n:Nat} (h:1≤n):4294967296^(n-1)*4294967296=4294967296^n:=by rw[←Nat.pow_succ];congr 1;omega
theorem zuq {X n:Nat} (hn:2≤n) (hX:X<4294967296^(n+1)):X/4294967296^(n-2)=(dgt X n*4294967296+dgt X (n-1))*4294967296+dgt X (n-2):=by
 have e1:X/4294967296^(n-2)/4294967296=X/4294967296^(n-1):=by rw[Nat.div_div_eq_div_mul,←Nat.pow_succ];congr 2;omega
 have e2:X/4294967296^(n-1)/4294967296=X/4294967296^n:=by rw[Nat.div_div_eq_div_mul,←Nat.pow_succ];congr 2;omega
 have e3:X/4294967296^n<4294967296:=by rw[Nat.div_lt_iff_lt_mul (zbz n),Nat.mul_comm,←Nat.pow_succ];exact hX
 rw[zah,zah,zah]
 generalize X/4294967296^(n-2)=x0 at *
 generalize X/4294967296^(n-1)=x1 at *
 generalize X/4294967296^n=x2 at *
 omega
theorem zvg {v n:Nat} (hn:2≤n) (hv:v<4294967296^n):v/4294967296^(n-2)=dgt v (n-1)*4294967296+dgt v (n-2):=by
 have e1:v/4294967296^(n-2)/4294967296=v/4294967296^(n-1):=by rw[Nat.div_div_eq_div_mul,←Nat.pow_succ];congr 2;omega
 have e3:v/4294967296^(n-1)<4294967296:=by rw[Nat.div_lt_iff_lt_mul (zbz _),Nat.mul_comm,zns (by omega)];exact hv
 rw[zah,zah]
 generalize v/4294967296^(n-2)=x0 at *
 generalize v/4294967296^(n-1)=x1 at *
 omega
theorem zol {X v n d:Nat} (hv:0<v) (h:X/4294967296^(n-2)<d*(v/4294967296^(n-2))):X/v<d:=by
 rw[Nat.div_lt_iff_lt_mul hv]
 have h1:=Nat.lt_mul_div_succ X (zbz (n-2))
 have h2:=Nat.div_mul_le_self v (4294967296^(n-2))
 calc X<4294967296^(n-2)*(X/4294967296^(n-2)+1):=h1
  _≤4294967296^(n-2)*(d*(v/4294967296^(n-2))):=Nat.mul_le_mul_left _ h
  _=d*(v/4294967296^(n-2)*4294967296^(n-2)):=by grind
  _≤d*v:=Nat.mul_le_mul_left _ h2
theorem zln {X v n d:Nat} (hv:0<v) (hd:d<4294967296) (hv2:4294967296≤v/4294967296^(n-2)) (h:d*(v/4294967296^(n-2))≤X/4294967296^(n-2)):d≤X/v+1:=by
 by_cases hc:d≤X/v+1
 ·exact hc
 ·exfalso
  have hd2:2≤d:=by have:=Nat.zero_le (X/v);generalize X/v=z at *;omega
  have h1:X/v<d-1:=by generalize X/v=z at *;omega
  rw[Nat.div_lt_iff_lt_mul hv] at h1
  have h2:=Nat.div_mul_le_self X (4294967296^(n-2))
  have h3:=Nat.lt_mul_div_succ v (zbz (n-2))
  have h4:d*(v/4294967296^(n-2))*4294967296^(n-2)≤X:=Nat.le_trans (Nat.mul_le_mul_right _ h) h2
  have h5:(d-1)*v≤(d-1)*(4294967296^(n-2)*(v/4294967296^(n-2)+1)):=Nat.mul_le_mul_left _ (Nat.le_of_lt h3)
  have h6:d*(v/4294967296^(n-2))*4294967296^(n-2)<(d-1)*(v/4294967296^(n-2)+1)*4294967296^(n-2):=by
   refine Nat.lt_of_le_of_lt h4 (Nat.lt_of_lt_of_le h1 (Nat.le_trans h5 (Nat.le_of_eq ?_)))
   grind
  have h7:d*(v/4294967296^(n-2))<(d-1)*(v/4294967296^(n-2)+1):=Nat.lt_of_mul_lt_mul_right h6
  generalize v/4294967296^(n-2)=w at *
  obtain⟨e,rfl⟩:∃e,d=e+1:=⟨d-1,by omega⟩
  simp only[Nat.add_sub_cancel,Nat.add_mul,Nat.mul_add,Nat.one_mul,Nat.mul_one] at h7
  omega
set_option maxHeartbeats 1000000 in
theorem zkd {F:PFin} {ks:List KI} {n N U v j d r cap:Nat} {e0:Nat} {rest:PM} (hn2:2≤n) (hn:n<1073741824) (hj:j+(n+1)≤N) (hN:N<1073741824) (hv:v<4294967296^n) (htop:2147483648≤dgt v (n-1))
  (hXv:U/4294967296^j<v*4294967296) {fr:PFr} {M:PM} (P:PFr→Prop) (hP:∀fr:PFr,P fr→∀k x,17≤k→P (fr.put k x)) (hPf:P fr) (h9:∀fr,P fr→fr 9=.sl 0 0 N cap 1) (h11:∀fr,P fr→fr 11=.i .i64 (n:Int)) (h13:∀fr,P fr→fr 13=.i .u64 (dgt v (n-1):Int)) (h14:∀fr,P fr→fr 14=.i .u64 (dgt v (n-2):Int)) (h15:∀fr,P fr→fr 15=.i .i64 (j:Int))
  (h17:fr 17=.i .u64 (d:Int)) (h18:fr 18=.i .u64 (r:Int)) (hr:r<4294967296) (hd:dgt U (j+n)*4294967296+dgt U (j+(n-1))=d*dgt v (n-1)+r) (hqd:U/4294967296^j/v≤d)
  (hM:M=some ⟨tab N fun k=>(PV.i .u32 ((dgt U k:Nat):Int)),true,e0⟩::rest)
  (cont:∀fr' d,P fr'→fr' 17=.i .u64 ((d:Nat):Int)→d<4294967296→U/4294967296^j/v≤d→d≤U/4294967296^j/v+1→UK E0 F (.exit 2) ks fr' M):WK E0 F (.loop zwJ) ks fr M:=by
 have hvpos:0<v:=by
  rcases Nat.eq_zero_or_pos v with h|h
  ·rw[h,zdm] at htop;omega
  ·exact h
 have hXlt:U/4294967296^j<4294967296^(n+1):=by
  rw[Nat.pow_succ]
  exact Nat.lt_of_lt_of_le hXv (Nat.mul_le_mul_right _ (Nat.le_of_lt hv))
 have p3:=zuq hn2 hXlt
 have p2:=zvg hn2 hv
 rw[←zbd,←zbd,←zbd] at p3
 have hu2:=zat U (j+(n-2))
 have hu1:=zat U (j+(n-1))
 have hun:=zat U (j+n)
 have hnx:=zat v (n-2)
 have htp:=zat v (n-1)
 have htopX:dgt U (j+n)≤dgt v (n-1):=by
  have h1:U/4294967296^j/4294967296^n≤v/4294967296^(n-1):=by
   have:4294967296^n=4294967296^(n-1)*4294967296:=by rw[←Nat.pow_succ];congr 1;omega
   rw[this,←Nat.div_div_eq_div_mul,Nat.div_div_eq_div_mul,Nat.mul_comm,←Nat.div_div_eq_div_mul]
   exact Nat.div_le_div_right (Nat.div_le_of_le_mul (by omega))
  have h2:U/4294967296^j/4294967296^n<4294967296:=by rw[Nat.div_lt_iff_lt_mul (zbz n),Nat.mul_comm,←Nat.pow_succ];exact hXlt
  have h3:v/4294967296^(n-1)<4294967296:=by rw[Nat.div_lt_iff_lt_mul (zbz _),Nat.mul_comm,zns (by omega)];exact hv
  rw[zbd,zah,zah]
  generalize U/4294967296^j/4294967296^n=x0 at *
  generalize v/4294967296^(n-1)=x1 at *
  omega
 refine zao zwJ.eq_1 (fun(d:Nat) fr M'=>P fr∧M'=M∧U/4294967296^j/v≤d∧∃r:Nat,fr 17=.i .u64 (d:Int)∧fr 18=.i .u64 (r:Int)∧r<4294967296∧dgt U (j+n)*4294967296+dgt U (j+(n-1))=d*dgt v (n-1)+r) (fun d=>d) ?_ d ⟨hPf,rfl,hqd,r,h17,h18,hr,hd⟩
 rintro d fr M' ⟨hp,rfl,hqd,r,h17,h18,hr,hd⟩ ih
 have h9:=h9 fr hp
 have h11':=h11 fr hp
 have h13':=h13 fr hp
 have h14':=h14 fr hp
 have h15':=h15 fr hp
 have hdB:d*2147483648≤d*dgt v (n-1):=Nat.mul_le_mul_left _ htop
 have d3:d<12884901888:=by omega
 have less:0<d→U/4294967296^j/v<d→∀fr',P fr'→fr' 17=.i .u64 ((d-1:Nat):Int)→fr' 18=.i .u64 ((r+dgt v (n-1):Nat):Int)→(r+dgt v (n-1)<4294967296→WK E0 F (.loop zwJ) ks fr' M')∧(4294967296≤r+dgt v (n-1)→UK E0 F (.exit 2) ks fr' M'):=by
  intro h0 hlt fr' hp' g17 g18
  have e1:d*dgt v (n-1)=(d-1)*dgt v (n-1)+dgt v (n-1):=by
   obtain⟨e,rfl⟩:∃e,d=e+1:=⟨d-1,by omega⟩
   rw[Nat.add_mul,Nat.one_mul,Nat.add_sub_cancel]
  refine⟨fun hlt2=>ih (d-1) fr' _ (by omega) ⟨hp',rfl,by omega,r+dgt v (n-1),g17,g18,hlt2,by omega⟩,fun hge=>?_⟩
  have hd1:(d-1)*dgt v (n-1)<4294967296*dgt v (n-1):=by omega
  have hd2:d-1<4294967296:=Nat.lt_of_mul_lt_mul_right hd1
  refine cont fr' (d-1) hp' g17 hd2 (by omega) (zln hvpos hd2 (by rw[p2];omega) ?_)
  rw[p2,p3]
  have h1:(d-1)*dgt v (n-2)≤(d-1)*4294967296:=Nat.mul_le_mul_left _ (by omega)
  have h2:(d-1)*(dgt v (n-1)*4294967296+dgt v (n-2))=(d-1)*dgt v (n-1)*4294967296+(d-1)*dgt v (n-2):=by rw[Nat.mul_add,Nat.mul_assoc]
  have h3:(dgt U (j+n)*4294967296+dgt U (j+(n-1)))*4294967296=(d-1)*dgt v (n-1)*4294967296+(r+dgt v (n-1))*4294967296:=by rw[hd,e1];grind
  omega
 have hXB:U/4294967296^j/v<4294967296:=by rw[Nat.div_lt_iff_lt_mul hvpos,Nat.mul_comm];exact hXv
 have pj:((j:Int)+(n:Int))=((j+n:Nat):Int):=by omega
 have pj2:(((j+n:Nat):Int)-2)=((j+(n-2):Nat):Int):=by omega
 have hlt:j+(n-2)<N:=by omega
 have hget:(tab N fun k=>(PV.i .u32 ((dgt U k:Nat):Int)))[j+(n-2)]?=some (PV.i .u32 ((dgt U (j+(n-2)):Nat):Int)):=zaM hlt
 have hblk:PM.blk M' 0=some ⟨tab N fun k=>(PV.i .u32 ((dgt U k:Nat):Int)),true,e0⟩:=by rw[hM];rfl
 have d1:0<d→((d:Int)-1)=((d-1:Nat):Int):=fun h=>by omega
 have rt:((r:Int)+(dgt v (n-1):Int))=((r+dgt v (n-1):Nat):Int):=by omega
 by_cases hdb:d<4294967296
 ·have hs0:d/4294967296=0:=Nat.div_eq_of_lt hdb
  have hmul:d*dgt v (n-2)≤4294967295*4294967295:=Nat.mul_le_mul (by omega) (by omega)
  have hmm:((d:Int)*(dgt v (n-2):Int))=((d*dgt v (n-2):Nat):Int):=by simp
  by_cases ht:r*4294967296+dgt U (j+(n-2))<d*dgt v (n-2)
  ·have hd0:0<d:=by
    rcases Nat.eq_zero_or_pos d with h|h
    ·rw[h,Nat.zero_mul] at ht;omega
    ·exact h
   have hdlt:U/4294967296^j/v<d:=by
    refine zol (n:=n) hvpos ?_
    have h3:d*(dgt v (n-1)*4294967296+dgt v (n-2))=d*dgt v (n-1)*4294967296+d*dgt v (n-2):=by rw[Nat.mul_add,Nat.mul_assoc]
    rw[p2,p3,hd,h3,Nat.add_mul,Nat.add_assoc]
    exact Nat.add_lt_add_left ht _
   have hc:(((r*4294967296+dgt U (j+(n-2)):Nat):Int)<((d*dgt v (n-2):Nat):Int))=True:=by simp;omega
   by_cases hb:r+dgt v (n-1)<4294967296
   ·have hc2:((0:Int)<(((r+dgt v (n-1))/4294967296:Nat):Int))=False:=by rw[Nat.div_eq_of_lt hb];simp
    simp(disch:=omega)only[go_sem,seval,wqq,h9,h11',h13',h14',h15',h17,h18,hs0,Int.natCast_zero,Int.lt_irrefl,hmm,pj,pj2,hlt,hblk,hget,zeh,hc,d1 hd0,rt,hc2]
    refine(less hd0 hdlt _ ?_ (by simp only[go_sem,seval]) (by simp only[go_sem,seval])).1 hb
    repeat (first|exact hp|refine hP _ ?_ _ _ (by omega))
   ·have hc2:((0:Int)<(((r+dgt v (n-1))/4294967296:Nat):Int))=True:=by
     have:0<(r+dgt v (n-1))/4294967296:=Nat.div_pos (by omega) (by decide)
     simp;omega
    simp(disch:=omega)only[go_sem,seval,wqq,h9,h11',h13',h14',h15',h17,h18,hs0,Int.natCast_zero,Int.lt_irrefl,hmm,pj,pj2,hlt,hblk,hget,zeh,hc,d1 hd0,rt,hc2]
    refine(less hd0 hdlt _ ?_ (by simp only[go_sem,seval]) (by simp only[go_sem,seval])).2 (by omega)
    repeat (first|exact hp|refine hP _ ?_ _ _ (by omega))
  ·have hc:(((r*4294967296+dgt U (j+(n-2)):Nat):Int)<((d*dgt v (n-2):Nat):Int))=False:=by simp;omega
   simp(disch:=omega)only[go_sem,seval,wqq,h9,h11',h13',h14',h15',h17,h18,hs0,Int.natCast_zero,Int.lt_irrefl,hmm,pj,pj2,hlt,hblk,hget,zeh,hc]
   refine cont _ d ?_ (by simp only[go_sem,seval,h17]) hdb hqd (zln hvpos hdb (by rw[p2];omega) ?_)
   ·repeat (first|exact hp|refine hP _ ?_ _ _ (by omega))
   ·have h3:d*(dgt v (n-1)*4294967296+dgt v (n-2))=d*dgt v (n-1)*4294967296+d*dgt v (n-2):=by rw[Nat.mul_add,Nat.mul_assoc]
    rw[p2,p3,hd,h3,Nat.add_mul,Nat.add_assoc]
    exact Nat.add_le_add_left (by omega) _
 ·have hd0:0<d:=by omega
  have hs:((0:Int)<((d/4294967296:Nat):Int))=True:=by
   have:0<d/4294967296:=Nat.div_pos (by omega) (by decide)
   simp;omega
  by_cases hb:r+dgt v (n-1)<4294967296
  ·have hc2:((0:Int)<(((r+dgt v (n-1))/4294967296:Nat):Int))=False:=by rw[Nat.div_eq_of_lt hb];simp
   simp(disch:=omega)only[go_sem,seval,wqq,h9,h11',h13',h14',h15',h17,h18,hs,d1 hd0,rt,hc2]
   refine(less hd0 (by omega) _ ?_ (by simp only[go_sem,seval]) (by simp only[go_sem,seval])).1 hb
   repeat (first|exact hp|refine hP _ ?_ _ _ (by omega))
  ·have hc2:((0:Int)<(((r+dgt v (n-1))/4294967296:Nat):Int))=True:=by
    have:0<(r+dgt v (n-1))/4294967296:=Nat.div_pos (by omega) (by decide)
    simp;omega
   simp(disch:=omega)only[go_sem,seval,wqq,h9,h11',h13',h14',h15',h17,h18,hs,d1 hd0,rt,hc2]
   refine(less hd0 (by omega) _ ?_ (by simp only[go_sem,seval]) (by simp only[go_sem,seval])).2 (by omega)
   repeat (first|exact hp|refine hP _ ?_ _ _ (by omega))
end Go.Eng
namespace Go.Eng
structure DivP (n N L:Nat) (S:PV) (top nxt:Nat) (fr:PFr):Prop where
 s8:fr 8=S
 s9:fr 9=.sl 0 0 N N 1
 s10:fr 10=.sl 1 0 n (n+1) 1
 s11:fr 11=.i .i64 (n:Int)
 s12:fr 12=.sl 2 0 L L 1
 s13:fr 13=.i .u64 (top:Int)
 s14:fr 14=.i .u64 (nxt:Int)
theorem zcb {fr:PFr} {k d:Nat} {x:PV} (h:d<k):fr.put k x d=fr d:=by
 rw[znw,if_neg (by omega)]
theorem DivP.put {n N L:Nat} {S:PV} {top nxt:Nat} {fr:PFr} (p:DivP n N L S top nxt fr) {k:Nat} {x:PV} (h:15≤k):DivP n N L S top nxt (fr.put k x) :=
 ⟨by rw[zcb (by omega)];exact p.s8,by rw[zcb (by omega)];exact p.s9,by rw[zcb (by omega)];exact p.s10,by rw[zcb (by omega)];exact p.s11,by rw[zcb (by omega)];exact p.s12,by rw[zcb (by omega)];exact p.s13,by rw[zcb (by omega)];exact p.s14⟩
theorem zjq {A v j:Nat}:A%(v*4294967296^(j+1))/4294967296^j/v=dgt (A/v) j:=by
 rw[Nat.div_div_eq_div_mul,zah,Nat.div_div_eq_div_mul,Nat.pow_succ,←Nat.mul_assoc,Nat.mul_comm v,Nat.mod_mul_right_div_self]
theorem zjv {A v j:Nat}:A%(v*4294967296^(j+1))%4294967296^j+4294967296^j*(A%(v*4294967296^(j+1))/4294967296^j%v)=A%(v*4294967296^j):=by
 rw[←Nat.mod_mul,Nat.mul_comm (4294967296^j) v,Nat.mod_mod_of_dvd]
 exact⟨4294967296,by rw[Nat.pow_succ,Nat.mul_assoc]⟩
theorem zlW {n off len cap lo hi:Nat} (h1:lo≤hi) (h2:hi≤cap) (h3:lo<cap):slP 1 (.sl n off len cap 1) (some (.i .i64 (lo:Int))) (some (.i .i64 (hi:Int))) none=some (.sl n (off+lo) (hi-lo) (cap-lo) 1):=by
 simp only[slP,ne_eq,not_true_eq_false,if_false,optP,zaK,Option.isSome_none,Bool.false_eq_true,false_implies,and_true,Nat.le_refl,Nat.mul_one]
 rw[if_pos ⟨h1,h2⟩,if_neg (by omega)]
set_option maxHeartbeats 2000000 in
theorem zj7 {F:PFin} {ks:List KI} {n N L A v:Nat} {S:PV} {b1:Nat} (hn2:2≤n) (hNL:N=L+n) (hN:N<1073741824) (hv:v<4294967296^n) (htop:2147483648≤dgt v (n-1)) (hA:A<v*4294967296^L) {fr:PFr} {M:PM} (hp:DivP n N L S (dgt v (n-1)) (dgt v (n-2)) fr) (h15:fr 15=.i .i64 ((L:Int)-1))
  {e0 e2:Nat} (hM:M=some ⟨tab N fun k=>(PV.i .u32 ((dgt A k:Nat):Int)),true,e0⟩::some ⟨tab (n+1) fun k=>(PV.i .u32 ((dgt v k:Nat):Int)),true,b1⟩::some ⟨List.replicate L (.i .u32 0),true,e2⟩::[])
  (cont:∀fr' e0 e2 Cs,DivP n N L S (dgt v (n-1)) (dgt v (n-2)) fr'→UK E0 F (.exit 0) ks fr' (some ⟨tab N fun k=>(PV.i .u32 ((dgt (A%v) k:Nat):Int)),true,e0⟩::some ⟨tab (n+1) fun k=>(PV.i .u32 ((dgt v k:Nat):Int)),true,b1⟩::some ⟨tab L fun k=>(PV.i .u32 ((dgt (A/v) k:Nat):Int)),true,e2⟩::Cs)):WK E0 F (.loop zxm) ks fr M:=by
 have hvpos:0<v:=by
  rcases Nat.eq_zero_or_pos v with h|h
  ·rw[h,zdm] at htop;omega
  ·exact h
 have htp:=zat v (n-1)
 refine zao zxm.eq_1 (fun(k:Nat) fr M=>k≤L∧DivP n N L S (dgt v (n-1)) (dgt v (n-2)) fr∧fr 15=.i .i64 ((k:Int)-1) ∧
  ∃e0 e2 Cs,M=some ⟨tab N fun i=>(PV.i .u32 ((dgt (A%(v*4294967296^k)) i:Nat):Int)),true,e0⟩::some ⟨tab (n+1) fun i=>(PV.i .u32 ((dgt v i:Nat):Int)),true,b1⟩::some ⟨tab L fun i=>(PV.i .u32 ((if k≤i then dgt (A/v) i else 0:Nat):Int)),true,e2⟩::Cs)
  (fun k=>k) ?_ L ⟨Nat.le_refl _,hp,h15,e0,e2,[],?_⟩
 ·rintro k fr M ⟨hk,hp,h15,e0,e2,Cs,rfl⟩ ih
  obtain⟨h8,h9,h10,h11,h12,h13,h14⟩:=id hp
  by_cases hk0:k=0
  ·subst hk0
   simp(disch:=omega)only[go_sem,seval,wqq,h15,Int.natCast_zero,Int.zero_sub]
   have:=cont (fr.put 84 (.i .i64 (-1)) |>.put 85 (.b false)) e0 e2 Cs (DivP.put (DivP.put ⟨h8,h9,h10,h11,h12,h13,h14⟩ (by omega)) (by omega))
   simpa only[Nat.pow_zero,Nat.mul_one,Nat.zero_le,if_true] using this
  ·obtain⟨j,rfl⟩:∃j,k=j+1:=⟨k-1,by omega⟩
   have k1:(((j+1:Nat):Int)-1)=(j:Int):=by omega
   rw[k1] at h15
   generalize hU:A%(v*4294967296^(j+1))=U
   have hUlt:U<v*4294967296^(j+1):=by rw[←hU];exact Nat.mod_lt _ (Nat.mul_pos hvpos (zbz _))
   have hXv:U/4294967296^j<v*4294967296:=by
    rw[Nat.div_lt_iff_lt_mul (zbz j),Nat.mul_assoc,←Nat.pow_succ'];exact hUlt
   have hUB:U<4294967296^(j+(n+1)):=by
    refine Nat.lt_of_lt_of_le hUlt ?_
    rw[show j+(n+1)=n+(j+1) by omega,show (4294967296:Nat)^(n+(j+1))=4294967296^n*4294967296^(j+1) from Nat.pow_add ..]
    exact Nat.mul_le_mul_right _ (Nat.le_of_lt hv)
   have hq:U/4294967296^j/v=dgt (A/v) j:=by rw[←hU];exact zjq
   have hjoin:U%4294967296^j+4294967296^j*(U/4294967296^j%v)=A%(v*4294967296^j):=by rw[←hU];exact zjv
   have pj:((j:Int)+(n:Int))=((j+n:Nat):Int):=by omega
   have pj1:(((j+n:Nat):Int)-1)=((j+(n-1):Nat):Int):=by omega
   have pj2:(((j+n:Nat):Int)+1)=((j+n+1:Nat):Int):=by omega
   have hl0:j+n<N:=by omega
   have hl1:j+(n-1)<N:=by omega
   have hun:=zat U (j+n)
   have hu1:=zat U (j+(n-1))
   have hg0:(tab N fun i=>(PV.i .u32 ((dgt U i:Nat):Int)))[j+n]?=some (PV.i .u32 ((dgt U (j+n):Nat):Int)):=zaM hl0
   have hg1:(tab N fun i=>(PV.i .u32 ((dgt U i:Nat):Int)))[j+(n-1)]?=some (PV.i .u32 ((dgt U (j+(n-1)):Nat):Int)):=zaM hl1
   have htz:((dgt v (n-1):Nat):Int)≠0:=by omega
   have hqlt:(dgt U (j+n)*4294967296+dgt U (j+(n-1)))/dgt v (n-1)≤dgt U (j+n)*4294967296+dgt U (j+(n-1)):=Nat.div_le_self _ _
   have wq:IntKind.wrap .u64 (((dgt U (j+n)*4294967296+dgt U (j+(n-1)))/dgt v (n-1):Nat):Int)=(((dgt U (j+n)*4294967296+dgt U (j+(n-1)))/dgt v (n-1):Nat):Int):=by
    generalize (dgt U (j+n)*4294967296+dgt U (j+(n-1)))/dgt v (n-1)=z at *
    rw[wqb (by omega) (by omega)]
   simp(disch:=omega)only[go_sem,seval,wqq,h9,h10,h11,h12,h13,h14,h15,pj,pj1,hl0,hl1,hg0,hg1,zeh,zbr,zcj,htz,wq]
   refine zkd (N:=N) (e0:=e0) (d:=(dgt U (j+n)*4294967296+dgt U (j+(n-1)))/dgt v (n-1)) (r:=(dgt U (j+n)*4294967296+dgt U (j+(n-1)))%dgt v (n-1)) hn2 (by omega) (by omega) (by omega) hv htop hXv
    (fun fr=>DivP n N L S (dgt v (n-1)) (dgt v (n-2)) fr∧fr 15=.i .i64 (j:Int)) (fun fr h k x hk=>⟨h.1.put (by omega),by rw[zcb (by omega)];exact h.2⟩) ⟨?_,by simp only[go_sem,seval,h15]⟩ (fun fr h=>h.1.s9) (fun fr h=>h.1.s11) (fun fr h=>h.1.s13) (fun fr h=>h.1.s14) (fun fr h=>h.2) (by simp only[go_sem,seval]) (by simp only[go_sem,seval]) ?_ ?_ ?_ rfl ?_
   ·repeat (first|exact hp|refine DivP.put ?_ (by omega))
   ·exact Nat.lt_trans (Nat.mod_lt _ (by omega)) htp
   ·rw[Nat.mul_comm _ (dgt v (n-1))];exact(Nat.div_add_mod _ _).symm
   ·rw[Nat.le_div_iff_mul_le (by omega)]
    have hXlt:U/4294967296^j<4294967296^(n+1):=by
     rw[Nat.div_lt_iff_lt_mul (zbz j),←Nat.pow_add,Nat.add_comm (n+1)];exact hUB
    have p3:=zuq hn2 hXlt
    rw[←zbd,←zbd,←zbd] at p3
    have e1:U/4294967296^j/4294967296^(n-1)=dgt U (j+n)*4294967296+dgt U (j+(n-1)):=by
     have e2:U/4294967296^j/4294967296^(n-1)=U/4294967296^j/4294967296^(n-2)/4294967296:=by rw[Nat.div_div_eq_div_mul _ (4294967296^(n-2)),←Nat.pow_succ];congr 2;omega
     have:=zat U (j+(n-2))
     rw[e2,p3];omega
    have e3:dgt v (n-1)*4294967296^(n-1)≤v:=by
     have h1:v/4294967296^(n-1)<4294967296:=by rw[Nat.div_lt_iff_lt_mul (zbz _),Nat.mul_comm,zns (by omega)];exact hv
     rw[zah,Nat.mod_eq_of_lt h1]
     exact Nat.div_mul_le_self _ _
    rw[←e1,Nat.le_div_iff_mul_le (zbz _),Nat.mul_assoc]
    exact Nat.le_trans (Nat.mul_le_mul_left _ e3) (Nat.div_mul_le_self _ _)
   ·rintro fr' d ⟨hp',h15'⟩ h17' hdB hqd hdq
    obtain⟨h8,h9,h10,h11,h12,h13,h14⟩:=id hp'
    have hX:=Nat.div_add_mod (U/4294967296^j) v
    have hr:=Nat.mod_lt (U/4294967296^j) hvpos
    generalize hXd:U/4294967296^j=X at *
    generalize hqg:X/v=q at *
    generalize hrg:X%v=r at *
    have hjL:j<L:=by omega
    have hnn:j+n+1-j=n+1:=by omega
    have hin:(U%4294967296^j+4294967296^j*r)=A%(v*4294967296^j):=hjoin
    have hrB:r<4294967296^(n+1):=Nat.lt_trans (Nat.lt_trans hr hv) (Nat.pow_lt_pow_right (by decide) (by omega))
    rcases (show d=q∨d=q+1 by omega) with hd|hd
    ·have hdv:X+4294967296^(n+1)*0=r+d*v:=by rw[Nat.mul_zero,hd,Nat.mul_comm q];omega
     obtain⟨e,htk⟩:=zlP (n:=n) (N:=N) (U:=U) (v:=v) (q:=d) (j:=j) (X':=r) (bo:=0) (e0:=e0) (cap:=N-j) (cv:=n+1) (b1:=b1) (rest:=some ⟨tab L fun i=>if i=j then (PV.i .u32 ((d:Nat):Int)) else (PV.i .u32 ((if j+1≤i then dgt (A/v) i else 0:Nat):Int)),true,e2+1⟩::Cs) (by omega) (by omega) (by omega) hv hdB (by omega) hUB hrB (by rw[hXd];exact hdv)
     simp(disch:=omega)only[go_sem,seval,wqq,h9,h10,h11,h12,h13,h14,h15',h17',pj,pj2,hjL,hnn,zas,zlW,htk,hin]
     refine ih j _ _ (by omega) ⟨by omega,?_,by simp only[go_sem,seval],e,e2+1,Cs,?_⟩
     ·repeat (first|exact hp'|refine DivP.put ?_ (by omega))
     ·congr 5
      refine zaf fun i hi=>?_
      by_cases h:i=j
      ·subst h
       rw[if_pos rfl,if_pos (Nat.le_refl _),hd,hq]
      ·rw[if_neg h]
       congr 2
       by_cases h2:j+1≤i
       ·rw[if_pos h2,if_pos (by omega)]
       ·rw[if_neg h2,if_neg (by omega)]
    ·have hvB:v<4294967296^(n+1):=Nat.lt_trans hv (Nat.pow_lt_pow_right (by decide) (by omega))
     have hdv:X+4294967296^(n+1)*1=(4294967296^(n+1)+r-v)+d*v:=by rw[Nat.mul_one,hd,Nat.add_mul,Nat.one_mul,Nat.mul_comm q];omega
     obtain⟨e,htk⟩:=zlP (n:=n) (N:=N) (U:=U) (v:=v) (q:=d) (j:=j) (X':=4294967296^(n+1)+r-v) (bo:=1) (e0:=e0) (cap:=N-j) (cv:=n+1) (b1:=b1) (rest:=some ⟨tab L fun i=>if i=j then (PV.i .u32 ((d:Nat):Int)) else (PV.i .u32 ((if j+1≤i then dgt (A/v) i else 0:Nat):Int)),true,e2+1⟩::Cs) (by omega) (by omega) (by omega) hv hdB (by omega) hUB (by omega) (by rw[hXd];exact hdv)
     have hgo:(tab L fun i=>if i=j then (PV.i .u32 ((d:Nat):Int)) else (PV.i .u32 ((if j+1≤i then dgt (A/v) i else 0:Nat):Int)))[j]?=some (PV.i .u32 ((d:Nat):Int)):=by rw[zaM hjL,if_pos rfl]
     have hd1:((d:Int)-1)=(q:Int):=by omega
     have hqlt:q<4294967296:=by omega
     simp(disch:=omega)only[go_sem,seval,wqq,h9,h10,h11,h12,h13,h14,h15',h17',pj,pj2,hjL,hnn,zas,zlW,htk,hgo,hd1]
     have hX'j:(U%4294967296^j+4294967296^j*(4294967296^(n+1)+r-v))/4294967296^j=4294967296^(n+1)+r-v:=by
      rw[Nat.add_mul_div_left _ _ (zbz j),Nat.div_eq_of_lt (Nat.mod_lt _ (zbz j)),Nat.zero_add]
     refine zjV (n:=n) (N:=N) (U:=U%4294967296^j+4294967296^j*(4294967296^(n+1)+r-v)) (v:=v) (j:=j) (X':=4294967296^(n+1)+r-v) (X'':=r) (e0:=e) (cap:=N) (cv:=n+1) (b1:=b1) (Cs:=Cs) (O:=.sl 2 0 L L 1) (out:=.i .u64 (dgt v (n-1):Int)) (I:=.i .u64 (dgt v (n-2):Int)) (by omega) (by omega) (by omega) hv hX'j (by omega) (by simp only[go_sem,seval,h9]) (by simp only[go_sem,seval,h10]) (by simp only[go_sem,seval,h11]) (by simp only[go_sem,seval,h15']) (by simp only[go_sem,seval]) (by simp only[go_sem,seval]) (by simp only[go_sem,seval]) (by simp only[go_sem,seval,h12]) (by simp only[go_sem,seval,h13]) (by simp only[go_sem,seval,h14]) S (by simp only[go_sem,seval,h8]) rfl fun fr2 e' cb g8 g9 g10 g11 g12 g13 g14 g15=>?_
     have hU1:U%4294967296^j+4294967296^j*(4294967296^(n+1)+r-v)<4294967296^(j+(n+1)):=by
      rw[show (4294967296:Nat)^(j+(n+1))=4294967296^j*4294967296^(n+1) from Nat.pow_add ..]
      have h1:=Nat.mod_lt U (zbz j)
      have h2:4294967296^j*(4294967296^(n+1)+r-v+1)≤4294967296^j*4294967296^(n+1):=Nat.mul_le_mul_left _ (by omega)
      rw[Nat.mul_succ] at h2
      exact Nat.lt_of_lt_of_le (Nat.add_lt_add_right h1 _) (by rw[Nat.add_comm];exact h2)
     have hU2:(U%4294967296^j+4294967296^j*(4294967296^(n+1)+r-v))%4294967296^j=U%4294967296^j:=by
      rw[Nat.add_mul_mod_self_left,Nat.mod_mod]
     rw[zgD hU1 hrB,hU2,hin]
     simp(disch:=omega)only[go_sem,seval,wqq,g15]
     refine ih j _ _ (by omega) ⟨by omega,?_,by simp only[go_sem,seval],e',e2+1+1,Cs++[cb],?_⟩
     ·exact DivP.put (DivP.put (DivP.put ⟨g8,g9,g10,g11,g12,g13,g14⟩ (by omega)) (by omega)) (by omega)
     ·congr 5
      refine zaf fun i hi=>?_
      by_cases h:i=j
      ·subst h
       rw[if_pos rfl,if_pos (Nat.le_refl _),hq]
      ·rw[if_neg h,if_neg h]
       congr 2
       by_cases h2:j+1≤i
       ·rw[if_pos h2,if_pos (by omega)]
       ·rw[if_neg h2,if_neg (by omega)]
 ·rw[hM,Nat.mod_eq_of_lt hA,zcd]
  congr 5
  refine zaf fun i hi=>?_
  rw[if_neg (by omega)];rfl
theorem zhJ {U by_ i:Nat} (hb:by_<32):(dgt U (i+1)*4294967296+dgt U i)/2^by_%4294967296=dgt (U/2^by_) i:=by
 have e:(4294967296:Nat)=2^by_*2^(32-by_):=by rw[←Nat.pow_add,show by_+(32-by_)=32 by omega]
 have hp:0<2^by_:=Nat.pow_pos (by decide)
 have h0:U/4294967296^i=dgt U (i+1)*4294967296+dgt U i+4294967296*(4294967296*(U/4294967296^i/4294967296/4294967296)):=by
  have h1:=Nat.div_add_mod (U/4294967296^i) 4294967296
  have h2:=Nat.div_add_mod (U/4294967296^i/4294967296) 4294967296
  rw[zah,zah,Nat.pow_succ,←Nat.div_div_eq_div_mul]
  omega
 have key:∀x y z:Nat,x=y+4294967296*(4294967296*z)→y/2^by_%4294967296=x/2^by_%4294967296:=by
  intro x y z hx
  have e2:4294967296*(4294967296*z)=2^by_*(4294967296*(2^(32-by_)*z)):=by
   have e3:∀w,4294967296*w=2^by_*2^(32-by_)*w:=fun w=>by rw[←e]
   rw[e3,Nat.mul_assoc,Nat.mul_left_comm (2^(32-by_))]
  rw[hx,e2,Nat.add_mul_div_left _ _ hp,Nat.add_mul_mod_self_left]
 rw[zah (U/2^by_),Nat.div_div_eq_div_mul,Nat.mul_comm (2^by_),←Nat.div_div_eq_div_mul]
 exact key _ _ _ h0
set_option maxHeartbeats 1000000 in
theorem zjw {F:PFin} {ks:List KI} {n N U by_:Nat} {b1 b2:Option PB} {Cs:PM} {e0 e3:Nat} {O:PV} (hn:n<N) (hN:N<1073741824) (hb:by_<32) {fr:PFr} {M:PM} (h8:fr 8=.i .i64 (by_:Int)) (h9:fr 9=.sl 0 0 N N 1) (h12:fr 12=O) (h22:fr 22=.sl (Cs.length+1+1+1) 0 n n 1) (h201:fr 201=.i .i64 (n:Int)) (h202:fr 202=.i .i64 0)
  (hM:M=some ⟨tab N fun k=>(PV.i .u32 ((dgt U k:Nat):Int)),true,e0⟩::b1::b2::(Cs++[some ⟨List.replicate n (.i .u32 0),true,e3⟩]))
  (cont:∀fr' e,fr' 12=O→fr' 22=.sl (Cs.length+1+1+1) 0 n n 1→UK E0 F (.exit 6) ks fr' (some ⟨tab N fun k=>(PV.i .u32 ((dgt U k:Nat):Int)),true,e0⟩::b1::b2::(Cs++[some ⟨tab n fun k=>(PV.i .u32 ((dgt (U/2^by_) k:Nat):Int)),true,e⟩]))):WK E0 F (.loop zxn) ks fr M:=by
 refine zao zxn.eq_1 (fun(i:Nat) fr M=>i≤n∧fr 8=.i .i64 (by_:Int)∧fr 9=.sl 0 0 N N 1∧fr 12=O∧fr 22=.sl (Cs.length+1+1+1) 0 n n 1∧fr 201=.i .i64 (n:Int)∧fr 202=.i .i64 (i:Int) ∧
  ∃e,M=some ⟨tab N fun k=>(PV.i .u32 ((dgt U k:Nat):Int)),true,e0⟩::b1::b2::(Cs++[some ⟨tab n fun k=>(PV.i .u32 ((if k<i then dgt (U/2^by_) k else 0:Nat):Int)),true,e⟩])) (fun i=>n-i) ?_ 0 ⟨Nat.zero_le _,h8,h9,h12,h22,h201,h202,e3,?_⟩
 ·rintro i fr M ⟨hi,h8,h9,h12,h22,h201,h202,e,rfl⟩ ih
  by_cases hin:i<n
  ·have hc0:((i:Int)<(n:Int))=True:=by simp;omega
   have i1:((i:Int)+1)=((i+1:Nat):Int):=by omega
   have hl0:i<N:=by omega
   have hl1:i+1<N:=by omega
   have hg0:(tab N fun k=>(PV.i .u32 ((dgt U k:Nat):Int)))[i]?=some (PV.i .u32 ((dgt U i:Nat):Int)):=zaM hl0
   have hg1:(tab N fun k=>(PV.i .u32 ((dgt U k:Nat):Int)))[i+1]?=some (PV.i .u32 ((dgt U (i+1):Nat):Int)):=zaM hl1
   have d0:=zat U i
   have d1:=zat U (i+1)
   have hsh:binP .shr (.i .u64 ((dgt U (i+1)*4294967296+dgt U i:Nat):Int)) (.i .i64 (by_:Int))=some (.i .u64 (((dgt U (i+1)*4294967296+dgt U i)/2^by_:Nat):Int)):=by
    rw[zfP _ _ _ (by omega) (by omega),Int.toNat_natCast]
   have hbw:=zhJ (U:=U) (i:=i) hb
   simp(disch:=omega)only[go_sem,seval,wqq,h8,h9,h22,h201,h202,hc0,i1,hl0,hl1,hg0,hg1,hin,zeh,hsh,zbb,hbw,zaU,zbW,zas]
   refine ih (i+1) _ _ (by omega) ⟨by omega,by simp only[go_sem,seval,h8],by simp only[go_sem,seval,h9],by simp only[go_sem,seval,h12],by simp only[go_sem,seval,h22],by simp only[go_sem,seval,h201],by simp only[go_sem,seval],e+1,?_⟩
   refine congrArg (fun l=>some ⟨tab N fun k=>(PV.i .u32 ((dgt U k:Nat):Int)),true,e0⟩::b1::b2::(Cs++[some ⟨l,true,e+1⟩])) (zaf fun k hk=>?_)
   by_cases hki:k=i
   ·subst hki
    rw[if_pos rfl,if_pos (by omega)]
   ·rw[if_neg hki]
    congr 2
    by_cases h:k<i
    ·rw[if_pos h,if_pos (by omega)]
    ·rw[if_neg h,if_neg (by omega)]
  ·have hc0:((i:Int)<(n:Int))=False:=by simp;omega
   obtain rfl:i=n:=by omega
   simp only[go_sem,seval,h201,h202,hc0]
   have ht:(tab i fun k=>(PV.i .u32 ((if k<i then dgt (U/2^by_) k else 0:Nat):Int)))=tab i fun k=>(PV.i .u32 ((dgt (U/2^by_) k:Nat):Int)):=zaf fun k hk=>by rw[if_pos hk]
   rw[ht]
   exact cont _ e (by simp only[go_sem,seval,h12]) (by simp only[go_sem,seval,h22])
 ·rw[hM,zcd]
  congr 5
theorem zgQ {a b:Nat} (hb:b≠0) (la:wlen a≤4096) (lb:wlen b≤4096):pf E0 35 [D a,D b]=some (.tu [D (a/b),D (a%b)]):=by
 have hbp:=zaT hb
 have hcmp:=zbF a b (by omega) (by omega)
 by_cases hab:a<b
 ·refine zaa (xf:=zvW) rfl (by simp[zvW]) ?_
  simp only[zvW]
  have hc:(cmpI (a:Int) (b:Int)<0)=True:=by unfold cmpI;simp;omega
  simp(disch:=omega)only[go_sem,seval,wqq,hcmp,hc]
  rw[Nat.div_eq_of_lt hab,Nat.mod_eq_of_lt hab];rfl
 have hc:(cmpI (a:Int) (b:Int)<0)=False:=by unfold cmpI;simp;omega
 have hwl:wlen b≤wlen a:=by
  rw[zaS];exact Nat.lt_of_le_of_lt (by omega) (zai a)
 by_cases h1:wlen b=1
 ·have hb32:b<4294967296:=by have:=zai b;rw[h1] at this;omega
  have hs:=znm (zai a) hb32 hb (by omega)
  have hd0:dgt b 0=b:=by rw[zho,Nat.mod_eq_of_lt hb32]
  have hi:=zaV (n:=wlen b) (v:=b) (j:=0) (by omega)
  rw[hd0] at hi
  have hq:a/b<4294967296^wlen a:=Nat.lt_of_le_of_lt (Nat.div_le_self _ _) (zai a)
  have hn1:=zbG hq (by omega)
  have hm:a%b<4294967296:=Nat.lt_trans (Nat.mod_lt _ (by omega)) hb32
  have hn2:=zbG (n:=1) (v:=a%b) (by simpa using hm) (by omega)
  have hD1:Dw 1 (a%b)=.lst [(PV.i .u32 ((a%b:Nat):Int))]:=by
   have e:tab 1 (fun k=>(PV.i .u32 ((dgt (a%b) k:Nat):Int)))=[(PV.i .u32 ((dgt (a%b) 0:Nat):Int))]:=rfl
   rw[Dw,e,zho,Nat.mod_eq_of_lt hm]
  rw[hD1] at hn2
  have hl1:((wlen b:Nat):Int)=1:=by omega
  refine zaa (xf:=zvW) rfl (by simp[zvW]) ?_
  simp only[zvW]
  simp(disch:=omega)only[go_sem,seval,wqq,hcmp,hc,hl1,hi,hs,hn1,group,List.headD_cons,hn2]
 ·have htop0:dgt b (wlen b-1)≠0:=by
   have h1:=zgg hb
   have h2:=zai b
   rw[zah]
   have h3:0<b/4294967296^(wlen b-1):=Nat.div_pos h1 (zbz _)
   have h4:b/4294967296^(wlen b-1)<4294967296:=by rw[Nat.div_lt_iff_lt_mul (zbz _),Nat.mul_comm,zns (by omega)];exact h2
   rw[Nat.mod_eq_of_lt h4];omega
  have htl:=zat b (wlen b-1)
  obtain⟨l1,l2,l3⟩:=zmL htl htop0
  have hlead:=zo6 (dgt b (wlen b-1)) htl
  have hi:=zaV (n:=wlen b) (v:=b) (j:=wlen b-1) (by omega)
  generalize hby:32-bits32 (dgt b (wlen b-1))=by_ at *
  generalize hn:wlen b=n at *
  generalize hm:wlen a=m at *
  have ha:=zai a
  have hbl:=zai b
  rw[hm] at ha
  rw[hn] at hbl
  have hp32:2^by_≤2147483648:=by
   have:=Nat.pow_le_pow_right (show 0<2 by decide) (show by_≤31 by omega)
   exact this
  have hpp:0<2^by_:=Nat.pow_pos (by decide)
  have hbhi:b/4294967296^(n-1)=dgt b (n-1):=by
   have h4:b/4294967296^(n-1)<4294967296:=by rw[Nat.div_lt_iff_lt_mul (zbz _),Nat.mul_comm,zns (by omega)];exact hbl
   rw[zah,Nat.mod_eq_of_lt h4]
  have hvB:b*2^by_<4294967296^n:=by
   have h1:=Nat.lt_mul_div_succ b (zbz (n-1))
   rw[hbhi] at h1
   have h2:(dgt b (n-1)+1)*2^by_≤4294967296:=by
    have e:(4294967296:Nat)=2^by_*2^(32-by_):=by rw[←Nat.pow_add,show by_+(32-by_)=32 by omega]
    have h3:dgt b (n-1)<2^(32-by_):=by
     have h4:dgt b (n-1)*2^by_<2^(32-by_)*2^by_:=by rw[Nat.mul_comm (2^(32-by_)),←e];exact l2
     exact Nat.lt_of_mul_lt_mul_right h4
    calc (dgt b (n-1)+1)*2^by_≤2^(32-by_)*2^by_:=Nat.mul_le_mul_right _ h3
     _=4294967296:=by rw[Nat.mul_comm,←e]
   calc b*2^by_<4294967296^(n-1)*(dgt b (n-1)+1)*2^by_:=Nat.mul_lt_mul_of_pos_right h1 hpp
    _=4294967296^(n-1)*((dgt b (n-1)+1)*2^by_):=Nat.mul_assoc ..
    _≤4294967296^(n-1)*4294967296:=Nat.mul_le_mul_left _ h2
    _=4294967296^n:=zns (by omega)
  have hvlo:2147483648*4294967296^(n-1)≤b*2^by_:=by
   have h1:=Nat.div_mul_le_self b (4294967296^(n-1))
   rw[hbhi] at h1
   calc 2147483648*4294967296^(n-1)≤dgt b (n-1)*2^by_*4294967296^(n-1):=Nat.mul_le_mul_right _ l1
    _=dgt b (n-1)*4294967296^(n-1)*2^by_:=by rw[Nat.mul_assoc,Nat.mul_comm (2^by_),←Nat.mul_assoc]
    _≤b*2^by_:=Nat.mul_le_mul_right _ h1
  have htop:2147483648≤dgt (b*2^by_) (n-1):=by
   have h4:b*2^by_/4294967296^(n-1)<4294967296:=by rw[Nat.div_lt_iff_lt_mul (zbz _),Nat.mul_comm 4294967296,zns (by omega)];exact hvB
   rw[zah,Nat.mod_eq_of_lt h4,Nat.le_div_iff_mul_le (zbz _)]
   exact hvlo
  have hA:a*2^by_<b*2^by_*4294967296^(m-n+1):=by
   calc a*2^by_<4294967296^m*2^by_:=Nat.mul_lt_mul_of_pos_right ha hpp
    _≤4294967296^m*2147483648:=Nat.mul_le_mul_left _ hp32
    _=2147483648*4294967296^(n-1)*4294967296^(m-n+1):=by rw[Nat.mul_comm,Nat.mul_assoc,←Nat.pow_add];congr 2;omega
    _≤b*2^by_*4294967296^(m-n+1):=Nat.mul_le_mul_right _ hvlo
  have hAq:a*2^by_/(b*2^by_)=a/b:=Nat.mul_div_mul_right _ _ hpp
  have hAr:a*2^by_%(b*2^by_)=a%b*2^by_:=Nat.mul_mod_mul_right ..
  obtain⟨e1,sh1⟩:=zfD [] (n:=m) (a:=a) (by_:=by_) (by omega) l3 ha
  obtain⟨e2,sh2⟩:=zfD ([]++[some ⟨tab (m+1) (fun k=>(PV.i .u32 ((dgt (a*2^by_) k:Nat):Int))),true,e1⟩]) (n:=n) (a:=b) (by_:=by_) (by omega) l3 hbl
  simp only[List.nil_append,List.length_nil,List.length_cons,Nat.zero_add,List.cons_append] at sh1 sh2
  have hDa:D a=Dw m a:=by rw[D,hm]
  have hDb:D b=Dw n b:=by rw[D,hn]
  rw[hDa,hDb] at hcmp ⊢
  have t1:=zat (b*2^by_) (n-1)
  have t2:=zat (b*2^by_) (n-2)
  have q1:((n:Int)-1)=((n-1:Nat):Int):=by omega
  have q2:((n:Int)-2)=((n-2:Nat):Int):=by omega
  have q3:((m:Int)-(n:Int)+1)=((m-n+1:Nat):Int):=by omega
  have q4:((n:Int)=1)=False:=by simp;omega
  have g1:n-1<n+1:=by omega
  have g2:n-2<n+1:=by omega
  have g1':n-1<n:=by omega
  have g2':n-2<n:=by omega
  have hg1:(tab (n+1) fun k=>(PV.i .u32 ((dgt (b*2^by_) k:Nat):Int)))[n-1]?=some (PV.i .u32 ((dgt (b*2^by_) (n-1):Nat):Int)):=zaM g1
  have hg2:(tab (n+1) fun k=>(PV.i .u32 ((dgt (b*2^by_) k:Nat):Int)))[n-2]?=some (PV.i .u32 ((dgt (b*2^by_) (n-2):Nat):Int)):=zaM g2
  have hsl:slP 1 (.sl 1 0 (n+1) (n+1) 1) none (some (.i .i64 (n:Int))) none=some (.sl 1 0 n (n+1) 1):=by
   simp only[slP,ne_eq,not_true_eq_false,if_false,optP,zaK,Option.isSome_none,Bool.false_eq_true,false_implies,and_true,Nat.le_refl,Nat.mul_one,Nat.zero_le,true_and,Nat.sub_zero,Nat.zero_add,Nat.add_zero,Nat.zero_mul]
   rw[if_pos (by omega),if_neg (by omega)]
  refine zaa (xf:=zvW) rfl (by simp[zvW]) ?_
  simp only[zvW]
  simp(disch:=omega)only[go_sem,seval,wqq,hcmp,hc,q4,q1,hi,hlead,sh1,sh2,hsl,q2,q3,zco,g1,g2,g1',g2',hg1,hg2]
  refine zj7 (n:=n) (N:=m+1) (L:=m-n+1) (A:=a*2^by_) (v:=b*2^by_) (S:=.i .i64 (by_:Int)) (b1:=e2) (by omega) (by omega) (by omega) hvB htop hA ⟨by simp only[go_sem,seval],by simp only[go_sem,seval],by simp only[go_sem,seval],by simp only[go_sem,seval],by simp only[go_sem,seval],by simp only[go_sem,seval],by simp only[go_sem,seval]⟩ (by simp only[go_sem,seval]) rfl fun fr' e0 e3 Cs p=>?_
  obtain⟨p8,p9,p10,p11,p12,p13,p14⟩:=p
  rw[hAq,hAr]
  have hq:a/b<4294967296^(m-n+1):=by
   rw[Nat.div_lt_iff_lt_mul (by omega)]
   have h1:=Nat.lt_of_mul_lt_mul_right (a:=2^by_) (show a*2^by_<4294967296^(m-n+1)*b*2^by_ by rw[Nat.mul_assoc,Nat.mul_comm (4294967296^(m-n+1))];exact hA)
   exact h1
  have hr:a%b<4294967296^n:=Nat.lt_trans (Nat.mod_lt _ (by omega)) hbl
  have hn1:=zbG hq (by omega)
  have hn2:=zbG hr (by omega)
  have hback:a%b*2^by_/2^by_=a%b:=Nat.mul_div_cancel _ hpp
  have hn0:n≠0:=by omega
  simp(disch:=omega)only[go_sem,seval,wqq,p11,zco]
  refine zjw (n:=n) (N:=m+1) (U:=a%b*2^by_) (by_:=by_) (Cs:=Cs) (O:=.sl 2 0 (m-n+1) (m-n+1) 1) (by omega) (by omega) l3 (by simp only[go_sem,seval,p8]) (by simp only[go_sem,seval,p9]) (by simp only[go_sem,seval,p12]) (by simp only[go_sem,seval]) (by simp only[go_sem,seval]) (by simp only[go_sem,seval]) rfl fun fr2 e4 g12 g22=>?_
  have hL0:¬(m-n+1=0):=by omega
  rw[hback]
  simp(disch:=omega)only[go_sem,seval,wqq,g12,g22,hL0,hn0,hn1,hn2,zaU,zbW]
end Go.Eng
namespace Go.Eng
theorem zbJ {a b:Nat} (h:a≤b):wlen a≤wlen b:=by
 rw[zaS];exact Nat.lt_of_le_of_lt h (zai b)
theorem zhj {x:WI} {z:Int} (h:z.natAbs≤x.v.natAbs):wlen z.natAbs≤512:=Nat.le_trans (zbJ h) x.lim
theorem zch (a b:Int):(a/b).natAbs≤a.natAbs:=Int.natAbs_ediv_le_natAbs a b
theorem zka (a b:Int) (hb:b≠0):(a%b).natAbs≤b.natAbs:=by
 have:=Int.emod_nonneg a hb
 have h2:=Int.emod_lt a hb
 omega
def WI.div (x y:WI) (h:y.v≠0):WI:=⟨x.v/y.v,zhj (zch _ _)⟩
def WI.mod (x y:WI) (h:y.v≠0):WI:=⟨x.v%y.v,zhj (zka _ _ h)⟩
@[go_sem] theorem zqA (a o b o':Nat):apart (.p a o) (.p b o')=(a≠b):=_root_.id rfl
theorem zld:wlen 1=1:=Nat.le_antisymm (zc9 (by decide)) (zaT (by decide))
theorem zrr {w:Nat} (h:w<4294967296):PV.lst (group 1 1 [(PV.i .u32 ((w:Nat):Int))])=Dw 1 w:=by
 rw[zcH _ _ (by rfl),Dw]
 have:tab 1 (fun k=>(PV.i .u32 ((dgt w k:Nat):Int)))=[(PV.i .u32 ((dgt w 0:Nat):Int))]:=rfl
 rw[this,zho,Nat.mod_eq_of_lt h]
theorem zrq:PV.lst (group 1 1 [.i .u32 1])=Dw 1 1:=zrr (w:=1) (by decide)
theorem zmj {a b q r:Int} (hb:b≠0) (h1:r+b*q=a) (h2:0≤r) (h3:r<b.natAbs):a/b=q∧a%b=r:=by
 by_cases h:0<b
 ·exact(Int.ediv_emod_unique h).2 ⟨h1,h2,by omega⟩
 ·obtain⟨c,rfl⟩:∃c,b = -c:=⟨-b,by omega⟩
  have hc:0<c:=by omega
  have:=(Int.ediv_emod_unique (a:=a) (b:=c) (q := -q) (r:=r) hc).2 ⟨by rw[Int.mul_neg];rw[Int.neg_mul] at h1;omega,h2,by omega⟩
  rw[Int.ediv_neg,Int.emod_neg,this.1,this.2]
  exact⟨by omega,rfl⟩
theorem zcg {x y:Int} {q r:Nat} (hy:y≠0) (h1:(y.natAbs*q:Nat)+(if x<0 then-(r:Int) else r)=x.natAbs) (h2:r<y.natAbs) :
  (if (decide (x<0) != decide (y<0))=true then-(q:Int) else (q:Int))=x/y∧(r:Int)=x%y:=by
 have key:∀z:Int,z=(if (decide (x<0) != decide (y<0))=true then-(q:Int) else (q:Int))→z=x/y∧(r:Int)=x%y:=by
  intro z hz
  have:=zmj (a:=x) (b:=y) (q:=z) (r:=r) hy ?_ (by omega) (by omega)
  ·exact⟨this.1.symm,this.2.symm⟩
  ·subst hz
   rw[Int.natCast_mul] at h1
   by_cases h:x<0
   ·by_cases h':y<0
    ·have e:(y.natAbs:Int) = -y:=by omega
     rw[e,Int.neg_mul] at h1
     simp[h,h',Int.mul_neg] at h1 ⊢;omega
    ·have e:(y.natAbs:Int)=y:=by omega
     rw[e] at h1
     simp[h,h',Int.mul_neg] at h1 ⊢;omega
   ·by_cases h':y<0
    ·have e:(y.natAbs:Int) = -y:=by omega
     rw[e,Int.neg_mul] at h1
     simp[h,h',Int.mul_neg] at h1 ⊢;omega
    ·have e:(y.natAbs:Int)=y:=by omega
     rw[e] at h1
     simp[h,h',Int.mul_neg] at h1 ⊢;omega
 exact key _ rfl
theorem ziP (x y:WI) (h:y.v≠0):pf E0 29 [wiP x,wiP y]=some (.tu [wiP (x.div y h),wiP (x.mod y h),.i .i64 0]):=by
 refine zaa (xf:=zxz) rfl (by simp[zxz]) ?_
 simp only[zxz]
 have lx:=x.lim
 have ly:=y.lim
 have hy:y.v.natAbs≠0:=by omega
 have hyp:=zaT hy
 have hd:=zgQ hy (a:=x.v.natAbs) (by omega) (by omega)
 have hl:((wlen y.v.natAbs:Int)=0)=False:=by simp;omega
 have dm:=Nat.div_add_mod x.v.natAbs y.v.natAbs
 have ml:=Nat.mod_lt x.v.natAbs (Nat.pos_of_ne_zero hy)
 have dl:=Nat.div_le_self x.v.natAbs y.v.natAbs
 have ld:=zbJ dl
 have lm:=zbJ (Nat.le_of_lt ml)
 have cd:clip (x.v/y.v)=x.div y h:=zbt _
 have cm:clip (x.v%y.v)=x.mod y h:=zbt _
 generalize x.v.natAbs/y.v.natAbs=q at *
 generalize x.v.natAbs%y.v.natAbs=r at *
 by_cases hx:x.v<0
 ·by_cases hr:r=0
  ·have hf:=zcg (q:=q) (r:=0) h (by rw[if_pos hx];omega) (by omega)
   have s1:pf E0 36 [.b (!(decide (x.v<0)==decide (y.v<0))),Dw (wlen q) q]=_:=zaA (decide (x.v<0) != decide (y.v<0)) (wlen q) q (zai _) (by omega)
   have s2:=zaA false (wlen 0) 0 (zai _) (by decide)
   rw[if_neg (by simp),hf.2,cm] at s2
   rw[hf.1,cd] at s1
   simp only[hx,decide_true] at s1
   subst hr
   simp(disch:=omega)only[go_sem,seval,wqq,hl,hd,hx,show wlen 0=0 from rfl,Int.natCast_zero,s1]
   rw[show wlen 0=0 from rfl] at s2
   simp(disch:=omega)only[go_sem,seval,wqq,s2]
   refine zbX ⟨.inr ⟨11,4,rfl,by simp only[go_sem,seval]⟩,trivial⟩ ?_
   simp(disch:=omega)only[go_sem,seval,wqq]
  ·have hf:=zcg (q:=q+1) (r:=y.v.natAbs-r) h (by rw[if_pos hx,Nat.mul_add];omega) (by omega)
   have hs:=znn (n:=wlen q) (m:=1) (b:=1) (zai q) (by decide) (by omega) (by omega)
   have s1:pf E0 36 [.b (!(decide (x.v<0)==decide (y.v<0))),Dw (max (wlen q) 1+1) (q+1)]=_:=zaA (decide (x.v<0) != decide (y.v<0)) _ _ (by simpa [zld] using zix (a:=q) (b:=1)) (by omega)
   have hdf:=za9 (a:=y.v.natAbs) (b:=r) (s:=y.v.natAbs-r) (by omega) (zai _) (by omega) (by omega) (zai y.v.natAbs)
   have s2:=zaA false (wlen y.v.natAbs) (y.v.natAbs-r) (Nat.lt_of_le_of_lt (Nat.sub_le _ _) (zai _)) (by omega)
   rw[if_neg (by simp),hf.2,cm] at s2
   rw[hf.1,cd] at s1
   simp only[hx,decide_true] at s1
   have hl2:((wlen r:Int)>0)=True:=by have:=zaT hr;simp;omega
   simp(disch:=omega)only[go_sem,seval,wqq,hl,hd,hx,hl2,hs,zrq]
   simp(disch:=omega)only[go_sem,seval,wqq,s1,hdf,s2]
   refine zbX ⟨.inr ⟨11,4,rfl,by simp only[go_sem,seval]⟩,trivial⟩ ?_
   simp(disch:=omega)only[go_sem,seval,wqq]
 ·have hf:=zcg (q:=q) (r:=r) h (by rw[if_neg hx];omega) (by omega)
  have s1:pf E0 36 [.b (!(decide (x.v<0)==decide (y.v<0))),Dw (wlen q) q]=_:=zaA (decide (x.v<0) != decide (y.v<0)) (wlen q) q (zai _) (by omega)
  have s2:=zaA false (wlen r) r (zai _) (by omega)
  rw[if_neg (by simp),hf.2,cm] at s2
  rw[hf.1,cd] at s1
  simp only[hx,decide_false] at s1
  simp(disch:=omega)only[go_sem,seval,wqq,hl,hd,hx,s1]
  simp(disch:=omega)only[go_sem,seval,wqq,s2]
  refine zbX ⟨.inr ⟨11,4,rfl,by simp only[go_sem,seval]⟩,trivial⟩ ?_
  simp(disch:=omega)only[go_sem,seval,wqq]
theorem zmx (x y:WI):wlen (Nat.gcd x.v.natAbs y.v.natAbs)≤512:=by
 by_cases h:x.v.natAbs=0
 ·rw[h,Nat.gcd_zero_left];exact y.lim
 ·exact Nat.le_trans (zbJ (Nat.gcd_le_left _ (Nat.pos_of_ne_zero h))) x.lim
def WI.gcd (x y:WI):WI:=⟨(Nat.gcd x.v.natAbs y.v.natAbs:Nat),by rw[Int.natAbs_natCast];exact zmx x y⟩
theorem zhy (x y:WI):pf E0 18 [wiP x,wiP y]=some (wiP (x.gcd y)):=by
 refine zaa (xf:=zxD) rfl (by simp[zxD]) ?_
 simp only[zxD]
 have lx:=x.lim
 have ly:=y.lim
 have cg:clip ((Nat.gcd x.v.natAbs y.v.natAbs:Nat):Int)=x.gcd y:=zbt _
 simp(disch:=omega)only[go_sem,seval,wqq]
 refine zao zya.eq_1 (fun(p:Nat×Nat) fr M=>Nat.gcd p.1 p.2=Nat.gcd x.v.natAbs y.v.natAbs∧wlen p.1≤512∧wlen p.2≤512∧fr 4=.p 2 0∧fr 5=D p.1∧fr 6=D p.2 ∧
  M=[some ⟨[.b (decide (x.v<0)),D x.v.natAbs],true,0⟩,some ⟨[.b (decide (y.v<0)),D y.v.natAbs],true,0⟩,some ⟨[.b false,.nl],true,0⟩]) (fun p=>p.2) ?_ (x.v.natAbs,y.v.natAbs) ⟨rfl,lx,ly,by simp only[go_sem,seval],by simp only[go_sem,seval],by simp only[go_sem,seval],rfl⟩
 rintro⟨a,b⟩ fr M ⟨hg,la,lb,h4,h5,h6,rfl⟩ ih
 simp only at hg la lb h5 h6
 by_cases hb:b=0
 ·subst hb
  rw[Nat.gcd_zero_right] at hg
  subst hg
  have s1:=zaA false (wlen (Nat.gcd x.v.natAbs y.v.natAbs)) _ (zai _) (by omega)
  rw[if_neg (by simp),cg] at s1
  simp(disch:=omega)only[go_sem,seval,wqq,h4,h5,h6,show wlen 0=0 from rfl,Int.natCast_zero,Int.lt_irrefl,s1]
 ·have hbp:=zaT hb
  have hd:=zgQ hb (a:=a) (by omega) (by omega)
  have hl:((wlen b:Int)>0)=True:=by simp;omega
  have ml:=Nat.mod_lt a (Nat.pos_of_ne_zero hb)
  have lm:=zbJ (Nat.le_of_lt ml)
  simp(disch:=omega)only[go_sem,seval,wqq,h4,h5,h6,hl,hd]
  refine ih (b,a%b) _ _ ml ⟨by rw[←hg,Nat.gcd_comm b,←Nat.gcd_rec,Nat.gcd_comm],lb,by show wlen (a%b)≤512;omega,by simp only[go_sem,seval,h4],by simp only[go_sem,seval],by simp only[go_sem,seval],rfl⟩
attribute [go_sem] zhy
end Go.Eng
namespace Go.Eng
theorem zlZ:∃f:Nat→Nat→Nat,∀v i,f v i=v/10000^i%10000:=⟨fun v i=>v/10000^i%10000,fun _ _=>rfl⟩
noncomputable def tdg:Nat→Nat→Nat:=Classical.choose zlZ
theorem zak (v i:Nat):tdg v i=v/10000^i%10000:=Classical.choose_spec zlZ v i
theorem zdz (i:Nat):0<10000^i:=Nat.pow_pos (by decide)
theorem zdh (v i:Nat):tdg v i<10000:=by rw[zak];exact Nat.mod_lt _ (by decide)
theorem zk6 (i:Nat):tdg 0 i=0:=by simp[zak]
theorem zk5 (v i:Nat):tdg v (i+1)=tdg (v/10000) i:=by
 rw[zak,zak,Nat.pow_succ,Nat.mul_comm,Nat.div_div_eq_div_mul]
theorem zbn (v i:Nat):v%10000^(i+1)=v%10000^i+10000^i*tdg v i:=by
 rw[zak,Nat.pow_succ,Nat.mod_mul]
theorem zjJ:∃f:Nat→Nat,∀v n,f v≤n↔v<10000^n:=by
 have key:∀v:Nat,∃m,∀n,m≤n↔v<10000^n:=by
  intro v
  induction v using Nat.strongRecOn with
  | _ v ih =>
   by_cases h:v=0
   ·subst h;exact⟨0,fun n=>⟨fun _=>zdz n,fun _=>Nat.zero_le _⟩⟩
   ·obtain⟨m,hm⟩:=ih (v/10000) (Nat.div_lt_self (by omega) (by decide))
    refine⟨m+1,fun n=>?_⟩
    cases n with
    | zero=>simp;omega
    | succ n =>
     rw[Nat.pow_succ,←Nat.div_lt_iff_lt_mul (by decide),←hm n];omega
 exact⟨fun v=>Classical.choose (key v),fun v=>Classical.choose_spec (key v)⟩
noncomputable def tlen:Nat→Nat:=Classical.choose zjJ
theorem za2 {v n:Nat}:tlen v≤n↔v<10000^n:=Classical.choose_spec zjJ v n
theorem zaj (v:Nat):v<10000^tlen v:=za2.1 (Nat.le_refl _)
theorem zaN:tlen 0=0:=by have:tlen 0≤0:=za2.2 (by decide);omega
theorem zaR {v:Nat} (h:v≠0):0<tlen v:=by
 rcases Nat.eq_zero_or_pos (tlen v) with h0|h0
 ·have:=zaj v;rw[h0] at this;simp at this;omega
 ·exact h0
theorem zaw {a b:Nat} (h:a≤b):tlen a≤tlen b:=by
 rw[za2];exact Nat.lt_of_le_of_lt h (zaj b)
noncomputable def Tw (n v:Nat):PV:=.lst (tab n fun k=>(PV.i .i64 ((tdg v k:Nat):Int)))
noncomputable abbrev T (v:Nat):PV:=Tw (tlen v) v
noncomputable def nP (z:Int):PV:=.ag [.b (decide (z<0)),T z.natAbs]
@[go_sem] theorem zu1 (M:PM) (d n v:Nat):fz M (d+1) (Tw n v)=some (Tw n v,[]):=_root_.id rfl
@[go_sem] theorem zu5 (M:PM) (d:Nat) (z:Int):fz M (d+1+1) (nP z)=some (nP z,[]):=_root_.id rfl
@[go_sem] theorem zpX (n v:Nat):(Tw n v).cells=[Tw n v]:=_root_.id rfl
@[go_sem] theorem zpZ (z:Int):(nP z).cells=[.b (decide (z<0)),T z.natAbs]:=_root_.id rfl
@[go_sem] theorem zs3 (n v:Nat):(Tw n v).scal=true:=_root_.id rfl
@[go_sem] theorem zrk (n v:Nat):lenP (Tw n v)=some (.i .i64 (n:Int)):=by simp[Tw,lenP]
theorem zbP {n v j:Nat} (h:j<n):idxP 1 (Tw n v) (some j)=some (.fp [(PV.i .i64 ((tdg v j:Nat):Int))]):=by
 rw[Tw,zeI,zaM h];rfl
@[go_sem] theorem zq3 (n v:Nat):PV.lst (tab n fun k=>(PV.i .i64 ((tdg v k:Nat):Int)))=Tw n v:=_root_.id rfl
theorem zc6 {a n i:Nat} (h:a<10000^n) (hi:n≤i):tdg a i=0:=by
 rw[zak,Nat.div_eq_of_lt (Nat.lt_of_lt_of_le h (Nat.pow_le_pow_right (by decide) hi)),Nat.zero_mod]
theorem zqd {n v i:Nat} (hv:v<10000^n) (hi:i<1099511627776) (hn:n<1099511627776):pf E0 147 [Tw n v,(PV.i .i64 ((i:Nat):Int))]=some (PV.i .i64 ((tdg v i:Nat):Int)):=by
 refine zaa (xf:=zx4) rfl (by simp[zx4]) ?_
 simp only[zx4]
 by_cases h:i<n
 ·have hc:((i:Int)<(n:Int))=True:=by simp;omega
  simp(disch:=omega)only[go_sem,seval,wqq,hc,zbP]
 ·have hc:((i:Int)<(n:Int))=False:=by simp;omega
  rw[zc6 hv (by omega)]
  simp(disch:=omega)only[go_sem,seval,wqq,hc,Int.natCast_zero]
end Go.Eng
namespace Go.Eng
theorem zpB (n v k:Nat) (h:k≤n):slP 1 (Tw n v) none (some (.i .i64 (k:Int))) none=some (Tw k v):=by
 have hz:ez 1 (tab n fun k=>(PV.i .i64 ((tdg v k:Nat):Int)))=true:=by
  unfold ez tab
  simp[PV.cells]
 simp only[slP,Tw,Option.isSome_none,Bool.false_eq_true,if_false,optP,zaK,hz,zaY]
 rw[if_pos ⟨by omega,h,trivial⟩,List.drop_zero,ze4 _ _ _ h]
@[go_sem] theorem zq6 (z:Int):PV.ag [.b (decide (z<0)),T z.natAbs]=nP z:=_root_.id rfl
def sgn (neg:Bool) (v:Nat):Int:=if neg then-(v:Int) else v
theorem zlU (neg:Bool) (v:Nat):PV.ag [.b (neg&&decide (0<v)),T v]=nP (sgn neg v):=by
 unfold nP sgn
 cases neg
 ·simp
 ·by_cases h:v=0
  ·subst h;simp
  ·simp[show 0<v by omega]
theorem zar (neg:Bool) (n v:Nat) (hv:v<10000^n) (hn:n<1099511627776):pf E0 132 [.b neg,Tw n v]=some (nP (sgn neg v)):=by
 refine zaa (xf:=zwW) rfl (by simp[zwW]) ?_
 simp only[zwW]
 simp only[go_sem,seval]
 refine zao zx7.eq_1 (fun(m:Nat) fr M=>fr 0=.b neg∧fr 1=Tw m v∧fr 4=.p 0 0∧v<10000^m∧m≤n∧M=[some ⟨[.b false,.nl],true,0⟩]) id ?_ n ⟨by simp only[go_sem,seval],by simp only[go_sem,seval],by simp only[go_sem,seval],hv,Nat.le_refl _,rfl⟩
 rintro m fr M ⟨hh,h0,h4,h1,h2,rfl⟩ ih
 by_cases hm:m=0
 ·subst hm
  have hv0:v=0:=by simpa using h1
  subst hv0
  have e0:Tw 0 0=T 0:=by unfold T;rw[zaN]
  cases neg
  ·simp(disch:=omega)only[go_sem,seval,wqq,hh,h0,h4,Int.natCast_zero,Int.lt_irrefl]
   rw[e0];rfl
  ·simp(disch:=omega)only[go_sem,seval,wqq,hh,h0,h4,Int.natCast_zero,Int.lt_irrefl]
   rw[e0];rfl
 ·have hm':(0:Int)<(m:Int):=by omega
  have hm2:((m:Int)>0)=True:=by simp;omega
  simp(disch:=omega)only[go_sem,seval,wqq,h0,hm2,zax,zbP]
  have e:v=v%10000^(m-1)+10000^(m-1)*tdg v (m-1):=by
   rw[←zbn,show m-1+1=m by omega,Nat.mod_eq_of_lt h1]
  refine zc8 (fun h=>?_) (fun h=>?_)
  ·have hd:tdg v (m-1)=0:=by omega
   rw[hd,Nat.mul_zero,Nat.add_zero] at e
   simp(disch:=omega)only[go_sem,seval,wqq,h0,zax,zpB]
   exact ih (m-1) _ _ (by simp only[id];omega) ⟨by simp only[go_sem,seval,hh],by simp only[go_sem,seval],by simp only[go_sem,seval,h4],by rw[e];exact Nat.mod_lt _ (zdz _),by omega,rfl⟩
  ·have hd:tdg v (m-1)≠0:=by omega
   have hw:tlen v=m:=by
    have h3:tlen v≤m:=za2.2 h1
    have h4:¬tlen v≤m-1:=fun q=>by
     have:=za2.1 q
     apply hd
     rw[zak,Nat.div_eq_of_lt this]
    omega
   have hv0:decide (0<v)=true:=by
    refine decide_eq_true ?_
    rcases Nat.eq_zero_or_pos v with h|h
    ·subst h;rw[zaN] at hw;omega
    ·exact h
   cases neg
   ·simp(disch:=omega)only[go_sem,seval,wqq,hh,h0,h4,hm2]
    rw[←zlU,T,hw];rfl
   ·simp(disch:=omega)only[go_sem,seval,wqq,hh,h0,h4,hm2]
    rw[←zlU,T,hw,hv0];rfl
theorem zck (a b:Nat) (ha:tlen a<1099511627776) (hb:tlen b<1099511627776):pf E0 134 [T a,T b]=some (.i .i64 (cmpI a b)):=by
 refine zaa (xf:=zwB) rfl (by simp[zwB]) ?_
 simp only[zwB]
 simp only[go_sem,seval]
 refine zc8 (fun h=>?_) (fun h=>?_)
 ·simp only[go_sem,seval]
  have:a<b:=by
   rcases Nat.lt_or_ge a b with q|q
   ·exact q
   ·have:=zaw q;omega
  simp[cmpI];omega
 ·simp only[go_sem,seval]
  refine zc8 (fun h'=>?_) (fun h'=>?_)
  ·simp only[go_sem,seval]
   have:b<a:=by
    rcases Nat.lt_or_ge b a with q|q
    ·exact q
    ·have:=zaw q;omega
   simp[cmpI];omega
  ·have hl:tlen a=tlen b:=by omega
   simp(disch:=omega)only[go_sem,seval,wqq]
   refine zao zxY.eq_1 (fun(m:Nat) fr M=>fr 0=T a∧fr 1=T b∧fr 5=.i .i64 ((m:Int)-1)∧a/10000^m=b/10000^m∧m≤tlen a∧M=[]) id ?_ (tlen a) ⟨by simp only[go_sem,seval],by simp only[go_sem,seval],by simp only[go_sem,seval],?_,Nat.le_refl _,rfl⟩
   ·rintro m fr M ⟨h0,h1,h6,hq,hm,rfl⟩ ih
    by_cases hm0:m=0
    ·subst hm0
     have hab:a=b:=by simpa using hq
     simp(disch:=omega)only[go_sem,seval,wqq,h6,Int.natCast_zero,Int.zero_sub,Int.reduceNeg,Int.reduceLE,ge_iff_le]
     subst hab
     simp[cmpI]
    ·have hm':((m:Int)-1≥0)=True:=by simp;omega
     have ia:(T a)=Tw (tlen a) a:=rfl
     have ib:(T b)=Tw (tlen b) b:=rfl
     have ea:a/10000^(m-1)=10000*(a/10000^m)+tdg a (m-1):=by
      rw[zak,show (10000:Nat)^m=10000^(m-1)*10000 by rw[←Nat.pow_succ];congr 1;omega,←Nat.div_div_eq_div_mul]
      exact(Nat.div_add_mod _ _).symm
     have eb:b/10000^(m-1)=10000*(b/10000^m)+tdg b (m-1):=by
      rw[zak,show (10000:Nat)^m=10000^(m-1)*10000 by rw[←Nat.pow_succ];congr 1;omega,←Nat.div_div_eq_div_mul]
      exact(Nat.div_add_mod _ _).symm
     have lt:∀x y:Nat,x/10000^(m-1)<y/10000^(m-1)→x<y:=fun x y h=>by
      by_cases q:x<y
      ·exact q
      ·have:=Nat.div_le_div_right (c:=10000^(m-1)) (show y≤x by omega)
       omega
     simp(disch:=omega)only[go_sem,seval,wqq,h0,h1,h6,hm',zax,ia,ib,zbP]
     refine zc8 (fun h=>?_) (fun h=>?_)
     ·simp only[go_sem,seval]
      have:=lt a b (by omega)
      simp[cmpI];omega
     ·simp(disch:=omega)only[go_sem,seval,wqq,h0,h1,h6,hm',zax,ia,ib,zbP]
      refine zc8 (fun h'=>?_) (fun h'=>?_)
      ·simp only[go_sem,seval]
       have:=lt b a (by omega)
       simp[cmpI];omega
      ·simp(disch:=omega)only[go_sem,seval,wqq,h6,zax]
       exact ih (m-1) _ _ (by simp only[id];omega) ⟨by simp only[go_sem,seval,h0],by simp only[go_sem,seval,h1],by simp only[go_sem,seval],by omega,by omega,rfl⟩
   ·rw[Nat.div_eq_of_lt (zaj a),hl,Nat.div_eq_of_lt (zaj b)]
end Go.Eng
namespace Go.Eng
theorem za6 (x y:Int) (hx:tlen x.natAbs<1099511627776) (hy:tlen y.natAbs<1099511627776):pf E0 124 [nP x,nP y]=some (.i .i64 (cmpI x y)):=by
 refine zaa (xf:=zwQ) rfl (by simp[zwQ]) ?_
 simp only[zwQ]
 have c1:=zck x.natAbs y.natAbs hx hy
 have c2:=zck y.natAbs x.natAbs hy hx
 by_cases h:x<0
 ·by_cases h':y<0
  ·simp only[go_sem,seval,h,h',c2]
   unfold cmpI
   congr 2
   (repeat split)<;>omega
  ·simp only[go_sem,seval,h,h']
   unfold cmpI
   rw[if_pos (by omega)]
 ·by_cases h':y<0
  ·simp only[go_sem,seval,h,h']
   unfold cmpI
   rw[if_neg (by omega),if_pos (by omega)]
  ·simp only[go_sem,seval,h,h',c1]
   unfold cmpI
   congr 2
   (repeat split)<;>omega
theorem zdR (x:Int) (hx:tlen x.natAbs<1099511627776):pf E0 123 [nP x]=some (nP (-x)):=by
 refine zaa (xf:=zxQ) rfl (by simp[zxQ]) ?_
 simp only[zxQ]
 have c1:=zar (!decide (x<0)) (tlen x.natAbs) x.natAbs (zaj _) hx
 have e:sgn (!decide (x<0)) x.natAbs = -x:=by
  unfold sgn
  by_cases h:x<0
  ·simp[h];omega
  ·simp[h];omega
 rw[e] at c1
 simp only[go_sem,seval,c1]
def Grows (M:PM) (v:PV) (xs:List PV):Prop :=
 (xs=[]∧v=.nl)∨∃k e,v=.sl k 0 xs.length xs.length 1∧PM.blk M k=some ⟨xs,true,e⟩
def NotIn (v:PV) (j:Nat):Prop:=match v with | .sl k _ _ _ _=>k≠j|_=>True
theorem zev {by_:Nat} (hby:by_≤64) {M:PM} {v:PV} {xs:List PV} (h:Grows M v xs) (x:PV) (hl:xs.length<1000000000000) :
  ∃v' M',appP (M++[some (⟨[x],true,0⟩:PB)]) 1 by_ v (.sl M.length 0 1 1 1)=some (v',M')∧Grows M' v' (xs++[x])∧(∀j b,PM.blk M j=some b→NotIn v j→PM.blk M' j=some b∧NotIn v' j):=by
 have hs:srcP (M++[some (⟨[x],true,0⟩:PB)]) 1 (.sl M.length 0 1 1 1)=some (1,[x]):=by
  simp only[srcP,PM.rd,zaU];rfl
 rcases h with⟨rfl,rfl⟩|⟨k,e,rfl,hb⟩
 ·refine⟨.sl (M.length+1) 0 1 1 1,M++[some (⟨[x],true,0⟩:PB)]++[some (⟨[x],true,0⟩:PB)],?_,.inr ⟨M.length+1,0,rfl,?_⟩,?_⟩
  ·simp only[appP,hs];simp;omega
  ·have:=zaU (M++[some (⟨[x],true,0⟩:PB)]) (some (⟨[x],true,0⟩:PB))
   simpa using this
  ·intro j b hj _
   have hlt:=zb5 hj
   refine⟨?_,?_⟩
   ·rw[zaz] at hj ⊢
    rw[List.getElem?_append_left (by simp;omega),List.getElem?_append_left hlt];exact hj
   ·simp[NotIn];omega
 ·have hlt:=zb5 hb
  refine⟨.sl (M.length+1) 0 (xs.length+1) (xs.length+1) 1,(M++[some (⟨[x],true,0⟩:PB)]).set k none++[some (⟨xs++[x],true,0⟩:PB)],?_,.inr ⟨M.length+1,0,by simp,?_⟩,?_⟩
  ·have hb':PM.blk (M++[some (⟨[x],true,0⟩:PB)]) k=some ⟨xs,true,e⟩:=by
    rw[zaz] at hb ⊢
    rw[List.getElem?_append_left hlt];exact hb
   simp only[appP,hs,hb']
   have:(xs.length+1)*by_≤(xs.length+1)*64:=Nat.mul_le_mul_left _ hby
   simp
   omega
  ·have:=zaU ((M++[some (⟨[x],true,0⟩:PB)]).set k none) (some (⟨xs++[x],true,0⟩:PB))
   simpa using this
  ·intro j b hj hne
   have hltj:=zb5 hj
   refine⟨?_,?_⟩
   ·rw[zaz] at hj ⊢
    rw[List.getElem?_append_left (by simp;omega),List.getElem?_set_ne hne,List.getElem?_append_left hltj];exact hj
   ·simp[NotIn];omega
theorem zfM {M:PM} {v:PV} {xs:List PV} (h:Grows M v xs) (x:PV) (hl:xs.length<1000000000000) :
  ∃v' M',appP (M++[some (⟨[x],true,0⟩:PB)]) 1 8 v (.sl M.length 0 1 1 1)=some (v',M')∧Grows M' v' (xs++[x])∧(∀j b,PM.blk M j=some b→NotIn v j→PM.blk M' j=some b∧NotIn v' j):=zev (by decide) h x hl
theorem ze3 {α:Type} (n:Nat) (f:Nat→α):tab n f++[f n]=tab (n+1) f:=by
 simp[tab,List.range_succ]
theorem zlr {M:PM} {v:PV} {n:Nat} {g:Nat→Int} (d:Nat) (h:Grows M v (tab n fun k=>PV.i .i64 (g k))):(fz M (d+1+1) v).map Prod.fst=some (.lst (tab n fun k=>PV.i .i64 (g k))):=by
 rcases h with⟨h,rfl⟩|⟨k,e,rfl,hb⟩
 ·rw[h];rfl
 ·simp(disch:=omega)only[go_sem,seval,wqq,hb]
  by_cases hn:n=0
  ·rw[if_pos hn,hn];rfl
  ·rw[if_neg hn];rfl
theorem zjH (a b i:Nat):tdg (a+b) i=(tdg a i+tdg b i+(a%10000^i+b%10000^i)/10000^i)%10000 ∧
  (a%10000^(i+1)+b%10000^(i+1))/10000^(i+1)=(tdg a i+tdg b i+(a%10000^i+b%10000^i)/10000^i)/10000:=by
 have hp:=zdz i
 rw[zbn,zbn,zak,zak,zak,Nat.pow_succ]
 have ea:=Nat.mod_add_div a (10000^i)
 have eb:=Nat.mod_add_div b (10000^i)
 generalize 10000^i=P at *
 generalize hx:a%P=x at *
 generalize hy:b%P=y at *
 generalize a/P=u at *
 generalize b/P=w at *
 subst ea eb
 have e1:(x+P*u+(y+P*w))/P=(x+y)/P+(u+w):=by
  rw[show x+P*u+(y+P*w)=x+y+P*(u+w) by rw[Nat.mul_add];omega,Nat.add_mul_div_left _ _ hp]
 have e2:(x+P*(u%10000)+(y+P*(w%10000)))/P=(x+y)/P+(u%10000+w%10000):=by
  rw[show x+P*(u%10000)+(y+P*(w%10000))=x+y+P*(u%10000+w%10000) by rw[Nat.mul_add];omega,Nat.add_mul_div_left _ _ hp]
 rw[e1,←Nat.div_div_eq_div_mul,e2]
 generalize (x+y)/P=c
 omega
end Go.Eng
namespace Go.Eng
theorem znq {E:PEnv} {f:Nat} {xf:XF} {args:List PV} {R:PV→Prop} (hp:E.prog f=some (.fn xf)) (hl:args.length≤xf.n) (w:WK E ⟨xf.res,fun w M2=>∃v,(fz M2 fzD w).map Prod.fst=some v∧R v⟩ xf.body [] (frOf args) []) (ho:E.ovr f args=none:=by rfl):∃v,pf E f args=some v∧R v:=by
 obtain⟨lf,q,fr',M',vs,e,h1,h2,v,h3,h4⟩:=w
 exact⟨v,zaa hp hl ⟨lf,q,fr',M',vs,e,h1,h2,h3⟩ ho,h4⟩
theorem zpj {n m a b:Nat} (ha:a<10000^n) (hb:b<10000^m) (hn:n<1000000000) (hm:m<1000000000) :
  ∃k,pf E0 133 [Tw n a,Tw m b]=some (Tw k (a+b))∧a+b<10000^k∧k≤max n m+1:=by
 suffices h:∃v,pf E0 133 [Tw n a,Tw m b]=some v∧∃k,v=Tw k (a+b)∧a+b<10000^k∧k≤max n m+1 by
  obtain⟨v,h1,k,rfl,h2⟩:=h
  exact⟨k,h1,h2⟩
 refine znq (xf:=zxw) rfl (by simp[zxw]) ?_
 simp only[zxw]
 simp(disch:=omega)only[go_sem,seval,wqq,Int.natCast_zero]
 refine zao zyc.eq_1 (fun(i:Nat) fr M=>i≤max n m+1∧fr 0=Tw n a∧fr 1=Tw m b∧fr 6=(PV.i .i64 (((a%10000^i+b%10000^i)/10000^i:Nat):Int))∧fr 7=(PV.i .i64 ((i:Nat):Int))∧Grows M (fr 5) (tab i fun k=>(PV.i .i64 ((tdg (a+b) k:Nat):Int)))) (fun i=>max n m+1-i) ?_ 0 ⟨by omega,by simp only[go_sem,seval],by simp only[go_sem,seval],by simp only[go_sem,seval];try simp[Nat.mod_one],by simp only[go_sem,seval];try simp,.inl ⟨rfl,by simp only[go_sem,seval]⟩⟩
 rintro i fr M ⟨hi,h0,h1,h6,h7,hg⟩ ih
 obtain⟨t1,t2⟩:=zjH a b i
 have d1:tdg a i<10000:=by rw[zak];exact Nat.mod_lt _ (by decide)
 have d2:tdg b i<10000:=by rw[zak];exact Nat.mod_lt _ (by decide)
 have k1:=Nat.mod_lt a (zdz i)
 have k2:=Nat.mod_lt b (zdz i)
 have hc:(a%10000^i+b%10000^i)/10000^i≤1:=by
  have:(a%10000^i+b%10000^i)/10000^i<2:=by rw[Nat.div_lt_iff_lt_mul (zdz i)];omega
  omega
 have hz:max n m≤i→(a%10000^i+b%10000^i)/10000^i=0→a+b<10000^i:=fun q z=>by
  have e1:a%10000^i=a:=Nat.mod_eq_of_lt (Nat.lt_of_lt_of_le ha (Nat.pow_le_pow_right (by decide) (by omega)))
  have e2:b%10000^i=b:=Nat.mod_eq_of_lt (Nat.lt_of_lt_of_le hb (Nat.pow_le_pow_right (by decide) (by omega)))
  rw[e1,e2] at z
  rcases Nat.div_eq_zero_iff.1 z with z|z
  ·have:=zdz i;omega
  ·exact z
 have hz1:max n m+1≤i→(a%10000^i+b%10000^i)/10000^i=0:=fun q=>by
  obtain⟨j,rfl⟩:∃j,i=j+1:=⟨i-1,by omega⟩
  rw[(zjH a b j).2]
  have q1:tdg a j=0:=zc6 ha (by omega)
  have q2:tdg b j=0:=zc6 hb (by omega)
  have k1:=Nat.mod_lt a (zdz j)
  have k2:=Nat.mod_lt b (zdz j)
  have:(a%10000^j+b%10000^j)/10000^j<2:=by rw[Nat.div_lt_iff_lt_mul (zdz j)];omega
  rw[q1,q2]
  generalize (a%10000^j+b%10000^j)/10000^j=z at *
  omega
 generalize hC:(a%10000^i+b%10000^i)/10000^i=c at *
 have pa:=zqd (i:=i) ha (by omega) (by omega)
 have pb:=zqd (i:=i) hb (by omega) (by omega)
 by_cases hlt:i<n∨i<m∨c≠0
 ·have hi':i<max n m+1:=by
   rcases Nat.lt_or_ge i (max n m+1) with q|q
   ·exact q
   ·have:=hz1 q;omega
  obtain⟨v',M',he,hg',_⟩:=zfM hg (PV.i .i64 ((tdg (a+b) i:Nat):Int)) (by simp;omega)
  rw[ze3 i fun k=>(PV.i .i64 ((tdg (a+b) k:Nat):Int))] at hg'
  have tm:((tdg a i:Int)+(tdg b i:Int)+(c:Int)).tmod 10000=((tdg (a+b) i:Nat):Int):=by
   rw[t1,←Int.natCast_add,←Int.natCast_add];exact zcj _ 10000
  have td:((tdg a i:Int)+(tdg b i:Int)+(c:Int)).tdiv 10000=(((a%10000^(i+1)+b%10000^(i+1))/10000^(i+1):Nat):Int):=by
   rw[t2,←Int.natCast_add,←Int.natCast_add];exact zbr _ 10000
  have fin:∀(fr':PFr),fr' 0=Tw n a→fr' 1=Tw m b→fr' 6=(PV.i .i64 (((a%10000^(i+1)+b%10000^(i+1))/10000^(i+1):Nat):Int))→fr' 7=.i .i64 ((i:Int)+1)→fr' 5=v'→_:=fun fr' g0 g1 g6 g7 g5=>ih (i+1) fr' M' (by omega) ⟨by omega,g0,g1,g6,by rw[g7,Int.natCast_succ],by rw[g5];exact hg'⟩
  by_cases c1:i<n
  ·have q1:((i:Int)<(n:Int))=True:=by simp;omega
   simp(disch:=omega)only[go_sem,seval,wqq,h0,h1,h6,h7,q1,pa,pb,tm,he,td]
   exact fin _ (by simp only[go_sem,seval,h0]) (by simp only[go_sem,seval,h1]) (by simp only[go_sem,seval]) (by simp only[go_sem,seval]) (by simp only[go_sem,seval])
  ·have q1:((i:Int)<(n:Int))=False:=by simp;omega
   by_cases c2:i<m
   ·have q2:((i:Int)<(m:Int))=True:=by simp;omega
    simp(disch:=omega)only[go_sem,seval,wqq,h0,h1,h6,h7,q1,q2,pa,pb,tm,he,td]
    exact fin _ (by simp only[go_sem,seval,h0]) (by simp only[go_sem,seval,h1]) (by simp only[go_sem,seval]) (by simp only[go_sem,seval]) (by simp only[go_sem,seval])
   ·have q2:((i:Int)<(m:Int))=False:=by simp;omega
    have q3:((c:Int)>0)=True:=by simp;omega
    simp(disch:=omega)only[go_sem,seval,wqq,h0,h1,h6,h7,q1,q2,q3,pa,pb,tm,he,td]
    exact fin _ (by simp only[go_sem,seval,h0]) (by simp only[go_sem,seval,h1]) (by simp only[go_sem,seval]) (by simp only[go_sem,seval]) (by simp only[go_sem,seval])
 ·have q1:((i:Int)<(n:Int))=False:=by simp;omega
  have q2:((i:Int)<(m:Int))=False:=by simp;omega
  have q3:((c:Int)>0)=False:=by simp;omega
  simp(disch:=omega)only[go_sem,seval,wqq,h0,h1,h6,h7,q1,q2,q3]
  exact⟨_,zlr 10 hg,i,rfl,hz (by omega) (by omega),hi⟩
theorem zeS {n m a b s:Nat} (hs:a=s+b) (ha:a<10000^n) (hb:b<10000^m) (hn:n<1000000000) (hm:m<1000000000) :
  pf E0 135 [Tw n a,Tw m b]=some (Tw n s):=by
 refine zaa (xf:=zw6) rfl (by simp[zw6]) ?_
 simp only[zw6]
 simp(disch:=omega)only[go_sem,seval,wqq,Int.natCast_zero]
 refine zao zx8.eq_1 (fun(i:Nat) fr M=>i≤n∧fr 0=Tw n a∧fr 1=Tw m b∧fr 6=(PV.i .i64 (((s%10000^i+b%10000^i)/10000^i:Nat):Int))∧fr 7=(PV.i .i64 ((i:Nat):Int))∧Grows M (fr 5) (tab i fun k=>(PV.i .i64 ((tdg s k:Nat):Int)))) (fun i=>n-i) ?_ 0 ⟨by omega,by simp only[go_sem,seval],by simp only[go_sem,seval],by simp only[go_sem,seval];try simp[Nat.mod_one],by simp only[go_sem,seval];try simp,.inl ⟨rfl,by simp only[go_sem,seval]⟩⟩
 rintro i fr M ⟨hi,h0,h1,h6,h7,hg⟩ ih
 obtain⟨t1,t2⟩:=zjH s b i
 rw[←hs] at t1
 have d1:tdg s i<10000:=by rw[zak];exact Nat.mod_lt _ (by decide)
 have d2:tdg b i<10000:=by rw[zak];exact Nat.mod_lt _ (by decide)
 have hc:(s%10000^i+b%10000^i)/10000^i≤1:=by
  have k1:=Nat.mod_lt s (zdz i)
  have k2:=Nat.mod_lt b (zdz i)
  have:(s%10000^i+b%10000^i)/10000^i<2:=by rw[Nat.div_lt_iff_lt_mul (zdz i)];omega
  omega
 have pa:=zqd (i:=i) ha (by omega) (by omega)
 have pb:=zqd (i:=i) hb (by omega) (by omega)
 by_cases hlt:i<n
 ·have q1:((i:Int)<(n:Int))=True:=by simp;omega
  have fin:∀(fr':PFr) (v':PV) (M':PM),Grows M' v' (tab (i+1) fun k=>(PV.i .i64 ((tdg s k:Nat):Int)))→fr' 0=Tw n a→fr' 1=Tw m b→fr' 6=(PV.i .i64 (((s%10000^(i+1)+b%10000^(i+1))/10000^(i+1):Nat):Int))→fr' 7=.i .i64 ((i:Int)+1)→fr' 5=v'→_:=fun fr' v' M' hg' g0 g1 g6 g7 g5=>ih (i+1) fr' M' (by omega) ⟨by omega,g0,g1,g6,by rw[g7,Int.natCast_succ],by rw[g5];exact hg'⟩
  obtain⟨v',M',he,hg',_⟩:=zfM hg (PV.i .i64 ((tdg s i:Nat):Int)) (by simp;omega)
  rw[ze3 i fun k=>(PV.i .i64 ((tdg s k:Nat):Int))] at hg'
  rw[t2] at fin
  generalize (s%10000^i+b%10000^i)/10000^i=c at *
  have hw:(tdg a i:Int)-(tdg b i:Int)-(c:Int)<10000 ∧ -10001<(tdg a i:Int)-(tdg b i:Int)-(c:Int):=by omega
  by_cases hneg:tdg s i+tdg b i+c<10000
  ·have q2:((tdg a i:Int)-(tdg b i:Int)-(c:Int)<0)=False:=by simp;omega
   have q3:(tdg a i:Int)-(tdg b i:Int)-(c:Int)=(tdg s i:Nat):=by omega
   have q4:(tdg s i+tdg b i+c)/10000=0:=by omega
   rw[q4] at fin
   simp(disch:=omega)only[go_sem,seval,wqq,h0,h1,h6,h7,q1,pa,pb,q2]
   simp(disch:=omega)only[go_sem,seval,wqq,h0,h1,h6,h7,q3,he]
   exact fin _ v' M' hg' (by simp only[go_sem,seval,h0]) (by simp only[go_sem,seval,h1]) (by simp only[go_sem,seval];try rfl) (by simp only[go_sem,seval]) (by simp only[go_sem,seval])
  ·have q2:((tdg a i:Int)-(tdg b i:Int)-(c:Int)<0)=True:=by simp;omega
   have q3:(tdg a i:Int)-(tdg b i:Int)-(c:Int)+10000=(tdg s i:Nat):=by omega
   have q4:(tdg s i+tdg b i+c)/10000=1:=by omega
   rw[q4] at fin
   simp(disch:=omega)only[go_sem,seval,wqq,h0,h1,h6,h7,q1,pa,pb,q2,q3,he]
   exact fin _ v' M' hg' (by simp only[go_sem,seval,h0]) (by simp only[go_sem,seval,h1]) (by simp only[go_sem,seval];try rfl) (by simp only[go_sem,seval]) (by simp only[go_sem,seval])
 ·have q1:((i:Int)<(n:Int))=False:=by simp;omega
  have:i=n:=by omega
  subst this
  simp(disch:=omega)only[go_sem,seval,wqq,h0,h1,h6,h7,q1]
  exact zlr 10 hg
end Go.Eng
namespace Go.Eng
theorem zn3 {P T s c d r:Nat} (hP:0<P) (hT:T=s%P+P*c) (hs:s=T+P*d+P*10000*r) :
  s/P%10000=(c+d)%10000∧T+P*d=s%(P*10000)+P*10000*((c+d)/10000):=by
 have e1:s/P=c+d+10000*r:=by
  have h1:=Nat.div_add_mod s P
  have h2:P*(s/P)=P*(c+d+10000*r):=by
   rw[Nat.mul_add,Nat.mul_add,←Nat.mul_assoc];omega
  exact Nat.eq_of_mul_eq_mul_left hP h2
 have e2:s/P%10000=(c+d)%10000:=by omega
 refine⟨e2,?_⟩
 rw[Nat.mod_mul,e2,hT]
 have h3:=Nat.div_add_mod (c+d) 10000
 have h4:P*(c+d)=P*10000*((c+d)/10000)+P*((c+d)%10000):=by
  rw[Nat.mul_assoc,←Nat.mul_add,h3]
 rw[Nat.mul_add] at h4
 omega
theorem zlX (a i:Nat):a=a%10000^i+10000^i*tdg a i+10000^i*10000*(a/(10000^i*10000)):=by
 have h:=zbn a i
 have h2:=Nat.div_add_mod a (10000^i*10000)
 rw[Nat.pow_succ] at h
 omega
theorem znA (P w b i j:Nat):P+w*10000^i*b=(P%10000^(i+j)+w*10000^i*(b%10000^j))+10000^(i+j)*(tdg P (i+j)+w*tdg b j)+10000^(i+j)*10000*(P/(10000^(i+j)*10000)+w*(b/(10000^j*10000))):=by
 have sp:=zlX P (i+j)
 have sb:=zlX b j
 rw[Nat.pow_add] at sp ⊢
 generalize 10000^i=p at *
 generalize 10000^j=q at *
 generalize P%(p*q)=r1 at *
 generalize P/(p*q*10000)=r2 at *
 generalize b%q=r3 at *
 generalize b/(q*10000)=r4 at *
 generalize tdg P (i+j)=r5 at *
 generalize tdg b j=r6 at *
 subst sp sb
 grind
theorem zlN (x y:Int) (hx:tlen x.natAbs<100000000) (hy:tlen y.natAbs<100000000):pf E0 119 [nP x,nP y]=some (nP (x+y)):=by
 refine zaa (xf:=zxT) rfl (by simp[zxT]) ?_
 simp only[zxT]
 have c1:=zck x.natAbs y.natAbs (by omega) (by omega)
 obtain⟨k,hk1,hk2,hk3⟩:=zpj (zaj x.natAbs) (zaj y.natAbs) (by omega) (by omega)
 have n1:=zar (decide (x<0)) k (x.natAbs+y.natAbs) hk2 (by omega)
 by_cases hs:(decide (x<0))=decide (y<0)
 ·have e1:sgn (decide (x<0)) (x.natAbs+y.natAbs)=x+y:=by
   unfold sgn
   by_cases h:x<0
   ·have h':y<0:=by simpa [h] using hs
    simp[h];omega
   ·have h':¬y<0:=by simpa [h] using hs
    simp[h];omega
  rw[e1] at n1
  have hb:(decide (x<0)==decide (y<0))=true:=by simpa using hs
  simp only[go_sem,seval,hb]
  refine zbo rfl ?_
  simp only[go_sem,seval,hk1,n1]
 ·have hb:(decide (x<0)==decide (y<0))=false:=by simpa using hs
  by_cases hlt:x.natAbs<y.natAbs
  ·have hc:(cmpI (x.natAbs:Int) (y.natAbs:Int)<0)=True:=by unfold cmpI;simp;omega
   have hm:=zeS (a:=y.natAbs) (b:=x.natAbs) (s:=y.natAbs-x.natAbs) (by omega) (zaj _) (zaj _) (by omega) (by omega)
   have n2:=zar (decide (y<0)) (tlen y.natAbs) (y.natAbs-x.natAbs) (Nat.lt_of_le_of_lt (Nat.sub_le _ _) (zaj _)) (by omega)
   have e1:sgn (decide (y<0)) (y.natAbs-x.natAbs)=x+y:=by
    unfold sgn
    by_cases h:x<0
    ·have h':¬y<0:=fun q=>hs (by simp[h,q])
     simp[h'];omega
    ·have h':y<0:=by
      rcases Int.lt_or_le y 0 with q|q
      ·exact q
      ·exact absurd (by simp[h,show ¬y<0 by omega]) hs
     simp[h'];omega
   rw[e1] at n2
   simp only[go_sem,seval,hb,c1,hc]
   refine zbo rfl ?_
   simp only[go_sem,seval,hm,n2]
  ·have hc:(cmpI (x.natAbs:Int) (y.natAbs:Int)<0)=False:=by unfold cmpI;simp;omega
   have hm:=zeS (a:=x.natAbs) (b:=y.natAbs) (s:=x.natAbs-y.natAbs) (by omega) (zaj _) (zaj _) (by omega) (by omega)
   have n2:=zar (decide (x<0)) (tlen x.natAbs) (x.natAbs-y.natAbs) (Nat.lt_of_le_of_lt (Nat.sub_le _ _) (zaj _)) (by omega)
   have e1:sgn (decide (x<0)) (x.natAbs-y.natAbs)=x+y:=by
    unfold sgn
    by_cases h:x<0
    ·have h':¬y<0:=fun q=>hs (by simp[h,q])
     simp[h];omega
    ·have h':y<0:=by
      rcases Int.lt_or_le y 0 with q|q
      ·exact q
      ·exact absurd (by simp[h,show ¬y<0 by omega]) hs
     simp[h];omega
   rw[e1] at n2
   simp only[go_sem,seval,hb,c1,hc]
   refine zbo rfl ?_
   simp only[go_sem,seval,hm,n2]
theorem zjy {F:PFin} {ks:List KI} {s t:Bool} {n m P x b w i e0:Nat} (hb:b<10000^m) (hw:w<10000) (hwx:tdg x i=w) (hi:i<n) (hn:n<100000000) (hm:m<100000000) {fr:PFr} {M:PM} (h2:fr 2=.p 0 0) (h3:fr 3=.p 1 0) (h4:fr 4=.p 2 0) (h5:fr 5=.sl 3 0 (n+m) (n+m) 1)
  (h6:fr 6=(PV.i .i64 ((i:Nat):Int))) (h7:fr 7=.i .i64 0) (h8:fr 8=.i .i64 0) (hM:M=[some ⟨[.b s,Tw n x],true,0⟩,some ⟨[.b t,Tw m b],true,0⟩,some ⟨[.b false,.nl],true,0⟩,some ⟨tab (n+m) fun k=>(PV.i .i64 ((tdg P k:Nat):Int)),true,e0⟩])
  (cont:∀fr' e c,fr' 2=.p 0 0→fr' 3=.p 1 0→fr' 4=.p 2 0→fr' 5=.sl 3 0 (n+m) (n+m) 1→fr' 6=(PV.i .i64 ((i:Nat):Int))→fr' 7=(PV.i .i64 ((c:Nat):Int))→c<10000→P%10000^(i+m)+w*10000^i*b=(P+w*10000^i*b)%10000^(i+m)+10000^(i+m)*c →
   UK E0 F (.exit 2) ks fr' [some ⟨[.b s,Tw n x],true,0⟩,some ⟨[.b t,Tw m b],true,0⟩,some ⟨[.b false,.nl],true,0⟩,some ⟨tab (n+m) (fun k=>(PV.i .i64 ((if k<i+m then tdg (P+w*10000^i*b) k else tdg P k:Nat):Int))),true,e⟩]):WK E0 F (.loop zx0) ks fr M:=by
 refine zao zx0.eq_1 (fun(j:Nat) fr M=>j≤m∧fr 2=.p 0 0∧fr 3=.p 1 0∧fr 4=.p 2 0∧fr 5=.sl 3 0 (n+m) (n+m) 1∧fr 6=(PV.i .i64 ((i:Nat):Int))∧fr 8=(PV.i .i64 ((j:Nat):Int)) ∧
  ∃c e:Nat,fr 7=(PV.i .i64 ((c:Nat):Int))∧M=[some ⟨[.b s,Tw n x],true,0⟩,some ⟨[.b t,Tw m b],true,0⟩,some ⟨[.b false,.nl],true,0⟩,some ⟨tab (n+m) fun k=>(PV.i .i64 ((if k<i+j then tdg (P+w*10000^i*b) k else tdg P k:Nat):Int)),true,e⟩]∧c<10000∧P%10000^(i+j)+w*10000^i*(b%10000^j)=(P+w*10000^i*b)%10000^(i+j)+10000^(i+j)*c)
  (fun j=>m-j) ?_ 0 ⟨Nat.zero_le _,h2,h3,h4,h5,h6,h8,0,e0,h7,?_,by decide,?_⟩
 ·rintro j fr M ⟨hj,h2,h3,h4,h5,h6,h8,c,e,h7,rfl,hc,hinv⟩ ih
  by_cases hjm:j<m
  ·have hc0:((j:Int)<(m:Int))=True:=by simp;omega
   have db:tdg b j<10000:=by rw[zak];exact Nat.mod_lt _ (by decide)
   have dp:tdg P (i+j)<10000:=by rw[zak];exact Nat.mod_lt _ (by decide)
   have hget:(tab (n+m) fun k=>(PV.i .i64 ((if k<i+j then tdg (P+w*10000^i*b) k else tdg P k:Nat):Int)))[i+j]?=some (PV.i .i64 ((tdg P (i+j):Nat):Int)):=by rw[zaM (by omega),if_neg (by omega)]
   have hij:((i:Int)+(j:Int))=((i+j:Nat):Int):=by omega
   have j1:((j:Int)+1)=((j+1:Nat):Int):=by omega
   have hmul:w*tdg b j≤9999*9999:=Nat.mul_le_mul (by omega) (by omega)
   have hww:((tdg x i:Int)*(tdg b j:Int))=((w*tdg b j:Nat):Int):=by rw[hwx];simp
   have hadd:((tdg P (i+j):Int)+((w*tdg b j:Nat):Int)+(c:Int))=((w*tdg b j+tdg P (i+j)+c:Nat):Int):=by omega
   have hlt:i+j<n+m:=by omega
   have td:((w*tdg b j+tdg P (i+j)+c:Nat):Int).tdiv 10000=(((w*tdg b j+tdg P (i+j)+c)/10000:Nat):Int):=zbr _ 10000
   have tm:((w*tdg b j+tdg P (i+j)+c:Nat):Int).tmod 10000=(((w*tdg b j+tdg P (i+j)+c)%10000:Nat):Int):=zcj _ 10000
   simp(disch:=omega)only[go_sem,seval,wqq,h2,h3,h5,h6,h7,h8,hc0,zbP,hij,hget,hww,hadd,hlt,j1,zas,tm,td]
   obtain⟨k1,k2⟩:=zn3 (c:=c) (zdz (i+j)) hinv (znA P w b i j)
   have hx:c+(tdg P (i+j)+w*tdg b j)=w*tdg b j+tdg P (i+j)+c:=by omega
   rw[hx] at k1 k2
   refine ih (j+1) _ _ (by omega) ⟨by omega,by simp only[go_sem,seval,h2],by simp only[go_sem,seval,h3],by simp only[go_sem,seval,h4],by simp only[go_sem,seval,h5],by simp only[go_sem,seval,h6],by simp only[go_sem,seval],(w*tdg b j+tdg P (i+j)+c)/10000,e+1,by simp only[go_sem,seval],?_,by omega,?_⟩
   ·congr 6
    refine zaf fun k hk=>?_
    by_cases hki:k=i+j
    ·subst hki
     rw[if_pos rfl,if_pos (by omega)]
     congr 2;rw[zak (P+w*10000^i*b)];exact k1.symm
    ·rw[if_neg hki]
     congr 2
     by_cases h:k<i+j
     ·rw[if_pos h,if_pos (by omega)]
     ·rw[if_neg h,if_neg (by omega)]
   ·rw[show i+(j+1)=i+j+1 by omega,Nat.pow_succ,←k2,←Nat.pow_succ,zbn P,zbn b]
    rw[Nat.pow_add]
    grind
  ·have hc0:((j:Int)<(m:Int))=False:=by simp;omega
   obtain rfl:j=m:=by omega
   simp only[go_sem,seval,h2,h3,h8,hc0]
   rw[Nat.mod_eq_of_lt hb] at hinv
   exact cont _ e c (by simp only[go_sem,seval,h2]) (by simp only[go_sem,seval,h3]) (by simp only[go_sem,seval,h4]) (by simp only[go_sem,seval,h5]) (by simp only[go_sem,seval,h6]) (by simp only[go_sem,seval,h7]) hc hinv
 ·rw[hM]
  congr 6
  refine zaf fun k hk=>?_
  congr 2
  by_cases h:k<i+0
  ·rw[if_pos h,zak,zak]
   have e1:(10000:Nat)^i=10000^k*(10000^(i-k-1)*10000):=by
    rw[←Nat.pow_succ,←Nat.pow_add];congr 1;omega
   rw[e1,show w*(10000^k*(10000^(i-k-1)*10000))*b=10000^k*(10000*(w*10000^(i-k-1)*b)) by grind,Nat.add_mul_div_left _ _ (zdz k),Nat.add_mul_mod_self_left]
  ·rw[if_neg h]
 ·have e1:P+w*10000^i*b=P+10000^i*(w*b):=by grind
  rw[Nat.add_zero,Nat.pow_zero,Nat.mod_one,e1,Nat.add_mul_mod_self_left];simp
noncomputable def nPw (s:Bool) (n a:Nat):PV:=.ag [.b s,Tw n a]
@[go_sem] theorem zn6 (s:Bool) (n a:Nat):(nPw s n a).cells=[.b s,Tw n a]:=_root_.id rfl
theorem ziG (x:Int):nP x=nPw (decide (x<0)) (tlen x.natAbs) x.natAbs:=rfl
theorem znk (s t:Bool):pf E0 118 [nPw s 0 0,nPw t 0 0]=some (nP 0):=by
 refine zaa (xf:=zwH) rfl (by simp[zwH]) ?_
 simp only[zwH]
 have hno:=zar (!(s==t)) 0 0 (by decide) (by omega)
 have hz:(Tw 0 0:PV)=.lst []:=rfl
 rw[show sgn (!(s==t)) 0=0 by unfold sgn;split<;>rfl,hz] at hno
 simp(disch:=omega)only[go_sem,seval,wqq,Int.natCast_zero,Int.add_zero,zcA,Int.reduceLE,Int.reduceToNat,zdK]
 refine zcy ?_
 simp only[zxZ]
 simp(disch:=omega)only[go_sem,seval,wqq,Int.natCast_zero,Int.lt_irrefl,hno]
 rfl
theorem znl {s t:Bool} {n m a b:Nat} (ha:a<10000^n) (hb:b<10000^m) (hn:n<100000000) (hm:m<100000000) (h0:n+m≠0):pf E0 118 [nPw s n a,nPw t m b]=some (nP (sgn (!(s==t)) (a*b))):=by
 refine zaa (xf:=zwH) rfl (by simp[zwH]) ?_
 simp only[zwH]
 have hnm:((n:Int)+(m:Int))=((n+m:Nat):Int):=by omega
 have hab:a*b<10000^(n+m):=by rw[Nat.pow_add];exact Nat.mul_lt_mul'' ha hb
 have hno:=zar (!(s==t)) (n+m) (a*b) hab (by omega)
 simp(disch:=omega)only[go_sem,seval,wqq,hnm,zco,Int.natCast_zero]
 refine zao zxZ.eq_1 (fun(i:Nat) fr M=>i≤n∧fr 2=.p 0 0∧fr 3=.p 1 0∧fr 4=.p 2 0∧fr 5=.sl 3 0 (n+m) (n+m) 1∧fr 6=(PV.i .i64 ((i:Nat):Int)) ∧
  ∃e:Nat,M=[some ⟨[.b s,Tw n a],true,0⟩,some ⟨[.b t,Tw m b],true,0⟩,some ⟨[.b false,.nl],true,0⟩,some ⟨tab (n+m) fun k=>(PV.i .i64 ((tdg (a%10000^i*b) k:Nat):Int)),true,e⟩]) (fun i=>n-i) ?_ 0 ⟨Nat.zero_le _,by simp only[go_sem,seval],by simp only[go_sem,seval],by simp only[go_sem,seval],by simp only[go_sem,seval],by simp only[go_sem,seval];try rfl,0,?_⟩
 ·rintro i fr M ⟨hi,h2,h3,h4,h5,h6,e,rfl⟩ ih
  by_cases hin:i<n
  ·have hc0:((i:Int)<(n:Int))=True:=by simp;omega
   have i1:((i:Int)+1)=((i+1:Nat):Int):=by omega
   have da:tdg a i<10000:=by rw[zak];exact Nat.mod_lt _ (by decide)
   simp(disch:=omega)only[go_sem,seval,wqq,h2,h3,h4,h5,h6,hc0]
   refine zjy (n:=n) (P:=a%10000^i*b) (w:=tdg a i) hb da rfl hin (by omega) (by omega) (by simp only[go_sem,seval,h2]) (by simp only[go_sem,seval,h3]) (by simp only[go_sem,seval,h4]) (by simp only[go_sem,seval,h5]) (by simp only[go_sem,seval,h6]) (by simp only[go_sem,seval]) (by simp only[go_sem,seval]) rfl fun fr' e' c g2 g3 g4 g5 g6 g7 hc hinv=>?_
   have him:((i:Int)+(m:Int))=((i+m:Nat):Int):=by omega
   have hlt:i+m<n+m:=by omega
   simp(disch:=omega)only[go_sem,seval,wqq,g2,g3,g4,g5,g6,g7,him,hlt,i1,zas]
   have hP:a%10000^(i+1)*b=a%10000^i*b+tdg a i*10000^i*b:=by rw[zbn];grind
   have hPl:a%10000^i*b<10000^(i+m):=by
    rw[Nat.pow_add]
    exact Nat.mul_lt_mul'' (Nat.mod_lt _ (zdz i)) hb
   refine ih (i+1) _ _ (by omega) ⟨by omega,by simp only[go_sem,seval,g2],by simp only[go_sem,seval,g3],by simp only[go_sem,seval,g4],by simp only[go_sem,seval,g5],by simp only[go_sem,seval],e'+1,?_⟩
   congr 6
   refine zaf fun k hk=>?_
   rw[hP]
   rw[Nat.mod_eq_of_lt hPl] at hinv
   have hval:a%10000^i*b+tdg a i*10000^i*b=(a%10000^i*b+tdg a i*10000^i*b)%10000^(i+m)+10000^(i+m)*c:=hinv
   have hd:(a%10000^i*b+tdg a i*10000^i*b)/10000^(i+m)=c:=by
    have h1:=Nat.div_add_mod (a%10000^i*b+tdg a i*10000^i*b) (10000^(i+m))
    exact Nat.eq_of_mul_eq_mul_left (zdz (i+m)) (by omega)
   by_cases hki:k=i+m
   ·subst hki
    rw[if_pos rfl,zak,hd]
    congr 2;omega
   ·rw[if_neg hki]
    congr 2
    by_cases h:k<i+m
    ·rw[if_pos h]
    ·rw[if_neg h,zc6 hPl (by omega)]
     have:a%10000^i*b+tdg a i*10000^i*b<10000^(i+m+1):=by
      rw[Nat.pow_succ]
      have h2:=Nat.mod_lt (a%10000^i*b+tdg a i*10000^i*b) (zdz (i+m))
      have h3:10000^(i+m)*(c+1)≤10000^(i+m)*10000:=Nat.mul_le_mul_left _ (by omega)
      rw[Nat.mul_add] at h3
      omega
     rw[zc6 this (by omega)]
  ·have hc0:((i:Int)<(n:Int))=False:=by simp;omega
   obtain rfl:i=n:=by omega
   rw[Nat.mod_eq_of_lt ha]
   have h0':(i+m=0)=False:=by simp;omega
   simp(disch:=omega)only[go_sem,seval,wqq,h2,h3,h4,h5,h6,hc0,h0',hno]
 ·rw[zcd]
  congr 6
  refine zaf fun k hk=>?_
  simp[Nat.mod_one,zk6]
theorem zja {s t:Bool} {n m a b:Nat} (ha:a<10000^n) (hb:b<10000^m) (hn:n<100000000) (hm:m<100000000):pf E0 118 [nPw s n a,nPw t m b]=some (nP (sgn (!(s==t)) (a*b))):=by
 by_cases h0:n+m=0
 ·obtain rfl:n=0:=by omega
  obtain rfl:m=0:=by omega
  obtain rfl:a=0:=by simpa using ha
  obtain rfl:b=0:=by simpa using hb
  rw[znk]
  unfold sgn;split<;>rfl
 ·exact znl ha hb hn hm h0
theorem zdQ (x y:Int) (hx:tlen x.natAbs<100000000) (hy:tlen y.natAbs<100000000):pf E0 118 [nP x,nP y]=some (nP (x*y)):=by
 rw[ziG x,ziG y,zja (zaj _) (zaj _) hx hy]
 congr 2
 have e:((x.natAbs*y.natAbs:Nat):Int)=(x*y).natAbs:=by rw[Int.natAbs_mul]
 unfold sgn
 by_cases h:x<0
 ·by_cases h':y<0
  ·have:=Int.mul_pos_of_neg_of_neg h h'
   simp only[h,h',decide_true]
   rw[e]
   simp;omega
  ·have:=Int.mul_nonneg (show 0 ≤ -x by omega) (show 0≤y by omega)
   rw[Int.neg_mul] at this
   simp only[h,h',decide_true,decide_false]
   rw[e]
   simp;omega
 ·by_cases h':y<0
  ·have:=Int.mul_nonneg (show 0≤x by omega) (show 0 ≤ -y by omega)
   rw[Int.mul_neg] at this
   simp only[h,h',decide_true,decide_false]
   rw[e]
   simp;omega
  ·have:=Int.mul_nonneg (show 0≤x by omega) (show 0≤y by omega)
   simp only[h,h',decide_false]
   rw[e]
   simp;omega
end Go.Eng
namespace Go.Eng
theorem zae {v n:Nat} (h:v<10000^n):tlen v≤n:=za2.2 h
theorem zbs (a i:Nat):a/10000^(i+1)=a/10000^i/10000:=by rw[Nat.pow_succ,Nat.div_div_eq_div_mul]
theorem zkV {M:PM} {k j:Nat} {b:PB} (h:PM.blk M j=some b) (hne:k≠j):PM.blk (roB M k) j=some b:=by
 unfold roB
 split
 ·rw[zbN hne];exact h
 ·exact h
theorem zgx {M:PM} {v:PV} {n:Nat} {g:Nat→Int} (h:Grows M v (tab n fun k=>PV.i .i64 (g k))) :
  ∃ns,(∀d,fz M (d+1+1) v=some (.lst (tab n fun k=>PV.i .i64 (g k)),ns))∧∀j b,PM.blk M j=some b→NotIn v j→PM.blk (roM M ns) j=some b:=by
 rcases h with⟨h,rfl⟩|⟨k,e,rfl,hb⟩
 ·exact⟨[],fun d=>by rw[h];rfl,fun j b hj _=>hj⟩
 ·by_cases hn:n=0
  ·subst hn
   exact⟨[],fun d=>rfl,fun j b hj _=>hj⟩
  ·refine⟨[k],fun d=>?_,fun j b hj hne=>zkV hj hne⟩
   simp(disch:=omega)only[go_sem,seval,wqq,hb]
   rw[if_neg hn]
theorem zdi (n:Int) (h:Fits64 n):pf E0 114 [.i .i64 n]=some (nP n):=by
 refine zaa (xf:=zx3) rfl (by simp[zx3]) ?_
 simp only[zx3]
 have hf:=h
 unfold Fits64 at h
 simp(disch:=omega)only[go_sem,seval,wqq]
 refine zao zye.eq_1 (fun(z:Int) fr M=>fr 0=.i .i64 z∧fr 2=.p 0 0∧fr 4=.b (decide (n<0)) ∧ -9223372036854775808≤z∧z≤9223372036854775807 ∧
  ∃i,i+tlen z.natAbs≤20∧z.natAbs=n.natAbs/10000^i∧PM.blk M 0=some ⟨[.b false,.nl],true,0⟩∧NotIn (fr 3) 0∧Grows M (fr 3) (tab i fun k=>(PV.i .i64 ((tdg n.natAbs k:Nat):Int)))) (fun z=>z.natAbs) ?_ n ⟨by simp only[go_sem,seval],by simp only[go_sem,seval],by simp only[go_sem,seval],by omega,by omega,0,?_,by simp,rfl,by simp only[go_sem,seval];trivial,.inl ⟨rfl,by simp only[go_sem,seval]⟩⟩
 ·rintro z fr M ⟨h0,h2,h4,z1,z2,i,hi,hz,hb,hni,hg⟩ ih
  by_cases hz0:z=0
  ·subst hz0
   have hlt:n.natAbs<10000^i:=by
    have:=hz.symm
    rcases Nat.div_eq_zero_iff.1 this with q|q
    ·have:=zdz i;omega
    ·exact q
   have hno:=zar (decide (n<0)) i n.natAbs hlt (by omega)
   have e1:sgn (decide (n<0)) n.natAbs=n:=by
    unfold sgn
    by_cases q:n<0
    ·simp[q];omega
    ·simp[q];omega
   rw[e1] at hno
   obtain⟨ns,f1,f2⟩:=zgx hg
   have f3:=f2 0 _ hb hni
   have f4:=zb5 f3
   simp(disch:=omega)only[go_sem,seval,wqq,h0,h2,h4,f1,hno,f3,zbM]
  ·have r1:(z.tmod 10000).natAbs=z.natAbs%10000:=by rw[Int.natAbs_tmod];rfl
   have r2:(z.tdiv 10000).natAbs=z.natAbs/10000:=by rw[Int.natAbs_tdiv];rfl
   have dd:z.natAbs%10000=tdg n.natAbs i:=by rw[hz,zak]
   have ql:z.natAbs/10000=n.natAbs/10000^(i+1):=by rw[zbs,hz]
   have tl:i+1+tlen (z.natAbs/10000)≤20:=by
    have:tlen (z.natAbs/10000)≤tlen z.natAbs-1:=by
     rw[za2]
     have h1:=zaj z.natAbs
     have h2:=zaR (v:=z.natAbs) (by omega)
     rw[show tlen z.natAbs=tlen z.natAbs-1+1 by omega,Nat.pow_succ] at h1
     exact Nat.div_lt_of_lt_mul (by omega)
    have h2:=zaR (v:=z.natAbs) (by omega)
    omega
   obtain⟨v',M',he,hg',hk⟩:=zfM hg (PV.i .i64 ((tdg n.natAbs i:Nat):Int)) (by simp;omega)
   rw[ze3 i fun k=>(PV.i .i64 ((tdg n.natAbs k:Nat):Int))] at hg'
   obtain⟨hk1,hk2⟩:=hk 0 _ hb hni
   have q1:((z=0)=False):=by simp[hz0]
   generalize hr:z.tmod 10000=r at *
   generalize hq:z.tdiv 10000=q at *
   by_cases hr0:r<0
   ·have e1:(0:Int)-r=(tdg n.natAbs i:Nat):=by omega
    simp(disch:=omega)only[go_sem,seval,wqq,h0,h2,h4,q1,hr,hq,hr0,e1,he]
    exact ih q _ M' (by omega) ⟨by simp only[go_sem,seval],by simp only[go_sem,seval,h2],by simp only[go_sem,seval,h4],by omega,by omega,i+1,by rw[r2];exact tl,by rw[r2,ql],hk1,by simp only[go_sem,seval];exact hk2,by simp only[go_sem,seval];exact hg'⟩
   ·have e1:r=(tdg n.natAbs i:Nat):=by omega
    rw[←e1] at he
    simp(disch:=omega)only[go_sem,seval,wqq,h0,h2,h4,q1,hr,hq,hr0,he]
    exact ih q _ M' (by omega) ⟨by simp only[go_sem,seval],by simp only[go_sem,seval,h2],by simp only[go_sem,seval,h4],by omega,by omega,i+1,by rw[r2];exact tl,by rw[r2,ql],hk1,by simp only[go_sem,seval];exact hk2,by simp only[go_sem,seval];exact hg'⟩
 ·rw[Nat.zero_add];exact zae (by omega)
end Go.Eng
namespace Go.Eng
theorem zgW {n a k:Nat} (ha:a<10000^n) (hn:n<100000000) (hk:k<10000):pf E0 149 [Tw n a,(PV.i .i64 ((k:Nat):Int))]=some (T (a*k)):=by
 refine zaa (xf:=zxf) rfl (by simp[zxf]) ?_
 simp only[zxf]
 have ho:=zdi (k:Int) (by unfold Fits64;omega)
 have hl:tlen (k:Int).natAbs<100000000:=by
  have:tlen k≤1:=zae (by rw[Nat.pow_one];exact hk)
  rw[Int.natAbs_natCast];omega
 have hm:=zja (s:=false) (t:=decide ((k:Int)<0)) ha (zaj (k:Int).natAbs) hn hl
 have e:sgn (!(false==decide ((k:Int)<0))) (a*(k:Int).natAbs)=((a*k:Nat):Int):=by
  have:decide ((k:Int)<0)=false:=by simp
  rw[this];simp[sgn]
 rw[←ziG,e] at hm
 unfold nPw at hm
 have e2:((a*k:Nat):Int).natAbs=a*k:=Int.natAbs_natCast _
 simp(disch:=omega)only[go_sem,seval,wqq,ho,hm,e2]
theorem ze5 (j:Nat):tlen (2^j)≤j+1:=by
 rw[za2]
 have h1:2^j<2^(j+1):=Nat.pow_lt_pow_right (by decide) (by omega)
 exact Nat.lt_of_lt_of_le h1 (Nat.pow_le_pow_left (by decide) _)
def two (i:Nat):Int:=((2^i:Nat):Int)
theorem zci (j:Nat):(two j).natAbs=2^j:=Int.natAbs_natCast _
theorem zjb (i j:Nat) (hi:i<10000000) (hj:j<10000000):pf E0 118 [nP (two i),nP (two j)]=some (nP (two (i+j))):=by
 have h1:=ze5 i
 have h2:=ze5 j
 rw[zdQ _ _ (by rw[zci];omega) (by rw[zci];omega)]
 congr 2
 unfold two
 rw[Nat.pow_add,Int.natCast_mul]
theorem zeT (K:Nat) (hK:K≤16384):pf E0 128 [(PV.i .i64 ((K:Nat):Int))]=some (nP (two K)):=by
 refine zaa (xf:=zxj) rfl (by simp[zxj]) ?_
 simp only[zxj]
 have o1:pf E0 114 [.i .i64 1]=some (nP (two 0)):=zdi 1 (by unfold Fits64;omega)
 have o2:pf E0 114 [.i .i64 2]=some (nP (two 1)):=zdi 2 (by unfold Fits64;omega)
 simp(disch:=omega)only[go_sem,seval,wqq,o1,o2]
 refine zao zx9.eq_1 (fun(k:Nat) fr M=>fr 0=(PV.i .i64 ((k:Nat):Int))∧fr 2=.p 0 0∧fr 3=.p 1 0∧fr 4=.p 2 0∧∃i j e1 e2,i+j*k=K∧0<j∧(k=0∨j≤K)∧j≤40000 ∧
  M=[some ⟨[.b false,.nl],true,0⟩,some ⟨(nP (two i)).cells,true,e1⟩,some ⟨(nP (two j)).cells,true,e2⟩]) id ?_ K ⟨by simp only[go_sem,seval],by simp only[go_sem,seval],by simp only[go_sem,seval],by simp only[go_sem,seval],0,1,1,1,by omega,by omega,by omega,by omega,rfl⟩
 rintro k fr M ⟨h0,h2,h3,h4,i,j,e1,e2,hk,hj0,hj,hj2,rfl⟩ ih
 by_cases hk0:k=0
 ·subst hk0
  obtain rfl:i=K:=by omega
  simp(disch:=omega)only[go_sem,seval,wqq,h0,h2,h3,h4,Int.natCast_zero,Int.lt_irrefl,gt_iff_lt]
 ·have q0:((k:Int)>0)=True:=by simp;omega
  have tm:(k:Int).tmod 2=((k%2:Nat):Int):=zcj _ 2
  have td:(k:Int).tdiv 2=((k/2:Nat):Int):=zbr _ 2
  have hjk:j≤j*k:=Nat.le_mul_of_pos_right _ (by omega)
  have hkk:k≤j*k:=Nat.le_mul_of_pos_left _ hj0
  have hdd:k/2≤16384:=by omega
  have hk2:j*k=2*j*(k/2)+j*(k%2):=by
   have:=Nat.div_add_mod k 2
   generalize k/2=u at *
   generalize k%2=r at *
   subst this
   grind
  have hj3:k/2=0∨2*j≤K:=by
   rcases Nat.eq_zero_or_pos (k/2) with q|q
   ·exact .inl q
   ·have:=Nat.le_mul_of_pos_right (2*j) q
    exact .inr (by omega)
  have m2:=zjb j j (by omega) (by omega)
  rw[←Nat.two_mul] at m2
  by_cases hr:k%2=1
  ·have m1:=zjb i j (by omega) (by omega)
   rw[hr] at tm hk2
   simp(disch:=omega)only[go_sem,seval,wqq,h0,h2,h3,h4,q0,tm,td,m1,m2,Int.natCast_one]
   exact ih (k/2) _ _ (by simp only[id];omega) ⟨by simp only[go_sem,seval],by simp only[go_sem,seval,h2],by simp only[go_sem,seval,h3],by simp only[go_sem,seval,h4],i+j,2*j,_,_,by omega,by omega,hj3,by omega,rfl⟩
  ·have hr0:k%2=0:=by omega
   rw[hr0] at tm hk2
   simp(disch:=omega)only[go_sem,seval,wqq,h0,h2,h3,h4,q0,tm,td,m2,Int.natCast_zero]
   exact ih (k/2) _ _ (by simp only[id];omega) ⟨by simp only[go_sem,seval],by simp only[go_sem,seval,h2],by simp only[go_sem,seval,h3],by simp only[go_sem,seval,h4],i,2*j,_,_,by omega,by omega,hj3,by omega,rfl⟩
end Go.Eng
namespace Go.Eng
def aro (n m:Int):Int:=(if n<0 then-(n+1) else n)%m
theorem zd6 (n:Int) {m:Int} (h:1≤m):0≤aro n m:=Int.emod_nonneg _ (by omega)
theorem zlg (n:Int) {m:Int} (h:1≤m):aro n m<m:=Int.emod_lt_of_pos _ (by omega)
def ints (xs:List Int):PV:=.lst (xs.map fun n=>.i .i64 n)
@[go_sem] theorem zoE (xs:List Int):lenP (ints xs)=some (.i .i64 (xs.length:Int)):=by simp[ints,lenP]
theorem zfn {xs:List Int} {j:Nat} {n:Int} (h:xs[j]?=some n):idxP 1 (ints xs) (some j)=some (.fp [.i .i64 n]):=by
 rw[ints,zeI]
 simp[h];rfl
def pick (xs:List Int) (i m:Int):Int:=if i<0∨(xs.length:Int)≤i then 0 else aro (xs.getD i.toNat 0) m
theorem zdT (xs:List Int) (i:Int) {m:Int} (h:1≤m):0≤pick xs i m:=by
 unfold pick;split
 ·omega
 ·exact zd6 _ h
theorem zjj (xs:List Int) (i:Int) {m:Int} (h:1≤m):pick xs i m<m:=by
 unfold pick;split
 ·omega
 ·exact zlg _ h
def Ints (xs:List Int):Prop:=xs.length≤9223372036854775807∧∀n∈xs,Fits64 n
end Go.Eng
namespace Go.Eng
@[go_sem] theorem zrd (M:PM) (d:Nat) (xs:List Int):fz M (d+1) (ints xs)=some (ints xs,[]):=_root_.id rfl
theorem za4 {M:PM} {j:Nat} {b:PB} (h:PM.blk M j=some b) (c:Option PB):PM.blk (M++[c]) j=some b:=by
 have:=zb5 h
 rw[zaz] at h ⊢
 rw[List.getElem?_append_left this];exact h
theorem zce (a b:Int):tlen (a*b).natAbs≤tlen a.natAbs+tlen b.natAbs:=by
 rw[Int.natAbs_mul,za2,Nat.pow_add]
 exact Nat.mul_lt_mul'' (zaj _) (zaj _)
theorem zpH {z:Int} (h:z.natAbs<10000):tlen z.natAbs≤1:=zae (by rw[Nat.pow_one];exact h)
def numT (k:Nat):Int:=two (32*(k%7)+k/7%5*8)*(((k/35%9:Nat):Int)-4)+(((k/315%5:Nat):Int)-2)
def numS (xs:List Int) (at_:Int):Nat→Int
 | 0=>0
 | i+1=>numS xs at_ i+numT (pick xs (at_+1+i) 1000000).toNat
end Go.Eng
namespace Go.Eng
noncomputable def dgi (v:Nat) (z:Int):Nat:=if z<0 then 0 else tdg v z.toNat
theorem zlk (v:Nat) (z:Int):dgi v z<10000:=by unfold dgi;split;omega;exact zdh _ _
theorem zgP {v:Nat} {z:Int} (hz:Fits64 z) (hv:tlen v<100000000):pf E0 159 [T v,.i .i64 z]=some (PV.i .i64 ((dgi v z:Nat):Int)):=by
 refine zaa (xf:=zwU) rfl (by simp[zwU]) ?_
 simp only[zwU]
 unfold Fits64 at hz
 unfold dgi
 by_cases h:z<0
 ·rw[if_pos h]
  simp(disch:=omega)only[go_sem,seval,wqq,h,Int.natCast_zero]
 ·rw[if_neg h]
  obtain⟨i,rfl⟩:∃i:Nat,z=i:=⟨z.toNat,by omega⟩
  rw[Int.toNat_natCast]
  by_cases h':tlen v≤i
  ·have q1:((i:Int)≥(tlen v:Int))=True:=by simp;omega
   rw[zc6 (zaj v) h']
   simp(disch:=omega)only[go_sem,seval,wqq,h,q1,Int.natCast_zero]
  ·have q1:((i:Int)≥(tlen v:Int))=False:=by simp;omega
   have e:T v=Tw (tlen v) v:=rfl
   simp(disch:=omega)only[go_sem,seval,wqq,h,q1,e,zbP]
theorem zly {b k:Nat} (hk:0<k) (hb:b<10000^k):10000*tdg b (k-1)+dgi b ((k:Int)-2)=10000*b/10000^(k-1):=by
 obtain⟨j,rfl⟩:∃j,k=j+1:=⟨k-1,by omega⟩
 have e0:tdg b j=b/10000^j:=by
  rw[zak,Nat.mod_eq_of_lt]
  rw[Nat.pow_succ] at hb
  exact Nat.div_lt_of_lt_mul hb
 have e1:j+1-1=j:=by omega
 rw[e1]
 cases j with
 | zero =>
  have:dgi b (((0+1:Nat):Int)-2)=0:=by unfold dgi;rw[if_pos (by omega)]
  rw[this,e0];simp
 | succ j =>
  have e2:dgi b (((j+1+1:Nat):Int)-2)=tdg b j:=by
   unfold dgi
   rw[if_neg (by omega)]
   congr 1;omega
  rw[e2,e0,Nat.pow_succ,←Nat.div_div_eq_div_mul,zak,Nat.mul_comm (10000^j) 10000,Nat.mul_div_mul_left _ _ (by decide:0<10000)]
  omega
theorem zpO {R k:Nat} (hk:0<k) (hR:R<10000^(k+1)):10000*(10000*tdg R k+tdg R (k-1))+dgi R ((k:Int)-2)=10000*R/10000^(k-1):=by
 obtain⟨j,rfl⟩:∃j,k=j+1:=⟨k-1,by omega⟩
 have e0:10000*tdg R (j+1)+tdg R j=R/10000^j:=by
  have h1:tdg R (j+1)=R/10000^j/10000:=by
   rw[zak,Nat.mod_eq_of_lt,zbs]
   rw[Nat.pow_succ] at hR
   exact Nat.div_lt_of_lt_mul hR
  rw[h1,zak];omega
 have e1:j+1-1=j:=by omega
 rw[e1,e0]
 cases j with
 | zero =>
  have:dgi R (((0+1:Nat):Int)-2)=0:=by unfold dgi;rw[if_pos (by omega)]
  rw[this];simp
 | succ j =>
  have e2:dgi R (((j+1+1:Nat):Int)-2)=tdg R j:=by
   unfold dgi
   rw[if_neg (by omega)]
   congr 1;omega
  rw[e2,Nat.pow_succ,←Nat.div_div_eq_div_mul,zak,Nat.mul_comm (10000^j) 10000,Nat.mul_div_mul_left _ _ (by decide:0<10000)]
  omega
theorem est {R b p:Nat} (hp:0<p) (hb:p≤b):10000*R/p/(10000*b/p+1)≤R/b∧R/b≤10000*R/p/(10000*b/p):=by
 have hb0:0<b:=Nat.lt_of_lt_of_le hp hb
 have u1:=Nat.div_mul_le_self (10000*R) p
 have u2:=Nat.lt_div_mul_add hp (a:=10000*R)
 have l1:=Nat.div_mul_le_self (10000*b) p
 have l2:=Nat.lt_div_mul_add hp (a:=10000*b)
 have l3:0<10000*b/p:=Nat.div_pos (by omega) hp
 generalize 10000*R/p=U at *
 generalize 10000*b/p=L at *
 constructor
 ·rw[Nat.le_div_iff_mul_le hb0]
  have h1:=Nat.div_mul_le_self U (L+1)
  generalize U/(L+1)=l at *
  have h2:l*(L+1)*p≤U*p:=Nat.mul_le_mul_right _ h1
  have h3:l*(10000*b)≤l*(L*p+p):=Nat.mul_le_mul_left _ (by omega)
  have h4:l*(L*p+p)=l*(L+1)*p:=by grind
  have h5:l*(10000*b)=10000*(l*b):=by grind
  omega
 ·rw[Nat.le_div_iff_mul_le l3]
  have h1:=Nat.div_mul_le_self R b
  generalize R/b=q at *
  have h2:q*(L*p)≤q*(10000*b):=Nat.mul_le_mul_left _ l1
  have h5:q*(10000*b)=10000*(q*b):=by grind
  have h6:q*(L*p)=q*L*p:=by grind
  have h7:q*L*p<(U+1)*p:=by rw[Nat.add_mul];omega
  have:=Nat.lt_of_mul_lt_mul_right h7
  omega
theorem znf {R b:Nat} (hb:b≠0) (hR:R<10000*b) (lb:tlen b<10000000) :
  ∃lo hi:Nat,pf E0 148 [T R,T b]=some (.tu [(PV.i .i64 ((lo:Nat):Int)),(PV.i .i64 ((hi:Nat):Int))])∧lo≤R/b∧R/b≤hi∧hi≤9999∧lo≤hi:=by
 have hk:=zaR hb
 have hb1:=zaj b
 have hR1:R<10000^(tlen b+1):=by rw[Nat.pow_succ];omega
 have lR:tlen R≤tlen b+1:=zae hR1
 by_cases hlt:tlen R<tlen b
 ·refine⟨0,0,?_,Nat.zero_le _,?_,by omega,by omega⟩
  ·refine zaa (xf:=zwk) rfl (by simp[zwk]) ?_
   simp only[zwk]
   have q1:((tlen R:Int)<(tlen b:Int))=True:=by simp;omega
   simp(disch:=omega)only[go_sem,seval,wqq,q1,Int.natCast_zero]
  ·have:R<b:=by
    rcases Nat.lt_or_ge R b with q|q
    ·exact q
    ·have:=zaw q;omega
   exact Nat.le_of_eq (Nat.div_eq_of_lt this)
 ·have hpb:10000^(tlen b-1)≤b:=by
   rcases Nat.lt_or_ge b (10000^(tlen b-1)) with q|q
   ·have:=zae q;omega
   ·exact q
  obtain⟨m1,m2⟩:=est (R:=R) (zdz (tlen b-1)) hpb
  rw[←zly hk hb1,←zpO hk hR1] at m1 m2
  have hq:R/b<10000:=Nat.div_lt_of_lt_mul (by omega)
  have hL:0<10000*tdg b (tlen b-1)+dgi b ((tlen b:Int)-2):=by
   rw[zly hk hb1]
   exact Nat.div_pos (by omega) (zdz _)
  have dR:∀z,Fits64 z→pf E0 159 [T R,.i .i64 z]=some (PV.i .i64 ((dgi R z:Nat):Int)):=fun z hz=>zgP hz (by omega)
  have db:∀z,Fits64 z→pf E0 159 [T b,.i .i64 z]=some (PV.i .i64 ((dgi b z:Nat):Int)):=fun z hz=>zgP hz (by omega)
  have e1:dgi R (tlen b:Int)=tdg R (tlen b):=by unfold dgi;rw[if_neg (by omega),Int.toNat_natCast]
  have e2:dgi R ((tlen b:Int)-1)=tdg R (tlen b-1):=by unfold dgi;rw[if_neg (by omega)];congr 1;omega
  have e3:dgi b ((tlen b:Int)-1)=tdg b (tlen b-1):=by unfold dgi;rw[if_neg (by omega)];congr 1;omega
  have r1:=dR (tlen b:Int) (by unfold Fits64;omega)
  have r2:=dR ((tlen b:Int)-1) (by unfold Fits64;omega)
  have r3:=dR ((tlen b:Int)-2) (by unfold Fits64;omega)
  have r4:=db ((tlen b:Int)-1) (by unfold Fits64;omega)
  have r5:=db ((tlen b:Int)-2) (by unfold Fits64;omega)
  rw[e1] at r1
  rw[e2] at r2
  rw[e3] at r4
  have t1:=zdh R (tlen b)
  have t2:=zdh R (tlen b-1)
  have t3:=zlk R ((tlen b:Int)-2)
  have t4:=zdh b (tlen b-1)
  have t5:=zlk b ((tlen b:Int)-2)
  generalize tdg R (tlen b)=x1 at *
  generalize tdg R (tlen b-1)=x2 at *
  generalize dgi R ((tlen b:Int)-2)=x3 at *
  generalize tdg b (tlen b-1)=y1 at *
  generalize dgi b ((tlen b:Int)-2)=y2 at *
  have hU:10000*(10000*(x1:Int)+(x2:Int))+(x3:Int)=((10000*(10000*x1+x2)+x3:Nat):Int):=by omega
  have hLc:10000*(y1:Int)+(y2:Int)=((10000*y1+y2:Nat):Int):=by omega
  have uB:10000*(10000*x1+x2)+x3<1000000000000:=by omega
  have lB:10000*y1+y2<100000000:=by omega
  generalize 10000*(10000*x1+x2)+x3=U at *
  generalize 10000*y1+y2=L at *
  have f1:(U:Int).tdiv ((L:Int)+1)=((U/(L+1):Nat):Int):=zbr U (L+1)
  have f2:(U:Int).tdiv (L:Int)=((U/L:Nat):Int):=zbr U L
  have b1:U/(L+1)≤U:=Nat.div_le_self _ _
  have b2:U/L≤U:=Nat.div_le_self _ _
  generalize U/(L+1)=lo at *
  generalize U/L=hi at *
  refine⟨min 9999 lo,min 9999 hi,?_,by omega,by omega,by omega,by omega⟩
  have g1:(if (lo:Int)<9999 then (lo:Int) else 9999)=((min 9999 lo:Nat):Int):=by split<;>omega
  have g2:(if (hi:Int)<9999 then (hi:Int) else 9999)=((min 9999 hi:Nat):Int):=by split<;>omega
  have z1:((L:Int)=0)=False:=by simp;omega
  have z2:((L:Int)+1=0)=False:=by simp;omega
  refine zaa (xf:=zwk) rfl (by simp[zwk]) ?_
  simp only[zwk]
  have q1:((tlen R:Int)<(tlen b:Int))=False:=by simp;omega
  have q2:((tlen b:Int)=0)=False:=by simp;omega
  simp(disch:=omega)only[go_sem,seval,wqq,q1,q2,r1,r2,r3,r4,r5,hU,hLc,f1,f2,g1,g2,z1,z2]
end Go.Eng
namespace Go.Eng
theorem zh6 (a w i:Nat) (hw0:0<w):(a/10000^(i+1)%w*10000+tdg a i)%w=a/10000^i%w∧(a/10000^(i+1)%w*10000+tdg a i)/w=tdg (a/w) i:=by
 have e:a/10000^i=a/10000^(i+1)*10000+tdg a i:=by
  rw[zbs,zak];omega
 have e2:tdg (a/w) i=a/10000^i/w%10000:=by
  rw[zak,Nat.div_div_eq_div_mul,Nat.div_div_eq_div_mul,Nat.mul_comm]
 rw[e2,e]
 have hd:=zdh a i
 generalize tdg a i=d at *
 generalize a/10000^(i+1)=z at *
 have h1:=Nat.mod_add_div z w
 generalize hr:z%w=r at *
 have hrw:r<w:=by rw[←hr];exact Nat.mod_lt _ hw0
 generalize z/w=q at *
 subst h1
 have e3:(r+w*q)*10000+d=r*10000+d+w*(q*10000):=by grind
 rw[e3,Nat.add_mul_mod_self_left,Nat.add_mul_div_left _ _ hw0]
 have:(r*10000+d)/w<10000:=by
  rw[Nat.div_lt_iff_lt_mul hw0]
  have:r*10000+10000≤w*10000:=by rw[←Nat.succ_mul];exact Nat.mul_le_mul_right _ hrw
  omega
 exact⟨rfl,by rw[Nat.add_mul_mod_self_right,Nat.mod_eq_of_lt this]⟩
theorem zod {x y:Nat}:(cmpI (x:Int) (y:Int)≤0)=(x≤y):=by
 unfold cmpI
 apply propext
 constructor
 ·intro h
  split at h
  ·omega
  ·split at h<;>omega
 ·intro h
  split
  ·omega
  ·split<;>omega
theorem zjX {F:PFin} {ks:List KI} {R b:Nat} (hb:b≠0) (lb:tlen b<10000000) (lR:tlen R<100000000) {lo hi:Nat} {fr:PFr} {M:PM} {A0 A6 A10:PV} (h0:fr 0=A0) (h1:fr 1=T b) (h6:fr 6=A6) (h9:fr 9=T R) (h10:fr 10=A10) (h12:fr 12=(PV.i .i64 ((lo:Nat):Int))) (h13:fr 13=(PV.i .i64 ((hi:Nat):Int)))
  (hlo:lo≤R/b) (hhi:R/b≤hi) (hh:hi≤9999)
  (cont:∀fr',fr' 0=A0→fr' 1=T b→fr' 6=A6→fr' 9=T R→fr' 10=A10→fr' 12=(PV.i .i64 ((R/b:Nat):Int))→UK E0 F (.exit 2) ks fr' M):WK E0 F (.loop zxp) ks fr M:=by
 refine zao zxp.eq_1 (fun(p:Nat×Nat) fr M'=>p.1≤R/b∧R/b≤p.2∧p.2≤9999∧fr 0=A0∧fr 1=T b∧fr 6=A6∧fr 9=T R∧fr 10=A10∧fr 12=(PV.i .i64 ((p.1:Nat):Int))∧fr 13=(PV.i .i64 ((p.2:Nat):Int))∧M'=M) (fun p=>p.2-p.1) ?_ (lo,hi) ⟨hlo,hhi,hh,h0,h1,h6,h9,h10,h12,h13,rfl⟩
 rintro⟨lo,hi⟩ fr M' ⟨hlo,hhi,hh,h0,h1,h6,h9,h10,h12,h13,rfl⟩ ih
 simp only at hlo hhi hh h12 h13
 by_cases hlt:lo<hi
 ·have q1:((lo:Int)<(hi:Int))=True:=by simp;omega
  have e1:(lo:Int)+(hi:Int)+1=((lo+hi+1:Nat):Int):=by omega
  have e2:((lo+hi+1:Nat):Int).tdiv 2=(((lo+hi+1)/2:Nat):Int):=zbr _ 2
  have m1:lo<(lo+hi+1)/2:=by omega
  have m2:(lo+hi+1)/2≤hi:=by omega
  generalize (lo+hi+1)/2=mid at *
  have hs:=zgW (k:=mid) (zaj b) (by omega) (by omega)
  have lbm:tlen (b*mid)≤tlen b+1:=zae (by rw[Nat.pow_succ];exact Nat.mul_lt_mul'' (zaj b) (by omega))
  have hcm:=zck (b*mid) R (by omega) (by omega)
  have hcl:(cmpI ((b*mid:Nat):Int) (R:Int)≤0)=(mid≤R/b):=by
   rw[zod,Nat.le_div_iff_mul_le (Nat.pos_of_ne_zero hb),Nat.mul_comm]
  by_cases hm:mid≤R/b
  ·have q2:(cmpI ((b*mid:Nat):Int) (R:Int)≤0)=True:=by rw[hcl];simp[hm]
   simp(disch:=omega)only[go_sem,seval,wqq,h0,h1,h6,h9,h10,h12,h13,q1,e1,e2,hs,hcm,q2]
   exact ih (mid,hi) _ _ (by simp only;omega) ⟨hm,hhi,hh,by simp only[go_sem,seval,h0],by simp only[go_sem,seval,h1],by simp only[go_sem,seval,h6],by simp only[go_sem,seval,h9],by simp only[go_sem,seval,h10],by simp only[go_sem,seval],by simp only[go_sem,seval,h13],rfl⟩
  ·have q2:(cmpI ((b*mid:Nat):Int) (R:Int)≤0)=False:=by rw[hcl];simp[hm]
   simp(disch:=omega)only[go_sem,seval,wqq,h0,h1,h6,h9,h10,h12,h13,q1,e1,e2,hs,hcm,q2]
   exact ih (lo,mid-1) _ _ (by simp only;omega) ⟨hlo,by simp only;omega,by simp only;omega,by simp only[go_sem,seval,h0],by simp only[go_sem,seval,h1],by simp only[go_sem,seval,h6],by simp only[go_sem,seval,h9],by simp only[go_sem,seval,h10],by simp only[go_sem,seval,h12],by simp only[go_sem,seval];congr 1;omega,rfl⟩
 ·have q1:((lo:Int)<(hi:Int))=False:=by simp;omega
  have:lo=R/b:=by omega
  simp(disch:=omega)only[go_sem,seval,wqq,h12,h13,q1]
  exact cont _ (by simp only[go_sem,seval,h0]) (by simp only[go_sem,seval,h1]) (by simp only[go_sem,seval,h6]) (by simp only[go_sem,seval,h9]) (by simp only[go_sem,seval,h10]) (by simp only[go_sem,seval,h12,this])
theorem zhk {M:PM} {r d:Nat} (hd:d<10000) (hr:tlen r<1000000000) :
  ∃v' M',appP (M++[some (⟨[(PV.i .i64 ((d:Nat):Int))],true,0⟩:PB)]) 1 8 (.sl M.length 0 1 1 1) (T r)=some (v',M')∧Grows M' v' (tab (tlen r+1) fun k=>(PV.i .i64 ((tdg (r*10000+d) k:Nat):Int)))∧(∀j b,PM.blk M j=some b→PM.blk M' j=some b∧NotIn v' j):=by
 have hsrc:srcP (M++[some (⟨[(PV.i .i64 ((d:Nat):Int))],true,0⟩:PB)]) 1 (T r)=some (tlen r,tab (tlen r) fun k=>(PV.i .i64 ((tdg r k:Nat):Int))):=by
  show (if ez 1 _=true then some (_,flat _) else none)=_
  rw[zie,if_pos rfl,zgw,zaY]
 have hcons:(PV.i .i64 ((d:Nat):Int))::(tab (tlen r) fun k=>(PV.i .i64 ((tdg r k:Nat):Int)))=tab (tlen r+1) fun k=>(PV.i .i64 ((tdg (r*10000+d) k:Nat):Int)):=by
  apply List.ext_getElem?
  intro k
  cases k with
  | zero =>
   rw[zaM (by omega),zak]
   simp;omega
  | succ k =>
   rw[List.getElem?_cons_succ,zaW,zaW]
   have:tdg (r*10000+d) (k+1)=tdg r k:=by
    rw[zk5];congr 1;omega
   by_cases h:k<tlen r
   ·rw[if_pos h,if_pos (by omega),this]
   ·rw[if_neg h,if_neg (by omega)]
 by_cases h0:tlen r=0
 ·refine⟨.sl M.length 0 1 1 1,M++[some (⟨[(PV.i .i64 ((d:Nat):Int))],true,0⟩:PB)],?_,.inr ⟨M.length,0,?_,?_⟩,fun j b hj=>⟨za4 hj _,?_⟩⟩
  ·simp only[appP,hsrc];simp[h0]
  ·rw[h0];rfl
  ·rw[zaU,←hcons,h0];rfl
  ·have:=zb5 hj;simp[NotIn];omega
 ·refine⟨.sl (M.length+1) 0 (1+tlen r) (1+tlen r) 1,(M++[some (⟨[(PV.i .i64 ((d:Nat):Int))],true,0⟩:PB)]).set M.length none++[some (⟨tab (tlen r+1) fun k=>(PV.i .i64 ((tdg (r*10000+d) k:Nat):Int)),true,0⟩:PB)],?_,.inr ⟨M.length+1,0,?_,?_⟩,fun j b hj=>⟨?_,?_⟩⟩
  ·simp only[appP,hsrc,zaU]
   rw[←hcons]
   simp[h0]
   omega
  ·rw[zaY,Nat.add_comm 1 (tlen r)]
  ·have:=zaU ((M++[some (⟨[(PV.i .i64 ((d:Nat):Int))],true,0⟩:PB)]).set M.length none) (some (⟨tab (tlen r+1) fun k=>(PV.i .i64 ((tdg (r*10000+d) k:Nat):Int)),true,0⟩:PB))
   simpa using this
  ·have hlt:=zb5 hj
   rw[zbW]
   exact za4 (za4 hj _) _
  ·have:=zb5 hj;simp[NotIn];omega
theorem zkX (n v f:Nat) (h:f≤n):slP 1 (Tw n v) (some (.i .i64 (f:Int))) none none=some (Tw (n-f) (v/10000^f)):=by
 have hz:ez 1 (tab n fun k=>(PV.i .i64 ((tdg v k:Nat):Int)))=true:=zie n .i64 _
 have hd:∀k,tdg v (f+k)=tdg (v/10000^f) k:=fun k=>by rw[zak,zak,Nat.div_div_eq_div_mul,Nat.pow_add]
 simp only[slP,Tw,Option.isSome_none,Bool.false_eq_true,if_false,optP,zaK,hz,zaY]
 rw[if_pos ⟨h,Nat.le_refl _,trivial⟩,ze4 _ _ _ (Nat.le_refl _),zk3]
 simp only[hd]
theorem zkf {a b:Nat} (hb:b≠0):a/10000^(tlen a+1-tlen b)<b:=by
 have hk:=zaR hb
 have hpb:10000^(tlen b-1)≤b:=by
  rcases Nat.lt_or_ge b (10000^(tlen b-1)) with q|q
  ·have:=zae q;omega
  ·exact q
 have h1:a<10000^(tlen a+1-tlen b)*10000^(tlen b-1):=by
  rw[←Nat.pow_add]
  exact Nat.lt_of_lt_of_le (zaj a) (Nat.pow_le_pow_right (by decide) (by omega))
 exact Nat.lt_of_lt_of_le (Nat.div_lt_of_lt_mul h1) hpb
theorem zhA {a b:Nat} (ha:a≠0) (hb:b≠0) (la:tlen a<1000000) (lb:tlen b<1000000):pf E0 136 [T a,T b]=some (.tu [Tw (tlen a) (a/b),T (a%b)]):=by
 refine zaa (xf:=zv8) rfl (by simp[zv8]) ?_
 simp only[zv8]
 have hn:=zaR ha
 have hk:=zaR hb
 have hfl:=zkf (a:=a) hb
 have hf:(if ((if (tlen a:Int)-(tlen b:Int)+1<(tlen a:Int) then (tlen a:Int)-(tlen b:Int)+1 else (tlen a:Int)))>0 then (if (tlen a:Int)-(tlen b:Int)+1<(tlen a:Int) then (tlen a:Int)-(tlen b:Int)+1 else (tlen a:Int)) else 0)=((tlen a+1-tlen b:Nat):Int):=by
  split<;>split<;>omega
 have hfn:tlen a+1-tlen b≤tlen a:=by omega
 have hbp:0<b:=Nat.pos_of_ne_zero hb
 generalize tlen a+1-tlen b=f at *
 have eT:T a=Tw (tlen a) a:=rfl
 have hs:=zkX (tlen a) a f hfn
 rw[←eT] at hs
 have hlt2:a/10000^f<10000^(tlen a-f):=by
  apply Nat.div_lt_of_lt_mul
  rw[←Nat.pow_add,show f+(tlen a-f)=tlen a by omega];exact zaj a
 have hno:=zar false (tlen a-f) (a/10000^f) hlt2 (by omega)
 have e1:∀v:Nat,sgn false v=(v:Int):=fun v=>rfl
 rw[e1] at hno
 have cN:∀v:Nat,(nP (v:Int)).cells=[.b false,T v]:=fun v=>by
  show [PV.b (decide ((v:Int)<0)),T (v:Int).natAbs]=_
  rw[Int.natAbs_natCast]
  have:decide ((v:Int)<0)=false:=by simp
  rw[this]
 have lq:tlen (a/b)≤tlen a:=zaw (Nat.div_le_self _ _)
 simp(disch:=omega)only[go_sem,seval,wqq,zco,hf,hs,hno,cN]
 refine zao zxo.eq_1 (fun(i:Nat) fr M=>i≤f∧fr 0=T a∧fr 1=T b∧fr 6=.sl 0 0 (tlen a) (tlen a) 1∧fr 9=T (a/10000^i%b)∧fr 10=.i .i64 ((i:Int)-1) ∧
  ∃e,PM.blk M 0=some ⟨tab (tlen a) fun j=>(PV.i .i64 ((if i≤j then tdg (a/b) j else 0:Nat):Int)),true,e⟩) id ?_ f ⟨Nat.le_refl _,by simp only[go_sem,seval],by simp only[go_sem,seval],by simp only[go_sem,seval],by simp only[go_sem,seval];rw[Nat.mod_eq_of_lt hfl],by simp only[go_sem,seval],0,?_⟩
 ·rintro i fr M ⟨hi,h0,h1,h6,h9,h10,e,hb0⟩ ih
  by_cases hi0:i=0
  ·subst hi0
   rw[Nat.pow_zero,Nat.div_one] at h9
   simp only[Nat.zero_le,if_true] at hb0
   have hz:(tlen a=0)=False:=by simp;omega
   simp(disch:=omega)only[go_sem,seval,wqq,h0,h1,h6,h9,h10,Int.natCast_zero,Int.zero_sub,Int.reduceNeg,Int.reduceLE,ge_iff_le,hb0,hz]
  ·obtain⟨m,rfl⟩:∃m,i=m+1:=⟨i-1,by omega⟩
   have q1:(((m+1:Nat):Int)-1≥0)=True:=by simp
   have q2:(((m+1:Nat):Int)-1)=(m:Int):=by omega
   obtain⟨s1,s2⟩:=zh6 a b m hbp
   have hr:a/10000^(m+1)%b<b:=Nat.mod_lt _ hbp
   have lr:tlen (a/10000^(m+1)%b)≤tlen b:=zaw (Nat.le_of_lt hr)
   generalize a/10000^(m+1)%b=r at *
   have hd:=zdh a m
   obtain⟨v',M1,he,hg,hk1⟩:=zhk (M:=M) (r:=r) (d:=tdg a m) hd (by omega)
   obtain⟨ns,f1,f2⟩:=zgx hg
   obtain⟨k1,k2⟩:=hk1 0 _ hb0
   have hb2:=f2 0 _ k1 k2
   have hR:r*10000+tdg a m<10000*b:=by omega
   have hRl:r*10000+tdg a m<10000^(tlen r+1):=by
    have:=zaj r
    rw[Nat.pow_succ];omega
   have lR:=zae hRl
   have hno:=zar false (tlen r+1) (r*10000+tdg a m) hRl (by omega)
   rw[e1] at hno
   obtain⟨lo,hi',hdg,d1,d2,d3,d4⟩:=znf hb hR (by omega)
   generalize r*10000+tdg a m=R at *
   simp(disch:=omega)only[go_sem,seval,wqq,h0,h1,h6,h9,h10,q1,q2,eT,zbP,he,f1,hno,cN,zaU,zbW,hdg]
   refine zjX (R:=R) hb (by omega) (by omega) (A0:=T a) (A6:=.sl 0 0 (tlen a) (tlen a) 1) (A10:=.i .i64 (m:Int)) (by simp only[go_sem,seval,h0]) (by simp only[go_sem,seval,h1]) (by simp only[go_sem,seval,h6]) (by simp only[go_sem,seval]) (by simp only[go_sem,seval,h10,q2]) (by simp only[go_sem,seval]) (by simp only[go_sem,seval]) d1 d2 d3 fun fr' g0 g1 g6 g9 g10 g12=>?_
   have hq9:R/b<10000:=by omega
   have hsm:=zgW (k:=R/b) (zaj b) (by omega) hq9
   have hml:b*(R/b)≤R:=Nat.mul_div_le R b
   have lml:=zaw hml
   have hmi:=zeS (a:=R) (b:=b*(R/b)) (s:=R%b) (n:=tlen R) (m:=tlen (b*(R/b))) (Nat.mod_add_div R b).symm (zaj R) (zaj _) (by omega) (by omega)
   have hno2:=zar false (tlen R) (R%b) (Nat.lt_of_le_of_lt (Nat.mod_le R b) (zaj R)) (by omega)
   rw[e1] at hno2
   have eR:T R=Tw (tlen R) R:=rfl
   have hb3:∀c c2:Option PB,PM.blk (roM M1 ns++[c]++[c2]) 0=_:=fun c c2=>za4 (za4 hb2 c) c2
   have hb4:∀(c c2 z:Option PB),PM.blk (List.set (roM M1 ns++[c]++[c2]) 0 z) (List.length (roM M1 ns++[c]))=c2:=fun c c2 z=>by
    rw[zbN (by simp),zaU]
   have hma:m<tlen a:=by omega
   simp(disch:=omega)only[go_sem,seval,wqq,g0,g1,g6,g9,g10,g12,hsm,hmi,hno2,cN,zaU,zbW,hb3,hb4,hma,zas]
   refine ih m _ _ (by simp only[id];omega) ⟨by omega,by simp only[go_sem,seval,g0],by simp only[go_sem,seval,g1],by simp only[go_sem,seval,g6],by simp only[go_sem,seval];rw[s1],by simp only[go_sem,seval],e+1,?_⟩
   rw[zbM (by simp)]
   congr 2
   refine zaf fun k hk=>?_
   by_cases hkm:k=m
   ·subst hkm
    rw[if_pos rfl,if_pos (Nat.le_refl _),s2]
   ·rw[if_neg hkm]
    congr 2
    by_cases h:m≤k
    ·rw[if_pos h,if_pos (by omega)]
    ·rw[if_neg h,if_neg (by omega)]
 ·simp only[go_sem,seval]
  rw[zcd]
  congr 2
  refine zaf fun k hk=>?_
  by_cases h:f≤k
  ·rw[if_pos h,zak,Nat.div_div_eq_div_mul,Nat.mul_comm,←Nat.div_div_eq_div_mul,Nat.div_eq_of_lt]
   ·rfl
   ·exact Nat.lt_of_le_of_lt (Nat.div_le_div_left (Nat.pow_le_pow_right (by decide) h) (zdz f)) hfl
  ·rw[if_neg h];rfl
end Go.Eng
namespace Go.Eng
theorem zhz {b:Nat} (hb:b≠0) (lb:tlen b<1000000):pf E0 136 [T 0,T b]=some (.tu [Tw (tlen 0) (0/b),T (0%b)]):=by
 refine zaa (xf:=zv8) rfl (by simp[zv8]) ?_
 simp only[zv8]
 have hk:=zaR hb
 have hno:=zar false 0 0 (by decide) (by omega)
 have z0:(Tw 0 0:PV)=.lst []:=rfl
 have zT:(T 0:PV)=.lst []:=by show Tw (tlen 0) 0=_;rw[zaN];rfl
 have s0:sgn false 0=0:=rfl
 have zN:(nP 0:PV).cells=[.b false,.lst []]:=by show [PV.b (decide ((0:Int)<0)),T 0]=_;rw[zT];rfl
 rw[z0,s0] at hno
 rw[Nat.zero_div,Nat.zero_mod,zaN,z0,zT]
 have hf:(if ((if-(tlen b:Int)+1<0 then-(tlen b:Int)+1 else (0:Int)))>0 then (if-(tlen b:Int)+1<0 then-(tlen b:Int)+1 else (0:Int)) else 0)=0:=by
  split<;>split<;>omega
 have hs:slP 1 (.lst []) (some (.i .i64 0)) none none=some (.lst []):=rfl
 simp(disch:=omega)only[go_sem,seval,wqq,List.length_nil,Int.natCast_zero,Int.add_zero,zcA,Int.reduceLE,Int.reduceToNat,zdK,hf,hs,hno,zN,Int.zero_sub,Int.reduceNeg]
 refine zcy ?_
 simp only[zxo]
 simp(disch:=omega)only[go_sem,seval,wqq,Int.zero_sub,Int.reduceNeg,Int.reduceLE,ge_iff_le]
theorem ziW {a b:Nat} (hb:b≠0) (la:tlen a<1000000) (lb:tlen b<1000000):pf E0 136 [T a,T b]=some (.tu [Tw (tlen a) (a/b),T (a%b)]):=by
 by_cases ha:a=0
 ·subst ha;exact zhz hb lb
 ·exact zhA ha hb la lb
theorem zen {x y:Int} (hy:y≠0) (lx:tlen x.natAbs<100000) (ly:tlen y.natAbs<100000):pf E0 120 [nP x,nP y]=some (.tu [nP (x/y),nP (x%y)]):=by
 refine zaa (xf:=zxR) rfl (by simp[zxR]) ?_
 simp only[zxR]
 have hy0:y.natAbs≠0:=by omega
 have hd:=ziW (a:=x.natAbs) hy0 (by omega) (by omega)
 have lql:x.natAbs/y.natAbs<10000^tlen x.natAbs:=Nat.lt_of_le_of_lt (Nat.div_le_self _ _) (zaj _)
 have n1:pf E0 132 [.b (!(decide (x<0)==decide (y<0))),Tw (tlen x.natAbs) (x.natAbs/y.natAbs)]=_:=zar (decide (x<0) != decide (y<0)) (tlen x.natAbs) (x.natAbs/y.natAbs) lql (by omega)
 have lrl:=Nat.mod_lt x.natAbs (Nat.pos_of_ne_zero hy0)
 have n2:=zar false (tlen (x.natAbs%y.natAbs)) (x.natAbs%y.natAbs) (zaj _) (by have:=zaw (Nat.le_of_lt lrl);omega)
 have dm:=Nat.div_add_mod x.natAbs y.natAbs
 have lq:=zae lql
 generalize x.natAbs/y.natAbs=q at *
 have lr:=zaw (Nat.le_of_lt lrl)
 generalize x.natAbs%y.natAbs=r at *
 have lst1:PV.lst (group 1 1 [.i .i64 1])=Tw 1 1:=by
  rw[zcH _ _ (by rfl),Tw]
  have:tab 1 (fun k=>(PV.i .i64 ((tdg 1 k:Nat):Int)))=[(PV.i .i64 ((tdg 1 0:Nat):Int))]:=rfl
  rw[this,zak];rfl
 have one_lt:1<10000^1:=by decide
 by_cases hx:x<0
 ·by_cases hr:r=0
  ·subst hr
   have hf:=zcg (q:=q) (r:=0) hy (by rw[if_pos hx];omega) (by omega)
   have s1:sgn (decide (x<0) != decide (y<0)) q=x/y:=hf.1
   have s2:sgn false 0=x%y:=hf.2
   rw[s1] at n1
   rw[s2] at n2
   simp only[hx,decide_true] at n1
   have hl:((tlen (x%y).natAbs:Int)>0)=False:=by rw[←s2];show ((tlen 0:Int)>0)=False;rw[zaN];simp
   simp(disch:=omega)only[go_sem,seval,wqq,hd,hx,n1,n2,hl]
   refine zbX ⟨.inr ⟨9,4,rfl,by simp only[go_sem,seval]⟩,trivial⟩ ?_
   simp(disch:=omega)only[go_sem,seval,wqq]
  ·have hf:=zcg (q:=q+1) (r:=y.natAbs-r) hy (by rw[if_pos hx,Nat.mul_add];omega) (by omega)
   have hl:((tlen r:Int)>0)=True:=by have:=zaR hr;simp;omega
   have n3:pf E0 132 [.b (!(decide (x<0)==decide (y<0))),Tw 1 1]=_:=zar (decide (x<0) != decide (y<0)) 1 1 one_lt (by omega)
   have hsum:sgn (decide (x<0) != decide (y<0)) q+sgn (decide (x<0) != decide (y<0)) 1=x/y:=by
    rw[←hf.1];unfold sgn;split<;>omega
   have hadd:=zlN (sgn (decide (x<0) != decide (y<0)) q) (sgn (decide (x<0) != decide (y<0)) 1) (by
    have:(sgn (decide (x<0) != decide (y<0)) q).natAbs=q:=by unfold sgn;split<;>omega
    rw[this];omega) (by
    have:(sgn (decide (x<0) != decide (y<0)) 1).natAbs=1:=by unfold sgn;split<;>omega
    rw[this];have:=zae one_lt;omega)
   rw[hsum] at hadd
   have hmi:=zeS (a:=y.natAbs) (b:=r) (s:=y.natAbs-r) (by omega) (zaj _) (zaj _) (by omega) (by omega)
   have n4:=zar false (tlen y.natAbs) (y.natAbs-r) (Nat.lt_of_le_of_lt (Nat.sub_le _ _) (zaj _)) (by omega)
   have s2:sgn false (y.natAbs-r)=x%y:=hf.2
   rw[s2] at n4
   have s3:sgn false r=(r:Int):=rfl
   rw[s3] at n2
   have cN:(nP (r:Int)).cells=[.b false,T r]:=by
    show [PV.b (decide ((r:Int)<0)),T (r:Int).natAbs]=_
    rw[Int.natAbs_natCast]
    have:decide ((r:Int)<0)=false:=by simp
    rw[this]
   generalize sgn (decide (x<0) != decide (y<0)) q=Z at *
   generalize sgn (decide (x<0) != decide (y<0)) 1=O at *
   simp only[hx,decide_true] at n1 n3
   simp(disch:=omega)only[go_sem,seval,wqq,hd,hx,n1,n2,cN,hl,lst1,n3,hadd,hmi,n4]
   refine zbX ⟨.inr ⟨9,4,rfl,by simp only[go_sem,seval]⟩,trivial⟩ ?_
   simp(disch:=omega)only[go_sem,seval,wqq]
 ·have hf:=zcg (q:=q) (r:=r) hy (by rw[if_neg hx];omega) (by omega)
  have s1:sgn (decide (x<0) != decide (y<0)) q=x/y:=hf.1
  have s2:sgn false r=x%y:=hf.2
  rw[s1] at n1
  rw[s2] at n2
  simp only[hx,decide_false] at n1
  simp(disch:=omega)only[go_sem,seval,wqq,hd,hx,n1,n2]
  refine zbX ⟨.inr ⟨9,4,rfl,by simp only[go_sem,seval]⟩,trivial⟩ ?_
  simp(disch:=omega)only[go_sem,seval,wqq]
end Go.Eng
namespace Go.Eng
theorem zvm (M:PM) (c c':Option PB):PM.blk (M++[c]++[c']) M.length=c:=by
 rw[List.append_assoc]
 unfold PM.blk
 rw[List.getElem?_append_right (Nat.le_refl _)]
 simp
theorem zvn (M:PM) (c c' d:Option PB):List.set (M++[c]++[c']) M.length d=M++[d]++[c']:=by
 rw[List.append_assoc,List.append_assoc];simp[List.set_append]
theorem zuy (M:PM) (c c' d:Option PB):PM.blk (M++[d]++[c']) (List.length (M++[c]))=c':=by
 have h:=zaU (M++[d]) c'
 rw[show List.length (M++[c])=List.length (M++[d]) by simp];exact h
theorem zvo (M:PM) (c c' d z:Option PB):List.set (M++[d]++[c']) (List.length (M++[c])) z=M++[d]++[z]:=by
 rw[show List.length (M++[c])=List.length (M++[d]) by simp];exact zbW _ _ _
theorem zeg (a:Nat):nP (a:Int)=.ag [.b false,T a]:=by
 show PV.ag [PV.b (decide ((a:Int)<0)),T (a:Int).natAbs]=_
 rw[Int.natAbs_natCast]
 have:decide ((a:Int)<0)=false:=by simp
 rw[this]
theorem zlO (x y:Int) (lx:tlen x.natAbs<100000) (ly:tlen y.natAbs<100000):pf E0 125 [nP x,nP y]=some (nP (Nat.gcd x.natAbs y.natAbs:Nat)):=by
 refine zaa (xf:=zxU) rfl (by simp[zxU]) ?_
 simp only[zxU]
 have n1:=zar false (tlen x.natAbs) x.natAbs (zaj _) (by omega)
 have n2:=zar false (tlen y.natAbs) y.natAbs (zaj _) (by omega)
 have s0:∀v:Nat,sgn false v=(v:Int):=fun _=>rfl
 rw[s0,zeg] at n1 n2
 rw[zeg]
 simp(disch:=omega)only[go_sem,seval,wqq,n1,n2]
 refine zao zyd.eq_1 (fun(p:Nat×Nat) fr M=>Nat.gcd p.1 p.2=Nat.gcd x.natAbs y.natAbs∧tlen p.1<100000∧tlen p.2<100000∧fr 4=.p 2 0∧fr 5=.p 3 0∧fr 6=.p 4 0 ∧
  PM.blk M 2=some ⟨[.b false,.nl],true,0⟩∧∃e1 e2,PM.blk M 3=some ⟨[.b false,T p.1],true,e1⟩∧PM.blk M 4=some ⟨[.b false,T p.2],true,e2⟩) (fun p=>p.2) ?_ (x.natAbs,y.natAbs) ⟨rfl,lx,ly,by simp only[go_sem,seval],by simp only[go_sem,seval],by simp only[go_sem,seval],rfl,1,1,rfl,rfl⟩
 rintro⟨a,b⟩ fr M ⟨hg,la,lb,h4,h5,h6,hb2,e1,e2,hb3,hb4⟩ ih
 simp only at hg la lb hb3 hb4
 have l4:=zb5 hb4
 by_cases hb:b=0
 ·subst hb
  rw[Nat.gcd_zero_right] at hg
  subst hg
  have q1:((tlen 0:Int)>0)=False:=by rw[zaN];simp
  simp(disch:=omega)only[go_sem,seval,wqq,h4,h5,h6,hb2,hb3,hb4,q1,zbM]
 ·have q1:((tlen b:Int)>0)=True:=by have:=zaR hb;simp;omega
  have hd:=zen (x:=(a:Int)) (y:=(b:Int)) (by omega) (by rw[Int.natAbs_natCast];exact la) (by rw[Int.natAbs_natCast];exact lb)
  rw[←Int.natCast_ediv,←Int.natCast_emod,zeg,zeg,zeg,zeg] at hd
  have ml:=Nat.mod_lt a (Nat.pos_of_ne_zero hb)
  have lm:=zaw (Nat.le_of_lt ml)
  have o3:∀c c':Option PB,PM.blk (M++[c]++[c']) 3=_:=fun c c'=>za4 (za4 hb3 c) c'
  have o4:∀c c':Option PB,PM.blk (M++[c]++[c']) 4=_:=fun c c'=>za4 (za4 hb4 c) c'
  have o2:∀c c':Option PB,PM.blk (M++[c]++[c']) 2=_:=fun c c'=>za4 (za4 hb2 c) c'
  have o5:∀c c' z d:Option PB,PM.blk (List.set (M++[d]++[c']) 3 z) (List.length (M++[c]))=c':=fun c c' z d=>by
   rw[zbN (by simp;omega),zuy]
  have o6:∀c c' z:Option PB,PM.blk (List.set (M++[c]++[c']) 3 z) 4=_:=fun c c' z=>by
   exact(zbN (by decide)).trans (o4 c c')
  simp(disch:=omega)only[go_sem,seval,wqq,h4,h5,h6,hb2,hb3,hb4,q1,hd,zvm,zvn,zuy,zvo,o3,o4,o5,o6]
  refine ih (b,a%b) _ _ ml ⟨by rw[←hg,Nat.gcd_comm b,←Nat.gcd_rec,Nat.gcd_comm],lb,by show tlen (a%b)<100000;omega,by simp only[go_sem,seval,h4],by simp only[go_sem,seval,h5],by simp only[go_sem,seval,h6],?_,e1+1,e2+1,?_,?_⟩
  ·exact(zbN (by decide)).trans ((zbN (by decide)).trans (o2 _ _))
  ·exact(zbN (by decide)).trans (zbM (by simp;omega))
  ·exact zbM (by simp;omega)
end Go.Eng
namespace Go.Eng
theorem zmf:∀d:Fin 10,slStrP [48,49,50,51,52,53,54,55,56,57] (some (.i .i64 (d.val:Int))) (some (.i .i64 ((d.val:Int)+1)))=some (.s [UInt8.ofNat (48+d.val)]):=by
 intro d
 have:∀d:Fin 10,(([48,49,50,51,52,53,54,55,56,57]:List UInt8).take (d.val+1)).drop d.val=[UInt8.ofNat (48+d.val)]:=by decide
 simp only[slStrP,optP,zaK]
 rw[show ((d.val:Int)+1)=((d.val+1:Nat):Int) by omega,zaK]
 simp only
 rw[if_pos ⟨by omega,by simp;omega⟩,this d]
theorem ziO {n:Int} (h:Fits64 n):pf E0 127 [.i .i64 n]=some (.s (decI n)):=by
 refine zaa (xf:=zwM) rfl (by simp[zwM]) ?_
 simp only[zwM]
 unfold Fits64 at h
 by_cases hn:n=0
 ·subst hn
  simp(disch:=omega)only[go_sem,seval,wqq]
  rfl
 ·have q0:(n=0)=False:=by simp[hn]
  simp(disch:=omega)only[go_sem,seval,wqq,q0]
  refine zao zx5.eq_1 (fun(z:Int) fr M=>fr 0=.i .i64 n∧fr 3=.s [48,49,50,51,52,53,54,55,56,57]∧fr 5=.i .i64 z ∧ -9223372036854775808≤z∧z≤9223372036854775807∧M=[] ∧
   ∃i,i+dlen z.natAbs=dlen n.natAbs∧z.natAbs=n.natAbs/10^i∧fr 4=.s (dtx i n.natAbs)) (fun z=>z.natAbs) ?_ n ⟨by simp only[go_sem,seval],by simp only[go_sem,seval],by simp only[go_sem,seval],by omega,by omega,rfl,0,by omega,by simp,by simp only[go_sem,seval];rfl⟩
  rintro z fr M ⟨h0,h3,h5,z1,z2,rfl,i,hi,hz,h4⟩ ih
  have dl:dlen n.natAbs≤20:=zan.2 (by omega)
  by_cases hz0:z=0
  ·subst hz0
   have d0:dlen (0:Int).natAbs=0:=by have:dlen 0≤0:=zan.2 (by decide);show dlen 0=0;omega
   have hi':i=dlen n.natAbs:=by omega
   subst hi'
   have hd:dec n.natAbs=dtx (dlen n.natAbs) n.natAbs:=by unfold dec;rw[if_neg (by omega)]
   by_cases hs:n<0
   ·have hadd:binP .add (.s [45]) (.s (dtx (dlen n.natAbs) n.natAbs))=some (.s (decI n)):=by
     rw[zaG _ _ (by simp;omega)];unfold decI;rw[if_pos hs,hd];rfl
    simp(disch:=omega)only[go_sem,seval,wqq,h0,h3,h4,h5,hs,hadd]
   ·have:decI n=dtx (dlen n.natAbs) n.natAbs:=by unfold decI;rw[if_neg hs,hd]
    rw[this]
    simp(disch:=omega)only[go_sem,seval,wqq,h0,h3,h4,h5,hs]
  ·have q1:(z=0)=False:=by simp[hz0]
   have r1:(z.tmod 10).natAbs=z.natAbs%10:=by rw[Int.natAbs_tmod];rfl
   have r2:(z.tdiv 10).natAbs=z.natAbs/10:=by rw[Int.natAbs_tdiv];rfl
   have hc:=zmf ⟨z.natAbs%10,Nat.mod_lt _ (by decide)⟩
   simp only at hc
   have hadd:binP .add (.s [UInt8.ofNat (48+z.natAbs%10)]) (.s (dtx i n.natAbs))=some (.s (dtx (i+1) n.natAbs)):=by
    rw[zaG _ _ (by simp;omega)]
    show _=some (PV.s (UInt8.ofNat (48+n.natAbs/10^i%10)::dtx i n.natAbs))
    rw[←hz];rfl
   have hdl:i+1+dlen (z.natAbs/10)=dlen n.natAbs:=by
    have e1:dlen (z.natAbs/10)+1=dlen z.natAbs:=by
     have k:∀m,dlen (z.natAbs/10)≤m↔dlen z.natAbs≤m+1:=fun m=>by
      rw[zan,zan,Nat.pow_succ,Nat.div_lt_iff_lt_mul (by decide)]
     have k1:=(k (dlen (z.natAbs/10))).1 (Nat.le_refl _)
     have k2:0<dlen z.natAbs:=by
      rcases Nat.eq_zero_or_pos (dlen z.natAbs) with q|q
      ·have:=zbv z.natAbs;rw[q] at this;simp at this;omega
      ·exact q
     have k3:=(k (dlen z.natAbs-1)).2 (by omega)
     omega
    omega
   have hnz:z.natAbs/10=n.natAbs/10^(i+1):=by rw[hz,Nat.pow_succ,Nat.div_div_eq_div_mul]
   generalize hr:z.tmod 10=r at *
   generalize hq:z.tdiv 10=q at *
   by_cases hr0:r<0
   ·have e1:(0:Int)-r=((z.natAbs%10:Nat):Int):=by omega
    simp(disch:=omega)only[go_sem,seval,wqq,h0,h3,h4,h5,q1,hr,hq,hr0,e1,hc,hadd]
    exact ih q _ _ (by omega) ⟨by simp only[go_sem,seval,h0],by simp only[go_sem,seval,h3],by simp only[go_sem,seval],by omega,by omega,rfl,i+1,by rw[r2];exact hdl,by rw[r2,hnz],by simp only[go_sem,seval]⟩
   ·have e1:r=((z.natAbs%10:Nat):Int):=by omega
    rw[←e1] at hc
    simp(disch:=omega)only[go_sem,seval,wqq,h0,h3,h4,h5,q1,hr,hq,hr0,hc,hadd]
    exact ih q _ _ (by omega) ⟨by simp only[go_sem,seval,h0],by simp only[go_sem,seval,h3],by simp only[go_sem,seval],by omega,by omega,rfl,i+1,by rw[r2];exact hdl,by rw[r2,hnz],by simp only[go_sem,seval]⟩
end Go.Eng
namespace Go.Eng
theorem zeC (m:Nat):∀(n v:Nat),dtx (n+m) v=dtx n (v/10^m)++dtx m v
 | 0,v=>by simp[dtx]
 | n+1,v=>by
  rw[show n+1+m=(n+m)+1 by omega]
  show UInt8.ofNat (48+v/10^(n+m)%10)::dtx (n+m) v=UInt8.ofNat (48+v/10^m/10^n%10)::dtx n (v/10^m)++dtx m v
  rw[zeC m n v,Nat.div_div_eq_div_mul,←Nat.pow_add,Nat.add_comm m n];rfl
theorem zfV:∀(n m v:Nat),n≤m→dtx n (v%10^m)=dtx n v
 | 0,_,_,_=>rfl
 | n+1,m,v,h=>by
  show UInt8.ofNat (48+v%10^m/10^n%10)::dtx n (v%10^m)=UInt8.ofNat (48+v/10^n%10)::dtx n v
  rw[zfV n m v (by omega)]
  congr 2
  have e:(10:Nat)^m=10^n*(10*10^(m-n-1)):=by
   rw[←Nat.pow_succ',←Nat.pow_add];congr 1;omega
  rw[e,Nat.mod_mul_right_div_self,Nat.mod_mul_right_mod]
theorem zmm (n m v:Nat) (h:v<10^n) (hm:n≤m):dtx m v=List.replicate (m-n) 48++dtx n v:=by
 obtain⟨k,rfl⟩:∃k,m=k+n:=⟨m-n,by omega⟩
 rw[zeC n k v,Nat.div_eq_of_lt h,Nat.add_sub_cancel]
 congr 1
 induction k with
 | zero=>rfl
 | succ k ih =>
  show UInt8.ofNat (48+0/10^k%10)::dtx k 0=_
  rw[ih (by omega),List.replicate_succ,Nat.zero_div];rfl
theorem zj9 {d:Nat} (h:d<10000):dlen d≤4:=zan.2 (by omega)
theorem zb6 {v:Nat} (h:v≠0):dec v=dtx (dlen v) v:=by unfold dec;rw[if_neg h]
theorem zrF {F:PFin} {ks:List KI} {e L:Nat} {fr:PFr} {M:PM} {A1 A3 A4:PV} (h1:fr 1=A1) (h3:fr 3=A3) (h4:fr 4=A4) (h5:fr 5=.s (dtx L e)) (hL:L≤4) (he:e<10^L)
  (cont:∀fr',fr' 1=A1→fr' 3=A3→fr' 4=A4→fr' 5=.s (dtx 4 e)→UK E0 F (.exit 2) ks fr' M):WK E0 F (.loop zxV) ks fr M:=by
 refine zao zxV.eq_1 (fun(L:Nat) fr M'=>L≤4∧e<10^L∧fr 1=A1∧fr 3=A3∧fr 4=A4∧fr 5=.s (dtx L e)∧M'=M) (fun L=>4-L) ?_ L ⟨hL,he,h1,h3,h4,h5,rfl⟩
 rintro L fr M' ⟨hL,he,h1,h3,h4,h5,rfl⟩ ih
 have hl:((dtx L e).length:Int)=(L:Int):=by rw[zbw]
 by_cases h:L<4
 ·have q1:((L:Int)<4)=True:=by simp;omega
  have hadd:binP .add (.s [48]) (.s (dtx L e))=some (.s (dtx (L+1) e)):=by
   rw[zaG _ _ (by simp;omega)]
   show _=some (PV.s (UInt8.ofNat (48+e/10^L%10)::dtx L e))
   rw[Nat.div_eq_of_lt he];rfl
  simp(disch:=omega)only[go_sem,seval,wqq,h5,hl,q1,hadd]
  exact ih (L+1) _ _ (by omega) ⟨by omega,by rw[Nat.pow_succ];omega,by simp only[go_sem,seval,h1],by simp only[go_sem,seval,h3],by simp only[go_sem,seval,h4],by simp only[go_sem,seval],rfl⟩
 ·have q1:((L:Int)<4)=False:=by simp;omega
  have:L=4:=by omega
  simp(disch:=omega)only[go_sem,seval,wqq,h5,hl,q1]
  exact cont _ (by simp only[go_sem,seval,h1]) (by simp only[go_sem,seval,h3]) (by simp only[go_sem,seval,h4]) (by simp only[go_sem,seval,h5,this])
theorem zmd {x e:Nat} (hx:x≠0) (he:e<10000):dec (x*10000+e)=dec x++dtx 4 e:=by
 have hd:dlen (x*10000+e)=dlen x+4:=by
  have k:∀m,dlen x≤m↔dlen (x*10000+e)≤m+4:=fun m=>by
   rw[zan,zan,Nat.pow_add]
   generalize 10^m=p
   have:(10:Nat)^4=10000:=rfl
   rw[this];omega
  have k1:=(k (dlen x)).1 (Nat.le_refl _)
  have k2:∀m,dlen (x*10000+e)≤m→4≤m:=fun m h=>by
   rw[zan] at h
   rcases Nat.lt_or_ge m 4 with q|q
   ·have:(10:Nat)^m≤10^3:=Nat.pow_le_pow_right (by decide) (by omega)
    have:(10:Nat)^3=1000:=rfl
    omega
   ·exact q
  have k3:=k2 _ (Nat.le_refl _)
  have k4:=(k (dlen (x*10000+e)-4)).2 (by omega)
  omega
 rw[zb6 (by omega),zb6 hx,hd,zeC]
 have e1:(x*10000+e)/10^4=x:=by show (x*10000+e)/10000=x;omega
 have e2:(x*10000+e)%10^4=e:=by show (x*10000+e)%10000=e;omega
 rw[e1,←zfV 4 4 (x*10000+e) (Nat.le_refl _),e2]
theorem zhZ {v t:Nat} (h:v<10000^t) (ht:0<t):(dec v).length≤4*t:=by
 unfold dec
 split
 ·simp;omega
 ·rw[zbw,zan,Nat.pow_mul];exact h
theorem zqW (e:Nat) (he:e<10000):∃L,dec e=dtx L e∧L≤4∧e<10^L:=by
 by_cases h:e=0
 ·subst h;exact⟨1,rfl,by omega,by decide⟩
 ·exact⟨dlen e,zb6 h,zj9 he,zbv e⟩
end Go.Eng
namespace Go.Eng
theorem zne:pf E0 107 [nP 0]=some (.s (decI 0)):=by
 refine zaa (xf:=zww) rfl (by simp[zww]) ?_
 simp only[zww]
 have c0:(nP 0).cells=[.b false,T 0]:=rfl
 have e0:((tlen 0:Int)=0)=True:=by rw[zaN];simp
 simp(disch:=omega)only[go_sem,seval,wqq,c0,e0]
 rfl
theorem zlF {z:Int} (lz:tlen z.natAbs<100000):pf E0 107 [nP z]=some (.s (decI z)):=by
 by_cases hz:z=0
 ·subst hz;exact zne
 refine zaa (xf:=zww) rfl (by simp[zww]) ?_
 simp only[zww]
 have hv:z.natAbs≠0:=by omega
 have hdI:decI z=if z<0 then 45::dec z.natAbs else dec z.natAbs:=rfl
 generalize hs:decide (z<0)=sg at *
 have hcz:(nP z).cells=[.b sg,T z.natAbs]:=by rw[←hs];rfl
 have hdI2:decI z=if sg=true then 45::dec z.natAbs else dec z.natAbs:=by
  rw[hdI,←hs];by_cases q:z<0<;>simp[q]
 rw[hdI2]
 generalize z.natAbs=v at *
 have ht:=zaR hv
 have eT:T v=Tw (tlen v) v:=rfl
 have hq:((tlen v:Int)=0)=False:=by simp;omega
 have hdg:=zdh v (tlen v-1)
 have htop:tdg v (tlen v-1)=v/10000^(tlen v-1):=by
  rw[zak,Nat.mod_eq_of_lt]
  apply Nat.div_lt_of_lt_mul
  rw[←Nat.pow_succ,show (tlen v-1).succ=tlen v by omega];exact zaj v
 have hpb:10000^(tlen v-1)≤v:=by
  rcases Nat.lt_or_ge v (10000^(tlen v-1)) with q|q
  ·have:=zae q;omega
  ·exact q
 have hD:∀e:Nat,e<10000→pf E0 127 [(PV.i .i64 ((e:Nat):Int))]=some (.s (dec e)):=fun e he=>by
  have h1:=ziO (n:=(e:Int)) (by unfold Fits64;omega)
  have h2:decI (e:Int)=dec e:=by unfold decI;rw[if_neg (by omega),Int.natAbs_natCast]
  rw[h2] at h1;exact h1
 have hD0:=hD _ hdg
 have i1:(tlen v:Int)-1=((tlen v-1:Nat):Int):=by omega
 simp(disch:=omega)only[go_sem,seval,wqq,hcz,hq,eT,i1,zbP,hD0]
 refine zao zyb.eq_1 (fun(i:Nat) fr M=>i≤tlen v-1∧fr 1=.p 0 0∧fr 3=.s (dec (v/10000^i))∧fr 4=.i .i64 ((i:Int)-1)∧M=[some ⟨[.b sg,T v],true,0⟩]) id ?_ (tlen v-1) ⟨Nat.le_refl _,by simp only[go_sem,seval],by simp only[go_sem,seval];rw[htop],by simp only[go_sem,seval];congr 1;omega,rfl⟩
 rintro i fr M ⟨hi,h1,h3,h4,rfl⟩ ih
 by_cases hi0:i=0
 ·subst hi0
  rw[Nat.pow_zero,Nat.div_one] at h3
  cases sg
  ·simp(disch:=omega)only[go_sem,seval,wqq,h1,h3,h4,Int.natCast_zero,Int.zero_sub,Int.reduceNeg,Int.reduceLE,ge_iff_le]
  ·have hl:=zhZ (zaj v) ht
   have hadd:binP .add (.s [45]) (.s (dec v))=some (.s (45::dec v)):=by
    rw[zaG _ _ (by simp;omega)];rfl
   simp(disch:=omega)only[go_sem,seval,wqq,h1,h3,h4,Int.natCast_zero,Int.zero_sub,Int.reduceNeg,Int.reduceLE,ge_iff_le,hadd]
 ·obtain⟨m,rfl⟩:∃m,i=m+1:=⟨i-1,by omega⟩
  have q1:(((m+1:Nat):Int)-1≥0)=True:=by simp
  have q2:(((m+1:Nat):Int)-1)=(m:Int):=by omega
  have he:=zdh v m
  have hDm:=hD _ he
  obtain⟨L,hL1,hL2,hL3⟩:=zqW _ he
  have hx:v/10000^(m+1)≠0:=by
   have h1:10000^(m+1)≤v:=Nat.le_trans (Nat.pow_le_pow_right (by decide) hi) hpb
   have:=Nat.div_pos h1 (zdz (m+1))
   omega
  have hsp:v/10000^m=v/10000^(m+1)*10000+tdg v m:=by rw[zbs,zak];omega
  have hdm:=zmd hx he
  rw[←hsp] at hdm
  have hxl:v/10000^(m+1)<10000^tlen v:=Nat.lt_of_le_of_lt (Nat.div_le_self _ _) (zaj v)
  have hl:=zhZ hxl ht
  have hadd:binP .add (.s (dec (v/10000^(m+1)))) (.s (dtx 4 (tdg v m)))=some (.s (dec (v/10000^m))):=by
   rw[zaG _ _ (by simp;omega),hdm]
  have hml:m<tlen v:=by omega
  simp(disch:=omega)only[go_sem,seval,wqq,h1,h3,h4,q1,q2,eT,zbP,hDm]
  refine zrF (A1:=.p 0 0) (A3:=.s (dec (v/10000^(m+1)))) (A4:=.i .i64 (m:Int)) (by simp only[go_sem,seval,h1]) (by simp only[go_sem,seval,h3]) (by simp only[go_sem,seval,h4,q2]) (by simp only[go_sem,seval];rw[hL1]) hL2 hL3 fun fr' g1 g3 g4 g5=>?_
  simp(disch:=omega)only[go_sem,seval,wqq,g1,g3,g4,g5,hadd]
  exact ih m _ _ (by simp only[id];omega) ⟨by omega,by simp only[go_sem,seval,g1],by simp only[go_sem,seval],by simp only[go_sem,seval],rfl⟩
end Go.Eng
namespace Go.Eng
theorem zcS {E:PEnv} {F:PFin} {ops:List XOper} {chk:List (Nat×Nat)} {ks:List KI} {fr:PFr} {M:PM} (hc:∀fr2 Ms,pOpsT E.glob (pcl E) ops fr M=some (fr2,Ms)→chk.all (chkP E.glob ops fr2 Ms)=true) (w:WL E F ops ks fr M):WK E F (.drw ops chk) ks fr M:=by
 obtain⟨lf,w⟩:=w
 refine⟨lf,?_⟩
 have key:pCode E.glob (pcl E) lf (.drw ops chk) fr M=(pOps E.glob (pcl E) ops fr M).map fun r=>(.normal,r.1,r.2):=by
  simp only[pCode]
  congr 1
  cases hops:pOps E.glob (pcl E) ops fr M with
  | none=>rw[hops] at w;exact(Ends.none w).elim
  | some r =>
   unfold pDrw
   by_cases h0:chk=[]
   ·rw[if_pos h0,hops]
   ·rw[if_neg h0]
    obtain⟨fr2,M2⟩:=r
    obtain⟨Ms,h1,h2⟩:=zbV hops
    rw[h1]
    have hall:chk.all (chkP E.glob ops fr2 Ms)=true:=by
     exact hc _ _ h1
    simp only[hall,if_true,h2,Option.map_some]
 rw[key]
 cases hops:pOps E.glob (pcl E) ops fr M with
 | none=>rw[hops] at w;exact(Ends.none w).elim
 | some r=>rw[hops] at w;exact w
theorem zhL {E:PEnv} {ops:List XOper} {fr fr2:PFr} {M:PM} {Ms:List PM} {i j s n o:Nat} {a b:XOper} {z:Bool} {k:Nat} (h1:pOpsT E.glob (pcl E) ops fr M=some (fr2,Ms)) (ha:ops[i]?=some a) (hb:ops[j]?=some b)
  (hop:a.op=.load z k (.t s)) (hcb:calmOp E b.op=true) (hall:(ops.all fun o=>o.dst != some s)=true) (hs:fr s=.p n o):chkP E.glob ops fr2 Ms (i,j)=true:=by
 have hk:=(zbh h1).2
 obtain⟨fri,A,B,q1,q2,q3,q4⟩:=zau h1 ha
 obtain⟨frj,C,D,p1,p2,p3,p4⟩:=zau h1 hb
 have p2':Ms[(i,j).2+1]?=some D:=p2
 have q2':Ms[(i,j).1+1]?=some B:=q2
 refine zcV ?_
 simp only[chkP0,ha,q1,q2,p1,p2]
 rw[if_neg (by rw[hop];simp[XO.cls])]
 rw[hop]
 show chkV ops j (.t s) C D (fr2 s)=true
 rw[hk s hall,hs]
 show verP (some n) C D=true
 rcases p3 with⟨_,v,p3⟩|⟨_,p3⟩
 ·cases hop:b.op with
  | call f l =>
   rw[hop] at p3 hcb
   obtain⟨ns,rfl⟩:=zcv hcb p3
   exact zdy ns C _
  | _=>rw[hop] at hcb;simp[calmOp] at hcb
 ·rw[p3];simp[verP]
end Go.Eng
namespace Go.Eng
theorem zl0:∀(a b:List UInt8),tv (a++b)=tv a*10^b.length+tv b
 | [],b=>by simp[tv]
 | c::a,b=>by
  show (c.toNat-48)*10^(a++b).length+tv (a++b)=_
  rw[zl0 a b,List.length_append,Nat.pow_add]
  show _=((c.toNat-48)*10^a.length+tv a)*10^b.length+tv b
  grind
theorem zla:∀(l:List UInt8),l.all isDig=true→tv l<10^l.length
 | [],_=>by simp[tv]
 | c::l,h=>by
  simp only[List.all_cons,Bool.and_eq_true,isDig,decide_eq_true_eq] at h
  have h2:=zla l h.2
  show (c.toNat-48)*10^l.length+tv l<10^(l.length+1)
  rw[Nat.pow_succ]
  have:(c.toNat-48)*10^l.length≤9*10^l.length:=Nat.mul_le_mul_right _ (by omega)
  omega
theorem dch (d:Nat) (h:d<10):(UInt8.ofNat (48+d)).toNat=48+d:=by
 have:∀d:Fin 10,(UInt8.ofNat (48+d.val)).toNat=48+d.val:=by decide
 exact this ⟨d,h⟩
theorem zl1:∀(n v:Nat),tv (dtx n v)=v%10^n
 | 0,v=>by simp[dtx,tv,Nat.mod_one]
 | n+1,v=>by
  show ((UInt8.ofNat (48+v/10^n%10)).toNat-48)*10^(dtx n v).length+tv (dtx n v)=_
  rw[dch _ (Nat.mod_lt _ (by decide)),zbw,zl1 n v,Nat.pow_succ,Nat.mod_mul,Nat.add_sub_cancel_left,Nat.mul_comm,Nat.add_comm]
theorem zh4:∀(n v:Nat),(dtx n v).all isDig=true
 | 0,_=>rfl
 | n+1,v=>by
  show (isDig (UInt8.ofNat (48+v/10^n%10))&&(dtx n v).all isDig)=true
  rw[zh4 n v,Bool.and_true]
  unfold isDig
  rw[dch _ (Nat.mod_lt _ (by decide))]
  have:=Nat.mod_lt (v/10^n) (by decide:0<10)
  exact decide_eq_true (by omega)
theorem zjL (v:Nat):tv (dec v)=v:=by
 unfold dec
 split
 ·rename_i h;rw[h];rfl
 ·rw[zl1,Nat.mod_eq_of_lt (zbv v)]
theorem zh3 (v:Nat):(dec v).all isDig=true:=by
 unfold dec
 split
 ·rfl
 ·exact zh4 _ _
end Go.Eng
namespace Go.Eng
noncomputable def E1:PEnv:={ E0 with prog:=fun f=>if f=33 then none else prog f,glob:=globT }
theorem zgq (a:List PV) (M:PM):pcl E1 48 a M=pclA E1 48 M (fzL (fz M fzD) a):=zac a M rfl
theorem zgr (a:List PV) (M:PM):pcl E1 49 a M=pclA E1 49 M (fzL (fz M fzD) a):=zac a M rfl
theorem zgs (a:List PV) (M:PM):pcl E1 50 a M=pclA E1 50 M (fzL (fz M fzD) a):=zac a M rfl
theorem zgt (a:List PV) (M:PM):pcl E1 51 a M=pclA E1 51 M (fzL (fz M fzD) a):=zac a M rfl
def XC.cut:XC→XC
 | .ret=>.fail
 | .seq a b=>.seq a.cut b.cut
 | .cond c a b=>.cond c a.cut b.cut
 | .block id a=>.block id a.cut
 | .loop a=>.loop a.cut
 | .scope a=>.scope a.cut
 | x=>x
theorem zfw {b b':PStep} (h:∀fr M o fr' M',b' fr M=some (o,fr',M')→b fr M=some (o,fr',M')∧o ≠ .ret):∀k fr M o fr' M',pLoop b' k fr M=some (o,fr',M')→pLoop b k fr M=some (o,fr',M')∧o ≠ .ret
 | 0,fr,M,o,fr',M',e=>by simp[pLoop] at e
 | k+1,fr,M,o,fr',M',e=>by
  simp only[pLoop] at e ⊢
  cases h1:b' fr M with
  | none=>rw[h1] at e;cases e
  | some r =>
   obtain⟨o1,fr1,M1⟩:=r
   obtain⟨g1,g2⟩:=h _ _ _ _ _ h1
   rw[h1] at e;rw[g1]
   cases o1 with
   | normal=>exact zfw h k _ _ _ _ _ e
   | exit i=>cases e;exact⟨rfl,g2⟩
   | ret=>exact(g2 rfl).elim
theorem za7 {G:Nat→Option (List AV)} {call:PCall} {lf:Nat}:∀(c:XC) fr M o fr' M',pCode G call lf c.cut fr M=some (o,fr',M')→pCode G call lf c fr M=some (o,fr',M')∧o ≠ .ret
 | .skip,fr,M,o,fr',M',e=>⟨e,by simp[XC.cut,pCode] at e;rw[←e.1];simp⟩
 | .ret,fr,M,o,fr',M',e=>by simp[XC.cut,pCode] at e
 | .exit id,fr,M,o,fr',M',e=>⟨e,by simp[XC.cut,pCode] at e;rw[←e.1];simp⟩
 | .fail,fr,M,o,fr',M',e=>by simp[XC.cut,pCode] at e
 | .scope a,fr,M,o,fr',M',e=>za7 a fr M o fr' M' e
 | .loop a,fr,M,o,fr',M',e=>zfw (za7 a) lf fr M o fr' M' e
 | .reg ops,fr,M,o,fr',M',e=>⟨e,by
   simp only[XC.cut,pCode,Option.map_eq_some_iff] at e
   obtain⟨q,_,e⟩:=e
   cases e;simp⟩
 | .drw ops chk,fr,M,o,fr',M',e=>⟨e,by
   simp only[XC.cut,pCode,Option.map_eq_some_iff] at e
   obtain⟨q,_,e⟩:=e
   cases e;simp⟩
 | .seq a b,fr,M,o,fr',M',e=>by
  simp only[XC.cut,pCode] at e ⊢
  cases h1:pCode G call lf a.cut fr M with
  | none=>rw[h1] at e;cases e
  | some r =>
   obtain⟨o1,fr1,M1⟩:=r
   obtain⟨g1,g2⟩:=za7 a _ _ _ _ _ h1
   rw[h1] at e;rw[g1]
   cases o1 with
   | normal=>exact za7 b _ _ _ _ _ e
   | exit i=>cases e;exact⟨rfl,g2⟩
   | ret=>exact(g2 rfl).elim
 | .cond x a b,fr,M,o,fr',M',e=>by
  simp only[XC.cut,pCode] at e ⊢
  split at e
  ·rename_i v hv
   cases v with
   | true=>exact za7 a _ _ _ _ _ e
   | false=>exact za7 b _ _ _ _ _ e
  ·cases e
 | .block id a,fr,M,o,fr',M',e=>by
  simp only[XC.cut,pCode] at e ⊢
  cases h1:pCode G call lf a.cut fr M with
  | none=>rw[h1] at e;cases e
  | some r =>
   obtain⟨o1,fr1,M1⟩:=r
   obtain⟨g1,g2⟩:=za7 a _ _ _ _ _ h1
   rw[h1] at e;rw[g1]
   cases o1 with
   | normal=>cases e;exact⟨rfl,g2⟩
   | exit i =>
    simp only at e ⊢
    split at e
    ·rename_i hi;cases e;rw[if_pos hi];exact⟨rfl,by simp⟩
    ·rename_i hi;cases e;rw[if_neg hi];exact⟨rfl,g2⟩
   | ret=>exact(g2 rfl).elim
theorem zj6 {x e k:Nat} (hx:x≠0) (hk:0<k) (he:e<10^k):dec (x*10^k+e)=dec x++dtx k e:=by
 have hp:0<10^k:=Nat.pow_pos (by decide)
 have hdv:(x*10^k+e)/10^k=x:=by rw[Nat.mul_comm,Nat.mul_add_div hp,Nat.div_eq_of_lt he,Nat.add_zero]
 have hmd:(x*10^k+e)%10^k=e:=by rw[Nat.mul_comm,Nat.mul_add_mod,Nat.mod_eq_of_lt he]
 have hge:10^k≤x*10^k+e:=Nat.le_trans (Nat.le_mul_of_pos_left _ (Nat.pos_of_ne_zero hx)) (Nat.le_add_right _ _)
 have hd:dlen (x*10^k+e)=dlen x+k:=by
  have h1:∀m,dlen x≤m↔dlen (x*10^k+e)≤m+k:=fun m=>by
   rw[zan,zan,Nat.pow_add,←Nat.div_lt_iff_lt_mul hp,hdv]
  have k1:=(h1 (dlen x)).1 (Nat.le_refl _)
  have k2:k≤dlen (x*10^k+e):=by
   rcases Nat.lt_or_ge (dlen (x*10^k+e)) k with q|q
   ·have h3:=zbv (x*10^k+e)
    have:10^dlen (x*10^k+e)≤10^k:=Nat.pow_le_pow_right (by decide) (by omega)
    omega
   ·exact q
  have k4:=(h1 (dlen (x*10^k+e)-k)).2 (by omega)
  omega
 rw[zb6 (by omega),zb6 hx,hd,zeC,hdv,←zfV k k _ (Nat.le_refl _),hmd]
theorem znz {e:Nat} (he:e<1000000000):(dec e).length≤9∧(List.replicate (9-(dec e).length) [(48:UInt8)]).flatten++dec e=dtx 9 e:=by
 have fl:∀n,(List.replicate n [(48:UInt8)]).flatten=List.replicate n 48:=fun n=>by
  induction n with
  | zero=>rfl
  | succ n ih=>rw[List.replicate_succ,List.flatten_cons,ih,List.replicate_succ];rfl
 rw[fl]
 by_cases h:e=0
 ·subst h;decide
 ·have h9:dlen e≤9:=zan.2 he
  rw[zb6 h,zbw]
  exact⟨h9,(zmm _ _ _ (zbv e) h9).symm⟩
theorem zff {z:Nat} (h:z≠0):dlen (z/1000000000)+1≤dlen z:=by
 have h1:=zbv z
 have h2:0<dlen z:=by
  rcases Nat.eq_zero_or_pos (dlen z) with q|q
  ·rw[q] at h1;simp at h1;omega
  ·exact q
 have:dlen (z/1000000000)≤dlen z-1:=by
  rw[zan]
  refine Nat.lt_of_le_of_lt (Nat.div_le_div_left (by decide:10≤1000000000) (by decide)) ?_
  rw[Nat.div_lt_iff_lt_mul (by decide),←Nat.pow_succ,show (dlen z-1).succ=dlen z by omega]
  exact h1
 omega
theorem zlm {v:Nat} (h:wlen v≤512):dlen v≤16384:=by
 have h1:=zaS.1 h
 obtain⟨n,hn⟩:∃n,n=512:=⟨_,rfl⟩
 rw[←hn] at h1
 have h2:(4294967296:Nat)^n≤(10^32)^n:=Nat.pow_le_pow_left (by decide) n
 rw[←Nat.pow_mul] at h2
 have:dlen v≤32*n:=zan.2 (Nat.lt_of_lt_of_le h1 h2)
 omega
def strA:XC :=
 .seq (.reg [⟨some 1,.box (.t 0),[],none⟩,⟨some 2,.mov (.k (.s [])),[],none⟩]) (.seq (.seq (.reg [⟨some 10,.fad 1 (.t 1),[],none⟩,⟨some 11,.load false 1 (.t 10),[0],none⟩,⟨some 12,.len (.t 11),[1],none⟩,⟨some 13,.bin .eql (.t 12) (.k (.i .i64 0)),[2],none⟩]) (.cond (.t 13) (.seq (.reg [⟨some 2,.mov (.k (.s [48])),[],none⟩]) .ret) .skip)) (.seq (.reg [⟨some 3,.mov (.k .sn),[],none⟩]) (.seq (.reg [⟨some 14,.fad 1 (.t 1),[],none⟩,⟨some 15,.load false 1 (.t 14),[0],none⟩,⟨some 4,.mov (.t 15),[1,0,1],none⟩]) (.block 0 (.loop zvN)))))
def strQ (neg:Bool) (v:Nat) (w:PV) (M:PM):Prop:=∃p ps,w=.tu [.p 0 0,p]∧Grows M p (ps.map PV.s)∧ps≠[]∧ps.length≤20000∧ps.reverse.flatten=dec v∧PM.blk M 0=some ⟨[.b neg,D v],true,0⟩
theorem zpD {neg:Bool} {v:Nat} (h0:v≠0) (hl:wlen v≤512):WK E1 ⟨[.tmp 1,.tmp 3],strQ neg v⟩ strA.cut [] (frOf [.ag [.b neg,D v]]) []:=by
 simp only[strA,XC.cut]
 have hpos:=zaT h0
 have q0:((wlen v:Int)=0)=False:=by simp;omega
 have hcl:XC.cut zvN=zvN:=rfl
 rw[hcl]
 simp(disch:=omega)only[go_sem,seval,wqq,q0]
 refine zao zvN.eq_1 (fun(z:Nat) fr M=>wlen z≤512∧fr 1=.p 0 0∧fr 4=D z∧∃ps:List (List UInt8),Grows M (fr 3) (ps.map PV.s)∧NotIn (fr 3) 0∧(z=0→ps≠[])∧ps.length+dlen z≤20000∧(if z=0 then [] else dec z)++ps.reverse.flatten=dec v∧PM.blk M 0=some ⟨[.b neg,D v],true,0⟩) id ?_ v ⟨hl,by simp only[go_sem,seval],by simp only[go_sem,seval],[],.inl ⟨rfl,by simp only[go_sem,seval]⟩,by simp only[go_sem,seval];trivial,fun h=>(h0 h).elim,?_,by rw[if_neg h0];simp,rfl⟩
 ·rintro z fr M ⟨hz,h1,h4,ps,hg,hni,hne,hpl,htx,hb⟩ ih
  by_cases hz0:z=0
  ·have q1:((wlen z:Int)>0)=False:=by rw[hz0,zbK];simp
   have htx':ps.reverse.flatten=dec v:=by rw[if_pos hz0] at htx;simpa using htx
   simp(disch:=omega)only[go_sem,seval,wqq,h1,h4,q1]
   exact⟨_,ps,rfl,hg,hne hz0,by omega,htx',hb⟩
  ·have q1:((wlen z:Int)>0)=True:=by have:=zaT hz0;simp;omega
   have hzl:=zai z
   have h48:pf E1 48 [Dw (wlen z) z,.i .u32 1000000000]=some (.tu [Dw (wlen z) (z/1000000000),(PV.i .u32 ((z%1000000000:Nat):Int))]):=by
    have:=zgZ (E:=E1) rfl (n:=wlen z) (a:=z) (w:=1000000000) hzl (by decide) (by decide) (by omega)
    simpa only[Int.cast_ofNat_Int] using this
   have hz':z/1000000000<4294967296^wlen z:=Nat.lt_of_le_of_lt (Nat.div_le_self _ _) hzl
   have h49:=zfA (E:=E1) rfl (wlen z) (z/1000000000) hz' (by omega)
   have hr:z%1000000000<1000000000:=Nat.mod_lt _ (by decide)
   have h50:pf E1 50 [.i .i64 ((z%1000000000:Nat):Int)]=some (.s (dec (z%1000000000))):=zdS (o:=orcA 50) (w:=.s (dec (z%1000000000))) (M2:=[]) rfl (by
    have hd:decI ((z%1000000000:Nat):Int)=dec (z%1000000000):=by unfold decI;rw[if_neg (by omega),Int.natAbs_natCast]
    have hf:Fits64 ((z%1000000000:Nat):Int):=⟨by omega,by omega⟩
    show orcP 50 _ []=_
    simp only[orcP,libP]
    rw[if_neg (by decide),if_pos ⟨trivial,hf⟩,hd];rfl) rfl
   obtain⟨r1,r2⟩:=znz hr
   have hze:z=z/1000000000*10^9+z%1000000000:=by
    show z=z/1000000000*1000000000+z%1000000000;omega
   have hwl:wlen (z/1000000000)≤512:=Nat.le_trans (zaS.2 hz') hz
   by_cases hz2:z/1000000000=0
   ·have q2:((wlen (z/1000000000):Int)>0)=False:=by rw[hz2,zbK];simp
    obtain⟨v',M',he,hg',hk⟩:=zev (by_:=16) (by decide) hg (.s (dec (z%1000000000))) (by simp;omega)
    obtain⟨k1,k2⟩:=hk 0 _ hb hni
    simp(disch:=omega)only[go_sem,seval,wqq,h1,h4,q1,q2,zgq,zgr,zgs,zgt,h48,h49,h50,he]
    have hzr:z%1000000000=z:=by omega
    rw[if_neg hz0] at htx
    refine ih (z/1000000000) _ M' (by simp only[id];omega) ⟨hwl,by simp only[go_sem,seval,h1],by simp only[go_sem,seval],ps++[dec (z%1000000000)],by simp only[go_sem,seval];simpa using hg',by simp only[go_sem,seval];exact k2,fun _=>by simp,?_,?_,k1⟩
    ·have:=zff hz0
     simp only[List.length_append,List.length_cons,List.length_nil];omega
    ·rw[if_pos hz2,hzr,List.reverse_append];simpa using htx
   ·have q2:((wlen (z/1000000000):Int)>0)=True:=by have:=zaT hz2;simp;omega
    obtain⟨v',M',he,hg',hk⟩:=zev (by_:=16) (by decide) hg (.s (dtx 9 (z%1000000000))) (by simp;omega)
    obtain⟨k1,k2⟩:=hk 0 _ hb hni
    have i9:(9:Int)-((dec (z%1000000000)).length:Int)=((9-(dec (z%1000000000)).length:Nat):Int):=by omega
    have h51:pf E1 51 [.s [48],.i .i64 ((9-(dec (z%1000000000)).length:Nat):Int)]=some (.s (List.replicate (9-(dec (z%1000000000)).length) [(48:UInt8)]).flatten):=zdS (o:=orcA 51) (w:=.s (List.replicate (9-(dec (z%1000000000)).length) [(48:UInt8)]).flatten) (M2:=[]) rfl (by
     show orcP 51 _ []=_
     simp only[orcP,libP]
     rw[if_neg (by decide),if_pos ⟨trivial,by omega,by omega,by simp⟩];rfl) rfl
    have hadd:binP .add (.s (List.replicate (9-(dec (z%1000000000)).length) [(48:UInt8)]).flatten) (.s (dec (z%1000000000)))=some (.s (dtx 9 (z%1000000000))):=by
     have hlen:=congrArg List.length r2
     rw[List.length_append,zbw] at hlen
     rw[zaG _ _ (by omega),r2]
    generalize (List.replicate (9-(dec (z%1000000000)).length) [(48:UInt8)]).flatten=pd at *
    simp(disch:=omega)only[go_sem,seval,wqq,h1,h4,q1,q2,zgq,zgr,zgs,zgt,h48,h49,h50,i9,h51,hadd,he]
    rw[if_neg hz0] at htx
    refine ih (z/1000000000) _ M' (by simp only[id];omega) ⟨hwl,by simp only[go_sem,seval,h1],by simp only[go_sem,seval],ps++[dtx 9 (z%1000000000)],by simp only[go_sem,seval];simpa using hg',by simp only[go_sem,seval];exact k2,fun _=>by simp,?_,?_,k1⟩
    ·have:=zff hz0
     simp only[List.length_append,List.length_cons,List.length_nil];omega
    ·have hm:=zj6 (k:=9) hz2 (by decide) hr
     rw[←hze] at hm
     rw[if_neg hz2,List.reverse_append,←htx,hm]
     simp
 ·have h1:=zlm hl
  simp only[List.length_nil];omega
end Go.Eng
namespace Go.Eng
theorem zk0 {neg : Bool} {v : Nat} (h0 : v ≠ 0) (hl : wlen v ≤ 512) : ∃ lf fr M p ps, pCode E1.glob (pvF E1 lf) lf strA (frOf [.ag [.b neg, D v]]) [] = some (.normal, fr, M) ∧ fr 1 = .p 0 0 ∧ fr 3 = p ∧ Grows M p (ps.map PV.s) ∧ ps ≠ [] ∧ ps.length ≤ 20000 ∧ ps.reverse.flatten = dec v ∧ PM.blk M 0 = some ⟨[.b neg, D v], true, 0⟩ := by
  obtain ⟨lf, q, fr, M, vs, e, h1, h2, h3⟩ := zpD (neg := neg) h0 hl
  simp only [Option.bind_eq_some_iff] at e
  obtain ⟨⟨o, fr1, M1⟩, e1, e2⟩ := e
  simp only [unw] at e2
  cases e2
  obtain ⟨e3, hno⟩ := za7 _ _ _ _ _ _ e1
  have hq : q = .normal := by
    cases q with
    | normal => rfl
    | exit i => exact (h1 i rfl).elim
    | ret => exact (hno rfl).elim
  subst hq
  obtain ⟨k, e4⟩ := zaE _ e3
  have e5 := zay (zb0 (Nat.le_max_left k lf)) (Nat.le_max_right k lf) _ e4
  simp only [pRes, pResOne] at h2
  cases h2
  obtain ⟨p, ps, g1, g2, g3, g4, g5, g6⟩ := h3
  simp only [packP, PV.tu.injEq, List.cons.injEq, and_true] at g1
  exact ⟨max k lf, fr, M, p, ps, e5, g1.1, g1.2, g2, g3, g4, g5, g6⟩
theorem znM (a : List Nat) (x : Nat) : val (a ++ [x]) = val a + 4294967296 ^ a.length * x := by
  induction a with
  | nil => simp [val]
  | cons y a ih => simp only [List.cons_append, val, ih, List.length_cons, Nat.pow_succ]; grind
theorem zkw {xs : List Nat} (h : Ok32 xs) (hz : xs.getLast? ≠ some 0) : xs = dig (val xs) := by
  have hlen : wlen (val xs) = xs.length := by
    rcases List.eq_nil_or_concat xs with rfl | ⟨a, x, rfl⟩
    · rfl
    · rw [List.concat_eq_append] at h hz ⊢
      have hx : x ≠ 0 := fun e => by subst e; simp at hz
      have h1 : wlen (val (a ++ [x])) ≤ (a ++ [x]).length := zaS.2 (zl5 h)
      have h2 : ¬ wlen (val (a ++ [x])) ≤ a.length := fun q => by
        have := zaS.1 q
        rw [znM] at this
        have : 4294967296 ^ a.length * 1 ≤ 4294967296 ^ a.length * x := Nat.mul_le_mul_left _ (by omega)
        omega
      simp at h1 ⊢
      omega
  unfold dig
  rw [hlen]
  exact zoi h
theorem zdZ : ∀ {cs : List AV} {xs : List Nat}, wordsA cs = some xs → cs = xs.map (fun n => .i .u32 (n : Int)) ∧ Ok32 xs
  | [], xs, e => by simp [wordsA] at e; subst e; exact ⟨rfl, fun x hx => by cases hx⟩
  | c :: cs, xs, e => by
    unfold wordsA at e
    split at e
    · rename_i he; cases he
    · rename_i n l he
      cases he
      split at e
      · rename_i hn
        simp only [Option.map_eq_some_iff] at e
        obtain ⟨ys, e1, rfl⟩ := e
        obtain ⟨p1, p2⟩ := zdZ e1
        refine ⟨by rw [p1, List.map_cons, Int.toNat_of_nonneg hn.1], fun x hx => ?_⟩
        rcases List.mem_cons.1 hx with rfl | hx
        · omega
        · exact p2 x hx
      · cases e
    · cases e
theorem zhe {neg : Bool} {w : AV} {h : Hp} {l : List UInt8} (e : txtA [.ag [.b neg, w]] h = some l) (hcap : ∀ n off len cap z, w = .sl n off len cap z → len ≤ cap) :
    ∃ v, wlen v ≤ 512 ∧ (neg = true → v ≠ 0) ∧ l = decI (if neg then -(v : Int) else (v : Int)) ∧ V h (fun _ => False) [] (D v) w := by
  have nil : ∀ {l}, wtx neg [] = some l → (neg = true → False) ∧ l = decI (if neg then -((0 : Nat) : Int) else ((0 : Nat) : Int)) := fun {l} e => by
    unfold wtx at e
    split at e
    · rename_i hc; cases e; exact ⟨fun hn => hc.2.2 hn rfl, rfl⟩
    · cases e
  have D0 : D 0 = .lst [] := rfl
  have fin0 : ∀ {l}, wtx neg [] = some l → V h (fun _ => False) [] (.lst []) w → ∃ v, wlen v ≤ 512 ∧ (neg = true → v ≠ 0) ∧ l = decI (if neg then -(v : Int) else (v : Int)) ∧ V h (fun _ => False) [] (D v) w := fun {l} e hv => by
    obtain ⟨n1, n2⟩ := nil e
    exact ⟨0, by rw [zbK]; omega, fun hn => (n1 hn).elim, n2, by rw [D0]; exact hv⟩
  unfold txtA at e
  split at e
  · rename_i neg' n off len cap z heq
    simp only [List.cons.injEq, AV.ag.injEq, AV.b.injEq, and_true] at heq
    obtain ⟨rfl, rfl⟩ := heq
    split at e
    · rename_i h0
      subst h0
      exact fin0 e (.lst0 n off cap z)
    · rename_i h0
      split at e
      · rename_i hz
        subst hz
        simp only [Option.bind_eq_some_iff] at e
        obtain ⟨xs, ⟨cs, e1, e2⟩, e3⟩ := e
        obtain ⟨w1, w2⟩ := zdZ e2
        unfold wtx at e3
        split at e3
        · rename_i hc
          cases e3
          have hd := zkw w2 hc.2.1
          have hlen : cs.length = len := by
            unfold Hp.rd at e1
            split at e1
            · rename_i b hb
              split at e1
              · cases e1; simp; omega
              · cases e1
            · cases e1
          have hxl : xs.length = len := by rw [← hlen, w1, List.length_map]
          have hwl : wlen (val xs) = len := by rw [← hxl]; conv => rhs; rw [hd]
                                               simp
          have hD : D (val xs) = .lst (xs.map fun n => (PV.i .u32 ((n : Nat) : Int))) := by
            have : W (dig (val xs)) = D (val xs) := ztr _ _
            rw [← this, ← hd]; rfl
          refine ⟨val xs, by omega, fun hn h0' => ?_, rfl, ?_⟩
          · rw [h0', zbK] at hwl; omega
          · rw [hD]
            unfold Hp.rd at e1
            split at e1
            · rename_i b hb
              split at e1
              · rename_i hle
                cases e1
                have hfl : flat (xs.map fun n => (PV.i .u32 ((n : Nat) : Int))) = xs.map fun n => (PV.i .u32 ((n : Nat) : Int)) := by
                  clear hD hwl hxl hlen hd hc w1 e2 w2
                  induction xs with
                  | nil => rfl
                  | cons x xs ih => rw [List.map_cons]; show [(PV.i .u32 ((x : Nat) : Int))] ++ flat _ = _; rw [ih]; rfl
                have hg : ∀ i (hi : i < xs.length), b.v[off + i]? = some (.i .u32 ((xs[i] : Nat) : Int)) := fun i hi => by
                  have : ((b.v.drop off).take len)[i]? = some (.i .u32 ((xs[i] : Nat) : Int)) := by
                    rw [w1, List.getElem?_map, List.getElem?_eq_getElem hi]; rfl
                  rw [List.getElem?_take, if_pos (by omega), List.getElem?_drop] at this
                  exact this
                have hl : (xs.map fun n => (PV.i .u32 ((n : Nat) : Int))).length = len := by rw [List.length_map, hxl]
                have := V.lst (D := fun _ => False) (r := []) (xs := xs.map fun n => (PV.i .u32 ((n : Nat) : Int))) (m := n) (off := off) (cap := cap) (z := 1) (fun i => .i .u32 ((xs.getD i 0 : Nat) : Int)) hb (fun q => q) (by rw [hfl]; simp [PV.scal]) (by decide) (fun x hx => by
                  obtain ⟨y, _, rfl⟩ := List.mem_map.1 hx; rfl) (by rw [hl]; exact hcap n off len cap 1 rfl) (fun i hi => by
                  rw [hfl, List.length_map] at hi
                  rw [hg i hi, List.getD, List.getElem?_eq_getElem hi]; rfl) (fun i hi => by
                  have hi' : i < xs.length := by rw [hfl, List.length_map] at hi; exact hi
                  have e : (flat (xs.map fun n => (PV.i .u32 ((n : Nat) : Int))))[i] = (PV.i .u32 ((xs[i] : Nat) : Int)) := by simp only [hfl]; rw [List.getElem_map]
                  rw [e, List.getD, List.getElem?_eq_getElem hi']
                  exact .i _ _)
                rw [hl] at this
                exact this
              · cases e1
            · cases e1
        · cases e3
      · cases e
  · rename_i neg' heq
    simp only [List.cons.injEq, AV.ag.injEq, AV.b.injEq, and_true] at heq
    obtain ⟨rfl, rfl⟩ := heq
    exact fin0 e .lsn
  · rename_i neg' heq
    simp only [List.cons.injEq, AV.ag.injEq, AV.b.injEq, and_true] at heq
    obtain ⟨rfl, rfl⟩ := heq
    exact fin0 e .lse
  · rename_i neg' heq
    simp only [List.cons.injEq, AV.ag.injEq, AV.b.injEq, and_true] at heq
    obtain ⟨rfl, rfl⟩ := heq
    exact fin0 e .le0
  · cases e
end Go.Eng
namespace Go.Eng
def HasT (h:Hp):Prop:=∃b,h.m 0=some b∧b.v=powT
theorem ziH (m:Nat):¬DM [] [] m:=fun d=>by
 obtain⟨n,b,q,_⟩:=d
 simp at q
theorem PInv.start {h:Hp} (w:h.wf) (t:HasT h):PInv globT (fun _=>False) [] [] h:=by
 refine⟨rfl,fun i j m q=>by simp at q,fun m q=>by simp at q,w,fun n m q=>by simp at q,fun n b m q=>by simp at q,fun m d=>d.elim,fun g l q=>?_⟩
 unfold globT at q
 split at q
 ·rename_i hg
  cases q;subst hg
  obtain⟨b,t1,t2⟩:=t
  refine⟨b,t1,⟨t2,by decide⟩,fun d=>?_⟩
  rcases d with d|d
  ·exact d
  ·exact ziH _ d
 ·cases q
theorem VL.dd {h:Hp} {args:List PV} {asq:List AV} (v:VL h (fun _=>False) [] args asq):VL h (DD (fun _=>False) [] []) [] args asq :=
 v.anti fun m d=>by
  rcases d with d|d
  ·exact d
  ·exact(ziH _ d).elim
theorem zhI {h:Hp} {D:Nat→Prop} {r:List Nat}:∀{ps:List (List UInt8)} {l:List AV},VL h D r (ps.map PV.s) l→l=ps.map AV.s
 | [],l,v=>v.of_nil
 | x::ps,l,v=>by
  obtain⟨y,ys,e1,e2,e3⟩:=v.uncons
  rw[e1,List.map_cons,←zhI e3]
  cases e2;rfl
theorem znG (K:PEnvOk E1) {neg:Bool} {v:Nat} {w:AV} {h:Hp} (hw:h.wf) (t:HasT h) (h0:v≠0) (hl:wlen v≤512) (hv:V h (fun _=>False) [] (D v) w) :
  ∃lf fr' h' m0 m len cap ps,evCode (evF E1.prog lf) lf strA ([.ag [.b neg,w]]++List.replicate 57 undefA) h=some (.normal,fr',h')∧fr'.length=58∧fr'.getD 1 undefA=.p m0 0∧(∃b,h'.m m0=some b∧b.v[0]?=some (.b neg)) ∧
   fr'.getD 3 undefA=.sl m 0 len cap 1∧(∃b,h'.m m=some b∧b.v=ps.map AV.s)∧len=ps.length∧ps≠[]∧ps.length≤20000∧ps.reverse.flatten=dec v:=by
 obtain⟨lf,fr,M,p,ps,e,f1,f3,hg,g1,g2,g3,hb⟩:=zk0 (neg:=neg) h0 hl
 have hv0:VL h (DD (fun _=>False) [] []) [] [.ag [.b neg,D v]] [.ag [.b neg,w]] :=
  VL.dd (.cons ((fun q:VL h (fun _=>False) [] [.b neg,D v] [.b neg,w]=>V.ag q.1 q.2) (.cons (.b neg) (.cons hv .nil))) .nil)
 have F0:VFr h (DD (fun _=>False) [] []) [] (frOf [.ag [.b neg,D v]]) ([.ag [.b neg,w]]++List.replicate 57 undefA):=by
  intro k
  cases k with
  | zero=>exact hv0.2 0 (by simp) (by simp)
  | succ k =>
   have e2:([AV.ag [.b neg,w]]++List.replicate 57 undefA).getD (k+1) undefA=undefA:=by
    simp only[List.singleton_append,List.getD,List.getElem?_cons_succ,List.getElem?_replicate]
    split<;>rfl
   rw[e2]
   exact .junk _ rfl fun _ q=>by cases q
 obtain⟨fr',h',r',q1,q2,q3,q4,q5⟩:=zaQ (zg6 K lf) lf strA rfl _ _ _ _ _ _ _ _ e (PInv.start hw t) F0 rfl
 have a1:=q4 1
 rw[f1] at a1
 have a3:=q4 3
 rw[f3] at a3
 rcases hg with⟨hn,_⟩|⟨k,ev,rfl,hk⟩
 ·simp at hn;exact(g1 hn).elim
 rw[zaz] at hb hk
 generalize ha1:fr'.getD 1 undefA=A1 at a1
 generalize ha3:fr'.getD 3 undefA=A3 at a3
 cases a1 with
 | @p _ _ m0 _ hm0 =>
  cases a3 with
  | @sl _ _ m _ len cap z hm hlc =>
   obtain⟨b0,c1,c2,c3,c4,c5⟩:=q2.blk 0 _ m0 hb hm0
   obtain⟨b1,d1,d2,d3,d4,d5⟩:=q2.blk k _ m hk hm
   refine⟨lf,fr',h',m0,m,_,_,ps,q1,q5,ha1,⟨b0,c1,?_⟩,ha3,⟨b1,d1,?_⟩,by simp,g1,g2,g3⟩
   ·obtain⟨x,xs,e1,e2,e3⟩:=c4.uncons
    rw[e1]
    cases e2;rfl
   ·exact zhI d4
theorem znF (K:PEnvOk E1) {w:AV} {h:Hp} (hw:h.wf) (t:HasT h) (hv:V h (fun _=>False) [] (D 0) w) :
  ∃lf fr' h',evCode (evF E1.prog lf) lf strA ([.ag [.b false,w]]++List.replicate 57 undefA) h=some (.ret,fr',h')∧fr'.getD 2 undefA=.s [48]:=by
 have wk:WK E1 ⟨[.tmp 2],fun q _=>q=.s [48]⟩ (.seq strA .fail) [] (frOf [.ag [.b false,D 0]]) []:=by
  simp only[strA]
  have q0:((wlen 0:Int)=0)=True:=by rw[zbK];simp
  simp(disch:=omega)only[go_sem,seval,wqq,q0]
 obtain⟨lf,q,fr,M,vs,e,h1,h2,h3⟩:=wk
 simp only[Option.bind_eq_some_iff] at e
 obtain⟨⟨o,fr1,M1⟩,e1,e2⟩:=e
 simp only[unw] at e2
 cases e2
 have e0:pCode E1.glob (pcl E1) lf strA (frOf [.ag [.b false,D 0]]) []=some (.ret,fr,M):=by
  simp only[pCode] at e1
  cases hs:pCode E1.glob (pcl E1) lf strA (frOf [.ag [.b false,D 0]]) [] with
  | none=>rw[hs] at e1;cases e1
  | some r =>
   obtain⟨o2,fr2,M2⟩:=r
   rw[hs] at e1
   cases o2 with
   | normal=>cases e1
   | exit i=>cases e1;exact(h1 i rfl).elim
   | ret=>cases e1;rfl
 obtain⟨k,e4⟩:=zaE _ e0
 have e5:=zay (zb0 (Nat.le_max_left k lf)) (Nat.le_max_right k lf) _ e4
 simp only[pRes,pResOne] at h2
 cases h2
 simp only[packP] at h3
 have hv0:VL h (DD (fun _=>False) [] []) [] [.ag [.b false,D 0]] [.ag [.b false,w]] :=
  VL.dd (.cons ((fun q:VL h (fun _=>False) [] [.b false,D 0] [.b false,w]=>V.ag q.1 q.2) (.cons (.b false) (.cons hv .nil))) .nil)
 have F0:VFr h (DD (fun _=>False) [] []) [] (frOf [.ag [.b false,D 0]]) ([.ag [.b false,w]]++List.replicate 57 undefA):=by
  intro k
  cases k with
  | zero=>exact hv0.2 0 (by simp) (by simp)
  | succ k =>
   have e2:([AV.ag [.b false,w]]++List.replicate 57 undefA).getD (k+1) undefA=undefA:=by
    simp only[List.singleton_append,List.getD,List.getElem?_cons_succ,List.getElem?_replicate]
    split<;>rfl
   rw[e2]
   exact .junk _ rfl fun _ q=>by cases q
 obtain⟨fr',h',r',q1,q2,q3,q4,q5⟩:=zaQ (zg6 K (max k lf)) (max k lf) strA rfl _ _ _ _ _ _ _ _ e5 (PInv.start hw t) F0 rfl
 have a2:=q4 2
 rw[h3] at a2
 generalize ha2:fr'.getD 2 undefA=A2 at a2
 cases a2
 exact⟨_,fr',h',q1,ha2⟩
end Go.Eng
namespace Go.Eng
variable {F:Nat} {key:Nat→Option FuncId}
theorem Ext.below {l:Loc} {h:Hp} {w w':World} {B:Nat} (hB:w.heap.size≤B) (b:RowKit.Below B w w'):Ext l h w l h w' :=
 ⟨l.le_refl,.refl h,fun _ _ e=>.inl e,b.size,b.os,b.tape,b.output,fun k hk _=>b.block k (Nat.lt_of_lt_of_le hk hB)⟩
theorem Sim.below {l:Loc} {h:Hp} {w w':World} {B:Nat} (S:Sim key F l h w) (hB:w.heap.size≤B) (b:RowKit.Below B w w'):Sim key F l h w' :=
 ⟨fun n blk a e1 e2=>(S.holds n blk a e1 e2).move l.le_refl b.size (b.block _ (Nat.lt_of_lt_of_le (S.lt n a e2) hB)),S.apart,fun n a e=>Nat.lt_of_lt_of_le (S.lt n a e) b.size,S.dom,S.wf⟩
theorem zbE {P:Program} {l:Loc} {h:Hp} {w:World} {g:FuncId} {vs:Array Value} {v:AV} {val:Value} (S:Sim key F l h w)
  (c:Calls P g vs w fun e w'=>e=.returned val∧RowKit.Below w.heap.size w w') (r:Rel key l v val) :
  Calls P g vs w fun e w'=>∃l' val,e=.returned val∧Ext l h w l' h w'∧Sim key F l' h w'∧Rel key l' v val :=
 c.mono fun e w' ⟨e1,b⟩=>⟨l,val,e1,.below (Nat.le_refl _) b,S.below (Nat.le_refl _) b,r⟩
theorem zeZ {l:Loc} (bs:List UInt8):Rel key l (.s bs) (.string ⟨bs.toArray⟩):=by
 have:=Rel.s (key:=key) (l:=l) (⟨bs.toArray⟩:ByteArray)
 simpa using this
end Go.Eng
namespace Go.Eng
open Go.Proofs Go.RowKit Go.Shelf
theorem zh1 {v:Nat} (h:v<10):dec v=[UInt8.ofNat (48+v)]:=by
 unfold dec
 split
 ·rename_i h0;subst h0;rfl
 ·rename_i h0
  have hd:dlen v=1:=by
   have h1:dlen v≤1:=zan.2 (by omega)
   have h2:=zbv v
   rcases Nat.eq_zero_or_pos (dlen v) with q|q
   ·rw[q] at h2;simp at h2;omega
   ·omega
  rw[hd]
  show [UInt8.ofNat (48+v/10^0%10)]=_
  rw[Nat.pow_zero,Nat.div_one,Nat.mod_eq_of_lt h]
theorem zgp:∀(n v:Nat),dtx (n+1) v=dtx n (v/10)++[UInt8.ofNat (48+v%10)]
 | 0,v=>by show [UInt8.ofNat (48+v/10^0%10)]=_;rw[Nat.pow_zero,Nat.div_one];rfl
 | n+1,v=>by
  show UInt8.ofNat (48+v/10^(n+1)%10)::dtx (n+1) v=(UInt8.ofNat (48+v/10/10^n%10)::dtx n (v/10))++_
  rw[zgp n v,Nat.div_div_eq_div_mul,←Nat.pow_succ'];rfl
theorem zmc {v:Nat} (h:¬v<10):dec v=dec (v/10)++[UInt8.ofNat (48+v%10)]:=by
 have hd:dlen v=dlen (v/10)+1:=by
  have k:∀m,dlen (v/10)≤m↔dlen v≤m+1:=fun m=>by
   rw[zan,zan,Nat.pow_succ,Nat.div_lt_iff_lt_mul (by decide)]
  have k1:=(k (dlen (v/10))).1 (Nat.le_refl _)
  have k2:0<dlen v:=by
   rcases Nat.eq_zero_or_pos (dlen v) with q|q
   ·have:=zbv v;rw[q] at this;simp at this;omega
   ·exact q
  have k3:=(k (dlen v-1)).2 (by omega)
  omega
 unfold dec
 rw[if_neg (by omega),if_neg (by omega),hd,zgp]
theorem zh0 (v:Nat):Lib.decDigits v=dec v:=by
 induction v using Nat.strongRecOn with
 | _ v ih =>
  rw[Lib.decDigits]
  split
  ·rename_i h;exact(zh1 h).symm
  ·rename_i h
   rw[ih (v/10) (by omega),←zmc h]
theorem zj4 (n:Int):Lib.itoa n=decI n:=by
 unfold Lib.itoa decI
 split
 ·rw[zh0]
 ·rename_i h
  rw[zh0]
  congr 1;omega
theorem zjt (l:List UInt8):∀c,Lib.repeatL l c=(List.replicate c l).flatten
 | 0=>rfl
 | c+1=>by rw[Lib.repeatL,zjt l c,List.replicate_succ,List.flatten_cons]
theorem zmg {c:UInt8} (h:isDig c=true):Lib.digitVal c=some (c.toNat-48):=by
 simp only[isDig,decide_eq_true_eq] at h
 unfold Lib.digitVal
 rw[if_pos h]
theorem zjM:∀(l:List UInt8) (a:Nat),l.all isDig=true→Lib.decFrom a l=some (a*10^l.length+tv l)
 | [],a,_=>by simp[Lib.decFrom,tv]
 | c::l,a,h=>by
  simp only[List.all_cons,Bool.and_eq_true] at h
  unfold Lib.decFrom
  rw[zmg h.1]
  simp only
  rw[zjM l _ h.2]
  congr 1
  show (a*10+(c.toNat-48))*10^l.length+tv l=a*10^(l.length+1)+((c.toNat-48)*10^l.length+tv l)
  rw[Nat.pow_succ];grind
theorem zjW {l:List UInt8} (h0:l≠[]) (h:l.all isDig=true):Lib.atoi l=some (tv l:Int):=by
 cases l with
 | nil=>exact(h0 rfl).elim
 | cons c l =>
  have hc:isDig c=true:=by simp only[List.all_cons,Bool.and_eq_true] at h;exact h.1
  simp only[isDig,decide_eq_true_eq] at hc
  have h45:(c==45)=false:=by
   rw[beq_eq_false_iff_ne];rintro rfl;revert hc;decide
  have h43:(c==43)=false:=by
   rw[beq_eq_false_iff_ne];rintro rfl;revert hc;decide
  simp only[Lib.atoi,h45,h43,Bool.false_eq_true,if_false]
  unfold Lib.decNat
  simp only[List.isEmpty_cons,Bool.false_eq_true,if_false]
  rw[zjM _ _ h]
  simp
theorem zin (c:UInt8):∀l:List UInt8,Lib.indexByte l c=idxB l c
 | []=>rfl
 | b::l=>by unfold Lib.indexByte idxB;rw[zin c l]
structure LibOk (P:Program) (ρ:Ren) (key:Nat→Option FuncId) (T:Tab) (G:Nat):Prop where
 l105:Lays.n105 P ρ
 l171:LaysM.n171 P ρ
 lX:Builder.Extra P ρ
 gname:P.globalNamed "internal/strconv.uint64pow10" = some G
 gkey:T.gkey G=some 0
 k50:key 50=some (ρ.f 171)
 k51:key 51=some (ρ.f 105)
 o130:∀g,key 130=some g→Lays.n160 P ρ∧(P.info? (ρ.t 116)).map (fun i=>(i.zero,i.size))=some (some (.agg (Array.replicate 256 (.bool false))),256)∧g=ρ.f 160
 o131:∀g,key 131=some g→Lays.n172 P ρ∧g=ρ.f 172
 o222:∀g,key 222=some g→Lays.n219 P ρ∧g=ρ.f 219
variable {P:Program} {ρ:Ren} {key:Nat→Option FuncId} {T:Tab} {G:Nat}
theorem zhD {l:Loc} {xs:List UInt8} {v:Value} (h:Rel key l (.s xs) v):∃s:ByteArray,v=.string s∧s.data.toList=xs:=by
 generalize hx:AV.s xs=x at h
 cases h<;>cases hx
 exact⟨_,rfl,rfl⟩
theorem zny {l:Loc} {k:IntKind} {n:Int} {v:Value} (h:Rel key l (.i k n) v):v=.int k n:=by
 cases h;rfl
theorem zg8 {l:Loc} {a:AV} {vs:Array Value} (h:RelL key l [a] vs.toList):∃v,vs = #[v]∧Rel key l a v:=by
 have hl:=h.1
 rcases vs with⟨vs⟩
 match vs,hl with
 | [v],_=>exact⟨v,rfl,h.2 0 (by simp) (by simp)⟩
theorem zeY {l:Loc} {a b:AV} {vs:Array Value} (h:RelL key l [a,b] vs.toList):∃v w,vs = #[v,w]∧Rel key l a v∧Rel key l b w:=by
 have hl:=h.1
 rcases vs with⟨vs⟩
 match vs,hl with
 | [v,w],_=>exact⟨v,w,rfl,h.2 0 (by simp) (by simp),h.2 1 (by simp) (by simp)⟩
theorem mkS {s:ByteArray} {xs:List UInt8} (h:s.data.toList=xs):s=⟨xs.toArray⟩:=by
 rcases s with⟨d⟩
 rw[←h]
theorem zpE (K:LibOk P ρ key T G) {F:Nat} {l:Loc} {h:Hp} {w:World} (TO:TabOk key T l) (S:Sim key F l h w) (t:∃b,h.m 0=some b∧b.v=powT):Lib.TabIs P w "internal/strconv.uint64pow10" .u64 Lib.pow10Tab:=by
 obtain⟨m,hm⟩:=TO.g G 0 K.gkey
 obtain⟨b,b1,b2⟩:=t
 have H:=S.holds 0 b _ b1 hm
 obtain⟨_,_,cs,ty,fz,h3,h4⟩:=H.whole rfl
 unfold Lib.TabIs World.var?
 rw[K.gname]
 simp only[Option.bind_some]
 simp only at h3
 rw[h3]
 simp only[Option.some.injEq]
 have hlen:b.v.length=20:=by rw[b2];rfl
 apply Array.ext_getElem?
 intro i
 by_cases hi:i<20
 ·obtain⟨v,c1,c2⟩:=H.cell i (by omega)
  have hcs:cs[i]?=some v:=by
   have:=c1
   simp only[World.cell?,Nat.zero_add] at this
   rw[h3] at this
   simpa using this
  have hb:b.v[i]'(by omega)=.i .u64 ((10^i:Nat):Int):=by
   simp only[b2,powT]
   rw[List.getElem_map,List.getElem_range]
  rw[hb] at c2
  rw[hcs,zny c2]
  simp[Lib.pow10Tab,hi]
 ·rw[Array.getElem?_eq_none (by omega),Array.getElem?_eq_none (by simp[Lib.pow10Tab];omega)]
theorem zit (K:LibOk P ρ key T G) {f g:Nat} (hk:key f=some g) (hf:f≠33) {F:Nat} {args:List AV} {vs:Array Value} {h h':Hp} {v:AV} {l:Loc} {w:World} (e:orcA f args h=some (v,h')) (TO:TabOk key T l)
  (RL:RelL key l args vs.toList) (S:Sim key F l h w):Calls P g vs w fun e w'=>∃l' val,e=.returned val∧Ext l h w l' h' w'∧Sim key F l' h' w'∧Rel key l' v val:=by
 unfold orcA at e
 rw[if_neg hf] at e
 split at e
 ·cases e
 rename_i ht
 simp only[Option.map_eq_some_iff,Prod.mk.injEq] at e
 obtain⟨v',e1,rfl,rfl⟩:=e
 unfold libA at e1
 split at e1
 ·rename_i n
  split at e1
  ·rename_i hc
   cases e1
   obtain⟨rfl,hn⟩:=hc
   obtain⟨x,rfl,r1⟩:=zg8 RL
   rw[zny r1]
   obtain rfl:=Option.some.inj (K.k50.symm.trans hk)
   have t:∃b,h.m 0=some b∧b.v=powT:=by
    by_cases q:∃b,h.m 0=some b∧b.v=powT
    ·exact q
    ·exact(ht ⟨rfl,q⟩).elim
   refine zbE S (val:=.string ⟨(decI n).toArray⟩) ((Any.strconv_Itoa K.l171 n hn.1 hn.2 w (zpE K TO S t)).mono ?_) (zeZ _)
   rintro e w' ⟨rfl,k,os,rfl⟩
   exact⟨by rw[zj4],Lib.below_grow _ _ (Nat.le_refl _) _ _⟩
  ·cases e1
 ·rename_i xs c
  split at e1
  ·rename_i hc
   cases e1
   obtain⟨rfl,h1,h2,h3⟩:=hc
   obtain⟨x,y,rfl,r1,r2⟩:=zeY RL
   obtain⟨s,rfl,rfl⟩:=zhD r1
   rw[zny r2]
   obtain rfl:=Option.some.inj (K.k51.symm.trans hk)
   obtain⟨c,rfl⟩:∃k:Nat,c=(k:Int):=⟨c.toNat,by omega⟩
   have hsz:s.size≤1000:=by simpa using h3
   have hm:s.size*c≤1000*1000:=Nat.mul_le_mul hsz (by omega)
   refine zbE S (val:=.string ⟨((List.replicate c s.data.toList).flatten).toArray⟩) ((Any.strings_Repeat K.l105 K.lX s c w (by omega) (by omega)).mono ?_) (zeZ _)
   rintro e w' ⟨rfl,hb⟩
   exact⟨by rw[zjt],hb⟩
  ·cases e1
 ·rename_i xs cs
  split at e1
  ·rename_i hc
   cases e1
   obtain⟨rfl,h1,h2,h3⟩:=hc
   obtain⟨x,y,rfl,r1,r2⟩:=zeY RL
   obtain⟨s,rfl,rfl⟩:=zhD r1
   obtain⟨c,rfl,rfl⟩:=zhD r2
   obtain⟨l160,i116,rfl⟩:=K.o130 _ hk
   refine zbE S (val:=.string ⟨(((s.data.toList.reverse.dropWhile (c.data.toList.contains ·)).reverse).dropWhile (c.data.toList.contains ·)).toArray⟩) ((Any.strings_Trim_laid l160 i116 s c w (by simpa using h1) (by simpa using h2) (ascii_of_all h3)).mono ?_) (zeZ _)
   rintro e w' ⟨rfl,hb⟩
   exact⟨rfl,hb⟩
  ·split at e1
   ·rename_i hf
    subst hf
    split at e1
    ·rename_i c hh
     cases e1
     obtain⟨x,y,rfl,r1,r2⟩:=zeY RL
     obtain⟨s,rfl,rfl⟩:=zhD r1
     obtain⟨z,rfl,hz⟩:=zhD r2
     obtain⟨l219,rfl⟩:=K.o222 _ hk
     have ez:z=⟨#[c]⟩:=mkS hz
     subst ez
     refine zbE S (val:=.int .i64 (idxB s.data.toList c)) ((Any.stringslite_Index_one l219 s c w).mono ?_) (.i _ _)
     rintro e w' ⟨rfl,rfl⟩
     exact⟨by rw[zin],.refl _ _⟩
    ·cases e1
   ·cases e1
 ·rename_i xs
  split at e1
  ·rename_i hc
   cases e1
   obtain⟨rfl,h1,h2,h3⟩:=hc
   obtain⟨x,rfl,r1⟩:=zg8 RL
   obtain⟨s,rfl,rfl⟩:=zhD r1
   obtain⟨l172,rfl⟩:=K.o131 _ hk
   refine zbE S (val:=.tuple #[.int .i64 (tv s.data.toList:Nat),.nilIface]) ((Any.strconv_Atoi l172 s _ (by simpa using h2) (zjW h1 h3) w).mono ?_) ?_
   ·rintro e w' ⟨rfl,t,rfl⟩
    exact⟨rfl,Go.Joins.below_bytesWorld _ _ _ _ (Nat.le_refl _)⟩
   ·exact RelL.tu (.cons (.i _ _) (.cons .inil .nil))
  ·cases e1
 ·cases e1
end Go.Eng
namespace Go.Eng
variable {key:Nat→Option FuncId} {P:Program} {T:Tab} {call:Nat→List AV→Hp→Option (AV×Hp)} {F:Nat}
def graft:Code→Code→Code
 | .seq x y,r=>.seq x (graft y r)
 | c,r=>.seq c r
theorem zim (G:GoodCall call) (HC:Callable P key) (CS:CallSound P key T call) (hm:P.follows .mixedOrders=true) (lf:Nat) (c r:Code) (hg:graft c r=.seq c r) (hr:(cCode P T c).regsOk=true)
  {Q:Exit→Act→World→Prop} {l:Loc} {fr fr':Fr} {a:Act} {h h':Hp} {w:World} {out:Out} (TO:TabOk key T l) (R:RelF key l fr a.tmps) (S:Sim key F l h w) (hF:h'.next≤F)
  (he:evCode call lf (cCode P T c) fr h=some (out,fr',h'))
  (cont:∀l' a' w',Ext l h w l' h' w'→RelF key l' fr' a'.tmps→Sim key F l' h' w'→a'.defers=a.defers→Exit.then (r.wp P Q) Q out.toExit a' w'):(graft c r).wp P Q a w:=by
 rw[hg]
 exact wp_seq (zdD G HC CS lf c (zcD G HC CS hm c hr) TO R S hF he cont)
theorem zgy (G:GoodCall call) (HC:Callable P key) (CS:CallSound P key T call) (hm:P.follows .mixedOrders=true) (lf:Nat) (r:Code):∀(c:Code),(cCode P T c).regsOk=true →
  ∀{Q:Exit→Act→World→Prop} {l:Loc} {fr fr':Fr} {a:Act} {h h':Hp} {w:World} {out:Out},TabOk key T l→RelF key l fr a.tmps→Sim key F l h w→h'.next≤F →
  evCode call lf (cCode P T c) fr h=some (out,fr',h') →
  (∀l' a' w',Ext l h w l' h' w'→RelF key l' fr' a'.tmps→Sim key F l' h' w'→a'.defers=a.defers→Exit.then (r.wp P Q) Q out.toExit a' w')→(graft c r).wp P Q a w:=by
 intro c
 induction c with
 | seq x y _ ihy =>
  intro hr Q l fr fr' a h h' w out TO R S hF he cont
  simp only[cCode,XC.regsOk,Bool.and_eq_true] at hr
  simp only[cCode,evCode] at he
  show (Code.seq x (graft y r)).wp P Q a w
  cases h1:evCode call lf (cCode P T x) fr h with
  | none=>rw[h1] at he;cases he
  | some q =>
   obtain⟨o1,fr1,h1'⟩:=q
   rw[h1] at he
   have good1:=zbj G lf _ h1
   cases o1 with
   | normal =>
    simp only at he
    have good2:=zbj G lf _ he
    have hF1:h1'.next≤F:=Nat.le_trans good2.le.next hF
    refine wp_seq (zdD G HC CS lf x (zcD G HC CS hm x hr.1) TO R S hF1 h1 fun l1 a1 w1 E1 R1 S1 d1=>?_)
    exact ihy hr.2 (TO.mono E1.le) R1 S1 hF he fun l2 a2 w2 E2 R2 S2 d2=>cont l2 a2 w2 (.trans (S.hd S1.wf hF1) E1 E2) R2 S2 (d2.trans d1)
   | exit i =>
    cases he
    exact wp_seq (zdD G HC CS lf x (zcD G HC CS hm x hr.1) TO R S hF h1 fun l1 a1 w1 E1 R1 S1 d1=>cont l1 a1 w1 E1 R1 S1 d1)
   | ret =>
    cases he
    exact wp_seq (zdD G HC CS lf x (zcD G HC CS hm x hr.1) TO R S hF h1 fun l1 a1 w1 E1 R1 S1 d1=>cont l1 a1 w1 E1 R1 S1 d1)
 | _=>exact fun hr _ _ _ _ _ _ _ _ _ TO R S hF he cont=>zim G HC CS hm lf _ r rfl hr TO R S hF he cont
theorem zab {n:Nat} {l:List Value} (h:l.length=n+1):∃t l2,l=t::l2∧l2.length=n:=by
 cases l with
 | nil=>simp at h
 | cons t l=>exact⟨t,l,rfl,by simpa using h⟩
theorem zqB (tm:Array Value) (h:tm.size=58):∃t0 t1 t2 t3 t4 t5 t6 t7 t8 t9 t10 t11 t12 t13 t14 t15 t16 t17 t18 t19 t20 t21 t22 t23 t24 t25 t26 t27 t28 t29 t30 t31 t32 t33 t34 t35 t36 t37 t38 t39 t40 t41 t42 t43 t44 t45 t46 t47 t48 t49 t50 t51 t52 t53 t54 t55 t56 t57,tm = #[t0,t1,t2,t3,t4,t5,t6,t7,t8,t9,t10,t11,t12,t13,t14,t15,t16,t17,t18,t19,t20,t21,t22,t23,t24,t25,t26,t27,t28,t29,t30,t31,t32,t33,t34,t35,t36,t37,t38,t39,t40,t41,t42,t43,t44,t45,t46,t47,t48,t49,t50,t51,t52,t53,t54,t55,t56,t57]:=by
 rcases tm with⟨l⟩
 have h:l.length=58:=h
 obtain⟨t0,l0,rfl,h0⟩:=zab h
 obtain⟨t1,l1,rfl,h1⟩:=zab h0
 obtain⟨t2,l2,rfl,h2⟩:=zab h1
 obtain⟨t3,l3,rfl,h3⟩:=zab h2
 obtain⟨t4,l4,rfl,h4⟩:=zab h3
 obtain⟨t5,l5,rfl,h5⟩:=zab h4
 obtain⟨t6,l6,rfl,h6⟩:=zab h5
 obtain⟨t7,l7,rfl,h7⟩:=zab h6
 obtain⟨t8,l8,rfl,h8⟩:=zab h7
 obtain⟨t9,l9,rfl,h9⟩:=zab h8
 obtain⟨t10,l10,rfl,h10⟩:=zab h9
 obtain⟨t11,l11,rfl,h11⟩:=zab h10
 obtain⟨t12,l12,rfl,h12⟩:=zab h11
 obtain⟨t13,l13,rfl,h13⟩:=zab h12
 obtain⟨t14,l14,rfl,h14⟩:=zab h13
 obtain⟨t15,l15,rfl,h15⟩:=zab h14
 obtain⟨t16,l16,rfl,h16⟩:=zab h15
 obtain⟨t17,l17,rfl,h17⟩:=zab h16
 obtain⟨t18,l18,rfl,h18⟩:=zab h17
 obtain⟨t19,l19,rfl,h19⟩:=zab h18
 obtain⟨t20,l20,rfl,h20⟩:=zab h19
 obtain⟨t21,l21,rfl,h21⟩:=zab h20
 obtain⟨t22,l22,rfl,h22⟩:=zab h21
 obtain⟨t23,l23,rfl,h23⟩:=zab h22
 obtain⟨t24,l24,rfl,h24⟩:=zab h23
 obtain⟨t25,l25,rfl,h25⟩:=zab h24
 obtain⟨t26,l26,rfl,h26⟩:=zab h25
 obtain⟨t27,l27,rfl,h27⟩:=zab h26
 obtain⟨t28,l28,rfl,h28⟩:=zab h27
 obtain⟨t29,l29,rfl,h29⟩:=zab h28
 obtain⟨t30,l30,rfl,h30⟩:=zab h29
 obtain⟨t31,l31,rfl,h31⟩:=zab h30
 obtain⟨t32,l32,rfl,h32⟩:=zab h31
 obtain⟨t33,l33,rfl,h33⟩:=zab h32
 obtain⟨t34,l34,rfl,h34⟩:=zab h33
 obtain⟨t35,l35,rfl,h35⟩:=zab h34
 obtain⟨t36,l36,rfl,h36⟩:=zab h35
 obtain⟨t37,l37,rfl,h37⟩:=zab h36
 obtain⟨t38,l38,rfl,h38⟩:=zab h37
 obtain⟨t39,l39,rfl,h39⟩:=zab h38
 obtain⟨t40,l40,rfl,h40⟩:=zab h39
 obtain⟨t41,l41,rfl,h41⟩:=zab h40
 obtain⟨t42,l42,rfl,h42⟩:=zab h41
 obtain⟨t43,l43,rfl,h43⟩:=zab h42
 obtain⟨t44,l44,rfl,h44⟩:=zab h43
 obtain⟨t45,l45,rfl,h45⟩:=zab h44
 obtain⟨t46,l46,rfl,h46⟩:=zab h45
 obtain⟨t47,l47,rfl,h47⟩:=zab h46
 obtain⟨t48,l48,rfl,h48⟩:=zab h47
 obtain⟨t49,l49,rfl,h49⟩:=zab h48
 obtain⟨t50,l50,rfl,h50⟩:=zab h49
 obtain⟨t51,l51,rfl,h51⟩:=zab h50
 obtain⟨t52,l52,rfl,h52⟩:=zab h51
 obtain⟨t53,l53,rfl,h53⟩:=zab h52
 obtain⟨t54,l54,rfl,h54⟩:=zab h53
 obtain⟨t55,l55,rfl,h55⟩:=zab h54
 obtain⟨t56,l56,rfl,h56⟩:=zab h55
 obtain⟨t57,l57,rfl,h57⟩:=zab h56
 obtain rfl:=List.eq_nil_of_length_eq_zero h57
 exact⟨t0,t1,t2,t3,t4,t5,t6,t7,t8,t9,t10,t11,t12,t13,t14,t15,t16,t17,t18,t19,t20,t21,t22,t23,t24,t25,t26,t27,t28,t29,t30,t31,t32,t33,t34,t35,t36,t37,t38,t39,t40,t41,t42,t43,t44,t45,t46,t47,t48,t49,t50,t51,t52,t53,t54,t55,t56,t57,rfl⟩
end Go.Eng
namespace Go.Proofs
open Go.Eng Go.RowKit Go.Shelf
noncomputable def Tryz.strPre:Code:=match Tryz.f75.body with|some (.seq a (.seq b (.seq c (.seq d (.seq e _)))))=>.seq a (.seq b (.seq c (.seq d e)))|_=>.skip
noncomputable def Tryz.strTail:Code:=match Tryz.f75.body with|some (.seq _ (.seq _ (.seq _ (.seq _ (.seq _ r)))))=>r|_=>.skip
theorem Tryz.hidS {p:Prop} (h:p):Hid p:=h
set_option maxHeartbeats 4000000 in
set_option maxRecDepth 100000 in
theorem Tryz.str_tail (neg:Bool) (ps:List (List UInt8)) (hne:ps.reverse.flatten≠[]) (hlen:ps.length≤20000) (htot:ps.flatten.length≤1000000)
  (b1 o1 b3 o3 c:Nat) (w:World) (hneg:w.cell? ⟨b1,o1,none⟩=some (.bool neg)) (hb1:b1<w.heap.size) (hb3:b3<w.heap.size)
  (hcells:∀j x,ps[j]?=some x→w.cell? ⟨b3,o3+j,none⟩=some (.string ⟨x.toArray⟩))
  (tm:Array Value) (hsz:tm.size=58) (h1:tm[1]?=some (.pointer (some ⟨b1,o1,none⟩))) (h3:tm[3]?=some (.slice (some ⟨b3,o3,none⟩) ps.length c)) :
  Tryz.strTail.wp Tryz.prog (fun e a w'=>e=.ret∧a.defers=[]∧a.tmps.getD 2 undef=.string ⟨((if neg then [45] else [])++ps.reverse.flatten).toArray⟩∧Below w.heap.size w w') ⟨tm,[]⟩ w:=by
 have HC:=Tryz.hidS hcells
 clear hcells
 obtain⟨t0,t1,t2,t3,t4,t5,t6,t7,t8,t9,t10,t11,t12,t13,t14,t15,t16,t17,t18,t19,t20,t21,t22,t23,t24,t25,t26,t27,t28,t29,t30,t31,t32,t33,t34,t35,t36,t37,t38,t39,t40,t41,t42,t43,t44,t45,t46,t47,t48,t49,t50,t51,t52,t53,t54,t55,t56,t57,rfl⟩:=zqB tm hsz
 simp only[List.getElem?_toArray,List.getElem?_cons_succ,List.getElem?_cons_zero,Option.some.injEq] at h1 h3
 subst h1
 subst h3
 clear hsz
 unfold Tryz.strTail
 simp only[Tryz.f75]
 have hF:Lib.IsBuilder 151 5 w.heap.size w.heap.size [] (w.alloc (.cells #[.pointer none,.slice none 0 0] 151)):=Lib.fresh_isBuilder 151 5 w
 have hB0:Below w.heap.size w (w.alloc (.cells #[.pointer none,.slice none 0 0] 151)):=(Below.refl w.heap.size w).alloc (Nat.le_refl _) _
 have HF:=Tryz.hidS hF
 have HB0:=Tryz.hidS hB0
 clear hF hB0
 obtain⟨pre,hpre⟩:∃pre:List UInt8,pre=if neg then [45] else []:=⟨_,rfl⟩
 have hprel:pre.length≤1:=by rw[hpre];split<;>simp
 rw[←hpre]
 have tail:∀(k:Nat),((ps.drop k).reverse.flatten).length≤1000000:=fun k=>by
  have e:=congrArg (fun l=>(List.flatten l).length) (List.take_append_drop k ps)
  simp only[List.flatten_append,List.length_append] at e
  have e2:((ps.drop k).reverse.flatten).length=((ps.drop k).flatten).length:=by
   simp only[List.length_flatten,List.map_reverse,List.sum_reverse]
  omega
 have HT:=Tryz.hidS tail
 clear tail
 cases neg
 case' false =>
  have e0:pre=[]:=by simpa using hpre
  have H1:=Tryz.hidS (show Lib.IsBuilder 151 5 w.heap.size w.heap.size (Lib.byteCells pre) (w.alloc (.cells #[.pointer none,.slice none 0 0] 151)) by rw[e0];exact HF.out)
  have HB1:=HB0
  go_wp2_with fail
 case' true =>
  have e0:pre=[45]:=by simpa using hpre
  go_wp2_with fail
  refine(Any.Builder_WriteByte Tryz.l167 Tryz.lX w.heap.size w.heap.size [] 45 _ HF.out (by simp) (by simp)).mono ?_
  rintro e w2 ⟨rfl,h2,hb2⟩
  have H1:=Tryz.hidS (show Lib.IsBuilder 151 5 w.heap.size w.heap.size (Lib.byteCells pre) w2 by rw[e0];exact Or.inr h2)
  have HB1:=Tryz.hidS (HB0.out.trans hb2)
  clear h2 hb2
  go_wp2_with fail
 all_goals (
  go_loopw [9] (fun i wr=>∃k:Nat,k≤ps.length∧i=.int .i64 ((k:Int)-1)∧Hid (Lib.IsBuilder 151 5 w.heap.size w.heap.size (Lib.byteCells (pre++(ps.drop k).reverse.flatten)) wr)∧Hid (Below w.heap.size w wr)) (fun i _=>(intOf i+1).toNat)
  case atStart=>exact⟨ps.length,Nat.le_refl _,rfl,by rw[List.drop_length];simpa using H1,HB1⟩
  case round =>
   obtain⟨k,hk,rfl,HB,HW⟩:=hrel
   by_cases hk0:k=0
   ·subst hk0
    have hd:(ps.drop 0)=ps:=List.drop_zero
    rw[hd] at HB
    go_wp2_with fail
    refine(Any.Builder_String { Tryz.l105 with } Tryz.lX w.heap.size w.heap.size (pre++ps.reverse.flatten) wr HB.out (fun q=>hne (List.append_eq_nil_iff.1 q).2)).mono ?_
    rintro e w3 ⟨rfl,hb3'⟩
    go_wp2_with fail
    exact HW.out.trans hb3'
   ·obtain⟨m,rfl⟩:∃m,k=m+1:=⟨k-1,by omega⟩
    have hm:m<ps.length:=by omega
    obtain⟨x,hx⟩:∃x,ps[m]?=some x:=⟨ps[m],List.getElem?_eq_getElem hm⟩
    have hc:=HC.out m x hx
    rw[←HW.out.cell (p:=⟨b3,o3+m,none⟩) hb3] at hc
    have hdrop:(ps.drop m).reverse.flatten=(ps.drop (m+1)).reverse.flatten++x:=by
     have e:ps.drop m=x::ps.drop (m+1):=by
      have:=List.drop_eq_getElem_cons hm
      rw[List.getElem?_eq_getElem hm] at hx
      cases hx;exact this
     rw[e];simp
    have hl:=HT.out m
    rw[hdrop,List.length_append] at hl
    have Hd:=Tryz.hidS hdrop
    have hBw:w.heap.size≤wr.heap.size:=HW.out.size
    have i1:((m+1:Nat):Int)-1=(m:Int):=by omega
    rw[i1]
    clear hdrop hx
    have hxs:(⟨x.toArray⟩:ByteArray).size=x.length:=rfl
    go_wp2_with fail
    refine(Any.Builder_WriteString { Tryz.l105 with } Tryz.lX w.heap.size w.heap.size _ ⟨x.toArray⟩ wr HB.out (by rw[Lib.byteCells_length,List.length_append,hxs];omega) hBw).mono ?_
    rintro e w2' ⟨rfl,h2',hb2'⟩
    have H2:=Tryz.hidS (show Lib.IsBuilder 151 5 w.heap.size w.heap.size (Lib.byteCells (pre++(ps.drop m).reverse.flatten)) w2' by
     rw[Hd.out,←List.append_assoc,Lib.byteCells_append]
     rw[Lib.strCells_eq] at h2'
     exact Or.inr h2')
    have Hb2:=Tryz.hidS (HW.out.trans hb2')
    clear h2' hb2'
    go_wp2_with fail
    exact⟨⟨m,by omega,rfl,H2,Hb2⟩,by simp[intOf]⟩)
end Go.Proofs
