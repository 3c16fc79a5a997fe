/- The engine and the contracts on which the statement stands: no conditions of its own. -/
import Derived.Test.YtingcbfigicjeaaGreatDoorMine2
import Derived.Below
import Derived.Shelf.Strings.Repeat
import Derived.Shelf.Strings.Builder1
import Derived.Shelf.Strings.SlTrimAscii
import Derived.Shelf.Strings.Search2
import Derived.Shelf.Strconv.Atoi
import Derived.Shelf.Strconv.Itoa3
import Derived.Lib.AppendIntMem
import Derived.Lib.SmallJoins
import Derived.Lib.Case
import Derived.Lib.Join
import Derived.BigCall
import Derived.BigGuard
import Derived.KernelRfl
import Derived.Lib.LaidTab
import Derived.ProofKit
import Derived.OpenShut
set_option linter.unusedSimpArgs false
set_option linter.unusedVariables false
set_option linter.unusedSectionVars false
namespace Go.Eng
theorem zbr {x:Int} (h:0≤x):binP .shr (.i .u64 x) (.i .u64 63)=some (.i .u64 (x/9223372036854775808)):=by
 rw[zfm _ _ _ _ (by omega),show min (63:Int).toNat (IntKind.bits .u64)=63 by decide,Int.fdiv_eq_ediv_of_nonneg _ (by omega)]
 rfl
theorem zf6 {L X j k:Nat} (hL:L<4294967296^j):dgt (L+4294967296^j*X) k=if j≤k then dgt X (k-j) else dgt L k:=by
 split
 ·rename_i h
  rw[zae,zae,show (4294967296:Nat)^k=4294967296^j*4294967296^(k-j) by rw[←Nat.pow_add];congr 1;omega,←Nat.div_div_eq_div_mul,Nat.add_mul_div_left _ _ (zbq j),Nat.div_eq_of_lt hL,Nat.zero_add]
 ·rename_i h
  rw[zae,zae,show (4294967296:Nat)^j=4294967296^k*(4294967296*4294967296^(j-k-1)) by rw[←Nat.pow_succ',←Nat.pow_add];congr 1;omega,Nat.mul_assoc,Nat.add_mul_div_left _ _ (zbq k),Nat.mul_assoc,Nat.add_mul_mod_self_left]
theorem za6 {U j i:Nat}:dgt U (j+i)=dgt (U/4294967296^j) i:=by
 rw[zae,zae,Nat.pow_add,←Nat.div_div_eq_div_mul]
theorem zk9 {U j k:Nat} (h:k<j):dgt (U%4294967296^j) k=dgt U k:=by
 have:=zf6 (L:=U%4294967296^j) (X:=U/4294967296^j) (j:=j) (k:=k) (Nat.mod_lt _ (zbq j))
 rw[Nat.mod_add_div,if_neg (by omega)] at this
 exact this.symm
theorem zhy {X n i b:Nat} (h:i<n):dgt (X+4294967296^n*b) i=dgt X i:=by
 rw[zae,zae,show (4294967296:Nat)^n=4294967296^i*(4294967296*4294967296^(n-i-1)) by rw[←Nat.pow_succ',←Nat.pow_add];congr 1;omega,Nat.mul_assoc,Nat.add_mul_div_left _ _ (zbq i),Nat.mul_assoc,Nat.add_mul_mod_self_left]
set_option maxHeartbeats 2000000 in
theorem ziT {F:PFin} {ks:List KI} {n N U v q j X' bo e0 cap cv:Nat} {b1:Nat} {rest:PM} (hn:n<1073741824) (hj:j+(n+1)≤N) (hN:N<1073741824) (hv:v<4294967296^n) (hq:q<4294967296) (hbo:bo≤1)
  (hX:U/4294967296^j+4294967296^(n+1)*bo=X'+q*v) {fr:PFr} {M:PM} (h0:fr 0=.sl 0 j (n+1) cap 1) (h1:fr 1=.sl 1 0 n cv 1) (h2:fr 2=.i .u64 (q:Int)) (h7:fr 7=.i .u64 0) (h8:fr 8=.i .u64 0) (h13:fr 13=.i .i64 ((n+1:Nat):Int)) (h14:fr 14=.i .i64 0)
  (hM:M=some ⟨tab N fun k=>(PV.i .u32 ((dgt U k:Nat):Int)),true,e0⟩::some ⟨tab (n+1) fun k=>(PV.i .u32 ((dgt v k:Nat):Int)),true,b1⟩::rest)
  (cont:∀fr' e (c:Nat),fr' 8=.i .u64 (c:Int)→c≤1→X'%4294967296^(n+1)+(q*v)%4294967296^(n+1)=(U/4294967296^j+4294967296^(n+1)*bo)%4294967296^(n+1)+4294967296^(n+1)*c →
   UK E0 F (.exit 0) ks fr' (some ⟨tab N fun k=>(PV.i .u32 ((if j≤k∧k<j+(n+1) then dgt X' (k-j) else dgt U k:Nat):Int)),true,e⟩::some ⟨tab (n+1) fun k=>(PV.i .u32 ((dgt v k:Nat):Int)),true,b1⟩::rest)):WK E0 F (.loop zuz) ks fr M:=by
 refine zag zuz.eq_1 (fun(i:Nat) fr M=>i≤n+1∧fr 0=.sl 0 j (n+1) cap 1∧fr 1=.sl 1 0 n cv 1∧fr 2=.i .u64 (q:Int)∧fr 13=.i .i64 ((n+1:Nat):Int)∧fr 14=.i .i64 (i:Int) ∧
  ∃cy c e:Nat,fr 7=.i .u64 (cy:Int)∧fr 8=.i .u64 (c:Int)∧M=some ⟨tab N fun k=>(PV.i .u32 ((if j≤k∧k<j+i then dgt X' (k-j) else dgt U k:Nat):Int)),true,e⟩::some ⟨tab (n+1) fun k=>(PV.i .u32 ((dgt v k:Nat):Int)),true,b1⟩::rest∧cy<4294967296∧c≤1 ∧
   q*(v%4294967296^i)=(q*v)%4294967296^i+4294967296^i*cy∧X'%4294967296^i+(q*v)%4294967296^i=(U/4294967296^j+4294967296^(n+1)*bo)%4294967296^i+4294967296^i*c)
  (fun i=>n+1-i) ?_ 0 ⟨Nat.zero_le _,h0,h1,h2,h13,h14,0,0,e0,h7,h8,?_,by decide,by decide,by simp[Nat.mod_one],by simp[Nat.mod_one]⟩
 ·rintro i fr M ⟨hi,h0,h1,h2,h13,h14,cy,c,e,h7,h8,rfl,hcy,hc,hinv1,hinv2⟩ ih
  by_cases hin:i<n+1
  ·have hc0:((i:Int)<((n+1:Nat):Int))=True:=by simp;omega
   have i1:((i:Int)+1)=((i+1:Nat):Int):=by omega
   have hdv:=zam v i
   have hdx:=zam X' i
   have hdu:=zam U (j+i)
   have hdA:dgt (U/4294967296^j+4294967296^(n+1)*bo) i=dgt U (j+i):=by rw[zhy hin,za6]
   have hji:j+i<N:=by omega
   have hget:(tab N fun k=>(PV.i .u32 ((if j≤k∧k<j+i then dgt X' (k-j) else dgt U k:Nat):Int)))[j+i]?=some (PV.i .u32 ((dgt U (j+i):Nat):Int)):=by rw[zaR hji,if_neg (by omega)]
   have hmul:q*dgt v i≤4294967295*4294967295:=Nat.mul_le_mul (by omega) (by omega)
   obtain⟨k1,k2⟩:=zfq (P:=4294967296^i) (T:=q*(v%4294967296^i)) (s:=q*v) (c:=cy) (d:=q*dgt v i) (r:=q*(v/(4294967296^i*4294967296))) (zbq i) hinv1 (by
    have:=zbH v i
    generalize v/(4294967296^i*4294967296)=z at *
    generalize v%4294967296^i=r at *
    generalize 4294967296^i=p at *
    generalize dgt v i=d at *
    subst this
    grind)
   have k1':dgt (q*v) i=(cy+q*dgt v i)%4294967296:=by rw[zae (q*v)];exact k1
   obtain⟨k3,k4⟩:=zfq (P:=4294967296^i) (T:=X'%4294967296^i+(q*v)%4294967296^i) (s:=U/4294967296^j+4294967296^(n+1)*bo) (c:=c) (d:=dgt X' i+dgt (q*v) i) (r:=X'/(4294967296^i*4294967296)+q*v/(4294967296^i*4294967296)) (zbq i) hinv2 (by
    rw[hX]
    have h1:=zbH X' i
    have h2:=zbH (q*v) i
    rw[Nat.mul_add,Nat.mul_add];omega)
   rw[←zae,hdA,k1'] at k3
   have fin:∀(t:Int) fr',t=(dgt X' i:Int)→fr' 0=.sl 0 j (n+1) cap 1→fr' 1=.sl 1 0 n cv 1→fr' 2=.i .u64 (q:Int)→fr' 13=.i .i64 ((n+1:Nat):Int)→fr' 14=.i .i64 ((i+1:Nat):Int)→fr' 7=.i .u64 (((cy+q*dgt v i)/4294967296:Nat):Int)→fr' 8=.i .u64 (((c+(dgt X' i+(cy+q*dgt v i)%4294967296))/4294967296:Nat):Int) →
     WK E0 F (.loop zuz) ks fr' (some ⟨tab N fun k=>if k=j+i then .i .u32 t else (PV.i .u32 ((if j≤k∧k<j+i then dgt X' (k-j) else dgt U k:Nat):Int)),true,e+1⟩::some ⟨tab (n+1) fun k=>(PV.i .u32 ((dgt v k:Nat):Int)),true,b1⟩::rest):=by
    intro t fr' ht g0 g1 g2 g13 g14 g7 g8
    refine ih (i+1) _ _ (by omega) ⟨by omega,g0,g1,g2,g13,g14,_,_,e+1,g7,g8,?_,by omega,by omega,?_,?_⟩
    ·congr 3
     refine zaf fun k hk=>?_
     by_cases hki:k=j+i
     ·subst hki
      rw[if_pos rfl,if_pos (by omega),ht,show j+i-j=i by omega]
     ·rw[if_neg hki]
      congr 2
      by_cases h:j≤k∧k<j+i
      ·rw[if_pos h,if_pos (by omega)]
      ·rw[if_neg h,if_neg (by omega)]
    ·rw[Nat.pow_succ,←k2,←Nat.pow_succ,zaq];grind
    ·rw[k1'] at k4
     rw[Nat.pow_succ,←k4,←Nat.pow_succ,zaq X',zaq (q*v),k1',Nat.mul_add];omega
   have hpl:(cy+q*dgt v i)%4294967296<4294967296:=Nat.mod_lt _ (by decide)
   have p64:cy+q*dgt v i<18446744073709551616:=by omega
   have wneg:∀x:Int,-1≤x→x<0→IntKind.wrap .u64 x=18446744073709551615:=fun x h1 h2=>by rw[zdE];omega
   have wneg2:∀x:Int,-4294967296≤x→x<0→IntKind.wrap .u64 x=18446744073709551616+x:=fun x h1 h2=>by rw[zdE];omega
   by_cases him:i<n
   ·have hc1:((i:Int)<(n:Int))=True:=by simp;omega
    have hgv:(tab (n+1) fun k=>(PV.i .u32 ((dgt v k:Nat):Int)))[i]?=some (PV.i .u32 ((dgt v i:Nat):Int)):=zaR (by omega)
    have hww:((cy:Int)+(q:Int)*(dgt v i:Int))=((cy+q*dgt v i:Nat):Int):=by simp
    have hqq:IntKind.wrap .u64 ((q:Int)*(dgt v i:Int))=(q:Int)*(dgt v i:Int):=by
     have:((q:Int)*(dgt v i:Int))=((q*dgt v i:Nat):Int):=by simp
     rw[this,wqb (by omega) (by omega)]
    generalize hp:cy+q*dgt v i=p at *
    by_cases hle:p%4294967296+c≤dgt U (j+i)
    ·simp(disch:=omega)only[go_sem,seval,wqq,h0,h1,h2,h7,h8,h13,h14,hc0,hc1,i1,hget,hgv,him,hin,hqq,hww,za4,hji,zao,zbr]
     exact fin _ _ (by omega) (by simp only[go_sem,seval,h0]) (by simp only[go_sem,seval,h1]) (by simp only[go_sem,seval,h2]) (by simp only[go_sem,seval,h13]) (by simp only[go_sem,seval]) (by simp only[go_sem,seval]) (by simp only[go_sem,seval];congr 1;omega)
    ·by_cases hle2:p%4294967296≤dgt U (j+i)
     ·simp(disch:=omega)only[go_sem,seval,wqq,h0,h1,h2,h7,h8,h13,h14,hc0,hc1,i1,hget,hgv,him,hin,hqq,hww,za4,hji,zao,zbr,wneg,zdD]
      exact fin _ _ (by omega) (by simp only[go_sem,seval,h0]) (by simp only[go_sem,seval,h1]) (by simp only[go_sem,seval,h2]) (by simp only[go_sem,seval,h13]) (by simp only[go_sem,seval]) (by simp only[go_sem,seval]) (by simp only[go_sem,seval];congr 1;omega)
     ·simp(disch:=omega)only[go_sem,seval,wqq,h0,h1,h2,h7,h8,h13,h14,hc0,hc1,i1,hget,hgv,him,hin,hqq,hww,za4,hji,zao,zbr,wneg2,zdD]
      exact fin _ _ (by omega) (by simp only[go_sem,seval,h0]) (by simp only[go_sem,seval,h1]) (by simp only[go_sem,seval,h2]) (by simp only[go_sem,seval,h13]) (by simp only[go_sem,seval]) (by simp only[go_sem,seval]) (by simp only[go_sem,seval];congr 1;omega)
   ·have hc1:((i:Int)<(n:Int))=False:=by simp;omega
    have hz:dgt v i=0:=zbn hv (by omega)
    simp only[hz,Nat.mul_zero,Nat.add_zero] at fin k3 hpl p64
    by_cases hle:cy%4294967296+c≤dgt U (j+i)
    ·simp(disch:=omega)only[go_sem,seval,wqq,h0,h1,h2,h7,h8,h13,h14,hc0,hc1,i1,hget,hin,za4,hji,zao,zbr]
     exact fin _ _ (by omega) (by simp only[go_sem,seval,h0]) (by simp only[go_sem,seval,h1]) (by simp only[go_sem,seval,h2]) (by simp only[go_sem,seval,h13]) (by simp only[go_sem,seval]) (by simp only[go_sem,seval]) (by simp only[go_sem,seval];congr 1;omega)
    ·by_cases hle2:cy%4294967296≤dgt U (j+i)
     ·simp(disch:=omega)only[go_sem,seval,wqq,h0,h1,h2,h7,h8,h13,h14,hc0,hc1,i1,hget,hin,za4,hji,zao,zbr,wneg,zdD]
      exact fin _ _ (by omega) (by simp only[go_sem,seval,h0]) (by simp only[go_sem,seval,h1]) (by simp only[go_sem,seval,h2]) (by simp only[go_sem,seval,h13]) (by simp only[go_sem,seval]) (by simp only[go_sem,seval]) (by simp only[go_sem,seval];congr 1;omega)
     ·simp(disch:=omega)only[go_sem,seval,wqq,h0,h1,h2,h7,h8,h13,h14,hc0,hc1,i1,hget,hin,za4,hji,zao,zbr,wneg2,zdD]
      exact fin _ _ (by omega) (by simp only[go_sem,seval,h0]) (by simp only[go_sem,seval,h1]) (by simp only[go_sem,seval,h2]) (by simp only[go_sem,seval,h13]) (by simp only[go_sem,seval]) (by simp only[go_sem,seval]) (by simp only[go_sem,seval];congr 1;omega)
  ·have hc0:((i:Int)<((n+1:Nat):Int))=False:=by simp;omega
   obtain rfl:i=n+1:=by omega
   simp only[go_sem,seval,h13,h14,hc0]
   exact cont _ e c (by simp only[go_sem,seval,h8]) hc hinv2
 ·rw[hM]
  congr 3
  refine zaf fun k hk=>?_
  rw[if_neg (by omega)]
end Go.Eng
namespace Go.Eng
theorem zgm {N n j U X':Nat} (hU:U<4294967296^(j+(n+1))) (hX:X'<4294967296^(n+1)):(tab N fun k=>(PV.i .u32 ((if j≤k∧k<j+(n+1) then dgt X' (k-j) else dgt U k:Nat):Int)))=tab N fun k=>(PV.i .u32 ((dgt (U%4294967296^j+4294967296^j*X') k:Nat):Int)):=by
 refine zaf fun k hk=>?_
 congr 2
 rw[zf6 (Nat.mod_lt _ (zbq j))]
 by_cases h1:j≤k
 ·rw[if_pos h1]
  by_cases h2:k<j+(n+1)
  ·rw[if_pos ⟨h1,h2⟩]
  ·rw[if_neg (by omega),zbn hU (by omega),zbn hX (by omega)]
 ·rw[if_neg (by omega),if_neg h1,zk9 (by omega)]
theorem zkH {n N U v q j X' bo e0 cap cv b1:Nat} {rest:PM} (hn:n<1073741824) (hj:j+(n+1)≤N) (hN:N<1073741824) (hv:v<4294967296^n) (hq:q<4294967296) (hbo:bo≤1)
  (hU:U<4294967296^(j+(n+1))) (hX':X'<4294967296^(n+1)) (hX:U/4294967296^j+4294967296^(n+1)*bo=X'+q*v) :
  ∃e,pcl E0 57 [.sl 0 j (n+1) cap 1,.sl 1 0 n cv 1,.i .u64 (q:Int)] (some ⟨tab N fun k=>(PV.i .u32 ((dgt U k:Nat):Int)),true,e0⟩::some ⟨tab (n+1) fun k=>(PV.i .u32 ((dgt v k:Nat):Int)),true,b1⟩::rest) =
   some (.b (decide (bo=1)),some ⟨tab N fun k=>(PV.i .u32 ((dgt (U%4294967296^j+4294967296^j*X') k:Nat):Int)),true,e⟩::some ⟨tab (n+1) fun k=>(PV.i .u32 ((dgt v k:Nat):Int)),true,b1⟩::rest):=by
 have key:∃w M',pcl E0 57 [.sl 0 j (n+1) cap 1,.sl 1 0 n cv 1,.i .u64 (q:Int)] (some ⟨tab N fun k=>(PV.i .u32 ((dgt U k:Nat):Int)),true,e0⟩::some ⟨tab (n+1) fun k=>(PV.i .u32 ((dgt v k:Nat):Int)),true,b1⟩::rest)=some (w,M') ∧
   w=.b (decide (bo=1))∧∃e,M'=some ⟨tab N fun k=>(PV.i .u32 ((dgt (U%4294967296^j+4294967296^j*X') k:Nat):Int)),true,e⟩::some ⟨tab (n+1) fun k=>(PV.i .u32 ((dgt v k:Nat):Int)),true,b1⟩::rest:=by
  refine zdt (xf:=zuI) rfl rfl (by simp[zuI]) ?_
  simp only[zuI]
  simp(disch:=omega)only[go_sem,seval,wqq]
  refine ziT (cap:=cap) (cv:=cv) hn hj hN hv hq hbo hX (by simp only[go_sem,seval]) (by simp only[go_sem,seval]) (by simp only[go_sem,seval]) (by simp only[go_sem,seval]) (by simp only[go_sem,seval]) (by simp only[go_sem,seval]) (by simp only[go_sem,seval]) rfl fun fr' e c g8 hc hinv=>?_
  rw[zgm hU hX']
  have hXlt:U/4294967296^j<4294967296^(n+1):=by
   rw[Nat.div_lt_iff_lt_mul (zbq j),←Nat.pow_add,Nat.add_comm (n+1)];exact hU
  have hqv:q*v<4294967296^(n+1):=by
   rw[Nat.pow_succ,Nat.mul_comm]
   exact Nat.mul_lt_mul'' hv hq
  rw[Nat.mod_eq_of_lt hX',Nat.mod_eq_of_lt hqv,Nat.add_mul_mod_self_left,Nat.mod_eq_of_lt hXlt] at hinv
  have hcb:c=bo:=by
   have:=zbq (n+1)
   exact Nat.eq_of_mul_eq_mul_left this (by omega)
  simp only[go_sem,seval,g8]
  refine⟨?_,e,rfl⟩
  congr 1
  exact decide_eq_decide.2 (by omega)
 obtain⟨w,M',h,rfl,e,rfl⟩:=key
 exact⟨e,h⟩
theorem zd1 (b0 b1 b2:Option PB) (Cs:PM) (c v e:Nat) (h:c+v<18446744073709551616) :
  pcl E0 77 [.i .u64 (v:Int),.p (Cs.length+1+1+1) 0] (b0::b1::b2::(Cs++[some ⟨[.i .u64 (c:Int)],true,e⟩]))=some ((PV.i .u32 (((c+v)%4294967296:Nat):Int)),b0::b1::b2::(Cs++[some ⟨[.i .u64 (((c+v)/4294967296:Nat):Int)],true,e+2⟩])):=by
 have hb:PM.blk (b0::b1::b2::(Cs++[some ⟨[.i .u64 (c:Int)],true,e⟩])) (Cs.length+1+1+1)=some ⟨[.i .u64 (c:Int)],true,e⟩:=by
  rw[zed,zed,zed,zb3]
 rw[zcD _ _ c v e hb h]
 congr 2
 rw[List.set_cons_succ,List.set_cons_succ,List.set_cons_succ,zeH]
set_option maxHeartbeats 1000000 in
theorem zi9 {F:PFin} {ks:List KI} {n N U v j X' X'' e0 cap cv:Nat} {b1:Nat} {b2:Option PB} {Cs:PM} (hn:n<1073741824) (hj:j+(n+1)≤N) (hN:N<1073741824) (hv:v<4294967296^n)
  (hXU:U/4294967296^j=X') (hX:X'+v=X''+4294967296^(n+1)) {O out I:PV} {fr:PFr} {M:PM} (h9:fr 9=.sl 0 0 N cap 1) (h10:fr 10=.sl 1 0 n cv 1) (h11:fr 11=.i .i64 (n:Int)) (h15:fr 15=.i .i64 (j:Int)) (h19:fr 19=.fn 77 [.p (Cs.length+1+1+1) 0]) (h169:fr 169=.i .i64 ((n+1:Nat):Int)) (h170:fr 170=.i .i64 0)
  (h12:fr 12=O) (h13:fr 13=out) (h14:fr 14=I) (S:PV) (h8:fr 8=S)
  (hM:M=some ⟨tab N fun k=>(PV.i .u32 ((dgt U k:Nat):Int)),true,e0⟩::some ⟨tab (n+1) fun k=>(PV.i .u32 ((dgt v k:Nat):Int)),true,b1⟩::b2::(Cs++[some ⟨[.i .u64 0],true,0⟩]))
  (cont:∀fr' e cb,fr' 8=S→fr' 9=.sl 0 0 N cap 1→fr' 10=.sl 1 0 n cv 1→fr' 11=.i .i64 (n:Int)→fr' 12=O→fr' 13=out→fr' 14=I→fr' 15=.i .i64 (j:Int) →
   UK E0 F (.exit 4) ks fr' (some ⟨tab N fun k=>(PV.i .u32 ((if j≤k∧k<j+(n+1) then dgt X'' (k-j) else dgt U k:Nat):Int)),true,e⟩::some ⟨tab (n+1) fun k=>(PV.i .u32 ((dgt v k:Nat):Int)),true,b1⟩::b2::(Cs++[cb]))):WK E0 F (.loop zuk) ks fr M:=by
 refine zag zuk.eq_1 (fun(i:Nat) fr M=>i≤n+1∧fr 9=.sl 0 0 N cap 1∧fr 10=.sl 1 0 n cv 1∧fr 11=.i .i64 (n:Int)∧fr 15=.i .i64 (j:Int)∧fr 19=.fn 77 [.p (Cs.length+1+1+1) 0]∧fr 169=.i .i64 ((n+1:Nat):Int)∧fr 170=.i .i64 (i:Int)∧fr 12=O∧fr 13=out∧fr 14=I∧fr 8=S ∧
  ∃c e e2:Nat,M=some ⟨tab N fun k=>(PV.i .u32 ((if j≤k∧k<j+i then dgt X'' (k-j) else dgt U k:Nat):Int)),true,e⟩::some ⟨tab (n+1) fun k=>(PV.i .u32 ((dgt v k:Nat):Int)),true,b1⟩::b2::(Cs++[some ⟨[.i .u64 (c:Int)],true,e2⟩])∧c≤1∧X'%4294967296^i+v%4294967296^i=(X''+4294967296^(n+1)*1)%4294967296^i+4294967296^i*c)
  (fun i=>n+1-i) ?_ 0 ⟨Nat.zero_le _,h9,h10,h11,h15,h19,h169,h170,h12,h13,h14,h8,0,e0,0,?_,Nat.zero_le _,by simp[Nat.mod_one]⟩
 ·rintro i fr M ⟨hi,h9,h10,h11,h15,h19,h169,h170,h12,h13,h14,h8,c,e,e2,rfl,hc,hinv⟩ ih
  by_cases hin:i<n+1
  ·have hc0:((i:Int)<((n+1:Nat):Int))=True:=by simp;omega
   have i1:((i:Int)+1)=((i+1:Nat):Int):=by omega
   have hji0:((j:Int)+(i:Int))=((j+i:Nat):Int):=by omega
   have da:=zam U (j+i)
   have db:=zam v i
   have hji:j+i<N:=by omega
   have hget:(tab N fun k=>(PV.i .u32 ((if j≤k∧k<j+i then dgt X'' (k-j) else dgt U k:Nat):Int)))[j+i]?=some (PV.i .u32 ((dgt U (j+i):Nat):Int)):=by rw[zaR hji,if_neg (by omega)]
   have hUX:dgt U (j+i)=dgt X' i:=by rw[za6,hXU]
   have fin:∀w fr' e e2,w=dgt U (j+i)+dgt v i→fr' 9=.sl 0 0 N cap 1→fr' 10=.sl 1 0 n cv 1→fr' 11=.i .i64 (n:Int)→fr' 15=.i .i64 (j:Int)→fr' 19=.fn 77 [.p (Cs.length+1+1+1) 0]→fr' 169=.i .i64 ((n+1:Nat):Int)→fr' 170=.i .i64 ((i+1:Nat):Int)→fr' 12=O→fr' 13=out→fr' 14=I→fr' 8=S →
     WK E0 F (.loop zuk) ks fr' (some ⟨tab N fun k=>if k=j+i then (PV.i .u32 (((c+w)%4294967296:Nat):Int)) else (PV.i .u32 ((if j≤k∧k<j+i then dgt X'' (k-j) else dgt U k:Nat):Int)),true,e⟩::some ⟨tab (n+1) fun k=>(PV.i .u32 ((dgt v k:Nat):Int)),true,b1⟩::b2::(Cs++[some ⟨[.i .u64 (((c+w)/4294967296:Nat):Int)],true,e2⟩])):=by
    intro w fr' e e2 hw g9 g10 g11 g15 g19 g169 g170 g12 g13 g14 g8
    subst hw
    rw[hUX]
    have sa:=zbH X' i
    have sb:=zbH v i
    obtain⟨k1,k2⟩:=zfq (P:=4294967296^i) (T:=X'%4294967296^i+v%4294967296^i) (s:=X''+4294967296^(n+1)*1) (c:=c) (d:=dgt X' i+dgt v i) (r:=X'/(4294967296^i*4294967296)+v/(4294967296^i*4294967296)) (zbq i) hinv (by rw[Nat.mul_add,Nat.mul_add,Nat.mul_one,←hX];omega)
    rw[←zae,zhy hin] at k1
    have ha:=zam X' i
    refine ih (i+1) fr' _ (by omega) ⟨by omega,g9,g10,g11,g15,g19,g169,g170,g12,g13,g14,g8,(c+(dgt X' i+dgt v i))/4294967296,e,e2,?_,by omega,?_⟩
    ·congr 3
     refine zaf fun k hk=>?_
     by_cases hki:k=j+i
     ·subst hki
      rw[if_pos rfl,if_pos (by omega),show j+i-j=i by omega,k1]
     ·rw[if_neg hki]
      congr 2
      by_cases h:j≤k∧k<j+i
      ·rw[if_pos h,if_pos (by omega)]
      ·rw[if_neg h,if_neg (by omega)]
    ·rw[zaq,zaq v,show (4294967296:Nat)^(i+1)=4294967296^i*4294967296 from Nat.pow_succ ..,←k2,Nat.mul_add];omega
   by_cases him:i<n
   ·have hc1:((i:Int)<(n:Int))=True:=by simp;omega
    have hgv:(tab (n+1) fun k=>(PV.i .u32 ((dgt v k:Nat):Int)))[i]?=some (PV.i .u32 ((dgt v i:Nat):Int)):=zaR (by omega)
    simp(disch:=omega)only[go_sem,seval,wqq,za7,zbC,zbD,zar,zbc,zcl,h9,h10,h11,h15,h19,h169,h170,hc0,hc1,hji0,hget,hgv,him,hji,zd1,zao]
    exact fin _ _ _ _ rfl (by simp only[go_sem,seval,h9]) (by simp only[go_sem,seval,h10]) (by simp only[go_sem,seval,h11]) (by simp only[go_sem,seval,h15]) (by simp only[go_sem,seval,h19]) (by simp only[go_sem,seval,h169]) (by simp only[go_sem,seval]) (by simp only[go_sem,seval,h12]) (by simp only[go_sem,seval,h13]) (by simp only[go_sem,seval,h14]) (by simp only[go_sem,seval,h8])
   ·have hc1:((i:Int)<(n:Int))=False:=by simp;omega
    have hz:dgt v i=0:=zbn hv (by omega)
    simp(disch:=omega)only[go_sem,seval,wqq,za7,zbC,zbD,zar,zbc,zcl,h9,h10,h11,h15,h19,h169,h170,hc0,hc1,hji0,hget,hji,zd1,zao,Int.add_zero]
    exact fin _ _ _ _ (by omega) (by simp only[go_sem,seval,h9]) (by simp only[go_sem,seval,h10]) (by simp only[go_sem,seval,h11]) (by simp only[go_sem,seval,h15]) (by simp only[go_sem,seval,h19]) (by simp only[go_sem,seval,h169]) (by simp only[go_sem,seval]) (by simp only[go_sem,seval,h12]) (by simp only[go_sem,seval,h13]) (by simp only[go_sem,seval,h14]) (by simp only[go_sem,seval,h8])
  ·have hc0:((i:Int)<((n+1:Nat):Int))=False:=by simp;omega
   obtain rfl:i=n+1:=by omega
   simp only[go_sem,seval,h169,h170,hc0]
   exact cont _ e _ (by simp only[go_sem,seval,h8]) (by simp only[go_sem,seval,h9]) (by simp only[go_sem,seval,h10]) (by simp only[go_sem,seval,h11]) (by simp only[go_sem,seval,h12]) (by simp only[go_sem,seval,h13]) (by simp only[go_sem,seval,h14]) (by simp only[go_sem,seval,h15])
 ·rw[hM]
  congr 3
  refine zaf fun k hk=>?_
  rw[if_neg (by omega)]
end Go.Eng
namespace Go.Eng
theorem zmd {n:Nat} (h:1≤n):4294967296^(n-1)*4294967296=4294967296^n:=by rw[←Nat.pow_succ];congr 1;omega
theorem zsv {X n:Nat} (hn:2≤n) (hX:X<4294967296^(n+1)):X/4294967296^(n-2)=(dgt X n*4294967296+dgt X (n-1))*4294967296+dgt X (n-2):=by
 have e1:X/4294967296^(n-2)/4294967296=X/4294967296^(n-1):=by rw[Nat.div_div_eq_div_mul,←Nat.pow_succ];congr 2;omega
 have e2:X/4294967296^(n-1)/4294967296=X/4294967296^n:=by rw[Nat.div_div_eq_div_mul,←Nat.pow_succ];congr 2;omega
 have e3:X/4294967296^n<4294967296:=by rw[Nat.div_lt_iff_lt_mul (zbq n),Nat.mul_comm,←Nat.pow_succ];exact hX
 rw[zae,zae,zae]
 generalize X/4294967296^(n-2)=x0 at *
 generalize X/4294967296^(n-1)=x1 at *
 generalize X/4294967296^n=x2 at *
 omega
theorem ztn {v n:Nat} (hn:2≤n) (hv:v<4294967296^n):v/4294967296^(n-2)=dgt v (n-1)*4294967296+dgt v (n-2):=by
 have e1:v/4294967296^(n-2)/4294967296=v/4294967296^(n-1):=by rw[Nat.div_div_eq_div_mul,←Nat.pow_succ];congr 2;omega
 have e3:v/4294967296^(n-1)<4294967296:=by rw[Nat.div_lt_iff_lt_mul (zbq _),Nat.mul_comm,zmd (by omega)];exact hv
 rw[zae,zae]
 generalize v/4294967296^(n-2)=x0 at *
 generalize v/4294967296^(n-1)=x1 at *
 omega
theorem znh {X v n d:Nat} (hv:0<v) (h:X/4294967296^(n-2)<d*(v/4294967296^(n-2))):X/v<d:=by
 rw[Nat.div_lt_iff_lt_mul hv]
 have h1:=Nat.lt_mul_div_succ X (zbq (n-2))
 have h2:=Nat.div_mul_le_self v (4294967296^(n-2))
 calc X<4294967296^(n-2)*(X/4294967296^(n-2)+1):=h1
  _≤4294967296^(n-2)*(d*(v/4294967296^(n-2))):=Nat.mul_le_mul_left _ h
  _=d*(v/4294967296^(n-2)*4294967296^(n-2)):=by grind
  _≤d*v:=Nat.mul_le_mul_left _ h2
theorem zkq {X v n d:Nat} (hv:0<v) (hd:d<4294967296) (hv2:4294967296≤v/4294967296^(n-2)) (h:d*(v/4294967296^(n-2))≤X/4294967296^(n-2)):d≤X/v+1:=by
 by_cases hc:d≤X/v+1
 ·exact hc
 ·exfalso
  have hd2:2≤d:=by have:=Nat.zero_le (X/v);generalize X/v=z at *;omega
  have h1:X/v<d-1:=by generalize X/v=z at *;omega
  rw[Nat.div_lt_iff_lt_mul hv] at h1
  have h2:=Nat.div_mul_le_self X (4294967296^(n-2))
  have h3:=Nat.lt_mul_div_succ v (zbq (n-2))
  have h4:d*(v/4294967296^(n-2))*4294967296^(n-2)≤X:=Nat.le_trans (Nat.mul_le_mul_right _ h) h2
  have h5:(d-1)*v≤(d-1)*(4294967296^(n-2)*(v/4294967296^(n-2)+1)):=Nat.mul_le_mul_left _ (Nat.le_of_lt h3)
  have h6:d*(v/4294967296^(n-2))*4294967296^(n-2)<(d-1)*(v/4294967296^(n-2)+1)*4294967296^(n-2):=by
   refine Nat.lt_of_le_of_lt h4 (Nat.lt_of_lt_of_le h1 (Nat.le_trans h5 (Nat.le_of_eq ?_)))
   grind
  have h7:d*(v/4294967296^(n-2))<(d-1)*(v/4294967296^(n-2)+1):=Nat.lt_of_mul_lt_mul_right h6
  generalize v/4294967296^(n-2)=w at *
  obtain⟨e,rfl⟩:∃e,d=e+1:=⟨d-1,by omega⟩
  simp only[Nat.add_sub_cancel,Nat.add_mul,Nat.mul_add,Nat.one_mul,Nat.mul_one] at h7
  omega
set_option maxHeartbeats 1000000 in
theorem zjq {F:PFin} {ks:List KI} {n N U v j d r cap:Nat} {e0:Nat} {rest:PM} (hn2:2≤n) (hn:n<1073741824) (hj:j+(n+1)≤N) (hN:N<1073741824) (hv:v<4294967296^n) (htop:2147483648≤dgt v (n-1))
  (hXv:U/4294967296^j<v*4294967296) {fr:PFr} {M:PM} (P:PFr→Prop) (hP:∀fr:PFr,P fr→∀k x,17≤k→P (fr.put k x)) (hPf:P fr) (h9:∀fr,P fr→fr 9=.sl 0 0 N cap 1) (h11:∀fr,P fr→fr 11=.i .i64 (n:Int)) (h13:∀fr,P fr→fr 13=.i .u64 (dgt v (n-1):Int)) (h14:∀fr,P fr→fr 14=.i .u64 (dgt v (n-2):Int)) (h15:∀fr,P fr→fr 15=.i .i64 (j:Int))
  (h17:fr 17=.i .u64 (d:Int)) (h18:fr 18=.i .u64 (r:Int)) (hr:r<4294967296) (hd:dgt U (j+n)*4294967296+dgt U (j+(n-1))=d*dgt v (n-1)+r) (hqd:U/4294967296^j/v≤d)
  (hM:M=some ⟨tab N fun k=>(PV.i .u32 ((dgt U k:Nat):Int)),true,e0⟩::rest)
  (cont:∀fr' d,P fr'→fr' 17=.i .u64 ((d:Nat):Int)→d<4294967296→U/4294967296^j/v≤d→d≤U/4294967296^j/v+1→UK E0 F (.exit 2) ks fr' M):WK E0 F (.loop zul) ks fr M:=by
 have hvpos:0<v:=by
  rcases Nat.eq_zero_or_pos v with h|h
  ·rw[h,zcX] at htop;omega
  ·exact h
 have hXlt:U/4294967296^j<4294967296^(n+1):=by
  rw[Nat.pow_succ]
  exact Nat.lt_of_lt_of_le hXv (Nat.mul_le_mul_right _ (Nat.le_of_lt hv))
 have p3:=zsv hn2 hXlt
 have p2:=ztn hn2 hv
 rw[←za6,←za6,←za6] at p3
 have hu2:=zam U (j+(n-2))
 have hu1:=zam U (j+(n-1))
 have hun:=zam U (j+n)
 have hnx:=zam v (n-2)
 have htp:=zam v (n-1)
 have htopX:dgt U (j+n)≤dgt v (n-1):=by
  have h1:U/4294967296^j/4294967296^n≤v/4294967296^(n-1):=by
   have:4294967296^n=4294967296^(n-1)*4294967296:=by rw[←Nat.pow_succ];congr 1;omega
   rw[this,←Nat.div_div_eq_div_mul,Nat.div_div_eq_div_mul,Nat.mul_comm,←Nat.div_div_eq_div_mul]
   exact Nat.div_le_div_right (Nat.div_le_of_le_mul (by omega))
  have h2:U/4294967296^j/4294967296^n<4294967296:=by rw[Nat.div_lt_iff_lt_mul (zbq n),Nat.mul_comm,←Nat.pow_succ];exact hXlt
  have h3:v/4294967296^(n-1)<4294967296:=by rw[Nat.div_lt_iff_lt_mul (zbq _),Nat.mul_comm,zmd (by omega)];exact hv
  rw[za6,zae,zae]
  generalize U/4294967296^j/4294967296^n=x0 at *
  generalize v/4294967296^(n-1)=x1 at *
  omega
 refine zag zul.eq_1 (fun(d:Nat) fr M'=>P fr∧M'=M∧U/4294967296^j/v≤d∧∃r:Nat,fr 17=.i .u64 (d:Int)∧fr 18=.i .u64 (r:Int)∧r<4294967296∧dgt U (j+n)*4294967296+dgt U (j+(n-1))=d*dgt v (n-1)+r) (fun d=>d) ?_ d ⟨hPf,rfl,hqd,r,h17,h18,hr,hd⟩
 rintro d fr M' ⟨hp,rfl,hqd,r,h17,h18,hr,hd⟩ ih
 have h9:=h9 fr hp
 have h11':=h11 fr hp
 have h13':=h13 fr hp
 have h14':=h14 fr hp
 have h15':=h15 fr hp
 have hdB:d*2147483648≤d*dgt v (n-1):=Nat.mul_le_mul_left _ htop
 have d3:d<12884901888:=by omega
 have less:0<d→U/4294967296^j/v<d→∀fr',P fr'→fr' 17=.i .u64 ((d-1:Nat):Int)→fr' 18=.i .u64 ((r+dgt v (n-1):Nat):Int)→(r+dgt v (n-1)<4294967296→WK E0 F (.loop zul) ks fr' M')∧(4294967296≤r+dgt v (n-1)→UK E0 F (.exit 2) ks fr' M'):=by
  intro h0 hlt fr' hp' g17 g18
  have e1:d*dgt v (n-1)=(d-1)*dgt v (n-1)+dgt v (n-1):=by
   obtain⟨e,rfl⟩:∃e,d=e+1:=⟨d-1,by omega⟩
   rw[Nat.add_mul,Nat.one_mul,Nat.add_sub_cancel]
  refine⟨fun hlt2=>ih (d-1) fr' _ (by omega) ⟨hp',rfl,by omega,r+dgt v (n-1),g17,g18,hlt2,by omega⟩,fun hge=>?_⟩
  have hd1:(d-1)*dgt v (n-1)<4294967296*dgt v (n-1):=by omega
  have hd2:d-1<4294967296:=Nat.lt_of_mul_lt_mul_right hd1
  refine cont fr' (d-1) hp' g17 hd2 (by omega) (zkq hvpos hd2 (by rw[p2];omega) ?_)
  rw[p2,p3]
  have h1:(d-1)*dgt v (n-2)≤(d-1)*4294967296:=Nat.mul_le_mul_left _ (by omega)
  have h2:(d-1)*(dgt v (n-1)*4294967296+dgt v (n-2))=(d-1)*dgt v (n-1)*4294967296+(d-1)*dgt v (n-2):=by rw[Nat.mul_add,Nat.mul_assoc]
  have h3:(dgt U (j+n)*4294967296+dgt U (j+(n-1)))*4294967296=(d-1)*dgt v (n-1)*4294967296+(r+dgt v (n-1))*4294967296:=by rw[hd,e1];grind
  omega
 have hXB:U/4294967296^j/v<4294967296:=by rw[Nat.div_lt_iff_lt_mul hvpos,Nat.mul_comm];exact hXv
 have pj:((j:Int)+(n:Int))=((j+n:Nat):Int):=by omega
 have pj2:(((j+n:Nat):Int)-2)=((j+(n-2):Nat):Int):=by omega
 have hlt:j+(n-2)<N:=by omega
 have hget:(tab N fun k=>(PV.i .u32 ((dgt U k:Nat):Int)))[j+(n-2)]?=some (PV.i .u32 ((dgt U (j+(n-2)):Nat):Int)):=zaR hlt
 have hblk:PM.blk M' 0=some ⟨tab N fun k=>(PV.i .u32 ((dgt U k:Nat):Int)),true,e0⟩:=by rw[hM];rfl
 have d1:0<d→((d:Int)-1)=((d-1:Nat):Int):=fun h=>by omega
 have rt:((r:Int)+(dgt v (n-1):Int))=((r+dgt v (n-1):Nat):Int):=by omega
 by_cases hdb:d<4294967296
 ·have hs0:d/4294967296=0:=Nat.div_eq_of_lt hdb
  have hmul:d*dgt v (n-2)≤4294967295*4294967295:=Nat.mul_le_mul (by omega) (by omega)
  have hmm:((d:Int)*(dgt v (n-2):Int))=((d*dgt v (n-2):Nat):Int):=by simp
  by_cases ht:r*4294967296+dgt U (j+(n-2))<d*dgt v (n-2)
  ·have hd0:0<d:=by
    rcases Nat.eq_zero_or_pos d with h|h
    ·rw[h,Nat.zero_mul] at ht;omega
    ·exact h
   have hdlt:U/4294967296^j/v<d:=by
    refine znh (n:=n) hvpos ?_
    have h3:d*(dgt v (n-1)*4294967296+dgt v (n-2))=d*dgt v (n-1)*4294967296+d*dgt v (n-2):=by rw[Nat.mul_add,Nat.mul_assoc]
    rw[p2,p3,hd,h3,Nat.add_mul,Nat.add_assoc]
    exact Nat.add_lt_add_left ht _
   have hc:(((r*4294967296+dgt U (j+(n-2)):Nat):Int)<((d*dgt v (n-2):Nat):Int))=True:=by simp;omega
   by_cases hb:r+dgt v (n-1)<4294967296
   ·have hc2:((0:Int)<(((r+dgt v (n-1))/4294967296:Nat):Int))=False:=by rw[Nat.div_eq_of_lt hb];simp
    simp(disch:=omega)only[go_sem,seval,wqq,h9,h11',h13',h14',h15',h17,h18,hs0,Int.natCast_zero,Int.lt_irrefl,hmm,pj,pj2,hlt,hblk,hget,zdW,hc,d1 hd0,rt,hc2]
    refine(less hd0 hdlt _ ?_ (by simp only[go_sem,seval]) (by simp only[go_sem,seval])).1 hb
    repeat (first|exact hp|refine hP _ ?_ _ _ (by omega))
   ·have hc2:((0:Int)<(((r+dgt v (n-1))/4294967296:Nat):Int))=True:=by
     have:0<(r+dgt v (n-1))/4294967296:=Nat.div_pos (by omega) (by decide)
     simp;omega
    simp(disch:=omega)only[go_sem,seval,wqq,h9,h11',h13',h14',h15',h17,h18,hs0,Int.natCast_zero,Int.lt_irrefl,hmm,pj,pj2,hlt,hblk,hget,zdW,hc,d1 hd0,rt,hc2]
    refine(less hd0 hdlt _ ?_ (by simp only[go_sem,seval]) (by simp only[go_sem,seval])).2 (by omega)
    repeat (first|exact hp|refine hP _ ?_ _ _ (by omega))
  ·have hc:(((r*4294967296+dgt U (j+(n-2)):Nat):Int)<((d*dgt v (n-2):Nat):Int))=False:=by simp;omega
   simp(disch:=omega)only[go_sem,seval,wqq,h9,h11',h13',h14',h15',h17,h18,hs0,Int.natCast_zero,Int.lt_irrefl,hmm,pj,pj2,hlt,hblk,hget,zdW,hc]
   refine cont _ d ?_ (by simp only[go_sem,seval,h17]) hdb hqd (zkq hvpos hdb (by rw[p2];omega) ?_)
   ·repeat (first|exact hp|refine hP _ ?_ _ _ (by omega))
   ·have h3:d*(dgt v (n-1)*4294967296+dgt v (n-2))=d*dgt v (n-1)*4294967296+d*dgt v (n-2):=by rw[Nat.mul_add,Nat.mul_assoc]
    rw[p2,p3,hd,h3,Nat.add_mul,Nat.add_assoc]
    exact Nat.add_le_add_left (by omega) _
 ·have hd0:0<d:=by omega
  have hs:((0:Int)<((d/4294967296:Nat):Int))=True:=by
   have:0<d/4294967296:=Nat.div_pos (by omega) (by decide)
   simp;omega
  by_cases hb:r+dgt v (n-1)<4294967296
  ·have hc2:((0:Int)<(((r+dgt v (n-1))/4294967296:Nat):Int))=False:=by rw[Nat.div_eq_of_lt hb];simp
   simp(disch:=omega)only[go_sem,seval,wqq,h9,h11',h13',h14',h15',h17,h18,hs,d1 hd0,rt,hc2]
   refine(less hd0 (by omega) _ ?_ (by simp only[go_sem,seval]) (by simp only[go_sem,seval])).1 hb
   repeat (first|exact hp|refine hP _ ?_ _ _ (by omega))
  ·have hc2:((0:Int)<(((r+dgt v (n-1))/4294967296:Nat):Int))=True:=by
    have:0<(r+dgt v (n-1))/4294967296:=Nat.div_pos (by omega) (by decide)
    simp;omega
   simp(disch:=omega)only[go_sem,seval,wqq,h9,h11',h13',h14',h15',h17,h18,hs,d1 hd0,rt,hc2]
   refine(less hd0 (by omega) _ ?_ (by simp only[go_sem,seval]) (by simp only[go_sem,seval])).2 (by omega)
   repeat (first|exact hp|refine hP _ ?_ _ _ (by omega))
end Go.Eng
namespace Go.Eng
structure DivP (n N L:Nat) (S:PV) (top nxt:Nat) (fr:PFr):Prop where
 s8:fr 8=S
 s9:fr 9=.sl 0 0 N N 1
 s10:fr 10=.sl 1 0 n (n+1) 1
 s11:fr 11=.i .i64 (n:Int)
 s12:fr 12=.sl 2 0 L L 1
 s13:fr 13=.i .u64 (top:Int)
 s14:fr 14=.i .u64 (nxt:Int)
theorem zbQ {fr:PFr} {k d:Nat} {x:PV} (h:d<k):fr.put k x d=fr d:=by
 rw[zmg,if_neg (by omega)]
theorem DivP.put {n N L:Nat} {S:PV} {top nxt:Nat} {fr:PFr} (p:DivP n N L S top nxt fr) {k:Nat} {x:PV} (h:15≤k):DivP n N L S top nxt (fr.put k x) :=
 ⟨by rw[zbQ (by omega)];exact p.s8,by rw[zbQ (by omega)];exact p.s9,by rw[zbQ (by omega)];exact p.s10,by rw[zbQ (by omega)];exact p.s11,by rw[zbQ (by omega)];exact p.s12,by rw[zbQ (by omega)];exact p.s13,by rw[zbQ (by omega)];exact p.s14⟩
theorem ziE {A v j:Nat}:A%(v*4294967296^(j+1))/4294967296^j/v=dgt (A/v) j:=by
 rw[Nat.div_div_eq_div_mul,zae,Nat.div_div_eq_div_mul,Nat.pow_succ,←Nat.mul_assoc,Nat.mul_comm v,Nat.mod_mul_right_div_self]
theorem ziJ {A v j:Nat}:A%(v*4294967296^(j+1))%4294967296^j+4294967296^j*(A%(v*4294967296^(j+1))/4294967296^j%v)=A%(v*4294967296^j):=by
 rw[←Nat.mod_mul,Nat.mul_comm (4294967296^j) v,Nat.mod_mod_of_dvd]
 exact⟨4294967296,by rw[Nat.pow_succ,Nat.mul_assoc]⟩
theorem zkR {n off len cap lo hi:Nat} (h1:lo≤hi) (h2:hi≤cap) (h3:lo<cap):slP 1 (.sl n off len cap 1) (some (.i .i64 (lo:Int))) (some (.i .i64 (hi:Int))) none=some (.sl n (off+lo) (hi-lo) (cap-lo) 1):=by
 simp only[slP,ne_eq,not_true_eq_false,if_false,optP,zcU,Option.isSome_none,Bool.false_eq_true,false_implies,and_true,Nat.le_refl,Nat.mul_one]
 rw[if_pos ⟨h1,h2⟩,if_neg (by omega)]
set_option maxHeartbeats 2000000 in
theorem zjj {F:PFin} {ks:List KI} {n N L A v:Nat} {S:PV} {b1:Nat} (hn2:2≤n) (hNL:N=L+n) (hN:N<1073741824) (hv:v<4294967296^n) (htop:2147483648≤dgt v (n-1)) (hA:A<v*4294967296^L) {fr:PFr} {M:PM} (hp:DivP n N L S (dgt v (n-1)) (dgt v (n-2)) fr) (h15:fr 15=.i .i64 ((L:Int)-1))
  {e0 e2:Nat} (hM:M=some ⟨tab N fun k=>(PV.i .u32 ((dgt A k:Nat):Int)),true,e0⟩::some ⟨tab (n+1) fun k=>(PV.i .u32 ((dgt v k:Nat):Int)),true,b1⟩::some ⟨List.replicate L (.i .u32 0),true,e2⟩::[])
  (cont:∀fr' e0 e2 Cs,DivP n N L S (dgt v (n-1)) (dgt v (n-2)) fr'→UK E0 F (.exit 0) ks fr' (some ⟨tab N fun k=>(PV.i .u32 ((dgt (A%v) k:Nat):Int)),true,e0⟩::some ⟨tab (n+1) fun k=>(PV.i .u32 ((dgt v k:Nat):Int)),true,b1⟩::some ⟨tab L fun k=>(PV.i .u32 ((dgt (A/v) k:Nat):Int)),true,e2⟩::Cs)):WK E0 F (.loop zuQ) ks fr M:=by
 have hvpos:0<v:=by
  rcases Nat.eq_zero_or_pos v with h|h
  ·rw[h,zcX] at htop;omega
  ·exact h
 have htp:=zam v (n-1)
 refine zag zuQ.eq_1 (fun(k:Nat) fr M=>k≤L∧DivP n N L S (dgt v (n-1)) (dgt v (n-2)) fr∧fr 15=.i .i64 ((k:Int)-1) ∧
  ∃e0 e2 Cs,M=some ⟨tab N fun i=>(PV.i .u32 ((dgt (A%(v*4294967296^k)) i:Nat):Int)),true,e0⟩::some ⟨tab (n+1) fun i=>(PV.i .u32 ((dgt v i:Nat):Int)),true,b1⟩::some ⟨tab L fun i=>(PV.i .u32 ((if k≤i then dgt (A/v) i else 0:Nat):Int)),true,e2⟩::Cs)
  (fun k=>k) ?_ L ⟨Nat.le_refl _,hp,h15,e0,e2,[],?_⟩
 ·rintro k fr M ⟨hk,hp,h15,e0,e2,Cs,rfl⟩ ih
  obtain⟨h8,h9,h10,h11,h12,h13,h14⟩:=id hp
  by_cases hk0:k=0
  ·subst hk0
   simp(disch:=omega)only[go_sem,seval,wqq,h15,Int.natCast_zero,Int.zero_sub]
   have:=cont (fr.put 84 (.i .i64 (-1)) |>.put 85 (.b false)) e0 e2 Cs (DivP.put (DivP.put ⟨h8,h9,h10,h11,h12,h13,h14⟩ (by omega)) (by omega))
   simpa only[Nat.pow_zero,Nat.mul_one,Nat.zero_le,if_true] using this
  ·obtain⟨j,rfl⟩:∃j,k=j+1:=⟨k-1,by omega⟩
   have k1:(((j+1:Nat):Int)-1)=(j:Int):=by omega
   rw[k1] at h15
   generalize hU:A%(v*4294967296^(j+1))=U
   have hUlt:U<v*4294967296^(j+1):=by rw[←hU];exact Nat.mod_lt _ (Nat.mul_pos hvpos (zbq _))
   have hXv:U/4294967296^j<v*4294967296:=by
    rw[Nat.div_lt_iff_lt_mul (zbq j),Nat.mul_assoc,←Nat.pow_succ'];exact hUlt
   have hUB:U<4294967296^(j+(n+1)):=by
    refine Nat.lt_of_lt_of_le hUlt ?_
    rw[show j+(n+1)=n+(j+1) by omega,show (4294967296:Nat)^(n+(j+1))=4294967296^n*4294967296^(j+1) from Nat.pow_add ..]
    exact Nat.mul_le_mul_right _ (Nat.le_of_lt hv)
   have hq:U/4294967296^j/v=dgt (A/v) j:=by rw[←hU];exact ziE
   have hjoin:U%4294967296^j+4294967296^j*(U/4294967296^j%v)=A%(v*4294967296^j):=by rw[←hU];exact ziJ
   have pj:((j:Int)+(n:Int))=((j+n:Nat):Int):=by omega
   have pj1:(((j+n:Nat):Int)-1)=((j+(n-1):Nat):Int):=by omega
   have pj2:(((j+n:Nat):Int)+1)=((j+n+1:Nat):Int):=by omega
   have hl0:j+n<N:=by omega
   have hl1:j+(n-1)<N:=by omega
   have hun:=zam U (j+n)
   have hu1:=zam U (j+(n-1))
   have hg0:(tab N fun i=>(PV.i .u32 ((dgt U i:Nat):Int)))[j+n]?=some (PV.i .u32 ((dgt U (j+n):Nat):Int)):=zaR hl0
   have hg1:(tab N fun i=>(PV.i .u32 ((dgt U i:Nat):Int)))[j+(n-1)]?=some (PV.i .u32 ((dgt U (j+(n-1)):Nat):Int)):=zaR hl1
   have htz:((dgt v (n-1):Nat):Int)≠0:=by omega
   have hqlt:(dgt U (j+n)*4294967296+dgt U (j+(n-1)))/dgt v (n-1)≤dgt U (j+n)*4294967296+dgt U (j+(n-1)):=Nat.div_le_self _ _
   have wq:IntKind.wrap .u64 (((dgt U (j+n)*4294967296+dgt U (j+(n-1)))/dgt v (n-1):Nat):Int)=(((dgt U (j+n)*4294967296+dgt U (j+(n-1)))/dgt v (n-1):Nat):Int):=by
    generalize (dgt U (j+n)*4294967296+dgt U (j+(n-1)))/dgt v (n-1)=z at *
    rw[wqb (by omega) (by omega)]
   simp(disch:=omega)only[go_sem,seval,wqq,h9,h10,h11,h12,h13,h14,h15,pj,pj1,hl0,hl1,hg0,hg1,zdW,zbU,zc1,htz,wq]
   refine zjq (N:=N) (e0:=e0) (d:=(dgt U (j+n)*4294967296+dgt U (j+(n-1)))/dgt v (n-1)) (r:=(dgt U (j+n)*4294967296+dgt U (j+(n-1)))%dgt v (n-1)) hn2 (by omega) (by omega) (by omega) hv htop hXv
    (fun fr=>DivP n N L S (dgt v (n-1)) (dgt v (n-2)) fr∧fr 15=.i .i64 (j:Int)) (fun fr h k x hk=>⟨h.1.put (by omega),by rw[zbQ (by omega)];exact h.2⟩) ⟨?_,by simp only[go_sem,seval,h15]⟩ (fun fr h=>h.1.s9) (fun fr h=>h.1.s11) (fun fr h=>h.1.s13) (fun fr h=>h.1.s14) (fun fr h=>h.2) (by simp only[go_sem,seval]) (by simp only[go_sem,seval]) ?_ ?_ ?_ rfl ?_
   ·repeat (first|exact hp|refine DivP.put ?_ (by omega))
   ·exact Nat.lt_trans (Nat.mod_lt _ (by omega)) htp
   ·rw[Nat.mul_comm _ (dgt v (n-1))];exact(Nat.div_add_mod _ _).symm
   ·rw[Nat.le_div_iff_mul_le (by omega)]
    have hXlt:U/4294967296^j<4294967296^(n+1):=by
     rw[Nat.div_lt_iff_lt_mul (zbq j),←Nat.pow_add,Nat.add_comm (n+1)];exact hUB
    have p3:=zsv hn2 hXlt
    rw[←za6,←za6,←za6] at p3
    have e1:U/4294967296^j/4294967296^(n-1)=dgt U (j+n)*4294967296+dgt U (j+(n-1)):=by
     have e2:U/4294967296^j/4294967296^(n-1)=U/4294967296^j/4294967296^(n-2)/4294967296:=by rw[Nat.div_div_eq_div_mul _ (4294967296^(n-2)),←Nat.pow_succ];congr 2;omega
     have:=zam U (j+(n-2))
     rw[e2,p3];omega
    have e3:dgt v (n-1)*4294967296^(n-1)≤v:=by
     have h1:v/4294967296^(n-1)<4294967296:=by rw[Nat.div_lt_iff_lt_mul (zbq _),Nat.mul_comm,zmd (by omega)];exact hv
     rw[zae,Nat.mod_eq_of_lt h1]
     exact Nat.div_mul_le_self _ _
    rw[←e1,Nat.le_div_iff_mul_le (zbq _),Nat.mul_assoc]
    exact Nat.le_trans (Nat.mul_le_mul_left _ e3) (Nat.div_mul_le_self _ _)
   ·rintro fr' d ⟨hp',h15'⟩ h17' hdB hqd hdq
    obtain⟨h8,h9,h10,h11,h12,h13,h14⟩:=id hp'
    have hX:=Nat.div_add_mod (U/4294967296^j) v
    have hr:=Nat.mod_lt (U/4294967296^j) hvpos
    generalize hXd:U/4294967296^j=X at *
    generalize hqg:X/v=q at *
    generalize hrg:X%v=r at *
    have hjL:j<L:=by omega
    have hnn:j+n+1-j=n+1:=by omega
    have hin:(U%4294967296^j+4294967296^j*r)=A%(v*4294967296^j):=hjoin
    have hrB:r<4294967296^(n+1):=Nat.lt_trans (Nat.lt_trans hr hv) (Nat.pow_lt_pow_right (by decide) (by omega))
    rcases (show d=q∨d=q+1 by omega) with hd|hd
    ·have hdv:X+4294967296^(n+1)*0=r+d*v:=by rw[Nat.mul_zero,hd,Nat.mul_comm q];omega
     obtain⟨e,htk⟩:=zkH (n:=n) (N:=N) (U:=U) (v:=v) (q:=d) (j:=j) (X':=r) (bo:=0) (e0:=e0) (cap:=N-j) (cv:=n+1) (b1:=b1) (rest:=some ⟨tab L fun i=>if i=j then (PV.i .u32 ((d:Nat):Int)) else (PV.i .u32 ((if j+1≤i then dgt (A/v) i else 0:Nat):Int)),true,e2+1⟩::Cs) (by omega) (by omega) (by omega) hv hdB (by omega) hUB hrB (by rw[hXd];exact hdv)
     simp(disch:=omega)only[go_sem,seval,wqq,h9,h10,h11,h12,h13,h14,h15',h17',pj,pj2,hjL,hnn,zao,zkR,htk,hin]
     refine ih j _ _ (by omega) ⟨by omega,?_,by simp only[go_sem,seval],e,e2+1,Cs,?_⟩
     ·repeat (first|exact hp'|refine DivP.put ?_ (by omega))
     ·congr 5
      refine zaf fun i hi=>?_
      by_cases h:i=j
      ·subst h
       rw[if_pos rfl,if_pos (Nat.le_refl _),hd,hq]
      ·rw[if_neg h]
       congr 2
       by_cases h2:j+1≤i
       ·rw[if_pos h2,if_pos (by omega)]
       ·rw[if_neg h2,if_neg (by omega)]
    ·have hvB:v<4294967296^(n+1):=Nat.lt_trans hv (Nat.pow_lt_pow_right (by decide) (by omega))
     have hdv:X+4294967296^(n+1)*1=(4294967296^(n+1)+r-v)+d*v:=by rw[Nat.mul_one,hd,Nat.add_mul,Nat.one_mul,Nat.mul_comm q];omega
     obtain⟨e,htk⟩:=zkH (n:=n) (N:=N) (U:=U) (v:=v) (q:=d) (j:=j) (X':=4294967296^(n+1)+r-v) (bo:=1) (e0:=e0) (cap:=N-j) (cv:=n+1) (b1:=b1) (rest:=some ⟨tab L fun i=>if i=j then (PV.i .u32 ((d:Nat):Int)) else (PV.i .u32 ((if j+1≤i then dgt (A/v) i else 0:Nat):Int)),true,e2+1⟩::Cs) (by omega) (by omega) (by omega) hv hdB (by omega) hUB (by omega) (by rw[hXd];exact hdv)
     have hgo:(tab L fun i=>if i=j then (PV.i .u32 ((d:Nat):Int)) else (PV.i .u32 ((if j+1≤i then dgt (A/v) i else 0:Nat):Int)))[j]?=some (PV.i .u32 ((d:Nat):Int)):=by rw[zaR hjL,if_pos rfl]
     have hd1:((d:Int)-1)=(q:Int):=by omega
     have hqlt:q<4294967296:=by omega
     simp(disch:=omega)only[go_sem,seval,wqq,h9,h10,h11,h12,h13,h14,h15',h17',pj,pj2,hjL,hnn,zao,zkR,htk,hgo,hd1]
     have hX'j:(U%4294967296^j+4294967296^j*(4294967296^(n+1)+r-v))/4294967296^j=4294967296^(n+1)+r-v:=by
      rw[Nat.add_mul_div_left _ _ (zbq j),Nat.div_eq_of_lt (Nat.mod_lt _ (zbq j)),Nat.zero_add]
     refine zi9 (n:=n) (N:=N) (U:=U%4294967296^j+4294967296^j*(4294967296^(n+1)+r-v)) (v:=v) (j:=j) (X':=4294967296^(n+1)+r-v) (X'':=r) (e0:=e) (cap:=N) (cv:=n+1) (b1:=b1) (Cs:=Cs) (O:=.sl 2 0 L L 1) (out:=.i .u64 (dgt v (n-1):Int)) (I:=.i .u64 (dgt v (n-2):Int)) (by omega) (by omega) (by omega) hv hX'j (by omega) (by simp only[go_sem,seval,h9]) (by simp only[go_sem,seval,h10]) (by simp only[go_sem,seval,h11]) (by simp only[go_sem,seval,h15']) (by simp only[go_sem,seval]) (by simp only[go_sem,seval]) (by simp only[go_sem,seval]) (by simp only[go_sem,seval,h12]) (by simp only[go_sem,seval,h13]) (by simp only[go_sem,seval,h14]) S (by simp only[go_sem,seval,h8]) rfl fun fr2 e' cb g8 g9 g10 g11 g12 g13 g14 g15=>?_
     have hU1:U%4294967296^j+4294967296^j*(4294967296^(n+1)+r-v)<4294967296^(j+(n+1)):=by
      rw[show (4294967296:Nat)^(j+(n+1))=4294967296^j*4294967296^(n+1) from Nat.pow_add ..]
      have h1:=Nat.mod_lt U (zbq j)
      have h2:4294967296^j*(4294967296^(n+1)+r-v+1)≤4294967296^j*4294967296^(n+1):=Nat.mul_le_mul_left _ (by omega)
      rw[Nat.mul_succ] at h2
      exact Nat.lt_of_lt_of_le (Nat.add_lt_add_right h1 _) (by rw[Nat.add_comm];exact h2)
     have hU2:(U%4294967296^j+4294967296^j*(4294967296^(n+1)+r-v))%4294967296^j=U%4294967296^j:=by
      rw[Nat.add_mul_mod_self_left,Nat.mod_mod]
     rw[zgm hU1 hrB,hU2,hin]
     simp(disch:=omega)only[go_sem,seval,wqq,g15]
     refine ih j _ _ (by omega) ⟨by omega,?_,by simp only[go_sem,seval],e',e2+1+1,Cs++[cb],?_⟩
     ·exact DivP.put (DivP.put (DivP.put ⟨g8,g9,g10,g11,g12,g13,g14⟩ (by omega)) (by omega)) (by omega)
     ·congr 5
      refine zaf fun i hi=>?_
      by_cases h:i=j
      ·subst h
       rw[if_pos rfl,if_pos (Nat.le_refl _),hq]
      ·rw[if_neg h,if_neg h]
       congr 2
       by_cases h2:j+1≤i
       ·rw[if_pos h2,if_pos (by omega)]
       ·rw[if_neg h2,if_neg (by omega)]
 ·rw[hM,Nat.mod_eq_of_lt hA,zcb]
  congr 5
  refine zaf fun i hi=>?_
  rw[if_neg (by omega)];rfl
theorem zhp {U by_ i:Nat} (hb:by_<32):(dgt U (i+1)*4294967296+dgt U i)/2^by_%4294967296=dgt (U/2^by_) i:=by
 have e:(4294967296:Nat)=2^by_*2^(32-by_):=by rw[←Nat.pow_add,show by_+(32-by_)=32 by omega]
 have hp:0<2^by_:=Nat.pow_pos (by decide)
 have h0:U/4294967296^i=dgt U (i+1)*4294967296+dgt U i+4294967296*(4294967296*(U/4294967296^i/4294967296/4294967296)):=by
  have h1:=Nat.div_add_mod (U/4294967296^i) 4294967296
  have h2:=Nat.div_add_mod (U/4294967296^i/4294967296) 4294967296
  rw[zae,zae,Nat.pow_succ,←Nat.div_div_eq_div_mul]
  omega
 have key:∀x y z:Nat,x=y+4294967296*(4294967296*z)→y/2^by_%4294967296=x/2^by_%4294967296:=by
  intro x y z hx
  have e2:4294967296*(4294967296*z)=2^by_*(4294967296*(2^(32-by_)*z)):=by
   have e3:∀w,4294967296*w=2^by_*2^(32-by_)*w:=fun w=>by rw[←e]
   rw[e3,Nat.mul_assoc,Nat.mul_left_comm (2^(32-by_))]
  rw[hx,e2,Nat.add_mul_div_left _ _ hp,Nat.add_mul_mod_self_left]
 rw[zae (U/2^by_),Nat.div_div_eq_div_mul,Nat.mul_comm (2^by_),←Nat.div_div_eq_div_mul]
 exact key _ _ _ h0
set_option maxHeartbeats 1000000 in
theorem ziK {F:PFin} {ks:List KI} {n N U by_:Nat} {b1 b2:Option PB} {Cs:PM} {e0 e3:Nat} {O:PV} (hn:n<N) (hN:N<1073741824) (hb:by_<32) {fr:PFr} {M:PM} (h8:fr 8=.i .i64 (by_:Int)) (h9:fr 9=.sl 0 0 N N 1) (h12:fr 12=O) (h22:fr 22=.sl (Cs.length+1+1+1) 0 n n 1) (h201:fr 201=.i .i64 (n:Int)) (h202:fr 202=.i .i64 0)
  (hM:M=some ⟨tab N fun k=>(PV.i .u32 ((dgt U k:Nat):Int)),true,e0⟩::b1::b2::(Cs++[some ⟨List.replicate n (.i .u32 0),true,e3⟩]))
  (cont:∀fr' e,fr' 12=O→fr' 22=.sl (Cs.length+1+1+1) 0 n n 1→UK E0 F (.exit 6) ks fr' (some ⟨tab N fun k=>(PV.i .u32 ((dgt U k:Nat):Int)),true,e0⟩::b1::b2::(Cs++[some ⟨tab n fun k=>(PV.i .u32 ((dgt (U/2^by_) k:Nat):Int)),true,e⟩]))):WK E0 F (.loop zuR) ks fr M:=by
 refine zag zuR.eq_1 (fun(i:Nat) fr M=>i≤n∧fr 8=.i .i64 (by_:Int)∧fr 9=.sl 0 0 N N 1∧fr 12=O∧fr 22=.sl (Cs.length+1+1+1) 0 n n 1∧fr 201=.i .i64 (n:Int)∧fr 202=.i .i64 (i:Int) ∧
  ∃e,M=some ⟨tab N fun k=>(PV.i .u32 ((dgt U k:Nat):Int)),true,e0⟩::b1::b2::(Cs++[some ⟨tab n fun k=>(PV.i .u32 ((if k<i then dgt (U/2^by_) k else 0:Nat):Int)),true,e⟩])) (fun i=>n-i) ?_ 0 ⟨Nat.zero_le _,h8,h9,h12,h22,h201,h202,e3,?_⟩
 ·rintro i fr M ⟨hi,h8,h9,h12,h22,h201,h202,e,rfl⟩ ih
  by_cases hin:i<n
  ·have hc0:((i:Int)<(n:Int))=True:=by simp;omega
   have i1:((i:Int)+1)=((i+1:Nat):Int):=by omega
   have hl0:i<N:=by omega
   have hl1:i+1<N:=by omega
   have hg0:(tab N fun k=>(PV.i .u32 ((dgt U k:Nat):Int)))[i]?=some (PV.i .u32 ((dgt U i:Nat):Int)):=zaR hl0
   have hg1:(tab N fun k=>(PV.i .u32 ((dgt U k:Nat):Int)))[i+1]?=some (PV.i .u32 ((dgt U (i+1):Nat):Int)):=zaR hl1
   have d0:=zam U i
   have d1:=zam U (i+1)
   have hsh:binP .shr (.i .u64 ((dgt U (i+1)*4294967296+dgt U i:Nat):Int)) (.i .i64 (by_:Int))=some (.i .u64 (((dgt U (i+1)*4294967296+dgt U i)/2^by_:Nat):Int)):=by
    rw[zfn _ _ _ (by omega) (by omega),Int.toNat_natCast]
   have hbw:=zhp (U:=U) (i:=i) hb
   simp(disch:=omega)only[go_sem,seval,wqq,h8,h9,h22,h201,h202,hc0,i1,hl0,hl1,hg0,hg1,hin,zdW,hsh,za4,hbw,zb3,zeH,zao]
   refine ih (i+1) _ _ (by omega) ⟨by omega,by simp only[go_sem,seval,h8],by simp only[go_sem,seval,h9],by simp only[go_sem,seval,h12],by simp only[go_sem,seval,h22],by simp only[go_sem,seval,h201],by simp only[go_sem,seval],e+1,?_⟩
   refine congrArg (fun l=>some ⟨tab N fun k=>(PV.i .u32 ((dgt U k:Nat):Int)),true,e0⟩::b1::b2::(Cs++[some ⟨l,true,e+1⟩])) (zaf fun k hk=>?_)
   by_cases hki:k=i
   ·subst hki
    rw[if_pos rfl,if_pos (by omega)]
   ·rw[if_neg hki]
    congr 2
    by_cases h:k<i
    ·rw[if_pos h,if_pos (by omega)]
    ·rw[if_neg h,if_neg (by omega)]
  ·have hc0:((i:Int)<(n:Int))=False:=by simp;omega
   obtain rfl:i=n:=by omega
   simp only[go_sem,seval,h201,h202,hc0]
   have ht:(tab i fun k=>(PV.i .u32 ((if k<i then dgt (U/2^by_) k else 0:Nat):Int)))=tab i fun k=>(PV.i .u32 ((dgt (U/2^by_) k:Nat):Int)):=zaf fun k hk=>by rw[if_pos hk]
   rw[ht]
   exact cont _ e (by simp only[go_sem,seval,h12]) (by simp only[go_sem,seval,h22])
 ·rw[hM,zcb]
  congr 5
theorem zgA {a b:Nat} (hb:b≠0) (la:wlen a≤4096) (lb:wlen b≤4096):pf E0 35 [D a,D b]=some (.tu [D (a/b),D (a%b)]):=by
 have hbp:=zaQ hb
 have hcmp:=zaZ a b (by omega) (by omega)
 by_cases hab:a<b
 ·refine zab (xf:=ztO) rfl (by simp[ztO]) ?_
  simp only[ztO]
  have hc:(cmpI (a:Int) (b:Int)<0)=True:=by unfold cmpI;simp;omega
  simp(disch:=omega)only[go_sem,seval,wqq,hcmp,hc]
  rw[Nat.div_eq_of_lt hab,Nat.mod_eq_of_lt hab];rfl
 have hc:(cmpI (a:Int) (b:Int)<0)=False:=by unfold cmpI;simp;omega
 have hwl:wlen b≤wlen a:=by
  rw[zaF];exact Nat.lt_of_le_of_lt (by omega) (zad a)
 by_cases h1:wlen b=1
 ·have hb32:b<4294967296:=by have:=zad b;rw[h1] at this;omega
  have hs:=zl2 (zad a) hb32 hb (by omega)
  have hd0:dgt b 0=b:=by rw[zfu,Nat.mod_eq_of_lt hb32]
  have hi:=zaD (n:=wlen b) (v:=b) (j:=0) (by omega)
  rw[hd0] at hi
  have hq:a/b<4294967296^wlen a:=Nat.lt_of_le_of_lt (Nat.div_le_self _ _) (zad a)
  have hn1:=zbP hq (by omega)
  have hm:a%b<4294967296:=Nat.lt_trans (Nat.mod_lt _ (by omega)) hb32
  have hn2:=zbP (n:=1) (v:=a%b) (by simpa using hm) (by omega)
  have hD1:Dw 1 (a%b)=.lst [(PV.i .u32 ((a%b:Nat):Int))]:=by
   have e:tab 1 (fun k=>(PV.i .u32 ((dgt (a%b) k:Nat):Int)))=[(PV.i .u32 ((dgt (a%b) 0:Nat):Int))]:=rfl
   rw[Dw,e,zfu,Nat.mod_eq_of_lt hm]
  rw[hD1] at hn2
  have hl1:((wlen b:Nat):Int)=1:=by omega
  refine zab (xf:=ztO) rfl (by simp[ztO]) ?_
  simp only[ztO]
  simp(disch:=omega)only[go_sem,seval,wqq,hcmp,hc,hl1,hi,hs,hn1,group,List.headD_cons,hn2]
 ·have htop0:dgt b (wlen b-1)≠0:=by
   have h1:=zeL hb
   have h2:=zad b
   rw[zae]
   have h3:0<b/4294967296^(wlen b-1):=Nat.div_pos h1 (zbq _)
   have h4:b/4294967296^(wlen b-1)<4294967296:=by rw[Nat.div_lt_iff_lt_mul (zbq _),Nat.mul_comm,zmd (by omega)];exact h2
   rw[Nat.mod_eq_of_lt h4];omega
  have htl:=zam b (wlen b-1)
  obtain⟨l1,l2,l3⟩:=zly htl htop0
  have hlead:=zn3 (dgt b (wlen b-1)) htl
  have hi:=zaD (n:=wlen b) (v:=b) (j:=wlen b-1) (by omega)
  generalize hby:32-bits32 (dgt b (wlen b-1))=by_ at *
  generalize hn:wlen b=n at *
  generalize hm:wlen a=m at *
  have ha:=zad a
  have hbl:=zad b
  rw[hm] at ha
  rw[hn] at hbl
  have hp32:2^by_≤2147483648:=by
   have:=Nat.pow_le_pow_right (show 0<2 by decide) (show by_≤31 by omega)
   exact this
  have hpp:0<2^by_:=Nat.pow_pos (by decide)
  have hbhi:b/4294967296^(n-1)=dgt b (n-1):=by
   have h4:b/4294967296^(n-1)<4294967296:=by rw[Nat.div_lt_iff_lt_mul (zbq _),Nat.mul_comm,zmd (by omega)];exact hbl
   rw[zae,Nat.mod_eq_of_lt h4]
  have hvB:b*2^by_<4294967296^n:=by
   have h1:=Nat.lt_mul_div_succ b (zbq (n-1))
   rw[hbhi] at h1
   have h2:(dgt b (n-1)+1)*2^by_≤4294967296:=by
    have e:(4294967296:Nat)=2^by_*2^(32-by_):=by rw[←Nat.pow_add,show by_+(32-by_)=32 by omega]
    have h3:dgt b (n-1)<2^(32-by_):=by
     have h4:dgt b (n-1)*2^by_<2^(32-by_)*2^by_:=by rw[Nat.mul_comm (2^(32-by_)),←e];exact l2
     exact Nat.lt_of_mul_lt_mul_right h4
    calc (dgt b (n-1)+1)*2^by_≤2^(32-by_)*2^by_:=Nat.mul_le_mul_right _ h3
     _=4294967296:=by rw[Nat.mul_comm,←e]
   calc b*2^by_<4294967296^(n-1)*(dgt b (n-1)+1)*2^by_:=Nat.mul_lt_mul_of_pos_right h1 hpp
    _=4294967296^(n-1)*((dgt b (n-1)+1)*2^by_):=Nat.mul_assoc ..
    _≤4294967296^(n-1)*4294967296:=Nat.mul_le_mul_left _ h2
    _=4294967296^n:=zmd (by omega)
  have hvlo:2147483648*4294967296^(n-1)≤b*2^by_:=by
   have h1:=Nat.div_mul_le_self b (4294967296^(n-1))
   rw[hbhi] at h1
   calc 2147483648*4294967296^(n-1)≤dgt b (n-1)*2^by_*4294967296^(n-1):=Nat.mul_le_mul_right _ l1
    _=dgt b (n-1)*4294967296^(n-1)*2^by_:=by rw[Nat.mul_assoc,Nat.mul_comm (2^by_),←Nat.mul_assoc]
    _≤b*2^by_:=Nat.mul_le_mul_right _ h1
  have htop:2147483648≤dgt (b*2^by_) (n-1):=by
   have h4:b*2^by_/4294967296^(n-1)<4294967296:=by rw[Nat.div_lt_iff_lt_mul (zbq _),Nat.mul_comm 4294967296,zmd (by omega)];exact hvB
   rw[zae,Nat.mod_eq_of_lt h4,Nat.le_div_iff_mul_le (zbq _)]
   exact hvlo
  have hA:a*2^by_<b*2^by_*4294967296^(m-n+1):=by
   calc a*2^by_<4294967296^m*2^by_:=Nat.mul_lt_mul_of_pos_right ha hpp
    _≤4294967296^m*2147483648:=Nat.mul_le_mul_left _ hp32
    _=2147483648*4294967296^(n-1)*4294967296^(m-n+1):=by rw[Nat.mul_comm,Nat.mul_assoc,←Nat.pow_add];congr 2;omega
    _≤b*2^by_*4294967296^(m-n+1):=Nat.mul_le_mul_right _ hvlo
  have hAq:a*2^by_/(b*2^by_)=a/b:=Nat.mul_div_mul_right _ _ hpp
  have hAr:a*2^by_%(b*2^by_)=a%b*2^by_:=Nat.mul_mod_mul_right ..
  obtain⟨e1,sh1⟩:=ze5 [] (n:=m) (a:=a) (by_:=by_) (by omega) l3 ha
  obtain⟨e2,sh2⟩:=ze5 ([]++[some ⟨tab (m+1) (fun k=>(PV.i .u32 ((dgt (a*2^by_) k:Nat):Int))),true,e1⟩]) (n:=n) (a:=b) (by_:=by_) (by omega) l3 hbl
  simp only[List.nil_append,List.length_nil,List.length_cons,Nat.zero_add,List.cons_append] at sh1 sh2
  have hDa:D a=Dw m a:=by rw[D,hm]
  have hDb:D b=Dw n b:=by rw[D,hn]
  rw[hDa,hDb] at hcmp ⊢
  have t1:=zam (b*2^by_) (n-1)
  have t2:=zam (b*2^by_) (n-2)
  have q1:((n:Int)-1)=((n-1:Nat):Int):=by omega
  have q2:((n:Int)-2)=((n-2:Nat):Int):=by omega
  have q3:((m:Int)-(n:Int)+1)=((m-n+1:Nat):Int):=by omega
  have q4:((n:Int)=1)=False:=by simp;omega
  have g1:n-1<n+1:=by omega
  have g2:n-2<n+1:=by omega
  have g1':n-1<n:=by omega
  have g2':n-2<n:=by omega
  have hg1:(tab (n+1) fun k=>(PV.i .u32 ((dgt (b*2^by_) k:Nat):Int)))[n-1]?=some (PV.i .u32 ((dgt (b*2^by_) (n-1):Nat):Int)):=zaR g1
  have hg2:(tab (n+1) fun k=>(PV.i .u32 ((dgt (b*2^by_) k:Nat):Int)))[n-2]?=some (PV.i .u32 ((dgt (b*2^by_) (n-2):Nat):Int)):=zaR g2
  have hsl:slP 1 (.sl 1 0 (n+1) (n+1) 1) none (some (.i .i64 (n:Int))) none=some (.sl 1 0 n (n+1) 1):=by
   simp only[slP,ne_eq,not_true_eq_false,if_false,optP,zcU,Option.isSome_none,Bool.false_eq_true,false_implies,and_true,Nat.le_refl,Nat.mul_one,Nat.zero_le,true_and,Nat.sub_zero,Nat.zero_add,Nat.add_zero,Nat.zero_mul]
   rw[if_pos (by omega),if_neg (by omega)]
  refine zab (xf:=ztO) rfl (by simp[ztO]) ?_
  simp only[ztO]
  simp(disch:=omega)only[go_sem,seval,wqq,hcmp,hc,q4,q1,hi,hlead,sh1,sh2,hsl,q2,q3,zck,g1,g2,g1',g2',hg1,hg2]
  refine zjj (n:=n) (N:=m+1) (L:=m-n+1) (A:=a*2^by_) (v:=b*2^by_) (S:=.i .i64 (by_:Int)) (b1:=e2) (by omega) (by omega) (by omega) hvB htop hA ⟨by simp only[go_sem,seval],by simp only[go_sem,seval],by simp only[go_sem,seval],by simp only[go_sem,seval],by simp only[go_sem,seval],by simp only[go_sem,seval],by simp only[go_sem,seval]⟩ (by simp only[go_sem,seval]) rfl fun fr' e0 e3 Cs p=>?_
  obtain⟨p8,p9,p10,p11,p12,p13,p14⟩:=p
  rw[hAq,hAr]
  have hq:a/b<4294967296^(m-n+1):=by
   rw[Nat.div_lt_iff_lt_mul (by omega)]
   have h1:=Nat.lt_of_mul_lt_mul_right (a:=2^by_) (show a*2^by_<4294967296^(m-n+1)*b*2^by_ by rw[Nat.mul_assoc,Nat.mul_comm (4294967296^(m-n+1))];exact hA)
   exact h1
  have hr:a%b<4294967296^n:=Nat.lt_trans (Nat.mod_lt _ (by omega)) hbl
  have hn1:=zbP hq (by omega)
  have hn2:=zbP hr (by omega)
  have hback:a%b*2^by_/2^by_=a%b:=Nat.mul_div_cancel _ hpp
  have hn0:n≠0:=by omega
  simp(disch:=omega)only[go_sem,seval,wqq,p11,zck]
  refine ziK (n:=n) (N:=m+1) (U:=a%b*2^by_) (by_:=by_) (Cs:=Cs) (O:=.sl 2 0 (m-n+1) (m-n+1) 1) (by omega) (by omega) l3 (by simp only[go_sem,seval,p8]) (by simp only[go_sem,seval,p9]) (by simp only[go_sem,seval,p12]) (by simp only[go_sem,seval]) (by simp only[go_sem,seval]) (by simp only[go_sem,seval]) rfl fun fr2 e4 g12 g22=>?_
  have hL0:¬(m-n+1=0):=by omega
  rw[hback]
  simp(disch:=omega)only[go_sem,seval,wqq,g12,g22,hL0,hn0,hn1,hn2,zb3,zeH]
end Go.Eng
namespace Go.Eng
theorem zba {a b:Nat} (h:a≤b):wlen a≤wlen b:=by
 rw[zaF];exact Nat.lt_of_le_of_lt h (zad b)
theorem zg0 {x:WI} {z:Int} (h:z.natAbs≤x.v.natAbs):wlen z.natAbs≤512:=Nat.le_trans (zba h) x.lim
theorem zjl (a b:Int):(a/b).natAbs≤a.natAbs:=Int.natAbs_ediv_le_natAbs a b
theorem zjm (a b:Int) (hb:b≠0):(a%b).natAbs≤b.natAbs:=by
 have:=Int.emod_nonneg a hb
 have h2:=Int.emod_lt a hb
 omega
def WI.div (x y:WI) (h:y.v≠0):WI:=⟨x.v/y.v,zg0 (zjl _ _)⟩
def WI.mod (x y:WI) (h:y.v≠0):WI:=⟨x.v%y.v,zg0 (zjm _ _ h)⟩
@[go_sem] theorem zpv (a o b o':Nat):apart (.p a o) (.p b o')=(a≠b):=_root_.id rfl
theorem zkf:wlen 1=1:=Nat.le_antisymm (zcJ (by decide)) (zaQ (by decide))
theorem zqk {w:Nat} (h:w<4294967296):PV.lst (group 1 1 [(PV.i .u32 ((w:Nat):Int))])=Dw 1 w:=by
 rw[zdj _ _ (by rfl),Dw]
 have:tab 1 (fun k=>(PV.i .u32 ((dgt w k:Nat):Int)))=[(PV.i .u32 ((dgt w 0:Nat):Int))]:=rfl
 rw[this,zfu,Nat.mod_eq_of_lt h]
theorem zqj:PV.lst (group 1 1 [.i .u32 1])=Dw 1 1:=zqk (w:=1) (by decide)
theorem zlb {a b q r:Int} (hb:b≠0) (h1:r+b*q=a) (h2:0≤r) (h3:r<b.natAbs):a/b=q∧a%b=r:=by
 by_cases h:0<b
 ·exact(Int.ediv_emod_unique h).2 ⟨h1,h2,by omega⟩
 ·obtain⟨c,rfl⟩:∃c,b = -c:=⟨-b,by omega⟩
  have hc:0<c:=by omega
  have:=(Int.ediv_emod_unique (a:=a) (b:=c) (q := -q) (r:=r) hc).2 ⟨by rw[Int.mul_neg];rw[Int.neg_mul] at h1;omega,h2,by omega⟩
  rw[Int.ediv_neg,Int.emod_neg,this.1,this.2]
  exact⟨by omega,rfl⟩
theorem zej {x y:Int} {q r:Nat} (hy:y≠0) (h1:(y.natAbs*q:Nat)+(if x<0 then-(r:Int) else r)=x.natAbs) (h2:r<y.natAbs) :
  (if (decide (x<0) != decide (y<0))=true then-(q:Int) else (q:Int))=x/y∧(r:Int)=x%y:=by
 have key:∀z:Int,z=(if (decide (x<0) != decide (y<0))=true then-(q:Int) else (q:Int))→z=x/y∧(r:Int)=x%y:=by
  intro z hz
  have:=zlb (a:=x) (b:=y) (q:=z) (r:=r) hy ?_ (by omega) (by omega)
  ·exact⟨this.1.symm,this.2.symm⟩
  ·subst hz
   rw[Int.natCast_mul] at h1
   by_cases h:x<0
   ·by_cases h':y<0
    ·have e:(y.natAbs:Int) = -y:=by omega
     rw[e,Int.neg_mul] at h1
     simp[h,h',Int.mul_neg] at h1 ⊢;omega
    ·have e:(y.natAbs:Int)=y:=by omega
     rw[e] at h1
     simp[h,h',Int.mul_neg] at h1 ⊢;omega
   ·by_cases h':y<0
    ·have e:(y.natAbs:Int) = -y:=by omega
     rw[e,Int.neg_mul] at h1
     simp[h,h',Int.mul_neg] at h1 ⊢;omega
    ·have e:(y.natAbs:Int)=y:=by omega
     rw[e] at h1
     simp[h,h',Int.mul_neg] at h1 ⊢;omega
 exact key _ rfl
theorem zn1 (x y:WI) (h:y.v≠0):pf E0 29 [wiP x,wiP y]=some (.tu [wiP (x.div y h),wiP (x.mod y h),.i .i64 0]):=by
 refine zab (xf:=zuS) rfl (by simp[zuS]) ?_
 simp only[zuS]
 have lx:=x.lim
 have ly:=y.lim
 have hy:y.v.natAbs≠0:=by omega
 have hyp:=zaQ hy
 have hd:=zgA hy (a:=x.v.natAbs) (by omega) (by omega)
 have hl:((wlen y.v.natAbs:Int)=0)=False:=by simp;omega
 have dm:=Nat.div_add_mod x.v.natAbs y.v.natAbs
 have ml:=Nat.mod_lt x.v.natAbs (Nat.pos_of_ne_zero hy)
 have dl:=Nat.div_le_self x.v.natAbs y.v.natAbs
 have ld:=zba dl
 have lm:=zba (Nat.le_of_lt ml)
 have cd:clip (x.v/y.v)=x.div y h:=zbz _
 have cm:clip (x.v%y.v)=x.mod y h:=zbz _
 generalize x.v.natAbs/y.v.natAbs=q at *
 generalize x.v.natAbs%y.v.natAbs=r at *
 by_cases hx:x.v<0
 ·by_cases hr:r=0
  ·have hf:=zej (q:=q) (r:=0) h (by rw[if_pos hx];omega) (by omega)
   have s1:pf E0 36 [.b (!(decide (x.v<0)==decide (y.v<0))),Dw (wlen q) q]=_:=zax (decide (x.v<0) != decide (y.v<0)) (wlen q) q (zad _) (by omega)
   have s2:=zax false (wlen 0) 0 (zad _) (by decide)
   rw[if_neg (by simp),hf.2,cm] at s2
   rw[hf.1,cd] at s1
   simp only[hx,decide_true] at s1
   subst hr
   simp(disch:=omega)only[go_sem,seval,wqq,hl,hd,hx,show wlen 0=0 from rfl,Int.natCast_zero,s1]
   rw[show wlen 0=0 from rfl] at s2
   simp(disch:=omega)only[go_sem,seval,wqq,s2]
   refine zc6 ⟨.inr ⟨11,4,rfl,by simp only[go_sem,seval]⟩,trivial⟩ ?_
   simp(disch:=omega)only[go_sem,seval,wqq]
  ·have hf:=zej (q:=q+1) (r:=y.v.natAbs-r) h (by rw[if_pos hx,Nat.mul_add];omega) (by omega)
   have hs:=zog (n:=wlen q) (m:=1) (b:=1) (zad q) (by decide) (by omega) (by omega)
   have s1:pf E0 36 [.b (!(decide (x.v<0)==decide (y.v<0))),Dw (max (wlen q) 1+1) (q+1)]=_:=zax (decide (x.v<0) != decide (y.v<0)) _ _ (by simpa [zkf] using zhX (a:=q) (b:=1)) (by omega)
   have hdf:=za0 (a:=y.v.natAbs) (b:=r) (s:=y.v.natAbs-r) (by omega) (zad _) (by omega) (by omega) (zad y.v.natAbs)
   have s2:=zax false (wlen y.v.natAbs) (y.v.natAbs-r) (Nat.lt_of_le_of_lt (Nat.sub_le _ _) (zad _)) (by omega)
   rw[if_neg (by simp),hf.2,cm] at s2
   rw[hf.1,cd] at s1
   simp only[hx,decide_true] at s1
   have hl2:((wlen r:Int)>0)=True:=by have:=zaQ hr;simp;omega
   simp(disch:=omega)only[go_sem,seval,wqq,hl,hd,hx,hl2,hs,zqj]
   simp(disch:=omega)only[go_sem,seval,wqq,s1,hdf,s2]
   refine zc6 ⟨.inr ⟨11,4,rfl,by simp only[go_sem,seval]⟩,trivial⟩ ?_
   simp(disch:=omega)only[go_sem,seval,wqq]
 ·have hf:=zej (q:=q) (r:=r) h (by rw[if_neg hx];omega) (by omega)
  have s1:pf E0 36 [.b (!(decide (x.v<0)==decide (y.v<0))),Dw (wlen q) q]=_:=zax (decide (x.v<0) != decide (y.v<0)) (wlen q) q (zad _) (by omega)
  have s2:=zax false (wlen r) r (zad _) (by omega)
  rw[if_neg (by simp),hf.2,cm] at s2
  rw[hf.1,cd] at s1
  simp only[hx,decide_false] at s1
  simp(disch:=omega)only[go_sem,seval,wqq,hl,hd,hx,s1]
  simp(disch:=omega)only[go_sem,seval,wqq,s2]
  refine zc6 ⟨.inr ⟨11,4,rfl,by simp only[go_sem,seval]⟩,trivial⟩ ?_
  simp(disch:=omega)only[go_sem,seval,wqq]
theorem zlo (x y:WI):wlen (Nat.gcd x.v.natAbs y.v.natAbs)≤512:=by
 by_cases h:x.v.natAbs=0
 ·rw[h,Nat.gcd_zero_left];exact y.lim
 ·exact Nat.le_trans (zba (Nat.gcd_le_left _ (Nat.pos_of_ne_zero h))) x.lim
def WI.gcd (x y:WI):WI:=⟨(Nat.gcd x.v.natAbs y.v.natAbs:Nat),by rw[Int.natAbs_natCast];exact zlo x y⟩
theorem zhd (x y:WI):pf E0 18 [wiP x,wiP y]=some (wiP (x.gcd y)):=by
 refine zab (xf:=zuZ) rfl (by simp[zuZ]) ?_
 simp only[zuZ]
 have lx:=x.lim
 have ly:=y.lim
 have cg:clip ((Nat.gcd x.v.natAbs y.v.natAbs:Nat):Int)=x.gcd y:=zbz _
 simp(disch:=omega)only[go_sem,seval,wqq]
 refine zag zvK.eq_1 (fun(p:Nat×Nat) fr M=>Nat.gcd p.1 p.2=Nat.gcd x.v.natAbs y.v.natAbs∧wlen p.1≤512∧wlen p.2≤512∧fr 4=.p 2 0∧fr 5=D p.1∧fr 6=D p.2 ∧
  M=[some ⟨[.b (decide (x.v<0)),D x.v.natAbs],true,0⟩,some ⟨[.b (decide (y.v<0)),D y.v.natAbs],true,0⟩,some ⟨[.b false,.nl],true,0⟩]) (fun p=>p.2) ?_ (x.v.natAbs,y.v.natAbs) ⟨rfl,lx,ly,by simp only[go_sem,seval],by simp only[go_sem,seval],by simp only[go_sem,seval],rfl⟩
 rintro⟨a,b⟩ fr M ⟨hg,la,lb,h4,h5,h6,rfl⟩ ih
 simp only at hg la lb h5 h6
 by_cases hb:b=0
 ·subst hb
  rw[Nat.gcd_zero_right] at hg
  subst hg
  have s1:=zax false (wlen (Nat.gcd x.v.natAbs y.v.natAbs)) _ (zad _) (by omega)
  rw[if_neg (by simp),cg] at s1
  simp(disch:=omega)only[go_sem,seval,wqq,h4,h5,h6,show wlen 0=0 from rfl,Int.natCast_zero,Int.lt_irrefl,s1]
 ·have hbp:=zaQ hb
  have hd:=zgA hb (a:=a) (by omega) (by omega)
  have hl:((wlen b:Int)>0)=True:=by simp;omega
  have ml:=Nat.mod_lt a (Nat.pos_of_ne_zero hb)
  have lm:=zba (Nat.le_of_lt ml)
  simp(disch:=omega)only[go_sem,seval,wqq,h4,h5,h6,hl,hd]
  refine ih (b,a%b) _ _ ml ⟨by rw[←hg,Nat.gcd_comm b,←Nat.gcd_rec,Nat.gcd_comm],lb,by show wlen (a%b)≤512;omega,by simp only[go_sem,seval,h4],by simp only[go_sem,seval],by simp only[go_sem,seval],rfl⟩
attribute [go_sem] zhd
end Go.Eng
namespace Go.Eng
theorem zkV:∃f:Nat→Nat→Nat,∀v i,f v i=v/10000^i%10000:=⟨fun v i=>v/10000^i%10000,fun _ _=>rfl⟩
noncomputable def tdg:Nat→Nat→Nat:=Classical.choose zkV
theorem zap (v i:Nat):tdg v i=v/10000^i%10000:=Classical.choose_spec zkV v i
theorem zd9 (i:Nat):0<10000^i:=Nat.pow_pos (by decide)
theorem zoD (v i:Nat):tdg v i<10000:=by rw[zap];exact Nat.mod_lt _ (by decide)
theorem zj9 (i:Nat):tdg 0 i=0:=by simp[zap]
theorem zbi (v i:Nat):v%10000^(i+1)=v%10000^i+10000^i*tdg v i:=by
 rw[zap,Nat.pow_succ,Nat.mod_mul]
theorem ziV:∃f:Nat→Nat,∀v n,f v≤n↔v<10000^n:=by
 have key:∀v:Nat,∃m,∀n,m≤n↔v<10000^n:=by
  intro v
  induction v using Nat.strongRecOn with
  | _ v ih =>
   by_cases h:v=0
   ·subst h;exact⟨0,fun n=>⟨fun _=>zd9 n,fun _=>Nat.zero_le _⟩⟩
   ·obtain⟨m,hm⟩:=ih (v/10000) (Nat.div_lt_self (by omega) (by decide))
    refine⟨m+1,fun n=>?_⟩
    cases n with
    | zero=>simp;omega
    | succ n =>
     rw[Nat.pow_succ,←Nat.div_lt_iff_lt_mul (by decide),←hm n];omega
 exact⟨fun v=>Classical.choose (key v),fun v=>Classical.choose_spec (key v)⟩
noncomputable def tlen:Nat→Nat:=Classical.choose ziV
theorem zaU {v n:Nat}:tlen v≤n↔v<10000^n:=Classical.choose_spec ziV v n
theorem zau (v:Nat):v<10000^tlen v:=zaU.1 (Nat.le_refl _)
theorem zbh:tlen 0=0:=by have:tlen 0≤0:=zaU.2 (by decide);omega
theorem zgW {v:Nat} (h:v≠0):0<tlen v:=by
 rcases Nat.eq_zero_or_pos (tlen v) with h0|h0
 ·have:=zau v;rw[h0] at this;simp at this;omega
 ·exact h0
theorem zaK {a b:Nat} (h:a≤b):tlen a≤tlen b:=by
 rw[zaU];exact Nat.lt_of_le_of_lt h (zau b)
noncomputable def Tw (n v:Nat):PV:=.lst (tab n fun k=>(PV.i .i64 ((tdg v k:Nat):Int)))
noncomputable abbrev T (v:Nat):PV:=Tw (tlen v) v
noncomputable def nP (z:Int):PV:=.ag [.b (decide (z<0)),T z.natAbs]
@[go_sem] theorem ztd (M:PM) (d n v:Nat):fz M (d+1) (Tw n v)=some (Tw n v,[]):=_root_.id rfl
@[go_sem] theorem zte (M:PM) (d:Nat) (z:Int):fz M (d+1+1) (nP z)=some (nP z,[]):=_root_.id rfl
@[go_sem] theorem zoS (n v:Nat):(Tw n v).cells=[Tw n v]:=_root_.id rfl
@[go_sem] theorem zoU (z:Int):(nP z).cells=[.b (decide (z<0)),T z.natAbs]:=_root_.id rfl
@[go_sem] theorem zq9 (n v:Nat):(Tw n v).scal=true:=_root_.id rfl
@[go_sem] theorem zqe (n v:Nat):lenP (Tw n v)=some (.i .i64 (n:Int)):=by simp[Tw,lenP]
theorem zb9 {n v j:Nat} (h:j<n):idxP 1 (Tw n v) (some j)=some (.fp [(PV.i .i64 ((tdg v j:Nat):Int))]):=by
 rw[Tw,zcj,zaR h];rfl
@[go_sem] theorem zp0 (n v:Nat):PV.lst (tab n fun k=>(PV.i .i64 ((tdg v k:Nat):Int)))=Tw n v:=_root_.id rfl
theorem zdx {a n i:Nat} (h:a<10000^n) (hi:n≤i):tdg a i=0:=by
 rw[zap,Nat.div_eq_of_lt (Nat.lt_of_lt_of_le h (Nat.pow_le_pow_right (by decide) hi)),Nat.zero_mod]
theorem zo8 {n v i:Nat} (hv:v<10000^n) (hi:i<1099511627776) (hn:n<1099511627776):pf E0 147 [Tw n v,(PV.i .i64 ((i:Nat):Int))]=some (PV.i .i64 ((tdg v i:Nat):Int)):=by
 refine zab (xf:=zvl) rfl (by simp[zvl]) ?_
 simp only[zvl]
 by_cases h:i<n
 ·have hc:((i:Int)<(n:Int))=True:=by simp;omega
  simp(disch:=omega)only[go_sem,seval,wqq,hc,zb9]
 ·have hc:((i:Int)<(n:Int))=False:=by simp;omega
  rw[zdx hv (by omega)]
  simp(disch:=omega)only[go_sem,seval,wqq,hc,Int.natCast_zero]
end Go.Eng
namespace Go.Eng
theorem zoy (n v k:Nat) (h:k≤n):slP 1 (Tw n v) none (some (.i .i64 (k:Int))) none=some (Tw k v):=by
 have hz:ez 1 (tab n fun k=>(PV.i .i64 ((tdg v k:Nat):Int)))=true:=by
  unfold ez tab
  simp[PV.cells]
 simp only[slP,Tw,Option.isSome_none,Bool.false_eq_true,if_false,optP,zcU,hz,zbw]
 rw[if_pos ⟨by omega,h,trivial⟩,List.drop_zero,zgU _ _ _ h]
@[go_sem] theorem zp2 (z:Int):PV.ag [.b (decide (z<0)),T z.natAbs]=nP z:=_root_.id rfl
def sgn (neg:Bool) (v:Nat):Int:=if neg then-(v:Int) else v
theorem zkP (neg:Bool) (v:Nat):PV.ag [.b (neg&&decide (0<v)),T v]=nP (sgn neg v):=by
 unfold nP sgn
 cases neg
 ·simp
 ·by_cases h:v=0
  ·subst h;simp
  ·simp[show 0<v by omega]
theorem zbd (neg:Bool) (n v:Nat) (hv:v<10000^n) (hn:n<1099511627776):pf E0 132 [.b neg,Tw n v]=some (nP (sgn neg v)):=by
 refine zab (xf:=zuv) rfl (by simp[zuv]) ?_
 simp only[zuv]
 simp only[go_sem,seval]
 refine zag zvs.eq_1 (fun(m:Nat) fr M=>fr 0=.b neg∧fr 1=Tw m v∧fr 4=.p 0 0∧v<10000^m∧m≤n∧M=[some ⟨[.b false,.nl],true,0⟩]) id ?_ n ⟨by simp only[go_sem,seval],by simp only[go_sem,seval],by simp only[go_sem,seval],hv,Nat.le_refl _,rfl⟩
 rintro m fr M ⟨hh,h0,h4,h1,h2,rfl⟩ ih
 by_cases hm:m=0
 ·subst hm
  have hv0:v=0:=by simpa using h1
  subst hv0
  have e0:Tw 0 0=T 0:=by unfold T;rw[zbh]
  cases neg
  ·simp(disch:=omega)only[go_sem,seval,wqq,hh,h0,h4,Int.natCast_zero,Int.lt_irrefl]
   rw[e0];rfl
  ·simp(disch:=omega)only[go_sem,seval,wqq,hh,h0,h4,Int.natCast_zero,Int.lt_irrefl]
   rw[e0];rfl
 ·have hm':(0:Int)<(m:Int):=by omega
  have hm2:((m:Int)>0)=True:=by simp;omega
  simp(disch:=omega)only[go_sem,seval,wqq,h0,hm2,zar,zb9]
  have e:v=v%10000^(m-1)+10000^(m-1)*tdg v (m-1):=by
   rw[←zbi,show m-1+1=m by omega,Nat.mod_eq_of_lt h1]
  refine zcH (fun h=>?_) (fun h=>?_)
  ·have hd:tdg v (m-1)=0:=by omega
   rw[hd,Nat.mul_zero,Nat.add_zero] at e
   simp(disch:=omega)only[go_sem,seval,wqq,h0,zar,zoy]
   exact ih (m-1) _ _ (by simp only[id];omega) ⟨by simp only[go_sem,seval,hh],by simp only[go_sem,seval],by simp only[go_sem,seval,h4],by rw[e];exact Nat.mod_lt _ (zd9 _),by omega,rfl⟩
  ·have hd:tdg v (m-1)≠0:=by omega
   have hw:tlen v=m:=by
    have h3:tlen v≤m:=zaU.2 h1
    have h4:¬tlen v≤m-1:=fun q=>by
     have:=zaU.1 q
     apply hd
     rw[zap,Nat.div_eq_of_lt this]
    omega
   have hv0:decide (0<v)=true:=by
    refine decide_eq_true ?_
    rcases Nat.eq_zero_or_pos v with h|h
    ·subst h;rw[zbh] at hw;omega
    ·exact h
   cases neg
   ·simp(disch:=omega)only[go_sem,seval,wqq,hh,h0,h4,hm2]
    rw[←zkP,T,hw];rfl
   ·simp(disch:=omega)only[go_sem,seval,wqq,hh,h0,h4,hm2]
    rw[←zkP,T,hw,hv0];rfl
theorem zcE (a b:Nat) (ha:tlen a<1099511627776) (hb:tlen b<1099511627776):pf E0 134 [T a,T b]=some (.i .i64 (cmpI a b)):=by
 refine zab (xf:=zud) rfl (by simp[zud]) ?_
 simp only[zud]
 simp only[go_sem,seval]
 refine zcH (fun h=>?_) (fun h=>?_)
 ·simp only[go_sem,seval]
  have:a<b:=by
   rcases Nat.lt_or_ge a b with q|q
   ·exact q
   ·have:=zaK q;omega
  simp[cmpI];omega
 ·simp only[go_sem,seval]
  refine zcH (fun h'=>?_) (fun h'=>?_)
  ·simp only[go_sem,seval]
   have:b<a:=by
    rcases Nat.lt_or_ge b a with q|q
    ·exact q
    ·have:=zaK q;omega
   simp[cmpI];omega
  ·have hl:tlen a=tlen b:=by omega
   simp(disch:=omega)only[go_sem,seval,wqq]
   refine zag zvh.eq_1 (fun(m:Nat) fr M=>fr 0=T a∧fr 1=T b∧fr 5=.i .i64 ((m:Int)-1)∧a/10000^m=b/10000^m∧m≤tlen a∧M=[]) id ?_ (tlen a) ⟨by simp only[go_sem,seval],by simp only[go_sem,seval],by simp only[go_sem,seval],?_,Nat.le_refl _,rfl⟩
   ·rintro m fr M ⟨h0,h1,h6,hq,hm,rfl⟩ ih
    by_cases hm0:m=0
    ·subst hm0
     have hab:a=b:=by simpa using hq
     simp(disch:=omega)only[go_sem,seval,wqq,h6,Int.natCast_zero,Int.zero_sub,Int.reduceNeg,Int.reduceLE,ge_iff_le]
     subst hab
     simp[cmpI]
    ·have hm':((m:Int)-1≥0)=True:=by simp;omega
     have ia:(T a)=Tw (tlen a) a:=rfl
     have ib:(T b)=Tw (tlen b) b:=rfl
     have ea:a/10000^(m-1)=10000*(a/10000^m)+tdg a (m-1):=by
      rw[zap,show (10000:Nat)^m=10000^(m-1)*10000 by rw[←Nat.pow_succ];congr 1;omega,←Nat.div_div_eq_div_mul]
      exact(Nat.div_add_mod _ _).symm
     have eb:b/10000^(m-1)=10000*(b/10000^m)+tdg b (m-1):=by
      rw[zap,show (10000:Nat)^m=10000^(m-1)*10000 by rw[←Nat.pow_succ];congr 1;omega,←Nat.div_div_eq_div_mul]
      exact(Nat.div_add_mod _ _).symm
     have lt:∀x y:Nat,x/10000^(m-1)<y/10000^(m-1)→x<y:=fun x y h=>by
      by_cases q:x<y
      ·exact q
      ·have:=Nat.div_le_div_right (c:=10000^(m-1)) (show y≤x by omega)
       omega
     simp(disch:=omega)only[go_sem,seval,wqq,h0,h1,h6,hm',zar,ia,ib,zb9]
     refine zcH (fun h=>?_) (fun h=>?_)
     ·simp only[go_sem,seval]
      have:=lt a b (by omega)
      simp[cmpI];omega
     ·simp(disch:=omega)only[go_sem,seval,wqq,h0,h1,h6,hm',zar,ia,ib,zb9]
      refine zcH (fun h'=>?_) (fun h'=>?_)
      ·simp only[go_sem,seval]
       have:=lt b a (by omega)
       simp[cmpI];omega
      ·simp(disch:=omega)only[go_sem,seval,wqq,h6,zar]
       exact ih (m-1) _ _ (by simp only[id];omega) ⟨by simp only[go_sem,seval,h0],by simp only[go_sem,seval,h1],by simp only[go_sem,seval],by omega,by omega,rfl⟩
   ·rw[Nat.div_eq_of_lt (zau a),hl,Nat.div_eq_of_lt (zau b)]
end Go.Eng
namespace Go.Eng
theorem zd3 (x y:Int) (hx:tlen x.natAbs<1099511627776) (hy:tlen y.natAbs<1099511627776):pf E0 124 [nP x,nP y]=some (.i .i64 (cmpI x y)):=by
 refine zab (xf:=zun) rfl (by simp[zun]) ?_
 simp only[zun]
 have c1:=zcE x.natAbs y.natAbs hx hy
 have c2:=zcE y.natAbs x.natAbs hy hx
 by_cases h:x<0
 ·by_cases h':y<0
  ·simp only[go_sem,seval,h,h',c2]
   unfold cmpI
   congr 2
   (repeat split)<;>omega
  ·simp only[go_sem,seval,h,h']
   unfold cmpI
   rw[if_pos (by omega)]
 ·by_cases h':y<0
  ·simp only[go_sem,seval,h,h']
   unfold cmpI
   rw[if_neg (by omega),if_pos (by omega)]
  ·simp only[go_sem,seval,h,h',c1]
   unfold cmpI
   congr 2
   (repeat split)<;>omega
theorem zoe (x:Int) (hx:tlen x.natAbs<1099511627776):pf E0 123 [nP x]=some (nP (-x)):=by
 refine zab (xf:=zvc) rfl (by simp[zvc]) ?_
 simp only[zvc]
 have c1:=zbd (!decide (x<0)) (tlen x.natAbs) x.natAbs (zau _) hx
 have e:sgn (!decide (x<0)) x.natAbs = -x:=by
  unfold sgn
  by_cases h:x<0
  ·simp[h];omega
  ·simp[h];omega
 rw[e] at c1
 simp only[go_sem,seval,c1]
def Grows (M:PM) (v:PV) (xs:List PV):Prop :=
 (xs=[]∧v=.nl)∨∃k e,v=.sl k 0 xs.length xs.length 1∧PM.blk M k=some ⟨xs,true,e⟩
def NotIn (v:PV) (j:Nat):Prop:=match v with | .sl k _ _ _ _=>k≠j|_=>True
theorem zeb {by_:Nat} (hby:by_≤64) {M:PM} {v:PV} {xs:List PV} (h:Grows M v xs) (x:PV) (hl:xs.length<1000000000000) :
  ∃v' M',appP (M++[some (⟨[x],true,0⟩:PB)]) 1 by_ v (.sl M.length 0 1 1 1)=some (v',M')∧Grows M' v' (xs++[x])∧(∀j b,PM.blk M j=some b→NotIn v j→PM.blk M' j=some b∧NotIn v' j):=by
 have hs:srcP (M++[some (⟨[x],true,0⟩:PB)]) 1 (.sl M.length 0 1 1 1)=some (1,[x]):=by
  simp only[srcP,PM.rd,zb3];rfl
 rcases h with⟨rfl,rfl⟩|⟨k,e,rfl,hb⟩
 ·refine⟨.sl (M.length+1) 0 1 1 1,M++[some (⟨[x],true,0⟩:PB)]++[some (⟨[x],true,0⟩:PB)],?_,.inr ⟨M.length+1,0,rfl,?_⟩,?_⟩
  ·simp only[appP,hs];simp;omega
  ·have:=zb3 (M++[some (⟨[x],true,0⟩:PB)]) (some (⟨[x],true,0⟩:PB))
   simpa using this
  ·intro j b hj _
   have hlt:=zeP hj
   refine⟨?_,?_⟩
   ·rw[zav] at hj ⊢
    rw[List.getElem?_append_left (by simp;omega),List.getElem?_append_left hlt];exact hj
   ·simp[NotIn];omega
 ·have hlt:=zeP hb
  refine⟨.sl (M.length+1) 0 (xs.length+1) (xs.length+1) 1,(M++[some (⟨[x],true,0⟩:PB)]).set k none++[some (⟨xs++[x],true,0⟩:PB)],?_,.inr ⟨M.length+1,0,by simp,?_⟩,?_⟩
  ·have hb':PM.blk (M++[some (⟨[x],true,0⟩:PB)]) k=some ⟨xs,true,e⟩:=by
    rw[zav] at hb ⊢
    rw[List.getElem?_append_left hlt];exact hb
   simp only[appP,hs,hb']
   have:(xs.length+1)*by_≤(xs.length+1)*64:=Nat.mul_le_mul_left _ hby
   simp
   omega
  ·have:=zb3 ((M++[some (⟨[x],true,0⟩:PB)]).set k none) (some (⟨xs++[x],true,0⟩:PB))
   simpa using this
  ·intro j b hj hne
   have hltj:=zeP hj
   refine⟨?_,?_⟩
   ·rw[zav] at hj ⊢
    rw[List.getElem?_append_left (by simp;omega),List.getElem?_set_ne hne,List.getElem?_append_left hltj];exact hj
   ·simp[NotIn];omega
theorem zfj {M:PM} {v:PV} {xs:List PV} (h:Grows M v xs) (x:PV) (hl:xs.length<1000000000000) :
  ∃v' M',appP (M++[some (⟨[x],true,0⟩:PB)]) 1 8 v (.sl M.length 0 1 1 1)=some (v',M')∧Grows M' v' (xs++[x])∧(∀j b,PM.blk M j=some b→NotIn v j→PM.blk M' j=some b∧NotIn v' j):=zeb (by decide) h x hl
theorem zeJ {α:Type} (n:Nat) (f:Nat→α):tab n f++[f n]=tab (n+1) f:=by
 simp[tab,List.range_succ]
theorem zkt {M:PM} {v:PV} {n:Nat} {g:Nat→Int} (d:Nat) (h:Grows M v (tab n fun k=>PV.i .i64 (g k))):(fz M (d+1+1) v).map Prod.fst=some (.lst (tab n fun k=>PV.i .i64 (g k))):=by
 rcases h with⟨h,rfl⟩|⟨k,e,rfl,hb⟩
 ·rw[h];rfl
 ·simp(disch:=omega)only[go_sem,seval,wqq,hb]
  by_cases hn:n=0
  ·rw[if_pos hn,hn];rfl
  ·rw[if_neg hn];rfl
theorem ziU (a b i:Nat):tdg (a+b) i=(tdg a i+tdg b i+(a%10000^i+b%10000^i)/10000^i)%10000 ∧
  (a%10000^(i+1)+b%10000^(i+1))/10000^(i+1)=(tdg a i+tdg b i+(a%10000^i+b%10000^i)/10000^i)/10000:=by
 have hp:=zd9 i
 rw[zbi,zbi,zap,zap,zap,Nat.pow_succ]
 have ea:=Nat.mod_add_div a (10000^i)
 have eb:=Nat.mod_add_div b (10000^i)
 generalize 10000^i=P at *
 generalize hx:a%P=x at *
 generalize hy:b%P=y at *
 generalize a/P=u at *
 generalize b/P=w at *
 subst ea eb
 have e1:(x+P*u+(y+P*w))/P=(x+y)/P+(u+w):=by
  rw[show x+P*u+(y+P*w)=x+y+P*(u+w) by rw[Nat.mul_add];omega,Nat.add_mul_div_left _ _ hp]
 have e2:(x+P*(u%10000)+(y+P*(w%10000)))/P=(x+y)/P+(u%10000+w%10000):=by
  rw[show x+P*(u%10000)+(y+P*(w%10000))=x+y+P*(u%10000+w%10000) by rw[Nat.mul_add];omega,Nat.add_mul_div_left _ _ hp]
 rw[e1,←Nat.div_div_eq_div_mul,e2]
 generalize (x+y)/P=c
 omega
end Go.Eng
namespace Go.Eng
theorem zmb {E:PEnv} {f:Nat} {xf:XF} {args:List PV} {R:PV→Prop} (hp:E.prog f=some (.fn xf)) (hl:args.length≤xf.n) (w:WK E ⟨xf.res,fun w M2=>∃v,(fz M2 fzD w).map Prod.fst=some v∧R v⟩ xf.body [] (frOf args) []):∃v,pf E f args=some v∧R v:=by
 obtain⟨lf,q,fr',M',vs,e,h1,h2,v,h3,h4⟩:=w
 exact⟨v,zab hp hl ⟨lf,q,fr',M',vs,e,h1,h2,h3⟩,h4⟩
theorem zoc {n m a b:Nat} (ha:a<10000^n) (hb:b<10000^m) (hn:n<1000000000) (hm:m<1000000000) :
  ∃k,pf E0 133 [Tw n a,Tw m b]=some (Tw k (a+b))∧a+b<10000^k∧k≤max n m+1:=by
 suffices h:∃v,pf E0 133 [Tw n a,Tw m b]=some v∧∃k,v=Tw k (a+b)∧a+b<10000^k∧k≤max n m+1 by
  obtain⟨v,h1,k,rfl,h2⟩:=h
  exact⟨k,h1,h2⟩
 refine zmb (xf:=zuV) rfl (by simp[zuV]) ?_
 simp only[zuV]
 simp(disch:=omega)only[go_sem,seval,wqq,Int.natCast_zero]
 refine zag zvO.eq_1 (fun(i:Nat) fr M=>i≤max n m+1∧fr 0=Tw n a∧fr 1=Tw m b∧fr 6=(PV.i .i64 (((a%10000^i+b%10000^i)/10000^i:Nat):Int))∧fr 7=(PV.i .i64 ((i:Nat):Int))∧Grows M (fr 5) (tab i fun k=>(PV.i .i64 ((tdg (a+b) k:Nat):Int)))) (fun i=>max n m+1-i) ?_ 0 ⟨by omega,by simp only[go_sem,seval],by simp only[go_sem,seval],by simp only[go_sem,seval];try simp[Nat.mod_one],by simp only[go_sem,seval];try simp,.inl ⟨rfl,by simp only[go_sem,seval]⟩⟩
 rintro i fr M ⟨hi,h0,h1,h6,h7,hg⟩ ih
 obtain⟨t1,t2⟩:=ziU a b i
 have d1:tdg a i<10000:=by rw[zap];exact Nat.mod_lt _ (by decide)
 have d2:tdg b i<10000:=by rw[zap];exact Nat.mod_lt _ (by decide)
 have k1:=Nat.mod_lt a (zd9 i)
 have k2:=Nat.mod_lt b (zd9 i)
 have hc:(a%10000^i+b%10000^i)/10000^i≤1:=by
  have:(a%10000^i+b%10000^i)/10000^i<2:=by rw[Nat.div_lt_iff_lt_mul (zd9 i)];omega
  omega
 have hz:max n m≤i→(a%10000^i+b%10000^i)/10000^i=0→a+b<10000^i:=fun q z=>by
  have e1:a%10000^i=a:=Nat.mod_eq_of_lt (Nat.lt_of_lt_of_le ha (Nat.pow_le_pow_right (by decide) (by omega)))
  have e2:b%10000^i=b:=Nat.mod_eq_of_lt (Nat.lt_of_lt_of_le hb (Nat.pow_le_pow_right (by decide) (by omega)))
  rw[e1,e2] at z
  rcases Nat.div_eq_zero_iff.1 z with z|z
  ·have:=zd9 i;omega
  ·exact z
 have hz1:max n m+1≤i→(a%10000^i+b%10000^i)/10000^i=0:=fun q=>by
  obtain⟨j,rfl⟩:∃j,i=j+1:=⟨i-1,by omega⟩
  rw[(ziU a b j).2]
  have q1:tdg a j=0:=zdx ha (by omega)
  have q2:tdg b j=0:=zdx hb (by omega)
  have k1:=Nat.mod_lt a (zd9 j)
  have k2:=Nat.mod_lt b (zd9 j)
  have:(a%10000^j+b%10000^j)/10000^j<2:=by rw[Nat.div_lt_iff_lt_mul (zd9 j)];omega
  rw[q1,q2]
  generalize (a%10000^j+b%10000^j)/10000^j=z at *
  omega
 generalize hC:(a%10000^i+b%10000^i)/10000^i=c at *
 have pa:=zo8 (i:=i) ha (by omega) (by omega)
 have pb:=zo8 (i:=i) hb (by omega) (by omega)
 by_cases hlt:i<n∨i<m∨c≠0
 ·have hi':i<max n m+1:=by
   rcases Nat.lt_or_ge i (max n m+1) with q|q
   ·exact q
   ·have:=hz1 q;omega
  obtain⟨v',M',he,hg',_⟩:=zfj hg (PV.i .i64 ((tdg (a+b) i:Nat):Int)) (by simp;omega)
  rw[zeJ i fun k=>(PV.i .i64 ((tdg (a+b) k:Nat):Int))] at hg'
  have tm:((tdg a i:Int)+(tdg b i:Int)+(c:Int)).tmod 10000=((tdg (a+b) i:Nat):Int):=by
   rw[t1,←Int.natCast_add,←Int.natCast_add];exact zc1 _ 10000
  have td:((tdg a i:Int)+(tdg b i:Int)+(c:Int)).tdiv 10000=(((a%10000^(i+1)+b%10000^(i+1))/10000^(i+1):Nat):Int):=by
   rw[t2,←Int.natCast_add,←Int.natCast_add];exact zbU _ 10000
  have fin:∀(fr':PFr),fr' 0=Tw n a→fr' 1=Tw m b→fr' 6=(PV.i .i64 (((a%10000^(i+1)+b%10000^(i+1))/10000^(i+1):Nat):Int))→fr' 7=.i .i64 ((i:Int)+1)→fr' 5=v'→_:=fun fr' g0 g1 g6 g7 g5=>ih (i+1) fr' M' (by omega) ⟨by omega,g0,g1,g6,by rw[g7,Int.natCast_succ],by rw[g5];exact hg'⟩
  by_cases c1:i<n
  ·have q1:((i:Int)<(n:Int))=True:=by simp;omega
   simp(disch:=omega)only[go_sem,seval,wqq,h0,h1,h6,h7,q1,pa,pb,tm,he,td]
   exact fin _ (by simp only[go_sem,seval,h0]) (by simp only[go_sem,seval,h1]) (by simp only[go_sem,seval]) (by simp only[go_sem,seval]) (by simp only[go_sem,seval])
  ·have q1:((i:Int)<(n:Int))=False:=by simp;omega
   by_cases c2:i<m
   ·have q2:((i:Int)<(m:Int))=True:=by simp;omega
    simp(disch:=omega)only[go_sem,seval,wqq,h0,h1,h6,h7,q1,q2,pa,pb,tm,he,td]
    exact fin _ (by simp only[go_sem,seval,h0]) (by simp only[go_sem,seval,h1]) (by simp only[go_sem,seval]) (by simp only[go_sem,seval]) (by simp only[go_sem,seval])
   ·have q2:((i:Int)<(m:Int))=False:=by simp;omega
    have q3:((c:Int)>0)=True:=by simp;omega
    simp(disch:=omega)only[go_sem,seval,wqq,h0,h1,h6,h7,q1,q2,q3,pa,pb,tm,he,td]
    exact fin _ (by simp only[go_sem,seval,h0]) (by simp only[go_sem,seval,h1]) (by simp only[go_sem,seval]) (by simp only[go_sem,seval]) (by simp only[go_sem,seval])
 ·have q1:((i:Int)<(n:Int))=False:=by simp;omega
  have q2:((i:Int)<(m:Int))=False:=by simp;omega
  have q3:((c:Int)>0)=False:=by simp;omega
  simp(disch:=omega)only[go_sem,seval,wqq,h0,h1,h6,h7,q1,q2,q3]
  exact⟨_,zkt 10 hg,i,rfl,hz (by omega) (by omega),hi⟩
theorem zil {n m a b s:Nat} (hs:a=s+b) (ha:a<10000^n) (hb:b<10000^m) (hn:n<1000000000) (hm:m<1000000000) :
  pf E0 135 [Tw n a,Tw m b]=some (Tw n s):=by
 refine zab (xf:=zuD) rfl (by simp[zuD]) ?_
 simp only[zuD]
 simp(disch:=omega)only[go_sem,seval,wqq,Int.natCast_zero]
 refine zag zvG.eq_1 (fun(i:Nat) fr M=>i≤n∧fr 0=Tw n a∧fr 1=Tw m b∧fr 6=(PV.i .i64 (((s%10000^i+b%10000^i)/10000^i:Nat):Int))∧fr 7=(PV.i .i64 ((i:Nat):Int))∧Grows M (fr 5) (tab i fun k=>(PV.i .i64 ((tdg s k:Nat):Int)))) (fun i=>n-i) ?_ 0 ⟨by omega,by simp only[go_sem,seval],by simp only[go_sem,seval],by simp only[go_sem,seval];try simp[Nat.mod_one],by simp only[go_sem,seval];try simp,.inl ⟨rfl,by simp only[go_sem,seval]⟩⟩
 rintro i fr M ⟨hi,h0,h1,h6,h7,hg⟩ ih
 obtain⟨t1,t2⟩:=ziU s b i
 rw[←hs] at t1
 have d1:tdg s i<10000:=by rw[zap];exact Nat.mod_lt _ (by decide)
 have d2:tdg b i<10000:=by rw[zap];exact Nat.mod_lt _ (by decide)
 have hc:(s%10000^i+b%10000^i)/10000^i≤1:=by
  have k1:=Nat.mod_lt s (zd9 i)
  have k2:=Nat.mod_lt b (zd9 i)
  have:(s%10000^i+b%10000^i)/10000^i<2:=by rw[Nat.div_lt_iff_lt_mul (zd9 i)];omega
  omega
 have pa:=zo8 (i:=i) ha (by omega) (by omega)
 have pb:=zo8 (i:=i) hb (by omega) (by omega)
 by_cases hlt:i<n
 ·have q1:((i:Int)<(n:Int))=True:=by simp;omega
  have fin:∀(fr':PFr) (v':PV) (M':PM),Grows M' v' (tab (i+1) fun k=>(PV.i .i64 ((tdg s k:Nat):Int)))→fr' 0=Tw n a→fr' 1=Tw m b→fr' 6=(PV.i .i64 (((s%10000^(i+1)+b%10000^(i+1))/10000^(i+1):Nat):Int))→fr' 7=.i .i64 ((i:Int)+1)→fr' 5=v'→_:=fun fr' v' M' hg' g0 g1 g6 g7 g5=>ih (i+1) fr' M' (by omega) ⟨by omega,g0,g1,g6,by rw[g7,Int.natCast_succ],by rw[g5];exact hg'⟩
  obtain⟨v',M',he,hg',_⟩:=zfj hg (PV.i .i64 ((tdg s i:Nat):Int)) (by simp;omega)
  rw[zeJ i fun k=>(PV.i .i64 ((tdg s k:Nat):Int))] at hg'
  rw[t2] at fin
  generalize (s%10000^i+b%10000^i)/10000^i=c at *
  have hw:(tdg a i:Int)-(tdg b i:Int)-(c:Int)<10000 ∧ -10001<(tdg a i:Int)-(tdg b i:Int)-(c:Int):=by omega
  by_cases hneg:tdg s i+tdg b i+c<10000
  ·have q2:((tdg a i:Int)-(tdg b i:Int)-(c:Int)<0)=False:=by simp;omega
   have q3:(tdg a i:Int)-(tdg b i:Int)-(c:Int)=(tdg s i:Nat):=by omega
   have q4:(tdg s i+tdg b i+c)/10000=0:=by omega
   rw[q4] at fin
   simp(disch:=omega)only[go_sem,seval,wqq,h0,h1,h6,h7,q1,pa,pb,q2]
   simp(disch:=omega)only[go_sem,seval,wqq,h0,h1,h6,h7,q3,he]
   exact fin _ v' M' hg' (by simp only[go_sem,seval,h0]) (by simp only[go_sem,seval,h1]) (by simp only[go_sem,seval];try rfl) (by simp only[go_sem,seval]) (by simp only[go_sem,seval])
  ·have q2:((tdg a i:Int)-(tdg b i:Int)-(c:Int)<0)=True:=by simp;omega
   have q3:(tdg a i:Int)-(tdg b i:Int)-(c:Int)+10000=(tdg s i:Nat):=by omega
   have q4:(tdg s i+tdg b i+c)/10000=1:=by omega
   rw[q4] at fin
   simp(disch:=omega)only[go_sem,seval,wqq,h0,h1,h6,h7,q1,pa,pb,q2,q3,he]
   exact fin _ v' M' hg' (by simp only[go_sem,seval,h0]) (by simp only[go_sem,seval,h1]) (by simp only[go_sem,seval];try rfl) (by simp only[go_sem,seval]) (by simp only[go_sem,seval])
 ·have q1:((i:Int)<(n:Int))=False:=by simp;omega
  have:i=n:=by omega
  subst this
  simp(disch:=omega)only[go_sem,seval,wqq,h0,h1,h6,h7,q1]
  exact zkt 10 hg
end Go.Eng
namespace Go.Eng
theorem zmY {P T s c d r:Nat} (hP:0<P) (hT:T=s%P+P*c) (hs:s=T+P*d+P*10000*r) :
  s/P%10000=(c+d)%10000∧T+P*d=s%(P*10000)+P*10000*((c+d)/10000):=by
 have e1:s/P=c+d+10000*r:=by
  have h1:=Nat.div_add_mod s P
  have h2:P*(s/P)=P*(c+d+10000*r):=by
   rw[Nat.mul_add,Nat.mul_add,←Nat.mul_assoc];omega
  exact Nat.eq_of_mul_eq_mul_left hP h2
 have e2:s/P%10000=(c+d)%10000:=by omega
 refine⟨e2,?_⟩
 rw[Nat.mod_mul,e2,hT]
 have h3:=Nat.div_add_mod (c+d) 10000
 have h4:P*(c+d)=P*10000*((c+d)/10000)+P*((c+d)%10000):=by
  rw[Nat.mul_assoc,←Nat.mul_add,h3]
 rw[Nat.mul_add] at h4
 omega
theorem zkS (a i:Nat):a=a%10000^i+10000^i*tdg a i+10000^i*10000*(a/(10000^i*10000)):=by
 have h:=zbi a i
 have h2:=Nat.div_add_mod a (10000^i*10000)
 rw[Nat.pow_succ] at h
 omega
theorem zmn (P w b i j:Nat):P+w*10000^i*b=(P%10000^(i+j)+w*10000^i*(b%10000^j))+10000^(i+j)*(tdg P (i+j)+w*tdg b j)+10000^(i+j)*10000*(P/(10000^(i+j)*10000)+w*(b/(10000^j*10000))):=by
 have sp:=zkS P (i+j)
 have sb:=zkS b j
 rw[Nat.pow_add] at sp ⊢
 generalize 10000^i=p at *
 generalize 10000^j=q at *
 generalize P%(p*q)=r1 at *
 generalize P/(p*q*10000)=r2 at *
 generalize b%q=r3 at *
 generalize b/(q*10000)=r4 at *
 generalize tdg P (i+j)=r5 at *
 generalize tdg b j=r6 at *
 subst sp sb
 grind
theorem zka (a b:Nat):tlen (a+b)≤max (tlen a) (tlen b)+1:=by
 rw[zaU,Nat.pow_succ]
 have h1:=zau a
 have h2:=zau b
 have h3:10000^tlen a≤10000^max (tlen a) (tlen b):=Nat.pow_le_pow_right (by decide) (by omega)
 have h4:10000^tlen b≤10000^max (tlen a) (tlen b):=Nat.pow_le_pow_right (by decide) (by omega)
 omega
theorem zgC (x y:Int) (hx:tlen x.natAbs<100000000) (hy:tlen y.natAbs<100000000):pf E0 119 [nP x,nP y]=some (nP (x+y)):=by
 refine zab (xf:=zve) rfl (by simp[zve]) ?_
 simp only[zve]
 have c1:=zcE x.natAbs y.natAbs (by omega) (by omega)
 obtain⟨k,hk1,hk2,hk3⟩:=zoc (zau x.natAbs) (zau y.natAbs) (by omega) (by omega)
 have n1:=zbd (decide (x<0)) k (x.natAbs+y.natAbs) hk2 (by omega)
 by_cases hs:(decide (x<0))=decide (y<0)
 ·have e1:sgn (decide (x<0)) (x.natAbs+y.natAbs)=x+y:=by
   unfold sgn
   by_cases h:x<0
   ·have h':y<0:=by simpa [h] using hs
    simp[h];omega
   ·have h':¬y<0:=by simpa [h] using hs
    simp[h];omega
  rw[e1] at n1
  have hb:(decide (x<0)==decide (y<0))=true:=by simpa using hs
  simp only[go_sem,seval,hb]
  refine za3 rfl ?_
  simp only[go_sem,seval,hk1,n1]
 ·have hb:(decide (x<0)==decide (y<0))=false:=by simpa using hs
  by_cases hlt:x.natAbs<y.natAbs
  ·have hc:(cmpI (x.natAbs:Int) (y.natAbs:Int)<0)=True:=by unfold cmpI;simp;omega
   have hm:=zil (a:=y.natAbs) (b:=x.natAbs) (s:=y.natAbs-x.natAbs) (by omega) (zau _) (zau _) (by omega) (by omega)
   have n2:=zbd (decide (y<0)) (tlen y.natAbs) (y.natAbs-x.natAbs) (Nat.lt_of_le_of_lt (Nat.sub_le _ _) (zau _)) (by omega)
   have e1:sgn (decide (y<0)) (y.natAbs-x.natAbs)=x+y:=by
    unfold sgn
    by_cases h:x<0
    ·have h':¬y<0:=fun q=>hs (by simp[h,q])
     simp[h'];omega
    ·have h':y<0:=by
      rcases Int.lt_or_le y 0 with q|q
      ·exact q
      ·exact absurd (by simp[h,show ¬y<0 by omega]) hs
     simp[h'];omega
   rw[e1] at n2
   simp only[go_sem,seval,hb,c1,hc]
   refine za3 rfl ?_
   simp only[go_sem,seval,hm,n2]
  ·have hc:(cmpI (x.natAbs:Int) (y.natAbs:Int)<0)=False:=by unfold cmpI;simp;omega
   have hm:=zil (a:=x.natAbs) (b:=y.natAbs) (s:=x.natAbs-y.natAbs) (by omega) (zau _) (zau _) (by omega) (by omega)
   have n2:=zbd (decide (x<0)) (tlen x.natAbs) (x.natAbs-y.natAbs) (Nat.lt_of_le_of_lt (Nat.sub_le _ _) (zau _)) (by omega)
   have e1:sgn (decide (x<0)) (x.natAbs-y.natAbs)=x+y:=by
    unfold sgn
    by_cases h:x<0
    ·have h':¬y<0:=fun q=>hs (by simp[h,q])
     simp[h];omega
    ·have h':y<0:=by
      rcases Int.lt_or_le y 0 with q|q
      ·exact q
      ·exact absurd (by simp[h,show ¬y<0 by omega]) hs
     simp[h];omega
   rw[e1] at n2
   simp only[go_sem,seval,hb,c1,hc]
   refine za3 rfl ?_
   simp only[go_sem,seval,hm,n2]
theorem zof (x y:Int) (hx:tlen x.natAbs<100000000) (hy:tlen y.natAbs<100000000):pf E0 121 [nP x,nP y]=some (nP (x-y)):=by
 refine zab (xf:=zvf) rfl (by simp[zvf]) ?_
 simp only[zvf]
 have h1:=zoe y (by omega)
 have h2:=zgC x (-y) hx (by rw[Int.natAbs_neg];exact hy)
 rw[←Int.sub_eq_add_neg] at h2
 simp only[go_sem,seval]
 refine za3 rfl ?_
 simp only[go_sem,seval,h1,h2]
theorem ziN {F:PFin} {ks:List KI} {s t:Bool} {n m P x b w i e0:Nat} (hb:b<10000^m) (hw:w<10000) (hwx:tdg x i=w) (hi:i<n) (hn:n<100000000) (hm:m<100000000) {fr:PFr} {M:PM} (h2:fr 2=.p 0 0) (h3:fr 3=.p 1 0) (h4:fr 4=.p 2 0) (h5:fr 5=.sl 3 0 (n+m) (n+m) 1)
  (h6:fr 6=(PV.i .i64 ((i:Nat):Int))) (h7:fr 7=.i .i64 0) (h8:fr 8=.i .i64 0) (hM:M=[some ⟨[.b s,Tw n x],true,0⟩,some ⟨[.b t,Tw m b],true,0⟩,some ⟨[.b false,.nl],true,0⟩,some ⟨tab (n+m) fun k=>(PV.i .i64 ((tdg P k:Nat):Int)),true,e0⟩])
  (cont:∀fr' e c,fr' 2=.p 0 0→fr' 3=.p 1 0→fr' 4=.p 2 0→fr' 5=.sl 3 0 (n+m) (n+m) 1→fr' 6=(PV.i .i64 ((i:Nat):Int))→fr' 7=(PV.i .i64 ((c:Nat):Int))→c<10000→P%10000^(i+m)+w*10000^i*b=(P+w*10000^i*b)%10000^(i+m)+10000^(i+m)*c →
   UK E0 F (.exit 2) ks fr' [some ⟨[.b s,Tw n x],true,0⟩,some ⟨[.b t,Tw m b],true,0⟩,some ⟨[.b false,.nl],true,0⟩,some ⟨tab (n+m) (fun k=>(PV.i .i64 ((if k<i+m then tdg (P+w*10000^i*b) k else tdg P k:Nat):Int))),true,e⟩]):WK E0 F (.loop zvn) ks fr M:=by
 refine zag zvn.eq_1 (fun(j:Nat) fr M=>j≤m∧fr 2=.p 0 0∧fr 3=.p 1 0∧fr 4=.p 2 0∧fr 5=.sl 3 0 (n+m) (n+m) 1∧fr 6=(PV.i .i64 ((i:Nat):Int))∧fr 8=(PV.i .i64 ((j:Nat):Int)) ∧
  ∃c e:Nat,fr 7=(PV.i .i64 ((c:Nat):Int))∧M=[some ⟨[.b s,Tw n x],true,0⟩,some ⟨[.b t,Tw m b],true,0⟩,some ⟨[.b false,.nl],true,0⟩,some ⟨tab (n+m) fun k=>(PV.i .i64 ((if k<i+j then tdg (P+w*10000^i*b) k else tdg P k:Nat):Int)),true,e⟩]∧c<10000∧P%10000^(i+j)+w*10000^i*(b%10000^j)=(P+w*10000^i*b)%10000^(i+j)+10000^(i+j)*c)
  (fun j=>m-j) ?_ 0 ⟨Nat.zero_le _,h2,h3,h4,h5,h6,h8,0,e0,h7,?_,by decide,?_⟩
 ·rintro j fr M ⟨hj,h2,h3,h4,h5,h6,h8,c,e,h7,rfl,hc,hinv⟩ ih
  by_cases hjm:j<m
  ·have hc0:((j:Int)<(m:Int))=True:=by simp;omega
   have db:tdg b j<10000:=by rw[zap];exact Nat.mod_lt _ (by decide)
   have dp:tdg P (i+j)<10000:=by rw[zap];exact Nat.mod_lt _ (by decide)
   have hget:(tab (n+m) fun k=>(PV.i .i64 ((if k<i+j then tdg (P+w*10000^i*b) k else tdg P k:Nat):Int)))[i+j]?=some (PV.i .i64 ((tdg P (i+j):Nat):Int)):=by rw[zaR (by omega),if_neg (by omega)]
   have hij:((i:Int)+(j:Int))=((i+j:Nat):Int):=by omega
   have j1:((j:Int)+1)=((j+1:Nat):Int):=by omega
   have hmul:w*tdg b j≤9999*9999:=Nat.mul_le_mul (by omega) (by omega)
   have hww:((tdg x i:Int)*(tdg b j:Int))=((w*tdg b j:Nat):Int):=by rw[hwx];simp
   have hadd:((tdg P (i+j):Int)+((w*tdg b j:Nat):Int)+(c:Int))=((w*tdg b j+tdg P (i+j)+c:Nat):Int):=by omega
   have hlt:i+j<n+m:=by omega
   have td:((w*tdg b j+tdg P (i+j)+c:Nat):Int).tdiv 10000=(((w*tdg b j+tdg P (i+j)+c)/10000:Nat):Int):=zbU _ 10000
   have tm:((w*tdg b j+tdg P (i+j)+c:Nat):Int).tmod 10000=(((w*tdg b j+tdg P (i+j)+c)%10000:Nat):Int):=zc1 _ 10000
   simp(disch:=omega)only[go_sem,seval,wqq,h2,h3,h5,h6,h7,h8,hc0,zb9,hij,hget,hww,hadd,hlt,j1,zao,tm,td]
   obtain⟨k1,k2⟩:=zmY (c:=c) (zd9 (i+j)) hinv (zmn P w b i j)
   have hx:c+(tdg P (i+j)+w*tdg b j)=w*tdg b j+tdg P (i+j)+c:=by omega
   rw[hx] at k1 k2
   refine ih (j+1) _ _ (by omega) ⟨by omega,by simp only[go_sem,seval,h2],by simp only[go_sem,seval,h3],by simp only[go_sem,seval,h4],by simp only[go_sem,seval,h5],by simp only[go_sem,seval,h6],by simp only[go_sem,seval],(w*tdg b j+tdg P (i+j)+c)/10000,e+1,by simp only[go_sem,seval],?_,by omega,?_⟩
   ·congr 6
    refine zaf fun k hk=>?_
    by_cases hki:k=i+j
    ·subst hki
     rw[if_pos rfl,if_pos (by omega)]
     congr 2;rw[zap (P+w*10000^i*b)];exact k1.symm
    ·rw[if_neg hki]
     congr 2
     by_cases h:k<i+j
     ·rw[if_pos h,if_pos (by omega)]
     ·rw[if_neg h,if_neg (by omega)]
   ·rw[show i+(j+1)=i+j+1 by omega,Nat.pow_succ,←k2,←Nat.pow_succ,zbi P,zbi b]
    rw[Nat.pow_add]
    grind
  ·have hc0:((j:Int)<(m:Int))=False:=by simp;omega
   obtain rfl:j=m:=by omega
   simp only[go_sem,seval,h2,h3,h8,hc0]
   rw[Nat.mod_eq_of_lt hb] at hinv
   exact cont _ e c (by simp only[go_sem,seval,h2]) (by simp only[go_sem,seval,h3]) (by simp only[go_sem,seval,h4]) (by simp only[go_sem,seval,h5]) (by simp only[go_sem,seval,h6]) (by simp only[go_sem,seval,h7]) hc hinv
 ·rw[hM]
  congr 6
  refine zaf fun k hk=>?_
  congr 2
  by_cases h:k<i+0
  ·rw[if_pos h,zap,zap]
   have e1:(10000:Nat)^i=10000^k*(10000^(i-k-1)*10000):=by
    rw[←Nat.pow_succ,←Nat.pow_add];congr 1;omega
   rw[e1,show w*(10000^k*(10000^(i-k-1)*10000))*b=10000^k*(10000*(w*10000^(i-k-1)*b)) by grind,Nat.add_mul_div_left _ _ (zd9 k),Nat.add_mul_mod_self_left]
  ·rw[if_neg h]
 ·have e1:P+w*10000^i*b=P+10000^i*(w*b):=by grind
  rw[Nat.add_zero,Nat.pow_zero,Nat.mod_one,e1,Nat.add_mul_mod_self_left];simp
noncomputable def nPw (s:Bool) (n a:Nat):PV:=.ag [.b s,Tw n a]
@[go_sem] theorem zm0 (s:Bool) (n a:Nat):(nPw s n a).cells=[.b s,Tw n a]:=_root_.id rfl
theorem zkw (x:Int):nP x=nPw (decide (x<0)) (tlen x.natAbs) x.natAbs:=rfl
theorem zl0 (s t:Bool):pf E0 118 [nPw s 0 0,nPw t 0 0]=some (nP 0):=by
 refine zab (xf:=zui) rfl (by simp[zui]) ?_
 simp only[zui]
 have hno:=zbd (!(s==t)) 0 0 (by decide) (by omega)
 have hz:(Tw 0 0:PV)=.lst []:=rfl
 rw[show sgn (!(s==t)) 0=0 by unfold sgn;split<;>rfl,hz] at hno
 simp(disch:=omega)only[go_sem,seval,wqq,Int.natCast_zero,Int.add_zero,zcT,Int.reduceLE,Int.reduceToNat,zet]
 refine zcI ?_
 simp only[zvm]
 simp(disch:=omega)only[go_sem,seval,wqq,Int.natCast_zero,Int.lt_irrefl,hno]
 rfl
theorem zl1 {s t:Bool} {n m a b:Nat} (ha:a<10000^n) (hb:b<10000^m) (hn:n<100000000) (hm:m<100000000) (h0:n+m≠0):pf E0 118 [nPw s n a,nPw t m b]=some (nP (sgn (!(s==t)) (a*b))):=by
 refine zab (xf:=zui) rfl (by simp[zui]) ?_
 simp only[zui]
 have hnm:((n:Int)+(m:Int))=((n+m:Nat):Int):=by omega
 have hab:a*b<10000^(n+m):=by rw[Nat.pow_add];exact Nat.mul_lt_mul'' ha hb
 have hno:=zbd (!(s==t)) (n+m) (a*b) hab (by omega)
 simp(disch:=omega)only[go_sem,seval,wqq,hnm,zck,Int.natCast_zero]
 refine zag zvm.eq_1 (fun(i:Nat) fr M=>i≤n∧fr 2=.p 0 0∧fr 3=.p 1 0∧fr 4=.p 2 0∧fr 5=.sl 3 0 (n+m) (n+m) 1∧fr 6=(PV.i .i64 ((i:Nat):Int)) ∧
  ∃e:Nat,M=[some ⟨[.b s,Tw n a],true,0⟩,some ⟨[.b t,Tw m b],true,0⟩,some ⟨[.b false,.nl],true,0⟩,some ⟨tab (n+m) fun k=>(PV.i .i64 ((tdg (a%10000^i*b) k:Nat):Int)),true,e⟩]) (fun i=>n-i) ?_ 0 ⟨Nat.zero_le _,by simp only[go_sem,seval],by simp only[go_sem,seval],by simp only[go_sem,seval],by simp only[go_sem,seval],by simp only[go_sem,seval];try rfl,0,?_⟩
 ·rintro i fr M ⟨hi,h2,h3,h4,h5,h6,e,rfl⟩ ih
  by_cases hin:i<n
  ·have hc0:((i:Int)<(n:Int))=True:=by simp;omega
   have i1:((i:Int)+1)=((i+1:Nat):Int):=by omega
   have da:tdg a i<10000:=by rw[zap];exact Nat.mod_lt _ (by decide)
   simp(disch:=omega)only[go_sem,seval,wqq,h2,h3,h4,h5,h6,hc0]
   refine ziN (n:=n) (P:=a%10000^i*b) (w:=tdg a i) hb da rfl hin (by omega) (by omega) (by simp only[go_sem,seval,h2]) (by simp only[go_sem,seval,h3]) (by simp only[go_sem,seval,h4]) (by simp only[go_sem,seval,h5]) (by simp only[go_sem,seval,h6]) (by simp only[go_sem,seval]) (by simp only[go_sem,seval]) rfl fun fr' e' c g2 g3 g4 g5 g6 g7 hc hinv=>?_
   have him:((i:Int)+(m:Int))=((i+m:Nat):Int):=by omega
   have hlt:i+m<n+m:=by omega
   simp(disch:=omega)only[go_sem,seval,wqq,g2,g3,g4,g5,g6,g7,him,hlt,i1,zao]
   have hP:a%10000^(i+1)*b=a%10000^i*b+tdg a i*10000^i*b:=by rw[zbi];grind
   have hPl:a%10000^i*b<10000^(i+m):=by
    rw[Nat.pow_add]
    exact Nat.mul_lt_mul'' (Nat.mod_lt _ (zd9 i)) hb
   refine ih (i+1) _ _ (by omega) ⟨by omega,by simp only[go_sem,seval,g2],by simp only[go_sem,seval,g3],by simp only[go_sem,seval,g4],by simp only[go_sem,seval,g5],by simp only[go_sem,seval],e'+1,?_⟩
   congr 6
   refine zaf fun k hk=>?_
   rw[hP]
   rw[Nat.mod_eq_of_lt hPl] at hinv
   have hval:a%10000^i*b+tdg a i*10000^i*b=(a%10000^i*b+tdg a i*10000^i*b)%10000^(i+m)+10000^(i+m)*c:=hinv
   have hd:(a%10000^i*b+tdg a i*10000^i*b)/10000^(i+m)=c:=by
    have h1:=Nat.div_add_mod (a%10000^i*b+tdg a i*10000^i*b) (10000^(i+m))
    exact Nat.eq_of_mul_eq_mul_left (zd9 (i+m)) (by omega)
   by_cases hki:k=i+m
   ·subst hki
    rw[if_pos rfl,zap,hd]
    congr 2;omega
   ·rw[if_neg hki]
    congr 2
    by_cases h:k<i+m
    ·rw[if_pos h]
    ·rw[if_neg h,zdx hPl (by omega)]
     have:a%10000^i*b+tdg a i*10000^i*b<10000^(i+m+1):=by
      rw[Nat.pow_succ]
      have h2:=Nat.mod_lt (a%10000^i*b+tdg a i*10000^i*b) (zd9 (i+m))
      have h3:10000^(i+m)*(c+1)≤10000^(i+m)*10000:=Nat.mul_le_mul_left _ (by omega)
      rw[Nat.mul_add] at h3
      omega
     rw[zdx this (by omega)]
  ·have hc0:((i:Int)<(n:Int))=False:=by simp;omega
   obtain rfl:i=n:=by omega
   rw[Nat.mod_eq_of_lt ha]
   have h0':(i+m=0)=False:=by simp;omega
   simp(disch:=omega)only[go_sem,seval,wqq,h2,h3,h4,h5,h6,hc0,h0',hno]
 ·rw[zcb]
  congr 6
  refine zaf fun k hk=>?_
  simp[Nat.mod_one,zj9]
theorem zlZ {s t:Bool} {n m a b:Nat} (ha:a<10000^n) (hb:b<10000^m) (hn:n<100000000) (hm:m<100000000):pf E0 118 [nPw s n a,nPw t m b]=some (nP (sgn (!(s==t)) (a*b))):=by
 by_cases h0:n+m=0
 ·obtain rfl:n=0:=by omega
  obtain rfl:m=0:=by omega
  obtain rfl:a=0:=by simpa using ha
  obtain rfl:b=0:=by simpa using hb
  rw[zl0]
  unfold sgn;split<;>rfl
 ·exact zl1 ha hb hn hm h0
theorem zod (x y:Int) (hx:tlen x.natAbs<100000000) (hy:tlen y.natAbs<100000000):pf E0 118 [nP x,nP y]=some (nP (x*y)):=by
 rw[zkw x,zkw y,zlZ (zau _) (zau _) hx hy]
 congr 2
 have e:((x.natAbs*y.natAbs:Nat):Int)=(x*y).natAbs:=by rw[Int.natAbs_mul]
 unfold sgn
 by_cases h:x<0
 ·by_cases h':y<0
  ·have:=Int.mul_pos_of_neg_of_neg h h'
   simp only[h,h',decide_true]
   rw[e]
   simp;omega
  ·have:=Int.mul_nonneg (show 0 ≤ -x by omega) (show 0≤y by omega)
   rw[Int.neg_mul] at this
   simp only[h,h',decide_true,decide_false]
   rw[e]
   simp;omega
 ·by_cases h':y<0
  ·have:=Int.mul_nonneg (show 0≤x by omega) (show 0 ≤ -y by omega)
   rw[Int.mul_neg] at this
   simp only[h,h',decide_true,decide_false]
   rw[e]
   simp;omega
  ·have:=Int.mul_nonneg (show 0≤x by omega) (show 0≤y by omega)
   simp only[h,h',decide_false]
   rw[e]
   simp;omega
end Go.Eng
namespace Go.Eng
theorem zaC {v n:Nat} (h:v<10000^n):tlen v≤n:=zaU.2 h
theorem zcS (a i:Nat):a/10000^(i+1)=a/10000^i/10000:=by rw[Nat.pow_succ,Nat.div_div_eq_div_mul]
theorem zj3 {M:PM} {k j:Nat} {b:PB} (h:PM.blk M j=some b) (hne:k≠j):PM.blk (roB M k) j=some b:=by
 unfold roB
 split
 ·rw[zjc hne];exact h
 ·exact h
theorem zjx {M:PM} {v:PV} {n:Nat} {g:Nat→Int} (h:Grows M v (tab n fun k=>PV.i .i64 (g k))) :
  ∃ns,(∀d,fz M (d+1+1) v=some (.lst (tab n fun k=>PV.i .i64 (g k)),ns))∧∀j b,PM.blk M j=some b→NotIn v j→PM.blk (roM M ns) j=some b:=by
 rcases h with⟨h,rfl⟩|⟨k,e,rfl,hb⟩
 ·exact⟨[],fun d=>by rw[h];rfl,fun j b hj _=>hj⟩
 ·by_cases hn:n=0
  ·subst hn
   exact⟨[],fun d=>rfl,fun j b hj _=>hj⟩
  ·refine⟨[k],fun d=>?_,fun j b hj hne=>zj3 hj hne⟩
   simp(disch:=omega)only[go_sem,seval,wqq,hb]
   rw[if_neg hn]
theorem zio (n:Int) (h:Fits64 n):pf E0 114 [.i .i64 n]=some (nP n):=by
 refine zab (xf:=zvk) rfl (by simp[zvk]) ?_
 simp only[zvk]
 have hf:=h
 unfold Fits64 at h
 simp(disch:=omega)only[go_sem,seval,wqq]
 refine zag zvP.eq_1 (fun(z:Int) fr M=>fr 0=.i .i64 z∧fr 2=.p 0 0∧fr 4=.b (decide (n<0)) ∧ -9223372036854775808≤z∧z≤9223372036854775807 ∧
  ∃i,i+tlen z.natAbs≤20∧z.natAbs=n.natAbs/10000^i∧PM.blk M 0=some ⟨[.b false,.nl],true,0⟩∧NotIn (fr 3) 0∧Grows M (fr 3) (tab i fun k=>(PV.i .i64 ((tdg n.natAbs k:Nat):Int)))) (fun z=>z.natAbs) ?_ n ⟨by simp only[go_sem,seval],by simp only[go_sem,seval],by simp only[go_sem,seval],by omega,by omega,0,?_,by simp,rfl,by simp only[go_sem,seval];trivial,.inl ⟨rfl,by simp only[go_sem,seval]⟩⟩
 ·rintro z fr M ⟨h0,h2,h4,z1,z2,i,hi,hz,hb,hni,hg⟩ ih
  by_cases hz0:z=0
  ·subst hz0
   have hlt:n.natAbs<10000^i:=by
    have:=hz.symm
    rcases Nat.div_eq_zero_iff.1 this with q|q
    ·have:=zd9 i;omega
    ·exact q
   have hno:=zbd (decide (n<0)) i n.natAbs hlt (by omega)
   have e1:sgn (decide (n<0)) n.natAbs=n:=by
    unfold sgn
    by_cases q:n<0
    ·simp[q];omega
    ·simp[q];omega
   rw[e1] at hno
   obtain⟨ns,f1,f2⟩:=zjx hg
   have f3:=f2 0 _ hb hni
   have f4:=zeP f3
   simp(disch:=omega)only[go_sem,seval,wqq,h0,h2,h4,f1,hno,f3,zfY]
  ·have r1:(z.tmod 10000).natAbs=z.natAbs%10000:=by rw[Int.natAbs_tmod];rfl
   have r2:(z.tdiv 10000).natAbs=z.natAbs/10000:=by rw[Int.natAbs_tdiv];rfl
   have dd:z.natAbs%10000=tdg n.natAbs i:=by rw[hz,zap]
   have ql:z.natAbs/10000=n.natAbs/10000^(i+1):=by rw[zcS,hz]
   have tl:i+1+tlen (z.natAbs/10000)≤20:=by
    have:tlen (z.natAbs/10000)≤tlen z.natAbs-1:=by
     rw[zaU]
     have h1:=zau z.natAbs
     have h2:=zgW (v:=z.natAbs) (by omega)
     rw[show tlen z.natAbs=tlen z.natAbs-1+1 by omega,Nat.pow_succ] at h1
     exact Nat.div_lt_of_lt_mul (by omega)
    have h2:=zgW (v:=z.natAbs) (by omega)
    omega
   obtain⟨v',M',he,hg',hk⟩:=zfj hg (PV.i .i64 ((tdg n.natAbs i:Nat):Int)) (by simp;omega)
   rw[zeJ i fun k=>(PV.i .i64 ((tdg n.natAbs k:Nat):Int))] at hg'
   obtain⟨hk1,hk2⟩:=hk 0 _ hb hni
   have q1:((z=0)=False):=by simp[hz0]
   generalize hr:z.tmod 10000=r at *
   generalize hq:z.tdiv 10000=q at *
   by_cases hr0:r<0
   ·have e1:(0:Int)-r=(tdg n.natAbs i:Nat):=by omega
    simp(disch:=omega)only[go_sem,seval,wqq,h0,h2,h4,q1,hr,hq,hr0,e1,he]
    exact ih q _ M' (by omega) ⟨by simp only[go_sem,seval],by simp only[go_sem,seval,h2],by simp only[go_sem,seval,h4],by omega,by omega,i+1,by rw[r2];exact tl,by rw[r2,ql],hk1,by simp only[go_sem,seval];exact hk2,by simp only[go_sem,seval];exact hg'⟩
   ·have e1:r=(tdg n.natAbs i:Nat):=by omega
    rw[←e1] at he
    simp(disch:=omega)only[go_sem,seval,wqq,h0,h2,h4,q1,hr,hq,hr0,he]
    exact ih q _ M' (by omega) ⟨by simp only[go_sem,seval],by simp only[go_sem,seval,h2],by simp only[go_sem,seval,h4],by omega,by omega,i+1,by rw[r2];exact tl,by rw[r2,ql],hk1,by simp only[go_sem,seval];exact hk2,by simp only[go_sem,seval];exact hg'⟩
 ·rw[Nat.zero_add];exact zaC (by omega)
end Go.Eng
namespace Go.Eng
def two (i:Nat):Int:=((2^i:Nat):Int)
end Go.Eng
namespace Go.Eng
def aro (n m:Int):Int:=(if n<0 then-(n+1) else n)%m
def ints (xs:List Int):PV:=.lst (xs.map fun n=>.i .i64 n)
@[go_sem] theorem znx (xs:List Int):lenP (ints xs)=some (.i .i64 (xs.length:Int)):=by simp[ints,lenP]
theorem zdl {xs:List Int} {j:Nat} {n:Int} (h:xs[j]?=some n):idxP 1 (ints xs) (some j)=some (.fp [.i .i64 n]):=by
 rw[ints,zcj]
 simp[h];rfl
def pick (xs:List Int) (i m:Int):Int:=if i<0∨(xs.length:Int)≤i then 0 else aro (xs.getD i.toNat 0) m
def Ints (xs:List Int):Prop:=xs.length≤9223372036854775807∧∀n∈xs,Fits64 n
end Go.Eng
namespace Go.Eng
@[go_sem] theorem zp8 (M:PM) (d:Nat) (xs:List Int):fz M (d+1) (ints xs)=some (ints xs,[]):=_root_.id rfl
theorem zct (a b:Int):tlen (a+b).natAbs≤max (tlen a.natAbs) (tlen b.natAbs)+1 :=
 Nat.le_trans (zaK (Int.natAbs_add_le a b)) (zka _ _)
theorem zaj (a b:Int):tlen (a*b).natAbs≤tlen a.natAbs+tlen b.natAbs:=by
 rw[Int.natAbs_mul,zaU,Nat.pow_add]
 exact Nat.mul_lt_mul'' (zau _) (zau _)
theorem ziW {z:Int} (h:z.natAbs<10000):tlen z.natAbs≤1:=zaC (by rw[Nat.pow_one];exact h)
def numT (k:Nat):Int:=two (32*(k%7)+k/7%5*8)*(((k/35%9:Nat):Int)-4)+(((k/315%5:Nat):Int)-2)
def numS (xs:List Int) (at_:Int):Nat→Int
 | 0=>0
 | i+1=>numS xs at_ i+numT (pick xs (at_+1+i) 1000000).toNat
end Go.Eng
namespace Go.Eng
end Go.Eng
namespace Go.Eng
end Go.Eng
namespace Go.Eng
end Go.Eng
namespace Go.Eng
end Go.Eng
namespace Go.Eng
end Go.Eng
namespace Go.Eng
theorem zfv (m:Nat):∀(n v:Nat),dtx (n+m) v=dtx n (v/10^m)++dtx m v
 | 0,v=>by simp[dtx]
 | n+1,v=>by
  rw[show n+1+m=(n+m)+1 by omega]
  show UInt8.ofNat (48+v/10^(n+m)%10)::dtx (n+m) v=UInt8.ofNat (48+v/10^m/10^n%10)::dtx n (v/10^m)++dtx m v
  rw[zfv m n v,Nat.div_div_eq_div_mul,←Nat.pow_add,Nat.add_comm m n];rfl
theorem zhB:∀(n m v:Nat),n≤m→dtx n (v%10^m)=dtx n v
 | 0,_,_,_=>rfl
 | n+1,m,v,h=>by
  show UInt8.ofNat (48+v%10^m/10^n%10)::dtx n (v%10^m)=UInt8.ofNat (48+v/10^n%10)::dtx n v
  rw[zhB n m v (by omega)]
  congr 2
  have e:(10:Nat)^m=10^n*(10*10^(m-n-1)):=by
   rw[←Nat.pow_succ',←Nat.pow_add];congr 1;omega
  rw[e,Nat.mod_mul_right_div_self,Nat.mod_mul_right_mod]
theorem zle (n m v:Nat) (h:v<10^n) (hm:n≤m):dtx m v=List.replicate (m-n) 48++dtx n v:=by
 obtain⟨k,rfl⟩:∃k,m=k+n:=⟨m-n,by omega⟩
 rw[zfv n k v,Nat.div_eq_of_lt h,Nat.add_sub_cancel]
 congr 1
 induction k with
 | zero=>rfl
 | succ k ih =>
  show UInt8.ofNat (48+0/10^k%10)::dtx k 0=_
  rw[ih (by omega),List.replicate_succ,Nat.zero_div];rfl
theorem zeh {v:Nat} (h:v≠0):dec v=dtx (dlen v) v:=by unfold dec;rw[if_neg h]
end Go.Eng
namespace Go.Eng
end Go.Eng
namespace Go.Eng
theorem zf3 {x y:Int}:(cmpI x y>0)=(y<x):=by
 unfold cmpI;apply propext
 constructor
 ·intro h
  split at h
  ·omega
  ·split at h<;>omega
 ·intro h
  split
  ·omega
  ·first|omega|(split<;>omega)
theorem zbT {x y:Int}:(cmpI x y<0)=(x<y):=by
 unfold cmpI;apply propext
 constructor
 ·intro h
  split at h
  ·omega
  ·split at h<;>omega
 ·intro h
  split
  ·omega
  ·first|omega|(split<;>omega)
theorem zbW {E:PEnv} {F:PFin} {ops:List XOper} {chk:List (Nat×Nat)} {ks:List KI} {fr:PFr} {M:PM} (hc:∀fr2 Ms,pOpsT E.glob (pcl E) ops fr M=some (fr2,Ms)→chk.all (chkP E.glob ops fr2 Ms)=true) (w:WL E F ops ks fr M):WK E F (.drw ops chk) ks fr M:=by
 obtain⟨lf,w⟩:=w
 refine⟨lf,?_⟩
 have key:pCode E.glob (pcl E) lf (.drw ops chk) fr M=(pOps E.glob (pcl E) ops fr M).map fun r=>(.normal,r.1,r.2):=by
  simp only[pCode]
  congr 1
  cases hops:pOps E.glob (pcl E) ops fr M with
  | none=>rw[hops] at w;exact(Ends.none w).elim
  | some r =>
   unfold pDrw
   by_cases h0:chk=[]
   ·rw[if_pos h0,hops]
   ·rw[if_neg h0]
    obtain⟨fr2,M2⟩:=r
    obtain⟨Ms,h1,h2⟩:=zbV hops
    rw[h1]
    have hall:chk.all (chkP E.glob ops fr2 Ms)=true:=by
     exact hc _ _ h1
    simp only[hall,if_true,h2,Option.map_some]
 rw[key]
 cases hops:pOps E.glob (pcl E) ops fr M with
 | none=>rw[hops] at w;exact(Ends.none w).elim
 | some r=>rw[hops] at w;exact w
theorem zcf {E:PEnv} {ops:List XOper} {fr fr2:PFr} {M:PM} {Ms:List PM} {i j s n o:Nat} {a b:XOper} {z:Bool} {k:Nat} (h1:pOpsT E.glob (pcl E) ops fr M=some (fr2,Ms)) (ha:ops[i]?=some a) (hb:ops[j]?=some b)
  (hop:a.op=.load z k (.t s)) (hcb:calmOp E b.op=true) (hall:(ops.all fun o=>o.dst != some s)=true) (hs:fr s=.p n o):chkP E.glob ops fr2 Ms (i,j)=true:=by
 have hk:=(za9 h1).2
 obtain⟨fri,A,B,q1,q2,q3,q4⟩:=zaI h1 ha
 obtain⟨frj,C,D,p1,p2,p3,p4⟩:=zaI h1 hb
 have p2':Ms[(i,j).2+1]?=some D:=p2
 have q2':Ms[(i,j).1+1]?=some B:=q2
 simp only[chkP,ha,q1,q2,p1,p2]
 rw[if_neg (by rw[hop];simp[XO.cls])]
 rw[hop]
 show chkV ops j (.t s) C D (fr2 s)=true
 rw[hk s hall,hs]
 show verP (some n) C D=true
 rcases p3 with⟨_,v,p3⟩|⟨_,p3⟩
 ·cases hop:b.op with
  | call f l =>
   rw[hop] at p3 hcb
   obtain⟨ns,rfl⟩:=zez hcb p3
   exact zc4 ns C _
  | _=>rw[hop] at hcb;simp[calmOp] at hcb
 ·rw[p3];simp[verP]
end Go.Eng
namespace Go.Eng
end Go.Eng
namespace Go.Eng
noncomputable def E1:PEnv:={ E0 with prog:=fun f=>if f=33 then none else prog f,glob:=globT }
theorem zf9 (a:List PV) (M:PM):pcl E1 48 a M=pclA E1 48 M (fzL (fz M fzD) a):=zac a M rfl
theorem zga (a:List PV) (M:PM):pcl E1 49 a M=pclA E1 49 M (fzL (fz M fzD) a):=zac a M rfl
theorem zgb (a:List PV) (M:PM):pcl E1 50 a M=pclA E1 50 M (fzL (fz M fzD) a):=zac a M rfl
theorem zgc (a:List PV) (M:PM):pcl E1 51 a M=pclA E1 51 M (fzL (fz M fzD) a):=zac a M rfl
def XC.cut:XC→XC
 | .ret=>.fail
 | .seq a b=>.seq a.cut b.cut
 | .cond c a b=>.cond c a.cut b.cut
 | .block id a=>.block id a.cut
 | .loop a=>.loop a.cut
 | .scope a=>.scope a.cut
 | x=>x
theorem ze3 {b b':PStep} (h:∀fr M o fr' M',b' fr M=some (o,fr',M')→b fr M=some (o,fr',M')∧o ≠ .ret):∀k fr M o fr' M',pLoop b' k fr M=some (o,fr',M')→pLoop b k fr M=some (o,fr',M')∧o ≠ .ret
 | 0,fr,M,o,fr',M',e=>by simp[pLoop] at e
 | k+1,fr,M,o,fr',M',e=>by
  simp only[pLoop] at e ⊢
  cases h1:b' fr M with
  | none=>rw[h1] at e;cases e
  | some r =>
   obtain⟨o1,fr1,M1⟩:=r
   obtain⟨g1,g2⟩:=h _ _ _ _ _ h1
   rw[h1] at e;rw[g1]
   cases o1 with
   | normal=>exact ze3 h k _ _ _ _ _ e
   | exit i=>cases e;exact⟨rfl,g2⟩
   | ret=>exact(g2 rfl).elim
theorem zaY {G:Nat→Option (List AV)} {call:PCall} {lf:Nat}:∀(c:XC) fr M o fr' M',pCode G call lf c.cut fr M=some (o,fr',M')→pCode G call lf c fr M=some (o,fr',M')∧o ≠ .ret
 | .skip,fr,M,o,fr',M',e=>⟨e,by simp[XC.cut,pCode] at e;rw[←e.1];simp⟩
 | .ret,fr,M,o,fr',M',e=>by simp[XC.cut,pCode] at e
 | .exit id,fr,M,o,fr',M',e=>⟨e,by simp[XC.cut,pCode] at e;rw[←e.1];simp⟩
 | .fail,fr,M,o,fr',M',e=>by simp[XC.cut,pCode] at e
 | .scope a,fr,M,o,fr',M',e=>zaY a fr M o fr' M' e
 | .loop a,fr,M,o,fr',M',e=>ze3 (zaY a) lf fr M o fr' M' e
 | .reg ops,fr,M,o,fr',M',e=>⟨e,by
   simp only[XC.cut,pCode,Option.map_eq_some_iff] at e
   obtain⟨q,_,e⟩:=e
   cases e;simp⟩
 | .drw ops chk,fr,M,o,fr',M',e=>⟨e,by
   simp only[XC.cut,pCode,Option.map_eq_some_iff] at e
   obtain⟨q,_,e⟩:=e
   cases e;simp⟩
 | .seq a b,fr,M,o,fr',M',e=>by
  simp only[XC.cut,pCode] at e ⊢
  cases h1:pCode G call lf a.cut fr M with
  | none=>rw[h1] at e;cases e
  | some r =>
   obtain⟨o1,fr1,M1⟩:=r
   obtain⟨g1,g2⟩:=zaY a _ _ _ _ _ h1
   rw[h1] at e;rw[g1]
   cases o1 with
   | normal=>exact zaY b _ _ _ _ _ e
   | exit i=>cases e;exact⟨rfl,g2⟩
   | ret=>exact(g2 rfl).elim
 | .cond x a b,fr,M,o,fr',M',e=>by
  simp only[XC.cut,pCode] at e ⊢
  split at e
  ·rename_i v hv
   cases v with
   | true=>exact zaY a _ _ _ _ _ e
   | false=>exact zaY b _ _ _ _ _ e
  ·cases e
 | .block id a,fr,M,o,fr',M',e=>by
  simp only[XC.cut,pCode] at e ⊢
  cases h1:pCode G call lf a.cut fr M with
  | none=>rw[h1] at e;cases e
  | some r =>
   obtain⟨o1,fr1,M1⟩:=r
   obtain⟨g1,g2⟩:=zaY a _ _ _ _ _ h1
   rw[h1] at e;rw[g1]
   cases o1 with
   | normal=>cases e;exact⟨rfl,g2⟩
   | exit i =>
    simp only at e ⊢
    split at e
    ·rename_i hi;cases e;rw[if_pos hi];exact⟨rfl,by simp⟩
    ·rename_i hi;cases e;rw[if_neg hi];exact⟨rfl,g2⟩
   | ret=>exact(g2 rfl).elim
theorem zji {x e k:Nat} (hx:x≠0) (hk:0<k) (he:e<10^k):dec (x*10^k+e)=dec x++dtx k e:=by
 have hp:0<10^k:=Nat.pow_pos (by decide)
 have hdv:(x*10^k+e)/10^k=x:=by rw[Nat.mul_comm,Nat.mul_add_div hp,Nat.div_eq_of_lt he,Nat.add_zero]
 have hmd:(x*10^k+e)%10^k=e:=by rw[Nat.mul_comm,Nat.mul_add_mod,Nat.mod_eq_of_lt he]
 have hge:10^k≤x*10^k+e:=Nat.le_trans (Nat.le_mul_of_pos_left _ (Nat.pos_of_ne_zero hx)) (Nat.le_add_right _ _)
 have hd:dlen (x*10^k+e)=dlen x+k:=by
  have h1:∀m,dlen x≤m↔dlen (x*10^k+e)≤m+k:=fun m=>by
   rw[zaN,zaN,Nat.pow_add,←Nat.div_lt_iff_lt_mul hp,hdv]
  have k1:=(h1 (dlen x)).1 (Nat.le_refl _)
  have k2:k≤dlen (x*10^k+e):=by
   rcases Nat.lt_or_ge (dlen (x*10^k+e)) k with q|q
   ·have h3:=zcy (x*10^k+e)
    have:10^dlen (x*10^k+e)≤10^k:=Nat.pow_le_pow_right (by decide) (by omega)
    omega
   ·exact q
  have k4:=(h1 (dlen (x*10^k+e)-k)).2 (by omega)
  omega
 rw[zeh (by omega),zeh hx,hd,zfv,hdv,←zhB k k _ (Nat.le_refl _),hmd]
theorem zml {e:Nat} (he:e<1000000000):(dec e).length≤9∧(List.replicate (9-(dec e).length) [(48:UInt8)]).flatten++dec e=dtx 9 e:=by
 have fl:∀n,(List.replicate n [(48:UInt8)]).flatten=List.replicate n 48:=fun n=>by
  induction n with
  | zero=>rfl
  | succ n ih=>rw[List.replicate_succ,List.flatten_cons,ih,List.replicate_succ];rfl
 rw[fl]
 by_cases h:e=0
 ·subst h;decide
 ·have h9:dlen e≤9:=zaN.2 he
  rw[zeh h,zcz]
  exact⟨h9,(zle _ _ _ (zcy e) h9).symm⟩
theorem zeT {z:Nat} (h:z≠0):dlen (z/1000000000)+1≤dlen z:=by
 have h1:=zcy z
 have h2:0<dlen z:=by
  rcases Nat.eq_zero_or_pos (dlen z) with q|q
  ·rw[q] at h1;simp at h1;omega
  ·exact q
 have:dlen (z/1000000000)≤dlen z-1:=by
  rw[zaN]
  refine Nat.lt_of_le_of_lt (Nat.div_le_div_left (by decide:10≤1000000000) (by decide)) ?_
  rw[Nat.div_lt_iff_lt_mul (by decide),←Nat.pow_succ,show (dlen z-1).succ=dlen z by omega]
  exact h1
 omega
theorem zkp {v:Nat} (h:wlen v≤512):dlen v≤16384:=by
 have h1:=zaF.1 h
 obtain⟨n,hn⟩:∃n,n=512:=⟨_,rfl⟩
 rw[←hn] at h1
 have h2:(4294967296:Nat)^n≤(10^32)^n:=Nat.pow_le_pow_left (by decide) n
 rw[←Nat.pow_mul] at h2
 have:dlen v≤32*n:=zaN.2 (Nat.lt_of_lt_of_le h1 h2)
 omega
def strA:XC :=
 .seq (.reg [⟨some 1,.box (.t 0),[],none⟩,⟨some 2,.mov (.k (.s [])),[],none⟩]) (.seq (.seq (.reg [⟨some 10,.fad 1 (.t 1),[],none⟩,⟨some 11,.load false 1 (.t 10),[0],none⟩,⟨some 12,.len (.t 11),[1],none⟩,⟨some 13,.bin .eql (.t 12) (.k (.i .i64 0)),[2],none⟩]) (.cond (.t 13) (.seq (.reg [⟨some 2,.mov (.k (.s [48])),[],none⟩]) .ret) .skip)) (.seq (.reg [⟨some 3,.mov (.k .sn),[],none⟩]) (.seq (.reg [⟨some 14,.fad 1 (.t 1),[],none⟩,⟨some 15,.load false 1 (.t 14),[0],none⟩,⟨some 4,.mov (.t 15),[1,0,1],none⟩]) (.block 0 (.loop ztI)))))
def strQ (neg:Bool) (v:Nat) (w:PV) (M:PM):Prop:=∃p ps,w=.tu [.p 0 0,p]∧Grows M p (ps.map PV.s)∧ps≠[]∧ps.length≤20000∧ps.reverse.flatten=dec v∧PM.blk M 0=some ⟨[.b neg,D v],true,0⟩
theorem zoA {neg:Bool} {v:Nat} (h0:v≠0) (hl:wlen v≤512):WK E1 ⟨[.tmp 1,.tmp 3],strQ neg v⟩ strA.cut [] (frOf [.ag [.b neg,D v]]) []:=by
 simp only[strA,XC.cut]
 have hpos:=zaQ h0
 have q0:((wlen v:Int)=0)=False:=by simp;omega
 have hcl:XC.cut ztI=ztI:=rfl
 rw[hcl]
 simp(disch:=omega)only[go_sem,seval,wqq,q0]
 refine zag ztI.eq_1 (fun(z:Nat) fr M=>wlen z≤512∧fr 1=.p 0 0∧fr 4=D z∧∃ps:List (List UInt8),Grows M (fr 3) (ps.map PV.s)∧NotIn (fr 3) 0∧(z=0→ps≠[])∧ps.length+dlen z≤20000∧(if z=0 then [] else dec z)++ps.reverse.flatten=dec v∧PM.blk M 0=some ⟨[.b neg,D v],true,0⟩) id ?_ v ⟨hl,by simp only[go_sem,seval],by simp only[go_sem,seval],[],.inl ⟨rfl,by simp only[go_sem,seval]⟩,by simp only[go_sem,seval];trivial,fun h=>(h0 h).elim,?_,by rw[if_neg h0];simp,rfl⟩
 ·rintro z fr M ⟨hz,h1,h4,ps,hg,hni,hne,hpl,htx,hb⟩ ih
  by_cases hz0:z=0
  ·have q1:((wlen z:Int)>0)=False:=by rw[hz0,zbS];simp
   have htx':ps.reverse.flatten=dec v:=by rw[if_pos hz0] at htx;simpa using htx
   simp(disch:=omega)only[go_sem,seval,wqq,h1,h4,q1]
   exact⟨_,ps,rfl,hg,hne hz0,by omega,htx',hb⟩
  ·have q1:((wlen z:Int)>0)=True:=by have:=zaQ hz0;simp;omega
   have hzl:=zad z
   have h48:pf E1 48 [Dw (wlen z) z,.i .u32 1000000000]=some (.tu [Dw (wlen z) (z/1000000000),(PV.i .u32 ((z%1000000000:Nat):Int))]):=by
    have:=zgF (E:=E1) rfl (n:=wlen z) (a:=z) (w:=1000000000) hzl (by decide) (by decide) (by omega)
    simpa only[Int.cast_ofNat_Int] using this
   have hz':z/1000000000<4294967296^wlen z:=Nat.lt_of_le_of_lt (Nat.div_le_self _ _) hzl
   have h49:=ze4 (E:=E1) rfl (wlen z) (z/1000000000) hz' (by omega)
   have hr:z%1000000000<1000000000:=Nat.mod_lt _ (by decide)
   have h50:pf E1 50 [.i .i64 ((z%1000000000:Nat):Int)]=some (.s (dec (z%1000000000))):=zgI (o:=orcA 50) (w:=.s (dec (z%1000000000))) (M2:=[]) rfl (by
    have hd:decI ((z%1000000000:Nat):Int)=dec (z%1000000000):=by unfold decI;rw[if_neg (by omega),Int.natAbs_natCast]
    have hf:Fits64 ((z%1000000000:Nat):Int):=⟨by omega,by omega⟩
    show orcP 50 _ []=_
    simp only[orcP,libP]
    rw[if_neg (by decide),if_pos ⟨trivial,hf⟩,hd];rfl) rfl
   obtain⟨r1,r2⟩:=zml hr
   have hze:z=z/1000000000*10^9+z%1000000000:=by
    show z=z/1000000000*1000000000+z%1000000000;omega
   have hwl:wlen (z/1000000000)≤512:=Nat.le_trans (zaF.2 hz') hz
   by_cases hz2:z/1000000000=0
   ·have q2:((wlen (z/1000000000):Int)>0)=False:=by rw[hz2,zbS];simp
    obtain⟨v',M',he,hg',hk⟩:=zeb (by_:=16) (by decide) hg (.s (dec (z%1000000000))) (by simp;omega)
    obtain⟨k1,k2⟩:=hk 0 _ hb hni
    simp(disch:=omega)only[go_sem,seval,wqq,h1,h4,q1,q2,zf9,zga,zgb,zgc,h48,h49,h50,he]
    have hzr:z%1000000000=z:=by omega
    rw[if_neg hz0] at htx
    refine ih (z/1000000000) _ M' (by simp only[id];omega) ⟨hwl,by simp only[go_sem,seval,h1],by simp only[go_sem,seval],ps++[dec (z%1000000000)],by simp only[go_sem,seval];simpa using hg',by simp only[go_sem,seval];exact k2,fun _=>by simp,?_,?_,k1⟩
    ·have:=zeT hz0
     simp only[List.length_append,List.length_cons,List.length_nil];omega
    ·rw[if_pos hz2,hzr,List.reverse_append];simpa using htx
   ·have q2:((wlen (z/1000000000):Int)>0)=True:=by have:=zaQ hz2;simp;omega
    obtain⟨v',M',he,hg',hk⟩:=zeb (by_:=16) (by decide) hg (.s (dtx 9 (z%1000000000))) (by simp;omega)
    obtain⟨k1,k2⟩:=hk 0 _ hb hni
    have i9:(9:Int)-((dec (z%1000000000)).length:Int)=((9-(dec (z%1000000000)).length:Nat):Int):=by omega
    have h51:pf E1 51 [.s [48],.i .i64 ((9-(dec (z%1000000000)).length:Nat):Int)]=some (.s (List.replicate (9-(dec (z%1000000000)).length) [(48:UInt8)]).flatten):=zgI (o:=orcA 51) (w:=.s (List.replicate (9-(dec (z%1000000000)).length) [(48:UInt8)]).flatten) (M2:=[]) rfl (by
     show orcP 51 _ []=_
     simp only[orcP,libP]
     rw[if_neg (by decide),if_pos ⟨trivial,by omega,by omega,by simp⟩];rfl) rfl
    have hadd:binP .add (.s (List.replicate (9-(dec (z%1000000000)).length) [(48:UInt8)]).flatten) (.s (dec (z%1000000000)))=some (.s (dtx 9 (z%1000000000))):=by
     have hlen:=congrArg List.length r2
     rw[List.length_append,zcz] at hlen
     rw[zec _ _ (by omega),r2]
    generalize (List.replicate (9-(dec (z%1000000000)).length) [(48:UInt8)]).flatten=pd at *
    simp(disch:=omega)only[go_sem,seval,wqq,h1,h4,q1,q2,zf9,zga,zgb,zgc,h48,h49,h50,i9,h51,hadd,he]
    rw[if_neg hz0] at htx
    refine ih (z/1000000000) _ M' (by simp only[id];omega) ⟨hwl,by simp only[go_sem,seval,h1],by simp only[go_sem,seval],ps++[dtx 9 (z%1000000000)],by simp only[go_sem,seval];simpa using hg',by simp only[go_sem,seval];exact k2,fun _=>by simp,?_,?_,k1⟩
    ·have:=zeT hz0
     simp only[List.length_append,List.length_cons,List.length_nil];omega
    ·have hm:=zji (k:=9) hz2 (by decide) hr
     rw[←hze] at hm
     rw[if_neg hz2,List.reverse_append,←htx,hm]
     simp
 ·have h1:=zkp hl
  simp only[List.length_nil];omega
end Go.Eng
namespace Go.Eng
theorem zj5 {neg : Bool} {v : Nat} (h0 : v ≠ 0) (hl : wlen v ≤ 512) : ∃ lf fr M p ps, pCode E1.glob (pvF E1 lf) lf strA (frOf [.ag [.b neg, D v]]) [] = some (.normal, fr, M) ∧ fr 1 = .p 0 0 ∧ fr 3 = p ∧ Grows M p (ps.map PV.s) ∧ ps ≠ [] ∧ ps.length ≤ 20000 ∧ ps.reverse.flatten = dec v ∧ PM.blk M 0 = some ⟨[.b neg, D v], true, 0⟩ := by
  obtain ⟨lf, q, fr, M, vs, e, h1, h2, h3⟩ := zoA (neg := neg) h0 hl
  simp only [Option.bind_eq_some_iff] at e
  obtain ⟨⟨o, fr1, M1⟩, e1, e2⟩ := e
  simp only [unw] at e2
  cases e2
  obtain ⟨e3, hno⟩ := zaY _ _ _ _ _ _ e1
  have hq : q = .normal := by
    cases q with
    | normal => rfl
    | exit i => exact (h1 i rfl).elim
    | ret => exact (hno rfl).elim
  subst hq
  obtain ⟨k, e4⟩ := zaA _ e3
  have e5 := zat (zbG (Nat.le_max_left k lf)) (Nat.le_max_right k lf) _ e4
  simp only [pRes, pResOne] at h2
  cases h2
  obtain ⟨p, ps, g1, g2, g3, g4, g5, g6⟩ := h3
  simp only [packP, PV.tu.injEq, List.cons.injEq, and_true] at g1
  exact ⟨max k lf, fr, M, p, ps, e5, g1.1, g1.2, g2, g3, g4, g5, g6⟩
theorem zmz (a : List Nat) (x : Nat) : val (a ++ [x]) = val a + 4294967296 ^ a.length * x := by
  induction a with
  | nil => simp [val]
  | cons y a ih => simp only [List.cons_append, val, ih, List.length_cons, Nat.pow_succ]; grind
theorem zjI {xs : List Nat} (h : Ok32 xs) (hz : xs.getLast? ≠ some 0) : xs = dig (val xs) := by
  have hlen : wlen (val xs) = xs.length := by
    rcases List.eq_nil_or_concat xs with rfl | ⟨a, x, rfl⟩
    · rfl
    · rw [List.concat_eq_append] at h hz ⊢
      have hx : x ≠ 0 := fun e => by subst e; simp at hz
      have h1 : wlen (val (a ++ [x])) ≤ (a ++ [x]).length := zaF.2 (zkZ h)
      have h2 : ¬ wlen (val (a ++ [x])) ≤ a.length := fun q => by
        have := zaF.1 q
        rw [zmz] at this
        have : 4294967296 ^ a.length * 1 ≤ 4294967296 ^ a.length * x := Nat.mul_le_mul_left _ (by omega)
        omega
      simp at h1 ⊢
      omega
  unfold dig
  rw [hlen]
  exact zne h
theorem zdC : ∀ {cs : List AV} {xs : List Nat}, wordsA cs = some xs → cs = xs.map (fun n => .i .u32 (n : Int)) ∧ Ok32 xs
  | [], xs, e => by simp [wordsA] at e; subst e; exact ⟨rfl, fun x hx => by cases hx⟩
  | c :: cs, xs, e => by
    unfold wordsA at e
    split at e
    · rename_i he; cases he
    · rename_i n l he
      cases he
      split at e
      · rename_i hn
        simp only [Option.map_eq_some_iff] at e
        obtain ⟨ys, e1, rfl⟩ := e
        obtain ⟨p1, p2⟩ := zdC e1
        refine ⟨by rw [p1, List.map_cons, Int.toNat_of_nonneg hn.1], fun x hx => ?_⟩
        rcases List.mem_cons.1 hx with rfl | hx
        · omega
        · exact p2 x hx
      · cases e
    · cases e
theorem zgX {neg : Bool} {w : AV} {h : Hp} {l : List UInt8} (e : txtA [.ag [.b neg, w]] h = some l) (hcap : ∀ n off len cap z, w = .sl n off len cap z → len ≤ cap) :
    ∃ v, wlen v ≤ 512 ∧ (neg = true → v ≠ 0) ∧ l = decI (if neg then -(v : Int) else (v : Int)) ∧ V h (fun _ => False) [] (D v) w := by
  have nil : ∀ {l}, wtx neg [] = some l → (neg = true → False) ∧ l = decI (if neg then -((0 : Nat) : Int) else ((0 : Nat) : Int)) := fun {l} e => by
    unfold wtx at e
    split at e
    · rename_i hc; cases e; exact ⟨fun hn => hc.2.2 hn rfl, rfl⟩
    · cases e
  have D0 : D 0 = .lst [] := rfl
  have fin0 : ∀ {l}, wtx neg [] = some l → V h (fun _ => False) [] (.lst []) w → ∃ v, wlen v ≤ 512 ∧ (neg = true → v ≠ 0) ∧ l = decI (if neg then -(v : Int) else (v : Int)) ∧ V h (fun _ => False) [] (D v) w := fun {l} e hv => by
    obtain ⟨n1, n2⟩ := nil e
    exact ⟨0, by rw [zbS]; omega, fun hn => (n1 hn).elim, n2, by rw [D0]; exact hv⟩
  unfold txtA at e
  split at e
  · rename_i neg' n off len cap z heq
    simp only [List.cons.injEq, AV.ag.injEq, AV.b.injEq, and_true] at heq
    obtain ⟨rfl, rfl⟩ := heq
    split at e
    · rename_i h0
      subst h0
      exact fin0 e (.lst0 n off cap z)
    · rename_i h0
      split at e
      · rename_i hz
        subst hz
        simp only [Option.bind_eq_some_iff] at e
        obtain ⟨xs, ⟨cs, e1, e2⟩, e3⟩ := e
        obtain ⟨w1, w2⟩ := zdC e2
        unfold wtx at e3
        split at e3
        · rename_i hc
          cases e3
          have hd := zjI w2 hc.2.1
          have hlen : cs.length = len := by
            unfold Hp.rd at e1
            split at e1
            · rename_i b hb
              split at e1
              · cases e1; simp; omega
              · cases e1
            · cases e1
          have hxl : xs.length = len := by rw [← hlen, w1, List.length_map]
          have hwl : wlen (val xs) = len := by rw [← hxl]; conv => rhs; rw [hd]
                                               simp
          have hD : D (val xs) = .lst (xs.map fun n => (PV.i .u32 ((n : Nat) : Int))) := by
            have : W (dig (val xs)) = D (val xs) := zrw _ _
            rw [← this, ← hd]; rfl
          refine ⟨val xs, by omega, fun hn h0' => ?_, rfl, ?_⟩
          · rw [h0', zbS] at hwl; omega
          · rw [hD]
            unfold Hp.rd at e1
            split at e1
            · rename_i b hb
              split at e1
              · rename_i hle
                cases e1
                have hfl : flat (xs.map fun n => (PV.i .u32 ((n : Nat) : Int))) = xs.map fun n => (PV.i .u32 ((n : Nat) : Int)) := by
                  clear hD hwl hxl hlen hd hc w1 e2 w2
                  induction xs with
                  | nil => rfl
                  | cons x xs ih => rw [List.map_cons]; show [(PV.i .u32 ((x : Nat) : Int))] ++ flat _ = _; rw [ih]; rfl
                have hg : ∀ i (hi : i < xs.length), b.v[off + i]? = some (.i .u32 ((xs[i] : Nat) : Int)) := fun i hi => by
                  have : ((b.v.drop off).take len)[i]? = some (.i .u32 ((xs[i] : Nat) : Int)) := by
                    rw [w1, List.getElem?_map, List.getElem?_eq_getElem hi]; rfl
                  rw [List.getElem?_take, if_pos (by omega), List.getElem?_drop] at this
                  exact this
                have hl : (xs.map fun n => (PV.i .u32 ((n : Nat) : Int))).length = len := by rw [List.length_map, hxl]
                have := V.lst (D := fun _ => False) (r := []) (xs := xs.map fun n => (PV.i .u32 ((n : Nat) : Int))) (m := n) (off := off) (cap := cap) (z := 1) (fun i => .i .u32 ((xs.getD i 0 : Nat) : Int)) hb (fun q => q) (by rw [hfl]; simp [PV.scal]) (by decide) (fun x hx => by
                  obtain ⟨y, _, rfl⟩ := List.mem_map.1 hx; rfl) (by rw [hl]; exact hcap n off len cap 1 rfl) (fun i hi => by
                  rw [hfl, List.length_map] at hi
                  rw [hg i hi, List.getD, List.getElem?_eq_getElem hi]; rfl) (fun i hi => by
                  have hi' : i < xs.length := by rw [hfl, List.length_map] at hi; exact hi
                  have e : (flat (xs.map fun n => (PV.i .u32 ((n : Nat) : Int))))[i] = (PV.i .u32 ((xs[i] : Nat) : Int)) := by simp only [hfl]; rw [List.getElem_map]
                  rw [e, List.getD, List.getElem?_eq_getElem hi']
                  exact .i _ _)
                rw [hl] at this
                exact this
              · cases e1
            · cases e1
        · cases e3
      · cases e
  · rename_i neg' heq
    simp only [List.cons.injEq, AV.ag.injEq, AV.b.injEq, and_true] at heq
    obtain ⟨rfl, rfl⟩ := heq
    exact fin0 e .lsn
  · rename_i neg' heq
    simp only [List.cons.injEq, AV.ag.injEq, AV.b.injEq, and_true] at heq
    obtain ⟨rfl, rfl⟩ := heq
    exact fin0 e .lse
  · rename_i neg' heq
    simp only [List.cons.injEq, AV.ag.injEq, AV.b.injEq, and_true] at heq
    obtain ⟨rfl, rfl⟩ := heq
    exact fin0 e .le0
  · cases e
end Go.Eng
namespace Go.Eng
def HasT (h:Hp):Prop:=∃b,h.m 0=some b∧b.v=powT
theorem zh4 (m:Nat):¬DM [] [] m:=fun d=>by
 obtain⟨n,b,q,_⟩:=d
 simp at q
theorem PInv.start {h:Hp} (w:h.wf) (t:HasT h):PInv globT (fun _=>False) [] [] h:=by
 refine⟨rfl,fun i j m q=>by simp at q,fun m q=>by simp at q,w,fun n m q=>by simp at q,fun n b m q=>by simp at q,fun m d=>d.elim,fun g l q=>?_⟩
 unfold globT at q
 split at q
 ·rename_i hg
  cases q;subst hg
  obtain⟨b,t1,t2⟩:=t
  refine⟨b,t1,⟨t2,by decide⟩,fun d=>?_⟩
  rcases d with d|d
  ·exact d
  ·exact zh4 _ d
 ·cases q
theorem VL.dd {h:Hp} {args:List PV} {asq:List AV} (v:VL h (fun _=>False) [] args asq):VL h (DD (fun _=>False) [] []) [] args asq :=
 v.anti fun m d=>by
  rcases d with d|d
  ·exact d
  ·exact(zh4 _ d).elim
theorem zho {h:Hp} {D:Nat→Prop} {r:List Nat}:∀{ps:List (List UInt8)} {l:List AV},VL h D r (ps.map PV.s) l→l=ps.map AV.s
 | [],l,v=>v.of_nil
 | x::ps,l,v=>by
  obtain⟨y,ys,e1,e2,e3⟩:=v.uncons
  rw[e1,List.map_cons,←zho e3]
  cases e2;rfl
theorem zmu (K:PEnvOk E1) {neg:Bool} {v:Nat} {w:AV} {h:Hp} (hw:h.wf) (t:HasT h) (h0:v≠0) (hl:wlen v≤512) (hv:V h (fun _=>False) [] (D v) w) :
  ∃lf fr' h' m0 m len cap ps,evCode (evF E1.prog lf) lf strA ([.ag [.b neg,w]]++List.replicate 57 undefA) h=some (.normal,fr',h')∧fr'.length=58∧fr'.getD 1 undefA=.p m0 0∧(∃b,h'.m m0=some b∧b.v[0]?=some (.b neg)) ∧
   fr'.getD 3 undefA=.sl m 0 len cap 1∧(∃b,h'.m m=some b∧b.v=ps.map AV.s)∧len=ps.length∧ps≠[]∧ps.length≤20000∧ps.reverse.flatten=dec v:=by
 obtain⟨lf,fr,M,p,ps,e,f1,f3,hg,g1,g2,g3,hb⟩:=zj5 (neg:=neg) h0 hl
 have hv0:VL h (DD (fun _=>False) [] []) [] [.ag [.b neg,D v]] [.ag [.b neg,w]] :=
  VL.dd (.cons ((fun q:VL h (fun _=>False) [] [.b neg,D v] [.b neg,w]=>V.ag q.1 q.2) (.cons (.b neg) (.cons hv .nil))) .nil)
 have F0:VFr h (DD (fun _=>False) [] []) [] (frOf [.ag [.b neg,D v]]) ([.ag [.b neg,w]]++List.replicate 57 undefA):=by
  intro k
  cases k with
  | zero=>exact hv0.2 0 (by simp) (by simp)
  | succ k =>
   have e2:([AV.ag [.b neg,w]]++List.replicate 57 undefA).getD (k+1) undefA=undefA:=by
    simp only[List.singleton_append,List.getD,List.getElem?_cons_succ,List.getElem?_replicate]
    split<;>rfl
   rw[e2]
   exact .junk _ rfl fun _ q=>by cases q
 obtain⟨fr',h',r',q1,q2,q3,q4,q5⟩:=zaO (zgO K lf) lf strA rfl _ _ _ _ _ _ _ _ e (PInv.start hw t) F0 rfl
 have a1:=q4 1
 rw[f1] at a1
 have a3:=q4 3
 rw[f3] at a3
 rcases hg with⟨hn,_⟩|⟨k,ev,rfl,hk⟩
 ·simp at hn;exact(g1 hn).elim
 rw[zav] at hb hk
 generalize ha1:fr'.getD 1 undefA=A1 at a1
 generalize ha3:fr'.getD 3 undefA=A3 at a3
 cases a1 with
 | @p _ _ m0 _ hm0 =>
  cases a3 with
  | @sl _ _ m _ len cap z hm hlc =>
   obtain⟨b0,c1,c2,c3,c4,c5⟩:=q2.blk 0 _ m0 hb hm0
   obtain⟨b1,d1,d2,d3,d4,d5⟩:=q2.blk k _ m hk hm
   refine⟨lf,fr',h',m0,m,_,_,ps,q1,q5,ha1,⟨b0,c1,?_⟩,ha3,⟨b1,d1,?_⟩,by simp,g1,g2,g3⟩
   ·obtain⟨x,xs,e1,e2,e3⟩:=c4.uncons
    rw[e1]
    cases e2;rfl
   ·exact zho d4
theorem zmt (K:PEnvOk E1) {w:AV} {h:Hp} (hw:h.wf) (t:HasT h) (hv:V h (fun _=>False) [] (D 0) w) :
  ∃lf fr' h',evCode (evF E1.prog lf) lf strA ([.ag [.b false,w]]++List.replicate 57 undefA) h=some (.ret,fr',h')∧fr'.getD 2 undefA=.s [48]:=by
 have wk:WK E1 ⟨[.tmp 2],fun q _=>q=.s [48]⟩ (.seq strA .fail) [] (frOf [.ag [.b false,D 0]]) []:=by
  simp only[strA]
  have q0:((wlen 0:Int)=0)=True:=by rw[zbS];simp
  simp(disch:=omega)only[go_sem,seval,wqq,q0]
 obtain⟨lf,q,fr,M,vs,e,h1,h2,h3⟩:=wk
 simp only[Option.bind_eq_some_iff] at e
 obtain⟨⟨o,fr1,M1⟩,e1,e2⟩:=e
 simp only[unw] at e2
 cases e2
 have e0:pCode E1.glob (pcl E1) lf strA (frOf [.ag [.b false,D 0]]) []=some (.ret,fr,M):=by
  simp only[pCode] at e1
  cases hs:pCode E1.glob (pcl E1) lf strA (frOf [.ag [.b false,D 0]]) [] with
  | none=>rw[hs] at e1;cases e1
  | some r =>
   obtain⟨o2,fr2,M2⟩:=r
   rw[hs] at e1
   cases o2 with
   | normal=>cases e1
   | exit i=>cases e1;exact(h1 i rfl).elim
   | ret=>cases e1;rfl
 obtain⟨k,e4⟩:=zaA _ e0
 have e5:=zat (zbG (Nat.le_max_left k lf)) (Nat.le_max_right k lf) _ e4
 simp only[pRes,pResOne] at h2
 cases h2
 simp only[packP] at h3
 have hv0:VL h (DD (fun _=>False) [] []) [] [.ag [.b false,D 0]] [.ag [.b false,w]] :=
  VL.dd (.cons ((fun q:VL h (fun _=>False) [] [.b false,D 0] [.b false,w]=>V.ag q.1 q.2) (.cons (.b false) (.cons hv .nil))) .nil)
 have F0:VFr h (DD (fun _=>False) [] []) [] (frOf [.ag [.b false,D 0]]) ([.ag [.b false,w]]++List.replicate 57 undefA):=by
  intro k
  cases k with
  | zero=>exact hv0.2 0 (by simp) (by simp)
  | succ k =>
   have e2:([AV.ag [.b false,w]]++List.replicate 57 undefA).getD (k+1) undefA=undefA:=by
    simp only[List.singleton_append,List.getD,List.getElem?_cons_succ,List.getElem?_replicate]
    split<;>rfl
   rw[e2]
   exact .junk _ rfl fun _ q=>by cases q
 obtain⟨fr',h',r',q1,q2,q3,q4,q5⟩:=zaO (zgO K (max k lf)) (max k lf) strA rfl _ _ _ _ _ _ _ _ e5 (PInv.start hw t) F0 rfl
 have a2:=q4 2
 rw[h3] at a2
 generalize ha2:fr'.getD 2 undefA=A2 at a2
 cases a2
 exact⟨_,fr',h',q1,ha2⟩
end Go.Eng
namespace Go.Eng
variable {F:Nat} {key:Nat→Option FuncId}
theorem Ext.below {l:Loc} {h:Hp} {w w':World} {B:Nat} (hB:w.heap.size≤B) (b:RowKit.Below B w w'):Ext l h w l h w' :=
 ⟨l.le_refl,.refl h,fun _ _ e=>.inl e,b.size,b.os,b.tape,b.output,fun k hk _=>b.block k (Nat.lt_of_lt_of_le hk hB)⟩
theorem Sim.below {l:Loc} {h:Hp} {w w':World} {B:Nat} (S:Sim key F l h w) (hB:w.heap.size≤B) (b:RowKit.Below B w w'):Sim key F l h w' :=
 ⟨fun n blk a e1 e2=>(S.holds n blk a e1 e2).move l.le_refl b.size (b.block _ (Nat.lt_of_lt_of_le (S.lt n a e2) hB)),S.apart,fun n a e=>Nat.lt_of_lt_of_le (S.lt n a e) b.size,S.dom,S.wf⟩
theorem zbt {P:Program} {l:Loc} {h:Hp} {w:World} {g:FuncId} {vs:Array Value} {v:AV} {val:Value} (S:Sim key F l h w)
  (c:Calls P g vs w fun e w'=>e=.returned val∧RowKit.Below w.heap.size w w') (r:Rel key l v val) :
  Calls P g vs w fun e w'=>∃l' val,e=.returned val∧Ext l h w l' h w'∧Sim key F l' h w'∧Rel key l' v val :=
 c.mono fun e w' ⟨e1,b⟩=>⟨l,val,e1,.below (Nat.le_refl _) b,S.below (Nat.le_refl _) b,r⟩
theorem zeE {l:Loc} (bs:List UInt8):Rel key l (.s bs) (.string ⟨bs.toArray⟩):=by
 have:=Rel.s (key:=key) (l:=l) (⟨bs.toArray⟩:ByteArray)
 simpa using this
end Go.Eng
namespace Go.Eng
open Go.Proofs Go.RowKit Go.Shelf
theorem zhx {v:Nat} (h:v<10):dec v=[UInt8.ofNat (48+v)]:=by
 unfold dec
 split
 ·rename_i h0;subst h0;rfl
 ·rename_i h0
  have hd:dlen v=1:=by
   have h1:dlen v≤1:=zaN.2 (by omega)
   have h2:=zcy v
   rcases Nat.eq_zero_or_pos (dlen v) with q|q
   ·rw[q] at h2;simp at h2;omega
   ·omega
  rw[hd]
  show [UInt8.ofNat (48+v/10^0%10)]=_
  rw[Nat.pow_zero,Nat.div_one,Nat.mod_eq_of_lt h]
theorem zf8:∀(n v:Nat),dtx (n+1) v=dtx n (v/10)++[UInt8.ofNat (48+v%10)]
 | 0,v=>by show [UInt8.ofNat (48+v/10^0%10)]=_;rw[Nat.pow_zero,Nat.div_one];rfl
 | n+1,v=>by
  show UInt8.ofNat (48+v/10^(n+1)%10)::dtx (n+1) v=(UInt8.ofNat (48+v/10/10^n%10)::dtx n (v/10))++_
  rw[zf8 n v,Nat.div_div_eq_div_mul,←Nat.pow_succ'];rfl
theorem zk7 {v:Nat} (h:¬v<10):dec v=dec (v/10)++[UInt8.ofNat (48+v%10)]:=by
 have hd:dlen v=dlen (v/10)+1:=by
  have k:∀m,dlen (v/10)≤m↔dlen v≤m+1:=fun m=>by
   rw[zaN,zaN,Nat.pow_succ,Nat.div_lt_iff_lt_mul (by decide)]
  have k1:=(k (dlen (v/10))).1 (Nat.le_refl _)
  have k2:0<dlen v:=by
   rcases Nat.eq_zero_or_pos (dlen v) with q|q
   ·have:=zcy v;rw[q] at this;simp at this;omega
   ·exact q
  have k3:=(k (dlen v-1)).2 (by omega)
  omega
 unfold dec
 rw[if_neg (by omega),if_neg (by omega),hd,zf8]
theorem zhw (v:Nat):Lib.decDigits v=dec v:=by
 induction v using Nat.strongRecOn with
 | _ v ih =>
  rw[Lib.decDigits]
  split
  ·rename_i h;exact(zhx h).symm
  ·rename_i h
   rw[ih (v/10) (by omega),←zk7 h]
theorem zjg (n:Int):Lib.itoa n=decI n:=by
 unfold Lib.itoa decI
 split
 ·rw[zhw]
 ·rename_i h
  rw[zhw]
  congr 1;omega
theorem ziH (l:List UInt8):∀c,Lib.repeatL l c=(List.replicate c l).flatten
 | 0=>rfl
 | c+1=>by rw[Lib.repeatL,ziH l c,List.replicate_succ,List.flatten_cons]
theorem zla {c:UInt8} (h:isDig c=true):Lib.digitVal c=some (c.toNat-48):=by
 simp only[isDig,decide_eq_true_eq] at h
 unfold Lib.digitVal
 rw[if_pos h]
theorem zi0:∀(l:List UInt8) (a:Nat),l.all isDig=true→Lib.decFrom a l=some (a*10^l.length+tv l)
 | [],a,_=>by simp[Lib.decFrom,tv]
 | c::l,a,h=>by
  simp only[List.all_cons,Bool.and_eq_true] at h
  unfold Lib.decFrom
  rw[zla h.1]
  simp only
  rw[zi0 l _ h.2]
  congr 1
  show (a*10+(c.toNat-48))*10^l.length+tv l=a*10^(l.length+1)+((c.toNat-48)*10^l.length+tv l)
  rw[Nat.pow_succ];grind
theorem zja {l:List UInt8} (h0:l≠[]) (h:l.all isDig=true):Lib.atoi l=some (tv l:Int):=by
 cases l with
 | nil=>exact(h0 rfl).elim
 | cons c l =>
  have hc:isDig c=true:=by simp only[List.all_cons,Bool.and_eq_true] at h;exact h.1
  simp only[isDig,decide_eq_true_eq] at hc
  have h45:(c==45)=false:=by
   rw[beq_eq_false_iff_ne];rintro rfl;revert hc;decide
  have h43:(c==43)=false:=by
   rw[beq_eq_false_iff_ne];rintro rfl;revert hc;decide
  simp only[Lib.atoi,h45,h43,Bool.false_eq_true,if_false]
  unfold Lib.decNat
  simp only[List.isEmpty_cons,Bool.false_eq_true,if_false]
  rw[zi0 _ _ h]
  simp
theorem zhR (c:UInt8):∀l:List UInt8,Lib.indexByte l c=idxB l c
 | []=>rfl
 | b::l=>by unfold Lib.indexByte idxB;rw[zhR c l]
structure LibOk (P:Program) (ρ:Ren) (key:Nat→Option FuncId) (T:Tab) (G:Nat):Prop where
 l105:Lays.n105 P ρ
 l171:LaysM.n171 P ρ
 lX:Builder.Extra P ρ
 gname:P.globalNamed "internal/strconv.uint64pow10" = some G
 gkey:T.gkey G=some 0
 k50:key 50=some (ρ.f 171)
 k51:key 51=some (ρ.f 105)
 o130:∀g,key 130=some g→Lays.n160 P ρ∧(P.info? (ρ.t 116)).map (fun i=>(i.zero,i.size))=some (some (.agg (Array.replicate 256 (.bool false))),256)∧g=ρ.f 160
 o131:∀g,key 131=some g→Lays.n172 P ρ∧g=ρ.f 172
 o222:∀g,key 222=some g→Lays.n219 P ρ∧g=ρ.f 219
variable {P:Program} {ρ:Ren} {key:Nat→Option FuncId} {T:Tab} {G:Nat}
theorem zhh {l:Loc} {xs:List UInt8} {v:Value} (h:Rel key l (.s xs) v):∃s:ByteArray,v=.string s∧s.data.toList=xs:=by
 generalize hx:AV.s xs=x at h
 cases h<;>cases hx
 exact⟨_,rfl,rfl⟩
theorem zmk {l:Loc} {k:IntKind} {n:Int} {v:Value} (h:Rel key l (.i k n) v):v=.int k n:=by
 cases h;rfl
theorem zgQ {l:Loc} {a:AV} {vs:Array Value} (h:RelL key l [a] vs.toList):∃v,vs = #[v]∧Rel key l a v:=by
 have hl:=h.1
 rcases vs with⟨vs⟩
 match vs,hl with
 | [v],_=>exact⟨v,rfl,h.2 0 (by simp) (by simp)⟩
theorem zeD {l:Loc} {a b:AV} {vs:Array Value} (h:RelL key l [a,b] vs.toList):∃v w,vs = #[v,w]∧Rel key l a v∧Rel key l b w:=by
 have hl:=h.1
 rcases vs with⟨vs⟩
 match vs,hl with
 | [v,w],_=>exact⟨v,w,rfl,h.2 0 (by simp) (by simp),h.2 1 (by simp) (by simp)⟩
theorem mkS {s:ByteArray} {xs:List UInt8} (h:s.data.toList=xs):s=⟨xs.toArray⟩:=by
 rcases s with⟨d⟩
 rw[←h]
theorem zoC (K:LibOk P ρ key T G) {F:Nat} {l:Loc} {h:Hp} {w:World} (TO:TabOk key T l) (S:Sim key F l h w) (t:∃b,h.m 0=some b∧b.v=powT):Lib.TabIs P w "internal/strconv.uint64pow10" .u64 Lib.pow10Tab:=by
 obtain⟨m,hm⟩:=TO.g G 0 K.gkey
 obtain⟨b,b1,b2⟩:=t
 have H:=S.holds 0 b _ b1 hm
 obtain⟨_,_,cs,ty,fz,h3,h4⟩:=H.whole rfl
 unfold Lib.TabIs World.var?
 rw[K.gname]
 simp only[Option.bind_some]
 simp only at h3
 rw[h3]
 simp only[Option.some.injEq]
 have hlen:b.v.length=20:=by rw[b2];rfl
 apply Array.ext_getElem?
 intro i
 by_cases hi:i<20
 ·obtain⟨v,c1,c2⟩:=H.cell i (by omega)
  have hcs:cs[i]?=some v:=by
   have:=c1
   simp only[World.cell?,Nat.zero_add] at this
   rw[h3] at this
   simpa using this
  have hb:b.v[i]'(by omega)=.i .u64 ((10^i:Nat):Int):=by
   simp only[b2,powT]
   rw[List.getElem_map,List.getElem_range]
  rw[hb] at c2
  rw[hcs,zmk c2]
  simp[Lib.pow10Tab,hi]
 ·rw[Array.getElem?_eq_none (by omega),Array.getElem?_eq_none (by simp[Lib.pow10Tab];omega)]
theorem zhV (K:LibOk P ρ key T G) {f g:Nat} (hk:key f=some g) (hf:f≠33) {F:Nat} {args:List AV} {vs:Array Value} {h h':Hp} {v:AV} {l:Loc} {w:World} (e:orcA f args h=some (v,h')) (TO:TabOk key T l)
  (RL:RelL key l args vs.toList) (S:Sim key F l h w):Calls P g vs w fun e w'=>∃l' val,e=.returned val∧Ext l h w l' h' w'∧Sim key F l' h' w'∧Rel key l' v val:=by
 unfold orcA at e
 rw[if_neg hf] at e
 split at e
 ·cases e
 rename_i ht
 simp only[Option.map_eq_some_iff,Prod.mk.injEq] at e
 obtain⟨v',e1,rfl,rfl⟩:=e
 unfold libA at e1
 split at e1
 ·rename_i n
  split at e1
  ·rename_i hc
   cases e1
   obtain⟨rfl,hn⟩:=hc
   obtain⟨x,rfl,r1⟩:=zgQ RL
   rw[zmk r1]
   obtain rfl:=Option.some.inj (K.k50.symm.trans hk)
   have t:∃b,h.m 0=some b∧b.v=powT:=by
    by_cases q:∃b,h.m 0=some b∧b.v=powT
    ·exact q
    ·exact(ht ⟨rfl,q⟩).elim
   refine zbt S (val:=.string ⟨(decI n).toArray⟩) ((Any.strconv_Itoa K.l171 n hn.1 hn.2 w (zoC K TO S t)).mono ?_) (zeE _)
   rintro e w' ⟨rfl,k,os,rfl⟩
   exact⟨by rw[zjg],Lib.below_grow _ _ (Nat.le_refl _) _ _⟩
  ·cases e1
 ·rename_i xs c
  split at e1
  ·rename_i hc
   cases e1
   obtain⟨rfl,h1,h2,h3⟩:=hc
   obtain⟨x,y,rfl,r1,r2⟩:=zeD RL
   obtain⟨s,rfl,rfl⟩:=zhh r1
   rw[zmk r2]
   obtain rfl:=Option.some.inj (K.k51.symm.trans hk)
   obtain⟨c,rfl⟩:∃k:Nat,c=(k:Int):=⟨c.toNat,by omega⟩
   have hsz:s.size≤1000:=by simpa using h3
   have hm:s.size*c≤1000*1000:=Nat.mul_le_mul hsz (by omega)
   refine zbt S (val:=.string ⟨((List.replicate c s.data.toList).flatten).toArray⟩) ((Any.strings_Repeat K.l105 K.lX s c w (by omega) (by omega)).mono ?_) (zeE _)
   rintro e w' ⟨rfl,hb⟩
   exact⟨by rw[ziH],hb⟩
  ·cases e1
 ·rename_i xs cs
  split at e1
  ·rename_i hc
   cases e1
   obtain⟨rfl,h1,h2,h3⟩:=hc
   obtain⟨x,y,rfl,r1,r2⟩:=zeD RL
   obtain⟨s,rfl,rfl⟩:=zhh r1
   obtain⟨c,rfl,rfl⟩:=zhh r2
   obtain⟨l160,i116,rfl⟩:=K.o130 _ hk
   refine zbt S (val:=.string ⟨(((s.data.toList.reverse.dropWhile (c.data.toList.contains ·)).reverse).dropWhile (c.data.toList.contains ·)).toArray⟩) ((Any.strings_Trim_laid l160 i116 s c w (by simpa using h1) (by simpa using h2) (ascii_of_all h3)).mono ?_) (zeE _)
   rintro e w' ⟨rfl,hb⟩
   exact⟨rfl,hb⟩
  ·split at e1
   ·rename_i hf
    subst hf
    split at e1
    ·rename_i c hh
     cases e1
     obtain⟨x,y,rfl,r1,r2⟩:=zeD RL
     obtain⟨s,rfl,rfl⟩:=zhh r1
     obtain⟨z,rfl,hz⟩:=zhh r2
     obtain⟨l219,rfl⟩:=K.o222 _ hk
     have ez:z=⟨#[c]⟩:=mkS hz
     subst ez
     refine zbt S (val:=.int .i64 (idxB s.data.toList c)) ((Any.stringslite_Index_one l219 s c w).mono ?_) (.i _ _)
     rintro e w' ⟨rfl,rfl⟩
     exact⟨by rw[zhR],.refl _ _⟩
    ·cases e1
   ·cases e1
 ·rename_i xs
  split at e1
  ·rename_i hc
   cases e1
   obtain⟨rfl,h1,h2,h3⟩:=hc
   obtain⟨x,rfl,r1⟩:=zgQ RL
   obtain⟨s,rfl,rfl⟩:=zhh r1
   obtain⟨l172,rfl⟩:=K.o131 _ hk
   refine zbt S (val:=.tuple #[.int .i64 (tv s.data.toList:Nat),.nilIface]) ((Any.strconv_Atoi l172 s _ (by simpa using h2) (zja h1 h3) w).mono ?_) ?_
   ·rintro e w' ⟨rfl,t,rfl⟩
    exact⟨rfl,Go.Joins.below_bytesWorld _ _ _ _ (Nat.le_refl _)⟩
   ·exact RelL.tu (.cons (.i _ _) (.cons .inil .nil))
  ·cases e1
 ·cases e1
end Go.Eng
namespace Go.Eng
variable {key:Nat→Option FuncId} {P:Program} {T:Tab} {call:Nat→List AV→Hp→Option (AV×Hp)} {F:Nat}
def graft:Code→Code→Code
 | .seq x y,r=>.seq x (graft y r)
 | c,r=>.seq c r
theorem zhQ (G:GoodCall call) (HC:Callable P key) (CS:CallSound P key T call) (hm:P.follows .mixedOrders=true) (lf:Nat) (c r:Code) (hg:graft c r=.seq c r) (hr:(cCode P T c).regsOk=true)
  {Q:Exit→Act→World→Prop} {l:Loc} {fr fr':Fr} {a:Act} {h h':Hp} {w:World} {out:Out} (TO:TabOk key T l) (R:RelF key l fr a.tmps) (S:Sim key F l h w) (hF:h'.next≤F)
  (he:evCode call lf (cCode P T c) fr h=some (out,fr',h'))
  (cont:∀l' a' w',Ext l h w l' h' w'→RelF key l' fr' a'.tmps→Sim key F l' h' w'→a'.defers=a.defers→Exit.then (r.wp P Q) Q out.toExit a' w'):(graft c r).wp P Q a w:=by
 rw[hg]
 exact wp_seq (zde G HC CS lf c (zcg G HC CS hm c hr) TO R S hF he cont)
theorem zgh (G:GoodCall call) (HC:Callable P key) (CS:CallSound P key T call) (hm:P.follows .mixedOrders=true) (lf:Nat) (r:Code):∀(c:Code),(cCode P T c).regsOk=true →
  ∀{Q:Exit→Act→World→Prop} {l:Loc} {fr fr':Fr} {a:Act} {h h':Hp} {w:World} {out:Out},TabOk key T l→RelF key l fr a.tmps→Sim key F l h w→h'.next≤F →
  evCode call lf (cCode P T c) fr h=some (out,fr',h') →
  (∀l' a' w',Ext l h w l' h' w'→RelF key l' fr' a'.tmps→Sim key F l' h' w'→a'.defers=a.defers→Exit.then (r.wp P Q) Q out.toExit a' w')→(graft c r).wp P Q a w:=by
 intro c
 induction c with
 | seq x y _ ihy =>
  intro hr Q l fr fr' a h h' w out TO R S hF he cont
  simp only[cCode,XC.regsOk,Bool.and_eq_true] at hr
  simp only[cCode,evCode] at he
  show (Code.seq x (graft y r)).wp P Q a w
  cases h1:evCode call lf (cCode P T x) fr h with
  | none=>rw[h1] at he;cases he
  | some q =>
   obtain⟨o1,fr1,h1'⟩:=q
   rw[h1] at he
   have good1:=zbb G lf _ h1
   cases o1 with
   | normal =>
    simp only at he
    have good2:=zbb G lf _ he
    have hF1:h1'.next≤F:=Nat.le_trans good2.le.next hF
    refine wp_seq (zde G HC CS lf x (zcg G HC CS hm x hr.1) TO R S hF1 h1 fun l1 a1 w1 E1 R1 S1 d1=>?_)
    exact ihy hr.2 (TO.mono E1.le) R1 S1 hF he fun l2 a2 w2 E2 R2 S2 d2=>cont l2 a2 w2 (.trans (S.hd S1.wf hF1) E1 E2) R2 S2 (d2.trans d1)
   | exit i =>
    cases he
    exact wp_seq (zde G HC CS lf x (zcg G HC CS hm x hr.1) TO R S hF h1 fun l1 a1 w1 E1 R1 S1 d1=>cont l1 a1 w1 E1 R1 S1 d1)
   | ret =>
    cases he
    exact wp_seq (zde G HC CS lf x (zcg G HC CS hm x hr.1) TO R S hF h1 fun l1 a1 w1 E1 R1 S1 d1=>cont l1 a1 w1 E1 R1 S1 d1)
 | _=>exact fun hr _ _ _ _ _ _ _ _ _ TO R S hF he cont=>zhQ G HC CS hm lf _ r rfl hr TO R S hF he cont
theorem zaa {n:Nat} {l:List Value} (h:l.length=n+1):∃t l2,l=t::l2∧l2.length=n:=by
 cases l with
 | nil=>simp at h
 | cons t l=>exact⟨t,l,rfl,by simpa using h⟩
theorem zpw (tm:Array Value) (h:tm.size=58):∃t0 t1 t2 t3 t4 t5 t6 t7 t8 t9 t10 t11 t12 t13 t14 t15 t16 t17 t18 t19 t20 t21 t22 t23 t24 t25 t26 t27 t28 t29 t30 t31 t32 t33 t34 t35 t36 t37 t38 t39 t40 t41 t42 t43 t44 t45 t46 t47 t48 t49 t50 t51 t52 t53 t54 t55 t56 t57,tm = #[t0,t1,t2,t3,t4,t5,t6,t7,t8,t9,t10,t11,t12,t13,t14,t15,t16,t17,t18,t19,t20,t21,t22,t23,t24,t25,t26,t27,t28,t29,t30,t31,t32,t33,t34,t35,t36,t37,t38,t39,t40,t41,t42,t43,t44,t45,t46,t47,t48,t49,t50,t51,t52,t53,t54,t55,t56,t57]:=by
 rcases tm with⟨l⟩
 have h:l.length=58:=h
 obtain⟨t0,l0,rfl,h0⟩:=zaa h
 obtain⟨t1,l1,rfl,h1⟩:=zaa h0
 obtain⟨t2,l2,rfl,h2⟩:=zaa h1
 obtain⟨t3,l3,rfl,h3⟩:=zaa h2
 obtain⟨t4,l4,rfl,h4⟩:=zaa h3
 obtain⟨t5,l5,rfl,h5⟩:=zaa h4
 obtain⟨t6,l6,rfl,h6⟩:=zaa h5
 obtain⟨t7,l7,rfl,h7⟩:=zaa h6
 obtain⟨t8,l8,rfl,h8⟩:=zaa h7
 obtain⟨t9,l9,rfl,h9⟩:=zaa h8
 obtain⟨t10,l10,rfl,h10⟩:=zaa h9
 obtain⟨t11,l11,rfl,h11⟩:=zaa h10
 obtain⟨t12,l12,rfl,h12⟩:=zaa h11
 obtain⟨t13,l13,rfl,h13⟩:=zaa h12
 obtain⟨t14,l14,rfl,h14⟩:=zaa h13
 obtain⟨t15,l15,rfl,h15⟩:=zaa h14
 obtain⟨t16,l16,rfl,h16⟩:=zaa h15
 obtain⟨t17,l17,rfl,h17⟩:=zaa h16
 obtain⟨t18,l18,rfl,h18⟩:=zaa h17
 obtain⟨t19,l19,rfl,h19⟩:=zaa h18
 obtain⟨t20,l20,rfl,h20⟩:=zaa h19
 obtain⟨t21,l21,rfl,h21⟩:=zaa h20
 obtain⟨t22,l22,rfl,h22⟩:=zaa h21
 obtain⟨t23,l23,rfl,h23⟩:=zaa h22
 obtain⟨t24,l24,rfl,h24⟩:=zaa h23
 obtain⟨t25,l25,rfl,h25⟩:=zaa h24
 obtain⟨t26,l26,rfl,h26⟩:=zaa h25
 obtain⟨t27,l27,rfl,h27⟩:=zaa h26
 obtain⟨t28,l28,rfl,h28⟩:=zaa h27
 obtain⟨t29,l29,rfl,h29⟩:=zaa h28
 obtain⟨t30,l30,rfl,h30⟩:=zaa h29
 obtain⟨t31,l31,rfl,h31⟩:=zaa h30
 obtain⟨t32,l32,rfl,h32⟩:=zaa h31
 obtain⟨t33,l33,rfl,h33⟩:=zaa h32
 obtain⟨t34,l34,rfl,h34⟩:=zaa h33
 obtain⟨t35,l35,rfl,h35⟩:=zaa h34
 obtain⟨t36,l36,rfl,h36⟩:=zaa h35
 obtain⟨t37,l37,rfl,h37⟩:=zaa h36
 obtain⟨t38,l38,rfl,h38⟩:=zaa h37
 obtain⟨t39,l39,rfl,h39⟩:=zaa h38
 obtain⟨t40,l40,rfl,h40⟩:=zaa h39
 obtain⟨t41,l41,rfl,h41⟩:=zaa h40
 obtain⟨t42,l42,rfl,h42⟩:=zaa h41
 obtain⟨t43,l43,rfl,h43⟩:=zaa h42
 obtain⟨t44,l44,rfl,h44⟩:=zaa h43
 obtain⟨t45,l45,rfl,h45⟩:=zaa h44
 obtain⟨t46,l46,rfl,h46⟩:=zaa h45
 obtain⟨t47,l47,rfl,h47⟩:=zaa h46
 obtain⟨t48,l48,rfl,h48⟩:=zaa h47
 obtain⟨t49,l49,rfl,h49⟩:=zaa h48
 obtain⟨t50,l50,rfl,h50⟩:=zaa h49
 obtain⟨t51,l51,rfl,h51⟩:=zaa h50
 obtain⟨t52,l52,rfl,h52⟩:=zaa h51
 obtain⟨t53,l53,rfl,h53⟩:=zaa h52
 obtain⟨t54,l54,rfl,h54⟩:=zaa h53
 obtain⟨t55,l55,rfl,h55⟩:=zaa h54
 obtain⟨t56,l56,rfl,h56⟩:=zaa h55
 obtain⟨t57,l57,rfl,h57⟩:=zaa h56
 obtain rfl:=List.eq_nil_of_length_eq_zero h57
 exact⟨t0,t1,t2,t3,t4,t5,t6,t7,t8,t9,t10,t11,t12,t13,t14,t15,t16,t17,t18,t19,t20,t21,t22,t23,t24,t25,t26,t27,t28,t29,t30,t31,t32,t33,t34,t35,t36,t37,t38,t39,t40,t41,t42,t43,t44,t45,t46,t47,t48,t49,t50,t51,t52,t53,t54,t55,t56,t57,rfl⟩
end Go.Eng
namespace Go.Proofs
open Go.Eng Go.RowKit Go.Shelf
noncomputable def Tryz.strPre:Code:=match Tryz.f122.body with|some (.seq a (.seq b (.seq c (.seq d (.seq e _)))))=>.seq a (.seq b (.seq c (.seq d e)))|_=>.skip
noncomputable def Tryz.strTail:Code:=match Tryz.f122.body with|some (.seq _ (.seq _ (.seq _ (.seq _ (.seq _ r)))))=>r|_=>.skip
theorem Tryz.hidS {p:Prop} (h:p):Hid p:=h
set_option maxHeartbeats 4000000 in
set_option maxRecDepth 100000 in
theorem Tryz.str_tail (neg:Bool) (ps:List (List UInt8)) (hne:ps.reverse.flatten≠[]) (hlen:ps.length≤20000) (htot:ps.flatten.length≤1000000)
  (b1 o1 b3 o3 c:Nat) (w:World) (hneg:w.cell? ⟨b1,o1,none⟩=some (.bool neg)) (hb1:b1<w.heap.size) (hb3:b3<w.heap.size)
  (hcells:∀j x,ps[j]?=some x→w.cell? ⟨b3,o3+j,none⟩=some (.string ⟨x.toArray⟩))
  (tm:Array Value) (hsz:tm.size=58) (h1:tm[1]?=some (.pointer (some ⟨b1,o1,none⟩))) (h3:tm[3]?=some (.slice (some ⟨b3,o3,none⟩) ps.length c)) :
  Tryz.strTail.wp Tryz.prog (fun e a w'=>e=.ret∧a.defers=[]∧a.tmps.getD 2 undef=.string ⟨((if neg then [45] else [])++ps.reverse.flatten).toArray⟩∧Below w.heap.size w w') ⟨tm,[]⟩ w:=by
 have HC:=Tryz.hidS hcells
 clear hcells
 obtain⟨t0,t1,t2,t3,t4,t5,t6,t7,t8,t9,t10,t11,t12,t13,t14,t15,t16,t17,t18,t19,t20,t21,t22,t23,t24,t25,t26,t27,t28,t29,t30,t31,t32,t33,t34,t35,t36,t37,t38,t39,t40,t41,t42,t43,t44,t45,t46,t47,t48,t49,t50,t51,t52,t53,t54,t55,t56,t57,rfl⟩:=zpw tm hsz
 simp only[List.getElem?_toArray,List.getElem?_cons_succ,List.getElem?_cons_zero,Option.some.injEq] at h1 h3
 subst h1
 subst h3
 clear hsz
 unfold Tryz.strTail
 simp only[Tryz.f122]
 have hF:Lib.IsBuilder 212 5 w.heap.size w.heap.size [] (w.alloc (.cells #[.pointer none,.slice none 0 0] 212)):=Lib.fresh_isBuilder 212 5 w
 have hB0:Below w.heap.size w (w.alloc (.cells #[.pointer none,.slice none 0 0] 212)):=(Below.refl w.heap.size w).alloc (Nat.le_refl _) _
 have HF:=Tryz.hidS hF
 have HB0:=Tryz.hidS hB0
 clear hF hB0
 obtain⟨pre,hpre⟩:∃pre:List UInt8,pre=if neg then [45] else []:=⟨_,rfl⟩
 have hprel:pre.length≤1:=by rw[hpre];split<;>simp
 rw[←hpre]
 have tail:∀(k:Nat),((ps.drop k).reverse.flatten).length≤1000000:=fun k=>by
  have e:=congrArg (fun l=>(List.flatten l).length) (List.take_append_drop k ps)
  simp only[List.flatten_append,List.length_append] at e
  have e2:((ps.drop k).reverse.flatten).length=((ps.drop k).flatten).length:=by
   simp only[List.length_flatten,List.map_reverse,List.sum_reverse]
  omega
 have HT:=Tryz.hidS tail
 clear tail
 cases neg
 case' false =>
  have e0:pre=[]:=by simpa using hpre
  have H1:=Tryz.hidS (show Lib.IsBuilder 212 5 w.heap.size w.heap.size (Lib.byteCells pre) (w.alloc (.cells #[.pointer none,.slice none 0 0] 212)) by rw[e0];exact HF.out)
  have HB1:=HB0
  go_wp2_with fail
 case' true =>
  have e0:pre=[45]:=by simpa using hpre
  go_wp2_with fail
  refine(Any.Builder_WriteByte Tryz.l167 Tryz.lX w.heap.size w.heap.size [] 45 _ HF.out (by simp) (by simp)).mono ?_
  rintro e w2 ⟨rfl,h2,hb2⟩
  have H1:=Tryz.hidS (show Lib.IsBuilder 212 5 w.heap.size w.heap.size (Lib.byteCells pre) w2 by rw[e0];exact Or.inr h2)
  have HB1:=Tryz.hidS (HB0.out.trans hb2)
  clear h2 hb2
  go_wp2_with fail
 all_goals (
  go_loopw [9] (fun i wr=>∃k:Nat,k≤ps.length∧i=.int .i64 ((k:Int)-1)∧Hid (Lib.IsBuilder 212 5 w.heap.size w.heap.size (Lib.byteCells (pre++(ps.drop k).reverse.flatten)) wr)∧Hid (Below w.heap.size w wr)) (fun i _=>(intOf i+1).toNat)
  case atStart=>exact⟨ps.length,Nat.le_refl _,rfl,by rw[List.drop_length];simpa using H1,HB1⟩
  case round =>
   obtain⟨k,hk,rfl,HB,HW⟩:=hrel
   by_cases hk0:k=0
   ·subst hk0
    have hd:(ps.drop 0)=ps:=List.drop_zero
    rw[hd] at HB
    go_wp2_with fail
    refine(Any.Builder_String { Tryz.l105 with } Tryz.lX w.heap.size w.heap.size (pre++ps.reverse.flatten) wr HB.out (fun q=>hne (List.append_eq_nil_iff.1 q).2)).mono ?_
    rintro e w3 ⟨rfl,hb3'⟩
    go_wp2_with fail
    exact HW.out.trans hb3'
   ·obtain⟨m,rfl⟩:∃m,k=m+1:=⟨k-1,by omega⟩
    have hm:m<ps.length:=by omega
    obtain⟨x,hx⟩:∃x,ps[m]?=some x:=⟨ps[m],List.getElem?_eq_getElem hm⟩
    have hc:=HC.out m x hx
    rw[←HW.out.cell (p:=⟨b3,o3+m,none⟩) hb3] at hc
    have hdrop:(ps.drop m).reverse.flatten=(ps.drop (m+1)).reverse.flatten++x:=by
     have e:ps.drop m=x::ps.drop (m+1):=by
      have:=List.drop_eq_getElem_cons hm
      rw[List.getElem?_eq_getElem hm] at hx
      cases hx;exact this
     rw[e];simp
    have hl:=HT.out m
    rw[hdrop,List.length_append] at hl
    have Hd:=Tryz.hidS hdrop
    have hBw:w.heap.size≤wr.heap.size:=HW.out.size
    have i1:((m+1:Nat):Int)-1=(m:Int):=by omega
    rw[i1]
    clear hdrop hx
    have hxs:(⟨x.toArray⟩:ByteArray).size=x.length:=rfl
    go_wp2_with fail
    refine(Any.Builder_WriteString { Tryz.l105 with } Tryz.lX w.heap.size w.heap.size _ ⟨x.toArray⟩ wr HB.out (by rw[Lib.byteCells_length,List.length_append,hxs];omega) hBw).mono ?_
    rintro e w2' ⟨rfl,h2',hb2'⟩
    have H2:=Tryz.hidS (show Lib.IsBuilder 212 5 w.heap.size w.heap.size (Lib.byteCells (pre++(ps.drop m).reverse.flatten)) w2' by
     rw[Hd.out,←List.append_assoc,Lib.byteCells_append]
     rw[Lib.strCells_eq] at h2'
     exact Or.inr h2')
    have Hb2:=Tryz.hidS (HW.out.trans hb2')
    clear h2' hb2'
    go_wp2_with fail
    exact⟨⟨m,by omega,rfl,H2,Hb2⟩,by simp[intOf]⟩)
end Go.Proofs
namespace Go.Eng
open Go.RowKit
variable {key:Nat→Option FuncId} {P:Program} {T:Tab}
def Hp.tw (t:Blk) (cs:List AV):Hp:=⟨fun k=>if k=0 then some { t with rw:=false } else if k=5 then some ⟨cs,false,0⟩ else none,6⟩
def Loc.tw (l:Loc) (a1:At):Loc:=fun k=>if k=5 then some a1 else if k≤4 then l k else none
theorem zjX {l l2:Loc} {i:Nat} (hi:i<powT.length) {v:Value} (r:Rel key l powT[i] v):Rel key l2 powT[i] v:=by
 have e:powT[i]=.i .u64 ((10^i:Nat):Int):=by
  simp only[powT];rw[List.getElem_map,List.getElem_range]
 rw[e] at r ⊢
 cases r;exact .i _ _
theorem zkW {F F':Nat} {l:Loc} {h:Hp} {w:World} (S:Sim key F l h w) {t:Blk} {a0:At} (ht:h.m 0=some t) (hv:t.v=powT) (h0:l 0=some a0) {xs:List Nat} {a1:At}
  (hb:a1.b<w.heap.size∧a1.w=false∧xs.length≤a1.n∧∀i (hi:i<xs.length),w.cell? ⟨a1.b,a1.o+i,none⟩=some (.int .u32 ((xs[i]:Nat):Int))) :
  Sim key F' (Loc.tw l a1) (Hp.tw t (xs.map fun x:Nat=>.i .u32 (x:Int))) w:=by
 refine⟨fun k b a e1 e2=>?_,fun k b a k' b' a' e1 e2 e3=>?_,fun k a e=>?_,fun k a e=>?_,fun k hk=>?_⟩
 ·by_cases hk:k=0
  ·subst hk
   have e2:l 0=some a:=e2
   rw[h0] at e2
   cases e1;cases e2
   have H:=S.holds 0 t a0 ht h0
   refine⟨H.lt,H.len,fun i hi=>?_,H.scal,fun q=>(by cases q),fun q=>⟨rfl,(H.whole q).2⟩⟩
   obtain⟨v,c1,c2⟩:=H.cell i hi
   refine⟨v,c1,?_⟩
   have hi':i<powT.length:=by rw[←hv];exact hi
   have e:t.v[i]=powT[i]:=by simp only[hv]
   simp only at hi ⊢
   rw[e] at c2 ⊢
   exact zjX hi' c2
  ·by_cases hkn:k=5
   ·subst hkn
    cases e1;cases e2
    obtain⟨q1,q0,q2,q3⟩:=hb
    refine⟨q1,by simpa using q2,fun i hi=>?_,fun i hi=>?_,fun q=>(by cases q),fun q=>?_⟩
    ·simp only[List.length_map] at hi
     refine⟨_,q3 i hi,?_⟩
     simp only[List.getElem_map]
     exact .i _ _
    ·simp only[List.getElem_map];rfl
    ·rw[q0] at q;cases q
   ·simp only[Hp.tw,if_neg hk,if_neg hkn] at e1;cases e1
 ·simp only[Hp.tw] at e1
  split at e1
  ·cases e1;cases e3
  ·split at e1
   ·cases e1;cases e3
   ·cases e1
 ·simp only[Loc.tw] at e
  split at e
  ·cases e;exact hb.1
  ·split at e
   ·exact S.lt k a e
   ·cases e
 ·left
  show k<6
  simp only[Loc.tw] at e
  split at e
  ·omega
  ·split at e
   ·omega
   ·cases e
 ·have hk':6≤k:=hk
  simp only[Hp.tw]
  rw[if_neg (by omega),if_neg (by omega)]
theorem zoE {F:Nat} {l:Loc} {h:Hp} {w:World} (S:Sim key F l h w) {t:Blk} {a0:At} (ht:h.m 0=some t) (hv:t.v=powT) (h0:l 0=some a0) {neg:Bool} {wv:AV} {val:Value} {tx:List UInt8}
  (e:txtA [.ag [.b neg,wv]] h=some tx) (r:Rel key l wv val):∃cs a1 wv' v,(∀F',Sim key F' (Loc.tw l a1) (Hp.tw t cs) w)∧Rel key (Loc.tw l a1) wv' val∧wlen v≤512∧(neg=true→v≠0) ∧
   tx=decI (if neg then-(v:Int) else (v:Int))∧V (Hp.tw t cs) (fun _=>False) [] (D v) wv':=by
 have H0:=S.holds 0 t a0 ht h0
 have small:∀{wv':AV},Rel key (Loc.tw l ⟨a0.b,0,0,false⟩) wv' val→txtA [.ag [.b neg,wv']] (Hp.tw t [])=some tx→(∀m off len cap z,wv'=.sl m off len cap z→False) →
   ∃cs a1 wv' v,(∀F',Sim key F' (Loc.tw l a1) (Hp.tw t cs) w)∧Rel key (Loc.tw l a1) wv' val∧wlen v≤512∧(neg=true→v≠0) ∧
   tx=decI (if neg then-(v:Int) else (v:Int))∧V (Hp.tw t cs) (fun _=>False) [] (D v) wv':=fun {wv'} r1 e1 hs=>by
  obtain⟨v,v1,v2,v3,v4⟩:=zgX e1 fun m off len cap z q=>(hs _ _ _ _ _ q).elim
  exact⟨[],⟨a0.b,0,0,false⟩,wv',v,fun F'=>zkW (xs:=[]) S ht hv h0 ⟨H0.lt,rfl,Nat.le_refl _,fun i hi=>by simp at hi⟩,r1,v1,v2,v3,v4⟩
 cases r with
 | @sl n off len cap cap' z a ha q1 q2 q3 =>
   replace e:(if len=0 then wtx neg [] else if z=1 then ((h.rd n off len).bind wordsA).bind (wtx neg) else none)=some tx:=e
   split at e
   ·rename_i hl
    subst hl
    exact small (wv':=.e0) (.e0 _ _) e fun _ _ _ _ _ q=>by cases q
   ·rename_i hl
    split at e
    ·rename_i hz
     subst hz
     simp only[Option.bind_eq_some_iff] at e
     obtain⟨xs,⟨cs,e1,e2⟩,e3⟩:=e
     obtain⟨w1,w2⟩:=zdC e2
     unfold Hp.rd at e1
     split at e1
     ·rename_i b hb
      split at e1
      ·rename_i hle
       cases e1
       have hxl:xs.length=len:=by
        have:=congrArg List.length w1
        simp at this;omega
       have hg:∀i (hi:i<xs.length),b.v[off+i]?=some (.i .u32 ((xs[i]:Nat):Int)):=fun i hi=>by
        have:((b.v.drop off).take len)[i]?=some (.i .u32 ((xs[i]:Nat):Int)):=by
         rw[w1,List.getElem?_map,List.getElem?_eq_getElem hi];rfl
        rw[List.getElem?_take,if_pos (by omega),List.getElem?_drop] at this
        exact this
       have H:=S.holds n b a hb ha
       let a1:At:=⟨a.b,a.o+off,a.n-off,false⟩
       have hsim:∀F',Sim key F' (Loc.tw l a1) (Hp.tw t (xs.map fun x:Nat=>.i .u32 (x:Int))) w:=fun F'=>zkW S ht hv h0 ⟨H.lt,rfl,by show xs.length≤a.n-off;have:=H.len;omega,fun i hi=>by
        have h1:=hg i hi
        have hoi:off+i<b.v.length:=by omega
        obtain⟨v,c1,c2⟩:=H.cell (off+i) hoi
        rw[List.getElem?_eq_getElem hoi] at h1
        cases h1':b.v[off+i] with
        | i k m =>
         rw[h1'] at h1 c2
         cases h1
         cases c2
         show w.cell? ⟨a.b,a.o+off+i,none⟩=_
         rw[Nat.add_assoc];exact c1
        | _=>rw[h1'] at h1;cases h1⟩
       have hrel:Rel key (Loc.tw l a1) (.sl 5 0 len cap 1) (.slice (some ⟨a.b,a.o+off,none⟩) len cap'):=by
        have hl:Loc.tw l a1 5=some a1:=rfl
        have:=Rel.sl (key:=key) (off:=0) (len:=len) (cap:=cap) (cap':=cap') (z:=1) hl q1 (by show 0+cap'*1≤a.n-off;omega) q3
        exact this
       have htx:txtA [.ag [.b neg,.sl 5 0 len cap 1]] (Hp.tw t (xs.map fun x:Nat=>.i .u32 (x:Int)))=some tx:=by
        have hrd:(Hp.tw t (xs.map fun x:Nat=>AV.i .u32 (x:Int))).rd 5 0 len=some (xs.map fun x:Nat=>.i .u32 (x:Int)):=by
         simp only[Hp.rd,Hp.tw,if_neg (show (5:Nat)≠0 by decide),if_true]
         rw[if_pos (by simp;omega),List.drop_zero,List.take_of_length_le (by simp;omega)]
        show (if len=0 then wtx neg [] else if 1=1 then (((Hp.tw t (xs.map fun x:Nat=>AV.i .u32 (x:Int))).rd 5 0 len).bind wordsA).bind (wtx neg) else none)=_
        rw[if_neg hl,if_pos rfl,hrd,Option.bind_some,←w1,e2,Option.bind_some]
        exact e3
       obtain⟨v,v1,v2,v3,v4⟩:=zgX htx fun m off' len' cap'' z q=>by cases q;exact q3
       exact⟨_,a1,_,v,hsim,hrel,v1,v2,v3,v4⟩
      ·cases e1
     ·cases e1
    ·cases e
 | sn=>exact small .sn e fun _ _ _ _ _ q=>by cases q
 | se b=>exact small (.se b) e fun _ _ _ _ _ q=>by cases q
 | e0 b c=>exact small (.e0 b c) e fun _ _ _ _ _ q=>by cases q
 | _=>simp[txtA] at e
end Go.Eng
namespace Go.Eng
open Go.RowKit
variable {key:Nat→Option FuncId} {P:Program} {T:Tab}
theorem zgR {fn:Func} (h:fn.results = #[.tmp 2]) (tmps:Array Value) (w:World):(results fn tmps).run P w=.ok (tmps.getD 2 undef) w:=by
 unfold results
 rw[h,Array.mapM_eq_mapM_toList]
 rfl
theorem zoq {l:Loc} {xs:List UInt8} {v:Value} (h:Rel key l (.s xs) v):v=.string ⟨xs.toArray⟩:=by
 generalize hx:AV.s xs=x at h
 cases h<;>cases hx
 rfl
theorem zna (v:Nat):dec v≠[]:=by
 unfold dec
 split
 ·simp
 ·rename_i h
  intro q
  have h1:=congrArg List.length q
  rw[zcz] at h1
  have:=zcy v
  simp at h1
  rw[h1] at this
  simp at this;omega
theorem zhl {args:List AV} {h:Hp} {l:List UInt8} (e:txtA args h=some l):∃neg w,args=[.ag [.b neg,w]]:=by
 unfold txtA at e
 split at e
 ·exact⟨_,_,rfl⟩
 ·exact⟨_,_,rfl⟩
 ·exact⟨_,_,rfl⟩
 ·exact⟨_,_,rfl⟩
 ·cases e
theorem zmw (K1:ProgOk P key T E1.prog) (KE:PEnvOk E1) (hT0:∀g n,T.gkey g=some n→n≤4) {G:Nat} (hG:T.gkey G=some 0) {fn:Func} {g:Nat} (hfn:P.funcs[g]?=some fn) {pre tail:Code} (hbody:fn.body=some (graft pre tail)) (hpre:cCode P T pre=strA)
  (hnt:fn.ntmps=58) (hres:fn.results = #[.tmp 2])
  (htail:∀(neg:Bool) (ps:List (List UInt8)),ps.reverse.flatten≠[]→ps.length≤20000→ps.flatten.length≤1000000 →
   ∀(b1 o1 b3 o3 c:Nat) (w:World),w.cell? ⟨b1,o1,none⟩=some (.bool neg)→b1<w.heap.size→b3<w.heap.size →
   (∀j x,ps[j]?=some x→w.cell? ⟨b3,o3+j,none⟩=some (.string ⟨x.toArray⟩)) →
   ∀(tm:Array Value),tm.size=58→tm[1]?=some (.pointer (some ⟨b1,o1,none⟩))→tm[3]?=some (.slice (some ⟨b3,o3,none⟩) ps.length c) →
   tail.wp P (fun e a w'=>e=.ret∧a.defers=[]∧a.tmps.getD 2 undef=.string ⟨((if neg then [45] else [])++ps.reverse.flatten).toArray⟩∧Below w.heap.size w w') ⟨tm,[]⟩ w)
  {F:Nat} {args:List AV} {vs:Array Value} {h h':Hp} {v:AV} {l:Loc} {w:World} (e:orcA 33 args h=some (v,h')) (TO:TabOk key T l)
  (RL:RelL key l args vs.toList) (S:Sim key F l h w):Calls P g vs w fun e w'=>∃l' val,e=.returned val∧Ext l h w l' h' w'∧Sim key F l' h' w'∧Rel key l' v val:=by
 unfold orcA at e
 rw[if_pos rfl] at e
 split at e
 case isFalse=>cases e
 rename_i ht
 simp only[Option.map_eq_some_iff,Prod.mk.injEq] at e
 obtain⟨tx,e1,rfl,rfl⟩:=e
 obtain⟨t,t1,t2⟩:=ht
 obtain⟨m0,hl0⟩:=TO.g G 0 hG
 obtain⟨neg,wv,rfl⟩:=zhl e1
 have hvs:∃val,vs = #[.agg #[.bool neg,val]]∧Rel key l wv val:=by
  have hlen:=RL.1
  rcases vs with⟨vs⟩
  match vs,hlen with
  | [x],_ =>
   have r:=RL.2 0 (by simp) (by simp)
   simp only[List.getElem_cons_zero] at r
   cases r with
   | @ag _ ws hn hv =>
    rcases ws with⟨ws⟩
    match ws,hn with
    | [a,b],_ =>
     have r1:=hv 0 (by simp) (by simp)
     have r2:=hv 1 (by simp) (by simp)
     simp only[List.getElem_cons_zero,List.getElem_toArray,List.getElem_cons_succ] at r1 r2
     cases r1
     exact⟨b,rfl,r2⟩
 obtain⟨val,rfl,rv⟩:=hvs
 obtain⟨cs,a1,wv',z,hsim,rv',hz,hneg,htx,hV⟩:=zoE S t1 t2 hl0 e1 rv
 generalize hh0:Hp.tw t cs=h0 at hsim hV
 generalize hll:Loc.tw l a1=l0 at hsim rv'
 have hw0:h0.wf:=(hsim 0).wf
 have hT:HasT h0:=⟨{ t with rw:=false },by rw[←hh0];rfl,t2⟩
 have norw:∀k b,h0.m k=some b→b.rw=false:=fun k b q=>by
  rw[←hh0] at q
  simp only[Hp.tw] at q
  split at q
  ·cases q;rfl
  ·split at q
   ·cases q;rfl
   ·cases q
 have TO0:TabOk key T l0:=⟨TO.f,fun g' n' q=>by
  have hn:=hT0 g' n' q
  obtain⟨m,hm⟩:=TO.g g' n' q
  refine⟨m,?_⟩
  rw[←hll]
  simp only[Loc.tw]
  rw[if_neg (by omega),if_pos hn]
  exact hm⟩
 have RA:RelL key l0 [.ag [.b neg,wv']] [.agg #[.bool neg,val]]:=.cons ((RelL.cons (.b neg) (.cons rv' .nil)).ag) .nil
 have RF:RelF key l0 ([.ag [.b neg,wv']]++List.replicate 57 undefA) (#[.agg #[.bool neg,val]]++Array.replicate (fn.ntmps-(#[Value.agg #[.bool neg,val]]:Array Value).size) undef):=by
  rw[hnt]
  unfold RelF
  rw[Array.toList_append,Array.toList_replicate]
  exact RA.append ⟨by simp,fun i q1 q2=>by rw[List.getElem_replicate,List.getElem_replicate];exact zbf⟩
 have hbel:∀{l1 h1 w1},Ext l0 h0 w l1 h1 w1→Below w.heap.size w w1:=fun {l1 h1 w1} E =>
  ⟨E.os,E.tape,E.output,E.size,fun b hb=>E.frame b hb fun m blk a q1 q2=>by rw[norw m blk q1] at q2;cases q2⟩
 have hregs:(cCode P T pre).regsOk=true:=by rw[hpre];decide
 have goodCall:=zcY K1
 have final:Calls P g #[.agg #[.bool neg,val]] w fun e w'=>e=.returned (.string ⟨tx.toArray⟩)∧Below w.heap.size w w':=by
  refine calls_of_wp hfn hbody ?_
  by_cases hz0:z=0
  ·subst hz0
   have hnf:neg=false:=by
    cases neg
    ·rfl
    ·exact(hneg rfl rfl).elim
   subst hnf
   have htx':tx=[48]:=by rw[htx];rfl
   obtain⟨lf,fr',h1,ev,f2⟩:=zmt KE hw0 hT hV
   refine zgh (goodCall lf) K1.call (zbM K1 lf) K1.mixed lf tail pre hregs TO0 RF (hsim h1.next) (Nat.le_refl _) (by rw[hpre];exact ev) fun l' a' w' E R' S' hd=>?_
   have r2:=RelF.get R' 2
   rw[f2] at r2
   refine⟨hd,_,zgR hres _ _,?_,hbel E⟩
   rw[htx']
   generalize a'.tmps.getD 2 undef=x at r2
   rw[zoq r2]
  ·obtain⟨lf,fr',h1,p0,m,len,cap,ps,ev,hlen,f1,⟨b0,hb0,hb0v⟩,f3,⟨b1,hb1,hb1v⟩,rfl,g1,g2,g3⟩:=zmu KE (neg:=neg) hw0 hT hz0 hz hV
   refine zgh (goodCall lf) K1.call (zbM K1 lf) K1.mixed lf tail pre hregs TO0 RF (hsim h1.next) (Nat.le_refl _) (by rw[hpre];exact ev) fun l' a' w' E R' S' hd=>?_
   have r1:=RelF.get R' 1
   have r3:=RelF.get R' 3
   rw[f1] at r1
   rw[f3] at r3
   have hsz:a'.tmps.size=58:=by
    have:=R'.1
    simp at this;omega
   have gd:∀i,i<58→a'.tmps[i]?=some (a'.tmps.getD i undef):=fun i hi=>by
    rw[Array.getD_eq_getD_getElem?,Array.getElem?_eq_getElem (by omega)];rfl
   have gd1:=gd 1 (by omega)
   have gd3:=gd 3 (by omega)
   generalize a'.tmps.getD 1 undef=x1 at r1 gd1
   generalize a'.tmps.getD 3 undef=x3 at r3 gd3
   cases r1 with
   | @p _ _ a1' q1 =>
    cases r3 with
    | @sl _ _ _ _ cap' _ a3 q3 s1 s2 s3 =>
     have H0:=S'.holds _ _ _ hb0 q1
     have H3:=S'.holds _ _ _ hb1 q3
     have hneg':w'.cell? ⟨a1'.b,a1'.o+0,none⟩=some (.bool neg):=by
      have hl:0<b0.v.length:=by
       rcases Nat.eq_zero_or_pos b0.v.length with q|q
       ·rw[List.getElem?_eq_none (by omega)] at hb0v;cases hb0v
       ·exact q
      obtain⟨y,c1,c2⟩:=H0.cell 0 hl
      rw[List.getElem?_eq_getElem hl] at hb0v
      rw[Option.some.inj hb0v] at c2
      cases c2;exact c1
     have hcells:∀j x,ps[j]?=some x→w'.cell? ⟨a3.b,a3.o+0+j,none⟩=some (.string ⟨x.toArray⟩):=fun j x hx=>by
      have hj:j<ps.length:=by
       by_cases q:j<ps.length
       ·exact q
       ·rw[List.getElem?_eq_none (by omega)] at hx;cases hx
      have hj':j<b1.v.length:=by rw[hb1v];simpa using hj
      obtain⟨y,c1,c2⟩:=H3.cell j hj'
      have e:b1.v[j]=.s x:=by
       simp only[hb1v,List.getElem_map]
       rw[List.getElem?_eq_getElem hj] at hx
       rw[Option.some.inj hx]
      rw[e] at c2
      have hy:y=.string ⟨x.toArray⟩:=by
       generalize hs:AV.s x=ax at c2
       cases c2<;>cases hs
       rfl
      rw[Nat.add_zero,←hy];exact c1
     have hne:ps.reverse.flatten≠[]:=by rw[g3];exact zna z
     have htot:ps.flatten.length≤1000000:=by
      have h1:ps.flatten.length=ps.reverse.flatten.length:=by
       simp only[List.length_flatten,List.map_reverse,List.sum_reverse]
      rw[h1,g3]
      have h2:=zkp hz
      unfold dec
      rw[if_neg hz0,zcz];omega
     have tl:=htail neg ps hne g2 htot a1'.b (a1'.o+0) a3.b (a3.o+0) cap' w' hneg' H0.lt H3.lt hcells a'.tmps hsz gd1 gd3
     have ha:a'=⟨a'.tmps,[]⟩:=by
      rcases a' with⟨tm,df⟩
      simp only at hd
      rw[hd]
     show tail.wp P (bodyPost P fn _) a' w'
     rw[ha]
     refine wp_mono tl ?_
     rintro e a2 w2 ⟨rfl,d2,v2,bl⟩
     refine⟨d2,_,zgR hres _ _,?_,(hbel E).trans ⟨bl.os,bl.tape,bl.output,bl.size,fun k hk=>bl.block k (Nat.lt_of_lt_of_le hk E.size)⟩⟩
     rw[v2,g3,htx]
     unfold decI
     cases neg
     ·simp only[Bool.false_eq_true,if_false]
      rw[if_neg (by omega)]
      simp
     ·simp only[if_true]
      rw[if_pos (by omega)]
      simp
 exact zbt S final (zeE tx)
end Go.Eng
namespace Go.Eng
theorem zgL {f:Nat} {d:XD} (h:prog f=some d):some d∈progL:=by
 unfold prog at h
 cases h1:progL[f]? with
 | none=>rw[h1] at h;cases h
 | some x =>
  rw[h1] at h
  cases x with
  | none=>cases h
  | some y=>cases h;exact List.mem_of_getElem? h1
def dOkD:Option XD→Bool
 | some (.fn xf)=>xf.body.dOk xf.n
 | _=>true
theorem zhv:progL.all dOkD=true:=by kernel_rfl
def isO:Option XD→Bool
 | some (.orc _)=>true
 | _=>false
theorem zdX {f:Nat} {o:List AV→Hp→Option (AV×Hp)} (h:prog f=some (.orc o)):o=orcA f∧(f=33∨f=50∨f=51∨f=130∨f=131∨f=222):=by
 have hf:isO (prog f)=true:=by rw[h];rfl
 have all:(List.range progL.length).all (fun f => !isO (prog f) || (f==33 || f==50 || f==51 || f==130 || f==131 || f==222))=true:=by kernel_rfl
 have hlt:f<progL.length:=by
  unfold prog at h
  by_cases q:f<progL.length
  ·exact q
  ·rw[List.getElem?_eq_none (by omega)] at h;cases h
 rw[List.all_eq_true] at all
 have:=all f (List.mem_range.2 hlt)
 rw[hf] at this
 simp only[Bool.not_true,Bool.false_or,Bool.or_eq_true,beq_iff_eq] at this
 have hc:f=33∨f=50∨f=51∨f=130∨f=131∨f=222:=by omega
 refine⟨?_,hc⟩
 rcases hc with rfl|rfl|rfl|rfl|rfl|rfl
 ·first|(have e:prog 33=some (.orc (orcA 33)):=rfl;rw[e] at h;cases h;rfl)|(have h':(none:Option XD)=some (.orc o):=h;cases h')
 ·first|(have e:prog 50=some (.orc (orcA 50)):=rfl;rw[e] at h;cases h;rfl)|(have h':(none:Option XD)=some (.orc o):=h;cases h')
 ·first|(have e:prog 51=some (.orc (orcA 51)):=rfl;rw[e] at h;cases h;rfl)|(have h':(none:Option XD)=some (.orc o):=h;cases h')
 ·first|(have e:prog 130=some (.orc (orcA 130)):=rfl;rw[e] at h;cases h;rfl)|(have h':(none:Option XD)=some (.orc o):=h;cases h')
 ·first|(have e:prog 131=some (.orc (orcA 131)):=rfl;rw[e] at h;cases h;rfl)|(have h':(none:Option XD)=some (.orc o):=h;cases h')
 ·first|(have e:prog 222=some (.orc (orcA 222)):=rfl;rw[e] at h;cases h;rfl)|(have h':(none:Option XD)=some (.orc o):=h;cases h')
theorem zcA {f:Nat} {d:XD} (h:E1.prog f=some d):prog f=some d∧f≠33:=by
 have h2:(if f=33 then none else prog f)=some d:=h
 split at h2
 ·cases h2
 ·rename_i hf;exact⟨h2,hf⟩
theorem KE0:PEnvOk E0 where
 fn:=fun f xf h=>by
  have:=zhv
  rw[List.all_eq_true] at this
  exact this _ (zgL (show prog f=_ from h))
 orc:=fun f o h Db r M hp args asv v M' e I hv=>by
  obtain⟨rfl,_⟩:=zdX (show prog f=_ from h)
  exact zn0 rfl e I hv
theorem KE1:PEnvOk E1 where
 fn:=fun f xf h=>by
  have:=zhv
  rw[List.all_eq_true] at this
  exact this _ (zgL (zcA h).1)
 orc:=fun f o h Db r M hp args asv v M' e I hv=>by
  obtain⟨rfl,_⟩:=zdX (zcA h).1
  exact zn0 rfl e I hv
variable (P:Program) (T:Tab)
def AllOk:List (Option XD)→List (Option FuncId)→Prop
 | some (.fn xf)::ps,some g::ks=>(∃fn,P.funcs[g]?=some fn∧cFunc P T fn=some xf∧xf.body.regsOk=true)∧AllOk ps ks
 | _::ps,_::ks=>AllOk ps ks
 | _,_=>True
def AllCal:List (Option FuncId)→Prop
 | some g::ks=>(∃fn,P.funcs[g]?=some fn∧fn.body.isNone=false∧(fn.name == "runtime.NumGoroutine")=false)∧AllCal ks
 | none::ks=>AllCal ks
 | []=>True
variable {P T}
theorem zea:∀{ps:List (Option XD)} {ks:List (Option FuncId)},AllOk P T ps ks→∀{f:Nat} {xf:XF} {g:FuncId},(ps[f]?).join=some (.fn xf)→(ks[f]?).join=some g→∃fn,P.funcs[g]?=some fn∧cFunc P T fn=some xf∧xf.body.regsOk=true
 | [],_,_,f,xf,g,h1,h2=>by simp at h1
 | p::ps,[],_,f,xf,g,h1,h2=>by simp at h2
 | p::ps,k::ks,h,0,xf,g,h1,h2=>by
  simp only[List.getElem?_cons_zero,Option.join_some] at h1 h2
  subst h1;subst h2
  exact h.1
 | p::ps,k::ks,h,f+1,xf,g,h1,h2=>by
  simp only[List.getElem?_cons_succ] at h1 h2
  refine zea (ps:=ps) (ks:=ks) ?_ h1 h2
  match p,k,h with
  | some (.fn xf),some g,h=>exact h.2
  | some (.fn xf),none,h=>exact h
  | some (.orc _),_,h=>exact h
  | none,_,h=>exact h
theorem zfi:∀{ks:List (Option FuncId)},AllCal P ks→∀{f:Nat} {g:FuncId},(ks[f]?).join=some g→∃fn,P.funcs[g]?=some fn∧fn.body.isNone=false∧(fn.name == "runtime.NumGoroutine")=false
 | [],_,f,g,h=>by simp at h
 | k::ks,h,0,g,h1=>by
  simp only[List.getElem?_cons_zero,Option.join_some] at h1
  subst h1
  exact h.1
 | k::ks,h,f+1,g,h1=>by
  simp only[List.getElem?_cons_succ] at h1
  refine zfi (ks:=ks) ?_ h1
  match k,h with
  | some g,h=>exact h.2
  | none,h=>exact h
theorem zgo {f:Nat} {args:List AV} {h h':Hp} {v:AV} (e:orcA f args h=some (v,h')):HpOk h h':=by
 unfold orcA at e
 split at e
 ·split at e
  ·simp only[Option.map_eq_some_iff,Prod.mk.injEq] at e
   obtain⟨_,_,_,rfl⟩:=e
   exact .refl h
  ·cases e
 ·split at e
  ·cases e
  ·simp only[Option.map_eq_some_iff,Prod.mk.injEq] at e
   obtain⟨_,_,_,rfl⟩:=e
   exact .refl h
theorem zmf {keyL:List (Option FuncId)} {ρ:Go.Shelf.Ren} {G:Nat} (mixed:P.follows .mixedOrders=true) (hc:AllCal P keyL) (ha:AllOk P T progL keyL) (L:LibOk P ρ (fun f=>(keyL[f]?).join) T G) :
  ProgOk P (fun f=>(keyL[f]?).join) T E1.prog where
 mixed:=mixed
 call:=fun f g h=>zfi hc h
 fn:=fun f xf g h1 h2=>zea ha (zcA h1).1 h2
 good:=fun f o args h v h' h1 e=>by
  obtain⟨rfl,_⟩:=zdX (zcA h1).1
  exact zgo e
 orc:=fun f o g h1 hk F args vs h h' v l w e hF TO RL S=>by
  obtain⟨rfl,_⟩:=zdX (zcA h1).1
  exact zhV L hk (zcA h1).2 e TO RL S
theorem zme {keyL:List (Option FuncId)} {ρ:Go.Shelf.Ren} {G:Nat} (mixed:P.follows .mixedOrders=true) (hc:AllCal P keyL) (ha:AllOk P T progL keyL) (L:LibOk P ρ (fun f=>(keyL[f]?).join) T G)
  (str:∀{g:Nat},(keyL[33]?).join=some g→∀{F:Nat} {args:List AV} {vs:Array Value} {h h':Hp} {v:AV} {l:Loc} {w:World},orcA 33 args h=some (v,h')→TabOk (fun f=>(keyL[f]?).join) T l →
   RelL (fun f=>(keyL[f]?).join) l args vs.toList→Sim (fun f=>(keyL[f]?).join) F l h w→Calls P g vs w fun e w'=>∃l' val,e=.returned val∧Ext l h w l' h' w'∧Sim (fun f=>(keyL[f]?).join) F l' h' w'∧Rel (fun f=>(keyL[f]?).join) l' v val) :
  ProgOk P (fun f=>(keyL[f]?).join) T E0.prog where
 mixed:=mixed
 call:=fun f g h=>zfi hc h
 fn:=fun f xf g h1 h2=>zea ha (show prog f=_ from h1) h2
 good:=fun f o args h v h' h1 e=>by
  obtain⟨rfl,_⟩:=zdX (show prog f=_ from h1)
  exact zgo e
 orc:=fun f o g h1 hk F args vs h h' v l w e hF TO RL S=>by
  obtain⟨rfl,hf⟩:=zdX (show prog f=_ from h1)
  by_cases h33:f=33
  ·subst h33
   exact str hk e TO RL S
  ·exact zhV L hk h33 e TO RL S
end Go.Eng
namespace Go.Proofs
open Go.Eng
def Tryz.keyL:List (Option FuncId):=[none,none,none,none,none,none,none,none,some 34,some 31,none,none,none,none,none,none,some 63,some 35,some 86,some 77,some 87,some 88,some 90,some 53,some 80,none,none,none,none,some 91,some 14,some 92,none,some 122,some 51,some 138,some 109,some 132,some 52,some 105,some 111,some 62,some 112,some 50,some 25,none,none,none,some 155,some 136,some 156,some 157,none,none,none,some 172,some 173,some 174,some 150,some 110,some 120,some 121,some 151,some 75,some 76,none,none,none,none,none,none,none,none,none,none,none,some 195,some 176,some 153,some 154,some 54,none,none,none,none,none,none,none,none,none,none,none,none,none,none,none,none,none,none,none,none,none,none,none,none,none,none,none,none,none,none,none,none,none,some 58,none,none,some 61,some 114,some 60,none,some 74,none,some 129,some 119,none,none,none,none,none,none,none,some 113,some 116,some 117,some 118,none,none,none,none,none,none,none,none,none,none,none,some 152,none,none,none,none,none,none,none,none,none,none,none,none,none,none,none,none,none,none,none,none,none,none,none,none,none,none,none,none,none,none,none,none,some 48,none,none,none,none,none,none,none,none,none,none,none,none,none,none,none,none,none,none,none,none,none,none,none,none,none,none,none,none,none,none,none,none,none,none,none,none,none,none,none,none,none,none,none,none,none,none,none,none,none,none,none,none,none,none,none,none,none,none,none,none,none,none,none,none,none,none,none,none,none,none,none,none,none,none,none,none,none,none,none,none,none,none,none,none,none,none,none,none,none,none,none,none,none,none,none,none,none,none,none,none,none,none,none,none,none,none,none,none,none,none,none,none,none,none,none,none,none,none,none,none,none,none,none,none,none,none,none,none,none,none,none,none,none,none,none,none,none,none,none,none,none,none,none,none,none,none,none,none,none,none,none,none,none,none,none,none,none,none,none,none,none,none,none,none,none,none,none,none,none,none,none,none,none,none,none,none,none,none,none,none,none,none,none,none,none,none,none,none,none,none,none,none,none,none,none,none,none,none,none,none,none,none,none,none,none,none,none,some 3,none,none,none,none,none,none,some 10,some 11,some 12,some 13,some 15,some 16,none,none,none,none,none,none,some 29,none,some 32,some 33,none,none,none,none,none,some 49,some 55,some 56,some 57,some 59,some 82,none,none,some 85,some 89,some 115,none,none,none,none,none,none,none,none,none,none,none,none,none,none,none,none,none,none,none,none,none,none,none,none,none,none,none,none,none,none,none,none,none,none,none,none,none,none,none,none,none,none,none,none,none,none,none,none,none,none,none,none,none,none,none,none,none,none,none,none,none,none,none,none,none,none,none,none,none,none,none,none,none,none,none,none,none,none,none,none,none,none,none,none,none,none,none,none,none,none,none,none,none]
def Tryz.fkeyL:List (Option Nat):=[none,none,none,some 388,none,none,none,none,none,none,some 395,some 396,some 397,some 398,some 30,some 399,some 400,none,none,none,none,none,none,none,none,some 44,none,none,none,some 407,none,some 9,some 409,some 410,some 8,some 17,none,none,none,none,none,none,none,none,none,none,none,none,some 180,some 416,some 43,some 34,some 38,some 23,some 80,some 417,some 418,some 419,some 114,some 420,some 119,some 117,some 41,some 16,none,none,none,none,none,none,none,none,none,none,some 121,some 63,some 64,some 19,none,none,some 24,none,some 421,none,none,some 424,some 18,some 20,some 21,some 425,some 22,some 29,some 31,none,none,none,none,none,none,none,none,none,none,none,none,some 39,none,none,none,some 36,some 59,some 40,some 42,some 132,some 118,some 426,some 133,some 134,some 135,some 124,some 60,some 61,some 33,none,none,none,none,none,none,some 123,none,none,some 37,none,none,none,some 49,none,some 35,none,none,none,none,none,none,none,none,none,none,none,some 58,some 62,some 147,some 78,some 79,some 48,some 50,some 51,none,none,none,none,none,none,none,none,none,none,none,none,none,none,some 55,some 56,some 57,none,some 77,none,none,none,none,none,none,none,none,none,none,none,none,none,none,none,none,none,none,some 76]
def Tryz.T:Tab:={ fkey:=fun f=>(Tryz.fkeyL[f]?).join,gkey:=fun g=>if g=8 then some 0 else if g=0 then some 1 else if g=1 then some 2 else none }
abbrev OkC (p:Program) (n:Nat):Prop:=∃fn,p.funcs[n]?=some fn∧fn.body.isNone=false∧(fn.name == "runtime.NumGoroutine")=false
abbrev OkF (p:Program) (T:Tab) (n:Nat) (x:XF):Prop:=∃fn,p.funcs[n]?=some fn∧cFunc p T fn=some x∧x.body.regsOk=true
theorem Tryz.okc8:OkC Tryz.prog 34:=⟨_,Tryz.func34,by kernel_rfl,by kernel_rfl⟩
theorem Tryz.okc9:OkC Tryz.prog 31:=⟨_,Tryz.func31,by kernel_rfl,by kernel_rfl⟩
theorem Tryz.okc16:OkC Tryz.prog 63:=⟨_,Tryz.func63,by kernel_rfl,by kernel_rfl⟩
theorem Tryz.okc17:OkC Tryz.prog 35:=⟨_,Tryz.func35,by kernel_rfl,by kernel_rfl⟩
theorem Tryz.okc18:OkC Tryz.prog 86:=⟨_,Tryz.func86,by kernel_rfl,by kernel_rfl⟩
theorem Tryz.okc19:OkC Tryz.prog 77:=⟨_,Tryz.func77,by kernel_rfl,by kernel_rfl⟩
theorem Tryz.okc20:OkC Tryz.prog 87:=⟨_,Tryz.func87,by kernel_rfl,by kernel_rfl⟩
theorem Tryz.okc21:OkC Tryz.prog 88:=⟨_,Tryz.func88,by kernel_rfl,by kernel_rfl⟩
theorem Tryz.okc22:OkC Tryz.prog 90:=⟨_,Tryz.func90,by kernel_rfl,by kernel_rfl⟩
theorem Tryz.okc23:OkC Tryz.prog 53:=⟨_,Tryz.func53,by kernel_rfl,by kernel_rfl⟩
theorem Tryz.okc24:OkC Tryz.prog 80:=⟨_,Tryz.func80,by kernel_rfl,by kernel_rfl⟩
theorem Tryz.okc29:OkC Tryz.prog 91:=⟨_,Tryz.func91,by kernel_rfl,by kernel_rfl⟩
theorem Tryz.okc30:OkC Tryz.prog 14:=⟨_,Tryz.func14,by kernel_rfl,by kernel_rfl⟩
theorem Tryz.okc31:OkC Tryz.prog 92:=⟨_,Tryz.func92,by kernel_rfl,by kernel_rfl⟩
theorem Tryz.okc33:OkC Tryz.prog 122:=⟨_,Tryz.func122,by kernel_rfl,by kernel_rfl⟩
theorem Tryz.okc34:OkC Tryz.prog 51:=⟨_,Tryz.func51,by kernel_rfl,by kernel_rfl⟩
theorem Tryz.okc35:OkC Tryz.prog 138:=⟨_,Tryz.func138,by kernel_rfl,by kernel_rfl⟩
theorem Tryz.okc36:OkC Tryz.prog 109:=⟨_,Tryz.func109,by kernel_rfl,by kernel_rfl⟩
theorem Tryz.okc37:OkC Tryz.prog 132:=⟨_,Tryz.func132,by kernel_rfl,by kernel_rfl⟩
theorem Tryz.okc38:OkC Tryz.prog 52:=⟨_,Tryz.func52,by kernel_rfl,by kernel_rfl⟩
theorem Tryz.okc39:OkC Tryz.prog 105:=⟨_,Tryz.func105,by kernel_rfl,by kernel_rfl⟩
theorem Tryz.okc40:OkC Tryz.prog 111:=⟨_,Tryz.func111,by kernel_rfl,by kernel_rfl⟩
theorem Tryz.okc41:OkC Tryz.prog 62:=⟨_,Tryz.func62,by kernel_rfl,by kernel_rfl⟩
theorem Tryz.okc42:OkC Tryz.prog 112:=⟨_,Tryz.func112,by kernel_rfl,by kernel_rfl⟩
theorem Tryz.okc43:OkC Tryz.prog 50:=⟨_,Tryz.func50,by kernel_rfl,by kernel_rfl⟩
theorem Tryz.okc44:OkC Tryz.prog 25:=⟨_,Tryz.func25,by kernel_rfl,by kernel_rfl⟩
theorem Tryz.okc48:OkC Tryz.prog 155:=⟨_,Tryz.func155,by kernel_rfl,by kernel_rfl⟩
theorem Tryz.okc49:OkC Tryz.prog 136:=⟨_,Tryz.func136,by kernel_rfl,by kernel_rfl⟩
theorem Tryz.okc50:OkC Tryz.prog 156:=⟨_,Tryz.func156,by kernel_rfl,by kernel_rfl⟩
theorem Tryz.okc51:OkC Tryz.prog 157:=⟨_,Tryz.func157,by kernel_rfl,by kernel_rfl⟩
theorem Tryz.okc55:OkC Tryz.prog 172:=⟨_,Tryz.func172,by kernel_rfl,by kernel_rfl⟩
theorem Tryz.okc56:OkC Tryz.prog 173:=⟨_,Tryz.func173,by kernel_rfl,by kernel_rfl⟩
theorem Tryz.okc57:OkC Tryz.prog 174:=⟨_,Tryz.func174,by kernel_rfl,by kernel_rfl⟩
theorem Tryz.okc58:OkC Tryz.prog 150:=⟨_,Tryz.func150,by kernel_rfl,by kernel_rfl⟩
theorem Tryz.okc59:OkC Tryz.prog 110:=⟨_,Tryz.func110,by kernel_rfl,by kernel_rfl⟩
theorem Tryz.okc60:OkC Tryz.prog 120:=⟨_,Tryz.func120,by kernel_rfl,by kernel_rfl⟩
theorem Tryz.okc61:OkC Tryz.prog 121:=⟨_,Tryz.func121,by kernel_rfl,by kernel_rfl⟩
theorem Tryz.okc62:OkC Tryz.prog 151:=⟨_,Tryz.func151,by kernel_rfl,by kernel_rfl⟩
theorem Tryz.okc63:OkC Tryz.prog 75:=⟨_,Tryz.func75,by kernel_rfl,by kernel_rfl⟩
theorem Tryz.okc64:OkC Tryz.prog 76:=⟨_,Tryz.func76,by kernel_rfl,by kernel_rfl⟩
theorem Tryz.okc76:OkC Tryz.prog 195:=⟨_,Tryz.func195,by kernel_rfl,by kernel_rfl⟩
theorem Tryz.okc77:OkC Tryz.prog 176:=⟨_,Tryz.func176,by kernel_rfl,by kernel_rfl⟩
theorem Tryz.okc78:OkC Tryz.prog 153:=⟨_,Tryz.func153,by kernel_rfl,by kernel_rfl⟩
theorem Tryz.okc79:OkC Tryz.prog 154:=⟨_,Tryz.func154,by kernel_rfl,by kernel_rfl⟩
theorem Tryz.okc80:OkC Tryz.prog 54:=⟨_,Tryz.func54,by kernel_rfl,by kernel_rfl⟩
theorem Tryz.okc114:OkC Tryz.prog 58:=⟨_,Tryz.func58,by kernel_rfl,by kernel_rfl⟩
theorem Tryz.okc117:OkC Tryz.prog 61:=⟨_,Tryz.func61,by kernel_rfl,by kernel_rfl⟩
theorem Tryz.okc118:OkC Tryz.prog 114:=⟨_,Tryz.func114,by kernel_rfl,by kernel_rfl⟩
theorem Tryz.okc119:OkC Tryz.prog 60:=⟨_,Tryz.func60,by kernel_rfl,by kernel_rfl⟩
theorem Tryz.okc121:OkC Tryz.prog 74:=⟨_,Tryz.func74,by kernel_rfl,by kernel_rfl⟩
theorem Tryz.okc123:OkC Tryz.prog 129:=⟨_,Tryz.func129,by kernel_rfl,by kernel_rfl⟩
theorem Tryz.okc124:OkC Tryz.prog 119:=⟨_,Tryz.func119,by kernel_rfl,by kernel_rfl⟩
theorem Tryz.okc132:OkC Tryz.prog 113:=⟨_,Tryz.func113,by kernel_rfl,by kernel_rfl⟩
theorem Tryz.okc133:OkC Tryz.prog 116:=⟨_,Tryz.func116,by kernel_rfl,by kernel_rfl⟩
theorem Tryz.okc134:OkC Tryz.prog 117:=⟨_,Tryz.func117,by kernel_rfl,by kernel_rfl⟩
theorem Tryz.okc135:OkC Tryz.prog 118:=⟨_,Tryz.func118,by kernel_rfl,by kernel_rfl⟩
theorem Tryz.okc147:OkC Tryz.prog 152:=⟨_,Tryz.func152,by kernel_rfl,by kernel_rfl⟩
theorem Tryz.okc180:OkC Tryz.prog 48:=⟨_,Tryz.func48,by kernel_rfl,by kernel_rfl⟩
theorem Tryz.okc388:OkC Tryz.prog 3:=⟨_,Tryz.func3,by kernel_rfl,by kernel_rfl⟩
theorem Tryz.okc395:OkC Tryz.prog 10:=⟨_,Tryz.func10,by kernel_rfl,by kernel_rfl⟩
theorem Tryz.okc396:OkC Tryz.prog 11:=⟨_,Tryz.func11,by kernel_rfl,by kernel_rfl⟩
theorem Tryz.okc397:OkC Tryz.prog 12:=⟨_,Tryz.func12,by kernel_rfl,by kernel_rfl⟩
theorem Tryz.okc398:OkC Tryz.prog 13:=⟨_,Tryz.func13,by kernel_rfl,by kernel_rfl⟩
theorem Tryz.okc399:OkC Tryz.prog 15:=⟨_,Tryz.func15,by kernel_rfl,by kernel_rfl⟩
theorem Tryz.okc400:OkC Tryz.prog 16:=⟨_,Tryz.func16,by kernel_rfl,by kernel_rfl⟩
theorem Tryz.okc407:OkC Tryz.prog 29:=⟨_,Tryz.func29,by kernel_rfl,by kernel_rfl⟩
theorem Tryz.okc409:OkC Tryz.prog 32:=⟨_,Tryz.func32,by kernel_rfl,by kernel_rfl⟩
theorem Tryz.okc410:OkC Tryz.prog 33:=⟨_,Tryz.func33,by kernel_rfl,by kernel_rfl⟩
theorem Tryz.okc416:OkC Tryz.prog 49:=⟨_,Tryz.func49,by kernel_rfl,by kernel_rfl⟩
theorem Tryz.okc417:OkC Tryz.prog 55:=⟨_,Tryz.func55,by kernel_rfl,by kernel_rfl⟩
theorem Tryz.okc418:OkC Tryz.prog 56:=⟨_,Tryz.func56,by kernel_rfl,by kernel_rfl⟩
theorem Tryz.okc419:OkC Tryz.prog 57:=⟨_,Tryz.func57,by kernel_rfl,by kernel_rfl⟩
theorem Tryz.okc420:OkC Tryz.prog 59:=⟨_,Tryz.func59,by kernel_rfl,by kernel_rfl⟩
theorem Tryz.okc421:OkC Tryz.prog 82:=⟨_,Tryz.func82,by kernel_rfl,by kernel_rfl⟩
theorem Tryz.okc424:OkC Tryz.prog 85:=⟨_,Tryz.func85,by kernel_rfl,by kernel_rfl⟩
theorem Tryz.okc425:OkC Tryz.prog 89:=⟨_,Tryz.func89,by kernel_rfl,by kernel_rfl⟩
theorem Tryz.okc426:OkC Tryz.prog 115:=⟨_,Tryz.func115,by kernel_rfl,by kernel_rfl⟩
theorem Tryz.okf8:OkF Tryz.prog Tryz.T 34 zu0:=⟨_,Tryz.func34,by kernel_rfl,by kernel_rfl⟩
theorem Tryz.okf9:OkF Tryz.prog Tryz.T 31 zu2:=⟨_,Tryz.func31,by kernel_rfl,by kernel_rfl⟩
theorem Tryz.okf16:OkF Tryz.prog Tryz.T 63 ztJ:=⟨_,Tryz.func63,by kernel_rfl,by kernel_rfl⟩
theorem Tryz.okf17:OkF Tryz.prog Tryz.T 35 zvd:=⟨_,Tryz.func35,by kernel_rfl,by kernel_rfl⟩
theorem Tryz.okf18:OkF Tryz.prog Tryz.T 86 zuZ:=⟨_,Tryz.func86,by kernel_rfl,by kernel_rfl⟩
theorem Tryz.okf19:OkF Tryz.prog Tryz.T 77 ztN:=⟨_,Tryz.func77,by kernel_rfl,by kernel_rfl⟩
theorem Tryz.okf20:OkF Tryz.prog Tryz.T 87 zux:=⟨_,Tryz.func87,by kernel_rfl,by kernel_rfl⟩
theorem Tryz.okf21:OkF Tryz.prog Tryz.T 88 zuC:=⟨_,Tryz.func88,by kernel_rfl,by kernel_rfl⟩
theorem Tryz.okf22:OkF Tryz.prog Tryz.T 90 ztU:=⟨_,Tryz.func90,by kernel_rfl,by kernel_rfl⟩
theorem Tryz.okf23:OkF Tryz.prog Tryz.T 53 zu7:=⟨_,Tryz.func53,by kernel_rfl,by kernel_rfl⟩
theorem Tryz.okf24:OkF Tryz.prog Tryz.T 80 zt5:=⟨_,Tryz.func80,by kernel_rfl,by kernel_rfl⟩
theorem Tryz.okf29:OkF Tryz.prog Tryz.T 91 zuS:=⟨_,Tryz.func91,by kernel_rfl,by kernel_rfl⟩
theorem Tryz.okf30:OkF Tryz.prog Tryz.T 14 zuh:=⟨_,Tryz.func14,by kernel_rfl,by kernel_rfl⟩
theorem Tryz.okf31:OkF Tryz.prog Tryz.T 92 zuL:=⟨_,Tryz.func92,by kernel_rfl,by kernel_rfl⟩
theorem Tryz.okf34:OkF Tryz.prog Tryz.T 51 zuH:=⟨_,Tryz.func51,by kernel_rfl,by kernel_rfl⟩
theorem Tryz.okf35:OkF Tryz.prog Tryz.T 138 ztO:=⟨_,Tryz.func138,by kernel_rfl,by kernel_rfl⟩
theorem Tryz.okf36:OkF Tryz.prog Tryz.T 109 zuq:=⟨_,Tryz.func109,by kernel_rfl,by kernel_rfl⟩
theorem Tryz.okf37:OkF Tryz.prog Tryz.T 132 zuJ:=⟨_,Tryz.func132,by kernel_rfl,by kernel_rfl⟩
theorem Tryz.okf38:OkF Tryz.prog Tryz.T 52 zuW:=⟨_,Tryz.func52,by kernel_rfl,by kernel_rfl⟩
theorem Tryz.okf39:OkF Tryz.prog Tryz.T 105 zuY:=⟨_,Tryz.func105,by kernel_rfl,by kernel_rfl⟩
theorem Tryz.okf40:OkF Tryz.prog Tryz.T 111 zu1:=⟨_,Tryz.func111,by kernel_rfl,by kernel_rfl⟩
theorem Tryz.okf41:OkF Tryz.prog Tryz.T 62 zuc:=⟨_,Tryz.func62,by kernel_rfl,by kernel_rfl⟩
theorem Tryz.okf42:OkF Tryz.prog Tryz.T 112 ztQ:=⟨_,Tryz.func112,by kernel_rfl,by kernel_rfl⟩
theorem Tryz.okf43:OkF Tryz.prog Tryz.T 50 zuU:=⟨_,Tryz.func50,by kernel_rfl,by kernel_rfl⟩
theorem Tryz.okf44:OkF Tryz.prog Tryz.T 25 zuo:=⟨_,Tryz.func25,by kernel_rfl,by kernel_rfl⟩
theorem Tryz.okf48:OkF Tryz.prog Tryz.T 155 zug:=⟨_,Tryz.func155,by kernel_rfl,by kernel_rfl⟩
theorem Tryz.okf49:OkF Tryz.prog Tryz.T 136 zua:=⟨_,Tryz.func136,by kernel_rfl,by kernel_rfl⟩
theorem Tryz.okf55:OkF Tryz.prog Tryz.T 172 ztP:=⟨_,Tryz.func172,by kernel_rfl,by kernel_rfl⟩
theorem Tryz.okf56:OkF Tryz.prog Tryz.T 173 zue:=⟨_,Tryz.func173,by kernel_rfl,by kernel_rfl⟩
theorem Tryz.okf57:OkF Tryz.prog Tryz.T 174 zuI:=⟨_,Tryz.func174,by kernel_rfl,by kernel_rfl⟩
theorem Tryz.okf58:OkF Tryz.prog Tryz.T 150 zuf:=⟨_,Tryz.func150,by kernel_rfl,by kernel_rfl⟩
theorem Tryz.okf59:OkF Tryz.prog Tryz.T 110 ztZ:=⟨_,Tryz.func110,by kernel_rfl,by kernel_rfl⟩
theorem Tryz.okf60:OkF Tryz.prog Tryz.T 120 ztY:=⟨_,Tryz.func120,by kernel_rfl,by kernel_rfl⟩
theorem Tryz.okf61:OkF Tryz.prog Tryz.T 121 ztS:=⟨_,Tryz.func121,by kernel_rfl,by kernel_rfl⟩
theorem Tryz.okf62:OkF Tryz.prog Tryz.T 151 ztR:=⟨_,Tryz.func151,by kernel_rfl,by kernel_rfl⟩
theorem Tryz.okf63:OkF Tryz.prog Tryz.T 75 ztT:=⟨_,Tryz.func75,by kernel_rfl,by kernel_rfl⟩
theorem Tryz.okf64:OkF Tryz.prog Tryz.T 76 ztM:=⟨_,Tryz.func76,by kernel_rfl,by kernel_rfl⟩
theorem Tryz.okf76:OkF Tryz.prog Tryz.T 195 zt1:=⟨_,Tryz.func195,by kernel_rfl,by kernel_rfl⟩
theorem Tryz.okf77:OkF Tryz.prog Tryz.T 176 zt7:=⟨_,Tryz.func176,by kernel_rfl,by kernel_rfl⟩
theorem Tryz.okf78:OkF Tryz.prog Tryz.T 153 zt6:=⟨_,Tryz.func153,by kernel_rfl,by kernel_rfl⟩
theorem Tryz.okf79:OkF Tryz.prog Tryz.T 154 ztW:=⟨_,Tryz.func154,by kernel_rfl,by kernel_rfl⟩
theorem Tryz.okf80:OkF Tryz.prog Tryz.T 54 ztL:=⟨_,Tryz.func54,by kernel_rfl,by kernel_rfl⟩
theorem Tryz.okf114:OkF Tryz.prog Tryz.T 58 zvk:=⟨_,Tryz.func58,by kernel_rfl,by kernel_rfl⟩
theorem Tryz.okf117:OkF Tryz.prog Tryz.T 61 zuF:=⟨_,Tryz.func61,by kernel_rfl,by kernel_rfl⟩
theorem Tryz.okf118:OkF Tryz.prog Tryz.T 114 zui:=⟨_,Tryz.func114,by kernel_rfl,by kernel_rfl⟩
theorem Tryz.okf119:OkF Tryz.prog Tryz.T 60 zve:=⟨_,Tryz.func60,by kernel_rfl,by kernel_rfl⟩
theorem Tryz.okf121:OkF Tryz.prog Tryz.T 74 zvf:=⟨_,Tryz.func74,by kernel_rfl,by kernel_rfl⟩
theorem Tryz.okf123:OkF Tryz.prog Tryz.T 129 zvc:=⟨_,Tryz.func129,by kernel_rfl,by kernel_rfl⟩
theorem Tryz.okf124:OkF Tryz.prog Tryz.T 119 zun:=⟨_,Tryz.func119,by kernel_rfl,by kernel_rfl⟩
theorem Tryz.okf132:OkF Tryz.prog Tryz.T 113 zuv:=⟨_,Tryz.func113,by kernel_rfl,by kernel_rfl⟩
theorem Tryz.okf133:OkF Tryz.prog Tryz.T 116 zuV:=⟨_,Tryz.func116,by kernel_rfl,by kernel_rfl⟩
theorem Tryz.okf134:OkF Tryz.prog Tryz.T 117 zud:=⟨_,Tryz.func117,by kernel_rfl,by kernel_rfl⟩
theorem Tryz.okf135:OkF Tryz.prog Tryz.T 118 zuD:=⟨_,Tryz.func118,by kernel_rfl,by kernel_rfl⟩
theorem Tryz.okf147:OkF Tryz.prog Tryz.T 152 zvl:=⟨_,Tryz.func152,by kernel_rfl,by kernel_rfl⟩
theorem Tryz.okf180:OkF Tryz.prog Tryz.T 48 zu6:=⟨_,Tryz.func48,by kernel_rfl,by kernel_rfl⟩
theorem Tryz.okf388:OkF Tryz.prog Tryz.T 3 zt8:=⟨_,Tryz.func3,by kernel_rfl,by kernel_rfl⟩
theorem Tryz.okf395:OkF Tryz.prog Tryz.T 10 zu3:=⟨_,Tryz.func10,by kernel_rfl,by kernel_rfl⟩
theorem Tryz.okf396:OkF Tryz.prog Tryz.T 11 zt0:=⟨_,Tryz.func11,by kernel_rfl,by kernel_rfl⟩
theorem Tryz.okf397:OkF Tryz.prog Tryz.T 12 zt4:=⟨_,Tryz.func12,by kernel_rfl,by kernel_rfl⟩
theorem Tryz.okf398:OkF Tryz.prog Tryz.T 13 zu5:=⟨_,Tryz.func13,by kernel_rfl,by kernel_rfl⟩
theorem Tryz.okf399:OkF Tryz.prog Tryz.T 15 zup:=⟨_,Tryz.func15,by kernel_rfl,by kernel_rfl⟩
theorem Tryz.okf400:OkF Tryz.prog Tryz.T 16 zuB:=⟨_,Tryz.func16,by kernel_rfl,by kernel_rfl⟩
theorem Tryz.okf407:OkF Tryz.prog Tryz.T 29 zt3:=⟨_,Tryz.func29,by kernel_rfl,by kernel_rfl⟩
theorem Tryz.okf409:OkF Tryz.prog Tryz.T 32 zt2:=⟨_,Tryz.func32,by kernel_rfl,by kernel_rfl⟩
theorem Tryz.okf410:OkF Tryz.prog Tryz.T 33 zuK:=⟨_,Tryz.func33,by kernel_rfl,by kernel_rfl⟩
theorem Tryz.okf416:OkF Tryz.prog Tryz.T 49 zut:=⟨_,Tryz.func49,by kernel_rfl,by kernel_rfl⟩
theorem Tryz.okf417:OkF Tryz.prog Tryz.T 55 zuM:=⟨_,Tryz.func55,by kernel_rfl,by kernel_rfl⟩
theorem Tryz.okf418:OkF Tryz.prog Tryz.T 56 zub:=⟨_,Tryz.func56,by kernel_rfl,by kernel_rfl⟩
theorem Tryz.okf419:OkF Tryz.prog Tryz.T 57 zuE:=⟨_,Tryz.func57,by kernel_rfl,by kernel_rfl⟩
theorem Tryz.okf420:OkF Tryz.prog Tryz.T 59 zur:=⟨_,Tryz.func59,by kernel_rfl,by kernel_rfl⟩
theorem Tryz.okf421:OkF Tryz.prog Tryz.T 82 zuw:=⟨_,Tryz.func82,by kernel_rfl,by kernel_rfl⟩
theorem Tryz.okf424:OkF Tryz.prog Tryz.T 85 zuG:=⟨_,Tryz.func85,by kernel_rfl,by kernel_rfl⟩
theorem Tryz.okf425:OkF Tryz.prog Tryz.T 89 zuu:=⟨_,Tryz.func89,by kernel_rfl,by kernel_rfl⟩
theorem Tryz.okf426:OkF Tryz.prog Tryz.T 115 ztH:=⟨_,Tryz.func115,by kernel_rfl,by kernel_rfl⟩
theorem Tryz.allc:AllCal Tryz.prog Tryz.keyL:=⟨Tryz.okc8,Tryz.okc9,Tryz.okc16,Tryz.okc17,Tryz.okc18,Tryz.okc19,Tryz.okc20,Tryz.okc21,Tryz.okc22,Tryz.okc23,Tryz.okc24,Tryz.okc29,Tryz.okc30,Tryz.okc31,Tryz.okc33,Tryz.okc34,Tryz.okc35,Tryz.okc36,Tryz.okc37,Tryz.okc38,Tryz.okc39,Tryz.okc40,Tryz.okc41,Tryz.okc42,Tryz.okc43,Tryz.okc44,Tryz.okc48,Tryz.okc49,Tryz.okc50,Tryz.okc51,Tryz.okc55,Tryz.okc56,Tryz.okc57,Tryz.okc58,Tryz.okc59,Tryz.okc60,Tryz.okc61,Tryz.okc62,Tryz.okc63,Tryz.okc64,Tryz.okc76,Tryz.okc77,Tryz.okc78,Tryz.okc79,Tryz.okc80,Tryz.okc114,Tryz.okc117,Tryz.okc118,Tryz.okc119,Tryz.okc121,Tryz.okc123,Tryz.okc124,Tryz.okc132,Tryz.okc133,Tryz.okc134,Tryz.okc135,Tryz.okc147,Tryz.okc180,Tryz.okc388,Tryz.okc395,Tryz.okc396,Tryz.okc397,Tryz.okc398,Tryz.okc399,Tryz.okc400,Tryz.okc407,Tryz.okc409,Tryz.okc410,Tryz.okc416,Tryz.okc417,Tryz.okc418,Tryz.okc419,Tryz.okc420,Tryz.okc421,Tryz.okc424,Tryz.okc425,Tryz.okc426,True.intro⟩
theorem Tryz.allf:AllOk Tryz.prog Tryz.T progL Tryz.keyL:=⟨Tryz.okf8,Tryz.okf9,Tryz.okf16,Tryz.okf17,Tryz.okf18,Tryz.okf19,Tryz.okf20,Tryz.okf21,Tryz.okf22,Tryz.okf23,Tryz.okf24,Tryz.okf29,Tryz.okf30,Tryz.okf31,Tryz.okf34,Tryz.okf35,Tryz.okf36,Tryz.okf37,Tryz.okf38,Tryz.okf39,Tryz.okf40,Tryz.okf41,Tryz.okf42,Tryz.okf43,Tryz.okf44,Tryz.okf48,Tryz.okf49,Tryz.okf55,Tryz.okf56,Tryz.okf57,Tryz.okf58,Tryz.okf59,Tryz.okf60,Tryz.okf61,Tryz.okf62,Tryz.okf63,Tryz.okf64,Tryz.okf76,Tryz.okf77,Tryz.okf78,Tryz.okf79,Tryz.okf80,Tryz.okf114,Tryz.okf117,Tryz.okf118,Tryz.okf119,Tryz.okf121,Tryz.okf123,Tryz.okf124,Tryz.okf132,Tryz.okf133,Tryz.okf134,Tryz.okf135,Tryz.okf147,Tryz.okf180,Tryz.okf388,Tryz.okf395,Tryz.okf396,Tryz.okf397,Tryz.okf398,Tryz.okf399,Tryz.okf400,Tryz.okf407,Tryz.okf409,Tryz.okf410,Tryz.okf416,Tryz.okf417,Tryz.okf418,Tryz.okf419,Tryz.okf420,Tryz.okf421,Tryz.okf424,Tryz.okf425,Tryz.okf426,True.intro⟩
theorem Tryz.libok:LibOk Tryz.prog Tryz.lren (fun f=>(Tryz.keyL[f]?).join) Tryz.T 8 where
 l105:=Tryz.l105
 l171:=Tryz.l171
 lX:=Tryz.lX
 gname:=by kernel_rfl
 gkey:=rfl
 k50:=rfl
 k51:=rfl
 o130:=fun g h=>by have h:(none:Option FuncId)=some g:=h;cases h
 o131:=fun g h=>by have h:(none:Option FuncId)=some g:=h;cases h
 o222:=fun g h=>by have h:(none:Option FuncId)=some g:=h;cases h
theorem Tryz.mixed:Tryz.prog.follows .mixedOrders=true:=by kernel_rfl
theorem Tryz.progok1:ProgOk Tryz.prog (fun f=>(Tryz.keyL[f]?).join) Tryz.T E1.prog:=zmf Tryz.mixed Tryz.allc Tryz.allf Tryz.libok
theorem Tryz.gk0:∀g n,Tryz.T.gkey g=some n→n≤4:=fun g n h=>by
 have h:(if g=8 then some 0 else if g=0 then some 1 else if g=1 then some 2 else none)=some n:=h
 repeat
  split at h
  ·cases h;decide
 cases h
theorem Tryz.progok:ProgOk Tryz.prog (fun f=>(Tryz.keyL[f]?).join) Tryz.T E0.prog:=zme Tryz.mixed Tryz.allc Tryz.allf Tryz.libok fun {g} hk=>by
 obtain rfl:g=122:=(Option.some.inj hk).symm
 exact fun {_ _ _ _ _ _ _ _} e TO RL S=>zmw (pre:=Tryz.strPre) (tail:=Tryz.strTail) Tryz.progok1 KE1 Tryz.gk0 (G:=8) rfl Tryz.func122 rfl (by kernel_rfl) rfl rfl (fun neg ps h1 h2 h3 b1 o1 b3 o3 c w h4 h5 h6 h7 tm h8 h9 h10=>Tryz.str_tail neg ps h1 h2 h3 b1 o1 b3 o3 c w h4 h5 h6 h7 tm h8 h9 h10) e TO RL S
end Go.Proofs
namespace Go.Eng
open Go.RowKit
theorem tabIs_mem {P:Program} {W:World} {name:String} {k:IntKind} {zs:List Int} {g:Nat} {t e:TypeId} {n:Nat}
  (hg:P.globalNamed name=some g) (hty:(P.globals[g]?).map (·.type)=some t) (ht:P.underlying t=some (.array n e)) (he:P.underlying e=some (.int k)) (hce:P.cellsOf e=1) (hct:P.cellsOf t=n) :
  ∀{laid:List (String×DataW Unit)} {ps:List MemPlace},DataW.LaidVars P W laid ps→(name,Lib.tabData k zs)∈laid→Lib.TabIs P W name k zs
 | [],_,_,hm=>by cases hm
 | x::laid,ps,h,hm=>by
  obtain⟨g',t',cs,fuel,p,q,hg',ht',hvar,hd,h2,h3⟩:=h
  rcases List.mem_cons.1 hm with rfl|hm
  ·obtain rfl:=Option.some.inj (hg.symm.trans hg')
   obtain rfl:=Option.some.inj (hty.symm.trans ht')
   unfold Lib.TabIs
   rw[hvar,←Lib.cells_of_tab ht he hce hct hd]
  ·exact tabIs_mem hg hty ht he hce hct (by first|exact h2|exact h3|exact h3.1|exact h2.1) hm
def IsRow (k:IntKind) (w:World) (a:Option Addr) (len cap:Nat) (zs:List Int):Prop :=
 (a=none∧len=0∧cap=0∧zs=[]) ∨
 ∃x,a=some x∧len≤cap∧cap≤maxLen∧zs.length=cap∧(∀i,i<zs.length→w.cell? (x.add i)=some (.int k (zs.getD i 0)))∧∀n∈zs,(Lit.int k n).wf=true
def hpA (bs:List (List AV)):Hp:=⟨fun n=>if n≤4 then (globG n).map fun c=>⟨c,false,0⟩ else (bs[n-5]?).map fun c=>⟨c,false,0⟩,bs.length+5⟩
def locA (gs:Nat→Option At) (ats:List At):Loc:=fun n=>if n≤4 then gs n else ats[n-5]?
def InW (c:List AV) (a:At) (W:World):Prop :=
 a.b<W.heap.size∧a.w=false∧c.length≤a.n∧∀i (h:i<c.length),c[i].scal=true∧∃v,W.cell? ⟨a.b,a.o+i,none⟩=some v∧∀key l,Rel key l c[i] v
def GlobIn (key:Nat→Option FuncId) (W:World) (n:Nat) (a:At):Prop :=
 a.o=0∧∃c cs t fz,globG n=some c∧W.heap[a.b]?=some (.cells cs t fz)∧c.length≤a.n∧RelL key (fun _=>none) c cs.toList
theorem zhP:∀{n:Nat} {c:List AV},globG n=some c→c.all AV.scal=true
 | 0,c,h=>by cases h;rfl
 | 1,c,h=>by cases h;rfl
 | 2,c,h=>by cases h;rfl
 | 3,c,h=>by cases h;rfl
 | 4,c,h=>by cases h;rfl
 | n+5,c,h=>by cases h
theorem zg8:∀{n:Nat} {c:List AV},globG n=some c→(c.map cst0).all PV.scal=true
 | 0,c,h=>by cases h;decide
 | 1,c,h=>by cases h;decide
 | 2,c,h=>by cases h;decide
 | 3,c,h=>by cases h;rfl
 | 4,c,h=>by cases h;rfl
 | n+5,c,h=>by cases h
theorem zlr:∀{n:Nat} {c:List AV},globG n=some c→n≤4
 | 0,c,h=>by omega
 | 1,c,h=>by omega
 | 2,c,h=>by omega
 | 3,c,h=>by omega
 | 4,c,h=>by omega
 | n+5,c,h=>by cases h
theorem zsC {P:Program} {key:Nat→Option FuncId} {F:Nat} {W:World} {gs:Nat→Option At} (hgs:∀n a,n≤4→gs n=some a→GlobIn key W n a)
  {bs:List (List AV)} {ats:List At} (hl:ats.length=bs.length) (hin:∀(n:Nat) c a,bs[n]?=some c→ats[n]?=some a→InW c a W):Sim key F (locA gs ats) (hpA bs) W:=by
 have hlt:∀n a,n≤4→gs n=some a→a.b<W.heap.size:=fun n a hn hg=>by
  obtain⟨_,c,cs,t,fz,_,h2,_⟩:=hgs n a hn hg
  rcases Nat.lt_or_ge a.b W.heap.size with q|q
  ·exact q
  ·rw[Array.getElem?_eq_none q] at h2;cases h2
 have hout:∀n,bs.length≤n→ats[n]?=none:=fun n hn=>List.getElem?_eq_none (by omega)
 have norw:∀n blk,(hpA bs).m n=some blk→blk.rw=false:=fun n blk e=>by
  simp only[hpA] at e
  split at e<;>(simp only[Option.map_eq_some_iff] at e;obtain⟨c,_,rfl⟩:=e;rfl)
 refine⟨fun n blk a e1 e2=>?_,fun n blk a n' blk' a' e1 e2 e3=>?_,fun n a e=>?_,fun n a e=>?_,fun n hn=>?_⟩
 ·by_cases hn:n≤4
  ·simp only[hpA,if_pos hn,Option.map_eq_some_iff] at e1
   simp only[locA,if_pos hn] at e2
   obtain⟨c,c1,rfl⟩:=e1
   obtain⟨g1,c',cs,t,fz,g2,g3,g4,g5⟩:=hgs n a hn e2
   obtain rfl:=Option.some.inj (c1.symm.trans g2)
   have hsz:c.length=cs.size:=by simpa using g5.1
   refine⟨hlt n a hn e2,g4,fun i hi=>?_,fun i hi=>?_,fun q=>(by cases q),fun _=>⟨rfl,g1,cs,t,fz,g3,hsz.symm⟩⟩
   ·have hi:i<c.length:=hi
    have hi':i<cs.toList.length:=by simp;omega
    refine⟨cs.toList[i],?_,(g5.2 i hi hi').mono fun n a q=>by cases q⟩
    have hb:W.heap[a.b]?=some (.cells cs t fz):=g3
    simp only[World.cell?,hb,g1,Nat.zero_add]
    rw[Array.getElem_toList,Array.getElem?_eq_getElem (by omega)];rfl
   ·have:=zhP c1
    rw[List.all_eq_true] at this
    exact this _ (List.getElem_mem _)
  ·simp only[hpA,if_neg hn,Option.map_eq_some_iff] at e1
   simp only[locA,if_neg hn] at e2
   obtain⟨c,c1,rfl⟩:=e1
   obtain⟨q1,q2,q3,q4⟩:=hin _ c a c1 e2
   exact⟨q1,q3,fun i hi=>by obtain⟨_,v,v1,v2⟩:=q4 i hi;exact⟨v,v1,v2 key _⟩,fun i hi=>(q4 i hi).1,fun q=>(by cases q),fun q=>by rw[q2] at q;cases q⟩
 ·rw[norw n blk e1] at e3;cases e3
 ·by_cases hn:n≤4
  ·simp only[locA,if_pos hn] at e
   exact hlt n a hn e
  ·simp only[locA,if_neg hn] at e
   have hb:n-5<bs.length:=by
    rcases Nat.lt_or_ge (n-5) bs.length with q|q
    ·exact q
    ·rw[hout _ q] at e;cases e
   exact(hin _ _ a (List.getElem?_eq_getElem hb) e).1
 ·left
  show n<bs.length+5
  by_cases hn:n≤4
  ·omega
  ·simp only[locA,if_neg hn] at e
   rcases Nat.lt_or_ge (n-5) bs.length with q|q
   ·omega
   ·rw[hout _ q] at e;cases e
 ·have hn:bs.length+5≤n:=hn
  simp only[hpA]
  rw[if_neg (by omega),List.getElem?_eq_none (by omega)];rfl
theorem PInv.startG {bs:List (List AV)} (w:(hpA bs).wf):PInv globG (fun _=>False) [] [] (hpA bs):=by
 refine⟨rfl,fun i j m q=>by simp at q,fun m q=>by simp at q,w,fun n m q=>by simp at q,fun n b m q=>by simp at q,fun m d=>d.elim,fun g l q=>?_⟩
 refine⟨⟨l,false,0⟩,?_,⟨rfl,zg8 q⟩,fun d=>?_⟩
 ·simp only[hpA,if_pos (zlr q),q,Option.map_some]
 ·rcases d with d|d
  ·exact d
  ·exact zh4 _ d
theorem glob_tab {P:Program} {key:Nat→Option FuncId} {W:World} {G:Nat} (hg:P.globalNamed "internal/strconv.uint64pow10" = some G) (ht:Lib.TabIs P W "internal/strconv.uint64pow10" .u64 Lib.pow10Tab):GlobIn key W 0 ⟨G,0,20,true⟩:=by
 have hb:∃cs t fz,W.heap[G]?=some (.cells cs t fz)∧cs=(Lib.pow10Tab.map fun z=>Value.int .u64 z).toArray:=by
  unfold Lib.TabIs World.var? at ht
  rw[hg] at ht
  simp only[Option.bind_some] at ht
  split at ht
  ·rename_i cs t fz hh
   cases ht
   exact⟨_,t,fz,hh,rfl⟩
  ·cases ht
 obtain⟨cs,t,fz,hh,rfl⟩:=hb
 refine⟨rfl,powT,_,t,fz,rfl,hh,Nat.le_refl _,by simp[Lib.pow10Tab,powT],fun i h1 h2=>?_⟩
 have hpl:powT.length=20:=rfl
 have hi':i<20:=by rw[←hpl];exact h1
 simp only[powT,List.getElem_map,List.getElem_range,Lib.pow10Tab]
 exact .i _ _
theorem law_calls {P:Program} {key:Nat→Option FuncId} {T:Tab} (K:ProgOk P key T E0.prog) (hTf:∀f k,T.fkey f=some k→key k=some f) {W:World} {gs:Nat→Option At} (hgs:∀n a,n≤4→gs n=some a→GlobIn key W n a)
  (hT:∀g n,T.gkey g=some n→n≤4∧∃m,gs n=some ⟨g,0,m,true⟩)
  {bs:List (List AV)} {ats:List At} (hl:ats.length=bs.length) (hin:∀(n:Nat) c a,bs[n]?=some c→ats[n]?=some a→InW c a W)
  {k g:Nat} (hk:key k=some g) (hpure:E0.pure k=true) {ps:List PV} (hfz:fzL (fz [] fzD) ps=some (ps,[])) (hpf:pf E0 k ps=some (.b true))
  {avs:List AV} {vs:Array Value} (hV:VL (hpA bs) (fun _=>False) [] ps avs) (hR:RelL key (locA gs ats) avs vs.toList) :
  Calls P g vs W fun e w'=>e=.returned (.bool true)∧Below W.heap.size W w':=by
 have hc:pcl E0 k ps []=some (.b true,roM [] []):=zgH hpure hfz hpf
 obtain⟨kk,hev⟩:=zd4 hc
 have hw:(hpA bs).wf:=(zsC (P:=P) (key:=key) (F:=0) hgs hl hin).wf
 have I:PInv globG (fun _=>False) [] [] (hpA bs):=PInv.startG hw
 obtain⟨a,h',r',q1,q2,q3,q4⟩:=zgO KE0 kk _ _ _ _ _ _ _ _ _ hev I (VL.dd hV)
 have ha:a=.b true:=by cases q4;rfl
 subst ha
 have S:=zsC (P:=P) (key:=key) (F:=h'.next) hgs hl hin
 have TO:TabOk key T (locA gs ats):=by
  refine⟨fun f k e=>?_,fun g n e=>?_⟩
  ·exact hTf f k e
  ·obtain⟨h4,m,hm⟩:=hT g n e
   exact⟨m,by simp only[locA,if_pos h4];exact hm⟩
 refine(zbM K kk h'.next k g avs vs _ h' _ _ W q1 hk (Nat.le_refl _) TO hR S).mono ?_
 rintro e w' ⟨l',val,rfl,E,S',rv⟩
 cases rv
 refine⟨rfl,E.os,E.tape,E.output,E.size,fun b hb=>E.frame b hb fun m blk a e1 e2=>?_⟩
 exfalso
 simp only[hpA] at e1
 split at e1<;>(simp only[Option.map_eq_some_iff] at e1;obtain⟨c,c1,rfl⟩:=e1;cases e2)
theorem arg_row {k:IntKind} {W:World} (h0:0<W.heap.size) {a:Option Addr} {len cap:Nat} {zs:List Int} (h:IsRow k W a len cap zs) (n:Nat):∃(c:List AV) (at_:At) (av:AV),InW c at_ W ∧
  (∀key (l:Loc),l n=some at_→Rel key l av (.slice a len cap))∧(∀(h:Hp) (D:Nat→Prop),h.m n=some ⟨c,false,0⟩→¬D n→V h D [] (.lst ((zs.take len).map fun z=>.i k z)) av):=by
 have nilIn:InW [] ⟨0,0,0,false⟩ W:=⟨h0,rfl,Nat.le_refl _,fun i hi=>by simp at hi⟩
 rcases h with⟨rfl,rfl,rfl,rfl⟩|⟨x,rfl,hl,hm,hz,hcell,hwz⟩
 ·exact⟨[],⟨0,0,0,false⟩,.sn,nilIn,fun key l _=>.sn,fun h D _ _=>.lsn⟩
 ·by_cases hlen:len=0
  ·subst hlen
   exact⟨[],⟨0,0,0,false⟩,.e0,nilIn,fun key l _=>.e0 _ _,fun h D _ _=>.le0⟩
  ·obtain⟨b,off,spot⟩:=x
   have hc:=hcell 0 (by omega)
   have hspot:spot=none:=by simpa [Addr.add] using World.cell?_spot hc
   subst hspot
   have hlt:b<W.heap.size:=by
    rcases Nat.lt_or_ge b W.heap.size with q|q
    ·exact q
    ·rw[zbL] at hc
     simp[World.cell?,Array.getElem?_eq_none q] at hc
   have hget:∀i (hi:i<((zs.take len).map fun z=>AV.i k z).length),((zs.take len).map fun z=>AV.i k z)[i]=.i k (zs.getD i 0):=fun i hi=>by
    have hi':i<zs.length:=by simp at hi;omega
    simp only[List.getElem_map,List.getElem_take,List.getD]
    rw[List.getElem?_eq_getElem hi'];rfl
   refine⟨(zs.take len).map fun z=>.i k z,⟨b,off,cap,false⟩,.sl n 0 len cap 1,⟨hlt,rfl,by simp;omega,fun i hi=>?_⟩,fun key l hn=>?_,fun h D hb hD=>?_⟩
   ·rw[hget i hi]
    have hi':i<zs.length:=by simp at hi;omega
    have:=hcell i hi'
    rw[zbL] at this
    exact⟨rfl,_,this,fun key l=>.i _ _⟩
   ·have:=Rel.sl (key:=key) (off:=0) (len:=len) (cap:=cap) (cap':=cap) (z:=1) hn (Nat.le_refl _) (by show 0+cap*1≤cap;omega) hl
    exact this
   ·have hfl:flat ((zs.take len).map fun z=>PV.i k z)=(zs.take len).map fun z=>PV.i k z:=by
     generalize zs.take len=ys
     induction ys with
     | nil=>rfl
     | cons y ys ih=>rw[List.map_cons];show [PV.i k y]++flat _=_;rw[ih];rfl
    have hll:((zs.take len).map fun z=>PV.i k z).length=len:=by simp;omega
    have:=V.lst (h:=h) (D:=D) (r:=[]) (xs:=(zs.take len).map fun z=>PV.i k z) (m:=n) (off:=0) (cap:=cap) (z:=1) (fun i=>.i k (zs.getD i 0)) hb hD (by rw[hfl,List.all_eq_true];intro x hx;obtain⟨y,_,rfl⟩:=List.mem_map.1 hx;rfl) (by decide) (fun x hx=>by
     obtain⟨y,_,rfl⟩:=List.mem_map.1 hx;rfl) (by rw[hll];exact hl) (fun i hi=>by
     rw[hfl] at hi
     have hi2:i<((zs.take len).map fun z=>AV.i k z).length:=by simpa using hi
     rw[Nat.zero_add,List.getElem?_eq_getElem hi2,hget i hi2]) (fun i hi=>by
     have hi1:i<((zs.take len).map fun z=>PV.i k z).length:=by rw[hfl] at hi;exact hi
     have e:(flat ((zs.take len).map fun z=>PV.i k z))[i]=.i k (zs.getD i 0):=by
      simp only[hfl,List.getElem_map,List.getElem_take,List.getD]
      rw[List.getElem?_eq_getElem (by simp at hi1;omega)];rfl
     rw[e]
     exact .i _ _)
    rw[hll] at this
    exact this
theorem row_heap {P:Program} {W:World} {G:Nat} (hg:P.globalNamed "internal/strconv.uint64pow10" = some G) (ht:Lib.TabIs P W "internal/strconv.uint64pow10" .u64 Lib.pow10Tab):0<W.heap.size:=by
 unfold Lib.TabIs World.var? at ht
 rw[hg] at ht
 simp only[Option.bind_some] at ht
 split at ht
 ·rename_i cs t fz hh
  rcases Nat.eq_zero_or_pos W.heap.size with q|q
  ·rw[Array.getElem?_eq_none (by omega)] at hh;cases hh
  ·exact q
 ·cases ht
theorem ints_row {W:World} {a:Option Addr} {len cap:Nat} {zs:List Int} (h:IsRow .i64 W a len cap zs):Ints (zs.take len):=by
 rcases h with⟨rfl,rfl,rfl,rfl⟩|⟨x,rfl,hl,hm,hz,hcell,hwz⟩
 ·exact⟨by simp,fun n hn=>by simp at hn⟩
 ·refine⟨?_,fun n hn=>?_⟩
  ·have:maxLen≤9223372036854775807:=by decide
   simp;omega
  ·have:=bounds_i64 (hwz n (List.mem_of_mem_take hn))
   exact this
end Go.Eng
namespace Go.Eng
open Go.RowKit
theorem zgn {P:Program} {W:World} {name:String} {d:DataW Unit}:∀{laid:List (String×DataW Unit)} {ps:List MemPlace},DataW.LaidVars P W laid ps→(name,d)∈laid →
  ∃g t cs fuel p,P.globalNamed name=some g∧(P.globals[g]?).map (·.type)=some t∧W.var? P name=some cs∧DataW.trod (fun _=>()) P W 0 (fun _=>true) false fuel t cs.toList=some (d,p)
 | [],_,_,hm=>by cases hm
 | x::laid,ps,h,hm=>by
  obtain⟨g',t',cs,fuel,p,q,hg',ht',hvar,hd,h2,h3⟩:=h
  rcases List.mem_cons.1 hm with rfl|hm
  ·exact⟨g',t',cs,fuel,p,hg',ht',hvar,hd⟩
  ·exact zgn h2 hm
theorem zg3 {H:Type} {enc:TypeId×Value→H} {P:Program} {w:World} {base:Nat} {sp:Nat→Bool} {held:Bool} {fuel:Nat} {t e e2:TypeId} {n m:Nat} {k:IntKind} {cs:List Value} {zss:List (List Int)} {p:List MemPlace}
  (ht:P.underlying t=some (.array n e)) (he:P.underlying e=some (.array m e2)) (he2:P.underlying e2=some (.int k)) (c2:P.cellsOf e2=1) (ce:P.cellsOf e=m) (ct:P.cellsOf t=n*m)
  (h:DataW.trod enc P w base sp held fuel t cs=some (.agg (zss.map fun zs=>Lib.tabData k zs),p)):cs=zss.flatten.map fun z=>Value.int k z:=by
 cases fuel with
 | zero=>simp[DataW.trod] at h
 | succ fuel =>
  simp only[DataW.trod,ht,ce,ct] at h
  split at h
  ·rename_i hl
   obtain⟨xs,hm,hx⟩:=Option.map_eq_some_iff.1 h
   have hxs:xs.map (·.1)=zss.map fun zs=>(Lib.tabData k zs:DataW H):=by
    have:=congrArg Prod.fst hx
    simpa using this
   have hxl:xs.length=n:=by simpa using Lib.mapM_length hm
   have hzl:zss.length=n:=by
    have:=congrArg List.length hxs
    simp at this
    omega
   have part:∀i (hi:i<zss.length),(cs.drop (i*m)).take m=(zss[i]).map fun z=>Value.int k z:=fun i hi=>by
    have hin:i<n:=by omega
    obtain⟨b,hb,hf⟩:=Lib.mapM_at hm i i (by rw[List.getElem?_eq_getElem (by rw[List.length_range];exact hin),List.getElem_range])
    have h2:(xs.map (·.1))[i]?=some b.1:=by simp[hb]
    rw[hxs] at h2
    simp only[List.getElem?_map,List.getElem?_eq_getElem hi,Option.map_some,Option.some.injEq] at h2
    exact Lib.cells_of_tab (zs:=zss[i]) (p:=b.2) he he2 c2 ce (by rw[h2];exact hf)
   clear hm hx hxs h hxl
   have key:∀(zss:List (List Int)) (cs:List Value),cs.length=zss.length*m→(∀i (hi:i<zss.length),(cs.drop (i*m)).take m=(zss[i]).map fun z=>Value.int k z)→cs=zss.flatten.map fun z=>Value.int k z:=fun zss=>by
    induction zss with
    | nil=>intro cs hc _;simp at hc;simp[hc]
    | cons a l ih =>
     intro cs hc hp
     have h0:=hp 0 (by simp)
     rw[Nat.zero_mul,List.drop_zero] at h0
     have h1:=ih (cs.drop m) (by rw[List.length_drop,hc,List.length_cons,Nat.succ_mul];omega) fun i hi=>by
      have:=hp (i+1) (by simp;omega)
      rw[List.drop_drop,show m+i*m=(i+1)*m by rw[Nat.succ_mul];omega]
      simpa using this
     have h0:cs.take m=a.map fun z=>Value.int k z:=h0
     rw[List.flatten_cons,List.map_append,←h1,←h0,List.take_append_drop]
   exact key zss cs (by rw[hl,hzl]) part
  ·cases h
theorem zls {P:Program} {key:Nat→Option FuncId} {W:World} {G n:Nat} {name:String} {k:IntKind} {zs:List Int} (hg:P.globalNamed name=some G) (hn:globG n=some (zs.map fun z=>AV.i k z)) (hv:W.var? P name=some (zs.map fun z=>Value.int k z).toArray):GlobIn key W n ⟨G,0,zs.length,true⟩:=by
 have hb:∃cs t fz,W.heap[G]?=some (.cells cs t fz)∧cs=(zs.map fun z=>Value.int k z).toArray:=by
  unfold World.var? at hv
  rw[hg] at hv
  simp only[Option.bind_some] at hv
  split at hv
  ·rename_i cs t fz hh
   cases hv
   exact⟨_,t,fz,hh,rfl⟩
  ·cases hv
 obtain⟨cs,t,fz,hh,rfl⟩:=hb
 refine⟨rfl,_,_,t,fz,hn,hh,by simp,by simp,fun i h1 h2=>?_⟩
 simp only[List.getElem_map]
 exact .i _ _
theorem glob_arr2 {P:Program} {key:Nat→Option FuncId} {W:World} {laid:List (String×DataW Unit)} {ps:List MemPlace} {n g N m:Nat} {name:String} {t e e2:TypeId} {k:IntKind} {zss:List (List Int)} (hg:P.globalNamed name=some g) (hty:(P.globals[g]?).map (·.type)=some t)
  (ht:P.underlying t=some (.array N e)) (he:P.underlying e=some (.array m e2)) (he2:P.underlying e2=some (.int k)) (c2:P.cellsOf e2=1) (ce:P.cellsOf e=m) (ct:P.cellsOf t=N*m)
  (hn:globG n=some (zss.flatten.map fun z=>AV.i k z)) (hL:DataW.LaidVars P W laid ps) (hm:(name,DataW.agg (zss.map fun zs=>Lib.tabData k zs))∈laid):GlobIn key W n ⟨g,0,zss.flatten.length,true⟩:=by
 obtain⟨g',t',cs,fuel,p,h1,h2,h3,h4⟩:=zgn hL hm
 obtain rfl:=Option.some.inj (hg.symm.trans h1)
 obtain rfl:=Option.some.inj (hty.symm.trans h2)
 have hc:=zg3 ht he he2 c2 ce ct h4
 exact zls hg hn (by rw[h3,←hc])
def monoZ:List (List Int):=[[0,0,0],[1,0,0],[0,1,0],[0,0,1],[2,0,0],[1,1,0],[1,0,1],[0,2,0],[0,1,1],[0,0,2],[3,0,0],[2,1,0],[2,0,1],[1,2,0],[1,1,1],[1,0,2],[0,3,0],[0,2,1],[0,1,2],[0,0,3]]
def chooZ:List (List Int):=[[1,0,0,0],[1,1,0,0],[1,2,1,0],[1,3,3,1]]
theorem mono_glob:globG 1=some (monoZ.flatten.map fun z=>AV.i .i64 z):=rfl
theorem choo_glob:globG 2=some (chooZ.flatten.map fun z=>AV.i .i64 z):=rfl
end Go.Eng
namespace Go.Eng
theorem ziv {n K:Nat} (hn:n=1229) (hK:K=16384):10000^n≤2^K:=by
 obtain⟨m,hm⟩:∃m,m=83:=⟨_,rfl⟩
 have e:(10000:Nat)^n=(10^59)^m*10^19:=by
  rw[show (10000:Nat)=10^4 from rfl,←Nat.pow_mul,←Nat.pow_mul,←Nat.pow_add]
  congr 1;omega
 have h1:(10:Nat)^59≤2^196:=by decide
 have h2:(10:Nat)^19≤2^64:=by decide
 have h3:((10:Nat)^59)^m≤(2^196)^m:=Nat.pow_le_pow_left h1 m
 have h4:(2^196)^m*2^64=2^(196*m+64):=by rw[←Nat.pow_mul,←Nat.pow_add]
 rw[e]
 refine Nat.le_trans (Nat.mul_le_mul h3 h2) ?_
 rw[h4]
 exact Nat.pow_le_pow_right (by decide) (by omega)
def inR (v:Nat):Prop:=v<2^16384
theorem zjs (v:Nat):(tlen v<1230∨v<2^16384)↔inR v:=by
 obtain⟨n,hn⟩:∃n,n=1229:=⟨_,rfl⟩
 have hb:=ziv (K:=16384) hn rfl
 unfold inR
 generalize (2:Nat)^16384=q at *
 constructor
 ·rintro (h|h)
  ·have h2:v<10000^n:=zaU.1 (by omega)
   exact Nat.lt_of_lt_of_le h2 hb
  ·exact h
 ·exact .inr
theorem zbm (v:Nat):wlen v≤512↔inR v:=by
 obtain⟨n,hn⟩:∃n,n=512:=⟨_,rfl⟩
 rw[←hn,zaF]
 unfold inR
 have:(4294967296:Nat)^n=2^16384:=by
  rw[show (4294967296:Nat)=2^32 from rfl,←Nat.pow_mul]
  congr 1;omega
 rw[this]
end Go.Eng
namespace Go.Eng
end Go.Eng
namespace Go.Eng
noncomputable instance inRdec (v:Nat):Decidable (inR v):=Classical.propDecidable _
end Go.Eng
namespace Go.Eng
end Go.Eng
namespace Go.Eng
theorem zi1 {n K:Nat} (hn:n=177) (hK:K=16384):2^K≤10^(28*n):=by
 have e1:(2:Nat)^K≤(2^93)^n:=by
  rw[←Nat.pow_mul 2]
  exact Nat.pow_le_pow_right (by decide) (by omega)
 have e2:((2:Nat)^93)^n≤(10^28)^n:=Nat.pow_le_pow_left (by decide) n
 rw[←Nat.pow_mul 10] at e2
 exact Nat.le_trans e1 e2
theorem zjy {v:Nat} (h:inR v):dlen v≤4956:=by
 obtain⟨n,hn⟩:∃n,n=177:=⟨_,rfl⟩
 have e:=zi1 (K:=16384) hn rfl
 have h:v<2^16384:=h
 have:=zaN.2 (Nat.lt_of_lt_of_le h e)
 omega
theorem zn5 (x:WI):pf E0 33 [wiP x]=some (.s (decI x.v)):=by
 refine zmc ?_ rfl
 have hw:∀(l:List Nat),Ok32 l→wordsP (l.map fun n=>(PV.i .u32 ((n:Nat):Int)))=some l:=fun l=>by
  induction l with
  | nil=>intro _;rfl
  | cons n l ih =>
   intro h
   have h1:=h n (List.mem_cons_self ..)
   rw[List.map_cons]
   unfold wordsP
   rw[if_pos ⟨by omega,by omega⟩,ih fun x hx=>h x (List.mem_cons_of_mem _ hx)]
   simp
 have hD:D x.v.natAbs=.lst ((dig x.v.natAbs).map fun n=>(PV.i .u32 ((n:Nat):Int))):=(zrw _ _).symm
 have hg:(dig x.v.natAbs).getLast?≠some 0:=fun q=>by
  by_cases h:x.v.natAbs=0
  ·rw[h] at q;cases q
  ·have h1:=zaQ h
   have h2:(dig x.v.natAbs).getLast?=some (dgt x.v.natAbs (wlen x.v.natAbs-1)):=by
    rw[List.getLast?_eq_getElem?]
    unfold dig dw
    rw[zbw,zaR (by omega)]
   rw[h2] at q
   have h3:=Option.some.inj q
   rw[zae] at h3
   have h4:=zeL h
   have h5:x.v.natAbs/4294967296^(wlen x.v.natAbs-1)<4294967296:=by
    have:=zad x.v.natAbs
    rw[show wlen x.v.natAbs=wlen x.v.natAbs-1+1 by omega,Nat.pow_succ] at this
    exact Nat.div_lt_of_lt_mul this
   have h6:=Nat.div_pos h4 (zbq _)
   rw[Nat.mod_eq_of_lt h5] at h3
   omega
 have hx:=x.lim
 rw[zdB,hD]
 simp only[orcP,txtP,if_true,hw _ (znH _),Option.bind_some]
 unfold wtx
 have hnz:decide (x.v<0)=true→dig x.v.natAbs≠[]:=fun h=>by
  have h1:x.v<0:=by simpa using h
  intro q
  have h2:=zdR x.v.natAbs
  rw[q] at h2
  have:=zaQ (v:=x.v.natAbs) (by omega)
  simp at h2;omega
 rw[if_pos ⟨by rw[zdR];exact hx,hg,hnz⟩,zmA]
 ·have e:(if decide (x.v<0)=true then-((x.v.natAbs:Nat):Int) else ((x.v.natAbs:Nat):Int))=x.v:=by
   by_cases h:x.v<0
   ·rw[if_pos (by simpa using h)];omega
   ·rw[if_neg (by simpa using h)];omega
  rw[e];rfl
end Go.Eng
namespace Go.Eng
theorem zjh {v n:Nat} (h1:10^n≤v) (h2:v<10^(n+1)):dec v=dtx (n+1) v:=by
 have h0:v≠0:=by have:=Nat.pow_pos (n:=n) (by decide:0<10);omega
 have:dlen v=n+1:=by
  have a:=zaN.2 h2
  have b:¬dlen v≤n:=fun q=>by have:=zaN.1 q;omega
  omega
 rw[zeh h0,this]
theorem zhK {n:Int} (h:Fits64 n):∃x:WI,x.v=n∧pf E0 34 [.i .i64 n]=some (wiP x):=⟨wiOf n h,rfl,zbk h⟩
end Go.Eng
namespace Go.Eng
def isPP:PV→Bool
 | .p _ _=>true
 | _=>false
@[go_sem] theorem zrK (n o:Nat):isPP (.p n o)=true:=_root_.id rfl
def slotIn (E:PEnv) (ops:List XOper) (L:List Nat) (c:Nat×Nat):Bool :=
 match ops[c.1]?,ops[c.2]? with
 | some a,some b =>
  match a.op with
  | .load _ _ (.t s)=>L.contains s&&calmOp E b.op&&(ops.all fun o=>o.dst != some s)
  | _=>false
 | _,_=>false
theorem zaP {E:PEnv} {F:PFin} {ops:List XOper} {chk:List (Nat×Nat)} {ks:List KI} {fr:PFr} {M:PM} (L:List Nat) (hL:chk.all (fun c=>calmC E ops c || slotIn E ops L c)=true) (hp:L.all (fun s=>isPP (fr s))=true) (w:WL E F ops ks fr M) :
  WK E F (.drw ops chk) ks fr M:=by
 refine zbW (fun fr2 Ms hT=>?_) w
 rw[List.all_eq_true] at hL hp ⊢
 rintro⟨i,j⟩ hc
 have h1:=hL _ hc
 simp only[Bool.or_eq_true] at h1
 rcases h1 with h1|h1
 ·exact zby hT h1
 ·unfold slotIn at h1
  split at h1
  ·rename_i a b ha hb
   split at h1
   ·rename_i z k s hop
    simp only[Bool.and_eq_true] at h1
    obtain⟨⟨c1,c2⟩,c3⟩:=h1
    have hs:=hp s (List.contains_iff_mem.1 c1)
    cases hf:fr s with
    | p n o=>exact zcf hT ha hb hop c2 c3 hf
    | _=>rw[hf] at hs;simp[isPP] at hs
   ·cases h1
  ·cases h1
attribute [go_sem] List.all_cons List.all_nil
def slotIn2 (E:PEnv) (ops:List XOper) (L:List Nat) (c:Nat×Nat):Bool :=
 match ops[c.1]?,ops[c.2]? with
 | some a,some b =>
  match a.op with
  | .load _ _ (.t s)=>L.contains s&&calmOp E b.op
  | _=>false
 | _,_=>false
theorem zbX {E:PEnv} {F:PFin} {ops:List XOper} {chk:List (Nat×Nat)} {ks:List KI} {fr:PFr} {M:PM} (L:List Nat) (hL:chk.all (fun c=>calmC E ops c || slotIn2 E ops L c)=true)
  (hr:WL E ⟨(0::0::L).map XR.tmp,fun w _=>∃l,w=.tu l∧(l.drop 2).all isPP=true⟩ ops [] fr M) (w:WL E F ops ks fr M):WK E F (.drw ops chk) ks fr M:=by
 refine zbW (fun fr2 Ms hT=>?_) w
 have hp:L.all (fun s=>isPP (fr2 s))=true:=by
  obtain⟨lf,q,fr3,M3,vs,e,h1,h2,l,h3,h4⟩:=hr
  simp only[Option.bind_eq_some_iff,unw] at e
  obtain⟨⟨fr4,M4⟩,e1,e2⟩:=e
  simp only[Option.some.injEq,Prod.mk.injEq] at e2
  obtain⟨_,e3,e4⟩:=e2
  rw[←e3,←e4] at h2
  obtain⟨Ms',g1,g2⟩:=zbV e1
  rw[g1] at hT
  cases hT
  have hres:∀(f:PFr) (N:PM) (l:List Nat),pRes f N (l.map XR.tmp)=some (l.map f):=fun f N l=>by
   induction l with
   | nil=>rfl
   | cons a l ih=>simp only[List.map_cons,pRes,pResOne,ih]
  rw[hres] at h2
  cases h2
  simp only[List.map_cons,packP] at h3
  cases h3
  simpa [List.all_map] using h4
 rw[List.all_eq_true] at hL hp ⊢
 rintro⟨i,j⟩ hc
 have h1:=hL _ hc
 simp only[Bool.or_eq_true] at h1
 rcases h1 with h1|h1
 ·exact zby hT h1
 ·unfold slotIn2 at h1
  split at h1
  ·rename_i a b ha hb
   split at h1
   ·rename_i z k s hop
    simp only[Bool.and_eq_true] at h1
    obtain⟨c1,c2⟩:=h1
    have hs:=hp s (List.contains_iff_mem.1 c1)
    cases hf:fr2 s with
    | p n o =>
     obtain⟨fri,A,B,q1,q2,q3,q4⟩:=zaI hT ha
     obtain⟨frj,C,D,p1,p2,p3,p4⟩:=zaI hT hb
     have p2':Ms[(i,j).2+1]?=some D:=p2
     have q2':Ms[(i,j).1+1]?=some B:=q2
     simp only[chkP,ha,q1,q2,p1,p2]
     rw[if_neg (by rw[hop];simp[XO.cls])]
     rw[hop]
     show chkV ops j (.t s) C D (fr2 s)=true
     rw[hf]
     show verP (some n) C D=true
     rcases p3 with⟨_,v,p3⟩|⟨_,p3⟩
     ·cases hopb:b.op with
      | call f l =>
       rw[hopb] at p3 c2
       obtain⟨ns,rfl⟩:=zez c2 p3
       exact zc4 ns C _
      | _=>rw[hopb] at c2;simp[calmOp] at c2
     ·rw[p3];simp[verP]
    | _=>rw[hf] at hs;simp[isPP] at hs
   ·cases h1
  ·cases h1
theorem zay {E:PEnv} {F:PFin} {a b:XC} (hab:a=b) {ks:List KI} {fr:PFr} {M:PM} (w:WK E F b (.loop a::ks) fr M):WK E F (.loop a) ks fr M:=by
 rw[←hab] at w;exact zcI w
def fillC (z:List PV) (off n:Nat) (cs:List PV):Option (List PV):=if cs.length=n∧off+n≤z.length∧cs.all PV.scal=true then some (psplice z off cs) else none
theorem zaz {fr:PFr} (G:Nat→Option (List AV)) (z:List PV) (off n:Nat) (x:X) (ps:List (Nat×Nat×X)):fillP G fr z ((off,(n,x))::ps)=fillB fr G ps (fillC z off n (x.pv G fr).cells):=by
 simp only[fillP]
 unfold fillC
 split<;>rfl
theorem zah (z:List PV) (off n:Nat) (cs:List PV):fillC z off n cs=if cs.length=n∧off+n≤z.length∧cs.all PV.scal=true then some (psplice z off cs) else none:=rfl
end Go.Eng
namespace Go.Eng
theorem zcP {z:Int} (h:tlen z.natAbs<1230):inR z.natAbs:=(zjs _).1 (.inl h)
theorem znt {z:Int} (h:inR z.natAbs):wlen z.natAbs≤512:=(zbm _).2 h
end Go.Eng
namespace Go.Eng
def upd {α:Type} (X:Nat→α) (i:Nat) (v:α):Nat→α:=fun e=>if e=i then v else X e
theorem zbl {α:Type} (X:Nat→α) (i:Nat) (v:α):upd X i v i=v:=if_pos rfl
theorem zbJ {α:Type} {X:Nat→α} {i:Nat} {v:α} {e:Nat} (h:e≠i):upd X i v e=X e:=if_neg h
def cs (n:Nat) (X:Nat→Int):List PV:=(List.range n).map fun e=>.i .i64 (X e)
def zF:Nat→Int:=fun _=>0
def aI (n:Nat) (X:Nat→Int):PV:=.ag (cs n X)
@[go_sem] theorem zbZ (n:Nat) (X:Nat→Int):(cs n X).length=n:=by simp[cs]
theorem zbj {n:Nat} (X:Nat→Int) {i:Nat} (h:i<n):(cs n X)[i]?=some (.i .i64 (X i)):=by simp[cs,h]
theorem zm7 {n:Nat} (X:Nat→Int) {i:Nat} (h:i<(cs n X).length):(cs n X)[i]=.i .i64 (X i):=by simp[cs]
theorem zf5 {n:Nat} {X Y:Nat→Int} (h:∀e,e<n→X e=Y e):cs n X=cs n Y:=by
 unfold cs
 exact List.map_congr_left fun e he=>by rw[h e (List.mem_range.1 he)]
theorem zeN {n:Nat} {X Y:Nat→Int} (h:∀e,e<n→X e=Y e):aI n X=aI n Y:=by unfold aI;rw[zf5 h]
@[go_sem] theorem zrz (n:Nat) (X:Nat→Int) (i:Nat) (v:Int):(cs n X).set i (.i .i64 v)=cs n (upd X i v):=by
 refine List.ext_getElem (by simp[cs]) fun k h1 h2=>?_
 rw[zm7,List.getElem_set]
 split
 ·rename_i q;subst q;rw[zbl]
 ·rename_i q;rw[zm7,zbJ (fun z=>q z.symm)]
theorem zdO {n:Nat} (X:Nat→Int) {off k:Nat} (h:off+k≤n):((cs n X).drop off).take k=cs k (fun e=>X (off+e)):=by
 refine List.ext_getElem (by simp[cs];omega) fun j h1 h2=>?_
 simp[cs]
theorem zm9 {n:Nat} (X:Nat→Int) {i:Nat} (h:i<n):((cs n X).drop i).take 1=[.i .i64 (X i)]:=by
 rw[zdO X (show i+1≤n by omega)];rfl
theorem zeg (n:Nat) (l:List PV) (Y:Nat→Int) (h:l.length=n):psplice l 0 (cs n Y)=cs n Y:=by
 unfold psplice
 rw[zbZ,List.take_zero,List.drop_eq_nil_of_le (by omega),List.nil_append,List.append_nil]
@[go_sem] theorem zpT (n:Nat) (X Y:Nat→Int):psplice (cs n X) 0 (cs n Y)=cs n Y:=zeg n _ Y (zbZ n X)
@[go_sem] theorem zpU (n:Nat) (X:Nat→Int):(cs n X).take n=cs n X:=List.take_of_length_le (by rw[zbZ];exact Nat.le_refl _)
@[go_sem] theorem zrd (a0 a1 a2 a3 a4 a5 a6 a7 a8 a9 a10 a11 a12 a13 a14 a15 a16 a17 a18 a19:PV) (Y:Nat→Int):psplice [a0,a1,a2,a3,a4,a5,a6,a7,a8,a9,a10,a11,a12,a13,a14,a15,a16,a17,a18,a19] 0 (cs 20 Y)=cs 20 Y:=zeg 20 _ Y rfl
@[go_sem] theorem zpS (n:Nat) (X:Nat→Int):(cs n X).all PV.scal=true:=by
 rw[List.all_eq_true]
 intro x hx
 obtain⟨e,_,rfl⟩:=List.mem_map.1 hx
 rfl
@[go_sem] theorem zpR (M:PM) (d n:Nat) (X:Nat→Int):fzL (fz M (d+1)) (cs n X)=some (cs n X,[]):=zgf M d _ (fun _=>rfl) _
@[go_sem] theorem zs4 (M:PM) (d n:Nat) (X:Nat→Int):fz M (d+1+1) (aI n X)=some (aI n X,[]):=by unfold aI;rw[zp7,zpR,zjw]
@[go_sem] theorem zoN (n:Nat) (X:Nat→Int):(aI n X).cells=cs n X:=_root_.id rfl
@[go_sem] theorem zpt (n:Nat) (X:Nat→Int):PV.ag (cs n X)=aI n X:=_root_.id rfl
theorem zc7 {n:Nat} (X:Nat→Int) {j:Nat} (h:j<n):iagP n false 1 (aI n X) (some j)=some (.i .i64 (X j)):=by
 unfold aI
 rw[zdk,if_pos ⟨h,by rw[zbZ];omega⟩,Nat.mul_one,zm9 X h];rfl
theorem zkj (n:Nat) (X Y:Nat→Int):eqCellsP (List.replicate n 1) (cs n X) (cs n Y)=some (decide (∀e,e<n→X e=Y e)):=by
 have key:∀(l:List Nat),eqCellsP (List.replicate l.length 1) (l.map fun e=>PV.i .i64 (X e)) (l.map fun e=>PV.i .i64 (Y e))=some (decide (∀e∈l,X e=Y e)):=fun l=>by
  induction l with
  | nil=>simp[eqCellsP]
  | cons a l ih =>
   rw[List.length_cons,List.replicate_succ,List.map_cons,List.map_cons]
   simp only[eqCellsP,eqCellP,ih]
   have q:(X a==Y a)=decide (X a=Y a):=by rw[Bool.eq_iff_iff];simp
   simp[q]
 have:=key (List.range n)
 rw[List.length_range] at this
 simpa [cs] using this
noncomputable def cw (n:Nat) (w:Nat→WI):List PV:=(List.range n).flatMap fun e=>[.b (decide ((w e).v<0)),D (w e).v.natAbs]
theorem zhu (n:Nat) (w:Nat→WI):cw (n+1) w=cw n w++[.b (decide ((w n).v<0)),D (w n).v.natAbs]:=by
 unfold cw
 rw[List.range_succ,List.flatMap_append];rfl
@[go_sem] theorem zdP (n:Nat) (w:Nat→WI):(cw n w).length=2*n:=by
 induction n with
 | zero=>rfl
 | succ n ih=>rw[zhu,List.length_append,ih];rfl
theorem zkl {n:Nat} (w:Nat→WI) {i:Nat} (h:i<n):((cw n w).drop (i*2)).take 2=[.b (decide ((w i).v<0)),D (w i).v.natAbs]:=by
 induction n with
 | zero=>omega
 | succ n ih =>
  rw[zhu]
  rcases Nat.lt_or_ge i n with q|q
  ·rw[List.drop_append_of_le_length (by rw[zdP];omega),List.take_append_of_le_length (by rw[List.length_drop,zdP];omega),ih q]
  ·obtain rfl:i=n:=by omega
   rw[List.drop_append,List.drop_eq_nil_of_le (by rw[zdP];omega),zdP,List.nil_append,show i*2-2*i=0 by omega];rfl
theorem zm8 (n:Nat) (X:Nat→Int):eqCellsP (List.replicate n 1) (cs n X) (cs n X)=some true:=by rw[zkj];simp
end Go.Eng
namespace Go.Eng
def gI (p q:Int):Int:=((Nat.gcd p.natAbs q.natAbs:Nat):Int)
def lowP (p q:Int):Int:=(if q<0 then-p else p)/gI p q
def lowQ (p q:Int):Int:=(if q<0 then-q else q)/gI p q
theorem zg7 {p q:Int} (h:q≠0):gI p q≠0:=by
 unfold gI
 intro e
 have:Nat.gcd p.natAbs q.natAbs=0:=by omega
 have:=Nat.eq_zero_of_gcd_eq_zero_right this
 omega
theorem zdi {p q:Int} (h:q≠0):0<gI p q:=by
 have:=zg7 (p:=p) h
 unfold gI at *
 omega
theorem zbN (p q:Int):gI p q∣p:=Int.ofNat_dvd_left.2 (Nat.gcd_dvd_left _ _)
theorem zb6 (p q:Int):gI p q∣q:=Int.ofNat_dvd_left.2 (Nat.gcd_dvd_right _ _)
theorem znp (p q:Int):gI (-p) (-q)=gI p q:=by unfold gI;rw[Int.natAbs_neg,Int.natAbs_neg]
theorem zdo {p q:Int} (h:q≠0):lowP p q*gI p q=(if q<0 then-p else p)∧lowQ p q*gI p q=(if q<0 then-q else q):=by
 unfold lowP lowQ
 refine⟨Int.ediv_mul_cancel ?_,Int.ediv_mul_cancel ?_⟩
 ·split
  ·exact Int.dvd_neg.2 (zbN p q)
  ·exact zbN p q
 ·split
  ·exact Int.dvd_neg.2 (zb6 p q)
  ·exact zb6 p q
theorem zfE {p q:Int} (h:q≠0):0<lowQ p q:=by
 have h1:=(zdo (p:=p) h).2
 have h2:=zdi (p:=p) h
 have h3:0<lowQ p q*gI p q:=by rw[h1];split<;>omega
 exact Int.pos_of_mul_pos_left h3 h2
theorem ze0 {p q:Int} (h:q≠0):lowP p q*q=p*lowQ p q:=by
 obtain⟨h1,h2⟩:=zdo (p:=p) h
 have h3:=zg7 (p:=p) h
 apply Int.eq_of_mul_eq_mul_right h3
 rw[Int.mul_right_comm,h1,Int.mul_assoc,h2]
 split<;>grind
theorem zfD {p q:Int} (h:q≠0):Nat.gcd (lowP p q).natAbs (lowQ p q).natAbs=1:=by
 obtain⟨h1,h2⟩:=zdo (p:=p) h
 have h3:=zdi (p:=p) h
 have e1:(lowP p q).natAbs*(gI p q).natAbs=p.natAbs:=by rw[←Int.natAbs_mul,h1];split<;>omega
 have e2:(lowQ p q).natAbs*(gI p q).natAbs=q.natAbs:=by rw[←Int.natAbs_mul,h2];split<;>omega
 have e3:(gI p q).natAbs=Nat.gcd p.natAbs q.natAbs:=Int.natAbs_natCast _
 have e4:=Nat.gcd_mul_right (lowP p q).natAbs (gI p q).natAbs (lowQ p q).natAbs
 rw[e1,e2,←e3] at e4
 have:0<(gI p q).natAbs:=by omega
 exact Nat.eq_of_mul_eq_mul_right this (by rw[Nat.one_mul];exact e4.symm)
theorem zes {p q r s:Int} (hq:0<q) (hs:0<s) (c1:Nat.gcd p.natAbs q.natAbs=1) (c2:Nat.gcd r.natAbs s.natAbs=1) (h:p*s=r*q):p=r∧q=s:=by
 have n1:p.natAbs*s.natAbs=r.natAbs*q.natAbs:=by rw[←Int.natAbs_mul,←Int.natAbs_mul,h]
 have d1:q.natAbs∣s.natAbs:=by
  have:q.natAbs∣p.natAbs*s.natAbs:=⟨r.natAbs,by rw[n1,Nat.mul_comm]⟩
  exact(Nat.Coprime.dvd_of_dvd_mul_left (by rw[Nat.coprime_comm];exact c1) this)
 have d2:s.natAbs∣q.natAbs:=by
  have:s.natAbs∣r.natAbs*q.natAbs:=⟨p.natAbs,by rw[←n1,Nat.mul_comm]⟩
  exact(Nat.Coprime.dvd_of_dvd_mul_left (by rw[Nat.coprime_comm];exact c2) this)
 have e:q.natAbs=s.natAbs:=Nat.dvd_antisymm d1 d2
 have e2:q=s:=by omega
 subst e2
 exact⟨Int.eq_of_mul_eq_mul_right (by omega) h,rfl⟩
theorem zgs {p q:Int} (hq:0<q) (c:Nat.gcd p.natAbs q.natAbs=1):lowP p q=p∧lowQ p q=q:=by
 unfold lowP lowQ gI
 rw[c,if_neg (by omega),if_neg (by omega)]
 exact⟨Int.ediv_one _,Int.ediv_one _⟩
theorem zfB {p q:Int} (h:q≠0):(lowP p q).natAbs≤p.natAbs:=by
 have h1:=(zdo (p:=p) h).1
 have h3:=zdi (p:=p) h
 have e1:(lowP p q).natAbs*(gI p q).natAbs=p.natAbs:=by rw[←Int.natAbs_mul,h1];split<;>omega
 rw[←e1]
 exact Nat.le_mul_of_pos_right _ (by omega)
theorem zfC {p q:Int} (h:q≠0):(lowQ p q).natAbs≤q.natAbs:=by
 have h1:=(zdo (p:=p) h).2
 have h3:=zdi (p:=p) h
 have e1:(lowQ p q).natAbs*(gI p q).natAbs=q.natAbs:=by rw[←Int.natAbs_mul,h1];split<;>omega
 rw[←e1]
 exact Nat.le_mul_of_pos_right _ (by omega)
end Go.Eng
namespace Go.Eng
structure FQ where
 p:WI
 q:WI
 q1:1≤q.v
 cop:Nat.gcd p.v.natAbs q.v.natAbs=1
theorem zi6 {y:WI} (hy:1≤y.v):wlen (y.v-1).natAbs≤512:=by
 have h:=(zbm _).1 y.lim
 refine(zbm _).2 ?_
 unfold inR at *
 exact Nat.lt_of_le_of_lt (by omega) h
def FQ.l (f:FQ):WI:=⟨f.q.v-1,zi6 f.q1⟩
noncomputable def fqP (f:FQ):PV:=.ag [.b (decide (f.p.v<0)),D f.p.v.natAbs,.b (decide (f.l.v<0)),D f.l.v.natAbs]
@[go_sem] theorem zrH (M:PM) (d:Nat) (f:FQ):fz M (d+1+1) (fqP f)=some (fqP f,[]):=_root_.id rfl
@[go_sem] theorem zmZ (f:FQ):(fqP f).cells=[.b (decide (f.p.v<0)),D f.p.v.natAbs,.b (decide (f.l.v<0)),D f.l.v.natAbs]:=_root_.id rfl
@[go_sem] theorem zp1 (f:FQ):PV.ag [.b (decide (f.p.v<0)),D f.p.v.natAbs,.b (decide (f.l.v<0)),D f.l.v.natAbs]=fqP f:=_root_.id rfl
theorem zkG (x:WI) (e:Int):pf E0 37 [wiP x,.i .i64 e]=some (wiP x):=by
 refine zab (xf:=zuJ) rfl (by simp[zuJ]) ?_
 simp only[zuJ]
 simp(disch:=omega)only[go_sem,seval,wqq]
theorem zcQ (x g:WI) (h:g.v≠0):∃q:WI,q.v=x.v/g.v∧pf E0 21 [wiP x,wiP g]=some (wiP q):=by
 have fd:=zn1 x g h
 refine⟨x.div g h,rfl,?_⟩
 refine zab (xf:=zuC) rfl (by simp[zuC]) ?_
 simp only[zuC]
 simp(disch:=omega)only[go_sem,seval,wqq,fd]
noncomputable def wi1:WI:=wiOf 1 (by decide)
theorem zoK:wi1.v=1:=rfl
theorem zcp (x y:WI):pf E0 20 [.lst [wiP x,wiP y]]=some (.tu [wiP (clip (x.v*y.v)),.i .i64 (lerr (x.v*y.v))]):=by
 refine zab (xf:=zux) rfl (by simp[zux]) ?_
 simp only[zux]
 have f1:pf E0 34 [.i .i64 1]=some (wiP wi1):=zbk (n:=1) (by decide)
 have m1:pf E0 38 [wiP wi1,wiP x]=some (.tu [wiP x,.i .i64 0]):=by
  have h:=zfI wi1 x
  rw[zoK,Int.one_mul,zdn x.lim,zbz x.lim] at h
  exact h
 have m2:=zfI x y
 generalize wi1=w1 at *
 simp(disch:=omega)only[go_sem,seval,wqq,f1]
 refine zay zus.eq_1 ?_
 simp(disch:=omega)only[go_sem,seval,wqq,m1]
 refine zay zus.eq_1 ?_
 by_cases h:wlen (x.v*y.v).natAbs≤512
 ·have e:=zdn h
  rw[e] at m2 ⊢
  simp(disch:=omega)only[go_sem,seval,wqq,m2]
  refine zay zus.eq_1 ?_
  simp(disch:=omega)only[go_sem,seval,wqq,m2]
 ·have e:=zfA h
  have e2:=zfs h
  rw[e,e2] at m2 ⊢
  simp(disch:=omega)only[go_sem,seval,wqq,m2]
theorem zlk:Nat.gcd wi0.v.natAbs wi1.v.natAbs=1:=by decide
noncomputable def fq0:FQ:=⟨wi0,wi1,by decide,zlk⟩
theorem zll:fqP fq0=.ag [.b false,.lst [],.b false,.lst []]:=by
 have h1:D (0:Int).natAbs=.lst []:=zmI.symm
 show PV.ag [.b (decide ((0:Int)<0)),D (0:Int).natAbs,.b (decide ((1:Int)-1<0)),D ((1:Int)-1).natAbs]=_
 rw[show (1:Int)-1=0 by decide,h1];rfl
theorem zgB (x y:WI) (hy:1≤y.v) (hc:Nat.gcd x.v.natAbs y.v.natAbs=1):pf E0 22 [wiP x,wiP y,.i .i64 0,.i .i64 0]=some (.tu [fqP ⟨x,y,hy,hc⟩,.i .i64 0]):=by
 refine zab (xf:=ztU) rfl (by simp[ztU]) ?_
 simp only[ztU]
 have f1:pf E0 34 [.i .i64 1]=some (wiP wi1):=zbk (n:=1) (by decide)
 have s1:=zn6 y wi1
 rw[zoK] at s1
 have m1:=zkG (clip (y.v-1)) (lerr (y.v-1))
 have cv:=zeS (zi6 hy)
 generalize lerr (y.v-1)=le at *
 generalize wi1=w1 at *
 have hq:fqP ⟨x,y,hy,hc⟩=.ag [.b (decide (x.v<0)),D x.v.natAbs,.b (decide ((clip (y.v-1)).v<0)),D (clip (y.v-1)).v.natAbs]:=by rw[cv];rfl
 rw[hq]
 generalize clip (y.v-1)=z at *
 simp(disch:=omega)only[go_sem,seval,wqq]
 refine zaP [4,5] rfl (by simp only[go_sem,seval]) ?_
 simp(disch:=omega)only[go_sem,seval,wqq,f1,s1,m1,zaz,zah]
theorem zik (x y:WI) {e f:Int} (h:e≠0∨f≠0):pf E0 22 [wiP x,wiP y,.i .i64 e,.i .i64 f]=some (.tu [fqP fq0,.i .i64 4]):=by
 refine zab (xf:=ztU) rfl (by simp[ztU]) ?_
 simp only[ztU]
 rw[zll]
 by_cases he:e=0
 ·have hf:(f=0)=False:=by simp;rcases h with h|h<;>first|exact h|exact absurd he h
  have he:(e=0)=True:=by simp[he]
  simp(disch:=omega)only[go_sem,seval,wqq,he,hf]
 ·have he:(e=0)=False:=by simp[he]
  simp(disch:=omega)only[go_sem,seval,wqq,he]
theorem zif (x y g:WI) (hg:g.v=gI x.v y.v) (hy:0<y.v):∃f:FQ,f.p.v=lowP x.v y.v∧f.q.v=lowQ x.v y.v∧∃a b:WI,pf E0 21 [wiP x,wiP g]=some (wiP a)∧pf E0 21 [wiP y,wiP g]=some (wiP b)∧pf E0 22 [wiP a,wiP b,.i .i64 0,.i .i64 0]=some (.tu [fqP f,.i .i64 0]):=by
 have gn:g.v≠0:=by rw[hg];exact zg7 (by omega)
 obtain⟨a,ha,fa⟩:=zcQ x g gn
 obtain⟨b,hb,fb⟩:=zcQ y g gn
 have e1:a.v=lowP x.v y.v:=by rw[ha,hg];unfold lowP;rw[if_neg (by omega)]
 have e2:b.v=lowQ x.v y.v:=by rw[hb,hg];unfold lowQ;rw[if_neg (by omega)]
 have hq:1≤b.v:=by rw[e2];exact zfE (by omega)
 have hc:Nat.gcd a.v.natAbs b.v.natAbs=1:=by rw[e1,e2];exact zfD (by omega)
 exact⟨⟨a,b,hq,hc⟩,e1,e2,a,b,fa,fb,zgB a b hq hc⟩
theorem zha (p q:Int) (h:q<0):lowP (-p) (-q)=lowP p q∧lowQ (-p) (-q)=lowQ p q:=by
 have h2:¬ -q<0:=by omega
 unfold lowP lowQ
 rw[znp]
 simp only[h,h2,if_true,if_false,and_self]
theorem zkC (x y:WI) (h:y.v≠0):∃f:FQ,f.p.v=lowP x.v y.v∧f.q.v=lowQ x.v y.v∧pf E0 24 [wiP x,wiP y]=some (.tu [fqP f,.i .i64 0]):=by
 by_cases hn:y.v<0
 ·have hg:=zhd x.neg y.neg
  obtain⟨f,h1,h2,a,b,fa,fb,fl⟩:=zif x.neg y.neg (x.neg.gcd y.neg) rfl (by show 0 < -y.v;omega)
  obtain⟨l1,l2⟩:=zha x.v y.v hn
  refine⟨f,h1.trans l1,h2.trans l2,?_⟩
  generalize x.neg.gcd y.neg=g at *
  refine zab (xf:=zt5) rfl (by simp[zt5]) ?_
  simp only[zt5]
  have sy:=zd0 y
  have sc:cmpI y.v 0 = -1:=by unfold cmpI;rw[if_pos hn]
  rw[sc] at sy
  have n1:=zjP x
  have n2:=zjP y
  generalize x.neg=xn at *
  generalize y.neg=yn at *
  simp(disch:=omega)only[go_sem,seval,wqq,sy]
  refine zaP [3] rfl (by simp only[go_sem,seval]) ?_
  simp(disch:=omega)only[go_sem,seval,wqq,n1,n2,hg]
  refine zaP [3,6] rfl (by simp only[go_sem,seval]) ?_
  simp(disch:=omega)only[go_sem,seval,wqq,fa,fb,fl]
 ·have hg:=zhd x y
  obtain⟨f,h1,h2,a,b,fa,fb,fl⟩:=zif x y (x.gcd y) rfl (by omega)
  refine⟨f,h1,h2,?_⟩
  generalize x.gcd y=g at *
  refine zab (xf:=zt5) rfl (by simp[zt5]) ?_
  simp only[zt5]
  have sy:=zd0 y
  have sc:cmpI y.v 0=1:=by unfold cmpI;rw[if_neg hn,if_pos (by omega)]
  rw[sc] at sy
  simp(disch:=omega)only[go_sem,seval,wqq,sy,hg]
  refine zaP [3,6] rfl (by simp only[go_sem,seval]) ?_
  simp(disch:=omega)only[go_sem,seval,wqq,fa,fb,fl]
end Go.Eng
namespace Go.Eng
theorem zn8 (f:FQ):pf E0 64 [fqP f]=some (wiP f.p):=by
 refine zab (xf:=ztM) rfl (by simp[ztM]) ?_
 simp only[ztM]
 simp(disch:=omega)only[go_sem,seval,wqq]
theorem zd2 (f:FQ):pf E0 19 [fqP f]=some (wiP f.q):=by
 refine zab (xf:=ztN) rfl (by simp[ztN]) ?_
 simp only[ztN]
 have f1:pf E0 34 [.i .i64 1]=some (wiP wi1):=zbk (n:=1) (by decide)
 have s1:=zid f.l wi1
 have e:f.l.v+wi1.v=f.q.v:=by show f.q.v-1+1=f.q.v;omega
 have hc:clip f.q.v=f.q:=zbz f.q.lim
 rw[e,hc] at s1
 have m1:=zkG f.q (lerr f.q.v)
 generalize lerr f.q.v=le at *
 generalize wi1=w1 at *
 simp(disch:=omega)only[go_sem,seval,wqq]
 refine zbX [3] rfl ?_ ?_
 ·simp(disch:=omega)only[go_sem,seval,wqq,f1,s1,m1]
  exact⟨_,rfl,rfl⟩
 simp(disch:=omega)only[go_sem,seval,wqq,f1,s1,m1]
theorem zn9 {p q:Int} (hp:Fits64 p) (hq:Fits64 q) (h:q≠0):∃f:FQ,f.p.v=lowP p q∧f.q.v=lowQ p q∧pf E0 17 [.i .i64 p,.i .i64 q]=some (.tu [fqP f,.i .i64 0]):=by
 obtain⟨x,hx,fx⟩:=zhK hp
 obtain⟨y,hy,fy⟩:=zhK hq
 obtain⟨f,h1,h2,fm⟩:=zkC x y (by rw[hy];exact h)
 rw[hx,hy] at h1 h2
 refine⟨f,h1,h2,?_⟩
 refine zab (xf:=zvd) rfl (by simp[zvd]) ?_
 simp only[zvd]
 simp(disch:=omega)only[go_sem,seval,wqq,fx,fy,fm]
theorem zln (x y:WI):(x.gcd y).v=gI x.v y.v:=rfl
@[go_sem] theorem zqa (x y:WI):group 2 2 [.b (decide (x.v<0)),Dw (wlen x.v.natAbs) x.v.natAbs,.b (decide (y.v<0)),Dw (wlen y.v.natAbs) y.v.natAbs]=[wiP x,wiP y]:=_root_.id rfl
theorem zih (a b:FQ) {g s t cx cy cs cd:WI} {ex ey es ed:Int} (hg:pf E0 18 [wiP a.q,wiP b.q]=some (wiP g)) (fs:pf E0 21 [wiP b.q,wiP g]=some (wiP s)) (ft:pf E0 21 [wiP a.q,wiP g]=some (wiP t))
  (nx:pf E0 20 [.lst [wiP a.p,wiP s]]=some (.tu [wiP cx,.i .i64 ex])) (ny:pf E0 20 [.lst [wiP b.p,wiP t]]=some (.tu [wiP cy,.i .i64 ey])) (ns:pf E0 23 [wiP cx,wiP cy]=some (.tu [wiP cs,.i .i64 es]))
  (nd:pf E0 20 [.lst [wiP t,wiP b.q]]=some (.tu [wiP cd,.i .i64 ed])) (f:FQ) (e:Int)
  (hR:(ex=0∧ey=0∧es=0∧ed=0∧pf E0 24 [wiP cs,wiP cd]=some (.tu [fqP f,.i .i64 e]))∨(¬(ex=0∧ey=0∧es=0∧ed=0)∧f=fq0∧e=4)) :
  pf E0 9 [fqP a,fqP b]=some (.tu [fqP f,.i .i64 e]):=by
 have da:=zd2 a
 have db:=zd2 b
 refine zab (xf:=zu2) rfl (by simp[zu2]) ?_
 simp only[zu2]
 simp(disch:=omega)only[go_sem,seval,wqq]
 refine zaP [3] rfl (by simp only[go_sem,seval]) ?_
 simp(disch:=omega)only[go_sem,seval,wqq,da,db,hg]
 refine zbX [21,6] rfl ?_ ?_
 ·simp(disch:=omega)only[go_sem,seval,wqq,db,fs,nx,zaz,zah]
  exact⟨_,rfl,rfl⟩
 simp(disch:=omega)only[go_sem,seval,wqq,db,fs,nx,zaz,zah]
 refine zbX [32,6] rfl ?_ ?_
 ·simp(disch:=omega)only[go_sem,seval,wqq,da,ft,ny,zaz,zah]
  exact⟨_,rfl,rfl⟩
 simp(disch:=omega)only[go_sem,seval,wqq,da,ft,ny,ns,zaz,zah]
 refine zaP [6,3] rfl (by simp only[go_sem,seval]) ?_
 rcases hR with⟨h1,h2,h3,h4,hM⟩|⟨hn,hf,he⟩
 ·subst h1 h2 h3 h4
  simp(disch:=omega)only[go_sem,seval,wqq,da,db,ft,nd,hM,zaz,zah]
 ·subst hf he
  rw[zll]
  by_cases h1:ex=0
  ·by_cases h2:ey=0
   ·by_cases h3:es=0
    ·have h4:(ed=0)=False:=by simp;exact fun q=>hn ⟨h1,h2,h3,q⟩
     subst h1 h2 h3
     simp(disch:=omega)only[go_sem,seval,wqq,da,db,ft,nd,h4,zaz,zah]
    ·have h3:(es=0)=False:=by simp[h3]
     subst h1 h2
     simp(disch:=omega)only[go_sem,seval,wqq,da,db,ft,nd,h3,zaz,zah]
   ·have h2:(ey=0)=False:=by simp[h2]
    subst h1
    simp(disch:=omega)only[go_sem,seval,wqq,da,db,ft,nd,h2,zaz,zah]
  ·have h1:(ex=0)=False:=by simp[h1]
   simp(disch:=omega)only[go_sem,seval,wqq,da,db,ft,nd,h1,zaz,zah]
def adX (a b:FQ):Int:=a.p.v*(b.q.v/gI a.q.v b.q.v)
def adY (a b:FQ):Int:=b.p.v*(a.q.v/gI a.q.v b.q.v)
def adD (a b:FQ):Int:=a.q.v/gI a.q.v b.q.v*b.q.v
def adOk (a b:FQ):Prop:=inR (adX a b).natAbs∧inR (adY a b).natAbs∧inR (adX a b+adY a b).natAbs∧inR (adD a b).natAbs
theorem zkh (a b:FQ):adD a b≠0:=by
 have ha:=a.q1
 have hb:=b.q1
 have h1:a.q.v/gI a.q.v b.q.v*gI a.q.v b.q.v=a.q.v:=Int.ediv_mul_cancel (zbN _ _)
 have h2:a.q.v/gI a.q.v b.q.v≠0:=fun q=>by rw[q] at h1;omega
 exact Int.mul_ne_zero h2 (by omega)
theorem zdm {z:Int} (h:inR z.natAbs):(clip z).v=z∧lerr z=0:=⟨zeS ((zbm _).2 h),zdn ((zbm _).2 h)⟩
theorem zfz {z:Int} (h:lerr z=0):inR z.natAbs:=by
 by_cases q:wlen z.natAbs≤512
 ·exact(zbm _).1 q
 ·rw[zfA q] at h;cases h
theorem zkE (a b:FQ):(adOk a b→∃f:FQ,f.p.v=lowP (adX a b+adY a b) (adD a b)∧f.q.v=lowQ (adX a b+adY a b) (adD a b)∧pf E0 9 [fqP a,fqP b]=some (.tu [fqP f,.i .i64 0])) ∧
  (¬adOk a b→pf E0 9 [fqP a,fqP b]=some (.tu [fqP fq0,.i .i64 4])):=by
 have hg:=zhd a.q b.q
 have gv:=zln a.q b.q
 have gn:(a.q.gcd b.q).v≠0:=by rw[gv];exact zg7 (by have:=b.q1;omega)
 obtain⟨s,hs,fs⟩:=zcQ b.q (a.q.gcd b.q) gn
 obtain⟨t,ht,ft⟩:=zcQ a.q (a.q.gcd b.q) gn
 rw[gv] at hs ht
 have nx:=zcp a.p s
 have ny:=zcp b.p t
 have nd:=zcp t b.q
 have eX:a.p.v*s.v=adX a b:=by rw[hs];rfl
 have eY:b.p.v*t.v=adY a b:=by rw[ht];rfl
 have eD:t.v*b.q.v=adD a b:=by rw[ht];rfl
 rw[eX] at nx
 rw[eY] at ny
 rw[eD] at nd
 have ns:=zid (clip (adX a b)) (clip (adY a b))
 constructor
 ·rintro⟨r1,r2,r3,r4⟩
  obtain⟨c1,l1⟩:=zdm r1
  obtain⟨c2,l2⟩:=zdm r2
  obtain⟨c3,l3⟩:=zdm r3
  obtain⟨c4,l4⟩:=zdm r4
  rw[c1,c2] at ns
  obtain⟨f,h1,h2,fm⟩:=zkC (clip (adX a b+adY a b)) (clip (adD a b)) (by rw[c4];exact zkh a b)
  rw[c3,c4] at h1 h2
  exact⟨f,h1,h2,zih a b hg fs ft nx ny ns nd f 0 (.inl ⟨l1,l2,l3,l4,fm⟩)⟩
 ·intro hn
  refine zih a b hg fs ft nx ny ns nd fq0 4 (.inr ⟨fun ⟨l1,l2,l3,l4⟩=>hn ?_,rfl,rfl⟩)
  have r1:=zfz l1
  have r2:=zfz l2
  rw[(zdm r1).1,(zdm r2).1] at l3
  exact⟨r1,r2,zfz l3,zfz l4⟩
end Go.Eng
namespace Go.Eng
def FQ.neg (f:FQ):FQ:=⟨f.p.neg,f.q,f.q1,by show Nat.gcd (-f.p.v).natAbs f.q.v.natAbs=1;rw[Int.natAbs_neg];exact f.cop⟩
theorem zii (a b:FQ) {g h u v w z cp cq:WI} {ep eq:Int} (f:FQ) (e:Int) (hg:pf E0 18 [wiP a.p,wiP b.q]=some (wiP g)) (hh:pf E0 18 [wiP b.p,wiP a.q]=some (wiP h))
  (fu:pf E0 21 [wiP a.p,wiP g]=some (wiP u)) (fv:pf E0 21 [wiP b.p,wiP h]=some (wiP v)) (n1:pf E0 20 [.lst [wiP u,wiP v]]=some (.tu [wiP cp,.i .i64 ep]))
  (fw:pf E0 21 [wiP a.q,wiP h]=some (wiP w)) (fz':pf E0 21 [wiP b.q,wiP g]=some (wiP z)) (n2:pf E0 20 [.lst [wiP w,wiP z]]=some (.tu [wiP cq,.i .i64 eq]))
  (fl:pf E0 22 [wiP cp,wiP cq,.i .i64 ep,.i .i64 eq]=some (.tu [fqP f,.i .i64 e])):pf E0 8 [fqP a,fqP b]=some (.tu [fqP f,.i .i64 e]):=by
 have da:=zd2 a
 have db:=zd2 b
 refine zab (xf:=zu0) rfl (by simp[zu0]) ?_
 simp only[zu0]
 simp(disch:=omega)only[go_sem,seval,wqq]
 refine zbX [12,17,2] rfl ?_ ?_
 ·simp(disch:=omega)only[go_sem,seval,wqq,da,db,hg,hh]
  exact⟨_,rfl,rfl⟩
 simp(disch:=omega)only[go_sem,seval,wqq,da,db,hg,hh]
 refine zbX [27,7] rfl ?_ ?_
 ·simp(disch:=omega)only[go_sem,seval,wqq,fu,fv,n1,zaz,zah]
  exact⟨_,rfl,rfl⟩
 simp(disch:=omega)only[go_sem,seval,wqq,fu,fv,n1,zaz,zah]
 refine zaP [7,3,6] rfl (by simp only[go_sem,seval]) ?_
 simp(disch:=omega)only[go_sem,seval,wqq,da,db,fw,fz',n2,fl,zaz,zah]
end Go.Eng
