/- The engine and the contracts on which the statement stands: no conditions of its own. -/
import Derived.Test.YthjpijjeidddoaaGreatDoorMine2
import Derived.Below
import Derived.Shelf.Strings.Repeat
import Derived.Shelf.Strings.Builder1
import Derived.Shelf.Strings.SlTrimAscii
import Derived.Shelf.Strings.Search2
import Derived.Shelf.Strconv.Atoi
import Derived.Shelf.Strconv.Itoa3
import Derived.Lib.AppendIntMem
import Derived.Lib.SmallJoins
import Derived.Lib.Case
import Derived.Lib.Join
import Derived.BigCall
import Derived.BigGuard
import Derived.KernelRfl
import Derived.Lib.LaidTab
import Derived.ProofKit
import Derived.OpenShut
set_option linter.unusedSimpArgs false
set_option linter.unusedVariables false
set_option linter.unusedSectionVars false
namespace Go.Eng
theorem zhH {x y:Nat} (hx:x<18446744073709551616) (hy:y<18446744073709551616):binP .or (.i .u64 (x:Int)) (.i .u64 (y:Int))=some (.i .u64 ((x ||| y:Nat):Int)):=by
 have h:(BitVec.ofInt 64 (x:Int) ||| BitVec.ofInt 64 (y:Int)).toNat=x ||| y:=by
  rw[BitVec.toNat_or,BitVec.ofInt_natCast,BitVec.ofInt_natCast,BitVec.toNat_ofNat,BitVec.toNat_ofNat,Nat.mod_eq_of_lt (by omega),Nat.mod_eq_of_lt (by omega)]
 have hlt:x ||| y<2^64:=Nat.or_lt_two_pow (by omega) (by omega)
 have h2:binP .or (.i .u64 (x:Int)) (.i .u64 (y:Int))=some (.i .u64 (IntKind.wrap .u64 (((BitVec.ofInt 64 (x:Int) ||| BitVec.ofInt 64 (y:Int)).toNat:Nat):Int))):=rfl
 rw[h2,h,wqb (by omega) (by omega)]
theorem zdL {h y:Nat} (hh:h<4294967296) (hy:y<4294967296):binP .or (.i .u64 ((h*4294967296:Nat):Int)) (.i .u64 (y:Int))=some (.i .u64 ((h*4294967296+y:Nat):Int)):=by
 rw[zhH (by omega) (by omega)]
 have:=Nat.two_pow_add_eq_or_of_lt (i:=32) (b:=y) (by omega) h
 rw[show (2:Nat)^32=4294967296 by decide] at this
 rw[Nat.mul_comm h,←this]
theorem zkZ {h y:Nat} (hh:h<4294967296) (hy:y<4294967296):binP .or (.i .u64 (y:Int)) (.i .u64 ((h*4294967296:Nat):Int))=some (.i .u64 ((h*4294967296+y:Nat):Int)):=by
 rw[zhH (by omega) (by omega)]
 have:=Nat.two_pow_add_eq_or_of_lt (i:=32) (b:=y) (by omega) h
 rw[show (2:Nat)^32=4294967296 by decide] at this
 rw[Nat.or_comm,Nat.mul_comm h,←this]
theorem zk0 {y:Nat} (hy:y<18446744073709551616):binP .or (.i .u64 0) (.i .u64 (y:Int))=some (.i .u64 (y:Int)):=by
 have:=zhH (x:=0) (y:=y) (by omega) hy
 rwa [Nat.zero_or] at this
theorem zji {n m a b:Nat} (ha:a<4294967296^n) (hb:b<4294967296^m) (hn:n<536870912) (hm:m<536870912):pf E0 59 [Dw n a,Dw m b]=some (Dw (n+m) (a*b)):=by
 by_cases h0:n+m=0
 ·obtain rfl:n=0:=by omega
  obtain rfl:m=0:=by omega
  refine zad (xf:=ztu) rfl (by simp[ztu]) ?_
  simp only[ztu]
  simp(disch:=omega)only[go_sem,seval,wqq,Int.natCast_zero,Int.add_zero,zdZ,Int.reduceLE,Int.reduceToNat,zfk]
  refine zdw ?_
  simp only[zur]
  simp(disch:=omega)only[go_sem,seval,wqq,Int.lt_irrefl]
  rfl
 ·exact zln ha hb hn hm h0
theorem zmM {a b:Nat}:a*b<4294967296^(wlen a+wlen b):=by
 rw[Nat.pow_add]
 exact Nat.mul_lt_mul'' (zag a) (zag b)
theorem zhO (x y:WI):pf E0 38 [wiP x,wiP y]=some (.tu [wiP (clip (x.v*y.v)),.i .i64 (lerr (x.v*y.v))]):=by
 refine zad (xf:=zux) rfl (by simp[zux]) ?_
 simp only[zux]
 have lx:=x.lim
 have ly:=y.lim
 have ht:=zji (zag x.v.natAbs) (zag y.v.natAbs) (by omega) (by omega)
 have hs:=zaD (decide (x.v<0) != decide (y.v<0)) _ _ (zmM (a:=x.v.natAbs) (b:=y.v.natAbs)) (by omega)
 have e1:(if (decide (x.v<0) != decide (y.v<0))=true then-((x.v.natAbs*y.v.natAbs:Nat):Int) else ((x.v.natAbs*y.v.natAbs:Nat):Int))=x.v*y.v:=by
  rw[←Int.natAbs_mul]
  by_cases hx:x.v<0<;>by_cases hy:y.v<0
  ·have:=Int.mul_pos_of_neg_of_neg hx hy
   simp[hx,hy];omega
  ·have:=Int.mul_nonpos_of_nonpos_of_nonneg (show x.v≤0 by omega) (show 0≤y.v by omega)
   simp[hx,hy];omega
  ·have:=Int.mul_nonpos_of_nonneg_of_nonpos (show 0≤x.v by omega) (show y.v≤0 by omega)
   simp[hx,hy];omega
  ·have:=Int.mul_nonneg (show 0≤x.v by omega) (show 0≤y.v by omega)
   simp[hx,hy];omega
 have e2:lerr ((x.v.natAbs*y.v.natAbs:Nat):Int)=lerr (x.v*y.v):=by
  unfold lerr
  rw[Int.natAbs_mul,Int.natAbs_natCast]
 rw[e1,e2] at hs
 simp only[go_sem,seval]
 refine zbZ rfl ?_
 have hb:(!(decide (x.v<0)==decide (y.v<0)))=(decide (x.v<0) != decide (y.v<0)):=rfl
 simp only[go_sem,seval,ht,hb,hs]
attribute [go_sem] zhO
theorem ziL (a w i:Nat) (hw0:0<w) (hi:i≠0):(a/4294967296^i%w*4294967296+dgt a (i-1))%w=a/4294967296^(i-1)%w∧(a/4294967296^i%w*4294967296+dgt a (i-1))/w=dgt (a/w) (i-1):=by
 have hd:=zau a (i-1)
 have e1:a/4294967296^(i-1)=a/4294967296^i*4294967296+dgt a (i-1):=by
  rw[zah,show (4294967296:Nat)^i=4294967296^(i-1)*4294967296 by rw[←Nat.pow_succ];congr 1;omega,←Nat.div_div_eq_div_mul]
  have:=Nat.div_add_mod (a/4294967296^(i-1)) 4294967296
  omega
 have e2:=Nat.div_add_mod (a/4294967296^i) w
 have hr:a/4294967296^i%w<w:=Nat.mod_lt _ hw0
 generalize a/4294967296^i%w=r at *
 have e3:a/4294967296^(i-1)=(r*4294967296+dgt a (i-1))+w*(4294967296*(a/4294967296^i/w)):=by rw[e1];grind
 constructor
 ·rw[e3,Nat.add_mul_mod_self_left]
 ·rw[zah (a/w),Nat.div_div_eq_div_mul,Nat.mul_comm w,←Nat.div_div_eq_div_mul,e3,Nat.add_mul_div_left _ _ hw0,Nat.add_mul_mod_self_left]
  rw[Nat.mod_eq_of_lt]
  refine Nat.div_lt_of_lt_mul ?_
  have:(r+1)*4294967296≤w*4294967296:=Nat.mul_le_mul_right _ hr
  omega
theorem zgb {E:PEnv} (hE:E.prog 48=some (.fn ztI)) {n a w:Nat} (ha:a<4294967296^n) (hw:w<4294967296) (hw0:w≠0) (hn:n<1073741824) (hO:E.ovr 48 [Dw n a,(PV.i .u32 ((w:Nat):Int))]=none:=by rfl):pf E 48 [Dw n a,(PV.i .u32 ((w:Nat):Int))]=some (.tu [Dw n (a/w),(PV.i .u32 ((a%w:Nat):Int))]):=by
 refine zad (xf:=ztI) hE (by simp[ztI]) ?_ hO
 simp only[ztI]
 have hmw:a%w<w:=Nat.mod_lt _ (by omega)
 by_cases hn0:n=0
 ·subst hn0
  have ha0:a=0:=by simpa using ha
  subst ha0
  simp(disch:=omega)only[go_sem,seval,wqq,Int.natCast_zero,Int.add_zero,zdZ,Int.reduceLE,Int.reduceToNat,zfk,Int.zero_sub,Int.reduceNeg]
  refine zdw ?_
  simp only[zuq]
  simp(disch:=omega)only[go_sem,seval,wqq,Int.lt_irrefl,Int.reduceNeg,Int.reduceLE]
  rw[Nat.zero_div,Nat.zero_mod];rfl
 ·simp(disch:=omega)only[go_sem,seval,wqq,zcP]
  refine zas zuq.eq_1 (fun(i:Nat) fr M=>i≤n∧fr 0=Dw n a∧fr 1=(PV.i .u32 ((w:Nat):Int))∧fr 6=.sl 0 0 n n 1∧fr 8=.i .i64 ((i:Int)-1)∧fr 7=.i .u64 ((a/4294967296^i%w:Nat):Int) ∧
   ∃e:Nat,M=[some ⟨tab n fun k=>(PV.i .u32 ((if i≤k then dgt (a/w) k else 0:Nat):Int)),true,e⟩]) (fun i=>i) ?_ n ⟨Nat.le_refl _,by simp only[go_sem,seval],by simp only[go_sem,seval],by simp only[go_sem,seval],by simp only[go_sem,seval],?_,0,?_⟩
  ·rintro i fr M ⟨hi,h0,h1,h6,h8,h7,e,rfl⟩ ih
   by_cases hi0:i=0
   ·subst hi0
    simp only[Nat.pow_zero,Nat.div_one,Nat.zero_le,if_true] at h7 ⊢
    simp(disch:=omega)only[go_sem,seval,wqq,h6,h7,h8,Int.natCast_zero,Int.zero_sub,Int.reduceNeg,Int.reduceLE]
    rw[if_neg hn0];rfl
   ·have hc0:((0:Int)≤(i:Int)-1)=True:=by simp;omega
    have i1:((i:Int)-1)=((i-1:Nat):Int):=by omega
    have hr:a/4294967296^i%w<w:=Nat.mod_lt _ (by omega)
    have hd:=zau a (i-1)
    have hd2:=zau (a/w) (i-1)
    have hin:i-1<n:=by omega
    obtain⟨k1,k2⟩:=ziL a w i (by omega) hi0
    have hr2:a/4294967296^(i-1)%w<w:=Nat.mod_lt _ (by omega)
    simp(disch:=omega)only[go_sem,seval,wqq,h0,h1,h6,h7,h8,hc0,i1,zaG,Int.reduceToNat,Nat.reducePow,zdL,zc0,zeg,zaA,hin,k1,k2]
    have i2:(((i-1:Nat):Int)-1)=((i:Int)-1)-1:=by omega
    refine ih (i-1) _ _ (by omega) ⟨by omega,by simp only[go_sem,seval,h0],by simp only[go_sem,seval,h1],by simp only[go_sem,seval,h6],by simp only[go_sem,seval],by simp only[go_sem,seval],e+1,?_⟩
    congr 3
    refine zak fun k hk=>?_
    by_cases hki:k=i-1
    ·subst hki
     rw[if_pos rfl,if_pos (Nat.le_refl _)]
    ·rw[if_neg hki]
     congr 2
     by_cases h:i≤k
     ·rw[if_pos h,if_pos (by omega)]
     ·rw[if_neg h,if_neg (by omega)]
  ·rw[Nat.div_eq_of_lt ha,Nat.zero_mod];simp only[go_sem,seval];try rfl
  ·rw[zcJ]
   congr 3
   refine zak fun k hk=>?_
   rw[if_neg (by omega)];rfl
theorem zlm {n a w:Nat} (ha:a<4294967296^n) (hw:w<4294967296) (hw0:w≠0) (hn:n<1073741824):pf E0 48 [Dw n a,(PV.i .u32 ((w:Nat):Int))]=some (.tu [Dw n (a/w),(PV.i .u32 ((a%w:Nat):Int))]):=zgb rfl ha hw hw0 hn
theorem zb6 {v n:Nat} (h:v<4294967296^n):wlen v≤n:=zaM.2 h
theorem zfA {n:Int} (h:Fits64 n):wlen n.natAbs≤512:=by
 obtain⟨h1,h2⟩:=h
 have:wlen n.natAbs≤2:=zb6 (by omega)
 omega
def wiOf (n:Int) (h:Fits64 n):WI:=⟨n,zfA h⟩
theorem zdP {n:Int} (h:Fits64 n):pf E0 34 [.i .i64 n]=some (wiP (wiOf n h)):=by
 refine zad (xf:=zud) rfl (by simp[zud]) ?_
 simp only[zud]
 obtain⟨h1,h2⟩:=h
 have hlt:n.natAbs<4294967296^2:=by omega
 have hs:=zaD (decide (n<0)) 2 n.natAbs hlt (by omega)
 have hw:wlen n.natAbs≤512:=by have:=zb6 hlt;omega
 rw[zdl (by simpa using hw)] at hs
 have e1:(if decide (n<0)=true then-((n.natAbs:Nat):Int) else ((n.natAbs:Nat):Int))=n:=by
  by_cases hn:n<0<;>simp[hn]<;>omega
 rw[e1,zbA hw] at hs
 have hD:Dw 2 n.natAbs=.lst [(PV.i .u32 ((n.natAbs%4294967296:Nat):Int)),(PV.i .u32 ((n.natAbs/4294967296:Nat):Int))]:=by
  have e:tab 2 (fun k=>(PV.i .u32 ((dgt n.natAbs k:Nat):Int)))=[(PV.i .u32 ((dgt n.natAbs 0:Nat):Int)),(PV.i .u32 ((dgt n.natAbs 1:Nat):Int))]:=rfl
  have:n.natAbs/4294967296^1%4294967296=n.natAbs/4294967296:=by rw[Nat.pow_one];exact Nat.mod_eq_of_lt (by omega)
  rw[Dw,e,zah,zah,this,Nat.pow_zero,Nat.div_one]
 rw[hD] at hs
 by_cases hn:n<0
 ·have u1:IntKind.wrap .u64 (0-IntKind.wrap .u64 n)=(n.natAbs:Int):=by rw[zbI,zbI];omega
  have hd:decide (n<0)=true:=by simp[hn]
  rw[hd] at hs
  simp(disch:=omega)only[go_sem,seval,wqq,hn,u1,za2,Int.reduceToNat,Nat.reducePow,group,hs,List.headD_cons]
  simp only[zdv,wiOf,hd]
 ·have u1:IntKind.wrap .u64 n=(n.natAbs:Int):=by rw[zbI];omega
  have hd:decide (n<0)=false:=by simp;omega
  rw[hd] at hs
  simp(disch:=omega)only[go_sem,seval,wqq,hn,u1,za2,Int.reduceToNat,Nat.reducePow,group,hs,List.headD_cons]
  simp only[zdv,wiOf,hd]
def isSmall (z:Int):Bool:=decide (-9223372036854775808≤z∧z≤9223372036854775807)
def small (z:Int):Int:=if isSmall z then z else 0
theorem zek (x:WI):pf E0 80 [wiP x]=some (.tu [.i .i64 (small x.v),.b (isSmall x.v)]):=by
 refine zad (xf:=zte) rfl (by simp[zte]) ?_
 simp only[zte]
 have lx:=x.lim
 simp only[go_sem,seval]
 refine zas ztA.eq_1 (fun(i:Nat) fr M=>i≤wlen x.v.natAbs∧i≤2∧fr 9=D x.v.natAbs∧fr 10=.i .i64 (wlen x.v.natAbs:Int)∧fr 11=.i .i64 (i:Int)∧fr 1=.p 0 0∧fr 4=.i .u64 ((x.v.natAbs%4294967296^i:Nat):Int) ∧
  M=[some ⟨[.b (decide (x.v<0)),D x.v.natAbs],true,0⟩]) (fun i=>3-i) ?_ 0 ⟨Nat.zero_le _,by omega,by simp only[go_sem,seval],by simp only[go_sem,seval],by simp only[go_sem,seval];try rfl,by simp only[go_sem,seval],by simp only[go_sem,seval];try simp[Nat.mod_one],rfl⟩
 rintro i fr M ⟨hi,hi2,h9,h10,h11,h1,h4,rfl⟩ ih
 by_cases hin:i<wlen x.v.natAbs
 ·have hc0:((i:Int)<(wlen x.v.natAbs:Int))=True:=by simp;omega
  by_cases hi1:1<i
  ·have hc1:((1:Int)<(i:Int))=True:=by simp;omega
   have hbig:isSmall x.v=false:=by
    have:=zev (v:=x.v.natAbs) (by intro q;rw[q] at hin;simp[wlen] at hin)
    have h2:4294967296^2≤x.v.natAbs:=Nat.le_trans (Nat.pow_le_pow_right (by decide) (by omega)) this
    unfold isSmall
    simp;omega
   simp(disch:=omega)only[go_sem,seval,wqq,h9,h10,h11,hc0,hc1,zaG]
   rw[hbig];unfold small;rw[hbig];rfl
  ·have hc1:((1:Int)<(i:Int))=False:=by simp;omega
   have i1:((i:Int)+1)=((i+1:Nat):Int):=by omega
   have hd:=zau x.v.natAbs i
   have hm:=zay x.v.natAbs i
   rcases (show i=0∨i=1 by omega) with rfl|rfl
   ·have hc0:((0:Int)<(wlen x.v.natAbs:Int))=True:=by simp;omega
    simp(disch:=omega)only[go_sem,seval,wqq,h9,h10,h11,h4,hc0,zaG,Int.natCast_zero,Int.reduceAdd,Int.reduceLT,Int.mul_zero,Int.reduceToNat,Nat.pow_zero,Nat.mod_one,zk0]
    exact ih 1 _ _ (by omega) ⟨by omega,by omega,by simp only[go_sem,seval,h9],by simp only[go_sem,seval,h10],by simp only[go_sem,seval];try rfl,by simp only[go_sem,seval,h1],by simp only[go_sem,seval];first|rw[ze7,Nat.pow_one]|rw[ze7],rfl⟩
   ·have hlt:x.v.natAbs%4294967296<4294967296:=Nat.mod_lt _ (by decide)
    have h4':fr 4=.i .u64 ((x.v.natAbs%4294967296:Nat):Int):=by rw[h4,Nat.pow_one]
    have hc0:((1:Int)<(wlen x.v.natAbs:Int))=True:=by simp;omega
    simp(disch:=omega)only[go_sem,seval,wqq,h9,h10,h11,h4',hc0,zaG,Int.natCast_one,Int.reduceAdd,Int.reduceLT,Int.mul_one,Int.reduceToNat,Nat.reducePow,zkZ]
    exact ih 2 _ _ (by omega) ⟨by omega,by omega,by simp only[go_sem,seval,h9],by simp only[go_sem,seval,h10],by simp only[go_sem,seval];try rfl,by simp only[go_sem,seval,h1],by simp only[go_sem,seval];first|rw[zay,Nat.pow_one,Nat.mul_comm,Nat.add_comm]|rw[show (18446744073709551616:Nat)=4294967296^(1+1) from rfl,zay,Nat.pow_one,Nat.mul_comm,Nat.add_comm],rfl⟩
 ·have hc0:((i:Int)<(wlen x.v.natAbs:Int))=False:=by simp;omega
  obtain rfl:i=wlen x.v.natAbs:=by omega
  have hm:x.v.natAbs%4294967296^wlen x.v.natAbs=x.v.natAbs:=Nat.mod_eq_of_lt (zag _)
  have h64:x.v.natAbs<4294967296^2:=Nat.lt_of_lt_of_le (zag _) (Nat.pow_le_pow_right (by decide) hi2)
  rw[hm] at h4
  generalize hn:x.v.natAbs=N at *
  by_cases hx:x.v<0
  ·have u1:IntKind.wrap .i64 (0-IntKind.wrap .i64 (N:Int))=if N≤9223372036854775808 then-(N:Int) else 18446744073709551616-(N:Int):=by
    simp only[IntKind.wrap,IntKind.signed,IntKind.bits,Bool.true_and,decide_eq_true_eq,ge_iff_le]
    split<;>split<;>split<;>omega
   have hN:((N:Int)=0)=False:=by simp;omega
   by_cases hs:N≤9223372036854775808
   ·rw[if_pos hs] at u1
    have hneg:(-(N:Int)<0)=True:=by simp;omega
    have hv:x.v = -(N:Int):=by omega
    have his:isSmall x.v=true:=by unfold isSmall;simp;omega
    simp(disch:=omega)only[go_sem,seval,wqq,h1,h4,h10,h11,hc0,hx,u1,hN,hneg]
    unfold small;rw[his,if_pos rfl,hv]
   ·rw[if_neg hs] at u1
    have hneg:(18446744073709551616-(N:Int)<0)=False:=by simp;omega
    have his:isSmall x.v=false:=by unfold isSmall;simp;omega
    simp(disch:=omega)only[go_sem,seval,wqq,h1,h4,h10,h11,hc0,hx,u1,hN,hneg]
    unfold small;rw[his];rfl
  ·have hv:x.v=(N:Int):=by omega
   by_cases hs:N≤9223372036854775807
   ·have u1:IntKind.wrap .i64 (N:Int)=(N:Int):=wqa (by omega) (by omega)
    have his:isSmall x.v=true:=by unfold isSmall;simp;omega
    by_cases hN0:N=0
    ·subst hN0
     simp(disch:=omega)only[go_sem,seval,wqq,h1,h4,h10,h11,hc0,hx,u1,Int.natCast_zero]
     unfold small;rw[his,if_pos rfl,hv];rfl
    ·have hN:((N:Int)=0)=False:=by simp;omega
     have hneg:((N:Int)<0)=False:=by simp
     simp(disch:=omega)only[go_sem,seval,wqq,h1,h4,h10,h11,hc0,hx,u1,hN,hneg]
     unfold small;rw[his,if_pos rfl,hv]
   ·have hN:((N:Int)=0)=False:=by simp;omega
    have u1:IntKind.wrap .i64 (N:Int)=(N:Int)-18446744073709551616:=by
     simp only[IntKind.wrap,IntKind.signed,IntKind.bits,Bool.true_and,decide_eq_true_eq,ge_iff_le]
     split<;>omega
    have hneg:((N:Int)-18446744073709551616<0)=True:=by simp;omega
    have his:isSmall x.v=false:=by unfold isSmall;simp;omega
    simp(disch:=omega)only[go_sem,seval,wqq,h1,h4,h10,h11,hc0,hx,u1,hN,hneg]
    unfold small;rw[his];rfl
attribute [go_sem] zek
end Go.Eng
namespace Go.Eng
def len8 (j:Nat):Nat:=if j=0 then 0 else Nat.log2 j+1
set_option maxRecDepth 20000 in
theorem zeX:∀j:Fin 256,(xs_1d3e63[j.val]?).map UInt8.toNat=some (len8 j.val):=by decide+kernel
theorem zeb {j:Nat} (h:j<256):len8 j≤8:=by
 unfold len8
 split
 ·omega
 ·have:Nat.log2 j<8:=(Nat.log2_lt (by omega)).2 (by omega)
  omega
theorem ziZ {j:Nat} (h:j<256):istrP (.s xs_1d3e63) (some j)=some (.i .u8 (len8 j:Int)):=by
 have:=zeX ⟨j,h⟩
 rw[zkH]
 simp only[Option.map_eq_some_iff] at this ⊢
 obtain⟨c,h1,h2⟩:=this
 exact⟨c,h1,by rw[h2]⟩
theorem zdK {x s:Nat} (h:2^s≤x):Nat.log2 x=Nat.log2 (x/2^s)+s:=by
 induction s generalizing x with
 | zero=>simp
 | succ s ih =>
  have h2:2≤x:=Nat.le_trans (by rw[Nat.pow_succ];have:=Nat.pow_pos (n:=s) (show 0<2 by decide);omega) h
  rw[Nat.log2_def,if_pos h2,ih (x:=x/2) (by rw[Nat.le_div_iff_mul_le (by decide),←Nat.pow_succ];exact h),Nat.div_div_eq_div_mul,show 2*2^s=2^(s+1) by rw[Nat.pow_succ,Nat.mul_comm]]
  omega
theorem zkK {x:Nat} (h:65536≤x):Nat.log2 x=Nat.log2 (x/65536)+16:=zdK (s:=16) h
theorem zjW {x:Nat} (h:256≤x):Nat.log2 x=Nat.log2 (x/256)+8:=zdK (s:=8) h
def bits32 (x:Nat):Nat:=if x=0 then 0 else Nat.log2 x+1
theorem zk6 (x:Nat) (hx:x<4294967296):pf E0 76 [(PV.i .u32 ((x:Nat):Int))]=some (.i .i64 (bits32 x:Int)):=by
 refine zad (xf:=ztw) rfl (by simp[ztw]) ?_
 simp only[ztw]
 have shr:∀(y:Nat) (s:Int),0≤s→s≤32→binP .shr (.i .u32 (y:Int)) (.i .u64 s)=some (.i .u32 ((y/2^s.toNat:Nat):Int)):=fun y s h1 h2=>by
  rw[zc6 _ _ _ _ h1,show min s.toNat (IntKind.bits .u32)=s.toNat by simp only[IntKind.bits];omega,show ((2:Int)^s.toNat)=((2^s.toNat:Nat):Int) by simp,zeJ]
 have hfold:=fun(j:Nat) (h:j<256)=>ziZ h
 have hb:∀y:Nat,y≠0→len8 y=Nat.log2 y+1:=fun y h=>by unfold len8;rw[if_neg h]
 have b0:bits32 x=len8 x:=rfl
 by_cases h1:65536≤x
 ·have c1:((65536:Int)≤(x:Int))=True:=by simp;omega
  have l1:=zkK h1
  by_cases h2:256≤x/65536
  ·have c2:((256:Int)≤((x/65536:Nat):Int))=True:=by simp;omega
   have l2:=zjW h2
   have l3:=zeb (j:=x/65536/256) (by omega)
   have l4:=hb (x/65536/256) (by omega)
   have l5:=hb x (by omega)
   simp(disch:=omega)only[go_sem,seval,wqq,c1,c2,shr,hfold]
   rw[b0];congr 2;omega
  ·have c2:((256:Int)≤((x/65536:Nat):Int))=False:=by simp;omega
   have l3:=zeb (j:=x/65536) (by omega)
   have l4:=hb (x/65536) (by omega)
   have l5:=hb x (by omega)
   simp(disch:=omega)only[go_sem,seval,wqq,c1,c2,shr,hfold]
   rw[b0];congr 2;omega
 ·have c1:((65536:Int)≤(x:Int))=False:=by simp;omega
  by_cases h2:256≤x
  ·have c2:((256:Int)≤(x:Int))=True:=by simp;omega
   have l2:=zjW h2
   have l3:=zeb (j:=x/256) (by omega)
   have l4:=hb (x/256) (by omega)
   have l5:=hb x (by omega)
   simp(disch:=omega)only[go_sem,seval,wqq,c1,c2,shr,hfold]
   rw[b0];congr 2;omega
  ·have c2:((256:Int)≤(x:Int))=False:=by simp;omega
   have l3:=zeb (j:=x) (by omega)
   simp(disch:=omega)only[go_sem,seval,wqq,c1,c2,shr,hfold]
   rw[b0];congr 2;omega
theorem zex {x:Nat} (h:x<4294967296):bits32 x≤32:=by
 unfold bits32
 split
 ·omega
 ·have:Nat.log2 x<32:=(Nat.log2_lt (by omega)).2 (by omega)
  omega
theorem zna (x:Nat) (hx:x<4294967296):pf E0 55 [(PV.i .u32 ((x:Nat):Int))]=some (.i .i64 ((32-bits32 x:Nat):Int)):=by
 refine zad (xf:=ztj) rfl (by simp[ztj]) ?_
 simp only[ztj]
 have:=zex hx
 simp(disch:=omega)only[go_sem,seval,wqq,zk6]
 congr 2;omega
theorem zkJ {x:Nat} (hx:x<4294967296) (h0:x≠0):2147483648≤x*2^(32-bits32 x)∧x*2^(32-bits32 x)<4294967296∧32-bits32 x<32:=by
 have hb:=zex hx
 have h1:2^Nat.log2 x≤x:=Nat.log2_self_le h0
 have h2:x<2^(Nat.log2 x+1):=Nat.lt_log2_self
 unfold bits32 at *
 rw[if_neg h0] at *
 refine⟨?_,?_,by omega⟩
 ·have:2^Nat.log2 x*2^(32-(Nat.log2 x+1))≤x*2^(32-(Nat.log2 x+1)):=Nat.mul_le_mul_right _ h1
  rw[←Nat.pow_add,show Nat.log2 x+(32-(Nat.log2 x+1))=31 by omega] at this
  omega
 ·have:x*2^(32-(Nat.log2 x+1))<2^(Nat.log2 x+1)*2^(32-(Nat.log2 x+1)):=Nat.mul_lt_mul_of_pos_right h2 (Nat.pow_pos (by decide))
  rw[←Nat.pow_add,show Nat.log2 x+1+(32-(Nat.log2 x+1))=32 by omega] at this
  omega
theorem zbm (M:PM) (b:Option PB):PM.blk (M++[b]) M.length=b:=by
 unfold PM.blk;cases b<;>simp
theorem zes (M:PM) (b c:Option PB):(M++[b]).set M.length c=M++[c]:=by simp[List.set_append]
theorem ziC {x y:Nat} (hx:x<4294967296) (hy:y<4294967296):binP .or (.i .u32 (x:Int)) (.i .u32 (y:Int))=some (.i .u32 ((x ||| y:Nat):Int)):=by
 have h:(BitVec.ofInt 32 (x:Int) ||| BitVec.ofInt 32 (y:Int)).toNat=x ||| y:=by
  rw[BitVec.toNat_or,BitVec.ofInt_natCast,BitVec.ofInt_natCast,BitVec.toNat_ofNat,BitVec.toNat_ofNat,Nat.mod_eq_of_lt (by omega),Nat.mod_eq_of_lt (by omega)]
 have hlt:x ||| y<2^32:=Nat.or_lt_two_pow (by omega) (by omega)
 have h2:binP .or (.i .u32 (x:Int)) (.i .u32 (y:Int))=some (.i .u32 (IntKind.wrap .u32 (((BitVec.ofInt 32 (x:Int) ||| BitVec.ofInt 32 (y:Int)).toNat:Nat):Int))):=rfl
 rw[h2,h,wqc (by omega) (by omega)]
theorem zgQ {x by_ c:Nat} (hb:by_<32) (hx:x<4294967296) (hc:c<2^by_):c ||| x*2^by_%4294967296=(c+x*2^by_)%4294967296∧(c+x*2^by_)/4294967296=x*2^by_/4294967296∧x*2^by_/4294967296<2^by_:=by
 have e:(4294967296:Nat)=2^by_*2^(32-by_):=by rw[←Nat.pow_add,show by_+(32-by_)=32 by omega]
 have hp:0<2^by_:=Nat.pow_pos (by decide)
 have h1:x*2^by_%4294967296=2^by_*(x%2^(32-by_)):=by rw[e,Nat.mul_comm x,Nat.mul_mod_mul_left]
 have h2:x*2^by_/4294967296=x/2^(32-by_):=by rw[e,Nat.mul_comm x,Nat.mul_div_mul_left _ _ hp]
 have h3:x%2^(32-by_)<2^(32-by_):=Nat.mod_lt _ (Nat.pow_pos (by decide))
 have h4:2^by_*(x%2^(32-by_)+1)≤2^by_*2^(32-by_):=Nat.mul_le_mul_left _ h3
 rw[←e,Nat.mul_add] at h4
 have h5:=Nat.div_add_mod (x*2^by_) 4294967296
 rw[h1] at h5
 refine⟨?_,?_,?_⟩
 ·rw[h1,Nat.or_comm,←Nat.two_pow_add_eq_or_of_lt hc]
  omega
 ·omega
 ·rw[h2,Nat.div_lt_iff_lt_mul (Nat.pow_pos (by decide)),←e];exact hx
theorem zeT {F:PFin} {ks:List KI} {n a by_ e0:Nat} (M0:PM) (hn:n<1073741824) (hb:by_<32) (ha:a<4294967296^n) {fr:PFr} {M:PM} (h1:fr 1=.i .i64 (by_:Int)) (h5:fr 5=.sl M0.length 0 (n+1) (n+1) 1) (h13:fr 13=Dw n a) (h14:fr 14=.i .i64 (n:Int)) (h15:fr 15=.i .i64 0)
  (hM:M=M0++[some ⟨List.replicate (n+1) (.i .u32 0),true,e0⟩])
  (cont:∀fr' e,fr' 5=.sl M0.length 0 (n+1) (n+1) 1→UK E0 F (.exit 0) ks fr' (M0++[some ⟨tab (n+1) (fun k=>(PV.i .u32 ((dgt (a*2^by_) k:Nat):Int))),true,e⟩])):WK E0 F (.loop zt8) ks fr M:=by
 refine zas zt8.eq_1 (fun(i:Nat) fr M=>i≤n∧fr 1=.i .i64 (by_:Int)∧fr 5=.sl M0.length 0 (n+1) (n+1) 1∧fr 13=Dw n a∧fr 14=.i .i64 (n:Int)∧fr 15=.i .i64 (i:Int) ∧
  ∃c e:Nat,M=M0++[some ⟨tab (n+1) fun k=>(PV.i .u32 ((if k<i then dgt (a*2^by_) k else if k=i then c else 0:Nat):Int)),true,e⟩]∧c<2^by_∧a%4294967296^i*2^by_=(a*2^by_)%4294967296^i+4294967296^i*c)
  (fun i=>n-i) ?_ 0 ⟨Nat.zero_le _,h1,h5,h13,h14,h15,0,e0,?_,Nat.pow_pos (by decide),by simp[Nat.mod_one]⟩
 ·rintro i fr M ⟨hi,h1,h5,h13,h14,h15,c,e,rfl,hc,hinv⟩ ih
  by_cases hin:i<n
  ·have hc0:((i:Int)<(n:Int))=True:=by simp;omega
   have i1:((i:Int)+1)=((i+1:Nat):Int):=by omega
   have hd:=zau a i
   have hin1:i<n+1:=by omega
   have hin2:i+1<n+1:=by omega
   have hp32:2^by_<4294967296:=by
    have:=Nat.pow_lt_pow_right (show 1<2 by decide) hb
    omega
   have hv:dgt a i*2^by_<18446744073709551616:=by
    have:=Nat.mul_lt_mul'' hd hp32
    omega
   have hsh:binP .shl (.i .u64 (dgt a i:Int)) (.i .i64 (by_:Int))=some (.i .u64 ((dgt a i*2^by_:Nat):Int)):=by
    rw[ze0 _ _ _ (by omega) (by omega),Int.toNat_natCast,wqb (by omega) (by omega)]
   obtain⟨w1,w2,w3⟩:=zgQ hb hd hc
   have hget:(tab (n+1) fun k=>(PV.i .u32 ((if k<i then dgt (a*2^by_) k else if k=i then c else 0:Nat):Int)))[i]?=some (PV.i .u32 ((c:Nat):Int)):=by rw[zaW hin1,if_neg (by omega),if_pos rfl]
   simp(disch:=omega)only[go_sem,seval,wqq,h1,h5,h13,h14,h15,hc0,i1,zaG,hsh,hin1,hin2,zbm,zes,zaA,hget,za2,ziC,w1]
   obtain⟨k1,k2⟩:=ze3 (P:=4294967296^i) (T:=a%4294967296^i*2^by_) (s:=a*2^by_) (c:=c) (d:=dgt a i*2^by_) (r:=a/(4294967296^i*4294967296)*2^by_) (zbq i) hinv (by
    have:=zbM a i
    generalize a/(4294967296^i*4294967296)=q at *
    generalize a%4294967296^i=r at *
    generalize 4294967296^i=p at *
    generalize dgt a i=d at *
    generalize 2^by_=t at *
    subst this
    grind)
   refine ih (i+1) _ _ (by omega) ⟨by omega,by simp only[go_sem,seval,h1],by simp only[go_sem,seval,h5],by simp only[go_sem,seval,h13],by simp only[go_sem,seval,h14],by simp only[go_sem,seval],dgt a i*2^by_/4294967296,e+1+1,?_,w3,?_⟩
   ·congr 4
    refine zak fun k hk=>?_
    by_cases h1:k=i+1
    ·subst h1
     rw[if_pos rfl,if_neg (by omega),if_pos rfl]
    ·rw[if_neg h1]
     by_cases h2:k=i
     ·subst h2
      rw[if_pos rfl,if_pos (by omega)]
      congr 2;rw[zah (a*2^by_)];exact k1.symm
     ·rw[if_neg h2]
      congr 2
      by_cases h3:k<i
      ·rw[if_pos h3,if_pos (by omega)]
      ·rw[if_neg h3,if_neg (by omega),if_neg (by omega),if_neg (by omega)]
   ·rw[←w2,Nat.pow_succ,←k2,←Nat.pow_succ,zay]
    grind
  ·have hc0:((i:Int)<(n:Int))=False:=by simp;omega
   obtain rfl:i=n:=by omega
   simp only[go_sem,seval,h14,h15,hc0]
   rw[Nat.mod_eq_of_lt ha] at hinv
   have hcd:c=dgt (a*2^by_) i:=by
    have h1:=Nat.div_add_mod (a*2^by_) (4294967296^i)
    have h2:(a*2^by_)/4294967296^i=c:=Nat.eq_of_mul_eq_mul_left (zbq i) (by omega)
    rw[zah,h2,Nat.mod_eq_of_lt]
    have:=Nat.pow_lt_pow_right (show 1<2 by decide) hb
    omega
   have ht:(tab (i+1) fun k=>(PV.i .u32 ((if k<i then dgt (a*2^by_) k else if k=i then c else 0:Nat):Int)))=tab (i+1) fun k=>(PV.i .u32 ((dgt (a*2^by_) k:Nat):Int)):=zak fun k hk=>by
    by_cases h:k<i
    ·rw[if_pos h]
    ·rw[if_neg h,if_pos (by omega),hcd,show k=i by omega]
   rw[ht]
   exact cont _ e (by simp only[go_sem,seval,h5])
 ·rw[hM,zcJ]
  congr 4
  refine zak fun k hk=>?_
  by_cases h:k=0
  ·rw[if_neg (by omega),if_pos h];rfl
  ·rw[if_neg (by omega),if_neg h];rfl
theorem zeO {n a by_:Nat} (M:PM) (hn:n<1073741824) (hb:by_<32) (ha:a<4294967296^n):∃e,pcl E0 56 [Dw n a,.i .i64 (by_:Int)] M=some (.sl M.length 0 (n+1) (n+1) 1,M++[some ⟨tab (n+1) (fun k=>(PV.i .u32 ((dgt (a*2^by_) k:Nat):Int))),true,e⟩]):=by
 have key:∃v M',pcl E0 56 [Dw n a,.i .i64 (by_:Int)] M=some (v,M')∧v=.sl M.length 0 (n+1) (n+1) 1∧∃e,M'=M++[some ⟨tab (n+1) (fun k=>(PV.i .u32 ((dgt (a*2^by_) k:Nat):Int))),true,e⟩]:=by
  refine zcG (xf:=ztL) rfl rfl (by simp[ztL]) ?_
  simp only[ztL]
  have n1:((n:Int)+1)=((n+1:Nat):Int):=by omega
  simp(disch:=omega)only[go_sem,seval,wqq,n1,zcP]
  refine zeT M hn hb ha (by simp only[go_sem,seval]) (by simp only[go_sem,seval]) (by simp only[go_sem,seval]) (by simp only[go_sem,seval]) (by simp only[go_sem,seval]) rfl fun fr' e g5=>?_
  simp only[go_sem,seval,g5]
  exact⟨e,rfl⟩
 obtain⟨v,M',h,rfl,e,rfl⟩:=key
 exact⟨e,h⟩
end Go.Eng
namespace Go.Eng
theorem zbr {x:Int} (h:0≤x):binP .shr (.i .u64 x) (.i .u64 63)=some (.i .u64 (x/9223372036854775808)):=by
 rw[zc6 _ _ _ _ (by omega),show min (63:Int).toNat (IntKind.bits .u64)=63 by decide,Int.fdiv_eq_ediv_of_nonneg _ (by omega)]
 rfl
theorem zfI {L X j k:Nat} (hL:L<4294967296^j):dgt (L+4294967296^j*X) k=if j≤k then dgt X (k-j) else dgt L k:=by
 split
 ·rename_i h
  rw[zah,zah,show (4294967296:Nat)^k=4294967296^j*4294967296^(k-j) by rw[←Nat.pow_add];congr 1;omega,←Nat.div_div_eq_div_mul,Nat.add_mul_div_left _ _ (zbq j),Nat.div_eq_of_lt hL,Nat.zero_add]
 ·rename_i h
  rw[zah,zah,show (4294967296:Nat)^j=4294967296^k*(4294967296*4294967296^(j-k-1)) by rw[←Nat.pow_succ',←Nat.pow_add];congr 1;omega,Nat.mul_assoc,Nat.add_mul_div_left _ _ (zbq k),Nat.mul_assoc,Nat.add_mul_mod_self_left]
theorem za4 {U j i:Nat}:dgt U (j+i)=dgt (U/4294967296^j) i:=by
 rw[zah,zah,Nat.pow_add,←Nat.div_div_eq_div_mul]
theorem zkq {U j k:Nat} (h:k<j):dgt (U%4294967296^j) k=dgt U k:=by
 have:=zfI (L:=U%4294967296^j) (X:=U/4294967296^j) (j:=j) (k:=k) (Nat.mod_lt _ (zbq j))
 rw[Nat.mod_add_div,if_neg (by omega)] at this
 exact this.symm
theorem zg4 {X n i b:Nat} (h:i<n):dgt (X+4294967296^n*b) i=dgt X i:=by
 rw[zah,zah,show (4294967296:Nat)^n=4294967296^i*(4294967296*4294967296^(n-i-1)) by rw[←Nat.pow_succ',←Nat.pow_add];congr 1;omega,Nat.mul_assoc,Nat.add_mul_div_left _ _ (zbq i),Nat.mul_assoc,Nat.add_mul_mod_self_left]
set_option maxHeartbeats 2000000 in
theorem zin {F:PFin} {ks:List KI} {n N U v q j X' bo e0 cap cv:Nat} {b1:Nat} {rest:PM} (hn:n<1073741824) (hj:j+(n+1)≤N) (hN:N<1073741824) (hv:v<4294967296^n) (hq:q<4294967296) (hbo:bo≤1)
  (hX:U/4294967296^j+4294967296^(n+1)*bo=X'+q*v) {fr:PFr} {M:PM} (h0:fr 0=.sl 0 j (n+1) cap 1) (h1:fr 1=.sl 1 0 n cv 1) (h2:fr 2=.i .u64 (q:Int)) (h7:fr 7=.i .u64 0) (h8:fr 8=.i .u64 0) (h13:fr 13=.i .i64 ((n+1:Nat):Int)) (h14:fr 14=.i .i64 0)
  (hM:M=some ⟨tab N fun k=>(PV.i .u32 ((dgt U k:Nat):Int)),true,e0⟩::some ⟨tab (n+1) fun k=>(PV.i .u32 ((dgt v k:Nat):Int)),true,b1⟩::rest)
  (cont:∀fr' e (c:Nat),fr' 8=.i .u64 (c:Int)→c≤1→X'%4294967296^(n+1)+(q*v)%4294967296^(n+1)=(U/4294967296^j+4294967296^(n+1)*bo)%4294967296^(n+1)+4294967296^(n+1)*c →
   UK E0 F (.exit 0) ks fr' (some ⟨tab N fun k=>(PV.i .u32 ((if j≤k∧k<j+(n+1) then dgt X' (k-j) else dgt U k:Nat):Int)),true,e⟩::some ⟨tab (n+1) fun k=>(PV.i .u32 ((dgt v k:Nat):Int)),true,b1⟩::rest)):WK E0 F (.loop zt7) ks fr M:=by
 refine zas zt7.eq_1 (fun(i:Nat) fr M=>i≤n+1∧fr 0=.sl 0 j (n+1) cap 1∧fr 1=.sl 1 0 n cv 1∧fr 2=.i .u64 (q:Int)∧fr 13=.i .i64 ((n+1:Nat):Int)∧fr 14=.i .i64 (i:Int) ∧
  ∃cy c e:Nat,fr 7=.i .u64 (cy:Int)∧fr 8=.i .u64 (c:Int)∧M=some ⟨tab N fun k=>(PV.i .u32 ((if j≤k∧k<j+i then dgt X' (k-j) else dgt U k:Nat):Int)),true,e⟩::some ⟨tab (n+1) fun k=>(PV.i .u32 ((dgt v k:Nat):Int)),true,b1⟩::rest∧cy<4294967296∧c≤1 ∧
   q*(v%4294967296^i)=(q*v)%4294967296^i+4294967296^i*cy∧X'%4294967296^i+(q*v)%4294967296^i=(U/4294967296^j+4294967296^(n+1)*bo)%4294967296^i+4294967296^i*c)
  (fun i=>n+1-i) ?_ 0 ⟨Nat.zero_le _,h0,h1,h2,h13,h14,0,0,e0,h7,h8,?_,by decide,by decide,by simp[Nat.mod_one],by simp[Nat.mod_one]⟩
 ·rintro i fr M ⟨hi,h0,h1,h2,h13,h14,cy,c,e,h7,h8,rfl,hcy,hc,hinv1,hinv2⟩ ih
  by_cases hin:i<n+1
  ·have hc0:((i:Int)<((n+1:Nat):Int))=True:=by simp;omega
   have i1:((i:Int)+1)=((i+1:Nat):Int):=by omega
   have hdv:=zau v i
   have hdx:=zau X' i
   have hdu:=zau U (j+i)
   have hdA:dgt (U/4294967296^j+4294967296^(n+1)*bo) i=dgt U (j+i):=by rw[zg4 hin,za4]
   have hji:j+i<N:=by omega
   have hget:(tab N fun k=>(PV.i .u32 ((if j≤k∧k<j+i then dgt X' (k-j) else dgt U k:Nat):Int)))[j+i]?=some (PV.i .u32 ((dgt U (j+i):Nat):Int)):=by rw[zaW hji,if_neg (by omega)]
   have hmul:q*dgt v i≤4294967295*4294967295:=Nat.mul_le_mul (by omega) (by omega)
   obtain⟨k1,k2⟩:=ze3 (P:=4294967296^i) (T:=q*(v%4294967296^i)) (s:=q*v) (c:=cy) (d:=q*dgt v i) (r:=q*(v/(4294967296^i*4294967296))) (zbq i) hinv1 (by
    have:=zbM v i
    generalize v/(4294967296^i*4294967296)=z at *
    generalize v%4294967296^i=r at *
    generalize 4294967296^i=p at *
    generalize dgt v i=d at *
    subst this
    grind)
   have k1':dgt (q*v) i=(cy+q*dgt v i)%4294967296:=by rw[zah (q*v)];exact k1
   obtain⟨k3,k4⟩:=ze3 (P:=4294967296^i) (T:=X'%4294967296^i+(q*v)%4294967296^i) (s:=U/4294967296^j+4294967296^(n+1)*bo) (c:=c) (d:=dgt X' i+dgt (q*v) i) (r:=X'/(4294967296^i*4294967296)+q*v/(4294967296^i*4294967296)) (zbq i) hinv2 (by
    rw[hX]
    have h1:=zbM X' i
    have h2:=zbM (q*v) i
    rw[Nat.mul_add,Nat.mul_add];omega)
   rw[←zah,hdA,k1'] at k3
   have fin:∀(t:Int) fr',t=(dgt X' i:Int)→fr' 0=.sl 0 j (n+1) cap 1→fr' 1=.sl 1 0 n cv 1→fr' 2=.i .u64 (q:Int)→fr' 13=.i .i64 ((n+1:Nat):Int)→fr' 14=.i .i64 ((i+1:Nat):Int)→fr' 7=.i .u64 (((cy+q*dgt v i)/4294967296:Nat):Int)→fr' 8=.i .u64 (((c+(dgt X' i+(cy+q*dgt v i)%4294967296))/4294967296:Nat):Int) →
     WK E0 F (.loop zt7) ks fr' (some ⟨tab N fun k=>if k=j+i then .i .u32 t else (PV.i .u32 ((if j≤k∧k<j+i then dgt X' (k-j) else dgt U k:Nat):Int)),true,e+1⟩::some ⟨tab (n+1) fun k=>(PV.i .u32 ((dgt v k:Nat):Int)),true,b1⟩::rest):=by
    intro t fr' ht g0 g1 g2 g13 g14 g7 g8
    refine ih (i+1) _ _ (by omega) ⟨by omega,g0,g1,g2,g13,g14,_,_,e+1,g7,g8,?_,by omega,by omega,?_,?_⟩
    ·congr 3
     refine zak fun k hk=>?_
     by_cases hki:k=j+i
     ·subst hki
      rw[if_pos rfl,if_pos (by omega),ht,show j+i-j=i by omega]
     ·rw[if_neg hki]
      congr 2
      by_cases h:j≤k∧k<j+i
      ·rw[if_pos h,if_pos (by omega)]
      ·rw[if_neg h,if_neg (by omega)]
    ·rw[Nat.pow_succ,←k2,←Nat.pow_succ,zay];grind
    ·rw[k1'] at k4
     rw[Nat.pow_succ,←k4,←Nat.pow_succ,zay X',zay (q*v),k1',Nat.mul_add];omega
   have hpl:(cy+q*dgt v i)%4294967296<4294967296:=Nat.mod_lt _ (by decide)
   have p64:cy+q*dgt v i<18446744073709551616:=by omega
   have wneg:∀x:Int,-1≤x→x<0→IntKind.wrap .u64 x=18446744073709551615:=fun x h1 h2=>by rw[zbI];omega
   have wneg2:∀x:Int,-4294967296≤x→x<0→IntKind.wrap .u64 x=18446744073709551616+x:=fun x h1 h2=>by rw[zbI];omega
   by_cases him:i<n
   ·have hc1:((i:Int)<(n:Int))=True:=by simp;omega
    have hgv:(tab (n+1) fun k=>(PV.i .u32 ((dgt v k:Nat):Int)))[i]?=some (PV.i .u32 ((dgt v i:Nat):Int)):=zaW (by omega)
    have hww:((cy:Int)+(q:Int)*(dgt v i:Int))=((cy+q*dgt v i:Nat):Int):=by simp
    have hqq:IntKind.wrap .u64 ((q:Int)*(dgt v i:Int))=(q:Int)*(dgt v i:Int):=by
     have:((q:Int)*(dgt v i:Int))=((q*dgt v i:Nat):Int):=by simp
     rw[this,wqb (by omega) (by omega)]
    generalize hp:cy+q*dgt v i=p at *
    by_cases hle:p%4294967296+c≤dgt U (j+i)
    ·simp(disch:=omega)only[go_sem,seval,wqq,h0,h1,h2,h7,h8,h13,h14,hc0,hc1,i1,hget,hgv,him,hin,hqq,hww,za2,hji,zaA,zbr]
     exact fin _ _ (by omega) (by simp only[go_sem,seval,h0]) (by simp only[go_sem,seval,h1]) (by simp only[go_sem,seval,h2]) (by simp only[go_sem,seval,h13]) (by simp only[go_sem,seval]) (by simp only[go_sem,seval]) (by simp only[go_sem,seval];congr 1;omega)
    ·by_cases hle2:p%4294967296≤dgt U (j+i)
     ·simp(disch:=omega)only[go_sem,seval,wqq,h0,h1,h2,h7,h8,h13,h14,hc0,hc1,i1,hget,hgv,him,hin,hqq,hww,za2,hji,zaA,zbr,wneg,zdy]
      exact fin _ _ (by omega) (by simp only[go_sem,seval,h0]) (by simp only[go_sem,seval,h1]) (by simp only[go_sem,seval,h2]) (by simp only[go_sem,seval,h13]) (by simp only[go_sem,seval]) (by simp only[go_sem,seval]) (by simp only[go_sem,seval];congr 1;omega)
     ·simp(disch:=omega)only[go_sem,seval,wqq,h0,h1,h2,h7,h8,h13,h14,hc0,hc1,i1,hget,hgv,him,hin,hqq,hww,za2,hji,zaA,zbr,wneg2,zdy]
      exact fin _ _ (by omega) (by simp only[go_sem,seval,h0]) (by simp only[go_sem,seval,h1]) (by simp only[go_sem,seval,h2]) (by simp only[go_sem,seval,h13]) (by simp only[go_sem,seval]) (by simp only[go_sem,seval]) (by simp only[go_sem,seval];congr 1;omega)
   ·have hc1:((i:Int)<(n:Int))=False:=by simp;omega
    have hz:dgt v i=0:=zbn hv (by omega)
    simp only[hz,Nat.mul_zero,Nat.add_zero] at fin k3 hpl p64
    by_cases hle:cy%4294967296+c≤dgt U (j+i)
    ·simp(disch:=omega)only[go_sem,seval,wqq,h0,h1,h2,h7,h8,h13,h14,hc0,hc1,i1,hget,hin,za2,hji,zaA,zbr]
     exact fin _ _ (by omega) (by simp only[go_sem,seval,h0]) (by simp only[go_sem,seval,h1]) (by simp only[go_sem,seval,h2]) (by simp only[go_sem,seval,h13]) (by simp only[go_sem,seval]) (by simp only[go_sem,seval]) (by simp only[go_sem,seval];congr 1;omega)
    ·by_cases hle2:cy%4294967296≤dgt U (j+i)
     ·simp(disch:=omega)only[go_sem,seval,wqq,h0,h1,h2,h7,h8,h13,h14,hc0,hc1,i1,hget,hin,za2,hji,zaA,zbr,wneg,zdy]
      exact fin _ _ (by omega) (by simp only[go_sem,seval,h0]) (by simp only[go_sem,seval,h1]) (by simp only[go_sem,seval,h2]) (by simp only[go_sem,seval,h13]) (by simp only[go_sem,seval]) (by simp only[go_sem,seval]) (by simp only[go_sem,seval];congr 1;omega)
     ·simp(disch:=omega)only[go_sem,seval,wqq,h0,h1,h2,h7,h8,h13,h14,hc0,hc1,i1,hget,hin,za2,hji,zaA,zbr,wneg2,zdy]
      exact fin _ _ (by omega) (by simp only[go_sem,seval,h0]) (by simp only[go_sem,seval,h1]) (by simp only[go_sem,seval,h2]) (by simp only[go_sem,seval,h13]) (by simp only[go_sem,seval]) (by simp only[go_sem,seval]) (by simp only[go_sem,seval];congr 1;omega)
  ·have hc0:((i:Int)<((n+1:Nat):Int))=False:=by simp;omega
   obtain rfl:i=n+1:=by omega
   simp only[go_sem,seval,h13,h14,hc0]
   exact cont _ e c (by simp only[go_sem,seval,h8]) hc hinv2
 ·rw[hM]
  congr 3
  refine zak fun k hk=>?_
  rw[if_neg (by omega)]
end Go.Eng
namespace Go.Eng
theorem zfX {N n j U X':Nat} (hU:U<4294967296^(j+(n+1))) (hX:X'<4294967296^(n+1)):(tab N fun k=>(PV.i .u32 ((if j≤k∧k<j+(n+1) then dgt X' (k-j) else dgt U k:Nat):Int)))=tab N fun k=>(PV.i .u32 ((dgt (U%4294967296^j+4294967296^j*X') k:Nat):Int)):=by
 refine zak fun k hk=>?_
 congr 2
 rw[zfI (Nat.mod_lt _ (zbq j))]
 by_cases h1:j≤k
 ·rw[if_pos h1]
  by_cases h2:k<j+(n+1)
  ·rw[if_pos ⟨h1,h2⟩]
  ·rw[if_neg (by omega),zbn hU (by omega),zbn hX (by omega)]
 ·rw[if_neg (by omega),if_neg h1,zkq (by omega)]
theorem zj6 {n N U v q j X' bo e0 cap cv b1:Nat} {rest:PM} (hn:n<1073741824) (hj:j+(n+1)≤N) (hN:N<1073741824) (hv:v<4294967296^n) (hq:q<4294967296) (hbo:bo≤1)
  (hU:U<4294967296^(j+(n+1))) (hX':X'<4294967296^(n+1)) (hX:U/4294967296^j+4294967296^(n+1)*bo=X'+q*v) :
  ∃e,pcl E0 57 [.sl 0 j (n+1) cap 1,.sl 1 0 n cv 1,.i .u64 (q:Int)] (some ⟨tab N fun k=>(PV.i .u32 ((dgt U k:Nat):Int)),true,e0⟩::some ⟨tab (n+1) fun k=>(PV.i .u32 ((dgt v k:Nat):Int)),true,b1⟩::rest) =
   some (.b (decide (bo=1)),some ⟨tab N fun k=>(PV.i .u32 ((dgt (U%4294967296^j+4294967296^j*X') k:Nat):Int)),true,e⟩::some ⟨tab (n+1) fun k=>(PV.i .u32 ((dgt v k:Nat):Int)),true,b1⟩::rest):=by
 have key:∃w M',pcl E0 57 [.sl 0 j (n+1) cap 1,.sl 1 0 n cv 1,.i .u64 (q:Int)] (some ⟨tab N fun k=>(PV.i .u32 ((dgt U k:Nat):Int)),true,e0⟩::some ⟨tab (n+1) fun k=>(PV.i .u32 ((dgt v k:Nat):Int)),true,b1⟩::rest)=some (w,M') ∧
   w=.b (decide (bo=1))∧∃e,M'=some ⟨tab N fun k=>(PV.i .u32 ((dgt (U%4294967296^j+4294967296^j*X') k:Nat):Int)),true,e⟩::some ⟨tab (n+1) fun k=>(PV.i .u32 ((dgt v k:Nat):Int)),true,b1⟩::rest:=by
  refine zcG (xf:=zuj) rfl rfl (by simp[zuj]) ?_
  simp only[zuj]
  simp(disch:=omega)only[go_sem,seval,wqq]
  refine zin (cap:=cap) (cv:=cv) hn hj hN hv hq hbo hX (by simp only[go_sem,seval]) (by simp only[go_sem,seval]) (by simp only[go_sem,seval]) (by simp only[go_sem,seval]) (by simp only[go_sem,seval]) (by simp only[go_sem,seval]) (by simp only[go_sem,seval]) rfl fun fr' e c g8 hc hinv=>?_
  rw[zfX hU hX']
  have hXlt:U/4294967296^j<4294967296^(n+1):=by
   rw[Nat.div_lt_iff_lt_mul (zbq j),←Nat.pow_add,Nat.add_comm (n+1)];exact hU
  have hqv:q*v<4294967296^(n+1):=by
   rw[Nat.pow_succ,Nat.mul_comm]
   exact Nat.mul_lt_mul'' hv hq
  rw[Nat.mod_eq_of_lt hX',Nat.mod_eq_of_lt hqv,Nat.add_mul_mod_self_left,Nat.mod_eq_of_lt hXlt] at hinv
  have hcb:c=bo:=by
   have:=zbq (n+1)
   exact Nat.eq_of_mul_eq_mul_left this (by omega)
  simp only[go_sem,seval,g8]
  refine⟨?_,e,rfl⟩
  congr 1
  exact decide_eq_decide.2 (by omega)
 obtain⟨w,M',h,rfl,e,rfl⟩:=key
 exact⟨e,h⟩
theorem zdQ (b0 b1 b2:Option PB) (Cs:PM) (c v e:Nat) (h:c+v<18446744073709551616) :
  pcl E0 77 [.i .u64 (v:Int),.p (Cs.length+1+1+1) 0] (b0::b1::b2::(Cs++[some ⟨[.i .u64 (c:Int)],true,e⟩]))=some ((PV.i .u32 (((c+v)%4294967296:Nat):Int)),b0::b1::b2::(Cs++[some ⟨[.i .u64 (((c+v)/4294967296:Nat):Int)],true,e+2⟩])):=by
 have hb:PM.blk (b0::b1::b2::(Cs++[some ⟨[.i .u64 (c:Int)],true,e⟩])) (Cs.length+1+1+1)=some ⟨[.i .u64 (c:Int)],true,e⟩:=by
  rw[zd1,zd1,zd1,zbm]
 rw[zcF _ _ c v e hb h]
 congr 2
 rw[List.set_cons_succ,List.set_cons_succ,List.set_cons_succ,zes]
set_option maxHeartbeats 1000000 in
theorem ziA {F:PFin} {ks:List KI} {n N U v j X' X'' e0 cap cv:Nat} {b1:Nat} {b2:Option PB} {Cs:PM} (hn:n<1073741824) (hj:j+(n+1)≤N) (hN:N<1073741824) (hv:v<4294967296^n)
  (hXU:U/4294967296^j=X') (hX:X'+v=X''+4294967296^(n+1)) {O out I:PV} {fr:PFr} {M:PM} (h9:fr 9=.sl 0 0 N cap 1) (h10:fr 10=.sl 1 0 n cv 1) (h11:fr 11=.i .i64 (n:Int)) (h15:fr 15=.i .i64 (j:Int)) (h19:fr 19=.fn 77 [.p (Cs.length+1+1+1) 0]) (h169:fr 169=.i .i64 ((n+1:Nat):Int)) (h170:fr 170=.i .i64 0)
  (h12:fr 12=O) (h13:fr 13=out) (h14:fr 14=I) (S:PV) (h8:fr 8=S)
  (hM:M=some ⟨tab N fun k=>(PV.i .u32 ((dgt U k:Nat):Int)),true,e0⟩::some ⟨tab (n+1) fun k=>(PV.i .u32 ((dgt v k:Nat):Int)),true,b1⟩::b2::(Cs++[some ⟨[.i .u64 0],true,0⟩]))
  (cont:∀fr' e cb,fr' 8=S→fr' 9=.sl 0 0 N cap 1→fr' 10=.sl 1 0 n cv 1→fr' 11=.i .i64 (n:Int)→fr' 12=O→fr' 13=out→fr' 14=I→fr' 15=.i .i64 (j:Int) →
   UK E0 F (.exit 4) ks fr' (some ⟨tab N fun k=>(PV.i .u32 ((if j≤k∧k<j+(n+1) then dgt X'' (k-j) else dgt U k:Nat):Int)),true,e⟩::some ⟨tab (n+1) fun k=>(PV.i .u32 ((dgt v k:Nat):Int)),true,b1⟩::b2::(Cs++[cb]))):WK E0 F (.loop ztN) ks fr M:=by
 refine zas ztN.eq_1 (fun(i:Nat) fr M=>i≤n+1∧fr 9=.sl 0 0 N cap 1∧fr 10=.sl 1 0 n cv 1∧fr 11=.i .i64 (n:Int)∧fr 15=.i .i64 (j:Int)∧fr 19=.fn 77 [.p (Cs.length+1+1+1) 0]∧fr 169=.i .i64 ((n+1:Nat):Int)∧fr 170=.i .i64 (i:Int)∧fr 12=O∧fr 13=out∧fr 14=I∧fr 8=S ∧
  ∃c e e2:Nat,M=some ⟨tab N fun k=>(PV.i .u32 ((if j≤k∧k<j+i then dgt X'' (k-j) else dgt U k:Nat):Int)),true,e⟩::some ⟨tab (n+1) fun k=>(PV.i .u32 ((dgt v k:Nat):Int)),true,b1⟩::b2::(Cs++[some ⟨[.i .u64 (c:Int)],true,e2⟩])∧c≤1∧X'%4294967296^i+v%4294967296^i=(X''+4294967296^(n+1)*1)%4294967296^i+4294967296^i*c)
  (fun i=>n+1-i) ?_ 0 ⟨Nat.zero_le _,h9,h10,h11,h15,h19,h169,h170,h12,h13,h14,h8,0,e0,0,?_,Nat.zero_le _,by simp[Nat.mod_one]⟩
 ·rintro i fr M ⟨hi,h9,h10,h11,h15,h19,h169,h170,h12,h13,h14,h8,c,e,e2,rfl,hc,hinv⟩ ih
  by_cases hin:i<n+1
  ·have hc0:((i:Int)<((n+1:Nat):Int))=True:=by simp;omega
   have i1:((i:Int)+1)=((i+1:Nat):Int):=by omega
   have hji0:((j:Int)+(i:Int))=((j+i:Nat):Int):=by omega
   have da:=zau U (j+i)
   have db:=zau v i
   have hji:j+i<N:=by omega
   have hget:(tab N fun k=>(PV.i .u32 ((if j≤k∧k<j+i then dgt X'' (k-j) else dgt U k:Nat):Int)))[j+i]?=some (PV.i .u32 ((dgt U (j+i):Nat):Int)):=by rw[zaW hji,if_neg (by omega)]
   have hUX:dgt U (j+i)=dgt X' i:=by rw[za4,hXU]
   have fin:∀w fr' e e2,w=dgt U (j+i)+dgt v i→fr' 9=.sl 0 0 N cap 1→fr' 10=.sl 1 0 n cv 1→fr' 11=.i .i64 (n:Int)→fr' 15=.i .i64 (j:Int)→fr' 19=.fn 77 [.p (Cs.length+1+1+1) 0]→fr' 169=.i .i64 ((n+1:Nat):Int)→fr' 170=.i .i64 ((i+1:Nat):Int)→fr' 12=O→fr' 13=out→fr' 14=I→fr' 8=S →
     WK E0 F (.loop ztN) ks fr' (some ⟨tab N fun k=>if k=j+i then (PV.i .u32 (((c+w)%4294967296:Nat):Int)) else (PV.i .u32 ((if j≤k∧k<j+i then dgt X'' (k-j) else dgt U k:Nat):Int)),true,e⟩::some ⟨tab (n+1) fun k=>(PV.i .u32 ((dgt v k:Nat):Int)),true,b1⟩::b2::(Cs++[some ⟨[.i .u64 (((c+w)/4294967296:Nat):Int)],true,e2⟩])):=by
    intro w fr' e e2 hw g9 g10 g11 g15 g19 g169 g170 g12 g13 g14 g8
    subst hw
    rw[hUX]
    have sa:=zbM X' i
    have sb:=zbM v i
    obtain⟨k1,k2⟩:=ze3 (P:=4294967296^i) (T:=X'%4294967296^i+v%4294967296^i) (s:=X''+4294967296^(n+1)*1) (c:=c) (d:=dgt X' i+dgt v i) (r:=X'/(4294967296^i*4294967296)+v/(4294967296^i*4294967296)) (zbq i) hinv (by rw[Nat.mul_add,Nat.mul_add,Nat.mul_one,←hX];omega)
    rw[←zah,zg4 hin] at k1
    have ha:=zau X' i
    refine ih (i+1) fr' _ (by omega) ⟨by omega,g9,g10,g11,g15,g19,g169,g170,g12,g13,g14,g8,(c+(dgt X' i+dgt v i))/4294967296,e,e2,?_,by omega,?_⟩
    ·congr 3
     refine zak fun k hk=>?_
     by_cases hki:k=j+i
     ·subst hki
      rw[if_pos rfl,if_pos (by omega),show j+i-j=i by omega,k1]
     ·rw[if_neg hki]
      congr 2
      by_cases h:j≤k∧k<j+i
      ·rw[if_pos h,if_pos (by omega)]
      ·rw[if_neg h,if_neg (by omega)]
    ·rw[zay,zay v,show (4294967296:Nat)^(i+1)=4294967296^i*4294967296 from Nat.pow_succ ..,←k2,Nat.mul_add];omega
   by_cases him:i<n
   ·have hc1:((i:Int)<(n:Int))=True:=by simp;omega
    have hgv:(tab (n+1) fun k=>(PV.i .u32 ((dgt v k:Nat):Int)))[i]?=some (PV.i .u32 ((dgt v i:Nat):Int)):=zaW (by omega)
    simp(disch:=omega)only[go_sem,seval,wqq,za5,zbD,zbE,zaK,zbd,zco,h9,h10,h11,h15,h19,h169,h170,hc0,hc1,hji0,hget,hgv,him,hji,zdQ,zaA]
    exact fin _ _ _ _ rfl (by simp only[go_sem,seval,h9]) (by simp only[go_sem,seval,h10]) (by simp only[go_sem,seval,h11]) (by simp only[go_sem,seval,h15]) (by simp only[go_sem,seval,h19]) (by simp only[go_sem,seval,h169]) (by simp only[go_sem,seval]) (by simp only[go_sem,seval,h12]) (by simp only[go_sem,seval,h13]) (by simp only[go_sem,seval,h14]) (by simp only[go_sem,seval,h8])
   ·have hc1:((i:Int)<(n:Int))=False:=by simp;omega
    have hz:dgt v i=0:=zbn hv (by omega)
    simp(disch:=omega)only[go_sem,seval,wqq,za5,zbD,zbE,zaK,zbd,zco,h9,h10,h11,h15,h19,h169,h170,hc0,hc1,hji0,hget,hji,zdQ,zaA,Int.add_zero]
    exact fin _ _ _ _ (by omega) (by simp only[go_sem,seval,h9]) (by simp only[go_sem,seval,h10]) (by simp only[go_sem,seval,h11]) (by simp only[go_sem,seval,h15]) (by simp only[go_sem,seval,h19]) (by simp only[go_sem,seval,h169]) (by simp only[go_sem,seval]) (by simp only[go_sem,seval,h12]) (by simp only[go_sem,seval,h13]) (by simp only[go_sem,seval,h14]) (by simp only[go_sem,seval,h8])
  ·have hc0:((i:Int)<((n+1:Nat):Int))=False:=by simp;omega
   obtain rfl:i=n+1:=by omega
   simp only[go_sem,seval,h169,h170,hc0]
   exact cont _ e _ (by simp only[go_sem,seval,h8]) (by simp only[go_sem,seval,h9]) (by simp only[go_sem,seval,h10]) (by simp only[go_sem,seval,h11]) (by simp only[go_sem,seval,h12]) (by simp only[go_sem,seval,h13]) (by simp only[go_sem,seval,h14]) (by simp only[go_sem,seval,h15])
 ·rw[hM]
  congr 3
  refine zak fun k hk=>?_
  rw[if_neg (by omega)]
end Go.Eng
namespace Go.Eng
theorem zlt {n:Nat} (h:1≤n):4294967296^(n-1)*4294967296=4294967296^n:=by rw[←Nat.pow_succ];congr 1;omega
theorem zrF {X n:Nat} (hn:2≤n) (hX:X<4294967296^(n+1)):X/4294967296^(n-2)=(dgt X n*4294967296+dgt X (n-1))*4294967296+dgt X (n-2):=by
 have e1:X/4294967296^(n-2)/4294967296=X/4294967296^(n-1):=by rw[Nat.div_div_eq_div_mul,←Nat.pow_succ];congr 2;omega
 have e2:X/4294967296^(n-1)/4294967296=X/4294967296^n:=by rw[Nat.div_div_eq_div_mul,←Nat.pow_succ];congr 2;omega
 have e3:X/4294967296^n<4294967296:=by rw[Nat.div_lt_iff_lt_mul (zbq n),Nat.mul_comm,←Nat.pow_succ];exact hX
 rw[zah,zah,zah]
 generalize X/4294967296^(n-2)=x0 at *
 generalize X/4294967296^(n-1)=x1 at *
 generalize X/4294967296^n=x2 at *
 omega
theorem zsD {v n:Nat} (hn:2≤n) (hv:v<4294967296^n):v/4294967296^(n-2)=dgt v (n-1)*4294967296+dgt v (n-2):=by
 have e1:v/4294967296^(n-2)/4294967296=v/4294967296^(n-1):=by rw[Nat.div_div_eq_div_mul,←Nat.pow_succ];congr 2;omega
 have e3:v/4294967296^(n-1)<4294967296:=by rw[Nat.div_lt_iff_lt_mul (zbq _),Nat.mul_comm,zlt (by omega)];exact hv
 rw[zah,zah]
 generalize v/4294967296^(n-2)=x0 at *
 generalize v/4294967296^(n-1)=x1 at *
 omega
theorem zms {X v n d:Nat} (hv:0<v) (h:X/4294967296^(n-2)<d*(v/4294967296^(n-2))):X/v<d:=by
 rw[Nat.div_lt_iff_lt_mul hv]
 have h1:=Nat.lt_mul_div_succ X (zbq (n-2))
 have h2:=Nat.div_mul_le_self v (4294967296^(n-2))
 calc X<4294967296^(n-2)*(X/4294967296^(n-2)+1):=h1
  _≤4294967296^(n-2)*(d*(v/4294967296^(n-2))):=Nat.mul_le_mul_left _ h
  _=d*(v/4294967296^(n-2)*4294967296^(n-2)):=by grind
  _≤d*v:=Nat.mul_le_mul_left _ h2
theorem zjS {X v n d:Nat} (hv:0<v) (hd:d<4294967296) (hv2:4294967296≤v/4294967296^(n-2)) (h:d*(v/4294967296^(n-2))≤X/4294967296^(n-2)):d≤X/v+1:=by
 by_cases hc:d≤X/v+1
 ·exact hc
 ·exfalso
  have hd2:2≤d:=by have:=Nat.zero_le (X/v);generalize X/v=z at *;omega
  have h1:X/v<d-1:=by generalize X/v=z at *;omega
  rw[Nat.div_lt_iff_lt_mul hv] at h1
  have h2:=Nat.div_mul_le_self X (4294967296^(n-2))
  have h3:=Nat.lt_mul_div_succ v (zbq (n-2))
  have h4:d*(v/4294967296^(n-2))*4294967296^(n-2)≤X:=Nat.le_trans (Nat.mul_le_mul_right _ h) h2
  have h5:(d-1)*v≤(d-1)*(4294967296^(n-2)*(v/4294967296^(n-2)+1)):=Nat.mul_le_mul_left _ (Nat.le_of_lt h3)
  have h6:d*(v/4294967296^(n-2))*4294967296^(n-2)<(d-1)*(v/4294967296^(n-2)+1)*4294967296^(n-2):=by
   refine Nat.lt_of_le_of_lt h4 (Nat.lt_of_lt_of_le h1 (Nat.le_trans h5 (Nat.le_of_eq ?_)))
   grind
  have h7:d*(v/4294967296^(n-2))<(d-1)*(v/4294967296^(n-2)+1):=Nat.lt_of_mul_lt_mul_right h6
  generalize v/4294967296^(n-2)=w at *
  obtain⟨e,rfl⟩:∃e,d=e+1:=⟨d-1,by omega⟩
  simp only[Nat.add_sub_cancel,Nat.add_mul,Nat.mul_add,Nat.one_mul,Nat.mul_one] at h7
  omega
set_option maxHeartbeats 1000000 in
theorem ziQ {F:PFin} {ks:List KI} {n N U v j d r cap:Nat} {e0:Nat} {rest:PM} (hn2:2≤n) (hn:n<1073741824) (hj:j+(n+1)≤N) (hN:N<1073741824) (hv:v<4294967296^n) (htop:2147483648≤dgt v (n-1))
  (hXv:U/4294967296^j<v*4294967296) {fr:PFr} {M:PM} (P:PFr→Prop) (hP:∀fr:PFr,P fr→∀k x,17≤k→P (fr.put k x)) (hPf:P fr) (h9:∀fr,P fr→fr 9=.sl 0 0 N cap 1) (h11:∀fr,P fr→fr 11=.i .i64 (n:Int)) (h13:∀fr,P fr→fr 13=.i .u64 (dgt v (n-1):Int)) (h14:∀fr,P fr→fr 14=.i .u64 (dgt v (n-2):Int)) (h15:∀fr,P fr→fr 15=.i .i64 (j:Int))
  (h17:fr 17=.i .u64 (d:Int)) (h18:fr 18=.i .u64 (r:Int)) (hr:r<4294967296) (hd:dgt U (j+n)*4294967296+dgt U (j+(n-1))=d*dgt v (n-1)+r) (hqd:U/4294967296^j/v≤d)
  (hM:M=some ⟨tab N fun k=>(PV.i .u32 ((dgt U k:Nat):Int)),true,e0⟩::rest)
  (cont:∀fr' d,P fr'→fr' 17=.i .u64 ((d:Nat):Int)→d<4294967296→U/4294967296^j/v≤d→d≤U/4294967296^j/v+1→UK E0 F (.exit 2) ks fr' M):WK E0 F (.loop ztP) ks fr M:=by
 have hvpos:0<v:=by
  rcases Nat.eq_zero_or_pos v with h|h
  ·rw[h,zcV] at htop;omega
  ·exact h
 have hXlt:U/4294967296^j<4294967296^(n+1):=by
  rw[Nat.pow_succ]
  exact Nat.lt_of_lt_of_le hXv (Nat.mul_le_mul_right _ (Nat.le_of_lt hv))
 have p3:=zrF hn2 hXlt
 have p2:=zsD hn2 hv
 rw[←za4,←za4,←za4] at p3
 have hu2:=zau U (j+(n-2))
 have hu1:=zau U (j+(n-1))
 have hun:=zau U (j+n)
 have hnx:=zau v (n-2)
 have htp:=zau v (n-1)
 have htopX:dgt U (j+n)≤dgt v (n-1):=by
  have h1:U/4294967296^j/4294967296^n≤v/4294967296^(n-1):=by
   have:4294967296^n=4294967296^(n-1)*4294967296:=by rw[←Nat.pow_succ];congr 1;omega
   rw[this,←Nat.div_div_eq_div_mul,Nat.div_div_eq_div_mul,Nat.mul_comm,←Nat.div_div_eq_div_mul]
   exact Nat.div_le_div_right (Nat.div_le_of_le_mul (by omega))
  have h2:U/4294967296^j/4294967296^n<4294967296:=by rw[Nat.div_lt_iff_lt_mul (zbq n),Nat.mul_comm,←Nat.pow_succ];exact hXlt
  have h3:v/4294967296^(n-1)<4294967296:=by rw[Nat.div_lt_iff_lt_mul (zbq _),Nat.mul_comm,zlt (by omega)];exact hv
  rw[za4,zah,zah]
  generalize U/4294967296^j/4294967296^n=x0 at *
  generalize v/4294967296^(n-1)=x1 at *
  omega
 refine zas ztP.eq_1 (fun(d:Nat) fr M'=>P fr∧M'=M∧U/4294967296^j/v≤d∧∃r:Nat,fr 17=.i .u64 (d:Int)∧fr 18=.i .u64 (r:Int)∧r<4294967296∧dgt U (j+n)*4294967296+dgt U (j+(n-1))=d*dgt v (n-1)+r) (fun d=>d) ?_ d ⟨hPf,rfl,hqd,r,h17,h18,hr,hd⟩
 rintro d fr M' ⟨hp,rfl,hqd,r,h17,h18,hr,hd⟩ ih
 have h9:=h9 fr hp
 have h11':=h11 fr hp
 have h13':=h13 fr hp
 have h14':=h14 fr hp
 have h15':=h15 fr hp
 have hdB:d*2147483648≤d*dgt v (n-1):=Nat.mul_le_mul_left _ htop
 have d3:d<12884901888:=by omega
 have less:0<d→U/4294967296^j/v<d→∀fr',P fr'→fr' 17=.i .u64 ((d-1:Nat):Int)→fr' 18=.i .u64 ((r+dgt v (n-1):Nat):Int)→(r+dgt v (n-1)<4294967296→WK E0 F (.loop ztP) ks fr' M')∧(4294967296≤r+dgt v (n-1)→UK E0 F (.exit 2) ks fr' M'):=by
  intro h0 hlt fr' hp' g17 g18
  have e1:d*dgt v (n-1)=(d-1)*dgt v (n-1)+dgt v (n-1):=by
   obtain⟨e,rfl⟩:∃e,d=e+1:=⟨d-1,by omega⟩
   rw[Nat.add_mul,Nat.one_mul,Nat.add_sub_cancel]
  refine⟨fun hlt2=>ih (d-1) fr' _ (by omega) ⟨hp',rfl,by omega,r+dgt v (n-1),g17,g18,hlt2,by omega⟩,fun hge=>?_⟩
  have hd1:(d-1)*dgt v (n-1)<4294967296*dgt v (n-1):=by omega
  have hd2:d-1<4294967296:=Nat.lt_of_mul_lt_mul_right hd1
  refine cont fr' (d-1) hp' g17 hd2 (by omega) (zjS hvpos hd2 (by rw[p2];omega) ?_)
  rw[p2,p3]
  have h1:(d-1)*dgt v (n-2)≤(d-1)*4294967296:=Nat.mul_le_mul_left _ (by omega)
  have h2:(d-1)*(dgt v (n-1)*4294967296+dgt v (n-2))=(d-1)*dgt v (n-1)*4294967296+(d-1)*dgt v (n-2):=by rw[Nat.mul_add,Nat.mul_assoc]
  have h3:(dgt U (j+n)*4294967296+dgt U (j+(n-1)))*4294967296=(d-1)*dgt v (n-1)*4294967296+(r+dgt v (n-1))*4294967296:=by rw[hd,e1];grind
  omega
 have hXB:U/4294967296^j/v<4294967296:=by rw[Nat.div_lt_iff_lt_mul hvpos,Nat.mul_comm];exact hXv
 have pj:((j:Int)+(n:Int))=((j+n:Nat):Int):=by omega
 have pj2:(((j+n:Nat):Int)-2)=((j+(n-2):Nat):Int):=by omega
 have hlt:j+(n-2)<N:=by omega
 have hget:(tab N fun k=>(PV.i .u32 ((dgt U k:Nat):Int)))[j+(n-2)]?=some (PV.i .u32 ((dgt U (j+(n-2)):Nat):Int)):=zaW hlt
 have hblk:PM.blk M' 0=some ⟨tab N fun k=>(PV.i .u32 ((dgt U k:Nat):Int)),true,e0⟩:=by rw[hM];rfl
 have d1:0<d→((d:Int)-1)=((d-1:Nat):Int):=fun h=>by omega
 have rt:((r:Int)+(dgt v (n-1):Int))=((r+dgt v (n-1):Nat):Int):=by omega
 by_cases hdb:d<4294967296
 ·have hs0:d/4294967296=0:=Nat.div_eq_of_lt hdb
  have hmul:d*dgt v (n-2)≤4294967295*4294967295:=Nat.mul_le_mul (by omega) (by omega)
  have hmm:((d:Int)*(dgt v (n-2):Int))=((d*dgt v (n-2):Nat):Int):=by simp
  by_cases ht:r*4294967296+dgt U (j+(n-2))<d*dgt v (n-2)
  ·have hd0:0<d:=by
    rcases Nat.eq_zero_or_pos d with h|h
    ·rw[h,Nat.zero_mul] at ht;omega
    ·exact h
   have hdlt:U/4294967296^j/v<d:=by
    refine zms (n:=n) hvpos ?_
    have h3:d*(dgt v (n-1)*4294967296+dgt v (n-2))=d*dgt v (n-1)*4294967296+d*dgt v (n-2):=by rw[Nat.mul_add,Nat.mul_assoc]
    rw[p2,p3,hd,h3,Nat.add_mul,Nat.add_assoc]
    exact Nat.add_lt_add_left ht _
   have hc:(((r*4294967296+dgt U (j+(n-2)):Nat):Int)<((d*dgt v (n-2):Nat):Int))=True:=by simp;omega
   by_cases hb:r+dgt v (n-1)<4294967296
   ·have hc2:((0:Int)<(((r+dgt v (n-1))/4294967296:Nat):Int))=False:=by rw[Nat.div_eq_of_lt hb];simp
    simp(disch:=omega)only[go_sem,seval,wqq,h9,h11',h13',h14',h15',h17,h18,hs0,Int.natCast_zero,Int.lt_irrefl,hmm,pj,pj2,hlt,hblk,hget,zdL,hc,d1 hd0,rt,hc2]
    refine(less hd0 hdlt _ ?_ (by simp only[go_sem,seval]) (by simp only[go_sem,seval])).1 hb
    repeat (first|exact hp|refine hP _ ?_ _ _ (by omega))
   ·have hc2:((0:Int)<(((r+dgt v (n-1))/4294967296:Nat):Int))=True:=by
     have:0<(r+dgt v (n-1))/4294967296:=Nat.div_pos (by omega) (by decide)
     simp;omega
    simp(disch:=omega)only[go_sem,seval,wqq,h9,h11',h13',h14',h15',h17,h18,hs0,Int.natCast_zero,Int.lt_irrefl,hmm,pj,pj2,hlt,hblk,hget,zdL,hc,d1 hd0,rt,hc2]
    refine(less hd0 hdlt _ ?_ (by simp only[go_sem,seval]) (by simp only[go_sem,seval])).2 (by omega)
    repeat (first|exact hp|refine hP _ ?_ _ _ (by omega))
  ·have hc:(((r*4294967296+dgt U (j+(n-2)):Nat):Int)<((d*dgt v (n-2):Nat):Int))=False:=by simp;omega
   simp(disch:=omega)only[go_sem,seval,wqq,h9,h11',h13',h14',h15',h17,h18,hs0,Int.natCast_zero,Int.lt_irrefl,hmm,pj,pj2,hlt,hblk,hget,zdL,hc]
   refine cont _ d ?_ (by simp only[go_sem,seval,h17]) hdb hqd (zjS hvpos hdb (by rw[p2];omega) ?_)
   ·repeat (first|exact hp|refine hP _ ?_ _ _ (by omega))
   ·have h3:d*(dgt v (n-1)*4294967296+dgt v (n-2))=d*dgt v (n-1)*4294967296+d*dgt v (n-2):=by rw[Nat.mul_add,Nat.mul_assoc]
    rw[p2,p3,hd,h3,Nat.add_mul,Nat.add_assoc]
    exact Nat.add_le_add_left (by omega) _
 ·have hd0:0<d:=by omega
  have hs:((0:Int)<((d/4294967296:Nat):Int))=True:=by
   have:0<d/4294967296:=Nat.div_pos (by omega) (by decide)
   simp;omega
  by_cases hb:r+dgt v (n-1)<4294967296
  ·have hc2:((0:Int)<(((r+dgt v (n-1))/4294967296:Nat):Int))=False:=by rw[Nat.div_eq_of_lt hb];simp
   simp(disch:=omega)only[go_sem,seval,wqq,h9,h11',h13',h14',h15',h17,h18,hs,d1 hd0,rt,hc2]
   refine(less hd0 (by omega) _ ?_ (by simp only[go_sem,seval]) (by simp only[go_sem,seval])).1 hb
   repeat (first|exact hp|refine hP _ ?_ _ _ (by omega))
  ·have hc2:((0:Int)<(((r+dgt v (n-1))/4294967296:Nat):Int))=True:=by
    have:0<(r+dgt v (n-1))/4294967296:=Nat.div_pos (by omega) (by decide)
    simp;omega
   simp(disch:=omega)only[go_sem,seval,wqq,h9,h11',h13',h14',h15',h17,h18,hs,d1 hd0,rt,hc2]
   refine(less hd0 (by omega) _ ?_ (by simp only[go_sem,seval]) (by simp only[go_sem,seval])).2 (by omega)
   repeat (first|exact hp|refine hP _ ?_ _ _ (by omega))
end Go.Eng
namespace Go.Eng
structure DivP (n N L:Nat) (S:PV) (top nxt:Nat) (fr:PFr):Prop where
 s8:fr 8=S
 s9:fr 9=.sl 0 0 N N 1
 s10:fr 10=.sl 1 0 n (n+1) 1
 s11:fr 11=.i .i64 (n:Int)
 s12:fr 12=.sl 2 0 L L 1
 s13:fr 13=.i .u64 (top:Int)
 s14:fr 14=.i .u64 (nxt:Int)
theorem zbX {fr:PFr} {k d:Nat} {x:PV} (h:d<k):fr.put k x d=fr d:=by
 rw[zlw,if_neg (by omega)]
theorem DivP.put {n N L:Nat} {S:PV} {top nxt:Nat} {fr:PFr} (p:DivP n N L S top nxt fr) {k:Nat} {x:PV} (h:15≤k):DivP n N L S top nxt (fr.put k x) :=
 ⟨by rw[zbX (by omega)];exact p.s8,by rw[zbX (by omega)];exact p.s9,by rw[zbX (by omega)];exact p.s10,by rw[zbX (by omega)];exact p.s11,by rw[zbX (by omega)];exact p.s12,by rw[zbX (by omega)];exact p.s13,by rw[zbX (by omega)];exact p.s14⟩
theorem zia {A v j:Nat}:A%(v*4294967296^(j+1))/4294967296^j/v=dgt (A/v) j:=by
 rw[Nat.div_div_eq_div_mul,zah,Nat.div_div_eq_div_mul,Nat.pow_succ,←Nat.mul_assoc,Nat.mul_comm v,Nat.mod_mul_right_div_self]
theorem zih {A v j:Nat}:A%(v*4294967296^(j+1))%4294967296^j+4294967296^j*(A%(v*4294967296^(j+1))/4294967296^j%v)=A%(v*4294967296^j):=by
 rw[←Nat.mod_mul,Nat.mul_comm (4294967296^j) v,Nat.mod_mod_of_dvd]
 exact⟨4294967296,by rw[Nat.pow_succ,Nat.mul_assoc]⟩
theorem zkd {n off len cap lo hi:Nat} (h1:lo≤hi) (h2:hi≤cap) (h3:lo<cap):slP 1 (.sl n off len cap 1) (some (.i .i64 (lo:Int))) (some (.i .i64 (hi:Int))) none=some (.sl n (off+lo) (hi-lo) (cap-lo) 1):=by
 simp only[slP,ne_eq,not_true_eq_false,if_false,optP,zcS,Option.isSome_none,Bool.false_eq_true,false_implies,and_true,Nat.le_refl,Nat.mul_one]
 rw[if_pos ⟨h1,h2⟩,if_neg (by omega)]
set_option maxHeartbeats 2000000 in
theorem ziK {F:PFin} {ks:List KI} {n N L A v:Nat} {S:PV} {b1:Nat} (hn2:2≤n) (hNL:N=L+n) (hN:N<1073741824) (hv:v<4294967296^n) (htop:2147483648≤dgt v (n-1)) (hA:A<v*4294967296^L) {fr:PFr} {M:PM} (hp:DivP n N L S (dgt v (n-1)) (dgt v (n-2)) fr) (h15:fr 15=.i .i64 ((L:Int)-1))
  {e0 e2:Nat} (hM:M=some ⟨tab N fun k=>(PV.i .u32 ((dgt A k:Nat):Int)),true,e0⟩::some ⟨tab (n+1) fun k=>(PV.i .u32 ((dgt v k:Nat):Int)),true,b1⟩::some ⟨List.replicate L (.i .u32 0),true,e2⟩::[])
  (cont:∀fr' e0 e2 Cs,DivP n N L S (dgt v (n-1)) (dgt v (n-2)) fr'→UK E0 F (.exit 0) ks fr' (some ⟨tab N fun k=>(PV.i .u32 ((dgt (A%v) k:Nat):Int)),true,e0⟩::some ⟨tab (n+1) fun k=>(PV.i .u32 ((dgt v k:Nat):Int)),true,b1⟩::some ⟨tab L fun k=>(PV.i .u32 ((dgt (A/v) k:Nat):Int)),true,e2⟩::Cs)):WK E0 F (.loop zuk) ks fr M:=by
 have hvpos:0<v:=by
  rcases Nat.eq_zero_or_pos v with h|h
  ·rw[h,zcV] at htop;omega
  ·exact h
 have htp:=zau v (n-1)
 refine zas zuk.eq_1 (fun(k:Nat) fr M=>k≤L∧DivP n N L S (dgt v (n-1)) (dgt v (n-2)) fr∧fr 15=.i .i64 ((k:Int)-1) ∧
  ∃e0 e2 Cs,M=some ⟨tab N fun i=>(PV.i .u32 ((dgt (A%(v*4294967296^k)) i:Nat):Int)),true,e0⟩::some ⟨tab (n+1) fun i=>(PV.i .u32 ((dgt v i:Nat):Int)),true,b1⟩::some ⟨tab L fun i=>(PV.i .u32 ((if k≤i then dgt (A/v) i else 0:Nat):Int)),true,e2⟩::Cs)
  (fun k=>k) ?_ L ⟨Nat.le_refl _,hp,h15,e0,e2,[],?_⟩
 ·rintro k fr M ⟨hk,hp,h15,e0,e2,Cs,rfl⟩ ih
  obtain⟨h8,h9,h10,h11,h12,h13,h14⟩:=id hp
  by_cases hk0:k=0
  ·subst hk0
   simp(disch:=omega)only[go_sem,seval,wqq,h15,Int.natCast_zero,Int.zero_sub]
   have:=cont (fr.put 84 (.i .i64 (-1)) |>.put 85 (.b false)) e0 e2 Cs (DivP.put (DivP.put ⟨h8,h9,h10,h11,h12,h13,h14⟩ (by omega)) (by omega))
   simpa only[Nat.pow_zero,Nat.mul_one,Nat.zero_le,if_true] using this
  ·obtain⟨j,rfl⟩:∃j,k=j+1:=⟨k-1,by omega⟩
   have k1:(((j+1:Nat):Int)-1)=(j:Int):=by omega
   rw[k1] at h15
   generalize hU:A%(v*4294967296^(j+1))=U
   have hUlt:U<v*4294967296^(j+1):=by rw[←hU];exact Nat.mod_lt _ (Nat.mul_pos hvpos (zbq _))
   have hXv:U/4294967296^j<v*4294967296:=by
    rw[Nat.div_lt_iff_lt_mul (zbq j),Nat.mul_assoc,←Nat.pow_succ'];exact hUlt
   have hUB:U<4294967296^(j+(n+1)):=by
    refine Nat.lt_of_lt_of_le hUlt ?_
    rw[show j+(n+1)=n+(j+1) by omega,show (4294967296:Nat)^(n+(j+1))=4294967296^n*4294967296^(j+1) from Nat.pow_add ..]
    exact Nat.mul_le_mul_right _ (Nat.le_of_lt hv)
   have hq:U/4294967296^j/v=dgt (A/v) j:=by rw[←hU];exact zia
   have hjoin:U%4294967296^j+4294967296^j*(U/4294967296^j%v)=A%(v*4294967296^j):=by rw[←hU];exact zih
   have pj:((j:Int)+(n:Int))=((j+n:Nat):Int):=by omega
   have pj1:(((j+n:Nat):Int)-1)=((j+(n-1):Nat):Int):=by omega
   have pj2:(((j+n:Nat):Int)+1)=((j+n+1:Nat):Int):=by omega
   have hl0:j+n<N:=by omega
   have hl1:j+(n-1)<N:=by omega
   have hun:=zau U (j+n)
   have hu1:=zau U (j+(n-1))
   have hg0:(tab N fun i=>(PV.i .u32 ((dgt U i:Nat):Int)))[j+n]?=some (PV.i .u32 ((dgt U (j+n):Nat):Int)):=zaW hl0
   have hg1:(tab N fun i=>(PV.i .u32 ((dgt U i:Nat):Int)))[j+(n-1)]?=some (PV.i .u32 ((dgt U (j+(n-1)):Nat):Int)):=zaW hl1
   have htz:((dgt v (n-1):Nat):Int)≠0:=by omega
   have hqlt:(dgt U (j+n)*4294967296+dgt U (j+(n-1)))/dgt v (n-1)≤dgt U (j+n)*4294967296+dgt U (j+(n-1)):=Nat.div_le_self _ _
   have wq:IntKind.wrap .u64 (((dgt U (j+n)*4294967296+dgt U (j+(n-1)))/dgt v (n-1):Nat):Int)=(((dgt U (j+n)*4294967296+dgt U (j+(n-1)))/dgt v (n-1):Nat):Int):=by
    generalize (dgt U (j+n)*4294967296+dgt U (j+(n-1)))/dgt v (n-1)=z at *
    rw[wqb (by omega) (by omega)]
   simp(disch:=omega)only[go_sem,seval,wqq,h9,h10,h11,h12,h13,h14,h15,pj,pj1,hl0,hl1,hg0,hg1,zdL,zc0,zeg,htz,wq]
   refine ziQ (N:=N) (e0:=e0) (d:=(dgt U (j+n)*4294967296+dgt U (j+(n-1)))/dgt v (n-1)) (r:=(dgt U (j+n)*4294967296+dgt U (j+(n-1)))%dgt v (n-1)) hn2 (by omega) (by omega) (by omega) hv htop hXv
    (fun fr=>DivP n N L S (dgt v (n-1)) (dgt v (n-2)) fr∧fr 15=.i .i64 (j:Int)) (fun fr h k x hk=>⟨h.1.put (by omega),by rw[zbX (by omega)];exact h.2⟩) ⟨?_,by simp only[go_sem,seval,h15]⟩ (fun fr h=>h.1.s9) (fun fr h=>h.1.s11) (fun fr h=>h.1.s13) (fun fr h=>h.1.s14) (fun fr h=>h.2) (by simp only[go_sem,seval]) (by simp only[go_sem,seval]) ?_ ?_ ?_ rfl ?_
   ·repeat (first|exact hp|refine DivP.put ?_ (by omega))
   ·exact Nat.lt_trans (Nat.mod_lt _ (by omega)) htp
   ·rw[Nat.mul_comm _ (dgt v (n-1))];exact(Nat.div_add_mod _ _).symm
   ·rw[Nat.le_div_iff_mul_le (by omega)]
    have hXlt:U/4294967296^j<4294967296^(n+1):=by
     rw[Nat.div_lt_iff_lt_mul (zbq j),←Nat.pow_add,Nat.add_comm (n+1)];exact hUB
    have p3:=zrF hn2 hXlt
    rw[←za4,←za4,←za4] at p3
    have e1:U/4294967296^j/4294967296^(n-1)=dgt U (j+n)*4294967296+dgt U (j+(n-1)):=by
     have e2:U/4294967296^j/4294967296^(n-1)=U/4294967296^j/4294967296^(n-2)/4294967296:=by rw[Nat.div_div_eq_div_mul _ (4294967296^(n-2)),←Nat.pow_succ];congr 2;omega
     have:=zau U (j+(n-2))
     rw[e2,p3];omega
    have e3:dgt v (n-1)*4294967296^(n-1)≤v:=by
     have h1:v/4294967296^(n-1)<4294967296:=by rw[Nat.div_lt_iff_lt_mul (zbq _),Nat.mul_comm,zlt (by omega)];exact hv
     rw[zah,Nat.mod_eq_of_lt h1]
     exact Nat.div_mul_le_self _ _
    rw[←e1,Nat.le_div_iff_mul_le (zbq _),Nat.mul_assoc]
    exact Nat.le_trans (Nat.mul_le_mul_left _ e3) (Nat.div_mul_le_self _ _)
   ·rintro fr' d ⟨hp',h15'⟩ h17' hdB hqd hdq
    obtain⟨h8,h9,h10,h11,h12,h13,h14⟩:=id hp'
    have hX:=Nat.div_add_mod (U/4294967296^j) v
    have hr:=Nat.mod_lt (U/4294967296^j) hvpos
    generalize hXd:U/4294967296^j=X at *
    generalize hqg:X/v=q at *
    generalize hrg:X%v=r at *
    have hjL:j<L:=by omega
    have hnn:j+n+1-j=n+1:=by omega
    have hin:(U%4294967296^j+4294967296^j*r)=A%(v*4294967296^j):=hjoin
    have hrB:r<4294967296^(n+1):=Nat.lt_trans (Nat.lt_trans hr hv) (Nat.pow_lt_pow_right (by decide) (by omega))
    rcases (show d=q∨d=q+1 by omega) with hd|hd
    ·have hdv:X+4294967296^(n+1)*0=r+d*v:=by rw[Nat.mul_zero,hd,Nat.mul_comm q];omega
     obtain⟨e,htk⟩:=zj6 (n:=n) (N:=N) (U:=U) (v:=v) (q:=d) (j:=j) (X':=r) (bo:=0) (e0:=e0) (cap:=N-j) (cv:=n+1) (b1:=b1) (rest:=some ⟨tab L fun i=>if i=j then (PV.i .u32 ((d:Nat):Int)) else (PV.i .u32 ((if j+1≤i then dgt (A/v) i else 0:Nat):Int)),true,e2+1⟩::Cs) (by omega) (by omega) (by omega) hv hdB (by omega) hUB hrB (by rw[hXd];exact hdv)
     simp(disch:=omega)only[go_sem,seval,wqq,h9,h10,h11,h12,h13,h14,h15',h17',pj,pj2,hjL,hnn,zaA,zkd,htk,hin]
     refine ih j _ _ (by omega) ⟨by omega,?_,by simp only[go_sem,seval],e,e2+1,Cs,?_⟩
     ·repeat (first|exact hp'|refine DivP.put ?_ (by omega))
     ·congr 5
      refine zak fun i hi=>?_
      by_cases h:i=j
      ·subst h
       rw[if_pos rfl,if_pos (Nat.le_refl _),hd,hq]
      ·rw[if_neg h]
       congr 2
       by_cases h2:j+1≤i
       ·rw[if_pos h2,if_pos (by omega)]
       ·rw[if_neg h2,if_neg (by omega)]
    ·have hvB:v<4294967296^(n+1):=Nat.lt_trans hv (Nat.pow_lt_pow_right (by decide) (by omega))
     have hdv:X+4294967296^(n+1)*1=(4294967296^(n+1)+r-v)+d*v:=by rw[Nat.mul_one,hd,Nat.add_mul,Nat.one_mul,Nat.mul_comm q];omega
     obtain⟨e,htk⟩:=zj6 (n:=n) (N:=N) (U:=U) (v:=v) (q:=d) (j:=j) (X':=4294967296^(n+1)+r-v) (bo:=1) (e0:=e0) (cap:=N-j) (cv:=n+1) (b1:=b1) (rest:=some ⟨tab L fun i=>if i=j then (PV.i .u32 ((d:Nat):Int)) else (PV.i .u32 ((if j+1≤i then dgt (A/v) i else 0:Nat):Int)),true,e2+1⟩::Cs) (by omega) (by omega) (by omega) hv hdB (by omega) hUB (by omega) (by rw[hXd];exact hdv)
     have hgo:(tab L fun i=>if i=j then (PV.i .u32 ((d:Nat):Int)) else (PV.i .u32 ((if j+1≤i then dgt (A/v) i else 0:Nat):Int)))[j]?=some (PV.i .u32 ((d:Nat):Int)):=by rw[zaW hjL,if_pos rfl]
     have hd1:((d:Int)-1)=(q:Int):=by omega
     have hqlt:q<4294967296:=by omega
     simp(disch:=omega)only[go_sem,seval,wqq,h9,h10,h11,h12,h13,h14,h15',h17',pj,pj2,hjL,hnn,zaA,zkd,htk,hgo,hd1]
     have hX'j:(U%4294967296^j+4294967296^j*(4294967296^(n+1)+r-v))/4294967296^j=4294967296^(n+1)+r-v:=by
      rw[Nat.add_mul_div_left _ _ (zbq j),Nat.div_eq_of_lt (Nat.mod_lt _ (zbq j)),Nat.zero_add]
     refine ziA (n:=n) (N:=N) (U:=U%4294967296^j+4294967296^j*(4294967296^(n+1)+r-v)) (v:=v) (j:=j) (X':=4294967296^(n+1)+r-v) (X'':=r) (e0:=e) (cap:=N) (cv:=n+1) (b1:=b1) (Cs:=Cs) (O:=.sl 2 0 L L 1) (out:=.i .u64 (dgt v (n-1):Int)) (I:=.i .u64 (dgt v (n-2):Int)) (by omega) (by omega) (by omega) hv hX'j (by omega) (by simp only[go_sem,seval,h9]) (by simp only[go_sem,seval,h10]) (by simp only[go_sem,seval,h11]) (by simp only[go_sem,seval,h15']) (by simp only[go_sem,seval]) (by simp only[go_sem,seval]) (by simp only[go_sem,seval]) (by simp only[go_sem,seval,h12]) (by simp only[go_sem,seval,h13]) (by simp only[go_sem,seval,h14]) S (by simp only[go_sem,seval,h8]) rfl fun fr2 e' cb g8 g9 g10 g11 g12 g13 g14 g15=>?_
     have hU1:U%4294967296^j+4294967296^j*(4294967296^(n+1)+r-v)<4294967296^(j+(n+1)):=by
      rw[show (4294967296:Nat)^(j+(n+1))=4294967296^j*4294967296^(n+1) from Nat.pow_add ..]
      have h1:=Nat.mod_lt U (zbq j)
      have h2:4294967296^j*(4294967296^(n+1)+r-v+1)≤4294967296^j*4294967296^(n+1):=Nat.mul_le_mul_left _ (by omega)
      rw[Nat.mul_succ] at h2
      exact Nat.lt_of_lt_of_le (Nat.add_lt_add_right h1 _) (by rw[Nat.add_comm];exact h2)
     have hU2:(U%4294967296^j+4294967296^j*(4294967296^(n+1)+r-v))%4294967296^j=U%4294967296^j:=by
      rw[Nat.add_mul_mod_self_left,Nat.mod_mod]
     rw[zfX hU1 hrB,hU2,hin]
     simp(disch:=omega)only[go_sem,seval,wqq,g15]
     refine ih j _ _ (by omega) ⟨by omega,?_,by simp only[go_sem,seval],e',e2+1+1,Cs++[cb],?_⟩
     ·exact DivP.put (DivP.put (DivP.put ⟨g8,g9,g10,g11,g12,g13,g14⟩ (by omega)) (by omega)) (by omega)
     ·congr 5
      refine zak fun i hi=>?_
      by_cases h:i=j
      ·subst h
       rw[if_pos rfl,if_pos (Nat.le_refl _),hq]
      ·rw[if_neg h,if_neg h]
       congr 2
       by_cases h2:j+1≤i
       ·rw[if_pos h2,if_pos (by omega)]
       ·rw[if_neg h2,if_neg (by omega)]
 ·rw[hM,Nat.mod_eq_of_lt hA,zcJ]
  congr 5
  refine zak fun i hi=>?_
  rw[if_neg (by omega)];rfl
theorem zgW {U by_ i:Nat} (hb:by_<32):(dgt U (i+1)*4294967296+dgt U i)/2^by_%4294967296=dgt (U/2^by_) i:=by
 have e:(4294967296:Nat)=2^by_*2^(32-by_):=by rw[←Nat.pow_add,show by_+(32-by_)=32 by omega]
 have hp:0<2^by_:=Nat.pow_pos (by decide)
 have h0:U/4294967296^i=dgt U (i+1)*4294967296+dgt U i+4294967296*(4294967296*(U/4294967296^i/4294967296/4294967296)):=by
  have h1:=Nat.div_add_mod (U/4294967296^i) 4294967296
  have h2:=Nat.div_add_mod (U/4294967296^i/4294967296) 4294967296
  rw[zah,zah,Nat.pow_succ,←Nat.div_div_eq_div_mul]
  omega
 have key:∀x y z:Nat,x=y+4294967296*(4294967296*z)→y/2^by_%4294967296=x/2^by_%4294967296:=by
  intro x y z hx
  have e2:4294967296*(4294967296*z)=2^by_*(4294967296*(2^(32-by_)*z)):=by
   have e3:∀w,4294967296*w=2^by_*2^(32-by_)*w:=fun w=>by rw[←e]
   rw[e3,Nat.mul_assoc,Nat.mul_left_comm (2^(32-by_))]
  rw[hx,e2,Nat.add_mul_div_left _ _ hp,Nat.add_mul_mod_self_left]
 rw[zah (U/2^by_),Nat.div_div_eq_div_mul,Nat.mul_comm (2^by_),←Nat.div_div_eq_div_mul]
 exact key _ _ _ h0
set_option maxHeartbeats 1000000 in
theorem zii {F:PFin} {ks:List KI} {n N U by_:Nat} {b1 b2:Option PB} {Cs:PM} {e0 e3:Nat} {O:PV} (hn:n<N) (hN:N<1073741824) (hb:by_<32) {fr:PFr} {M:PM} (h8:fr 8=.i .i64 (by_:Int)) (h9:fr 9=.sl 0 0 N N 1) (h12:fr 12=O) (h22:fr 22=.sl (Cs.length+1+1+1) 0 n n 1) (h201:fr 201=.i .i64 (n:Int)) (h202:fr 202=.i .i64 0)
  (hM:M=some ⟨tab N fun k=>(PV.i .u32 ((dgt U k:Nat):Int)),true,e0⟩::b1::b2::(Cs++[some ⟨List.replicate n (.i .u32 0),true,e3⟩]))
  (cont:∀fr' e,fr' 12=O→fr' 22=.sl (Cs.length+1+1+1) 0 n n 1→UK E0 F (.exit 6) ks fr' (some ⟨tab N fun k=>(PV.i .u32 ((dgt U k:Nat):Int)),true,e0⟩::b1::b2::(Cs++[some ⟨tab n fun k=>(PV.i .u32 ((dgt (U/2^by_) k:Nat):Int)),true,e⟩]))):WK E0 F (.loop zuo) ks fr M:=by
 refine zas zuo.eq_1 (fun(i:Nat) fr M=>i≤n∧fr 8=.i .i64 (by_:Int)∧fr 9=.sl 0 0 N N 1∧fr 12=O∧fr 22=.sl (Cs.length+1+1+1) 0 n n 1∧fr 201=.i .i64 (n:Int)∧fr 202=.i .i64 (i:Int) ∧
  ∃e,M=some ⟨tab N fun k=>(PV.i .u32 ((dgt U k:Nat):Int)),true,e0⟩::b1::b2::(Cs++[some ⟨tab n fun k=>(PV.i .u32 ((if k<i then dgt (U/2^by_) k else 0:Nat):Int)),true,e⟩])) (fun i=>n-i) ?_ 0 ⟨Nat.zero_le _,h8,h9,h12,h22,h201,h202,e3,?_⟩
 ·rintro i fr M ⟨hi,h8,h9,h12,h22,h201,h202,e,rfl⟩ ih
  by_cases hin:i<n
  ·have hc0:((i:Int)<(n:Int))=True:=by simp;omega
   have i1:((i:Int)+1)=((i+1:Nat):Int):=by omega
   have hl0:i<N:=by omega
   have hl1:i+1<N:=by omega
   have hg0:(tab N fun k=>(PV.i .u32 ((dgt U k:Nat):Int)))[i]?=some (PV.i .u32 ((dgt U i:Nat):Int)):=zaW hl0
   have hg1:(tab N fun k=>(PV.i .u32 ((dgt U k:Nat):Int)))[i+1]?=some (PV.i .u32 ((dgt U (i+1):Nat):Int)):=zaW hl1
   have d0:=zau U i
   have d1:=zau U (i+1)
   have hsh:binP .shr (.i .u64 ((dgt U (i+1)*4294967296+dgt U i:Nat):Int)) (.i .i64 (by_:Int))=some (.i .u64 (((dgt U (i+1)*4294967296+dgt U i)/2^by_:Nat):Int)):=by
    rw[zc7 _ _ _ (by omega) (by omega),Int.toNat_natCast]
   have hbw:=zgW (U:=U) (i:=i) hb
   simp(disch:=omega)only[go_sem,seval,wqq,h8,h9,h22,h201,h202,hc0,i1,hl0,hl1,hg0,hg1,hin,zdL,hsh,za2,hbw,zbm,zes,zaA]
   refine ih (i+1) _ _ (by omega) ⟨by omega,by simp only[go_sem,seval,h8],by simp only[go_sem,seval,h9],by simp only[go_sem,seval,h12],by simp only[go_sem,seval,h22],by simp only[go_sem,seval,h201],by simp only[go_sem,seval],e+1,?_⟩
   refine congrArg (fun l=>some ⟨tab N fun k=>(PV.i .u32 ((dgt U k:Nat):Int)),true,e0⟩::b1::b2::(Cs++[some ⟨l,true,e+1⟩])) (zak fun k hk=>?_)
   by_cases hki:k=i
   ·subst hki
    rw[if_pos rfl,if_pos (by omega)]
   ·rw[if_neg hki]
    congr 2
    by_cases h:k<i
    ·rw[if_pos h,if_pos (by omega)]
    ·rw[if_neg h,if_neg (by omega)]
  ·have hc0:((i:Int)<(n:Int))=False:=by simp;omega
   obtain rfl:i=n:=by omega
   simp only[go_sem,seval,h201,h202,hc0]
   have ht:(tab i fun k=>(PV.i .u32 ((if k<i then dgt (U/2^by_) k else 0:Nat):Int)))=tab i fun k=>(PV.i .u32 ((dgt (U/2^by_) k:Nat):Int)):=zak fun k hk=>by rw[if_pos hk]
   rw[ht]
   exact cont _ e (by simp only[go_sem,seval,h12]) (by simp only[go_sem,seval,h22])
 ·rw[hM,zcJ]
  congr 5
theorem zf8 {a b:Nat} (hb:b≠0) (la:wlen a≤4096) (lb:wlen b≤4096):pf E0 35 [D a,D b]=some (.tu [D (a/b),D (a%b)]):=by
 have hbp:=zaT hb
 have hcmp:=zbv a b (by omega) (by omega)
 by_cases hab:a<b
 ·refine zad (xf:=zti) rfl (by simp[zti]) ?_
  simp only[zti]
  have hc:(cmpI (a:Int) (b:Int)<0)=True:=by unfold cmpI;simp;omega
  simp(disch:=omega)only[go_sem,seval,wqq,hcmp,hc]
  rw[Nat.div_eq_of_lt hab,Nat.mod_eq_of_lt hab];rfl
 have hc:(cmpI (a:Int) (b:Int)<0)=False:=by unfold cmpI;simp;omega
 have hwl:wlen b≤wlen a:=by
  rw[zaM];exact Nat.lt_of_le_of_lt (by omega) (zag a)
 by_cases h1:wlen b=1
 ·have hb32:b<4294967296:=by have:=zag b;rw[h1] at this;omega
  have hs:=zlm (zag a) hb32 hb (by omega)
  have hd0:dgt b 0=b:=by rw[ze7,Nat.mod_eq_of_lt hb32]
  have hi:=zaG (n:=wlen b) (v:=b) (j:=0) (by omega)
  rw[hd0] at hi
  have hq:a/b<4294967296^wlen a:=Nat.lt_of_le_of_lt (Nat.div_le_self _ _) (zag a)
  have hn1:=zbV hq (by omega)
  have hm:a%b<4294967296:=Nat.lt_trans (Nat.mod_lt _ (by omega)) hb32
  have hn2:=zbV (n:=1) (v:=a%b) (by simpa using hm) (by omega)
  have hD1:Dw 1 (a%b)=.lst [(PV.i .u32 ((a%b:Nat):Int))]:=by
   have e:tab 1 (fun k=>(PV.i .u32 ((dgt (a%b) k:Nat):Int)))=[(PV.i .u32 ((dgt (a%b) 0:Nat):Int))]:=rfl
   rw[Dw,e,ze7,Nat.mod_eq_of_lt hm]
  rw[hD1] at hn2
  have hl1:((wlen b:Nat):Int)=1:=by omega
  refine zad (xf:=zti) rfl (by simp[zti]) ?_
  simp only[zti]
  simp(disch:=omega)only[go_sem,seval,wqq,hcmp,hc,hl1,hi,hs,hn1,group,List.headD_cons,hn2]
 ·have htop0:dgt b (wlen b-1)≠0:=by
   have h1:=zev hb
   have h2:=zag b
   rw[zah]
   have h3:0<b/4294967296^(wlen b-1):=Nat.div_pos h1 (zbq _)
   have h4:b/4294967296^(wlen b-1)<4294967296:=by rw[Nat.div_lt_iff_lt_mul (zbq _),Nat.mul_comm,zlt (by omega)];exact h2
   rw[Nat.mod_eq_of_lt h4];omega
  have htl:=zau b (wlen b-1)
  obtain⟨l1,l2,l3⟩:=zkJ htl htop0
  have hlead:=zna (dgt b (wlen b-1)) htl
  have hi:=zaG (n:=wlen b) (v:=b) (j:=wlen b-1) (by omega)
  generalize hby:32-bits32 (dgt b (wlen b-1))=by_ at *
  generalize hn:wlen b=n at *
  generalize hm:wlen a=m at *
  have ha:=zag a
  have hbl:=zag b
  rw[hm] at ha
  rw[hn] at hbl
  have hp32:2^by_≤2147483648:=by
   have:=Nat.pow_le_pow_right (show 0<2 by decide) (show by_≤31 by omega)
   exact this
  have hpp:0<2^by_:=Nat.pow_pos (by decide)
  have hbhi:b/4294967296^(n-1)=dgt b (n-1):=by
   have h4:b/4294967296^(n-1)<4294967296:=by rw[Nat.div_lt_iff_lt_mul (zbq _),Nat.mul_comm,zlt (by omega)];exact hbl
   rw[zah,Nat.mod_eq_of_lt h4]
  have hvB:b*2^by_<4294967296^n:=by
   have h1:=Nat.lt_mul_div_succ b (zbq (n-1))
   rw[hbhi] at h1
   have h2:(dgt b (n-1)+1)*2^by_≤4294967296:=by
    have e:(4294967296:Nat)=2^by_*2^(32-by_):=by rw[←Nat.pow_add,show by_+(32-by_)=32 by omega]
    have h3:dgt b (n-1)<2^(32-by_):=by
     have h4:dgt b (n-1)*2^by_<2^(32-by_)*2^by_:=by rw[Nat.mul_comm (2^(32-by_)),←e];exact l2
     exact Nat.lt_of_mul_lt_mul_right h4
    calc (dgt b (n-1)+1)*2^by_≤2^(32-by_)*2^by_:=Nat.mul_le_mul_right _ h3
     _=4294967296:=by rw[Nat.mul_comm,←e]
   calc b*2^by_<4294967296^(n-1)*(dgt b (n-1)+1)*2^by_:=Nat.mul_lt_mul_of_pos_right h1 hpp
    _=4294967296^(n-1)*((dgt b (n-1)+1)*2^by_):=Nat.mul_assoc ..
    _≤4294967296^(n-1)*4294967296:=Nat.mul_le_mul_left _ h2
    _=4294967296^n:=zlt (by omega)
  have hvlo:2147483648*4294967296^(n-1)≤b*2^by_:=by
   have h1:=Nat.div_mul_le_self b (4294967296^(n-1))
   rw[hbhi] at h1
   calc 2147483648*4294967296^(n-1)≤dgt b (n-1)*2^by_*4294967296^(n-1):=Nat.mul_le_mul_right _ l1
    _=dgt b (n-1)*4294967296^(n-1)*2^by_:=by rw[Nat.mul_assoc,Nat.mul_comm (2^by_),←Nat.mul_assoc]
    _≤b*2^by_:=Nat.mul_le_mul_right _ h1
  have htop:2147483648≤dgt (b*2^by_) (n-1):=by
   have h4:b*2^by_/4294967296^(n-1)<4294967296:=by rw[Nat.div_lt_iff_lt_mul (zbq _),Nat.mul_comm 4294967296,zlt (by omega)];exact hvB
   rw[zah,Nat.mod_eq_of_lt h4,Nat.le_div_iff_mul_le (zbq _)]
   exact hvlo
  have hA:a*2^by_<b*2^by_*4294967296^(m-n+1):=by
   calc a*2^by_<4294967296^m*2^by_:=Nat.mul_lt_mul_of_pos_right ha hpp
    _≤4294967296^m*2147483648:=Nat.mul_le_mul_left _ hp32
    _=2147483648*4294967296^(n-1)*4294967296^(m-n+1):=by rw[Nat.mul_comm,Nat.mul_assoc,←Nat.pow_add];congr 2;omega
    _≤b*2^by_*4294967296^(m-n+1):=Nat.mul_le_mul_right _ hvlo
  have hAq:a*2^by_/(b*2^by_)=a/b:=Nat.mul_div_mul_right _ _ hpp
  have hAr:a*2^by_%(b*2^by_)=a%b*2^by_:=Nat.mul_mod_mul_right ..
  obtain⟨e1,sh1⟩:=zeO [] (n:=m) (a:=a) (by_:=by_) (by omega) l3 ha
  obtain⟨e2,sh2⟩:=zeO ([]++[some ⟨tab (m+1) (fun k=>(PV.i .u32 ((dgt (a*2^by_) k:Nat):Int))),true,e1⟩]) (n:=n) (a:=b) (by_:=by_) (by omega) l3 hbl
  simp only[List.nil_append,List.length_nil,List.length_cons,Nat.zero_add,List.cons_append] at sh1 sh2
  have hDa:D a=Dw m a:=by rw[D,hm]
  have hDb:D b=Dw n b:=by rw[D,hn]
  rw[hDa,hDb] at hcmp ⊢
  have t1:=zau (b*2^by_) (n-1)
  have t2:=zau (b*2^by_) (n-2)
  have q1:((n:Int)-1)=((n-1:Nat):Int):=by omega
  have q2:((n:Int)-2)=((n-2:Nat):Int):=by omega
  have q3:((m:Int)-(n:Int)+1)=((m-n+1:Nat):Int):=by omega
  have q4:((n:Int)=1)=False:=by simp;omega
  have g1:n-1<n+1:=by omega
  have g2:n-2<n+1:=by omega
  have g1':n-1<n:=by omega
  have g2':n-2<n:=by omega
  have hg1:(tab (n+1) fun k=>(PV.i .u32 ((dgt (b*2^by_) k:Nat):Int)))[n-1]?=some (PV.i .u32 ((dgt (b*2^by_) (n-1):Nat):Int)):=zaW g1
  have hg2:(tab (n+1) fun k=>(PV.i .u32 ((dgt (b*2^by_) k:Nat):Int)))[n-2]?=some (PV.i .u32 ((dgt (b*2^by_) (n-2):Nat):Int)):=zaW g2
  have hsl:slP 1 (.sl 1 0 (n+1) (n+1) 1) none (some (.i .i64 (n:Int))) none=some (.sl 1 0 n (n+1) 1):=by
   simp only[slP,ne_eq,not_true_eq_false,if_false,optP,zcS,Option.isSome_none,Bool.false_eq_true,false_implies,and_true,Nat.le_refl,Nat.mul_one,Nat.zero_le,true_and,Nat.sub_zero,Nat.zero_add,Nat.add_zero,Nat.zero_mul]
   rw[if_pos (by omega),if_neg (by omega)]
  refine zad (xf:=zti) rfl (by simp[zti]) ?_
  simp only[zti]
  simp(disch:=omega)only[go_sem,seval,wqq,hcmp,hc,q4,q1,hi,hlead,sh1,sh2,hsl,q2,q3,zcP,g1,g2,g1',g2',hg1,hg2]
  refine ziK (n:=n) (N:=m+1) (L:=m-n+1) (A:=a*2^by_) (v:=b*2^by_) (S:=.i .i64 (by_:Int)) (b1:=e2) (by omega) (by omega) (by omega) hvB htop hA ⟨by simp only[go_sem,seval],by simp only[go_sem,seval],by simp only[go_sem,seval],by simp only[go_sem,seval],by simp only[go_sem,seval],by simp only[go_sem,seval],by simp only[go_sem,seval]⟩ (by simp only[go_sem,seval]) rfl fun fr' e0 e3 Cs p=>?_
  obtain⟨p8,p9,p10,p11,p12,p13,p14⟩:=p
  rw[hAq,hAr]
  have hq:a/b<4294967296^(m-n+1):=by
   rw[Nat.div_lt_iff_lt_mul (by omega)]
   have h1:=Nat.lt_of_mul_lt_mul_right (a:=2^by_) (show a*2^by_<4294967296^(m-n+1)*b*2^by_ by rw[Nat.mul_assoc,Nat.mul_comm (4294967296^(m-n+1))];exact hA)
   exact h1
  have hr:a%b<4294967296^n:=Nat.lt_trans (Nat.mod_lt _ (by omega)) hbl
  have hn1:=zbV hq (by omega)
  have hn2:=zbV hr (by omega)
  have hback:a%b*2^by_/2^by_=a%b:=Nat.mul_div_cancel _ hpp
  have hn0:n≠0:=by omega
  simp(disch:=omega)only[go_sem,seval,wqq,p11,zcP]
  refine zii (n:=n) (N:=m+1) (U:=a%b*2^by_) (by_:=by_) (Cs:=Cs) (O:=.sl 2 0 (m-n+1) (m-n+1) 1) (by omega) (by omega) l3 (by simp only[go_sem,seval,p8]) (by simp only[go_sem,seval,p9]) (by simp only[go_sem,seval,p12]) (by simp only[go_sem,seval]) (by simp only[go_sem,seval]) (by simp only[go_sem,seval]) rfl fun fr2 e4 g12 g22=>?_
  have hL0:¬(m-n+1=0):=by omega
  rw[hback]
  simp(disch:=omega)only[go_sem,seval,wqq,g12,g22,hL0,hn0,hn1,hn2,zbm,zes]
end Go.Eng
namespace Go.Eng
theorem zbb {a b:Nat} (h:a≤b):wlen a≤wlen b:=by
 rw[zaM];exact Nat.lt_of_le_of_lt h (zag b)
theorem zgw {x:WI} {z:Int} (h:z.natAbs≤x.v.natAbs):wlen z.natAbs≤512:=Nat.le_trans (zbb h) x.lim
theorem ziM (a b:Int):(a/b).natAbs≤a.natAbs:=Int.natAbs_ediv_le_natAbs a b
theorem ziN (a b:Int) (hb:b≠0):(a%b).natAbs≤b.natAbs:=by
 have:=Int.emod_nonneg a hb
 have h2:=Int.emod_lt a hb
 omega
def WI.div (x y:WI) (h:y.v≠0):WI:=⟨x.v/y.v,zgw (ziM _ _)⟩
def WI.mod (x y:WI) (h:y.v≠0):WI:=⟨x.v%y.v,zgw (ziN _ _ h)⟩
@[go_sem] theorem zoE (a o b o':Nat):apart (.p a o) (.p b o')=(a≠b):=_root_.id rfl
theorem zjB:wlen 1=1:=Nat.le_antisymm (zb6 (by decide)) (zaT (by decide))
theorem zpq {w:Nat} (h:w<4294967296):PV.lst (group 1 1 [(PV.i .u32 ((w:Nat):Int))])=Dw 1 w:=by
 rw[zbt _ _ (by rfl),Dw]
 have:tab 1 (fun k=>(PV.i .u32 ((dgt w k:Nat):Int)))=[(PV.i .u32 ((dgt w 0:Nat):Int))]:=rfl
 rw[this,ze7,Nat.mod_eq_of_lt h]
theorem zpp:PV.lst (group 1 1 [.i .u32 1])=Dw 1 1:=zpq (w:=1) (by decide)
theorem zkt {a b q r:Int} (hb:b≠0) (h1:r+b*q=a) (h2:0≤r) (h3:r<b.natAbs):a/b=q∧a%b=r:=by
 by_cases h:0<b
 ·exact(Int.ediv_emod_unique h).2 ⟨h1,h2,by omega⟩
 ·obtain⟨c,rfl⟩:∃c,b = -c:=⟨-b,by omega⟩
  have hc:0<c:=by omega
  have:=(Int.ediv_emod_unique (a:=a) (b:=c) (q := -q) (r:=r) hc).2 ⟨by rw[Int.mul_neg];rw[Int.neg_mul] at h1;omega,h2,by omega⟩
  rw[Int.ediv_neg,Int.emod_neg,this.1,this.2]
  exact⟨by omega,rfl⟩
theorem zd4 {x y:Int} {q r:Nat} (hy:y≠0) (h1:(y.natAbs*q:Nat)+(if x<0 then-(r:Int) else r)=x.natAbs) (h2:r<y.natAbs) :
  (if (decide (x<0) != decide (y<0))=true then-(q:Int) else (q:Int))=x/y∧(r:Int)=x%y:=by
 have key:∀z:Int,z=(if (decide (x<0) != decide (y<0))=true then-(q:Int) else (q:Int))→z=x/y∧(r:Int)=x%y:=by
  intro z hz
  have:=zkt (a:=x) (b:=y) (q:=z) (r:=r) hy ?_ (by omega) (by omega)
  ·exact⟨this.1.symm,this.2.symm⟩
  ·subst hz
   rw[Int.natCast_mul] at h1
   by_cases h:x<0
   ·by_cases h':y<0
    ·have e:(y.natAbs:Int) = -y:=by omega
     rw[e,Int.neg_mul] at h1
     simp[h,h',Int.mul_neg] at h1 ⊢;omega
    ·have e:(y.natAbs:Int)=y:=by omega
     rw[e] at h1
     simp[h,h',Int.mul_neg] at h1 ⊢;omega
   ·by_cases h':y<0
    ·have e:(y.natAbs:Int) = -y:=by omega
     rw[e,Int.neg_mul] at h1
     simp[h,h',Int.mul_neg] at h1 ⊢;omega
    ·have e:(y.natAbs:Int)=y:=by omega
     rw[e] at h1
     simp[h,h',Int.mul_neg] at h1 ⊢;omega
 exact key _ rfl
theorem zk3 (x y:WI) (h:y.v≠0):pf E0 29 [wiP x,wiP y]=some (.tu [wiP (x.div y h),wiP (x.mod y h),.i .i64 0]):=by
 refine zad (xf:=zuv) rfl (by simp[zuv]) ?_
 simp only[zuv]
 have lx:=x.lim
 have ly:=y.lim
 have hy:y.v.natAbs≠0:=by omega
 have hyp:=zaT hy
 have hd:=zf8 hy (a:=x.v.natAbs) (by omega) (by omega)
 have hl:((wlen y.v.natAbs:Int)=0)=False:=by simp;omega
 have dm:=Nat.div_add_mod x.v.natAbs y.v.natAbs
 have ml:=Nat.mod_lt x.v.natAbs (Nat.pos_of_ne_zero hy)
 have dl:=Nat.div_le_self x.v.natAbs y.v.natAbs
 have ld:=zbb dl
 have lm:=zbb (Nat.le_of_lt ml)
 have cd:clip (x.v/y.v)=x.div y h:=zbA _
 have cm:clip (x.v%y.v)=x.mod y h:=zbA _
 generalize x.v.natAbs/y.v.natAbs=q at *
 generalize x.v.natAbs%y.v.natAbs=r at *
 by_cases hx:x.v<0
 ·by_cases hr:r=0
  ·have hf:=zd4 (q:=q) (r:=0) h (by rw[if_pos hx];omega) (by omega)
   have s1:pf E0 36 [.b (!(decide (x.v<0)==decide (y.v<0))),Dw (wlen q) q]=_:=zaD (decide (x.v<0) != decide (y.v<0)) (wlen q) q (zag _) (by omega)
   have s2:=zaD false (wlen 0) 0 (zag _) (by decide)
   rw[if_neg (by simp),hf.2,cm] at s2
   rw[hf.1,cd] at s1
   simp only[hx,decide_true] at s1
   subst hr
   simp(disch:=omega)only[go_sem,seval,wqq,hl,hd,hx,show wlen 0=0 from rfl,Int.natCast_zero,s1]
   rw[show wlen 0=0 from rfl] at s2
   simp(disch:=omega)only[go_sem,seval,wqq,s2]
   refine zc3 ⟨.inr ⟨11,4,rfl,by simp only[go_sem,seval]⟩,trivial⟩ ?_
   simp(disch:=omega)only[go_sem,seval,wqq]
  ·have hf:=zd4 (q:=q+1) (r:=y.v.natAbs-r) h (by rw[if_pos hx,Nat.mul_add];omega) (by omega)
   have hs:=znk (n:=wlen q) (m:=1) (b:=1) (zag q) (by decide) (by omega) (by omega)
   have s1:pf E0 36 [.b (!(decide (x.v<0)==decide (y.v<0))),Dw (max (wlen q) 1+1) (q+1)]=_:=zaD (decide (x.v<0) != decide (y.v<0)) _ _ (by simpa [zjB] using zhu (a:=q) (b:=1)) (by omega)
   have hdf:=zaZ (a:=y.v.natAbs) (b:=r) (s:=y.v.natAbs-r) (by omega) (zag _) (by omega) (by omega) (zag y.v.natAbs)
   have s2:=zaD false (wlen y.v.natAbs) (y.v.natAbs-r) (Nat.lt_of_le_of_lt (Nat.sub_le _ _) (zag _)) (by omega)
   rw[if_neg (by simp),hf.2,cm] at s2
   rw[hf.1,cd] at s1
   simp only[hx,decide_true] at s1
   have hl2:((wlen r:Int)>0)=True:=by have:=zaT hr;simp;omega
   simp(disch:=omega)only[go_sem,seval,wqq,hl,hd,hx,hl2,hs,zpp]
   simp(disch:=omega)only[go_sem,seval,wqq,s1,hdf,s2]
   refine zc3 ⟨.inr ⟨11,4,rfl,by simp only[go_sem,seval]⟩,trivial⟩ ?_
   simp(disch:=omega)only[go_sem,seval,wqq]
 ·have hf:=zd4 (q:=q) (r:=r) h (by rw[if_neg hx];omega) (by omega)
  have s1:pf E0 36 [.b (!(decide (x.v<0)==decide (y.v<0))),Dw (wlen q) q]=_:=zaD (decide (x.v<0) != decide (y.v<0)) (wlen q) q (zag _) (by omega)
  have s2:=zaD false (wlen r) r (zag _) (by omega)
  rw[if_neg (by simp),hf.2,cm] at s2
  rw[hf.1,cd] at s1
  simp only[hx,decide_false] at s1
  simp(disch:=omega)only[go_sem,seval,wqq,hl,hd,hx,s1]
  simp(disch:=omega)only[go_sem,seval,wqq,s2]
  refine zc3 ⟨.inr ⟨11,4,rfl,by simp only[go_sem,seval]⟩,trivial⟩ ?_
  simp(disch:=omega)only[go_sem,seval,wqq]
theorem zkD (x y:WI):wlen (Nat.gcd x.v.natAbs y.v.natAbs)≤512:=by
 by_cases h:x.v.natAbs=0
 ·rw[h,Nat.gcd_zero_left];exact y.lim
 ·exact Nat.le_trans (zbb (Nat.gcd_le_left _ (Nat.pos_of_ne_zero h))) x.lim
def WI.gcd (x y:WI):WI:=⟨(Nat.gcd x.v.natAbs y.v.natAbs:Nat),by rw[Int.natAbs_natCast];exact zkD x y⟩
theorem zfm (x y:WI):pf E0 18 [wiP x,wiP y]=some (wiP (x.gcd y)):=by
 refine zad (xf:=zuu) rfl (by simp[zuu]) ?_
 simp only[zuu]
 have lx:=x.lim
 have ly:=y.lim
 have cg:clip ((Nat.gcd x.v.natAbs y.v.natAbs:Nat):Int)=x.gcd y:=zbA _
 simp(disch:=omega)only[go_sem,seval,wqq]
 refine zas zuY.eq_1 (fun(p:Nat×Nat) fr M=>Nat.gcd p.1 p.2=Nat.gcd x.v.natAbs y.v.natAbs∧wlen p.1≤512∧wlen p.2≤512∧fr 4=.p 2 0∧fr 5=D p.1∧fr 6=D p.2 ∧
  M=[some ⟨[.b (decide (x.v<0)),D x.v.natAbs],true,0⟩,some ⟨[.b (decide (y.v<0)),D y.v.natAbs],true,0⟩,some ⟨[.b false,.nl],true,0⟩]) (fun p=>p.2) ?_ (x.v.natAbs,y.v.natAbs) ⟨rfl,lx,ly,by simp only[go_sem,seval],by simp only[go_sem,seval],by simp only[go_sem,seval],rfl⟩
 rintro⟨a,b⟩ fr M ⟨hg,la,lb,h4,h5,h6,rfl⟩ ih
 simp only at hg la lb h5 h6
 by_cases hb:b=0
 ·subst hb
  rw[Nat.gcd_zero_right] at hg
  subst hg
  have s1:=zaD false (wlen (Nat.gcd x.v.natAbs y.v.natAbs)) _ (zag _) (by omega)
  rw[if_neg (by simp),cg] at s1
  simp(disch:=omega)only[go_sem,seval,wqq,h4,h5,h6,show wlen 0=0 from rfl,Int.natCast_zero,Int.lt_irrefl,s1]
 ·have hbp:=zaT hb
  have hd:=zf8 hb (a:=a) (by omega) (by omega)
  have hl:((wlen b:Int)>0)=True:=by simp;omega
  have ml:=Nat.mod_lt a (Nat.pos_of_ne_zero hb)
  have lm:=zbb (Nat.le_of_lt ml)
  simp(disch:=omega)only[go_sem,seval,wqq,h4,h5,h6,hl,hd]
  refine ih (b,a%b) _ _ ml ⟨by rw[←hg,Nat.gcd_comm b,←Nat.gcd_rec,Nat.gcd_comm],lb,by show wlen (a%b)≤512;omega,by simp only[go_sem,seval,h4],by simp only[go_sem,seval],by simp only[go_sem,seval],rfl⟩
attribute [go_sem] zfm
end Go.Eng
namespace Go.Eng
theorem znD:∃f:Nat→Nat→Nat,∀v i,f v i=v/10000^i%10000:=⟨fun v i=>v/10000^i%10000,fun _ _=>rfl⟩
noncomputable def tdg:Nat→Nat→Nat:=Classical.choose znD
theorem zse (i:Nat):0<10000^i:=Nat.pow_pos (by decide)
theorem zip:∃f:Nat→Nat,∀v n,f v≤n↔v<10000^n:=by
 have key:∀v:Nat,∃m,∀n,m≤n↔v<10000^n:=by
  intro v
  induction v using Nat.strongRecOn with
  | _ v ih =>
   by_cases h:v=0
   ·subst h;exact⟨0,fun n=>⟨fun _=>zse n,fun _=>Nat.zero_le _⟩⟩
   ·obtain⟨m,hm⟩:=ih (v/10000) (Nat.div_lt_self (by omega) (by decide))
    refine⟨m+1,fun n=>?_⟩
    cases n with
    | zero=>simp;omega
    | succ n =>
     rw[Nat.pow_succ,←Nat.div_lt_iff_lt_mul (by decide),←hm n];omega
 exact⟨fun v=>Classical.choose (key v),fun v=>Classical.choose_spec (key v)⟩
noncomputable def tlen:Nat→Nat:=Classical.choose zip
theorem zb4 {v n:Nat}:tlen v≤n↔v<10000^n:=Classical.choose_spec zip v n
theorem zdu (v:Nat):v<10000^tlen v:=zb4.1 (Nat.le_refl _)
theorem za0 {a b:Nat} (h:a≤b):tlen a≤tlen b:=by
 rw[zb4];exact Nat.lt_of_le_of_lt h (zdu b)
noncomputable def Tw (n v:Nat):PV:=.lst (tab n fun k=>(PV.i .i64 ((tdg v k:Nat):Int)))
noncomputable abbrev T (v:Nat):PV:=Tw (tlen v) v
end Go.Eng
namespace Go.Eng
def sgn (neg:Bool) (v:Nat):Int:=if neg then-(v:Int) else v
end Go.Eng
namespace Go.Eng
def Grows (M:PM) (v:PV) (xs:List PV):Prop :=
 (xs=[]∧v=.nl)∨∃k e,v=.sl k 0 xs.length xs.length 1∧PM.blk M k=some ⟨xs,true,e⟩
def NotIn (v:PV) (j:Nat):Prop:=match v with | .sl k _ _ _ _=>k≠j|_=>True
theorem zcR {by_:Nat} (hby:by_≤64) {M:PM} {v:PV} {xs:List PV} (h:Grows M v xs) (x:PV) (hl:xs.length<1000000000000) :
  ∃v' M',appP (M++[some (⟨[x],true,0⟩:PB)]) 1 by_ v (.sl M.length 0 1 1 1)=some (v',M')∧Grows M' v' (xs++[x])∧(∀j b,PM.blk M j=some b→NotIn v j→PM.blk M' j=some b∧NotIn v' j):=by
 have hs:srcP (M++[some (⟨[x],true,0⟩:PB)]) 1 (.sl M.length 0 1 1 1)=some (1,[x]):=by
  simp only[srcP,PM.rd,zbm];rfl
 rcases h with⟨rfl,rfl⟩|⟨k,e,rfl,hb⟩
 ·refine⟨.sl (M.length+1) 0 1 1 1,M++[some (⟨[x],true,0⟩:PB)]++[some (⟨[x],true,0⟩:PB)],?_,.inr ⟨M.length+1,0,rfl,?_⟩,?_⟩
  ·simp only[appP,hs];simp;omega
  ·have:=zbm (M++[some (⟨[x],true,0⟩:PB)]) (some (⟨[x],true,0⟩:PB))
   simpa using this
  ·intro j b hj _
   have hlt:=zbJ hj
   refine⟨?_,?_⟩
   ·rw[zaw] at hj ⊢
    rw[List.getElem?_append_left (by simp;omega),List.getElem?_append_left hlt];exact hj
   ·simp[NotIn];omega
 ·have hlt:=zbJ hb
  refine⟨.sl (M.length+1) 0 (xs.length+1) (xs.length+1) 1,(M++[some (⟨[x],true,0⟩:PB)]).set k none++[some (⟨xs++[x],true,0⟩:PB)],?_,.inr ⟨M.length+1,0,by simp,?_⟩,?_⟩
  ·have hb':PM.blk (M++[some (⟨[x],true,0⟩:PB)]) k=some ⟨xs,true,e⟩:=by
    rw[zaw] at hb ⊢
    rw[List.getElem?_append_left hlt];exact hb
   simp only[appP,hs,hb']
   have:(xs.length+1)*by_≤(xs.length+1)*64:=Nat.mul_le_mul_left _ hby
   simp
   omega
  ·have:=zbm ((M++[some (⟨[x],true,0⟩:PB)]).set k none) (some (⟨xs++[x],true,0⟩:PB))
   simpa using this
  ·intro j b hj hne
   have hltj:=zbJ hj
   refine⟨?_,?_⟩
   ·rw[zaw] at hj ⊢
    rw[List.getElem?_append_left (by simp;omega),List.getElem?_set_ne hne,List.getElem?_append_left hltj];exact hj
   ·simp[NotIn];omega
end Go.Eng
namespace Go.Eng
end Go.Eng
namespace Go.Eng
theorem zjv (a b:Nat):tlen (a+b)≤max (tlen a) (tlen b)+1:=by
 rw[zb4,Nat.pow_succ]
 have h1:=zdu a
 have h2:=zdu b
 have h3:10000^tlen a≤10000^max (tlen a) (tlen b):=Nat.pow_le_pow_right (by decide) (by omega)
 have h4:10000^tlen b≤10000^max (tlen a) (tlen b):=Nat.pow_le_pow_right (by decide) (by omega)
 omega
end Go.Eng
namespace Go.Eng
theorem zba {v n:Nat} (h:v<10000^n):tlen v≤n:=zb4.2 h
end Go.Eng
namespace Go.Eng
def two (i:Nat):Int:=((2^i:Nat):Int)
end Go.Eng
namespace Go.Eng
def aro (n m:Int):Int:=(if n<0 then-(n+1) else n)%m
def ints (xs:List Int):PV:=.lst (xs.map fun n=>.i .i64 n)
@[go_sem] theorem zmF (xs:List Int):lenP (ints xs)=some (.i .i64 (xs.length:Int)):=by simp[ints,lenP]
theorem zeH {xs:List Int} {j:Nat} {n:Int} (h:xs[j]?=some n):idxP 1 (ints xs) (some j)=some (.fp [.i .i64 n]):=by
 rw[ints,zfU]
 simp[h];rfl
def pick (xs:List Int) (i m:Int):Int:=if i<0∨(xs.length:Int)≤i then 0 else aro (xs.getD i.toNat 0) m
def Ints (xs:List Int):Prop:=xs.length≤9223372036854775807∧∀n∈xs,Fits64 n
end Go.Eng
namespace Go.Eng
@[go_sem] theorem zpg (M:PM) (d:Nat) (xs:List Int):fz M (d+1) (ints xs)=some (ints xs,[]):=_root_.id rfl
theorem zio (a b:Int):tlen (a+b).natAbs≤max (tlen a.natAbs) (tlen b.natAbs)+1 :=
 Nat.le_trans (za0 (Int.natAbs_add_le a b)) (zjv _ _)
theorem zbi (a b:Int):tlen (a*b).natAbs≤tlen a.natAbs+tlen b.natAbs:=by
 rw[Int.natAbs_mul,zb4,Nat.pow_add]
 exact Nat.mul_lt_mul'' (zdu _) (zdu _)
def numT (k:Nat):Int:=two (32*(k%7)+k/7%5*8)*(((k/35%9:Nat):Int)-4)+(((k/315%5:Nat):Int)-2)
def numS (xs:List Int) (at_:Int):Nat→Int
 | 0=>0
 | i+1=>numS xs at_ i+numT (pick xs (at_+1+i) 1000000).toNat
end Go.Eng
namespace Go.Eng
end Go.Eng
namespace Go.Eng
end Go.Eng
namespace Go.Eng
end Go.Eng
namespace Go.Eng
end Go.Eng
namespace Go.Eng
end Go.Eng
namespace Go.Eng
theorem ze8 (m:Nat):∀(n v:Nat),dtx (n+m) v=dtx n (v/10^m)++dtx m v
 | 0,v=>by simp[dtx]
 | n+1,v=>by
  rw[show n+1+m=(n+m)+1 by omega]
  show UInt8.ofNat (48+v/10^(n+m)%10)::dtx (n+m) v=UInt8.ofNat (48+v/10^m/10^n%10)::dtx n (v/10^m)++dtx m v
  rw[ze8 m n v,Nat.div_div_eq_div_mul,←Nat.pow_add,Nat.add_comm m n];rfl
theorem zg7:∀(n m v:Nat),n≤m→dtx n (v%10^m)=dtx n v
 | 0,_,_,_=>rfl
 | n+1,m,v,h=>by
  show UInt8.ofNat (48+v%10^m/10^n%10)::dtx n (v%10^m)=UInt8.ofNat (48+v/10^n%10)::dtx n v
  rw[zg7 n m v (by omega)]
  congr 2
  have e:(10:Nat)^m=10^n*(10*10^(m-n-1)):=by
   rw[←Nat.pow_succ',←Nat.pow_add];congr 1;omega
  rw[e,Nat.mod_mul_right_div_self,Nat.mod_mul_right_mod]
theorem zkv (n m v:Nat) (h:v<10^n) (hm:n≤m):dtx m v=List.replicate (m-n) 48++dtx n v:=by
 obtain⟨k,rfl⟩:∃k,m=k+n:=⟨m-n,by omega⟩
 rw[ze8 n k v,Nat.div_eq_of_lt h,Nat.add_sub_cancel]
 congr 1
 induction k with
 | zero=>rfl
 | succ k ih =>
  show UInt8.ofNat (48+0/10^k%10)::dtx k 0=_
  rw[ih (by omega),List.replicate_succ,Nat.zero_div];rfl
theorem zd3 {v:Nat} (h:v≠0):dec v=dtx (dlen v) v:=by unfold dec;rw[if_neg h]
end Go.Eng
namespace Go.Eng
end Go.Eng
namespace Go.Eng
theorem zcT {x y:Int}:(cmpI x y<0)=(x<y):=by
 unfold cmpI;apply propext
 constructor
 ·intro h
  split at h
  ·omega
  ·split at h<;>omega
 ·intro h
  split
  ·omega
  ·first|omega|(split<;>omega)
theorem zb5 {E:PEnv} {F:PFin} {ops:List XOper} {chk:List (Nat×Nat)} {ks:List KI} {fr:PFr} {M:PM} (hc:∀fr2 Ms,pOpsT E.glob (pcl E) ops fr M=some (fr2,Ms)→chk.all (chkP E.glob ops fr2 Ms)=true) (w:WL E F ops ks fr M):WK E F (.drw ops chk) ks fr M:=by
 obtain⟨lf,w⟩:=w
 refine⟨lf,?_⟩
 have key:pCode E.glob (pcl E) lf (.drw ops chk) fr M=(pOps E.glob (pcl E) ops fr M).map fun r=>(.normal,r.1,r.2):=by
  simp only[pCode]
  congr 1
  cases hops:pOps E.glob (pcl E) ops fr M with
  | none=>rw[hops] at w;exact(Ends.none w).elim
  | some r =>
   unfold pDrw
   by_cases h0:chk=[]
   ·rw[if_pos h0,hops]
   ·rw[if_neg h0]
    obtain⟨fr2,M2⟩:=r
    obtain⟨Ms,h1,h2⟩:=zbl hops
    rw[h1]
    have hall:chk.all (chkP E.glob ops fr2 Ms)=true:=by
     exact hc _ _ h1
    simp only[hall,if_true,h2,Option.map_some]
 rw[key]
 cases hops:pOps E.glob (pcl E) ops fr M with
 | none=>rw[hops] at w;exact(Ends.none w).elim
 | some r=>rw[hops] at w;exact w
theorem zgY {E:PEnv} {ops:List XOper} {fr fr2:PFr} {M:PM} {Ms:List PM} {i j s n o:Nat} {a b:XOper} {z:Bool} {k:Nat} (h1:pOpsT E.glob (pcl E) ops fr M=some (fr2,Ms)) (ha:ops[i]?=some a) (hb:ops[j]?=some b)
  (hop:a.op=.load z k (.t s)) (hcb:calmOp E b.op=true) (hall:(ops.all fun o=>o.dst != some s)=true) (hs:fr s=.p n o):chkP E.glob ops fr2 Ms (i,j)=true:=by
 have hk:=(za9 h1).2
 obtain⟨fri,A,B,q1,q2,q3,q4⟩:=zav h1 ha
 obtain⟨frj,C,D,p1,p2,p3,p4⟩:=zav h1 hb
 have p2':Ms[(i,j).2+1]?=some D:=p2
 have q2':Ms[(i,j).1+1]?=some B:=q2
 refine zbQ ?_
 simp only[chkP0,ha,q1,q2,p1,p2]
 rw[if_neg (by rw[hop];simp[XO.cls])]
 rw[hop]
 show chkV ops j (.t s) C D (fr2 s)=true
 rw[hk s hall,hs]
 show verP (some n) C D=true
 rcases p3 with⟨_,v,p3⟩|⟨_,p3⟩
 ·cases hop:b.op with
  | call f l =>
   rw[hop] at p3 hcb
   obtain⟨ns,rfl⟩:=zbW hcb p3
   exact zb2 ns C _
  | _=>rw[hop] at hcb;simp[calmOp] at hcb
 ·rw[p3];simp[verP]
end Go.Eng
namespace Go.Eng
end Go.Eng
namespace Go.Eng
noncomputable def E1:PEnv:={ E0 with prog:=fun f=>if f=33 then none else prog f,glob:=globT }
theorem zfM (a:List PV) (M:PM):pcl E1 48 a M=pclA E1 48 M (fzL (fz M fzD) a):=zae a M rfl
theorem zfN (a:List PV) (M:PM):pcl E1 49 a M=pclA E1 49 M (fzL (fz M fzD) a):=zae a M rfl
theorem zfO (a:List PV) (M:PM):pcl E1 50 a M=pclA E1 50 M (fzL (fz M fzD) a):=zae a M rfl
theorem zfP (a:List PV) (M:PM):pcl E1 51 a M=pclA E1 51 M (fzL (fz M fzD) a):=zae a M rfl
def XC.cut:XC→XC
 | .ret=>.fail
 | .seq a b=>.seq a.cut b.cut
 | .cond c a b=>.cond c a.cut b.cut
 | .block id a=>.block id a.cut
 | .loop a=>.loop a.cut
 | .scope a=>.scope a.cut
 | x=>x
theorem zeK {b b':PStep} (h:∀fr M o fr' M',b' fr M=some (o,fr',M')→b fr M=some (o,fr',M')∧o ≠ .ret):∀k fr M o fr' M',pLoop b' k fr M=some (o,fr',M')→pLoop b k fr M=some (o,fr',M')∧o ≠ .ret
 | 0,fr,M,o,fr',M',e=>by simp[pLoop] at e
 | k+1,fr,M,o,fr',M',e=>by
  simp only[pLoop] at e ⊢
  cases h1:b' fr M with
  | none=>rw[h1] at e;cases e
  | some r =>
   obtain⟨o1,fr1,M1⟩:=r
   obtain⟨g1,g2⟩:=h _ _ _ _ _ h1
   rw[h1] at e;rw[g1]
   cases o1 with
   | normal=>exact zeK h k _ _ _ _ _ e
   | exit i=>cases e;exact⟨rfl,g2⟩
   | ret=>exact(g2 rfl).elim
theorem zaY {G:Nat→Option (List AV)} {call:PCall} {lf:Nat}:∀(c:XC) fr M o fr' M',pCode G call lf c.cut fr M=some (o,fr',M')→pCode G call lf c fr M=some (o,fr',M')∧o ≠ .ret
 | .skip,fr,M,o,fr',M',e=>⟨e,by simp[XC.cut,pCode] at e;rw[←e.1];simp⟩
 | .ret,fr,M,o,fr',M',e=>by simp[XC.cut,pCode] at e
 | .exit id,fr,M,o,fr',M',e=>⟨e,by simp[XC.cut,pCode] at e;rw[←e.1];simp⟩
 | .fail,fr,M,o,fr',M',e=>by simp[XC.cut,pCode] at e
 | .scope a,fr,M,o,fr',M',e=>zaY a fr M o fr' M' e
 | .loop a,fr,M,o,fr',M',e=>zeK (zaY a) lf fr M o fr' M' e
 | .reg ops,fr,M,o,fr',M',e=>⟨e,by
   simp only[XC.cut,pCode,Option.map_eq_some_iff] at e
   obtain⟨q,_,e⟩:=e
   cases e;simp⟩
 | .drw ops chk,fr,M,o,fr',M',e=>⟨e,by
   simp only[XC.cut,pCode,Option.map_eq_some_iff] at e
   obtain⟨q,_,e⟩:=e
   cases e;simp⟩
 | .seq a b,fr,M,o,fr',M',e=>by
  simp only[XC.cut,pCode] at e ⊢
  cases h1:pCode G call lf a.cut fr M with
  | none=>rw[h1] at e;cases e
  | some r =>
   obtain⟨o1,fr1,M1⟩:=r
   obtain⟨g1,g2⟩:=zaY a _ _ _ _ _ h1
   rw[h1] at e;rw[g1]
   cases o1 with
   | normal=>exact zaY b _ _ _ _ _ e
   | exit i=>cases e;exact⟨rfl,g2⟩
   | ret=>exact(g2 rfl).elim
 | .cond x a b,fr,M,o,fr',M',e=>by
  simp only[XC.cut,pCode] at e ⊢
  split at e
  ·rename_i v hv
   cases v with
   | true=>exact zaY a _ _ _ _ _ e
   | false=>exact zaY b _ _ _ _ _ e
  ·cases e
 | .block id a,fr,M,o,fr',M',e=>by
  simp only[XC.cut,pCode] at e ⊢
  cases h1:pCode G call lf a.cut fr M with
  | none=>rw[h1] at e;cases e
  | some r =>
   obtain⟨o1,fr1,M1⟩:=r
   obtain⟨g1,g2⟩:=zaY a _ _ _ _ _ h1
   rw[h1] at e;rw[g1]
   cases o1 with
   | normal=>cases e;exact⟨rfl,g2⟩
   | exit i =>
    simp only at e ⊢
    split at e
    ·rename_i hi;cases e;rw[if_pos hi];exact⟨rfl,by simp⟩
    ·rename_i hi;cases e;rw[if_neg hi];exact⟨rfl,g2⟩
   | ret=>exact(g2 rfl).elim
theorem ziJ {x e k:Nat} (hx:x≠0) (hk:0<k) (he:e<10^k):dec (x*10^k+e)=dec x++dtx k e:=by
 have hp:0<10^k:=Nat.pow_pos (by decide)
 have hdv:(x*10^k+e)/10^k=x:=by rw[Nat.mul_comm,Nat.mul_add_div hp,Nat.div_eq_of_lt he,Nat.add_zero]
 have hmd:(x*10^k+e)%10^k=e:=by rw[Nat.mul_comm,Nat.mul_add_mod,Nat.mod_eq_of_lt he]
 have hge:10^k≤x*10^k+e:=Nat.le_trans (Nat.le_mul_of_pos_left _ (Nat.pos_of_ne_zero hx)) (Nat.le_add_right _ _)
 have hd:dlen (x*10^k+e)=dlen x+k:=by
  have h1:∀m,dlen x≤m↔dlen (x*10^k+e)≤m+k:=fun m=>by
   rw[zaR,zaR,Nat.pow_add,←Nat.div_lt_iff_lt_mul hp,hdv]
  have k1:=(h1 (dlen x)).1 (Nat.le_refl _)
  have k2:k≤dlen (x*10^k+e):=by
   rcases Nat.lt_or_ge (dlen (x*10^k+e)) k with q|q
   ·have h3:=zcA (x*10^k+e)
    have:10^dlen (x*10^k+e)≤10^k:=Nat.pow_le_pow_right (by decide) (by omega)
    omega
   ·exact q
  have k4:=(h1 (dlen (x*10^k+e)-k)).2 (by omega)
  omega
 rw[zd3 (by omega),zd3 hx,hd,ze8,hdv,←zg7 k k _ (Nat.le_refl _),hmd]
theorem zlC {e:Nat} (he:e<1000000000):(dec e).length≤9∧(List.replicate (9-(dec e).length) [(48:UInt8)]).flatten++dec e=dtx 9 e:=by
 have fl:∀n,(List.replicate n [(48:UInt8)]).flatten=List.replicate n 48:=fun n=>by
  induction n with
  | zero=>rfl
  | succ n ih=>rw[List.replicate_succ,List.flatten_cons,ih,List.replicate_succ];rfl
 rw[fl]
 by_cases h:e=0
 ·subst h;decide
 ·have h9:dlen e≤9:=zaR.2 he
  rw[zd3 h,zcB]
  exact⟨h9,(zkv _ _ _ (zcA e) h9).symm⟩
theorem zeA {z:Nat} (h:z≠0):dlen (z/1000000000)+1≤dlen z:=by
 have h1:=zcA z
 have h2:0<dlen z:=by
  rcases Nat.eq_zero_or_pos (dlen z) with q|q
  ·rw[q] at h1;simp at h1;omega
  ·exact q
 have:dlen (z/1000000000)≤dlen z-1:=by
  rw[zaR]
  refine Nat.lt_of_le_of_lt (Nat.div_le_div_left (by decide:10≤1000000000) (by decide)) ?_
  rw[Nat.div_lt_iff_lt_mul (by decide),←Nat.pow_succ,show (dlen z-1).succ=dlen z by omega]
  exact h1
 omega
theorem zjP {v:Nat} (h:wlen v≤512):dlen v≤16384:=by
 have h1:=zaM.1 h
 obtain⟨n,hn⟩:∃n,n=512:=⟨_,rfl⟩
 rw[←hn] at h1
 have h2:(4294967296:Nat)^n≤(10^32)^n:=Nat.pow_le_pow_left (by decide) n
 rw[←Nat.pow_mul] at h2
 have:dlen v≤32*n:=zaR.2 (Nat.lt_of_lt_of_le h1 h2)
 omega
def strA:XC :=
 .seq (.reg [⟨some 1,.box (.t 0),[],none⟩,⟨some 2,.mov (.k (.s [])),[],none⟩]) (.seq (.seq (.reg [⟨some 10,.fad 1 (.t 1),[],none⟩,⟨some 11,.load false 1 (.t 10),[0],none⟩,⟨some 12,.len (.t 11),[1],none⟩,⟨some 13,.bin .eql (.t 12) (.k (.i .i64 0)),[2],none⟩]) (.cond (.t 13) (.seq (.reg [⟨some 2,.mov (.k (.s [48])),[],none⟩]) .ret) .skip)) (.seq (.reg [⟨some 3,.mov (.k .sn),[],none⟩]) (.seq (.reg [⟨some 14,.fad 1 (.t 1),[],none⟩,⟨some 15,.load false 1 (.t 14),[0],none⟩,⟨some 4,.mov (.t 15),[1,0,1],none⟩]) (.block 0 (.loop ztb)))))
def strQ (neg:Bool) (v:Nat) (w:PV) (M:PM):Prop:=∃p ps,w=.tu [.p 0 0,p]∧Grows M p (ps.map PV.s)∧ps≠[]∧ps.length≤20000∧ps.reverse.flatten=dec v∧PM.blk M 0=some ⟨[.b neg,D v],true,0⟩
theorem znB {neg:Bool} {v:Nat} (h0:v≠0) (hl:wlen v≤512):WK E1 ⟨[.tmp 1,.tmp 3],strQ neg v⟩ strA.cut [] (frOf [.ag [.b neg,D v]]) []:=by
 simp only[strA,XC.cut]
 have hpos:=zaT h0
 have q0:((wlen v:Int)=0)=False:=by simp;omega
 have hcl:XC.cut ztb=ztb:=rfl
 rw[hcl]
 simp(disch:=omega)only[go_sem,seval,wqq,q0]
 refine zas ztb.eq_1 (fun(z:Nat) fr M=>wlen z≤512∧fr 1=.p 0 0∧fr 4=D z∧∃ps:List (List UInt8),Grows M (fr 3) (ps.map PV.s)∧NotIn (fr 3) 0∧(z=0→ps≠[])∧ps.length+dlen z≤20000∧(if z=0 then [] else dec z)++ps.reverse.flatten=dec v∧PM.blk M 0=some ⟨[.b neg,D v],true,0⟩) id ?_ v ⟨hl,by simp only[go_sem,seval],by simp only[go_sem,seval],[],.inl ⟨rfl,by simp only[go_sem,seval]⟩,by simp only[go_sem,seval];trivial,fun h=>(h0 h).elim,?_,by rw[if_neg h0];simp,rfl⟩
 ·rintro z fr M ⟨hz,h1,h4,ps,hg,hni,hne,hpl,htx,hb⟩ ih
  by_cases hz0:z=0
  ·have q1:((wlen z:Int)>0)=False:=by rw[hz0,zby];simp
   have htx':ps.reverse.flatten=dec v:=by rw[if_pos hz0] at htx;simpa using htx
   simp(disch:=omega)only[go_sem,seval,wqq,h1,h4,q1]
   exact⟨_,ps,rfl,hg,hne hz0,by omega,htx',hb⟩
  ·have q1:((wlen z:Int)>0)=True:=by have:=zaT hz0;simp;omega
   have hzl:=zag z
   have h48:pf E1 48 [Dw (wlen z) z,.i .u32 1000000000]=some (.tu [Dw (wlen z) (z/1000000000),(PV.i .u32 ((z%1000000000:Nat):Int))]):=by
    have:=zgb (E:=E1) rfl (n:=wlen z) (a:=z) (w:=1000000000) hzl (by decide) (by decide) (by omega)
    simpa only[Int.cast_ofNat_Int] using this
   have hz':z/1000000000<4294967296^wlen z:=Nat.lt_of_le_of_lt (Nat.div_le_self _ _) hzl
   have h49:=zeN (E:=E1) rfl (wlen z) (z/1000000000) hz' (by omega)
   have hr:z%1000000000<1000000000:=Nat.mod_lt _ (by decide)
   have h50:pf E1 50 [.i .i64 ((z%1000000000:Nat):Int)]=some (.s (dec (z%1000000000))):=zgd (o:=orcA 50) (w:=.s (dec (z%1000000000))) (M2:=[]) rfl (by
    have hd:decI ((z%1000000000:Nat):Int)=dec (z%1000000000):=by unfold decI;rw[if_neg (by omega),Int.natAbs_natCast]
    have hf:Fits64 ((z%1000000000:Nat):Int):=⟨by omega,by omega⟩
    show orcP 50 _ []=_
    simp only[orcP,libP]
    rw[if_neg (by decide),if_pos ⟨trivial,hf⟩,hd];rfl) rfl
   obtain⟨r1,r2⟩:=zlC hr
   have hze:z=z/1000000000*10^9+z%1000000000:=by
    show z=z/1000000000*1000000000+z%1000000000;omega
   have hwl:wlen (z/1000000000)≤512:=Nat.le_trans (zaM.2 hz') hz
   by_cases hz2:z/1000000000=0
   ·have q2:((wlen (z/1000000000):Int)>0)=False:=by rw[hz2,zby];simp
    obtain⟨v',M',he,hg',hk⟩:=zcR (by_:=16) (by decide) hg (.s (dec (z%1000000000))) (by simp;omega)
    obtain⟨k1,k2⟩:=hk 0 _ hb hni
    simp(disch:=omega)only[go_sem,seval,wqq,h1,h4,q1,q2,zfM,zfN,zfO,zfP,h48,h49,h50,he]
    have hzr:z%1000000000=z:=by omega
    rw[if_neg hz0] at htx
    refine ih (z/1000000000) _ M' (by simp only[id];omega) ⟨hwl,by simp only[go_sem,seval,h1],by simp only[go_sem,seval],ps++[dec (z%1000000000)],by simp only[go_sem,seval];simpa using hg',by simp only[go_sem,seval];exact k2,fun _=>by simp,?_,?_,k1⟩
    ·have:=zeA hz0
     simp only[List.length_append,List.length_cons,List.length_nil];omega
    ·rw[if_pos hz2,hzr,List.reverse_append];simpa using htx
   ·have q2:((wlen (z/1000000000):Int)>0)=True:=by have:=zaT hz2;simp;omega
    obtain⟨v',M',he,hg',hk⟩:=zcR (by_:=16) (by decide) hg (.s (dtx 9 (z%1000000000))) (by simp;omega)
    obtain⟨k1,k2⟩:=hk 0 _ hb hni
    have i9:(9:Int)-((dec (z%1000000000)).length:Int)=((9-(dec (z%1000000000)).length:Nat):Int):=by omega
    have h51:pf E1 51 [.s [48],.i .i64 ((9-(dec (z%1000000000)).length:Nat):Int)]=some (.s (List.replicate (9-(dec (z%1000000000)).length) [(48:UInt8)]).flatten):=zgd (o:=orcA 51) (w:=.s (List.replicate (9-(dec (z%1000000000)).length) [(48:UInt8)]).flatten) (M2:=[]) rfl (by
     show orcP 51 _ []=_
     simp only[orcP,libP]
     rw[if_neg (by decide),if_pos ⟨trivial,by omega,by omega,by simp⟩];rfl) rfl
    have hadd:binP .add (.s (List.replicate (9-(dec (z%1000000000)).length) [(48:UInt8)]).flatten) (.s (dec (z%1000000000)))=some (.s (dtx 9 (z%1000000000))):=by
     have hlen:=congrArg List.length r2
     rw[List.length_append,zcB] at hlen
     rw[zd0 _ _ (by omega),r2]
    generalize (List.replicate (9-(dec (z%1000000000)).length) [(48:UInt8)]).flatten=pd at *
    simp(disch:=omega)only[go_sem,seval,wqq,h1,h4,q1,q2,zfM,zfN,zfO,zfP,h48,h49,h50,i9,h51,hadd,he]
    rw[if_neg hz0] at htx
    refine ih (z/1000000000) _ M' (by simp only[id];omega) ⟨hwl,by simp only[go_sem,seval,h1],by simp only[go_sem,seval],ps++[dtx 9 (z%1000000000)],by simp only[go_sem,seval];simpa using hg',by simp only[go_sem,seval];exact k2,fun _=>by simp,?_,?_,k1⟩
    ·have:=zeA hz0
     simp only[List.length_append,List.length_cons,List.length_nil];omega
    ·have hm:=ziJ (k:=9) hz2 (by decide) hr
     rw[←hze] at hm
     rw[if_neg hz2,List.reverse_append,←htx,hm]
     simp
 ·have h1:=zjP hl
  simp only[List.length_nil];omega
end Go.Eng
namespace Go.Eng
theorem zjp {neg : Bool} {v : Nat} (h0 : v ≠ 0) (hl : wlen v ≤ 512) : ∃ lf fr M p ps, pCode E1.glob (pvF E1 lf) lf strA (frOf [.ag [.b neg, D v]]) [] = some (.normal, fr, M) ∧ fr 1 = .p 0 0 ∧ fr 3 = p ∧ Grows M p (ps.map PV.s) ∧ ps ≠ [] ∧ ps.length ≤ 20000 ∧ ps.reverse.flatten = dec v ∧ PM.blk M 0 = some ⟨[.b neg, D v], true, 0⟩ := by
  obtain ⟨lf, q, fr, M, vs, e, h1, h2, h3⟩ := znB (neg := neg) h0 hl
  simp only [Option.bind_eq_some_iff] at e
  obtain ⟨⟨o, fr1, M1⟩, e1, e2⟩ := e
  simp only [unw] at e2
  cases e2
  obtain ⟨e3, hno⟩ := zaY _ _ _ _ _ _ e1
  have hq : q = .normal := by
    cases q with
    | normal => rfl
    | exit i => exact (h1 i rfl).elim
    | ret => exact (hno rfl).elim
  subst hq
  obtain ⟨k, e4⟩ := zaE _ e3
  have e5 := zaB (zbL (Nat.le_max_left k lf)) (Nat.le_max_right k lf) _ e4
  simp only [pRes, pResOne] at h2
  cases h2
  obtain ⟨p, ps, g1, g2, g3, g4, g5, g6⟩ := h3
  simp only [packP, PV.tu.injEq, List.cons.injEq, and_true] at g1
  exact ⟨max k lf, fr, M, p, ps, e5, g1.1, g1.2, g2, g3, g4, g5, g6⟩
theorem zlM (a : List Nat) (x : Nat) : val (a ++ [x]) = val a + 4294967296 ^ a.length * x := by
  induction a with
  | nil => simp [val]
  | cons y a ih => simp only [List.cons_append, val, ih, List.length_cons, Nat.pow_succ]; grind
theorem zi3 {xs : List Nat} (h : Ok32 xs) (hz : xs.getLast? ≠ some 0) : xs = dig (val xs) := by
  have hlen : wlen (val xs) = xs.length := by
    rcases List.eq_nil_or_concat xs with rfl | ⟨a, x, rfl⟩
    · rfl
    · rw [List.concat_eq_append] at h hz ⊢
      have hx : x ≠ 0 := fun e => by subst e; simp at hz
      have h1 : wlen (val (a ++ [x])) ≤ (a ++ [x]).length := zaM.2 (zki h)
      have h2 : ¬ wlen (val (a ++ [x])) ≤ a.length := fun q => by
        have := zaM.1 q
        rw [zlM] at this
        have : 4294967296 ^ a.length * 1 ≤ 4294967296 ^ a.length * x := Nat.mul_le_mul_left _ (by omega)
        omega
      simp at h1 ⊢
      omega
  unfold dig
  rw [hlen]
  exact zmp h
theorem zdx : ∀ {cs : List AV} {xs : List Nat}, wordsA cs = some xs → cs = xs.map (fun n => .i .u32 (n : Int)) ∧ Ok32 xs
  | [], xs, e => by simp [wordsA] at e; subst e; exact ⟨rfl, fun x hx => by cases hx⟩
  | c :: cs, xs, e => by
    unfold wordsA at e
    split at e
    · rename_i he; cases he
    · rename_i n l he
      cases he
      split at e
      · rename_i hn
        simp only [Option.map_eq_some_iff] at e
        obtain ⟨ys, e1, rfl⟩ := e
        obtain ⟨p1, p2⟩ := zdx e1
        refine ⟨by rw [p1, List.map_cons, Int.toNat_of_nonneg hn.1], fun x hx => ?_⟩
        rcases List.mem_cons.1 hx with rfl | hx
        · omega
        · exact p2 x hx
      · cases e
    · cases e
theorem zgs {neg : Bool} {w : AV} {h : Hp} {l : List UInt8} (e : txtA [.ag [.b neg, w]] h = some l) (hcap : ∀ n off len cap z, w = .sl n off len cap z → len ≤ cap) :
    ∃ v, wlen v ≤ 512 ∧ (neg = true → v ≠ 0) ∧ l = decI (if neg then -(v : Int) else (v : Int)) ∧ V h (fun _ => False) [] (D v) w := by
  have nil : ∀ {l}, wtx neg [] = some l → (neg = true → False) ∧ l = decI (if neg then -((0 : Nat) : Int) else ((0 : Nat) : Int)) := fun {l} e => by
    unfold wtx at e
    split at e
    · rename_i hc; cases e; exact ⟨fun hn => hc.2.2 hn rfl, rfl⟩
    · cases e
  have D0 : D 0 = .lst [] := rfl
  have fin0 : ∀ {l}, wtx neg [] = some l → V h (fun _ => False) [] (.lst []) w → ∃ v, wlen v ≤ 512 ∧ (neg = true → v ≠ 0) ∧ l = decI (if neg then -(v : Int) else (v : Int)) ∧ V h (fun _ => False) [] (D v) w := fun {l} e hv => by
    obtain ⟨n1, n2⟩ := nil e
    exact ⟨0, by rw [zby]; omega, fun hn => (n1 hn).elim, n2, by rw [D0]; exact hv⟩
  unfold txtA at e
  split at e
  · rename_i neg' n off len cap z heq
    simp only [List.cons.injEq, AV.ag.injEq, AV.b.injEq, and_true] at heq
    obtain ⟨rfl, rfl⟩ := heq
    split at e
    · rename_i h0
      subst h0
      exact fin0 e (.lst0 n off cap z)
    · rename_i h0
      split at e
      · rename_i hz
        subst hz
        simp only [Option.bind_eq_some_iff] at e
        obtain ⟨xs, ⟨cs, e1, e2⟩, e3⟩ := e
        obtain ⟨w1, w2⟩ := zdx e2
        unfold wtx at e3
        split at e3
        · rename_i hc
          cases e3
          have hd := zi3 w2 hc.2.1
          have hlen : cs.length = len := by
            unfold Hp.rd at e1
            split at e1
            · rename_i b hb
              split at e1
              · cases e1; simp; omega
              · cases e1
            · cases e1
          have hxl : xs.length = len := by rw [← hlen, w1, List.length_map]
          have hwl : wlen (val xs) = len := by rw [← hxl]; conv => rhs; rw [hd]
                                               simp
          have hD : D (val xs) = .lst (xs.map fun n => (PV.i .u32 ((n : Nat) : Int))) := by
            have : W (dig (val xs)) = D (val xs) := zqC _ _
            rw [← this, ← hd]; rfl
          refine ⟨val xs, by omega, fun hn h0' => ?_, rfl, ?_⟩
          · rw [h0', zby] at hwl; omega
          · rw [hD]
            unfold Hp.rd at e1
            split at e1
            · rename_i b hb
              split at e1
              · rename_i hle
                cases e1
                have hfl : flat (xs.map fun n => (PV.i .u32 ((n : Nat) : Int))) = xs.map fun n => (PV.i .u32 ((n : Nat) : Int)) := by
                  clear hD hwl hxl hlen hd hc w1 e2 w2
                  induction xs with
                  | nil => rfl
                  | cons x xs ih => rw [List.map_cons]; show [(PV.i .u32 ((x : Nat) : Int))] ++ flat _ = _; rw [ih]; rfl
                have hg : ∀ i (hi : i < xs.length), b.v[off + i]? = some (.i .u32 ((xs[i] : Nat) : Int)) := fun i hi => by
                  have : ((b.v.drop off).take len)[i]? = some (.i .u32 ((xs[i] : Nat) : Int)) := by
                    rw [w1, List.getElem?_map, List.getElem?_eq_getElem hi]; rfl
                  rw [List.getElem?_take, if_pos (by omega), List.getElem?_drop] at this
                  exact this
                have hl : (xs.map fun n => (PV.i .u32 ((n : Nat) : Int))).length = len := by rw [List.length_map, hxl]
                have := V.lst (D := fun _ => False) (r := []) (xs := xs.map fun n => (PV.i .u32 ((n : Nat) : Int))) (m := n) (off := off) (cap := cap) (z := 1) (fun i => .i .u32 ((xs.getD i 0 : Nat) : Int)) hb (fun q => q) (by rw [hfl]; simp [PV.scal]) (by decide) (fun x hx => by
                  obtain ⟨y, _, rfl⟩ := List.mem_map.1 hx; rfl) (by rw [hl]; exact hcap n off len cap 1 rfl) (fun i hi => by
                  rw [hfl, List.length_map] at hi
                  rw [hg i hi, List.getD, List.getElem?_eq_getElem hi]; rfl) (fun i hi => by
                  have hi' : i < xs.length := by rw [hfl, List.length_map] at hi; exact hi
                  have e : (flat (xs.map fun n => (PV.i .u32 ((n : Nat) : Int))))[i] = (PV.i .u32 ((xs[i] : Nat) : Int)) := by simp only [hfl]; rw [List.getElem_map]
                  rw [e, List.getD, List.getElem?_eq_getElem hi']
                  exact .i _ _)
                rw [hl] at this
                exact this
              · cases e1
            · cases e1
        · cases e3
      · cases e
  · rename_i neg' heq
    simp only [List.cons.injEq, AV.ag.injEq, AV.b.injEq, and_true] at heq
    obtain ⟨rfl, rfl⟩ := heq
    exact fin0 e .lsn
  · rename_i neg' heq
    simp only [List.cons.injEq, AV.ag.injEq, AV.b.injEq, and_true] at heq
    obtain ⟨rfl, rfl⟩ := heq
    exact fin0 e .lse
  · rename_i neg' heq
    simp only [List.cons.injEq, AV.ag.injEq, AV.b.injEq, and_true] at heq
    obtain ⟨rfl, rfl⟩ := heq
    exact fin0 e .le0
  · cases e
end Go.Eng
namespace Go.Eng
def HasT (h:Hp):Prop:=∃b,h.m 0=some b∧b.v=powT
theorem zhC (m:Nat):¬DM [] [] m:=fun d=>by
 obtain⟨n,b,q,_⟩:=d
 simp at q
theorem PInv.start {h:Hp} (w:h.wf) (t:HasT h):PInv globT (fun _=>False) [] [] h:=by
 refine⟨rfl,fun i j m q=>by simp at q,fun m q=>by simp at q,w,fun n m q=>by simp at q,fun n b m q=>by simp at q,fun m d=>d.elim,fun g l q=>?_⟩
 unfold globT at q
 split at q
 ·rename_i hg
  cases q;subst hg
  obtain⟨b,t1,t2⟩:=t
  refine⟨b,t1,⟨t2,by decide⟩,fun d=>?_⟩
  rcases d with d|d
  ·exact d
  ·exact zhC _ d
 ·cases q
theorem VL.dd {h:Hp} {args:List PV} {asq:List AV} (v:VL h (fun _=>False) [] args asq):VL h (DD (fun _=>False) [] []) [] args asq :=
 v.anti fun m d=>by
  rcases d with d|d
  ·exact d
  ·exact(zhC _ d).elim
theorem zgV {h:Hp} {D:Nat→Prop} {r:List Nat}:∀{ps:List (List UInt8)} {l:List AV},VL h D r (ps.map PV.s) l→l=ps.map AV.s
 | [],l,v=>v.of_nil
 | x::ps,l,v=>by
  obtain⟨y,ys,e1,e2,e3⟩:=v.uncons
  rw[e1,List.map_cons,←zgV e3]
  cases e2;rfl
theorem zlH (K:PEnvOk E1) {neg:Bool} {v:Nat} {w:AV} {h:Hp} (hw:h.wf) (t:HasT h) (h0:v≠0) (hl:wlen v≤512) (hv:V h (fun _=>False) [] (D v) w) :
  ∃lf fr' h' m0 m len cap ps,evCode (evF E1.prog lf) lf strA ([.ag [.b neg,w]]++List.replicate 57 undefA) h=some (.normal,fr',h')∧fr'.length=58∧fr'.getD 1 undefA=.p m0 0∧(∃b,h'.m m0=some b∧b.v[0]?=some (.b neg)) ∧
   fr'.getD 3 undefA=.sl m 0 len cap 1∧(∃b,h'.m m=some b∧b.v=ps.map AV.s)∧len=ps.length∧ps≠[]∧ps.length≤20000∧ps.reverse.flatten=dec v:=by
 obtain⟨lf,fr,M,p,ps,e,f1,f3,hg,g1,g2,g3,hb⟩:=zjp (neg:=neg) h0 hl
 have hv0:VL h (DD (fun _=>False) [] []) [] [.ag [.b neg,D v]] [.ag [.b neg,w]] :=
  VL.dd (.cons ((fun q:VL h (fun _=>False) [] [.b neg,D v] [.b neg,w]=>V.ag q.1 q.2) (.cons (.b neg) (.cons hv .nil))) .nil)
 have F0:VFr h (DD (fun _=>False) [] []) [] (frOf [.ag [.b neg,D v]]) ([.ag [.b neg,w]]++List.replicate 57 undefA):=by
  intro k
  cases k with
  | zero=>exact hv0.2 0 (by simp) (by simp)
  | succ k =>
   have e2:([AV.ag [.b neg,w]]++List.replicate 57 undefA).getD (k+1) undefA=undefA:=by
    simp only[List.singleton_append,List.getD,List.getElem?_cons_succ,List.getElem?_replicate]
    split<;>rfl
   rw[e2]
   exact .junk _ rfl fun _ q=>by cases q
 obtain⟨fr',h',r',q1,q2,q3,q4,q5⟩:=zaS (zgj K lf) lf strA rfl _ _ _ _ _ _ _ _ e (PInv.start hw t) F0 rfl
 have a1:=q4 1
 rw[f1] at a1
 have a3:=q4 3
 rw[f3] at a3
 rcases hg with⟨hn,_⟩|⟨k,ev,rfl,hk⟩
 ·simp at hn;exact(g1 hn).elim
 rw[zaw] at hb hk
 generalize ha1:fr'.getD 1 undefA=A1 at a1
 generalize ha3:fr'.getD 3 undefA=A3 at a3
 cases a1 with
 | @p _ _ m0 _ hm0 =>
  cases a3 with
  | @sl _ _ m _ len cap z hm hlc =>
   obtain⟨b0,c1,c2,c3,c4,c5⟩:=q2.blk 0 _ m0 hb hm0
   obtain⟨b1,d1,d2,d3,d4,d5⟩:=q2.blk k _ m hk hm
   refine⟨lf,fr',h',m0,m,_,_,ps,q1,q5,ha1,⟨b0,c1,?_⟩,ha3,⟨b1,d1,?_⟩,by simp,g1,g2,g3⟩
   ·obtain⟨x,xs,e1,e2,e3⟩:=c4.uncons
    rw[e1]
    cases e2;rfl
   ·exact zgV d4
theorem zlG (K:PEnvOk E1) {w:AV} {h:Hp} (hw:h.wf) (t:HasT h) (hv:V h (fun _=>False) [] (D 0) w) :
  ∃lf fr' h',evCode (evF E1.prog lf) lf strA ([.ag [.b false,w]]++List.replicate 57 undefA) h=some (.ret,fr',h')∧fr'.getD 2 undefA=.s [48]:=by
 have wk:WK E1 ⟨[.tmp 2],fun q _=>q=.s [48]⟩ (.seq strA .fail) [] (frOf [.ag [.b false,D 0]]) []:=by
  simp only[strA]
  have q0:((wlen 0:Int)=0)=True:=by rw[zby];simp
  simp(disch:=omega)only[go_sem,seval,wqq,q0]
 obtain⟨lf,q,fr,M,vs,e,h1,h2,h3⟩:=wk
 simp only[Option.bind_eq_some_iff] at e
 obtain⟨⟨o,fr1,M1⟩,e1,e2⟩:=e
 simp only[unw] at e2
 cases e2
 have e0:pCode E1.glob (pcl E1) lf strA (frOf [.ag [.b false,D 0]]) []=some (.ret,fr,M):=by
  simp only[pCode] at e1
  cases hs:pCode E1.glob (pcl E1) lf strA (frOf [.ag [.b false,D 0]]) [] with
  | none=>rw[hs] at e1;cases e1
  | some r =>
   obtain⟨o2,fr2,M2⟩:=r
   rw[hs] at e1
   cases o2 with
   | normal=>cases e1
   | exit i=>cases e1;exact(h1 i rfl).elim
   | ret=>cases e1;rfl
 obtain⟨k,e4⟩:=zaE _ e0
 have e5:=zaB (zbL (Nat.le_max_left k lf)) (Nat.le_max_right k lf) _ e4
 simp only[pRes,pResOne] at h2
 cases h2
 simp only[packP] at h3
 have hv0:VL h (DD (fun _=>False) [] []) [] [.ag [.b false,D 0]] [.ag [.b false,w]] :=
  VL.dd (.cons ((fun q:VL h (fun _=>False) [] [.b false,D 0] [.b false,w]=>V.ag q.1 q.2) (.cons (.b false) (.cons hv .nil))) .nil)
 have F0:VFr h (DD (fun _=>False) [] []) [] (frOf [.ag [.b false,D 0]]) ([.ag [.b false,w]]++List.replicate 57 undefA):=by
  intro k
  cases k with
  | zero=>exact hv0.2 0 (by simp) (by simp)
  | succ k =>
   have e2:([AV.ag [.b false,w]]++List.replicate 57 undefA).getD (k+1) undefA=undefA:=by
    simp only[List.singleton_append,List.getD,List.getElem?_cons_succ,List.getElem?_replicate]
    split<;>rfl
   rw[e2]
   exact .junk _ rfl fun _ q=>by cases q
 obtain⟨fr',h',r',q1,q2,q3,q4,q5⟩:=zaS (zgj K (max k lf)) (max k lf) strA rfl _ _ _ _ _ _ _ _ e5 (PInv.start hw t) F0 rfl
 have a2:=q4 2
 rw[h3] at a2
 generalize ha2:fr'.getD 2 undefA=A2 at a2
 cases a2
 exact⟨_,fr',h',q1,ha2⟩
end Go.Eng
namespace Go.Eng
variable {F:Nat} {key:Nat→Option FuncId}
theorem Ext.below {l:Loc} {h:Hp} {w w':World} {B:Nat} (hB:w.heap.size≤B) (b:RowKit.Below B w w'):Ext l h w l h w' :=
 ⟨l.le_refl,.refl h,fun _ _ e=>.inl e,b.size,b.os,b.tape,b.output,fun k hk _=>b.block k (Nat.lt_of_lt_of_le hk hB)⟩
theorem Sim.below {l:Loc} {h:Hp} {w w':World} {B:Nat} (S:Sim key F l h w) (hB:w.heap.size≤B) (b:RowKit.Below B w w'):Sim key F l h w' :=
 ⟨fun n blk a e1 e2=>(S.holds n blk a e1 e2).move l.le_refl b.size (b.block _ (Nat.lt_of_lt_of_le (S.lt n a e2) hB)),S.apart,fun n a e=>Nat.lt_of_lt_of_le (S.lt n a e) b.size,S.dom,S.wf⟩
theorem zbu {P:Program} {l:Loc} {h:Hp} {w:World} {g:FuncId} {vs:Array Value} {v:AV} {val:Value} (S:Sim key F l h w)
  (c:Calls P g vs w fun e w'=>e=.returned val∧RowKit.Below w.heap.size w w') (r:Rel key l v val) :
  Calls P g vs w fun e w'=>∃l' val,e=.returned val∧Ext l h w l' h w'∧Sim key F l' h w'∧Rel key l' v val :=
 c.mono fun e w' ⟨e1,b⟩=>⟨l,val,e1,.below (Nat.le_refl _) b,S.below (Nat.le_refl _) b,r⟩
theorem zep {l:Loc} (bs:List UInt8):Rel key l (.s bs) (.string ⟨bs.toArray⟩):=by
 have:=Rel.s (key:=key) (l:=l) (⟨bs.toArray⟩:ByteArray)
 simpa using this
end Go.Eng
namespace Go.Eng
open Go.Proofs Go.RowKit Go.Shelf
theorem zg3 {v:Nat} (h:v<10):dec v=[UInt8.ofNat (48+v)]:=by
 unfold dec
 split
 ·rename_i h0;subst h0;rfl
 ·rename_i h0
  have hd:dlen v=1:=by
   have h1:dlen v≤1:=zaR.2 (by omega)
   have h2:=zcA v
   rcases Nat.eq_zero_or_pos (dlen v) with q|q
   ·rw[q] at h2;simp at h2;omega
   ·omega
  rw[hd]
  show [UInt8.ofNat (48+v/10^0%10)]=_
  rw[Nat.pow_zero,Nat.div_one,Nat.mod_eq_of_lt h]
theorem zfL:∀(n v:Nat),dtx (n+1) v=dtx n (v/10)++[UInt8.ofNat (48+v%10)]
 | 0,v=>by show [UInt8.ofNat (48+v/10^0%10)]=_;rw[Nat.pow_zero,Nat.div_one];rfl
 | n+1,v=>by
  show UInt8.ofNat (48+v/10^(n+1)%10)::dtx (n+1) v=(UInt8.ofNat (48+v/10/10^n%10)::dtx n (v/10))++_
  rw[zfL n v,Nat.div_div_eq_div_mul,←Nat.pow_succ'];rfl
theorem zkp {v:Nat} (h:¬v<10):dec v=dec (v/10)++[UInt8.ofNat (48+v%10)]:=by
 have hd:dlen v=dlen (v/10)+1:=by
  have k:∀m,dlen (v/10)≤m↔dlen v≤m+1:=fun m=>by
   rw[zaR,zaR,Nat.pow_succ,Nat.div_lt_iff_lt_mul (by decide)]
  have k1:=(k (dlen (v/10))).1 (Nat.le_refl _)
  have k2:0<dlen v:=by
   rcases Nat.eq_zero_or_pos (dlen v) with q|q
   ·have:=zcA v;rw[q] at this;simp at this;omega
   ·exact q
  have k3:=(k (dlen v-1)).2 (by omega)
  omega
 unfold dec
 rw[if_neg (by omega),if_neg (by omega),hd,zfL]
theorem zg2 (v:Nat):Lib.decDigits v=dec v:=by
 induction v using Nat.strongRecOn with
 | _ v ih =>
  rw[Lib.decDigits]
  split
  ·rename_i h;exact(zg3 h).symm
  ·rename_i h
   rw[ih (v/10) (by omega),←zkp h]
theorem ziH (n:Int):Lib.itoa n=decI n:=by
 unfold Lib.itoa decI
 split
 ·rw[zg2]
 ·rename_i h
  rw[zg2]
  congr 1;omega
theorem zif (l:List UInt8):∀c,Lib.repeatL l c=(List.replicate c l).flatten
 | 0=>rfl
 | c+1=>by rw[Lib.repeatL,zif l c,List.replicate_succ,List.flatten_cons]
theorem zkr {c:UInt8} (h:isDig c=true):Lib.digitVal c=some (c.toNat-48):=by
 simp only[isDig,decide_eq_true_eq] at h
 unfold Lib.digitVal
 rw[if_pos h]
theorem ziq:∀(l:List UInt8) (a:Nat),l.all isDig=true→Lib.decFrom a l=some (a*10^l.length+tv l)
 | [],a,_=>by simp[Lib.decFrom,tv]
 | c::l,a,h=>by
  simp only[List.all_cons,Bool.and_eq_true] at h
  unfold Lib.decFrom
  rw[zkr h.1]
  simp only
  rw[ziq l _ h.2]
  congr 1
  show (a*10+(c.toNat-48))*10^l.length+tv l=a*10^(l.length+1)+((c.toNat-48)*10^l.length+tv l)
  rw[Nat.pow_succ];grind
theorem ziB {l:List UInt8} (h0:l≠[]) (h:l.all isDig=true):Lib.atoi l=some (tv l:Int):=by
 cases l with
 | nil=>exact(h0 rfl).elim
 | cons c l =>
  have hc:isDig c=true:=by simp only[List.all_cons,Bool.and_eq_true] at h;exact h.1
  simp only[isDig,decide_eq_true_eq] at hc
  have h45:(c==45)=false:=by
   rw[beq_eq_false_iff_ne];rintro rfl;revert hc;decide
  have h43:(c==43)=false:=by
   rw[beq_eq_false_iff_ne];rintro rfl;revert hc;decide
  simp only[Lib.atoi,h45,h43,Bool.false_eq_true,if_false]
  unfold Lib.decNat
  simp only[List.isEmpty_cons,Bool.false_eq_true,if_false]
  rw[ziq _ _ h]
  simp
theorem zhp (c:UInt8):∀l:List UInt8,Lib.indexByte l c=idxB l c
 | []=>rfl
 | b::l=>by unfold Lib.indexByte idxB;rw[zhp c l]
structure LibOk (P:Program) (ρ:Ren) (key:Nat→Option FuncId) (T:Tab) (G:Nat):Prop where
 l105:Lays.n105 P ρ
 l171:LaysM.n171 P ρ
 lX:Builder.Extra P ρ
 gname:P.globalNamed "internal/strconv.uint64pow10" = some G
 gkey:T.gkey G=some 0
 k50:key 50=some (ρ.f 171)
 k51:key 51=some (ρ.f 105)
 o130:∀g,key 130=some g→Lays.n160 P ρ∧(P.info? (ρ.t 116)).map (fun i=>(i.zero,i.size))=some (some (.agg (Array.replicate 256 (.bool false))),256)∧g=ρ.f 160
 o131:∀g,key 131=some g→Lays.n172 P ρ∧g=ρ.f 172
 o222:∀g,key 222=some g→Lays.n219 P ρ∧g=ρ.f 219
variable {P:Program} {ρ:Ren} {key:Nat→Option FuncId} {T:Tab} {G:Nat}
theorem zgN {l:Loc} {xs:List UInt8} {v:Value} (h:Rel key l (.s xs) v):∃s:ByteArray,v=.string s∧s.data.toList=xs:=by
 generalize hx:AV.s xs=x at h
 cases h<;>cases hx
 exact⟨_,rfl,rfl⟩
theorem zlB {l:Loc} {k:IntKind} {n:Int} {v:Value} (h:Rel key l (.i k n) v):v=.int k n:=by
 cases h;rfl
theorem zgl {l:Loc} {a:AV} {vs:Array Value} (h:RelL key l [a] vs.toList):∃v,vs = #[v]∧Rel key l a v:=by
 have hl:=h.1
 rcases vs with⟨vs⟩
 match vs,hl with
 | [v],_=>exact⟨v,rfl,h.2 0 (by simp) (by simp)⟩
theorem zeo {l:Loc} {a b:AV} {vs:Array Value} (h:RelL key l [a,b] vs.toList):∃v w,vs = #[v,w]∧Rel key l a v∧Rel key l b w:=by
 have hl:=h.1
 rcases vs with⟨vs⟩
 match vs,hl with
 | [v,w],_=>exact⟨v,w,rfl,h.2 0 (by simp) (by simp),h.2 1 (by simp) (by simp)⟩
theorem mkS {s:ByteArray} {xs:List UInt8} (h:s.data.toList=xs):s=⟨xs.toArray⟩:=by
 rcases s with⟨d⟩
 rw[←h]
theorem znC (K:LibOk P ρ key T G) {F:Nat} {l:Loc} {h:Hp} {w:World} (TO:TabOk key T l) (S:Sim key F l h w) (t:∃b,h.m 0=some b∧b.v=powT):Lib.TabIs P w "internal/strconv.uint64pow10" .u64 Lib.pow10Tab:=by
 obtain⟨m,hm⟩:=TO.g G 0 K.gkey
 obtain⟨b,b1,b2⟩:=t
 have H:=S.holds 0 b _ b1 hm
 obtain⟨_,_,cs,ty,fz,h3,h4⟩:=H.whole rfl
 unfold Lib.TabIs World.var?
 rw[K.gname]
 simp only[Option.bind_some]
 simp only at h3
 rw[h3]
 simp only[Option.some.injEq]
 have hlen:b.v.length=20:=by rw[b2];rfl
 apply Array.ext_getElem?
 intro i
 by_cases hi:i<20
 ·obtain⟨v,c1,c2⟩:=H.cell i (by omega)
  have hcs:cs[i]?=some v:=by
   have:=c1
   simp only[World.cell?,Nat.zero_add] at this
   rw[h3] at this
   simpa using this
  have hb:b.v[i]'(by omega)=.i .u64 ((10^i:Nat):Int):=by
   simp only[b2,powT]
   rw[List.getElem_map,List.getElem_range]
  rw[hb] at c2
  rw[hcs,zlB c2]
  simp[Lib.pow10Tab,hi]
 ·rw[Array.getElem?_eq_none (by omega),Array.getElem?_eq_none (by simp[Lib.pow10Tab];omega)]
theorem zhs (K:LibOk P ρ key T G) {f g:Nat} (hk:key f=some g) (hf:f≠33) {F:Nat} {args:List AV} {vs:Array Value} {h h':Hp} {v:AV} {l:Loc} {w:World} (e:orcA f args h=some (v,h')) (TO:TabOk key T l)
  (RL:RelL key l args vs.toList) (S:Sim key F l h w):Calls P g vs w fun e w'=>∃l' val,e=.returned val∧Ext l h w l' h' w'∧Sim key F l' h' w'∧Rel key l' v val:=by
 unfold orcA at e
 rw[if_neg hf] at e
 split at e
 ·cases e
 rename_i ht
 simp only[Option.map_eq_some_iff,Prod.mk.injEq] at e
 obtain⟨v',e1,rfl,rfl⟩:=e
 unfold libA at e1
 split at e1
 ·rename_i n
  split at e1
  ·rename_i hc
   cases e1
   obtain⟨rfl,hn⟩:=hc
   obtain⟨x,rfl,r1⟩:=zgl RL
   rw[zlB r1]
   obtain rfl:=Option.some.inj (K.k50.symm.trans hk)
   have t:∃b,h.m 0=some b∧b.v=powT:=by
    by_cases q:∃b,h.m 0=some b∧b.v=powT
    ·exact q
    ·exact(ht ⟨rfl,q⟩).elim
   refine zbu S (val:=.string ⟨(decI n).toArray⟩) ((Any.strconv_Itoa K.l171 n hn.1 hn.2 w (znC K TO S t)).mono ?_) (zep _)
   rintro e w' ⟨rfl,k,os,rfl⟩
   exact⟨by rw[ziH],Lib.below_grow _ _ (Nat.le_refl _) _ _⟩
  ·cases e1
 ·rename_i xs c
  split at e1
  ·rename_i hc
   cases e1
   obtain⟨rfl,h1,h2,h3⟩:=hc
   obtain⟨x,y,rfl,r1,r2⟩:=zeo RL
   obtain⟨s,rfl,rfl⟩:=zgN r1
   rw[zlB r2]
   obtain rfl:=Option.some.inj (K.k51.symm.trans hk)
   obtain⟨c,rfl⟩:∃k:Nat,c=(k:Int):=⟨c.toNat,by omega⟩
   have hsz:s.size≤1000:=by simpa using h3
   have hm:s.size*c≤1000*1000:=Nat.mul_le_mul hsz (by omega)
   refine zbu S (val:=.string ⟨((List.replicate c s.data.toList).flatten).toArray⟩) ((Any.strings_Repeat K.l105 K.lX s c w (by omega) (by omega)).mono ?_) (zep _)
   rintro e w' ⟨rfl,hb⟩
   exact⟨by rw[zif],hb⟩
  ·cases e1
 ·rename_i xs cs
  split at e1
  ·rename_i hc
   cases e1
   obtain⟨rfl,h1,h2,h3⟩:=hc
   obtain⟨x,y,rfl,r1,r2⟩:=zeo RL
   obtain⟨s,rfl,rfl⟩:=zgN r1
   obtain⟨c,rfl,rfl⟩:=zgN r2
   obtain⟨l160,i116,rfl⟩:=K.o130 _ hk
   refine zbu S (val:=.string ⟨(((s.data.toList.reverse.dropWhile (c.data.toList.contains ·)).reverse).dropWhile (c.data.toList.contains ·)).toArray⟩) ((Any.strings_Trim_laid l160 i116 s c w (by simpa using h1) (by simpa using h2) (ascii_of_all h3)).mono ?_) (zep _)
   rintro e w' ⟨rfl,hb⟩
   exact⟨rfl,hb⟩
  ·split at e1
   ·rename_i hf
    subst hf
    split at e1
    ·rename_i c hh
     cases e1
     obtain⟨x,y,rfl,r1,r2⟩:=zeo RL
     obtain⟨s,rfl,rfl⟩:=zgN r1
     obtain⟨z,rfl,hz⟩:=zgN r2
     obtain⟨l219,rfl⟩:=K.o222 _ hk
     have ez:z=⟨#[c]⟩:=mkS hz
     subst ez
     refine zbu S (val:=.int .i64 (idxB s.data.toList c)) ((Any.stringslite_Index_one l219 s c w).mono ?_) (.i _ _)
     rintro e w' ⟨rfl,rfl⟩
     exact⟨by rw[zhp],.refl _ _⟩
    ·cases e1
   ·cases e1
 ·rename_i xs
  split at e1
  ·rename_i hc
   cases e1
   obtain⟨rfl,h1,h2,h3⟩:=hc
   obtain⟨x,rfl,r1⟩:=zgl RL
   obtain⟨s,rfl,rfl⟩:=zgN r1
   obtain⟨l172,rfl⟩:=K.o131 _ hk
   refine zbu S (val:=.tuple #[.int .i64 (tv s.data.toList:Nat),.nilIface]) ((Any.strconv_Atoi l172 s _ (by simpa using h2) (ziB h1 h3) w).mono ?_) ?_
   ·rintro e w' ⟨rfl,t,rfl⟩
    exact⟨rfl,Go.Joins.below_bytesWorld _ _ _ _ (Nat.le_refl _)⟩
   ·exact RelL.tu (.cons (.i _ _) (.cons .inil .nil))
  ·cases e1
 ·cases e1
end Go.Eng
namespace Go.Eng
variable {key:Nat→Option FuncId} {P:Program} {T:Tab} {call:Nat→List AV→Hp→Option (AV×Hp)} {F:Nat}
def graft:Code→Code→Code
 | .seq x y,r=>.seq x (graft y r)
 | c,r=>.seq c r
theorem zho (G:GoodCall call) (HC:Callable P key) (CS:CallSound P key T call) (hm:P.follows .mixedOrders=true) (lf:Nat) (c r:Code) (hg:graft c r=.seq c r) (hr:(cCode P T c).regsOk=true)
  {Q:Exit→Act→World→Prop} {l:Loc} {fr fr':Fr} {a:Act} {h h':Hp} {w:World} {out:Out} (TO:TabOk key T l) (R:RelF key l fr a.tmps) (S:Sim key F l h w) (hF:h'.next≤F)
  (he:evCode call lf (cCode P T c) fr h=some (out,fr',h'))
  (cont:∀l' a' w',Ext l h w l' h' w'→RelF key l' fr' a'.tmps→Sim key F l' h' w'→a'.defers=a.defers→Exit.then (r.wp P Q) Q out.toExit a' w'):(graft c r).wp P Q a w:=by
 rw[hg]
 exact wp_seq (zde G HC CS lf c (zcl G HC CS hm c hr) TO R S hF he cont)
theorem zfS (G:GoodCall call) (HC:Callable P key) (CS:CallSound P key T call) (hm:P.follows .mixedOrders=true) (lf:Nat) (r:Code):∀(c:Code),(cCode P T c).regsOk=true →
  ∀{Q:Exit→Act→World→Prop} {l:Loc} {fr fr':Fr} {a:Act} {h h':Hp} {w:World} {out:Out},TabOk key T l→RelF key l fr a.tmps→Sim key F l h w→h'.next≤F →
  evCode call lf (cCode P T c) fr h=some (out,fr',h') →
  (∀l' a' w',Ext l h w l' h' w'→RelF key l' fr' a'.tmps→Sim key F l' h' w'→a'.defers=a.defers→Exit.then (r.wp P Q) Q out.toExit a' w')→(graft c r).wp P Q a w:=by
 intro c
 induction c with
 | seq x y _ ihy =>
  intro hr Q l fr fr' a h h' w out TO R S hF he cont
  simp only[cCode,XC.regsOk,Bool.and_eq_true] at hr
  simp only[cCode,evCode] at he
  show (Code.seq x (graft y r)).wp P Q a w
  cases h1:evCode call lf (cCode P T x) fr h with
  | none=>rw[h1] at he;cases he
  | some q =>
   obtain⟨o1,fr1,h1'⟩:=q
   rw[h1] at he
   have good1:=zbc G lf _ h1
   cases o1 with
   | normal =>
    simp only at he
    have good2:=zbc G lf _ he
    have hF1:h1'.next≤F:=Nat.le_trans good2.le.next hF
    refine wp_seq (zde G HC CS lf x (zcl G HC CS hm x hr.1) TO R S hF1 h1 fun l1 a1 w1 E1 R1 S1 d1=>?_)
    exact ihy hr.2 (TO.mono E1.le) R1 S1 hF he fun l2 a2 w2 E2 R2 S2 d2=>cont l2 a2 w2 (.trans (S.hd S1.wf hF1) E1 E2) R2 S2 (d2.trans d1)
   | exit i =>
    cases he
    exact wp_seq (zde G HC CS lf x (zcl G HC CS hm x hr.1) TO R S hF h1 fun l1 a1 w1 E1 R1 S1 d1=>cont l1 a1 w1 E1 R1 S1 d1)
   | ret =>
    cases he
    exact wp_seq (zde G HC CS lf x (zcl G HC CS hm x hr.1) TO R S hF h1 fun l1 a1 w1 E1 R1 S1 d1=>cont l1 a1 w1 E1 R1 S1 d1)
 | _=>exact fun hr _ _ _ _ _ _ _ _ _ TO R S hF he cont=>zho G HC CS hm lf _ r rfl hr TO R S hF he cont
theorem zaa {n:Nat} {l:List Value} (h:l.length=n+1):∃t l2,l=t::l2∧l2.length=n:=by
 cases l with
 | nil=>simp at h
 | cons t l=>exact⟨t,l,rfl,by simpa using h⟩
theorem zoG (tm:Array Value) (h:tm.size=58):∃t0 t1 t2 t3 t4 t5 t6 t7 t8 t9 t10 t11 t12 t13 t14 t15 t16 t17 t18 t19 t20 t21 t22 t23 t24 t25 t26 t27 t28 t29 t30 t31 t32 t33 t34 t35 t36 t37 t38 t39 t40 t41 t42 t43 t44 t45 t46 t47 t48 t49 t50 t51 t52 t53 t54 t55 t56 t57,tm = #[t0,t1,t2,t3,t4,t5,t6,t7,t8,t9,t10,t11,t12,t13,t14,t15,t16,t17,t18,t19,t20,t21,t22,t23,t24,t25,t26,t27,t28,t29,t30,t31,t32,t33,t34,t35,t36,t37,t38,t39,t40,t41,t42,t43,t44,t45,t46,t47,t48,t49,t50,t51,t52,t53,t54,t55,t56,t57]:=by
 rcases tm with⟨l⟩
 have h:l.length=58:=h
 obtain⟨t0,l0,rfl,h0⟩:=zaa h
 obtain⟨t1,l1,rfl,h1⟩:=zaa h0
 obtain⟨t2,l2,rfl,h2⟩:=zaa h1
 obtain⟨t3,l3,rfl,h3⟩:=zaa h2
 obtain⟨t4,l4,rfl,h4⟩:=zaa h3
 obtain⟨t5,l5,rfl,h5⟩:=zaa h4
 obtain⟨t6,l6,rfl,h6⟩:=zaa h5
 obtain⟨t7,l7,rfl,h7⟩:=zaa h6
 obtain⟨t8,l8,rfl,h8⟩:=zaa h7
 obtain⟨t9,l9,rfl,h9⟩:=zaa h8
 obtain⟨t10,l10,rfl,h10⟩:=zaa h9
 obtain⟨t11,l11,rfl,h11⟩:=zaa h10
 obtain⟨t12,l12,rfl,h12⟩:=zaa h11
 obtain⟨t13,l13,rfl,h13⟩:=zaa h12
 obtain⟨t14,l14,rfl,h14⟩:=zaa h13
 obtain⟨t15,l15,rfl,h15⟩:=zaa h14
 obtain⟨t16,l16,rfl,h16⟩:=zaa h15
 obtain⟨t17,l17,rfl,h17⟩:=zaa h16
 obtain⟨t18,l18,rfl,h18⟩:=zaa h17
 obtain⟨t19,l19,rfl,h19⟩:=zaa h18
 obtain⟨t20,l20,rfl,h20⟩:=zaa h19
 obtain⟨t21,l21,rfl,h21⟩:=zaa h20
 obtain⟨t22,l22,rfl,h22⟩:=zaa h21
 obtain⟨t23,l23,rfl,h23⟩:=zaa h22
 obtain⟨t24,l24,rfl,h24⟩:=zaa h23
 obtain⟨t25,l25,rfl,h25⟩:=zaa h24
 obtain⟨t26,l26,rfl,h26⟩:=zaa h25
 obtain⟨t27,l27,rfl,h27⟩:=zaa h26
 obtain⟨t28,l28,rfl,h28⟩:=zaa h27
 obtain⟨t29,l29,rfl,h29⟩:=zaa h28
 obtain⟨t30,l30,rfl,h30⟩:=zaa h29
 obtain⟨t31,l31,rfl,h31⟩:=zaa h30
 obtain⟨t32,l32,rfl,h32⟩:=zaa h31
 obtain⟨t33,l33,rfl,h33⟩:=zaa h32
 obtain⟨t34,l34,rfl,h34⟩:=zaa h33
 obtain⟨t35,l35,rfl,h35⟩:=zaa h34
 obtain⟨t36,l36,rfl,h36⟩:=zaa h35
 obtain⟨t37,l37,rfl,h37⟩:=zaa h36
 obtain⟨t38,l38,rfl,h38⟩:=zaa h37
 obtain⟨t39,l39,rfl,h39⟩:=zaa h38
 obtain⟨t40,l40,rfl,h40⟩:=zaa h39
 obtain⟨t41,l41,rfl,h41⟩:=zaa h40
 obtain⟨t42,l42,rfl,h42⟩:=zaa h41
 obtain⟨t43,l43,rfl,h43⟩:=zaa h42
 obtain⟨t44,l44,rfl,h44⟩:=zaa h43
 obtain⟨t45,l45,rfl,h45⟩:=zaa h44
 obtain⟨t46,l46,rfl,h46⟩:=zaa h45
 obtain⟨t47,l47,rfl,h47⟩:=zaa h46
 obtain⟨t48,l48,rfl,h48⟩:=zaa h47
 obtain⟨t49,l49,rfl,h49⟩:=zaa h48
 obtain⟨t50,l50,rfl,h50⟩:=zaa h49
 obtain⟨t51,l51,rfl,h51⟩:=zaa h50
 obtain⟨t52,l52,rfl,h52⟩:=zaa h51
 obtain⟨t53,l53,rfl,h53⟩:=zaa h52
 obtain⟨t54,l54,rfl,h54⟩:=zaa h53
 obtain⟨t55,l55,rfl,h55⟩:=zaa h54
 obtain⟨t56,l56,rfl,h56⟩:=zaa h55
 obtain⟨t57,l57,rfl,h57⟩:=zaa h56
 obtain rfl:=List.eq_nil_of_length_eq_zero h57
 exact⟨t0,t1,t2,t3,t4,t5,t6,t7,t8,t9,t10,t11,t12,t13,t14,t15,t16,t17,t18,t19,t20,t21,t22,t23,t24,t25,t26,t27,t28,t29,t30,t31,t32,t33,t34,t35,t36,t37,t38,t39,t40,t41,t42,t43,t44,t45,t46,t47,t48,t49,t50,t51,t52,t53,t54,t55,t56,t57,rfl⟩
end Go.Eng
namespace Go.Proofs
open Go.Eng Go.RowKit Go.Shelf
noncomputable def Tryz.strPre:Code:=match Tryz.f91.body with|some (.seq a (.seq b (.seq c (.seq d (.seq e _)))))=>.seq a (.seq b (.seq c (.seq d e)))|_=>.skip
noncomputable def Tryz.strTail:Code:=match Tryz.f91.body with|some (.seq _ (.seq _ (.seq _ (.seq _ (.seq _ r)))))=>r|_=>.skip
theorem Tryz.hidS {p:Prop} (h:p):Hid p:=h
set_option maxHeartbeats 4000000 in
set_option maxRecDepth 100000 in
theorem Tryz.str_tail (neg:Bool) (ps:List (List UInt8)) (hne:ps.reverse.flatten≠[]) (hlen:ps.length≤20000) (htot:ps.flatten.length≤1000000)
  (b1 o1 b3 o3 c:Nat) (w:World) (hneg:w.cell? ⟨b1,o1,none⟩=some (.bool neg)) (hb1:b1<w.heap.size) (hb3:b3<w.heap.size)
  (hcells:∀j x,ps[j]?=some x→w.cell? ⟨b3,o3+j,none⟩=some (.string ⟨x.toArray⟩))
  (tm:Array Value) (hsz:tm.size=58) (h1:tm[1]?=some (.pointer (some ⟨b1,o1,none⟩))) (h3:tm[3]?=some (.slice (some ⟨b3,o3,none⟩) ps.length c)) :
  Tryz.strTail.wp Tryz.prog (fun e a w'=>e=.ret∧a.defers=[]∧a.tmps.getD 2 undef=.string ⟨((if neg then [45] else [])++ps.reverse.flatten).toArray⟩∧Below w.heap.size w w') ⟨tm,[]⟩ w:=by
 have HC:=Tryz.hidS hcells
 clear hcells
 obtain⟨t0,t1,t2,t3,t4,t5,t6,t7,t8,t9,t10,t11,t12,t13,t14,t15,t16,t17,t18,t19,t20,t21,t22,t23,t24,t25,t26,t27,t28,t29,t30,t31,t32,t33,t34,t35,t36,t37,t38,t39,t40,t41,t42,t43,t44,t45,t46,t47,t48,t49,t50,t51,t52,t53,t54,t55,t56,t57,rfl⟩:=zoG tm hsz
 simp only[List.getElem?_toArray,List.getElem?_cons_succ,List.getElem?_cons_zero,Option.some.injEq] at h1 h3
 subst h1
 subst h3
 clear hsz
 unfold Tryz.strTail
 simp only[Tryz.f91]
 have hF:Lib.IsBuilder 205 5 w.heap.size w.heap.size [] (w.alloc (.cells #[.pointer none,.slice none 0 0] 205)):=Lib.fresh_isBuilder 205 5 w
 have hB0:Below w.heap.size w (w.alloc (.cells #[.pointer none,.slice none 0 0] 205)):=(Below.refl w.heap.size w).alloc (Nat.le_refl _) _
 have HF:=Tryz.hidS hF
 have HB0:=Tryz.hidS hB0
 clear hF hB0
 obtain⟨pre,hpre⟩:∃pre:List UInt8,pre=if neg then [45] else []:=⟨_,rfl⟩
 have hprel:pre.length≤1:=by rw[hpre];split<;>simp
 rw[←hpre]
 have tail:∀(k:Nat),((ps.drop k).reverse.flatten).length≤1000000:=fun k=>by
  have e:=congrArg (fun l=>(List.flatten l).length) (List.take_append_drop k ps)
  simp only[List.flatten_append,List.length_append] at e
  have e2:((ps.drop k).reverse.flatten).length=((ps.drop k).flatten).length:=by
   simp only[List.length_flatten,List.map_reverse,List.sum_reverse]
  omega
 have HT:=Tryz.hidS tail
 clear tail
 cases neg
 case' false =>
  have e0:pre=[]:=by simpa using hpre
  have H1:=Tryz.hidS (show Lib.IsBuilder 205 5 w.heap.size w.heap.size (Lib.byteCells pre) (w.alloc (.cells #[.pointer none,.slice none 0 0] 205)) by rw[e0];exact HF.out)
  have HB1:=HB0
  go_wp2_with fail
 case' true =>
  have e0:pre=[45]:=by simpa using hpre
  go_wp2_with fail
  refine(Any.Builder_WriteByte Tryz.l167 Tryz.lX w.heap.size w.heap.size [] 45 _ HF.out (by simp) (by simp)).mono ?_
  rintro e w2 ⟨rfl,h2,hb2⟩
  have H1:=Tryz.hidS (show Lib.IsBuilder 205 5 w.heap.size w.heap.size (Lib.byteCells pre) w2 by rw[e0];exact Or.inr h2)
  have HB1:=Tryz.hidS (HB0.out.trans hb2)
  clear h2 hb2
  go_wp2_with fail
 all_goals (
  go_loopw [9] (fun i wr=>∃k:Nat,k≤ps.length∧i=.int .i64 ((k:Int)-1)∧Hid (Lib.IsBuilder 205 5 w.heap.size w.heap.size (Lib.byteCells (pre++(ps.drop k).reverse.flatten)) wr)∧Hid (Below w.heap.size w wr)) (fun i _=>(intOf i+1).toNat)
  case atStart=>exact⟨ps.length,Nat.le_refl _,rfl,by rw[List.drop_length];simpa using H1,HB1⟩
  case round =>
   obtain⟨k,hk,rfl,HB,HW⟩:=hrel
   by_cases hk0:k=0
   ·subst hk0
    have hd:(ps.drop 0)=ps:=List.drop_zero
    rw[hd] at HB
    go_wp2_with fail
    refine(Any.Builder_String { Tryz.l105 with } Tryz.lX w.heap.size w.heap.size (pre++ps.reverse.flatten) wr HB.out (fun q=>hne (List.append_eq_nil_iff.1 q).2)).mono ?_
    rintro e w3 ⟨rfl,hb3'⟩
    go_wp2_with fail
    exact HW.out.trans hb3'
   ·obtain⟨m,rfl⟩:∃m,k=m+1:=⟨k-1,by omega⟩
    have hm:m<ps.length:=by omega
    obtain⟨x,hx⟩:∃x,ps[m]?=some x:=⟨ps[m],List.getElem?_eq_getElem hm⟩
    have hc:=HC.out m x hx
    rw[←HW.out.cell (p:=⟨b3,o3+m,none⟩) hb3] at hc
    have hdrop:(ps.drop m).reverse.flatten=(ps.drop (m+1)).reverse.flatten++x:=by
     have e:ps.drop m=x::ps.drop (m+1):=by
      have:=List.drop_eq_getElem_cons hm
      rw[List.getElem?_eq_getElem hm] at hx
      cases hx;exact this
     rw[e];simp
    have hl:=HT.out m
    rw[hdrop,List.length_append] at hl
    have Hd:=Tryz.hidS hdrop
    have hBw:w.heap.size≤wr.heap.size:=HW.out.size
    have i1:((m+1:Nat):Int)-1=(m:Int):=by omega
    rw[i1]
    clear hdrop hx
    have hxs:(⟨x.toArray⟩:ByteArray).size=x.length:=rfl
    go_wp2_with fail
    refine(Any.Builder_WriteString { Tryz.l105 with } Tryz.lX w.heap.size w.heap.size _ ⟨x.toArray⟩ wr HB.out (by rw[Lib.byteCells_length,List.length_append,hxs];omega) hBw).mono ?_
    rintro e w2' ⟨rfl,h2',hb2'⟩
    have H2:=Tryz.hidS (show Lib.IsBuilder 205 5 w.heap.size w.heap.size (Lib.byteCells (pre++(ps.drop m).reverse.flatten)) w2' by
     rw[Hd.out,←List.append_assoc,Lib.byteCells_append]
     rw[Lib.strCells_eq] at h2'
     exact Or.inr h2')
    have Hb2:=Tryz.hidS (HW.out.trans hb2')
    clear h2' hb2'
    go_wp2_with fail
    exact⟨⟨m,by omega,rfl,H2,Hb2⟩,by simp[intOf]⟩)
end Go.Proofs
namespace Go.Eng
open Go.RowKit
variable {key:Nat→Option FuncId} {P:Program} {T:Tab}
def Hp.tw (t:Blk) (cs:List AV):Hp:=⟨fun k=>if k=0 then some { t with rw:=false } else if k=5 then some ⟨cs,false,0⟩ else none,6⟩
def Loc.tw (l:Loc) (a1:At):Loc:=fun k=>if k=5 then some a1 else if k≤4 then l k else none
theorem zjj {l l2:Loc} {i:Nat} (hi:i<powT.length) {v:Value} (r:Rel key l powT[i] v):Rel key l2 powT[i] v:=by
 have e:powT[i]=.i .u64 ((10^i:Nat):Int):=by
  simp only[powT];rw[List.getElem_map,List.getElem_range]
 rw[e] at r ⊢
 cases r;exact .i _ _
theorem zkf {F F':Nat} {l:Loc} {h:Hp} {w:World} (S:Sim key F l h w) {t:Blk} {a0:At} (ht:h.m 0=some t) (hv:t.v=powT) (h0:l 0=some a0) {xs:List Nat} {a1:At}
  (hb:a1.b<w.heap.size∧a1.w=false∧xs.length≤a1.n∧∀i (hi:i<xs.length),w.cell? ⟨a1.b,a1.o+i,none⟩=some (.int .u32 ((xs[i]:Nat):Int))) :
  Sim key F' (Loc.tw l a1) (Hp.tw t (xs.map fun x:Nat=>.i .u32 (x:Int))) w:=by
 refine⟨fun k b a e1 e2=>?_,fun k b a k' b' a' e1 e2 e3=>?_,fun k a e=>?_,fun k a e=>?_,fun k hk=>?_⟩
 ·by_cases hk:k=0
  ·subst hk
   have e2:l 0=some a:=e2
   rw[h0] at e2
   cases e1;cases e2
   have H:=S.holds 0 t a0 ht h0
   refine⟨H.lt,H.len,fun i hi=>?_,H.scal,fun q=>(by cases q),fun q=>⟨rfl,(H.whole q).2⟩⟩
   obtain⟨v,c1,c2⟩:=H.cell i hi
   refine⟨v,c1,?_⟩
   have hi':i<powT.length:=by rw[←hv];exact hi
   have e:t.v[i]=powT[i]:=by simp only[hv]
   simp only at hi ⊢
   rw[e] at c2 ⊢
   exact zjj hi' c2
  ·by_cases hkn:k=5
   ·subst hkn
    cases e1;cases e2
    obtain⟨q1,q0,q2,q3⟩:=hb
    refine⟨q1,by simpa using q2,fun i hi=>?_,fun i hi=>?_,fun q=>(by cases q),fun q=>?_⟩
    ·simp only[List.length_map] at hi
     refine⟨_,q3 i hi,?_⟩
     simp only[List.getElem_map]
     exact .i _ _
    ·simp only[List.getElem_map];rfl
    ·rw[q0] at q;cases q
   ·simp only[Hp.tw,if_neg hk,if_neg hkn] at e1;cases e1
 ·simp only[Hp.tw] at e1
  split at e1
  ·cases e1;cases e3
  ·split at e1
   ·cases e1;cases e3
   ·cases e1
 ·simp only[Loc.tw] at e
  split at e
  ·cases e;exact hb.1
  ·split at e
   ·exact S.lt k a e
   ·cases e
 ·left
  show k<6
  simp only[Loc.tw] at e
  split at e
  ·omega
  ·split at e
   ·omega
   ·cases e
 ·have hk':6≤k:=hk
  simp only[Hp.tw]
  rw[if_neg (by omega),if_neg (by omega)]
theorem znE {F:Nat} {l:Loc} {h:Hp} {w:World} (S:Sim key F l h w) {t:Blk} {a0:At} (ht:h.m 0=some t) (hv:t.v=powT) (h0:l 0=some a0) {neg:Bool} {wv:AV} {val:Value} {tx:List UInt8}
  (e:txtA [.ag [.b neg,wv]] h=some tx) (r:Rel key l wv val):∃cs a1 wv' v,(∀F',Sim key F' (Loc.tw l a1) (Hp.tw t cs) w)∧Rel key (Loc.tw l a1) wv' val∧wlen v≤512∧(neg=true→v≠0) ∧
   tx=decI (if neg then-(v:Int) else (v:Int))∧V (Hp.tw t cs) (fun _=>False) [] (D v) wv':=by
 have H0:=S.holds 0 t a0 ht h0
 have small:∀{wv':AV},Rel key (Loc.tw l ⟨a0.b,0,0,false⟩) wv' val→txtA [.ag [.b neg,wv']] (Hp.tw t [])=some tx→(∀m off len cap z,wv'=.sl m off len cap z→False) →
   ∃cs a1 wv' v,(∀F',Sim key F' (Loc.tw l a1) (Hp.tw t cs) w)∧Rel key (Loc.tw l a1) wv' val∧wlen v≤512∧(neg=true→v≠0) ∧
   tx=decI (if neg then-(v:Int) else (v:Int))∧V (Hp.tw t cs) (fun _=>False) [] (D v) wv':=fun {wv'} r1 e1 hs=>by
  obtain⟨v,v1,v2,v3,v4⟩:=zgs e1 fun m off len cap z q=>(hs _ _ _ _ _ q).elim
  exact⟨[],⟨a0.b,0,0,false⟩,wv',v,fun F'=>zkf (xs:=[]) S ht hv h0 ⟨H0.lt,rfl,Nat.le_refl _,fun i hi=>by simp at hi⟩,r1,v1,v2,v3,v4⟩
 cases r with
 | @sl n off len cap cap' z a ha q1 q2 q3 =>
   replace e:(if len=0 then wtx neg [] else if z=1 then ((h.rd n off len).bind wordsA).bind (wtx neg) else none)=some tx:=e
   split at e
   ·rename_i hl
    subst hl
    exact small (wv':=.e0) (.e0 _ _) e fun _ _ _ _ _ q=>by cases q
   ·rename_i hl
    split at e
    ·rename_i hz
     subst hz
     simp only[Option.bind_eq_some_iff] at e
     obtain⟨xs,⟨cs,e1,e2⟩,e3⟩:=e
     obtain⟨w1,w2⟩:=zdx e2
     unfold Hp.rd at e1
     split at e1
     ·rename_i b hb
      split at e1
      ·rename_i hle
       cases e1
       have hxl:xs.length=len:=by
        have:=congrArg List.length w1
        simp at this;omega
       have hg:∀i (hi:i<xs.length),b.v[off+i]?=some (.i .u32 ((xs[i]:Nat):Int)):=fun i hi=>by
        have:((b.v.drop off).take len)[i]?=some (.i .u32 ((xs[i]:Nat):Int)):=by
         rw[w1,List.getElem?_map,List.getElem?_eq_getElem hi];rfl
        rw[List.getElem?_take,if_pos (by omega),List.getElem?_drop] at this
        exact this
       have H:=S.holds n b a hb ha
       let a1:At:=⟨a.b,a.o+off,a.n-off,false⟩
       have hsim:∀F',Sim key F' (Loc.tw l a1) (Hp.tw t (xs.map fun x:Nat=>.i .u32 (x:Int))) w:=fun F'=>zkf S ht hv h0 ⟨H.lt,rfl,by show xs.length≤a.n-off;have:=H.len;omega,fun i hi=>by
        have h1:=hg i hi
        have hoi:off+i<b.v.length:=by omega
        obtain⟨v,c1,c2⟩:=H.cell (off+i) hoi
        rw[List.getElem?_eq_getElem hoi] at h1
        cases h1':b.v[off+i] with
        | i k m =>
         rw[h1'] at h1 c2
         cases h1
         cases c2
         show w.cell? ⟨a.b,a.o+off+i,none⟩=_
         rw[Nat.add_assoc];exact c1
        | _=>rw[h1'] at h1;cases h1⟩
       have hrel:Rel key (Loc.tw l a1) (.sl 5 0 len cap 1) (.slice (some ⟨a.b,a.o+off,none⟩) len cap'):=by
        have hl:Loc.tw l a1 5=some a1:=rfl
        have:=Rel.sl (key:=key) (off:=0) (len:=len) (cap:=cap) (cap':=cap') (z:=1) hl q1 (by show 0+cap'*1≤a.n-off;omega) q3
        exact this
       have htx:txtA [.ag [.b neg,.sl 5 0 len cap 1]] (Hp.tw t (xs.map fun x:Nat=>.i .u32 (x:Int)))=some tx:=by
        have hrd:(Hp.tw t (xs.map fun x:Nat=>AV.i .u32 (x:Int))).rd 5 0 len=some (xs.map fun x:Nat=>.i .u32 (x:Int)):=by
         simp only[Hp.rd,Hp.tw,if_neg (show (5:Nat)≠0 by decide),if_true]
         rw[if_pos (by simp;omega),List.drop_zero,List.take_of_length_le (by simp;omega)]
        show (if len=0 then wtx neg [] else if 1=1 then (((Hp.tw t (xs.map fun x:Nat=>AV.i .u32 (x:Int))).rd 5 0 len).bind wordsA).bind (wtx neg) else none)=_
        rw[if_neg hl,if_pos rfl,hrd,Option.bind_some,←w1,e2,Option.bind_some]
        exact e3
       obtain⟨v,v1,v2,v3,v4⟩:=zgs htx fun m off' len' cap'' z q=>by cases q;exact q3
       exact⟨_,a1,_,v,hsim,hrel,v1,v2,v3,v4⟩
      ·cases e1
     ·cases e1
    ·cases e
 | sn=>exact small .sn e fun _ _ _ _ _ q=>by cases q
 | se b=>exact small (.se b) e fun _ _ _ _ _ q=>by cases q
 | e0 b c=>exact small (.e0 b c) e fun _ _ _ _ _ q=>by cases q
 | _=>simp[txtA] at e
end Go.Eng
namespace Go.Eng
open Go.RowKit
variable {key:Nat→Option FuncId} {P:Program} {T:Tab}
theorem zgm {fn:Func} (h:fn.results = #[.tmp 2]) (tmps:Array Value) (w:World):(results fn tmps).run P w=.ok (tmps.getD 2 undef) w:=by
 unfold results
 rw[h,Array.mapM_eq_mapM_toList]
 rfl
theorem znw {l:Loc} {xs:List UInt8} {v:Value} (h:Rel key l (.s xs) v):v=.string ⟨xs.toArray⟩:=by
 generalize hx:AV.s xs=x at h
 cases h<;>cases hx
 rfl
theorem zml (v:Nat):dec v≠[]:=by
 unfold dec
 split
 ·simp
 ·rename_i h
  intro q
  have h1:=congrArg List.length q
  rw[zcB] at h1
  have:=zcA v
  simp at h1
  rw[h1] at this
  simp at this;omega
theorem zgS {args:List AV} {h:Hp} {l:List UInt8} (e:txtA args h=some l):∃neg w,args=[.ag [.b neg,w]]:=by
 unfold txtA at e
 split at e
 ·exact⟨_,_,rfl⟩
 ·exact⟨_,_,rfl⟩
 ·exact⟨_,_,rfl⟩
 ·exact⟨_,_,rfl⟩
 ·cases e
theorem zlJ (K1:ProgOk P key T E1.prog) (KE:PEnvOk E1) (hT0:∀g n,T.gkey g=some n→n≤4) {G:Nat} (hG:T.gkey G=some 0) {fn:Func} {g:Nat} (hfn:P.funcs[g]?=some fn) {pre tail:Code} (hbody:fn.body=some (graft pre tail)) (hpre:cCode P T pre=strA)
  (hnt:fn.ntmps=58) (hres:fn.results = #[.tmp 2])
  (htail:∀(neg:Bool) (ps:List (List UInt8)),ps.reverse.flatten≠[]→ps.length≤20000→ps.flatten.length≤1000000 →
   ∀(b1 o1 b3 o3 c:Nat) (w:World),w.cell? ⟨b1,o1,none⟩=some (.bool neg)→b1<w.heap.size→b3<w.heap.size →
   (∀j x,ps[j]?=some x→w.cell? ⟨b3,o3+j,none⟩=some (.string ⟨x.toArray⟩)) →
   ∀(tm:Array Value),tm.size=58→tm[1]?=some (.pointer (some ⟨b1,o1,none⟩))→tm[3]?=some (.slice (some ⟨b3,o3,none⟩) ps.length c) →
   tail.wp P (fun e a w'=>e=.ret∧a.defers=[]∧a.tmps.getD 2 undef=.string ⟨((if neg then [45] else [])++ps.reverse.flatten).toArray⟩∧Below w.heap.size w w') ⟨tm,[]⟩ w)
  {F:Nat} {args:List AV} {vs:Array Value} {h h':Hp} {v:AV} {l:Loc} {w:World} (e:orcA 33 args h=some (v,h')) (TO:TabOk key T l)
  (RL:RelL key l args vs.toList) (S:Sim key F l h w):Calls P g vs w fun e w'=>∃l' val,e=.returned val∧Ext l h w l' h' w'∧Sim key F l' h' w'∧Rel key l' v val:=by
 unfold orcA at e
 rw[if_pos rfl] at e
 split at e
 case isFalse=>cases e
 rename_i ht
 simp only[Option.map_eq_some_iff,Prod.mk.injEq] at e
 obtain⟨tx,e1,rfl,rfl⟩:=e
 obtain⟨t,t1,t2⟩:=ht
 obtain⟨m0,hl0⟩:=TO.g G 0 hG
 obtain⟨neg,wv,rfl⟩:=zgS e1
 have hvs:∃val,vs = #[.agg #[.bool neg,val]]∧Rel key l wv val:=by
  have hlen:=RL.1
  rcases vs with⟨vs⟩
  match vs,hlen with
  | [x],_ =>
   have r:=RL.2 0 (by simp) (by simp)
   simp only[List.getElem_cons_zero] at r
   cases r with
   | @ag _ ws hn hv =>
    rcases ws with⟨ws⟩
    match ws,hn with
    | [a,b],_ =>
     have r1:=hv 0 (by simp) (by simp)
     have r2:=hv 1 (by simp) (by simp)
     simp only[List.getElem_cons_zero,List.getElem_toArray,List.getElem_cons_succ] at r1 r2
     cases r1
     exact⟨b,rfl,r2⟩
 obtain⟨val,rfl,rv⟩:=hvs
 obtain⟨cs,a1,wv',z,hsim,rv',hz,hneg,htx,hV⟩:=znE S t1 t2 hl0 e1 rv
 generalize hh0:Hp.tw t cs=h0 at hsim hV
 generalize hll:Loc.tw l a1=l0 at hsim rv'
 have hw0:h0.wf:=(hsim 0).wf
 have hT:HasT h0:=⟨{ t with rw:=false },by rw[←hh0];rfl,t2⟩
 have norw:∀k b,h0.m k=some b→b.rw=false:=fun k b q=>by
  rw[←hh0] at q
  simp only[Hp.tw] at q
  split at q
  ·cases q;rfl
  ·split at q
   ·cases q;rfl
   ·cases q
 have TO0:TabOk key T l0:=⟨TO.f,fun g' n' q=>by
  have hn:=hT0 g' n' q
  obtain⟨m,hm⟩:=TO.g g' n' q
  refine⟨m,?_⟩
  rw[←hll]
  simp only[Loc.tw]
  rw[if_neg (by omega),if_pos hn]
  exact hm⟩
 have RA:RelL key l0 [.ag [.b neg,wv']] [.agg #[.bool neg,val]]:=.cons ((RelL.cons (.b neg) (.cons rv' .nil)).ag) .nil
 have RF:RelF key l0 ([.ag [.b neg,wv']]++List.replicate 57 undefA) (#[.agg #[.bool neg,val]]++Array.replicate (fn.ntmps-(#[Value.agg #[.bool neg,val]]:Array Value).size) undef):=by
  rw[hnt]
  unfold RelF
  rw[Array.toList_append,Array.toList_replicate]
  exact RA.append ⟨by simp,fun i q1 q2=>by rw[List.getElem_replicate,List.getElem_replicate];exact zbg⟩
 have hbel:∀{l1 h1 w1},Ext l0 h0 w l1 h1 w1→Below w.heap.size w w1:=fun {l1 h1 w1} E =>
  ⟨E.os,E.tape,E.output,E.size,fun b hb=>E.frame b hb fun m blk a q1 q2=>by rw[norw m blk q1] at q2;cases q2⟩
 have hregs:(cCode P T pre).regsOk=true:=by rw[hpre];decide
 have goodCall:=zcW K1
 have final:Calls P g #[.agg #[.bool neg,val]] w fun e w'=>e=.returned (.string ⟨tx.toArray⟩)∧Below w.heap.size w w':=by
  refine calls_of_wp hfn hbody ?_
  by_cases hz0:z=0
  ·subst hz0
   have hnf:neg=false:=by
    cases neg
    ·rfl
    ·exact(hneg rfl rfl).elim
   subst hnf
   have htx':tx=[48]:=by rw[htx];rfl
   obtain⟨lf,fr',h1,ev,f2⟩:=zlG KE hw0 hT hV
   refine zfS (goodCall lf) K1.call (zbS K1 lf) K1.mixed lf tail pre hregs TO0 RF (hsim h1.next) (Nat.le_refl _) (by rw[hpre];exact ev) fun l' a' w' E R' S' hd=>?_
   have r2:=RelF.get R' 2
   rw[f2] at r2
   refine⟨hd,_,zgm hres _ _,?_,hbel E⟩
   rw[htx']
   generalize a'.tmps.getD 2 undef=x at r2
   rw[znw r2]
  ·obtain⟨lf,fr',h1,p0,m,len,cap,ps,ev,hlen,f1,⟨b0,hb0,hb0v⟩,f3,⟨b1,hb1,hb1v⟩,rfl,g1,g2,g3⟩:=zlH KE (neg:=neg) hw0 hT hz0 hz hV
   refine zfS (goodCall lf) K1.call (zbS K1 lf) K1.mixed lf tail pre hregs TO0 RF (hsim h1.next) (Nat.le_refl _) (by rw[hpre];exact ev) fun l' a' w' E R' S' hd=>?_
   have r1:=RelF.get R' 1
   have r3:=RelF.get R' 3
   rw[f1] at r1
   rw[f3] at r3
   have hsz:a'.tmps.size=58:=by
    have:=R'.1
    simp at this;omega
   have gd:∀i,i<58→a'.tmps[i]?=some (a'.tmps.getD i undef):=fun i hi=>by
    rw[Array.getD_eq_getD_getElem?,Array.getElem?_eq_getElem (by omega)];rfl
   have gd1:=gd 1 (by omega)
   have gd3:=gd 3 (by omega)
   generalize a'.tmps.getD 1 undef=x1 at r1 gd1
   generalize a'.tmps.getD 3 undef=x3 at r3 gd3
   cases r1 with
   | @p _ _ a1' q1 =>
    cases r3 with
    | @sl _ _ _ _ cap' _ a3 q3 s1 s2 s3 =>
     have H0:=S'.holds _ _ _ hb0 q1
     have H3:=S'.holds _ _ _ hb1 q3
     have hneg':w'.cell? ⟨a1'.b,a1'.o+0,none⟩=some (.bool neg):=by
      have hl:0<b0.v.length:=by
       rcases Nat.eq_zero_or_pos b0.v.length with q|q
       ·rw[List.getElem?_eq_none (by omega)] at hb0v;cases hb0v
       ·exact q
      obtain⟨y,c1,c2⟩:=H0.cell 0 hl
      rw[List.getElem?_eq_getElem hl] at hb0v
      rw[Option.some.inj hb0v] at c2
      cases c2;exact c1
     have hcells:∀j x,ps[j]?=some x→w'.cell? ⟨a3.b,a3.o+0+j,none⟩=some (.string ⟨x.toArray⟩):=fun j x hx=>by
      have hj:j<ps.length:=by
       by_cases q:j<ps.length
       ·exact q
       ·rw[List.getElem?_eq_none (by omega)] at hx;cases hx
      have hj':j<b1.v.length:=by rw[hb1v];simpa using hj
      obtain⟨y,c1,c2⟩:=H3.cell j hj'
      have e:b1.v[j]=.s x:=by
       simp only[hb1v,List.getElem_map]
       rw[List.getElem?_eq_getElem hj] at hx
       rw[Option.some.inj hx]
      rw[e] at c2
      have hy:y=.string ⟨x.toArray⟩:=by
       generalize hs:AV.s x=ax at c2
       cases c2<;>cases hs
       rfl
      rw[Nat.add_zero,←hy];exact c1
     have hne:ps.reverse.flatten≠[]:=by rw[g3];exact zml z
     have htot:ps.flatten.length≤1000000:=by
      have h1:ps.flatten.length=ps.reverse.flatten.length:=by
       simp only[List.length_flatten,List.map_reverse,List.sum_reverse]
      rw[h1,g3]
      have h2:=zjP hz
      unfold dec
      rw[if_neg hz0,zcB];omega
     have tl:=htail neg ps hne g2 htot a1'.b (a1'.o+0) a3.b (a3.o+0) cap' w' hneg' H0.lt H3.lt hcells a'.tmps hsz gd1 gd3
     have ha:a'=⟨a'.tmps,[]⟩:=by
      rcases a' with⟨tm,df⟩
      simp only at hd
      rw[hd]
     show tail.wp P (bodyPost P fn _) a' w'
     rw[ha]
     refine wp_mono tl ?_
     rintro e a2 w2 ⟨rfl,d2,v2,bl⟩
     refine⟨d2,_,zgm hres _ _,?_,(hbel E).trans ⟨bl.os,bl.tape,bl.output,bl.size,fun k hk=>bl.block k (Nat.lt_of_lt_of_le hk E.size)⟩⟩
     rw[v2,g3,htx]
     unfold decI
     cases neg
     ·simp only[Bool.false_eq_true,if_false]
      rw[if_neg (by omega)]
      simp
     ·simp only[if_true]
      rw[if_pos (by omega)]
      simp
 exact zbu S final (zep tx)
end Go.Eng
namespace Go.Eng
theorem zgg {f:Nat} {d:XD} (h:prog f=some d):some d∈progL:=by
 unfold prog at h
 cases h1:progL[f]? with
 | none=>rw[h1] at h;cases h
 | some x =>
  rw[h1] at h
  cases x with
  | none=>cases h
  | some y=>cases h;exact List.mem_of_getElem? h1
def dOkD:Option XD→Bool
 | some (.fn xf)=>xf.body.dOk xf.n
 | _=>true
theorem zg1:progL.all dOkD=true:=by kernel_rfl
def isO:Option XD→Bool
 | some (.orc _)=>true
 | _=>false
theorem zdM {f:Nat} {o:List AV→Hp→Option (AV×Hp)} (h:prog f=some (.orc o)):o=orcA f∧(f=33∨f=50∨f=51∨f=130∨f=131∨f=222):=by
 have hf:isO (prog f)=true:=by rw[h];rfl
 have all:(List.range progL.length).all (fun f => !isO (prog f) || (f==33 || f==50 || f==51 || f==130 || f==131 || f==222))=true:=by kernel_rfl
 have hlt:f<progL.length:=by
  unfold prog at h
  by_cases q:f<progL.length
  ·exact q
  ·rw[List.getElem?_eq_none (by omega)] at h;cases h
 rw[List.all_eq_true] at all
 have:=all f (List.mem_range.2 hlt)
 rw[hf] at this
 simp only[Bool.not_true,Bool.false_or,Bool.or_eq_true,beq_iff_eq] at this
 have hc:f=33∨f=50∨f=51∨f=130∨f=131∨f=222:=by omega
 refine⟨?_,hc⟩
 rcases hc with rfl|rfl|rfl|rfl|rfl|rfl
 ·first|(have e:prog 33=some (.orc (orcA 33)):=rfl;rw[e] at h;cases h;rfl)|(have h':(none:Option XD)=some (.orc o):=h;cases h')
 ·first|(have e:prog 50=some (.orc (orcA 50)):=rfl;rw[e] at h;cases h;rfl)|(have h':(none:Option XD)=some (.orc o):=h;cases h')
 ·first|(have e:prog 51=some (.orc (orcA 51)):=rfl;rw[e] at h;cases h;rfl)|(have h':(none:Option XD)=some (.orc o):=h;cases h')
 ·first|(have e:prog 130=some (.orc (orcA 130)):=rfl;rw[e] at h;cases h;rfl)|(have h':(none:Option XD)=some (.orc o):=h;cases h')
 ·first|(have e:prog 131=some (.orc (orcA 131)):=rfl;rw[e] at h;cases h;rfl)|(have h':(none:Option XD)=some (.orc o):=h;cases h')
 ·first|(have e:prog 222=some (.orc (orcA 222)):=rfl;rw[e] at h;cases h;rfl)|(have h':(none:Option XD)=some (.orc o):=h;cases h')
theorem zcC {f:Nat} {d:XD} (h:E1.prog f=some d):prog f=some d∧f≠33:=by
 have h2:(if f=33 then none else prog f)=some d:=h
 split at h2
 ·cases h2
 ·rename_i hf;exact⟨h2,hf⟩
theorem zqr {D:Nat→Prop} {hp:Hp} {a:AV} (hv:V hp D [] (.lst []) a):a=.sn∨a=.se∨a=.e0∨∃m off cap z,a=.sl m off 0 cap z:=by
 generalize hl:([]:List PV)=l at hv
 generalize hr:(PV.lst l)=v at hv
 cases hv with
 | lst cs e d hs hz0 hz hcap hc hv=>cases hr;subst hl;exact .inr (.inr (.inr ⟨_,_,_,_,rfl⟩))
 | lst0 m off cap z=>exact .inr (.inr (.inr ⟨_,_,_,_,rfl⟩))
 | lsn=>exact .inl rfl
 | lse=>exact .inr (.inl rfl)
 | le0=>exact .inr (.inr (.inl rfl))
 | junk _ hv _=>cases hr
 | _=>cases hr
theorem ziE {pr:Nat→Option XD} (hpr:pr 211=prog 211) {xf:XF} (h:prog 211=some (.fn xf)) {D:Nat→Prop} {hp:Hp} {a:AV} (hv:V hp D [] (.lst []) a) (k:Nat):∃b,evF pr (k+1) 211 [a] hp=some (b,hp)∧V hp D [] (.lst []) b:=by
 simp only[evF,hpr]
 rcases zqr hv with rfl|rfl|rfl|⟨m,off,cap,z,rfl⟩
 all_goals first|exact⟨.sn,rfl,.lsn⟩|exact⟨.se,rfl,.lse⟩|(have h':(none:Option XD)=some (.fn xf):=h;cases h')
theorem zj2 {pr:Nat→Option XD} (hpr:∀f≠33,pr f=prog f) (f:Nat) (xf:XF) (h:pr f=some (.fn xf)) (D:Nat→Prop) (hp:Hp) (args:List PV) (as_:List AV) (v:PV) (e:ovrP f args=some v) (hv:VL hp D [] args as_) (k:Nat):∃a,evF pr (k+1) f as_ hp=some (a,hp)∧V hp D [] v a:=by
 unfold ovrP at e
 split at e
 ·rename_i hf
  subst hf
  split at e
  ·cases e
   obtain⟨hl,hv⟩:=hv
   match as_,hl,hv with
   | [a],_,hv=>exact ziE (hpr 211 (by decide)) ((hpr 211 (by decide)) ▸ h) (hv 0 (by simp) (by simp)) k
  ·cases e
 ·cases e
theorem KE0:PEnvOk E0 where
 ovr:=fun f xf h D hp args asq v e hv k=>zj2 (fun _ _=>rfl) f xf h D hp args asq v e hv k
 fn:=fun f xf h=>by
  have:=zg1
  rw[List.all_eq_true] at this
  exact this _ (zgg (show prog f=_ from h))
 orc:=fun f o h Db r M hp args asv v M' e I hv=>by
  obtain⟨rfl,_⟩:=zdM (show prog f=_ from h)
  exact zm8 rfl e I hv
theorem KE1:PEnvOk E1 where
 ovr:=fun f xf h D hp args asq v e hv k=>zj2 (fun f hf=>if_neg hf) f xf h D hp args asq v e hv k
 fn:=fun f xf h=>by
  have:=zg1
  rw[List.all_eq_true] at this
  exact this _ (zgg (zcC h).1)
 orc:=fun f o h Db r M hp args asv v M' e I hv=>by
  obtain⟨rfl,_⟩:=zdM (zcC h).1
  exact zm8 rfl e I hv
variable (P:Program) (T:Tab)
def AllOk:List (Option XD)→List (Option FuncId)→Prop
 | some (.fn xf)::ps,some g::ks=>(∃fn,P.funcs[g]?=some fn∧cFunc P T fn=some xf∧xf.body.regsOk=true)∧AllOk ps ks
 | _::ps,_::ks=>AllOk ps ks
 | _,_=>True
def AllCal:List (Option FuncId)→Prop
 | some g::ks=>(∃fn,P.funcs[g]?=some fn∧fn.body.isNone=false∧(fn.name == "runtime.NumGoroutine")=false)∧AllCal ks
 | none::ks=>AllCal ks
 | []=>True
variable {P T}
theorem zdX:∀{ps:List (Option XD)} {ks:List (Option FuncId)},AllOk P T ps ks→∀{f:Nat} {xf:XF} {g:FuncId},(ps[f]?).join=some (.fn xf)→(ks[f]?).join=some g→∃fn,P.funcs[g]?=some fn∧cFunc P T fn=some xf∧xf.body.regsOk=true
 | [],_,_,f,xf,g,h1,h2=>by simp at h1
 | p::ps,[],_,f,xf,g,h1,h2=>by simp at h2
 | p::ps,k::ks,h,0,xf,g,h1,h2=>by
  simp only[List.getElem?_cons_zero,Option.join_some] at h1 h2
  subst h1;subst h2
  exact h.1
 | p::ps,k::ks,h,f+1,xf,g,h1,h2=>by
  simp only[List.getElem?_cons_succ] at h1 h2
  refine zdX (ps:=ps) (ks:=ks) ?_ h1 h2
  match p,k,h with
  | some (.fn xf),some g,h=>exact h.2
  | some (.fn xf),none,h=>exact h
  | some (.orc _),_,h=>exact h
  | none,_,h=>exact h
theorem zeZ:∀{ks:List (Option FuncId)},AllCal P ks→∀{f:Nat} {g:FuncId},(ks[f]?).join=some g→∃fn,P.funcs[g]?=some fn∧fn.body.isNone=false∧(fn.name == "runtime.NumGoroutine")=false
 | [],_,f,g,h=>by simp at h
 | k::ks,h,0,g,h1=>by
  simp only[List.getElem?_cons_zero,Option.join_some] at h1
  subst h1
  exact h.1
 | k::ks,h,f+1,g,h1=>by
  simp only[List.getElem?_cons_succ] at h1
  refine zeZ (ks:=ks) ?_ h1
  match k,h with
  | some g,h=>exact h.2
  | none,h=>exact h
theorem zfY {f:Nat} {args:List AV} {h h':Hp} {v:AV} (e:orcA f args h=some (v,h')):HpOk h h':=by
 unfold orcA at e
 split at e
 ·split at e
  ·simp only[Option.map_eq_some_iff,Prod.mk.injEq] at e
   obtain⟨_,_,_,rfl⟩:=e
   exact .refl h
  ·cases e
 ·split at e
  ·cases e
  ·simp only[Option.map_eq_some_iff,Prod.mk.injEq] at e
   obtain⟨_,_,_,rfl⟩:=e
   exact .refl h
theorem zlv {keyL:List (Option FuncId)} {ρ:Go.Shelf.Ren} {G:Nat} (mixed:P.follows .mixedOrders=true) (hc:AllCal P keyL) (ha:AllOk P T progL keyL) (L:LibOk P ρ (fun f=>(keyL[f]?).join) T G) :
  ProgOk P (fun f=>(keyL[f]?).join) T E1.prog where
 mixed:=mixed
 call:=fun f g h=>zeZ hc h
 fn:=fun f xf g h1 h2=>zdX ha (zcC h1).1 h2
 good:=fun f o args h v h' h1 e=>by
  obtain⟨rfl,_⟩:=zdM (zcC h1).1
  exact zfY e
 orc:=fun f o g h1 hk F args vs h h' v l w e hF TO RL S=>by
  obtain⟨rfl,_⟩:=zdM (zcC h1).1
  exact zhs L hk (zcC h1).2 e TO RL S
theorem zlu {keyL:List (Option FuncId)} {ρ:Go.Shelf.Ren} {G:Nat} (mixed:P.follows .mixedOrders=true) (hc:AllCal P keyL) (ha:AllOk P T progL keyL) (L:LibOk P ρ (fun f=>(keyL[f]?).join) T G)
  (str:∀{g:Nat},(keyL[33]?).join=some g→∀{F:Nat} {args:List AV} {vs:Array Value} {h h':Hp} {v:AV} {l:Loc} {w:World},orcA 33 args h=some (v,h')→TabOk (fun f=>(keyL[f]?).join) T l →
   RelL (fun f=>(keyL[f]?).join) l args vs.toList→Sim (fun f=>(keyL[f]?).join) F l h w→Calls P g vs w fun e w'=>∃l' val,e=.returned val∧Ext l h w l' h' w'∧Sim (fun f=>(keyL[f]?).join) F l' h' w'∧Rel (fun f=>(keyL[f]?).join) l' v val) :
  ProgOk P (fun f=>(keyL[f]?).join) T E0.prog where
 mixed:=mixed
 call:=fun f g h=>zeZ hc h
 fn:=fun f xf g h1 h2=>zdX ha (show prog f=_ from h1) h2
 good:=fun f o args h v h' h1 e=>by
  obtain⟨rfl,_⟩:=zdM (show prog f=_ from h1)
  exact zfY e
 orc:=fun f o g h1 hk F args vs h h' v l w e hF TO RL S=>by
  obtain⟨rfl,hf⟩:=zdM (show prog f=_ from h1)
  by_cases h33:f=33
  ·subst h33
   exact str hk e TO RL S
  ·exact zhs L hk h33 e TO RL S
end Go.Eng
namespace Go.Proofs
open Go.Eng
def Tryz.keyL:List (Option FuncId):=[none,none,none,none,none,none,none,none,some 135,some 136,none,none,none,none,none,none,some 39,some 35,some 109,some 92,some 172,some 111,some 110,some 150,some 49,none,none,none,none,some 94,some 95,some 90,none,some 91,some 84,some 151,some 107,some 149,some 154,some 166,some 105,some 153,some 152,some 98,some 74,none,none,none,some 143,some 104,some 144,some 145,none,none,none,some 179,some 180,some 181,some 165,some 106,some 183,some 184,some 182,some 133,some 97,some 77,none,some 76,none,none,none,none,none,none,none,none,some 203,some 195,some 204,some 205,some 137,none,none,none,none,none,none,none,none,none,none,none,none,none,none,none,none,none,none,none,none,none,none,none,none,none,none,none,none,none,none,none,none,none,none,none,none,none,none,none,none,none,none,none,none,none,none,none,none,none,none,none,none,none,none,none,none,none,none,none,none,none,none,none,none,none,none,none,none,none,none,none,none,none,none,none,none,none,none,none,none,none,none,none,none,none,none,none,none,none,none,none,none,none,none,none,none,none,none,none,some 27,none,none,none,none,none,none,none,none,none,none,none,none,none,none,none,none,none,none,none,none,none,some 9,some 29,none,some 30,none,none,none,none,some 78,some 31,none,none,none,none,none,none,some 82,none,none,none,none,some 34,some 83,none,none,none,none,none,none,none,none,none,none,none,none,none,none,none,none,none,none,none,none,none,none,none,none,some 11,none,none,none,none,none,none,none,none,none,none,none,none,none,none,none,none,none,some 28,none,none,none,some 32,none,some 33,none,none,none,none,none,none,none,none,none,some 79,none,some 80,some 81,none,none,none,none,none,none,none,none,none,none,none,none,none,none,some 6,some 57,some 12,some 36,some 26,some 116,some 87,some 37,some 38,some 75,some 86,some 142,some 140,some 85,some 88,some 89,some 134,some 138,some 139,some 141,none,none,some 3,none,none,none,none,none,none,some 5,none,none,none,none,none,none,none,some 7,some 8,some 10,none,none,none,none,none,none,none,none,none,none,none,none,none,none,none,none,none,none,none,none,none,none,none,none,none,none,none,none,none,none,none,none,none,none,none,none,none,none,none,none,none,none,none,none,none,none,none,none,none,none,none,none,none,none,none,none,none,none,none,none,none,none,none,none,none,none,none,none,none,none,none,none,none,none,none,none,none,none,none,none,none,none,none,none,none,none,none,none,none,none,none,none,none,none,none,none,none,none,none,none,none,none,none,none,none,none,none,none,none,none,none,none,none,none,none,none,none,none,none,none,none,none,none,none,none,none,none,none,none,none,none,none,none,none,none,none,none,none,none,none,none,none,none,none,none,none,none,none,none,none,none,none,none,none,none,none,none,none,none,none,none,none,none,none,none,none,none,none,none,none,none,none,none,none,none,none,none,none,none]
def Tryz.fkeyL:List (Option Nat):=[none,none,none,some 323,none,some 330,some 301,some 338,some 339,some 202,some 340,some 249,some 303,none,none,none,none,none,none,none,none,none,none,none,none,none,some 305,some 180,some 267,some 203,some 205,some 211,some 271,some 273,some 223,some 17,some 304,some 308,some 309,some 16,none,none,none,none,none,none,none,none,none,some 24,none,none,none,none,none,none,none,some 302,none,none,none,none,none,none,none,none,none,none,none,none,none,none,none,none,some 44,some 310,some 67,some 65,some 210,some 283,some 285,some 286,some 218,some 224,some 34,some 314,some 311,some 307,some 315,some 316,some 31,some 33,some 19,none,some 29,some 30,none,some 64,some 43,none,none,none,none,none,some 49,some 40,some 59,some 36,none,some 18,some 22,some 21,none,none,none,none,some 306,none,none,none,none,none,none,none,none,none,none,none,none,none,none,none,none,some 63,some 317,some 8,some 9,some 80,some 318,some 319,some 313,some 320,some 312,some 48,some 50,some 51,none,none,none,some 37,some 23,some 35,some 42,some 41,some 38,none,none,none,none,none,none,none,none,none,none,some 58,some 39,none,none,none,none,none,some 20,none,none,none,none,none,none,some 55,some 56,some 57,some 62,some 60,some 61,none,none,none,none,none,none,none,none,none,none,some 77,none,none,none,none,none,none,none,some 76,some 78,some 79]
def Tryz.T:Tab:={ fkey:=fun f=>(Tryz.fkeyL[f]?).join,gkey:=fun g=>if g=6 then some 0 else none }
abbrev OkC (p:Program) (n:Nat):Prop:=∃fn,p.funcs[n]?=some fn∧fn.body.isNone=false∧(fn.name == "runtime.NumGoroutine")=false
abbrev OkF (p:Program) (T:Tab) (n:Nat) (x:XF):Prop:=∃fn,p.funcs[n]?=some fn∧cFunc p T fn=some x∧x.body.regsOk=true
theorem Tryz.okc8:OkC Tryz.prog 135:=⟨_,Tryz.func135,by kernel_rfl,by kernel_rfl⟩
theorem Tryz.okc9:OkC Tryz.prog 136:=⟨_,Tryz.func136,by kernel_rfl,by kernel_rfl⟩
theorem Tryz.okc16:OkC Tryz.prog 39:=⟨_,Tryz.func39,by kernel_rfl,by kernel_rfl⟩
theorem Tryz.okc17:OkC Tryz.prog 35:=⟨_,Tryz.func35,by kernel_rfl,by kernel_rfl⟩
theorem Tryz.okc18:OkC Tryz.prog 109:=⟨_,Tryz.func109,by kernel_rfl,by kernel_rfl⟩
theorem Tryz.okc19:OkC Tryz.prog 92:=⟨_,Tryz.func92,by kernel_rfl,by kernel_rfl⟩
theorem Tryz.okc20:OkC Tryz.prog 172:=⟨_,Tryz.func172,by kernel_rfl,by kernel_rfl⟩
theorem Tryz.okc21:OkC Tryz.prog 111:=⟨_,Tryz.func111,by kernel_rfl,by kernel_rfl⟩
theorem Tryz.okc22:OkC Tryz.prog 110:=⟨_,Tryz.func110,by kernel_rfl,by kernel_rfl⟩
theorem Tryz.okc23:OkC Tryz.prog 150:=⟨_,Tryz.func150,by kernel_rfl,by kernel_rfl⟩
theorem Tryz.okc24:OkC Tryz.prog 49:=⟨_,Tryz.func49,by kernel_rfl,by kernel_rfl⟩
theorem Tryz.okc29:OkC Tryz.prog 94:=⟨_,Tryz.func94,by kernel_rfl,by kernel_rfl⟩
theorem Tryz.okc30:OkC Tryz.prog 95:=⟨_,Tryz.func95,by kernel_rfl,by kernel_rfl⟩
theorem Tryz.okc31:OkC Tryz.prog 90:=⟨_,Tryz.func90,by kernel_rfl,by kernel_rfl⟩
theorem Tryz.okc33:OkC Tryz.prog 91:=⟨_,Tryz.func91,by kernel_rfl,by kernel_rfl⟩
theorem Tryz.okc34:OkC Tryz.prog 84:=⟨_,Tryz.func84,by kernel_rfl,by kernel_rfl⟩
theorem Tryz.okc35:OkC Tryz.prog 151:=⟨_,Tryz.func151,by kernel_rfl,by kernel_rfl⟩
theorem Tryz.okc36:OkC Tryz.prog 107:=⟨_,Tryz.func107,by kernel_rfl,by kernel_rfl⟩
theorem Tryz.okc37:OkC Tryz.prog 149:=⟨_,Tryz.func149,by kernel_rfl,by kernel_rfl⟩
theorem Tryz.okc38:OkC Tryz.prog 154:=⟨_,Tryz.func154,by kernel_rfl,by kernel_rfl⟩
theorem Tryz.okc39:OkC Tryz.prog 166:=⟨_,Tryz.func166,by kernel_rfl,by kernel_rfl⟩
theorem Tryz.okc40:OkC Tryz.prog 105:=⟨_,Tryz.func105,by kernel_rfl,by kernel_rfl⟩
theorem Tryz.okc41:OkC Tryz.prog 153:=⟨_,Tryz.func153,by kernel_rfl,by kernel_rfl⟩
theorem Tryz.okc42:OkC Tryz.prog 152:=⟨_,Tryz.func152,by kernel_rfl,by kernel_rfl⟩
theorem Tryz.okc43:OkC Tryz.prog 98:=⟨_,Tryz.func98,by kernel_rfl,by kernel_rfl⟩
theorem Tryz.okc44:OkC Tryz.prog 74:=⟨_,Tryz.func74,by kernel_rfl,by kernel_rfl⟩
theorem Tryz.okc48:OkC Tryz.prog 143:=⟨_,Tryz.func143,by kernel_rfl,by kernel_rfl⟩
theorem Tryz.okc49:OkC Tryz.prog 104:=⟨_,Tryz.func104,by kernel_rfl,by kernel_rfl⟩
theorem Tryz.okc50:OkC Tryz.prog 144:=⟨_,Tryz.func144,by kernel_rfl,by kernel_rfl⟩
theorem Tryz.okc51:OkC Tryz.prog 145:=⟨_,Tryz.func145,by kernel_rfl,by kernel_rfl⟩
theorem Tryz.okc55:OkC Tryz.prog 179:=⟨_,Tryz.func179,by kernel_rfl,by kernel_rfl⟩
theorem Tryz.okc56:OkC Tryz.prog 180:=⟨_,Tryz.func180,by kernel_rfl,by kernel_rfl⟩
theorem Tryz.okc57:OkC Tryz.prog 181:=⟨_,Tryz.func181,by kernel_rfl,by kernel_rfl⟩
theorem Tryz.okc58:OkC Tryz.prog 165:=⟨_,Tryz.func165,by kernel_rfl,by kernel_rfl⟩
theorem Tryz.okc59:OkC Tryz.prog 106:=⟨_,Tryz.func106,by kernel_rfl,by kernel_rfl⟩
theorem Tryz.okc60:OkC Tryz.prog 183:=⟨_,Tryz.func183,by kernel_rfl,by kernel_rfl⟩
theorem Tryz.okc61:OkC Tryz.prog 184:=⟨_,Tryz.func184,by kernel_rfl,by kernel_rfl⟩
theorem Tryz.okc62:OkC Tryz.prog 182:=⟨_,Tryz.func182,by kernel_rfl,by kernel_rfl⟩
theorem Tryz.okc63:OkC Tryz.prog 133:=⟨_,Tryz.func133,by kernel_rfl,by kernel_rfl⟩
theorem Tryz.okc64:OkC Tryz.prog 97:=⟨_,Tryz.func97,by kernel_rfl,by kernel_rfl⟩
theorem Tryz.okc65:OkC Tryz.prog 77:=⟨_,Tryz.func77,by kernel_rfl,by kernel_rfl⟩
theorem Tryz.okc67:OkC Tryz.prog 76:=⟨_,Tryz.func76,by kernel_rfl,by kernel_rfl⟩
theorem Tryz.okc76:OkC Tryz.prog 203:=⟨_,Tryz.func203,by kernel_rfl,by kernel_rfl⟩
theorem Tryz.okc77:OkC Tryz.prog 195:=⟨_,Tryz.func195,by kernel_rfl,by kernel_rfl⟩
theorem Tryz.okc78:OkC Tryz.prog 204:=⟨_,Tryz.func204,by kernel_rfl,by kernel_rfl⟩
theorem Tryz.okc79:OkC Tryz.prog 205:=⟨_,Tryz.func205,by kernel_rfl,by kernel_rfl⟩
theorem Tryz.okc80:OkC Tryz.prog 137:=⟨_,Tryz.func137,by kernel_rfl,by kernel_rfl⟩
theorem Tryz.okc180:OkC Tryz.prog 27:=⟨_,Tryz.func27,by kernel_rfl,by kernel_rfl⟩
theorem Tryz.okc202:OkC Tryz.prog 9:=⟨_,Tryz.func9,by kernel_rfl,by kernel_rfl⟩
theorem Tryz.okc203:OkC Tryz.prog 29:=⟨_,Tryz.func29,by kernel_rfl,by kernel_rfl⟩
theorem Tryz.okc205:OkC Tryz.prog 30:=⟨_,Tryz.func30,by kernel_rfl,by kernel_rfl⟩
theorem Tryz.okc210:OkC Tryz.prog 78:=⟨_,Tryz.func78,by kernel_rfl,by kernel_rfl⟩
theorem Tryz.okc211:OkC Tryz.prog 31:=⟨_,Tryz.func31,by kernel_rfl,by kernel_rfl⟩
theorem Tryz.okc218:OkC Tryz.prog 82:=⟨_,Tryz.func82,by kernel_rfl,by kernel_rfl⟩
theorem Tryz.okc223:OkC Tryz.prog 34:=⟨_,Tryz.func34,by kernel_rfl,by kernel_rfl⟩
theorem Tryz.okc224:OkC Tryz.prog 83:=⟨_,Tryz.func83,by kernel_rfl,by kernel_rfl⟩
theorem Tryz.okc249:OkC Tryz.prog 11:=⟨_,Tryz.func11,by kernel_rfl,by kernel_rfl⟩
theorem Tryz.okc267:OkC Tryz.prog 28:=⟨_,Tryz.func28,by kernel_rfl,by kernel_rfl⟩
theorem Tryz.okc271:OkC Tryz.prog 32:=⟨_,Tryz.func32,by kernel_rfl,by kernel_rfl⟩
theorem Tryz.okc273:OkC Tryz.prog 33:=⟨_,Tryz.func33,by kernel_rfl,by kernel_rfl⟩
theorem Tryz.okc283:OkC Tryz.prog 79:=⟨_,Tryz.func79,by kernel_rfl,by kernel_rfl⟩
theorem Tryz.okc285:OkC Tryz.prog 80:=⟨_,Tryz.func80,by kernel_rfl,by kernel_rfl⟩
theorem Tryz.okc286:OkC Tryz.prog 81:=⟨_,Tryz.func81,by kernel_rfl,by kernel_rfl⟩
theorem Tryz.okc301:OkC Tryz.prog 6:=⟨_,Tryz.func6,by kernel_rfl,by kernel_rfl⟩
theorem Tryz.okc302:OkC Tryz.prog 57:=⟨_,Tryz.func57,by kernel_rfl,by kernel_rfl⟩
theorem Tryz.okc303:OkC Tryz.prog 12:=⟨_,Tryz.func12,by kernel_rfl,by kernel_rfl⟩
theorem Tryz.okc304:OkC Tryz.prog 36:=⟨_,Tryz.func36,by kernel_rfl,by kernel_rfl⟩
theorem Tryz.okc305:OkC Tryz.prog 26:=⟨_,Tryz.func26,by kernel_rfl,by kernel_rfl⟩
theorem Tryz.okc306:OkC Tryz.prog 116:=⟨_,Tryz.func116,by kernel_rfl,by kernel_rfl⟩
theorem Tryz.okc307:OkC Tryz.prog 87:=⟨_,Tryz.func87,by kernel_rfl,by kernel_rfl⟩
theorem Tryz.okc308:OkC Tryz.prog 37:=⟨_,Tryz.func37,by kernel_rfl,by kernel_rfl⟩
theorem Tryz.okc309:OkC Tryz.prog 38:=⟨_,Tryz.func38,by kernel_rfl,by kernel_rfl⟩
theorem Tryz.okc310:OkC Tryz.prog 75:=⟨_,Tryz.func75,by kernel_rfl,by kernel_rfl⟩
theorem Tryz.okc311:OkC Tryz.prog 86:=⟨_,Tryz.func86,by kernel_rfl,by kernel_rfl⟩
theorem Tryz.okc312:OkC Tryz.prog 142:=⟨_,Tryz.func142,by kernel_rfl,by kernel_rfl⟩
theorem Tryz.okc313:OkC Tryz.prog 140:=⟨_,Tryz.func140,by kernel_rfl,by kernel_rfl⟩
theorem Tryz.okc314:OkC Tryz.prog 85:=⟨_,Tryz.func85,by kernel_rfl,by kernel_rfl⟩
theorem Tryz.okc315:OkC Tryz.prog 88:=⟨_,Tryz.func88,by kernel_rfl,by kernel_rfl⟩
theorem Tryz.okc316:OkC Tryz.prog 89:=⟨_,Tryz.func89,by kernel_rfl,by kernel_rfl⟩
theorem Tryz.okc317:OkC Tryz.prog 134:=⟨_,Tryz.func134,by kernel_rfl,by kernel_rfl⟩
theorem Tryz.okc318:OkC Tryz.prog 138:=⟨_,Tryz.func138,by kernel_rfl,by kernel_rfl⟩
theorem Tryz.okc319:OkC Tryz.prog 139:=⟨_,Tryz.func139,by kernel_rfl,by kernel_rfl⟩
theorem Tryz.okc320:OkC Tryz.prog 141:=⟨_,Tryz.func141,by kernel_rfl,by kernel_rfl⟩
theorem Tryz.okc323:OkC Tryz.prog 3:=⟨_,Tryz.func3,by kernel_rfl,by kernel_rfl⟩
theorem Tryz.okc330:OkC Tryz.prog 5:=⟨_,Tryz.func5,by kernel_rfl,by kernel_rfl⟩
theorem Tryz.okc338:OkC Tryz.prog 7:=⟨_,Tryz.func7,by kernel_rfl,by kernel_rfl⟩
theorem Tryz.okc339:OkC Tryz.prog 8:=⟨_,Tryz.func8,by kernel_rfl,by kernel_rfl⟩
theorem Tryz.okc340:OkC Tryz.prog 10:=⟨_,Tryz.func10,by kernel_rfl,by kernel_rfl⟩
theorem Tryz.okf8:OkF Tryz.prog Tryz.T 135 zuE:=⟨_,Tryz.func135,by kernel_rfl,by kernel_rfl⟩
theorem Tryz.okf9:OkF Tryz.prog Tryz.T 136 zuD:=⟨_,Tryz.func136,by kernel_rfl,by kernel_rfl⟩
theorem Tryz.okf16:OkF Tryz.prog Tryz.T 39 ztd:=⟨_,Tryz.func39,by kernel_rfl,by kernel_rfl⟩
theorem Tryz.okf17:OkF Tryz.prog Tryz.T 35 zuG:=⟨_,Tryz.func35,by kernel_rfl,by kernel_rfl⟩
theorem Tryz.okf18:OkF Tryz.prog Tryz.T 109 zuu:=⟨_,Tryz.func109,by kernel_rfl,by kernel_rfl⟩
theorem Tryz.okf19:OkF Tryz.prog Tryz.T 92 zth:=⟨_,Tryz.func92,by kernel_rfl,by kernel_rfl⟩
theorem Tryz.okf20:OkF Tryz.prog Tryz.T 172 zt4:=⟨_,Tryz.func172,by kernel_rfl,by kernel_rfl⟩
theorem Tryz.okf21:OkF Tryz.prog Tryz.T 111 zuc:=⟨_,Tryz.func111,by kernel_rfl,by kernel_rfl⟩
theorem Tryz.okf22:OkF Tryz.prog Tryz.T 110 ztr:=⟨_,Tryz.func110,by kernel_rfl,by kernel_rfl⟩
theorem Tryz.okf23:OkF Tryz.prog Tryz.T 150 zuB:=⟨_,Tryz.func150,by kernel_rfl,by kernel_rfl⟩
theorem Tryz.okf24:OkF Tryz.prog Tryz.T 49 ztx:=⟨_,Tryz.func49,by kernel_rfl,by kernel_rfl⟩
theorem Tryz.okf29:OkF Tryz.prog Tryz.T 94 zuv:=⟨_,Tryz.func94,by kernel_rfl,by kernel_rfl⟩
theorem Tryz.okf30:OkF Tryz.prog Tryz.T 95 ztJ:=⟨_,Tryz.func95,by kernel_rfl,by kernel_rfl⟩
theorem Tryz.okf31:OkF Tryz.prog Tryz.T 90 zuf:=⟨_,Tryz.func90,by kernel_rfl,by kernel_rfl⟩
theorem Tryz.okf34:OkF Tryz.prog Tryz.T 84 zud:=⟨_,Tryz.func84,by kernel_rfl,by kernel_rfl⟩
theorem Tryz.okf35:OkF Tryz.prog Tryz.T 151 zti:=⟨_,Tryz.func151,by kernel_rfl,by kernel_rfl⟩
theorem Tryz.okf36:OkF Tryz.prog Tryz.T 107 ztU:=⟨_,Tryz.func107,by kernel_rfl,by kernel_rfl⟩
theorem Tryz.okf37:OkF Tryz.prog Tryz.T 149 zuh:=⟨_,Tryz.func149,by kernel_rfl,by kernel_rfl⟩
theorem Tryz.okf38:OkF Tryz.prog Tryz.T 154 zux:=⟨_,Tryz.func154,by kernel_rfl,by kernel_rfl⟩
theorem Tryz.okf39:OkF Tryz.prog Tryz.T 166 zuz:=⟨_,Tryz.func166,by kernel_rfl,by kernel_rfl⟩
theorem Tryz.okf40:OkF Tryz.prog Tryz.T 105 zus:=⟨_,Tryz.func105,by kernel_rfl,by kernel_rfl⟩
theorem Tryz.okf41:OkF Tryz.prog Tryz.T 153 ztG:=⟨_,Tryz.func153,by kernel_rfl,by kernel_rfl⟩
theorem Tryz.okf42:OkF Tryz.prog Tryz.T 152 ztk:=⟨_,Tryz.func152,by kernel_rfl,by kernel_rfl⟩
theorem Tryz.okf43:OkF Tryz.prog Tryz.T 98 zuw:=⟨_,Tryz.func98,by kernel_rfl,by kernel_rfl⟩
theorem Tryz.okf44:OkF Tryz.prog Tryz.T 74 ztT:=⟨_,Tryz.func74,by kernel_rfl,by kernel_rfl⟩
theorem Tryz.okf48:OkF Tryz.prog Tryz.T 143 ztI:=⟨_,Tryz.func143,by kernel_rfl,by kernel_rfl⟩
theorem Tryz.okf49:OkF Tryz.prog Tryz.T 104 ztB:=⟨_,Tryz.func104,by kernel_rfl,by kernel_rfl⟩
theorem Tryz.okf55:OkF Tryz.prog Tryz.T 179 ztj:=⟨_,Tryz.func179,by kernel_rfl,by kernel_rfl⟩
theorem Tryz.okf56:OkF Tryz.prog Tryz.T 180 ztL:=⟨_,Tryz.func180,by kernel_rfl,by kernel_rfl⟩
theorem Tryz.okf57:OkF Tryz.prog Tryz.T 181 zuj:=⟨_,Tryz.func181,by kernel_rfl,by kernel_rfl⟩
theorem Tryz.okf58:OkF Tryz.prog Tryz.T 165 ztM:=⟨_,Tryz.func165,by kernel_rfl,by kernel_rfl⟩
theorem Tryz.okf59:OkF Tryz.prog Tryz.T 106 ztu:=⟨_,Tryz.func106,by kernel_rfl,by kernel_rfl⟩
theorem Tryz.okf60:OkF Tryz.prog Tryz.T 183 ztv:=⟨_,Tryz.func183,by kernel_rfl,by kernel_rfl⟩
theorem Tryz.okf61:OkF Tryz.prog Tryz.T 184 ztm:=⟨_,Tryz.func184,by kernel_rfl,by kernel_rfl⟩
theorem Tryz.okf62:OkF Tryz.prog Tryz.T 182 ztl:=⟨_,Tryz.func182,by kernel_rfl,by kernel_rfl⟩
theorem Tryz.okf63:OkF Tryz.prog Tryz.T 133 ztq:=⟨_,Tryz.func133,by kernel_rfl,by kernel_rfl⟩
theorem Tryz.okf64:OkF Tryz.prog Tryz.T 97 ztg:=⟨_,Tryz.func97,by kernel_rfl,by kernel_rfl⟩
theorem Tryz.okf65:OkF Tryz.prog Tryz.T 77 zuF:=⟨_,Tryz.func77,by kernel_rfl,by kernel_rfl⟩
theorem Tryz.okf67:OkF Tryz.prog Tryz.T 76 zug:=⟨_,Tryz.func76,by kernel_rfl,by kernel_rfl⟩
theorem Tryz.okf76:OkF Tryz.prog Tryz.T 203 ztw:=⟨_,Tryz.func203,by kernel_rfl,by kernel_rfl⟩
theorem Tryz.okf77:OkF Tryz.prog Tryz.T 195 zty:=⟨_,Tryz.func195,by kernel_rfl,by kernel_rfl⟩
theorem Tryz.okf78:OkF Tryz.prog Tryz.T 204 ztz:=⟨_,Tryz.func204,by kernel_rfl,by kernel_rfl⟩
theorem Tryz.okf79:OkF Tryz.prog Tryz.T 205 zts:=⟨_,Tryz.func205,by kernel_rfl,by kernel_rfl⟩
theorem Tryz.okf80:OkF Tryz.prog Tryz.T 137 zte:=⟨_,Tryz.func137,by kernel_rfl,by kernel_rfl⟩
theorem Tryz.okf180:OkF Tryz.prog Tryz.T 27 zto:=⟨_,Tryz.func27,by kernel_rfl,by kernel_rfl⟩
theorem Tryz.okf202:OkF Tryz.prog Tryz.T 9 zue:=⟨_,Tryz.func9,by kernel_rfl,by kernel_rfl⟩
theorem Tryz.okf203:OkF Tryz.prog Tryz.T 29 x___skymosaic_wire_Writer__Done:=⟨_,Tryz.func29,by kernel_rfl,by kernel_rfl⟩
theorem Tryz.okf205:OkF Tryz.prog Tryz.T 30 x___skymosaic_wire_Reader__End:=⟨_,Tryz.func30,by kernel_rfl,by kernel_rfl⟩
theorem Tryz.okf210:OkF Tryz.prog Tryz.T 78 x___skymosaic_wire_Writer__Uint:=⟨_,Tryz.func78,by kernel_rfl,by kernel_rfl⟩
theorem Tryz.okf211:OkF Tryz.prog Tryz.T 31 ztc:=⟨_,Tryz.func31,by kernel_rfl,by kernel_rfl⟩
theorem Tryz.okf218:OkF Tryz.prog Tryz.T 82 x___skymosaic_wire_Reader__next:=⟨_,Tryz.func82,by kernel_rfl,by kernel_rfl⟩
theorem Tryz.okf223:OkF Tryz.prog Tryz.T 34 x___skymosaic_wire_Reader__Uint:=⟨_,Tryz.func34,by kernel_rfl,by kernel_rfl⟩
theorem Tryz.okf224:OkF Tryz.prog Tryz.T 83 x___skymosaic_wire_Reader__fail:=⟨_,Tryz.func83,by kernel_rfl,by kernel_rfl⟩
theorem Tryz.okf249:OkF Tryz.prog Tryz.T 11 x___skymosaic_wire_Reader__Int:=⟨_,Tryz.func11,by kernel_rfl,by kernel_rfl⟩
theorem Tryz.okf267:OkF Tryz.prog Tryz.T 28 x___skymosaic_wire_Writer__Int:=⟨_,Tryz.func28,by kernel_rfl,by kernel_rfl⟩
theorem Tryz.okf271:OkF Tryz.prog Tryz.T 32 zuJ:=⟨_,Tryz.func32,by kernel_rfl,by kernel_rfl⟩
theorem Tryz.okf273:OkF Tryz.prog Tryz.T 33 ztE:=⟨_,Tryz.func33,by kernel_rfl,by kernel_rfl⟩
theorem Tryz.okf283:OkF Tryz.prog Tryz.T 79 ztp:=⟨_,Tryz.func79,by kernel_rfl,by kernel_rfl⟩
theorem Tryz.okf285:OkF Tryz.prog Tryz.T 80 zuC:=⟨_,Tryz.func80,by kernel_rfl,by kernel_rfl⟩
theorem Tryz.okf286:OkF Tryz.prog Tryz.T 81 zt3:=⟨_,Tryz.func81,by kernel_rfl,by kernel_rfl⟩
theorem Tryz.okf301:OkF Tryz.prog Tryz.T 6 zuA:=⟨_,Tryz.func6,by kernel_rfl,by kernel_rfl⟩
theorem Tryz.okf302:OkF Tryz.prog Tryz.T 57 zt1:=⟨_,Tryz.func57,by kernel_rfl,by kernel_rfl⟩
theorem Tryz.okf303:OkF Tryz.prog Tryz.T 12 zui:=⟨_,Tryz.func12,by kernel_rfl,by kernel_rfl⟩
theorem Tryz.okf304:OkF Tryz.prog Tryz.T 36 zub:=⟨_,Tryz.func36,by kernel_rfl,by kernel_rfl⟩
theorem Tryz.okf305:OkF Tryz.prog Tryz.T 26 ztZ:=⟨_,Tryz.func26,by kernel_rfl,by kernel_rfl⟩
theorem Tryz.okf306:OkF Tryz.prog Tryz.T 116 zut:=⟨_,Tryz.func116,by kernel_rfl,by kernel_rfl⟩
theorem Tryz.okf307:OkF Tryz.prog Tryz.T 87 zuH:=⟨_,Tryz.func87,by kernel_rfl,by kernel_rfl⟩
theorem Tryz.okf308:OkF Tryz.prog Tryz.T 37 ztn:=⟨_,Tryz.func37,by kernel_rfl,by kernel_rfl⟩
theorem Tryz.okf309:OkF Tryz.prog Tryz.T 38 zua:=⟨_,Tryz.func38,by kernel_rfl,by kernel_rfl⟩
theorem Tryz.okf310:OkF Tryz.prog Tryz.T 75 zup:=⟨_,Tryz.func75,by kernel_rfl,by kernel_rfl⟩
theorem Tryz.okf311:OkF Tryz.prog Tryz.T 86 ztK:=⟨_,Tryz.func86,by kernel_rfl,by kernel_rfl⟩
theorem Tryz.okf312:OkF Tryz.prog Tryz.T 142 zt9:=⟨_,Tryz.func142,by kernel_rfl,by kernel_rfl⟩
theorem Tryz.okf313:OkF Tryz.prog Tryz.T 140 ztX:=⟨_,Tryz.func140,by kernel_rfl,by kernel_rfl⟩
theorem Tryz.okf314:OkF Tryz.prog Tryz.T 85 ztR:=⟨_,Tryz.func85,by kernel_rfl,by kernel_rfl⟩
theorem Tryz.okf315:OkF Tryz.prog Tryz.T 88 zt5:=⟨_,Tryz.func88,by kernel_rfl,by kernel_rfl⟩
theorem Tryz.okf316:OkF Tryz.prog Tryz.T 89 ztF:=⟨_,Tryz.func89,by kernel_rfl,by kernel_rfl⟩
theorem Tryz.okf317:OkF Tryz.prog Tryz.T 134 zt0:=⟨_,Tryz.func134,by kernel_rfl,by kernel_rfl⟩
theorem Tryz.okf318:OkF Tryz.prog Tryz.T 138 zs8:=⟨_,Tryz.func138,by kernel_rfl,by kernel_rfl⟩
theorem Tryz.okf319:OkF Tryz.prog Tryz.T 139 ztY:=⟨_,Tryz.func139,by kernel_rfl,by kernel_rfl⟩
theorem Tryz.okf320:OkF Tryz.prog Tryz.T 141 ztH:=⟨_,Tryz.func141,by kernel_rfl,by kernel_rfl⟩
theorem Tryz.okf323:OkF Tryz.prog Tryz.T 3 ztD:=⟨_,Tryz.func3,by kernel_rfl,by kernel_rfl⟩
theorem Tryz.okf330:OkF Tryz.prog Tryz.T 5 zs9:=⟨_,Tryz.func5,by kernel_rfl,by kernel_rfl⟩
theorem Tryz.okf338:OkF Tryz.prog Tryz.T 7 ztV:=⟨_,Tryz.func7,by kernel_rfl,by kernel_rfl⟩
theorem Tryz.okf339:OkF Tryz.prog Tryz.T 8 ztQ:=⟨_,Tryz.func8,by kernel_rfl,by kernel_rfl⟩
theorem Tryz.okf340:OkF Tryz.prog Tryz.T 10 zt2:=⟨_,Tryz.func10,by kernel_rfl,by kernel_rfl⟩
theorem Tryz.allc:AllCal Tryz.prog Tryz.keyL:=⟨Tryz.okc8,Tryz.okc9,Tryz.okc16,Tryz.okc17,Tryz.okc18,Tryz.okc19,Tryz.okc20,Tryz.okc21,Tryz.okc22,Tryz.okc23,Tryz.okc24,Tryz.okc29,Tryz.okc30,Tryz.okc31,Tryz.okc33,Tryz.okc34,Tryz.okc35,Tryz.okc36,Tryz.okc37,Tryz.okc38,Tryz.okc39,Tryz.okc40,Tryz.okc41,Tryz.okc42,Tryz.okc43,Tryz.okc44,Tryz.okc48,Tryz.okc49,Tryz.okc50,Tryz.okc51,Tryz.okc55,Tryz.okc56,Tryz.okc57,Tryz.okc58,Tryz.okc59,Tryz.okc60,Tryz.okc61,Tryz.okc62,Tryz.okc63,Tryz.okc64,Tryz.okc65,Tryz.okc67,Tryz.okc76,Tryz.okc77,Tryz.okc78,Tryz.okc79,Tryz.okc80,Tryz.okc180,Tryz.okc202,Tryz.okc203,Tryz.okc205,Tryz.okc210,Tryz.okc211,Tryz.okc218,Tryz.okc223,Tryz.okc224,Tryz.okc249,Tryz.okc267,Tryz.okc271,Tryz.okc273,Tryz.okc283,Tryz.okc285,Tryz.okc286,Tryz.okc301,Tryz.okc302,Tryz.okc303,Tryz.okc304,Tryz.okc305,Tryz.okc306,Tryz.okc307,Tryz.okc308,Tryz.okc309,Tryz.okc310,Tryz.okc311,Tryz.okc312,Tryz.okc313,Tryz.okc314,Tryz.okc315,Tryz.okc316,Tryz.okc317,Tryz.okc318,Tryz.okc319,Tryz.okc320,Tryz.okc323,Tryz.okc330,Tryz.okc338,Tryz.okc339,Tryz.okc340,True.intro⟩
theorem Tryz.allf:AllOk Tryz.prog Tryz.T progL Tryz.keyL:=⟨Tryz.okf8,Tryz.okf9,Tryz.okf16,Tryz.okf17,Tryz.okf18,Tryz.okf19,Tryz.okf20,Tryz.okf21,Tryz.okf22,Tryz.okf23,Tryz.okf24,Tryz.okf29,Tryz.okf30,Tryz.okf31,Tryz.okf34,Tryz.okf35,Tryz.okf36,Tryz.okf37,Tryz.okf38,Tryz.okf39,Tryz.okf40,Tryz.okf41,Tryz.okf42,Tryz.okf43,Tryz.okf44,Tryz.okf48,Tryz.okf49,Tryz.okf55,Tryz.okf56,Tryz.okf57,Tryz.okf58,Tryz.okf59,Tryz.okf60,Tryz.okf61,Tryz.okf62,Tryz.okf63,Tryz.okf64,Tryz.okf65,Tryz.okf67,Tryz.okf76,Tryz.okf77,Tryz.okf78,Tryz.okf79,Tryz.okf80,Tryz.okf180,Tryz.okf202,Tryz.okf203,Tryz.okf205,Tryz.okf210,Tryz.okf211,Tryz.okf218,Tryz.okf223,Tryz.okf224,Tryz.okf249,Tryz.okf267,Tryz.okf271,Tryz.okf273,Tryz.okf283,Tryz.okf285,Tryz.okf286,Tryz.okf301,Tryz.okf302,Tryz.okf303,Tryz.okf304,Tryz.okf305,Tryz.okf306,Tryz.okf307,Tryz.okf308,Tryz.okf309,Tryz.okf310,Tryz.okf311,Tryz.okf312,Tryz.okf313,Tryz.okf314,Tryz.okf315,Tryz.okf316,Tryz.okf317,Tryz.okf318,Tryz.okf319,Tryz.okf320,Tryz.okf323,Tryz.okf330,Tryz.okf338,Tryz.okf339,Tryz.okf340,True.intro⟩
theorem Tryz.libok:LibOk Tryz.prog Tryz.lren (fun f=>(Tryz.keyL[f]?).join) Tryz.T 6 where
 l105:=Tryz.l105
 l171:=Tryz.l171
 lX:=Tryz.lX
 gname:=by kernel_rfl
 gkey:=rfl
 k50:=rfl
 k51:=rfl
 o130:=fun g h=>by have h:(none:Option FuncId)=some g:=h;cases h
 o131:=fun g h=>by have h:(none:Option FuncId)=some g:=h;cases h
 o222:=fun g h=>by have h:(none:Option FuncId)=some g:=h;cases h
theorem Tryz.mixed:Tryz.prog.follows .mixedOrders=true:=by kernel_rfl
theorem Tryz.progok1:ProgOk Tryz.prog (fun f=>(Tryz.keyL[f]?).join) Tryz.T E1.prog:=zlv Tryz.mixed Tryz.allc Tryz.allf Tryz.libok
theorem Tryz.gk0:∀g n,Tryz.T.gkey g=some n→n≤4:=fun g n h=>by
 have h:(if g=6 then some 0 else none)=some n:=h
 split at h
 ·cases h;decide
 ·cases h
theorem Tryz.progok:ProgOk Tryz.prog (fun f=>(Tryz.keyL[f]?).join) Tryz.T E0.prog:=zlu Tryz.mixed Tryz.allc Tryz.allf Tryz.libok fun {g} hk=>by
 obtain rfl:g=91:=(Option.some.inj hk).symm
 exact fun {_ _ _ _ _ _ _ _} e TO RL S=>zlJ (pre:=Tryz.strPre) (tail:=Tryz.strTail) Tryz.progok1 KE1 Tryz.gk0 (G:=6) rfl Tryz.func91 rfl (by kernel_rfl) rfl rfl (fun neg ps h1 h2 h3 b1 o1 b3 o3 c w h4 h5 h6 h7 tm h8 h9 h10=>Tryz.str_tail neg ps h1 h2 h3 b1 o1 b3 o3 c w h4 h5 h6 h7 tm h8 h9 h10) e TO RL S
end Go.Proofs
namespace Go.Eng
open Go.RowKit
theorem tabIs_mem {P:Program} {W:World} {name:String} {k:IntKind} {zs:List Int} {g:Nat} {t e:TypeId} {n:Nat}
  (hg:P.globalNamed name=some g) (hty:(P.globals[g]?).map (·.type)=some t) (ht:P.underlying t=some (.array n e)) (he:P.underlying e=some (.int k)) (hce:P.cellsOf e=1) (hct:P.cellsOf t=n) :
  ∀{laid:List (String×DataW Unit)} {ps:List MemPlace},DataW.LaidVars P W laid ps→(name,Lib.tabData k zs)∈laid→Lib.TabIs P W name k zs
 | [],_,_,hm=>by cases hm
 | x::laid,ps,h,hm=>by
  obtain⟨g',t',cs,fuel,p,q,hg',ht',hvar,hd,h2,h3⟩:=h
  rcases List.mem_cons.1 hm with rfl|hm
  ·obtain rfl:=Option.some.inj (hg.symm.trans hg')
   obtain rfl:=Option.some.inj (hty.symm.trans ht')
   unfold Lib.TabIs
   rw[hvar,←Lib.cells_of_tab ht he hce hct hd]
  ·exact tabIs_mem hg hty ht he hce hct (by first|exact h2|exact h3|exact h3.1|exact h2.1) hm
def IsRow (k:IntKind) (w:World) (a:Option Addr) (len cap:Nat) (zs:List Int):Prop :=
 (a=none∧len=0∧cap=0∧zs=[]) ∨
 ∃x,a=some x∧len≤cap∧cap≤maxLen∧zs.length=cap∧(∀i,i<zs.length→w.cell? (x.add i)=some (.int k (zs.getD i 0)))∧∀n∈zs,(Lit.int k n).wf=true
def hpA (bs:List (List AV)):Hp:=⟨fun n=>if n≤4 then (globG n).map fun c=>⟨c,false,0⟩ else (bs[n-5]?).map fun c=>⟨c,false,0⟩,bs.length+5⟩
def locA (gs:Nat→Option At) (ats:List At):Loc:=fun n=>if n≤4 then gs n else ats[n-5]?
def InW (c:List AV) (a:At) (W:World):Prop :=
 a.b<W.heap.size∧a.w=false∧c.length≤a.n∧∀i (h:i<c.length),c[i].scal=true∧∃v,W.cell? ⟨a.b,a.o+i,none⟩=some v∧∀key l,Rel key l c[i] v
def GlobIn (key:Nat→Option FuncId) (W:World) (n:Nat) (a:At):Prop :=
 a.o=0∧∃c cs t fz,globG n=some c∧W.heap[a.b]?=some (.cells cs t fz)∧c.length≤a.n∧RelL key (fun _=>none) c cs.toList
theorem zhn:∀{n:Nat} {c:List AV},globG n=some c→c.all AV.scal=true
 | 0,c,h=>by cases h;rfl
 | 1,c,h=>by cases h;rfl
 | 2,c,h=>by cases h;rfl
 | 3,c,h=>by cases h;rfl
 | 4,c,h=>by cases h;rfl
 | n+5,c,h=>by cases h
theorem zgC:∀{n:Nat} {c:List AV},globG n=some c→(c.map cst0).all PV.scal=true
 | 0,c,h=>by cases h;decide
 | 1,c,h=>by cases h;decide
 | 2,c,h=>by cases h;decide
 | 3,c,h=>by cases h;rfl
 | 4,c,h=>by cases h;rfl
 | n+5,c,h=>by cases h
theorem zkE:∀{n:Nat} {c:List AV},globG n=some c→n≤4
 | 0,c,h=>by omega
 | 1,c,h=>by omega
 | 2,c,h=>by omega
 | 3,c,h=>by omega
 | 4,c,h=>by omega
 | n+5,c,h=>by cases h
theorem zrL {P:Program} {key:Nat→Option FuncId} {F:Nat} {W:World} {gs:Nat→Option At} (hgs:∀n a,n≤4→gs n=some a→GlobIn key W n a)
  {bs:List (List AV)} {ats:List At} (hl:ats.length=bs.length) (hin:∀(n:Nat) c a,bs[n]?=some c→ats[n]?=some a→InW c a W):Sim key F (locA gs ats) (hpA bs) W:=by
 have hlt:∀n a,n≤4→gs n=some a→a.b<W.heap.size:=fun n a hn hg=>by
  obtain⟨_,c,cs,t,fz,_,h2,_⟩:=hgs n a hn hg
  rcases Nat.lt_or_ge a.b W.heap.size with q|q
  ·exact q
  ·rw[Array.getElem?_eq_none q] at h2;cases h2
 have hout:∀n,bs.length≤n→ats[n]?=none:=fun n hn=>List.getElem?_eq_none (by omega)
 have norw:∀n blk,(hpA bs).m n=some blk→blk.rw=false:=fun n blk e=>by
  simp only[hpA] at e
  split at e<;>(simp only[Option.map_eq_some_iff] at e;obtain⟨c,_,rfl⟩:=e;rfl)
 refine⟨fun n blk a e1 e2=>?_,fun n blk a n' blk' a' e1 e2 e3=>?_,fun n a e=>?_,fun n a e=>?_,fun n hn=>?_⟩
 ·by_cases hn:n≤4
  ·simp only[hpA,if_pos hn,Option.map_eq_some_iff] at e1
   simp only[locA,if_pos hn] at e2
   obtain⟨c,c1,rfl⟩:=e1
   obtain⟨g1,c',cs,t,fz,g2,g3,g4,g5⟩:=hgs n a hn e2
   obtain rfl:=Option.some.inj (c1.symm.trans g2)
   have hsz:c.length=cs.size:=by simpa using g5.1
   refine⟨hlt n a hn e2,g4,fun i hi=>?_,fun i hi=>?_,fun q=>(by cases q),fun _=>⟨rfl,g1,cs,t,fz,g3,hsz.symm⟩⟩
   ·have hi:i<c.length:=hi
    have hi':i<cs.toList.length:=by simp;omega
    refine⟨cs.toList[i],?_,(g5.2 i hi hi').mono fun n a q=>by cases q⟩
    have hb:W.heap[a.b]?=some (.cells cs t fz):=g3
    simp only[World.cell?,hb,g1,Nat.zero_add]
    rw[Array.getElem_toList,Array.getElem?_eq_getElem (by omega)];rfl
   ·have:=zhn c1
    rw[List.all_eq_true] at this
    exact this _ (List.getElem_mem _)
  ·simp only[hpA,if_neg hn,Option.map_eq_some_iff] at e1
   simp only[locA,if_neg hn] at e2
   obtain⟨c,c1,rfl⟩:=e1
   obtain⟨q1,q2,q3,q4⟩:=hin _ c a c1 e2
   exact⟨q1,q3,fun i hi=>by obtain⟨_,v,v1,v2⟩:=q4 i hi;exact⟨v,v1,v2 key _⟩,fun i hi=>(q4 i hi).1,fun q=>(by cases q),fun q=>by rw[q2] at q;cases q⟩
 ·rw[norw n blk e1] at e3;cases e3
 ·by_cases hn:n≤4
  ·simp only[locA,if_pos hn] at e
   exact hlt n a hn e
  ·simp only[locA,if_neg hn] at e
   have hb:n-5<bs.length:=by
    rcases Nat.lt_or_ge (n-5) bs.length with q|q
    ·exact q
    ·rw[hout _ q] at e;cases e
   exact(hin _ _ a (List.getElem?_eq_getElem hb) e).1
 ·left
  show n<bs.length+5
  by_cases hn:n≤4
  ·omega
  ·simp only[locA,if_neg hn] at e
   rcases Nat.lt_or_ge (n-5) bs.length with q|q
   ·omega
   ·rw[hout _ q] at e;cases e
 ·have hn:bs.length+5≤n:=hn
  simp only[hpA]
  rw[if_neg (by omega),List.getElem?_eq_none (by omega)];rfl
theorem PInv.startG {bs:List (List AV)} (w:(hpA bs).wf):PInv globG (fun _=>False) [] [] (hpA bs):=by
 refine⟨rfl,fun i j m q=>by simp at q,fun m q=>by simp at q,w,fun n m q=>by simp at q,fun n b m q=>by simp at q,fun m d=>d.elim,fun g l q=>?_⟩
 refine⟨⟨l,false,0⟩,?_,⟨rfl,zgC q⟩,fun d=>?_⟩
 ·simp only[hpA,if_pos (zkE q),q,Option.map_some]
 ·rcases d with d|d
  ·exact d
  ·exact zhC _ d
theorem glob_tab {P:Program} {key:Nat→Option FuncId} {W:World} {G:Nat} (hg:P.globalNamed "internal/strconv.uint64pow10" = some G) (ht:Lib.TabIs P W "internal/strconv.uint64pow10" .u64 Lib.pow10Tab):GlobIn key W 0 ⟨G,0,20,true⟩:=by
 have hb:∃cs t fz,W.heap[G]?=some (.cells cs t fz)∧cs=(Lib.pow10Tab.map fun z=>Value.int .u64 z).toArray:=by
  unfold Lib.TabIs World.var? at ht
  rw[hg] at ht
  simp only[Option.bind_some] at ht
  split at ht
  ·rename_i cs t fz hh
   cases ht
   exact⟨_,t,fz,hh,rfl⟩
  ·cases ht
 obtain⟨cs,t,fz,hh,rfl⟩:=hb
 refine⟨rfl,powT,_,t,fz,rfl,hh,Nat.le_refl _,by simp[Lib.pow10Tab,powT],fun i h1 h2=>?_⟩
 have hpl:powT.length=20:=rfl
 have hi':i<20:=by rw[←hpl];exact h1
 simp only[powT,List.getElem_map,List.getElem_range,Lib.pow10Tab]
 exact .i _ _
theorem law_calls {P:Program} {key:Nat→Option FuncId} {T:Tab} (K:ProgOk P key T E0.prog) (hTf:∀f k,T.fkey f=some k→key k=some f) {W:World} {gs:Nat→Option At} (hgs:∀n a,n≤4→gs n=some a→GlobIn key W n a)
  (hT:∀g n,T.gkey g=some n→n≤4∧∃m,gs n=some ⟨g,0,m,true⟩)
  {bs:List (List AV)} {ats:List At} (hl:ats.length=bs.length) (hin:∀(n:Nat) c a,bs[n]?=some c→ats[n]?=some a→InW c a W)
  {k g:Nat} (hk:key k=some g) (hpure:E0.pure k=true) {ps:List PV} (hfz:fzL (fz [] fzD) ps=some (ps,[])) (hpf:pf E0 k ps=some (.b true))
  {avs:List AV} {vs:Array Value} (hV:VL (hpA bs) (fun _=>False) [] ps avs) (hR:RelL key (locA gs ats) avs vs.toList) :
  Calls P g vs W fun e w'=>e=.returned (.bool true)∧Below W.heap.size W w':=by
 have hc:pcl E0 k ps []=some (.b true,roM [] []):=zgc hpure hfz hpf
 obtain⟨kk,hev⟩:=zdT hc
 have hw:(hpA bs).wf:=(zrL (P:=P) (key:=key) (F:=0) hgs hl hin).wf
 have I:PInv globG (fun _=>False) [] [] (hpA bs):=PInv.startG hw
 obtain⟨a,h',r',q1,q2,q3,q4⟩:=zgj KE0 kk _ _ _ _ _ _ _ _ _ hev I (VL.dd hV)
 have ha:a=.b true:=by cases q4;rfl
 subst ha
 have S:=zrL (P:=P) (key:=key) (F:=h'.next) hgs hl hin
 have TO:TabOk key T (locA gs ats):=by
  refine⟨fun f k e=>?_,fun g n e=>?_⟩
  ·exact hTf f k e
  ·obtain⟨h4,m,hm⟩:=hT g n e
   exact⟨m,by simp only[locA,if_pos h4];exact hm⟩
 refine(zbS K kk h'.next k g avs vs _ h' _ _ W q1 hk (Nat.le_refl _) TO hR S).mono ?_
 rintro e w' ⟨l',val,rfl,E,S',rv⟩
 cases rv
 refine⟨rfl,E.os,E.tape,E.output,E.size,fun b hb=>E.frame b hb fun m blk a e1 e2=>?_⟩
 exfalso
 simp only[hpA] at e1
 split at e1<;>(simp only[Option.map_eq_some_iff] at e1;obtain⟨c,c1,rfl⟩:=e1;cases e2)
theorem arg_row {k:IntKind} {W:World} (h0:0<W.heap.size) {a:Option Addr} {len cap:Nat} {zs:List Int} (h:IsRow k W a len cap zs) (n:Nat):∃(c:List AV) (at_:At) (av:AV),InW c at_ W ∧
  (∀key (l:Loc),l n=some at_→Rel key l av (.slice a len cap))∧(∀(h:Hp) (D:Nat→Prop),h.m n=some ⟨c,false,0⟩→¬D n→V h D [] (.lst ((zs.take len).map fun z=>.i k z)) av):=by
 have nilIn:InW [] ⟨0,0,0,false⟩ W:=⟨h0,rfl,Nat.le_refl _,fun i hi=>by simp at hi⟩
 rcases h with⟨rfl,rfl,rfl,rfl⟩|⟨x,rfl,hl,hm,hz,hcell,hwz⟩
 ·exact⟨[],⟨0,0,0,false⟩,.sn,nilIn,fun key l _=>.sn,fun h D _ _=>.lsn⟩
 ·by_cases hlen:len=0
  ·subst hlen
   exact⟨[],⟨0,0,0,false⟩,.e0,nilIn,fun key l _=>.e0 _ _,fun h D _ _=>.le0⟩
  ·obtain⟨b,off,spot⟩:=x
   have hc:=hcell 0 (by omega)
   have hspot:spot=none:=by simpa [Addr.add] using World.cell?_spot hc
   subst hspot
   have hlt:b<W.heap.size:=by
    rcases Nat.lt_or_ge b W.heap.size with q|q
    ·exact q
    ·rw[zbP] at hc
     simp[World.cell?,Array.getElem?_eq_none q] at hc
   have hget:∀i (hi:i<((zs.take len).map fun z=>AV.i k z).length),((zs.take len).map fun z=>AV.i k z)[i]=.i k (zs.getD i 0):=fun i hi=>by
    have hi':i<zs.length:=by simp at hi;omega
    simp only[List.getElem_map,List.getElem_take,List.getD]
    rw[List.getElem?_eq_getElem hi'];rfl
   refine⟨(zs.take len).map fun z=>.i k z,⟨b,off,cap,false⟩,.sl n 0 len cap 1,⟨hlt,rfl,by simp;omega,fun i hi=>?_⟩,fun key l hn=>?_,fun h D hb hD=>?_⟩
   ·rw[hget i hi]
    have hi':i<zs.length:=by simp at hi;omega
    have:=hcell i hi'
    rw[zbP] at this
    exact⟨rfl,_,this,fun key l=>.i _ _⟩
   ·have:=Rel.sl (key:=key) (off:=0) (len:=len) (cap:=cap) (cap':=cap) (z:=1) hn (Nat.le_refl _) (by show 0+cap*1≤cap;omega) hl
    exact this
   ·have hfl:flat ((zs.take len).map fun z=>PV.i k z)=(zs.take len).map fun z=>PV.i k z:=by
     generalize zs.take len=ys
     induction ys with
     | nil=>rfl
     | cons y ys ih=>rw[List.map_cons];show [PV.i k y]++flat _=_;rw[ih];rfl
    have hll:((zs.take len).map fun z=>PV.i k z).length=len:=by simp;omega
    have:=V.lst (h:=h) (D:=D) (r:=[]) (xs:=(zs.take len).map fun z=>PV.i k z) (m:=n) (off:=0) (cap:=cap) (z:=1) (fun i=>.i k (zs.getD i 0)) hb hD (by rw[hfl,List.all_eq_true];intro x hx;obtain⟨y,_,rfl⟩:=List.mem_map.1 hx;rfl) (by decide) (fun x hx=>by
     obtain⟨y,_,rfl⟩:=List.mem_map.1 hx;rfl) (by rw[hll];exact hl) (fun i hi=>by
     rw[hfl] at hi
     have hi2:i<((zs.take len).map fun z=>AV.i k z).length:=by simpa using hi
     rw[Nat.zero_add,List.getElem?_eq_getElem hi2,hget i hi2]) (fun i hi=>by
     have hi1:i<((zs.take len).map fun z=>PV.i k z).length:=by rw[hfl] at hi;exact hi
     have e:(flat ((zs.take len).map fun z=>PV.i k z))[i]=.i k (zs.getD i 0):=by
      simp only[hfl,List.getElem_map,List.getElem_take,List.getD]
      rw[List.getElem?_eq_getElem (by simp at hi1;omega)];rfl
     rw[e]
     exact .i _ _)
    rw[hll] at this
    exact this
theorem row_heap {P:Program} {W:World} {G:Nat} (hg:P.globalNamed "internal/strconv.uint64pow10" = some G) (ht:Lib.TabIs P W "internal/strconv.uint64pow10" .u64 Lib.pow10Tab):0<W.heap.size:=by
 unfold Lib.TabIs World.var? at ht
 rw[hg] at ht
 simp only[Option.bind_some] at ht
 split at ht
 ·rename_i cs t fz hh
  rcases Nat.eq_zero_or_pos W.heap.size with q|q
  ·rw[Array.getElem?_eq_none (by omega)] at hh;cases hh
  ·exact q
 ·cases ht
theorem ints_row {W:World} {a:Option Addr} {len cap:Nat} {zs:List Int} (h:IsRow .i64 W a len cap zs):Ints (zs.take len):=by
 rcases h with⟨rfl,rfl,rfl,rfl⟩|⟨x,rfl,hl,hm,hz,hcell,hwz⟩
 ·exact⟨by simp,fun n hn=>by simp at hn⟩
 ·refine⟨?_,fun n hn=>?_⟩
  ·have:maxLen≤9223372036854775807:=by decide
   simp;omega
  ·have:=bounds_i64 (hwz n (List.mem_of_mem_take hn))
   exact this
end Go.Eng
namespace Go.Eng
def isPP:PV→Bool
 | .p _ _=>true
 | _=>false
@[go_sem] theorem zqW (n o:Nat):isPP (.p n o)=true:=_root_.id rfl
def slotIn (E:PEnv) (ops:List XOper) (L:List Nat) (c:Nat×Nat):Bool :=
 match ops[c.1]?,ops[c.2]? with
 | some a,some b =>
  match a.op with
  | .load _ _ (.t s)=>L.contains s&&calmOp E b.op&&(ops.all fun o=>o.dst != some s)
  | _=>false
 | _,_=>false
theorem zaH {E:PEnv} {F:PFin} {ops:List XOper} {chk:List (Nat×Nat)} {ks:List KI} {fr:PFr} {M:PM} (L:List Nat) (hL:chk.all (fun c=>calmC E ops c || slotIn E ops L c)=true) (hp:L.all (fun s=>isPP (fr s))=true) (w:WL E F ops ks fr M) :
  WK E F (.drw ops chk) ks fr M:=by
 refine zb5 (fun fr2 Ms hT=>?_) w
 rw[List.all_eq_true] at hL hp ⊢
 rintro⟨i,j⟩ hc
 have h1:=hL _ hc
 simp only[Bool.or_eq_true] at h1
 rcases h1 with h1|h1
 ·exact zck hT h1
 ·unfold slotIn at h1
  split at h1
  ·rename_i a b ha hb
   split at h1
   ·rename_i z k s hop
    simp only[Bool.and_eq_true] at h1
    obtain⟨⟨c1,c2⟩,c3⟩:=h1
    have hs:=hp s (List.contains_iff_mem.1 c1)
    cases hf:fr s with
    | p n o=>exact zgY hT ha hb hop c2 c3 hf
    | _=>rw[hf] at hs;simp[isPP] at hs
   ·cases h1
  ·cases h1
attribute [go_sem] List.all_cons List.all_nil
def slotIn2 (E:PEnv) (ops:List XOper) (L:List Nat) (c:Nat×Nat):Bool :=
 match ops[c.1]?,ops[c.2]? with
 | some a,some b =>
  match a.op with
  | .load _ _ (.t s)=>L.contains s&&calmOp E b.op
  | _=>false
 | _,_=>false
theorem zaf {E:PEnv} {F:PFin} {ops:List XOper} {chk:List (Nat×Nat)} {ks:List KI} {fr:PFr} {M:PM} (L:List Nat) (hL:chk.all (fun c=>calmC E ops c || slotIn2 E ops L c)=true)
  (hr:WL E ⟨(0::0::L).map XR.tmp,fun w _=>∃l,w=.tu l∧(l.drop 2).all isPP=true⟩ ops [] fr M) (w:WL E F ops ks fr M):WK E F (.drw ops chk) ks fr M:=by
 refine zb5 (fun fr2 Ms hT=>?_) w
 have hp:L.all (fun s=>isPP (fr2 s))=true:=by
  obtain⟨lf,q,fr3,M3,vs,e,h1,h2,l,h3,h4⟩:=hr
  simp only[Option.bind_eq_some_iff,unw] at e
  obtain⟨⟨fr4,M4⟩,e1,e2⟩:=e
  simp only[Option.some.injEq,Prod.mk.injEq] at e2
  obtain⟨_,e3,e4⟩:=e2
  rw[←e3,←e4] at h2
  obtain⟨Ms',g1,g2⟩:=zbl e1
  rw[g1] at hT
  cases hT
  have hres:∀(f:PFr) (N:PM) (l:List Nat),pRes f N (l.map XR.tmp)=some (l.map f):=fun f N l=>by
   induction l with
   | nil=>rfl
   | cons a l ih=>simp only[List.map_cons,pRes,pResOne,ih]
  rw[hres] at h2
  cases h2
  simp only[List.map_cons,packP] at h3
  cases h3
  simpa [List.all_map] using h4
 rw[List.all_eq_true] at hL hp ⊢
 rintro⟨i,j⟩ hc
 have h1:=hL _ hc
 simp only[Bool.or_eq_true] at h1
 rcases h1 with h1|h1
 ·exact zck hT h1
 ·unfold slotIn2 at h1
  split at h1
  ·rename_i a b ha hb
   split at h1
   ·rename_i z k s hop
    simp only[Bool.and_eq_true] at h1
    obtain⟨c1,c2⟩:=h1
    have hs:=hp s (List.contains_iff_mem.1 c1)
    cases hf:fr2 s with
    | p n o =>
     obtain⟨fri,A,B,q1,q2,q3,q4⟩:=zav hT ha
     obtain⟨frj,C,D,p1,p2,p3,p4⟩:=zav hT hb
     have p2':Ms[(i,j).2+1]?=some D:=p2
     have q2':Ms[(i,j).1+1]?=some B:=q2
     refine zbQ ?_
     simp only[chkP0,ha,q1,q2,p1,p2]
     rw[if_neg (by rw[hop];simp[XO.cls])]
     rw[hop]
     show chkV ops j (.t s) C D (fr2 s)=true
     rw[hf]
     show verP (some n) C D=true
     rcases p3 with⟨_,v,p3⟩|⟨_,p3⟩
     ·cases hopb:b.op with
      | call f l =>
       rw[hopb] at p3 c2
       obtain⟨ns,rfl⟩:=zbW c2 p3
       exact zb2 ns C _
      | _=>rw[hopb] at c2;simp[calmOp] at c2
     ·rw[p3];simp[verP]
    | _=>rw[hf] at hs;simp[isPP] at hs
   ·cases h1
  ·cases h1
theorem zac {E:PEnv} {F:PFin} {a b:XC} (hab:a=b) {ks:List KI} {fr:PFr} {M:PM} (w:WK E F b (.loop a::ks) fr M):WK E F (.loop a) ks fr M:=by
 rw[←hab] at w;exact zdw w
def fillC (z:List PV) (off n:Nat) (cs:List PV):Option (List PV):=if cs.length=n∧off+n≤z.length∧cs.all PV.scal=true then some (psplice z off cs) else none
theorem zaz {fr:PFr} (G:Nat→Option (List AV)) (z:List PV) (off n:Nat) (x:X) (ps:List (Nat×Nat×X)):fillP G fr z ((off,(n,x))::ps)=fillB fr G ps (fillC z off n (x.pv G fr).cells):=by
 simp only[fillP]
 unfold fillC
 split<;>rfl
theorem zai (z:List PV) (off n:Nat) (cs:List PV):fillC z off n cs=if cs.length=n∧off+n≤z.length∧cs.all PV.scal=true then some (psplice z off cs) else none:=rfl
end Go.Eng
namespace Go.Eng
def isPG:PV→Bool
 | .p _ _=>true
 | .fp _=>true
 | _=>false
def slotInF (E:PEnv) (ops:List XOper) (L:List Nat) (c:Nat×Nat):Bool :=
 match ops[c.1]?,ops[c.2]? with
 | some a,some b =>
  match a.op with
  | .load _ _ (.t s)=>L.contains s&&calmOp E b.op&&fixedX ops c.2 (.t s)
  | _=>false
 | _,_=>false
end Go.Eng
namespace Go.Eng
theorem zgo (ns:List Nat) (M:PM):M.map (Option.map PB.ver)=(roM M ns).map (Option.map PB.ver):=by
 refine List.ext_getElem? fun k=>?_
 have h:=(zfu ns M k).1
 rw[List.getElem?_map,List.getElem?_map]
 exact h.symm
def calmW (E:PEnv) (ops:List XOper) (c:Nat×Nat):Bool :=
 match ops[c.1]?,ops[c.2]? with
 | some _,some b=>calmOp E b.op
 | _,_=>false
theorem za7 {E:PEnv} {F:PFin} {ops:List XOper} {chk:List (Nat×Nat)} {ks:List KI} {fr:PFr} {M:PM} (hL:chk.all (calmW E ops)=true) (w:WL E F ops ks fr M):WK E F (.drw ops chk) ks fr M:=by
 refine zb5 (fun fr2 Ms hT=>?_) w
 rw[List.all_eq_true] at hL ⊢
 rintro⟨i,j⟩ hc
 have h1:=hL _ hc
 unfold calmW at h1
 split at h1
 ·rename_i a b ha hb
  obtain⟨fri,A,B,q1,q2,q3,q4⟩:=zav hT ha
  obtain⟨frj,C,D,p1,p2,p3,p4⟩:=zav hT hb
  have p2':Ms[(i,j).2+1]?=some D:=p2
  rw[chkP,Bool.or_eq_true]
  right
  simp only[chkS,ha,q1,p1,p2]
  rw[decide_eq_true_eq]
  rcases p3 with⟨_,v,p3⟩|⟨_,p3⟩
  ·cases hopb:b.op with
   | call f l =>
    rw[hopb] at p3 h1
    obtain⟨ns,rfl⟩:=zbW h1 p3
    exact zgo ns C
   | _=>rw[hopb] at h1;simp[calmOp] at h1
  ·rw[p3]
 ·cases h1
end Go.Eng
namespace Go.Eng
def vbN (n:Nat):List Nat:=if n<128 then [n] else (128+n%128)::vbN (n/128)
termination_by n
theorem zgT {n:Nat} (h:n<128):vbN n=[n]:=by rw[vbN,if_pos h]
theorem zit {n:Nat} (h:128≤n):vbN n=(128+n%128)::vbN (n/128):=by rw[vbN,if_neg (by omega)]
theorem zkj:∀(k n:Nat),n<128^(k+1)→(vbN n).length≤k+1
 | 0,n,h=>by rw[zgT (by omega)];simp
 | k+1,n,h=>by
  by_cases q:n<128
  ·rw[zgT q];simp
  ·rw[zit (by omega),List.length_cons]
   have:=zkj k (n/128) (by rw[Nat.div_lt_iff_lt_mul (by decide)];rwa [Nat.pow_succ] at h)
   omega
theorem zeu {n:Nat} (h:n<18446744073709551616):(vbN n).length≤10:=zkj 9 n (Nat.lt_of_lt_of_le h (by decide))
theorem zlP:∀(n:Nat),∀b∈vbN n,b<256:=fun n=>by
 induction n using Nat.strongRecOn with
 | _ n ih =>
  intro b hb
  by_cases q:n<128
  ·rw[zgT q] at hb
   simp at hb;omega
  ·rw[zit (by omega)] at hb
   rcases List.mem_cons.1 hb with rfl|hb
   ·omega
   ·exact ih (n/128) (by omega) b hb
def bl (l:List Nat):List PV:=l.map fun(b:Nat)=>PV.i .u8 (b:Int)
theorem zc8 (a b:List Nat):bl (a++b)=bl a++bl b:=List.map_append
theorem zaU (a:List Nat):(bl a).length=a.length:=List.length_map ..
set_option maxRecDepth 100000 in
theorem zpw:∀a:Nat,a<256→IntKind.u8.wrap ((BitVec.ofInt 8 (a:Int) ||| BitVec.ofInt 8 128).toNat:Int)=((128+a%128:Nat):Int):=by decide
theorem zgX {a:Nat} (h:a<256):binP .or (.i .u8 (a:Int)) (.i .u8 128)=some (.i .u8 ((128+a%128:Nat):Int)):=by
 show some (PV.i .u8 (IntKind.u8.wrap _))=_
 have:=zpw a h
 rw[←this];rfl
def Wr (M:PM) (m:Nat) (xs:List PV) (K:List (Nat×PB)):Prop :=
 ∃v e,PM.blk M m=some ⟨[v],true,e⟩∧v.scal=true∧Grows M v xs∧NotIn v m∧∀c∈K,PM.blk M c.1=some c.2∧NotIn v c.1∧c.1≠m
theorem zci {M:PM} {j:Nat} {b:PB} (h:PM.blk M j=some b) (c:Option PB):PM.blk (M++[c]) j=some b:=by
 have hl:=zbJ h
 rw[zaw] at h ⊢
 rw[List.getElem?_append_left hl];exact h
theorem zgD {M:PM} {v:PV} {xs:List PV} (h:Grows M v xs) (c:Option PB):Grows (M++[c]) v xs:=by
 rcases h with h|⟨k,e,h1,h2⟩
 ·exact .inl h
 ·exact .inr ⟨k,e,h1,zci h2 c⟩
theorem zfd {M:PM} {v:PV} {xs:List PV} (h:Grows M v xs):v.cells=[v]:=by
 rcases h with⟨_,rfl⟩|⟨k,e,rfl,_⟩<;>rfl
theorem zdI {M:PM} {v:PV} {xs:List PV} (h:Grows M v xs):v.scal=true:=by
 rcases h with⟨_,rfl⟩|⟨k,e,rfl,_⟩<;>rfl
theorem zdY {M:PM} {v:PV} {xs:List PV} (h:Grows M v xs) {x:PV} {cs:List PV} (hs:srcP M 1 x=some (cs.length,cs)) (hl:xs.length+cs.length<1000000000000) :
  ∃v' M',appP M 1 1 v x=some (v',M')∧Grows M' v' (xs++cs)∧(∀j b,PM.blk M j=some b→NotIn v j→PM.blk M' j=some b∧NotIn v' j):=by
 by_cases h0:cs.length=0
 ·have hc:cs=[]:=List.length_eq_zero_iff.1 h0
  subst hc
  refine⟨v,M,?_,by rw[List.append_nil];exact h,fun j b hj hn=>⟨hj,hn⟩⟩
  rcases h with⟨rfl,rfl⟩|⟨k,e,rfl,hb⟩
  ·simp[appP,hs]
  ·simp[appP,hs]
 ·rcases h with⟨rfl,rfl⟩|⟨k,e,rfl,hb⟩
  ·refine⟨.sl M.length 0 cs.length cs.length 1,M++[some (⟨cs,true,0⟩:PB)],?_,.inr ⟨M.length,0,rfl,zbm _ _⟩,?_⟩
   ·simp only[appP,hs]
    rw[if_neg h0,if_pos (by simp at hl;omega)]
   ·intro j b hj _
    have hlt:=zbJ hj
    exact⟨zci hj _,by simp[NotIn];omega⟩
  ·have hlt:=zbJ hb
   refine⟨.sl M.length 0 (xs.length+cs.length) (xs.length+cs.length) 1,M.set k none++[some (⟨xs++cs,true,0⟩:PB)],?_,.inr ⟨M.length,0,by simp,?_⟩,?_⟩
   ·simp only[appP,hs,hb]
    simp[h0];omega
   ·have:=zbm (M.set k none) (some (⟨xs++cs,true,0⟩:PB))
    simpa using this
   ·intro j b hj hne
    have hltj:=zbJ hj
    refine⟨?_,?_⟩
    ·rw[zaw] at hj ⊢
     rw[List.getElem?_append_left (by simp;omega),List.getElem?_set_ne hne];exact hj
    ·simp[NotIn];omega
theorem znO {M:PM} {m:Nat} {v:PV} {b:PB} {xs:List PV} {K:List (Nat×PB)} {e:Nat} (hb:PM.blk M m=some b) (hg:Grows M v xs) (hn:NotIn v m) (hk:∀c∈K,PM.blk M c.1=some c.2∧NotIn v c.1∧c.1≠m):Wr (M.set m (some ⟨[v],true,e⟩)) m xs K:=by
 refine⟨v,e,zbk (zbJ hb),zdI hg,?_,hn,fun c hc=>?_⟩
 ·rcases hg with h|⟨k,e',rfl,h2⟩
  ·exact .inl h
  ·exact .inr ⟨k,e',rfl,by rw[zfE (fun q=>hn q.symm)];exact h2⟩
 ·obtain⟨a1,a2,a3⟩:=hk c hc
  exact⟨by rw[zfE (fun q=>a3 q.symm)];exact a1,a2,a3⟩
theorem znN {M:PM} {m:Nat} {xs:List PV} {K:List (Nat×PB)} (hw:Wr M m xs K) {x:PV} {cs:List PV} (hs:srcP M 1 x=some (cs.length,cs)) (hl:xs.length+cs.length<1000000000000) :
  ∃v e v' M2,PM.blk M m=some ⟨[v],true,e⟩∧v.scal=true∧appP M 1 1 v x=some (v',M2)∧PM.blk M2 m=some ⟨[v],true,e⟩∧(v'.scal=true∧v'.cells=[v'])∧Wr (M2.set m (some ⟨[v'],true,e+1⟩)) m (xs++cs) K:=by
 obtain⟨v,e,hb,sc,hg,hn,hk⟩:=hw
 obtain⟨v',M2,a1,a2,a3⟩:=zdY hg hs hl
 obtain⟨b2,n2⟩:=a3 m _ hb hn
 exact⟨v,e,v',M2,hb,sc,a1,b2,⟨zdI a2,zfd a2⟩,znO b2 a2 n2 fun c hc=>by
  obtain⟨c1,c2,c3⟩:=hk c hc
  obtain⟨d1,d2⟩:=a3 _ _ c1 c2
  exact⟨d1,d2,c3⟩⟩
theorem zlR {M:PM} {m:Nat} {xs:List PV} {K:List (Nat×PB)} (hw:Wr M m xs K) (c:Option PB):Wr (M++[c]) m xs K:=by
 obtain⟨v,e,hb,sc,hg,hn,hk⟩:=hw
 exact⟨v,e,zci hb c,sc,zgD hg c,hn,fun d hd=>⟨zci (hk d hd).1 c,(hk d hd).2⟩⟩
theorem zkk {M:PM} {m:Nat} {xs:List PV} {K:List (Nat×PB)} (hw:Wr M m xs K) (x:PV) (hl:xs.length+1<1000000000000) :
  ∃v e v' M2,PM.blk M m=some ⟨[v],true,e⟩∧v.scal=true∧appP (M++[some (⟨[x],true,0⟩:PB)]) 1 1 v (.sl M.length 0 1 1 1)=some (v',M2)∧PM.blk M2 m=some ⟨[v],true,e⟩∧(v'.scal=true∧v'.cells=[v'])∧Wr (M2.set m (some ⟨[v'],true,e+1⟩)) m (xs++[x]) K:=by
 have hs:srcP (M++[some (⟨[x],true,0⟩:PB)]) 1 (.sl M.length 0 1 1 1)=some ([x].length,[x]):=by
  simp only[srcP,PM.rd,zbm];rfl
 obtain⟨v,e,hb,sc,_⟩:=id hw
 obtain⟨v0,e0,v',M2,h1,h2,h3,h4,h5,h6⟩:=znN (zlR hw (some ⟨[x],true,0⟩)) hs hl
 have h1':=zci hb (some ⟨[x],true,0⟩)
 rw[h1] at h1'
 cases h1'
 exact⟨v,e,v',M2,hb,sc,h3,h4,h5,h6⟩
set_option maxHeartbeats 4000000 in
theorem zlp {M:PM} {m:Nat} {xs:List PV} {K:List (Nat×PB)} {n:Nat} (hw:Wr M m xs K) (hn:n<18446744073709551616) (hl:xs.length<900000000000):∃M',pcl E0 210 [.p m 0,.i .u64 (n:Int)] M=some (.tu [],M')∧Wr M' m (xs++bl (vbN n)) K:=by
 suffices h:∃v M',pcl E0 210 [.p m 0,.i .u64 (n:Int)] M=some (v,M')∧v=.tu []∧Wr M' m (xs++bl (vbN n)) K by
  obtain⟨v,M',a,rfl,b⟩:=h
  exact⟨M',a,b⟩
 refine zcG (xf:=x___skymosaic_wire_Writer__Uint) rfl rfl (by simp[x___skymosaic_wire_Writer__Uint]) ?_
 simp only[x___skymosaic_wire_Writer__Uint]
 simp(disch:=omega)only[go_sem,seval,wqq]
 refine zas x___skymosaic_wire_Writer__Uint_l1.eq_1 (fun(a:Nat) fr M=>fr 0=.p m 0∧fr 1=.i .u64 (a:Int)∧a<18446744073709551616∧∃pre,pre++vbN a=vbN n∧Wr M m (xs++bl pre) K) (fun a=>a) ?_ n ⟨by simp only[go_sem,seval],by simp only[go_sem,seval],hn,[],rfl,by rw[show bl []=[] from rfl,List.append_nil];exact hw⟩
 clear hw
 rintro a fr M ⟨f0,f1,ha,pre,hp,hw⟩ ih
 have l10:=zeu hn
 have lp:pre.length≤10:=by rw[←hp,List.length_append] at l10;omega
 have lb:=zaU pre
 rcases Nat.lt_or_ge a 128 with h|h
 ·have q1:(128≤(a:Int))=False:=eq_false (by omega)
  obtain⟨v,e,v',M2,h1,h2,h3,h4,⟨h5,h5c⟩,h6⟩:=zkk hw (.i .u8 (a:Int)) (by rw[List.length_append];omega)
  simp(disch:=omega)only[go_sem,seval,wqq,f0,f1,q1,h1,h2,h3,h4,h5,h5c,zaz,zai]
  rw[zgT h] at hp
  rw[←hp,zc8,←List.append_assoc]
  exact h6
 ·have q1:(128≤(a:Int))=True:=eq_true (by omega)
  have o8:=zgX (a:=a%256) (by omega)
  have w8:IntKind.u8.wrap (a:Int)=((a%256:Nat):Int):=by rw[znP];rfl
  have e8:128+a%256%128=128+a%128:=by omega
  rw[e8] at o8
  obtain⟨v,e,v',M2,h1,h2,h3,h4,⟨h5,h5c⟩,h6⟩:=zkk hw (.i .u8 ((128+a%128:Nat):Int)) (by rw[List.length_append];omega)
  simp(disch:=omega)only[go_sem,seval,wqq,f0,f1,q1,h1,h2,h3,h4,h5,h5c,w8,o8,zaz,zai]
  rw[zit h] at hp
  exact ih (a/128) _ _ (by omega) ⟨by simp only[go_sem,seval,f0],by simp only[go_sem,seval];try rfl,by omega,pre++[128+a%128],by rw[List.append_assoc];exact hp,by rw[zc8,←List.append_assoc];exact h6⟩
def zz (n:Int):Nat:=if 0≤n then 2*n.toNat else 2*(-n-1).toNat+1
theorem zgU {n:Int} (h:Fits64 n):zz n<18446744073709551616:=by
 unfold Fits64 at h
 unfold zz
 split<;>omega
def uz (z:Nat):Int:=if z%2=0 then (z/2:Nat) else-((z/2:Nat):Int)-1
theorem zqp {n:Int} (h:Fits64 n):uz (zz n)=n:=by
 unfold uz zz
 by_cases q:0≤n
 ·rw[if_pos q,if_pos (by omega)];omega
 ·rw[if_neg q,if_neg (by omega)];omega
theorem zlL {z:Nat} (h:z<18446744073709551616):Fits64 (uz z):=by
 unfold uz Fits64
 split<;>omega
theorem ziy {x:Nat} (h:x<18446744073709551616):(BitVec.ofInt 64 (x:Int) ^^^ BitVec.ofInt 64 18446744073709551615).toNat=18446744073709551615-x:=by
 have e1:BitVec.ofInt 64 18446744073709551615=BitVec.allOnes 64:=by decide
 have e2:(BitVec.ofInt 64 (x:Int)).toNat=x:=by rw[BitVec.toNat_ofInt];omega
 rw[e1,BitVec.xor_allOnes,BitVec.toNat_not,e2]
theorem znS {x:Nat} (h:x<18446744073709551616):(BitVec.ofInt 64 (x:Int) ^^^ BitVec.ofInt 64 0).toNat=x:=by
 have e1:BitVec.ofInt 64 0=0#64:=by decide
 have e2:(BitVec.ofInt 64 (x:Int)).toNat=x:=by rw[BitVec.toNat_ofInt];omega
 rw[e1,BitVec.xor_zero,e2]
theorem zpA {n:Int} (h:Fits64 n):pf E0 283 [.i .i64 n]=some (.i .u64 (zz n:Nat)):=by
 have hz:=zgU h
 have hh:=h
 unfold Fits64 at h
 by_cases q:0≤n
 ·have ez:zz n=2*n.toNat:=if_pos q
  have w1:IntKind.u64.wrap n=n:=wqb q (by omega)
  have w2:IntKind.u64.wrap (n*2)=((zz n:Nat):Int):=by rw[zbI,ez];omega
  have b1:binP .shl (.i .u64 n) (.i .u64 1)=some (.i .u64 ((zz n:Nat):Int)):=by
   rw[zc5 (h:=by decide)]
   show some (PV.i .u64 (IntKind.u64.wrap (n*2)))=_
   rw[w2]
  have b2:binP .shr (.i .i64 n) (.i .u64 63)=some (.i .i64 0):=by
   rw[zc6 (h:=by decide)]
   have:n.fdiv (2^min (63:Int).toNat IntKind.i64.bits)=0:=by
    show n.fdiv 9223372036854775808=0
    rw[Int.fdiv_eq_ediv_of_nonneg _ (by decide)];omega
   rw[this]
  have b3:binP .xor (.i .u64 ((zz n:Nat):Int)) (.i .u64 0)=some (.i .u64 ((zz n:Nat):Int)):=by
   show some (PV.i .u64 (IntKind.u64.wrap ((BitVec.ofInt 64 ((zz n:Nat):Int) ^^^ BitVec.ofInt 64 0).toNat:Int)))=_
   rw[znS hz,wqb (by omega) (by omega)]
  refine zad (xf:=ztp) rfl (by simp[ztp]) ?_
  simp only[ztp]
  simp(disch:=omega)only[go_sem,seval,wqq,w1,b1,b2,b3]
 ·have ez:zz n=2*(-n-1).toNat+1:=if_neg q
  have w1:IntKind.u64.wrap n=n+18446744073709551616:=by rw[zbI];omega
  have w2:IntKind.u64.wrap ((n+18446744073709551616)*2)=((18446744073709551615-zz n:Nat):Int):=by rw[zbI,ez];omega
  have w3:IntKind.u64.wrap (-1)=18446744073709551615:=by decide
  have b1:binP .shl (.i .u64 (n+18446744073709551616)) (.i .u64 1)=some (.i .u64 ((18446744073709551615-zz n:Nat):Int)):=by
   rw[zc5 (h:=by decide)]
   show some (PV.i .u64 (IntKind.u64.wrap ((n+18446744073709551616)*2)))=_
   rw[w2]
  have b2:binP .shr (.i .i64 n) (.i .u64 63)=some (.i .i64 (-1)):=by
   rw[zc6 (h:=by decide)]
   have:n.fdiv (2^min (63:Int).toNat IntKind.i64.bits) = -1:=by
    show n.fdiv 9223372036854775808 = -1
    rw[Int.fdiv_eq_ediv_of_nonneg _ (by decide)];omega
   rw[this]
  have b3:binP .xor (.i .u64 ((18446744073709551615-zz n:Nat):Int)) (.i .u64 18446744073709551615)=some (.i .u64 ((zz n:Nat):Int)):=by
   show some (PV.i .u64 (IntKind.u64.wrap ((BitVec.ofInt 64 ((18446744073709551615-zz n:Nat):Int) ^^^ BitVec.ofInt 64 18446744073709551615).toNat:Int)))=_
   rw[ziy (by omega),show 18446744073709551615-(18446744073709551615-zz n)=zz n by omega,wqb (by omega) (by omega)]
  refine zad (xf:=ztp) rfl (by simp[ztp]) ?_
  simp only[ztp]
  simp(disch:=omega)only[go_sem,seval,wqq,w1,w3,b1,b2,b3]
def ib (n:Int):List Nat:=vbN (zz n)
theorem znl {M:PM} {m:Nat} {xs:List PV} {K:List (Nat×PB)} {n:Int} (hw:Wr M m xs K) (hn:Fits64 n) (hl:xs.length<900000000000):∃M',pcl E0 267 [.p m 0,.i .i64 n] M=some (.tu [],M')∧Wr M' m (xs++bl (ib n)) K:=by
 obtain⟨M',h1,h2⟩:=zlp hw (zgU hn) hl
 have hz:=zpA hn
 refine⟨M',?_,h2⟩
 refine zaC (xf:=x___skymosaic_wire_Writer__Int) rfl rfl (by simp[x___skymosaic_wire_Writer__Int]) ?_
 simp only[x___skymosaic_wire_Writer__Int]
 simp(disch:=omega)only[go_sem,seval,wqq,hz,h1]
theorem znj {n:Int} (h:Fits64 n):pf E0 286 [.i .i64 n]=some (.i .u64 (zz n:Nat)):=by
 have hz:=zgU h
 have hh:=h
 unfold Fits64 at h
 refine zad (xf:=zt3) rfl (by simp[zt3]) ?_
 simp only[zt3]
 by_cases q:0≤n
 ·have ez:zz n=2*n.toNat:=if_pos q
  have q1:(n<0)=False:=eq_false (by omega)
  have e:2*n=((zz n:Nat):Int):=by rw[ez];omega
  simp(disch:=omega)only[go_sem,seval,wqq,q1,e]
 ·have ez:zz n=2*(-n-1).toNat+1:=if_neg q
  have q1:(n<0)=True:=eq_true (by omega)
  have e:2*(0-(n+1))+1=((zz n:Nat):Int):=by rw[ez];omega
  simp(disch:=omega)only[go_sem,seval,wqq,q1,e]
theorem ziW {M:PM} {v:PV} {l:List Nat} (d:Nat) (h:Grows M v (bl l)):(fz M (d+1+1) v).map Prod.fst=some (.lst (bl l)):=by
 rcases h with⟨h,rfl⟩|⟨k,e,rfl,hb⟩
 ·rw[h];rfl
 ·have hz:fzL (fz M (d+1)) (bl l)=some (bl l,[]):=zcY M d _ (fun _=>rfl) _
  have hr:PM.rd M k 0 ((bl l).length*1)=some (bl l):=by
   unfold PM.rd
   rw[hb]
   simp
  have g1:group 1 (bl l).length (bl l)=bl l:=zbt _ _ rfl
  show Option.map Prod.fst (if (bl l).length=0 then some (PV.lst [],[]) else if 1=0 then none else match PM.rd M k 0 ((bl l).length*1) with|some cs=>(fzL (fz M (d+1)) cs).map fun r=>(PV.lst (group 1 (bl l).length r.1),k::r.2)|none=>none)=_
  rw[hr]
  by_cases hn:(bl l).length=0
  ·rw[if_pos hn,List.length_eq_zero_iff.1 hn];rfl
  ·rw[if_neg hn,if_neg (by decide)]
   simp only[hz,Option.map_some,g1]
theorem zjg {n:Nat} (hn:n<18446744073709551616):pf E0 285 [.i .u64 (n:Int)]=some (.lst (bl (vbN n))):=by
 refine zad (xf:=zuC) rfl (by simp[zuC]) ?_
 simp only[zuC]
 simp(disch:=omega)only[go_sem,seval,wqq]
 refine zas zuX.eq_1 (fun(a:Nat) fr M=>fr 0=.i .u64 (a:Int)∧a<18446744073709551616∧∃pre,pre++vbN a=vbN n∧Grows M (fr 3) (bl pre)) (fun a=>a) ?_ n ⟨by simp only[go_sem,seval],hn,[],rfl,.inl ⟨rfl,by simp only[go_sem,seval]⟩⟩
 rintro a fr M ⟨f0,ha,pre,hp,hg⟩ ih
 have l10:=zeu hn
 have lp:pre.length≤10:=by rw[←hp,List.length_append] at l10;omega
 have lb:=zaU pre
 rcases Nat.lt_or_ge a 128 with h|h
 ·have q1:(127<(a:Int))=False:=eq_false (by omega)
  obtain⟨v',M',a1,a2,_⟩:=zcR (by_:=1) (by decide) hg (.i .u8 (a:Int)) (by omega)
  simp(disch:=omega)only[go_sem,seval,wqq,f0,q1,a1,zaz,zai]
  rw[zgT h] at hp
  have e:bl pre++[.i .u8 (a:Int)]=bl (vbN n):=by rw[←hp,zc8];rfl
  rw[e] at a2
  exact ziW 10 a2
 ·have q1:(127<(a:Int))=True:=eq_true (by omega)
  obtain⟨v',M',a1,a2,_⟩:=zcR (by_:=1) (by decide) hg (.i .u8 ((128+a%128:Nat):Int)) (by omega)
  have t1:(a:Int).tmod 128=((a%128:Nat):Int):=rfl
  have t2:(a:Int).tdiv 128=((a/128:Nat):Int):=rfl
  have t3:128+((a%128:Nat):Int)=((128+a%128:Nat):Int):=by omega
  simp(disch:=omega)only[go_sem,seval,wqq,f0,q1,t1,t2,t3,a1,zaz,zai]
  rw[zit h] at hp
  exact ih (a/128) _ _ (by omega) ⟨by simp only[go_sem,seval],by omega,pre++[128+a%128],by rw[List.append_assoc];exact hp,by simp only[go_sem,seval];rw[zc8];exact a2⟩
theorem zll {n:Int} (h:Fits64 n):pf E0 271 [.i .i64 n]=some (.lst (bl (ib n))):=by
 have h1:=znj h
 have h2:=zjg (zgU h)
 refine zad (xf:=zuJ) rfl (by simp[zuJ]) ?_
 simp only[zuJ]
 simp(disch:=omega)only[go_sem,seval,wqq,h1,h2]
 rfl
theorem zfw (M:PM) (l:List Nat):srcP M 1 (.lst (bl l))=some ((bl l).length,bl l):=by
 have h1:ez 1 (bl l)=true:=by
  induction l with
  | nil=>rfl
  | cons a l ih=>exact ih
 have h2:flat (bl l)=bl l:=by
  clear h1
  induction l with
  | nil=>rfl
  | cons a l ih=>show [PV.i .u8 (a:Int)]++flat (bl l)=_;rw[ih];rfl
 show (if ez 1 (bl l) then some ((bl l).length,flat (bl l)) else none)=_
 rw[if_pos h1,h2]
theorem zf6 {l:List Nat} (hl:l.length<100000000000):pf E0 211 [.lst (bl l)]=some (.lst (bl l)):=by
 cases l with
 | nil=>exact zj7 (xf:=ztc) rfl rfl
 | cons a l =>
  have e:eqTP 3 (.lst (bl (a::l))) .nl=some false:=rfl
  have lb:=zaU (a::l)
  obtain⟨v',M',a1,a2,_⟩:=zdY (M:=[]) (v:=.nl) (xs:=[]) (.inl ⟨rfl,rfl⟩) (zfw [] (a::l)) (by rw[lb];simp at hl ⊢;omega)
  rw[List.nil_append] at a2
  have z:=ziW 10 a2
  have ho:E0.ovr 211 [.lst (bl (a::l))]=none:=rfl
  generalize a::l=t at *
  refine zad (xf:=ztc) rfl (by simp[ztc]) ?_ ho
  simp only[ztc]
  simp(disch:=omega)only[go_sem,seval,wqq,e,a1]
  exact z
theorem zm9 {l:List Nat} (hl:l.length<100000000000):pf E0 203 [.fp [.lst (bl l)]]=some (.lst (bl l)):=by
 have h:=zf6 hl
 refine zad (xf:=x___skymosaic_wire_Writer__Done) rfl (by simp[x___skymosaic_wire_Writer__Done]) ?_
 simp only[x___skymosaic_wire_Writer__Done]
 simp(disch:=omega)only[go_sem,seval,wqq,h]
def encN (c:Nat→Int):Nat→List Nat
 | 0=>[]
 | n+1=>encN c n++ib (c n)
theorem zjV {n:Int} (h:Fits64 n):(ib n).length≤10:=zeu (zgU h)
theorem zdf {c:Nat→Int} {n:Nat} (h:∀e,e<n→Fits64 (c e)):(encN c n).length≤10*n:=by
 induction n with
 | zero=>exact Nat.le_refl _
 | succ n ih =>
  have:=ih fun e he=>h e (by omega)
  have:=zjV (h n (by omega))
  show (encN c n++ib (c n)).length≤_
  rw[List.length_append];omega
end Go.Eng
namespace Go.Eng
theorem zmt (l:List Nat):ez 1 (bl l)=true:=by
 induction l with
 | nil=>rfl
 | cons a l ih=>exact ih
theorem zhT {M:PM} {m:Nat} {l:List Nat} {w:Nat} (hb:PM.blk M m=some ⟨[.lst (bl l),.i .i64 0],true,w⟩) (x:Int):pcl E0 224 [.p m 0,.i .i64 x] M=some (.tu [],M.set m (some ⟨[.lst (bl l),.i .i64 x],true,w+1⟩)):=by
 refine zaC (xf:=x___skymosaic_wire_Reader__fail) rfl rfl (by simp[x___skymosaic_wire_Reader__fail]) ?_
 simp only[x___skymosaic_wire_Reader__fail]
 simp(disch:=omega)only[go_sem,seval,wqq,hb]
theorem zld {M:PM} {m:Nat} {l:List Nat} {e:Int} {w:Nat} (hb:PM.blk M m=some ⟨[.lst (bl l),.i .i64 e],true,w⟩) (he:e≠0) (x:Int):pcl E0 224 [.p m 0,.i .i64 x] M=some (.tu [],M):=by
 have q:(e=0)=False:=eq_false he
 refine zaC (xf:=x___skymosaic_wire_Reader__fail) rfl rfl (by simp[x___skymosaic_wire_Reader__fail]) ?_
 simp only[x___skymosaic_wire_Reader__fail]
 simp(disch:=omega)only[go_sem,seval,wqq,hb,q]
theorem zmD (a:Nat) (l:List Nat):idxP 1 (.lst (bl (a::l))) (some 0)=some (.fp [.i .u8 (a:Int)]):=rfl
theorem zqh (a:Nat) (l:List Nat):slP 1 (.lst (bl (a::l))) (some (.i .i64 1)) none none=some (.lst (bl l)):=by
 have e:=zmt (a::l)
 have lb:=zaU (a::l)
 have hk:1≤(bl (a::l)).length:=by rw[lb];simp
 have n1:asNP (.i .i64 1)=some 1:=rfl
 have d:(bl (a::l)).drop 1=bl l:=rfl
 generalize bl (a::l)=t at *
 simp[slP,optP,n1,e,hk,d]
theorem zlh {M:PM} {m:Nat} {a:Nat} {l:List Nat} {w:Nat} (hb:PM.blk M m=some ⟨[.lst (bl (a::l)),.i .i64 0],true,w⟩):pcl E0 218 [.p m 0] M=some (.i .u8 (a:Int),M.set m (some ⟨[.lst (bl l),.i .i64 0],true,w+1⟩)):=by
 have i0:=zmD a l
 have s1:=zqh a l
 have ln:(((bl (a::l)).length:Int)=0)=False:=eq_false (by rw[zaU];simp;omega)
 generalize bl (a::l)=t at *
 refine zaC (xf:=x___skymosaic_wire_Reader__next) rfl rfl (by simp[x___skymosaic_wire_Reader__next]) ?_
 simp only[x___skymosaic_wire_Reader__next]
 simp(disch:=omega)only[go_sem,seval,wqq,hb,ln,i0,s1]
theorem zli {M:PM} {m:Nat} {w:Nat} (hb:PM.blk M m=some ⟨[.lst (bl []),.i .i64 0],true,w⟩):pcl E0 218 [.p m 0] M=some (.i .u8 0,M.set m (some ⟨[.lst (bl []),.i .i64 3],true,w+1⟩)):=by
 have f:=zhT hb 3
 have ln:(((bl []).length:Int)=0)=True:=eq_true rfl
 have hl:=zbJ hb
 have hb2:=zbk (b:=⟨[.lst (bl []),.i .i64 3],true,w+1⟩) hl
 refine zaC (xf:=x___skymosaic_wire_Reader__next) rfl rfl (by simp[x___skymosaic_wire_Reader__next]) ?_
 simp only[x___skymosaic_wire_Reader__next]
 simp(disch:=omega)only[go_sem,seval,wqq,hb,ln,f,hb2]
theorem zpx {M:PM} {m:Nat} {l:List Nat} {e:Int} {w:Nat} (hb:PM.blk M m=some ⟨[.lst (bl l),.i .i64 e],true,w⟩):pcl E0 205 [.p m 0] M=some (.i .i64 (if e=0∧l≠[] then 2 else e),M):=by
 have lb:=zaU l
 refine zaC (xf:=x___skymosaic_wire_Reader__End) rfl rfl (by simp[x___skymosaic_wire_Reader__End]) ?_
 simp only[x___skymosaic_wire_Reader__End]
 by_cases h:e=0
 ·subst h
  by_cases h2:l=[]
  ·subst h2
   have q:(0<(((bl []).length:Nat):Int))=False:=eq_false (by decide)
   simp(disch:=omega)only[go_sem,seval,wqq,hb,q]
  ·have q:(0<(((bl l).length:Nat):Int))=True:=eq_true (by rw[lb];have:=List.length_pos_iff.2 h2;omega)
   have r:(0:Int)=0∧l≠[]:=⟨rfl,h2⟩
   rw[if_pos r]
   simp(disch:=omega)only[go_sem,seval,wqq,hb,q]
 ·have q:(e=0)=False:=eq_false h
  have r:¬(e=0∧l≠[]):=fun z=>h z.1
  rw[if_neg r]
  simp(disch:=omega)only[go_sem,seval,wqq,hb,q]
def rdU (i n:Nat):List Nat→Nat×List Nat×Int
 | []=>(0,[],3)
 | c::l=>if (i=9∧1<c)∨(0<i∧c=0) then (0,l,2) else if c<128 then (n+c*128^i,l,0) else rdU (i+1) (n+c%128*128^i) l
set_option maxRecDepth 100000 in
theorem zmN:∀a:Nat,a<256→IntKind.u8.wrap ((BitVec.ofInt 8 (a:Int) &&& ~~~ BitVec.ofInt 8 128).toNat:Int)=((a%128:Nat):Int):=by decide
theorem zdC {a:Nat} (h:a<256):binP .andNot (.i .u8 (a:Int)) (.i .u8 128)=some (.i .u8 ((a%128:Nat):Int)):=by
 show some (PV.i .u8 (IntKind.u8.wrap _))=_
 have:=zmN a h
 rw[←this];rfl
theorem zgx (x:Int):∃y:Nat,y<18446744073709551616∧IntKind.u64.wrap x=(y:Int):=⟨(x%18446744073709551616).toNat,by omega,by rw[zbI];omega⟩
theorem zik (c i:Nat):∃y:Nat,y<18446744073709551616∧binP .shl (.i .u64 (c:Int)) (.i .i64 (7*(i:Int)))=some (.i .u64 (y:Int))∧(i≤9→c*128^i<18446744073709551616→y=c*128^i):=by
 obtain⟨y,y1,y2⟩:=zgx ((c:Int)*2^(min (7*(i:Int)).toNat 64))
 refine⟨y,y1,?_,fun hi hc=>?_⟩
 ·rw[zc5 (h:=by omega)]
  show some (PV.i .u64 (IntKind.u64.wrap ((c:Int)*2^(min (7*(i:Int)).toNat 64))))=_
  rw[y2]
 ·have e:min (7*(i:Int)).toNat 64=7*i:=by omega
  have p:((c:Int)*2^(7*i))=((c*128^i:Nat):Int):=by
   rw[show ((2:Int)^(7*i))=((2^(7*i):Nat):Int) by simp,Nat.pow_mul]
   push_cast;rfl
  rw[e,p,wqb (by omega) (by omega)] at y2
  exact(Int.ofNat.inj y2).symm
theorem zj1 (n y:Nat):∃z:Nat,z<18446744073709551616∧binP .or (.i .u64 (n:Int)) (.i .u64 (y:Int))=some (.i .u64 (z:Int))∧(∀c i,y=c*128^i→n<128^i→n+y<18446744073709551616→z=n+y):=by
 obtain⟨z,z1,z2⟩:=zgx (((BitVec.ofInt 64 (n:Int) ||| BitVec.ofInt 64 (y:Int)).toNat:Nat):Int)
 refine⟨z,z1,?_,fun c i hy hn hs=>?_⟩
 ·show some (PV.i .u64 (IntKind.u64.wrap _))=_
  rw[←z2];rfl
 ·have e1:(BitVec.ofInt 64 (n:Int)).toNat=n:=by rw[BitVec.toNat_ofInt];omega
  have e2:(BitVec.ofInt 64 (y:Int)).toNat=y:=by rw[BitVec.toNat_ofInt];omega
  have h7:n<2^(7*i):=by rw[Nat.pow_mul];exact hn
  have h8:c <<< (7*i)=y:=by rw[Nat.shiftLeft_eq,hy,Nat.pow_mul]
  have o:=Nat.shiftLeft_add_eq_or_of_lt h7 c
  rw[h8] at o
  rw[BitVec.toNat_or,e1,e2,Nat.or_comm,←o,wqb (by omega) (by omega)] at z2
  have:=Int.ofNat.inj z2
  omega
theorem znq:∀i,i≤9→128^i≤9223372036854775808:=by decide
theorem zls:∀i,i≤8→128^i≤72057594037927936:=by decide
set_option maxHeartbeats 8000000 in
theorem zjf {M:PM} {m:Nat} {l:List Nat} {w:Nat} (hl:∀b∈l,b<256) (hb:PM.blk M m=some ⟨[.lst (bl l),.i .i64 0],true,w⟩):∃v w',v<18446744073709551616∧v=(rdU 0 0 l).1∧pcl E0 223 [.p m 0] M=some (.i .u64 (v:Int),M.set m (some ⟨[.lst (bl (rdU 0 0 l).2.1),.i .i64 (rdU 0 0 l).2.2],true,w'⟩)):=by
 suffices h:∃v M',pcl E0 223 [.p m 0] M=some (v,M')∧∃x w':Nat,x<18446744073709551616∧x=(rdU 0 0 l).1∧v=.i .u64 (x:Int)∧M'=M.set m (some ⟨[.lst (bl (rdU 0 0 l).2.1),.i .i64 (rdU 0 0 l).2.2],true,w'⟩) by
  obtain⟨v,M',h1,x,w',h2,h3,rfl,rfl⟩:=h
  exact⟨x,w',h2,h3,h1⟩
 have hlt:=zbJ hb
 have M0:M=M.set m (some ⟨[.lst (bl l),.i .i64 0],true,w⟩):=by
  refine List.ext_getElem? fun k=>?_
  by_cases q:m=k
  ·subst q;rw[List.getElem?_set_self hlt];exact zaw.1 hb
  ·rw[List.getElem?_set_ne q]
 refine zcG (xf:=x___skymosaic_wire_Reader__Uint) rfl rfl (by simp[x___skymosaic_wire_Reader__Uint]) ?_
 simp only[x___skymosaic_wire_Reader__Uint]
 simp(disch:=omega)only[go_sem,seval,wqq]
 refine zas x___skymosaic_wire_Reader__Uint_l1.eq_1 (fun(x:Nat) fr M1=>fr 0=.p m 0 ∧
  ((∃i n w:Nat,∃l1:List Nat,x=l1.length+1∧i≤9∧n<128^i∧(∀b∈l1,b<256)∧fr 3=.i .u64 (n:Int)∧fr 4=(PV.i .i64 ((i:Nat):Int))∧rdU i n l1=rdU 0 0 l∧M1=M.set m (some ⟨[.lst (bl l1),.i .i64 0],true,w⟩)) ∨
   (x=0∧∃w:Nat,∃l1:List Nat,∃e:Int,e≠0∧rdU 0 0 l=(0,l1,e)∧M1=M.set m (some ⟨[.lst (bl l1),.i .i64 e],true,w⟩)))) (fun x=>x) ?_ (l.length+1) ⟨by simp only[go_sem,seval],.inl ⟨0,0,w,l,rfl,by omega,by decide,hl,by simp only[go_sem,seval],by simp only[go_sem,seval],rfl,M0⟩⟩
 rintro x fr M1 ⟨f0,⟨i,n,w1,l1,rfl,hi,hn,hl1,f3,f4,hr,rfl⟩|⟨rfl,w1,l1,e,he,hr,rfl⟩⟩ ih
 ·have b1:=zbk (b:=⟨[.lst (bl l1),.i .i64 0],true,w1⟩) hlt
  cases l1 with
  | nil =>
   have nx:=zli b1
   rw[List.set_set] at nx
   have b2:=zbk (b:=⟨[.lst (bl []),.i .i64 3],true,w1+1⟩) hlt
   have fl:=zld b2 (by decide) 2
   have n0:binP .andNot (.i .u8 0) (.i .u8 128)=some (.i .u8 0):=zdC (a:=0) (by decide)
   obtain⟨y,y1,y2,_⟩:=zik 0 i
   obtain⟨z,z1,z2,_⟩:=zj1 n y
   have y2:binP .shl (.i .u64 0) (.i .i64 (7*(i:Int)))=some (.i .u64 (y:Int)):=y2
   have e3:rdU 0 0 l=(0,[],3):=hr.symm
   rcases Nat.eq_zero_or_pos i with c0|c0
   ·have g9:((i:Int)=9)=False:=eq_false (by omega)
    have g0:(0<(i:Int))=False:=eq_false (by omega)
    simp(disch:=omega)only[go_sem,seval,wqq,f0,f3,f4,b1,nx,b2,n0,y2,z2,g9,g0]
    exact ih 0 _ _ (by simp) ⟨by simp only[go_sem,seval,f0],.inr ⟨rfl,w1+1,[],3,by decide,e3,rfl⟩⟩
   ·have g0:(0<(i:Int))=True:=eq_true (by omega)
    rcases Nat.lt_or_ge i 9 with c9|c9
    ·have g9:((i:Int)=9)=False:=eq_false (by omega)
     simp(disch:=omega)only[go_sem,seval,wqq,f0,f3,f4,b1,nx,b2,n0,y2,z2,g9,g0,fl]
     exact ih 0 _ _ (by simp) ⟨by simp only[go_sem,seval,f0],.inr ⟨rfl,w1+1,[],3,by decide,e3,rfl⟩⟩
    ·have g9:((i:Int)=9)=True:=eq_true (by omega)
     simp(disch:=omega)only[go_sem,seval,wqq,f0,f3,f4,b1,nx,b2,n0,y2,z2,g9,g0,fl]
     exact ih 0 _ _ (by simp) ⟨by simp only[go_sem,seval,f0],.inr ⟨rfl,w1+1,[],3,by decide,e3,rfl⟩⟩
  | cons c l2 =>
   have hc:c<256:=hl1 c (List.mem_cons_self ..)
   have hl2:∀b∈l2,b<256:=fun b hb=>hl1 b (List.mem_cons_of_mem _ hb)
   have nx:=zlh b1
   rw[List.set_set] at nx
   have b2:=zbk (b:=⟨[.lst (bl l2),.i .i64 0],true,w1+1⟩) hlt
   have n0:=zdC hc
   obtain⟨y,y1,y2,y3⟩:=zik (c%128) i
   obtain⟨z,z1,z2,z3⟩:=zj1 n y
   have p9:=znq i hi
   by_cases hP:(i=9∧1<c)∨(0<i∧c=0)
   ·have e2:rdU 0 0 l=(0,l2,2):=by rw[←hr];exact if_pos hP
    have fl:=zhT b2 2
    rw[List.set_set] at fl
    have b3:=zbk (b:=⟨[.lst (bl l2),.i .i64 2],true,w1+1+1⟩) hlt
    rcases hP with⟨h9,h1⟩|⟨h0,hc0⟩
    ·have g9:((i:Int)=9)=True:=eq_true (by omega)
     have g1:(1<(c:Int))=True:=eq_true (by omega)
     rcases Nat.lt_or_ge c 128 with k|k
     ·have g2:((c:Int)<128)=True:=eq_true (by omega)
      simp(disch:=omega)only[go_sem,seval,wqq,f0,f3,f4,b1,nx,b2,n0,y2,z2,g9,g1,g2,fl,b3]
      exact ih 0 _ _ (by simp) ⟨by simp only[go_sem,seval,f0],.inr ⟨rfl,w1+1+1,l2,2,by decide,e2,rfl⟩⟩
     ·have g2:((c:Int)<128)=False:=eq_false (by omega)
      simp(disch:=omega)only[go_sem,seval,wqq,f0,f3,f4,b1,nx,b2,n0,y2,z2,g9,g1,g2,fl,b3]
      exact ih 0 _ _ (by simp) ⟨by simp only[go_sem,seval,f0],.inr ⟨rfl,w1+1+1,l2,2,by decide,e2,rfl⟩⟩
    ·have g0:(0<(i:Int))=True:=eq_true (by omega)
     have g1:(1<(c:Int))=False:=eq_false (by omega)
     have g2:((c:Int)<128)=True:=eq_true (by omega)
     have g3:((c:Int)=0)=True:=eq_true (by omega)
     rcases Nat.lt_or_ge i 9 with c9|c9
     ·have g9:((i:Int)=9)=False:=eq_false (by omega)
      simp(disch:=omega)only[go_sem,seval,wqq,f0,f3,f4,b1,nx,b2,n0,y2,z2,g9,g0,g1,g2,g3,fl,b3]
      exact ih 0 _ _ (by simp) ⟨by simp only[go_sem,seval,f0],.inr ⟨rfl,w1+1+1,l2,2,by decide,e2,rfl⟩⟩
     ·have g9:((i:Int)=9)=True:=eq_true (by omega)
      simp(disch:=omega)only[go_sem,seval,wqq,f0,f3,f4,b1,nx,b2,n0,y2,z2,g9,g0,g1,g2,g3,fl,b3]
      exact ih 0 _ _ (by simp) ⟨by simp only[go_sem,seval,f0],.inr ⟨rfl,w1+1+1,l2,2,by decide,e2,rfl⟩⟩
   ·have er:rdU i n (c::l2)=if c<128 then (n+c*128^i,l2,0) else rdU (i+1) (n+c%128*128^i) l2:=if_neg hP
    rw[er] at hr
    have c1:i=9→c≤1:=fun h=>by omega
    have c2:0<i→c≠0:=fun h=>by omega
    have hyz:c%128*128^i+n<18446744073709551616∧(c%128*128^i+n<128^(i+1)∨i=9):=by
     rcases Nat.lt_or_ge i 9 with h|h
     ·have p8:=zls i (by omega)
      have m:=Nat.mul_le_mul_right (128^i) (show c%128≤127 by omega)
      rw[Nat.pow_succ]
      generalize 128^i=P at *
      omega
     ·have:c%128≤1:=by have:=c1 (by omega);omega
      have m:=Nat.mul_le_mul_right (128^i) this
      generalize 128^i=P at *
      omega
    have hy:=y3 hi (by omega)
    have hz:=z3 _ _ hy hn (by omega)
    rw[hy] at hz
    rcases Nat.lt_or_ge c 128 with k|k
    ·have g2:((c:Int)<128)=True:=eq_true (by omega)
     rw[if_pos k] at hr
     have hcm:c%128=c:=Nat.mod_eq_of_lt k
     rw[hcm] at hz
     have fin:∃x w':Nat,x<18446744073709551616∧x=(rdU 0 0 l).1∧PV.i .u64 (z:Int)=.i .u64 (x:Int)∧M.set m (some ⟨[.lst (bl l2),.i .i64 0],true,w1+1⟩)=M.set m (some ⟨[.lst (bl (rdU 0 0 l).2.1),.i .i64 (rdU 0 0 l).2.2],true,w'⟩):=⟨z,w1+1,z1,by rw[←hr];exact hz,rfl,by rw[←hr]⟩
     rcases Nat.lt_or_ge i 9 with c9|c9
     ·have g9:((i:Int)=9)=False:=eq_false (by omega)
      rcases Nat.eq_zero_or_pos i with c0|c0
      ·have g0:(0<(i:Int))=False:=eq_false (by omega)
       simp(disch:=omega)only[go_sem,seval,wqq,f0,f3,f4,b1,nx,b2,n0,y2,z2,g9,g0,g2]
       exact fin
      ·have g0:(0<(i:Int))=True:=eq_true (by omega)
       have g3:((c:Int)=0)=False:=eq_false (by have:=c2 c0;omega)
       simp(disch:=omega)only[go_sem,seval,wqq,f0,f3,f4,b1,nx,b2,n0,y2,z2,g9,g0,g2,g3]
       exact fin
     ·have g9:((i:Int)=9)=True:=eq_true (by omega)
      have g0:(0<(i:Int))=True:=eq_true (by omega)
      have g1:(1<(c:Int))=False:=eq_false (by have:=c1 (by omega);omega)
      have g3:((c:Int)=0)=False:=eq_false (by have:=c2 (by omega);omega)
      simp(disch:=omega)only[go_sem,seval,wqq,f0,f3,f4,b1,nx,b2,n0,y2,z2,g9,g0,g1,g2,g3]
      exact fin
    ·have g2:((c:Int)<128)=False:=eq_false (by omega)
     have h9:i≤8:=by
      rcases Nat.lt_or_ge i 9 with h|h
      ·omega
      ·have:=c1 (by omega);omega
     have hr:rdU (i+1) (n+c%128*128^i) l2=rdU 0 0 l:=by rw[←hr,if_neg (by omega)]
     have g9:((i:Int)=9)=False:=eq_false (by omega)
     have g3:((c:Int)=0)=False:=eq_false (by omega)
     rcases Nat.eq_zero_or_pos i with c0|c0
     ·have g0:(0<(i:Int))=False:=eq_false (by omega)
      simp(disch:=omega)only[go_sem,seval,wqq,f0,f3,f4,b1,nx,b2,n0,y2,z2,g9,g0,g2]
      exact ih (l2.length+1) _ _ (by simp) ⟨by simp only[go_sem,seval,f0],.inl ⟨i+1,z,w1+1,l2,rfl,by omega,by omega,hl2,by simp only[go_sem,seval],by simp only[go_sem,seval];rw[Int.natCast_succ],by rw[hz];exact hr,rfl⟩⟩
     ·have g0:(0<(i:Int))=True:=eq_true (by omega)
      simp(disch:=omega)only[go_sem,seval,wqq,f0,f3,f4,b1,nx,b2,n0,y2,z2,g9,g0,g2,g3]
      exact ih (l2.length+1) _ _ (by simp) ⟨by simp only[go_sem,seval,f0],.inl ⟨i+1,z,w1+1,l2,rfl,by omega,by omega,hl2,by simp only[go_sem,seval],by simp only[go_sem,seval];rw[Int.natCast_succ],by rw[hz];exact hr,rfl⟩⟩
 ·have b1:=zbk (b:=⟨[.lst (bl l1),.i .i64 e],true,w1⟩) hlt
  have q:(e=0)=False:=eq_false he
  simp(disch:=omega)only[go_sem,seval,wqq,f0,b1,q]
  exact⟨0,w1,by decide,by rw[hr],rfl,by rw[hr]⟩
end Go.Eng
