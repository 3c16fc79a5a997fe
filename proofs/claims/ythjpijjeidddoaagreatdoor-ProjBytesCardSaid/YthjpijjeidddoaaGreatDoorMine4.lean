/- The engine and the contracts on which the statement stands: no conditions of its own. -/
import Derived.Test.YthjpijjeidddoaaGreatDoorMine3
set_option linter.unusedSimpArgs false
set_option linter.unusedVariables false
set_option linter.unusedSectionVars false
namespace Go.Eng
set_option maxRecDepth 100000 in
theorem zsg {z:Nat} (h:z<18446744073709551616):binP .and (.i .u64 (z:Int)) (.i .u64 1)=some (.i .u64 ((z%2:Nat):Int)):=by
 show some (PV.i .u64 (IntKind.u64.wrap ((BitVec.ofInt 64 (z:Int) &&& BitVec.ofInt 64 1).toNat:Int)))=_
 have e1:(BitVec.ofInt 64 (z:Int)).toNat=z:=by rw[BitVec.toNat_ofInt];omega
 have e2:(BitVec.ofInt 64 1).toNat=1:=by decide
 rw[BitVec.toNat_and,e1,e2,Nat.and_one_is_mod,wqb (by omega) (by omega)]
theorem znQ {x:Nat} (h:x<9223372036854775808):binP .xor (.i .i64 (x:Int)) (.i .i64 0)=some (.i .i64 (x:Int)):=by
 show some (PV.i .i64 (IntKind.i64.wrap ((BitVec.ofInt 64 (x:Int) ^^^ BitVec.ofInt 64 0).toNat:Int)))=_
 rw[znS (by omega),wqa (by omega) (by omega)]
theorem zjC {x:Nat} (h:x<9223372036854775808):IntKind.i64.wrap ((18446744073709551615-x:Nat):Int) = -(x:Int)-1:=by
 simp only[IntKind.wrap,IntKind.signed,IntKind.bits,Bool.true_and,decide_eq_true_eq,ge_iff_le]
 have e:(((18446744073709551615-x:Nat):Int))=18446744073709551615-(x:Int):=by omega
 rw[e]
 split<;>omega
theorem znR {x:Nat} (h:x<9223372036854775808):binP .xor (.i .i64 (x:Int)) (.i .i64 (-1))=some (.i .i64 (-(x:Int)-1)):=by
 show some (PV.i .i64 (IntKind.i64.wrap ((BitVec.ofInt 64 (x:Int) ^^^ BitVec.ofInt 64 (-1)).toNat:Int)))=_
 have e1:BitVec.ofInt 64 (-1)=BitVec.ofInt 64 18446744073709551615:=by decide
 rw[e1,ziy (by omega),zjC h]
theorem zlo {z:Nat} (h:z<18446744073709551616):pf E0 273 [.i .u64 (z:Int)]=some (.i .i64 (uz z)):=by
 have b1:binP .shr (.i .u64 (z:Int)) (.i .u64 1)=some (.i .u64 ((z/2:Nat):Int)):=by
  have:=zc7 .u64 z 1 (by decide) (by decide)
  exact this
 have b2:=zsg h
 have w1:IntKind.i64.wrap ((z/2:Nat):Int)=((z/2:Nat):Int):=wqa (by omega) (by omega)
 have w2:IntKind.i64.wrap ((z%2:Nat):Int)=((z%2:Nat):Int):=wqa (by omega) (by omega)
 refine zad (xf:=ztE) rfl (by simp[ztE]) ?_
 simp only[ztE]
 by_cases q:z%2=0
 ·have e:uz z=((z/2:Nat):Int):=if_pos q
  have b3:=znQ (x:=z/2) (by omega)
  rw[q] at b2 w2
  have b2:binP .and (.i .u64 (z:Int)) (.i .u64 1)=some (.i .u64 0):=b2
  generalize z/2=y at *
  rw[e]
  simp(disch:=omega)only[go_sem,seval,wqq,b1,b2,b3,w1]
 ·have e:uz z = -((z/2:Nat):Int)-1:=if_neg q
  have b3:=znR (x:=z/2) (by omega)
  have q1:z%2=1:=by omega
  rw[q1] at b2 w2
  have b2:binP .and (.i .u64 (z:Int)) (.i .u64 1)=some (.i .u64 1):=b2
  generalize z/2=y at *
  rw[e]
  simp(disch:=omega)only[go_sem,seval,wqq,b1,b2,b3,w1]
def rdS (s:List Nat×Int):Nat×List Nat×Int:=if s.2=0 then rdU 0 0 s.1 else (0,s)
theorem zib:∀(l:List Nat) (i n:Nat),∀b∈(rdU i n l).2.1,b∈l
 | [],i,n,b,h=>h
 | c::l,i,n,b,h=>by
  unfold rdU at h
  split at h
  ·exact List.mem_cons_of_mem _ h
  ·split at h
   ·exact List.mem_cons_of_mem _ h
   ·exact List.mem_cons_of_mem _ (zib l _ _ b h)
theorem zlA (s:List Nat×Int):∀b∈(rdS s).2.1,b∈s.1:=by
 unfold rdS
 split
 ·exact zib _ _ _
 ·exact fun b h=>h
theorem zjn {M:PM} {m:Nat} {b:PB} (hb:PM.blk M m=some b):M.set m (some b)=M:=by
 refine List.ext_getElem? fun k=>?_
 by_cases q:m=k
 ·subst q;rw[List.getElem?_set_self (zbJ hb)];exact(zaw.1 hb).symm
 ·rw[List.getElem?_set_ne q]
theorem zhZ {M:PM} {m:Nat} {l:List Nat} {e:Int} {w:Nat} (he:e≠0) (hb:PM.blk M m=some ⟨[.lst (bl l),.i .i64 e],true,w⟩):pcl E0 223 [.p m 0] M=some (.i .u64 0,M):=by
 have q:(e=0)=False:=eq_false he
 refine zaC (xf:=x___skymosaic_wire_Reader__Uint) rfl rfl (by simp[x___skymosaic_wire_Reader__Uint]) ?_
 simp only[x___skymosaic_wire_Reader__Uint]
 simp(disch:=omega)only[go_sem,seval,wqq]
 refine zac x___skymosaic_wire_Reader__Uint_l1.eq_1 ?_
 simp(disch:=omega)only[go_sem,seval,wqq,hb,q]
theorem zlk {M:PM} {m:Nat} {s:List Nat×Int} {w:Nat} (hl:∀b∈s.1,b<256) (hb:PM.blk M m=some ⟨[.lst (bl s.1),.i .i64 s.2],true,w⟩):(rdS s).1<18446744073709551616∧∃w',pcl E0 223 [.p m 0] M=some (.i .u64 ((rdS s).1:Int),M.set m (some ⟨[.lst (bl (rdS s).2.1),.i .i64 (rdS s).2.2],true,w'⟩)):=by
 obtain⟨l,e⟩:=s
 by_cases he:e=0
 ·subst he
  obtain⟨v,w',h1,h2,h3⟩:=zjf hl hb
  have:rdS (l,0)=rdU 0 0 l:=if_pos rfl
  rw[this]
  subst h2
  exact⟨h1,w',h3⟩
 ·have:rdS (l,e)=(0,l,e):=if_neg he
  rw[this]
  refine⟨Nat.zero_lt_succ _,w,?_⟩
  rw[zhZ he hb,zjn hb];rfl
theorem zfp {M:PM} {m:Nat} {s:List Nat×Int} {w:Nat} (hl:∀b∈s.1,b<256) (hb:PM.blk M m=some ⟨[.lst (bl s.1),.i .i64 s.2],true,w⟩):Fits64 (uz (rdS s).1)∧∃w',pcl E0 249 [.p m 0] M=some (.i .i64 (uz (rdS s).1),M.set m (some ⟨[.lst (bl (rdS s).2.1),.i .i64 (rdS s).2.2],true,w'⟩)):=by
 obtain⟨h1,w',h2⟩:=zlk hl hb
 have hu:=zlo h1
 refine⟨zlL h1,w',?_⟩
 refine zaC (xf:=x___skymosaic_wire_Reader__Int) rfl rfl (by simp[x___skymosaic_wire_Reader__Int]) ?_
 simp only[x___skymosaic_wire_Reader__Int]
 simp(disch:=omega)only[go_sem,seval,wqq,h2,hu]
theorem zj3 {M:PM} {l:List Nat} (hl:l.length<100000000000):pcl E0 202 [.lst (bl l)] M=some (.p M.length 0,M++[some ⟨[.lst (bl l),.i .i64 0],true,0⟩]):=by
 have h:=zf6 hl
 refine zaC (xf:=zue) rfl rfl (by simp[zue]) ?_
 simp only[zue]
 simp(disch:=omega)only[go_sem,seval,wqq,h,zaz,zai]
theorem znv:∀(n i a:Nat) (l:List Nat),n*128^i<18446744073709551616→i≤9→(0<i→n≠0)→rdU i a (vbN n++l)=(a+n*128^i,l,0):=fun n=>by
 induction n using Nat.strongRecOn with
 | _ n ih =>
  intro i a l hn hi h0
  by_cases q:n<128
  ·have hp:¬((i=9∧1<n)∨(0<i∧n=0)):=fun h=>by
    rcases h with⟨rfl,h⟩|⟨h1,h2⟩
    ·have:=Nat.mul_le_mul_right (128^9) h
     omega
    ·exact h0 h1 h2
   rw[zgT q]
   show (if (i=9∧1<n)∨(0<i∧n=0) then _ else if n<128 then _ else _)=_
   rw[if_neg hp,if_pos q];rfl
  ·have hi8:i≠9:=fun h=>by
    subst h
    have:=Nat.mul_le_mul_right (128^9) (show 128≤n by omega)
    omega
   have hp:¬((i=9∧1<128+n%128)∨(0<i∧128+n%128=0)):=by omega
   rw[zit (by omega)]
   show (if (i=9∧1<128+n%128)∨(0<i∧128+n%128=0) then _ else if 128+n%128<128 then _ else rdU (i+1) (a+(128+n%128)%128*128^i) (vbN (n/128)++l))=_
   have e:n/128*128^(i+1)+n%128*128^i=n*128^i:=by
    rw[Nat.pow_succ,←Nat.mul_assoc,Nat.mul_right_comm,←Nat.add_mul]
    congr 1;omega
   rw[if_neg hp,if_neg (by omega),ih (n/128) (by omega) (i+1) _ l (by omega) (by omega) (by omega)]
   have m:(128+n%128)%128=n%128:=by omega
   rw[m]
   congr 1;omega
theorem zkb {n:Int} (h:Fits64 n) (l:List Nat):rdS (ib n++l,0)=(zz n,l,0):=by
 show rdU 0 0 (ib n++l)=_
 have:=znv (zz n) 0 0 l (by have:=zgU h;omega) (by decide) (fun q=>absurd q (by decide))
 unfold ib
 rw[this]
 simp
end Go.Eng
namespace Go.Eng
theorem zh5 {n K:Nat} (hn:n=1229) (hK:K=16384):10000^n≤2^K:=by
 obtain⟨m,hm⟩:∃m,m=83:=⟨_,rfl⟩
 have e:(10000:Nat)^n=(10^59)^m*10^19:=by
  rw[show (10000:Nat)=10^4 from rfl,←Nat.pow_mul,←Nat.pow_mul,←Nat.pow_add]
  congr 1;omega
 have h1:(10:Nat)^59≤2^196:=by decide
 have h2:(10:Nat)^19≤2^64:=by decide
 have h3:((10:Nat)^59)^m≤(2^196)^m:=Nat.pow_le_pow_left h1 m
 have h4:(2^196)^m*2^64=2^(196*m+64):=by rw[←Nat.pow_mul,←Nat.pow_add]
 rw[e]
 refine Nat.le_trans (Nat.mul_le_mul h3 h2) ?_
 rw[h4]
 exact Nat.pow_le_pow_right (by decide) (by omega)
def inR (v:Nat):Prop:=v<2^16384
theorem ziS (v:Nat):(tlen v<1230∨v<2^16384)↔inR v:=by
 obtain⟨n,hn⟩:∃n,n=1229:=⟨_,rfl⟩
 have hb:=zh5 (K:=16384) hn rfl
 unfold inR
 generalize (2:Nat)^16384=q at *
 constructor
 ·rintro (h|h)
  ·have h2:v<10000^n:=zb4.1 (by omega)
   exact Nat.lt_of_lt_of_le h2 hb
  ·exact h
 ·exact .inr
theorem zbH (v:Nat):wlen v≤512↔inR v:=by
 obtain⟨n,hn⟩:∃n,n=512:=⟨_,rfl⟩
 rw[←hn,zaM]
 unfold inR
 have:(4294967296:Nat)^n=2^16384:=by
  rw[show (4294967296:Nat)=2^32 from rfl,←Nat.pow_mul]
  congr 1;omega
 rw[this]
end Go.Eng
namespace Go.Eng
end Go.Eng
namespace Go.Eng
noncomputable instance inRdec (v:Nat):Decidable (inR v):=Classical.propDecidable _
end Go.Eng
namespace Go.Eng
end Go.Eng
namespace Go.Eng
theorem zir {n K:Nat} (hn:n=177) (hK:K=16384):2^K≤10^(28*n):=by
 have e1:(2:Nat)^K≤(2^93)^n:=by
  rw[←Nat.pow_mul 2]
  exact Nat.pow_le_pow_right (by decide) (by omega)
 have e2:((2:Nat)^93)^n≤(10^28)^n:=Nat.pow_le_pow_left (by decide) n
 rw[←Nat.pow_mul 10] at e2
 exact Nat.le_trans e1 e2
theorem ziX {v:Nat} (h:inR v):dlen v≤4956:=by
 obtain⟨n,hn⟩:∃n,n=177:=⟨_,rfl⟩
 have e:=zir (K:=16384) hn rfl
 have h:v<2^16384:=h
 have:=zaR.2 (Nat.lt_of_lt_of_le h e)
 omega
theorem znb (x:WI):pf E0 33 [wiP x]=some (.s (decI x.v)):=by
 refine zlr ?_ rfl
 have hw:∀(l:List Nat),Ok32 l→wordsP (l.map fun n=>(PV.i .u32 ((n:Nat):Int)))=some l:=fun l=>by
  induction l with
  | nil=>intro _;rfl
  | cons n l ih =>
   intro h
   have h1:=h n (List.mem_cons_self ..)
   rw[List.map_cons]
   unfold wordsP
   rw[if_pos ⟨by omega,by omega⟩,ih fun x hx=>h x (List.mem_cons_of_mem _ hx)]
   simp
 have hD:D x.v.natAbs=.lst ((dig x.v.natAbs).map fun n=>(PV.i .u32 ((n:Nat):Int))):=(zqC _ _).symm
 have hg:(dig x.v.natAbs).getLast?≠some 0:=fun q=>by
  by_cases h:x.v.natAbs=0
  ·rw[h] at q;cases q
  ·have h1:=zaT h
   have h2:(dig x.v.natAbs).getLast?=some (dgt x.v.natAbs (wlen x.v.natAbs-1)):=by
    rw[List.getLast?_eq_getElem?]
    unfold dig dw
    rw[zb3,zaW (by omega)]
   rw[h2] at q
   have h3:=Option.some.inj q
   rw[zah] at h3
   have h4:=zev h
   have h5:x.v.natAbs/4294967296^(wlen x.v.natAbs-1)<4294967296:=by
    have:=zag x.v.natAbs
    rw[show wlen x.v.natAbs=wlen x.v.natAbs-1+1 by omega,Nat.pow_succ] at this
    exact Nat.div_lt_of_lt_mul this
   have h6:=Nat.div_pos h4 (zbq _)
   rw[Nat.mod_eq_of_lt h5] at h3
   omega
 have hx:=x.lim
 rw[zdv,hD]
 simp only[orcP,txtP,if_true,hw _ (zmP _),Option.bind_some]
 unfold wtx
 have hnz:decide (x.v<0)=true→dig x.v.natAbs≠[]:=fun h=>by
  have h1:x.v<0:=by simpa using h
  intro q
  have h2:=zdG x.v.natAbs
  rw[q] at h2
  have:=zaT (v:=x.v.natAbs) (by omega)
  simp at h2;omega
 rw[if_pos ⟨by rw[zdG];exact hx,hg,hnz⟩,zlN]
 ·have e:(if decide (x.v<0)=true then-((x.v.natAbs:Nat):Int) else ((x.v.natAbs:Nat):Int))=x.v:=by
   by_cases h:x.v<0
   ·rw[if_pos (by simpa using h)];omega
   ·rw[if_neg (by simpa using h)];omega
  rw[e];rfl
end Go.Eng
namespace Go.Eng
theorem ziI {v n:Nat} (h1:10^n≤v) (h2:v<10^(n+1)):dec v=dtx (n+1) v:=by
 have h0:v≠0:=by have:=Nat.pow_pos (n:=n) (by decide:0<10);omega
 have:dlen v=n+1:=by
  have a:=zaR.2 h2
  have b:¬dlen v≤n:=fun q=>by have:=zaR.1 q;omega
  omega
 rw[zd3 h0,this]
theorem zhh {n:Int} (h:Fits64 n):∃x:WI,x.v=n∧pf E0 34 [.i .i64 n]=some (wiP x):=⟨wiOf n h,rfl,zdP h⟩
end Go.Eng
namespace Go.Eng
theorem zcO {z:Int} (h:tlen z.natAbs<1230):inR z.natAbs:=(ziS _).1 (.inl h)
end Go.Eng
namespace Go.Eng
def upd {α:Type} (X:Nat→α) (i:Nat) (v:α):Nat→α:=fun e=>if e=i then v else X e
theorem zjw {α:Type} (X:Nat→α) (i:Nat) (v:α):upd X i v i=v:=if_pos rfl
theorem znI {α:Type} {X:Nat→α} {i:Nat} {v:α} {e:Nat} (h:e≠i):upd X i v e=X e:=if_neg h
def cs (n:Nat) (X:Nat→Int):List PV:=(List.range n).map fun e=>.i .i64 (X e)
def zF:Nat→Int:=fun _=>0
def aI (n:Nat) (X:Nat→Int):PV:=.ag (cs n X)
@[go_sem] theorem zfH (n:Nat) (X:Nat→Int):(cs n X).length=n:=by simp[cs]
theorem zjJ {n:Nat} (X:Nat→Int) {i:Nat} (h:i<n):(cs n X)[i]?=some (.i .i64 (X i)):=by simp[cs,h]
theorem zmg {n:Nat} (X:Nat→Int) {i:Nat} (h:i<(cs n X).length):(cs n X)[i]=.i .i64 (X i):=by simp[cs]
theorem zjI {n:Nat} {X Y:Nat→Int} (h:∀e,e<n→X e=Y e):cs n X=cs n Y:=by
 unfold cs
 exact List.map_congr_left fun e he=>by rw[h e (List.mem_range.1 he)]
theorem zlW {n:Nat} {X Y:Nat→Int} (h:∀e,e<n→X e=Y e):aI n X=aI n Y:=by unfold aI;rw[zjI h]
@[go_sem] theorem zqG (n:Nat) (X:Nat→Int) (i:Nat) (v:Int):(cs n X).set i (.i .i64 v)=cs n (upd X i v):=by
 refine List.ext_getElem (by simp[cs]) fun k h1 h2=>?_
 rw[zmg,List.getElem_set]
 split
 ·rename_i q;subst q;rw[zjw]
 ·rename_i q;rw[zmg,znI (fun z=>q z.symm)]
theorem zmk {n:Nat} (X:Nat→Int) {off k:Nat} (h:off+k≤n):((cs n X).drop off).take k=cs k (fun e=>X (off+e)):=by
 refine List.ext_getElem (by simp[cs];omega) fun j h1 h2=>?_
 simp[cs]
theorem zmj {n:Nat} (X:Nat→Int) {i:Nat} (h:i<n):((cs n X).drop i).take 1=[.i .i64 (X i)]:=by
 rw[zmk X (show i+1≤n by omega)];rfl
theorem ziG (n:Nat) (l:List PV) (Y:Nat→Int) (h:l.length=n):psplice l 0 (cs n Y)=cs n Y:=by
 unfold psplice
 rw[zfH,List.take_zero,List.drop_eq_nil_of_le (by omega),List.nil_append,List.append_nil]
@[go_sem] theorem zoZ (n:Nat) (X Y:Nat→Int):psplice (cs n X) 0 (cs n Y)=cs n Y:=ziG n _ Y (zfH n X)
@[go_sem] theorem zo0 (n:Nat) (X:Nat→Int):(cs n X).take n=cs n X:=List.take_of_length_le (by rw[zfH];exact Nat.le_refl _)
@[go_sem] theorem zoY (n:Nat) (X:Nat→Int):(cs n X).all PV.scal=true:=by
 rw[List.all_eq_true]
 intro x hx
 obtain⟨e,_,rfl⟩:=List.mem_map.1 hx
 rfl
@[go_sem] theorem zoX (M:PM) (d n:Nat) (X:Nat→Int):fzL (fz M (d+1)) (cs n X)=some (cs n X,[]):=zcY M d _ (fun _=>rfl) _
@[go_sem] theorem zsf (M:PM) (d n:Nat) (X:Nat→Int):fz M (d+1+1) (aI n X)=some (aI n X,[]):=by unfold aI;rw[zpf,zoX,ziV]
@[go_sem] theorem znT (n:Nat) (X:Nat→Int):(aI n X).cells=cs n X:=_root_.id rfl
@[go_sem] theorem zoC (n:Nat) (X:Nat→Int):PV.ag (cs n X)=aI n X:=_root_.id rfl
theorem zlX {n:Nat} (X:Nat→Int) {j:Nat} (h:j<n):iagP n false 1 (aI n X) (some j)=some (.i .i64 (X j)):=by
 unfold aI
 rw[zkF,if_pos ⟨h,by rw[zfH];omega⟩,Nat.mul_one,zmj X h];rfl
theorem zmi (n:Nat) (X Y:Nat→Int):eqCellsP (List.replicate n 1) (cs n X) (cs n Y)=some (decide (∀e,e<n→X e=Y e)):=by
 have key:∀(l:List Nat),eqCellsP (List.replicate l.length 1) (l.map fun e=>PV.i .i64 (X e)) (l.map fun e=>PV.i .i64 (Y e))=some (decide (∀e∈l,X e=Y e)):=fun l=>by
  induction l with
  | nil=>simp[eqCellsP]
  | cons a l ih =>
   rw[List.length_cons,List.replicate_succ,List.map_cons,List.map_cons]
   simp only[eqCellsP,eqCellP,ih]
   have q:(X a==Y a)=decide (X a=Y a):=by rw[Bool.eq_iff_iff];simp
   simp[q]
 have:=key (List.range n)
 rw[List.length_range] at this
 simpa [cs] using this
theorem zmh (n:Nat) (X:Nat→Int):eqCellsP (List.replicate n 1) (cs n X) (cs n X)=some true:=by rw[zmi];simp
end Go.Eng
namespace Go.Eng
def gI (p q:Int):Int:=((Nat.gcd p.natAbs q.natAbs:Nat):Int)
def lowP (p q:Int):Int:=(if q<0 then-p else p)/gI p q
def lowQ (p q:Int):Int:=(if q<0 then-q else q)/gI p q
theorem zgB {p q:Int} (h:q≠0):gI p q≠0:=by
 unfold gI
 intro e
 have:Nat.gcd p.natAbs q.natAbs=0:=by omega
 have:=Nat.eq_zero_of_gcd_eq_zero_right this
 omega
theorem zdj {p q:Int} (h:q≠0):0<gI p q:=by
 have:=zgB (p:=p) h
 unfold gI at *
 omega
theorem zbT (p q:Int):gI p q∣p:=Int.ofNat_dvd_left.2 (Nat.gcd_dvd_left _ _)
theorem zcb (p q:Int):gI p q∣q:=Int.ofNat_dvd_left.2 (Nat.gcd_dvd_right _ _)
theorem zmA (p q:Int):gI (-p) (-q)=gI p q:=by unfold gI;rw[Int.natAbs_neg,Int.natAbs_neg]
theorem zdm {p q:Int} (h:q≠0):lowP p q*gI p q=(if q<0 then-p else p)∧lowQ p q*gI p q=(if q<0 then-q else q):=by
 unfold lowP lowQ
 refine⟨Int.ediv_mul_cancel ?_,Int.ediv_mul_cancel ?_⟩
 ·split
  ·exact Int.dvd_neg.2 (zbT p q)
  ·exact zbT p q
 ·split
  ·exact Int.dvd_neg.2 (zcb p q)
  ·exact zcb p q
theorem zdn {p q:Int} (h:q≠0):0<lowQ p q:=by
 have h1:=(zdm (p:=p) h).2
 have h2:=zdj (p:=p) h
 have h3:0<lowQ p q*gI p q:=by rw[h1];split<;>omega
 exact Int.pos_of_mul_pos_left h3 h2
theorem zbU {p q:Int} (h:q≠0):lowP p q*q=p*lowQ p q:=by
 obtain⟨h1,h2⟩:=zdm (p:=p) h
 have h3:=zgB (p:=p) h
 apply Int.eq_of_mul_eq_mul_right h3
 rw[Int.mul_right_comm,h1,Int.mul_assoc,h2]
 split<;>grind
theorem zed {p q:Int} (h:q≠0):Nat.gcd (lowP p q).natAbs (lowQ p q).natAbs=1:=by
 obtain⟨h1,h2⟩:=zdm (p:=p) h
 have h3:=zdj (p:=p) h
 have e1:(lowP p q).natAbs*(gI p q).natAbs=p.natAbs:=by rw[←Int.natAbs_mul,h1];split<;>omega
 have e2:(lowQ p q).natAbs*(gI p q).natAbs=q.natAbs:=by rw[←Int.natAbs_mul,h2];split<;>omega
 have e3:(gI p q).natAbs=Nat.gcd p.natAbs q.natAbs:=Int.natAbs_natCast _
 have e4:=Nat.gcd_mul_right (lowP p q).natAbs (gI p q).natAbs (lowQ p q).natAbs
 rw[e1,e2,←e3] at e4
 have:0<(gI p q).natAbs:=by omega
 exact Nat.eq_of_mul_eq_mul_right this (by rw[Nat.one_mul];exact e4.symm)
theorem zef {p q r s:Int} (hq:0<q) (hs:0<s) (c1:Nat.gcd p.natAbs q.natAbs=1) (c2:Nat.gcd r.natAbs s.natAbs=1) (h:p*s=r*q):p=r∧q=s:=by
 have n1:p.natAbs*s.natAbs=r.natAbs*q.natAbs:=by rw[←Int.natAbs_mul,←Int.natAbs_mul,h]
 have d1:q.natAbs∣s.natAbs:=by
  have:q.natAbs∣p.natAbs*s.natAbs:=⟨r.natAbs,by rw[n1,Nat.mul_comm]⟩
  exact(Nat.Coprime.dvd_of_dvd_mul_left (by rw[Nat.coprime_comm];exact c1) this)
 have d2:s.natAbs∣q.natAbs:=by
  have:s.natAbs∣r.natAbs*q.natAbs:=⟨p.natAbs,by rw[←n1,Nat.mul_comm]⟩
  exact(Nat.Coprime.dvd_of_dvd_mul_left (by rw[Nat.coprime_comm];exact c2) this)
 have e:q.natAbs=s.natAbs:=Nat.dvd_antisymm d1 d2
 have e2:q=s:=by omega
 subst e2
 exact⟨Int.eq_of_mul_eq_mul_right (by omega) h,rfl⟩
theorem zkL {p q r s:Int} (hq:q≠0) (hs:s≠0) (h:p*s=r*q):lowP p q=lowP r s∧lowQ p q=lowQ r s:=by
 refine zef (zdn hq) (zdn hs) (zed hq) (zed hs) ?_
 have a:=zbU (p:=p) hq
 have b:=zbU (p:=r) hs
 apply Int.eq_of_mul_eq_mul_right (a:=q*s) (Int.mul_ne_zero hq hs)
 calc lowP p q*lowQ r s*(q*s)=(lowP p q*q)*(lowQ r s*s):=by grind
  _=p*lowQ p q*(lowQ r s*s):=by rw[a]
  _=p*s*(lowQ p q*lowQ r s):=by grind
  _=r*q*(lowQ p q*lowQ r s):=by rw[h]
  _=r*lowQ r s*(lowQ p q*q):=by grind
  _=lowP r s*s*(lowQ p q*q):=by rw[b]
  _=lowP r s*lowQ p q*(q*s):=by grind
theorem zee {p q:Int} (hq:0<q) (c:Nat.gcd p.natAbs q.natAbs=1):lowP p q=p∧lowQ p q=q:=by
 unfold lowP lowQ gI
 rw[c,if_neg (by omega),if_neg (by omega)]
 exact⟨Int.ediv_one _,Int.ediv_one _⟩
theorem zfi {p q:Int} (h:q≠0):(lowP p q).natAbs≤p.natAbs:=by
 have h1:=(zdm (p:=p) h).1
 have h3:=zdj (p:=p) h
 have e1:(lowP p q).natAbs*(gI p q).natAbs=p.natAbs:=by rw[←Int.natAbs_mul,h1];split<;>omega
 rw[←e1]
 exact Nat.le_mul_of_pos_right _ (by omega)
theorem zfj {p q:Int} (h:q≠0):(lowQ p q).natAbs≤q.natAbs:=by
 have h1:=(zdm (p:=p) h).2
 have h3:=zdj (p:=p) h
 have e1:(lowQ p q).natAbs*(gI p q).natAbs=q.natAbs:=by rw[←Int.natAbs_mul,h1];split<;>omega
 rw[←e1]
 exact Nat.le_mul_of_pos_right _ (by omega)
end Go.Eng
namespace Go.Eng
structure FQ where
 p:WI
 q:WI
 q1:1≤q.v
 cop:Nat.gcd p.v.natAbs q.v.natAbs=1
theorem ziw {y:WI} (hy:1≤y.v):wlen (y.v-1).natAbs≤512:=by
 have h:=(zbH _).1 y.lim
 refine(zbH _).2 ?_
 unfold inR at *
 exact Nat.lt_of_le_of_lt (by omega) h
def FQ.l (f:FQ):WI:=⟨f.q.v-1,ziw f.q1⟩
noncomputable def fqP (f:FQ):PV:=.ag [.b (decide (f.p.v<0)),D f.p.v.natAbs,.b (decide (f.l.v<0)),D f.l.v.natAbs]
@[go_sem] theorem zqR (M:PM) (d:Nat) (f:FQ):fz M (d+1+1) (fqP f)=some (fqP f,[]):=_root_.id rfl
@[go_sem] theorem zma (f:FQ):(fqP f).cells=[.b (decide (f.p.v<0)),D f.p.v.natAbs,.b (decide (f.l.v<0)),D f.l.v.natAbs]:=_root_.id rfl
@[go_sem] theorem zo8 (f:FQ):PV.ag [.b (decide (f.p.v<0)),D f.p.v.natAbs,.b (decide (f.l.v<0)),D f.l.v.natAbs]=fqP f:=_root_.id rfl
theorem zj5 (x:WI) (e:Int):pf E0 37 [wiP x,.i .i64 e]=some (wiP x):=by
 refine zad (xf:=zuh) rfl (by simp[zuh]) ?_
 simp only[zuh]
 simp(disch:=omega)only[go_sem,seval,wqq]
theorem zcQ (x g:WI) (h:g.v≠0):∃q:WI,q.v=x.v/g.v∧pf E0 21 [wiP x,wiP g]=some (wiP q):=by
 have fd:=zk3 x g h
 refine⟨x.div g h,rfl,?_⟩
 refine zad (xf:=zuc) rfl (by simp[zuc]) ?_
 simp only[zuc]
 simp(disch:=omega)only[go_sem,seval,wqq,fd]
noncomputable def wi1:WI:=wiOf 1 (by decide)
theorem znJ:wi1.v=1:=rfl
theorem zcu (x y:WI):pf E0 20 [.lst [wiP x,wiP y]]=some (.tu [wiP (clip (x.v*y.v)),.i .i64 (lerr (x.v*y.v))]):=by
 refine zad (xf:=zt4) rfl (by simp[zt4]) ?_
 simp only[zt4]
 have f1:pf E0 34 [.i .i64 1]=some (wiP wi1):=zdP (n:=1) (by decide)
 have m1:pf E0 38 [wiP wi1,wiP x]=some (.tu [wiP x,.i .i64 0]):=by
  have h:=zhO wi1 x
  rw[znJ,Int.one_mul,zdl x.lim,zbA x.lim] at h
  exact h
 have m2:=zhO x y
 generalize wi1=w1 at *
 simp(disch:=omega)only[go_sem,seval,wqq,f1]
 refine zac ztW.eq_1 ?_
 simp(disch:=omega)only[go_sem,seval,wqq,m1]
 refine zac ztW.eq_1 ?_
 by_cases h:wlen (x.v*y.v).natAbs≤512
 ·have e:=zdl h
  rw[e] at m2 ⊢
  simp(disch:=omega)only[go_sem,seval,wqq,m2]
  refine zac ztW.eq_1 ?_
  simp(disch:=omega)only[go_sem,seval,wqq,m2]
 ·have e:=zfh h
  have e2:=ze5 h
  rw[e,e2] at m2 ⊢
  simp(disch:=omega)only[go_sem,seval,wqq,m2]
theorem zkA:Nat.gcd wi0.v.natAbs wi1.v.natAbs=1:=by decide
noncomputable def fq0:FQ:=⟨wi0,wi1,by decide,zkA⟩
theorem zqQ:fqP fq0=.ag [.b false,.lst [],.b false,.lst []]:=by
 have h1:D (0:Int).natAbs=.lst []:=zlV.symm
 show PV.ag [.b (decide ((0:Int)<0)),D (0:Int).natAbs,.b (decide ((1:Int)-1<0)),D ((1:Int)-1).natAbs]=_
 rw[show (1:Int)-1=0 by decide,h1];rfl
theorem zf9 (x y:WI) (hy:1≤y.v) (hc:Nat.gcd x.v.natAbs y.v.natAbs=1):pf E0 22 [wiP x,wiP y,.i .i64 0,.i .i64 0]=some (.tu [fqP ⟨x,y,hy,hc⟩,.i .i64 0]):=by
 refine zad (xf:=ztr) rfl (by simp[ztr]) ?_
 simp only[ztr]
 have f1:pf E0 34 [.i .i64 1]=some (wiP wi1):=zdP (n:=1) (by decide)
 have s1:=zk8 y wi1
 rw[znJ] at s1
 have m1:=zj5 (clip (y.v-1)) (lerr (y.v-1))
 have cv:=zdc (ziw hy)
 generalize lerr (y.v-1)=le at *
 generalize wi1=w1 at *
 have hq:fqP ⟨x,y,hy,hc⟩=.ag [.b (decide (x.v<0)),D x.v.natAbs,.b (decide ((clip (y.v-1)).v<0)),D (clip (y.v-1)).v.natAbs]:=by rw[cv];rfl
 rw[hq]
 generalize clip (y.v-1)=z at *
 simp(disch:=omega)only[go_sem,seval,wqq]
 refine zaH [4,5] rfl (by simp only[go_sem,seval]) ?_
 simp(disch:=omega)only[go_sem,seval,wqq,f1,s1,m1,zaz,zai]
theorem zhV (x y:WI) {e f:Int} (h:e≠0∨f≠0):pf E0 22 [wiP x,wiP y,.i .i64 e,.i .i64 f]=some (.tu [fqP fq0,.i .i64 4]):=by
 refine zad (xf:=ztr) rfl (by simp[ztr]) ?_
 simp only[ztr]
 rw[zqQ]
 by_cases he:e=0
 ·have hf:(f=0)=False:=by simp;rcases h with h|h<;>first|exact h|exact absurd he h
  have he:(e=0)=True:=by simp[he]
  simp(disch:=omega)only[go_sem,seval,wqq,he,hf]
 ·have he:(e=0)=False:=by simp[he]
  simp(disch:=omega)only[go_sem,seval,wqq,he]
theorem zhN (x y g:WI) (hg:g.v=gI x.v y.v) (hy:0<y.v):∃f:FQ,f.p.v=lowP x.v y.v∧f.q.v=lowQ x.v y.v∧∃a b:WI,pf E0 21 [wiP x,wiP g]=some (wiP a)∧pf E0 21 [wiP y,wiP g]=some (wiP b)∧pf E0 22 [wiP a,wiP b,.i .i64 0,.i .i64 0]=some (.tu [fqP f,.i .i64 0]):=by
 have gn:g.v≠0:=by rw[hg];exact zgB (by omega)
 obtain⟨a,ha,fa⟩:=zcQ x g gn
 obtain⟨b,hb,fb⟩:=zcQ y g gn
 have e1:a.v=lowP x.v y.v:=by rw[ha,hg];unfold lowP;rw[if_neg (by omega)]
 have e2:b.v=lowQ x.v y.v:=by rw[hb,hg];unfold lowQ;rw[if_neg (by omega)]
 have hq:1≤b.v:=by rw[e2];exact zdn (by omega)
 have hc:Nat.gcd a.v.natAbs b.v.natAbs=1:=by rw[e1,e2];exact zed (by omega)
 exact⟨⟨a,b,hq,hc⟩,e1,e2,a,b,fa,fb,zf9 a b hq hc⟩
theorem zgF (p q:Int) (h:q<0):lowP (-p) (-q)=lowP p q∧lowQ (-p) (-q)=lowQ p q:=by
 have h2:¬ -q<0:=by omega
 unfold lowP lowQ
 rw[zmA]
 simp only[h,h2,if_true,if_false,and_self]
theorem zhM (x y:WI) (h:y.v≠0):∃f:FQ,f.p.v=lowP x.v y.v∧f.q.v=lowQ x.v y.v∧pf E0 24 [wiP x,wiP y]=some (.tu [fqP f,.i .i64 0]):=by
 by_cases hn:y.v<0
 ·have hg:=zfm x.neg y.neg
  obtain⟨f,h1,h2,a,b,fa,fb,fl⟩:=zhN x.neg y.neg (x.neg.gcd y.neg) rfl (by show 0 < -y.v;omega)
  obtain⟨l1,l2⟩:=zgF x.v y.v hn
  refine⟨f,h1.trans l1,h2.trans l2,?_⟩
  generalize x.neg.gcd y.neg=g at *
  refine zad (xf:=ztx) rfl (by simp[ztx]) ?_
  simp only[ztx]
  have sy:=zbK y
  have sc:cmpI y.v 0 = -1:=by unfold cmpI;rw[if_pos hn]
  rw[sc] at sy
  have n1:=zjb x
  have n2:=zjb y
  generalize x.neg=xn at *
  generalize y.neg=yn at *
  simp(disch:=omega)only[go_sem,seval,wqq,sy]
  refine zaH [3] rfl (by simp only[go_sem,seval]) ?_
  simp(disch:=omega)only[go_sem,seval,wqq,n1,n2,hg]
  refine zaH [3,6] rfl (by simp only[go_sem,seval]) ?_
  simp(disch:=omega)only[go_sem,seval,wqq,fa,fb,fl]
 ·have hg:=zfm x y
  obtain⟨f,h1,h2,a,b,fa,fb,fl⟩:=zhN x y (x.gcd y) rfl (by omega)
  refine⟨f,h1,h2,?_⟩
  generalize x.gcd y=g at *
  refine zad (xf:=ztx) rfl (by simp[ztx]) ?_
  simp only[ztx]
  have sy:=zbK y
  have sc:cmpI y.v 0=1:=by unfold cmpI;rw[if_neg hn,if_pos (by omega)]
  rw[sc] at sy
  simp(disch:=omega)only[go_sem,seval,wqq,sy,hg]
  refine zaH [3,6] rfl (by simp only[go_sem,seval]) ?_
  simp(disch:=omega)only[go_sem,seval,wqq,fa,fb,fl]
end Go.Eng
namespace Go.Eng
theorem znf (f:FQ):pf E0 64 [fqP f]=some (wiP f.p):=by
 refine zad (xf:=ztg) rfl (by simp[ztg]) ?_
 simp only[ztg]
 simp(disch:=omega)only[go_sem,seval,wqq]
theorem zdr (f:FQ):pf E0 19 [fqP f]=some (wiP f.q):=by
 refine zad (xf:=zth) rfl (by simp[zth]) ?_
 simp only[zth]
 have f1:pf E0 34 [.i .i64 1]=some (wiP wi1):=zdP (n:=1) (by decide)
 have s1:=zja f.l wi1
 have e:f.l.v+wi1.v=f.q.v:=by show f.q.v-1+1=f.q.v;omega
 have hc:clip f.q.v=f.q:=zbA f.q.lim
 rw[e,hc] at s1
 have m1:=zj5 f.q (lerr f.q.v)
 generalize lerr f.q.v=le at *
 generalize wi1=w1 at *
 simp(disch:=omega)only[go_sem,seval,wqq]
 refine zaf [3] rfl ?_ ?_
 ·simp(disch:=omega)only[go_sem,seval,wqq,f1,s1,m1]
  exact⟨_,rfl,rfl⟩
 simp(disch:=omega)only[go_sem,seval,wqq,f1,s1,m1]
theorem zlb {p q:Int} (hp:Fits64 p) (hq:Fits64 q) (h:q≠0):∃f:FQ,f.p.v=lowP p q∧f.q.v=lowQ p q∧pf E0 17 [.i .i64 p,.i .i64 q]=some (.tu [fqP f,.i .i64 0]):=by
 obtain⟨x,hx,fx⟩:=zhh hp
 obtain⟨y,hy,fy⟩:=zhh hq
 obtain⟨f,h1,h2,fm⟩:=zhM x y (by rw[hy];exact h)
 rw[hx,hy] at h1 h2
 refine⟨f,h1,h2,?_⟩
 refine zad (xf:=zuG) rfl (by simp[zuG]) ?_
 simp only[zuG]
 simp(disch:=omega)only[go_sem,seval,wqq,fx,fy,fm]
theorem zkC (x y:WI):(x.gcd y).v=gI x.v y.v:=rfl
@[go_sem] theorem zph (x y:WI):group 2 2 [.b (decide (x.v<0)),Dw (wlen x.v.natAbs) x.v.natAbs,.b (decide (y.v<0)),Dw (wlen y.v.natAbs) y.v.natAbs]=[wiP x,wiP y]:=_root_.id rfl
theorem zhP (a b:FQ) {g s t cx cy cs cd:WI} {ex ey es ed:Int} (hg:pf E0 18 [wiP a.q,wiP b.q]=some (wiP g)) (fs:pf E0 21 [wiP b.q,wiP g]=some (wiP s)) (ft:pf E0 21 [wiP a.q,wiP g]=some (wiP t))
  (nx:pf E0 20 [.lst [wiP a.p,wiP s]]=some (.tu [wiP cx,.i .i64 ex])) (ny:pf E0 20 [.lst [wiP b.p,wiP t]]=some (.tu [wiP cy,.i .i64 ey])) (ns:pf E0 23 [wiP cx,wiP cy]=some (.tu [wiP cs,.i .i64 es]))
  (nd:pf E0 20 [.lst [wiP t,wiP b.q]]=some (.tu [wiP cd,.i .i64 ed])) (f:FQ) (e:Int)
  (hR:(ex=0∧ey=0∧es=0∧ed=0∧pf E0 24 [wiP cs,wiP cd]=some (.tu [fqP f,.i .i64 e]))∨(¬(ex=0∧ey=0∧es=0∧ed=0)∧f=fq0∧e=4)) :
  pf E0 9 [fqP a,fqP b]=some (.tu [fqP f,.i .i64 e]):=by
 have da:=zdr a
 have db:=zdr b
 refine zad (xf:=zuD) rfl (by simp[zuD]) ?_
 simp only[zuD]
 simp(disch:=omega)only[go_sem,seval,wqq]
 refine zaH [3] rfl (by simp only[go_sem,seval]) ?_
 simp(disch:=omega)only[go_sem,seval,wqq,da,db,hg]
 refine zaf [21,6] rfl ?_ ?_
 ·simp(disch:=omega)only[go_sem,seval,wqq,db,fs,nx,zaz,zai]
  exact⟨_,rfl,rfl⟩
 simp(disch:=omega)only[go_sem,seval,wqq,db,fs,nx,zaz,zai]
 refine zaf [32,6] rfl ?_ ?_
 ·simp(disch:=omega)only[go_sem,seval,wqq,da,ft,ny,zaz,zai]
  exact⟨_,rfl,rfl⟩
 simp(disch:=omega)only[go_sem,seval,wqq,da,ft,ny,ns,zaz,zai]
 refine zaH [6,3] rfl (by simp only[go_sem,seval]) ?_
 rcases hR with⟨h1,h2,h3,h4,hM⟩|⟨hn,hf,he⟩
 ·subst h1 h2 h3 h4
  simp(disch:=omega)only[go_sem,seval,wqq,da,db,ft,nd,hM,zaz,zai]
 ·subst hf he
  rw[zqQ]
  by_cases h1:ex=0
  ·by_cases h2:ey=0
   ·by_cases h3:es=0
    ·have h4:(ed=0)=False:=by simp;exact fun q=>hn ⟨h1,h2,h3,q⟩
     subst h1 h2 h3
     simp(disch:=omega)only[go_sem,seval,wqq,da,db,ft,nd,h4,zaz,zai]
    ·have h3:(es=0)=False:=by simp[h3]
     subst h1 h2
     simp(disch:=omega)only[go_sem,seval,wqq,da,db,ft,nd,h3,zaz,zai]
   ·have h2:(ey=0)=False:=by simp[h2]
    subst h1
    simp(disch:=omega)only[go_sem,seval,wqq,da,db,ft,nd,h2,zaz,zai]
  ·have h1:(ex=0)=False:=by simp[h1]
   simp(disch:=omega)only[go_sem,seval,wqq,da,db,ft,nd,h1,zaz,zai]
def adX (a b:FQ):Int:=a.p.v*(b.q.v/gI a.q.v b.q.v)
def adY (a b:FQ):Int:=b.p.v*(a.q.v/gI a.q.v b.q.v)
def adD (a b:FQ):Int:=a.q.v/gI a.q.v b.q.v*b.q.v
def adOk (a b:FQ):Prop:=inR (adX a b).natAbs∧inR (adY a b).natAbs∧inR (adX a b+adY a b).natAbs∧inR (adD a b).natAbs
theorem zjF (a b:FQ):adD a b≠0:=by
 have ha:=a.q1
 have hb:=b.q1
 have h1:a.q.v/gI a.q.v b.q.v*gI a.q.v b.q.v=a.q.v:=Int.ediv_mul_cancel (zbT _ _)
 have h2:a.q.v/gI a.q.v b.q.v≠0:=fun q=>by rw[q] at h1;omega
 exact Int.mul_ne_zero h2 (by omega)
theorem zdk {z:Int} (h:inR z.natAbs):(clip z).v=z∧lerr z=0:=⟨zdc ((zbH _).2 h),zdl ((zbH _).2 h)⟩
theorem zfe {z:Int} (h:lerr z=0):inR z.natAbs:=by
 by_cases q:wlen z.natAbs≤512
 ·exact(zbH _).1 q
 ·rw[zfh q] at h;cases h
theorem znd (a b:FQ):(adOk a b→∃f:FQ,f.p.v=lowP (adX a b+adY a b) (adD a b)∧f.q.v=lowQ (adX a b+adY a b) (adD a b)∧pf E0 9 [fqP a,fqP b]=some (.tu [fqP f,.i .i64 0])) ∧
  (¬adOk a b→pf E0 9 [fqP a,fqP b]=some (.tu [fqP fq0,.i .i64 4])):=by
 have hg:=zfm a.q b.q
 have gv:=zkC a.q b.q
 have gn:(a.q.gcd b.q).v≠0:=by rw[gv];exact zgB (by have:=b.q1;omega)
 obtain⟨s,hs,fs⟩:=zcQ b.q (a.q.gcd b.q) gn
 obtain⟨t,ht,ft⟩:=zcQ a.q (a.q.gcd b.q) gn
 rw[gv] at hs ht
 have nx:=zcu a.p s
 have ny:=zcu b.p t
 have nd:=zcu t b.q
 have eX:a.p.v*s.v=adX a b:=by rw[hs];rfl
 have eY:b.p.v*t.v=adY a b:=by rw[ht];rfl
 have eD:t.v*b.q.v=adD a b:=by rw[ht];rfl
 rw[eX] at nx
 rw[eY] at ny
 rw[eD] at nd
 have ns:=zja (clip (adX a b)) (clip (adY a b))
 constructor
 ·rintro⟨r1,r2,r3,r4⟩
  obtain⟨c1,l1⟩:=zdk r1
  obtain⟨c2,l2⟩:=zdk r2
  obtain⟨c3,l3⟩:=zdk r3
  obtain⟨c4,l4⟩:=zdk r4
  rw[c1,c2] at ns
  obtain⟨f,h1,h2,fm⟩:=zhM (clip (adX a b+adY a b)) (clip (adD a b)) (by rw[c4];exact zjF a b)
  rw[c3,c4] at h1 h2
  exact⟨f,h1,h2,zhP a b hg fs ft nx ny ns nd f 0 (.inl ⟨l1,l2,l3,l4,fm⟩)⟩
 ·intro hn
  refine zhP a b hg fs ft nx ny ns nd fq0 4 (.inr ⟨fun ⟨l1,l2,l3,l4⟩=>hn ?_,rfl,rfl⟩)
  have r1:=zfe l1
  have r2:=zfe l2
  rw[(zdk r1).1,(zdk r2).1] at l3
  exact⟨r1,r2,zfe l3,zfe l4⟩
end Go.Eng
namespace Go.Eng
def FQ.neg (f:FQ):FQ:=⟨f.p.neg,f.q,f.q1,by show Nat.gcd (-f.p.v).natAbs f.q.v.natAbs=1;rw[Int.natAbs_neg];exact f.cop⟩
theorem zlc (a:FQ):pf E0 67 [fqP a]=some (.i .i64 (cmpI a.p.v 0)):=by
 refine zad (xf:=zug) rfl (by simp[zug]) ?_
 simp only[zug]
 simp(disch:=omega)only[go_sem,seval,wqq]
theorem zhR (a b:FQ) {g h u v w z cp cq:WI} {ep eq:Int} (f:FQ) (e:Int) (hg:pf E0 18 [wiP a.p,wiP b.q]=some (wiP g)) (hh:pf E0 18 [wiP b.p,wiP a.q]=some (wiP h))
  (fu:pf E0 21 [wiP a.p,wiP g]=some (wiP u)) (fv:pf E0 21 [wiP b.p,wiP h]=some (wiP v)) (n1:pf E0 20 [.lst [wiP u,wiP v]]=some (.tu [wiP cp,.i .i64 ep]))
  (fw:pf E0 21 [wiP a.q,wiP h]=some (wiP w)) (fz':pf E0 21 [wiP b.q,wiP g]=some (wiP z)) (n2:pf E0 20 [.lst [wiP w,wiP z]]=some (.tu [wiP cq,.i .i64 eq]))
  (fl:pf E0 22 [wiP cp,wiP cq,.i .i64 ep,.i .i64 eq]=some (.tu [fqP f,.i .i64 e])):pf E0 8 [fqP a,fqP b]=some (.tu [fqP f,.i .i64 e]):=by
 have da:=zdr a
 have db:=zdr b
 refine zad (xf:=zuE) rfl (by simp[zuE]) ?_
 simp only[zuE]
 simp(disch:=omega)only[go_sem,seval,wqq]
 refine zaf [12,17,2] rfl ?_ ?_
 ·simp(disch:=omega)only[go_sem,seval,wqq,da,db,hg,hh]
  exact⟨_,rfl,rfl⟩
 simp(disch:=omega)only[go_sem,seval,wqq,da,db,hg,hh]
 refine zaf [27,7] rfl ?_ ?_
 ·simp(disch:=omega)only[go_sem,seval,wqq,fu,fv,n1,zaz,zai]
  exact⟨_,rfl,rfl⟩
 simp(disch:=omega)only[go_sem,seval,wqq,fu,fv,n1,zaz,zai]
 refine zaH [7,3,6] rfl (by simp only[go_sem,seval]) ?_
 simp(disch:=omega)only[go_sem,seval,wqq,da,db,fw,fz',n2,fl,zaz,zai]
end Go.Eng
namespace Go.Eng
theorem zg5 {p s:Int} (hs:s≠0):Nat.Coprime (p/gI p s).natAbs (s/gI p s).natAbs:=by
 have g:=zdj (p:=p) hs
 have e1:(p/gI p s).natAbs*(gI p s).natAbs=p.natAbs:=by rw[←Int.natAbs_mul,Int.ediv_mul_cancel (zbT p s)]
 have e2:(s/gI p s).natAbs*(gI p s).natAbs=s.natAbs:=by rw[←Int.natAbs_mul,Int.ediv_mul_cancel (zcb p s)]
 have e3:(gI p s).natAbs=Nat.gcd p.natAbs s.natAbs:=Int.natAbs_natCast _
 have e4:=Nat.gcd_mul_right (p/gI p s).natAbs (gI p s).natAbs (s/gI p s).natAbs
 rw[e1,e2,←e3] at e4
 have:0<(gI p s).natAbs:=by omega
 exact Nat.eq_of_mul_eq_mul_right this (by rw[Nat.one_mul];exact e4.symm)
theorem zkM {p q r s:Int} (hq:0<q) (hs:0<s) (c1:Nat.gcd p.natAbs q.natAbs=1) (c2:Nat.gcd r.natAbs s.natAbs=1) :
  p/gI p s*(r/gI r q)=lowP (p*r) (q*s)∧q/gI r q*(s/gI p s)=lowQ (p*r) (q*s)∧0<q/gI r q*(s/gI p s)∧Nat.gcd (p/gI p s*(r/gI r q)).natAbs (q/gI r q*(s/gI p s)).natAbs=1:=by
 have g1:=zdj (p:=p) (q:=s) (by omega)
 have g2:=zdj (p:=r) (q:=q) (by omega)
 have k1:=zg5 (p:=p) (s:=s) (by omega)
 have k2:=zg5 (p:=r) (s:=q) (by omega)
 have a1:p/gI p s*gI p s=p:=Int.ediv_mul_cancel (zbT p s)
 have a2:s/gI p s*gI p s=s:=Int.ediv_mul_cancel (zcb p s)
 have a3:r/gI r q*gI r q=r:=Int.ediv_mul_cancel (zbT r q)
 have a4:q/gI r q*gI r q=q:=Int.ediv_mul_cancel (zcb r q)
 generalize gI p s=g at *
 generalize gI r q=h at *
 generalize p/g=u at *
 generalize s/g=z at *
 generalize r/h=v at *
 generalize q/h=w at *
 have z0:0<z:=Int.pos_of_mul_pos_left (by rw[a2];exact hs) g1
 have w0:0<w:=Int.pos_of_mul_pos_left (by rw[a4];exact hq) g2
 have du:u.natAbs∣p.natAbs:=Int.natAbs_dvd_natAbs.2 ⟨g,a1.symm⟩
 have dw:w.natAbs∣q.natAbs:=Int.natAbs_dvd_natAbs.2 ⟨h,a4.symm⟩
 have dv:v.natAbs∣r.natAbs:=Int.natAbs_dvd_natAbs.2 ⟨h,a3.symm⟩
 have dz:z.natAbs∣s.natAbs:=Int.natAbs_dvd_natAbs.2 ⟨g,a2.symm⟩
 have k3:Nat.Coprime u.natAbs w.natAbs:=Nat.Coprime.coprime_dvd_left du (Nat.Coprime.coprime_dvd_right dw c1)
 have k4:Nat.Coprime v.natAbs z.natAbs:=Nat.Coprime.coprime_dvd_left dv (Nat.Coprime.coprime_dvd_right dz c2)
 have hc:Nat.gcd (u*v).natAbs (w*z).natAbs=1:=by
  rw[Int.natAbs_mul,Int.natAbs_mul]
  exact Nat.Coprime.mul_left (Nat.Coprime.mul_right k3 k1) (Nat.Coprime.mul_right k2 k4)
 have hp:0<w*z:=Int.mul_pos w0 z0
 have hx:q*s≠0:=Int.mul_ne_zero (by omega) (by omega)
 have cr:=zbU (p:=p*r) hx
 obtain⟨e1,e2⟩:=zef (p:=u*v) (q:=w*z) hp (zdn hx) hc (zed hx) (by
  apply Int.eq_of_mul_eq_mul_right (a:=q*s) hx
  have:u*v*(q*s)=p*r*(w*z):=by rw[←a1,←a2,←a3,←a4];grind
  calc u*v*lowQ (p*r) (q*s)*(q*s)=u*v*(q*s)*lowQ (p*r) (q*s):=by grind
   _=p*r*(w*z)*lowQ (p*r) (q*s):=by rw[this]
   _=p*r*lowQ (p*r) (q*s)*(w*z):=by grind
   _=lowP (p*r) (q*s)*(q*s)*(w*z):=by rw[cr]
   _=lowP (p*r) (q*s)*(w*z)*(q*s):=by grind)
 exact⟨e1,e2,hp,hc⟩
def muP (a b:FQ):Int:=lowP (a.p.v*b.p.v) (a.q.v*b.q.v)
def muQ (a b:FQ):Int:=lowQ (a.p.v*b.p.v) (a.q.v*b.q.v)
theorem zj4 (a b:FQ):(inR (muP a b).natAbs∧inR (muQ a b).natAbs→∃f:FQ,f.p.v=muP a b∧f.q.v=muQ a b∧pf E0 8 [fqP a,fqP b]=some (.tu [fqP f,.i .i64 0])) ∧
  (¬(inR (muP a b).natAbs∧inR (muQ a b).natAbs)→pf E0 8 [fqP a,fqP b]=some (.tu [fqP fq0,.i .i64 4])):=by
 have qa:=a.q1
 have qb:=b.q1
 obtain⟨m1,m2,m3,m4⟩:=zkM (p:=a.p.v) (q:=a.q.v) (r:=b.p.v) (s:=b.q.v) (by omega) (by omega) a.cop b.cop
 have hg:=zfm a.p b.q
 have hh:=zfm b.p a.q
 have gv:=zkC a.p b.q
 have hv:=zkC b.p a.q
 have gn:(a.p.gcd b.q).v≠0:=by rw[gv];exact zgB (by omega)
 have hn:(b.p.gcd a.q).v≠0:=by rw[hv];exact zgB (by omega)
 obtain⟨u,eu,fu⟩:=zcQ a.p _ gn
 obtain⟨v,ev,fv⟩:=zcQ b.p _ hn
 obtain⟨w,ew,fw⟩:=zcQ a.q _ hn
 obtain⟨z,ez,fz'⟩:=zcQ b.q _ gn
 rw[gv] at eu ez
 rw[hv] at ev ew
 have n1:=zcu u v
 have n2:=zcu w z
 have e1:u.v*v.v=muP a b:=by rw[eu,ev];exact m1
 have e2:w.v*z.v=muQ a b:=by rw[ew,ez];exact m2
 rw[m1,m2] at m4
 rw[m2] at m3
 have m3:0<muQ a b:=m3
 have m4:Nat.gcd (muP a b).natAbs (muQ a b).natAbs=1:=m4
 rw[e1] at n1
 rw[e2] at n2
 constructor
 ·rintro⟨r1,r2⟩
  obtain⟨c1,l1⟩:=zdk r1
  obtain⟨c2,l2⟩:=zdk r2
  have fl:=zf9 (clip (muP a b)) (clip (muQ a b)) (by rw[c2];omega) (by rw[c1,c2];exact m4)
  rw[l1] at n1
  rw[l2] at n2
  exact⟨⟨clip (muP a b),clip (muQ a b),by rw[c2];omega,by rw[c1,c2];exact m4⟩,c1,c2,zhR a b _ 0 hg hh fu fv n1 fw fz' n2 fl⟩
 ·intro hno
  refine zhR a b fq0 4 hg hh fu fv n1 fw fz' n2 (zhV _ _ ?_)
  by_cases l1:lerr (muP a b)=0
  ·right
   intro l2
   exact hno ⟨zfe l1,zfe l2⟩
  ·exact .inl l1
end Go.Eng
namespace Go.Eng
theorem zhQ (a b f r:FQ) {e:Int} (h:pf E0 24 [wiP b.q,wiP b.p]=some (.tu [fqP f,.i .i64 0])) (hr:pf E0 8 [fqP a,fqP f]=some (.tu [fqP r,.i .i64 e])):pf E0 65 [fqP a,fqP b]=some (.tu [fqP r,.i .i64 e]):=by
 have db:=zdr b
 refine zad (xf:=zuF) rfl (by simp[zuF]) ?_
 simp only[zuF]
 simp(disch:=omega)only[go_sem,seval,wqq]
 refine zaf [11] rfl ?_ ?_
 ·simp(disch:=omega)only[go_sem,seval,wqq,db,h]
  exact⟨_,rfl,rfl⟩
 simp(disch:=omega)only[go_sem,seval,wqq,db,h,hr]
theorem zks {p q r s:Int} (hr:r≠0) (hs:0<s) (hq:0<q):lowP (p*lowP s r) (q*lowQ s r)=lowP (p*s) (q*r)∧lowQ (p*lowP s r) (q*lowQ s r)=lowQ (p*s) (q*r):=by
 have h1:=zdn (p:=s) hr
 refine zkL (Int.mul_ne_zero (by omega) (by omega)) (Int.mul_ne_zero (by omega) hr) ?_
 have h2:=zbU (p:=s) hr
 calc p*lowP s r*(q*r)=p*q*(lowP s r*r):=by grind
  _=p*q*(s*lowQ s r):=by rw[h2]
  _=p*s*(q*lowQ s r):=by grind
def dvP (a b:FQ):Int:=lowP (a.p.v*b.q.v) (a.q.v*b.p.v)
def dvQ (a b:FQ):Int:=lowQ (a.p.v*b.q.v) (a.q.v*b.p.v)
theorem zne (a b:FQ) (h:b.p.v≠0):(inR (dvP a b).natAbs∧inR (dvQ a b).natAbs→∃f:FQ,f.p.v=dvP a b∧f.q.v=dvQ a b∧pf E0 65 [fqP a,fqP b]=some (.tu [fqP f,.i .i64 0])) ∧
  (¬(inR (dvP a b).natAbs∧inR (dvQ a b).natAbs)→pf E0 65 [fqP a,fqP b]=some (.tu [fqP fq0,.i .i64 4])):=by
 have qa:=a.q1
 have qb:=b.q1
 obtain⟨f,f1,f2,fm⟩:=zhM b.q b.p h
 obtain⟨l1,l2⟩:=zks (p:=a.p.v) (q:=a.q.v) (r:=b.p.v) (s:=b.q.v) h (by omega) (by omega)
 have e1:muP a f=dvP a b:=by unfold muP dvP;rw[f1,f2];exact l1
 have e2:muQ a f=dvQ a b:=by unfold muQ dvQ;rw[f1,f2];exact l2
 have hm:=zj4 a f
 rw[e1,e2] at hm
 refine⟨fun hR=>?_,fun hn=>zhQ a b f fq0 fm (hm.2 hn)⟩
 obtain⟨r,r1,r2,hr⟩:=hm.1 hR
 exact⟨r,r1,r2,zhQ a b f r fm hr⟩
end Go.Eng
namespace Go.Eng
noncomputable def ftx (p q:Int):List UInt8:=if q=1 then decI p else decI p++[47]++decI q
theorem zdF (x:WI):(decI x.v).length≤1000000:=by
 have h:=ziX ((zbH _).1 x.lim)
 have h1:(dec x.v.natAbs).length≤4956+1:=by
  unfold dec;split
  ·simp
  ·rw[zcB];omega
 unfold decI;split<;>(try simp only[List.length_cons])<;>omega
theorem zhS (f:FQ):pf E0 16 [fqP f]=some (.s (ftx f.p.v f.q.v)):=by
 have df:=zdr f
 have s1:=znb f.p
 have s2:=znb f.q
 have sg:=zbK f.l
 have l1:=zdF f.p
 have l2:=zdF f.q
 have hl:f.l.v=f.q.v-1:=rfl
 have q1:=f.q1
 refine zad (xf:=ztd) rfl (by simp[ztd]) ?_
 simp only[ztd]
 unfold ftx
 by_cases h:f.q.v=1
 ·rw[if_pos h]
  have sc:(cmpI f.l.v 0=0)=True:=by rw[hl,h];simp[cmpI]
  simp(disch:=omega)only[go_sem,seval,wqq,sg,sc,s1]
 ·rw[if_neg h]
  have sc:(cmpI f.l.v 0=0)=False:=by
   have:cmpI f.l.v 0=1:=by unfold cmpI;rw[if_neg (by omega),if_pos (by omega)]
   rw[this];simp
  have a1:binP .add (.s (decI f.p.v)) (.s [47])=some (.s (decI f.p.v++[47])):=zd0 _ _ (by simp only[List.length_cons,List.length_nil];omega)
  have a2:binP .add (.s (decI f.p.v++[47])) (.s (decI f.q.v))=some (.s (decI f.p.v++[47]++decI f.q.v)):=zd0 _ _ (by simp only[List.length_append,List.length_cons,List.length_nil];omega)
  simp(disch:=omega)only[go_sem,seval,wqq,sg,sc]
  refine zaH [1] rfl (by simp only[go_sem,seval]) ?_
  simp(disch:=omega)only[go_sem,seval,wqq,df,s1,s2,a1,a2]
end Go.Eng
namespace Go.Eng
end Go.Eng
namespace Go.Eng
end Go.Eng
namespace Go.Eng
end Go.Eng
namespace Go.Eng
end Go.Eng
namespace Go.Eng
def FQ.is (f:FQ) (n d:Int):Prop:=f.p.v*d=n*f.q.v
theorem zhr {f:FQ} {n d:Int} (h:d≠0) (h1:f.p.v=lowP n d) (h2:f.q.v=lowQ n d):f.is n d:=by
 unfold FQ.is;rw[h1,h2];exact zbU h
theorem zfg (f:FQ):f.is f.p.v f.q.v:=rfl
theorem ziY {f:FQ} {n d:Int} (h:f.is n d) (k:Int):f.is (n*k) (d*k):=by
 unfold FQ.is at *
 rw[←Int.mul_assoc,h];grind
def fsz (n:Nat) (f:FQ):Prop:=tlen f.p.v.natAbs≤n∧tlen f.q.v.natAbs≤n
theorem zgr {a g:Int} (h:g∣a):tlen (a/g).natAbs≤tlen a.natAbs:=by
 refine za0 ?_
 rw[Int.natAbs_ediv_of_dvd h];exact Nat.div_le_self _ _
theorem zlZ (a b:FQ) {n m:Nat} (ha:fsz n a) (hb:fsz m b) (h:n+m+1<1230):∃f:FQ,pf E0 9 [fqP a,fqP b]=some (.tu [fqP f,.i .i64 0])∧f.is (a.p.v*b.q.v+b.p.v*a.q.v) (a.q.v*b.q.v)∧fsz (n+m+1) f:=by
 obtain⟨a1,a2⟩:=ha
 obtain⟨b1,b2⟩:=hb
 have qa:=a.q1
 have qb:=b.q1
 have k1:=zgr (zcb a.q.v b.q.v)
 have k2:=zgr (zbT a.q.v b.q.v)
 have d1:b.q.v/gI a.q.v b.q.v*gI a.q.v b.q.v=b.q.v:=Int.ediv_mul_cancel (zcb _ _)
 have d2:a.q.v/gI a.q.v b.q.v*gI a.q.v b.q.v=a.q.v:=Int.ediv_mul_cancel (zbT _ _)
 have t1:tlen (adX a b).natAbs≤n+m:=Nat.le_trans (zbi _ _) (by omega)
 have t2:tlen (adY a b).natAbs≤n+m:=Nat.le_trans (zbi _ _) (by omega)
 have t3:tlen (adD a b).natAbs≤n+m:=Nat.le_trans (zbi _ _) (by omega)
 have t4:tlen (adX a b+adY a b).natAbs≤n+m+1:=Nat.le_trans (zio _ _) (by omega)
 have dn:=zjF a b
 obtain⟨f,h1,h2,hf⟩:=(znd a b).1 ⟨zcO (by omega),zcO (by omega),zcO (by omega),zcO (by omega)⟩
 refine⟨f,hf,?_,?_,?_⟩
 ·have hs:=ziY (zhr dn h1 h2) (gI a.q.v b.q.v)
  have e1:(adX a b+adY a b)*gI a.q.v b.q.v=a.p.v*b.q.v+b.p.v*a.q.v:=by
   unfold adX adY
   rw[Int.add_mul,Int.mul_assoc,Int.mul_assoc,d1,d2]
  have e2:adD a b*gI a.q.v b.q.v=a.q.v*b.q.v:=by
   unfold adD
   rw[Int.mul_right_comm,d2]
  rwa [e1,e2] at hs
 ·rw[h1];exact Nat.le_trans (za0 (zfi dn)) t4
 ·rw[h2];exact Nat.le_trans (za0 (zfj dn)) (by omega)
theorem zmL (a b:FQ) {n m:Nat} (ha:fsz n a) (hb:fsz m b) (h:n+m<1230):∃f:FQ,pf E0 8 [fqP a,fqP b]=some (.tu [fqP f,.i .i64 0])∧f.is (a.p.v*b.p.v) (a.q.v*b.q.v)∧fsz (n+m) f:=by
 obtain⟨a1,a2⟩:=ha
 obtain⟨b1,b2⟩:=hb
 have qa:=a.q1
 have qb:=b.q1
 have dn:a.q.v*b.q.v≠0:=Int.mul_ne_zero (by omega) (by omega)
 have t1:tlen (muP a b).natAbs≤n+m:=Nat.le_trans (za0 (zfi dn)) (Nat.le_trans (zbi _ _) (by omega))
 have t2:tlen (muQ a b).natAbs≤n+m:=Nat.le_trans (za0 (zfj dn)) (Nat.le_trans (zbi _ _) (by omega))
 obtain⟨f,h1,h2,hf⟩:=(zj4 a b).1 ⟨zcO (by omega),zcO (by omega)⟩
 exact⟨f,hf,zhr dn h1 h2,by rw[h1];exact t1,by rw[h2];exact t2⟩
theorem zjO (a b:FQ) (hb0:b.p.v≠0) {n m:Nat} (ha:fsz n a) (hb:fsz m b) (h:n+m<1230):∃f:FQ,pf E0 65 [fqP a,fqP b]=some (.tu [fqP f,.i .i64 0])∧f.is (a.p.v*b.q.v) (a.q.v*b.p.v)∧fsz (n+m) f:=by
 obtain⟨a1,a2⟩:=ha
 obtain⟨b1,b2⟩:=hb
 have qa:=a.q1
 have dn:a.q.v*b.p.v≠0:=Int.mul_ne_zero (by omega) hb0
 have t1:tlen (dvP a b).natAbs≤n+m:=Nat.le_trans (za0 (zfi dn)) (Nat.le_trans (zbi _ _) (by omega))
 have t2:tlen (dvQ a b).natAbs≤n+m:=Nat.le_trans (za0 (zfj dn)) (Nat.le_trans (zbi _ _) (by omega))
 obtain⟨f,h1,h2,hf⟩:=(zne a b hb0).1 ⟨zcO (by omega),zcO (by omega)⟩
 exact⟨f,hf,zhr dn h1 h2,by rw[h1];exact t1,by rw[h2];exact t2⟩
end Go.Eng
namespace Go.Eng
def b2sP (M:PM):PV→Option (PV×PM)
 | .nl=>some (.s [],M)
 | .sl n off ln _ z =>
  if ln=0 then some (.s [],M) else
  if z=1 then (match (PM.rd M n off ln).bind bytesP with|some l=>some (.s l,M)|none=>none) else none
 | .lst xs=>match bytesP xs with|some l=>some (.s l,M)|none=>none
 | _=>none
@[go_sem] theorem zrV {E:PEnv} {F:PFin} {d:Option Nat} {af:List Nat} {l:List XOper} {ks:List KI} {fr:PFr} {M:PM} (x:X):WL E F (⟨d,.b2s x,af,none⟩::l) ks fr M=WV E F (b2sP M (x.pv E.glob fr)) d l ks fr:=by
 rw[zaL]
 have:XO.pst E.glob (pcl E) fr M (.b2s x)=b2sP M (x.pv E.glob fr):=by
  simp only[XO.pst,XO.pev]
  cases x.pv E.glob fr<;>rfl
 rw[this]
def isPR:PV→Bool
 | .p _ _=>true
 | .sl _ _ _ _ _=>true
 | .tu _=>true
 | _=>false
def slotIn3 (E:PEnv) (ops:List XOper) (L:List Nat) (c:Nat×Nat):Bool :=
 match ops[c.1]?,ops[c.2]? with
 | some a,some b =>
  match a.op.looks with
  | .t s=>a.op.cls==2&&L.contains s&&calmOp E b.op
  | _=>false
 | _,_=>false
end Go.Eng
namespace Go.Eng
def apP:PV→PV→Bool
 | .p a _,.p b _ => !(Nat.beq a b)
 | _,_=>false
def slotSt (ops:List XOper) (L R:List Nat) (c:Nat×Nat):Bool :=
 match ops[c.1]?,ops[c.2]? with
 | some a,some b =>
  match a.op,b.op with
  | .load _ _ (.t s),.store _ (.t r) _=>L.contains s&&R.contains r&&fixedX ops c.2 (.t r)
  | _,_=>false
 | _,_=>false
theorem zjz {E:PEnv} {F:PFin} {ops:List XOper} {chk:List (Nat×Nat)} {ks:List KI} {fr:PFr} {M:PM} (L R:List Nat) (hL:chk.all (fun c=>calmC E ops c || slotIn2 E ops L c || slotSt ops L R c)=true)
  (hr:WL E ⟨(0::0::(L++R)).map XR.tmp,fun w _=>∃l,w=.tu l∧((l.drop 2).take L.length).all (fun x=>isPP x&&((l.drop 2).drop L.length).all (apP x))=true⟩ ops [] fr M) (w:WL E F ops ks fr M):WK E F (.drw ops chk) ks fr M:=by
 refine zb5 (fun fr2 Ms hT=>?_) w
 have hp:∀s∈L,isPP (fr2 s)=true∧∀r∈R,apP (fr2 s) (fr2 r)=true:=by
  obtain⟨lf,q,fr3,M3,vs,e,h1,h2,l,h3,h4⟩:=hr
  simp only[Option.bind_eq_some_iff,unw] at e
  obtain⟨⟨fr4,M4⟩,e1,e2⟩:=e
  simp only[Option.some.injEq,Prod.mk.injEq] at e2
  obtain⟨_,e3,e4⟩:=e2
  rw[←e3,←e4] at h2
  obtain⟨Ms',g1,g2⟩:=zbl e1
  rw[g1] at hT
  cases hT
  have hres:∀(f:PFr) (N:PM) (l:List Nat),pRes f N (l.map XR.tmp)=some (l.map f):=fun f N l=>by
   induction l with
   | nil=>rfl
   | cons a l ih=>simp only[List.map_cons,pRes,pResOne,ih]
  rw[hres] at h2
  cases h2
  simp only[List.map_cons,packP] at h3
  cases h3
  have h5:(((L++R).map fr2).take L.length).all (fun x=>isPP x&&(((L++R).map fr2).drop L.length).all (apP x))=true:=h4
  rw[List.map_append,List.take_left' (by simp),List.drop_left' (by simp)] at h5
  simp only[List.all_eq_true,List.mem_map,Bool.and_eq_true,forall_exists_index,and_imp,forall_apply_eq_imp_iff₂] at h5
  exact h5
 rw[List.all_eq_true] at hL ⊢
 rintro⟨i,j⟩ hc
 have h1:=hL _ hc
 simp only[Bool.or_eq_true] at h1
 rcases h1 with (h1|h1)|h1
 ·exact zck hT h1
 ·unfold slotIn2 at h1
  split at h1
  ·rename_i a b ha hb
   split at h1
   ·rename_i z k s hop
    simp only[Bool.and_eq_true] at h1
    obtain⟨c1,c2⟩:=h1
    have hs:=(hp s (List.contains_iff_mem.1 c1)).1
    cases hf:fr2 s with
    | p n o =>
     obtain⟨fri,A,B,q1,q2,q3,q4⟩:=zav hT ha
     obtain⟨frj,C,D,p1,p2,p3,p4⟩:=zav hT hb
     have p2':Ms[(i,j).2+1]?=some D:=p2
     have q2':Ms[(i,j).1+1]?=some B:=q2
     refine zbQ ?_
     simp only[chkP0,ha,q1,q2,p1,p2]
     rw[if_neg (by rw[hop];simp[XO.cls])]
     rw[hop]
     show chkV ops j (.t s) C D (fr2 s)=true
     rw[hf]
     show verP (some n) C D=true
     rcases p3 with⟨_,v,p3⟩|⟨_,p3⟩
     ·cases hopb:b.op with
      | call f l =>
       rw[hopb] at p3 c2
       obtain⟨ns,rfl⟩:=zbW c2 p3
       exact zb2 ns C _
      | _=>rw[hopb] at c2;simp[calmOp] at c2
     ·rw[p3];simp[verP]
    | _=>rw[hf] at hs;simp[isPP] at hs
   ·cases h1
  ·cases h1
 ·unfold slotSt at h1
  split at h1
  ·rename_i a b ha hb
   split at h1
   ·rename_i z k s n r x hop hop2
    simp only[Bool.and_eq_true] at h1
    obtain⟨⟨c1,c2⟩,c3⟩:=h1
    have hap:=(hp s (List.contains_iff_mem.1 c1)).2 r (List.contains_iff_mem.1 c2)
    obtain⟨fri,A,B,q1,q2,q3,q4⟩:=zav hT ha
    obtain⟨frj,C,D,p1,p2,p3,p4⟩:=zav hT hb
    have p2':Ms[(i,j).2+1]?=some D:=p2
    have q2':Ms[(i,j).1+1]?=some B:=q2
    have e2:fr2 r=frj r:=p4 (.t r) c3
    refine zbQ ?_
    simp only[chkP0,ha,q1,q2,p1,p2]
    rw[if_neg (by rw[hop];simp[XO.cls])]
    rw[hop]
    show chkV ops j (.t s) C D (fr2 s)=true
    cases hf:fr2 s with
    | p n1 o1 =>
     cases hg:fr2 r with
     | p n2 o2 =>
      rw[hf,hg] at hap
      have hne:n1≠n2:=fun q=>by rw[q] at hap;simp[apP] at hap
      show verP (some n1) C D=true
      rcases p3 with⟨_,v,p3⟩|⟨_,p3⟩
      ·rw[hop2] at p3
       simp only[XO.pst,XO.pev] at p3
       rw[show X.pv E.glob frj (.t r)=.p n2 o2 from e2.symm.trans hg] at p3
       simp only at p3
       generalize (X.pv E.glob frj x).cells=cs at p3
       split at p3
       ·split at p3
        ·cases p3
         simp only[verP]
         rw[List.getElem?_set_ne (fun h=>hne h.symm)];simp
        ·cases p3
       ·cases p3
      ·rw[p3];simp[verP]
     | _=>rw[hf,hg] at hap;simp[apP] at hap
    | _=>rw[hf] at hap;simp[apP] at hap
   ·cases h1
  ·cases h1
end Go.Eng
namespace Go.Eng
theorem mG (G L:PM) (k:Nat):PM.blk (G++L) (G.length+k)=PM.blk L k:=by
 unfold PM.blk
 rw[List.getElem?_append_right (by omega),Nat.add_sub_cancel_left]
theorem mG0 (G L:PM):PM.blk (G++L) G.length=PM.blk L 0:=mG G L 0
theorem sG (G L:PM) (k:Nat) (v:Option PB):(G++L).set (G.length+k) v=G++L.set k v:=by
 rw[List.set_append_right _ _ (by omega),Nat.add_sub_cancel_left]
theorem sG0 (G L:PM) (v:Option PB):(G++L).set G.length v=G++L.set 0 v:=sG G L 0 v
theorem lG (G L:PM):(G++L).length=G.length+L.length:=List.length_append
theorem ziF (a b:Int) : -1≤cmpI a b∧cmpI a b≤1:=by unfold cmpI;split<;>(try split)<;>omega
end Go.Eng
namespace Go.Eng
end Go.Eng
namespace Go.Eng
end Go.Eng
namespace Go.Eng
noncomputable def cW (w:Nat→WI):List PV:=[.b (decide ((w 0).v<0)),D (w 0).v.natAbs,.b (decide ((w 1).v<0)),D (w 1).v.natAbs,.b (decide ((w 2).v<0)),D (w 2).v.natAbs,.b (decide ((w 3).v<0)),D (w 3).v.natAbs,.b (decide ((w 4).v<0)),D (w 4).v.natAbs,.b (decide ((w 5).v<0)),D (w 5).v.natAbs,.b (decide ((w 6).v<0)),D (w 6).v.natAbs,.b (decide ((w 7).v<0)),D (w 7).v.natAbs,.b (decide ((w 8).v<0)),D (w 8).v.natAbs]
noncomputable def mW (w:Nat→WI):PV:=.ag (cW w)
def cI (p:Nat→Int):List PV:=[.i .i64 (p 0),.i .i64 (p 1),.i .i64 (p 2),.i .i64 (p 3),.i .i64 (p 4),.i .i64 (p 5),.i .i64 (p 6),.i .i64 (p 7),.i .i64 (p 8)]
def pI (p:Nat→Int):PV:=.ag (cI p)
theorem zab (w:Nat→WI):cW w=[.b (decide ((w 0).v<0)),D (w 0).v.natAbs,.b (decide ((w 1).v<0)),D (w 1).v.natAbs,.b (decide ((w 2).v<0)),D (w 2).v.natAbs,.b (decide ((w 3).v<0)),D (w 3).v.natAbs,.b (decide ((w 4).v<0)),D (w 4).v.natAbs,.b (decide ((w 5).v<0)),D (w 5).v.natAbs,.b (decide ((w 6).v<0)),D (w 6).v.natAbs,.b (decide ((w 7).v<0)),D (w 7).v.natAbs,.b (decide ((w 8).v<0)),D (w 8).v.natAbs]:=_root_.id rfl
theorem zao (p:Nat→Int):cI p=[.i .i64 (p 0),.i .i64 (p 1),.i .i64 (p 2),.i .i64 (p 3),.i .i64 (p 4),.i .i64 (p 5),.i .i64 (p 6),.i .i64 (p 7),.i .i64 (p 8)]:=_root_.id rfl
@[go_sem] theorem zso (M:PM) (d:Nat) (w:Nat→WI):fz M (d+1+1) (mW w)=some (mW w,[]):=_root_.id rfl
@[go_sem] theorem znZ (w:Nat→WI):(mW w).cells=cW w:=_root_.id rfl
@[go_sem] theorem zsq (M:PM) (d:Nat) (p:Nat→Int):fz M (d+1+1) (pI p)=some (pI p,[]):=_root_.id rfl
@[go_sem] theorem zn0 (p:Nat→Int):(pI p).cells=cI p:=_root_.id rfl
@[go_sem] theorem zo9 (w:Nat→WI):PV.ag (cW w)=mW w:=_root_.id rfl
@[go_sem] theorem zpa (p:Nat→Int):PV.ag (cI p)=pI p:=_root_.id rfl
noncomputable def zW:Nat→WI:=fun _=>wi0
def zI:Nat→Int:=fun _=>0
noncomputable def cP (n:Nat) (w:Nat→WI):List PV:=[if 0<n then .b (decide ((w 0).v<0)) else .b false,if 0<n then D (w 0).v.natAbs else .nl,if 1<n then .b (decide ((w 1).v<0)) else .b false,if 1<n then D (w 1).v.natAbs else .nl,if 2<n then .b (decide ((w 2).v<0)) else .b false,if 2<n then D (w 2).v.natAbs else .nl,if 3<n then .b (decide ((w 3).v<0)) else .b false,if 3<n then D (w 3).v.natAbs else .nl,if 4<n then .b (decide ((w 4).v<0)) else .b false,if 4<n then D (w 4).v.natAbs else .nl,if 5<n then .b (decide ((w 5).v<0)) else .b false,if 5<n then D (w 5).v.natAbs else .nl,if 6<n then .b (decide ((w 6).v<0)) else .b false,if 6<n then D (w 6).v.natAbs else .nl,if 7<n then .b (decide ((w 7).v<0)) else .b false,if 7<n then D (w 7).v.natAbs else .nl,if 8<n then .b (decide ((w 8).v<0)) else .b false,if 8<n then D (w 8).v.natAbs else .nl]
theorem zcj (n:Nat) (w:Nat→WI):cP n w=[if 0<n then .b (decide ((w 0).v<0)) else .b false,if 0<n then D (w 0).v.natAbs else .nl,if 1<n then .b (decide ((w 1).v<0)) else .b false,if 1<n then D (w 1).v.natAbs else .nl,if 2<n then .b (decide ((w 2).v<0)) else .b false,if 2<n then D (w 2).v.natAbs else .nl,if 3<n then .b (decide ((w 3).v<0)) else .b false,if 3<n then D (w 3).v.natAbs else .nl,if 4<n then .b (decide ((w 4).v<0)) else .b false,if 4<n then D (w 4).v.natAbs else .nl,if 5<n then .b (decide ((w 5).v<0)) else .b false,if 5<n then D (w 5).v.natAbs else .nl,if 6<n then .b (decide ((w 6).v<0)) else .b false,if 6<n then D (w 6).v.natAbs else .nl,if 7<n then .b (decide ((w 7).v<0)) else .b false,if 7<n then D (w 7).v.natAbs else .nl,if 8<n then .b (decide ((w 8).v<0)) else .b false,if 8<n then D (w 8).v.natAbs else .nl]:=_root_.id rfl
theorem cP9 (w:Nat→WI):cP 9 w=cW w:=rfl
def cQ (n:Nat) (p:Nat→Int):List PV:=[.i .i64 (if 0<n then p 0 else 0),.i .i64 (if 1<n then p 1 else 0),.i .i64 (if 2<n then p 2 else 0),.i .i64 (if 3<n then p 3 else 0),.i .i64 (if 4<n then p 4 else 0),.i .i64 (if 5<n then p 5 else 0),.i .i64 (if 6<n then p 6 else 0),.i .i64 (if 7<n then p 7 else 0),.i .i64 (if 8<n then p 8 else 0)]
theorem cQ9 (p:Nat→Int):cQ 9 p=cI p:=rfl
theorem zeh {i:Nat} (h:i<9):i=0∨i=1∨i=2∨i=3∨i=4∨i=5∨i=6∨i=7∨i=8:=by omega
theorem zgR {i:Nat} (h:i<3):i=0∨i=1∨i=2:=by omega
@[go_sem] theorem zsF (p:Nat→Int):(cI p).all PV.scal=true:=_root_.id rfl
@[go_sem] theorem zsG (w:Nat→WI):(cW w).all PV.scal=true:=_root_.id rfl
@[go_sem] theorem zsv (p:Nat→Int):(cI p).length=9:=_root_.id rfl
@[go_sem] theorem zsz (w:Nat→WI):(cW w).length=18:=_root_.id rfl
@[go_sem] theorem zsN (p:Nat→Int):(cI p).take 9=cI p:=_root_.id rfl
@[go_sem] theorem zsO (w:Nat→WI):(cW w).take 18=cW w:=_root_.id rfl
@[go_sem] theorem zsw (n:Nat) (w:Nat→WI):(cP n w).length=18:=_root_.id rfl
@[go_sem] theorem zsx (n:Nat) (p:Nat→Int):(cQ n p).length=9:=_root_.id rfl
@[go_sem] theorem zsJ (n:Nat) (w u:Nat→WI):psplice (cP n w) 0 (cW u)=cW u:=_root_.id rfl
@[go_sem] theorem zsK (n:Nat) (w u:Nat→Int):psplice (cQ n w) 0 (cI u)=cI u:=_root_.id rfl
noncomputable def ofW (p:Nat→Int):Nat→WI:=fun e=>clip (p e)
theorem zkO {p:Nat→Int} {e:Nat} (h:Fits64 (p e)):(ofW p e).v=p e:=zdc (zfA h)
theorem zbG {n:Int} (h:Fits64 n):pf E0 34 [.i .i64 n]=some (wiP (clip n)):=by
 rw[zdP h]
 congr 2
 exact WI.ext' (by rw[zdc (zfA h)];rfl)
set_option maxHeartbeats 2000000 in
theorem zlg {p:Nat→Int} (hp:∀e,Fits64 (p e)):pf E0 307 [pI p]=some (mW (ofW p)):=by
 refine zad (xf:=zuH) rfl (by simp[zuH]) ?_
 simp only[zuH]
 simp(disch:=omega)only[go_sem,seval,wqq]
 refine zas zuZ.eq_1 (fun(i:Nat) fr M=>i≤9∧fr 2=.p 1 0∧fr 3=.p 2 0∧fr 7=pI p∧fr 8=(PV.i .i64 ((i:Nat):Int))∧∃b0 b1 v,M=[b0,some ⟨cP 0 zW,true,b1⟩,some ⟨cP i (ofW p),true,v⟩]) (fun i=>9-i) ?_ 0 ⟨by omega,by simp only[go_sem,seval],by simp only[go_sem,seval],by simp only[go_sem,seval],by simp only[go_sem,seval],_,_,_,rfl⟩
 rintro i fr M ⟨hi,f2,f3,f7,f8,b0,b1,v,rfl⟩ ih
 rcases Nat.lt_or_ge i 9 with h9|h9
 ·have q1:((i:Int)<9)=True:=eq_true (by omega)
  obtain rfl|rfl|rfl|rfl|rfl|rfl|rfl|rfl|rfl:=zeh h9
  ·have fr0:=zbG (hp 0)
   simp(disch:=omega)only[go_sem,seval,wqq,f2,f3,f7,f8,pI,zao,zcj,fr0]
   exact ih 1 _ _ (by omega) ⟨by omega,by simp only[go_sem,seval,f2],by simp only[go_sem,seval,f3],by simp only[go_sem,seval,f7],by simp only[go_sem,seval],_,_,_,rfl⟩
  ·have fr0:=zbG (hp 1)
   simp(disch:=omega)only[go_sem,seval,wqq,f2,f3,f7,f8,pI,zao,zcj,fr0]
   exact ih 2 _ _ (by omega) ⟨by omega,by simp only[go_sem,seval,f2],by simp only[go_sem,seval,f3],by simp only[go_sem,seval,f7],by simp only[go_sem,seval],_,_,_,rfl⟩
  ·have fr0:=zbG (hp 2)
   simp(disch:=omega)only[go_sem,seval,wqq,f2,f3,f7,f8,pI,zao,zcj,fr0]
   exact ih 3 _ _ (by omega) ⟨by omega,by simp only[go_sem,seval,f2],by simp only[go_sem,seval,f3],by simp only[go_sem,seval,f7],by simp only[go_sem,seval],_,_,_,rfl⟩
  ·have fr0:=zbG (hp 3)
   simp(disch:=omega)only[go_sem,seval,wqq,f2,f3,f7,f8,pI,zao,zcj,fr0]
   exact ih 4 _ _ (by omega) ⟨by omega,by simp only[go_sem,seval,f2],by simp only[go_sem,seval,f3],by simp only[go_sem,seval,f7],by simp only[go_sem,seval],_,_,_,rfl⟩
  ·have fr0:=zbG (hp 4)
   simp(disch:=omega)only[go_sem,seval,wqq,f2,f3,f7,f8,pI,zao,zcj,fr0]
   exact ih 5 _ _ (by omega) ⟨by omega,by simp only[go_sem,seval,f2],by simp only[go_sem,seval,f3],by simp only[go_sem,seval,f7],by simp only[go_sem,seval],_,_,_,rfl⟩
  ·have fr0:=zbG (hp 5)
   simp(disch:=omega)only[go_sem,seval,wqq,f2,f3,f7,f8,pI,zao,zcj,fr0]
   exact ih 6 _ _ (by omega) ⟨by omega,by simp only[go_sem,seval,f2],by simp only[go_sem,seval,f3],by simp only[go_sem,seval,f7],by simp only[go_sem,seval],_,_,_,rfl⟩
  ·have fr0:=zbG (hp 6)
   simp(disch:=omega)only[go_sem,seval,wqq,f2,f3,f7,f8,pI,zao,zcj,fr0]
   exact ih 7 _ _ (by omega) ⟨by omega,by simp only[go_sem,seval,f2],by simp only[go_sem,seval,f3],by simp only[go_sem,seval,f7],by simp only[go_sem,seval],_,_,_,rfl⟩
  ·have fr0:=zbG (hp 7)
   simp(disch:=omega)only[go_sem,seval,wqq,f2,f3,f7,f8,pI,zao,zcj,fr0]
   exact ih 8 _ _ (by omega) ⟨by omega,by simp only[go_sem,seval,f2],by simp only[go_sem,seval,f3],by simp only[go_sem,seval,f7],by simp only[go_sem,seval],_,_,_,rfl⟩
  ·have fr0:=zbG (hp 8)
   simp(disch:=omega)only[go_sem,seval,wqq,f2,f3,f7,f8,pI,zao,zcj,fr0]
   exact ih 9 _ _ (by omega) ⟨by omega,by simp only[go_sem,seval,f2],by simp only[go_sem,seval,f3],by simp only[go_sem,seval,f7],by simp only[go_sem,seval],_,_,_,rfl⟩
 ·obtain rfl:i=9:=by omega
  simp(disch:=omega)only[go_sem,seval,wqq,f2,f3,f7,f8,cP9]
end Go.Eng
namespace Go.Eng
theorem zdi (p:Prop):(p=True)∨(p=False):=by by_cases h:p<;>simp[h]
noncomputable def tW (a b:WI):WI:=clip (a.v*b.v)
noncomputable def aW (a b:WI):WI:=clip (a.v+b.v)
noncomputable def sW (a b:WI):WI:=clip (a.v-b.v)
theorem zaj (a b:WI):pf E0 313 [wiP a,wiP b]=some (wiP (tW a b)):=by
 have h:=zhO a b
 unfold tW
 generalize clip (a.v*b.v)=c at *
 refine zad (xf:=ztX) rfl (by simp[ztX]) ?_
 simp only[ztX]
 simp(disch:=omega)only[go_sem,seval,wqq,h]
theorem zap (a b:WI):pf E0 312 [wiP a,wiP b]=some (wiP (aW a b)):=by
 have h:=zja a b
 unfold aW
 generalize clip (a.v+b.v)=c at *
 refine zad (xf:=zt9) rfl (by simp[zt9]) ?_
 simp only[zt9]
 simp(disch:=omega)only[go_sem,seval,wqq,h]
theorem za6 (a b:WI):pf E0 319 [wiP a,wiP b]=some (wiP (sW a b)):=by
 have h:=zk8 a b
 unfold sW
 generalize clip (a.v-b.v)=c at *
 refine zad (xf:=ztY) rfl (by simp[ztY]) ?_
 simp only[ztY]
 simp(disch:=omega)only[go_sem,seval,wqq,h]
noncomputable def mnW (x:Nat→WI) (i k:Nat):WI:=sW (tW (x (3*((i+1)%3)+(k+1)%3)) (x (3*((i+2)%3)+(k+2)%3))) (tW (x (3*((i+1)%3)+(k+2)%3)) (x (3*((i+2)%3)+(k+1)%3)))
theorem zlf (x:Nat→WI) {i k:Nat} (hi:i<3) (hk:k<3) (b:Option PB) (G:PM):∃G',pcl E0 318 [.i .i64 (i:Int),.i .i64 (k:Int),.p 0 0] (some ⟨cW x,true,0⟩::b::G)=some (wiP (mnW x i k),some ⟨cW x,true,0⟩::b::(G++G')):=by
 obtain rfl|rfl|rfl:=zgR hi<;>obtain rfl|rfl|rfl:=zgR hk
 ·have t1:=zaj (x 4) (x 8)
  have t2:=zaj (x 5) (x 7)
  have t3:=za6 (tW (x 4) (x 8)) (tW (x 5) (x 7))
  refine⟨[some ⟨[.b (decide ((sW (tW (x 4) (x 8)) (tW (x 5) (x 7))).v<0)),D (sW (tW (x 4) (x 8)) (tW (x 5) (x 7))).v.natAbs],true,1⟩],?_⟩
  show pcl E0 318 [.i .i64 0,.i .i64 0,.p 0 0] (some ⟨cW x,true,0⟩::b::G)=some (wiP (sW (tW (x 4) (x 8)) (tW (x 5) (x 7))),some ⟨cW x,true,0⟩::b::(G++[some ⟨[.b (decide ((sW (tW (x 4) (x 8)) (tW (x 5) (x 7))).v<0)),D (sW (tW (x 4) (x 8)) (tW (x 5) (x 7))).v.natAbs],true,1⟩]))
  refine zaC (xf:=zs8) rfl rfl (by simp[zs8]) ?_
  simp only[zs8]
  simp(disch:=omega)only[go_sem,seval,wqq]
  refine zaf [39,45] rfl ?_ ?_
  ·simp(disch:=omega)only[go_sem,seval,wqq,zab,t1,t2,t3,mG,mG0,sG,sG0,lG,lqq]
   exact⟨_,rfl,rfl⟩
  simp(disch:=omega)only[go_sem,seval,wqq,zab,t1,t2,t3,mG,mG0,sG,sG0,lG,lqq]
 ·have t1:=zaj (x 5) (x 6)
  have t2:=zaj (x 3) (x 8)
  have t3:=za6 (tW (x 5) (x 6)) (tW (x 3) (x 8))
  refine⟨[some ⟨[.b (decide ((sW (tW (x 5) (x 6)) (tW (x 3) (x 8))).v<0)),D (sW (tW (x 5) (x 6)) (tW (x 3) (x 8))).v.natAbs],true,1⟩],?_⟩
  show pcl E0 318 [.i .i64 0,.i .i64 1,.p 0 0] (some ⟨cW x,true,0⟩::b::G)=some (wiP (sW (tW (x 5) (x 6)) (tW (x 3) (x 8))),some ⟨cW x,true,0⟩::b::(G++[some ⟨[.b (decide ((sW (tW (x 5) (x 6)) (tW (x 3) (x 8))).v<0)),D (sW (tW (x 5) (x 6)) (tW (x 3) (x 8))).v.natAbs],true,1⟩]))
  refine zaC (xf:=zs8) rfl rfl (by simp[zs8]) ?_
  simp only[zs8]
  simp(disch:=omega)only[go_sem,seval,wqq]
  refine zaf [39,45] rfl ?_ ?_
  ·simp(disch:=omega)only[go_sem,seval,wqq,zab,t1,t2,t3,mG,mG0,sG,sG0,lG,lqq]
   exact⟨_,rfl,rfl⟩
  simp(disch:=omega)only[go_sem,seval,wqq,zab,t1,t2,t3,mG,mG0,sG,sG0,lG,lqq]
 ·have t1:=zaj (x 3) (x 7)
  have t2:=zaj (x 4) (x 6)
  have t3:=za6 (tW (x 3) (x 7)) (tW (x 4) (x 6))
  refine⟨[some ⟨[.b (decide ((sW (tW (x 3) (x 7)) (tW (x 4) (x 6))).v<0)),D (sW (tW (x 3) (x 7)) (tW (x 4) (x 6))).v.natAbs],true,1⟩],?_⟩
  show pcl E0 318 [.i .i64 0,.i .i64 2,.p 0 0] (some ⟨cW x,true,0⟩::b::G)=some (wiP (sW (tW (x 3) (x 7)) (tW (x 4) (x 6))),some ⟨cW x,true,0⟩::b::(G++[some ⟨[.b (decide ((sW (tW (x 3) (x 7)) (tW (x 4) (x 6))).v<0)),D (sW (tW (x 3) (x 7)) (tW (x 4) (x 6))).v.natAbs],true,1⟩]))
  refine zaC (xf:=zs8) rfl rfl (by simp[zs8]) ?_
  simp only[zs8]
  simp(disch:=omega)only[go_sem,seval,wqq]
  refine zaf [39,45] rfl ?_ ?_
  ·simp(disch:=omega)only[go_sem,seval,wqq,zab,t1,t2,t3,mG,mG0,sG,sG0,lG,lqq]
   exact⟨_,rfl,rfl⟩
  simp(disch:=omega)only[go_sem,seval,wqq,zab,t1,t2,t3,mG,mG0,sG,sG0,lG,lqq]
 ·have t1:=zaj (x 7) (x 2)
  have t2:=zaj (x 8) (x 1)
  have t3:=za6 (tW (x 7) (x 2)) (tW (x 8) (x 1))
  refine⟨[some ⟨[.b (decide ((sW (tW (x 7) (x 2)) (tW (x 8) (x 1))).v<0)),D (sW (tW (x 7) (x 2)) (tW (x 8) (x 1))).v.natAbs],true,1⟩],?_⟩
  show pcl E0 318 [.i .i64 1,.i .i64 0,.p 0 0] (some ⟨cW x,true,0⟩::b::G)=some (wiP (sW (tW (x 7) (x 2)) (tW (x 8) (x 1))),some ⟨cW x,true,0⟩::b::(G++[some ⟨[.b (decide ((sW (tW (x 7) (x 2)) (tW (x 8) (x 1))).v<0)),D (sW (tW (x 7) (x 2)) (tW (x 8) (x 1))).v.natAbs],true,1⟩]))
  refine zaC (xf:=zs8) rfl rfl (by simp[zs8]) ?_
  simp only[zs8]
  simp(disch:=omega)only[go_sem,seval,wqq]
  refine zaf [39,45] rfl ?_ ?_
  ·simp(disch:=omega)only[go_sem,seval,wqq,zab,t1,t2,t3,mG,mG0,sG,sG0,lG,lqq]
   exact⟨_,rfl,rfl⟩
  simp(disch:=omega)only[go_sem,seval,wqq,zab,t1,t2,t3,mG,mG0,sG,sG0,lG,lqq]
 ·have t1:=zaj (x 8) (x 0)
  have t2:=zaj (x 6) (x 2)
  have t3:=za6 (tW (x 8) (x 0)) (tW (x 6) (x 2))
  refine⟨[some ⟨[.b (decide ((sW (tW (x 8) (x 0)) (tW (x 6) (x 2))).v<0)),D (sW (tW (x 8) (x 0)) (tW (x 6) (x 2))).v.natAbs],true,1⟩],?_⟩
  show pcl E0 318 [.i .i64 1,.i .i64 1,.p 0 0] (some ⟨cW x,true,0⟩::b::G)=some (wiP (sW (tW (x 8) (x 0)) (tW (x 6) (x 2))),some ⟨cW x,true,0⟩::b::(G++[some ⟨[.b (decide ((sW (tW (x 8) (x 0)) (tW (x 6) (x 2))).v<0)),D (sW (tW (x 8) (x 0)) (tW (x 6) (x 2))).v.natAbs],true,1⟩]))
  refine zaC (xf:=zs8) rfl rfl (by simp[zs8]) ?_
  simp only[zs8]
  simp(disch:=omega)only[go_sem,seval,wqq]
  refine zaf [39,45] rfl ?_ ?_
  ·simp(disch:=omega)only[go_sem,seval,wqq,zab,t1,t2,t3,mG,mG0,sG,sG0,lG,lqq]
   exact⟨_,rfl,rfl⟩
  simp(disch:=omega)only[go_sem,seval,wqq,zab,t1,t2,t3,mG,mG0,sG,sG0,lG,lqq]
 ·have t1:=zaj (x 6) (x 1)
  have t2:=zaj (x 7) (x 0)
  have t3:=za6 (tW (x 6) (x 1)) (tW (x 7) (x 0))
  refine⟨[some ⟨[.b (decide ((sW (tW (x 6) (x 1)) (tW (x 7) (x 0))).v<0)),D (sW (tW (x 6) (x 1)) (tW (x 7) (x 0))).v.natAbs],true,1⟩],?_⟩
  show pcl E0 318 [.i .i64 1,.i .i64 2,.p 0 0] (some ⟨cW x,true,0⟩::b::G)=some (wiP (sW (tW (x 6) (x 1)) (tW (x 7) (x 0))),some ⟨cW x,true,0⟩::b::(G++[some ⟨[.b (decide ((sW (tW (x 6) (x 1)) (tW (x 7) (x 0))).v<0)),D (sW (tW (x 6) (x 1)) (tW (x 7) (x 0))).v.natAbs],true,1⟩]))
  refine zaC (xf:=zs8) rfl rfl (by simp[zs8]) ?_
  simp only[zs8]
  simp(disch:=omega)only[go_sem,seval,wqq]
  refine zaf [39,45] rfl ?_ ?_
  ·simp(disch:=omega)only[go_sem,seval,wqq,zab,t1,t2,t3,mG,mG0,sG,sG0,lG,lqq]
   exact⟨_,rfl,rfl⟩
  simp(disch:=omega)only[go_sem,seval,wqq,zab,t1,t2,t3,mG,mG0,sG,sG0,lG,lqq]
 ·have t1:=zaj (x 1) (x 5)
  have t2:=zaj (x 2) (x 4)
  have t3:=za6 (tW (x 1) (x 5)) (tW (x 2) (x 4))
  refine⟨[some ⟨[.b (decide ((sW (tW (x 1) (x 5)) (tW (x 2) (x 4))).v<0)),D (sW (tW (x 1) (x 5)) (tW (x 2) (x 4))).v.natAbs],true,1⟩],?_⟩
  show pcl E0 318 [.i .i64 2,.i .i64 0,.p 0 0] (some ⟨cW x,true,0⟩::b::G)=some (wiP (sW (tW (x 1) (x 5)) (tW (x 2) (x 4))),some ⟨cW x,true,0⟩::b::(G++[some ⟨[.b (decide ((sW (tW (x 1) (x 5)) (tW (x 2) (x 4))).v<0)),D (sW (tW (x 1) (x 5)) (tW (x 2) (x 4))).v.natAbs],true,1⟩]))
  refine zaC (xf:=zs8) rfl rfl (by simp[zs8]) ?_
  simp only[zs8]
  simp(disch:=omega)only[go_sem,seval,wqq]
  refine zaf [39,45] rfl ?_ ?_
  ·simp(disch:=omega)only[go_sem,seval,wqq,zab,t1,t2,t3,mG,mG0,sG,sG0,lG,lqq]
   exact⟨_,rfl,rfl⟩
  simp(disch:=omega)only[go_sem,seval,wqq,zab,t1,t2,t3,mG,mG0,sG,sG0,lG,lqq]
 ·have t1:=zaj (x 2) (x 3)
  have t2:=zaj (x 0) (x 5)
  have t3:=za6 (tW (x 2) (x 3)) (tW (x 0) (x 5))
  refine⟨[some ⟨[.b (decide ((sW (tW (x 2) (x 3)) (tW (x 0) (x 5))).v<0)),D (sW (tW (x 2) (x 3)) (tW (x 0) (x 5))).v.natAbs],true,1⟩],?_⟩
  show pcl E0 318 [.i .i64 2,.i .i64 1,.p 0 0] (some ⟨cW x,true,0⟩::b::G)=some (wiP (sW (tW (x 2) (x 3)) (tW (x 0) (x 5))),some ⟨cW x,true,0⟩::b::(G++[some ⟨[.b (decide ((sW (tW (x 2) (x 3)) (tW (x 0) (x 5))).v<0)),D (sW (tW (x 2) (x 3)) (tW (x 0) (x 5))).v.natAbs],true,1⟩]))
  refine zaC (xf:=zs8) rfl rfl (by simp[zs8]) ?_
  simp only[zs8]
  simp(disch:=omega)only[go_sem,seval,wqq]
  refine zaf [39,45] rfl ?_ ?_
  ·simp(disch:=omega)only[go_sem,seval,wqq,zab,t1,t2,t3,mG,mG0,sG,sG0,lG,lqq]
   exact⟨_,rfl,rfl⟩
  simp(disch:=omega)only[go_sem,seval,wqq,zab,t1,t2,t3,mG,mG0,sG,sG0,lG,lqq]
 ·have t1:=zaj (x 0) (x 4)
  have t2:=zaj (x 1) (x 3)
  have t3:=za6 (tW (x 0) (x 4)) (tW (x 1) (x 3))
  refine⟨[some ⟨[.b (decide ((sW (tW (x 0) (x 4)) (tW (x 1) (x 3))).v<0)),D (sW (tW (x 0) (x 4)) (tW (x 1) (x 3))).v.natAbs],true,1⟩],?_⟩
  show pcl E0 318 [.i .i64 2,.i .i64 2,.p 0 0] (some ⟨cW x,true,0⟩::b::G)=some (wiP (sW (tW (x 0) (x 4)) (tW (x 1) (x 3))),some ⟨cW x,true,0⟩::b::(G++[some ⟨[.b (decide ((sW (tW (x 0) (x 4)) (tW (x 1) (x 3))).v<0)),D (sW (tW (x 0) (x 4)) (tW (x 1) (x 3))).v.natAbs],true,1⟩]))
  refine zaC (xf:=zs8) rfl rfl (by simp[zs8]) ?_
  simp only[zs8]
  simp(disch:=omega)only[go_sem,seval,wqq]
  refine zaf [39,45] rfl ?_ ?_
  ·simp(disch:=omega)only[go_sem,seval,wqq,zab,t1,t2,t3,mG,mG0,sG,sG0,lG,lqq]
   exact⟨_,rfl,rfl⟩
  simp(disch:=omega)only[go_sem,seval,wqq,zab,t1,t2,t3,mG,mG0,sG,sG0,lG,lqq]
noncomputable def adW (x:Nat→WI):Nat→WI:=fun e=>mnW x (e%3) (e/3)
end Go.Eng
namespace Go.Eng
noncomputable def cS (s:Nat→Bool) (w:Nat→WI):List PV:=[if s 0 then .b (decide ((w 0).v<0)) else .b false,if s 0 then D (w 0).v.natAbs else .nl,if s 1 then .b (decide ((w 1).v<0)) else .b false,if s 1 then D (w 1).v.natAbs else .nl,if s 2 then .b (decide ((w 2).v<0)) else .b false,if s 2 then D (w 2).v.natAbs else .nl,if s 3 then .b (decide ((w 3).v<0)) else .b false,if s 3 then D (w 3).v.natAbs else .nl,if s 4 then .b (decide ((w 4).v<0)) else .b false,if s 4 then D (w 4).v.natAbs else .nl,if s 5 then .b (decide ((w 5).v<0)) else .b false,if s 5 then D (w 5).v.natAbs else .nl,if s 6 then .b (decide ((w 6).v<0)) else .b false,if s 6 then D (w 6).v.natAbs else .nl,if s 7 then .b (decide ((w 7).v<0)) else .b false,if s 7 then D (w 7).v.natAbs else .nl,if s 8 then .b (decide ((w 8).v<0)) else .b false,if s 8 then D (w 8).v.natAbs else .nl]
theorem zal (s:Nat→Bool) (w:Nat→WI):cS s w=[if s 0 then .b (decide ((w 0).v<0)) else .b false,if s 0 then D (w 0).v.natAbs else .nl,if s 1 then .b (decide ((w 1).v<0)) else .b false,if s 1 then D (w 1).v.natAbs else .nl,if s 2 then .b (decide ((w 2).v<0)) else .b false,if s 2 then D (w 2).v.natAbs else .nl,if s 3 then .b (decide ((w 3).v<0)) else .b false,if s 3 then D (w 3).v.natAbs else .nl,if s 4 then .b (decide ((w 4).v<0)) else .b false,if s 4 then D (w 4).v.natAbs else .nl,if s 5 then .b (decide ((w 5).v<0)) else .b false,if s 5 then D (w 5).v.natAbs else .nl,if s 6 then .b (decide ((w 6).v<0)) else .b false,if s 6 then D (w 6).v.natAbs else .nl,if s 7 then .b (decide ((w 7).v<0)) else .b false,if s 7 then D (w 7).v.natAbs else .nl,if s 8 then .b (decide ((w 8).v<0)) else .b false,if s 8 then D (w 8).v.natAbs else .nl]:=_root_.id rfl
@[go_sem] theorem zsy (s:Nat→Bool) (w:Nat→WI):(cS s w).length=18:=_root_.id rfl
def sA (n:Nat):Nat→Bool:=fun e=>decide (3*(e%3)+e/3<n)
set_option maxHeartbeats 2000000 in
theorem zk9 (x:Nat→WI):pf E0 311 [mW x]=some (mW (adW x)):=by
 refine zad (xf:=ztK) rfl (by simp[ztK]) ?_
 simp only[ztK]
 simp(disch:=omega)only[go_sem,seval,wqq]
 refine zas zuO.eq_1 (fun(i:Nat) fr M=>i≤3∧fr 2=.p 1 0∧fr 3=.fn 318 [.p 0 0]∧fr 4=.p 2 0∧fr 8=(PV.i .i64 ((i:Nat):Int))∧∃b v G,M=some ⟨cW x,true,0⟩::some ⟨cP 0 zW,true,b⟩::some ⟨cS (sA (3*i)) (adW x),true,v⟩::G) (fun i=>3-i) ?_ 0 ⟨by omega,by simp only[go_sem,seval],by simp only[go_sem,seval],by simp only[go_sem,seval],by simp only[go_sem,seval],_,_,_,rfl⟩
 rintro i fr M ⟨hi,f2,f3,f4,f8,b,v,G,rfl⟩ ih
 rcases Nat.lt_or_ge i 3 with h3|h3
 ·have q1:((i:Int)<3)=True:=eq_true (by omega)
  simp(disch:=omega)only[go_sem,seval,wqq,f2,f3,f4,f8,q1]
  refine zas zuL.eq_1 (fun(k:Nat) fr M=>k≤3∧fr 2=.p 1 0∧fr 3=.fn 318 [.p 0 0]∧fr 4=.p 2 0∧fr 8=(PV.i .i64 ((i:Nat):Int))∧fr 5=(PV.i .i64 ((i:Nat):Int))∧fr 11=(PV.i .i64 ((k:Nat):Int))∧∃b v G,M=some ⟨cW x,true,0⟩::some ⟨cP 0 zW,true,b⟩::some ⟨cS (sA (3*i+k)) (adW x),true,v⟩::G) (fun k=>3-k) ?_ 0 ⟨by omega,by simp only[go_sem,seval,f2],by simp only[go_sem,seval,f3],by simp only[go_sem,seval,f4],by simp only[go_sem,seval,f8],by simp only[go_sem,seval],by simp only[go_sem,seval],_,_,_,rfl⟩
  rintro k fr M ⟨hk,f2,f3,f4,f8,f5,f11,b,v,G,rfl⟩ ih2
  rcases Nat.lt_or_ge k 3 with h4|h4
  ·obtain⟨G',mn⟩:=zlf x h3 h4 (some ⟨cP 0 zW,true,b⟩) (some ⟨cS (sA (3*i+k)) (adW x),true,v⟩::G)
   have q2:((k:Int)<3)=True:=eq_true (by omega)
   obtain rfl|rfl|rfl:=zgR h3<;>obtain rfl|rfl|rfl:=zgR h4
   ·have mn:pcl E0 318 [.i .i64 0,.i .i64 0,.p 0 0] _=_:=mn
    simp(disch:=omega)only[go_sem,seval,wqq,f2,f3,f4,f8,f5,f11,mn]
    exact ih2 1 _ _ (by omega) ⟨by omega,by simp only[go_sem,seval,f2],by simp only[go_sem,seval,f3],by simp only[go_sem,seval,f4],by simp only[go_sem,seval,f8],by simp only[go_sem,seval,f5],by simp only[go_sem,seval],_,_,_,rfl⟩
   ·have mn:pcl E0 318 [.i .i64 0,.i .i64 1,.p 0 0] _=_:=mn
    simp(disch:=omega)only[go_sem,seval,wqq,f2,f3,f4,f8,f5,f11,mn]
    exact ih2 2 _ _ (by omega) ⟨by omega,by simp only[go_sem,seval,f2],by simp only[go_sem,seval,f3],by simp only[go_sem,seval,f4],by simp only[go_sem,seval,f8],by simp only[go_sem,seval,f5],by simp only[go_sem,seval],_,_,_,rfl⟩
   ·have mn:pcl E0 318 [.i .i64 0,.i .i64 2,.p 0 0] _=_:=mn
    simp(disch:=omega)only[go_sem,seval,wqq,f2,f3,f4,f8,f5,f11,mn]
    exact ih2 3 _ _ (by omega) ⟨by omega,by simp only[go_sem,seval,f2],by simp only[go_sem,seval,f3],by simp only[go_sem,seval,f4],by simp only[go_sem,seval,f8],by simp only[go_sem,seval,f5],by simp only[go_sem,seval],_,_,_,rfl⟩
   ·have mn:pcl E0 318 [.i .i64 1,.i .i64 0,.p 0 0] _=_:=mn
    simp(disch:=omega)only[go_sem,seval,wqq,f2,f3,f4,f8,f5,f11,mn]
    exact ih2 1 _ _ (by omega) ⟨by omega,by simp only[go_sem,seval,f2],by simp only[go_sem,seval,f3],by simp only[go_sem,seval,f4],by simp only[go_sem,seval,f8],by simp only[go_sem,seval,f5],by simp only[go_sem,seval],_,_,_,rfl⟩
   ·have mn:pcl E0 318 [.i .i64 1,.i .i64 1,.p 0 0] _=_:=mn
    simp(disch:=omega)only[go_sem,seval,wqq,f2,f3,f4,f8,f5,f11,mn]
    exact ih2 2 _ _ (by omega) ⟨by omega,by simp only[go_sem,seval,f2],by simp only[go_sem,seval,f3],by simp only[go_sem,seval,f4],by simp only[go_sem,seval,f8],by simp only[go_sem,seval,f5],by simp only[go_sem,seval],_,_,_,rfl⟩
   ·have mn:pcl E0 318 [.i .i64 1,.i .i64 2,.p 0 0] _=_:=mn
    simp(disch:=omega)only[go_sem,seval,wqq,f2,f3,f4,f8,f5,f11,mn]
    exact ih2 3 _ _ (by omega) ⟨by omega,by simp only[go_sem,seval,f2],by simp only[go_sem,seval,f3],by simp only[go_sem,seval,f4],by simp only[go_sem,seval,f8],by simp only[go_sem,seval,f5],by simp only[go_sem,seval],_,_,_,rfl⟩
   ·have mn:pcl E0 318 [.i .i64 2,.i .i64 0,.p 0 0] _=_:=mn
    simp(disch:=omega)only[go_sem,seval,wqq,f2,f3,f4,f8,f5,f11,mn]
    exact ih2 1 _ _ (by omega) ⟨by omega,by simp only[go_sem,seval,f2],by simp only[go_sem,seval,f3],by simp only[go_sem,seval,f4],by simp only[go_sem,seval,f8],by simp only[go_sem,seval,f5],by simp only[go_sem,seval],_,_,_,rfl⟩
   ·have mn:pcl E0 318 [.i .i64 2,.i .i64 1,.p 0 0] _=_:=mn
    simp(disch:=omega)only[go_sem,seval,wqq,f2,f3,f4,f8,f5,f11,mn]
    exact ih2 2 _ _ (by omega) ⟨by omega,by simp only[go_sem,seval,f2],by simp only[go_sem,seval,f3],by simp only[go_sem,seval,f4],by simp only[go_sem,seval,f8],by simp only[go_sem,seval,f5],by simp only[go_sem,seval],_,_,_,rfl⟩
   ·have mn:pcl E0 318 [.i .i64 2,.i .i64 2,.p 0 0] _=_:=mn
    simp(disch:=omega)only[go_sem,seval,wqq,f2,f3,f4,f8,f5,f11,mn]
    exact ih2 3 _ _ (by omega) ⟨by omega,by simp only[go_sem,seval,f2],by simp only[go_sem,seval,f3],by simp only[go_sem,seval,f4],by simp only[go_sem,seval,f8],by simp only[go_sem,seval,f5],by simp only[go_sem,seval],_,_,_,rfl⟩
  ·obtain rfl:k=3:=by omega
   simp(disch:=omega)only[go_sem,seval,wqq,f2,f3,f4,f8,f5,f11]
   exact ih (i+1) _ _ (by omega) ⟨by omega,by simp only[go_sem,seval,f2],by simp only[go_sem,seval,f3],by simp only[go_sem,seval,f4],by simp only[go_sem,seval];rw[Int.natCast_succ],b,v,G,rfl⟩
 ·obtain rfl:i=3:=by omega
  have c9:cS (sA (3*3)) (adW x)=cW (adW x):=rfl
  simp(disch:=omega)only[go_sem,seval,wqq,f2,f3,f4,f8,c9]
noncomputable def dtW (x:Nat→WI):WI:=aW (aW (tW (x 0) (adW x 0)) (tW (x 1) (adW x 3))) (tW (x 2) (adW x 6))
theorem zeM (x:Nat→WI):pf E0 306 [mW x]=some (wiP (dtW x)):=by
 have ha:=zk9 x
 unfold dtW
 generalize adW x=a at *
 have t1:=zaj (x 0) (a 0)
 have t2:=zaj (x 1) (a 3)
 have t3:=zaj (x 2) (a 6)
 generalize tW (x 0) (a 0)=u1 at *
 generalize tW (x 1) (a 3)=u2 at *
 generalize tW (x 2) (a 6)=u3 at *
 have t4:=zap u1 u2
 generalize aW u1 u2=u4 at *
 have t5:=zap u4 u3
 refine zad (xf:=zut) rfl (by simp[zut]) ?_
 simp only[zut]
 simp(disch:=omega)only[go_sem,seval,wqq,ha]
 refine zaf [11,13,17,19] rfl ?_ ?_
 ·simp(disch:=omega)only[go_sem,seval,wqq,zab,t1,t2,t3,t4,t5]
  exact⟨_,rfl,rfl⟩
 simp(disch:=omega)only[go_sem,seval,wqq,zab,t1,t2,t3,t4,t5]
def okP (p:Nat→Int):Prop:=∀e,e<9 → -1073741824≤p e∧p e≤1073741824
open Classical in
noncomputable def vlP (p:Nat→Int):Int:=if okP p then (if (dtW (ofW p)).v=0 then 10 else 0) else 1
set_option maxHeartbeats 2000000 in
theorem zga {p:Nat→Int} (hp:∀e,Fits64 (p e)):pf E0 302 [pI p]=some (.i .i64 (vlP p)):=by
 have hm:=zlg hp
 have hd:=zeM (ofW p)
 have sg:=zbK (dtW (ofW p))
 have bad:∀e,e<9→¬(-1073741824≤p e∧p e≤1073741824)→vlP p=1:=fun e he h=>by unfold vlP;rw[if_neg fun q=>h (q e he)]
 have good:okP p→vlP p=if (dtW (ofW p)).v=0 then 10 else 0:=fun h=>by unfold vlP;rw[if_pos h]
 generalize vlP p=V at *
 generalize dtW (ofW p)=dt at *
 refine zad (xf:=zt1) rfl (by simp[zt1]) ?_
 simp only[zt1]
 simp(disch:=omega)only[go_sem,seval,wqq]
 refine zas zuV.eq_1 (fun(i:Nat) fr M=>i≤9∧(∀e,e<i → -1073741824≤p e∧p e≤1073741824)∧fr 1=.p 0 0∧fr 6=pI p∧fr 7=(PV.i .i64 ((i:Nat):Int))∧M=[some ⟨cI p,true,0⟩]) (fun i=>9-i) ?_ 0 ⟨by omega,fun e he=>by omega,by simp only[go_sem,seval],by simp only[go_sem,seval],by simp only[go_sem,seval],rfl⟩
 rintro i fr M ⟨hi,hlo,f1,f6,f7,rfl⟩ ih
 rcases Nat.lt_or_ge i 9 with h9|h9
 ·have nxt:∀j,(-1073741824≤p j∧p j≤1073741824)→j=i→∀e,e<j+1 → -1073741824≤p e∧p e≤1073741824:=fun j hj hji e he=>by
   subst hji
   rcases Nat.lt_or_ge e j with h|h
   ·exact hlo e h
   ·obtain rfl:e=j:=by omega
    exact hj
  obtain rfl|rfl|rfl|rfl|rfl|rfl|rfl|rfl|rfl:=zeh h9
  ·have hpe:=hp 0
   unfold Fits64 at hpe
   rcases zdi (p 0 < -1073741824) with t1|t1
   ·rw[bad 0 (by decide) (by have:=of_eq_true t1;omega)]
    simp(disch:=omega)only[go_sem,seval,wqq,f1,f6,f7,pI,zao,t1]
   ·rcases zdi (p 0>1073741824) with t2|t2
    ·rw[bad 0 (by decide) (by have:=of_eq_true t2;omega)]
     simp(disch:=omega)only[go_sem,seval,wqq,f1,f6,f7,pI,zao,t1,t2]
    ·have u1:=of_eq_false t1
     have u2:=of_eq_false t2
     simp(disch:=omega)only[go_sem,seval,wqq,f1,f6,f7,pI,zao,t1,t2]
     exact ih 1 _ _ (by omega) ⟨by omega,nxt 0 (by omega) rfl,by simp only[go_sem,seval,f1],by simp only[go_sem,seval,f6],by simp only[go_sem,seval],rfl⟩
  ·have hpe:=hp 1
   unfold Fits64 at hpe
   rcases zdi (p 1 < -1073741824) with t1|t1
   ·rw[bad 1 (by decide) (by have:=of_eq_true t1;omega)]
    simp(disch:=omega)only[go_sem,seval,wqq,f1,f6,f7,pI,zao,t1]
   ·rcases zdi (p 1>1073741824) with t2|t2
    ·rw[bad 1 (by decide) (by have:=of_eq_true t2;omega)]
     simp(disch:=omega)only[go_sem,seval,wqq,f1,f6,f7,pI,zao,t1,t2]
    ·have u1:=of_eq_false t1
     have u2:=of_eq_false t2
     simp(disch:=omega)only[go_sem,seval,wqq,f1,f6,f7,pI,zao,t1,t2]
     exact ih 2 _ _ (by omega) ⟨by omega,nxt 1 (by omega) rfl,by simp only[go_sem,seval,f1],by simp only[go_sem,seval,f6],by simp only[go_sem,seval],rfl⟩
  ·have hpe:=hp 2
   unfold Fits64 at hpe
   rcases zdi (p 2 < -1073741824) with t1|t1
   ·rw[bad 2 (by decide) (by have:=of_eq_true t1;omega)]
    simp(disch:=omega)only[go_sem,seval,wqq,f1,f6,f7,pI,zao,t1]
   ·rcases zdi (p 2>1073741824) with t2|t2
    ·rw[bad 2 (by decide) (by have:=of_eq_true t2;omega)]
     simp(disch:=omega)only[go_sem,seval,wqq,f1,f6,f7,pI,zao,t1,t2]
    ·have u1:=of_eq_false t1
     have u2:=of_eq_false t2
     simp(disch:=omega)only[go_sem,seval,wqq,f1,f6,f7,pI,zao,t1,t2]
     exact ih 3 _ _ (by omega) ⟨by omega,nxt 2 (by omega) rfl,by simp only[go_sem,seval,f1],by simp only[go_sem,seval,f6],by simp only[go_sem,seval],rfl⟩
  ·have hpe:=hp 3
   unfold Fits64 at hpe
   rcases zdi (p 3 < -1073741824) with t1|t1
   ·rw[bad 3 (by decide) (by have:=of_eq_true t1;omega)]
    simp(disch:=omega)only[go_sem,seval,wqq,f1,f6,f7,pI,zao,t1]
   ·rcases zdi (p 3>1073741824) with t2|t2
    ·rw[bad 3 (by decide) (by have:=of_eq_true t2;omega)]
     simp(disch:=omega)only[go_sem,seval,wqq,f1,f6,f7,pI,zao,t1,t2]
    ·have u1:=of_eq_false t1
     have u2:=of_eq_false t2
     simp(disch:=omega)only[go_sem,seval,wqq,f1,f6,f7,pI,zao,t1,t2]
     exact ih 4 _ _ (by omega) ⟨by omega,nxt 3 (by omega) rfl,by simp only[go_sem,seval,f1],by simp only[go_sem,seval,f6],by simp only[go_sem,seval],rfl⟩
  ·have hpe:=hp 4
   unfold Fits64 at hpe
   rcases zdi (p 4 < -1073741824) with t1|t1
   ·rw[bad 4 (by decide) (by have:=of_eq_true t1;omega)]
    simp(disch:=omega)only[go_sem,seval,wqq,f1,f6,f7,pI,zao,t1]
   ·rcases zdi (p 4>1073741824) with t2|t2
    ·rw[bad 4 (by decide) (by have:=of_eq_true t2;omega)]
     simp(disch:=omega)only[go_sem,seval,wqq,f1,f6,f7,pI,zao,t1,t2]
    ·have u1:=of_eq_false t1
     have u2:=of_eq_false t2
     simp(disch:=omega)only[go_sem,seval,wqq,f1,f6,f7,pI,zao,t1,t2]
     exact ih 5 _ _ (by omega) ⟨by omega,nxt 4 (by omega) rfl,by simp only[go_sem,seval,f1],by simp only[go_sem,seval,f6],by simp only[go_sem,seval],rfl⟩
  ·have hpe:=hp 5
   unfold Fits64 at hpe
   rcases zdi (p 5 < -1073741824) with t1|t1
   ·rw[bad 5 (by decide) (by have:=of_eq_true t1;omega)]
    simp(disch:=omega)only[go_sem,seval,wqq,f1,f6,f7,pI,zao,t1]
   ·rcases zdi (p 5>1073741824) with t2|t2
    ·rw[bad 5 (by decide) (by have:=of_eq_true t2;omega)]
     simp(disch:=omega)only[go_sem,seval,wqq,f1,f6,f7,pI,zao,t1,t2]
    ·have u1:=of_eq_false t1
     have u2:=of_eq_false t2
     simp(disch:=omega)only[go_sem,seval,wqq,f1,f6,f7,pI,zao,t1,t2]
     exact ih 6 _ _ (by omega) ⟨by omega,nxt 5 (by omega) rfl,by simp only[go_sem,seval,f1],by simp only[go_sem,seval,f6],by simp only[go_sem,seval],rfl⟩
  ·have hpe:=hp 6
   unfold Fits64 at hpe
   rcases zdi (p 6 < -1073741824) with t1|t1
   ·rw[bad 6 (by decide) (by have:=of_eq_true t1;omega)]
    simp(disch:=omega)only[go_sem,seval,wqq,f1,f6,f7,pI,zao,t1]
   ·rcases zdi (p 6>1073741824) with t2|t2
    ·rw[bad 6 (by decide) (by have:=of_eq_true t2;omega)]
     simp(disch:=omega)only[go_sem,seval,wqq,f1,f6,f7,pI,zao,t1,t2]
    ·have u1:=of_eq_false t1
     have u2:=of_eq_false t2
     simp(disch:=omega)only[go_sem,seval,wqq,f1,f6,f7,pI,zao,t1,t2]
     exact ih 7 _ _ (by omega) ⟨by omega,nxt 6 (by omega) rfl,by simp only[go_sem,seval,f1],by simp only[go_sem,seval,f6],by simp only[go_sem,seval],rfl⟩
  ·have hpe:=hp 7
   unfold Fits64 at hpe
   rcases zdi (p 7 < -1073741824) with t1|t1
   ·rw[bad 7 (by decide) (by have:=of_eq_true t1;omega)]
    simp(disch:=omega)only[go_sem,seval,wqq,f1,f6,f7,pI,zao,t1]
   ·rcases zdi (p 7>1073741824) with t2|t2
    ·rw[bad 7 (by decide) (by have:=of_eq_true t2;omega)]
     simp(disch:=omega)only[go_sem,seval,wqq,f1,f6,f7,pI,zao,t1,t2]
    ·have u1:=of_eq_false t1
     have u2:=of_eq_false t2
     simp(disch:=omega)only[go_sem,seval,wqq,f1,f6,f7,pI,zao,t1,t2]
     exact ih 8 _ _ (by omega) ⟨by omega,nxt 7 (by omega) rfl,by simp only[go_sem,seval,f1],by simp only[go_sem,seval,f6],by simp only[go_sem,seval],rfl⟩
  ·have hpe:=hp 8
   unfold Fits64 at hpe
   rcases zdi (p 8 < -1073741824) with t1|t1
   ·rw[bad 8 (by decide) (by have:=of_eq_true t1;omega)]
    simp(disch:=omega)only[go_sem,seval,wqq,f1,f6,f7,pI,zao,t1]
   ·rcases zdi (p 8>1073741824) with t2|t2
    ·rw[bad 8 (by decide) (by have:=of_eq_true t2;omega)]
     simp(disch:=omega)only[go_sem,seval,wqq,f1,f6,f7,pI,zao,t1,t2]
    ·have u1:=of_eq_false t1
     have u2:=of_eq_false t2
     simp(disch:=omega)only[go_sem,seval,wqq,f1,f6,f7,pI,zao,t1,t2]
     exact ih 9 _ _ (by omega) ⟨by omega,nxt 8 (by omega) rfl,by simp only[go_sem,seval,f1],by simp only[go_sem,seval,f6],by simp only[go_sem,seval],rfl⟩
 ·obtain rfl:i=9:=by omega
  rw[good hlo]
  by_cases h0:dt.v=0
  ·have c0:(cmpI dt.v 0=0)=True:=by rw[zaQ];simp[h0]
   rw[if_pos h0]
   simp(disch:=omega)only[go_sem,seval,wqq,f1,f6,f7,hm,hd,sg,c0]
  ·have c0:(cmpI dt.v 0=0)=False:=by rw[zaQ];simp[h0]
   rw[if_neg h0]
   simp(disch:=omega)only[go_sem,seval,wqq,f1,f6,f7,hm,hd,sg,c0]
end Go.Eng
namespace Go.Eng
def gN (X:Nat→Int):Nat→Nat
 | 0=>0
 | i+1=>Nat.gcd (gN X i) (X i).natAbs
def fN (X:Nat→Int):Nat→Int
 | 0=>0
 | i+1=>if fN X i=0 then cmpI (X i) 0 else fN X i
theorem zjT (X:Nat→Int):∀i,fN X i=0∨fN X i=1∨fN X i = -1
 | 0=>.inl rfl
 | i+1=>by
  have h:=ziF (X i) 0
  have:=zjT X i
  unfold fN
  split<;>omega
theorem zhf (X:Nat→Int):∀i,fN X i=0→gN X i=0
 | 0,_=>rfl
 | i+1,h=>by
  unfold fN at h
  split at h
  ·rename_i h0
   have h1:=zhf X i h0
   rw[zaQ] at h
   show Nat.gcd (gN X i) (X i).natAbs=0
   rw[h1,h];rfl
  ·rename_i h0;exact(h0 h).elim
noncomputable def gW (x:Nat→WI):Nat→WI
 | 0=>wi0
 | i+1=>(gW x i).gcd (x i)
theorem zqV (x:Nat→WI):∀i,(gW x i).v=(gN (fun e=>(x e).v) i:Int)
 | 0=>rfl
 | i+1=>by
  show ((Nat.gcd (gW x i).v.natAbs (x i).v.natAbs:Nat):Int)=_
  rw[zqV x i,Int.natAbs_natCast];rfl
noncomputable def gC (x:Nat→WI):Nat→List PV
 | 0=>[.b false,.nl]
 | i+1=>[.b (decide ((gW x (i+1)).v<0)),D (gW x (i+1)).v.natAbs]
def okN (X:Nat→Int):Prop:=∀e,e<9 → -1073741824≤X e/gN X 9∧X e/gN X 9≤1073741824
open Classical in
noncomputable def nfP (X:Nat→Int):Nat→Int:=if okN X then fun e=>X e/gN X 9*fN X 9 else zI
open Classical in
noncomputable def nfE (X:Nat→Int):Int:=if okN X then 0 else 5
theorem pI0:PV.ag [.i .i64 0,.i .i64 0,.i .i64 0,.i .i64 0,.i .i64 0,.i .i64 0,.i .i64 0,.i .i64 0,.i .i64 0]=pI zI:=rfl
theorem zjD {q s:Int} (h1 : -9223372036854775808≤q) (h2:q≤9223372036854775807) (ho:¬(-1073741824≤q∧q≤1073741824)) (hs:s=1∨s = -1):IntKind.i64.wrap (q*s) < -1073741824∨IntKind.i64.wrap (q*s)>1073741824:=by
 rcases hs with rfl|rfl
 ·rw[Int.mul_one,wqa (by omega) (by omega)];omega
 ·by_cases hm:q = -9223372036854775808
  ·subst hm;left;decide
  ·rw[show q * -1 = -q by omega,wqa (by omega) (by omega)];omega
set_option maxHeartbeats 8000000 in
theorem zhW (x:Nat→WI) (hg:gN (fun e=>(x e).v) 9≠0):pf E0 314 [mW x]=some (.tu [pI (nfP fun e=>(x e).v),.i .i64 (nfE fun e=>(x e).v)]):=by
 obtain⟨X,hX⟩:∃X:Nat→Int,X=fun e=>(x e).v:=⟨_,rfl⟩
 have gv:=zqV x 9
 rw[←hX] at hg gv ⊢
 have Xe:∀e,(x e).v=X e:=fun e=>by rw[hX]
 have fr9:=zjT X 9
 have s9:fN X 9=1∨fN X 9 = -1:=by
  rcases fr9 with h|h
  ·exact(hg (zhf X 9 h)).elim
  ·exact h
 have gw0:(gW x 9).v≠0:=by rw[gv];omega
 have bad:∀e,e<9→¬(-1073741824≤X e/gN X 9∧X e/gN X 9≤1073741824)→nfP X=zI∧nfE X=5:=fun e he h=>by
  have hn:¬okN X:=fun q=>h (q e he)
  exact⟨by unfold nfP;rw[if_neg hn],by unfold nfE;rw[if_neg hn]⟩
 have good:okN X→nfP X=(fun e=>X e/gN X 9*fN X 9)∧nfE X=0:=fun h=>⟨by unfold nfP;rw[if_pos h],by unfold nfE;rw[if_pos h]⟩
 generalize nfP X=P at *
 generalize nfE X=E at *
 have sgn:∀e,pf E0 31 [wiP (x e)]=some (.i .i64 (cmpI (X e) 0)):=fun e=>by rw[←Xe];exact zbK (x e)
 have gcd:∀e,pf E0 18 [wiP (gW x e),wiP (x e)]=some (wiP (gW x (e+1))):=fun e=>zfm (gW x e) (x e)
 refine zad (xf:=ztR) rfl (by simp[ztR]) ?_
 simp only[ztR]
 simp(disch:=omega)only[go_sem,seval,wqq]
 refine zas zuS.eq_1 (fun(i:Nat) fr M=>i≤9∧fr 1=.p 0 0∧fr 2=.p 1 0∧fr 4=.p 2 0∧fr 5=.i .i64 (fN X i)∧fr 17=mW x∧fr 18=(PV.i .i64 ((i:Nat):Int))∧∃b v G,M=some ⟨cW x,true,0⟩::some ⟨cQ 0 zI,true,b⟩::some ⟨gC x i,true,v⟩::G) (fun i=>9-i) ?_ 0 ⟨by omega,by simp only[go_sem,seval],by simp only[go_sem,seval],by simp only[go_sem,seval],by simp only[go_sem,seval];try rfl,by simp only[go_sem,seval],by simp only[go_sem,seval],_,_,[],rfl⟩
 rintro i fr M ⟨hi,f1,f2,f4,f5,f17,f18,b,v,G,rfl⟩ ih
 rcases Nat.lt_or_ge i 9 with h9|h9
 ·have h5:=f5
  by_cases h0:fN X i=0
  ·have hs:fN X (i+1)=cmpI (X i) 0:=by show (if fN X i=0 then _ else _)=_;rw[if_pos h0]
   rw[h0] at f5
   obtain rfl|rfl|rfl|rfl|rfl|rfl|rfl|rfl|rfl:=zeh h9
   ·have g1:=gcd 0
    have g2:=sgn 0
    simp(disch:=omega)only[go_sem,seval,wqq,f1,f2,f4,f5,f17,f18,mW,zab,gC,g1,g2,mG,mG0,sG,sG0,lG,lqq]
    exact ih 1 _ _ (by omega) ⟨by omega,by simp only[go_sem,seval,f1],by simp only[go_sem,seval,f2],by simp only[go_sem,seval,f4],by rw[hs];simp only[go_sem,seval],by simp only[go_sem,seval,f17],by simp only[go_sem,seval],_,_,_,rfl⟩
   ·have g1:=gcd 1
    have g2:=sgn 1
    simp(disch:=omega)only[go_sem,seval,wqq,f1,f2,f4,f5,f17,f18,mW,zab,gC,g1,g2,mG,mG0,sG,sG0,lG,lqq]
    exact ih 2 _ _ (by omega) ⟨by omega,by simp only[go_sem,seval,f1],by simp only[go_sem,seval,f2],by simp only[go_sem,seval,f4],by rw[hs];simp only[go_sem,seval],by simp only[go_sem,seval,f17],by simp only[go_sem,seval],_,_,_,rfl⟩
   ·have g1:=gcd 2
    have g2:=sgn 2
    simp(disch:=omega)only[go_sem,seval,wqq,f1,f2,f4,f5,f17,f18,mW,zab,gC,g1,g2,mG,mG0,sG,sG0,lG,lqq]
    exact ih 3 _ _ (by omega) ⟨by omega,by simp only[go_sem,seval,f1],by simp only[go_sem,seval,f2],by simp only[go_sem,seval,f4],by rw[hs];simp only[go_sem,seval],by simp only[go_sem,seval,f17],by simp only[go_sem,seval],_,_,_,rfl⟩
   ·have g1:=gcd 3
    have g2:=sgn 3
    simp(disch:=omega)only[go_sem,seval,wqq,f1,f2,f4,f5,f17,f18,mW,zab,gC,g1,g2,mG,mG0,sG,sG0,lG,lqq]
    exact ih 4 _ _ (by omega) ⟨by omega,by simp only[go_sem,seval,f1],by simp only[go_sem,seval,f2],by simp only[go_sem,seval,f4],by rw[hs];simp only[go_sem,seval],by simp only[go_sem,seval,f17],by simp only[go_sem,seval],_,_,_,rfl⟩
   ·have g1:=gcd 4
    have g2:=sgn 4
    simp(disch:=omega)only[go_sem,seval,wqq,f1,f2,f4,f5,f17,f18,mW,zab,gC,g1,g2,mG,mG0,sG,sG0,lG,lqq]
    exact ih 5 _ _ (by omega) ⟨by omega,by simp only[go_sem,seval,f1],by simp only[go_sem,seval,f2],by simp only[go_sem,seval,f4],by rw[hs];simp only[go_sem,seval],by simp only[go_sem,seval,f17],by simp only[go_sem,seval],_,_,_,rfl⟩
   ·have g1:=gcd 5
    have g2:=sgn 5
    simp(disch:=omega)only[go_sem,seval,wqq,f1,f2,f4,f5,f17,f18,mW,zab,gC,g1,g2,mG,mG0,sG,sG0,lG,lqq]
    exact ih 6 _ _ (by omega) ⟨by omega,by simp only[go_sem,seval,f1],by simp only[go_sem,seval,f2],by simp only[go_sem,seval,f4],by rw[hs];simp only[go_sem,seval],by simp only[go_sem,seval,f17],by simp only[go_sem,seval],_,_,_,rfl⟩
   ·have g1:=gcd 6
    have g2:=sgn 6
    simp(disch:=omega)only[go_sem,seval,wqq,f1,f2,f4,f5,f17,f18,mW,zab,gC,g1,g2,mG,mG0,sG,sG0,lG,lqq]
    exact ih 7 _ _ (by omega) ⟨by omega,by simp only[go_sem,seval,f1],by simp only[go_sem,seval,f2],by simp only[go_sem,seval,f4],by rw[hs];simp only[go_sem,seval],by simp only[go_sem,seval,f17],by simp only[go_sem,seval],_,_,_,rfl⟩
   ·have g1:=gcd 7
    have g2:=sgn 7
    simp(disch:=omega)only[go_sem,seval,wqq,f1,f2,f4,f5,f17,f18,mW,zab,gC,g1,g2,mG,mG0,sG,sG0,lG,lqq]
    exact ih 8 _ _ (by omega) ⟨by omega,by simp only[go_sem,seval,f1],by simp only[go_sem,seval,f2],by simp only[go_sem,seval,f4],by rw[hs];simp only[go_sem,seval],by simp only[go_sem,seval,f17],by simp only[go_sem,seval],_,_,_,rfl⟩
   ·have g1:=gcd 8
    have g2:=sgn 8
    simp(disch:=omega)only[go_sem,seval,wqq,f1,f2,f4,f5,f17,f18,mW,zab,gC,g1,g2,mG,mG0,sG,sG0,lG,lqq]
    exact ih 9 _ _ (by omega) ⟨by omega,by simp only[go_sem,seval,f1],by simp only[go_sem,seval,f2],by simp only[go_sem,seval,f4],by rw[hs];simp only[go_sem,seval],by simp only[go_sem,seval,f17],by simp only[go_sem,seval],_,_,_,rfl⟩
  ·have hs:fN X (i+1)=fN X i:=by show (if fN X i=0 then _ else _)=_;rw[if_neg h0]
   have t0:(fN X i=0)=False:=eq_false h0
   obtain rfl|rfl|rfl|rfl|rfl|rfl|rfl|rfl|rfl:=zeh h9
   ·have g1:=gcd 0
    simp(disch:=omega)only[go_sem,seval,wqq,f1,f2,f4,f5,f17,f18,mW,zab,gC,g1,t0,mG,mG0,sG,sG0,lG,lqq]
    exact ih 1 _ _ (by omega) ⟨by omega,by simp only[go_sem,seval,f1],by simp only[go_sem,seval,f2],by simp only[go_sem,seval,f4],by rw[hs];simp only[go_sem,seval,f5],by simp only[go_sem,seval,f17],by simp only[go_sem,seval],_,_,_,rfl⟩
   ·have g1:=gcd 1
    simp(disch:=omega)only[go_sem,seval,wqq,f1,f2,f4,f5,f17,f18,mW,zab,gC,g1,t0,mG,mG0,sG,sG0,lG,lqq]
    exact ih 2 _ _ (by omega) ⟨by omega,by simp only[go_sem,seval,f1],by simp only[go_sem,seval,f2],by simp only[go_sem,seval,f4],by rw[hs];simp only[go_sem,seval,f5],by simp only[go_sem,seval,f17],by simp only[go_sem,seval],_,_,_,rfl⟩
   ·have g1:=gcd 2
    simp(disch:=omega)only[go_sem,seval,wqq,f1,f2,f4,f5,f17,f18,mW,zab,gC,g1,t0,mG,mG0,sG,sG0,lG,lqq]
    exact ih 3 _ _ (by omega) ⟨by omega,by simp only[go_sem,seval,f1],by simp only[go_sem,seval,f2],by simp only[go_sem,seval,f4],by rw[hs];simp only[go_sem,seval,f5],by simp only[go_sem,seval,f17],by simp only[go_sem,seval],_,_,_,rfl⟩
   ·have g1:=gcd 3
    simp(disch:=omega)only[go_sem,seval,wqq,f1,f2,f4,f5,f17,f18,mW,zab,gC,g1,t0,mG,mG0,sG,sG0,lG,lqq]
    exact ih 4 _ _ (by omega) ⟨by omega,by simp only[go_sem,seval,f1],by simp only[go_sem,seval,f2],by simp only[go_sem,seval,f4],by rw[hs];simp only[go_sem,seval,f5],by simp only[go_sem,seval,f17],by simp only[go_sem,seval],_,_,_,rfl⟩
   ·have g1:=gcd 4
    simp(disch:=omega)only[go_sem,seval,wqq,f1,f2,f4,f5,f17,f18,mW,zab,gC,g1,t0,mG,mG0,sG,sG0,lG,lqq]
    exact ih 5 _ _ (by omega) ⟨by omega,by simp only[go_sem,seval,f1],by simp only[go_sem,seval,f2],by simp only[go_sem,seval,f4],by rw[hs];simp only[go_sem,seval,f5],by simp only[go_sem,seval,f17],by simp only[go_sem,seval],_,_,_,rfl⟩
   ·have g1:=gcd 5
    simp(disch:=omega)only[go_sem,seval,wqq,f1,f2,f4,f5,f17,f18,mW,zab,gC,g1,t0,mG,mG0,sG,sG0,lG,lqq]
    exact ih 6 _ _ (by omega) ⟨by omega,by simp only[go_sem,seval,f1],by simp only[go_sem,seval,f2],by simp only[go_sem,seval,f4],by rw[hs];simp only[go_sem,seval,f5],by simp only[go_sem,seval,f17],by simp only[go_sem,seval],_,_,_,rfl⟩
   ·have g1:=gcd 6
    simp(disch:=omega)only[go_sem,seval,wqq,f1,f2,f4,f5,f17,f18,mW,zab,gC,g1,t0,mG,mG0,sG,sG0,lG,lqq]
    exact ih 7 _ _ (by omega) ⟨by omega,by simp only[go_sem,seval,f1],by simp only[go_sem,seval,f2],by simp only[go_sem,seval,f4],by rw[hs];simp only[go_sem,seval,f5],by simp only[go_sem,seval,f17],by simp only[go_sem,seval],_,_,_,rfl⟩
   ·have g1:=gcd 7
    simp(disch:=omega)only[go_sem,seval,wqq,f1,f2,f4,f5,f17,f18,mW,zab,gC,g1,t0,mG,mG0,sG,sG0,lG,lqq]
    exact ih 8 _ _ (by omega) ⟨by omega,by simp only[go_sem,seval,f1],by simp only[go_sem,seval,f2],by simp only[go_sem,seval,f4],by rw[hs];simp only[go_sem,seval,f5],by simp only[go_sem,seval,f17],by simp only[go_sem,seval],_,_,_,rfl⟩
   ·have g1:=gcd 8
    simp(disch:=omega)only[go_sem,seval,wqq,f1,f2,f4,f5,f17,f18,mW,zab,gC,g1,t0,mG,mG0,sG,sG0,lG,lqq]
    exact ih 9 _ _ (by omega) ⟨by omega,by simp only[go_sem,seval,f1],by simp only[go_sem,seval,f2],by simp only[go_sem,seval,f4],by rw[hs];simp only[go_sem,seval,f5],by simp only[go_sem,seval,f17],by simp only[go_sem,seval],_,_,_,rfl⟩
 ·obtain rfl:i=9:=by omega
  clear ih
  have gC9:gC x 9=[.b (decide ((gW x 9).v<0)),D (gW x 9).v.natAbs]:=rfl
  generalize hgw:gW x 9=g at *
  simp(disch:=omega)only[go_sem,seval,wqq,f1,f2,f4,f5,f17,f18,gC9,mG,mG0,sG,sG0,lG,lqq]
  have dvq:∀e,((x e).div g gw0).v=X e/gN X 9:=fun e=>by
   show (x e).v/g.v=_
   rw[Xe,gv]
  refine zas zuR.eq_1 (fun(i:Nat) fr M=>i≤9∧(∀e,e<i → -1073741824≤X e/gN X 9∧X e/gN X 9≤1073741824)∧fr 2=.p 1 0∧fr 4=.p 2 0∧fr 5=.i .i64 (fN X 9)∧fr 8=.p (G.length+3) 0∧fr 29=mW x∧fr 30=(PV.i .i64 ((i:Nat):Int))∧∃b v R,M=some ⟨cW x,true,0⟩::some ⟨cQ 0 zI,true,b⟩::some ⟨[.b (decide (g.v<0)),D g.v.natAbs],true,v⟩::(G++(some ⟨cQ i (fun e=>X e/gN X 9*fN X 9),true,i⟩::R)))
   (fun i=>9-i) ?_ 0 ⟨by omega,fun e he=>by omega,by simp only[go_sem,seval,f2],by simp only[go_sem,seval,f4],by simp only[go_sem,seval,f5],by simp only[go_sem,seval],by simp only[go_sem,seval],by simp only[go_sem,seval],b,v,[],rfl⟩
  clear b v f1 f2 f4 f5 f17 f18
  rintro i fr M ⟨hi,hlo,f2,f4,f5,f8,f29,f30,b,v,R,rfl⟩ ih
  rcases Nat.lt_or_ge i 9 with h9|h9
  ·have nxt:∀j,(-1073741824≤X j/gN X 9∧X j/gN X 9≤1073741824)→j=i→∀e,e<j+1 → -1073741824≤X e/gN X 9∧X e/gN X 9≤1073741824:=fun j hj hji e he=>by
    subst hji
    rcases Nat.lt_or_ge e j with h|h
    ·exact hlo e h
    ·obtain rfl:e=j:=by omega
     exact hj
   have dv:=zk3 (x i) g gw0
   have sm:=zek ((x i).div g gw0)
   have dq:=dvq i
   generalize (x i).div g gw0=d at *
   generalize (x i).mod g gw0=d2 at *
   by_cases hq : -1073741824≤X i/gN X 9∧X i/gN X 9≤1073741824
   ·have nx:=nxt i hq rfl
    have s1:isSmall d.v=true:=by unfold isSmall;exact decide_eq_true (by rw[dq];omega)
    have s2:small d.v=X i/gN X 9:=by unfold small;rw[s1,dq];rfl
    rw[s1,s2] at sm
    have hqs : -1073741824≤X i/gN X 9*fN X 9∧X i/gN X 9*fN X 9≤1073741824:=by
     rcases s9 with h|h<;>rw[h]<;>omega
    clear dvq bad nxt
    generalize hQ:(fun e=>X e/(gN X 9:Int)*fN X 9)=Y at *
    have hY:X i/gN X 9*fN X 9=Y i:=by rw[←hQ]
    have t1:(Y i < -1073741824)=False:=eq_false (by omega)
    have t2:(Y i>1073741824)=False:=eq_false (by omega)
    rw[hY] at hqs
    generalize X i/(gN X 9:Int)=q at *
    obtain rfl|rfl|rfl|rfl|rfl|rfl|rfl|rfl|rfl:=zeh h9
    ·simp(disch:=omega)only[go_sem,seval,wqq,f2,f4,f5,f8,f29,f30,mW,zab,dv,sm,hY,t1,t2,mG,mG0,sG,sG0,lG,lqq]
     exact ih 1 _ _ (by omega) ⟨by omega,nx,by simp only[go_sem,seval,f2],by simp only[go_sem,seval,f4],by simp only[go_sem,seval,f5],by simp only[go_sem,seval,f8],by simp only[go_sem,seval,f29],by simp only[go_sem,seval],b,v,_,rfl⟩
    ·simp(disch:=omega)only[go_sem,seval,wqq,f2,f4,f5,f8,f29,f30,mW,zab,dv,sm,hY,t1,t2,mG,mG0,sG,sG0,lG,lqq]
     exact ih 2 _ _ (by omega) ⟨by omega,nx,by simp only[go_sem,seval,f2],by simp only[go_sem,seval,f4],by simp only[go_sem,seval,f5],by simp only[go_sem,seval,f8],by simp only[go_sem,seval,f29],by simp only[go_sem,seval],b,v,_,rfl⟩
    ·simp(disch:=omega)only[go_sem,seval,wqq,f2,f4,f5,f8,f29,f30,mW,zab,dv,sm,hY,t1,t2,mG,mG0,sG,sG0,lG,lqq]
     exact ih 3 _ _ (by omega) ⟨by omega,nx,by simp only[go_sem,seval,f2],by simp only[go_sem,seval,f4],by simp only[go_sem,seval,f5],by simp only[go_sem,seval,f8],by simp only[go_sem,seval,f29],by simp only[go_sem,seval],b,v,_,rfl⟩
    ·simp(disch:=omega)only[go_sem,seval,wqq,f2,f4,f5,f8,f29,f30,mW,zab,dv,sm,hY,t1,t2,mG,mG0,sG,sG0,lG,lqq]
     exact ih 4 _ _ (by omega) ⟨by omega,nx,by simp only[go_sem,seval,f2],by simp only[go_sem,seval,f4],by simp only[go_sem,seval,f5],by simp only[go_sem,seval,f8],by simp only[go_sem,seval,f29],by simp only[go_sem,seval],b,v,_,rfl⟩
    ·simp(disch:=omega)only[go_sem,seval,wqq,f2,f4,f5,f8,f29,f30,mW,zab,dv,sm,hY,t1,t2,mG,mG0,sG,sG0,lG,lqq]
     exact ih 5 _ _ (by omega) ⟨by omega,nx,by simp only[go_sem,seval,f2],by simp only[go_sem,seval,f4],by simp only[go_sem,seval,f5],by simp only[go_sem,seval,f8],by simp only[go_sem,seval,f29],by simp only[go_sem,seval],b,v,_,rfl⟩
    ·simp(disch:=omega)only[go_sem,seval,wqq,f2,f4,f5,f8,f29,f30,mW,zab,dv,sm,hY,t1,t2,mG,mG0,sG,sG0,lG,lqq]
     exact ih 6 _ _ (by omega) ⟨by omega,nx,by simp only[go_sem,seval,f2],by simp only[go_sem,seval,f4],by simp only[go_sem,seval,f5],by simp only[go_sem,seval,f8],by simp only[go_sem,seval,f29],by simp only[go_sem,seval],b,v,_,rfl⟩
    ·simp(disch:=omega)only[go_sem,seval,wqq,f2,f4,f5,f8,f29,f30,mW,zab,dv,sm,hY,t1,t2,mG,mG0,sG,sG0,lG,lqq]
     exact ih 7 _ _ (by omega) ⟨by omega,nx,by simp only[go_sem,seval,f2],by simp only[go_sem,seval,f4],by simp only[go_sem,seval,f5],by simp only[go_sem,seval,f8],by simp only[go_sem,seval,f29],by simp only[go_sem,seval],b,v,_,rfl⟩
    ·simp(disch:=omega)only[go_sem,seval,wqq,f2,f4,f5,f8,f29,f30,mW,zab,dv,sm,hY,t1,t2,mG,mG0,sG,sG0,lG,lqq]
     exact ih 8 _ _ (by omega) ⟨by omega,nx,by simp only[go_sem,seval,f2],by simp only[go_sem,seval,f4],by simp only[go_sem,seval,f5],by simp only[go_sem,seval,f8],by simp only[go_sem,seval,f29],by simp only[go_sem,seval],b,v,_,rfl⟩
    ·simp(disch:=omega)only[go_sem,seval,wqq,f2,f4,f5,f8,f29,f30,mW,zab,dv,sm,hY,t1,t2,mG,mG0,sG,sG0,lG,lqq]
     exact ih 9 _ _ (by omega) ⟨by omega,nx,by simp only[go_sem,seval,f2],by simp only[go_sem,seval,f4],by simp only[go_sem,seval,f5],by simp only[go_sem,seval,f8],by simp only[go_sem,seval,f29],by simp only[go_sem,seval],b,v,_,rfl⟩
   ·obtain⟨rfl,rfl⟩:=bad i h9 hq
    clear ih good dvq bad nxt
    by_cases hs:isSmall d.v=true
    ·have s2:small d.v=X i/gN X 9:=by unfold small;rw[if_pos hs,dq]
     rw[hs,s2] at sm
     have hb : -9223372036854775808≤X i/gN X 9∧X i/gN X 9≤9223372036854775807:=by rw[←dq];exact of_decide_eq_true hs
     have wo:=zjD hb.1 hb.2 hq s9
     generalize X i/(gN X 9:Int)=q at *
     generalize hW:IntKind.i64.wrap (q*fN X 9)=w at *
     rcases zdi (w < -1073741824) with t1|t1
     ·obtain rfl|rfl|rfl|rfl|rfl|rfl|rfl|rfl|rfl:=zeh h9 <;>
      simp(disch:=omega)only[go_sem,seval,wqq,f2,f4,f5,f8,f29,f30,mW,zab,dv,sm,hW,t1,pI0,mG,mG0,sG,sG0,lG,lqq]
     ·have t2:(w>1073741824)=True:=eq_true (by have:=of_eq_false t1;omega)
      obtain rfl|rfl|rfl|rfl|rfl|rfl|rfl|rfl|rfl:=zeh h9 <;>
      simp(disch:=omega)only[go_sem,seval,wqq,f2,f4,f5,f8,f29,f30,mW,zab,dv,sm,hW,t1,t2,pI0,mG,mG0,sG,sG0,lG,lqq]
    ·have hs:isSmall d.v=false:=by simpa using hs
     have s2:small d.v=0:=by unfold small;rw[hs];rfl
     rw[hs,s2] at sm
     obtain rfl|rfl|rfl|rfl|rfl|rfl|rfl|rfl|rfl:=zeh h9 <;>
     simp(disch:=omega)only[go_sem,seval,wqq,f2,f4,f5,f8,f29,f30,mW,zab,dv,sm,pI0,mG,mG0,sG,sG0,lG,lqq]
  ·obtain rfl:i=9:=by omega
   obtain⟨rfl,rfl⟩:=good hlo
   simp(disch:=omega)only[go_sem,seval,wqq,f2,f4,f5,f8,f29,f30,cQ9,mG,mG0,sG,sG0,lG,lqq]
end Go.Eng
namespace Go.Eng
end Go.Eng
namespace Go.Eng
def sB (n:Nat):Nat→Bool:=fun e=>decide (e<n)
def rtK (a b c d e:Int):Int:=a*(b*c)-a*(d*e)
def rdV (z:Nat→Int):Int:=0+rtK (z 0) (z 4) (z 8) (z 5) (z 7)+rtK (z 1) (z 5) (z 6) (z 3) (z 8)+rtK (z 2) (z 3) (z 7) (z 4) (z 6)
end Go.Eng
namespace Go.Eng
end Go.Eng
namespace Go.Eng
noncomputable def pS (a b:Nat→WI) (i k:Nat):Nat→WI
 | 0=>wi0
 | j+1=>aW (pS a b i k j) (tW (a (3*i+j)) (b (3*j+k)))
noncomputable def prW (a b:Nat→WI):Nat→WI:=fun e=>pS a b (e/3) (e%3) 3
set_option maxHeartbeats 4000000 in
theorem zni (a b:Nat→WI):pf E0 316 [mW a,mW b]=some (mW (prW a b)):=by
 refine zad (xf:=ztF) rfl (by simp[ztF]) ?_
 simp only[ztF]
 simp(disch:=omega)only[go_sem,seval,wqq]
 refine zas zuK.eq_1 (fun(i:Nat) fr M=>i≤3∧fr 2=.p 0 0∧fr 3=.p 1 0∧fr 4=.p 2 0∧fr 5=.p 3 0∧fr 9=(PV.i .i64 ((i:Nat):Int))∧∃c v,M=[some ⟨cW a,true,0⟩,some ⟨cW b,true,0⟩,some ⟨cP 0 zW,true,c⟩,some ⟨cS (sB (3*i)) (prW a b),true,v⟩]) (fun i=>3-i) ?_ 0 ⟨by omega,by simp only[go_sem,seval],by simp only[go_sem,seval],by simp only[go_sem,seval],by simp only[go_sem,seval],by simp only[go_sem,seval],_,_,rfl⟩
 rintro i fr M ⟨hi,f2,f3,f4,f5,f9,c,v,rfl⟩ ih
 rcases Nat.lt_or_ge i 3 with h3|h3
 ·have q1:((i:Int)<3)=True:=eq_true (by omega)
  simp(disch:=omega)only[go_sem,seval,wqq,f2,f3,f4,f5,f9,q1]
  refine zas zuM.eq_1 (fun(k:Nat) fr M=>k≤3∧fr 2=.p 0 0∧fr 3=.p 1 0∧fr 4=.p 2 0∧fr 5=.p 3 0∧fr 9=(PV.i .i64 ((i:Nat):Int))∧fr 6=(PV.i .i64 ((i:Nat):Int))∧fr 12=(PV.i .i64 ((k:Nat):Int))∧∃c v,M=[some ⟨cW a,true,0⟩,some ⟨cW b,true,0⟩,some ⟨cP 0 zW,true,c⟩,some ⟨cS (sB (3*i+k)) (prW a b),true,v⟩]) (fun k=>3-k) ?_ 0 ⟨by omega,by simp only[go_sem,seval,f2],by simp only[go_sem,seval,f3],by simp only[go_sem,seval,f4],by simp only[go_sem,seval,f5],by simp only[go_sem,seval,f9],by simp only[go_sem,seval],by simp only[go_sem,seval],_,_,rfl⟩
  rintro k fr M ⟨hk,f2,f3,f4,f5,f9,f6,f12,c,v,rfl⟩ ih2
  rcases Nat.lt_or_ge k 3 with h4|h4
  ·have q2:((k:Int)<3)=True:=eq_true (by omega)
   obtain rfl|rfl|rfl:=zgR h3<;>obtain rfl|rfl|rfl:=zgR h4
   ·have t1:=zaj (a 0) (b 0)
    have t2:=zaj (a 1) (b 3)
    have t3:=zaj (a 2) (b 6)
    have s1:=zap wi0 (tW (a 0) (b 0))
    have s2:=zap (aW wi0 (tW (a 0) (b 0))) (tW (a 1) (b 3))
    have s3:=zap (aW (aW wi0 (tW (a 0) (b 0))) (tW (a 1) (b 3))) (tW (a 2) (b 6))
    simp(disch:=omega)only[go_sem,seval,wqq,f2,f3,f4,f5,f9,f6,f12]
    refine zac zs7.eq_1 ?_
    simp(disch:=omega)only[go_sem,seval,wqq,f2,f3,f4,f5,f9,f6,f12]
    refine zaf [26] rfl ?_ ?_
    ·simp(disch:=omega)only[go_sem,seval,wqq,f2,f3,f4,f5,f9,f6,f12,zab,zal,sB,t1,s1]
     exact⟨_,rfl,rfl⟩
    simp(disch:=omega)only[go_sem,seval,wqq,f2,f3,f4,f5,f9,f6,f12,zab,zal,sB,t1,s1]
    refine zac zs7.eq_1 ?_
    simp(disch:=omega)only[go_sem,seval,wqq,f2,f3,f4,f5,f9,f6,f12]
    refine zaf [26] rfl ?_ ?_
    ·simp(disch:=omega)only[go_sem,seval,wqq,f2,f3,f4,f5,f9,f6,f12,zab,zal,sB,t2,s2]
     exact⟨_,rfl,rfl⟩
    simp(disch:=omega)only[go_sem,seval,wqq,f2,f3,f4,f5,f9,f6,f12,zab,zal,sB,t2,s2]
    refine zac zs7.eq_1 ?_
    simp(disch:=omega)only[go_sem,seval,wqq,f2,f3,f4,f5,f9,f6,f12]
    refine zaf [26] rfl ?_ ?_
    ·simp(disch:=omega)only[go_sem,seval,wqq,f2,f3,f4,f5,f9,f6,f12,zab,zal,sB,t3,s3]
     exact⟨_,rfl,rfl⟩
    simp(disch:=omega)only[go_sem,seval,wqq,f2,f3,f4,f5,f9,f6,f12,zab,zal,sB,t3,s3]
    refine zac zs7.eq_1 ?_
    simp(disch:=omega)only[go_sem,seval,wqq,f2,f3,f4,f5,f9,f6,f12]
    exact ih2 1 _ _ (by omega) ⟨by omega,by simp only[go_sem,seval,f2],by simp only[go_sem,seval,f3],by simp only[go_sem,seval,f4],by simp only[go_sem,seval,f5],by simp only[go_sem,seval,f9],by simp only[go_sem,seval,f6],by simp only[go_sem,seval],_,_,rfl⟩
   ·have t1:=zaj (a 0) (b 1)
    have t2:=zaj (a 1) (b 4)
    have t3:=zaj (a 2) (b 7)
    have s1:=zap wi0 (tW (a 0) (b 1))
    have s2:=zap (aW wi0 (tW (a 0) (b 1))) (tW (a 1) (b 4))
    have s3:=zap (aW (aW wi0 (tW (a 0) (b 1))) (tW (a 1) (b 4))) (tW (a 2) (b 7))
    simp(disch:=omega)only[go_sem,seval,wqq,f2,f3,f4,f5,f9,f6,f12]
    refine zac zs7.eq_1 ?_
    simp(disch:=omega)only[go_sem,seval,wqq,f2,f3,f4,f5,f9,f6,f12]
    refine zaf [26] rfl ?_ ?_
    ·simp(disch:=omega)only[go_sem,seval,wqq,f2,f3,f4,f5,f9,f6,f12,zab,zal,sB,t1,s1]
     exact⟨_,rfl,rfl⟩
    simp(disch:=omega)only[go_sem,seval,wqq,f2,f3,f4,f5,f9,f6,f12,zab,zal,sB,t1,s1]
    refine zac zs7.eq_1 ?_
    simp(disch:=omega)only[go_sem,seval,wqq,f2,f3,f4,f5,f9,f6,f12]
    refine zaf [26] rfl ?_ ?_
    ·simp(disch:=omega)only[go_sem,seval,wqq,f2,f3,f4,f5,f9,f6,f12,zab,zal,sB,t2,s2]
     exact⟨_,rfl,rfl⟩
    simp(disch:=omega)only[go_sem,seval,wqq,f2,f3,f4,f5,f9,f6,f12,zab,zal,sB,t2,s2]
    refine zac zs7.eq_1 ?_
    simp(disch:=omega)only[go_sem,seval,wqq,f2,f3,f4,f5,f9,f6,f12]
    refine zaf [26] rfl ?_ ?_
    ·simp(disch:=omega)only[go_sem,seval,wqq,f2,f3,f4,f5,f9,f6,f12,zab,zal,sB,t3,s3]
     exact⟨_,rfl,rfl⟩
    simp(disch:=omega)only[go_sem,seval,wqq,f2,f3,f4,f5,f9,f6,f12,zab,zal,sB,t3,s3]
    refine zac zs7.eq_1 ?_
    simp(disch:=omega)only[go_sem,seval,wqq,f2,f3,f4,f5,f9,f6,f12]
    exact ih2 2 _ _ (by omega) ⟨by omega,by simp only[go_sem,seval,f2],by simp only[go_sem,seval,f3],by simp only[go_sem,seval,f4],by simp only[go_sem,seval,f5],by simp only[go_sem,seval,f9],by simp only[go_sem,seval,f6],by simp only[go_sem,seval],_,_,rfl⟩
   ·have t1:=zaj (a 0) (b 2)
    have t2:=zaj (a 1) (b 5)
    have t3:=zaj (a 2) (b 8)
    have s1:=zap wi0 (tW (a 0) (b 2))
    have s2:=zap (aW wi0 (tW (a 0) (b 2))) (tW (a 1) (b 5))
    have s3:=zap (aW (aW wi0 (tW (a 0) (b 2))) (tW (a 1) (b 5))) (tW (a 2) (b 8))
    simp(disch:=omega)only[go_sem,seval,wqq,f2,f3,f4,f5,f9,f6,f12]
    refine zac zs7.eq_1 ?_
    simp(disch:=omega)only[go_sem,seval,wqq,f2,f3,f4,f5,f9,f6,f12]
    refine zaf [26] rfl ?_ ?_
    ·simp(disch:=omega)only[go_sem,seval,wqq,f2,f3,f4,f5,f9,f6,f12,zab,zal,sB,t1,s1]
     exact⟨_,rfl,rfl⟩
    simp(disch:=omega)only[go_sem,seval,wqq,f2,f3,f4,f5,f9,f6,f12,zab,zal,sB,t1,s1]
    refine zac zs7.eq_1 ?_
    simp(disch:=omega)only[go_sem,seval,wqq,f2,f3,f4,f5,f9,f6,f12]
    refine zaf [26] rfl ?_ ?_
    ·simp(disch:=omega)only[go_sem,seval,wqq,f2,f3,f4,f5,f9,f6,f12,zab,zal,sB,t2,s2]
     exact⟨_,rfl,rfl⟩
    simp(disch:=omega)only[go_sem,seval,wqq,f2,f3,f4,f5,f9,f6,f12,zab,zal,sB,t2,s2]
    refine zac zs7.eq_1 ?_
    simp(disch:=omega)only[go_sem,seval,wqq,f2,f3,f4,f5,f9,f6,f12]
    refine zaf [26] rfl ?_ ?_
    ·simp(disch:=omega)only[go_sem,seval,wqq,f2,f3,f4,f5,f9,f6,f12,zab,zal,sB,t3,s3]
     exact⟨_,rfl,rfl⟩
    simp(disch:=omega)only[go_sem,seval,wqq,f2,f3,f4,f5,f9,f6,f12,zab,zal,sB,t3,s3]
    refine zac zs7.eq_1 ?_
    simp(disch:=omega)only[go_sem,seval,wqq,f2,f3,f4,f5,f9,f6,f12]
    exact ih2 3 _ _ (by omega) ⟨by omega,by simp only[go_sem,seval,f2],by simp only[go_sem,seval,f3],by simp only[go_sem,seval,f4],by simp only[go_sem,seval,f5],by simp only[go_sem,seval,f9],by simp only[go_sem,seval,f6],by simp only[go_sem,seval],_,_,rfl⟩
   ·have t1:=zaj (a 3) (b 0)
    have t2:=zaj (a 4) (b 3)
    have t3:=zaj (a 5) (b 6)
    have s1:=zap wi0 (tW (a 3) (b 0))
    have s2:=zap (aW wi0 (tW (a 3) (b 0))) (tW (a 4) (b 3))
    have s3:=zap (aW (aW wi0 (tW (a 3) (b 0))) (tW (a 4) (b 3))) (tW (a 5) (b 6))
    simp(disch:=omega)only[go_sem,seval,wqq,f2,f3,f4,f5,f9,f6,f12]
    refine zac zs7.eq_1 ?_
    simp(disch:=omega)only[go_sem,seval,wqq,f2,f3,f4,f5,f9,f6,f12]
    refine zaf [26] rfl ?_ ?_
    ·simp(disch:=omega)only[go_sem,seval,wqq,f2,f3,f4,f5,f9,f6,f12,zab,zal,sB,t1,s1]
     exact⟨_,rfl,rfl⟩
    simp(disch:=omega)only[go_sem,seval,wqq,f2,f3,f4,f5,f9,f6,f12,zab,zal,sB,t1,s1]
    refine zac zs7.eq_1 ?_
    simp(disch:=omega)only[go_sem,seval,wqq,f2,f3,f4,f5,f9,f6,f12]
    refine zaf [26] rfl ?_ ?_
    ·simp(disch:=omega)only[go_sem,seval,wqq,f2,f3,f4,f5,f9,f6,f12,zab,zal,sB,t2,s2]
     exact⟨_,rfl,rfl⟩
    simp(disch:=omega)only[go_sem,seval,wqq,f2,f3,f4,f5,f9,f6,f12,zab,zal,sB,t2,s2]
    refine zac zs7.eq_1 ?_
    simp(disch:=omega)only[go_sem,seval,wqq,f2,f3,f4,f5,f9,f6,f12]
    refine zaf [26] rfl ?_ ?_
    ·simp(disch:=omega)only[go_sem,seval,wqq,f2,f3,f4,f5,f9,f6,f12,zab,zal,sB,t3,s3]
     exact⟨_,rfl,rfl⟩
    simp(disch:=omega)only[go_sem,seval,wqq,f2,f3,f4,f5,f9,f6,f12,zab,zal,sB,t3,s3]
    refine zac zs7.eq_1 ?_
    simp(disch:=omega)only[go_sem,seval,wqq,f2,f3,f4,f5,f9,f6,f12]
    exact ih2 1 _ _ (by omega) ⟨by omega,by simp only[go_sem,seval,f2],by simp only[go_sem,seval,f3],by simp only[go_sem,seval,f4],by simp only[go_sem,seval,f5],by simp only[go_sem,seval,f9],by simp only[go_sem,seval,f6],by simp only[go_sem,seval],_,_,rfl⟩
   ·have t1:=zaj (a 3) (b 1)
    have t2:=zaj (a 4) (b 4)
    have t3:=zaj (a 5) (b 7)
    have s1:=zap wi0 (tW (a 3) (b 1))
    have s2:=zap (aW wi0 (tW (a 3) (b 1))) (tW (a 4) (b 4))
    have s3:=zap (aW (aW wi0 (tW (a 3) (b 1))) (tW (a 4) (b 4))) (tW (a 5) (b 7))
    simp(disch:=omega)only[go_sem,seval,wqq,f2,f3,f4,f5,f9,f6,f12]
    refine zac zs7.eq_1 ?_
    simp(disch:=omega)only[go_sem,seval,wqq,f2,f3,f4,f5,f9,f6,f12]
    refine zaf [26] rfl ?_ ?_
    ·simp(disch:=omega)only[go_sem,seval,wqq,f2,f3,f4,f5,f9,f6,f12,zab,zal,sB,t1,s1]
     exact⟨_,rfl,rfl⟩
    simp(disch:=omega)only[go_sem,seval,wqq,f2,f3,f4,f5,f9,f6,f12,zab,zal,sB,t1,s1]
    refine zac zs7.eq_1 ?_
    simp(disch:=omega)only[go_sem,seval,wqq,f2,f3,f4,f5,f9,f6,f12]
    refine zaf [26] rfl ?_ ?_
    ·simp(disch:=omega)only[go_sem,seval,wqq,f2,f3,f4,f5,f9,f6,f12,zab,zal,sB,t2,s2]
     exact⟨_,rfl,rfl⟩
    simp(disch:=omega)only[go_sem,seval,wqq,f2,f3,f4,f5,f9,f6,f12,zab,zal,sB,t2,s2]
    refine zac zs7.eq_1 ?_
    simp(disch:=omega)only[go_sem,seval,wqq,f2,f3,f4,f5,f9,f6,f12]
    refine zaf [26] rfl ?_ ?_
    ·simp(disch:=omega)only[go_sem,seval,wqq,f2,f3,f4,f5,f9,f6,f12,zab,zal,sB,t3,s3]
     exact⟨_,rfl,rfl⟩
    simp(disch:=omega)only[go_sem,seval,wqq,f2,f3,f4,f5,f9,f6,f12,zab,zal,sB,t3,s3]
    refine zac zs7.eq_1 ?_
    simp(disch:=omega)only[go_sem,seval,wqq,f2,f3,f4,f5,f9,f6,f12]
    exact ih2 2 _ _ (by omega) ⟨by omega,by simp only[go_sem,seval,f2],by simp only[go_sem,seval,f3],by simp only[go_sem,seval,f4],by simp only[go_sem,seval,f5],by simp only[go_sem,seval,f9],by simp only[go_sem,seval,f6],by simp only[go_sem,seval],_,_,rfl⟩
   ·have t1:=zaj (a 3) (b 2)
    have t2:=zaj (a 4) (b 5)
    have t3:=zaj (a 5) (b 8)
    have s1:=zap wi0 (tW (a 3) (b 2))
    have s2:=zap (aW wi0 (tW (a 3) (b 2))) (tW (a 4) (b 5))
    have s3:=zap (aW (aW wi0 (tW (a 3) (b 2))) (tW (a 4) (b 5))) (tW (a 5) (b 8))
    simp(disch:=omega)only[go_sem,seval,wqq,f2,f3,f4,f5,f9,f6,f12]
    refine zac zs7.eq_1 ?_
    simp(disch:=omega)only[go_sem,seval,wqq,f2,f3,f4,f5,f9,f6,f12]
    refine zaf [26] rfl ?_ ?_
    ·simp(disch:=omega)only[go_sem,seval,wqq,f2,f3,f4,f5,f9,f6,f12,zab,zal,sB,t1,s1]
     exact⟨_,rfl,rfl⟩
    simp(disch:=omega)only[go_sem,seval,wqq,f2,f3,f4,f5,f9,f6,f12,zab,zal,sB,t1,s1]
    refine zac zs7.eq_1 ?_
    simp(disch:=omega)only[go_sem,seval,wqq,f2,f3,f4,f5,f9,f6,f12]
    refine zaf [26] rfl ?_ ?_
    ·simp(disch:=omega)only[go_sem,seval,wqq,f2,f3,f4,f5,f9,f6,f12,zab,zal,sB,t2,s2]
     exact⟨_,rfl,rfl⟩
    simp(disch:=omega)only[go_sem,seval,wqq,f2,f3,f4,f5,f9,f6,f12,zab,zal,sB,t2,s2]
    refine zac zs7.eq_1 ?_
    simp(disch:=omega)only[go_sem,seval,wqq,f2,f3,f4,f5,f9,f6,f12]
    refine zaf [26] rfl ?_ ?_
    ·simp(disch:=omega)only[go_sem,seval,wqq,f2,f3,f4,f5,f9,f6,f12,zab,zal,sB,t3,s3]
     exact⟨_,rfl,rfl⟩
    simp(disch:=omega)only[go_sem,seval,wqq,f2,f3,f4,f5,f9,f6,f12,zab,zal,sB,t3,s3]
    refine zac zs7.eq_1 ?_
    simp(disch:=omega)only[go_sem,seval,wqq,f2,f3,f4,f5,f9,f6,f12]
    exact ih2 3 _ _ (by omega) ⟨by omega,by simp only[go_sem,seval,f2],by simp only[go_sem,seval,f3],by simp only[go_sem,seval,f4],by simp only[go_sem,seval,f5],by simp only[go_sem,seval,f9],by simp only[go_sem,seval,f6],by simp only[go_sem,seval],_,_,rfl⟩
   ·have t1:=zaj (a 6) (b 0)
    have t2:=zaj (a 7) (b 3)
    have t3:=zaj (a 8) (b 6)
    have s1:=zap wi0 (tW (a 6) (b 0))
    have s2:=zap (aW wi0 (tW (a 6) (b 0))) (tW (a 7) (b 3))
    have s3:=zap (aW (aW wi0 (tW (a 6) (b 0))) (tW (a 7) (b 3))) (tW (a 8) (b 6))
    simp(disch:=omega)only[go_sem,seval,wqq,f2,f3,f4,f5,f9,f6,f12]
    refine zac zs7.eq_1 ?_
    simp(disch:=omega)only[go_sem,seval,wqq,f2,f3,f4,f5,f9,f6,f12]
    refine zaf [26] rfl ?_ ?_
    ·simp(disch:=omega)only[go_sem,seval,wqq,f2,f3,f4,f5,f9,f6,f12,zab,zal,sB,t1,s1]
     exact⟨_,rfl,rfl⟩
    simp(disch:=omega)only[go_sem,seval,wqq,f2,f3,f4,f5,f9,f6,f12,zab,zal,sB,t1,s1]
    refine zac zs7.eq_1 ?_
    simp(disch:=omega)only[go_sem,seval,wqq,f2,f3,f4,f5,f9,f6,f12]
    refine zaf [26] rfl ?_ ?_
    ·simp(disch:=omega)only[go_sem,seval,wqq,f2,f3,f4,f5,f9,f6,f12,zab,zal,sB,t2,s2]
     exact⟨_,rfl,rfl⟩
    simp(disch:=omega)only[go_sem,seval,wqq,f2,f3,f4,f5,f9,f6,f12,zab,zal,sB,t2,s2]
    refine zac zs7.eq_1 ?_
    simp(disch:=omega)only[go_sem,seval,wqq,f2,f3,f4,f5,f9,f6,f12]
    refine zaf [26] rfl ?_ ?_
    ·simp(disch:=omega)only[go_sem,seval,wqq,f2,f3,f4,f5,f9,f6,f12,zab,zal,sB,t3,s3]
     exact⟨_,rfl,rfl⟩
    simp(disch:=omega)only[go_sem,seval,wqq,f2,f3,f4,f5,f9,f6,f12,zab,zal,sB,t3,s3]
    refine zac zs7.eq_1 ?_
    simp(disch:=omega)only[go_sem,seval,wqq,f2,f3,f4,f5,f9,f6,f12]
    exact ih2 1 _ _ (by omega) ⟨by omega,by simp only[go_sem,seval,f2],by simp only[go_sem,seval,f3],by simp only[go_sem,seval,f4],by simp only[go_sem,seval,f5],by simp only[go_sem,seval,f9],by simp only[go_sem,seval,f6],by simp only[go_sem,seval],_,_,rfl⟩
   ·have t1:=zaj (a 6) (b 1)
    have t2:=zaj (a 7) (b 4)
    have t3:=zaj (a 8) (b 7)
    have s1:=zap wi0 (tW (a 6) (b 1))
    have s2:=zap (aW wi0 (tW (a 6) (b 1))) (tW (a 7) (b 4))
    have s3:=zap (aW (aW wi0 (tW (a 6) (b 1))) (tW (a 7) (b 4))) (tW (a 8) (b 7))
    simp(disch:=omega)only[go_sem,seval,wqq,f2,f3,f4,f5,f9,f6,f12]
    refine zac zs7.eq_1 ?_
    simp(disch:=omega)only[go_sem,seval,wqq,f2,f3,f4,f5,f9,f6,f12]
    refine zaf [26] rfl ?_ ?_
    ·simp(disch:=omega)only[go_sem,seval,wqq,f2,f3,f4,f5,f9,f6,f12,zab,zal,sB,t1,s1]
     exact⟨_,rfl,rfl⟩
    simp(disch:=omega)only[go_sem,seval,wqq,f2,f3,f4,f5,f9,f6,f12,zab,zal,sB,t1,s1]
    refine zac zs7.eq_1 ?_
    simp(disch:=omega)only[go_sem,seval,wqq,f2,f3,f4,f5,f9,f6,f12]
    refine zaf [26] rfl ?_ ?_
    ·simp(disch:=omega)only[go_sem,seval,wqq,f2,f3,f4,f5,f9,f6,f12,zab,zal,sB,t2,s2]
     exact⟨_,rfl,rfl⟩
    simp(disch:=omega)only[go_sem,seval,wqq,f2,f3,f4,f5,f9,f6,f12,zab,zal,sB,t2,s2]
    refine zac zs7.eq_1 ?_
    simp(disch:=omega)only[go_sem,seval,wqq,f2,f3,f4,f5,f9,f6,f12]
    refine zaf [26] rfl ?_ ?_
    ·simp(disch:=omega)only[go_sem,seval,wqq,f2,f3,f4,f5,f9,f6,f12,zab,zal,sB,t3,s3]
     exact⟨_,rfl,rfl⟩
    simp(disch:=omega)only[go_sem,seval,wqq,f2,f3,f4,f5,f9,f6,f12,zab,zal,sB,t3,s3]
    refine zac zs7.eq_1 ?_
    simp(disch:=omega)only[go_sem,seval,wqq,f2,f3,f4,f5,f9,f6,f12]
    exact ih2 2 _ _ (by omega) ⟨by omega,by simp only[go_sem,seval,f2],by simp only[go_sem,seval,f3],by simp only[go_sem,seval,f4],by simp only[go_sem,seval,f5],by simp only[go_sem,seval,f9],by simp only[go_sem,seval,f6],by simp only[go_sem,seval],_,_,rfl⟩
   ·have t1:=zaj (a 6) (b 2)
    have t2:=zaj (a 7) (b 5)
    have t3:=zaj (a 8) (b 8)
    have s1:=zap wi0 (tW (a 6) (b 2))
    have s2:=zap (aW wi0 (tW (a 6) (b 2))) (tW (a 7) (b 5))
    have s3:=zap (aW (aW wi0 (tW (a 6) (b 2))) (tW (a 7) (b 5))) (tW (a 8) (b 8))
    simp(disch:=omega)only[go_sem,seval,wqq,f2,f3,f4,f5,f9,f6,f12]
    refine zac zs7.eq_1 ?_
    simp(disch:=omega)only[go_sem,seval,wqq,f2,f3,f4,f5,f9,f6,f12]
    refine zaf [26] rfl ?_ ?_
    ·simp(disch:=omega)only[go_sem,seval,wqq,f2,f3,f4,f5,f9,f6,f12,zab,zal,sB,t1,s1]
     exact⟨_,rfl,rfl⟩
    simp(disch:=omega)only[go_sem,seval,wqq,f2,f3,f4,f5,f9,f6,f12,zab,zal,sB,t1,s1]
    refine zac zs7.eq_1 ?_
    simp(disch:=omega)only[go_sem,seval,wqq,f2,f3,f4,f5,f9,f6,f12]
    refine zaf [26] rfl ?_ ?_
    ·simp(disch:=omega)only[go_sem,seval,wqq,f2,f3,f4,f5,f9,f6,f12,zab,zal,sB,t2,s2]
     exact⟨_,rfl,rfl⟩
    simp(disch:=omega)only[go_sem,seval,wqq,f2,f3,f4,f5,f9,f6,f12,zab,zal,sB,t2,s2]
    refine zac zs7.eq_1 ?_
    simp(disch:=omega)only[go_sem,seval,wqq,f2,f3,f4,f5,f9,f6,f12]
    refine zaf [26] rfl ?_ ?_
    ·simp(disch:=omega)only[go_sem,seval,wqq,f2,f3,f4,f5,f9,f6,f12,zab,zal,sB,t3,s3]
     exact⟨_,rfl,rfl⟩
    simp(disch:=omega)only[go_sem,seval,wqq,f2,f3,f4,f5,f9,f6,f12,zab,zal,sB,t3,s3]
    refine zac zs7.eq_1 ?_
    simp(disch:=omega)only[go_sem,seval,wqq,f2,f3,f4,f5,f9,f6,f12]
    exact ih2 3 _ _ (by omega) ⟨by omega,by simp only[go_sem,seval,f2],by simp only[go_sem,seval,f3],by simp only[go_sem,seval,f4],by simp only[go_sem,seval,f5],by simp only[go_sem,seval,f9],by simp only[go_sem,seval,f6],by simp only[go_sem,seval],_,_,rfl⟩
  ·obtain rfl:k=3:=by omega
   simp(disch:=omega)only[go_sem,seval,wqq,f2,f3,f4,f5,f9,f6,f12]
   exact ih (i+1) _ _ (by omega) ⟨by omega,by simp only[go_sem,seval,f2],by simp only[go_sem,seval,f3],by simp only[go_sem,seval,f4],by simp only[go_sem,seval,f5],by simp only[go_sem,seval];rw[Int.natCast_succ],c,v,rfl⟩
 ·obtain rfl:i=3:=by omega
  have c9:cS (sB (3*3)) (prW a b)=cW (prW a b):=rfl
  simp(disch:=omega)only[go_sem,seval,wqq,f2,f3,f4,f5,f9,c9]
end Go.Eng
namespace Go.Eng
def rpK (a b c d e f:Int):Int:=0+a*b+c*d+e*f
def rprV (z u:Nat→Int):Nat→Int:=fun e=>rpK (z (3*(e/3))) (u (e%3)) (z (3*(e/3)+1)) (u (3+e%3)) (z (3*(e/3)+2)) (u (6+e%3))
end Go.Eng
namespace Go.Eng
end Go.Eng
namespace Go.Eng
theorem zb1 (a b:Int):wlen (a*b).natAbs≤wlen a.natAbs+wlen b.natAbs:=by
 rw[Int.natAbs_mul]
 refine zaM.2 ?_
 rw[Nat.pow_add]
 exact Nat.mul_lt_mul'' (zag _) (zag _)
theorem zjA (a b:Nat):wlen (a+b)≤max (wlen a) (wlen b)+1:=by
 refine zaM.2 ?_
 have h1:4294967296^wlen a≤4294967296^max (wlen a) (wlen b):=Nat.pow_le_pow_right (by decide) (Nat.le_max_left _ _)
 have h2:4294967296^wlen b≤4294967296^max (wlen a) (wlen b):=Nat.pow_le_pow_right (by decide) (Nat.le_max_right _ _)
 have h3:=zag a
 have h4:=zag b
 rw[Nat.pow_succ]
 generalize 4294967296^max (wlen a) (wlen b)=t at *
 omega
theorem zb0 (a b:Int):wlen (a+b).natAbs≤max (wlen a.natAbs) (wlen b.natAbs)+1 :=
 Nat.le_trans (zbb (Int.natAbs_add_le a b)) (zjA _ _)
theorem zeW (a b:Int):wlen (a-b).natAbs≤max (wlen a.natAbs) (wlen b.natAbs)+1:=by
 have:=zb0 a (-b)
 rw[Int.natAbs_neg] at this
 rw[Int.sub_eq_add_neg];exact this
theorem zjs {a b:WI} {n m:Nat} (ha:wlen a.v.natAbs≤n) (hb:wlen b.v.natAbs≤m) (h:n+m≤512):(tW a b).v=a.v*b.v∧wlen (a.v*b.v).natAbs≤n+m:=by
 have:=zb1 a.v b.v
 exact⟨zdc (by omega),by omega⟩
theorem zlY {a b:WI} {n m:Nat} (ha:wlen a.v.natAbs≤n) (hb:wlen b.v.natAbs≤m) (h:max n m+1≤512):(aW a b).v=a.v+b.v∧wlen (a.v+b.v).natAbs≤max n m+1:=by
 have:=zb0 a.v b.v
 exact⟨zdc (by omega),by omega⟩
theorem zsE {a b:WI} {n m:Nat} (ha:wlen a.v.natAbs≤n) (hb:wlen b.v.natAbs≤m) (h:max n m+1≤512):(sW a b).v=a.v-b.v∧wlen (a.v-b.v).natAbs≤max n m+1:=by
 have:=zeW a.v b.v
 exact⟨zdc (by omega),by omega⟩
def mnV (X:Nat→Int) (i k:Nat):Int:=X (3*((i+1)%3)+(k+1)%3)*X (3*((i+2)%3)+(k+2)%3)-X (3*((i+1)%3)+(k+2)%3)*X (3*((i+2)%3)+(k+1)%3)
theorem zmK {x:Nat→WI} {n:Nat} (hx:∀e,wlen (x e).v.natAbs≤n) (hn:n≤100) (i k:Nat):(mnW x i k).v=mnV (fun e=>(x e).v) i k∧wlen (mnW x i k).v.natAbs≤2*n+1:=by
 unfold mnW mnV
 obtain⟨a1,a2⟩:=zjs (hx (3*((i+1)%3)+(k+1)%3)) (hx (3*((i+2)%3)+(k+2)%3)) (by omega)
 obtain⟨b1,b2⟩:=zjs (hx (3*((i+1)%3)+(k+2)%3)) (hx (3*((i+2)%3)+(k+1)%3)) (by omega)
 rw[←a1] at a2
 rw[←b1] at b2
 obtain⟨c1,c2⟩:=zsE a2 b2 (by omega)
 rw[a1,b1] at c1
 exact⟨c1,by rw[←a1,←b1] at c1;rw[c1];omega⟩
theorem zo3 {x:Nat→WI} {n:Nat} (hx:∀e,wlen (x e).v.natAbs≤n) (hn:n≤100):(dtW x).v=rdV (fun e=>(x e).v):=by
 obtain⟨a1,a2⟩:=zmK hx hn 0 0
 obtain⟨b1,b2⟩:=zmK hx hn 0 1
 obtain⟨c1,c2⟩:=zmK hx hn 0 2
 obtain⟨t1,u1⟩:=zjs (hx 0) a2 (by omega)
 obtain⟨t2,u2⟩:=zjs (hx 1) b2 (by omega)
 obtain⟨t3,u3⟩:=zjs (hx 2) c2 (by omega)
 rw[←t1] at u1
 rw[←t2] at u2
 rw[←t3] at u3
 obtain⟨s1,v1⟩:=zlY u1 u2 (by omega)
 rw[←s1] at v1
 obtain⟨s2,v2⟩:=zlY v1 u3 (by omega)
 have e:(dtW x).v=(aW (aW (tW (x 0) (mnW x 0 0)) (tW (x 1) (mnW x 0 1))) (tW (x 2) (mnW x 0 2))).v:=rfl
 rw[e,s2,s1,t1,t2,t3,a1,b1,c1]
 unfold rdV rtK mnV
 simp only[Nat.reduceAdd,Nat.reduceMul,Nat.reduceMod]
 generalize (x 0).v=y0
 generalize (x 1).v=y1
 generalize (x 2).v=y2
 generalize (x 3).v=y3
 generalize (x 4).v=y4
 generalize (x 5).v=y5
 generalize (x 6).v=y6
 generalize (x 7).v=y7
 generalize (x 8).v=y8
 grind
theorem zsC {x y:Nat→WI} {n:Nat} (hx:∀e,wlen (x e).v.natAbs≤n) (hy:∀e,wlen (y e).v.natAbs≤n) (hn:n≤100) (e:Nat):(prW x y e).v=rprV (fun e=>(x e).v) (fun e=>(y e).v) e:=by
 have e0:prW x y e=aW (aW (aW wi0 (tW (x (3*(e/3)+0)) (y (3*0+e%3)))) (tW (x (3*(e/3)+1)) (y (3*1+e%3)))) (tW (x (3*(e/3)+2)) (y (3*2+e%3))):=rfl
 obtain⟨t1,u1⟩:=zjs (hx (3*(e/3)+0)) (hy (3*0+e%3)) (by omega)
 obtain⟨t2,u2⟩:=zjs (hx (3*(e/3)+1)) (hy (3*1+e%3)) (by omega)
 obtain⟨t3,u3⟩:=zjs (hx (3*(e/3)+2)) (hy (3*2+e%3)) (by omega)
 rw[←t1] at u1
 rw[←t2] at u2
 rw[←t3] at u3
 have z0:wlen wi0.v.natAbs≤0:=Nat.le_of_eq rfl
 obtain⟨s1,v1⟩:=zlY z0 u1 (by omega)
 rw[←s1] at v1
 obtain⟨s2,v2⟩:=zlY v1 u2 (by omega)
 rw[←s2] at v2
 obtain⟨s3,_⟩:=zlY v2 u3 (by omega)
 rw[e0,s3,s2,s1,t1,t2,t3]
 unfold rprV rpK
 simp only[Nat.add_zero,Nat.mul_zero,Nat.mul_one,Nat.zero_add]
 rfl
end Go.Eng
namespace Go.Eng
def mE:Nat→Int:=fun e=>monoI.getD e 0
def exN (i j:Nat):Nat:=(mE (i*3+j)).toNat
def pw3 (X:Nat→Int) (i:Nat):Nat→Int
 | 0=>1
 | j+1=>pw3 X i j*X j^exN i j
def sumT (f:Nat→Int):Nat→Int
 | 0=>0
 | n+1=>sumT f n+f n
noncomputable def wc (t:WI):List PV:=[.b (decide (t.v<0)),D t.v.natAbs]
structure WZ (L:List PV) (s:WI):Prop where
 len:L.length=2
 sc:L.all PV.scal=true
 fz:∀(M:PM) (d:Nat),fzL (fz M (d+1)) L=some (wc s,[])
end Go.Eng
namespace Go.Eng
def cg (n:Nat) (f:Nat→List PV):List PV:=(List.range n).flatMap f
end Go.Eng
namespace Go.Eng
def prL (X:Nat→Int):List Int→Int
 | []=>1
 | a::l=>X a.toNat*prL X l
end Go.Eng
namespace Go.Eng
end Go.Eng
namespace Go.Eng
end Go.Eng
namespace Go.Eng
end Go.Eng
namespace Go.Eng
theorem zfW {f:FQ} {n d p q:Int} (hd:d≠0) (hq:0<q) (hc:Nat.gcd p.natAbs q.natAbs=1) (hf:f.is n d) (e:n*q=p*d):f.p.v=p∧f.q.v=q:=by
 unfold FQ.is at hf
 have q1:=f.q1
 refine zef (by omega) hq f.cop hc ?_
 apply Int.eq_of_mul_eq_mul_right (a:=d) hd
 calc f.p.v*q*d=f.p.v*d*q:=by grind
  _=n*f.q.v*q:=by rw[hf]
  _=n*q*f.q.v:=by grind
  _=p*d*f.q.v:=by rw[e]
  _=p*f.q.v*d:=by grind
theorem zhd {z:Int} {v n:Nat} (hz:z=(v:Int)) (h1:10^n≤v) (h2:v<10^(n+1)):decI z=dtx (n+1) v:=by
 subst hz
 unfold decI;rw[if_neg (by omega),Int.natAbs_natCast]
 exact ziI h1 h2
theorem zgq (f:FQ) {p q:Int} {t:List UInt8} (h1:f.p.v=p) (h2:f.q.v=q) (ht:ftx p q=t):pf E0 16 [fqP f]=some (.s t):=by
 rw[←ht,←h1,←h2];exact zhS f
end Go.Eng
namespace Go.Eng
theorem ziz {f g h:FQ} {n d m e:Int} (hf:f.is n d) (hg:g.is m e) (hh:h.is (f.p.v*g.q.v+g.p.v*f.q.v) (f.q.v*g.q.v)):h.is (n*e+m*d) (d*e):=by
 have qf:=f.q1
 have qg:=g.q1
 unfold FQ.is at *
 apply Int.eq_of_mul_eq_mul_right (a:=f.q.v*g.q.v) (Int.mul_ne_zero (by omega) (by omega))
 calc h.p.v*(d*e)*(f.q.v*g.q.v)=h.p.v*(f.q.v*g.q.v)*(d*e):=by grind
  _=(f.p.v*g.q.v+g.p.v*f.q.v)*h.q.v*(d*e):=by rw[hh]
  _=(f.p.v*d*g.q.v*e+g.p.v*e*f.q.v*d)*h.q.v:=by grind
  _=(n*f.q.v*g.q.v*e+m*g.q.v*f.q.v*d)*h.q.v:=by rw[hf,hg]
  _=(n*e+m*d)*h.q.v*(f.q.v*g.q.v):=by grind
theorem zi2 {f g h:FQ} {n d m e:Int} (hf:f.is n d) (hg:g.is m e) (hh:h.is (f.p.v*g.p.v) (f.q.v*g.q.v)):h.is (n*m) (d*e):=by
 have qf:=f.q1
 have qg:=g.q1
 unfold FQ.is at *
 apply Int.eq_of_mul_eq_mul_right (a:=f.q.v*g.q.v) (Int.mul_ne_zero (by omega) (by omega))
 calc h.p.v*(d*e)*(f.q.v*g.q.v)=h.p.v*(f.q.v*g.q.v)*(d*e):=by grind
  _=f.p.v*g.p.v*h.q.v*(d*e):=by rw[hh]
  _=f.p.v*d*(g.p.v*e)*h.q.v:=by grind
  _=n*f.q.v*(m*g.q.v)*h.q.v:=by rw[hf,hg]
  _=n*m*h.q.v*(f.q.v*g.q.v):=by grind
theorem zjG (a b:FQ) {n m:Nat} {x d y e:Int} (ha:fsz n a) (hb:fsz m b) (h:n+m+1<1230) (xa:a.is x d) (xb:b.is y e):∃f:FQ,pf E0 9 [fqP a,fqP b]=some (.tu [fqP f,.i .i64 0])∧f.is (x*e+y*d) (d*e)∧fsz (n+m+1) f:=by
 obtain⟨f,h1,h2,h3⟩:=zlZ a b ha hb h
 exact⟨f,h1,ziz xa xb h2,h3⟩
theorem zjY (a b:FQ) {n m:Nat} {x d y e:Int} (ha:fsz n a) (hb:fsz m b) (h:n+m<1230) (xa:a.is x d) (xb:b.is y e):∃f:FQ,pf E0 8 [fqP a,fqP b]=some (.tu [fqP f,.i .i64 0])∧f.is (x*y) (d*e)∧fsz (n+m) f:=by
 obtain⟨f,h1,h2,h3⟩:=zmL a b ha hb h
 exact⟨f,h1,zi2 xa xb h2,h3⟩
end Go.Eng
namespace Go.Eng
theorem zff {f:FQ} {n d n' d':Int} (hd:d≠0) (h:f.is n d) (e:n*d'=n'*d):f.is n' d':=by
 unfold FQ.is at *
 apply Int.eq_of_mul_eq_mul_right hd
 calc f.p.v*d'*d=f.p.v*d*d':=by grind
  _=n*f.q.v*d':=by rw[h]
  _=n*d'*f.q.v:=by grind
  _=n'*d*f.q.v:=by rw[e]
  _=n'*f.q.v*d:=by grind
end Go.Eng
namespace Go.Eng
end Go.Eng
namespace Go.Eng
end Go.Eng
namespace Go.Eng
theorem zfK {f g h:FQ} {n d m e:Int} (hf:f.is n d) (hg:g.is m e) (hm:g.p.v≠0) (hh:h.is (f.p.v*g.q.v) (f.q.v*g.p.v)):h.is (n*e) (d*m):=by
 have qf:=f.q1
 have qg:=g.q1
 unfold FQ.is at *
 apply Int.eq_of_mul_eq_mul_right (a:=f.q.v*g.q.v*g.p.v) (Int.mul_ne_zero (Int.mul_ne_zero (by omega) (by omega)) hm)
 calc h.p.v*(d*m)*(f.q.v*g.q.v*g.p.v)=h.p.v*(f.q.v*g.p.v)*(d*(m*g.q.v)):=by grind
  _=f.p.v*g.q.v*h.q.v*(d*(g.p.v*e)):=by rw[hh,hg]
  _=f.p.v*d*(g.q.v*h.q.v*(g.p.v*e)):=by grind
  _=n*f.q.v*(g.q.v*h.q.v*(g.p.v*e)):=by rw[hf]
  _=n*e*h.q.v*(f.q.v*g.q.v*g.p.v):=by grind
def nbits (k:Nat):Nat:=if k=0 then 0 else Nat.log2 k+1
theorem zcD {k:Nat} (h:k≠0):nbits k=nbits (k/2)+1:=by
 unfold nbits
 rw[if_neg h]
 by_cases h2:2≤k
 ·rw[if_neg (by omega),Nat.log2_def k,if_pos h2]
 ·have:k=1:=by omega
  subst this;rfl
theorem zcp {k n:Nat} (h:k<2^n):nbits k≤n:=by
 unfold nbits
 split
 ·omega
 ·rename_i h0
  have:=(Nat.log2_lt h0).2 h
  omega
end Go.Eng
namespace Go.Eng
end Go.Eng
namespace Go.Eng
structure TerOk (X Y S:Int) (C R:Nat) (hs:List Int):Prop where
 c:2≤C∧C≤128
 r:2≤R∧R≤128
 s:1≤S∧S≤65536
 x : -1048576≤X∧X+(C-1)*S≤1048576
 y : -1048576≤Y∧Y+(R-1)*S≤1048576
 len:hs.length=C*R
 h:∀n∈hs,-16384≤n∧n≤16384
theorem TerOk.ints {X Y S:Int} {C R:Nat} {hs:List Int} (t:TerOk X Y S C R hs):Ints hs:=by
 refine⟨?_,fun n hn=>?_⟩
 ·have:C*R≤128*128:=Nat.mul_le_mul t.c.2 t.r.2
  rw[t.len];omega
 ·have:=t.h n hn
  unfold Fits64;omega
end Go.Eng
namespace Go.Eng
end Go.Eng
namespace Go.Eng
end Go.Eng
namespace Go.Eng
end Go.Eng
namespace Go.Eng
end Go.Eng
namespace Go.Eng
end Go.Eng
namespace Go.Eng
end Go.Eng
namespace Go.Eng
end Go.Eng
namespace Go.Eng
theorem zdd (a b:Int):(0≤cmpI a b)=(b≤a):=by
 unfold cmpI
 simp only[eq_iff_iff]
 split
 ·omega
 ·split<;>omega
end Go.Eng
namespace Go.Eng
end Go.Eng
namespace Go.Eng
end Go.Eng
namespace Go.Eng
theorem zhA {k m:Nat} (h:2^m≤k):nbits k=nbits (k/2^m)+m:=by
 induction m with
 | zero=>simp
 | succ m ih =>
  have h1:2^m≤k:=Nat.le_trans (Nat.pow_le_pow_right (by decide) (Nat.le_succ m)) h
  have h2:k/2^m≠0:=by
   have:=Nat.div_pos h1 (Nat.pow_pos (by decide))
   omega
  have e:k/2^m/2=k/2^(m+1):=by rw[Nat.div_div_eq_div_mul,←Nat.pow_succ]
  have h3:=zcD h2
  rw[e] at h3
  have h4:=ih h1
  omega
theorem zhz:nbits 1=1:=by unfold nbits;rw[if_neg (by decide)];rfl
def pw (i:Nat):Nat:=2^(2^i)
theorem zeR (i:Nat):0<pw i:=Nat.pow_pos (by decide)
theorem znu (i:Nat):2≤pw i:=by
 unfold pw
 have:2^1≤2^(2^i):=Nat.pow_le_pow_right (by decide) (Nat.one_le_two_pow)
 omega
theorem zfr (i:Nat):pw (i+1)=pw i*pw i:=by
 unfold pw
 rw[←Nat.pow_add,Nat.pow_succ]
 congr 1
 omega
theorem zh9:pw 0=2:=rfl
theorem zgG {x i:Nat} (h:pw i≤x):nbits x=nbits (x/pw i)+2^i:=zhA h
theorem znt {x i:Nat} (h:x<pw (i+1)):x/pw i<pw i:=by
 rw[zfr] at h
 exact Nat.div_lt_of_lt_mul h
theorem zly {x i:Nat} (h:pw i≤x):1≤x/pw i:=Nat.div_pos h (zeR i)
end Go.Eng
namespace Go.Eng
theorem zjk (i:Nat):pw i<pw (i+1):=by
 rw[zfr]
 have:=znu i
 have h2:pw i*2≤pw i*pw i:=Nat.mul_le_mul_left _ this
 omega
theorem zfV {i:Nat} (h:inR (pw i)):i<14:=by
 rcases Nat.lt_or_ge i 14 with q|q
 ·exact q
 ·exfalso
  obtain⟨K,hK⟩:∃K,K=16384:=⟨_,rfl⟩
  obtain⟨a,ha⟩:∃a,a=14:=⟨_,rfl⟩
  rw[←ha] at q
  have h1:2^a≤2^i:=Nat.pow_le_pow_right (by decide) q
  have h2:2^(2^a)≤pw i:=Nat.pow_le_pow_right (by decide) h1
  have e:2^a=K:=by rw[hK,ha]
  rw[e] at h2
  unfold inR at h
  rw[←hK] at h
  omega
theorem zdJ {a b:Nat} (h:a≤b) (hb:inR b):inR a:=Nat.lt_of_le_of_lt h hb
noncomputable def pwI (i:Nat):WI:=clip ((pw i:Nat):Int)
theorem zgL {i:Nat} (h:inR (pw i)):(pwI i).v=((pw i:Nat):Int):=(zdk (z:=((pw i:Nat):Int)) (by rw[Int.natAbs_natCast];exact h)).1
noncomputable def pwL:Nat→List PV
 | 0=>[]
 | j+1=>pwL j++[.b (decide ((pwI j).v<0)),D (pwI j).v.natAbs]
theorem zel:∀j,(pwL j).length=2*j
 | 0=>rfl
 | j+1=>by rw[pwL,List.length_append,zel j];simp;omega
theorem zka:∀{j i:Nat},i<j→((pwL j).drop (i*2)).take 2=[.b (decide ((pwI i).v<0)),D (pwI i).v.natAbs]
 | 0,i,h=>by omega
 | j+1,i,h=>by
  have hl:=zel j
  rw[pwL]
  by_cases hi:i<j
  ·rw[List.drop_append_of_le_length (by omega),List.take_append_of_le_length (by simp;omega)]
   exact zka hi
  ·obtain rfl:i=j:=by omega
   rw[List.drop_left' (show (pwL i).length=i*2 by omega)];rfl
theorem zoD (P:PM) (L:List PV) (w1 w2:PV) (r1 r2:Option PB) {j:Nat} (hl:L.length=2*j) (hj:j≤100) (h0:0<j):appP (P++[some ⟨L,true,0⟩,r1,r2,some ⟨[w1,w2],true,0⟩]) 2 32 (.sl P.length 0 j j 2) (.sl (P.length+3) 0 1 1 2) =
  some (.sl (P.length+4) 0 (j+1) (j+1) 2,P++[none,r1,r2,some ⟨[w1,w2],true,0⟩,some ⟨L++[w1,w2],true,0⟩]):=by
 have es:srcP (P++[some (⟨L,true,0⟩:PB),r1,r2,some (⟨[w1,w2],true,0⟩:PB)]) 2 (.sl (P.length+3) 0 1 1 2)=some (1,[w1,w2]):=by
  simp only[srcP,PM.rd,mG]
  rfl
 have e2:PM.blk (P++[some (⟨L,true,0⟩:PB),r1,r2,some (⟨[w1,w2],true,0⟩:PB)]) P.length=some (⟨L,true,0⟩:PB):=by rw[mG0];rfl
 unfold appP
 rw[es]
 simp only[e2]
 rw[if_neg (by simp),if_neg (by decide),if_pos ⟨trivial,by rw[hl];omega,by omega⟩,sG0]
 simp only[List.drop_zero,List.set_cons_zero,lqq,List.length_append,List.length_cons,List.length_nil]
 rw[List.take_of_length_le (by omega)]
theorem zlD {i:Nat} (h:i<14):binP .shl (.i .i64 1) (.i .i64 (i:Int))=some (.i .i64 ((2^i:Nat):Int)):=by
 have h1:2^i≤2^13:=Nat.pow_le_pow_right (by decide) (by omega)
 rw[zc5 _ _ _ _ (by omega),Int.toNat_natCast,show min i (IntKind.bits .i64)=i by simp only[IntKind.bits];omega,Int.one_mul]
 have e:(2:Int)^i=((2^i:Nat):Int):=by simp
 rw[e]
 generalize 2^i=t at *
 rw[wqa (by omega) (by omega)]
set_option maxHeartbeats 2000000 in
theorem zjN {F:PFin} {ks:List KI} {K J:Nat} {x0:WI} (hR:inR K) (hx0:x0.v=(K:Int)) (hK:1≤K) (hlt:K<pw J) (hJ:J=0∨pw (J-1)≤K) {G R:PM} {fr:PFr} {v:Nat}
  (f1:fr 1=.p 0 0) (f3:fr 3=(PV.i .i64 ((0:Nat):Int))) (f6:fr 6=if J=0 then .nl else .sl (G.length+1) 0 J J 2) (f10:fr 10=.i .i64 ((J:Int)-1))
  (cont:∀fr' v' (y:WI),y.v=1→fr' 1=.p 0 0→fr' 3=.i .i64 ((nbits K:Int)-1)→UK E0 F (.exit 4) ks fr' (some ⟨[.b (decide (y.v<0)),D y.v.natAbs],true,v'⟩::(G++(some ⟨pwL J,true,0⟩::R)))) :
  WK E0 F (.loop zul) ks fr (some ⟨[.b (decide (x0.v<0)),D x0.v.natAbs],true,v⟩::(G++(some ⟨pwL J,true,0⟩::R))):=by
 have hnb:nbits K≤16384:=by
  obtain⟨q,hq⟩:∃q,q=16384:=⟨_,rfl⟩
  unfold inR at hR
  rw[←hq] at hR ⊢
  exact zcp hR
 have hJ14:∀i,i<J→i<14∧inR (pw i):=fun i hi=>by
  have hm:∀d,pw i≤pw (i+d):=fun d=>by
   induction d with
   | zero=>exact Nat.le_refl _
   | succ d ih=>exact Nat.le_trans ih (Nat.le_of_lt (zjk _))
  have h1:=hm (J-1-i)
  rw[show i+(J-1-i)=J-1 by omega] at h1
  have h2:inR (pw i):=zdJ (by omega) hR
  exact⟨zfV h2,h2⟩
 refine zas zul.eq_1 (fun(i:Nat) fr M=>i≤J∧∃(y:WI) (Y n v:Nat),y.v=(Y:Int)∧1≤Y∧Y<pw i∧nbits K=nbits Y+n∧fr 1=.p 0 0∧fr 3=(PV.i .i64 ((n:Nat):Int))∧fr 6=(if J=0 then .nl else .sl (G.length+1) 0 J J 2)∧fr 10=.i .i64 ((i:Int)-1) ∧
  M=some ⟨[.b (decide (y.v<0)),D y.v.natAbs],true,v⟩::(G++(some ⟨pwL J,true,0⟩::R))) (fun i=>i) ?_ J ⟨Nat.le_refl _,x0,K,0,v,hx0,hK,hlt,rfl,f1,f3,f6,f10,rfl⟩
 rintro i fr M ⟨hi,y,Y,n,v,hy,hY,hYi,hn,f1,f3,f6,f10,rfl⟩ ih
 cases i with
 | zero =>
  have hY1:Y=1:=by rw[zh9] at hYi;omega
  subst hY1
  have f3':fr 3=.i .i64 ((nbits K:Int)-1):=by
   rw[f3,hn,zhz];congr 1;omega
  have q0:((((0:Nat):Int)-1)≥0)=False:=eq_false (by omega)
  simp(disch:=omega)only[go_sem,seval,wqq,f10,q0]
  exact cont _ v y hy (by simp only[go_sem,seval,f1]) (by simp only[go_sem,seval,f3'])
 | succ i =>
  obtain⟨i14,iR⟩:=hJ14 i (by omega)
  have hJ0:J≠0:=by omega
  rw[if_neg hJ0] at f6
  have f6':=f6
  have f10:fr 10=(PV.i .i64 ((i:Nat):Int)):=by rw[f10];congr 1;omega
  have q0:((i:Int)≥0)=True:=eq_true (by omega)
  have pv:=zgL iR
  have cm:=zcs y (pwI i)
  rw[hy,pv] at cm
  have at_:=zka (j:=J) (i:=i) (by omega)
  have hl:=zel J
  have hiJ:(i<J)=True:=eq_true (by omega)
  have h2i:(i*2+2≤2*J)=True:=eq_true (by omega)
  by_cases hc:pw i≤Y
  ·have c0:(cmpI ((Y:Nat):Int) ((pw i:Nat):Int)≥0)=True:=eq_true (by rw[ge_iff_le,zdd];omega)
   simp(disch:=omega)only[go_sem,seval,wqq,f1,f3,f6,f10,q0,cm,c0,hiJ,h2i,hl,at_,mG,mG0,sG,sG0,lG,lqq]
   have dv:=zk3 y (pwI i) (by rw[pv];have:=zeR i;omega)
   have dvv:(y.div (pwI i) (by rw[pv];have:=zeR i;omega)).v=((Y/pw i:Nat):Int):=by
    show y.v/(pwI i).v=_
    rw[hy,pv];rfl
   generalize y.div (pwI i) (by rw[pv];have:=zeR i;omega)=y2 at *
   generalize y.mod (pwI i) (by rw[pv];have:=zeR i;omega)=y3 at *
   have sh:=zlD i14
   have st:=zgG hc
   have p14:2^i≤2^14:=Nat.pow_le_pow_right (by decide) (by omega)
   have g1:=znt hYi
   have g0:=zly hc
   have hs:(n:Int)+((2^i:Nat):Int)=((n+2^i:Nat):Int):=by push_cast;rfl
   generalize 2^i=t at *
   simp(disch:=omega)only[go_sem,seval,wqq,f1,f3,f6,f10,q0,cm,c0,hiJ,h2i,hl,at_,dv,sh,hs,mG,mG0,sG,sG0,lG,lqq]
   exact ih i _ _ (by omega) ⟨by omega,y2,Y/pw i,n+t,_,dvv,g0,g1,by omega,by simp only[go_sem,seval,f1],by simp only[go_sem,seval],by rw[if_neg hJ0];simp only[go_sem,seval,f6],by simp only[go_sem,seval,f10],rfl⟩
  ·have c0:(cmpI ((Y:Nat):Int) ((pw i:Nat):Int)≥0)=False:=eq_false (by rw[ge_iff_le,zdd];omega)
   simp(disch:=omega)only[go_sem,seval,wqq,f1,f3,f6,f10,q0,cm,c0,hiJ,h2i,hl,at_,mG,mG0,sG,sG0,lG,lqq]
   exact ih i _ _ (by omega) ⟨by omega,y,Y,n,_,hy,hY,by omega,by omega,by simp only[go_sem,seval,f1],by simp only[go_sem,seval,f3],by rw[if_neg hJ0];simp only[go_sem,seval,f6],by simp only[go_sem,seval,f10],rfl⟩
end Go.Eng
namespace Go.Eng
theorem zlj (x:WI) (h:x.v.natAbs≤9223372036854775807):pf E0 63 [wiP x]=some (.i .i64 (nbits x.v.natAbs:Int)):=by
 have nb:nbits x.v.natAbs≤63:=zcp (by omega)
 have fin:∀(y:WI),y.v=(x.v.natAbs:Int)→pf E0 80 [wiP y]=some (.tu [.i .i64 (x.v.natAbs:Int),.b true]):=fun y hy=>by
  have sm:=zek y
  have s1:isSmall (x.v.natAbs:Int)=true:=by unfold isSmall;exact decide_eq_true ⟨by omega,by omega⟩
  have s2:small (x.v.natAbs:Int)=(x.v.natAbs:Int):=by unfold small;rw[if_pos s1]
  rw[hy,s1,s2] at sm
  exact sm
 have sg:=zbK x
 refine zad (xf:=ztq) rfl (by simp[ztq]) ?_
 simp only[ztq]
 by_cases hn:x.v<0
 ·have t0:(cmpI x.v 0<0)=True:=by rw[zcT];simp[hn]
  have n1:=zjb x
  have sm:=fin x.neg (by show-x.v=_;omega)
  generalize x.neg=y at *
  generalize x.v.natAbs=K at *
  simp(disch:=omega)only[go_sem,seval,wqq,sg,t0,n1,sm]
  refine zas zum.eq_1 (fun(σ:Nat×Nat) fr M=>σ.1+nbits σ.2=nbits K∧σ.2≤K∧fr 3=(PV.i .i64 ((σ.1:Nat):Int))∧fr 4=(PV.i .i64 ((σ.2:Nat):Int))) (fun σ=>σ.2) ?_ (0,K) ⟨by simp,Nat.le_refl _,by simp only[go_sem,seval],by simp only[go_sem,seval]⟩
  rintro⟨n,k⟩ fr M ⟨hs,hk,f3,f4⟩ ih
  simp only at hs hk f3 f4
  by_cases hk0:k=0
  ·have q1:((k:Int)>0)=False:=by simp;omega
   have hN:n=nbits K:=by rw[←hs,hk0];rfl
   rw[←hN]
   simp(disch:=omega)only[go_sem,seval,wqq,f3,f4,q1]
  ·have q1:((k:Int)>0)=True:=by simp;omega
   have k2:(k:Int).tdiv 2=((k/2:Nat):Int):=zc0 _ 2
   have hh:=zcD hk0
   simp(disch:=omega)only[go_sem,seval,wqq,f3,f4,q1,k2]
   exact ih (n+1,k/2) _ _ (by simp only;omega) ⟨by simp only;omega,by simp only;omega,by simp only[go_sem,seval];rw[Int.natCast_succ],by simp only[go_sem,seval]⟩
 ·have t0:(cmpI x.v 0<0)=False:=by rw[zcT];simp[hn]
  have sm:=fin x (by omega)
  obtain⟨K,hK⟩:∃K:Nat,K=x.v.natAbs:=⟨_,rfl⟩
  rw[←hK] at sm nb ⊢
  have hKl:K≤9223372036854775807:=by omega
  simp(disch:=omega)only[go_sem,seval,wqq,sg,t0,sm]
  refine zas zum.eq_1 (fun(σ:Nat×Nat) fr M=>σ.1+nbits σ.2=nbits K∧σ.2≤K∧fr 3=(PV.i .i64 ((σ.1:Nat):Int))∧fr 4=(PV.i .i64 ((σ.2:Nat):Int))) (fun σ=>σ.2) ?_ (0,K) ⟨by simp,Nat.le_refl _,by simp only[go_sem,seval],by simp only[go_sem,seval]⟩
  rintro⟨n,k⟩ fr M ⟨hs,hk,f3,f4⟩ ih
  simp only at hs hk f3 f4
  by_cases hk0:k=0
  ·have q1:((k:Int)>0)=False:=by simp;omega
   have hN:n=nbits K:=by rw[←hs,hk0];rfl
   rw[←hN]
   simp(disch:=omega)only[go_sem,seval,wqq,f3,f4,q1]
  ·have q1:((k:Int)>0)=True:=by simp;omega
   have k2:(k:Int).tdiv 2=((k/2:Nat):Int):=zc0 _ 2
   have hh:=zcD hk0
   simp(disch:=omega)only[go_sem,seval,wqq,f3,f4,q1,k2]
   exact ih (n+1,k/2) _ _ (by simp only;omega) ⟨by simp only;omega,by simp only;omega,by simp only[go_sem,seval];rw[Int.natCast_succ],by simp only[go_sem,seval]⟩
theorem zjZ {j:Nat} (h:inR (pw j)):pf E0 38 [wiP (pwI j),wiP (pwI j)]=some (.tu [wiP (pwI (j+1)),.i .i64 (lerr ((pw (j+1):Nat):Int))]):=by
 rw[zhO,zgL h,←Int.natCast_mul,←zfr];rfl
theorem zsh (b0 b1:Option PB) (w1 w2:PV):appP [b0,b1,some ⟨[w1,w2],true,0⟩] 2 32 .nl (.sl 2 0 1 1 2)=some (.sl 3 0 1 1 2,[b0,b1,some ⟨[w1,w2],true,0⟩,some ⟨[w1,w2],true,0⟩]):=rfl
theorem zmE {v K:Nat} (hK:K=16384) (h:v<2^K):inR v:=by subst hK;exact h
theorem zhq:inR (pw 1):=by
 obtain⟨K,hK⟩:∃K,K=16384:=⟨_,rfl⟩
 have h:pw 1<2^K:=Nat.lt_of_lt_of_le (show pw 1<2^3 by decide) (Nat.pow_le_pow_right (by decide) (by omega))
 exact zmE hK h
set_option maxHeartbeats 2000000 in
theorem zjM {F:PFin} {ks:List KI} {K:Nat} {x0:WI} (hR:inR K) (hx0:x0.v=(K:Int)) (hK:9223372036854775807<K) {fr:PFr} {v:Nat} {v1:Nat}
  (f1:fr 1=.p 0 0) (f3:fr 3=(PV.i .i64 ((0:Nat):Int))) (f6:fr 6=.nl) (f7:fr 7=.p 1 0)
  (cont:∀fr' (G:PM) (J:Nat),J≠0→fr' 1=.p 0 0→fr' 3=(PV.i .i64 ((0:Nat):Int))→fr' 6=.sl (G.length+1) 0 J J 2→K<pw J→pw (J-1)≤K→∀R,UK E0 F (.exit 2) ks fr' (some ⟨[.b (decide (x0.v<0)),D x0.v.natAbs],true,v⟩::(G++(some ⟨pwL J,true,0⟩::R)))) :
  WK E0 F (.loop ztO) ks fr [some ⟨[.b (decide (x0.v<0)),D x0.v.natAbs],true,v⟩,some ⟨[.b (decide ((pwI 0).v<0)),D (pwI 0).v.natAbs],true,v1⟩]:=by
 have R1:=zhq
 have R0:inR (pw 0):=zdJ (Nat.le_of_lt (zjk 0)) R1
 have cm0:=zcs x0 (pwI 0)
 have c00:(cmpI x0.v (pwI 0).v≥0)=True:=eq_true (by rw[ge_iff_le,zdd,hx0,zgL R0,zh9];omega)
 have mu0:=zjZ R0
 have le0:lerr ((pw (0+1):Nat):Int)=0:=(zdk (z:=((pw (0+1):Nat):Int)) (by rw[Int.natAbs_natCast];exact R1)).2
 rw[le0] at mu0
 refine zac ztO.eq_1 ?_
 simp(disch:=omega)only[go_sem,seval,wqq,f1,f3,f6,f7,cm0,c00,mu0,zsh,zaz,zai]
 refine zas ztO.eq_1 (fun(j:Nat) fr M=>1≤j∧inR (pw j)∧pw (j-1)≤K∧fr 1=.p 0 0∧fr 3=(PV.i .i64 ((0:Nat):Int))∧∃(G:PM) (r:Option PB) (v2:Nat),fr 6=.sl (G.length+1) 0 j j 2∧fr 7=.p (G.length+3) 0 ∧
  M=some ⟨[.b (decide (x0.v<0)),D x0.v.natAbs],true,v⟩::(G++[some ⟨pwL j,true,0⟩,r,some ⟨[.b (decide ((pwI j).v<0)),D (pwI j).v.natAbs],true,v2⟩])) (fun j=>K+1-pw (j-1)) ?_ 1
  ⟨Nat.le_refl _,R1,by rw[show pw (1-1)=2 from rfl];omega,by simp only[go_sem,seval,f1],by simp only[go_sem,seval,f3],[_,_],_,_,by simp only[go_sem,seval],by simp only[go_sem,seval],rfl⟩
 rintro j fr M ⟨hj,jR,hjK,f1,f3,G,r,v2,f6,f7,rfl⟩ ih
 have j14:=zfV jR
 have cm:=zcs x0 (pwI j)
 by_cases hc:pw j≤K
 ·have c0:(cmpI x0.v (pwI j).v≥0)=True:=eq_true (by rw[ge_iff_le,zdd,hx0,zgL jR];omega)
  have mu:=zjZ jR
  have apx:∀b0:Option PB,appP (b0::(G++[some ⟨pwL j,true,0⟩,r,some ⟨[.b (decide ((pwI j).v<0)),D (pwI j).v.natAbs],true,v2⟩,some ⟨[PV.b (decide ((pwI j).v<0)),D (pwI j).v.natAbs],true,0⟩])) 2 32 (.sl (G.length+1) 0 j j 2) (.sl (G.length+4) 0 1 1 2) =
   some (.sl (G.length+5) 0 (j+1) (j+1) 2,b0::(G++[none,r,some ⟨[.b (decide ((pwI j).v<0)),D (pwI j).v.natAbs],true,v2⟩,some ⟨[PV.b (decide ((pwI j).v<0)),D (pwI j).v.natAbs],true,0⟩,some ⟨pwL (j+1),true,0⟩])):=fun b0 =>
   zoD (b0::G) (pwL j) _ _ r (some ⟨[.b (decide ((pwI j).v<0)),D (pwI j).v.natAbs],true,v2⟩) (zel j) (by omega) (by omega)
  by_cases hn:inR (pw (j+1))
  ·have le1:lerr ((pw (j+1):Nat):Int)=0:=(zdk (z:=((pw (j+1):Nat):Int)) (by rw[Int.natAbs_natCast];exact hn)).2
   rw[le1] at mu
   simp(disch:=omega)only[go_sem,seval,wqq,f1,f3,f6,f7,cm,c0,mu,apx,zaz,zai,mG,mG0,sG,sG0,lG,lqq]
   have:=zjk (j-1)
   rw[show j-1+1=j by omega] at this
   exact ih (j+1) _ _ (by rw[show j+1-1=j by omega];omega) ⟨by omega,hn,hc,by simp only[go_sem,seval,f1],by simp only[go_sem,seval,f3],G++[none,r,_,_],_,_,by simp only[go_sem,seval];simp,by simp only[go_sem,seval];simp,by simp;exact⟨rfl,rfl,rfl,rfl⟩⟩
  ·have le1:(lerr ((pw (j+1):Nat):Int)=0)=False:=eq_false fun q=>hn (by have:=zfe q;rwa [Int.natAbs_natCast] at this)
   simp(disch:=omega)only[go_sem,seval,wqq,f1,f3,f6,f7,cm,c0,mu,le1,apx,zaz,zai,mG,mG0,sG,sG0,lG,lqq]
   have e6:∀a b c d p q:Option PB,G++[a,b,c,d,p,q]=(G++[a,b,c,d])++(p::[q]):=fun a b c d p q=>by simp
   rw[e6]
   exact cont _ _ (j+1) (by omega) (by simp only[go_sem,seval,f1]) (by simp only[go_sem,seval,f3]) (by simp only[go_sem,seval];simp) (by
    rcases Nat.lt_or_ge K (pw (j+1)) with q|q
    ·exact q
    ·exact(hn (zdJ q hR)).elim) hc [_]
 ·have c0:(cmpI x0.v (pwI j).v≥0)=False:=eq_false (by rw[ge_iff_le,zdd,hx0,zgL jR];omega)
  simp(disch:=omega)only[go_sem,seval,wqq,f1,f3,f6,f7,cm,c0,mG,mG0,sG,sG0,lG,lqq]
  exact cont _ G j (by omega) (by simp only[go_sem,seval,f1]) (by simp only[go_sem,seval,f3]) (by simp only[go_sem,seval,f6]) (by omega) hjK [_,_]
theorem zhX (x:WI):pf E0 63 [wiP x]=some (.i .i64 (nbits x.v.natAbs:Int)):=by
 by_cases hs:x.v.natAbs≤9223372036854775807
 ·exact zlj x hs
 have hR:inR x.v.natAbs:=(zbH _).1 x.lim
 obtain⟨K,hKe⟩:∃K,K=x.v.natAbs:=⟨_,rfl⟩
 rw[←hKe] at hR hs ⊢
 have hK:9223372036854775807<K:=by omega
 have sg:=zbK x
 have fin:∀(y:WI),y.v=(K:Int)→pf E0 80 [wiP y]=some (.tu [.i .i64 0,.b false]):=fun y hy=>by
  have sm:=zek y
  have s1:isSmall (K:Int)=false:=by unfold isSmall;exact decide_eq_false (by omega)
  have s2:small (K:Int)=0:=by unfold small;rw[s1];rfl
  rw[hy,s1,s2] at sm
  exact sm
 have fr2:=zdP (n:=2) (by decide)
 have w2:wiOf 2 (by decide)=pwI 0:=WI.ext' (by rw[zgL (zdJ (Nat.le_of_lt (zjk 0)) zhq)];rfl)
 rw[w2] at fr2
 have nb1:1≤nbits K:=by unfold nbits;rw[if_neg (by omega)];omega
 have nbe:(nbits K:Int)-1+1=(nbits K:Int):=by omega
 have sy:∀y:WI,y.v=1→pf E0 31 [wiP y]=some (.i .i64 1):=fun y hy=>by rw[zbK,hy];rfl
 refine zad (xf:=ztq) rfl (by simp[ztq]) ?_
 simp only[ztq]
 have nbb:nbits K≤16384:=by
  obtain⟨q,hq⟩:∃q,q=16384:=⟨_,rfl⟩
  unfold inR at hR
  rw[←hq] at hR ⊢
  exact zcp hR
 by_cases hn:x.v<0
 ·have t0:(cmpI x.v 0<0)=True:=by rw[zcT];simp[hn]
  have n1:=zjb x
  have hv:x.neg.v=(K:Int):=by show-x.v=_;omega
  have sm:=fin x.neg hv
  generalize x.neg=y at *
  simp(disch:=omega)only[go_sem,seval,wqq,sg,t0,n1,sm,fr2]
  refine zjM hR hv hK (by simp only[go_sem,seval]) (by simp only[go_sem,seval]) (by simp only[go_sem,seval]) (by simp only[go_sem,seval]) ?_
  intro fr' G J hJ f1 f3 f6 hlt hle R
  have J14:=zfV (zdJ hle hR)
  simp(disch:=omega)only[go_sem,seval,wqq,f6]
  refine zjN hR hv (by omega) hlt (.inr hle) (by simp only[go_sem,seval,f1]) (by simp only[go_sem,seval,f3]) (by rw[if_neg hJ];simp only[go_sem,seval,f6]) (by simp only[go_sem,seval]) ?_
  intro fr'' v' y1 hy1 g1 g3
  have syy:=sy y1 hy1
  simp(disch:=omega)only[go_sem,seval,wqq,g1,g3,syy,nbe]
 ·have t0:(cmpI x.v 0<0)=False:=by rw[zcT];simp[hn]
  have hv:x.v=(K:Int):=by omega
  have sm:=fin x hv
  simp(disch:=omega)only[go_sem,seval,wqq,sg,t0,sm,fr2]
  refine zjM hR hv hK (by simp only[go_sem,seval]) (by simp only[go_sem,seval]) (by simp only[go_sem,seval]) (by simp only[go_sem,seval]) ?_
  intro fr' G J hJ f1 f3 f6 hlt hle R
  have J14:=zfV (zdJ hle hR)
  simp(disch:=omega)only[go_sem,seval,wqq,f6]
  refine zjN hR hv (by omega) hlt (.inr hle) (by simp only[go_sem,seval,f1]) (by simp only[go_sem,seval,f3]) (by rw[if_neg hJ];simp only[go_sem,seval,f6]) (by simp only[go_sem,seval]) ?_
  intro fr'' v' y1 hy1 g1 g3
  have syy:=sy y1 hy1
  simp(disch:=omega)only[go_sem,seval,wqq,g1,g3,syy,nbe]
theorem zeL (x:FQ):pf E0 44 [fqP x]=some (.i .i64 ((max (nbits x.p.v.natAbs) (nbits x.q.v.natAbs):Nat):Int)):=by
 have a1:=znf x
 have a2:=zdr x
 have d1:=zhX x.p
 have d2:=zhX x.q
 generalize nbits x.p.v.natAbs=a at *
 generalize nbits x.q.v.natAbs=b at *
 have hm:mmP true (.i .i64 (a:Int)) [.i .i64 (b:Int)]=some (.i .i64 ((max a b:Nat):Int)):=by
  simp only[mmP,if_true]
  congr 2
  split<;>omega
 refine zad (xf:=ztT) rfl (by simp[ztT]) ?_
 simp only[ztT]
 simp(disch:=omega)only[go_sem,seval,wqq]
 refine zaH [1] rfl (by simp only[go_sem,seval]) ?_
 simp(disch:=omega)only[go_sem,seval,wqq,a1,a2,d1,d2,hm]
end Go.Eng
namespace Go.Eng
end Go.Eng
namespace Go.Eng
noncomputable def qc (f:FQ):List PV:=[.b (decide (f.p.v<0)),D f.p.v.natAbs,.b (decide (f.l.v<0)),D f.l.v.natAbs]
structure QZ (L:List PV) (f:FQ):Prop where
 len:L.length=4
 sc:L.all PV.scal=true
 fz:∀(M:PM) (d:Nat),fzL (fz M (d+1)) L=some (qc f,[])
end Go.Eng
namespace Go.Eng
end Go.Eng
namespace Go.Eng
end Go.Eng
namespace Go.Eng
end Go.Eng
namespace Go.Eng
def chE:Nat→Int:=fun e=>chooI.getD e 0
def chV (i k j:Nat):Int:=chE (exN i j*4+exN k j)
def shP (Y:Nat→Int) (i k:Nat):Nat→Int
 | 0=>1
 | j+1=>shP Y i k j*(chV i k j*Y j^(exN i j-exN k j))
theorem z20:[PV.i .i64 0,PV.i .i64 0,PV.i .i64 0,PV.i .i64 0,PV.i .i64 0,PV.i .i64 0,PV.i .i64 0,PV.i .i64 0,PV.i .i64 0,PV.i .i64 0,PV.i .i64 0,PV.i .i64 0,PV.i .i64 0,PV.i .i64 0,PV.i .i64 0,PV.i .i64 0,PV.i .i64 0,PV.i .i64 0,PV.i .i64 0,PV.i .i64 0]=cs 20 zF:=rfl
end Go.Eng
namespace Go.Eng
end Go.Eng
namespace Go.Eng
theorem znM {M:PM} {m:Nat} {l:List Nat} {K:List (Nat×PB)} (hw:Wr M m (bl l) K):∃v e ns,PM.blk M m=some ⟨[v],true,e⟩∧fz M 11 v=some (.lst (bl l),ns):=by
 obtain⟨v,e,hb,sc,hg,hn,hk⟩:=hw
 have z:=ziW 9 hg
 simp only[Option.map_eq_some_iff] at z
 obtain⟨⟨q,ns⟩,z1,rfl⟩:=z
 exact⟨v,e,ns,hb,z1⟩
end Go.Eng
namespace Go.Eng
theorem zmO {p:Nat→Int} (hp:∀e,Fits64 (p e)):(fun e=>(ofW p e).v)=p:=funext fun e=>zkO (hp e)
theorem zgH {p:Nat→Int} (hp:∀e,Fits64 (p e)) (e:Nat):wlen (ofW p e).v.natAbs≤2:=by
 rw[zkO (hp e)]
 have h:=hp e
 unfold Fits64 at h
 exact zb6 (by omega)
theorem zmn {p:Nat→Int} (hp:∀e,Fits64 (p e)):(dtW (ofW p)).v=rdV p:=by
 rw[zo3 (zgH hp) (by decide),zmO hp]
theorem zjU {X:Nat→Int}:∀{i:Nat},gN X i=0→∀e,e<i→X e=0
 | 0,_,e,h=>by omega
 | i+1,h,e,he=>by
  have h:Nat.gcd (gN X i) (X i).natAbs=0:=h
  obtain⟨h1,h2⟩:=Nat.gcd_eq_zero_iff.1 h
  rcases Nat.lt_or_ge e i with q|q
  ·exact zjU h1 e q
  ·obtain rfl:e=i:=by omega
   omega
def adV (X:Nat→Int):Nat→Int:=fun e=>mnV X (e%3) (e/3)
theorem zqa (X:Nat→Int):rdV X=X 0*adV X 0+X 1*adV X 3+X 2*adV X 6:=by
 unfold rdV rtK adV mnV
 simp only[Nat.reduceAdd,Nat.reduceMul,Nat.reduceMod,Nat.reduceDiv]
 grind
theorem zkl {X:Nat→Int} (h:gN (adV X) 9=0):rdV X=0:=by
 have z:=zjU h
 rw[zqa,z 0 (by decide),z 3 (by decide),z 6 (by decide)]
 simp
end Go.Eng
namespace Go.Eng
@[go_sem] theorem sp9 (a b c d e f g h i:PV) (Y:Nat→Int):psplice [a,b,c,d,e,f,g,h,i] 0 (cI Y)=cI Y:=_root_.id rfl
theorem zmm {p:Nat→Int} (hp:∀e,Fits64 (p e)) (h:vlP p=0):rdV p≠0:=fun q=>by
 unfold vlP at h
 split at h
 ·rw[zmn hp,q,if_pos rfl] at h;cases h
 ·cases h
open Classical in
noncomputable def IP (p:Nat→Int):Nat→Int:=if vlP p=0 then nfP (adV p) else zI
open Classical in
noncomputable def IE (p:Nat→Int):Int:=if vlP p=0 then nfE (adV p) else vlP p
theorem zqD {p:Nat→Int} (hp:∀e,Fits64 (p e)):(fun e=>(adW (ofW p) e).v)=adV p:=funext fun e=>by
 have:=(zmK (zgH hp) (by decide) (e%3) (e/3)).1
 rw[zmO hp] at this
 exact this
theorem zhL {p:Nat→Int} (hp:∀e,Fits64 (p e)):pf E0 308 [pI p]=some (.tu [pI (IP p),.i .i64 (IE p)]):=by
 have hv:=zga hp
 have hm:=zlg hp
 have ha:=zk9 (ofW p)
 unfold IP IE
 by_cases h:vlP p=0
 ·have hn:=zhW (adW (ofW p)) (by rw[zqD hp];exact fun q=>zmm hp h (zkl q))
  rw[zqD hp] at hn
  rw[if_pos h,if_pos h]
  rw[h] at hv
  refine zad (xf:=ztn) rfl (by simp[ztn]) ?_
  simp only[ztn]
  simp(disch:=omega)only[go_sem,seval,wqq,hv,hm,ha,hn]
 ·rw[if_neg h,if_neg h]
  generalize vlP p=V at *
  have h:(V=0)=False:=eq_false h
  refine zad (xf:=ztn) rfl (by simp[ztn]) ?_
  simp only[ztn]
  simp(disch:=omega)only[go_sem,seval,wqq,hv,h,pI0]
end Go.Eng
namespace Go.Eng
def isPF (E:PEnv):PV→Bool
 | .fn f _=>E.pure f
 | _=>false
def slotIn4 (E:PEnv) (ops:List XOper) (L V:List Nat) (c:Nat×Nat):Bool :=
 match ops[c.1]?,ops[c.2]? with
 | some a,some b =>
  match a.op with
  | .load _ _ (.t s)=>L.contains s&&(match b.op with | .callv (.t v) _=>V.contains v&&fixedX ops c.2 (.t v)|_=>calmOp E b.op)
  | _=>false
 | _,_=>false
theorem zc4 {E:PEnv} {F:PFin} {ops:List XOper} {chk:List (Nat×Nat)} {ks:List KI} {fr:PFr} {M:PM} (L V:List Nat) (hL:chk.all (fun c=>calmC E ops c || slotIn4 E ops L V c)=true)
  (hr:WL E ⟨(0::0::(L++V)).map XR.tmp,fun w _=>∃l,w=.tu l∧((l.drop 2).take L.length).all isPP=true∧((l.drop 2).drop L.length).all (isPF E)=true⟩ ops [] fr M) (w:WL E F ops ks fr M):WK E F (.drw ops chk) ks fr M:=by
 refine zb5 (fun fr2 Ms hT=>?_) w
 have hpv:L.all (fun s=>isPP (fr2 s))=true∧V.all (fun s=>isPF E (fr2 s))=true:=by
  obtain⟨lf,q,fr3,M3,vs,e,h1,h2,l,h3,h4,h5⟩:=hr
  simp only[Option.bind_eq_some_iff,unw] at e
  obtain⟨⟨fr4,M4⟩,e1,e2⟩:=e
  simp only[Option.some.injEq,Prod.mk.injEq] at e2
  obtain⟨_,e3,e4⟩:=e2
  rw[←e3,←e4] at h2
  obtain⟨Ms',g1,g2⟩:=zbl e1
  rw[g1] at hT
  cases hT
  have hres:∀(f:PFr) (N:PM) (l:List Nat),pRes f N (l.map XR.tmp)=some (l.map f):=fun f N l=>by
   induction l with
   | nil=>rfl
   | cons a l ih=>simp only[List.map_cons,pRes,pResOne,ih]
  rw[hres] at h2
  cases h2
  simp only[List.map_cons,packP] at h3
  cases h3
  rw[List.map_append] at h4 h5
  have d2:(fr2 0::fr2 0::(L.map fr2++V.map fr2)).drop 2=L.map fr2++V.map fr2:=rfl
  rw[d2,List.take_left' (by simp)] at h4
  rw[d2,List.drop_left' (by simp)] at h5
  exact⟨by simpa [List.all_map] using h4,by simpa [List.all_map] using h5⟩
 obtain⟨hp,hv⟩:=hpv
 rw[List.all_eq_true] at hL hp hv ⊢
 rintro⟨i,j⟩ hc
 have h1:=hL _ hc
 simp only[Bool.or_eq_true] at h1
 rcases h1 with h1|h1
 ·exact zck hT h1
 ·unfold slotIn4 at h1
  split at h1
  ·rename_i a b ha hb
   split at h1
   ·rename_i z k s hop
    simp only[Bool.and_eq_true] at h1
    obtain⟨c1,c2⟩:=h1
    have hs:=hp s (List.contains_iff_mem.1 c1)
    cases hf:fr2 s with
    | p n o =>
     obtain⟨fri,A,B,q1,q2,q3,q4⟩:=zav hT ha
     obtain⟨frj,C,D,p1,p2,p3,p4⟩:=zav hT hb
     have p2':Ms[(i,j).2+1]?=some D:=p2
     have q2':Ms[(i,j).1+1]?=some B:=q2
     refine zbQ ?_
     simp only[chkP0,ha,q1,q2,p1,p2]
     rw[if_neg (by rw[hop];simp[XO.cls])]
     rw[hop]
     show chkV ops j (.t s) C D (fr2 s)=true
     rw[hf]
     show verP (some n) C D=true
     rcases p3 with⟨_,v,p3⟩|⟨_,p3⟩
     ·split at c2
      ·rename_i vs l hopb
       simp only[Bool.and_eq_true] at c2
       have hv':=hv vs (List.contains_iff_mem.1 c2.1)
       have e1:=p4 (.t vs) c2.2
       have e1:fr2 vs=frj vs:=e1
       rw[hopb] at p3
       rw[e1] at hv'
       cases hfn:frj vs with
       | fn f c =>
        rw[hfn] at hv'
        have p3:(match (X.t vs).pv E.glob frj with | .fn f c=>pcl E f (l.map (X.pv E.glob frj)++c) C|_=>none)=some (v,D):=p3
        rw[show (X.t vs).pv E.glob frj=frj vs from rfl,hfn] at p3
        obtain⟨ns,rfl⟩:=zbW hv' p3
        exact zb2 ns C _
       | _=>rw[hfn] at hv';simp[isPF] at hv'
      ·rename_i hno
       cases hopb:b.op with
       | call f l =>
        rw[hopb] at p3 c2
        obtain⟨ns,rfl⟩:=zbW c2 p3
        exact zb2 ns C _
       | _=>rw[hopb] at c2;simp[calmOp] at c2
     ·rw[p3];simp[verP]
    | _=>rw[hf] at hs;simp[isPP] at hs
   ·cases h1
  ·cases h1
@[go_sem] theorem zs6 (a0 a1 a2 a3 a4 a5 a6 a7 a8 a9 a10 a11 a12 a13 a14 a15 a16 a17:PV) (Y:Nat→WI):psplice [a0,a1,a2,a3,a4,a5,a6,a7,a8,a9,a10,a11,a12,a13,a14,a15,a16,a17] 0 (cW Y)=cW Y:=_root_.id rfl
def ptP (x y:Int):PV:=.ag [.i .i64 x,.i .i64 y]
@[go_sem] theorem zqT (M:PM) (d:Nat) (x y:Int):fz M (d+1+1) (ptP x y)=some (ptP x y,[]):=_root_.id rfl
@[go_sem] theorem zmc (x y:Int):(ptP x y).cells=[.i .i64 x,.i .i64 y]:=_root_.id rfl
@[go_sem] theorem zn5 (x y:Int):PV.ag [.i .i64 x,.i .i64 y]=ptP x y:=_root_.id rfl
def colI (a b c d e f:Int):Nat→Int
 | 0=>a|1=>b|2=>c|3=>d|4=>e|5=>f|6=>1|7=>1|8=>1|_=>1
theorem zbR {a b c d e f:Int} (ha:Fits64 a) (hb:Fits64 b) (hc:Fits64 c) (hd:Fits64 d) (he:Fits64 e) (hf:Fits64 f):∀i,Fits64 (colI a b c d e f i)
 | 0=>ha|1=>hb|2=>hc|3=>hd|4=>he|5=>hf|6=>by show Fits64 1;decide|7=>by show Fits64 1;decide|8=>by show Fits64 1;decide|n+9=>by show Fits64 1;decide
theorem zct {a d b e c f:Int} (ha:Fits64 a) (hb:Fits64 b) (hc:Fits64 c) (hd:Fits64 d) (he:Fits64 e) (hf:Fits64 f):pf E0 320 [ptP a d,ptP b e,ptP c f]=some (mW (ofW (colI a b c d e f))):=by
 have hm:=zlg (zbR ha hb hc hd he hf)
 have hp:pI (colI a b c d e f)=.ag [.i .i64 a,.i .i64 b,.i .i64 c,.i .i64 d,.i .i64 e,.i .i64 f,.i .i64 1,.i .i64 1,.i .i64 1]:=rfl
 rw[hp] at hm
 refine zad (xf:=ztH) rfl (by simp[ztH]) ?_
 simp only[ztH]
 simp(disch:=omega)only[go_sem,seval,wqq,hm,zaz,zai]
end Go.Eng
namespace Go.Eng
def slarrB (m off n z:Nat) (lo hi:Option PV):Option PB→Option PV
 | some b=>if off+n*z≤b.v.length then slP z (.sl m off n n z) lo hi none else none
 | none=>none
def slarrP (M:PM) (n z:Nat) (lo hi:Option PV):PV→Option PV
 | .p m off=>slarrB m off n z lo hi (PM.blk M m)
 | .fp l=>if n*z≤l.length∧n*z≠0∧l.all PV.scal=true then slP z (.lst (group z n (l.take (n*z)))) lo hi none else none
 | _=>none
@[go_sem] theorem zon (M:PM) (n z m off:Nat) (lo hi:Option PV):slarrP M n z lo hi (.p m off)=slarrB m off n z lo hi (PM.blk M m):=_root_.id rfl
@[go_sem] theorem zom (m off n z:Nat) (lo hi:Option PV) (b:PB):slarrB m off n z lo hi (some b)=if off+n*z≤b.v.length then slP z (.sl m off n n z) lo hi none else none:=_root_.id rfl
@[go_sem] theorem zoB {E:PEnv} {F:PFin} {d:Option Nat} {af:List Nat} {l:List XOper} {ks:List KI} {fr:PFr} {M:PM} (n z:Nat) (x:X) (lo hi:Option X):WL E F (⟨d,.slarr n z x lo hi,af,none⟩::l) ks fr M=WV1 E F (slarrP M n z (lo.map (X.pv E.glob fr)) (hi.map (X.pv E.glob fr)) (x.pv E.glob fr)) d l ks fr M:=by
 rw[zaL,←zaO]
 have:XO.pst E.glob (pcl E) fr M (.slarr n z x lo hi)=(slarrP M n z (lo.map (X.pv E.glob fr)) (hi.map (X.pv E.glob fr)) (x.pv E.glob fr)).map fun v=>(v,M):=by
  simp only[XO.pst,XO.pev]
  generalize x.pv E.glob fr=a
  cases a with
  | p m off =>
   simp only[slarrP]
   cases PM.blk M m with
   | none=>rfl
   | some b=>simp only[slarrB];split<;>rfl
  | fp c=>simp only[slarrP];split<;>rfl
  | _=>rfl
 rw[this]
theorem zsI:slP 1 (.sl 0 0 9 9 1) (some (.i .i64 6)) none none=some (.sl 0 6 3 3 1):=rfl
theorem zsH:slP 1 (.sl 0 0 9 9 1) none (some (.i .i64 3)) none=some (.sl 0 0 3 9 1):=rfl
theorem zqg:slP 1 (.sl 0 0 9 9 1) (some (.i .i64 3)) (some (.i .i64 6)) none=some (.sl 0 3 3 6 1):=rfl
theorem gr3 (a b c:Int):group 1 3 [PV.i .i64 a,.i .i64 b,.i .i64 c]=[.i .i64 a,.i .i64 b,.i .i64 c]:=rfl
theorem zh0 {n:Int} (hn:Fits64 n):∃f:FQ,f.is n 1∧fsz 5 f∧pf E0 317 [.i .i64 n]=some (fqP f):=by
 have hn':=hn
 unfold Fits64 at hn'
 obtain⟨f,f1,f2,fo⟩:=zlb hn (q:=1) (by decide) (by decide)
 obtain⟨l1,l2⟩:=zee (p:=n) (q:=1) (by decide) (Nat.gcd_one_right _)
 have f1:=f1.trans l1
 have f2:=f2.trans l2
 have fi:=zfg f
 rw[f1,f2] at fi
 refine⟨f,fi,⟨by rw[f1];exact zba (by omega),by rw[f2];exact zba (by decide)⟩,?_⟩
 refine zad (xf:=zt0) rfl (by simp[zt0]) ?_
 simp only[zt0]
 simp(disch:=omega)only[go_sem,seval,wqq,fo]
theorem zpi (a b c:Int) (j:Nat) (v:Int) (h:[a,b,c][j]?=some v):idxP 1 (.lst [.i .i64 a,.i .i64 b,.i .i64 c]) (some j)=some (.fp [.i .i64 v]):=zeH (xs:=[a,b,c]) h
set_option maxHeartbeats 2000000 in
theorem zhY {a b c:Int} (ha:Fits64 a) (hb:Fits64 b) (hc:Fits64 c) {u v:FQ} {n m:Nat} (zu:fsz n u) (zv:fsz m v) (hs:n+m≤1000) {un ud vn vd:Int} (hud:ud≠0) (hvd:vd≠0) (ui:u.is un ud) (vi:v.is vn vd) :
  ∃r:FQ,pf E0 310 [.lst [.i .i64 a,.i .i64 b,.i .i64 c],fqP u,fqP v]=some (fqP r)∧r.is (a*un*vd+b*vn*ud+c*(ud*vd)) (ud*vd)∧fsz (n+m+20) r:=by
 obtain⟨wa,ia,za,fa⟩:=zh0 ha
 obtain⟨wb,ib,zb,fb⟩:=zh0 hb
 obtain⟨wc,ic,zc,fc⟩:=zh0 hc
 obtain⟨x,fx,ix,zx⟩:=zjY wa u za zu (by omega) ia ui
 obtain⟨y,fy,iy,zy⟩:=zjY wb v zb zv (by omega) ib vi
 obtain⟨s,fs,is,zs⟩:=zjG x y zx zy (by omega) ix iy
 obtain⟨r,fr',ir,zr⟩:=zjG s wc zs zc (by omega) is ic
 have hD:ud*vd≠0:=Int.mul_ne_zero hud hvd
 refine⟨r,?_,zff (by simp only[Int.one_mul,Int.mul_one];exact hD) ir (by grind),⟨Nat.le_trans zr.1 (by omega),Nat.le_trans zr.2 (by omega)⟩⟩
 clear ia ib ic ix iy is ir ui vi
 have i0:=zpi a b c 0 a rfl
 have i1:=zpi a b c 1 b rfl
 have i2:=zpi a b c 2 c rfl
 refine zad (xf:=zup) rfl (by simp[zup]) ?_
 simp only[zup]
 simp(disch:=omega)only[go_sem,seval,wqq]
 refine zc4 [4] [15] rfl ?_ ?_
 ·simp(disch:=omega)only[go_sem,seval,wqq,i0,i1,i2,fa,fx]
  exact⟨_,rfl,rfl,rfl⟩
 simp(disch:=omega)only[go_sem,seval,wqq,i0,i1,i2,fa,fx]
 refine zc4 [5] [25] rfl ?_ ?_
 ·simp(disch:=omega)only[go_sem,seval,wqq,i0,i1,i2,fb,fy]
  exact⟨_,rfl,rfl,rfl⟩
 simp(disch:=omega)only[go_sem,seval,wqq,i0,i1,i2,fb,fy,fs]
 refine zc4 [12] [42] rfl ?_ ?_
 ·simp(disch:=omega)only[go_sem,seval,wqq,i0,i1,i2,fc,fr']
  exact⟨_,rfl,rfl,rfl⟩
 simp(disch:=omega)only[go_sem,seval,wqq,i0,i1,i2,fc,fr']
def rwV (a b c un ud vn vd:Int):Int:=a*un*vd+b*vn*ud+c*(ud*vd)
set_option maxHeartbeats 4000000 in
theorem zhK {p:Nat→Int} (hp:∀e,Fits64 (p e)) (hv:vlP p=0) {u v:FQ} {n m:Nat} (zu:fsz n u) (zv:fsz m v) (hs:n+m≤500) {un ud vn vd:Int} (hud:ud≠0) (hvd:vd≠0) (ui:u.is un ud) (vi:v.is vn vd)
  (du:max (nbits u.p.v.natAbs) (nbits u.q.v.natAbs)≤1000) (dv:max (nbits v.p.v.natAbs) (nbits v.q.v.natAbs)≤1000) (h0:rwV (p 6) (p 7) (p 8) un ud vn vd≠0) :
  ∃x y:FQ,pf E0 305 [pI p,fqP u,fqP v]=some (.tu [fqP x,fqP y,.i .i64 0])∧x.is (rwV (p 0) (p 1) (p 2) un ud vn vd) (rwV (p 6) (p 7) (p 8) un ud vn vd)∧y.is (rwV (p 3) (p 4) (p 5) un ud vn vd) (rwV (p 6) (p 7) (p 8) un ud vn vd)∧fsz (2*(n+m)+40) x∧fsz (2*(n+m)+40) y:=by
 have pv:=zga hp
 rw[hv] at pv
 have d1:=zeL u
 have d2:=zeL v
 have hD:ud*vd≠0:=Int.mul_ne_zero hud hvd
 obtain⟨r2,f2,i2,z2⟩:=zhY (hp 6) (hp 7) (hp 8) zu zv (by omega) hud hvd ui vi
 obtain⟨r0,f0,i0,z0⟩:=zhY (hp 0) (hp 1) (hp 2) zu zv (by omega) hud hvd ui vi
 obtain⟨r1,f1,i1,z1⟩:=zhY (hp 3) (hp 4) (hp 5) zu zv (by omega) hud hvd ui vi
 have i2:r2.is (rwV (p 6) (p 7) (p 8) un ud vn vd) (ud*vd):=i2
 have i0:r0.is (rwV (p 0) (p 1) (p 2) un ud vn vd) (ud*vd):=i0
 have i1:r1.is (rwV (p 3) (p 4) (p 5) un ud vn vd) (ud*vd):=i1
 generalize rwV (p 6) (p 7) (p 8) un ud vn vd=W at *
 generalize rwV (p 0) (p 1) (p 2) un ud vn vd=U at *
 generalize rwV (p 3) (p 4) (p 5) un ud vn vd=V at *
 have r20:r2.p.v≠0:=fun q=>by
  unfold FQ.is at i2
  rw[q,Int.zero_mul] at i2
  have hq:=r2.q1
  exact Int.mul_ne_zero h0 (by omega) i2.symm
 obtain⟨x,fx,ix,zx⟩:=zjO r0 r2 r20 z0 z2 (by omega)
 obtain⟨y,fy,iy,zy⟩:=zjO r1 r2 r20 z1 z2 (by omega)
 have ix:=zfK i0 i2 r20 ix
 have iy:=zfK i1 i2 r20 iy
 have sg:=zlc r2
 have s0:(cmpI r2.p.v 0=0)=False:=by rw[zaQ];simp[r20]
 refine⟨x,y,?_,zff (Int.mul_ne_zero hD h0) ix (by grind),zff (Int.mul_ne_zero hD h0) iy (by grind),⟨Nat.le_trans zx.1 (by omega),Nat.le_trans zx.2 (by omega)⟩,⟨Nat.le_trans zy.1 (by omega),Nat.le_trans zy.2 (by omega)⟩⟩
 generalize max (nbits u.p.v.natAbs) (nbits u.q.v.natAbs)=A at *
 generalize max (nbits v.p.v.natAbs) (nbits v.q.v.natAbs)=B at *
 have t1:((A:Int)>1000)=False:=eq_false (by omega)
 have t2:((B:Int)>1000)=False:=eq_false (by omega)
 clear ix iy i0 i1 i2 ui vi
 have hF:PV.ag [.i .i64 (p 0),.i .i64 (p 1),.i .i64 (p 2),.i .i64 (p 3),.i .i64 (p 4),.i .i64 (p 5),.i .i64 (p 6),.i .i64 (p 7),.i .i64 (p 8)]=pI p:=rfl
 refine zad (xf:=ztZ) rfl (by simp[ztZ]) ?_
 simp only[ztZ]
 simp(disch:=omega)only[go_sem,seval,wqq,pv,d1,d2,t1,t2,zao,hF,zsI,gr3,f2,sg,s0]
 refine zaH [10] rfl (by simp only[go_sem,seval]) ?_
 simp(disch:=omega)only[go_sem,seval,wqq,zao,zsH,gr3,f0,fx]
 refine zaH [10] rfl (by simp only[go_sem,seval]) ?_
 simp(disch:=omega)only[go_sem,seval,wqq,zao,zqg,gr3,f1,fy]
 refine zjz [13] [6] rfl ?_ ?_
 ·simp(disch:=omega)only[go_sem,seval,wqq]
  exact⟨_,rfl,rfl⟩
 simp(disch:=omega)only[go_sem,seval,wqq]
end Go.Eng
namespace Go.Eng
def q8 (a b c d e f g h:Int):PV:=.ag [.i .i64 a,.i .i64 b,.i .i64 c,.i .i64 d,.i .i64 e,.i .i64 f,.i .i64 g,.i .i64 h]
noncomputable def bsW (w:Nat→WI) (f0 f1 f2:WI):Nat→WI:=fun e=>tW (w e) (if e%3=0 then f0 else if e%3=1 then f1 else f2)
set_option maxHeartbeats 8000000 in
set_option maxRecDepth 100000 in
theorem zla {x0 y0 x1 y1 x2 y2 x3 y3:Int} (hx0:Fits64 x0) (hy0:Fits64 y0) (hx1:Fits64 x1) (hy1:Fits64 y1) (hx2:Fits64 x2) (hy2:Fits64 y2) (hx3:Fits64 x3) (hy3:Fits64 y3)
  {w:Nat→WI} {f0 f1 f2:WI} (hw:w=ofW (colI x0 x1 x2 y0 y1 y2)) (h0:f0=dtW (ofW (colI x3 x1 x2 y3 y1 y2))) (h1:f1=dtW (ofW (colI x0 x3 x2 y0 y3 y2))) (h2:f2=dtW (ofW (colI x0 x1 x3 y0 y1 y3)))
  (n0:f0.v≠0) (n1:f1.v≠0) (n2:f2.v≠0) (n3:(dtW (bsW w f0 f1 f2)).v≠0):pf E0 315 [q8 x0 y0 x1 y1 x2 y2 x3 y3]=some (.tu [mW (bsW w f0 f1 f2),.b true]):=by
 have c0:=zct hx0 hx1 hx2 hy0 hy1 hy2
 have c1:=zct hx3 hx1 hx2 hy3 hy1 hy2
 have c2:=zct hx0 hx3 hx2 hy0 hy3 hy2
 have c3:=zct hx0 hx1 hx3 hy0 hy1 hy3
 have d1:=zeM (ofW (colI x3 x1 x2 y3 y1 y2))
 have d2:=zeM (ofW (colI x0 x3 x2 y0 y3 y2))
 have d3:=zeM (ofW (colI x0 x1 x3 y0 y1 y3))
 rw[←hw] at c0
 rw[←h0] at d1
 rw[←h1] at d2
 rw[←h2] at d3
 generalize ofW (colI x3 x1 x2 y3 y1 y2)=w1 at *
 generalize ofW (colI x0 x3 x2 y0 y3 y2)=w2 at *
 generalize ofW (colI x0 x1 x3 y0 y1 y3)=w3 at *
 clear hw h0 h1 h2
 have s0:=zbK f0
 have s1:=zbK f1
 have s2:=zbK f2
 have e0:(cmpI f0.v 0=0)=False:=by rw[zaQ];simp[n0]
 have e1:(cmpI f1.v 0=0)=False:=by rw[zaQ];simp[n1]
 have e2:(cmpI f2.v 0=0)=False:=by rw[zaQ];simp[n2]
 have d4:=zeM (bsW w f0 f1 f2)
 have s4:=zbK (dtW (bsW w f0 f1 f2))
 have e4:(cmpI (dtW (bsW w f0 f1 f2)).v 0=0)=False:=by rw[zaQ];simp[n3]
 have t0:=zaj (w 0) f0
 have t1:=zaj (w 1) f1
 have t2:=zaj (w 2) f2
 have t3:=zaj (w 3) f0
 have t4:=zaj (w 4) f1
 have t5:=zaj (w 5) f2
 have t6:=zaj (w 6) f0
 have t7:=zaj (w 7) f1
 have t8:=zaj (w 8) f2
 have hB:PV.ag [.b (decide ((tW (w 0) f0).v<0)),D (tW (w 0) f0).v.natAbs,.b (decide ((tW (w 1) f1).v<0)),D (tW (w 1) f1).v.natAbs,.b (decide ((tW (w 2) f2).v<0)),D (tW (w 2) f2).v.natAbs,.b (decide ((tW (w 3) f0).v<0)),D (tW (w 3) f0).v.natAbs,.b (decide ((tW (w 4) f1).v<0)),D (tW (w 4) f1).v.natAbs,.b (decide ((tW (w 5) f2).v<0)),D (tW (w 5) f2).v.natAbs,.b (decide ((tW (w 6) f0).v<0)),D (tW (w 6) f0).v.natAbs,.b (decide ((tW (w 7) f1).v<0)),D (tW (w 7) f1).v.natAbs,.b (decide ((tW (w 8) f2).v<0)),D (tW (w 8) f2).v.natAbs]=mW (bsW w f0 f1 f2):=rfl
 generalize dtW (bsW w f0 f1 f2)=dd at *
 generalize bsW w f0 f1 f2=bs at *
 generalize tW (w 0) f0=r0 at *
 generalize tW (w 1) f1=r1 at *
 generalize tW (w 2) f2=r2 at *
 generalize tW (w 3) f0=r3 at *
 generalize tW (w 4) f1=r4 at *
 generalize tW (w 5) f2=r5 at *
 generalize tW (w 6) f0=r6 at *
 generalize tW (w 7) f1=r7 at *
 generalize tW (w 8) f2=r8 at *
 unfold q8
 refine zad (xf:=zt5) rfl (by simp[zt5]) ?_
 simp only[zt5]
 simp(disch:=omega)only[go_sem,seval,wqq,c0]
 refine zc4 [28,30,32,37,39,41] [18,27,36] rfl ?_ ?_
 ·simp(disch:=omega)only[go_sem,seval,wqq,c1,c2,c3,d1,d2,d3,zaz,zai]
  exact⟨_,rfl,rfl,rfl⟩
 simp(disch:=omega)only[go_sem,seval,wqq,c1,c2,c3,d1,d2,d3,zaz,zai]
 refine zac ztC.eq_1 ?_
 simp(disch:=omega)only[go_sem,seval,wqq,s0,e0]
 refine zac zta.eq_1 ?_
 simp(disch:=omega)only[go_sem,seval,wqq,zab,t0]
 refine zac zta.eq_1 ?_
 simp(disch:=omega)only[go_sem,seval,wqq,zab,t3]
 refine zac zta.eq_1 ?_
 simp(disch:=omega)only[go_sem,seval,wqq,zab,t6]
 refine zac zta.eq_1 ?_
 simp(disch:=omega)only[go_sem,seval,wqq]
 refine zac ztC.eq_1 ?_
 simp(disch:=omega)only[go_sem,seval,wqq,s1,e1]
 refine zac zta.eq_1 ?_
 simp(disch:=omega)only[go_sem,seval,wqq,zab,t1]
 refine zac zta.eq_1 ?_
 simp(disch:=omega)only[go_sem,seval,wqq,zab,t4]
 refine zac zta.eq_1 ?_
 simp(disch:=omega)only[go_sem,seval,wqq,zab,t7]
 refine zac zta.eq_1 ?_
 simp(disch:=omega)only[go_sem,seval,wqq]
 refine zac ztC.eq_1 ?_
 simp(disch:=omega)only[go_sem,seval,wqq,s2,e2]
 refine zac zta.eq_1 ?_
 simp(disch:=omega)only[go_sem,seval,wqq,zab,t2]
 refine zac zta.eq_1 ?_
 simp(disch:=omega)only[go_sem,seval,wqq,zab,t5]
 refine zac zta.eq_1 ?_
 simp(disch:=omega)only[go_sem,seval,wqq,zab,t8]
 refine zac zta.eq_1 ?_
 simp(disch:=omega)only[go_sem,seval,wqq]
 refine zac ztC.eq_1 ?_
 simp(disch:=omega)only[go_sem,seval,wqq]
 refine zaH [5] rfl (by simp only[go_sem,seval]) ?_
 simp(disch:=omega)only[go_sem,seval,wqq,hB,d4,s4,e4]
def okQ (x:Int):Prop := -1048576≤x∧x≤1048576
theorem zcM {x y:Int} (hx:okQ x) (hy:okQ y):((if y>x then y else x)>1048576)=False∧((if y<x then y else x) < -1048576)=False:=by
 unfold okQ at hx hy
 exact⟨eq_false (by split<;>omega),eq_false (by split<;>omega)⟩
set_option maxHeartbeats 8000000 in
set_option maxRecDepth 100000 in
theorem zk4 {x0 y0 x1 y1 x2 y2 x3 y3 u0 v0 u1 v1 u2 v2 u3 v3:Int} (hx0:okQ x0) (hy0:okQ y0) (hx1:okQ x1) (hy1:okQ y1) (hx2:okQ x2) (hy2:okQ y2) (hx3:okQ x3) (hy3:okQ y3) (hu0:okQ u0) (hv0:okQ v0) (hu1:okQ u1) (hv1:okQ v1) (hu2:okQ u2) (hv2:okQ v2) (hu3:okQ u3) (hv3:okQ v3)
  {A B:Nat→WI} (ba:pf E0 315 [q8 x0 y0 x1 y1 x2 y2 x3 y3]=some (.tu [mW A,.b true])) (bb:pf E0 315 [q8 u0 v0 u1 v1 u2 v2 u3 v3]=some (.tu [mW B,.b true])) (hg:gN (fun e=>(prW B (adW A) e).v) 9≠0) :
  pf E0 309 [q8 x0 y0 x1 y1 x2 y2 x3 y3,q8 u0 v0 u1 v1 u2 v2 u3 v3]=some (.tu [pI (nfP fun e=>(prW B (adW A) e).v),.i .i64 (nfE fun e=>(prW B (adW A) e).v)]):=by
 have ad:=zk9 A
 have pr:=zni B (adW A)
 have nm:=zhW (prW B (adW A)) hg
 generalize nfP (fun e=>(prW B (adW A) e).v)=P at *
 generalize nfE (fun e=>(prW B (adW A) e).v)=E at *
 generalize prW B (adW A)=Q at *
 generalize adW A=R at *
 obtain⟨a0,b0⟩:=zcM hx0 hy0
 obtain⟨a1,b1⟩:=zcM hx1 hy1
 obtain⟨a2,b2⟩:=zcM hx2 hy2
 obtain⟨a3,b3⟩:=zcM hx3 hy3
 obtain⟨a4,b4⟩:=zcM hu0 hv0
 obtain⟨a5,b5⟩:=zcM hu1 hv1
 obtain⟨a6,b6⟩:=zcM hu2 hv2
 obtain⟨a7,b7⟩:=zcM hu3 hv3
 unfold q8 at ba bb ⊢
 refine zad (xf:=zua) rfl (by simp[zua]) ?_
 simp only[zua]
 simp(disch:=omega)only[go_sem,seval,wqq,zaz,zai]
 refine zac zt6.eq_1 ?_
 simp(disch:=omega)only[go_sem,seval,wqq]
 refine zac ztf.eq_1 ?_
 simp(disch:=omega)only[go_sem,seval,wqq,q8,a0,b0]
 refine zac ztf.eq_1 ?_
 simp(disch:=omega)only[go_sem,seval,wqq,q8,a1,b1]
 refine zac ztf.eq_1 ?_
 simp(disch:=omega)only[go_sem,seval,wqq,q8,a2,b2]
 refine zac ztf.eq_1 ?_
 simp(disch:=omega)only[go_sem,seval,wqq,q8,a3,b3]
 refine zac ztf.eq_1 ?_
 simp(disch:=omega)only[go_sem,seval,wqq]
 refine zac zt6.eq_1 ?_
 simp(disch:=omega)only[go_sem,seval,wqq]
 refine zac ztf.eq_1 ?_
 simp(disch:=omega)only[go_sem,seval,wqq,q8,a4,b4]
 refine zac ztf.eq_1 ?_
 simp(disch:=omega)only[go_sem,seval,wqq,q8,a5,b5]
 refine zac ztf.eq_1 ?_
 simp(disch:=omega)only[go_sem,seval,wqq,q8,a6,b6]
 refine zac ztf.eq_1 ?_
 simp(disch:=omega)only[go_sem,seval,wqq,q8,a7,b7]
 refine zac ztf.eq_1 ?_
 simp(disch:=omega)only[go_sem,seval,wqq]
 refine zac zt6.eq_1 ?_
 simp(disch:=omega)only[go_sem,seval,wqq,ba,bb]
 refine zaH [12] rfl (by simp only[go_sem,seval]) ?_
 simp(disch:=omega)only[go_sem,seval,wqq,ad,pr,nm]
end Go.Eng
namespace Go.Eng
end Go.Eng
namespace Go.Eng
theorem zo2 {x:Nat→WI} {n:Nat} (hx:∀e,wlen (x e).v.natAbs≤n) (hn:n≤100):wlen (dtW x).v.natAbs≤3*n+4:=by
 rw[zo3 hx hn]
 have key:∀a b c d e:Nat,wlen (rtK (x a).v (x b).v (x c).v (x d).v (x e).v).natAbs≤3*n+1:=fun a b c d e=>by
  have h1:=zb1 (x b).v (x c).v
  have h2:=zb1 (x a).v ((x b).v*(x c).v)
  have h3:=zb1 (x d).v (x e).v
  have h4:=zb1 (x a).v ((x d).v*(x e).v)
  have h5:=zeW ((x a).v*((x b).v*(x c).v)) ((x a).v*((x d).v*(x e).v))
  have h5:wlen (rtK (x a).v (x b).v (x c).v (x d).v (x e).v).natAbs≤_:=h5
  have:=hx a
  have:=hx b
  have:=hx c
  have:=hx d
  have:=hx e
  omega
 have k1:=key 0 4 8 5 7
 have k2:=key 1 5 6 3 8
 have k3:=key 2 3 7 4 6
 have a1:=zb0 0 (rtK (x 0).v (x 4).v (x 8).v (x 5).v (x 7).v)
 have a2:=zb0 (0+rtK (x 0).v (x 4).v (x 8).v (x 5).v (x 7).v) (rtK (x 1).v (x 5).v (x 6).v (x 3).v (x 8).v)
 have a3:=zb0 (0+rtK (x 0).v (x 4).v (x 8).v (x 5).v (x 7).v+rtK (x 1).v (x 5).v (x 6).v (x 3).v (x 8).v) (rtK (x 2).v (x 3).v (x 7).v (x 4).v (x 6).v)
 rw[Int.natAbs_zero,zby] at a1
 show wlen (0+rtK (x 0).v (x 4).v (x 8).v (x 5).v (x 7).v+rtK (x 1).v (x 5).v (x 6).v (x 3).v (x 8).v+rtK (x 2).v (x 3).v (x 7).v (x 4).v (x 6).v).natAbs≤_
 omega
def bsV (c:Nat→Int) (F0 F1 F2:Int):Nat→Int:=fun e=>c e*(if e%3=0 then F0 else if e%3=1 then F1 else F2)
theorem zsi {c:Nat→Int} (hc:∀e,Fits64 (c e)) {f0 f1 f2:WI} (l0:wlen f0.v.natAbs≤10) (l1:wlen f1.v.natAbs≤10) (l2:wlen f2.v.natAbs≤10) (e:Nat) :
  (bsW (ofW c) f0 f1 f2 e).v=bsV c f0.v f1.v f2.v e∧wlen (bsW (ofW c) f0 f1 f2 e).v.natAbs≤12:=by
 have hf:wlen (if e%3=0 then f0 else if e%3=1 then f1 else f2).v.natAbs≤10:=by
  split
  ·exact l0
  ·split
   ·exact l1
   ·exact l2
 obtain⟨h1,h2⟩:=zjs (zgH hc e) hf (by decide)
 have e1:(bsW (ofW c) f0 f1 f2 e).v=(ofW c e).v*(if e%3=0 then f0 else if e%3=1 then f1 else f2).v:=h1
 rw[e1]
 refine⟨?_,h2⟩
 rw[zkO (hc e)]
 unfold bsV
 congr 1
 split
 ·rfl
 ·split<;>rfl
theorem zam {x:Int} (h:okQ x):Fits64 x:=by unfold okQ at h;unfold Fits64;omega
def baV (x0 y0 x1 y1 x2 y2 x3 y3:Int):Nat→Int:=bsV (colI x0 x1 x2 y0 y1 y2) (rdV (colI x3 x1 x2 y3 y1 y2)) (rdV (colI x0 x3 x2 y0 y3 y2)) (rdV (colI x0 x1 x3 y0 y1 y3))
theorem zf7 {x0 y0 x1 y1 x2 y2 x3 y3:Int} (hx0:okQ x0) (hy0:okQ y0) (hx1:okQ x1) (hy1:okQ y1) (hx2:okQ x2) (hy2:okQ y2) (hx3:okQ x3) (hy3:okQ y3)
  (n0:rdV (colI x3 x1 x2 y3 y1 y2)≠0) (n1:rdV (colI x0 x3 x2 y0 y3 y2)≠0) (n2:rdV (colI x0 x1 x3 y0 y1 y3)≠0) (n3:rdV (baV x0 y0 x1 y1 x2 y2 x3 y3)≠0) :
  ∃A:Nat→WI,pf E0 315 [q8 x0 y0 x1 y1 x2 y2 x3 y3]=some (.tu [mW A,.b true])∧(fun e=>(A e).v)=baV x0 y0 x1 y1 x2 y2 x3 y3∧∀e,wlen (A e).v.natAbs≤12:=by
 have c0:=zbR (zam hx0) (zam hx1) (zam hx2) (zam hy0) (zam hy1) (zam hy2)
 have c1:=zbR (zam hx3) (zam hx1) (zam hx2) (zam hy3) (zam hy1) (zam hy2)
 have c2:=zbR (zam hx0) (zam hx3) (zam hx2) (zam hy0) (zam hy3) (zam hy2)
 have c3:=zbR (zam hx0) (zam hx1) (zam hx3) (zam hy0) (zam hy1) (zam hy3)
 have l1:=zo2 (zgH c1) (by decide)
 have l2:=zo2 (zgH c2) (by decide)
 have l3:=zo2 (zgH c3) (by decide)
 have e1:=zmn c1
 have e2:=zmn c2
 have e3:=zmn c3
 have bv:=zsi c0 l1 l2 l3
 have bf:(fun e=>(bsW (ofW (colI x0 x1 x2 y0 y1 y2)) (dtW (ofW (colI x3 x1 x2 y3 y1 y2))) (dtW (ofW (colI x0 x3 x2 y0 y3 y2))) (dtW (ofW (colI x0 x1 x3 y0 y1 y3))) e).v)=baV x0 y0 x1 y1 x2 y2 x3 y3:=funext fun e=>by
  rw[(bv e).1,e1,e2,e3];rfl
 refine⟨_,zla (zam hx0) (zam hy0) (zam hx1) (zam hy1) (zam hx2) (zam hy2) (zam hx3) (zam hy3) rfl rfl rfl rfl (by rw[e1];exact n0) (by rw[e2];exact n1) (by rw[e3];exact n2) ?_,bf,fun e=>(bv e).2⟩
 rw[zo3 (fun e=>(bv e).2) (by decide),bf]
 exact n3
theorem zk5 {x0 y0 x1 y1 x2 y2 x3 y3 u0 v0 u1 v1 u2 v2 u3 v3:Int} (hx0:okQ x0) (hy0:okQ y0) (hx1:okQ x1) (hy1:okQ y1) (hx2:okQ x2) (hy2:okQ y2) (hx3:okQ x3) (hy3:okQ y3) (hu0:okQ u0) (hv0:okQ v0) (hu1:okQ u1) (hv1:okQ v1) (hu2:okQ u2) (hv2:okQ v2) (hu3:okQ u3) (hv3:okQ v3)
  (n0:rdV (colI x3 x1 x2 y3 y1 y2)≠0) (n1:rdV (colI x0 x3 x2 y0 y3 y2)≠0) (n2:rdV (colI x0 x1 x3 y0 y1 y3)≠0) (n3:rdV (baV x0 y0 x1 y1 x2 y2 x3 y3)≠0)
  (m0:rdV (colI u3 u1 u2 v3 v1 v2)≠0) (m1:rdV (colI u0 u3 u2 v0 v3 v2)≠0) (m2:rdV (colI u0 u1 u3 v0 v1 v3)≠0) (m3:rdV (baV u0 v0 u1 v1 u2 v2 u3 v3)≠0)
  {Y:Nat→Int} (hY:Y=rprV (baV u0 v0 u1 v1 u2 v2 u3 v3) (adV (baV x0 y0 x1 y1 x2 y2 x3 y3))) (hg:gN Y 9≠0) :
  pf E0 309 [q8 x0 y0 x1 y1 x2 y2 x3 y3,q8 u0 v0 u1 v1 u2 v2 u3 v3]=some (.tu [pI (nfP Y),.i .i64 (nfE Y)]):=by
 obtain⟨A,fa,va,la⟩:=zf7 hx0 hy0 hx1 hy1 hx2 hy2 hx3 hy3 n0 n1 n2 n3
 obtain⟨B,fb,vb,lb⟩:=zf7 hu0 hv0 hu1 hv1 hu2 hv2 hu3 hv3 m0 m1 m2 m3
 have ml:∀e,(adW A e).v=adV (baV x0 y0 x1 y1 x2 y2 x3 y3) e∧wlen (adW A e).v.natAbs≤25:=fun e=>by
  obtain⟨h1,h2⟩:=zmK la (by decide) (e%3) (e/3)
  rw[va] at h1
  exact⟨h1,h2⟩
 have pe:(fun e=>(prW B (adW A) e).v)=Y:=funext fun e=>by
  rw[zsC (n:=25) (fun e=>Nat.le_trans (lb e) (by decide)) (fun e=>(ml e).2) (by decide) e,vb,hY]
  congr 1
  exact funext fun e=>(ml e).1
 have:=zk4 hx0 hy0 hx1 hy1 hx2 hy2 hx3 hy3 hu0 hv0 hu1 hv1 hu2 hv2 hu3 hv3 fa fb (by rw[pe];exact hg)
 rw[pe] at this
 exact this
end Go.Eng
namespace Go.Eng
def tb (l:List Int):Nat→Int:=fun e=>l.getD e 0
theorem zfy {l:List Int} (h:∀n∈l,Fits64 n) (e:Nat):Fits64 (tb l e):=by
 unfold tb
 by_cases he:e<l.length
 ·exact h _ (by simp[List.getD,List.getElem?_eq_getElem he])
 ·have:l.getD e 0=0:=by simp[List.getD,List.getElem?_eq_none (Nat.le_of_not_lt he)]
  rw[this];decide
theorem zhB {X:Nat→Int} {g:Nat} {s:Int} (hg:gN X 9=g) (hs:fN X 9=s) (hq:∀e,e<9 → -1073741824≤X e/(g:Int)∧X e/(g:Int)≤1073741824):nfP X=(fun e=>X e/(g:Int)*s)∧nfE X=0:=by
 subst hg hs
 have ok:okN X:=hq
 exact⟨by unfold nfP;rw[if_pos ok],by unfold nfE;rw[if_pos ok]⟩
theorem zh1 {n:Int} (hn:Fits64 n):∃f:FQ,f.is n 1∧fsz 5 f∧f.p.v=n∧f.q.v=1∧pf E0 304 [.i .i64 n]=some (fqP f):=by
 have hn':=hn
 unfold Fits64 at hn'
 obtain⟨f,f1,f2,fo⟩:=zlb hn (q:=1) (by decide) (by decide)
 obtain⟨l1,l2⟩:=zee (p:=n) (q:=1) (by decide) (Nat.gcd_one_right _)
 have f1:=f1.trans l1
 have f2:=f2.trans l2
 have fi:=zfg f
 rw[f1,f2] at fi
 refine⟨f,fi,⟨by rw[f1];exact zba (by omega),by rw[f2];exact zba (by decide)⟩,f1,f2,?_⟩
 refine zad (xf:=zub) rfl (by simp[zub]) ?_
 simp only[zub]
 simp(disch:=omega)only[go_sem,seval,wqq,fo]
theorem zqN {f:FQ} (h1:f.p.v.natAbs≤4611686018427387904) (h2:f.q.v.natAbs≤4611686018427387904):max (nbits f.p.v.natAbs) (nbits f.q.v.natAbs)≤1000:=by
 have a:=zcp (k:=f.p.v.natAbs) (n:=63) (by omega)
 have b:=zcp (k:=f.q.v.natAbs) (n:=63) (by omega)
 omega
theorem eq9 (a b c d e f g h i:Int):eqCellsP [1,1,1,1,1,1,1,1,1] [PV.i .i64 a,PV.i .i64 b,PV.i .i64 c,PV.i .i64 d,PV.i .i64 e,PV.i .i64 f,PV.i .i64 g,PV.i .i64 h,PV.i .i64 i] [PV.i .i64 a,PV.i .i64 b,PV.i .i64 c,PV.i .i64 d,PV.i .i64 e,PV.i .i64 f,PV.i .i64 g,PV.i .i64 h,PV.i .i64 i]=some true:=by
 simp[eqCellsP,eqCellP]
def pQ:Nat→Int:=tb [2,0,3,0,2,5,0,0,1]
def rQ:Nat→Int:=tb [6,0,0,0,6,0,-1,-1,4]
def yQ:Nat→Int:=rprV (baV 0 0 2 0 3 3 0 2) (adV (baV 0 0 1 0 1 1 0 1))
theorem zfz {p:Nat→Int} (hp:∀e,Fits64 (p e)) (ok:okP p) (h:rdV p≠0):vlP p=0:=by
 unfold vlP
 rw[if_pos ok,zmn hp,if_neg h]
theorem zle:pf E0 308 [pI pQ]=some (.tu [.ag [.i .i64 1,.i .i64 0,.i .i64 (-3),.i .i64 0,.i .i64 1,.i .i64 (-5),.i .i64 0,.i .i64 0,.i .i64 2],.i .i64 0]):=by
 have hp:∀e,Fits64 (pQ e):=zfy (by decide)
 have v0:vlP pQ=0:=zfz hp (fun e he=>by obtain rfl|rfl|rfl|rfl|rfl|rfl|rfl|rfl|rfl:=zeh he<;>decide) (by decide)
 have h:=zhL hp
 unfold IP IE at h
 rw[if_pos v0,if_pos v0] at h
 obtain⟨e1,e2⟩:=zhB (X:=adV pQ) (g:=2) (s:=1) (by decide) (by decide) (fun e he=>by obtain rfl|rfl|rfl|rfl|rfl|rfl|rfl|rfl|rfl:=zeh he<;>decide)
 rw[e1,e2] at h
 have w0:adV pQ 0/((2:Nat):Int)*1=1:=by decide
 have w1:adV pQ 1/((2:Nat):Int)*1=0:=by decide
 have w2:adV pQ 2/((2:Nat):Int)*1=(-3):=by decide
 have w3:adV pQ 3/((2:Nat):Int)*1=0:=by decide
 have w4:adV pQ 4/((2:Nat):Int)*1=1:=by decide
 have w5:adV pQ 5/((2:Nat):Int)*1=(-5):=by decide
 have w6:adV pQ 6/((2:Nat):Int)*1=0:=by decide
 have w7:adV pQ 7/((2:Nat):Int)*1=0:=by decide
 have w8:adV pQ 8/((2:Nat):Int)*1=2:=by decide
 unfold pI cI at h
 simp only[w0,w1,w2,w3,w4,w5,w6,w7,w8] at h
 unfold pI cI
 exact h
theorem zjc:pf E0 309 [q8 0 0 1 0 1 1 0 1,q8 0 0 2 0 3 3 0 2]=some (.tu [.ag [.i .i64 6,.i .i64 0,.i .i64 0,.i .i64 0,.i .i64 6,.i .i64 0,.i .i64 (-1),.i .i64 (-1),.i .i64 4],.i .i64 0]):=by
 have h:=zk5 (x0:=0) (y0:=0) (x1:=1) (y1:=0) (x2:=1) (y2:=1) (x3:=0) (y3:=1) (u0:=0) (v0:=0) (u1:=2) (v1:=0) (u2:=3) (v2:=3) (u3:=0) (v3:=2) (by unfold okQ;decide) (by unfold okQ;decide) (by unfold okQ;decide) (by unfold okQ;decide) (by unfold okQ;decide) (by unfold okQ;decide) (by unfold okQ;decide) (by unfold okQ;decide) (by unfold okQ;decide) (by unfold okQ;decide) (by unfold okQ;decide) (by unfold okQ;decide) (by unfold okQ;decide) (by unfold okQ;decide) (by unfold okQ;decide) (by unfold okQ;decide)
  (by decide) (by decide) (by decide) (by decide) (by decide) (by decide) (by decide) (by decide) (Y:=yQ) rfl (by decide)
 obtain⟨e1,e2⟩:=zhB (X:=yQ) (g:=2) (s:=(-1)) (by decide) (by decide) (fun e he=>by obtain rfl|rfl|rfl|rfl|rfl|rfl|rfl|rfl|rfl:=zeh he<;>decide)
 rw[e1,e2] at h
 have w0:yQ 0/((2:Nat):Int)*(-1)=6:=by decide
 have w1:yQ 1/((2:Nat):Int)*(-1)=0:=by decide
 have w2:yQ 2/((2:Nat):Int)*(-1)=0:=by decide
 have w3:yQ 3/((2:Nat):Int)*(-1)=0:=by decide
 have w4:yQ 4/((2:Nat):Int)*(-1)=6:=by decide
 have w5:yQ 5/((2:Nat):Int)*(-1)=0:=by decide
 have w6:yQ 6/((2:Nat):Int)*(-1)=(-1):=by decide
 have w7:yQ 7/((2:Nat):Int)*(-1)=(-1):=by decide
 have w8:yQ 8/((2:Nat):Int)*(-1)=4:=by decide
 unfold pI cI at h
 simp only[w0,w1,w2,w3,w4,w5,w6,w7,w8] at h
 exact h
set_option maxHeartbeats 4000000 in
set_option maxRecDepth 20000 in
theorem zhU:pf E0 303 []=some (.b true):=by
 have hp:∀e,Fits64 (pQ e):=zfy (by decide)
 have hr:∀e,Fits64 (rQ e):=zfy (by decide)
 have vp:vlP pQ=0:=zfz hp (fun e he=>by obtain rfl|rfl|rfl|rfl|rfl|rfl|rfl|rfl|rfl:=zeh he<;>decide) (by decide)
 have vr:vlP rQ=0:=zfz hr (fun e he=>by obtain rfl|rfl|rfl|rfl|rfl|rfl|rfl|rfl|rfl:=zeh he<;>decide) (by decide)
 obtain⟨h,h1,h2,ho⟩:=zlb (p:=1) (q:=2) (by decide) (by decide) (by decide)
 have l1:lowP 1 2=1∧lowQ 1 2=2:=zee (p:=1) (q:=2) (by decide) (by decide)
 have h1:=h1.trans l1.1
 have h2:=h2.trans l1.2
 have hi:=zfg h
 rw[h1,h2] at hi
 have hz:fsz 5 h:=⟨by rw[h1];exact zba (by decide),by rw[h2];exact zba (by decide)⟩
 have hd:=zqN (f:=h) (by rw[h1];decide) (by rw[h2];decide)
 obtain⟨o,oi,oz,o1,o2,oo⟩:=zh1 (n:=1) (by decide)
 have od:=zqN (f:=o) (by rw[o1];decide) (by rw[o2];decide)
 obtain⟨x,y,ap,xi,yi,_,_⟩:=zhK hp vp hz oz (by decide) (by decide) (by decide) hi oi hd od (by decide)
 obtain⟨u,v,aq,ui,vi,_,_⟩:=zhK hr vr hz hz (by decide) (by decide) (by decide) hi hi hd hd (by decide)
 obtain⟨x1,x2⟩:=zfW (p:=4) (q:=1) (by decide) (by decide) (by decide) xi (by decide)
 obtain⟨y1,y2⟩:=zfW (p:=7) (q:=1) (by decide) (by decide) (by decide) yi (by decide)
 obtain⟨u1,u2⟩:=zfW (p:=1) (q:=1) (by decide) (by decide) (by decide) ui (by decide)
 obtain⟨v1,v2⟩:=zfW (p:=1) (q:=1) (by decide) (by decide) (by decide) vi (by decide)
 have d4:decI 4=[52]:=(zhd (v:=4) (n:=0) rfl (by decide) (by decide)).trans rfl
 have d7:decI 7=[55]:=(zhd (v:=7) (n:=0) rfl (by decide) (by decide)).trans rfl
 have d1:decI 1=[49]:=(zhd (v:=1) (n:=0) rfl (by decide) (by decide)).trans rfl
 have s1:=zgq x (t:=[52]) x1 x2 (by unfold ftx;rw[if_pos rfl,d4])
 have s2:=zgq y (t:=[55]) y1 y2 (by unfold ftx;rw[if_pos rfl,d7])
 have s3:=zgq u (t:=[49]) u1 u2 (by unfold ftx;rw[if_pos rfl,d1])
 have s4:=zgq v (t:=[49]) v1 v2 (by unfold ftx;rw[if_pos rfl,d1])
 have fr:=zjc
 have iv:=zle
 have ePQ:pI pQ=.ag [.i .i64 2,.i .i64 0,.i .i64 3,.i .i64 0,.i .i64 2,.i .i64 5,.i .i64 0,.i .i64 0,.i .i64 1]:=rfl
 have eRQ:pI rQ=.ag [.i .i64 6,.i .i64 0,.i .i64 0,.i .i64 0,.i .i64 6,.i .i64 0,.i .i64 (-1),.i .i64 (-1),.i .i64 4]:=rfl
 rw[ePQ] at ap iv
 rw[eRQ] at aq
 unfold q8 at fr
 clear xi yi ui vi hi oi vp vr hp hr
 refine zad (xf:=zui) rfl (by simp[zui]) ?_
 simp only[zui]
 simp(disch:=omega)only[go_sem,seval,wqq,ho,zaz,zai]
 refine zaH [1,2] rfl (by simp only[go_sem,seval]) ?_
 simp(disch:=omega)only[go_sem,seval,wqq,oo,ap,iv,fr,aq,s1,s2,s3,s4,eq9,zaz,zai]
end Go.Eng
namespace Go.Eng
def rwF (p:Nat→Int) (i:Nat) (u v:FQ):Int:=rwV (p (3*i)) (p (3*i+1)) (p (3*i+2)) u.p.v u.q.v v.p.v v.q.v
end Go.Eng
namespace Go.Eng
def oneI:Nat→Int:=fun e=>if e%4=0 then 1 else 0
end Go.Eng
namespace Go.Eng
end Go.Eng
namespace Go.Eng
theorem hF (p:Nat→Int):PV.ag [.i .i64 (p 0),.i .i64 (p 1),.i .i64 (p 2),.i .i64 (p 3),.i .i64 (p 4),.i .i64 (p 5),.i .i64 (p 6),.i .i64 (p 7),.i .i64 (p 8)]=pI p:=rfl
def e9 (a b:Nat→Int):Bool:=a 0==b 0&&(a 1==b 1&&(a 2==b 2&&(a 3==b 3&&(a 4==b 4&&(a 5==b 5&&(a 6==b 6&&(a 7==b 7&&a 8==b 8)))))))
theorem zjh {p:Nat→Int} (hp:∀e,Fits64 (p e)) {at_ n:Int} (fa:Fits64 at_) (fn:Fits64 n):∃q:Nat→Int,(∀e,Fits64 (q e))∧pf E0 330 [pI p,.i .i64 at_,.i .i64 n]=some (pI q):=by
 have b1:=Int.tmod_lt_of_pos at_ (show (0:Int)<9 by decide)
 have b2:=Int.lt_tmod_of_pos at_ (show (0:Int)<9 by decide)
 obtain⟨j,hj⟩:∃j:Nat,at_.tmod 9+9=(j:Int):=⟨(at_.tmod 9+9).toNat,by omega⟩
 have t9:(j:Int).tmod 9=((j%9:Nat):Int):=zeg _ 9
 have k9:j%9<9:=Nat.mod_lt _ (by decide)
 have jb:j≤18:=by omega
 generalize hk:j%9=k at *
 refine⟨fun e=>if e=k then n else p e,fun e=>by
  show Fits64 (if e=k then n else p e)
  split
  ·exact fn
  ·exact hp e,?_⟩
 clear hk
 obtain rfl|rfl|rfl|rfl|rfl|rfl|rfl|rfl|rfl:=zeh k9
 ·have hR:PV.ag [.i .i64 n,.i .i64 (p 1),.i .i64 (p 2),.i .i64 (p 3),.i .i64 (p 4),.i .i64 (p 5),.i .i64 (p 6),.i .i64 (p 7),.i .i64 (p 8)]=pI (fun e=>if e=0 then n else p e):=rfl
  refine zad (xf:=zs9) rfl (by simp[zs9]) ?_
  simp only[zs9]
  simp(disch:=omega)only[go_sem,seval,wqq,zao,hj,t9,hR]
 ·have hR:PV.ag [.i .i64 (p 0),.i .i64 n,.i .i64 (p 2),.i .i64 (p 3),.i .i64 (p 4),.i .i64 (p 5),.i .i64 (p 6),.i .i64 (p 7),.i .i64 (p 8)]=pI (fun e=>if e=1 then n else p e):=rfl
  refine zad (xf:=zs9) rfl (by simp[zs9]) ?_
  simp only[zs9]
  simp(disch:=omega)only[go_sem,seval,wqq,zao,hj,t9,hR]
 ·have hR:PV.ag [.i .i64 (p 0),.i .i64 (p 1),.i .i64 n,.i .i64 (p 3),.i .i64 (p 4),.i .i64 (p 5),.i .i64 (p 6),.i .i64 (p 7),.i .i64 (p 8)]=pI (fun e=>if e=2 then n else p e):=rfl
  refine zad (xf:=zs9) rfl (by simp[zs9]) ?_
  simp only[zs9]
  simp(disch:=omega)only[go_sem,seval,wqq,zao,hj,t9,hR]
 ·have hR:PV.ag [.i .i64 (p 0),.i .i64 (p 1),.i .i64 (p 2),.i .i64 n,.i .i64 (p 4),.i .i64 (p 5),.i .i64 (p 6),.i .i64 (p 7),.i .i64 (p 8)]=pI (fun e=>if e=3 then n else p e):=rfl
  refine zad (xf:=zs9) rfl (by simp[zs9]) ?_
  simp only[zs9]
  simp(disch:=omega)only[go_sem,seval,wqq,zao,hj,t9,hR]
 ·have hR:PV.ag [.i .i64 (p 0),.i .i64 (p 1),.i .i64 (p 2),.i .i64 (p 3),.i .i64 n,.i .i64 (p 5),.i .i64 (p 6),.i .i64 (p 7),.i .i64 (p 8)]=pI (fun e=>if e=4 then n else p e):=rfl
  refine zad (xf:=zs9) rfl (by simp[zs9]) ?_
  simp only[zs9]
  simp(disch:=omega)only[go_sem,seval,wqq,zao,hj,t9,hR]
 ·have hR:PV.ag [.i .i64 (p 0),.i .i64 (p 1),.i .i64 (p 2),.i .i64 (p 3),.i .i64 (p 4),.i .i64 n,.i .i64 (p 6),.i .i64 (p 7),.i .i64 (p 8)]=pI (fun e=>if e=5 then n else p e):=rfl
  refine zad (xf:=zs9) rfl (by simp[zs9]) ?_
  simp only[zs9]
  simp(disch:=omega)only[go_sem,seval,wqq,zao,hj,t9,hR]
 ·have hR:PV.ag [.i .i64 (p 0),.i .i64 (p 1),.i .i64 (p 2),.i .i64 (p 3),.i .i64 (p 4),.i .i64 (p 5),.i .i64 n,.i .i64 (p 7),.i .i64 (p 8)]=pI (fun e=>if e=6 then n else p e):=rfl
  refine zad (xf:=zs9) rfl (by simp[zs9]) ?_
  simp only[zs9]
  simp(disch:=omega)only[go_sem,seval,wqq,zao,hj,t9,hR]
 ·have hR:PV.ag [.i .i64 (p 0),.i .i64 (p 1),.i .i64 (p 2),.i .i64 (p 3),.i .i64 (p 4),.i .i64 (p 5),.i .i64 (p 6),.i .i64 n,.i .i64 (p 8)]=pI (fun e=>if e=7 then n else p e):=rfl
  refine zad (xf:=zs9) rfl (by simp[zs9]) ?_
  simp only[zs9]
  simp(disch:=omega)only[go_sem,seval,wqq,zao,hj,t9,hR]
 ·have hR:PV.ag [.i .i64 (p 0),.i .i64 (p 1),.i .i64 (p 2),.i .i64 (p 3),.i .i64 (p 4),.i .i64 (p 5),.i .i64 (p 6),.i .i64 (p 7),.i .i64 n]=pI (fun e=>if e=8 then n else p e):=rfl
  refine zad (xf:=zs9) rfl (by simp[zs9]) ?_
  simp only[zs9]
  simp(disch:=omega)only[go_sem,seval,wqq,zao,hj,t9,hR]
theorem zje {xs:List Int} (hx:Ints xs) {i:Int} (hi:Fits64 i):∃n,Fits64 n∧pf E0 180 [ints xs,.i .i64 i]=some (.i .i64 n):=by
 obtain⟨hx1,hx2⟩:=hx
 by_cases h:i<0
 ·have h:(i<0)=True:=eq_true h
  refine⟨0,by decide,?_⟩
  refine zad (xf:=zto) rfl (by simp[zto]) ?_
  simp only[zto]
  simp(disch:=omega)only[go_sem,seval,wqq,h]
 ·have h0:(i<0)=False:=eq_false h
  by_cases h':(xs.length:Int)≤i
  ·have q1:(i≥(xs.length:Int))=True:=eq_true h'
   refine⟨0,by decide,?_⟩
   refine zad (xf:=zto) rfl (by simp[zto]) ?_
   simp only[zto]
   simp(disch:=omega)only[go_sem,seval,wqq,h0,q1]
  ·have q1:(i≥(xs.length:Int))=False:=eq_false h'
   obtain⟨j,rfl⟩:∃j:Nat,i=j:=⟨i.toNat,by omega⟩
   have hj:j<xs.length:=by omega
   have hg:xs[j]?=some (xs.getD j 0):=by simp[hj]
   refine⟨xs.getD j 0,hx2 _ (by simp[hj]),?_⟩
   refine zad (xf:=zto) rfl (by simp[zto]) ?_
   simp only[zto]
   simp(disch:=omega)only[go_sem,seval,wqq,h0,q1,zeH hg,Int.toNat_natCast]
end Go.Eng
namespace Go.Eng
def gEnt (n d:Int):Int:=if n.tmod 6=1∨n.tmod 6 = -1 then (n.tdiv 6).tmod 8 else if n.tmod 6=2 then (n.tdiv 6).tmod 1000 else if n.tmod 6=3 then 1073741824-(n.tdiv 6).tmod 4 else d
def g0P:Nat→Int:=fun e=>if e=0 then 2 else if e=4 then 2 else if e=8 then 1 else 0
theorem zhl (n d:Int) (hd:Fits64 d):Fits64 (gEnt n d):=by
 have a1:=Int.lt_tmod_of_pos (n.tdiv 6) (show (0:Int)<8 by decide)
 have a2:=Int.tmod_lt_of_pos (n.tdiv 6) (show (0:Int)<8 by decide)
 have b1:=Int.lt_tmod_of_pos (n.tdiv 6) (show (0:Int)<1000 by decide)
 have b2:=Int.tmod_lt_of_pos (n.tdiv 6) (show (0:Int)<1000 by decide)
 have c1:=Int.lt_tmod_of_pos (n.tdiv 6) (show (0:Int)<4 by decide)
 have c2:=Int.tmod_lt_of_pos (n.tdiv 6) (show (0:Int)<4 by decide)
 unfold gEnt
 split
 ·unfold Fits64;omega
 ·split
  ·unfold Fits64;omega
  ·split
   ·unfold Fits64;omega
   ·exact hd
def gMix (ns:Nat→Int) (i:Nat):Nat→Int:=fun e=>if e<i then gEnt (ns e) (g0P e) else g0P e
theorem gm0 (ns:Nat→Int) {x:Int} (h:gEnt (ns 0) (g0P 0)=x):(cI (gMix ns 0)).set 0 (.i .i64 x)=cI (gMix ns 1):=by subst h;rfl
theorem gk0 (ns:Nat→Int) (h:gEnt (ns 0) (g0P 0)=g0P 0):cI (gMix ns 0)=cI (gMix ns 1):=by
 have e:gMix ns 0=gMix ns 1:=by
  funext e
  unfold gMix
  by_cases q:e=0
  ·subst q;rw[if_neg (by decide),if_pos (by decide),h]
  ·by_cases r:e<0
   ·rw[if_pos r,if_pos (by omega)]
   ·rw[if_neg r,if_neg (by omega)]
 rw[e]
theorem gm1 (ns:Nat→Int) {x:Int} (h:gEnt (ns 1) (g0P 1)=x):(cI (gMix ns 1)).set 1 (.i .i64 x)=cI (gMix ns 2):=by subst h;rfl
theorem gk1 (ns:Nat→Int) (h:gEnt (ns 1) (g0P 1)=g0P 1):cI (gMix ns 1)=cI (gMix ns 2):=by
 have e:gMix ns 1=gMix ns 2:=by
  funext e
  unfold gMix
  by_cases q:e=1
  ·subst q;rw[if_neg (by decide),if_pos (by decide),h]
  ·by_cases r:e<1
   ·rw[if_pos r,if_pos (by omega)]
   ·rw[if_neg r,if_neg (by omega)]
 rw[e]
theorem gm2 (ns:Nat→Int) {x:Int} (h:gEnt (ns 2) (g0P 2)=x):(cI (gMix ns 2)).set 2 (.i .i64 x)=cI (gMix ns 3):=by subst h;rfl
theorem gk2 (ns:Nat→Int) (h:gEnt (ns 2) (g0P 2)=g0P 2):cI (gMix ns 2)=cI (gMix ns 3):=by
 have e:gMix ns 2=gMix ns 3:=by
  funext e
  unfold gMix
  by_cases q:e=2
  ·subst q;rw[if_neg (by decide),if_pos (by decide),h]
  ·by_cases r:e<2
   ·rw[if_pos r,if_pos (by omega)]
   ·rw[if_neg r,if_neg (by omega)]
 rw[e]
theorem gm3 (ns:Nat→Int) {x:Int} (h:gEnt (ns 3) (g0P 3)=x):(cI (gMix ns 3)).set 3 (.i .i64 x)=cI (gMix ns 4):=by subst h;rfl
theorem gk3 (ns:Nat→Int) (h:gEnt (ns 3) (g0P 3)=g0P 3):cI (gMix ns 3)=cI (gMix ns 4):=by
 have e:gMix ns 3=gMix ns 4:=by
  funext e
  unfold gMix
  by_cases q:e=3
  ·subst q;rw[if_neg (by decide),if_pos (by decide),h]
  ·by_cases r:e<3
   ·rw[if_pos r,if_pos (by omega)]
   ·rw[if_neg r,if_neg (by omega)]
 rw[e]
theorem gm4 (ns:Nat→Int) {x:Int} (h:gEnt (ns 4) (g0P 4)=x):(cI (gMix ns 4)).set 4 (.i .i64 x)=cI (gMix ns 5):=by subst h;rfl
theorem gk4 (ns:Nat→Int) (h:gEnt (ns 4) (g0P 4)=g0P 4):cI (gMix ns 4)=cI (gMix ns 5):=by
 have e:gMix ns 4=gMix ns 5:=by
  funext e
  unfold gMix
  by_cases q:e=4
  ·subst q;rw[if_neg (by decide),if_pos (by decide),h]
  ·by_cases r:e<4
   ·rw[if_pos r,if_pos (by omega)]
   ·rw[if_neg r,if_neg (by omega)]
 rw[e]
theorem gm5 (ns:Nat→Int) {x:Int} (h:gEnt (ns 5) (g0P 5)=x):(cI (gMix ns 5)).set 5 (.i .i64 x)=cI (gMix ns 6):=by subst h;rfl
theorem gk5 (ns:Nat→Int) (h:gEnt (ns 5) (g0P 5)=g0P 5):cI (gMix ns 5)=cI (gMix ns 6):=by
 have e:gMix ns 5=gMix ns 6:=by
  funext e
  unfold gMix
  by_cases q:e=5
  ·subst q;rw[if_neg (by decide),if_pos (by decide),h]
  ·by_cases r:e<5
   ·rw[if_pos r,if_pos (by omega)]
   ·rw[if_neg r,if_neg (by omega)]
 rw[e]
theorem gm6 (ns:Nat→Int) {x:Int} (h:gEnt (ns 6) (g0P 6)=x):(cI (gMix ns 6)).set 6 (.i .i64 x)=cI (gMix ns 7):=by subst h;rfl
theorem gk6 (ns:Nat→Int) (h:gEnt (ns 6) (g0P 6)=g0P 6):cI (gMix ns 6)=cI (gMix ns 7):=by
 have e:gMix ns 6=gMix ns 7:=by
  funext e
  unfold gMix
  by_cases q:e=6
  ·subst q;rw[if_neg (by decide),if_pos (by decide),h]
  ·by_cases r:e<6
   ·rw[if_pos r,if_pos (by omega)]
   ·rw[if_neg r,if_neg (by omega)]
 rw[e]
theorem gm7 (ns:Nat→Int) {x:Int} (h:gEnt (ns 7) (g0P 7)=x):(cI (gMix ns 7)).set 7 (.i .i64 x)=cI (gMix ns 8):=by subst h;rfl
theorem gk7 (ns:Nat→Int) (h:gEnt (ns 7) (g0P 7)=g0P 7):cI (gMix ns 7)=cI (gMix ns 8):=by
 have e:gMix ns 7=gMix ns 8:=by
  funext e
  unfold gMix
  by_cases q:e=7
  ·subst q;rw[if_neg (by decide),if_pos (by decide),h]
  ·by_cases r:e<7
   ·rw[if_pos r,if_pos (by omega)]
   ·rw[if_neg r,if_neg (by omega)]
 rw[e]
theorem gm8 (ns:Nat→Int) {x:Int} (h:gEnt (ns 8) (g0P 8)=x):(cI (gMix ns 8)).set 8 (.i .i64 x)=cI (gMix ns 9):=by subst h;rfl
theorem gk8 (ns:Nat→Int) (h:gEnt (ns 8) (g0P 8)=g0P 8):cI (gMix ns 8)=cI (gMix ns 9):=by
 have e:gMix ns 8=gMix ns 9:=by
  funext e
  unfold gMix
  by_cases q:e=8
  ·subst q;rw[if_neg (by decide),if_pos (by decide),h]
  ·by_cases r:e<8
   ·rw[if_pos r,if_pos (by omega)]
   ·rw[if_neg r,if_neg (by omega)]
 rw[e]
set_option maxHeartbeats 8000000 in
theorem zk7 {xs:List Int} (hx:Ints xs):∃p:Nat→Int,(∀e,Fits64 (p e))∧pf E0 301 [ints xs,.i .i64 0]=some (pI p):=by
 have pk:∀e:Nat,∃n,Fits64 n∧(e<100→pf E0 180 [ints xs,.i .i64 ((e:Nat):Int)]=some (.i .i64 n)):=fun e=>by
  by_cases h:e<100
  ·obtain⟨n,h1,h2⟩:=zje hx (i:=((e:Nat):Int)) (by unfold Fits64;omega)
   exact⟨n,h1,fun _=>h2⟩
  ·exact⟨0,by decide,fun q=>(h q).elim⟩
 obtain⟨ns,hns⟩:∃ns:Nat→Int,∀e,Fits64 (ns e)∧(e<100→pf E0 180 [ints xs,.i .i64 ((e:Nat):Int)]=some (.i .i64 (ns e))):=⟨fun e=>Classical.choose (pk e),fun e=>Classical.choose_spec (pk e)⟩
 have g0f:∀e,Fits64 (g0P e):=fun e=>by unfold g0P;split<;>(try split)<;>(try split)<;>decide
 refine⟨gMix ns 9,fun e=>by
  show Fits64 (if e<9 then gEnt (ns e) (g0P e) else g0P e)
  split
  ·exact zhl _ _ (g0f e)
  ·exact g0f e,?_⟩
 have c0:[PV.i .i64 2,.i .i64 0,.i .i64 0,.i .i64 0,.i .i64 2,.i .i64 0,.i .i64 0,.i .i64 0,.i .i64 1]=cI (gMix ns 0):=rfl
 refine zad (xf:=zuA) rfl (by simp[zuA]) ?_
 simp only[zuA]
 simp(disch:=omega)only[go_sem,seval,wqq,zaz,zai]
 refine zas zuW.eq_1 (fun(i:Nat) fr M=>i≤9∧fr 0=ints xs∧fr 1=.i .i64 0∧fr 4=.p 0 0∧fr 5=.p 1 0∧fr 6=(PV.i .i64 ((i:Nat):Int))∧∃b v,M=[some ⟨cQ 0 zI,true,b⟩,some ⟨cI (gMix ns i),true,v⟩]) (fun i=>9-i) ?_ 0 ⟨by omega,by simp only[go_sem,seval],by simp only[go_sem,seval],by simp only[go_sem,seval],by simp only[go_sem,seval],by simp only[go_sem,seval],_,_,rfl⟩
 rintro i fr M ⟨hi,f0,f1,f4,f5,f6,b,v,rfl⟩ ih
 rcases Nat.lt_or_ge i 9 with h9|h9
 ·obtain⟨nf,np⟩:=hns i
  have np:=np (by omega)
  have a1:=Int.lt_tmod_of_pos ((ns i).tdiv 6) (show (0:Int)<4 by decide)
  have a2:=Int.tmod_lt_of_pos ((ns i).tdiv 6) (show (0:Int)<4 by decide)
  have dv : -9223372036854775808≤(ns i).tdiv 6∧(ns i).tdiv 6≤9223372036854775807:=by
   unfold Fits64 at nf
   have:=Int.mul_tdiv_add_tmod (ns i) 6
   have m1:=Int.lt_tmod_of_pos (ns i) (show (0:Int)<6 by decide)
   have m2:=Int.tmod_lt_of_pos (ns i) (show (0:Int)<6 by decide)
   omega
  have q1:((i:Int)<9)=True:=eq_true (by omega)
  have z1:(0:Int)+((i:Nat):Int)=((i:Nat):Int):=Int.zero_add _
  have hE:gEnt (ns i) (g0P i)=gEnt (ns i) (g0P i):=rfl
  rcases zdi ((ns i).tmod 6=1) with t1|t1
  ·have hv:gEnt (ns i) (g0P i)=((ns i).tdiv 6).tmod 8:=by unfold gEnt;rw[if_pos (.inl (of_eq_true t1))]
   obtain⟨k,hk⟩:∃k,k=ns i:=⟨_,rfl⟩
   obtain rfl|rfl|rfl|rfl|rfl|rfl|rfl|rfl|rfl:=zeh h9
   ·have np:pf E0 180 [ints xs,.i .i64 0]=some (.i .i64 (ns 0)):=np
    simp(disch:=omega)only[go_sem,seval,wqq,f0,f1,f4,f5,f6,np,t1]
    exact ih 1 _ _ (by omega) ⟨by omega,by simp only[go_sem,seval,f0],by simp only[go_sem,seval,f1],by simp only[go_sem,seval,f4],by simp only[go_sem,seval,f5],by simp only[go_sem,seval],b,v+1,by rw[←gm0 ns hv]⟩
   ·have np:pf E0 180 [ints xs,.i .i64 1]=some (.i .i64 (ns 1)):=np
    simp(disch:=omega)only[go_sem,seval,wqq,f0,f1,f4,f5,f6,np,t1]
    exact ih 2 _ _ (by omega) ⟨by omega,by simp only[go_sem,seval,f0],by simp only[go_sem,seval,f1],by simp only[go_sem,seval,f4],by simp only[go_sem,seval,f5],by simp only[go_sem,seval],b,v+1,by rw[←gm1 ns hv]⟩
   ·have np:pf E0 180 [ints xs,.i .i64 2]=some (.i .i64 (ns 2)):=np
    simp(disch:=omega)only[go_sem,seval,wqq,f0,f1,f4,f5,f6,np,t1]
    exact ih 3 _ _ (by omega) ⟨by omega,by simp only[go_sem,seval,f0],by simp only[go_sem,seval,f1],by simp only[go_sem,seval,f4],by simp only[go_sem,seval,f5],by simp only[go_sem,seval],b,v+1,by rw[←gm2 ns hv]⟩
   ·have np:pf E0 180 [ints xs,.i .i64 3]=some (.i .i64 (ns 3)):=np
    simp(disch:=omega)only[go_sem,seval,wqq,f0,f1,f4,f5,f6,np,t1]
    exact ih 4 _ _ (by omega) ⟨by omega,by simp only[go_sem,seval,f0],by simp only[go_sem,seval,f1],by simp only[go_sem,seval,f4],by simp only[go_sem,seval,f5],by simp only[go_sem,seval],b,v+1,by rw[←gm3 ns hv]⟩
   ·have np:pf E0 180 [ints xs,.i .i64 4]=some (.i .i64 (ns 4)):=np
    simp(disch:=omega)only[go_sem,seval,wqq,f0,f1,f4,f5,f6,np,t1]
    exact ih 5 _ _ (by omega) ⟨by omega,by simp only[go_sem,seval,f0],by simp only[go_sem,seval,f1],by simp only[go_sem,seval,f4],by simp only[go_sem,seval,f5],by simp only[go_sem,seval],b,v+1,by rw[←gm4 ns hv]⟩
   ·have np:pf E0 180 [ints xs,.i .i64 5]=some (.i .i64 (ns 5)):=np
    simp(disch:=omega)only[go_sem,seval,wqq,f0,f1,f4,f5,f6,np,t1]
    exact ih 6 _ _ (by omega) ⟨by omega,by simp only[go_sem,seval,f0],by simp only[go_sem,seval,f1],by simp only[go_sem,seval,f4],by simp only[go_sem,seval,f5],by simp only[go_sem,seval],b,v+1,by rw[←gm5 ns hv]⟩
   ·have np:pf E0 180 [ints xs,.i .i64 6]=some (.i .i64 (ns 6)):=np
    simp(disch:=omega)only[go_sem,seval,wqq,f0,f1,f4,f5,f6,np,t1]
    exact ih 7 _ _ (by omega) ⟨by omega,by simp only[go_sem,seval,f0],by simp only[go_sem,seval,f1],by simp only[go_sem,seval,f4],by simp only[go_sem,seval,f5],by simp only[go_sem,seval],b,v+1,by rw[←gm6 ns hv]⟩
   ·have np:pf E0 180 [ints xs,.i .i64 7]=some (.i .i64 (ns 7)):=np
    simp(disch:=omega)only[go_sem,seval,wqq,f0,f1,f4,f5,f6,np,t1]
    exact ih 8 _ _ (by omega) ⟨by omega,by simp only[go_sem,seval,f0],by simp only[go_sem,seval,f1],by simp only[go_sem,seval,f4],by simp only[go_sem,seval,f5],by simp only[go_sem,seval],b,v+1,by rw[←gm7 ns hv]⟩
   ·have np:pf E0 180 [ints xs,.i .i64 8]=some (.i .i64 (ns 8)):=np
    simp(disch:=omega)only[go_sem,seval,wqq,f0,f1,f4,f5,f6,np,t1]
    exact ih 9 _ _ (by omega) ⟨by omega,by simp only[go_sem,seval,f0],by simp only[go_sem,seval,f1],by simp only[go_sem,seval,f4],by simp only[go_sem,seval,f5],by simp only[go_sem,seval],b,v+1,by rw[←gm8 ns hv]⟩
  rcases zdi ((ns i).tmod 6 = -1) with t2|t2
  ·have hv:gEnt (ns i) (g0P i)=((ns i).tdiv 6).tmod 8:=by unfold gEnt;rw[if_pos (.inr (of_eq_true t2))]
   obtain rfl|rfl|rfl|rfl|rfl|rfl|rfl|rfl|rfl:=zeh h9
   ·have np:pf E0 180 [ints xs,.i .i64 0]=some (.i .i64 (ns 0)):=np
    simp(disch:=omega)only[go_sem,seval,wqq,f0,f1,f4,f5,f6,np,t1,t2]
    exact ih 1 _ _ (by omega) ⟨by omega,by simp only[go_sem,seval,f0],by simp only[go_sem,seval,f1],by simp only[go_sem,seval,f4],by simp only[go_sem,seval,f5],by simp only[go_sem,seval],b,v+1,by rw[←gm0 ns hv]⟩
   ·have np:pf E0 180 [ints xs,.i .i64 1]=some (.i .i64 (ns 1)):=np
    simp(disch:=omega)only[go_sem,seval,wqq,f0,f1,f4,f5,f6,np,t1,t2]
    exact ih 2 _ _ (by omega) ⟨by omega,by simp only[go_sem,seval,f0],by simp only[go_sem,seval,f1],by simp only[go_sem,seval,f4],by simp only[go_sem,seval,f5],by simp only[go_sem,seval],b,v+1,by rw[←gm1 ns hv]⟩
   ·have np:pf E0 180 [ints xs,.i .i64 2]=some (.i .i64 (ns 2)):=np
    simp(disch:=omega)only[go_sem,seval,wqq,f0,f1,f4,f5,f6,np,t1,t2]
    exact ih 3 _ _ (by omega) ⟨by omega,by simp only[go_sem,seval,f0],by simp only[go_sem,seval,f1],by simp only[go_sem,seval,f4],by simp only[go_sem,seval,f5],by simp only[go_sem,seval],b,v+1,by rw[←gm2 ns hv]⟩
   ·have np:pf E0 180 [ints xs,.i .i64 3]=some (.i .i64 (ns 3)):=np
    simp(disch:=omega)only[go_sem,seval,wqq,f0,f1,f4,f5,f6,np,t1,t2]
    exact ih 4 _ _ (by omega) ⟨by omega,by simp only[go_sem,seval,f0],by simp only[go_sem,seval,f1],by simp only[go_sem,seval,f4],by simp only[go_sem,seval,f5],by simp only[go_sem,seval],b,v+1,by rw[←gm3 ns hv]⟩
   ·have np:pf E0 180 [ints xs,.i .i64 4]=some (.i .i64 (ns 4)):=np
    simp(disch:=omega)only[go_sem,seval,wqq,f0,f1,f4,f5,f6,np,t1,t2]
    exact ih 5 _ _ (by omega) ⟨by omega,by simp only[go_sem,seval,f0],by simp only[go_sem,seval,f1],by simp only[go_sem,seval,f4],by simp only[go_sem,seval,f5],by simp only[go_sem,seval],b,v+1,by rw[←gm4 ns hv]⟩
   ·have np:pf E0 180 [ints xs,.i .i64 5]=some (.i .i64 (ns 5)):=np
    simp(disch:=omega)only[go_sem,seval,wqq,f0,f1,f4,f5,f6,np,t1,t2]
    exact ih 6 _ _ (by omega) ⟨by omega,by simp only[go_sem,seval,f0],by simp only[go_sem,seval,f1],by simp only[go_sem,seval,f4],by simp only[go_sem,seval,f5],by simp only[go_sem,seval],b,v+1,by rw[←gm5 ns hv]⟩
   ·have np:pf E0 180 [ints xs,.i .i64 6]=some (.i .i64 (ns 6)):=np
    simp(disch:=omega)only[go_sem,seval,wqq,f0,f1,f4,f5,f6,np,t1,t2]
    exact ih 7 _ _ (by omega) ⟨by omega,by simp only[go_sem,seval,f0],by simp only[go_sem,seval,f1],by simp only[go_sem,seval,f4],by simp only[go_sem,seval,f5],by simp only[go_sem,seval],b,v+1,by rw[←gm6 ns hv]⟩
   ·have np:pf E0 180 [ints xs,.i .i64 7]=some (.i .i64 (ns 7)):=np
    simp(disch:=omega)only[go_sem,seval,wqq,f0,f1,f4,f5,f6,np,t1,t2]
    exact ih 8 _ _ (by omega) ⟨by omega,by simp only[go_sem,seval,f0],by simp only[go_sem,seval,f1],by simp only[go_sem,seval,f4],by simp only[go_sem,seval,f5],by simp only[go_sem,seval],b,v+1,by rw[←gm7 ns hv]⟩
   ·have np:pf E0 180 [ints xs,.i .i64 8]=some (.i .i64 (ns 8)):=np
    simp(disch:=omega)only[go_sem,seval,wqq,f0,f1,f4,f5,f6,np,t1,t2]
    exact ih 9 _ _ (by omega) ⟨by omega,by simp only[go_sem,seval,f0],by simp only[go_sem,seval,f1],by simp only[go_sem,seval,f4],by simp only[go_sem,seval,f5],by simp only[go_sem,seval],b,v+1,by rw[←gm8 ns hv]⟩
  have nt:¬((ns i).tmod 6=1∨(ns i).tmod 6 = -1):=fun q=>q.elim (of_eq_false t1) (of_eq_false t2)
  rcases zdi ((ns i).tmod 6=2) with t3|t3
  ·have hv:gEnt (ns i) (g0P i)=((ns i).tdiv 6).tmod 1000:=by unfold gEnt;rw[if_neg nt,if_pos (of_eq_true t3)]
   obtain rfl|rfl|rfl|rfl|rfl|rfl|rfl|rfl|rfl:=zeh h9
   ·have np:pf E0 180 [ints xs,.i .i64 0]=some (.i .i64 (ns 0)):=np
    simp(disch:=omega)only[go_sem,seval,wqq,f0,f1,f4,f5,f6,np,t1,t2,t3]
    exact ih 1 _ _ (by omega) ⟨by omega,by simp only[go_sem,seval,f0],by simp only[go_sem,seval,f1],by simp only[go_sem,seval,f4],by simp only[go_sem,seval,f5],by simp only[go_sem,seval],b,v+1,by rw[←gm0 ns hv]⟩
   ·have np:pf E0 180 [ints xs,.i .i64 1]=some (.i .i64 (ns 1)):=np
    simp(disch:=omega)only[go_sem,seval,wqq,f0,f1,f4,f5,f6,np,t1,t2,t3]
    exact ih 2 _ _ (by omega) ⟨by omega,by simp only[go_sem,seval,f0],by simp only[go_sem,seval,f1],by simp only[go_sem,seval,f4],by simp only[go_sem,seval,f5],by simp only[go_sem,seval],b,v+1,by rw[←gm1 ns hv]⟩
   ·have np:pf E0 180 [ints xs,.i .i64 2]=some (.i .i64 (ns 2)):=np
    simp(disch:=omega)only[go_sem,seval,wqq,f0,f1,f4,f5,f6,np,t1,t2,t3]
    exact ih 3 _ _ (by omega) ⟨by omega,by simp only[go_sem,seval,f0],by simp only[go_sem,seval,f1],by simp only[go_sem,seval,f4],by simp only[go_sem,seval,f5],by simp only[go_sem,seval],b,v+1,by rw[←gm2 ns hv]⟩
   ·have np:pf E0 180 [ints xs,.i .i64 3]=some (.i .i64 (ns 3)):=np
    simp(disch:=omega)only[go_sem,seval,wqq,f0,f1,f4,f5,f6,np,t1,t2,t3]
    exact ih 4 _ _ (by omega) ⟨by omega,by simp only[go_sem,seval,f0],by simp only[go_sem,seval,f1],by simp only[go_sem,seval,f4],by simp only[go_sem,seval,f5],by simp only[go_sem,seval],b,v+1,by rw[←gm3 ns hv]⟩
   ·have np:pf E0 180 [ints xs,.i .i64 4]=some (.i .i64 (ns 4)):=np
    simp(disch:=omega)only[go_sem,seval,wqq,f0,f1,f4,f5,f6,np,t1,t2,t3]
    exact ih 5 _ _ (by omega) ⟨by omega,by simp only[go_sem,seval,f0],by simp only[go_sem,seval,f1],by simp only[go_sem,seval,f4],by simp only[go_sem,seval,f5],by simp only[go_sem,seval],b,v+1,by rw[←gm4 ns hv]⟩
   ·have np:pf E0 180 [ints xs,.i .i64 5]=some (.i .i64 (ns 5)):=np
    simp(disch:=omega)only[go_sem,seval,wqq,f0,f1,f4,f5,f6,np,t1,t2,t3]
    exact ih 6 _ _ (by omega) ⟨by omega,by simp only[go_sem,seval,f0],by simp only[go_sem,seval,f1],by simp only[go_sem,seval,f4],by simp only[go_sem,seval,f5],by simp only[go_sem,seval],b,v+1,by rw[←gm5 ns hv]⟩
   ·have np:pf E0 180 [ints xs,.i .i64 6]=some (.i .i64 (ns 6)):=np
    simp(disch:=omega)only[go_sem,seval,wqq,f0,f1,f4,f5,f6,np,t1,t2,t3]
    exact ih 7 _ _ (by omega) ⟨by omega,by simp only[go_sem,seval,f0],by simp only[go_sem,seval,f1],by simp only[go_sem,seval,f4],by simp only[go_sem,seval,f5],by simp only[go_sem,seval],b,v+1,by rw[←gm6 ns hv]⟩
   ·have np:pf E0 180 [ints xs,.i .i64 7]=some (.i .i64 (ns 7)):=np
    simp(disch:=omega)only[go_sem,seval,wqq,f0,f1,f4,f5,f6,np,t1,t2,t3]
    exact ih 8 _ _ (by omega) ⟨by omega,by simp only[go_sem,seval,f0],by simp only[go_sem,seval,f1],by simp only[go_sem,seval,f4],by simp only[go_sem,seval,f5],by simp only[go_sem,seval],b,v+1,by rw[←gm7 ns hv]⟩
   ·have np:pf E0 180 [ints xs,.i .i64 8]=some (.i .i64 (ns 8)):=np
    simp(disch:=omega)only[go_sem,seval,wqq,f0,f1,f4,f5,f6,np,t1,t2,t3]
    exact ih 9 _ _ (by omega) ⟨by omega,by simp only[go_sem,seval,f0],by simp only[go_sem,seval,f1],by simp only[go_sem,seval,f4],by simp only[go_sem,seval,f5],by simp only[go_sem,seval],b,v+1,by rw[←gm8 ns hv]⟩
  rcases zdi ((ns i).tmod 6=3) with t4|t4
  ·have hv:gEnt (ns i) (g0P i)=1073741824-((ns i).tdiv 6).tmod 4:=by unfold gEnt;rw[if_neg nt,if_neg (of_eq_false t3),if_pos (of_eq_true t4)]
   obtain rfl|rfl|rfl|rfl|rfl|rfl|rfl|rfl|rfl:=zeh h9
   ·have np:pf E0 180 [ints xs,.i .i64 0]=some (.i .i64 (ns 0)):=np
    simp(disch:=omega)only[go_sem,seval,wqq,f0,f1,f4,f5,f6,np,t1,t2,t3,t4]
    exact ih 1 _ _ (by omega) ⟨by omega,by simp only[go_sem,seval,f0],by simp only[go_sem,seval,f1],by simp only[go_sem,seval,f4],by simp only[go_sem,seval,f5],by simp only[go_sem,seval],b,v+1,by rw[←gm0 ns hv]⟩
   ·have np:pf E0 180 [ints xs,.i .i64 1]=some (.i .i64 (ns 1)):=np
    simp(disch:=omega)only[go_sem,seval,wqq,f0,f1,f4,f5,f6,np,t1,t2,t3,t4]
    exact ih 2 _ _ (by omega) ⟨by omega,by simp only[go_sem,seval,f0],by simp only[go_sem,seval,f1],by simp only[go_sem,seval,f4],by simp only[go_sem,seval,f5],by simp only[go_sem,seval],b,v+1,by rw[←gm1 ns hv]⟩
   ·have np:pf E0 180 [ints xs,.i .i64 2]=some (.i .i64 (ns 2)):=np
    simp(disch:=omega)only[go_sem,seval,wqq,f0,f1,f4,f5,f6,np,t1,t2,t3,t4]
    exact ih 3 _ _ (by omega) ⟨by omega,by simp only[go_sem,seval,f0],by simp only[go_sem,seval,f1],by simp only[go_sem,seval,f4],by simp only[go_sem,seval,f5],by simp only[go_sem,seval],b,v+1,by rw[←gm2 ns hv]⟩
   ·have np:pf E0 180 [ints xs,.i .i64 3]=some (.i .i64 (ns 3)):=np
    simp(disch:=omega)only[go_sem,seval,wqq,f0,f1,f4,f5,f6,np,t1,t2,t3,t4]
    exact ih 4 _ _ (by omega) ⟨by omega,by simp only[go_sem,seval,f0],by simp only[go_sem,seval,f1],by simp only[go_sem,seval,f4],by simp only[go_sem,seval,f5],by simp only[go_sem,seval],b,v+1,by rw[←gm3 ns hv]⟩
   ·have np:pf E0 180 [ints xs,.i .i64 4]=some (.i .i64 (ns 4)):=np
    simp(disch:=omega)only[go_sem,seval,wqq,f0,f1,f4,f5,f6,np,t1,t2,t3,t4]
    exact ih 5 _ _ (by omega) ⟨by omega,by simp only[go_sem,seval,f0],by simp only[go_sem,seval,f1],by simp only[go_sem,seval,f4],by simp only[go_sem,seval,f5],by simp only[go_sem,seval],b,v+1,by rw[←gm4 ns hv]⟩
   ·have np:pf E0 180 [ints xs,.i .i64 5]=some (.i .i64 (ns 5)):=np
    simp(disch:=omega)only[go_sem,seval,wqq,f0,f1,f4,f5,f6,np,t1,t2,t3,t4]
    exact ih 6 _ _ (by omega) ⟨by omega,by simp only[go_sem,seval,f0],by simp only[go_sem,seval,f1],by simp only[go_sem,seval,f4],by simp only[go_sem,seval,f5],by simp only[go_sem,seval],b,v+1,by rw[←gm5 ns hv]⟩
   ·have np:pf E0 180 [ints xs,.i .i64 6]=some (.i .i64 (ns 6)):=np
    simp(disch:=omega)only[go_sem,seval,wqq,f0,f1,f4,f5,f6,np,t1,t2,t3,t4]
    exact ih 7 _ _ (by omega) ⟨by omega,by simp only[go_sem,seval,f0],by simp only[go_sem,seval,f1],by simp only[go_sem,seval,f4],by simp only[go_sem,seval,f5],by simp only[go_sem,seval],b,v+1,by rw[←gm6 ns hv]⟩
   ·have np:pf E0 180 [ints xs,.i .i64 7]=some (.i .i64 (ns 7)):=np
    simp(disch:=omega)only[go_sem,seval,wqq,f0,f1,f4,f5,f6,np,t1,t2,t3,t4]
    exact ih 8 _ _ (by omega) ⟨by omega,by simp only[go_sem,seval,f0],by simp only[go_sem,seval,f1],by simp only[go_sem,seval,f4],by simp only[go_sem,seval,f5],by simp only[go_sem,seval],b,v+1,by rw[←gm7 ns hv]⟩
   ·have np:pf E0 180 [ints xs,.i .i64 8]=some (.i .i64 (ns 8)):=np
    simp(disch:=omega)only[go_sem,seval,wqq,f0,f1,f4,f5,f6,np,t1,t2,t3,t4]
    exact ih 9 _ _ (by omega) ⟨by omega,by simp only[go_sem,seval,f0],by simp only[go_sem,seval,f1],by simp only[go_sem,seval,f4],by simp only[go_sem,seval,f5],by simp only[go_sem,seval],b,v+1,by rw[←gm8 ns hv]⟩
  have hv:gEnt (ns i) (g0P i)=g0P i:=by unfold gEnt;rw[if_neg nt,if_neg (of_eq_false t3),if_neg (of_eq_false t4)]
  obtain rfl|rfl|rfl|rfl|rfl|rfl|rfl|rfl|rfl:=zeh h9
  ·have np:pf E0 180 [ints xs,.i .i64 0]=some (.i .i64 (ns 0)):=np
   simp(disch:=omega)only[go_sem,seval,wqq,f0,f1,f4,f5,f6,np,t1,t2,t3,t4]
   exact ih 1 _ _ (by omega) ⟨by omega,by simp only[go_sem,seval,f0],by simp only[go_sem,seval,f1],by simp only[go_sem,seval,f4],by simp only[go_sem,seval,f5],by simp only[go_sem,seval],b,v,by rw[←gk0 ns hv]⟩
  ·have np:pf E0 180 [ints xs,.i .i64 1]=some (.i .i64 (ns 1)):=np
   simp(disch:=omega)only[go_sem,seval,wqq,f0,f1,f4,f5,f6,np,t1,t2,t3,t4]
   exact ih 2 _ _ (by omega) ⟨by omega,by simp only[go_sem,seval,f0],by simp only[go_sem,seval,f1],by simp only[go_sem,seval,f4],by simp only[go_sem,seval,f5],by simp only[go_sem,seval],b,v,by rw[←gk1 ns hv]⟩
  ·have np:pf E0 180 [ints xs,.i .i64 2]=some (.i .i64 (ns 2)):=np
   simp(disch:=omega)only[go_sem,seval,wqq,f0,f1,f4,f5,f6,np,t1,t2,t3,t4]
   exact ih 3 _ _ (by omega) ⟨by omega,by simp only[go_sem,seval,f0],by simp only[go_sem,seval,f1],by simp only[go_sem,seval,f4],by simp only[go_sem,seval,f5],by simp only[go_sem,seval],b,v,by rw[←gk2 ns hv]⟩
  ·have np:pf E0 180 [ints xs,.i .i64 3]=some (.i .i64 (ns 3)):=np
   simp(disch:=omega)only[go_sem,seval,wqq,f0,f1,f4,f5,f6,np,t1,t2,t3,t4]
   exact ih 4 _ _ (by omega) ⟨by omega,by simp only[go_sem,seval,f0],by simp only[go_sem,seval,f1],by simp only[go_sem,seval,f4],by simp only[go_sem,seval,f5],by simp only[go_sem,seval],b,v,by rw[←gk3 ns hv]⟩
  ·have np:pf E0 180 [ints xs,.i .i64 4]=some (.i .i64 (ns 4)):=np
   simp(disch:=omega)only[go_sem,seval,wqq,f0,f1,f4,f5,f6,np,t1,t2,t3,t4]
   exact ih 5 _ _ (by omega) ⟨by omega,by simp only[go_sem,seval,f0],by simp only[go_sem,seval,f1],by simp only[go_sem,seval,f4],by simp only[go_sem,seval,f5],by simp only[go_sem,seval],b,v,by rw[←gk4 ns hv]⟩
  ·have np:pf E0 180 [ints xs,.i .i64 5]=some (.i .i64 (ns 5)):=np
   simp(disch:=omega)only[go_sem,seval,wqq,f0,f1,f4,f5,f6,np,t1,t2,t3,t4]
   exact ih 6 _ _ (by omega) ⟨by omega,by simp only[go_sem,seval,f0],by simp only[go_sem,seval,f1],by simp only[go_sem,seval,f4],by simp only[go_sem,seval,f5],by simp only[go_sem,seval],b,v,by rw[←gk5 ns hv]⟩
  ·have np:pf E0 180 [ints xs,.i .i64 6]=some (.i .i64 (ns 6)):=np
   simp(disch:=omega)only[go_sem,seval,wqq,f0,f1,f4,f5,f6,np,t1,t2,t3,t4]
   exact ih 7 _ _ (by omega) ⟨by omega,by simp only[go_sem,seval,f0],by simp only[go_sem,seval,f1],by simp only[go_sem,seval,f4],by simp only[go_sem,seval,f5],by simp only[go_sem,seval],b,v,by rw[←gk6 ns hv]⟩
  ·have np:pf E0 180 [ints xs,.i .i64 7]=some (.i .i64 (ns 7)):=np
   simp(disch:=omega)only[go_sem,seval,wqq,f0,f1,f4,f5,f6,np,t1,t2,t3,t4]
   exact ih 8 _ _ (by omega) ⟨by omega,by simp only[go_sem,seval,f0],by simp only[go_sem,seval,f1],by simp only[go_sem,seval,f4],by simp only[go_sem,seval,f5],by simp only[go_sem,seval],b,v,by rw[←gk7 ns hv]⟩
  ·have np:pf E0 180 [ints xs,.i .i64 8]=some (.i .i64 (ns 8)):=np
   simp(disch:=omega)only[go_sem,seval,wqq,f0,f1,f4,f5,f6,np,t1,t2,t3,t4]
   exact ih 9 _ _ (by omega) ⟨by omega,by simp only[go_sem,seval,f0],by simp only[go_sem,seval,f1],by simp only[go_sem,seval,f4],by simp only[go_sem,seval,f5],by simp only[go_sem,seval],b,v,by rw[←gk8 ns hv]⟩
 ·obtain rfl:i=9:=by omega
  simp(disch:=omega)only[go_sem,seval,wqq,f0,f1,f4,f5,f6]
end Go.Eng
namespace Go.Eng
end Go.Eng
namespace Go.Eng
end Go.Eng
namespace Go.Eng
end Go.Eng
namespace Go.Eng
end Go.Eng
namespace Go.Eng
end Go.Eng
namespace Go.Eng
end Go.Eng
namespace Go.Eng
end Go.Eng
namespace Go.Eng
end Go.Eng
namespace Go.Eng
end Go.Eng
namespace Go.Eng
def bin2 (n k:Nat) (y:Int):Int:=if k≤n then chE (n*4+k)*y^(n-k) else 0
end Go.Eng
namespace Go.Eng
end Go.Eng
namespace Go.Eng
end Go.Eng
namespace Go.Eng
end Go.Eng
namespace Go.Eng
end Go.Eng
namespace Go.Eng
def mixF (i:Nat) (f g:Nat→Int):Nat→Int:=fun e=>if e<i then f e else g e
theorem zmH {i n:Nat} (h:n≤i) (f g:Nat→Int):cs n (mixF i f g)=cs n f:=zjI fun e he=>if_pos (by omega)
theorem zmI (i:Nat) (f g:Nat→Int) (v:Int) (h:v=f i):upd (mixF i f g) i v=mixF (i+1) f g:=funext fun e=>by
 unfold upd mixF
 by_cases q:e=i
 ·subst q;rw[if_pos rfl,if_pos (by omega)];exact h
 ·rw[if_neg q]
  by_cases r:e<i
  ·rw[if_pos r,if_pos (by omega)]
  ·rw[if_neg r,if_neg (by omega)]
end Go.Eng
namespace Go.Eng
def ub (l:List Nat):List UInt8:=l.map UInt8.ofNat
theorem zaq (l:List Nat):bytesP (bl l)=some (ub l):=by
 induction l with
 | nil=>rfl
 | cons a l ih =>
  show (bytesP (bl l)).map _=_
  rw[ih];rfl
theorem zbj (M:PM) (l:List Nat):b2sP M (.lst (bl l))=some (.s (ub l),M):=by
 have h:=zaq l
 show (match bytesP (bl l) with|some l=>some (PV.s l,M)|none=>none)=_
 rw[h]
def rdK (l:List Nat):Nat→List Nat×Int
 | 0=>(l,0)
 | k+1=>(rdS (rdK l k)).2
def rdX (l:List Nat) (k:Nat):Int:=uz (rdS (rdK l k)).1
theorem zft (l:List Nat):∀k,∀b∈(rdK l k).1,b∈l
 | 0,b,h=>h
 | k+1,b,h=>zft l k b (zlA _ b h)
theorem ze9 (c:Nat→Int):∀(n k:Nat),k≤n→∃t,encN c n=encN c k++t
 | 0,k,h=>⟨[],by (obtain rfl:k=0:=(by omega));rfl⟩
 | n+1,k,h=>by
  by_cases q:k=n+1
  ·exact⟨[],by rw[q,List.append_nil]⟩
  ·obtain⟨t,ht⟩:=ze9 c n k (by omega)
   exact⟨t++ib (c n),by show encN c n++ib (c n)=_;rw[ht,List.append_assoc]⟩
theorem zfs {c:Nat→Int} {n:Nat} (hc:∀e,e<n→Fits64 (c e)):∀k,k≤n→∃t,encN c n=encN c k++t∧rdK (encN c n) k=(t,0)
 | 0,_=>⟨encN c n,rfl,rfl⟩
 | k+1,hk=>by
  obtain⟨t,h1,h2⟩:=zfs hc k (by omega)
  obtain⟨t',h3⟩:=ze9 c n (k+1) hk
  have h4:t=ib (c k)++t':=by
   have:encN c k++t=encN c k++(ib (c k)++t'):=by
    rw[←h1,h3]
    show encN c k++ib (c k)++t'=_
    rw[List.append_assoc]
   exact List.append_cancel_left this
  refine⟨t',h3,?_⟩
  show (rdS (rdK (encN c n) k)).2=_
  rw[h2,h4,zkb (hc k (by omega))]
theorem zic {c:Nat→Int} {n:Nat} (hc:∀e,e<n→Fits64 (c e)) {k:Nat} (hk:k<n):rdX (encN c n) k=c k:=by
 obtain⟨t,h1,h2⟩:=zfs hc k (by omega)
 obtain⟨t',h3⟩:=ze9 c n (k+1) hk
 have h4:t=ib (c k)++t':=by
  have:encN c k++t=encN c k++(ib (c k)++t'):=by
   rw[←h1,h3]
   show encN c k++ib (c k)++t'=_
   rw[List.append_assoc]
  exact List.append_cancel_left this
 unfold rdX
 rw[h2,h4,zkb (hc k hk)]
 exact zqp (hc k hk)
theorem zlz {c:Nat→Int} {n:Nat} (hc:∀e,e<n→Fits64 (c e)):rdK (encN c n) n=([],0):=by
 obtain⟨t,h1,h2⟩:=zfs hc n (Nat.le_refl _)
 have:t=[]:=by
  have e:encN c n++[]=encN c n++t:=by rw[List.append_nil];exact h1
  exact(List.append_cancel_left e).symm
 rw[h2,this]
end Go.Eng
namespace Go.Eng
theorem zd5 (c:Nat→Int):∀n,∀b∈encN c n,b<256
 | 0,b,h=>by cases h
 | n+1,b,h=>by
  rcases List.mem_append.1 h with h|h
  ·exact zd5 c n b h
  ·exact zlP _ b h
theorem zg8 {c d:Nat→Int}:∀{n:Nat},(∀e,e<n→c e=d e)→encN c n=encN d n
 | 0,_=>rfl
 | n+1,h=>by
  show encN c n++ib (c n)=encN d n++ib (d n)
  rw[zg8 fun e he=>h e (by omega),h n (by omega)]
end Go.Eng
namespace Go.Eng
theorem zdS {c:Nat→Int} (hc:∀e,e<9→Fits64 (c e)):pf E0 338 [aI 9 c]=some (.lst (bl (encN c 9))):=by
 refine zad (xf:=ztV) rfl (by simp[ztV]) ?_
 simp only[ztV]
 simp(disch:=omega)only[go_sem,seval,wqq,zaz,zai]
 refine zas zuP.eq_1 (fun(i:Nat) fr M=>i≤9∧fr 3=.p 1 0∧fr 7=aI 9 c∧fr 8=(PV.i .i64 ((i:Nat):Int))∧Wr M 1 (bl (encN c i)) []) (fun i=>9-i) ?_ 0 ⟨by omega,by simp only[go_sem,seval],by simp only[go_sem,seval],by simp only[go_sem,seval],.nl,0,rfl,rfl,.inl ⟨rfl,rfl⟩,trivial,fun c h=>by cases h⟩
 rintro i fr M ⟨hi,f3,f6,f7,hw⟩ ih
 rcases Nat.lt_or_ge i 9 with h|h
 ·have q1:((i:Int)<9)=True:=eq_true (by omega)
  have ix:=zlX c h
  have el:=zdf (c:=c) (n:=i) fun e he=>hc e (by omega)
  obtain⟨M',h1,h2⟩:=znl hw (hc i h) (by rw[zaU];omega)
  have en:bl (encN c i)++bl (ib (c i))=bl (encN c (i+1)):=by rw[←zc8];rfl
  rw[en] at h2
  simp(disch:=omega)only[go_sem,seval,wqq,f3,f6,f7,q1,ix,h1]
  exact ih (i+1) _ _ (by omega) ⟨by omega,by simp only[go_sem,seval,f3],by simp only[go_sem,seval,f6],by simp only[go_sem,seval,f7];rw[Int.natCast_succ],h2⟩
 ·obtain rfl:i=9:=by omega
  have el:=zdf (c:=c) (n:=9) hc
  obtain⟨v,e,ns,hb,hz⟩:=znM hw
  have dn:=zm9 (l:=encN c 9) (by omega)
  clear ih
  simp(disch:=omega)only[go_sem,seval,wqq,f3,f6,f7,hb,hz,dn]
theorem zbe {c:Nat→Int} (hc:∀e,e<9→Fits64 (c e)):pf E0 340 [aI 9 c]=some (.lst (bl (encN c 9))):=by
 refine zad (xf:=zt2) rfl (by simp[zt2]) ?_
 simp only[zt2]
 simp(disch:=omega)only[go_sem,seval,wqq]
 refine zas zuU.eq_1 (fun(i:Nat) fr M=>i≤9∧fr 1=.p 0 0∧fr 4=(PV.i .i64 ((i:Nat):Int))∧Grows M (fr 3) (bl (encN c i))∧NotIn (fr 3) 0∧PM.blk M 0=some ⟨cs 9 c,true,0⟩) (fun i=>9-i) ?_ 0 ⟨by omega,by simp only[go_sem,seval],by simp only[go_sem,seval],.inl ⟨rfl,by simp only[go_sem,seval]⟩,by simp only[go_sem,seval];trivial,rfl⟩
 rintro i fr M ⟨hi,f1,f4,hg,hn,hb⟩ ih
 rcases Nat.lt_or_ge i 9 with h|h
 ·have q1:((i:Int)<9)=True:=eq_true (by omega)
  have qL:(i<9)=True:=eq_true h
  have cg1:=zjJ (n:=9) c h
  have ri:=zll (hc i h)
  have el:=zdf (c:=c) (n:=i) fun e he=>hc e (by omega)
  have il:=zjV (hc i h)
  obtain⟨v',M',a1,a2,a3⟩:=zdY hg (zfw M (ib (c i))) (by rw[zaU,zaU];omega)
  obtain⟨b1,b2⟩:=a3 0 _ hb hn
  have en:bl (encN c i)++bl (ib (c i))=bl (encN c (i+1)):=by rw[←zc8];rfl
  rw[en] at a2
  simp(disch:=omega)only[go_sem,seval,wqq,f1,f4,q1,qL,hb,cg1,ri,a1]
  exact ih (i+1) _ _ (by omega) ⟨by omega,by simp only[go_sem,seval,f1],by simp only[go_sem,seval,f4];rw[Int.natCast_succ],by simp only[go_sem,seval];exact a2,by simp only[go_sem,seval];exact b2,b1⟩
 ·obtain rfl:i=9:=by omega
  have z:=ziW 10 hg
  clear ih
  simp(disch:=omega)only[go_sem,seval,wqq,f1,f4]
  exact z
theorem z9:[PV.i .i64 0,PV.i .i64 0,PV.i .i64 0,PV.i .i64 0,PV.i .i64 0,PV.i .i64 0,PV.i .i64 0,PV.i .i64 0,PV.i .i64 0]=cs 9 zF:=_root_.id rfl
set_option maxHeartbeats 4000000 in
theorem zdR {l:List Nat} (hb:∀b∈l,b<256) (hl:l.length<100000000000):pf E0 339 [.lst (bl l)]=some (if ((rdK l 9).2=0∧(rdK l 9).1=[])∧ub (encN (rdX l) 9)=ub l then .tu [aI 9 (rdX l),.i .i64 0] else .tu [aI 9 zF,.i .i64 2]):=by
 have rd:=fun M=>zj3 (M:=M) hl
 refine zad (xf:=ztQ) rfl (by simp[ztQ]) ?_
 simp only[ztQ]
 simp(disch:=omega)only[go_sem,seval,wqq,rd,z9]
 refine zas zuT.eq_1 (fun(i:Nat) fr M=>i≤9∧(∀e,e<i→Fits64 (rdX l e))∧fr 0=.lst (bl l)∧fr 2=.p 0 0∧fr 4=.p 1 0∧fr 5=.p 2 0∧fr 9=(PV.i .i64 ((i:Nat):Int))∧∃w v,M=[some ⟨cs 9 zF,true,0⟩,some ⟨[.lst (bl (rdK l i).1),.i .i64 (rdK l i).2],true,w⟩,some ⟨cs 9 (mixF i (rdX l) zF),true,v⟩]) (fun i=>9-i) ?_ 0 ⟨by omega,fun e he=>by omega,by simp only[go_sem,seval],by simp only[go_sem,seval],by simp only[go_sem,seval],by simp only[go_sem,seval],by simp only[go_sem,seval],_,_,rfl⟩
 rintro i fr M ⟨hi,hx,f0,f2,f4,f5,f9,w,v,rfl⟩ ih
 rcases Nat.lt_or_ge i 9 with h|h
 ·have q1:((i:Int)<9)=True:=eq_true (by omega)
  have qL:(i<9)=True:=eq_true h
  obtain⟨x1,w',x2⟩:=zfp (M:=[some ⟨cs 9 zF,true,0⟩,some ⟨[.lst (bl (rdK l i).1),.i .i64 (rdK l i).2],true,w⟩,some ⟨cs 9 (mixF i (rdX l) zF),true,v⟩]) (m:=1) (s:=rdK l i) (w:=w) (fun b hb'=>hb b (zft l i b hb')) rfl
  have mu:=zmI i (rdX l) zF (uz (rdS (rdK l i)).1) rfl
  simp(disch:=omega)only[go_sem,seval,wqq,f0,f2,f4,f5,f9,q1,qL,x2,List.set_cons_succ,List.set_cons_zero]
  exact ih (i+1) _ _ (by omega) ⟨by omega,fun e he=>by
   rcases Nat.lt_or_ge e i with z|z
   ·exact hx e z
   ·obtain rfl:e=i:=by omega
    exact x1,by simp only[go_sem,seval,f0],by simp only[go_sem,seval,f2],by simp only[go_sem,seval,f4],by simp only[go_sem,seval,f5],by simp only[go_sem,seval,f9];rw[Int.natCast_succ],w',_,by rw[mu];rfl⟩
 ·obtain rfl:i=9:=by omega
  clear ih
  rw[zmH (Nat.le_refl 9)]
  have en:=zdS hx
  have dn:=zpx (M:=[some ⟨cs 9 zF,true,0⟩,some ⟨[.lst (bl (rdK l 9).1),.i .i64 (rdK l 9).2],true,w⟩,some ⟨cs 9 (rdX l),true,v⟩]) (m:=1) (l:=(rdK l 9).1) (e:=(rdK l 9).2) (w:=w) rfl
  simp(disch:=omega)only[go_sem,seval,wqq,f0,f2,f4,f5,f9]
  refine za7 rfl ?_
  generalize hs:rdK l 9=s at *
  obtain⟨r,e⟩:=s
  by_cases he:e=0∧r=[]
  ·obtain⟨rfl,rfl⟩:=he
   have e0:(if (0:Int)=0∧([]:List Nat)≠[] then (2:Int) else 0)=0:=if_neg fun q=>q.2 rfl
   have dn:pcl E0 205 [.p 1 0] _=some (.i .i64 (if (0:Int)=0∧([]:List Nat)≠[] then (2:Int) else 0),_):=dn
   rw[e0] at dn
   by_cases hu:ub (encN (rdX l) 9)=ub l
   ·have hu':(ub (encN (rdX l) 9)=ub l)=True:=eq_true hu
    rw[if_pos ⟨⟨rfl,rfl⟩,hu⟩]
    simp(disch:=omega)only[go_sem,seval,wqq,f0,f2,f4,f5,f9,dn,en,zbj,hu',z9]
   ·have hu':(ub (encN (rdX l) 9)=ub l)=False:=eq_false hu
    rw[if_neg fun q=>hu q.2]
    simp(disch:=omega)only[go_sem,seval,wqq,f0,f2,f4,f5,f9,dn,en,zbj,hu',z9]
  ·obtain⟨q,hq,q0⟩:∃q:Int,(if e=0∧r≠[] then (2:Int) else e)=q∧q≠0:=by
    by_cases c:e=0∧r≠[]
    ·exact⟨2,if_pos c,by decide⟩
    ·refine⟨e,if_neg c,fun z=>?_⟩
     by_cases r0:r=[]
     ·exact he ⟨z,r0⟩
     ·exact c ⟨z,r0⟩
   have dn:pcl E0 205 [.p 1 0] _=some (.i .i64 (if e=0∧r≠[] then (2:Int) else e),_):=dn
   rw[hq] at dn
   have q0':(q=0)=False:=eq_false q0
   rw[if_neg fun z=>he z.1]
   simp(disch:=omega)only[go_sem,seval,wqq,f0,f2,f4,f5,f9,dn,q0',z9]
theorem zgJ {c:Nat→Int} (hc:∀e,e<9→Fits64 (c e)):pf E0 339 [.lst (bl (encN c 9))]=some (.tu [aI 9 c,.i .i64 0]):=by
 have el:=zdf (c:=c) (n:=9) hc
 have h:=zdR (zd5 c 9) (by omega)
 have e1:=zlz hc
 have e2:∀e,e<9→rdX (encN c 9) e=c e:=fun e he=>zic hc he
 have e3:aI 9 (rdX (encN c 9))=aI 9 c:=zlW e2
 rw[e1,zg8 e2,e3,if_pos ⟨⟨rfl,rfl⟩,rfl⟩] at h
 exact h
theorem zge {l:List Nat} (hb:∀b∈l,b<256) (hl:l.length<100000000000):∃(x:Nat→Int) (e:Int),pf E0 339 [.lst (bl l)]=some (.tu [aI 9 x,.i .i64 e])∧((e=0∧(∀k,k<9→Fits64 (x k))∧ub (encN x 9)=ub l)∨(e=2∧x=zF)):=by
 have h:=zdR hb hl
 by_cases q:((rdK l 9).2=0∧(rdK l 9).1=[])∧ub (encN (rdX l) 9)=ub l
 ·rw[if_pos q] at h
  refine⟨_,_,h,.inl ⟨rfl,fun k hk=>?_,q.2⟩⟩
  have hm:∀b∈(rdK l k).1,b<256:=fun b hb'=>hb b (zft l k b hb')
  exact(zfp (M:=[some ⟨[.lst (bl (rdK l k).1),.i .i64 (rdK l k).2],true,0⟩]) (m:=0) (s:=rdK l k) (w:=0) hm rfl).1
 ·rw[if_neg q] at h
  exact⟨_,_,h,.inr ⟨rfl,rfl⟩⟩
end Go.Eng
namespace Go.Eng
theorem zjo {E:PEnv} {ops:List XOper} {fr fr2:PFr} {M:PM} {Ms:List PM} {P:PV→Bool} {L:List Nat} (hr:WL E ⟨(0::0::L).map XR.tmp,fun w _=>∃l,w=.tu l∧(l.drop 2).all P=true⟩ ops [] fr M) (hT:pOpsT E.glob (pcl E) ops fr M=some (fr2,Ms)):L.all (fun s=>P (fr2 s))=true:=by
 obtain⟨lf,q,fr3,M3,vs,e,h1,h2,l,h3,h4⟩:=hr
 simp only[Option.bind_eq_some_iff,unw] at e
 obtain⟨⟨fr4,M4⟩,e1,e2⟩:=e
 simp only[Option.some.injEq,Prod.mk.injEq] at e2
 obtain⟨_,e3,e4⟩:=e2
 rw[←e3,←e4] at h2
 obtain⟨Ms',g1,g2⟩:=zbl e1
 rw[g1] at hT
 cases hT
 have hres:∀(f:PFr) (N:PM) (l:List Nat),pRes f N (l.map XR.tmp)=some (l.map f):=fun f N l=>by
  induction l with
  | nil=>rfl
  | cons a l ih=>simp only[List.map_cons,pRes,pResOne,ih]
 rw[hres] at h2
 cases h2
 simp only[List.map_cons,packP] at h3
 cases h3
 simpa [List.all_map] using h4
theorem zf0 {E:PEnv}:∀{ops:List XOper} {j:Nat} {fr fr2:PFr} {M C:PM} {Ms:List PM} {frC:PFr},j≤ops.length→pOps E.glob (pcl E) (ops.take j) fr M=some (frC,C)→pOpsT E.glob (pcl E) ops fr M=some (fr2,Ms)→Ms[j]?=some C
 | ops,0,fr,fr2,M,C,Ms,frC,_,h,hT=>by
  simp[pOps] at h
  obtain⟨_,rfl⟩:=h
  cases ops with
  | nil=>simp[pOpsT] at hT;rw[←hT.2];rfl
  | cons o l =>
   simp only[pOpsT] at hT
   split at hT
   ·split at hT
    ·simp only[Option.map_eq_some_iff] at hT
     obtain⟨r,_,e⟩:=hT
     cases e;rfl
    ·cases hT
   ·simp only[Option.map_eq_some_iff] at hT
    obtain⟨r,_,e⟩:=hT
    cases e;rfl
   ·cases hT
 | [],j+1,fr,fr2,M,C,Ms,frC,hj,h,hT=>by simp at hj
 | o::l,j+1,fr,fr2,M,C,Ms,frC,hj,h,hT=>by
  have hj':j≤l.length:=by simpa using hj
  simp only[List.take_succ_cons,pOps] at h
  simp only[pOpsT] at hT
  split at hT
  ·rename_i hw
   rw[hw] at h
   simp only at h
   split at hT
   ·rename_i v M1 hp
    rw[hp] at h
    simp only[Option.map_eq_some_iff] at hT
    obtain⟨⟨f3,Ms1⟩,e1,e2⟩:=hT
    cases e2
    show Ms1[j]?=some C
    exact zf0 hj' h e1
   ·cases hT
  ·rename_i hw
   rw[hw] at h
   simp only at h
   simp only[Option.map_eq_some_iff] at hT
   obtain⟨⟨f3,Ms1⟩,e1,e2⟩:=hT
   cases e2
   show Ms1[j]?=some C
   exact zf0 hj' h e1
  ·cases hT
theorem zjX {E:PEnv} {ops:List XOper} {fr:PFr} {M C:PM} (h:WL E ⟨[],fun _ M2=>M2=C⟩ ops [] fr M):∃frC,pOps E.glob (pcl E) ops fr M=some (frC,C):=by
 obtain⟨lf,q,fr3,M3,vs,e,h1,h2,h3⟩:=h
 simp only[Option.bind_eq_some_iff,unw] at e
 obtain⟨⟨fr4,M4⟩,e1,e2⟩:=e
 simp only[Option.some.injEq,Prod.mk.injEq] at e2
 obtain⟨_,e3,e4⟩:=e2
 have h3:M3=C:=h3
 rw[←h3,←e4]
 exact⟨fr4,e1⟩
def isPn (n:Nat):PV→Bool
 | .p k _=>k==n
 | _=>false
def loadOf (ops:List XOper) (i s:Nat):Bool :=
 match ops[i]? with
 | some a=>(match a.op with | .load _ _ (.t t)=>t==s|_=>false)
 | none=>false
theorem zjy {E:PEnv} {F:PFin} {ops:List XOper} {chk:List (Nat×Nat)} {ks:List KI} {fr:PFr} {M:PM} (i j s n:Nat) (C D:PM) (hL:chk.all (fun c=>c==(i,j) || calmW E ops c)=true) (ha:loadOf ops i s=true) (hj:j<ops.length)
  (hs:WL E ⟨(0::0::[s]).map XR.tmp,fun w _=>∃l,w=.tu l∧(l.drop 2).all (isPn n)=true⟩ ops [] fr M)
  (h1:WL E ⟨[],fun _ M2=>M2=C⟩ (ops.take j) [] fr M) (h2:WL E ⟨[],fun _ M2=>M2=D⟩ (ops.take (j+1)) [] fr M) (hv:verP (some n) C D=true) (w:WL E F ops ks fr M):WK E F (.drw ops chk) ks fr M:=by
 refine zb5 (fun fr2 Ms hT=>?_) w
 have hp:=zjo hs hT
 obtain⟨f1,g1⟩:=zjX h1
 obtain⟨f2,g2⟩:=zjX h2
 have c1:=zf0 (Nat.le_of_lt hj) g1 hT
 have c2:=zf0 hj g2 hT
 rw[List.all_eq_true] at hL ⊢
 rintro⟨a,b⟩ hc
 have hh:=hL _ hc
 simp only[Bool.or_eq_true,beq_iff_eq,Prod.mk.injEq] at hh
 rcases hh with⟨rfl,rfl⟩|hh
 ·unfold loadOf at ha
  split at ha
  ·rename_i o ho
   split at ha
   ·rename_i z k t hop
    obtain rfl:t=s:=by simpa using ha
    obtain⟨fri,A,B,q1,q2,q3,q4⟩:=zav hT ho
    have q2':Ms[(a,b).1+1]?=some B:=q2
    have c2':Ms[(a,b).2+1]?=some D:=c2
    refine zbQ ?_
    simp only[chkP0,ho,q1,q2,c1,c2]
    rw[if_neg (by rw[hop];simp[XO.cls])]
    rw[hop]
    show chkV ops b (.t t) C D (fr2 t)=true
    simp only[List.all_cons,List.all_nil,Bool.and_true] at hp
    cases hf:fr2 t with
    | p m off =>
     rw[hf] at hp
     have:m=n:=by simpa [isPn] using hp
     subst this
     exact hv
    | _=>rw[hf] at hp;simp[isPn] at hp
   ·cases ha
  ·cases ha
 ·
  have e:([(a,b)]:List (Nat×Nat)).all (calmW E ops)=true:=by simp[hh]
  unfold calmW at hh
  split at hh
  ·rename_i x y hx hy
   obtain⟨fri,A,B,q1,q2,q3,q4⟩:=zav hT hx
   obtain⟨frj,C',D',p1,p2,p3,p4⟩:=zav hT hy
   have p2':Ms[(a,b).2+1]?=some D':=p2
   rw[chkP,Bool.or_eq_true]
   right
   simp only[chkS,hx,q1,p1,p2]
   rw[decide_eq_true_eq]
   rcases p3 with⟨_,v,p3⟩|⟨_,p3⟩
   ·cases hopb:y.op with
    | call f l =>
     rw[hopb] at p3 hh
     obtain⟨ns,rfl⟩:=zbW hh p3
     exact zgo ns C'
    | _=>rw[hopb] at hh;simp[calmOp] at hh
   ·rw[p3]
  ·cases hh
end Go.Eng
namespace Go.Eng
theorem zqq (n:Nat):1≤(vbN n).length:=by
 rw[vbN];split<;>simp
theorem zjQ (c:Nat→Int):∀n,n≤(encN c n).length
 | 0=>Nat.zero_le _
 | n+1=>by
  have:=zjQ c n
  have:=zqq (zz (c n))
  show n+1≤(encN c n++ib (c n)).length
  rw[List.length_append]
  unfold ib;omega
theorem zl2 (M:PM) {l:List Nat} (h:1≤l.length) (hl:l.length<1000000000):appP M 1 1 .nl (.lst (bl l))=some (.sl M.length 0 l.length l.length 1,M++[some ⟨bl l,true,0⟩]):=by
 have s:=zfw M l
 have lb:=zaU l
 unfold appP
 rw[s]
 simp only[lb]
 rw[if_neg (by omega),if_pos (by omega)]
theorem zl5 (l:List Nat) {k:Nat} (hk:k<l.length) (b:Nat):psplice (bl l) k [.i .u8 (b:Int)]=bl (l.set k b):=by
 unfold psplice bl
 rw[List.map_set,List.set_eq_take_append_cons_drop,if_pos (by simpa using hk)]
 simp
theorem zps (n:Nat):mmP false (.i .i64 (n:Int)) [.i .i64 60]=some (.i .i64 ((min n 60:Nat):Int)):=by
 show some (PV.i .i64 (if (60:Int)<(n:Int) then 60 else (n:Int)))=_
 have:(if (60:Int)<(n:Int) then (60:Int) else (n:Int))=((min n 60:Nat):Int):=by split<;>omega
 rw[this]
theorem zkm (l:List Nat) (k b:Nat):(bl l).set k (.i .u8 (b:Int))=bl (l.set k b):=(List.map_set ..).symm
theorem zoF (b0 b1 b2 b3:Option PB) (l:List Nat) (b:Nat) (hl:l.length<1000000000):appP [b0,b1,b2,b3,some ⟨bl l,true,0⟩,some ⟨[.i .u8 (b:Int)],true,0⟩] 1 1 (.sl 4 0 l.length l.length 1) (.sl 5 0 1 1 1)=some (.sl 6 0 (l.length+1) (l.length+1) 1,[b0,b1,b2,b3,none,some ⟨[.i .u8 (b:Int)],true,0⟩,some ⟨bl (l++[b]),true,0⟩]):=by
 have s:srcP [b0,b1,b2,b3,some ⟨bl l,true,0⟩,some ⟨[.i .u8 (b:Int)],true,0⟩] 1 (.sl 5 0 1 1 1)=some (1,[.i .u8 (b:Int)]):=rfl
 have lb:=zaU l
 have hb:PM.blk [b0,b1,b2,b3,some ⟨bl l,true,0⟩,some ⟨[.i .u8 (b:Int)],true,0⟩] 4=some ⟨bl l,true,0⟩:=rfl
 unfold appP
 rw[s]
 simp only[hb]
 rw[if_neg (by simp),if_neg (by decide),if_pos ⟨trivial,by omega,by omega⟩,List.drop_zero,List.take_of_length_le (by omega),zc8]
 rfl
theorem zil (l:List Nat) (k:Nat) (hk:k≤l.length):slP 1 (.lst (bl l)) none (some (.i .i64 (k:Int))) none=some (.lst (bl (l.take k))):=by
 have e:=zmt l
 have lb:=zaU l
 have n1:asNP (.i .i64 (k:Int))=some k:=zcS _ k
 have d:(bl l).take k=bl (l.take k):=List.map_take.symm
 generalize bl l=t at *
 simp[slP,optP,n1,e,hk,d,lb]
theorem zjH {M:PM} {n:Nat} {l:List Nat} {r:Bool} {w N:Nat} (hb:PM.blk M n=some ⟨bl l,r,w⟩) (hN:l.length=N) (h0:N≠0):b2sP M (.sl n 0 N N 1)=some (.s (ub l),M):=by
 have hr:PM.rd M n 0 N=some (bl l):=by
  have lb:=zaU l
  unfold PM.rd
  rw[hb]
  simp only[Nat.zero_add,List.drop_zero]
  rw[if_pos (by omega),List.take_of_length_le (by omega)]
 show (if N=0 then some (PV.s [],M) else if 1=1 then (match (PM.rd M n 0 N).bind bytesP with|some l=>some (PV.s l,M)|none=>none) else none)=_
 rw[if_neg h0,if_pos rfl,hr,Option.bind_some,zaq]
end Go.Eng
namespace Go.Eng
open Go.Proofs Go.RowKit
def Byts (zs:List Int):Prop:=zs.length≤9223372036854775807∧∀z∈zs,0≤z∧z≤255
theorem byts_row {W:World} {a:Option Addr} {len cap:Nat} {zs:List Int} (h:IsRow .u8 W a len cap zs):Byts (zs.take len):=by
 rcases h with⟨rfl,rfl,rfl,rfl⟩|⟨x,rfl,hl,hm,hz,hcell,hwz⟩
 ·exact⟨by simp,fun n hn=>by simp at hn⟩
 ·refine⟨?_,fun n hn=>?_⟩
  ·have:maxLen≤9223372036854775807:=by decide
   simp;omega
  ·have:=bounds_u8 (hwz n (List.mem_of_mem_take hn))
   exact⟨this.1,by omega⟩
theorem zko {zs:List Int} (h:Byts zs):(zs.map fun z=>PV.i .u8 z)=bl (zs.map Int.toNat)∧∀b∈zs.map Int.toNat,b<256:=by
 refine⟨?_,fun b hb=>?_⟩
 ·unfold bl
  rw[List.map_map]
  refine List.map_congr_left fun z hz=>?_
  have:=h.2 z hz
  show PV.i .u8 z=PV.i .u8 ((z.toNat:Nat):Int)
  rw[Int.toNat_of_nonneg this.1]
 ·obtain⟨z,hz,rfl⟩:=List.mem_map.1 hb
  have:=h.2 z hz
  omega
end Go.Eng
namespace Go.Eng
theorem zjR (X:Nat→Int):eqaP [1,1,1,1,1,1,1,1,1] (aI 9 X) (aI 9 X)=some true:=zmh 9 X
set_option maxHeartbeats 8000000 in
theorem zfn {xs:List Int} (hx:Ints xs) {raw:List Nat} (hr:∀b∈raw,b<256) (hrl:raw.length≤9223372036854775807) {at_ n:Int} {by_:Nat} (fa:Fits64 at_) (fb:by_<256) (fn:Fits64 n):pf E0 323 [ints xs,.lst (bl raw),.i .i64 at_,.i .u8 (by_:Int),.i .i64 n]=some (.b true):=by
 obtain⟨P0,h0,g0⟩:=zk7 hx
 obtain⟨c,fc0,g1⟩:=zjh h0 fa fn
 have g1:pf E0 330 [pI P0,.i .i64 at_,.i .i64 n]=some (aI 9 c):=g1
 have lv:=zhU
 have fc:∀e,e<9→Fits64 (c e):=fun e _=>fc0 e
 have en:=zdS fc
 have re:=zbe fc
 have de:=zgJ fc
 have el:=zdf (c:=c) (n:=9) fc
 have eb:=zd5 c 9
 have rd:=fun M=>zj3 (M:=M) (l:=encN c 9) (by omega)
 refine zad (xf:=ztD) rfl (by simp[ztD]) ?_
 simp only[ztD]
 simp(disch:=omega)only[go_sem,seval,wqq,g0,g1,z9,en,de,rd]
 have h0:=zfp (M:=[some ⟨cs 9 c,true,1⟩,some ⟨cs 9 c,true,1⟩,some ⟨[.lst (bl (encN c 9)),.i .i64 0],true,0⟩]) (m:=2) (s:=(encN c 9,0)) (w:=0) eb rfl
 have e0:uz (rdS (encN c 9,0)).1=c 0:=zic (c:=c) (n:=9) fc (k:=0) (by decide)
 rw[e0] at h0
 obtain⟨_,w',h0⟩:=h0
 simp only[List.set_cons_succ,List.set_cons_zero] at h0
 generalize (rdS (encN c 9,0)).2=S at h0
 have cg0:(cs 9 c)[0]?=some (.i .i64 (c 0)):=zjJ c (by decide)
 refine zjy 24 21 58 0 [some ⟨cs 9 c,true,1⟩,some ⟨cs 9 c,true,1⟩,some ⟨[.lst (bl (encN c 9)),.i .i64 0],true,0⟩] [some ⟨cs 9 c,true,1⟩,some ⟨cs 9 c,true,1⟩,some ⟨[.lst (bl S.1),.i .i64 S.2],true,w'⟩] rfl rfl (by decide) ?_ ?_ ?_ rfl ?_
 ·simp(disch:=omega)only[go_sem,seval,wqq,zbj,re,zjR,h0,cg0]
  exact⟨_,rfl,rfl⟩
 ·simp only[List.take_succ_cons,List.take_zero]
  simp(disch:=omega)only[go_sem,seval,wqq,zbj,re,zjR,h0,cg0]
 ·simp only[List.take_succ_cons,List.take_zero]
  simp(disch:=omega)only[go_sem,seval,wqq,zbj,re,zjR,h0,cg0]
 simp(disch:=omega)only[go_sem,seval,wqq,zbj,re,zjR,h0,cg0]
 have eg:=zjQ c 9
 clear h0 cg0 e0 rd en re de
 have eN:ub (encN c 9)=ub (encN c 9):=rfl
 clear eN
 generalize encN c 9=B at *
 obtain⟨N,hN⟩:∃N,N=B.length:=⟨_,rfl⟩
 have ap:=fun M=>zl2 M (l:=B) (by omega) (by omega)
 rw[←hN] at ap eg el
 have n0:((N:Int)=0)=False:=eq_false (by omega)
 have t1:=Int.lt_tmod_of_pos at_ (show (0:Int)<(N:Int) by omega)
 have t2:=Int.tmod_lt_of_pos at_ (show (0:Int)<(N:Int) by omega)
 have t3:0≤(at_.tmod N+N).tmod N∧(at_.tmod N+N).tmod N<N:=⟨Int.tmod_nonneg _ (by omega),Int.tmod_lt_of_pos _ (by omega)⟩
 obtain⟨k,hk⟩:∃k:Nat,(at_.tmod N+N).tmod N=(k:Int):=⟨((at_.tmod N+N).tmod N).toNat,by omega⟩
 have kN:(k<N)=True:=eq_true (by omega)
 have lb:=zaU B
 have bs:=zl5 B (k:=k) (by omega) by_
 have mn:=zps raw.length
 have lr:=zaU raw
 have s0:=zil raw (min raw.length 60) (by omega)
 have s3:=zil B (N-1) (by omega)
 have n1:(N:Int)-1=((N-1:Nat):Int):=by omega
 have bs2:=zkm B k by_
 have ap2:=fun b0 b1 b2 b3=>zoF b0 b1 b2 b3 B by_ (by omega)
 rw[←hN] at ap2
 simp(disch:=omega)only[go_sem,seval,wqq,ap,n0,hk,kN,bs2,lb,←hN,lr,mn,s0,s3,n1,ap2,zaz,zai]
 have hB0:∀b∈raw.take (min raw.length 60),b<256:=fun b hb=>hr b (List.mem_of_mem_take hb)
 have hB3:∀b∈B.take (N-1),b<256:=fun b hb=>eb b (List.mem_of_mem_take hb)
 have hB2:∀b∈B++[by_],b<256:=fun b hb=>by
  rcases List.mem_append.1 hb with h|h
  ·exact eb b h
  ·obtain rfl:b=by_:=by simpa using h
   exact fb
 have hB1:∀b∈B.set k by_,b<256:=fun b hb=>by
  rcases List.mem_or_eq_of_mem_set hb with h|h
  ·exact eb b h
  ·rw[h];exact fb
 have n1':(B.set k by_).length=N:=by rw[List.length_set];omega
 have n2':(B++[by_]).length=N+1:=by rw[List.length_append];simp;omega
 have n0':(raw.take (min raw.length 60)).length≤60:=by rw[List.length_take];omega
 have n3':(B.take (N-1)).length≤N:=by rw[List.length_take];omega
 generalize raw.take (min raw.length 60)=l0 at *
 generalize B.take (N-1)=l3 at *
 generalize B.set k by_=B1 at *
 generalize B++[by_]=B2 at *
 have nN:(N=0)=False:=eq_false (by omega)
 have fb1:∀(b0 b1 b2:Option PB) (r:Bool) (w:Nat) (G:List (Option PB)),b2sP (b0::b1::b2::some ⟨bl B1,r,w⟩::G) (.sl 3 0 N N 1)=some (.s (ub B1),b0::b1::b2::some ⟨bl B1,r,w⟩::G):=fun b0 b1 b2 r w G=>zjH rfl n1' (by omega)
 have fb2:∀(b0 b1 b2 b3 b4 b5:Option PB) (r:Bool) (w:Nat) (G:List (Option PB)),b2sP (b0::b1::b2::b3::b4::b5::some ⟨bl B2,r,w⟩::G) (.sl 6 0 (N+1) (N+1) 1)=some (.s (ub B2),b0::b1::b2::b3::b4::b5::some ⟨bl B2,r,w⟩::G):=fun b0 b1 b2 b3 b4 b5 r w G=>zjH rfl n2' (by omega)
 have le1:(N≤(bl B1).length)=True:=eq_true (by rw[zaU];omega)
 have le2:(N+1≤(bl B2).length)=True:=eq_true (by rw[zaU];omega)
 have fzB:∀(M:PM) (d:Nat) (l:List Nat),fzL (fz M (d+1)) (bl l)=some (bl l,[]):=fun M d l=>zcY M d _ (fun _=>rfl) _
 have k1:=zaU B1
 have k2:=zaU B2
 have gr1:group 1 N (bl B1)=bl B1:=zbt _ _ (by omega)
 have gr2:group 1 (N+1) (bl B2)=bl B2:=zbt _ _ (by omega)
 have tk1:(bl B1).take N=bl B1:=List.take_of_length_le (by omega)
 have tk2:(bl B2).take (N+1)=bl B2:=List.take_of_length_le (by omega)
 clear ap ap2 mn s0 s3 bs bs2 hk t1 t2 t3
 refine zas zuI.eq_1 (fun(i:Nat) fr M=>i≤4∧fr 17=.sl 7 0 4 4 1∧fr 18=(PV.i .i64 ((i:Nat):Int))∧∃b0 b1 b2 b4 b5 r3 w3 r6 w6 G,M=b0::b1::b2::some ⟨bl B1,r3,w3⟩::b4::b5::some ⟨bl B2,r6,w6⟩::some ⟨[.lst (bl l0),.sl 3 0 N N 1,.sl 6 0 (N+1) (N+1) 1,.lst (bl l3)],true,0⟩::G) (fun i=>4-i) ?_ 0 ⟨by omega,by simp only[go_sem,seval],by simp only[go_sem,seval],_,_,_,_,_,_,_,_,_,[],rfl⟩
 rintro i fr M ⟨hi,f17,f18,b0,b1,b2,b4,b5,r3,w3,r6,w6,G,rfl⟩ ih
 rcases Nat.lt_or_ge i 4 with h|h
 ·obtain rfl|rfl|rfl|rfl:i=0∨i=1∨i=2∨i=3:=by omega
  ·obtain⟨x,e,d,hd⟩:=zge hB0 (by omega)
   have q1:True:=trivial
   rcases hd with⟨rfl,hx,hu⟩|⟨rfl,rfl⟩
   ·have re:=zbe hx
    have hu':(ub (encN x 9)=ub l0)=True:=eq_true hu
    simp(disch:=omega)only[go_sem,seval,wqq,f17,f18,d,nN,le1,le2,fzB,gr1,gr2,zaq,tk1,tk2,z9,mG,mG0,sG,sG0,lG,lqq]
    refine za7 rfl ?_
    simp(disch:=omega)only[go_sem,seval,wqq,f17,f18,re,zbj,fb1,fb2,zaq,hu',nN,le1,le2,fzB,gr1,gr2,tk1,tk2,z9,mG,mG0,sG,sG0,lG,lqq]
    exact ih (0+1) _ _ (by omega) ⟨by omega,by simp only[go_sem,seval,f17],by simp only[go_sem,seval,f18];try rfl,_,_,_,_,_,_,_,_,_,_,rfl⟩
   ·simp(disch:=omega)only[go_sem,seval,wqq,f17,f18,d,nN,le1,le2,fzB,gr1,gr2,zaq,tk1,tk2,z9,mG,mG0,sG,sG0,lG,lqq]
    refine za7 rfl ?_
    simp(disch:=omega)only[go_sem,seval,wqq,f17,f18,zbj,zjR,zaq,nN,le1,le2,fzB,gr1,gr2,tk1,tk2,z9,mG,mG0,sG,sG0,lG,lqq]
    exact ih (0+1) _ _ (by omega) ⟨by omega,by simp only[go_sem,seval,f17],by simp only[go_sem,seval,f18];try rfl,_,_,_,_,_,_,_,_,_,_,rfl⟩
  ·obtain⟨x,e,d,hd⟩:=zge hB1 (by omega)
   have q1:True:=trivial
   rcases hd with⟨rfl,hx,hu⟩|⟨rfl,rfl⟩
   ·have re:=zbe hx
    have hu':(ub (encN x 9)=ub B1)=True:=eq_true hu
    simp(disch:=omega)only[go_sem,seval,wqq,f17,f18,d,nN,le1,le2,fzB,gr1,gr2,zaq,tk1,tk2,z9,mG,mG0,sG,sG0,lG,lqq]
    refine za7 rfl ?_
    simp(disch:=omega)only[go_sem,seval,wqq,f17,f18,re,zbj,fb1,fb2,zaq,hu',nN,le1,le2,fzB,gr1,gr2,tk1,tk2,z9,mG,mG0,sG,sG0,lG,lqq]
    exact ih (1+1) _ _ (by omega) ⟨by omega,by simp only[go_sem,seval,f17],by simp only[go_sem,seval,f18];try rfl,_,_,_,_,_,_,_,_,_,_,rfl⟩
   ·simp(disch:=omega)only[go_sem,seval,wqq,f17,f18,d,nN,le1,le2,fzB,gr1,gr2,zaq,tk1,tk2,z9,mG,mG0,sG,sG0,lG,lqq]
    refine za7 rfl ?_
    simp(disch:=omega)only[go_sem,seval,wqq,f17,f18,zbj,zjR,zaq,nN,le1,le2,fzB,gr1,gr2,tk1,tk2,z9,mG,mG0,sG,sG0,lG,lqq]
    exact ih (1+1) _ _ (by omega) ⟨by omega,by simp only[go_sem,seval,f17],by simp only[go_sem,seval,f18];try rfl,_,_,_,_,_,_,_,_,_,_,rfl⟩
  ·obtain⟨x,e,d,hd⟩:=zge hB2 (by omega)
   have q1:True:=trivial
   rcases hd with⟨rfl,hx,hu⟩|⟨rfl,rfl⟩
   ·have re:=zbe hx
    have hu':(ub (encN x 9)=ub B2)=True:=eq_true hu
    simp(disch:=omega)only[go_sem,seval,wqq,f17,f18,d,nN,le1,le2,fzB,gr1,gr2,zaq,tk1,tk2,z9,mG,mG0,sG,sG0,lG,lqq]
    refine za7 rfl ?_
    simp(disch:=omega)only[go_sem,seval,wqq,f17,f18,re,zbj,fb1,fb2,zaq,hu',nN,le1,le2,fzB,gr1,gr2,tk1,tk2,z9,mG,mG0,sG,sG0,lG,lqq]
    exact ih (2+1) _ _ (by omega) ⟨by omega,by simp only[go_sem,seval,f17],by simp only[go_sem,seval,f18];try rfl,_,_,_,_,_,_,_,_,_,_,rfl⟩
   ·simp(disch:=omega)only[go_sem,seval,wqq,f17,f18,d,nN,le1,le2,fzB,gr1,gr2,zaq,tk1,tk2,z9,mG,mG0,sG,sG0,lG,lqq]
    refine za7 rfl ?_
    simp(disch:=omega)only[go_sem,seval,wqq,f17,f18,zbj,zjR,zaq,nN,le1,le2,fzB,gr1,gr2,tk1,tk2,z9,mG,mG0,sG,sG0,lG,lqq]
    exact ih (2+1) _ _ (by omega) ⟨by omega,by simp only[go_sem,seval,f17],by simp only[go_sem,seval,f18];try rfl,_,_,_,_,_,_,_,_,_,_,rfl⟩
  ·obtain⟨x,e,d,hd⟩:=zge hB3 (by omega)
   have q1:True:=trivial
   rcases hd with⟨rfl,hx,hu⟩|⟨rfl,rfl⟩
   ·have re:=zbe hx
    have hu':(ub (encN x 9)=ub l3)=True:=eq_true hu
    simp(disch:=omega)only[go_sem,seval,wqq,f17,f18,d,nN,le1,le2,fzB,gr1,gr2,zaq,tk1,tk2,z9,mG,mG0,sG,sG0,lG,lqq]
    refine za7 rfl ?_
    simp(disch:=omega)only[go_sem,seval,wqq,f17,f18,re,zbj,fb1,fb2,zaq,hu',nN,le1,le2,fzB,gr1,gr2,tk1,tk2,z9,mG,mG0,sG,sG0,lG,lqq]
    exact ih (3+1) _ _ (by omega) ⟨by omega,by simp only[go_sem,seval,f17],by simp only[go_sem,seval,f18];try rfl,_,_,_,_,_,_,_,_,_,_,rfl⟩
   ·simp(disch:=omega)only[go_sem,seval,wqq,f17,f18,d,nN,le1,le2,fzB,gr1,gr2,zaq,tk1,tk2,z9,mG,mG0,sG,sG0,lG,lqq]
    refine za7 rfl ?_
    simp(disch:=omega)only[go_sem,seval,wqq,f17,f18,zbj,zjR,zaq,nN,le1,le2,fzB,gr1,gr2,tk1,tk2,z9,mG,mG0,sG,sG0,lG,lqq]
    exact ih (3+1) _ _ (by omega) ⟨by omega,by simp only[go_sem,seval,f17],by simp only[go_sem,seval,f18];try rfl,_,_,_,_,_,_,_,_,_,_,rfl⟩
 ·obtain rfl:i=4:=by omega
  clear ih
  simp(disch:=omega)only[go_sem,seval,wqq,f17,f18,lv,mG,mG0,sG,sG0,lG,lqq]
theorem p_ProjBytesR {xs zs:List Int} (hx:Ints xs) (hz:Byts zs) {at_ b n:Int} (fa:Fits64 at_) (fb:0≤b∧b≤255) (fn:Fits64 n):pf E0 323 [ints xs,.lst (zs.map fun z=>PV.i .u8 z),.i .i64 at_,.i .u8 b,.i .i64 n]=some (.b true):=by
 obtain⟨e1,e2⟩:=zko hz
 have h:=zfn hx e2 (by rw[List.length_map];exact hz.1) fa (by_:=b.toNat) (by omega) fn
 rw[Int.toNat_of_nonneg fb.1] at h
 rw[e1];exact h
end Go.Eng
