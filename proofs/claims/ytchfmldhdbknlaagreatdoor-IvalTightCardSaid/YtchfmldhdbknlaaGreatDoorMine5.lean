/- The engine and the contracts on which the statement stands: no conditions of its own. -/
import Derived.Test.YtchfmldhdbknlaaGreatDoorMine4
set_option linter.unusedSimpArgs false
set_option linter.unusedVariables false
set_option linter.unusedSectionVars false
namespace Go.Eng
structure TerOk (X Y S:Int) (C R:Nat) (hs:List Int):Prop where
 c:2≤C∧C≤128
 r:2≤R∧R≤128
 s:1≤S∧S≤65536
 x : -1048576≤X∧X+(C-1)*S≤1048576
 y : -1048576≤Y∧Y+(R-1)*S≤1048576
 len:hs.length=C*R
 h:∀n∈hs,-16384≤n∧n≤16384
theorem TerOk.ints {X Y S:Int} {C R:Nat} {hs:List Int} (t:TerOk X Y S C R hs):Ints hs:=by
 refine⟨?_,fun n hn=>?_⟩
 ·have:C*R≤128*128:=Nat.mul_le_mul t.c.2 t.r.2
  rw[t.len];omega
 ·have:=t.h n hn
  unfold Fits64;omega
end Go.Eng
namespace Go.Eng
end Go.Eng
namespace Go.Eng
end Go.Eng
namespace Go.Eng
end Go.Eng
namespace Go.Eng
end Go.Eng
namespace Go.Eng
end Go.Eng
namespace Go.Eng
end Go.Eng
namespace Go.Eng
end Go.Eng
namespace Go.Eng
end Go.Eng

namespace Go.Eng
end Go.Eng
namespace Go.Eng
def pw (i:Nat):Nat:=2^(2^i)
end Go.Eng
namespace Go.Eng
noncomputable def pwI (i:Nat):WI:=clip ((pw i:Nat):Int)
noncomputable def pwL:Nat→List PV
 | 0=>[]
 | j+1=>pwL j++[.b (decide ((pwI j).v<0)),D (pwI j).v.natAbs]
end Go.Eng
namespace Go.Eng
end Go.Eng
namespace Go.Eng
noncomputable def whQ (n:Int):FQ:=if h:Fits64 n then ⟨wiOf n h,wi1,by decide,Nat.gcd_one_right _⟩ else fq0
end Go.Eng
namespace Go.Eng
noncomputable def qc (f:FQ):List PV:=[.b (decide (f.p.v<0)),D f.p.v.natAbs,.b (decide (f.l.v<0)),D f.l.v.natAbs]
theorem zpv (f:FQ):PV.ag (qc f)=fqP f:=_root_.id rfl
structure QZ (L:List PV) (f:FQ):Prop where
 len:L.length=4
 sc:L.all PV.scal=true
 fz:∀(M:PM) (d:Nat),fzL (fz M (d+1)) L=some (qc f,[])
end Go.Eng
namespace Go.Eng
noncomputable def vc (x:IV):List PV:=[.b (decide (x.lo.v<0)),D x.lo.v.natAbs,.b (decide (x.hi.v<0)),D x.hi.v.natAbs]
structure VZ (L:List PV) (x:IV):Prop where
 len:L.length=4
 sc:L.all PV.scal=true
 fz:∀(M:PM) (d:Nat),fzL (fz M (d+1)) L=some (vc x,[])
def enT (U:Nat→IV) (r:IV×Int) (l:List Int):IV×Int:=l.foldl (fun r a=>if r.2=0 then ivMul r.1 (U a.toNat) else r) r
noncomputable def enX (c:Nat→Int) (U:Nat→IV) (i:Nat) (s:IV) (b:Bool):IV×Int :=
 if b=false∧(enT U (mkI (whQ (c i)) (whQ (c i))) (facL i)).2=0 then ivAdd s (enT U (mkI (whQ (c i)) (whQ (c i))) (facL i)).1 else enT U (mkI (whQ (c i)) (whQ (c i))) (facL i)
noncomputable def enS (c:Nat→Int) (U:Nat→IV):Nat→IV×Bool×Int
 | 0=>(ivZ,true,0)
 | i+1=>if (enS c U i).2.2≠0 then enS c U i else if c i=0 then enS c U i else
  if (enX c U i (enS c U i).1 (enS c U i).2.1).2=0 then ((enX c U i (enS c U i).1 (enS c U i).2.1).1,false,0) else (ivZ,true,(enX c U i (enS c U i).1 (enS c U i).2.1).2)
end Go.Eng
namespace Go.Eng
end Go.Eng
namespace Go.Eng
end Go.Eng
namespace Go.Eng
end Go.Eng
namespace Go.Eng
end Go.Eng
namespace Go.Eng
def chE:Nat→Int:=fun e=>chooI.getD e 0
def chV (i k j:Nat):Int:=chE (exN i j*4+exN k j)
def shP (Y:Nat→Int) (i k:Nat):Nat→Int
 | 0=>1
 | j+1=>shP Y i k j*(chV i k j*Y j^(exN i j-exN k j))
theorem z20:[PV.i .i64 0,PV.i .i64 0,PV.i .i64 0,PV.i .i64 0,PV.i .i64 0,PV.i .i64 0,PV.i .i64 0,PV.i .i64 0,PV.i .i64 0,PV.i .i64 0,PV.i .i64 0,PV.i .i64 0,PV.i .i64 0,PV.i .i64 0,PV.i .i64 0,PV.i .i64 0,PV.i .i64 0,PV.i .i64 0,PV.i .i64 0,PV.i .i64 0]=cs 20 zF:=rfl
end Go.Eng
namespace Go.Eng
end Go.Eng
namespace Go.Eng
def adV (X:Nat→Int):Nat→Int:=fun e=>mnV X (e%3) (e/3)
end Go.Eng
namespace Go.Eng
end Go.Eng
namespace Go.Eng
def isPF (E:PEnv):PV→Bool
 | .fn f _=>E.pure f
 | _=>false
def slotIn4 (E:PEnv) (ops:List XOper) (L V:List Nat) (c:Nat×Nat):Bool :=
 match ops[c.1]?,ops[c.2]? with
 | some a,some b =>
  match a.op with
  | .load _ _ (.t s)=>L.contains s&&(match b.op with | .callv (.t v) _=>V.contains v&&fixedX ops c.2 (.t v)|_=>calmOp E b.op)
  | _=>false
 | _,_=>false
end Go.Eng
namespace Go.Eng
def slarrB (m off n z:Nat) (lo hi:Option PV):Option PB→Option PV
 | some b=>if off+n*z≤b.v.length then slP z (.sl m off n n z) lo hi none else none
 | none=>none
def slarrP (M:PM) (n z:Nat) (lo hi:Option PV):PV→Option PV
 | .p m off=>slarrB m off n z lo hi (PM.blk M m)
 | .fp l=>if n*z≤l.length∧n*z≠0∧l.all PV.scal=true then slP z (.lst (group z n (l.take (n*z)))) lo hi none else none
 | _=>none
def rwV (a b c un ud vn vd:Int):Int:=a*un*vd+b*vn*ud+c*(ud*vd)
end Go.Eng
namespace Go.Eng
def q8 (a b c d e f g h:Int):PV:=.ag [.i .i64 a,.i .i64 b,.i .i64 c,.i .i64 d,.i .i64 e,.i .i64 f,.i .i64 g,.i .i64 h]
end Go.Eng
namespace Go.Eng
end Go.Eng
namespace Go.Eng
end Go.Eng
namespace Go.Eng
end Go.Eng
namespace Go.Eng
def rwF (p:Nat→Int) (i:Nat) (u v:FQ):Int:=rwV (p (3*i)) (p (3*i+1)) (p (3*i+2)) u.p.v u.q.v v.p.v v.q.v
end Go.Eng
namespace Go.Eng
def oneI:Nat→Int:=fun e=>if e%4=0 then 1 else 0
end Go.Eng
namespace Go.Eng
end Go.Eng
namespace Go.Eng
theorem hF (p:Nat→Int):PV.ag [.i .i64 (p 0),.i .i64 (p 1),.i .i64 (p 2),.i .i64 (p 3),.i .i64 (p 4),.i .i64 (p 5),.i .i64 (p 6),.i .i64 (p 7),.i .i64 (p 8)]=pI p:=rfl
def e9 (a b:Nat→Int):Bool:=a 0==b 0&&(a 1==b 1&&(a 2==b 2&&(a 3==b 3&&(a 4==b 4&&(a 5==b 5&&(a 6==b 6&&(a 7==b 7&&a 8==b 8)))))))
end Go.Eng
namespace Go.Eng
def gEnt (n d:Int):Int:=if n.tmod 6=1∨n.tmod 6 = -1 then (n.tdiv 6).tmod 8 else if n.tmod 6=2 then (n.tdiv 6).tmod 1000 else if n.tmod 6=3 then 1073741824-(n.tdiv 6).tmod 4 else d
def g0P:Nat→Int:=fun e=>if e=0 then 2 else if e=4 then 2 else if e=8 then 1 else 0
def gMix (ns:Nat→Int) (i:Nat):Nat→Int:=fun e=>if e<i then gEnt (ns e) (g0P e) else g0P e
theorem gk0 (ns:Nat→Int) (h:gEnt (ns 0) (g0P 0)=g0P 0):cI (gMix ns 0)=cI (gMix ns 1):=by
 have e:gMix ns 0=gMix ns 1:=by
  funext e
  unfold gMix
  by_cases q:e=0
  ·subst q;rw[if_neg (by decide),if_pos (by decide),h]
  ·by_cases r:e<0
   ·rw[if_pos r,if_pos (by omega)]
   ·rw[if_neg r,if_neg (by omega)]
 rw[e]
end Go.Eng
namespace Go.Eng
end Go.Eng
namespace Go.Eng
end Go.Eng
namespace Go.Eng
end Go.Eng
namespace Go.Eng
end Go.Eng
namespace Go.Eng
end Go.Eng
namespace Go.Eng
end Go.Eng
namespace Go.Eng
end Go.Eng
namespace Go.Eng
theorem zlp (xs:List Int) (i:Int):∃f:FQ,Ints xs→0≤i→i≤100→fsz 122 f∧pf E0 187 [ints xs,.i .i64 i]=some (rfQ f):=by
 by_cases h:Ints xs∧0≤i∧i≤100
 ·obtain⟨f,h1,h2⟩:=zkL h.1 h.2.1 h.2.2
  exact⟨f,fun _ _ _=>⟨h1,h2⟩⟩
 ·exact⟨fq0,fun a b c=>absurd ⟨a,b,c⟩ h⟩
noncomputable def frcF (xs:List Int) (i:Int):FQ:=(zlp xs i).choose
theorem zlI {xs:List Int} (hx:Ints xs) {i:Int} (h0:0≤i) (h1:i≤100):pf E0 187 [ints xs,.i .i64 i]=some (rfQ (frcF xs i)):=((zlp xs i).choose_spec hx h0 h1).2
end Go.Eng
set_option maxRecDepth 10000
namespace Go.Eng
noncomputable def smF (xs:List Int) (i:Int):FQ:=(makF (clip (pick xs i 1000000%401-200)) (clip (1+pick xs i 1000000/401%16))).1
theorem zjB {z:Int} (h : -1000000≤z∧z≤1000000):wlen z.natAbs≤512:=zjS (by unfold Fits64;omega)
theorem zfC {xs:List Int} (hx:Ints xs) {i:Int} (hi:Fits64 i):pf E0 361 [ints xs,.i .i64 i]=some (rfQ (smF xs i)):=by
 have pk:=zlE hx hi (m:=1000000) (by decide) (by decide)
 have k0:=zdT xs i (m:=1000000) (by decide)
 have k1:=zjj xs i (m:=1000000) (by decide)
 unfold smF
 generalize pick xs i 1000000=k at *
 have e1:k.tmod 401=k%401:=Int.tmod_eq_emod_of_nonneg k0
 have e2:k.tdiv 401=k/401:=Int.tdiv_eq_ediv_of_nonneg k0
 have e3:(k/401).tmod 16=k/401%16:=Int.tmod_eq_emod_of_nonneg (Int.ediv_nonneg k0 (by decide))
 have b1 : -200≤k%401-200∧k%401-200≤200:=by omega
 have b2:1≤1+k/401%16∧1+k/401%16≤16:=by omega
 have o1:=zdi (k%401-200) (by unfold Fits64;omega)
 have o2:=zdi (1+k/401%16) (by unfold Fits64;omega)
 have m:=zlL (clip (k%401-200)) (clip (1+k/401%16))
 rw[za0 (zjB (by omega)),za0 (zjB (by omega))] at m
 generalize makF (clip (k%401-200)) (clip (1+k/401%16))=R at *
 generalize hu:k%401-200=u at *
 generalize hv:1+k/401%16=v at *
 refine zaa (xf:=zxa) rfl (by simp[zxa]) ?_
 simp only[zxa]
 simp(disch:=omega)only[go_sem,seval,wqq,pk,e1,e2,e3,hu,hv,o1,o2,m]
noncomputable def enF (xs:List Int) (i:Int):FQ×FQ :=
 if pick xs i 1000000%4=0 then (frcF xs (i+1),frcF xs (i+3)) else if pick xs i 1000000%4=1 then (smF xs (i+1),smF xs (i+1)) else (smF xs (i+1),smF xs (i+2))
theorem zgX {xs:List Int} (hx:Ints xs) {i:Int} (h0:0≤i) (h1:i≤90):pf E0 344 [ints xs,.i .i64 i]=some (.tu [rfQ (enF xs i).1,rfQ (enF xs i).2]):=by
 have pk:=zlE hx (i:=i) (m:=1000000) (by unfold Fits64;omega) (by decide) (by decide)
 have k0:=zdT xs i (m:=1000000) (by decide)
 have k1:=zjj xs i (m:=1000000) (by decide)
 have f1:=zlI hx (i:=i+1) (by omega) (by omega)
 have f2:=zlI hx (i:=i+3) (by omega) (by omega)
 have s1:=zfC hx (i:=i+1) (by unfold Fits64;omega)
 have s2:=zfC hx (i:=i+2) (by unfold Fits64;omega)
 unfold enF
 generalize pick xs i 1000000=k at *
 have e1:k.tmod 4=k%4:=Int.tmod_eq_emod_of_nonneg k0
 generalize frcF xs (i+1)=F1 at *
 generalize frcF xs (i+3)=F2 at *
 generalize smF xs (i+1)=S1 at *
 generalize smF xs (i+2)=S2 at *
 by_cases h:k%4=0
 ·rw[if_pos h]
  have q:(k%4=0)=True:=eq_true h
  refine zaa (xf:=zv7) rfl (by simp[zv7]) ?_
  simp only[zv7]
  simp(disch:=omega)only[go_sem,seval,wqq,pk,e1,q,f1,f2]
 ·rw[if_neg h]
  have q:(k%4=0)=False:=eq_false h
  by_cases h':k%4=1
  ·rw[if_pos h']
   have q':(k%4=1)=True:=eq_true h'
   refine zaa (xf:=zv7) rfl (by simp[zv7]) ?_
   simp only[zv7]
   simp(disch:=omega)only[go_sem,seval,wqq,pk,e1,q,q',s1]
   refine ze8 [7] [4] rfl ?_ ?_
   ·simp(disch:=omega)only[go_sem,seval,wqq]
    exact⟨_,rfl,rfl⟩
   simp(disch:=omega)only[go_sem,seval,wqq]
  ·rw[if_neg h']
   have q':(k%4=1)=False:=eq_false h'
   refine zaa (xf:=zv7) rfl (by simp[zv7]) ?_
   simp only[zv7]
   simp(disch:=omega)only[go_sem,seval,wqq,pk,e1,q,q',s1]
   refine zag rfl ?_
   simp(disch:=omega)only[go_sem,seval,wqq,s2]
noncomputable def inI (xs:List Int) (i:Int):IV:=(mkI (enF xs i).1 (enF xs i).2).1
theorem zlu (xs:List Int) (i:Int):(inI xs i).ok:=zlA _ _
theorem zdf {xs:List Int} (hx:Ints xs) {i:Int} (h0:0≤i) (h1:i≤90):pf E0 446 [ints xs,.i .i64 i]=some (rvP (inI xs i)):=by
 have e:=zgX hx h0 h1
 have m:=zkO (enF xs i).1 (enF xs i).2
 unfold inI
 generalize mkI (enF xs i).1 (enF xs i).2=R at *
 generalize (enF xs i).1=a at *
 generalize (enF xs i).2=b at *
 refine zaa (xf:=zwF) rfl (by simp[zwF]) ?_
 simp only[zwF]
 simp(disch:=omega)only[go_sem,seval,wqq,e,m]
theorem znv (f:FQ):pf E0 197 [.s (ftx f.p.v f.q.v)]=some (.tu [fqP f,.i .i64 0]):=zje f (by have:=zfY f;omega)
theorem zk7 (f:FQ):pf E0 196 [rfQ f]=some (.s (ftx f.p.v f.q.v)):=zkM _ _ (by have:=zd3 f.p;omega) (by have:=zd3 f.q;omega)
theorem zdd (f:FQ):pf E0 500 [rfQ f]=some (fqP f):=by
 have h1:=zk7 f
 have h2:=znv f
 generalize ftx f.p.v f.q.v=t at *
 refine zaa (xf:=zwY) rfl (by simp[zwY]) ?_
 simp only[zwY]
 simp(disch:=omega)only[go_sem,seval,wqq,h1,h2]
theorem zms (a:Int):flI (a*4294967296) 4294967296=a:=Int.mul_ediv_cancel _ (by decide)
theorem zmb (a:Int):ceI (a*4294967296) 4294967296=a:=by
 unfold ceI
 rw[←Int.neg_mul,Int.mul_ediv_cancel _ (by decide)];omega
theorem zoq (x:WI):fdQ (frQ x)=x.v∧ceQ (frQ x)=x.v:=by
 rw[zif (by decide) (zb8 x),zhN (by decide) (zb8 x),zms,zmb]
 exact⟨rfl,rfl⟩
theorem zlo {x:WI} (h:inB x.v):inL (frQ x).p.v∧inL (frQ x).q.v:=by
 obtain⟨_,h1,h2⟩:=zkt (x:=x) (y:=w32) (by rw[zd4];decide)
 rw[zd4] at h1 h2
 have h1:(frQ x).p.v=lowP x.v 4294967296:=h1
 have h2:(frQ x).q.v=lowQ x.v 4294967296:=h2
 rw[h1,h2]
 exact⟨zgB (zoB h) (ziv (by decide)),zgB (zbQ zmA (by decide)) (ziw (by decide))⟩
theorem zoI {x:IV} (hx:x.ok):mkI (frQ x.lo) (frQ x.hi)=(x,0):=by
 unfold IV.ok at hx
 have hc:¬cmpF (frQ x.lo) (frQ x.hi)>0:=by
  rw[zhR (by decide) (by decide) (zb8 x.lo) (zb8 x.hi)]
  have:=Int.mul_le_mul_of_nonneg_right hx (show (0:Int)≤4294967296 by decide)
  unfold cmpI
  split
  ·decide
  ·split
   ·omega
   ·decide
 obtain⟨l1,l2⟩:=zlo x.l
 obtain⟨l3,l4⟩:=zlo x.h
 unfold mkI
 rw[if_neg hc]
 unfold mkSo
 rw[if_pos ⟨l1,l2,l3,l4⟩]
 have e1:flI ((frQ x.lo).p.v*4294967296) (frQ x.lo).q.v=x.lo.v:=(zoq x.lo).1
 have e2:ceI ((frQ x.hi).p.v*4294967296) (frQ x.hi).q.v=x.hi.v:=(zoq x.hi).2
 rw[e1,e2]
 obtain⟨a,b,c⟩:=zfu ⟨x.l,x.h⟩
 have:(mdI x.lo.v x.hi.v).1=x:=zoD b c
 exact Prod.ext this a
theorem zi7 {x:IV} (hx:x.ok):pf E0 503 [rvP x]=some (ivP x):=by
 have h1:=zcl x.lo
 have h2:=zcl x.hi
 have n1:=zdd (frQ x.lo)
 have n2:=zdd (frQ x.hi)
 have m:=zcO (frQ x.lo) (frQ x.hi)
 rw[zoI hx] at m
 generalize frQ x.lo=A at *
 generalize frQ x.hi=B at *
 refine zaa (xf:=zwy) rfl (by simp[zwy]) ?_
 simp only[zwy]
 simp(disch:=omega)only[go_sem,seval,wqq]
 refine zag rfl ?_
 simp(disch:=omega)only[go_sem,seval,wqq,h1,h2,n1,n2,m]
end Go.Eng
set_option maxRecDepth 10000
namespace Go.Eng
theorem zkn {z:Int} (h:Fits64 z):inK 64 z:=by
 unfold inK
 unfold Fits64 at h
 have:(2:Nat)^64=18446744073709551616:=by decide
 omega
theorem zku {a b:FQ} {l h:Int} (f1:Fits64 a.p.v) (f2:Fits64 a.q.v) (f3:Fits64 b.p.v) (f4:Fits64 b.q.v) (hl:min2 (fdQ a) (fdQ b)=l) (hh:max2 (ceQ a) (ceQ b)=h):(mkI a b).2=0∧(mkI a b).1.lo.v=l∧(mkI a b).1.hi.v=h:=by
 have big:∀f:FQ,Fits64 f.p.v→inB (fdQ f)∧inB (ceQ f):=fun f hf=>by
  have hm:inK 97 (f.p.v*4294967296):=zf2 (zkn hf) zmA (by decide)
  refine⟨zbQ (zgB hm (zch _ _)) (by decide),?_⟩
  have:inK 97 (-(f.p.v*4294967296)):=zf3.2 hm
  refine zbQ (i:=97) ?_ (by decide)
  unfold ceQ ceI
  rw[zf3]
  exact zgB this (zch _ _)
 have so:∀c d:FQ,Fits64 c.p.v→Fits64 c.q.v→Fits64 d.p.v→Fits64 d.q.v→(mkSo c d).2=0:=fun c d g1 g2 g3 g4=>by
  have il:∀{z:Int},Fits64 z→inL z:=fun q=>zbQ (zkn q) (by decide)
  unfold mkSo
  rw[if_pos ⟨il g1,il g2,il g3,il g4⟩]
  exact(zfu ⟨(big c g1).1,(big d g3).2⟩).1
 have z:(mkI a b).2=0:=by
  unfold mkI
  split
  ·exact so b a f3 f4 f1 f2
  ·exact so a b f1 f2 f3 f4
 obtain⟨v1,v2⟩:=zru z
 exact⟨z,v1.trans hl,v2.trans hh⟩
theorem zki (x:WI):(frQ x).p.v=lowP x.v 4294967296∧(frQ x).q.v=lowQ x.v 4294967296:=by
 obtain⟨_,h1,h2⟩:=zkt (x:=x) (y:=w32) (by rw[zd4];decide)
 exact⟨h1,h2⟩
theorem zf4 {x:IV} {l h p1 q1 p2 q2:Int} {s t:List UInt8} (hl:x.lo.v=l) (hh:x.hi.v=h) (e1:lowP l 4294967296=p1) (e2:lowQ l 4294967296=q1) (e3:lowP h 4294967296=p2) (e4:lowQ h 4294967296=q2) (hs:ftx p1 q1=s) (ht:ftx p2 q2=t) :
  ivTx x=[91]++s++[44,32]++t++[93]:=by
 unfold ivTx
 rw[(zki x.lo).1,(zki x.lo).2,(zki x.hi).1,(zki x.hi).2,hl,hh,e1,e2,e3,e4,hs,ht]
theorem zhp {f:FQ} {p q l h:Int} (hp:f.p.v=p) (hq:f.q.v=q) (e1:flI (p*4294967296) q=l) (e2:ceI (p*4294967296) q=h):fdQ f=l∧ceQ f=h:=by
 unfold fdQ ceQ
 rw[hp,hq];exact⟨e1,e2⟩
set_option maxHeartbeats 4000000 in
theorem zkI:pf E0 502 []=some (.b true):=by
 obtain⟨o,o1,o2,_,fo⟩:=zhv (p:=1) (q:=1) (a:=1) (b:=1) (by decide) (by decide) (by decide) (by decide) (by decide) (zae (by decide)) (zae (by decide))
 obtain⟨t,t1,t2,_,ft⟩:=zhv (p:=1) (q:=3) (a:=1) (b:=3) (by decide) (by decide) (by decide) (by decide) (by decide) (zae (by decide)) (zae (by decide))
 obtain⟨h,h1,h2,_,fh⟩:=zhv (p:=1) (q:=2) (a:=1) (b:=2) (by decide) (by decide) (by decide) (by decide) (by decide) (zae (by decide)) (zae (by decide))
 obtain⟨w,w1,w2,_,fw⟩:=zhv (p:=2) (q:=1) (a:=2) (b:=1) (by decide) (by decide) (by decide) (by decide) (by decide) (zae (by decide)) (zae (by decide))
 obtain⟨u,u1,u2,_,fu⟩:=zhv (p:=4) (q:=1) (a:=4) (b:=1) (by decide) (by decide) (by decide) (by decide) (by decide) (zae (by decide)) (zae (by decide))
 obtain⟨v,v1,v2,_,fv⟩:=zhv (p:=8) (q:=1) (a:=8) (b:=1) (by decide) (by decide) (by decide) (by decide) (by decide) (zae (by decide)) (zae (by decide))
 obtain⟨to1,to2⟩:=zhp (l:=4294967296) (h:=4294967296) o1 o2 (by decide) (by decide)
 obtain⟨tt1,tt2⟩:=zhp (l:=1431655765) (h:=1431655766) t1 t2 (by decide) (by decide)
 obtain⟨th1,th2⟩:=zhp (l:=2147483648) (h:=2147483648) h1 h2 (by decide) (by decide)
 obtain⟨tw1,tw2⟩:=zhp (l:=8589934592) (h:=8589934592) w1 w2 (by decide) (by decide)
 obtain⟨tu1,tu2⟩:=zhp (l:=17179869184) (h:=17179869184) u1 u2 (by decide) (by decide)
 obtain⟨tv1,tv2⟩:=zhp (l:=34359738368) (h:=34359738368) v1 v2 (by decide) (by decide)
 have fi:∀{z n:Int},z=n→Fits64 n→Fits64 z:=fun h g=>h ▸ g
 obtain⟨a0,a1,a2⟩:=zku (a:=h) (b:=h) (l:=2147483648) (h:=2147483648) (fi h1 (by decide)) (fi h2 (by decide)) (fi h1 (by decide)) (fi h2 (by decide)) (by rw[th1];decide) (by rw[th2];decide)
 obtain⟨b0,b1,b2⟩:=zku (a:=t) (b:=t) (l:=1431655765) (h:=1431655766) (fi t1 (by decide)) (fi t2 (by decide)) (fi t1 (by decide)) (fi t2 (by decide)) (by rw[tt1];decide) (by rw[tt2];decide)
 obtain⟨c0,c1,c2⟩:=zku (a:=o) (b:=w) (l:=4294967296) (h:=8589934592) (fi o1 (by decide)) (fi o2 (by decide)) (fi w1 (by decide)) (fi w2 (by decide)) (by rw[to1,tw1];decide) (by rw[to2,tw2];decide)
 obtain⟨d0,d1,d2⟩:=zku (a:=v) (b:=u) (l:=17179869184) (h:=34359738368) (fi v1 (by decide)) (fi v2 (by decide)) (fi u1 (by decide)) (fi u2 (by decide)) (by rw[tv1,tu1];decide) (by rw[tv2,tu2];decide)
 have ma:=zlJ h
 have mb:=zlJ t
 have mc:=zcO o w
 have md:=zcO v u
 have dv:=zi6 (mkI o w).1 (mkI v u).1 (zlA _ _)
 rw[a0] at ma
 rw[b0] at mb
 rw[c0] at mc
 rw[d0] at md
 generalize (mkI h h).1=A at *
 generalize (mkI t t).1=B at *
 generalize (mkI o w).1=C at *
 generalize (mkI v u).1=D at *
 have n0:¬has0 D:=by unfold has0;omega
 have el:divLo C D=536870912:=by unfold divLo;rw[c1,c2,d1,d2];decide
 have eh:divHi C D=2147483648:=by unfold divHi;rw[c1,c2,d1,d2];decide
 have eq:ivDiv C D=mdI 536870912 2147483648:=by unfold ivDiv;rw[if_neg n0,el,eh]
 obtain⟨q0,q1,q2⟩:=zfu (lo:=536870912) (hi:=2147483648) ⟨zbQ (zkn (by decide)) (by decide),zbQ (zkn (by decide)) (by decide)⟩
 rw[eq,q0] at dv
 generalize (mdI 536870912 2147483648).1=Q at *
 have k1:decI 1=[49]:=(zdF (v:=1) (n:=0) rfl (by decide) (by decide)).trans rfl
 have k2:decI 2=[50]:=(zdF (v:=2) (n:=0) rfl (by decide) (by decide)).trans rfl
 have k8:decI 8=[56]:=(zdF (v:=8) (n:=0) rfl (by decide) (by decide)).trans rfl
 have k3:decI 1431655765=[49,52,51,49,54,53,53,55,54,53]:=(zdF (v:=1431655765) (n:=9) rfl (by decide) (by decide)).trans rfl
 have k4:decI 4294967296=[52,50,57,52,57,54,55,50,57,54]:=(zdF (v:=4294967296) (n:=9) rfl (by decide) (by decide)).trans rfl
 have k5:decI 715827883=[55,49,53,56,50,55,56,56,51]:=(zdF (v:=715827883) (n:=8) rfl (by decide) (by decide)).trans rfl
 have k6:decI 2147483648=[50,49,52,55,52,56,51,54,52,56]:=(zdF (v:=2147483648) (n:=9) rfl (by decide) (by decide)).trans rfl
 have x12:ftx 1 2=[49,47,50]:=by unfold ftx;rw[if_neg (by decide),k1,k2];rfl
 have x18:ftx 1 8=[49,47,56]:=by unfold ftx;rw[if_neg (by decide),k1,k8];rfl
 have xb1:ftx 1431655765 4294967296=[49,52,51,49,54,53,53,55,54,53,47,52,50,57,52,57,54,55,50,57,54]:=by unfold ftx;rw[if_neg (by decide),k3,k4];rfl
 have xb2:ftx 715827883 2147483648=[55,49,53,56,50,55,56,56,51,47,50,49,52,55,52,56,51,54,52,56]:=by unfold ftx;rw[if_neg (by decide),k5,k6];rfl
 have sa:=zc2 A
 have sb:=zc2 B
 have sq:=zc2 Q
 rw[zf4 a1 a2 (p1:=1) (q1:=2) (p2:=1) (q2:=2) (by decide) (by decide) (by decide) (by decide) x12 x12] at sa
 rw[zf4 b1 b2 (p1:=1431655765) (q1:=4294967296) (p2:=715827883) (q2:=2147483648) (by decide) (by decide) (by decide) (by decide) xb1 xb2] at sb
 rw[zf4 q1 q2 (p1:=1) (q1:=8) (p2:=1) (q2:=2) (by decide) (by decide) (by decide) (by decide) x18 x12] at sq
 simp only[List.cons_append,List.nil_append] at sa sb sq
 clear a1 a2 b1 b2 c1 c2 d1 d2 q1 q2 h1 h2 t1 t2 o1 o2 w1 w2 u1 u2 v1 v2 to1 to2 tt1 tt2 th1 th2 tw1 tw2 tu1 tu2 tv1 tv2
 refine zaa (xf:=zxd) rfl (by simp[zxd]) ?_
 simp only[zxd]
 have hx:xs_8253e7=[91,49,52,51,49,54,53,53,55,54,53,47,52,50,57,52,57,54,55,50,57,54,44,32,55,49,53,56,50,55,56,56,51,47,50,49,52,55,52,56,51,54,52,56,93]:=rfl
 simp(disch:=omega)only[go_sem,seval,wqq,fo,ft,fh,fw,fu,fv,ma,mb,mc,md,dv,sa,sb,sq,hx,decide_true]
end Go.Eng
set_option maxRecDepth 10000
namespace Go.Eng
noncomputable def opI (k:Nat) (x y:IV):IV×Int:=if k=0 then ivAdd x y else if k=1 then ivSub x y else if k=2 then ivMul x y else ivDiv x y
theorem zpi {k:Nat} (hk:k<4) (x y:IV) (hy:y.ok):pf E0 506 [(PV.i .i64 ((k:Nat):Int)),ivP x,ivP y]=some (.tu [ivP (opI k x y).1,.i .i64 (opI k x y).2]):=by
 have a:=zi5 x y
 have s:=znj x y
 have m:=zni x y
 have d:=zi6 x y hy
 unfold opI
 generalize ivAdd x y=A at *
 generalize ivSub x y=S at *
 generalize ivMul x y=Mm at *
 generalize ivDiv x y=Dd at *
 obtain rfl|rfl|rfl|rfl:k=0∨k=1∨k=2∨k=3:=by omega
 all_goals
  refine zaa (xf:=zws) rfl (by simp[zws]) ?_
  simp only[zws]
  simp(disch:=omega)only[go_sem,seval,wqq,a,s,m,d,Int.natCast_zero,Int.natCast_one,Int.cast_ofNat_Int]
end Go.Eng
set_option maxRecDepth 10000
namespace Go.Eng
theorem zrx (x y:IV):opI 2 x y=ivMul x y:=(if_neg (by decide)).trans ((if_neg (by decide)).trans (if_pos rfl))
theorem zry (x y:IV):opI 3 x y=ivDiv x y:=(if_neg (by decide)).trans ((if_neg (by decide)).trans (if_neg (by decide)))
theorem zl8 (a b:FQ):∃r:FQ×Int,pf E0 9 [fqP a,fqP b]=some (.tu [fqP r.1,.i .i64 r.2])∧((r.2=0∧r.1.is (a.p.v*b.q.v+b.p.v*a.q.v) (a.q.v*b.q.v))∨r.2=4):=by
 by_cases q:adOk a b
 ·obtain⟨f,h1,h2,hf⟩:=(zgR a b).1 q
  refine⟨(f,0),hf,.inl ⟨rfl,?_⟩⟩
  have dn:=zlf a b
  have d1:b.q.v/gI a.q.v b.q.v*gI a.q.v b.q.v=b.q.v:=Int.ediv_mul_cancel (zcY _ _)
  have d2:a.q.v/gI a.q.v b.q.v*gI a.q.v b.q.v=a.q.v:=Int.ediv_mul_cancel (zcs _ _)
  have hs:=zgC (zfr dn h1 h2) (gI a.q.v b.q.v)
  have e1:(adX a b+adY a b)*gI a.q.v b.q.v=a.p.v*b.q.v+b.p.v*a.q.v:=by
   unfold adX adY
   rw[Int.add_mul,Int.mul_assoc,Int.mul_assoc,d1,d2]
  have e2:adD a b*gI a.q.v b.q.v=a.q.v*b.q.v:=by
   unfold adD
   rw[Int.mul_right_comm,d2]
  rwa [e1,e2] at hs
 ·exact⟨(fq0,4),(zgR a b).2 q,.inr rfl⟩
noncomputable def addX (a b:FQ):FQ×Int:=(zl8 a b).choose
theorem zlG (a b:FQ):pf E0 9 [fqP a,fqP b]=some (.tu [fqP (addX a b).1,.i .i64 (addX a b).2]):=(zl8 a b).choose_spec.1
theorem zl7 (a b:FQ):((addX a b).2=0∧(addX a b).1.is (a.p.v*b.q.v+b.p.v*a.q.v) (a.q.v*b.q.v))∨(addX a b).2=4:=(zl8 a b).choose_spec.2
noncomputable def subX (a b:FQ):FQ×Int:=addX a b.neg
theorem zjd (a b:FQ):pf E0 81 [fqP a,fqP b]=some (.tu [fqP (subX a b).1,.i .i64 (subX a b).2]):=by
 rw[zpd];exact zlG a b.neg
theorem zjF (a b:FQ):((subX a b).2=0∧(subX a b).1.is (a.p.v*b.q.v-b.p.v*a.q.v) (a.q.v*b.q.v))∨(subX a b).2=4:=by
 have h:=zl7 a b.neg
 have e:a.p.v*b.neg.q.v+b.neg.p.v*a.q.v=a.p.v*b.q.v-b.p.v*a.q.v:=by
  show a.p.v*b.q.v + -b.p.v*a.q.v=_
  rw[Int.neg_mul];omega
 rw[e] at h
 exact h
theorem zmS (a b:FQ):∃r:FQ×Int,pf E0 8 [fqP a,fqP b]=some (.tu [fqP r.1,.i .i64 r.2])∧((r.2=0∧r.1.is (a.p.v*b.p.v) (a.q.v*b.q.v))∨r.2=4):=by
 have qa:=a.q1
 have qb:=b.q1
 by_cases q:inR (muP a b).natAbs∧inR (muQ a b).natAbs
 ·obtain⟨f,h1,h2,hf⟩:=(zi0 a b).1 q
  exact⟨(f,0),hf,.inl ⟨rfl,zfr (Int.mul_ne_zero (by omega) (by omega)) h1 h2⟩⟩
 ·exact⟨(fq0,4),(zi0 a b).2 q,.inr rfl⟩
noncomputable def mulX (a b:FQ):FQ×Int:=(zmS a b).choose
theorem zph (a b:FQ):pf E0 8 [fqP a,fqP b]=some (.tu [fqP (mulX a b).1,.i .i64 (mulX a b).2]):=(zmS a b).choose_spec.1
theorem zmQ (a b:FQ):((mulX a b).2=0∧(mulX a b).1.is (a.p.v*b.p.v) (a.q.v*b.q.v))∨(mulX a b).2=4:=(zmS a b).choose_spec.2
theorem zmk (a b:FQ):∃r:FQ×Int,pf E0 65 [fqP a,fqP b]=some (.tu [fqP r.1,.i .i64 r.2])∧(b.p.v≠0→(r.2=0∧r.1.is (sgA a.p.v b.p.v*b.q.v) (sgB b.p.v*a.q.v))∨r.2=4):=by
 have qa:=a.q1
 by_cases hb:b.p.v=0
 ·exact⟨(fq0,1),znh a b hb,fun q=>absurd hb q⟩
 ·by_cases q:inR (dvP a b).natAbs∧inR (dvQ a b).natAbs
  ·obtain⟨f,h1,h2,hf⟩:=(zlH a b hb).1 q
   refine⟨(f,0),hf,fun _=>.inl ⟨rfl,?_⟩⟩
   have h:f.is (a.p.v*b.q.v) (a.q.v*b.p.v):=zfr (Int.mul_ne_zero (by omega) hb) h1 h2
   unfold sgA sgB
   by_cases n:b.p.v<0
   ·rw[if_pos n,if_pos n]
    have h':=zgC h (-1)
    rw[show a.p.v*b.q.v * -1 = -a.p.v*b.q.v by rw[Int.neg_mul];omega,show a.q.v*b.p.v * -1 = -b.p.v*a.q.v by rw[Int.neg_mul,Int.mul_comm b.p.v];omega] at h'
    exact h'
   ·rw[if_neg n,if_neg n,Int.mul_comm b.p.v]
    exact h
  ·exact⟨(fq0,4),(zlH a b hb).2 q,fun _=>.inr rfl⟩
noncomputable def divX (a b:FQ):FQ×Int:=(zmk a b).choose
theorem zpa (a b:FQ):pf E0 65 [fqP a,fqP b]=some (.tu [fqP (divX a b).1,.i .i64 (divX a b).2]):=(zmk a b).choose_spec.1
theorem zmh (a b:FQ) (hb:b.p.v≠0):((divX a b).2=0∧(divX a b).1.is (sgA a.p.v b.p.v*b.q.v) (sgB b.p.v*a.q.v))∨(divX a b).2=4:=(zmk a b).choose_spec.2 hb
noncomputable def exF (k:Nat) (a b:FQ):FQ×Int:=if k=0 then addX a b else if k=1 then subX a b else if k=2 then mulX a b else divX a b
theorem ziX {k:Nat} (hk:k<4) (a b:FQ):pf E0 515 [(PV.i .i64 ((k:Nat):Int)),fqP a,fqP b]=some (.tu [fqP (exF k a b).1,.i .i64 (exF k a b).2]):=by
 have fa:=zlG a b
 have fs:=zjd a b
 have fm:=zph a b
 have fd:=zpa a b
 unfold exF
 generalize addX a b=A at *
 generalize subX a b=S at *
 generalize mulX a b=Mm at *
 generalize divX a b=Dd at *
 obtain rfl|rfl|rfl|rfl:k=0∨k=1∨k=2∨k=3:=by omega
 all_goals
  refine zaa (xf:=zw7) rfl (by simp[zw7]) ?_
  simp only[zw7]
  simp(disch:=omega)only[go_sem,seval,wqq,fa,fs,fm,fd,Int.natCast_zero,Int.natCast_one,Int.cast_ofNat_Int]
theorem zom (x y:FQ):exF 2 x y=mulX x y:=(if_neg (by decide)).trans ((if_neg (by decide)).trans (if_pos rfl))
theorem zon (x y:FQ):exF 3 x y=divX x y:=(if_neg (by decide)).trans ((if_neg (by decide)).trans (if_neg (by decide)))
theorem zmI {x y:IV} (h:(ivMul x y).2=0):(ivMul x y).1.lo.v=mulLo x y∧(ivMul x y).1.hi.v=mulHi x y:=by
 unfold ivMul at *
 exact(zft h).2.2
theorem zmH {x y:IV} (h:(ivDiv x y).2=0):¬has0 y∧(ivDiv x y).1.lo.v=divLo x y∧(ivDiv x y).1.hi.v=divHi x y:=by
 unfold ivDiv at *
 by_cases q:has0 y
 ·rw[if_pos q] at h;cases h
 ·rw[if_neg q] at *
  exact⟨q,(zft h).2.2⟩
end Go.Eng
namespace Go.Eng
def vbN (n:Nat):List Nat:=if n<128 then [n] else (128+n%128)::vbN (n/128)
termination_by n
end Go.Eng
namespace Go.Eng
def rdU (i n:Nat):List Nat→Nat×List Nat×Int
 | []=>(0,[],3)
 | c::l=>if (i=9∧1<c)∨(0<i∧c=0) then (0,l,2) else if c<128 then (n+c*128^i,l,0) else rdU (i+1) (n+c%128*128^i) l
end Go.Eng
namespace Go.Eng
end Go.Eng
namespace Go.Eng
end Go.Eng
namespace Go.Eng
end Go.Eng
namespace Go.Eng
end Go.Eng
namespace Go.Eng
def bin2 (n k:Nat) (y:Int):Int:=if k≤n then chE (n*4+k)*y^(n-k) else 0
end Go.Eng
namespace Go.Eng
end Go.Eng
namespace Go.Eng
end Go.Eng
namespace Go.Eng
end Go.Eng
namespace Go.Eng
end Go.Eng
namespace Go.Eng
end Go.Eng
namespace Go.Eng
end Go.Eng
namespace Go.Eng
end Go.Eng
namespace Go.Eng
end Go.Eng
set_option maxRecDepth 10000
namespace Go.Eng
end Go.Eng
namespace Go.Eng
end Go.Eng
set_option maxRecDepth 10000
namespace Go.Eng
end Go.Eng
set_option maxRecDepth 10000
namespace Go.Eng
theorem zq1 {n d n' d':Int} (hd:0<d) (hd':0<d') (e:n*d'=n'*d):flI n d=flI n' d':=by
 have key:∀m:Int,m≤flI n d↔m≤flI n' d':=fun m=>by
  rw[zbD hd,zbD hd',←zaX hd',←zaX (c:=d) (a:=m*d') hd,e,Int.mul_right_comm]
 exact Int.le_antisymm ((key _).1 (Int.le_refl _)) ((key _).2 (Int.le_refl _))
theorem zqP {n d n' d':Int} (hd:0<d) (hd':0<d') (e:n*d'=n'*d):ceI n d=ceI n' d':=by
 have key:∀m:Int,ceI n d≤m↔ceI n' d'≤m:=fun m=>by
  rw[zbB hd,zbB hd',←zaX hd',←zaX (c:=d) (a:=n') hd,e,Int.mul_right_comm m]
 exact Int.le_antisymm ((key _).2 (Int.le_refl _)) ((key _).1 (Int.le_refl _))
theorem zmF {f:FQ} {n d n' d':Int} (hd:d≠0) (h:f.is n d) (e:n*d'=n'*d):f.is n' d':=by
 unfold FQ.is at *
 refine Int.eq_of_mul_eq_mul_right hd ?_
 grind
theorem zjE {a b r:FQ} {n d m e:Int} (hd:0<d) (he:0<e) (ha:a.is n d) (hb:b.is m e) (h:r.is (a.p.v*b.q.v-b.p.v*a.q.v) (a.q.v*b.q.v)):r.is (n*e-m*d) (d*e):=by
 have qa:=a.q1
 have qb:=b.q1
 refine zmF (by have:=Int.mul_pos (show 0<a.q.v by omega) (show 0<b.q.v by omega);omega) h ?_
 unfold FQ.is at ha hb
 have e1:a.p.v*b.q.v*(d*e)=n*a.q.v*(b.q.v*e):=by rw[←ha];grind
 have e2:b.p.v*a.q.v*(d*e)=m*b.q.v*(a.q.v*d):=by rw[←hb];grind
 rw[Int.sub_mul,e1,e2];grind
theorem zir {f:FQ} {n d:Int} (hd:0<d) (h:f.is n d) (hn:0≤n):0≤f.p.v:=by
 have q:=f.q1
 unfold FQ.is at h
 have:=Int.mul_nonneg hn (show 0≤f.q.v by omega)
 rw[←h] at this
 refine Int.le_of_mul_le_mul_right (a:=d) ?_ hd
 omega
theorem zmU {f u r:FQ} {x:WI} (hu:u.is 1 4294967296) (hx:x.v=fdQ f) (h:(subX f (frQ x)).2=0) (hr:r=(subX f (frQ x)).1):0≤r.p.v∧cmpF r u<0:=by
 have q:=f.q1
 rcases zjF f (frQ x) with⟨_,is⟩|z
 ·rw[←hr] at is
  have is:=zjE (d:=f.q.v) (e:=4294967296) (by omega) (by decide) (ziq f) (zb8 x) is
  have hd:0<f.q.v*4294967296:=by omega
  have f1:=zmr (a:=f.p.v*4294967296) (b:=f.q.v) (by omega)
  have f2:=zrs (a:=f.p.v*4294967296) (b:=f.q.v) (by omega)
  rw[show flI (f.p.v*4294967296) f.q.v=x.v from hx.symm] at f1 f2
  rw[Int.add_mul] at f2
  refine⟨zir hd is (by omega),?_⟩
  rw[zhR hd (by decide) is hu]
  unfold cmpI
  rw[if_pos (by omega)]
  decide
 ·omega
theorem zmT {f u r:FQ} {x:WI} (hu:u.is 1 4294967296) (hx:x.v=ceQ f) (h:(subX (frQ x) f).2=0) (hr:r=(subX (frQ x) f).1):0≤r.p.v∧cmpF r u<0:=by
 have q:=f.q1
 rcases zjF (frQ x) f with⟨_,is⟩|z
 ·rw[←hr] at is
  have is:=zjE (d:=4294967296) (e:=f.q.v) (by decide) (by omega) (zb8 x) (ziq f) is
  have hd:0<4294967296*f.q.v:=by omega
  have f1:=zmK (a:=f.p.v*4294967296) (b:=f.q.v) (by omega)
  have f2:=zqQ (a:=f.p.v*4294967296) (b:=f.q.v) (by omega)
  rw[show ceI (f.p.v*4294967296) f.q.v=x.v from hx.symm] at f1 f2
  rw[Int.sub_mul] at f2
  refine⟨zir hd is (by omega),?_⟩
  rw[zhR hd (by decide) is hu]
  unfold cmpI
  rw[if_pos (by omega)]
  decide
 ·omega
theorem zlV {z:Int} (h:0≤z):(0≤cmpI z 0)=True:=eq_true (by unfold cmpI;split<;>(try split)<;>omega)
set_option maxHeartbeats 4000000 in
theorem ziV {x:IV} {lo hi u:FQ} (hu:u.is 1 4294967296) (h1:x.lo.v=fdQ lo) (h2:x.hi.v=ceQ hi):pf E0 514 [ivP x,fqP lo,fqP hi,fqP u]=some (.b true):=by
 have l:=ztM x
 have h:=ztL x
 have s1:=zjd lo (frQ x.lo)
 have s2:=zjd (frQ x.hi) hi
 have n1:=zmU (r:=(subX lo (frQ x.lo)).1) hu h1
 have n2:=zmT (r:=(subX (frQ x.hi) hi).1) hu h2
 generalize subX lo (frQ x.lo)=A at *
 generalize subX (frQ x.hi) hi=B at *
 obtain⟨A,EA⟩:=A
 obtain⟨B,EB⟩:=B
 simp only at s1 s2 n1 n2
 have g1:=zi4 A
 have g2:=zi4 B
 have c1:=zbi A u
 have c2:=zbi B u
 refine zaa (xf:=zw9) rfl (by simp[zw9]) ?_
 simp only[zw9]
 simp(disch:=omega)only[go_sem,seval,wqq,l,h,s1,s2]
 refine zag rfl ?_
 by_cases ha:EA=0
 ·have ha':(EA=0)=True:=eq_true ha
  obtain⟨a1,a2⟩:=n1 ha trivial
  have a1:=zlV a1
  by_cases hb:EB=0
  ·have hb':(EB=0)=True:=eq_true hb
   obtain⟨b1,b2⟩:=n2 hb trivial
   have b1:=zlV b1
   have a2:(cmpF A u<0)=True:=eq_true a2
   have b2:(cmpF B u<0)=True:=eq_true b2
   simp(disch:=omega)only[go_sem,seval,wqq,l,h,s1,s2]
   refine zag rfl ?_
   simp(disch:=omega)only[go_sem,seval,wqq,l,h,s1,s2,ha',hb',g1,g2,c1,c2,a1,a2,b1,b2]
  ·have hb':(EB=0)=False:=eq_false hb
   simp(disch:=omega)only[go_sem,seval,wqq,l,h,s1,s2]
   refine zag rfl ?_
   simp(disch:=omega)only[go_sem,seval,wqq,l,h,s1,s2,ha',hb']
 ·have ha':(EA=0)=False:=eq_false ha
  simp(disch:=omega)only[go_sem,seval,wqq,l,h,s1,s2]
  refine zag rfl ?_
  simp(disch:=omega)only[go_sem,seval,wqq,l,h,s1,s2,ha']
theorem zow (x:WI):((frQ x).p.v<0↔x.v<0)∧((frQ x).p.v=0↔x.v=0):=by
 have h:=zb8 x
 have q:=(frQ x).q1
 unfold FQ.is at h
 constructor
 ·constructor
  ·intro k
   refine Int.lt_of_mul_lt_mul_right (a:=(frQ x).q.v) ?_ (by omega)
   omega
  ·intro k
   have:=Int.mul_lt_mul_of_pos_right k (show 0<(frQ x).q.v by omega)
   omega
 ·constructor
  ·intro k
   rw[k,Int.zero_mul] at h
   rcases Int.mul_eq_zero.1 h.symm with h|h<;>omega
  ·intro k
   rw[k,Int.zero_mul] at h
   omega
theorem zeP {a b:WI} (h:(mulX (frQ a) (frQ b)).2=0):fdQ (mulX (frQ a) (frQ b)).1=flI (a.v*b.v) 4294967296∧ceQ (mulX (frQ a) (frQ b)).1=ceI (a.v*b.v) 4294967296:=by
 have qa:=(frQ a).q1
 have qb:=(frQ b).q1
 rcases zmQ (frQ a) (frQ b) with⟨_,is⟩|z
 ·have ha:=zb8 a
  have hb:=zb8 b
  unfold FQ.is at ha hb
  have is:=zmF (n':=a.v*b.v) (d':=4294967296*4294967296) (by have:=Int.mul_pos (show 0<(frQ a).q.v by omega) (show 0<(frQ b).q.v by omega);omega) is (by
   calc (frQ a).p.v*(frQ b).p.v*(4294967296*4294967296)=((frQ a).p.v*4294967296)*((frQ b).p.v*4294967296):=by grind
    _=(a.v*b.v)*((frQ a).q.v*(frQ b).q.v):=by rw[ha,hb];grind)
  rw[zif (by decide) is,zhN (by decide) is]
  exact⟨zq1 (by decide) (by decide) (Int.mul_assoc _ _ _),zqP (by decide) (by decide) (Int.mul_assoc _ _ _)⟩
 ·omega
theorem zeB {a b:WI} (nz:b.v≠0) (h:(divX (frQ a) (frQ b)).2=0):fdQ (divX (frQ a) (frQ b)).1=dFl a.v b.v∧ceQ (divX (frQ a) (frQ b)).1=dCe a.v b.v:=by
 have qa:=(frQ a).q1
 have qb:=(frQ b).q1
 obtain⟨s1,s2⟩:=zow b
 have nz':(frQ b).p.v≠0:=fun k=>nz (s2.1 k)
 rcases zmh (frQ a) (frQ b) nz' with⟨_,is⟩|z
 ·have ha:=zb8 a
  have hb:=zb8 b
  unfold FQ.is at ha hb
  have sp:=zjA nz
  have sp':=zjA nz'
  have e:(frQ a).p.v*(frQ b).q.v*b.v=a.v*((frQ b).p.v*(frQ a).q.v):=by
   refine Int.eq_of_mul_eq_mul_right (show (4294967296:Int)≠0 by decide) ?_
   calc (frQ a).p.v*(frQ b).q.v*b.v*4294967296=((frQ a).p.v*4294967296)*(b.v*(frQ b).q.v):=by grind
    _=(a.v*(frQ a).q.v)*((frQ b).p.v*4294967296):=by rw[ha,←hb]
    _=a.v*((frQ b).p.v*(frQ a).q.v)*4294967296:=by grind
  have is:=zmF (n':=sgA a.v b.v) (d':=sgB b.v) (by have:=Int.mul_pos sp' (show 0<(frQ a).q.v by omega);omega) is (by
   unfold sgA sgB
   by_cases k:b.v<0
   ·rw[if_pos (s1.2 k),if_pos (s1.2 k),if_pos k,if_pos k];grind
   ·rw[if_neg (fun q=>k (s1.1 q)),if_neg (fun q=>k (s1.1 q)),if_neg k,if_neg k];exact e)
  exact⟨zif sp is,zhN sp is⟩
 ·omega
def mnS (s:Nat→Int):Nat→Int
 | 0=>s 0
 | n+1=>min2 (mnS s n) (s n)
def mxS (s:Nat→Int):Nat→Int
 | 0=>s 0
 | n+1=>max2 (mxS s n) (s n)
noncomputable def prF (x:IV) (i:Nat):FQ:=if i=0 then frQ x.lo else frQ x.hi
noncomputable def crF (k:Nat) (U V:IV) (e:Nat):FQ×Int:=exF k (prF U (e%2)) (prF V (e/2))
theorem ziC (a b c d:Int):min4 a c b d=min4 a b c d:=by unfold min4 min2;omega
theorem ziz (a b c d:Int):max4 a c b d=max4 a b c d:=by unfold max4 max2;omega
theorem zvb (s:Nat→Int):mnS s 4=min4 (s 0) (s 1) (s 2) (s 3):=by
 show min2 (min2 (min2 (min2 (s 0) (s 0)) (s 1)) (s 2)) (s 3)=_
 rw[show min2 (s 0) (s 0)=s 0 from by unfold min2;split<;>rfl];rfl
theorem zvc (s:Nat→Int):mxS s 4=max4 (s 0) (s 1) (s 2) (s 3):=by
 show max2 (max2 (max2 (max2 (s 0) (s 0)) (s 1)) (s 2)) (s 3)=_
 rw[show max2 (s 0) (s 0)=s 0 from by unfold max2;split<;>rfl];rfl
theorem zjI {k:Nat} (hk:2≤k) (hk4:k<4) {U V:IV} (hV:V.ok) (h:(opI k U V).2=0) (hc:∀e,e<4→(crF k U V e).2=0) :
  (opI k U V).1.lo.v=mnS (fun e=>fdQ (crF k U V e).1) 4∧(opI k U V).1.hi.v=mxS (fun e=>ceQ (crF k U V e).1) 4:=by
 rw[zvb,zvc]
 have c0:=hc 0 (by decide)
 have c1:=hc 1 (by decide)
 have c2:=hc 2 (by decide)
 have c3:=hc 3 (by decide)
 obtain rfl|rfl:k=2∨k=3:=by omega
 ·rw[show ∀e,crF 2 U V e=mulX (prF U (e%2)) (prF V (e/2)) from fun e=>zom _ _] at c0 c1 c2 c3
  simp only[show ∀e,crF 2 U V e=mulX (prF U (e%2)) (prF V (e/2)) from fun e=>zom _ _]
  rw[zrx] at *
  obtain⟨v1,v2⟩:=zmI h
  rw[v1,v2]
  have e0:=zeP (a:=U.lo) (b:=V.lo) c0
  have e1:=zeP (a:=U.hi) (b:=V.lo) c1
  have e2:=zeP (a:=U.lo) (b:=V.hi) c2
  have e3:=zeP (a:=U.hi) (b:=V.hi) c3
  unfold mulLo mulHi
  rw[←e0.1,←e1.1,←e2.1,←e3.1,←e0.2,←e1.2,←e2.2,←e3.2]
  exact⟨ziC _ _ _ _,ziz _ _ _ _⟩
 ·rw[show ∀e,crF 3 U V e=divX (prF U (e%2)) (prF V (e/2)) from fun e=>zon _ _] at c0 c1 c2 c3
  simp only[show ∀e,crF 3 U V e=divX (prF U (e%2)) (prF V (e/2)) from fun e=>zon _ _]
  rw[zry] at *
  obtain⟨n0,v1,v2⟩:=zmH h
  rw[v1,v2]
  unfold has0 at n0
  unfold IV.ok at hV
  have z1:V.lo.v≠0:=by omega
  have z2:V.hi.v≠0:=by omega
  have e0:=zeB (a:=U.lo) (b:=V.lo) z1 c0
  have e1:=zeB (a:=U.hi) (b:=V.lo) z1 c1
  have e2:=zeB (a:=U.lo) (b:=V.hi) z2 c2
  have e3:=zeB (a:=U.hi) (b:=V.hi) z2 c3
  unfold divLo divHi
  rw[←e0.1,←e1.1,←e2.1,←e3.1,←e0.2,←e1.2,←e2.2,←e3.2]
  exact⟨ziC _ _ _ _,ziz _ _ _ _⟩
end Go.Eng
set_option maxRecDepth 10000
namespace Go.Eng
theorem zrp {s:Nat→Int} {n:Nat} {lo c:FQ} (h:fdQ lo=mnS s n) (hc:fdQ c=s n):fdQ (if cmpF c lo<0 then c else lo)=mnS s (n+1):=by
 show _=min2 (mnS s n) (s n)
 rw[←h,←hc]
 unfold min2
 split
 ·rename_i q
  have:=zcE (Int.le_of_lt (zhQ.1 q))
  split<;>omega
 ·rename_i q
  have:=zcE (a:=lo) (b:=c) (by have:¬_:=fun w=>q (zhQ.2 w);omega)
  split<;>omega
theorem zrf {s:Nat→Int} {n:Nat} {hi c:FQ} (h:ceQ hi=mxS s n) (hc:ceQ c=s n):ceQ (if cmpF c hi>0 then c else hi)=mxS s (n+1):=by
 show _=max2 (mxS s n) (s n)
 rw[←h,←hc]
 unfold max2
 split
 ·rename_i q
  have:=zdk (Int.le_of_lt (zcW.1 q))
  split<;>omega
 ·rename_i q
  have:=zdk (a:=c) (b:=hi) (by have:¬_:=fun w=>q (zcW.2 w);omega)
  split<;>omega
def tgt (k:Nat) (U V:IV) (i:Nat) (g:Int) (lo hi:FQ):Prop :=
 g=0→(∀e,e<i→(crF k U V e).2=0)∧fdQ lo=mnS (fun e=>fdQ (crF k U V e).1) i∧ceQ hi=mxS (fun e=>ceQ (crF k U V e).1) i
theorem zpF {k:Nat} {U V:IV} {i:Nat} {g:Int} {lo hi:FQ} (h:tgt k U V i g lo hi) (hg:g=0) :
  tgt k U V (i+1) (crF k U V i).2 (if cmpF (crF k U V i).1 lo<0 then (crF k U V i).1 else lo) (if cmpF (crF k U V i).1 hi>0 then (crF k U V i).1 else hi):=by
 intro h0
 obtain⟨h1,h2,h3⟩:=h hg
 refine⟨fun e he=>?_,zrp h2 rfl,zrf h3 rfl⟩
 rcases Nat.lt_or_ge e i with q|q
 ·exact h1 e q
 ·obtain rfl:e=i:=by omega
  exact h0
noncomputable def pcs (x:IV):List PV:=cg 2 (fun e=>qc (prF x e))
theorem zji (x:IV) {i:Nat} (h:i<2):((pcs x).drop (i*4)).take 4=qc (prF x i):=zoc (k:=4) (f:=fun e=>qc (prF x e)) (fun _=>rfl) h
theorem zsW (x:IV):(pcs x).take 4=qc (frQ x.lo):=_root_.id rfl
theorem zga (x:IV):(pcs x).length=8:=_root_.id rfl
set_option maxHeartbeats 4000000 in
theorem zk8 {F:PFin} {ks:List KI} {k:Nat} (hk:k<4) {U V:IV} {un lo hi:FQ} {m0 m1 m2 m6 m7 mz:Option PB} {e1 e2 e3 e4 e5:Nat} {G:PM} {fr:PFr} {g:Int}
  (f7:fr 7=.p 3 0) (f9:fr 9=.p 4 0) (f10:fr 10=.p 5 0) (f11:fr 11=.p 6 0) (f12:fr 12=.p 7 0) (f13:fr 13=(PV.i .i64 ((k:Nat):Int))) (f14:fr 14=.p (G.length+8) 0) (f15:fr 15=.i .i64 g) (f16:fr 16=.sl (G.length+9) 0 2 2 4) (f17:fr 17=.sl (G.length+10) 0 2 2 4) (f18:fr 18=(PV.i .i64 ((1:Nat):Int))) (ht:tgt k U V 1 g lo hi)
  (cont:∀fr' g lo hi e1 e2 e3 H,fr' 7=.p 3 0→fr' 9=.p 4 0→fr' 10=.p 5 0→fr' 11=.p 6 0→fr' 12=.p 7 0→fr' 13=(PV.i .i64 ((k:Nat):Int))→fr' 14=.p (G.length+8) 0→fr' 15=.i .i64 g→(g=0→tgt k U V 4 g lo hi)→UK E0 F (.exit 2) ks fr' (m0::m1::m2::some ⟨(fqP un).cells,true,e1⟩::some ⟨(fqP lo).cells,true,e2⟩::some ⟨(fqP hi).cells,true,e3⟩::m6::m7::(G++(mz::H)))) :
  WK E0 F (.loop zwV) ks fr (m0::m1::m2::some ⟨(fqP un).cells,true,e1⟩::some ⟨(fqP lo).cells,true,e2⟩::some ⟨(fqP hi).cells,true,e3⟩::m6::m7::(G++[mz,some ⟨pcs U,true,e4⟩,some ⟨pcs V,true,e5⟩])):=by
 refine zao zwV.eq_1 (fun(i:Nat) fr M=>1≤i∧i≤4∧fr 7=.p 3 0∧fr 9=.p 4 0∧fr 10=.p 5 0∧fr 11=.p 6 0∧fr 12=.p 7 0∧fr 13=(PV.i .i64 ((k:Nat):Int))∧fr 14=.p (G.length+8) 0∧fr 16=.sl (G.length+9) 0 2 2 4∧fr 17=.sl (G.length+10) 0 2 2 4∧fr 18=(PV.i .i64 ((i:Nat):Int))∧∃g lo hi e1 e2 e3 e4 e5 H,fr 15=.i .i64 g∧tgt k U V i g lo hi∧M=m0::m1::m2::some ⟨(fqP un).cells,true,e1⟩::some ⟨(fqP lo).cells,true,e2⟩::some ⟨(fqP hi).cells,true,e3⟩::m6::m7::(G++(mz::some ⟨pcs U,true,e4⟩::some ⟨pcs V,true,e5⟩::H))) (fun i=>4-i) ?_ 1 ⟨by omega,by omega,f7,f9,f10,f11,f12,f13,f14,f16,f17,f18,g,lo,hi,e1,e2,e3,e4,e5,[],f15,ht,rfl⟩
 clear f7 f9 f10 f11 f12 f13 f14 f15 f16 f17 f18 ht
 rintro i fr M ⟨i1,i4,f7,f9,f10,f11,f12,f13,f14,f16,f17,f18,g,lo,hi,e1,e2,e3,e4,e5,H,f15,ht,rfl⟩ ih
 rcases Nat.lt_or_ge i 4 with h|h
 ·have q1:((i:Int)<4)=True:=eq_true (by omega)
  by_cases hg:g=0
  ·have hg':(g=0)=True:=eq_true hg
   have tm:((i:Int).tmod 2)=((i%2:Nat):Int):=(Int.ofNat_tmod i 2).symm
   have td:((i:Int).tdiv 2)=((i/2:Nat):Int):=(Int.ofNat_tdiv i 2).symm
   have qa:(i%2<2)=True:=eq_true (by omega)
   have qb:(i/2<2)=True:=eq_true (by omega)
   have sa:=zji U (show i%2<2 by omega)
   have sb:=zji V (show i/2<2 by omega)
   have la:(i%2*4+4≤(pcs U).length)=True:=eq_true (by rw[zga];omega)
   have lb:(i/2*4+4≤(pcs V).length)=True:=eq_true (by rw[zga];omega)
   have ex:=ziX hk (prF U (i%2)) (prF V (i/2))
   have st:=zpF ht hg
   rw[show exF k (prF U (i%2)) (prF V (i/2))=crF k U V i from rfl] at ex
   generalize crF k U V i=S at *
   generalize prF U (i%2)=A at *
   generalize prF V (i/2)=B at *
   have c1:=zbi S.1 lo
   have c2:=zbi S.1 hi
   have key:∀lo' hi',(lo'=if cmpF S.1 lo<0 then S.1 else lo)→(hi'=if cmpF S.1 hi>0 then S.1 else hi)→tgt k U V (i+1) S.2 lo' hi':=fun lo' hi' h1 h2=>by rw[h1,h2];exact st
   by_cases d1:cmpF S.1 lo<0
   ·have d1':(cmpF S.1 lo<0)=True:=eq_true d1
    by_cases d2:cmpF S.1 hi>0
    ·have d2':(0<cmpF S.1 hi)=True:=eq_true d2
     simp(disch:=omega)only[go_sem,seval,wqq,f7,f9,f10,f11,f12,f13,f14,f15,f16,f17,f18,q1,hg',tm,td,qa,qb,sa,sb,la,lb,zpv,ex,c1,c2,d1',d2',mG,mG0,sG,sG0,lG,lqq]
     exact ih (i+1) _ _ (by omega) ⟨by omega,by omega,by simp only[go_sem,seval,f7],by simp only[go_sem,seval,f9],by simp only[go_sem,seval,f10],by simp only[go_sem,seval,f11],by simp only[go_sem,seval,f12],by simp only[go_sem,seval,f13],by simp only[go_sem,seval,f14],by simp only[go_sem,seval,f16],by simp only[go_sem,seval,f17],by simp only[go_sem,seval];rw[Int.natCast_succ],S.2,S.1,S.1,_,_,_,_,_,_,by simp only[go_sem,seval],key _ _ (if_pos d1).symm (if_pos d2).symm,rfl⟩
    ·have d2':(0<cmpF S.1 hi)=False:=eq_false d2
     simp(disch:=omega)only[go_sem,seval,wqq,f7,f9,f10,f11,f12,f13,f14,f15,f16,f17,f18,q1,hg',tm,td,qa,qb,sa,sb,la,lb,zpv,ex,c1,c2,d1',d2',mG,mG0,sG,sG0,lG,lqq]
     exact ih (i+1) _ _ (by omega) ⟨by omega,by omega,by simp only[go_sem,seval,f7],by simp only[go_sem,seval,f9],by simp only[go_sem,seval,f10],by simp only[go_sem,seval,f11],by simp only[go_sem,seval,f12],by simp only[go_sem,seval,f13],by simp only[go_sem,seval,f14],by simp only[go_sem,seval,f16],by simp only[go_sem,seval,f17],by simp only[go_sem,seval];rw[Int.natCast_succ],S.2,S.1,hi,_,_,_,_,_,_,by simp only[go_sem,seval],key _ _ (if_pos d1).symm (if_neg d2).symm,rfl⟩
   ·have d1':(cmpF S.1 lo<0)=False:=eq_false d1
    by_cases d2:cmpF S.1 hi>0
    ·have d2':(0<cmpF S.1 hi)=True:=eq_true d2
     simp(disch:=omega)only[go_sem,seval,wqq,f7,f9,f10,f11,f12,f13,f14,f15,f16,f17,f18,q1,hg',tm,td,qa,qb,sa,sb,la,lb,zpv,ex,c1,c2,d1',d2',mG,mG0,sG,sG0,lG,lqq]
     exact ih (i+1) _ _ (by omega) ⟨by omega,by omega,by simp only[go_sem,seval,f7],by simp only[go_sem,seval,f9],by simp only[go_sem,seval,f10],by simp only[go_sem,seval,f11],by simp only[go_sem,seval,f12],by simp only[go_sem,seval,f13],by simp only[go_sem,seval,f14],by simp only[go_sem,seval,f16],by simp only[go_sem,seval,f17],by simp only[go_sem,seval];rw[Int.natCast_succ],S.2,lo,S.1,_,_,_,_,_,_,by simp only[go_sem,seval],key _ _ (if_neg d1).symm (if_pos d2).symm,rfl⟩
    ·have d2':(0<cmpF S.1 hi)=False:=eq_false d2
     simp(disch:=omega)only[go_sem,seval,wqq,f7,f9,f10,f11,f12,f13,f14,f15,f16,f17,f18,q1,hg',tm,td,qa,qb,sa,sb,la,lb,zpv,ex,c1,c2,d1',d2',mG,mG0,sG,sG0,lG,lqq]
     exact ih (i+1) _ _ (by omega) ⟨by omega,by omega,by simp only[go_sem,seval,f7],by simp only[go_sem,seval,f9],by simp only[go_sem,seval,f10],by simp only[go_sem,seval,f11],by simp only[go_sem,seval,f12],by simp only[go_sem,seval,f13],by simp only[go_sem,seval,f14],by simp only[go_sem,seval,f16],by simp only[go_sem,seval,f17],by simp only[go_sem,seval];rw[Int.natCast_succ],S.2,lo,hi,_,_,_,_,_,_,by simp only[go_sem,seval],key _ _ (if_neg d1).symm (if_neg d2).symm,rfl⟩
  ·have hg':(g=0)=False:=eq_false hg
   simp(disch:=omega)only[go_sem,seval,wqq,f7,f9,f10,f11,f12,f13,f14,f15,f16,f17,f18,q1,hg',mG,mG0,sG,sG0,lG,lqq]
   exact cont _ g _ _ _ _ _ _ (by simp only[go_sem,seval,f7]) (by simp only[go_sem,seval,f9]) (by simp only[go_sem,seval,f10]) (by simp only[go_sem,seval,f11]) (by simp only[go_sem,seval,f12]) (by simp only[go_sem,seval,f13]) (by simp only[go_sem,seval,f14]) (by simp only[go_sem,seval,f15]) (fun q=>absurd q hg)
 ·obtain rfl:i=4:=by omega
  have q1:(((4:Nat):Int)<4)=False:=by simp
  simp(disch:=omega)only[go_sem,seval,wqq,f7,f9,f10,f11,f12,f13,f14,f15,f16,f17,f18,q1,mG,mG0,sG,sG0,lG,lqq]
  exact cont _ g _ _ _ _ _ _ (by simp only[go_sem,seval,f7]) (by simp only[go_sem,seval,f9]) (by simp only[go_sem,seval,f10]) (by simp only[go_sem,seval,f11]) (by simp only[go_sem,seval,f12]) (by simp only[go_sem,seval,f13]) (by simp only[go_sem,seval,f14]) (by simp only[go_sem,seval,f15]) (fun _=>ht)
theorem zur (x:IV):[PV.b (decide ((frQ x.lo).p.v<0)),D (frQ x.lo).p.v.natAbs,.b (decide ((frQ x.lo).l.v<0)),D (frQ x.lo).l.v.natAbs,.b (decide ((frQ x.hi).p.v<0)),D (frQ x.hi).p.v.natAbs,.b (decide ((frQ x.hi).l.v<0)),D (frQ x.hi).l.v.natAbs]=pcs x:=_root_.id rfl
set_option maxHeartbeats 4000000 in
theorem zhc {F:PFin} {ks:List KI} {U V:IV} (hU:U.ok) (hV:V.ok) {un lo hi:FQ} (hu:un.is 1 4294967296) {m0 m1 m2:Option PB} {e1 e2 e3 e4 e5:Nat} {fr:PFr}
  (f7:fr 7=.p 3 0) (f9:fr 9=.p 4 0) (f10:fr 10=.p 5 0) (f11:fr 11=.p 6 0) (f12:fr 12=.p 7 0) (f13:fr 13=(PV.i .i64 ((2:Nat):Int)))
  (cont:∀fr' M',UK E0 F (.exit 0) ks fr' M') :
  WK E0 F (.loop zw0) ks fr [m0,m1,m2,some ⟨(fqP un).cells,true,e1⟩,some ⟨(fqP lo).cells,true,e2⟩,some ⟨(fqP hi).cells,true,e3⟩,some ⟨(rvP U).cells,true,e4⟩,some ⟨(rvP V).cells,true,e5⟩]:=by
 refine zao zw0.eq_1 (fun(k:Nat) fr M=>2≤k∧k≤4∧fr 7=.p 3 0∧fr 9=.p 4 0∧fr 10=.p 5 0∧fr 11=.p 6 0∧fr 12=.p 7 0∧fr 13=(PV.i .i64 ((k:Nat):Int))∧∃lo hi e1 e2 e3 e4 e5 G,M=m0::m1::m2::some ⟨(fqP un).cells,true,e1⟩::some ⟨(fqP lo).cells,true,e2⟩::some ⟨(fqP hi).cells,true,e3⟩::some ⟨(rvP U).cells,true,e4⟩::some ⟨(rvP V).cells,true,e5⟩::G) (fun k=>4-k) ?_ 2 ⟨by omega,by omega,f7,f9,f10,f11,f12,f13,lo,hi,e1,e2,e3,e4,e5,[],rfl⟩
 clear f7 f9 f10 f11 f12 f13
 rintro k fr M ⟨k2,k4,f7,f9,f10,f11,f12,f13,lo,hi,e1,e2,e3,e4,e5,G,rfl⟩ ih
 rcases Nat.lt_or_ge k 4 with h|h
 ·have q1:((k:Int)<4)=True:=eq_true (by omega)
  have v1:=zi7 hU
  have v2:=zi7 hV
  have op:=zpi h U V hV
  have te:=fun hr hc=>zjI k2 h hV (U:=U) hr hc
  have a1:=zcl U.lo
  have a2:=zcl U.hi
  have b1:=zcl V.lo
  have b2:=zcl V.hi
  have n1:=zdd (frQ U.lo)
  have n2:=zdd (frQ U.hi)
  have n3:=zdd (frQ V.lo)
  have n4:=zdd (frQ V.hi)
  have ex:=ziX h (prF U 0) (prF V 0)
  have t1:∀l h,l=(crF k U V 0).1→h=(crF k U V 0).1→tgt k U V 1 (crF k U V 0).2 l h:=fun l h hl hh h0=>⟨fun e he=>by rw[show e=0 by omega];exact h0,by rw[hl];show _=min2 _ _;unfold min2;split<;>rfl,by rw[hh];show _=max2 _ _;unfold max2;split<;>rfl⟩
  rw[show exF k (prF U 0) (prF V 0)=crF k U V 0 from rfl] at ex
  have ex:pf E0 515 [(PV.i .i64 ((k:Nat):Int)),fqP (frQ U.lo),fqP (frQ V.lo)]=some (.tu [fqP (crF k U V 0).1,.i .i64 (crF k U V 0).2]):=ex
  generalize opI k U V=R at *
  generalize crF k U V 0=S at *
  obtain⟨R,E⟩:=R
  obtain⟨S,E2⟩:=S
  simp only at op ex te t1
  simp(disch:=omega)only[go_sem,seval,wqq,f7,f9,f10,f11,f12,f13,q1,v1,v2,op,mG,mG0,sG,sG0,lG,lqq]
  refine zag rfl ?_
  simp(disch:=omega)only[go_sem,seval,wqq,f7,f9,f10,f11,f12,f13,q1,v1,v2,op,a1,a2,n1,n2,mG,mG0,sG,sG0,lG,lqq]
  refine zag rfl ?_
  simp(disch:=omega)only[go_sem,seval,wqq,f7,f9,f10,f11,f12,f13,q1,v1,v2,op,a1,a2,n1,n2,b1,b2,n3,n4,zam,zad,zur,mG,mG0,sG,sG0,lG,lqq]
  refine zag rfl ?_
  simp(disch:=omega)only[go_sem,seval,wqq,f7,f9,f10,f11,f12,f13,q1,v1,v2,op,a1,a2,n1,n2,b1,b2,n3,n4,zam,zad,zur,mG,mG0,sG,sG0,lG,lqq]
  by_cases hE:E=0
  ·have hE':(E=0)=True:=eq_true hE
   simp(disch:=omega)only[go_sem,seval,wqq,f7,f9,f10,f11,f12,f13,q1,hE',zsW,zga,zpv,ex,mG,mG0,sG,sG0,lG,lqq]
   refine zk8 (G:=G) h (U:=U) (V:=V) (by simp only[go_sem,seval,f7]) (by simp only[go_sem,seval,f9]) (by simp only[go_sem,seval,f10]) (by simp only[go_sem,seval,f11]) (by simp only[go_sem,seval,f12]) (by simp only[go_sem,seval,f13]) (by simp only[go_sem,seval]) (by simp only[go_sem,seval]) (by simp only[go_sem,seval]) (by simp only[go_sem,seval]) (by simp only[go_sem,seval]) (t1 _ _ rfl rfl) ?_
   intro fr' g lo' hi' e1 e2 e3 H g7 g9 g10 g11 g12 g13 g14 g15 gt
   by_cases hg:g=0
   ·have hg':(g=0)=True:=eq_true hg
    obtain⟨c1,c2,c3⟩:=gt hg hg
    obtain⟨d1,d2⟩:=te hE c1
    have cl:=ziV (x:=R) hu (d1.trans c2.symm) (d2.trans c3.symm)
    simp(disch:=omega)only[go_sem,seval,wqq,g7,g9,g10,g11,g12,g13,g14,g15,hg',cl,mG,mG0,sG,sG0,lG,lqq]
    exact ih (k+1) _ _ (by omega) ⟨by omega,by omega,by simp only[go_sem,seval,g7],by simp only[go_sem,seval,g9],by simp only[go_sem,seval,g10],by simp only[go_sem,seval,g11],by simp only[go_sem,seval,g12],by simp only[go_sem,seval];rw[Int.natCast_succ],lo',hi',_,_,_,_,_,_,rfl⟩
   ·have hg':(g=0)=False:=eq_false hg
    simp(disch:=omega)only[go_sem,seval,wqq,g7,g9,g10,g11,g12,g13,g14,g15,hg',mG,mG0,sG,sG0,lG,lqq]
    exact ih (k+1) _ _ (by omega) ⟨by omega,by omega,by simp only[go_sem,seval,g7],by simp only[go_sem,seval,g9],by simp only[go_sem,seval,g10],by simp only[go_sem,seval,g11],by simp only[go_sem,seval,g12],by simp only[go_sem,seval];rw[Int.natCast_succ],lo',hi',_,_,_,_,_,_,rfl⟩
  ·have hE':(E=0)=False:=eq_false hE
   simp(disch:=omega)only[go_sem,seval,wqq,f7,f9,f10,f11,f12,f13,q1,hE',mG,mG0,sG,sG0,lG,lqq]
   exact ih (k+1) _ _ (by omega) ⟨by omega,by omega,by simp only[go_sem,seval,f7],by simp only[go_sem,seval,f9],by simp only[go_sem,seval,f10],by simp only[go_sem,seval,f11],by simp only[go_sem,seval,f12],by simp only[go_sem,seval];rw[Int.natCast_succ],lo,hi,_,_,_,_,_,_,rfl⟩
 ·obtain rfl:k=4:=by omega
  have q1:(((4:Nat):Int)<4)=False:=by simp
  simp(disch:=omega)only[go_sem,seval,wqq,f7,f9,f10,f11,f12,f13,q1,mG,mG0,sG,sG0,lG,lqq]
  exact cont _ _
theorem zrv {a b:FQ} (h:(mkI a b).2=0):(mkI a b).1.lo.v=fdQ (if cmpF a b>0 then b else a)∧(mkI a b).1.hi.v=ceQ (if cmpF a b>0 then a else b):=by
 have key:∀c d:FQ,(mkSo c d).2=0→(mkSo c d).1.lo.v=fdQ c∧(mkSo c d).1.hi.v=ceQ d:=fun c d q=>by
  unfold mkSo at *
  split at q
  ·rename_i w
   rw[if_pos w]
   exact(zft q).2.2
  ·cases q
 unfold mkI at *
 split at h
 ·rename_i w
  rw[if_pos w,if_pos w,if_pos w];exact key _ _ h
 ·rename_i w
  rw[if_neg w,if_neg w,if_neg w];exact key _ _ h
theorem zop:pf E0 34 [.i .i64 1]=some (wiP wi1):=zcL (n:=1) (by decide)
set_option maxHeartbeats 4000000 in
theorem p_IvalTight {xs:List Int} (hx:Ints xs):pf E0 498 [ints xs]=some (.b true):=by
 have en:=zgX hx (i:=0) (by decide) (by decide)
 generalize enF xs 0=ab at *
 obtain⟨a,b⟩:=ab
 simp only at en
 have i1:=zdf hx (i:=5) (by decide) (by decide)
 have i2:=zdf hx (i:=10) (by decide) (by decide)
 have oa:=zlu xs 5
 have ob:=zlu xs 10
 generalize inI xs 5=U at *
 generalize inI xs 10=V at *
 have na:=zdd a
 have nb:=zdd b
 have mk:=zcO a b
 have fd:=zrv (a:=a) (b:=b)
 generalize mkI a b=X at *
 obtain⟨X,E⟩:=X
 simp only at mk fd
 have lv:=zkI
 have g1:=zop
 have g2:=f32
 have mu:=zlK wi1 w32
 obtain⟨z0,z1,z2⟩:=zkt (x:=wi1) (y:=w32) (by rw[zd4];decide)
 have hu:(makF wi1 w32).1.is 1 4294967296:=zfr (d:=4294967296) (by decide) z1 z2
 clear z1 z2
 generalize makF wi1 w32=W at *
 obtain⟨W,E2⟩:=W
 simp only at mu z0 hu
 subst z0
 have cm:=zbi a b
 have lo:=fun h=>(fd h).1
 have hi:=fun h=>(fd h).2
 have cl:=fun h=>ziV (x:=X) hu (lo h) (hi h)
 refine zaa (xf:=zwt) rfl (by simp[zwt]) ?_
 simp only[zwt]
 generalize w32=w at *
 obtain⟨s,hs⟩:∃s:Int,s=4294967296:=⟨_,rfl⟩
 rw[←hs] at g2
 simp(disch:=omega)only[go_sem,seval,wqq,en,na,nb,mk,g1]
 refine zag rfl ?_
 by_cases hE:E=0
 ·have hE':(E=0)=True:=eq_true hE
  have cl:=cl hE
  by_cases hc:cmpF a b>0
  ·rw[if_pos hc,if_pos hc] at cl
   have hc':(0<cmpF a b)=True:=eq_true hc
   simp(disch:=omega)only[go_sem,seval,wqq,en,na,nb,mk,g1,←hs,g2,mu,hE',cm,hc',cl,i1,i2]
   refine zhc oa ob hu (by simp only[go_sem,seval]) (by simp only[go_sem,seval]) (by simp only[go_sem,seval]) (by simp only[go_sem,seval]) (by simp only[go_sem,seval]) (by simp only[go_sem,seval]) ?_
   intro fr' M'
   simp(disch:=omega)only[go_sem,seval,wqq,lv]
  ·rw[if_neg hc,if_neg hc] at cl
   have hc':(0<cmpF a b)=False:=eq_false hc
   simp(disch:=omega)only[go_sem,seval,wqq,en,na,nb,mk,g1,←hs,g2,mu,hE',cm,hc',cl,i1,i2]
   refine zhc oa ob hu (by simp only[go_sem,seval]) (by simp only[go_sem,seval]) (by simp only[go_sem,seval]) (by simp only[go_sem,seval]) (by simp only[go_sem,seval]) (by simp only[go_sem,seval]) ?_
   intro fr' M'
   simp(disch:=omega)only[go_sem,seval,wqq,lv]
 ·have hE':(E=0)=False:=eq_false hE
  simp(disch:=omega)only[go_sem,seval,wqq,en,na,nb,mk,g1,←hs,g2,mu,hE',lv]
end Go.Eng
