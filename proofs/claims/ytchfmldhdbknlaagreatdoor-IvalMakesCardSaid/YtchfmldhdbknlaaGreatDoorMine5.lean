/- The engine and the contracts on which the statement stands: no conditions of its own. -/
import Derived.Test.YtchfmldhdbknlaaGreatDoorMine4
set_option linter.unusedSimpArgs false
set_option linter.unusedVariables false
set_option linter.unusedSectionVars false
namespace Go.Eng
noncomputable def vc (x:IV):List PV:=[.b (decide (x.lo.v<0)),D x.lo.v.natAbs,.b (decide (x.hi.v<0)),D x.hi.v.natAbs]
structure VZ (L:List PV) (x:IV):Prop where
 len:L.length=4
 sc:L.all PV.scal=true
 fz:∀(M:PM) (d:Nat),fzL (fz M (d+1)) L=some (vc x,[])
def enT (U:Nat→IV) (r:IV×Int) (l:List Int):IV×Int:=l.foldl (fun r a=>if r.2=0 then ivMul r.1 (U a.toNat) else r) r
noncomputable def enX (c:Nat→Int) (U:Nat→IV) (i:Nat) (s:IV) (b:Bool):IV×Int :=
 if b=false∧(enT U (mkI (whQ (c i)) (whQ (c i))) (facL i)).2=0 then ivAdd s (enT U (mkI (whQ (c i)) (whQ (c i))) (facL i)).1 else enT U (mkI (whQ (c i)) (whQ (c i))) (facL i)
noncomputable def enS (c:Nat→Int) (U:Nat→IV):Nat→IV×Bool×Int
 | 0=>(ivZ,true,0)
 | i+1=>if (enS c U i).2.2≠0 then enS c U i else if c i=0 then enS c U i else
  if (enX c U i (enS c U i).1 (enS c U i).2.1).2=0 then ((enX c U i (enS c U i).1 (enS c U i).2.1).1,false,0) else (ivZ,true,(enX c U i (enS c U i).1 (enS c U i).2.1).2)
end Go.Eng
namespace Go.Eng
end Go.Eng
namespace Go.Eng
end Go.Eng
namespace Go.Eng
end Go.Eng
namespace Go.Eng
end Go.Eng
namespace Go.Eng
theorem z20:[PV.i .i64 0,PV.i .i64 0,PV.i .i64 0,PV.i .i64 0,PV.i .i64 0,PV.i .i64 0,PV.i .i64 0,PV.i .i64 0,PV.i .i64 0,PV.i .i64 0,PV.i .i64 0,PV.i .i64 0,PV.i .i64 0,PV.i .i64 0,PV.i .i64 0,PV.i .i64 0,PV.i .i64 0,PV.i .i64 0,PV.i .i64 0,PV.i .i64 0]=cs 20 zF:=rfl
end Go.Eng
namespace Go.Eng
end Go.Eng
namespace Go.Eng
def adV (X:Nat→Int):Nat→Int:=fun e=>mnV X (e%3) (e/3)
end Go.Eng
namespace Go.Eng
end Go.Eng
namespace Go.Eng
def isPF (E:PEnv):PV→Bool
 | .fn f _=>E.pure f
 | _=>false
def slotIn4 (E:PEnv) (ops:List XOper) (L V:List Nat) (c:Nat×Nat):Bool :=
 match ops[c.1]?,ops[c.2]? with
 | some a,some b =>
  match a.op with
  | .load _ _ (.t s)=>L.contains s&&(match b.op with | .callv (.t v) _=>V.contains v&&fixedX ops c.2 (.t v)|_=>calmOp E b.op)
  | _=>false
 | _,_=>false
end Go.Eng
namespace Go.Eng
def slarrB (m off n z:Nat) (lo hi:Option PV):Option PB→Option PV
 | some b=>if off+n*z≤b.v.length then slP z (.sl m off n n z) lo hi none else none
 | none=>none
def slarrP (M:PM) (n z:Nat) (lo hi:Option PV):PV→Option PV
 | .p m off=>slarrB m off n z lo hi (PM.blk M m)
 | .fp l=>if n*z≤l.length∧n*z≠0∧l.all PV.scal=true then slP z (.lst (group z n (l.take (n*z)))) lo hi none else none
 | _=>none
def rwV (a b c un ud vn vd:Int):Int:=a*un*vd+b*vn*ud+c*(ud*vd)
end Go.Eng
namespace Go.Eng
def q8 (a b c d e f g h:Int):PV:=.ag [.i .i64 a,.i .i64 b,.i .i64 c,.i .i64 d,.i .i64 e,.i .i64 f,.i .i64 g,.i .i64 h]
end Go.Eng
namespace Go.Eng
end Go.Eng
namespace Go.Eng
end Go.Eng
namespace Go.Eng
end Go.Eng
namespace Go.Eng
def rwF (p:Nat→Int) (i:Nat) (u v:FQ):Int:=rwV (p (3*i)) (p (3*i+1)) (p (3*i+2)) u.p.v u.q.v v.p.v v.q.v
end Go.Eng
namespace Go.Eng
def oneI:Nat→Int:=fun e=>if e%4=0 then 1 else 0
end Go.Eng
namespace Go.Eng
end Go.Eng
namespace Go.Eng
theorem hF (p:Nat→Int):PV.ag [.i .i64 (p 0),.i .i64 (p 1),.i .i64 (p 2),.i .i64 (p 3),.i .i64 (p 4),.i .i64 (p 5),.i .i64 (p 6),.i .i64 (p 7),.i .i64 (p 8)]=pI p:=rfl
def e9 (a b:Nat→Int):Bool:=a 0==b 0&&(a 1==b 1&&(a 2==b 2&&(a 3==b 3&&(a 4==b 4&&(a 5==b 5&&(a 6==b 6&&(a 7==b 7&&a 8==b 8)))))))
end Go.Eng
namespace Go.Eng
def gEnt (n d:Int):Int:=if n.tmod 6=1∨n.tmod 6 = -1 then (n.tdiv 6).tmod 8 else if n.tmod 6=2 then (n.tdiv 6).tmod 1000 else if n.tmod 6=3 then 1073741824-(n.tdiv 6).tmod 4 else d
def g0P:Nat→Int:=fun e=>if e=0 then 2 else if e=4 then 2 else if e=8 then 1 else 0
def gMix (ns:Nat→Int) (i:Nat):Nat→Int:=fun e=>if e<i then gEnt (ns e) (g0P e) else g0P e
theorem gk0 (ns:Nat→Int) (h:gEnt (ns 0) (g0P 0)=g0P 0):cI (gMix ns 0)=cI (gMix ns 1):=by
 have e:gMix ns 0=gMix ns 1:=by
  funext e
  unfold gMix
  by_cases q:e=0
  ·subst q;rw[if_neg (by decide),if_pos (by decide),h]
  ·by_cases r:e<0
   ·rw[if_pos r,if_pos (by omega)]
   ·rw[if_neg r,if_neg (by omega)]
 rw[e]
end Go.Eng
namespace Go.Eng
end Go.Eng
namespace Go.Eng
end Go.Eng
namespace Go.Eng
end Go.Eng
namespace Go.Eng
end Go.Eng
namespace Go.Eng
end Go.Eng
namespace Go.Eng
end Go.Eng
namespace Go.Eng
end Go.Eng
namespace Go.Eng
theorem zkm (xs:List Int) (i:Int):∃f:FQ,Ints xs→0≤i→i≤100→fsz 122 f∧pf E0 187 [ints xs,.i .i64 i]=some (rfQ f):=by
 by_cases h:Ints xs∧0≤i∧i≤100
 ·obtain⟨f,h1,h2⟩:=zjN h.1 h.2.1 h.2.2
  exact⟨f,fun _ _ _=>⟨h1,h2⟩⟩
 ·exact⟨fq0,fun a b c=>absurd ⟨a,b,c⟩ h⟩
noncomputable def frcF (xs:List Int) (i:Int):FQ:=(zkm xs i).choose
theorem zkC {xs:List Int} (hx:Ints xs) {i:Int} (h0:0≤i) (h1:i≤100):pf E0 187 [ints xs,.i .i64 i]=some (rfQ (frcF xs i)):=((zkm xs i).choose_spec hx h0 h1).2
end Go.Eng
set_option maxRecDepth 10000
namespace Go.Eng
noncomputable def smF (xs:List Int) (i:Int):FQ:=(makF (clip (pick xs i 1000000%401-200)) (clip (1+pick xs i 1000000/401%16))).1
theorem ziE {z:Int} (h : -1000000≤z∧z≤1000000):wlen z.natAbs≤512:=ziS (by unfold Fits64;omega)
theorem ze9 {xs:List Int} (hx:Ints xs) {i:Int} (hi:Fits64 i):pf E0 361 [ints xs,.i .i64 i]=some (rfQ (smF xs i)):=by
 have pk:=zkA hx hi (m:=1000000) (by decide) (by decide)
 have k0:=zdv xs i (m:=1000000) (by decide)
 have k1:=zin xs i (m:=1000000) (by decide)
 unfold smF
 generalize pick xs i 1000000=k at *
 have e1:k.tmod 401=k%401:=Int.tmod_eq_emod_of_nonneg k0
 have e2:k.tdiv 401=k/401:=Int.tdiv_eq_ediv_of_nonneg k0
 have e3:(k/401).tmod 16=k/401%16:=Int.tmod_eq_emod_of_nonneg (Int.ediv_nonneg k0 (by decide))
 have b1 : -200≤k%401-200∧k%401-200≤200:=by omega
 have b2:1≤1+k/401%16∧1+k/401%16≤16:=by omega
 have o1:=zc0 (k%401-200) (by unfold Fits64;omega)
 have o2:=zc0 (1+k/401%16) (by unfold Fits64;omega)
 have m:=zkE (clip (k%401-200)) (clip (1+k/401%16))
 rw[zbg (ziE (by omega)),zbg (ziE (by omega))] at m
 generalize makF (clip (k%401-200)) (clip (1+k/401%16))=R at *
 generalize hu:k%401-200=u at *
 generalize hv:1+k/401%16=v at *
 refine zaa (xf:=zvD) rfl (by simp[zvD]) ?_
 simp only[zvD]
 simp(disch:=omega)only[go_sem,seval,wqq,pk,e1,e2,e3,hu,hv,o1,o2,m]
noncomputable def enF (xs:List Int) (i:Int):FQ×FQ :=
 if pick xs i 1000000%4=0 then (frcF xs (i+1),frcF xs (i+3)) else if pick xs i 1000000%4=1 then (smF xs (i+1),smF xs (i+1)) else (smF xs (i+1),smF xs (i+2))
theorem zjP {xs:List Int} (hx:Ints xs) {i:Int} (h0:0≤i) (h1:i≤90):pf E0 344 [ints xs,.i .i64 i]=some (.tu [rfQ (enF xs i).1,rfQ (enF xs i).2]):=by
 have pk:=zkA hx (i:=i) (m:=1000000) (by unfold Fits64;omega) (by decide) (by decide)
 have k0:=zdv xs i (m:=1000000) (by decide)
 have k1:=zin xs i (m:=1000000) (by decide)
 have f1:=zkC hx (i:=i+1) (by omega) (by omega)
 have f2:=zkC hx (i:=i+3) (by omega) (by omega)
 have s1:=ze9 hx (i:=i+1) (by unfold Fits64;omega)
 have s2:=ze9 hx (i:=i+2) (by unfold Fits64;omega)
 unfold enF
 generalize pick xs i 1000000=k at *
 have e1:k.tmod 4=k%4:=Int.tmod_eq_emod_of_nonneg k0
 generalize frcF xs (i+1)=F1 at *
 generalize frcF xs (i+3)=F2 at *
 generalize smF xs (i+1)=S1 at *
 generalize smF xs (i+2)=S2 at *
 by_cases h:k%4=0
 ·rw[if_pos h]
  have q:(k%4=0)=True:=eq_true h
  refine zaa (xf:=zuF) rfl (by simp[zuF]) ?_
  simp only[zuF]
  simp(disch:=omega)only[go_sem,seval,wqq,pk,e1,q,f1,f2]
 ·rw[if_neg h]
  have q:(k%4=0)=False:=eq_false h
  by_cases h':k%4=1
  ·rw[if_pos h']
   have q':(k%4=1)=True:=eq_true h'
   refine zaa (xf:=zuF) rfl (by simp[zuF]) ?_
   simp only[zuF]
   simp(disch:=omega)only[go_sem,seval,wqq,pk,e1,q,q',s1]
   refine zeI [7] [4] rfl ?_ ?_
   ·simp(disch:=omega)only[go_sem,seval,wqq]
    exact⟨_,rfl,rfl⟩
   simp(disch:=omega)only[go_sem,seval,wqq]
  ·rw[if_neg h']
   have q':(k%4=1)=False:=eq_false h'
   refine zaa (xf:=zuF) rfl (by simp[zuF]) ?_
   simp only[zuF]
   simp(disch:=omega)only[go_sem,seval,wqq,pk,e1,q,q',s1]
   refine zai rfl ?_
   simp(disch:=omega)only[go_sem,seval,wqq,s2]
theorem zmb (f:FQ):pf E0 197 [.s (ftx f.p.v f.q.v)]=some (.tu [fqP f,.i .i64 0]):=zij f (by have:=zdm f;omega)
theorem zdd (f:FQ):pf E0 196 [rfQ f]=some (.s (ftx f.p.v f.q.v)):=zeu _ _ (by have:=zce f.p;omega) (by have:=zce f.q;omega)
theorem zkG (f:FQ):pf E0 500 [rfQ f]=some (fqP f):=by
 have h1:=zdd f
 have h2:=zmb f
 generalize ftx f.p.v f.q.v=t at *
 refine zaa (xf:=zvs) rfl (by simp[zvs]) ?_
 simp only[zvs]
 simp(disch:=omega)only[go_sem,seval,wqq,h1,h2]
theorem zii (x:IV):pf E0 501 [ivP x,rvP x]=some (.b true):=by
 have h1:=zcc x
 have h2:=zjQ x
 generalize ivTx x=t at *
 refine zaa (xf:=zvP) rfl (by simp[zvP]) ?_
 simp only[zvP]
 simp(disch:=omega)only[go_sem,seval,wqq]
 refine zai rfl ?_
 simp(disch:=omega)only[go_sem,seval,wqq,h1,h2,decide_true]
end Go.Eng
set_option maxRecDepth 10000
namespace Go.Eng
theorem zjp {z:Int} (h:Fits64 z):inK 64 z:=by
 unfold inK
 unfold Fits64 at h
 have:(2:Nat)^64=18446744073709551616:=by decide
 omega
theorem zjw {a b:FQ} {l h:Int} (f1:Fits64 a.p.v) (f2:Fits64 a.q.v) (f3:Fits64 b.p.v) (f4:Fits64 b.q.v) (hl:min2 (fdQ a) (fdQ b)=l) (hh:max2 (ceQ a) (ceQ b)=h):(mkI a b).2=0∧(mkI a b).1.lo.v=l∧(mkI a b).1.hi.v=h:=by
 have big:∀f:FQ,Fits64 f.p.v→inB (fdQ f)∧inB (ceQ f):=fun f hf=>by
  have hm:inK 97 (f.p.v*4294967296):=zhJ (zjp hf) znc (by decide)
  refine⟨zb8 (zkq hm (zb7 _ _)) (by decide),?_⟩
  have:inK 97 (-(f.p.v*4294967296)):=zfA.2 hm
  refine zb8 (i:=97) ?_ (by decide)
  unfold ceQ ceI
  rw[zfA]
  exact zkq this (zb7 _ _)
 have so:∀c d:FQ,Fits64 c.p.v→Fits64 c.q.v→Fits64 d.p.v→Fits64 d.q.v→(mkSo c d).2=0:=fun c d g1 g2 g3 g4=>by
  have il:∀{z:Int},Fits64 z→inL z:=fun q=>zb8 (zjp q) (by decide)
  unfold mkSo
  rw[if_pos ⟨il g1,il g2,il g3,il g4⟩]
  exact(zfC ⟨(big c g1).1,(big d g3).2⟩).1
 have z:(mkI a b).2=0:=by
  unfold mkI
  split
  ·exact so b a f3 f4 f1 f2
  ·exact so a b f1 f2 f3 f4
 obtain⟨v1,v2⟩:=zpY z
 exact⟨z,v1.trans hl,v2.trans hh⟩
theorem zji (x:WI):(frQ x).p.v=lowP x.v 4294967296∧(frQ x).q.v=lowQ x.v 4294967296:=by
 obtain⟨_,h1,h2⟩:=zpW (x:=x) (y:=w32) (by rw[zkb];decide)
 exact⟨h1,h2⟩
theorem zfB {x:IV} {l h p1 q1 p2 q2:Int} {s t:List UInt8} (hl:x.lo.v=l) (hh:x.hi.v=h) (e1:lowP l 4294967296=p1) (e2:lowQ l 4294967296=q1) (e3:lowP h 4294967296=p2) (e4:lowQ h 4294967296=q2) (hs:ftx p1 q1=s) (ht:ftx p2 q2=t) :
  ivTx x=[91]++s++[44,32]++t++[93]:=by
 unfold ivTx
 rw[(zji x.lo).1,(zji x.lo).2,(zji x.hi).1,(zji x.hi).2,hl,hh,e1,e2,e3,e4,hs,ht]
theorem zgR {f:FQ} {p q l h:Int} (hp:f.p.v=p) (hq:f.q.v=q) (e1:flI (p*4294967296) q=l) (e2:ceI (p*4294967296) q=h):fdQ f=l∧ceQ f=h:=by
 unfold fdQ ceQ
 rw[hp,hq];exact⟨e1,e2⟩
set_option maxHeartbeats 4000000 in
theorem zjJ:pf E0 502 []=some (.b true):=by
 obtain⟨o,o1,o2,_,fo⟩:=zgU (p:=1) (q:=1) (a:=1) (b:=1) (by decide) (by decide) (by decide) (by decide) (by decide) (zad (by decide)) (zad (by decide))
 obtain⟨t,t1,t2,_,ft⟩:=zgU (p:=1) (q:=3) (a:=1) (b:=3) (by decide) (by decide) (by decide) (by decide) (by decide) (zad (by decide)) (zad (by decide))
 obtain⟨h,h1,h2,_,fh⟩:=zgU (p:=1) (q:=2) (a:=1) (b:=2) (by decide) (by decide) (by decide) (by decide) (by decide) (zad (by decide)) (zad (by decide))
 obtain⟨w,w1,w2,_,fw⟩:=zgU (p:=2) (q:=1) (a:=2) (b:=1) (by decide) (by decide) (by decide) (by decide) (by decide) (zad (by decide)) (zad (by decide))
 obtain⟨u,u1,u2,_,fu⟩:=zgU (p:=4) (q:=1) (a:=4) (b:=1) (by decide) (by decide) (by decide) (by decide) (by decide) (zad (by decide)) (zad (by decide))
 obtain⟨v,v1,v2,_,fv⟩:=zgU (p:=8) (q:=1) (a:=8) (b:=1) (by decide) (by decide) (by decide) (by decide) (by decide) (zad (by decide)) (zad (by decide))
 obtain⟨to1,to2⟩:=zgR (l:=4294967296) (h:=4294967296) o1 o2 (by decide) (by decide)
 obtain⟨tt1,tt2⟩:=zgR (l:=1431655765) (h:=1431655766) t1 t2 (by decide) (by decide)
 obtain⟨th1,th2⟩:=zgR (l:=2147483648) (h:=2147483648) h1 h2 (by decide) (by decide)
 obtain⟨tw1,tw2⟩:=zgR (l:=8589934592) (h:=8589934592) w1 w2 (by decide) (by decide)
 obtain⟨tu1,tu2⟩:=zgR (l:=17179869184) (h:=17179869184) u1 u2 (by decide) (by decide)
 obtain⟨tv1,tv2⟩:=zgR (l:=34359738368) (h:=34359738368) v1 v2 (by decide) (by decide)
 have fi:∀{z n:Int},z=n→Fits64 n→Fits64 z:=fun h g=>h ▸ g
 obtain⟨a0,a1,a2⟩:=zjw (a:=h) (b:=h) (l:=2147483648) (h:=2147483648) (fi h1 (by decide)) (fi h2 (by decide)) (fi h1 (by decide)) (fi h2 (by decide)) (by rw[th1];decide) (by rw[th2];decide)
 obtain⟨b0,b1,b2⟩:=zjw (a:=t) (b:=t) (l:=1431655765) (h:=1431655766) (fi t1 (by decide)) (fi t2 (by decide)) (fi t1 (by decide)) (fi t2 (by decide)) (by rw[tt1];decide) (by rw[tt2];decide)
 obtain⟨c0,c1,c2⟩:=zjw (a:=o) (b:=w) (l:=4294967296) (h:=8589934592) (fi o1 (by decide)) (fi o2 (by decide)) (fi w1 (by decide)) (fi w2 (by decide)) (by rw[to1,tw1];decide) (by rw[to2,tw2];decide)
 obtain⟨d0,d1,d2⟩:=zjw (a:=v) (b:=u) (l:=17179869184) (h:=34359738368) (fi v1 (by decide)) (fi v2 (by decide)) (fi u1 (by decide)) (fi u2 (by decide)) (by rw[tv1,tu1];decide) (by rw[tv2,tu2];decide)
 have ma:=zic h
 have mb:=zic t
 have mc:=zdb o w
 have md:=zdb v u
 have dv:=zlZ (mkI o w).1 (mkI v u).1 (znj _ _)
 rw[a0] at ma
 rw[b0] at mb
 rw[c0] at mc
 rw[d0] at md
 generalize (mkI h h).1=A at *
 generalize (mkI t t).1=B at *
 generalize (mkI o w).1=C at *
 generalize (mkI v u).1=D at *
 have n0:¬has0 D:=by unfold has0;omega
 have el:divLo C D=536870912:=by unfold divLo;rw[c1,c2,d1,d2];decide
 have eh:divHi C D=2147483648:=by unfold divHi;rw[c1,c2,d1,d2];decide
 have eq:ivDiv C D=mdI 536870912 2147483648:=by unfold ivDiv;rw[if_neg n0,el,eh]
 obtain⟨q0,q1,q2⟩:=zfC (lo:=536870912) (hi:=2147483648) ⟨zb8 (zjp (by decide)) (by decide),zb8 (zjp (by decide)) (by decide)⟩
 rw[eq,q0] at dv
 generalize (mdI 536870912 2147483648).1=Q at *
 have k1:decI 1=[49]:=(zdk (v:=1) (n:=0) rfl (by decide) (by decide)).trans rfl
 have k2:decI 2=[50]:=(zdk (v:=2) (n:=0) rfl (by decide) (by decide)).trans rfl
 have k8:decI 8=[56]:=(zdk (v:=8) (n:=0) rfl (by decide) (by decide)).trans rfl
 have k3:decI 1431655765=[49,52,51,49,54,53,53,55,54,53]:=(zdk (v:=1431655765) (n:=9) rfl (by decide) (by decide)).trans rfl
 have k4:decI 4294967296=[52,50,57,52,57,54,55,50,57,54]:=(zdk (v:=4294967296) (n:=9) rfl (by decide) (by decide)).trans rfl
 have k5:decI 715827883=[55,49,53,56,50,55,56,56,51]:=(zdk (v:=715827883) (n:=8) rfl (by decide) (by decide)).trans rfl
 have k6:decI 2147483648=[50,49,52,55,52,56,51,54,52,56]:=(zdk (v:=2147483648) (n:=9) rfl (by decide) (by decide)).trans rfl
 have x12:ftx 1 2=[49,47,50]:=by unfold ftx;rw[if_neg (by decide),k1,k2];rfl
 have x18:ftx 1 8=[49,47,56]:=by unfold ftx;rw[if_neg (by decide),k1,k8];rfl
 have xb1:ftx 1431655765 4294967296=[49,52,51,49,54,53,53,55,54,53,47,52,50,57,52,57,54,55,50,57,54]:=by unfold ftx;rw[if_neg (by decide),k3,k4];rfl
 have xb2:ftx 715827883 2147483648=[55,49,53,56,50,55,56,56,51,47,50,49,52,55,52,56,51,54,52,56]:=by unfold ftx;rw[if_neg (by decide),k5,k6];rfl
 have sa:=zcc A
 have sb:=zcc B
 have sq:=zcc Q
 rw[zfB a1 a2 (p1:=1) (q1:=2) (p2:=1) (q2:=2) (by decide) (by decide) (by decide) (by decide) x12 x12] at sa
 rw[zfB b1 b2 (p1:=1431655765) (q1:=4294967296) (p2:=715827883) (q2:=2147483648) (by decide) (by decide) (by decide) (by decide) xb1 xb2] at sb
 rw[zfB q1 q2 (p1:=1) (q1:=8) (p2:=1) (q2:=2) (by decide) (by decide) (by decide) (by decide) x18 x12] at sq
 simp only[List.cons_append,List.nil_append] at sa sb sq
 clear a1 a2 b1 b2 c1 c2 d1 d2 q1 q2 h1 h2 t1 t2 o1 o2 w1 w2 u1 u2 v1 v2 to1 to2 tt1 tt2 th1 th2 tw1 tw2 tu1 tu2 tv1 tv2
 refine zaa (xf:=zvH) rfl (by simp[zvH]) ?_
 simp only[zvH]
 have hx:xs_8253e7=[91,49,52,51,49,54,53,53,55,54,53,47,52,50,57,52,57,54,55,50,57,54,44,32,55,49,53,56,50,55,56,56,51,47,50,49,52,55,52,56,51,54,52,56,93]:=rfl
 simp(disch:=omega)only[go_sem,seval,wqq,fo,ft,fh,fw,fu,fv,ma,mb,mc,md,dv,sa,sb,sq,hx,decide_true]
end Go.Eng
set_option maxRecDepth 10000
namespace Go.Eng
theorem p_IvalMakes {xs:List Int} (hx:Ints xs):pf E0 492 [ints xs]=some (.b true):=by
 have en:=zjP hx (i:=0) (by decide) (by decide)
 generalize (enF xs 0).1=a at *
 generalize (enF xs 0).2=b at *
 have na:=zkG a
 have nb:=zkG b
 have m1:=zdb a b
 have m2:=zgr a b
 have o1:=zic a
 have o2:=zgr a a
 generalize mkI a b=R at *
 generalize mkI a a=S at *
 have s1:=zii R.1
 have s2:=zii S.1
 have t1:=zce R.1.lo
 have t2:=zce R.1.hi
 have d1:=znR R.1.hi.v R.1.lo.v (by omega) (by omega)
 have fw:=zcz (wdI R.1)
 rw[zrS] at fw
 have l1:=zsp R.1
 have h1:=zso R.1
 have w1:=zlU R.1
 have fl:=zcz R.1.lo
 have fh:=zcz R.1.hi
 have lv:=zjJ
 generalize frQ (wdI R.1)=W at *
 generalize frQ R.1.lo=L at *
 generalize frQ R.1.hi=H at *
 have x1:=zby L
 have x2:=zby H
 have x3:=zby W
 have y1:=zdd L
 have y2:=zdd H
 have y3:=zdd W
 generalize R.1.hi.v-R.1.lo.v=dd at *
 generalize ftx L.p.v L.q.v=T1 at *
 generalize ftx H.p.v H.q.v=T2 at *
 generalize ftx W.p.v W.q.v=T3 at *
 refine zaa (xf:=zuY) rfl (by simp[zuY]) ?_
 simp only[zuY]
 simp(disch:=omega)only[go_sem,seval,wqq,en,na,nb,m1,m2,o1,o2]
 repeat
  refine zai rfl ?_
  simp(disch:=omega)only[go_sem,seval,wqq,en,na,nb,m1,m2,o1,o2,s1,s2,d1,fw,l1,h1,w1,fl,fh,lv,x1,x2,x3,y1,y2,y3,ne_eq,not_true_eq_false,decide_false,decide_true]
end Go.Eng
