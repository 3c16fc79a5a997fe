/- The engine and the contracts on which the statement stands: no conditions of its own. -/
import Derived.Test.YthjpijjeidddoaaGreatDoorMine6
set_option linter.unusedSimpArgs false
set_option linter.unusedVariables false
set_option linter.unusedSectionVars false
set_option maxRecDepth 10000
namespace Go.Eng
theorem no2 {α:Type} {a:α} {e:Int} {P:Prop} (h:(a,e).2=0) (n:¬e=0):P:=absurd h n
theorem no3 {α β:Type} {a:α} {b:β} {e:Int} {P:Prop} (h:(a,b,e).2.2=0) (n:¬e=0):P:=absurd h n
theorem zgO {n:Int} (h:Fits64 n) (e:(mkI (whQ n) (whQ n)).2=0):hasR (whI n) n 1:=zpZ h e
theorem zkh {n:Int} (h : -1073741824≤n∧n≤1073741824):(mkI (whQ n) (whQ n)).2=0:=by
 have f:Fits64 n:=by unfold Fits64;omega
 obtain⟨w1,w2⟩:=zp0 f
 have k:inK 64 n:=zoA f
 have e1:fdQ (whQ n)=n*4294967296:=by unfold fdQ;rw[w1,w2];exact Int.ediv_one _
 have e2:ceQ (whQ n)=n*4294967296:=by unfold ceQ ceI;rw[w1,w2,Int.ediv_one,Int.neg_neg]
 exact(zup (a:=whQ n) (b:=whQ n) (l:=n*4294967296) (h:=n*4294967296) (by rw[w1];exact f) (by rw[w2];decide) (by rw[w1];exact f) (by rw[w2];decide) (by rw[e1];unfold min2;split<;>rfl) (by rw[e2];unfold max2;split<;>rfl)).1
theorem zg9 {a b c:Int} (ha : -1073741824≤a∧a≤1073741824) (hb : -1073741824≤b∧b≤1073741824) (hc : -1073741824≤c∧c≤1073741824) {X Y:IV} {f g:FQ} (hf:ivHas X f) (hg:ivHas Y g) (h:(roS a b c X Y).2=0) :
  hasR (roS a b c X Y).1 (rwV a b c f.p.v f.q.v g.p.v g.q.v) (f.q.v*g.q.v):=by
 have qf:=f.q1
 have qg:=g.q1
 have fa:Fits64 a:=by unfold Fits64;omega
 have fb:Fits64 b:=by unfold Fits64;omega
 have fc:Fits64 c:=by unfold Fits64;omega
 have ra:=zgO fa (zkh ha)
 have rb:=zgO fb (zkh hb)
 have rc:=zgO fc (zkh hc)
 have hq:0<f.q.v*g.q.v:=Int.mul_pos (by omega) (by omega)
 unfold roS at *
 by_cases hA:(ivMul (whI a) X).2=0
 ·rw[if_pos hA] at h ⊢
  by_cases hB:(ivMul (whI b) Y).2=0
  ·rw[if_pos hB] at h ⊢
   have mA:=zxe (x:=whI a) (y:=X) (by decide) (show 0<f.q.v by omega) ra hf hA
   have mB:=zxe (x:=whI b) (y:=Y) (by decide) (show 0<g.q.v by omega) rb hg hB
   rw[Int.one_mul] at mA mB
   have mA:=zgN (show 0<g.q.v by omega) mA
   have mB:=zgN (show 0<f.q.v by omega) mB
   rw[Int.mul_comm g.q.v] at mB
   have mC:=zgN hq rc
   rw[Int.one_mul] at mC
   by_cases hS:(ivAdd (ivMul (whI a) X).1 (ivMul (whI b) Y).1).2=0
   ·rw[if_pos hS] at h ⊢
    have s:=zwO hq mA mB hS
    have t:=zwO hq s mC h
    have e:a*f.p.v*g.q.v+b*g.p.v*f.q.v+c*(f.q.v*g.q.v)=rwV a b c f.p.v f.q.v g.p.v g.q.v:=by unfold rwV;grind
    rw[e] at t;exact t
   ·rw[if_neg hS] at h;exact no2 h hS
  ·rw[if_neg hB] at h;exact no2 h hB
 ·rw[if_neg hA] at h;exact no2 h hA
theorem zue {x:FQ} {n d:Int} (h:x.is n d):x.is (sgA n d) (sgB d):=by
 unfold sgA sgB
 split
 ·unfold FQ.is at *;rw[Int.mul_neg,Int.neg_mul,h]
 ·exact h
theorem zjq {A C:IV} {n m d:Int} {x:FQ} (hd:0<d) (hC:C.ok) (h1:hasR A n d) (h2:hasR C m d) (h:(ivDiv A C).2=0) (hx:x.is n m):m≠0∧ivHas (ivDiv A C).1 x:=by
 obtain⟨n0,v1,v2⟩:=zjT h
 have hh:=zoi (x:=A) (y:=C) hd hd n0 hC h1.1 h1.2 h2.1 h2.2
 have hm:m≠0:=fun q=>zjL hd n0 h2.1 h2.2 (by rw[q];exact Int.zero_mul _)
 refine⟨hm,?_⟩
 rw[zjO (zfN hm) (zue hx),v1,v2]
 exact zjN (x:=⟨(ivDiv A C).1.lo,(ivDiv A C).1.hi,(ivDiv A C).1.l,(ivDiv A C).1.h⟩) (n:=sgA n m) (d:=sgB m) (k:=d) hd (by unfold hasR;rw[v1,v2];exact hh) |> fun w=>by unfold hasR at w;rw[v1,v2] at w;exact w
theorem zoQ {p:Nat→Int} (h:vlP p=0):∀e,e<9 → -1073741824≤p e∧p e≤1073741824:=by
 unfold vlP at h
 by_cases q:okP p
 ·exact q
 ·rw[if_neg q] at h;cases h
theorem zrW {p:Nat→Int} {X Y:IV} {f g:FQ} (hf:ivHas X f) (hg:ivHas Y g) (h:(pjE p X Y).2.2=0) (hn:aE p f g≠4) :
  aE p f g=0∧(∀x:FQ,x.is (rwF p 0 f g) (rwF p 2 f g)→ivHas (pjE p X Y).1 x)∧(∀x:FQ,x.is (rwF p 1 f g) (rwF p 2 f g)→ivHas (pjE p X Y).2.1 x):=by
 by_cases hv:vlP p=0
 ·have lim:=zoQ hv
  by_cases h0:(rwE p X Y 0).2=0
  ·by_cases h1:(rwE p X Y 1).2=0
   ·by_cases h2:(rwE p X Y 2).2=0
    ·have e:=zxU hv h0 h1 h2
     by_cases h3:(ivDiv (rwE p X Y 0).1 (rwE p X Y 2).1).2=0
     ·rw[if_pos h3] at e
      by_cases h4:(ivDiv (rwE p X Y 1).1 (rwE p X Y 2).1).2=0
      ·rw[if_pos h4] at e
       have hq:0<f.q.v*g.q.v:=Int.mul_pos (by have:=f.q1;omega) (by have:=g.q1;omega)
       have r0:hasR (rwE p X Y 0).1 (rwF p 0 f g) (f.q.v*g.q.v):=zg9 (lim 0 (by decide)) (lim 1 (by decide)) (lim 2 (by decide)) hf hg h0
       have r1:hasR (rwE p X Y 1).1 (rwF p 1 f g) (f.q.v*g.q.v):=zg9 (lim 3 (by decide)) (lim 4 (by decide)) (lim 5 (by decide)) hf hg h1
       have r2:hasR (rwE p X Y 2).1 (rwF p 2 f g) (f.q.v*g.q.v):=zg9 (lim 6 (by decide)) (lim 7 (by decide)) (lim 8 (by decide)) hf hg h2
       have ok:(rwE p X Y 2).1.ok:=zlb _ _ _
       have nz:rwF p 2 f g≠0:=by
        obtain⟨n0,_,_⟩:=zjT h3
        exact fun q=>zjL hq n0 r2.1 r2.2 (by rw[q];exact Int.zero_mul _)
       rw[e]
       dsimp only
       refine⟨?_,fun x hx=>(zjq hq ok r0 r2 h3 hx).2,fun x hx=>(zjq hq ok r1 r2 h4 hx).2⟩
       unfold aE at *
       rw[if_pos hv] at *
       by_cases hw:fw f∧fw g
       ·rw[if_pos hw,if_neg nz]
       ·rw[if_neg hw] at hn;exact absurd rfl hn
      ·rw[if_neg h4] at e;rw[e] at h;exact no3 h h4
     ·rw[if_neg h3] at e;rw[e] at h;exact no3 h h3
    ·rw[zrV hv h0 h1 h2] at h;exact no3 h h2
   ·rw[zrU hv h0 h1] at h;exact no3 h h1
  ·rw[zrT hv h0] at h;exact no3 h h0
 ·rw[zxV hv] at h;exact no3 h hv
noncomputable def pkQ (X Y:IV) (z:FQ) (e:Nat):FQ:=if e=0 then frQ X.lo else if e=1 then frQ Y.hi else if e=2 then frQ X.hi else if e=3 then frQ Y.lo else if e=4 then z else frQ Y.lo
noncomputable def pkC (P:Nat→FQ):List PV:=cg 6 (fun e=>qc (P e))
theorem zrX (X Y:IV) (z:FQ):[PV.b (decide ((frQ X.lo).p.v<0)),D (frQ X.lo).p.v.natAbs,.b (decide ((frQ X.lo).l.v<0)),D (frQ X.lo).l.v.natAbs,.b (decide ((frQ Y.hi).p.v<0)),D (frQ Y.hi).p.v.natAbs,.b (decide ((frQ Y.hi).l.v<0)),D (frQ Y.hi).l.v.natAbs,.b (decide ((frQ X.hi).p.v<0)),D (frQ X.hi).p.v.natAbs,.b (decide ((frQ X.hi).l.v<0)),D (frQ X.hi).l.v.natAbs,.b (decide ((frQ Y.lo).p.v<0)),D (frQ Y.lo).p.v.natAbs,.b (decide ((frQ Y.lo).l.v<0)),D (frQ Y.lo).l.v.natAbs,.b (decide (z.p.v<0)),D z.p.v.natAbs,.b (decide (z.l.v<0)),D z.l.v.natAbs,.b (decide ((frQ Y.lo).p.v<0)),D (frQ Y.lo).p.v.natAbs,.b (decide ((frQ Y.lo).l.v<0)),D (frQ Y.lo).l.v.natAbs]=pkC (pkQ X Y z):=_root_.id rfl
theorem zpx (P:Nat→FQ):(pkC P).length=24:=zja (k:=4) (fun _=>rfl) 6
theorem znL (P:Nat→FQ) {i k:Nat} (h:i<3) (hk:k<2):((pkC P).drop (i*8+k*4)).take 4=qc (P (i*2+k)):=by
 have:=zm5 (k:=4) (f:=fun e=>qc (P e)) (n:=6) (i:=i*2+k) (fun _=>rfl) (by omega)
 rw[show (i*2+k)*4=i*8+k*4 by omega] at this
 exact this
theorem zrY {X Y:IV} (hX:X.ok) (hY:Y.ok) (z:FQ) {k:Nat} (hk:k<3):ivHas Y (pkQ X Y z (k*2+1)):=by
 have hl:=zqQ hY
 have hh:=zqP hY
 obtain rfl|rfl|rfl:k=0∨k=1∨k=2:=by omega
 all_goals first|exact hl|exact hh
noncomputable def alC (Q:Nat→Nat→Int):List PV:=cg 3 (fun e=>cI (Q e))
theorem zgv (Q:Nat→Nat→Int):(alC Q).length=27:=zja (k:=9) (fun _=>rfl) 3
theorem zm4 (Q:Nat→Nat→Int) {i:Nat} (h:i<3):((alC Q).drop (i*9)).take 9=cI (Q i):=zm5 (k:=9) (f:=fun e=>cI (Q e)) (n:=3) (i:=i) (fun _=>rfl) h
theorem zql (p:Nat→Int):PV.ag (cI p)=pI p:=_root_.id rfl
noncomputable def viC (X Y:IV):List PV:=[.b (decide (X.lo.v<0)),D X.lo.v.natAbs,.b (decide (X.hi.v<0)),D X.hi.v.natAbs,.b (decide (Y.lo.v<0)),D Y.lo.v.natAbs,.b (decide (Y.hi.v<0)),D Y.hi.v.natAbs]
noncomputable def riC (X Y:IV):List PV:=[.b (decide (X.lo.v<0)),T X.lo.v.natAbs,.b (decide (X.hi.v<0)),T X.hi.v.natAbs,.b (decide (Y.lo.v<0)),T Y.lo.v.natAbs,.b (decide (Y.hi.v<0)),T Y.hi.v.natAbs]
theorem zhe (X Y:IV):(viC X Y).take 4=[.b (decide (X.lo.v<0)),D X.lo.v.natAbs,.b (decide (X.hi.v<0)),D X.hi.v.natAbs]:=_root_.id rfl
theorem zmV (X Y:IV):((viC X Y).drop 4).take 4=[.b (decide (Y.lo.v<0)),D Y.lo.v.natAbs,.b (decide (Y.hi.v<0)),D Y.hi.v.natAbs]:=_root_.id rfl
theorem zc0 (X Y:IV):(viC X Y).length=8:=_root_.id rfl
theorem zpH (X Y:IV):(riC X Y).take 4=[.b (decide (X.lo.v<0)),T X.lo.v.natAbs,.b (decide (X.hi.v<0)),T X.hi.v.natAbs]:=_root_.id rfl
theorem zsa (X Y:IV):((riC X Y).drop 4).take 4=[.b (decide (Y.lo.v<0)),T Y.lo.v.natAbs,.b (decide (Y.hi.v<0)),T Y.hi.v.natAbs]:=_root_.id rfl
theorem zg7 (X Y:IV):(riC X Y).length=8:=_root_.id rfl
set_option maxHeartbeats 8000000 in
theorem zqD {F:PFin} {ks:List KI} {Q:Nat→Nat→Int} (hQ:∀i e,Fits64 (Q i e)) {X Y:IV} (hY:Y.ok) {P:Nat→FQ} {at_:Int} {i:Nat} (hi:i<3) {m0 m2 m3 m4 m5 m6 m7 m8 m9 m10 m11 m12 m13 m14 m16:Option PB} {m20 m21 m22:Option PB} {e1 e15 e17 e18 e19 e23:Nat} {G:PM} {fr:PFr}
  (hp:∀k,k<3→ivHas Y (P (k*2+1))) (he:(pjE (Q i) X Y).2.2=0)
  (f2:fr 2=.i .i64 at_) (f10:fr 10=.sl 1 0 3 3 9) (f11:fr 11=.sl 15 0 2 2 4) (f12:fr 12=.sl 17 0 2 2 4) (f20:fr 20=(PV.i .i64 ((i:Nat):Int))) (f21:fr 21=.p (G.length+18) 0) (f22:fr 22=.p (G.length+19) 0) (f28:fr 28=.sl (G.length+23) 0 3 3 8) (f29:fr 29=(PV.i .i64 ((0:Nat):Int)))
  (cont:∀fr' H,fr' 2=.i .i64 at_→fr' 10=.sl 1 0 3 3 9→fr' 11=.sl 15 0 2 2 4→fr' 12=.sl 17 0 2 2 4→fr' 20=(PV.i .i64 ((i:Nat):Int))→UK E0 F (.exit 4) ks fr' (m0::some ⟨alC Q,true,e1⟩::m2::m3::m4::m5::m6::m7::m8::m9::m10::m11::m12::m13::m14::some ⟨viC X Y,true,e15⟩::m16::some ⟨riC X Y,true,e17⟩::(G++H))) :
  WK E0 F (.loop zAS) ks fr (m0::some ⟨alC Q,true,e1⟩::m2::m3::m4::m5::m6::m7::m8::m9::m10::m11::m12::m13::m14::some ⟨viC X Y,true,e15⟩::m16::some ⟨riC X Y,true,e17⟩::(G++(some ⟨(ivP (pjE (Q i) X Y).1).cells,true,e18⟩::some ⟨(ivP (pjE (Q i) X Y).2.1).cells,true,e19⟩::m20::m21::m22::some ⟨pkC P,true,e23⟩::[]))):=by
 refine zan zAS.eq_1 (fun(k:Nat) fr M=>k≤3∧fr 2=.i .i64 at_∧fr 10=.sl 1 0 3 3 9∧fr 11=.sl 15 0 2 2 4∧fr 12=.sl 17 0 2 2 4∧fr 20=(PV.i .i64 ((i:Nat):Int))∧fr 21=.p (G.length+18) 0∧fr 22=.p (G.length+19) 0∧fr 28=.sl (G.length+23) 0 3 3 8∧fr 29=(PV.i .i64 ((k:Nat):Int))∧∃e18 e19 e23 H,M=m0::some ⟨alC Q,true,e1⟩::m2::m3::m4::m5::m6::m7::m8::m9::m10::m11::m12::m13::m14::some ⟨viC X Y,true,e15⟩::m16::some ⟨riC X Y,true,e17⟩::(G++(some ⟨(ivP (pjE (Q i) X Y).1).cells,true,e18⟩::some ⟨(ivP (pjE (Q i) X Y).2.1).cells,true,e19⟩::m20::m21::m22::some ⟨pkC P,true,e23⟩::H))) (fun k=>3-k) ?_ 0 ⟨by omega,f2,f10,f11,f12,f20,f21,f22,f28,f29,e18,e19,e23,[],rfl⟩
 clear f2 f10 f11 f12 f20 f21 f22 f28 f29
 rintro k fr M ⟨hk,f2,f10,f11,f12,f20,f21,f22,f28,f29,e18,e19,e23,H,rfl⟩ ih
 rcases Nat.lt_or_ge k 3 with h|h
 ·have q1:((k:Int)<3)=True:=eq_true (by omega)
  have qL:(k<3)=True:=eq_true h
  have qI:(i<3)=True:=eq_true hi
  have t0:=znL P h (k:=0) (by decide)
  have t1:=znL P h (k:=1) (by decide)
  rw[Nat.zero_mul,Nat.add_zero,Nat.add_zero] at t0
  rw[Nat.one_mul] at t1
  have ll:=zpx P
  have b0:(k*8+4≤24)=True:=eq_true (by omega)
  have b1:(k*8+4+4≤24)=True:=eq_true (by omega)
  have ta:=zm4 Q hi
  have la:=zgv Q
  have b2:(i*9+9≤27)=True:=eq_true (by omega)
  have hg:=hp k h
  obtain⟨x,y,ap,av,_⟩:=zmi (hQ i) (P (k*2)) (P (k*2+1))
  have h1:=zg3 X (P (k*2))
  have pj:=fun hf hn=>zrW (p:=Q i) (X:=X) (Y:=Y) (f:=P (k*2)) (g:=P (k*2+1)) hf hg he hn
  have hx:=zg3 (pjE (Q i) X Y).1 x
  have hy:=zg3 (pjE (Q i) X Y).2.1 y
  generalize P (k*2)=f at *
  generalize P (k*2+1)=g at *
  generalize aE (Q i) f g=E at *
  by_cases hf:ivHas X f
  ·rw[decide_eq_true hf] at h1
   by_cases hn:E=4
   ·have hn':(E=4)=True:=eq_true hn
    simp(disch:=omega)only[go_sem,seval,wqq,f2,f10,f11,f12,f20,f21,f22,f28,f29,q1,qL,qI,zhe,zc0,zbg,t0,t1,ll,b0,b1,ta,la,b2,zwi,zql,h1,ap,hn',mG,mG0,sG,sG0,lG,lqq]
    exact ih (k+1) _ _ (by omega) ⟨by omega,f2,f10,f11,f12,f20,f21,f22,f28,tS _,_,_,_,_,rfl⟩
   ·have hn':(E=4)=False:=eq_false hn
    obtain⟨z,j1,j2⟩:=pj hf hn
    obtain⟨x1,y1,_⟩:=av z
    have z':(E=0)=True:=eq_true z
    rw[decide_eq_true (j1 x x1)] at hx
    rw[decide_eq_true (j2 y y1)] at hy
    simp(disch:=omega)only[go_sem,seval,wqq,f2,f10,f11,f12,f20,f21,f22,f28,f29,q1,qL,qI,zhe,zc0,zbg,t0,t1,ll,b0,b1,ta,la,b2,zwi,zql,h1,ap,hn',z',hx,hy,mG,mG0,sG,sG0,lG,lqq]
    exact ih (k+1) _ _ (by omega) ⟨by omega,f2,f10,f11,f12,f20,f21,f22,f28,tS _,_,_,_,_,rfl⟩
  ·rw[decide_eq_false hf] at h1
   simp(disch:=omega)only[go_sem,seval,wqq,f2,f10,f11,f12,f20,f21,f22,f28,f29,q1,qL,qI,zhe,zc0,zbg,t0,t1,ll,b0,b1,ta,la,b2,zwi,zql,h1,mG,mG0,sG,sG0,lG,lqq]
   exact ih (k+1) _ _ (by omega) ⟨by omega,f2,f10,f11,f12,f20,f21,f22,f28,tS _,_,_,_,_,rfl⟩
 ·obtain rfl:k=3:=by omega
  have q1:(((3:Nat):Int)<3)=False:=by simp
  simp(disch:=omega)only[go_sem,seval,wqq,f2,f10,f11,f12,f20,f21,f22,f28,f29,q1,mG,mG0,sG,sG0,lG,lqq]
  exact cont _ _ (f2) (f10) (f11) (f12) (f20)
set_option maxHeartbeats 8000000 in
theorem zqC {F:PFin} {ks:List KI} {Q:Nat→Nat→Int} (hQ:∀i e,Fits64 (Q i e)) {X Y:IV} (hX:X.ok) (hY:Y.ok) {at_:Int} (fa:Fits64 at_) {m0 m2 m3 m4 m5 m6 m7 m8 m9 m10 m11 m12 m13 m14 m16:Option PB} {e1 e15 e17:Nat} {G:PM} {fr:PFr}
  (f2:fr 2=.i .i64 at_) (f10:fr 10=.sl 1 0 3 3 9) (f11:fr 11=.sl 15 0 2 2 4) (f12:fr 12=.sl 17 0 2 2 4) (f20:fr 20=(PV.i .i64 ((0:Nat):Int)))
  (cont:∀fr' M',UK E0 F (.exit 2) ks fr' M') :
  WK E0 F (.loop zAW) ks fr (m0::some ⟨alC Q,true,e1⟩::m2::m3::m4::m5::m6::m7::m8::m9::m10::m11::m12::m13::m14::some ⟨viC X Y,true,e15⟩::m16::some ⟨riC X Y,true,e17⟩::G):=by
 have lo0:=zsU X
 have lo1:=zsU Y
 have hi0:=zsT X
 have hi1:=zsT Y
 have ins:=ziS X fa
 have io:=zgj (inF X at_)
 refine zan zAW.eq_1 (fun(i:Nat) fr M=>i≤3∧fr 2=.i .i64 at_∧fr 10=.sl 1 0 3 3 9∧fr 11=.sl 15 0 2 2 4∧fr 12=.sl 17 0 2 2 4∧fr 20=(PV.i .i64 ((i:Nat):Int))∧∃G,M=m0::some ⟨alC Q,true,e1⟩::m2::m3::m4::m5::m6::m7::m8::m9::m10::m11::m12::m13::m14::some ⟨viC X Y,true,e15⟩::m16::some ⟨riC X Y,true,e17⟩::G) (fun i=>3-i) ?_ 0 ⟨by omega,f2,f10,f11,f12,f20,G,rfl⟩
 clear f2 f10 f11 f12 f20 G
 rintro i fr M ⟨hi,f2,f10,f11,f12,f20,G,rfl⟩ ih
 rcases Nat.lt_or_ge i 3 with h|h
 ·have q1:((i:Int)<3)=True:=eq_true (by omega)
  have qI:(i<3)=True:=eq_true h
  have ta:=zm4 Q h
  have la:=zgv Q
  have b2:(i*9+9≤27)=True:=eq_true (by omega)
  have pe:=ziQ (hQ i) X Y
  have re:=ziR (hQ i) X Y
  have t1:=zeZ (pjE (Q i) X Y).1
  have t2:=zia (pjE (Q i) X Y).1
  have t3:=zeZ (pjE (Q i) X Y).2.1
  have t4:=zia (pjE (Q i) X Y).2.1
  by_cases hE:(pjE (Q i) X Y).2.2=0
  ·have hE':((pjE (Q i) X Y).2.2=0)=True:=eq_true hE
   simp(disch:=omega)only[go_sem,seval,wqq,f2,f10,f11,f12,f20,q1,qI,ta,la,b2,zql,zhe,zmV,zc0,zpH,zsa,zg7,zbg,pe,re,mG,mG0,sG,sG0,lG,lqq]
   refine zae rfl ?_
   simp(disch:=omega)only[go_sem,seval,wqq,f2,f10,f11,f12,f20,pe,re,t1,t2,t3,t4,zke,hE',zpH,zg7,ins,io,zhe,zmV,zc0,mG,mG0,sG,sG0,lG,lqq]
   refine zae rfl ?_
   simp(disch:=omega)only[go_sem,seval,wqq,f2,f10,f11,f12,f20,zhe,zmV,zc0,lo0,lo1,hi0,hi1,zai,zad,zrX,mG,mG0,sG,sG0,lG,lqq]
   refine zqD (G:=G) hQ hY h (P:=pkQ X Y (inF X at_)) (at_:=at_) (fun k hk=>zrY hX hY _ hk) hE (f2) (f10) (f11) (f12) (f20) (rfl) (rfl) (rfl) (rfl) ?_
   intro fr' H g2 g10 g11 g12 g20
   simp(disch:=omega)only[go_sem,seval,wqq,g2,g10,g11,g12,g20,mG,mG0,sG,sG0,lG,lqq]
   exact ih (i+1) _ _ (by omega) ⟨by omega,g2,g10,g11,g12,tS _,_,rfl⟩
  ·have hE':((pjE (Q i) X Y).2.2=0)=False:=eq_false hE
   simp(disch:=omega)only[go_sem,seval,wqq,f2,f10,f11,f12,f20,q1,qI,ta,la,b2,zql,zhe,zmV,zc0,zpH,zsa,zg7,zbg,pe,re,mG,mG0,sG,sG0,lG,lqq]
   refine zae rfl ?_
   simp(disch:=omega)only[go_sem,seval,wqq,f2,f10,f11,f12,f20,pe,re,t1,t2,t3,t4,zke,hE',mG,mG0,sG,sG0,lG,lqq]
   exact ih (i+1) _ _ (by omega) ⟨by omega,f2,f10,f11,f12,tS _,_,rfl⟩
 ·obtain rfl:i=3:=by omega
  have q1:(((3:Nat):Int)<3)=False:=by simp
  simp(disch:=omega)only[go_sem,seval,wqq,f2,f10,f11,f12,f20,q1,mG,mG0,sG,sG0,lG,lqq]
  exact cont _ _
def q3P (a b d:Nat→Int) (i:Nat):Nat→Int:=if i=0 then a else if i=1 then b else d
def z9P (_:Nat):Int:=0
theorem ztm (p:Nat→Int):psplice [PV.i .i64 0,PV.i .i64 0,PV.i .i64 0,PV.i .i64 0,PV.i .i64 0,PV.i .i64 0,PV.i .i64 0,PV.i .i64 0,PV.i .i64 0,PV.i .i64 0,PV.i .i64 0,PV.i .i64 0,PV.i .i64 0,PV.i .i64 0,PV.i .i64 0,PV.i .i64 0,PV.i .i64 0,PV.i .i64 0,PV.i .i64 0,PV.i .i64 0,PV.i .i64 0,PV.i .i64 0,PV.i .i64 0,PV.i .i64 0,PV.i .i64 0,PV.i .i64 0,PV.i .i64 0] 0 (cI p)=alC (q3P p z9P z9P):=_root_.id rfl
theorem ztn (p q:Nat→Int):psplice (alC (q3P p z9P z9P)) 9 (cI q)=alC (q3P p q z9P):=_root_.id rfl
theorem zto (p q r:Nat→Int):psplice (alC (q3P p q z9P)) 18 (cI r)=alC (q3P p q r):=_root_.id rfl
theorem zr6 {a b d:Nat→Int} (ha:∀e,Fits64 (a e)) (hb:∀e,Fits64 (b e)) (hd:∀e,Fits64 (d e)) (i e:Nat):Fits64 (q3P a b d i e):=by
 unfold q3P
 split
 ·exact ha e
 ·split
  ·exact hb e
  ·exact hd e
set_option maxHeartbeats 8000000 in
theorem p_ProjEncloses {xs ms:List Int} (hx:Ints xs) (hm:Ints ms) {at_ n:Int} (fa:Fits64 at_) (fn:Fits64 n):pf E0 327 [ints xs,ints ms,.i .i64 at_,.i .i64 n]=some (.b true):=by
 obtain⟨p,hp,gp⟩:=zpe hx
 obtain⟨q,hq,gq⟩:=zmw hp fa fn
 obtain⟨r,hr,gr⟩:=ziP hp fn
 have lv:=zkE
 have en0:=zh7 hm (i:=0) (by decide) (by decide)
 have en1:=zh7 hm (i:=8) (by decide) (by decide)
 generalize enF ms 0=F0 at *
 generalize enF ms 8=F1 at *
 obtain⟨a,b⟩:=F0
 obtain⟨c,d⟩:=F1
 simp only at en0 en1
 have oa:=zgj a
 have ob:=zgj b
 have oc:=zgj c
 have od:=zgj d
 have m0:=zfz a b
 have m1:=zfz c d
 have v0:=zfD a b
 have v1:=zfD c d
 have okX:=zj7 a b
 have okY:=zj7 c d
 generalize mkI a b=X at *
 generalize mkI c d=Y at *
 obtain⟨X,EX⟩:=X
 obtain⟨Y,EY⟩:=Y
 simp only at m0 m1 v0 v1 okX okY
 refine zaa (xf:=zAl) rfl (by simp[zAl]) ?_
 simp only[zAl]
 simp(disch:=omega)only[go_sem,seval,wqq,gp,gq,gr]
 refine zae rfl ?_
 simp(disch:=omega)only[go_sem,seval,wqq,gp,gq,gr,zai,zad,ztm,ztn,zto,zgv]
 refine zbj zAq.eq_1 ?_
 simp(disch:=omega)only[go_sem,seval,wqq,en0,oa,ob,m0]
 refine zae rfl ?_
 by_cases hX:EX=0
 ·have hX':(EX=0)=True:=eq_true hX
  simp(disch:=omega)only[go_sem,seval,wqq,en0,oa,ob,m0,v0,hX',appP,srcP,PM.rd,Option.map_some,zai,zad]
  refine zbj zAq.eq_1 ?_
  simp(disch:=omega)only[go_sem,seval,wqq,en1,oc,od,m1]
  refine zae rfl ?_
  by_cases hY:EY=0
  ·have hY':(EY=0)=True:=eq_true hY
   simp(disch:=omega)only[go_sem,seval,wqq,en1,oc,od,m1,v1,hY',appP,srcP,PM.rd,Option.map_some,zai,zad]
   refine zbj zAq.eq_1 ?_
   simp(disch:=omega)only[go_sem,seval,wqq]
   refine zqC (Q:=q3P p q r) (zr6 hp hq hr) okX okY fa (rfl) (rfl) (rfl) (rfl) (rfl) ?_
   intro fr' M'
   simp(disch:=omega)only[go_sem,seval,wqq,lv]
  ·have hY':(EY=0)=False:=eq_false hY
   simp(disch:=omega)only[go_sem,seval,wqq,en1,oc,od,m1,v1,hY',lv]
 ·have hX':(EX=0)=False:=eq_false hX
  simp(disch:=omega)only[go_sem,seval,wqq,en0,oa,ob,m0,v0,hX',lv]
end Go.Eng
