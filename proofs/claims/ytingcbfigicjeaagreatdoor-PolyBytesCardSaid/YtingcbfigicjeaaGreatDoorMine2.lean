/- The engine and the contracts on which the statement stands: no conditions of its own. -/
import Derived.Test.YtingcbfigicjeaaGreatDoorMine1
set_option linter.unusedSimpArgs false
set_option linter.unusedVariables false
set_option linter.unusedSectionVars false
namespace Go.Eng
variable {E:PEnv} {F:PFin}
@[go_sem] theorem znO (fr:PFr) (d:Nat) (v:PV):fr.putO (some d) v=fr.put d v:=_root_.id rfl
@[go_sem] theorem znN (fr:PFr) (v:PV):fr.putO none v=fr:=_root_.id rfl
@[go_sem] theorem zlD (fr:PFr) (d:Nat) (v:PV) (k:Nat):fr.put d v k=if k=d then v else fr k:=_root_.id rfl
@[go_sem] theorem zmN (a:PV) (l:List PV):frOf (a::l) 0=a:=_root_.id rfl
@[go_sem] theorem zmM (a:PV) (l:List PV) (k:Nat):frOf (a::l) (k+1)=frOf l k:=_root_.id rfl
@[go_sem] theorem zou (k:Nat):frOf [] k=undefP:=_root_.id rfl
@[go_sem] theorem zs1 (G:Nat→Option (List AV)) (fr:PFr) (n:Nat):X.pv G fr (.t n)=fr n:=_root_.id rfl
@[go_sem] theorem zs0 (G:Nat→Option (List AV)) (fr:PFr) (v:AV):X.pv G fr (.k v)=cst G v:=_root_.id rfl
@[go_sem] theorem zst (G:Nat→Option (List AV)) (v:Bool):cst G (.b v)=.b v:=_root_.id rfl
@[go_sem] theorem zsu (G:Nat→Option (List AV)) (k:IntKind) (n:Int):cst G (.i k n)=.i k n:=_root_.id rfl
@[go_sem] theorem zsv (G:Nat→Option (List AV)) (l:List UInt8):cst G (.s l)=.s l:=_root_.id rfl
@[go_sem] theorem zqV (G:Nat→Option (List AV)):cst G .sn=.nl:=_root_.id rfl
@[go_sem] theorem zqU (G:Nat→Option (List AV)):cst G .pn=.pn:=_root_.id rfl
@[go_sem] theorem zoq (G:Nat→Option (List AV)):cst G .fnil=.fnil:=_root_.id rfl
@[go_sem] theorem zqR (v:Bool):cst0 (.b v)=.b v:=_root_.id rfl
@[go_sem] theorem zqS (k:IntKind) (n:Int):cst0 (.i k n)=.i k n:=_root_.id rfl
@[go_sem] theorem zqT (l:List UInt8):cst0 (.s l)=.s l:=_root_.id rfl
@[go_sem] theorem zpo:cst0 .sn=.nl:=_root_.id rfl
@[go_sem] theorem zrO (v:Bool):PV.scal (.b v)=true:=_root_.id rfl
@[go_sem] theorem zrP (k:IntKind) (n:Int):PV.scal (.i k n)=true:=_root_.id rfl
@[go_sem] theorem zrQ (l:List UInt8):PV.scal (.s l)=true:=_root_.id rfl
@[go_sem] theorem zqq (n o l c z:Nat):PV.scal (.sl n o l c z)=true:=_root_.id rfl
@[go_sem] theorem zoI (l:List PV):PV.scal (.lst l)=true:=_root_.id rfl
@[go_sem] theorem zqp:PV.scal .nl=true:=_root_.id rfl
@[go_sem] theorem zpg (v:Bool):PV.cells (.b v)=[.b v]:=_root_.id rfl
@[go_sem] theorem zph (k:IntKind) (n:Int):PV.cells (.i k n)=[.i k n]:=_root_.id rfl
@[go_sem] theorem zpi (l:List UInt8):PV.cells (.s l)=[.s l]:=_root_.id rfl
@[go_sem] theorem zop (n o l c z:Nat):PV.cells (.sl n o l c z)=[.sl n o l c z]:=_root_.id rfl
@[go_sem] theorem zmo (l:List PV):PV.cells (.lst l)=[.lst l]:=_root_.id rfl
@[go_sem] theorem zoo (l:List PV):PV.cells (.ag l)=l:=_root_.id rfl
@[go_sem] theorem zoj (p:PV→Bool):[].all p=true:=_root_.id rfl
@[go_sem] theorem zmc (p:PV→Bool) (a:PV) (l:List PV):(a::l).all p=(p a&&l.all p):=_root_.id rfl
@[go_sem] theorem ziF (b:Option PB) (M:PM):PM.blk (b::M) 0=b:=by cases b<;>rfl
@[go_sem] theorem zdS (b:Option PB) (M:PM) (n:Nat):PM.blk (b::M) (n+1)=PM.blk M n:=_root_.id rfl
@[go_sem] theorem zqj (l:List PV):pickP true l=some (.ag l):=_root_.id rfl
section
variable (d:Option Nat) (af:List Nat) (l:List XOper) (ks:List KI) (fr:PFr) (M:PM)
@[go_sem] theorem zsj (x:X):WL E F (⟨d,.mov x,af,none⟩::l) ks fr M=WL E F l ks (fr.putO d (x.pv E.glob fr)) M:=by rw[zaE];exact zfz ..
@[go_sem] theorem zr6 (op:BinOp) (x y:X):WL E F (⟨d,.bin op x y,af,none⟩::l) ks fr M=WV1 E F (binP op (x.pv E.glob fr) (y.pv E.glob fr)) d l ks fr M:=by rw[zaE];exact zaK ..
@[go_sem] theorem zsP (op:UnOp) (x:X):WL E F (⟨d,.un op x,af,none⟩::l) ks fr M=WV1 E F (unP op (x.pv E.glob fr)) d l ks fr M:=by rw[zaE];exact zaK ..
def boolP (ne:Bool):Option Bool→Option PV
 | some v=>some (.b (if ne then !v else v))
 | none=>none
@[go_sem] theorem zpe (v:Bool):boolP false (some v)=some (.b v):=_root_.id rfl
@[go_sem] theorem zpf (v:Bool):boolP true (some v)=some (.b (!v)):=_root_.id rfl
@[go_sem] theorem zsb (ne:Bool) (c:Nat) (x y:X):WL E F (⟨d,.eqt ne c x y,af,none⟩::l) ks fr M=WV1 E F (boolP ne (eqTP c (x.pv E.glob fr) (y.pv E.glob fr))) d l ks fr M:=by
 rw[zaE,←zaK]
 have:XO.pst E.glob (pcl E) fr M (.eqt ne c x y)=(boolP ne (eqTP c (x.pv E.glob fr) (y.pv E.glob fr))).map fun v=>(v,M):=by
  show (eqTP c (x.pv E.glob fr) (y.pv E.glob fr)).map _=_
  cases eqTP c (x.pv E.glob fr) (y.pv E.glob fr)<;>rfl
 rw[this]
def eqaP (ks:List Nat):PV→PV→Option Bool
 | .ag xs,.ag ys=>eqCellsP ks xs ys
 | _,_=>none
@[go_sem] theorem zsa (ne:Bool) (c:List Nat) (x y:X):WL E F (⟨d,.eqa ne c x y,af,none⟩::l) ks fr M=WV1 E F (boolP ne (eqaP c (x.pv E.glob fr) (y.pv E.glob fr))) d l ks fr M:=by
 rw[zaE,←zaK]
 have:XO.pst E.glob (pcl E) fr M (.eqa ne c x y)=(boolP ne (eqaP c (x.pv E.glob fr) (y.pv E.glob fr))).map fun v=>(v,M):=by
  simp only[XO.pst,XO.pev]
  generalize x.pv E.glob fr=a
  generalize y.pv E.glob fr=b
  cases a<;>cases b<;>simp only[eqaP]<;>first|rfl|(rename_i xs ys;cases eqCellsP c xs ys<;>rfl)
 rw[this]
def cintP (k:IntKind):PV→Option PV
 | .i _ n=>some (.i k (k.wrap n))
 | _=>none
@[go_sem] theorem zpj (k k':IntKind) (n:Int):cintP k (.i k' n)=some (.i k (k.wrap n)):=_root_.id rfl
@[go_sem] theorem zqI (k:IntKind) (x:X):WL E F (⟨d,.cint k x,af,none⟩::l) ks fr M=WV1 E F (cintP k (x.pv E.glob fr)) d l ks fr M:=by
 rw[zaE,←zaK]
 have:XO.pst E.glob (pcl E) fr M (.cint k x)=(cintP k (x.pv E.glob fr)).map fun v=>(v,M):=by
  simp only[XO.pst,XO.pev]
  cases x.pv E.glob fr<;>rfl
 rw[this]
def lenP:PV→Option PV
 | .sl _ _ ln _ _=>some (.i .i64 ln)
 | .nl=>some (.i .i64 0)
 | .lst xs=>some (.i .i64 xs.length)
 | _=>none
@[go_sem] theorem zpF (n o ln c z:Nat):lenP (.sl n o ln c z)=some (.i .i64 ln):=_root_.id rfl
@[go_sem] theorem zpE:lenP .nl=some (.i .i64 0):=_root_.id rfl
@[go_sem] theorem zoy (xs:List PV):lenP (.lst xs)=some (.i .i64 xs.length):=_root_.id rfl
@[go_sem] theorem zsh (x:X):WL E F (⟨d,.len x,af,none⟩::l) ks fr M=WV1 E F (lenP (x.pv E.glob fr)) d l ks fr M:=by
 rw[zaE,←zaK]
 have:XO.pst E.glob (pcl E) fr M (.len x)=(lenP (x.pv E.glob fr)).map fun v=>(v,M):=by
  simp only[XO.pst,XO.pev]
  cases x.pv E.glob fr<;>rfl
 rw[this]
def lensP:PV→Option PV
 | .s l=>some (.i .i64 l.length)
 | _=>none
@[go_sem] theorem zpG (l:List UInt8):lensP (.s l)=some (.i .i64 l.length):=_root_.id rfl
@[go_sem] theorem zqK (x:X):WL E F (⟨d,.lens x,af,none⟩::l) ks fr M=WV1 E F (lensP (x.pv E.glob fr)) d l ks fr M:=by
 rw[zaE,←zaK]
 have:XO.pst E.glob (pcl E) fr M (.lens x)=(lensP (x.pv E.glob fr)).map fun v=>(v,M):=by
  simp only[XO.pst,XO.pev]
  cases x.pv E.glob fr<;>rfl
 rw[this]
def pickB (a b:PV):PV→Option PV
 | .b v=>some (if v then a else b)
 | _=>none
@[go_sem] theorem zqi (a b:PV):pickB a b (.b true)=some a:=_root_.id rfl
@[go_sem] theorem zqh (a b:PV):pickB a b (.b false)=some b:=_root_.id rfl
@[go_sem] theorem zqL (c x y:X):WL E F (⟨d,.pick c x y,af,none⟩::l) ks fr M=WV1 E F (pickB (x.pv E.glob fr) (y.pv E.glob fr) (c.pv E.glob fr)) d l ks fr M:=by
 rw[zaE,←zaK]
 have:XO.pst E.glob (pcl E) fr M (.pick c x y)=(pickB (x.pv E.glob fr) (y.pv E.glob fr) (c.pv E.glob fr)).map fun v=>(v,M):=by
  simp only[XO.pst,XO.pev]
  cases c.pv E.glob fr<;>rfl
 rw[this]
@[go_sem] theorem zsi (f:Nat) (xs:List X):WL E F (⟨d,.mfn f xs,af,none⟩::l) ks fr M=WL E F l ks (fr.putO d (.fn f (xs.map (X.pv E.glob fr)))) M:=by rw[zaE];exact zfz ..
def fadP (off:Nat):PV→Option PV
 | .p m o=>some (.p m (o+off))
 | .fp l=>some (.fp (l.drop off))
 | _=>none
@[go_sem] theorem zqY (off m o:Nat):fadP off (.p m o)=some (.p m (o+off)):=_root_.id rfl
@[go_sem] theorem zpq (off:Nat) (xs:List PV):fadP off (.fp xs)=some (.fp (xs.drop off)):=_root_.id rfl
@[go_sem] theorem zsd (off:Nat) (x:X):WL E F (⟨d,.fad off x,af,none⟩::l) ks fr M=WV1 E F (fadP off (x.pv E.glob fr)) d l ks fr M:=by
 rw[zaE,←zaK]
 have:XO.pst E.glob (pcl E) fr M (.fad off x)=(fadP off (x.pv E.glob fr)).map fun v=>(v,M):=by
  simp only[XO.pst,XO.pev]
  cases x.pv E.glob fr<;>rfl
 rw[this]
def fldP (agg:Bool) (off n:Nat):PV→Option PV
 | .ag l=>if off+n≤l.length then pickP agg ((l.drop off).take n) else none
 | _=>none
def extP (n:Nat):PV→Option PV
 | .tu l=>l[n]?
 | _=>none
@[go_sem] theorem zpp (n:Nat) (xs:List PV):extP n (.tu xs)=xs[n]?:=_root_.id rfl
@[go_sem] theorem zsc (x:X) (n:Nat):WL E F (⟨d,.ext x n,af,none⟩::l) ks fr M=WV1 E F (extP n (x.pv E.glob fr)) d l ks fr M:=by
 rw[zaE,←zaK]
 have:XO.pst E.glob (pcl E) fr M (.ext x n)=(extP n (x.pv E.glob fr)).map fun v=>(v,M):=by
  simp only[XO.pst,XO.pev]
  cases x.pv E.glob fr<;>rfl
 rw[this]
@[go_sem] theorem zsO (mx:Bool) (x:X) (xs:List X):WL E F (⟨d,.mm mx x xs,af,none⟩::l) ks fr M=WV1 E F (mmP mx (x.pv E.glob fr) (xs.map (X.pv E.glob fr))) d l ks fr M:=by rw[zaE];exact zaK ..
@[go_sem] theorem zoQ (z:List AV) (ps:List (Nat×Nat×X)):WL E F (⟨d,.build z ps,af,none⟩::l) ks fr M=WV1 E F ((fillP E.glob fr (z.map cst0) ps).map .ag) d l ks fr M:=by
 rw[zaE,←zaK]
 have:XO.pst E.glob (pcl E) fr M (.build z ps)=((fillP E.glob fr (z.map cst0) ps).map .ag).map fun v=>(v,M):=by
  simp only[XO.pst,XO.pev,Option.map_map]
  rfl
 rw[this]
@[go_sem] theorem zor (G:Nat→Option (List AV)) (z:List PV):fillP G fr z []=some z:=_root_.id rfl
def fill1 (z:List PV) (off:Nat):List PV→Option (List PV)
 | [c]=>if off<z.length∧c.scal=true then some (z.set off c) else none
 | _=>none
@[go_sem] theorem zmK (z:List PV) (off:Nat) (c:PV):fill1 z off [c]=if off<z.length∧c.scal=true then some (z.set off c) else none:=_root_.id rfl
def fillB (G:Nat→Option (List AV)) (ps:List (Nat×Nat×X)):Option (List PV)→Option (List PV)
 | some z=>fillP G fr z ps
 | none=>none
@[go_sem] theorem zl6 (G:Nat→Option (List AV)) (z:List PV) (ps:List (Nat×Nat×X)):fillB fr G ps (some z)=fillP G fr z ps:=_root_.id rfl
theorem zii (z:List PV) (off:Nat) (x:PV) (h:off<z.length):psplice z off [x]=z.set off x:=by
 rw[List.set_eq_take_append_cons_drop,if_pos h]
 simp[psplice]
@[go_sem] theorem zos (G:Nat→Option (List AV)) (z:List PV) (off:Nat) (x:X) (ps:List (Nat×Nat×X)):fillP G fr z ((off,(1,x))::ps)=fillB fr G ps (fill1 z off (x.pv G fr).cells):=by
 simp only[fillP]
 generalize hv:(x.pv G fr).cells=cs
 match cs,hv with
 | [c],hv =>
  simp only[fill1,List.length_cons,List.length_nil,Nat.zero_add,List.all_cons,List.all_nil,Bool.and_true,true_and]
  by_cases h:off<z.length∧c.scal=true
  ·rw[if_pos h,if_pos ⟨by omega,h.2⟩,zii _ _ _ h.1];rfl
  ·rw[if_neg h,if_neg (fun q=>h ⟨by omega,q.2⟩)];rfl
 | [],hv=>simp only[fill1];rw[if_neg (by simp)];rfl
 | _::_::_,hv=>simp only[fill1];rw[if_neg (by simp)];rfl
end
section
variable (d:Option Nat) (af:List Nat) (l:List XOper) (ks:List KI) (fr:PFr) (M:PM)
def idxP (sz:Nat):PV→Option Nat→Option PV
 | .sl m off ln _ z,some j=>if j<ln∧z=sz then some (.p m (off+j*sz)) else none
 | .lst xs,some j=>match xs[j]? with|some y=>if y.cells.length=sz then some (.fp y.cells) else none|none=>none
 | _,_=>none
@[go_sem] theorem zpB (sz m off ln c z j:Nat):idxP sz (.sl m off ln c z) (some j)=if j<ln∧z=sz then some (.p m (off+j*sz)) else none:=_root_.id rfl
def idx1 (sz:Nat):Option PV→Option PV
 | some y=>if y.cells.length=sz then some (.fp y.cells) else none
 | none=>none
@[go_sem] theorem zmQ (sz:Nat) (y:PV):idx1 sz (some y)=if y.cells.length=sz then some (.fp y.cells) else none:=_root_.id rfl
@[go_sem] theorem zfU (sz j:Nat) (xs:List PV):idxP sz (.lst xs) (some j)=idx1 sz xs[j]?:=by
 show (match xs[j]? with|some y=>if y.cells.length=sz then some (PV.fp y.cells) else none|none=>none)=_
 cases xs[j]?<;>rfl
@[go_sem] theorem zsg (sz:Nat) (x i:X):WL E F (⟨d,.ixs sz x i,af,none⟩::l) ks fr M=WV1 E F (idxP sz (x.pv E.glob fr) (asNP (i.pv E.glob fr))) d l ks fr M:=by
 rw[zaE,←zaK]
 have:XO.pst E.glob (pcl E) fr M (.ixs sz x i)=(idxP sz (x.pv E.glob fr) (asNP (i.pv E.glob fr))).map fun v=>(v,M):=by
  simp only[XO.pst,XO.pev]
  generalize x.pv E.glob fr=a
  generalize asNP (i.pv E.glob fr)=b
  cases a with
  | sl m off ln c z =>
   cases b with
   | none=>rfl
   | some j=>simp only[idxP];split<;>rfl
  | lst xs =>
   cases b with
   | none=>rfl
   | some j =>
    simp only[idxP]
    cases xs[j]? with
    | none=>rfl
    | some y=>simp only;split<;>rfl
  | _=>cases b<;>rfl
 rw[this]
@[go_sem] theorem zcD (k:IntKind) (n:Nat):asNP (.i k (n:Int))=some n:=by simp[asNP,asIP]
@[go_sem] theorem zdQ (k:IntKind) (n:Nat) [OfNat Int n]:asNP (.i k (no_index (OfNat.ofNat n)))=if 0≤(OfNat.ofNat n:Int) then some (OfNat.ofNat n:Int).toNat else none:=by simp[asNP,asIP]
def ixaP (ln sz:Nat):PV→Option Nat→Option PV
 | .p m off,some j=>if j<ln then some (.p m (off+j*sz)) else none
 | .fp l,some j=>if j<ln then some (.fp (l.drop (j*sz))) else none
 | _,_=>none
@[go_sem] theorem zq4 (ln sz m off j:Nat):ixaP ln sz (.p m off) (some j)=if j<ln then some (.p m (off+j*sz)) else none:=_root_.id rfl
@[go_sem] theorem zpC (ln sz j:Nat) (xs:List PV):ixaP ln sz (.fp xs) (some j)=if j<ln then some (.fp (xs.drop (j*sz))) else none:=_root_.id rfl
@[go_sem] theorem zsf (ln sz:Nat) (x i:X):WL E F (⟨d,.ixa ln sz x i,af,none⟩::l) ks fr M=WV1 E F (ixaP ln sz (x.pv E.glob fr) (asNP (i.pv E.glob fr))) d l ks fr M:=by
 rw[zaE,←zaK]
 have:XO.pst E.glob (pcl E) fr M (.ixa ln sz x i)=(ixaP ln sz (x.pv E.glob fr) (asNP (i.pv E.glob fr))).map fun v=>(v,M):=by
  simp only[XO.pst,XO.pev]
  generalize x.pv E.glob fr=a
  generalize asNP (i.pv E.glob fr)=b
  cases a<;>cases b<;>simp only[ixaP]<;>first|rfl|(split<;>rfl)
 rw[this]
def iagP (ln:Nat) (agg:Bool) (sz:Nat):PV→Option Nat→Option PV
 | .ag l,some j=>if j<ln∧l.length=ln*sz then pickP agg ((l.drop (j*sz)).take sz) else none
 | _,_=>none
@[go_sem] theorem zc7 (ln:Nat) (agg:Bool) (sz j:Nat) (xs:List PV):iagP ln agg sz (.ag xs) (some j)=if j<ln∧xs.length=ln*sz then pickP agg ((xs.drop (j*sz)).take sz) else none:=_root_.id rfl
@[go_sem] theorem zse (ln:Nat) (agg:Bool) (sz:Nat) (x i:X):WL E F (⟨d,.iag ln agg sz x i,af,none⟩::l) ks fr M=WV1 E F (iagP ln agg sz (x.pv E.glob fr) (asNP (i.pv E.glob fr))) d l ks fr M:=by
 rw[zaE,←zaK]
 have:XO.pst E.glob (pcl E) fr M (.iag ln agg sz x i)=(iagP ln agg sz (x.pv E.glob fr) (asNP (i.pv E.glob fr))).map fun v=>(v,M):=by
  simp only[XO.pst,XO.pev]
  generalize x.pv E.glob fr=a
  generalize asNP (i.pv E.glob fr)=b
  cases a<;>cases b<;>simp only[iagP]<;>first|rfl|(split<;>rfl)
 rw[this]
def istrP:PV→Option Nat→Option PV
 | .s l,some j=>(l[j]?).map fun c=>.i .u8 c.toNat
 | _,_=>none
@[go_sem] theorem zkV (bs:List UInt8) (j:Nat):istrP (.s bs) (some j)=(bs[j]?).map fun c=>.i .u8 c.toNat:=_root_.id rfl
@[go_sem] theorem zqJ (x i:X):WL E F (⟨d,.istr x i,af,none⟩::l) ks fr M=WV1 E F (istrP (x.pv E.glob fr) (asNP (i.pv E.glob fr))) d l ks fr M:=by
 rw[zaE,←zaK]
 have:XO.pst E.glob (pcl E) fr M (.istr x i)=(istrP (x.pv E.glob fr) (asNP (i.pv E.glob fr))).map fun v=>(v,M):=by
  simp only[XO.pst,XO.pev]
  generalize x.pv E.glob fr=a
  generalize asNP (i.pv E.glob fr)=b
  cases a<;>cases b<;>simp only[istrP,Option.map_map]<;>rfl
 rw[this]
def ld1 (M:PM):PV→Option PV
 | .p m off=>match PM.blk M m with|some b=>b.v[off]?|none=>none
 | .fp l=>l[0]?
 | _=>none
def blkV (off:Nat):Option PB→Option PV
 | some b=>b.v[off]?
 | none=>none
@[go_sem] theorem zmk (off:Nat) (b:PB):blkV off (some b)=b.v[off]?:=_root_.id rfl
@[go_sem] theorem zsC (m off:Nat):ld1 M (.p m off)=blkV off (PM.blk M m):=by
 show (match PM.blk M m with|some b=>b.v[off]?|none=>none)=_
 cases PM.blk M m<;>rfl
@[go_sem] theorem zq5 (xs:List PV):ld1 M (.fp xs)=xs[0]?:=_root_.id rfl
theorem zk1 (xs:List PV) (off:Nat):(if off+1≤xs.length then some ((xs.drop off).take 1) else none).bind (pickP false)=xs[off]?:=by
 by_cases h:off<xs.length
 ·rw[if_pos (by omega),List.drop_eq_getElem_cons h,List.getElem?_eq_getElem h];rfl
 ·rw[if_neg (by omega),List.getElem?_eq_none (by omega)];rfl
@[go_sem] theorem zoT (x:X):WL E F (⟨d,.load false 1 x,af,none⟩::l) ks fr M=WV1 E F (ld1 M (x.pv E.glob fr)) d l ks fr M:=by
 rw[zaE,←zaK]
 have:XO.pst E.glob (pcl E) fr M (.load false 1 x)=(ld1 M (x.pv E.glob fr)).map fun v=>(v,M):=by
  simp only[XO.pst,XO.pev]
  generalize x.pv E.glob fr=a
  cases a with
  | p m off =>
   simp only[ld1,PM.rd]
   cases PM.blk M m with
   | none=>rfl
   | some b =>
    simp only
    have:=zk1 b.v off
    rw[←this]
    split
    ·rename_i l' hl
     rw[hl];rfl
    ·rename_i hl
     rw[hl];rfl
  | fp xs =>
   simp only[ld1]
   cases xs with
   | nil=>rfl
   | cons y ys=>simp[pickP,oneP]
  | _=>rfl
 rw[this]
def ldN (M:PM) (n:Nat):PV→Option PV
 | .p m off=>match PM.blk M m with|some b=>if off+n≤b.v.length then some (.ag ((b.v.drop off).take n)) else none|none=>none
 | .fp l=>if n≤l.length∧n≠0 then some (.ag (l.take n)) else none
 | _=>none
def blkN (off n:Nat):Option PB→Option PV
 | some b=>if off+n≤b.v.length then some (.ag ((b.v.drop off).take n)) else none
 | none=>none
@[go_sem] theorem zmi (off n:Nat) (b:PB):blkN off n (some b)=if off+n≤b.v.length then some (.ag ((b.v.drop off).take n)) else none:=_root_.id rfl
@[go_sem] theorem zsD (n m off:Nat):ldN M n (.p m off)=blkN off n (PM.blk M m):=by
 show (match PM.blk M m with|some b=>if off+n≤b.v.length then some (PV.ag ((b.v.drop off).take n)) else none|none=>none)=_
 cases PM.blk M m<;>rfl
@[go_sem] theorem zq6 (n:Nat) (xs:List PV):ldN M n (.fp xs)=if n≤xs.length∧n≠0 then some (.ag (xs.take n)) else none:=_root_.id rfl
@[go_sem] theorem zoU (n:Nat) (x:X):WL E F (⟨d,.load true n x,af,none⟩::l) ks fr M=WV1 E F (ldN M n (x.pv E.glob fr)) d l ks fr M:=by
 rw[zaE,←zaK]
 have:XO.pst E.glob (pcl E) fr M (.load true n x)=(ldN M n (x.pv E.glob fr)).map fun v=>(v,M):=by
  simp only[XO.pst,XO.pev]
  generalize x.pv E.glob fr=a
  cases a with
  | p m off =>
   simp only[ldN,PM.rd]
   cases PM.blk M m with
   | none=>rfl
   | some b =>
    simp only
    by_cases h:off+n≤b.v.length
    ·simp[h,pickP]
    ·simp[h]
  | fp xs =>
   simp only[ldN]
   split<;>rfl
  | _=>rfl
 rw[this]
def st1 (M:PM) (a:PV) (cs:List PV):Option (PV×PM) :=
 match a,cs with
 | .p m off,[c]=>match PM.blk M m with|some b=>if b.rw=true∧off<b.v.length∧c.scal=true then some (undefP,M.set m (some ⟨b.v.set off c,true,b.ver+1⟩)) else none|none=>none
 | _,_=>none
def blkS (M:PM) (m off:Nat) (c:PV):Option PB→Option (PV×PM)
 | some b=>if b.rw=true∧off<b.v.length∧c.scal=true then some (undefP,M.set m (some ⟨b.v.set off c,true,b.ver+1⟩)) else none
 | none=>none
@[go_sem] theorem zmj (m off:Nat) (c:PV) (b:PB):blkS M m off c (some b)=if b.rw=true∧off<b.v.length∧c.scal=true then some (undefP,M.set m (some ⟨b.v.set off c,true,b.ver+1⟩)) else none:=_root_.id rfl
@[go_sem] theorem zsJ (m off:Nat) (c:PV):st1 M (.p m off) [c]=blkS M m off c (PM.blk M m):=by
 show (match PM.blk M m with|some b=>if b.rw=true∧off<b.v.length∧c.scal=true then some (undefP,M.set m (some (PB.mk (b.v.set off c) true (b.ver+1)))) else none|none=>none)=_
 cases PM.blk M m<;>rfl
theorem zgM (a x:X):XO.pst E.glob (pcl E) fr M (.store 1 a x)=st1 M (a.pv E.glob fr) (x.pv E.glob fr).cells:=by
 simp only[XO.pst,XO.pev]
 generalize a.pv E.glob fr=p
 generalize (x.pv E.glob fr).cells=cs
 cases p with
 | p m off =>
  simp only
  match cs with
  | [c] =>
   simp only[st1]
   cases PM.blk M m with
   | none=>rfl
   | some b =>
    simp only[List.length_cons,List.length_nil,Nat.zero_add,List.all_cons,List.all_nil,Bool.and_true,true_and]
    by_cases h:b.rw=true∧off<b.v.length∧c.scal=true
    ·rw[if_pos h,if_pos ⟨h.1,by omega,h.2.2⟩,zii _ _ _ h.2.1]
    ·rw[if_neg h,if_neg (fun q=>h ⟨q.1,by omega,q.2.2⟩)]
  | [] =>
   simp only[st1]
   cases PM.blk M m with
   | none=>rfl
   | some b=>simp
  | _::_::_ =>
   simp only[st1]
   cases PM.blk M m with
   | none=>rfl
   | some b=>simp
 | _=>match cs with
  | []=>rfl
  | [c]=>rfl
  | _::_::_=>rfl
@[go_sem] theorem zn9 (a x:X):WL E F (⟨d,.store 1 a x,af,none⟩::l) ks fr M=WV E F (st1 M (a.pv E.glob fr) (x.pv E.glob fr).cells) d l ks fr:=by rw[zaE,zgM]
def stN (M:PM) (n:Nat) (a:PV) (cs:List PV):Option (PV×PM) :=
 match a with
 | .p m off=>match PM.blk M m with|some b=>if b.rw=true∧cs.length=n∧off+n≤b.v.length∧cs.all PV.scal=true then some (undefP,M.set m (some ⟨psplice b.v off cs,true,b.ver+1⟩)) else none|none=>none
 | _=>none
def blkSN (M:PM) (m off n:Nat) (cs:List PV):Option PB→Option (PV×PM)
 | some b=>if b.rw=true∧cs.length=n∧off+n≤b.v.length∧cs.all PV.scal=true then some (undefP,M.set m (some ⟨psplice b.v off cs,true,b.ver+1⟩)) else none
 | none=>none
@[go_sem] theorem zl5 (m off n:Nat) (cs:List PV) (b:PB):blkSN M m off n cs (some b)=if b.rw=true∧cs.length=n∧off+n≤b.v.length∧cs.all PV.scal=true then some (undefP,M.set m (some ⟨psplice b.v off cs,true,b.ver+1⟩)) else none:=_root_.id rfl
@[go_sem] theorem zsK (n m off:Nat) (cs:List PV):stN M n (.p m off) cs=blkSN M m off n cs (PM.blk M m):=by
 show (match PM.blk M m with|some b=>if b.rw=true∧cs.length=n∧off+n≤b.v.length∧cs.all PV.scal=true then some (undefP,M.set m (some (PB.mk (psplice b.v off cs) true (b.ver+1)))) else none|none=>none)=_
 cases PM.blk M m<;>rfl
theorem zh1 (n:Nat) (a x:X):XO.pst E.glob (pcl E) fr M (.store n a x)=stN M n (a.pv E.glob fr) (x.pv E.glob fr).cells:=by
 simp only[XO.pst,XO.pev]
 cases a.pv E.glob fr<;>rfl
theorem zix (n:Nat) (a x:X):WL E F (⟨d,.store n a x,af,none⟩::l) ks fr M=WV E F (stN M n (a.pv E.glob fr) (x.pv E.glob fr).cells) d l ks fr:=by rw[zaE,zh1]
@[go_sem] theorem zoa (n:Nat) (a x:X):WL E F (⟨d,.store (n+2) a x,af,none⟩::l) ks fr M=WV E F (stN M (n+2) (a.pv E.glob fr) (x.pv E.glob fr).cells) d l ks fr:=zix ..
@[go_sem] theorem zoV (x:X):WL E F (⟨d,.nilck x,af,none⟩::l) ks fr M=WV1 E F (match x.pv E.glob fr with | .p m off=>some (.p m off) | .fp l=>some (.fp l) | .fn f l=>some (.fn f l)|_=>none) d l ks fr M:=by
 rw[zaE,←zaK]
 have:XO.pst E.glob (pcl E) fr M (.nilck x)=(match x.pv E.glob fr with | .p m off=>some (PV.p m off) | .fp l=>some (.fp l) | .fn f l=>some (.fn f l)|_=>none).map fun v=>(v,M):=by
  simp only[XO.pst,XO.pev]
  cases x.pv E.glob fr<;>rfl
 rw[this]
def newP (M:PM) (cs:List PV):Option (PV×PM):=if cs.all PV.scal then some (.p M.length 0,M++[some ⟨cs,true,0⟩]) else none
@[go_sem] theorem zoz (cs:List PV):newP M cs=if cs.all PV.scal then some (.p M.length 0,M++[some ⟨cs,true,0⟩]) else none:=_root_.id rfl
@[go_sem] theorem zsl (z:List AV):WL E F (⟨d,.new z,af,none⟩::l) ks fr M=WV E F (newP M (z.map cst0)) d l ks fr:=by rw[zaE];rfl
@[go_sem] theorem zr7 (x:X):WL E F (⟨d,.box x,af,none⟩::l) ks fr M=WV E F (newP M (x.pv E.glob fr).cells) d l ks fr:=by rw[zaE];rfl
def bslP (M:PM) (n sz:Nat):Option (List PV)→Option (PV×PM)
 | some cs=>if n=0 then some (.nl,M) else some (.sl M.length 0 n n sz,M++[some ⟨cs,true,0⟩])
 | none=>none
@[go_sem] theorem zml (n sz:Nat) (cs:List PV):bslP M n sz (some cs)=if n=0 then some (.nl,M) else some (.sl M.length 0 n n sz,M++[some ⟨cs,true,0⟩]):=_root_.id rfl
@[go_sem] theorem zr8 (n sz:Nat) (z:List AV) (ps:List (Nat×Nat×X)):WL E F (⟨d,.bsl n sz z ps,af,none⟩::l) ks fr M=WV E F (if n*sz≤16777216∧z.length=sz∧(z.map cst0).all PV.scal=true then bslP M n sz (fillP E.glob fr (List.replicate n (z.map cst0)).flatten ps) else none) d l ks fr:=by
 rw[zaE]
 have:XO.pst E.glob (pcl E) fr M (.bsl n sz z ps)=(if n*sz≤16777216∧z.length=sz∧(z.map cst0).all PV.scal=true then bslP M n sz (fillP E.glob fr (List.replicate n (z.map cst0)).flatten ps) else none):=by
  simp only[XO.pst,XO.pev]
  split
  ·cases fillP E.glob fr (List.replicate n (z.map cst0)).flatten ps<;>rfl
  ·rfl
 rw[this]
def mslP (M:PM) (z:List PV) (by_:Nat):Option Nat→Option Nat→Option (PV×PM)
 | some a,some b =>
  if a≤b∧b*by_≤281474976710656∧b≤9223372036854775807∧z.all PV.scal=true then
   (if b=0 then some (.nl,M) else some (.sl M.length 0 a b z.length,M++[some ⟨(List.replicate b z).flatten,true,0⟩]))
  else none
 | _,_=>none
@[go_sem] theorem zsk (z:List AV) (by_:Nat) (n c:X):WL E F (⟨d,.msl z by_ n c,af,none⟩::l) ks fr M=WV E F (mslP M (z.map cst0) by_ (asNP (n.pv E.glob fr)) (asNP (c.pv E.glob fr))) d l ks fr:=by
 rw[zaE]
 have:XO.pst E.glob (pcl E) fr M (.msl z by_ n c)=mslP M (z.map cst0) by_ (asNP (n.pv E.glob fr)) (asNP (c.pv E.glob fr)):=by
  simp only[XO.pst,XO.pev]
  cases asNP (n.pv E.glob fr)<;>cases asNP (c.pv E.glob fr)<;>simp only[mslP,List.length_map]
 rw[this]
theorem zrM (z:PV):∀n,(List.replicate n [z]).flatten=List.replicate n z
 | 0=>rfl
 | n+1=>by rw[List.replicate_succ,List.flatten_cons,zrM z n];rfl
theorem zi6 (z:PV) (by_ n:Nat) (h1:n*by_≤281474976710656) (h2:n≤9223372036854775807) (h3:z.scal=true) (h0:n≠0):mslP M [z] by_ (some n) (some n)=some (.sl M.length 0 n n 1,M++[some ⟨List.replicate n z,true,0⟩]):=by
 simp only[mslP]
 rw[if_pos ⟨Nat.le_refl _,h1,h2,by simp[h3]⟩,if_neg h0,zrM];rfl
theorem zhC (z:PV) (by_:Nat) (h3:z.scal=true):mslP M [z] by_ (some 0) (some 0)=some (.nl,M):=by
 simp only[mslP]
 simp[h3]
@[go_sem] theorem zqM (z:Nat) (x:X) (lo hi mx:Option X):WL E F (⟨d,.slsl z x lo hi mx,af,none⟩::l) ks fr M=WV1 E F (slP z (x.pv E.glob fr) (lo.map (X.pv E.glob fr)) (hi.map (X.pv E.glob fr)) (mx.map (X.pv E.glob fr))) d l ks fr M:=by rw[zaE];exact zaK ..
@[go_sem] theorem zr4 (z by_:Nat) (s x:X):WL E F (⟨d,.app z by_ s x,af,none⟩::l) ks fr M=WV E F (appP M z by_ (s.pv E.glob fr) (x.pv E.glob fr)) d l ks fr:=by rw[zaE];rfl
@[go_sem] theorem zr9 (z:Nat) (a b:X):WL E F (⟨d,.cpy z a b,af,none⟩::l) ks fr M=WV E F (cpyP M z (a.pv E.glob fr) (b.pv E.glob fr)) d l ks fr:=by rw[zaE];rfl
@[go_sem] theorem zqH (f:Nat) (xs:List X):WL E F (⟨d,.call f xs,af,none⟩::l) ks fr M=WV E F (pcl E f (xs.map (X.pv E.glob fr)) M) d l ks fr:=by rw[zaE];rfl
noncomputable def callP (E:PEnv) (M:PM) (xs:List PV):PV→Option (PV×PM)
 | .fn f c=>pcl E f (xs++c) M
 | _=>none
@[go_sem] theorem zom (xs:List PV) (f:Nat) (c:List PV):callP E M xs (.fn f c)=pcl E f (xs++c) M:=_root_.id rfl
@[go_sem] theorem zoR (x:X) (xs:List X):WL E F (⟨d,.callv x xs,af,none⟩::l) ks fr M=WV E F (callP E M (xs.map (X.pv E.glob fr)) (x.pv E.glob fr)) d l ks fr:=by
 rw[zaE]
 have:XO.pst E.glob (pcl E) fr M (.callv x xs)=callP E M (xs.map (X.pv E.glob fr)) (x.pv E.glob fr):=by
  simp only[XO.pst]
  cases x.pv E.glob fr<;>rfl
 rw[this]
end
@[go_sem] theorem zoA (fr:PFr) (M:PM):pRes fr M []=some []:=_root_.id rfl
def resC (o:Option PV) (r:Option (List PV)):Option (List PV):=match o,r with|some v,some vs=>some (v::vs)|_,_=>none
@[go_sem] theorem znT (v:PV) (vs:List PV):resC (some v) (some vs)=some (v::vs):=_root_.id rfl
@[go_sem] theorem zoB (fr:PFr) (M:PM) (t:Nat) (l:List XR):pRes fr M (.tmp t::l)=resC (some (fr t)) (pRes fr M l):=_root_.id rfl
@[go_sem] theorem zl8 (fr:PFr) (M:PM) (t n:Nat) (l:List XR):pRes fr M (.cell t true n::l)=resC (ldN M n (fr t)) (pRes fr M l):=by
 have:pResOne fr M (.cell t true n)=ldN M n (fr t):=by
  simp only[pResOne]
  generalize fr t=a
  cases a with
  | p m off =>
   simp only[ldN,PM.rd]
   cases PM.blk M m with
   | none=>rfl
   | some b =>
    simp only
    by_cases h:off+n≤b.v.length
    ·simp[h,pickP]
    ·simp[h]
  | fp xs =>
   simp only[ldN]
   split<;>rfl
  | _=>rfl
 simp only[pRes,this];rfl
@[go_sem] theorem zoD (v:PV):packP [v]=v:=_root_.id rfl
@[go_sem] theorem zoC:packP []=.tu []:=_root_.id rfl
@[go_sem] theorem zoE (v w:PV) (l:List PV):packP (v::w::l)=.tu (v::w::l):=_root_.id rfl
end Go.Eng
namespace Go.Eng
variable {E:PEnv} {F:PFin}
theorem zeC (a b:Nat):((a:Int).fdiv (b:Int))=((a/b:Nat):Int):=by rw[Int.fdiv_eq_ediv_of_nonneg _ (by omega)];rfl
section
variable (k k':IntKind) (a b:Int)
@[go_sem] theorem zo4:binP .add (.i k a) (.i k b)=some (.i k (k.wrap (a+b))):=by simp[binP,numBin,intBin,cst0]
@[go_sem] theorem zpd:binP .sub (.i k a) (.i k b)=some (.i k (k.wrap (a-b))):=by simp[binP,numBin,intBin,cst0]
@[go_sem] theorem zo9:binP .mul (.i k a) (.i k b)=some (.i k (k.wrap (a*b))):=by simp[binP,numBin,intBin,cst0]
@[go_sem] theorem zpb (h:b≠0):binP .quo (.i k a) (.i k b)=some (.i k (k.wrap (a.tdiv b))):=by simp[binP,numBin,intBin,cst0,h]
@[go_sem] theorem zpc (h:b≠0):binP .rem (.i k a) (.i k b)=some (.i k (a.tmod b)):=by simp[binP,numBin,intBin,cst0,h]
@[go_sem] theorem zo5:binP .eql (.i k a) (.i k b)=some (.b (decide (a=b))):=by
 have:(a==b)=decide (a=b):=by by_cases h:a=b<;>simp[h]
 simp[binP,numBin,intBin,cst0,this]
@[go_sem] theorem zpa:binP .neq (.i k a) (.i k b)=some (.b (decide (a≠b))):=by
 have:(a != b)=decide (a≠b):=by by_cases h:a=b<;>simp[h]
 simp[binP,numBin,intBin,cst0,this]
@[go_sem] theorem zo8:binP .lss (.i k a) (.i k b)=some (.b (decide (a<b))):=by simp[binP,numBin,intBin,cst0]
@[go_sem] theorem zo7:binP .gtr (.i k a) (.i k b)=some (.b (decide (b<a))):=by simp[binP,numBin,intBin,cst0]
@[go_sem] theorem zo6:binP .geq (.i k a) (.i k b)=some (.b (decide (b≤a))):=by simp[binP,numBin,intBin,cst0]
theorem zcS (h:0≤b):binP .shl (.i k a) (.i k' b)=some (.i k (k.wrap (a*2^(min b.toNat k.bits)))):=by
 have:¬b<0:=by omega
 simp[binP,numBin,intShift,cst0,this]
theorem zcT (h:0≤b):binP .shr (.i k a) (.i k' b)=some (.i k (a.fdiv (2^(min b.toNat k.bits)))):=by
 have:¬b<0:=by omega
 simp[binP,numBin,intShift,cst0,this]
@[go_sem] theorem zrX:unP .neg (.i k a)=some (.i k (k.wrap (0-a))):=_root_.id rfl
@[go_sem] theorem zrY (v:Bool):unP .not (.b v)=some (.b (!v)):=_root_.id rfl
@[go_sem] theorem zsx (v w:Bool):eqTP 0 (.b v) (.b w)=some (v==w):=_root_.id rfl
@[go_sem] theorem zqX (n o:Nat):eqTP 1 (.p n o) .pn=some false:=_root_.id rfl
@[go_sem] theorem zdR (x y:List UInt8) (h:x.length+y.length≤9223372036854775807):binP .add (.s x) (.s y)=some (.s (x++y)):=by simp[binP,strBin,cst0,h]
@[go_sem] theorem zok (x y:List UInt8):binP .eql (.s x) (.s y)=some (.b (decide (x=y))):=by
 have:(x==y)=decide (x=y):=by by_cases h:x=y<;>simp[h]
 simp[binP,strBin,cst0,this]
@[go_sem] theorem zol (x y:List UInt8):binP .neq (.s x) (.s y)=some (.b (decide (x≠y))):=by
 have:(x==y)=decide (x=y):=by by_cases h:x=y<;>simp[h]
 simp[binP,strBin,cst0,this]
@[go_sem] theorem zq8 (mx:Bool) (x:PV):mmP mx x []=some x:=_root_.id rfl
@[go_sem] theorem zq7 (l:List PV):mmP true (.i k a) (.i k b::l)=mmP true (.i k (if b>a then b else a)) l:=by simp[mmP]
end
theorem wqa {x:Int} (h1 : -9223372036854775808≤x) (h2:x≤9223372036854775807):IntKind.wrap .i64 x=x:=by
 simp only[IntKind.wrap,IntKind.signed,IntKind.bits,Bool.true_and,decide_eq_true_eq,ge_iff_le]
 omega
theorem wqe {x:Int} (h1 : -2147483648≤x) (h2:x≤2147483647):IntKind.wrap .i32 x=x:=by
 simp only[IntKind.wrap,IntKind.signed,IntKind.bits,Bool.true_and,decide_eq_true_eq,ge_iff_le]
 omega
theorem wqb {x:Int} (h1:0≤x) (h2:x≤18446744073709551615):IntKind.wrap .u64 x=x:=by
 simp only[IntKind.wrap,IntKind.signed,IntKind.bits,Bool.false_and,Bool.false_eq_true,if_false]
 omega
theorem wqc {x:Int} (h1:0≤x) (h2:x≤4294967295):IntKind.wrap .u32 x=x:=by
 simp only[IntKind.wrap,IntKind.signed,IntKind.bits,Bool.false_and,Bool.false_eq_true,if_false]
 omega
theorem wqd {x:Int} (h1:0≤x) (h2:x≤255):IntKind.wrap .u8 x=x:=by
 simp only[IntKind.wrap,IntKind.signed,IntKind.bits,Bool.false_and,Bool.false_eq_true,if_false]
 omega
theorem wqq:(∀{x:Int},-9223372036854775808≤x→x≤9223372036854775807→IntKind.wrap .i64 x=x)∧(∀{x:Int},0≤x→x≤18446744073709551615→IntKind.wrap .u64 x=x)∧(∀{x:Int},0≤x→x≤4294967295→IntKind.wrap .u32 x=x)∧(∀{x:Int},0≤x→x≤255→IntKind.wrap .u8 x=x)∧(∀{x:Int},-2147483648≤x→x≤2147483647→IntKind.wrap .i32 x=x):=⟨wqa,wqb,wqc,wqd,wqe⟩
theorem lqq:(∀{α:Type} (a b c:List α),a++b++c=a++(b++c))∧(∀{α:Type} (a:α) (b c:List α),a::b++c=a::(b++c))∧(∀{α:Type} (a:List α),[]++a=a):=⟨List.append_assoc,fun _ _ _=>List.cons_append,List.nil_append⟩
theorem zbA (x:Int):IntKind.wrap .u64 x=x%18446744073709551616:=by simp[IntKind.wrap,IntKind.signed,IntKind.bits]
theorem zdn (x:Int):IntKind.wrap .u32 x=x%4294967296:=by simp[IntKind.wrap,IntKind.signed,IntKind.bits]
theorem zoe (x:Int):IntKind.wrap .u8 x=x%256:=by simp[IntKind.wrap,IntKind.signed,IntKind.bits]
theorem zaX (n:Nat):IntKind.wrap .u32 (n:Int)=((n%4294967296:Nat):Int):=by rw[zdn];rfl
@[go_sem] theorem zcU (k':IntKind) (x:Nat) (s:Int) (h:0≤s) (h2:s≤64):binP .shr (.i .u64 (x:Int)) (.i k' s)=some (.i .u64 ((x/2^s.toNat:Nat):Int)):=by
 rw[zcT _ _ _ _ h,show min s.toNat (IntKind.bits .u64)=s.toNat by simp only[IntKind.bits];omega,show ((2:Int)^s.toNat)=((2^s.toNat:Nat):Int) by simp,zeC]
@[go_sem] theorem zeX (k':IntKind) (x:Nat) (s:Int) (h:0≤s) (h2:s≤64):binP .shl (.i .u64 (x:Int)) (.i k' s)=some (.i .u64 (IntKind.wrap .u64 ((x*2^s.toNat:Nat):Int))):=by
 rw[zcS _ _ _ _ h,show min s.toNat (IntKind.bits .u64)=s.toNat by simp only[IntKind.bits];omega,show ((x*2^s.toNat:Nat):Int)=(x:Int)*2^s.toNat by simp]
theorem zbw (a b:Nat):((a:Int)+(b:Int))=((a+b:Nat):Int):=by omega
theorem za1 (a:Nat):((a:Int)+1)=((a+1:Nat):Int):=by omega
theorem zbx (a b:Nat):((a:Int)*(b:Int))=((a*b:Nat):Int):=by simp
theorem zaD {a:Nat} (h:1≤a):((a:Int)-1)=((a-1:Nat):Int):=by omega
theorem zcM (a b:Nat):((a:Int).tdiv (b:Int))=((a/b:Nat):Int):=rfl
theorem zf2 (a b:Nat):((a:Int).tmod (b:Int))=((a%b:Nat):Int):=rfl
theorem za7 (a b:Nat):((a:Int)<(b:Int))=(a<b):=by simp
theorem zb9 (a b:Nat):((a:Int)≤(b:Int))=(a≤b):=by simp
@[go_sem] theorem zpu:fzD=12:=_root_.id rfl
@[go_sem] theorem zpv (g:PV→Option (PV×List Nat)):fzL g []=some ([],[]):=_root_.id rfl
def fzC:Option (PV×List Nat)→Option (List PV×List Nat)→Option (List PV×List Nat)
 | some r,some q=>some (r.1::q.1,r.2++q.2)
 | _,_=>none
@[go_sem] theorem zov (v:PV) (a:List Nat) (l:List PV) (b:List Nat):fzC (some (v,a)) (some (l,b))=some (v::l,a++b):=_root_.id rfl
@[go_sem] theorem ziW (g:PV→Option (PV×List Nat)) (v:PV) (l:List PV):fzL g (v::l)=fzC (g v) (fzL g l):=by
 simp only[fzL]
 cases g v<;>cases fzL g l<;>rfl
section
variable (M:PM) (d:Nat)
@[go_sem] theorem zsQ (v:Bool):fz M (d+1) (.b v)=some (.b v,[]):=_root_.id rfl
@[go_sem] theorem zsR (k:IntKind) (n:Int):fz M (d+1) (.i k n)=some (.i k n,[]):=_root_.id rfl
@[go_sem] theorem zsT (l:List UInt8):fz M (d+1) (.s l)=some (.s l,[]):=_root_.id rfl
@[go_sem] theorem zq1 (l:List PV):fz M (d+1) (.lst l)=some (.lst l,[]):=_root_.id rfl
@[go_sem] theorem zsz:fz M (d+1) .nl=some (.lst [],[]):=_root_.id rfl
def fzM (f:List PV→PV):Option (List PV×List Nat)→Option (PV×List Nat)
 | some r=>some (f r.1,r.2)
 | none=>none
@[go_sem] theorem ziX (f:List PV→PV) (l:List PV) (ns:List Nat):fzM f (some (l,ns))=some (f l,ns):=_root_.id rfl
theorem zhm (f:List PV→PV) (o:Option (List PV×List Nat)):(o.map fun(r:List PV×List Nat)=>(f r.1,r.2))=fzM f o:=by cases o<;>rfl
@[go_sem] theorem zpx (l:List PV):fz M (d+1) (.ag l)=fzM PV.ag (fzL (fz M d) l):=zhm PV.ag _
@[go_sem] theorem zsB (l:List PV):fz M (d+1) (.tu l)=fzM PV.tu (fzL (fz M d) l):=zhm PV.tu _
def fzP (n off:Nat) (g:PV→Option (PV×List Nat)):Option PB→Option (PV×List Nat)
 | some b=>(fzL g b.v).map fun(r:List PV×List Nat)=>(PV.fp (r.1.drop off),n::r.2)
 | none=>none
@[go_sem] theorem zow (n off:Nat) (g:PV→Option (PV×List Nat)) (b:PB):fzP n off g (some b)=(fzL g b.v).map fun(r:List PV×List Nat)=>(PV.fp (r.1.drop off),n::r.2):=_root_.id rfl
@[go_sem] theorem zsS (n off:Nat):fz M (d+1) (.p n off)=fzP n off (fz M d) (PM.blk M n):=by
 show (match PM.blk M n with|some b=>(fzL (fz M d) b.v).map fun(r:List PV×List Nat)=>(PV.fp (r.1.drop off),n::r.2)|none=>none)=_
 cases PM.blk M n<;>rfl
def fzS (n off len z:Nat) (g:PV→Option (PV×List Nat)):Option PB→Option (PV×List Nat)
 | some b=>if off+len*z≤b.v.length then (fzL g ((b.v.drop off).take (len*z))).map fun r=>(.lst (group z len r.1),n::r.2) else none
 | none=>none
@[go_sem] theorem zox (n off len z:Nat) (g:PV→Option (PV×List Nat)) (b:PB):fzS n off len z g (some b)=if off+len*z≤b.v.length then (fzL g ((b.v.drop off).take (len*z))).map fun r=>(.lst (group z len r.1),n::r.2) else none:=_root_.id rfl
@[go_sem] theorem zsA (n off len c z:Nat):fz M (d+1) (.sl n off len c z)=if len=0 then some (.lst [],[]) else if z=0 then none else fzS n off len z (fz M d) (PM.blk M n):=by
 simp only[fz,PM.rd]
 split
 ·rfl
 ·split
  ·rfl
  ·cases PM.blk M n with
   | none=>rfl
   | some b =>
    simp only[fzS]
    split
    ·rename_i l hl
     split at hl
     ·cases hl;rename_i h;rw[if_pos h]
     ·cases hl
    ·rename_i hl
     split at hl
     ·cases hl
     ·rename_i h;rw[if_neg h]
theorem zhk (g:PV→Option (PV×List Nat)):∀(l:List PV),(∀x∈l,g x=some (x,[]))→fzL g l=some (l,[])
 | [],_=>rfl
 | x::l,h=>by
  rw[ziW,h x (List.mem_cons_self ..),zhk g l fun y hy=>h y (List.mem_cons_of_mem _ hy)];rfl
theorem zcK {α:Type} (f:α→PV) (hf:∀a,fz M (d+1) (f a)=some (f a,[])) (l:List α):fzL (fz M (d+1)) (l.map f)=some (l.map f,[]) :=
 zhk _ _ fun x hx=>by
  obtain⟨a,_,rfl⟩:=List.mem_map.1 hx
  exact hf a
theorem zbo:∀(k:Nat) (l:List PV),l.length=k→group 1 k l=l
 | 0,l,h=>by rw[List.length_eq_zero_iff.1 h];rfl
 | k+1,[],h=>by simp at h
 | k+1,x::l,h=>by
  simp only[group,if_true,List.headD_cons,List.drop_succ_cons,List.drop_zero]
  rw[zbo k l (by simpa using h)]
end
@[go_sem] theorem zqm (M:PM):roM M []=M:=_root_.id rfl
@[go_sem] theorem zoH (M:PM) (n:Nat) (ns:List Nat):roM M (n::ns)=roM (roB M n) ns:=_root_.id rfl
def roC (M:PM) (n:Nat):Option PB→PM
 | some b=>M.set n (some ⟨b.v,false,b.ver⟩)
 | none=>M
@[go_sem] theorem zoG (M:PM) (n:Nat) (b:PB):roC M n (some b)=M.set n (some ⟨b.v,false,b.ver⟩):=_root_.id rfl
@[go_sem] theorem zql (M:PM) (n:Nat):roB M n=roC M n (PM.blk M n):=by
 unfold roB
 cases PM.blk M n<;>rfl
noncomputable def pclA (E:PEnv) (f:Nat) (M:PM):Option (List PV×List Nat)→Option (PV×PM)
 | some r=>(pf E f r.1).map fun v=>(v,roM M r.2)
 | none=>none
def pclV (M:PM) (ns:List Nat):Option PV→Option (PV×PM)
 | some v=>some (v,roM M ns)
 | none=>none
@[go_sem] theorem znI (M:PM) (ns:List Nat) (v:PV):pclV M ns (some v)=some (v,roM M ns):=_root_.id rfl
@[go_sem] theorem zhX (f:Nat) (M:PM) (l:List PV) (ns:List Nat):pclA E f M (some (l,ns))=pclV M ns (pf E f l):=by
 show (pf E f l).map _=_
 cases pf E f l<;>rfl
theorem zae {f:Nat} (args:List PV) (M:PM) (h:E.pure f=true):pcl E f args M=pclA E f M (fzL (fz M fzD) args):=by
 cases hz:fzL (fz M fzD) args with
 | none =>
  show pcl E f args M=none
  cases hc:pcl E f args M with
  | none=>rfl
  | some r =>
   obtain⟨k,e⟩:=zdJ hc
   cases k with
   | zero=>simp[pvF] at e
   | succ k =>
    simp only[pvF,h,if_true,hz] at e
    split at e<;>cases e
 | some r =>
  obtain⟨a',ns⟩:=r
  rw[zhX]
  cases hp:pf E f a' with
  | some v=>exact zge h hz hp
  | none =>
   show pcl E f args M=none
   cases hc:pcl E f args M with
   | none=>rfl
   | some r =>
    obtain⟨k,e⟩:=zdJ hc
    cases k with
    | zero=>simp[pvF] at e
    | succ k =>
     simp only[pvF,h,if_true,hz] at e
     split at e
     ·rename_i xf hx
      split at e
      ·rename_i w ho
       rw[zkb hx ho] at hp;cases hp
      ·rename_i ho
       split at e
       ·rename_i w M2 hb
        simp only[Option.map_eq_some_iff] at e
        obtain⟨q,q1,_⟩:=e
        have:=znL hx (zcb (zlE k) (Nat.le_refl k) hb) (v:=q.1) (by rw[q1];rfl) ho
        rw[this] at hp;cases hp
       ·cases e
     ·rename_i o ho
      split at e
      ·rename_i w M2 hb
       simp only[Option.map_eq_some_iff] at e
       obtain⟨q,q1,_⟩:=e
       have:=zgf ho hb (v:=q.1) (by rw[q1];rfl)
       rw[this] at hp;cases hp
      ·cases e
     ·cases e
end Go.Eng
namespace Go.Eng
attribute [go_sem] List.length_cons List.length_nil List.cons_append List.nil_append List.append_nil List.map_cons List.map_nil List.set_cons_zero List.set_cons_succ List.getElem?_cons_zero List.getElem?_cons_succ List.drop_zero List.drop_succ_cons List.take_succ_cons List.take_zero List.replicate_succ List.replicate_zero List.flatten_cons List.flatten_nil
attribute [go_sem] Option.map_some Option.map_none Option.bind_some and_true true_and and_self and_false false_and Bool.and_self Bool.and_true Bool.true_and Bool.not_true Bool.not_false decide_true decide_false not_true_eq_false not_false_eq_true ne_eq if_true if_false Bool.false_eq_true Nat.zero_add Nat.add_zero Nat.zero_mul Nat.one_mul Nat.mul_one Nat.lt_add_one Nat.le_refl Option.isSome_none Option.isSome_some beq_self_eq_true Bool.true_eq_false false_implies
@[go_sem] theorem zsU (n:Nat):((0:Int)≤(n:Int))=True:=by simp
@[go_sem] theorem zqt (l:List PV):psplice l 0 []=l:=by simp[psplice]
@[go_sem] theorem zoJ (a c:PV) (l cs:List PV):psplice (a::l) 0 (c::cs)=c::psplice l 0 cs:=by simp[psplice]
@[go_sem] theorem zoK (a:PV) (l cs:List PV) (n:Nat):psplice (a::l) (n+1) cs=a::psplice l n cs:=by
 simp only[psplice,List.take_succ_cons,List.cons_append]
 rw[show n+1+cs.length=(n+cs.length)+1 by omega,List.drop_succ_cons]
theorem zcA (M:PM) (k:IntKind) (c:Int) (by_ n:Nat) (h1:n*by_≤281474976710656) (h2:n≤9223372036854775807) (h0:n≠0):mslP M [.i k c] by_ (some n) (some n)=some (.sl M.length 0 n n 1,M++[some ⟨List.replicate n (.i k c),true,0⟩]):=zi6 M _ by_ n h1 h2 rfl h0
theorem zfh (M:PM) (k:IntKind) (c:Int) (by_:Nat):mslP M [.i k c] by_ (some 0) (some 0)=some (.nl,M):=zhC M _ by_ rfl
@[go_sem] theorem zqP:(true==false)=false:=by decide
@[go_sem] theorem zqO:(false==true)=false:=by decide
theorem zai {E:PEnv} {F:PFin} {a b:XC} (hab:a=b) {ks:List KI} {α:Type} (I:α→PFr→PM→Prop) (m:α→Nat)
  (step:∀x fr M,I x fr M→(∀y fr' M',m y<m x→I y fr' M'→WK E F (.loop a) ks fr' M')→WK E F b (.loop a::ks) fr M) (x:α) {fr:PFr} {M:PM} (h:I x fr M):WK E F (.loop a) ks fr M:=by
 have key:∀n x fr M,m x<n→I x fr M→WK E F (.loop a) ks fr M:=by
  intro n
  induction n with
  | zero=>intro x fr M hm;omega
  | succ n ih =>
   intro x fr M hm h
   have:=step x fr M h fun y fr' M' hy h'=>ih y fr' M' (by omega) h'
   rw[←hab] at this
   exact zdk this
 exact key (m x+1) x fr M (by omega) h
end Go.Eng
namespace Go.Eng
def dtx:Nat→Nat→List UInt8
 | 0,_=>[]
 | i+1,v=>UInt8.ofNat (48+v/10^i%10)::dtx i v
@[simp] theorem zcm:∀(i v:Nat),(dtx i v).length=i
 | 0,_=>rfl
 | i+1,v=>by simp[dtx,zcm i v]
theorem zg9:∃f:Nat→Nat,∀v n,f v≤n↔v<10^n:=by
 have key:∀v:Nat,∃m,∀n,m≤n↔v<10^n:=by
  intro v
  induction v using Nat.strongRecOn with
  | _ v ih =>
   by_cases h:v=0
   ·subst h;exact⟨0,fun n=>⟨fun _=>Nat.pow_pos (by decide),fun _=>Nat.zero_le _⟩⟩
   ·obtain⟨m,hm⟩:=ih (v/10) (Nat.div_lt_self (by omega) (by decide))
    refine⟨m+1,fun n=>?_⟩
    cases n with
    | zero=>simp;omega
    | succ n =>
     rw[Nat.pow_succ,←Nat.div_lt_iff_lt_mul (by decide),←hm n];omega
 exact⟨fun v=>Classical.choose (key v),fun v=>Classical.choose_spec (key v)⟩
noncomputable def dlen:Nat→Nat:=Classical.choose zg9
theorem zaH {v n:Nat}:dlen v≤n↔v<10^n:=Classical.choose_spec zg9 v n
theorem zcl (v:Nat):v<10^dlen v:=zaH.1 (Nat.le_refl _)
noncomputable def dec (v:Nat):List UInt8:=if v=0 then [48] else dtx (dlen v) v
noncomputable def decI (n:Int):List UInt8:=if n<0 then 45::dec n.natAbs else dec n.natAbs
def val:List Nat→Nat
 | []=>0
 | x::xs=>x+4294967296*val xs
def Fits64 (n:Int):Prop := -9223372036854775808≤n∧n≤9223372036854775807
instance (n:Int):Decidable (Fits64 n):=inferInstanceAs (Decidable (_∧_))
def wordsP:List PV→Option (List Nat)
 | []=>some []
 | .i .u32 n::l=>if 0≤n∧n<4294967296 then (wordsP l).map (n.toNat :: ·) else none
 | _=>none
def wordsA:List AV→Option (List Nat)
 | []=>some []
 | .i .u32 n::l=>if 0≤n∧n<4294967296 then (wordsA l).map (n.toNat :: ·) else none
 | _=>none
noncomputable def wtx (neg:Bool) (xs:List Nat):Option (List UInt8) :=
 if xs.length≤512∧xs.getLast?≠some 0∧(neg=true→xs≠[]) then some (decI (if neg then-(val xs:Int) else (val xs:Int))) else none
def isDig (c:UInt8):Bool:=decide (48≤c.toNat∧c.toNat≤57)
def tv:List UInt8→Nat
 | []=>0
 | c::l=>(c.toNat-48)*10^l.length+tv l
def idxB:List UInt8→UInt8→Int
 | [],_ => -1
 | b::l,c=>if b==c then 0 else if idxB l c == -1 then-1 else idxB l c+1
noncomputable def libA (f:Nat):List AV→Option AV
 | [.i .i64 n]=>if f=50∧Fits64 n then some (.s (decI n)) else none
 | [.s l,.i .i64 c]=>if f=51∧0≤c∧c≤1000∧l.length≤1000 then some (.s (List.replicate c.toNat l).flatten) else none
 | [.s l,.s cs]=>if f=130∧l.length≤9223372036854775807∧cs.length<4294967281∧(cs.all fun b=>decide (b.toNat<128))=true then some (.s (((l.reverse.dropWhile (cs.contains ·)).reverse).dropWhile (cs.contains ·))) else if f=222 then (match cs with|[c]=>some (.i .i64 (idxB l c))|_=>none) else none
 | [.s l]=>if f=131∧l≠[]∧l.length≤18∧l.all isDig=true then some (.tu [.i .i64 (tv l:Nat),.inil]) else none
 | _=>none
noncomputable def libP (f:Nat):List PV→Option PV
 | [.i .i64 n]=>if f=50∧Fits64 n then some (.s (decI n)) else none
 | [.s l,.i .i64 c]=>if f=51∧0≤c∧c≤1000∧l.length≤1000 then some (.s (List.replicate c.toNat l).flatten) else none
 | [.s l,.s cs]=>if f=130∧l.length≤9223372036854775807∧cs.length<4294967281∧(cs.all fun b=>decide (b.toNat<128))=true then some (.s (((l.reverse.dropWhile (cs.contains ·)).reverse).dropWhile (cs.contains ·))) else if f=222 then (match cs with|[c]=>some (.i .i64 (idxB l c))|_=>none) else none
 | [.s l]=>if f=131∧l≠[]∧l.length≤18∧l.all isDig=true then some (.tu [.i .i64 (tv l:Nat),.inil]) else none
 | _=>none
noncomputable def txtA:List AV→Hp→Option (List UInt8)
 | [.ag [.b neg,.sl n off len _ z]],h=>if len=0 then wtx neg [] else if z=1 then ((h.rd n off len).bind wordsA).bind (wtx neg) else none
 | [.ag [.b neg,.sn]],_=>wtx neg []
 | [.ag [.b neg,.se]],_=>wtx neg []
 | [.ag [.b neg,.e0]],_=>wtx neg []
 | _,_=>none
noncomputable def txtP:List PV→Option (List UInt8)
 | [.ag [.b neg,.lst ws]]=>(wordsP ws).bind (wtx neg)
 | [.ag [.b neg,.nl]]=>wtx neg []
 | _=>none
def powT:List AV:=(List.range 20).map fun i=>.i .u64 ((10^i:Nat):Int)
open Classical in
noncomputable def orcA (f:Nat) (args:List AV) (h:Hp):Option (AV×Hp) :=
 if f=33 then (if ∃b,h.m 0=some b∧b.v=powT then (txtA args h).map fun l=>(.s l,h) else none)
 else if f=50∧¬(∃b,h.m 0=some b∧b.v=powT) then none
 else (libA f args).map fun v=>(v,h)
noncomputable def orcP (f:Nat) (args:List PV) (M:PM):Option (PV×PM) :=
 if f=33 then (txtP args).map fun l=>(.s l,M) else (libP f args).map fun v=>(v,M)
def ovrP (f:Nat) (args:List PV):Option PV :=
 if f=211 then (match args with|[.lst []]=>some (.lst [])|_=>none) else none
def globT (g:Nat):Option (List AV):=if g=0 then some powT else none
def monoI:List Int:=[0,0,0,1,0,0,0,1,0,0,0,1,2,0,0,1,1,0,1,0,1,0,2,0,0,1,1,0,0,2,3,0,0,2,1,0,2,0,1,1,2,0,1,1,1,1,0,2,0,3,0,0,2,1,0,1,2,0,0,3]
def chooI:List Int:=[1,0,0,0,1,1,0,0,1,2,1,0,1,3,3,1]
def monoT:List AV:=monoI.map fun n=>.i .i64 n
def chooT:List AV:=chooI.map fun n=>.i .i64 n
def downT:List AV:=[.fn 296 [],.fn 297 []]
def upT:List AV:=[.fn 298 [],.fn 299 []]
def globG:Nat→Option (List AV)
 | 0=>some powT
 | 1=>some monoT
 | 2=>some chooT
 | 3=>some downT
 | 4=>some upT
 | _=>none
theorem ziz {h:Hp} {D:Nat→Prop}:∀{ws:List PV} {cs:Nat→AV} {xs:List Nat},wordsP ws=some xs→(∀i (hi:i<ws.length),V h D [] ws[i] (cs i))→wordsA ((List.range ws.length).map cs)=some xs
 | [],cs,xs,e,_=>by simp[wordsP] at e;subst e;rfl
 | w::ws,cs,xs,e,hv=>by
  unfold wordsP at e
  split at e
  ·rename_i he;cases he
  ·rename_i n l he
   cases he
   split at e
   ·rename_i hn
    simp only[Option.map_eq_some_iff] at e
    obtain⟨ys,e1,rfl⟩:=e
    have h0:=hv 0 (by simp)
    have hc:cs 0=.i .u32 n:=by
     have h0':V h D [] (.i .u32 n) (cs 0):=h0
     generalize cs 0=c at h0'
     cases h0';rfl
    have ih:=ziz (cs:=fun i=>cs (i+1)) e1 fun i hi=>hv (i+1) (by simp;omega)
    rw[List.length_cons,List.range_succ_eq_map,List.map_cons,List.map_map,hc]
    unfold wordsA
    rw[if_pos hn]
    have:(List.range ws.length).map (cs ∘ Nat.succ)=(List.range ws.length).map fun i=>cs (i+1):=rfl
    rw[this,ih];rfl
   ·cases e
  ·cases e
theorem zdN:∀{ws:List PV} {xs:List Nat},wordsP ws=some xs→flat ws=ws∧∀x∈ws,x.cells.length=1
 | [],xs,e=>⟨rfl,fun x hx=>by cases hx⟩
 | w::ws,xs,e=>by
  unfold wordsP at e
  split at e
  ·rename_i he;cases he
  ·rename_i n l he
   cases he
   split at e
   ·simp only[Option.map_eq_some_iff] at e
    obtain⟨ys,e1,rfl⟩:=e
    obtain⟨p1,p2⟩:=zdN e1
    refine⟨?_,fun x hx=>?_⟩
    ·show (PV.cells (.i .u32 n))++flat ws=_
     rw[p1];rfl
    ·rcases List.mem_cons.1 hx with rfl|hx
     ·rfl
     ·exact p2 x hx
   ·cases e
  ·cases e
theorem zqu {h:Hp} {D:Nat→Prop} {r:List Nat} {args:List PV} {asq:List AV} {l:List UInt8} (e:txtP args=some l) (hv:VL h D r args asq):txtA asq h=some l:=by
 unfold txtP at e
 split at e
 ·rename_i neg ws
  obtain⟨a,as',rfl,h1,h2⟩:=hv.uncons
  rw[h2.of_nil]
  cases h1 with
  | @ag _ _ l' hn hv' =>
   have hv':VL h D r [.b neg,.lst ws] l':=⟨hn,hv'⟩
   obtain⟨b,l2,rfl,h3,h4⟩:=hv'.uncons
   obtain⟨c,l3,rfl,h5,h6⟩:=h4.uncons
   rw[h6.of_nil]
   cases h3
   cases hw:wordsP ws with
   | none=>rw[hw] at e;cases e
   | some xs =>
    rw[hw] at e
    simp only[Option.bind_some] at e
    cases h5 with
    | @lst _ _ m off cap z blk cs e1 d hs hz0 hz hcap hc hv2 =>
     obtain⟨f1,f2⟩:=zdN hw
     show (if ws.length=0 then wtx neg [] else if z=1 then ((h.rd m off ws.length).bind wordsA).bind (wtx neg) else none)=_
     by_cases h0:ws.length=0
     ·have:ws=[]:=List.eq_nil_of_length_eq_zero h0
      subst this
      simp[wordsP] at hw;subst hw
      simpa using e
     ·have hz1:z=1:=by
       cases ws with
       | nil=>simp at h0
       | cons x ws=>rw[←hz x (by simp),f2 x (by simp)]
      subst hz1
      rw[if_neg h0,if_pos rfl]
      have hlen:(flat ws).length=ws.length:=by rw[f1]
      have hrd:h.rd m off ws.length=some ((List.range ws.length).map cs):=by
       have hlast:off+ws.length≤blk.v.length:=by
        have:=hc (ws.length-1) (by omega)
        have:=zaA this
        omega
       simp only[Hp.rd,e1,if_pos hlast]
       congr 1
       apply List.ext_getElem?
       intro i
       rw[List.getElem?_take,List.getElem?_map,List.getElem?_drop]
       by_cases hi:i<ws.length
       ·rw[if_pos hi,hc i (by omega),List.getElem?_range hi];rfl
       ·rw[if_neg hi,List.getElem?_eq_none (by simp;omega)];rfl
      have hv3:∀i (hi:i<ws.length),V h D [] ws[i] (cs i):=fun i hi=>by
       have:=hv2 i (by omega)
       simp only[f1] at this
       exact this
      rw[hrd,Option.bind_some,ziz hw hv3,Option.bind_some]
      exact e
    | lst0 m off cap z =>
     simp[wordsP] at hw;subst hw
     simpa [txtA] using e
    | lsn=>simp[wordsP] at hw;subst hw;exact e
    | lse=>simp[wordsP] at hw;subst hw;exact e
    | le0=>simp[wordsP] at hw;subst hw;exact e
 ·rename_i neg
  obtain⟨a,as',rfl,h1,h2⟩:=hv.uncons
  rw[h2.of_nil]
  cases h1 with
  | @ag _ _ l' hn hv' =>
   have hv':VL h D r [.b neg,.nl] l':=⟨hn,hv'⟩
   obtain⟨b,l2,rfl,h3,h4⟩:=hv'.uncons
   obtain⟨c,l3,rfl,h5,h6⟩:=h4.uncons
   rw[h6.of_nil]
   cases h3
   cases h5 with
   | nln=>exact e
   | nle=>exact e
 ·cases e
theorem zpH {h:Hp} {D:Nat→Prop} {r:List Nat} {f:Nat} {args:List PV} {asq:List AV} {v:PV} (e:libP f args=some v) (hv:VL h D r args asq):∃a,libA f asq=some a∧V h D r v a:=by
 have one:∀{x:PV} {l:List PV} {asq:List AV},VL h D r (x::l) asq→(∃k n,x=.i k n)∨(∃s,x=.s s)→∃as',VL h D r l as'∧((∃k n,x=.i k n∧asq=.i k n::as')∨(∃s,x=.s s∧asq=.s s::as')):=by
  intro x l asq hx ho
  obtain⟨w,ws,rfl,a,b⟩:=hx.uncons
  refine⟨ws,b,?_⟩
  rcases ho with⟨k,n,rfl⟩|⟨s,rfl⟩
  ·cases a;exact .inl ⟨k,n,rfl,rfl⟩
  ·cases a;exact .inr ⟨s,rfl,rfl⟩
 unfold libP at e
 split at e
 ·rename_i n
  obtain⟨as',a,q⟩:=one hv (.inl ⟨_,n,rfl⟩)
  rcases q with⟨k',n',e1,rfl⟩|⟨s,e1,_⟩
  ·cases e1
   rw[a.of_nil]
   split at e
   ·rename_i hc;cases e;exact⟨_,by simp only[libA,if_pos hc],.s _⟩
   ·cases e
  ·cases e1
 ·rename_i l c
  obtain⟨as',a,q⟩:=one hv (.inr ⟨l,rfl⟩)
  rcases q with⟨k',n',e1,_⟩|⟨s,e1,rfl⟩
  ·cases e1
  cases e1
  obtain⟨as2,a2,q⟩:=one a (.inl ⟨_,c,rfl⟩)
  rcases q with⟨k',n',e1,rfl⟩|⟨s,e1,_⟩
  ·cases e1
   rw[a2.of_nil]
   split at e
   ·rename_i hc;cases e;exact⟨_,by simp only[libA,if_pos hc],.s _⟩
   ·cases e
  ·cases e1
 ·rename_i l c
  obtain⟨as',a,q⟩:=one hv (.inr ⟨l,rfl⟩)
  rcases q with⟨k',n',e1,_⟩|⟨s,e1,rfl⟩
  ·cases e1
  cases e1
  obtain⟨as2,a2,q⟩:=one a (.inr ⟨c,rfl⟩)
  rcases q with⟨k',n',e1,_⟩|⟨s,e1,rfl⟩
  ·cases e1
  ·cases e1
   rw[a2.of_nil]
   split at e
   ·rename_i hc;cases e;exact⟨_,by simp only[libA,if_pos hc],.s _⟩
   ·rename_i hc
    split at e
    ·rename_i hf
     split at e
     ·cases e;exact⟨_,by simp only[libA,if_neg hc,if_pos hf],.i _ _⟩
     ·cases e
    ·cases e
 ·rename_i l
  obtain⟨as',a,q⟩:=one hv (.inr ⟨l,rfl⟩)
  rcases q with⟨k',n',e1,_⟩|⟨s,e1,rfl⟩
  ·cases e1
  ·cases e1
   rw[a.of_nil]
   split at e
   ·rename_i hc;cases e;exact⟨_,by simp only[libA,if_pos hc],(fun q:VL h D r [.i .i64 _,.inil] [.i .i64 _,.inil]=>.tu q.1 q.2) (VL.cons (.i _ _) (VL.cons .inil .nil))⟩
   ·cases e
 ·cases e
theorem zns {Gl:Nat→Option (List AV)} (g0:Gl 0=some powT) {Db:Nat→Prop} {r:List Nat} {M:PM} {h:Hp} {f:Nat} {args:List PV} {asq:List AV} {v:PV} {M':PM} (e:orcP f args M=some (v,M')) (I:PInv Gl Db r M h) (hv:VL h (DD Db r M) r args asq):PRes Gl Db r M h v M' (orcA f asq h):=by
 have hg:∃b,h.m 0=some b∧b.v=powT:=by
  obtain⟨b,p1,p2,_⟩:=I.glob 0 powT g0
  exact⟨b,p1,p2.1⟩
 unfold orcP at e
 split at e
 ·rename_i h33
  simp only[Option.map_eq_some_iff] at e
  obtain⟨l,e1,e2⟩:=e
  cases e2
  exact⟨_,h,r,by unfold orcA;rw[if_pos h33,if_pos hg,zqu e1 hv];rfl,I,.refl _ _ _,.s l⟩
 ·rename_i h33
  simp only[Option.map_eq_some_iff] at e
  obtain⟨l,e1,e2⟩:=e
  cases e2
  obtain⟨a,a1,a2⟩:=zpH e1 hv
  exact⟨a,h,r,by unfold orcA;rw[if_neg h33,if_neg (fun q=>q.2 hg),a1];rfl,I,.refl _ _ _,a2⟩
end Go.Eng
namespace Go.Eng
set_option maxRecDepth 100000
def oM (d s:Nat) (a:List Nat):XOper:=⟨some d,.mov (.t s),a,none⟩
def oP (d:Nat) (o:XO) (a:List Nat):XOper:=⟨some d,o,a,none⟩
def oT (d:Nat) (o:XO) (a:List Nat) (g:Nat):XOper:=⟨some d,o,a,some (g,true)⟩
def oF (d:Nat) (o:XO) (a:List Nat) (g:Nat):XOper:=⟨some d,o,a,some (g,false)⟩
def oN (o:XO) (a:List Nat):XOper:=⟨none,o,a,none⟩
@[go_sem] theorem zsW (d s:Nat) (a:List Nat):oM d s a=⟨some d,.mov (.t s),a,none⟩:=_root_.id rfl
@[go_sem] theorem zsY (d:Nat) (o:XO) (a:List Nat):oP d o a=⟨some d,o,a,none⟩:=_root_.id rfl
@[go_sem] theorem zsZ (d:Nat) (o:XO) (a:List Nat) (g:Nat):oT d o a g=⟨some d,o,a,some (g,true)⟩:=_root_.id rfl
@[go_sem] theorem zsV (d:Nat) (o:XO) (a:List Nat) (g:Nat):oF d o a g=⟨some d,o,a,some (g,false)⟩:=_root_.id rfl
@[go_sem] theorem zsX (o:XO) (a:List Nat):oN o a=⟨none,o,a,none⟩:=_root_.id rfl
def xs_1d3e63:List UInt8:=[0,1,2,2,3,3,3,3,4,4,4,4,4,4,4,4,5,5,5,5,5,5,5,5,5,5,5,5,5,5,5,5,6,6,6,6,6,6,6,6,6,6,6,6,6,6,6,6,6,6,6,6,6,6,6,6,6,6,6,6,6,6,6,6,7,7,7,7,7,7,7,7,7,7,7,7,7,7,7,7,7,7,7,7,7,7,7,7,7,7,7,7,7,7,7,7,7,7,7,7,7,7,7,7,7,7,7,7,7,7,7,7,7,7,7,7,7,7,7,7,7,7,7,7,7,7,7,7,8,8,8,8,8,8,8,8,8,8,8,8,8,8,8,8,8,8,8,8,8,8,8,8,8,8,8,8,8,8,8,8,8,8,8,8,8,8,8,8,8,8,8,8,8,8,8,8,8,8,8,8,8,8,8,8,8,8,8,8,8,8,8,8,8,8,8,8,8,8,8,8,8,8,8,8,8,8,8,8,8,8,8,8,8,8,8,8,8,8,8,8,8,8,8,8,8,8,8,8,8,8,8,8,8,8,8,8,8,8,8,8,8,8,8,8,8,8,8,8,8,8,8,8,8,8,8,8]
def zuo:XC:=.seq (.seq (.reg [oM 98 18 [],oP 99 (.bin .lss (.t 98) (.k (.i .i64 4))) [0]]) (.cond (.t 99) .skip (.exit 0))) (.seq (.block 1 (.seq (.reg [oM 103 17 [],oM 104 18 [],oP 105 (.ixs 1 (.t 103) (.t 104)) [0,1],oP 106 (.load false 1 (.t 105)) [2],oP 107 (.call 402 [.t 106]) [3],oM 102 107 [4],oP 108 (.ext (.t 102) 0) [5],oP 109 (.ext (.t 102) 1) [5],oP 19 (.new [.i .i64 0,.i .i64 0,.i .i64 0,.i .i64 0,.i .i64 0,.i .i64 0,.i .i64 0,.i .i64 0,.i .i64 0,.i .i64 0,.i .i64 0,.i .i64 0,.i .i64 0,.i .i64 0,.i .i64 0,.i .i64 0,.i .i64 0,.i .i64 0,.i .i64 0,.i .i64 0]) [],oN (.store 20 (.t 19) (.t 108)) [8,6,4,0,1,2,3,4,5,6,8],oM 20 109 [7,9,0,1,2,3,4,5,6,7,8,9]]) (.seq (.drw [oM 110 20 [],oP 111 (.bin .eql (.t 110) (.k (.i .i64 0))) [0],oM 112 111 [1],oT 113 (.load true 20 (.t 19)) [2] 112,oT 114 (.call 403 [.t 113]) [3,2,2] 112,oT 115 (.b2s (.t 114)) [4,2] 112,oT 116 (.mov (.t 17)) [2] 112,oT 117 (.mov (.t 18)) [2] 112,oT 118 (.ixs 1 (.t 116) (.t 117)) [6,7,2] 112,oT 119 (.load false 1 (.t 118)) [8,2] 112,oT 120 (.b2s (.t 119)) [9,2] 112,oT 121 (.bin .neq (.t 115) (.t 120)) [5,10,2] 112,oP 122 (.pick (.t 112) (.t 121) (.k (.b false))) [2,11],oM 123 122 [12,4],oF 124 (.mov (.t 20)) [13] 123,oF 125 (.bin .neq (.t 124) (.k (.i .i64 0))) [14,13] 123,oF 126 (.mov (.t 125)) [15,13,13] 123,oT 127 (.mov (.t 20)) [16] 126,oT 128 (.bin .neq (.t 127) (.k (.i .i64 2))) [17,16] 126,oT 129 (.mov (.t 128)) [18,16,16] 126,oF 130 (.load true 20 (.t 19)) [19] 129,oF 131 (.build [.i .i64 0,.i .i64 0,.i .i64 0,.i .i64 0,.i .i64 0,.i .i64 0,.i .i64 0,.i .i64 0,.i .i64 0,.i .i64 0,.i .i64 0,.i .i64 0,.i .i64 0,.i .i64 0,.i .i64 0,.i .i64 0,.i .i64 0,.i .i64 0,.i .i64 0,.i .i64 0] []) [19] 129,oF 132 (.eqa true [1,1,1,1,1,1,1,1,1,1,1,1,1,1,1,1,1,1,1,1] (.t 130) (.t 131)) [20,21,19] 129,oT 133 (.pick (.t 129) (.k (.b true)) (.t 132)) [19,22,16] 126,oF 134 (.pick (.t 126) (.t 133) (.k (.b false))) [16,23,13] 123,oP 135 (.pick (.t 123) (.k (.b true)) (.t 134)) [13,24]] [(9,4),(10,4)]) (.cond (.t 135) (.seq (.reg [oP 10 (.mov (.k (.b false))) []]) .ret) .skip)))) (.reg [oM 100 18 [],oP 101 (.bin .add (.t 100) (.k (.i .i64 1))) [0],oM 18 101 [1,0,1]]))
def ztu:XF:=⟨137,.seq (.reg [oP 10 (.mov (.k (.b false))) []]) (.seq (.reg [oM 21 0 [],oP 22 (.call 395 [.t 21,.k (.i .i64 0)]) [0],oP 11 (.new [.i .i64 0,.i .i64 0,.i .i64 0,.i .i64 0,.i .i64 0,.i .i64 0,.i .i64 0,.i .i64 0,.i .i64 0,.i .i64 0,.i .i64 0,.i .i64 0,.i .i64 0,.i .i64 0,.i .i64 0,.i .i64 0,.i .i64 0,.i .i64 0,.i .i64 0,.i .i64 0]) [],oN (.store 20 (.t 11) (.t 22)) [2,1,1,0,1,2]]) (.seq (.reg [oM 23 2 [],oP 24 (.bin .rem (.t 23) (.k (.i .i64 20))) [0],oP 25 (.bin .add (.t 24) (.k (.i .i64 20))) [1],oP 26 (.bin .rem (.t 25) (.k (.i .i64 20))) [2],oM 27 4 [],oP 28 (.ixa 20 1 (.t 11) (.t 26)) [3,0,1,2,3,4],oN (.store 1 (.t 28) (.t 27)) [5,4,0,1,2,3,4]]) (.seq (.reg [oP 29 (.load true 20 (.t 11)) [],oP 30 (.call 401 [.t 29]) [0],oM 12 30 [1,1,0,1]]) (.seq (.reg [oM 32 12 [],oP 33 (.call 402 [.t 32]) [0],oM 31 33 [1],oP 34 (.ext (.t 31) 0) [2],oP 35 (.ext (.t 31) 1) [2],oP 13 (.new [.i .i64 0,.i .i64 0,.i .i64 0,.i .i64 0,.i .i64 0,.i .i64 0,.i .i64 0,.i .i64 0,.i .i64 0,.i .i64 0,.i .i64 0,.i .i64 0,.i .i64 0,.i .i64 0,.i .i64 0,.i .i64 0,.i .i64 0,.i .i64 0,.i .i64 0,.i .i64 0]) [],oN (.store 20 (.t 13) (.t 34)) [5,3,1,0,1,2,3,5],oM 14 35 [4,6,0,1,2,3,4,5,6]]) (.seq (.reg [oM 36 12 [],oP 37 (.call 202 [.t 36]) [0],oM 15 37 [1,1,0,1]]) (.seq (.seq (.drw [oM 38 12 [],oP 39 (.b2s (.t 38)) [0],oP 40 (.load true 20 (.t 11)) [],oP 41 (.call 403 [.t 40]) [2],oP 42 (.b2s (.t 41)) [3],oP 43 (.bin .neq (.t 39) (.t 42)) [1,4],oM 44 43 [5,3],oF 45 (.mov (.t 14)) [6] 44,oF 46 (.bin .neq (.t 45) (.k (.i .i64 0))) [7,6] 44,oP 47 (.pick (.t 44) (.k (.b true)) (.t 46)) [6,8],oM 48 47 [9,6],oF 49 (.load true 20 (.t 13)) [10] 48,oF 50 (.load true 20 (.t 11)) [10] 48,oF 51 (.eqa true [1,1,1,1,1,1,1,1,1,1,1,1,1,1,1,1,1,1,1,1] (.t 49) (.t 50)) [11,12,10] 48,oP 52 (.pick (.t 48) (.k (.b true)) (.t 51)) [10,13],oM 53 52 [14,10],oF 54 (.mov (.t 15)) [15] 53,oF 55 (.eqt false 1 (.t 54) (.k .pn)) [16,15] 53,oP 56 (.pick (.t 53) (.k (.b true)) (.t 55)) [15,17],oM 57 56 [18,15],oF 58 (.mov (.t 15)) [19] 57,oF 59 (.call 249 [.t 58]) [20,19,19] 57,oF 60 (.ixa 20 1 (.t 11) (.k (.i .i64 0))) [19] 57,oF 61 (.load false 1 (.t 60)) [22,19] 57,oF 62 (.bin .neq (.t 59) (.t 61)) [21,23,19] 57,oP 63 (.pick (.t 57) (.k (.b true)) (.t 62)) [19,24]] [(1,3),(23,21)]) (.cond (.t 63) (.seq (.reg [oP 10 (.mov (.k (.b false))) []]) .ret) .skip)) (.seq (.reg [oP 64 (.bsl 0 1 [.i .u8 0] []) [],oM 65 12 [],oP 66 (.app 1 1 (.t 64) (.t 65)) [0,1],oM 16 66 [2,2,0,1,2]]) (.seq (.reg [oM 67 16 [],oM 68 2 [],oM 69 16 [],oP 70 (.len (.t 69)) [2],oP 71 (.bin .rem (.t 68) (.t 70)) [1,3],oM 72 16 [],oP 73 (.len (.t 72)) [5],oP 74 (.bin .add (.t 71) (.t 73)) [4,6],oM 75 16 [],oP 76 (.len (.t 75)) [8],oP 77 (.bin .rem (.t 74) (.t 76)) [7,9],oM 78 3 [],oP 79 (.ixs 1 (.t 67) (.t 77)) [0,10,0,1,2,3,4,5,6,7,8,9,10,11],oN (.store 1 (.t 79) (.t 78)) [12,11,0,1,2,3,4,5,6,7,8,9,10,11]]) (.seq (.drw [oM 80 1 [],oM 81 1 [],oP 82 (.len (.t 81)) [1],oP 83 (.mm false (.t 82) [.k (.i .i64 60)]) [2],oP 84 (.slsl 1 (.t 80) none (some (.t 83)) none) [0,3],oM 85 16 [],oP 86 (.bsl 0 1 [.i .u8 0] []) [],oM 87 12 [],oP 88 (.app 1 1 (.t 86) (.t 87)) [6,7],oM 89 3 [],oP 90 (.bsl 1 1 [.i .u8 0] [(0,(1,.t 89))]) [9],oP 91 (.app 1 1 (.t 88) (.t 90)) [8,10,8],oM 92 12 [],oM 93 12 [],oP 94 (.len (.t 93)) [13],oP 95 (.bin .sub (.t 94) (.k (.i .i64 1))) [14],oP 96 (.slsl 1 (.t 92) none (some (.t 95)) none) [12,15],oP 97 (.bsl 4 1 [.sn] [(0,(1,.t 84)),(1,(1,.t 85)),(2,(1,.t 91)),(3,(1,.t 96))]) [4,5,11,16],oM 17 97 [17,11,0,1,2,3,4,5,6,7,8,9,10,11,12,13,14,15,16,17]] []) (.seq (.seq (.reg [oP 18 (.mov (.k (.i .i64 0))) []]) (.block 0 (.loop zuo))) (.seq (.reg [oP 136 (.call 400 []) [],oM 10 136 [0,0,0]]) .ret))))))))))),[.tmp 10]⟩
def zuJ:XC:=.seq (.seq (.reg [oM 8 6 [],oP 9 (.bin .lss (.t 8) (.k (.i .i64 20))) [0]]) (.cond (.t 9) .skip (.exit 0))) (.seq (.block 1 (.seq (.reg [oM 12 0 [],oM 13 1 [],oM 14 6 [],oP 15 (.bin .add (.t 13) (.t 14)) [1,2],oP 16 (.call 180 [.t 12,.t 15]) [0,3],oM 7 16 [4,4,0,1,2,3,4]]) (.seq (.reg [oM 17 7 [],oP 18 (.bin .rem (.t 17) (.k (.i .i64 5))) [0]]) (.block 2 (.seq (.seq (.reg [oP 20 (.bin .eql (.t 18) (.k (.i .i64 1))) [],oM 19 20 [0]]) (.cond (.t 19) .skip (.reg [oP 21 (.bin .eql (.t 18) (.k (.i .i64 (-1)))) [],oM 19 21 [0]]))) (.cond (.t 19) (.reg [oM 22 6 [],oM 23 7 [],oP 24 (.bin .quo (.t 23) (.k (.i .i64 5))) [1],oP 25 (.bin .rem (.t 24) (.k (.i .i64 10))) [2],oP 26 (.ixa 20 1 (.t 5) (.t 22)) [0,0,1,2,3],oN (.store 1 (.t 26) (.t 25)) [4,3,0,1,2,3]]) (.seq (.reg [oP 28 (.bin .eql (.t 18) (.k (.i .i64 2))) [],oM 27 28 [0]]) (.cond (.t 27) (.reg [oM 29 6 [],oM 30 7 [],oP 31 (.bin .quo (.t 30) (.k (.i .i64 5))) [1],oP 32 (.bin .rem (.t 31) (.k (.i .i64 5000))) [2],oP 33 (.ixa 20 1 (.t 5) (.t 29)) [0,0,1,2,3],oN (.store 1 (.t 33) (.t 32)) [4,3,0,1,2,3]]) (.seq (.reg [oP 35 (.bin .eql (.t 18) (.k (.i .i64 3))) [],oM 34 35 [0]]) (.cond (.t 34) (.reg [oM 36 6 [],oM 37 7 [],oP 38 (.bin .quo (.t 37) (.k (.i .i64 5))) [1],oP 39 (.bin .rem (.t 38) (.k (.i .i64 3))) [2],oP 40 (.bin .sub (.k (.i .i64 1073741824)) (.t 39)) [3],oP 41 (.ixa 20 1 (.t 5) (.t 36)) [0,0,1,2,3,4],oN (.store 1 (.t 41) (.t 40)) [5,4,0,1,2,3,4]]) (.seq (.reg [oP 43 (.bin .eql (.t 18) (.k (.i .i64 (-3)))) [],oM 42 43 [0]]) (.cond (.t 42) (.reg [oM 44 6 [],oM 45 7 [],oP 46 (.bin .quo (.t 45) (.k (.i .i64 5))) [1],oP 47 (.bin .rem (.t 46) (.k (.i .i64 3))) [2],oP 48 (.bin .sub (.k (.i .i64 (-1073741824))) (.t 47)) [3],oP 49 (.ixa 20 1 (.t 5) (.t 44)) [0,0,1,2,3,4],oN (.store 1 (.t 49) (.t 48)) [5,4,0,1,2,3,4]]) .skip)))))))))))) (.reg [oM 10 6 [],oP 11 (.bin .add (.t 10) (.k (.i .i64 1))) [0],oM 6 11 [1,0,1]]))
def zug:XF:=⟨51,.seq (.reg [oP 4 (.new [.i .i64 0,.i .i64 0,.i .i64 0,.i .i64 0,.i .i64 0,.i .i64 0,.i .i64 0,.i .i64 0,.i .i64 0,.i .i64 0,.i .i64 0,.i .i64 0,.i .i64 0,.i .i64 0,.i .i64 0,.i .i64 0,.i .i64 0,.i .i64 0,.i .i64 0,.i .i64 0]) []]) (.seq (.reg [oP 5 (.new [.i .i64 0,.i .i64 0,.i .i64 0,.i .i64 0,.i .i64 0,.i .i64 0,.i .i64 0,.i .i64 0,.i .i64 0,.i .i64 0,.i .i64 0,.i .i64 0,.i .i64 0,.i .i64 0,.i .i64 0,.i .i64 0,.i .i64 0,.i .i64 0,.i .i64 0,.i .i64 0]) []]) (.seq (.seq (.reg [oP 6 (.mov (.k (.i .i64 0))) []]) (.block 0 (.loop zuJ))) (.seq (.reg [oP 50 (.load true 20 (.t 5)) [],oN (.store 20 (.t 4) (.t 50)) [0,0]]) .ret))),[.cell 4 true 20]⟩
def zuv:XC:=.seq (.reg [oP 99 (.bin .lss (.t 98) (.t 97)) []]) (.seq (.cond (.t 99) .skip (.exit 6)) (.seq (.block 7 (.drw [oP 101 (.load true 2 (.t 17)) [],oM 102 18 [],oP 103 (.ixa 3 2 (.t 11) (.t 102)) [1],oP 104 (.load true 2 (.t 103)) [2],oP 105 (.call 38 [.t 101,.t 104]) [0,3],oM 100 105 [4],oP 106 (.ext (.t 100) 0) [5],oP 107 (.ext (.t 100) 1) [5],oN (.store 2 (.t 17) (.t 106)) [6,4,0,1,2,3,4,5,6]] [])) (.reg [oP 108 (.bin .add (.t 98) (.k (.i .i64 1))) [],oM 98 108 [0]])))
def zuy:XC:=.seq (.reg [oP 74 (.bin .lss (.t 73) (.k (.i .i64 3))) []]) (.seq (.cond (.t 74) .skip (.exit 4)) (.seq (.block 5 (.seq (.reg [oM 75 73 [],oM 18 75 [0,0]]) (.seq (.drw [oP 77 (.load true 2 (.t 17)) [],oM 78 18 [],oP 79 (.ixa 3 1 (.t 14) (.t 78)) [1],oP 80 (.load false 1 (.t 79)) [2],oM 81 18 [],oP 82 (.ixa 3 1 (.t 16) (.t 81)) [4],oP 83 (.load false 1 (.t 82)) [5],oP 84 (.ixa 4 4 (.k (.p 2 0)) (.t 80)) [3],oP 85 (.ixa 4 1 (.t 84) (.t 83)) [7,6],oP 86 (.load false 1 (.t 85)) [8],oP 87 (.call 34 [.t 86]) [9],oP 88 (.call 38 [.t 77,.t 87]) [0,10,10],oM 76 88 [11],oP 89 (.ext (.t 76) 0) [12],oP 90 (.ext (.t 76) 1) [12],oN (.store 2 (.t 17) (.t 89)) [13,11,0,1,2,3,4,5,6,7,8,9,10,11,12,13]] [(0,10)]) (.seq (.drw [oM 91 18 [],oP 92 (.ixa 3 1 (.t 14) (.t 91)) [0],oP 93 (.load false 1 (.t 92)) [1],oM 94 18 [],oP 95 (.ixa 3 1 (.t 16) (.t 94)) [3],oP 96 (.load false 1 (.t 95)) [4],oP 97 (.bin .sub (.t 93) (.t 96)) [2,5],oP 98 (.mov (.k (.i .i64 0))) []] []) (.block 6 (.loop zuv)))))) (.reg [oP 109 (.bin .add (.t 73) (.k (.i .i64 1))) [],oM 73 109 [0]])))
def zux:XC:=.seq (.reg [oP 47 (.bin .lss (.t 46) (.k (.i .i64 20))) []]) (.seq (.cond (.t 47) .skip (.exit 2)) (.seq (.block 3 (.seq (.reg [oM 48 46 [],oP 49 (.iag 20 true 3 (.t 45) (.t 46)) [],oP 16 (.new [.i .i64 0,.i .i64 0,.i .i64 0]) [],oM 15 48 [0,0,1,2],oN (.store 3 (.t 16) (.t 49)) [2,1,3,0,1,2,3]]) (.seq (.seq (.reg [oP 50 (.ixa 3 1 (.t 16) (.k (.i .i64 0))) [],oP 51 (.load false 1 (.t 50)) [0],oP 52 (.ixa 3 1 (.t 14) (.k (.i .i64 0))) [],oP 53 (.load false 1 (.t 52)) [2],oP 54 (.bin .gtr (.t 51) (.t 53)) [1,3],oM 55 54 [4],oF 56 (.ixa 3 1 (.t 16) (.k (.i .i64 1))) [5] 55,oF 57 (.load false 1 (.t 56)) [6,5] 55,oF 58 (.ixa 3 1 (.t 14) (.k (.i .i64 1))) [5] 55,oF 59 (.load false 1 (.t 58)) [8,5] 55,oF 60 (.bin .gtr (.t 57) (.t 59)) [7,9,5] 55,oP 61 (.pick (.t 55) (.k (.b true)) (.t 60)) [5,10],oM 62 61 [11,5],oF 63 (.ixa 3 1 (.t 16) (.k (.i .i64 2))) [12] 62,oF 64 (.load false 1 (.t 63)) [13,12] 62,oF 65 (.ixa 3 1 (.t 14) (.k (.i .i64 2))) [12] 62,oF 66 (.load false 1 (.t 65)) [15,12] 62,oF 67 (.bin .gtr (.t 64) (.t 66)) [14,16,12] 62,oP 68 (.pick (.t 62) (.k (.b true)) (.t 67)) [12,17]]) (.cond (.t 68) (.exit 3) .skip)) (.seq (.reg [oM 69 13 [],oP 70 (.ixa 20 1 (.t 4) (.t 69)) [0],oP 71 (.load false 1 (.t 70)) [1],oP 72 (.call 34 [.t 71]) [2],oP 17 (.new [.b false,.sn]) [],oN (.store 2 (.t 17) (.t 72)) [4,3,3,0,1,2,3,4]]) (.seq (.seq (.reg [oP 73 (.mov (.k (.i .i64 0))) []]) (.block 4 (.loop zuy))) (.drw [oM 111 15 [],oM 112 15 [],oP 113 (.ixa 20 2 (.t 12) (.t 112)) [1],oP 114 (.load true 2 (.t 113)) [2],oP 115 (.load true 2 (.t 17)) [],oP 116 (.call 23 [.t 114,.t 115]) [3,4],oM 110 116 [5],oP 117 (.ext (.t 110) 0) [6],oP 118 (.ext (.t 110) 1) [6],oP 119 (.ixa 20 2 (.t 12) (.t 111)) [0,0,1,2,3,4,5,6,7],oN (.store 2 (.t 119) (.t 117)) [9,7,5,0,1,2,3,4,5,6,7]] [])))))) (.reg [oP 120 (.bin .add (.t 46) (.k (.i .i64 1))) [],oM 46 120 [0]])))
def zuA:XC:=.seq (.reg [oP 42 (.bin .lss (.t 41) (.k (.i .i64 20))) []]) (.seq (.cond (.t 42) .skip (.exit 0)) (.seq (.block 1 (.seq (.reg [oM 43 41 [],oP 44 (.iag 20 true 3 (.t 40) (.t 41)) [],oP 14 (.new [.i .i64 0,.i .i64 0,.i .i64 0]) [],oM 13 43 [0,0,1,2],oN (.store 3 (.t 14) (.t 44)) [2,1,3,0,1,2,3]]) (.seq (.reg [oP 45 (.load true 60 (.k (.p 1 0))) [],oP 46 (.mov (.k (.i .i64 0))) []]) (.block 2 (.loop zux))))) (.reg [oP 121 (.bin .add (.t 41) (.k (.i .i64 1))) [],oM 41 121 [0]])))
def zuc:XC:=.seq (.reg [oP 124 (.bin .lss (.t 123) (.k (.i .i64 20))) []]) (.seq (.cond (.t 124) .skip (.exit 8)) (.seq (.block 9 (.seq (.reg [oM 125 123 [],oP 126 (.iag 20 true 2 (.t 122) (.t 123)) [],oP 21 (.new [.b false,.sn]) [],oM 20 125 [0,0,1,2],oN (.store 2 (.t 21) (.t 126)) [2,1,3,0,1,2,3]]) (.seq (.reg [oP 128 (.load true 2 (.t 21)) [],oP 129 (.call 80 [.t 128]) [0],oM 127 129 [1],oP 130 (.ext (.t 127) 0) [2],oP 131 (.ext (.t 127) 1) [2],oM 22 130 [3,1,0,1,2,3],oM 23 131 [4,5,0,1,2,3,4,5]]) (.seq (.seq (.reg [oM 132 23 [],oP 133 (.un .not (.t 132)) [0],oM 134 133 [1],oF 135 (.mov (.t 22)) [2] 134,oF 136 (.bin .lss (.t 135) (.k (.i .i64 (-1073741824)))) [3,2] 134,oP 137 (.pick (.t 134) (.k (.b true)) (.t 136)) [2,4],oM 138 137 [5,2],oF 139 (.mov (.t 22)) [6] 138,oF 140 (.bin .gtr (.t 139) (.k (.i .i64 1073741824))) [7,6] 138,oP 141 (.pick (.t 138) (.k (.b true)) (.t 140)) [6,8]]) (.cond (.t 141) (.seq (.reg [oP 142 (.build [.i .i64 0,.i .i64 0,.i .i64 0,.i .i64 0,.i .i64 0,.i .i64 0,.i .i64 0,.i .i64 0,.i .i64 0,.i .i64 0,.i .i64 0,.i .i64 0,.i .i64 0,.i .i64 0,.i .i64 0,.i .i64 0,.i .i64 0,.i .i64 0,.i .i64 0,.i .i64 0] []) [],oN (.store 20 (.t 8) (.t 142)) [0,0],oP 9 (.mov (.k (.i .i64 5))) [1,0,1]]) .ret) .skip)) (.reg [oM 143 20 [],oM 144 22 [],oP 145 (.ixa 20 1 (.t 19) (.t 143)) [0,0,1],oN (.store 1 (.t 145) (.t 144)) [2,1,0,1]]))))) (.reg [oP 146 (.bin .add (.t 123) (.k (.i .i64 1))) [],oM 123 146 [0]])))
def zth:XF:=⟨148,.seq (.reg [oP 4 (.box (.t 0)) [],oP 8 (.new [.i .i64 0,.i .i64 0,.i .i64 0,.i .i64 0,.i .i64 0,.i .i64 0,.i .i64 0,.i .i64 0,.i .i64 0,.i .i64 0,.i .i64 0,.i .i64 0,.i .i64 0,.i .i64 0,.i .i64 0,.i .i64 0,.i .i64 0,.i .i64 0,.i .i64 0,.i .i64 0]) [],oP 9 (.mov (.k (.i .i64 0))) []]) (.seq (.seq (.reg [oP 24 (.load true 20 (.t 4)) [],oP 25 (.call 416 [.t 24]) [0],oM 10 25 [1,1,0,1]]) (.seq (.reg [oM 26 10 [],oP 27 (.bin .neq (.t 26) (.k (.i .i64 0))) [0]]) (.cond (.t 27) (.seq (.reg [oP 28 (.build [.i .i64 0,.i .i64 0,.i .i64 0,.i .i64 0,.i .i64 0,.i .i64 0,.i .i64 0,.i .i64 0,.i .i64 0,.i .i64 0,.i .i64 0,.i .i64 0,.i .i64 0,.i .i64 0,.i .i64 0,.i .i64 0,.i .i64 0,.i .i64 0,.i .i64 0,.i .i64 0] []) [],oM 29 10 [],oN (.store 20 (.t 8) (.t 28)) [0,0],oM 9 29 [1,2,0,1,2]]) .ret) .skip))) (.seq (.reg [oM 30 1 [],oP 31 (.call 34 [.t 30]) [0],oP 32 (.call 43 [.t 31]) [1,1],oM 33 2 [],oP 34 (.call 34 [.t 33]) [3,2],oP 35 (.call 43 [.t 34]) [4,4],oM 36 3 [],oP 37 (.call 34 [.t 36]) [6,5],oP 38 (.call 43 [.t 37]) [7,7],oP 39 (.build [.b false,.sn,.b false,.sn,.b false,.sn] [(0,(2,.t 32)),(2,(2,.t 35)),(4,(2,.t 38))]) [2,5,8],oP 11 (.new [.b false,.sn,.b false,.sn,.b false,.sn]) [],oN (.store 6 (.t 11) (.t 39)) [10,9,8,0,1,2,3,4,5,6,7,8,9,10]]) (.seq (.reg [oP 12 (.new [.b false,.sn,.b false,.sn,.b false,.sn,.b false,.sn,.b false,.sn,.b false,.sn,.b false,.sn,.b false,.sn,.b false,.sn,.b false,.sn,.b false,.sn,.b false,.sn,.b false,.sn,.b false,.sn,.b false,.sn,.b false,.sn,.b false,.sn,.b false,.sn,.b false,.sn,.b false,.sn]) []]) (.seq (.seq (.reg [oP 40 (.load true 60 (.k (.p 1 0))) [],oP 41 (.mov (.k (.i .i64 0))) []]) (.block 0 (.loop zuA))) (.seq (.reg [oP 19 (.new [.i .i64 0,.i .i64 0,.i .i64 0,.i .i64 0,.i .i64 0,.i .i64 0,.i .i64 0,.i .i64 0,.i .i64 0,.i .i64 0,.i .i64 0,.i .i64 0,.i .i64 0,.i .i64 0,.i .i64 0,.i .i64 0,.i .i64 0,.i .i64 0,.i .i64 0,.i .i64 0]) []]) (.seq (.seq (.reg [oP 122 (.load true 40 (.t 12)) [],oP 123 (.mov (.k (.i .i64 0))) []]) (.block 8 (.loop zuc))) (.seq (.reg [oP 147 (.load true 20 (.t 19)) [],oN (.store 20 (.t 8) (.t 147)) [0,0],oP 9 (.mov (.k (.i .i64 0))) [1,0,1]]) .ret))))))),[.cell 8 true 20,.tmp 9]⟩
def zty:XF:=⟨28,.seq (.reg [oP 2 (.box (.t 0)) [],oP 3 (.box (.t 1)) [],oP 4 (.mov (.k (.i .i64 0))) []]) (.seq (.block 0 (.seq (.reg [oP 6 (.fad 0 (.t 2)) [],oP 7 (.load false 1 (.t 6)) [0],oM 8 7 [1],oT 9 (.fad 0 (.t 3)) [2] 8,oT 10 (.load false 1 (.t 9)) [3,2] 8,oP 11 (.pick (.t 8) (.t 10) (.k (.b false))) [2,4],oM 5 11 [5,2]]) (.cond (.t 5) (.seq (.reg [oP 12 (.fad 1 (.t 3)) [],oP 13 (.load false 1 (.t 12)) [0],oP 14 (.fad 1 (.t 2)) [],oP 15 (.load false 1 (.t 14)) [2],oP 16 (.call 41 [.t 13,.t 15]) [1,3],oM 4 16 [4,4,0,1,2,3,4]]) .ret) (.seq (.reg [oP 18 (.fad 0 (.t 2)) [],oP 19 (.load false 1 (.t 18)) [0],oM 17 19 [1]]) (.cond (.t 17) (.seq (.reg [oP 4 (.mov (.k (.i .i64 (-1)))) []]) .ret) (.seq (.reg [oP 21 (.fad 0 (.t 3)) [],oP 22 (.load false 1 (.t 21)) [0],oM 20 22 [1]]) (.cond (.t 20) (.seq (.reg [oP 4 (.mov (.k (.i .i64 1))) []]) .ret) .skip))))))) (.seq (.reg [oP 23 (.fad 1 (.t 2)) [],oP 24 (.load false 1 (.t 23)) [0],oP 25 (.fad 1 (.t 3)) [],oP 26 (.load false 1 (.t 25)) [2],oP 27 (.call 41 [.t 24,.t 26]) [1,3],oM 4 27 [4,4,0,1,2,3,4]]) .ret)),[.tmp 4]⟩
def zus:XC:=.seq (.reg [oP 9 (.bin .lss (.t 8) (.k (.i .i64 20))) []]) (.seq (.cond (.t 9) .skip (.exit 0)) (.seq (.block 1 (.seq (.reg [oM 10 8 [],oP 11 (.iag 20 false 1 (.t 7) (.t 8)) [],oM 4 10 [0,0,1],oM 5 11 [1,2,0,1,2]]) (.seq (.reg [oM 12 4 [],oP 13 (.ixa 20 3 (.k (.p 1 0)) (.t 12)) [0],oP 14 (.load true 3 (.t 13)) [1],oP 6 (.new [.i .i64 0,.i .i64 0,.i .i64 0]) [],oN (.store 3 (.t 6) (.t 14)) [3,2,0,1,2,3]]) (.seq (.reg [oM 15 5 [],oP 16 (.bin .neq (.t 15) (.k (.i .i64 0))) [0]]) (.cond (.t 16) (.reg [oM 17 3 [],oP 18 (.ixa 3 1 (.t 6) (.k (.i .i64 0))) [],oP 19 (.load false 1 (.t 18)) [1],oP 20 (.ixa 3 1 (.t 6) (.k (.i .i64 1))) [],oP 21 (.load false 1 (.t 20)) [3],oP 22 (.bin .add (.t 19) (.t 21)) [2,4],oP 23 (.ixa 3 1 (.t 6) (.k (.i .i64 2))) [],oP 24 (.load false 1 (.t 23)) [6],oP 25 (.bin .add (.t 22) (.t 24)) [5,7],oP 26 (.mm true (.t 17) [.t 25]) [0,8],oM 3 26 [9,0,1,2,3,4,5,6,7,8,9]]) .skip))))) (.reg [oP 27 (.bin .add (.t 8) (.k (.i .i64 1))) [],oM 8 27 [0]])))
def ztI:XF:=⟨29,.seq (.reg [oP 1 (.box (.t 0)) [],oP 2 (.mov (.k (.i .i64 0))) []]) (.seq (.reg [oP 3 (.mov (.k (.i .i64 (-1)))) []]) (.seq (.seq (.reg [oP 7 (.load true 20 (.t 1)) [],oP 8 (.mov (.k (.i .i64 0))) []]) (.block 0 (.loop zus))) (.seq (.reg [oM 28 3 [],oM 2 28 [0,0]]) .ret))),[.tmp 2]⟩
def ztV:XF:=⟨64,.seq (.reg [oP 0 (.mov (.k (.b false))) []]) (.seq (.reg [oP 10 (.build [.i .i64 0,.i .i64 0,.i .i64 0,.i .i64 0,.i .i64 0,.i .i64 0,.i .i64 0,.i .i64 0,.i .i64 0,.i .i64 0,.i .i64 0,.i .i64 0,.i .i64 0,.i .i64 0,.i .i64 0,.i .i64 0,.i .i64 0,.i .i64 0,.i .i64 0,.i .i64 0] [(0,(1,.k (.i .i64 2))),(1,(1,.k (.i .i64 3))),(2,(1,.k (.i .i64 0))),(3,(1,.k (.i .i64 0))),(4,(1,.k (.i .i64 0))),(5,(1,.k (.i .i64 0))),(6,(1,.k (.i .i64 (-1))))]) [],oP 1 (.new [.i .i64 0,.i .i64 0,.i .i64 0,.i .i64 0,.i .i64 0,.i .i64 0,.i .i64 0,.i .i64 0,.i .i64 0,.i .i64 0,.i .i64 0,.i .i64 0,.i .i64 0,.i .i64 0,.i .i64 0,.i .i64 0,.i .i64 0,.i .i64 0,.i .i64 0,.i .i64 0]) [],oN (.store 20 (.t 1) (.t 10)) [1,0,0,1]]) (.seq (.reg [oP 12 (.call 17 [.k (.i .i64 1),.k (.i .i64 2)]) [],oM 11 12 [0],oP 13 (.ext (.t 11) 0) [1],oP 14 (.ext (.t 11) 1) [1],oP 2 (.new [.b false,.sn,.b false,.sn]) [],oN (.store 4 (.t 2) (.t 13)) [4,2,0,0,1,2,4],oM 3 14 [3,5,0,1,2,3,4,5]]) (.seq (.drw [oP 16 (.load true 20 (.t 1)) [],oP 17 (.load true 4 (.t 2)) [],oP 18 (.build [.b false,.sn,.b false,.sn] []) [],oP 19 (.call 410 [.k (.i .i64 4)]) [],oP 20 (.call 409 [.t 16,.t 17,.t 18,.t 19]) [0,1,2,3,3],oM 15 20 [4],oP 21 (.ext (.t 15) 0) [5],oP 22 (.ext (.t 15) 1) [5],oP 4 (.new [.b false,.sn,.b false,.sn]) [],oN (.store 4 (.t 4) (.t 21)) [8,6,4,0,1,2,3,4,5,6,8],oM 5 22 [7,9,0,1,2,3,4,5,6,7,8,9]] [(0,3),(1,3)]) (.seq (.reg [oP 24 (.load true 20 (.t 1)) [],oP 25 (.call 407 [.t 24]) [0],oM 23 25 [1],oP 26 (.ext (.t 23) 0) [2],oP 27 (.ext (.t 23) 1) [2],oP 6 (.new [.i .i64 0,.i .i64 0,.i .i64 0,.i .i64 0,.i .i64 0,.i .i64 0,.i .i64 0,.i .i64 0,.i .i64 0,.i .i64 0,.i .i64 0,.i .i64 0,.i .i64 0,.i .i64 0,.i .i64 0,.i .i64 0,.i .i64 0,.i .i64 0,.i .i64 0,.i .i64 0,.i .i64 0,.i .i64 0,.i .i64 0,.i .i64 0,.i .i64 0,.i .i64 0,.i .i64 0,.i .i64 0,.i .i64 0,.i .i64 0,.i .i64 0,.i .i64 0,.i .i64 0,.i .i64 0,.i .i64 0,.i .i64 0,.i .i64 0,.i .i64 0,.i .i64 0,.i .i64 0,.i .i64 0,.i .i64 0,.i .i64 0,.i .i64 0,.i .i64 0,.i .i64 0,.i .i64 0,.i .i64 0,.i .i64 0,.i .i64 0,.i .i64 0,.i .i64 0,.i .i64 0,.i .i64 0,.i .i64 0,.i .i64 0,.i .i64 0,.i .i64 0,.i .i64 0,.i .i64 0]) [],oN (.store 60 (.t 6) (.t 26)) [5,3,1,0,1,2,3,5],oM 7 27 [4,6,0,1,2,3,4,5,6]]) (.seq (.reg [oP 29 (.load true 20 (.t 1)) [],oP 30 (.call 396 [.t 29,.k (.i .i64 1),.k (.i .i64 0),.k (.i .i64 0)]) [0],oM 28 30 [1],oP 31 (.ext (.t 28) 0) [2],oP 32 (.ext (.t 28) 1) [2],oP 8 (.new [.i .i64 0,.i .i64 0,.i .i64 0,.i .i64 0,.i .i64 0,.i .i64 0,.i .i64 0,.i .i64 0,.i .i64 0,.i .i64 0,.i .i64 0,.i .i64 0,.i .i64 0,.i .i64 0,.i .i64 0,.i .i64 0,.i .i64 0,.i .i64 0,.i .i64 0,.i .i64 0]) [],oN (.store 20 (.t 8) (.t 31)) [5,3,1,0,1,2,3,5],oM 9 32 [4,6,0,1,2,3,4,5,6]]) (.seq (.reg [oM 33 5 [],oP 34 (.bin .eql (.t 33) (.k (.i .i64 0))) [0],oM 35 34 [1],oT 36 (.mov (.t 7)) [2] 35,oT 37 (.bin .eql (.t 36) (.k (.i .i64 0))) [3,2] 35,oP 38 (.pick (.t 35) (.t 37) (.k (.b false))) [2,4],oM 39 38 [5,2],oT 40 (.mov (.t 9)) [6] 39,oT 41 (.bin .eql (.t 40) (.k (.i .i64 0))) [7,6] 39,oP 42 (.pick (.t 39) (.t 41) (.k (.b false))) [6,8],oM 43 42 [9,6],oT 44 (.load true 4 (.t 4)) [10] 43,oT 45 (.call 16 [.t 44]) [11,10,10] 43,oT 46 (.bin .eql (.t 45) (.k (.s [51,47,50]))) [12,10] 43,oP 47 (.pick (.t 43) (.t 46) (.k (.b false))) [10,13],oM 48 47 [14,12],oT 49 (.ixa 3 20 (.t 6) (.k (.i .i64 0))) [15] 48,oT 50 (.load true 20 (.t 49)) [16,15] 48,oT 51 (.build [.i .i64 0,.i .i64 0,.i .i64 0,.i .i64 0,.i .i64 0,.i .i64 0,.i .i64 0,.i .i64 0,.i .i64 0,.i .i64 0,.i .i64 0,.i .i64 0,.i .i64 0,.i .i64 0,.i .i64 0,.i .i64 0,.i .i64 0,.i .i64 0,.i .i64 0,.i .i64 0] [(0,(1,.k (.i .i64 3))),(1,(1,.k (.i .i64 0))),(2,(1,.k (.i .i64 0))),(3,(1,.k (.i .i64 (-1))))]) [15] 48,oT 52 (.eqa false [1,1,1,1,1,1,1,1,1,1,1,1,1,1,1,1,1,1,1,1] (.t 50) (.t 51)) [17,18,15] 48,oP 53 (.pick (.t 48) (.t 52) (.k (.b false))) [15,19],oM 54 53 [20,15],oT 55 (.load true 20 (.t 8)) [21] 54,oT 56 (.build [.i .i64 0,.i .i64 0,.i .i64 0,.i .i64 0,.i .i64 0,.i .i64 0,.i .i64 0,.i .i64 0,.i .i64 0,.i .i64 0,.i .i64 0,.i .i64 0,.i .i64 0,.i .i64 0,.i .i64 0,.i .i64 0,.i .i64 0,.i .i64 0,.i .i64 0,.i .i64 0] [(0,(1,.k (.i .i64 (-1)))),(1,(1,.k (.i .i64 3))),(2,(1,.k (.i .i64 0))),(3,(1,.k (.i .i64 1))),(4,(1,.k (.i .i64 0))),(5,(1,.k (.i .i64 0))),(6,(1,.k (.i .i64 (-1))))]) [21] 54,oT 57 (.eqa false [1,1,1,1,1,1,1,1,1,1,1,1,1,1,1,1,1,1,1,1] (.t 55) (.t 56)) [22,23,21] 54,oP 58 (.pick (.t 54) (.t 57) (.k (.b false))) [21,24],oM 59 58 [25,21],oT 60 (.load true 20 (.t 1)) [26] 59,oT 61 (.call 399 [.t 60]) [27,26,26] 59,oT 62 (.bin .eql (.t 61) (.k (.i .i64 2))) [28,26] 59,oP 63 (.pick (.t 59) (.t 62) (.k (.b false))) [26,29],oM 0 63 [30,28,0,1,2,3,4,5,6,7,8,9,10,11,12,13,14,15,16,17,18,19,20,21,22,23,24,25,26,27,28,29,30]]) .ret)))))),[.tmp 0]⟩
def zuq:XC:=.seq (.reg [oP 8 (.bin .lss (.t 7) (.k (.i .i64 20))) []]) (.seq (.cond (.t 8) .skip (.exit 0)) (.seq (.block 1 (.seq (.reg [oP 9 (.iag 20 false 1 (.t 6) (.t 7)) [],oM 5 9 [0,0]]) (.reg [oM 10 5 [],oP 11 (.call 267 [.t 3,.t 10]) [0]]))) (.reg [oP 12 (.bin .add (.t 7) (.k (.i .i64 1))) [],oM 7 12 [0]])))
def ztG:XF:=⟨14,.seq (.reg [oP 1 (.box (.t 0)) [],oP 2 (.mov (.k .sn)) []]) (.seq (.reg [oP 3 (.new [.sn]) []]) (.seq (.seq (.reg [oP 6 (.load true 20 (.t 1)) [],oP 7 (.mov (.k (.i .i64 0))) []]) (.block 0 (.loop zuq))) (.seq (.reg [oP 13 (.call 203 [.t 3]) [],oM 2 13 [0,0,0]]) .ret))),[.tmp 2]⟩
def zur:XC:=.seq (.reg [oP 10 (.bin .lss (.t 9) (.k (.i .i64 20))) []]) (.seq (.cond (.t 10) .skip (.exit 0)) (.seq (.block 1 (.seq (.reg [oM 11 9 [],oM 6 11 [0,0]]) (.reg [oM 12 6 [],oM 13 4 [],oP 14 (.call 249 [.t 13]) [1],oP 15 (.ixa 20 1 (.t 5) (.t 12)) [0,0,1,2],oN (.store 1 (.t 15) (.t 14)) [3,2,2,0,1,2]]))) (.reg [oP 16 (.bin .add (.t 9) (.k (.i .i64 1))) [],oM 9 16 [0]])))
def ztD:XF:=⟨30,.seq (.reg [oP 2 (.new [.i .i64 0,.i .i64 0,.i .i64 0,.i .i64 0,.i .i64 0,.i .i64 0,.i .i64 0,.i .i64 0,.i .i64 0,.i .i64 0,.i .i64 0,.i .i64 0,.i .i64 0,.i .i64 0,.i .i64 0,.i .i64 0,.i .i64 0,.i .i64 0,.i .i64 0,.i .i64 0]) [],oP 3 (.mov (.k (.i .i64 0))) []]) (.seq (.reg [oM 7 0 [],oP 8 (.call 202 [.t 7]) [0],oM 4 8 [1,1,0,1]]) (.seq (.reg [oP 5 (.new [.i .i64 0,.i .i64 0,.i .i64 0,.i .i64 0,.i .i64 0,.i .i64 0,.i .i64 0,.i .i64 0,.i .i64 0,.i .i64 0,.i .i64 0,.i .i64 0,.i .i64 0,.i .i64 0,.i .i64 0,.i .i64 0,.i .i64 0,.i .i64 0,.i .i64 0,.i .i64 0]) []]) (.seq (.seq (.reg [oP 9 (.mov (.k (.i .i64 0))) []]) (.block 0 (.loop zur))) (.seq (.seq (.drw [oM 17 4 [],oP 18 (.call 205 [.t 17]) [0],oP 19 (.bin .neq (.t 18) (.k (.i .i64 0))) [1],oM 20 19 [2,1],oF 21 (.load true 20 (.t 5)) [3] 20,oF 22 (.call 401 [.t 21]) [4,3,3] 20,oF 23 (.b2s (.t 22)) [5,3] 20,oF 24 (.mov (.t 0)) [3] 20,oF 25 (.b2s (.t 24)) [7,3] 20,oF 26 (.bin .neq (.t 23) (.t 25)) [6,8,3] 20,oP 27 (.pick (.t 20) (.k (.b true)) (.t 26)) [3,9]] [(8,5)]) (.cond (.t 27) (.seq (.reg [oP 28 (.build [.i .i64 0,.i .i64 0,.i .i64 0,.i .i64 0,.i .i64 0,.i .i64 0,.i .i64 0,.i .i64 0,.i .i64 0,.i .i64 0,.i .i64 0,.i .i64 0,.i .i64 0,.i .i64 0,.i .i64 0,.i .i64 0,.i .i64 0,.i .i64 0,.i .i64 0,.i .i64 0] []) [],oN (.store 20 (.t 2) (.t 28)) [0,0],oP 3 (.mov (.k (.i .i64 2))) [1,0,1]]) .ret) .skip)) (.seq (.reg [oP 29 (.load true 20 (.t 5)) [],oN (.store 20 (.t 2) (.t 29)) [0,0],oP 3 (.mov (.k (.i .i64 0))) [1,0,1]]) .ret))))),[.cell 2 true 20,.tmp 3]⟩
def ztT:XF:=⟨7,.seq (.reg [oP 2 (.mov (.k .pn)) []]) (.seq (.reg [oM 3 0 [],oP 4 (.call 211 [.t 3]) [0],oP 5 (.build [.sn,.i .i64 0] [(0,(1,.t 4))]) [1],oP 6 (.box (.t 5)) [2],oM 2 6 [3,1,0,1,2,3]]) .ret),[.tmp 2]⟩
def zuu:XC:=.seq (.seq (.reg [oM 5 4 [],oP 6 (.bin .lss (.t 5) (.k (.i .i64 20))) [0]]) (.cond (.t 6) .skip (.exit 0))) (.seq (.block 1 (.reg [oM 9 3 [],oM 10 4 [],oP 11 (.ixa 20 1 (.t 1) (.t 10)) [1],oP 12 (.load false 1 (.t 11)) [2],oP 13 (.call 271 [.t 12]) [3],oP 14 (.app 1 1 (.t 9) (.t 13)) [0,4,4],oM 3 14 [5,5,0,1,2,3,4,5]])) (.reg [oM 7 4 [],oP 8 (.bin .add (.t 7) (.k (.i .i64 1))) [0],oM 4 8 [1,0,1]]))
def ztK:XF:=⟨16,.seq (.reg [oP 1 (.box (.t 0)) [],oP 2 (.mov (.k .sn)) []]) (.seq (.reg [oP 3 (.mov (.k .sn)) []]) (.seq (.seq (.reg [oP 4 (.mov (.k (.i .i64 0))) []]) (.block 0 (.loop zuu))) (.seq (.reg [oM 15 3 [],oM 2 15 [0,0]]) .ret))),[.tmp 2]⟩
def x___skymosaic_wire_Reader__Int:XF:=⟨6,.seq (.reg [oP 2 (.mov (.k (.i .i64 0))) []]) (.seq (.reg [oM 3 0 [],oP 4 (.call 223 [.t 3]) [0],oP 5 (.call 273 [.t 4]) [1,1],oM 2 5 [2,2,0,1,2]]) .ret),[.tmp 2]⟩
def ztE:XF:=⟨10,.seq (.reg [oP 1 (.box (.t 0)) [],oP 2 (.mov (.k (.i .i64 0))) []]) (.seq (.drw [oP 3 (.load true 4 (.t 1)) [],oP 4 (.call 64 [.t 3]) [0],oP 5 (.call 63 [.t 4]) [1,1],oP 6 (.load true 4 (.t 1)) [],oP 7 (.call 19 [.t 6]) [3,2],oP 8 (.call 63 [.t 7]) [4,4],oP 9 (.mm true (.t 5) [.t 8]) [2,5],oM 2 9 [6,5,0,1,2,3,4,5,6]] [(3,1),(3,2)]) .ret),[.tmp 2]⟩
def zuC:XC:=.seq (.reg [oP 26 (.bin .lss (.t 25) (.k (.i .i64 3))) []]) (.seq (.cond (.t 26) .skip (.exit 2)) (.seq (.block 3 (.seq (.reg [oM 27 25 [],oP 28 (.iag 3 false 1 (.t 24) (.t 25)) [],oM 8 27 [0,0,1],oM 9 28 [1,2,0,1,2]]) (.seq (.seq (.reg [oM 29 9 [],oP 30 (.bin .eql (.t 29) (.k (.i .i64 0))) [0]]) (.cond (.t 30) (.exit 3) .skip)) (.seq (.reg [oP 31 (.load true 3 (.t 7)) [],oP 10 (.new [.i .i64 0,.i .i64 0,.i .i64 0]) [],oN (.store 3 (.t 10) (.t 31)) [1,0,0,1]]) (.seq (.reg [oM 32 8 [],oP 33 (.ixa 3 1 (.t 10) (.t 32)) [0],oP 34 (.load false 1 (.t 33)) [1],oP 35 (.bin .sub (.t 34) (.k (.i .i64 1))) [2],oP 36 (.ixa 3 1 (.t 10) (.t 32)) [0,0,1,2,3],oN (.store 1 (.t 36) (.t 35)) [4,3,0,1,2,3]]) (.drw [oM 37 8 [],oP 38 (.load true 3 (.t 10)) [],oP 39 (.call 421 [.t 38]) [1],oM 40 9 [],oM 41 6 [],oP 42 (.ixa 20 1 (.t 1) (.t 41)) [4],oP 43 (.load false 1 (.t 42)) [5],oP 44 (.bin .mul (.t 40) (.t 43)) [3,6],oP 45 (.ixa 3 20 (.t 5) (.t 37)) [0],oP 46 (.ixa 20 1 (.t 45) (.t 39)) [8,2,0,1,2,3,4,5,6,7],oN (.store 1 (.t 46) (.t 44)) [9,7,2,0,1,2,3,4,5,6,7]] [(6,2)])))))) (.reg [oP 47 (.bin .add (.t 25) (.k (.i .i64 1))) [],oM 25 47 [0]])))
def zuB:XC:=.seq (.reg [oP 21 (.bin .lss (.t 20) (.k (.i .i64 20))) []]) (.seq (.cond (.t 21) .skip (.exit 0)) (.seq (.block 1 (.seq (.reg [oM 22 20 [],oP 23 (.iag 20 true 3 (.t 19) (.t 20)) [],oP 7 (.new [.i .i64 0,.i .i64 0,.i .i64 0]) [],oM 6 22 [0,0,1,2],oN (.store 3 (.t 7) (.t 23)) [2,1,3,0,1,2,3]]) (.seq (.reg [oP 24 (.load true 3 (.t 7)) [],oP 25 (.mov (.k (.i .i64 0))) []]) (.block 2 (.loop zuC))))) (.reg [oP 48 (.bin .add (.t 20) (.k (.i .i64 1))) [],oM 20 48 [0]])))
def zul:XC:=.seq (.reg [oP 51 (.bin .lss (.t 50) (.k (.i .i64 3))) []]) (.seq (.cond (.t 51) .skip (.exit 4)) (.seq (.block 5 (.seq (.reg [oP 52 (.iag 3 true 20 (.t 49) (.t 50)) [],oP 12 (.new [.i .i64 0,.i .i64 0,.i .i64 0,.i .i64 0,.i .i64 0,.i .i64 0,.i .i64 0,.i .i64 0,.i .i64 0,.i .i64 0,.i .i64 0,.i .i64 0,.i .i64 0,.i .i64 0,.i .i64 0,.i .i64 0,.i .i64 0,.i .i64 0,.i .i64 0,.i .i64 0]) [],oN (.store 20 (.t 12) (.t 52)) [1,0,0,1]]) (.seq (.reg [oP 53 (.load true 20 (.t 12)) [],oP 54 (.call 416 [.t 53]) [0],oP 55 (.bin .neq (.t 54) (.k (.i .i64 0))) [1]]) (.cond (.t 55) (.seq (.reg [oP 56 (.build [.i .i64 0,.i .i64 0,.i .i64 0,.i .i64 0,.i .i64 0,.i .i64 0,.i .i64 0,.i .i64 0,.i .i64 0,.i .i64 0,.i .i64 0,.i .i64 0,.i .i64 0,.i .i64 0,.i .i64 0,.i .i64 0,.i .i64 0,.i .i64 0,.i .i64 0,.i .i64 0,.i .i64 0,.i .i64 0,.i .i64 0,.i .i64 0,.i .i64 0,.i .i64 0,.i .i64 0,.i .i64 0,.i .i64 0,.i .i64 0,.i .i64 0,.i .i64 0,.i .i64 0,.i .i64 0,.i .i64 0,.i .i64 0,.i .i64 0,.i .i64 0,.i .i64 0,.i .i64 0,.i .i64 0,.i .i64 0,.i .i64 0,.i .i64 0,.i .i64 0,.i .i64 0,.i .i64 0,.i .i64 0,.i .i64 0,.i .i64 0,.i .i64 0,.i .i64 0,.i .i64 0,.i .i64 0,.i .i64 0,.i .i64 0,.i .i64 0,.i .i64 0,.i .i64 0,.i .i64 0] []) [],oN (.store 60 (.t 2) (.t 56)) [0,0],oP 3 (.mov (.k (.i .i64 5))) [1,0,1]]) .ret) .skip)))) (.reg [oP 57 (.bin .add (.t 50) (.k (.i .i64 1))) [],oM 50 57 [0]])))
def ztn:XF:=⟨59,.seq (.reg [oP 1 (.box (.t 0)) [],oP 2 (.new [.i .i64 0,.i .i64 0,.i .i64 0,.i .i64 0,.i .i64 0,.i .i64 0,.i .i64 0,.i .i64 0,.i .i64 0,.i .i64 0,.i .i64 0,.i .i64 0,.i .i64 0,.i .i64 0,.i .i64 0,.i .i64 0,.i .i64 0,.i .i64 0,.i .i64 0,.i .i64 0,.i .i64 0,.i .i64 0,.i .i64 0,.i .i64 0,.i .i64 0,.i .i64 0,.i .i64 0,.i .i64 0,.i .i64 0,.i .i64 0,.i .i64 0,.i .i64 0,.i .i64 0,.i .i64 0,.i .i64 0,.i .i64 0,.i .i64 0,.i .i64 0,.i .i64 0,.i .i64 0,.i .i64 0,.i .i64 0,.i .i64 0,.i .i64 0,.i .i64 0,.i .i64 0,.i .i64 0,.i .i64 0,.i .i64 0,.i .i64 0,.i .i64 0,.i .i64 0,.i .i64 0,.i .i64 0,.i .i64 0,.i .i64 0,.i .i64 0,.i .i64 0,.i .i64 0,.i .i64 0]) [],oP 3 (.mov (.k (.i .i64 0))) []]) (.seq (.seq (.reg [oP 13 (.load true 20 (.t 1)) [],oP 14 (.call 416 [.t 13]) [0],oM 4 14 [1,1,0,1]]) (.seq (.reg [oM 15 4 [],oP 16 (.bin .neq (.t 15) (.k (.i .i64 0))) [0]]) (.cond (.t 16) (.seq (.reg [oP 17 (.build [.i .i64 0,.i .i64 0,.i .i64 0,.i .i64 0,.i .i64 0,.i .i64 0,.i .i64 0,.i .i64 0,.i .i64 0,.i .i64 0,.i .i64 0,.i .i64 0,.i .i64 0,.i .i64 0,.i .i64 0,.i .i64 0,.i .i64 0,.i .i64 0,.i .i64 0,.i .i64 0,.i .i64 0,.i .i64 0,.i .i64 0,.i .i64 0,.i .i64 0,.i .i64 0,.i .i64 0,.i .i64 0,.i .i64 0,.i .i64 0,.i .i64 0,.i .i64 0,.i .i64 0,.i .i64 0,.i .i64 0,.i .i64 0,.i .i64 0,.i .i64 0,.i .i64 0,.i .i64 0,.i .i64 0,.i .i64 0,.i .i64 0,.i .i64 0,.i .i64 0,.i .i64 0,.i .i64 0,.i .i64 0,.i .i64 0,.i .i64 0,.i .i64 0,.i .i64 0,.i .i64 0,.i .i64 0,.i .i64 0,.i .i64 0,.i .i64 0,.i .i64 0,.i .i64 0,.i .i64 0] []) [],oM 18 4 [],oN (.store 60 (.t 2) (.t 17)) [0,0],oM 3 18 [1,2,0,1,2]]) .ret) .skip))) (.seq (.reg [oP 5 (.new [.i .i64 0,.i .i64 0,.i .i64 0,.i .i64 0,.i .i64 0,.i .i64 0,.i .i64 0,.i .i64 0,.i .i64 0,.i .i64 0,.i .i64 0,.i .i64 0,.i .i64 0,.i .i64 0,.i .i64 0,.i .i64 0,.i .i64 0,.i .i64 0,.i .i64 0,.i .i64 0,.i .i64 0,.i .i64 0,.i .i64 0,.i .i64 0,.i .i64 0,.i .i64 0,.i .i64 0,.i .i64 0,.i .i64 0,.i .i64 0,.i .i64 0,.i .i64 0,.i .i64 0,.i .i64 0,.i .i64 0,.i .i64 0,.i .i64 0,.i .i64 0,.i .i64 0,.i .i64 0,.i .i64 0,.i .i64 0,.i .i64 0,.i .i64 0,.i .i64 0,.i .i64 0,.i .i64 0,.i .i64 0,.i .i64 0,.i .i64 0,.i .i64 0,.i .i64 0,.i .i64 0,.i .i64 0,.i .i64 0,.i .i64 0,.i .i64 0,.i .i64 0,.i .i64 0,.i .i64 0]) []]) (.seq (.seq (.reg [oP 19 (.load true 60 (.k (.p 1 0))) [],oP 20 (.mov (.k (.i .i64 0))) []]) (.block 0 (.loop zuB))) (.seq (.seq (.reg [oP 49 (.load true 60 (.t 5)) [],oP 50 (.mov (.k (.i .i64 0))) []]) (.block 4 (.loop zul))) (.seq (.reg [oP 58 (.load true 60 (.t 5)) [],oN (.store 60 (.t 2) (.t 58)) [0,0],oP 3 (.mov (.k (.i .i64 0))) [1,0,1]]) .ret))))),[.cell 2 true 60,.tmp 3]⟩
def zt6:XF:=⟨79,.seq (.reg [oP 2 (.box (.t 0)) [],oP 3 (.box (.t 1)) [],oP 4 (.new [.b false,.sn,.b false,.sn]) [],oP 5 (.mov (.k (.i .i64 0))) []]) (.seq (.drw [oP 15 (.load true 4 (.t 2)) [],oP 16 (.call 19 [.t 15]) [0],oP 17 (.load true 4 (.t 3)) [],oP 18 (.call 19 [.t 17]) [2,1],oP 19 (.call 18 [.t 16,.t 18]) [1,3,3],oP 6 (.new [.b false,.sn]) [],oN (.store 2 (.t 6) (.t 19)) [5,4,4,0,1,2,3,4,5]] [(2,1)]) (.seq (.drw [oP 21 (.fad 0 (.t 2)) [],oP 22 (.load true 2 (.t 21)) [0],oP 23 (.load true 4 (.t 3)) [],oP 24 (.call 19 [.t 23]) [2],oP 25 (.load true 2 (.t 6)) [],oP 26 (.call 21 [.t 24,.t 25]) [3,4,3],oP 27 (.bsl 2 2 [.b false,.sn] [(0,(2,.t 22)),(2,(2,.t 26))]) [1,5],oP 28 (.call 20 [.t 27]) [6,5],oM 20 28 [7],oP 29 (.ext (.t 20) 0) [8],oP 30 (.ext (.t 20) 1) [8],oP 7 (.new [.b false,.sn]) [],oN (.store 2 (.t 7) (.t 29)) [11,9,7,0,1,2,3,4,5,6,7,8,9,11],oM 8 30 [10,12,0,1,2,3,4,5,6,7,8,9,10,11,12]] [(1,3),(4,3),(1,5)]) (.seq (.drw [oP 32 (.fad 0 (.t 3)) [],oP 33 (.load true 2 (.t 32)) [0],oP 34 (.load true 4 (.t 2)) [],oP 35 (.call 19 [.t 34]) [2],oP 36 (.load true 2 (.t 6)) [],oP 37 (.call 21 [.t 35,.t 36]) [3,4,3],oP 38 (.bsl 2 2 [.b false,.sn] [(0,(2,.t 33)),(2,(2,.t 37))]) [1,5],oP 39 (.call 20 [.t 38]) [6,5],oM 31 39 [7],oP 40 (.ext (.t 31) 0) [8],oP 41 (.ext (.t 31) 1) [8],oP 9 (.new [.b false,.sn]) [],oN (.store 2 (.t 9) (.t 40)) [11,9,7,0,1,2,3,4,5,6,7,8,9,11],oM 10 41 [10,12,0,1,2,3,4,5,6,7,8,9,10,11,12]] [(1,3),(4,3),(1,5)]) (.seq (.reg [oP 43 (.load true 2 (.t 7)) [],oP 44 (.load true 2 (.t 9)) [],oP 45 (.call 23 [.t 43,.t 44]) [0,1],oM 42 45 [2],oP 46 (.ext (.t 42) 0) [3],oP 47 (.ext (.t 42) 1) [3],oP 11 (.new [.b false,.sn]) [],oN (.store 2 (.t 11) (.t 46)) [6,4,2,0,1,2,3,4,6],oM 12 47 [5,7,0,1,2,3,4,5,6,7]]) (.seq (.drw [oP 49 (.load true 4 (.t 2)) [],oP 50 (.call 19 [.t 49]) [0],oP 51 (.load true 2 (.t 6)) [],oP 52 (.call 21 [.t 50,.t 51]) [1,2,1],oP 53 (.load true 4 (.t 3)) [],oP 54 (.call 19 [.t 53]) [4,3],oP 55 (.bsl 2 2 [.b false,.sn] [(0,(2,.t 52)),(2,(2,.t 54))]) [3,5],oP 56 (.call 20 [.t 55]) [6,5],oM 48 56 [7],oP 57 (.ext (.t 48) 0) [8],oP 58 (.ext (.t 48) 1) [8],oP 13 (.new [.b false,.sn]) [],oN (.store 2 (.t 13) (.t 57)) [11,9,7,0,1,2,3,4,5,6,7,8,9,11],oM 14 58 [10,12,0,1,2,3,4,5,6,7,8,9,10,11,12]] [(2,1),(4,1),(4,3)]) (.seq (.seq (.reg [oM 59 8 [],oP 60 (.bin .neq (.t 59) (.k (.i .i64 0))) [0],oM 61 60 [1],oF 62 (.mov (.t 10)) [2] 61,oF 63 (.bin .neq (.t 62) (.k (.i .i64 0))) [3,2] 61,oP 64 (.pick (.t 61) (.k (.b true)) (.t 63)) [2,4],oM 65 64 [5,2],oF 66 (.mov (.t 12)) [6] 65,oF 67 (.bin .neq (.t 66) (.k (.i .i64 0))) [7,6] 65,oP 68 (.pick (.t 65) (.k (.b true)) (.t 67)) [6,8],oM 69 68 [9,6],oF 70 (.mov (.t 14)) [10] 69,oF 71 (.bin .neq (.t 70) (.k (.i .i64 0))) [11,10] 69,oP 72 (.pick (.t 69) (.k (.b true)) (.t 71)) [10,12]]) (.cond (.t 72) (.seq (.reg [oP 73 (.build [.b false,.sn,.b false,.sn] []) [],oN (.store 4 (.t 4) (.t 73)) [0,0],oP 5 (.mov (.k (.i .i64 4))) [1,0,1]]) .ret) .skip)) (.seq (.reg [oP 74 (.load true 2 (.t 11)) [],oP 75 (.load true 2 (.t 13)) [],oP 76 (.call 24 [.t 74,.t 75]) [0,1],oP 77 (.ext (.t 76) 0) [2],oP 78 (.ext (.t 76) 1) [2],oN (.store 4 (.t 4) (.t 77)) [3,2,0,1,2,3,4],oM 5 78 [4,5,0,1,2,3,4,5]]) .ret))))))),[.cell 4 true 4,.tmp 5]⟩
def zuE:XC:=.seq (.reg [oP 32 (.bin .lss (.t 31) (.k (.i .i64 3))) []]) (.seq (.cond (.t 32) .skip (.exit 0)) (.seq (.block 1 (.seq (.reg [oP 33 (.iag 3 true 4 (.t 30) (.t 31)) [],oP 13 (.new [.b false,.sn,.b false,.sn]) [],oN (.store 4 (.t 13) (.t 33)) [1,0,0,1]]) (.seq (.reg [oP 34 (.load true 4 (.t 13)) [],oP 35 (.call 44 [.t 34]) [0],oP 36 (.bin .gtr (.t 35) (.k (.i .i64 1000))) [1]]) (.cond (.t 36) (.seq (.reg [oP 37 (.build [.b false,.sn,.b false,.sn] []) [],oN (.store 4 (.t 8) (.t 37)) [0,0],oP 9 (.mov (.k (.i .i64 4))) [1,0,1]]) .ret) .skip)))) (.reg [oP 38 (.bin .add (.t 31) (.k (.i .i64 1))) [],oM 31 38 [0]])))
def zuG:XC:=.seq (.reg [oP 58 (.bin .lss (.t 57) (.t 56)) []]) (.seq (.cond (.t 58) .skip (.exit 6)) (.seq (.block 7 (.drw [oP 60 (.load true 4 (.t 17)) [],oM 61 18 [],oP 62 (.ixa 3 4 (.t 11) (.t 61)) [1],oP 63 (.load true 4 (.t 62)) [2],oP 64 (.call 8 [.t 60,.t 63]) [0,3],oM 59 64 [4],oP 65 (.ext (.t 59) 0) [5],oP 66 (.ext (.t 59) 1) [5],oN (.store 4 (.t 17) (.t 65)) [6,4,0,1,2,3,4,5,6]] [])) (.reg [oP 67 (.bin .add (.t 57) (.k (.i .i64 1))) [],oM 57 67 [0]])))
def zuD:XC:=.seq (.reg [oP 53 (.bin .lss (.t 52) (.k (.i .i64 3))) []]) (.seq (.cond (.t 53) .skip (.exit 4)) (.seq (.block 5 (.seq (.reg [oM 54 52 [],oP 55 (.iag 3 false 1 (.t 51) (.t 52)) [],oM 18 54 [0,0,1],oM 19 55 [1,2,0,1,2]]) (.seq (.reg [oM 56 19 [],oP 57 (.mov (.k (.i .i64 0))) []]) (.block 6 (.loop zuG))))) (.reg [oP 68 (.bin .add (.t 52) (.k (.i .i64 1))) [],oM 52 68 [0]])))
def zuF:XC:=.seq (.reg [oP 42 (.bin .lss (.t 41) (.k (.i .i64 20))) []]) (.seq (.cond (.t 42) .skip (.exit 2)) (.seq (.block 3 (.seq (.reg [oM 43 41 [],oP 44 (.iag 20 false 1 (.t 40) (.t 41)) [],oM 15 43 [0,0,1],oM 16 44 [1,2,0,1,2]]) (.seq (.seq (.reg [oM 45 16 [],oP 46 (.bin .eql (.t 45) (.k (.i .i64 0))) [0]]) (.cond (.t 46) (.exit 3) .skip)) (.seq (.reg [oM 47 16 [],oP 48 (.call 425 [.t 47]) [0],oP 17 (.new [.b false,.sn,.b false,.sn]) [],oN (.store 4 (.t 17) (.t 48)) [2,1,1,0,1,2]]) (.seq (.seq (.reg [oM 49 15 [],oP 50 (.ixa 20 3 (.k (.p 1 0)) (.t 49)) [0],oP 51 (.load true 3 (.t 50)) [1],oP 52 (.mov (.k (.i .i64 0))) []]) (.block 4 (.loop zuD))) (.reg [oP 70 (.load true 4 (.t 14)) [],oP 71 (.load true 4 (.t 17)) [],oP 72 (.call 9 [.t 70,.t 71]) [0,1],oM 69 72 [2],oP 73 (.ext (.t 69) 0) [3],oP 74 (.ext (.t 69) 1) [3],oN (.store 4 (.t 14) (.t 73)) [4,2,0,1,2,3,4]])))))) (.reg [oP 75 (.bin .add (.t 41) (.k (.i .i64 1))) [],oM 41 75 [0]])))
def zto:XF:=⟨77,.seq (.reg [oP 4 (.box (.t 0)) [],oP 5 (.box (.t 1)) [],oP 6 (.box (.t 2)) [],oP 7 (.box (.t 3)) [],oP 8 (.new [.b false,.sn,.b false,.sn]) [],oP 9 (.mov (.k (.i .i64 0))) []]) (.seq (.seq (.reg [oP 20 (.load true 20 (.t 4)) [],oP 21 (.call 416 [.t 20]) [0],oM 10 21 [1,1,0,1]]) (.seq (.reg [oM 22 10 [],oP 23 (.bin .neq (.t 22) (.k (.i .i64 0))) [0]]) (.cond (.t 23) (.seq (.reg [oP 24 (.build [.b false,.sn,.b false,.sn] []) [],oM 25 10 [],oN (.store 4 (.t 8) (.t 24)) [0,0],oM 9 25 [1,2,0,1,2]]) .ret) .skip))) (.seq (.reg [oP 26 (.load true 4 (.t 5)) [],oP 27 (.load true 4 (.t 6)) [],oP 28 (.load true 4 (.t 7)) [],oP 29 (.build [.b false,.sn,.b false,.sn,.b false,.sn,.b false,.sn,.b false,.sn,.b false,.sn] [(0,(4,.t 26)),(4,(4,.t 27)),(8,(4,.t 28))]) [0,1,2],oP 11 (.new [.b false,.sn,.b false,.sn,.b false,.sn,.b false,.sn,.b false,.sn,.b false,.sn]) [],oN (.store 12 (.t 11) (.t 29)) [4,3,0,1,2,3,4]]) (.seq (.seq (.reg [oP 30 (.load true 12 (.t 11)) [],oP 31 (.mov (.k (.i .i64 0))) []]) (.block 0 (.loop zuE))) (.seq (.reg [oP 39 (.build [.b false,.sn,.b false,.sn] []) [],oP 14 (.new [.b false,.sn,.b false,.sn]) [],oN (.store 4 (.t 14) (.t 39)) [1,0,0,1]]) (.seq (.seq (.reg [oP 40 (.load true 20 (.t 4)) [],oP 41 (.mov (.k (.i .i64 0))) []]) (.block 2 (.loop zuF))) (.seq (.reg [oP 76 (.load true 4 (.t 14)) [],oN (.store 4 (.t 8) (.t 76)) [0,0],oP 9 (.mov (.k (.i .i64 0))) [1,0,1]]) .ret)))))),[.cell 8 true 4,.tmp 9]⟩
def ztU:XF:=⟨11,.seq (.reg [oP 2 (.new [.b false,.sn,.b false,.sn]) []]) (.seq (.reg [oM 6 0 [],oP 7 (.call 17 [.t 6,.k (.i .i64 1)]) [0],oM 5 7 [1],oP 8 (.ext (.t 5) 0) [2],oP 9 (.ext (.t 5) 1) [2],oP 3 (.new [.b false,.sn,.b false,.sn]) [],oN (.store 4 (.t 3) (.t 8)) [5,3,1,0,1,2,3,5],oM 4 9 [4,6,0,1,2,3,4,5,6]]) (.seq (.reg [oP 10 (.load true 4 (.t 3)) [],oN (.store 4 (.t 2) (.t 10)) [0,0]]) .ret)),[.cell 2 true 4]⟩
def zud:XF:=⟨55,.seq (.reg [oP 2 (.box (.t 0)) [],oP 3 (.box (.t 1)) [],oP 4 (.new [.b false,.sn,.b false,.sn]) [],oP 5 (.mov (.k (.i .i64 0))) []]) (.seq (.drw [oP 12 (.fad 0 (.t 2)) [],oP 13 (.load true 2 (.t 12)) [0],oP 14 (.load true 4 (.t 3)) [],oP 15 (.call 19 [.t 14]) [2],oP 16 (.call 18 [.t 13,.t 15]) [1,3,3],oP 17 (.fad 0 (.t 3)) [],oP 18 (.load true 2 (.t 17)) [5],oP 19 (.load true 4 (.t 2)) [],oP 20 (.call 19 [.t 19]) [7,4],oP 21 (.call 18 [.t 18,.t 20]) [6,8,8],oP 6 (.new [.b false,.sn]) [],oP 7 (.new [.b false,.sn]) [],oN (.store 2 (.t 6) (.t 16)) [10,4,9,0,1,2,3,4,10,11],oN (.store 2 (.t 7) (.t 21)) [11,9,12,0,1,2,3,4,5,6,7,8,9,10,11,12]] [(1,3),(6,3),(6,4),(7,3),(7,4),(6,8)]) (.seq (.drw [oP 23 (.fad 0 (.t 2)) [],oP 24 (.load true 2 (.t 23)) [0],oP 25 (.load true 2 (.t 6)) [],oP 26 (.call 21 [.t 24,.t 25]) [1,2],oP 27 (.fad 0 (.t 3)) [],oP 28 (.load true 2 (.t 27)) [4],oP 29 (.load true 2 (.t 7)) [],oP 30 (.call 21 [.t 28,.t 29]) [5,6,3],oP 31 (.bsl 2 2 [.b false,.sn] [(0,(2,.t 26)),(2,(2,.t 30))]) [3,7],oP 32 (.call 20 [.t 31]) [8,7],oM 22 32 [9],oP 33 (.ext (.t 22) 0) [10],oP 34 (.ext (.t 22) 1) [10],oP 8 (.new [.b false,.sn]) [],oN (.store 2 (.t 8) (.t 33)) [13,11,9,0,1,2,3,4,5,6,7,8,9,10,11,13],oM 9 34 [12,14,0,1,2,3,4,5,6,7,8,9,10,11,12,13,14]] [(5,3),(6,3)]) (.seq (.drw [oP 36 (.load true 4 (.t 2)) [],oP 37 (.call 19 [.t 36]) [0],oP 38 (.load true 2 (.t 7)) [],oP 39 (.call 21 [.t 37,.t 38]) [1,2,1],oP 40 (.load true 4 (.t 3)) [],oP 41 (.call 19 [.t 40]) [4,3],oP 42 (.load true 2 (.t 6)) [],oP 43 (.call 21 [.t 41,.t 42]) [5,6,5],oP 44 (.bsl 2 2 [.b false,.sn] [(0,(2,.t 39)),(2,(2,.t 43))]) [3,7],oP 45 (.call 20 [.t 44]) [8,7],oM 35 45 [9],oP 46 (.ext (.t 35) 0) [10],oP 47 (.ext (.t 35) 1) [10],oP 10 (.new [.b false,.sn]) [],oN (.store 2 (.t 10) (.t 46)) [13,11,9,0,1,2,3,4,5,6,7,8,9,10,11,13],oM 11 47 [12,14,0,1,2,3,4,5,6,7,8,9,10,11,12,13,14]] [(2,1),(4,1),(4,3),(6,1),(6,3),(6,5)]) (.seq (.reg [oP 48 (.load true 2 (.t 8)) [],oP 49 (.load true 2 (.t 10)) [],oM 50 9 [],oM 51 11 [],oP 52 (.call 22 [.t 48,.t 49,.t 50,.t 51]) [0,1,2,3],oP 53 (.ext (.t 52) 0) [4],oP 54 (.ext (.t 52) 1) [4],oN (.store 4 (.t 4) (.t 53)) [5,4,0,1,2,3,4,5,6],oM 5 54 [6,7,0,1,2,3,4,5,6,7]]) .ret)))),[.cell 4 true 4,.tmp 5]⟩
def zum:XF:=⟨13,.seq (.reg [oP 4 (.new [.b false,.sn,.b false,.sn]) [],oP 5 (.mov (.k (.i .i64 0))) []]) (.seq (.reg [oM 6 0 [],oP 7 (.call 34 [.t 6]) [0],oM 8 1 [],oP 9 (.call 34 [.t 8]) [2,1],oP 10 (.call 24 [.t 7,.t 9]) [1,3,3],oP 11 (.ext (.t 10) 0) [4],oP 12 (.ext (.t 10) 1) [4],oN (.store 4 (.t 4) (.t 11)) [5,4,0,1,2,3,4,5,6],oM 5 12 [6,7,0,1,2,3,4,5,6,7]]) .ret),[.cell 4 true 4,.tmp 5]⟩
def zt8:XF:=⟨17,.seq (.reg [oP 4 (.mov (.k (.i .i64 0))) []]) (.seq (.seq (.reg [oM 5 1 [],oP 6 (.bin .lss (.t 5) (.k (.i .i64 0))) [0],oM 7 6 [1],oF 8 (.mov (.t 1)) [2] 7,oF 9 (.mov (.t 0)) [2] 7,oF 10 (.len (.t 9)) [4,2] 7,oF 11 (.bin .geq (.t 8) (.t 10)) [3,5,2] 7,oP 12 (.pick (.t 7) (.k (.b true)) (.t 11)) [2,6]]) (.cond (.t 12) (.seq (.reg [oP 4 (.mov (.k (.i .i64 0))) []]) .ret) .skip)) (.seq (.reg [oM 13 0 [],oM 14 1 [],oP 15 (.ixs 1 (.t 13) (.t 14)) [0,1],oP 16 (.load false 1 (.t 15)) [2],oM 4 16 [3,0,1,2,3]]) .ret)),[.tmp 4]⟩
def zuw:XC:=.seq (.reg [oP 7 (.bin .lss (.t 6) (.k (.i .i64 20))) []]) (.seq (.cond (.t 7) .skip (.exit 0)) (.seq (.block 1 (.seq (.reg [oP 8 (.iag 20 false 1 (.t 5) (.t 6)) [],oM 4 8 [0,0]]) (.seq (.reg [oM 9 4 [],oP 10 (.bin .lss (.t 9) (.k (.i .i64 (-1073741824)))) [0],oM 11 10 [1],oF 12 (.mov (.t 4)) [2] 11,oF 13 (.bin .gtr (.t 12) (.k (.i .i64 1073741824))) [3,2] 11,oP 14 (.pick (.t 11) (.k (.b true)) (.t 13)) [2,4]]) (.cond (.t 14) (.seq (.reg [oP 2 (.mov (.k (.i .i64 1))) []]) .ret) .skip)))) (.reg [oP 15 (.bin .add (.t 6) (.k (.i .i64 1))) [],oM 6 15 [0]])))
def ztM:XF:=⟨16,.seq (.reg [oP 1 (.box (.t 0)) [],oP 2 (.mov (.k (.i .i64 0))) []]) (.seq (.seq (.reg [oP 5 (.load true 20 (.t 1)) [],oP 6 (.mov (.k (.i .i64 0))) []]) (.block 0 (.loop zuw))) (.seq (.reg [oP 2 (.mov (.k (.i .i64 0))) []]) .ret)),[.tmp 2]⟩
def zt9:XF:=⟨15,.seq (.reg [oP 1 (.box (.t 0)) [],oP 2 (.new [.b false,.sn]) []]) (.seq (.reg [oP 3 (.fad 0 (.t 1)) [],oP 4 (.load false 1 (.t 3)) [0],oP 5 (.un .not (.t 4)) [1],oM 6 5 [2],oT 7 (.fad 1 (.t 1)) [3] 6,oT 8 (.load false 1 (.t 7)) [4,3] 6,oT 9 (.len (.t 8)) [5,3] 6,oT 10 (.bin .gtr (.t 9) (.k (.i .i64 0))) [6,3] 6,oP 11 (.pick (.t 6) (.t 10) (.k (.b false))) [3,7],oP 12 (.fad 1 (.t 1)) [],oP 13 (.load false 1 (.t 12)) [9],oP 14 (.build [.b false,.sn] [(0,(1,.t 11)),(1,(1,.t 13))]) [8,10],oN (.store 2 (.t 2) (.t 14)) [11,3,0,1,2,3,4,5,6,7,8,9,10,11]]) .ret),[.cell 2 true 2]⟩
def ztW:XF:=⟨25,.seq (.reg [oP 2 (.new [.b false,.sn]) []]) (.seq (.reg [oM 6 0 [],oP 7 (.cint .u64 (.t 6)) [0],oM 3 7 [1,0,1]]) (.seq (.seq (.reg [oM 8 0 [],oP 9 (.bin .lss (.t 8) (.k (.i .i64 0))) [0]]) (.cond (.t 9) (.reg [oM 10 3 [],oP 11 (.un .neg (.t 10)) [0],oM 3 11 [1,0,1]]) .skip)) (.seq (.reg [oM 13 0 [],oP 14 (.bin .lss (.t 13) (.k (.i .i64 0))) [0],oM 15 3 [],oP 16 (.cint .u32 (.t 15)) [2],oM 17 3 [],oP 18 (.bin .shr (.t 17) (.k (.i .u64 32))) [4],oP 19 (.cint .u32 (.t 18)) [5],oP 20 (.bsl 2 1 [.i .u32 0] [(0,(1,.t 16)),(1,(1,.t 19))]) [3,6],oP 21 (.call 36 [.t 14,.t 20]) [1,7],oM 12 21 [8],oP 22 (.ext (.t 12) 0) [9],oP 23 (.ext (.t 12) 1) [9],oP 4 (.new [.b false,.sn]) [],oN (.store 2 (.t 4) (.t 22)) [12,10,8,0,1,2,3,4,5,6,7,8,9,10,12],oM 5 23 [11,13,0,1,2,3,4,5,6,7,8,9,10,11,12,13]]) (.seq (.reg [oP 24 (.load true 2 (.t 4)) [],oN (.store 2 (.t 2) (.t 24)) [0,0]]) .ret)))),[.cell 2 true 2]⟩
def zui:XF:=⟨19,.seq (.reg [oP 2 (.box (.t 0)) [],oP 3 (.box (.t 1)) [],oP 4 (.new [.b false,.sn]) [],oP 5 (.mov (.k (.i .i64 0))) []]) (.seq (.drw [oP 6 (.fad 0 (.t 2)) [],oP 7 (.load false 1 (.t 6)) [0],oP 8 (.fad 0 (.t 3)) [],oP 9 (.load false 1 (.t 8)) [2],oP 10 (.eqt true 0 (.t 7) (.t 9)) [1,3],oP 11 (.fad 1 (.t 2)) [],oP 12 (.load false 1 (.t 11)) [5],oP 13 (.fad 1 (.t 3)) [],oP 14 (.load false 1 (.t 13)) [7],oP 15 (.call 59 [.t 12,.t 14]) [6,8],oP 16 (.call 36 [.t 10,.t 15]) [4,9,9],oP 17 (.ext (.t 16) 0) [10],oP 18 (.ext (.t 16) 1) [10],oN (.store 2 (.t 4) (.t 17)) [11,10,0,1,2,3,4,5,6,7,8,9,10,11,12],oM 5 18 [12,13,0,1,2,3,4,5,6,7,8,9,10,11,12,13]] [(1,9),(3,9)]) .ret),[.cell 4 true 2,.tmp 5]⟩
def zue:XF:=⟨39,.seq (.reg [oP 2 (.box (.t 0)) [],oP 3 (.box (.t 1)) [],oP 4 (.new [.b false,.sn]) [],oP 5 (.mov (.k (.i .i64 0))) []]) (.seq (.seq (.reg [oP 6 (.fad 0 (.t 2)) [],oP 7 (.load false 1 (.t 6)) [0],oP 8 (.fad 0 (.t 3)) [],oP 9 (.load false 1 (.t 8)) [2],oP 10 (.eqt false 0 (.t 7) (.t 9)) [1,3]]) (.cond (.t 10) (.seq (.drw [oP 11 (.fad 0 (.t 2)) [],oP 12 (.load false 1 (.t 11)) [0],oP 13 (.fad 1 (.t 2)) [],oP 14 (.load false 1 (.t 13)) [2],oP 15 (.fad 1 (.t 3)) [],oP 16 (.load false 1 (.t 15)) [4],oP 17 (.call 40 [.t 14,.t 16]) [3,5],oP 18 (.call 36 [.t 12,.t 17]) [1,6,6],oP 19 (.ext (.t 18) 0) [7],oP 20 (.ext (.t 18) 1) [7],oN (.store 2 (.t 4) (.t 19)) [8,7,0,1,2,3,4,5,6,7,8,9],oM 5 20 [9,10,0,1,2,3,4,5,6,7,8,9,10]] [(1,6)]) .ret) .skip)) (.seq (.seq (.reg [oP 21 (.fad 1 (.t 2)) [],oP 22 (.load false 1 (.t 21)) [0],oP 23 (.fad 1 (.t 3)) [],oP 24 (.load false 1 (.t 23)) [2],oP 25 (.call 41 [.t 22,.t 24]) [1,3],oP 26 (.bin .lss (.t 25) (.k (.i .i64 0))) [4]]) (.cond (.t 26) (.reg [oP 27 (.load true 2 (.t 3)) [],oP 28 (.load true 2 (.t 2)) [],oN (.store 2 (.t 2) (.t 27)) [0,0,1],oN (.store 2 (.t 3) (.t 28)) [1,2,0,1,2]]) .skip)) (.seq (.drw [oP 29 (.fad 0 (.t 2)) [],oP 30 (.load false 1 (.t 29)) [0],oP 31 (.fad 1 (.t 2)) [],oP 32 (.load false 1 (.t 31)) [2],oP 33 (.fad 1 (.t 3)) [],oP 34 (.load false 1 (.t 33)) [4],oP 35 (.call 42 [.t 32,.t 34]) [3,5],oP 36 (.call 36 [.t 30,.t 35]) [1,6,6],oP 37 (.ext (.t 36) 0) [7],oP 38 (.ext (.t 36) 1) [7],oN (.store 2 (.t 4) (.t 37)) [8,7,0,1,2,3,4,5,6,7,8,9],oM 5 38 [9,10,0,1,2,3,4,5,6,7,8,9,10]] [(1,6)]) .ret))),[.cell 4 true 2,.tmp 5]⟩
def ztr:XC:=.seq (.reg [oP 12 (.bin .lss (.t 11) (.t 10)) []]) (.seq (.cond (.t 12) .skip (.exit 0)) (.seq (.block 1 (.seq (.reg [oM 13 11 [],oP 14 (.ixs 1 (.t 9) (.t 11)) [],oP 15 (.load false 1 (.t 14)) [1],oM 5 13 [0,0,1,2],oM 6 15 [2,3,0,1,2,3]]) (.seq (.seq (.reg [oM 16 5 [],oP 17 (.bin .gtr (.t 16) (.k (.i .i64 1))) [0]]) (.cond (.t 17) (.seq (.reg [oP 2 (.mov (.k (.i .i64 0))) [],oP 3 (.mov (.k (.b false))) [0,0]]) .ret) .skip)) (.reg [oM 18 4 [],oM 19 6 [],oP 20 (.cint .u64 (.t 19)) [1],oM 21 5 [],oP 22 (.bin .mul (.k (.i .i64 32)) (.t 21)) [3],oP 23 (.bin .shl (.t 20) (.t 22)) [2,4],oP 24 (.bin .or (.t 18) (.t 23)) [0,5],oM 4 24 [6,0,1,2,3,4,5,6]])))) (.reg [oP 25 (.bin .add (.t 11) (.k (.i .i64 1))) [],oM 11 25 [0]])))
def zs5:XF:=⟨42,.seq (.reg [oP 1 (.box (.t 0)) [],oP 2 (.mov (.k (.i .i64 0))) [],oP 3 (.mov (.k (.b false))) [1]]) (.seq (.reg [oP 4 (.mov (.k (.i .u64 0))) []]) (.seq (.seq (.reg [oP 8 (.fad 1 (.t 1)) [],oP 9 (.load false 1 (.t 8)) [0],oP 10 (.len (.t 9)) [1],oP 11 (.mov (.k (.i .i64 0))) []]) (.block 0 (.loop ztr))) (.seq (.reg [oM 26 4 [],oP 27 (.cint .i64 (.t 26)) [0],oM 7 27 [1,0,1]]) (.seq (.seq (.reg [oP 28 (.fad 0 (.t 1)) [],oP 29 (.load false 1 (.t 28)) [0]]) (.cond (.t 29) (.reg [oM 30 7 [],oP 31 (.un .neg (.t 30)) [0],oM 7 31 [1,0,1]]) .skip)) (.seq (.seq (.reg [oM 32 4 [],oP 33 (.bin .neq (.t 32) (.k (.i .u64 0))) [0],oM 34 33 [1],oT 35 (.mov (.t 7)) [2] 34,oT 36 (.bin .lss (.t 35) (.k (.i .i64 0))) [3,2] 34,oT 37 (.fad 0 (.t 1)) [2] 34,oT 38 (.load false 1 (.t 37)) [5,2] 34,oT 39 (.eqt true 0 (.t 36) (.t 38)) [4,6,2] 34,oP 40 (.pick (.t 34) (.t 39) (.k (.b false))) [2,7]]) (.cond (.t 40) (.seq (.reg [oP 2 (.mov (.k (.i .i64 0))) [],oP 3 (.mov (.k (.b false))) [0,0]]) .ret) .skip)) (.seq (.reg [oM 41 7 [],oM 2 41 [0,0],oP 3 (.mov (.k (.b true))) [1,0,1]]) .ret)))))),[.tmp 2,.tmp 3]⟩
def zup:XC:=.seq (.seq (.reg [oM 19 6 [],oP 20 (.bin .geq (.t 19) (.k (.i .i64 0))) [0]]) (.cond (.t 20) .skip (.exit 0))) (.seq (.block 1 (.seq (.drw [oM 23 0 [],oM 24 6 [],oP 25 (.ixs 1 (.t 23) (.t 24)) [0,1],oP 26 (.load false 1 (.t 25)) [2],oM 27 1 [],oM 28 6 [],oP 29 (.ixs 1 (.t 27) (.t 28)) [4,5],oP 30 (.load false 1 (.t 29)) [6],oP 31 (.call 61 [.t 26,.t 30]) [3,7],oM 7 31 [8,8,0,1,2,3,4,5,6,7,8]] []) (.seq (.reg [oM 32 7 [],oP 33 (.bin .neq (.t 32) (.k (.i .i64 0))) [0]]) (.cond (.t 33) (.seq (.reg [oM 34 7 [],oM 4 34 [0,0]]) .ret) .skip)))) (.reg [oM 21 6 [],oP 22 (.bin .sub (.t 21) (.k (.i .i64 1))) [0],oM 6 22 [1,0,1]]))
def ztw:XF:=⟨35,.seq (.reg [oP 4 (.mov (.k (.i .i64 0))) []]) (.seq (.seq (.reg [oM 8 0 [],oP 9 (.len (.t 8)) [0],oM 10 1 [],oP 11 (.len (.t 10)) [2],oP 12 (.call 60 [.t 9,.t 11]) [1,3],oM 5 12 [4,4,0,1,2,3,4]]) (.seq (.reg [oM 13 5 [],oP 14 (.bin .neq (.t 13) (.k (.i .i64 0))) [0]]) (.cond (.t 14) (.seq (.reg [oM 15 5 [],oM 4 15 [0,0]]) .ret) .skip))) (.seq (.seq (.reg [oM 16 0 [],oP 17 (.len (.t 16)) [0],oP 18 (.bin .sub (.t 17) (.k (.i .i64 1))) [1],oM 6 18 [2,0,1,2]]) (.block 0 (.loop zup))) (.seq (.reg [oP 4 (.mov (.k (.i .i64 0))) []]) .ret))),[.tmp 4]⟩
def zs4:XF:=⟨18,.seq (.reg [oP 1 (.box (.t 0)) [],oP 2 (.mov (.k (.s []))) []]) (.seq (.seq (.reg [oP 3 (.fad 2 (.t 1)) [],oP 4 (.load true 2 (.t 3)) [0],oP 5 (.call 31 [.t 4]) [1],oP 6 (.bin .eql (.t 5) (.k (.i .i64 0))) [2]]) (.cond (.t 6) (.seq (.reg [oP 7 (.fad 0 (.t 1)) [],oP 8 (.load true 2 (.t 7)) [0],oP 9 (.call 33 [.t 8]) [1],oM 2 9 [2,2,0,1,2]]) .ret) .skip)) (.seq (.drw [oP 10 (.fad 0 (.t 1)) [],oP 11 (.load true 2 (.t 10)) [0],oP 12 (.call 33 [.t 11]) [1],oP 13 (.bin .add (.t 12) (.k (.s [47]))) [2],oP 14 (.load true 4 (.t 1)) [],oP 15 (.call 19 [.t 14]) [4,2],oP 16 (.call 33 [.t 15]) [5,5],oP 17 (.bin .add (.t 13) (.t 16)) [3,6],oM 2 17 [7,6,0,1,2,3,4,5,6,7]] [(4,2)]) .ret)),[.tmp 2]⟩
def x___skymosaic_wire_Writer__Int:XF:=⟨8,.reg [oM 4 0 [],oM 5 1 [],oP 6 (.call 283 [.t 5]) [1],oP 7 (.call 210 [.t 4,.t 6]) [0,2,2]],[]⟩
def x___skymosaic_wire_Writer__Done:XF:=⟨8,.seq (.reg [oP 2 (.mov (.k .sn)) []]) (.seq (.reg [oM 3 0 [],oP 4 (.nilck (.t 3)) [0],oP 5 (.fad 0 (.t 4)) [1],oP 6 (.load false 1 (.t 5)) [2],oP 7 (.call 211 [.t 6]) [3],oM 2 7 [4,4,0,1,2,3,4]]) .ret),[.tmp 2]⟩
def x___skymosaic_wire_Reader__End:XF:=⟨20,.seq (.reg [oP 2 (.mov (.k (.i .i64 0))) []]) (.seq (.seq (.reg [oM 3 0 [],oP 4 (.nilck (.t 3)) [0],oP 5 (.fad 1 (.t 4)) [1],oP 6 (.load false 1 (.t 5)) [2],oP 7 (.bin .eql (.t 6) (.k (.i .i64 0))) [3],oM 8 7 [4],oT 9 (.mov (.t 0)) [5] 8,oT 10 (.nilck (.t 9)) [6,5] 8,oT 11 (.fad 0 (.t 10)) [7,5] 8,oT 12 (.load false 1 (.t 11)) [8,5] 8,oT 13 (.len (.t 12)) [9,5] 8,oT 14 (.bin .gtr (.t 13) (.k (.i .i64 0))) [10,5] 8,oP 15 (.pick (.t 8) (.t 14) (.k (.b false))) [5,11]]) (.cond (.t 15) (.seq (.reg [oP 2 (.mov (.k (.i .i64 2))) []]) .ret) .skip)) (.seq (.reg [oM 16 0 [],oP 17 (.nilck (.t 16)) [0],oP 18 (.fad 1 (.t 17)) [1],oP 19 (.load false 1 (.t 18)) [2],oM 2 19 [3,0,1,2,3]]) .ret)),[.tmp 2]⟩
def zs3:XF:=⟨8,.seq (.reg [oP 2 (.mov (.k .sn)) []]) (.seq (.seq (.reg [oM 3 0 [],oP 4 (.eqt false 3 (.t 3) (.k .sn)) [0]]) (.cond (.t 4) (.seq (.reg [oP 2 (.mov (.k .sn)) []]) .ret) .skip)) (.seq (.reg [oP 5 (.bsl 0 1 [.i .u8 0] []) [],oM 6 0 [],oP 7 (.app 1 1 (.t 5) (.t 6)) [0,1],oM 2 7 [2,2,0,1,2]]) .ret)),[.tmp 2]⟩
def zun:XF:=⟨6,.seq (.reg [oP 2 (.mov (.k .sn)) []]) (.seq (.reg [oM 3 0 [],oP 4 (.call 286 [.t 3]) [0],oP 5 (.call 285 [.t 4]) [1,1],oM 2 5 [2,2,0,1,2]]) .ret),[.tmp 2]⟩
def ztt:XF:=⟨11,.seq (.reg [oP 2 (.mov (.k (.i .i64 0))) []]) (.seq (.reg [oM 3 0 [],oP 4 (.bin .shr (.t 3) (.k (.i .u64 1))) [0],oP 5 (.cint .i64 (.t 4)) [1],oM 6 0 [],oP 7 (.bin .and (.t 6) (.k (.i .u64 1))) [3],oP 8 (.cint .i64 (.t 7)) [4],oP 9 (.un .neg (.t 8)) [5],oP 10 (.bin .xor (.t 5) (.t 9)) [2,6],oM 2 10 [7,0,1,2,3,4,5,6,7]]) .ret),[.tmp 2]⟩
def x___skymosaic_wire_Reader__Uint_l1:XC:=.seq (.seq (.reg [oM 6 0 [],oP 7 (.nilck (.t 6)) [0],oP 8 (.fad 1 (.t 7)) [1],oP 9 (.load false 1 (.t 8)) [2],oP 10 (.bin .eql (.t 9) (.k (.i .i64 0))) [3]]) (.cond (.t 10) .skip (.exit 0))) (.seq (.block 1 (.seq (.reg [oM 13 0 [],oP 14 (.call 218 [.t 13]) [0],oM 5 14 [1,1,0,1]]) (.seq (.seq (.reg [oM 15 4 [],oP 16 (.bin .eql (.t 15) (.k (.i .i64 9))) [0],oM 17 16 [1],oT 18 (.mov (.t 5)) [2] 17,oT 19 (.bin .gtr (.t 18) (.k (.i .u8 1))) [3,2] 17,oP 20 (.pick (.t 17) (.t 19) (.k (.b false))) [2,4],oM 21 20 [5,2],oF 22 (.mov (.t 4)) [6] 21,oF 23 (.bin .gtr (.t 22) (.k (.i .i64 0))) [7,6] 21,oF 24 (.mov (.t 23)) [8,6,6] 21,oT 25 (.mov (.t 5)) [9] 24,oT 26 (.bin .eql (.t 25) (.k (.i .u8 0))) [10,9] 24,oF 27 (.pick (.t 24) (.t 26) (.k (.b false))) [9,11,6] 21,oP 28 (.pick (.t 21) (.k (.b true)) (.t 27)) [6,12]]) (.cond (.t 28) (.reg [oM 29 0 [],oP 30 (.call 224 [.t 29,.k (.i .i64 2)]) [0]]) .skip)) (.seq (.reg [oM 31 3 [],oM 32 5 [],oP 33 (.bin .andNot (.t 32) (.k (.i .u8 128))) [1],oP 34 (.cint .u64 (.t 33)) [2],oM 35 4 [],oP 36 (.bin .mul (.k (.i .i64 7)) (.t 35)) [4],oP 37 (.bin .shl (.t 34) (.t 36)) [3,5],oP 38 (.bin .or (.t 31) (.t 37)) [0,6],oM 3 38 [7,0,1,2,3,4,5,6,7]]) (.seq (.reg [oM 39 5 [],oP 40 (.bin .lss (.t 39) (.k (.i .u8 128))) [0],oM 41 40 [1],oT 42 (.mov (.t 0)) [2] 41,oT 43 (.nilck (.t 42)) [3,2] 41,oT 44 (.fad 1 (.t 43)) [4,2] 41,oT 45 (.load false 1 (.t 44)) [5,2] 41,oT 46 (.bin .eql (.t 45) (.k (.i .i64 0))) [6,2] 41,oP 47 (.pick (.t 41) (.t 46) (.k (.b false))) [2,7]]) (.cond (.t 47) (.seq (.reg [oM 48 3 [],oM 2 48 [0,0]]) .ret) .skip)))))) (.reg [oM 11 4 [],oP 12 (.bin .add (.t 11) (.k (.i .i64 1))) [0],oM 4 12 [1,0,1]]))
def x___skymosaic_wire_Reader__Uint:XF:=⟨49,.seq (.reg [oP 2 (.mov (.k (.i .u64 0))) []]) (.seq (.reg [oP 3 (.mov (.k (.i .u64 0))) []]) (.seq (.seq (.reg [oP 4 (.mov (.k (.i .i64 0))) []]) (.block 0 (.loop x___skymosaic_wire_Reader__Uint_l1))) (.seq (.reg [oP 2 (.mov (.k (.i .u64 0))) []]) .ret))),[.tmp 2]⟩
def zt0:XC:=.seq (.seq (.reg [oM 22 4 [],oP 23 (.bin .gtr (.t 22) (.k (.i .i64 0))) [0]]) (.cond (.t 23) .skip (.exit 0))) (.seq (.block 1 (.reg [oM 26 3 [],oP 27 (.bin .add (.t 26) (.k (.i .i64 1))) [0],oM 3 27 [1,0,1]])) (.reg [oM 24 4 [],oP 25 (.bin .quo (.t 24) (.k (.i .i64 2))) [0],oM 4 25 [1,0,1]]))
def ztA:XC:=.seq (.seq (.reg [oP 30 (.load true 2 (.t 1)) [],oP 31 (.load true 2 (.t 7)) [],oP 32 (.call 30 [.t 30,.t 31]) [0,1],oP 33 (.bin .geq (.t 32) (.k (.i .i64 0))) [2]]) (.cond (.t 33) .skip (.exit 2))) (.seq (.block 3 (.seq (.reg [oM 34 6 [],oP 35 (.load true 2 (.t 7)) [],oP 36 (.bsl 1 2 [.b false,.sn] [(0,(2,.t 35))]) [1],oP 37 (.app 2 32 (.t 34) (.t 36)) [0,2],oM 6 37 [3,3,0,1,2,3]]) (.seq (.reg [oP 39 (.load true 2 (.t 7)) [],oP 40 (.load true 2 (.t 7)) [],oP 41 (.call 38 [.t 39,.t 40]) [0,1],oM 38 41 [2],oP 42 (.ext (.t 38) 0) [3],oP 43 (.ext (.t 38) 1) [3],oP 8 (.new [.b false,.sn]) [],oN (.store 2 (.t 8) (.t 42)) [6,4,2,0,1,2,3,4,6],oM 9 43 [5,7,0,1,2,3,4,5,6,7]]) (.seq (.seq (.reg [oM 44 9 [],oP 45 (.bin .neq (.t 44) (.k (.i .i64 0))) [0]]) (.cond (.t 45) (.exit 2) .skip)) (.reg [oP 46 (.load true 2 (.t 8)) [],oN (.store 2 (.t 7) (.t 46)) [0,0]]))))) (.seq (.reg [oP 47 (.load true 2 (.t 7)) []]) (.reg [oP 7 (.new [.b false,.sn]) [],oN (.store 2 (.t 7) (.t 47)) [0,0]])))
def zt1:XC:=.seq (.seq (.reg [oM 51 10 [],oP 52 (.bin .geq (.t 51) (.k (.i .i64 0))) [0]]) (.cond (.t 52) .skip (.exit 4))) (.seq (.block 5 (.seq (.drw [oP 55 (.load true 2 (.t 1)) [],oM 56 6 [],oM 57 10 [],oP 58 (.ixs 2 (.t 56) (.t 57)) [1,2],oP 59 (.load true 2 (.t 58)) [3],oP 60 (.call 30 [.t 55,.t 59]) [0,4],oP 61 (.bin .geq (.t 60) (.k (.i .i64 0))) [5]] []) (.cond (.t 61) (.seq (.drw [oP 63 (.load true 2 (.t 1)) [],oM 64 6 [],oM 65 10 [],oP 66 (.ixs 2 (.t 64) (.t 65)) [1,2],oP 67 (.load true 2 (.t 66)) [3],oP 68 (.call 29 [.t 63,.t 67]) [0,4],oM 62 68 [5],oP 69 (.ext (.t 62) 0) [6],oP 70 (.ext (.t 62) 1) [6],oP 71 (.ext (.t 62) 2) [6],oN (.store 2 (.t 1) (.t 69)) [7,5,0,1,2,3,4,5,6,7]] []) (.reg [oM 72 3 [],oM 73 10 [],oP 74 (.bin .shl (.k (.i .i64 1)) (.t 73)) [1],oP 75 (.bin .add (.t 72) (.t 74)) [0,2],oM 3 75 [3,0,1,2,3]])) .skip))) (.reg [oM 53 10 [],oP 54 (.bin .sub (.t 53) (.k (.i .i64 1))) [0],oM 10 54 [1,0,1]]))
def zte:XF:=⟨80,.seq (.reg [oP 1 (.box (.t 0)) [],oP 2 (.mov (.k (.i .i64 0))) []]) (.seq (.seq (.reg [oP 11 (.load true 2 (.t 1)) [],oP 12 (.call 31 [.t 11]) [0],oP 13 (.bin .lss (.t 12) (.k (.i .i64 0))) [1]]) (.cond (.t 13) (.reg [oP 14 (.load true 2 (.t 1)) [],oP 15 (.call 43 [.t 14]) [0],oN (.store 2 (.t 1) (.t 15)) [1,1,0,1]]) .skip)) (.seq (.reg [oP 3 (.mov (.k (.i .i64 0))) []]) (.seq (.seq (.reg [oP 17 (.load true 2 (.t 1)) [],oP 18 (.call 80 [.t 17]) [0],oM 16 18 [1],oP 19 (.ext (.t 16) 0) [2],oP 20 (.ext (.t 16) 1) [2],oM 4 19 [3,1,0,1,2,3],oM 5 20 [4,5,0,1,2,3,4,5]]) (.seq (.reg [oM 21 5 []]) (.cond (.t 21) (.seq (.block 0 (.loop zt0)) (.seq (.reg [oM 28 3 [],oM 2 28 [0,0]]) .ret)) .skip))) (.seq (.reg [oP 6 (.mov (.k .sn)) []]) (.seq (.seq (.reg [oP 29 (.call 34 [.k (.i .i64 2)]) [],oP 7 (.new [.b false,.sn]) [],oN (.store 2 (.t 7) (.t 29)) [1,0,0,0,1]]) (.block 2 (.loop ztA))) (.seq (.seq (.reg [oM 48 6 [],oP 49 (.len (.t 48)) [0],oP 50 (.bin .sub (.t 49) (.k (.i .i64 1))) [1],oM 10 50 [2,0,1,2]]) (.block 4 (.loop zt1))) (.seq (.reg [oM 76 3 [],oP 77 (.load true 2 (.t 1)) [],oP 78 (.call 31 [.t 77]) [1],oP 79 (.bin .add (.t 76) (.t 78)) [0,2],oM 2 79 [3,2,0,1,2,3]]) .ret))))))),[.tmp 2]⟩
def zs6:XF:=⟨5,.seq (.reg [oP 1 (.box (.t 0)) [],oP 2 (.new [.b false,.sn]) []]) (.seq (.reg [oP 3 (.fad 0 (.t 1)) [],oP 4 (.load true 2 (.t 3)) [0],oN (.store 2 (.t 2) (.t 4)) [1,0,1]]) .ret),[.cell 2 true 2]⟩
def zs7:XF:=⟨10,.seq (.reg [oP 1 (.box (.t 0)) [],oP 2 (.new [.b false,.sn]) []]) (.seq (.drw [oP 3 (.fad 2 (.t 1)) [],oP 4 (.load true 2 (.t 3)) [0],oP 5 (.call 34 [.k (.i .i64 1)]) [],oP 6 (.call 23 [.t 4,.t 5]) [1,2,2],oP 7 (.ext (.t 6) 0) [3],oP 8 (.ext (.t 6) 1) [3],oP 9 (.call 37 [.t 7,.t 8]) [4,5,3],oN (.store 2 (.t 2) (.t 9)) [6,6,0,1,2,3,4,5,6]] [(1,2)]) .ret),[.cell 2 true 2]⟩
def ztm:XF:=⟨30,.seq (.reg [oP 2 (.box (.t 0)) [],oP 3 (.box (.t 1)) [],oP 4 (.new [.b false,.sn,.b false,.sn]) [],oP 5 (.mov (.k (.i .i64 0))) []]) (.seq (.seq (.reg [oP 7 (.load true 2 (.t 3)) [],oP 8 (.call 31 [.t 7]) [0],oP 9 (.bin .eql (.t 8) (.k (.i .i64 0))) [1]]) (.cond (.t 9) (.seq (.reg [oP 10 (.build [.b false,.sn,.b false,.sn] []) [],oN (.store 4 (.t 4) (.t 10)) [0,0],oP 5 (.mov (.k (.i .i64 1))) [1,0,1]]) .ret) .skip)) (.seq (.seq (.reg [oP 11 (.load true 2 (.t 3)) [],oP 12 (.call 31 [.t 11]) [0],oP 13 (.bin .lss (.t 12) (.k (.i .i64 0))) [1]]) (.cond (.t 13) (.drw [oP 14 (.load true 2 (.t 2)) [],oP 15 (.call 43 [.t 14]) [0],oP 16 (.load true 2 (.t 3)) [],oP 17 (.call 43 [.t 16]) [2,1],oN (.store 2 (.t 2) (.t 15)) [1,3,0,1],oN (.store 2 (.t 3) (.t 17)) [3,4,0,1,2,3,4]] [(2,1)]) .skip)) (.seq (.reg [oP 18 (.load true 2 (.t 2)) [],oP 19 (.load true 2 (.t 3)) [],oP 20 (.call 18 [.t 18,.t 19]) [0,1],oP 6 (.new [.b false,.sn]) [],oN (.store 2 (.t 6) (.t 20)) [3,2,2,0,1,2,3]]) (.seq (.drw [oP 21 (.load true 2 (.t 2)) [],oP 22 (.load true 2 (.t 6)) [],oP 23 (.call 21 [.t 21,.t 22]) [0,1],oP 24 (.load true 2 (.t 3)) [],oP 25 (.load true 2 (.t 6)) [],oP 26 (.call 21 [.t 24,.t 25]) [3,4,2],oP 27 (.call 22 [.t 23,.t 26,.k (.i .i64 0),.k (.i .i64 0)]) [2,5,5],oP 28 (.ext (.t 27) 0) [6],oP 29 (.ext (.t 27) 1) [6],oN (.store 4 (.t 4) (.t 28)) [7,6,0,1,2,3,4,5,6,7,8],oM 5 29 [8,9,0,1,2,3,4,5,6,7,8,9]] [(3,2),(4,2)]) .ret)))),[.cell 4 true 4,.tmp 5]⟩
def zuz:XC:=.seq (.reg [oP 5 (.bin .lss (.t 4) (.k (.i .i64 20))) []]) (.seq (.cond (.t 5) .skip (.exit 0)) (.seq (.block 1 (.seq (.reg [oM 6 4 [],oM 3 6 [0,0]]) (.seq (.drw [oM 7 3 [],oP 8 (.ixa 20 3 (.k (.p 1 0)) (.t 7)) [0],oP 9 (.load true 3 (.t 8)) [1],oP 10 (.load true 3 (.t 1)) [],oP 11 (.eqa false [1,1,1] (.t 9) (.t 10)) [2,3]] []) (.cond (.t 11) (.seq (.reg [oM 12 3 [],oM 2 12 [0,0]]) .ret) .skip)))) (.reg [oP 13 (.bin .add (.t 4) (.k (.i .i64 1))) [],oM 4 13 [0]])))
def ztL:XF:=⟨14,.seq (.reg [oP 1 (.box (.t 0)) [],oP 2 (.mov (.k (.i .i64 0))) []]) (.seq (.seq (.reg [oP 4 (.mov (.k (.i .i64 0))) []]) (.block 0 (.loop zuz))) (.seq (.reg [oP 2 (.mov (.k (.i .i64 0))) []]) .ret)),[.tmp 2]⟩
def zuH:XC:=.seq (.seq (.reg [oM 15 6 [],oP 16 (.len (.t 15)) [0],oP 17 (.bin .gtr (.t 16) (.k (.i .i64 0))) [1]]) (.cond (.t 17) .skip (.exit 0))) (.block 1 (.seq (.reg [oM 19 5 [],oM 20 6 [],oP 21 (.call 35 [.t 19,.t 20]) [0,1],oM 18 21 [2],oP 22 (.ext (.t 18) 0) [3],oP 23 (.ext (.t 18) 1) [3],oM 7 22 [4,2,0,1,2,3,4],oM 8 23 [5,6,0,1,2,3,4,5,6]]) (.reg [oM 24 6 [],oM 25 8 [],oM 5 24 [0,0],oM 6 25 [1,2,0,1,2]])))
def zuf:XF:=⟨32,.seq (.reg [oP 2 (.box (.t 0)) [],oP 3 (.box (.t 1)) [],oP 4 (.new [.b false,.sn]) []]) (.seq (.drw [oP 11 (.fad 1 (.t 2)) [],oP 12 (.load false 1 (.t 11)) [0],oP 13 (.fad 1 (.t 3)) [],oP 14 (.load false 1 (.t 13)) [2],oM 5 12 [1,0,1],oM 6 14 [3,4,0,1,2,3,4]] []) (.seq (.block 0 (.loop zuH)) (.seq (.reg [oM 27 5 [],oP 28 (.call 36 [.k (.b false),.t 27]) [0],oM 26 28 [1],oP 29 (.ext (.t 26) 0) [2],oP 30 (.ext (.t 26) 1) [2],oP 9 (.new [.b false,.sn]) [],oN (.store 2 (.t 9) (.t 29)) [5,3,1,0,1,2,3,5],oM 10 30 [4,6,0,1,2,3,4,5,6]]) (.seq (.reg [oP 31 (.load true 2 (.t 9)) [],oN (.store 2 (.t 4) (.t 31)) [0,0]]) .ret)))),[.cell 4 true 2]⟩
def ztJ:XC:=.seq (.reg [oP 13 (.bin .lss (.t 12) (.t 11)) []]) (.seq (.cond (.t 13) .skip (.exit 0)) (.seq (.block 1 (.seq (.reg [oP 14 (.ixs 2 (.t 10) (.t 12)) [],oP 15 (.load true 2 (.t 14)) [0],oP 6 (.new [.b false,.sn]) [],oN (.store 2 (.t 6) (.t 15)) [2,1,0,1,2]]) (.seq (.reg [oP 17 (.load true 2 (.t 4)) [],oP 18 (.load true 2 (.t 6)) [],oP 19 (.call 38 [.t 17,.t 18]) [0,1],oM 16 19 [2],oP 20 (.ext (.t 16) 0) [3],oP 21 (.ext (.t 16) 1) [3],oP 7 (.new [.b false,.sn]) [],oN (.store 2 (.t 7) (.t 20)) [6,4,2,0,1,2,3,4,6],oM 8 21 [5,7,0,1,2,3,4,5,6,7]]) (.seq (.seq (.reg [oM 22 8 [],oP 23 (.bin .neq (.t 22) (.k (.i .i64 0))) [0]]) (.cond (.t 23) (.seq (.reg [oP 24 (.build [.b false,.sn] []) [],oM 25 8 [],oN (.store 2 (.t 2) (.t 24)) [0,0],oM 3 25 [1,2,0,1,2]]) .ret) .skip)) (.reg [oP 26 (.load true 2 (.t 7)) [],oN (.store 2 (.t 4) (.t 26)) [0,0]]))))) (.reg [oP 27 (.bin .add (.t 12) (.k (.i .i64 1))) [],oM 12 27 [0]])))
def ztO:XF:=⟨29,.seq (.reg [oP 2 (.new [.b false,.sn]) [],oP 3 (.mov (.k (.i .i64 0))) []]) (.seq (.reg [oP 9 (.call 34 [.k (.i .i64 1)]) [],oP 4 (.new [.b false,.sn]) [],oN (.store 2 (.t 4) (.t 9)) [1,0,0,0,1]]) (.seq (.seq (.reg [oM 10 0 [],oP 11 (.len (.t 10)) [0],oP 12 (.mov (.k (.i .i64 0))) []]) (.block 0 (.loop ztJ))) (.seq (.reg [oP 28 (.load true 2 (.t 4)) [],oN (.store 2 (.t 2) (.t 28)) [0,0],oP 3 (.mov (.k (.i .i64 0))) [1,0,1]]) .ret))),[.cell 2 true 2,.tmp 3]⟩
def ztS:XF:=⟨16,.seq (.reg [oP 2 (.box (.t 0)) [],oP 3 (.box (.t 1)) [],oP 4 (.new [.b false,.sn]) []]) (.seq (.reg [oP 9 (.load true 2 (.t 2)) [],oP 10 (.load true 2 (.t 3)) [],oP 11 (.call 29 [.t 9,.t 10]) [0,1],oM 8 11 [2],oP 12 (.ext (.t 8) 0) [3],oP 13 (.ext (.t 8) 1) [3],oP 14 (.ext (.t 8) 2) [3],oP 5 (.new [.b false,.sn]) [],oP 6 (.new [.b false,.sn]) [],oN (.store 2 (.t 5) (.t 12)) [7,4,2,0,1,2,3,4,7,8],oN (.store 2 (.t 6) (.t 13)) [8,5,9,0,1,2,3,4,5,7,8,9],oM 7 14 [6,10,0,1,2,3,4,5,6,7,8,9,10]]) (.seq (.reg [oP 15 (.load true 2 (.t 5)) [],oN (.store 2 (.t 4) (.t 15)) [0,0]]) .ret)),[.cell 4 true 2]⟩
def ztP:XF:=⟨11,.seq (.reg [oP 2 (.new [.b false,.sn,.b false,.sn]) []]) (.seq (.reg [oM 6 0 [],oP 7 (.call 17 [.t 6,.k (.i .i64 1)]) [0],oM 5 7 [1],oP 8 (.ext (.t 5) 0) [2],oP 9 (.ext (.t 5) 1) [2],oP 3 (.new [.b false,.sn,.b false,.sn]) [],oN (.store 4 (.t 3) (.t 8)) [5,3,1,0,1,2,3,5],oM 4 9 [4,6,0,1,2,3,4,5,6]]) (.seq (.reg [oP 10 (.load true 4 (.t 3)) [],oN (.store 4 (.t 2) (.t 10)) [0,0]]) .ret)),[.cell 2 true 4]⟩
def ztf:XF:=⟨25,.seq (.reg [oP 4 (.box (.t 0)) [],oP 5 (.box (.t 1)) [],oP 8 (.new [.b false,.sn,.b false,.sn]) [],oP 9 (.mov (.k (.i .i64 0))) []]) (.seq (.seq (.reg [oM 10 2 [],oP 11 (.bin .neq (.t 10) (.k (.i .i64 0))) [0],oM 12 11 [1],oF 13 (.mov (.t 3)) [2] 12,oF 14 (.bin .neq (.t 13) (.k (.i .i64 0))) [3,2] 12,oP 15 (.pick (.t 12) (.k (.b true)) (.t 14)) [2,4]]) (.cond (.t 15) (.seq (.reg [oP 16 (.build [.b false,.sn,.b false,.sn] []) [],oN (.store 4 (.t 8) (.t 16)) [0,0],oP 9 (.mov (.k (.i .i64 4))) [1,0,1]]) .ret) .skip)) (.seq (.drw [oP 17 (.load true 2 (.t 4)) [],oP 18 (.load true 2 (.t 5)) [],oP 19 (.call 34 [.k (.i .i64 1)]) [],oP 20 (.call 39 [.t 18,.t 19]) [1,2,2],oP 21 (.ext (.t 20) 0) [3],oP 22 (.ext (.t 20) 1) [3],oP 23 (.call 37 [.t 21,.t 22]) [4,5,3],oP 24 (.build [.b false,.sn,.b false,.sn] [(0,(2,.t 17)),(2,(2,.t 23))]) [0,6],oN (.store 4 (.t 8) (.t 24)) [7,6,0,1,2,3,4,5,6,7],oP 9 (.mov (.k (.i .i64 0))) [8,0,1,2,3,4,5,6,7,8]] [(0,2),(1,2),(0,3),(0,6)]) .ret)),[.cell 8 true 4,.tmp 9]⟩
def zuk:XF:=⟨58,.seq (.reg [oP 2 (.box (.t 0)) [],oP 3 (.box (.t 1)) [],oP 4 (.new [.b false,.sn]) [],oP 5 (.new [.b false,.sn]) [],oP 6 (.mov (.k (.i .i64 0))) []]) (.seq (.seq (.reg [oP 13 (.fad 1 (.t 3)) [],oP 14 (.load false 1 (.t 13)) [0],oP 15 (.len (.t 14)) [1],oP 16 (.bin .eql (.t 15) (.k (.i .i64 0))) [2]]) (.cond (.t 16) (.seq (.reg [oP 17 (.build [.b false,.sn] []) [],oP 18 (.build [.b false,.sn] []) [],oN (.store 2 (.t 4) (.t 17)) [0,0],oN (.store 2 (.t 5) (.t 18)) [1,2,0,1,2],oP 6 (.mov (.k (.i .i64 1))) [3,0,1,2,3]]) .ret) .skip)) (.seq (.reg [oP 20 (.fad 1 (.t 2)) [],oP 21 (.load false 1 (.t 20)) [0],oP 22 (.fad 1 (.t 3)) [],oP 23 (.load false 1 (.t 22)) [2],oP 24 (.call 35 [.t 21,.t 23]) [1,3],oM 19 24 [4],oP 25 (.ext (.t 19) 0) [5],oP 26 (.ext (.t 19) 1) [5],oM 7 25 [6,4,0,1,2,3,4,5,6],oM 8 26 [7,8,0,1,2,3,4,5,6,7,8]]) (.seq (.seq (.reg [oP 27 (.fad 0 (.t 2)) [],oP 28 (.load false 1 (.t 27)) [0],oM 29 28 [1],oT 30 (.mov (.t 8)) [2] 29,oT 31 (.len (.t 30)) [3,2] 29,oT 32 (.bin .gtr (.t 31) (.k (.i .i64 0))) [4,2] 29,oP 33 (.pick (.t 29) (.t 32) (.k (.b false))) [2,5]]) (.cond (.t 33) (.seq (.reg [oM 34 7 [],oP 35 (.bsl 1 1 [.i .u32 0] [(0,(1,.k (.i .u32 1)))]) [],oP 36 (.call 40 [.t 34,.t 35]) [0,1],oM 7 36 [2,2,0,1,2]]) (.reg [oP 37 (.fad 1 (.t 3)) [],oP 38 (.load false 1 (.t 37)) [0],oM 39 8 [],oP 40 (.call 42 [.t 38,.t 39]) [1,2],oM 8 40 [3,3,0,1,2,3]])) .skip)) (.seq (.reg [oP 42 (.fad 0 (.t 2)) [],oP 43 (.load false 1 (.t 42)) [0],oP 44 (.fad 0 (.t 3)) [],oP 45 (.load false 1 (.t 44)) [2],oP 46 (.eqt true 0 (.t 43) (.t 45)) [1,3],oM 47 7 [],oP 48 (.call 36 [.t 46,.t 47]) [4,5],oM 41 48 [6],oP 49 (.ext (.t 41) 0) [7],oP 50 (.ext (.t 41) 1) [7],oP 9 (.new [.b false,.sn]) [],oN (.store 2 (.t 9) (.t 49)) [10,8,6,0,1,2,3,4,5,6,7,8,10],oM 10 50 [9,11,0,1,2,3,4,5,6,7,8,9,10,11]]) (.seq (.reg [oM 52 8 [],oP 53 (.call 36 [.k (.b false),.t 52]) [0],oM 51 53 [1],oP 54 (.ext (.t 51) 0) [2],oP 55 (.ext (.t 51) 1) [2],oP 11 (.new [.b false,.sn]) [],oN (.store 2 (.t 11) (.t 54)) [5,3,1,0,1,2,3,5],oM 12 55 [4,6,0,1,2,3,4,5,6]]) (.seq (.drw [oP 56 (.load true 2 (.t 9)) [],oP 57 (.load true 2 (.t 11)) [],oN (.store 2 (.t 4) (.t 56)) [0,0],oN (.store 2 (.t 5) (.t 57)) [1,2,0,1,2],oP 6 (.mov (.k (.i .i64 0))) [3,0,1,2,3]] [(1,2)]) .ret)))))),[.cell 4 true 2,.cell 5 true 2,.tmp 6]⟩
def ztY:XF:=⟨6,.seq (.reg [oP 1 (.box (.t 0)) [],oP 2 (.mov (.k (.i .i64 0))) []]) (.seq (.reg [oP 3 (.load true 2 (.t 1)) [],oP 4 (.build [.b false,.sn] []) [],oP 5 (.call 30 [.t 3,.t 4]) [0,1],oM 2 5 [2,2,0,1,2]]) .ret),[.tmp 2]⟩
def zt5:XF:=⟨12,.seq (.reg [oP 2 (.box (.t 0)) [],oP 3 (.box (.t 1)) [],oP 4 (.new [.b false,.sn]) [],oP 5 (.mov (.k (.i .i64 0))) []]) (.seq (.drw [oP 6 (.load true 2 (.t 2)) [],oP 7 (.load true 2 (.t 3)) [],oP 8 (.call 43 [.t 7]) [1],oP 9 (.call 23 [.t 6,.t 8]) [0,2,2],oP 10 (.ext (.t 9) 0) [3],oP 11 (.ext (.t 9) 1) [3],oN (.store 2 (.t 4) (.t 10)) [4,3,0,1,2,3,4,5],oM 5 11 [5,6,0,1,2,3,4,5,6]] [(0,2)]) .ret),[.cell 4 true 2,.tmp 5]⟩
def ztF:XF:=⟨20,.seq (.reg [oP 4 (.new [.b false,.sn]) [],oP 5 (.mov (.k (.i .i64 0))) []]) (.seq (.reg [oM 6 1 [],oP 7 (.call 49 [.t 6]) [0],oM 1 7 [1,1,0,1]]) (.seq (.seq (.reg [oM 8 1 [],oP 9 (.len (.t 8)) [0],oP 10 (.bin .gtr (.t 9) (.k (.i .i64 512))) [1]]) (.cond (.t 10) (.seq (.reg [oP 11 (.build [.b false,.sn] []) [],oN (.store 2 (.t 4) (.t 11)) [0,0],oP 5 (.mov (.k (.i .i64 4))) [1,0,1]]) .ret) .skip)) (.seq (.reg [oM 12 0 [],oM 13 12 [0],oT 14 (.mov (.t 1)) [1] 13,oT 15 (.len (.t 14)) [2,1] 13,oT 16 (.bin .gtr (.t 15) (.k (.i .i64 0))) [3,1] 13,oP 17 (.pick (.t 13) (.t 16) (.k (.b false))) [1,4],oM 18 1 [],oP 19 (.build [.b false,.sn] [(0,(1,.t 17)),(1,(1,.t 18))]) [5,6],oN (.store 2 (.t 4) (.t 19)) [7,1,0,1,2,3,4,5,6,7],oP 5 (.mov (.k (.i .i64 0))) [8,0,1,2,3,4,5,6,7,8]]) .ret))),[.cell 4 true 2,.tmp 5]⟩
def zua:XC:=.seq (.reg [oP 28 (.bin .lss (.t 27) (.t 26)) []]) (.seq (.cond (.t 28) .skip (.exit 2)) (.seq (.block 3 (.seq (.reg [oM 29 27 [],oP 30 (.ixs 1 (.t 25) (.t 27)) [],oP 31 (.load false 1 (.t 30)) [1],oM 9 29 [0,0,1,2],oM 10 31 [2,3,0,1,2,3]]) (.seq (.reg [oM 32 7 [],oP 33 (.cint .u64 (.t 32)) [0],oM 34 10 [],oP 35 (.cint .u64 (.t 34)) [2],oP 36 (.bin .mul (.t 33) (.t 35)) [1,3],oM 37 5 [],oM 38 6 [],oM 39 9 [],oP 40 (.bin .add (.t 38) (.t 39)) [6,7],oP 41 (.ixs 1 (.t 37) (.t 40)) [5,8],oP 42 (.load false 1 (.t 41)) [9],oP 43 (.cint .u64 (.t 42)) [10],oP 44 (.bin .add (.t 36) (.t 43)) [4,11],oM 45 8 [],oP 46 (.bin .add (.t 44) (.t 45)) [12,13],oM 11 46 [14,0,1,2,3,4,5,6,7,8,9,10,11,12,13,14]]) (.seq (.reg [oM 47 5 [],oM 48 6 [],oM 49 9 [],oP 50 (.bin .add (.t 48) (.t 49)) [1,2],oM 51 11 [],oP 52 (.cint .u32 (.t 51)) [4],oP 53 (.ixs 1 (.t 47) (.t 50)) [0,3,0,1,2,3,4,5],oN (.store 1 (.t 53) (.t 52)) [6,5,0,1,2,3,4,5]]) (.reg [oM 54 11 [],oP 55 (.bin .shr (.t 54) (.k (.i .u64 32))) [0],oM 8 55 [1,0,1]]))))) (.reg [oP 56 (.bin .add (.t 27) (.k (.i .i64 1))) [],oM 27 56 [0]])))
def zub:XC:=.seq (.reg [oP 21 (.bin .lss (.t 20) (.t 19)) []]) (.seq (.cond (.t 21) .skip (.exit 0)) (.seq (.block 1 (.seq (.reg [oM 22 20 [],oP 23 (.ixs 1 (.t 18) (.t 20)) [],oP 24 (.load false 1 (.t 23)) [1],oM 6 22 [0,0,1,2],oM 7 24 [2,3,0,1,2,3]]) (.seq (.reg [oP 8 (.mov (.k (.i .u64 0))) []]) (.seq (.seq (.reg [oM 25 1 [],oP 26 (.len (.t 25)) [0],oP 27 (.mov (.k (.i .i64 0))) []]) (.block 2 (.loop zua))) (.reg [oM 57 5 [],oM 58 6 [],oM 59 1 [],oP 60 (.len (.t 59)) [2],oP 61 (.bin .add (.t 58) (.t 60)) [1,3],oM 62 8 [],oP 63 (.cint .u32 (.t 62)) [5],oP 64 (.ixs 1 (.t 57) (.t 61)) [0,4,0,1,2,3,4,5,6],oN (.store 1 (.t 64) (.t 63)) [7,6,0,1,2,3,4,5,6]]))))) (.reg [oP 65 (.bin .add (.t 20) (.k (.i .i64 1))) [],oM 20 65 [0]])))
def zti:XF:=⟨67,.seq (.reg [oP 4 (.mov (.k .sn)) []]) (.seq (.reg [oM 12 0 [],oP 13 (.len (.t 12)) [0],oM 14 1 [],oP 15 (.len (.t 14)) [2],oP 16 (.bin .add (.t 13) (.t 15)) [1,3],oP 17 (.msl [.i .u32 0] 4 (.t 16) (.t 16)) [4,4],oM 5 17 [5,0,1,2,3,4,5]]) (.seq (.seq (.reg [oM 18 0 [],oP 19 (.len (.t 18)) [0],oP 20 (.mov (.k (.i .i64 0))) []]) (.block 0 (.loop zub))) (.seq (.reg [oM 66 5 [],oM 4 66 [0,0]]) .ret))),[.tmp 4]⟩
def ztH:XC:=.seq (.reg [oP 24 (.bin .lss (.t 23) (.t 22)) []]) (.seq (.cond (.t 24) .skip (.exit 0)) (.seq (.block 1 (.seq (.reg [oM 25 23 [],oM 7 25 [0,0]]) (.seq (.reg [oP 8 (.mov (.k (.i .u64 0))) []]) (.seq (.seq (.reg [oM 26 7 [],oM 27 0 [],oP 28 (.len (.t 27)) [1],oP 29 (.bin .lss (.t 26) (.t 28)) [0,2]]) (.cond (.t 29) (.reg [oM 30 8 [],oM 31 0 [],oM 32 7 [],oP 33 (.ixs 1 (.t 31) (.t 32)) [1,2],oP 34 (.load false 1 (.t 33)) [3],oP 35 (.cint .u64 (.t 34)) [4],oP 36 (.bin .add (.t 30) (.t 35)) [0,5],oM 8 36 [6,0,1,2,3,4,5,6]]) .skip)) (.seq (.seq (.reg [oM 37 7 [],oM 38 1 [],oP 39 (.len (.t 38)) [1],oP 40 (.bin .lss (.t 37) (.t 39)) [0,2]]) (.cond (.t 40) (.reg [oM 41 8 [],oM 42 1 [],oM 43 7 [],oP 44 (.ixs 1 (.t 42) (.t 43)) [1,2],oP 45 (.load false 1 (.t 44)) [3],oP 46 (.cint .u64 (.t 45)) [4],oP 47 (.bin .add (.t 41) (.t 46)) [0,5],oM 8 47 [6,0,1,2,3,4,5,6]]) .skip)) (.reg [oM 48 5 [],oM 49 7 [],oM 50 6 [],oM 51 8 [],oP 52 (.callv (.t 50) [.t 51]) [2,3],oP 53 (.ixs 1 (.t 48) (.t 49)) [0,1,0,1,2,3,4],oN (.store 1 (.t 53) (.t 52)) [5,4,4,0,1,2,3,4]])))))) (.reg [oP 54 (.bin .add (.t 23) (.k (.i .i64 1))) [],oM 23 54 [0]])))
def zt7:XF:=⟨56,.seq (.reg [oP 4 (.mov (.k .sn)) []]) (.seq (.seq (.reg [oM 9 0 [],oP 10 (.len (.t 9)) [0],oM 11 1 [],oP 12 (.len (.t 11)) [2],oP 13 (.bin .lss (.t 10) (.t 12)) [1,3]]) (.cond (.t 13) (.reg [oM 14 1 [],oM 15 0 [],oM 0 14 [0,0,1],oM 1 15 [1,2,0,1,2]]) .skip)) (.seq (.reg [oM 16 0 [],oP 17 (.len (.t 16)) [0],oP 18 (.bin .add (.t 17) (.k (.i .i64 1))) [1],oP 19 (.msl [.i .u32 0] 4 (.t 18) (.t 18)) [2,2],oM 5 19 [3,0,1,2,3]]) (.seq (.reg [oP 20 (.call 58 []) [],oM 6 20 [0,0,0]]) (.seq (.seq (.reg [oM 21 5 [],oP 22 (.len (.t 21)) [0],oP 23 (.mov (.k (.i .i64 0))) []]) (.block 0 (.loop ztH))) (.seq (.reg [oM 55 5 [],oM 4 55 [0,0]]) .ret))))),[.tmp 4]⟩
def zta:XF:=⟨16,.seq (.reg [oP 4 (.mov (.k .sn)) []]) (.seq (.reg [oM 6 0 [],oP 7 (.len (.t 6)) [0],oP 8 (.msl [.i .u32 0] 4 (.t 7) (.t 7)) [1,1],oM 5 8 [2,0,1,2]]) (.seq (.reg [oM 9 5 [],oM 10 0 [],oP 11 (.cpy 1 (.t 9) (.t 10)) [0,1]]) (.seq (.reg [oM 12 5 [],oM 13 1 [],oP 14 (.call 62 [.t 12,.t 13]) [0,1]]) (.seq (.reg [oM 15 5 [],oM 4 15 [0,0]]) .ret)))),[.tmp 4]⟩
def ztj:XF:=⟨20,.seq (.reg [oP 4 (.mov (.k (.i .i64 0))) []]) (.seq (.reg [oM 7 0 [],oP 8 (.call 78 [.t 7]) [0],oM 5 8 [1,1,0,1]]) (.seq (.reg [oM 9 1 [],oP 10 (.call 78 [.t 9]) [0],oM 6 10 [1,1,0,1]]) (.seq (.seq (.reg [oM 11 5 []]) (.cond (.t 11) (.seq (.seq (.reg [oM 12 6 []]) (.cond (.t 12) (.seq (.reg [oP 4 (.mov (.k (.i .i64 0))) []]) .ret) .skip)) (.seq (.reg [oP 4 (.mov (.k (.i .i64 (-1)))) []]) .ret)) .skip)) (.seq (.seq (.reg [oM 13 6 []]) (.cond (.t 13) (.seq (.reg [oP 4 (.mov (.k (.i .i64 1))) []]) .ret) .skip)) (.seq (.seq (.reg [oM 14 0 [],oM 15 1 [],oP 16 (.bin .lss (.t 14) (.t 15)) [0,1]]) (.cond (.t 16) (.seq (.reg [oP 4 (.mov (.k (.i .i64 (-1)))) []]) .ret) .skip)) (.seq (.seq (.reg [oM 17 0 [],oM 18 1 [],oP 19 (.bin .gtr (.t 17) (.t 18)) [0,1]]) (.cond (.t 19) (.seq (.reg [oP 4 (.mov (.k (.i .i64 1))) []]) .ret) .skip)) (.seq (.reg [oP 4 (.mov (.k (.i .i64 0))) []]) .ret))))))),[.tmp 4]⟩
def ztc:XF:=⟨20,.seq (.reg [oP 4 (.mov (.k (.i .i64 0))) []]) (.seq (.reg [oM 7 0 [],oP 8 (.call 79 [.t 7]) [0],oM 5 8 [1,1,0,1]]) (.seq (.reg [oM 9 1 [],oP 10 (.call 79 [.t 9]) [0],oM 6 10 [1,1,0,1]]) (.seq (.seq (.reg [oM 11 5 []]) (.cond (.t 11) (.seq (.seq (.reg [oM 12 6 []]) (.cond (.t 12) (.seq (.reg [oP 4 (.mov (.k (.i .i64 0))) []]) .ret) .skip)) (.seq (.reg [oP 4 (.mov (.k (.i .i64 (-1)))) []]) .ret)) .skip)) (.seq (.seq (.reg [oM 13 6 []]) (.cond (.t 13) (.seq (.reg [oP 4 (.mov (.k (.i .i64 1))) []]) .ret) .skip)) (.seq (.seq (.reg [oM 14 0 [],oM 15 1 [],oP 16 (.bin .lss (.t 14) (.t 15)) [0,1]]) (.cond (.t 16) (.seq (.reg [oP 4 (.mov (.k (.i .i64 (-1)))) []]) .ret) .skip)) (.seq (.seq (.reg [oM 17 0 [],oM 18 1 [],oP 19 (.bin .gtr (.t 17) (.t 18)) [0,1]]) (.cond (.t 19) (.seq (.reg [oP 4 (.mov (.k (.i .i64 1))) []]) .ret) .skip)) (.seq (.reg [oP 4 (.mov (.k (.i .i64 0))) []]) .ret))))))),[.tmp 4]⟩
def zs2:XC:=.seq (.seq (.reg [oM 16 4 [],oP 17 (.len (.t 16)) [0],oP 18 (.bin .gtr (.t 17) (.k (.i .i64 0))) [1]]) (.cond (.t 18) .skip (.exit 0))) (.block 1 (.seq (.reg [oM 20 4 [],oP 21 (.call 48 [.t 20,.k (.i .u32 1000000000)]) [0],oM 19 21 [1],oP 22 (.ext (.t 19) 0) [2],oP 23 (.ext (.t 19) 1) [2],oM 5 22 [3,1,0,1,2,3],oM 6 23 [4,5,0,1,2,3,4,5]]) (.seq (.reg [oM 24 5 [],oP 25 (.call 49 [.t 24]) [0],oM 4 25 [1,1,0,1]]) (.seq (.reg [oM 26 6 [],oP 27 (.cint .i64 (.t 26)) [0],oP 28 (.call 50 [.t 27]) [1],oM 7 28 [2,2,0,1,2]]) (.seq (.seq (.reg [oM 29 4 [],oP 30 (.len (.t 29)) [0],oP 31 (.bin .gtr (.t 30) (.k (.i .i64 0))) [1]]) (.cond (.t 31) (.reg [oM 32 7 [],oP 33 (.lens (.t 32)) [0],oP 34 (.bin .sub (.k (.i .i64 9)) (.t 33)) [1],oP 35 (.call 51 [.k (.s [48]),.t 34]) [2],oM 36 7 [],oP 37 (.bin .add (.t 35) (.t 36)) [3,4],oM 7 37 [5,3,0,1,2,3,4,5]]) .skip)) (.reg [oM 38 3 [],oM 39 7 [],oP 40 (.bsl 1 1 [.s []] [(0,(1,.t 39))]) [1],oP 41 (.app 1 16 (.t 38) (.t 40)) [0,2],oM 3 41 [3,3,0,1,2,3]]))))))
def zt2:XC:=.seq (.seq (.reg [oM 48 9 [],oP 49 (.bin .geq (.t 48) (.k (.i .i64 0))) [0]]) (.cond (.t 49) .skip (.exit 2))) (.seq (.block 3 (.reg [oM 52 3 [],oM 53 9 [],oP 54 (.ixs 1 (.t 52) (.t 53)) [0,1],oP 55 (.load false 1 (.t 54)) [2],oP 56 (.call 53 [.t 8,.t 55]) [3]])) (.reg [oM 50 9 [],oP 51 (.bin .sub (.t 50) (.k (.i .i64 1))) [0],oM 9 51 [1,0,1]]))
def zuK:XF:=⟨58,.seq (.reg [oP 1 (.box (.t 0)) [],oP 2 (.mov (.k (.s []))) []]) (.seq (.seq (.reg [oP 10 (.fad 1 (.t 1)) [],oP 11 (.load false 1 (.t 10)) [0],oP 12 (.len (.t 11)) [1],oP 13 (.bin .eql (.t 12) (.k (.i .i64 0))) [2]]) (.cond (.t 13) (.seq (.reg [oP 2 (.mov (.k (.s [48]))) []]) .ret) .skip)) (.seq (.reg [oP 3 (.mov (.k .sn)) []]) (.seq (.reg [oP 14 (.fad 1 (.t 1)) [],oP 15 (.load false 1 (.t 14)) [0],oM 4 15 [1,0,1]]) (.seq (.block 0 (.loop zs2)) (.seq (.reg [oP 8 (.new [.pn,.sn]) []]) (.seq (.seq (.reg [oP 42 (.fad 0 (.t 1)) [],oP 43 (.load false 1 (.t 42)) [0]]) (.cond (.t 43) (.reg [oP 44 (.call 52 [.t 8,.k (.i .u8 45)]) []]) .skip)) (.seq (.seq (.reg [oM 45 3 [],oP 46 (.len (.t 45)) [0],oP 47 (.bin .sub (.t 46) (.k (.i .i64 1))) [1],oM 9 47 [2,0,1,2]]) (.block 2 (.loop zt2))) (.seq (.reg [oP 57 (.call 54 [.t 8]) [],oM 2 57 [0,0,0]]) .ret)))))))),[.tmp 2]⟩
def x___skymosaic_wire_Writer__Uint_l1:XC:=.seq (.seq (.reg [oM 4 1 [],oP 5 (.bin .geq (.t 4) (.k (.i .u64 128))) [0]]) (.cond (.t 5) .skip (.exit 0))) (.seq (.block 1 (.reg [oM 8 0 [],oM 9 0 [],oP 10 (.nilck (.t 9)) [1],oP 11 (.fad 0 (.t 10)) [2],oP 12 (.load false 1 (.t 11)) [3],oM 13 1 [],oP 14 (.cint .u8 (.t 13)) [5],oP 15 (.bin .or (.t 14) (.k (.i .u8 128))) [6],oP 16 (.bsl 1 1 [.i .u8 0] [(0,(1,.t 15))]) [7],oP 17 (.app 1 1 (.t 12) (.t 16)) [4,8],oP 18 (.nilck (.t 8)) [0,0,1,2,3,4,5,6,7,8,9],oP 19 (.fad 0 (.t 18)) [10,0,1,2,3,4,5,6,7,8,9],oN (.store 1 (.t 19) (.t 17)) [11,9,9,0,1,2,3,4,5,6,7,8,9]])) (.reg [oM 6 1 [],oP 7 (.bin .shr (.t 6) (.k (.i .u64 7))) [0],oM 1 7 [1,0,1]]))
def x___skymosaic_wire_Writer__Uint:XF:=⟨31,.seq (.block 0 (.loop x___skymosaic_wire_Writer__Uint_l1)) (.reg [oM 20 0 [],oM 21 0 [],oP 22 (.nilck (.t 21)) [1],oP 23 (.fad 0 (.t 22)) [2],oP 24 (.load false 1 (.t 23)) [3],oM 25 1 [],oP 26 (.cint .u8 (.t 25)) [5],oP 27 (.bsl 1 1 [.i .u8 0] [(0,(1,.t 26))]) [6],oP 28 (.app 1 1 (.t 24) (.t 27)) [4,7],oP 29 (.nilck (.t 20)) [0,0,1,2,3,4,5,6,7,8],oP 30 (.fad 0 (.t 29)) [9,0,1,2,3,4,5,6,7,8],oN (.store 1 (.t 30) (.t 28)) [10,8,8,0,1,2,3,4,5,6,7,8]]),[]⟩
def ztd:XF:=⟨10,.seq (.reg [oP 2 (.mov (.k (.i .u64 0))) []]) (.seq (.reg [oM 3 0 [],oP 4 (.cint .u64 (.t 3)) [0],oP 5 (.bin .shl (.t 4) (.k (.i .u64 1))) [1],oM 6 0 [],oP 7 (.bin .shr (.t 6) (.k (.i .u64 63))) [3],oP 8 (.cint .u64 (.t 7)) [4],oP 9 (.bin .xor (.t 5) (.t 8)) [2,5],oM 2 9 [6,0,1,2,3,4,5,6]]) .ret),[.tmp 2]⟩
def zuI:XC:=.seq (.seq (.reg [oM 4 0 [],oP 5 (.bin .gtr (.t 4) (.k (.i .u64 127))) [0]]) (.cond (.t 5) .skip (.exit 0))) (.block 1 (.seq (.reg [oM 6 3 [],oM 7 0 [],oP 8 (.bin .rem (.t 7) (.k (.i .u64 128))) [1],oP 9 (.bin .add (.k (.i .u64 128)) (.t 8)) [2],oP 10 (.cint .u8 (.t 9)) [3],oP 11 (.bsl 1 1 [.i .u8 0] [(0,(1,.t 10))]) [4],oP 12 (.app 1 1 (.t 6) (.t 11)) [0,5],oM 3 12 [6,6,0,1,2,3,4,5,6]]) (.reg [oM 13 0 [],oP 14 (.bin .quo (.t 13) (.k (.i .u64 128))) [0],oM 0 14 [1,0,1]])))
def zuh:XF:=⟨20,.seq (.reg [oP 2 (.mov (.k .sn)) []]) (.seq (.reg [oP 3 (.mov (.k .sn)) []]) (.seq (.block 0 (.loop zuI)) (.seq (.reg [oM 15 3 [],oM 16 0 [],oP 17 (.cint .u8 (.t 16)) [1],oP 18 (.bsl 1 1 [.i .u8 0] [(0,(1,.t 17))]) [2],oP 19 (.app 1 1 (.t 15) (.t 18)) [0,3],oM 2 19 [4,4,0,1,2,3,4]]) .ret))),[.tmp 2]⟩
def ztN:XF:=⟨14,.seq (.reg [oP 2 (.mov (.k (.i .u64 0))) []]) (.seq (.seq (.reg [oM 3 0 [],oP 4 (.bin .lss (.t 3) (.k (.i .i64 0))) [0]]) (.cond (.t 4) (.seq (.reg [oM 5 0 [],oP 6 (.bin .add (.t 5) (.k (.i .i64 1))) [0],oP 7 (.un .neg (.t 6)) [1],oP 8 (.cint .u64 (.t 7)) [2],oP 9 (.bin .mul (.k (.i .u64 2)) (.t 8)) [3],oP 10 (.bin .add (.t 9) (.k (.i .u64 1))) [4],oM 2 10 [5,0,1,2,3,4,5]]) .ret) .skip)) (.seq (.reg [oM 11 0 [],oP 12 (.cint .u64 (.t 11)) [0],oP 13 (.bin .mul (.k (.i .u64 2)) (.t 12)) [1],oM 2 13 [2,0,1,2]]) .ret)),[.tmp 2]⟩
def x___skymosaic_wire_Reader__next:XF:=⟨32,.seq (.reg [oP 2 (.mov (.k (.i .u8 0))) []]) (.seq (.seq (.reg [oM 4 0 [],oP 5 (.nilck (.t 4)) [0],oP 6 (.fad 0 (.t 5)) [1],oP 7 (.load false 1 (.t 6)) [2],oP 8 (.len (.t 7)) [3],oP 9 (.bin .eql (.t 8) (.k (.i .i64 0))) [4]]) (.cond (.t 9) (.reg [oM 10 0 [],oP 11 (.call 224 [.t 10,.k (.i .i64 3)]) [0]]) .skip)) (.seq (.seq (.reg [oM 12 0 [],oP 13 (.nilck (.t 12)) [0],oP 14 (.fad 1 (.t 13)) [1],oP 15 (.load false 1 (.t 14)) [2],oP 16 (.bin .neq (.t 15) (.k (.i .i64 0))) [3]]) (.cond (.t 16) (.seq (.reg [oP 2 (.mov (.k (.i .u8 0))) []]) .ret) .skip)) (.seq (.reg [oM 17 0 [],oP 18 (.nilck (.t 17)) [0],oP 19 (.fad 0 (.t 18)) [1],oP 20 (.load false 1 (.t 19)) [2],oP 21 (.ixs 1 (.t 20) (.k (.i .i64 0))) [3],oP 22 (.load false 1 (.t 21)) [4],oM 3 22 [5,0,1,2,3,4,5]]) (.seq (.reg [oM 23 0 [],oM 24 0 [],oP 25 (.nilck (.t 24)) [1],oP 26 (.fad 0 (.t 25)) [2],oP 27 (.load false 1 (.t 26)) [3],oP 28 (.slsl 1 (.t 27) (some (.k (.i .i64 1))) none none) [4],oP 29 (.nilck (.t 23)) [0,0,1,2,3,4,5],oP 30 (.fad 0 (.t 29)) [6,0,1,2,3,4,5],oN (.store 1 (.t 30) (.t 28)) [7,5,0,1,2,3,4,5]]) (.seq (.reg [oM 31 3 [],oM 2 31 [0,0]]) .ret))))),[.tmp 2]⟩
def x___skymosaic_wire_Reader__fail:XF:=⟨13,.seq (.reg [oM 4 0 [],oP 5 (.nilck (.t 4)) [0],oP 6 (.fad 1 (.t 5)) [1],oP 7 (.load false 1 (.t 6)) [2],oP 8 (.bin .eql (.t 7) (.k (.i .i64 0))) [3]]) (.cond (.t 8) (.reg [oM 9 0 [],oM 10 1 [],oP 11 (.nilck (.t 9)) [0,0,1],oP 12 (.fad 1 (.t 11)) [2,0,1],oN (.store 1 (.t 12) (.t 10)) [3,1,0,1]]) .skip),[]⟩
def ztX:XF:=⟨6,.seq (.reg [oP 2 (.box (.t 0)) [],oP 4 (.new [.b false,.sn]) []]) (.seq (.reg [oP 5 (.load true 2 (.t 2)) [],oN (.store 2 (.t 4) (.t 5)) [0,0]]) .ret),[.cell 4 true 2]⟩
def zut:XC:=.seq (.seq (.reg [oM 3 0 [],oP 4 (.len (.t 3)) [0],oP 5 (.bin .gtr (.t 4) (.k (.i .i64 0))) [1],oM 6 5 [2],oT 7 (.mov (.t 0)) [3] 6,oT 8 (.mov (.t 0)) [3] 6,oT 9 (.len (.t 8)) [5,3] 6,oT 10 (.bin .sub (.t 9) (.k (.i .i64 1))) [6,3] 6,oT 11 (.ixs 1 (.t 7) (.t 10)) [4,7,3] 6,oT 12 (.load false 1 (.t 11)) [8,3] 6,oT 13 (.bin .eql (.t 12) (.k (.i .u32 0))) [9,3] 6,oP 14 (.pick (.t 6) (.t 13) (.k (.b false))) [3,10]]) (.cond (.t 14) .skip (.exit 0))) (.block 1 (.reg [oM 15 0 [],oM 16 0 [],oP 17 (.len (.t 16)) [1],oP 18 (.bin .sub (.t 17) (.k (.i .i64 1))) [2],oP 19 (.slsl 1 (.t 15) none (some (.t 18)) none) [0,3],oM 0 19 [4,0,1,2,3,4]]))
def zts:XF:=⟨21,.seq (.reg [oP 2 (.mov (.k .sn)) []]) (.seq (.block 0 (.loop zut)) (.seq (.reg [oM 20 0 [],oM 2 20 [0,0]]) .ret)),[.tmp 2]⟩
def ztC:XC:=.seq (.seq (.reg [oM 111 17 [],oP 112 (.bin .shr (.t 111) (.k (.i .u64 32))) [0],oP 113 (.bin .gtr (.t 112) (.k (.i .u64 0))) [1],oM 114 113 [2],oF 115 (.mov (.t 17)) [3] 114,oF 116 (.mov (.t 14)) [3] 114,oF 117 (.bin .mul (.t 115) (.t 116)) [4,5,3] 114,oF 118 (.mov (.t 18)) [3] 114,oF 119 (.bin .shl (.t 118) (.k (.i .u64 32))) [7,3] 114,oF 120 (.mov (.t 9)) [3] 114,oF 121 (.mov (.t 15)) [3] 114,oF 122 (.mov (.t 11)) [3] 114,oF 123 (.bin .add (.t 121) (.t 122)) [10,11,3] 114,oF 124 (.bin .sub (.t 123) (.k (.i .i64 2))) [12,3] 114,oF 125 (.ixs 1 (.t 120) (.t 124)) [9,13,3] 114,oF 126 (.load false 1 (.t 125)) [14,3] 114,oF 127 (.cint .u64 (.t 126)) [15,3] 114,oF 128 (.bin .or (.t 119) (.t 127)) [8,16,3] 114,oF 129 (.bin .gtr (.t 117) (.t 128)) [6,17,3] 114,oP 130 (.pick (.t 114) (.k (.b true)) (.t 129)) [3,18]]) (.cond (.t 130) .skip (.exit 2))) (.block 3 (.seq (.reg [oM 131 17 [],oP 132 (.bin .sub (.t 131) (.k (.i .u64 1))) [0],oM 17 132 [1,0,1]]) (.seq (.reg [oM 133 18 [],oM 134 13 [],oP 135 (.bin .add (.t 133) (.t 134)) [0,1],oM 18 135 [2,0,1,2]]) (.seq (.reg [oM 136 18 [],oP 137 (.bin .shr (.t 136) (.k (.i .u64 32))) [0],oP 138 (.bin .gtr (.t 137) (.k (.i .u64 0))) [1]]) (.cond (.t 138) (.exit 2) .skip)))))
def ztB:XC:=.seq (.reg [oP 171 (.bin .lss (.t 170) (.t 169)) []]) (.seq (.cond (.t 171) .skip (.exit 4)) (.seq (.block 5 (.seq (.reg [oM 172 170 [],oM 20 172 [0,0]]) (.seq (.reg [oP 21 (.mov (.k (.i .u64 0))) []]) (.seq (.seq (.reg [oM 173 20 [],oM 174 11 [],oP 175 (.bin .lss (.t 173) (.t 174)) [0,1]]) (.cond (.t 175) (.reg [oM 176 10 [],oM 177 20 [],oP 178 (.ixs 1 (.t 176) (.t 177)) [0,1],oP 179 (.load false 1 (.t 178)) [2],oP 180 (.cint .u64 (.t 179)) [3],oM 21 180 [4,0,1,2,3,4]]) .skip)) (.reg [oM 181 9 [],oM 182 15 [],oM 183 20 [],oP 184 (.bin .add (.t 182) (.t 183)) [1,2],oM 185 19 [],oM 186 9 [],oM 187 15 [],oM 188 20 [],oP 189 (.bin .add (.t 187) (.t 188)) [6,7],oP 190 (.ixs 1 (.t 186) (.t 189)) [5,8],oP 191 (.load false 1 (.t 190)) [9],oP 192 (.cint .u64 (.t 191)) [10],oM 193 21 [],oP 194 (.bin .add (.t 192) (.t 193)) [11,12],oP 195 (.callv (.t 185) [.t 194]) [4,13],oP 196 (.ixs 1 (.t 181) (.t 184)) [0,3,0,1,2,3,4,5,6,7,8,9,10,11,12,13,14],oN (.store 1 (.t 196) (.t 195)) [15,14,14,0,1,2,3,4,5,6,7,8,9,10,11,12,13,14]]))))) (.reg [oP 197 (.bin .add (.t 170) (.k (.i .i64 1))) [],oM 170 197 [0]])))
def zt4:XC:=.seq (.seq (.reg [oM 84 15 [],oP 85 (.bin .geq (.t 84) (.k (.i .i64 0))) [0]]) (.cond (.t 85) .skip (.exit 0))) (.seq (.block 1 (.seq (.drw [oM 88 9 [],oM 89 15 [],oM 90 11 [],oP 91 (.bin .add (.t 89) (.t 90)) [1,2],oP 92 (.ixs 1 (.t 88) (.t 91)) [0,3],oP 93 (.load false 1 (.t 92)) [4],oP 94 (.cint .u64 (.t 93)) [5],oP 95 (.bin .shl (.t 94) (.k (.i .u64 32))) [6],oM 96 9 [],oM 97 15 [],oM 98 11 [],oP 99 (.bin .add (.t 97) (.t 98)) [9,10],oP 100 (.bin .sub (.t 99) (.k (.i .i64 1))) [11],oP 101 (.ixs 1 (.t 96) (.t 100)) [8,12],oP 102 (.load false 1 (.t 101)) [13],oP 103 (.cint .u64 (.t 102)) [14],oP 104 (.bin .or (.t 95) (.t 103)) [7,15],oM 16 104 [16,0,1,2,3,4,5,6,7,8,9,10,11,12,13,14,15,16]] []) (.seq (.drw [oM 105 16 [],oM 106 13 [],oP 107 (.bin .quo (.t 105) (.t 106)) [0,1],oM 108 16 [],oM 109 13 [],oP 110 (.bin .rem (.t 108) (.t 109)) [3,4],oM 17 107 [2,0,1,2],oM 18 110 [5,6,0,1,2,3,4,5,6]] []) (.seq (.block 2 (.loop ztC)) (.seq (.reg [oM 139 12 [],oM 140 15 [],oM 141 17 [],oP 142 (.cint .u32 (.t 141)) [2],oP 143 (.ixs 1 (.t 139) (.t 140)) [0,1,0,1,2,3],oN (.store 1 (.t 143) (.t 142)) [4,3,0,1,2,3]]) (.seq (.seq (.reg [oM 144 9 [],oM 145 15 [],oM 146 15 [],oM 147 11 [],oP 148 (.bin .add (.t 146) (.t 147)) [2,3],oP 149 (.bin .add (.t 148) (.k (.i .i64 1))) [4],oP 150 (.slsl 1 (.t 144) (some (.t 145)) (some (.t 149)) none) [0,1,5],oM 151 10 [],oM 152 17 [],oP 153 (.call 57 [.t 150,.t 151,.t 152]) [6,7,8],oP 154 (.un .not (.t 153)) [9]]) (.cond (.t 154) (.exit 1) .skip)) (.seq (.reg [oM 155 12 [],oM 156 15 [],oP 157 (.ixs 1 (.t 155) (.t 156)) [0,1],oP 158 (.load false 1 (.t 157)) [2],oP 159 (.bin .sub (.t 158) (.k (.i .u32 1))) [3],oP 160 (.ixs 1 (.t 155) (.t 156)) [0,1,0,1,2,3,4],oN (.store 1 (.t 160) (.t 159)) [5,4,0,1,2,3,4]]) (.seq (.reg [oP 161 (.call 58 []) [],oM 19 161 [0,0,0]]) (.seq (.reg [oM 162 9 [],oM 163 15 [],oM 164 15 [],oM 165 11 [],oP 166 (.bin .add (.t 164) (.t 165)) [2,3],oP 167 (.bin .add (.t 166) (.k (.i .i64 1))) [4],oP 168 (.slsl 1 (.t 162) (some (.t 163)) (some (.t 167)) none) [0,1,5],oP 169 (.len (.t 168)) [6],oP 170 (.mov (.k (.i .i64 0))) []]) (.block 4 (.loop ztB))))))))))) (.reg [oM 86 15 [],oP 87 (.bin .sub (.t 86) (.k (.i .i64 1))) [0],oM 15 87 [1,0,1]]))
def zt3:XC:=.seq (.reg [oP 203 (.bin .lss (.t 202) (.t 201)) []]) (.seq (.cond (.t 203) .skip (.exit 6)) (.seq (.block 7 (.seq (.reg [oM 204 202 [],oM 23 204 [0,0]]) (.drw [oM 205 22 [],oM 206 23 [],oM 207 9 [],oM 208 23 [],oP 209 (.bin .add (.t 208) (.k (.i .i64 1))) [3],oP 210 (.ixs 1 (.t 207) (.t 209)) [2,4],oP 211 (.load false 1 (.t 210)) [5],oP 212 (.cint .u64 (.t 211)) [6],oP 213 (.bin .shl (.t 212) (.k (.i .u64 32))) [7],oM 214 9 [],oM 215 23 [],oP 216 (.ixs 1 (.t 214) (.t 215)) [9,10],oP 217 (.load false 1 (.t 216)) [11],oP 218 (.cint .u64 (.t 217)) [12],oP 219 (.bin .or (.t 213) (.t 218)) [8,13],oM 220 8 [],oP 221 (.bin .shr (.t 219) (.t 220)) [14,15],oP 222 (.cint .u32 (.t 221)) [16],oP 223 (.ixs 1 (.t 205) (.t 206)) [0,1,0,1,2,3,4,5,6,7,8,9,10,11,12,13,14,15,16,17],oN (.store 1 (.t 223) (.t 222)) [18,17,0,1,2,3,4,5,6,7,8,9,10,11,12,13,14,15,16,17]] []))) (.reg [oP 224 (.bin .add (.t 202) (.k (.i .i64 1))) [],oM 202 224 [0]])))
def zs9:XF:=⟨229,.seq (.reg [oP 4 (.mov (.k .sn)) [],oP 5 (.mov (.k .sn)) [0]]) (.scope (.seq (.seq (.reg [oM 24 0 [],oM 25 1 [],oP 26 (.call 41 [.t 24,.t 25]) [0,1],oP 27 (.bin .lss (.t 26) (.k (.i .i64 0))) [2]]) (.cond (.t 27) (.seq (.reg [oM 28 0 [],oP 4 (.mov (.k .sn)) [],oM 5 28 [0,1,0,1]]) .ret) .skip)) (.seq (.seq (.reg [oM 29 1 [],oP 30 (.len (.t 29)) [0],oP 31 (.bin .eql (.t 30) (.k (.i .i64 1))) [1]]) (.cond (.t 31) (.seq (.reg [oM 33 0 [],oM 34 1 [],oP 35 (.ixs 1 (.t 34) (.k (.i .i64 0))) [1],oP 36 (.load false 1 (.t 35)) [2],oP 37 (.call 48 [.t 33,.t 36]) [0,3],oM 32 37 [4],oP 38 (.ext (.t 32) 0) [5],oP 39 (.ext (.t 32) 1) [5],oM 6 38 [6,4,0,1,2,3,4,5,6],oM 7 39 [7,8,0,1,2,3,4,5,6,7,8]]) (.seq (.reg [oM 40 6 [],oP 41 (.call 49 [.t 40]) [0],oM 42 7 [],oP 43 (.bsl 1 1 [.i .u32 0] [(0,(1,.t 42))]) [2],oP 44 (.call 49 [.t 43]) [3,1],oM 4 41 [1,4,0,1],oM 5 44 [4,5,0,1,2,3,4,5]]) .ret)) .skip)) (.seq (.reg [oM 45 1 [],oM 46 1 [],oP 47 (.len (.t 46)) [1],oP 48 (.bin .sub (.t 47) (.k (.i .i64 1))) [2],oP 49 (.ixs 1 (.t 45) (.t 48)) [0,3],oP 50 (.load false 1 (.t 49)) [4],oP 51 (.call 55 [.t 50]) [5],oM 8 51 [6,6,0,1,2,3,4,5,6]]) (.seq (.drw [oM 52 0 [],oM 53 8 [],oP 54 (.call 56 [.t 52,.t 53]) [0,1],oM 55 1 [],oM 56 8 [],oP 57 (.call 56 [.t 55,.t 56]) [3,4,2],oM 58 1 [],oP 59 (.len (.t 58)) [6],oP 60 (.slsl 1 (.t 57) none (some (.t 59)) none) [5,7],oM 9 54 [2,5,0,1,2],oM 10 60 [8,9,0,1,2,3,4,5,6,7,8,9]] []) (.seq (.reg [oM 61 10 [],oP 62 (.len (.t 61)) [0],oM 11 62 [1,0,1]]) (.seq (.reg [oM 63 0 [],oP 64 (.len (.t 63)) [0],oM 65 11 [],oP 66 (.bin .sub (.t 64) (.t 65)) [1,2],oP 67 (.bin .add (.t 66) (.k (.i .i64 1))) [3],oP 68 (.msl [.i .u32 0] 4 (.t 67) (.t 67)) [4,4],oM 12 68 [5,0,1,2,3,4,5]]) (.seq (.drw [oM 69 10 [],oM 70 11 [],oP 71 (.bin .sub (.t 70) (.k (.i .i64 1))) [1],oP 72 (.ixs 1 (.t 69) (.t 71)) [0,2],oP 73 (.load false 1 (.t 72)) [3],oP 74 (.cint .u64 (.t 73)) [4],oM 75 10 [],oM 76 11 [],oP 77 (.bin .sub (.t 76) (.k (.i .i64 2))) [7],oP 78 (.ixs 1 (.t 75) (.t 77)) [6,8],oP 79 (.load false 1 (.t 78)) [9],oP 80 (.cint .u64 (.t 79)) [10],oM 13 74 [5,0,1,2,3,4,5],oM 14 80 [11,12,0,1,2,3,4,5,6,7,8,9,10,11,12]] []) (.seq .skip (.seq (.seq (.reg [oM 81 12 [],oP 82 (.len (.t 81)) [0],oP 83 (.bin .sub (.t 82) (.k (.i .i64 1))) [1],oM 15 83 [2,0,1,2]]) (.block 0 (.loop zt4))) (.seq (.reg [oM 198 11 [],oP 199 (.msl [.i .u32 0] 4 (.t 198) (.t 198)) [0,0],oM 22 199 [1,0,1]]) (.seq (.seq (.reg [oM 200 22 [],oP 201 (.len (.t 200)) [0],oP 202 (.mov (.k (.i .i64 0))) []]) (.block 6 (.loop zt3))) (.seq (.reg [oM 225 12 [],oP 226 (.call 49 [.t 225]) [0],oM 227 22 [],oP 228 (.call 49 [.t 227]) [2,1],oM 4 226 [1,3,0,1],oM 5 228 [3,4,0,1,2,3,4]]) .ret))))))))))))),[.tmp 4,.tmp 5]⟩
def ztv:XF:=⟨3,.seq (.reg [oP 0 (.mov (.k .fnil)) []]) (.seq (.reg [oP 1 (.new [.i .u64 0]) []]) (.seq (.reg [oP 2 (.mfn 77 [.t 1]) [],oM 0 2 [0,0]]) .ret)),[.tmp 0]⟩
def ztk:XC:=.seq (.reg [oP 12 (.bin .lss (.t 11) (.t 10)) []]) (.seq (.cond (.t 12) .skip (.exit 0)) (.seq (.block 1 (.seq (.reg [oM 13 11 [],oM 6 13 [0,0]]) (.seq (.reg [oM 14 5 [],oM 7 14 [0,0]]) (.seq (.seq (.reg [oM 15 6 [],oM 16 1 [],oP 17 (.len (.t 16)) [1],oP 18 (.bin .lss (.t 15) (.t 17)) [0,2]]) (.cond (.t 18) (.reg [oM 19 7 [],oM 20 1 [],oM 21 6 [],oP 22 (.ixs 1 (.t 20) (.t 21)) [1,2],oP 23 (.load false 1 (.t 22)) [3],oP 24 (.cint .u64 (.t 23)) [4],oP 25 (.bin .add (.t 19) (.t 24)) [0,5],oM 7 25 [6,0,1,2,3,4,5,6]]) .skip)) (.seq (.reg [oM 26 0 [],oM 27 6 [],oP 28 (.ixs 1 (.t 26) (.t 27)) [0,1],oP 29 (.load false 1 (.t 28)) [2],oP 30 (.cint .u64 (.t 29)) [3],oM 8 30 [4,0,1,2,3,4]]) (.seq (.reg [oP 5 (.mov (.k (.i .u64 0))) []]) (.seq (.seq (.reg [oM 31 7 [],oM 32 8 [],oP 33 (.bin .gtr (.t 31) (.t 32)) [0,1]]) (.cond (.t 33) (.seq (.reg [oM 34 8 [],oP 35 (.bin .add (.t 34) (.k (.i .u64 4294967296))) [0],oM 8 35 [1,0,1]]) (.reg [oP 5 (.mov (.k (.i .u64 1))) []])) .skip)) (.reg [oM 36 0 [],oM 37 6 [],oM 38 8 [],oM 39 7 [],oP 40 (.bin .sub (.t 38) (.t 39)) [2,3],oP 41 (.cint .u32 (.t 40)) [4],oP 42 (.ixs 1 (.t 36) (.t 37)) [0,1,0,1,2,3,4,5],oN (.store 1 (.t 42) (.t 41)) [6,5,0,1,2,3,4,5]])))))))) (.reg [oP 43 (.bin .add (.t 11) (.k (.i .i64 1))) [],oM 11 43 [0]])))
def ztb:XF:=⟨46,.seq (.reg [oP 4 (.mov (.k (.i .u32 0))) []]) (.seq (.reg [oP 5 (.mov (.k (.i .u64 0))) []]) (.seq (.seq (.reg [oM 9 0 [],oP 10 (.len (.t 9)) [0],oP 11 (.mov (.k (.i .i64 0))) []]) (.block 0 (.loop ztk))) (.seq (.reg [oM 44 5 [],oP 45 (.cint .u32 (.t 44)) [0],oM 4 45 [1,0,1]]) .ret))),[.tmp 4]⟩
def ztq:XF:=⟨6,.seq (.reg [oP 2 (.mov (.k (.b false))) []]) (.seq (.reg [oM 3 0 [],oM 4 0 [],oP 5 (.bin .neq (.t 3) (.t 4)) [0,1],oM 2 5 [2,0,1,2]]) .ret),[.tmp 2]⟩
def ztg:XF:=⟨6,.seq (.reg [oP 2 (.mov (.k (.b false))) []]) (.seq (.reg [oM 3 0 [],oM 4 0 [],oP 5 (.bin .neq (.t 3) (.t 4)) [0,1],oM 2 5 [2,0,1,2]]) .ret),[.tmp 2]⟩
def zuj:XC:=.seq (.seq (.reg [oM 15 8 [],oP 16 (.bin .geq (.t 15) (.k (.i .i64 0))) [0]]) (.cond (.t 16) .skip (.exit 0))) (.seq (.block 1 (.seq (.reg [oM 19 7 [],oP 20 (.bin .shl (.t 19) (.k (.i .u64 32))) [0],oM 21 0 [],oM 22 8 [],oP 23 (.ixs 1 (.t 21) (.t 22)) [2,3],oP 24 (.load false 1 (.t 23)) [4],oP 25 (.cint .u64 (.t 24)) [5],oP 26 (.bin .or (.t 20) (.t 25)) [1,6],oM 7 26 [7,0,1,2,3,4,5,6,7]]) (.seq (.reg [oM 27 6 [],oM 28 8 [],oM 29 7 [],oM 30 1 [],oP 31 (.cint .u64 (.t 30)) [3],oP 32 (.bin .quo (.t 29) (.t 31)) [2,4],oP 33 (.cint .u32 (.t 32)) [5],oP 34 (.ixs 1 (.t 27) (.t 28)) [0,1,0,1,2,3,4,5,6],oN (.store 1 (.t 34) (.t 33)) [7,6,0,1,2,3,4,5,6]]) (.reg [oM 35 7 [],oM 36 1 [],oP 37 (.cint .u64 (.t 36)) [1],oP 38 (.bin .rem (.t 35) (.t 37)) [0,2],oM 7 38 [3,0,1,2,3]])))) (.reg [oM 17 8 [],oP 18 (.bin .sub (.t 17) (.k (.i .i64 1))) [0],oM 8 18 [1,0,1]]))
def ztx:XF:=⟨42,.seq (.reg [oP 4 (.mov (.k .sn)) [],oP 5 (.mov (.k (.i .u32 0))) [0]]) (.seq (.reg [oM 9 0 [],oP 10 (.len (.t 9)) [0],oP 11 (.msl [.i .u32 0] 4 (.t 10) (.t 10)) [1,1],oM 6 11 [2,0,1,2]]) (.seq (.reg [oP 7 (.mov (.k (.i .u64 0))) []]) (.seq (.seq (.reg [oM 12 0 [],oP 13 (.len (.t 12)) [0],oP 14 (.bin .sub (.t 13) (.k (.i .i64 1))) [1],oM 8 14 [2,0,1,2]]) (.block 0 (.loop zuj))) (.seq (.reg [oM 39 6 [],oM 40 7 [],oP 41 (.cint .u32 (.t 40)) [1],oM 4 39 [0,0],oM 5 41 [2,3,0,1,2,3]]) .ret)))),[.tmp 4,.tmp 5]⟩
def zs8:XF:=⟨6,.seq (.reg [oP 2 (.mov (.k (.i .i64 0))) []]) (.seq (.reg [oM 3 0 [],oP 4 (.call 76 [.t 3]) [0],oP 5 (.bin .sub (.k (.i .i64 32)) (.t 4)) [1],oM 2 5 [2,1,0,1,2]]) .ret),[.tmp 2]⟩
def ztR:XC:=.seq (.reg [oP 16 (.bin .lss (.t 15) (.t 14)) []]) (.seq (.cond (.t 16) .skip (.exit 0)) (.seq (.block 1 (.seq (.reg [oM 17 15 [],oP 18 (.ixs 1 (.t 13) (.t 15)) [],oP 19 (.load false 1 (.t 18)) [1],oM 6 17 [0,0,1,2],oM 7 19 [2,3,0,1,2,3]]) (.seq (.reg [oM 20 7 [],oP 21 (.cint .u64 (.t 20)) [0],oM 22 1 [],oP 23 (.bin .shl (.t 21) (.t 22)) [1,2],oM 8 23 [3,0,1,2,3]]) (.seq (.reg [oM 24 5 [],oM 25 6 [],oP 26 (.ixs 1 (.t 24) (.t 25)) [0,1],oP 27 (.load false 1 (.t 26)) [2],oM 28 8 [],oP 29 (.cint .u32 (.t 28)) [4],oP 30 (.bin .or (.t 27) (.t 29)) [3,5],oP 31 (.ixs 1 (.t 24) (.t 25)) [0,1,0,1,2,3,4,5,6],oN (.store 1 (.t 31) (.t 30)) [7,6,0,1,2,3,4,5,6]]) (.reg [oM 32 5 [],oM 33 6 [],oP 34 (.bin .add (.t 33) (.k (.i .i64 1))) [1],oM 35 8 [],oP 36 (.bin .shr (.t 35) (.k (.i .u64 32))) [3],oP 37 (.cint .u32 (.t 36)) [4],oP 38 (.ixs 1 (.t 32) (.t 34)) [0,2,0,1,2,3,4,5],oN (.store 1 (.t 38) (.t 37)) [6,5,0,1,2,3,4,5]]))))) (.reg [oP 39 (.bin .add (.t 15) (.k (.i .i64 1))) [],oM 15 39 [0]])))
def ztz:XF:=⟨41,.seq (.reg [oP 4 (.mov (.k .sn)) []]) (.seq (.reg [oM 9 0 [],oP 10 (.len (.t 9)) [0],oP 11 (.bin .add (.t 10) (.k (.i .i64 1))) [1],oP 12 (.msl [.i .u32 0] 4 (.t 11) (.t 11)) [2,2],oM 5 12 [3,0,1,2,3]]) (.seq (.seq (.reg [oM 13 0 [],oP 14 (.len (.t 13)) [0],oP 15 (.mov (.k (.i .i64 0))) []]) (.block 0 (.loop ztR))) (.seq (.reg [oM 40 5 [],oM 4 40 [0,0]]) .ret))),[.tmp 4]⟩
def ztQ:XC:=.seq (.reg [oP 15 (.bin .lss (.t 14) (.t 13)) []]) (.seq (.cond (.t 15) .skip (.exit 0)) (.seq (.block 1 (.seq (.reg [oM 16 14 [],oM 9 16 [0,0]]) (.seq (.reg [oM 17 7 [],oM 10 17 [0,0]]) (.seq (.seq (.reg [oM 18 9 [],oM 19 1 [],oP 20 (.len (.t 19)) [1],oP 21 (.bin .lss (.t 18) (.t 20)) [0,2]]) (.cond (.t 21) (.reg [oM 22 10 [],oM 23 2 [],oM 24 1 [],oM 25 9 [],oP 26 (.ixs 1 (.t 24) (.t 25)) [2,3],oP 27 (.load false 1 (.t 26)) [4],oP 28 (.cint .u64 (.t 27)) [5],oP 29 (.bin .mul (.t 23) (.t 28)) [1,6],oP 30 (.bin .add (.t 22) (.t 29)) [0,7],oM 10 30 [8,0,1,2,3,4,5,6,7,8]]) .skip)) (.seq (.reg [oM 31 10 [],oP 32 (.bin .shr (.t 31) (.k (.i .u64 32))) [0],oM 7 32 [1,0,1]]) (.seq (.reg [oM 33 0 [],oM 34 9 [],oP 35 (.ixs 1 (.t 33) (.t 34)) [0,1],oP 36 (.load false 1 (.t 35)) [2],oP 37 (.cint .u64 (.t 36)) [3],oM 38 10 [],oP 39 (.cint .u32 (.t 38)) [5],oP 40 (.cint .u64 (.t 39)) [6],oP 41 (.bin .sub (.t 37) (.t 40)) [4,7],oM 42 8 [],oP 43 (.bin .sub (.t 41) (.t 42)) [8,9],oM 11 43 [10,0,1,2,3,4,5,6,7,8,9,10]]) (.seq (.reg [oM 44 0 [],oM 45 9 [],oM 46 11 [],oP 47 (.cint .u32 (.t 46)) [2],oP 48 (.ixs 1 (.t 44) (.t 45)) [0,1,0,1,2,3],oN (.store 1 (.t 48) (.t 47)) [4,3,0,1,2,3]]) (.reg [oM 49 11 [],oP 50 (.bin .shr (.t 49) (.k (.i .u64 63))) [0],oM 8 50 [1,0,1]])))))))) (.reg [oP 51 (.bin .add (.t 14) (.k (.i .i64 1))) [],oM 14 51 [0]])))
def ztZ:XF:=⟨54,.seq (.reg [oP 6 (.mov (.k (.b false))) []]) (.seq (.reg [oP 7 (.mov (.k (.i .u64 0))) [],oP 8 (.mov (.k (.i .u64 0))) [0]]) (.seq (.seq (.reg [oM 12 0 [],oP 13 (.len (.t 12)) [0],oP 14 (.mov (.k (.i .i64 0))) []]) (.block 0 (.loop ztQ))) (.seq (.reg [oM 52 8 [],oP 53 (.bin .gtr (.t 52) (.k (.i .u64 0))) [0],oM 6 53 [1,0,1]]) .ret))),[.tmp 6]⟩
def ztp:XF:=⟨13,.seq (.reg [oP 3 (.mov (.k (.i .u32 0))) []]) (.seq (.reg [oP 5 (.load false 1 (.t 1)) [],oM 6 0 [],oP 7 (.bin .add (.t 5) (.t 6)) [0,1],oN (.store 1 (.t 1) (.t 7)) [2,0,1,2]]) (.seq (.reg [oP 8 (.load false 1 (.t 1)) [],oP 9 (.cint .u32 (.t 8)) [0],oM 4 9 [1,0,1]]) (.seq (.reg [oP 10 (.load false 1 (.t 1)) [],oP 11 (.bin .shr (.t 10) (.k (.i .u64 32))) [0],oN (.store 1 (.t 1) (.t 11)) [1,0,1]]) (.seq (.reg [oM 12 4 [],oM 3 12 [0,0]]) .ret)))),[.tmp 3]⟩
def ztl:XF:=⟨19,.seq (.reg [oP 2 (.mov (.k (.i .i64 0))) []]) (.seq (.seq (.reg [oM 3 0 [],oP 4 (.bin .geq (.t 3) (.k (.i .u32 65536))) [0]]) (.cond (.t 4) (.seq (.reg [oM 5 0 [],oP 6 (.bin .shr (.t 5) (.k (.i .u64 16))) [0],oM 0 6 [1,0,1]]) (.reg [oP 2 (.mov (.k (.i .i64 16))) []])) .skip)) (.seq (.seq (.reg [oM 7 0 [],oP 8 (.bin .geq (.t 7) (.k (.i .u32 256))) [0]]) (.cond (.t 8) (.seq (.reg [oM 9 0 [],oP 10 (.bin .shr (.t 9) (.k (.i .u64 8))) [0],oM 0 10 [1,0,1]]) (.reg [oM 11 2 [],oP 12 (.bin .add (.t 11) (.k (.i .i64 8))) [0],oM 2 12 [1,0,1]])) .skip)) (.seq (.reg [oM 13 2 [],oM 14 0 [],oP 15 (.cint .u8 (.t 14)) [1],oP 16 (.istr (.k (.s xs_1d3e63)) (.t 15)) [2],oP 17 (.cint .i64 (.t 16)) [3],oP 18 (.bin .add (.t 13) (.t 17)) [0,4],oM 2 18 [5,0,1,2,3,4,5]]) .ret))),[.tmp 2]⟩
noncomputable def progL:List (Option XD):=[
 none,
 none,
 none,
 none,
 none,
 none,
 none,
 none,
 some (.fn zud),
 some (.fn zt6),
 none,
 none,
 none,
 none,
 none,
 none,
 some (.fn zs4),
 some (.fn zum),
 some (.fn zuf),
 some (.fn zs7),
 some (.fn ztO),
 some (.fn ztS),
 some (.fn ztf),
 some (.fn zue),
 some (.fn ztm),
 none,
 none,
 none,
 none,
 some (.fn zuk),
 some (.fn zty),
 some (.fn ztY),
 none,
 some (.orc (orcA 33)),
 some (.fn ztW),
 some (.fn zs9),
 some (.fn ztF),
 some (.fn ztX),
 some (.fn zui),
 some (.fn zt5),
 some (.fn zt7),
 some (.fn ztw),
 some (.fn zta),
 some (.fn zt9),
 some (.fn ztE),
 none,
 none,
 none,
 some (.fn ztx),
 some (.fn zts),
 some (.orc (orcA 50)),
 some (.orc (orcA 51)),
 none,
 none,
 none,
 some (.fn zs8),
 some (.fn ztz),
 some (.fn ztZ),
 some (.fn ztv),
 some (.fn zti),
 some (.fn ztj),
 some (.fn ztc),
 some (.fn ztb),
 some (.fn zte),
 some (.fn zs6),
 none,
 none,
 none,
 none,
 none,
 none,
 none,
 none,
 none,
 none,
 none,
 some (.fn ztl),
 some (.fn ztp),
 some (.fn ztq),
 some (.fn ztg),
 some (.fn zs5),
 none,
 none,
 none,
 none,
 none,
 none,
 none,
 none,
 none,
 none,
 none,
 none,
 none,
 none,
 none,
 none,
 none,
 none,
 none,
 none,
 none,
 none,
 none,
 none,
 none,
 none,
 none,
 none,
 none,
 none,
 none,
 none,
 none,
 none,
 none,
 none,
 none,
 none,
 none,
 none,
 none,
 none,
 none,
 none,
 none,
 none,
 none,
 none,
 none,
 some (.orc (orcA 130)),
 some (.orc (orcA 131)),
 none,
 none,
 none,
 none,
 none,
 none,
 none,
 none,
 none,
 none,
 none,
 none,
 none,
 none,
 none,
 none,
 none,
 none,
 none,
 none,
 none,
 none,
 none,
 none,
 none,
 none,
 none,
 none,
 none,
 none,
 none,
 none,
 none,
 none,
 none,
 none,
 none,
 none,
 none,
 none,
 none,
 none,
 none,
 none,
 none,
 none,
 none,
 none,
 some (.fn zt8),
 none,
 none,
 none,
 none,
 none,
 none,
 none,
 none,
 none,
 none,
 none,
 none,
 none,
 none,
 none,
 none,
 none,
 none,
 none,
 none,
 none,
 some (.fn ztT),
 some (.fn x___skymosaic_wire_Writer__Done),
 none,
 some (.fn x___skymosaic_wire_Reader__End),
 none,
 none,
 none,
 none,
 some (.fn x___skymosaic_wire_Writer__Uint),
 some (.fn zs3),
 none,
 none,
 none,
 none,
 none,
 none,
 some (.fn x___skymosaic_wire_Reader__next),
 none,
 none,
 none,
 some (.orc (orcA 222)),
 some (.fn x___skymosaic_wire_Reader__Uint),
 some (.fn x___skymosaic_wire_Reader__fail),
 none,
 none,
 none,
 none,
 none,
 none,
 none,
 none,
 none,
 none,
 none,
 none,
 none,
 none,
 none,
 none,
 none,
 none,
 none,
 none,
 none,
 none,
 none,
 none,
 some (.fn x___skymosaic_wire_Reader__Int),
 none,
 none,
 none,
 none,
 none,
 none,
 none,
 none,
 none,
 none,
 none,
 none,
 none,
 none,
 none,
 none,
 none,
 some (.fn x___skymosaic_wire_Writer__Int),
 none,
 none,
 none,
 some (.fn zun),
 none,
 some (.fn ztt),
 none,
 none,
 none,
 none,
 none,
 none,
 none,
 none,
 none,
 some (.fn ztd),
 none,
 some (.fn zuh),
 some (.fn ztN),
 none,
 none,
 none,
 none,
 none,
 none,
 none,
 none,
 none,
 none,
 none,
 none,
 none,
 none,
 none,
 none,
 none,
 none,
 none,
 none,
 none,
 none,
 none,
 none,
 none,
 none,
 none,
 none,
 none,
 none,
 none,
 none,
 none,
 none,
 none,
 none,
 none,
 none,
 none,
 none,
 none,
 none,
 none,
 none,
 none,
 none,
 none,
 none,
 none,
 none,
 none,
 none,
 none,
 none,
 none,
 none,
 none,
 none,
 none,
 none,
 none,
 none,
 none,
 none,
 none,
 none,
 none,
 none,
 none,
 none,
 none,
 none,
 none,
 none,
 none,
 none,
 none,
 none,
 none,
 none,
 none,
 none,
 none,
 none,
 none,
 none,
 none,
 none,
 none,
 none,
 none,
 none,
 none,
 none,
 none,
 none,
 none,
 none,
 none,
 none,
 none,
 none,
 some (.fn ztu),
 none,
 none,
 none,
 none,
 none,
 some (.fn zug),
 some (.fn zth),
 none,
 none,
 some (.fn ztI),
 some (.fn ztV),
 some (.fn ztG),
 some (.fn ztD),
 some (.fn ztK),
 none,
 none,
 none,
 some (.fn ztn),
 none,
 some (.fn zto),
 some (.fn ztU),
 none,
 none,
 none,
 none,
 none,
 some (.fn ztM),
 none,
 none,
 none,
 none,
 some (.fn ztL),
 none,
 none,
 none,
 some (.fn ztP),
 none,
 none,
 none,
 none,
 none,
 none,
 none,
 none,
 none,
 none,
 none,
 none,
 none,
 none,
 none,
 none,
 none,
 none,
 none,
 none,
 none,
 none,
 none,
 none,
 none,
 none,
 none,
 none,
 none,
 none,
 none,
 none,
 none,
 none,
 none,
 none,
 none,
 none,
 none,
 none,
 none,
 none,
 none,
 none,
 none,
 none,
 none,
 none,
 none,
 none,
 none,
 none,
 none,
 none,
 none,
 none,
 none,
 none,
 none,
 none,
 none,
 none,
 none,
 none,
 none,
 none,
 none,
 none,
 none,
 none,
 none,
 none,
 none,
 none,
 none,
 none,
 none,
 none,
 none,
 none,
 none,
 none,
 none,
 none,
 none,
 none,
 none,
 none,
 none,
 none,
 none,
 none,
 none,
 none]
noncomputable def prog (f:Nat):Option XD:=(progL[f]?).join
end Go.Eng
namespace Go.Eng
def impL:List Nat:=[52,53,54,56,57,58,62,73,74,75,77,86,89,90,201,202,204,205,210,212,217,218,223,224,249,263,267,268,269,284,318,419,463,473]
noncomputable def E0:PEnv:={ prog:=prog,pure:=fun f => !(impL.contains f),glob:=globG,orc:=orcP,ovr:=ovrP }
@[go_sem] theorem zsF (a:List PV) (M:PM):pcl E0 8 a M=pclA E0 8 M (fzL (fz M fzD) a):=zae a M rfl
@[go_sem] theorem zsG (a:List PV) (M:PM):pcl E0 9 a M=pclA E0 9 M (fzL (fz M fzD) a):=zae a M rfl
@[go_sem] theorem zrb (a:List PV) (M:PM):pcl E0 16 a M=pclA E0 16 M (fzL (fz M fzD) a):=zae a M rfl
@[go_sem] theorem zrc (a:List PV) (M:PM):pcl E0 17 a M=pclA E0 17 M (fzL (fz M fzD) a):=zae a M rfl
@[go_sem] theorem zrd (a:List PV) (M:PM):pcl E0 18 a M=pclA E0 18 M (fzL (fz M fzD) a):=zae a M rfl
@[go_sem] theorem zre (a:List PV) (M:PM):pcl E0 19 a M=pclA E0 19 M (fzL (fz M fzD) a):=zae a M rfl
@[go_sem] theorem zrf (a:List PV) (M:PM):pcl E0 20 a M=pclA E0 20 M (fzL (fz M fzD) a):=zae a M rfl
@[go_sem] theorem zrg (a:List PV) (M:PM):pcl E0 21 a M=pclA E0 21 M (fzL (fz M fzD) a):=zae a M rfl
@[go_sem] theorem zrh (a:List PV) (M:PM):pcl E0 22 a M=pclA E0 22 M (fzL (fz M fzD) a):=zae a M rfl
@[go_sem] theorem zri (a:List PV) (M:PM):pcl E0 23 a M=pclA E0 23 M (fzL (fz M fzD) a):=zae a M rfl
@[go_sem] theorem zrj (a:List PV) (M:PM):pcl E0 24 a M=pclA E0 24 M (fzL (fz M fzD) a):=zae a M rfl
@[go_sem] theorem zrk (a:List PV) (M:PM):pcl E0 29 a M=pclA E0 29 M (fzL (fz M fzD) a):=zae a M rfl
@[go_sem] theorem zrl (a:List PV) (M:PM):pcl E0 30 a M=pclA E0 30 M (fzL (fz M fzD) a):=zae a M rfl
@[go_sem] theorem zrm (a:List PV) (M:PM):pcl E0 31 a M=pclA E0 31 M (fzL (fz M fzD) a):=zae a M rfl
@[go_sem] theorem zrn (a:List PV) (M:PM):pcl E0 33 a M=pclA E0 33 M (fzL (fz M fzD) a):=zae a M rfl
@[go_sem] theorem zro (a:List PV) (M:PM):pcl E0 34 a M=pclA E0 34 M (fzL (fz M fzD) a):=zae a M rfl
@[go_sem] theorem zrp (a:List PV) (M:PM):pcl E0 35 a M=pclA E0 35 M (fzL (fz M fzD) a):=zae a M rfl
@[go_sem] theorem zrq (a:List PV) (M:PM):pcl E0 36 a M=pclA E0 36 M (fzL (fz M fzD) a):=zae a M rfl
@[go_sem] theorem zrr (a:List PV) (M:PM):pcl E0 37 a M=pclA E0 37 M (fzL (fz M fzD) a):=zae a M rfl
@[go_sem] theorem zrs (a:List PV) (M:PM):pcl E0 38 a M=pclA E0 38 M (fzL (fz M fzD) a):=zae a M rfl
@[go_sem] theorem zrt (a:List PV) (M:PM):pcl E0 39 a M=pclA E0 39 M (fzL (fz M fzD) a):=zae a M rfl
@[go_sem] theorem zru (a:List PV) (M:PM):pcl E0 40 a M=pclA E0 40 M (fzL (fz M fzD) a):=zae a M rfl
@[go_sem] theorem zrv (a:List PV) (M:PM):pcl E0 41 a M=pclA E0 41 M (fzL (fz M fzD) a):=zae a M rfl
@[go_sem] theorem zrw (a:List PV) (M:PM):pcl E0 42 a M=pclA E0 42 M (fzL (fz M fzD) a):=zae a M rfl
@[go_sem] theorem zrx (a:List PV) (M:PM):pcl E0 43 a M=pclA E0 43 M (fzL (fz M fzD) a):=zae a M rfl
@[go_sem] theorem zry (a:List PV) (M:PM):pcl E0 44 a M=pclA E0 44 M (fzL (fz M fzD) a):=zae a M rfl
@[go_sem] theorem zrz (a:List PV) (M:PM):pcl E0 48 a M=pclA E0 48 M (fzL (fz M fzD) a):=zae a M rfl
@[go_sem] theorem zrA (a:List PV) (M:PM):pcl E0 49 a M=pclA E0 49 M (fzL (fz M fzD) a):=zae a M rfl
@[go_sem] theorem zrB (a:List PV) (M:PM):pcl E0 55 a M=pclA E0 55 M (fzL (fz M fzD) a):=zae a M rfl
@[go_sem] theorem zrC (a:List PV) (M:PM):pcl E0 59 a M=pclA E0 59 M (fzL (fz M fzD) a):=zae a M rfl
@[go_sem] theorem zrD (a:List PV) (M:PM):pcl E0 60 a M=pclA E0 60 M (fzL (fz M fzD) a):=zae a M rfl
@[go_sem] theorem zrE (a:List PV) (M:PM):pcl E0 61 a M=pclA E0 61 M (fzL (fz M fzD) a):=zae a M rfl
@[go_sem] theorem zrF (a:List PV) (M:PM):pcl E0 63 a M=pclA E0 63 M (fzL (fz M fzD) a):=zae a M rfl
@[go_sem] theorem zrG (a:List PV) (M:PM):pcl E0 64 a M=pclA E0 64 M (fzL (fz M fzD) a):=zae a M rfl
@[go_sem] theorem zrH (a:List PV) (M:PM):pcl E0 76 a M=pclA E0 76 M (fzL (fz M fzD) a):=zae a M rfl
@[go_sem] theorem zrI (a:List PV) (M:PM):pcl E0 78 a M=pclA E0 78 M (fzL (fz M fzD) a):=zae a M rfl
@[go_sem] theorem zrJ (a:List PV) (M:PM):pcl E0 79 a M=pclA E0 79 M (fzL (fz M fzD) a):=zae a M rfl
@[go_sem] theorem zrK (a:List PV) (M:PM):pcl E0 80 a M=pclA E0 80 M (fzL (fz M fzD) a):=zae a M rfl
@[go_sem] theorem zpV (a:List PV) (M:PM):pcl E0 180 a M=pclA E0 180 M (fzL (fz M fzD) a):=zae a M rfl
@[go_sem] theorem zpW (a:List PV) (M:PM):pcl E0 203 a M=pclA E0 203 M (fzL (fz M fzD) a):=zae a M rfl
@[go_sem] theorem zpX (a:List PV) (M:PM):pcl E0 211 a M=pclA E0 211 M (fzL (fz M fzD) a):=zae a M rfl
@[go_sem] theorem zpY (a:List PV) (M:PM):pcl E0 271 a M=pclA E0 271 M (fzL (fz M fzD) a):=zae a M rfl
@[go_sem] theorem zpZ (a:List PV) (M:PM):pcl E0 273 a M=pclA E0 273 M (fzL (fz M fzD) a):=zae a M rfl
@[go_sem] theorem zp0 (a:List PV) (M:PM):pcl E0 283 a M=pclA E0 283 M (fzL (fz M fzD) a):=zae a M rfl
@[go_sem] theorem zp1 (a:List PV) (M:PM):pcl E0 285 a M=pclA E0 285 M (fzL (fz M fzD) a):=zae a M rfl
@[go_sem] theorem zp2 (a:List PV) (M:PM):pcl E0 286 a M=pclA E0 286 M (fzL (fz M fzD) a):=zae a M rfl
@[go_sem] theorem zp3 (a:List PV) (M:PM):pcl E0 395 a M=pclA E0 395 M (fzL (fz M fzD) a):=zae a M rfl
@[go_sem] theorem zp4 (a:List PV) (M:PM):pcl E0 396 a M=pclA E0 396 M (fzL (fz M fzD) a):=zae a M rfl
@[go_sem] theorem zp5 (a:List PV) (M:PM):pcl E0 399 a M=pclA E0 399 M (fzL (fz M fzD) a):=zae a M rfl
@[go_sem] theorem zp6 (a:List PV) (M:PM):pcl E0 400 a M=pclA E0 400 M (fzL (fz M fzD) a):=zae a M rfl
@[go_sem] theorem zp7 (a:List PV) (M:PM):pcl E0 401 a M=pclA E0 401 M (fzL (fz M fzD) a):=zae a M rfl
@[go_sem] theorem zp8 (a:List PV) (M:PM):pcl E0 402 a M=pclA E0 402 M (fzL (fz M fzD) a):=zae a M rfl
@[go_sem] theorem zp9 (a:List PV) (M:PM):pcl E0 403 a M=pclA E0 403 M (fzL (fz M fzD) a):=zae a M rfl
@[go_sem] theorem zqa (a:List PV) (M:PM):pcl E0 407 a M=pclA E0 407 M (fzL (fz M fzD) a):=zae a M rfl
@[go_sem] theorem zqb (a:List PV) (M:PM):pcl E0 409 a M=pclA E0 409 M (fzL (fz M fzD) a):=zae a M rfl
@[go_sem] theorem zqc (a:List PV) (M:PM):pcl E0 410 a M=pclA E0 410 M (fzL (fz M fzD) a):=zae a M rfl
@[go_sem] theorem zqd (a:List PV) (M:PM):pcl E0 416 a M=pclA E0 416 M (fzL (fz M fzD) a):=zae a M rfl
@[go_sem] theorem zqe (a:List PV) (M:PM):pcl E0 421 a M=pclA E0 421 M (fzL (fz M fzD) a):=zae a M rfl
@[go_sem] theorem zqf (a:List PV) (M:PM):pcl E0 425 a M=pclA E0 425 M (fzL (fz M fzD) a):=zae a M rfl
theorem zly {a:List PV} {v:PV} (h:orcP 33 a []=some (v,[])) (hz:(fz [] fzD v).map Prod.fst=some v):pf E0 33 a=some v:=zgf (o:=orcA 33) rfl h hz
end Go.Eng
namespace Go.Eng
def Ok32 (xs:List Nat):Prop:=∀x∈xs,x<4294967296
theorem zjP:∃f:Nat→Nat→Nat,∀v i,f v i=v/4294967296^i%4294967296:=⟨fun v i=>v/4294967296^i%4294967296,fun _ _=>rfl⟩
noncomputable def dgt:Nat→Nat→Nat:=Classical.choose zjP
theorem zad (v i:Nat):dgt v i=v/4294967296^i%4294967296:=Classical.choose_spec zjP v i
def tab {α:Type} (n:Nat) (f:Nat→α):List α:=(List.range n).map f
@[simp,go_sem] theorem zbP {α:Type} (n:Nat) (f:Nat→α):(tab n f).length=n:=by simp[tab]
theorem zbc {α:Type} (n:Nat) (f:Nat→α) (i:Nat):(tab n f)[i]?=if i<n then some (f i) else none:=by
 unfold tab
 rw[List.getElem?_map]
 split
 ·rename_i h;rw[List.getElem?_range h];rfl
 ·rename_i h;rw[List.getElem?_eq_none (by simp;omega)];rfl
theorem zaO {α:Type} {n:Nat} {f:Nat→α} {i:Nat} (h:i<n):(tab n f)[i]?=some (f i):=by rw[zbc,if_pos h]
theorem zaq {α:Type} (n:Nat) (f:Nat→α) (i:Nat) (x:α):(tab n f).set i x=tab n fun k=>if k=i then x else f k:=by
 apply List.ext_getElem?
 intro k
 rw[List.getElem?_set,zbc,zbc]
 by_cases h:i=k
 ·subst h;simp
 ·simp only[h,if_false,show ¬k=i from fun e=>h e.symm]
theorem zag {α:Type} {n:Nat} {f g:Nat→α} (h:∀k,k<n→f k=g k):tab n f=tab n g:=by
 apply List.ext_getElem?
 intro k
 rw[zbc,zbc]
 split
 ·rename_i hk;rw[h k hk]
 ·rfl
theorem zlV {α β:Type} (n:Nat) (f:Nat→α) (g:α→β):(tab n f).map g=tab n fun k=>g (f k):=by simp[tab]
theorem zcu {α:Type} (n:Nat) (x:α):List.replicate n x=tab n fun _=>x:=by
 apply List.ext_getElem?
 intro k
 rw[zbc,List.getElem?_replicate]
theorem zjB {α:Type} (n:Nat) (f:Nat→α) (k:Nat) (h:k≤n):(tab n f).take k=tab k f:=by
 apply List.ext_getElem?
 intro i
 rw[List.getElem?_take,zbc,zbc]
 by_cases h1:i<k
 ·rw[if_pos h1,if_pos (by omega),if_pos h1]
 ·rw[if_neg h1,if_neg h1]
theorem tab_of {α:Type} (l:List α) (d:α):l=tab l.length fun k=>l.getD k d:=by
 apply List.ext_getElem?
 intro i
 rw[zbc]
 by_cases h:i<l.length
 ·rw[if_pos h];simp[List.getD,h]
 ·rw[if_neg h,List.getElem?_eq_none (by omega)]
noncomputable def dw (n v:Nat):List Nat:=tab n (dgt v)
theorem zbl (i:Nat):0<4294967296^i:=Nat.pow_pos (by decide)
theorem zam (v i:Nat):dgt v i<4294967296:=by rw[zad];exact Nat.mod_lt _ (by decide)
theorem zcH (i:Nat):dgt 0 i=0:=by simp[zad]
theorem ze4 (v:Nat):dgt v 0=v%4294967296:=by simp[zad]
theorem zfK (v i:Nat):dgt v (i+1)=dgt (v/4294967296) i:=by
 rw[zad,zad,Nat.pow_succ,Nat.mul_comm,Nat.div_div_eq_div_mul]
theorem zap (v i:Nat):v%4294967296^(i+1)=v%4294967296^i+4294967296^i*dgt v i:=by
 rw[zad,Nat.pow_succ,Nat.mod_mul]
theorem zkp:∀{xs:List Nat},Ok32 xs→val xs<4294967296^xs.length
 | [],_=>by simp[val]
 | x::xs,h=>by
  have h1:=h x (List.mem_cons_self ..)
  have h2:=zkp (xs:=xs) fun y hy=>h y (List.mem_cons_of_mem _ hy)
  simp only[val,List.length_cons,Nat.pow_succ]
  omega
theorem zgu:∀{xs:List Nat},Ok32 xs→∀i,xs.getD i 0=dgt (val xs) i
 | [],_,i=>by simp[val,zcH,List.getD]
 | x::xs,h,0=>by
  have h1:=h x (List.mem_cons_self ..)
  simp[val,ze4,List.getD];omega
 | x::xs,h,i+1=>by
  have h1:=h x (List.mem_cons_self ..)
  have:=zgu (xs:=xs) (fun y hy=>h y (List.mem_cons_of_mem _ hy)) i
  have e:val (x::xs)/4294967296=val xs:=by simp only[val];omega
  rw[zfK,e,←this];simp[List.getD]
theorem zmD {xs:List Nat} (h:Ok32 xs):xs=dw xs.length (val xs):=by
 have e:=tab_of xs 0
 have e2:tab xs.length (fun k=>xs.getD k 0)=dw xs.length (val xs):=zag fun k _=>zgu h k
 exact e.trans e2
theorem zpN (n v:Nat):Ok32 (dw n v):=fun x hx=>by
 unfold dw tab at hx
 obtain⟨i,_,rfl⟩:=List.mem_map.1 hx
 exact zam v i
theorem zkG (n v:Nat):dw (n+1) v=v%4294967296::dw n (v/4294967296):=by
 apply List.ext_getElem?
 intro k
 unfold dw
 cases k with
 | zero=>rw[zaO (by omega),ze4];rfl
 | succ k =>
  rw[List.getElem?_cons_succ,zbc,zbc,zfK]
  by_cases h:k<n
  ·rw[if_pos h,if_pos (by omega)]
  ·rw[if_neg h,if_neg (by omega)]
theorem zko:∀(n v:Nat),val (dw n v)=v%4294967296^n
 | 0,v=>by
  have:dw 0 v=[]:=rfl
  simp[this,val,Nat.mod_one]
 | n+1,v=>by
  rw[zkG,val,zko n,Nat.pow_succ,Nat.mul_comm (4294967296^n),Nat.mod_mul]
theorem zlZ {n v:Nat} (h:v<4294967296^n):val (dw n v)=v:=by rw[zko,Nat.mod_eq_of_lt h]
@[simp,go_sem] theorem zmC (n v:Nat):(dw n v).length=n:=by simp[dw]
def wlen (v:Nat):Nat:=if v=0 then 0 else Nat.log2 v/32+1
theorem zac (v:Nat):v<4294967296^wlen v:=by
 unfold wlen
 split
 ·rename_i h;subst h;decide
 ·rename_i h
  have h1:v<2^(Nat.log2 v+1):=Nat.lt_log2_self
  have h2:(4294967296:Nat)^(Nat.log2 v/32+1)=2^(32*(Nat.log2 v/32+1)):=by rw[Nat.pow_mul]
  rw[h2]
  exact Nat.lt_of_lt_of_le h1 (Nat.pow_le_pow_right (by decide) (by omega))
theorem zem {v:Nat} (h:v≠0):4294967296^(wlen v-1)≤v:=by
 unfold wlen
 rw[if_neg h]
 have h1:2^Nat.log2 v≤v:=Nat.log2_self_le h
 have h2:(4294967296:Nat)^(Nat.log2 v/32+1-1)=2^(32*(Nat.log2 v/32)):=by rw[Nat.add_sub_cancel,Nat.pow_mul]
 rw[h2]
 exact Nat.le_trans (Nat.pow_le_pow_right (by decide) (by omega)) h1
theorem zaz {v n:Nat}:wlen v≤n↔v<4294967296^n:=by
 constructor
 ·intro h
  exact Nat.lt_of_lt_of_le (zac v) (Nat.pow_le_pow_right (by decide) h)
 ·intro h
  by_cases h0:v=0
  ·subst h0;simp[wlen]
  ·have h1:=zem h0
   have h2:4294967296^(wlen v-1)<4294967296^n:=Nat.lt_of_le_of_lt h1 h
   have:=(Nat.pow_lt_pow_iff_right (by decide:1<4294967296)).1 h2
   omega
theorem zbN:wlen 0=0:=rfl
theorem zaJ {v:Nat} (h:v≠0):0<wlen v:=by unfold wlen;rw[if_neg h];omega
noncomputable def dig (v:Nat):List Nat:=dw (wlen v) v
@[simp] theorem zdx (v:Nat):(dig v).length=wlen v:=by simp[dig]
theorem zlY (v:Nat):val (dig v)=v:=zlZ (zac v)
theorem zm9 (v:Nat):Ok32 (dig v):=zpN _ _
def W (xs:List Nat):PV:=.lst (xs.map fun n=>(PV.i .u32 ((n:Nat):Int)))
noncomputable def Dw (n v:Nat):PV:=.lst (tab n fun k=>(PV.i .u32 ((dgt v k:Nat):Int)))
noncomputable abbrev D (v:Nat):PV:=Dw (wlen v) v
theorem zqN (n v:Nat):W (dw n v)=Dw n v:=by simp[W,dw,Dw,zlV]
noncomputable def intP (z:Int):PV:=.ag [.b (decide (z<0)),D z.natAbs]
@[go_sem] theorem zsy (M:PM) (d n v:Nat):fz M (d+1) (Dw n v)=some (Dw n v,[]):=_root_.id rfl
@[go_sem] theorem zon (n v:Nat):(Dw n v).cells=[Dw n v]:=_root_.id rfl
@[go_sem] theorem zqo (n v:Nat):(Dw n v).scal=true:=_root_.id rfl
@[go_sem] theorem zpD (n v:Nat):lenP (Dw n v)=some (.i .i64 (n:Int)):=by simp[Dw,lenP]
theorem zax {n v j:Nat} (h:j<n):idxP 1 (Dw n v) (some j)=some (.fp [(PV.i .u32 ((dgt v j:Nat):Int))]):=by
 rw[Dw,zfU,zaO h];rfl
@[go_sem] theorem zpw (M:PM) (d n:Nat) (k:IntKind) (g:Nat→Int):fzL (fz M (d+1)) (tab n fun j=>PV.i k (g j))=some (tab n fun j=>PV.i k (g j),[]):=zcK M d _ (fun _=>rfl) _
@[go_sem] theorem zjC (n:Nat) (f:Nat→PV):(tab n f).take n=tab n f:=by
 have:=List.take_length (l:=tab n f)
 rwa [zbP] at this
@[go_sem] theorem zmP (n:Nat) (f:Nat→PV):group 1 n (tab n f)=tab n f:=zbo n _ (by simp)
@[go_sem] theorem zpr (n v:Nat):PV.lst (tab n fun k=>PV.i .u32 ((dgt v k:Nat):Int))=Dw n v:=_root_.id rfl
end Go.Eng
namespace Go.Eng
def cmpI (a b:Int):Int:=if a<b then-1 else if b<a then 1 else 0
@[go_sem] theorem znD (a:Int):pf E0 79 [.i .u32 a]=some (.b false):=by
 refine zab (xf:=ztg) rfl (by simp[ztg]) ?_
 simp only[ztg,go_sem,seval]
@[go_sem] theorem znE (a:Int):pf E0 78 [.i .i64 a]=some (.b false):=by
 refine zab (xf:=ztq) rfl (by simp[ztq]) ?_
 simp only[ztq,go_sem,seval]
@[go_sem] theorem zpS (a b:Int):pf E0 61 [.i .u32 a,.i .u32 b]=some (.i .i64 (cmpI a b)):=by
 refine zab (xf:=ztc) rfl (by simp[ztc]) ?_
 simp only[ztc,go_sem,seval]
 refine zeO (fun h=>?_) (fun h=>?_)
 ·simp only[go_sem,seval,cmpI,h]
 ·simp only[go_sem,seval]
  refine zeO (fun h2=>?_) (fun h2=>?_)
  ·simp only[go_sem,seval,cmpI,h,h2]
  ·simp only[go_sem,seval,cmpI,h,h2]
@[go_sem] theorem zpT (a b:Int):pf E0 60 [.i .i64 a,.i .i64 b]=some (.i .i64 (cmpI a b)):=by
 refine zab (xf:=ztj) rfl (by simp[ztj]) ?_
 simp only[ztj,go_sem,seval]
 refine zeO (fun h=>?_) (fun h=>?_)
 ·simp only[go_sem,seval,cmpI,h]
 ·simp only[go_sem,seval]
  refine zeO (fun h2=>?_) (fun h2=>?_)
  ·simp only[go_sem,seval,cmpI,h,h2]
  ·simp only[go_sem,seval,cmpI,h,h2]
theorem znX (n v k:Nat) (h:k≤n):slP 1 (Dw n v) none (some (.i .i64 (k:Int))) none=some (Dw k v):=by
 have hz:ez 1 (tab n fun k=>(PV.i .u32 ((dgt v k:Nat):Int)))=true:=by
  unfold ez tab
  simp[PV.cells]
 simp only[slP,Dw,Option.isSome_none,Bool.false_eq_true,if_false,optP,zcD,hz,zbP]
 rw[if_pos ⟨by omega,h,trivial⟩,List.drop_zero,zjB _ _ _ h]
theorem zeE {E:PEnv} (hE:E.prog 49=some (.fn zts)) (n v:Nat) (hv:v<4294967296^n) (hn:n<1099511627776) (hO:E.ovr 49 [Dw n v]=none:=by rfl):pf E 49 [Dw n v]=some (D v):=by
 refine zab (xf:=zts) hE (by simp[zts]) ?_ hO
 simp only[zts]
 simp only[go_sem,seval]
 refine zai zut.eq_1 (fun(m:Nat) fr M=>fr 0=Dw m v∧v<4294967296^m∧m≤n∧M=[]) id ?_ n ⟨by simp only[go_sem,seval],hv,Nat.le_refl _,rfl⟩
 rintro m fr M ⟨h0,h1,h2,rfl⟩ ih
 by_cases hm:m=0
 ·subst hm
  have hv0:v=0:=by simpa using h1
  subst hv0
  simp only[go_sem,seval,h0,Int.ofNat_lt,Nat.lt_irrefl,Int.natCast_zero,Int.lt_irrefl]
  rfl
 ·have hm':(0:Int)<(m:Int):=by omega
  simp(disch:=omega)only[go_sem,seval,wqq,h0,hm',zaD,zax]
  have e:v=v%4294967296^(m-1)+4294967296^(m-1)*dgt v (m-1):=by
   rw[←zap,show m-1+1=m by omega,Nat.mod_eq_of_lt h1]
  refine zeO (fun h=>?_) (fun h=>?_)
  ·have hd:dgt v (m-1)=0:=by omega
   rw[hd,Nat.mul_zero,Nat.add_zero] at e
   simp(disch:=omega)only[go_sem,seval,wqq,h0,zaD,znX]
   exact ih (m-1) _ _ (by simp only[id];omega) ⟨by simp only[go_sem,seval],by rw[e];exact Nat.mod_lt _ (zbl _),by omega,rfl⟩
  ·have hd:dgt v (m-1)≠0:=by omega
   have hw:wlen v=m:=by
    have h3:wlen v≤m:=zaz.2 h1
    have h4:¬wlen v≤m-1:=fun q=>by
     have:=zaz.1 q
     apply hd
     rw[zad,Nat.div_eq_of_lt this]
    omega
   simp only[go_sem,seval,h0]
   rw[D,hw]
theorem zjm (n v:Nat) (hv:v<4294967296^n) (hn:n<1099511627776):pf E0 49 [Dw n v]=some (D v):=zeE rfl n v hv hn
theorem zbJ {n v:Nat} (hv:v<4294967296^n) (hn:n<1099511627776):pf E0 49 [Dw n v]=some (D v):=zjm n v hv hn
theorem zcE (a b:Int):(cmpI a b=0)=(a=b):=by
 unfold cmpI
 apply propext
 by_cases h:a<b
 ·simp[h];omega
 ·by_cases h2:b<a
  ·simp[h,h2];omega
  ·simp[h,h2];omega
theorem zfH (a b c d:Nat) (h1:a<b↔c<d) (h2:b<a↔d<c):cmpI (a:Int) (b:Int)=cmpI (c:Int) (d:Int):=by
 have e1:((a:Int)<(b:Int))=((c:Int)<(d:Int)):=by rw[za7,za7];exact propext h1
 have e2:((b:Int)<(a:Int))=((d:Int)<(c:Int)):=by rw[za7,za7];exact propext h2
 unfold cmpI
 simp only[e1,e2]
theorem zci {a b:Nat} (h:wlen a<wlen b):a<b:=by
 by_cases hab:a<b
 ·exact hab
 ·have h1:b<4294967296^wlen a:=Nat.lt_of_le_of_lt (by omega) (zac a)
  have:=zaz.2 h1
  omega
theorem zaT (a b:Nat) (ha:wlen a<1099511627776) (hb:wlen b<1099511627776):pf E0 41 [D a,D b]=some (.i .i64 (cmpI a b)):=by
 refine zab (xf:=ztw) rfl (by simp[ztw]) ?_
 simp only[ztw]
 simp only[go_sem,seval]
 refine zeO (fun h=>?_) (fun h=>?_)
 ·simp only[go_sem,seval]
  rw[zcE] at h
  congr 2
  refine zfH _ _ _ _ ⟨fun q=>zci q,fun q=>?_⟩ ⟨fun q=>zci q,fun q=>?_⟩
  ·have:¬wlen b<wlen a:=fun z=>by have:=zci z;omega
   omega
  ·have:¬wlen a<wlen b:=fun z=>by have:=zci z;omega
   omega
 ·have hl:wlen a=wlen b:=by
   rw[zcE] at h;omega
  simp(disch:=omega)only[go_sem,seval,wqq]
  refine zai zup.eq_1 (fun(m:Nat) fr M=>fr 0=D a∧fr 1=D b∧fr 6=.i .i64 ((m:Int)-1)∧a/4294967296^m=b/4294967296^m∧m≤wlen a∧M=[]) id ?_ (wlen a) ⟨by simp only[go_sem,seval],by simp only[go_sem,seval],by simp only[go_sem,seval],?_,Nat.le_refl _,rfl⟩
  ·rintro m fr M ⟨h0,h1,h6,hq,hm,rfl⟩ ih
   by_cases hm0:m=0
   ·subst hm0
    have hab:a=b:=by simpa using hq
    simp(disch:=omega)only[go_sem,seval,wqq,h6,Int.natCast_zero,Int.zero_sub,Int.reduceNeg,Int.reduceLE]
    subst hab
    simp[cmpI]
   ·have hm':(0:Int)≤(m:Int)-1:=by omega
    have ia:(D a)=Dw (wlen a) a:=rfl
    have ib:(D b)=Dw (wlen b) b:=rfl
    simp(disch:=omega)only[go_sem,seval,wqq,h0,h1,h6,hm',zaD,ia,ib,zax]
    have ea:a/4294967296^(m-1)=4294967296*(a/4294967296^m)+dgt a (m-1):=by
     rw[zad,show (4294967296:Nat)^m=4294967296^(m-1)*4294967296 by rw[←Nat.pow_succ];congr 1;omega,←Nat.div_div_eq_div_mul]
     exact(Nat.div_add_mod _ _).symm
    have eb:b/4294967296^(m-1)=4294967296*(b/4294967296^m)+dgt b (m-1):=by
     rw[zad,show (4294967296:Nat)^m=4294967296^(m-1)*4294967296 by rw[←Nat.pow_succ];congr 1;omega,←Nat.div_div_eq_div_mul]
     exact(Nat.div_add_mod _ _).symm
    have lt:∀x y:Nat,x/4294967296^(m-1)<y/4294967296^(m-1)→x<y:=fun x y h=>by
     by_cases q:x<y
     ·exact q
     ·have:=Nat.div_le_div_right (c:=4294967296^(m-1)) (show y≤x by omega)
      omega
    refine zeO (fun h=>?_) (fun h=>?_)
    ·rw[zcE] at h
     simp only[go_sem,seval]
     congr 2
     have k1:=lt a b
     have k2:=lt b a
     refine zfH _ _ _ _ ⟨fun q=>k1 (by omega),fun q=>?_⟩ ⟨fun q=>k2 (by omega),fun q=>?_⟩
     ·have:¬dgt b (m-1)<dgt a (m-1):=fun z=>by have:=k2 (by omega);omega
      omega
     ·have:¬dgt a (m-1)<dgt b (m-1):=fun z=>by have:=k1 (by omega);omega
      omega
    ·have hd:dgt a (m-1)=dgt b (m-1):=by
      rw[zcE] at h;omega
     simp(disch:=omega)only[go_sem,seval,wqq,h6,zaD]
     exact ih (m-1) _ _ (by simp only[id];omega) ⟨by simp only[go_sem,seval,h0],by simp only[go_sem,seval,h1],by simp only[go_sem,seval],by omega,by omega,rfl⟩
  ·rw[Nat.div_eq_of_lt (zac a),hl,Nat.div_eq_of_lt (zac b)]
end Go.Eng
namespace Go.Eng
structure WI where
 v:Int
 ok:wlen v.natAbs≤512
theorem WI.ext' {x y:WI} (h:x.v=y.v):x=y:=by cases x;cases y;simp at h;subst h;rfl
theorem WI.lim (x:WI):wlen x.v.natAbs≤512:=x.ok
def wi0:WI:=⟨0,by simp[wlen]⟩
def clip (z:Int):WI:=if h:wlen z.natAbs≤512 then ⟨z,h⟩ else wi0
def lerr (z:Int):Int:=if wlen z.natAbs≤512 then 0 else 4
theorem zbt {z:Int} (h:wlen z.natAbs≤512):clip z=⟨z,h⟩:=by unfold clip;rw[dif_pos h]
theorem zfG {z:Int} (h:wlen z.natAbs≤512):(clip z).v=z:=by rw[zbt h]
theorem ze2 {z:Int} (h:¬wlen z.natAbs≤512):clip z=wi0:=by unfold clip;rw[dif_neg h]
theorem zc9 {z:Int} (h:wlen z.natAbs≤512):lerr z=0:=by unfold lerr;rw[if_pos h]
theorem zfc {z:Int} (h:¬wlen z.natAbs≤512):lerr z=4:=by unfold lerr;rw[if_neg h]
theorem zd7 (z:Int):lerr (-z)=lerr z:=by unfold lerr;rw[Int.natAbs_neg]
noncomputable def wiP (x:WI):PV:=intP x.v
theorem zdj (x:WI):wiP x=.ag [.b (decide (x.v<0)),D x.v.natAbs]:=rfl
@[go_sem] theorem zq2 (M:PM) (d:Nat) (x:WI):fz M (d+1+1) (wiP x)=some (wiP x,[]):=_root_.id rfl
@[go_sem] theorem zmp (x:WI):(wiP x).cells=[.b (decide (x.v<0)),D x.v.natAbs]:=_root_.id rfl
@[go_sem] theorem zpt (x:WI):PV.ag [.b (decide (x.v<0)),D x.v.natAbs]=wiP x:=_root_.id rfl
@[go_sem] theorem zot:PV.ag [.b false,.lst []]=wiP wi0:=_root_.id rfl
theorem zl9:PV.lst []=D 0:=rfl
theorem zbe {M:PM} {n:Nat} {b:PB} (h:n<M.length):PM.blk (M.set n (some b)) n=some b:=by
 rw[zan,List.getElem?_set];simp[h]
theorem zfD {M:PM} {n k:Nat} {b:Option PB} (h:n≠k):PM.blk (M.set n b) k=PM.blk M k:=by
 unfold PM.blk;rw[List.getElem?_set_ne h]
theorem zbB {M:PM} {n:Nat} {b:PB} (h:PM.blk M n=some b):n<M.length:=zaA (zan.1 h)
attribute [go_sem] List.set_set
@[go_sem] theorem znA (M:PM):pcl E0 58 [] M=some (.fn 77 [.p M.length 0],M++[some ⟨[.i .u64 0],true,0⟩]):=by
 refine za9 (xf:=ztv) rfl rfl (by simp[ztv]) ?_
 simp only[ztv]
 simp only[go_sem,seval]
theorem zcq (M:PM) (n c v e:Nat) (hb:PM.blk M n=some ⟨[.i .u64 (c:Int)],true,e⟩) (h:c+v<18446744073709551616) :
  pcl E0 77 [.i .u64 (v:Int),.p n 0] M=some ((PV.i .u32 (((c+v)%4294967296:Nat):Int)),M.set n (some ⟨[.i .u64 (((c+v)/4294967296:Nat):Int)],true,e+2⟩)):=by
 refine za9 (xf:=ztp) rfl rfl (by simp[ztp]) ?_
 simp only[ztp]
 have hl:=zbB hb
 simp(disch:=omega)only[go_sem,seval,wqq,za1,zbw,zbx,zaD,za7,zb9,hb,zbe,zaX,Int.reduceToNat,Nat.reducePow]
theorem zcd (x y:WI):pf E0 30 [wiP x,wiP y]=some (.i .i64 (cmpI x.v y.v)):=by
 refine zab (xf:=zty) rfl (by simp[zty]) ?_
 simp only[zty]
 have lx:=x.lim
 have ly:=y.lim
 by_cases hx:x.v<0
 ·by_cases hy:y.v<0
  ·simp(disch:=omega)only[go_sem,seval,wqq,hx,hy,zaT]
   congr 2
   unfold cmpI
   simp only[za7,show (y.v.natAbs<x.v.natAbs)=(x.v<y.v) by apply propext;omega,show (x.v.natAbs<y.v.natAbs)=(y.v<x.v) by apply propext;omega]
  ·simp(disch:=omega)only[go_sem,seval,wqq,hx,hy,zaT]
   unfold cmpI
   rw[if_pos (by omega)]
 ·by_cases hy:y.v<0
  ·simp(disch:=omega)only[go_sem,seval,wqq,hx,hy,zaT]
   unfold cmpI
   rw[if_neg (by omega),if_pos (by omega)]
  ·simp(disch:=omega)only[go_sem,seval,wqq,hx,hy,zaT]
   congr 2
   unfold cmpI
   simp only[za7,show (y.v.natAbs<x.v.natAbs)=(y.v<x.v) by apply propext;omega,show (x.v.natAbs<y.v.natAbs)=(x.v<y.v) by apply propext;omega]
attribute [go_sem] zcd
@[go_sem] theorem zdG (x:WI):pf E0 31 [wiP x]=some (.i .i64 (cmpI x.v 0)):=by
 refine zab (xf:=ztY) rfl (by simp[ztY]) ?_
 simp only[ztY]
 simp only[go_sem,seval]
 rfl
def WI.neg (x:WI):WI:=⟨-x.v,by rw[Int.natAbs_neg];exact x.ok⟩
@[go_sem] theorem zji (x:WI):pf E0 43 [wiP x]=some (wiP x.neg):=by
 refine zab (xf:=zt9) rfl (by simp[zt9]) ?_
 simp only[zt9]
 have hn:wiP x.neg=.ag [.b (decide (0<x.v)),D x.v.natAbs]:=by
  simp only[zdj,WI.neg,Int.natAbs_neg]
  congr 3
  exact decide_eq_decide.2 (by omega)
 rw[hn]
 by_cases hx:x.v<0
 ·have h2:¬0<x.v:=by omega
  simp(disch:=omega)only[go_sem,seval,wqq,hx,h2]
 ·simp(disch:=omega)only[go_sem,seval,wqq,hx]
  congr 4
  refine decide_eq_decide.2 ?_
  constructor
  ·intro h
   have:x.v.natAbs≠0:=fun q=>by rw[q] at h;simp[wlen] at h
   omega
  ·intro h
   have:=zaJ (v:=x.v.natAbs) (by omega)
   omega
theorem zau (neg:Bool) (n v:Nat) (hv:v<4294967296^n) (hn:n<1099511627776) :
  pf E0 36 [.b neg,Dw n v]=some (.tu [wiP (clip (if neg then-(v:Int) else v)),.i .i64 (lerr (v:Int))]):=by
 refine zab (xf:=ztF) rfl (by simp[ztF]) ?_
 simp only[ztF]
 simp(disch:=omega)only[go_sem,seval,wqq,zbJ]
 refine zeO (fun h=>?_) (fun h=>?_)
 ·simp(disch:=omega)only[go_sem,seval,wqq]
  have hn:¬wlen (v:Int).natAbs≤512:=by simp only[Int.natAbs_natCast];omega
  have hc:clip (if neg then-(v:Int) else v)=wi0:=by
   cases neg
   ·exact ze2 hn
   ·exact ze2 (by simpa using hn)
  rw[hc,zfc hn]
 ·have hn:wlen (v:Int).natAbs≤512:=by simp only[Int.natAbs_natCast];omega
  rw[zc9 hn]
  cases neg
  ·simp(disch:=omega)only[go_sem,seval,wqq]
   rw[zbt hn]
   rfl
  ·simp(disch:=omega)only[go_sem,seval,wqq]
   have hn':wlen (-(v:Int)).natAbs≤512:=by rw[Int.natAbs_neg];exact hn
   have e1:((decide ((0:Int)<(wlen v:Int))):Bool)=decide ((-(v:Int))<0):=by
    refine decide_eq_decide.2 ?_
    constructor
    ·intro h
     have:v≠0:=fun q=>by rw[q] at h;simp[wlen] at h
     omega
    ·intro h
     have:=zaJ (v:=v) (by omega)
     omega
   rw[zbt hn',zdj,←e1]
   simp only[Int.natAbs_neg,Int.natAbs_natCast]
end Go.Eng
namespace Go.Eng
theorem ze0 {P T s c d r:Nat} (hP:0<P) (hT:T=s%P+P*c) (hs:s=T+P*d+P*4294967296*r) :
  s/P%4294967296=(c+d)%4294967296∧T+P*d=s%(P*4294967296)+P*4294967296*((c+d)/4294967296):=by
 have e1:s/P=c+d+4294967296*r:=by
  have h1:=Nat.div_add_mod s P
  have h2:P*(s/P)=P*(c+d+4294967296*r):=by
   rw[Nat.mul_add,Nat.mul_add,←Nat.mul_assoc];omega
  exact Nat.eq_of_mul_eq_mul_left hP h2
 have e2:s/P%4294967296=(c+d)%4294967296:=by omega
 refine⟨e2,?_⟩
 rw[Nat.mod_mul,e2,hT]
 have h3:=Nat.div_add_mod (c+d) 4294967296
 have h4:P*(c+d)=P*4294967296*((c+d)/4294967296)+P*((c+d)%4294967296):=by
  rw[Nat.mul_assoc,←Nat.mul_add,h3]
 rw[Nat.mul_add] at h4
 omega
theorem zbD (a i:Nat):a=a%4294967296^i+4294967296^i*dgt a i+4294967296^i*4294967296*(a/(4294967296^i*4294967296)):=by
 have h:=zap a i
 have h2:=Nat.div_add_mod a (4294967296^i*4294967296)
 rw[Nat.pow_succ] at h
 omega
theorem zbi {a n i:Nat} (h:a<4294967296^n) (hi:n≤i):dgt a i=0:=by
 rw[zad,Nat.div_eq_of_lt (Nat.lt_of_lt_of_le h (Nat.pow_le_pow_right (by decide) hi))]
theorem zde (b0:Option PB) (c v e:Nat) (h:c+v<18446744073709551616) :
  pcl E0 77 [.i .u64 (v:Int),.p 1 0] [b0,some ⟨[.i .u64 (c:Int)],true,e⟩]=some ((PV.i .u32 (((c+v)%4294967296:Nat):Int)),[b0,some ⟨[.i .u64 (((c+v)/4294967296:Nat):Int)],true,e+2⟩]) :=
 zcq _ 1 c v e rfl h
theorem zfl (b0:Option PB) (c e:Nat) (h:c<18446744073709551616) :
  pcl E0 77 [.i .u64 0,.p 1 0] [b0,some ⟨[.i .u64 (c:Int)],true,e⟩]=some ((PV.i .u32 ((c%4294967296:Nat):Int)),[b0,some ⟨[.i .u64 ((c/4294967296:Nat):Int)],true,e+2⟩]) :=
 zcq _ 1 c 0 e rfl h
theorem zjA {F:PFin} {ks:List KI} {n m a b:Nat} (hm:m≤n) (ha:a<4294967296^n) (hb:b<4294967296^m) (hn:n<1099511627776) {fr:PFr} {M:PM} (h0:fr 0=Dw n a) (h1:fr 1=Dw m b)
  (h5:fr 5=.sl 0 0 (n+1) (n+1) 1) (h6:fr 6=.fn 77 [.p 1 0]) (h22:fr 22=.i .i64 ((n+1:Nat):Int)) (h23:fr 23=.i .i64 0) (hM:M=[some ⟨List.replicate (n+1) (.i .u32 0),true,0⟩,some ⟨[.i .u64 0],true,0⟩])
  (cont:∀fr' e b2,fr' 5=.sl 0 0 (n+1) (n+1) 1→UK E0 F (.exit 0) ks fr' [some ⟨tab (n+1) (fun k=>(PV.i .u32 ((dgt (a+b) k:Nat):Int))),true,e⟩,b2]):WK E0 F (.loop ztH) ks fr M:=by
 refine zai ztH.eq_1 (fun(i:Nat) fr M=>i≤n+1∧fr 0=Dw n a∧fr 1=Dw m b∧fr 5=.sl 0 0 (n+1) (n+1) 1∧fr 6=.fn 77 [.p 1 0]∧fr 22=.i .i64 ((n+1:Nat):Int)∧fr 23=.i .i64 (i:Int) ∧
  ∃c e1 e2:Nat,M=[some ⟨tab (n+1) fun k=>(PV.i .u32 ((if k<i then dgt (a+b) k else 0:Nat):Int)),true,e1⟩,some ⟨[.i .u64 (c:Int)],true,e2⟩]∧c≤1∧a%4294967296^i+b%4294967296^i=(a+b)%4294967296^i+4294967296^i*c)
  (fun i=>n+1-i) ?_ 0 ⟨Nat.zero_le _,h0,h1,h5,h6,h22,h23,0,0,0,by rw[hM,zcu];rfl,Nat.zero_le _,by simp[Nat.mod_one]⟩
 rintro i fr M ⟨hi,h0,h1,h5,h6,h22,h23,c,e1,e2,rfl,hc,hinv⟩ ih
 by_cases hin:i<n+1
 ·have hc0:((i:Int)<((n+1:Nat):Int))=True:=by simp;omega
  have da:=zam a i
  have db:=zam b i
  have fin:∀v fr' e1 e2,v=dgt a i+dgt b i→fr' 0=Dw n a→fr' 1=Dw m b→fr' 5=.sl 0 0 (n+1) (n+1) 1→fr' 6=.fn 77 [.p 1 0]→fr' 22=.i .i64 ((n+1:Nat):Int)→fr' 23=.i .i64 ((i+1:Nat):Int) →
    WK E0 F (.loop ztH) ks fr' [some ⟨tab (n+1) fun k=>if k=i then (PV.i .u32 (((c+v)%4294967296:Nat):Int)) else (PV.i .u32 ((if k<i then dgt (a+b) k else 0:Nat):Int)),true,e1⟩,some ⟨[.i .u64 (((c+v)/4294967296:Nat):Int)],true,e2⟩]:=by
   intro v fr' e1 e2 hv g0 g1 g5 g6 g22 g23
   subst hv
   have sa:=zbD a i
   have sb:=zbD b i
   obtain⟨k1,k2⟩:=ze0 (P:=4294967296^i) (T:=a%4294967296^i+b%4294967296^i) (s:=a+b) (c:=c) (d:=dgt a i+dgt b i) (r:=a/(4294967296^i*4294967296)+b/(4294967296^i*4294967296)) (zbl i) hinv (by rw[Nat.mul_add,Nat.mul_add];omega)
   refine ih (i+1) fr' _ (by omega) ⟨by omega,g0,g1,g5,g6,g22,g23,(c+(dgt a i+dgt b i))/4294967296,e1,e2,?_,by omega,?_⟩
   ·congr 3
    refine zag fun k hk=>?_
    by_cases hki:k=i
    ·subst hki
     rw[if_pos rfl,if_pos (by omega)]
     congr 2;rw[zad (a+b)];exact k1.symm
    ·rw[if_neg hki]
     congr 1
     by_cases h:k<i
     ·rw[if_pos h,if_pos (by omega)]
     ·rw[if_neg h,if_neg (by omega)]
   ·rw[zap,zap b,Nat.pow_succ,←k2,Nat.mul_add];omega
  by_cases hia:i<n
  ·have hc1:((i:Int)<(n:Int))=True:=by simp;omega
   by_cases him:i<m
   ·have hc2:((i:Int)<(m:Int))=True:=by simp;omega
    simp(disch:=omega)only[go_sem,seval,wqq,za1,zbw,zbx,zaD,za7,zb9,h0,h1,h5,h6,h22,h23,hc0,hc1,hc2,Int.zero_add,zax,zde,zaq,hin]
    exact fin _ _ _ _ rfl (by simp only[go_sem,seval,h0]) (by simp only[go_sem,seval,h1]) (by simp only[go_sem,seval,h5]) (by simp only[go_sem,seval,h6]) (by simp only[go_sem,seval,h22]) (by simp only[go_sem,seval])
   ·have hc2:((i:Int)<(m:Int))=False:=by simp;omega
    have hz:dgt b i=0:=zbi hb (by omega)
    simp(disch:=omega)only[go_sem,seval,wqq,za1,zbw,zbx,zaD,za7,zb9,h0,h1,h5,h6,h22,h23,hc0,hc1,hc2,Int.zero_add,zax,zde,zaq,hin]
    exact fin _ _ _ _ (by omega) (by simp only[go_sem,seval,h0]) (by simp only[go_sem,seval,h1]) (by simp only[go_sem,seval,h5]) (by simp only[go_sem,seval,h6]) (by simp only[go_sem,seval,h22]) (by simp only[go_sem,seval])
  ·have hc1:((i:Int)<(n:Int))=False:=by simp;omega
   have hc2:((i:Int)<(m:Int))=False:=by simp;omega
   have hz:dgt b i=0:=zbi hb (by omega)
   have hz2:dgt a i=0:=zbi ha (by omega)
   simp(disch:=omega)only[go_sem,seval,wqq,za1,zbw,zbx,zaD,za7,zb9,h0,h1,h5,h6,h22,h23,hc0,hc1,hc2,Int.zero_add,zax,zfl,zaq,hin]
   have f0:=fun fr' e1 e2=>fin 0 fr' e1 e2
   simp only[Nat.add_zero] at f0
   exact f0 _ _ _ (by omega) (by simp only[go_sem,seval,h0]) (by simp only[go_sem,seval,h1]) (by simp only[go_sem,seval,h5]) (by simp only[go_sem,seval,h6]) (by simp only[go_sem,seval,h22]) (by simp only[go_sem,seval])
 ·have hc0:((i:Int)<((n+1:Nat):Int))=False:=by simp;omega
  obtain rfl:i=n+1:=by omega
  simp(disch:=omega)only[go_sem,seval,wqq,za1,zbw,zbx,zaD,za7,zb9,h22,h23,hc0]
  have:=cont (fr.put 24 (.b false)) e1 (some ⟨[.i .u64 (c:Int)],true,e2⟩) (by simp only[go_sem,seval,h5])
  have ht:(tab (n+1) fun k=>(PV.i .u32 ((if k<n+1 then dgt (a+b) k else 0:Nat):Int)))=tab (n+1) fun k=>(PV.i .u32 ((dgt (a+b) k:Nat):Int)):=zag fun k hk=>by rw[if_pos hk]
  rw[←ht] at this
  exact this
theorem znG {n m a b:Nat} (ha:a<4294967296^n) (hb:b<4294967296^m) (hn:n<1073741824) (hm:m<1073741824):pf E0 40 [Dw n a,Dw m b]=some (Dw (max n m+1) (a+b)):=by
 refine zab (xf:=zt7) rfl (by simp[zt7]) ?_
 simp only[zt7]
 have fin:∀(n m a b:Nat),m≤n→a<4294967296^n→b<4294967296^m→n<1073741824→∀fr M,fr 0=Dw n a→fr 1=Dw m b→fr 5=.sl 0 0 (n+1) (n+1) 1→fr 6=.fn 77 [.p 1 0]→fr 22=.i .i64 ((n+1:Nat):Int)→fr 23=.i .i64 0→M=[some ⟨List.replicate (n+1) (.i .u32 0),true,0⟩,some ⟨[.i .u64 0],true,0⟩]→∀n' s,n'=n+1→s=a+b →
   WK E0 { res:=[XR.tmp 4],Q:=fun w M2=>Option.map Prod.fst (fz M2 12 w)=some (Dw n' s) } (.loop ztH) [KI.block 0,KI.seq ((XC.reg [⟨some 55,.mov (.t 5),[],none⟩,⟨some 4,.mov (.t 55),[0,0],none⟩]).seq XC.ret)] fr M:=by
  intro n m a b hm ha hb hn fr M h0 h1 h5 h6 h22 h23 hM n' s hn' hs
  subst hn' hs
  refine zjA hm ha hb (by omega) h0 h1 h5 h6 h22 h23 hM fun fr' e b2 g5=>?_
  simp only[go_sem,seval,g5]
 by_cases h:n<m
 ·have hc:((n:Int)<(m:Int))=True:=by simp;omega
  simp(disch:=omega)only[go_sem,seval,wqq,za1,zbw,zbx,zaD,za7,zb9,hc,zcA]
  exact fin m n b a (by omega) hb ha (by omega) _ _ (by simp only[go_sem,seval]) (by simp only[go_sem,seval]) (by simp only[go_sem,seval]) (by simp only[go_sem,seval]) (by simp only[go_sem,seval]) (by simp only[go_sem,seval]) rfl _ _ (by omega) (by omega)
 ·have hc:((n:Int)<(m:Int))=False:=by simp;omega
  simp(disch:=omega)only[go_sem,seval,wqq,za1,zbw,zbx,zaD,za7,zb9,hc,zcA]
  exact fin n m a b (by omega) ha hb (by omega) _ _ (by simp only[go_sem,seval]) (by simp only[go_sem,seval]) (by simp only[go_sem,seval]) (by simp only[go_sem,seval]) (by simp only[go_sem,seval]) (by simp only[go_sem,seval]) rfl _ _ (by omega) rfl
theorem zmJ (n:Nat) (k:IntKind) (g:Nat→Int):ez 1 (tab n fun j=>PV.i k (g j))=true:=by
 unfold ez tab
 simp[PV.cells]
theorem ziU (n:Nat) (k:IntKind) (g:Nat→Int):flat (tab n fun j=>PV.i k (g j))=tab n fun j=>PV.i k (g j):=by
 unfold flat tab
 rw[List.flatMap_map]
 simp only[PV.cells]
 rw[←List.map_eq_flatMap]
theorem zmt {n a e:Nat} {l:List PV} (hl:l.length=n):cpyP [some ⟨l,true,e⟩] 1 (.sl 0 0 n n 1) (Dw n a)=some (.i .i64 (n:Int),[some ⟨tab n fun k=>(PV.i .u32 ((dgt a k:Nat):Int)),true,e+1⟩]):=by
 have h1:srcP [some ⟨l,true,e⟩] 1 (Dw n a)=some (n,tab n fun k=>(PV.i .u32 ((dgt a k:Nat):Int))):=by
  simp only[srcP,Dw,zmJ,if_true,ziU,zbP]
 simp only[cpyP,h1,ne_eq,not_true_eq_false,if_false,ziF,Nat.min_self,Nat.mul_one,Nat.zero_add,hl,Nat.le_refl,and_self,if_true,List.set_cons_zero,zjC]
 congr 5
 simp[psplice,hl]
theorem zjz {F:PFin} {ks:List KI} {n m a b s e0:Nat} (hs:a=s+b) (hb:b<4294967296^m) (hn:n<1099511627776) (hm:m<1099511627776) {fr:PFr} {M:PM} (h0:fr 0=.sl 0 0 n n 1) (h1:fr 1=Dw m b)
  (h5:fr 5=.i .u64 0) (h10:fr 10=.i .i64 (n:Int)) (h11:fr 11=.i .i64 0) (hM:M=[some ⟨tab n fun k=>(PV.i .u32 ((dgt a k:Nat):Int)),true,e0⟩])
  (cont:∀fr' e (c:Nat),fr' 5=.i .u64 (c:Int)→UK E0 F (.exit 0) ks fr' [some ⟨tab n (fun k=>(PV.i .u32 ((dgt s k:Nat):Int))),true,e⟩]):WK E0 F (.loop ztk) ks fr M:=by
 refine zai ztk.eq_1 (fun(i:Nat) fr M=>i≤n∧fr 0=.sl 0 0 n n 1∧fr 1=Dw m b∧fr 10=.i .i64 (n:Int)∧fr 11=.i .i64 (i:Int) ∧
  ∃c e:Nat,fr 5=.i .u64 (c:Int)∧M=[some ⟨tab n fun k=>(PV.i .u32 ((if k<i then dgt s k else dgt a k:Nat):Int)),true,e⟩]∧c≤1∧s%4294967296^i+b%4294967296^i=a%4294967296^i+4294967296^i*c)
  (fun i=>n-i) ?_ 0 ⟨Nat.zero_le _,h0,h1,h10,h11,0,e0,h5,by rw[hM];rfl,Nat.zero_le _,by simp[Nat.mod_one]⟩
 rintro i fr M ⟨hi,h0,h1,h10,h11,c,e,h5,rfl,hc,hinv⟩ ih
 by_cases hin:i<n
 ·have hc0:((i:Int)<(n:Int))=True:=by simp;omega
  have da:=zam a i
  have db:=zam b i
  have ds:=zam s i
  have hget:(tab n fun k=>(PV.i .u32 ((if k<i then dgt s k else dgt a k:Nat):Int)))[i]?=some ((PV.i .u32 ((dgt a i:Nat):Int))):=by rw[zaO hin,if_neg (by omega)]
  have fin:∀z c' fr' e,z<4294967296→dgt a i+4294967296*c'=z+c+dgt b i→fr' 0=.sl 0 0 n n 1→fr' 1=Dw m b→fr' 10=.i .i64 (n:Int)→fr' 11=.i .i64 ((i+1:Nat):Int)→fr' 5=.i .u64 (c':Int)→∀M',M'=[some ⟨tab n fun k=>if k=i then (PV.i .u32 ((z:Nat):Int)) else (PV.i .u32 ((if k<i then dgt s k else dgt a k:Nat):Int)),true,e⟩] →
    WK E0 F (.loop ztk) ks fr' M':=by
   intro z c' fr' e hz heq g0 g1 g10 g11 g5 M' hM'
   subst hM'
   have sa:=zbD s i
   have sb:=zbD b i
   obtain⟨k1,k2⟩:=ze0 (P:=4294967296^i) (T:=s%4294967296^i+b%4294967296^i) (s:=a) (c:=c) (d:=dgt s i+dgt b i) (r:=s/(4294967296^i*4294967296)+b/(4294967296^i*4294967296)) (zbl i) hinv (by rw[Nat.mul_add,Nat.mul_add];omega)
   have k1':dgt a i=(c+(dgt s i+dgt b i))%4294967296:=by rw[zad a];exact k1
   have hz':z=dgt s i:=by omega
   have hc':c'=(c+(dgt s i+dgt b i))/4294967296:=by omega
   refine ih (i+1) fr' _ (by omega) ⟨by omega,g0,g1,g10,g11,c',e,g5,?_,by omega,?_⟩
   ·congr 3
    refine zag fun k hk=>?_
    by_cases hki:k=i
    ·subst hki
     rw[if_pos rfl,if_pos (by omega),hz']
    ·rw[if_neg hki]
     congr 1
     by_cases h:k<i
     ·rw[if_pos h,if_pos (by omega)]
     ·rw[if_neg h,if_neg (by omega)]
   ·rw[hc',zap,zap b,Nat.pow_succ,←k2,Nat.mul_add];omega
  have i0:((i:Int)+1)=((i+1:Nat):Int):=by omega
  by_cases him:i<m
  ·have hc2:((i:Int)<(m:Int))=True:=by simp;omega
   by_cases hgt:dgt a i<c+dgt b i
   ·have hg:((dgt a i:Int)<(c:Int)+(dgt b i:Int))=True:=by simp;omega
    simp(disch:=omega)only[go_sem,seval,wqq,h0,h1,h5,h10,h11,hc0,hc2,zax,hin,hget,hg,i0,zaq]
    refine fin (dgt a i+4294967296-(c+dgt b i)) 1 _ (e+1) (by omega) (by omega) (by simp only[go_sem,seval,h0]) (by simp only[go_sem,seval,h1]) (by simp only[go_sem,seval,h10]) (by simp only[go_sem,seval]) (by simp only[go_sem,seval];try rfl) _ ?_
    congr 3
    refine zag fun k hk=>?_
    split
    ·congr 1;omega
    ·rfl
   ·have hg:((dgt a i:Int)<(c:Int)+(dgt b i:Int))=False:=by simp;omega
    simp(disch:=omega)only[go_sem,seval,wqq,h0,h1,h5,h10,h11,hc0,hc2,zax,hin,hget,hg,i0,zaq]
    refine fin (dgt a i-(c+dgt b i)) 0 _ (e+1) (by omega) (by omega) (by simp only[go_sem,seval,h0]) (by simp only[go_sem,seval,h1]) (by simp only[go_sem,seval,h10]) (by simp only[go_sem,seval]) (by simp only[go_sem,seval];try rfl) _ ?_
    congr 3
    refine zag fun k hk=>?_
    split
    ·congr 1;omega
    ·rfl
  ·have hc2:((i:Int)<(m:Int))=False:=by simp;omega
   have hz:dgt b i=0:=zbi hb (by omega)
   by_cases hgt:dgt a i<c
   ·have hg:((dgt a i:Int)<(c:Int))=True:=by simp;omega
    simp(disch:=omega)only[go_sem,seval,wqq,h0,h1,h5,h10,h11,hc0,hc2,zax,hin,hget,hg,i0,zaq]
    refine fin (dgt a i+4294967296-c) 1 _ (e+1) (by omega) (by omega) (by simp only[go_sem,seval,h0]) (by simp only[go_sem,seval,h1]) (by simp only[go_sem,seval,h10]) (by simp only[go_sem,seval]) (by simp only[go_sem,seval];try rfl) _ ?_
    congr 3
    refine zag fun k hk=>?_
    split
    ·congr 1;omega
    ·rfl
   ·have hg:((dgt a i:Int)<(c:Int))=False:=by simp;omega
    simp(disch:=omega)only[go_sem,seval,wqq,h0,h1,h5,h10,h11,hc0,hc2,zax,hin,hget,hg,i0,zaq]
    refine fin (dgt a i-c) 0 _ (e+1) (by omega) (by omega) (by simp only[go_sem,seval,h0]) (by simp only[go_sem,seval,h1]) (by simp only[go_sem,seval,h10]) (by simp only[go_sem,seval]) (by simp only[go_sem,seval];try rfl) _ ?_
    congr 3
    refine zag fun k hk=>?_
    split
    ·congr 1;omega
    ·rfl
 ·have hc0:((i:Int)<(n:Int))=False:=by simp;omega
  obtain rfl:i=n:=by omega
  simp only[go_sem,seval,h10,h11,hc0]
  have ht:(tab i fun k=>(PV.i .u32 ((if k<i then dgt s k else dgt a k:Nat):Int)))=tab i fun k=>(PV.i .u32 ((dgt s k:Nat):Int)):=zag fun k hk=>by rw[if_pos hk]
  rw[ht]
  exact cont _ e c (by simp only[go_sem,seval,h5])
theorem zaU {n m a b s:Nat} (hs:a=s+b) (hb:b<4294967296^m) (hn:n<1073741824) (hm:m<1073741824) (ha:a<4294967296^n):pf E0 42 [Dw n a,Dw m b]=some (Dw n s):=by
 by_cases h0:n=0
 ·subst h0
  have ha0:a=0:=by simpa using ha
  obtain rfl:s=0:=by omega
  obtain rfl:b=0:=by omega
  have hsub:∃v M',pcl E0 62 [.nl,Dw m 0] []=some (v,M')∧M'=[]:=by
   refine zcr (xf:=ztb) rfl rfl (by simp[ztb]) ?_
   simp only[ztb]
   simp only[go_sem,seval]
   refine zdk ?_
   simp only[ztk]
   simp(disch:=omega)only[go_sem,seval,wqq,Int.lt_irrefl]
  obtain⟨v,M',h1,rfl⟩:=hsub
  refine zab (xf:=zta) rfl (by simp[zta]) ?_
  simp only[zta]
  have hc:cpyP [] 1 .nl (Dw 0 a)=some (.i .i64 0,[]):=by
   simp[cpyP,Dw,srcP,ez,tab]
  simp only[go_sem,seval,Int.natCast_zero,zdQ,Int.reduceLE,Int.reduceToNat,zfh,hc,h1]
  rfl
 ·have hsub:∃v M',pcl E0 62 [.sl 0 0 n n 1,Dw m b] [some ⟨tab n fun k=>(PV.i .u32 ((dgt a k:Nat):Int)),true,1⟩]=some (v,M')∧∃e,M'=[some ⟨tab n fun k=>(PV.i .u32 ((dgt s k:Nat):Int)),true,e⟩]:=by
   refine zcr (xf:=ztb) rfl rfl (by simp[ztb]) ?_
   simp only[ztb]
   simp only[go_sem,seval]
   refine zjz hs hb (by omega) (by omega) (by simp only[go_sem,seval]) (by simp only[go_sem,seval]) (by simp only[go_sem,seval]) (by simp only[go_sem,seval]) (by simp only[go_sem,seval]) rfl fun fr' e c g5=>?_
   simp only[go_sem,seval,g5]
   exact⟨e,rfl⟩
  obtain⟨v,M',h1,e,rfl⟩:=hsub
  refine zab (xf:=zta) rfl (by simp[zta]) ?_
  simp only[zta]
  have hc:=zmt (n:=n) (a:=a) (e:=0) (l:=List.replicate n (.i .u32 0)) (by simp)
  simp(disch:=omega)only[go_sem,seval,wqq,zcA,hc,h1,h0]
end Go.Eng
namespace Go.Eng
theorem zhy {a b:Nat}:a+b<4294967296^(max (wlen a) (wlen b)+1):=by
 have h1:=Nat.lt_of_lt_of_le (zac a) (Nat.pow_le_pow_right (by decide:0<4294967296) (Nat.le_max_left (wlen a) (wlen b)))
 have h2:=Nat.lt_of_lt_of_le (zac b) (Nat.pow_le_pow_right (by decide:0<4294967296) (Nat.le_max_right (wlen a) (wlen b)))
 rw[Nat.pow_succ];omega
theorem zjf (x y:WI):pf E0 23 [wiP x,wiP y]=some (.tu [wiP (clip (x.v+y.v)),.i .i64 (lerr (x.v+y.v))]):=by
 refine zab (xf:=zue) rfl (by simp[zue]) ?_
 simp only[zue]
 have lx:=x.lim
 have ly:=y.lim
 have hsum:=znG (zac x.v.natAbs) (zac y.v.natAbs) (by omega) (by omega)
 have hcmp:=zaT x.v.natAbs y.v.natAbs (by omega) (by omega)
 have lm:max (wlen x.v.natAbs) (wlen y.v.natAbs)+1<1099511627776:=by omega
 by_cases hx:x.v<0
 ·by_cases hy:y.v<0
  ·have hsg:=zau true _ _ (zhy (a:=x.v.natAbs) (b:=y.v.natAbs)) lm
   have e1:(if true=true then-((x.v.natAbs+y.v.natAbs:Nat):Int) else ((x.v.natAbs+y.v.natAbs:Nat):Int))=x.v+y.v:=by rw[if_pos rfl];omega
   have e2:lerr ((x.v.natAbs+y.v.natAbs:Nat):Int)=lerr (x.v+y.v):=by rw[←e1,if_pos rfl,zd7]
   rw[e1,e2] at hsg
   simp only[go_sem,seval,hx,hy]
   refine zbM rfl ?_
   simp only[go_sem,seval,hsum,hsg]
  ·by_cases hab:x.v.natAbs<y.v.natAbs
   ·have hc:(cmpI (x.v.natAbs:Int) (y.v.natAbs:Int)<0)=True:=by unfold cmpI;simp;omega
    have hd:=zaU (a:=y.v.natAbs) (b:=x.v.natAbs) (s:=y.v.natAbs-x.v.natAbs) (by omega) (zac _) (by omega) (by omega) (zac y.v.natAbs)
    have hsg:=zau false (wlen y.v.natAbs) (y.v.natAbs-x.v.natAbs) (Nat.lt_of_le_of_lt (Nat.sub_le _ _) (zac _)) (by omega)
    have e1:((y.v.natAbs-x.v.natAbs:Nat):Int)=x.v+y.v:=by omega
    rw[if_neg (by simp),e1] at hsg
    simp only[go_sem,seval,hx,hy,hcmp,hc]
    refine zbM rfl ?_
    simp only[go_sem,seval,hd,hsg]
   ·have hc:(cmpI (x.v.natAbs:Int) (y.v.natAbs:Int)<0)=False:=by unfold cmpI;simp;omega
    have hd:=zaU (a:=x.v.natAbs) (b:=y.v.natAbs) (s:=x.v.natAbs-y.v.natAbs) (by omega) (zac _) (by omega) (by omega) (zac x.v.natAbs)
    have hsg:=zau true (wlen x.v.natAbs) (x.v.natAbs-y.v.natAbs) (Nat.lt_of_le_of_lt (Nat.sub_le _ _) (zac _)) (by omega)
    have e1 : -((x.v.natAbs-y.v.natAbs:Nat):Int)=x.v+y.v:=by omega
    rw[if_pos rfl,e1,←zd7,e1] at hsg
    simp only[go_sem,seval,hx,hy,hcmp,hc]
    refine zbM rfl ?_
    simp only[go_sem,seval,hd,hsg]
 ·by_cases hy:y.v<0
  ·by_cases hab:x.v.natAbs<y.v.natAbs
   ·have hc:(cmpI (x.v.natAbs:Int) (y.v.natAbs:Int)<0)=True:=by unfold cmpI;simp;omega
    have hd:=zaU (a:=y.v.natAbs) (b:=x.v.natAbs) (s:=y.v.natAbs-x.v.natAbs) (by omega) (zac _) (by omega) (by omega) (zac y.v.natAbs)
    have hsg:=zau true (wlen y.v.natAbs) (y.v.natAbs-x.v.natAbs) (Nat.lt_of_le_of_lt (Nat.sub_le _ _) (zac _)) (by omega)
    have e1 : -((y.v.natAbs-x.v.natAbs:Nat):Int)=x.v+y.v:=by omega
    rw[if_pos rfl,e1,←zd7,e1] at hsg
    simp only[go_sem,seval,hx,hy,hcmp,hc]
    refine zbM rfl ?_
    simp only[go_sem,seval,hd,hsg]
   ·have hc:(cmpI (x.v.natAbs:Int) (y.v.natAbs:Int)<0)=False:=by unfold cmpI;simp;omega
    have hd:=zaU (a:=x.v.natAbs) (b:=y.v.natAbs) (s:=x.v.natAbs-y.v.natAbs) (by omega) (zac _) (by omega) (by omega) (zac x.v.natAbs)
    have hsg:=zau false (wlen x.v.natAbs) (x.v.natAbs-y.v.natAbs) (Nat.lt_of_le_of_lt (Nat.sub_le _ _) (zac _)) (by omega)
    have e1:((x.v.natAbs-y.v.natAbs:Nat):Int)=x.v+y.v:=by omega
    rw[if_neg (by simp),e1] at hsg
    simp only[go_sem,seval,hx,hy,hcmp,hc]
    refine zbM rfl ?_
    simp only[go_sem,seval,hd,hsg]
  ·have hsg:=zau false _ _ (zhy (a:=x.v.natAbs) (b:=y.v.natAbs)) lm
   have e1:((x.v.natAbs+y.v.natAbs:Nat):Int)=x.v+y.v:=by omega
   rw[if_neg (by simp),e1] at hsg
   simp only[go_sem,seval,hx,hy]
   refine zbM rfl ?_
   simp only[go_sem,seval,hsum,hsg]
attribute [go_sem] zjf
theorem znz (x y:WI):pf E0 39 [wiP x,wiP y]=some (.tu [wiP (clip (x.v-y.v)),.i .i64 (lerr (x.v-y.v))]):=by
 refine zab (xf:=zt5) rfl (by simp[zt5]) ?_
 simp only[zt5]
 simp only[go_sem,seval]
 refine zbM rfl ?_
 simp only[go_sem,seval]
 rfl
attribute [go_sem] znz
theorem znV (P w b i j:Nat):P+w*4294967296^i*b=(P%4294967296^(i+j)+w*4294967296^i*(b%4294967296^j))+4294967296^(i+j)*(dgt P (i+j)+w*dgt b j)+4294967296^(i+j)*4294967296*(P/(4294967296^(i+j)*4294967296)+w*(b/(4294967296^j*4294967296))):=by
 have sp:=zbD P (i+j)
 have sb:=zbD b j
 rw[Nat.pow_add] at sp ⊢
 generalize 4294967296^i=p at *
 generalize 4294967296^j=q at *
 generalize P%(p*q)=r1 at *
 generalize P/(p*q*4294967296)=r2 at *
 generalize b%q=r3 at *
 generalize b/(q*4294967296)=r4 at *
 generalize dgt P (i+j)=r5 at *
 generalize dgt b j=r6 at *
 subst sp sb
 grind
theorem zjv {F:PFin} {ks:List KI} {n m P b w i e0:Nat} (hb:b<4294967296^m) (hw:w<4294967296) (hi:i<n) (hn:n<1073741824) (hm:m<1073741824) {fr:PFr} {M:PM} (h1:fr 25=Dw m b) (h5:fr 5=.sl 0 0 (n+m) (n+m) 1)
  (h6:fr 6=.i .i64 (i:Int)) (h7:fr 7=(PV.i .u32 ((w:Nat):Int))) (h8:fr 8=.i .u64 0) (h26:fr 26=.i .i64 (m:Int)) (h27:fr 27=.i .i64 0) (hM:M=[some ⟨tab (n+m) fun k=>(PV.i .u32 ((dgt P k:Nat):Int)),true,e0⟩]) (a:PV) (h0:fr 1=a) (N:PV) (h19:fr 19=N) (L:PV) (h18:fr 18=L) (I:PV) (h20:fr 20=I)
  (cont:∀fr' e c,fr' 1=a→fr' 5=.sl 0 0 (n+m) (n+m) 1→fr' 6=.i .i64 (i:Int)→fr' 18=L→fr' 19=N→fr' 20=I→fr' 8=.i .u64 ((c:Nat):Int)→c<4294967296→P%4294967296^(i+m)+w*4294967296^i*b=(P+w*4294967296^i*b)%4294967296^(i+m)+4294967296^(i+m)*c →
   UK E0 F (.exit 2) ks fr' [some ⟨tab (n+m) (fun k=>(PV.i .u32 ((if k<i+m then dgt (P+w*4294967296^i*b) k else dgt P k:Nat):Int))),true,e⟩]):WK E0 F (.loop zua) ks fr M:=by
 refine zai zua.eq_1 (fun(j:Nat) fr M=>j≤m∧fr 25=Dw m b∧fr 5=.sl 0 0 (n+m) (n+m) 1∧fr 6=.i .i64 (i:Int)∧fr 7=(PV.i .u32 ((w:Nat):Int))∧fr 26=.i .i64 (m:Int)∧fr 27=.i .i64 (j:Int)∧fr 1=a∧fr 18=L∧fr 19=N∧fr 20=I ∧
  ∃c e:Nat,fr 8=.i .u64 (c:Int)∧M=[some ⟨tab (n+m) fun k=>(PV.i .u32 ((if k<i+j then dgt (P+w*4294967296^i*b) k else dgt P k:Nat):Int)),true,e⟩]∧c<4294967296∧P%4294967296^(i+j)+w*4294967296^i*(b%4294967296^j)=(P+w*4294967296^i*b)%4294967296^(i+j)+4294967296^(i+j)*c)
  (fun j=>m-j) ?_ 0 ⟨Nat.zero_le _,h1,h5,h6,h7,h26,h27,h0,h18,h19,h20,0,e0,h8,?_,by decide,?_⟩
 ·rintro j fr M ⟨hj,h25,h5,h6,h7,h26,h27,h0,h18,h19,h20,c,e,h8,rfl,hc,hinv⟩ ih
  by_cases hjm:j<m
  ·have hc0:((j:Int)<(m:Int))=True:=by simp;omega
   have db:=zam b j
   have dp:=zam P (i+j)
   have hget:(tab (n+m) fun k=>(PV.i .u32 ((if k<i+j then dgt (P+w*4294967296^i*b) k else dgt P k:Nat):Int)))[i+j]?=some (PV.i .u32 ((dgt P (i+j):Nat):Int)):=by rw[zaO (by omega),if_neg (by omega)]
   have hij:((i:Int)+(j:Int))=((i+j:Nat):Int):=by omega
   have j1:((j:Int)+1)=((j+1:Nat):Int):=by omega
   have hmul:w*dgt b j≤4294967295*4294967295:=Nat.mul_le_mul (by omega) (by omega)
   have hww:((w:Int)*(dgt b j:Int))=((w*dgt b j:Nat):Int):=by simp
   have hadd:(((w*dgt b j:Nat):Int)+(dgt P (i+j):Int)+(c:Int))=((w*dgt b j+dgt P (i+j)+c:Nat):Int):=by omega
   have hlt:i+j<n+m:=by omega
   simp(disch:=omega)only[go_sem,seval,wqq,h25,h5,h6,h7,h8,h26,h27,hc0,zax,hij,hget,hww,hadd,hlt,j1,zaX,zaq,Int.reduceToNat,Nat.reducePow]
   obtain⟨k1,k2⟩:=ze0 (c:=c) (zbl (i+j)) hinv (znV P w b i j)
   have hx:c+(dgt P (i+j)+w*dgt b j)=w*dgt b j+dgt P (i+j)+c:=by omega
   rw[hx] at k1 k2
   refine ih (j+1) _ _ (by omega) ⟨by omega,by simp only[go_sem,seval,h25],by simp only[go_sem,seval,h5],by simp only[go_sem,seval,h6],by simp only[go_sem,seval,h7],by simp only[go_sem,seval,h26],by simp only[go_sem,seval],by simp only[go_sem,seval,h0],by simp only[go_sem,seval,h18],by simp only[go_sem,seval,h19],by simp only[go_sem,seval,h20],(w*dgt b j+dgt P (i+j)+c)/4294967296,e+1,by simp only[go_sem,seval],?_,by omega,?_⟩
   ·congr 3
    refine zag fun k hk=>?_
    by_cases hki:k=i+j
    ·subst hki
     rw[if_pos rfl,if_pos (by omega)]
     congr 2;rw[zad (P+w*4294967296^i*b)];exact k1.symm
    ·rw[if_neg hki]
     congr 2
     by_cases h:k<i+j
     ·rw[if_pos h,if_pos (by omega)]
     ·rw[if_neg h,if_neg (by omega)]
   ·rw[show i+(j+1)=i+j+1 by omega,Nat.pow_succ,←k2,←Nat.pow_succ,zap P,zap b]
    rw[Nat.pow_add]
    grind
  ·have hc0:((j:Int)<(m:Int))=False:=by simp;omega
   obtain rfl:j=m:=by omega
   simp only[go_sem,seval,h26,h27,hc0]
   rw[Nat.mod_eq_of_lt hb] at hinv
   exact cont _ e c (by simp only[go_sem,seval,h0]) (by simp only[go_sem,seval,h5]) (by simp only[go_sem,seval,h6]) (by simp only[go_sem,seval,h18]) (by simp only[go_sem,seval,h19]) (by simp only[go_sem,seval,h20]) (by simp only[go_sem,seval,h8]) hc hinv
 ·rw[hM]
  congr 3
  refine zag fun k hk=>?_
  congr 2
  by_cases h:k<i+0
  ·rw[if_pos h,zad,zad]
   have e1:(4294967296:Nat)^i=4294967296^k*(4294967296^(i-k-1)*4294967296):=by
    rw[←Nat.pow_succ,←Nat.pow_add];congr 1;omega
   rw[e1,show w*(4294967296^k*(4294967296^(i-k-1)*4294967296))*b=4294967296^k*(4294967296*(w*4294967296^(i-k-1)*b)) by grind,Nat.add_mul_div_left _ _ (zbl k),Nat.add_mul_mod_self_left]
  ·rw[if_neg h]
 ·have e1:P+w*4294967296^i*b=P+4294967296^i*(w*b):=by grind
  rw[Nat.add_zero,Nat.pow_zero,Nat.mod_one,e1,Nat.add_mul_mod_self_left];simp
theorem zlu {n m a b:Nat} (ha:a<4294967296^n) (hb:b<4294967296^m) (hn:n<536870912) (hm:m<536870912) (h0:n+m≠0):pf E0 59 [Dw n a,Dw m b]=some (Dw (n+m) (a*b)):=by
 refine zab (xf:=zti) rfl (by simp[zti]) ?_
 simp only[zti]
 have hnm:((n:Int)+(m:Int))=((n+m:Nat):Int):=by omega
 simp(disch:=omega)only[go_sem,seval,wqq,hnm,zcA]
 refine zai zub.eq_1 (fun(i:Nat) fr M=>i≤n∧fr 1=Dw m b∧fr 5=.sl 0 0 (n+m) (n+m) 1∧fr 18=Dw n a∧fr 19=.i .i64 (n:Int)∧fr 20=.i .i64 (i:Int) ∧
  ∃e:Nat,M=[some ⟨tab (n+m) fun k=>(PV.i .u32 ((dgt (a%4294967296^i*b) k:Nat):Int)),true,e⟩]) (fun i=>n-i) ?_ 0 ⟨Nat.zero_le _,by simp only[go_sem,seval],by simp only[go_sem,seval],by simp only[go_sem,seval],by simp only[go_sem,seval],by simp only[go_sem,seval];try rfl,0,?_⟩
 ·rintro i fr M ⟨hi,h1,h5,h18,h19,h20,e,rfl⟩ ih
  by_cases hin:i<n
  ·have hc0:((i:Int)<(n:Int))=True:=by simp;omega
   have i1:((i:Int)+1)=((i+1:Nat):Int):=by omega
   simp(disch:=omega)only[go_sem,seval,wqq,h1,h5,h18,h19,h20,hc0,zax]
   refine zjv (n:=n) (P:=a%4294967296^i*b) (w:=dgt a i) hb (zam a i) hin (by omega) (by omega) (by simp only[go_sem,seval,h1]) (by simp only[go_sem,seval,h5]) (by simp only[go_sem,seval]) (by simp only[go_sem,seval]) (by simp only[go_sem,seval]) (by simp only[go_sem,seval]) (by simp only[go_sem,seval]) rfl (Dw m b) (by simp only[go_sem,seval,h1]) (.i .i64 (n:Int)) (by simp only[go_sem,seval,h19]) (Dw n a) (by simp only[go_sem,seval,h18]) (.i .i64 (i:Int)) (by simp only[go_sem,seval,h20]) fun fr' e' c g1 g5 g6 g18 g19 g20 g8 hc hinv=>?_
   have him:((i:Int)+(m:Int))=((i+m:Nat):Int):=by omega
   have hlt:i+m<n+m:=by omega
   simp(disch:=omega)only[go_sem,seval,wqq,g1,g5,g6,g18,g19,g20,g8,him,hlt,i1,zaq]
   have hP:a%4294967296^(i+1)*b=a%4294967296^i*b+dgt a i*4294967296^i*b:=by rw[zap];grind
   have hPl:a%4294967296^i*b<4294967296^(i+m):=by
    rw[Nat.pow_add]
    exact Nat.mul_lt_mul'' (Nat.mod_lt _ (zbl i)) hb
   refine ih (i+1) _ _ (by omega) ⟨by omega,by simp only[go_sem,seval,g1],by simp only[go_sem,seval,g5],by simp only[go_sem,seval,g18],by simp only[go_sem,seval,g19],by simp only[go_sem,seval],e'+1,?_⟩
   congr 3
   refine zag fun k hk=>?_
   rw[hP]
   rw[Nat.mod_eq_of_lt hPl] at hinv
   have hval:a%4294967296^i*b+dgt a i*4294967296^i*b=(a%4294967296^i*b+dgt a i*4294967296^i*b)%4294967296^(i+m)+4294967296^(i+m)*c:=hinv
   have hd:(a%4294967296^i*b+dgt a i*4294967296^i*b)/4294967296^(i+m)=c:=by
    have h1:=Nat.div_add_mod (a%4294967296^i*b+dgt a i*4294967296^i*b) (4294967296^(i+m))
    exact Nat.eq_of_mul_eq_mul_left (zbl (i+m)) (by omega)
   by_cases hki:k=i+m
   ·subst hki
    rw[if_pos rfl,zad,hd]
    congr 2;omega
   ·rw[if_neg hki]
    congr 2
    by_cases h:k<i+m
    ·rw[if_pos h]
    ·rw[if_neg h,zbi hPl (by omega)]
     have:a%4294967296^i*b+dgt a i*4294967296^i*b<4294967296^(i+m+1):=by
      rw[Nat.pow_succ]
      have h2:=Nat.mod_lt (a%4294967296^i*b+dgt a i*4294967296^i*b) (zbl (i+m))
      have h3:4294967296^(i+m)*(c+1)≤4294967296^(i+m)*4294967296:=Nat.mul_le_mul_left _ (by omega)
      rw[Nat.mul_add] at h3
      omega
     rw[zbi this (by omega)]
  ·have hc0:((i:Int)<(n:Int))=False:=by simp;omega
   obtain rfl:i=n:=by omega
   simp only[go_sem,seval,h5,h19,h20,hc0]
   rw[Nat.mod_eq_of_lt ha]
   simp only[h0,if_false];rfl
 ·rw[zcu]
  congr 3
  refine zag fun k hk=>?_
  simp[Nat.mod_one,zcH]
end Go.Eng
namespace Go.Eng
theorem zhK {x y:Nat} (hx:x<18446744073709551616) (hy:y<18446744073709551616):binP .or (.i .u64 (x:Int)) (.i .u64 (y:Int))=some (.i .u64 ((x ||| y:Nat):Int)):=by
 have h:(BitVec.ofInt 64 (x:Int) ||| BitVec.ofInt 64 (y:Int)).toNat=x ||| y:=by
  rw[BitVec.toNat_or,BitVec.ofInt_natCast,BitVec.ofInt_natCast,BitVec.toNat_ofNat,BitVec.toNat_ofNat,Nat.mod_eq_of_lt (by omega),Nat.mod_eq_of_lt (by omega)]
 have hlt:x ||| y<2^64:=Nat.or_lt_two_pow (by omega) (by omega)
 have h2:binP .or (.i .u64 (x:Int)) (.i .u64 (y:Int))=some (.i .u64 (IntKind.wrap .u64 (((BitVec.ofInt 64 (x:Int) ||| BitVec.ofInt 64 (y:Int)).toNat:Nat):Int))):=rfl
 rw[h2,h,wqb (by omega) (by omega)]
theorem zdC {h y:Nat} (hh:h<4294967296) (hy:y<4294967296):binP .or (.i .u64 ((h*4294967296:Nat):Int)) (.i .u64 (y:Int))=some (.i .u64 ((h*4294967296+y:Nat):Int)):=by
 rw[zhK (by omega) (by omega)]
 have:=Nat.two_pow_add_eq_or_of_lt (i:=32) (b:=y) (by omega) h
 rw[show (2:Nat)^32=4294967296 by decide] at this
 rw[Nat.mul_comm h,←this]
theorem zlb {h y:Nat} (hh:h<4294967296) (hy:y<4294967296):binP .or (.i .u64 (y:Int)) (.i .u64 ((h*4294967296:Nat):Int))=some (.i .u64 ((h*4294967296+y:Nat):Int)):=by
 rw[zhK (by omega) (by omega)]
 have:=Nat.two_pow_add_eq_or_of_lt (i:=32) (b:=y) (by omega) h
 rw[show (2:Nat)^32=4294967296 by decide] at this
 rw[Nat.or_comm,Nat.mul_comm h,←this]
theorem zlc {y:Nat} (hy:y<18446744073709551616):binP .or (.i .u64 0) (.i .u64 (y:Int))=some (.i .u64 (y:Int)):=by
 have:=zhK (x:=0) (y:=y) (by omega) hy
 rwa [Nat.zero_or] at this
theorem zjp {n m a b:Nat} (ha:a<4294967296^n) (hb:b<4294967296^m) (hn:n<536870912) (hm:m<536870912):pf E0 59 [Dw n a,Dw m b]=some (Dw (n+m) (a*b)):=by
 by_cases h0:n+m=0
 ·obtain rfl:n=0:=by omega
  obtain rfl:m=0:=by omega
  refine zab (xf:=zti) rfl (by simp[zti]) ?_
  simp only[zti]
  simp(disch:=omega)only[go_sem,seval,wqq,Int.natCast_zero,Int.add_zero,zdQ,Int.reduceLE,Int.reduceToNat,zfh]
  refine zdk ?_
  simp only[zub]
  simp(disch:=omega)only[go_sem,seval,wqq,Int.lt_irrefl]
  rfl
 ·exact zlu ha hb hn hm h0
theorem zm6 {a b:Nat}:a*b<4294967296^(wlen a+wlen b):=by
 rw[Nat.pow_add]
 exact Nat.mul_lt_mul'' (zac a) (zac b)
theorem zgL (x y:WI):pf E0 38 [wiP x,wiP y]=some (.tu [wiP (clip (x.v*y.v)),.i .i64 (lerr (x.v*y.v))]):=by
 refine zab (xf:=zui) rfl (by simp[zui]) ?_
 simp only[zui]
 have lx:=x.lim
 have ly:=y.lim
 have ht:=zjp (zac x.v.natAbs) (zac y.v.natAbs) (by omega) (by omega)
 have hs:=zau (decide (x.v<0) != decide (y.v<0)) _ _ (zm6 (a:=x.v.natAbs) (b:=y.v.natAbs)) (by omega)
 have e1:(if (decide (x.v<0) != decide (y.v<0))=true then-((x.v.natAbs*y.v.natAbs:Nat):Int) else ((x.v.natAbs*y.v.natAbs:Nat):Int))=x.v*y.v:=by
  rw[←Int.natAbs_mul]
  by_cases hx:x.v<0<;>by_cases hy:y.v<0
  ·have:=Int.mul_pos_of_neg_of_neg hx hy
   simp[hx,hy];omega
  ·have:=Int.mul_nonpos_of_nonpos_of_nonneg (show x.v≤0 by omega) (show 0≤y.v by omega)
   simp[hx,hy];omega
  ·have:=Int.mul_nonpos_of_nonneg_of_nonpos (show 0≤x.v by omega) (show y.v≤0 by omega)
   simp[hx,hy];omega
  ·have:=Int.mul_nonneg (show 0≤x.v by omega) (show 0≤y.v by omega)
   simp[hx,hy];omega
 have e2:lerr ((x.v.natAbs*y.v.natAbs:Nat):Int)=lerr (x.v*y.v):=by
  unfold lerr
  rw[Int.natAbs_mul,Int.natAbs_natCast]
 rw[e1,e2] at hs
 simp only[go_sem,seval]
 refine zbM rfl ?_
 have hb:(!(decide (x.v<0)==decide (y.v<0)))=(decide (x.v<0) != decide (y.v<0)):=rfl
 simp only[go_sem,seval,ht,hb,hs]
attribute [go_sem] zgL
theorem ziM (a w i:Nat) (hw0:0<w) (hi:i≠0):(a/4294967296^i%w*4294967296+dgt a (i-1))%w=a/4294967296^(i-1)%w∧(a/4294967296^i%w*4294967296+dgt a (i-1))/w=dgt (a/w) (i-1):=by
 have hd:=zam a (i-1)
 have e1:a/4294967296^(i-1)=a/4294967296^i*4294967296+dgt a (i-1):=by
  rw[zad,show (4294967296:Nat)^i=4294967296^(i-1)*4294967296 by rw[←Nat.pow_succ];congr 1;omega,←Nat.div_div_eq_div_mul]
  have:=Nat.div_add_mod (a/4294967296^(i-1)) 4294967296
  omega
 have e2:=Nat.div_add_mod (a/4294967296^i) w
 have hr:a/4294967296^i%w<w:=Nat.mod_lt _ hw0
 generalize a/4294967296^i%w=r at *
 have e3:a/4294967296^(i-1)=(r*4294967296+dgt a (i-1))+w*(4294967296*(a/4294967296^i/w)):=by rw[e1];grind
 constructor
 ·rw[e3,Nat.add_mul_mod_self_left]
 ·rw[zad (a/w),Nat.div_div_eq_div_mul,Nat.mul_comm w,←Nat.div_div_eq_div_mul,e3,Nat.add_mul_div_left _ _ hw0,Nat.add_mul_mod_self_left]
  rw[Nat.mod_eq_of_lt]
  refine Nat.div_lt_of_lt_mul ?_
  have:(r+1)*4294967296≤w*4294967296:=Nat.mul_le_mul_right _ hr
  omega
theorem zgd {E:PEnv} (hE:E.prog 48=some (.fn ztx)) {n a w:Nat} (ha:a<4294967296^n) (hw:w<4294967296) (hw0:w≠0) (hn:n<1073741824) (hO:E.ovr 48 [Dw n a,(PV.i .u32 ((w:Nat):Int))]=none:=by rfl):pf E 48 [Dw n a,(PV.i .u32 ((w:Nat):Int))]=some (.tu [Dw n (a/w),(PV.i .u32 ((a%w:Nat):Int))]):=by
 refine zab (xf:=ztx) hE (by simp[ztx]) ?_ hO
 simp only[ztx]
 have hmw:a%w<w:=Nat.mod_lt _ (by omega)
 by_cases hn0:n=0
 ·subst hn0
  have ha0:a=0:=by simpa using ha
  subst ha0
  simp(disch:=omega)only[go_sem,seval,wqq,Int.natCast_zero,Int.add_zero,zdQ,Int.reduceLE,Int.reduceToNat,zfh,Int.zero_sub,Int.reduceNeg]
  refine zdk ?_
  simp only[zuj]
  simp(disch:=omega)only[go_sem,seval,wqq,Int.lt_irrefl,Int.reduceNeg,Int.reduceLE]
  rw[Nat.zero_div,Nat.zero_mod];rfl
 ·simp(disch:=omega)only[go_sem,seval,wqq,zcA]
  refine zai zuj.eq_1 (fun(i:Nat) fr M=>i≤n∧fr 0=Dw n a∧fr 1=(PV.i .u32 ((w:Nat):Int))∧fr 6=.sl 0 0 n n 1∧fr 8=.i .i64 ((i:Int)-1)∧fr 7=.i .u64 ((a/4294967296^i%w:Nat):Int) ∧
   ∃e:Nat,M=[some ⟨tab n fun k=>(PV.i .u32 ((if i≤k then dgt (a/w) k else 0:Nat):Int)),true,e⟩]) (fun i=>i) ?_ n ⟨Nat.le_refl _,by simp only[go_sem,seval],by simp only[go_sem,seval],by simp only[go_sem,seval],by simp only[go_sem,seval],?_,0,?_⟩
  ·rintro i fr M ⟨hi,h0,h1,h6,h8,h7,e,rfl⟩ ih
   by_cases hi0:i=0
   ·subst hi0
    simp only[Nat.pow_zero,Nat.div_one,Nat.zero_le,if_true] at h7 ⊢
    simp(disch:=omega)only[go_sem,seval,wqq,h6,h7,h8,Int.natCast_zero,Int.zero_sub,Int.reduceNeg,Int.reduceLE]
    rw[if_neg hn0];rfl
   ·have hc0:((0:Int)≤(i:Int)-1)=True:=by simp;omega
    have i1:((i:Int)-1)=((i-1:Nat):Int):=by omega
    have hr:a/4294967296^i%w<w:=Nat.mod_lt _ (by omega)
    have hd:=zam a (i-1)
    have hd2:=zam (a/w) (i-1)
    have hin:i-1<n:=by omega
    obtain⟨k1,k2⟩:=ziM a w i (by omega) hi0
    have hr2:a/4294967296^(i-1)%w<w:=Nat.mod_lt _ (by omega)
    simp(disch:=omega)only[go_sem,seval,wqq,h0,h1,h6,h7,h8,hc0,i1,zax,Int.reduceToNat,Nat.reducePow,zdC,zcM,zf2,zaq,hin,k1,k2]
    have i2:(((i-1:Nat):Int)-1)=((i:Int)-1)-1:=by omega
    refine ih (i-1) _ _ (by omega) ⟨by omega,by simp only[go_sem,seval,h0],by simp only[go_sem,seval,h1],by simp only[go_sem,seval,h6],by simp only[go_sem,seval],by simp only[go_sem,seval],e+1,?_⟩
    congr 3
    refine zag fun k hk=>?_
    by_cases hki:k=i-1
    ·subst hki
     rw[if_pos rfl,if_pos (Nat.le_refl _)]
    ·rw[if_neg hki]
     congr 2
     by_cases h:i≤k
     ·rw[if_pos h,if_pos (by omega)]
     ·rw[if_neg h,if_neg (by omega)]
  ·rw[Nat.div_eq_of_lt ha,Nat.zero_mod];simp only[go_sem,seval];try rfl
  ·rw[zcu]
   congr 3
   refine zag fun k hk=>?_
   rw[if_neg (by omega)];rfl
theorem zlt {n a w:Nat} (ha:a<4294967296^n) (hw:w<4294967296) (hw0:w≠0) (hn:n<1073741824):pf E0 48 [Dw n a,(PV.i .u32 ((w:Nat):Int))]=some (.tu [Dw n (a/w),(PV.i .u32 ((a%w:Nat):Int))]):=zgd rfl ha hw hw0 hn
theorem zcv {v n:Nat} (h:v<4294967296^n):wlen v≤n:=zaz.2 h
theorem zl3 {n:Int} (h:Fits64 n):wlen n.natAbs≤512:=by
 obtain⟨h1,h2⟩:=h
 have:wlen n.natAbs≤2:=zcv (by omega)
 omega
def wiOf (n:Int) (h:Fits64 n):WI:=⟨n,zl3 h⟩
theorem zbS {n:Int} (h:Fits64 n):pf E0 34 [.i .i64 n]=some (wiP (wiOf n h)):=by
 refine zab (xf:=ztW) rfl (by simp[ztW]) ?_
 simp only[ztW]
 obtain⟨h1,h2⟩:=h
 have hlt:n.natAbs<4294967296^2:=by omega
 have hs:=zau (decide (n<0)) 2 n.natAbs hlt (by omega)
 have hw:wlen n.natAbs≤512:=by have:=zcv hlt;omega
 rw[zc9 (by simpa using hw)] at hs
 have e1:(if decide (n<0)=true then-((n.natAbs:Nat):Int) else ((n.natAbs:Nat):Int))=n:=by
  by_cases hn:n<0<;>simp[hn]<;>omega
 rw[e1,zbt hw] at hs
 have hD:Dw 2 n.natAbs=.lst [(PV.i .u32 ((n.natAbs%4294967296:Nat):Int)),(PV.i .u32 ((n.natAbs/4294967296:Nat):Int))]:=by
  have e:tab 2 (fun k=>(PV.i .u32 ((dgt n.natAbs k:Nat):Int)))=[(PV.i .u32 ((dgt n.natAbs 0:Nat):Int)),(PV.i .u32 ((dgt n.natAbs 1:Nat):Int))]:=rfl
  have:n.natAbs/4294967296^1%4294967296=n.natAbs/4294967296:=by rw[Nat.pow_one];exact Nat.mod_eq_of_lt (by omega)
  rw[Dw,e,zad,zad,this,Nat.pow_zero,Nat.div_one]
 rw[hD] at hs
 by_cases hn:n<0
 ·have u1:IntKind.wrap .u64 (0-IntKind.wrap .u64 n)=(n.natAbs:Int):=by rw[zbA,zbA];omega
  have hd:decide (n<0)=true:=by simp[hn]
  rw[hd] at hs
  simp(disch:=omega)only[go_sem,seval,wqq,hn,u1,zaX,Int.reduceToNat,Nat.reducePow,group,hs,List.headD_cons]
  simp only[zdj,wiOf,hd]
 ·have u1:IntKind.wrap .u64 n=(n.natAbs:Int):=by rw[zbA];omega
  have hd:decide (n<0)=false:=by simp;omega
  rw[hd] at hs
  simp(disch:=omega)only[go_sem,seval,wqq,hn,u1,zaX,Int.reduceToNat,Nat.reducePow,group,hs,List.headD_cons]
  simp only[zdj,wiOf,hd]
def isSmall (z:Int):Bool:=decide (-9223372036854775808≤z∧z≤9223372036854775807)
def small (z:Int):Int:=if isSmall z then z else 0
theorem zdd (x:WI):pf E0 80 [wiP x]=some (.tu [.i .i64 (small x.v),.b (isSmall x.v)]):=by
 refine zab (xf:=zs5) rfl (by simp[zs5]) ?_
 simp only[zs5]
 have lx:=x.lim
 simp only[go_sem,seval]
 refine zai ztr.eq_1 (fun(i:Nat) fr M=>i≤wlen x.v.natAbs∧i≤2∧fr 9=D x.v.natAbs∧fr 10=.i .i64 (wlen x.v.natAbs:Int)∧fr 11=.i .i64 (i:Int)∧fr 1=.p 0 0∧fr 4=.i .u64 ((x.v.natAbs%4294967296^i:Nat):Int) ∧
  M=[some ⟨[.b (decide (x.v<0)),D x.v.natAbs],true,0⟩]) (fun i=>3-i) ?_ 0 ⟨Nat.zero_le _,by omega,by simp only[go_sem,seval],by simp only[go_sem,seval],by simp only[go_sem,seval];try rfl,by simp only[go_sem,seval],by simp only[go_sem,seval];try simp[Nat.mod_one],rfl⟩
 rintro i fr M ⟨hi,hi2,h9,h10,h11,h1,h4,rfl⟩ ih
 by_cases hin:i<wlen x.v.natAbs
 ·have hc0:((i:Int)<(wlen x.v.natAbs:Int))=True:=by simp;omega
  by_cases hi1:1<i
  ·have hc1:((1:Int)<(i:Int))=True:=by simp;omega
   have hbig:isSmall x.v=false:=by
    have:=zem (v:=x.v.natAbs) (by intro q;rw[q] at hin;simp[wlen] at hin)
    have h2:4294967296^2≤x.v.natAbs:=Nat.le_trans (Nat.pow_le_pow_right (by decide) (by omega)) this
    unfold isSmall
    simp;omega
   simp(disch:=omega)only[go_sem,seval,wqq,h9,h10,h11,hc0,hc1,zax]
   rw[hbig];unfold small;rw[hbig];rfl
  ·have hc1:((1:Int)<(i:Int))=False:=by simp;omega
   have i1:((i:Int)+1)=((i+1:Nat):Int):=by omega
   have hd:=zam x.v.natAbs i
   have hm:=zap x.v.natAbs i
   rcases (show i=0∨i=1 by omega) with rfl|rfl
   ·have hc0:((0:Int)<(wlen x.v.natAbs:Int))=True:=by simp;omega
    simp(disch:=omega)only[go_sem,seval,wqq,h9,h10,h11,h4,hc0,zax,Int.natCast_zero,Int.reduceAdd,Int.reduceLT,Int.mul_zero,Int.reduceToNat,Nat.pow_zero,Nat.mod_one,zlc]
    exact ih 1 _ _ (by omega) ⟨by omega,by omega,by simp only[go_sem,seval,h9],by simp only[go_sem,seval,h10],by simp only[go_sem,seval];try rfl,by simp only[go_sem,seval,h1],by simp only[go_sem,seval];first|rw[ze4,Nat.pow_one]|rw[ze4],rfl⟩
   ·have hlt:x.v.natAbs%4294967296<4294967296:=Nat.mod_lt _ (by decide)
    have h4':fr 4=.i .u64 ((x.v.natAbs%4294967296:Nat):Int):=by rw[h4,Nat.pow_one]
    have hc0:((1:Int)<(wlen x.v.natAbs:Int))=True:=by simp;omega
    simp(disch:=omega)only[go_sem,seval,wqq,h9,h10,h11,h4',hc0,zax,Int.natCast_one,Int.reduceAdd,Int.reduceLT,Int.mul_one,Int.reduceToNat,Nat.reducePow,zlb]
    exact ih 2 _ _ (by omega) ⟨by omega,by omega,by simp only[go_sem,seval,h9],by simp only[go_sem,seval,h10],by simp only[go_sem,seval];try rfl,by simp only[go_sem,seval,h1],by simp only[go_sem,seval];first|rw[zap,Nat.pow_one,Nat.mul_comm,Nat.add_comm]|rw[show (18446744073709551616:Nat)=4294967296^(1+1) from rfl,zap,Nat.pow_one,Nat.mul_comm,Nat.add_comm],rfl⟩
 ·have hc0:((i:Int)<(wlen x.v.natAbs:Int))=False:=by simp;omega
  obtain rfl:i=wlen x.v.natAbs:=by omega
  have hm:x.v.natAbs%4294967296^wlen x.v.natAbs=x.v.natAbs:=Nat.mod_eq_of_lt (zac _)
  have h64:x.v.natAbs<4294967296^2:=Nat.lt_of_lt_of_le (zac _) (Nat.pow_le_pow_right (by decide) hi2)
  rw[hm] at h4
  generalize hn:x.v.natAbs=N at *
  by_cases hx:x.v<0
  ·have u1:IntKind.wrap .i64 (0-IntKind.wrap .i64 (N:Int))=if N≤9223372036854775808 then-(N:Int) else 18446744073709551616-(N:Int):=by
    simp only[IntKind.wrap,IntKind.signed,IntKind.bits,Bool.true_and,decide_eq_true_eq,ge_iff_le]
    split<;>split<;>split<;>omega
   have hN:((N:Int)=0)=False:=by simp;omega
   by_cases hs:N≤9223372036854775808
   ·rw[if_pos hs] at u1
    have hneg:(-(N:Int)<0)=True:=by simp;omega
    have hv:x.v = -(N:Int):=by omega
    have his:isSmall x.v=true:=by unfold isSmall;simp;omega
    simp(disch:=omega)only[go_sem,seval,wqq,h1,h4,h10,h11,hc0,hx,u1,hN,hneg]
    unfold small;rw[his,if_pos rfl,hv]
   ·rw[if_neg hs] at u1
    have hneg:(18446744073709551616-(N:Int)<0)=False:=by simp;omega
    have his:isSmall x.v=false:=by unfold isSmall;simp;omega
    simp(disch:=omega)only[go_sem,seval,wqq,h1,h4,h10,h11,hc0,hx,u1,hN,hneg]
    unfold small;rw[his];rfl
  ·have hv:x.v=(N:Int):=by omega
   by_cases hs:N≤9223372036854775807
   ·have u1:IntKind.wrap .i64 (N:Int)=(N:Int):=wqa (by omega) (by omega)
    have his:isSmall x.v=true:=by unfold isSmall;simp;omega
    by_cases hN0:N=0
    ·subst hN0
     simp(disch:=omega)only[go_sem,seval,wqq,h1,h4,h10,h11,hc0,hx,u1,Int.natCast_zero]
     unfold small;rw[his,if_pos rfl,hv];rfl
    ·have hN:((N:Int)=0)=False:=by simp;omega
     have hneg:((N:Int)<0)=False:=by simp
     simp(disch:=omega)only[go_sem,seval,wqq,h1,h4,h10,h11,hc0,hx,u1,hN,hneg]
     unfold small;rw[his,if_pos rfl,hv]
   ·have hN:((N:Int)=0)=False:=by simp;omega
    have u1:IntKind.wrap .i64 (N:Int)=(N:Int)-18446744073709551616:=by
     simp only[IntKind.wrap,IntKind.signed,IntKind.bits,Bool.true_and,decide_eq_true_eq,ge_iff_le]
     split<;>omega
    have hneg:((N:Int)-18446744073709551616<0)=True:=by simp;omega
    have his:isSmall x.v=false:=by unfold isSmall;simp;omega
    simp(disch:=omega)only[go_sem,seval,wqq,h1,h4,h10,h11,hc0,hx,u1,hN,hneg]
    unfold small;rw[his];rfl
attribute [go_sem] zdd
end Go.Eng
namespace Go.Eng
def len8 (j:Nat):Nat:=if j=0 then 0 else Nat.log2 j+1
set_option maxRecDepth 20000 in
theorem zeT:∀j:Fin 256,(xs_1d3e63[j.val]?).map UInt8.toNat=some (len8 j.val):=by decide+kernel
theorem zd6 {j:Nat} (h:j<256):len8 j≤8:=by
 unfold len8
 split
 ·omega
 ·have:Nat.log2 j<8:=(Nat.log2_lt (by omega)).2 (by omega)
  omega
theorem zi1 {j:Nat} (h:j<256):istrP (.s xs_1d3e63) (some j)=some (.i .u8 (len8 j:Int)):=by
 have:=zeT ⟨j,h⟩
 rw[zkV]
 simp only[Option.map_eq_some_iff] at this ⊢
 obtain⟨c,h1,h2⟩:=this
 exact⟨c,h1,by rw[h2]⟩
theorem zdB {x s:Nat} (h:2^s≤x):Nat.log2 x=Nat.log2 (x/2^s)+s:=by
 induction s generalizing x with
 | zero=>simp
 | succ s ih =>
  have h2:2≤x:=Nat.le_trans (by rw[Nat.pow_succ];have:=Nat.pow_pos (n:=s) (show 0<2 by decide);omega) h
  rw[Nat.log2_def,if_pos h2,ih (x:=x/2) (by rw[Nat.le_div_iff_mul_le (by decide),←Nat.pow_succ];exact h),Nat.div_div_eq_div_mul,show 2*2^s=2^(s+1) by rw[Nat.pow_succ,Nat.mul_comm]]
  omega
theorem zkY {x:Nat} (h:65536≤x):Nat.log2 x=Nat.log2 (x/65536)+16:=zdB (s:=16) h
theorem zjZ {x:Nat} (h:256≤x):Nat.log2 x=Nat.log2 (x/256)+8:=zdB (s:=8) h
def bits32 (x:Nat):Nat:=if x=0 then 0 else Nat.log2 x+1
theorem zlk (x:Nat) (hx:x<4294967296):pf E0 76 [(PV.i .u32 ((x:Nat):Int))]=some (.i .i64 (bits32 x:Int)):=by
 refine zab (xf:=ztl) rfl (by simp[ztl]) ?_
 simp only[ztl]
 have shr:∀(y:Nat) (s:Int),0≤s→s≤32→binP .shr (.i .u32 (y:Int)) (.i .u64 s)=some (.i .u32 ((y/2^s.toNat:Nat):Int)):=fun y s h1 h2=>by
  rw[zcT _ _ _ _ h1,show min s.toNat (IntKind.bits .u32)=s.toNat by simp only[IntKind.bits];omega,show ((2:Int)^s.toNat)=((2^s.toNat:Nat):Int) by simp,zeC]
 have hfold:=fun(j:Nat) (h:j<256)=>zi1 h
 have hb:∀y:Nat,y≠0→len8 y=Nat.log2 y+1:=fun y h=>by unfold len8;rw[if_neg h]
 have b0:bits32 x=len8 x:=rfl
 by_cases h1:65536≤x
 ·have c1:((65536:Int)≤(x:Int))=True:=by simp;omega
  have l1:=zkY h1
  by_cases h2:256≤x/65536
  ·have c2:((256:Int)≤((x/65536:Nat):Int))=True:=by simp;omega
   have l2:=zjZ h2
   have l3:=zd6 (j:=x/65536/256) (by omega)
   have l4:=hb (x/65536/256) (by omega)
   have l5:=hb x (by omega)
   simp(disch:=omega)only[go_sem,seval,wqq,c1,c2,shr,hfold]
   rw[b0];congr 2;omega
  ·have c2:((256:Int)≤((x/65536:Nat):Int))=False:=by simp;omega
   have l3:=zd6 (j:=x/65536) (by omega)
   have l4:=hb (x/65536) (by omega)
   have l5:=hb x (by omega)
   simp(disch:=omega)only[go_sem,seval,wqq,c1,c2,shr,hfold]
   rw[b0];congr 2;omega
 ·have c1:((65536:Int)≤(x:Int))=False:=by simp;omega
  by_cases h2:256≤x
  ·have c2:((256:Int)≤(x:Int))=True:=by simp;omega
   have l2:=zjZ h2
   have l3:=zd6 (j:=x/256) (by omega)
   have l4:=hb (x/256) (by omega)
   have l5:=hb x (by omega)
   simp(disch:=omega)only[go_sem,seval,wqq,c1,c2,shr,hfold]
   rw[b0];congr 2;omega
  ·have c2:((256:Int)≤(x:Int))=False:=by simp;omega
   have l3:=zd6 (j:=x) (by omega)
   simp(disch:=omega)only[go_sem,seval,wqq,c1,c2,shr,hfold]
   rw[b0];congr 2;omega
theorem zeo {x:Nat} (h:x<4294967296):bits32 x≤32:=by
 unfold bits32
 split
 ·omega
 ·have:Nat.log2 x<32:=(Nat.log2_lt (by omega)).2 (by omega)
  omega
theorem znw (x:Nat) (hx:x<4294967296):pf E0 55 [(PV.i .u32 ((x:Nat):Int))]=some (.i .i64 ((32-bits32 x:Nat):Int)):=by
 refine zab (xf:=zs8) rfl (by simp[zs8]) ?_
 simp only[zs8]
 have:=zeo hx
 simp(disch:=omega)only[go_sem,seval,wqq,zlk]
 congr 2;omega
theorem zkX {x:Nat} (hx:x<4294967296) (h0:x≠0):2147483648≤x*2^(32-bits32 x)∧x*2^(32-bits32 x)<4294967296∧32-bits32 x<32:=by
 have hb:=zeo hx
 have h1:2^Nat.log2 x≤x:=Nat.log2_self_le h0
 have h2:x<2^(Nat.log2 x+1):=Nat.lt_log2_self
 unfold bits32 at *
 rw[if_neg h0] at *
 refine⟨?_,?_,by omega⟩
 ·have:2^Nat.log2 x*2^(32-(Nat.log2 x+1))≤x*2^(32-(Nat.log2 x+1)):=Nat.mul_le_mul_right _ h1
  rw[←Nat.pow_add,show Nat.log2 x+(32-(Nat.log2 x+1))=31 by omega] at this
  omega
 ·have:x*2^(32-(Nat.log2 x+1))<2^(Nat.log2 x+1)*2^(32-(Nat.log2 x+1)):=Nat.mul_lt_mul_of_pos_right h2 (Nat.pow_pos (by decide))
  rw[←Nat.pow_add,show Nat.log2 x+1+(32-(Nat.log2 x+1))=32 by omega] at this
  omega
theorem zbh (M:PM) (b:Option PB):PM.blk (M++[b]) M.length=b:=by
 unfold PM.blk;cases b<;>simp
theorem zej (M:PM) (b c:Option PB):(M++[b]).set M.length c=M++[c]:=by simp[List.set_append]
theorem ziE {x y:Nat} (hx:x<4294967296) (hy:y<4294967296):binP .or (.i .u32 (x:Int)) (.i .u32 (y:Int))=some (.i .u32 ((x ||| y:Nat):Int)):=by
 have h:(BitVec.ofInt 32 (x:Int) ||| BitVec.ofInt 32 (y:Int)).toNat=x ||| y:=by
  rw[BitVec.toNat_or,BitVec.ofInt_natCast,BitVec.ofInt_natCast,BitVec.toNat_ofNat,BitVec.toNat_ofNat,Nat.mod_eq_of_lt (by omega),Nat.mod_eq_of_lt (by omega)]
 have hlt:x ||| y<2^32:=Nat.or_lt_two_pow (by omega) (by omega)
 have h2:binP .or (.i .u32 (x:Int)) (.i .u32 (y:Int))=some (.i .u32 (IntKind.wrap .u32 (((BitVec.ofInt 32 (x:Int) ||| BitVec.ofInt 32 (y:Int)).toNat:Nat):Int))):=rfl
 rw[h2,h,wqc (by omega) (by omega)]
theorem zgS {x by_ c:Nat} (hb:by_<32) (hx:x<4294967296) (hc:c<2^by_):c ||| x*2^by_%4294967296=(c+x*2^by_)%4294967296∧(c+x*2^by_)/4294967296=x*2^by_/4294967296∧x*2^by_/4294967296<2^by_:=by
 have e:(4294967296:Nat)=2^by_*2^(32-by_):=by rw[←Nat.pow_add,show by_+(32-by_)=32 by omega]
 have hp:0<2^by_:=Nat.pow_pos (by decide)
 have h1:x*2^by_%4294967296=2^by_*(x%2^(32-by_)):=by rw[e,Nat.mul_comm x,Nat.mul_mod_mul_left]
 have h2:x*2^by_/4294967296=x/2^(32-by_):=by rw[e,Nat.mul_comm x,Nat.mul_div_mul_left _ _ hp]
 have h3:x%2^(32-by_)<2^(32-by_):=Nat.mod_lt _ (Nat.pow_pos (by decide))
 have h4:2^by_*(x%2^(32-by_)+1)≤2^by_*2^(32-by_):=Nat.mul_le_mul_left _ h3
 rw[←e,Nat.mul_add] at h4
 have h5:=Nat.div_add_mod (x*2^by_) 4294967296
 rw[h1] at h5
 refine⟨?_,?_,?_⟩
 ·rw[h1,Nat.or_comm,←Nat.two_pow_add_eq_or_of_lt hc]
  omega
 ·omega
 ·rw[h2,Nat.div_lt_iff_lt_mul (Nat.pow_pos (by decide)),←e];exact hx
theorem zeL {F:PFin} {ks:List KI} {n a by_ e0:Nat} (M0:PM) (hn:n<1073741824) (hb:by_<32) (ha:a<4294967296^n) {fr:PFr} {M:PM} (h1:fr 1=.i .i64 (by_:Int)) (h5:fr 5=.sl M0.length 0 (n+1) (n+1) 1) (h13:fr 13=Dw n a) (h14:fr 14=.i .i64 (n:Int)) (h15:fr 15=.i .i64 0)
  (hM:M=M0++[some ⟨List.replicate (n+1) (.i .u32 0),true,e0⟩])
  (cont:∀fr' e,fr' 5=.sl M0.length 0 (n+1) (n+1) 1→UK E0 F (.exit 0) ks fr' (M0++[some ⟨tab (n+1) (fun k=>(PV.i .u32 ((dgt (a*2^by_) k:Nat):Int))),true,e⟩])):WK E0 F (.loop ztR) ks fr M:=by
 refine zai ztR.eq_1 (fun(i:Nat) fr M=>i≤n∧fr 1=.i .i64 (by_:Int)∧fr 5=.sl M0.length 0 (n+1) (n+1) 1∧fr 13=Dw n a∧fr 14=.i .i64 (n:Int)∧fr 15=.i .i64 (i:Int) ∧
  ∃c e:Nat,M=M0++[some ⟨tab (n+1) fun k=>(PV.i .u32 ((if k<i then dgt (a*2^by_) k else if k=i then c else 0:Nat):Int)),true,e⟩]∧c<2^by_∧a%4294967296^i*2^by_=(a*2^by_)%4294967296^i+4294967296^i*c)
  (fun i=>n-i) ?_ 0 ⟨Nat.zero_le _,h1,h5,h13,h14,h15,0,e0,?_,Nat.pow_pos (by decide),by simp[Nat.mod_one]⟩
 ·rintro i fr M ⟨hi,h1,h5,h13,h14,h15,c,e,rfl,hc,hinv⟩ ih
  by_cases hin:i<n
  ·have hc0:((i:Int)<(n:Int))=True:=by simp;omega
   have i1:((i:Int)+1)=((i+1:Nat):Int):=by omega
   have hd:=zam a i
   have hin1:i<n+1:=by omega
   have hin2:i+1<n+1:=by omega
   have hp32:2^by_<4294967296:=by
    have:=Nat.pow_lt_pow_right (show 1<2 by decide) hb
    omega
   have hv:dgt a i*2^by_<18446744073709551616:=by
    have:=Nat.mul_lt_mul'' hd hp32
    omega
   have hsh:binP .shl (.i .u64 (dgt a i:Int)) (.i .i64 (by_:Int))=some (.i .u64 ((dgt a i*2^by_:Nat):Int)):=by
    rw[zeX _ _ _ (by omega) (by omega),Int.toNat_natCast,wqb (by omega) (by omega)]
   obtain⟨w1,w2,w3⟩:=zgS hb hd hc
   have hget:(tab (n+1) fun k=>(PV.i .u32 ((if k<i then dgt (a*2^by_) k else if k=i then c else 0:Nat):Int)))[i]?=some (PV.i .u32 ((c:Nat):Int)):=by rw[zaO hin1,if_neg (by omega),if_pos rfl]
   simp(disch:=omega)only[go_sem,seval,wqq,h1,h5,h13,h14,h15,hc0,i1,zax,hsh,hin1,hin2,zbh,zej,zaq,hget,zaX,ziE,w1]
   obtain⟨k1,k2⟩:=ze0 (P:=4294967296^i) (T:=a%4294967296^i*2^by_) (s:=a*2^by_) (c:=c) (d:=dgt a i*2^by_) (r:=a/(4294967296^i*4294967296)*2^by_) (zbl i) hinv (by
    have:=zbD a i
    generalize a/(4294967296^i*4294967296)=q at *
    generalize a%4294967296^i=r at *
    generalize 4294967296^i=p at *
    generalize dgt a i=d at *
    generalize 2^by_=t at *
    subst this
    grind)
   refine ih (i+1) _ _ (by omega) ⟨by omega,by simp only[go_sem,seval,h1],by simp only[go_sem,seval,h5],by simp only[go_sem,seval,h13],by simp only[go_sem,seval,h14],by simp only[go_sem,seval],dgt a i*2^by_/4294967296,e+1+1,?_,w3,?_⟩
   ·congr 4
    refine zag fun k hk=>?_
    by_cases h1:k=i+1
    ·subst h1
     rw[if_pos rfl,if_neg (by omega),if_pos rfl]
    ·rw[if_neg h1]
     by_cases h2:k=i
     ·subst h2
      rw[if_pos rfl,if_pos (by omega)]
      congr 2;rw[zad (a*2^by_)];exact k1.symm
     ·rw[if_neg h2]
      congr 2
      by_cases h3:k<i
      ·rw[if_pos h3,if_pos (by omega)]
      ·rw[if_neg h3,if_neg (by omega),if_neg (by omega),if_neg (by omega)]
   ·rw[←w2,Nat.pow_succ,←k2,←Nat.pow_succ,zap]
    grind
  ·have hc0:((i:Int)<(n:Int))=False:=by simp;omega
   obtain rfl:i=n:=by omega
   simp only[go_sem,seval,h14,h15,hc0]
   rw[Nat.mod_eq_of_lt ha] at hinv
   have hcd:c=dgt (a*2^by_) i:=by
    have h1:=Nat.div_add_mod (a*2^by_) (4294967296^i)
    have h2:(a*2^by_)/4294967296^i=c:=Nat.eq_of_mul_eq_mul_left (zbl i) (by omega)
    rw[zad,h2,Nat.mod_eq_of_lt]
    have:=Nat.pow_lt_pow_right (show 1<2 by decide) hb
    omega
   have ht:(tab (i+1) fun k=>(PV.i .u32 ((if k<i then dgt (a*2^by_) k else if k=i then c else 0:Nat):Int)))=tab (i+1) fun k=>(PV.i .u32 ((dgt (a*2^by_) k:Nat):Int)):=zag fun k hk=>by
    by_cases h:k<i
    ·rw[if_pos h]
    ·rw[if_neg h,if_pos (by omega),hcd,show k=i by omega]
   rw[ht]
   exact cont _ e (by simp only[go_sem,seval,h5])
 ·rw[hM,zcu]
  congr 4
  refine zag fun k hk=>?_
  by_cases h:k=0
  ·rw[if_neg (by omega),if_pos h];rfl
  ·rw[if_neg (by omega),if_neg h];rfl
theorem zeF {n a by_:Nat} (M:PM) (hn:n<1073741824) (hb:by_<32) (ha:a<4294967296^n):∃e,pcl E0 56 [Dw n a,.i .i64 (by_:Int)] M=some (.sl M.length 0 (n+1) (n+1) 1,M++[some ⟨tab (n+1) (fun k=>(PV.i .u32 ((dgt (a*2^by_) k:Nat):Int))),true,e⟩]):=by
 have key:∃v M',pcl E0 56 [Dw n a,.i .i64 (by_:Int)] M=some (v,M')∧v=.sl M.length 0 (n+1) (n+1) 1∧∃e,M'=M++[some ⟨tab (n+1) (fun k=>(PV.i .u32 ((dgt (a*2^by_) k:Nat):Int))),true,e⟩]:=by
  refine zcr (xf:=ztz) rfl rfl (by simp[ztz]) ?_
  simp only[ztz]
  have n1:((n:Int)+1)=((n+1:Nat):Int):=by omega
  simp(disch:=omega)only[go_sem,seval,wqq,n1,zcA]
  refine zeL M hn hb ha (by simp only[go_sem,seval]) (by simp only[go_sem,seval]) (by simp only[go_sem,seval]) (by simp only[go_sem,seval]) (by simp only[go_sem,seval]) rfl fun fr' e g5=>?_
  simp only[go_sem,seval,g5]
  exact⟨e,rfl⟩
 obtain⟨v,M',h,rfl,e,rfl⟩:=key
 exact⟨e,h⟩
end Go.Eng
