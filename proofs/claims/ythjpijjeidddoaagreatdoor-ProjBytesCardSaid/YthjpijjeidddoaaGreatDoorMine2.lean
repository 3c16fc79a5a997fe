/- The engine and the contracts on which the statement stands: no conditions of its own. -/
import Derived.Test.YthjpijjeidddoaaGreatDoorMine1
set_option linter.unusedSimpArgs false
set_option linter.unusedVariables false
set_option linter.unusedSectionVars false
namespace Go.Eng
variable {E:PEnv} {F:PFin}
@[go_sem] theorem zns (fr:PFr) (d:Nat) (v:PV):fr.putO (some d) v=fr.put d v:=_root_.id rfl
@[go_sem] theorem znr (fr:PFr) (v:PV):fr.putO none v=fr:=_root_.id rfl
@[go_sem] theorem zlw (fr:PFr) (d:Nat) (v:PV) (k:Nat):fr.put d v k=if k=d then v else fr k:=_root_.id rfl
@[go_sem] theorem zmz (a:PV) (l:List PV):frOf (a::l) 0=a:=_root_.id rfl
@[go_sem] theorem zmy (a:PV) (l:List PV) (k:Nat):frOf (a::l) (k+1)=frOf l k:=_root_.id rfl
@[go_sem] theorem zn7 (k:Nat):frOf [] k=undefP:=_root_.id rfl
@[go_sem] theorem zs5 (G:Nat→Option (List AV)) (fr:PFr) (n:Nat):X.pv G fr (.t n)=fr n:=_root_.id rfl
@[go_sem] theorem zs4 (G:Nat→Option (List AV)) (fr:PFr) (v:AV):X.pv G fr (.k v)=cst G v:=_root_.id rfl
@[go_sem] theorem zsj (G:Nat→Option (List AV)) (v:Bool):cst G (.b v)=.b v:=_root_.id rfl
@[go_sem] theorem zsk (G:Nat→Option (List AV)) (k:IntKind) (n:Int):cst G (.i k n)=.i k n:=_root_.id rfl
@[go_sem] theorem zsl (G:Nat→Option (List AV)) (l:List UInt8):cst G (.s l)=.s l:=_root_.id rfl
@[go_sem] theorem zqM (G:Nat→Option (List AV)):cst G .sn=.nl:=_root_.id rfl
@[go_sem] theorem zqL (G:Nat→Option (List AV)):cst G .pn=.pn:=_root_.id rfl
@[go_sem] theorem zqK (G:Nat→Option (List AV)) (f:Nat):cst G (.fn f [])=.fn f []:=_root_.id rfl
@[go_sem] theorem zn2 (G:Nat→Option (List AV)):cst G .fnil=.fnil:=_root_.id rfl
@[go_sem] theorem zqH (v:Bool):cst0 (.b v)=.b v:=_root_.id rfl
@[go_sem] theorem zqI (k:IntKind) (n:Int):cst0 (.i k n)=.i k n:=_root_.id rfl
@[go_sem] theorem zqJ (l:List UInt8):cst0 (.s l)=.s l:=_root_.id rfl
@[go_sem] theorem zo1:cst0 .sn=.nl:=_root_.id rfl
@[go_sem] theorem zrH (v:Bool):PV.scal (.b v)=true:=_root_.id rfl
@[go_sem] theorem zrI (k:IntKind) (n:Int):PV.scal (.i k n)=true:=_root_.id rfl
@[go_sem] theorem zrJ (l:List UInt8):PV.scal (.s l)=true:=_root_.id rfl
@[go_sem] theorem zqf (n o l c z:Nat):PV.scal (.sl n o l c z)=true:=_root_.id rfl
@[go_sem] theorem zol (l:List PV):PV.scal (.lst l)=true:=_root_.id rfl
@[go_sem] theorem zqe:PV.scal .nl=true:=_root_.id rfl
@[go_sem] theorem zoT (v:Bool):PV.cells (.b v)=[.b v]:=_root_.id rfl
@[go_sem] theorem zoU (k:IntKind) (n:Int):PV.cells (.i k n)=[.i k n]:=_root_.id rfl
@[go_sem] theorem zoV (l:List UInt8):PV.cells (.s l)=[.s l]:=_root_.id rfl
@[go_sem] theorem zn1 (n o l c z:Nat):PV.cells (.sl n o l c z)=[.sl n o l c z]:=_root_.id rfl
@[go_sem] theorem zmb (l:List PV):PV.cells (.lst l)=[.lst l]:=_root_.id rfl
@[go_sem] theorem znY (l:List PV):PV.cells (.ag l)=l:=_root_.id rfl
@[go_sem] theorem znU (p:PV→Bool):[].all p=true:=_root_.id rfl
@[go_sem] theorem zl0 (p:PV→Bool) (a:PV) (l:List PV):(a::l).all p=(p a&&l.all p):=_root_.id rfl
@[go_sem] theorem ziD (b:Option PB) (M:PM):PM.blk (b::M) 0=b:=by cases b<;>rfl
@[go_sem] theorem zd1 (b:Option PB) (M:PM) (n:Nat):PM.blk (b::M) (n+1)=PM.blk M n:=_root_.id rfl
@[go_sem] theorem zp9 (l:List PV):pickP true l=some (.ag l):=_root_.id rfl
@[go_sem] theorem zoi (v:PV):pickP false [v]=some v:=_root_.id rfl
section
variable (d:Option Nat) (af:List Nat) (l:List XOper) (ks:List KI) (fr:PFr) (M:PM)
@[go_sem] theorem zsa (x:X):WL E F (⟨d,.mov x,af,none⟩::l) ks fr M=WL E F l ks (fr.putO d (x.pv E.glob fr)) M:=by rw[zaL];exact zfB ..
@[go_sem] theorem zrW (op:BinOp) (x y:X):WL E F (⟨d,.bin op x y,af,none⟩::l) ks fr M=WV1 E F (binP op (x.pv E.glob fr) (y.pv E.glob fr)) d l ks fr M:=by rw[zaL];exact zaO ..
@[go_sem] theorem zsT (op:UnOp) (x:X):WL E F (⟨d,.un op x,af,none⟩::l) ks fr M=WV1 E F (unP op (x.pv E.glob fr)) d l ks fr M:=by rw[zaL];exact zaO ..
def boolP (ne:Bool):Option Bool→Option PV
 | some v=>some (.b (if ne then !v else v))
 | none=>none
@[go_sem] theorem zoR (v:Bool):boolP false (some v)=some (.b v):=_root_.id rfl
@[go_sem] theorem zoS (v:Bool):boolP true (some v)=some (.b (!v)):=_root_.id rfl
@[go_sem] theorem zr2 (ne:Bool) (c:Nat) (x y:X):WL E F (⟨d,.eqt ne c x y,af,none⟩::l) ks fr M=WV1 E F (boolP ne (eqTP c (x.pv E.glob fr) (y.pv E.glob fr))) d l ks fr M:=by
 rw[zaL,←zaO]
 have:XO.pst E.glob (pcl E) fr M (.eqt ne c x y)=(boolP ne (eqTP c (x.pv E.glob fr) (y.pv E.glob fr))).map fun v=>(v,M):=by
  show (eqTP c (x.pv E.glob fr) (y.pv E.glob fr)).map _=_
  cases eqTP c (x.pv E.glob fr) (y.pv E.glob fr)<;>rfl
 rw[this]
def eqaP (ks:List Nat):PV→PV→Option Bool
 | .ag xs,.ag ys=>eqCellsP ks xs ys
 | _,_=>none
@[go_sem] theorem zo4 (ks:List Nat) (xs ys:List PV):eqaP ks (.ag xs) (.ag ys)=eqCellsP ks xs ys:=_root_.id rfl
@[go_sem] theorem zr1 (ne:Bool) (c:List Nat) (x y:X):WL E F (⟨d,.eqa ne c x y,af,none⟩::l) ks fr M=WV1 E F (boolP ne (eqaP c (x.pv E.glob fr) (y.pv E.glob fr))) d l ks fr M:=by
 rw[zaL,←zaO]
 have:XO.pst E.glob (pcl E) fr M (.eqa ne c x y)=(boolP ne (eqaP c (x.pv E.glob fr) (y.pv E.glob fr))).map fun v=>(v,M):=by
  simp only[XO.pst,XO.pev]
  generalize x.pv E.glob fr=a
  generalize y.pv E.glob fr=b
  cases a<;>cases b<;>simp only[eqaP]<;>first|rfl|(rename_i xs ys;cases eqCellsP c xs ys<;>rfl)
 rw[this]
def cintP (k:IntKind):PV→Option PV
 | .i _ n=>some (.i k (k.wrap n))
 | _=>none
@[go_sem] theorem zoW (k k':IntKind) (n:Int):cintP k (.i k' n)=some (.i k (k.wrap n)):=_root_.id rfl
@[go_sem] theorem zqx (k:IntKind) (x:X):WL E F (⟨d,.cint k x,af,none⟩::l) ks fr M=WV1 E F (cintP k (x.pv E.glob fr)) d l ks fr M:=by
 rw[zaL,←zaO]
 have:XO.pst E.glob (pcl E) fr M (.cint k x)=(cintP k (x.pv E.glob fr)).map fun v=>(v,M):=by
  simp only[XO.pst,XO.pev]
  cases x.pv E.glob fr<;>rfl
 rw[this]
def lenP:PV→Option PV
 | .sl _ _ ln _ _=>some (.i .i64 ln)
 | .nl=>some (.i .i64 0)
 | .lst xs=>some (.i .i64 xs.length)
 | _=>none
@[go_sem] theorem zpm (n o ln c z:Nat):lenP (.sl n o ln c z)=some (.i .i64 ln):=_root_.id rfl
@[go_sem] theorem zpl:lenP .nl=some (.i .i64 0):=_root_.id rfl
@[go_sem] theorem zob (xs:List PV):lenP (.lst xs)=some (.i .i64 xs.length):=_root_.id rfl
@[go_sem] theorem zr8 (x:X):WL E F (⟨d,.len x,af,none⟩::l) ks fr M=WV1 E F (lenP (x.pv E.glob fr)) d l ks fr M:=by
 rw[zaL,←zaO]
 have:XO.pst E.glob (pcl E) fr M (.len x)=(lenP (x.pv E.glob fr)).map fun v=>(v,M):=by
  simp only[XO.pst,XO.pev]
  cases x.pv E.glob fr<;>rfl
 rw[this]
def lensP:PV→Option PV
 | .s l=>some (.i .i64 l.length)
 | _=>none
@[go_sem] theorem zpn (l:List UInt8):lensP (.s l)=some (.i .i64 l.length):=_root_.id rfl
@[go_sem] theorem zqz (x:X):WL E F (⟨d,.lens x,af,none⟩::l) ks fr M=WV1 E F (lensP (x.pv E.glob fr)) d l ks fr M:=by
 rw[zaL,←zaO]
 have:XO.pst E.glob (pcl E) fr M (.lens x)=(lensP (x.pv E.glob fr)).map fun v=>(v,M):=by
  simp only[XO.pst,XO.pev]
  cases x.pv E.glob fr<;>rfl
 rw[this]
def pickB (a b:PV):PV→Option PV
 | .b v=>some (if v then a else b)
 | _=>none
@[go_sem] theorem zp8 (a b:PV):pickB a b (.b true)=some a:=_root_.id rfl
@[go_sem] theorem zp7 (a b:PV):pickB a b (.b false)=some b:=_root_.id rfl
@[go_sem] theorem zqA (c x y:X):WL E F (⟨d,.pick c x y,af,none⟩::l) ks fr M=WV1 E F (pickB (x.pv E.glob fr) (y.pv E.glob fr) (c.pv E.glob fr)) d l ks fr M:=by
 rw[zaL,←zaO]
 have:XO.pst E.glob (pcl E) fr M (.pick c x y)=(pickB (x.pv E.glob fr) (y.pv E.glob fr) (c.pv E.glob fr)).map fun v=>(v,M):=by
  simp only[XO.pst,XO.pev]
  cases c.pv E.glob fr<;>rfl
 rw[this]
@[go_sem] theorem zr9 (f:Nat) (xs:List X):WL E F (⟨d,.mfn f xs,af,none⟩::l) ks fr M=WL E F l ks (fr.putO d (.fn f (xs.map (X.pv E.glob fr)))) M:=by rw[zaL];exact zfB ..
def fadP (off:Nat):PV→Option PV
 | .p m o=>some (.p m (o+off))
 | .fp l=>some (.fp (l.drop off))
 | _=>none
@[go_sem] theorem zqP (off m o:Nat):fadP off (.p m o)=some (.p m (o+off)):=_root_.id rfl
@[go_sem] theorem zo6 (off:Nat) (xs:List PV):fadP off (.fp xs)=some (.fp (xs.drop off)):=_root_.id rfl
@[go_sem] theorem zr4 (off:Nat) (x:X):WL E F (⟨d,.fad off x,af,none⟩::l) ks fr M=WV1 E F (fadP off (x.pv E.glob fr)) d l ks fr M:=by
 rw[zaL,←zaO]
 have:XO.pst E.glob (pcl E) fr M (.fad off x)=(fadP off (x.pv E.glob fr)).map fun v=>(v,M):=by
  simp only[XO.pst,XO.pev]
  cases x.pv E.glob fr<;>rfl
 rw[this]
def fldP (agg:Bool) (off n:Nat):PV→Option PV
 | .ag l=>if off+n≤l.length then pickP agg ((l.drop off).take n) else none
 | _=>none
def extP (n:Nat):PV→Option PV
 | .tu l=>l[n]?
 | _=>none
@[go_sem] theorem zo5 (n:Nat) (xs:List PV):extP n (.tu xs)=xs[n]?:=_root_.id rfl
@[go_sem] theorem zr3 (x:X) (n:Nat):WL E F (⟨d,.ext x n,af,none⟩::l) ks fr M=WV1 E F (extP n (x.pv E.glob fr)) d l ks fr M:=by
 rw[zaL,←zaO]
 have:XO.pst E.glob (pcl E) fr M (.ext x n)=(extP n (x.pv E.glob fr)).map fun v=>(v,M):=by
  simp only[XO.pst,XO.pev]
  cases x.pv E.glob fr<;>rfl
 rw[this]
@[go_sem] theorem zsS (mx:Bool) (x:X) (xs:List X):WL E F (⟨d,.mm mx x xs,af,none⟩::l) ks fr M=WV1 E F (mmP mx (x.pv E.glob fr) (xs.map (X.pv E.glob fr))) d l ks fr M:=by rw[zaL];exact zaO ..
@[go_sem] theorem zov (z:List AV) (ps:List (Nat×Nat×X)):WL E F (⟨d,.build z ps,af,none⟩::l) ks fr M=WV1 E F ((fillP E.glob fr (z.map cst0) ps).map .ag) d l ks fr M:=by
 rw[zaL,←zaO]
 have:XO.pst E.glob (pcl E) fr M (.build z ps)=((fillP E.glob fr (z.map cst0) ps).map .ag).map fun v=>(v,M):=by
  simp only[XO.pst,XO.pev,Option.map_map]
  rfl
 rw[this]
@[go_sem] theorem zn3 (G:Nat→Option (List AV)) (z:List PV):fillP G fr z []=some z:=_root_.id rfl
def fill1 (z:List PV) (off:Nat):List PV→Option (List PV)
 | [c]=>if off<z.length∧c.scal=true then some (z.set off c) else none
 | _=>none
@[go_sem] theorem zmw (z:List PV) (off:Nat) (c:PV):fill1 z off [c]=if off<z.length∧c.scal=true then some (z.set off c) else none:=_root_.id rfl
def fillB (G:Nat→Option (List AV)) (ps:List (Nat×Nat×X)):Option (List PV)→Option (List PV)
 | some z=>fillP G fr z ps
 | none=>none
@[go_sem] theorem zlT (G:Nat→Option (List AV)) (z:List PV) (ps:List (Nat×Nat×X)):fillB fr G ps (some z)=fillP G fr z ps:=_root_.id rfl
theorem zim (z:List PV) (off:Nat) (x:PV) (h:off<z.length):psplice z off [x]=z.set off x:=by
 rw[List.set_eq_take_append_cons_drop,if_pos h]
 simp[psplice]
@[go_sem] theorem zn4 (G:Nat→Option (List AV)) (z:List PV) (off:Nat) (x:X) (ps:List (Nat×Nat×X)):fillP G fr z ((off,(1,x))::ps)=fillB fr G ps (fill1 z off (x.pv G fr).cells):=by
 simp only[fillP]
 generalize hv:(x.pv G fr).cells=cs
 match cs,hv with
 | [c],hv =>
  simp only[fill1,List.length_cons,List.length_nil,Nat.zero_add,List.all_cons,List.all_nil,Bool.and_true,true_and]
  by_cases h:off<z.length∧c.scal=true
  ·rw[if_pos h,if_pos ⟨by omega,h.2⟩,zim _ _ _ h.1];rfl
  ·rw[if_neg h,if_neg (fun q=>h ⟨by omega,q.2⟩)];rfl
 | [],hv=>simp only[fill1];rw[if_neg (by simp)];rfl
 | _::_::_,hv=>simp only[fill1];rw[if_neg (by simp)];rfl
end
section
variable (d:Option Nat) (af:List Nat) (l:List XOper) (ks:List KI) (fr:PFr) (M:PM)
def idxP (sz:Nat):PV→Option Nat→Option PV
 | .sl m off ln _ z,some j=>if j<ln∧z=sz then some (.p m (off+j*sz)) else none
 | .lst xs,some j=>match xs[j]? with|some y=>if y.cells.length=sz then some (.fp y.cells) else none|none=>none
 | _,_=>none
@[go_sem] theorem zpj (sz m off ln c z j:Nat):idxP sz (.sl m off ln c z) (some j)=if j<ln∧z=sz then some (.p m (off+j*sz)) else none:=_root_.id rfl
def idx1 (sz:Nat):Option PV→Option PV
 | some y=>if y.cells.length=sz then some (.fp y.cells) else none
 | none=>none
@[go_sem] theorem zmC (sz:Nat) (y:PV):idx1 sz (some y)=if y.cells.length=sz then some (.fp y.cells) else none:=_root_.id rfl
@[go_sem] theorem zfU (sz j:Nat) (xs:List PV):idxP sz (.lst xs) (some j)=idx1 sz xs[j]?:=by
 show (match xs[j]? with|some y=>if y.cells.length=sz then some (PV.fp y.cells) else none|none=>none)=_
 cases xs[j]?<;>rfl
@[go_sem] theorem zr7 (sz:Nat) (x i:X):WL E F (⟨d,.ixs sz x i,af,none⟩::l) ks fr M=WV1 E F (idxP sz (x.pv E.glob fr) (asNP (i.pv E.glob fr))) d l ks fr M:=by
 rw[zaL,←zaO]
 have:XO.pst E.glob (pcl E) fr M (.ixs sz x i)=(idxP sz (x.pv E.glob fr) (asNP (i.pv E.glob fr))).map fun v=>(v,M):=by
  simp only[XO.pst,XO.pev]
  generalize x.pv E.glob fr=a
  generalize asNP (i.pv E.glob fr)=b
  cases a with
  | sl m off ln c z =>
   cases b with
   | none=>rfl
   | some j=>simp only[idxP];split<;>rfl
  | lst xs =>
   cases b with
   | none=>rfl
   | some j =>
    simp only[idxP]
    cases xs[j]? with
    | none=>rfl
    | some y=>simp only;split<;>rfl
  | _=>cases b<;>rfl
 rw[this]
@[go_sem] theorem zcS (k:IntKind) (n:Nat):asNP (.i k (n:Int))=some n:=by simp[asNP,asIP]
@[go_sem] theorem zdZ (k:IntKind) (n:Nat) [OfNat Int n]:asNP (.i k (no_index (OfNat.ofNat n)))=if 0≤(OfNat.ofNat n:Int) then some (OfNat.ofNat n:Int).toNat else none:=by simp[asNP,asIP]
def ixaP (ln sz:Nat):PV→Option Nat→Option PV
 | .p m off,some j=>if j<ln then some (.p m (off+j*sz)) else none
 | .fp l,some j=>if j<ln then some (.fp (l.drop (j*sz))) else none
 | _,_=>none
@[go_sem] theorem zqX (ln sz m off j:Nat):ixaP ln sz (.p m off) (some j)=if j<ln then some (.p m (off+j*sz)) else none:=_root_.id rfl
@[go_sem] theorem zr6 (ln sz:Nat) (x i:X):WL E F (⟨d,.ixa ln sz x i,af,none⟩::l) ks fr M=WV1 E F (ixaP ln sz (x.pv E.glob fr) (asNP (i.pv E.glob fr))) d l ks fr M:=by
 rw[zaL,←zaO]
 have:XO.pst E.glob (pcl E) fr M (.ixa ln sz x i)=(ixaP ln sz (x.pv E.glob fr) (asNP (i.pv E.glob fr))).map fun v=>(v,M):=by
  simp only[XO.pst,XO.pev]
  generalize x.pv E.glob fr=a
  generalize asNP (i.pv E.glob fr)=b
  cases a<;>cases b<;>simp only[ixaP]<;>first|rfl|(split<;>rfl)
 rw[this]
def iagP (ln:Nat) (agg:Bool) (sz:Nat):PV→Option Nat→Option PV
 | .ag l,some j=>if j<ln∧l.length=ln*sz then pickP agg ((l.drop (j*sz)).take sz) else none
 | _,_=>none
@[go_sem] theorem zkF (ln:Nat) (agg:Bool) (sz j:Nat) (xs:List PV):iagP ln agg sz (.ag xs) (some j)=if j<ln∧xs.length=ln*sz then pickP agg ((xs.drop (j*sz)).take sz) else none:=_root_.id rfl
@[go_sem] theorem zr5 (ln:Nat) (agg:Bool) (sz:Nat) (x i:X):WL E F (⟨d,.iag ln agg sz x i,af,none⟩::l) ks fr M=WV1 E F (iagP ln agg sz (x.pv E.glob fr) (asNP (i.pv E.glob fr))) d l ks fr M:=by
 rw[zaL,←zaO]
 have:XO.pst E.glob (pcl E) fr M (.iag ln agg sz x i)=(iagP ln agg sz (x.pv E.glob fr) (asNP (i.pv E.glob fr))).map fun v=>(v,M):=by
  simp only[XO.pst,XO.pev]
  generalize x.pv E.glob fr=a
  generalize asNP (i.pv E.glob fr)=b
  cases a<;>cases b<;>simp only[iagP]<;>first|rfl|(split<;>rfl)
 rw[this]
def istrP:PV→Option Nat→Option PV
 | .s l,some j=>(l[j]?).map fun c=>.i .u8 c.toNat
 | _,_=>none
@[go_sem] theorem zkH (bs:List UInt8) (j:Nat):istrP (.s bs) (some j)=(bs[j]?).map fun c=>.i .u8 c.toNat:=_root_.id rfl
@[go_sem] theorem zqy (x i:X):WL E F (⟨d,.istr x i,af,none⟩::l) ks fr M=WV1 E F (istrP (x.pv E.glob fr) (asNP (i.pv E.glob fr))) d l ks fr M:=by
 rw[zaL,←zaO]
 have:XO.pst E.glob (pcl E) fr M (.istr x i)=(istrP (x.pv E.glob fr) (asNP (i.pv E.glob fr))).map fun v=>(v,M):=by
  simp only[XO.pst,XO.pev]
  generalize x.pv E.glob fr=a
  generalize asNP (i.pv E.glob fr)=b
  cases a<;>cases b<;>simp only[istrP,Option.map_map]<;>rfl
 rw[this]
def ld1 (M:PM):PV→Option PV
 | .p m off=>match PM.blk M m with|some b=>b.v[off]?|none=>none
 | .fp l=>l[0]?
 | _=>none
def blkV (off:Nat):Option PB→Option PV
 | some b=>b.v[off]?
 | none=>none
@[go_sem] theorem zl8 (off:Nat) (b:PB):blkV off (some b)=b.v[off]?:=_root_.id rfl
@[go_sem] theorem zst (m off:Nat):ld1 M (.p m off)=blkV off (PM.blk M m):=by
 show (match PM.blk M m with|some b=>b.v[off]?|none=>none)=_
 cases PM.blk M m<;>rfl
@[go_sem] theorem zqY (xs:List PV):ld1 M (.fp xs)=xs[0]?:=_root_.id rfl
theorem zkP (xs:List PV) (off:Nat):(if off+1≤xs.length then some ((xs.drop off).take 1) else none).bind (pickP false)=xs[off]?:=by
 by_cases h:off<xs.length
 ·rw[if_pos (by omega),List.drop_eq_getElem_cons h,List.getElem?_eq_getElem h];rfl
 ·rw[if_neg (by omega),List.getElem?_eq_none (by omega)];rfl
@[go_sem] theorem zoy (x:X):WL E F (⟨d,.load false 1 x,af,none⟩::l) ks fr M=WV1 E F (ld1 M (x.pv E.glob fr)) d l ks fr M:=by
 rw[zaL,←zaO]
 have:XO.pst E.glob (pcl E) fr M (.load false 1 x)=(ld1 M (x.pv E.glob fr)).map fun v=>(v,M):=by
  simp only[XO.pst,XO.pev]
  generalize x.pv E.glob fr=a
  cases a with
  | p m off =>
   simp only[ld1,PM.rd]
   cases PM.blk M m with
   | none=>rfl
   | some b =>
    simp only
    have:=zkP b.v off
    rw[←this]
    split
    ·rename_i l' hl
     rw[hl];rfl
    ·rename_i hl
     rw[hl];rfl
  | fp xs =>
   simp only[ld1]
   cases xs with
   | nil=>rfl
   | cons y ys=>simp[pickP,oneP]
  | _=>rfl
 rw[this]
def ldN (M:PM) (n:Nat):PV→Option PV
 | .p m off=>match PM.blk M m with|some b=>if off+n≤b.v.length then some (.ag ((b.v.drop off).take n)) else none|none=>none
 | .fp l=>if n≤l.length∧n≠0 then some (.ag (l.take n)) else none
 | _=>none
def blkN (off n:Nat):Option PB→Option PV
 | some b=>if off+n≤b.v.length then some (.ag ((b.v.drop off).take n)) else none
 | none=>none
@[go_sem] theorem zl6 (off n:Nat) (b:PB):blkN off n (some b)=if off+n≤b.v.length then some (.ag ((b.v.drop off).take n)) else none:=_root_.id rfl
@[go_sem] theorem zsu (n m off:Nat):ldN M n (.p m off)=blkN off n (PM.blk M m):=by
 show (match PM.blk M m with|some b=>if off+n≤b.v.length then some (PV.ag ((b.v.drop off).take n)) else none|none=>none)=_
 cases PM.blk M m<;>rfl
@[go_sem] theorem zqZ (n:Nat) (xs:List PV):ldN M n (.fp xs)=if n≤xs.length∧n≠0 then some (.ag (xs.take n)) else none:=_root_.id rfl
@[go_sem] theorem zoz (n:Nat) (x:X):WL E F (⟨d,.load true n x,af,none⟩::l) ks fr M=WV1 E F (ldN M n (x.pv E.glob fr)) d l ks fr M:=by
 rw[zaL,←zaO]
 have:XO.pst E.glob (pcl E) fr M (.load true n x)=(ldN M n (x.pv E.glob fr)).map fun v=>(v,M):=by
  simp only[XO.pst,XO.pev]
  generalize x.pv E.glob fr=a
  cases a with
  | p m off =>
   simp only[ldN,PM.rd]
   cases PM.blk M m with
   | none=>rfl
   | some b =>
    simp only
    by_cases h:off+n≤b.v.length
    ·simp[h,pickP]
    ·simp[h]
  | fp xs =>
   simp only[ldN]
   split<;>rfl
  | _=>rfl
 rw[this]
def st1 (M:PM) (a:PV) (cs:List PV):Option (PV×PM) :=
 match a,cs with
 | .p m off,[c]=>match PM.blk M m with|some b=>if b.rw=true∧off<b.v.length∧c.scal=true then some (undefP,M.set m (some ⟨b.v.set off c,true,b.ver+1⟩)) else none|none=>none
 | _,_=>none
def blkS (M:PM) (m off:Nat) (c:PV):Option PB→Option (PV×PM)
 | some b=>if b.rw=true∧off<b.v.length∧c.scal=true then some (undefP,M.set m (some ⟨b.v.set off c,true,b.ver+1⟩)) else none
 | none=>none
@[go_sem] theorem zl7 (m off:Nat) (c:PV) (b:PB):blkS M m off c (some b)=if b.rw=true∧off<b.v.length∧c.scal=true then some (undefP,M.set m (some ⟨b.v.set off c,true,b.ver+1⟩)) else none:=_root_.id rfl
@[go_sem] theorem zsL (m off:Nat) (c:PV):st1 M (.p m off) [c]=blkS M m off c (PM.blk M m):=by
 show (match PM.blk M m with|some b=>if b.rw=true∧off<b.v.length∧c.scal=true then some (undefP,M.set m (some (PB.mk (b.v.set off c) true (b.ver+1)))) else none|none=>none)=_
 cases PM.blk M m<;>rfl
theorem zgK (a x:X):XO.pst E.glob (pcl E) fr M (.store 1 a x)=st1 M (a.pv E.glob fr) (x.pv E.glob fr).cells:=by
 simp only[XO.pst,XO.pev]
 generalize a.pv E.glob fr=p
 generalize (x.pv E.glob fr).cells=cs
 cases p with
 | p m off =>
  simp only
  match cs with
  | [c] =>
   simp only[st1]
   cases PM.blk M m with
   | none=>rfl
   | some b =>
    simp only[List.length_cons,List.length_nil,Nat.zero_add,List.all_cons,List.all_nil,Bool.and_true,true_and]
    by_cases h:b.rw=true∧off<b.v.length∧c.scal=true
    ·rw[if_pos h,if_pos ⟨h.1,by omega,h.2.2⟩,zim _ _ _ h.2.1]
    ·rw[if_neg h,if_neg (fun q=>h ⟨q.1,by omega,q.2.2⟩)]
  | [] =>
   simp only[st1]
   cases PM.blk M m with
   | none=>rfl
   | some b=>simp
  | _::_::_ =>
   simp only[st1]
   cases PM.blk M m with
   | none=>rfl
   | some b=>simp
 | _=>match cs with
  | []=>rfl
  | [c]=>rfl
  | _::_::_=>rfl
@[go_sem] theorem znK (a x:X):WL E F (⟨d,.store 1 a x,af,none⟩::l) ks fr M=WV E F (st1 M (a.pv E.glob fr) (x.pv E.glob fr).cells) d l ks fr:=by rw[zaL,zgK]
def stN (M:PM) (n:Nat) (a:PV) (cs:List PV):Option (PV×PM) :=
 match a with
 | .p m off=>match PM.blk M m with|some b=>if b.rw=true∧cs.length=n∧off+n≤b.v.length∧cs.all PV.scal=true then some (undefP,M.set m (some ⟨psplice b.v off cs,true,b.ver+1⟩)) else none|none=>none
 | _=>none
def blkSN (M:PM) (m off n:Nat) (cs:List PV):Option PB→Option (PV×PM)
 | some b=>if b.rw=true∧cs.length=n∧off+n≤b.v.length∧cs.all PV.scal=true then some (undefP,M.set m (some ⟨psplice b.v off cs,true,b.ver+1⟩)) else none
 | none=>none
@[go_sem] theorem zlS (m off n:Nat) (cs:List PV) (b:PB):blkSN M m off n cs (some b)=if b.rw=true∧cs.length=n∧off+n≤b.v.length∧cs.all PV.scal=true then some (undefP,M.set m (some ⟨psplice b.v off cs,true,b.ver+1⟩)) else none:=_root_.id rfl
@[go_sem] theorem zsM (n m off:Nat) (cs:List PV):stN M n (.p m off) cs=blkSN M m off n cs (PM.blk M m):=by
 show (match PM.blk M m with|some b=>if b.rw=true∧cs.length=n∧off+n≤b.v.length∧cs.all PV.scal=true then some (undefP,M.set m (some (PB.mk (psplice b.v off cs) true (b.ver+1)))) else none|none=>none)=_
 cases PM.blk M m<;>rfl
theorem zh6 (n:Nat) (a x:X):XO.pst E.glob (pcl E) fr M (.store n a x)=stN M n (a.pv E.glob fr) (x.pv E.glob fr).cells:=by
 simp only[XO.pst,XO.pev]
 cases a.pv E.glob fr<;>rfl
theorem ziv (n:Nat) (a x:X):WL E F (⟨d,.store n a x,af,none⟩::l) ks fr M=WV E F (stN M n (a.pv E.glob fr) (x.pv E.glob fr).cells) d l ks fr:=by rw[zaL,zh6]
@[go_sem] theorem znL (n:Nat) (a x:X):WL E F (⟨d,.store (n+2) a x,af,none⟩::l) ks fr M=WV E F (stN M (n+2) (a.pv E.glob fr) (x.pv E.glob fr).cells) d l ks fr:=ziv ..
@[go_sem] theorem zoA (x:X):WL E F (⟨d,.nilck x,af,none⟩::l) ks fr M=WV1 E F (match x.pv E.glob fr with | .p m off=>some (.p m off) | .fp l=>some (.fp l) | .fn f l=>some (.fn f l)|_=>none) d l ks fr M:=by
 rw[zaL,←zaO]
 have:XO.pst E.glob (pcl E) fr M (.nilck x)=(match x.pv E.glob fr with | .p m off=>some (PV.p m off) | .fp l=>some (.fp l) | .fn f l=>some (.fn f l)|_=>none).map fun v=>(v,M):=by
  simp only[XO.pst,XO.pev]
  cases x.pv E.glob fr<;>rfl
 rw[this]
def newP (M:PM) (cs:List PV):Option (PV×PM):=if cs.all PV.scal then some (.p M.length 0,M++[some ⟨cs,true,0⟩]) else none
@[go_sem] theorem zoc (cs:List PV):newP M cs=if cs.all PV.scal then some (.p M.length 0,M++[some ⟨cs,true,0⟩]) else none:=_root_.id rfl
@[go_sem] theorem zsc (z:List AV):WL E F (⟨d,.new z,af,none⟩::l) ks fr M=WV E F (newP M (z.map cst0)) d l ks fr:=by rw[zaL];rfl
@[go_sem] theorem zrX (x:X):WL E F (⟨d,.box x,af,none⟩::l) ks fr M=WV E F (newP M (x.pv E.glob fr).cells) d l ks fr:=by rw[zaL];rfl
def bslP (M:PM) (n sz:Nat):Option (List PV)→Option (PV×PM)
 | some cs=>if n=0 then some (.nl,M) else some (.sl M.length 0 n n sz,M++[some ⟨cs,true,0⟩])
 | none=>none
@[go_sem] theorem zl9 (n sz:Nat) (cs:List PV):bslP M n sz (some cs)=if n=0 then some (.nl,M) else some (.sl M.length 0 n n sz,M++[some ⟨cs,true,0⟩]):=_root_.id rfl
@[go_sem] theorem zrY (n sz:Nat) (z:List AV) (ps:List (Nat×Nat×X)):WL E F (⟨d,.bsl n sz z ps,af,none⟩::l) ks fr M=WV E F (if n*sz≤16777216∧z.length=sz∧(z.map cst0).all PV.scal=true then bslP M n sz (fillP E.glob fr (List.replicate n (z.map cst0)).flatten ps) else none) d l ks fr:=by
 rw[zaL]
 have:XO.pst E.glob (pcl E) fr M (.bsl n sz z ps)=(if n*sz≤16777216∧z.length=sz∧(z.map cst0).all PV.scal=true then bslP M n sz (fillP E.glob fr (List.replicate n (z.map cst0)).flatten ps) else none):=by
  simp only[XO.pst,XO.pev]
  split
  ·cases fillP E.glob fr (List.replicate n (z.map cst0)).flatten ps<;>rfl
  ·rfl
 rw[this]
def mslP (M:PM) (z:List PV) (by_:Nat):Option Nat→Option Nat→Option (PV×PM)
 | some a,some b =>
  if a≤b∧b*by_≤281474976710656∧b≤9223372036854775807∧z.all PV.scal=true then
   (if b=0 then some (.nl,M) else some (.sl M.length 0 a b z.length,M++[some ⟨(List.replicate b z).flatten,true,0⟩]))
  else none
 | _,_=>none
@[go_sem] theorem zsb (z:List AV) (by_:Nat) (n c:X):WL E F (⟨d,.msl z by_ n c,af,none⟩::l) ks fr M=WV E F (mslP M (z.map cst0) by_ (asNP (n.pv E.glob fr)) (asNP (c.pv E.glob fr))) d l ks fr:=by
 rw[zaL]
 have:XO.pst E.glob (pcl E) fr M (.msl z by_ n c)=mslP M (z.map cst0) by_ (asNP (n.pv E.glob fr)) (asNP (c.pv E.glob fr)):=by
  simp only[XO.pst,XO.pev]
  cases asNP (n.pv E.glob fr)<;>cases asNP (c.pv E.glob fr)<;>simp only[mslP,List.length_map]
 rw[this]
theorem zrG (z:PV):∀n,(List.replicate n [z]).flatten=List.replicate n z
 | 0=>rfl
 | n+1=>by rw[List.replicate_succ,List.flatten_cons,zrG z n];rfl
theorem zi1 (z:PV) (by_ n:Nat) (h1:n*by_≤281474976710656) (h2:n≤9223372036854775807) (h3:z.scal=true) (h0:n≠0):mslP M [z] by_ (some n) (some n)=some (.sl M.length 0 n n 1,M++[some ⟨List.replicate n z,true,0⟩]):=by
 simp only[mslP]
 rw[if_pos ⟨Nat.le_refl _,h1,h2,by simp[h3]⟩,if_neg h0,zrG];rfl
theorem zhy (z:PV) (by_:Nat) (h3:z.scal=true):mslP M [z] by_ (some 0) (some 0)=some (.nl,M):=by
 simp only[mslP]
 simp[h3]
@[go_sem] theorem zqB (z:Nat) (x:X) (lo hi mx:Option X):WL E F (⟨d,.slsl z x lo hi mx,af,none⟩::l) ks fr M=WV1 E F (slP z (x.pv E.glob fr) (lo.map (X.pv E.glob fr)) (hi.map (X.pv E.glob fr)) (mx.map (X.pv E.glob fr))) d l ks fr M:=by rw[zaL];exact zaO ..
@[go_sem] theorem zrU (z by_:Nat) (s x:X):WL E F (⟨d,.app z by_ s x,af,none⟩::l) ks fr M=WV E F (appP M z by_ (s.pv E.glob fr) (x.pv E.glob fr)) d l ks fr:=by rw[zaL];rfl
@[go_sem] theorem zrZ (z:Nat) (a b:X):WL E F (⟨d,.cpy z a b,af,none⟩::l) ks fr M=WV E F (cpyP M z (a.pv E.glob fr) (b.pv E.glob fr)) d l ks fr:=by rw[zaL];rfl
@[go_sem] theorem zqw (f:Nat) (xs:List X):WL E F (⟨d,.call f xs,af,none⟩::l) ks fr M=WV E F (pcl E f (xs.map (X.pv E.glob fr)) M) d l ks fr:=by rw[zaL];rfl
noncomputable def callP (E:PEnv) (M:PM) (xs:List PV):PV→Option (PV×PM)
 | .fn f c=>pcl E f (xs++c) M
 | _=>none
@[go_sem] theorem znW (xs:List PV) (f:Nat) (c:List PV):callP E M xs (.fn f c)=pcl E f (xs++c) M:=_root_.id rfl
@[go_sem] theorem zow (x:X) (xs:List X):WL E F (⟨d,.callv x xs,af,none⟩::l) ks fr M=WV E F (callP E M (xs.map (X.pv E.glob fr)) (x.pv E.glob fr)) d l ks fr:=by
 rw[zaL]
 have:XO.pst E.glob (pcl E) fr M (.callv x xs)=callP E M (xs.map (X.pv E.glob fr)) (x.pv E.glob fr):=by
  simp only[XO.pst]
  cases x.pv E.glob fr<;>rfl
 rw[this]
end
@[go_sem] theorem zod (fr:PFr) (M:PM):pRes fr M []=some []:=_root_.id rfl
def resC (o:Option PV) (r:Option (List PV)):Option (List PV):=match o,r with|some v,some vs=>some (v::vs)|_,_=>none
@[go_sem] theorem znx (v:PV) (vs:List PV):resC (some v) (some vs)=some (v::vs):=_root_.id rfl
@[go_sem] theorem zoe (fr:PFr) (M:PM) (t:Nat) (l:List XR):pRes fr M (.tmp t::l)=resC (some (fr t)) (pRes fr M l):=_root_.id rfl
@[go_sem] theorem zlU (fr:PFr) (M:PM) (t n:Nat) (l:List XR):pRes fr M (.cell t true n::l)=resC (ldN M n (fr t)) (pRes fr M l):=by
 have:pResOne fr M (.cell t true n)=ldN M n (fr t):=by
  simp only[pResOne]
  generalize fr t=a
  cases a with
  | p m off =>
   simp only[ldN,PM.rd]
   cases PM.blk M m with
   | none=>rfl
   | some b =>
    simp only
    by_cases h:off+n≤b.v.length
    ·simp[h,pickP]
    ·simp[h]
  | fp xs =>
   simp only[ldN]
   split<;>rfl
  | _=>rfl
 simp only[pRes,this];rfl
@[go_sem] theorem zog (v:PV):packP [v]=v:=_root_.id rfl
@[go_sem] theorem zof:packP []=.tu []:=_root_.id rfl
@[go_sem] theorem zoh (v w:PV) (l:List PV):packP (v::w::l)=.tu (v::w::l):=_root_.id rfl
end Go.Eng
namespace Go.Eng
variable {E:PEnv} {F:PFin}
theorem zeJ (a b:Nat):((a:Int).fdiv (b:Int))=((a/b:Nat):Int):=by rw[Int.fdiv_eq_ediv_of_nonneg _ (by omega)];rfl
section
variable (k k':IntKind) (a b:Int)
@[go_sem] theorem zoH:binP .add (.i k a) (.i k b)=some (.i k (k.wrap (a+b))):=by simp[binP,numBin,intBin,cst0]
@[go_sem] theorem zoQ:binP .sub (.i k a) (.i k b)=some (.i k (k.wrap (a-b))):=by simp[binP,numBin,intBin,cst0]
@[go_sem] theorem zoM:binP .mul (.i k a) (.i k b)=some (.i k (k.wrap (a*b))):=by simp[binP,numBin,intBin,cst0]
@[go_sem] theorem zoO (h:b≠0):binP .quo (.i k a) (.i k b)=some (.i k (k.wrap (a.tdiv b))):=by simp[binP,numBin,intBin,cst0,h]
@[go_sem] theorem zoP (h:b≠0):binP .rem (.i k a) (.i k b)=some (.i k (a.tmod b)):=by simp[binP,numBin,intBin,cst0,h]
@[go_sem] theorem zoI:binP .eql (.i k a) (.i k b)=some (.b (decide (a=b))):=by
 have:(a==b)=decide (a=b):=by by_cases h:a=b<;>simp[h]
 simp[binP,numBin,intBin,cst0,this]
@[go_sem] theorem zoN:binP .neq (.i k a) (.i k b)=some (.b (decide (a≠b))):=by
 have:(a != b)=decide (a≠b):=by by_cases h:a=b<;>simp[h]
 simp[binP,numBin,intBin,cst0,this]
@[go_sem] theorem zoL:binP .lss (.i k a) (.i k b)=some (.b (decide (a<b))):=by simp[binP,numBin,intBin,cst0]
@[go_sem] theorem zoK:binP .gtr (.i k a) (.i k b)=some (.b (decide (b<a))):=by simp[binP,numBin,intBin,cst0]
@[go_sem] theorem zoJ:binP .geq (.i k a) (.i k b)=some (.b (decide (b≤a))):=by simp[binP,numBin,intBin,cst0]
theorem zc5 (h:0≤b):binP .shl (.i k a) (.i k' b)=some (.i k (k.wrap (a*2^(min b.toNat k.bits)))):=by
 have:¬b<0:=by omega
 simp[binP,numBin,intShift,cst0,this]
theorem zc6 (h:0≤b):binP .shr (.i k a) (.i k' b)=some (.i k (a.fdiv (2^(min b.toNat k.bits)))):=by
 have:¬b<0:=by omega
 simp[binP,numBin,intShift,cst0,this]
@[go_sem] theorem zrO:unP .neg (.i k a)=some (.i k (k.wrap (0-a))):=_root_.id rfl
@[go_sem] theorem zrP (v:Bool):unP .not (.b v)=some (.b (!v)):=_root_.id rfl
@[go_sem] theorem zsm (v w:Bool):eqTP 0 (.b v) (.b w)=some (v==w):=_root_.id rfl
@[go_sem] theorem zqO (n o:Nat):eqTP 1 (.p n o) .pn=some false:=_root_.id rfl
@[go_sem] theorem zd0 (x y:List UInt8) (h:x.length+y.length≤9223372036854775807):binP .add (.s x) (.s y)=some (.s (x++y)):=by simp[binP,strBin,cst0,h]
@[go_sem] theorem znV (x y:List UInt8):binP .neq (.s x) (.s y)=some (.b (decide (x≠y))):=by
 have:(x==y)=decide (x=y):=by by_cases h:x=y<;>simp[h]
 simp[binP,strBin,cst0,this]
@[go_sem] theorem zq2 (mx:Bool) (x:PV):mmP mx x []=some x:=_root_.id rfl
@[go_sem] theorem zq0 (l:List PV):mmP true (.i k a) (.i k b::l)=mmP true (.i k (if b>a then b else a)) l:=by simp[mmP]
@[go_sem] theorem zq1 (l:List PV):mmP false (.i k a) (.i k b::l)=mmP false (.i k (if b<a then b else a)) l:=by simp[mmP]
end
theorem wqa {x:Int} (h1 : -9223372036854775808≤x) (h2:x≤9223372036854775807):IntKind.wrap .i64 x=x:=by
 simp only[IntKind.wrap,IntKind.signed,IntKind.bits,Bool.true_and,decide_eq_true_eq,ge_iff_le]
 omega
theorem wqe {x:Int} (h1 : -2147483648≤x) (h2:x≤2147483647):IntKind.wrap .i32 x=x:=by
 simp only[IntKind.wrap,IntKind.signed,IntKind.bits,Bool.true_and,decide_eq_true_eq,ge_iff_le]
 omega
theorem wqb {x:Int} (h1:0≤x) (h2:x≤18446744073709551615):IntKind.wrap .u64 x=x:=by
 simp only[IntKind.wrap,IntKind.signed,IntKind.bits,Bool.false_and,Bool.false_eq_true,if_false]
 omega
theorem wqc {x:Int} (h1:0≤x) (h2:x≤4294967295):IntKind.wrap .u32 x=x:=by
 simp only[IntKind.wrap,IntKind.signed,IntKind.bits,Bool.false_and,Bool.false_eq_true,if_false]
 omega
theorem wqd {x:Int} (h1:0≤x) (h2:x≤255):IntKind.wrap .u8 x=x:=by
 simp only[IntKind.wrap,IntKind.signed,IntKind.bits,Bool.false_and,Bool.false_eq_true,if_false]
 omega
theorem wqq:(∀{x:Int},-9223372036854775808≤x→x≤9223372036854775807→IntKind.wrap .i64 x=x)∧(∀{x:Int},0≤x→x≤18446744073709551615→IntKind.wrap .u64 x=x)∧(∀{x:Int},0≤x→x≤4294967295→IntKind.wrap .u32 x=x)∧(∀{x:Int},0≤x→x≤255→IntKind.wrap .u8 x=x)∧(∀{x:Int},-2147483648≤x→x≤2147483647→IntKind.wrap .i32 x=x):=⟨wqa,wqb,wqc,wqd,wqe⟩
theorem lqq:(∀{α:Type} (a b c:List α),a++b++c=a++(b++c))∧(∀{α:Type} (a:α) (b c:List α),a::b++c=a::(b++c))∧(∀{α:Type} (a:List α),[]++a=a):=⟨List.append_assoc,fun _ _ _=>List.cons_append,List.nil_append⟩
theorem zbI (x:Int):IntKind.wrap .u64 x=x%18446744073709551616:=by simp[IntKind.wrap,IntKind.signed,IntKind.bits]
theorem zdy (x:Int):IntKind.wrap .u32 x=x%4294967296:=by simp[IntKind.wrap,IntKind.signed,IntKind.bits]
theorem znP (x:Int):IntKind.wrap .u8 x=x%256:=by simp[IntKind.wrap,IntKind.signed,IntKind.bits]
theorem za2 (n:Nat):IntKind.wrap .u32 (n:Int)=((n%4294967296:Nat):Int):=by rw[zdy];rfl
@[go_sem] theorem zc7 (k':IntKind) (x:Nat) (s:Int) (h:0≤s) (h2:s≤64):binP .shr (.i .u64 (x:Int)) (.i k' s)=some (.i .u64 ((x/2^s.toNat:Nat):Int)):=by
 rw[zc6 _ _ _ _ h,show min s.toNat (IntKind.bits .u64)=s.toNat by simp only[IntKind.bits];omega,show ((2:Int)^s.toNat)=((2^s.toNat:Nat):Int) by simp,zeJ]
@[go_sem] theorem ze0 (k':IntKind) (x:Nat) (s:Int) (h:0≤s) (h2:s≤64):binP .shl (.i .u64 (x:Int)) (.i k' s)=some (.i .u64 (IntKind.wrap .u64 ((x*2^s.toNat:Nat):Int))):=by
 rw[zc5 _ _ _ _ h,show min s.toNat (IntKind.bits .u64)=s.toNat by simp only[IntKind.bits];omega,show ((x*2^s.toNat:Nat):Int)=(x:Int)*2^s.toNat by simp]
theorem zbD (a b:Nat):((a:Int)+(b:Int))=((a+b:Nat):Int):=by omega
theorem za5 (a:Nat):((a:Int)+1)=((a+1:Nat):Int):=by omega
theorem zbE (a b:Nat):((a:Int)*(b:Int))=((a*b:Nat):Int):=by simp
theorem zaK {a:Nat} (h:1≤a):((a:Int)-1)=((a-1:Nat):Int):=by omega
theorem zc0 (a b:Nat):((a:Int).tdiv (b:Int))=((a/b:Nat):Int):=rfl
theorem zeg (a b:Nat):((a:Int).tmod (b:Int))=((a%b:Nat):Int):=rfl
theorem zbd (a b:Nat):((a:Int)<(b:Int))=(a<b):=by simp
theorem zco (a b:Nat):((a:Int)≤(b:Int))=(a≤b):=by simp
@[go_sem] theorem zpc:fzD=12:=_root_.id rfl
@[go_sem] theorem zpd (g:PV→Option (PV×List Nat)):fzL g []=some ([],[]):=_root_.id rfl
def fzC:Option (PV×List Nat)→Option (List PV×List Nat)→Option (List PV×List Nat)
 | some r,some q=>some (r.1::q.1,r.2++q.2)
 | _,_=>none
@[go_sem] theorem zn8 (v:PV) (a:List Nat) (l:List PV) (b:List Nat):fzC (some (v,a)) (some (l,b))=some (v::l,a++b):=_root_.id rfl
@[go_sem] theorem ziU (g:PV→Option (PV×List Nat)) (v:PV) (l:List PV):fzL g (v::l)=fzC (g v) (fzL g l):=by
 simp only[fzL]
 cases g v<;>cases fzL g l<;>rfl
section
variable (M:PM) (d:Nat)
@[go_sem] theorem zsU (v:Bool):fz M (d+1) (.b v)=some (.b v,[]):=_root_.id rfl
@[go_sem] theorem zsV (k:IntKind) (n:Int):fz M (d+1) (.i k n)=some (.i k n,[]):=_root_.id rfl
@[go_sem] theorem zsX (l:List UInt8):fz M (d+1) (.s l)=some (.s l,[]):=_root_.id rfl
@[go_sem] theorem zqS (l:List PV):fz M (d+1) (.lst l)=some (.lst l,[]):=_root_.id rfl
@[go_sem] theorem zsp:fz M (d+1) .nl=some (.lst [],[]):=_root_.id rfl
def fzM (f:List PV→PV):Option (List PV×List Nat)→Option (PV×List Nat)
 | some r=>some (f r.1,r.2)
 | none=>none
@[go_sem] theorem ziV (f:List PV→PV) (l:List PV) (ns:List Nat):fzM f (some (l,ns))=some (f l,ns):=_root_.id rfl
theorem zhk (f:List PV→PV) (o:Option (List PV×List Nat)):(o.map fun(r:List PV×List Nat)=>(f r.1,r.2))=fzM f o:=by cases o<;>rfl
@[go_sem] theorem zpf (l:List PV):fz M (d+1) (.ag l)=fzM PV.ag (fzL (fz M d) l):=zhk PV.ag _
@[go_sem] theorem zss (l:List PV):fz M (d+1) (.tu l)=fzM PV.tu (fzL (fz M d) l):=zhk PV.tu _
def fzP (n off:Nat) (g:PV→Option (PV×List Nat)):Option PB→Option (PV×List Nat)
 | some b=>(fzL g b.v).map fun(r:List PV×List Nat)=>(PV.fp (r.1.drop off),n::r.2)
 | none=>none
@[go_sem] theorem zn9 (n off:Nat) (g:PV→Option (PV×List Nat)) (b:PB):fzP n off g (some b)=(fzL g b.v).map fun(r:List PV×List Nat)=>(PV.fp (r.1.drop off),n::r.2):=_root_.id rfl
@[go_sem] theorem zsW (n off:Nat):fz M (d+1) (.p n off)=fzP n off (fz M d) (PM.blk M n):=by
 show (match PM.blk M n with|some b=>(fzL (fz M d) b.v).map fun(r:List PV×List Nat)=>(PV.fp (r.1.drop off),n::r.2)|none=>none)=_
 cases PM.blk M n<;>rfl
def fzS (n off len z:Nat) (g:PV→Option (PV×List Nat)):Option PB→Option (PV×List Nat)
 | some b=>if off+len*z≤b.v.length then (fzL g ((b.v.drop off).take (len*z))).map fun r=>(.lst (group z len r.1),n::r.2) else none
 | none=>none
@[go_sem] theorem zoa (n off len z:Nat) (g:PV→Option (PV×List Nat)) (b:PB):fzS n off len z g (some b)=if off+len*z≤b.v.length then (fzL g ((b.v.drop off).take (len*z))).map fun r=>(.lst (group z len r.1),n::r.2) else none:=_root_.id rfl
@[go_sem] theorem zsr (n off len c z:Nat):fz M (d+1) (.sl n off len c z)=if len=0 then some (.lst [],[]) else if z=0 then none else fzS n off len z (fz M d) (PM.blk M n):=by
 simp only[fz,PM.rd]
 split
 ·rfl
 ·split
  ·rfl
  ·cases PM.blk M n with
   | none=>rfl
   | some b =>
    simp only[fzS]
    split
    ·rename_i l hl
     split at hl
     ·cases hl;rename_i h;rw[if_pos h]
     ·cases hl
    ·rename_i hl
     split at hl
     ·cases hl
     ·rename_i h;rw[if_neg h]
theorem zhi (g:PV→Option (PV×List Nat)):∀(l:List PV),(∀x∈l,g x=some (x,[]))→fzL g l=some (l,[])
 | [],_=>rfl
 | x::l,h=>by
  rw[ziU,h x (List.mem_cons_self ..),zhi g l fun y hy=>h y (List.mem_cons_of_mem _ hy)];rfl
theorem zcY {α:Type} (f:α→PV) (hf:∀a,fz M (d+1) (f a)=some (f a,[])) (l:List α):fzL (fz M (d+1)) (l.map f)=some (l.map f,[]) :=
 zhi _ _ fun x hx=>by
  obtain⟨a,_,rfl⟩:=List.mem_map.1 hx
  exact hf a
theorem zbt:∀(k:Nat) (l:List PV),l.length=k→group 1 k l=l
 | 0,l,h=>by rw[List.length_eq_zero_iff.1 h];rfl
 | k+1,[],h=>by simp at h
 | k+1,x::l,h=>by
  simp only[group,if_true,List.headD_cons,List.drop_succ_cons,List.drop_zero]
  rw[zbt k l (by simpa using h)]
end
@[go_sem] theorem zqc (M:PM):roM M []=M:=_root_.id rfl
@[go_sem] theorem zok (M:PM) (n:Nat) (ns:List Nat):roM M (n::ns)=roM (roB M n) ns:=_root_.id rfl
def roC (M:PM) (n:Nat):Option PB→PM
 | some b=>M.set n (some ⟨b.v,false,b.ver⟩)
 | none=>M
@[go_sem] theorem zoj (M:PM) (n:Nat) (b:PB):roC M n (some b)=M.set n (some ⟨b.v,false,b.ver⟩):=_root_.id rfl
@[go_sem] theorem zqb (M:PM) (n:Nat):roB M n=roC M n (PM.blk M n):=by
 unfold roB
 cases PM.blk M n<;>rfl
noncomputable def pclA (E:PEnv) (f:Nat) (M:PM):Option (List PV×List Nat)→Option (PV×PM)
 | some r=>(pf E f r.1).map fun v=>(v,roM M r.2)
 | none=>none
def pclV (M:PM) (ns:List Nat):Option PV→Option (PV×PM)
 | some v=>some (v,roM M ns)
 | none=>none
@[go_sem] theorem znm (M:PM) (ns:List Nat) (v:PV):pclV M ns (some v)=some (v,roM M ns):=_root_.id rfl
@[go_sem] theorem zh3 (f:Nat) (M:PM) (l:List PV) (ns:List Nat):pclA E f M (some (l,ns))=pclV M ns (pf E f l):=by
 show (pf E f l).map _=_
 cases pf E f l<;>rfl
theorem zae {f:Nat} (args:List PV) (M:PM) (h:E.pure f=true):pcl E f args M=pclA E f M (fzL (fz M fzD) args):=by
 cases hz:fzL (fz M fzD) args with
 | none =>
  show pcl E f args M=none
  cases hc:pcl E f args M with
  | none=>rfl
  | some r =>
   obtain⟨k,e⟩:=zdT hc
   cases k with
   | zero=>simp[pvF] at e
   | succ k =>
    simp only[pvF,h,if_true,hz] at e
    split at e<;>cases e
 | some r =>
  obtain⟨a',ns⟩:=r
  rw[zh3]
  cases hp:pf E f a' with
  | some v=>exact zgc h hz hp
  | none =>
   show pcl E f args M=none
   cases hc:pcl E f args M with
   | none=>rfl
   | some r =>
    obtain⟨k,e⟩:=zdT hc
    cases k with
    | zero=>simp[pvF] at e
    | succ k =>
     simp only[pvF,h,if_true,hz] at e
     split at e
     ·rename_i xf hx
      split at e
      ·rename_i w ho
       rw[zj7 hx ho] at hp;cases hp
      ·rename_i ho
       split at e
       ·rename_i w M2 hb
        simp only[Option.map_eq_some_iff] at e
        obtain⟨q,q1,_⟩:=e
        have:=znp hx (zcq (zlx k) (Nat.le_refl k) hb) (v:=q.1) (by rw[q1];rfl) ho
        rw[this] at hp;cases hp
       ·cases e
     ·rename_i o ho
      split at e
      ·rename_i w M2 hb
       simp only[Option.map_eq_some_iff] at e
       obtain⟨q,q1,_⟩:=e
       have:=zgd ho hb (v:=q.1) (by rw[q1];rfl)
       rw[this] at hp;cases hp
      ·cases e
     ·cases e
end Go.Eng
namespace Go.Eng
attribute [go_sem] List.length_cons List.length_nil List.cons_append List.nil_append List.append_nil List.map_cons List.map_nil List.set_cons_zero List.set_cons_succ List.getElem?_cons_zero List.getElem?_cons_succ List.drop_zero List.drop_succ_cons List.take_succ_cons List.take_zero List.replicate_succ List.replicate_zero List.flatten_cons List.flatten_nil
attribute [go_sem] Option.map_some Option.map_none Option.bind_some and_true true_and and_self and_false false_and Bool.and_self Bool.and_true Bool.true_and Bool.not_true Bool.not_false decide_true decide_false not_true_eq_false not_false_eq_true ne_eq if_true if_false Bool.false_eq_true Nat.zero_add Nat.add_zero Nat.zero_mul Nat.one_mul Nat.mul_one Nat.lt_add_one Nat.le_refl Option.isSome_none Option.isSome_some beq_self_eq_true Bool.true_eq_false false_implies
@[go_sem] theorem zsY (n:Nat):((0:Int)≤(n:Int))=True:=by simp
@[go_sem] theorem zqi (l:List PV):psplice l 0 []=l:=by simp[psplice]
@[go_sem] theorem zoo (a c:PV) (l cs:List PV):psplice (a::l) 0 (c::cs)=c::psplice l 0 cs:=by simp[psplice]
@[go_sem] theorem zop (a:PV) (l cs:List PV) (n:Nat):psplice (a::l) (n+1) cs=a::psplice l n cs:=by
 simp only[psplice,List.take_succ_cons,List.cons_append]
 rw[show n+1+cs.length=(n+cs.length)+1 by omega,List.drop_succ_cons]
theorem zcP (M:PM) (k:IntKind) (c:Int) (by_ n:Nat) (h1:n*by_≤281474976710656) (h2:n≤9223372036854775807) (h0:n≠0):mslP M [.i k c] by_ (some n) (some n)=some (.sl M.length 0 n n 1,M++[some ⟨List.replicate n (.i k c),true,0⟩]):=zi1 M _ by_ n h1 h2 rfl h0
theorem zfk (M:PM) (k:IntKind) (c:Int) (by_:Nat):mslP M [.i k c] by_ (some 0) (some 0)=some (.nl,M):=zhy M _ by_ rfl
@[go_sem] theorem zqF:(true==false)=false:=by decide
@[go_sem] theorem zqE:(false==true)=false:=by decide
theorem zas {E:PEnv} {F:PFin} {a b:XC} (hab:a=b) {ks:List KI} {α:Type} (I:α→PFr→PM→Prop) (m:α→Nat)
  (step:∀x fr M,I x fr M→(∀y fr' M',m y<m x→I y fr' M'→WK E F (.loop a) ks fr' M')→WK E F b (.loop a::ks) fr M) (x:α) {fr:PFr} {M:PM} (h:I x fr M):WK E F (.loop a) ks fr M:=by
 have key:∀n x fr M,m x<n→I x fr M→WK E F (.loop a) ks fr M:=by
  intro n
  induction n with
  | zero=>intro x fr M hm;omega
  | succ n ih =>
   intro x fr M hm h
   have:=step x fr M h fun y fr' M' hy h'=>ih y fr' M' (by omega) h'
   rw[←hab] at this
   exact zdw this
 exact key (m x+1) x fr M (by omega) h
end Go.Eng
namespace Go.Eng
def dtx:Nat→Nat→List UInt8
 | 0,_=>[]
 | i+1,v=>UInt8.ofNat (48+v/10^i%10)::dtx i v
@[simp] theorem zcB:∀(i v:Nat),(dtx i v).length=i
 | 0,_=>rfl
 | i+1,v=>by simp[dtx,zcB i v]
theorem zg6:∃f:Nat→Nat,∀v n,f v≤n↔v<10^n:=by
 have key:∀v:Nat,∃m,∀n,m≤n↔v<10^n:=by
  intro v
  induction v using Nat.strongRecOn with
  | _ v ih =>
   by_cases h:v=0
   ·subst h;exact⟨0,fun n=>⟨fun _=>Nat.pow_pos (by decide),fun _=>Nat.zero_le _⟩⟩
   ·obtain⟨m,hm⟩:=ih (v/10) (Nat.div_lt_self (by omega) (by decide))
    refine⟨m+1,fun n=>?_⟩
    cases n with
    | zero=>simp;omega
    | succ n =>
     rw[Nat.pow_succ,←Nat.div_lt_iff_lt_mul (by decide),←hm n];omega
 exact⟨fun v=>Classical.choose (key v),fun v=>Classical.choose_spec (key v)⟩
noncomputable def dlen:Nat→Nat:=Classical.choose zg6
theorem zaR {v n:Nat}:dlen v≤n↔v<10^n:=Classical.choose_spec zg6 v n
theorem zcA (v:Nat):v<10^dlen v:=zaR.1 (Nat.le_refl _)
noncomputable def dec (v:Nat):List UInt8:=if v=0 then [48] else dtx (dlen v) v
noncomputable def decI (n:Int):List UInt8:=if n<0 then 45::dec n.natAbs else dec n.natAbs
def val:List Nat→Nat
 | []=>0
 | x::xs=>x+4294967296*val xs
def Fits64 (n:Int):Prop := -9223372036854775808≤n∧n≤9223372036854775807
instance (n:Int):Decidable (Fits64 n):=inferInstanceAs (Decidable (_∧_))
def wordsP:List PV→Option (List Nat)
 | []=>some []
 | .i .u32 n::l=>if 0≤n∧n<4294967296 then (wordsP l).map (n.toNat :: ·) else none
 | _=>none
def wordsA:List AV→Option (List Nat)
 | []=>some []
 | .i .u32 n::l=>if 0≤n∧n<4294967296 then (wordsA l).map (n.toNat :: ·) else none
 | _=>none
noncomputable def wtx (neg:Bool) (xs:List Nat):Option (List UInt8) :=
 if xs.length≤512∧xs.getLast?≠some 0∧(neg=true→xs≠[]) then some (decI (if neg then-(val xs:Int) else (val xs:Int))) else none
def isDig (c:UInt8):Bool:=decide (48≤c.toNat∧c.toNat≤57)
def tv:List UInt8→Nat
 | []=>0
 | c::l=>(c.toNat-48)*10^l.length+tv l
def idxB:List UInt8→UInt8→Int
 | [],_ => -1
 | b::l,c=>if b==c then 0 else if idxB l c == -1 then-1 else idxB l c+1
noncomputable def libA (f:Nat):List AV→Option AV
 | [.i .i64 n]=>if f=50∧Fits64 n then some (.s (decI n)) else none
 | [.s l,.i .i64 c]=>if f=51∧0≤c∧c≤1000∧l.length≤1000 then some (.s (List.replicate c.toNat l).flatten) else none
 | [.s l,.s cs]=>if f=130∧l.length≤9223372036854775807∧cs.length<4294967281∧(cs.all fun b=>decide (b.toNat<128))=true then some (.s (((l.reverse.dropWhile (cs.contains ·)).reverse).dropWhile (cs.contains ·))) else if f=222 then (match cs with|[c]=>some (.i .i64 (idxB l c))|_=>none) else none
 | [.s l]=>if f=131∧l≠[]∧l.length≤18∧l.all isDig=true then some (.tu [.i .i64 (tv l:Nat),.inil]) else none
 | _=>none
noncomputable def libP (f:Nat):List PV→Option PV
 | [.i .i64 n]=>if f=50∧Fits64 n then some (.s (decI n)) else none
 | [.s l,.i .i64 c]=>if f=51∧0≤c∧c≤1000∧l.length≤1000 then some (.s (List.replicate c.toNat l).flatten) else none
 | [.s l,.s cs]=>if f=130∧l.length≤9223372036854775807∧cs.length<4294967281∧(cs.all fun b=>decide (b.toNat<128))=true then some (.s (((l.reverse.dropWhile (cs.contains ·)).reverse).dropWhile (cs.contains ·))) else if f=222 then (match cs with|[c]=>some (.i .i64 (idxB l c))|_=>none) else none
 | [.s l]=>if f=131∧l≠[]∧l.length≤18∧l.all isDig=true then some (.tu [.i .i64 (tv l:Nat),.inil]) else none
 | _=>none
noncomputable def txtA:List AV→Hp→Option (List UInt8)
 | [.ag [.b neg,.sl n off len _ z]],h=>if len=0 then wtx neg [] else if z=1 then ((h.rd n off len).bind wordsA).bind (wtx neg) else none
 | [.ag [.b neg,.sn]],_=>wtx neg []
 | [.ag [.b neg,.se]],_=>wtx neg []
 | [.ag [.b neg,.e0]],_=>wtx neg []
 | _,_=>none
noncomputable def txtP:List PV→Option (List UInt8)
 | [.ag [.b neg,.lst ws]]=>(wordsP ws).bind (wtx neg)
 | [.ag [.b neg,.nl]]=>wtx neg []
 | _=>none
def powT:List AV:=(List.range 20).map fun i=>.i .u64 ((10^i:Nat):Int)
open Classical in
noncomputable def orcA (f:Nat) (args:List AV) (h:Hp):Option (AV×Hp) :=
 if f=33 then (if ∃b,h.m 0=some b∧b.v=powT then (txtA args h).map fun l=>(.s l,h) else none)
 else if f=50∧¬(∃b,h.m 0=some b∧b.v=powT) then none
 else (libA f args).map fun v=>(v,h)
noncomputable def orcP (f:Nat) (args:List PV) (M:PM):Option (PV×PM) :=
 if f=33 then (txtP args).map fun l=>(.s l,M) else (libP f args).map fun v=>(v,M)
def ovrP (f:Nat) (args:List PV):Option PV :=
 if f=211 then (match args with|[.lst []]=>some (.lst [])|_=>none) else none
def globT (g:Nat):Option (List AV):=if g=0 then some powT else none
def monoI:List Int:=[0,0,0,1,0,0,0,1,0,0,0,1,2,0,0,1,1,0,1,0,1,0,2,0,0,1,1,0,0,2,3,0,0,2,1,0,2,0,1,1,2,0,1,1,1,1,0,2,0,3,0,0,2,1,0,1,2,0,0,3]
def chooI:List Int:=[1,0,0,0,1,1,0,0,1,2,1,0,1,3,3,1]
def monoT:List AV:=monoI.map fun n=>.i .i64 n
def chooT:List AV:=chooI.map fun n=>.i .i64 n
def downT:List AV:=[.fn 296 [],.fn 297 []]
def upT:List AV:=[.fn 298 [],.fn 299 []]
def globG:Nat→Option (List AV)
 | 0=>some powT
 | 1=>some monoT
 | 2=>some chooT
 | 3=>some downT
 | 4=>some upT
 | _=>none
theorem zix {h:Hp} {D:Nat→Prop}:∀{ws:List PV} {cs:Nat→AV} {xs:List Nat},wordsP ws=some xs→(∀i (hi:i<ws.length),V h D [] ws[i] (cs i))→wordsA ((List.range ws.length).map cs)=some xs
 | [],cs,xs,e,_=>by simp[wordsP] at e;subst e;rfl
 | w::ws,cs,xs,e,hv=>by
  unfold wordsP at e
  split at e
  ·rename_i he;cases he
  ·rename_i n l he
   cases he
   split at e
   ·rename_i hn
    simp only[Option.map_eq_some_iff] at e
    obtain⟨ys,e1,rfl⟩:=e
    have h0:=hv 0 (by simp)
    have hc:cs 0=.i .u32 n:=by
     have h0':V h D [] (.i .u32 n) (cs 0):=h0
     generalize cs 0=c at h0'
     cases h0';rfl
    have ih:=zix (cs:=fun i=>cs (i+1)) e1 fun i hi=>hv (i+1) (by simp;omega)
    rw[List.length_cons,List.range_succ_eq_map,List.map_cons,List.map_map,hc]
    unfold wordsA
    rw[if_pos hn]
    have:(List.range ws.length).map (cs ∘ Nat.succ)=(List.range ws.length).map fun i=>cs (i+1):=rfl
    rw[this,ih];rfl
   ·cases e
  ·cases e
theorem zdW:∀{ws:List PV} {xs:List Nat},wordsP ws=some xs→flat ws=ws∧∀x∈ws,x.cells.length=1
 | [],xs,e=>⟨rfl,fun x hx=>by cases hx⟩
 | w::ws,xs,e=>by
  unfold wordsP at e
  split at e
  ·rename_i he;cases he
  ·rename_i n l he
   cases he
   split at e
   ·simp only[Option.map_eq_some_iff] at e
    obtain⟨ys,e1,rfl⟩:=e
    obtain⟨p1,p2⟩:=zdW e1
    refine⟨?_,fun x hx=>?_⟩
    ·show (PV.cells (.i .u32 n))++flat ws=_
     rw[p1];rfl
    ·rcases List.mem_cons.1 hx with rfl|hx
     ·rfl
     ·exact p2 x hx
   ·cases e
  ·cases e
theorem zqj {h:Hp} {D:Nat→Prop} {r:List Nat} {args:List PV} {asq:List AV} {l:List UInt8} (e:txtP args=some l) (hv:VL h D r args asq):txtA asq h=some l:=by
 unfold txtP at e
 split at e
 ·rename_i neg ws
  obtain⟨a,as',rfl,h1,h2⟩:=hv.uncons
  rw[h2.of_nil]
  cases h1 with
  | @ag _ _ l' hn hv' =>
   have hv':VL h D r [.b neg,.lst ws] l':=⟨hn,hv'⟩
   obtain⟨b,l2,rfl,h3,h4⟩:=hv'.uncons
   obtain⟨c,l3,rfl,h5,h6⟩:=h4.uncons
   rw[h6.of_nil]
   cases h3
   cases hw:wordsP ws with
   | none=>rw[hw] at e;cases e
   | some xs =>
    rw[hw] at e
    simp only[Option.bind_some] at e
    cases h5 with
    | @lst _ _ m off cap z blk cs e1 d hs hz0 hz hcap hc hv2 =>
     obtain⟨f1,f2⟩:=zdW hw
     show (if ws.length=0 then wtx neg [] else if z=1 then ((h.rd m off ws.length).bind wordsA).bind (wtx neg) else none)=_
     by_cases h0:ws.length=0
     ·have:ws=[]:=List.eq_nil_of_length_eq_zero h0
      subst this
      simp[wordsP] at hw;subst hw
      simpa using e
     ·have hz1:z=1:=by
       cases ws with
       | nil=>simp at h0
       | cons x ws=>rw[←hz x (by simp),f2 x (by simp)]
      subst hz1
      rw[if_neg h0,if_pos rfl]
      have hlen:(flat ws).length=ws.length:=by rw[f1]
      have hrd:h.rd m off ws.length=some ((List.range ws.length).map cs):=by
       have hlast:off+ws.length≤blk.v.length:=by
        have:=hc (ws.length-1) (by omega)
        have:=zaI this
        omega
       simp only[Hp.rd,e1,if_pos hlast]
       congr 1
       apply List.ext_getElem?
       intro i
       rw[List.getElem?_take,List.getElem?_map,List.getElem?_drop]
       by_cases hi:i<ws.length
       ·rw[if_pos hi,hc i (by omega),List.getElem?_range hi];rfl
       ·rw[if_neg hi,List.getElem?_eq_none (by simp;omega)];rfl
      have hv3:∀i (hi:i<ws.length),V h D [] ws[i] (cs i):=fun i hi=>by
       have:=hv2 i (by omega)
       simp only[f1] at this
       exact this
      rw[hrd,Option.bind_some,zix hw hv3,Option.bind_some]
      exact e
    | lst0 m off cap z =>
     simp[wordsP] at hw;subst hw
     simpa [txtA] using e
    | lsn=>simp[wordsP] at hw;subst hw;exact e
    | lse=>simp[wordsP] at hw;subst hw;exact e
    | le0=>simp[wordsP] at hw;subst hw;exact e
 ·rename_i neg
  obtain⟨a,as',rfl,h1,h2⟩:=hv.uncons
  rw[h2.of_nil]
  cases h1 with
  | @ag _ _ l' hn hv' =>
   have hv':VL h D r [.b neg,.nl] l':=⟨hn,hv'⟩
   obtain⟨b,l2,rfl,h3,h4⟩:=hv'.uncons
   obtain⟨c,l3,rfl,h5,h6⟩:=h4.uncons
   rw[h6.of_nil]
   cases h3
   cases h5 with
   | nln=>exact e
   | nle=>exact e
 ·cases e
theorem zpo {h:Hp} {D:Nat→Prop} {r:List Nat} {f:Nat} {args:List PV} {asq:List AV} {v:PV} (e:libP f args=some v) (hv:VL h D r args asq):∃a,libA f asq=some a∧V h D r v a:=by
 have one:∀{x:PV} {l:List PV} {asq:List AV},VL h D r (x::l) asq→(∃k n,x=.i k n)∨(∃s,x=.s s)→∃as',VL h D r l as'∧((∃k n,x=.i k n∧asq=.i k n::as')∨(∃s,x=.s s∧asq=.s s::as')):=by
  intro x l asq hx ho
  obtain⟨w,ws,rfl,a,b⟩:=hx.uncons
  refine⟨ws,b,?_⟩
  rcases ho with⟨k,n,rfl⟩|⟨s,rfl⟩
  ·cases a;exact .inl ⟨k,n,rfl,rfl⟩
  ·cases a;exact .inr ⟨s,rfl,rfl⟩
 unfold libP at e
 split at e
 ·rename_i n
  obtain⟨as',a,q⟩:=one hv (.inl ⟨_,n,rfl⟩)
  rcases q with⟨k',n',e1,rfl⟩|⟨s,e1,_⟩
  ·cases e1
   rw[a.of_nil]
   split at e
   ·rename_i hc;cases e;exact⟨_,by simp only[libA,if_pos hc],.s _⟩
   ·cases e
  ·cases e1
 ·rename_i l c
  obtain⟨as',a,q⟩:=one hv (.inr ⟨l,rfl⟩)
  rcases q with⟨k',n',e1,_⟩|⟨s,e1,rfl⟩
  ·cases e1
  cases e1
  obtain⟨as2,a2,q⟩:=one a (.inl ⟨_,c,rfl⟩)
  rcases q with⟨k',n',e1,rfl⟩|⟨s,e1,_⟩
  ·cases e1
   rw[a2.of_nil]
   split at e
   ·rename_i hc;cases e;exact⟨_,by simp only[libA,if_pos hc],.s _⟩
   ·cases e
  ·cases e1
 ·rename_i l c
  obtain⟨as',a,q⟩:=one hv (.inr ⟨l,rfl⟩)
  rcases q with⟨k',n',e1,_⟩|⟨s,e1,rfl⟩
  ·cases e1
  cases e1
  obtain⟨as2,a2,q⟩:=one a (.inr ⟨c,rfl⟩)
  rcases q with⟨k',n',e1,_⟩|⟨s,e1,rfl⟩
  ·cases e1
  ·cases e1
   rw[a2.of_nil]
   split at e
   ·rename_i hc;cases e;exact⟨_,by simp only[libA,if_pos hc],.s _⟩
   ·rename_i hc
    split at e
    ·rename_i hf
     split at e
     ·cases e;exact⟨_,by simp only[libA,if_neg hc,if_pos hf],.i _ _⟩
     ·cases e
    ·cases e
 ·rename_i l
  obtain⟨as',a,q⟩:=one hv (.inr ⟨l,rfl⟩)
  rcases q with⟨k',n',e1,_⟩|⟨s,e1,rfl⟩
  ·cases e1
  ·cases e1
   rw[a.of_nil]
   split at e
   ·rename_i hc;cases e;exact⟨_,by simp only[libA,if_pos hc],(fun q:VL h D r [.i .i64 _,.inil] [.i .i64 _,.inil]=>.tu q.1 q.2) (VL.cons (.i _ _) (VL.cons .inil .nil))⟩
   ·cases e
 ·cases e
theorem zm8 {Gl:Nat→Option (List AV)} (g0:Gl 0=some powT) {Db:Nat→Prop} {r:List Nat} {M:PM} {h:Hp} {f:Nat} {args:List PV} {asq:List AV} {v:PV} {M':PM} (e:orcP f args M=some (v,M')) (I:PInv Gl Db r M h) (hv:VL h (DD Db r M) r args asq):PRes Gl Db r M h v M' (orcA f asq h):=by
 have hg:∃b,h.m 0=some b∧b.v=powT:=by
  obtain⟨b,p1,p2,_⟩:=I.glob 0 powT g0
  exact⟨b,p1,p2.1⟩
 unfold orcP at e
 split at e
 ·rename_i h33
  simp only[Option.map_eq_some_iff] at e
  obtain⟨l,e1,e2⟩:=e
  cases e2
  exact⟨_,h,r,by unfold orcA;rw[if_pos h33,if_pos hg,zqj e1 hv];rfl,I,.refl _ _ _,.s l⟩
 ·rename_i h33
  simp only[Option.map_eq_some_iff] at e
  obtain⟨l,e1,e2⟩:=e
  cases e2
  obtain⟨a,a1,a2⟩:=zpo e1 hv
  exact⟨a,h,r,by unfold orcA;rw[if_neg h33,if_neg (fun q=>q.2 hg),a1];rfl,I,.refl _ _ _,a2⟩
end Go.Eng
namespace Go.Eng
set_option maxRecDepth 100000
def oM (d s:Nat) (a:List Nat):XOper:=⟨some d,.mov (.t s),a,none⟩
def oP (d:Nat) (o:XO) (a:List Nat):XOper:=⟨some d,o,a,none⟩
def oT (d:Nat) (o:XO) (a:List Nat) (g:Nat):XOper:=⟨some d,o,a,some (g,true)⟩
def oF (d:Nat) (o:XO) (a:List Nat) (g:Nat):XOper:=⟨some d,o,a,some (g,false)⟩
def oN (o:XO) (a:List Nat):XOper:=⟨none,o,a,none⟩
@[go_sem] theorem zs0 (d s:Nat) (a:List Nat):oM d s a=⟨some d,.mov (.t s),a,none⟩:=_root_.id rfl
@[go_sem] theorem zs2 (d:Nat) (o:XO) (a:List Nat):oP d o a=⟨some d,o,a,none⟩:=_root_.id rfl
@[go_sem] theorem zs3 (d:Nat) (o:XO) (a:List Nat) (g:Nat):oT d o a g=⟨some d,o,a,some (g,true)⟩:=_root_.id rfl
@[go_sem] theorem zsZ (d:Nat) (o:XO) (a:List Nat) (g:Nat):oF d o a g=⟨some d,o,a,some (g,false)⟩:=_root_.id rfl
@[go_sem] theorem zs1 (o:XO) (a:List Nat):oN o a=⟨none,o,a,none⟩:=_root_.id rfl
def xs_1d3e63:List UInt8:=[0,1,2,2,3,3,3,3,4,4,4,4,4,4,4,4,5,5,5,5,5,5,5,5,5,5,5,5,5,5,5,5,6,6,6,6,6,6,6,6,6,6,6,6,6,6,6,6,6,6,6,6,6,6,6,6,6,6,6,6,6,6,6,6,7,7,7,7,7,7,7,7,7,7,7,7,7,7,7,7,7,7,7,7,7,7,7,7,7,7,7,7,7,7,7,7,7,7,7,7,7,7,7,7,7,7,7,7,7,7,7,7,7,7,7,7,7,7,7,7,7,7,7,7,7,7,7,7,8,8,8,8,8,8,8,8,8,8,8,8,8,8,8,8,8,8,8,8,8,8,8,8,8,8,8,8,8,8,8,8,8,8,8,8,8,8,8,8,8,8,8,8,8,8,8,8,8,8,8,8,8,8,8,8,8,8,8,8,8,8,8,8,8,8,8,8,8,8,8,8,8,8,8,8,8,8,8,8,8,8,8,8,8,8,8,8,8,8,8,8,8,8,8,8,8,8,8,8,8,8,8,8,8,8,8,8,8,8,8,8,8,8,8,8,8,8,8,8,8,8,8,8,8,8,8,8]
def zuI:XC:=.seq (.seq (.reg [oM 96 18 [],oP 97 (.bin .lss (.t 96) (.k (.i .i64 4))) [0]]) (.cond (.t 97) .skip (.exit 0))) (.seq (.block 1 (.seq (.reg [oM 101 17 [],oM 102 18 [],oP 103 (.ixs 1 (.t 101) (.t 102)) [0,1],oP 104 (.load false 1 (.t 103)) [2],oP 105 (.call 339 [.t 104]) [3],oM 100 105 [4],oP 106 (.ext (.t 100) 0) [5],oP 107 (.ext (.t 100) 1) [5],oP 19 (.new [.i .i64 0,.i .i64 0,.i .i64 0,.i .i64 0,.i .i64 0,.i .i64 0,.i .i64 0,.i .i64 0,.i .i64 0]) [],oN (.store 9 (.t 19) (.t 106)) [8,6,4,0,1,2,3,4,5,6,8],oM 20 107 [7,9,0,1,2,3,4,5,6,7,8,9]]) (.seq (.drw [oM 108 20 [],oP 109 (.bin .eql (.t 108) (.k (.i .i64 0))) [0],oM 110 109 [1],oT 111 (.load true 9 (.t 19)) [2] 110,oT 112 (.call 340 [.t 111]) [3,2,2] 110,oT 113 (.b2s (.t 112)) [4,2] 110,oT 114 (.mov (.t 17)) [2] 110,oT 115 (.mov (.t 18)) [2] 110,oT 116 (.ixs 1 (.t 114) (.t 115)) [6,7,2] 110,oT 117 (.load false 1 (.t 116)) [8,2] 110,oT 118 (.b2s (.t 117)) [9,2] 110,oT 119 (.bin .neq (.t 113) (.t 118)) [5,10,2] 110,oP 120 (.pick (.t 110) (.t 119) (.k (.b false))) [2,11],oM 121 120 [12,4],oF 122 (.mov (.t 20)) [13] 121,oF 123 (.bin .neq (.t 122) (.k (.i .i64 0))) [14,13] 121,oF 124 (.mov (.t 123)) [15,13,13] 121,oT 125 (.mov (.t 20)) [16] 124,oT 126 (.bin .neq (.t 125) (.k (.i .i64 2))) [17,16] 124,oT 127 (.mov (.t 126)) [18,16,16] 124,oF 128 (.load true 9 (.t 19)) [19] 127,oF 129 (.build [.i .i64 0,.i .i64 0,.i .i64 0,.i .i64 0,.i .i64 0,.i .i64 0,.i .i64 0,.i .i64 0,.i .i64 0] []) [19] 127,oF 130 (.eqa true [1,1,1,1,1,1,1,1,1] (.t 128) (.t 129)) [20,21,19] 127,oT 131 (.pick (.t 127) (.k (.b true)) (.t 130)) [19,22,16] 124,oF 132 (.pick (.t 124) (.t 131) (.k (.b false))) [16,23,13] 121,oP 133 (.pick (.t 121) (.k (.b true)) (.t 132)) [13,24]] [(9,4),(10,4)]) (.cond (.t 133) (.seq (.reg [oP 10 (.mov (.k (.b false))) []]) .ret) .skip)))) (.reg [oM 98 18 [],oP 99 (.bin .add (.t 98) (.k (.i .i64 1))) [0],oM 18 99 [1,0,1]]))
def ztD:XF:=⟨135,.seq (.reg [oP 10 (.mov (.k (.b false))) []]) (.seq (.reg [oM 21 0 [],oP 22 (.call 301 [.t 21,.k (.i .i64 0)]) [0],oM 23 2 [],oM 24 4 [],oP 25 (.call 330 [.t 22,.t 23,.t 24]) [1,2,3,1],oP 11 (.new [.i .i64 0,.i .i64 0,.i .i64 0,.i .i64 0,.i .i64 0,.i .i64 0,.i .i64 0,.i .i64 0,.i .i64 0]) [],oN (.store 9 (.t 11) (.t 25)) [5,4,4,0,1,2,3,4,5]]) (.seq (.reg [oP 26 (.load true 9 (.t 11)) [],oP 27 (.call 338 [.t 26]) [0],oM 12 27 [1,1,0,1]]) (.seq (.reg [oM 29 12 [],oP 30 (.call 339 [.t 29]) [0],oM 28 30 [1],oP 31 (.ext (.t 28) 0) [2],oP 32 (.ext (.t 28) 1) [2],oP 13 (.new [.i .i64 0,.i .i64 0,.i .i64 0,.i .i64 0,.i .i64 0,.i .i64 0,.i .i64 0,.i .i64 0,.i .i64 0]) [],oN (.store 9 (.t 13) (.t 31)) [5,3,1,0,1,2,3,5],oM 14 32 [4,6,0,1,2,3,4,5,6]]) (.seq (.reg [oM 33 12 [],oP 34 (.call 202 [.t 33]) [0],oM 15 34 [1,1,0,1]]) (.seq (.seq (.drw [oM 35 12 [],oP 36 (.b2s (.t 35)) [0],oP 37 (.load true 9 (.t 11)) [],oP 38 (.call 340 [.t 37]) [2],oP 39 (.b2s (.t 38)) [3],oP 40 (.bin .neq (.t 36) (.t 39)) [1,4],oM 41 40 [5,3],oF 42 (.mov (.t 14)) [6] 41,oF 43 (.bin .neq (.t 42) (.k (.i .i64 0))) [7,6] 41,oP 44 (.pick (.t 41) (.k (.b true)) (.t 43)) [6,8],oM 45 44 [9,6],oF 46 (.load true 9 (.t 13)) [10] 45,oF 47 (.load true 9 (.t 11)) [10] 45,oF 48 (.eqa true [1,1,1,1,1,1,1,1,1] (.t 46) (.t 47)) [11,12,10] 45,oP 49 (.pick (.t 45) (.k (.b true)) (.t 48)) [10,13],oM 50 49 [14,10],oF 51 (.mov (.t 15)) [15] 50,oF 52 (.eqt false 1 (.t 51) (.k .pn)) [16,15] 50,oP 53 (.pick (.t 50) (.k (.b true)) (.t 52)) [15,17],oM 54 53 [18,15],oF 55 (.mov (.t 15)) [19] 54,oF 56 (.call 249 [.t 55]) [20,19,19] 54,oF 57 (.fad 0 (.t 11)) [19] 54,oF 58 (.ixa 9 1 (.t 57) (.k (.i .i64 0))) [22,19] 54,oF 59 (.load false 1 (.t 58)) [23,19] 54,oF 60 (.bin .neq (.t 56) (.t 59)) [21,24,19] 54,oP 61 (.pick (.t 54) (.k (.b true)) (.t 60)) [19,25]] [(1,3),(24,21)]) (.cond (.t 61) (.seq (.reg [oP 10 (.mov (.k (.b false))) []]) .ret) .skip)) (.seq (.reg [oP 62 (.bsl 0 1 [.i .u8 0] []) [],oM 63 12 [],oP 64 (.app 1 1 (.t 62) (.t 63)) [0,1],oM 16 64 [2,2,0,1,2]]) (.seq (.reg [oM 65 16 [],oM 66 2 [],oM 67 16 [],oP 68 (.len (.t 67)) [2],oP 69 (.bin .rem (.t 66) (.t 68)) [1,3],oM 70 16 [],oP 71 (.len (.t 70)) [5],oP 72 (.bin .add (.t 69) (.t 71)) [4,6],oM 73 16 [],oP 74 (.len (.t 73)) [8],oP 75 (.bin .rem (.t 72) (.t 74)) [7,9],oM 76 3 [],oP 77 (.ixs 1 (.t 65) (.t 75)) [0,10,0,1,2,3,4,5,6,7,8,9,10,11],oN (.store 1 (.t 77) (.t 76)) [12,11,0,1,2,3,4,5,6,7,8,9,10,11]]) (.seq (.drw [oM 78 1 [],oM 79 1 [],oP 80 (.len (.t 79)) [1],oP 81 (.mm false (.t 80) [.k (.i .i64 60)]) [2],oP 82 (.slsl 1 (.t 78) none (some (.t 81)) none) [0,3],oM 83 16 [],oP 84 (.bsl 0 1 [.i .u8 0] []) [],oM 85 12 [],oP 86 (.app 1 1 (.t 84) (.t 85)) [6,7],oM 87 3 [],oP 88 (.bsl 1 1 [.i .u8 0] [(0,(1,.t 87))]) [9],oP 89 (.app 1 1 (.t 86) (.t 88)) [8,10,8],oM 90 12 [],oM 91 12 [],oP 92 (.len (.t 91)) [13],oP 93 (.bin .sub (.t 92) (.k (.i .i64 1))) [14],oP 94 (.slsl 1 (.t 90) none (some (.t 93)) none) [12,15],oP 95 (.bsl 4 1 [.sn] [(0,(1,.t 82)),(1,(1,.t 83)),(2,(1,.t 89)),(3,(1,.t 94))]) [4,5,11,16],oM 17 95 [17,11,0,1,2,3,4,5,6,7,8,9,10,11,12,13,14,15,16,17]] []) (.seq (.seq (.reg [oP 18 (.mov (.k (.i .i64 0))) []]) (.block 0 (.loop zuI))) (.seq (.reg [oP 134 (.call 303 []) [],oM 10 134 [0,0,0]]) .ret)))))))))),[.tmp 10]⟩
def zs9:XF:=⟨15,.seq (.reg [oP 3 (.box (.t 0)) [],oP 6 (.new [.i .i64 0,.i .i64 0,.i .i64 0,.i .i64 0,.i .i64 0,.i .i64 0,.i .i64 0,.i .i64 0,.i .i64 0]) []]) (.seq (.reg [oM 7 1 [],oP 8 (.bin .rem (.t 7) (.k (.i .i64 9))) [0],oP 9 (.bin .add (.t 8) (.k (.i .i64 9))) [1],oP 10 (.bin .rem (.t 9) (.k (.i .i64 9))) [2],oM 11 2 [],oP 12 (.fad 0 (.t 3)) [],oP 13 (.ixa 9 1 (.t 12) (.t 10)) [5,3,0,1,2,3,4],oN (.store 1 (.t 13) (.t 11)) [6,4,0,1,2,3,4]]) (.seq (.reg [oP 14 (.load true 9 (.t 3)) [],oN (.store 9 (.t 6) (.t 14)) [0,0]]) .ret)),[.cell 6 true 9]⟩
def zuW:XC:=.seq (.seq (.reg [oM 10 6 [],oP 11 (.bin .lss (.t 10) (.k (.i .i64 9))) [0]]) (.cond (.t 11) .skip (.exit 0))) (.seq (.block 1 (.seq (.reg [oM 14 0 [],oM 15 1 [],oM 16 6 [],oP 17 (.bin .add (.t 15) (.t 16)) [1,2],oP 18 (.call 180 [.t 14,.t 17]) [0,3],oM 7 18 [4,4,0,1,2,3,4]]) (.seq (.reg [oM 19 7 [],oP 20 (.bin .rem (.t 19) (.k (.i .i64 6))) [0]]) (.block 2 (.seq (.seq (.reg [oP 22 (.bin .eql (.t 20) (.k (.i .i64 1))) [],oM 21 22 [0]]) (.cond (.t 21) .skip (.reg [oP 23 (.bin .eql (.t 20) (.k (.i .i64 (-1)))) [],oM 21 23 [0]]))) (.cond (.t 21) (.reg [oM 24 6 [],oM 25 7 [],oP 26 (.bin .quo (.t 25) (.k (.i .i64 6))) [1],oP 27 (.bin .rem (.t 26) (.k (.i .i64 8))) [2],oP 28 (.fad 0 (.t 5)) [],oP 29 (.ixa 9 1 (.t 28) (.t 24)) [4,0,0,1,2,3],oN (.store 1 (.t 29) (.t 27)) [5,3,0,1,2,3]]) (.seq (.reg [oP 31 (.bin .eql (.t 20) (.k (.i .i64 2))) [],oM 30 31 [0]]) (.cond (.t 30) (.reg [oM 32 6 [],oM 33 7 [],oP 34 (.bin .quo (.t 33) (.k (.i .i64 6))) [1],oP 35 (.bin .rem (.t 34) (.k (.i .i64 1000))) [2],oP 36 (.fad 0 (.t 5)) [],oP 37 (.ixa 9 1 (.t 36) (.t 32)) [4,0,0,1,2,3],oN (.store 1 (.t 37) (.t 35)) [5,3,0,1,2,3]]) (.seq (.reg [oP 39 (.bin .eql (.t 20) (.k (.i .i64 3))) [],oM 38 39 [0]]) (.cond (.t 38) (.reg [oM 40 6 [],oM 41 7 [],oP 42 (.bin .quo (.t 41) (.k (.i .i64 6))) [1],oP 43 (.bin .rem (.t 42) (.k (.i .i64 4))) [2],oP 44 (.bin .sub (.k (.i .i64 1073741824)) (.t 43)) [3],oP 45 (.fad 0 (.t 5)) [],oP 46 (.ixa 9 1 (.t 45) (.t 40)) [5,0,0,1,2,3,4],oN (.store 1 (.t 46) (.t 44)) [6,4,0,1,2,3,4]]) .skip)))))))))) (.reg [oM 12 6 [],oP 13 (.bin .add (.t 12) (.k (.i .i64 1))) [0],oM 6 13 [1,0,1]]))
def zuA:XF:=⟨48,.seq (.reg [oP 4 (.new [.i .i64 0,.i .i64 0,.i .i64 0,.i .i64 0,.i .i64 0,.i .i64 0,.i .i64 0,.i .i64 0,.i .i64 0]) []]) (.seq (.reg [oP 8 (.build [.i .i64 0,.i .i64 0,.i .i64 0,.i .i64 0,.i .i64 0,.i .i64 0,.i .i64 0,.i .i64 0,.i .i64 0] [(0,(1,.k (.i .i64 2))),(1,(1,.k (.i .i64 0))),(2,(1,.k (.i .i64 0))),(3,(1,.k (.i .i64 0))),(4,(1,.k (.i .i64 2))),(5,(1,.k (.i .i64 0))),(6,(1,.k (.i .i64 0))),(7,(1,.k (.i .i64 0))),(8,(1,.k (.i .i64 1)))]) [],oP 9 (.build [.i .i64 0,.i .i64 0,.i .i64 0,.i .i64 0,.i .i64 0,.i .i64 0,.i .i64 0,.i .i64 0,.i .i64 0] [(0,(9,.t 8))]) [0],oP 5 (.new [.i .i64 0,.i .i64 0,.i .i64 0,.i .i64 0,.i .i64 0,.i .i64 0,.i .i64 0,.i .i64 0,.i .i64 0]) [],oN (.store 9 (.t 5) (.t 9)) [2,1,0,1,2]]) (.seq (.seq (.reg [oP 6 (.mov (.k (.i .i64 0))) []]) (.block 0 (.loop zuW))) (.seq (.reg [oP 47 (.load true 9 (.t 5)) [],oN (.store 9 (.t 4) (.t 47)) [0,0]]) .ret))),[.cell 4 true 9]⟩
def zuP:XC:=.seq (.reg [oP 9 (.bin .lss (.t 8) (.k (.i .i64 9))) []]) (.seq (.cond (.t 9) .skip (.exit 0)) (.seq (.block 1 (.seq (.reg [oP 10 (.iag 9 false 1 (.t 7) (.t 8)) [],oM 5 10 [0,0]]) (.reg [oM 11 5 [],oP 12 (.call 267 [.t 3,.t 11]) [0]]))) (.reg [oP 13 (.bin .add (.t 8) (.k (.i .i64 1))) [],oM 8 13 [0]])))
def ztV:XF:=⟨15,.seq (.reg [oP 1 (.box (.t 0)) [],oP 2 (.mov (.k .sn)) []]) (.seq (.reg [oP 3 (.new [.sn]) []]) (.seq (.seq (.reg [oP 6 (.fad 0 (.t 1)) [],oP 7 (.load true 9 (.t 6)) [0],oP 8 (.mov (.k (.i .i64 0))) []]) (.block 0 (.loop zuP))) (.seq (.reg [oP 14 (.call 203 [.t 3]) [],oM 2 14 [0,0,0]]) .ret))),[.tmp 2]⟩
def zuT:XC:=.seq (.reg [oP 10 (.bin .lss (.t 9) (.k (.i .i64 9))) []]) (.seq (.cond (.t 10) .skip (.exit 0)) (.seq (.block 1 (.seq (.reg [oM 11 9 [],oM 6 11 [0,0]]) (.reg [oM 12 6 [],oM 13 4 [],oP 14 (.call 249 [.t 13]) [1],oP 15 (.fad 0 (.t 5)) [],oP 16 (.ixa 9 1 (.t 15) (.t 12)) [3,0,0,1,2],oN (.store 1 (.t 16) (.t 14)) [4,2,2,0,1,2]]))) (.reg [oP 17 (.bin .add (.t 9) (.k (.i .i64 1))) [],oM 9 17 [0]])))
def ztQ:XF:=⟨31,.seq (.reg [oP 2 (.new [.i .i64 0,.i .i64 0,.i .i64 0,.i .i64 0,.i .i64 0,.i .i64 0,.i .i64 0,.i .i64 0,.i .i64 0]) [],oP 3 (.mov (.k (.i .i64 0))) []]) (.seq (.reg [oM 7 0 [],oP 8 (.call 202 [.t 7]) [0],oM 4 8 [1,1,0,1]]) (.seq (.reg [oP 5 (.new [.i .i64 0,.i .i64 0,.i .i64 0,.i .i64 0,.i .i64 0,.i .i64 0,.i .i64 0,.i .i64 0,.i .i64 0]) []]) (.seq (.seq (.reg [oP 9 (.mov (.k (.i .i64 0))) []]) (.block 0 (.loop zuT))) (.seq (.seq (.drw [oM 18 4 [],oP 19 (.call 205 [.t 18]) [0],oP 20 (.bin .neq (.t 19) (.k (.i .i64 0))) [1],oM 21 20 [2,1],oF 22 (.load true 9 (.t 5)) [3] 21,oF 23 (.call 338 [.t 22]) [4,3,3] 21,oF 24 (.b2s (.t 23)) [5,3] 21,oF 25 (.mov (.t 0)) [3] 21,oF 26 (.b2s (.t 25)) [7,3] 21,oF 27 (.bin .neq (.t 24) (.t 26)) [6,8,3] 21,oP 28 (.pick (.t 21) (.k (.b true)) (.t 27)) [3,9]] [(8,5)]) (.cond (.t 28) (.seq (.reg [oP 29 (.build [.i .i64 0,.i .i64 0,.i .i64 0,.i .i64 0,.i .i64 0,.i .i64 0,.i .i64 0,.i .i64 0,.i .i64 0] []) [],oN (.store 9 (.t 2) (.t 29)) [0,0],oP 3 (.mov (.k (.i .i64 2))) [1,0,1]]) .ret) .skip)) (.seq (.reg [oP 30 (.load true 9 (.t 5)) [],oN (.store 9 (.t 2) (.t 30)) [0,0],oP 3 (.mov (.k (.i .i64 0))) [1,0,1]]) .ret))))),[.cell 2 true 9,.tmp 3]⟩
def zue:XF:=⟨7,.seq (.reg [oP 2 (.mov (.k .pn)) []]) (.seq (.reg [oM 3 0 [],oP 4 (.call 211 [.t 3]) [0],oP 5 (.build [.sn,.i .i64 0] [(0,(1,.t 4))]) [1],oP 6 (.box (.t 5)) [2],oM 2 6 [3,1,0,1,2,3]]) .ret),[.tmp 2]⟩
def zuU:XC:=.seq (.seq (.reg [oM 5 4 [],oP 6 (.bin .lss (.t 5) (.k (.i .i64 9))) [0]]) (.cond (.t 6) .skip (.exit 0))) (.seq (.block 1 (.reg [oM 9 3 [],oM 10 4 [],oP 11 (.fad 0 (.t 1)) [],oP 12 (.ixa 9 1 (.t 11) (.t 10)) [2,1],oP 13 (.load false 1 (.t 12)) [3],oP 14 (.call 271 [.t 13]) [4],oP 15 (.app 1 1 (.t 9) (.t 14)) [0,5,5],oM 3 15 [6,6,0,1,2,3,4,5,6]])) (.reg [oM 7 4 [],oP 8 (.bin .add (.t 7) (.k (.i .i64 1))) [0],oM 4 8 [1,0,1]]))
def zt2:XF:=⟨17,.seq (.reg [oP 1 (.box (.t 0)) [],oP 2 (.mov (.k .sn)) []]) (.seq (.reg [oP 3 (.mov (.k .sn)) []]) (.seq (.seq (.reg [oP 4 (.mov (.k (.i .i64 0))) []]) (.block 0 (.loop zuU))) (.seq (.reg [oM 16 3 [],oM 2 16 [0,0]]) .ret))),[.tmp 2]⟩
def x___skymosaic_wire_Reader__Int:XF:=⟨6,.seq (.reg [oP 2 (.mov (.k (.i .i64 0))) []]) (.seq (.reg [oM 3 0 [],oP 4 (.call 223 [.t 3]) [0],oP 5 (.call 273 [.t 4]) [1,1],oM 2 5 [2,2,0,1,2]]) .ret),[.tmp 2]⟩
def zui:XF:=⟨103,.seq (.reg [oP 0 (.mov (.k (.b false))) []]) (.seq (.reg [oP 16 (.build [.i .i64 0,.i .i64 0,.i .i64 0,.i .i64 0,.i .i64 0,.i .i64 0,.i .i64 0,.i .i64 0,.i .i64 0] [(0,(1,.k (.i .i64 2))),(1,(1,.k (.i .i64 0))),(2,(1,.k (.i .i64 3))),(3,(1,.k (.i .i64 0))),(4,(1,.k (.i .i64 2))),(5,(1,.k (.i .i64 5))),(6,(1,.k (.i .i64 0))),(7,(1,.k (.i .i64 0))),(8,(1,.k (.i .i64 1)))]) [],oP 17 (.build [.i .i64 0,.i .i64 0,.i .i64 0,.i .i64 0,.i .i64 0,.i .i64 0,.i .i64 0,.i .i64 0,.i .i64 0] [(0,(9,.t 16))]) [0],oP 1 (.new [.i .i64 0,.i .i64 0,.i .i64 0,.i .i64 0,.i .i64 0,.i .i64 0,.i .i64 0,.i .i64 0,.i .i64 0]) [],oN (.store 9 (.t 1) (.t 17)) [2,1,0,1,2]]) (.seq (.reg [oP 19 (.call 17 [.k (.i .i64 1),.k (.i .i64 2)]) [],oM 18 19 [0],oP 20 (.ext (.t 18) 0) [1],oP 21 (.ext (.t 18) 1) [1],oP 2 (.new [.b false,.sn,.b false,.sn]) [],oN (.store 4 (.t 2) (.t 20)) [4,2,0,0,1,2,4],oM 3 21 [3,5,0,1,2,3,4,5]]) (.seq (.drw [oP 23 (.load true 9 (.t 1)) [],oP 24 (.load true 4 (.t 2)) [],oP 25 (.call 304 [.k (.i .i64 1)]) [],oP 26 (.call 305 [.t 23,.t 24,.t 25]) [0,1,2,2],oM 22 26 [3],oP 27 (.ext (.t 22) 0) [4],oP 28 (.ext (.t 22) 1) [4],oP 29 (.ext (.t 22) 2) [4],oP 4 (.new [.b false,.sn,.b false,.sn]) [],oP 5 (.new [.b false,.sn,.b false,.sn]) [],oN (.store 4 (.t 4) (.t 27)) [8,5,3,0,1,2,3,4,5,8,9],oN (.store 4 (.t 5) (.t 28)) [9,6,10,0,1,2,3,4,5,6,8,9,10],oM 6 29 [7,11,0,1,2,3,4,5,6,7,8,9,10,11]] [(0,2),(1,2)]) (.seq (.reg [oP 31 (.load true 9 (.t 1)) [],oP 32 (.call 308 [.t 31]) [0],oM 30 32 [1],oP 33 (.ext (.t 30) 0) [2],oP 34 (.ext (.t 30) 1) [2],oP 7 (.new [.i .i64 0,.i .i64 0,.i .i64 0,.i .i64 0,.i .i64 0,.i .i64 0,.i .i64 0,.i .i64 0,.i .i64 0]) [],oN (.store 9 (.t 7) (.t 33)) [5,3,1,0,1,2,3,5],oM 8 34 [4,6,0,1,2,3,4,5,6]]) (.seq (.reg [oP 35 (.build [.i .i64 0,.i .i64 0] []) [],oP 36 (.build [.i .i64 0,.i .i64 0] [(0,(1,.k (.i .i64 1)))]) [],oP 37 (.build [.i .i64 0,.i .i64 0] [(0,(1,.k (.i .i64 1))),(1,(1,.k (.i .i64 1)))]) [],oP 38 (.build [.i .i64 0,.i .i64 0] [(1,(1,.k (.i .i64 1)))]) [],oP 39 (.build [.i .i64 0,.i .i64 0,.i .i64 0,.i .i64 0,.i .i64 0,.i .i64 0,.i .i64 0,.i .i64 0] [(0,(2,.t 35)),(2,(2,.t 36)),(4,(2,.t 37)),(6,(2,.t 38))]) [0,1,2,3],oP 9 (.new [.i .i64 0,.i .i64 0,.i .i64 0,.i .i64 0,.i .i64 0,.i .i64 0,.i .i64 0,.i .i64 0]) [],oN (.store 8 (.t 9) (.t 39)) [5,4,0,1,2,3,4,5]]) (.seq (.reg [oP 40 (.build [.i .i64 0,.i .i64 0] []) [],oP 41 (.build [.i .i64 0,.i .i64 0] [(0,(1,.k (.i .i64 2)))]) [],oP 42 (.build [.i .i64 0,.i .i64 0] [(0,(1,.k (.i .i64 3))),(1,(1,.k (.i .i64 3)))]) [],oP 43 (.build [.i .i64 0,.i .i64 0] [(1,(1,.k (.i .i64 2)))]) [],oP 44 (.build [.i .i64 0,.i .i64 0,.i .i64 0,.i .i64 0,.i .i64 0,.i .i64 0,.i .i64 0,.i .i64 0] [(0,(2,.t 40)),(2,(2,.t 41)),(4,(2,.t 42)),(6,(2,.t 43))]) [0,1,2,3],oP 10 (.new [.i .i64 0,.i .i64 0,.i .i64 0,.i .i64 0,.i .i64 0,.i .i64 0,.i .i64 0,.i .i64 0]) [],oN (.store 8 (.t 10) (.t 44)) [5,4,0,1,2,3,4,5]]) (.seq (.reg [oP 46 (.load true 8 (.t 9)) [],oP 47 (.load true 8 (.t 10)) [],oP 48 (.call 309 [.t 46,.t 47]) [0,1],oM 45 48 [2],oP 49 (.ext (.t 45) 0) [3],oP 50 (.ext (.t 45) 1) [3],oP 11 (.new [.i .i64 0,.i .i64 0,.i .i64 0,.i .i64 0,.i .i64 0,.i .i64 0,.i .i64 0,.i .i64 0,.i .i64 0]) [],oN (.store 9 (.t 11) (.t 49)) [6,4,2,0,1,2,3,4,6],oM 12 50 [5,7,0,1,2,3,4,5,6,7]]) (.seq (.reg [oP 52 (.load true 9 (.t 11)) [],oP 53 (.load true 4 (.t 2)) [],oP 54 (.load true 4 (.t 2)) [],oP 55 (.call 305 [.t 52,.t 53,.t 54]) [0,1,2],oM 51 55 [3],oP 56 (.ext (.t 51) 0) [4],oP 57 (.ext (.t 51) 1) [4],oP 58 (.ext (.t 51) 2) [4],oP 13 (.new [.b false,.sn,.b false,.sn]) [],oP 14 (.new [.b false,.sn,.b false,.sn]) [],oN (.store 4 (.t 13) (.t 56)) [8,5,3,0,1,2,3,4,5,8,9],oN (.store 4 (.t 14) (.t 57)) [9,6,10,0,1,2,3,4,5,6,8,9,10],oM 15 58 [7,11,0,1,2,3,4,5,6,7,8,9,10,11]]) (.seq (.seq (.reg [oM 59 6 [],oP 60 (.bin .neq (.t 59) (.k (.i .i64 0))) [0],oM 61 60 [1],oF 62 (.mov (.t 8)) [2] 61,oF 63 (.bin .neq (.t 62) (.k (.i .i64 0))) [3,2] 61,oP 64 (.pick (.t 61) (.k (.b true)) (.t 63)) [2,4],oM 65 64 [5,2],oF 66 (.mov (.t 12)) [6] 65,oF 67 (.bin .neq (.t 66) (.k (.i .i64 0))) [7,6] 65,oP 68 (.pick (.t 65) (.k (.b true)) (.t 67)) [6,8],oM 69 68 [9,6],oF 70 (.mov (.t 15)) [10] 69,oF 71 (.bin .neq (.t 70) (.k (.i .i64 0))) [11,10] 69,oP 72 (.pick (.t 69) (.k (.b true)) (.t 71)) [10,12],oM 73 72 [13,10],oF 74 (.load true 4 (.t 4)) [14] 73,oF 75 (.call 16 [.t 74]) [15,14,14] 73,oF 76 (.bin .neq (.t 75) (.k (.s [52]))) [16,14] 73,oP 77 (.pick (.t 73) (.k (.b true)) (.t 76)) [14,17],oM 78 77 [18,16],oF 79 (.load true 4 (.t 5)) [19] 78,oF 80 (.call 16 [.t 79]) [20,19,19] 78,oF 81 (.bin .neq (.t 80) (.k (.s [55]))) [21,19] 78,oP 82 (.pick (.t 78) (.k (.b true)) (.t 81)) [19,22],oM 83 82 [23,21],oF 84 (.load true 4 (.t 13)) [24] 83,oF 85 (.call 16 [.t 84]) [25,24,24] 83,oF 86 (.bin .neq (.t 85) (.k (.s [49]))) [26,24] 83,oP 87 (.pick (.t 83) (.k (.b true)) (.t 86)) [24,27],oM 88 87 [28,26],oF 89 (.load true 4 (.t 14)) [29] 88,oF 90 (.call 16 [.t 89]) [30,29,29] 88,oF 91 (.bin .neq (.t 90) (.k (.s [49]))) [31,29] 88,oP 92 (.pick (.t 88) (.k (.b true)) (.t 91)) [29,32]]) (.cond (.t 92) (.seq (.reg [oP 0 (.mov (.k (.b false))) []]) .ret) .skip)) (.seq (.reg [oP 93 (.fad 0 (.t 7)) [],oP 94 (.load true 9 (.t 93)) [0],oP 95 (.build [.i .i64 0,.i .i64 0,.i .i64 0,.i .i64 0,.i .i64 0,.i .i64 0,.i .i64 0,.i .i64 0,.i .i64 0] [(0,(1,.k (.i .i64 1))),(1,(1,.k (.i .i64 0))),(2,(1,.k (.i .i64 (-3)))),(3,(1,.k (.i .i64 0))),(4,(1,.k (.i .i64 1))),(5,(1,.k (.i .i64 (-5)))),(6,(1,.k (.i .i64 0))),(7,(1,.k (.i .i64 0))),(8,(1,.k (.i .i64 2)))]) [],oP 96 (.eqa false [1,1,1,1,1,1,1,1,1] (.t 94) (.t 95)) [1,2],oM 97 96 [3],oT 98 (.fad 0 (.t 11)) [4] 97,oT 99 (.load true 9 (.t 98)) [5,4] 97,oT 100 (.build [.i .i64 0,.i .i64 0,.i .i64 0,.i .i64 0,.i .i64 0,.i .i64 0,.i .i64 0,.i .i64 0,.i .i64 0] [(0,(1,.k (.i .i64 6))),(1,(1,.k (.i .i64 0))),(2,(1,.k (.i .i64 0))),(3,(1,.k (.i .i64 0))),(4,(1,.k (.i .i64 6))),(5,(1,.k (.i .i64 0))),(6,(1,.k (.i .i64 (-1)))),(7,(1,.k (.i .i64 (-1)))),(8,(1,.k (.i .i64 4)))]) [4] 97,oT 101 (.eqa false [1,1,1,1,1,1,1,1,1] (.t 99) (.t 100)) [6,7,4] 97,oP 102 (.pick (.t 97) (.t 101) (.k (.b false))) [4,8],oM 0 102 [9,4,0,1,2,3,4,5,6,7,8,9]]) .ret)))))))))),[.tmp 0]⟩
def ztZ:XF:=⟨64,.seq (.reg [oP 3 (.box (.t 0)) [],oP 4 (.box (.t 1)) [],oP 5 (.box (.t 2)) [],oP 6 (.new [.b false,.sn,.b false,.sn]) [],oP 7 (.new [.b false,.sn,.b false,.sn]) [],oP 8 (.mov (.k (.i .i64 0))) []]) (.seq (.seq (.reg [oP 15 (.load true 9 (.t 3)) [],oP 16 (.call 302 [.t 15]) [0],oM 9 16 [1,1,0,1]]) (.seq (.reg [oM 17 9 [],oP 18 (.bin .neq (.t 17) (.k (.i .i64 0))) [0]]) (.cond (.t 18) (.seq (.reg [oP 19 (.build [.b false,.sn,.b false,.sn] []) [],oP 20 (.build [.b false,.sn,.b false,.sn] []) [],oM 21 9 [],oN (.store 4 (.t 6) (.t 19)) [0,0],oN (.store 4 (.t 7) (.t 20)) [1,3,0,1,3],oM 8 21 [2,4,0,1,2,3,4]]) .ret) .skip))) (.seq (.seq (.reg [oP 22 (.load true 4 (.t 4)) [],oP 23 (.call 44 [.t 22]) [0],oP 24 (.bin .gtr (.t 23) (.k (.i .i64 1000))) [1],oM 25 24 [2,1],oF 26 (.load true 4 (.t 5)) [3] 25,oF 27 (.call 44 [.t 26]) [4,3,3] 25,oF 28 (.bin .gtr (.t 27) (.k (.i .i64 1000))) [5,3] 25,oP 29 (.pick (.t 25) (.k (.b true)) (.t 28)) [3,6]]) (.cond (.t 29) (.seq (.reg [oP 30 (.build [.b false,.sn,.b false,.sn] []) [],oP 31 (.build [.b false,.sn,.b false,.sn] []) [],oN (.store 4 (.t 6) (.t 30)) [0,0],oN (.store 4 (.t 7) (.t 31)) [1,2,0,1,2],oP 8 (.mov (.k (.i .i64 4))) [3,0,1,2,3]]) .ret) .skip)) (.seq (.drw [oP 32 (.fad 0 (.t 3)) [],oP 33 (.slarr 9 1 (.t 32) (some (.k (.i .i64 6))) none) [0],oP 34 (.load true 4 (.t 4)) [],oP 35 (.load true 4 (.t 5)) [],oP 36 (.call 310 [.t 33,.t 34,.t 35]) [1,2,3],oP 10 (.new [.b false,.sn,.b false,.sn]) [],oN (.store 4 (.t 10) (.t 36)) [5,4,4,0,1,2,3,4,5]] []) (.seq (.seq (.reg [oP 37 (.load true 4 (.t 10)) [],oP 38 (.call 67 [.t 37]) [0],oP 39 (.bin .eql (.t 38) (.k (.i .i64 0))) [1]]) (.cond (.t 39) (.seq (.reg [oP 40 (.build [.b false,.sn,.b false,.sn] []) [],oP 41 (.build [.b false,.sn,.b false,.sn] []) [],oN (.store 4 (.t 6) (.t 40)) [0,0],oN (.store 4 (.t 7) (.t 41)) [1,2,0,1,2],oP 8 (.mov (.k (.i .i64 9))) [3,0,1,2,3]]) .ret) .skip)) (.seq (.drw [oP 43 (.fad 0 (.t 3)) [],oP 44 (.slarr 9 1 (.t 43) none (some (.k (.i .i64 3)))) [0],oP 45 (.load true 4 (.t 4)) [],oP 46 (.load true 4 (.t 5)) [],oP 47 (.call 310 [.t 44,.t 45,.t 46]) [1,2,3],oP 48 (.load true 4 (.t 10)) [],oP 49 (.call 65 [.t 47,.t 48]) [4,5,4],oM 42 49 [6],oP 50 (.ext (.t 42) 0) [7],oP 51 (.ext (.t 42) 1) [7],oP 11 (.new [.b false,.sn,.b false,.sn]) [],oN (.store 4 (.t 11) (.t 50)) [10,8,6,0,1,2,3,4,5,6,7,8,10],oM 12 51 [9,11,0,1,2,3,4,5,6,7,8,9,10,11]] [(5,4)]) (.seq (.drw [oP 53 (.fad 0 (.t 3)) [],oP 54 (.slarr 9 1 (.t 53) (some (.k (.i .i64 3))) (some (.k (.i .i64 6)))) [0],oP 55 (.load true 4 (.t 4)) [],oP 56 (.load true 4 (.t 5)) [],oP 57 (.call 310 [.t 54,.t 55,.t 56]) [1,2,3],oP 58 (.load true 4 (.t 10)) [],oP 59 (.call 65 [.t 57,.t 58]) [4,5,4],oM 52 59 [6],oP 60 (.ext (.t 52) 0) [7],oP 61 (.ext (.t 52) 1) [7],oP 13 (.new [.b false,.sn,.b false,.sn]) [],oN (.store 4 (.t 13) (.t 60)) [10,8,6,0,1,2,3,4,5,6,7,8,10],oM 14 61 [9,11,0,1,2,3,4,5,6,7,8,9,10,11]] [(5,4)]) (.seq (.drw [oP 62 (.load true 4 (.t 11)) [],oP 63 (.load true 4 (.t 13)) [],oN (.store 4 (.t 6) (.t 62)) [0,0],oN (.store 4 (.t 7) (.t 63)) [1,2,0,1,2],oP 8 (.mov (.k (.i .i64 0))) [3,0,1,2,3]] [(1,2)]) .ret))))))),[.cell 6 true 4,.cell 7 true 4,.tmp 8]⟩
def zto:XF:=⟨17,.seq (.reg [oP 4 (.mov (.k (.i .i64 0))) []]) (.seq (.seq (.reg [oM 5 1 [],oP 6 (.bin .lss (.t 5) (.k (.i .i64 0))) [0],oM 7 6 [1],oF 8 (.mov (.t 1)) [2] 7,oF 9 (.mov (.t 0)) [2] 7,oF 10 (.len (.t 9)) [4,2] 7,oF 11 (.bin .geq (.t 8) (.t 10)) [3,5,2] 7,oP 12 (.pick (.t 7) (.k (.b true)) (.t 11)) [2,6]]) (.cond (.t 12) (.seq (.reg [oP 4 (.mov (.k (.i .i64 0))) []]) .ret) .skip)) (.seq (.reg [oM 13 0 [],oM 14 1 [],oP 15 (.ixs 1 (.t 13) (.t 14)) [0,1],oP 16 (.load false 1 (.t 15)) [2],oM 4 16 [3,0,1,2,3]]) .ret)),[.tmp 4]⟩
def x___skymosaic_wire_Writer__Int:XF:=⟨8,.reg [oM 4 0 [],oM 5 1 [],oP 6 (.call 283 [.t 5]) [1],oP 7 (.call 210 [.t 4,.t 6]) [0,2,2]],[]⟩
def x___skymosaic_wire_Writer__Done:XF:=⟨8,.seq (.reg [oP 2 (.mov (.k .sn)) []]) (.seq (.reg [oM 3 0 [],oP 4 (.nilck (.t 3)) [0],oP 5 (.fad 0 (.t 4)) [1],oP 6 (.load false 1 (.t 5)) [2],oP 7 (.call 211 [.t 6]) [3],oM 2 7 [4,4,0,1,2,3,4]]) .ret),[.tmp 2]⟩
def x___skymosaic_wire_Reader__End:XF:=⟨20,.seq (.reg [oP 2 (.mov (.k (.i .i64 0))) []]) (.seq (.seq (.reg [oM 3 0 [],oP 4 (.nilck (.t 3)) [0],oP 5 (.fad 1 (.t 4)) [1],oP 6 (.load false 1 (.t 5)) [2],oP 7 (.bin .eql (.t 6) (.k (.i .i64 0))) [3],oM 8 7 [4],oT 9 (.mov (.t 0)) [5] 8,oT 10 (.nilck (.t 9)) [6,5] 8,oT 11 (.fad 0 (.t 10)) [7,5] 8,oT 12 (.load false 1 (.t 11)) [8,5] 8,oT 13 (.len (.t 12)) [9,5] 8,oT 14 (.bin .gtr (.t 13) (.k (.i .i64 0))) [10,5] 8,oP 15 (.pick (.t 8) (.t 14) (.k (.b false))) [5,11]]) (.cond (.t 15) (.seq (.reg [oP 2 (.mov (.k (.i .i64 2))) []]) .ret) .skip)) (.seq (.reg [oM 16 0 [],oP 17 (.nilck (.t 16)) [0],oP 18 (.fad 1 (.t 17)) [1],oP 19 (.load false 1 (.t 18)) [2],oM 2 19 [3,0,1,2,3]]) .ret)),[.tmp 2]⟩
def ztc:XF:=⟨8,.seq (.reg [oP 2 (.mov (.k .sn)) []]) (.seq (.seq (.reg [oM 3 0 [],oP 4 (.eqt false 3 (.t 3) (.k .sn)) [0]]) (.cond (.t 4) (.seq (.reg [oP 2 (.mov (.k .sn)) []]) .ret) .skip)) (.seq (.reg [oP 5 (.bsl 0 1 [.i .u8 0] []) [],oM 6 0 [],oP 7 (.app 1 1 (.t 5) (.t 6)) [0,1],oM 2 7 [2,2,0,1,2]]) .ret)),[.tmp 2]⟩
def zuJ:XF:=⟨6,.seq (.reg [oP 2 (.mov (.k .sn)) []]) (.seq (.reg [oM 3 0 [],oP 4 (.call 286 [.t 3]) [0],oP 5 (.call 285 [.t 4]) [1,1],oM 2 5 [2,2,0,1,2]]) .ret),[.tmp 2]⟩
def ztE:XF:=⟨11,.seq (.reg [oP 2 (.mov (.k (.i .i64 0))) []]) (.seq (.reg [oM 3 0 [],oP 4 (.bin .shr (.t 3) (.k (.i .u64 1))) [0],oP 5 (.cint .i64 (.t 4)) [1],oM 6 0 [],oP 7 (.bin .and (.t 6) (.k (.i .u64 1))) [3],oP 8 (.cint .i64 (.t 7)) [4],oP 9 (.un .neg (.t 8)) [5],oP 10 (.bin .xor (.t 5) (.t 9)) [2,6],oM 2 10 [7,0,1,2,3,4,5,6,7]]) .ret),[.tmp 2]⟩
def x___skymosaic_wire_Reader__Uint_l1:XC:=.seq (.seq (.reg [oM 6 0 [],oP 7 (.nilck (.t 6)) [0],oP 8 (.fad 1 (.t 7)) [1],oP 9 (.load false 1 (.t 8)) [2],oP 10 (.bin .eql (.t 9) (.k (.i .i64 0))) [3]]) (.cond (.t 10) .skip (.exit 0))) (.seq (.block 1 (.seq (.reg [oM 13 0 [],oP 14 (.call 218 [.t 13]) [0],oM 5 14 [1,1,0,1]]) (.seq (.seq (.reg [oM 15 4 [],oP 16 (.bin .eql (.t 15) (.k (.i .i64 9))) [0],oM 17 16 [1],oT 18 (.mov (.t 5)) [2] 17,oT 19 (.bin .gtr (.t 18) (.k (.i .u8 1))) [3,2] 17,oP 20 (.pick (.t 17) (.t 19) (.k (.b false))) [2,4],oM 21 20 [5,2],oF 22 (.mov (.t 4)) [6] 21,oF 23 (.bin .gtr (.t 22) (.k (.i .i64 0))) [7,6] 21,oF 24 (.mov (.t 23)) [8,6,6] 21,oT 25 (.mov (.t 5)) [9] 24,oT 26 (.bin .eql (.t 25) (.k (.i .u8 0))) [10,9] 24,oF 27 (.pick (.t 24) (.t 26) (.k (.b false))) [9,11,6] 21,oP 28 (.pick (.t 21) (.k (.b true)) (.t 27)) [6,12]]) (.cond (.t 28) (.reg [oM 29 0 [],oP 30 (.call 224 [.t 29,.k (.i .i64 2)]) [0]]) .skip)) (.seq (.reg [oM 31 3 [],oM 32 5 [],oP 33 (.bin .andNot (.t 32) (.k (.i .u8 128))) [1],oP 34 (.cint .u64 (.t 33)) [2],oM 35 4 [],oP 36 (.bin .mul (.k (.i .i64 7)) (.t 35)) [4],oP 37 (.bin .shl (.t 34) (.t 36)) [3,5],oP 38 (.bin .or (.t 31) (.t 37)) [0,6],oM 3 38 [7,0,1,2,3,4,5,6,7]]) (.seq (.reg [oM 39 5 [],oP 40 (.bin .lss (.t 39) (.k (.i .u8 128))) [0],oM 41 40 [1],oT 42 (.mov (.t 0)) [2] 41,oT 43 (.nilck (.t 42)) [3,2] 41,oT 44 (.fad 1 (.t 43)) [4,2] 41,oT 45 (.load false 1 (.t 44)) [5,2] 41,oT 46 (.bin .eql (.t 45) (.k (.i .i64 0))) [6,2] 41,oP 47 (.pick (.t 41) (.t 46) (.k (.b false))) [2,7]]) (.cond (.t 47) (.seq (.reg [oM 48 3 [],oM 2 48 [0,0]]) .ret) .skip)))))) (.reg [oM 11 4 [],oP 12 (.bin .add (.t 11) (.k (.i .i64 1))) [0],oM 4 12 [1,0,1]]))
def x___skymosaic_wire_Reader__Uint:XF:=⟨49,.seq (.reg [oP 2 (.mov (.k (.i .u64 0))) []]) (.seq (.reg [oP 3 (.mov (.k (.i .u64 0))) []]) (.seq (.seq (.reg [oP 4 (.mov (.k (.i .i64 0))) []]) (.block 0 (.loop x___skymosaic_wire_Reader__Uint_l1))) (.seq (.reg [oP 2 (.mov (.k (.i .u64 0))) []]) .ret))),[.tmp 2]⟩
def zuG:XF:=⟨13,.seq (.reg [oP 4 (.new [.b false,.sn,.b false,.sn]) [],oP 5 (.mov (.k (.i .i64 0))) []]) (.seq (.reg [oM 6 0 [],oP 7 (.call 34 [.t 6]) [0],oM 8 1 [],oP 9 (.call 34 [.t 8]) [2,1],oP 10 (.call 24 [.t 7,.t 9]) [1,3,3],oP 11 (.ext (.t 10) 0) [4],oP 12 (.ext (.t 10) 1) [4],oN (.store 4 (.t 4) (.t 11)) [5,4,0,1,2,3,4,5,6],oM 5 12 [6,7,0,1,2,3,4,5,6,7]]) .ret),[.cell 4 true 4,.tmp 5]⟩
def zub:XF:=⟨11,.seq (.reg [oP 2 (.new [.b false,.sn,.b false,.sn]) []]) (.seq (.reg [oM 6 0 [],oP 7 (.call 17 [.t 6,.k (.i .i64 1)]) [0],oM 5 7 [1],oP 8 (.ext (.t 5) 0) [2],oP 9 (.ext (.t 5) 1) [2],oP 3 (.new [.b false,.sn,.b false,.sn]) [],oN (.store 4 (.t 3) (.t 8)) [5,3,1,0,1,2,3,5],oM 4 9 [4,6,0,1,2,3,4,5,6]]) (.seq (.reg [oP 10 (.load true 4 (.t 3)) [],oN (.store 4 (.t 2) (.t 10)) [0,0]]) .ret)),[.cell 2 true 4]⟩
def ztn:XF:=⟨17,.seq (.reg [oP 1 (.box (.t 0)) [],oP 2 (.new [.i .i64 0,.i .i64 0,.i .i64 0,.i .i64 0,.i .i64 0,.i .i64 0,.i .i64 0,.i .i64 0,.i .i64 0]) [],oP 3 (.mov (.k (.i .i64 0))) []]) (.seq (.seq (.reg [oP 5 (.load true 9 (.t 1)) [],oP 6 (.call 302 [.t 5]) [0],oM 4 6 [1,1,0,1]]) (.seq (.reg [oM 7 4 [],oP 8 (.bin .neq (.t 7) (.k (.i .i64 0))) [0]]) (.cond (.t 8) (.seq (.reg [oP 9 (.build [.i .i64 0,.i .i64 0,.i .i64 0,.i .i64 0,.i .i64 0,.i .i64 0,.i .i64 0,.i .i64 0,.i .i64 0] []) [],oM 10 4 [],oN (.store 9 (.t 2) (.t 9)) [0,0],oM 3 10 [1,2,0,1,2]]) .ret) .skip))) (.seq (.reg [oP 11 (.load true 9 (.t 1)) [],oP 12 (.call 307 [.t 11]) [0],oP 13 (.call 311 [.t 12]) [1,1],oP 14 (.call 314 [.t 13]) [2,2],oP 15 (.ext (.t 14) 0) [3],oP 16 (.ext (.t 14) 1) [3],oN (.store 9 (.t 2) (.t 15)) [4,3,0,1,2,3,4,5],oM 3 16 [5,6,0,1,2,3,4,5,6]]) .ret)),[.cell 2 true 9,.tmp 3]⟩
def ztf:XC:=.seq (.reg [oP 24 (.bin .lss (.t 23) (.k (.i .i64 4))) []]) (.seq (.cond (.t 24) .skip (.exit 2)) (.seq (.block 3 (.seq (.reg [oP 25 (.iag 4 true 2 (.t 22) (.t 23)) [],oP 9 (.new [.i .i64 0,.i .i64 0]) [],oN (.store 2 (.t 9) (.t 25)) [1,0,0,1]]) (.seq (.reg [oP 26 (.fad 0 (.t 9)) [],oP 27 (.load false 1 (.t 26)) [0],oP 28 (.fad 1 (.t 9)) [],oP 29 (.load false 1 (.t 28)) [2],oP 30 (.mm true (.t 27) [.t 29]) [1,3],oP 31 (.bin .gtr (.t 30) (.k (.i .i64 1048576))) [4],oM 32 31 [5],oF 33 (.fad 0 (.t 9)) [6] 32,oF 34 (.load false 1 (.t 33)) [7,6] 32,oF 35 (.fad 1 (.t 9)) [6] 32,oF 36 (.load false 1 (.t 35)) [9,6] 32,oF 37 (.mm false (.t 34) [.t 36]) [8,10,6] 32,oF 38 (.bin .lss (.t 37) (.k (.i .i64 (-1048576)))) [11,6] 32,oP 39 (.pick (.t 32) (.k (.b true)) (.t 38)) [6,12]]) (.cond (.t 39) (.seq (.reg [oP 40 (.build [.i .i64 0,.i .i64 0,.i .i64 0,.i .i64 0,.i .i64 0,.i .i64 0,.i .i64 0,.i .i64 0,.i .i64 0] []) [],oN (.store 9 (.t 4) (.t 40)) [0,0],oP 5 (.mov (.k (.i .i64 1))) [1,0,1]]) .ret) .skip)))) (.reg [oP 41 (.bin .add (.t 23) (.k (.i .i64 1))) [],oM 23 41 [0]])))
def zt6:XC:=.seq (.reg [oP 19 (.bin .lss (.t 18) (.t 17)) []]) (.seq (.cond (.t 19) .skip (.exit 0)) (.seq (.block 1 (.seq (.reg [oP 20 (.ixs 8 (.t 16) (.t 18)) [],oP 21 (.load true 8 (.t 20)) [0],oP 7 (.new [.i .i64 0,.i .i64 0,.i .i64 0,.i .i64 0,.i .i64 0,.i .i64 0,.i .i64 0,.i .i64 0]) [],oN (.store 8 (.t 7) (.t 21)) [2,1,0,1,2]]) (.seq (.reg [oP 22 (.load true 8 (.t 7)) [],oP 23 (.mov (.k (.i .i64 0))) []]) (.block 2 (.loop ztf))))) (.reg [oP 42 (.bin .add (.t 18) (.k (.i .i64 1))) [],oM 18 42 [0]])))
def zua:XF:=⟨67,.seq (.reg [oP 2 (.box (.t 0)) [],oP 3 (.box (.t 1)) [],oP 4 (.new [.i .i64 0,.i .i64 0,.i .i64 0,.i .i64 0,.i .i64 0,.i .i64 0,.i .i64 0,.i .i64 0,.i .i64 0]) [],oP 5 (.mov (.k (.i .i64 0))) []]) (.seq (.seq (.reg [oP 14 (.load true 8 (.t 2)) [],oP 15 (.load true 8 (.t 3)) [],oP 16 (.bsl 2 8 [.i .i64 0,.i .i64 0,.i .i64 0,.i .i64 0,.i .i64 0,.i .i64 0,.i .i64 0,.i .i64 0] [(0,(8,.t 14)),(8,(8,.t 15))]) [0,1],oP 17 (.len (.t 16)) [2],oP 18 (.mov (.k (.i .i64 0))) []]) (.block 0 (.loop zt6))) (.seq (.reg [oP 44 (.load true 8 (.t 2)) [],oP 45 (.call 315 [.t 44]) [0],oM 43 45 [1],oP 46 (.ext (.t 43) 0) [2],oP 47 (.ext (.t 43) 1) [2],oP 10 (.new [.b false,.sn,.b false,.sn,.b false,.sn,.b false,.sn,.b false,.sn,.b false,.sn,.b false,.sn,.b false,.sn,.b false,.sn]) [],oN (.store 18 (.t 10) (.t 46)) [5,3,1,0,1,2,3,5],oM 11 47 [4,6,0,1,2,3,4,5,6]]) (.seq (.reg [oP 49 (.load true 8 (.t 3)) [],oP 50 (.call 315 [.t 49]) [0],oM 48 50 [1],oP 51 (.ext (.t 48) 0) [2],oP 52 (.ext (.t 48) 1) [2],oP 12 (.new [.b false,.sn,.b false,.sn,.b false,.sn,.b false,.sn,.b false,.sn,.b false,.sn,.b false,.sn,.b false,.sn,.b false,.sn]) [],oN (.store 18 (.t 12) (.t 51)) [5,3,1,0,1,2,3,5],oM 13 52 [4,6,0,1,2,3,4,5,6]]) (.seq (.seq (.reg [oM 53 11 [],oP 54 (.un .not (.t 53)) [0],oM 55 54 [1],oF 56 (.mov (.t 13)) [2] 55,oF 57 (.un .not (.t 56)) [3,2] 55,oP 58 (.pick (.t 55) (.k (.b true)) (.t 57)) [2,4]]) (.cond (.t 58) (.seq (.reg [oP 59 (.build [.i .i64 0,.i .i64 0,.i .i64 0,.i .i64 0,.i .i64 0,.i .i64 0,.i .i64 0,.i .i64 0,.i .i64 0] []) [],oN (.store 9 (.t 4) (.t 59)) [0,0],oP 5 (.mov (.k (.i .i64 10))) [1,0,1]]) .ret) .skip)) (.seq (.drw [oP 60 (.load true 18 (.t 12)) [],oP 61 (.load true 18 (.t 10)) [],oP 62 (.call 311 [.t 61]) [1],oP 63 (.call 316 [.t 60,.t 62]) [0,2,2],oP 64 (.call 314 [.t 63]) [3,3],oP 65 (.ext (.t 64) 0) [4],oP 66 (.ext (.t 64) 1) [4],oN (.store 9 (.t 4) (.t 65)) [5,4,0,1,2,3,4,5,6],oM 5 66 [6,7,0,1,2,3,4,5,6,7]] [(0,2)]) .ret))))),[.cell 4 true 9,.tmp 5]⟩
def ztd:XF:=⟨18,.seq (.reg [oP 1 (.box (.t 0)) [],oP 2 (.mov (.k (.s []))) []]) (.seq (.seq (.reg [oP 3 (.fad 2 (.t 1)) [],oP 4 (.load true 2 (.t 3)) [0],oP 5 (.call 31 [.t 4]) [1],oP 6 (.bin .eql (.t 5) (.k (.i .i64 0))) [2]]) (.cond (.t 6) (.seq (.reg [oP 7 (.fad 0 (.t 1)) [],oP 8 (.load true 2 (.t 7)) [0],oP 9 (.call 33 [.t 8]) [1],oM 2 9 [2,2,0,1,2]]) .ret) .skip)) (.seq (.drw [oP 10 (.fad 0 (.t 1)) [],oP 11 (.load true 2 (.t 10)) [0],oP 12 (.call 33 [.t 11]) [1],oP 13 (.bin .add (.t 12) (.k (.s [47]))) [2],oP 14 (.load true 4 (.t 1)) [],oP 15 (.call 19 [.t 14]) [4,2],oP 16 (.call 33 [.t 15]) [5,5],oP 17 (.bin .add (.t 13) (.t 16)) [3,6],oM 2 17 [7,6,0,1,2,3,4,5,6,7]] [(4,2)]) .ret)),[.tmp 2]⟩
def ztx:XF:=⟨30,.seq (.reg [oP 2 (.box (.t 0)) [],oP 3 (.box (.t 1)) [],oP 4 (.new [.b false,.sn,.b false,.sn]) [],oP 5 (.mov (.k (.i .i64 0))) []]) (.seq (.seq (.reg [oP 7 (.load true 2 (.t 3)) [],oP 8 (.call 31 [.t 7]) [0],oP 9 (.bin .eql (.t 8) (.k (.i .i64 0))) [1]]) (.cond (.t 9) (.seq (.reg [oP 10 (.build [.b false,.sn,.b false,.sn] []) [],oN (.store 4 (.t 4) (.t 10)) [0,0],oP 5 (.mov (.k (.i .i64 1))) [1,0,1]]) .ret) .skip)) (.seq (.seq (.reg [oP 11 (.load true 2 (.t 3)) [],oP 12 (.call 31 [.t 11]) [0],oP 13 (.bin .lss (.t 12) (.k (.i .i64 0))) [1]]) (.cond (.t 13) (.drw [oP 14 (.load true 2 (.t 2)) [],oP 15 (.call 43 [.t 14]) [0],oP 16 (.load true 2 (.t 3)) [],oP 17 (.call 43 [.t 16]) [2,1],oN (.store 2 (.t 2) (.t 15)) [1,3,0,1],oN (.store 2 (.t 3) (.t 17)) [3,4,0,1,2,3,4]] [(2,1)]) .skip)) (.seq (.reg [oP 18 (.load true 2 (.t 2)) [],oP 19 (.load true 2 (.t 3)) [],oP 20 (.call 18 [.t 18,.t 19]) [0,1],oP 6 (.new [.b false,.sn]) [],oN (.store 2 (.t 6) (.t 20)) [3,2,2,0,1,2,3]]) (.seq (.drw [oP 21 (.load true 2 (.t 2)) [],oP 22 (.load true 2 (.t 6)) [],oP 23 (.call 21 [.t 21,.t 22]) [0,1],oP 24 (.load true 2 (.t 3)) [],oP 25 (.load true 2 (.t 6)) [],oP 26 (.call 21 [.t 24,.t 25]) [3,4,2],oP 27 (.call 22 [.t 23,.t 26,.k (.i .i64 0),.k (.i .i64 0)]) [2,5,5],oP 28 (.ext (.t 27) 0) [6],oP 29 (.ext (.t 27) 1) [6],oN (.store 4 (.t 4) (.t 28)) [7,6,0,1,2,3,4,5,6,7,8],oM 5 29 [8,9,0,1,2,3,4,5,6,7,8,9]] [(3,2),(4,2)]) .ret)))),[.cell 4 true 4,.tmp 5]⟩
def zuV:XC:=.seq (.reg [oP 8 (.bin .lss (.t 7) (.k (.i .i64 9))) []]) (.seq (.cond (.t 8) .skip (.exit 0)) (.seq (.block 1 (.seq (.reg [oP 9 (.iag 9 false 1 (.t 6) (.t 7)) [],oM 4 9 [0,0]]) (.seq (.reg [oM 10 4 [],oP 11 (.bin .lss (.t 10) (.k (.i .i64 (-1073741824)))) [0],oM 12 11 [1],oF 13 (.mov (.t 4)) [2] 12,oF 14 (.bin .gtr (.t 13) (.k (.i .i64 1073741824))) [3,2] 12,oP 15 (.pick (.t 12) (.k (.b true)) (.t 14)) [2,4]]) (.cond (.t 15) (.seq (.reg [oP 2 (.mov (.k (.i .i64 1))) []]) .ret) .skip)))) (.reg [oP 16 (.bin .add (.t 7) (.k (.i .i64 1))) [],oM 7 16 [0]])))
def zt1:XF:=⟨22,.seq (.reg [oP 1 (.box (.t 0)) [],oP 2 (.mov (.k (.i .i64 0))) []]) (.seq (.seq (.reg [oP 5 (.fad 0 (.t 1)) [],oP 6 (.load true 9 (.t 5)) [0],oP 7 (.mov (.k (.i .i64 0))) []]) (.block 0 (.loop zuV))) (.seq (.seq (.reg [oP 17 (.load true 9 (.t 1)) [],oP 18 (.call 307 [.t 17]) [0],oP 19 (.call 306 [.t 18]) [1,1],oP 20 (.call 31 [.t 19]) [2,2],oP 21 (.bin .eql (.t 20) (.k (.i .i64 0))) [3]]) (.cond (.t 21) (.seq (.reg [oP 2 (.mov (.k (.i .i64 10))) []]) .ret) .skip)) (.seq (.reg [oP 2 (.mov (.k (.i .i64 0))) []]) .ret))),[.tmp 2]⟩
def ztT:XF:=⟨10,.seq (.reg [oP 1 (.box (.t 0)) [],oP 2 (.mov (.k (.i .i64 0))) []]) (.seq (.drw [oP 3 (.load true 4 (.t 1)) [],oP 4 (.call 64 [.t 3]) [0],oP 5 (.call 63 [.t 4]) [1,1],oP 6 (.load true 4 (.t 1)) [],oP 7 (.call 19 [.t 6]) [3,2],oP 8 (.call 63 [.t 7]) [4,4],oP 9 (.mm true (.t 5) [.t 8]) [2,5],oM 2 9 [6,5,0,1,2,3,4,5,6]] [(3,1),(3,2)]) .ret),[.tmp 2]⟩
def zup:XF:=⟨51,.seq (.reg [oP 4 (.box (.t 1)) [],oP 5 (.box (.t 2)) [],oP 6 (.new [.b false,.sn,.b false,.sn]) []]) (.seq (.reg [oP 7 (.mov (.k (.fn 317 []))) []]) (.seq (.drw [oM 15 7 [],oM 16 0 [],oP 17 (.ixs 1 (.t 16) (.k (.i .i64 0))) [1],oP 18 (.load false 1 (.t 17)) [2],oP 19 (.callv (.t 15) [.t 18]) [0,3],oP 20 (.load true 4 (.t 4)) [],oP 21 (.call 8 [.t 19,.t 20]) [4,5,4],oM 14 21 [6],oP 22 (.ext (.t 14) 0) [7],oP 23 (.ext (.t 14) 1) [7],oP 8 (.new [.b false,.sn,.b false,.sn]) [],oN (.store 4 (.t 8) (.t 22)) [10,8,6,0,1,2,3,4,5,6,7,8,10],oM 9 23 [9,11,0,1,2,3,4,5,6,7,8,9,10,11]] [(5,4)]) (.seq (.drw [oM 25 7 [],oM 26 0 [],oP 27 (.ixs 1 (.t 26) (.k (.i .i64 1))) [1],oP 28 (.load false 1 (.t 27)) [2],oP 29 (.callv (.t 25) [.t 28]) [0,3],oP 30 (.load true 4 (.t 5)) [],oP 31 (.call 8 [.t 29,.t 30]) [4,5,4],oM 24 31 [6],oP 32 (.ext (.t 24) 0) [7],oP 33 (.ext (.t 24) 1) [7],oP 10 (.new [.b false,.sn,.b false,.sn]) [],oN (.store 4 (.t 10) (.t 32)) [10,8,6,0,1,2,3,4,5,6,7,8,10],oM 11 33 [9,11,0,1,2,3,4,5,6,7,8,9,10,11]] [(5,4)]) (.seq (.reg [oP 35 (.load true 4 (.t 8)) [],oP 36 (.load true 4 (.t 10)) [],oP 37 (.call 9 [.t 35,.t 36]) [0,1],oM 34 37 [2],oP 38 (.ext (.t 34) 0) [3],oP 39 (.ext (.t 34) 1) [3],oP 12 (.new [.b false,.sn,.b false,.sn]) [],oN (.store 4 (.t 12) (.t 38)) [6,4,2,0,1,2,3,4,6],oM 13 39 [5,7,0,1,2,3,4,5,6,7]]) (.seq (.drw [oP 41 (.load true 4 (.t 12)) [],oM 42 7 [],oM 43 0 [],oP 44 (.ixs 1 (.t 43) (.k (.i .i64 2))) [2],oP 45 (.load false 1 (.t 44)) [3],oP 46 (.callv (.t 42) [.t 45]) [1,4],oP 47 (.call 9 [.t 41,.t 46]) [0,5,5],oM 40 47 [6],oP 48 (.ext (.t 40) 0) [7],oP 49 (.ext (.t 40) 1) [7],oN (.store 4 (.t 12) (.t 48)) [8,6,0,1,2,3,4,5,6,7,8]] [(0,5)]) (.seq (.reg [oP 50 (.load true 4 (.t 12)) [],oN (.store 4 (.t 6) (.t 50)) [0,0]]) .ret)))))),[.cell 6 true 4]⟩
def zug:XF:=⟨6,.seq (.reg [oP 1 (.box (.t 0)) [],oP 2 (.mov (.k (.i .i64 0))) []]) (.seq (.reg [oP 3 (.fad 0 (.t 1)) [],oP 4 (.load true 2 (.t 3)) [0],oP 5 (.call 31 [.t 4]) [1],oM 2 5 [2,2,0,1,2]]) .ret),[.tmp 2]⟩
def zuF:XF:=⟨25,.seq (.reg [oP 2 (.box (.t 0)) [],oP 3 (.box (.t 1)) [],oP 4 (.new [.b false,.sn,.b false,.sn]) [],oP 5 (.mov (.k (.i .i64 0))) []]) (.seq (.drw [oP 9 (.load true 4 (.t 3)) [],oP 10 (.call 19 [.t 9]) [0],oP 11 (.fad 0 (.t 3)) [],oP 12 (.load true 2 (.t 11)) [2],oP 13 (.call 24 [.t 10,.t 12]) [1,3,1],oM 8 13 [4],oP 14 (.ext (.t 8) 0) [5],oP 15 (.ext (.t 8) 1) [5],oP 6 (.new [.b false,.sn,.b false,.sn]) [],oN (.store 4 (.t 6) (.t 14)) [8,6,4,0,1,2,3,4,5,6,8],oM 7 15 [7,9,0,1,2,3,4,5,6,7,8,9]] [(3,1)]) (.seq (.seq (.reg [oM 16 7 [],oP 17 (.bin .neq (.t 16) (.k (.i .i64 0))) [0]]) (.cond (.t 17) (.seq (.reg [oP 18 (.build [.b false,.sn,.b false,.sn] []) [],oM 19 7 [],oN (.store 4 (.t 4) (.t 18)) [0,0],oM 5 19 [1,2,0,1,2]]) .ret) .skip)) (.seq (.reg [oP 20 (.load true 4 (.t 2)) [],oP 21 (.load true 4 (.t 6)) [],oP 22 (.call 8 [.t 20,.t 21]) [0,1],oP 23 (.ext (.t 22) 0) [2],oP 24 (.ext (.t 22) 1) [2],oN (.store 4 (.t 4) (.t 23)) [3,2,0,1,2,3,4],oM 5 24 [4,5,0,1,2,3,4,5]]) .ret))),[.cell 4 true 4,.tmp 5]⟩
def x___skymosaic_wire_Writer__Uint_l1:XC:=.seq (.seq (.reg [oM 4 1 [],oP 5 (.bin .geq (.t 4) (.k (.i .u64 128))) [0]]) (.cond (.t 5) .skip (.exit 0))) (.seq (.block 1 (.reg [oM 8 0 [],oM 9 0 [],oP 10 (.nilck (.t 9)) [1],oP 11 (.fad 0 (.t 10)) [2],oP 12 (.load false 1 (.t 11)) [3],oM 13 1 [],oP 14 (.cint .u8 (.t 13)) [5],oP 15 (.bin .or (.t 14) (.k (.i .u8 128))) [6],oP 16 (.bsl 1 1 [.i .u8 0] [(0,(1,.t 15))]) [7],oP 17 (.app 1 1 (.t 12) (.t 16)) [4,8],oP 18 (.nilck (.t 8)) [0,0,1,2,3,4,5,6,7,8,9],oP 19 (.fad 0 (.t 18)) [10,0,1,2,3,4,5,6,7,8,9],oN (.store 1 (.t 19) (.t 17)) [11,9,9,0,1,2,3,4,5,6,7,8,9]])) (.reg [oM 6 1 [],oP 7 (.bin .shr (.t 6) (.k (.i .u64 7))) [0],oM 1 7 [1,0,1]]))
def x___skymosaic_wire_Writer__Uint:XF:=⟨31,.seq (.block 0 (.loop x___skymosaic_wire_Writer__Uint_l1)) (.reg [oM 20 0 [],oM 21 0 [],oP 22 (.nilck (.t 21)) [1],oP 23 (.fad 0 (.t 22)) [2],oP 24 (.load false 1 (.t 23)) [3],oM 25 1 [],oP 26 (.cint .u8 (.t 25)) [5],oP 27 (.bsl 1 1 [.i .u8 0] [(0,(1,.t 26))]) [6],oP 28 (.app 1 1 (.t 24) (.t 27)) [4,7],oP 29 (.nilck (.t 20)) [0,0,1,2,3,4,5,6,7,8],oP 30 (.fad 0 (.t 29)) [9,0,1,2,3,4,5,6,7,8],oN (.store 1 (.t 30) (.t 28)) [10,8,8,0,1,2,3,4,5,6,7,8]]),[]⟩
def ztp:XF:=⟨10,.seq (.reg [oP 2 (.mov (.k (.i .u64 0))) []]) (.seq (.reg [oM 3 0 [],oP 4 (.cint .u64 (.t 3)) [0],oP 5 (.bin .shl (.t 4) (.k (.i .u64 1))) [1],oM 6 0 [],oP 7 (.bin .shr (.t 6) (.k (.i .u64 63))) [3],oP 8 (.cint .u64 (.t 7)) [4],oP 9 (.bin .xor (.t 5) (.t 8)) [2,5],oM 2 9 [6,0,1,2,3,4,5,6]]) .ret),[.tmp 2]⟩
def zuX:XC:=.seq (.seq (.reg [oM 4 0 [],oP 5 (.bin .gtr (.t 4) (.k (.i .u64 127))) [0]]) (.cond (.t 5) .skip (.exit 0))) (.block 1 (.seq (.reg [oM 6 3 [],oM 7 0 [],oP 8 (.bin .rem (.t 7) (.k (.i .u64 128))) [1],oP 9 (.bin .add (.k (.i .u64 128)) (.t 8)) [2],oP 10 (.cint .u8 (.t 9)) [3],oP 11 (.bsl 1 1 [.i .u8 0] [(0,(1,.t 10))]) [4],oP 12 (.app 1 1 (.t 6) (.t 11)) [0,5],oM 3 12 [6,6,0,1,2,3,4,5,6]]) (.reg [oM 13 0 [],oP 14 (.bin .quo (.t 13) (.k (.i .u64 128))) [0],oM 0 14 [1,0,1]])))
def zuC:XF:=⟨20,.seq (.reg [oP 2 (.mov (.k .sn)) []]) (.seq (.reg [oP 3 (.mov (.k .sn)) []]) (.seq (.block 0 (.loop zuX)) (.seq (.reg [oM 15 3 [],oM 16 0 [],oP 17 (.cint .u8 (.t 16)) [1],oP 18 (.bsl 1 1 [.i .u8 0] [(0,(1,.t 17))]) [2],oP 19 (.app 1 1 (.t 15) (.t 18)) [0,3],oM 2 19 [4,4,0,1,2,3,4]]) .ret))),[.tmp 2]⟩
def zt3:XF:=⟨14,.seq (.reg [oP 2 (.mov (.k (.i .u64 0))) []]) (.seq (.seq (.reg [oM 3 0 [],oP 4 (.bin .lss (.t 3) (.k (.i .i64 0))) [0]]) (.cond (.t 4) (.seq (.reg [oM 5 0 [],oP 6 (.bin .add (.t 5) (.k (.i .i64 1))) [0],oP 7 (.un .neg (.t 6)) [1],oP 8 (.cint .u64 (.t 7)) [2],oP 9 (.bin .mul (.k (.i .u64 2)) (.t 8)) [3],oP 10 (.bin .add (.t 9) (.k (.i .u64 1))) [4],oM 2 10 [5,0,1,2,3,4,5]]) .ret) .skip)) (.seq (.reg [oM 11 0 [],oP 12 (.cint .u64 (.t 11)) [0],oP 13 (.bin .mul (.k (.i .u64 2)) (.t 12)) [1],oM 2 13 [2,0,1,2]]) .ret)),[.tmp 2]⟩
def x___skymosaic_wire_Reader__next:XF:=⟨32,.seq (.reg [oP 2 (.mov (.k (.i .u8 0))) []]) (.seq (.seq (.reg [oM 4 0 [],oP 5 (.nilck (.t 4)) [0],oP 6 (.fad 0 (.t 5)) [1],oP 7 (.load false 1 (.t 6)) [2],oP 8 (.len (.t 7)) [3],oP 9 (.bin .eql (.t 8) (.k (.i .i64 0))) [4]]) (.cond (.t 9) (.reg [oM 10 0 [],oP 11 (.call 224 [.t 10,.k (.i .i64 3)]) [0]]) .skip)) (.seq (.seq (.reg [oM 12 0 [],oP 13 (.nilck (.t 12)) [0],oP 14 (.fad 1 (.t 13)) [1],oP 15 (.load false 1 (.t 14)) [2],oP 16 (.bin .neq (.t 15) (.k (.i .i64 0))) [3]]) (.cond (.t 16) (.seq (.reg [oP 2 (.mov (.k (.i .u8 0))) []]) .ret) .skip)) (.seq (.reg [oM 17 0 [],oP 18 (.nilck (.t 17)) [0],oP 19 (.fad 0 (.t 18)) [1],oP 20 (.load false 1 (.t 19)) [2],oP 21 (.ixs 1 (.t 20) (.k (.i .i64 0))) [3],oP 22 (.load false 1 (.t 21)) [4],oM 3 22 [5,0,1,2,3,4,5]]) (.seq (.reg [oM 23 0 [],oM 24 0 [],oP 25 (.nilck (.t 24)) [1],oP 26 (.fad 0 (.t 25)) [2],oP 27 (.load false 1 (.t 26)) [3],oP 28 (.slsl 1 (.t 27) (some (.k (.i .i64 1))) none none) [4],oP 29 (.nilck (.t 23)) [0,0,1,2,3,4,5],oP 30 (.fad 0 (.t 29)) [6,0,1,2,3,4,5],oN (.store 1 (.t 30) (.t 28)) [7,5,0,1,2,3,4,5]]) (.seq (.reg [oM 31 3 [],oM 2 31 [0,0]]) .ret))))),[.tmp 2]⟩
def x___skymosaic_wire_Reader__fail:XF:=⟨13,.seq (.reg [oM 4 0 [],oP 5 (.nilck (.t 4)) [0],oP 6 (.fad 1 (.t 5)) [1],oP 7 (.load false 1 (.t 6)) [2],oP 8 (.bin .eql (.t 7) (.k (.i .i64 0))) [3]]) (.cond (.t 8) (.reg [oM 9 0 [],oM 10 1 [],oP 11 (.nilck (.t 9)) [0,0,1],oP 12 (.fad 1 (.t 11)) [2,0,1],oN (.store 1 (.t 12) (.t 10)) [3,1,0,1]]) .skip),[]⟩
def zud:XF:=⟨25,.seq (.reg [oP 2 (.new [.b false,.sn]) []]) (.seq (.reg [oM 6 0 [],oP 7 (.cint .u64 (.t 6)) [0],oM 3 7 [1,0,1]]) (.seq (.seq (.reg [oM 8 0 [],oP 9 (.bin .lss (.t 8) (.k (.i .i64 0))) [0]]) (.cond (.t 9) (.reg [oM 10 3 [],oP 11 (.un .neg (.t 10)) [0],oM 3 11 [1,0,1]]) .skip)) (.seq (.reg [oM 13 0 [],oP 14 (.bin .lss (.t 13) (.k (.i .i64 0))) [0],oM 15 3 [],oP 16 (.cint .u32 (.t 15)) [2],oM 17 3 [],oP 18 (.bin .shr (.t 17) (.k (.i .u64 32))) [4],oP 19 (.cint .u32 (.t 18)) [5],oP 20 (.bsl 2 1 [.i .u32 0] [(0,(1,.t 16)),(1,(1,.t 19))]) [3,6],oP 21 (.call 36 [.t 14,.t 20]) [1,7],oM 12 21 [8],oP 22 (.ext (.t 12) 0) [9],oP 23 (.ext (.t 12) 1) [9],oP 4 (.new [.b false,.sn]) [],oN (.store 2 (.t 4) (.t 22)) [12,10,8,0,1,2,3,4,5,6,7,8,9,10,12],oM 5 23 [11,13,0,1,2,3,4,5,6,7,8,9,10,11,12,13]]) (.seq (.reg [oP 24 (.load true 2 (.t 4)) [],oN (.store 2 (.t 2) (.t 24)) [0,0]]) .ret)))),[.cell 2 true 2]⟩
def zuS:XC:=.seq (.reg [oP 19 (.bin .lss (.t 18) (.k (.i .i64 9))) []]) (.seq (.cond (.t 19) .skip (.exit 0)) (.seq (.block 1 (.seq (.reg [oP 20 (.iag 9 true 2 (.t 17) (.t 18)) [],oP 7 (.new [.b false,.sn]) [],oN (.store 2 (.t 7) (.t 20)) [1,0,0,1]]) (.seq (.reg [oP 21 (.load true 2 (.t 4)) [],oP 22 (.load true 2 (.t 7)) [],oP 23 (.call 18 [.t 21,.t 22]) [0,1],oN (.store 2 (.t 4) (.t 23)) [2,2,0,1,2]]) (.seq (.reg [oM 24 5 [],oP 25 (.bin .eql (.t 24) (.k (.i .i64 0))) [0]]) (.cond (.t 25) (.reg [oP 26 (.load true 2 (.t 7)) [],oP 27 (.call 31 [.t 26]) [0],oM 5 27 [1,1,0,1]]) .skip))))) (.reg [oP 28 (.bin .add (.t 18) (.k (.i .i64 1))) [],oM 18 28 [0]])))
def zuR:XC:=.seq (.reg [oP 31 (.bin .lss (.t 30) (.k (.i .i64 9))) []]) (.seq (.cond (.t 31) .skip (.exit 2)) (.seq (.block 3 (.seq (.reg [oM 32 30 [],oP 33 (.iag 9 true 2 (.t 29) (.t 30)) [],oP 10 (.new [.b false,.sn]) [],oM 9 32 [0,0,1,2],oN (.store 2 (.t 10) (.t 33)) [2,1,3,0,1,2,3]]) (.seq (.reg [oP 35 (.load true 2 (.t 10)) [],oP 36 (.load true 2 (.t 4)) [],oP 37 (.call 29 [.t 35,.t 36]) [0,1],oM 34 37 [2],oP 38 (.ext (.t 34) 0) [3],oP 39 (.ext (.t 34) 1) [3],oP 40 (.ext (.t 34) 2) [3],oP 11 (.new [.b false,.sn]) [],oP 12 (.new [.b false,.sn]) [],oN (.store 2 (.t 11) (.t 38)) [7,4,2,0,1,2,3,4,7,8],oN (.store 2 (.t 12) (.t 39)) [8,5,9,0,1,2,3,4,5,7,8,9],oM 13 40 [6,10,0,1,2,3,4,5,6,7,8,9,10]]) (.seq (.reg [oP 42 (.load true 2 (.t 11)) [],oP 43 (.call 80 [.t 42]) [0],oM 41 43 [1],oP 44 (.ext (.t 41) 0) [2],oP 45 (.ext (.t 41) 1) [2],oM 14 44 [3,1,0,1,2,3],oM 15 45 [4,5,0,1,2,3,4,5]]) (.seq (.seq (.reg [oM 46 14 [],oM 47 5 [],oP 48 (.bin .mul (.t 46) (.t 47)) [0,1],oM 14 48 [2,0,1,2]]) (.seq (.reg [oM 49 15 [],oP 50 (.un .not (.t 49)) [0],oM 51 50 [1],oF 52 (.mov (.t 14)) [2] 51,oF 53 (.bin .lss (.t 52) (.k (.i .i64 (-1073741824)))) [3,2] 51,oP 54 (.pick (.t 51) (.k (.b true)) (.t 53)) [2,4],oM 55 54 [5,2],oF 56 (.mov (.t 14)) [6] 55,oF 57 (.bin .gtr (.t 56) (.k (.i .i64 1073741824))) [7,6] 55,oP 58 (.pick (.t 55) (.k (.b true)) (.t 57)) [6,8]]) (.cond (.t 58) (.seq (.reg [oP 59 (.build [.i .i64 0,.i .i64 0,.i .i64 0,.i .i64 0,.i .i64 0,.i .i64 0,.i .i64 0,.i .i64 0,.i .i64 0] []) [],oN (.store 9 (.t 2) (.t 59)) [0,0],oP 3 (.mov (.k (.i .i64 5))) [1,0,1]]) .ret) .skip))) (.reg [oM 60 9 [],oM 61 14 [],oP 62 (.fad 0 (.t 8)) [],oP 63 (.ixa 9 1 (.t 62) (.t 60)) [2,0,0,1],oN (.store 1 (.t 63) (.t 61)) [3,1,0,1]])))))) (.reg [oP 64 (.bin .add (.t 30) (.k (.i .i64 1))) [],oM 30 64 [0]])))
def ztR:XF:=⟨66,.seq (.reg [oP 1 (.box (.t 0)) [],oP 2 (.new [.i .i64 0,.i .i64 0,.i .i64 0,.i .i64 0,.i .i64 0,.i .i64 0,.i .i64 0,.i .i64 0,.i .i64 0]) [],oP 3 (.mov (.k (.i .i64 0))) []]) (.seq (.reg [oP 16 (.build [.b false,.sn] []) [],oP 4 (.new [.b false,.sn]) [],oN (.store 2 (.t 4) (.t 16)) [1,0,0,1],oP 5 (.mov (.k (.i .i64 0))) [2,0,1,2]]) (.seq (.seq (.reg [oP 17 (.load true 18 (.t 1)) [],oP 18 (.mov (.k (.i .i64 0))) []]) (.block 0 (.loop zuS))) (.seq (.reg [oP 8 (.new [.i .i64 0,.i .i64 0,.i .i64 0,.i .i64 0,.i .i64 0,.i .i64 0,.i .i64 0,.i .i64 0,.i .i64 0]) []]) (.seq (.seq (.reg [oP 29 (.load true 18 (.t 1)) [],oP 30 (.mov (.k (.i .i64 0))) []]) (.block 2 (.loop zuR))) (.seq (.reg [oP 65 (.load true 9 (.t 8)) [],oN (.store 9 (.t 2) (.t 65)) [0,0],oP 3 (.mov (.k (.i .i64 0))) [1,0,1]]) .ret))))),[.cell 2 true 9,.tmp 3]⟩
def zuL:XC:=.seq (.reg [oP 12 (.bin .lss (.t 11) (.k (.i .i64 3))) []]) (.seq (.cond (.t 12) .skip (.exit 2)) (.seq (.block 3 (.seq (.reg [oM 13 11 [],oM 6 13 [0,0]]) (.reg [oM 14 6 [],oP 15 (.bin .mul (.k (.i .i64 3)) (.t 14)) [0],oM 16 5 [],oP 17 (.bin .add (.t 15) (.t 16)) [1,2],oM 18 3 [],oM 19 5 [],oM 20 6 [],oP 21 (.callv (.t 18) [.t 19,.t 20]) [4,5,6],oP 22 (.ixa 9 2 (.t 4) (.t 17)) [3,0,1,2,3,4,5,6,7],oN (.store 2 (.t 22) (.t 21)) [8,7,7,0,1,2,3,4,5,6,7]]))) (.reg [oP 23 (.bin .add (.t 11) (.k (.i .i64 1))) [],oM 11 23 [0]])))
def zuO:XC:=.seq (.reg [oP 9 (.bin .lss (.t 8) (.k (.i .i64 3))) []]) (.seq (.cond (.t 9) .skip (.exit 0)) (.seq (.block 1 (.seq (.reg [oM 10 8 [],oM 5 10 [0,0]]) (.seq (.reg [oP 11 (.mov (.k (.i .i64 0))) []]) (.block 2 (.loop zuL))))) (.reg [oP 24 (.bin .add (.t 8) (.k (.i .i64 1))) [],oM 8 24 [0]])))
def ztK:XF:=⟨26,.seq (.reg [oP 1 (.box (.t 0)) [],oP 2 (.new [.b false,.sn,.b false,.sn,.b false,.sn,.b false,.sn,.b false,.sn,.b false,.sn,.b false,.sn,.b false,.sn,.b false,.sn]) []]) (.seq (.reg [oP 7 (.mfn 318 [.t 1]) [],oM 3 7 [0,0]]) (.seq (.reg [oP 4 (.new [.b false,.sn,.b false,.sn,.b false,.sn,.b false,.sn,.b false,.sn,.b false,.sn,.b false,.sn,.b false,.sn,.b false,.sn]) []]) (.seq (.seq (.reg [oP 8 (.mov (.k (.i .i64 0))) []]) (.block 0 (.loop zuO))) (.seq (.reg [oP 25 (.load true 18 (.t 4)) [],oN (.store 18 (.t 2) (.t 25)) [0,0]]) .ret)))),[.cell 2 true 18]⟩
def zuZ:XC:=.seq (.reg [oP 9 (.bin .lss (.t 8) (.k (.i .i64 9))) []]) (.seq (.cond (.t 9) .skip (.exit 0)) (.seq (.block 1 (.seq (.reg [oM 10 8 [],oP 11 (.iag 9 false 1 (.t 7) (.t 8)) [],oM 4 10 [0,0,1],oM 5 11 [1,2,0,1,2]]) (.reg [oM 12 4 [],oM 13 5 [],oP 14 (.call 34 [.t 13]) [1],oP 15 (.ixa 9 2 (.t 3) (.t 12)) [0,0,1,2],oN (.store 2 (.t 15) (.t 14)) [3,2,2,0,1,2]]))) (.reg [oP 16 (.bin .add (.t 8) (.k (.i .i64 1))) [],oM 8 16 [0]])))
def zuH:XF:=⟨18,.seq (.reg [oP 1 (.box (.t 0)) [],oP 2 (.new [.b false,.sn,.b false,.sn,.b false,.sn,.b false,.sn,.b false,.sn,.b false,.sn,.b false,.sn,.b false,.sn,.b false,.sn]) []]) (.seq (.reg [oP 3 (.new [.b false,.sn,.b false,.sn,.b false,.sn,.b false,.sn,.b false,.sn,.b false,.sn,.b false,.sn,.b false,.sn,.b false,.sn]) []]) (.seq (.seq (.reg [oP 6 (.fad 0 (.t 1)) [],oP 7 (.load true 9 (.t 6)) [0],oP 8 (.mov (.k (.i .i64 0))) []]) (.block 0 (.loop zuZ))) (.seq (.reg [oP 17 (.load true 18 (.t 3)) [],oN (.store 18 (.t 2) (.t 17)) [0,0]]) .ret))),[.cell 2 true 18]⟩
def zta:XC:=.seq (.reg [oP 56 (.bin .lss (.t 55) (.k (.i .i64 3))) []]) (.seq (.cond (.t 56) .skip (.exit 2)) (.seq (.block 3 (.seq (.reg [oM 57 55 [],oM 9 57 [0,0]]) (.drw [oM 58 9 [],oP 59 (.bin .mul (.k (.i .i64 3)) (.t 58)) [0],oM 60 7 [],oP 61 (.bin .add (.t 59) (.t 60)) [1,2],oM 62 9 [],oP 63 (.bin .mul (.k (.i .i64 3)) (.t 62)) [4],oM 64 7 [],oP 65 (.bin .add (.t 63) (.t 64)) [5,6],oP 66 (.ixa 9 2 (.t 5) (.t 65)) [7],oP 67 (.load true 2 (.t 66)) [8],oP 68 (.load true 2 (.t 8)) [],oP 69 (.call 313 [.t 67,.t 68]) [9,10],oP 70 (.ixa 9 2 (.t 5) (.t 61)) [3,0,1,2,3,4,5,6,7,8,9,10,11],oN (.store 2 (.t 70) (.t 69)) [12,11,11,0,1,2,3,4,5,6,7,8,9,10,11]] []))) (.reg [oP 71 (.bin .add (.t 55) (.k (.i .i64 1))) [],oM 55 71 [0]])))
def ztC:XC:=.seq (.reg [oP 48 (.bin .lss (.t 47) (.k (.i .i64 3))) []]) (.seq (.cond (.t 48) .skip (.exit 0)) (.seq (.block 1 (.seq (.reg [oM 49 47 [],oP 50 (.iag 3 true 2 (.t 46) (.t 47)) [],oP 8 (.new [.b false,.sn]) [],oM 7 49 [0,0,1,2],oN (.store 2 (.t 8) (.t 50)) [2,1,3,0,1,2,3]]) (.seq (.seq (.reg [oP 51 (.load true 2 (.t 8)) [],oP 52 (.call 31 [.t 51]) [0],oP 53 (.bin .eql (.t 52) (.k (.i .i64 0))) [1]]) (.cond (.t 53) (.seq (.reg [oP 54 (.build [.b false,.sn,.b false,.sn,.b false,.sn,.b false,.sn,.b false,.sn,.b false,.sn,.b false,.sn,.b false,.sn,.b false,.sn] []) [],oN (.store 18 (.t 2) (.t 54)) [0,0],oP 3 (.mov (.k (.b false))) [1,0,1]]) .ret) .skip)) (.seq (.reg [oP 55 (.mov (.k (.i .i64 0))) []]) (.block 2 (.loop zta)))))) (.reg [oP 72 (.bin .add (.t 47) (.k (.i .i64 1))) [],oM 47 72 [0]])))
def zt5:XF:=⟨78,.seq (.reg [oP 1 (.box (.t 0)) [],oP 2 (.new [.b false,.sn,.b false,.sn,.b false,.sn,.b false,.sn,.b false,.sn,.b false,.sn,.b false,.sn,.b false,.sn,.b false,.sn]) [],oP 3 (.mov (.k (.b false))) []]) (.seq (.reg [oP 4 (.mov (.k (.fn 320 []))) []]) (.seq (.reg [oM 10 4 [],oP 11 (.ixa 4 2 (.t 1) (.k (.i .i64 0))) [],oP 12 (.load true 2 (.t 11)) [1],oP 13 (.ixa 4 2 (.t 1) (.k (.i .i64 1))) [],oP 14 (.load true 2 (.t 13)) [3],oP 15 (.ixa 4 2 (.t 1) (.k (.i .i64 2))) [],oP 16 (.load true 2 (.t 15)) [5],oP 17 (.callv (.t 10) [.t 12,.t 14,.t 16]) [0,2,4,6],oP 5 (.new [.b false,.sn,.b false,.sn,.b false,.sn,.b false,.sn,.b false,.sn,.b false,.sn,.b false,.sn,.b false,.sn,.b false,.sn]) [],oN (.store 18 (.t 5) (.t 17)) [8,7,7,0,1,2,3,4,5,6,7,8]]) (.seq (.drw [oM 18 4 [],oP 19 (.ixa 4 2 (.t 1) (.k (.i .i64 3))) [],oP 20 (.load true 2 (.t 19)) [1],oP 21 (.ixa 4 2 (.t 1) (.k (.i .i64 1))) [],oP 22 (.load true 2 (.t 21)) [3],oP 23 (.ixa 4 2 (.t 1) (.k (.i .i64 2))) [],oP 24 (.load true 2 (.t 23)) [5],oP 25 (.callv (.t 18) [.t 20,.t 22,.t 24]) [0,2,4,6],oP 26 (.call 306 [.t 25]) [7,7],oM 27 4 [],oP 28 (.ixa 4 2 (.t 1) (.k (.i .i64 0))) [],oP 29 (.load true 2 (.t 28)) [10],oP 30 (.ixa 4 2 (.t 1) (.k (.i .i64 3))) [],oP 31 (.load true 2 (.t 30)) [12],oP 32 (.ixa 4 2 (.t 1) (.k (.i .i64 2))) [],oP 33 (.load true 2 (.t 32)) [14],oP 34 (.callv (.t 27) [.t 29,.t 31,.t 33]) [9,11,13,15,8],oP 35 (.call 306 [.t 34]) [16,16],oM 36 4 [],oP 37 (.ixa 4 2 (.t 1) (.k (.i .i64 0))) [],oP 38 (.load true 2 (.t 37)) [19],oP 39 (.ixa 4 2 (.t 1) (.k (.i .i64 1))) [],oP 40 (.load true 2 (.t 39)) [21],oP 41 (.ixa 4 2 (.t 1) (.k (.i .i64 3))) [],oP 42 (.load true 2 (.t 41)) [23],oP 43 (.callv (.t 36) [.t 38,.t 40,.t 42]) [18,20,22,24,17],oP 44 (.call 306 [.t 43]) [25,25],oP 45 (.build [.b false,.sn,.b false,.sn,.b false,.sn] [(0,(2,.t 26)),(2,(2,.t 35)),(4,(2,.t 44))]) [8,17,26],oP 6 (.new [.b false,.sn,.b false,.sn,.b false,.sn]) [],oN (.store 6 (.t 6) (.t 45)) [28,27,26,0,1,2,3,4,5,6,7,8,9,10,11,12,13,14,15,16,17,18,19,20,21,22,23,24,25,26,27,28]] [(11,7),(11,8),(13,7),(13,8),(15,7),(15,8),(20,7),(20,8),(20,16),(20,17),(22,7),(22,8),(22,16),(22,17),(24,7),(24,8),(24,16),(24,17)]) (.seq (.seq (.reg [oP 46 (.load true 6 (.t 6)) [],oP 47 (.mov (.k (.i .i64 0))) []]) (.block 0 (.loop ztC))) (.seq (.drw [oP 73 (.load true 18 (.t 5)) [],oP 74 (.load true 18 (.t 5)) [],oP 75 (.call 306 [.t 74]) [1],oP 76 (.call 31 [.t 75]) [2,2],oP 77 (.bin .neq (.t 76) (.k (.i .i64 0))) [3],oN (.store 18 (.t 2) (.t 73)) [0,3,0],oM 3 77 [4,5,0,1,2,3,4,5]] [(0,2),(0,3)]) .ret))))),[.cell 2 true 18,.tmp 3]⟩
def zs7:XC:=.seq (.reg [oP 16 (.bin .lss (.t 15) (.k (.i .i64 3))) []]) (.seq (.cond (.t 16) .skip (.exit 4)) (.seq (.block 5 (.seq (.reg [oM 17 15 [],oM 8 17 [0,0]]) (.drw [oM 18 6 [],oP 19 (.bin .mul (.k (.i .i64 3)) (.t 18)) [0],oM 20 7 [],oP 21 (.bin .add (.t 19) (.t 20)) [1,2],oM 22 6 [],oP 23 (.bin .mul (.k (.i .i64 3)) (.t 22)) [4],oM 24 7 [],oP 25 (.bin .add (.t 23) (.t 24)) [5,6],oP 26 (.ixa 9 2 (.t 5) (.t 25)) [7],oP 27 (.load true 2 (.t 26)) [8],oM 28 6 [],oP 29 (.bin .mul (.k (.i .i64 3)) (.t 28)) [10],oM 30 8 [],oP 31 (.bin .add (.t 29) (.t 30)) [11,12],oP 32 (.ixa 9 2 (.t 2) (.t 31)) [13],oP 33 (.load true 2 (.t 32)) [14],oM 34 8 [],oP 35 (.bin .mul (.k (.i .i64 3)) (.t 34)) [16],oM 36 7 [],oP 37 (.bin .add (.t 35) (.t 36)) [17,18],oP 38 (.ixa 9 2 (.t 3) (.t 37)) [19],oP 39 (.load true 2 (.t 38)) [20],oP 40 (.call 313 [.t 33,.t 39]) [15,21],oP 41 (.call 312 [.t 27,.t 40]) [9,22,22],oP 42 (.ixa 9 2 (.t 5) (.t 21)) [3,0,1,2,3,4,5,6,7,8,9,10,11,12,13,14,15,16,17,18,19,20,21,22,23],oN (.store 2 (.t 42) (.t 41)) [24,23,23,0,1,2,3,4,5,6,7,8,9,10,11,12,13,14,15,16,17,18,19,20,21,22,23]] [(9,22)]))) (.reg [oP 43 (.bin .add (.t 15) (.k (.i .i64 1))) [],oM 15 43 [0]])))
def zuM:XC:=.seq (.reg [oP 13 (.bin .lss (.t 12) (.k (.i .i64 3))) []]) (.seq (.cond (.t 13) .skip (.exit 2)) (.seq (.block 3 (.seq (.reg [oM 14 12 [],oM 7 14 [0,0]]) (.seq (.reg [oP 15 (.mov (.k (.i .i64 0))) []]) (.block 4 (.loop zs7))))) (.reg [oP 44 (.bin .add (.t 12) (.k (.i .i64 1))) [],oM 12 44 [0]])))
def zuK:XC:=.seq (.reg [oP 10 (.bin .lss (.t 9) (.k (.i .i64 3))) []]) (.seq (.cond (.t 10) .skip (.exit 0)) (.seq (.block 1 (.seq (.reg [oM 11 9 [],oM 6 11 [0,0]]) (.seq (.reg [oP 12 (.mov (.k (.i .i64 0))) []]) (.block 2 (.loop zuM))))) (.reg [oP 45 (.bin .add (.t 9) (.k (.i .i64 1))) [],oM 9 45 [0]])))
def ztF:XF:=⟨47,.seq (.reg [oP 2 (.box (.t 0)) [],oP 3 (.box (.t 1)) [],oP 4 (.new [.b false,.sn,.b false,.sn,.b false,.sn,.b false,.sn,.b false,.sn,.b false,.sn,.b false,.sn,.b false,.sn,.b false,.sn]) []]) (.seq (.reg [oP 5 (.new [.b false,.sn,.b false,.sn,.b false,.sn,.b false,.sn,.b false,.sn,.b false,.sn,.b false,.sn,.b false,.sn,.b false,.sn]) []]) (.seq (.seq (.reg [oP 9 (.mov (.k (.i .i64 0))) []]) (.block 0 (.loop zuK))) (.seq (.reg [oP 46 (.load true 18 (.t 5)) [],oN (.store 18 (.t 4) (.t 46)) [0,0]]) .ret))),[.cell 4 true 18]⟩
def zuf:XF:=⟨6,.seq (.reg [oP 1 (.box (.t 0)) [],oP 2 (.mov (.k (.i .i64 0))) []]) (.seq (.reg [oP 3 (.load true 2 (.t 1)) [],oP 4 (.build [.b false,.sn] []) [],oP 5 (.call 30 [.t 3,.t 4]) [0,1],oM 2 5 [2,2,0,1,2]]) .ret),[.tmp 2]⟩
def ztb:XC:=.seq (.seq (.reg [oM 16 4 [],oP 17 (.len (.t 16)) [0],oP 18 (.bin .gtr (.t 17) (.k (.i .i64 0))) [1]]) (.cond (.t 18) .skip (.exit 0))) (.block 1 (.seq (.reg [oM 20 4 [],oP 21 (.call 48 [.t 20,.k (.i .u32 1000000000)]) [0],oM 19 21 [1],oP 22 (.ext (.t 19) 0) [2],oP 23 (.ext (.t 19) 1) [2],oM 5 22 [3,1,0,1,2,3],oM 6 23 [4,5,0,1,2,3,4,5]]) (.seq (.reg [oM 24 5 [],oP 25 (.call 49 [.t 24]) [0],oM 4 25 [1,1,0,1]]) (.seq (.reg [oM 26 6 [],oP 27 (.cint .i64 (.t 26)) [0],oP 28 (.call 50 [.t 27]) [1],oM 7 28 [2,2,0,1,2]]) (.seq (.seq (.reg [oM 29 4 [],oP 30 (.len (.t 29)) [0],oP 31 (.bin .gtr (.t 30) (.k (.i .i64 0))) [1]]) (.cond (.t 31) (.reg [oM 32 7 [],oP 33 (.lens (.t 32)) [0],oP 34 (.bin .sub (.k (.i .i64 9)) (.t 33)) [1],oP 35 (.call 51 [.k (.s [48]),.t 34]) [2],oM 36 7 [],oP 37 (.bin .add (.t 35) (.t 36)) [3,4],oM 7 37 [5,3,0,1,2,3,4,5]]) .skip)) (.reg [oM 38 3 [],oM 39 7 [],oP 40 (.bsl 1 1 [.s []] [(0,(1,.t 39))]) [1],oP 41 (.app 1 16 (.t 38) (.t 40)) [0,2],oM 3 41 [3,3,0,1,2,3]]))))))
def zun:XC:=.seq (.seq (.reg [oM 48 9 [],oP 49 (.bin .geq (.t 48) (.k (.i .i64 0))) [0]]) (.cond (.t 49) .skip (.exit 2))) (.seq (.block 3 (.reg [oM 52 3 [],oM 53 9 [],oP 54 (.ixs 1 (.t 52) (.t 53)) [0,1],oP 55 (.load false 1 (.t 54)) [2],oP 56 (.call 53 [.t 8,.t 55]) [3]])) (.reg [oM 50 9 [],oP 51 (.bin .sub (.t 50) (.k (.i .i64 1))) [0],oM 9 51 [1,0,1]]))
def zu0:XF:=⟨58,.seq (.reg [oP 1 (.box (.t 0)) [],oP 2 (.mov (.k (.s []))) []]) (.seq (.seq (.reg [oP 10 (.fad 1 (.t 1)) [],oP 11 (.load false 1 (.t 10)) [0],oP 12 (.len (.t 11)) [1],oP 13 (.bin .eql (.t 12) (.k (.i .i64 0))) [2]]) (.cond (.t 13) (.seq (.reg [oP 2 (.mov (.k (.s [48]))) []]) .ret) .skip)) (.seq (.reg [oP 3 (.mov (.k .sn)) []]) (.seq (.reg [oP 14 (.fad 1 (.t 1)) [],oP 15 (.load false 1 (.t 14)) [0],oM 4 15 [1,0,1]]) (.seq (.block 0 (.loop ztb)) (.seq (.reg [oP 8 (.new [.pn,.sn]) []]) (.seq (.seq (.reg [oP 42 (.fad 0 (.t 1)) [],oP 43 (.load false 1 (.t 42)) [0]]) (.cond (.t 43) (.reg [oP 44 (.call 52 [.t 8,.k (.i .u8 45)]) []]) .skip)) (.seq (.seq (.reg [oM 45 3 [],oP 46 (.len (.t 45)) [0],oP 47 (.bin .sub (.t 46) (.k (.i .i64 1))) [1],oM 9 47 [2,0,1,2]]) (.block 2 (.loop zun))) (.seq (.reg [oP 57 (.call 54 [.t 8]) [],oM 2 57 [0,0,0]]) .ret)))))))),[.tmp 2]⟩
def zth:XF:=⟨10,.seq (.reg [oP 1 (.box (.t 0)) [],oP 2 (.new [.b false,.sn]) []]) (.seq (.drw [oP 3 (.fad 2 (.t 1)) [],oP 4 (.load true 2 (.t 3)) [0],oP 5 (.call 34 [.k (.i .i64 1)]) [],oP 6 (.call 23 [.t 4,.t 5]) [1,2,2],oP 7 (.ext (.t 6) 0) [3],oP 8 (.ext (.t 6) 1) [3],oP 9 (.call 37 [.t 7,.t 8]) [4,5,3],oN (.store 2 (.t 2) (.t 9)) [6,6,0,1,2,3,4,5,6]] [(1,2)]) .ret),[.cell 2 true 2]⟩
def zuv:XF:=⟨58,.seq (.reg [oP 2 (.box (.t 0)) [],oP 3 (.box (.t 1)) [],oP 4 (.new [.b false,.sn]) [],oP 5 (.new [.b false,.sn]) [],oP 6 (.mov (.k (.i .i64 0))) []]) (.seq (.seq (.reg [oP 13 (.fad 1 (.t 3)) [],oP 14 (.load false 1 (.t 13)) [0],oP 15 (.len (.t 14)) [1],oP 16 (.bin .eql (.t 15) (.k (.i .i64 0))) [2]]) (.cond (.t 16) (.seq (.reg [oP 17 (.build [.b false,.sn] []) [],oP 18 (.build [.b false,.sn] []) [],oN (.store 2 (.t 4) (.t 17)) [0,0],oN (.store 2 (.t 5) (.t 18)) [1,2,0,1,2],oP 6 (.mov (.k (.i .i64 1))) [3,0,1,2,3]]) .ret) .skip)) (.seq (.reg [oP 20 (.fad 1 (.t 2)) [],oP 21 (.load false 1 (.t 20)) [0],oP 22 (.fad 1 (.t 3)) [],oP 23 (.load false 1 (.t 22)) [2],oP 24 (.call 35 [.t 21,.t 23]) [1,3],oM 19 24 [4],oP 25 (.ext (.t 19) 0) [5],oP 26 (.ext (.t 19) 1) [5],oM 7 25 [6,4,0,1,2,3,4,5,6],oM 8 26 [7,8,0,1,2,3,4,5,6,7,8]]) (.seq (.seq (.reg [oP 27 (.fad 0 (.t 2)) [],oP 28 (.load false 1 (.t 27)) [0],oM 29 28 [1],oT 30 (.mov (.t 8)) [2] 29,oT 31 (.len (.t 30)) [3,2] 29,oT 32 (.bin .gtr (.t 31) (.k (.i .i64 0))) [4,2] 29,oP 33 (.pick (.t 29) (.t 32) (.k (.b false))) [2,5]]) (.cond (.t 33) (.seq (.reg [oM 34 7 [],oP 35 (.bsl 1 1 [.i .u32 0] [(0,(1,.k (.i .u32 1)))]) [],oP 36 (.call 40 [.t 34,.t 35]) [0,1],oM 7 36 [2,2,0,1,2]]) (.reg [oP 37 (.fad 1 (.t 3)) [],oP 38 (.load false 1 (.t 37)) [0],oM 39 8 [],oP 40 (.call 42 [.t 38,.t 39]) [1,2],oM 8 40 [3,3,0,1,2,3]])) .skip)) (.seq (.reg [oP 42 (.fad 0 (.t 2)) [],oP 43 (.load false 1 (.t 42)) [0],oP 44 (.fad 0 (.t 3)) [],oP 45 (.load false 1 (.t 44)) [2],oP 46 (.eqt true 0 (.t 43) (.t 45)) [1,3],oM 47 7 [],oP 48 (.call 36 [.t 46,.t 47]) [4,5],oM 41 48 [6],oP 49 (.ext (.t 41) 0) [7],oP 50 (.ext (.t 41) 1) [7],oP 9 (.new [.b false,.sn]) [],oN (.store 2 (.t 9) (.t 49)) [10,8,6,0,1,2,3,4,5,6,7,8,10],oM 10 50 [9,11,0,1,2,3,4,5,6,7,8,9,10,11]]) (.seq (.reg [oM 52 8 [],oP 53 (.call 36 [.k (.b false),.t 52]) [0],oM 51 53 [1],oP 54 (.ext (.t 51) 0) [2],oP 55 (.ext (.t 51) 1) [2],oP 11 (.new [.b false,.sn]) [],oN (.store 2 (.t 11) (.t 54)) [5,3,1,0,1,2,3,5],oM 12 55 [4,6,0,1,2,3,4,5,6]]) (.seq (.drw [oP 56 (.load true 2 (.t 9)) [],oP 57 (.load true 2 (.t 11)) [],oN (.store 2 (.t 4) (.t 56)) [0,0],oN (.store 2 (.t 5) (.t 57)) [1,2,0,1,2],oP 6 (.mov (.k (.i .i64 0))) [3,0,1,2,3]] [(1,2)]) .ret)))))),[.cell 4 true 2,.cell 5 true 2,.tmp 6]⟩
def ztJ:XF:=⟨28,.seq (.reg [oP 2 (.box (.t 0)) [],oP 3 (.box (.t 1)) [],oP 4 (.mov (.k (.i .i64 0))) []]) (.seq (.block 0 (.seq (.reg [oP 6 (.fad 0 (.t 2)) [],oP 7 (.load false 1 (.t 6)) [0],oM 8 7 [1],oT 9 (.fad 0 (.t 3)) [2] 8,oT 10 (.load false 1 (.t 9)) [3,2] 8,oP 11 (.pick (.t 8) (.t 10) (.k (.b false))) [2,4],oM 5 11 [5,2]]) (.cond (.t 5) (.seq (.reg [oP 12 (.fad 1 (.t 3)) [],oP 13 (.load false 1 (.t 12)) [0],oP 14 (.fad 1 (.t 2)) [],oP 15 (.load false 1 (.t 14)) [2],oP 16 (.call 41 [.t 13,.t 15]) [1,3],oM 4 16 [4,4,0,1,2,3,4]]) .ret) (.seq (.reg [oP 18 (.fad 0 (.t 2)) [],oP 19 (.load false 1 (.t 18)) [0],oM 17 19 [1]]) (.cond (.t 17) (.seq (.reg [oP 4 (.mov (.k (.i .i64 (-1)))) []]) .ret) (.seq (.reg [oP 21 (.fad 0 (.t 3)) [],oP 22 (.load false 1 (.t 21)) [0],oM 20 22 [1]]) (.cond (.t 20) (.seq (.reg [oP 4 (.mov (.k (.i .i64 1))) []]) .ret) .skip))))))) (.seq (.reg [oP 23 (.fad 1 (.t 2)) [],oP 24 (.load false 1 (.t 23)) [0],oP 25 (.fad 1 (.t 3)) [],oP 26 (.load false 1 (.t 25)) [2],oP 27 (.call 41 [.t 24,.t 26]) [1,3],oM 4 27 [4,4,0,1,2,3,4]]) .ret)),[.tmp 4]⟩
def ztg:XF:=⟨5,.seq (.reg [oP 1 (.box (.t 0)) [],oP 2 (.new [.b false,.sn]) []]) (.seq (.reg [oP 3 (.fad 0 (.t 1)) [],oP 4 (.load true 2 (.t 3)) [0],oN (.store 2 (.t 2) (.t 4)) [1,0,1]]) .ret),[.cell 2 true 2]⟩
def zuw:XF:=⟨15,.seq (.reg [oP 1 (.box (.t 0)) [],oP 2 (.new [.b false,.sn]) []]) (.seq (.reg [oP 3 (.fad 0 (.t 1)) [],oP 4 (.load false 1 (.t 3)) [0],oP 5 (.un .not (.t 4)) [1],oM 6 5 [2],oT 7 (.fad 1 (.t 1)) [3] 6,oT 8 (.load false 1 (.t 7)) [4,3] 6,oT 9 (.len (.t 8)) [5,3] 6,oT 10 (.bin .gtr (.t 9) (.k (.i .i64 0))) [6,3] 6,oP 11 (.pick (.t 6) (.t 10) (.k (.b false))) [3,7],oP 12 (.fad 1 (.t 1)) [],oP 13 (.load false 1 (.t 12)) [9],oP 14 (.build [.b false,.sn] [(0,(1,.t 11)),(1,(1,.t 13))]) [8,10],oN (.store 2 (.t 2) (.t 14)) [11,3,0,1,2,3,4,5,6,7,8,9,10,11]]) .ret),[.cell 2 true 2]⟩
def zuQ:XC:=.seq (.seq (.reg [oM 3 0 [],oP 4 (.len (.t 3)) [0],oP 5 (.bin .gtr (.t 4) (.k (.i .i64 0))) [1],oM 6 5 [2],oT 7 (.mov (.t 0)) [3] 6,oT 8 (.mov (.t 0)) [3] 6,oT 9 (.len (.t 8)) [5,3] 6,oT 10 (.bin .sub (.t 9) (.k (.i .i64 1))) [6,3] 6,oT 11 (.ixs 1 (.t 7) (.t 10)) [4,7,3] 6,oT 12 (.load false 1 (.t 11)) [8,3] 6,oT 13 (.bin .eql (.t 12) (.k (.i .u32 0))) [9,3] 6,oP 14 (.pick (.t 6) (.t 13) (.k (.b false))) [3,10]]) (.cond (.t 14) .skip (.exit 0))) (.block 1 (.reg [oM 15 0 [],oM 16 0 [],oP 17 (.len (.t 16)) [1],oP 18 (.bin .sub (.t 17) (.k (.i .i64 1))) [2],oP 19 (.slsl 1 (.t 15) none (some (.t 18)) none) [0,3],oM 0 19 [4,0,1,2,3,4]]))
def ztB:XF:=⟨21,.seq (.reg [oP 2 (.mov (.k .sn)) []]) (.seq (.block 0 (.loop zuQ)) (.seq (.reg [oM 20 0 [],oM 2 20 [0,0]]) .ret)),[.tmp 2]⟩
def ztS:XC:=.seq (.reg [oP 24 (.bin .lss (.t 23) (.t 22)) []]) (.seq (.cond (.t 24) .skip (.exit 0)) (.seq (.block 1 (.seq (.reg [oM 25 23 [],oM 7 25 [0,0]]) (.seq (.reg [oP 8 (.mov (.k (.i .u64 0))) []]) (.seq (.seq (.reg [oM 26 7 [],oM 27 0 [],oP 28 (.len (.t 27)) [1],oP 29 (.bin .lss (.t 26) (.t 28)) [0,2]]) (.cond (.t 29) (.reg [oM 30 8 [],oM 31 0 [],oM 32 7 [],oP 33 (.ixs 1 (.t 31) (.t 32)) [1,2],oP 34 (.load false 1 (.t 33)) [3],oP 35 (.cint .u64 (.t 34)) [4],oP 36 (.bin .add (.t 30) (.t 35)) [0,5],oM 8 36 [6,0,1,2,3,4,5,6]]) .skip)) (.seq (.seq (.reg [oM 37 7 [],oM 38 1 [],oP 39 (.len (.t 38)) [1],oP 40 (.bin .lss (.t 37) (.t 39)) [0,2]]) (.cond (.t 40) (.reg [oM 41 8 [],oM 42 1 [],oM 43 7 [],oP 44 (.ixs 1 (.t 42) (.t 43)) [1,2],oP 45 (.load false 1 (.t 44)) [3],oP 46 (.cint .u64 (.t 45)) [4],oP 47 (.bin .add (.t 41) (.t 46)) [0,5],oM 8 47 [6,0,1,2,3,4,5,6]]) .skip)) (.reg [oM 48 5 [],oM 49 7 [],oM 50 6 [],oM 51 8 [],oP 52 (.callv (.t 50) [.t 51]) [2,3],oP 53 (.ixs 1 (.t 48) (.t 49)) [0,1,0,1,2,3,4],oN (.store 1 (.t 53) (.t 52)) [5,4,4,0,1,2,3,4]])))))) (.reg [oP 54 (.bin .add (.t 23) (.k (.i .i64 1))) [],oM 23 54 [0]])))
def zus:XF:=⟨56,.seq (.reg [oP 4 (.mov (.k .sn)) []]) (.seq (.seq (.reg [oM 9 0 [],oP 10 (.len (.t 9)) [0],oM 11 1 [],oP 12 (.len (.t 11)) [2],oP 13 (.bin .lss (.t 10) (.t 12)) [1,3]]) (.cond (.t 13) (.reg [oM 14 1 [],oM 15 0 [],oM 0 14 [0,0,1],oM 1 15 [1,2,0,1,2]]) .skip)) (.seq (.reg [oM 16 0 [],oP 17 (.len (.t 16)) [0],oP 18 (.bin .add (.t 17) (.k (.i .i64 1))) [1],oP 19 (.msl [.i .u32 0] 4 (.t 18) (.t 18)) [2,2],oM 5 19 [3,0,1,2,3]]) (.seq (.reg [oP 20 (.call 58 []) [],oM 6 20 [0,0,0]]) (.seq (.seq (.reg [oM 21 5 [],oP 22 (.len (.t 21)) [0],oP 23 (.mov (.k (.i .i64 0))) []]) (.block 0 (.loop ztS))) (.seq (.reg [oM 55 5 [],oM 4 55 [0,0]]) .ret))))),[.tmp 4]⟩
def zuy:XC:=.seq (.reg [oP 28 (.bin .lss (.t 27) (.t 26)) []]) (.seq (.cond (.t 28) .skip (.exit 2)) (.seq (.block 3 (.seq (.reg [oM 29 27 [],oP 30 (.ixs 1 (.t 25) (.t 27)) [],oP 31 (.load false 1 (.t 30)) [1],oM 9 29 [0,0,1,2],oM 10 31 [2,3,0,1,2,3]]) (.seq (.reg [oM 32 7 [],oP 33 (.cint .u64 (.t 32)) [0],oM 34 10 [],oP 35 (.cint .u64 (.t 34)) [2],oP 36 (.bin .mul (.t 33) (.t 35)) [1,3],oM 37 5 [],oM 38 6 [],oM 39 9 [],oP 40 (.bin .add (.t 38) (.t 39)) [6,7],oP 41 (.ixs 1 (.t 37) (.t 40)) [5,8],oP 42 (.load false 1 (.t 41)) [9],oP 43 (.cint .u64 (.t 42)) [10],oP 44 (.bin .add (.t 36) (.t 43)) [4,11],oM 45 8 [],oP 46 (.bin .add (.t 44) (.t 45)) [12,13],oM 11 46 [14,0,1,2,3,4,5,6,7,8,9,10,11,12,13,14]]) (.seq (.reg [oM 47 5 [],oM 48 6 [],oM 49 9 [],oP 50 (.bin .add (.t 48) (.t 49)) [1,2],oM 51 11 [],oP 52 (.cint .u32 (.t 51)) [4],oP 53 (.ixs 1 (.t 47) (.t 50)) [0,3,0,1,2,3,4,5],oN (.store 1 (.t 53) (.t 52)) [6,5,0,1,2,3,4,5]]) (.reg [oM 54 11 [],oP 55 (.bin .shr (.t 54) (.k (.i .u64 32))) [0],oM 8 55 [1,0,1]]))))) (.reg [oP 56 (.bin .add (.t 27) (.k (.i .i64 1))) [],oM 27 56 [0]])))
def zur:XC:=.seq (.reg [oP 21 (.bin .lss (.t 20) (.t 19)) []]) (.seq (.cond (.t 21) .skip (.exit 0)) (.seq (.block 1 (.seq (.reg [oM 22 20 [],oP 23 (.ixs 1 (.t 18) (.t 20)) [],oP 24 (.load false 1 (.t 23)) [1],oM 6 22 [0,0,1,2],oM 7 24 [2,3,0,1,2,3]]) (.seq (.reg [oP 8 (.mov (.k (.i .u64 0))) []]) (.seq (.seq (.reg [oM 25 1 [],oP 26 (.len (.t 25)) [0],oP 27 (.mov (.k (.i .i64 0))) []]) (.block 2 (.loop zuy))) (.reg [oM 57 5 [],oM 58 6 [],oM 59 1 [],oP 60 (.len (.t 59)) [2],oP 61 (.bin .add (.t 58) (.t 60)) [1,3],oM 62 8 [],oP 63 (.cint .u32 (.t 62)) [5],oP 64 (.ixs 1 (.t 57) (.t 61)) [0,4,0,1,2,3,4,5,6],oN (.store 1 (.t 64) (.t 63)) [7,6,0,1,2,3,4,5,6]]))))) (.reg [oP 65 (.bin .add (.t 20) (.k (.i .i64 1))) [],oM 20 65 [0]])))
def ztu:XF:=⟨67,.seq (.reg [oP 4 (.mov (.k .sn)) []]) (.seq (.reg [oM 12 0 [],oP 13 (.len (.t 12)) [0],oM 14 1 [],oP 15 (.len (.t 14)) [2],oP 16 (.bin .add (.t 13) (.t 15)) [1,3],oP 17 (.msl [.i .u32 0] 4 (.t 16) (.t 16)) [4,4],oM 5 17 [5,0,1,2,3,4,5]]) (.seq (.seq (.reg [oM 18 0 [],oP 19 (.len (.t 18)) [0],oP 20 (.mov (.k (.i .i64 0))) []]) (.block 0 (.loop zur))) (.seq (.reg [oM 66 5 [],oM 4 66 [0,0]]) .ret))),[.tmp 4]⟩
def ztU:XF:=⟨20,.seq (.reg [oP 4 (.new [.b false,.sn]) [],oP 5 (.mov (.k (.i .i64 0))) []]) (.seq (.reg [oM 6 1 [],oP 7 (.call 49 [.t 6]) [0],oM 1 7 [1,1,0,1]]) (.seq (.seq (.reg [oM 8 1 [],oP 9 (.len (.t 8)) [0],oP 10 (.bin .gtr (.t 9) (.k (.i .i64 512))) [1]]) (.cond (.t 10) (.seq (.reg [oP 11 (.build [.b false,.sn] []) [],oN (.store 2 (.t 4) (.t 11)) [0,0],oP 5 (.mov (.k (.i .i64 4))) [1,0,1]]) .ret) .skip)) (.seq (.reg [oM 12 0 [],oM 13 12 [0],oT 14 (.mov (.t 1)) [1] 13,oT 15 (.len (.t 14)) [2,1] 13,oT 16 (.bin .gtr (.t 15) (.k (.i .i64 0))) [3,1] 13,oP 17 (.pick (.t 13) (.t 16) (.k (.b false))) [1,4],oM 18 1 [],oP 19 (.build [.b false,.sn] [(0,(1,.t 17)),(1,(1,.t 18))]) [5,6],oN (.store 2 (.t 4) (.t 19)) [7,1,0,1,2,3,4,5,6,7],oP 5 (.mov (.k (.i .i64 0))) [8,0,1,2,3,4,5,6,7,8]]) .ret))),[.cell 4 true 2,.tmp 5]⟩
def zuY:XC:=.seq (.seq (.reg [oM 15 6 [],oP 16 (.len (.t 15)) [0],oP 17 (.bin .gtr (.t 16) (.k (.i .i64 0))) [1]]) (.cond (.t 17) .skip (.exit 0))) (.block 1 (.seq (.reg [oM 19 5 [],oM 20 6 [],oP 21 (.call 35 [.t 19,.t 20]) [0,1],oM 18 21 [2],oP 22 (.ext (.t 18) 0) [3],oP 23 (.ext (.t 18) 1) [3],oM 7 22 [4,2,0,1,2,3,4],oM 8 23 [5,6,0,1,2,3,4,5,6]]) (.reg [oM 24 6 [],oM 25 8 [],oM 5 24 [0,0],oM 6 25 [1,2,0,1,2]])))
def zuu:XF:=⟨32,.seq (.reg [oP 2 (.box (.t 0)) [],oP 3 (.box (.t 1)) [],oP 4 (.new [.b false,.sn]) []]) (.seq (.drw [oP 11 (.fad 1 (.t 2)) [],oP 12 (.load false 1 (.t 11)) [0],oP 13 (.fad 1 (.t 3)) [],oP 14 (.load false 1 (.t 13)) [2],oM 5 12 [1,0,1],oM 6 14 [3,4,0,1,2,3,4]] []) (.seq (.block 0 (.loop zuY)) (.seq (.reg [oM 27 5 [],oP 28 (.call 36 [.k (.b false),.t 27]) [0],oM 26 28 [1],oP 29 (.ext (.t 26) 0) [2],oP 30 (.ext (.t 26) 1) [2],oP 9 (.new [.b false,.sn]) [],oN (.store 2 (.t 9) (.t 29)) [5,3,1,0,1,2,3,5],oM 10 30 [4,6,0,1,2,3,4,5,6]]) (.seq (.reg [oP 31 (.load true 2 (.t 9)) [],oN (.store 2 (.t 4) (.t 31)) [0,0]]) .ret)))),[.cell 4 true 2]⟩
def ztr:XF:=⟨25,.seq (.reg [oP 4 (.box (.t 0)) [],oP 5 (.box (.t 1)) [],oP 8 (.new [.b false,.sn,.b false,.sn]) [],oP 9 (.mov (.k (.i .i64 0))) []]) (.seq (.seq (.reg [oM 10 2 [],oP 11 (.bin .neq (.t 10) (.k (.i .i64 0))) [0],oM 12 11 [1],oF 13 (.mov (.t 3)) [2] 12,oF 14 (.bin .neq (.t 13) (.k (.i .i64 0))) [3,2] 12,oP 15 (.pick (.t 12) (.k (.b true)) (.t 14)) [2,4]]) (.cond (.t 15) (.seq (.reg [oP 16 (.build [.b false,.sn,.b false,.sn] []) [],oN (.store 4 (.t 8) (.t 16)) [0,0],oP 9 (.mov (.k (.i .i64 4))) [1,0,1]]) .ret) .skip)) (.seq (.drw [oP 17 (.load true 2 (.t 4)) [],oP 18 (.load true 2 (.t 5)) [],oP 19 (.call 34 [.k (.i .i64 1)]) [],oP 20 (.call 39 [.t 18,.t 19]) [1,2,2],oP 21 (.ext (.t 20) 0) [3],oP 22 (.ext (.t 20) 1) [3],oP 23 (.call 37 [.t 21,.t 22]) [4,5,3],oP 24 (.build [.b false,.sn,.b false,.sn] [(0,(2,.t 17)),(2,(2,.t 23))]) [0,6],oN (.store 4 (.t 8) (.t 24)) [7,6,0,1,2,3,4,5,6,7],oP 9 (.mov (.k (.i .i64 0))) [8,0,1,2,3,4,5,6,7,8]] [(0,2),(1,2),(0,3),(0,6)]) .ret)),[.cell 8 true 4,.tmp 9]⟩
def zuc:XF:=⟨16,.seq (.reg [oP 2 (.box (.t 0)) [],oP 3 (.box (.t 1)) [],oP 4 (.new [.b false,.sn]) []]) (.seq (.reg [oP 9 (.load true 2 (.t 2)) [],oP 10 (.load true 2 (.t 3)) [],oP 11 (.call 29 [.t 9,.t 10]) [0,1],oM 8 11 [2],oP 12 (.ext (.t 8) 0) [3],oP 13 (.ext (.t 8) 1) [3],oP 14 (.ext (.t 8) 2) [3],oP 5 (.new [.b false,.sn]) [],oP 6 (.new [.b false,.sn]) [],oN (.store 2 (.t 5) (.t 12)) [7,4,2,0,1,2,3,4,7,8],oN (.store 2 (.t 6) (.t 13)) [8,5,9,0,1,2,3,4,5,7,8,9],oM 7 14 [6,10,0,1,2,3,4,5,6,7,8,9,10]]) (.seq (.reg [oP 15 (.load true 2 (.t 5)) [],oN (.store 2 (.t 4) (.t 15)) [0,0]]) .ret)),[.cell 4 true 2]⟩
def zut:XF:=⟨23,.seq (.reg [oP 1 (.box (.t 0)) [],oP 2 (.new [.b false,.sn]) []]) (.seq (.reg [oP 4 (.load true 18 (.t 1)) [],oP 5 (.call 311 [.t 4]) [0],oP 3 (.new [.b false,.sn,.b false,.sn,.b false,.sn,.b false,.sn,.b false,.sn,.b false,.sn,.b false,.sn,.b false,.sn,.b false,.sn]) [],oN (.store 18 (.t 3) (.t 5)) [2,1,1,0,1,2]]) (.seq (.drw [oP 6 (.ixa 9 2 (.t 1) (.k (.i .i64 0))) [],oP 7 (.load true 2 (.t 6)) [0],oP 8 (.ixa 9 2 (.t 3) (.k (.i .i64 0))) [],oP 9 (.load true 2 (.t 8)) [2],oP 10 (.call 313 [.t 7,.t 9]) [1,3],oP 11 (.ixa 9 2 (.t 1) (.k (.i .i64 1))) [],oP 12 (.load true 2 (.t 11)) [5],oP 13 (.ixa 9 2 (.t 3) (.k (.i .i64 3))) [],oP 14 (.load true 2 (.t 13)) [7],oP 15 (.call 313 [.t 12,.t 14]) [6,8,4],oP 16 (.call 312 [.t 10,.t 15]) [4,9,9],oP 17 (.ixa 9 2 (.t 1) (.k (.i .i64 2))) [],oP 18 (.load true 2 (.t 17)) [11],oP 19 (.ixa 9 2 (.t 3) (.k (.i .i64 6))) [],oP 20 (.load true 2 (.t 19)) [13],oP 21 (.call 313 [.t 18,.t 20]) [12,14,10],oP 22 (.call 312 [.t 16,.t 21]) [10,15,15],oN (.store 2 (.t 2) (.t 22)) [16,16,0,1,2,3,4,5,6,7,8,9,10,11,12,13,14,15,16]] [(6,4),(8,4),(12,4),(12,9),(12,10),(14,4),(14,9),(14,10)]) .ret)),[.cell 2 true 2]⟩
def zum:XC:=.seq (.seq (.reg [oM 22 4 [],oP 23 (.bin .gtr (.t 22) (.k (.i .i64 0))) [0]]) (.cond (.t 23) .skip (.exit 0))) (.seq (.block 1 (.reg [oM 26 3 [],oP 27 (.bin .add (.t 26) (.k (.i .i64 1))) [0],oM 3 27 [1,0,1]])) (.reg [oM 24 4 [],oP 25 (.bin .quo (.t 24) (.k (.i .i64 2))) [0],oM 4 25 [1,0,1]]))
def ztO:XC:=.seq (.seq (.reg [oP 30 (.load true 2 (.t 1)) [],oP 31 (.load true 2 (.t 7)) [],oP 32 (.call 30 [.t 30,.t 31]) [0,1],oP 33 (.bin .geq (.t 32) (.k (.i .i64 0))) [2]]) (.cond (.t 33) .skip (.exit 2))) (.seq (.block 3 (.seq (.reg [oM 34 6 [],oP 35 (.load true 2 (.t 7)) [],oP 36 (.bsl 1 2 [.b false,.sn] [(0,(2,.t 35))]) [1],oP 37 (.app 2 32 (.t 34) (.t 36)) [0,2],oM 6 37 [3,3,0,1,2,3]]) (.seq (.reg [oP 39 (.load true 2 (.t 7)) [],oP 40 (.load true 2 (.t 7)) [],oP 41 (.call 38 [.t 39,.t 40]) [0,1],oM 38 41 [2],oP 42 (.ext (.t 38) 0) [3],oP 43 (.ext (.t 38) 1) [3],oP 8 (.new [.b false,.sn]) [],oN (.store 2 (.t 8) (.t 42)) [6,4,2,0,1,2,3,4,6],oM 9 43 [5,7,0,1,2,3,4,5,6,7]]) (.seq (.seq (.reg [oM 44 9 [],oP 45 (.bin .neq (.t 44) (.k (.i .i64 0))) [0]]) (.cond (.t 45) (.exit 2) .skip)) (.reg [oP 46 (.load true 2 (.t 8)) [],oN (.store 2 (.t 7) (.t 46)) [0,0]]))))) (.seq (.reg [oP 47 (.load true 2 (.t 7)) []]) (.reg [oP 7 (.new [.b false,.sn]) [],oN (.store 2 (.t 7) (.t 47)) [0,0]])))
def zul:XC:=.seq (.seq (.reg [oM 51 10 [],oP 52 (.bin .geq (.t 51) (.k (.i .i64 0))) [0]]) (.cond (.t 52) .skip (.exit 4))) (.seq (.block 5 (.seq (.drw [oP 55 (.load true 2 (.t 1)) [],oM 56 6 [],oM 57 10 [],oP 58 (.ixs 2 (.t 56) (.t 57)) [1,2],oP 59 (.load true 2 (.t 58)) [3],oP 60 (.call 30 [.t 55,.t 59]) [0,4],oP 61 (.bin .geq (.t 60) (.k (.i .i64 0))) [5]] []) (.cond (.t 61) (.seq (.drw [oP 63 (.load true 2 (.t 1)) [],oM 64 6 [],oM 65 10 [],oP 66 (.ixs 2 (.t 64) (.t 65)) [1,2],oP 67 (.load true 2 (.t 66)) [3],oP 68 (.call 29 [.t 63,.t 67]) [0,4],oM 62 68 [5],oP 69 (.ext (.t 62) 0) [6],oP 70 (.ext (.t 62) 1) [6],oP 71 (.ext (.t 62) 2) [6],oN (.store 2 (.t 1) (.t 69)) [7,5,0,1,2,3,4,5,6,7]] []) (.reg [oM 72 3 [],oM 73 10 [],oP 74 (.bin .shl (.k (.i .i64 1)) (.t 73)) [1],oP 75 (.bin .add (.t 72) (.t 74)) [0,2],oM 3 75 [3,0,1,2,3]])) .skip))) (.reg [oM 53 10 [],oP 54 (.bin .sub (.t 53) (.k (.i .i64 1))) [0],oM 10 54 [1,0,1]]))
def ztq:XF:=⟨80,.seq (.reg [oP 1 (.box (.t 0)) [],oP 2 (.mov (.k (.i .i64 0))) []]) (.seq (.seq (.reg [oP 11 (.load true 2 (.t 1)) [],oP 12 (.call 31 [.t 11]) [0],oP 13 (.bin .lss (.t 12) (.k (.i .i64 0))) [1]]) (.cond (.t 13) (.reg [oP 14 (.load true 2 (.t 1)) [],oP 15 (.call 43 [.t 14]) [0],oN (.store 2 (.t 1) (.t 15)) [1,1,0,1]]) .skip)) (.seq (.reg [oP 3 (.mov (.k (.i .i64 0))) []]) (.seq (.seq (.reg [oP 17 (.load true 2 (.t 1)) [],oP 18 (.call 80 [.t 17]) [0],oM 16 18 [1],oP 19 (.ext (.t 16) 0) [2],oP 20 (.ext (.t 16) 1) [2],oM 4 19 [3,1,0,1,2,3],oM 5 20 [4,5,0,1,2,3,4,5]]) (.seq (.reg [oM 21 5 []]) (.cond (.t 21) (.seq (.block 0 (.loop zum)) (.seq (.reg [oM 28 3 [],oM 2 28 [0,0]]) .ret)) .skip))) (.seq (.reg [oP 6 (.mov (.k .sn)) []]) (.seq (.seq (.reg [oP 29 (.call 34 [.k (.i .i64 2)]) [],oP 7 (.new [.b false,.sn]) [],oN (.store 2 (.t 7) (.t 29)) [1,0,0,0,1]]) (.block 2 (.loop ztO))) (.seq (.seq (.reg [oM 48 6 [],oP 49 (.len (.t 48)) [0],oP 50 (.bin .sub (.t 49) (.k (.i .i64 1))) [1],oM 10 50 [2,0,1,2]]) (.block 4 (.loop zul))) (.seq (.reg [oM 76 3 [],oP 77 (.load true 2 (.t 1)) [],oP 78 (.call 31 [.t 77]) [1],oP 79 (.bin .add (.t 76) (.t 78)) [0,2],oM 2 79 [3,2,0,1,2,3]]) .ret))))))),[.tmp 2]⟩
def zt0:XF:=⟨11,.seq (.reg [oP 2 (.new [.b false,.sn,.b false,.sn]) []]) (.seq (.reg [oM 6 0 [],oP 7 (.call 17 [.t 6,.k (.i .i64 1)]) [0],oM 5 7 [1],oP 8 (.ext (.t 5) 0) [2],oP 9 (.ext (.t 5) 1) [2],oP 3 (.new [.b false,.sn,.b false,.sn]) [],oN (.store 4 (.t 3) (.t 8)) [5,3,1,0,1,2,3,5],oM 4 9 [4,6,0,1,2,3,4,5,6]]) (.seq (.reg [oP 10 (.load true 4 (.t 3)) [],oN (.store 4 (.t 2) (.t 10)) [0,0]]) .ret)),[.cell 2 true 4]⟩
def zuE:XF:=⟨55,.seq (.reg [oP 2 (.box (.t 0)) [],oP 3 (.box (.t 1)) [],oP 4 (.new [.b false,.sn,.b false,.sn]) [],oP 5 (.mov (.k (.i .i64 0))) []]) (.seq (.drw [oP 12 (.fad 0 (.t 2)) [],oP 13 (.load true 2 (.t 12)) [0],oP 14 (.load true 4 (.t 3)) [],oP 15 (.call 19 [.t 14]) [2],oP 16 (.call 18 [.t 13,.t 15]) [1,3,3],oP 17 (.fad 0 (.t 3)) [],oP 18 (.load true 2 (.t 17)) [5],oP 19 (.load true 4 (.t 2)) [],oP 20 (.call 19 [.t 19]) [7,4],oP 21 (.call 18 [.t 18,.t 20]) [6,8,8],oP 6 (.new [.b false,.sn]) [],oP 7 (.new [.b false,.sn]) [],oN (.store 2 (.t 6) (.t 16)) [10,4,9,0,1,2,3,4,10,11],oN (.store 2 (.t 7) (.t 21)) [11,9,12,0,1,2,3,4,5,6,7,8,9,10,11,12]] [(1,3),(6,3),(6,4),(7,3),(7,4),(6,8)]) (.seq (.drw [oP 23 (.fad 0 (.t 2)) [],oP 24 (.load true 2 (.t 23)) [0],oP 25 (.load true 2 (.t 6)) [],oP 26 (.call 21 [.t 24,.t 25]) [1,2],oP 27 (.fad 0 (.t 3)) [],oP 28 (.load true 2 (.t 27)) [4],oP 29 (.load true 2 (.t 7)) [],oP 30 (.call 21 [.t 28,.t 29]) [5,6,3],oP 31 (.bsl 2 2 [.b false,.sn] [(0,(2,.t 26)),(2,(2,.t 30))]) [3,7],oP 32 (.call 20 [.t 31]) [8,7],oM 22 32 [9],oP 33 (.ext (.t 22) 0) [10],oP 34 (.ext (.t 22) 1) [10],oP 8 (.new [.b false,.sn]) [],oN (.store 2 (.t 8) (.t 33)) [13,11,9,0,1,2,3,4,5,6,7,8,9,10,11,13],oM 9 34 [12,14,0,1,2,3,4,5,6,7,8,9,10,11,12,13,14]] [(5,3),(6,3)]) (.seq (.drw [oP 36 (.load true 4 (.t 2)) [],oP 37 (.call 19 [.t 36]) [0],oP 38 (.load true 2 (.t 7)) [],oP 39 (.call 21 [.t 37,.t 38]) [1,2,1],oP 40 (.load true 4 (.t 3)) [],oP 41 (.call 19 [.t 40]) [4,3],oP 42 (.load true 2 (.t 6)) [],oP 43 (.call 21 [.t 41,.t 42]) [5,6,5],oP 44 (.bsl 2 2 [.b false,.sn] [(0,(2,.t 39)),(2,(2,.t 43))]) [3,7],oP 45 (.call 20 [.t 44]) [8,7],oM 35 45 [9],oP 46 (.ext (.t 35) 0) [10],oP 47 (.ext (.t 35) 1) [10],oP 10 (.new [.b false,.sn]) [],oN (.store 2 (.t 10) (.t 46)) [13,11,9,0,1,2,3,4,5,6,7,8,9,10,11,13],oM 11 47 [12,14,0,1,2,3,4,5,6,7,8,9,10,11,12,13,14]] [(2,1),(4,1),(4,3),(6,1),(6,3),(6,5)]) (.seq (.reg [oP 48 (.load true 2 (.t 8)) [],oP 49 (.load true 2 (.t 10)) [],oM 50 9 [],oM 51 11 [],oP 52 (.call 22 [.t 48,.t 49,.t 50,.t 51]) [0,1,2,3],oP 53 (.ext (.t 52) 0) [4],oP 54 (.ext (.t 52) 1) [4],oN (.store 4 (.t 4) (.t 53)) [5,4,0,1,2,3,4,5,6],oM 5 54 [6,7,0,1,2,3,4,5,6,7]]) .ret)))),[.cell 4 true 4,.tmp 5]⟩
def zuD:XF:=⟨79,.seq (.reg [oP 2 (.box (.t 0)) [],oP 3 (.box (.t 1)) [],oP 4 (.new [.b false,.sn,.b false,.sn]) [],oP 5 (.mov (.k (.i .i64 0))) []]) (.seq (.drw [oP 15 (.load true 4 (.t 2)) [],oP 16 (.call 19 [.t 15]) [0],oP 17 (.load true 4 (.t 3)) [],oP 18 (.call 19 [.t 17]) [2,1],oP 19 (.call 18 [.t 16,.t 18]) [1,3,3],oP 6 (.new [.b false,.sn]) [],oN (.store 2 (.t 6) (.t 19)) [5,4,4,0,1,2,3,4,5]] [(2,1)]) (.seq (.drw [oP 21 (.fad 0 (.t 2)) [],oP 22 (.load true 2 (.t 21)) [0],oP 23 (.load true 4 (.t 3)) [],oP 24 (.call 19 [.t 23]) [2],oP 25 (.load true 2 (.t 6)) [],oP 26 (.call 21 [.t 24,.t 25]) [3,4,3],oP 27 (.bsl 2 2 [.b false,.sn] [(0,(2,.t 22)),(2,(2,.t 26))]) [1,5],oP 28 (.call 20 [.t 27]) [6,5],oM 20 28 [7],oP 29 (.ext (.t 20) 0) [8],oP 30 (.ext (.t 20) 1) [8],oP 7 (.new [.b false,.sn]) [],oN (.store 2 (.t 7) (.t 29)) [11,9,7,0,1,2,3,4,5,6,7,8,9,11],oM 8 30 [10,12,0,1,2,3,4,5,6,7,8,9,10,11,12]] [(1,3),(4,3),(1,5)]) (.seq (.drw [oP 32 (.fad 0 (.t 3)) [],oP 33 (.load true 2 (.t 32)) [0],oP 34 (.load true 4 (.t 2)) [],oP 35 (.call 19 [.t 34]) [2],oP 36 (.load true 2 (.t 6)) [],oP 37 (.call 21 [.t 35,.t 36]) [3,4,3],oP 38 (.bsl 2 2 [.b false,.sn] [(0,(2,.t 33)),(2,(2,.t 37))]) [1,5],oP 39 (.call 20 [.t 38]) [6,5],oM 31 39 [7],oP 40 (.ext (.t 31) 0) [8],oP 41 (.ext (.t 31) 1) [8],oP 9 (.new [.b false,.sn]) [],oN (.store 2 (.t 9) (.t 40)) [11,9,7,0,1,2,3,4,5,6,7,8,9,11],oM 10 41 [10,12,0,1,2,3,4,5,6,7,8,9,10,11,12]] [(1,3),(4,3),(1,5)]) (.seq (.reg [oP 43 (.load true 2 (.t 7)) [],oP 44 (.load true 2 (.t 9)) [],oP 45 (.call 23 [.t 43,.t 44]) [0,1],oM 42 45 [2],oP 46 (.ext (.t 42) 0) [3],oP 47 (.ext (.t 42) 1) [3],oP 11 (.new [.b false,.sn]) [],oN (.store 2 (.t 11) (.t 46)) [6,4,2,0,1,2,3,4,6],oM 12 47 [5,7,0,1,2,3,4,5,6,7]]) (.seq (.drw [oP 49 (.load true 4 (.t 2)) [],oP 50 (.call 19 [.t 49]) [0],oP 51 (.load true 2 (.t 6)) [],oP 52 (.call 21 [.t 50,.t 51]) [1,2,1],oP 53 (.load true 4 (.t 3)) [],oP 54 (.call 19 [.t 53]) [4,3],oP 55 (.bsl 2 2 [.b false,.sn] [(0,(2,.t 52)),(2,(2,.t 54))]) [3,5],oP 56 (.call 20 [.t 55]) [6,5],oM 48 56 [7],oP 57 (.ext (.t 48) 0) [8],oP 58 (.ext (.t 48) 1) [8],oP 13 (.new [.b false,.sn]) [],oN (.store 2 (.t 13) (.t 57)) [11,9,7,0,1,2,3,4,5,6,7,8,9,11],oM 14 58 [10,12,0,1,2,3,4,5,6,7,8,9,10,11,12]] [(2,1),(4,1),(4,3)]) (.seq (.seq (.reg [oM 59 8 [],oP 60 (.bin .neq (.t 59) (.k (.i .i64 0))) [0],oM 61 60 [1],oF 62 (.mov (.t 10)) [2] 61,oF 63 (.bin .neq (.t 62) (.k (.i .i64 0))) [3,2] 61,oP 64 (.pick (.t 61) (.k (.b true)) (.t 63)) [2,4],oM 65 64 [5,2],oF 66 (.mov (.t 12)) [6] 65,oF 67 (.bin .neq (.t 66) (.k (.i .i64 0))) [7,6] 65,oP 68 (.pick (.t 65) (.k (.b true)) (.t 67)) [6,8],oM 69 68 [9,6],oF 70 (.mov (.t 14)) [10] 69,oF 71 (.bin .neq (.t 70) (.k (.i .i64 0))) [11,10] 69,oP 72 (.pick (.t 69) (.k (.b true)) (.t 71)) [10,12]]) (.cond (.t 72) (.seq (.reg [oP 73 (.build [.b false,.sn,.b false,.sn] []) [],oN (.store 4 (.t 4) (.t 73)) [0,0],oP 5 (.mov (.k (.i .i64 4))) [1,0,1]]) .ret) .skip)) (.seq (.reg [oP 74 (.load true 2 (.t 11)) [],oP 75 (.load true 2 (.t 13)) [],oP 76 (.call 24 [.t 74,.t 75]) [0,1],oP 77 (.ext (.t 76) 0) [2],oP 78 (.ext (.t 76) 1) [2],oN (.store 4 (.t 4) (.t 77)) [3,2,0,1,2,3,4],oM 5 78 [4,5,0,1,2,3,4,5]]) .ret))))))),[.cell 4 true 4,.tmp 5]⟩
def ztA:XC:=.seq (.reg [oP 12 (.bin .lss (.t 11) (.t 10)) []]) (.seq (.cond (.t 12) .skip (.exit 0)) (.seq (.block 1 (.seq (.reg [oM 13 11 [],oP 14 (.ixs 1 (.t 9) (.t 11)) [],oP 15 (.load false 1 (.t 14)) [1],oM 5 13 [0,0,1,2],oM 6 15 [2,3,0,1,2,3]]) (.seq (.seq (.reg [oM 16 5 [],oP 17 (.bin .gtr (.t 16) (.k (.i .i64 1))) [0]]) (.cond (.t 17) (.seq (.reg [oP 2 (.mov (.k (.i .i64 0))) [],oP 3 (.mov (.k (.b false))) [0,0]]) .ret) .skip)) (.reg [oM 18 4 [],oM 19 6 [],oP 20 (.cint .u64 (.t 19)) [1],oM 21 5 [],oP 22 (.bin .mul (.k (.i .i64 32)) (.t 21)) [3],oP 23 (.bin .shl (.t 20) (.t 22)) [2,4],oP 24 (.bin .or (.t 18) (.t 23)) [0,5],oM 4 24 [6,0,1,2,3,4,5,6]])))) (.reg [oP 25 (.bin .add (.t 11) (.k (.i .i64 1))) [],oM 11 25 [0]])))
def zte:XF:=⟨42,.seq (.reg [oP 1 (.box (.t 0)) [],oP 2 (.mov (.k (.i .i64 0))) [],oP 3 (.mov (.k (.b false))) [1]]) (.seq (.reg [oP 4 (.mov (.k (.i .u64 0))) []]) (.seq (.seq (.reg [oP 8 (.fad 1 (.t 1)) [],oP 9 (.load false 1 (.t 8)) [0],oP 10 (.len (.t 9)) [1],oP 11 (.mov (.k (.i .i64 0))) []]) (.block 0 (.loop ztA))) (.seq (.reg [oM 26 4 [],oP 27 (.cint .i64 (.t 26)) [0],oM 7 27 [1,0,1]]) (.seq (.seq (.reg [oP 28 (.fad 0 (.t 1)) [],oP 29 (.load false 1 (.t 28)) [0]]) (.cond (.t 29) (.reg [oM 30 7 [],oP 31 (.un .neg (.t 30)) [0],oM 7 31 [1,0,1]]) .skip)) (.seq (.seq (.reg [oM 32 4 [],oP 33 (.bin .neq (.t 32) (.k (.i .u64 0))) [0],oM 34 33 [1],oT 35 (.mov (.t 7)) [2] 34,oT 36 (.bin .lss (.t 35) (.k (.i .i64 0))) [3,2] 34,oT 37 (.fad 0 (.t 1)) [2] 34,oT 38 (.load false 1 (.t 37)) [5,2] 34,oT 39 (.eqt true 0 (.t 36) (.t 38)) [4,6,2] 34,oP 40 (.pick (.t 34) (.t 39) (.k (.b false))) [2,7]]) (.cond (.t 40) (.seq (.reg [oP 2 (.mov (.k (.i .i64 0))) [],oP 3 (.mov (.k (.b false))) [0,0]]) .ret) .skip)) (.seq (.reg [oM 41 7 [],oM 2 41 [0,0],oP 3 (.mov (.k (.b true))) [1,0,1]]) .ret)))))),[.tmp 2,.tmp 3]⟩
def zs8:XF:=⟨49,.seq (.reg [oP 5 (.new [.b false,.sn]) []]) (.seq (.reg [oM 10 0 [],oP 11 (.bin .add (.t 10) (.k (.i .i64 1))) [0],oP 12 (.bin .rem (.t 11) (.k (.i .i64 3))) [1],oM 13 0 [],oP 14 (.bin .add (.t 13) (.k (.i .i64 2))) [3],oP 15 (.bin .rem (.t 14) (.k (.i .i64 3))) [4],oM 6 12 [2,0,1,2],oM 7 15 [5,6,0,1,2,3,4,5,6]]) (.seq (.reg [oM 16 1 [],oP 17 (.bin .add (.t 16) (.k (.i .i64 1))) [0],oP 18 (.bin .rem (.t 17) (.k (.i .i64 3))) [1],oM 19 1 [],oP 20 (.bin .add (.t 19) (.k (.i .i64 2))) [3],oP 21 (.bin .rem (.t 20) (.k (.i .i64 3))) [4],oM 8 18 [2,0,1,2],oM 9 21 [5,6,0,1,2,3,4,5,6]]) (.seq (.drw [oM 22 6 [],oP 23 (.bin .mul (.k (.i .i64 3)) (.t 22)) [0],oM 24 8 [],oP 25 (.bin .add (.t 23) (.t 24)) [1,2],oP 26 (.ixa 9 2 (.t 2) (.t 25)) [3],oP 27 (.load true 2 (.t 26)) [4],oM 28 7 [],oP 29 (.bin .mul (.k (.i .i64 3)) (.t 28)) [6],oM 30 9 [],oP 31 (.bin .add (.t 29) (.t 30)) [7,8],oP 32 (.ixa 9 2 (.t 2) (.t 31)) [9],oP 33 (.load true 2 (.t 32)) [10],oP 34 (.call 313 [.t 27,.t 33]) [5,11],oM 35 6 [],oP 36 (.bin .mul (.k (.i .i64 3)) (.t 35)) [13],oM 37 9 [],oP 38 (.bin .add (.t 36) (.t 37)) [14,15],oP 39 (.ixa 9 2 (.t 2) (.t 38)) [16],oP 40 (.load true 2 (.t 39)) [17],oM 41 7 [],oP 42 (.bin .mul (.k (.i .i64 3)) (.t 41)) [19],oM 43 8 [],oP 44 (.bin .add (.t 42) (.t 43)) [20,21],oP 45 (.ixa 9 2 (.t 2) (.t 44)) [22],oP 46 (.load true 2 (.t 45)) [23],oP 47 (.call 313 [.t 40,.t 46]) [18,24,12],oP 48 (.call 319 [.t 34,.t 47]) [12,25,25],oN (.store 2 (.t 5) (.t 48)) [26,26,0,1,2,3,4,5,6,7,8,9,10,11,12,13,14,15,16,17,18,19,20,21,22,23,24,25,26]] [(18,12),(24,12)]) .ret))),[.cell 5 true 2]⟩
def ztY:XF:=⟨14,.seq (.reg [oP 2 (.box (.t 0)) [],oP 3 (.box (.t 1)) [],oP 4 (.new [.b false,.sn]) []]) (.seq (.reg [oP 8 (.load true 2 (.t 2)) [],oP 9 (.load true 2 (.t 3)) [],oP 10 (.call 39 [.t 8,.t 9]) [0,1],oM 7 10 [2],oP 11 (.ext (.t 7) 0) [3],oP 12 (.ext (.t 7) 1) [3],oP 5 (.new [.b false,.sn]) [],oN (.store 2 (.t 5) (.t 11)) [6,4,2,0,1,2,3,4,6],oM 6 12 [5,7,0,1,2,3,4,5,6,7]]) (.seq (.reg [oP 13 (.load true 2 (.t 5)) [],oN (.store 2 (.t 4) (.t 13)) [0,0]]) .ret)),[.cell 4 true 2]⟩
def ztX:XF:=⟨14,.seq (.reg [oP 2 (.box (.t 0)) [],oP 3 (.box (.t 1)) [],oP 4 (.new [.b false,.sn]) []]) (.seq (.reg [oP 8 (.load true 2 (.t 2)) [],oP 9 (.load true 2 (.t 3)) [],oP 10 (.call 38 [.t 8,.t 9]) [0,1],oM 7 10 [2],oP 11 (.ext (.t 7) 0) [3],oP 12 (.ext (.t 7) 1) [3],oP 5 (.new [.b false,.sn]) [],oN (.store 2 (.t 5) (.t 11)) [6,4,2,0,1,2,3,4,6],oM 6 12 [5,7,0,1,2,3,4,5,6,7]]) (.seq (.reg [oP 13 (.load true 2 (.t 5)) [],oN (.store 2 (.t 4) (.t 13)) [0,0]]) .ret)),[.cell 4 true 2]⟩
def ztH:XF:=⟨22,.seq (.reg [oP 3 (.box (.t 0)) [],oP 4 (.box (.t 1)) [],oP 5 (.box (.t 2)) [],oP 6 (.new [.b false,.sn,.b false,.sn,.b false,.sn,.b false,.sn,.b false,.sn,.b false,.sn,.b false,.sn,.b false,.sn,.b false,.sn]) []]) (.seq (.reg [oP 7 (.fad 0 (.t 3)) [],oP 8 (.load false 1 (.t 7)) [0],oP 9 (.fad 0 (.t 4)) [],oP 10 (.load false 1 (.t 9)) [2],oP 11 (.fad 0 (.t 5)) [],oP 12 (.load false 1 (.t 11)) [4],oP 13 (.fad 1 (.t 3)) [],oP 14 (.load false 1 (.t 13)) [6],oP 15 (.fad 1 (.t 4)) [],oP 16 (.load false 1 (.t 15)) [8],oP 17 (.fad 1 (.t 5)) [],oP 18 (.load false 1 (.t 17)) [10],oP 19 (.build [.i .i64 0,.i .i64 0,.i .i64 0,.i .i64 0,.i .i64 0,.i .i64 0,.i .i64 0,.i .i64 0,.i .i64 0] [(0,(1,.t 8)),(1,(1,.t 10)),(2,(1,.t 12)),(3,(1,.t 14)),(4,(1,.t 16)),(5,(1,.t 18)),(6,(1,.k (.i .i64 1))),(7,(1,.k (.i .i64 1))),(8,(1,.k (.i .i64 1)))]) [1,3,5,7,9,11],oP 20 (.build [.i .i64 0,.i .i64 0,.i .i64 0,.i .i64 0,.i .i64 0,.i .i64 0,.i .i64 0,.i .i64 0,.i .i64 0] [(0,(9,.t 19))]) [12],oP 21 (.call 307 [.t 20]) [13],oN (.store 18 (.t 6) (.t 21)) [14,14,0,1,2,3,4,5,6,7,8,9,10,11,12,13,14]]) .ret),[.cell 6 true 18]⟩
def zt9:XF:=⟨14,.seq (.reg [oP 2 (.box (.t 0)) [],oP 3 (.box (.t 1)) [],oP 4 (.new [.b false,.sn]) []]) (.seq (.reg [oP 8 (.load true 2 (.t 2)) [],oP 9 (.load true 2 (.t 3)) [],oP 10 (.call 23 [.t 8,.t 9]) [0,1],oM 7 10 [2],oP 11 (.ext (.t 7) 0) [3],oP 12 (.ext (.t 7) 1) [3],oP 5 (.new [.b false,.sn]) [],oN (.store 2 (.t 5) (.t 11)) [6,4,2,0,1,2,3,4,6],oM 6 12 [5,7,0,1,2,3,4,5,6,7]]) (.seq (.reg [oP 13 (.load true 2 (.t 5)) [],oN (.store 2 (.t 4) (.t 13)) [0,0]]) .ret)),[.cell 4 true 2]⟩
def zuq:XC:=.seq (.seq (.reg [oM 15 8 [],oP 16 (.bin .geq (.t 15) (.k (.i .i64 0))) [0]]) (.cond (.t 16) .skip (.exit 0))) (.seq (.block 1 (.seq (.reg [oM 19 7 [],oP 20 (.bin .shl (.t 19) (.k (.i .u64 32))) [0],oM 21 0 [],oM 22 8 [],oP 23 (.ixs 1 (.t 21) (.t 22)) [2,3],oP 24 (.load false 1 (.t 23)) [4],oP 25 (.cint .u64 (.t 24)) [5],oP 26 (.bin .or (.t 20) (.t 25)) [1,6],oM 7 26 [7,0,1,2,3,4,5,6,7]]) (.seq (.reg [oM 27 6 [],oM 28 8 [],oM 29 7 [],oM 30 1 [],oP 31 (.cint .u64 (.t 30)) [3],oP 32 (.bin .quo (.t 29) (.t 31)) [2,4],oP 33 (.cint .u32 (.t 32)) [5],oP 34 (.ixs 1 (.t 27) (.t 28)) [0,1,0,1,2,3,4,5,6],oN (.store 1 (.t 34) (.t 33)) [7,6,0,1,2,3,4,5,6]]) (.reg [oM 35 7 [],oM 36 1 [],oP 37 (.cint .u64 (.t 36)) [1],oP 38 (.bin .rem (.t 35) (.t 37)) [0,2],oM 7 38 [3,0,1,2,3]])))) (.reg [oM 17 8 [],oP 18 (.bin .sub (.t 17) (.k (.i .i64 1))) [0],oM 8 18 [1,0,1]]))
def ztI:XF:=⟨42,.seq (.reg [oP 4 (.mov (.k .sn)) [],oP 5 (.mov (.k (.i .u32 0))) [0]]) (.seq (.reg [oM 9 0 [],oP 10 (.len (.t 9)) [0],oP 11 (.msl [.i .u32 0] 4 (.t 10) (.t 10)) [1,1],oM 6 11 [2,0,1,2]]) (.seq (.reg [oP 7 (.mov (.k (.i .u64 0))) []]) (.seq (.seq (.reg [oM 12 0 [],oP 13 (.len (.t 12)) [0],oP 14 (.bin .sub (.t 13) (.k (.i .i64 1))) [1],oM 8 14 [2,0,1,2]]) (.block 0 (.loop zuq))) (.seq (.reg [oM 39 6 [],oM 40 7 [],oP 41 (.cint .u32 (.t 40)) [1],oM 4 39 [0,0],oM 5 41 [2,3,0,1,2,3]]) .ret)))),[.tmp 4,.tmp 5]⟩
def zuh:XF:=⟨6,.seq (.reg [oP 2 (.box (.t 0)) [],oP 4 (.new [.b false,.sn]) []]) (.seq (.reg [oP 5 (.load true 2 (.t 2)) [],oN (.store 2 (.t 4) (.t 5)) [0,0]]) .ret),[.cell 4 true 2]⟩
def zuB:XF:=⟨39,.seq (.reg [oP 2 (.box (.t 0)) [],oP 3 (.box (.t 1)) [],oP 4 (.new [.b false,.sn]) [],oP 5 (.mov (.k (.i .i64 0))) []]) (.seq (.seq (.reg [oP 6 (.fad 0 (.t 2)) [],oP 7 (.load false 1 (.t 6)) [0],oP 8 (.fad 0 (.t 3)) [],oP 9 (.load false 1 (.t 8)) [2],oP 10 (.eqt false 0 (.t 7) (.t 9)) [1,3]]) (.cond (.t 10) (.seq (.drw [oP 11 (.fad 0 (.t 2)) [],oP 12 (.load false 1 (.t 11)) [0],oP 13 (.fad 1 (.t 2)) [],oP 14 (.load false 1 (.t 13)) [2],oP 15 (.fad 1 (.t 3)) [],oP 16 (.load false 1 (.t 15)) [4],oP 17 (.call 40 [.t 14,.t 16]) [3,5],oP 18 (.call 36 [.t 12,.t 17]) [1,6,6],oP 19 (.ext (.t 18) 0) [7],oP 20 (.ext (.t 18) 1) [7],oN (.store 2 (.t 4) (.t 19)) [8,7,0,1,2,3,4,5,6,7,8,9],oM 5 20 [9,10,0,1,2,3,4,5,6,7,8,9,10]] [(1,6)]) .ret) .skip)) (.seq (.seq (.reg [oP 21 (.fad 1 (.t 2)) [],oP 22 (.load false 1 (.t 21)) [0],oP 23 (.fad 1 (.t 3)) [],oP 24 (.load false 1 (.t 23)) [2],oP 25 (.call 41 [.t 22,.t 24]) [1,3],oP 26 (.bin .lss (.t 25) (.k (.i .i64 0))) [4]]) (.cond (.t 26) (.reg [oP 27 (.load true 2 (.t 3)) [],oP 28 (.load true 2 (.t 2)) [],oN (.store 2 (.t 2) (.t 27)) [0,0,1],oN (.store 2 (.t 3) (.t 28)) [1,2,0,1,2]]) .skip)) (.seq (.drw [oP 29 (.fad 0 (.t 2)) [],oP 30 (.load false 1 (.t 29)) [0],oP 31 (.fad 1 (.t 2)) [],oP 32 (.load false 1 (.t 31)) [2],oP 33 (.fad 1 (.t 3)) [],oP 34 (.load false 1 (.t 33)) [4],oP 35 (.call 42 [.t 32,.t 34]) [3,5],oP 36 (.call 36 [.t 30,.t 35]) [1,6,6],oP 37 (.ext (.t 36) 0) [7],oP 38 (.ext (.t 36) 1) [7],oN (.store 2 (.t 4) (.t 37)) [8,7,0,1,2,3,4,5,6,7,8,9],oM 5 38 [9,10,0,1,2,3,4,5,6,7,8,9,10]] [(1,6)]) .ret))),[.cell 4 true 2,.tmp 5]⟩
def ztP:XC:=.seq (.seq (.reg [oM 111 17 [],oP 112 (.bin .shr (.t 111) (.k (.i .u64 32))) [0],oP 113 (.bin .gtr (.t 112) (.k (.i .u64 0))) [1],oM 114 113 [2],oF 115 (.mov (.t 17)) [3] 114,oF 116 (.mov (.t 14)) [3] 114,oF 117 (.bin .mul (.t 115) (.t 116)) [4,5,3] 114,oF 118 (.mov (.t 18)) [3] 114,oF 119 (.bin .shl (.t 118) (.k (.i .u64 32))) [7,3] 114,oF 120 (.mov (.t 9)) [3] 114,oF 121 (.mov (.t 15)) [3] 114,oF 122 (.mov (.t 11)) [3] 114,oF 123 (.bin .add (.t 121) (.t 122)) [10,11,3] 114,oF 124 (.bin .sub (.t 123) (.k (.i .i64 2))) [12,3] 114,oF 125 (.ixs 1 (.t 120) (.t 124)) [9,13,3] 114,oF 126 (.load false 1 (.t 125)) [14,3] 114,oF 127 (.cint .u64 (.t 126)) [15,3] 114,oF 128 (.bin .or (.t 119) (.t 127)) [8,16,3] 114,oF 129 (.bin .gtr (.t 117) (.t 128)) [6,17,3] 114,oP 130 (.pick (.t 114) (.k (.b true)) (.t 129)) [3,18]]) (.cond (.t 130) .skip (.exit 2))) (.block 3 (.seq (.reg [oM 131 17 [],oP 132 (.bin .sub (.t 131) (.k (.i .u64 1))) [0],oM 17 132 [1,0,1]]) (.seq (.reg [oM 133 18 [],oM 134 13 [],oP 135 (.bin .add (.t 133) (.t 134)) [0,1],oM 18 135 [2,0,1,2]]) (.seq (.reg [oM 136 18 [],oP 137 (.bin .shr (.t 136) (.k (.i .u64 32))) [0],oP 138 (.bin .gtr (.t 137) (.k (.i .u64 0))) [1]]) (.cond (.t 138) (.exit 2) .skip)))))
def ztN:XC:=.seq (.reg [oP 171 (.bin .lss (.t 170) (.t 169)) []]) (.seq (.cond (.t 171) .skip (.exit 4)) (.seq (.block 5 (.seq (.reg [oM 172 170 [],oM 20 172 [0,0]]) (.seq (.reg [oP 21 (.mov (.k (.i .u64 0))) []]) (.seq (.seq (.reg [oM 173 20 [],oM 174 11 [],oP 175 (.bin .lss (.t 173) (.t 174)) [0,1]]) (.cond (.t 175) (.reg [oM 176 10 [],oM 177 20 [],oP 178 (.ixs 1 (.t 176) (.t 177)) [0,1],oP 179 (.load false 1 (.t 178)) [2],oP 180 (.cint .u64 (.t 179)) [3],oM 21 180 [4,0,1,2,3,4]]) .skip)) (.reg [oM 181 9 [],oM 182 15 [],oM 183 20 [],oP 184 (.bin .add (.t 182) (.t 183)) [1,2],oM 185 19 [],oM 186 9 [],oM 187 15 [],oM 188 20 [],oP 189 (.bin .add (.t 187) (.t 188)) [6,7],oP 190 (.ixs 1 (.t 186) (.t 189)) [5,8],oP 191 (.load false 1 (.t 190)) [9],oP 192 (.cint .u64 (.t 191)) [10],oM 193 21 [],oP 194 (.bin .add (.t 192) (.t 193)) [11,12],oP 195 (.callv (.t 185) [.t 194]) [4,13],oP 196 (.ixs 1 (.t 181) (.t 184)) [0,3,0,1,2,3,4,5,6,7,8,9,10,11,12,13,14],oN (.store 1 (.t 196) (.t 195)) [15,14,14,0,1,2,3,4,5,6,7,8,9,10,11,12,13,14]]))))) (.reg [oP 197 (.bin .add (.t 170) (.k (.i .i64 1))) [],oM 170 197 [0]])))
def zuk:XC:=.seq (.seq (.reg [oM 84 15 [],oP 85 (.bin .geq (.t 84) (.k (.i .i64 0))) [0]]) (.cond (.t 85) .skip (.exit 0))) (.seq (.block 1 (.seq (.drw [oM 88 9 [],oM 89 15 [],oM 90 11 [],oP 91 (.bin .add (.t 89) (.t 90)) [1,2],oP 92 (.ixs 1 (.t 88) (.t 91)) [0,3],oP 93 (.load false 1 (.t 92)) [4],oP 94 (.cint .u64 (.t 93)) [5],oP 95 (.bin .shl (.t 94) (.k (.i .u64 32))) [6],oM 96 9 [],oM 97 15 [],oM 98 11 [],oP 99 (.bin .add (.t 97) (.t 98)) [9,10],oP 100 (.bin .sub (.t 99) (.k (.i .i64 1))) [11],oP 101 (.ixs 1 (.t 96) (.t 100)) [8,12],oP 102 (.load false 1 (.t 101)) [13],oP 103 (.cint .u64 (.t 102)) [14],oP 104 (.bin .or (.t 95) (.t 103)) [7,15],oM 16 104 [16,0,1,2,3,4,5,6,7,8,9,10,11,12,13,14,15,16]] []) (.seq (.drw [oM 105 16 [],oM 106 13 [],oP 107 (.bin .quo (.t 105) (.t 106)) [0,1],oM 108 16 [],oM 109 13 [],oP 110 (.bin .rem (.t 108) (.t 109)) [3,4],oM 17 107 [2,0,1,2],oM 18 110 [5,6,0,1,2,3,4,5,6]] []) (.seq (.block 2 (.loop ztP)) (.seq (.reg [oM 139 12 [],oM 140 15 [],oM 141 17 [],oP 142 (.cint .u32 (.t 141)) [2],oP 143 (.ixs 1 (.t 139) (.t 140)) [0,1,0,1,2,3],oN (.store 1 (.t 143) (.t 142)) [4,3,0,1,2,3]]) (.seq (.seq (.reg [oM 144 9 [],oM 145 15 [],oM 146 15 [],oM 147 11 [],oP 148 (.bin .add (.t 146) (.t 147)) [2,3],oP 149 (.bin .add (.t 148) (.k (.i .i64 1))) [4],oP 150 (.slsl 1 (.t 144) (some (.t 145)) (some (.t 149)) none) [0,1,5],oM 151 10 [],oM 152 17 [],oP 153 (.call 57 [.t 150,.t 151,.t 152]) [6,7,8],oP 154 (.un .not (.t 153)) [9]]) (.cond (.t 154) (.exit 1) .skip)) (.seq (.reg [oM 155 12 [],oM 156 15 [],oP 157 (.ixs 1 (.t 155) (.t 156)) [0,1],oP 158 (.load false 1 (.t 157)) [2],oP 159 (.bin .sub (.t 158) (.k (.i .u32 1))) [3],oP 160 (.ixs 1 (.t 155) (.t 156)) [0,1,0,1,2,3,4],oN (.store 1 (.t 160) (.t 159)) [5,4,0,1,2,3,4]]) (.seq (.reg [oP 161 (.call 58 []) [],oM 19 161 [0,0,0]]) (.seq (.reg [oM 162 9 [],oM 163 15 [],oM 164 15 [],oM 165 11 [],oP 166 (.bin .add (.t 164) (.t 165)) [2,3],oP 167 (.bin .add (.t 166) (.k (.i .i64 1))) [4],oP 168 (.slsl 1 (.t 162) (some (.t 163)) (some (.t 167)) none) [0,1,5],oP 169 (.len (.t 168)) [6],oP 170 (.mov (.k (.i .i64 0))) []]) (.block 4 (.loop ztN))))))))))) (.reg [oM 86 15 [],oP 87 (.bin .sub (.t 86) (.k (.i .i64 1))) [0],oM 15 87 [1,0,1]]))
def zuo:XC:=.seq (.reg [oP 203 (.bin .lss (.t 202) (.t 201)) []]) (.seq (.cond (.t 203) .skip (.exit 6)) (.seq (.block 7 (.seq (.reg [oM 204 202 [],oM 23 204 [0,0]]) (.drw [oM 205 22 [],oM 206 23 [],oM 207 9 [],oM 208 23 [],oP 209 (.bin .add (.t 208) (.k (.i .i64 1))) [3],oP 210 (.ixs 1 (.t 207) (.t 209)) [2,4],oP 211 (.load false 1 (.t 210)) [5],oP 212 (.cint .u64 (.t 211)) [6],oP 213 (.bin .shl (.t 212) (.k (.i .u64 32))) [7],oM 214 9 [],oM 215 23 [],oP 216 (.ixs 1 (.t 214) (.t 215)) [9,10],oP 217 (.load false 1 (.t 216)) [11],oP 218 (.cint .u64 (.t 217)) [12],oP 219 (.bin .or (.t 213) (.t 218)) [8,13],oM 220 8 [],oP 221 (.bin .shr (.t 219) (.t 220)) [14,15],oP 222 (.cint .u32 (.t 221)) [16],oP 223 (.ixs 1 (.t 205) (.t 206)) [0,1,0,1,2,3,4,5,6,7,8,9,10,11,12,13,14,15,16,17],oN (.store 1 (.t 223) (.t 222)) [18,17,0,1,2,3,4,5,6,7,8,9,10,11,12,13,14,15,16,17]] []))) (.reg [oP 224 (.bin .add (.t 202) (.k (.i .i64 1))) [],oM 202 224 [0]])))
def zti:XF:=⟨229,.seq (.reg [oP 4 (.mov (.k .sn)) [],oP 5 (.mov (.k .sn)) [0]]) (.scope (.seq (.seq (.reg [oM 24 0 [],oM 25 1 [],oP 26 (.call 41 [.t 24,.t 25]) [0,1],oP 27 (.bin .lss (.t 26) (.k (.i .i64 0))) [2]]) (.cond (.t 27) (.seq (.reg [oM 28 0 [],oP 4 (.mov (.k .sn)) [],oM 5 28 [0,1,0,1]]) .ret) .skip)) (.seq (.seq (.reg [oM 29 1 [],oP 30 (.len (.t 29)) [0],oP 31 (.bin .eql (.t 30) (.k (.i .i64 1))) [1]]) (.cond (.t 31) (.seq (.reg [oM 33 0 [],oM 34 1 [],oP 35 (.ixs 1 (.t 34) (.k (.i .i64 0))) [1],oP 36 (.load false 1 (.t 35)) [2],oP 37 (.call 48 [.t 33,.t 36]) [0,3],oM 32 37 [4],oP 38 (.ext (.t 32) 0) [5],oP 39 (.ext (.t 32) 1) [5],oM 6 38 [6,4,0,1,2,3,4,5,6],oM 7 39 [7,8,0,1,2,3,4,5,6,7,8]]) (.seq (.reg [oM 40 6 [],oP 41 (.call 49 [.t 40]) [0],oM 42 7 [],oP 43 (.bsl 1 1 [.i .u32 0] [(0,(1,.t 42))]) [2],oP 44 (.call 49 [.t 43]) [3,1],oM 4 41 [1,4,0,1],oM 5 44 [4,5,0,1,2,3,4,5]]) .ret)) .skip)) (.seq (.reg [oM 45 1 [],oM 46 1 [],oP 47 (.len (.t 46)) [1],oP 48 (.bin .sub (.t 47) (.k (.i .i64 1))) [2],oP 49 (.ixs 1 (.t 45) (.t 48)) [0,3],oP 50 (.load false 1 (.t 49)) [4],oP 51 (.call 55 [.t 50]) [5],oM 8 51 [6,6,0,1,2,3,4,5,6]]) (.seq (.drw [oM 52 0 [],oM 53 8 [],oP 54 (.call 56 [.t 52,.t 53]) [0,1],oM 55 1 [],oM 56 8 [],oP 57 (.call 56 [.t 55,.t 56]) [3,4,2],oM 58 1 [],oP 59 (.len (.t 58)) [6],oP 60 (.slsl 1 (.t 57) none (some (.t 59)) none) [5,7],oM 9 54 [2,5,0,1,2],oM 10 60 [8,9,0,1,2,3,4,5,6,7,8,9]] []) (.seq (.reg [oM 61 10 [],oP 62 (.len (.t 61)) [0],oM 11 62 [1,0,1]]) (.seq (.reg [oM 63 0 [],oP 64 (.len (.t 63)) [0],oM 65 11 [],oP 66 (.bin .sub (.t 64) (.t 65)) [1,2],oP 67 (.bin .add (.t 66) (.k (.i .i64 1))) [3],oP 68 (.msl [.i .u32 0] 4 (.t 67) (.t 67)) [4,4],oM 12 68 [5,0,1,2,3,4,5]]) (.seq (.drw [oM 69 10 [],oM 70 11 [],oP 71 (.bin .sub (.t 70) (.k (.i .i64 1))) [1],oP 72 (.ixs 1 (.t 69) (.t 71)) [0,2],oP 73 (.load false 1 (.t 72)) [3],oP 74 (.cint .u64 (.t 73)) [4],oM 75 10 [],oM 76 11 [],oP 77 (.bin .sub (.t 76) (.k (.i .i64 2))) [7],oP 78 (.ixs 1 (.t 75) (.t 77)) [6,8],oP 79 (.load false 1 (.t 78)) [9],oP 80 (.cint .u64 (.t 79)) [10],oM 13 74 [5,0,1,2,3,4,5],oM 14 80 [11,12,0,1,2,3,4,5,6,7,8,9,10,11,12]] []) (.seq .skip (.seq (.seq (.reg [oM 81 12 [],oP 82 (.len (.t 81)) [0],oP 83 (.bin .sub (.t 82) (.k (.i .i64 1))) [1],oM 15 83 [2,0,1,2]]) (.block 0 (.loop zuk))) (.seq (.reg [oM 198 11 [],oP 199 (.msl [.i .u32 0] 4 (.t 198) (.t 198)) [0,0],oM 22 199 [1,0,1]]) (.seq (.seq (.reg [oM 200 22 [],oP 201 (.len (.t 200)) [0],oP 202 (.mov (.k (.i .i64 0))) []]) (.block 6 (.loop zuo))) (.seq (.reg [oM 225 12 [],oP 226 (.call 49 [.t 225]) [0],oM 227 22 [],oP 228 (.call 49 [.t 227]) [2,1],oM 4 226 [1,3,0,1],oM 5 228 [3,4,0,1,2,3,4]]) .ret))))))))))))),[.tmp 4,.tmp 5]⟩
def ztk:XF:=⟨16,.seq (.reg [oP 4 (.mov (.k .sn)) []]) (.seq (.reg [oM 6 0 [],oP 7 (.len (.t 6)) [0],oP 8 (.msl [.i .u32 0] 4 (.t 7) (.t 7)) [1,1],oM 5 8 [2,0,1,2]]) (.seq (.reg [oM 9 5 [],oM 10 0 [],oP 11 (.cpy 1 (.t 9) (.t 10)) [0,1]]) (.seq (.reg [oM 12 5 [],oM 13 1 [],oP 14 (.call 62 [.t 12,.t 13]) [0,1]]) (.seq (.reg [oM 15 5 [],oM 4 15 [0,0]]) .ret)))),[.tmp 4]⟩
def zuN:XC:=.seq (.seq (.reg [oM 19 6 [],oP 20 (.bin .geq (.t 19) (.k (.i .i64 0))) [0]]) (.cond (.t 20) .skip (.exit 0))) (.seq (.block 1 (.seq (.drw [oM 23 0 [],oM 24 6 [],oP 25 (.ixs 1 (.t 23) (.t 24)) [0,1],oP 26 (.load false 1 (.t 25)) [2],oM 27 1 [],oM 28 6 [],oP 29 (.ixs 1 (.t 27) (.t 28)) [4,5],oP 30 (.load false 1 (.t 29)) [6],oP 31 (.call 61 [.t 26,.t 30]) [3,7],oM 7 31 [8,8,0,1,2,3,4,5,6,7,8]] []) (.seq (.reg [oM 32 7 [],oP 33 (.bin .neq (.t 32) (.k (.i .i64 0))) [0]]) (.cond (.t 33) (.seq (.reg [oM 34 7 [],oM 4 34 [0,0]]) .ret) .skip)))) (.reg [oM 21 6 [],oP 22 (.bin .sub (.t 21) (.k (.i .i64 1))) [0],oM 6 22 [1,0,1]]))
def ztG:XF:=⟨35,.seq (.reg [oP 4 (.mov (.k (.i .i64 0))) []]) (.seq (.seq (.reg [oM 8 0 [],oP 9 (.len (.t 8)) [0],oM 10 1 [],oP 11 (.len (.t 10)) [2],oP 12 (.call 60 [.t 9,.t 11]) [1,3],oM 5 12 [4,4,0,1,2,3,4]]) (.seq (.reg [oM 13 5 [],oP 14 (.bin .neq (.t 13) (.k (.i .i64 0))) [0]]) (.cond (.t 14) (.seq (.reg [oM 15 5 [],oM 4 15 [0,0]]) .ret) .skip))) (.seq (.seq (.reg [oM 16 0 [],oP 17 (.len (.t 16)) [0],oP 18 (.bin .sub (.t 17) (.k (.i .i64 1))) [1],oM 6 18 [2,0,1,2]]) (.block 0 (.loop zuN))) (.seq (.reg [oP 4 (.mov (.k (.i .i64 0))) []]) .ret))),[.tmp 4]⟩
def zux:XF:=⟨19,.seq (.reg [oP 2 (.box (.t 0)) [],oP 3 (.box (.t 1)) [],oP 4 (.new [.b false,.sn]) [],oP 5 (.mov (.k (.i .i64 0))) []]) (.seq (.drw [oP 6 (.fad 0 (.t 2)) [],oP 7 (.load false 1 (.t 6)) [0],oP 8 (.fad 0 (.t 3)) [],oP 9 (.load false 1 (.t 8)) [2],oP 10 (.eqt true 0 (.t 7) (.t 9)) [1,3],oP 11 (.fad 1 (.t 2)) [],oP 12 (.load false 1 (.t 11)) [5],oP 13 (.fad 1 (.t 3)) [],oP 14 (.load false 1 (.t 13)) [7],oP 15 (.call 59 [.t 12,.t 14]) [6,8],oP 16 (.call 36 [.t 10,.t 15]) [4,9,9],oP 17 (.ext (.t 16) 0) [10],oP 18 (.ext (.t 16) 1) [10],oN (.store 2 (.t 4) (.t 17)) [11,10,0,1,2,3,4,5,6,7,8,9,10,11,12],oM 5 18 [12,13,0,1,2,3,4,5,6,7,8,9,10,11,12,13]] [(1,9),(3,9)]) .ret),[.cell 4 true 2,.tmp 5]⟩
def ztM:XF:=⟨3,.seq (.reg [oP 0 (.mov (.k .fnil)) []]) (.seq (.reg [oP 1 (.new [.i .u64 0]) []]) (.seq (.reg [oP 2 (.mfn 77 [.t 1]) [],oM 0 2 [0,0]]) .ret)),[.tmp 0]⟩
def zuz:XF:=⟨12,.seq (.reg [oP 2 (.box (.t 0)) [],oP 3 (.box (.t 1)) [],oP 4 (.new [.b false,.sn]) [],oP 5 (.mov (.k (.i .i64 0))) []]) (.seq (.drw [oP 6 (.load true 2 (.t 2)) [],oP 7 (.load true 2 (.t 3)) [],oP 8 (.call 43 [.t 7]) [1],oP 9 (.call 23 [.t 6,.t 8]) [0,2,2],oP 10 (.ext (.t 9) 0) [3],oP 11 (.ext (.t 9) 1) [3],oN (.store 2 (.t 4) (.t 10)) [4,3,0,1,2,3,4,5],oM 5 11 [5,6,0,1,2,3,4,5,6]] [(0,2)]) .ret),[.cell 4 true 2,.tmp 5]⟩
def ztW:XC:=.seq (.reg [oP 13 (.bin .lss (.t 12) (.t 11)) []]) (.seq (.cond (.t 13) .skip (.exit 0)) (.seq (.block 1 (.seq (.reg [oP 14 (.ixs 2 (.t 10) (.t 12)) [],oP 15 (.load true 2 (.t 14)) [0],oP 6 (.new [.b false,.sn]) [],oN (.store 2 (.t 6) (.t 15)) [2,1,0,1,2]]) (.seq (.reg [oP 17 (.load true 2 (.t 4)) [],oP 18 (.load true 2 (.t 6)) [],oP 19 (.call 38 [.t 17,.t 18]) [0,1],oM 16 19 [2],oP 20 (.ext (.t 16) 0) [3],oP 21 (.ext (.t 16) 1) [3],oP 7 (.new [.b false,.sn]) [],oN (.store 2 (.t 7) (.t 20)) [6,4,2,0,1,2,3,4,6],oM 8 21 [5,7,0,1,2,3,4,5,6,7]]) (.seq (.seq (.reg [oM 22 8 [],oP 23 (.bin .neq (.t 22) (.k (.i .i64 0))) [0]]) (.cond (.t 23) (.seq (.reg [oP 24 (.build [.b false,.sn] []) [],oM 25 8 [],oN (.store 2 (.t 2) (.t 24)) [0,0],oM 3 25 [1,2,0,1,2]]) .ret) .skip)) (.reg [oP 26 (.load true 2 (.t 7)) [],oN (.store 2 (.t 4) (.t 26)) [0,0]]))))) (.reg [oP 27 (.bin .add (.t 12) (.k (.i .i64 1))) [],oM 12 27 [0]])))
def zt4:XF:=⟨29,.seq (.reg [oP 2 (.new [.b false,.sn]) [],oP 3 (.mov (.k (.i .i64 0))) []]) (.seq (.reg [oP 9 (.call 34 [.k (.i .i64 1)]) [],oP 4 (.new [.b false,.sn]) [],oN (.store 2 (.t 4) (.t 9)) [1,0,0,0,1]]) (.seq (.seq (.reg [oM 10 0 [],oP 11 (.len (.t 10)) [0],oP 12 (.mov (.k (.i .i64 0))) []]) (.block 0 (.loop ztW))) (.seq (.reg [oP 28 (.load true 2 (.t 4)) [],oN (.store 2 (.t 2) (.t 28)) [0,0],oP 3 (.mov (.k (.i .i64 0))) [1,0,1]]) .ret))),[.cell 2 true 2,.tmp 3]⟩
def ztj:XF:=⟨6,.seq (.reg [oP 2 (.mov (.k (.i .i64 0))) []]) (.seq (.reg [oM 3 0 [],oP 4 (.call 76 [.t 3]) [0],oP 5 (.bin .sub (.k (.i .i64 32)) (.t 4)) [1],oM 2 5 [2,1,0,1,2]]) .ret),[.tmp 2]⟩
def zt8:XC:=.seq (.reg [oP 16 (.bin .lss (.t 15) (.t 14)) []]) (.seq (.cond (.t 16) .skip (.exit 0)) (.seq (.block 1 (.seq (.reg [oM 17 15 [],oP 18 (.ixs 1 (.t 13) (.t 15)) [],oP 19 (.load false 1 (.t 18)) [1],oM 6 17 [0,0,1,2],oM 7 19 [2,3,0,1,2,3]]) (.seq (.reg [oM 20 7 [],oP 21 (.cint .u64 (.t 20)) [0],oM 22 1 [],oP 23 (.bin .shl (.t 21) (.t 22)) [1,2],oM 8 23 [3,0,1,2,3]]) (.seq (.reg [oM 24 5 [],oM 25 6 [],oP 26 (.ixs 1 (.t 24) (.t 25)) [0,1],oP 27 (.load false 1 (.t 26)) [2],oM 28 8 [],oP 29 (.cint .u32 (.t 28)) [4],oP 30 (.bin .or (.t 27) (.t 29)) [3,5],oP 31 (.ixs 1 (.t 24) (.t 25)) [0,1,0,1,2,3,4,5,6],oN (.store 1 (.t 31) (.t 30)) [7,6,0,1,2,3,4,5,6]]) (.reg [oM 32 5 [],oM 33 6 [],oP 34 (.bin .add (.t 33) (.k (.i .i64 1))) [1],oM 35 8 [],oP 36 (.bin .shr (.t 35) (.k (.i .u64 32))) [3],oP 37 (.cint .u32 (.t 36)) [4],oP 38 (.ixs 1 (.t 32) (.t 34)) [0,2,0,1,2,3,4,5],oN (.store 1 (.t 38) (.t 37)) [6,5,0,1,2,3,4,5]]))))) (.reg [oP 39 (.bin .add (.t 15) (.k (.i .i64 1))) [],oM 15 39 [0]])))
def ztL:XF:=⟨41,.seq (.reg [oP 4 (.mov (.k .sn)) []]) (.seq (.reg [oM 9 0 [],oP 10 (.len (.t 9)) [0],oP 11 (.bin .add (.t 10) (.k (.i .i64 1))) [1],oP 12 (.msl [.i .u32 0] 4 (.t 11) (.t 11)) [2,2],oM 5 12 [3,0,1,2,3]]) (.seq (.seq (.reg [oM 13 0 [],oP 14 (.len (.t 13)) [0],oP 15 (.mov (.k (.i .i64 0))) []]) (.block 0 (.loop zt8))) (.seq (.reg [oM 40 5 [],oM 4 40 [0,0]]) .ret))),[.tmp 4]⟩
def zt7:XC:=.seq (.reg [oP 15 (.bin .lss (.t 14) (.t 13)) []]) (.seq (.cond (.t 15) .skip (.exit 0)) (.seq (.block 1 (.seq (.reg [oM 16 14 [],oM 9 16 [0,0]]) (.seq (.reg [oM 17 7 [],oM 10 17 [0,0]]) (.seq (.seq (.reg [oM 18 9 [],oM 19 1 [],oP 20 (.len (.t 19)) [1],oP 21 (.bin .lss (.t 18) (.t 20)) [0,2]]) (.cond (.t 21) (.reg [oM 22 10 [],oM 23 2 [],oM 24 1 [],oM 25 9 [],oP 26 (.ixs 1 (.t 24) (.t 25)) [2,3],oP 27 (.load false 1 (.t 26)) [4],oP 28 (.cint .u64 (.t 27)) [5],oP 29 (.bin .mul (.t 23) (.t 28)) [1,6],oP 30 (.bin .add (.t 22) (.t 29)) [0,7],oM 10 30 [8,0,1,2,3,4,5,6,7,8]]) .skip)) (.seq (.reg [oM 31 10 [],oP 32 (.bin .shr (.t 31) (.k (.i .u64 32))) [0],oM 7 32 [1,0,1]]) (.seq (.reg [oM 33 0 [],oM 34 9 [],oP 35 (.ixs 1 (.t 33) (.t 34)) [0,1],oP 36 (.load false 1 (.t 35)) [2],oP 37 (.cint .u64 (.t 36)) [3],oM 38 10 [],oP 39 (.cint .u32 (.t 38)) [5],oP 40 (.cint .u64 (.t 39)) [6],oP 41 (.bin .sub (.t 37) (.t 40)) [4,7],oM 42 8 [],oP 43 (.bin .sub (.t 41) (.t 42)) [8,9],oM 11 43 [10,0,1,2,3,4,5,6,7,8,9,10]]) (.seq (.reg [oM 44 0 [],oM 45 9 [],oM 46 11 [],oP 47 (.cint .u32 (.t 46)) [2],oP 48 (.ixs 1 (.t 44) (.t 45)) [0,1,0,1,2,3],oN (.store 1 (.t 48) (.t 47)) [4,3,0,1,2,3]]) (.reg [oM 49 11 [],oP 50 (.bin .shr (.t 49) (.k (.i .u64 63))) [0],oM 8 50 [1,0,1]])))))))) (.reg [oP 51 (.bin .add (.t 14) (.k (.i .i64 1))) [],oM 14 51 [0]])))
def zuj:XF:=⟨54,.seq (.reg [oP 6 (.mov (.k (.b false))) []]) (.seq (.reg [oP 7 (.mov (.k (.i .u64 0))) [],oP 8 (.mov (.k (.i .u64 0))) [0]]) (.seq (.seq (.reg [oM 12 0 [],oP 13 (.len (.t 12)) [0],oP 14 (.mov (.k (.i .i64 0))) []]) (.block 0 (.loop zt7))) (.seq (.reg [oM 52 8 [],oP 53 (.bin .gtr (.t 52) (.k (.i .u64 0))) [0],oM 6 53 [1,0,1]]) .ret))),[.tmp 6]⟩
def ztt:XC:=.seq (.reg [oP 12 (.bin .lss (.t 11) (.t 10)) []]) (.seq (.cond (.t 12) .skip (.exit 0)) (.seq (.block 1 (.seq (.reg [oM 13 11 [],oM 6 13 [0,0]]) (.seq (.reg [oM 14 5 [],oM 7 14 [0,0]]) (.seq (.seq (.reg [oM 15 6 [],oM 16 1 [],oP 17 (.len (.t 16)) [1],oP 18 (.bin .lss (.t 15) (.t 17)) [0,2]]) (.cond (.t 18) (.reg [oM 19 7 [],oM 20 1 [],oM 21 6 [],oP 22 (.ixs 1 (.t 20) (.t 21)) [1,2],oP 23 (.load false 1 (.t 22)) [3],oP 24 (.cint .u64 (.t 23)) [4],oP 25 (.bin .add (.t 19) (.t 24)) [0,5],oM 7 25 [6,0,1,2,3,4,5,6]]) .skip)) (.seq (.reg [oM 26 0 [],oM 27 6 [],oP 28 (.ixs 1 (.t 26) (.t 27)) [0,1],oP 29 (.load false 1 (.t 28)) [2],oP 30 (.cint .u64 (.t 29)) [3],oM 8 30 [4,0,1,2,3,4]]) (.seq (.reg [oP 5 (.mov (.k (.i .u64 0))) []]) (.seq (.seq (.reg [oM 31 7 [],oM 32 8 [],oP 33 (.bin .gtr (.t 31) (.t 32)) [0,1]]) (.cond (.t 33) (.seq (.reg [oM 34 8 [],oP 35 (.bin .add (.t 34) (.k (.i .u64 4294967296))) [0],oM 8 35 [1,0,1]]) (.reg [oP 5 (.mov (.k (.i .u64 1))) []])) .skip)) (.reg [oM 36 0 [],oM 37 6 [],oM 38 8 [],oM 39 7 [],oP 40 (.bin .sub (.t 38) (.t 39)) [2,3],oP 41 (.cint .u32 (.t 40)) [4],oP 42 (.ixs 1 (.t 36) (.t 37)) [0,1,0,1,2,3,4,5],oN (.store 1 (.t 42) (.t 41)) [6,5,0,1,2,3,4,5]])))))))) (.reg [oP 43 (.bin .add (.t 11) (.k (.i .i64 1))) [],oM 11 43 [0]])))
def ztl:XF:=⟨46,.seq (.reg [oP 4 (.mov (.k (.i .u32 0))) []]) (.seq (.reg [oP 5 (.mov (.k (.i .u64 0))) []]) (.seq (.seq (.reg [oM 9 0 [],oP 10 (.len (.t 9)) [0],oP 11 (.mov (.k (.i .i64 0))) []]) (.block 0 (.loop ztt))) (.seq (.reg [oM 44 5 [],oP 45 (.cint .u32 (.t 44)) [0],oM 4 45 [1,0,1]]) .ret))),[.tmp 4]⟩
def ztv:XF:=⟨20,.seq (.reg [oP 4 (.mov (.k (.i .i64 0))) []]) (.seq (.reg [oM 7 0 [],oP 8 (.call 78 [.t 7]) [0],oM 5 8 [1,1,0,1]]) (.seq (.reg [oM 9 1 [],oP 10 (.call 78 [.t 9]) [0],oM 6 10 [1,1,0,1]]) (.seq (.seq (.reg [oM 11 5 []]) (.cond (.t 11) (.seq (.seq (.reg [oM 12 6 []]) (.cond (.t 12) (.seq (.reg [oP 4 (.mov (.k (.i .i64 0))) []]) .ret) .skip)) (.seq (.reg [oP 4 (.mov (.k (.i .i64 (-1)))) []]) .ret)) .skip)) (.seq (.seq (.reg [oM 13 6 []]) (.cond (.t 13) (.seq (.reg [oP 4 (.mov (.k (.i .i64 1))) []]) .ret) .skip)) (.seq (.seq (.reg [oM 14 0 [],oM 15 1 [],oP 16 (.bin .lss (.t 14) (.t 15)) [0,1]]) (.cond (.t 16) (.seq (.reg [oP 4 (.mov (.k (.i .i64 (-1)))) []]) .ret) .skip)) (.seq (.seq (.reg [oM 17 0 [],oM 18 1 [],oP 19 (.bin .gtr (.t 17) (.t 18)) [0,1]]) (.cond (.t 19) (.seq (.reg [oP 4 (.mov (.k (.i .i64 1))) []]) .ret) .skip)) (.seq (.reg [oP 4 (.mov (.k (.i .i64 0))) []]) .ret))))))),[.tmp 4]⟩
def ztm:XF:=⟨20,.seq (.reg [oP 4 (.mov (.k (.i .i64 0))) []]) (.seq (.reg [oM 7 0 [],oP 8 (.call 79 [.t 7]) [0],oM 5 8 [1,1,0,1]]) (.seq (.reg [oM 9 1 [],oP 10 (.call 79 [.t 9]) [0],oM 6 10 [1,1,0,1]]) (.seq (.seq (.reg [oM 11 5 []]) (.cond (.t 11) (.seq (.seq (.reg [oM 12 6 []]) (.cond (.t 12) (.seq (.reg [oP 4 (.mov (.k (.i .i64 0))) []]) .ret) .skip)) (.seq (.reg [oP 4 (.mov (.k (.i .i64 (-1)))) []]) .ret)) .skip)) (.seq (.seq (.reg [oM 13 6 []]) (.cond (.t 13) (.seq (.reg [oP 4 (.mov (.k (.i .i64 1))) []]) .ret) .skip)) (.seq (.seq (.reg [oM 14 0 [],oM 15 1 [],oP 16 (.bin .lss (.t 14) (.t 15)) [0,1]]) (.cond (.t 16) (.seq (.reg [oP 4 (.mov (.k (.i .i64 (-1)))) []]) .ret) .skip)) (.seq (.seq (.reg [oM 17 0 [],oM 18 1 [],oP 19 (.bin .gtr (.t 17) (.t 18)) [0,1]]) (.cond (.t 19) (.seq (.reg [oP 4 (.mov (.k (.i .i64 1))) []]) .ret) .skip)) (.seq (.reg [oP 4 (.mov (.k (.i .i64 0))) []]) .ret))))))),[.tmp 4]⟩
def zty:XF:=⟨13,.seq (.reg [oP 3 (.mov (.k (.i .u32 0))) []]) (.seq (.reg [oP 5 (.load false 1 (.t 1)) [],oM 6 0 [],oP 7 (.bin .add (.t 5) (.t 6)) [0,1],oN (.store 1 (.t 1) (.t 7)) [2,0,1,2]]) (.seq (.reg [oP 8 (.load false 1 (.t 1)) [],oP 9 (.cint .u32 (.t 8)) [0],oM 4 9 [1,0,1]]) (.seq (.reg [oP 10 (.load false 1 (.t 1)) [],oP 11 (.bin .shr (.t 10) (.k (.i .u64 32))) [0],oN (.store 1 (.t 1) (.t 11)) [1,0,1]]) (.seq (.reg [oM 12 4 [],oM 3 12 [0,0]]) .ret)))),[.tmp 3]⟩
def ztw:XF:=⟨19,.seq (.reg [oP 2 (.mov (.k (.i .i64 0))) []]) (.seq (.seq (.reg [oM 3 0 [],oP 4 (.bin .geq (.t 3) (.k (.i .u32 65536))) [0]]) (.cond (.t 4) (.seq (.reg [oM 5 0 [],oP 6 (.bin .shr (.t 5) (.k (.i .u64 16))) [0],oM 0 6 [1,0,1]]) (.reg [oP 2 (.mov (.k (.i .i64 16))) []])) .skip)) (.seq (.seq (.reg [oM 7 0 [],oP 8 (.bin .geq (.t 7) (.k (.i .u32 256))) [0]]) (.cond (.t 8) (.seq (.reg [oM 9 0 [],oP 10 (.bin .shr (.t 9) (.k (.i .u64 8))) [0],oM 0 10 [1,0,1]]) (.reg [oM 11 2 [],oP 12 (.bin .add (.t 11) (.k (.i .i64 8))) [0],oM 2 12 [1,0,1]])) .skip)) (.seq (.reg [oM 13 2 [],oM 14 0 [],oP 15 (.cint .u8 (.t 14)) [1],oP 16 (.istr (.k (.s xs_1d3e63)) (.t 15)) [2],oP 17 (.cint .i64 (.t 16)) [3],oP 18 (.bin .add (.t 13) (.t 17)) [0,4],oM 2 18 [5,0,1,2,3,4,5]]) .ret))),[.tmp 2]⟩
def ztz:XF:=⟨6,.seq (.reg [oP 2 (.mov (.k (.b false))) []]) (.seq (.reg [oM 3 0 [],oM 4 0 [],oP 5 (.bin .neq (.t 3) (.t 4)) [0,1],oM 2 5 [2,0,1,2]]) .ret),[.tmp 2]⟩
def zts:XF:=⟨6,.seq (.reg [oP 2 (.mov (.k (.b false))) []]) (.seq (.reg [oM 3 0 [],oM 4 0 [],oP 5 (.bin .neq (.t 3) (.t 4)) [0,1],oM 2 5 [2,0,1,2]]) .ret),[.tmp 2]⟩
noncomputable def progL:List (Option XD):=[
 none,
 none,
 none,
 none,
 none,
 none,
 none,
 none,
 some (.fn zuE),
 some (.fn zuD),
 none,
 none,
 none,
 none,
 none,
 none,
 some (.fn ztd),
 some (.fn zuG),
 some (.fn zuu),
 some (.fn zth),
 some (.fn zt4),
 some (.fn zuc),
 some (.fn ztr),
 some (.fn zuB),
 some (.fn ztx),
 none,
 none,
 none,
 none,
 some (.fn zuv),
 some (.fn ztJ),
 some (.fn zuf),
 none,
 some (.orc (orcA 33)),
 some (.fn zud),
 some (.fn zti),
 some (.fn ztU),
 some (.fn zuh),
 some (.fn zux),
 some (.fn zuz),
 some (.fn zus),
 some (.fn ztG),
 some (.fn ztk),
 some (.fn zuw),
 some (.fn ztT),
 none,
 none,
 none,
 some (.fn ztI),
 some (.fn ztB),
 some (.orc (orcA 50)),
 some (.orc (orcA 51)),
 none,
 none,
 none,
 some (.fn ztj),
 some (.fn ztL),
 some (.fn zuj),
 some (.fn ztM),
 some (.fn ztu),
 some (.fn ztv),
 some (.fn ztm),
 some (.fn ztl),
 some (.fn ztq),
 some (.fn ztg),
 some (.fn zuF),
 none,
 some (.fn zug),
 none,
 none,
 none,
 none,
 none,
 none,
 none,
 none,
 some (.fn ztw),
 some (.fn zty),
 some (.fn ztz),
 some (.fn zts),
 some (.fn zte),
 none,
 none,
 none,
 none,
 none,
 none,
 none,
 none,
 none,
 none,
 none,
 none,
 none,
 none,
 none,
 none,
 none,
 none,
 none,
 none,
 none,
 none,
 none,
 none,
 none,
 none,
 none,
 none,
 none,
 none,
 none,
 none,
 none,
 none,
 none,
 none,
 none,
 none,
 none,
 none,
 none,
 none,
 none,
 none,
 none,
 none,
 none,
 none,
 none,
 some (.orc (orcA 130)),
 some (.orc (orcA 131)),
 none,
 none,
 none,
 none,
 none,
 none,
 none,
 none,
 none,
 none,
 none,
 none,
 none,
 none,
 none,
 none,
 none,
 none,
 none,
 none,
 none,
 none,
 none,
 none,
 none,
 none,
 none,
 none,
 none,
 none,
 none,
 none,
 none,
 none,
 none,
 none,
 none,
 none,
 none,
 none,
 none,
 none,
 none,
 none,
 none,
 none,
 none,
 none,
 some (.fn zto),
 none,
 none,
 none,
 none,
 none,
 none,
 none,
 none,
 none,
 none,
 none,
 none,
 none,
 none,
 none,
 none,
 none,
 none,
 none,
 none,
 none,
 some (.fn zue),
 some (.fn x___skymosaic_wire_Writer__Done),
 none,
 some (.fn x___skymosaic_wire_Reader__End),
 none,
 none,
 none,
 none,
 some (.fn x___skymosaic_wire_Writer__Uint),
 some (.fn ztc),
 none,
 none,
 none,
 none,
 none,
 none,
 some (.fn x___skymosaic_wire_Reader__next),
 none,
 none,
 none,
 some (.orc (orcA 222)),
 some (.fn x___skymosaic_wire_Reader__Uint),
 some (.fn x___skymosaic_wire_Reader__fail),
 none,
 none,
 none,
 none,
 none,
 none,
 none,
 none,
 none,
 none,
 none,
 none,
 none,
 none,
 none,
 none,
 none,
 none,
 none,
 none,
 none,
 none,
 none,
 none,
 some (.fn x___skymosaic_wire_Reader__Int),
 none,
 none,
 none,
 none,
 none,
 none,
 none,
 none,
 none,
 none,
 none,
 none,
 none,
 none,
 none,
 none,
 none,
 some (.fn x___skymosaic_wire_Writer__Int),
 none,
 none,
 none,
 some (.fn zuJ),
 none,
 some (.fn ztE),
 none,
 none,
 none,
 none,
 none,
 none,
 none,
 none,
 none,
 some (.fn ztp),
 none,
 some (.fn zuC),
 some (.fn zt3),
 none,
 none,
 none,
 none,
 none,
 none,
 none,
 none,
 none,
 none,
 none,
 none,
 none,
 none,
 some (.fn zuA),
 some (.fn zt1),
 some (.fn zui),
 some (.fn zub),
 some (.fn ztZ),
 some (.fn zut),
 some (.fn zuH),
 some (.fn ztn),
 some (.fn zua),
 some (.fn zup),
 some (.fn ztK),
 some (.fn zt9),
 some (.fn ztX),
 some (.fn ztR),
 some (.fn zt5),
 some (.fn ztF),
 some (.fn zt0),
 some (.fn zs8),
 some (.fn ztY),
 some (.fn ztH),
 none,
 none,
 some (.fn ztD),
 none,
 none,
 none,
 none,
 none,
 none,
 some (.fn zs9),
 none,
 none,
 none,
 none,
 none,
 none,
 none,
 some (.fn ztV),
 some (.fn ztQ),
 some (.fn zt2),
 none,
 none,
 none,
 none,
 none,
 none,
 none,
 none,
 none,
 none,
 none,
 none,
 none,
 none,
 none,
 none,
 none,
 none,
 none,
 none,
 none,
 none,
 none,
 none,
 none,
 none,
 none,
 none,
 none,
 none,
 none,
 none,
 none,
 none,
 none,
 none,
 none,
 none,
 none,
 none,
 none,
 none,
 none,
 none,
 none,
 none,
 none,
 none,
 none,
 none,
 none,
 none,
 none,
 none,
 none,
 none,
 none,
 none,
 none,
 none,
 none,
 none,
 none,
 none,
 none,
 none,
 none,
 none,
 none,
 none,
 none,
 none,
 none,
 none,
 none,
 none,
 none,
 none,
 none,
 none,
 none,
 none,
 none,
 none,
 none,
 none,
 none,
 none,
 none,
 none,
 none,
 none,
 none,
 none,
 none,
 none,
 none,
 none,
 none,
 none,
 none,
 none,
 none,
 none,
 none,
 none,
 none,
 none,
 none,
 none,
 none,
 none,
 none,
 none,
 none,
 none,
 none,
 none,
 none,
 none,
 none,
 none,
 none,
 none,
 none,
 none,
 none,
 none,
 none,
 none,
 none,
 none,
 none,
 none,
 none,
 none,
 none,
 none,
 none,
 none,
 none,
 none,
 none,
 none,
 none,
 none,
 none,
 none,
 none,
 none,
 none,
 none,
 none,
 none,
 none,
 none,
 none,
 none,
 none,
 none,
 none,
 none,
 none,
 none,
 none,
 none,
 none,
 none,
 none,
 none,
 none,
 none,
 none,
 none,
 none,
 none,
 none,
 none,
 none]
noncomputable def prog (f:Nat):Option XD:=(progL[f]?).join
end Go.Eng
namespace Go.Eng
def impL:List Nat:=[52,53,54,56,57,58,62,73,74,75,77,86,89,90,201,202,204,205,210,212,217,218,223,224,249,263,267,268,269,284,318,419,463,473]
noncomputable def E0:PEnv:={ prog:=prog,pure:=fun f => !(impL.contains f),glob:=globG,orc:=orcP,ovr:=ovrP }
@[go_sem] theorem zsA (a:List PV) (M:PM):pcl E0 8 a M=pclA E0 8 M (fzL (fz M fzD) a):=zae a M rfl
@[go_sem] theorem zsB (a:List PV) (M:PM):pcl E0 9 a M=pclA E0 9 M (fzL (fz M fzD) a):=zae a M rfl
@[go_sem] theorem zq3 (a:List PV) (M:PM):pcl E0 16 a M=pclA E0 16 M (fzL (fz M fzD) a):=zae a M rfl
@[go_sem] theorem zq4 (a:List PV) (M:PM):pcl E0 17 a M=pclA E0 17 M (fzL (fz M fzD) a):=zae a M rfl
@[go_sem] theorem zq5 (a:List PV) (M:PM):pcl E0 18 a M=pclA E0 18 M (fzL (fz M fzD) a):=zae a M rfl
@[go_sem] theorem zq6 (a:List PV) (M:PM):pcl E0 19 a M=pclA E0 19 M (fzL (fz M fzD) a):=zae a M rfl
@[go_sem] theorem zq7 (a:List PV) (M:PM):pcl E0 20 a M=pclA E0 20 M (fzL (fz M fzD) a):=zae a M rfl
@[go_sem] theorem zq8 (a:List PV) (M:PM):pcl E0 21 a M=pclA E0 21 M (fzL (fz M fzD) a):=zae a M rfl
@[go_sem] theorem zq9 (a:List PV) (M:PM):pcl E0 22 a M=pclA E0 22 M (fzL (fz M fzD) a):=zae a M rfl
@[go_sem] theorem zra (a:List PV) (M:PM):pcl E0 23 a M=pclA E0 23 M (fzL (fz M fzD) a):=zae a M rfl
@[go_sem] theorem zrb (a:List PV) (M:PM):pcl E0 24 a M=pclA E0 24 M (fzL (fz M fzD) a):=zae a M rfl
@[go_sem] theorem zrc (a:List PV) (M:PM):pcl E0 29 a M=pclA E0 29 M (fzL (fz M fzD) a):=zae a M rfl
@[go_sem] theorem zrd (a:List PV) (M:PM):pcl E0 30 a M=pclA E0 30 M (fzL (fz M fzD) a):=zae a M rfl
@[go_sem] theorem zre (a:List PV) (M:PM):pcl E0 31 a M=pclA E0 31 M (fzL (fz M fzD) a):=zae a M rfl
@[go_sem] theorem zrf (a:List PV) (M:PM):pcl E0 33 a M=pclA E0 33 M (fzL (fz M fzD) a):=zae a M rfl
@[go_sem] theorem zrg (a:List PV) (M:PM):pcl E0 34 a M=pclA E0 34 M (fzL (fz M fzD) a):=zae a M rfl
@[go_sem] theorem zrh (a:List PV) (M:PM):pcl E0 35 a M=pclA E0 35 M (fzL (fz M fzD) a):=zae a M rfl
@[go_sem] theorem zri (a:List PV) (M:PM):pcl E0 36 a M=pclA E0 36 M (fzL (fz M fzD) a):=zae a M rfl
@[go_sem] theorem zrj (a:List PV) (M:PM):pcl E0 37 a M=pclA E0 37 M (fzL (fz M fzD) a):=zae a M rfl
@[go_sem] theorem zrk (a:List PV) (M:PM):pcl E0 38 a M=pclA E0 38 M (fzL (fz M fzD) a):=zae a M rfl
@[go_sem] theorem zrl (a:List PV) (M:PM):pcl E0 39 a M=pclA E0 39 M (fzL (fz M fzD) a):=zae a M rfl
@[go_sem] theorem zrm (a:List PV) (M:PM):pcl E0 40 a M=pclA E0 40 M (fzL (fz M fzD) a):=zae a M rfl
@[go_sem] theorem zrn (a:List PV) (M:PM):pcl E0 41 a M=pclA E0 41 M (fzL (fz M fzD) a):=zae a M rfl
@[go_sem] theorem zro (a:List PV) (M:PM):pcl E0 42 a M=pclA E0 42 M (fzL (fz M fzD) a):=zae a M rfl
@[go_sem] theorem zrp (a:List PV) (M:PM):pcl E0 43 a M=pclA E0 43 M (fzL (fz M fzD) a):=zae a M rfl
@[go_sem] theorem zrq (a:List PV) (M:PM):pcl E0 44 a M=pclA E0 44 M (fzL (fz M fzD) a):=zae a M rfl
@[go_sem] theorem zrr (a:List PV) (M:PM):pcl E0 48 a M=pclA E0 48 M (fzL (fz M fzD) a):=zae a M rfl
@[go_sem] theorem zrs (a:List PV) (M:PM):pcl E0 49 a M=pclA E0 49 M (fzL (fz M fzD) a):=zae a M rfl
@[go_sem] theorem zrt (a:List PV) (M:PM):pcl E0 55 a M=pclA E0 55 M (fzL (fz M fzD) a):=zae a M rfl
@[go_sem] theorem zru (a:List PV) (M:PM):pcl E0 59 a M=pclA E0 59 M (fzL (fz M fzD) a):=zae a M rfl
@[go_sem] theorem zrv (a:List PV) (M:PM):pcl E0 60 a M=pclA E0 60 M (fzL (fz M fzD) a):=zae a M rfl
@[go_sem] theorem zrw (a:List PV) (M:PM):pcl E0 61 a M=pclA E0 61 M (fzL (fz M fzD) a):=zae a M rfl
@[go_sem] theorem zrx (a:List PV) (M:PM):pcl E0 63 a M=pclA E0 63 M (fzL (fz M fzD) a):=zae a M rfl
@[go_sem] theorem zry (a:List PV) (M:PM):pcl E0 64 a M=pclA E0 64 M (fzL (fz M fzD) a):=zae a M rfl
@[go_sem] theorem zrz (a:List PV) (M:PM):pcl E0 65 a M=pclA E0 65 M (fzL (fz M fzD) a):=zae a M rfl
@[go_sem] theorem zrA (a:List PV) (M:PM):pcl E0 67 a M=pclA E0 67 M (fzL (fz M fzD) a):=zae a M rfl
@[go_sem] theorem zrB (a:List PV) (M:PM):pcl E0 76 a M=pclA E0 76 M (fzL (fz M fzD) a):=zae a M rfl
@[go_sem] theorem zrC (a:List PV) (M:PM):pcl E0 78 a M=pclA E0 78 M (fzL (fz M fzD) a):=zae a M rfl
@[go_sem] theorem zrD (a:List PV) (M:PM):pcl E0 79 a M=pclA E0 79 M (fzL (fz M fzD) a):=zae a M rfl
@[go_sem] theorem zrE (a:List PV) (M:PM):pcl E0 80 a M=pclA E0 80 M (fzL (fz M fzD) a):=zae a M rfl
@[go_sem] theorem zpB (a:List PV) (M:PM):pcl E0 180 a M=pclA E0 180 M (fzL (fz M fzD) a):=zae a M rfl
@[go_sem] theorem zpC (a:List PV) (M:PM):pcl E0 203 a M=pclA E0 203 M (fzL (fz M fzD) a):=zae a M rfl
@[go_sem] theorem zpD (a:List PV) (M:PM):pcl E0 211 a M=pclA E0 211 M (fzL (fz M fzD) a):=zae a M rfl
@[go_sem] theorem zpE (a:List PV) (M:PM):pcl E0 271 a M=pclA E0 271 M (fzL (fz M fzD) a):=zae a M rfl
@[go_sem] theorem zpF (a:List PV) (M:PM):pcl E0 273 a M=pclA E0 273 M (fzL (fz M fzD) a):=zae a M rfl
@[go_sem] theorem zpG (a:List PV) (M:PM):pcl E0 283 a M=pclA E0 283 M (fzL (fz M fzD) a):=zae a M rfl
@[go_sem] theorem zpH (a:List PV) (M:PM):pcl E0 285 a M=pclA E0 285 M (fzL (fz M fzD) a):=zae a M rfl
@[go_sem] theorem zpI (a:List PV) (M:PM):pcl E0 286 a M=pclA E0 286 M (fzL (fz M fzD) a):=zae a M rfl
@[go_sem] theorem zpJ (a:List PV) (M:PM):pcl E0 301 a M=pclA E0 301 M (fzL (fz M fzD) a):=zae a M rfl
@[go_sem] theorem zpK (a:List PV) (M:PM):pcl E0 302 a M=pclA E0 302 M (fzL (fz M fzD) a):=zae a M rfl
@[go_sem] theorem zpL (a:List PV) (M:PM):pcl E0 303 a M=pclA E0 303 M (fzL (fz M fzD) a):=zae a M rfl
@[go_sem] theorem zpM (a:List PV) (M:PM):pcl E0 304 a M=pclA E0 304 M (fzL (fz M fzD) a):=zae a M rfl
@[go_sem] theorem zpN (a:List PV) (M:PM):pcl E0 305 a M=pclA E0 305 M (fzL (fz M fzD) a):=zae a M rfl
@[go_sem] theorem zpO (a:List PV) (M:PM):pcl E0 306 a M=pclA E0 306 M (fzL (fz M fzD) a):=zae a M rfl
@[go_sem] theorem zpP (a:List PV) (M:PM):pcl E0 307 a M=pclA E0 307 M (fzL (fz M fzD) a):=zae a M rfl
@[go_sem] theorem zpQ (a:List PV) (M:PM):pcl E0 308 a M=pclA E0 308 M (fzL (fz M fzD) a):=zae a M rfl
@[go_sem] theorem zpR (a:List PV) (M:PM):pcl E0 309 a M=pclA E0 309 M (fzL (fz M fzD) a):=zae a M rfl
@[go_sem] theorem zpS (a:List PV) (M:PM):pcl E0 310 a M=pclA E0 310 M (fzL (fz M fzD) a):=zae a M rfl
@[go_sem] theorem zpT (a:List PV) (M:PM):pcl E0 311 a M=pclA E0 311 M (fzL (fz M fzD) a):=zae a M rfl
@[go_sem] theorem zpU (a:List PV) (M:PM):pcl E0 312 a M=pclA E0 312 M (fzL (fz M fzD) a):=zae a M rfl
@[go_sem] theorem zpV (a:List PV) (M:PM):pcl E0 313 a M=pclA E0 313 M (fzL (fz M fzD) a):=zae a M rfl
@[go_sem] theorem zpW (a:List PV) (M:PM):pcl E0 314 a M=pclA E0 314 M (fzL (fz M fzD) a):=zae a M rfl
@[go_sem] theorem zpX (a:List PV) (M:PM):pcl E0 315 a M=pclA E0 315 M (fzL (fz M fzD) a):=zae a M rfl
@[go_sem] theorem zpY (a:List PV) (M:PM):pcl E0 316 a M=pclA E0 316 M (fzL (fz M fzD) a):=zae a M rfl
@[go_sem] theorem zpZ (a:List PV) (M:PM):pcl E0 317 a M=pclA E0 317 M (fzL (fz M fzD) a):=zae a M rfl
@[go_sem] theorem zp0 (a:List PV) (M:PM):pcl E0 319 a M=pclA E0 319 M (fzL (fz M fzD) a):=zae a M rfl
@[go_sem] theorem zp1 (a:List PV) (M:PM):pcl E0 320 a M=pclA E0 320 M (fzL (fz M fzD) a):=zae a M rfl
@[go_sem] theorem zp2 (a:List PV) (M:PM):pcl E0 330 a M=pclA E0 330 M (fzL (fz M fzD) a):=zae a M rfl
@[go_sem] theorem zp3 (a:List PV) (M:PM):pcl E0 338 a M=pclA E0 338 M (fzL (fz M fzD) a):=zae a M rfl
@[go_sem] theorem zp4 (a:List PV) (M:PM):pcl E0 339 a M=pclA E0 339 M (fzL (fz M fzD) a):=zae a M rfl
@[go_sem] theorem zp5 (a:List PV) (M:PM):pcl E0 340 a M=pclA E0 340 M (fzL (fz M fzD) a):=zae a M rfl
theorem zlr {a:List PV} {v:PV} (h:orcP 33 a []=some (v,[])) (hz:(fz [] fzD v).map Prod.fst=some v):pf E0 33 a=some v:=zgd (o:=orcA 33) rfl h hz
end Go.Eng
namespace Go.Eng
def Ok32 (xs:List Nat):Prop:=∀x∈xs,x<4294967296
theorem zjL:∃f:Nat→Nat→Nat,∀v i,f v i=v/4294967296^i%4294967296:=⟨fun v i=>v/4294967296^i%4294967296,fun _ _=>rfl⟩
noncomputable def dgt:Nat→Nat→Nat:=Classical.choose zjL
theorem zah (v i:Nat):dgt v i=v/4294967296^i%4294967296:=Classical.choose_spec zjL v i
def tab {α:Type} (n:Nat) (f:Nat→α):List α:=(List.range n).map f
@[simp,go_sem] theorem zb3 {α:Type} (n:Nat) (f:Nat→α):(tab n f).length=n:=by simp[tab]
theorem zbh {α:Type} (n:Nat) (f:Nat→α) (i:Nat):(tab n f)[i]?=if i<n then some (f i) else none:=by
 unfold tab
 rw[List.getElem?_map]
 split
 ·rename_i h;rw[List.getElem?_range h];rfl
 ·rename_i h;rw[List.getElem?_eq_none (by simp;omega)];rfl
theorem zaW {α:Type} {n:Nat} {f:Nat→α} {i:Nat} (h:i<n):(tab n f)[i]?=some (f i):=by rw[zbh,if_pos h]
theorem zaA {α:Type} (n:Nat) (f:Nat→α) (i:Nat) (x:α):(tab n f).set i x=tab n fun k=>if k=i then x else f k:=by
 apply List.ext_getElem?
 intro k
 rw[List.getElem?_set,zbh,zbh]
 by_cases h:i=k
 ·subst h;simp
 ·simp only[h,if_false,show ¬k=i from fun e=>h e.symm]
theorem zak {α:Type} {n:Nat} {f g:Nat→α} (h:∀k,k<n→f k=g k):tab n f=tab n g:=by
 apply List.ext_getElem?
 intro k
 rw[zbh,zbh]
 split
 ·rename_i hk;rw[h k hk]
 ·rfl
theorem zlK {α β:Type} (n:Nat) (f:Nat→α) (g:α→β):(tab n f).map g=tab n fun k=>g (f k):=by simp[tab]
theorem zcJ {α:Type} (n:Nat) (x:α):List.replicate n x=tab n fun _=>x:=by
 apply List.ext_getElem?
 intro k
 rw[zbh,List.getElem?_replicate]
theorem zjt {α:Type} (n:Nat) (f:Nat→α) (k:Nat) (h:k≤n):(tab n f).take k=tab k f:=by
 apply List.ext_getElem?
 intro i
 rw[List.getElem?_take,zbh,zbh]
 by_cases h1:i<k
 ·rw[if_pos h1,if_pos (by omega),if_pos h1]
 ·rw[if_neg h1,if_neg h1]
theorem tab_of {α:Type} (l:List α) (d:α):l=tab l.length fun k=>l.getD k d:=by
 apply List.ext_getElem?
 intro i
 rw[zbh]
 by_cases h:i<l.length
 ·rw[if_pos h];simp[List.getD,h]
 ·rw[if_neg h,List.getElem?_eq_none (by omega)]
noncomputable def dw (n v:Nat):List Nat:=tab n (dgt v)
theorem zbq (i:Nat):0<4294967296^i:=Nat.pow_pos (by decide)
theorem zau (v i:Nat):dgt v i<4294967296:=by rw[zah];exact Nat.mod_lt _ (by decide)
theorem zcV (i:Nat):dgt 0 i=0:=by simp[zah]
theorem ze7 (v:Nat):dgt v 0=v%4294967296:=by simp[zah]
theorem zfJ (v i:Nat):dgt v (i+1)=dgt (v/4294967296) i:=by
 rw[zah,zah,Nat.pow_succ,Nat.mul_comm,Nat.div_div_eq_div_mul]
theorem zay (v i:Nat):v%4294967296^(i+1)=v%4294967296^i+4294967296^i*dgt v i:=by
 rw[zah,Nat.pow_succ,Nat.mod_mul]
theorem zki:∀{xs:List Nat},Ok32 xs→val xs<4294967296^xs.length
 | [],_=>by simp[val]
 | x::xs,h=>by
  have h1:=h x (List.mem_cons_self ..)
  have h2:=zki (xs:=xs) fun y hy=>h y (List.mem_cons_of_mem _ hy)
  simp only[val,List.length_cons,Nat.pow_succ]
  omega
theorem zgt:∀{xs:List Nat},Ok32 xs→∀i,xs.getD i 0=dgt (val xs) i
 | [],_,i=>by simp[val,zcV,List.getD]
 | x::xs,h,0=>by
  have h1:=h x (List.mem_cons_self ..)
  simp[val,ze7,List.getD];omega
 | x::xs,h,i+1=>by
  have h1:=h x (List.mem_cons_self ..)
  have:=zgt (xs:=xs) (fun y hy=>h y (List.mem_cons_of_mem _ hy)) i
  have e:val (x::xs)/4294967296=val xs:=by simp only[val];omega
  rw[zfJ,e,←this];simp[List.getD]
theorem zmp {xs:List Nat} (h:Ok32 xs):xs=dw xs.length (val xs):=by
 have e:=tab_of xs 0
 have e2:tab xs.length (fun k=>xs.getD k 0)=dw xs.length (val xs):=zak fun k _=>zgt h k
 exact e.trans e2
theorem zpt (n v:Nat):Ok32 (dw n v):=fun x hx=>by
 unfold dw tab at hx
 obtain⟨i,_,rfl⟩:=List.mem_map.1 hx
 exact zau v i
theorem zkw (n v:Nat):dw (n+1) v=v%4294967296::dw n (v/4294967296):=by
 apply List.ext_getElem?
 intro k
 unfold dw
 cases k with
 | zero=>rw[zaW (by omega),ze7];rfl
 | succ k =>
  rw[List.getElem?_cons_succ,zbh,zbh,zfJ]
  by_cases h:k<n
  ·rw[if_pos h,if_pos (by omega)]
  ·rw[if_neg h,if_neg (by omega)]
theorem zkh:∀(n v:Nat),val (dw n v)=v%4294967296^n
 | 0,v=>by
  have:dw 0 v=[]:=rfl
  simp[this,val,Nat.mod_one]
 | n+1,v=>by
  rw[zkw,val,zkh n,Nat.pow_succ,Nat.mul_comm (4294967296^n),Nat.mod_mul]
theorem zlO {n v:Nat} (h:v<4294967296^n):val (dw n v)=v:=by rw[zkh,Nat.mod_eq_of_lt h]
@[simp,go_sem] theorem zmo (n v:Nat):(dw n v).length=n:=by simp[dw]
def wlen (v:Nat):Nat:=if v=0 then 0 else Nat.log2 v/32+1
theorem zag (v:Nat):v<4294967296^wlen v:=by
 unfold wlen
 split
 ·rename_i h;subst h;decide
 ·rename_i h
  have h1:v<2^(Nat.log2 v+1):=Nat.lt_log2_self
  have h2:(4294967296:Nat)^(Nat.log2 v/32+1)=2^(32*(Nat.log2 v/32+1)):=by rw[Nat.pow_mul]
  rw[h2]
  exact Nat.lt_of_lt_of_le h1 (Nat.pow_le_pow_right (by decide) (by omega))
theorem zev {v:Nat} (h:v≠0):4294967296^(wlen v-1)≤v:=by
 unfold wlen
 rw[if_neg h]
 have h1:2^Nat.log2 v≤v:=Nat.log2_self_le h
 have h2:(4294967296:Nat)^(Nat.log2 v/32+1-1)=2^(32*(Nat.log2 v/32)):=by rw[Nat.add_sub_cancel,Nat.pow_mul]
 rw[h2]
 exact Nat.le_trans (Nat.pow_le_pow_right (by decide) (by omega)) h1
theorem zaM {v n:Nat}:wlen v≤n↔v<4294967296^n:=by
 constructor
 ·intro h
  exact Nat.lt_of_lt_of_le (zag v) (Nat.pow_le_pow_right (by decide) h)
 ·intro h
  by_cases h0:v=0
  ·subst h0;simp[wlen]
  ·have h1:=zev h0
   have h2:4294967296^(wlen v-1)<4294967296^n:=Nat.lt_of_le_of_lt h1 h
   have:=(Nat.pow_lt_pow_iff_right (by decide:1<4294967296)).1 h2
   omega
theorem zby:wlen 0=0:=rfl
theorem zaT {v:Nat} (h:v≠0):0<wlen v:=by unfold wlen;rw[if_neg h];omega
noncomputable def dig (v:Nat):List Nat:=dw (wlen v) v
@[simp] theorem zdG (v:Nat):(dig v).length=wlen v:=by simp[dig]
theorem zlN (v:Nat):val (dig v)=v:=zlO (zag v)
theorem zmP (v:Nat):Ok32 (dig v):=zpt _ _
def W (xs:List Nat):PV:=.lst (xs.map fun n=>(PV.i .u32 ((n:Nat):Int)))
noncomputable def Dw (n v:Nat):PV:=.lst (tab n fun k=>(PV.i .u32 ((dgt v k:Nat):Int)))
noncomputable abbrev D (v:Nat):PV:=Dw (wlen v) v
theorem zqC (n v:Nat):W (dw n v)=Dw n v:=by simp[W,dw,Dw,zlK]
noncomputable def intP (z:Int):PV:=.ag [.b (decide (z<0)),D z.natAbs]
@[go_sem] theorem zsn (M:PM) (d n v:Nat):fz M (d+1) (Dw n v)=some (Dw n v,[]):=_root_.id rfl
@[go_sem] theorem znX (n v:Nat):(Dw n v).cells=[Dw n v]:=_root_.id rfl
@[go_sem] theorem zqd (n v:Nat):(Dw n v).scal=true:=_root_.id rfl
@[go_sem] theorem zpk (n v:Nat):lenP (Dw n v)=some (.i .i64 (n:Int)):=by simp[Dw,lenP]
theorem zaG {n v j:Nat} (h:j<n):idxP 1 (Dw n v) (some j)=some (.fp [(PV.i .u32 ((dgt v j:Nat):Int))]):=by
 rw[Dw,zfU,zaW h];rfl
@[go_sem] theorem zpe (M:PM) (d n:Nat) (k:IntKind) (g:Nat→Int):fzL (fz M (d+1)) (tab n fun j=>PV.i k (g j))=some (tab n fun j=>PV.i k (g j),[]):=zcY M d _ (fun _=>rfl) _
@[go_sem] theorem zju (n:Nat) (f:Nat→PV):(tab n f).take n=tab n f:=by
 have:=List.take_length (l:=tab n f)
 rwa [zb3] at this
@[go_sem] theorem zmB (n:Nat) (f:Nat→PV):group 1 n (tab n f)=tab n f:=zbt n _ (by simp)
@[go_sem] theorem zo7 (n v:Nat):PV.lst (tab n fun k=>PV.i .u32 ((dgt v k:Nat):Int))=Dw n v:=_root_.id rfl
end Go.Eng
namespace Go.Eng
def cmpI (a b:Int):Int:=if a<b then-1 else if b<a then 1 else 0
@[go_sem] theorem zng (a:Int):pf E0 79 [.i .u32 a]=some (.b false):=by
 refine zad (xf:=zts) rfl (by simp[zts]) ?_
 simp only[zts,go_sem,seval]
@[go_sem] theorem znh (a:Int):pf E0 78 [.i .i64 a]=some (.b false):=by
 refine zad (xf:=ztz) rfl (by simp[ztz]) ?_
 simp only[ztz,go_sem,seval]
@[go_sem] theorem zpy (a b:Int):pf E0 61 [.i .u32 a,.i .u32 b]=some (.i .i64 (cmpI a b)):=by
 refine zad (xf:=ztm) rfl (by simp[ztm]) ?_
 simp only[ztm,go_sem,seval]
 refine zeV (fun h=>?_) (fun h=>?_)
 ·simp only[go_sem,seval,cmpI,h]
 ·simp only[go_sem,seval]
  refine zeV (fun h2=>?_) (fun h2=>?_)
  ·simp only[go_sem,seval,cmpI,h,h2]
  ·simp only[go_sem,seval,cmpI,h,h2]
@[go_sem] theorem zpz (a b:Int):pf E0 60 [.i .i64 a,.i .i64 b]=some (.i .i64 (cmpI a b)):=by
 refine zad (xf:=ztv) rfl (by simp[ztv]) ?_
 simp only[ztv,go_sem,seval]
 refine zeV (fun h=>?_) (fun h=>?_)
 ·simp only[go_sem,seval,cmpI,h]
 ·simp only[go_sem,seval]
  refine zeV (fun h2=>?_) (fun h2=>?_)
  ·simp only[go_sem,seval,cmpI,h,h2]
  ·simp only[go_sem,seval,cmpI,h,h2]
theorem znA (n v k:Nat) (h:k≤n):slP 1 (Dw n v) none (some (.i .i64 (k:Int))) none=some (Dw k v):=by
 have hz:ez 1 (tab n fun k=>(PV.i .u32 ((dgt v k:Nat):Int)))=true:=by
  unfold ez tab
  simp[PV.cells]
 simp only[slP,Dw,Option.isSome_none,Bool.false_eq_true,if_false,optP,zcS,hz,zb3]
 rw[if_pos ⟨by omega,h,trivial⟩,List.drop_zero,zjt _ _ _ h]
theorem zeN {E:PEnv} (hE:E.prog 49=some (.fn ztB)) (n v:Nat) (hv:v<4294967296^n) (hn:n<1099511627776) (hO:E.ovr 49 [Dw n v]=none:=by rfl):pf E 49 [Dw n v]=some (D v):=by
 refine zad (xf:=ztB) hE (by simp[ztB]) ?_ hO
 simp only[ztB]
 simp only[go_sem,seval]
 refine zas zuQ.eq_1 (fun(m:Nat) fr M=>fr 0=Dw m v∧v<4294967296^m∧m≤n∧M=[]) id ?_ n ⟨by simp only[go_sem,seval],hv,Nat.le_refl _,rfl⟩
 rintro m fr M ⟨h0,h1,h2,rfl⟩ ih
 by_cases hm:m=0
 ·subst hm
  have hv0:v=0:=by simpa using h1
  subst hv0
  simp only[go_sem,seval,h0,Int.ofNat_lt,Nat.lt_irrefl,Int.natCast_zero,Int.lt_irrefl]
  rfl
 ·have hm':(0:Int)<(m:Int):=by omega
  simp(disch:=omega)only[go_sem,seval,wqq,h0,hm',zaK,zaG]
  have e:v=v%4294967296^(m-1)+4294967296^(m-1)*dgt v (m-1):=by
   rw[←zay,show m-1+1=m by omega,Nat.mod_eq_of_lt h1]
  refine zeV (fun h=>?_) (fun h=>?_)
  ·have hd:dgt v (m-1)=0:=by omega
   rw[hd,Nat.mul_zero,Nat.add_zero] at e
   simp(disch:=omega)only[go_sem,seval,wqq,h0,zaK,znA]
   exact ih (m-1) _ _ (by simp only[id];omega) ⟨by simp only[go_sem,seval],by rw[e];exact Nat.mod_lt _ (zbq _),by omega,rfl⟩
  ·have hd:dgt v (m-1)≠0:=by omega
   have hw:wlen v=m:=by
    have h3:wlen v≤m:=zaM.2 h1
    have h4:¬wlen v≤m-1:=fun q=>by
     have:=zaM.1 q
     apply hd
     rw[zah,Nat.div_eq_of_lt this]
    omega
   simp only[go_sem,seval,h0]
   rw[D,hw]
theorem zjd (n v:Nat) (hv:v<4294967296^n) (hn:n<1099511627776):pf E0 49 [Dw n v]=some (D v):=zeN rfl n v hv hn
theorem zbV {n v:Nat} (hv:v<4294967296^n) (hn:n<1099511627776):pf E0 49 [Dw n v]=some (D v):=zjd n v hv hn
theorem zaQ (a b:Int):(cmpI a b=0)=(a=b):=by
 unfold cmpI
 apply propext
 by_cases h:a<b
 ·simp[h];omega
 ·by_cases h2:b<a
  ·simp[h,h2];omega
  ·simp[h,h2];omega
theorem zfG (a b c d:Nat) (h1:a<b↔c<d) (h2:b<a↔d<c):cmpI (a:Int) (b:Int)=cmpI (c:Int) (d:Int):=by
 have e1:((a:Int)<(b:Int))=((c:Int)<(d:Int)):=by rw[zbd,zbd];exact propext h1
 have e2:((b:Int)<(a:Int))=((d:Int)<(c:Int)):=by rw[zbd,zbd];exact propext h2
 unfold cmpI
 simp only[e1,e2]
theorem zcy {a b:Nat} (h:wlen a<wlen b):a<b:=by
 by_cases hab:a<b
 ·exact hab
 ·have h1:b<4294967296^wlen a:=Nat.lt_of_le_of_lt (by omega) (zag a)
  have:=zaM.2 h1
  omega
theorem zbv (a b:Nat) (ha:wlen a<1099511627776) (hb:wlen b<1099511627776):pf E0 41 [D a,D b]=some (.i .i64 (cmpI a b)):=by
 refine zad (xf:=ztG) rfl (by simp[ztG]) ?_
 simp only[ztG]
 simp only[go_sem,seval]
 refine zeV (fun h=>?_) (fun h=>?_)
 ·simp only[go_sem,seval]
  rw[zaQ] at h
  congr 2
  refine zfG _ _ _ _ ⟨fun q=>zcy q,fun q=>?_⟩ ⟨fun q=>zcy q,fun q=>?_⟩
  ·have:¬wlen b<wlen a:=fun z=>by have:=zcy z;omega
   omega
  ·have:¬wlen a<wlen b:=fun z=>by have:=zcy z;omega
   omega
 ·have hl:wlen a=wlen b:=by
   rw[zaQ] at h;omega
  simp(disch:=omega)only[go_sem,seval,wqq]
  refine zas zuN.eq_1 (fun(m:Nat) fr M=>fr 0=D a∧fr 1=D b∧fr 6=.i .i64 ((m:Int)-1)∧a/4294967296^m=b/4294967296^m∧m≤wlen a∧M=[]) id ?_ (wlen a) ⟨by simp only[go_sem,seval],by simp only[go_sem,seval],by simp only[go_sem,seval],?_,Nat.le_refl _,rfl⟩
  ·rintro m fr M ⟨h0,h1,h6,hq,hm,rfl⟩ ih
   by_cases hm0:m=0
   ·subst hm0
    have hab:a=b:=by simpa using hq
    simp(disch:=omega)only[go_sem,seval,wqq,h6,Int.natCast_zero,Int.zero_sub,Int.reduceNeg,Int.reduceLE]
    subst hab
    simp[cmpI]
   ·have hm':(0:Int)≤(m:Int)-1:=by omega
    have ia:(D a)=Dw (wlen a) a:=rfl
    have ib:(D b)=Dw (wlen b) b:=rfl
    simp(disch:=omega)only[go_sem,seval,wqq,h0,h1,h6,hm',zaK,ia,ib,zaG]
    have ea:a/4294967296^(m-1)=4294967296*(a/4294967296^m)+dgt a (m-1):=by
     rw[zah,show (4294967296:Nat)^m=4294967296^(m-1)*4294967296 by rw[←Nat.pow_succ];congr 1;omega,←Nat.div_div_eq_div_mul]
     exact(Nat.div_add_mod _ _).symm
    have eb:b/4294967296^(m-1)=4294967296*(b/4294967296^m)+dgt b (m-1):=by
     rw[zah,show (4294967296:Nat)^m=4294967296^(m-1)*4294967296 by rw[←Nat.pow_succ];congr 1;omega,←Nat.div_div_eq_div_mul]
     exact(Nat.div_add_mod _ _).symm
    have lt:∀x y:Nat,x/4294967296^(m-1)<y/4294967296^(m-1)→x<y:=fun x y h=>by
     by_cases q:x<y
     ·exact q
     ·have:=Nat.div_le_div_right (c:=4294967296^(m-1)) (show y≤x by omega)
      omega
    refine zeV (fun h=>?_) (fun h=>?_)
    ·rw[zaQ] at h
     simp only[go_sem,seval]
     congr 2
     have k1:=lt a b
     have k2:=lt b a
     refine zfG _ _ _ _ ⟨fun q=>k1 (by omega),fun q=>?_⟩ ⟨fun q=>k2 (by omega),fun q=>?_⟩
     ·have:¬dgt b (m-1)<dgt a (m-1):=fun z=>by have:=k2 (by omega);omega
      omega
     ·have:¬dgt a (m-1)<dgt b (m-1):=fun z=>by have:=k1 (by omega);omega
      omega
    ·have hd:dgt a (m-1)=dgt b (m-1):=by
      rw[zaQ] at h;omega
     simp(disch:=omega)only[go_sem,seval,wqq,h6,zaK]
     exact ih (m-1) _ _ (by simp only[id];omega) ⟨by simp only[go_sem,seval,h0],by simp only[go_sem,seval,h1],by simp only[go_sem,seval],by omega,by omega,rfl⟩
  ·rw[Nat.div_eq_of_lt (zag a),hl,Nat.div_eq_of_lt (zag b)]
end Go.Eng
namespace Go.Eng
structure WI where
 v:Int
 ok:wlen v.natAbs≤512
theorem WI.ext' {x y:WI} (h:x.v=y.v):x=y:=by cases x;cases y;simp at h;subst h;rfl
theorem WI.lim (x:WI):wlen x.v.natAbs≤512:=x.ok
def wi0:WI:=⟨0,by simp[wlen]⟩
def clip (z:Int):WI:=if h:wlen z.natAbs≤512 then ⟨z,h⟩ else wi0
def lerr (z:Int):Int:=if wlen z.natAbs≤512 then 0 else 4
theorem zbA {z:Int} (h:wlen z.natAbs≤512):clip z=⟨z,h⟩:=by unfold clip;rw[dif_pos h]
theorem zdc {z:Int} (h:wlen z.natAbs≤512):(clip z).v=z:=by rw[zbA h]
theorem ze5 {z:Int} (h:¬wlen z.natAbs≤512):clip z=wi0:=by unfold clip;rw[dif_neg h]
theorem zdl {z:Int} (h:wlen z.natAbs≤512):lerr z=0:=by unfold lerr;rw[if_pos h]
theorem zfh {z:Int} (h:¬wlen z.natAbs≤512):lerr z=4:=by unfold lerr;rw[if_neg h]
theorem zec (z:Int):lerr (-z)=lerr z:=by unfold lerr;rw[Int.natAbs_neg]
noncomputable def wiP (x:WI):PV:=intP x.v
theorem zdv (x:WI):wiP x=.ag [.b (decide (x.v<0)),D x.v.natAbs]:=rfl
@[go_sem] theorem zqU (M:PM) (d:Nat) (x:WI):fz M (d+1+1) (wiP x)=some (wiP x,[]):=_root_.id rfl
@[go_sem] theorem zmd (x:WI):(wiP x).cells=[.b (decide (x.v<0)),D x.v.natAbs]:=_root_.id rfl
@[go_sem] theorem zpb (x:WI):PV.ag [.b (decide (x.v<0)),D x.v.natAbs]=wiP x:=_root_.id rfl
@[go_sem] theorem zn6:PV.ag [.b false,.lst []]=wiP wi0:=_root_.id rfl
theorem zlV:PV.lst []=D 0:=rfl
theorem zbk {M:PM} {n:Nat} {b:PB} (h:n<M.length):PM.blk (M.set n (some b)) n=some b:=by
 rw[zaw,List.getElem?_set];simp[h]
theorem zfE {M:PM} {n k:Nat} {b:Option PB} (h:n≠k):PM.blk (M.set n b) k=PM.blk M k:=by
 unfold PM.blk;rw[List.getElem?_set_ne h]
theorem zbJ {M:PM} {n:Nat} {b:PB} (h:PM.blk M n=some b):n<M.length:=zaI (zaw.1 h)
attribute [go_sem] List.set_set
@[go_sem] theorem znc (M:PM):pcl E0 58 [] M=some (.fn 77 [.p M.length 0],M++[some ⟨[.i .u64 0],true,0⟩]):=by
 refine zaC (xf:=ztM) rfl rfl (by simp[ztM]) ?_
 simp only[ztM]
 simp only[go_sem,seval]
theorem zcF (M:PM) (n c v e:Nat) (hb:PM.blk M n=some ⟨[.i .u64 (c:Int)],true,e⟩) (h:c+v<18446744073709551616) :
  pcl E0 77 [.i .u64 (v:Int),.p n 0] M=some ((PV.i .u32 (((c+v)%4294967296:Nat):Int)),M.set n (some ⟨[.i .u64 (((c+v)/4294967296:Nat):Int)],true,e+2⟩)):=by
 refine zaC (xf:=zty) rfl rfl (by simp[zty]) ?_
 simp only[zty]
 have hl:=zbJ hb
 simp(disch:=omega)only[go_sem,seval,wqq,za5,zbD,zbE,zaK,zbd,zco,hb,zbk,za2,Int.reduceToNat,Nat.reducePow]
theorem zcs (x y:WI):pf E0 30 [wiP x,wiP y]=some (.i .i64 (cmpI x.v y.v)):=by
 refine zad (xf:=ztJ) rfl (by simp[ztJ]) ?_
 simp only[ztJ]
 have lx:=x.lim
 have ly:=y.lim
 by_cases hx:x.v<0
 ·by_cases hy:y.v<0
  ·simp(disch:=omega)only[go_sem,seval,wqq,hx,hy,zbv]
   congr 2
   unfold cmpI
   simp only[zbd,show (y.v.natAbs<x.v.natAbs)=(x.v<y.v) by apply propext;omega,show (x.v.natAbs<y.v.natAbs)=(y.v<x.v) by apply propext;omega]
  ·simp(disch:=omega)only[go_sem,seval,wqq,hx,hy,zbv]
   unfold cmpI
   rw[if_pos (by omega)]
 ·by_cases hy:y.v<0
  ·simp(disch:=omega)only[go_sem,seval,wqq,hx,hy,zbv]
   unfold cmpI
   rw[if_neg (by omega),if_pos (by omega)]
  ·simp(disch:=omega)only[go_sem,seval,wqq,hx,hy,zbv]
   congr 2
   unfold cmpI
   simp only[zbd,show (y.v.natAbs<x.v.natAbs)=(y.v<x.v) by apply propext;omega,show (x.v.natAbs<y.v.natAbs)=(x.v<y.v) by apply propext;omega]
attribute [go_sem] zcs
@[go_sem] theorem zbK (x:WI):pf E0 31 [wiP x]=some (.i .i64 (cmpI x.v 0)):=by
 refine zad (xf:=zuf) rfl (by simp[zuf]) ?_
 simp only[zuf]
 simp only[go_sem,seval]
 rfl
def WI.neg (x:WI):WI:=⟨-x.v,by rw[Int.natAbs_neg];exact x.ok⟩
@[go_sem] theorem zjb (x:WI):pf E0 43 [wiP x]=some (wiP x.neg):=by
 refine zad (xf:=zuw) rfl (by simp[zuw]) ?_
 simp only[zuw]
 have hn:wiP x.neg=.ag [.b (decide (0<x.v)),D x.v.natAbs]:=by
  simp only[zdv,WI.neg,Int.natAbs_neg]
  congr 3
  exact decide_eq_decide.2 (by omega)
 rw[hn]
 by_cases hx:x.v<0
 ·have h2:¬0<x.v:=by omega
  simp(disch:=omega)only[go_sem,seval,wqq,hx,h2]
 ·simp(disch:=omega)only[go_sem,seval,wqq,hx]
  congr 4
  refine decide_eq_decide.2 ?_
  constructor
  ·intro h
   have:x.v.natAbs≠0:=fun q=>by rw[q] at h;simp[wlen] at h
   omega
  ·intro h
   have:=zaT (v:=x.v.natAbs) (by omega)
   omega
theorem zaD (neg:Bool) (n v:Nat) (hv:v<4294967296^n) (hn:n<1099511627776) :
  pf E0 36 [.b neg,Dw n v]=some (.tu [wiP (clip (if neg then-(v:Int) else v)),.i .i64 (lerr (v:Int))]):=by
 refine zad (xf:=ztU) rfl (by simp[ztU]) ?_
 simp only[ztU]
 simp(disch:=omega)only[go_sem,seval,wqq,zbV]
 refine zeV (fun h=>?_) (fun h=>?_)
 ·simp(disch:=omega)only[go_sem,seval,wqq]
  have hn:¬wlen (v:Int).natAbs≤512:=by simp only[Int.natAbs_natCast];omega
  have hc:clip (if neg then-(v:Int) else v)=wi0:=by
   cases neg
   ·exact ze5 hn
   ·exact ze5 (by simpa using hn)
  rw[hc,zfh hn]
 ·have hn:wlen (v:Int).natAbs≤512:=by simp only[Int.natAbs_natCast];omega
  rw[zdl hn]
  cases neg
  ·simp(disch:=omega)only[go_sem,seval,wqq]
   rw[zbA hn]
   rfl
  ·simp(disch:=omega)only[go_sem,seval,wqq]
   have hn':wlen (-(v:Int)).natAbs≤512:=by rw[Int.natAbs_neg];exact hn
   have e1:((decide ((0:Int)<(wlen v:Int))):Bool)=decide ((-(v:Int))<0):=by
    refine decide_eq_decide.2 ?_
    constructor
    ·intro h
     have:v≠0:=fun q=>by rw[q] at h;simp[wlen] at h
     omega
    ·intro h
     have:=zaT (v:=v) (by omega)
     omega
   rw[zbA hn',zdv,←e1]
   simp only[Int.natAbs_neg,Int.natAbs_natCast]
end Go.Eng
namespace Go.Eng
theorem ze3 {P T s c d r:Nat} (hP:0<P) (hT:T=s%P+P*c) (hs:s=T+P*d+P*4294967296*r) :
  s/P%4294967296=(c+d)%4294967296∧T+P*d=s%(P*4294967296)+P*4294967296*((c+d)/4294967296):=by
 have e1:s/P=c+d+4294967296*r:=by
  have h1:=Nat.div_add_mod s P
  have h2:P*(s/P)=P*(c+d+4294967296*r):=by
   rw[Nat.mul_add,Nat.mul_add,←Nat.mul_assoc];omega
  exact Nat.eq_of_mul_eq_mul_left hP h2
 have e2:s/P%4294967296=(c+d)%4294967296:=by omega
 refine⟨e2,?_⟩
 rw[Nat.mod_mul,e2,hT]
 have h3:=Nat.div_add_mod (c+d) 4294967296
 have h4:P*(c+d)=P*4294967296*((c+d)/4294967296)+P*((c+d)%4294967296):=by
  rw[Nat.mul_assoc,←Nat.mul_add,h3]
 rw[Nat.mul_add] at h4
 omega
theorem zbM (a i:Nat):a=a%4294967296^i+4294967296^i*dgt a i+4294967296^i*4294967296*(a/(4294967296^i*4294967296)):=by
 have h:=zay a i
 have h2:=Nat.div_add_mod a (4294967296^i*4294967296)
 rw[Nat.pow_succ] at h
 omega
theorem zbn {a n i:Nat} (h:a<4294967296^n) (hi:n≤i):dgt a i=0:=by
 rw[zah,Nat.div_eq_of_lt (Nat.lt_of_lt_of_le h (Nat.pow_le_pow_right (by decide) hi))]
theorem zdq (b0:Option PB) (c v e:Nat) (h:c+v<18446744073709551616) :
  pcl E0 77 [.i .u64 (v:Int),.p 1 0] [b0,some ⟨[.i .u64 (c:Int)],true,e⟩]=some ((PV.i .u32 (((c+v)%4294967296:Nat):Int)),[b0,some ⟨[.i .u64 (((c+v)/4294967296:Nat):Int)],true,e+2⟩]) :=
 zcF _ 1 c v e rfl h
theorem zfo (b0:Option PB) (c e:Nat) (h:c<18446744073709551616) :
  pcl E0 77 [.i .u64 0,.p 1 0] [b0,some ⟨[.i .u64 (c:Int)],true,e⟩]=some ((PV.i .u32 ((c%4294967296:Nat):Int)),[b0,some ⟨[.i .u64 ((c/4294967296:Nat):Int)],true,e+2⟩]) :=
 zcF _ 1 c 0 e rfl h
theorem zjr {F:PFin} {ks:List KI} {n m a b:Nat} (hm:m≤n) (ha:a<4294967296^n) (hb:b<4294967296^m) (hn:n<1099511627776) {fr:PFr} {M:PM} (h0:fr 0=Dw n a) (h1:fr 1=Dw m b)
  (h5:fr 5=.sl 0 0 (n+1) (n+1) 1) (h6:fr 6=.fn 77 [.p 1 0]) (h22:fr 22=.i .i64 ((n+1:Nat):Int)) (h23:fr 23=.i .i64 0) (hM:M=[some ⟨List.replicate (n+1) (.i .u32 0),true,0⟩,some ⟨[.i .u64 0],true,0⟩])
  (cont:∀fr' e b2,fr' 5=.sl 0 0 (n+1) (n+1) 1→UK E0 F (.exit 0) ks fr' [some ⟨tab (n+1) (fun k=>(PV.i .u32 ((dgt (a+b) k:Nat):Int))),true,e⟩,b2]):WK E0 F (.loop ztS) ks fr M:=by
 refine zas ztS.eq_1 (fun(i:Nat) fr M=>i≤n+1∧fr 0=Dw n a∧fr 1=Dw m b∧fr 5=.sl 0 0 (n+1) (n+1) 1∧fr 6=.fn 77 [.p 1 0]∧fr 22=.i .i64 ((n+1:Nat):Int)∧fr 23=.i .i64 (i:Int) ∧
  ∃c e1 e2:Nat,M=[some ⟨tab (n+1) fun k=>(PV.i .u32 ((if k<i then dgt (a+b) k else 0:Nat):Int)),true,e1⟩,some ⟨[.i .u64 (c:Int)],true,e2⟩]∧c≤1∧a%4294967296^i+b%4294967296^i=(a+b)%4294967296^i+4294967296^i*c)
  (fun i=>n+1-i) ?_ 0 ⟨Nat.zero_le _,h0,h1,h5,h6,h22,h23,0,0,0,by rw[hM,zcJ];rfl,Nat.zero_le _,by simp[Nat.mod_one]⟩
 rintro i fr M ⟨hi,h0,h1,h5,h6,h22,h23,c,e1,e2,rfl,hc,hinv⟩ ih
 by_cases hin:i<n+1
 ·have hc0:((i:Int)<((n+1:Nat):Int))=True:=by simp;omega
  have da:=zau a i
  have db:=zau b i
  have fin:∀v fr' e1 e2,v=dgt a i+dgt b i→fr' 0=Dw n a→fr' 1=Dw m b→fr' 5=.sl 0 0 (n+1) (n+1) 1→fr' 6=.fn 77 [.p 1 0]→fr' 22=.i .i64 ((n+1:Nat):Int)→fr' 23=.i .i64 ((i+1:Nat):Int) →
    WK E0 F (.loop ztS) ks fr' [some ⟨tab (n+1) fun k=>if k=i then (PV.i .u32 (((c+v)%4294967296:Nat):Int)) else (PV.i .u32 ((if k<i then dgt (a+b) k else 0:Nat):Int)),true,e1⟩,some ⟨[.i .u64 (((c+v)/4294967296:Nat):Int)],true,e2⟩]:=by
   intro v fr' e1 e2 hv g0 g1 g5 g6 g22 g23
   subst hv
   have sa:=zbM a i
   have sb:=zbM b i
   obtain⟨k1,k2⟩:=ze3 (P:=4294967296^i) (T:=a%4294967296^i+b%4294967296^i) (s:=a+b) (c:=c) (d:=dgt a i+dgt b i) (r:=a/(4294967296^i*4294967296)+b/(4294967296^i*4294967296)) (zbq i) hinv (by rw[Nat.mul_add,Nat.mul_add];omega)
   refine ih (i+1) fr' _ (by omega) ⟨by omega,g0,g1,g5,g6,g22,g23,(c+(dgt a i+dgt b i))/4294967296,e1,e2,?_,by omega,?_⟩
   ·congr 3
    refine zak fun k hk=>?_
    by_cases hki:k=i
    ·subst hki
     rw[if_pos rfl,if_pos (by omega)]
     congr 2;rw[zah (a+b)];exact k1.symm
    ·rw[if_neg hki]
     congr 1
     by_cases h:k<i
     ·rw[if_pos h,if_pos (by omega)]
     ·rw[if_neg h,if_neg (by omega)]
   ·rw[zay,zay b,Nat.pow_succ,←k2,Nat.mul_add];omega
  by_cases hia:i<n
  ·have hc1:((i:Int)<(n:Int))=True:=by simp;omega
   by_cases him:i<m
   ·have hc2:((i:Int)<(m:Int))=True:=by simp;omega
    simp(disch:=omega)only[go_sem,seval,wqq,za5,zbD,zbE,zaK,zbd,zco,h0,h1,h5,h6,h22,h23,hc0,hc1,hc2,Int.zero_add,zaG,zdq,zaA,hin]
    exact fin _ _ _ _ rfl (by simp only[go_sem,seval,h0]) (by simp only[go_sem,seval,h1]) (by simp only[go_sem,seval,h5]) (by simp only[go_sem,seval,h6]) (by simp only[go_sem,seval,h22]) (by simp only[go_sem,seval])
   ·have hc2:((i:Int)<(m:Int))=False:=by simp;omega
    have hz:dgt b i=0:=zbn hb (by omega)
    simp(disch:=omega)only[go_sem,seval,wqq,za5,zbD,zbE,zaK,zbd,zco,h0,h1,h5,h6,h22,h23,hc0,hc1,hc2,Int.zero_add,zaG,zdq,zaA,hin]
    exact fin _ _ _ _ (by omega) (by simp only[go_sem,seval,h0]) (by simp only[go_sem,seval,h1]) (by simp only[go_sem,seval,h5]) (by simp only[go_sem,seval,h6]) (by simp only[go_sem,seval,h22]) (by simp only[go_sem,seval])
  ·have hc1:((i:Int)<(n:Int))=False:=by simp;omega
   have hc2:((i:Int)<(m:Int))=False:=by simp;omega
   have hz:dgt b i=0:=zbn hb (by omega)
   have hz2:dgt a i=0:=zbn ha (by omega)
   simp(disch:=omega)only[go_sem,seval,wqq,za5,zbD,zbE,zaK,zbd,zco,h0,h1,h5,h6,h22,h23,hc0,hc1,hc2,Int.zero_add,zaG,zfo,zaA,hin]
   have f0:=fun fr' e1 e2=>fin 0 fr' e1 e2
   simp only[Nat.add_zero] at f0
   exact f0 _ _ _ (by omega) (by simp only[go_sem,seval,h0]) (by simp only[go_sem,seval,h1]) (by simp only[go_sem,seval,h5]) (by simp only[go_sem,seval,h6]) (by simp only[go_sem,seval,h22]) (by simp only[go_sem,seval])
 ·have hc0:((i:Int)<((n+1:Nat):Int))=False:=by simp;omega
  obtain rfl:i=n+1:=by omega
  simp(disch:=omega)only[go_sem,seval,wqq,za5,zbD,zbE,zaK,zbd,zco,h22,h23,hc0]
  have:=cont (fr.put 24 (.b false)) e1 (some ⟨[.i .u64 (c:Int)],true,e2⟩) (by simp only[go_sem,seval,h5])
  have ht:(tab (n+1) fun k=>(PV.i .u32 ((if k<n+1 then dgt (a+b) k else 0:Nat):Int)))=tab (n+1) fun k=>(PV.i .u32 ((dgt (a+b) k:Nat):Int)):=zak fun k hk=>by rw[if_pos hk]
  rw[←ht] at this
  exact this
theorem znk {n m a b:Nat} (ha:a<4294967296^n) (hb:b<4294967296^m) (hn:n<1073741824) (hm:m<1073741824):pf E0 40 [Dw n a,Dw m b]=some (Dw (max n m+1) (a+b)):=by
 refine zad (xf:=zus) rfl (by simp[zus]) ?_
 simp only[zus]
 have fin:∀(n m a b:Nat),m≤n→a<4294967296^n→b<4294967296^m→n<1073741824→∀fr M,fr 0=Dw n a→fr 1=Dw m b→fr 5=.sl 0 0 (n+1) (n+1) 1→fr 6=.fn 77 [.p 1 0]→fr 22=.i .i64 ((n+1:Nat):Int)→fr 23=.i .i64 0→M=[some ⟨List.replicate (n+1) (.i .u32 0),true,0⟩,some ⟨[.i .u64 0],true,0⟩]→∀n' s,n'=n+1→s=a+b →
   WK E0 { res:=[XR.tmp 4],Q:=fun w M2=>Option.map Prod.fst (fz M2 12 w)=some (Dw n' s) } (.loop ztS) [KI.block 0,KI.seq ((XC.reg [⟨some 55,.mov (.t 5),[],none⟩,⟨some 4,.mov (.t 55),[0,0],none⟩]).seq XC.ret)] fr M:=by
  intro n m a b hm ha hb hn fr M h0 h1 h5 h6 h22 h23 hM n' s hn' hs
  subst hn' hs
  refine zjr hm ha hb (by omega) h0 h1 h5 h6 h22 h23 hM fun fr' e b2 g5=>?_
  simp only[go_sem,seval,g5]
 by_cases h:n<m
 ·have hc:((n:Int)<(m:Int))=True:=by simp;omega
  simp(disch:=omega)only[go_sem,seval,wqq,za5,zbD,zbE,zaK,zbd,zco,hc,zcP]
  exact fin m n b a (by omega) hb ha (by omega) _ _ (by simp only[go_sem,seval]) (by simp only[go_sem,seval]) (by simp only[go_sem,seval]) (by simp only[go_sem,seval]) (by simp only[go_sem,seval]) (by simp only[go_sem,seval]) rfl _ _ (by omega) (by omega)
 ·have hc:((n:Int)<(m:Int))=False:=by simp;omega
  simp(disch:=omega)only[go_sem,seval,wqq,za5,zbD,zbE,zaK,zbd,zco,hc,zcP]
  exact fin n m a b (by omega) ha hb (by omega) _ _ (by simp only[go_sem,seval]) (by simp only[go_sem,seval]) (by simp only[go_sem,seval]) (by simp only[go_sem,seval]) (by simp only[go_sem,seval]) (by simp only[go_sem,seval]) rfl _ _ (by omega) rfl
theorem zmv (n:Nat) (k:IntKind) (g:Nat→Int):ez 1 (tab n fun j=>PV.i k (g j))=true:=by
 unfold ez tab
 simp[PV.cells]
theorem ziT (n:Nat) (k:IntKind) (g:Nat→Int):flat (tab n fun j=>PV.i k (g j))=tab n fun j=>PV.i k (g j):=by
 unfold flat tab
 rw[List.flatMap_map]
 simp only[PV.cells]
 rw[←List.map_eq_flatMap]
theorem zme {n a e:Nat} {l:List PV} (hl:l.length=n):cpyP [some ⟨l,true,e⟩] 1 (.sl 0 0 n n 1) (Dw n a)=some (.i .i64 (n:Int),[some ⟨tab n fun k=>(PV.i .u32 ((dgt a k:Nat):Int)),true,e+1⟩]):=by
 have h1:srcP [some ⟨l,true,e⟩] 1 (Dw n a)=some (n,tab n fun k=>(PV.i .u32 ((dgt a k:Nat):Int))):=by
  simp only[srcP,Dw,zmv,if_true,ziT,zb3]
 simp only[cpyP,h1,ne_eq,not_true_eq_false,if_false,ziD,Nat.min_self,Nat.mul_one,Nat.zero_add,hl,Nat.le_refl,and_self,if_true,List.set_cons_zero,zju]
 congr 5
 simp[psplice,hl]
theorem zjq {F:PFin} {ks:List KI} {n m a b s e0:Nat} (hs:a=s+b) (hb:b<4294967296^m) (hn:n<1099511627776) (hm:m<1099511627776) {fr:PFr} {M:PM} (h0:fr 0=.sl 0 0 n n 1) (h1:fr 1=Dw m b)
  (h5:fr 5=.i .u64 0) (h10:fr 10=.i .i64 (n:Int)) (h11:fr 11=.i .i64 0) (hM:M=[some ⟨tab n fun k=>(PV.i .u32 ((dgt a k:Nat):Int)),true,e0⟩])
  (cont:∀fr' e (c:Nat),fr' 5=.i .u64 (c:Int)→UK E0 F (.exit 0) ks fr' [some ⟨tab n (fun k=>(PV.i .u32 ((dgt s k:Nat):Int))),true,e⟩]):WK E0 F (.loop ztt) ks fr M:=by
 refine zas ztt.eq_1 (fun(i:Nat) fr M=>i≤n∧fr 0=.sl 0 0 n n 1∧fr 1=Dw m b∧fr 10=.i .i64 (n:Int)∧fr 11=.i .i64 (i:Int) ∧
  ∃c e:Nat,fr 5=.i .u64 (c:Int)∧M=[some ⟨tab n fun k=>(PV.i .u32 ((if k<i then dgt s k else dgt a k:Nat):Int)),true,e⟩]∧c≤1∧s%4294967296^i+b%4294967296^i=a%4294967296^i+4294967296^i*c)
  (fun i=>n-i) ?_ 0 ⟨Nat.zero_le _,h0,h1,h10,h11,0,e0,h5,by rw[hM];rfl,Nat.zero_le _,by simp[Nat.mod_one]⟩
 rintro i fr M ⟨hi,h0,h1,h10,h11,c,e,h5,rfl,hc,hinv⟩ ih
 by_cases hin:i<n
 ·have hc0:((i:Int)<(n:Int))=True:=by simp;omega
  have da:=zau a i
  have db:=zau b i
  have ds:=zau s i
  have hget:(tab n fun k=>(PV.i .u32 ((if k<i then dgt s k else dgt a k:Nat):Int)))[i]?=some ((PV.i .u32 ((dgt a i:Nat):Int))):=by rw[zaW hin,if_neg (by omega)]
  have fin:∀z c' fr' e,z<4294967296→dgt a i+4294967296*c'=z+c+dgt b i→fr' 0=.sl 0 0 n n 1→fr' 1=Dw m b→fr' 10=.i .i64 (n:Int)→fr' 11=.i .i64 ((i+1:Nat):Int)→fr' 5=.i .u64 (c':Int)→∀M',M'=[some ⟨tab n fun k=>if k=i then (PV.i .u32 ((z:Nat):Int)) else (PV.i .u32 ((if k<i then dgt s k else dgt a k:Nat):Int)),true,e⟩] →
    WK E0 F (.loop ztt) ks fr' M':=by
   intro z c' fr' e hz heq g0 g1 g10 g11 g5 M' hM'
   subst hM'
   have sa:=zbM s i
   have sb:=zbM b i
   obtain⟨k1,k2⟩:=ze3 (P:=4294967296^i) (T:=s%4294967296^i+b%4294967296^i) (s:=a) (c:=c) (d:=dgt s i+dgt b i) (r:=s/(4294967296^i*4294967296)+b/(4294967296^i*4294967296)) (zbq i) hinv (by rw[Nat.mul_add,Nat.mul_add];omega)
   have k1':dgt a i=(c+(dgt s i+dgt b i))%4294967296:=by rw[zah a];exact k1
   have hz':z=dgt s i:=by omega
   have hc':c'=(c+(dgt s i+dgt b i))/4294967296:=by omega
   refine ih (i+1) fr' _ (by omega) ⟨by omega,g0,g1,g10,g11,c',e,g5,?_,by omega,?_⟩
   ·congr 3
    refine zak fun k hk=>?_
    by_cases hki:k=i
    ·subst hki
     rw[if_pos rfl,if_pos (by omega),hz']
    ·rw[if_neg hki]
     congr 1
     by_cases h:k<i
     ·rw[if_pos h,if_pos (by omega)]
     ·rw[if_neg h,if_neg (by omega)]
   ·rw[hc',zay,zay b,Nat.pow_succ,←k2,Nat.mul_add];omega
  have i0:((i:Int)+1)=((i+1:Nat):Int):=by omega
  by_cases him:i<m
  ·have hc2:((i:Int)<(m:Int))=True:=by simp;omega
   by_cases hgt:dgt a i<c+dgt b i
   ·have hg:((dgt a i:Int)<(c:Int)+(dgt b i:Int))=True:=by simp;omega
    simp(disch:=omega)only[go_sem,seval,wqq,h0,h1,h5,h10,h11,hc0,hc2,zaG,hin,hget,hg,i0,zaA]
    refine fin (dgt a i+4294967296-(c+dgt b i)) 1 _ (e+1) (by omega) (by omega) (by simp only[go_sem,seval,h0]) (by simp only[go_sem,seval,h1]) (by simp only[go_sem,seval,h10]) (by simp only[go_sem,seval]) (by simp only[go_sem,seval];try rfl) _ ?_
    congr 3
    refine zak fun k hk=>?_
    split
    ·congr 1;omega
    ·rfl
   ·have hg:((dgt a i:Int)<(c:Int)+(dgt b i:Int))=False:=by simp;omega
    simp(disch:=omega)only[go_sem,seval,wqq,h0,h1,h5,h10,h11,hc0,hc2,zaG,hin,hget,hg,i0,zaA]
    refine fin (dgt a i-(c+dgt b i)) 0 _ (e+1) (by omega) (by omega) (by simp only[go_sem,seval,h0]) (by simp only[go_sem,seval,h1]) (by simp only[go_sem,seval,h10]) (by simp only[go_sem,seval]) (by simp only[go_sem,seval];try rfl) _ ?_
    congr 3
    refine zak fun k hk=>?_
    split
    ·congr 1;omega
    ·rfl
  ·have hc2:((i:Int)<(m:Int))=False:=by simp;omega
   have hz:dgt b i=0:=zbn hb (by omega)
   by_cases hgt:dgt a i<c
   ·have hg:((dgt a i:Int)<(c:Int))=True:=by simp;omega
    simp(disch:=omega)only[go_sem,seval,wqq,h0,h1,h5,h10,h11,hc0,hc2,zaG,hin,hget,hg,i0,zaA]
    refine fin (dgt a i+4294967296-c) 1 _ (e+1) (by omega) (by omega) (by simp only[go_sem,seval,h0]) (by simp only[go_sem,seval,h1]) (by simp only[go_sem,seval,h10]) (by simp only[go_sem,seval]) (by simp only[go_sem,seval];try rfl) _ ?_
    congr 3
    refine zak fun k hk=>?_
    split
    ·congr 1;omega
    ·rfl
   ·have hg:((dgt a i:Int)<(c:Int))=False:=by simp;omega
    simp(disch:=omega)only[go_sem,seval,wqq,h0,h1,h5,h10,h11,hc0,hc2,zaG,hin,hget,hg,i0,zaA]
    refine fin (dgt a i-c) 0 _ (e+1) (by omega) (by omega) (by simp only[go_sem,seval,h0]) (by simp only[go_sem,seval,h1]) (by simp only[go_sem,seval,h10]) (by simp only[go_sem,seval]) (by simp only[go_sem,seval];try rfl) _ ?_
    congr 3
    refine zak fun k hk=>?_
    split
    ·congr 1;omega
    ·rfl
 ·have hc0:((i:Int)<(n:Int))=False:=by simp;omega
  obtain rfl:i=n:=by omega
  simp only[go_sem,seval,h10,h11,hc0]
  have ht:(tab i fun k=>(PV.i .u32 ((if k<i then dgt s k else dgt a k:Nat):Int)))=tab i fun k=>(PV.i .u32 ((dgt s k:Nat):Int)):=zak fun k hk=>by rw[if_pos hk]
  rw[ht]
  exact cont _ e c (by simp only[go_sem,seval,h5])
theorem zaZ {n m a b s:Nat} (hs:a=s+b) (hb:b<4294967296^m) (hn:n<1073741824) (hm:m<1073741824) (ha:a<4294967296^n):pf E0 42 [Dw n a,Dw m b]=some (Dw n s):=by
 by_cases h0:n=0
 ·subst h0
  have ha0:a=0:=by simpa using ha
  obtain rfl:s=0:=by omega
  obtain rfl:b=0:=by omega
  have hsub:∃v M',pcl E0 62 [.nl,Dw m 0] []=some (v,M')∧M'=[]:=by
   refine zcG (xf:=ztl) rfl rfl (by simp[ztl]) ?_
   simp only[ztl]
   simp only[go_sem,seval]
   refine zdw ?_
   simp only[ztt]
   simp(disch:=omega)only[go_sem,seval,wqq,Int.lt_irrefl]
  obtain⟨v,M',h1,rfl⟩:=hsub
  refine zad (xf:=ztk) rfl (by simp[ztk]) ?_
  simp only[ztk]
  have hc:cpyP [] 1 .nl (Dw 0 a)=some (.i .i64 0,[]):=by
   simp[cpyP,Dw,srcP,ez,tab]
  simp only[go_sem,seval,Int.natCast_zero,zdZ,Int.reduceLE,Int.reduceToNat,zfk,hc,h1]
  rfl
 ·have hsub:∃v M',pcl E0 62 [.sl 0 0 n n 1,Dw m b] [some ⟨tab n fun k=>(PV.i .u32 ((dgt a k:Nat):Int)),true,1⟩]=some (v,M')∧∃e,M'=[some ⟨tab n fun k=>(PV.i .u32 ((dgt s k:Nat):Int)),true,e⟩]:=by
   refine zcG (xf:=ztl) rfl rfl (by simp[ztl]) ?_
   simp only[ztl]
   simp only[go_sem,seval]
   refine zjq hs hb (by omega) (by omega) (by simp only[go_sem,seval]) (by simp only[go_sem,seval]) (by simp only[go_sem,seval]) (by simp only[go_sem,seval]) (by simp only[go_sem,seval]) rfl fun fr' e c g5=>?_
   simp only[go_sem,seval,g5]
   exact⟨e,rfl⟩
  obtain⟨v,M',h1,e,rfl⟩:=hsub
  refine zad (xf:=ztk) rfl (by simp[ztk]) ?_
  simp only[ztk]
  have hc:=zme (n:=n) (a:=a) (e:=0) (l:=List.replicate n (.i .u32 0)) (by simp)
  simp(disch:=omega)only[go_sem,seval,wqq,zcP,hc,h1,h0]
end Go.Eng
namespace Go.Eng
theorem zhu {a b:Nat}:a+b<4294967296^(max (wlen a) (wlen b)+1):=by
 have h1:=Nat.lt_of_lt_of_le (zag a) (Nat.pow_le_pow_right (by decide:0<4294967296) (Nat.le_max_left (wlen a) (wlen b)))
 have h2:=Nat.lt_of_lt_of_le (zag b) (Nat.pow_le_pow_right (by decide:0<4294967296) (Nat.le_max_right (wlen a) (wlen b)))
 rw[Nat.pow_succ];omega
theorem zja (x y:WI):pf E0 23 [wiP x,wiP y]=some (.tu [wiP (clip (x.v+y.v)),.i .i64 (lerr (x.v+y.v))]):=by
 refine zad (xf:=zuB) rfl (by simp[zuB]) ?_
 simp only[zuB]
 have lx:=x.lim
 have ly:=y.lim
 have hsum:=znk (zag x.v.natAbs) (zag y.v.natAbs) (by omega) (by omega)
 have hcmp:=zbv x.v.natAbs y.v.natAbs (by omega) (by omega)
 have lm:max (wlen x.v.natAbs) (wlen y.v.natAbs)+1<1099511627776:=by omega
 by_cases hx:x.v<0
 ·by_cases hy:y.v<0
  ·have hsg:=zaD true _ _ (zhu (a:=x.v.natAbs) (b:=y.v.natAbs)) lm
   have e1:(if true=true then-((x.v.natAbs+y.v.natAbs:Nat):Int) else ((x.v.natAbs+y.v.natAbs:Nat):Int))=x.v+y.v:=by rw[if_pos rfl];omega
   have e2:lerr ((x.v.natAbs+y.v.natAbs:Nat):Int)=lerr (x.v+y.v):=by rw[←e1,if_pos rfl,zec]
   rw[e1,e2] at hsg
   simp only[go_sem,seval,hx,hy]
   refine zbZ rfl ?_
   simp only[go_sem,seval,hsum,hsg]
  ·by_cases hab:x.v.natAbs<y.v.natAbs
   ·have hc:(cmpI (x.v.natAbs:Int) (y.v.natAbs:Int)<0)=True:=by unfold cmpI;simp;omega
    have hd:=zaZ (a:=y.v.natAbs) (b:=x.v.natAbs) (s:=y.v.natAbs-x.v.natAbs) (by omega) (zag _) (by omega) (by omega) (zag y.v.natAbs)
    have hsg:=zaD false (wlen y.v.natAbs) (y.v.natAbs-x.v.natAbs) (Nat.lt_of_le_of_lt (Nat.sub_le _ _) (zag _)) (by omega)
    have e1:((y.v.natAbs-x.v.natAbs:Nat):Int)=x.v+y.v:=by omega
    rw[if_neg (by simp),e1] at hsg
    simp only[go_sem,seval,hx,hy,hcmp,hc]
    refine zbZ rfl ?_
    simp only[go_sem,seval,hd,hsg]
   ·have hc:(cmpI (x.v.natAbs:Int) (y.v.natAbs:Int)<0)=False:=by unfold cmpI;simp;omega
    have hd:=zaZ (a:=x.v.natAbs) (b:=y.v.natAbs) (s:=x.v.natAbs-y.v.natAbs) (by omega) (zag _) (by omega) (by omega) (zag x.v.natAbs)
    have hsg:=zaD true (wlen x.v.natAbs) (x.v.natAbs-y.v.natAbs) (Nat.lt_of_le_of_lt (Nat.sub_le _ _) (zag _)) (by omega)
    have e1 : -((x.v.natAbs-y.v.natAbs:Nat):Int)=x.v+y.v:=by omega
    rw[if_pos rfl,e1,←zec,e1] at hsg
    simp only[go_sem,seval,hx,hy,hcmp,hc]
    refine zbZ rfl ?_
    simp only[go_sem,seval,hd,hsg]
 ·by_cases hy:y.v<0
  ·by_cases hab:x.v.natAbs<y.v.natAbs
   ·have hc:(cmpI (x.v.natAbs:Int) (y.v.natAbs:Int)<0)=True:=by unfold cmpI;simp;omega
    have hd:=zaZ (a:=y.v.natAbs) (b:=x.v.natAbs) (s:=y.v.natAbs-x.v.natAbs) (by omega) (zag _) (by omega) (by omega) (zag y.v.natAbs)
    have hsg:=zaD true (wlen y.v.natAbs) (y.v.natAbs-x.v.natAbs) (Nat.lt_of_le_of_lt (Nat.sub_le _ _) (zag _)) (by omega)
    have e1 : -((y.v.natAbs-x.v.natAbs:Nat):Int)=x.v+y.v:=by omega
    rw[if_pos rfl,e1,←zec,e1] at hsg
    simp only[go_sem,seval,hx,hy,hcmp,hc]
    refine zbZ rfl ?_
    simp only[go_sem,seval,hd,hsg]
   ·have hc:(cmpI (x.v.natAbs:Int) (y.v.natAbs:Int)<0)=False:=by unfold cmpI;simp;omega
    have hd:=zaZ (a:=x.v.natAbs) (b:=y.v.natAbs) (s:=x.v.natAbs-y.v.natAbs) (by omega) (zag _) (by omega) (by omega) (zag x.v.natAbs)
    have hsg:=zaD false (wlen x.v.natAbs) (x.v.natAbs-y.v.natAbs) (Nat.lt_of_le_of_lt (Nat.sub_le _ _) (zag _)) (by omega)
    have e1:((x.v.natAbs-y.v.natAbs:Nat):Int)=x.v+y.v:=by omega
    rw[if_neg (by simp),e1] at hsg
    simp only[go_sem,seval,hx,hy,hcmp,hc]
    refine zbZ rfl ?_
    simp only[go_sem,seval,hd,hsg]
  ·have hsg:=zaD false _ _ (zhu (a:=x.v.natAbs) (b:=y.v.natAbs)) lm
   have e1:((x.v.natAbs+y.v.natAbs:Nat):Int)=x.v+y.v:=by omega
   rw[if_neg (by simp),e1] at hsg
   simp only[go_sem,seval,hx,hy]
   refine zbZ rfl ?_
   simp only[go_sem,seval,hsum,hsg]
attribute [go_sem] zja
theorem zk8 (x y:WI):pf E0 39 [wiP x,wiP y]=some (.tu [wiP (clip (x.v-y.v)),.i .i64 (lerr (x.v-y.v))]):=by
 refine zad (xf:=zuz) rfl (by simp[zuz]) ?_
 simp only[zuz]
 simp only[go_sem,seval]
 refine zbZ rfl ?_
 simp only[go_sem,seval]
 rfl
attribute [go_sem] zk8
theorem znz (P w b i j:Nat):P+w*4294967296^i*b=(P%4294967296^(i+j)+w*4294967296^i*(b%4294967296^j))+4294967296^(i+j)*(dgt P (i+j)+w*dgt b j)+4294967296^(i+j)*4294967296*(P/(4294967296^(i+j)*4294967296)+w*(b/(4294967296^j*4294967296))):=by
 have sp:=zbM P (i+j)
 have sb:=zbM b j
 rw[Nat.pow_add] at sp ⊢
 generalize 4294967296^i=p at *
 generalize 4294967296^j=q at *
 generalize P%(p*q)=r1 at *
 generalize P/(p*q*4294967296)=r2 at *
 generalize b%q=r3 at *
 generalize b/(q*4294967296)=r4 at *
 generalize dgt P (i+j)=r5 at *
 generalize dgt b j=r6 at *
 subst sp sb
 grind
theorem zjm {F:PFin} {ks:List KI} {n m P b w i e0:Nat} (hb:b<4294967296^m) (hw:w<4294967296) (hi:i<n) (hn:n<1073741824) (hm:m<1073741824) {fr:PFr} {M:PM} (h1:fr 25=Dw m b) (h5:fr 5=.sl 0 0 (n+m) (n+m) 1)
  (h6:fr 6=.i .i64 (i:Int)) (h7:fr 7=(PV.i .u32 ((w:Nat):Int))) (h8:fr 8=.i .u64 0) (h26:fr 26=.i .i64 (m:Int)) (h27:fr 27=.i .i64 0) (hM:M=[some ⟨tab (n+m) fun k=>(PV.i .u32 ((dgt P k:Nat):Int)),true,e0⟩]) (a:PV) (h0:fr 1=a) (N:PV) (h19:fr 19=N) (L:PV) (h18:fr 18=L) (I:PV) (h20:fr 20=I)
  (cont:∀fr' e c,fr' 1=a→fr' 5=.sl 0 0 (n+m) (n+m) 1→fr' 6=.i .i64 (i:Int)→fr' 18=L→fr' 19=N→fr' 20=I→fr' 8=.i .u64 ((c:Nat):Int)→c<4294967296→P%4294967296^(i+m)+w*4294967296^i*b=(P+w*4294967296^i*b)%4294967296^(i+m)+4294967296^(i+m)*c →
   UK E0 F (.exit 2) ks fr' [some ⟨tab (n+m) (fun k=>(PV.i .u32 ((if k<i+m then dgt (P+w*4294967296^i*b) k else dgt P k:Nat):Int))),true,e⟩]):WK E0 F (.loop zuy) ks fr M:=by
 refine zas zuy.eq_1 (fun(j:Nat) fr M=>j≤m∧fr 25=Dw m b∧fr 5=.sl 0 0 (n+m) (n+m) 1∧fr 6=.i .i64 (i:Int)∧fr 7=(PV.i .u32 ((w:Nat):Int))∧fr 26=.i .i64 (m:Int)∧fr 27=.i .i64 (j:Int)∧fr 1=a∧fr 18=L∧fr 19=N∧fr 20=I ∧
  ∃c e:Nat,fr 8=.i .u64 (c:Int)∧M=[some ⟨tab (n+m) fun k=>(PV.i .u32 ((if k<i+j then dgt (P+w*4294967296^i*b) k else dgt P k:Nat):Int)),true,e⟩]∧c<4294967296∧P%4294967296^(i+j)+w*4294967296^i*(b%4294967296^j)=(P+w*4294967296^i*b)%4294967296^(i+j)+4294967296^(i+j)*c)
  (fun j=>m-j) ?_ 0 ⟨Nat.zero_le _,h1,h5,h6,h7,h26,h27,h0,h18,h19,h20,0,e0,h8,?_,by decide,?_⟩
 ·rintro j fr M ⟨hj,h25,h5,h6,h7,h26,h27,h0,h18,h19,h20,c,e,h8,rfl,hc,hinv⟩ ih
  by_cases hjm:j<m
  ·have hc0:((j:Int)<(m:Int))=True:=by simp;omega
   have db:=zau b j
   have dp:=zau P (i+j)
   have hget:(tab (n+m) fun k=>(PV.i .u32 ((if k<i+j then dgt (P+w*4294967296^i*b) k else dgt P k:Nat):Int)))[i+j]?=some (PV.i .u32 ((dgt P (i+j):Nat):Int)):=by rw[zaW (by omega),if_neg (by omega)]
   have hij:((i:Int)+(j:Int))=((i+j:Nat):Int):=by omega
   have j1:((j:Int)+1)=((j+1:Nat):Int):=by omega
   have hmul:w*dgt b j≤4294967295*4294967295:=Nat.mul_le_mul (by omega) (by omega)
   have hww:((w:Int)*(dgt b j:Int))=((w*dgt b j:Nat):Int):=by simp
   have hadd:(((w*dgt b j:Nat):Int)+(dgt P (i+j):Int)+(c:Int))=((w*dgt b j+dgt P (i+j)+c:Nat):Int):=by omega
   have hlt:i+j<n+m:=by omega
   simp(disch:=omega)only[go_sem,seval,wqq,h25,h5,h6,h7,h8,h26,h27,hc0,zaG,hij,hget,hww,hadd,hlt,j1,za2,zaA,Int.reduceToNat,Nat.reducePow]
   obtain⟨k1,k2⟩:=ze3 (c:=c) (zbq (i+j)) hinv (znz P w b i j)
   have hx:c+(dgt P (i+j)+w*dgt b j)=w*dgt b j+dgt P (i+j)+c:=by omega
   rw[hx] at k1 k2
   refine ih (j+1) _ _ (by omega) ⟨by omega,by simp only[go_sem,seval,h25],by simp only[go_sem,seval,h5],by simp only[go_sem,seval,h6],by simp only[go_sem,seval,h7],by simp only[go_sem,seval,h26],by simp only[go_sem,seval],by simp only[go_sem,seval,h0],by simp only[go_sem,seval,h18],by simp only[go_sem,seval,h19],by simp only[go_sem,seval,h20],(w*dgt b j+dgt P (i+j)+c)/4294967296,e+1,by simp only[go_sem,seval],?_,by omega,?_⟩
   ·congr 3
    refine zak fun k hk=>?_
    by_cases hki:k=i+j
    ·subst hki
     rw[if_pos rfl,if_pos (by omega)]
     congr 2;rw[zah (P+w*4294967296^i*b)];exact k1.symm
    ·rw[if_neg hki]
     congr 2
     by_cases h:k<i+j
     ·rw[if_pos h,if_pos (by omega)]
     ·rw[if_neg h,if_neg (by omega)]
   ·rw[show i+(j+1)=i+j+1 by omega,Nat.pow_succ,←k2,←Nat.pow_succ,zay P,zay b]
    rw[Nat.pow_add]
    grind
  ·have hc0:((j:Int)<(m:Int))=False:=by simp;omega
   obtain rfl:j=m:=by omega
   simp only[go_sem,seval,h26,h27,hc0]
   rw[Nat.mod_eq_of_lt hb] at hinv
   exact cont _ e c (by simp only[go_sem,seval,h0]) (by simp only[go_sem,seval,h5]) (by simp only[go_sem,seval,h6]) (by simp only[go_sem,seval,h18]) (by simp only[go_sem,seval,h19]) (by simp only[go_sem,seval,h20]) (by simp only[go_sem,seval,h8]) hc hinv
 ·rw[hM]
  congr 3
  refine zak fun k hk=>?_
  congr 2
  by_cases h:k<i+0
  ·rw[if_pos h,zah,zah]
   have e1:(4294967296:Nat)^i=4294967296^k*(4294967296^(i-k-1)*4294967296):=by
    rw[←Nat.pow_succ,←Nat.pow_add];congr 1;omega
   rw[e1,show w*(4294967296^k*(4294967296^(i-k-1)*4294967296))*b=4294967296^k*(4294967296*(w*4294967296^(i-k-1)*b)) by grind,Nat.add_mul_div_left _ _ (zbq k),Nat.add_mul_mod_self_left]
  ·rw[if_neg h]
 ·have e1:P+w*4294967296^i*b=P+4294967296^i*(w*b):=by grind
  rw[Nat.add_zero,Nat.pow_zero,Nat.mod_one,e1,Nat.add_mul_mod_self_left];simp
theorem zln {n m a b:Nat} (ha:a<4294967296^n) (hb:b<4294967296^m) (hn:n<536870912) (hm:m<536870912) (h0:n+m≠0):pf E0 59 [Dw n a,Dw m b]=some (Dw (n+m) (a*b)):=by
 refine zad (xf:=ztu) rfl (by simp[ztu]) ?_
 simp only[ztu]
 have hnm:((n:Int)+(m:Int))=((n+m:Nat):Int):=by omega
 simp(disch:=omega)only[go_sem,seval,wqq,hnm,zcP]
 refine zas zur.eq_1 (fun(i:Nat) fr M=>i≤n∧fr 1=Dw m b∧fr 5=.sl 0 0 (n+m) (n+m) 1∧fr 18=Dw n a∧fr 19=.i .i64 (n:Int)∧fr 20=.i .i64 (i:Int) ∧
  ∃e:Nat,M=[some ⟨tab (n+m) fun k=>(PV.i .u32 ((dgt (a%4294967296^i*b) k:Nat):Int)),true,e⟩]) (fun i=>n-i) ?_ 0 ⟨Nat.zero_le _,by simp only[go_sem,seval],by simp only[go_sem,seval],by simp only[go_sem,seval],by simp only[go_sem,seval],by simp only[go_sem,seval];try rfl,0,?_⟩
 ·rintro i fr M ⟨hi,h1,h5,h18,h19,h20,e,rfl⟩ ih
  by_cases hin:i<n
  ·have hc0:((i:Int)<(n:Int))=True:=by simp;omega
   have i1:((i:Int)+1)=((i+1:Nat):Int):=by omega
   simp(disch:=omega)only[go_sem,seval,wqq,h1,h5,h18,h19,h20,hc0,zaG]
   refine zjm (n:=n) (P:=a%4294967296^i*b) (w:=dgt a i) hb (zau a i) hin (by omega) (by omega) (by simp only[go_sem,seval,h1]) (by simp only[go_sem,seval,h5]) (by simp only[go_sem,seval]) (by simp only[go_sem,seval]) (by simp only[go_sem,seval]) (by simp only[go_sem,seval]) (by simp only[go_sem,seval]) rfl (Dw m b) (by simp only[go_sem,seval,h1]) (.i .i64 (n:Int)) (by simp only[go_sem,seval,h19]) (Dw n a) (by simp only[go_sem,seval,h18]) (.i .i64 (i:Int)) (by simp only[go_sem,seval,h20]) fun fr' e' c g1 g5 g6 g18 g19 g20 g8 hc hinv=>?_
   have him:((i:Int)+(m:Int))=((i+m:Nat):Int):=by omega
   have hlt:i+m<n+m:=by omega
   simp(disch:=omega)only[go_sem,seval,wqq,g1,g5,g6,g18,g19,g20,g8,him,hlt,i1,zaA]
   have hP:a%4294967296^(i+1)*b=a%4294967296^i*b+dgt a i*4294967296^i*b:=by rw[zay];grind
   have hPl:a%4294967296^i*b<4294967296^(i+m):=by
    rw[Nat.pow_add]
    exact Nat.mul_lt_mul'' (Nat.mod_lt _ (zbq i)) hb
   refine ih (i+1) _ _ (by omega) ⟨by omega,by simp only[go_sem,seval,g1],by simp only[go_sem,seval,g5],by simp only[go_sem,seval,g18],by simp only[go_sem,seval,g19],by simp only[go_sem,seval],e'+1,?_⟩
   congr 3
   refine zak fun k hk=>?_
   rw[hP]
   rw[Nat.mod_eq_of_lt hPl] at hinv
   have hval:a%4294967296^i*b+dgt a i*4294967296^i*b=(a%4294967296^i*b+dgt a i*4294967296^i*b)%4294967296^(i+m)+4294967296^(i+m)*c:=hinv
   have hd:(a%4294967296^i*b+dgt a i*4294967296^i*b)/4294967296^(i+m)=c:=by
    have h1:=Nat.div_add_mod (a%4294967296^i*b+dgt a i*4294967296^i*b) (4294967296^(i+m))
    exact Nat.eq_of_mul_eq_mul_left (zbq (i+m)) (by omega)
   by_cases hki:k=i+m
   ·subst hki
    rw[if_pos rfl,zah,hd]
    congr 2;omega
   ·rw[if_neg hki]
    congr 2
    by_cases h:k<i+m
    ·rw[if_pos h]
    ·rw[if_neg h,zbn hPl (by omega)]
     have:a%4294967296^i*b+dgt a i*4294967296^i*b<4294967296^(i+m+1):=by
      rw[Nat.pow_succ]
      have h2:=Nat.mod_lt (a%4294967296^i*b+dgt a i*4294967296^i*b) (zbq (i+m))
      have h3:4294967296^(i+m)*(c+1)≤4294967296^(i+m)*4294967296:=Nat.mul_le_mul_left _ (by omega)
      rw[Nat.mul_add] at h3
      omega
     rw[zbn this (by omega)]
  ·have hc0:((i:Int)<(n:Int))=False:=by simp;omega
   obtain rfl:i=n:=by omega
   simp only[go_sem,seval,h5,h19,h20,hc0]
   rw[Nat.mod_eq_of_lt ha]
   simp only[h0,if_false];rfl
 ·rw[zcJ]
  congr 3
  refine zak fun k hk=>?_
  simp[Nat.mod_one,zcV]
end Go.Eng
