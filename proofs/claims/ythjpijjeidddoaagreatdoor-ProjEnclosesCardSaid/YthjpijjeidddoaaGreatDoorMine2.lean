/- The engine and the contracts on which the statement stands: no conditions of its own. -/
import Derived.Test.YthjpijjeidddoaaGreatDoorMine1
set_option linter.unusedSimpArgs false
set_option linter.unusedVariables false
set_option linter.unusedSectionVars false
namespace Go.Eng
variable {E:PEnv} {F:PFin}
@[go_sem] theorem zr1 (fr:PFr) (d:Nat) (v:PV):fr.putO (some d) v=fr.put d v:=_root_.id rfl
@[go_sem] theorem zrZ (fr:PFr) (v:PV):fr.putO none v=fr:=_root_.id rfl
@[go_sem] theorem zpC (fr:PFr) (d:Nat) (v:PV) (k:Nat):fr.put d v k=if k=d then v else fr k:=_root_.id rfl
@[go_sem] theorem zqM (a:PV) (l:List PV):frOf (a::l) 0=a:=_root_.id rfl
@[go_sem] theorem zqL (a:PV) (l:List PV) (k:Nat):frOf (a::l) (k+1)=frOf l k:=_root_.id rfl
@[go_sem] theorem zzD (G:Nat→Option (List AV)) (fr:PFr) (n:Nat):X.pv G fr (.t n)=fr n:=_root_.id rfl
@[go_sem] theorem zzC (G:Nat→Option (List AV)) (fr:PFr) (v:AV):X.pv G fr (.k v)=cst G v:=_root_.id rfl
@[go_sem] theorem zyy (G:Nat→Option (List AV)) (v:Bool):cst G (.b v)=.b v:=_root_.id rfl
@[go_sem] theorem zyz (G:Nat→Option (List AV)) (k:IntKind) (n:Int):cst G (.i k n)=.i k n:=_root_.id rfl
@[go_sem] theorem zyA (G:Nat→Option (List AV)) (l:List UInt8):cst G (.s l)=.s l:=_root_.id rfl
@[go_sem] theorem zwW (G:Nat→Option (List AV)):cst G .sn=.nl:=_root_.id rfl
@[go_sem] theorem zwV (G:Nat→Option (List AV)) (f:Nat):cst G (.fn f [])=.fn f []:=_root_.id rfl
@[go_sem] theorem zsH (G:Nat→Option (List AV)):cst G .fnil=.fnil:=_root_.id rfl
@[go_sem] theorem zwS (v:Bool):cst0 (.b v)=.b v:=_root_.id rfl
@[go_sem] theorem zwT (k:IntKind) (n:Int):cst0 (.i k n)=.i k n:=_root_.id rfl
@[go_sem] theorem zwU (l:List UInt8):cst0 (.s l)=.s l:=_root_.id rfl
@[go_sem] theorem ztJ:cst0 .sn=.nl:=_root_.id rfl
@[go_sem] theorem zxY (v:Bool):PV.scal (.b v)=true:=_root_.id rfl
@[go_sem] theorem zxZ (k:IntKind) (n:Int):PV.scal (.i k n)=true:=_root_.id rfl
@[go_sem] theorem zx0 (l:List UInt8):PV.scal (.s l)=true:=_root_.id rfl
@[go_sem] theorem zs3 (l:List PV):PV.scal (.lst l)=true:=_root_.id rfl
@[go_sem] theorem zws:PV.scal .nl=true:=_root_.id rfl
@[go_sem] theorem zwr (f:Nat) (l:List PV):PV.scal (.fn f l)=true:=_root_.id rfl
@[go_sem] theorem ztF (v:Bool):PV.cells (.b v)=[.b v]:=_root_.id rfl
@[go_sem] theorem ztG (k:IntKind) (n:Int):PV.cells (.i k n)=[.i k n]:=_root_.id rfl
@[go_sem] theorem ztH (l:List UInt8):PV.cells (.s l)=[.s l]:=_root_.id rfl
@[go_sem] theorem zsC (l:List PV):PV.cells (.ag l)=l:=_root_.id rfl
@[go_sem] theorem zsw (p:PV→Bool):[].all p=true:=_root_.id rfl
@[go_sem] theorem zqd (p:PV→Bool) (a:PV) (l:List PV):(a::l).all p=(p a&&l.all p):=_root_.id rfl
@[go_sem] theorem zlF (b:Option PB) (M:PM):PM.blk (b::M) 0=b:=by cases b<;>rfl
@[go_sem] theorem ze9 (b:Option PB) (M:PM) (n:Nat):PM.blk (b::M) (n+1)=PM.blk M n:=_root_.id rfl
@[go_sem] theorem zwg (l:List PV):pickP true l=some (.ag l):=_root_.id rfl
@[go_sem] theorem zsZ (v:PV):pickP false [v]=some v:=_root_.id rfl
section
variable (d:Option Nat) (af:List Nat) (l:List XOper) (ks:List KI) (fr:PFr) (M:PM)
@[go_sem] theorem zys (x:X):WL E F (⟨d,.mov x,af,none⟩::l) ks fr M=WL E F l ks (fr.putO d (x.pv E.glob fr)) M:=by rw[za0];exact zhg ..
@[go_sem] theorem zye (op:BinOp) (x y:X):WL E F (⟨d,.bin op x y,af,none⟩::l) ks fr M=WV1 E F (binP op (x.pv E.glob fr) (y.pv E.glob fr)) d l ks fr M:=by rw[za0];exact za1 ..
@[go_sem] theorem zzq (op:UnOp) (x:X):WL E F (⟨d,.un op x,af,none⟩::l) ks fr M=WV1 E F (unP op (x.pv E.glob fr)) d l ks fr M:=by rw[za0];exact za1 ..
def boolP (ne:Bool):Option Bool→Option PV
 | some v=>some (.b (if ne then !v else v))
 | none=>none
@[go_sem] theorem ztD (v:Bool):boolP false (some v)=some (.b v):=_root_.id rfl
@[go_sem] theorem ztE (v:Bool):boolP true (some v)=some (.b (!v)):=_root_.id rfl
@[go_sem] theorem zyj (ne:Bool) (c:Nat) (x y:X):WL E F (⟨d,.eqt ne c x y,af,none⟩::l) ks fr M=WV1 E F (boolP ne (eqTP c (x.pv E.glob fr) (y.pv E.glob fr))) d l ks fr M:=by
 rw[za0,←za1]
 have:XO.pst E.glob (pcl E) fr M (.eqt ne c x y)=(boolP ne (eqTP c (x.pv E.glob fr) (y.pv E.glob fr))).map fun v=>(v,M):=by
  show (eqTP c (x.pv E.glob fr) (y.pv E.glob fr)).map _=_
  cases eqTP c (x.pv E.glob fr) (y.pv E.glob fr)<;>rfl
 rw[this]
def eqaP (ks:List Nat):PV→PV→Option Bool
 | .ag xs,.ag ys=>eqCellsP ks xs ys
 | _,_=>none
@[go_sem] theorem ztN (ks:List Nat) (xs ys:List PV):eqaP ks (.ag xs) (.ag ys)=eqCellsP ks xs ys:=_root_.id rfl
@[go_sem] theorem zyi (ne:Bool) (c:List Nat) (x y:X):WL E F (⟨d,.eqa ne c x y,af,none⟩::l) ks fr M=WV1 E F (boolP ne (eqaP c (x.pv E.glob fr) (y.pv E.glob fr))) d l ks fr M:=by
 rw[za0,←za1]
 have:XO.pst E.glob (pcl E) fr M (.eqa ne c x y)=(boolP ne (eqaP c (x.pv E.glob fr) (y.pv E.glob fr))).map fun v=>(v,M):=by
  simp only[XO.pst,XO.pev]
  generalize x.pv E.glob fr=a
  generalize y.pv E.glob fr=b
  cases a<;>cases b<;>simp only[eqaP]<;>first|rfl|(rename_i xs ys;cases eqCellsP c xs ys<;>rfl)
 rw[this]
def cintP (k:IntKind):PV→Option PV
 | .i _ n=>some (.i k (k.wrap n))
 | _=>none
@[go_sem] theorem ztI (k k':IntKind) (n:Int):cintP k (.i k' n)=some (.i k (k.wrap n)):=_root_.id rfl
@[go_sem] theorem zwH (k:IntKind) (x:X):WL E F (⟨d,.cint k x,af,none⟩::l) ks fr M=WV1 E F (cintP k (x.pv E.glob fr)) d l ks fr M:=by
 rw[za0,←za1]
 have:XO.pst E.glob (pcl E) fr M (.cint k x)=(cintP k (x.pv E.glob fr)).map fun v=>(v,M):=by
  simp only[XO.pst,XO.pev]
  cases x.pv E.glob fr<;>rfl
 rw[this]
def lenP:PV→Option PV
 | .sl _ _ ln _ _=>some (.i .i64 ln)
 | .nl=>some (.i .i64 0)
 | .lst xs=>some (.i .i64 xs.length)
 | _=>none
@[go_sem] theorem zui (n o ln c z:Nat):lenP (.sl n o ln c z)=some (.i .i64 ln):=_root_.id rfl
@[go_sem] theorem zuh:lenP .nl=some (.i .i64 0):=_root_.id rfl
@[go_sem] theorem zsP (xs:List PV):lenP (.lst xs)=some (.i .i64 xs.length):=_root_.id rfl
@[go_sem] theorem zyq (x:X):WL E F (⟨d,.len x,af,none⟩::l) ks fr M=WV1 E F (lenP (x.pv E.glob fr)) d l ks fr M:=by
 rw[za0,←za1]
 have:XO.pst E.glob (pcl E) fr M (.len x)=(lenP (x.pv E.glob fr)).map fun v=>(v,M):=by
  simp only[XO.pst,XO.pev]
  cases x.pv E.glob fr<;>rfl
 rw[this]
def lensP:PV→Option PV
 | .s l=>some (.i .i64 l.length)
 | _=>none
@[go_sem] theorem zuj (l:List UInt8):lensP (.s l)=some (.i .i64 l.length):=_root_.id rfl
@[go_sem] theorem zwJ (x:X):WL E F (⟨d,.lens x,af,none⟩::l) ks fr M=WV1 E F (lensP (x.pv E.glob fr)) d l ks fr M:=by
 rw[za0,←za1]
 have:XO.pst E.glob (pcl E) fr M (.lens x)=(lensP (x.pv E.glob fr)).map fun v=>(v,M):=by
  simp only[XO.pst,XO.pev]
  cases x.pv E.glob fr<;>rfl
 rw[this]
def pickB (a b:PV):PV→Option PV
 | .b v=>some (if v then a else b)
 | _=>none
@[go_sem] theorem zwf (a b:PV):pickB a b (.b true)=some a:=_root_.id rfl
@[go_sem] theorem zwe (a b:PV):pickB a b (.b false)=some b:=_root_.id rfl
@[go_sem] theorem zwK (c x y:X):WL E F (⟨d,.pick c x y,af,none⟩::l) ks fr M=WV1 E F (pickB (x.pv E.glob fr) (y.pv E.glob fr) (c.pv E.glob fr)) d l ks fr M:=by
 rw[za0,←za1]
 have:XO.pst E.glob (pcl E) fr M (.pick c x y)=(pickB (x.pv E.glob fr) (y.pv E.glob fr) (c.pv E.glob fr)).map fun v=>(v,M):=by
  simp only[XO.pst,XO.pev]
  cases c.pv E.glob fr<;>rfl
 rw[this]
@[go_sem] theorem zyr (f:Nat) (xs:List X):WL E F (⟨d,.mfn f xs,af,none⟩::l) ks fr M=WL E F l ks (fr.putO d (.fn f (xs.map (X.pv E.glob fr)))) M:=by rw[za0];exact zhg ..
def fadP (off:Nat):PV→Option PV
 | .p m o=>some (.p m (o+off))
 | .fp l=>some (.fp (l.drop off))
 | _=>none
@[go_sem] theorem zwY (off m o:Nat):fadP off (.p m o)=some (.p m (o+off)):=_root_.id rfl
@[go_sem] theorem ztQ (off:Nat) (xs:List PV):fadP off (.fp xs)=some (.fp (xs.drop off)):=_root_.id rfl
@[go_sem] theorem zyl (off:Nat) (x:X):WL E F (⟨d,.fad off x,af,none⟩::l) ks fr M=WV1 E F (fadP off (x.pv E.glob fr)) d l ks fr M:=by
 rw[za0,←za1]
 have:XO.pst E.glob (pcl E) fr M (.fad off x)=(fadP off (x.pv E.glob fr)).map fun v=>(v,M):=by
  simp only[XO.pst,XO.pev]
  cases x.pv E.glob fr<;>rfl
 rw[this]
def fldP (agg:Bool) (off n:Nat):PV→Option PV
 | .ag l=>if off+n≤l.length then pickP agg ((l.drop off).take n) else none
 | _=>none
@[go_sem] theorem zym (agg:Bool) (off n:Nat) (x:X):WL E F (⟨d,.fld agg off n x,af,none⟩::l) ks fr M=WV1 E F (fldP agg off n (x.pv E.glob fr)) d l ks fr M:=by
 rw[za0,←za1]
 have:XO.pst E.glob (pcl E) fr M (.fld agg off n x)=(fldP agg off n (x.pv E.glob fr)).map fun v=>(v,M):=by
  simp only[XO.pst,XO.pev]
  generalize x.pv E.glob fr=a
  cases a<;>simp only[fldP]<;>first|rfl|(split<;>rfl)
 rw[this]
def extP (n:Nat):PV→Option PV
 | .tu l=>l[n]?
 | _=>none
@[go_sem] theorem ztO (n:Nat) (xs:List PV):extP n (.tu xs)=xs[n]?:=_root_.id rfl
@[go_sem] theorem zyk (x:X) (n:Nat):WL E F (⟨d,.ext x n,af,none⟩::l) ks fr M=WV1 E F (extP n (x.pv E.glob fr)) d l ks fr M:=by
 rw[za0,←za1]
 have:XO.pst E.glob (pcl E) fr M (.ext x n)=(extP n (x.pv E.glob fr)).map fun v=>(v,M):=by
  simp only[XO.pst,XO.pev]
  cases x.pv E.glob fr<;>rfl
 rw[this]
@[go_sem] theorem zzp (mx:Bool) (x:X) (xs:List X):WL E F (⟨d,.mm mx x xs,af,none⟩::l) ks fr M=WV1 E F (mmP mx (x.pv E.glob fr) (xs.map (X.pv E.glob fr))) d l ks fr M:=by rw[za0];exact za1 ..
@[go_sem] theorem zte (z:List AV) (ps:List (Nat×Nat×X)):WL E F (⟨d,.build z ps,af,none⟩::l) ks fr M=WV1 E F ((fillP E.glob fr (z.map cst0) ps).map .ag) d l ks fr M:=by
 rw[za0,←za1]
 have:XO.pst E.glob (pcl E) fr M (.build z ps)=((fillP E.glob fr (z.map cst0) ps).map .ag).map fun v=>(v,M):=by
  simp only[XO.pst,XO.pev,Option.map_map]
  rfl
 rw[this]
@[go_sem] theorem zsI (G:Nat→Option (List AV)) (z:List PV):fillP G fr z []=some z:=_root_.id rfl
def fill1 (z:List PV) (off:Nat):List PV→Option (List PV)
 | [c]=>if off<z.length∧c.scal=true then some (z.set off c) else none
 | _=>none
@[go_sem] theorem zqI (z:List PV) (off:Nat) (c:PV):fill1 z off [c]=if off<z.length∧c.scal=true then some (z.set off c) else none:=_root_.id rfl
def fillB (G:Nat→Option (List AV)) (ps:List (Nat×Nat×X)):Option (List PV)→Option (List PV)
 | some z=>fillP G fr z ps
 | none=>none
@[go_sem] theorem zp4 (G:Nat→Option (List AV)) (z:List PV) (ps:List (Nat×Nat×X)):fillB fr G ps (some z)=fillP G fr z ps:=_root_.id rfl
theorem zli (z:List PV) (off:Nat) (x:PV) (h:off<z.length):psplice z off [x]=z.set off x:=by
 rw[List.set_eq_take_append_cons_drop,if_pos h]
 simp[psplice]
@[go_sem] theorem zsJ (G:Nat→Option (List AV)) (z:List PV) (off:Nat) (x:X) (ps:List (Nat×Nat×X)):fillP G fr z ((off,(1,x))::ps)=fillB fr G ps (fill1 z off (x.pv G fr).cells):=by
 simp only[fillP]
 generalize hv:(x.pv G fr).cells=cs
 match cs,hv with
 | [c],hv =>
  simp only[fill1,List.length_cons,List.length_nil,Nat.zero_add,List.all_cons,List.all_nil,Bool.and_true,true_and]
  by_cases h:off<z.length∧c.scal=true
  ·rw[if_pos h,if_pos ⟨by omega,h.2⟩,zli _ _ _ h.1];rfl
  ·rw[if_neg h,if_neg (fun q=>h ⟨by omega,q.2⟩)];rfl
 | [],hv=>simp only[fill1];rw[if_neg (by simp)];rfl
 | _::_::_,hv=>simp only[fill1];rw[if_neg (by simp)];rfl
end
section
variable (d:Option Nat) (af:List Nat) (l:List XOper) (ks:List KI) (fr:PFr) (M:PM)
def idxP (sz:Nat):PV→Option Nat→Option PV
 | .sl m off ln _ z,some j=>if j<ln∧z=sz then some (.p m (off+j*sz)) else none
 | .lst xs,some j=>match xs[j]? with|some y=>if y.cells.length=sz then some (.fp y.cells) else none|none=>none
 | _,_=>none
@[go_sem] theorem zua (sz m off ln c z j:Nat):idxP sz (.sl m off ln c z) (some j)=if j<ln∧z=sz then some (.p m (off+j*sz)) else none:=_root_.id rfl
def idx1 (sz:Nat):Option PV→Option PV
 | some y=>if y.cells.length=sz then some (.fp y.cells) else none
 | none=>none
@[go_sem] theorem zqR (sz:Nat) (y:PV):idx1 sz (some y)=if y.cells.length=sz then some (.fp y.cells) else none:=_root_.id rfl
@[go_sem] theorem zfl (sz j:Nat) (xs:List PV):idxP sz (.lst xs) (some j)=idx1 sz xs[j]?:=by
 show (match xs[j]? with|some y=>if y.cells.length=sz then some (PV.fp y.cells) else none|none=>none)=_
 cases xs[j]?<;>rfl
@[go_sem] theorem zyp (sz:Nat) (x i:X):WL E F (⟨d,.ixs sz x i,af,none⟩::l) ks fr M=WV1 E F (idxP sz (x.pv E.glob fr) (asNP (i.pv E.glob fr))) d l ks fr M:=by
 rw[za0,←za1]
 have:XO.pst E.glob (pcl E) fr M (.ixs sz x i)=(idxP sz (x.pv E.glob fr) (asNP (i.pv E.glob fr))).map fun v=>(v,M):=by
  simp only[XO.pst,XO.pev]
  generalize x.pv E.glob fr=a
  generalize asNP (i.pv E.glob fr)=b
  cases a with
  | sl m off ln c z =>
   cases b with
   | none=>rfl
   | some j=>simp only[idxP];split<;>rfl
  | lst xs =>
   cases b with
   | none=>rfl
   | some j =>
    simp only[idxP]
    cases xs[j]? with
    | none=>rfl
    | some y=>simp only;split<;>rfl
  | _=>cases b<;>rfl
 rw[this]
@[go_sem] theorem zbf (k:IntKind) (n:Nat):asNP (.i k (n:Int))=some n:=by simp[asNP,asIP]
@[go_sem] theorem zc2 (k:IntKind) (n:Nat) [OfNat Int n]:asNP (.i k (no_index (OfNat.ofNat n)))=if 0≤(OfNat.ofNat n:Int) then some (OfNat.ofNat n:Int).toNat else none:=by simp[asNP,asIP]
def ixaP (ln sz:Nat):PV→Option Nat→Option PV
 | .p m off,some j=>if j<ln then some (.p m (off+j*sz)) else none
 | .fp l,some j=>if j<ln then some (.fp (l.drop (j*sz))) else none
 | _,_=>none
@[go_sem] theorem zw8 (ln sz m off j:Nat):ixaP ln sz (.p m off) (some j)=if j<ln then some (.p m (off+j*sz)) else none:=_root_.id rfl
@[go_sem] theorem zyo (ln sz:Nat) (x i:X):WL E F (⟨d,.ixa ln sz x i,af,none⟩::l) ks fr M=WV1 E F (ixaP ln sz (x.pv E.glob fr) (asNP (i.pv E.glob fr))) d l ks fr M:=by
 rw[za0,←za1]
 have:XO.pst E.glob (pcl E) fr M (.ixa ln sz x i)=(ixaP ln sz (x.pv E.glob fr) (asNP (i.pv E.glob fr))).map fun v=>(v,M):=by
  simp only[XO.pst,XO.pev]
  generalize x.pv E.glob fr=a
  generalize asNP (i.pv E.glob fr)=b
  cases a<;>cases b<;>simp only[ixaP]<;>first|rfl|(split<;>rfl)
 rw[this]
def iagP (ln:Nat) (agg:Bool) (sz:Nat):PV→Option Nat→Option PV
 | .ag l,some j=>if j<ln∧l.length=ln*sz then pickP agg ((l.drop (j*sz)).take sz) else none
 | _,_=>none
@[go_sem] theorem zt8 (ln:Nat) (agg:Bool) (sz j:Nat) (xs:List PV):iagP ln agg sz (.ag xs) (some j)=if j<ln∧xs.length=ln*sz then pickP agg ((xs.drop (j*sz)).take sz) else none:=_root_.id rfl
@[go_sem] theorem zyn (ln:Nat) (agg:Bool) (sz:Nat) (x i:X):WL E F (⟨d,.iag ln agg sz x i,af,none⟩::l) ks fr M=WV1 E F (iagP ln agg sz (x.pv E.glob fr) (asNP (i.pv E.glob fr))) d l ks fr M:=by
 rw[za0,←za1]
 have:XO.pst E.glob (pcl E) fr M (.iag ln agg sz x i)=(iagP ln agg sz (x.pv E.glob fr) (asNP (i.pv E.glob fr))).map fun v=>(v,M):=by
  simp only[XO.pst,XO.pev]
  generalize x.pv E.glob fr=a
  generalize asNP (i.pv E.glob fr)=b
  cases a<;>cases b<;>simp only[iagP]<;>first|rfl|(split<;>rfl)
 rw[this]
def istrP:PV→Option Nat→Option PV
 | .s l,some j=>(l[j]?).map fun c=>.i .u8 c.toNat
 | _,_=>none
@[go_sem] theorem zoF (bs:List UInt8) (j:Nat):istrP (.s bs) (some j)=(bs[j]?).map fun c=>.i .u8 c.toNat:=_root_.id rfl
@[go_sem] theorem zwI (x i:X):WL E F (⟨d,.istr x i,af,none⟩::l) ks fr M=WV1 E F (istrP (x.pv E.glob fr) (asNP (i.pv E.glob fr))) d l ks fr M:=by
 rw[za0,←za1]
 have:XO.pst E.glob (pcl E) fr M (.istr x i)=(istrP (x.pv E.glob fr) (asNP (i.pv E.glob fr))).map fun v=>(v,M):=by
  simp only[XO.pst,XO.pev]
  generalize x.pv E.glob fr=a
  generalize asNP (i.pv E.glob fr)=b
  cases a<;>cases b<;>simp only[istrP,Option.map_map]<;>rfl
 rw[this]
def ld1 (M:PM):PV→Option PV
 | .p m off=>match PM.blk M m with|some b=>b.v[off]?|none=>none
 | .fp l=>l[0]?
 | _=>none
def blkV (off:Nat):Option PB→Option PV
 | some b=>b.v[off]?
 | none=>none
@[go_sem] theorem zqj (off:Nat) (b:PB):blkV off (some b)=b.v[off]?:=_root_.id rfl
@[go_sem] theorem zyO (m off:Nat):ld1 M (.p m off)=blkV off (PM.blk M m):=by
 show (match PM.blk M m with|some b=>b.v[off]?|none=>none)=_
 cases PM.blk M m<;>rfl
@[go_sem] theorem zw9 (xs:List PV):ld1 M (.fp xs)=xs[0]?:=_root_.id rfl
theorem zoR (xs:List PV) (off:Nat):(if off+1≤xs.length then some ((xs.drop off).take 1) else none).bind (pickP false)=xs[off]?:=by
 by_cases h:off<xs.length
 ·rw[if_pos (by omega),List.drop_eq_getElem_cons h,List.getElem?_eq_getElem h];rfl
 ·rw[if_neg (by omega),List.getElem?_eq_none (by omega)];rfl
@[go_sem] theorem zth (x:X):WL E F (⟨d,.load false 1 x,af,none⟩::l) ks fr M=WV1 E F (ld1 M (x.pv E.glob fr)) d l ks fr M:=by
 rw[za0,←za1]
 have:XO.pst E.glob (pcl E) fr M (.load false 1 x)=(ld1 M (x.pv E.glob fr)).map fun v=>(v,M):=by
  simp only[XO.pst,XO.pev]
  generalize x.pv E.glob fr=a
  cases a with
  | p m off =>
   simp only[ld1,PM.rd]
   cases PM.blk M m with
   | none=>rfl
   | some b =>
    simp only
    have:=zoR b.v off
    rw[←this]
    split
    ·rename_i l' hl
     rw[hl];rfl
    ·rename_i hl
     rw[hl];rfl
  | fp xs =>
   simp only[ld1]
   cases xs with
   | nil=>rfl
   | cons y ys=>simp[pickP,oneP]
  | _=>rfl
 rw[this]
def ldN (M:PM) (n:Nat):PV→Option PV
 | .p m off=>match PM.blk M m with|some b=>if off+n≤b.v.length then some (.ag ((b.v.drop off).take n)) else none|none=>none
 | .fp l=>if n≤l.length∧n≠0 then some (.ag (l.take n)) else none
 | _=>none
def blkN (off n:Nat):Option PB→Option PV
 | some b=>if off+n≤b.v.length then some (.ag ((b.v.drop off).take n)) else none
 | none=>none
@[go_sem] theorem zqh (off n:Nat) (b:PB):blkN off n (some b)=if off+n≤b.v.length then some (.ag ((b.v.drop off).take n)) else none:=_root_.id rfl
@[go_sem] theorem zyP (n m off:Nat):ldN M n (.p m off)=blkN off n (PM.blk M m):=by
 show (match PM.blk M m with|some b=>if off+n≤b.v.length then some (PV.ag ((b.v.drop off).take n)) else none|none=>none)=_
 cases PM.blk M m<;>rfl
@[go_sem] theorem zxa (n:Nat) (xs:List PV):ldN M n (.fp xs)=if n≤xs.length∧n≠0 then some (.ag (xs.take n)) else none:=_root_.id rfl
@[go_sem] theorem zti (n:Nat) (x:X):WL E F (⟨d,.load true n x,af,none⟩::l) ks fr M=WV1 E F (ldN M n (x.pv E.glob fr)) d l ks fr M:=by
 rw[za0,←za1]
 have:XO.pst E.glob (pcl E) fr M (.load true n x)=(ldN M n (x.pv E.glob fr)).map fun v=>(v,M):=by
  simp only[XO.pst,XO.pev]
  generalize x.pv E.glob fr=a
  cases a with
  | p m off =>
   simp only[ldN,PM.rd]
   cases PM.blk M m with
   | none=>rfl
   | some b =>
    simp only
    by_cases h:off+n≤b.v.length
    ·simp[h,pickP]
    ·simp[h]
  | fp xs =>
   simp only[ldN]
   split<;>rfl
  | _=>rfl
 rw[this]
def st1 (M:PM) (a:PV) (cs:List PV):Option (PV×PM) :=
 match a,cs with
 | .p m off,[c]=>match PM.blk M m with|some b=>if b.rw=true∧off<b.v.length∧c.scal=true then some (undefP,M.set m (some ⟨b.v.set off c,true,b.ver+1⟩)) else none|none=>none
 | _,_=>none
def blkS (M:PM) (m off:Nat) (c:PV):Option PB→Option (PV×PM)
 | some b=>if b.rw=true∧off<b.v.length∧c.scal=true then some (undefP,M.set m (some ⟨b.v.set off c,true,b.ver+1⟩)) else none
 | none=>none
@[go_sem] theorem zqi (m off:Nat) (c:PV) (b:PB):blkS M m off c (some b)=if b.rw=true∧off<b.v.length∧c.scal=true then some (undefP,M.set m (some ⟨b.v.set off c,true,b.ver+1⟩)) else none:=_root_.id rfl
@[go_sem] theorem zzc (m off:Nat) (c:PV):st1 M (.p m off) [c]=blkS M m off c (PM.blk M m):=by
 show (match PM.blk M m with|some b=>if b.rw=true∧off<b.v.length∧c.scal=true then some (undefP,M.set m (some (PB.mk (b.v.set off c) true (b.ver+1)))) else none|none=>none)=_
 cases PM.blk M m<;>rfl
theorem ziU (a x:X):XO.pst E.glob (pcl E) fr M (.store 1 a x)=st1 M (a.pv E.glob fr) (x.pv E.glob fr).cells:=by
 simp only[XO.pst,XO.pev]
 generalize a.pv E.glob fr=p
 generalize (x.pv E.glob fr).cells=cs
 cases p with
 | p m off =>
  simp only
  match cs with
  | [c] =>
   simp only[st1]
   cases PM.blk M m with
   | none=>rfl
   | some b =>
    simp only[List.length_cons,List.length_nil,Nat.zero_add,List.all_cons,List.all_nil,Bool.and_true,true_and]
    by_cases h:b.rw=true∧off<b.v.length∧c.scal=true
    ·rw[if_pos h,if_pos ⟨h.1,by omega,h.2.2⟩,zli _ _ _ h.2.1]
    ·rw[if_neg h,if_neg (fun q=>h ⟨q.1,by omega,q.2.2⟩)]
  | [] =>
   simp only[st1]
   cases PM.blk M m with
   | none=>rfl
   | some b=>simp
  | _::_::_ =>
   simp only[st1]
   cases PM.blk M m with
   | none=>rfl
   | some b=>simp
 | _=>match cs with
  | []=>rfl
  | [c]=>rfl
  | _::_::_=>rfl
@[go_sem] theorem zsu (a x:X):WL E F (⟨d,.store 1 a x,af,none⟩::l) ks fr M=WV E F (st1 M (a.pv E.glob fr) (x.pv E.glob fr).cells) d l ks fr:=by rw[za0,ziU]
def stN (M:PM) (n:Nat) (a:PV) (cs:List PV):Option (PV×PM) :=
 match a with
 | .p m off=>match PM.blk M m with|some b=>if b.rw=true∧cs.length=n∧off+n≤b.v.length∧cs.all PV.scal=true then some (undefP,M.set m (some ⟨psplice b.v off cs,true,b.ver+1⟩)) else none|none=>none
 | _=>none
def blkSN (M:PM) (m off n:Nat) (cs:List PV):Option PB→Option (PV×PM)
 | some b=>if b.rw=true∧cs.length=n∧off+n≤b.v.length∧cs.all PV.scal=true then some (undefP,M.set m (some ⟨psplice b.v off cs,true,b.ver+1⟩)) else none
 | none=>none
@[go_sem] theorem zp2 (m off n:Nat) (cs:List PV) (b:PB):blkSN M m off n cs (some b)=if b.rw=true∧cs.length=n∧off+n≤b.v.length∧cs.all PV.scal=true then some (undefP,M.set m (some ⟨psplice b.v off cs,true,b.ver+1⟩)) else none:=_root_.id rfl
@[go_sem] theorem zzd (n m off:Nat) (cs:List PV):stN M n (.p m off) cs=blkSN M m off n cs (PM.blk M m):=by
 show (match PM.blk M m with|some b=>if b.rw=true∧cs.length=n∧off+n≤b.v.length∧cs.all PV.scal=true then some (undefP,M.set m (some (PB.mk (psplice b.v off cs) true (b.ver+1)))) else none|none=>none)=_
 cases PM.blk M m<;>rfl
theorem zkY (n:Nat) (a x:X):XO.pst E.glob (pcl E) fr M (.store n a x)=stN M n (a.pv E.glob fr) (x.pv E.glob fr).cells:=by
 simp only[XO.pst,XO.pev]
 cases a.pv E.glob fr<;>rfl
theorem zlu (n:Nat) (a x:X):WL E F (⟨d,.store n a x,af,none⟩::l) ks fr M=WV E F (stN M n (a.pv E.glob fr) (x.pv E.glob fr).cells) d l ks fr:=by rw[za0,zkY]
@[go_sem] theorem zsv (n:Nat) (a x:X):WL E F (⟨d,.store (n+2) a x,af,none⟩::l) ks fr M=WV E F (stN M (n+2) (a.pv E.glob fr) (x.pv E.glob fr).cells) d l ks fr:=zlu ..
@[go_sem] theorem ztj (x:X):WL E F (⟨d,.nilck x,af,none⟩::l) ks fr M=WV1 E F (match x.pv E.glob fr with | .p m off=>some (.p m off) | .fp l=>some (.fp l) | .fn f l=>some (.fn f l)|_=>none) d l ks fr M:=by
 rw[za0,←za1]
 have:XO.pst E.glob (pcl E) fr M (.nilck x)=(match x.pv E.glob fr with | .p m off=>some (PV.p m off) | .fp l=>some (.fp l) | .fn f l=>some (.fn f l)|_=>none).map fun v=>(v,M):=by
  simp only[XO.pst,XO.pev]
  cases x.pv E.glob fr<;>rfl
 rw[this]
def newP (M:PM) (cs:List PV):Option (PV×PM):=if cs.all PV.scal then some (.p M.length 0,M++[some ⟨cs,true,0⟩]) else none
@[go_sem] theorem zsQ (cs:List PV):newP M cs=if cs.all PV.scal then some (.p M.length 0,M++[some ⟨cs,true,0⟩]) else none:=_root_.id rfl
@[go_sem] theorem zyu (z:List AV):WL E F (⟨d,.new z,af,none⟩::l) ks fr M=WV E F (newP M (z.map cst0)) d l ks fr:=by rw[za0];rfl
@[go_sem] theorem zyf (x:X):WL E F (⟨d,.box x,af,none⟩::l) ks fr M=WV E F (newP M (x.pv E.glob fr).cells) d l ks fr:=by rw[za0];rfl
def bslP (M:PM) (n sz:Nat):Option (List PV)→Option (PV×PM)
 | some cs=>if n=0 then some (.nl,M) else some (.sl M.length 0 n n sz,M++[some ⟨cs,true,0⟩])
 | none=>none
@[go_sem] theorem zqk (n sz:Nat) (cs:List PV):bslP M n sz (some cs)=if n=0 then some (.nl,M) else some (.sl M.length 0 n n sz,M++[some ⟨cs,true,0⟩]):=_root_.id rfl
@[go_sem] theorem zyg (n sz:Nat) (z:List AV) (ps:List (Nat×Nat×X)):WL E F (⟨d,.bsl n sz z ps,af,none⟩::l) ks fr M=WV E F (if n*sz≤16777216∧z.length=sz∧(z.map cst0).all PV.scal=true then bslP M n sz (fillP E.glob fr (List.replicate n (z.map cst0)).flatten ps) else none) d l ks fr:=by
 rw[za0]
 have:XO.pst E.glob (pcl E) fr M (.bsl n sz z ps)=(if n*sz≤16777216∧z.length=sz∧(z.map cst0).all PV.scal=true then bslP M n sz (fillP E.glob fr (List.replicate n (z.map cst0)).flatten ps) else none):=by
  simp only[XO.pst,XO.pev]
  split
  ·cases fillP E.glob fr (List.replicate n (z.map cst0)).flatten ps<;>rfl
  ·rfl
 rw[this]
def mslP (M:PM) (z:List PV) (by_:Nat):Option Nat→Option Nat→Option (PV×PM)
 | some a,some b =>
  if a≤b∧b*by_≤281474976710656∧b≤9223372036854775807∧z.all PV.scal=true then
   (if b=0 then some (.nl,M) else some (.sl M.length 0 a b z.length,M++[some ⟨(List.replicate b z).flatten,true,0⟩]))
  else none
 | _,_=>none
@[go_sem] theorem zyt (z:List AV) (by_:Nat) (n c:X):WL E F (⟨d,.msl z by_ n c,af,none⟩::l) ks fr M=WV E F (mslP M (z.map cst0) by_ (asNP (n.pv E.glob fr)) (asNP (c.pv E.glob fr))) d l ks fr:=by
 rw[za0]
 have:XO.pst E.glob (pcl E) fr M (.msl z by_ n c)=mslP M (z.map cst0) by_ (asNP (n.pv E.glob fr)) (asNP (c.pv E.glob fr)):=by
  simp only[XO.pst,XO.pev]
  cases asNP (n.pv E.glob fr)<;>cases asNP (c.pv E.glob fr)<;>simp only[mslP,List.length_map]
 rw[this]
theorem zxX (z:PV):∀n,(List.replicate n [z]).flatten=List.replicate n z
 | 0=>rfl
 | n+1=>by rw[List.replicate_succ,List.flatten_cons,zxX z n];rfl
theorem zl8 (z:PV) (by_ n:Nat) (h1:n*by_≤281474976710656) (h2:n≤9223372036854775807) (h3:z.scal=true) (h0:n≠0):mslP M [z] by_ (some n) (some n)=some (.sl M.length 0 n n 1,M++[some ⟨List.replicate n z,true,0⟩]):=by
 simp only[mslP]
 rw[if_pos ⟨Nat.le_refl _,h1,h2,by simp[h3]⟩,if_neg h0,zxX];rfl
theorem zj9 (z:PV) (by_:Nat) (h3:z.scal=true):mslP M [z] by_ (some 0) (some 0)=some (.nl,M):=by
 simp only[mslP]
 simp[h3]
@[go_sem] theorem zwL (z:Nat) (x:X) (lo hi mx:Option X):WL E F (⟨d,.slsl z x lo hi mx,af,none⟩::l) ks fr M=WV1 E F (slP z (x.pv E.glob fr) (lo.map (X.pv E.glob fr)) (hi.map (X.pv E.glob fr)) (mx.map (X.pv E.glob fr))) d l ks fr M:=by rw[za0];exact za1 ..
def slS:PV→Option PV→Option PV→Option PV
 | .s l,lo,hi=>slStrP l lo hi
 | _,_,_=>none
@[go_sem] theorem zy8 (bs:List UInt8) (lo hi:Option PV):slS (.s bs) lo hi=slStrP bs lo hi:=_root_.id rfl
@[go_sem] theorem ztl (x:X) (lo hi:Option X):WL E F (⟨d,.slstr x lo hi,af,none⟩::l) ks fr M=WV1 E F (slS (x.pv E.glob fr) (lo.map (X.pv E.glob fr)) (hi.map (X.pv E.glob fr))) d l ks fr M:=by
 rw[za0,←za1]
 have:XO.pst E.glob (pcl E) fr M (.slstr x lo hi)=(slS (x.pv E.glob fr) (lo.map (X.pv E.glob fr)) (hi.map (X.pv E.glob fr))).map fun v=>(v,M):=by
  simp only[XO.pst,XO.pev]
  cases x.pv E.glob fr<;>rfl
 rw[this]
@[go_sem] theorem zyd (z by_:Nat) (s x:X):WL E F (⟨d,.app z by_ s x,af,none⟩::l) ks fr M=WV E F (appP M z by_ (s.pv E.glob fr) (x.pv E.glob fr)) d l ks fr:=by rw[za0];rfl
@[go_sem] theorem zyh (z:Nat) (a b:X):WL E F (⟨d,.cpy z a b,af,none⟩::l) ks fr M=WV E F (cpyP M z (a.pv E.glob fr) (b.pv E.glob fr)) d l ks fr:=by rw[za0];rfl
@[go_sem] theorem zwG (f:Nat) (xs:List X):WL E F (⟨d,.call f xs,af,none⟩::l) ks fr M=WV E F (pcl E f (xs.map (X.pv E.glob fr)) M) d l ks fr:=by rw[za0];rfl
noncomputable def callP (E:PEnv) (M:PM) (xs:List PV):PV→Option (PV×PM)
 | .fn f c=>pcl E f (xs++c) M
 | _=>none
@[go_sem] theorem zsz (xs:List PV) (f:Nat) (c:List PV):callP E M xs (.fn f c)=pcl E f (xs++c) M:=_root_.id rfl
@[go_sem] theorem ztf (x:X) (xs:List X):WL E F (⟨d,.callv x xs,af,none⟩::l) ks fr M=WV E F (callP E M (xs.map (X.pv E.glob fr)) (x.pv E.glob fr)) d l ks fr:=by
 rw[za0]
 have:XO.pst E.glob (pcl E) fr M (.callv x xs)=callP E M (xs.map (X.pv E.glob fr)) (x.pv E.glob fr):=by
  simp only[XO.pst]
  cases x.pv E.glob fr<;>rfl
 rw[this]
end
@[go_sem] theorem zsR (fr:PFr) (M:PM):pRes fr M []=some []:=_root_.id rfl
def resC (o:Option PV) (r:Option (List PV)):Option (List PV):=match o,r with|some v,some vs=>some (v::vs)|_,_=>none
@[go_sem] theorem zr9 (v:PV) (vs:List PV):resC (some v) (some vs)=some (v::vs):=_root_.id rfl
@[go_sem] theorem zsS (fr:PFr) (M:PM) (t:Nat) (l:List XR):pRes fr M (.tmp t::l)=resC (some (fr t)) (pRes fr M l):=_root_.id rfl
@[go_sem] theorem zp5 (fr:PFr) (M:PM) (t n:Nat) (l:List XR):pRes fr M (.cell t true n::l)=resC (ldN M n (fr t)) (pRes fr M l):=by
 have:pResOne fr M (.cell t true n)=ldN M n (fr t):=by
  simp only[pResOne]
  generalize fr t=a
  cases a with
  | p m off =>
   simp only[ldN,PM.rd]
   cases PM.blk M m with
   | none=>rfl
   | some b =>
    simp only
    by_cases h:off+n≤b.v.length
    ·simp[h,pickP]
    ·simp[h]
  | fp xs =>
   simp only[ldN]
   split<;>rfl
  | _=>rfl
 simp only[pRes,this];rfl
@[go_sem] theorem zsX (v:PV):packP [v]=v:=_root_.id rfl
@[go_sem] theorem zsY (v w:PV) (l:List PV):packP (v::w::l)=.tu (v::w::l):=_root_.id rfl
end Go.Eng
namespace Go.Eng
variable {E:PEnv} {F:PFin}
theorem zgd (a b:Nat):((a:Int).fdiv (b:Int))=((a/b:Nat):Int):=by rw[Int.fdiv_eq_ediv_of_nonneg _ (by omega)];rfl
section
variable (k k':IntKind) (a b:Int)
@[go_sem] theorem zts:binP .add (.i k a) (.i k b)=some (.i k (k.wrap (a+b))):=by simp[binP,numBin,intBin,cst0]
@[go_sem] theorem ztC:binP .sub (.i k a) (.i k b)=some (.i k (k.wrap (a-b))):=by simp[binP,numBin,intBin,cst0]
@[go_sem] theorem zty:binP .mul (.i k a) (.i k b)=some (.i k (k.wrap (a*b))):=by simp[binP,numBin,intBin,cst0]
@[go_sem] theorem ztA (h:b≠0):binP .quo (.i k a) (.i k b)=some (.i k (k.wrap (a.tdiv b))):=by simp[binP,numBin,intBin,cst0,h]
@[go_sem] theorem ztB (h:b≠0):binP .rem (.i k a) (.i k b)=some (.i k (a.tmod b)):=by simp[binP,numBin,intBin,cst0,h]
@[go_sem] theorem ztt:binP .eql (.i k a) (.i k b)=some (.b (decide (a=b))):=by
 have:(a==b)=decide (a=b):=by by_cases h:a=b<;>simp[h]
 simp[binP,numBin,intBin,cst0,this]
@[go_sem] theorem ztz:binP .neq (.i k a) (.i k b)=some (.b (decide (a≠b))):=by
 have:(a != b)=decide (a≠b):=by by_cases h:a=b<;>simp[h]
 simp[binP,numBin,intBin,cst0,this]
@[go_sem] theorem ztx:binP .lss (.i k a) (.i k b)=some (.b (decide (a<b))):=by simp[binP,numBin,intBin,cst0]
@[go_sem] theorem ztw:binP .leq (.i k a) (.i k b)=some (.b (decide (a≤b))):=by simp[binP,numBin,intBin,cst0]
@[go_sem] theorem ztv:binP .gtr (.i k a) (.i k b)=some (.b (decide (b<a))):=by simp[binP,numBin,intBin,cst0]
@[go_sem] theorem ztu:binP .geq (.i k a) (.i k b)=some (.b (decide (b≤a))):=by simp[binP,numBin,intBin,cst0]
theorem zgy (h:0≤b):binP .shl (.i k a) (.i k' b)=some (.i k (k.wrap (a*2^(min b.toNat k.bits)))):=by
 have:¬b<0:=by omega
 simp[binP,numBin,intShift,cst0,this]
theorem zgA (h:0≤b):binP .shr (.i k a) (.i k' b)=some (.i k (a.fdiv (2^(min b.toNat k.bits)))):=by
 have:¬b<0:=by omega
 simp[binP,numBin,intShift,cst0,this]
@[go_sem] theorem zx7:unP .neg (.i k a)=some (.i k (k.wrap (0-a))):=_root_.id rfl
@[go_sem] theorem zx8 (v:Bool):unP .not (.b v)=some (.b (!v)):=_root_.id rfl
@[go_sem] theorem zyB (v w:Bool):eqTP 0 (.b v) (.b w)=some (v==w):=_root_.id rfl
@[go_sem] theorem zaJ (x y:List UInt8) (h:x.length+y.length≤9223372036854775807):binP .add (.s x) (.s y)=some (.s (x++y)):=by simp[binP,strBin,cst0,h]
@[go_sem] theorem zsx (x y:List UInt8):binP .eql (.s x) (.s y)=some (.b (decide (x=y))):=by
 have:(x==y)=decide (x=y):=by by_cases h:x=y<;>simp[h]
 simp[binP,strBin,cst0,this]
@[go_sem] theorem zsy (x y:List UInt8):binP .neq (.s x) (.s y)=some (.b (decide (x≠y))):=by
 have:(x==y)=decide (x=y):=by by_cases h:x=y<;>simp[h]
 simp[binP,strBin,cst0,this]
@[go_sem] theorem zxd (mx:Bool) (x:PV):mmP mx x []=some x:=_root_.id rfl
@[go_sem] theorem zxb (l:List PV):mmP true (.i k a) (.i k b::l)=mmP true (.i k (if b>a then b else a)) l:=by simp[mmP]
@[go_sem] theorem zxc (l:List PV):mmP false (.i k a) (.i k b::l)=mmP false (.i k (if b<a then b else a)) l:=by simp[mmP]
end
theorem wqa {x:Int} (h1 : -9223372036854775808≤x) (h2:x≤9223372036854775807):IntKind.wrap .i64 x=x:=by
 simp only[IntKind.wrap,IntKind.signed,IntKind.bits,Bool.true_and,decide_eq_true_eq,ge_iff_le]
 omega
theorem wqe {x:Int} (h1 : -2147483648≤x) (h2:x≤2147483647):IntKind.wrap .i32 x=x:=by
 simp only[IntKind.wrap,IntKind.signed,IntKind.bits,Bool.true_and,decide_eq_true_eq,ge_iff_le]
 omega
theorem wqb {x:Int} (h1:0≤x) (h2:x≤18446744073709551615):IntKind.wrap .u64 x=x:=by
 simp only[IntKind.wrap,IntKind.signed,IntKind.bits,Bool.false_and,Bool.false_eq_true,if_false]
 omega
theorem wqc {x:Int} (h1:0≤x) (h2:x≤4294967295):IntKind.wrap .u32 x=x:=by
 simp only[IntKind.wrap,IntKind.signed,IntKind.bits,Bool.false_and,Bool.false_eq_true,if_false]
 omega
theorem wqd {x:Int} (h1:0≤x) (h2:x≤255):IntKind.wrap .u8 x=x:=by
 simp only[IntKind.wrap,IntKind.signed,IntKind.bits,Bool.false_and,Bool.false_eq_true,if_false]
 omega
theorem wqq:(∀{x:Int},-9223372036854775808≤x→x≤9223372036854775807→IntKind.wrap .i64 x=x)∧(∀{x:Int},0≤x→x≤18446744073709551615→IntKind.wrap .u64 x=x)∧(∀{x:Int},0≤x→x≤4294967295→IntKind.wrap .u32 x=x)∧(∀{x:Int},0≤x→x≤255→IntKind.wrap .u8 x=x)∧(∀{x:Int},-2147483648≤x→x≤2147483647→IntKind.wrap .i32 x=x):=⟨wqa,wqb,wqc,wqd,wqe⟩
theorem lqq:(∀{α:Type} (a b c:List α),a++b++c=a++(b++c))∧(∀{α:Type} (a:α) (b c:List α),a::b++c=a::(b++c))∧(∀{α:Type} (a:List α),[]++a=a):=⟨List.append_assoc,fun _ _ _=>List.cons_append,List.nil_append⟩
theorem zeC (x:Int):IntKind.wrap .u64 x=x%18446744073709551616:=by simp[IntKind.wrap,IntKind.signed,IntKind.bits]
theorem zeB (x:Int):IntKind.wrap .u32 x=x%4294967296:=by simp[IntKind.wrap,IntKind.signed,IntKind.bits]
theorem zbs (n:Nat):IntKind.wrap .u32 (n:Int)=((n%4294967296:Nat):Int):=by rw[zeB];rfl
@[go_sem] theorem zgB (k':IntKind) (x:Nat) (s:Int) (h:0≤s) (h2:s≤64):binP .shr (.i .u64 (x:Int)) (.i k' s)=some (.i .u64 ((x/2^s.toNat:Nat):Int)):=by
 rw[zgA _ _ _ _ h,show min s.toNat (IntKind.bits .u64)=s.toNat by simp only[IntKind.bits];omega,show ((2:Int)^s.toNat)=((2^s.toNat:Nat):Int) by simp,zgd]
@[go_sem] theorem zgz (k':IntKind) (x:Nat) (s:Int) (h:0≤s) (h2:s≤64):binP .shl (.i .u64 (x:Int)) (.i k' s)=some (.i .u64 (IntKind.wrap .u64 ((x*2^s.toNat:Nat):Int))):=by
 rw[zgy _ _ _ _ h,show min s.toNat (IntKind.bits .u64)=s.toNat by simp only[IntKind.bits];omega,show ((x*2^s.toNat:Nat):Int)=(x:Int)*2^s.toNat by simp]
theorem zb9 (a b:Nat):((a:Int)+(b:Int))=((a+b:Nat):Int):=by omega
theorem zbv (a:Nat):((a:Int)+1)=((a+1:Nat):Int):=by omega
theorem zca (a b:Nat):((a:Int)*(b:Int))=((a*b:Nat):Int):=by simp
theorem zaL {a:Nat} (h:1≤a):((a:Int)-1)=((a-1:Nat):Int):=by omega
theorem zbm (a b:Nat):((a:Int).tdiv (b:Int))=((a/b:Nat):Int):=rfl
theorem zcb (a b:Nat):((a:Int).tmod (b:Int))=((a%b:Nat):Int):=rfl
theorem zbD (a b:Nat):((a:Int)<(b:Int))=(a<b):=by simp
theorem zdf (a b:Nat):((a:Int)≤(b:Int))=(a≤b):=by simp
@[go_sem] theorem zt3:fzD=12:=_root_.id rfl
@[go_sem] theorem zt4 (g:PV→Option (PV×List Nat)):fzL g []=some ([],[]):=_root_.id rfl
def fzC:Option (PV×List Nat)→Option (List PV×List Nat)→Option (List PV×List Nat)
 | some r,some q=>some (r.1::q.1,r.2++q.2)
 | _,_=>none
@[go_sem] theorem zsL (v:PV) (a:List Nat) (l:List PV) (b:List Nat):fzC (some (v,a)) (some (l,b))=some (v::l,a++b):=_root_.id rfl
@[go_sem] theorem zlZ (g:PV→Option (PV×List Nat)) (v:PV) (l:List PV):fzL g (v::l)=fzC (g v) (fzL g l):=by
 simp only[fzL]
 cases g v<;>cases fzL g l<;>rfl
section
variable (M:PM) (d:Nat)
@[go_sem] theorem zzr (v:Bool):fz M (d+1) (.b v)=some (.b v,[]):=_root_.id rfl
@[go_sem] theorem zzs (k:IntKind) (n:Int):fz M (d+1) (.i k n)=some (.i k n,[]):=_root_.id rfl
@[go_sem] theorem zzu (l:List UInt8):fz M (d+1) (.s l)=some (.s l,[]):=_root_.id rfl
@[go_sem] theorem zyG (l:List PV):fz M (d+1) (.fp l)=some (.fp l,[]):=_root_.id rfl
@[go_sem] theorem zw1 (l:List PV):fz M (d+1) (.lst l)=some (.lst l,[]):=_root_.id rfl
@[go_sem] theorem zyK:fz M (d+1) .nl=some (.lst [],[]):=_root_.id rfl
def fzM (f:List PV→PV):Option (List PV×List Nat)→Option (PV×List Nat)
 | some r=>some (f r.1,r.2)
 | none=>none
@[go_sem] theorem zsM (f:List PV→PV) (l:List PV) (ns:List Nat):fzM f (some (l,ns))=some (f l,ns):=_root_.id rfl
theorem zgL (f:List PV→PV) (o:Option (List PV×List Nat)):(o.map fun(r:List PV×List Nat)=>(f r.1,r.2))=fzM f o:=by cases o<;>rfl
@[go_sem] theorem zyF (f:Nat) (l:List PV):fz M (d+1) (.fn f l)=fzM (PV.fn f) (fzL (fz M d) l):=zgL (PV.fn f) _
@[go_sem] theorem zyE (l:List PV):fz M (d+1) (.ag l)=fzM PV.ag (fzL (fz M d) l):=zgL PV.ag _
@[go_sem] theorem zyN (l:List PV):fz M (d+1) (.tu l)=fzM PV.tu (fzL (fz M d) l):=zgL PV.tu _
def fzP (n off:Nat) (g:PV→Option (PV×List Nat)):Option PB→Option (PV×List Nat)
 | some b=>(fzL g b.v).map fun(r:List PV×List Nat)=>(PV.fp (r.1.drop off),n::r.2)
 | none=>none
@[go_sem] theorem zsN (n off:Nat) (g:PV→Option (PV×List Nat)) (b:PB):fzP n off g (some b)=(fzL g b.v).map fun(r:List PV×List Nat)=>(PV.fp (r.1.drop off),n::r.2):=_root_.id rfl
@[go_sem] theorem zzt (n off:Nat):fz M (d+1) (.p n off)=fzP n off (fz M d) (PM.blk M n):=by
 show (match PM.blk M n with|some b=>(fzL (fz M d) b.v).map fun(r:List PV×List Nat)=>(PV.fp (r.1.drop off),n::r.2)|none=>none)=_
 cases PM.blk M n<;>rfl
def fzS (n off len z:Nat) (g:PV→Option (PV×List Nat)):Option PB→Option (PV×List Nat)
 | some b=>if off+len*z≤b.v.length then (fzL g ((b.v.drop off).take (len*z))).map fun r=>(.lst (group z len r.1),n::r.2) else none
 | none=>none
@[go_sem] theorem zsO (n off len z:Nat) (g:PV→Option (PV×List Nat)) (b:PB):fzS n off len z g (some b)=if off+len*z≤b.v.length then (fzL g ((b.v.drop off).take (len*z))).map fun r=>(.lst (group z len r.1),n::r.2) else none:=_root_.id rfl
@[go_sem] theorem zyM (n off len c z:Nat):fz M (d+1) (.sl n off len c z)=if len=0 then some (.lst [],[]) else if z=0 then none else fzS n off len z (fz M d) (PM.blk M n):=by
 simp only[fz,PM.rd]
 split
 ·rfl
 ·split
  ·rfl
  ·cases PM.blk M n with
   | none=>rfl
   | some b =>
    simp only[fzS]
    split
    ·rename_i l hl
     split at hl
     ·cases hl;rename_i h;rw[if_pos h]
     ·cases hl
    ·rename_i hl
     split at hl
     ·cases hl
     ·rename_i h;rw[if_neg h]
theorem zjF (g:PV→Option (PV×List Nat)):∀(l:List PV),(∀x∈l,g x=some (x,[]))→fzL g l=some (l,[])
 | [],_=>rfl
 | x::l,h=>by
  rw[zlZ,h x (List.mem_cons_self ..),zjF g l fun y hy=>h y (List.mem_cons_of_mem _ hy)];rfl
theorem zl0 {α:Type} (f:α→PV) (hf:∀a,fz M (d+1) (f a)=some (f a,[])) (l:List α):fzL (fz M (d+1)) (l.map f)=some (l.map f,[]) :=
 zjF _ _ fun x hx=>by
  obtain⟨a,_,rfl⟩:=List.mem_map.1 hx
  exact hf a
theorem zdc:∀(k:Nat) (l:List PV),l.length=k→group 1 k l=l
 | 0,l,h=>by rw[List.length_eq_zero_iff.1 h];rfl
 | k+1,[],h=>by simp at h
 | k+1,x::l,h=>by
  simp only[group,if_true,List.headD_cons,List.drop_succ_cons,List.drop_zero]
  rw[zdc k l (by simpa using h)]
end
@[go_sem] theorem zwl (M:PM):roM M []=M:=_root_.id rfl
@[go_sem] theorem zs2 (M:PM) (n:Nat) (ns:List Nat):roM M (n::ns)=roM (roB M n) ns:=_root_.id rfl
def roC (M:PM) (n:Nat):Option PB→PM
 | some b=>M.set n (some ⟨b.v,false,b.ver⟩)
 | none=>M
@[go_sem] theorem zs1 (M:PM) (n:Nat) (b:PB):roC M n (some b)=M.set n (some ⟨b.v,false,b.ver⟩):=_root_.id rfl
@[go_sem] theorem zwk (M:PM) (n:Nat):roB M n=roC M n (PM.blk M n):=by
 unfold roB
 cases PM.blk M n<;>rfl
noncomputable def pclA (E:PEnv) (f:Nat) (M:PM):Option (List PV×List Nat)→Option (PV×PM)
 | some r=>(pf E f r.1).map fun v=>(v,roM M r.2)
 | none=>none
def pclV (M:PM) (ns:List Nat):Option PV→Option (PV×PM)
 | some v=>some (v,roM M ns)
 | none=>none
@[go_sem] theorem zrO (M:PM) (ns:List Nat) (v:PV):pclV M ns (some v)=some (v,roM M ns):=_root_.id rfl
@[go_sem] theorem zkT (f:Nat) (M:PM) (l:List PV) (ns:List Nat):pclA E f M (some (l,ns))=pclV M ns (pf E f l):=by
 show (pf E f l).map _=_
 cases pf E f l<;>rfl
theorem zab {f:Nat} (args:List PV) (M:PM) (h:E.pure f=true):pcl E f args M=pclA E f M (fzL (fz M fzD) args):=by
 cases hz:fzL (fz M fzD) args with
 | none =>
  show pcl E f args M=none
  cases hc:pcl E f args M with
  | none=>rfl
  | some r =>
   obtain⟨k,e⟩:=ze2 hc
   cases k with
   | zero=>simp[pvF] at e
   | succ k =>
    simp only[pvF,h,if_true,hz] at e
    split at e<;>cases e
 | some r =>
  obtain⟨a',ns⟩:=r
  rw[zkT]
  cases hp:pf E f a' with
  | some v=>exact zie h hz hp
  | none =>
   show pcl E f args M=none
   cases hc:pcl E f args M with
   | none=>rfl
   | some r =>
    obtain⟨k,e⟩:=ze2 hc
    cases k with
    | zero=>simp[pvF] at e
    | succ k =>
     simp only[pvF,h,if_true,hz] at e
     split at e
     ·rename_i xf hx
      split at e
      ·rename_i w ho
       rw[zrS hx ho] at hp;cases hp
      ·rename_i ho
       split at e
       ·rename_i w M2 hb
        simp only[Option.map_eq_some_iff] at e
        obtain⟨q,q1,_⟩:=e
        have:=zrR hx (zdh (zpD k) (Nat.le_refl k) hb) (v:=q.1) (by rw[q1];rfl) ho
        rw[this] at hp;cases hp
       ·cases e
     ·rename_i o ho
      split at e
      ·rename_i w M2 hb
       simp only[Option.map_eq_some_iff] at e
       obtain⟨q,q1,_⟩:=e
       have:=ze4 ho hb (v:=q.1) (by rw[q1];rfl)
       rw[this] at hp;cases hp
      ·cases e
     ·cases e
end Go.Eng
namespace Go.Eng
attribute [go_sem] List.length_cons List.length_nil List.cons_append List.nil_append List.append_nil List.map_cons List.map_nil List.set_cons_zero List.set_cons_succ List.getElem?_cons_zero List.getElem?_cons_succ List.drop_zero List.drop_succ_cons List.take_succ_cons List.take_zero List.replicate_succ List.replicate_zero List.flatten_cons List.flatten_nil
attribute [go_sem] Option.map_some Option.map_none Option.bind_some and_true true_and and_self and_false false_and Bool.and_self Bool.and_true Bool.true_and Bool.not_true Bool.not_false decide_true decide_false not_true_eq_false not_false_eq_true ne_eq if_true if_false Bool.false_eq_true Nat.zero_add Nat.add_zero Nat.zero_mul Nat.one_mul Nat.mul_one Nat.lt_add_one Nat.le_refl Option.isSome_none Option.isSome_some beq_self_eq_true Bool.true_eq_false false_implies
@[go_sem] theorem zzv (n:Nat):((0:Int)≤(n:Int))=True:=by simp
@[go_sem] theorem zzw (n:Nat):((n:Int)<0)=False:=by simp
@[go_sem] theorem zwu (l:List PV):psplice l 0 []=l:=by simp[psplice]
@[go_sem] theorem zs6 (a c:PV) (l cs:List PV):psplice (a::l) 0 (c::cs)=c::psplice l 0 cs:=by simp[psplice]
@[go_sem] theorem zs7 (a:PV) (l cs:List PV) (n:Nat):psplice (a::l) (n+1) cs=a::psplice l n cs:=by
 simp only[psplice,List.take_succ_cons,List.cons_append]
 rw[show n+1+cs.length=(n+cs.length)+1 by omega,List.drop_succ_cons]
theorem zcP (M:PM) (k:IntKind) (c:Int) (by_ n:Nat) (h1:n*by_≤281474976710656) (h2:n≤9223372036854775807) (h0:n≠0):mslP M [.i k c] by_ (some n) (some n)=some (.sl M.length 0 n n 1,M++[some ⟨List.replicate n (.i k c),true,0⟩]):=zl8 M _ by_ n h1 h2 rfl h0
theorem zem (M:PM) (k:IntKind) (c:Int) (by_:Nat):mslP M [.i k c] by_ (some 0) (some 0)=some (.nl,M):=zj9 M _ by_ rfl
@[go_sem] theorem zwR:(true==false)=false:=by decide
@[go_sem] theorem zwQ:(false==true)=false:=by decide
theorem zan {E:PEnv} {F:PFin} {a b:XC} (hab:a=b) {ks:List KI} {α:Type} (I:α→PFr→PM→Prop) (m:α→Nat)
  (step:∀x fr M,I x fr M→(∀y fr' M',m y<m x→I y fr' M'→WK E F (.loop a) ks fr' M')→WK E F b (.loop a::ks) fr M) (x:α) {fr:PFr} {M:PM} (h:I x fr M):WK E F (.loop a) ks fr M:=by
 have key:∀n x fr M,m x<n→I x fr M→WK E F (.loop a) ks fr M:=by
  intro n
  induction n with
  | zero=>intro x fr M hm;omega
  | succ n ih =>
   intro x fr M hm h
   have:=step x fr M h fun y fr' M' hy h'=>ih y fr' M' (by omega) h'
   rw[←hab] at this
   exact zcA this
 exact key (m x+1) x fr M (by omega) h
end Go.Eng
namespace Go.Eng
def dtx:Nat→Nat→List UInt8
 | 0,_=>[]
 | i+1,v=>UInt8.ofNat (48+v/10^i%10)::dtx i v
@[simp] theorem zbO:∀(i v:Nat),(dtx i v).length=i
 | 0,_=>rfl
 | i+1,v=>by simp[dtx,zbO i v]
theorem zjt:∃f:Nat→Nat,∀v n,f v≤n↔v<10^n:=by
 have key:∀v:Nat,∃m,∀n,m≤n↔v<10^n:=by
  intro v
  induction v using Nat.strongRecOn with
  | _ v ih =>
   by_cases h:v=0
   ·subst h;exact⟨0,fun n=>⟨fun _=>Nat.pow_pos (by decide),fun _=>Nat.zero_le _⟩⟩
   ·obtain⟨m,hm⟩:=ih (v/10) (Nat.div_lt_self (by omega) (by decide))
    refine⟨m+1,fun n=>?_⟩
    cases n with
    | zero=>simp;omega
    | succ n =>
     rw[Nat.pow_succ,←Nat.div_lt_iff_lt_mul (by decide),←hm n];omega
 exact⟨fun v=>Classical.choose (key v),fun v=>Classical.choose_spec (key v)⟩
noncomputable def dlen:Nat→Nat:=Classical.choose zjt
theorem zav {v n:Nat}:dlen v≤n↔v<10^n:=Classical.choose_spec zjt v n
theorem zbN (v:Nat):v<10^dlen v:=zav.1 (Nat.le_refl _)
noncomputable def dec (v:Nat):List UInt8:=if v=0 then [48] else dtx (dlen v) v
noncomputable def decI (n:Int):List UInt8:=if n<0 then 45::dec n.natAbs else dec n.natAbs
def val:List Nat→Nat
 | []=>0
 | x::xs=>x+4294967296*val xs
def Fits64 (n:Int):Prop := -9223372036854775808≤n∧n≤9223372036854775807
instance (n:Int):Decidable (Fits64 n):=inferInstanceAs (Decidable (_∧_))
def wordsP:List PV→Option (List Nat)
 | []=>some []
 | .i .u32 n::l=>if 0≤n∧n<4294967296 then (wordsP l).map (n.toNat :: ·) else none
 | _=>none
def wordsA:List AV→Option (List Nat)
 | []=>some []
 | .i .u32 n::l=>if 0≤n∧n<4294967296 then (wordsA l).map (n.toNat :: ·) else none
 | _=>none
noncomputable def wtx (neg:Bool) (xs:List Nat):Option (List UInt8) :=
 if xs.length≤512∧xs.getLast?≠some 0∧(neg=true→xs≠[]) then some (decI (if neg then-(val xs:Int) else (val xs:Int))) else none
def isDig (c:UInt8):Bool:=decide (48≤c.toNat∧c.toNat≤57)
def tv:List UInt8→Nat
 | []=>0
 | c::l=>(c.toNat-48)*10^l.length+tv l
def idxB:List UInt8→UInt8→Int
 | [],_ => -1
 | b::l,c=>if b==c then 0 else if idxB l c == -1 then-1 else idxB l c+1
noncomputable def libA (f:Nat):List AV→Option AV
 | [.i .i64 n]=>if f=50∧Fits64 n then some (.s (decI n)) else none
 | [.s l,.i .i64 c]=>if f=51∧0≤c∧c≤1000∧l.length≤1000 then some (.s (List.replicate c.toNat l).flatten) else none
 | [.s l,.s cs]=>if f=130∧l.length≤9223372036854775807∧cs.length<4294967281∧(cs.all fun b=>decide (b.toNat<128))=true then some (.s (((l.reverse.dropWhile (cs.contains ·)).reverse).dropWhile (cs.contains ·))) else if f=222 then (match cs with|[c]=>some (.i .i64 (idxB l c))|_=>none) else none
 | [.s l]=>if f=131∧l≠[]∧l.length≤18∧l.all isDig=true then some (.tu [.i .i64 (tv l:Nat),.inil]) else none
 | _=>none
noncomputable def libP (f:Nat):List PV→Option PV
 | [.i .i64 n]=>if f=50∧Fits64 n then some (.s (decI n)) else none
 | [.s l,.i .i64 c]=>if f=51∧0≤c∧c≤1000∧l.length≤1000 then some (.s (List.replicate c.toNat l).flatten) else none
 | [.s l,.s cs]=>if f=130∧l.length≤9223372036854775807∧cs.length<4294967281∧(cs.all fun b=>decide (b.toNat<128))=true then some (.s (((l.reverse.dropWhile (cs.contains ·)).reverse).dropWhile (cs.contains ·))) else if f=222 then (match cs with|[c]=>some (.i .i64 (idxB l c))|_=>none) else none
 | [.s l]=>if f=131∧l≠[]∧l.length≤18∧l.all isDig=true then some (.tu [.i .i64 (tv l:Nat),.inil]) else none
 | _=>none
noncomputable def txtA:List AV→Hp→Option (List UInt8)
 | [.ag [.b neg,.sl n off len _ z]],h=>if len=0 then wtx neg [] else if z=1 then ((h.rd n off len).bind wordsA).bind (wtx neg) else none
 | [.ag [.b neg,.sn]],_=>wtx neg []
 | [.ag [.b neg,.se]],_=>wtx neg []
 | [.ag [.b neg,.e0]],_=>wtx neg []
 | _,_=>none
noncomputable def txtP:List PV→Option (List UInt8)
 | [.ag [.b neg,.lst ws]]=>(wordsP ws).bind (wtx neg)
 | [.ag [.b neg,.nl]]=>wtx neg []
 | _=>none
def powT:List AV:=(List.range 20).map fun i=>.i .u64 ((10^i:Nat):Int)
open Classical in
noncomputable def orcA (f:Nat) (args:List AV) (h:Hp):Option (AV×Hp) :=
 if f=33 then (if ∃b,h.m 0=some b∧b.v=powT then (txtA args h).map fun l=>(.s l,h) else none)
 else if f=50∧¬(∃b,h.m 0=some b∧b.v=powT) then none
 else (libA f args).map fun v=>(v,h)
noncomputable def orcP (f:Nat) (args:List PV) (M:PM):Option (PV×PM) :=
 if f=33 then (txtP args).map fun l=>(.s l,M) else (libP f args).map fun v=>(v,M)
def ovrP (f:Nat) (args:List PV):Option PV :=
 if f=211 then (match args with|[.lst []]=>some (.lst [])|_=>none) else none
def globT (g:Nat):Option (List AV):=if g=0 then some powT else none
def monoI:List Int:=[0,0,0,1,0,0,0,1,0,0,0,1,2,0,0,1,1,0,1,0,1,0,2,0,0,1,1,0,0,2,3,0,0,2,1,0,2,0,1,1,2,0,1,1,1,1,0,2,0,3,0,0,2,1,0,1,2,0,0,3]
def chooI:List Int:=[1,0,0,0,1,1,0,0,1,2,1,0,1,3,3,1]
def monoT:List AV:=monoI.map fun n=>.i .i64 n
def chooT:List AV:=chooI.map fun n=>.i .i64 n
def downT:List AV:=[.fn 296 [],.fn 297 []]
def upT:List AV:=[.fn 298 [],.fn 299 []]
def globG:Nat→Option (List AV)
 | 0=>some powT
 | 1=>some monoT
 | 2=>some chooT
 | 3=>some downT
 | 4=>some upT
 | _=>none
theorem zlw {h:Hp} {D:Nat→Prop}:∀{ws:List PV} {cs:Nat→AV} {xs:List Nat},wordsP ws=some xs→(∀i (hi:i<ws.length),V h D [] ws[i] (cs i))→wordsA ((List.range ws.length).map cs)=some xs
 | [],cs,xs,e,_=>by simp[wordsP] at e;subst e;rfl
 | w::ws,cs,xs,e,hv=>by
  unfold wordsP at e
  split at e
  ·rename_i he;cases he
  ·rename_i n l he
   cases he
   split at e
   ·rename_i hn
    simp only[Option.map_eq_some_iff] at e
    obtain⟨ys,e1,rfl⟩:=e
    have h0:=hv 0 (by simp)
    have hc:cs 0=.i .u32 n:=by
     have h0':V h D [] (.i .u32 n) (cs 0):=h0
     generalize cs 0=c at h0'
     cases h0';rfl
    have ih:=zlw (cs:=fun i=>cs (i+1)) e1 fun i hi=>hv (i+1) (by simp;omega)
    rw[List.length_cons,List.range_succ_eq_map,List.map_cons,List.map_map,hc]
    unfold wordsA
    rw[if_pos hn]
    have:(List.range ws.length).map (cs ∘ Nat.succ)=(List.range ws.length).map fun i=>cs (i+1):=rfl
    rw[this,ih];rfl
   ·cases e
  ·cases e
theorem ze6:∀{ws:List PV} {xs:List Nat},wordsP ws=some xs→flat ws=ws∧∀x∈ws,x.cells.length=1
 | [],xs,e=>⟨rfl,fun x hx=>by cases hx⟩
 | w::ws,xs,e=>by
  unfold wordsP at e
  split at e
  ·rename_i he;cases he
  ·rename_i n l he
   cases he
   split at e
   ·simp only[Option.map_eq_some_iff] at e
    obtain⟨ys,e1,rfl⟩:=e
    obtain⟨p1,p2⟩:=ze6 e1
    refine⟨?_,fun x hx=>?_⟩
    ·show (PV.cells (.i .u32 n))++flat ws=_
     rw[p1];rfl
    ·rcases List.mem_cons.1 hx with rfl|hx
     ·rfl
     ·exact p2 x hx
   ·cases e
  ·cases e
theorem zwv {h:Hp} {D:Nat→Prop} {r:List Nat} {args:List PV} {asq:List AV} {l:List UInt8} (e:txtP args=some l) (hv:VL h D r args asq):txtA asq h=some l:=by
 unfold txtP at e
 split at e
 ·rename_i neg ws
  obtain⟨a,as',rfl,h1,h2⟩:=hv.uncons
  rw[h2.of_nil]
  cases h1 with
  | @ag _ _ l' hn hv' =>
   have hv':VL h D r [.b neg,.lst ws] l':=⟨hn,hv'⟩
   obtain⟨b,l2,rfl,h3,h4⟩:=hv'.uncons
   obtain⟨c,l3,rfl,h5,h6⟩:=h4.uncons
   rw[h6.of_nil]
   cases h3
   cases hw:wordsP ws with
   | none=>rw[hw] at e;cases e
   | some xs =>
    rw[hw] at e
    simp only[Option.bind_some] at e
    cases h5 with
    | @lst _ _ m off cap z blk cs e1 d hs hz0 hz hcap hc hv2 =>
     obtain⟨f1,f2⟩:=ze6 hw
     show (if ws.length=0 then wtx neg [] else if z=1 then ((h.rd m off ws.length).bind wordsA).bind (wtx neg) else none)=_
     by_cases h0:ws.length=0
     ·have:ws=[]:=List.eq_nil_of_length_eq_zero h0
      subst this
      simp[wordsP] at hw;subst hw
      simpa using e
     ·have hz1:z=1:=by
       cases ws with
       | nil=>simp at h0
       | cons x ws=>rw[←hz x (by simp),f2 x (by simp)]
      subst hz1
      rw[if_neg h0,if_pos rfl]
      have hlen:(flat ws).length=ws.length:=by rw[f1]
      have hrd:h.rd m off ws.length=some ((List.range ws.length).map cs):=by
       have hlast:off+ws.length≤blk.v.length:=by
        have:=hc (ws.length-1) (by omega)
        have:=zaY this
        omega
       simp only[Hp.rd,e1,if_pos hlast]
       congr 1
       apply List.ext_getElem?
       intro i
       rw[List.getElem?_take,List.getElem?_map,List.getElem?_drop]
       by_cases hi:i<ws.length
       ·rw[if_pos hi,hc i (by omega),List.getElem?_range hi];rfl
       ·rw[if_neg hi,List.getElem?_eq_none (by simp;omega)];rfl
      have hv3:∀i (hi:i<ws.length),V h D [] ws[i] (cs i):=fun i hi=>by
       have:=hv2 i (by omega)
       simp only[f1] at this
       exact this
      rw[hrd,Option.bind_some,zlw hw hv3,Option.bind_some]
      exact e
    | lst0 m off cap z =>
     simp[wordsP] at hw;subst hw
     simpa [txtA] using e
    | lsn=>simp[wordsP] at hw;subst hw;exact e
    | lse=>simp[wordsP] at hw;subst hw;exact e
    | le0=>simp[wordsP] at hw;subst hw;exact e
 ·rename_i neg
  obtain⟨a,as',rfl,h1,h2⟩:=hv.uncons
  rw[h2.of_nil]
  cases h1 with
  | @ag _ _ l' hn hv' =>
   have hv':VL h D r [.b neg,.nl] l':=⟨hn,hv'⟩
   obtain⟨b,l2,rfl,h3,h4⟩:=hv'.uncons
   obtain⟨c,l3,rfl,h5,h6⟩:=h4.uncons
   rw[h6.of_nil]
   cases h3
   cases h5 with
   | nln=>exact e
   | nle=>exact e
 ·cases e
theorem zuk {h:Hp} {D:Nat→Prop} {r:List Nat} {f:Nat} {args:List PV} {asq:List AV} {v:PV} (e:libP f args=some v) (hv:VL h D r args asq):∃a,libA f asq=some a∧V h D r v a:=by
 have one:∀{x:PV} {l:List PV} {asq:List AV},VL h D r (x::l) asq→(∃k n,x=.i k n)∨(∃s,x=.s s)→∃as',VL h D r l as'∧((∃k n,x=.i k n∧asq=.i k n::as')∨(∃s,x=.s s∧asq=.s s::as')):=by
  intro x l asq hx ho
  obtain⟨w,ws,rfl,a,b⟩:=hx.uncons
  refine⟨ws,b,?_⟩
  rcases ho with⟨k,n,rfl⟩|⟨s,rfl⟩
  ·cases a;exact .inl ⟨k,n,rfl,rfl⟩
  ·cases a;exact .inr ⟨s,rfl,rfl⟩
 unfold libP at e
 split at e
 ·rename_i n
  obtain⟨as',a,q⟩:=one hv (.inl ⟨_,n,rfl⟩)
  rcases q with⟨k',n',e1,rfl⟩|⟨s,e1,_⟩
  ·cases e1
   rw[a.of_nil]
   split at e
   ·rename_i hc;cases e;exact⟨_,by simp only[libA,if_pos hc],.s _⟩
   ·cases e
  ·cases e1
 ·rename_i l c
  obtain⟨as',a,q⟩:=one hv (.inr ⟨l,rfl⟩)
  rcases q with⟨k',n',e1,_⟩|⟨s,e1,rfl⟩
  ·cases e1
  cases e1
  obtain⟨as2,a2,q⟩:=one a (.inl ⟨_,c,rfl⟩)
  rcases q with⟨k',n',e1,rfl⟩|⟨s,e1,_⟩
  ·cases e1
   rw[a2.of_nil]
   split at e
   ·rename_i hc;cases e;exact⟨_,by simp only[libA,if_pos hc],.s _⟩
   ·cases e
  ·cases e1
 ·rename_i l c
  obtain⟨as',a,q⟩:=one hv (.inr ⟨l,rfl⟩)
  rcases q with⟨k',n',e1,_⟩|⟨s,e1,rfl⟩
  ·cases e1
  cases e1
  obtain⟨as2,a2,q⟩:=one a (.inr ⟨c,rfl⟩)
  rcases q with⟨k',n',e1,_⟩|⟨s,e1,rfl⟩
  ·cases e1
  ·cases e1
   rw[a2.of_nil]
   split at e
   ·rename_i hc;cases e;exact⟨_,by simp only[libA,if_pos hc],.s _⟩
   ·rename_i hc
    split at e
    ·rename_i hf
     split at e
     ·cases e;exact⟨_,by simp only[libA,if_neg hc,if_pos hf],.i _ _⟩
     ·cases e
    ·cases e
 ·rename_i l
  obtain⟨as',a,q⟩:=one hv (.inr ⟨l,rfl⟩)
  rcases q with⟨k',n',e1,_⟩|⟨s,e1,rfl⟩
  ·cases e1
  ·cases e1
   rw[a.of_nil]
   split at e
   ·rename_i hc;cases e;exact⟨_,by simp only[libA,if_pos hc],(fun q:VL h D r [.i .i64 _,.inil] [.i .i64 _,.inil]=>.tu q.1 q.2) (VL.cons (.i _ _) (VL.cons .inil .nil))⟩
   ·cases e
 ·cases e
theorem zrt {Gl:Nat→Option (List AV)} (g0:Gl 0=some powT) {Db:Nat→Prop} {r:List Nat} {M:PM} {h:Hp} {f:Nat} {args:List PV} {asq:List AV} {v:PV} {M':PM} (e:orcP f args M=some (v,M')) (I:PInv Gl Db r M h) (hv:VL h (DD Db r M) r args asq):PRes Gl Db r M h v M' (orcA f asq h):=by
 have hg:∃b,h.m 0=some b∧b.v=powT:=by
  obtain⟨b,p1,p2,_⟩:=I.glob 0 powT g0
  exact⟨b,p1,p2.1⟩
 unfold orcP at e
 split at e
 ·rename_i h33
  simp only[Option.map_eq_some_iff] at e
  obtain⟨l,e1,e2⟩:=e
  cases e2
  exact⟨_,h,r,by unfold orcA;rw[if_pos h33,if_pos hg,zwv e1 hv];rfl,I,.refl _ _ _,.s l⟩
 ·rename_i h33
  simp only[Option.map_eq_some_iff] at e
  obtain⟨l,e1,e2⟩:=e
  cases e2
  obtain⟨a,a1,a2⟩:=zuk e1 hv
  exact⟨a,h,r,by unfold orcA;rw[if_neg h33,if_neg (fun q=>q.2 hg),a1];rfl,I,.refl _ _ _,a2⟩
end Go.Eng
