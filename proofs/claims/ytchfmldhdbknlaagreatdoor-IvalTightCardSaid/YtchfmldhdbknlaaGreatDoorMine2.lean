/- The engine and the contracts on which the statement stands: no conditions of its own. -/
import Derived.Test.YtchfmldhdbknlaaGreatDoorMine1
set_option linter.unusedSimpArgs false
set_option linter.unusedVariables false
set_option linter.unusedSectionVars false
namespace Go.Eng
variable {E:PEnv} {F:PFin}
@[go_sem] theorem zps (fr:PFr) (d:Nat) (v:PV):fr.putO (some d) v=fr.put d v:=_root_.id rfl
@[go_sem] theorem zpr (fr:PFr) (v:PV):fr.putO none v=fr:=_root_.id rfl
@[go_sem] theorem znw (fr:PFr) (d:Nat) (v:PV) (k:Nat):fr.put d v k=if k=d then v else fr k:=_root_.id rfl
@[go_sem] theorem zov (a:PV) (l:List PV):frOf (a::l) 0=a:=_root_.id rfl
@[go_sem] theorem zou (a:PV) (l:List PV) (k:Nat):frOf (a::l) (k+1)=frOf l k:=_root_.id rfl
@[go_sem] theorem zvG (G:Nat→Option (List AV)) (fr:PFr) (n:Nat):X.pv G fr (.t n)=fr n:=_root_.id rfl
@[go_sem] theorem zvF (G:Nat→Option (List AV)) (fr:PFr) (v:AV):X.pv G fr (.k v)=cst G v:=_root_.id rfl
@[go_sem] theorem zuW (G:Nat→Option (List AV)) (v:Bool):cst G (.b v)=.b v:=_root_.id rfl
@[go_sem] theorem zuX (G:Nat→Option (List AV)) (k:IntKind) (n:Int):cst G (.i k n)=.i k n:=_root_.id rfl
@[go_sem] theorem zuY (G:Nat→Option (List AV)) (l:List UInt8):cst G (.s l)=.s l:=_root_.id rfl
@[go_sem] theorem ztx (G:Nat→Option (List AV)):cst G .sn=.nl:=_root_.id rfl
@[go_sem] theorem zp0 (G:Nat→Option (List AV)):cst G .fnil=.fnil:=_root_.id rfl
@[go_sem] theorem ztu (v:Bool):cst0 (.b v)=.b v:=_root_.id rfl
@[go_sem] theorem ztv (k:IntKind) (n:Int):cst0 (.i k n)=.i k n:=_root_.id rfl
@[go_sem] theorem ztw (l:List UInt8):cst0 (.s l)=.s l:=_root_.id rfl
@[go_sem] theorem zqV:cst0 .sn=.nl:=_root_.id rfl
@[go_sem] theorem zut (v:Bool):PV.scal (.b v)=true:=_root_.id rfl
@[go_sem] theorem zuu (k:IntKind) (n:Int):PV.scal (.i k n)=true:=_root_.id rfl
@[go_sem] theorem zuv (l:List UInt8):PV.scal (.s l)=true:=_root_.id rfl
@[go_sem] theorem zqk (l:List PV):PV.scal (.lst l)=true:=_root_.id rfl
@[go_sem] theorem zs5:PV.scal .nl=true:=_root_.id rfl
@[go_sem] theorem zs4 (f:Nat) (l:List PV):PV.scal (.fn f l)=true:=_root_.id rfl
@[go_sem] theorem zqR (v:Bool):PV.cells (.b v)=[.b v]:=_root_.id rfl
@[go_sem] theorem zqS (k:IntKind) (n:Int):PV.cells (.i k n)=[.i k n]:=_root_.id rfl
@[go_sem] theorem zqT (l:List UInt8):PV.cells (.s l)=[.s l]:=_root_.id rfl
@[go_sem] theorem zpY (l:List PV):PV.cells (.ag l)=l:=_root_.id rfl
@[go_sem] theorem zpS (p:PV→Bool):[].all p=true:=_root_.id rfl
@[go_sem] theorem znV (p:PV→Bool) (a:PV) (l:List PV):(a::l).all p=(p a&&l.all p):=_root_.id rfl
@[go_sem] theorem zj0 (b:Option PB) (M:PM):PM.blk (b::M) 0=b:=by cases b<;>rfl
@[go_sem] theorem zew (b:Option PB) (M:PM) (n:Nat):PM.blk (b::M) (n+1)=PM.blk M n:=_root_.id rfl
section
variable (d:Option Nat) (af:List Nat) (l:List XOper) (ks:List KI) (fr:PFr) (M:PM)
@[go_sem] theorem zuS (x:X):WL E F (⟨d,.mov x,af,none⟩::l) ks fr M=WL E F l ks (fr.putO d (x.pv E.glob fr)) M:=by rw[zaZ];exact zgh ..
@[go_sem] theorem zuI (op:BinOp) (x y:X):WL E F (⟨d,.bin op x y,af,none⟩::l) ks fr M=WV1 E F (binP op (x.pv E.glob fr) (y.pv E.glob fr)) d l ks fr M:=by rw[zaZ];exact za3 ..
@[go_sem] theorem zvt (op:UnOp) (x:X):WL E F (⟨d,.un op x,af,none⟩::l) ks fr M=WV1 E F (unP op (x.pv E.glob fr)) d l ks fr M:=by rw[zaZ];exact za3 ..
def boolP (ne:Bool):Option Bool→Option PV
 | some v=>some (.b (if ne then !v else v))
 | none=>none
@[go_sem] theorem zqN (v:Bool):boolP false (some v)=some (.b v):=_root_.id rfl
@[go_sem] theorem zqO (v:Bool):boolP true (some v)=some (.b (!v)):=_root_.id rfl
@[go_sem] theorem zuM (ne:Bool) (c:Nat) (x y:X):WL E F (⟨d,.eqt ne c x y,af,none⟩::l) ks fr M=WV1 E F (boolP ne (eqTP c (x.pv E.glob fr) (y.pv E.glob fr))) d l ks fr M:=by
 rw[zaZ,←za3]
 have:XO.pst E.glob (pcl E) fr M (.eqt ne c x y)=(boolP ne (eqTP c (x.pv E.glob fr) (y.pv E.glob fr))).map fun v=>(v,M):=by
  show (eqTP c (x.pv E.glob fr) (y.pv E.glob fr)).map _=_
  cases eqTP c (x.pv E.glob fr) (y.pv E.glob fr)<;>rfl
 rw[this]
def eqaP (ks:List Nat):PV→PV→Option Bool
 | .ag xs,.ag ys=>eqCellsP ks xs ys
 | _,_=>none
def cintP (k:IntKind):PV→Option PV
 | .i _ n=>some (.i k (k.wrap n))
 | _=>none
@[go_sem] theorem zqU (k k':IntKind) (n:Int):cintP k (.i k' n)=some (.i k (k.wrap n)):=_root_.id rfl
@[go_sem] theorem ztm (k:IntKind) (x:X):WL E F (⟨d,.cint k x,af,none⟩::l) ks fr M=WV1 E F (cintP k (x.pv E.glob fr)) d l ks fr M:=by
 rw[zaZ,←za3]
 have:XO.pst E.glob (pcl E) fr M (.cint k x)=(cintP k (x.pv E.glob fr)).map fun v=>(v,M):=by
  simp only[XO.pst,XO.pev]
  cases x.pv E.glob fr<;>rfl
 rw[this]
def lenP:PV→Option PV
 | .sl _ _ ln _ _=>some (.i .i64 ln)
 | .nl=>some (.i .i64 0)
 | .lst xs=>some (.i .i64 xs.length)
 | _=>none
@[go_sem] theorem zrm (n o ln c z:Nat):lenP (.sl n o ln c z)=some (.i .i64 ln):=_root_.id rfl
@[go_sem] theorem zrl:lenP .nl=some (.i .i64 0):=_root_.id rfl
@[go_sem] theorem zp9 (xs:List PV):lenP (.lst xs)=some (.i .i64 xs.length):=_root_.id rfl
@[go_sem] theorem zuQ (x:X):WL E F (⟨d,.len x,af,none⟩::l) ks fr M=WV1 E F (lenP (x.pv E.glob fr)) d l ks fr M:=by
 rw[zaZ,←za3]
 have:XO.pst E.glob (pcl E) fr M (.len x)=(lenP (x.pv E.glob fr)).map fun v=>(v,M):=by
  simp only[XO.pst,XO.pev]
  cases x.pv E.glob fr<;>rfl
 rw[this]
def lensP:PV→Option PV
 | .s l=>some (.i .i64 l.length)
 | _=>none
@[go_sem] theorem zrn (l:List UInt8):lensP (.s l)=some (.i .i64 l.length):=_root_.id rfl
@[go_sem] theorem zto (x:X):WL E F (⟨d,.lens x,af,none⟩::l) ks fr M=WV1 E F (lensP (x.pv E.glob fr)) d l ks fr M:=by
 rw[zaZ,←za3]
 have:XO.pst E.glob (pcl E) fr M (.lens x)=(lensP (x.pv E.glob fr)).map fun v=>(v,M):=by
  simp only[XO.pst,XO.pev]
  cases x.pv E.glob fr<;>rfl
 rw[this]
def pickB (a b:PV):PV→Option PV
 | .b v=>some (if v then a else b)
 | _=>none
@[go_sem] theorem zsZ (a b:PV):pickB a b (.b true)=some a:=_root_.id rfl
@[go_sem] theorem zsY (a b:PV):pickB a b (.b false)=some b:=_root_.id rfl
@[go_sem] theorem ztp (c x y:X):WL E F (⟨d,.pick c x y,af,none⟩::l) ks fr M=WV1 E F (pickB (x.pv E.glob fr) (y.pv E.glob fr) (c.pv E.glob fr)) d l ks fr M:=by
 rw[zaZ,←za3]
 have:XO.pst E.glob (pcl E) fr M (.pick c x y)=(pickB (x.pv E.glob fr) (y.pv E.glob fr) (c.pv E.glob fr)).map fun v=>(v,M):=by
  simp only[XO.pst,XO.pev]
  cases c.pv E.glob fr<;>rfl
 rw[this]
@[go_sem] theorem zuR (f:Nat) (xs:List X):WL E F (⟨d,.mfn f xs,af,none⟩::l) ks fr M=WL E F l ks (fr.putO d (.fn f (xs.map (X.pv E.glob fr)))) M:=by rw[zaZ];exact zgh ..
def fadP (off:Nat):PV→Option PV
 | .p m o=>some (.p m (o+off))
 | .fp l=>some (.fp (l.drop off))
 | _=>none
@[go_sem] theorem zty (off m o:Nat):fadP off (.p m o)=some (.p m (o+off)):=_root_.id rfl
@[go_sem] theorem zqZ (off:Nat) (xs:List PV):fadP off (.fp xs)=some (.fp (xs.drop off)):=_root_.id rfl
@[go_sem] theorem zuO (off:Nat) (x:X):WL E F (⟨d,.fad off x,af,none⟩::l) ks fr M=WV1 E F (fadP off (x.pv E.glob fr)) d l ks fr M:=by
 rw[zaZ,←za3]
 have:XO.pst E.glob (pcl E) fr M (.fad off x)=(fadP off (x.pv E.glob fr)).map fun v=>(v,M):=by
  simp only[XO.pst,XO.pev]
  cases x.pv E.glob fr<;>rfl
 rw[this]
def fldP (agg:Bool) (off n:Nat):PV→Option PV
 | .ag l=>if off+n≤l.length then pickP agg ((l.drop off).take n) else none
 | _=>none
def extP (n:Nat):PV→Option PV
 | .tu l=>l[n]?
 | _=>none
@[go_sem] theorem zqX (n:Nat) (xs:List PV):extP n (.tu xs)=xs[n]?:=_root_.id rfl
@[go_sem] theorem zuN (x:X) (n:Nat):WL E F (⟨d,.ext x n,af,none⟩::l) ks fr M=WV1 E F (extP n (x.pv E.glob fr)) d l ks fr M:=by
 rw[zaZ,←za3]
 have:XO.pst E.glob (pcl E) fr M (.ext x n)=(extP n (x.pv E.glob fr)).map fun v=>(v,M):=by
  simp only[XO.pst,XO.pev]
  cases x.pv E.glob fr<;>rfl
 rw[this]
@[go_sem] theorem zvs (mx:Bool) (x:X) (xs:List X):WL E F (⟨d,.mm mx x xs,af,none⟩::l) ks fr M=WV1 E F (mmP mx (x.pv E.glob fr) (xs.map (X.pv E.glob fr))) d l ks fr M:=by rw[zaZ];exact za3 ..
@[go_sem] theorem zqs (z:List AV) (ps:List (Nat×Nat×X)):WL E F (⟨d,.build z ps,af,none⟩::l) ks fr M=WV1 E F ((fillP E.glob fr (z.map cst0) ps).map .ag) d l ks fr M:=by
 rw[zaZ,←za3]
 have:XO.pst E.glob (pcl E) fr M (.build z ps)=((fillP E.glob fr (z.map cst0) ps).map .ag).map fun v=>(v,M):=by
  simp only[XO.pst,XO.pev,Option.map_map]
  rfl
 rw[this]
@[go_sem] theorem zp1 (G:Nat→Option (List AV)) (z:List PV):fillP G fr z []=some z:=_root_.id rfl
def fill1 (z:List PV) (off:Nat):List PV→Option (List PV)
 | [c]=>if off<z.length∧c.scal=true then some (z.set off c) else none
 | _=>none
@[go_sem] theorem zor (z:List PV) (off:Nat) (c:PV):fill1 z off [c]=if off<z.length∧c.scal=true then some (z.set off c) else none:=_root_.id rfl
def fillB (G:Nat→Option (List AV)) (ps:List (Nat×Nat×X)):Option (List PV)→Option (List PV)
 | some z=>fillP G fr z ps
 | none=>none
@[go_sem] theorem znS (G:Nat→Option (List AV)) (z:List PV) (ps:List (Nat×Nat×X)):fillB fr G ps (some z)=fillP G fr z ps:=_root_.id rfl
theorem zjC (z:List PV) (off:Nat) (x:PV) (h:off<z.length):psplice z off [x]=z.set off x:=by
 rw[List.set_eq_take_append_cons_drop,if_pos h]
 simp[psplice]
@[go_sem] theorem zp2 (G:Nat→Option (List AV)) (z:List PV) (off:Nat) (x:X) (ps:List (Nat×Nat×X)):fillP G fr z ((off,(1,x))::ps)=fillB fr G ps (fill1 z off (x.pv G fr).cells):=by
 simp only[fillP]
 generalize hv:(x.pv G fr).cells=cs
 match cs,hv with
 | [c],hv =>
  simp only[fill1,List.length_cons,List.length_nil,Nat.zero_add,List.all_cons,List.all_nil,Bool.and_true,true_and]
  by_cases h:off<z.length∧c.scal=true
  ·rw[if_pos h,if_pos ⟨by omega,h.2⟩,zjC _ _ _ h.1];rfl
  ·rw[if_neg h,if_neg (fun q=>h ⟨by omega,q.2⟩)];rfl
 | [],hv=>simp only[fill1];rw[if_neg (by simp)];rfl
 | _::_::_,hv=>simp only[fill1];rw[if_neg (by simp)];rfl
end
section
variable (d:Option Nat) (af:List Nat) (l:List XOper) (ks:List KI) (fr:PFr) (M:PM)
def idxP (sz:Nat):PV→Option Nat→Option PV
 | .sl m off ln _ z,some j=>if j<ln∧z=sz then some (.p m (off+j*sz)) else none
 | .lst xs,some j=>match xs[j]? with|some y=>if y.cells.length=sz then some (.fp y.cells) else none|none=>none
 | _,_=>none
@[go_sem] theorem zrg (sz m off ln c z j:Nat):idxP sz (.sl m off ln c z) (some j)=if j<ln∧z=sz then some (.p m (off+j*sz)) else none:=_root_.id rfl
def idx1 (sz:Nat):Option PV→Option PV
 | some y=>if y.cells.length=sz then some (.fp y.cells) else none
 | none=>none
@[go_sem] theorem zoz (sz:Nat) (y:PV):idx1 sz (some y)=if y.cells.length=sz then some (.fp y.cells) else none:=_root_.id rfl
@[go_sem] theorem zeI (sz j:Nat) (xs:List PV):idxP sz (.lst xs) (some j)=idx1 sz xs[j]?:=by
 show (match xs[j]? with|some y=>if y.cells.length=sz then some (PV.fp y.cells) else none|none=>none)=_
 cases xs[j]?<;>rfl
@[go_sem] theorem zuP (sz:Nat) (x i:X):WL E F (⟨d,.ixs sz x i,af,none⟩::l) ks fr M=WV1 E F (idxP sz (x.pv E.glob fr) (asNP (i.pv E.glob fr))) d l ks fr M:=by
 rw[zaZ,←za3]
 have:XO.pst E.glob (pcl E) fr M (.ixs sz x i)=(idxP sz (x.pv E.glob fr) (asNP (i.pv E.glob fr))).map fun v=>(v,M):=by
  simp only[XO.pst,XO.pev]
  generalize x.pv E.glob fr=a
  generalize asNP (i.pv E.glob fr)=b
  cases a with
  | sl m off ln c z =>
   cases b with
   | none=>rfl
   | some j=>simp only[idxP];split<;>rfl
  | lst xs =>
   cases b with
   | none=>rfl
   | some j =>
    simp only[idxP]
    cases xs[j]? with
    | none=>rfl
    | some y=>simp only;split<;>rfl
  | _=>cases b<;>rfl
 rw[this]
@[go_sem] theorem zaK (k:IntKind) (n:Nat):asNP (.i k (n:Int))=some n:=by simp[asNP,asIP]
@[go_sem] theorem zcA (k:IntKind) (n:Nat) [OfNat Int n]:asNP (.i k (no_index (OfNat.ofNat n)))=if 0≤(OfNat.ofNat n:Int) then some (OfNat.ofNat n:Int).toNat else none:=by simp[asNP,asIP]
def ixaP (ln sz:Nat):PV→Option Nat→Option PV
 | .p m off,some j=>if j<ln then some (.p m (off+j*sz)) else none
 | .fp l,some j=>if j<ln then some (.fp (l.drop (j*sz))) else none
 | _,_=>none
def iagP (ln:Nat) (agg:Bool) (sz:Nat):PV→Option Nat→Option PV
 | .ag l,some j=>if j<ln∧l.length=ln*sz then pickP agg ((l.drop (j*sz)).take sz) else none
 | _,_=>none
def istrP:PV→Option Nat→Option PV
 | .s l,some j=>(l[j]?).map fun c=>.i .u8 c.toNat
 | _,_=>none
@[go_sem] theorem zmG (bs:List UInt8) (j:Nat):istrP (.s bs) (some j)=(bs[j]?).map fun c=>.i .u8 c.toNat:=_root_.id rfl
@[go_sem] theorem ztn (x i:X):WL E F (⟨d,.istr x i,af,none⟩::l) ks fr M=WV1 E F (istrP (x.pv E.glob fr) (asNP (i.pv E.glob fr))) d l ks fr M:=by
 rw[zaZ,←za3]
 have:XO.pst E.glob (pcl E) fr M (.istr x i)=(istrP (x.pv E.glob fr) (asNP (i.pv E.glob fr))).map fun v=>(v,M):=by
  simp only[XO.pst,XO.pev]
  generalize x.pv E.glob fr=a
  generalize asNP (i.pv E.glob fr)=b
  cases a<;>cases b<;>simp only[istrP,Option.map_map]<;>rfl
 rw[this]
def ld1 (M:PM):PV→Option PV
 | .p m off=>match PM.blk M m with|some b=>b.v[off]?|none=>none
 | .fp l=>l[0]?
 | _=>none
def blkV (off:Nat):Option PB→Option PV
 | some b=>b.v[off]?
 | none=>none
@[go_sem] theorem zn1 (off:Nat) (b:PB):blkV off (some b)=b.v[off]?:=_root_.id rfl
@[go_sem] theorem zu9 (m off:Nat):ld1 M (.p m off)=blkV off (PM.blk M m):=by
 show (match PM.blk M m with|some b=>b.v[off]?|none=>none)=_
 cases PM.blk M m<;>rfl
@[go_sem] theorem ztG (xs:List PV):ld1 M (.fp xs)=xs[0]?:=_root_.id rfl
theorem zmW (xs:List PV) (off:Nat):(if off+1≤xs.length then some ((xs.drop off).take 1) else none).bind (pickP false)=xs[off]?:=by
 by_cases h:off<xs.length
 ·rw[if_pos (by omega),List.drop_eq_getElem_cons h,List.getElem?_eq_getElem h];rfl
 ·rw[if_neg (by omega),List.getElem?_eq_none (by omega)];rfl
@[go_sem] theorem zqv (x:X):WL E F (⟨d,.load false 1 x,af,none⟩::l) ks fr M=WV1 E F (ld1 M (x.pv E.glob fr)) d l ks fr M:=by
 rw[zaZ,←za3]
 have:XO.pst E.glob (pcl E) fr M (.load false 1 x)=(ld1 M (x.pv E.glob fr)).map fun v=>(v,M):=by
  simp only[XO.pst,XO.pev]
  generalize x.pv E.glob fr=a
  cases a with
  | p m off =>
   simp only[ld1,PM.rd]
   cases PM.blk M m with
   | none=>rfl
   | some b =>
    simp only
    have:=zmW b.v off
    rw[←this]
    split
    ·rename_i l' hl
     rw[hl];rfl
    ·rename_i hl
     rw[hl];rfl
  | fp xs =>
   simp only[ld1]
   cases xs with
   | nil=>rfl
   | cons y ys=>simp[pickP,oneP]
  | _=>rfl
 rw[this]
def ldN (M:PM) (n:Nat):PV→Option PV
 | .p m off=>match PM.blk M m with|some b=>if off+n≤b.v.length then some (.ag ((b.v.drop off).take n)) else none|none=>none
 | .fp l=>if n≤l.length∧n≠0 then some (.ag (l.take n)) else none
 | _=>none
def blkN (off n:Nat):Option PB→Option PV
 | some b=>if off+n≤b.v.length then some (.ag ((b.v.drop off).take n)) else none
 | none=>none
@[go_sem] theorem znZ (off n:Nat) (b:PB):blkN off n (some b)=if off+n≤b.v.length then some (.ag ((b.v.drop off).take n)) else none:=_root_.id rfl
@[go_sem] theorem zva (n m off:Nat):ldN M n (.p m off)=blkN off n (PM.blk M m):=by
 show (match PM.blk M m with|some b=>if off+n≤b.v.length then some (PV.ag ((b.v.drop off).take n)) else none|none=>none)=_
 cases PM.blk M m<;>rfl
@[go_sem] theorem ztH (n:Nat) (xs:List PV):ldN M n (.fp xs)=if n≤xs.length∧n≠0 then some (.ag (xs.take n)) else none:=_root_.id rfl
@[go_sem] theorem zqw (n:Nat) (x:X):WL E F (⟨d,.load true n x,af,none⟩::l) ks fr M=WV1 E F (ldN M n (x.pv E.glob fr)) d l ks fr M:=by
 rw[zaZ,←za3]
 have:XO.pst E.glob (pcl E) fr M (.load true n x)=(ldN M n (x.pv E.glob fr)).map fun v=>(v,M):=by
  simp only[XO.pst,XO.pev]
  generalize x.pv E.glob fr=a
  cases a with
  | p m off =>
   simp only[ldN,PM.rd]
   cases PM.blk M m with
   | none=>rfl
   | some b =>
    simp only
    by_cases h:off+n≤b.v.length
    ·simp[h,pickP]
    ·simp[h]
  | fp xs =>
   simp only[ldN]
   split<;>rfl
  | _=>rfl
 rw[this]
def st1 (M:PM) (a:PV) (cs:List PV):Option (PV×PM) :=
 match a,cs with
 | .p m off,[c]=>match PM.blk M m with|some b=>if b.rw=true∧off<b.v.length∧c.scal=true then some (undefP,M.set m (some ⟨b.v.set off c,true,b.ver+1⟩)) else none|none=>none
 | _,_=>none
def blkS (M:PM) (m off:Nat) (c:PV):Option PB→Option (PV×PM)
 | some b=>if b.rw=true∧off<b.v.length∧c.scal=true then some (undefP,M.set m (some ⟨b.v.set off c,true,b.ver+1⟩)) else none
 | none=>none
@[go_sem] theorem zn0 (m off:Nat) (c:PV) (b:PB):blkS M m off c (some b)=if b.rw=true∧off<b.v.length∧c.scal=true then some (undefP,M.set m (some ⟨b.v.set off c,true,b.ver+1⟩)) else none:=_root_.id rfl
@[go_sem] theorem zvi (m off:Nat) (c:PV):st1 M (.p m off) [c]=blkS M m off c (PM.blk M m):=by
 show (match PM.blk M m with|some b=>if b.rw=true∧off<b.v.length∧c.scal=true then some (undefP,M.set m (some (PB.mk (b.v.set off c) true (b.ver+1)))) else none|none=>none)=_
 cases PM.blk M m<;>rfl
theorem zhB (a x:X):XO.pst E.glob (pcl E) fr M (.store 1 a x)=st1 M (a.pv E.glob fr) (x.pv E.glob fr).cells:=by
 simp only[XO.pst,XO.pev]
 generalize a.pv E.glob fr=p
 generalize (x.pv E.glob fr).cells=cs
 cases p with
 | p m off =>
  simp only
  match cs with
  | [c] =>
   simp only[st1]
   cases PM.blk M m with
   | none=>rfl
   | some b =>
    simp only[List.length_cons,List.length_nil,Nat.zero_add,List.all_cons,List.all_nil,Bool.and_true,true_and]
    by_cases h:b.rw=true∧off<b.v.length∧c.scal=true
    ·rw[if_pos h,if_pos ⟨h.1,by omega,h.2.2⟩,zjC _ _ _ h.2.1]
    ·rw[if_neg h,if_neg (fun q=>h ⟨q.1,by omega,q.2.2⟩)]
  | [] =>
   simp only[st1]
   cases PM.blk M m with
   | none=>rfl
   | some b=>simp
  | _::_::_ =>
   simp only[st1]
   cases PM.blk M m with
   | none=>rfl
   | some b=>simp
 | _=>match cs with
  | []=>rfl
  | [c]=>rfl
  | _::_::_=>rfl
@[go_sem] theorem zpQ (a x:X):WL E F (⟨d,.store 1 a x,af,none⟩::l) ks fr M=WV E F (st1 M (a.pv E.glob fr) (x.pv E.glob fr).cells) d l ks fr:=by rw[zaZ,zhB]
def stN (M:PM) (n:Nat) (a:PV) (cs:List PV):Option (PV×PM) :=
 match a with
 | .p m off=>match PM.blk M m with|some b=>if b.rw=true∧cs.length=n∧off+n≤b.v.length∧cs.all PV.scal=true then some (undefP,M.set m (some ⟨psplice b.v off cs,true,b.ver+1⟩)) else none|none=>none
 | _=>none
def blkSN (M:PM) (m off n:Nat) (cs:List PV):Option PB→Option (PV×PM)
 | some b=>if b.rw=true∧cs.length=n∧off+n≤b.v.length∧cs.all PV.scal=true then some (undefP,M.set m (some ⟨psplice b.v off cs,true,b.ver+1⟩)) else none
 | none=>none
@[go_sem] theorem znR (m off n:Nat) (cs:List PV) (b:PB):blkSN M m off n cs (some b)=if b.rw=true∧cs.length=n∧off+n≤b.v.length∧cs.all PV.scal=true then some (undefP,M.set m (some ⟨psplice b.v off cs,true,b.ver+1⟩)) else none:=_root_.id rfl
@[go_sem] theorem zvj (n m off:Nat) (cs:List PV):stN M n (.p m off) cs=blkSN M m off n cs (PM.blk M m):=by
 show (match PM.blk M m with|some b=>if b.rw=true∧cs.length=n∧off+n≤b.v.length∧cs.all PV.scal=true then some (undefP,M.set m (some (PB.mk (psplice b.v off cs) true (b.ver+1)))) else none|none=>none)=_
 cases PM.blk M m<;>rfl
theorem zjm (n:Nat) (a x:X):XO.pst E.glob (pcl E) fr M (.store n a x)=stN M n (a.pv E.glob fr) (x.pv E.glob fr).cells:=by
 simp only[XO.pst,XO.pev]
 cases a.pv E.glob fr<;>rfl
theorem zjQ (n:Nat) (a x:X):WL E F (⟨d,.store n a x,af,none⟩::l) ks fr M=WV E F (stN M n (a.pv E.glob fr) (x.pv E.glob fr).cells) d l ks fr:=by rw[zaZ,zjm]
@[go_sem] theorem zpR (n:Nat) (a x:X):WL E F (⟨d,.store (n+2) a x,af,none⟩::l) ks fr M=WV E F (stN M (n+2) (a.pv E.glob fr) (x.pv E.glob fr).cells) d l ks fr:=zjQ ..
@[go_sem] theorem zqx (x:X):WL E F (⟨d,.nilck x,af,none⟩::l) ks fr M=WV1 E F (match x.pv E.glob fr with | .p m off=>some (.p m off) | .fp l=>some (.fp l) | .fn f l=>some (.fn f l)|_=>none) d l ks fr M:=by
 rw[zaZ,←za3]
 have:XO.pst E.glob (pcl E) fr M (.nilck x)=(match x.pv E.glob fr with | .p m off=>some (PV.p m off) | .fp l=>some (.fp l) | .fn f l=>some (.fn f l)|_=>none).map fun v=>(v,M):=by
  simp only[XO.pst,XO.pev]
  cases x.pv E.glob fr<;>rfl
 rw[this]
def newP (M:PM) (cs:List PV):Option (PV×PM):=if cs.all PV.scal then some (.p M.length 0,M++[some ⟨cs,true,0⟩]) else none
@[go_sem] theorem zqa (cs:List PV):newP M cs=if cs.all PV.scal then some (.p M.length 0,M++[some ⟨cs,true,0⟩]) else none:=_root_.id rfl
@[go_sem] theorem zuU (z:List AV):WL E F (⟨d,.new z,af,none⟩::l) ks fr M=WV E F (newP M (z.map cst0)) d l ks fr:=by rw[zaZ];rfl
@[go_sem] theorem zuJ (x:X):WL E F (⟨d,.box x,af,none⟩::l) ks fr M=WV E F (newP M (x.pv E.glob fr).cells) d l ks fr:=by rw[zaZ];rfl
def bslP (M:PM) (n sz:Nat):Option (List PV)→Option (PV×PM)
 | some cs=>if n=0 then some (.nl,M) else some (.sl M.length 0 n n sz,M++[some ⟨cs,true,0⟩])
 | none=>none
@[go_sem] theorem zn2 (n sz:Nat) (cs:List PV):bslP M n sz (some cs)=if n=0 then some (.nl,M) else some (.sl M.length 0 n n sz,M++[some ⟨cs,true,0⟩]):=_root_.id rfl
@[go_sem] theorem zuK (n sz:Nat) (z:List AV) (ps:List (Nat×Nat×X)):WL E F (⟨d,.bsl n sz z ps,af,none⟩::l) ks fr M=WV E F (if n*sz≤16777216∧z.length=sz∧(z.map cst0).all PV.scal=true then bslP M n sz (fillP E.glob fr (List.replicate n (z.map cst0)).flatten ps) else none) d l ks fr:=by
 rw[zaZ]
 have:XO.pst E.glob (pcl E) fr M (.bsl n sz z ps)=(if n*sz≤16777216∧z.length=sz∧(z.map cst0).all PV.scal=true then bslP M n sz (fillP E.glob fr (List.replicate n (z.map cst0)).flatten ps) else none):=by
  simp only[XO.pst,XO.pev]
  split
  ·cases fillP E.glob fr (List.replicate n (z.map cst0)).flatten ps<;>rfl
  ·rfl
 rw[this]
def mslP (M:PM) (z:List PV) (by_:Nat):Option Nat→Option Nat→Option (PV×PM)
 | some a,some b =>
  if a≤b∧b*by_≤281474976710656∧b≤9223372036854775807∧z.all PV.scal=true then
   (if b=0 then some (.nl,M) else some (.sl M.length 0 a b z.length,M++[some ⟨(List.replicate b z).flatten,true,0⟩]))
  else none
 | _,_=>none
@[go_sem] theorem zuT (z:List AV) (by_:Nat) (n c:X):WL E F (⟨d,.msl z by_ n c,af,none⟩::l) ks fr M=WV E F (mslP M (z.map cst0) by_ (asNP (n.pv E.glob fr)) (asNP (c.pv E.glob fr))) d l ks fr:=by
 rw[zaZ]
 have:XO.pst E.glob (pcl E) fr M (.msl z by_ n c)=mslP M (z.map cst0) by_ (asNP (n.pv E.glob fr)) (asNP (c.pv E.glob fr)):=by
  simp only[XO.pst,XO.pev]
  cases asNP (n.pv E.glob fr)<;>cases asNP (c.pv E.glob fr)<;>simp only[mslP,List.length_map]
 rw[this]
theorem zus (z:PV):∀n,(List.replicate n [z]).flatten=List.replicate n z
 | 0=>rfl
 | n+1=>by rw[List.replicate_succ,List.flatten_cons,zus z n];rfl
theorem zkv (z:PV) (by_ n:Nat) (h1:n*by_≤281474976710656) (h2:n≤9223372036854775807) (h3:z.scal=true) (h0:n≠0):mslP M [z] by_ (some n) (some n)=some (.sl M.length 0 n n 1,M++[some ⟨List.replicate n z,true,0⟩]):=by
 simp only[mslP]
 rw[if_pos ⟨Nat.le_refl _,h1,h2,by simp[h3]⟩,if_neg h0,zus];rfl
theorem ziF (z:PV) (by_:Nat) (h3:z.scal=true):mslP M [z] by_ (some 0) (some 0)=some (.nl,M):=by
 simp only[mslP]
 simp[h3]
@[go_sem] theorem ztq (z:Nat) (x:X) (lo hi mx:Option X):WL E F (⟨d,.slsl z x lo hi mx,af,none⟩::l) ks fr M=WV1 E F (slP z (x.pv E.glob fr) (lo.map (X.pv E.glob fr)) (hi.map (X.pv E.glob fr)) (mx.map (X.pv E.glob fr))) d l ks fr M:=by rw[zaZ];exact za3 ..
def slS:PV→Option PV→Option PV→Option PV
 | .s l,lo,hi=>slStrP l lo hi
 | _,_,_=>none
@[go_sem] theorem zvh (bs:List UInt8) (lo hi:Option PV):slS (.s bs) lo hi=slStrP bs lo hi:=_root_.id rfl
@[go_sem] theorem zqy (x:X) (lo hi:Option X):WL E F (⟨d,.slstr x lo hi,af,none⟩::l) ks fr M=WV1 E F (slS (x.pv E.glob fr) (lo.map (X.pv E.glob fr)) (hi.map (X.pv E.glob fr))) d l ks fr M:=by
 rw[zaZ,←za3]
 have:XO.pst E.glob (pcl E) fr M (.slstr x lo hi)=(slS (x.pv E.glob fr) (lo.map (X.pv E.glob fr)) (hi.map (X.pv E.glob fr))).map fun v=>(v,M):=by
  simp only[XO.pst,XO.pev]
  cases x.pv E.glob fr<;>rfl
 rw[this]
@[go_sem] theorem zuH (z by_:Nat) (s x:X):WL E F (⟨d,.app z by_ s x,af,none⟩::l) ks fr M=WV E F (appP M z by_ (s.pv E.glob fr) (x.pv E.glob fr)) d l ks fr:=by rw[zaZ];rfl
@[go_sem] theorem zuL (z:Nat) (a b:X):WL E F (⟨d,.cpy z a b,af,none⟩::l) ks fr M=WV E F (cpyP M z (a.pv E.glob fr) (b.pv E.glob fr)) d l ks fr:=by rw[zaZ];rfl
@[go_sem] theorem ztl (f:Nat) (xs:List X):WL E F (⟨d,.call f xs,af,none⟩::l) ks fr M=WV E F (pcl E f (xs.map (X.pv E.glob fr)) M) d l ks fr:=by rw[zaZ];rfl
noncomputable def callP (E:PEnv) (M:PM) (xs:List PV):PV→Option (PV×PM)
 | .fn f c=>pcl E f (xs++c) M
 | _=>none
@[go_sem] theorem zpV (xs:List PV) (f:Nat) (c:List PV):callP E M xs (.fn f c)=pcl E f (xs++c) M:=_root_.id rfl
@[go_sem] theorem zqt (x:X) (xs:List X):WL E F (⟨d,.callv x xs,af,none⟩::l) ks fr M=WV E F (callP E M (xs.map (X.pv E.glob fr)) (x.pv E.glob fr)) d l ks fr:=by
 rw[zaZ]
 have:XO.pst E.glob (pcl E) fr M (.callv x xs)=callP E M (xs.map (X.pv E.glob fr)) (x.pv E.glob fr):=by
  simp only[XO.pst]
  cases x.pv E.glob fr<;>rfl
 rw[this]
end
@[go_sem] theorem zqb (fr:PFr) (M:PM):pRes fr M []=some []:=_root_.id rfl
def resC (o:Option PV) (r:Option (List PV)):Option (List PV):=match o,r with|some v,some vs=>some (v::vs)|_,_=>none
@[go_sem] theorem zpx (v:PV) (vs:List PV):resC (some v) (some vs)=some (v::vs):=_root_.id rfl
@[go_sem] theorem zqc (fr:PFr) (M:PM) (t:Nat) (l:List XR):pRes fr M (.tmp t::l)=resC (some (fr t)) (pRes fr M l):=_root_.id rfl
@[go_sem] theorem znT (fr:PFr) (M:PM) (t n:Nat) (l:List XR):pRes fr M (.cell t true n::l)=resC (ldN M n (fr t)) (pRes fr M l):=by
 have:pResOne fr M (.cell t true n)=ldN M n (fr t):=by
  simp only[pResOne]
  generalize fr t=a
  cases a with
  | p m off =>
   simp only[ldN,PM.rd]
   cases PM.blk M m with
   | none=>rfl
   | some b =>
    simp only
    by_cases h:off+n≤b.v.length
    ·simp[h,pickP]
    ·simp[h]
  | fp xs =>
   simp only[ldN]
   split<;>rfl
  | _=>rfl
 simp only[pRes,this];rfl
@[go_sem] theorem zqf (v:PV):packP [v]=v:=_root_.id rfl
@[go_sem] theorem zqg (v w:PV) (l:List PV):packP (v::w::l)=.tu (v::w::l):=_root_.id rfl
end Go.Eng
namespace Go.Eng
variable {E:PEnv} {F:PFin}
theorem zfv (a b:Nat):((a:Int).fdiv (b:Int))=((a/b:Nat):Int):=by rw[Int.fdiv_eq_ediv_of_nonneg _ (by omega)];rfl
section
variable (k k':IntKind) (a b:Int)
@[go_sem] theorem zqC:binP .add (.i k a) (.i k b)=some (.i k (k.wrap (a+b))):=by simp[binP,numBin,intBin,cst0]
@[go_sem] theorem zqM:binP .sub (.i k a) (.i k b)=some (.i k (k.wrap (a-b))):=by simp[binP,numBin,intBin,cst0]
@[go_sem] theorem zqI:binP .mul (.i k a) (.i k b)=some (.i k (k.wrap (a*b))):=by simp[binP,numBin,intBin,cst0]
@[go_sem] theorem zqK (h:b≠0):binP .quo (.i k a) (.i k b)=some (.i k (k.wrap (a.tdiv b))):=by simp[binP,numBin,intBin,cst0,h]
@[go_sem] theorem zqL (h:b≠0):binP .rem (.i k a) (.i k b)=some (.i k (a.tmod b)):=by simp[binP,numBin,intBin,cst0,h]
@[go_sem] theorem zqD:binP .eql (.i k a) (.i k b)=some (.b (decide (a=b))):=by
 have:(a==b)=decide (a=b):=by by_cases h:a=b<;>simp[h]
 simp[binP,numBin,intBin,cst0,this]
@[go_sem] theorem zqJ:binP .neq (.i k a) (.i k b)=some (.b (decide (a≠b))):=by
 have:(a != b)=decide (a≠b):=by by_cases h:a=b<;>simp[h]
 simp[binP,numBin,intBin,cst0,this]
@[go_sem] theorem zqH:binP .lss (.i k a) (.i k b)=some (.b (decide (a<b))):=by simp[binP,numBin,intBin,cst0]
@[go_sem] theorem zqG:binP .leq (.i k a) (.i k b)=some (.b (decide (a≤b))):=by simp[binP,numBin,intBin,cst0]
@[go_sem] theorem zqF:binP .gtr (.i k a) (.i k b)=some (.b (decide (b<a))):=by simp[binP,numBin,intBin,cst0]
@[go_sem] theorem zqE:binP .geq (.i k a) (.i k b)=some (.b (decide (b≤a))):=by simp[binP,numBin,intBin,cst0]
theorem zhK (h:0≤b):binP .shl (.i k a) (.i k' b)=some (.i k (k.wrap (a*2^(min b.toNat k.bits)))):=by
 have:¬b<0:=by omega
 simp[binP,numBin,intShift,cst0,this]
theorem zfO (h:0≤b):binP .shr (.i k a) (.i k' b)=some (.i k (a.fdiv (2^(min b.toNat k.bits)))):=by
 have:¬b<0:=by omega
 simp[binP,numBin,intShift,cst0,this]
@[go_sem] theorem zuB:unP .neg (.i k a)=some (.i k (k.wrap (0-a))):=_root_.id rfl
@[go_sem] theorem zuC (v:Bool):unP .not (.b v)=some (.b (!v)):=_root_.id rfl
@[go_sem] theorem zuZ (v w:Bool):eqTP 0 (.b v) (.b w)=some (v==w):=_root_.id rfl
@[go_sem] theorem zaG (x y:List UInt8) (h:x.length+y.length≤9223372036854775807):binP .add (.s x) (.s y)=some (.s (x++y)):=by simp[binP,strBin,cst0,h]
@[go_sem] theorem zpT (x y:List UInt8):binP .eql (.s x) (.s y)=some (.b (decide (x=y))):=by
 have:(x==y)=decide (x=y):=by by_cases h:x=y<;>simp[h]
 simp[binP,strBin,cst0,this]
@[go_sem] theorem zpU (x y:List UInt8):binP .neq (.s x) (.s y)=some (.b (decide (x≠y))):=by
 have:(x==y)=decide (x=y):=by by_cases h:x=y<;>simp[h]
 simp[binP,strBin,cst0,this]
@[go_sem] theorem ztK (mx:Bool) (x:PV):mmP mx x []=some x:=_root_.id rfl
@[go_sem] theorem ztI (l:List PV):mmP true (.i k a) (.i k b::l)=mmP true (.i k (if b>a then b else a)) l:=by simp[mmP]
@[go_sem] theorem ztJ (l:List PV):mmP false (.i k a) (.i k b::l)=mmP false (.i k (if b<a then b else a)) l:=by simp[mmP]
end
theorem wqa {x:Int} (h1 : -9223372036854775808≤x) (h2:x≤9223372036854775807):IntKind.wrap .i64 x=x:=by
 simp only[IntKind.wrap,IntKind.signed,IntKind.bits,Bool.true_and,decide_eq_true_eq,ge_iff_le]
 omega
theorem wqe {x:Int} (h1 : -2147483648≤x) (h2:x≤2147483647):IntKind.wrap .i32 x=x:=by
 simp only[IntKind.wrap,IntKind.signed,IntKind.bits,Bool.true_and,decide_eq_true_eq,ge_iff_le]
 omega
theorem wqb {x:Int} (h1:0≤x) (h2:x≤18446744073709551615):IntKind.wrap .u64 x=x:=by
 simp only[IntKind.wrap,IntKind.signed,IntKind.bits,Bool.false_and,Bool.false_eq_true,if_false]
 omega
theorem wqc {x:Int} (h1:0≤x) (h2:x≤4294967295):IntKind.wrap .u32 x=x:=by
 simp only[IntKind.wrap,IntKind.signed,IntKind.bits,Bool.false_and,Bool.false_eq_true,if_false]
 omega
theorem wqd {x:Int} (h1:0≤x) (h2:x≤255):IntKind.wrap .u8 x=x:=by
 simp only[IntKind.wrap,IntKind.signed,IntKind.bits,Bool.false_and,Bool.false_eq_true,if_false]
 omega
theorem wqq:(∀{x:Int},-9223372036854775808≤x→x≤9223372036854775807→IntKind.wrap .i64 x=x)∧(∀{x:Int},0≤x→x≤18446744073709551615→IntKind.wrap .u64 x=x)∧(∀{x:Int},0≤x→x≤4294967295→IntKind.wrap .u32 x=x)∧(∀{x:Int},0≤x→x≤255→IntKind.wrap .u8 x=x)∧(∀{x:Int},-2147483648≤x→x≤2147483647→IntKind.wrap .i32 x=x):=⟨wqa,wqb,wqc,wqd,wqe⟩
theorem lqq:(∀{α:Type} (a b c:List α),a++b++c=a++(b++c))∧(∀{α:Type} (a:α) (b c:List α),a::b++c=a::(b++c))∧(∀{α:Type} (a:List α),[]++a=a):=⟨List.append_assoc,fun _ _ _=>List.cons_append,List.nil_append⟩
theorem zd1 (x:Int):IntKind.wrap .u64 x=x%18446744073709551616:=by simp[IntKind.wrap,IntKind.signed,IntKind.bits]
theorem zd0 (x:Int):IntKind.wrap .u32 x=x%4294967296:=by simp[IntKind.wrap,IntKind.signed,IntKind.bits]
theorem zbb (n:Nat):IntKind.wrap .u32 (n:Int)=((n%4294967296:Nat):Int):=by rw[zd0];rfl
@[go_sem] theorem zfP (k':IntKind) (x:Nat) (s:Int) (h:0≤s) (h2:s≤64):binP .shr (.i .u64 (x:Int)) (.i k' s)=some (.i .u64 ((x/2^s.toNat:Nat):Int)):=by
 rw[zfO _ _ _ _ h,show min s.toNat (IntKind.bits .u64)=s.toNat by simp only[IntKind.bits];omega,show ((2:Int)^s.toNat)=((2^s.toNat:Nat):Int) by simp,zfv]
@[go_sem] theorem zfN (k':IntKind) (x:Nat) (s:Int) (h:0≤s) (h2:s≤64):binP .shl (.i .u64 (x:Int)) (.i k' s)=some (.i .u64 (IntKind.wrap .u64 ((x*2^s.toNat:Nat):Int))):=by
 rw[zhK _ _ _ _ h,show min s.toNat (IntKind.bits .u64)=s.toNat by simp only[IntKind.bits];omega,show ((x*2^s.toNat:Nat):Int)=(x:Int)*2^s.toNat by simp]
theorem zbS (a b:Nat):((a:Int)+(b:Int))=((a+b:Nat):Int):=by omega
theorem zbe (a:Nat):((a:Int)+1)=((a+1:Nat):Int):=by omega
theorem zbT (a b:Nat):((a:Int)*(b:Int))=((a*b:Nat):Int):=by simp
theorem zax {a:Nat} (h:1≤a):((a:Int)-1)=((a-1:Nat):Int):=by omega
theorem zbr (a b:Nat):((a:Int).tdiv (b:Int))=((a/b:Nat):Int):=rfl
theorem zcj (a b:Nat):((a:Int).tmod (b:Int))=((a%b:Nat):Int):=rfl
theorem zbk (a b:Nat):((a:Int)<(b:Int))=(a<b):=by simp
theorem zcI (a b:Nat):((a:Int)≤(b:Int))=(a≤b):=by simp
@[go_sem] theorem zra:fzD=12:=_root_.id rfl
@[go_sem] theorem zrb (g:PV→Option (PV×List Nat)):fzL g []=some ([],[]):=_root_.id rfl
def fzC:Option (PV×List Nat)→Option (List PV×List Nat)→Option (List PV×List Nat)
 | some r,some q=>some (r.1::q.1,r.2++q.2)
 | _,_=>none
@[go_sem] theorem zp4 (v:PV) (a:List Nat) (l:List PV) (b:List Nat):fzC (some (v,a)) (some (l,b))=some (v::l,a++b):=_root_.id rfl
@[go_sem] theorem zkj (g:PV→Option (PV×List Nat)) (v:PV) (l:List PV):fzL g (v::l)=fzC (g v) (fzL g l):=by
 simp only[fzL]
 cases g v<;>cases fzL g l<;>rfl
section
variable (M:PM) (d:Nat)
@[go_sem] theorem zvu (v:Bool):fz M (d+1) (.b v)=some (.b v,[]):=_root_.id rfl
@[go_sem] theorem zvv (k:IntKind) (n:Int):fz M (d+1) (.i k n)=some (.i k n,[]):=_root_.id rfl
@[go_sem] theorem zvx (l:List UInt8):fz M (d+1) (.s l)=some (.s l,[]):=_root_.id rfl
@[go_sem] theorem zu4 (l:List PV):fz M (d+1) (.fp l)=some (.fp l,[]):=_root_.id rfl
@[go_sem] theorem ztB (l:List PV):fz M (d+1) (.lst l)=some (.lst l,[]):=_root_.id rfl
@[go_sem] theorem zu6:fz M (d+1) .nl=some (.lst [],[]):=_root_.id rfl
def fzM (f:List PV→PV):Option (List PV×List Nat)→Option (PV×List Nat)
 | some r=>some (f r.1,r.2)
 | none=>none
@[go_sem] theorem zp5 (f:List PV→PV) (l:List PV) (ns:List Nat):fzM f (some (l,ns))=some (f l,ns):=_root_.id rfl
theorem zfZ (f:List PV→PV) (o:Option (List PV×List Nat)):(o.map fun(r:List PV×List Nat)=>(f r.1,r.2))=fzM f o:=by cases o<;>rfl
@[go_sem] theorem zu3 (f:Nat) (l:List PV):fz M (d+1) (.fn f l)=fzM (PV.fn f) (fzL (fz M d) l):=zfZ (PV.fn f) _
@[go_sem] theorem zu2 (l:List PV):fz M (d+1) (.ag l)=fzM PV.ag (fzL (fz M d) l):=zfZ PV.ag _
@[go_sem] theorem zu8 (l:List PV):fz M (d+1) (.tu l)=fzM PV.tu (fzL (fz M d) l):=zfZ PV.tu _
def fzP (n off:Nat) (g:PV→Option (PV×List Nat)):Option PB→Option (PV×List Nat)
 | some b=>(fzL g b.v).map fun(r:List PV×List Nat)=>(PV.fp (r.1.drop off),n::r.2)
 | none=>none
@[go_sem] theorem zp6 (n off:Nat) (g:PV→Option (PV×List Nat)) (b:PB):fzP n off g (some b)=(fzL g b.v).map fun(r:List PV×List Nat)=>(PV.fp (r.1.drop off),n::r.2):=_root_.id rfl
@[go_sem] theorem zvw (n off:Nat):fz M (d+1) (.p n off)=fzP n off (fz M d) (PM.blk M n):=by
 show (match PM.blk M n with|some b=>(fzL (fz M d) b.v).map fun(r:List PV×List Nat)=>(PV.fp (r.1.drop off),n::r.2)|none=>none)=_
 cases PM.blk M n<;>rfl
def fzS (n off len z:Nat) (g:PV→Option (PV×List Nat)):Option PB→Option (PV×List Nat)
 | some b=>if off+len*z≤b.v.length then (fzL g ((b.v.drop off).take (len*z))).map fun r=>(.lst (group z len r.1),n::r.2) else none
 | none=>none
@[go_sem] theorem zp7 (n off len z:Nat) (g:PV→Option (PV×List Nat)) (b:PB):fzS n off len z g (some b)=if off+len*z≤b.v.length then (fzL g ((b.v.drop off).take (len*z))).map fun r=>(.lst (group z len r.1),n::r.2) else none:=_root_.id rfl
@[go_sem] theorem zu7 (n off len c z:Nat):fz M (d+1) (.sl n off len c z)=if len=0 then some (.lst [],[]) else if z=0 then none else fzS n off len z (fz M d) (PM.blk M n):=by
 simp only[fz,PM.rd]
 split
 ·rfl
 ·split
  ·rfl
  ·cases PM.blk M n with
   | none=>rfl
   | some b =>
    simp only[fzS]
    split
    ·rename_i l hl
     split at hl
     ·cases hl;rename_i h;rw[if_pos h]
     ·cases hl
    ·rename_i hl
     split at hl
     ·cases hl
     ·rename_i h;rw[if_neg h]
theorem zii (g:PV→Option (PV×List Nat)):∀(l:List PV),(∀x∈l,g x=some (x,[]))→fzL g l=some (l,[])
 | [],_=>rfl
 | x::l,h=>by
  rw[zkj,h x (List.mem_cons_self ..),zii g l fun y hy=>h y (List.mem_cons_of_mem _ hy)];rfl
theorem zkk {α:Type} (f:α→PV) (hf:∀a,fz M (d+1) (f a)=some (f a,[])) (l:List α):fzL (fz M (d+1)) (l.map f)=some (l.map f,[]) :=
 zii _ _ fun x hx=>by
  obtain⟨a,_,rfl⟩:=List.mem_map.1 hx
  exact hf a
theorem zcH:∀(k:Nat) (l:List PV),l.length=k→group 1 k l=l
 | 0,l,h=>by rw[List.length_eq_zero_iff.1 h];rfl
 | k+1,[],h=>by simp at h
 | k+1,x::l,h=>by
  simp only[group,if_true,List.headD_cons,List.drop_succ_cons,List.drop_zero]
  rw[zcH k l (by simpa using h)]
end
@[go_sem] theorem zs1 (M:PM):roM M []=M:=_root_.id rfl
@[go_sem] theorem zqj (M:PM) (n:Nat) (ns:List Nat):roM M (n::ns)=roM (roB M n) ns:=_root_.id rfl
def roC (M:PM) (n:Nat):Option PB→PM
 | some b=>M.set n (some ⟨b.v,false,b.ver⟩)
 | none=>M
@[go_sem] theorem zqi (M:PM) (n:Nat) (b:PB):roC M n (some b)=M.set n (some ⟨b.v,false,b.ver⟩):=_root_.id rfl
@[go_sem] theorem zs0 (M:PM) (n:Nat):roB M n=roC M n (PM.blk M n):=by
 unfold roB
 cases PM.blk M n<;>rfl
noncomputable def pclA (E:PEnv) (f:Nat) (M:PM):Option (List PV×List Nat)→Option (PV×PM)
 | some r=>(pf E f r.1).map fun v=>(v,roM M r.2)
 | none=>none
def pclV (M:PM) (ns:List Nat):Option PV→Option (PV×PM)
 | some v=>some (v,roM M ns)
 | none=>none
@[go_sem] theorem zpm (M:PM) (ns:List Nat) (v:PV):pclV M ns (some v)=some (v,roM M ns):=_root_.id rfl
@[go_sem] theorem zjg (f:Nat) (M:PM) (l:List PV) (ns:List Nat):pclA E f M (some (l,ns))=pclV M ns (pf E f l):=by
 show (pf E f l).map _=_
 cases pf E f l<;>rfl
theorem zac {f:Nat} (args:List PV) (M:PM) (h:E.pure f=true):pcl E f args M=pclA E f M (fzL (fz M fzD) args):=by
 cases hz:fzL (fz M fzD) args with
 | none =>
  show pcl E f args M=none
  cases hc:pcl E f args M with
  | none=>rfl
  | some r =>
   obtain⟨k,e⟩:=zeq hc
   cases k with
   | zero=>simp[pvF] at e
   | succ k =>
    simp only[pvF,h,if_true,hz] at e
    split at e<;>cases e
 | some r =>
  obtain⟨a',ns⟩:=r
  rw[zjg]
  cases hp:pf E f a' with
  | some v=>exact zg1 h hz hp
  | none =>
   show pcl E f args M=none
   cases hc:pcl E f args M with
   | none=>rfl
   | some r =>
    obtain⟨k,e⟩:=zeq hc
    cases k with
    | zero=>simp[pvF] at e
    | succ k =>
     simp only[pvF,h,if_true,hz] at e
     split at e
     ·rename_i xf hx
      split at e
      ·rename_i w ho
       rw[zpq hx ho] at hp;cases hp
      ·rename_i ho
       split at e
       ·rename_i w M2 hb
        simp only[Option.map_eq_some_iff] at e
        obtain⟨q,q1,_⟩:=e
        have:=zpp hx (zcJ (znx k) (Nat.le_refl k) hb) (v:=q.1) (by rw[q1];rfl) ho
        rw[this] at hp;cases hp
       ·cases e
     ·rename_i o ho
      split at e
      ·rename_i w M2 hb
       simp only[Option.map_eq_some_iff] at e
       obtain⟨q,q1,_⟩:=e
       have:=zdS ho hb (v:=q.1) (by rw[q1];rfl)
       rw[this] at hp;cases hp
      ·cases e
     ·cases e
end Go.Eng
namespace Go.Eng
attribute [go_sem] List.length_cons List.length_nil List.cons_append List.nil_append List.append_nil List.map_cons List.map_nil List.set_cons_zero List.set_cons_succ List.getElem?_cons_zero List.getElem?_cons_succ List.drop_zero List.drop_succ_cons List.take_succ_cons List.take_zero List.replicate_succ List.replicate_zero List.flatten_cons List.flatten_nil
attribute [go_sem] Option.map_some Option.map_none Option.bind_some and_true true_and and_self and_false false_and Bool.and_self Bool.and_true Bool.true_and Bool.not_true Bool.not_false decide_true decide_false not_true_eq_false not_false_eq_true ne_eq if_true if_false Bool.false_eq_true Nat.zero_add Nat.add_zero Nat.zero_mul Nat.one_mul Nat.mul_one Nat.lt_add_one Nat.le_refl Option.isSome_none Option.isSome_some beq_self_eq_true Bool.true_eq_false false_implies
@[go_sem] theorem zvy (n:Nat):((0:Int)≤(n:Int))=True:=by simp
@[go_sem] theorem zvz (n:Nat):((n:Int)<0)=False:=by simp
@[go_sem] theorem zs7 (l:List PV):psplice l 0 []=l:=by simp[psplice]
@[go_sem] theorem zql (a c:PV) (l cs:List PV):psplice (a::l) 0 (c::cs)=c::psplice l 0 cs:=by simp[psplice]
@[go_sem] theorem zqm (a:PV) (l cs:List PV) (n:Nat):psplice (a::l) (n+1) cs=a::psplice l n cs:=by
 simp only[psplice,List.take_succ_cons,List.cons_append]
 rw[show n+1+cs.length=(n+cs.length)+1 by omega,List.drop_succ_cons]
theorem zco (M:PM) (k:IntKind) (c:Int) (by_ n:Nat) (h1:n*by_≤281474976710656) (h2:n≤9223372036854775807) (h0:n≠0):mslP M [.i k c] by_ (some n) (some n)=some (.sl M.length 0 n n 1,M++[some ⟨List.replicate n (.i k c),true,0⟩]):=zkv M _ by_ n h1 h2 rfl h0
theorem zdK (M:PM) (k:IntKind) (c:Int) (by_:Nat):mslP M [.i k c] by_ (some 0) (some 0)=some (.nl,M):=ziF M _ by_ rfl
@[go_sem] theorem ztt:(true==false)=false:=by decide
@[go_sem] theorem zts:(false==true)=false:=by decide
theorem zao {E:PEnv} {F:PFin} {a b:XC} (hab:a=b) {ks:List KI} {α:Type} (I:α→PFr→PM→Prop) (m:α→Nat)
  (step:∀x fr M,I x fr M→(∀y fr' M',m y<m x→I y fr' M'→WK E F (.loop a) ks fr' M')→WK E F b (.loop a::ks) fr M) (x:α) {fr:PFr} {M:PM} (h:I x fr M):WK E F (.loop a) ks fr M:=by
 have key:∀n x fr M,m x<n→I x fr M→WK E F (.loop a) ks fr M:=by
  intro n
  induction n with
  | zero=>intro x fr M hm;omega
  | succ n ih =>
   intro x fr M hm h
   have:=step x fr M h fun y fr' M' hy h'=>ih y fr' M' (by omega) h'
   rw[←hab] at this
   exact zcy this
 exact key (m x+1) x fr M (by omega) h
end Go.Eng
namespace Go.Eng
def dtx:Nat→Nat→List UInt8
 | 0,_=>[]
 | i+1,v=>UInt8.ofNat (48+v/10^i%10)::dtx i v
@[simp] theorem zbw:∀(i v:Nat),(dtx i v).length=i
 | 0,_=>rfl
 | i+1,v=>by simp[dtx,zbw i v]
theorem zh7:∃f:Nat→Nat,∀v n,f v≤n↔v<10^n:=by
 have key:∀v:Nat,∃m,∀n,m≤n↔v<10^n:=by
  intro v
  induction v using Nat.strongRecOn with
  | _ v ih =>
   by_cases h:v=0
   ·subst h;exact⟨0,fun n=>⟨fun _=>Nat.pow_pos (by decide),fun _=>Nat.zero_le _⟩⟩
   ·obtain⟨m,hm⟩:=ih (v/10) (Nat.div_lt_self (by omega) (by decide))
    refine⟨m+1,fun n=>?_⟩
    cases n with
    | zero=>simp;omega
    | succ n =>
     rw[Nat.pow_succ,←Nat.div_lt_iff_lt_mul (by decide),←hm n];omega
 exact⟨fun v=>Classical.choose (key v),fun v=>Classical.choose_spec (key v)⟩
noncomputable def dlen:Nat→Nat:=Classical.choose zh7
theorem zan {v n:Nat}:dlen v≤n↔v<10^n:=Classical.choose_spec zh7 v n
theorem zbv (v:Nat):v<10^dlen v:=zan.1 (Nat.le_refl _)
noncomputable def dec (v:Nat):List UInt8:=if v=0 then [48] else dtx (dlen v) v
noncomputable def decI (n:Int):List UInt8:=if n<0 then 45::dec n.natAbs else dec n.natAbs
def val:List Nat→Nat
 | []=>0
 | x::xs=>x+4294967296*val xs
def Fits64 (n:Int):Prop := -9223372036854775808≤n∧n≤9223372036854775807
instance (n:Int):Decidable (Fits64 n):=inferInstanceAs (Decidable (_∧_))
def wordsP:List PV→Option (List Nat)
 | []=>some []
 | .i .u32 n::l=>if 0≤n∧n<4294967296 then (wordsP l).map (n.toNat :: ·) else none
 | _=>none
def wordsA:List AV→Option (List Nat)
 | []=>some []
 | .i .u32 n::l=>if 0≤n∧n<4294967296 then (wordsA l).map (n.toNat :: ·) else none
 | _=>none
noncomputable def wtx (neg:Bool) (xs:List Nat):Option (List UInt8) :=
 if xs.length≤512∧xs.getLast?≠some 0∧(neg=true→xs≠[]) then some (decI (if neg then-(val xs:Int) else (val xs:Int))) else none
def isDig (c:UInt8):Bool:=decide (48≤c.toNat∧c.toNat≤57)
def tv:List UInt8→Nat
 | []=>0
 | c::l=>(c.toNat-48)*10^l.length+tv l
def idxB:List UInt8→UInt8→Int
 | [],_ => -1
 | b::l,c=>if b==c then 0 else if idxB l c == -1 then-1 else idxB l c+1
noncomputable def libA (f:Nat):List AV→Option AV
 | [.i .i64 n]=>if f=50∧Fits64 n then some (.s (decI n)) else none
 | [.s l,.i .i64 c]=>if f=51∧0≤c∧c≤1000∧l.length≤1000 then some (.s (List.replicate c.toNat l).flatten) else none
 | [.s l,.s cs]=>if f=130∧l.length≤9223372036854775807∧cs.length<4294967281∧(cs.all fun b=>decide (b.toNat<128))=true then some (.s (((l.reverse.dropWhile (cs.contains ·)).reverse).dropWhile (cs.contains ·))) else if f=222 then (match cs with|[c]=>some (.i .i64 (idxB l c))|_=>none) else none
 | [.s l]=>if f=131∧l≠[]∧l.length≤18∧l.all isDig=true then some (.tu [.i .i64 (tv l:Nat),.inil]) else none
 | _=>none
noncomputable def libP (f:Nat):List PV→Option PV
 | [.i .i64 n]=>if f=50∧Fits64 n then some (.s (decI n)) else none
 | [.s l,.i .i64 c]=>if f=51∧0≤c∧c≤1000∧l.length≤1000 then some (.s (List.replicate c.toNat l).flatten) else none
 | [.s l,.s cs]=>if f=130∧l.length≤9223372036854775807∧cs.length<4294967281∧(cs.all fun b=>decide (b.toNat<128))=true then some (.s (((l.reverse.dropWhile (cs.contains ·)).reverse).dropWhile (cs.contains ·))) else if f=222 then (match cs with|[c]=>some (.i .i64 (idxB l c))|_=>none) else none
 | [.s l]=>if f=131∧l≠[]∧l.length≤18∧l.all isDig=true then some (.tu [.i .i64 (tv l:Nat),.inil]) else none
 | _=>none
noncomputable def txtA:List AV→Hp→Option (List UInt8)
 | [.ag [.b neg,.sl n off len _ z]],h=>if len=0 then wtx neg [] else if z=1 then ((h.rd n off len).bind wordsA).bind (wtx neg) else none
 | [.ag [.b neg,.sn]],_=>wtx neg []
 | [.ag [.b neg,.se]],_=>wtx neg []
 | [.ag [.b neg,.e0]],_=>wtx neg []
 | _,_=>none
noncomputable def txtP:List PV→Option (List UInt8)
 | [.ag [.b neg,.lst ws]]=>(wordsP ws).bind (wtx neg)
 | [.ag [.b neg,.nl]]=>wtx neg []
 | _=>none
def powT:List AV:=(List.range 20).map fun i=>.i .u64 ((10^i:Nat):Int)
open Classical in
noncomputable def orcA (f:Nat) (args:List AV) (h:Hp):Option (AV×Hp) :=
 if f=33 then (if ∃b,h.m 0=some b∧b.v=powT then (txtA args h).map fun l=>(.s l,h) else none)
 else if f=50∧¬(∃b,h.m 0=some b∧b.v=powT) then none
 else (libA f args).map fun v=>(v,h)
noncomputable def orcP (f:Nat) (args:List PV) (M:PM):Option (PV×PM) :=
 if f=33 then (txtP args).map fun l=>(.s l,M) else (libP f args).map fun v=>(v,M)
def ovrP (f:Nat) (args:List PV):Option PV :=
 if f=211 then (match args with|[.lst []]=>some (.lst [])|_=>none) else none
def globT (g:Nat):Option (List AV):=if g=0 then some powT else none
def monoI:List Int:=[0,0,0,1,0,0,0,1,0,0,0,1,2,0,0,1,1,0,1,0,1,0,2,0,0,1,1,0,0,2,3,0,0,2,1,0,2,0,1,1,2,0,1,1,1,1,0,2,0,3,0,0,2,1,0,1,2,0,0,3]
def chooI:List Int:=[1,0,0,0,1,1,0,0,1,2,1,0,1,3,3,1]
def monoT:List AV:=monoI.map fun n=>.i .i64 n
def chooT:List AV:=chooI.map fun n=>.i .i64 n
def downT:List AV:=[.fn 296 [],.fn 297 []]
def upT:List AV:=[.fn 298 [],.fn 299 []]
def globG:Nat→Option (List AV)
 | 0=>some powT
 | 1=>some monoT
 | 2=>some chooT
 | 3=>some downT
 | 4=>some upT
 | _=>none
theorem zjT {h:Hp} {D:Nat→Prop}:∀{ws:List PV} {cs:Nat→AV} {xs:List Nat},wordsP ws=some xs→(∀i (hi:i<ws.length),V h D [] ws[i] (cs i))→wordsA ((List.range ws.length).map cs)=some xs
 | [],cs,xs,e,_=>by simp[wordsP] at e;subst e;rfl
 | w::ws,cs,xs,e,hv=>by
  unfold wordsP at e
  split at e
  ·rename_i he;cases he
  ·rename_i n l he
   cases he
   split at e
   ·rename_i hn
    simp only[Option.map_eq_some_iff] at e
    obtain⟨ys,e1,rfl⟩:=e
    have h0:=hv 0 (by simp)
    have hc:cs 0=.i .u32 n:=by
     have h0':V h D [] (.i .u32 n) (cs 0):=h0
     generalize cs 0=c at h0'
     cases h0';rfl
    have ih:=zjT (cs:=fun i=>cs (i+1)) e1 fun i hi=>hv (i+1) (by simp;omega)
    rw[List.length_cons,List.range_succ_eq_map,List.map_cons,List.map_map,hc]
    unfold wordsA
    rw[if_pos hn]
    have:(List.range ws.length).map (cs ∘ Nat.succ)=(List.range ws.length).map fun i=>cs (i+1):=rfl
    rw[this,ih];rfl
   ·cases e
  ·cases e
theorem zet:∀{ws:List PV} {xs:List Nat},wordsP ws=some xs→flat ws=ws∧∀x∈ws,x.cells.length=1
 | [],xs,e=>⟨rfl,fun x hx=>by cases hx⟩
 | w::ws,xs,e=>by
  unfold wordsP at e
  split at e
  ·rename_i he;cases he
  ·rename_i n l he
   cases he
   split at e
   ·simp only[Option.map_eq_some_iff] at e
    obtain⟨ys,e1,rfl⟩:=e
    obtain⟨p1,p2⟩:=zet e1
    refine⟨?_,fun x hx=>?_⟩
    ·show (PV.cells (.i .u32 n))++flat ws=_
     rw[p1];rfl
    ·rcases List.mem_cons.1 hx with rfl|hx
     ·rfl
     ·exact p2 x hx
   ·cases e
  ·cases e
theorem zta {h:Hp} {D:Nat→Prop} {r:List Nat} {args:List PV} {asq:List AV} {l:List UInt8} (e:txtP args=some l) (hv:VL h D r args asq):txtA asq h=some l:=by
 unfold txtP at e
 split at e
 ·rename_i neg ws
  obtain⟨a,as',rfl,h1,h2⟩:=hv.uncons
  rw[h2.of_nil]
  cases h1 with
  | @ag _ _ l' hn hv' =>
   have hv':VL h D r [.b neg,.lst ws] l':=⟨hn,hv'⟩
   obtain⟨b,l2,rfl,h3,h4⟩:=hv'.uncons
   obtain⟨c,l3,rfl,h5,h6⟩:=h4.uncons
   rw[h6.of_nil]
   cases h3
   cases hw:wordsP ws with
   | none=>rw[hw] at e;cases e
   | some xs =>
    rw[hw] at e
    simp only[Option.bind_some] at e
    cases h5 with
    | @lst _ _ m off cap z blk cs e1 d hs hz0 hz hcap hc hv2 =>
     obtain⟨f1,f2⟩:=zet hw
     show (if ws.length=0 then wtx neg [] else if z=1 then ((h.rd m off ws.length).bind wordsA).bind (wtx neg) else none)=_
     by_cases h0:ws.length=0
     ·have:ws=[]:=List.eq_nil_of_length_eq_zero h0
      subst this
      simp[wordsP] at hw;subst hw
      simpa using e
     ·have hz1:z=1:=by
       cases ws with
       | nil=>simp at h0
       | cons x ws=>rw[←hz x (by simp),f2 x (by simp)]
      subst hz1
      rw[if_neg h0,if_pos rfl]
      have hlen:(flat ws).length=ws.length:=by rw[f1]
      have hrd:h.rd m off ws.length=some ((List.range ws.length).map cs):=by
       have hlast:off+ws.length≤blk.v.length:=by
        have:=hc (ws.length-1) (by omega)
        have:=zaI this
        omega
       simp only[Hp.rd,e1,if_pos hlast]
       congr 1
       apply List.ext_getElem?
       intro i
       rw[List.getElem?_take,List.getElem?_map,List.getElem?_drop]
       by_cases hi:i<ws.length
       ·rw[if_pos hi,hc i (by omega),List.getElem?_range hi];rfl
       ·rw[if_neg hi,List.getElem?_eq_none (by simp;omega)];rfl
      have hv3:∀i (hi:i<ws.length),V h D [] ws[i] (cs i):=fun i hi=>by
       have:=hv2 i (by omega)
       simp only[f1] at this
       exact this
      rw[hrd,Option.bind_some,zjT hw hv3,Option.bind_some]
      exact e
    | lst0 m off cap z =>
     simp[wordsP] at hw;subst hw
     simpa [txtA] using e
    | lsn=>simp[wordsP] at hw;subst hw;exact e
    | lse=>simp[wordsP] at hw;subst hw;exact e
    | le0=>simp[wordsP] at hw;subst hw;exact e
 ·rename_i neg
  obtain⟨a,as',rfl,h1,h2⟩:=hv.uncons
  rw[h2.of_nil]
  cases h1 with
  | @ag _ _ l' hn hv' =>
   have hv':VL h D r [.b neg,.nl] l':=⟨hn,hv'⟩
   obtain⟨b,l2,rfl,h3,h4⟩:=hv'.uncons
   obtain⟨c,l3,rfl,h5,h6⟩:=h4.uncons
   rw[h6.of_nil]
   cases h3
   cases h5 with
   | nln=>exact e
   | nle=>exact e
 ·cases e
theorem zro {h:Hp} {D:Nat→Prop} {r:List Nat} {f:Nat} {args:List PV} {asq:List AV} {v:PV} (e:libP f args=some v) (hv:VL h D r args asq):∃a,libA f asq=some a∧V h D r v a:=by
 have one:∀{x:PV} {l:List PV} {asq:List AV},VL h D r (x::l) asq→(∃k n,x=.i k n)∨(∃s,x=.s s)→∃as',VL h D r l as'∧((∃k n,x=.i k n∧asq=.i k n::as')∨(∃s,x=.s s∧asq=.s s::as')):=by
  intro x l asq hx ho
  obtain⟨w,ws,rfl,a,b⟩:=hx.uncons
  refine⟨ws,b,?_⟩
  rcases ho with⟨k,n,rfl⟩|⟨s,rfl⟩
  ·cases a;exact .inl ⟨k,n,rfl,rfl⟩
  ·cases a;exact .inr ⟨s,rfl,rfl⟩
 unfold libP at e
 split at e
 ·rename_i n
  obtain⟨as',a,q⟩:=one hv (.inl ⟨_,n,rfl⟩)
  rcases q with⟨k',n',e1,rfl⟩|⟨s,e1,_⟩
  ·cases e1
   rw[a.of_nil]
   split at e
   ·rename_i hc;cases e;exact⟨_,by simp only[libA,if_pos hc],.s _⟩
   ·cases e
  ·cases e1
 ·rename_i l c
  obtain⟨as',a,q⟩:=one hv (.inr ⟨l,rfl⟩)
  rcases q with⟨k',n',e1,_⟩|⟨s,e1,rfl⟩
  ·cases e1
  cases e1
  obtain⟨as2,a2,q⟩:=one a (.inl ⟨_,c,rfl⟩)
  rcases q with⟨k',n',e1,rfl⟩|⟨s,e1,_⟩
  ·cases e1
   rw[a2.of_nil]
   split at e
   ·rename_i hc;cases e;exact⟨_,by simp only[libA,if_pos hc],.s _⟩
   ·cases e
  ·cases e1
 ·rename_i l c
  obtain⟨as',a,q⟩:=one hv (.inr ⟨l,rfl⟩)
  rcases q with⟨k',n',e1,_⟩|⟨s,e1,rfl⟩
  ·cases e1
  cases e1
  obtain⟨as2,a2,q⟩:=one a (.inr ⟨c,rfl⟩)
  rcases q with⟨k',n',e1,_⟩|⟨s,e1,rfl⟩
  ·cases e1
  ·cases e1
   rw[a2.of_nil]
   split at e
   ·rename_i hc;cases e;exact⟨_,by simp only[libA,if_pos hc],.s _⟩
   ·rename_i hc
    split at e
    ·rename_i hf
     split at e
     ·cases e;exact⟨_,by simp only[libA,if_neg hc,if_pos hf],.i _ _⟩
     ·cases e
    ·cases e
 ·rename_i l
  obtain⟨as',a,q⟩:=one hv (.inr ⟨l,rfl⟩)
  rcases q with⟨k',n',e1,_⟩|⟨s,e1,rfl⟩
  ·cases e1
  ·cases e1
   rw[a.of_nil]
   split at e
   ·rename_i hc;cases e;exact⟨_,by simp only[libA,if_pos hc],(fun q:VL h D r [.i .i64 _,.inil] [.i .i64 _,.inil]=>.tu q.1 q.2) (VL.cons (.i _ _) (VL.cons .inil .nil))⟩
   ·cases e
 ·cases e
theorem zo5 {Gl:Nat→Option (List AV)} (g0:Gl 0=some powT) {Db:Nat→Prop} {r:List Nat} {M:PM} {h:Hp} {f:Nat} {args:List PV} {asq:List AV} {v:PV} {M':PM} (e:orcP f args M=some (v,M')) (I:PInv Gl Db r M h) (hv:VL h (DD Db r M) r args asq):PRes Gl Db r M h v M' (orcA f asq h):=by
 have hg:∃b,h.m 0=some b∧b.v=powT:=by
  obtain⟨b,p1,p2,_⟩:=I.glob 0 powT g0
  exact⟨b,p1,p2.1⟩
 unfold orcP at e
 split at e
 ·rename_i h33
  simp only[Option.map_eq_some_iff] at e
  obtain⟨l,e1,e2⟩:=e
  cases e2
  exact⟨_,h,r,by unfold orcA;rw[if_pos h33,if_pos hg,zta e1 hv];rfl,I,.refl _ _ _,.s l⟩
 ·rename_i h33
  simp only[Option.map_eq_some_iff] at e
  obtain⟨l,e1,e2⟩:=e
  cases e2
  obtain⟨a,a1,a2⟩:=zro e1 hv
  exact⟨a,h,r,by unfold orcA;rw[if_neg h33,if_neg (fun q=>q.2 hg),a1];rfl,I,.refl _ _ _,a2⟩
end Go.Eng
namespace Go.Eng
set_option maxRecDepth 100000
def oM (d s:Nat) (a:List Nat):XOper:=⟨some d,.mov (.t s),a,none⟩
def oP (d:Nat) (o:XO) (a:List Nat):XOper:=⟨some d,o,a,none⟩
def oT (d:Nat) (o:XO) (a:List Nat) (g:Nat):XOper:=⟨some d,o,a,some (g,true)⟩
def oF (d:Nat) (o:XO) (a:List Nat) (g:Nat):XOper:=⟨some d,o,a,some (g,false)⟩
def oN (o:XO) (a:List Nat):XOper:=⟨none,o,a,none⟩
@[go_sem] theorem zvB (d s:Nat) (a:List Nat):oM d s a=⟨some d,.mov (.t s),a,none⟩:=_root_.id rfl
@[go_sem] theorem zvD (d:Nat) (o:XO) (a:List Nat):oP d o a=⟨some d,o,a,none⟩:=_root_.id rfl
@[go_sem] theorem zvE (d:Nat) (o:XO) (a:List Nat) (g:Nat):oT d o a g=⟨some d,o,a,some (g,true)⟩:=_root_.id rfl
@[go_sem] theorem zvA (d:Nat) (o:XO) (a:List Nat) (g:Nat):oF d o a g=⟨some d,o,a,some (g,false)⟩:=_root_.id rfl
@[go_sem] theorem zvC (o:XO) (a:List Nat):oN o a=⟨none,o,a,none⟩:=_root_.id rfl
def xs_8253e7:List UInt8:=[91,49,52,51,49,54,53,53,55,54,53,47,52,50,57,52,57,54,55,50,57,54,44,32,55,49,53,56,50,55,56,56,51,47,50,49,52,55,52,56,51,54,52,56,93]
def xs_1d3e63:List UInt8:=[0,1,2,2,3,3,3,3,4,4,4,4,4,4,4,4,5,5,5,5,5,5,5,5,5,5,5,5,5,5,5,5,6,6,6,6,6,6,6,6,6,6,6,6,6,6,6,6,6,6,6,6,6,6,6,6,6,6,6,6,6,6,6,6,7,7,7,7,7,7,7,7,7,7,7,7,7,7,7,7,7,7,7,7,7,7,7,7,7,7,7,7,7,7,7,7,7,7,7,7,7,7,7,7,7,7,7,7,7,7,7,7,7,7,7,7,7,7,7,7,7,7,7,7,7,7,7,7,8,8,8,8,8,8,8,8,8,8,8,8,8,8,8,8,8,8,8,8,8,8,8,8,8,8,8,8,8,8,8,8,8,8,8,8,8,8,8,8,8,8,8,8,8,8,8,8,8,8,8,8,8,8,8,8,8,8,8,8,8,8,8,8,8,8,8,8,8,8,8,8,8,8,8,8,8,8,8,8,8,8,8,8,8,8,8,8,8,8,8,8,8,8,8,8,8,8,8,8,8,8,8,8,8,8,8,8,8,8,8,8,8,8,8,8,8,8,8,8,8,8,8,8,8,8,8,8]
def zwV:XC:=.seq (.seq (.reg [oM 112 18 [],oP 113 (.bin .lss (.t 112) (.k (.i .i64 4))) [0],oM 114 113 [1],oT 115 (.mov (.t 15)) [2] 114,oT 116 (.bin .eql (.t 115) (.k (.i .i64 0))) [3,2] 114,oP 117 (.pick (.t 114) (.t 116) (.k (.b false))) [2,4]]) (.cond (.t 117) .skip (.exit 2))) (.seq (.block 3 (.seq (.drw [oM 121 13 [],oM 122 16 [],oM 123 18 [],oP 124 (.bin .rem (.t 123) (.k (.i .i64 2))) [2],oP 125 (.ixs 4 (.t 122) (.t 124)) [1,3],oP 126 (.load true 4 (.t 125)) [4],oM 127 17 [],oM 128 18 [],oP 129 (.bin .quo (.t 128) (.k (.i .i64 2))) [7],oP 130 (.ixs 4 (.t 127) (.t 129)) [6,8],oP 131 (.load true 4 (.t 130)) [9],oP 132 (.call 515 [.t 121,.t 126,.t 131]) [0,5,10],oM 120 132 [11],oP 133 (.ext (.t 120) 0) [12],oP 134 (.ext (.t 120) 1) [12],oP 19 (.new [.b false,.sn,.b false,.sn]) [],oN (.store 4 (.t 19) (.t 133)) [15,13,11,0,1,2,3,4,5,6,7,8,9,10,11,12,13,15],oM 20 134 [14,16,0,1,2,3,4,5,6,7,8,9,10,11,12,13,14,15,16]] []) (.seq (.reg [oM 135 20 [],oM 15 135 [0,0]]) (.seq (.seq (.reg [oP 136 (.load true 4 (.t 19)) [],oP 137 (.load true 4 (.t 9)) [],oP 138 (.call 11 [.t 136,.t 137]) [0,1],oP 139 (.bin .lss (.t 138) (.k (.i .i64 0))) [2]]) (.cond (.t 139) (.reg [oP 140 (.load true 4 (.t 19)) [],oN (.store 4 (.t 9) (.t 140)) [0,0]]) .skip)) (.seq (.reg [oP 141 (.load true 4 (.t 19)) [],oP 142 (.load true 4 (.t 10)) [],oP 143 (.call 11 [.t 141,.t 142]) [0,1],oP 144 (.bin .gtr (.t 143) (.k (.i .i64 0))) [2]]) (.cond (.t 144) (.reg [oP 145 (.load true 4 (.t 19)) [],oN (.store 4 (.t 10) (.t 145)) [0,0]]) .skip)))))) (.reg [oM 118 18 [],oP 119 (.bin .add (.t 118) (.k (.i .i64 1))) [0],oM 18 119 [1,0,1]]))
def zw0:XC:=.seq (.seq (.reg [oM 67 13 [],oP 68 (.bin .lss (.t 67) (.k (.i .i64 4))) [0]]) (.cond (.t 68) .skip (.exit 0))) (.seq (.block 1 (.seq (.drw [oM 72 13 [],oP 73 (.load true 4 (.t 11)) [],oP 74 (.call 503 [.t 73]) [1],oP 75 (.load true 4 (.t 12)) [],oP 76 (.call 503 [.t 75]) [3,2],oP 77 (.call 506 [.t 72,.t 74,.t 76]) [0,2,4,4],oM 71 77 [5],oP 78 (.ext (.t 71) 0) [6],oP 79 (.ext (.t 71) 1) [6],oP 14 (.new [.b false,.sn,.b false,.sn]) [],oN (.store 4 (.t 14) (.t 78)) [9,7,5,0,1,2,3,4,5,6,7,9],oM 15 79 [8,10,0,1,2,3,4,5,6,7,8,9,10]] [(3,2)]) (.seq (.drw [oP 80 (.fad 0 (.t 11)) [],oP 81 (.load true 2 (.t 80)) [0],oP 82 (.call 373 [.t 81]) [1],oP 83 (.call 500 [.t 82]) [2,2],oP 84 (.fad 2 (.t 11)) [],oP 85 (.load true 2 (.t 84)) [4],oP 86 (.call 373 [.t 85]) [5,3],oP 87 (.call 500 [.t 86]) [6,6],oP 88 (.bsl 2 4 [.b false,.sn,.b false,.sn] [(0,(4,.t 83)),(4,(4,.t 87))]) [3,7],oM 16 88 [8,7,0,1,2,3,4,5,6,7,8]] [(5,2),(5,3)]) (.seq (.drw [oP 89 (.fad 0 (.t 12)) [],oP 90 (.load true 2 (.t 89)) [0],oP 91 (.call 373 [.t 90]) [1],oP 92 (.call 500 [.t 91]) [2,2],oP 93 (.fad 2 (.t 12)) [],oP 94 (.load true 2 (.t 93)) [4],oP 95 (.call 373 [.t 94]) [5,3],oP 96 (.call 500 [.t 95]) [6,6],oP 97 (.bsl 2 4 [.b false,.sn,.b false,.sn] [(0,(4,.t 92)),(4,(4,.t 96))]) [3,7],oM 17 97 [8,7,0,1,2,3,4,5,6,7,8]] [(5,2),(5,3)]) (.seq (.seq (.reg [oM 98 15 [],oP 99 (.bin .neq (.t 98) (.k (.i .i64 0))) [0]]) (.cond (.t 99) (.exit 1) .skip)) (.seq (.drw [oM 101 13 [],oM 102 16 [],oP 103 (.ixs 4 (.t 102) (.k (.i .i64 0))) [1],oP 104 (.load true 4 (.t 103)) [2],oM 105 17 [],oP 106 (.ixs 4 (.t 105) (.k (.i .i64 0))) [4],oP 107 (.load true 4 (.t 106)) [5],oP 108 (.call 515 [.t 101,.t 104,.t 107]) [0,3,6],oM 100 108 [7],oP 109 (.ext (.t 100) 0) [8],oP 110 (.ext (.t 100) 1) [8],oN (.store 4 (.t 9) (.t 109)) [9,7,0,1,2,3,4,5,6,7,8,9],oM 15 110 [10,11,0,1,2,3,4,5,6,7,8,9,10,11]] []) (.seq (.reg [oP 111 (.load true 4 (.t 9)) [],oN (.store 4 (.t 10) (.t 111)) [0,0]]) (.seq (.seq (.reg [oP 18 (.mov (.k (.i .i64 1))) []]) (.block 2 (.loop zwV))) (.seq (.reg [oM 146 15 [],oP 147 (.bin .eql (.t 146) (.k (.i .i64 0))) [0],oM 148 147 [1],oT 149 (.load true 4 (.t 14)) [2] 148,oT 150 (.load true 4 (.t 9)) [2] 148,oT 151 (.load true 4 (.t 10)) [2] 148,oT 152 (.load true 4 (.t 7)) [2] 148,oT 153 (.call 514 [.t 149,.t 150,.t 151,.t 152]) [3,4,5,6,2,2] 148,oT 154 (.un .not (.t 153)) [7,2] 148,oP 155 (.pick (.t 148) (.t 154) (.k (.b false))) [2,8]]) (.cond (.t 155) (.seq (.reg [oP 2 (.mov (.k (.b false))) []]) .ret) .skip)))))))))) (.reg [oM 69 13 [],oP 70 (.bin .add (.t 69) (.k (.i .i64 1))) [0],oM 13 70 [1,0,1]]))
def zwt:XF:=⟨157,.seq (.reg [oP 2 (.mov (.k (.b false))) []]) (.seq (.reg [oM 22 0 [],oP 23 (.call 344 [.t 22,.k (.i .i64 0)]) [0],oM 21 23 [1],oP 24 (.ext (.t 21) 0) [2],oP 25 (.ext (.t 21) 1) [2],oP 3 (.new [.b false,.sn,.b false,.sn]) [],oP 4 (.new [.b false,.sn,.b false,.sn]) [],oN (.store 4 (.t 3) (.t 24)) [5,3,1,0,1,2,3,5,6],oN (.store 4 (.t 4) (.t 25)) [6,4,7,0,1,2,3,4,5,6,7]]) (.seq (.drw [oP 27 (.load true 4 (.t 3)) [],oP 28 (.call 500 [.t 27]) [0],oP 29 (.load true 4 (.t 4)) [],oP 30 (.call 500 [.t 29]) [2,1],oP 31 (.call 278 [.t 28,.t 30]) [1,3,3],oM 26 31 [4],oP 32 (.ext (.t 26) 0) [5],oP 33 (.ext (.t 26) 1) [5],oP 5 (.new [.b false,.sn,.b false,.sn]) [],oN (.store 4 (.t 5) (.t 32)) [8,6,4,0,1,2,3,4,5,6,8],oM 6 33 [7,9,0,1,2,3,4,5,6,7,8,9]] [(2,1)]) (.seq (.reg [oP 35 (.call 34 [.k (.i .i64 1)]) [],oP 36 (.call 34 [.k (.i .i64 4294967296)]) [0],oP 37 (.call 24 [.t 35,.t 36]) [0,1,1],oM 34 37 [2],oP 38 (.ext (.t 34) 0) [3],oP 39 (.ext (.t 34) 1) [3],oP 7 (.new [.b false,.sn,.b false,.sn]) [],oN (.store 4 (.t 7) (.t 38)) [6,4,2,0,1,2,3,4,6],oM 8 39 [5,7,0,1,2,3,4,5,6,7]]) (.seq (.seq (.reg [oM 40 8 [],oP 41 (.bin .neq (.t 40) (.k (.i .i64 0))) [0]]) (.cond (.t 41) (.seq (.reg [oP 2 (.mov (.k (.b false))) []]) .ret) .skip)) (.seq (.seq (.reg [oM 42 6 [],oP 43 (.bin .neq (.t 42) (.k (.i .i64 0))) [0]]) (.cond (.t 43) (.seq (.reg [oP 44 (.call 502 []) [],oM 2 44 [0,0,0]]) .ret) .skip)) (.seq (.reg [oP 45 (.load true 4 (.t 3)) [],oP 46 (.call 500 [.t 45]) [0],oP 9 (.new [.b false,.sn,.b false,.sn]) [],oN (.store 4 (.t 9) (.t 46)) [2,1,1,0,1,2]]) (.seq (.reg [oP 47 (.load true 4 (.t 4)) [],oP 48 (.call 500 [.t 47]) [0],oP 10 (.new [.b false,.sn,.b false,.sn]) [],oN (.store 4 (.t 10) (.t 48)) [2,1,1,0,1,2]]) (.seq (.seq (.reg [oP 49 (.load true 4 (.t 9)) [],oP 50 (.load true 4 (.t 10)) [],oP 51 (.call 11 [.t 49,.t 50]) [0,1],oP 52 (.bin .gtr (.t 51) (.k (.i .i64 0))) [2]]) (.cond (.t 52) (.seq (.reg [oP 53 (.load true 4 (.t 4)) [],oP 54 (.call 500 [.t 53]) [0],oN (.store 4 (.t 9) (.t 54)) [1,1,0,1]]) (.reg [oP 55 (.load true 4 (.t 3)) [],oP 56 (.call 500 [.t 55]) [0],oN (.store 4 (.t 10) (.t 56)) [1,1,0,1]])) .skip)) (.seq (.seq (.reg [oP 57 (.load true 4 (.t 5)) [],oP 58 (.load true 4 (.t 9)) [],oP 59 (.load true 4 (.t 10)) [],oP 60 (.load true 4 (.t 7)) [],oP 61 (.call 514 [.t 57,.t 58,.t 59,.t 60]) [0,1,2,3],oP 62 (.un .not (.t 61)) [4]]) (.cond (.t 62) (.seq (.reg [oP 2 (.mov (.k (.b false))) []]) .ret) .skip)) (.seq (.reg [oM 63 0 [],oP 64 (.call 446 [.t 63,.k (.i .i64 5)]) [0],oP 11 (.new [.b false,.sn,.b false,.sn]) [],oN (.store 4 (.t 11) (.t 64)) [2,1,1,0,1,2]]) (.seq (.reg [oM 65 0 [],oP 66 (.call 446 [.t 65,.k (.i .i64 10)]) [0],oP 12 (.new [.b false,.sn,.b false,.sn]) [],oN (.store 4 (.t 12) (.t 66)) [2,1,1,0,1,2]]) (.seq (.seq (.reg [oP 13 (.mov (.k (.i .i64 2))) []]) (.block 0 (.loop zw0))) (.seq (.reg [oP 156 (.call 502 []) [],oM 2 156 [0,0,0]]) .ret))))))))))))),[.tmp 2]⟩
def zv7:XF:=⟨36,.seq (.reg [oP 4 (.new [.b false,.sn,.b false,.sn]) [],oP 5 (.new [.b false,.sn,.b false,.sn]) []]) (.seq (.reg [oM 8 0 [],oM 9 1 [],oP 10 (.call 13 [.t 8,.t 9,.k (.i .i64 1000000)]) [0,1],oM 6 10 [2,2,0,1,2]]) (.seq (.seq (.reg [oM 11 6 [],oP 12 (.bin .rem (.t 11) (.k (.i .i64 4))) [0],oP 13 (.bin .eql (.t 12) (.k (.i .i64 0))) [1]]) (.cond (.t 13) (.seq (.reg [oM 14 0 [],oM 15 1 [],oP 16 (.bin .add (.t 15) (.k (.i .i64 1))) [1],oP 17 (.call 187 [.t 14,.t 16]) [0,2],oM 18 0 [],oM 19 1 [],oP 20 (.bin .add (.t 19) (.k (.i .i64 3))) [5],oP 21 (.call 187 [.t 18,.t 20]) [4,6,3],oN (.store 4 (.t 4) (.t 17)) [3,7,0,1,2,3],oN (.store 4 (.t 5) (.t 21)) [7,8,0,1,2,3,4,5,6,7,8]]) .ret) .skip)) (.seq (.reg [oM 22 0 [],oM 23 1 [],oP 24 (.bin .add (.t 23) (.k (.i .i64 1))) [1],oP 25 (.call 361 [.t 22,.t 24]) [0,2],oP 7 (.new [.b false,.sn,.b false,.sn]) [],oN (.store 4 (.t 7) (.t 25)) [4,3,3,0,1,2,3,4]]) (.seq (.seq (.reg [oM 26 6 [],oP 27 (.bin .rem (.t 26) (.k (.i .i64 4))) [0],oP 28 (.bin .eql (.t 27) (.k (.i .i64 1))) [1]]) (.cond (.t 28) (.seq (.drw [oP 29 (.load true 4 (.t 7)) [],oP 30 (.load true 4 (.t 7)) [],oN (.store 4 (.t 4) (.t 29)) [0,0],oN (.store 4 (.t 5) (.t 30)) [1,2,0,1,2]] [(1,2)]) .ret) .skip)) (.seq (.drw [oP 31 (.load true 4 (.t 7)) [],oM 32 0 [],oM 33 1 [],oP 34 (.bin .add (.t 33) (.k (.i .i64 2))) [2],oP 35 (.call 361 [.t 32,.t 34]) [1,3],oN (.store 4 (.t 4) (.t 31)) [0,4,0],oN (.store 4 (.t 5) (.t 35)) [4,5,0,1,2,3,4,5]] [(0,4)]) .ret))))),[.cell 4 true 4,.cell 5 true 4]⟩
def zv3:XF:=⟨28,.seq (.reg [oP 2 (.box (.t 0)) [],oP 3 (.box (.t 1)) [],oP 4 (.new [.b false,.sn,.b false,.sn]) [],oP 5 (.mov (.k (.i .i64 0))) []]) (.seq (.seq (.reg [oP 6 (.load true 4 (.t 2)) [],oP 7 (.load true 4 (.t 3)) [],oP 8 (.call 11 [.t 6,.t 7]) [0,1],oP 9 (.bin .gtr (.t 8) (.k (.i .i64 0))) [2]]) (.cond (.t 9) (.reg [oP 10 (.load true 4 (.t 3)) [],oP 11 (.load true 4 (.t 2)) [],oN (.store 4 (.t 2) (.t 10)) [0,0,1],oN (.store 4 (.t 3) (.t 11)) [1,2,0,1,2]]) .skip)) (.seq (.seq (.reg [oP 12 (.load true 4 (.t 2)) [],oP 13 (.call 289 [.t 12]) [0],oM 14 13 [1,1],oF 15 (.load true 4 (.t 3)) [2] 14,oF 16 (.call 289 [.t 15]) [3,2,2] 14,oP 17 (.pick (.t 14) (.k (.b true)) (.t 16)) [2,4]]) (.cond (.t 17) (.seq (.reg [oP 18 (.build [.b false,.sn,.b false,.sn] []) [],oN (.store 4 (.t 4) (.t 18)) [0,0],oP 5 (.mov (.k (.i .i64 4))) [1,0,1]]) .ret) .skip)) (.seq (.drw [oP 19 (.load true 2 (.k (.p 3 0))) [],oP 20 (.load true 4 (.t 2)) [],oP 21 (.call 291 [.t 19,.t 20]) [0,1],oP 22 (.load true 2 (.k (.p 4 0))) [],oP 23 (.load true 4 (.t 3)) [],oP 24 (.call 291 [.t 22,.t 23]) [3,4,2],oP 25 (.call 290 [.t 21,.t 24]) [2,5,5],oP 26 (.ext (.t 25) 0) [6],oP 27 (.ext (.t 25) 1) [6],oN (.store 4 (.t 4) (.t 26)) [7,6,0,1,2,3,4,5,6,7,8],oM 5 27 [8,9,0,1,2,3,4,5,6,7,8,9]] [(3,2),(4,2)]) .ret))),[.cell 4 true 4,.tmp 5]⟩
def zwY:XF:=⟨12,.seq (.reg [oP 1 (.box (.t 0)) [],oP 2 (.new [.b false,.sn,.b false,.sn]) []]) (.seq (.reg [oP 6 (.load true 4 (.t 1)) [],oP 7 (.call 196 [.t 6]) [0],oP 8 (.call 197 [.t 7]) [1,1],oM 5 8 [2],oP 9 (.ext (.t 5) 0) [3],oP 10 (.ext (.t 5) 1) [3],oP 3 (.new [.b false,.sn,.b false,.sn]) [],oN (.store 4 (.t 3) (.t 9)) [6,4,2,0,1,2,3,4,6],oM 4 10 [5,7,0,1,2,3,4,5,6,7]]) (.seq (.reg [oP 11 (.load true 4 (.t 3)) [],oN (.store 4 (.t 2) (.t 11)) [0,0]]) .ret)),[.cell 2 true 4]⟩
def zvL:XF:=⟨44,.seq (.reg [oP 2 (.box (.t 0)) [],oP 3 (.box (.t 1)) [],oP 4 (.new [.b false,.sn,.b false,.sn]) [],oP 5 (.mov (.k (.i .i64 0))) []]) (.seq (.seq (.reg [oP 10 (.load true 4 (.t 2)) [],oP 11 (.load true 4 (.t 3)) [],oP 12 (.call 200 [.t 10,.t 11]) [0,1],oP 13 (.bin .gtr (.t 12) (.k (.i .i64 0))) [2]]) (.cond (.t 13) (.seq (.reg [oP 14 (.load true 4 (.t 2)) [],oP 6 (.new [.b false,.sn,.b false,.sn]) [],oN (.store 4 (.t 6) (.t 14)) [1,0,0,1]]) (.seq (.reg [oP 15 (.load true 4 (.t 3)) [],oN (.store 4 (.t 2) (.t 15)) [0,0]]) (.reg [oP 16 (.load true 4 (.t 6)) [],oN (.store 4 (.t 3) (.t 16)) [0,0]]))) .skip)) (.seq (.reg [oP 17 (.load true 4 (.t 2)) [],oP 18 (.call 362 [.t 17]) [0],oM 7 18 [1,1,0,1]]) (.seq (.reg [oP 19 (.load true 4 (.t 3)) [],oP 20 (.call 362 [.t 19]) [0],oM 8 20 [1,1,0,1]]) (.seq (.seq (.reg [oM 21 7 [],oM 22 21 [0],oF 23 (.mov (.t 8)) [1] 22,oP 24 (.pick (.t 22) (.k (.b true)) (.t 23)) [1,2]]) (.cond (.t 24) (.seq (.reg [oP 25 (.build [.b false,.sn,.b false,.sn] []) [],oN (.store 4 (.t 4) (.t 25)) [0,0],oP 5 (.mov (.k (.i .i64 4))) [1,0,1]]) .ret) .skip)) (.seq (.reg [oP 26 (.call 128 [.k (.i .i64 32)]) [],oP 9 (.new [.b false,.sn]) [],oN (.store 2 (.t 9) (.t 26)) [1,0,0,0,1]]) (.seq (.drw [oP 27 (.fad 0 (.t 2)) [],oP 28 (.load true 2 (.t 27)) [0],oP 29 (.load true 2 (.t 9)) [],oP 30 (.call 118 [.t 28,.t 29]) [1,2],oP 31 (.fad 2 (.t 2)) [],oP 32 (.load true 2 (.t 31)) [4],oP 33 (.call 364 [.t 30,.t 32]) [3,5,3],oP 34 (.fad 0 (.t 3)) [],oP 35 (.load true 2 (.t 34)) [7],oP 36 (.load true 2 (.t 9)) [],oP 37 (.call 118 [.t 35,.t 36]) [8,9,6],oP 38 (.fad 2 (.t 3)) [],oP 39 (.load true 2 (.t 38)) [11],oP 40 (.call 365 [.t 37,.t 39]) [10,12,10],oP 41 (.call 363 [.t 33,.t 40]) [6,13,13],oP 42 (.ext (.t 41) 0) [14],oP 43 (.ext (.t 41) 1) [14],oN (.store 4 (.t 4) (.t 42)) [15,14,0,1,2,3,4,5,6,7,8,9,10,11,12,13,14,15,16],oM 5 43 [16,17,0,1,2,3,4,5,6,7,8,9,10,11,12,13,14,15,16,17]] [(5,3),(8,3),(8,6),(9,3),(9,6),(12,3),(12,6),(12,10)]) .ret)))))),[.cell 4 true 4,.tmp 5]⟩
def zxS:XF:=⟨9,.seq (.reg [oP 1 (.box (.t 0)) [],oP 2 (.new [.b false,.sn,.b false,.sn]) [],oP 3 (.mov (.k (.i .i64 0))) []]) (.seq (.reg [oP 4 (.load true 4 (.t 1)) [],oP 5 (.load true 4 (.t 1)) [],oP 6 (.call 278 [.t 4,.t 5]) [0,1],oP 7 (.ext (.t 6) 0) [2],oP 8 (.ext (.t 6) 1) [2],oN (.store 4 (.t 2) (.t 7)) [3,2,0,1,2,3,4],oM 3 8 [4,5,0,1,2,3,4,5]]) .ret),[.cell 2 true 4,.tmp 3]⟩
def zxC:XF:=⟨12,.seq (.reg [oP 1 (.box (.t 0)) [],oP 2 (.new [.b false,.sn,.b false,.sn]) []]) (.seq (.drw [oP 6 (.load true 2 (.t 1)) [],oP 7 (.call 128 [.k (.i .i64 32)]) [],oP 8 (.call 182 [.t 6,.t 7]) [0,1,1],oM 5 8 [2],oP 9 (.ext (.t 5) 0) [3],oP 10 (.ext (.t 5) 1) [3],oP 3 (.new [.b false,.sn,.b false,.sn]) [],oN (.store 4 (.t 3) (.t 9)) [6,4,2,0,1,2,3,4,6],oM 4 10 [5,7,0,1,2,3,4,5,6,7]] [(0,1)]) (.seq (.reg [oP 11 (.load true 4 (.t 3)) [],oN (.store 4 (.t 2) (.t 11)) [0,0]]) .ret)),[.cell 2 true 4]⟩
def zvV:XF:=⟨6,.seq (.reg [oP 1 (.box (.t 0)) [],oP 2 (.new [.b false,.sn,.b false,.sn]) []]) (.seq (.reg [oP 3 (.fad 0 (.t 1)) [],oP 4 (.load true 2 (.t 3)) [0],oP 5 (.call 292 [.t 4]) [1],oN (.store 4 (.t 2) (.t 5)) [2,2,0,1,2]]) .ret),[.cell 2 true 4]⟩
def zvU:XF:=⟨6,.seq (.reg [oP 1 (.box (.t 0)) [],oP 2 (.new [.b false,.sn,.b false,.sn]) []]) (.seq (.reg [oP 3 (.fad 2 (.t 1)) [],oP 4 (.load true 2 (.t 3)) [0],oP 5 (.call 292 [.t 4]) [1],oN (.store 4 (.t 2) (.t 5)) [2,2,0,1,2]]) .ret),[.cell 2 true 4]⟩
def zvR:XF:=⟨18,.seq (.reg [oP 1 (.box (.t 0)) [],oP 2 (.mov (.k (.s []))) []]) (.seq (.seq (.reg [oP 3 (.fad 2 (.t 1)) [],oP 4 (.load true 2 (.t 3)) [0],oP 5 (.call 31 [.t 4]) [1],oP 6 (.bin .eql (.t 5) (.k (.i .i64 0))) [2]]) (.cond (.t 6) (.seq (.reg [oP 7 (.fad 0 (.t 1)) [],oP 8 (.load true 2 (.t 7)) [0],oP 9 (.call 33 [.t 8]) [1],oM 2 9 [2,2,0,1,2]]) .ret) .skip)) (.seq (.drw [oP 10 (.fad 0 (.t 1)) [],oP 11 (.load true 2 (.t 10)) [0],oP 12 (.call 33 [.t 11]) [1],oP 13 (.bin .add (.t 12) (.k (.s [47]))) [2],oP 14 (.load true 4 (.t 1)) [],oP 15 (.call 19 [.t 14]) [4,2],oP 16 (.call 33 [.t 15]) [5,5],oP 17 (.bin .add (.t 13) (.t 16)) [3,6],oM 2 17 [7,6,0,1,2,3,4,5,6,7]] [(4,2)]) .ret)),[.tmp 2]⟩
def zxK:XF:=⟨18,.seq (.reg [oP 1 (.box (.t 0)) [],oP 2 (.mov (.k (.s []))) []]) (.seq (.reg [oP 4 (.fad 2 (.t 1)) [],oP 5 (.load true 2 (.t 4)) [0],oP 6 (.call 107 [.t 5]) [1],oM 3 6 [2,2,0,1,2]]) (.seq (.seq (.reg [oM 7 3 [],oP 8 (.bin .eql (.t 7) (.k (.s [49]))) [0]]) (.cond (.t 8) (.seq (.reg [oP 9 (.fad 0 (.t 1)) [],oP 10 (.load true 2 (.t 9)) [0],oP 11 (.call 107 [.t 10]) [1],oM 2 11 [2,2,0,1,2]]) .ret) .skip)) (.seq (.reg [oP 12 (.fad 0 (.t 1)) [],oP 13 (.load true 2 (.t 12)) [0],oP 14 (.call 107 [.t 13]) [1],oP 15 (.bin .add (.t 14) (.k (.s [47]))) [2],oM 16 3 [],oP 17 (.bin .add (.t 15) (.t 16)) [3,4],oM 2 17 [5,2,0,1,2,3,4,5]]) .ret))),[.tmp 2]⟩
def zxd:XF:=⟨106,.seq (.reg [oP 0 (.mov (.k (.b false))) []]) (.seq (.reg [oP 24 (.call 17 [.k (.i .i64 1),.k (.i .i64 1)]) [],oM 23 24 [0],oP 25 (.ext (.t 23) 0) [1],oP 26 (.ext (.t 23) 1) [1],oP 1 (.new [.b false,.sn,.b false,.sn]) [],oN (.store 4 (.t 1) (.t 25)) [4,2,0,0,1,2,4],oM 2 26 [3,5,0,1,2,3,4,5]]) (.seq (.reg [oP 28 (.call 17 [.k (.i .i64 1),.k (.i .i64 3)]) [],oM 27 28 [0],oP 29 (.ext (.t 27) 0) [1],oP 30 (.ext (.t 27) 1) [1],oP 3 (.new [.b false,.sn,.b false,.sn]) [],oN (.store 4 (.t 3) (.t 29)) [4,2,0,0,1,2,4],oM 4 30 [3,5,0,1,2,3,4,5]]) (.seq (.reg [oP 32 (.call 17 [.k (.i .i64 1),.k (.i .i64 2)]) [],oM 31 32 [0],oP 33 (.ext (.t 31) 0) [1],oP 34 (.ext (.t 31) 1) [1],oP 5 (.new [.b false,.sn,.b false,.sn]) [],oN (.store 4 (.t 5) (.t 33)) [4,2,0,0,1,2,4],oM 6 34 [3,5,0,1,2,3,4,5]]) (.seq (.reg [oP 36 (.call 17 [.k (.i .i64 2),.k (.i .i64 1)]) [],oM 35 36 [0],oP 37 (.ext (.t 35) 0) [1],oP 38 (.ext (.t 35) 1) [1],oP 7 (.new [.b false,.sn,.b false,.sn]) [],oN (.store 4 (.t 7) (.t 37)) [4,2,0,0,1,2,4],oM 8 38 [3,5,0,1,2,3,4,5]]) (.seq (.reg [oP 40 (.call 17 [.k (.i .i64 4),.k (.i .i64 1)]) [],oM 39 40 [0],oP 41 (.ext (.t 39) 0) [1],oP 42 (.ext (.t 39) 1) [1],oP 9 (.new [.b false,.sn,.b false,.sn]) [],oN (.store 4 (.t 9) (.t 41)) [4,2,0,0,1,2,4],oM 10 42 [3,5,0,1,2,3,4,5]]) (.seq (.reg [oP 44 (.call 17 [.k (.i .i64 8),.k (.i .i64 1)]) [],oM 43 44 [0],oP 45 (.ext (.t 43) 0) [1],oP 46 (.ext (.t 43) 1) [1],oP 11 (.new [.b false,.sn,.b false,.sn]) [],oN (.store 4 (.t 11) (.t 45)) [4,2,0,0,1,2,4],oM 12 46 [3,5,0,1,2,3,4,5]]) (.seq (.reg [oP 48 (.load true 4 (.t 5)) [],oP 49 (.call 377 [.t 48]) [0],oM 47 49 [1],oP 50 (.ext (.t 47) 0) [2],oP 51 (.ext (.t 47) 1) [2],oP 13 (.new [.b false,.sn,.b false,.sn]) [],oN (.store 4 (.t 13) (.t 50)) [5,3,1,0,1,2,3,5],oM 14 51 [4,6,0,1,2,3,4,5,6]]) (.seq (.reg [oP 53 (.load true 4 (.t 3)) [],oP 54 (.call 377 [.t 53]) [0],oM 52 54 [1],oP 55 (.ext (.t 52) 0) [2],oP 56 (.ext (.t 52) 1) [2],oP 15 (.new [.b false,.sn,.b false,.sn]) [],oN (.store 4 (.t 15) (.t 55)) [5,3,1,0,1,2,3,5],oM 16 56 [4,6,0,1,2,3,4,5,6]]) (.seq (.reg [oP 58 (.load true 4 (.t 1)) [],oP 59 (.load true 4 (.t 7)) [],oP 60 (.call 278 [.t 58,.t 59]) [0,1],oM 57 60 [2],oP 61 (.ext (.t 57) 0) [3],oP 62 (.ext (.t 57) 1) [3],oP 17 (.new [.b false,.sn,.b false,.sn]) [],oN (.store 4 (.t 17) (.t 61)) [6,4,2,0,1,2,3,4,6],oM 18 62 [5,7,0,1,2,3,4,5,6,7]]) (.seq (.reg [oP 64 (.load true 4 (.t 11)) [],oP 65 (.load true 4 (.t 9)) [],oP 66 (.call 278 [.t 64,.t 65]) [0,1],oM 63 66 [2],oP 67 (.ext (.t 63) 0) [3],oP 68 (.ext (.t 63) 1) [3],oP 19 (.new [.b false,.sn,.b false,.sn]) [],oN (.store 4 (.t 19) (.t 67)) [6,4,2,0,1,2,3,4,6],oM 20 68 [5,7,0,1,2,3,4,5,6,7]]) (.seq (.reg [oP 70 (.load true 4 (.t 17)) [],oP 71 (.load true 4 (.t 19)) [],oP 72 (.call 367 [.t 70,.t 71]) [0,1],oM 69 72 [2],oP 73 (.ext (.t 69) 0) [3],oP 74 (.ext (.t 69) 1) [3],oP 21 (.new [.b false,.sn,.b false,.sn]) [],oN (.store 4 (.t 21) (.t 73)) [6,4,2,0,1,2,3,4,6],oM 22 74 [5,7,0,1,2,3,4,5,6,7]]) (.seq (.seq (.reg [oM 75 14 [],oP 76 (.bin .neq (.t 75) (.k (.i .i64 0))) [0],oM 77 76 [1],oF 78 (.mov (.t 16)) [2] 77,oF 79 (.bin .neq (.t 78) (.k (.i .i64 0))) [3,2] 77,oP 80 (.pick (.t 77) (.k (.b true)) (.t 79)) [2,4],oM 81 80 [5,2],oF 82 (.mov (.t 18)) [6] 81,oF 83 (.bin .neq (.t 82) (.k (.i .i64 0))) [7,6] 81,oP 84 (.pick (.t 81) (.k (.b true)) (.t 83)) [6,8],oM 85 84 [9,6],oF 86 (.mov (.t 20)) [10] 85,oF 87 (.bin .neq (.t 86) (.k (.i .i64 0))) [11,10] 85,oP 88 (.pick (.t 85) (.k (.b true)) (.t 87)) [10,12],oM 89 88 [13,10],oF 90 (.mov (.t 22)) [14] 89,oF 91 (.bin .neq (.t 90) (.k (.i .i64 0))) [15,14] 89,oP 92 (.pick (.t 89) (.k (.b true)) (.t 91)) [14,16]]) (.cond (.t 92) (.seq (.reg [oP 0 (.mov (.k (.b false))) []]) .ret) .skip)) (.seq (.reg [oP 93 (.load true 4 (.t 13)) [],oP 94 (.call 348 [.t 93]) [0],oP 95 (.bin .eql (.t 94) (.k (.s [91,49,47,50,44,32,49,47,50,93]))) [1],oM 96 95 [2,1],oT 97 (.load true 4 (.t 15)) [3] 96,oT 98 (.call 348 [.t 97]) [4,3,3] 96,oT 99 (.bin .eql (.t 98) (.k (.s xs_8253e7))) [5,3] 96,oP 100 (.pick (.t 96) (.t 99) (.k (.b false))) [3,6],oM 101 100 [7,5],oT 102 (.load true 4 (.t 21)) [8] 101,oT 103 (.call 348 [.t 102]) [9,8,8] 101,oT 104 (.bin .eql (.t 103) (.k (.s [91,49,47,56,44,32,49,47,50,93]))) [10,8] 101,oP 105 (.pick (.t 101) (.t 104) (.k (.b false))) [8,11],oM 0 105 [12,10,0,1,2,3,4,5,6,7,8,9,10,11,12]]) .ret))))))))))))),[.tmp 0]⟩
def zwy:XF:=⟨18,.seq (.reg [oP 1 (.box (.t 0)) [],oP 2 (.new [.b false,.sn,.b false,.sn]) []]) (.seq (.drw [oP 6 (.fad 0 (.t 1)) [],oP 7 (.load true 2 (.t 6)) [0],oP 8 (.call 373 [.t 7]) [1],oP 9 (.call 500 [.t 8]) [2,2],oP 10 (.fad 2 (.t 1)) [],oP 11 (.load true 2 (.t 10)) [4],oP 12 (.call 373 [.t 11]) [5,3],oP 13 (.call 500 [.t 12]) [6,6],oP 14 (.call 278 [.t 9,.t 13]) [3,7,7],oM 5 14 [8],oP 15 (.ext (.t 5) 0) [9],oP 16 (.ext (.t 5) 1) [9],oP 3 (.new [.b false,.sn,.b false,.sn]) [],oN (.store 4 (.t 3) (.t 15)) [12,10,8,0,1,2,3,4,5,6,7,8,9,10,12],oM 4 16 [11,13,0,1,2,3,4,5,6,7,8,9,10,11,12,13]] [(5,2),(5,3)]) (.seq (.reg [oP 17 (.load true 4 (.t 3)) [],oN (.store 4 (.t 2) (.t 17)) [0,0]]) .ret)),[.cell 2 true 4]⟩
def zwF:XF:=⟨22,.seq (.reg [oP 4 (.new [.b false,.sn,.b false,.sn]) []]) (.seq (.reg [oM 10 0 [],oM 11 1 [],oP 12 (.call 344 [.t 10,.t 11]) [0,1],oM 9 12 [2],oP 13 (.ext (.t 9) 0) [3],oP 14 (.ext (.t 9) 1) [3],oP 5 (.new [.b false,.sn,.b false,.sn]) [],oP 6 (.new [.b false,.sn,.b false,.sn]) [],oN (.store 4 (.t 5) (.t 13)) [6,4,2,0,1,2,3,4,6,7],oN (.store 4 (.t 6) (.t 14)) [7,5,8,0,1,2,3,4,5,6,7,8]]) (.seq (.reg [oP 16 (.load true 4 (.t 5)) [],oP 17 (.load true 4 (.t 6)) [],oP 18 (.call 345 [.t 16,.t 17]) [0,1],oM 15 18 [2],oP 19 (.ext (.t 15) 0) [3],oP 20 (.ext (.t 15) 1) [3],oP 7 (.new [.b false,.sn,.b false,.sn]) [],oN (.store 4 (.t 7) (.t 19)) [6,4,2,0,1,2,3,4,6],oM 8 20 [5,7,0,1,2,3,4,5,6,7]]) (.seq (.reg [oP 21 (.load true 4 (.t 7)) [],oN (.store 4 (.t 4) (.t 21)) [0,0]]) .ret))),[.cell 4 true 4]⟩
def zvQ:XF:=⟨13,.seq (.reg [oP 1 (.box (.t 0)) [],oP 2 (.mov (.k (.s []))) []]) (.seq (.drw [oP 3 (.load true 4 (.t 1)) [],oP 4 (.call 280 [.t 3]) [0],oP 5 (.call 16 [.t 4]) [1,1],oP 6 (.bin .add (.k (.s [91])) (.t 5)) [2],oP 7 (.bin .add (.t 6) (.k (.s [44,32]))) [3],oP 8 (.load true 4 (.t 1)) [],oP 9 (.call 281 [.t 8]) [5,2],oP 10 (.call 16 [.t 9]) [6,6],oP 11 (.bin .add (.t 7) (.t 10)) [4,7],oP 12 (.bin .add (.t 11) (.k (.s [93]))) [8],oM 2 12 [9,7,0,1,2,3,4,5,6,7,8,9]] [(5,1),(5,2)]) .ret),[.tmp 2]⟩
def zxa:XF:=⟨25,.seq (.reg [oP 4 (.new [.b false,.sn,.b false,.sn]) []]) (.seq (.reg [oM 8 0 [],oM 9 1 [],oP 10 (.call 13 [.t 8,.t 9,.k (.i .i64 1000000)]) [0,1],oM 5 10 [2,2,0,1,2]]) (.seq (.reg [oM 12 5 [],oP 13 (.bin .rem (.t 12) (.k (.i .i64 401))) [0],oP 14 (.bin .sub (.t 13) (.k (.i .i64 200))) [1],oP 15 (.call 114 [.t 14]) [2],oM 16 5 [],oP 17 (.bin .quo (.t 16) (.k (.i .i64 401))) [4],oP 18 (.bin .rem (.t 17) (.k (.i .i64 16))) [5],oP 19 (.bin .add (.k (.i .i64 1)) (.t 18)) [6],oP 20 (.call 114 [.t 19]) [7,3],oP 21 (.call 182 [.t 15,.t 20]) [3,8,8],oM 11 21 [9],oP 22 (.ext (.t 11) 0) [10],oP 23 (.ext (.t 11) 1) [10],oP 6 (.new [.b false,.sn,.b false,.sn]) [],oN (.store 4 (.t 6) (.t 22)) [13,11,9,0,1,2,3,4,5,6,7,8,9,10,11,13],oM 7 23 [12,14,0,1,2,3,4,5,6,7,8,9,10,11,12,13,14]]) (.seq (.reg [oP 24 (.load true 4 (.t 6)) [],oN (.store 4 (.t 4) (.t 24)) [0,0]]) .ret))),[.cell 4 true 4]⟩
def zxT:XF:=⟨40,.seq (.reg [oP 2 (.box (.t 0)) [],oP 3 (.box (.t 1)) [],oP 4 (.new [.b false,.sn]) []]) (.seq (.seq (.reg [oP 5 (.fad 0 (.t 2)) [],oP 6 (.load false 1 (.t 5)) [0],oP 7 (.fad 0 (.t 3)) [],oP 8 (.load false 1 (.t 7)) [2],oP 9 (.eqt false 0 (.t 6) (.t 8)) [1,3]]) (.cond (.t 9) (.seq (.drw [oP 10 (.fad 0 (.t 2)) [],oP 11 (.load false 1 (.t 10)) [0],oP 12 (.fad 1 (.t 2)) [],oP 13 (.load false 1 (.t 12)) [2],oP 14 (.fad 1 (.t 3)) [],oP 15 (.load false 1 (.t 14)) [4],oP 16 (.call 133 [.t 13,.t 15]) [3,5],oP 17 (.call 132 [.t 11,.t 16]) [1,6,6],oN (.store 2 (.t 4) (.t 17)) [7,7,0,1,2,3,4,5,6,7]] [(1,6)]) .ret) .skip)) (.seq (.seq (.reg [oP 18 (.fad 1 (.t 2)) [],oP 19 (.load false 1 (.t 18)) [0],oP 20 (.fad 1 (.t 3)) [],oP 21 (.load false 1 (.t 20)) [2],oP 22 (.call 134 [.t 19,.t 21]) [1,3],oP 23 (.bin .lss (.t 22) (.k (.i .i64 0))) [4]]) (.cond (.t 23) (.seq (.drw [oP 24 (.fad 0 (.t 3)) [],oP 25 (.load false 1 (.t 24)) [0],oP 26 (.fad 1 (.t 3)) [],oP 27 (.load false 1 (.t 26)) [2],oP 28 (.fad 1 (.t 2)) [],oP 29 (.load false 1 (.t 28)) [4],oP 30 (.call 135 [.t 27,.t 29]) [3,5],oP 31 (.call 132 [.t 25,.t 30]) [1,6,6],oN (.store 2 (.t 4) (.t 31)) [7,7,0,1,2,3,4,5,6,7]] [(1,6)]) .ret) .skip)) (.seq (.drw [oP 32 (.fad 0 (.t 2)) [],oP 33 (.load false 1 (.t 32)) [0],oP 34 (.fad 1 (.t 2)) [],oP 35 (.load false 1 (.t 34)) [2],oP 36 (.fad 1 (.t 3)) [],oP 37 (.load false 1 (.t 36)) [4],oP 38 (.call 135 [.t 35,.t 37]) [3,5],oP 39 (.call 132 [.t 33,.t 38]) [1,6,6],oN (.store 2 (.t 4) (.t 39)) [7,7,0,1,2,3,4,5,6,7]] [(1,6)]) .ret))),[.cell 4 true 2]⟩
def zx9:XC:=.seq (.seq (.reg [oM 7 0 [],oP 8 (.bin .gtr (.t 7) (.k (.i .i64 0))) [0]]) (.cond (.t 8) .skip (.exit 0))) (.block 1 (.seq (.seq (.reg [oM 9 0 [],oP 10 (.bin .rem (.t 9) (.k (.i .i64 2))) [0],oP 11 (.bin .eql (.t 10) (.k (.i .i64 1))) [1]]) (.cond (.t 11) (.reg [oP 12 (.load true 2 (.t 3)) [],oP 13 (.load true 2 (.t 4)) [],oP 14 (.call 118 [.t 12,.t 13]) [0,1],oN (.store 2 (.t 3) (.t 14)) [2,2,0,1,2]]) .skip)) (.seq (.reg [oP 15 (.load true 2 (.t 4)) [],oP 16 (.load true 2 (.t 4)) [],oP 17 (.call 118 [.t 15,.t 16]) [0,1],oN (.store 2 (.t 4) (.t 17)) [2,2,0,1,2]]) (.reg [oM 18 0 [],oP 19 (.bin .quo (.t 18) (.k (.i .i64 2))) [0],oM 0 19 [1,0,1]]))))
def zxj:XF:=⟨21,.seq (.reg [oP 2 (.new [.b false,.sn]) []]) (.seq (.reg [oP 5 (.call 114 [.k (.i .i64 1)]) [],oP 3 (.new [.b false,.sn]) [],oN (.store 2 (.t 3) (.t 5)) [1,0,0,0,1]]) (.seq (.reg [oP 6 (.call 114 [.k (.i .i64 2)]) [],oP 4 (.new [.b false,.sn]) [],oN (.store 2 (.t 4) (.t 6)) [1,0,0,0,1]]) (.seq (.block 0 (.loop zx9)) (.seq (.reg [oP 20 (.load true 2 (.t 3)) [],oN (.store 2 (.t 2) (.t 20)) [0,0]]) .ret)))),[.cell 2 true 2]⟩
def zwZ:XF:=⟨13,.seq (.reg [oP 4 (.mov (.k (.i .i64 0))) []]) (.seq (.seq (.reg [oM 5 0 [],oP 6 (.bin .lss (.t 5) (.k (.i .i64 0))) [0]]) (.cond (.t 6) (.reg [oM 7 0 [],oP 8 (.bin .add (.t 7) (.k (.i .i64 1))) [0],oP 9 (.un .neg (.t 8)) [1],oM 0 9 [2,0,1,2]]) .skip)) (.seq (.reg [oM 10 0 [],oM 11 1 [],oP 12 (.bin .rem (.t 10) (.t 11)) [0,1],oM 4 12 [2,0,1,2]]) .ret)),[.tmp 4]⟩
def zye:XC:=.seq (.seq (.reg [oM 8 0 [],oP 9 (.bin .neq (.t 8) (.k (.i .i64 0))) [0]]) (.cond (.t 9) .skip (.exit 0))) (.block 1 (.seq (.reg [oM 10 0 [],oP 11 (.bin .rem (.t 10) (.k (.i .i64 10000))) [0],oM 5 11 [1,0,1]]) (.seq (.seq (.reg [oM 12 5 [],oP 13 (.bin .lss (.t 12) (.k (.i .i64 0))) [0]]) (.cond (.t 13) (.reg [oM 14 5 [],oP 15 (.un .neg (.t 14)) [0],oM 5 15 [1,0,1]]) .skip)) (.seq (.reg [oM 16 3 [],oM 17 5 [],oP 18 (.bsl 1 1 [.i .i64 0] [(0,(1,.t 17))]) [1],oP 19 (.app 1 8 (.t 16) (.t 18)) [0,2],oM 3 19 [3,3,0,1,2,3]]) (.reg [oM 20 0 [],oP 21 (.bin .quo (.t 20) (.k (.i .i64 10000))) [0],oM 0 21 [1,0,1]])))))
def zx3:XF:=⟨25,.seq (.reg [oP 2 (.new [.b false,.sn]) []]) (.seq (.reg [oP 3 (.mov (.k .sn)) []]) (.seq (.reg [oM 6 0 [],oP 7 (.bin .lss (.t 6) (.k (.i .i64 0))) [0],oM 4 7 [1,0,1]]) (.seq (.block 0 (.loop zye)) (.seq (.reg [oM 22 4 [],oM 23 3 [],oP 24 (.call 132 [.t 22,.t 23]) [0,1],oN (.store 2 (.t 2) (.t 24)) [2,2,0,1,2]]) .ret)))),[.cell 2 true 2]⟩
def zwq:XF:=⟨40,.seq (.reg [oP 2 (.box (.t 0)) [],oP 3 (.box (.t 1)) [],oP 4 (.new [.b false,.sn,.b false,.sn]) [],oP 5 (.mov (.k (.i .i64 0))) []]) (.seq (.seq (.reg [oP 11 (.fad 1 (.t 3)) [],oP 12 (.load false 1 (.t 11)) [0],oP 13 (.len (.t 12)) [1],oP 14 (.bin .eql (.t 13) (.k (.i .i64 0))) [2]]) (.cond (.t 14) (.seq (.reg [oP 15 (.call 185 [.k (.i .i64 0)]) [],oN (.store 4 (.t 4) (.t 15)) [0,0,0],oP 5 (.mov (.k (.i .i64 1))) [1,0,1]]) .ret) .skip)) (.seq (.seq (.reg [oP 16 (.fad 0 (.t 3)) [],oP 17 (.load false 1 (.t 16)) [0]]) (.cond (.t 17) (.seq (.reg [oP 18 (.load true 2 (.t 2)) [],oP 19 (.call 123 [.t 18]) [0],oN (.store 2 (.t 2) (.t 19)) [1,1,0,1]]) (.reg [oP 20 (.load true 2 (.t 3)) [],oP 21 (.call 123 [.t 20]) [0],oN (.store 2 (.t 3) (.t 21)) [1,1,0,1]])) .skip)) (.seq (.reg [oP 22 (.load true 2 (.t 2)) [],oP 23 (.load true 2 (.t 3)) [],oP 24 (.call 125 [.t 22,.t 23]) [0,1],oP 6 (.new [.b false,.sn]) [],oN (.store 2 (.t 6) (.t 24)) [3,2,2,0,1,2,3]]) (.seq (.reg [oP 26 (.load true 2 (.t 2)) [],oP 27 (.load true 2 (.t 6)) [],oP 28 (.call 120 [.t 26,.t 27]) [0,1],oM 25 28 [2],oP 29 (.ext (.t 25) 0) [3],oP 30 (.ext (.t 25) 1) [3],oP 7 (.new [.b false,.sn]) [],oP 8 (.new [.b false,.sn]) [],oN (.store 2 (.t 7) (.t 29)) [6,4,2,0,1,2,3,4,6,7],oN (.store 2 (.t 8) (.t 30)) [7,5,8,0,1,2,3,4,5,6,7,8]]) (.seq (.reg [oP 32 (.load true 2 (.t 3)) [],oP 33 (.load true 2 (.t 6)) [],oP 34 (.call 120 [.t 32,.t 33]) [0,1],oM 31 34 [2],oP 35 (.ext (.t 31) 0) [3],oP 36 (.ext (.t 31) 1) [3],oP 9 (.new [.b false,.sn]) [],oP 10 (.new [.b false,.sn]) [],oN (.store 2 (.t 9) (.t 35)) [6,4,2,0,1,2,3,4,6,7],oN (.store 2 (.t 10) (.t 36)) [7,5,8,0,1,2,3,4,5,6,7,8]]) (.seq (.reg [oP 37 (.load true 2 (.t 7)) [],oP 38 (.load true 2 (.t 9)) [],oP 39 (.build [.b false,.sn,.b false,.sn] [(0,(2,.t 37)),(2,(2,.t 38))]) [0,1],oN (.store 4 (.t 4) (.t 39)) [2,0,1,2],oP 5 (.mov (.k (.i .i64 0))) [3,0,1,2,3]]) .ret)))))),[.cell 4 true 4,.tmp 5]⟩
def zxB:XF:=⟨31,.seq (.reg [oP 2 (.box (.t 0)) [],oP 3 (.box (.t 1)) [],oP 4 (.new [.b false,.sn,.b false,.sn]) [],oP 5 (.mov (.k (.i .i64 0))) []]) (.seq (.reg [oP 11 (.fad 0 (.t 2)) [],oP 12 (.load true 2 (.t 11)) [0],oP 13 (.fad 0 (.t 3)) [],oP 14 (.load true 2 (.t 13)) [2],oP 15 (.call 23 [.t 12,.t 14]) [1,3],oM 10 15 [4],oP 16 (.ext (.t 10) 0) [5],oP 17 (.ext (.t 10) 1) [5],oP 6 (.new [.b false,.sn]) [],oN (.store 2 (.t 6) (.t 16)) [8,6,4,0,1,2,3,4,5,6,8],oM 7 17 [7,9,0,1,2,3,4,5,6,7,8,9]]) (.seq (.reg [oP 19 (.fad 2 (.t 2)) [],oP 20 (.load true 2 (.t 19)) [0],oP 21 (.fad 2 (.t 3)) [],oP 22 (.load true 2 (.t 21)) [2],oP 23 (.call 23 [.t 20,.t 22]) [1,3],oM 18 23 [4],oP 24 (.ext (.t 18) 0) [5],oP 25 (.ext (.t 18) 1) [5],oP 8 (.new [.b false,.sn]) [],oN (.store 2 (.t 8) (.t 24)) [8,6,4,0,1,2,3,4,5,6,8],oM 9 25 [7,9,0,1,2,3,4,5,6,7,8,9]]) (.seq (.reg [oP 26 (.load true 2 (.t 6)) [],oP 27 (.load true 2 (.t 8)) [],oP 28 (.call 290 [.t 26,.t 27]) [0,1],oP 29 (.ext (.t 28) 0) [2],oP 30 (.ext (.t 28) 1) [2],oN (.store 4 (.t 4) (.t 29)) [3,2,0,1,2,3,4],oM 5 30 [4,5,0,1,2,3,4,5]]) .ret))),[.cell 4 true 4,.tmp 5]⟩
def zxx:XF:=⟨17,.seq (.reg [oP 2 (.box (.t 0)) [],oP 3 (.box (.t 1)) [],oP 4 (.new [.b false,.sn,.b false,.sn]) [],oP 5 (.mov (.k (.i .i64 0))) []]) (.seq (.reg [oP 7 (.mfn 385 [.t 2,.t 3]) [],oM 6 7 [0,0]]) (.seq (.drw [oM 8 6 [],oP 9 (.load true 2 (.k (.p 3 0))) [],oP 10 (.callv (.t 8) [.t 9]) [0,1],oM 11 6 [],oP 12 (.load true 2 (.k (.p 4 0))) [],oP 13 (.callv (.t 11) [.t 12]) [3,4,2],oP 14 (.call 290 [.t 10,.t 13]) [2,5,5],oP 15 (.ext (.t 14) 0) [6],oP 16 (.ext (.t 14) 1) [6],oN (.store 4 (.t 4) (.t 15)) [7,6,0,1,2,3,4,5,6,7,8],oM 5 16 [8,9,0,1,2,3,4,5,6,7,8,9]] [(4,2)]) .ret)),[.cell 4 true 4,.tmp 5]⟩
def zws:XF:=⟨35,.seq (.reg [oP 4 (.box (.t 1)) [],oP 5 (.box (.t 2)) [],oP 6 (.new [.b false,.sn,.b false,.sn]) [],oP 7 (.mov (.k (.i .i64 0))) []]) (.seq (.seq (.reg [oM 8 0 []]) (.block 0 (.seq (.reg [oP 10 (.bin .eql (.t 8) (.k (.i .i64 0))) [],oM 9 10 [0]]) (.cond (.t 9) (.seq (.reg [oP 11 (.load true 4 (.t 4)) [],oP 12 (.load true 4 (.t 5)) [],oP 13 (.call 379 [.t 11,.t 12]) [0,1],oP 14 (.ext (.t 13) 0) [2],oP 15 (.ext (.t 13) 1) [2],oN (.store 4 (.t 6) (.t 14)) [3,2,0,1,2,3,4],oM 7 15 [4,5,0,1,2,3,4,5]]) .ret) (.seq (.reg [oP 17 (.bin .eql (.t 8) (.k (.i .i64 1))) [],oM 16 17 [0]]) (.cond (.t 16) (.seq (.reg [oP 18 (.load true 4 (.t 4)) [],oP 19 (.load true 4 (.t 5)) [],oP 20 (.call 516 [.t 18,.t 19]) [0,1],oP 21 (.ext (.t 20) 0) [2],oP 22 (.ext (.t 20) 1) [2],oN (.store 4 (.t 6) (.t 21)) [3,2,0,1,2,3,4],oM 7 22 [4,5,0,1,2,3,4,5]]) .ret) (.seq (.reg [oP 24 (.bin .eql (.t 8) (.k (.i .i64 2))) [],oM 23 24 [0]]) (.cond (.t 23) (.seq (.reg [oP 25 (.load true 4 (.t 4)) [],oP 26 (.load true 4 (.t 5)) [],oP 27 (.call 378 [.t 25,.t 26]) [0,1],oP 28 (.ext (.t 27) 0) [2],oP 29 (.ext (.t 27) 1) [2],oN (.store 4 (.t 6) (.t 28)) [3,2,0,1,2,3,4],oM 7 29 [4,5,0,1,2,3,4,5]]) .ret) .skip)))))))) (.seq (.reg [oP 30 (.load true 4 (.t 4)) [],oP 31 (.load true 4 (.t 5)) [],oP 32 (.call 367 [.t 30,.t 31]) [0,1],oP 33 (.ext (.t 32) 0) [2],oP 34 (.ext (.t 32) 1) [2],oN (.store 4 (.t 6) (.t 33)) [3,2,0,1,2,3,4],oM 7 34 [4,5,0,1,2,3,4,5]]) .ret)),[.cell 6 true 4,.tmp 7]⟩
def zwr:XF:=⟨36,.seq (.reg [oP 4 (.new [.b false,.sn,.b false,.sn]) []]) (.seq (.reg [oM 8 0 [],oM 9 1 [],oP 10 (.bin .add (.t 9) (.k (.i .i64 2))) [1],oP 11 (.call 180 [.t 8,.t 10]) [0,2],oM 12 0 [],oM 13 1 [],oP 14 (.bin .add (.t 13) (.k (.i .i64 3))) [5],oP 15 (.call 180 [.t 12,.t 14]) [4,6,3],oP 16 (.call 179 [.t 11,.t 15]) [3,7,7],oP 5 (.new [.b false,.sn]) [],oN (.store 2 (.t 5) (.t 16)) [9,8,8,0,1,2,3,4,5,6,7,8,9]]) (.seq (.seq (.reg [oP 17 (.fad 1 (.t 5)) [],oP 18 (.load false 1 (.t 17)) [0],oP 19 (.len (.t 18)) [1],oP 20 (.bin .eql (.t 19) (.k (.i .i64 0))) [2]]) (.cond (.t 20) (.reg [oP 21 (.call 114 [.k (.i .i64 1)]) [],oN (.store 2 (.t 5) (.t 21)) [0,0,0]]) .skip)) (.seq (.drw [oM 23 0 [],oM 24 1 [],oP 25 (.call 180 [.t 23,.t 24]) [0,1],oM 26 0 [],oM 27 1 [],oP 28 (.bin .add (.t 27) (.k (.i .i64 1))) [4],oP 29 (.call 180 [.t 26,.t 28]) [3,5,2],oP 30 (.call 179 [.t 25,.t 29]) [2,6,6],oP 31 (.load true 2 (.t 5)) [],oP 32 (.call 182 [.t 30,.t 31]) [7,8,7],oM 22 32 [9],oP 33 (.ext (.t 22) 0) [10],oP 34 (.ext (.t 22) 1) [10],oP 6 (.new [.b false,.sn,.b false,.sn]) [],oN (.store 4 (.t 6) (.t 33)) [13,11,9,0,1,2,3,4,5,6,7,8,9,10,11,13],oM 7 34 [12,14,0,1,2,3,4,5,6,7,8,9,10,11,12,13,14]] [(8,2),(8,6),(8,7)]) (.seq (.reg [oP 35 (.load true 4 (.t 6)) [],oN (.store 4 (.t 4) (.t 35)) [0,0]]) .ret)))),[.cell 4 true 4]⟩
def zv1:XF:=⟨30,.seq (.reg [oP 2 (.box (.t 0)) [],oP 3 (.box (.t 1)) [],oP 4 (.new [.b false,.sn,.b false,.sn]) [],oP 5 (.mov (.k (.i .i64 0))) []]) (.seq (.seq (.reg [oP 7 (.load true 2 (.t 3)) [],oP 8 (.call 31 [.t 7]) [0],oP 9 (.bin .eql (.t 8) (.k (.i .i64 0))) [1]]) (.cond (.t 9) (.seq (.reg [oP 10 (.build [.b false,.sn,.b false,.sn] []) [],oN (.store 4 (.t 4) (.t 10)) [0,0],oP 5 (.mov (.k (.i .i64 1))) [1,0,1]]) .ret) .skip)) (.seq (.seq (.reg [oP 11 (.load true 2 (.t 3)) [],oP 12 (.call 31 [.t 11]) [0],oP 13 (.bin .lss (.t 12) (.k (.i .i64 0))) [1]]) (.cond (.t 13) (.drw [oP 14 (.load true 2 (.t 2)) [],oP 15 (.call 43 [.t 14]) [0],oP 16 (.load true 2 (.t 3)) [],oP 17 (.call 43 [.t 16]) [2,1],oN (.store 2 (.t 2) (.t 15)) [1,3,0,1],oN (.store 2 (.t 3) (.t 17)) [3,4,0,1,2,3,4]] [(2,1)]) .skip)) (.seq (.reg [oP 18 (.load true 2 (.t 2)) [],oP 19 (.load true 2 (.t 3)) [],oP 20 (.call 18 [.t 18,.t 19]) [0,1],oP 6 (.new [.b false,.sn]) [],oN (.store 2 (.t 6) (.t 20)) [3,2,2,0,1,2,3]]) (.seq (.drw [oP 21 (.load true 2 (.t 2)) [],oP 22 (.load true 2 (.t 6)) [],oP 23 (.call 21 [.t 21,.t 22]) [0,1],oP 24 (.load true 2 (.t 3)) [],oP 25 (.load true 2 (.t 6)) [],oP 26 (.call 21 [.t 24,.t 25]) [3,4,2],oP 27 (.call 22 [.t 23,.t 26,.k (.i .i64 0),.k (.i .i64 0)]) [2,5,5],oP 28 (.ext (.t 27) 0) [6],oP 29 (.ext (.t 27) 1) [6],oN (.store 4 (.t 4) (.t 28)) [7,6,0,1,2,3,4,5,6,7,8],oM 5 29 [8,9,0,1,2,3,4,5,6,7,8,9]] [(3,2),(4,2)]) .ret)))),[.cell 4 true 4,.tmp 5]⟩
def zxg:XF:=⟨25,.seq (.reg [oP 2 (.new [.b false,.sn]) []]) (.seq (.reg [oM 6 0 [],oP 7 (.cint .u64 (.t 6)) [0],oM 3 7 [1,0,1]]) (.seq (.seq (.reg [oM 8 0 [],oP 9 (.bin .lss (.t 8) (.k (.i .i64 0))) [0]]) (.cond (.t 9) (.reg [oM 10 3 [],oP 11 (.un .neg (.t 10)) [0],oM 3 11 [1,0,1]]) .skip)) (.seq (.reg [oM 13 0 [],oP 14 (.bin .lss (.t 13) (.k (.i .i64 0))) [0],oM 15 3 [],oP 16 (.cint .u32 (.t 15)) [2],oM 17 3 [],oP 18 (.bin .shr (.t 17) (.k (.i .u64 32))) [4],oP 19 (.cint .u32 (.t 18)) [5],oP 20 (.bsl 2 1 [.i .u32 0] [(0,(1,.t 16)),(1,(1,.t 19))]) [3,6],oP 21 (.call 36 [.t 14,.t 20]) [1,7],oM 12 21 [8],oP 22 (.ext (.t 12) 0) [9],oP 23 (.ext (.t 12) 1) [9],oP 4 (.new [.b false,.sn]) [],oN (.store 2 (.t 4) (.t 22)) [12,10,8,0,1,2,3,4,5,6,7,8,9,10,12],oM 5 23 [11,13,0,1,2,3,4,5,6,7,8,9,10,11,12,13]]) (.seq (.reg [oP 24 (.load true 2 (.t 4)) [],oN (.store 2 (.t 2) (.t 24)) [0,0]]) .ret)))),[.cell 2 true 2]⟩
def zxW:XC:=.seq (.block 1 (.seq (.reg [oP 27 (.load true 2 (.t 5)) [],oP 28 (.load true 2 (.t 6)) [],oP 29 (.call 29 [.t 27,.t 28]) [0,1],oM 26 29 [2],oP 30 (.ext (.t 26) 0) [3],oP 31 (.ext (.t 26) 1) [3],oP 32 (.ext (.t 26) 2) [3],oP 10 (.new [.b false,.sn]) [],oP 11 (.new [.b false,.sn]) [],oN (.store 2 (.t 10) (.t 30)) [7,4,2,0,1,2,3,4,7,8],oN (.store 2 (.t 11) (.t 31)) [8,5,9,0,1,2,3,4,5,7,8,9],oM 12 32 [6,10,0,1,2,3,4,5,6,7,8,9,10]]) (.seq (.reg [oP 34 (.load true 2 (.t 7)) [],oP 35 (.load true 2 (.t 8)) [],oP 36 (.call 29 [.t 34,.t 35]) [0,1],oM 33 36 [2],oP 37 (.ext (.t 33) 0) [3],oP 38 (.ext (.t 33) 1) [3],oP 39 (.ext (.t 33) 2) [3],oP 13 (.new [.b false,.sn]) [],oP 14 (.new [.b false,.sn]) [],oN (.store 2 (.t 13) (.t 37)) [7,4,2,0,1,2,3,4,7,8],oN (.store 2 (.t 14) (.t 38)) [8,5,9,0,1,2,3,4,5,7,8,9],oM 15 39 [6,10,0,1,2,3,4,5,6,7,8,9,10]]) (.seq (.block 2 (.seq (.reg [oP 41 (.load true 2 (.t 10)) [],oP 42 (.load true 2 (.t 13)) [],oP 43 (.call 30 [.t 41,.t 42]) [0,1],oP 44 (.bin .neq (.t 43) (.k (.i .i64 0))) [2],oM 40 44 [3,2]]) (.cond (.t 40) (.seq (.reg [oM 45 9 [],oP 46 (.load true 2 (.t 10)) [],oP 47 (.load true 2 (.t 13)) [],oP 48 (.call 30 [.t 46,.t 47]) [1,2],oP 49 (.bin .mul (.t 45) (.t 48)) [0,3],oM 4 49 [4,3,0,1,2,3,4]]) .ret) (.seq (.reg [oP 51 (.load true 2 (.t 11)) [],oP 52 (.call 31 [.t 51]) [0],oP 53 (.bin .eql (.t 52) (.k (.i .i64 0))) [1],oM 54 53 [2,1],oF 55 (.load true 2 (.t 14)) [3] 54,oF 56 (.call 31 [.t 55]) [4,3,3] 54,oF 57 (.bin .eql (.t 56) (.k (.i .i64 0))) [5,3] 54,oP 58 (.pick (.t 54) (.k (.b true)) (.t 57)) [3,6],oM 50 58 [7,5]]) (.cond (.t 50) (.seq (.drw [oM 59 9 [],oP 60 (.load true 2 (.t 11)) [],oP 61 (.call 31 [.t 60]) [1],oP 62 (.load true 2 (.t 14)) [],oP 63 (.call 31 [.t 62]) [3,2],oP 64 (.bin .sub (.t 61) (.t 63)) [2,4],oP 65 (.bin .mul (.t 59) (.t 64)) [0,5],oM 4 65 [6,4,0,1,2,3,4,5,6]] [(3,2)]) .ret) .skip))))) (.drw [oP 66 (.load true 2 (.t 6)) [],oP 67 (.load true 2 (.t 11)) [],oP 68 (.load true 2 (.t 8)) [],oP 69 (.load true 2 (.t 14)) [],oN (.store 2 (.t 5) (.t 66)) [0,0],oN (.store 2 (.t 6) (.t 67)) [1,4,0,1,4],oN (.store 2 (.t 7) (.t 68)) [2,5,0,1,2,4,5],oN (.store 2 (.t 8) (.t 69)) [3,6,0,1,2,3,4,5,6]] [(1,4),(2,4),(3,4),(2,5),(3,5),(3,6)]))))) (.reg [oM 24 9 [],oP 25 (.un .neg (.t 24)) [0],oM 9 25 [1,0,1]])
def zwA:XF:=⟨70,.seq (.reg [oP 2 (.box (.t 0)) [],oP 3 (.box (.t 1)) [],oP 4 (.mov (.k (.i .i64 0))) []]) (.seq (.drw [oP 16 (.fad 0 (.t 2)) [],oP 17 (.load true 2 (.t 16)) [0],oP 18 (.load true 4 (.t 2)) [],oP 19 (.call 19 [.t 18]) [2],oP 20 (.fad 0 (.t 3)) [],oP 21 (.load true 2 (.t 20)) [4],oP 22 (.load true 4 (.t 3)) [],oP 23 (.call 19 [.t 22]) [6,3],oP 5 (.new [.b false,.sn]) [],oP 6 (.new [.b false,.sn]) [],oP 7 (.new [.b false,.sn]) [],oP 8 (.new [.b false,.sn]) [],oN (.store 2 (.t 5) (.t 17)) [8,1,7,0,1,8,9,10,11],oN (.store 2 (.t 6) (.t 19)) [9,3,12,0,1,2,3,8,9,10,11,12],oN (.store 2 (.t 7) (.t 21)) [10,5,13,0,1,2,3,4,5,8,9,10,11,12,13],oN (.store 2 (.t 8) (.t 23)) [11,7,14,0,1,2,3,4,5,6,7,8,9,10,11,12,13,14]] [(1,3),(5,3),(6,3),(1,7),(5,7),(5,12),(5,13)]) (.seq (.reg [oP 9 (.mov (.k (.i .i64 1))) []]) (.block 0 (.loop zxW)))),[.tmp 4]⟩
def zw9:XF:=⟨53,.seq (.reg [oP 4 (.box (.t 0)) [],oP 5 (.box (.t 1)) [],oP 6 (.box (.t 2)) [],oP 7 (.box (.t 3)) [],oP 8 (.mov (.k (.b false))) []]) (.seq (.drw [oP 14 (.load true 4 (.t 5)) [],oP 15 (.load true 4 (.t 4)) [],oP 16 (.call 280 [.t 15]) [1],oP 17 (.call 81 [.t 14,.t 16]) [0,2,2],oM 13 17 [3],oP 18 (.ext (.t 13) 0) [4],oP 19 (.ext (.t 13) 1) [4],oP 9 (.new [.b false,.sn,.b false,.sn]) [],oN (.store 4 (.t 9) (.t 18)) [7,5,3,0,1,2,3,4,5,7],oM 10 19 [6,8,0,1,2,3,4,5,6,7,8]] [(0,2)]) (.seq (.drw [oP 21 (.load true 4 (.t 4)) [],oP 22 (.call 281 [.t 21]) [0],oP 23 (.load true 4 (.t 6)) [],oP 24 (.call 81 [.t 22,.t 23]) [1,2,1],oM 20 24 [3],oP 25 (.ext (.t 20) 0) [4],oP 26 (.ext (.t 20) 1) [4],oP 11 (.new [.b false,.sn,.b false,.sn]) [],oN (.store 4 (.t 11) (.t 25)) [7,5,3,0,1,2,3,4,5,7],oM 12 26 [6,8,0,1,2,3,4,5,6,7,8]] [(2,1)]) (.seq (.seq (.reg [oM 27 10 [],oP 28 (.bin .neq (.t 27) (.k (.i .i64 0))) [0],oM 29 28 [1],oF 30 (.mov (.t 12)) [2] 29,oF 31 (.bin .neq (.t 30) (.k (.i .i64 0))) [3,2] 29,oP 32 (.pick (.t 29) (.k (.b true)) (.t 31)) [2,4]]) (.cond (.t 32) (.seq (.reg [oP 8 (.mov (.k (.b true))) []]) .ret) .skip)) (.seq (.reg [oP 33 (.load true 4 (.t 9)) [],oP 34 (.call 67 [.t 33]) [0],oP 35 (.bin .geq (.t 34) (.k (.i .i64 0))) [1],oM 36 35 [2,1],oT 37 (.load true 4 (.t 11)) [3] 36,oT 38 (.call 67 [.t 37]) [4,3,3] 36,oT 39 (.bin .geq (.t 38) (.k (.i .i64 0))) [5,3] 36,oP 40 (.pick (.t 36) (.t 39) (.k (.b false))) [3,6],oM 41 40 [7,5],oT 42 (.load true 4 (.t 9)) [8] 41,oT 43 (.load true 4 (.t 7)) [8] 41,oT 44 (.call 11 [.t 42,.t 43]) [9,10,8,8] 41,oT 45 (.bin .lss (.t 44) (.k (.i .i64 0))) [11,8] 41,oP 46 (.pick (.t 41) (.t 45) (.k (.b false))) [8,12],oM 47 46 [13,11],oT 48 (.load true 4 (.t 11)) [14] 47,oT 49 (.load true 4 (.t 7)) [14] 47,oT 50 (.call 11 [.t 48,.t 49]) [15,16,14,14] 47,oT 51 (.bin .lss (.t 50) (.k (.i .i64 0))) [17,14] 47,oP 52 (.pick (.t 47) (.t 51) (.k (.b false))) [14,18],oM 8 52 [19,17,0,1,2,3,4,5,6,7,8,9,10,11,12,13,14,15,16,17,18,19]]) .ret)))),[.tmp 8]⟩
def zw7:XF:=⟨35,.seq (.reg [oP 4 (.box (.t 1)) [],oP 5 (.box (.t 2)) [],oP 6 (.new [.b false,.sn,.b false,.sn]) [],oP 7 (.mov (.k (.i .i64 0))) []]) (.seq (.seq (.reg [oM 8 0 []]) (.block 0 (.seq (.reg [oP 10 (.bin .eql (.t 8) (.k (.i .i64 0))) [],oM 9 10 [0]]) (.cond (.t 9) (.seq (.reg [oP 11 (.load true 4 (.t 4)) [],oP 12 (.load true 4 (.t 5)) [],oP 13 (.call 9 [.t 11,.t 12]) [0,1],oP 14 (.ext (.t 13) 0) [2],oP 15 (.ext (.t 13) 1) [2],oN (.store 4 (.t 6) (.t 14)) [3,2,0,1,2,3,4],oM 7 15 [4,5,0,1,2,3,4,5]]) .ret) (.seq (.reg [oP 17 (.bin .eql (.t 8) (.k (.i .i64 1))) [],oM 16 17 [0]]) (.cond (.t 16) (.seq (.reg [oP 18 (.load true 4 (.t 4)) [],oP 19 (.load true 4 (.t 5)) [],oP 20 (.call 81 [.t 18,.t 19]) [0,1],oP 21 (.ext (.t 20) 0) [2],oP 22 (.ext (.t 20) 1) [2],oN (.store 4 (.t 6) (.t 21)) [3,2,0,1,2,3,4],oM 7 22 [4,5,0,1,2,3,4,5]]) .ret) (.seq (.reg [oP 24 (.bin .eql (.t 8) (.k (.i .i64 2))) [],oM 23 24 [0]]) (.cond (.t 23) (.seq (.reg [oP 25 (.load true 4 (.t 4)) [],oP 26 (.load true 4 (.t 5)) [],oP 27 (.call 8 [.t 25,.t 26]) [0,1],oP 28 (.ext (.t 27) 0) [2],oP 29 (.ext (.t 27) 1) [2],oN (.store 4 (.t 6) (.t 28)) [3,2,0,1,2,3,4],oM 7 29 [4,5,0,1,2,3,4,5]]) .ret) .skip)))))))) (.seq (.reg [oP 30 (.load true 4 (.t 4)) [],oP 31 (.load true 4 (.t 5)) [],oP 32 (.call 65 [.t 30,.t 31]) [0,1],oP 33 (.ext (.t 32) 0) [2],oP 34 (.ext (.t 32) 1) [2],oN (.store 4 (.t 6) (.t 33)) [3,2,0,1,2,3,4],oM 7 34 [4,5,0,1,2,3,4,5]]) .ret)),[.cell 6 true 4,.tmp 7]⟩
def zxu:XF:=⟨21,.seq (.reg [oP 6 (.mov (.k (.i .i64 0))) []]) (.seq (.seq (.reg [oM 7 1 [],oP 8 (.bin .lss (.t 7) (.k (.i .i64 0))) [0],oM 9 8 [1],oF 10 (.mov (.t 1)) [2] 9,oF 11 (.mov (.t 0)) [2] 9,oF 12 (.len (.t 11)) [4,2] 9,oF 13 (.bin .geq (.t 10) (.t 12)) [3,5,2] 9,oP 14 (.pick (.t 9) (.k (.b true)) (.t 13)) [2,6]]) (.cond (.t 14) (.seq (.reg [oP 6 (.mov (.k (.i .i64 0))) []]) .ret) .skip)) (.seq (.reg [oM 15 0 [],oM 16 1 [],oP 17 (.ixs 1 (.t 15) (.t 16)) [0,1],oP 18 (.load false 1 (.t 17)) [2],oM 19 2 [],oP 20 (.call 6 [.t 18,.t 19]) [3,4],oM 6 20 [5,5,0,1,2,3,4,5]]) .ret)),[.tmp 6]⟩
def zxk:XF:=⟨24,.seq (.reg [oP 1 (.box (.t 0)) [],oP 2 (.mov (.k (.b false))) []]) (.seq (.reg [oP 5 (.call 293 [.k (.i .i64 16000)]) [],oP 3 (.new [.b false,.sn]) [],oN (.store 2 (.t 3) (.t 5)) [1,0,0,0,1]]) (.seq (.reg [oP 6 (.load true 4 (.t 1)) [],oP 7 (.call 64 [.t 6]) [0],oP 4 (.new [.b false,.sn]) [],oN (.store 2 (.t 4) (.t 7)) [2,1,1,0,1,2]]) (.seq (.seq (.reg [oP 8 (.load true 2 (.t 4)) [],oP 9 (.call 31 [.t 8]) [0],oP 10 (.bin .lss (.t 9) (.k (.i .i64 0))) [1]]) (.cond (.t 10) (.reg [oP 11 (.load true 2 (.t 4)) [],oP 12 (.call 43 [.t 11]) [0],oN (.store 2 (.t 4) (.t 12)) [1,1,0,1]]) .skip)) (.seq (.drw [oP 13 (.load true 2 (.t 4)) [],oP 14 (.load true 2 (.t 3)) [],oP 15 (.call 30 [.t 13,.t 14]) [0,1],oP 16 (.bin .geq (.t 15) (.k (.i .i64 0))) [2],oM 17 16 [3,2],oF 18 (.load true 4 (.t 1)) [4] 17,oF 19 (.call 19 [.t 18]) [5,4,4] 17,oF 20 (.load true 2 (.t 3)) [4] 17,oF 21 (.call 30 [.t 19,.t 20]) [6,7,6,4] 17,oF 22 (.bin .geq (.t 21) (.k (.i .i64 0))) [8,4] 17,oP 23 (.pick (.t 17) (.k (.b true)) (.t 22)) [4,9],oM 2 23 [10,8,0,1,2,3,4,5,6,7,8,9,10]] [(7,6)]) .ret)))),[.tmp 2]⟩
def zv2:XF:=⟨18,.seq (.reg [oP 2 (.box (.t 0)) [],oP 3 (.box (.t 1)) [],oP 4 (.new [.b false,.sn,.b false,.sn]) [],oP 5 (.mov (.k (.i .i64 0))) []]) (.seq (.seq (.reg [oP 6 (.load true 2 (.t 2)) [],oP 7 (.call 294 [.t 6]) [0],oP 8 (.un .not (.t 7)) [1],oM 9 8 [2,1],oF 10 (.load true 2 (.t 3)) [3] 9,oF 11 (.call 294 [.t 10]) [4,3,3] 9,oF 12 (.un .not (.t 11)) [5,3] 9,oP 13 (.pick (.t 9) (.k (.b true)) (.t 12)) [3,6]]) (.cond (.t 13) (.seq (.reg [oP 14 (.build [.b false,.sn,.b false,.sn] []) [],oN (.store 4 (.t 4) (.t 14)) [0,0],oP 5 (.mov (.k (.i .i64 4))) [1,0,1]]) .ret) .skip)) (.seq (.reg [oP 15 (.load true 2 (.t 2)) [],oP 16 (.load true 2 (.t 3)) [],oP 17 (.build [.b false,.sn,.b false,.sn] [(0,(2,.t 15)),(2,(2,.t 16))]) [0,1],oN (.store 4 (.t 4) (.t 17)) [2,0,1,2],oP 5 (.mov (.k (.i .i64 0))) [3,0,1,2,3]]) .ret)),[.cell 4 true 4,.tmp 5]⟩
def zvJ:XF:=⟨25,.seq (.reg [oP 2 (.box (.t 0)) [],oP 3 (.box (.t 1)) [],oP 4 (.new [.b false,.sn]) []]) (.seq (.reg [oP 10 (.load true 4 (.t 3)) [],oP 11 (.call 64 [.t 10]) [0],oP 12 (.call 295 [.t 11]) [1,1],oM 9 12 [2],oP 13 (.ext (.t 9) 0) [3],oP 14 (.ext (.t 9) 1) [3],oP 5 (.new [.b false,.sn]) [],oN (.store 2 (.t 5) (.t 13)) [6,4,2,0,1,2,3,4,6],oM 6 14 [5,7,0,1,2,3,4,5,6,7]]) (.seq (.drw [oP 16 (.fad 0 (.t 2)) [],oP 17 (.load false 1 (.t 16)) [0],oP 18 (.load true 2 (.t 5)) [],oP 19 (.load true 4 (.t 3)) [],oP 20 (.call 19 [.t 19]) [3],oP 21 (.callv (.t 17) [.t 18,.t 20]) [1,2,4,4],oM 15 21 [5],oP 22 (.ext (.t 15) 0) [6],oP 23 (.ext (.t 15) 1) [6],oP 7 (.new [.b false,.sn]) [],oN (.store 2 (.t 7) (.t 22)) [9,7,5,0,1,2,3,4,5,6,7,9],oM 8 23 [8,10,0,1,2,3,4,5,6,7,8,9,10]] [(1,4),(2,4)]) (.seq (.reg [oP 24 (.load true 2 (.t 7)) [],oN (.store 2 (.t 4) (.t 24)) [0,0]]) .ret))),[.cell 4 true 2]⟩
def zw1:XF:=⟨54,.seq (.reg [oP 2 (.new [.b false,.sn,.b false,.sn]) [],oP 3 (.mov (.k (.i .i64 0))) []]) (.seq (.reg [oM 14 0 [],oP 15 (.call 209 [.t 14,.k (.s [47])]) [0],oM 13 15 [1],oP 16 (.ext (.t 13) 0) [2],oP 17 (.ext (.t 13) 1) [2],oP 18 (.ext (.t 13) 2) [2],oM 4 16 [3,1,0,1,2,3],oM 5 17 [4,6,0,1,2,3,4,6],oM 6 18 [5,7,0,1,2,3,4,5,6,7]]) (.seq (.seq (.reg [oM 19 6 [],oP 20 (.un .not (.t 19)) [0]]) (.cond (.t 20) (.reg [oP 5 (.mov (.k (.s [49]))) []]) .skip)) (.seq (.reg [oM 22 4 [],oP 23 (.call 110 [.t 22]) [0],oM 21 23 [1],oP 24 (.ext (.t 21) 0) [2],oP 25 (.ext (.t 21) 1) [2],oP 7 (.new [.b false,.sn]) [],oN (.store 2 (.t 7) (.t 24)) [5,3,1,0,1,2,3,5],oM 8 25 [4,6,0,1,2,3,4,5,6]]) (.seq (.reg [oM 27 5 [],oP 28 (.call 110 [.t 27]) [0],oM 26 28 [1],oP 29 (.ext (.t 26) 0) [2],oP 30 (.ext (.t 26) 1) [2],oP 9 (.new [.b false,.sn]) [],oN (.store 2 (.t 9) (.t 29)) [5,3,1,0,1,2,3,5],oM 10 30 [4,6,0,1,2,3,4,5,6]]) (.seq (.seq (.reg [oM 31 8 [],oP 32 (.bin .neq (.t 31) (.k (.i .i64 0))) [0],oM 33 32 [1],oF 34 (.mov (.t 10)) [2] 33,oF 35 (.bin .neq (.t 34) (.k (.i .i64 0))) [3,2] 33,oP 36 (.pick (.t 33) (.k (.b true)) (.t 35)) [2,4]]) (.cond (.t 36) (.seq (.reg [oP 37 (.build [.b false,.sn,.b false,.sn] []) [],oN (.store 4 (.t 2) (.t 37)) [0,0],oP 3 (.mov (.k (.i .i64 2))) [1,0,1]]) .ret) .skip)) (.seq (.reg [oP 39 (.load true 2 (.t 7)) [],oP 40 (.load true 2 (.t 9)) [],oP 41 (.call 24 [.t 39,.t 40]) [0,1],oM 38 41 [2],oP 42 (.ext (.t 38) 0) [3],oP 43 (.ext (.t 38) 1) [3],oP 11 (.new [.b false,.sn,.b false,.sn]) [],oN (.store 4 (.t 11) (.t 42)) [6,4,2,0,1,2,3,4,6],oM 12 43 [5,7,0,1,2,3,4,5,6,7]]) (.seq (.seq (.reg [oM 44 12 [],oP 45 (.bin .neq (.t 44) (.k (.i .i64 0))) [0],oM 46 45 [1],oF 47 (.load true 4 (.t 11)) [2] 46,oF 48 (.call 16 [.t 47]) [3,2,2] 46,oF 49 (.mov (.t 0)) [2] 46,oF 50 (.bin .neq (.t 48) (.t 49)) [4,5,2] 46,oP 51 (.pick (.t 46) (.k (.b true)) (.t 50)) [2,6]]) (.cond (.t 51) (.seq (.reg [oP 52 (.build [.b false,.sn,.b false,.sn] []) [],oN (.store 4 (.t 2) (.t 52)) [0,0],oP 3 (.mov (.k (.i .i64 2))) [1,0,1]]) .ret) .skip)) (.seq (.reg [oP 53 (.load true 4 (.t 11)) [],oN (.store 4 (.t 2) (.t 53)) [0,0],oP 3 (.mov (.k (.i .i64 0))) [1,0,1]]) .ret)))))))),[.cell 2 true 4,.tmp 3]⟩
def zwL:XF:=⟨16,.seq (.reg [oP 2 (.box (.t 0)) [],oP 3 (.box (.t 1)) [],oP 4 (.mov (.k (.i .i64 0))) []]) (.seq (.drw [oP 5 (.fad 0 (.t 2)) [],oP 6 (.load true 2 (.t 5)) [0],oP 7 (.fad 2 (.t 3)) [],oP 8 (.load true 2 (.t 7)) [2],oP 9 (.call 118 [.t 6,.t 8]) [1,3],oP 10 (.fad 0 (.t 3)) [],oP 11 (.load true 2 (.t 10)) [5],oP 12 (.fad 2 (.t 2)) [],oP 13 (.load true 2 (.t 12)) [7],oP 14 (.call 118 [.t 11,.t 13]) [6,8,4],oP 15 (.call 124 [.t 9,.t 14]) [4,9,9],oM 4 15 [10,10,0,1,2,3,4,5,6,7,8,9,10]] [(6,4),(8,4)]) .ret),[.tmp 4]⟩
def zxH:XF:=⟨20,.seq (.reg [oP 1 (.box (.t 0)) [],oP 2 (.mov (.k (.b false))) []]) (.seq (.reg [oP 5 (.call 128 [.k (.i .i64 16000)]) [],oP 3 (.new [.b false,.sn]) [],oN (.store 2 (.t 3) (.t 5)) [1,0,0,0,1]]) (.seq (.reg [oP 6 (.fad 0 (.t 1)) [],oP 7 (.load true 2 (.t 6)) [0],oP 4 (.new [.b false,.sn]) [],oN (.store 2 (.t 4) (.t 7)) [2,1,0,1,2]]) (.seq (.reg [oP 8 (.fad 0 (.t 4)) [],oN (.store 1 (.t 8) (.k (.b false))) [0]]) (.seq (.reg [oP 9 (.load true 2 (.t 4)) [],oP 10 (.load true 2 (.t 3)) [],oP 11 (.call 124 [.t 9,.t 10]) [0,1],oP 12 (.bin .geq (.t 11) (.k (.i .i64 0))) [2],oM 13 12 [3,2],oF 14 (.fad 2 (.t 1)) [4] 13,oF 15 (.load true 2 (.t 14)) [5,4] 13,oF 16 (.load true 2 (.t 3)) [4] 13,oF 17 (.call 124 [.t 15,.t 16]) [6,7,4,4] 13,oF 18 (.bin .geq (.t 17) (.k (.i .i64 0))) [8,4] 13,oP 19 (.pick (.t 13) (.k (.b true)) (.t 18)) [4,9],oM 2 19 [10,8,0,1,2,3,4,5,6,7,8,9,10]]) .ret)))),[.tmp 2]⟩
def zxI:XF:=⟨35,.seq (.reg [oP 2 (.box (.t 0)) [],oP 3 (.box (.t 1)) [],oP 4 (.new [.b false,.sn,.b false,.sn]) [],oP 5 (.mov (.k (.i .i64 0))) []]) (.seq (.reg [oP 7 (.call 128 [.k (.i .i64 8192)]) [],oP 6 (.new [.b false,.sn]) [],oN (.store 2 (.t 6) (.t 7)) [1,0,0,0,1]]) (.seq (.seq (.drw [oP 8 (.load true 2 (.t 2)) [],oP 9 (.load true 2 (.t 6)) [],oP 10 (.call 123 [.t 9]) [1],oP 11 (.call 124 [.t 8,.t 10]) [0,2,2],oP 12 (.bin .leq (.t 11) (.k (.i .i64 0))) [3],oM 13 12 [4,3],oF 14 (.load true 2 (.t 3)) [5] 13,oF 15 (.load true 2 (.t 6)) [5] 13,oF 16 (.call 124 [.t 14,.t 15]) [6,7,5,5] 13,oF 17 (.bin .geq (.t 16) (.k (.i .i64 0))) [8,5] 13,oP 18 (.pick (.t 13) (.k (.b true)) (.t 17)) [5,9]] [(0,2)]) (.cond (.t 18) (.seq (.reg [oP 19 (.build [.b false,.sn,.b false,.sn] []) [],oN (.store 4 (.t 4) (.t 19)) [0,0],oP 5 (.mov (.k (.i .i64 4))) [1,0,1]]) .ret) .skip)) (.seq (.seq (.drw [oP 20 (.load true 2 (.t 3)) [],oP 21 (.load true 2 (.t 6)) [],oP 22 (.call 123 [.t 21]) [1],oP 23 (.call 124 [.t 20,.t 22]) [0,2,2],oP 24 (.bin .leq (.t 23) (.k (.i .i64 0))) [3],oM 25 24 [4,3],oF 26 (.load true 2 (.t 2)) [5] 25,oF 27 (.load true 2 (.t 6)) [5] 25,oF 28 (.call 124 [.t 26,.t 27]) [6,7,5,5] 25,oF 29 (.bin .geq (.t 28) (.k (.i .i64 0))) [8,5] 25,oP 30 (.pick (.t 25) (.k (.b true)) (.t 29)) [5,9]] [(0,2)]) (.cond (.t 30) (.seq (.reg [oP 31 (.build [.b false,.sn,.b false,.sn] []) [],oN (.store 4 (.t 4) (.t 31)) [0,0],oP 5 (.mov (.k (.i .i64 4))) [1,0,1]]) .ret) .skip)) (.seq (.reg [oP 32 (.load true 2 (.t 2)) [],oP 33 (.load true 2 (.t 3)) [],oP 34 (.build [.b false,.sn,.b false,.sn] [(0,(2,.t 32)),(2,(2,.t 33))]) [0,1],oN (.store 4 (.t 4) (.t 34)) [2,0,1,2],oP 5 (.mov (.k (.i .i64 0))) [3,0,1,2,3]]) .ret)))),[.cell 4 true 4,.tmp 5]⟩
def zwm:XF:=⟨20,.seq (.reg [oP 2 (.box (.t 0)) [],oP 3 (.box (.t 1)) [],oP 4 (.new [.b false,.sn]) []]) (.seq (.seq (.reg [oP 7 (.fad 0 (.t 3)) [],oP 8 (.load false 1 (.t 7)) [0]]) (.cond (.t 8) (.seq (.reg [oP 9 (.load true 2 (.t 2)) [],oP 10 (.call 123 [.t 9]) [0],oN (.store 2 (.t 2) (.t 10)) [1,1,0,1]]) (.reg [oP 11 (.load true 2 (.t 3)) [],oP 12 (.call 123 [.t 11]) [0],oN (.store 2 (.t 3) (.t 12)) [1,1,0,1]])) .skip)) (.seq (.reg [oP 14 (.load true 2 (.t 2)) [],oP 15 (.load true 2 (.t 3)) [],oP 16 (.call 120 [.t 14,.t 15]) [0,1],oM 13 16 [2],oP 17 (.ext (.t 13) 0) [3],oP 18 (.ext (.t 13) 1) [3],oP 5 (.new [.b false,.sn]) [],oP 6 (.new [.b false,.sn]) [],oN (.store 2 (.t 5) (.t 17)) [6,4,2,0,1,2,3,4,6,7],oN (.store 2 (.t 6) (.t 18)) [7,5,8,0,1,2,3,4,5,6,7,8]]) (.seq (.reg [oP 19 (.load true 2 (.t 5)) [],oN (.store 2 (.t 4) (.t 19)) [0,0]]) .ret))),[.cell 4 true 2]⟩
def zx0:XC:=.seq (.seq (.reg [oM 25 8 [],oP 26 (.fad 1 (.t 3)) [],oP 27 (.load false 1 (.t 26)) [1],oP 28 (.len (.t 27)) [2],oP 29 (.bin .lss (.t 25) (.t 28)) [0,3]]) (.cond (.t 29) .skip (.exit 2))) (.seq (.block 3 (.seq (.drw [oM 32 5 [],oM 33 6 [],oM 34 8 [],oP 35 (.bin .add (.t 33) (.t 34)) [1,2],oP 36 (.ixs 1 (.t 32) (.t 35)) [0,3],oP 37 (.load false 1 (.t 36)) [4],oP 38 (.fad 1 (.t 2)) [],oP 39 (.load false 1 (.t 38)) [6],oM 40 6 [],oP 41 (.ixs 1 (.t 39) (.t 40)) [7,8],oP 42 (.load false 1 (.t 41)) [9],oP 43 (.fad 1 (.t 3)) [],oP 44 (.load false 1 (.t 43)) [11],oM 45 8 [],oP 46 (.ixs 1 (.t 44) (.t 45)) [12,13],oP 47 (.load false 1 (.t 46)) [14],oP 48 (.bin .mul (.t 42) (.t 47)) [10,15],oP 49 (.bin .add (.t 37) (.t 48)) [5,16],oM 50 7 [],oP 51 (.bin .add (.t 49) (.t 50)) [17,18],oM 9 51 [19,0,1,2,3,4,5,6,7,8,9,10,11,12,13,14,15,16,17,18,19]] []) (.seq (.reg [oM 52 5 [],oM 53 6 [],oM 54 8 [],oP 55 (.bin .add (.t 53) (.t 54)) [1,2],oM 56 9 [],oP 57 (.bin .rem (.t 56) (.k (.i .i64 10000))) [4],oP 58 (.ixs 1 (.t 52) (.t 55)) [0,3,0,1,2,3,4,5],oN (.store 1 (.t 58) (.t 57)) [6,5,0,1,2,3,4,5]]) (.reg [oM 59 9 [],oP 60 (.bin .quo (.t 59) (.k (.i .i64 10000))) [0],oM 7 60 [1,0,1]])))) (.reg [oM 30 8 [],oP 31 (.bin .add (.t 30) (.k (.i .i64 1))) [0],oM 8 31 [1,0,1]]))
def zxZ:XC:=.seq (.seq (.reg [oM 18 6 [],oP 19 (.fad 1 (.t 2)) [],oP 20 (.load false 1 (.t 19)) [1],oP 21 (.len (.t 20)) [2],oP 22 (.bin .lss (.t 18) (.t 21)) [0,3]]) (.cond (.t 22) .skip (.exit 0))) (.seq (.block 1 (.seq (.reg [oP 7 (.mov (.k (.i .i64 0))) []]) (.seq (.seq (.reg [oP 8 (.mov (.k (.i .i64 0))) []]) (.block 2 (.loop zx0))) (.reg [oM 61 5 [],oM 62 6 [],oP 63 (.fad 1 (.t 3)) [],oP 64 (.load false 1 (.t 63)) [2],oP 65 (.len (.t 64)) [3],oP 66 (.bin .add (.t 62) (.t 65)) [1,4],oM 67 7 [],oP 68 (.ixs 1 (.t 61) (.t 66)) [0,5,0,1,2,3,4,5,6],oN (.store 1 (.t 68) (.t 67)) [7,6,0,1,2,3,4,5,6]])))) (.reg [oM 23 6 [],oP 24 (.bin .add (.t 23) (.k (.i .i64 1))) [0],oM 6 24 [1,0,1]]))
def zwH:XF:=⟨76,.seq (.reg [oP 2 (.box (.t 0)) [],oP 3 (.box (.t 1)) [],oP 4 (.new [.b false,.sn]) []]) (.seq (.reg [oP 10 (.fad 1 (.t 2)) [],oP 11 (.load false 1 (.t 10)) [0],oP 12 (.len (.t 11)) [1],oP 13 (.fad 1 (.t 3)) [],oP 14 (.load false 1 (.t 13)) [3],oP 15 (.len (.t 14)) [4],oP 16 (.bin .add (.t 12) (.t 15)) [2,5],oP 17 (.msl [.i .i64 0] 8 (.t 16) (.t 16)) [6,6],oM 5 17 [7,0,1,2,3,4,5,6,7]]) (.seq (.seq (.reg [oP 6 (.mov (.k (.i .i64 0))) []]) (.block 0 (.loop zxZ))) (.seq (.reg [oP 69 (.fad 0 (.t 2)) [],oP 70 (.load false 1 (.t 69)) [0],oP 71 (.fad 0 (.t 3)) [],oP 72 (.load false 1 (.t 71)) [2],oP 73 (.eqt true 0 (.t 70) (.t 72)) [1,3],oM 74 5 [],oP 75 (.call 132 [.t 73,.t 74]) [4,5],oN (.store 2 (.t 4) (.t 75)) [6,6,0,1,2,3,4,5,6]]) .ret))),[.cell 4 true 2]⟩
def zxO:XF:=⟨10,.seq (.reg [oP 2 (.box (.t 0)) [],oP 3 (.box (.t 1)) [],oP 4 (.new [.b false,.sn]) []]) (.seq (.drw [oP 5 (.load true 2 (.t 2)) [],oP 6 (.call 123 [.t 5]) [0],oP 7 (.load true 2 (.t 3)) [],oP 8 (.call 364 [.t 6,.t 7]) [1,2,1],oP 9 (.call 123 [.t 8]) [3,3],oN (.store 2 (.t 4) (.t 9)) [4,4,0,1,2,3,4]] [(2,1)]) .ret),[.cell 4 true 2]⟩
def zxQ:XF:=⟨9,.seq (.reg [oP 1 (.box (.t 0)) [],oP 2 (.new [.b false,.sn]) []]) (.seq (.reg [oP 3 (.fad 0 (.t 1)) [],oP 4 (.load false 1 (.t 3)) [0],oP 5 (.un .not (.t 4)) [1],oP 6 (.fad 1 (.t 1)) [],oP 7 (.load false 1 (.t 6)) [3],oP 8 (.call 132 [.t 5,.t 7]) [2,4],oN (.store 2 (.t 2) (.t 8)) [5,5,0,1,2,3,4,5]]) .ret),[.cell 2 true 2]⟩
def zwu:XF:=⟨12,.seq (.reg [oP 1 (.box (.t 0)) [],oP 2 (.new [.b false,.sn,.b false,.sn]) []]) (.seq (.drw [oP 6 (.load true 2 (.t 1)) [],oP 7 (.call 34 [.k (.i .i64 4294967296)]) [],oP 8 (.call 24 [.t 6,.t 7]) [0,1,1],oM 5 8 [2],oP 9 (.ext (.t 5) 0) [3],oP 10 (.ext (.t 5) 1) [3],oP 3 (.new [.b false,.sn,.b false,.sn]) [],oN (.store 4 (.t 3) (.t 9)) [6,4,2,0,1,2,3,4,6],oM 4 10 [5,7,0,1,2,3,4,5,6,7]] [(0,1)]) (.seq (.reg [oP 11 (.load true 4 (.t 3)) [],oN (.store 4 (.t 2) (.t 11)) [0,0]]) .ret)),[.cell 2 true 4]⟩
def zxF:XF:=⟨12,.seq (.reg [oP 2 (.box (.t 0)) [],oP 3 (.box (.t 1)) [],oP 4 (.new [.b false,.sn]) [],oP 5 (.mov (.k (.i .i64 0))) []]) (.seq (.drw [oP 6 (.load true 2 (.t 2)) [],oP 7 (.load true 2 (.t 3)) [],oP 8 (.call 43 [.t 7]) [1],oP 9 (.call 23 [.t 6,.t 8]) [0,2,2],oP 10 (.ext (.t 9) 0) [3],oP 11 (.ext (.t 9) 1) [3],oN (.store 2 (.t 4) (.t 10)) [4,3,0,1,2,3,4,5],oM 5 11 [5,6,0,1,2,3,4,5,6]] [(0,2)]) .ret),[.cell 4 true 2,.tmp 5]⟩
def zxh:XF:=⟨6,.seq (.reg [oP 1 (.box (.t 0)) [],oP 2 (.mov (.k (.i .i64 0))) []]) (.seq (.reg [oP 3 (.load true 2 (.t 1)) [],oP 4 (.build [.b false,.sn] []) [],oP 5 (.call 30 [.t 3,.t 4]) [0,1],oM 2 5 [2,2,0,1,2]]) .ret),[.tmp 2]⟩
def zvN:XC:=.seq (.seq (.reg [oM 16 4 [],oP 17 (.len (.t 16)) [0],oP 18 (.bin .gtr (.t 17) (.k (.i .i64 0))) [1]]) (.cond (.t 18) .skip (.exit 0))) (.block 1 (.seq (.reg [oM 20 4 [],oP 21 (.call 48 [.t 20,.k (.i .u32 1000000000)]) [0],oM 19 21 [1],oP 22 (.ext (.t 19) 0) [2],oP 23 (.ext (.t 19) 1) [2],oM 5 22 [3,1,0,1,2,3],oM 6 23 [4,5,0,1,2,3,4,5]]) (.seq (.reg [oM 24 5 [],oP 25 (.call 49 [.t 24]) [0],oM 4 25 [1,1,0,1]]) (.seq (.reg [oM 26 6 [],oP 27 (.cint .i64 (.t 26)) [0],oP 28 (.call 50 [.t 27]) [1],oM 7 28 [2,2,0,1,2]]) (.seq (.seq (.reg [oM 29 4 [],oP 30 (.len (.t 29)) [0],oP 31 (.bin .gtr (.t 30) (.k (.i .i64 0))) [1]]) (.cond (.t 31) (.reg [oM 32 7 [],oP 33 (.lens (.t 32)) [0],oP 34 (.bin .sub (.k (.i .i64 9)) (.t 33)) [1],oP 35 (.call 51 [.k (.s [48]),.t 34]) [2],oM 36 7 [],oP 37 (.bin .add (.t 35) (.t 36)) [3,4],oM 7 37 [5,3,0,1,2,3,4,5]]) .skip)) (.reg [oM 38 3 [],oM 39 7 [],oP 40 (.bsl 1 1 [.s []] [(0,(1,.t 39))]) [1],oP 41 (.app 1 16 (.t 38) (.t 40)) [0,2],oM 3 41 [3,3,0,1,2,3]]))))))
def zxl:XC:=.seq (.seq (.reg [oM 48 9 [],oP 49 (.bin .geq (.t 48) (.k (.i .i64 0))) [0]]) (.cond (.t 49) .skip (.exit 2))) (.seq (.block 3 (.reg [oM 52 3 [],oM 53 9 [],oP 54 (.ixs 1 (.t 52) (.t 53)) [0,1],oP 55 (.load false 1 (.t 54)) [2],oP 56 (.call 53 [.t 8,.t 55]) [3]])) (.reg [oM 50 9 [],oP 51 (.bin .sub (.t 50) (.k (.i .i64 1))) [0],oM 9 51 [1,0,1]]))
def zyf:XF:=⟨58,.seq (.reg [oP 1 (.box (.t 0)) [],oP 2 (.mov (.k (.s []))) []]) (.seq (.seq (.reg [oP 10 (.fad 1 (.t 1)) [],oP 11 (.load false 1 (.t 10)) [0],oP 12 (.len (.t 11)) [1],oP 13 (.bin .eql (.t 12) (.k (.i .i64 0))) [2]]) (.cond (.t 13) (.seq (.reg [oP 2 (.mov (.k (.s [48]))) []]) .ret) .skip)) (.seq (.reg [oP 3 (.mov (.k .sn)) []]) (.seq (.reg [oP 14 (.fad 1 (.t 1)) [],oP 15 (.load false 1 (.t 14)) [0],oM 4 15 [1,0,1]]) (.seq (.block 0 (.loop zvN)) (.seq (.reg [oP 8 (.new [.pn,.sn]) []]) (.seq (.seq (.reg [oP 42 (.fad 0 (.t 1)) [],oP 43 (.load false 1 (.t 42)) [0]]) (.cond (.t 43) (.reg [oP 44 (.call 52 [.t 8,.k (.i .u8 45)]) []]) .skip)) (.seq (.seq (.reg [oM 45 3 [],oP 46 (.len (.t 45)) [0],oP 47 (.bin .sub (.t 46) (.k (.i .i64 1))) [1],oM 9 47 [2,0,1,2]]) (.block 2 (.loop zxl))) (.seq (.reg [oP 57 (.call 54 [.t 8]) [],oM 2 57 [0,0,0]]) .ret)))))))),[.tmp 2]⟩
def zvS:XF:=⟨10,.seq (.reg [oP 1 (.box (.t 0)) [],oP 2 (.new [.b false,.sn]) []]) (.seq (.drw [oP 3 (.fad 2 (.t 1)) [],oP 4 (.load true 2 (.t 3)) [0],oP 5 (.call 34 [.k (.i .i64 1)]) [],oP 6 (.call 23 [.t 4,.t 5]) [1,2,2],oP 7 (.ext (.t 6) 0) [3],oP 8 (.ext (.t 6) 1) [3],oP 9 (.call 37 [.t 7,.t 8]) [4,5,3],oN (.store 2 (.t 2) (.t 9)) [6,6,0,1,2,3,4,5,6]] [(1,2)]) .ret),[.cell 2 true 2]⟩
def zxV:XC:=.seq (.seq (.reg [oM 33 5 [],oP 34 (.lens (.t 33)) [0],oP 35 (.bin .lss (.t 34) (.k (.i .i64 4))) [1]]) (.cond (.t 35) .skip (.exit 2))) (.block 3 (.reg [oM 36 5 [],oP 37 (.bin .add (.k (.s [48])) (.t 36)) [0],oM 5 37 [1,0,1]]))
def zyb:XC:=.seq (.seq (.reg [oM 23 4 [],oP 24 (.bin .geq (.t 23) (.k (.i .i64 0))) [0]]) (.cond (.t 24) .skip (.exit 0))) (.seq (.block 1 (.seq (.reg [oP 27 (.fad 1 (.t 1)) [],oP 28 (.load false 1 (.t 27)) [0],oM 29 4 [],oP 30 (.ixs 1 (.t 28) (.t 29)) [1,2],oP 31 (.load false 1 (.t 30)) [3],oP 32 (.call 127 [.t 31]) [4],oM 5 32 [5,5,0,1,2,3,4,5]]) (.seq (.block 2 (.loop zxV)) (.reg [oM 38 3 [],oM 39 5 [],oP 40 (.bin .add (.t 38) (.t 39)) [0,1],oM 3 40 [2,0,1,2]])))) (.reg [oM 25 4 [],oP 26 (.bin .sub (.t 25) (.k (.i .i64 1))) [0],oM 4 26 [1,0,1]]))
def zww:XF:=⟨46,.seq (.reg [oP 1 (.box (.t 0)) [],oP 2 (.mov (.k (.s []))) []]) (.seq (.seq (.reg [oP 6 (.fad 1 (.t 1)) [],oP 7 (.load false 1 (.t 6)) [0],oP 8 (.len (.t 7)) [1],oP 9 (.bin .eql (.t 8) (.k (.i .i64 0))) [2]]) (.cond (.t 9) (.seq (.reg [oP 2 (.mov (.k (.s [48]))) []]) .ret) .skip)) (.seq (.reg [oP 10 (.fad 1 (.t 1)) [],oP 11 (.load false 1 (.t 10)) [0],oP 12 (.fad 1 (.t 1)) [],oP 13 (.load false 1 (.t 12)) [2],oP 14 (.len (.t 13)) [3],oP 15 (.bin .sub (.t 14) (.k (.i .i64 1))) [4],oP 16 (.ixs 1 (.t 11) (.t 15)) [1,5],oP 17 (.load false 1 (.t 16)) [6],oP 18 (.call 127 [.t 17]) [7],oM 3 18 [8,8,0,1,2,3,4,5,6,7,8]]) (.seq (.seq (.reg [oP 19 (.fad 1 (.t 1)) [],oP 20 (.load false 1 (.t 19)) [0],oP 21 (.len (.t 20)) [1],oP 22 (.bin .sub (.t 21) (.k (.i .i64 2))) [2],oM 4 22 [3,0,1,2,3]]) (.block 0 (.loop zyb))) (.seq (.seq (.reg [oP 41 (.fad 0 (.t 1)) [],oP 42 (.load false 1 (.t 41)) [0]]) (.cond (.t 42) (.seq (.reg [oM 43 3 [],oP 44 (.bin .add (.k (.s [45])) (.t 43)) [0],oM 2 44 [1,0,1]]) .ret) .skip)) (.seq (.reg [oM 45 3 [],oM 2 45 [0,0]]) .ret))))),[.tmp 2]⟩
def zxP:XF:=⟨13,.seq (.reg [oP 4 (.new [.b false,.sn,.b false,.sn]) [],oP 5 (.mov (.k (.i .i64 0))) []]) (.seq (.reg [oM 6 0 [],oP 7 (.call 34 [.t 6]) [0],oM 8 1 [],oP 9 (.call 34 [.t 8]) [2,1],oP 10 (.call 24 [.t 7,.t 9]) [1,3,3],oP 11 (.ext (.t 10) 0) [4],oP 12 (.ext (.t 10) 1) [4],oN (.store 4 (.t 4) (.t 11)) [5,4,0,1,2,3,4,5,6],oM 5 12 [6,7,0,1,2,3,4,5,6,7]]) .ret),[.cell 4 true 4,.tmp 5]⟩
def zv6:XF:=⟨28,.seq (.reg [oP 2 (.box (.t 0)) [],oP 3 (.box (.t 1)) [],oP 4 (.new [.b false,.sn,.b false,.sn]) [],oP 5 (.mov (.k (.i .i64 0))) []]) (.seq (.seq (.reg [oP 7 (.fad 0 (.t 3)) [],oP 8 (.load true 2 (.t 7)) [0],oP 9 (.call 31 [.t 8]) [1],oP 10 (.bin .leq (.t 9) (.k (.i .i64 0))) [2],oM 11 10 [3,2],oT 12 (.fad 2 (.t 3)) [4] 11,oT 13 (.load true 2 (.t 12)) [5,4] 11,oT 14 (.call 31 [.t 13]) [6,4,4] 11,oT 15 (.bin .geq (.t 14) (.k (.i .i64 0))) [7,4] 11,oP 16 (.pick (.t 11) (.t 15) (.k (.b false))) [4,8]]) (.cond (.t 16) (.seq (.reg [oP 17 (.build [.b false,.sn,.b false,.sn] []) [],oN (.store 4 (.t 4) (.t 17)) [0,0],oP 5 (.mov (.k (.i .i64 9))) [1,0,1]]) .ret) .skip)) (.seq (.reg [oP 18 (.mfn 380 [.t 2,.t 3]) [],oM 6 18 [0,0]]) (.seq (.drw [oM 19 6 [],oP 20 (.load true 2 (.k (.p 3 0))) [],oP 21 (.callv (.t 19) [.t 20]) [0,1],oM 22 6 [],oP 23 (.load true 2 (.k (.p 4 0))) [],oP 24 (.callv (.t 22) [.t 23]) [3,4,2],oP 25 (.call 290 [.t 21,.t 24]) [2,5,5],oP 26 (.ext (.t 25) 0) [6],oP 27 (.ext (.t 25) 1) [6],oN (.store 4 (.t 4) (.t 26)) [7,6,0,1,2,3,4,5,6,7,8],oM 5 27 [8,9,0,1,2,3,4,5,6,7,8,9]] [(4,2)]) .ret))),[.cell 4 true 4,.tmp 5]⟩
def zvZ:XC:=.seq (.reg [oP 15 (.bin .lss (.t 14) (.t 13)) []]) (.seq (.cond (.t 15) .skip (.exit 0)) (.seq (.block 1 (.seq (.reg [oP 16 (.ixs 2 (.t 12) (.t 14)) [],oP 17 (.load true 2 (.t 16)) [0],oP 7 (.new [.b false,.sn]) [],oN (.store 2 (.t 7) (.t 17)) [2,1,0,1,2]]) (.seq (.reg [oP 18 (.fad 1 (.t 2)) [],oP 19 (.load false 1 (.t 18)) [0],oP 20 (.load true 2 (.t 7)) [],oP 21 (.load true 2 (.t 5)) [],oP 22 (.callv (.t 19) [.t 20,.t 21]) [1,2,3]]) (.cond (.t 22) (.reg [oP 23 (.load true 2 (.t 7)) [],oN (.store 2 (.t 5) (.t 23)) [0,0]]) .skip)))) (.reg [oP 24 (.bin .add (.t 14) (.k (.i .i64 1))) [],oM 14 24 [0]])))
def zvI:XF:=⟨26,.seq (.reg [oP 2 (.box (.t 0)) [],oP 4 (.new [.b false,.sn]) []]) (.seq (.reg [oM 8 1 [],oP 9 (.ixs 2 (.t 8) (.k (.i .i64 0))) [0],oP 10 (.load true 2 (.t 9)) [1],oP 5 (.new [.b false,.sn]) [],oN (.store 2 (.t 5) (.t 10)) [3,2,0,1,2,3]]) (.seq (.seq (.reg [oM 11 1 [],oP 12 (.slsl 2 (.t 11) (some (.k (.i .i64 1))) none none) [0],oP 13 (.len (.t 12)) [1],oP 14 (.mov (.k (.i .i64 0))) []]) (.block 0 (.loop zvZ))) (.seq (.reg [oP 25 (.load true 2 (.t 5)) [],oN (.store 2 (.t 4) (.t 25)) [0,0]]) .ret))),[.cell 4 true 2]⟩
def zwE:XF:=⟨28,.seq (.reg [oP 2 (.box (.t 0)) [],oP 3 (.box (.t 1)) [],oP 4 (.mov (.k (.i .i64 0))) []]) (.seq (.block 0 (.seq (.reg [oP 6 (.fad 0 (.t 2)) [],oP 7 (.load false 1 (.t 6)) [0],oM 8 7 [1],oT 9 (.fad 0 (.t 3)) [2] 8,oT 10 (.load false 1 (.t 9)) [3,2] 8,oP 11 (.pick (.t 8) (.t 10) (.k (.b false))) [2,4],oM 5 11 [5,2]]) (.cond (.t 5) (.seq (.reg [oP 12 (.fad 1 (.t 3)) [],oP 13 (.load false 1 (.t 12)) [0],oP 14 (.fad 1 (.t 2)) [],oP 15 (.load false 1 (.t 14)) [2],oP 16 (.call 41 [.t 13,.t 15]) [1,3],oM 4 16 [4,4,0,1,2,3,4]]) .ret) (.seq (.reg [oP 18 (.fad 0 (.t 2)) [],oP 19 (.load false 1 (.t 18)) [0],oM 17 19 [1]]) (.cond (.t 17) (.seq (.reg [oP 4 (.mov (.k (.i .i64 (-1)))) []]) .ret) (.seq (.reg [oP 21 (.fad 0 (.t 3)) [],oP 22 (.load false 1 (.t 21)) [0],oM 20 22 [1]]) (.cond (.t 20) (.seq (.reg [oP 4 (.mov (.k (.i .i64 1))) []]) .ret) .skip))))))) (.seq (.reg [oP 23 (.fad 1 (.t 2)) [],oP 24 (.load false 1 (.t 23)) [0],oP 25 (.fad 1 (.t 3)) [],oP 26 (.load false 1 (.t 25)) [2],oP 27 (.call 41 [.t 24,.t 26]) [1,3],oM 4 27 [4,4,0,1,2,3,4]]) .ret)),[.tmp 4]⟩
def zx7:XC:=.seq (.seq (.reg [oM 5 1 [],oP 6 (.len (.t 5)) [0],oP 7 (.bin .gtr (.t 6) (.k (.i .i64 0))) [1],oM 8 7 [2],oT 9 (.mov (.t 1)) [3] 8,oT 10 (.mov (.t 1)) [3] 8,oT 11 (.len (.t 10)) [5,3] 8,oT 12 (.bin .sub (.t 11) (.k (.i .i64 1))) [6,3] 8,oT 13 (.ixs 1 (.t 9) (.t 12)) [4,7,3] 8,oT 14 (.load false 1 (.t 13)) [8,3] 8,oT 15 (.bin .eql (.t 14) (.k (.i .i64 0))) [9,3] 8,oP 16 (.pick (.t 8) (.t 15) (.k (.b false))) [3,10]]) (.cond (.t 16) .skip (.exit 0))) (.block 1 (.reg [oM 17 1 [],oM 18 1 [],oP 19 (.len (.t 18)) [1],oP 20 (.bin .sub (.t 19) (.k (.i .i64 1))) [2],oP 21 (.slsl 1 (.t 17) none (some (.t 20)) none) [0,3],oM 1 21 [4,0,1,2,3,4]]))
def zwW:XF:=⟨30,.seq (.reg [oP 4 (.new [.b false,.sn]) []]) (.seq (.block 0 (.loop zx7)) (.seq (.reg [oM 22 0 [],oM 23 22 [0],oT 24 (.mov (.t 1)) [1] 23,oT 25 (.len (.t 24)) [2,1] 23,oT 26 (.bin .gtr (.t 25) (.k (.i .i64 0))) [3,1] 23,oP 27 (.pick (.t 23) (.t 26) (.k (.b false))) [1,4],oM 28 1 [],oP 29 (.build [.b false,.sn] [(0,(1,.t 27)),(1,(1,.t 28))]) [5,6],oN (.store 2 (.t 4) (.t 29)) [7,1,0,1,2,3,4,5,6,7]]) .ret)),[.cell 4 true 2]⟩
def zyc:XC:=.seq (.seq (.reg [oM 9 7 [],oM 10 0 [],oP 11 (.len (.t 10)) [1],oP 12 (.bin .lss (.t 9) (.t 11)) [0,2],oM 13 12 [3],oF 14 (.mov (.t 7)) [4] 13,oF 15 (.mov (.t 1)) [4] 13,oF 16 (.len (.t 15)) [6,4] 13,oF 17 (.bin .lss (.t 14) (.t 16)) [5,7,4] 13,oP 18 (.pick (.t 13) (.k (.b true)) (.t 17)) [4,8],oM 19 18 [9,4],oF 20 (.mov (.t 6)) [10] 19,oF 21 (.bin .gtr (.t 20) (.k (.i .i64 0))) [11,10] 19,oP 22 (.pick (.t 19) (.k (.b true)) (.t 21)) [10,12]]) (.cond (.t 22) .skip (.exit 0))) (.seq (.block 1 (.seq (.reg [oM 25 0 [],oM 26 7 [],oP 27 (.call 147 [.t 25,.t 26]) [0,1],oM 28 1 [],oM 29 7 [],oP 30 (.call 147 [.t 28,.t 29]) [3,4,2],oP 31 (.bin .add (.t 27) (.t 30)) [2,5],oM 32 6 [],oP 33 (.bin .add (.t 31) (.t 32)) [6,7],oM 8 33 [8,5,0,1,2,3,4,5,6,7,8]]) (.seq (.reg [oM 34 5 [],oM 35 8 [],oP 36 (.bin .rem (.t 35) (.k (.i .i64 10000))) [1],oP 37 (.bsl 1 1 [.i .i64 0] [(0,(1,.t 36))]) [2],oP 38 (.app 1 8 (.t 34) (.t 37)) [0,3],oM 5 38 [4,4,0,1,2,3,4]]) (.reg [oM 39 8 [],oP 40 (.bin .quo (.t 39) (.k (.i .i64 10000))) [0],oM 6 40 [1,0,1]])))) (.reg [oM 23 7 [],oP 24 (.bin .add (.t 23) (.k (.i .i64 1))) [0],oM 7 24 [1,0,1]]))
def zxw:XF:=⟨42,.seq (.reg [oP 4 (.mov (.k .sn)) []]) (.seq (.reg [oP 5 (.mov (.k .sn)) []]) (.seq (.reg [oP 6 (.mov (.k (.i .i64 0))) []]) (.seq (.seq (.reg [oP 7 (.mov (.k (.i .i64 0))) []]) (.block 0 (.loop zyc))) (.seq (.reg [oM 41 5 [],oM 4 41 [0,0]]) .ret)))),[.tmp 4]⟩
def zxY:XC:=.seq (.seq (.reg [oM 19 5 [],oP 20 (.bin .geq (.t 19) (.k (.i .i64 0))) [0]]) (.cond (.t 20) .skip (.exit 0))) (.seq (.block 1 (.seq (.seq (.drw [oM 23 0 [],oM 24 5 [],oP 25 (.ixs 1 (.t 23) (.t 24)) [0,1],oP 26 (.load false 1 (.t 25)) [2],oM 27 1 [],oM 28 5 [],oP 29 (.ixs 1 (.t 27) (.t 28)) [4,5],oP 30 (.load false 1 (.t 29)) [6],oP 31 (.bin .lss (.t 26) (.t 30)) [3,7]] []) (.cond (.t 31) (.seq (.reg [oP 4 (.mov (.k (.i .i64 (-1)))) []]) .ret) .skip)) (.seq (.drw [oM 32 0 [],oM 33 5 [],oP 34 (.ixs 1 (.t 32) (.t 33)) [0,1],oP 35 (.load false 1 (.t 34)) [2],oM 36 1 [],oM 37 5 [],oP 38 (.ixs 1 (.t 36) (.t 37)) [4,5],oP 39 (.load false 1 (.t 38)) [6],oP 40 (.bin .gtr (.t 35) (.t 39)) [3,7]] []) (.cond (.t 40) (.seq (.reg [oP 4 (.mov (.k (.i .i64 1))) []]) .ret) .skip)))) (.reg [oM 21 5 [],oP 22 (.bin .sub (.t 21) (.k (.i .i64 1))) [0],oM 5 22 [1,0,1]]))
def zwB:XF:=⟨41,.seq (.reg [oP 4 (.mov (.k (.i .i64 0))) []]) (.seq (.seq (.reg [oM 6 0 [],oP 7 (.len (.t 6)) [0],oM 8 1 [],oP 9 (.len (.t 8)) [2],oP 10 (.bin .lss (.t 7) (.t 9)) [1,3]]) (.cond (.t 10) (.seq (.reg [oP 4 (.mov (.k (.i .i64 (-1)))) []]) .ret) .skip)) (.seq (.seq (.reg [oM 11 0 [],oP 12 (.len (.t 11)) [0],oM 13 1 [],oP 14 (.len (.t 13)) [2],oP 15 (.bin .gtr (.t 12) (.t 14)) [1,3]]) (.cond (.t 15) (.seq (.reg [oP 4 (.mov (.k (.i .i64 1))) []]) .ret) .skip)) (.seq (.seq (.reg [oM 16 0 [],oP 17 (.len (.t 16)) [0],oP 18 (.bin .sub (.t 17) (.k (.i .i64 1))) [1],oM 5 18 [2,0,1,2]]) (.block 0 (.loop zxY))) (.seq (.reg [oP 4 (.mov (.k (.i .i64 0))) []]) .ret)))),[.tmp 4]⟩
def zx8:XC:=.seq (.seq (.reg [oM 9 7 [],oM 10 0 [],oP 11 (.len (.t 10)) [1],oP 12 (.bin .lss (.t 9) (.t 11)) [0,2]]) (.cond (.t 12) .skip (.exit 0))) (.seq (.block 1 (.seq (.reg [oM 15 0 [],oM 16 7 [],oP 17 (.call 147 [.t 15,.t 16]) [0,1],oM 18 1 [],oM 19 7 [],oP 20 (.call 147 [.t 18,.t 19]) [3,4,2],oP 21 (.bin .sub (.t 17) (.t 20)) [2,5],oM 22 6 [],oP 23 (.bin .sub (.t 21) (.t 22)) [6,7],oM 8 23 [8,5,0,1,2,3,4,5,6,7,8]]) (.seq (.reg [oP 6 (.mov (.k (.i .i64 0))) []]) (.seq (.seq (.reg [oM 24 8 [],oP 25 (.bin .lss (.t 24) (.k (.i .i64 0))) [0]]) (.cond (.t 25) (.seq (.reg [oM 26 8 [],oP 27 (.bin .add (.t 26) (.k (.i .i64 10000))) [0],oM 8 27 [1,0,1]]) (.reg [oP 6 (.mov (.k (.i .i64 1))) []])) .skip)) (.reg [oM 28 5 [],oM 29 8 [],oP 30 (.bsl 1 1 [.i .i64 0] [(0,(1,.t 29))]) [1],oP 31 (.app 1 8 (.t 28) (.t 30)) [0,2],oM 5 31 [3,3,0,1,2,3]]))))) (.reg [oM 13 7 [],oP 14 (.bin .add (.t 13) (.k (.i .i64 1))) [0],oM 7 14 [1,0,1]]))
def zw6:XF:=⟨33,.seq (.reg [oP 4 (.mov (.k .sn)) []]) (.seq (.reg [oP 5 (.mov (.k .sn)) []]) (.seq (.reg [oP 6 (.mov (.k (.i .i64 0))) []]) (.seq (.seq (.reg [oP 7 (.mov (.k (.i .i64 0))) []]) (.block 0 (.loop zx8))) (.seq (.reg [oM 32 5 [],oM 4 32 [0,0]]) .ret)))),[.tmp 4]⟩
def zx2:XF:=⟨7,.seq (.reg [oP 2 (.new [.b false,.sn,.b false,.sn]) []]) (.seq (.reg [oM 3 0 [],oP 4 (.call 114 [.t 3]) [0],oP 5 (.call 114 [.k (.i .i64 1)]) [1],oP 6 (.build [.b false,.sn,.b false,.sn] [(0,(2,.t 4)),(2,(2,.t 5))]) [1,2],oN (.store 4 (.t 2) (.t 6)) [3,2,0,1,2,3]]) .ret),[.cell 2 true 4]⟩
def zyd:XC:=.seq (.seq (.reg [oP 15 (.fad 1 (.t 6)) [],oP 16 (.load false 1 (.t 15)) [0],oP 17 (.len (.t 16)) [1],oP 18 (.bin .gtr (.t 17) (.k (.i .i64 0))) [2]]) (.cond (.t 18) .skip (.exit 0))) (.block 1 (.seq (.reg [oP 20 (.load true 2 (.t 5)) [],oP 21 (.load true 2 (.t 6)) [],oP 22 (.call 120 [.t 20,.t 21]) [0,1],oM 19 22 [2],oP 23 (.ext (.t 19) 0) [3],oP 24 (.ext (.t 19) 1) [3],oP 7 (.new [.b false,.sn]) [],oP 8 (.new [.b false,.sn]) [],oN (.store 2 (.t 7) (.t 23)) [6,4,2,0,1,2,3,4,6,7],oN (.store 2 (.t 8) (.t 24)) [7,5,8,0,1,2,3,4,5,6,7,8]]) (.seq (.reg [oP 25 (.load true 2 (.t 6)) [],oN (.store 2 (.t 5) (.t 25)) [0,0]]) (.reg [oP 26 (.load true 2 (.t 8)) [],oN (.store 2 (.t 6) (.t 26)) [0,0]]))))
def zxU:XF:=⟨28,.seq (.reg [oP 2 (.box (.t 0)) [],oP 3 (.box (.t 1)) [],oP 4 (.new [.b false,.sn]) []]) (.seq (.reg [oP 9 (.fad 1 (.t 2)) [],oP 10 (.load false 1 (.t 9)) [0],oP 11 (.call 132 [.k (.b false),.t 10]) [1],oP 5 (.new [.b false,.sn]) [],oN (.store 2 (.t 5) (.t 11)) [3,2,2,0,1,2,3]]) (.seq (.reg [oP 12 (.fad 1 (.t 3)) [],oP 13 (.load false 1 (.t 12)) [0],oP 14 (.call 132 [.k (.b false),.t 13]) [1],oP 6 (.new [.b false,.sn]) [],oN (.store 2 (.t 6) (.t 14)) [3,2,2,0,1,2,3]]) (.seq (.block 0 (.loop zyd)) (.seq (.reg [oP 27 (.load true 2 (.t 5)) [],oN (.store 2 (.t 4) (.t 27)) [0,0]]) .ret)))),[.cell 4 true 2]⟩
def zxR:XF:=⟨54,.seq (.reg [oP 2 (.box (.t 0)) [],oP 3 (.box (.t 1)) [],oP 4 (.new [.b false,.sn]) [],oP 5 (.new [.b false,.sn]) []]) (.seq (.reg [oP 12 (.fad 1 (.t 2)) [],oP 13 (.load false 1 (.t 12)) [0],oP 14 (.fad 1 (.t 3)) [],oP 15 (.load false 1 (.t 14)) [2],oP 16 (.call 136 [.t 13,.t 15]) [1,3],oM 11 16 [4],oP 17 (.ext (.t 11) 0) [5],oP 18 (.ext (.t 11) 1) [5],oM 6 17 [6,4,0,1,2,3,4,5,6],oM 7 18 [7,8,0,1,2,3,4,5,6,7,8]]) (.seq (.reg [oP 19 (.fad 0 (.t 2)) [],oP 20 (.load false 1 (.t 19)) [0],oP 21 (.fad 0 (.t 3)) [],oP 22 (.load false 1 (.t 21)) [2],oP 23 (.eqt true 0 (.t 20) (.t 22)) [1,3],oM 24 6 [],oP 25 (.call 132 [.t 23,.t 24]) [4,5],oP 8 (.new [.b false,.sn]) [],oN (.store 2 (.t 8) (.t 25)) [7,6,6,0,1,2,3,4,5,6,7]]) (.seq (.reg [oM 26 7 [],oP 27 (.call 132 [.k (.b false),.t 26]) [0],oP 9 (.new [.b false,.sn]) [],oN (.store 2 (.t 9) (.t 27)) [2,1,1,0,1,2]]) (.seq (.seq (.reg [oP 28 (.fad 0 (.t 2)) [],oP 29 (.load false 1 (.t 28)) [0],oM 30 29 [1],oT 31 (.fad 1 (.t 9)) [2] 30,oT 32 (.load false 1 (.t 31)) [3,2] 30,oT 33 (.len (.t 32)) [4,2] 30,oT 34 (.bin .gtr (.t 33) (.k (.i .i64 0))) [5,2] 30,oP 35 (.pick (.t 30) (.t 34) (.k (.b false))) [2,6]]) (.cond (.t 35) (.seq (.reg [oP 36 (.fad 0 (.t 2)) [],oP 37 (.load false 1 (.t 36)) [0],oP 38 (.fad 0 (.t 3)) [],oP 39 (.load false 1 (.t 38)) [2],oP 40 (.eqt true 0 (.t 37) (.t 39)) [1,3],oP 41 (.bsl 1 1 [.i .i64 0] [(0,(1,.k (.i .i64 1)))]) [],oP 42 (.call 132 [.t 40,.t 41]) [4,5],oP 10 (.new [.b false,.sn]) [],oN (.store 2 (.t 10) (.t 42)) [7,6,6,0,1,2,3,4,5,6,7]]) (.seq (.reg [oP 43 (.load true 2 (.t 8)) [],oP 44 (.load true 2 (.t 10)) [],oP 45 (.call 119 [.t 43,.t 44]) [0,1],oN (.store 2 (.t 8) (.t 45)) [2,2,0,1,2]]) (.reg [oP 46 (.fad 1 (.t 3)) [],oP 47 (.load false 1 (.t 46)) [0],oP 48 (.fad 1 (.t 9)) [],oP 49 (.load false 1 (.t 48)) [2],oP 50 (.call 135 [.t 47,.t 49]) [1,3],oP 51 (.call 132 [.k (.b false),.t 50]) [4,4],oN (.store 2 (.t 9) (.t 51)) [5,5,0,1,2,3,4,5]]))) .skip)) (.seq (.drw [oP 52 (.load true 2 (.t 8)) [],oP 53 (.load true 2 (.t 9)) [],oN (.store 2 (.t 4) (.t 52)) [0,0],oN (.store 2 (.t 5) (.t 53)) [1,2,0,1,2]] [(1,2)]) .ret))))),[.cell 4 true 2,.cell 5 true 2]⟩
def zxN:XF:=⟨39,.seq (.reg [oP 2 (.box (.t 0)) [],oP 3 (.box (.t 1)) [],oP 4 (.new [.b false,.sn]) [],oP 5 (.mov (.k (.i .i64 0))) []]) (.seq (.seq (.reg [oP 6 (.fad 0 (.t 2)) [],oP 7 (.load false 1 (.t 6)) [0],oP 8 (.fad 0 (.t 3)) [],oP 9 (.load false 1 (.t 8)) [2],oP 10 (.eqt false 0 (.t 7) (.t 9)) [1,3]]) (.cond (.t 10) (.seq (.drw [oP 11 (.fad 0 (.t 2)) [],oP 12 (.load false 1 (.t 11)) [0],oP 13 (.fad 1 (.t 2)) [],oP 14 (.load false 1 (.t 13)) [2],oP 15 (.fad 1 (.t 3)) [],oP 16 (.load false 1 (.t 15)) [4],oP 17 (.call 40 [.t 14,.t 16]) [3,5],oP 18 (.call 36 [.t 12,.t 17]) [1,6,6],oP 19 (.ext (.t 18) 0) [7],oP 20 (.ext (.t 18) 1) [7],oN (.store 2 (.t 4) (.t 19)) [8,7,0,1,2,3,4,5,6,7,8,9],oM 5 20 [9,10,0,1,2,3,4,5,6,7,8,9,10]] [(1,6)]) .ret) .skip)) (.seq (.seq (.reg [oP 21 (.fad 1 (.t 2)) [],oP 22 (.load false 1 (.t 21)) [0],oP 23 (.fad 1 (.t 3)) [],oP 24 (.load false 1 (.t 23)) [2],oP 25 (.call 41 [.t 22,.t 24]) [1,3],oP 26 (.bin .lss (.t 25) (.k (.i .i64 0))) [4]]) (.cond (.t 26) (.reg [oP 27 (.load true 2 (.t 3)) [],oP 28 (.load true 2 (.t 2)) [],oN (.store 2 (.t 2) (.t 27)) [0,0,1],oN (.store 2 (.t 3) (.t 28)) [1,2,0,1,2]]) .skip)) (.seq (.drw [oP 29 (.fad 0 (.t 2)) [],oP 30 (.load false 1 (.t 29)) [0],oP 31 (.fad 1 (.t 2)) [],oP 32 (.load false 1 (.t 31)) [2],oP 33 (.fad 1 (.t 3)) [],oP 34 (.load false 1 (.t 33)) [4],oP 35 (.call 42 [.t 32,.t 34]) [3,5],oP 36 (.call 36 [.t 30,.t 35]) [1,6,6],oP 37 (.ext (.t 36) 0) [7],oP 38 (.ext (.t 36) 1) [7],oN (.store 2 (.t 4) (.t 37)) [8,7,0,1,2,3,4,5,6,7,8,9],oM 5 38 [9,10,0,1,2,3,4,5,6,7,8,9,10]] [(1,6)]) .ret))),[.cell 4 true 2,.tmp 5]⟩
def zwe:XF:=⟨10,.seq (.reg [oP 3 (.box (.t 0)) [],oP 4 (.new [.b false,.sn]) []]) (.seq (.reg [oP 5 (.load true 2 (.t 3)) [],oP 6 (.load true 4 (.t 1)) [],oP 7 (.load true 4 (.t 2)) [],oP 8 (.mfn 386 [.t 3]) [],oP 9 (.call 381 [.t 5,.t 6,.t 7,.t 8]) [0,1,2,3],oN (.store 2 (.t 4) (.t 9)) [4,4,0,1,2,3,4]]) .ret),[.cell 4 true 2]⟩
def zvH:XF:=⟨36,.seq (.reg [oP 4 (.box (.t 0)) [],oP 5 (.box (.t 1)) [],oP 6 (.box (.t 2)) [],oP 8 (.new [.b false,.sn]) []]) (.seq (.drw [oP 9 (.load true 2 (.t 4)) [],oM 10 3 [],oP 11 (.fad 0 (.t 5)) [],oP 12 (.load true 2 (.t 11)) [2],oP 13 (.fad 0 (.t 6)) [],oP 14 (.load true 2 (.t 13)) [4],oP 15 (.callv (.t 10) [.t 12,.t 14]) [1,3,5],oM 16 3 [],oP 17 (.fad 0 (.t 5)) [],oP 18 (.load true 2 (.t 17)) [8],oP 19 (.fad 2 (.t 6)) [],oP 20 (.load true 2 (.t 19)) [10],oP 21 (.callv (.t 16) [.t 18,.t 20]) [7,9,11,6],oM 22 3 [],oP 23 (.fad 2 (.t 5)) [],oP 24 (.load true 2 (.t 23)) [14],oP 25 (.fad 0 (.t 6)) [],oP 26 (.load true 2 (.t 25)) [16],oP 27 (.callv (.t 22) [.t 24,.t 26]) [13,15,17,12],oM 28 3 [],oP 29 (.fad 2 (.t 5)) [],oP 30 (.load true 2 (.t 29)) [20],oP 31 (.fad 2 (.t 6)) [],oP 32 (.load true 2 (.t 31)) [22],oP 33 (.callv (.t 28) [.t 30,.t 32]) [19,21,23,18],oP 34 (.bsl 4 2 [.b false,.sn] [(0,(2,.t 15)),(2,(2,.t 21)),(4,(2,.t 27)),(6,(2,.t 33))]) [6,12,18,24],oP 35 (.call 387 [.t 9,.t 34]) [0,25,24],oN (.store 2 (.t 8) (.t 35)) [26,26,0,1,2,3,4,5,6,7,8,9,10,11,12,13,14,15,16,17,18,19,20,21,22,23,24,25,26]] [(0,6),(9,6),(11,6),(0,12),(15,6),(15,12),(17,6),(17,12),(0,18),(21,6),(21,12),(21,18),(23,6),(23,12),(23,18),(0,24)]) .ret),[.cell 8 true 2]⟩
def zv5:XF:=⟨25,.seq (.reg [oP 3 (.box (.t 0)) [],oP 4 (.box (.t 1)) [],oP 5 (.new [.b false,.sn]) []]) (.seq (.reg [oP 11 (.load true 2 (.t 3)) [],oP 12 (.load true 2 (.t 4)) [],oP 13 (.call 38 [.t 11,.t 12]) [0,1],oM 10 13 [2],oP 14 (.ext (.t 10) 0) [3],oP 15 (.ext (.t 10) 1) [3],oP 6 (.new [.b false,.sn]) [],oN (.store 2 (.t 6) (.t 14)) [6,4,2,0,1,2,3,4,6],oM 7 15 [5,7,0,1,2,3,4,5,6,7]]) (.seq (.drw [oP 17 (.fad 0 (.t 2)) [],oP 18 (.load false 1 (.t 17)) [0],oP 19 (.load true 2 (.t 6)) [],oP 20 (.call 34 [.k (.i .i64 4294967296)]) [],oP 21 (.callv (.t 18) [.t 19,.t 20]) [1,2,3,3],oM 16 21 [4],oP 22 (.ext (.t 16) 0) [5],oP 23 (.ext (.t 16) 1) [5],oP 8 (.new [.b false,.sn]) [],oN (.store 2 (.t 8) (.t 22)) [8,6,4,0,1,2,3,4,5,6,8],oM 9 23 [7,9,0,1,2,3,4,5,6,7,8,9]] [(1,3),(2,3)]) (.seq (.reg [oP 24 (.load true 2 (.t 8)) [],oN (.store 2 (.t 5) (.t 24)) [0,0]]) .ret))),[.cell 5 true 2]⟩
def zxM:XF:=⟨19,.seq (.reg [oP 2 (.box (.t 0)) [],oP 3 (.box (.t 1)) [],oP 4 (.new [.b false,.sn]) [],oP 5 (.mov (.k (.i .i64 0))) []]) (.seq (.drw [oP 6 (.fad 0 (.t 2)) [],oP 7 (.load false 1 (.t 6)) [0],oP 8 (.fad 0 (.t 3)) [],oP 9 (.load false 1 (.t 8)) [2],oP 10 (.eqt true 0 (.t 7) (.t 9)) [1,3],oP 11 (.fad 1 (.t 2)) [],oP 12 (.load false 1 (.t 11)) [5],oP 13 (.fad 1 (.t 3)) [],oP 14 (.load false 1 (.t 13)) [7],oP 15 (.call 59 [.t 12,.t 14]) [6,8],oP 16 (.call 36 [.t 10,.t 15]) [4,9,9],oP 17 (.ext (.t 16) 0) [10],oP 18 (.ext (.t 16) 1) [10],oN (.store 2 (.t 4) (.t 17)) [11,10,0,1,2,3,4,5,6,7,8,9,10,11,12],oM 5 18 [12,13,0,1,2,3,4,5,6,7,8,9,10,11,12,13]] [(1,9),(3,9)]) .ret),[.cell 4 true 2,.tmp 5]⟩
def zxq:XF:=⟨17,.seq (.reg [oP 2 (.box (.t 0)) [],oP 3 (.box (.t 1)) [],oP 4 (.new [.b false,.sn,.b false,.sn]) [],oP 5 (.mov (.k (.i .i64 0))) []]) (.seq (.drw [oP 6 (.load true 4 (.t 2)) [],oP 7 (.fad 2 (.t 3)) [],oP 8 (.load true 2 (.t 7)) [1],oP 9 (.call 43 [.t 8]) [2],oP 10 (.fad 0 (.t 3)) [],oP 11 (.load true 2 (.t 10)) [4],oP 12 (.call 43 [.t 11]) [5,3],oP 13 (.build [.b false,.sn,.b false,.sn] [(0,(2,.t 9)),(2,(2,.t 12))]) [3,6],oP 14 (.call 379 [.t 6,.t 13]) [0,7,6],oP 15 (.ext (.t 14) 0) [8],oP 16 (.ext (.t 14) 1) [8],oN (.store 4 (.t 4) (.t 15)) [9,8,0,1,2,3,4,5,6,7,8,9,10],oM 5 16 [10,11,0,1,2,3,4,5,6,7,8,9,10,11]] [(0,3),(5,3),(0,6)]) .ret),[.cell 4 true 4,.tmp 5]⟩
def zwQ:XF:=⟨24,.seq (.reg [oP 2 (.box (.t 0)) [],oP 3 (.box (.t 1)) [],oP 4 (.mov (.k (.i .i64 0))) []]) (.seq (.seq (.reg [oP 5 (.fad 0 (.t 2)) [],oP 6 (.load false 1 (.t 5)) [0],oP 7 (.fad 0 (.t 3)) [],oP 8 (.load false 1 (.t 7)) [2],oP 9 (.eqt true 0 (.t 6) (.t 8)) [1,3]]) (.cond (.t 9) (.seq (.seq (.reg [oP 10 (.fad 0 (.t 2)) [],oP 11 (.load false 1 (.t 10)) [0]]) (.cond (.t 11) (.seq (.reg [oP 4 (.mov (.k (.i .i64 (-1)))) []]) .ret) .skip)) (.seq (.reg [oP 4 (.mov (.k (.i .i64 1))) []]) .ret)) .skip)) (.seq (.seq (.reg [oP 12 (.fad 0 (.t 2)) [],oP 13 (.load false 1 (.t 12)) [0]]) (.cond (.t 13) (.seq (.reg [oP 14 (.fad 1 (.t 3)) [],oP 15 (.load false 1 (.t 14)) [0],oP 16 (.fad 1 (.t 2)) [],oP 17 (.load false 1 (.t 16)) [2],oP 18 (.call 134 [.t 15,.t 17]) [1,3],oM 4 18 [4,4,0,1,2,3,4]]) .ret) .skip)) (.seq (.reg [oP 19 (.fad 1 (.t 2)) [],oP 20 (.load false 1 (.t 19)) [0],oP 21 (.fad 1 (.t 3)) [],oP 22 (.load false 1 (.t 21)) [2],oP 23 (.call 134 [.t 20,.t 22]) [1,3],oM 4 23 [4,4,0,1,2,3,4]]) .ret))),[.tmp 4]⟩
def zxv:XC:=.seq (.seq (.reg [oM 27 7 [],oM 28 0 [],oP 29 (.bin .quo (.t 28) (.k (.i .i64 7))) [1],oP 30 (.bin .rem (.t 29) (.k (.i .i64 40))) [2],oP 31 (.bin .lss (.t 27) (.t 30)) [0,3]]) (.cond (.t 31) .skip (.exit 0))) (.seq (.block 1 (.drw [oP 34 (.load true 2 (.t 6)) [],oP 35 (.call 114 [.k (.i .i64 1000000007)]) [],oP 36 (.call 118 [.t 34,.t 35]) [0,1,1],oN (.store 2 (.t 6) (.t 36)) [2,2,0,1,2]] [(0,1)])) (.reg [oM 32 7 [],oP 33 (.bin .add (.t 32) (.k (.i .i64 1))) [0],oM 7 33 [1,0,1]]))
def zwT:XF:=⟨38,.seq (.reg [oP 4 (.new [.b false,.sn]) []]) (.seq (.reg [oM 8 0 [],oP 9 (.bin .rem (.t 8) (.k (.i .i64 7))) [0],oM 5 9 [1,0,1]]) (.seq (.seq (.reg [oM 10 5 [],oP 11 (.bin .lss (.t 10) (.k (.i .i64 0))) [0]]) (.cond (.t 11) (.reg [oM 12 5 [],oP 13 (.bin .add (.t 12) (.k (.i .i64 7))) [0],oM 5 13 [1,0,1]]) .skip)) (.seq (.seq (.reg [oM 14 5 [],oP 15 (.bin .lss (.t 14) (.k (.i .i64 4))) [0]]) (.cond (.t 15) (.seq (.reg [oM 16 1 [],oP 17 (.bin .rem (.t 16) (.k (.i .i64 60))) [0],oP 18 (.call 114 [.t 17]) [1],oN (.store 2 (.t 4) (.t 18)) [2,2,0,1,2]]) .ret) .skip)) (.seq (.seq (.reg [oM 19 5 [],oP 20 (.bin .lss (.t 19) (.k (.i .i64 6))) [0]]) (.cond (.t 20) (.seq (.reg [oM 21 1 [],oP 22 (.call 114 [.t 21]) [0],oN (.store 2 (.t 4) (.t 22)) [1,1,0,1]]) .ret) .skip)) (.seq (.reg [oM 23 1 [],oP 24 (.call 114 [.t 23]) [0],oP 25 (.call 114 [.k (.i .i64 3)]) [1],oP 26 (.call 119 [.t 24,.t 25]) [1,2,2],oP 6 (.new [.b false,.sn]) [],oN (.store 2 (.t 6) (.t 26)) [4,3,3,0,1,2,3,4]]) (.seq (.seq (.reg [oP 7 (.mov (.k (.i .i64 0))) []]) (.block 0 (.loop zxv))) (.seq (.reg [oP 37 (.load true 2 (.t 6)) [],oN (.store 2 (.t 4) (.t 37)) [0,0]]) .ret))))))),[.cell 4 true 2]⟩
def zxE:XF:=⟨17,.seq (.reg [oP 4 (.mov (.k (.i .i64 0))) []]) (.seq (.seq (.reg [oM 5 1 [],oP 6 (.bin .lss (.t 5) (.k (.i .i64 0))) [0],oM 7 6 [1],oF 8 (.mov (.t 1)) [2] 7,oF 9 (.mov (.t 0)) [2] 7,oF 10 (.len (.t 9)) [4,2] 7,oF 11 (.bin .geq (.t 8) (.t 10)) [3,5,2] 7,oP 12 (.pick (.t 7) (.k (.b true)) (.t 11)) [2,6]]) (.cond (.t 12) (.seq (.reg [oP 4 (.mov (.k (.i .i64 0))) []]) .ret) .skip)) (.seq (.reg [oM 13 0 [],oM 14 1 [],oP 15 (.ixs 1 (.t 13) (.t 14)) [0,1],oP 16 (.load false 1 (.t 15)) [2],oM 4 16 [3,0,1,2,3]]) .ret)),[.tmp 4]⟩
def zxA:XF:=⟨15,.seq (.reg [oP 1 (.box (.t 0)) [],oP 2 (.new [.b false,.sn]) []]) (.seq (.reg [oP 3 (.fad 0 (.t 1)) [],oP 4 (.load false 1 (.t 3)) [0],oP 5 (.un .not (.t 4)) [1],oM 6 5 [2],oT 7 (.fad 1 (.t 1)) [3] 6,oT 8 (.load false 1 (.t 7)) [4,3] 6,oT 9 (.len (.t 8)) [5,3] 6,oT 10 (.bin .gtr (.t 9) (.k (.i .i64 0))) [6,3] 6,oP 11 (.pick (.t 6) (.t 10) (.k (.b false))) [3,7],oP 12 (.fad 1 (.t 1)) [],oP 13 (.load false 1 (.t 12)) [9],oP 14 (.build [.b false,.sn] [(0,(1,.t 11)),(1,(1,.t 13))]) [8,10],oN (.store 2 (.t 2) (.t 14)) [11,3,0,1,2,3,4,5,6,7,8,9,10,11]]) .ret),[.cell 2 true 2]⟩
def zya:XC:=.seq (.seq (.reg [oM 15 6 [],oP 16 (.len (.t 15)) [0],oP 17 (.bin .gtr (.t 16) (.k (.i .i64 0))) [1]]) (.cond (.t 17) .skip (.exit 0))) (.block 1 (.seq (.reg [oM 19 5 [],oM 20 6 [],oP 21 (.call 35 [.t 19,.t 20]) [0,1],oM 18 21 [2],oP 22 (.ext (.t 18) 0) [3],oP 23 (.ext (.t 18) 1) [3],oM 7 22 [4,2,0,1,2,3,4],oM 8 23 [5,6,0,1,2,3,4,5,6]]) (.reg [oM 24 6 [],oM 25 8 [],oM 5 24 [0,0],oM 6 25 [1,2,0,1,2]])))
def zxD:XF:=⟨32,.seq (.reg [oP 2 (.box (.t 0)) [],oP 3 (.box (.t 1)) [],oP 4 (.new [.b false,.sn]) []]) (.seq (.drw [oP 11 (.fad 1 (.t 2)) [],oP 12 (.load false 1 (.t 11)) [0],oP 13 (.fad 1 (.t 3)) [],oP 14 (.load false 1 (.t 13)) [2],oM 5 12 [1,0,1],oM 6 14 [3,4,0,1,2,3,4]] []) (.seq (.block 0 (.loop zya)) (.seq (.reg [oM 27 5 [],oP 28 (.call 36 [.k (.b false),.t 27]) [0],oM 26 28 [1],oP 29 (.ext (.t 26) 0) [2],oP 30 (.ext (.t 26) 1) [2],oP 9 (.new [.b false,.sn]) [],oN (.store 2 (.t 9) (.t 29)) [5,3,1,0,1,2,3,5],oM 10 30 [4,6,0,1,2,3,4,5,6]]) (.seq (.reg [oP 31 (.load true 2 (.t 9)) [],oN (.store 2 (.t 4) (.t 31)) [0,0]]) .ret)))),[.cell 4 true 2]⟩
def zv9:XF:=⟨25,.seq (.reg [oP 4 (.box (.t 0)) [],oP 5 (.box (.t 1)) [],oP 8 (.new [.b false,.sn,.b false,.sn]) [],oP 9 (.mov (.k (.i .i64 0))) []]) (.seq (.seq (.reg [oM 10 2 [],oP 11 (.bin .neq (.t 10) (.k (.i .i64 0))) [0],oM 12 11 [1],oF 13 (.mov (.t 3)) [2] 12,oF 14 (.bin .neq (.t 13) (.k (.i .i64 0))) [3,2] 12,oP 15 (.pick (.t 12) (.k (.b true)) (.t 14)) [2,4]]) (.cond (.t 15) (.seq (.reg [oP 16 (.build [.b false,.sn,.b false,.sn] []) [],oN (.store 4 (.t 8) (.t 16)) [0,0],oP 9 (.mov (.k (.i .i64 4))) [1,0,1]]) .ret) .skip)) (.seq (.drw [oP 17 (.load true 2 (.t 4)) [],oP 18 (.load true 2 (.t 5)) [],oP 19 (.call 34 [.k (.i .i64 1)]) [],oP 20 (.call 39 [.t 18,.t 19]) [1,2,2],oP 21 (.ext (.t 20) 0) [3],oP 22 (.ext (.t 20) 1) [3],oP 23 (.call 37 [.t 21,.t 22]) [4,5,3],oP 24 (.build [.b false,.sn,.b false,.sn] [(0,(2,.t 17)),(2,(2,.t 23))]) [0,6],oN (.store 4 (.t 8) (.t 24)) [7,6,0,1,2,3,4,5,6,7],oP 9 (.mov (.k (.i .i64 0))) [8,0,1,2,3,4,5,6,7,8]] [(0,2),(1,2),(0,3),(0,6)]) .ret)),[.cell 8 true 4,.tmp 9]⟩
def zw8:XF:=⟨16,.seq (.reg [oP 2 (.box (.t 0)) [],oP 3 (.box (.t 1)) [],oP 4 (.new [.b false,.sn]) []]) (.seq (.reg [oP 9 (.load true 2 (.t 2)) [],oP 10 (.load true 2 (.t 3)) [],oP 11 (.call 29 [.t 9,.t 10]) [0,1],oM 8 11 [2],oP 12 (.ext (.t 8) 0) [3],oP 13 (.ext (.t 8) 1) [3],oP 14 (.ext (.t 8) 2) [3],oP 5 (.new [.b false,.sn]) [],oP 6 (.new [.b false,.sn]) [],oN (.store 2 (.t 5) (.t 12)) [7,4,2,0,1,2,3,4,7,8],oN (.store 2 (.t 6) (.t 13)) [8,5,9,0,1,2,3,4,5,7,8,9],oM 7 14 [6,10,0,1,2,3,4,5,6,7,8,9,10]]) (.seq (.reg [oP 15 (.load true 2 (.t 5)) [],oN (.store 2 (.t 4) (.t 15)) [0,0]]) .ret)),[.cell 4 true 2]⟩
def zwO:XF:=⟨20,.seq (.reg [oP 4 (.new [.b false,.sn]) [],oP 5 (.mov (.k (.i .i64 0))) []]) (.seq (.reg [oM 6 1 [],oP 7 (.call 49 [.t 6]) [0],oM 1 7 [1,1,0,1]]) (.seq (.seq (.reg [oM 8 1 [],oP 9 (.len (.t 8)) [0],oP 10 (.bin .gtr (.t 9) (.k (.i .i64 512))) [1]]) (.cond (.t 10) (.seq (.reg [oP 11 (.build [.b false,.sn] []) [],oN (.store 2 (.t 4) (.t 11)) [0,0],oP 5 (.mov (.k (.i .i64 4))) [1,0,1]]) .ret) .skip)) (.seq (.reg [oM 12 0 [],oM 13 12 [0],oT 14 (.mov (.t 1)) [1] 13,oT 15 (.len (.t 14)) [2,1] 13,oT 16 (.bin .gtr (.t 15) (.k (.i .i64 0))) [3,1] 13,oP 17 (.pick (.t 13) (.t 16) (.k (.b false))) [1,4],oM 18 1 [],oP 19 (.build [.b false,.sn] [(0,(1,.t 17)),(1,(1,.t 18))]) [5,6],oN (.store 2 (.t 4) (.t 19)) [7,1,0,1,2,3,4,5,6,7],oP 5 (.mov (.k (.i .i64 0))) [8,0,1,2,3,4,5,6,7,8]]) .ret))),[.cell 4 true 2,.tmp 5]⟩
def zxz:XF:=⟨58,.seq (.reg [oP 2 (.box (.t 0)) [],oP 3 (.box (.t 1)) [],oP 4 (.new [.b false,.sn]) [],oP 5 (.new [.b false,.sn]) [],oP 6 (.mov (.k (.i .i64 0))) []]) (.seq (.seq (.reg [oP 13 (.fad 1 (.t 3)) [],oP 14 (.load false 1 (.t 13)) [0],oP 15 (.len (.t 14)) [1],oP 16 (.bin .eql (.t 15) (.k (.i .i64 0))) [2]]) (.cond (.t 16) (.seq (.reg [oP 17 (.build [.b false,.sn] []) [],oP 18 (.build [.b false,.sn] []) [],oN (.store 2 (.t 4) (.t 17)) [0,0],oN (.store 2 (.t 5) (.t 18)) [1,2,0,1,2],oP 6 (.mov (.k (.i .i64 1))) [3,0,1,2,3]]) .ret) .skip)) (.seq (.reg [oP 20 (.fad 1 (.t 2)) [],oP 21 (.load false 1 (.t 20)) [0],oP 22 (.fad 1 (.t 3)) [],oP 23 (.load false 1 (.t 22)) [2],oP 24 (.call 35 [.t 21,.t 23]) [1,3],oM 19 24 [4],oP 25 (.ext (.t 19) 0) [5],oP 26 (.ext (.t 19) 1) [5],oM 7 25 [6,4,0,1,2,3,4,5,6],oM 8 26 [7,8,0,1,2,3,4,5,6,7,8]]) (.seq (.seq (.reg [oP 27 (.fad 0 (.t 2)) [],oP 28 (.load false 1 (.t 27)) [0],oM 29 28 [1],oT 30 (.mov (.t 8)) [2] 29,oT 31 (.len (.t 30)) [3,2] 29,oT 32 (.bin .gtr (.t 31) (.k (.i .i64 0))) [4,2] 29,oP 33 (.pick (.t 29) (.t 32) (.k (.b false))) [2,5]]) (.cond (.t 33) (.seq (.reg [oM 34 7 [],oP 35 (.bsl 1 1 [.i .u32 0] [(0,(1,.k (.i .u32 1)))]) [],oP 36 (.call 40 [.t 34,.t 35]) [0,1],oM 7 36 [2,2,0,1,2]]) (.reg [oP 37 (.fad 1 (.t 3)) [],oP 38 (.load false 1 (.t 37)) [0],oM 39 8 [],oP 40 (.call 42 [.t 38,.t 39]) [1,2],oM 8 40 [3,3,0,1,2,3]])) .skip)) (.seq (.reg [oP 42 (.fad 0 (.t 2)) [],oP 43 (.load false 1 (.t 42)) [0],oP 44 (.fad 0 (.t 3)) [],oP 45 (.load false 1 (.t 44)) [2],oP 46 (.eqt true 0 (.t 43) (.t 45)) [1,3],oM 47 7 [],oP 48 (.call 36 [.t 46,.t 47]) [4,5],oM 41 48 [6],oP 49 (.ext (.t 41) 0) [7],oP 50 (.ext (.t 41) 1) [7],oP 9 (.new [.b false,.sn]) [],oN (.store 2 (.t 9) (.t 49)) [10,8,6,0,1,2,3,4,5,6,7,8,10],oM 10 50 [9,11,0,1,2,3,4,5,6,7,8,9,10,11]]) (.seq (.reg [oM 52 8 [],oP 53 (.call 36 [.k (.b false),.t 52]) [0],oM 51 53 [1],oP 54 (.ext (.t 51) 0) [2],oP 55 (.ext (.t 51) 1) [2],oP 11 (.new [.b false,.sn]) [],oN (.store 2 (.t 11) (.t 54)) [5,3,1,0,1,2,3,5],oM 12 55 [4,6,0,1,2,3,4,5,6]]) (.seq (.drw [oP 56 (.load true 2 (.t 9)) [],oP 57 (.load true 2 (.t 11)) [],oN (.store 2 (.t 4) (.t 56)) [0,0],oN (.store 2 (.t 5) (.t 57)) [1,2,0,1,2],oP 6 (.mov (.k (.i .i64 0))) [3,0,1,2,3]] [(1,2)]) .ret)))))),[.cell 4 true 2,.cell 5 true 2,.tmp 6]⟩
def zxs:XF:=⟨16,.seq (.reg [oP 2 (.box (.t 0)) [],oP 3 (.box (.t 1)) [],oP 4 (.new [.b false,.sn,.b false,.sn]) [],oP 5 (.mov (.k (.i .i64 0))) []]) (.seq (.drw [oP 6 (.load true 4 (.t 2)) [],oP 7 (.fad 0 (.t 3)) [],oP 8 (.load true 2 (.t 7)) [1],oP 9 (.call 43 [.t 8]) [2],oP 10 (.fad 2 (.t 3)) [],oP 11 (.load true 2 (.t 10)) [4],oP 12 (.build [.b false,.sn,.b false,.sn] [(0,(2,.t 9)),(2,(2,.t 11))]) [3,5],oP 13 (.call 9 [.t 6,.t 12]) [0,6,3],oP 14 (.ext (.t 13) 0) [7],oP 15 (.ext (.t 13) 1) [7],oN (.store 4 (.t 4) (.t 14)) [8,7,0,1,2,3,4,5,6,7,8,9],oM 5 15 [9,10,0,1,2,3,4,5,6,7,8,9,10]] [(0,3),(5,3)]) .ret),[.cell 4 true 4,.tmp 5]⟩
def zxe:XF:=⟨6,.seq (.reg [oP 1 (.box (.t 0)) [],oP 2 (.mov (.k (.i .i64 0))) []]) (.seq (.reg [oP 3 (.fad 0 (.t 1)) [],oP 4 (.load true 2 (.t 3)) [0],oP 5 (.call 31 [.t 4]) [1],oM 2 5 [2,2,0,1,2]]) .ret),[.tmp 2]⟩
def zxy:XF:=⟨79,.seq (.reg [oP 2 (.box (.t 0)) [],oP 3 (.box (.t 1)) [],oP 4 (.new [.b false,.sn,.b false,.sn]) [],oP 5 (.mov (.k (.i .i64 0))) []]) (.seq (.drw [oP 15 (.load true 4 (.t 2)) [],oP 16 (.call 19 [.t 15]) [0],oP 17 (.load true 4 (.t 3)) [],oP 18 (.call 19 [.t 17]) [2,1],oP 19 (.call 18 [.t 16,.t 18]) [1,3,3],oP 6 (.new [.b false,.sn]) [],oN (.store 2 (.t 6) (.t 19)) [5,4,4,0,1,2,3,4,5]] [(2,1)]) (.seq (.drw [oP 21 (.fad 0 (.t 2)) [],oP 22 (.load true 2 (.t 21)) [0],oP 23 (.load true 4 (.t 3)) [],oP 24 (.call 19 [.t 23]) [2],oP 25 (.load true 2 (.t 6)) [],oP 26 (.call 21 [.t 24,.t 25]) [3,4,3],oP 27 (.bsl 2 2 [.b false,.sn] [(0,(2,.t 22)),(2,(2,.t 26))]) [1,5],oP 28 (.call 20 [.t 27]) [6,5],oM 20 28 [7],oP 29 (.ext (.t 20) 0) [8],oP 30 (.ext (.t 20) 1) [8],oP 7 (.new [.b false,.sn]) [],oN (.store 2 (.t 7) (.t 29)) [11,9,7,0,1,2,3,4,5,6,7,8,9,11],oM 8 30 [10,12,0,1,2,3,4,5,6,7,8,9,10,11,12]] [(1,3),(4,3),(1,5)]) (.seq (.drw [oP 32 (.fad 0 (.t 3)) [],oP 33 (.load true 2 (.t 32)) [0],oP 34 (.load true 4 (.t 2)) [],oP 35 (.call 19 [.t 34]) [2],oP 36 (.load true 2 (.t 6)) [],oP 37 (.call 21 [.t 35,.t 36]) [3,4,3],oP 38 (.bsl 2 2 [.b false,.sn] [(0,(2,.t 33)),(2,(2,.t 37))]) [1,5],oP 39 (.call 20 [.t 38]) [6,5],oM 31 39 [7],oP 40 (.ext (.t 31) 0) [8],oP 41 (.ext (.t 31) 1) [8],oP 9 (.new [.b false,.sn]) [],oN (.store 2 (.t 9) (.t 40)) [11,9,7,0,1,2,3,4,5,6,7,8,9,11],oM 10 41 [10,12,0,1,2,3,4,5,6,7,8,9,10,11,12]] [(1,3),(4,3),(1,5)]) (.seq (.reg [oP 43 (.load true 2 (.t 7)) [],oP 44 (.load true 2 (.t 9)) [],oP 45 (.call 23 [.t 43,.t 44]) [0,1],oM 42 45 [2],oP 46 (.ext (.t 42) 0) [3],oP 47 (.ext (.t 42) 1) [3],oP 11 (.new [.b false,.sn]) [],oN (.store 2 (.t 11) (.t 46)) [6,4,2,0,1,2,3,4,6],oM 12 47 [5,7,0,1,2,3,4,5,6,7]]) (.seq (.drw [oP 49 (.load true 4 (.t 2)) [],oP 50 (.call 19 [.t 49]) [0],oP 51 (.load true 2 (.t 6)) [],oP 52 (.call 21 [.t 50,.t 51]) [1,2,1],oP 53 (.load true 4 (.t 3)) [],oP 54 (.call 19 [.t 53]) [4,3],oP 55 (.bsl 2 2 [.b false,.sn] [(0,(2,.t 52)),(2,(2,.t 54))]) [3,5],oP 56 (.call 20 [.t 55]) [6,5],oM 48 56 [7],oP 57 (.ext (.t 48) 0) [8],oP 58 (.ext (.t 48) 1) [8],oP 13 (.new [.b false,.sn]) [],oN (.store 2 (.t 13) (.t 57)) [11,9,7,0,1,2,3,4,5,6,7,8,9,11],oM 14 58 [10,12,0,1,2,3,4,5,6,7,8,9,10,11,12]] [(2,1),(4,1),(4,3)]) (.seq (.seq (.reg [oM 59 8 [],oP 60 (.bin .neq (.t 59) (.k (.i .i64 0))) [0],oM 61 60 [1],oF 62 (.mov (.t 10)) [2] 61,oF 63 (.bin .neq (.t 62) (.k (.i .i64 0))) [3,2] 61,oP 64 (.pick (.t 61) (.k (.b true)) (.t 63)) [2,4],oM 65 64 [5,2],oF 66 (.mov (.t 12)) [6] 65,oF 67 (.bin .neq (.t 66) (.k (.i .i64 0))) [7,6] 65,oP 68 (.pick (.t 65) (.k (.b true)) (.t 67)) [6,8],oM 69 68 [9,6],oF 70 (.mov (.t 14)) [10] 69,oF 71 (.bin .neq (.t 70) (.k (.i .i64 0))) [11,10] 69,oP 72 (.pick (.t 69) (.k (.b true)) (.t 71)) [10,12]]) (.cond (.t 72) (.seq (.reg [oP 73 (.build [.b false,.sn,.b false,.sn] []) [],oN (.store 4 (.t 4) (.t 73)) [0,0],oP 5 (.mov (.k (.i .i64 4))) [1,0,1]]) .ret) .skip)) (.seq (.reg [oP 74 (.load true 2 (.t 11)) [],oP 75 (.load true 2 (.t 13)) [],oP 76 (.call 24 [.t 74,.t 75]) [0,1],oP 77 (.ext (.t 76) 0) [2],oP 78 (.ext (.t 76) 1) [2],oN (.store 4 (.t 4) (.t 77)) [3,2,0,1,2,3,4],oM 5 78 [4,5,0,1,2,3,4,5]]) .ret))))))),[.cell 4 true 4,.tmp 5]⟩
def zxG:XF:=⟨55,.seq (.reg [oP 2 (.box (.t 0)) [],oP 3 (.box (.t 1)) [],oP 4 (.new [.b false,.sn,.b false,.sn]) [],oP 5 (.mov (.k (.i .i64 0))) []]) (.seq (.drw [oP 12 (.fad 0 (.t 2)) [],oP 13 (.load true 2 (.t 12)) [0],oP 14 (.load true 4 (.t 3)) [],oP 15 (.call 19 [.t 14]) [2],oP 16 (.call 18 [.t 13,.t 15]) [1,3,3],oP 17 (.fad 0 (.t 3)) [],oP 18 (.load true 2 (.t 17)) [5],oP 19 (.load true 4 (.t 2)) [],oP 20 (.call 19 [.t 19]) [7,4],oP 21 (.call 18 [.t 18,.t 20]) [6,8,8],oP 6 (.new [.b false,.sn]) [],oP 7 (.new [.b false,.sn]) [],oN (.store 2 (.t 6) (.t 16)) [10,4,9,0,1,2,3,4,10,11],oN (.store 2 (.t 7) (.t 21)) [11,9,12,0,1,2,3,4,5,6,7,8,9,10,11,12]] [(1,3),(6,3),(6,4),(7,3),(7,4),(6,8)]) (.seq (.drw [oP 23 (.fad 0 (.t 2)) [],oP 24 (.load true 2 (.t 23)) [0],oP 25 (.load true 2 (.t 6)) [],oP 26 (.call 21 [.t 24,.t 25]) [1,2],oP 27 (.fad 0 (.t 3)) [],oP 28 (.load true 2 (.t 27)) [4],oP 29 (.load true 2 (.t 7)) [],oP 30 (.call 21 [.t 28,.t 29]) [5,6,3],oP 31 (.bsl 2 2 [.b false,.sn] [(0,(2,.t 26)),(2,(2,.t 30))]) [3,7],oP 32 (.call 20 [.t 31]) [8,7],oM 22 32 [9],oP 33 (.ext (.t 22) 0) [10],oP 34 (.ext (.t 22) 1) [10],oP 8 (.new [.b false,.sn]) [],oN (.store 2 (.t 8) (.t 33)) [13,11,9,0,1,2,3,4,5,6,7,8,9,10,11,13],oM 9 34 [12,14,0,1,2,3,4,5,6,7,8,9,10,11,12,13,14]] [(5,3),(6,3)]) (.seq (.drw [oP 36 (.load true 4 (.t 2)) [],oP 37 (.call 19 [.t 36]) [0],oP 38 (.load true 2 (.t 7)) [],oP 39 (.call 21 [.t 37,.t 38]) [1,2,1],oP 40 (.load true 4 (.t 3)) [],oP 41 (.call 19 [.t 40]) [4,3],oP 42 (.load true 2 (.t 6)) [],oP 43 (.call 21 [.t 41,.t 42]) [5,6,5],oP 44 (.bsl 2 2 [.b false,.sn] [(0,(2,.t 39)),(2,(2,.t 43))]) [3,7],oP 45 (.call 20 [.t 44]) [8,7],oM 35 45 [9],oP 46 (.ext (.t 35) 0) [10],oP 47 (.ext (.t 35) 1) [10],oP 10 (.new [.b false,.sn]) [],oN (.store 2 (.t 10) (.t 46)) [13,11,9,0,1,2,3,4,5,6,7,8,9,10,11,13],oM 11 47 [12,14,0,1,2,3,4,5,6,7,8,9,10,11,12,13,14]] [(2,1),(4,1),(4,3),(6,1),(6,3),(6,5)]) (.seq (.reg [oP 48 (.load true 2 (.t 8)) [],oP 49 (.load true 2 (.t 10)) [],oM 50 9 [],oM 51 11 [],oP 52 (.call 22 [.t 48,.t 49,.t 50,.t 51]) [0,1,2,3],oP 53 (.ext (.t 52) 0) [4],oP 54 (.ext (.t 52) 1) [4],oN (.store 4 (.t 4) (.t 53)) [5,4,0,1,2,3,4,5,6],oM 5 54 [6,7,0,1,2,3,4,5,6,7]]) .ret)))),[.cell 4 true 4,.tmp 5]⟩
def zwv:XF:=⟨25,.seq (.reg [oP 2 (.box (.t 0)) [],oP 3 (.box (.t 1)) [],oP 4 (.new [.b false,.sn,.b false,.sn]) [],oP 5 (.mov (.k (.i .i64 0))) []]) (.seq (.drw [oP 9 (.load true 4 (.t 3)) [],oP 10 (.call 19 [.t 9]) [0],oP 11 (.fad 0 (.t 3)) [],oP 12 (.load true 2 (.t 11)) [2],oP 13 (.call 24 [.t 10,.t 12]) [1,3,1],oM 8 13 [4],oP 14 (.ext (.t 8) 0) [5],oP 15 (.ext (.t 8) 1) [5],oP 6 (.new [.b false,.sn,.b false,.sn]) [],oN (.store 4 (.t 6) (.t 14)) [8,6,4,0,1,2,3,4,5,6,8],oM 7 15 [7,9,0,1,2,3,4,5,6,7,8,9]] [(3,1)]) (.seq (.seq (.reg [oM 16 7 [],oP 17 (.bin .neq (.t 16) (.k (.i .i64 0))) [0]]) (.cond (.t 17) (.seq (.reg [oP 18 (.build [.b false,.sn,.b false,.sn] []) [],oM 19 7 [],oN (.store 4 (.t 4) (.t 18)) [0,0],oM 5 19 [1,2,0,1,2]]) .ret) .skip)) (.seq (.reg [oP 20 (.load true 4 (.t 2)) [],oP 21 (.load true 4 (.t 6)) [],oP 22 (.call 8 [.t 20,.t 21]) [0,1],oP 23 (.ext (.t 22) 0) [2],oP 24 (.ext (.t 22) 1) [2],oN (.store 4 (.t 4) (.t 23)) [3,2,0,1,2,3,4],oM 5 24 [4,5,0,1,2,3,4,5]]) .ret))),[.cell 4 true 4,.tmp 5]⟩
def zx6:XC:=.seq (.seq (.reg [oM 5 0 [],oP 6 (.bin .geq (.t 5) (.k (.i .i64 32))) [0]]) (.cond (.t 6) .skip (.exit 0))) (.seq (.block 1 (.drw [oP 10 (.load true 2 (.t 3)) [],oP 11 (.call 34 [.k (.i .i64 4294967296)]) [],oP 12 (.call 38 [.t 10,.t 11]) [0,1,1],oM 9 12 [2],oP 13 (.ext (.t 9) 0) [3],oP 14 (.ext (.t 9) 1) [3],oN (.store 2 (.t 3) (.t 13)) [4,2,0,1,2,3,4]] [(0,1)])) (.reg [oM 7 0 [],oP 8 (.bin .sub (.t 7) (.k (.i .i64 32))) [0],oM 0 8 [1,0,1]]))
def zwX:XF:=⟨24,.seq (.reg [oP 2 (.new [.b false,.sn]) []]) (.seq (.reg [oP 4 (.call 34 [.k (.i .i64 1)]) [],oP 3 (.new [.b false,.sn]) [],oN (.store 2 (.t 3) (.t 4)) [1,0,0,0,1]]) (.seq (.block 0 (.loop zx6)) (.seq (.drw [oP 16 (.load true 2 (.t 3)) [],oM 17 0 [],oP 18 (.bin .shl (.k (.i .i64 1)) (.t 17)) [1],oP 19 (.call 34 [.t 18]) [2],oP 20 (.call 38 [.t 16,.t 19]) [0,3,3],oM 15 20 [4],oP 21 (.ext (.t 15) 0) [5],oP 22 (.ext (.t 15) 1) [5],oN (.store 2 (.t 3) (.t 21)) [6,4,0,1,2,3,4,5,6]] [(0,3)]) (.seq (.reg [oP 23 (.load true 2 (.t 3)) [],oN (.store 2 (.t 2) (.t 23)) [0,0]]) .ret)))),[.cell 2 true 2]⟩
def zvT:XF:=⟨5,.seq (.reg [oP 1 (.box (.t 0)) [],oP 2 (.new [.b false,.sn]) []]) (.seq (.reg [oP 3 (.fad 0 (.t 1)) [],oP 4 (.load true 2 (.t 3)) [0],oN (.store 2 (.t 2) (.t 4)) [1,0,1]]) .ret),[.cell 2 true 2]⟩
def zwx:XF:=⟨16,.seq (.reg [oP 1 (.box (.t 0)) [],oP 2 (.mov (.k (.b false))) []]) (.seq (.reg [oP 4 (.call 293 [.k (.i .i64 8192)]) [],oP 3 (.new [.b false,.sn]) [],oN (.store 2 (.t 3) (.t 4)) [1,0,0,0,1]]) (.seq (.drw [oP 5 (.load true 2 (.t 1)) [],oP 6 (.load true 2 (.t 3)) [],oP 7 (.call 30 [.t 5,.t 6]) [0,1],oP 8 (.bin .lss (.t 7) (.k (.i .i64 0))) [2],oM 9 8 [3,2],oT 10 (.load true 2 (.t 1)) [4] 9,oT 11 (.call 43 [.t 10]) [5,4,4] 9,oT 12 (.load true 2 (.t 3)) [4] 9,oT 13 (.call 30 [.t 11,.t 12]) [6,7,6,4] 9,oT 14 (.bin .lss (.t 13) (.k (.i .i64 0))) [8,4] 9,oP 15 (.pick (.t 9) (.t 14) (.k (.b false))) [4,9],oM 2 15 [10,8,0,1,2,3,4,5,6,7,8,9,10]] [(7,6)]) .ret)),[.tmp 2]⟩
def zwN:XF:=⟨9,.seq (.reg [oP 1 (.box (.t 0)) [],oP 2 (.new [.b false,.sn]) [],oP 3 (.mov (.k (.i .i64 0))) []]) (.seq (.drw [oP 4 (.load true 2 (.t 1)) [],oP 5 (.call 34 [.k (.i .i64 4294967296)]) [],oP 6 (.call 38 [.t 4,.t 5]) [0,1,1],oP 7 (.ext (.t 6) 0) [2],oP 8 (.ext (.t 6) 1) [2],oN (.store 2 (.t 2) (.t 7)) [3,2,0,1,2,3,4],oM 3 8 [4,5,0,1,2,3,4,5]] [(0,1)]) .ret),[.cell 2 true 2,.tmp 3]⟩
def zwa:XF:=⟨13,.seq (.reg [oP 4 (.mov (.k (.s []))) [],oP 5 (.mov (.k (.s []))) [0],oP 6 (.mov (.k (.b false))) [1]]) (.seq (.reg [oM 7 0 [],oM 8 1 [],oP 9 (.call 216 [.t 7,.t 8]) [0,1],oP 10 (.ext (.t 9) 0) [2],oP 11 (.ext (.t 9) 1) [2],oP 12 (.ext (.t 9) 2) [2],oM 4 10 [3,2,0,1,2,3,4,5],oM 5 11 [4,6,0,1,2,3,4,5,6],oM 6 12 [5,7,0,1,2,3,4,5,6,7]]) .ret),[.tmp 4,.tmp 5,.tmp 6]⟩
def zwR:XC:=.seq (.seq (.reg [oM 40 4 [],oP 41 (.lens (.t 40)) [0],oP 42 (.bin .gtr (.t 41) (.k (.i .i64 0))) [1]]) (.cond (.t 42) .skip (.exit 0))) (.block 1 (.seq (.reg [oM 43 4 [],oP 44 (.lens (.t 43)) [0],oP 45 (.bin .sub (.t 44) (.k (.i .i64 1))) [1],oP 46 (.bin .rem (.t 45) (.k (.i .i64 9))) [2],oP 47 (.bin .add (.t 46) (.k (.i .i64 1))) [3],oM 7 47 [4,0,1,2,3,4]]) (.seq (.reg [oM 49 4 [],oM 50 7 [],oP 51 (.slstr (.t 49) none (some (.t 50))) [0,1],oP 52 (.call 131 [.t 51]) [2],oM 48 52 [3],oP 53 (.ext (.t 48) 0) [4],oP 54 (.ext (.t 48) 1) [4],oM 8 53 [5,3,0,1,2,3,4,5],oM 9 54 [6,7,0,1,2,3,4,5,6,7]]) (.seq (.reg [oM 55 4 [],oM 56 7 [],oP 57 (.slstr (.t 55) (some (.t 56)) none) [0,1],oM 4 57 [2,0,1,2]]) (.reg [oM 58 6 [],oP 59 (.bsl 1 1 [.i .u32 0] [(0,(1,.k (.i .u32 1000000000)))]) [],oP 60 (.call 59 [.t 58,.t 59]) [0,1],oM 61 8 [],oP 62 (.cint .u32 (.t 61)) [3],oP 63 (.bsl 1 1 [.i .u32 0] [(0,(1,.t 62))]) [4],oP 64 (.call 40 [.t 60,.t 63]) [2,5,2],oP 65 (.call 49 [.t 64]) [6,6],oM 6 65 [7,7,0,1,2,3,4,5,6,7]])))))
def zwh:XF:=⟨71,.seq (.reg [oP 2 (.new [.b false,.sn]) [],oP 3 (.mov (.k (.i .i64 0))) []]) (.seq (.seq (.reg [oM 10 0 [],oP 11 (.lens (.t 10)) [0],oP 12 (.bin .gtr (.t 11) (.k (.i .i64 5000))) [1]]) (.cond (.t 12) (.seq (.reg [oP 13 (.build [.b false,.sn] []) [],oN (.store 2 (.t 2) (.t 13)) [0,0],oP 3 (.mov (.k (.i .i64 4))) [1,0,1]]) .ret) .skip)) (.seq (.reg [oM 15 0 [],oP 16 (.call 129 [.t 15,.k (.s [45])]) [0],oM 14 16 [1],oP 17 (.ext (.t 14) 0) [2],oP 18 (.ext (.t 14) 1) [2],oM 4 17 [3,1,0,1,2,3],oM 5 18 [4,5,0,1,2,3,4,5]]) (.seq (.seq (.reg [oM 19 4 [],oP 20 (.bin .eql (.t 19) (.k (.s []))) [0],oM 21 20 [1],oF 22 (.mov (.t 4)) [2] 21,oF 23 (.call 130 [.t 22,.k (.s [48,49,50,51,52,53,54,55,56,57])]) [3,2,2] 21,oF 24 (.bin .neq (.t 23) (.k (.s []))) [4,2] 21,oP 25 (.pick (.t 21) (.k (.b true)) (.t 24)) [2,5],oM 26 25 [6,4],oF 27 (.mov (.t 4)) [7] 26,oF 28 (.istr (.t 27) (.k (.i .i64 0))) [8,7] 26,oF 29 (.bin .eql (.t 28) (.k (.i .u8 48))) [9,7] 26,oF 30 (.mov (.t 29)) [10,7,7] 26,oT 31 (.mov (.t 5)) [11] 30,oT 32 (.mov (.t 31)) [12,11,11] 30,oF 33 (.mov (.t 4)) [13] 32,oF 34 (.lens (.t 33)) [14,13] 32,oF 35 (.bin .gtr (.t 34) (.k (.i .i64 1))) [15,13] 32,oT 36 (.pick (.t 32) (.k (.b true)) (.t 35)) [13,16,11] 30,oF 37 (.pick (.t 30) (.t 36) (.k (.b false))) [11,17,7] 26,oP 38 (.pick (.t 26) (.k (.b true)) (.t 37)) [7,18]]) (.cond (.t 38) (.seq (.reg [oP 39 (.build [.b false,.sn] []) [],oN (.store 2 (.t 2) (.t 39)) [0,0],oP 3 (.mov (.k (.i .i64 2))) [1,0,1]]) .ret) .skip)) (.seq (.reg [oP 6 (.mov (.k .sn)) []]) (.seq (.block 0 (.loop zwR)) (.seq (.reg [oM 66 5 [],oM 67 6 [],oP 68 (.call 36 [.t 66,.t 67]) [0,1],oP 69 (.ext (.t 68) 0) [2],oP 70 (.ext (.t 68) 1) [2],oN (.store 2 (.t 2) (.t 69)) [3,2,0,1,2,3,4],oM 3 70 [4,5,0,1,2,3,4,5]]) .ret)))))),[.cell 2 true 2,.tmp 3]⟩
def zxJ:XC:=.seq (.seq (.reg [oM 15 8 [],oP 16 (.bin .geq (.t 15) (.k (.i .i64 0))) [0]]) (.cond (.t 16) .skip (.exit 0))) (.seq (.block 1 (.seq (.reg [oM 19 7 [],oP 20 (.bin .shl (.t 19) (.k (.i .u64 32))) [0],oM 21 0 [],oM 22 8 [],oP 23 (.ixs 1 (.t 21) (.t 22)) [2,3],oP 24 (.load false 1 (.t 23)) [4],oP 25 (.cint .u64 (.t 24)) [5],oP 26 (.bin .or (.t 20) (.t 25)) [1,6],oM 7 26 [7,0,1,2,3,4,5,6,7]]) (.seq (.reg [oM 27 6 [],oM 28 8 [],oM 29 7 [],oM 30 1 [],oP 31 (.cint .u64 (.t 30)) [3],oP 32 (.bin .quo (.t 29) (.t 31)) [2,4],oP 33 (.cint .u32 (.t 32)) [5],oP 34 (.ixs 1 (.t 27) (.t 28)) [0,1,0,1,2,3,4,5,6],oN (.store 1 (.t 34) (.t 33)) [7,6,0,1,2,3,4,5,6]]) (.reg [oM 35 7 [],oM 36 1 [],oP 37 (.cint .u64 (.t 36)) [1],oP 38 (.bin .rem (.t 35) (.t 37)) [0,2],oM 7 38 [3,0,1,2,3]])))) (.reg [oM 17 8 [],oP 18 (.bin .sub (.t 17) (.k (.i .i64 1))) [0],oM 8 18 [1,0,1]]))
def zwC:XF:=⟨42,.seq (.reg [oP 4 (.mov (.k .sn)) [],oP 5 (.mov (.k (.i .u32 0))) [0]]) (.seq (.reg [oM 9 0 [],oP 10 (.len (.t 9)) [0],oP 11 (.msl [.i .u32 0] 4 (.t 10) (.t 10)) [1,1],oM 6 11 [2,0,1,2]]) (.seq (.reg [oP 7 (.mov (.k (.i .u64 0))) []]) (.seq (.seq (.reg [oM 12 0 [],oP 13 (.len (.t 12)) [0],oP 14 (.bin .sub (.t 13) (.k (.i .i64 1))) [1],oM 8 14 [2,0,1,2]]) (.block 0 (.loop zxJ))) (.seq (.reg [oM 39 6 [],oM 40 7 [],oP 41 (.cint .u32 (.t 40)) [1],oM 4 39 [0,0],oM 5 41 [2,3,0,1,2,3]]) .ret)))),[.tmp 4,.tmp 5]⟩
def zx1:XC:=.seq (.seq (.reg [oM 3 0 [],oP 4 (.len (.t 3)) [0],oP 5 (.bin .gtr (.t 4) (.k (.i .i64 0))) [1],oM 6 5 [2],oT 7 (.mov (.t 0)) [3] 6,oT 8 (.mov (.t 0)) [3] 6,oT 9 (.len (.t 8)) [5,3] 6,oT 10 (.bin .sub (.t 9) (.k (.i .i64 1))) [6,3] 6,oT 11 (.ixs 1 (.t 7) (.t 10)) [4,7,3] 6,oT 12 (.load false 1 (.t 11)) [8,3] 6,oT 13 (.bin .eql (.t 12) (.k (.i .u32 0))) [9,3] 6,oP 14 (.pick (.t 6) (.t 13) (.k (.b false))) [3,10]]) (.cond (.t 14) .skip (.exit 0))) (.block 1 (.reg [oM 15 0 [],oM 16 0 [],oP 17 (.len (.t 16)) [1],oP 18 (.bin .sub (.t 17) (.k (.i .i64 1))) [2],oP 19 (.slsl 1 (.t 15) none (some (.t 18)) none) [0,3],oM 0 19 [4,0,1,2,3,4]]))
def zwp:XF:=⟨21,.seq (.reg [oP 2 (.mov (.k .sn)) []]) (.seq (.block 0 (.loop zx1)) (.seq (.reg [oM 20 0 [],oM 2 20 [0,0]]) .ret)),[.tmp 2]⟩
def zxc:XF:=⟨6,.seq (.reg [oP 2 (.box (.t 0)) [],oP 4 (.new [.b false,.sn]) []]) (.seq (.reg [oP 5 (.load true 2 (.t 2)) [],oN (.store 2 (.t 4) (.t 5)) [0,0]]) .ret),[.cell 4 true 2]⟩
def zx5:XC:=.seq (.seq (.reg [oM 10 5 [],oP 11 (.bin .neq (.t 10) (.k (.i .i64 0))) [0]]) (.cond (.t 11) .skip (.exit 0))) (.seq (.block 1 (.seq (.reg [oM 14 5 [],oP 15 (.bin .rem (.t 14) (.k (.i .i64 10))) [0],oM 6 15 [1,0,1]]) (.seq (.seq (.reg [oM 16 6 [],oP 17 (.bin .lss (.t 16) (.k (.i .i64 0))) [0]]) (.cond (.t 17) (.reg [oM 18 6 [],oP 19 (.un .neg (.t 18)) [0],oM 6 19 [1,0,1]]) .skip)) (.reg [oM 20 3 [],oM 21 6 [],oM 22 6 [],oP 23 (.bin .add (.t 22) (.k (.i .i64 1))) [2],oP 24 (.slstr (.t 20) (some (.t 21)) (some (.t 23))) [0,1,3],oM 25 4 [],oP 26 (.bin .add (.t 24) (.t 25)) [4,5],oM 4 26 [6,0,1,2,3,4,5,6]])))) (.reg [oM 12 5 [],oP 13 (.bin .quo (.t 12) (.k (.i .i64 10))) [0],oM 5 13 [1,0,1]]))
def zwM:XF:=⟨32,.seq (.reg [oP 2 (.mov (.k (.s []))) []]) (.seq (.seq (.reg [oM 7 0 [],oP 8 (.bin .eql (.t 7) (.k (.i .i64 0))) [0]]) (.cond (.t 8) (.seq (.reg [oP 2 (.mov (.k (.s [48]))) []]) .ret) .skip)) (.seq (.reg [oP 3 (.mov (.k (.s [48,49,50,51,52,53,54,55,56,57]))) []]) (.seq (.reg [oP 4 (.mov (.k (.s []))) []]) (.seq (.seq (.reg [oM 9 0 [],oM 5 9 [0,0]]) (.block 0 (.loop zx5))) (.seq (.seq (.reg [oM 27 0 [],oP 28 (.bin .lss (.t 27) (.k (.i .i64 0))) [0]]) (.cond (.t 28) (.seq (.reg [oM 29 4 [],oP 30 (.bin .add (.k (.s [45])) (.t 29)) [0],oM 2 30 [1,0,1]]) .ret) .skip)) (.seq (.reg [oM 31 4 [],oM 2 31 [0,0]]) .ret)))))),[.tmp 2]⟩
def zwg:XF:=⟨10,.seq (.reg [oP 3 (.box (.t 0)) [],oP 4 (.new [.b false,.sn]) []]) (.seq (.reg [oP 5 (.load true 2 (.t 3)) [],oP 6 (.load true 4 (.t 1)) [],oP 7 (.load true 4 (.t 2)) [],oP 8 (.mfn 382 [.t 3]) [],oP 9 (.call 381 [.t 5,.t 6,.t 7,.t 8]) [0,1,2,3],oN (.store 2 (.t 4) (.t 9)) [4,4,0,1,2,3,4]]) .ret),[.cell 4 true 2]⟩
def zvM:XF:=⟨31,.seq (.reg [oP 3 (.box (.t 0)) [],oP 4 (.box (.t 1)) [],oP 5 (.new [.b false,.sn]) []]) (.seq (.seq (.reg [oP 10 (.load true 2 (.t 4)) [],oP 11 (.call 31 [.t 10]) [0],oP 12 (.bin .lss (.t 11) (.k (.i .i64 0))) [1]]) (.cond (.t 12) (.drw [oP 13 (.load true 2 (.t 3)) [],oP 14 (.call 43 [.t 13]) [0],oP 15 (.load true 2 (.t 4)) [],oP 16 (.call 43 [.t 15]) [2,1],oN (.store 2 (.t 3) (.t 14)) [1,3,0,1],oN (.store 2 (.t 4) (.t 16)) [3,4,0,1,2,3,4]] [(2,1)]) .skip)) (.seq (.reg [oP 18 (.load true 2 (.t 3)) [],oP 19 (.call 295 [.t 18]) [0],oM 17 19 [1],oP 20 (.ext (.t 17) 0) [2],oP 21 (.ext (.t 17) 1) [2],oP 6 (.new [.b false,.sn]) [],oN (.store 2 (.t 6) (.t 20)) [5,3,1,0,1,2,3,5],oM 7 21 [4,6,0,1,2,3,4,5,6]]) (.seq (.reg [oP 23 (.fad 0 (.t 2)) [],oP 24 (.load false 1 (.t 23)) [0],oP 25 (.load true 2 (.t 6)) [],oP 26 (.load true 2 (.t 4)) [],oP 27 (.callv (.t 24) [.t 25,.t 26]) [1,2,3],oM 22 27 [4],oP 28 (.ext (.t 22) 0) [5],oP 29 (.ext (.t 22) 1) [5],oP 8 (.new [.b false,.sn]) [],oN (.store 2 (.t 8) (.t 28)) [8,6,4,0,1,2,3,4,5,6,8],oM 9 29 [7,9,0,1,2,3,4,5,6,7,8,9]]) (.seq (.reg [oP 30 (.load true 2 (.t 8)) [],oN (.store 2 (.t 5) (.t 30)) [0,0]]) .ret)))),[.cell 5 true 2]⟩
def zxX:XC:=.seq (.seq (.reg [oM 19 6 [],oP 20 (.bin .geq (.t 19) (.k (.i .i64 0))) [0]]) (.cond (.t 20) .skip (.exit 0))) (.seq (.block 1 (.seq (.drw [oM 23 0 [],oM 24 6 [],oP 25 (.ixs 1 (.t 23) (.t 24)) [0,1],oP 26 (.load false 1 (.t 25)) [2],oM 27 1 [],oM 28 6 [],oP 29 (.ixs 1 (.t 27) (.t 28)) [4,5],oP 30 (.load false 1 (.t 29)) [6],oP 31 (.call 61 [.t 26,.t 30]) [3,7],oM 7 31 [8,8,0,1,2,3,4,5,6,7,8]] []) (.seq (.reg [oM 32 7 [],oP 33 (.bin .neq (.t 32) (.k (.i .i64 0))) [0]]) (.cond (.t 33) (.seq (.reg [oM 34 7 [],oM 4 34 [0,0]]) .ret) .skip)))) (.reg [oM 21 6 [],oP 22 (.bin .sub (.t 21) (.k (.i .i64 1))) [0],oM 6 22 [1,0,1]]))
def zwz:XF:=⟨35,.seq (.reg [oP 4 (.mov (.k (.i .i64 0))) []]) (.seq (.seq (.reg [oM 8 0 [],oP 9 (.len (.t 8)) [0],oM 10 1 [],oP 11 (.len (.t 10)) [2],oP 12 (.call 60 [.t 9,.t 11]) [1,3],oM 5 12 [4,4,0,1,2,3,4]]) (.seq (.reg [oM 13 5 [],oP 14 (.bin .neq (.t 13) (.k (.i .i64 0))) [0]]) (.cond (.t 14) (.seq (.reg [oM 15 5 [],oM 4 15 [0,0]]) .ret) .skip))) (.seq (.seq (.reg [oM 16 0 [],oP 17 (.len (.t 16)) [0],oP 18 (.bin .sub (.t 17) (.k (.i .i64 1))) [1],oM 6 18 [2,0,1,2]]) (.block 0 (.loop zxX))) (.seq (.reg [oP 4 (.mov (.k (.i .i64 0))) []]) .ret))),[.tmp 4]⟩
def zx4:XF:=⟨13,.seq (.reg [oP 4 (.mov (.k (.i .i64 0))) []]) (.seq (.seq (.reg [oM 5 1 [],oM 6 0 [],oP 7 (.len (.t 6)) [1],oP 8 (.bin .lss (.t 5) (.t 7)) [0,2]]) (.cond (.t 8) (.seq (.reg [oM 9 0 [],oM 10 1 [],oP 11 (.ixs 1 (.t 9) (.t 10)) [0,1],oP 12 (.load false 1 (.t 11)) [2],oM 4 12 [3,0,1,2,3]]) .ret) .skip)) (.seq (.reg [oP 4 (.mov (.k (.i .i64 0))) []]) .ret)),[.tmp 4]⟩
def zxp:XC:=.seq (.seq (.reg [oM 57 12 [],oM 58 13 [],oP 59 (.bin .lss (.t 57) (.t 58)) [0,1]]) (.cond (.t 59) .skip (.exit 2))) (.block 3 (.seq (.reg [oM 60 12 [],oM 61 13 [],oP 62 (.bin .add (.t 60) (.t 61)) [0,1],oP 63 (.bin .add (.t 62) (.k (.i .i64 1))) [2],oP 64 (.bin .quo (.t 63) (.k (.i .i64 2))) [3],oM 14 64 [4,0,1,2,3,4]]) (.seq (.reg [oM 65 1 [],oM 66 14 [],oP 67 (.call 149 [.t 65,.t 66]) [0,1],oM 68 9 [],oP 69 (.call 134 [.t 67,.t 68]) [2,3,2],oP 70 (.bin .leq (.t 69) (.k (.i .i64 0))) [4]]) (.cond (.t 70) (.reg [oM 71 14 [],oM 12 71 [0,0]]) (.reg [oM 72 14 [],oP 73 (.bin .sub (.t 72) (.k (.i .i64 1))) [0],oM 13 73 [1,0,1]])))))
def zxo:XC:=.seq (.seq (.reg [oM 37 10 [],oP 38 (.bin .geq (.t 37) (.k (.i .i64 0))) [0]]) (.cond (.t 38) .skip (.exit 0))) (.seq (.block 1 (.seq (.reg [oM 41 0 [],oM 42 10 [],oP 43 (.ixs 1 (.t 41) (.t 42)) [0,1],oP 44 (.load false 1 (.t 43)) [2],oP 45 (.bsl 1 1 [.i .i64 0] [(0,(1,.t 44))]) [3],oM 46 9 [],oP 47 (.app 1 8 (.t 45) (.t 46)) [4,5],oP 48 (.call 132 [.k (.b false),.t 47]) [6,6],oP 11 (.new [.b false,.sn]) [],oN (.store 2 (.t 11) (.t 48)) [8,7,7,0,1,2,3,4,5,6,7,8]]) (.seq (.reg [oP 49 (.fad 1 (.t 11)) [],oP 50 (.load false 1 (.t 49)) [0],oM 9 50 [1,0,1]]) (.seq (.reg [oM 52 9 [],oM 53 1 [],oP 54 (.call 148 [.t 52,.t 53]) [0,1],oM 51 54 [2],oP 55 (.ext (.t 51) 0) [3],oP 56 (.ext (.t 51) 1) [3],oM 12 55 [4,2,0,1,2,3,4],oM 13 56 [5,6,0,1,2,3,4,5,6]]) (.seq (.block 2 (.loop zxp)) (.seq (.reg [oM 74 9 [],oM 75 1 [],oM 76 12 [],oP 77 (.call 149 [.t 75,.t 76]) [1,2],oP 78 (.call 135 [.t 74,.t 77]) [0,3,3],oP 79 (.call 132 [.k (.b false),.t 78]) [4,4],oP 15 (.new [.b false,.sn]) [],oN (.store 2 (.t 15) (.t 79)) [6,5,5,0,1,2,3,4,5,6]]) (.seq (.reg [oM 80 6 [],oM 81 10 [],oM 82 12 [],oP 83 (.ixs 1 (.t 80) (.t 81)) [0,1,0,1,2],oN (.store 1 (.t 83) (.t 82)) [3,2,0,1,2]]) (.reg [oP 84 (.fad 1 (.t 15)) [],oP 85 (.load false 1 (.t 84)) [0],oM 9 85 [1,0,1]])))))))) (.reg [oM 39 10 [],oP 40 (.bin .sub (.t 39) (.k (.i .i64 1))) [0],oM 10 40 [1,0,1]]))
def zv8:XF:=⟨88,.seq (.reg [oP 4 (.mov (.k .sn)) [],oP 5 (.mov (.k .sn)) [0]]) (.seq (.reg [oM 16 0 [],oP 17 (.len (.t 16)) [0],oP 18 (.msl [.i .i64 0] 8 (.t 17) (.t 17)) [1,1],oM 6 18 [2,0,1,2]]) (.seq (.reg [oM 19 0 [],oP 20 (.len (.t 19)) [0],oM 21 0 [],oP 22 (.len (.t 21)) [2],oM 23 1 [],oP 24 (.len (.t 23)) [4],oP 25 (.bin .sub (.t 22) (.t 24)) [3,5],oP 26 (.bin .add (.t 25) (.k (.i .i64 1))) [6],oP 27 (.mm false (.t 20) [.t 26]) [1,7],oP 28 (.mm true (.k (.i .i64 0)) [.t 27]) [8],oM 7 28 [9,0,1,2,3,4,5,6,7,8,9]]) (.seq (.reg [oM 29 0 [],oM 30 7 [],oP 31 (.slsl 1 (.t 29) (some (.t 30)) none none) [0,1],oP 32 (.call 132 [.k (.b false),.t 31]) [2],oP 8 (.new [.b false,.sn]) [],oN (.store 2 (.t 8) (.t 32)) [4,3,3,0,1,2,3,4]]) (.seq (.reg [oP 33 (.fad 1 (.t 8)) [],oP 34 (.load false 1 (.t 33)) [0],oM 9 34 [1,0,1]]) (.seq (.seq (.reg [oM 35 7 [],oP 36 (.bin .sub (.t 35) (.k (.i .i64 1))) [0],oM 10 36 [1,0,1]]) (.block 0 (.loop zxo))) (.seq (.reg [oM 86 6 [],oM 87 9 [],oM 4 86 [0,0],oM 5 87 [1,2,0,1,2]]) .ret)))))),[.tmp 4,.tmp 5]⟩
def zwK:XC:=.seq (.reg [oP 24 (.bin .lss (.t 23) (.t 22)) []]) (.seq (.cond (.t 24) .skip (.exit 0)) (.seq (.block 1 (.seq (.reg [oM 25 23 [],oM 7 25 [0,0]]) (.seq (.reg [oP 8 (.mov (.k (.i .u64 0))) []]) (.seq (.seq (.reg [oM 26 7 [],oM 27 0 [],oP 28 (.len (.t 27)) [1],oP 29 (.bin .lss (.t 26) (.t 28)) [0,2]]) (.cond (.t 29) (.reg [oM 30 8 [],oM 31 0 [],oM 32 7 [],oP 33 (.ixs 1 (.t 31) (.t 32)) [1,2],oP 34 (.load false 1 (.t 33)) [3],oP 35 (.cint .u64 (.t 34)) [4],oP 36 (.bin .add (.t 30) (.t 35)) [0,5],oM 8 36 [6,0,1,2,3,4,5,6]]) .skip)) (.seq (.seq (.reg [oM 37 7 [],oM 38 1 [],oP 39 (.len (.t 38)) [1],oP 40 (.bin .lss (.t 37) (.t 39)) [0,2]]) (.cond (.t 40) (.reg [oM 41 8 [],oM 42 1 [],oM 43 7 [],oP 44 (.ixs 1 (.t 42) (.t 43)) [1,2],oP 45 (.load false 1 (.t 44)) [3],oP 46 (.cint .u64 (.t 45)) [4],oP 47 (.bin .add (.t 41) (.t 46)) [0,5],oM 8 47 [6,0,1,2,3,4,5,6]]) .skip)) (.reg [oM 48 5 [],oM 49 7 [],oM 50 6 [],oM 51 8 [],oP 52 (.callv (.t 50) [.t 51]) [2,3],oP 53 (.ixs 1 (.t 48) (.t 49)) [0,1,0,1,2,3,4],oN (.store 1 (.t 53) (.t 52)) [5,4,4,0,1,2,3,4]])))))) (.reg [oP 54 (.bin .add (.t 23) (.k (.i .i64 1))) [],oM 23 54 [0]])))
def zxr:XF:=⟨56,.seq (.reg [oP 4 (.mov (.k .sn)) []]) (.seq (.seq (.reg [oM 9 0 [],oP 10 (.len (.t 9)) [0],oM 11 1 [],oP 12 (.len (.t 11)) [2],oP 13 (.bin .lss (.t 10) (.t 12)) [1,3]]) (.cond (.t 13) (.reg [oM 14 1 [],oM 15 0 [],oM 0 14 [0,0,1],oM 1 15 [1,2,0,1,2]]) .skip)) (.seq (.reg [oM 16 0 [],oP 17 (.len (.t 16)) [0],oP 18 (.bin .add (.t 17) (.k (.i .i64 1))) [1],oP 19 (.msl [.i .u32 0] 4 (.t 18) (.t 18)) [2,2],oM 5 19 [3,0,1,2,3]]) (.seq (.reg [oP 20 (.call 58 []) [],oM 6 20 [0,0,0]]) (.seq (.seq (.reg [oM 21 5 [],oP 22 (.len (.t 21)) [0],oP 23 (.mov (.k (.i .i64 0))) []]) (.block 0 (.loop zwK))) (.seq (.reg [oM 55 5 [],oM 4 55 [0,0]]) .ret))))),[.tmp 4]⟩
def zvY:XF:=⟨16,.seq (.reg [oP 4 (.mov (.k .sn)) []]) (.seq (.reg [oM 6 0 [],oP 7 (.len (.t 6)) [0],oP 8 (.msl [.i .u32 0] 4 (.t 7) (.t 7)) [1,1],oM 5 8 [2,0,1,2]]) (.seq (.reg [oM 9 5 [],oM 10 0 [],oP 11 (.cpy 1 (.t 9) (.t 10)) [0,1]]) (.seq (.reg [oM 12 5 [],oM 13 1 [],oP 14 (.call 62 [.t 12,.t 13]) [0,1]]) (.seq (.reg [oM 15 5 [],oM 4 15 [0,0]]) .ret)))),[.tmp 4]⟩
def zxL:XC:=.seq (.reg [oP 28 (.bin .lss (.t 27) (.t 26)) []]) (.seq (.cond (.t 28) .skip (.exit 2)) (.seq (.block 3 (.seq (.reg [oM 29 27 [],oP 30 (.ixs 1 (.t 25) (.t 27)) [],oP 31 (.load false 1 (.t 30)) [1],oM 9 29 [0,0,1,2],oM 10 31 [2,3,0,1,2,3]]) (.seq (.reg [oM 32 7 [],oP 33 (.cint .u64 (.t 32)) [0],oM 34 10 [],oP 35 (.cint .u64 (.t 34)) [2],oP 36 (.bin .mul (.t 33) (.t 35)) [1,3],oM 37 5 [],oM 38 6 [],oM 39 9 [],oP 40 (.bin .add (.t 38) (.t 39)) [6,7],oP 41 (.ixs 1 (.t 37) (.t 40)) [5,8],oP 42 (.load false 1 (.t 41)) [9],oP 43 (.cint .u64 (.t 42)) [10],oP 44 (.bin .add (.t 36) (.t 43)) [4,11],oM 45 8 [],oP 46 (.bin .add (.t 44) (.t 45)) [12,13],oM 11 46 [14,0,1,2,3,4,5,6,7,8,9,10,11,12,13,14]]) (.seq (.reg [oM 47 5 [],oM 48 6 [],oM 49 9 [],oP 50 (.bin .add (.t 48) (.t 49)) [1,2],oM 51 11 [],oP 52 (.cint .u32 (.t 51)) [4],oP 53 (.ixs 1 (.t 47) (.t 50)) [0,3,0,1,2,3,4,5],oN (.store 1 (.t 53) (.t 52)) [6,5,0,1,2,3,4,5]]) (.reg [oM 54 11 [],oP 55 (.bin .shr (.t 54) (.k (.i .u64 32))) [0],oM 8 55 [1,0,1]]))))) (.reg [oP 56 (.bin .add (.t 27) (.k (.i .i64 1))) [],oM 27 56 [0]])))
def zxt:XC:=.seq (.reg [oP 21 (.bin .lss (.t 20) (.t 19)) []]) (.seq (.cond (.t 21) .skip (.exit 0)) (.seq (.block 1 (.seq (.reg [oM 22 20 [],oP 23 (.ixs 1 (.t 18) (.t 20)) [],oP 24 (.load false 1 (.t 23)) [1],oM 6 22 [0,0,1,2],oM 7 24 [2,3,0,1,2,3]]) (.seq (.reg [oP 8 (.mov (.k (.i .u64 0))) []]) (.seq (.seq (.reg [oM 25 1 [],oP 26 (.len (.t 25)) [0],oP 27 (.mov (.k (.i .i64 0))) []]) (.block 2 (.loop zxL))) (.reg [oM 57 5 [],oM 58 6 [],oM 59 1 [],oP 60 (.len (.t 59)) [2],oP 61 (.bin .add (.t 58) (.t 60)) [1,3],oM 62 8 [],oP 63 (.cint .u32 (.t 62)) [5],oP 64 (.ixs 1 (.t 57) (.t 61)) [0,4,0,1,2,3,4,5,6],oN (.store 1 (.t 64) (.t 63)) [7,6,0,1,2,3,4,5,6]]))))) (.reg [oP 65 (.bin .add (.t 20) (.k (.i .i64 1))) [],oM 20 65 [0]])))
def zwf:XF:=⟨67,.seq (.reg [oP 4 (.mov (.k .sn)) []]) (.seq (.reg [oM 12 0 [],oP 13 (.len (.t 12)) [0],oM 14 1 [],oP 15 (.len (.t 14)) [2],oP 16 (.bin .add (.t 13) (.t 15)) [1,3],oP 17 (.msl [.i .u32 0] 4 (.t 16) (.t 16)) [4,4],oM 5 17 [5,0,1,2,3,4,5]]) (.seq (.seq (.reg [oM 18 0 [],oP 19 (.len (.t 18)) [0],oP 20 (.mov (.k (.i .i64 0))) []]) (.block 0 (.loop zxt))) (.seq (.reg [oM 66 5 [],oM 4 66 [0,0]]) .ret))),[.tmp 4]⟩
def zwJ:XC:=.seq (.seq (.reg [oM 111 17 [],oP 112 (.bin .shr (.t 111) (.k (.i .u64 32))) [0],oP 113 (.bin .gtr (.t 112) (.k (.i .u64 0))) [1],oM 114 113 [2],oF 115 (.mov (.t 17)) [3] 114,oF 116 (.mov (.t 14)) [3] 114,oF 117 (.bin .mul (.t 115) (.t 116)) [4,5,3] 114,oF 118 (.mov (.t 18)) [3] 114,oF 119 (.bin .shl (.t 118) (.k (.i .u64 32))) [7,3] 114,oF 120 (.mov (.t 9)) [3] 114,oF 121 (.mov (.t 15)) [3] 114,oF 122 (.mov (.t 11)) [3] 114,oF 123 (.bin .add (.t 121) (.t 122)) [10,11,3] 114,oF 124 (.bin .sub (.t 123) (.k (.i .i64 2))) [12,3] 114,oF 125 (.ixs 1 (.t 120) (.t 124)) [9,13,3] 114,oF 126 (.load false 1 (.t 125)) [14,3] 114,oF 127 (.cint .u64 (.t 126)) [15,3] 114,oF 128 (.bin .or (.t 119) (.t 127)) [8,16,3] 114,oF 129 (.bin .gtr (.t 117) (.t 128)) [6,17,3] 114,oP 130 (.pick (.t 114) (.k (.b true)) (.t 129)) [3,18]]) (.cond (.t 130) .skip (.exit 2))) (.block 3 (.seq (.reg [oM 131 17 [],oP 132 (.bin .sub (.t 131) (.k (.i .u64 1))) [0],oM 17 132 [1,0,1]]) (.seq (.reg [oM 133 18 [],oM 134 13 [],oP 135 (.bin .add (.t 133) (.t 134)) [0,1],oM 18 135 [2,0,1,2]]) (.seq (.reg [oM 136 18 [],oP 137 (.bin .shr (.t 136) (.k (.i .u64 32))) [0],oP 138 (.bin .gtr (.t 137) (.k (.i .u64 0))) [1]]) (.cond (.t 138) (.exit 2) .skip)))))
def zwI:XC:=.seq (.reg [oP 171 (.bin .lss (.t 170) (.t 169)) []]) (.seq (.cond (.t 171) .skip (.exit 4)) (.seq (.block 5 (.seq (.reg [oM 172 170 [],oM 20 172 [0,0]]) (.seq (.reg [oP 21 (.mov (.k (.i .u64 0))) []]) (.seq (.seq (.reg [oM 173 20 [],oM 174 11 [],oP 175 (.bin .lss (.t 173) (.t 174)) [0,1]]) (.cond (.t 175) (.reg [oM 176 10 [],oM 177 20 [],oP 178 (.ixs 1 (.t 176) (.t 177)) [0,1],oP 179 (.load false 1 (.t 178)) [2],oP 180 (.cint .u64 (.t 179)) [3],oM 21 180 [4,0,1,2,3,4]]) .skip)) (.reg [oM 181 9 [],oM 182 15 [],oM 183 20 [],oP 184 (.bin .add (.t 182) (.t 183)) [1,2],oM 185 19 [],oM 186 9 [],oM 187 15 [],oM 188 20 [],oP 189 (.bin .add (.t 187) (.t 188)) [6,7],oP 190 (.ixs 1 (.t 186) (.t 189)) [5,8],oP 191 (.load false 1 (.t 190)) [9],oP 192 (.cint .u64 (.t 191)) [10],oM 193 21 [],oP 194 (.bin .add (.t 192) (.t 193)) [11,12],oP 195 (.callv (.t 185) [.t 194]) [4,13],oP 196 (.ixs 1 (.t 181) (.t 184)) [0,3,0,1,2,3,4,5,6,7,8,9,10,11,12,13,14],oN (.store 1 (.t 196) (.t 195)) [15,14,14,0,1,2,3,4,5,6,7,8,9,10,11,12,13,14]]))))) (.reg [oP 197 (.bin .add (.t 170) (.k (.i .i64 1))) [],oM 170 197 [0]])))
def zxm:XC:=.seq (.seq (.reg [oM 84 15 [],oP 85 (.bin .geq (.t 84) (.k (.i .i64 0))) [0]]) (.cond (.t 85) .skip (.exit 0))) (.seq (.block 1 (.seq (.drw [oM 88 9 [],oM 89 15 [],oM 90 11 [],oP 91 (.bin .add (.t 89) (.t 90)) [1,2],oP 92 (.ixs 1 (.t 88) (.t 91)) [0,3],oP 93 (.load false 1 (.t 92)) [4],oP 94 (.cint .u64 (.t 93)) [5],oP 95 (.bin .shl (.t 94) (.k (.i .u64 32))) [6],oM 96 9 [],oM 97 15 [],oM 98 11 [],oP 99 (.bin .add (.t 97) (.t 98)) [9,10],oP 100 (.bin .sub (.t 99) (.k (.i .i64 1))) [11],oP 101 (.ixs 1 (.t 96) (.t 100)) [8,12],oP 102 (.load false 1 (.t 101)) [13],oP 103 (.cint .u64 (.t 102)) [14],oP 104 (.bin .or (.t 95) (.t 103)) [7,15],oM 16 104 [16,0,1,2,3,4,5,6,7,8,9,10,11,12,13,14,15,16]] []) (.seq (.drw [oM 105 16 [],oM 106 13 [],oP 107 (.bin .quo (.t 105) (.t 106)) [0,1],oM 108 16 [],oM 109 13 [],oP 110 (.bin .rem (.t 108) (.t 109)) [3,4],oM 17 107 [2,0,1,2],oM 18 110 [5,6,0,1,2,3,4,5,6]] []) (.seq (.block 2 (.loop zwJ)) (.seq (.reg [oM 139 12 [],oM 140 15 [],oM 141 17 [],oP 142 (.cint .u32 (.t 141)) [2],oP 143 (.ixs 1 (.t 139) (.t 140)) [0,1,0,1,2,3],oN (.store 1 (.t 143) (.t 142)) [4,3,0,1,2,3]]) (.seq (.seq (.reg [oM 144 9 [],oM 145 15 [],oM 146 15 [],oM 147 11 [],oP 148 (.bin .add (.t 146) (.t 147)) [2,3],oP 149 (.bin .add (.t 148) (.k (.i .i64 1))) [4],oP 150 (.slsl 1 (.t 144) (some (.t 145)) (some (.t 149)) none) [0,1,5],oM 151 10 [],oM 152 17 [],oP 153 (.call 57 [.t 150,.t 151,.t 152]) [6,7,8],oP 154 (.un .not (.t 153)) [9]]) (.cond (.t 154) (.exit 1) .skip)) (.seq (.reg [oM 155 12 [],oM 156 15 [],oP 157 (.ixs 1 (.t 155) (.t 156)) [0,1],oP 158 (.load false 1 (.t 157)) [2],oP 159 (.bin .sub (.t 158) (.k (.i .u32 1))) [3],oP 160 (.ixs 1 (.t 155) (.t 156)) [0,1,0,1,2,3,4],oN (.store 1 (.t 160) (.t 159)) [5,4,0,1,2,3,4]]) (.seq (.reg [oP 161 (.call 58 []) [],oM 19 161 [0,0,0]]) (.seq (.reg [oM 162 9 [],oM 163 15 [],oM 164 15 [],oM 165 11 [],oP 166 (.bin .add (.t 164) (.t 165)) [2,3],oP 167 (.bin .add (.t 166) (.k (.i .i64 1))) [4],oP 168 (.slsl 1 (.t 162) (some (.t 163)) (some (.t 167)) none) [0,1,5],oP 169 (.len (.t 168)) [6],oP 170 (.mov (.k (.i .i64 0))) []]) (.block 4 (.loop zwI))))))))))) (.reg [oM 86 15 [],oP 87 (.bin .sub (.t 86) (.k (.i .i64 1))) [0],oM 15 87 [1,0,1]]))
def zxn:XC:=.seq (.reg [oP 203 (.bin .lss (.t 202) (.t 201)) []]) (.seq (.cond (.t 203) .skip (.exit 6)) (.seq (.block 7 (.seq (.reg [oM 204 202 [],oM 23 204 [0,0]]) (.drw [oM 205 22 [],oM 206 23 [],oM 207 9 [],oM 208 23 [],oP 209 (.bin .add (.t 208) (.k (.i .i64 1))) [3],oP 210 (.ixs 1 (.t 207) (.t 209)) [2,4],oP 211 (.load false 1 (.t 210)) [5],oP 212 (.cint .u64 (.t 211)) [6],oP 213 (.bin .shl (.t 212) (.k (.i .u64 32))) [7],oM 214 9 [],oM 215 23 [],oP 216 (.ixs 1 (.t 214) (.t 215)) [9,10],oP 217 (.load false 1 (.t 216)) [11],oP 218 (.cint .u64 (.t 217)) [12],oP 219 (.bin .or (.t 213) (.t 218)) [8,13],oM 220 8 [],oP 221 (.bin .shr (.t 219) (.t 220)) [14,15],oP 222 (.cint .u32 (.t 221)) [16],oP 223 (.ixs 1 (.t 205) (.t 206)) [0,1,0,1,2,3,4,5,6,7,8,9,10,11,12,13,14,15,16,17],oN (.store 1 (.t 223) (.t 222)) [18,17,0,1,2,3,4,5,6,7,8,9,10,11,12,13,14,15,16,17]] []))) (.reg [oP 224 (.bin .add (.t 202) (.k (.i .i64 1))) [],oM 202 224 [0]])))
def zvW:XF:=⟨229,.seq (.reg [oP 4 (.mov (.k .sn)) [],oP 5 (.mov (.k .sn)) [0]]) (.scope (.seq (.seq (.reg [oM 24 0 [],oM 25 1 [],oP 26 (.call 41 [.t 24,.t 25]) [0,1],oP 27 (.bin .lss (.t 26) (.k (.i .i64 0))) [2]]) (.cond (.t 27) (.seq (.reg [oM 28 0 [],oP 4 (.mov (.k .sn)) [],oM 5 28 [0,1,0,1]]) .ret) .skip)) (.seq (.seq (.reg [oM 29 1 [],oP 30 (.len (.t 29)) [0],oP 31 (.bin .eql (.t 30) (.k (.i .i64 1))) [1]]) (.cond (.t 31) (.seq (.reg [oM 33 0 [],oM 34 1 [],oP 35 (.ixs 1 (.t 34) (.k (.i .i64 0))) [1],oP 36 (.load false 1 (.t 35)) [2],oP 37 (.call 48 [.t 33,.t 36]) [0,3],oM 32 37 [4],oP 38 (.ext (.t 32) 0) [5],oP 39 (.ext (.t 32) 1) [5],oM 6 38 [6,4,0,1,2,3,4,5,6],oM 7 39 [7,8,0,1,2,3,4,5,6,7,8]]) (.seq (.reg [oM 40 6 [],oP 41 (.call 49 [.t 40]) [0],oM 42 7 [],oP 43 (.bsl 1 1 [.i .u32 0] [(0,(1,.t 42))]) [2],oP 44 (.call 49 [.t 43]) [3,1],oM 4 41 [1,4,0,1],oM 5 44 [4,5,0,1,2,3,4,5]]) .ret)) .skip)) (.seq (.reg [oM 45 1 [],oM 46 1 [],oP 47 (.len (.t 46)) [1],oP 48 (.bin .sub (.t 47) (.k (.i .i64 1))) [2],oP 49 (.ixs 1 (.t 45) (.t 48)) [0,3],oP 50 (.load false 1 (.t 49)) [4],oP 51 (.call 55 [.t 50]) [5],oM 8 51 [6,6,0,1,2,3,4,5,6]]) (.seq (.drw [oM 52 0 [],oM 53 8 [],oP 54 (.call 56 [.t 52,.t 53]) [0,1],oM 55 1 [],oM 56 8 [],oP 57 (.call 56 [.t 55,.t 56]) [3,4,2],oM 58 1 [],oP 59 (.len (.t 58)) [6],oP 60 (.slsl 1 (.t 57) none (some (.t 59)) none) [5,7],oM 9 54 [2,5,0,1,2],oM 10 60 [8,9,0,1,2,3,4,5,6,7,8,9]] []) (.seq (.reg [oM 61 10 [],oP 62 (.len (.t 61)) [0],oM 11 62 [1,0,1]]) (.seq (.reg [oM 63 0 [],oP 64 (.len (.t 63)) [0],oM 65 11 [],oP 66 (.bin .sub (.t 64) (.t 65)) [1,2],oP 67 (.bin .add (.t 66) (.k (.i .i64 1))) [3],oP 68 (.msl [.i .u32 0] 4 (.t 67) (.t 67)) [4,4],oM 12 68 [5,0,1,2,3,4,5]]) (.seq (.drw [oM 69 10 [],oM 70 11 [],oP 71 (.bin .sub (.t 70) (.k (.i .i64 1))) [1],oP 72 (.ixs 1 (.t 69) (.t 71)) [0,2],oP 73 (.load false 1 (.t 72)) [3],oP 74 (.cint .u64 (.t 73)) [4],oM 75 10 [],oM 76 11 [],oP 77 (.bin .sub (.t 76) (.k (.i .i64 2))) [7],oP 78 (.ixs 1 (.t 75) (.t 77)) [6,8],oP 79 (.load false 1 (.t 78)) [9],oP 80 (.cint .u64 (.t 79)) [10],oM 13 74 [5,0,1,2,3,4,5],oM 14 80 [11,12,0,1,2,3,4,5,6,7,8,9,10,11,12]] []) (.seq .skip (.seq (.seq (.reg [oM 81 12 [],oP 82 (.len (.t 81)) [0],oP 83 (.bin .sub (.t 82) (.k (.i .i64 1))) [1],oM 15 83 [2,0,1,2]]) (.block 0 (.loop zxm))) (.seq (.reg [oM 198 11 [],oP 199 (.msl [.i .u32 0] 4 (.t 198) (.t 198)) [0,0],oM 22 199 [1,0,1]]) (.seq (.seq (.reg [oM 200 22 [],oP 201 (.len (.t 200)) [0],oP 202 (.mov (.k (.i .i64 0))) []]) (.block 6 (.loop zxn))) (.seq (.reg [oM 225 12 [],oP 226 (.call 49 [.t 225]) [0],oM 227 22 [],oP 228 (.call 49 [.t 227]) [2,1],oM 4 226 [1,3,0,1],oM 5 228 [3,4,0,1,2,3,4]]) .ret))))))))))))),[.tmp 4,.tmp 5]⟩
def zwS:XC:=.seq (.reg [oP 13 (.bin .lss (.t 12) (.t 11)) []]) (.seq (.cond (.t 13) .skip (.exit 0)) (.seq (.block 1 (.seq (.reg [oP 14 (.ixs 2 (.t 10) (.t 12)) [],oP 15 (.load true 2 (.t 14)) [0],oP 6 (.new [.b false,.sn]) [],oN (.store 2 (.t 6) (.t 15)) [2,1,0,1,2]]) (.seq (.reg [oP 17 (.load true 2 (.t 4)) [],oP 18 (.load true 2 (.t 6)) [],oP 19 (.call 38 [.t 17,.t 18]) [0,1],oM 16 19 [2],oP 20 (.ext (.t 16) 0) [3],oP 21 (.ext (.t 16) 1) [3],oP 7 (.new [.b false,.sn]) [],oN (.store 2 (.t 7) (.t 20)) [6,4,2,0,1,2,3,4,6],oM 8 21 [5,7,0,1,2,3,4,5,6,7]]) (.seq (.seq (.reg [oM 22 8 [],oP 23 (.bin .neq (.t 22) (.k (.i .i64 0))) [0]]) (.cond (.t 23) (.seq (.reg [oP 24 (.build [.b false,.sn] []) [],oM 25 8 [],oN (.store 2 (.t 2) (.t 24)) [0,0],oM 3 25 [1,2,0,1,2]]) .ret) .skip)) (.reg [oP 26 (.load true 2 (.t 7)) [],oN (.store 2 (.t 4) (.t 26)) [0,0]]))))) (.reg [oP 27 (.bin .add (.t 12) (.k (.i .i64 1))) [],oM 12 27 [0]])))
def zw3:XF:=⟨29,.seq (.reg [oP 2 (.new [.b false,.sn]) [],oP 3 (.mov (.k (.i .i64 0))) []]) (.seq (.reg [oP 9 (.call 34 [.k (.i .i64 1)]) [],oP 4 (.new [.b false,.sn]) [],oN (.store 2 (.t 4) (.t 9)) [1,0,0,0,1]]) (.seq (.seq (.reg [oM 10 0 [],oP 11 (.len (.t 10)) [0],oP 12 (.mov (.k (.i .i64 0))) []]) (.block 0 (.loop zwS))) (.seq (.reg [oP 28 (.load true 2 (.t 4)) [],oN (.store 2 (.t 2) (.t 28)) [0,0],oP 3 (.mov (.k (.i .i64 0))) [1,0,1]]) .ret))),[.cell 2 true 2,.tmp 3]⟩
def zvK:XF:=⟨23,.seq (.reg [oP 4 (.mov (.k (.s []))) [],oP 5 (.mov (.k (.s []))) [0],oP 6 (.mov (.k (.b false))) [1]]) (.seq (.seq (.reg [oM 8 0 [],oM 9 1 [],oP 10 (.call 222 [.t 8,.t 9]) [0,1],oM 7 10 [2,2,0,1,2]]) (.seq (.reg [oM 11 7 [],oP 12 (.bin .geq (.t 11) (.k (.i .i64 0))) [0]]) (.cond (.t 12) (.seq (.drw [oM 13 0 [],oM 14 7 [],oP 15 (.slstr (.t 13) none (some (.t 14))) [0,1],oM 16 0 [],oM 17 7 [],oM 18 1 [],oP 19 (.lens (.t 18)) [5],oP 20 (.bin .add (.t 17) (.t 19)) [4,6],oP 21 (.slstr (.t 16) (some (.t 20)) none) [3,7],oM 4 15 [2,0,1,2],oM 5 21 [8,9,0,1,2,3,4,5,6,7,8,9],oP 6 (.mov (.k (.b true))) [10,0,1,2,3,4,5,6,7,8,9,10]] []) .ret) .skip))) (.seq (.reg [oM 22 0 [],oM 4 22 [0,0],oP 5 (.mov (.k (.s []))) [1,0,1],oP 6 (.mov (.k (.b false))) [2,0,1,2]]) .ret)),[.tmp 4,.tmp 5,.tmp 6]⟩
def zwb:XF:=⟨11,.seq (.reg [oP 4 (.mov (.k (.s []))) [],oP 5 (.mov (.k (.b false))) [0]]) (.seq (.reg [oM 6 0 [],oM 7 1 [],oP 8 (.call 137 [.t 6,.t 7]) [0,1],oP 9 (.ext (.t 8) 0) [2],oP 10 (.ext (.t 8) 1) [2],oM 4 9 [3,2,0,1,2,3,4],oM 5 10 [4,5,0,1,2,3,4,5]]) .ret),[.tmp 4,.tmp 5]⟩
def zwi:XF:=⟨20,.seq (.reg [oP 4 (.mov (.k (.i .i64 0))) []]) (.seq (.reg [oM 7 0 [],oP 8 (.call 78 [.t 7]) [0],oM 5 8 [1,1,0,1]]) (.seq (.reg [oM 9 1 [],oP 10 (.call 78 [.t 9]) [0],oM 6 10 [1,1,0,1]]) (.seq (.seq (.reg [oM 11 5 []]) (.cond (.t 11) (.seq (.seq (.reg [oM 12 6 []]) (.cond (.t 12) (.seq (.reg [oP 4 (.mov (.k (.i .i64 0))) []]) .ret) .skip)) (.seq (.reg [oP 4 (.mov (.k (.i .i64 (-1)))) []]) .ret)) .skip)) (.seq (.seq (.reg [oM 13 6 []]) (.cond (.t 13) (.seq (.reg [oP 4 (.mov (.k (.i .i64 1))) []]) .ret) .skip)) (.seq (.seq (.reg [oM 14 0 [],oM 15 1 [],oP 16 (.bin .lss (.t 14) (.t 15)) [0,1]]) (.cond (.t 16) (.seq (.reg [oP 4 (.mov (.k (.i .i64 (-1)))) []]) .ret) .skip)) (.seq (.seq (.reg [oM 17 0 [],oM 18 1 [],oP 19 (.bin .gtr (.t 17) (.t 18)) [0,1]]) (.cond (.t 19) (.seq (.reg [oP 4 (.mov (.k (.i .i64 1))) []]) .ret) .skip)) (.seq (.reg [oP 4 (.mov (.k (.i .i64 0))) []]) .ret))))))),[.tmp 4]⟩
def zv4:XF:=⟨20,.seq (.reg [oP 4 (.mov (.k (.i .i64 0))) []]) (.seq (.reg [oM 7 0 [],oP 8 (.call 79 [.t 7]) [0],oM 5 8 [1,1,0,1]]) (.seq (.reg [oM 9 1 [],oP 10 (.call 79 [.t 9]) [0],oM 6 10 [1,1,0,1]]) (.seq (.seq (.reg [oM 11 5 []]) (.cond (.t 11) (.seq (.seq (.reg [oM 12 6 []]) (.cond (.t 12) (.seq (.reg [oP 4 (.mov (.k (.i .i64 0))) []]) .ret) .skip)) (.seq (.reg [oP 4 (.mov (.k (.i .i64 (-1)))) []]) .ret)) .skip)) (.seq (.seq (.reg [oM 13 6 []]) (.cond (.t 13) (.seq (.reg [oP 4 (.mov (.k (.i .i64 1))) []]) .ret) .skip)) (.seq (.seq (.reg [oM 14 0 [],oM 15 1 [],oP 16 (.bin .lss (.t 14) (.t 15)) [0,1]]) (.cond (.t 16) (.seq (.reg [oP 4 (.mov (.k (.i .i64 (-1)))) []]) .ret) .skip)) (.seq (.seq (.reg [oM 17 0 [],oM 18 1 [],oP 19 (.bin .gtr (.t 17) (.t 18)) [0,1]]) (.cond (.t 19) (.seq (.reg [oP 4 (.mov (.k (.i .i64 1))) []]) .ret) .skip)) (.seq (.reg [oP 4 (.mov (.k (.i .i64 0))) []]) .ret))))))),[.tmp 4]⟩
def zwk:XF:=⟨53,.seq (.reg [oP 4 (.mov (.k (.i .i64 0))) [],oP 5 (.mov (.k (.i .i64 0))) [0]]) (.seq (.reg [oM 9 1 [],oP 10 (.len (.t 9)) [0],oM 6 10 [1,0,1]]) (.seq (.seq (.reg [oM 11 0 [],oP 12 (.len (.t 11)) [0],oM 13 6 [],oP 14 (.bin .lss (.t 12) (.t 13)) [1,2],oM 15 14 [3],oF 16 (.mov (.t 6)) [4] 15,oF 17 (.bin .eql (.t 16) (.k (.i .i64 0))) [5,4] 15,oP 18 (.pick (.t 15) (.k (.b true)) (.t 17)) [4,6]]) (.cond (.t 18) (.seq (.reg [oP 4 (.mov (.k (.i .i64 0))) [],oP 5 (.mov (.k (.i .i64 0))) [0,0]]) .ret) .skip)) (.seq (.reg [oM 19 0 [],oM 20 6 [],oP 21 (.call 159 [.t 19,.t 20]) [0,1],oP 22 (.bin .mul (.k (.i .i64 10000)) (.t 21)) [2],oM 23 0 [],oM 24 6 [],oP 25 (.bin .sub (.t 24) (.k (.i .i64 1))) [5],oP 26 (.call 159 [.t 23,.t 25]) [4,6,2],oP 27 (.bin .add (.t 22) (.t 26)) [3,7],oP 28 (.bin .mul (.k (.i .i64 10000)) (.t 27)) [8],oM 29 0 [],oM 30 6 [],oP 31 (.bin .sub (.t 30) (.k (.i .i64 2))) [11],oP 32 (.call 159 [.t 29,.t 31]) [10,12,7],oP 33 (.bin .add (.t 28) (.t 32)) [9,13],oM 7 33 [14,13,0,1,2,3,4,5,6,7,8,9,10,11,12,13,14]]) (.seq (.reg [oM 34 1 [],oM 35 6 [],oP 36 (.bin .sub (.t 35) (.k (.i .i64 1))) [1],oP 37 (.call 159 [.t 34,.t 36]) [0,2],oP 38 (.bin .mul (.k (.i .i64 10000)) (.t 37)) [3],oM 39 1 [],oM 40 6 [],oP 41 (.bin .sub (.t 40) (.k (.i .i64 2))) [6],oP 42 (.call 159 [.t 39,.t 41]) [5,7,3],oP 43 (.bin .add (.t 38) (.t 42)) [4,8],oM 8 43 [9,8,0,1,2,3,4,5,6,7,8,9]]) (.seq (.drw [oM 44 7 [],oM 45 8 [],oP 46 (.bin .add (.t 45) (.k (.i .i64 1))) [1],oP 47 (.bin .quo (.t 44) (.t 46)) [0,2],oP 48 (.mm false (.k (.i .i64 9999)) [.t 47]) [3],oM 49 7 [],oM 50 8 [],oP 51 (.bin .quo (.t 49) (.t 50)) [5,6],oP 52 (.mm false (.k (.i .i64 9999)) [.t 51]) [7],oM 4 48 [4,0,1,2,3,4],oM 5 52 [8,9,0,1,2,3,4,5,6,7,8,9]] []) .ret))))),[.tmp 4,.tmp 5]⟩
def zxf:XF:=⟨13,.seq (.reg [oP 4 (.mov (.k .sn)) []]) (.seq (.reg [oM 6 0 [],oP 7 (.build [.b false,.sn] [(1,(1,.t 6))]) [0],oM 8 1 [],oP 9 (.call 114 [.t 8]) [2],oP 10 (.call 118 [.t 7,.t 9]) [1,3,3],oP 5 (.new [.b false,.sn]) [],oN (.store 2 (.t 5) (.t 10)) [5,4,4,0,1,2,3,4,5]]) (.seq (.reg [oP 11 (.fad 1 (.t 5)) [],oP 12 (.load false 1 (.t 11)) [0],oM 4 12 [1,0,1]]) .ret)),[.tmp 4]⟩
def zwD:XF:=⟨3,.seq (.reg [oP 0 (.mov (.k .fnil)) []]) (.seq (.reg [oP 1 (.new [.i .u64 0]) []]) (.seq (.reg [oP 2 (.mfn 77 [.t 1]) [],oM 0 2 [0,0]]) .ret)),[.tmp 0]⟩
def zwd:XC:=.seq (.reg [oP 12 (.bin .lss (.t 11) (.t 10)) []]) (.seq (.cond (.t 12) .skip (.exit 0)) (.seq (.block 1 (.seq (.reg [oM 13 11 [],oM 6 13 [0,0]]) (.seq (.reg [oM 14 5 [],oM 7 14 [0,0]]) (.seq (.seq (.reg [oM 15 6 [],oM 16 1 [],oP 17 (.len (.t 16)) [1],oP 18 (.bin .lss (.t 15) (.t 17)) [0,2]]) (.cond (.t 18) (.reg [oM 19 7 [],oM 20 1 [],oM 21 6 [],oP 22 (.ixs 1 (.t 20) (.t 21)) [1,2],oP 23 (.load false 1 (.t 22)) [3],oP 24 (.cint .u64 (.t 23)) [4],oP 25 (.bin .add (.t 19) (.t 24)) [0,5],oM 7 25 [6,0,1,2,3,4,5,6]]) .skip)) (.seq (.reg [oM 26 0 [],oM 27 6 [],oP 28 (.ixs 1 (.t 26) (.t 27)) [0,1],oP 29 (.load false 1 (.t 28)) [2],oP 30 (.cint .u64 (.t 29)) [3],oM 8 30 [4,0,1,2,3,4]]) (.seq (.reg [oP 5 (.mov (.k (.i .u64 0))) []]) (.seq (.seq (.reg [oM 31 7 [],oM 32 8 [],oP 33 (.bin .gtr (.t 31) (.t 32)) [0,1]]) (.cond (.t 33) (.seq (.reg [oM 34 8 [],oP 35 (.bin .add (.t 34) (.k (.i .u64 4294967296))) [0],oM 8 35 [1,0,1]]) (.reg [oP 5 (.mov (.k (.i .u64 1))) []])) .skip)) (.reg [oM 36 0 [],oM 37 6 [],oM 38 8 [],oM 39 7 [],oP 40 (.bin .sub (.t 38) (.t 39)) [2,3],oP 41 (.cint .u32 (.t 40)) [4],oP 42 (.ixs 1 (.t 36) (.t 37)) [0,1,0,1,2,3,4,5],oN (.store 1 (.t 42) (.t 41)) [6,5,0,1,2,3,4,5]])))))))) (.reg [oP 43 (.bin .add (.t 11) (.k (.i .i64 1))) [],oM 11 43 [0]])))
def zv0:XF:=⟨46,.seq (.reg [oP 4 (.mov (.k (.i .u32 0))) []]) (.seq (.reg [oP 5 (.mov (.k (.i .u64 0))) []]) (.seq (.seq (.reg [oM 9 0 [],oP 10 (.len (.t 9)) [0],oP 11 (.mov (.k (.i .i64 0))) []]) (.block 0 (.loop zwd))) (.seq (.reg [oM 44 5 [],oP 45 (.cint .u32 (.t 44)) [0],oM 4 45 [1,0,1]]) .ret))),[.tmp 4]⟩
def zvX:XF:=⟨6,.seq (.reg [oP 2 (.mov (.k (.i .i64 0))) []]) (.seq (.reg [oM 3 0 [],oP 4 (.call 76 [.t 3]) [0],oP 5 (.bin .sub (.k (.i .i64 32)) (.t 4)) [1],oM 2 5 [2,1,0,1,2]]) .ret),[.tmp 2]⟩
def zw5:XC:=.seq (.reg [oP 16 (.bin .lss (.t 15) (.t 14)) []]) (.seq (.cond (.t 16) .skip (.exit 0)) (.seq (.block 1 (.seq (.reg [oM 17 15 [],oP 18 (.ixs 1 (.t 13) (.t 15)) [],oP 19 (.load false 1 (.t 18)) [1],oM 6 17 [0,0,1,2],oM 7 19 [2,3,0,1,2,3]]) (.seq (.reg [oM 20 7 [],oP 21 (.cint .u64 (.t 20)) [0],oM 22 1 [],oP 23 (.bin .shl (.t 21) (.t 22)) [1,2],oM 8 23 [3,0,1,2,3]]) (.seq (.reg [oM 24 5 [],oM 25 6 [],oP 26 (.ixs 1 (.t 24) (.t 25)) [0,1],oP 27 (.load false 1 (.t 26)) [2],oM 28 8 [],oP 29 (.cint .u32 (.t 28)) [4],oP 30 (.bin .or (.t 27) (.t 29)) [3,5],oP 31 (.ixs 1 (.t 24) (.t 25)) [0,1,0,1,2,3,4,5,6],oN (.store 1 (.t 31) (.t 30)) [7,6,0,1,2,3,4,5,6]]) (.reg [oM 32 5 [],oM 33 6 [],oP 34 (.bin .add (.t 33) (.k (.i .i64 1))) [1],oM 35 8 [],oP 36 (.bin .shr (.t 35) (.k (.i .u64 32))) [3],oP 37 (.cint .u32 (.t 36)) [4],oP 38 (.ixs 1 (.t 32) (.t 34)) [0,2,0,1,2,3,4,5],oN (.store 1 (.t 38) (.t 37)) [6,5,0,1,2,3,4,5]]))))) (.reg [oP 39 (.bin .add (.t 15) (.k (.i .i64 1))) [],oM 15 39 [0]])))
def zwG:XF:=⟨41,.seq (.reg [oP 4 (.mov (.k .sn)) []]) (.seq (.reg [oM 9 0 [],oP 10 (.len (.t 9)) [0],oP 11 (.bin .add (.t 10) (.k (.i .i64 1))) [1],oP 12 (.msl [.i .u32 0] 4 (.t 11) (.t 11)) [2,2],oM 5 12 [3,0,1,2,3]]) (.seq (.seq (.reg [oM 13 0 [],oP 14 (.len (.t 13)) [0],oP 15 (.mov (.k (.i .i64 0))) []]) (.block 0 (.loop zw5))) (.seq (.reg [oM 40 5 [],oM 4 40 [0,0]]) .ret))),[.tmp 4]⟩
def zw4:XC:=.seq (.reg [oP 15 (.bin .lss (.t 14) (.t 13)) []]) (.seq (.cond (.t 15) .skip (.exit 0)) (.seq (.block 1 (.seq (.reg [oM 16 14 [],oM 9 16 [0,0]]) (.seq (.reg [oM 17 7 [],oM 10 17 [0,0]]) (.seq (.seq (.reg [oM 18 9 [],oM 19 1 [],oP 20 (.len (.t 19)) [1],oP 21 (.bin .lss (.t 18) (.t 20)) [0,2]]) (.cond (.t 21) (.reg [oM 22 10 [],oM 23 2 [],oM 24 1 [],oM 25 9 [],oP 26 (.ixs 1 (.t 24) (.t 25)) [2,3],oP 27 (.load false 1 (.t 26)) [4],oP 28 (.cint .u64 (.t 27)) [5],oP 29 (.bin .mul (.t 23) (.t 28)) [1,6],oP 30 (.bin .add (.t 22) (.t 29)) [0,7],oM 10 30 [8,0,1,2,3,4,5,6,7,8]]) .skip)) (.seq (.reg [oM 31 10 [],oP 32 (.bin .shr (.t 31) (.k (.i .u64 32))) [0],oM 7 32 [1,0,1]]) (.seq (.reg [oM 33 0 [],oM 34 9 [],oP 35 (.ixs 1 (.t 33) (.t 34)) [0,1],oP 36 (.load false 1 (.t 35)) [2],oP 37 (.cint .u64 (.t 36)) [3],oM 38 10 [],oP 39 (.cint .u32 (.t 38)) [5],oP 40 (.cint .u64 (.t 39)) [6],oP 41 (.bin .sub (.t 37) (.t 40)) [4,7],oM 42 8 [],oP 43 (.bin .sub (.t 41) (.t 42)) [8,9],oM 11 43 [10,0,1,2,3,4,5,6,7,8,9,10]]) (.seq (.reg [oM 44 0 [],oM 45 9 [],oM 46 11 [],oP 47 (.cint .u32 (.t 46)) [2],oP 48 (.ixs 1 (.t 44) (.t 45)) [0,1,0,1,2,3],oN (.store 1 (.t 48) (.t 47)) [4,3,0,1,2,3]]) (.reg [oM 49 11 [],oP 50 (.bin .shr (.t 49) (.k (.i .u64 63))) [0],oM 8 50 [1,0,1]])))))))) (.reg [oP 51 (.bin .add (.t 14) (.k (.i .i64 1))) [],oM 14 51 [0]])))
def zxb:XF:=⟨54,.seq (.reg [oP 6 (.mov (.k (.b false))) []]) (.seq (.reg [oP 7 (.mov (.k (.i .u64 0))) [],oP 8 (.mov (.k (.i .u64 0))) [0]]) (.seq (.seq (.reg [oM 12 0 [],oP 13 (.len (.t 12)) [0],oP 14 (.mov (.k (.i .i64 0))) []]) (.block 0 (.loop zw4))) (.seq (.reg [oM 52 8 [],oP 53 (.bin .gtr (.t 52) (.k (.i .u64 0))) [0],oM 6 53 [1,0,1]]) .ret))),[.tmp 6]⟩
def zvP:XF:=⟨15,.seq (.reg [oP 4 (.mov (.k (.s []))) [],oP 5 (.mov (.k (.b false))) [0]]) (.seq (.seq (.reg [oM 6 0 [],oM 7 1 [],oP 8 (.call 85 [.t 6,.t 7]) [0,1],oP 9 (.un .not (.t 8)) [2]]) (.cond (.t 9) (.seq (.reg [oM 10 0 [],oM 4 10 [0,0],oP 5 (.mov (.k (.b false))) [1,0,1]]) .ret) .skip)) (.seq (.reg [oM 11 0 [],oM 12 1 [],oP 13 (.lens (.t 12)) [1],oP 14 (.slstr (.t 11) (some (.t 13)) none) [0,2],oM 4 14 [3,0,1,2,3],oP 5 (.mov (.k (.b true))) [4,0,1,2,3,4]]) .ret)),[.tmp 4,.tmp 5]⟩
def zvO:XF:=⟨18,.seq (.reg [oP 4 (.mov (.k (.b false))) []]) (.seq (.reg [oM 5 0 [],oP 6 (.lens (.t 5)) [0],oM 7 1 [],oP 8 (.lens (.t 7)) [2],oP 9 (.bin .geq (.t 6) (.t 8)) [1,3],oM 10 9 [4],oT 11 (.mov (.t 0)) [5] 10,oT 12 (.mov (.t 1)) [5] 10,oT 13 (.lens (.t 12)) [7,5] 10,oT 14 (.slstr (.t 11) none (some (.t 13))) [6,8,5] 10,oT 15 (.mov (.t 1)) [5] 10,oT 16 (.bin .eql (.t 14) (.t 15)) [9,10,5] 10,oP 17 (.pick (.t 10) (.t 16) (.k (.b false))) [5,11],oM 4 17 [12,5,0,1,2,3,4,5,6,7,8,9,10,11,12]]) .ret),[.tmp 4]⟩
def zwo:XF:=⟨6,.seq (.reg [oP 2 (.mov (.k (.b false))) []]) (.seq (.reg [oM 3 0 [],oM 4 0 [],oP 5 (.bin .neq (.t 3) (.t 4)) [0,1],oM 2 5 [2,0,1,2]]) .ret),[.tmp 2]⟩
def zwc:XF:=⟨6,.seq (.reg [oP 2 (.mov (.k (.b false))) []]) (.seq (.reg [oM 3 0 [],oM 4 0 [],oP 5 (.bin .neq (.t 3) (.t 4)) [0,1],oM 2 5 [2,0,1,2]]) .ret),[.tmp 2]⟩
def zwU:XF:=⟨17,.seq (.reg [oP 4 (.mov (.k (.i .i64 0))) []]) (.seq (.seq (.reg [oM 5 1 [],oP 6 (.bin .lss (.t 5) (.k (.i .i64 0))) [0],oM 7 6 [1],oF 8 (.mov (.t 1)) [2] 7,oF 9 (.mov (.t 0)) [2] 7,oF 10 (.len (.t 9)) [4,2] 7,oF 11 (.bin .geq (.t 8) (.t 10)) [3,5,2] 7,oP 12 (.pick (.t 7) (.k (.b true)) (.t 11)) [2,6]]) (.cond (.t 12) (.seq (.reg [oP 4 (.mov (.k (.i .i64 0))) []]) .ret) .skip)) (.seq (.reg [oM 13 0 [],oM 14 1 [],oP 15 (.ixs 1 (.t 13) (.t 14)) [0,1],oP 16 (.load false 1 (.t 15)) [2],oM 4 16 [3,0,1,2,3]]) .ret)),[.tmp 4]⟩
def zwn:XF:=⟨13,.seq (.reg [oP 3 (.mov (.k (.i .u32 0))) []]) (.seq (.reg [oP 5 (.load false 1 (.t 1)) [],oM 6 0 [],oP 7 (.bin .add (.t 5) (.t 6)) [0,1],oN (.store 1 (.t 1) (.t 7)) [2,0,1,2]]) (.seq (.reg [oP 8 (.load false 1 (.t 1)) [],oP 9 (.cint .u32 (.t 8)) [0],oM 4 9 [1,0,1]]) (.seq (.reg [oP 10 (.load false 1 (.t 1)) [],oP 11 (.bin .shr (.t 10) (.k (.i .u64 32))) [0],oN (.store 1 (.t 1) (.t 11)) [1,0,1]]) (.seq (.reg [oM 12 4 [],oM 3 12 [0,0]]) .ret)))),[.tmp 3]⟩
def zwj:XF:=⟨19,.seq (.reg [oP 2 (.mov (.k (.i .i64 0))) []]) (.seq (.seq (.reg [oM 3 0 [],oP 4 (.bin .geq (.t 3) (.k (.i .u32 65536))) [0]]) (.cond (.t 4) (.seq (.reg [oM 5 0 [],oP 6 (.bin .shr (.t 5) (.k (.i .u64 16))) [0],oM 0 6 [1,0,1]]) (.reg [oP 2 (.mov (.k (.i .i64 16))) []])) .skip)) (.seq (.seq (.reg [oM 7 0 [],oP 8 (.bin .geq (.t 7) (.k (.i .u32 256))) [0]]) (.cond (.t 8) (.seq (.reg [oM 9 0 [],oP 10 (.bin .shr (.t 9) (.k (.i .u64 8))) [0],oM 0 10 [1,0,1]]) (.reg [oM 11 2 [],oP 12 (.bin .add (.t 11) (.k (.i .i64 8))) [0],oM 2 12 [1,0,1]])) .skip)) (.seq (.reg [oM 13 2 [],oM 14 0 [],oP 15 (.cint .u8 (.t 14)) [1],oP 16 (.istr (.k (.s xs_1d3e63)) (.t 15)) [2],oP 17 (.cint .i64 (.t 16)) [3],oP 18 (.bin .add (.t 13) (.t 17)) [0,4],oM 2 18 [5,0,1,2,3,4,5]]) .ret))),[.tmp 2]⟩
def zw2:XF:=⟨18,.seq (.reg [oP 2 (.box (.t 0)) [],oP 3 (.box (.t 1)) [],oP 4 (.new [.b false,.sn]) [],oP 5 (.mov (.k (.i .i64 0))) []]) (.seq (.reg [oP 10 (.load true 2 (.t 2)) [],oP 11 (.load true 2 (.t 3)) [],oP 12 (.call 29 [.t 10,.t 11]) [0,1],oM 9 12 [2],oP 13 (.ext (.t 9) 0) [3],oP 14 (.ext (.t 9) 1) [3],oP 15 (.ext (.t 9) 2) [3],oP 6 (.new [.b false,.sn]) [],oP 7 (.new [.b false,.sn]) [],oN (.store 2 (.t 6) (.t 13)) [7,4,2,0,1,2,3,4,7,8],oN (.store 2 (.t 7) (.t 14)) [8,5,9,0,1,2,3,4,5,7,8,9],oM 8 15 [6,10,0,1,2,3,4,5,6,7,8,9,10]]) (.seq (.reg [oP 16 (.load true 2 (.t 6)) [],oM 17 8 [],oN (.store 2 (.t 4) (.t 16)) [0,0],oM 5 17 [1,2,0,1,2]]) .ret)),[.cell 4 true 2,.tmp 5]⟩
def zwP:XF:=⟨9,.seq (.reg [oP 2 (.box (.t 0)) [],oP 3 (.box (.t 1)) [],oP 4 (.mov (.k (.b false))) []]) (.seq (.reg [oP 5 (.load true 2 (.t 2)) [],oP 6 (.load true 2 (.t 3)) [],oP 7 (.call 30 [.t 5,.t 6]) [0,1],oP 8 (.bin .lss (.t 7) (.k (.i .i64 0))) [2],oM 4 8 [3,2,0,1,2,3]]) .ret),[.tmp 4]⟩
def zwl:XF:=⟨30,.seq (.reg [oP 2 (.box (.t 0)) [],oP 3 (.box (.t 1)) [],oP 4 (.new [.b false,.sn]) [],oP 5 (.mov (.k (.i .i64 0))) []]) (.seq (.reg [oP 10 (.load true 2 (.t 2)) [],oP 11 (.load true 2 (.t 3)) [],oP 12 (.call 29 [.t 10,.t 11]) [0,1],oM 9 12 [2],oP 13 (.ext (.t 9) 0) [3],oP 14 (.ext (.t 9) 1) [3],oP 15 (.ext (.t 9) 2) [3],oP 6 (.new [.b false,.sn]) [],oP 7 (.new [.b false,.sn]) [],oN (.store 2 (.t 6) (.t 13)) [7,4,2,0,1,2,3,4,7,8],oN (.store 2 (.t 7) (.t 14)) [8,5,9,0,1,2,3,4,5,7,8,9],oM 8 15 [6,10,0,1,2,3,4,5,6,7,8,9,10]]) (.seq (.seq (.reg [oM 16 8 [],oP 17 (.bin .neq (.t 16) (.k (.i .i64 0))) [0],oM 18 17 [1],oF 19 (.load true 2 (.t 7)) [2] 18,oF 20 (.call 31 [.t 19]) [3,2,2] 18,oF 21 (.bin .eql (.t 20) (.k (.i .i64 0))) [4,2] 18,oP 22 (.pick (.t 18) (.k (.b true)) (.t 21)) [2,5]]) (.cond (.t 22) (.seq (.reg [oP 23 (.load true 2 (.t 6)) [],oM 24 8 [],oN (.store 2 (.t 4) (.t 23)) [0,0],oM 5 24 [1,2,0,1,2]]) .ret) .skip)) (.seq (.drw [oP 25 (.load true 2 (.t 6)) [],oP 26 (.call 34 [.k (.i .i64 1)]) [],oP 27 (.call 23 [.t 25,.t 26]) [0,1,1],oP 28 (.ext (.t 27) 0) [2],oP 29 (.ext (.t 27) 1) [2],oN (.store 2 (.t 4) (.t 28)) [3,2,0,1,2,3,4],oM 5 29 [4,5,0,1,2,3,4,5]] [(0,1)]) .ret))),[.cell 4 true 2,.tmp 5]⟩
def zxi:XF:=⟨9,.seq (.reg [oP 2 (.box (.t 0)) [],oP 3 (.box (.t 1)) [],oP 4 (.mov (.k (.b false))) []]) (.seq (.reg [oP 5 (.load true 2 (.t 2)) [],oP 6 (.load true 2 (.t 3)) [],oP 7 (.call 30 [.t 5,.t 6]) [0,1],oP 8 (.bin .gtr (.t 7) (.k (.i .i64 0))) [2],oM 4 8 [3,2,0,1,2,3]]) .ret),[.tmp 4]⟩
noncomputable def progL:List (Option XD):=[
 none,
 none,
 none,
 none,
 none,
 none,
 some (.fn zwZ),
 none,
 some (.fn zxG),
 some (.fn zxy),
 none,
 some (.fn zwA),
 none,
 some (.fn zxu),
 none,
 none,
 some (.fn zvR),
 some (.fn zxP),
 some (.fn zxD),
 some (.fn zvS),
 some (.fn zw3),
 some (.fn zw8),
 some (.fn zv9),
 some (.fn zxN),
 some (.fn zv1),
 none,
 none,
 none,
 none,
 some (.fn zxz),
 some (.fn zwE),
 some (.fn zxh),
 none,
 some (.orc (orcA 33)),
 some (.fn zxg),
 some (.fn zvW),
 some (.fn zwO),
 some (.fn zxc),
 some (.fn zxM),
 some (.fn zxF),
 some (.fn zxr),
 some (.fn zwz),
 some (.fn zvY),
 some (.fn zxA),
 none,
 none,
 none,
 none,
 some (.fn zwC),
 some (.fn zwp),
 some (.orc (orcA 50)),
 some (.orc (orcA 51)),
 none,
 none,
 none,
 some (.fn zvX),
 some (.fn zwG),
 some (.fn zxb),
 some (.fn zwD),
 some (.fn zwf),
 some (.fn zwi),
 some (.fn zv4),
 some (.fn zv0),
 none,
 some (.fn zvT),
 some (.fn zwv),
 none,
 some (.fn zxe),
 none,
 none,
 none,
 none,
 none,
 none,
 none,
 none,
 some (.fn zwj),
 some (.fn zwn),
 some (.fn zwo),
 some (.fn zwc),
 none,
 some (.fn zxs),
 none,
 none,
 none,
 some (.fn zvO),
 none,
 none,
 none,
 none,
 none,
 none,
 none,
 none,
 none,
 none,
 none,
 none,
 none,
 none,
 none,
 none,
 none,
 none,
 none,
 none,
 none,
 some (.fn zww),
 none,
 none,
 some (.fn zwh),
 none,
 none,
 none,
 some (.fn zx3),
 none,
 none,
 none,
 some (.fn zwH),
 some (.fn zxT),
 some (.fn zxR),
 none,
 none,
 some (.fn zxQ),
 some (.fn zwQ),
 some (.fn zxU),
 none,
 some (.fn zwM),
 some (.fn zxj),
 some (.fn zwb),
 some (.orc (orcA 130)),
 some (.orc (orcA 131)),
 some (.fn zwW),
 some (.fn zxw),
 some (.fn zwB),
 some (.fn zw6),
 some (.fn zv8),
 some (.fn zvP),
 none,
 none,
 none,
 none,
 none,
 none,
 none,
 none,
 none,
 some (.fn zx4),
 some (.fn zwk),
 some (.fn zxf),
 none,
 none,
 none,
 none,
 none,
 none,
 none,
 none,
 none,
 some (.fn zwU),
 none,
 none,
 none,
 none,
 none,
 none,
 none,
 none,
 none,
 none,
 none,
 none,
 none,
 none,
 none,
 none,
 none,
 none,
 none,
 some (.fn zwT),
 some (.fn zxE),
 none,
 some (.fn zwq),
 none,
 none,
 some (.fn zx2),
 none,
 some (.fn zwr),
 none,
 none,
 none,
 none,
 none,
 none,
 none,
 none,
 some (.fn zxK),
 some (.fn zw1),
 none,
 none,
 some (.fn zwL),
 none,
 none,
 none,
 none,
 none,
 none,
 none,
 none,
 some (.fn zwa),
 none,
 none,
 none,
 none,
 none,
 none,
 some (.fn zvK),
 none,
 none,
 none,
 none,
 none,
 some (.orc (orcA 222)),
 none,
 none,
 none,
 none,
 none,
 none,
 none,
 none,
 none,
 none,
 none,
 none,
 none,
 none,
 none,
 none,
 none,
 none,
 none,
 none,
 none,
 none,
 none,
 none,
 none,
 none,
 none,
 none,
 none,
 none,
 none,
 none,
 none,
 none,
 none,
 none,
 none,
 none,
 none,
 none,
 none,
 none,
 none,
 none,
 none,
 none,
 none,
 none,
 none,
 none,
 none,
 none,
 none,
 none,
 none,
 some (.fn zv3),
 none,
 some (.fn zvV),
 some (.fn zvU),
 none,
 none,
 none,
 none,
 none,
 none,
 none,
 some (.fn zxk),
 some (.fn zv2),
 some (.fn zvJ),
 some (.fn zwu),
 some (.fn zwX),
 some (.fn zwx),
 some (.fn zwN),
 some (.fn zw2),
 some (.fn zwP),
 some (.fn zwl),
 some (.fn zxi),
 none,
 none,
 none,
 none,
 none,
 none,
 none,
 none,
 none,
 none,
 none,
 none,
 none,
 none,
 none,
 none,
 none,
 none,
 none,
 none,
 none,
 none,
 none,
 none,
 none,
 none,
 none,
 none,
 none,
 none,
 none,
 none,
 none,
 none,
 none,
 none,
 none,
 none,
 none,
 none,
 none,
 none,
 none,
 none,
 some (.fn zv7),
 some (.fn zvL),
 none,
 none,
 some (.fn zvQ),
 none,
 none,
 none,
 none,
 none,
 none,
 none,
 none,
 none,
 none,
 none,
 none,
 some (.fn zxa),
 some (.fn zxH),
 some (.fn zxI),
 some (.fn zwm),
 some (.fn zxO),
 none,
 some (.fn zv6),
 none,
 none,
 none,
 none,
 none,
 some (.fn zxC),
 none,
 none,
 none,
 some (.fn zxS),
 some (.fn zxx),
 some (.fn zxB),
 some (.fn zwg),
 some (.fn zvH),
 some (.fn zvM),
 none,
 none,
 some (.fn zwe),
 some (.fn zv5),
 some (.fn zvI),
 none,
 none,
 none,
 none,
 none,
 none,
 none,
 none,
 none,
 none,
 none,
 none,
 none,
 none,
 none,
 none,
 none,
 none,
 none,
 none,
 none,
 none,
 none,
 none,
 none,
 none,
 none,
 none,
 none,
 none,
 none,
 none,
 none,
 none,
 none,
 none,
 none,
 none,
 none,
 none,
 none,
 none,
 none,
 none,
 none,
 none,
 none,
 none,
 none,
 none,
 none,
 none,
 none,
 none,
 none,
 none,
 none,
 none,
 some (.fn zwF),
 none,
 none,
 none,
 none,
 none,
 none,
 none,
 none,
 none,
 none,
 none,
 none,
 none,
 none,
 none,
 none,
 none,
 none,
 none,
 none,
 none,
 none,
 none,
 none,
 none,
 none,
 none,
 none,
 none,
 none,
 none,
 none,
 none,
 none,
 none,
 none,
 none,
 none,
 none,
 none,
 none,
 none,
 none,
 none,
 none,
 none,
 none,
 none,
 none,
 none,
 none,
 some (.fn zwt),
 none,
 some (.fn zwY),
 none,
 some (.fn zxd),
 some (.fn zwy),
 none,
 none,
 some (.fn zws),
 none,
 none,
 none,
 none,
 none,
 none,
 none,
 some (.fn zw9),
 some (.fn zw7),
 some (.fn zxq),
 none,
 none,
 none]
noncomputable def prog (f:Nat):Option XD:=(progL[f]?).join
end Go.Eng
namespace Go.Eng
def impL:List Nat:=[52,53,54,56,57,58,62,73,74,75,77,86,89,90,201,202,204,205,210,212,217,218,223,224,249,263,267,268,269,284,318,419,463,473]
noncomputable def E0:PEnv:={ prog:=prog,pure:=fun f => !(impL.contains f),glob:=globG,orc:=orcP,ovr:=ovrP }
@[go_sem] theorem zvd (a:List PV) (M:PM):pcl E0 6 a M=pclA E0 6 M (fzL (fz M fzD) a):=zac a M rfl
@[go_sem] theorem zve (a:List PV) (M:PM):pcl E0 8 a M=pclA E0 8 M (fzL (fz M fzD) a):=zac a M rfl
@[go_sem] theorem zvf (a:List PV) (M:PM):pcl E0 9 a M=pclA E0 9 M (fzL (fz M fzD) a):=zac a M rfl
@[go_sem] theorem ztN (a:List PV) (M:PM):pcl E0 11 a M=pclA E0 11 M (fzL (fz M fzD) a):=zac a M rfl
@[go_sem] theorem ztO (a:List PV) (M:PM):pcl E0 13 a M=pclA E0 13 M (fzL (fz M fzD) a):=zac a M rfl
@[go_sem] theorem ztP (a:List PV) (M:PM):pcl E0 16 a M=pclA E0 16 M (fzL (fz M fzD) a):=zac a M rfl
@[go_sem] theorem ztQ (a:List PV) (M:PM):pcl E0 17 a M=pclA E0 17 M (fzL (fz M fzD) a):=zac a M rfl
@[go_sem] theorem ztR (a:List PV) (M:PM):pcl E0 18 a M=pclA E0 18 M (fzL (fz M fzD) a):=zac a M rfl
@[go_sem] theorem ztS (a:List PV) (M:PM):pcl E0 19 a M=pclA E0 19 M (fzL (fz M fzD) a):=zac a M rfl
@[go_sem] theorem ztT (a:List PV) (M:PM):pcl E0 20 a M=pclA E0 20 M (fzL (fz M fzD) a):=zac a M rfl
@[go_sem] theorem ztU (a:List PV) (M:PM):pcl E0 21 a M=pclA E0 21 M (fzL (fz M fzD) a):=zac a M rfl
@[go_sem] theorem ztV (a:List PV) (M:PM):pcl E0 22 a M=pclA E0 22 M (fzL (fz M fzD) a):=zac a M rfl
@[go_sem] theorem ztW (a:List PV) (M:PM):pcl E0 23 a M=pclA E0 23 M (fzL (fz M fzD) a):=zac a M rfl
@[go_sem] theorem ztX (a:List PV) (M:PM):pcl E0 24 a M=pclA E0 24 M (fzL (fz M fzD) a):=zac a M rfl
@[go_sem] theorem ztY (a:List PV) (M:PM):pcl E0 29 a M=pclA E0 29 M (fzL (fz M fzD) a):=zac a M rfl
@[go_sem] theorem ztZ (a:List PV) (M:PM):pcl E0 30 a M=pclA E0 30 M (fzL (fz M fzD) a):=zac a M rfl
@[go_sem] theorem zt0 (a:List PV) (M:PM):pcl E0 31 a M=pclA E0 31 M (fzL (fz M fzD) a):=zac a M rfl
@[go_sem] theorem zt1 (a:List PV) (M:PM):pcl E0 33 a M=pclA E0 33 M (fzL (fz M fzD) a):=zac a M rfl
@[go_sem] theorem zt2 (a:List PV) (M:PM):pcl E0 34 a M=pclA E0 34 M (fzL (fz M fzD) a):=zac a M rfl
@[go_sem] theorem zt3 (a:List PV) (M:PM):pcl E0 35 a M=pclA E0 35 M (fzL (fz M fzD) a):=zac a M rfl
@[go_sem] theorem zt4 (a:List PV) (M:PM):pcl E0 36 a M=pclA E0 36 M (fzL (fz M fzD) a):=zac a M rfl
@[go_sem] theorem zt5 (a:List PV) (M:PM):pcl E0 37 a M=pclA E0 37 M (fzL (fz M fzD) a):=zac a M rfl
@[go_sem] theorem zt6 (a:List PV) (M:PM):pcl E0 38 a M=pclA E0 38 M (fzL (fz M fzD) a):=zac a M rfl
@[go_sem] theorem zt7 (a:List PV) (M:PM):pcl E0 39 a M=pclA E0 39 M (fzL (fz M fzD) a):=zac a M rfl
@[go_sem] theorem zt8 (a:List PV) (M:PM):pcl E0 40 a M=pclA E0 40 M (fzL (fz M fzD) a):=zac a M rfl
@[go_sem] theorem zt9 (a:List PV) (M:PM):pcl E0 41 a M=pclA E0 41 M (fzL (fz M fzD) a):=zac a M rfl
@[go_sem] theorem zua (a:List PV) (M:PM):pcl E0 42 a M=pclA E0 42 M (fzL (fz M fzD) a):=zac a M rfl
@[go_sem] theorem zub (a:List PV) (M:PM):pcl E0 43 a M=pclA E0 43 M (fzL (fz M fzD) a):=zac a M rfl
@[go_sem] theorem zuc (a:List PV) (M:PM):pcl E0 48 a M=pclA E0 48 M (fzL (fz M fzD) a):=zac a M rfl
@[go_sem] theorem zud (a:List PV) (M:PM):pcl E0 49 a M=pclA E0 49 M (fzL (fz M fzD) a):=zac a M rfl
@[go_sem] theorem zue (a:List PV) (M:PM):pcl E0 55 a M=pclA E0 55 M (fzL (fz M fzD) a):=zac a M rfl
@[go_sem] theorem zuf (a:List PV) (M:PM):pcl E0 59 a M=pclA E0 59 M (fzL (fz M fzD) a):=zac a M rfl
@[go_sem] theorem zug (a:List PV) (M:PM):pcl E0 60 a M=pclA E0 60 M (fzL (fz M fzD) a):=zac a M rfl
@[go_sem] theorem zuh (a:List PV) (M:PM):pcl E0 61 a M=pclA E0 61 M (fzL (fz M fzD) a):=zac a M rfl
@[go_sem] theorem zui (a:List PV) (M:PM):pcl E0 64 a M=pclA E0 64 M (fzL (fz M fzD) a):=zac a M rfl
@[go_sem] theorem zuj (a:List PV) (M:PM):pcl E0 65 a M=pclA E0 65 M (fzL (fz M fzD) a):=zac a M rfl
@[go_sem] theorem zuk (a:List PV) (M:PM):pcl E0 67 a M=pclA E0 67 M (fzL (fz M fzD) a):=zac a M rfl
@[go_sem] theorem zul (a:List PV) (M:PM):pcl E0 76 a M=pclA E0 76 M (fzL (fz M fzD) a):=zac a M rfl
@[go_sem] theorem zum (a:List PV) (M:PM):pcl E0 78 a M=pclA E0 78 M (fzL (fz M fzD) a):=zac a M rfl
@[go_sem] theorem zun (a:List PV) (M:PM):pcl E0 79 a M=pclA E0 79 M (fzL (fz M fzD) a):=zac a M rfl
@[go_sem] theorem zuo (a:List PV) (M:PM):pcl E0 81 a M=pclA E0 81 M (fzL (fz M fzD) a):=zac a M rfl
@[go_sem] theorem zup (a:List PV) (M:PM):pcl E0 85 a M=pclA E0 85 M (fzL (fz M fzD) a):=zac a M rfl
@[go_sem] theorem zrH (a:List PV) (M:PM):pcl E0 107 a M=pclA E0 107 M (fzL (fz M fzD) a):=zac a M rfl
@[go_sem] theorem zrI (a:List PV) (M:PM):pcl E0 110 a M=pclA E0 110 M (fzL (fz M fzD) a):=zac a M rfl
@[go_sem] theorem zrJ (a:List PV) (M:PM):pcl E0 114 a M=pclA E0 114 M (fzL (fz M fzD) a):=zac a M rfl
@[go_sem] theorem zrK (a:List PV) (M:PM):pcl E0 118 a M=pclA E0 118 M (fzL (fz M fzD) a):=zac a M rfl
@[go_sem] theorem zrL (a:List PV) (M:PM):pcl E0 119 a M=pclA E0 119 M (fzL (fz M fzD) a):=zac a M rfl
@[go_sem] theorem zrM (a:List PV) (M:PM):pcl E0 120 a M=pclA E0 120 M (fzL (fz M fzD) a):=zac a M rfl
@[go_sem] theorem zrN (a:List PV) (M:PM):pcl E0 123 a M=pclA E0 123 M (fzL (fz M fzD) a):=zac a M rfl
@[go_sem] theorem zrO (a:List PV) (M:PM):pcl E0 124 a M=pclA E0 124 M (fzL (fz M fzD) a):=zac a M rfl
@[go_sem] theorem zrP (a:List PV) (M:PM):pcl E0 125 a M=pclA E0 125 M (fzL (fz M fzD) a):=zac a M rfl
@[go_sem] theorem zrQ (a:List PV) (M:PM):pcl E0 127 a M=pclA E0 127 M (fzL (fz M fzD) a):=zac a M rfl
@[go_sem] theorem zrR (a:List PV) (M:PM):pcl E0 128 a M=pclA E0 128 M (fzL (fz M fzD) a):=zac a M rfl
@[go_sem] theorem zrS (a:List PV) (M:PM):pcl E0 129 a M=pclA E0 129 M (fzL (fz M fzD) a):=zac a M rfl
@[go_sem] theorem zrT (a:List PV) (M:PM):pcl E0 130 a M=pclA E0 130 M (fzL (fz M fzD) a):=zac a M rfl
@[go_sem] theorem zrU (a:List PV) (M:PM):pcl E0 131 a M=pclA E0 131 M (fzL (fz M fzD) a):=zac a M rfl
@[go_sem] theorem zrV (a:List PV) (M:PM):pcl E0 132 a M=pclA E0 132 M (fzL (fz M fzD) a):=zac a M rfl
@[go_sem] theorem zrW (a:List PV) (M:PM):pcl E0 133 a M=pclA E0 133 M (fzL (fz M fzD) a):=zac a M rfl
@[go_sem] theorem zrX (a:List PV) (M:PM):pcl E0 134 a M=pclA E0 134 M (fzL (fz M fzD) a):=zac a M rfl
@[go_sem] theorem zrY (a:List PV) (M:PM):pcl E0 135 a M=pclA E0 135 M (fzL (fz M fzD) a):=zac a M rfl
@[go_sem] theorem zrZ (a:List PV) (M:PM):pcl E0 136 a M=pclA E0 136 M (fzL (fz M fzD) a):=zac a M rfl
@[go_sem] theorem zr1 (a:List PV) (M:PM):pcl E0 137 a M=pclA E0 137 M (fzL (fz M fzD) a):=zac a M rfl
@[go_sem] theorem zr2 (a:List PV) (M:PM):pcl E0 147 a M=pclA E0 147 M (fzL (fz M fzD) a):=zac a M rfl
@[go_sem] theorem zr3 (a:List PV) (M:PM):pcl E0 148 a M=pclA E0 148 M (fzL (fz M fzD) a):=zac a M rfl
@[go_sem] theorem zr4 (a:List PV) (M:PM):pcl E0 149 a M=pclA E0 149 M (fzL (fz M fzD) a):=zac a M rfl
@[go_sem] theorem zr5 (a:List PV) (M:PM):pcl E0 159 a M=pclA E0 159 M (fzL (fz M fzD) a):=zac a M rfl
@[go_sem] theorem zr6 (a:List PV) (M:PM):pcl E0 179 a M=pclA E0 179 M (fzL (fz M fzD) a):=zac a M rfl
@[go_sem] theorem zr7 (a:List PV) (M:PM):pcl E0 180 a M=pclA E0 180 M (fzL (fz M fzD) a):=zac a M rfl
@[go_sem] theorem zr8 (a:List PV) (M:PM):pcl E0 182 a M=pclA E0 182 M (fzL (fz M fzD) a):=zac a M rfl
@[go_sem] theorem zr9 (a:List PV) (M:PM):pcl E0 185 a M=pclA E0 185 M (fzL (fz M fzD) a):=zac a M rfl
@[go_sem] theorem zsa (a:List PV) (M:PM):pcl E0 187 a M=pclA E0 187 M (fzL (fz M fzD) a):=zac a M rfl
@[go_sem] theorem zsb (a:List PV) (M:PM):pcl E0 196 a M=pclA E0 196 M (fzL (fz M fzD) a):=zac a M rfl
@[go_sem] theorem zsc (a:List PV) (M:PM):pcl E0 197 a M=pclA E0 197 M (fzL (fz M fzD) a):=zac a M rfl
@[go_sem] theorem zsd (a:List PV) (M:PM):pcl E0 200 a M=pclA E0 200 M (fzL (fz M fzD) a):=zac a M rfl
@[go_sem] theorem zse (a:List PV) (M:PM):pcl E0 209 a M=pclA E0 209 M (fzL (fz M fzD) a):=zac a M rfl
@[go_sem] theorem zsf (a:List PV) (M:PM):pcl E0 216 a M=pclA E0 216 M (fzL (fz M fzD) a):=zac a M rfl
@[go_sem] theorem zsg (a:List PV) (M:PM):pcl E0 222 a M=pclA E0 222 M (fzL (fz M fzD) a):=zac a M rfl
@[go_sem] theorem zsh (a:List PV) (M:PM):pcl E0 278 a M=pclA E0 278 M (fzL (fz M fzD) a):=zac a M rfl
@[go_sem] theorem zsi (a:List PV) (M:PM):pcl E0 280 a M=pclA E0 280 M (fzL (fz M fzD) a):=zac a M rfl
@[go_sem] theorem zsj (a:List PV) (M:PM):pcl E0 281 a M=pclA E0 281 M (fzL (fz M fzD) a):=zac a M rfl
@[go_sem] theorem zsk (a:List PV) (M:PM):pcl E0 289 a M=pclA E0 289 M (fzL (fz M fzD) a):=zac a M rfl
@[go_sem] theorem zsl (a:List PV) (M:PM):pcl E0 290 a M=pclA E0 290 M (fzL (fz M fzD) a):=zac a M rfl
@[go_sem] theorem zsm (a:List PV) (M:PM):pcl E0 291 a M=pclA E0 291 M (fzL (fz M fzD) a):=zac a M rfl
@[go_sem] theorem zsn (a:List PV) (M:PM):pcl E0 292 a M=pclA E0 292 M (fzL (fz M fzD) a):=zac a M rfl
@[go_sem] theorem zso (a:List PV) (M:PM):pcl E0 293 a M=pclA E0 293 M (fzL (fz M fzD) a):=zac a M rfl
@[go_sem] theorem zsp (a:List PV) (M:PM):pcl E0 294 a M=pclA E0 294 M (fzL (fz M fzD) a):=zac a M rfl
@[go_sem] theorem zsq (a:List PV) (M:PM):pcl E0 295 a M=pclA E0 295 M (fzL (fz M fzD) a):=zac a M rfl
@[go_sem] theorem zsr (a:List PV) (M:PM):pcl E0 296 a M=pclA E0 296 M (fzL (fz M fzD) a):=zac a M rfl
@[go_sem] theorem zss (a:List PV) (M:PM):pcl E0 297 a M=pclA E0 297 M (fzL (fz M fzD) a):=zac a M rfl
@[go_sem] theorem zst (a:List PV) (M:PM):pcl E0 298 a M=pclA E0 298 M (fzL (fz M fzD) a):=zac a M rfl
@[go_sem] theorem zsu (a:List PV) (M:PM):pcl E0 299 a M=pclA E0 299 M (fzL (fz M fzD) a):=zac a M rfl
@[go_sem] theorem zsv (a:List PV) (M:PM):pcl E0 344 a M=pclA E0 344 M (fzL (fz M fzD) a):=zac a M rfl
@[go_sem] theorem zsw (a:List PV) (M:PM):pcl E0 345 a M=pclA E0 345 M (fzL (fz M fzD) a):=zac a M rfl
@[go_sem] theorem zsx (a:List PV) (M:PM):pcl E0 348 a M=pclA E0 348 M (fzL (fz M fzD) a):=zac a M rfl
@[go_sem] theorem zsy (a:List PV) (M:PM):pcl E0 361 a M=pclA E0 361 M (fzL (fz M fzD) a):=zac a M rfl
@[go_sem] theorem zsz (a:List PV) (M:PM):pcl E0 362 a M=pclA E0 362 M (fzL (fz M fzD) a):=zac a M rfl
@[go_sem] theorem zsA (a:List PV) (M:PM):pcl E0 363 a M=pclA E0 363 M (fzL (fz M fzD) a):=zac a M rfl
@[go_sem] theorem zsB (a:List PV) (M:PM):pcl E0 364 a M=pclA E0 364 M (fzL (fz M fzD) a):=zac a M rfl
@[go_sem] theorem zsC (a:List PV) (M:PM):pcl E0 365 a M=pclA E0 365 M (fzL (fz M fzD) a):=zac a M rfl
@[go_sem] theorem zsD (a:List PV) (M:PM):pcl E0 367 a M=pclA E0 367 M (fzL (fz M fzD) a):=zac a M rfl
@[go_sem] theorem zsE (a:List PV) (M:PM):pcl E0 373 a M=pclA E0 373 M (fzL (fz M fzD) a):=zac a M rfl
@[go_sem] theorem zsF (a:List PV) (M:PM):pcl E0 377 a M=pclA E0 377 M (fzL (fz M fzD) a):=zac a M rfl
@[go_sem] theorem zsG (a:List PV) (M:PM):pcl E0 378 a M=pclA E0 378 M (fzL (fz M fzD) a):=zac a M rfl
@[go_sem] theorem zsH (a:List PV) (M:PM):pcl E0 379 a M=pclA E0 379 M (fzL (fz M fzD) a):=zac a M rfl
@[go_sem] theorem zsI (a:List PV) (M:PM):pcl E0 380 a M=pclA E0 380 M (fzL (fz M fzD) a):=zac a M rfl
@[go_sem] theorem zsJ (a:List PV) (M:PM):pcl E0 381 a M=pclA E0 381 M (fzL (fz M fzD) a):=zac a M rfl
@[go_sem] theorem zsK (a:List PV) (M:PM):pcl E0 382 a M=pclA E0 382 M (fzL (fz M fzD) a):=zac a M rfl
@[go_sem] theorem zsL (a:List PV) (M:PM):pcl E0 385 a M=pclA E0 385 M (fzL (fz M fzD) a):=zac a M rfl
@[go_sem] theorem zsM (a:List PV) (M:PM):pcl E0 386 a M=pclA E0 386 M (fzL (fz M fzD) a):=zac a M rfl
@[go_sem] theorem zsN (a:List PV) (M:PM):pcl E0 387 a M=pclA E0 387 M (fzL (fz M fzD) a):=zac a M rfl
@[go_sem] theorem zsO (a:List PV) (M:PM):pcl E0 446 a M=pclA E0 446 M (fzL (fz M fzD) a):=zac a M rfl
@[go_sem] theorem zsP (a:List PV) (M:PM):pcl E0 500 a M=pclA E0 500 M (fzL (fz M fzD) a):=zac a M rfl
@[go_sem] theorem zsQ (a:List PV) (M:PM):pcl E0 502 a M=pclA E0 502 M (fzL (fz M fzD) a):=zac a M rfl
@[go_sem] theorem zsR (a:List PV) (M:PM):pcl E0 503 a M=pclA E0 503 M (fzL (fz M fzD) a):=zac a M rfl
@[go_sem] theorem zsS (a:List PV) (M:PM):pcl E0 506 a M=pclA E0 506 M (fzL (fz M fzD) a):=zac a M rfl
@[go_sem] theorem zsT (a:List PV) (M:PM):pcl E0 514 a M=pclA E0 514 M (fzL (fz M fzD) a):=zac a M rfl
@[go_sem] theorem zsU (a:List PV) (M:PM):pcl E0 515 a M=pclA E0 515 M (fzL (fz M fzD) a):=zac a M rfl
@[go_sem] theorem zsV (a:List PV) (M:PM):pcl E0 516 a M=pclA E0 516 M (fzL (fz M fzD) a):=zac a M rfl
theorem znr {a:List PV} {v:PV} (h:orcP 33 a []=some (v,[])) (hz:(fz [] fzD v).map Prod.fst=some v):pf E0 33 a=some v:=zdS (o:=orcA 33) rfl h hz
theorem zkQ {a:List PV} {v:PV} (h:orcP 130 a []=some (v,[])) (hz:(fz [] fzD v).map Prod.fst=some v):pf E0 130 a=some v:=zdS (o:=orcA 130) rfl h hz
theorem zkR {a:List PV} {v:PV} (h:orcP 131 a []=some (v,[])) (hz:(fz [] fzD v).map Prod.fst=some v):pf E0 131 a=some v:=zdS (o:=orcA 131) rfl h hz
theorem zkS {a:List PV} {v:PV} (h:orcP 222 a []=some (v,[])) (hz:(fz [] fzD v).map Prod.fst=some v):pf E0 222 a=some v:=zdS (o:=orcA 222) rfl h hz
end Go.Eng
namespace Go.Eng
def Ok32 (xs:List Nat):Prop:=∀x∈xs,x<4294967296
theorem zll:∃f:Nat→Nat→Nat,∀v i,f v i=v/4294967296^i%4294967296:=⟨fun v i=>v/4294967296^i%4294967296,fun _ _=>rfl⟩
noncomputable def dgt:Nat→Nat→Nat:=Classical.choose zll
theorem zah (v i:Nat):dgt v i=v/4294967296^i%4294967296:=Classical.choose_spec zll v i
def tab {α:Type} (n:Nat) (f:Nat→α):List α:=(List.range n).map f
@[simp,go_sem] theorem zaY {α:Type} (n:Nat) (f:Nat→α):(tab n f).length=n:=by simp[tab]
theorem zaW {α:Type} (n:Nat) (f:Nat→α) (i:Nat):(tab n f)[i]?=if i<n then some (f i) else none:=by
 unfold tab
 rw[List.getElem?_map]
 split
 ·rename_i h;rw[List.getElem?_range h];rfl
 ·rename_i h;rw[List.getElem?_eq_none (by simp;omega)];rfl
theorem zaM {α:Type} {n:Nat} {f:Nat→α} {i:Nat} (h:i<n):(tab n f)[i]?=some (f i):=by rw[zaW,if_pos h]
theorem zas {α:Type} (n:Nat) (f:Nat→α) (i:Nat) (x:α):(tab n f).set i x=tab n fun k=>if k=i then x else f k:=by
 apply List.ext_getElem?
 intro k
 rw[List.getElem?_set,zaW,zaW]
 by_cases h:i=k
 ·subst h;simp
 ·simp only[h,if_false,show ¬k=i from fun e=>h e.symm]
theorem zaf {α:Type} {n:Nat} {f g:Nat→α} (h:∀k,k<n→f k=g k):tab n f=tab n g:=by
 apply List.ext_getElem?
 intro k
 rw[zaW,zaW]
 split
 ·rename_i hk;rw[h k hk]
 ·rfl
theorem znJ {α β:Type} (n:Nat) (f:Nat→α) (g:α→β):(tab n f).map g=tab n fun k=>g (f k):=by simp[tab]
theorem zcd {α:Type} (n:Nat) (x:α):List.replicate n x=tab n fun _=>x:=by
 apply List.ext_getElem?
 intro k
 rw[zaW,List.getElem?_replicate]
theorem ze4 {α:Type} (n:Nat) (f:Nat→α) (k:Nat) (h:k≤n):(tab n f).take k=tab k f:=by
 apply List.ext_getElem?
 intro i
 rw[List.getElem?_take,zaW,zaW]
 by_cases h1:i<k
 ·rw[if_pos h1,if_pos (by omega),if_pos h1]
 ·rw[if_neg h1,if_neg h1]
theorem zk3 {α:Type} (n:Nat) (f:Nat→α) (k:Nat):(tab n f).drop k=tab (n-k) fun i=>f (k+i):=by
 apply List.ext_getElem?
 intro i
 rw[List.getElem?_drop,zaW,zaW]
 by_cases h1:i<n-k
 ·rw[if_pos (by omega),if_pos h1]
 ·rw[if_neg (by omega),if_neg h1]
theorem tab_of {α:Type} (l:List α) (d:α):l=tab l.length fun k=>l.getD k d:=by
 apply List.ext_getElem?
 intro i
 rw[zaW]
 by_cases h:i<l.length
 ·rw[if_pos h];simp[List.getD,h]
 ·rw[if_neg h,List.getElem?_eq_none (by omega)]
noncomputable def dw (n v:Nat):List Nat:=tab n (dgt v)
theorem zbz (i:Nat):0<4294967296^i:=Nat.pow_pos (by decide)
theorem zat (v i:Nat):dgt v i<4294967296:=by rw[zah];exact Nat.mod_lt _ (by decide)
theorem zdm (i:Nat):dgt 0 i=0:=by simp[zah]
theorem zho (v:Nat):dgt v 0=v%4294967296:=by simp[zah]
theorem zgo (v i:Nat):dgt v (i+1)=dgt (v/4294967296) i:=by
 rw[zah,zah,Nat.pow_succ,Nat.mul_comm,Nat.div_div_eq_div_mul]
theorem zaD (v i:Nat):v%4294967296^(i+1)=v%4294967296^i+4294967296^i*dgt v i:=by
 rw[zah,Nat.pow_succ,Nat.mod_mul]
theorem zl5:∀{xs:List Nat},Ok32 xs→val xs<4294967296^xs.length
 | [],_=>by simp[val]
 | x::xs,h=>by
  have h1:=h x (List.mem_cons_self ..)
  have h2:=zl5 (xs:=xs) fun y hy=>h y (List.mem_cons_of_mem _ hy)
  simp only[val,List.length_cons,Nat.pow_succ]
  omega
theorem zhf:∀{xs:List Nat},Ok32 xs→∀i,xs.getD i 0=dgt (val xs) i
 | [],_,i=>by simp[val,zdm,List.getD]
 | x::xs,h,0=>by
  have h1:=h x (List.mem_cons_self ..)
  simp[val,zho,List.getD];omega
 | x::xs,h,i+1=>by
  have h1:=h x (List.mem_cons_self ..)
  have:=zhf (xs:=xs) (fun y hy=>h y (List.mem_cons_of_mem _ hy)) i
  have e:val (x::xs)/4294967296=val xs:=by simp only[val];omega
  rw[zgo,e,←this];simp[List.getD]
theorem zoi {xs:List Nat} (h:Ok32 xs):xs=dw xs.length (val xs):=by
 have e:=tab_of xs 0
 have e2:tab xs.length (fun k=>xs.getD k 0)=dw xs.length (val xs):=zaf fun k _=>zhf h k
 exact e.trans e2
theorem zrw (n v:Nat):Ok32 (dw n v):=fun x hx=>by
 unfold dw tab at hx
 obtain⟨i,_,rfl⟩:=List.mem_map.1 hx
 exact zat v i
theorem zmn (n v:Nat):dw (n+1) v=v%4294967296::dw n (v/4294967296):=by
 apply List.ext_getElem?
 intro k
 unfold dw
 cases k with
 | zero=>rw[zaM (by omega),zho];rfl
 | succ k =>
  rw[List.getElem?_cons_succ,zaW,zaW,zgo]
  by_cases h:k<n
  ·rw[if_pos h,if_pos (by omega)]
  ·rw[if_neg h,if_neg (by omega)]
theorem zl4:∀(n v:Nat),val (dw n v)=v%4294967296^n
 | 0,v=>by
  have:dw 0 v=[]:=rfl
  simp[this,val,Nat.mod_one]
 | n+1,v=>by
  rw[zmn,val,zl4 n,Nat.pow_succ,Nat.mul_comm (4294967296^n),Nat.mod_mul]
theorem znO {n v:Nat} (h:v<4294967296^n):val (dw n v)=v:=by rw[zl4,Nat.mod_eq_of_lt h]
@[simp,go_sem] theorem zoh (n v:Nat):(dw n v).length=n:=by simp[dw]
def wlen (v:Nat):Nat:=if v=0 then 0 else Nat.log2 v/32+1
theorem zai (v:Nat):v<4294967296^wlen v:=by
 unfold wlen
 split
 ·rename_i h;subst h;decide
 ·rename_i h
  have h1:v<2^(Nat.log2 v+1):=Nat.lt_log2_self
  have h2:(4294967296:Nat)^(Nat.log2 v/32+1)=2^(32*(Nat.log2 v/32+1)):=by rw[Nat.pow_mul]
  rw[h2]
  exact Nat.lt_of_lt_of_le h1 (Nat.pow_le_pow_right (by decide) (by omega))
theorem zgg {v:Nat} (h:v≠0):4294967296^(wlen v-1)≤v:=by
 unfold wlen
 rw[if_neg h]
 have h1:2^Nat.log2 v≤v:=Nat.log2_self_le h
 have h2:(4294967296:Nat)^(Nat.log2 v/32+1-1)=2^(32*(Nat.log2 v/32)):=by rw[Nat.add_sub_cancel,Nat.pow_mul]
 rw[h2]
 exact Nat.le_trans (Nat.pow_le_pow_right (by decide) (by omega)) h1
theorem zaS {v n:Nat}:wlen v≤n↔v<4294967296^n:=by
 constructor
 ·intro h
  exact Nat.lt_of_lt_of_le (zai v) (Nat.pow_le_pow_right (by decide) h)
 ·intro h
  by_cases h0:v=0
  ·subst h0;simp[wlen]
  ·have h1:=zgg h0
   have h2:4294967296^(wlen v-1)<4294967296^n:=Nat.lt_of_le_of_lt h1 h
   have:=(Nat.pow_lt_pow_iff_right (by decide:1<4294967296)).1 h2
   omega
theorem zbK:wlen 0=0:=rfl
theorem zaT {v:Nat} (h:v≠0):0<wlen v:=by unfold wlen;rw[if_neg h];omega
noncomputable def dig (v:Nat):List Nat:=dw (wlen v) v
@[simp] theorem zec (v:Nat):(dig v).length=wlen v:=by simp[dig]
theorem znN (v:Nat):val (dig v)=v:=znO (zai v)
theorem zoL (v:Nat):Ok32 (dig v):=zrw _ _
def W (xs:List Nat):PV:=.lst (xs.map fun n=>(PV.i .u32 ((n:Nat):Int)))
noncomputable def Dw (n v:Nat):PV:=.lst (tab n fun k=>(PV.i .u32 ((dgt v k:Nat):Int)))
noncomputable abbrev D (v:Nat):PV:=Dw (wlen v) v
theorem ztr (n v:Nat):W (dw n v)=Dw n v:=by simp[W,dw,Dw,znJ]
noncomputable def intP (z:Int):PV:=.ag [.b (decide (z<0)),D z.natAbs]
@[go_sem] theorem zu0 (M:PM) (d n v:Nat):fz M (d+1) (Dw n v)=some (Dw n v,[]):=_root_.id rfl
@[go_sem] theorem zpW (n v:Nat):(Dw n v).cells=[Dw n v]:=_root_.id rfl
@[go_sem] theorem zs2 (n v:Nat):(Dw n v).scal=true:=_root_.id rfl
@[go_sem] theorem zrj (n v:Nat):lenP (Dw n v)=some (.i .i64 (n:Int)):=by simp[Dw,lenP]
theorem zaV {n v j:Nat} (h:j<n):idxP 1 (Dw n v) (some j)=some (.fp [(PV.i .u32 ((dgt v j:Nat):Int))]):=by
 rw[Dw,zeI,zaM h];rfl
@[go_sem] theorem zrc (M:PM) (d n:Nat) (k:IntKind) (g:Nat→Int):fzL (fz M (d+1)) (tab n fun j=>PV.i k (g j))=some (tab n fun j=>PV.i k (g j),[]):=zkk M d _ (fun _=>rfl) _
@[go_sem] theorem zk4 (n:Nat) (f:Nat→PV):(tab n f).take n=tab n f:=by
 have:=List.take_length (l:=tab n f)
 rwa [zaY] at this
@[go_sem] theorem zoy (n:Nat) (f:Nat→PV):group 1 n (tab n f)=tab n f:=zcH n _ (by simp)
@[go_sem] theorem zq2 (n v:Nat):PV.lst (tab n fun k=>PV.i .u32 ((dgt v k:Nat):Int))=Dw n v:=_root_.id rfl
end Go.Eng
namespace Go.Eng
def cmpI (a b:Int):Int:=if a<b then-1 else if b<a then 1 else 0
@[go_sem] theorem zpe (a:Int):pf E0 79 [.i .u32 a]=some (.b false):=by
 refine zaa (xf:=zwc) rfl (by simp[zwc]) ?_
 simp only[zwc,go_sem,seval]
@[go_sem] theorem zpf (a:Int):pf E0 78 [.i .i64 a]=some (.b false):=by
 refine zaa (xf:=zwo) rfl (by simp[zwo]) ?_
 simp only[zwo,go_sem,seval]
@[go_sem] theorem zrC (a b:Int):pf E0 61 [.i .u32 a,.i .u32 b]=some (.i .i64 (cmpI a b)):=by
 refine zaa (xf:=zv4) rfl (by simp[zv4]) ?_
 simp only[zv4,go_sem,seval]
 refine zc8 (fun h=>?_) (fun h=>?_)
 ·simp only[go_sem,seval,cmpI,h]
 ·simp only[go_sem,seval]
  refine zc8 (fun h2=>?_) (fun h2=>?_)
  ·simp only[go_sem,seval,cmpI,h,h2]
  ·simp only[go_sem,seval,cmpI,h,h2]
@[go_sem] theorem zrD (a b:Int):pf E0 60 [.i .i64 a,.i .i64 b]=some (.i .i64 (cmpI a b)):=by
 refine zaa (xf:=zwi) rfl (by simp[zwi]) ?_
 simp only[zwi,go_sem,seval]
 refine zc8 (fun h=>?_) (fun h=>?_)
 ·simp only[go_sem,seval,cmpI,h]
 ·simp only[go_sem,seval]
  refine zc8 (fun h2=>?_) (fun h2=>?_)
  ·simp only[go_sem,seval,cmpI,h,h2]
  ·simp only[go_sem,seval,cmpI,h,h2]
theorem zpA (n v k:Nat) (h:k≤n):slP 1 (Dw n v) none (some (.i .i64 (k:Int))) none=some (Dw k v):=by
 have hz:ez 1 (tab n fun k=>(PV.i .u32 ((dgt v k:Nat):Int)))=true:=by
  unfold ez tab
  simp[PV.cells]
 simp only[slP,Dw,Option.isSome_none,Bool.false_eq_true,if_false,optP,zaK,hz,zaY]
 rw[if_pos ⟨by omega,h,trivial⟩,List.drop_zero,ze4 _ _ _ h]
theorem zfA {E:PEnv} (hE:E.prog 49=some (.fn zwp)) (n v:Nat) (hv:v<4294967296^n) (hn:n<1099511627776) (hO:E.ovr 49 [Dw n v]=none:=by rfl):pf E 49 [Dw n v]=some (D v):=by
 refine zaa (xf:=zwp) hE (by simp[zwp]) ?_ hO
 simp only[zwp]
 simp only[go_sem,seval]
 refine zao zx1.eq_1 (fun(m:Nat) fr M=>fr 0=Dw m v∧v<4294967296^m∧m≤n∧M=[]) id ?_ n ⟨by simp only[go_sem,seval],hv,Nat.le_refl _,rfl⟩
 rintro m fr M ⟨h0,h1,h2,rfl⟩ ih
 by_cases hm:m=0
 ·subst hm
  have hv0:v=0:=by simpa using h1
  subst hv0
  simp only[go_sem,seval,h0,Int.ofNat_lt,Nat.lt_irrefl,Int.natCast_zero,Int.lt_irrefl]
  rfl
 ·have hm':(0:Int)<(m:Int):=by omega
  simp(disch:=omega)only[go_sem,seval,wqq,h0,hm',zax,zaV]
  have e:v=v%4294967296^(m-1)+4294967296^(m-1)*dgt v (m-1):=by
   rw[←zaD,show m-1+1=m by omega,Nat.mod_eq_of_lt h1]
  refine zc8 (fun h=>?_) (fun h=>?_)
  ·have hd:dgt v (m-1)=0:=by omega
   rw[hd,Nat.mul_zero,Nat.add_zero] at e
   simp(disch:=omega)only[go_sem,seval,wqq,h0,zax,zpA]
   exact ih (m-1) _ _ (by simp only[id];omega) ⟨by simp only[go_sem,seval],by rw[e];exact Nat.mod_lt _ (zbz _),by omega,rfl⟩
  ·have hd:dgt v (m-1)≠0:=by omega
   have hw:wlen v=m:=by
    have h3:wlen v≤m:=zaS.2 h1
    have h4:¬wlen v≤m-1:=fun q=>by
     have:=zaS.1 q
     apply hd
     rw[zah,Nat.div_eq_of_lt this]
    omega
   simp only[go_sem,seval,h0]
   rw[D,hw]
theorem zkJ (n v:Nat) (hv:v<4294967296^n) (hn:n<1099511627776):pf E0 49 [Dw n v]=some (D v):=zfA rfl n v hv hn
theorem zbG {n v:Nat} (hv:v<4294967296^n) (hn:n<1099511627776):pf E0 49 [Dw n v]=some (D v):=zkJ n v hv hn
theorem zaP (a b:Int):(cmpI a b=0)=(a=b):=by
 unfold cmpI
 apply propext
 by_cases h:a<b
 ·simp[h];omega
 ·by_cases h2:b<a
  ·simp[h,h2];omega
  ·simp[h,h2];omega
theorem zgl (a b c d:Nat) (h1:a<b↔c<d) (h2:b<a↔d<c):cmpI (a:Int) (b:Int)=cmpI (c:Int) (d:Int):=by
 have e1:((a:Int)<(b:Int))=((c:Int)<(d:Int)):=by rw[zbk,zbk];exact propext h1
 have e2:((b:Int)<(a:Int))=((d:Int)<(c:Int)):=by rw[zbk,zbk];exact propext h2
 unfold cmpI
 simp only[e1,e2]
theorem zcT {a b:Nat} (h:wlen a<wlen b):a<b:=by
 by_cases hab:a<b
 ·exact hab
 ·have h1:b<4294967296^wlen a:=Nat.lt_of_le_of_lt (by omega) (zai a)
  have:=zaS.2 h1
  omega
theorem zbF (a b:Nat) (ha:wlen a<1099511627776) (hb:wlen b<1099511627776):pf E0 41 [D a,D b]=some (.i .i64 (cmpI a b)):=by
 refine zaa (xf:=zwz) rfl (by simp[zwz]) ?_
 simp only[zwz]
 simp only[go_sem,seval]
 refine zc8 (fun h=>?_) (fun h=>?_)
 ·simp only[go_sem,seval]
  rw[zaP] at h
  congr 2
  refine zgl _ _ _ _ ⟨fun q=>zcT q,fun q=>?_⟩ ⟨fun q=>zcT q,fun q=>?_⟩
  ·have:¬wlen b<wlen a:=fun z=>by have:=zcT z;omega
   omega
  ·have:¬wlen a<wlen b:=fun z=>by have:=zcT z;omega
   omega
 ·have hl:wlen a=wlen b:=by
   rw[zaP] at h;omega
  simp(disch:=omega)only[go_sem,seval,wqq]
  refine zao zxX.eq_1 (fun(m:Nat) fr M=>fr 0=D a∧fr 1=D b∧fr 6=.i .i64 ((m:Int)-1)∧a/4294967296^m=b/4294967296^m∧m≤wlen a∧M=[]) id ?_ (wlen a) ⟨by simp only[go_sem,seval],by simp only[go_sem,seval],by simp only[go_sem,seval],?_,Nat.le_refl _,rfl⟩
  ·rintro m fr M ⟨h0,h1,h6,hq,hm,rfl⟩ ih
   by_cases hm0:m=0
   ·subst hm0
    have hab:a=b:=by simpa using hq
    simp(disch:=omega)only[go_sem,seval,wqq,h6,Int.natCast_zero,Int.zero_sub,Int.reduceNeg,Int.reduceLE]
    subst hab
    simp[cmpI]
   ·have hm':(0:Int)≤(m:Int)-1:=by omega
    have ia:(D a)=Dw (wlen a) a:=rfl
    have ib:(D b)=Dw (wlen b) b:=rfl
    simp(disch:=omega)only[go_sem,seval,wqq,h0,h1,h6,hm',zax,ia,ib,zaV]
    have ea:a/4294967296^(m-1)=4294967296*(a/4294967296^m)+dgt a (m-1):=by
     rw[zah,show (4294967296:Nat)^m=4294967296^(m-1)*4294967296 by rw[←Nat.pow_succ];congr 1;omega,←Nat.div_div_eq_div_mul]
     exact(Nat.div_add_mod _ _).symm
    have eb:b/4294967296^(m-1)=4294967296*(b/4294967296^m)+dgt b (m-1):=by
     rw[zah,show (4294967296:Nat)^m=4294967296^(m-1)*4294967296 by rw[←Nat.pow_succ];congr 1;omega,←Nat.div_div_eq_div_mul]
     exact(Nat.div_add_mod _ _).symm
    have lt:∀x y:Nat,x/4294967296^(m-1)<y/4294967296^(m-1)→x<y:=fun x y h=>by
     by_cases q:x<y
     ·exact q
     ·have:=Nat.div_le_div_right (c:=4294967296^(m-1)) (show y≤x by omega)
      omega
    refine zc8 (fun h=>?_) (fun h=>?_)
    ·rw[zaP] at h
     simp only[go_sem,seval]
     congr 2
     have k1:=lt a b
     have k2:=lt b a
     refine zgl _ _ _ _ ⟨fun q=>k1 (by omega),fun q=>?_⟩ ⟨fun q=>k2 (by omega),fun q=>?_⟩
     ·have:¬dgt b (m-1)<dgt a (m-1):=fun z=>by have:=k2 (by omega);omega
      omega
     ·have:¬dgt a (m-1)<dgt b (m-1):=fun z=>by have:=k1 (by omega);omega
      omega
    ·have hd:dgt a (m-1)=dgt b (m-1):=by
      rw[zaP] at h;omega
     simp(disch:=omega)only[go_sem,seval,wqq,h6,zax]
     exact ih (m-1) _ _ (by simp only[id];omega) ⟨by simp only[go_sem,seval,h0],by simp only[go_sem,seval,h1],by simp only[go_sem,seval],by omega,by omega,rfl⟩
  ·rw[Nat.div_eq_of_lt (zai a),hl,Nat.div_eq_of_lt (zai b)]
end Go.Eng
namespace Go.Eng
structure WI where
 v:Int
 ok:wlen v.natAbs≤512
theorem WI.ext' {x y:WI} (h:x.v=y.v):x=y:=by cases x;cases y;simp at h;subst h;rfl
theorem WI.lim (x:WI):wlen x.v.natAbs≤512:=x.ok
def wi0:WI:=⟨0,by simp[wlen]⟩
def clip (z:Int):WI:=if h:wlen z.natAbs≤512 then ⟨z,h⟩ else wi0
def lerr (z:Int):Int:=if wlen z.natAbs≤512 then 0 else 4
theorem zbt {z:Int} (h:wlen z.natAbs≤512):clip z=⟨z,h⟩:=by unfold clip;rw[dif_pos h]
theorem za0 {z:Int} (h:wlen z.natAbs≤512):(clip z).v=z:=by rw[zbt h]
theorem zey {z:Int} (h:¬wlen z.natAbs≤512):clip z=wi0:=by unfold clip;rw[dif_neg h]
theorem zaC {z:Int} (h:wlen z.natAbs≤512):lerr z=0:=by unfold lerr;rw[if_pos h]
theorem zeO {z:Int} (h:¬wlen z.natAbs≤512):lerr z=4:=by unfold lerr;rw[if_neg h]
theorem zeN (z:Int):lerr (-z)=lerr z:=by unfold lerr;rw[Int.natAbs_neg]
noncomputable def wiP (x:WI):PV:=intP x.v
theorem zdX (x:WI):wiP x=.ag [.b (decide (x.v<0)),D x.v.natAbs]:=rfl
@[go_sem] theorem zox (M:PM) (d:Nat) (x:WI):fz M (d+1+1) (wiP x)=some (wiP x,[]):=_root_.id rfl
@[go_sem] theorem zoa (x:WI):(wiP x).cells=[.b (decide (x.v<0)),D x.v.natAbs]:=_root_.id rfl
@[go_sem] theorem zq9 (x:WI):PV.ag [.b (decide (x.v<0)),D x.v.natAbs]=wiP x:=_root_.id rfl
@[go_sem] theorem zp3:PV.ag [.b false,.lst []]=wiP wi0:=_root_.id rfl
theorem znU:PV.lst []=D 0:=rfl
theorem zbM {M:PM} {n:Nat} {b:PB} (h:n<M.length):PM.blk (M.set n (some b)) n=some b:=by
 rw[zaz,List.getElem?_set];simp[h]
theorem zbN {M:PM} {n k:Nat} {b:Option PB} (h:n≠k):PM.blk (M.set n b) k=PM.blk M k:=by
 unfold PM.blk;rw[List.getElem?_set_ne h]
theorem zb5 {M:PM} {n:Nat} {b:PB} (h:PM.blk M n=some b):n<M.length:=zaI (zaz.1 h)
attribute [go_sem] List.set_set
@[go_sem] theorem zo9 (M:PM):pcl E0 58 [] M=some (.fn 77 [.p M.length 0],M++[some ⟨[.i .u64 0],true,0⟩]):=by
 refine zjh (xf:=zwD) rfl rfl (by simp[zwD]) ?_
 simp only[zwD]
 simp only[go_sem,seval]
theorem zc1 (M:PM) (n c v e:Nat) (hb:PM.blk M n=some ⟨[.i .u64 (c:Int)],true,e⟩) (h:c+v<18446744073709551616) :
  pcl E0 77 [.i .u64 (v:Int),.p n 0] M=some ((PV.i .u32 (((c+v)%4294967296:Nat):Int)),M.set n (some ⟨[.i .u64 (((c+v)/4294967296:Nat):Int)],true,e+2⟩)):=by
 refine zjh (xf:=zwn) rfl rfl (by simp[zwn]) ?_
 simp only[zwn]
 have hl:=zb5 hb
 simp(disch:=omega)only[go_sem,seval,wqq,zbe,zbS,zbT,zax,zbk,zcI,hb,zbM,zbb,Int.reduceToNat,Nat.reducePow]
theorem za8 (x y:WI):pf E0 30 [wiP x,wiP y]=some (.i .i64 (cmpI x.v y.v)):=by
 refine zaa (xf:=zwE) rfl (by simp[zwE]) ?_
 simp only[zwE]
 have lx:=x.lim
 have ly:=y.lim
 by_cases hx:x.v<0
 ·by_cases hy:y.v<0
  ·simp(disch:=omega)only[go_sem,seval,wqq,hx,hy,zbF]
   congr 2
   unfold cmpI
   simp only[zbk,show (y.v.natAbs<x.v.natAbs)=(x.v<y.v) by apply propext;omega,show (x.v.natAbs<y.v.natAbs)=(y.v<x.v) by apply propext;omega]
  ·simp(disch:=omega)only[go_sem,seval,wqq,hx,hy,zbF]
   unfold cmpI
   rw[if_pos (by omega)]
 ·by_cases hy:y.v<0
  ·simp(disch:=omega)only[go_sem,seval,wqq,hx,hy,zbF]
   unfold cmpI
   rw[if_neg (by omega),if_pos (by omega)]
  ·simp(disch:=omega)only[go_sem,seval,wqq,hx,hy,zbF]
   congr 2
   unfold cmpI
   simp only[zbk,show (y.v.natAbs<x.v.natAbs)=(y.v<x.v) by apply propext;omega,show (x.v.natAbs<y.v.natAbs)=(x.v<y.v) by apply propext;omega]
attribute [go_sem] za8
@[go_sem] theorem zbY (x:WI):pf E0 31 [wiP x]=some (.i .i64 (cmpI x.v 0)):=by
 refine zaa (xf:=zxh) rfl (by simp[zxh]) ?_
 simp only[zxh]
 simp only[go_sem,seval]
 rfl
def WI.neg (x:WI):WI:=⟨-x.v,by rw[Int.natAbs_neg];exact x.ok⟩
@[go_sem] theorem zdN (x:WI):pf E0 43 [wiP x]=some (wiP x.neg):=by
 refine zaa (xf:=zxA) rfl (by simp[zxA]) ?_
 simp only[zxA]
 have hn:wiP x.neg=.ag [.b (decide (0<x.v)),D x.v.natAbs]:=by
  simp only[zdX,WI.neg,Int.natAbs_neg]
  congr 3
  exact decide_eq_decide.2 (by omega)
 rw[hn]
 by_cases hx:x.v<0
 ·have h2:¬0<x.v:=by omega
  simp(disch:=omega)only[go_sem,seval,wqq,hx,h2]
 ·simp(disch:=omega)only[go_sem,seval,wqq,hx]
  congr 4
  refine decide_eq_decide.2 ?_
  constructor
  ·intro h
   have:x.v.natAbs≠0:=fun q=>by rw[q] at h;simp[wlen] at h
   omega
  ·intro h
   have:=zaT (v:=x.v.natAbs) (by omega)
   omega
theorem zaA (neg:Bool) (n v:Nat) (hv:v<4294967296^n) (hn:n<1099511627776) :
  pf E0 36 [.b neg,Dw n v]=some (.tu [wiP (clip (if neg then-(v:Int) else v)),.i .i64 (lerr (v:Int))]):=by
 refine zaa (xf:=zwO) rfl (by simp[zwO]) ?_
 simp only[zwO]
 simp(disch:=omega)only[go_sem,seval,wqq,zbG]
 refine zc8 (fun h=>?_) (fun h=>?_)
 ·simp(disch:=omega)only[go_sem,seval,wqq]
  have hn:¬wlen (v:Int).natAbs≤512:=by simp only[Int.natAbs_natCast];omega
  have hc:clip (if neg then-(v:Int) else v)=wi0:=by
   cases neg
   ·exact zey hn
   ·exact zey (by simpa using hn)
  rw[hc,zeO hn]
 ·have hn:wlen (v:Int).natAbs≤512:=by simp only[Int.natAbs_natCast];omega
  rw[zaC hn]
  cases neg
  ·simp(disch:=omega)only[go_sem,seval,wqq]
   rw[zbt hn]
   rfl
  ·simp(disch:=omega)only[go_sem,seval,wqq]
   have hn':wlen (-(v:Int)).natAbs≤512:=by rw[Int.natAbs_neg];exact hn
   have e1:((decide ((0:Int)<(wlen v:Int))):Bool)=decide ((-(v:Int))<0):=by
    refine decide_eq_decide.2 ?_
    constructor
    ·intro h
     have:v≠0:=fun q=>by rw[q] at h;simp[wlen] at h
     omega
    ·intro h
     have:=zaT (v:=v) (by omega)
     omega
   rw[zbt hn',zdX,←e1]
   simp only[Int.natAbs_neg,Int.natAbs_natCast]
end Go.Eng
