/- The statement, proved for every input: no conditions of its own. -/
import Derived.Test.YtchfmldhdbknlaaGreatDoorMine5
import Derived.Test.YtchfmldhdbknlaaGreatDoorRows
import Derived.Test.YtchfmldhdbknlaaGreatDoorTie
import Derived.Test.YtchfmldhdbknlaaGreatDoorCards
import Derived.ProofKit
import Derived.OpenShut
import Derived.ShutString
import Derived.ChangeOld
import Derived.ChangeSame
import Derived.ChangeVars
import Derived.Below
import Derived.JoinedOf
import Derived.LaidLaws
import Derived.LaidHandle
import Derived.Lay
import Derived.SevenTiedAt
set_option linter.unusedSimpArgs false
set_option linter.unusedVariables false
set_option linter.unusedSectionVars false
namespace Go.Proofs.YtchfmldhdbknlaaGreatDoor
open Go.ChangeShapes Go.WideShapes Go.ChangeAt Go.RowKit
open Go.ChangeMaps (open_string shut_string)
set_option linter.unusedVariables false
theorem own:ownKnob Tryz.prog.godebug=none:=by kernel_rfl
theorem laidOut:laidOutB Tryz.prog=true:=by kernel_rfl
theorem fk:∀f k,Tryz.T.fkey f=some k→(Tryz.keyL[k]?).join=some f:=by
 have h:(List.range Tryz.fkeyL.length).all (fun f=>match (Tryz.fkeyL[f]?).join with|some k=>decide ((Tryz.keyL[k]?).join=some f)|none=>true)=true:=by decide+kernel
 intro f k e
 have e:(Tryz.fkeyL[f]?).join=some k:=e
 have hf:f<Tryz.fkeyL.length:=by
  by_cases q:f<Tryz.fkeyL.length
  ·exact q
  ·rw[List.getElem?_eq_none (Nat.le_of_not_lt q)] at e;cases e
 rw[List.all_eq_true] at h
 have:=h f (List.mem_range.2 hf)
 rw[e] at this
 exact of_decide_eq_true this
theorem flt:(Rows.ivalLatticeRow.laid.filter fun x=>x.2.handleName?.isNone)=[("math/bits.deBruijn32tab",Rows.laid_math_bits_deBruijn32tab),("math/bits.deBruijn64tab",Rows.laid_math_bits_deBruijn64tab),("internal/strconv.uint64pow10",Rows.laid_internal_strconv_uint64pow10),("unicode/utf8.acceptRanges",Rows.laid_unicode_utf8_acceptRanges),("strconv.ErrRange",Rows.laid_strconv_ErrRange),("strconv.ErrSyntax",Rows.laid_strconv_ErrSyntax),("unicode/utf8.first",Rows.laid_unicode_utf8_first)]:=by kernel_rfl
theorem met {W:World} (h:laidMetH Tryz.prog Rows.ivalLatticeRow.laid W):laidMet Tryz.prog [("math/bits.deBruijn32tab",Rows.laid_math_bits_deBruijn32tab),("math/bits.deBruijn64tab",Rows.laid_math_bits_deBruijn64tab),("internal/strconv.uint64pow10",Rows.laid_internal_strconv_uint64pow10),("unicode/utf8.acceptRanges",Rows.laid_unicode_utf8_acceptRanges),("strconv.ErrRange",Rows.laid_strconv_ErrRange),("strconv.ErrSyntax",Rows.laid_strconv_ErrSyntax),("unicode/utf8.first",Rows.laid_unicode_utf8_first)] W:=by
 have:=Eng.laidH_met h
 rwa [flt] at this
def gsT:Nat→Option Eng.At:=fun n=>if n=0 then some ⟨5,0,20,true⟩ else if n=3 then some ⟨0,0,2,true⟩ else if n=4 then some ⟨1,0,2,true⟩ else none
theorem gsT_in {n:Nat} {a:Eng.At} (e:gsT n=some a):n=0∧a=⟨5,0,20,true⟩∨n=3∧a=⟨0,0,2,true⟩∨n=4∧a=⟨1,0,2,true⟩:=by
 unfold gsT at e
 split at e
 ·rename_i q;exact .inl ⟨q,(Option.some.inj e).symm⟩
 split at e
 ·rename_i q;exact .inr (.inl ⟨q,(Option.some.inj e).symm⟩)
 split at e
 ·rename_i q;exact .inr (.inr (⟨q,(Option.some.inj e).symm⟩))
 cases e
theorem gkT:∀g n,Tryz.T.gkey g=some n→n≤4∧∃m,gsT n=some ⟨g,0,m,true⟩:=fun g n h=>by
 have h:(if g=5 then some 0 else if g=0 then some 3 else if g=1 then some 4 else none)=some n:=h
 split at h
 ·rename_i q;subst q;obtain rfl:=Option.some.inj h;exact⟨by decide,20,rfl⟩
 split at h
 ·rename_i q;subst q;obtain rfl:=Option.some.inj h;exact⟨by decide,2,rfl⟩
 split at h
 ·rename_i q;subst q;obtain rfl:=Option.some.inj h;exact⟨by decide,2,rfl⟩
 cases h
theorem v3_of {W:World} (h:laidMetH Tryz.prog Rows.ivalLatticeRow.laid W):Eng.GlobIn (fun f=>(Tryz.keyL[f]?).join) W 3 ⟨0,0,2,true⟩ :=
 Eng.glob_fnsB (name := "skymosaic/ival.down") (b1:=115) (r1:=[107,121,109,111,115,97,105,99,47,105,118,97,108,46,102,108,111,111,114]) (b2:=115) (r2:=[107,121,109,111,115,97,105,99,47,105,118,97,108,46,100,111,119,110,36,49]) (F1:=237) (F2:=238) (d:=(.agg [.iface "func" (.lit (.string [115,107,121,109,111,115,97,105,99,47,105,118,97,108,46,102,108,111,111,114])),.iface "func" (.lit (.string [115,107,121,109,111,115,97,105,99,47,105,118,97,108,46,100,111,119,110,36,49]))])) (by kernel_rfl) (by kernel_rfl) (by kernel_rfl) (by kernel_rfl) (by kernel_rfl) (by kernel_rfl) Eng.down_glob (by kernel_rfl) (Eng.laidH_fn (x:=Rows.laid_skymosaic_ival_down) h (by kernel_rfl) (by
  show _∈[_,_,_,_,_,_,_,_,_]
  exact List.mem_cons_of_mem _ (List.mem_cons_of_mem _ (List.mem_cons_of_mem _ (List.mem_cons_of_mem _ (List.mem_cons_of_mem _ (List.mem_cons_of_mem _ (List.mem_cons_self ..))))))) (by kernel_rfl))
theorem v4_of {W:World} (h:laidMetH Tryz.prog Rows.ivalLatticeRow.laid W):Eng.GlobIn (fun f=>(Tryz.keyL[f]?).join) W 4 ⟨1,0,2,true⟩ :=
 Eng.glob_fnsB (name := "skymosaic/ival.up") (b1:=115) (r1:=[107,121,109,111,115,97,105,99,47,105,118,97,108,46,99,101,105,108]) (b2:=115) (r2:=[107,121,109,111,115,97,105,99,47,105,118,97,108,46,117,112,36,49]) (F1:=239) (F2:=240) (d:=(.agg [.iface "func" (.lit (.string [115,107,121,109,111,115,97,105,99,47,105,118,97,108,46,99,101,105,108])),.iface "func" (.lit (.string [115,107,121,109,111,115,97,105,99,47,105,118,97,108,46,117,112,36,49]))])) (by kernel_rfl) (by kernel_rfl) (by kernel_rfl) (by kernel_rfl) (by kernel_rfl) (by kernel_rfl) Eng.up_glob (by kernel_rfl) (Eng.laidH_fn (x:=Rows.laid_skymosaic_ival_up) h (by kernel_rfl) (by
  show _∈[_,_,_,_,_,_,_,_,_]
  exact List.mem_cons_of_mem _ (List.mem_cons_of_mem _ (List.mem_cons_of_mem _ (List.mem_cons_of_mem _ (List.mem_cons_of_mem _ (List.mem_cons_of_mem _ (List.mem_cons_of_mem _ (List.mem_cons_self ..)))))))) (by kernel_rfl))
theorem tab_of {W:World} (h:laidMetH Tryz.prog Rows.ivalLatticeRow.laid W):Lib.TabIs Tryz.prog W "internal/strconv.uint64pow10" .u64 Lib.pow10Tab:=by
 have h':=met h
 obtain⟨ps,h1,_⟩:=h'
 exact Eng.tabIs_mem (g:=5) (t:=230) (e:=129) (n:=20) (by kernel_rfl) (by kernel_rfl) (by kernel_rfl) (by kernel_rfl) (by kernel_rfl) (by kernel_rfl) h1 (by
  show _∈[_,_,_,_,_,_,_]
  exact List.mem_cons_of_mem _ (List.mem_cons_of_mem _ (List.mem_cons_self ..)))
set_option maxRecDepth 100000 in
theorem lifted (os:Os) (started:os.Started) (H:Type) (enc:TypeId×Value→H) :
  ReturnsInHanded {} Tryz.checked os 4 .any (fun w args=>(Rows.ivalLatticeSpec.pre enc Tryz.prog Tryz.f4 [] false w args∧laidMetH Tryz.prog Rows.ivalLatticeRow.laid w)∧sizedMet enc Tryz.prog Tryz.f4 (OpenSpec.ofChange Rows.ivalLatticeSpec) false w args)
   (Rows.ivalLatticeSpec.post enc Tryz.prog Tryz.f4 false true false false):=by
 refine returnsInHanded_of_change_and (C:=Tryz.checked) (X:=fun w _=>laidMetH Tryz.prog Rows.ivalLatticeRow.laid w) (fun _ _ _ hh h=>h.of_heap hh) own started (by kernel_rfl) Tryz.func4
  (ChangeSpec.witness_shaped (enc:=enc) (C:=Tryz.checked) (X:=fun w _=>laidMetH Tryz.prog Rows.ivalLatticeRow.laid w) false (Eng.witW Tryz.prog 82 os (Rows.ivalLatticeRow.laid.filter fun x=>x.2.handleName?.isNone)) #[.slice none 0 0,.int .i64 0] 8 rfl (World.shaped_of_ZipB (by kernel_rfl) (by kernel_rfl)) (by kernel_rfl) (by kernel_rfl) (by kernel_rfl) (Eng.laidH_wit (fuel:=8) _ (by kernel_rfl) (by kernel_rfl) (by kernel_rfl) (by kernel_rfl))) ?_
 intro W base args ds gs before hval0 hW _ _ hL _
 have hval:∀(j:Nat) t v,Tryz.f4.params[j]?=some t→args[j]?=some v→Value.okWide Tryz.prog W .any base t v:=hval0
 have hW':=hW
 obtain⟨p,q,hA0,hV0,rfl,hfz,hnd⟩:=hW
 have hA:DataW.TrodAll enc Tryz.prog W 0 (fun _=>true) true Tryz.f4.params.toList args.toList ds p:=hA0
 have hV:DataW.TrodVars enc Tryz.prog W (fun _=>true) [] gs q:=hV0
 rw[Tryz.params4] at hA hval
 obtain⟨v0,vs0,d0,ds0,p0,q0,hargs,rfl,rfl,h0,r0⟩:=trodAll_cons hA
 obtain⟨v1,vs1,d1,ds1,p1,q1,rfl,rfl,rfl,h1,r1⟩:=trodAll_cons r0
 obtain⟨rfl,rfl,rfl⟩:=trodAll_nil r1
 obtain rfl:args = #[v0,v1]:=by cases args;simp_all
 obtain⟨rfl,rfl⟩:=trodVars_none hV
 obtain⟨a0,len0,cap0,rfl⟩:=okWide_slice Tryz.underlying22 (hval 0 22 v0 rfl rfl)
 obtain⟨z1,rfl,-,-,w1⟩:=open_int Tryz.underlying3 (hval 1 3 v1 rfl rfl) h1
 have k0:=h0
 have lt0:∀x∈p0,x.block<W.heap.size:=by obtain⟨m,hm⟩:=k0;exact DataW.trod_lt m _ _ _ hm
 obtain⟨z0,w0⟩:∃zs,Eng.IsRow .i64 W a0 len0 cap0 zs:=by
  obtain⟨fuel,hf⟩:=h0
  rcases open_ints Tryz.underlying22 Tryz.underlying3 (by kernel_rfl) hf with⟨hcs,_⟩|⟨x,l,c,zs,hcs,_,hl,hm,hz,_,hcell,hwz⟩
  ·simp[Value.cells] at hcs
   obtain⟨rfl,rfl,rfl⟩:=hcs
   exact⟨[],.inl ⟨rfl,rfl,rfl,rfl⟩⟩
  ·simp[Value.cells] at hcs
   obtain⟨rfl,rfl,rfl⟩:=hcs
   exact⟨zs,.inr ⟨_,rfl,hl,hm,by simpa using hz,hcell,hwz⟩⟩
 have k1:=h1
 have lt1:∀x∈p1,x.block<W.heap.size:=by obtain⟨m,hm⟩:=k1;exact DataW.trod_lt m _ _ _ hm
 clear hA0 hval0
 have ht:=tab_of hL
 have hg:Tryz.prog.globalNamed "internal/strconv.uint64pow10" = some 5:=Tryz.libok.gname
 have hsz:=Eng.row_heap hg ht
 obtain⟨c0,at0,av0,i0,ra0,va0⟩:=Eng.arg_row hsz w0 5
 refine(Eng.law_calls Tryz.progok fk (gs:=gsT) (fun n a _ e=>by
  rcases gsT_in e with⟨rfl,rfl⟩|⟨rfl,rfl⟩|⟨rfl,rfl⟩
  ·exact Eng.glob_tab hg ht
  ·exact v3_of hL
  ·exact v4_of hL
  ) gkT (bs:=[c0]) (ats:=[at0]) rfl (fun n c a hc ha=>by
   rcases n with _|n
   ·cases hc;cases ha;exact i0
   ·simp at hc) (k:=493) (g:=4) rfl rfl (ps:=[Eng.ints (z0.take len0),.i .i64 z1]) rfl (Eng.p_IvalLattice (Eng.ints_row w0) (bounds_i64 w1)) (avs:=[av0,.i .i64 z1]) (.cons (va0 _ _ rfl fun q=>q) (.cons (.i _ _) .nil)) (.cons (ra0 _ _ rfl) (.cons (.i _ _) .nil))).mono fun e W' ⟨he,bel⟩=>?_
 subst he
 exact⟨_,rfl,_,_,_,[],_,[],hW',trodAll_mk1 (shut_bool Tryz.underlying4 _),(trodAll_cons_mk (Below.trod laidOut (by kernel_rfl) (of_decide_eq_true (by kernel_rfl)) k0 bel lt0) (trodAll_cons_mk (Below.trod laidOut (by kernel_rfl) (of_decide_eq_true (by kernel_rfl)) k1 bel lt1) trodAll_mk0)),rfl,bel.frame _,fun h=>by cases h⟩
theorem row_holds:Rows.IvalLatticeSaid :=
 OpenClaim.holds_of_wide 4 Tryz.f4 rfl rfl rfl rfl rfl rfl rfl ⟨rfl,rfl,rfl,rfl,rfl⟩ rfl rfl rfl rfl rfl (by kernel_rfl) Tryz.func4 (by kernel_rfl)
  (of_decide_eq_true (by kernel_rfl)) (by unfold Func.isWrapper;first|(rw[if_pos (by decide+kernel)];kernel_rfl)|(rw[if_neg (by decide+kernel)];exact⟨rfl,rfl⟩))
  (fun os started H enc _=>lifted os started H enc)
theorem card_holds:Rows.IvalLatticeCardSaid :=
 Claim7.holds_tied_plain_at .later [] [.data,.data,.data,.data,.sentinel,.sentinel,.funcs,.funcs,.pinned] true (true, "5ac533ee77bf4dbc04320b9d52aa329867a75bb6c37b0d4260df57474a354182") true
  row_holds (fun _ h=>by cases h) (by kernel_rfl) (fun _ h=>by cases h) ivalLattice_row_tie rfl ⟨rfl,rfl⟩ (by kernel_rfl) rfl
  (fun f fn hf hfn=>by
   obtain rfl:f=4:=Option.some.inj ((show Tryz.prog.funcNamed "skymosaic/skymosaiclaw07.IvalLattice" = some 4 by kernel_rfl).symm.trans hf) |>.symm
   obtain rfl:fn=Tryz.f4:=(Option.some.inj (Tryz.func4.symm.trans hfn)).symm
   exact⟨by kernel_rfl,fun j t ht=>by
    rw[Tryz.params4] at ht
    rcases j with _|_|j
    ·obtain rfl:t=22:=by simpa using ht.symm
     exact(show Tryz.prog.wantsStandIn 22=false by kernel_rfl)
    ·obtain rfl:t=3:=by simpa using ht.symm
     exact(show Tryz.prog.wantsStandIn 3=false by kernel_rfl)
    ·simp at ht⟩)
  (by kernel_rfl)
#print axioms card_holds
end Go.Proofs.YtchfmldhdbknlaaGreatDoor
