/- For every input the law answers true. -/
import Derived.Test.YtdhkgmhdengnkaaGreatDoorPc
import Derived.Test.YtdhkgmhdengnkaaGreatDoorRows
import Derived.Test.YtdhkgmhdengnkaaGreatDoorChecked
import Derived.Test.YtdhkgmhdengnkaaGreatDoorLiQb
import Derived.Test.YtdhkgmhdengnkaaGreatDoorLiT
import Derived.WalkKit
import Derived.ProofKit
import Derived.OpenShut
import Derived.ShutString
import Derived.ChangeOld
import Derived.Below
import Derived.SizedLaws
import Derived.ChangeSame
import Derived.ChangeVars
import Derived.JoinedOf
import Derived.Handed
import Derived.LaidLaws
import Derived.LaidHandle
import Derived.Stop.Joined
import Derived.Lib.LaidTab
import Derived.Lib.LaidU8
import Derived.Lay
import Derived.MakeChecks
import Derived.Shelf.Vars
import Derived.SevenTiedAt
import Derived.Test.YtdhkgmhdengnkaaGreatDoorCards
import Derived.Test.YtdhkgmhdengnkaaGreatDoorTie
namespace Go.Proofs.YtdhkgmhdengnkaaGreatDoor.Li
open Go Go.Proofs.YtdhkgmhdengnkaaGreatDoorPi Go.ChangeShapes Go.WideShapes Go.ChangeAt Go.RowKit Go.Deep
open Go.ChangeMaps (open_string shut_string)
set_option linter.unusedVariables false
theorem own:ownKnob Tryz.prog.godebug=none:=by kernel_rfl
theorem zrz:laidOutB Tryz.prog=true:=by kernel_rfl
theorem zlt {H:Type} {enc:TypeId×Value->H} {a:Assume} {C:Checked} {os:Os} {f:FuncId} {fn:Func} {s:ChangeSpec} {conds:List PathCond} {apart fresh handsOn again:Bool} {X:World->Array Value->Prop}
    (hX:∀ (w w':World) (args:Array Value),w.heap=w'.heap->X w args->X w' args)
    (own:ownKnob C.prog.godebug=none) (started:os.Started) (noInit:C.prog.inits.idxOf? f=none) (hfn:C.prog.funcs[f]? = some fn)
    (witness:∃ (w:World) (tape:Tape) (i:Input),w.os=os/\(w.forCall tape i).Shaped C.prog/\i.vars=[]/\Input.okWide C.prog (w.forCall tape i) .any w.heap.size f i /\
     ((s.pre enc C.prog fn conds apart (w.forCall tape i).memory i.args/\X (w.forCall tape i).memory i.args)/\sizedMet enc C.prog fn (OpenSpec.ofChange s) apart (w.forCall tape i).memory i.args)/\a.holds C.prog (lone (Frame.enter C.prog f i.args .normal) [] (w.forCall tape i)))
    (contract:∀ (W:World) (base:Nat) (args:Array Value) (ds gs:List (DataW H)) (before:List MemPlace),
     (∀ (j:Nat) t v,fn.params[j]? = some t->args[j]? = some v->Value.okWide C.prog W .any base t v) ->
     DataW.Whole enc C.prog fn.params.toList s.vars apart W args.toList ds gs before ->
     conds.all (PathCond.test C.prog ⟨fn.params.toList,ds,s.plain.varTypes C.prog,gs⟩)=true ->
     (DataW.weightsEach C.prog (fn.params.toList++s.plain.varTypes C.prog) (ds++gs)).all (· <= reachBytes)=true->X W args->W.ShapedOpen C.prog ->
     a.holds C.prog (lone (Frame.enter C.prog f args .normal) [] W) ->
     Calls C.prog f args W fun e W'=>∃ v,e = .returned v/\s.post enc C.prog fn apart fresh handsOn again W args v W') :
    ReturnsInHanded a C os f .any (fun w args=>(s.pre enc C.prog fn conds apart w args/\X w args)/\sizedMet enc C.prog fn (OpenSpec.ofChange s) apart w args) (s.post enc C.prog fn apart fresh handsOn again):=by
 refine returnsInHanded_of_calls own started noInit witness ?_
 intro w tape i _ hsh _ hok hpre hholds
 obtain ⟨_,_,_,fn',hfn',_,_,_,_,hval⟩:=hok
 have e:fn'=fn:=Option.some.inj (hfn'.symm.trans hfn)
 subst e
 obtain ⟨⟨⟨ds,gs,before,hw,hc⟩,hx⟩,hz⟩:=hpre
 have hw':=DataW.Whole.of_heap (w':=w.forCall tape i) (by rfl) hw
 refine (contract (w.forCall tape i) w.heap.size i.args ds gs before hval hw' hc (hz.weights hw) (hX _ _ _ (by rfl) hx) hsh hholds).mono fun e W' ⟨v,he,hp⟩=>?_
 subst he
 exact ChangeSpec.post_blind hp
set_option maxRecDepth 1000000 in
theorem zrA {W:World} (hs:W.ShapedOpen Tryz.prog) (h:laidMetH Tryz.prog Rows.fnDeskLinesRow.laid W):DoorW Tryz.prog W:=by
 rw [MakeChecks.laidMetH_plain _ _ _ (by kernel_rfl)] at h
 have rds:∀ n d,(n,d)∈Rows.fnDeskLinesRow.laid->Lib.VarReads Tryz.prog W n d:=fun n d hm=>Lib.laidMet.reads h hm
 refine ⟨?_,?_,?_,cell_of_shapedOpen_int (P:=Tryz.prog) (g:=0) (zero:=#[.int .i64 0]) (t:=3) hs (of_decide_eq_true (by kernel_rfl)) (by kernel_rfl) rfl (by kernel_rfl) (by kernel_rfl) Tryz.underlying3⟩
 · obtain ⟨g',t',cs,fuel,p,hg',ht',hvar,hd⟩:=rds "internal/strconv.uint64pow10" Rows.laid_internal_strconv_uint64pow10 (by simp [Rows.fnDeskLinesRow])
   have hg:Tryz.prog.globalNamed "internal/strconv.uint64pow10" = some 1:=by kernel_rfl
   obtain rfl:=Option.some.inj (hg.symm.trans hg')
   have hty:(Tryz.prog.globals[1]?).map (·.type)=some 254:=by kernel_rfl
   obtain rfl:=Option.some.inj (hty.symm.trans ht')
   have hd':DataW.trod (fun _=>()) Tryz.prog W 0 (fun _=>true) false fuel 254 cs.toList=some (Lib.tabData .u64 Lib.pow10Tab,p):=hd
   unfold Lib.TabIs
   rw [hvar,<- Lib.cells_of_tab Tryz.underlying254 Tryz.underlying65 (by kernel_rfl) (by kernel_rfl) hd']
 · obtain ⟨g',t',cs,fuel,p,hg',ht',hvar,hd⟩:=rds "strconv.ErrSyntax" Rows.laid_strconv_ErrSyntax (by simp [Rows.fnDeskLinesRow])
   have hg:Tryz.prog.globalNamed "strconv.ErrSyntax" = some 4:=by kernel_rfl
   obtain rfl:=Option.some.inj (hg.symm.trans hg')
   have hty:(Tryz.prog.globals[4]?).map (·.type)=some 135:=by kernel_rfl
   obtain rfl:=Option.some.inj (hty.symm.trans ht')
   obtain ⟨f,u,v,hcs,_⟩:=iface_of_trod Tryz.underlying135 hd
   refine ⟨u,v,?_⟩
   rw [hvar]
   obtain ⟨l⟩:=cs
   have e:l=[.iface u v]:=hcs
   rw [e]
 · obtain ⟨g',t',cs,fuel,p,hg',ht',hvar,hd⟩:=rds "strconv.ErrRange" Rows.laid_strconv_ErrRange (by simp [Rows.fnDeskLinesRow])
   have hg:Tryz.prog.globalNamed "strconv.ErrRange" = some 5:=by kernel_rfl
   obtain rfl:=Option.some.inj (hg.symm.trans hg')
   have hty:(Tryz.prog.globals[5]?).map (·.type)=some 135:=by kernel_rfl
   obtain rfl:=Option.some.inj (hty.symm.trans ht')
   obtain ⟨f,u,v,hcs,_⟩:=iface_of_trod Tryz.underlying135 hd
   refine ⟨u,v,?_⟩
   rw [hvar]
   obtain ⟨l⟩:=cs
   have e:l=[.iface u v]:=hcs
   rw [e]
set_option maxRecDepth 100000 in
theorem lifted (os:Os) (started:os.Started) (H:Type) (enc:TypeId×Value->H) :
    ReturnsInHanded {} Tryz.checked os 4 .any (fun w args=>(Rows.fnDeskLinesSpec.pre enc Tryz.prog Tryz.f4 [] false w args/\laidMetH Tryz.prog Rows.fnDeskLinesRow.laid w)/\sizedMet enc Tryz.prog Tryz.f4 (OpenSpec.ofChange Rows.fnDeskLinesSpec) false w args) (Rows.fnDeskLinesSpec.post enc Tryz.prog Tryz.f4 false true false false):=by
 refine zlt (C:=Tryz.checked) (X:=fun w _=>laidMetH Tryz.prog Rows.fnDeskLinesRow.laid w) (fun _ _ _ hh h=>h.of_heap hh) own started (by kernel_rfl) Tryz.func4
  (ChangeSpec.witness_shaped (enc:=enc) (C:=Tryz.checked) (os:=os) (X:=fun w _=>laidMetH Tryz.prog Rows.fnDeskLinesRow.laid w) false (World.laidAll Tryz.prog os Rows.fnDeskLinesRow.laid) #[.slice none 0 0,.slice none 0 0] 8 (World.laidAll_os _ _ _)
   (World.shaped_of_ZipB (by kernel_rfl) (by kernel_rfl)) (by kernel_rfl) (by kernel_rfl) (by kernel_rfl)
   (by rw [MakeChecks.laidMetH_plain _ _ _ (by kernel_rfl)]; exact laidMet_laidAll _ (by kernel_rfl) (by kernel_rfl))) ?_
 intro W base args ds gs before hval0 hW hcnd hsz0 hL hsh _
 have hsz:(DataW.weightsEach Tryz.prog (Tryz.f4.params.toList++Rows.fnDeskLinesSpec.plain.varTypes Tryz.prog) (ds++gs)).all (· <= reachBytes)=true:=hsz0
 have hval:∀ (j:Nat) t v,Tryz.f4.params[j]? = some t->args[j]? = some v->Value.okWide Tryz.prog W .any base t v:=hval0
 have hW':=hW
 obtain ⟨p,q,hA0,hV,rfl,hfz,hnd⟩:=hW
 have hA:DataW.TrodAll enc Tryz.prog W 0 (fun _=>true) true Tryz.f4.params.toList args.toList ds p:=hA0
 rw [Tryz.params4] at hA hval hsz
 obtain ⟨v0,vs0,d0,ds0,p0,q0,hargs,rfl,rfl,h0,r0⟩:=trodAll_cons hA
 obtain ⟨v1,vs1,d1,ds1,p1,q1,rfl,rfl,rfl,h1,r1⟩:=trodAll_cons r0
 obtain ⟨rfl,rfl,rfl⟩:=trodAll_nil r1
 obtain rfl:args = #[v0,v1]:=by cases args; simp_all
 obtain ⟨rfl,rfl⟩:=trodVars_none hV
 have k0:=h0
 have lt0:∀ x∈p0,x.block < W.heap.size:=by obtain ⟨m,hm⟩:=k0; exact DataW.trod_lt m _ _ _ hm
 obtain ⟨n0,hs0⟩:=zfB Tryz.underlying30 (hval 0 30 v0 rfl rfl) h0
 have hsft0:Fit Tryz.prog 30 (d0,p0).1:=zsC hsz (j:=0) (t:=30) rfl rfl
 obtain ⟨z0,hmz0,hwz0,hkz0⟩:=zhJ Tryz.underlying30 Tryz.underlying5 (by kernel_rfl) hs0 hsft0
 have k1:=h1
 have lt1:∀ x∈p1,x.block < W.heap.size:=by obtain ⟨m,hm⟩:=k1; exact DataW.trod_lt m _ _ _ hm
 obtain ⟨n1,hs1⟩:=zfB Tryz.underlying30 (hval 1 30 v1 rfl rfl) h1
 have hsft1:Fit Tryz.prog 30 (d1,p1).1:=zsC hsz (j:=1) (t:=30) rfl rfl
 obtain ⟨z1,hmz1,hwz1,hkz1⟩:=zhJ Tryz.underlying30 Tryz.underlying5 (by kernel_rfl) hs1 hsft1
 clear hA0 hval0 hsz0 hsz
 obtain ⟨k,hk⟩:=FnDeskLines z0 z1 (by have h:=zsD 1 hmz0 (by kernel_rfl); omega) hwz0 (by have h:=zsD 1 hmz1 (by kernel_rfl); omega) hwz1
 have hp:=hk
 unfold qcrz.f at hp
 refine (zqg (Γ:=zhM Tryz.prog) fits zr0 (f:=4) hp rfl rfl rfl (us:=[_,_])
  (show ARs (zku W) _ _ from ⟨_,_,rfl,(show CR _ _ _ from (by simp only [CR]; exact hkz0)),⟨_,_,rfl,(show CR _ _ _ from (by simp only [CR]; exact hkz1)),rfl⟩⟩) (zrA hsh hL) (DoorW.lt (zrA hsh hL))).mono ?_
 rintro e W' ⟨rfl,bel0⟩
 have bel:Below W.heap.size W W':=bel0
 exact ⟨_,rfl,_,_,_,[],_,[],hW',trodAll_mk1 (shut_bool Tryz.underlying4 _),(trodAll_cons_mk (Below.trod zrz (by kernel_rfl) (of_decide_eq_true (by kernel_rfl)) k0 bel lt0) (trodAll_cons_mk (Below.trod zrz (by kernel_rfl) (of_decide_eq_true (by kernel_rfl)) k1 bel lt1) trodAll_mk0)),rfl,bel.frame _,fun h=>by cases h⟩
end Go.Proofs.YtdhkgmhdengnkaaGreatDoor.Li
