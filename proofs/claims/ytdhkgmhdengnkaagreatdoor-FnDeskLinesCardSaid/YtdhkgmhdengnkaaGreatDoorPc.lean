/- A pure interpreter of the program, and its soundness (part 3 of 3). -/
import Derived.BigCall
import Derived.Below
import Derived.KernelRfl
import Derived.SizedLaws
import Derived.Deep.Slices
import Derived.Deep.Fields
import Derived.ChangeSame
import Derived.WideShapes
import Derived.WalkKit
import Derived.Lib.SliceRun
import Derived.Deep.RegionLaw
import Derived.Deep.LoopGhost
import Derived.Shelf.RegionOpenPlain
import Derived.Lib.Join
import Derived.Lib.AtoiAll
import Derived.Lib.Split
import Derived.Lib.SplitLaws
import Derived.Lib.ItoaNum
import Derived.Lib.LaidTab
import Derived.Lib.AppendIntMem
import Derived.Sort.Grow
import Derived.Lib.SlicesCompact
import Derived.Lib.Bytealg
import Derived.Lib.Strings
import Derived.Test.YtdhkgmhdengnkaaGreatDoorPb
namespace Go.Proofs.YtdhkgmhdengnkaaGreatDoorPi
set_option linter.unusedVariables false
set_option linter.unusedSectionVars false
set_option linter.unusedSimpArgs false
open Go
structure Gr where
 Q:World->Prop
 G:Nat->Prop
 stay:∀ w w':World,Q w->w'.os=w.os->w'.tape=w.tape->w.heap.size<=w'.heap.size->(∀ g,G g->w'.heap[g]? = w.heap[g]?)->Q w'
def Gr.on (Γ:Gr) (X:Nat->Prop) (w:World):Prop:=Γ.Q w /\ ∀ g,Γ.G g->g < w.heap.size/\¬ X g
def zb7 (S:Sig) (o:Option RMode):List (Option RMode):=S.res.map (fun _=>o)++zdW S.pars
def zs1 (P:Program) (C:Ctx) (Γ:Gr) (pi:(g:FuncId)->List AV->Option (C.sig g).den):Prop :=
 ∀ (g:FuncId) (args:List AV) (x:(C.sig g).den),pi g args=some x->∀ (X V0 R0:Nat->Prop) (w0:World) (s0:St) (ρ0:Nat->Option RI) (us:List Value) (o:Option RMode) (base:Nat),
  zcc 0 (C.sig g).pars args=some s0->MInv ⟨C,X,V0,w0,R0,ρ0⟩ (zaa s0.mu) s0.dead ρ0 w0 ->
  (∀ k a,zaa s0.env k=some a->∃ u,us[k]? = some u/\AR ((⟨C,X,V0,w0,R0,ρ0⟩ : Base).sit (zaa s0.mu) ρ0 w0) a u)->us.length=(C.sig g).pars.length->Γ.on X w0->(o=none \/ o=some .own) ->
  ((zaQ (zb7 (C.sig g) o) base (C.sig g).outs x).2.map Prod.fst).Nodup ->
  Calls P g us.toArray w0 fun
   | .returned v,w'=>Ret ⟨C,X,V0,w0,R0,ρ0⟩ (C.sig g) (zb7 (C.sig g) o) base x v w'
   | _,_=>False
section
variable {R:Type} (C:Ctx)
theorem zmg {op:BinOp} {ti:Option TI} {x y:AV}:zeL op ti x y (fun _=>(none:Option R))=none:=by
 rw [ziz op ti x y (fun _=>(none:Option R)) (fun c=>some c) (fun _=>none) (fun _=>rfl)]
 cases zeL op ti x y (fun c=>some c) <;> rfl
theorem zkX {mu:Look} {c:Cel} {lo hi:Option Int}:zbF mu c lo hi (fun _=>(none:Option R))=none:=by
 rw [zhr mu c lo hi (fun _=>(none:Option R)) (fun c=>some c) (fun _=>none) (fun _=>rfl)]
 cases zbF mu c lo hi (fun c=>some c) <;> rfl
theorem zs2 (b:Bool):br b (none:Option R) none=none:=by cases b <;> rfl
theorem zja (b:Bool):cond b (none:Option R) none=none:=by cases b <;> rfl
theorem zrP {C:Ctx} {f site:Nat} {o:Oper} {vs:List AV} {mu:Look} {c:CallD C} (h:evD C f site o vs mu=some (.inr c)) :
    ∃ c0 F g caps vs' fn l fz gv ids ed,o.op = .call c0/\c0.callee = .value F/\vs = .sv (.one (.fn g caps))::vs' /\ C.fns g=some fn /\
     zal C mu (C.sig g).pars fn.params.toList (vs' ++ caps.map fun c=>.sv (.one c))=some (l,fz,gv,ids) /\
     apart mu (C.sig g).pars (vs' ++ caps.map fun c=>.sv (.one c)) (fz++ids) gv=true/\zpH C g l=true/\freeze mu (zis (C.sig g) fz ids)=some ed /\
     c=⟨g,l,zeM C f site g mu (vs' ++ caps.map fun c=>.sv (.one c)) (ed++zfJ gv)⟩:=by
 have h':zdb C f site o vs mu (fun _=>none) (fun g l mk=>some (CallD.mk g l mk))=some c:=by
  rw [zgU,h]
  rfl
 clear h
 unfold zdb at h'
 generalize hop:o.op=op at h'
 split at h'
 case h_22 =>
  rename_i c0
  split at h'
  case h_5 =>
   rename_i F g caps vs' hcal
   split at h'
   case h_5 =>
    split at h'
    · rename_i fn hfn
      split at h'
      · rename_i l fz gv ids hh
        obtain ⟨hb,h2⟩:=zaj h'
        rw [Bool.and_eq_true] at hb
        split at h2
        · cases h2
        · rename_i ed hed
          cases h2
          exact ⟨c0,F,g,caps,vs',fn,l,fz,gv,ids,ed,rfl,hcal,rfl,hfn,hh,hb.1,hb.2,hed,rfl⟩
      · cases h'
    · cases h'
   all_goals repeat' first
    | (cases h'; done)
    | (rw [zja] at h')
    | split at h'
  all_goals repeat' first
   | cases h'
   | (rw [zja] at h')
   | split at h'
 all_goals repeat' first
  | cases h'
  | (rw [zs2] at h')
  | (rw [zja] at h')
  | (rw [zmg] at h')
  | (rw [zkX] at h')
  | split at h'
end
end Go.Proofs.YtdhkgmhdengnkaaGreatDoorPi
namespace Go.Proofs.YtdhkgmhdengnkaaGreatDoorPi
set_option linter.unusedVariables false
set_option linter.unusedSimpArgs false
open Go
def zqc:RV->Nat
 | .one _=>1
 | .agg cs=>cs.length
def SigFit (C:Ctx):Prop:=∀ g,∀ rv∈(C.sig g).outs,rvTy C rv/\zqc rv<=20
theorem zg7 (o:Option RMode):∀ (rcs:List RC) (id:Nat) (x:zho rcs),((zdr o id rcs x).2.map Prod.fst).Nodup /\ ∀ k∈(zdr o id rcs x).2.map Prod.fst,id<=k/\k < id+rcs.length
 | [],id,x=>by rw [zkn]; simp
 | [a],id,x=>by
  rw [show zdr o id [a] x=([(zbW o id a x).1],(zbW o id a x).2) from rfl]
  cases a with
  | dat t=>simp [zbW]
  | row e t=>cases o <;> simp [zbW]
 | a::b::r,id,x=>by
  rw [zi4]
  obtain ⟨h1,h2⟩:=zg7 o (b::r) (id+1) x.2
  have h3:∀ k∈(zbW o id a x.1).2.map Prod.fst,k=id:=by
   cases a with
   | dat t=>simp [zbW]
   | row e t=>cases o <;> simp [zbW]
  have h4:((zbW o id a x.1).2.map Prod.fst).Nodup:=by
   cases a with
   | dat t=>simp [zbW]
   | row e t=>cases o <;> simp [zbW]
  rw [List.map_append]
  refine ⟨List.nodup_append.2 ⟨h4,h1,fun y hy z hz e=>?_⟩,fun k hk=>?_⟩
  · have:=h3 y hy
    have:=(h2 z hz).1
    omega
  · rcases List.mem_append.1 hk with hk | hk
    · have:=h3 k hk
      simp only [List.length_cons]
      omega
    · have:=h2 k hk
      simp only [List.length_cons] at this ⊢
      omega
theorem zmh (o:Option RMode) (rv:RV) (id:Nat) (x:rv.den):((zgh o id rv x).2.map Prod.fst).Nodup /\ ∀ k∈(zgh o id rv x).2.map Prod.fst,id<=k/\k < id+zqc rv:=by
 cases rv with
 | one a =>
  exact zg7 o [a] id x
 | agg cs=>exact zg7 o cs id x
theorem zkr:∀ (os:List (Option RMode)) (rvs:List RV) (id:Nat) (x:zgc rvs),(∀ rv∈rvs,zqc rv<=20)->((zaQ os id rvs x).2.map Prod.fst).Nodup /\ ∀ k∈(zaQ os id rvs x).2.map Prod.fst,id<=k
 | os,[],id,x,_=>by rw [zko]; simp
 | [],[a],id,x,_=>by simp [show zaQ [] id [a] x=([],[]) from rfl]
 | [],a::b::r,id,x,_=>by simp [show zaQ [] id (a::b::r) x=([],[]) from rfl]
 | o::os,[a],id,x,h=>by
  rw [show zaQ (o::os) id [a] x=([(zgh o id a x).1],(zgh o id a x).2) from rfl]
  obtain ⟨h1,h2⟩:=zmh o a id x
  exact ⟨h1,fun k hk=>(h2 k hk).1⟩
 | o::os,a::b::r,id,x,h=>by
  rw [zi5]
  obtain ⟨h1,h2⟩:=zmh o a id x.1
  obtain ⟨h3,h4⟩:=zkr os (b::r) (id+20) x.2 (fun rv hrv=>h rv (List.mem_cons_of_mem _ hrv))
  have h5:=h a List.mem_cons_self
  rw [List.map_append]
  refine ⟨List.nodup_append.2 ⟨h1,h3,fun y hy z hz e=>?_⟩,fun k hk=>?_⟩
  · have:=(h2 y hy).2
    have:=h4 z hz
    omega
  · rcases List.mem_append.1 hk with hk | hk
    · exact (h2 k hk).1
    · have:=h4 k hk
      omega
theorem zks {σ:Sit}:∀ {a b:List AV} {us vs:List Value},ARs σ a us->ARs σ b vs->ARs σ (a++b) (us++vs)
 | [],_,_,_,h,k=>by rw [show _=[] from h]; exact k
 | x::a,b,_,_,⟨u,r,e,h1,h2⟩,k=>by subst e; exact ⟨u,_,rfl,h1,zks h2 k⟩
theorem zn6 {σ:Sit}:∀ {cs:List Cel} {us:List Value},CRs σ cs us->ARs σ (cs.map fun c=>AV.sv (.one c)) us
 | [],us,h=>by simp only [CRs] at h; exact h
 | c::cs,us,h=>by
  simp only [CRs] at h
  obtain ⟨u,r,e,h1,h2⟩:=h
  exact ⟨u,r,e,h1,zn6 h2⟩
theorem zmi {mu:List (Nat×Cont)} {E:List Ent}:∀ {ps:List Par} {vs:List AV} {j:Nat},Names mu E j ps vs->vs.length=ps.length:=by
 intro ps
 induction ps with
 | nil=>intro vs j k; cases vs <;> first | rfl | simp only [Names] at k
 | cons p ps ih =>
  intro vs j k
  cases vs with
  | nil=>cases p <;> simp only [Names] at k
  | cons v vs =>
   cases p with
   | val=>simp only [Names] at k; simp [ih k]
   | box e cs =>
    cases v with
    | tup _=>simp only [Names] at k
    | junk=>simp only [Names] at k
    | sv s =>
     cases s with
     | agg _=>simp only [Names] at k
     | one c =>
      cases c
      case ptr id off =>
       simp only [Names] at k
       simp [ih k.2]
      all_goals simp only [Names] at k
   | mix b pcs =>
    cases v with
    | tup _=>simp only [Names] at k
    | junk=>simp only [Names] at k
    | sv s =>
     simp only [Names] at k
     simp [ih k.2]
section
variable {P:Program} {B:Base} {Γ:Gr}
theorem Gr.on.later (h:Γ.on B.X B.w0) {mu:Look} {dead:List Nat} {ρ:Nat->Option RI} {w:World} (H:MInv B mu dead ρ w):Γ.Q w :=
 Γ.stay B.w0 w h.1 H.ext.os H.ext.tape H.ext.size fun g hg=>H.ext.block g (h.2 g hg).1 (h.2 g hg).2
theorem zeZ {o:Oper} {c0:Call} {F:Operand} {a:Act} {w:World} {g:FuncId} {caps:List Value} {fn:Func} (hop:o.op = .call c0) (hcal:c0.callee = .value F) (hF:a.eval F = .func (.func g) #[] caps.toArray)
    (hf:P.funcs[g]? = some fn) (hb:fn.body.isSome=true) (hname:(fn.name == "runtime.NumGoroutine")=false) :
    (execOp a.eval o).run P w = .ok (.enter g (c0.args.toList.map a.eval++caps).toArray) w:=by
 have hname':¬ fn.name = "runtime.NumGoroutine" := by simpa using hname
 have hargs:(c0.args.map a.eval++caps.toArray)=(c0.args.toList.map a.eval++caps).toArray:=by
  apply Array.toList_inj.1; simp
 simp only [execOp,hop,resolve,hcal,hF,Deferred.ofValue,Sem.run_bind,Sem.run_pure,Result.andThen_ok,invoke]
 rw [Array.empty_append,hargs]
 have hb2:fn.body ≠ none:=by intro e; rw [e] at hb; cases hb
 simp [callFunc,hf,hname',hb2]
theorem zrQ (OKP:POk P B.C) {o:Oper} {c0:Call} {F:Operand} {a:Act} {w:World} {g:FuncId} {caps:List Value} {fn:Func} (hop:o.op = .call c0) (hcal:c0.callee = .value F) (hF:a.eval F = .func (.func g) #[] caps.toArray) (hfn:B.C.fns g=some fn) :
    (execOp a.eval o).run P w = .ok (.enter g (c0.args.toList.map a.eval++caps).toArray) w :=
 zeZ hop hcal hF (OKP.fns g fn hfn) (OKP.body g fn hfn).1 (OKP.body g fn hfn).2
theorem zkY {σ:Sit} {o:Oper} {a:Act} {g:FuncId} {r:List AV} (hvs:ARs σ (.sv (.one (.fn g []))::r) (o.op.operands.toList.map a.eval))
    {c0:Call} {F:Operand} (hop:o.op = .call c0) (hcal:c0.callee = .value F):a.eval F = .func (.func g) #[] ([]:List Value).toArray/\ARs σ r (c0.args.toList.map a.eval):=by
 have hops:o.op.operands.toList=F::c0.args.toList:=by
  rw [hop]
  simp [Op.operands,Call.operands,hcal]
 rw [hops,List.map_cons] at hvs
 obtain ⟨u,r0,e0,h1,h2⟩:=zan hvs
 obtain ⟨e1,e2⟩:=List.cons.inj e0
 subst e2
 have h1':CR σ (.fn g []) (a.eval F):=by rw [e1]; exact h1
 simp only [CR] at h1'
 obtain ⟨capsV,hF,hcaps⟩:=h1'
 have hcaps':capsV=[]:=by simpa only [CRs] using hcaps
 subst hcaps'
 exact ⟨hF,h2⟩
theorem zn7 {mu:List (Nat×Cont)} {dead:List Nat} {ρ:Nat->Option RI} {w:World} (H:MInv B (zaa mu) dead ρ w) {id:Nat} {e:TypeId} {xs:List Int} {m:RMode} (hm:zaa mu id=some (.row e (.int .i64) xs m)) (h0:0 < xs.length)
    {u:Value} (hu:CR (B.sit (zaa mu) ρ w) (.full id) u):∃ ri b,ρ id=some ri/\ri.g=some b/\ri.len=xs.length/\ri.sz=1/\zjV B.C e (.int .i64)/\u = .slice (some ⟨b,0,none⟩) xs.length ri.cap/\xs.length<=ri.cap /\
     w.ownsRow 0 e 1 (.slice (some ⟨b,0,none⟩) xs.length ri.cap) xs.length (xs.map (Value.int .i64)):=by
 obtain ⟨ri,hri,hlen,hsz,hrt,hrr⟩:=H.cont id _ hm
 have hx:hdr0 ri ri.len u:=by
  simp only [CR] at hu
  obtain ⟨ri',hri',hv⟩:=hu
  obtain rfl:=Option.some.inj (hri.symm.trans hri')
  exact hv
 cases hg:ri.g with
 | none =>
  simp only [RowR,hg] at hrr
  rw [hrr] at h0
  exact absurd h0 (Nat.lt_irrefl 0)
 | some b =>
  simp only [RowR,hg] at hrr
  obtain ⟨cur,hh,hcap,hmx,hcs,hk⟩:=hrr
  simp only [hdr0,hg] at hx
  have hkl:∀ (zs:List Int) (vs:List Value),KL (KR (B.V (zaa mu) ρ w) w (.int .i64)) zs vs->vs=zs.map (Value.int .i64):=by
   intro zs
   induction zs with
   | nil=>intro vs hv; exact hv
   | cons z zs ih =>
    rintro vs ⟨p,q,rfl,ha,hb⟩
    rw [ih q hb,show p=[.int .i64 z] from ha]
    rfl
  have hcur:=hkl xs _ hk
  have hs1:(Ty.int .i64).size=1:=rfl
  rw [hs1,Nat.mul_one] at hcur
  rw [hs1,Nat.mul_one] at hcs
  refine ⟨ri,b,hri,hg,hlen,hsz,hrt,hx.trans (by rw [hlen]; rfl),hcap,by simp,.inr ⟨b,ri.cap,cur,rfl,Nat.zero_le _,hh,hcap,hmx,by rw [hcs,Nat.mul_one],by rw [Nat.mul_one]; exact hcur⟩⟩
theorem zsy {V:Nat->Prop} {w:World}:∀ (ys:List Int),KL (KR V w (.int .i64)) ys (ys.map (Value.int .i64))
 | []=>rfl
 | y::ys=>⟨[.int .i64 y],ys.map (Value.int .i64),rfl,rfl,zsy ys⟩
theorem zjb {σ:Sit} {e:TypeId} {ys:List Int} {b cap:Nat} (h:σ.w.ownsRow 0 e 1 (.slice (some ⟨b,0,none⟩) ys.length cap) ys.length (ys.map (Value.int .i64))):RowR σ ⟨some b,cap,ys.length,1⟩ e (.int .i64) ys:=by
 obtain ⟨_,h⟩:=h
 rcases h with ⟨h',_⟩ | ⟨b',cap',cur,hv,_,hh,hcap,hmx,hcs,htk⟩
 · simp at h'
 · simp only [Value.slice.injEq,Option.some.injEq,Addr.mk.injEq,and_true,true_and] at hv
   obtain ⟨rfl,rfl⟩:=hv
   simp only [RowR]
   refine ⟨cur,hh,hcap,hmx,hcs,?_⟩
   show KL (KR σ.V σ.w (.int .i64)) ys (cur.toList.take (ys.length*1))
   rw [htk]
   exact zsy ys
theorem zo0 (OKP:POk P B.C) {mu:List (Nat×Cont)} {dead:List Nat} {ρ:Nat->Option RI} {w:World} (H:MInv B (zaa mu) dead ρ w) {f site:Nat} {o:Oper} {a:Act} {g:FuncId} {caps:List Cel} {r:List AV} {e:TypeId} {δ:zbl}
    (hdel:B.C.del g=some (.sort e)) (h:evD B.C f site o (.sv (.one (.fn g caps))::r) (zaa mu)=some (.inl δ)) (hvs:ARs (B.sit (zaa mu) ρ w) (.sv (.one (.fn g caps))::r) (o.op.operands.toList.map a.eval))
    {c0:Call} {F:Operand} (hop:o.op = .call c0) (hcal:c0.callee = .value F) :
    ∃ us:List Value,(execOp a.eval o).run P w = .ok (.enter g us.toArray) w/\Calls P g us.toArray w fun q w'=>∃ v,q = .returned v/\OpD B mu dead ρ w δ v w':=by
 unfold evD zdb at h
 rw [hop] at h
 dsimp only at h
 rw [hcal] at h
 dsimp only at h
 rw [hdel] at h
 dsimp only at h
 split at h
 case h_2=>cases h
 rename_i id
 split at h
 case h_2=>cases h
 rename_i e' xs m hm
 obtain ⟨hb,hq⟩:=zaj h
 clear h
 rw [Bool.and_eq_true] at hb
 obtain ⟨b1,b2⟩:=hb
 obtain rfl:=Nat.eq_of_beq_eq_true b1
 split at hq
 case isFalse=>cases hq
 rename_i h0
 split at hq
 case isFalse=>cases hq
 rename_i hlim
 cases hq
 have h0':0 < List.length (α:=Int) xs:=by simp only [dlen] at h0; exact Int.ofNat_lt.1 h0
 have hl':List.length (α:=Int) xs<=5000000000000:=by simp only [dlen] at hlim; exact Int.ofNat_le.1 hlim
 obtain ⟨hF,h2⟩:=zkY hvs hop hcal
 obtain ⟨u1,r1,e3,q1,h3⟩:=zan h2
 have h3':r1=[]:=h3
 subst h3'
 obtain ⟨⟨fn,f1,f2,f3⟩,hcall⟩:=OKP.del g _ hdel
 have hrun:=zeZ (P:=P) (w:=w) hop hcal hF f1 f2 f3
 rw [e3,List.append_nil] at hrun
 refine ⟨_,hrun,?_⟩
 obtain ⟨ri,b,hri,hg,hlen,hsz,hrt,rfl,hcap,hown⟩:=zn7 H hm h0' q1
 have hmut:mutC (.row e (.int .i64) xs m):=by cases m <;> simp [zco,mutC] at b2 ⊢
 refine Calls.mono (hcall b ri.cap xs w hown h0' hl') ?_
 rintro q w' ⟨rfl,hown',hw,hoth⟩
 refine ⟨_,rfl,fun mu' hmu=>?_⟩
 obtain rfl:=zba hmu
 have hll:(zgM xs).length=xs.length:=List.length_mergeSort _
 obtain ⟨le,inv⟩:=H.turn (c1:=.row e (.int .i64) (ztQ xs) m) (w':=w') hm hmut hri hw (fun k hk hne=>hoth k hk (fun e=>hne (by rw [hg,e]))) (fun _ _ _ _ h h'=>by cases h; exact ⟨_,_,_,_,rfl,h'⟩) (fun σ' le hρ hw'=>by
  refine ⟨ri,hρ,by rw [hlen]; exact hll.symm,hsz,hrt,?_⟩
  have hr:ri=⟨some b,ri.cap,(zgM xs).length,1⟩:=by cases ri; simp only at hlen hsz hg ⊢; rw [hlen,hsz,hg]; exact congrArg (fun n=>RI.mk (some b) _ n 1) hll.symm
  rw [hr]
  refine zjb ?_
  rw [hw',hll]
  exact hown')
 exact ⟨_,le,inv,⟨[],rfl,rfl⟩⟩
theorem zkZ (OKP:POk P B.C) {mu:List (Nat×Cont)} {dead:List Nat} {ρ:Nat->Option RI} {w:World} (H:MInv B (zaa mu) dead ρ w) {f site:Nat} {o:Oper} {a:Act} {g:FuncId} {caps:List Cel} {r:List AV} {e:TypeId} {δ:zbl}
    (hdel:B.C.del g=some (.compact e)) (h:evD B.C f site o (.sv (.one (.fn g caps))::r) (zaa mu)=some (.inl δ)) (hvs:ARs (B.sit (zaa mu) ρ w) (.sv (.one (.fn g caps))::r) (o.op.operands.toList.map a.eval))
    {c0:Call} {F:Operand} (hop:o.op = .call c0) (hcal:c0.callee = .value F) :
    ∃ us:List Value,(execOp a.eval o).run P w = .ok (.enter g us.toArray) w/\Calls P g us.toArray w fun q w'=>∃ v,q = .returned v/\OpD B mu dead ρ w δ v w':=by
 unfold evD zdb at h
 rw [hop] at h
 dsimp only at h
 rw [hcal] at h
 dsimp only at h
 rw [hdel] at h
 dsimp only at h
 split at h
 case h_2=>cases h
 rename_i id
 split at h
 case h_2=>cases h
 rename_i e' xs m hm
 obtain ⟨hb,hq⟩:=zaj h
 clear h
 rw [Bool.and_eq_true] at hb
 obtain ⟨b1,b2⟩:=hb
 obtain rfl:=Nat.eq_of_beq_eq_true b1
 split at hq
 case isFalse=>cases hq
 rename_i h0
 split at hq
 case isFalse=>cases hq
 rename_i hlim
 cases hq
 have h0':0 < List.length (α:=Int) xs:=by simp only [dlen] at h0; exact Int.ofNat_lt.1 h0
 have hl':List.length (α:=Int) xs<=5000000000000:=by simp only [dlen] at hlim; exact Int.ofNat_le.1 hlim
 obtain ⟨hF,h2⟩:=zkY hvs hop hcal
 obtain ⟨u1,r1,e3,q1,h3⟩:=zan h2
 have h3':r1=[]:=h3
 subst h3'
 obtain ⟨⟨fn,f1,f2,f3⟩,hcall⟩:=OKP.del g _ hdel
 have hrun:=zeZ (P:=P) (w:=w) hop hcal hF f1 f2 f3
 rw [e3,List.append_nil] at hrun
 refine ⟨_,hrun,?_⟩
 obtain ⟨ri,b,hri,hg,hlen,hsz,hrt,rfl,hcap,hown⟩:=zn7 H hm h0' q1
 have hmut:mutC (.row e (.int .i64) xs m):=by cases m <;> simp [zco,mutC] at b2 ⊢
 refine Calls.mono (hcall b ri.cap xs w hown h0' hl') ?_
 rintro q w' ⟨rfl,hown',hw,hoth⟩
 refine ⟨_,rfl,fun mu' hmu=>?_⟩
 obtain ⟨h5,h6,rfl⟩:=zaN hmu
 obtain ⟨le,inv⟩:=H.swap (i1:=⟨some b,ri.cap,(zav xs).length,1⟩) (c1:=.row e (.int .i64) (ztR xs) m) (w':=w') hm hmut hri h5 h6 hw (fun k hk hne=>hoth k hk (fun e=>hne (by rw [hg,e])))
  (fun g' hg'=>by cases hg'; exact ⟨by have:=H.lt id ri b (by rw [hm]; simp) hri hg; have:=hw.2.2.2; omega,.inl hg⟩) (fun _ _ _ _ h h'=>by cases h; exact ⟨_,_,_,_,rfl,h'⟩) (fun σ' le hρ hw'=>by
   refine ⟨_,hρ,rfl,rfl,hrt,?_⟩
   refine zjb ?_
   rw [hw']
   exact hown')
 exact ⟨_,le,inv,⟨_,zaZ _ _ _,by simp [hdr0]⟩⟩
theorem zo1 (OKP:POk P B.C) {mu:List (Nat×Cont)} {dead:List Nat} {ρ:Nat->Option RI} {w:World} (H:MInv B (zaa mu) dead ρ w) {f site:Nat} {o:Oper} {a:Act} {g:FuncId} {caps:List Cel} {r:List AV} {e:TypeId} {δ:zbl}
    (hdel:B.C.del g=some (.grow e)) (h:evD B.C f site o (.sv (.one (.fn g caps))::r) (zaa mu)=some (.inl δ)) (hvs:ARs (B.sit (zaa mu) ρ w) (.sv (.one (.fn g caps))::r) (o.op.operands.toList.map a.eval))
    {c0:Call} {F:Operand} (hop:o.op = .call c0) (hcal:c0.callee = .value F) :
    ∃ us:List Value,(execOp a.eval o).run P w = .ok (.enter g us.toArray) w/\Calls P g us.toArray w fun q w'=>∃ v,q = .returned v/\OpD B mu dead ρ w δ v w':=by
 unfold evD zdb at h
 rw [hop] at h
 dsimp only at h
 rw [hcal] at h
 dsimp only at h
 rw [hdel] at h
 dsimp only at h
 split at h
 case h_2=>cases h
 rename_i k n
 split at h
 case h_2=>cases h
 rename_i tie hT
 split at h
 case h_2=>cases h
 rename_i te hte
 obtain ⟨b1,hq⟩:=zaj h
 clear h
 obtain rfl:=zcR b1
 split at hq
 case isFalse=>cases hq
 rename_i h0
 split at hq
 case isFalse=>cases hq
 rename_i hlim
 cases hq
 obtain ⟨hF,h2⟩:=zkY hvs hop hcal
 obtain ⟨u1,r1,e3,q1,h3⟩:=zan h2
 obtain ⟨u2,r2,e4,q2,h4⟩:=zan h3
 have h4':r2=[]:=h4
 subst h4'
 subst e4
 have q1':u1 = .slice none 0 0:=by have:CR (B.sit (zaa mu) ρ w) .nilsl u1:=q1; simpa only [CR] using this
 have q2':u2 = .int .i64 n:=q2
 subst q1' q2'
 obtain ⟨tie',te',hT',hte',⟨fn,f1,f2,f3⟩,hcall⟩:=OKP.del g _ hdel
 obtain rfl:=Option.some.inj (hT.symm.trans hT')
 obtain rfl:=Option.some.inj (hte.symm.trans hte')
 have hrun:=zeZ (P:=P) (w:=w) hop hcal hF f1 f2 f3
 rw [e3,List.append_nil] at hrun
 refine ⟨_,hrun,?_⟩
 refine Calls.mono (hcall n w h0 hlim) ?_
 rintro q w' ⟨A,cap,rfl,hown',hw,hoth⟩
 refine ⟨_,rfl,fun mu' hmu=>?_⟩
 obtain ⟨h5,h6,rfl⟩:=zaN hmu
 obtain ⟨_,hor⟩:=hown'
 rcases hor with ⟨hv,_⟩ | ⟨b,cap',cur,hv,hb,hh,hcap,hmx,hcs,_⟩
 · simp only [Value.slice.injEq,true_and] at hv
   obtain ⟨rfl,rfl⟩:=hv
   obtain ⟨le,inv⟩:=H.add (i:=⟨none,0,0,te.size⟩) (c:=.row e te [] .own) (w':=w') h5 h6 hw (fun k hk=>hoth k hk) (fun g' hg'=>by cases hg') (fun σ' le hρ hw'=>⟨_,hρ,rfl,rfl,⟨tie,hT,hte⟩,rfl⟩)
   exact ⟨_,le,inv,⟨_,zaZ _ _ _,by simp [hdr0]⟩⟩
 · simp only [Value.slice.injEq,true_and] at hv
   obtain ⟨rfl,rfl⟩:=hv
   obtain ⟨le,inv⟩:=H.add (i:=⟨some b,cap,0,te.size⟩) (c:=.row e te [] .own) (w':=w') h5 h6 hw (fun k hk=>hoth k hk) (fun g' hg'=>by cases hg'; exact ⟨hb,(Array.getElem?_eq_some_iff.1 hh).1⟩) (fun σ' le hρ hw'=>⟨_,hρ,rfl,rfl,⟨tie,hT,hte⟩,by
    simp only [RowR]
    refine ⟨cur,by rw [hw']; exact hh,Nat.zero_le _,hmx,hcs,?_⟩
    rw [show List.length ([]:List te.den)*te.size=0 by simp,List.take_zero]
    rfl⟩)
   exact ⟨_,le,inv,⟨_,zaZ _ _ _,by simp [hdr0]⟩⟩
theorem zqd (OKP:POk P B.C) {mu:List (Nat×Cont)} {dead:List Nat} {ρ:Nat->Option RI} {w:World} (H:MInv B (zaa mu) dead ρ w) {f site:Nat} {o:Oper} {a:Act} {g:FuncId} {caps:List Cel} {r:List AV} {e:TypeId} {sz:Nat} {δ:zbl}
    (hdel:B.C.del g=some (.del e sz)) (h:evD B.C f site o (.sv (.one (.fn g caps))::r) (zaa mu)=some (.inl δ)) (hvs:ARs (B.sit (zaa mu) ρ w) (.sv (.one (.fn g caps))::r) (o.op.operands.toList.map a.eval))
    {c0:Call} {F:Operand} (hop:o.op = .call c0) (hcal:c0.callee = .value F) :
    ∃ us:List Value,(execOp a.eval o).run P w = .ok (.enter g us.toArray) w/\Calls P g us.toArray w fun q w'=>∃ v,q = .returned v/\OpD B mu dead ρ w δ v w':=by
 unfold evD zdb at h
 rw [hop] at h
 dsimp only at h
 rw [hcal] at h
 dsimp only at h
 rw [hdel] at h
 dsimp only at h
 split at h
 case h_2=>cases h
 rename_i id k i k' j
 split at h
 case h_2=>cases h
 rename_i e' t xs m hm
 obtain ⟨hb,hq⟩:=zaj h
 clear h
 simp only [Bool.and_eq_true] at hb
 obtain ⟨⟨b1,b2⟩,b3,b4,b5⟩:=hb
 obtain rfl:=Nat.eq_of_beq_eq_true b1
 have b2:=Nat.eq_of_beq_eq_true b2
 subst b2
 obtain rfl:=zcR b4
 obtain rfl:=zcR b5
 split at hq
 case isFalse=>cases hq
 rename_i hi0
 split at hq
 case isFalse=>cases hq
 rename_i hin
 split at hq
 case isFalse=>cases hq
 rename_i hj
 split at hq
 case isFalse=>cases hq
 rename_i hlim
 cases hq
 obtain ⟨hF,h2⟩:=zkY hvs hop hcal
 obtain ⟨u1,r1,e3,q1,h3⟩:=zan h2
 obtain ⟨u2,r2,e4,q2,h4⟩:=zan h3
 obtain ⟨u3,r3,e5,q3,h5⟩:=zan h4
 have h5':r3=[]:=h5
 subst h5'
 subst e5 e4
 have q2':u2 = .int .i64 i:=q2
 have q3':u3 = .int .i64 j:=q3
 subst q2' q3'
 obtain ⟨⟨fn,f1,f2,f3⟩,hcall⟩:=OKP.del g _ hdel
 have hrun:=zeZ (P:=P) (w:=w) hop hcal hF f1 f2 f3
 rw [e3,List.append_nil] at hrun
 refine ⟨_,hrun,?_⟩
 obtain ⟨ri,hri,hlen,hsz,hrt,hrr⟩:=H.cont id _ hm
 have hx:hdr0 ri ri.len u1:=by
  have q1':CR (B.sit (zaa mu) ρ w) (.full id) u1:=q1
  simp only [CR] at q1'
  obtain ⟨ri',hri',hv⟩:=q1'
  obtain rfl:=Option.some.inj (hri.symm.trans hri')
  exact hv
 have hmut:mutC (.row e t xs m):=by cases m <;> simp [zco,mutC] at b3 ⊢
 cases hg:ri.g with
 | none =>
  simp only [RowR,hg] at hrr
  subst hrr
  simp [dlen] at hin
  omega
 | some b =>
  simp only [RowR,hg] at hrr
  obtain ⟨cur,hh,hcap,hmx,hcs,hk⟩:=hrr
  simp only [hdr0,hg] at hx
  subst hx
  obtain ⟨n,rfl⟩:=Int.eq_ofNat_of_zero_le hi0
  have hj':j=((n+1:Nat):Int):=by rw [hj]; simp [iadd]
  subst hj'
  have hn:n < xs.length:=by simp [dlen] at hin; omega
  have hl:xs.length<=5000000000000:=by simp [dlen] at hlim; omega
  have hone:∀ v∈cur.toList.take (xs.length*t.size),v.oneCell'=true:=by
   have:∀ (zs:List t.den) (vs:List Value),KL (KR (B.V (zaa mu) ρ w) w t) zs vs->∀ v∈vs,v.oneCell'=true:=by
    intro zs
    induction zs with
    | nil=>intro vs hv v hm; rw [show vs=[] from hv] at hm; simp at hm
    | cons z zs ih =>
     rintro vs ⟨a,b,rfl,ha,hb⟩ v hm
     rcases List.mem_append.1 hm with hm | hm
     · exact zh9 _ _ ((zcr (σ:=B.sit (zaa mu) ρ w) t z a).2 ha) v hm
     · exact ih b hb v hm
   exact this xs _ hk
  have hown:w.ownsRow 0 e t.size (.slice (some ⟨b,0,none⟩) xs.length ri.cap) xs.length (cur.toList.take (xs.length*t.size)) :=
   ⟨by rw [List.length_take]; show min _ cur.size=_; rw [hcs]; exact Nat.min_eq_left (Nat.mul_le_mul_right _ hcap),.inr ⟨b,ri.cap,cur,rfl,Nat.zero_le _,hh,hcap,hmx,hcs,rfl⟩⟩
  have hC:=hcall b ri.cap xs.length n (n+1) _ w hown hone rfl hn hl (by simp only [maxLen] at hmx; omega) hcap
  rw [hlen]
  refine Calls.mono hC ?_
  rintro q w' ⟨rfl,hown',hw,hoth⟩
  refine ⟨_,rfl,fun mu' hmu=>?_⟩
  obtain ⟨h5,h6,rfl⟩:=zaN hmu
  have hlen':(dapp (zio (itn (n:Int)) xs) (zlu (itn ((n+1:Nat):Int)) xs)).length=xs.length-1:=by
   simp only [dapp,zio,zlu,itn,List.length_append,List.length_take,List.length_drop,Int.toNat_natCast]
   omega
  obtain ⟨hl2,hor⟩:=hown'
  rcases hor with ⟨hbad,_⟩ | ⟨b',cap',cur',hv,_,hh',hcap',hmx',hcs',htk⟩
  · simp at hbad
  · simp only [Value.slice.injEq,Option.some.injEq,Addr.mk.injEq,and_true,true_and] at hv
    obtain ⟨rfl,rfl⟩:=hv
    obtain ⟨le,inv⟩:=H.swap (i1:=⟨some b,ri.cap,xs.length-1,t.size⟩) (c1:=.row e t (dapp (zio (itn (n:Int)) xs) (zlu (itn ((n+1:Nat):Int)) xs)) m) (w':=w') hm hmut hri h5 h6 hw (fun k _ hne=>hoth k (fun e=>hne (by rw [hg,e])))
     (fun g' hg'=>by cases hg'; exact ⟨by have:=H.lt id ri b (by rw [hm]; simp) hri hg; have:=hw.2.2.2; omega,.inl hg⟩) (fun _ _ _ _ h h'=>by cases h; exact ⟨_,_,_,_,rfl,h'⟩) (fun σ' le hρ hw'=>by
      refine ⟨_,hρ,hlen'.symm,rfl,hrt,?_⟩
      simp only [RowR]
      refine ⟨cur',by rw [hw']; exact hh',by rw [hlen']; exact hcap',hmx',hcs',?_⟩
      rw [hlen',htk]
      have k1:=(zcY t n hk (by omega)).1
      have k2:=(zcY t (n+1) hk (by omega)).2
      rw [show itn (n:Int)=n from rfl,show itn ((n+1:Nat):Int)=n+1 from rfl]
      exact KL.imp (KR.mono le.blk t) _ _ (zgn k1 k2))
    exact ⟨_,le,inv,⟨_,zaZ _ _ _,by simp [hdr0]⟩⟩
theorem zna (OKP:POk P B.C) {mu:List (Nat×Cont)} {dead:List Nat} {ρ:Nat->Option RI} {w:World} (H:MInv B (zaa mu) dead ρ w) {f site:Nat} {o:Oper} {a:Act} {g:FuncId} {caps:List Cel} {r:List AV} {op:zoF} {δ:zbl}
    (hdel:B.C.del g=some op) (h:evD B.C f site o (.sv (.one (.fn g caps))::r) (zaa mu)=some (.inl δ)) (hvs:ARs (B.sit (zaa mu) ρ w) (.sv (.one (.fn g caps))::r) (o.op.operands.toList.map a.eval))
    {c0:Call} {F:Operand} (hop:o.op = .call c0) (hcal:c0.callee = .value F) :
    ∃ us:List Value,(execOp a.eval o).run P w = .ok (.enter g us.toArray) w/\Calls P g us.toArray w fun q w'=>∃ v,q = .returned v/\OpD B mu dead ρ w δ v w':=by
 cases op with
 | del e sz=>exact zqd OKP H hdel h hvs hop hcal
 | sort e=>exact zo0 OKP H hdel h hvs hop hcal
 | compact e=>exact zkZ OKP H hdel h hvs hop hcal
 | grow e=>exact zo1 OKP H hdel h hvs hop hcal
theorem zkt (OKP:POk P B.C) (SF:SigFit B.C) (hΓ:Γ.on B.X B.w0) {pi:(g:FuncId)->List AV->Option (B.C.sig g).den} (hret:zs1 P B.C Γ pi) (f n:Nat):ziS P B pi f n:=by
 intro site o s ρ a w vs d H hvs hd
 have hARs:=ziI H.env hvs
 intro next Q hnext
 cases he:evD B.C f site o vs (zaa s.mu) with
 | none=>rw [he] at hd; exact hd.elim
 | some q =>
 rw [he] at hd
 cases q with
 | inl δ =>
  have hd':d=δ:=hd
  subst hd'
  by_cases hdel:∃ g caps r q,vs = .sv (.one (.fn g caps))::r/\B.C.del g=some q /\ ∃ c0 F,o.op = .call c0/\c0.callee = .value F
  · obtain ⟨g,caps,r,op,rfl,hdel,c0,F,hop,hcal⟩:=hdel
    obtain ⟨us,hrun,hcall⟩:=zna OKP H.inv hdel he hARs hop hcal
    unfold Oper.wp
    rw [hrun,Oper.upon_enter]
    refine Calls.mono hcall ?_
    rintro q w'' ⟨v,rfl,hod⟩
    exact hnext v w'' hod
  obtain ⟨v,w',hrun,hod⟩:=zrI OKP H.inv he hARs (fun g caps r hv c0 F hop hcal=>by
   cases hq:B.C.del g with
   | none=>rfl
   | some q=>exact absurd ⟨g,caps,r,q,hv,hq,c0,F,hop,hcal⟩ hdel)
  unfold Oper.wp
  rcases hrun with hrun | ⟨hrun,rfl⟩
  · rw [hrun]; exact hnext v w' hod
  · rw [hrun]; exact hnext _ w' hod
 | inr c =>
  obtain ⟨x,hx,rfl⟩ : ∃ x,pi c.g c.args=some x/\d=c.put x:=hd
  obtain ⟨c0,F,g,caps,vs',fn,l,fz,gv,ids,ed,hop,hcal,rfl,hfn,hh,hap,hini,hfr,rfl⟩:=zrP he
  dsimp only at hx hnext
  have hops:o.op.operands.toList=F::c0.args.toList:=by
   rw [hop]
   simp [Op.operands,Call.operands,hcal]
  rw [hops,List.map_cons] at hARs
  obtain ⟨u,r,e,h1,h2⟩:=zan hARs
  obtain ⟨e1,e2⟩:=List.cons.inj e
  subst e2
  have h1':CR (B.sit (zaa s.mu) ρ w) (.fn g caps) (a.eval F):=by rw [e1]; exact h1
  simp only [CR] at h1'
  obtain ⟨capsV,hF,hcaps⟩:=h1'
  have hus:=zks h2 (zn6 hcaps)
  generalize hvv:vs' ++ caps.map (fun c=>AV.sv (.one c))=args at *
  generalize huu:c0.args.toList.map a.eval++capsV=us at *
  unfold zpH at hini
  split at hini
  case h_2=>cases hini
  rename_i s0 hs0
  rw [Bool.and_eq_true] at hini
  unfold apart at hap
  rw [Bool.and_eq_true] at hap
  have hap2:((zcb (B.C.sig g).pars args++gv++zbD (B.C.sig g).pars args).any fun x=>((fz++ids)++zbE (zaa s.mu) (B.C.sig g).pars args).any (Nat.beq x))=false:=by
   have:=hap.2
   rw [Bool.not_eq_true'] at this
   exact this
  obtain ⟨E,k1,k2,k3,k4,k5⟩:=zgu (sn:=fz++ids) (rr:=zbE (zaa s.mu) (B.C.sig g).pars args) H.inv.cont 0 hh hus hs0 (fun id hid=>List.mem_append_left _ hid) (fun id hid=>List.mem_append_right _ hid) (fun id hid=>hid)
  have hnd:(olds E).Nodup:=k2.nodup_iff.2 (zb6 hap.1)
  have hapE:∀ y∈olds E,y ∉ (fz++ids)++zbE (zaa s.mu) (B.C.sig g).pars args:=fun y hy=>zlX hap2 (k2.mem_iff.1 hy)
  have hfz1:∀ id∈fz,id∈zis (B.C.sig g) fz ids:=by
   intro id hid
   unfold zis
   cases (B.C.sig g).outs.any RV.hasSl
   · exact hid
   · exact List.mem_append_left _ hid
  have hfz2:∀ id∈zis (B.C.sig g) fz ids,id∈fz++ids:=by
   intro id hid
   unfold zis at hid
   cases hs:(B.C.sig g).outs.any RV.hasSl
   · rw [hs] at hid; exact List.mem_append_left _ hid
   · rw [hs] at hid; exact hid
  have hids:((B.C.sig g).outs.any RV.hasSl=false) \/ ∀ id∈ids,id∈zis (B.C.sig g) fz ids:=by
   cases hs:(B.C.sig g).outs.any RV.hasSl
   · exact .inl rfl
   · right
     intro id hid
     unfold zis
     rw [hs]
     exact List.mem_append_right _ hid
  have hkeys:=zb6 hini.1
  have hall:=List.all_eq_true.1 hini.2
  obtain ⟨HM,hH⟩:=zoR H.inv hfr hfz1 hfz2 (noSl:=(B.C.sig g).outs.any RV.hasSl=false) hids k1 hkeys (by
      intro b e t xs m hb
      have:=hall _ hb
      dsimp only at this
      rw [Bool.and_eq_true] at this
      have h3:=this.2
      unfold isTy at h3
      split at h3
      · rename_i ti hT
        split at h3
        · rename_i τ hτ
          have:=Ty.beq_eq h3
          subst this
          exact ⟨ti,hT,hτ⟩
        · cases h3
      · cases h3) hnd hapE
  have hdead:s0.dead=[]:=k3
  unfold Oper.wp
  rw [zrQ OKP hop hcal hF hfn,huu,Oper.upon_enter]
  have hflags:zh7 B.C f site g=zb7 (B.C.sig g) (bif B.C.own f site then some .own else none):=rfl
  have hon:(bif B.C.own f site then some RMode.own else none)=none \/ (bif B.C.own f site then some RMode.own else none)=some .own:=by
   cases B.C.own f site <;> simp
  have hcall:=hret g l x hx _ _ _ w s0 (zhS E) us (bif B.C.own f site then some .own else none) (site*1000) hs0 (by rw [hdead]; exact HM) (by
      intro k a' hk
      have hnE:(E.map Prod.fst).Nodup:=by rw [k1.fst]; exact hkeys
      obtain ⟨_,u,h3,h4⟩:=k4 _ hH (fun y hy=>zgv hnE hy) k a' hk
      exact ⟨u,by simpa using h3,h4⟩) (by rw [zd3 hus,zmi k5]) ⟨hΓ.later H.inv,by
      intro g' hg
      have h3:=hΓ.2 g' hg
      have h4:=H.inv.ext.size
      refine ⟨by omega,?_⟩
      rintro ⟨⟨b,ri,a1⟩,hy,a',ha,hg'⟩
      have ha':a1=some a':=ha
      subst ha'
      obtain ⟨c',_,h5,h6⟩:=k1.back hy
      have h7:zaa s.mu a' ≠ none:=by
       rcases h6 with ⟨_,_,_,_,_,_,_,h6,_⟩ | ⟨_,_,_,_,h6,_⟩ <;> rw [h6] <;> simp
      rcases H.inv.own a' ri g' h7 h5 hg' with h | h
      · exact h3.2 h
      · omega⟩ hon (zkr _ _ _ _ fun rv hrv=>(SF g rv hrv).2).1
  refine Calls.mono hcall ?_
  intro e w'' hR
  cases e with
  | returned v =>
   refine hnext v w'' ?_
   have hb:=zqb H.inv hfr hfz2 k1 hkeys (fun y hy=>by
    have:=hall _ hy
    rw [Bool.and_eq_true] at this
    exact this.1) k2 hnd (fun y hy h=>hapE y hy (List.mem_append_left _ h)) k5 hR
   exact hb
  | panicked ch=>exact hR.elim
  | outgrown=>exact hR.elim
end
end Go.Proofs.YtdhkgmhdengnkaaGreatDoorPi
namespace Go.Proofs.YtdhkgmhdengnkaaGreatDoorPi
set_option linter.unusedVariables false
set_option linter.unusedSimpArgs false
open Go
def zdJ (P:Program) (C:Ctx) (Γ:Gr) (g:FuncId) (p:List AV->Option (C.sig g).den):Prop :=
 ∀ (args:List AV) (x:(C.sig g).den),p args=some x->∀ (X V0 R0:Nat->Prop) (w0:World) (s0:St) (ρ0:Nat->Option RI) (us:List Value) (o:Option RMode) (base:Nat),
  zcc 0 (C.sig g).pars args=some s0->MInv ⟨C,X,V0,w0,R0,ρ0⟩ (zaa s0.mu) s0.dead ρ0 w0 ->
  (∀ k a,zaa s0.env k=some a->∃ u,us[k]? = some u/\AR ((⟨C,X,V0,w0,R0,ρ0⟩ : Base).sit (zaa s0.mu) ρ0 w0) a u)->us.length=(C.sig g).pars.length->Γ.on X w0->(o=none \/ o=some .own) ->
  ((zaQ (zb7 (C.sig g) o) base (C.sig g).outs x).2.map Prod.fst).Nodup ->
  Calls P g us.toArray w0 fun
   | .returned v,w'=>Ret ⟨C,X,V0,w0,R0,ρ0⟩ (C.sig g) (zb7 (C.sig g) o) base x v w'
   | _,_=>False
def zsz (C:Ctx):Prop:=∀ f fn,C.fns f=some fn->(C.sig f).pars.length<=fn.ntmps
theorem SigFit.ok {C:Ctx} (h:SigFit C):ztZ C:=fun g rv hrv=>(h g rv hrv).1
theorem zn8 {P:Program} {C:Ctx} {Γ:Gr} (OKP:POk P C) (SF:SigFit C) (FF:zsz C) (hprim:∀ g p,C.prim g=some p->zdJ P C Γ g p):∀ k,zs1 P C Γ (PI C k)
 | 0=>by
  intro g args x h
  simp only [PI] at h
  cases h
 | k+1=>by
  have ih:=zn8 OKP SF FF hprim k
  intro g args x h
  simp only [PI,PI1] at h
  split at h
  · rename_i p hp
    exact hprim g p hp args x h
  · split at h
    · cases h
    · rename_i fn hfn
      split at h
      · cases h
      · rename_i c hc
        split at h
        · cases h
        · rename_i s hs
          intro X V0 R0 w0 s0 ρ0 us o base hs0 HM henv hlen hΓ ho hnd
          rw [hs] at hs0
          cases hs0
          have hsz:us.length<=fn.ntmps:=by rw [hlen]; exact FF g fn hfn
          have H0:StR ⟨C,X,V0,w0,R0,ρ0⟩ fn.ntmps s ρ0 { tmps:=us.toArray++Array.replicate (fn.ntmps-us.toArray.size) undef,defers:=[] } w0:=by
           refine ⟨HM,⟨by simp; omega,rfl,fun t v hv=>?_⟩,fun _ _ _=>rfl⟩
           obtain ⟨u,h1,h2⟩:=henv t v hv
           have:Act.eval { tmps:=us.toArray++Array.replicate (fn.ntmps-us.toArray.size) undef,defers:=[] } (.tmp t)=u:=by
            have hlt:=(List.getElem?_eq_some_iff.1 h1).1
            simp only [Act.eval,Array.getD_eq_getD_getElem?]
            rw [Array.getElem?_append_left (by simpa using hlt)]
            simp [h1]
           rw [this]
           exact h2
          have hstep:ziS P ⟨C,X,V0,w0,R0,ρ0⟩ (PI C k) g fn.ntmps:=zkt (B:=⟨C,X,V0,w0,R0,ρ0⟩) OKP SF hΓ ih g fn.ntmps
          refine calls_of_wp (OKP.fns g fn hfn) hc ?_
          refine wp_mono (zfM (B:=⟨C,X,V0,w0,R0,ρ0⟩) (pi:=PI C k) (zhE hstep OKP.mixed) k c s _ x ρ0 _ w0 h H0) ?_
          rintro e a' w' ⟨ex,s',ρ',he,H',hK⟩
          have fin:zlD C g fn s'=some x->a'.defers=[] /\ ∃ v,(results fn a'.tmps).run P w' = .ok v w' /\ Ret ⟨C,X,V0,w0,R0,ρ0⟩ (C.sig g) (zb7 (C.sig g) o) base x v w':=by
           intro hF
           exact ⟨H'.env.dfs,zhI (B:=⟨C,X,V0,w0,R0,ρ0⟩) OKP SF.ok H' hF ho hnd⟩
          cases ex with
          | normal =>
           have he':e = .normal:=he
           subst he'
           exact fin hK
          | exit i=>cases hK
          | ret =>
           have he':e = .ret:=he
           subst he'
           exact fin hK
end Go.Proofs.YtdhkgmhdengnkaaGreatDoorPi
namespace Go.Proofs.YtdhkgmhdengnkaaGreatDoorPi
set_option linter.unusedVariables false
set_option linter.unusedSimpArgs false
open Go
def zjc:List Cel->List Value->Bool
 | [],[]=>true
 | .int k n::cs,.int k' m::vs=>kbeq k k' && (n == m) && zjc cs vs
 | .bool b::cs,.bool b' :: vs=>(b == b') && zjc cs vs
 | .str s::cs,.string t::vs=>Nat.beq s.size 0 && Nat.beq t.size 0 && zjc cs vs
 | .nilsl::cs,.slice none 0 0::vs=>zjc cs vs
 | .nilp::cs,.pointer none::vs=>zjc cs vs
 | .junk::cs,v::vs=>v.oneCell' && zjc cs vs
 | _,_=>false
theorem zt0 {s t:ByteArray} (h:Nat.beq s.size 0=true) (k:Nat.beq t.size 0=true):s=t:=by
 have h:=Nat.eq_of_beq_eq_true h
 have k:=Nat.eq_of_beq_eq_true k
 obtain ⟨⟨a⟩⟩:=s
 obtain ⟨⟨b⟩⟩:=t
 have ha:a.length=0:=h
 have hb:b.length=0:=k
 rw [List.eq_nil_of_length_eq_zero ha,List.eq_nil_of_length_eq_zero hb]
theorem znb {σ:Sit}:∀ {cs:List Cel} {vs:List Value},zjc cs vs=true->CRs σ cs vs:=by
 intro cs
 induction cs with
 | nil=>intro vs h; cases vs with | nil=>simp [CRs] | cons v vs=>simp [zjc] at h
 | cons c cs ih =>
  intro vs h
  cases vs with
  | nil=>cases c <;> simp [zjc] at h
  | cons v vs =>
   unfold zjc at h
   split at h
   case h_1 e _=>cases e
   case h_2 k n _ k' m _ e1 e2 =>
    cases e1; cases e2
    simp only [Bool.and_eq_true,beq_iff_eq] at h
    obtain ⟨⟨h1,rfl⟩,h2⟩:=h
    obtain rfl:=zcR h1
    simp only [CRs]
    exact ⟨_,_,rfl,by simp [CR],ih h2⟩
   case h_3 e1 e2 =>
    cases e1; cases e2
    simp only [Bool.and_eq_true,beq_iff_eq] at h
    obtain ⟨rfl,h2⟩:=h
    simp only [CRs]
    exact ⟨_,_,rfl,by simp [CR],ih h2⟩
   case h_4 e1 e2 =>
    cases e1; cases e2
    simp only [Bool.and_eq_true] at h
    obtain ⟨⟨h0,h1⟩,h2⟩:=h
    obtain rfl:=zt0 h0 h1
    simp only [CRs]
    exact ⟨_,_,rfl,by simp [CR],ih h2⟩
   case h_5 e1 e2 =>
    cases e1; cases e2
    simp only [CRs]
    exact ⟨_,_,rfl,by simp [CR],ih h⟩
   case h_6 e1 e2 =>
    cases e1; cases e2
    simp only [CRs]
    exact ⟨_,_,rfl,by simp [CR],ih h⟩
   case h_7 e1 e2 =>
    cases e1; cases e2
    simp only [Bool.and_eq_true] at h
    simp only [CRs]
    exact ⟨_,_,rfl,by simpa [CR] using h.1,ih h.2⟩
   case h_8=>cases h
def zg8:Ty->List Value->Option (List Value)
 | .int k,.int k' n::r=>bif kbeq k k' && (n == 0) then some r else none
 | .bool,.bool b::r=>bif b then none else some r
 | .str,.string s::r=>bif Nat.beq s.size 0 then some r else none
 | .unit,r=>some r
 | .pair a b,vs=>match zg8 a vs with
  | some r=>zg8 b r
  | none=>none
 | .sl _ _,.slice none 0 0::r=>some r
 | _,_=>none
theorem znc {V:Nat->Prop} {w:World}:∀ (τ:Ty) {vs r:List Value},zg8 τ vs=some r->∃ p,vs=p++r/\KR V w τ τ.dflt p:=by
 intro τ
 induction τ with
 | int k =>
  intro vs r h
  cases vs with
  | nil=>simp [zg8] at h
  | cons v vs =>
   cases v <;> simp only [zg8] at h <;> try (cases h; done)
   obtain ⟨h1,h2⟩:=zaj h
   cases h2
   simp only [Bool.and_eq_true,beq_iff_eq] at h1
   obtain ⟨h1,rfl⟩:=h1
   obtain rfl:=zcR h1
   exact ⟨[_],rfl,by simp [KR,Ty.dflt]⟩
 | bool =>
  intro vs r h
  cases vs with
  | nil=>simp [zg8] at h
  | cons v vs =>
   cases v <;> simp only [zg8] at h <;> try (cases h; done)
   obtain ⟨h1,h2⟩:=ziF h
   cases h2
   subst h1
   exact ⟨[_],rfl,by simp [KR,Ty.dflt]⟩
 | str =>
  intro vs r h
  cases vs with
  | nil=>simp [zg8] at h
  | cons v vs =>
   cases v <;> simp only [zg8] at h <;> try (cases h; done)
   obtain ⟨h1,h2⟩:=zaj h
   cases h2
   rename_i s
   have:s=ByteArray.empty:=zt0 h1 (by rfl)
   subst this
   exact ⟨[_],rfl,by simp [KR,Ty.dflt]⟩
 | unit =>
  intro vs r h
  have h':some vs=some r:=by cases vs <;> exact h
  cases h'
  exact ⟨[],rfl,by simp [KR]⟩
 | pair a b iha ihb =>
  intro vs r h
  have h':(match zg8 a vs with | some r=>zg8 b r | none=>none)=some r:=by cases vs <;> exact h
  split at h'
  · rename_i q hq
    obtain ⟨p1,rfl,h1⟩:=iha hq
    obtain ⟨p2,rfl,h2⟩:=ihb h'
    exact ⟨p1++p2,by simp,by simp only [KR]; exact ⟨p1,p2,rfl,h1,h2⟩⟩
  · cases h'
 | sl e t _ =>
  intro vs r h
  unfold zg8 at h
  split at h <;> first | (rename_i e1 _; cases e1; done) | skip
  all_goals first
   | (rename_i hx; cases hx; done)
   | (rename_i r' e1 e2
      cases e2
      cases h
      exact ⟨[_],rfl,by simp only [KR,Ty.dflt]; exact ⟨none,0,rfl,Nat.le_refl _,.inl rfl⟩⟩)
   | cases h
end Go.Proofs.YtdhkgmhdengnkaaGreatDoorPi
namespace Go.Proofs.YtdhkgmhdengnkaaGreatDoorPi
set_option linter.unusedVariables false
set_option linter.unusedSimpArgs false
open Go Go.RowKit
theorem zn9 {C:Ctx} {e:TypeId} {t:Ty} (h:isTy (C.T e) t=true):zjV C e t:=by
 unfold isTy at h
 split at h
 · rename_i ti hT
   split at h
   · rename_i τ hτ
     obtain rfl:=Ty.beq_eq h
     exact ⟨ti,hT,hτ⟩
   · cases h
 · cases h
def zg9 (P:Program):List (Nat×Nat×Bool)->List Field->Bool
 | [],_=>true
 | (off,size,agg)::r,f::fs=>Nat.beq f.offset off && (match P.info? f.type with | some fi=>Nat.beq fi.size size | none=>false) && (match P.underlying f.type with | some fd=>aggD fd == agg | none=>false) && zg9 P r fs
 | _::_,[]=>false
theorem zgC {P:Program}:∀ {l:List (Nat×Nat×Bool)} {fs:List Field},zg9 P l fs=true->∀ (i off size:Nat) (agg:Bool),l[i]? = some (off,size,agg) ->
    ∃ f,fs[i]? = some f/\f.offset=off/\(∃ fi,P.info? f.type=some fi/\fi.size=size) /\ ∃ fd,P.underlying f.type=some fd/\aggD fd=agg
 | [],_,_,i,off,size,agg,h=>by simp at h
 | (o,s,a)::r,[],h,_,_,_,_,_=>by simp [zg9] at h
 | (o,s,a)::r,f::fs,h,i,off,size,agg,hi=>by
  simp only [zg9,Bool.and_eq_true] at h
  obtain ⟨⟨⟨h1,h2⟩,h3⟩,h4⟩:=h
  cases i with
  | succ i =>
   obtain ⟨f',k1,k2⟩:=zgC h4 i off size agg (by simpa using hi)
   exact ⟨f',by simpa using k1,k2⟩
  | zero =>
   simp at hi
   obtain ⟨rfl,rfl,rfl⟩:=hi
   refine ⟨f,rfl,Nat.eq_of_beq_eq_true h1,?_,?_⟩
   · split at h2
     · rename_i fi hf; exact ⟨fi,hf,Nat.eq_of_beq_eq_true h2⟩
     · cases h2
   · split at h3
     · rename_i fd hf; exact ⟨fd,hf,by simpa using h3⟩
     · cases h3
def zha:List (Nat×Nat×Bool)->List (Nat×Nat)->Bool
 | [],_=>true
 | (off,size,_)::r,(o,s)::ps=>Nat.beq off o && Nat.beq size s && zha r ps
 | _::_,[]=>false
theorem zgD:∀ {l:List (Nat×Nat×Bool)} {ps:List (Nat×Nat)},zha l ps=true->∀ (i off size:Nat) (agg:Bool),l[i]? = some (off,size,agg)->ps[i]? = some (off,size)
 | [],_,_,i,off,size,agg,h=>by simp at h
 | (o,s,a)::r,[],h,_,_,_,_,_=>by simp [zha] at h
 | (o,s,a)::r,(o',s')::ps,h,i,off,size,agg,hi=>by
  simp only [zha,Bool.and_eq_true] at h
  cases i with
  | succ i=>simpa using zgD h.2 i off size agg (by simpa using hi)
  | zero =>
   simp at hi
   obtain ⟨rfl,rfl,rfl⟩:=hi
   have h1:=Nat.eq_of_beq_eq_true h.1.1
   have h2:=Nat.eq_of_beq_eq_true h.1.2
   subst h1 h2
   rfl
def zt1 (P:Program) (t:TypeId) (ti:TI):Bool:=match P.info? t with
 | some inf=>Nat.beq inf.size ti.size && Nat.beq inf.bytes ti.bytes && (match inf.zero with
  | some z=>zjc ti.zero z.cells.toList && (match ti.ty with
   | some τ=>(match zg8 τ z.cells.toList with | some []=>true | _=>false)
   | none=>true)
  | none=>false)
 | none=>false
def tyB:Option Ty->TypeDesc->Bool
 | some (.int k),.int k'=>kbeq k k'
 | some (.int _),_=>false
 | some .str,.string=>true
 | some .str,_=>false
 | some .bool,.bool=>true
 | some .bool,_=>false
 | _,_=>true
theorem zs3 {k:IntKind} {d:TypeDesc} (h:tyB (some (.int k)) d=true):d = .int k:=by
 cases d <;> first | (exact congrArg _ (zcR h).symm) | cases h
theorem zs4 {d:TypeDesc} (h:tyB (some .str) d=true):d = .string:=by cases d <;> first | rfl | cases h
theorem zrR {d:TypeDesc} (h:tyB (some .bool) d=true):d = .bool:=by cases d <;> first | rfl | cases h
def zt2:Option TypeId->TypeDesc->Bool
 | none,_=>true
 | some e,.slice e'=>Nat.beq e e'
 | some _,_=>false
theorem zo2 {e:TypeId} {d:TypeDesc} (h:zt2 (some e) d=true):d = .slice e:=by
 cases d <;> first | (exact congrArg _ (Nat.eq_of_beq_eq_true h).symm) | cases h
def zqe (P:Program) (l:List (Nat×Nat×Bool)) (d:TypeDesc):Bool:=match l,d with
 | [],_=>true
 | l,.struct fs=>zg9 P l fs.toList && (match fs.toList.mapM (fun f=>(P.info? f.type).map fun i=>(f.offset,i.size)) with
  | some places=>zha l places
  | none=>false)
 | _,_=>false
def zt3 (P:Program) (t:TypeId) (ti:TI):Bool:=match P.underlying t with
 | some d=>(ti.agg == aggD d) && zt2 ti.elem d && zqe P ti.fields d && tyB ti.ty d
 | none=>false
def zt4 (P:Program) (C:Ctx) (ti:TI):Bool :=
 (match ti.ty with | some (.sl e τ)=>isTy (C.T e) τ | _=>true) && (match ti.elem with | some e=>(P.info? e).isSome | none=>true) &&
 (match ti.elem,ti.ty with | some e,some (.sl e' _)=>Nat.beq e' e | _,_=>true) && (match ti.ty with | some τ=>Nat.beq τ.size ti.size | none=>true)
def zrS (P:Program):Nat->List Field->Bool
 | _,[]=>true
 | i,f::fs=>!(f.name == "_") && Nat.beq f.offset i && (match P.underlying f.type with | some (.int _)=>true | _=>false) && zrS P (i+1) fs
theorem zjd {P:Program}:∀ {fs:List Field} {i:Nat},zrS P i fs=true->∀ (j:Nat) (f:Field),fs[j]? = some f->f.name ≠ "_" /\ f.offset=i+j /\ ∃ k,P.underlying f.type=some (.int k)
 | [],_,_,j,f,h=>by simp at h
 | g::fs,i,h,j,f,hj=>by
  simp only [zrS,Bool.and_eq_true] at h
  obtain ⟨⟨⟨h1,h2⟩,h3⟩,h4⟩:=h
  cases j with
  | succ j =>
   have:=zjd h4 j f (by simpa using hj)
   rw [show i+(j+1)=i+1+j by omega]; exact this
  | zero =>
   simp at hj
   subst hj
   refine ⟨by simpa using h1,Nat.eq_of_beq_eq_true h2,?_⟩
   split at h3
   · rename_i k hk; exact ⟨k,hk⟩
   · cases h3
def eqB (P:Program) (t:TypeId) (ti:TI):Bool:=!ti.eq || (match P.underlying t with
 | some (.struct fs)=>Nat.beq fs.toList.length ti.size && zrS P 0 fs.toList && !(P.stoodInHeld t) && !(P.eqGuardType P.depth t)
 | _=>false)
def tokB (P:Program) (C:Ctx) (t:TypeId) (ti:TI):Bool:=zt1 P t ti && zt3 P t ti && zt4 P C ti && eqB P t ti
theorem zo3 {P:Program} {C:Ctx} {t:TypeId} {ti:TI} (h:tokB P C t ti=true):TOk P C t ti:=by
 unfold tokB at h
 rw [Bool.and_eq_true,Bool.and_eq_true,Bool.and_eq_true] at h
 obtain ⟨⟨⟨h1,h2⟩,h3⟩,hq⟩:=h
 unfold zt4 at h3
 simp only [Bool.and_eq_true] at h3
 obtain ⟨⟨⟨r1,r2⟩,r3⟩,r4⟩:=h3
 unfold zt3 at h2
 split at h2
 case h_2=>cases h2
 rename_i d hd
 simp only [Bool.and_eq_true] at h2
 obtain ⟨⟨⟨d1,d2⟩,d3⟩,d4⟩:=h2
 have hst:ti.fields=[] \/ ∃ fs,d = .struct fs/\zg9 P ti.fields fs.toList=true /\ ∃ places,fs.toList.mapM (fun f=>(P.info? f.type).map fun i=>(f.offset,i.size))=some places/\zha ti.fields places=true:=by
  unfold zqe at d3
  split at d3
  · exact .inl (by assumption)
  · rename_i l fs _
    right
    rw [Bool.and_eq_true] at d3
    refine ⟨fs,rfl,d3.1,?_⟩
    have d5:=d3.2
    split at d5
    · rename_i places hp; exact ⟨places,hp,d5⟩
    · cases d5
  · cases d3
 refine ⟨?_,⟨d,hd,by simpa using d1,?_,?_,?_,?_,?_⟩,?_,?_,?_,?_,?_,?_⟩
 · unfold zt1 at h1
   split at h1
   · rename_i inf hinf
     simp only [Bool.and_eq_true] at h1
     obtain ⟨⟨i1,i2⟩,i3⟩:=h1
     split at i3
     · rename_i z hz
       rw [Bool.and_eq_true] at i3
       refine ⟨inf,z,hinf,Nat.eq_of_beq_eq_true i1,Nat.eq_of_beq_eq_true i2,hz,fun σ=>znb i3.1,fun τ hτ V w=>?_⟩
       have i4:=i3.2
       rw [hτ] at i4
       dsimp only at i4
       split at i4
       · rename_i hq
         obtain ⟨p,hp,hk⟩:=znc (V:=V) (w:=w) τ hq
         rw [List.append_nil] at hp
         rw [hp]
         exact hk
       · cases i4
     · cases i3
   · cases h1
 · intro e he
   rw [he] at d2
   exact zo2 d2
 · intro i off size agg hi
   rcases hst with h | ⟨fs,rfl,h4,_⟩
   · rw [h] at hi; simp at hi
   · obtain ⟨f,k1,k2⟩:=zgC h4 i off size agg hi
     exact ⟨fs,f,rfl,by simpa using k1,k2⟩
 · intro k hk
   rw [hk] at d4
   exact zs3 d4
 · intro hk
   rw [hk] at d4
   exact zs4 d4
 · intro hk
   rw [hk] at d4
   exact zrR d4
 · intro hne
   rcases hst with h | ⟨fs,rfl,_,places,h5,h6⟩
   · rw [h] at hne; cases hne
   · exact ⟨fs,hd,places,h5,zgD h6⟩
 · intro e τ hτ
   rw [hτ] at r1
   exact zn9 r1
 · intro e he
   rw [he] at r2
   dsimp only at r2
   cases hx:P.info? e with
   | none=>rw [hx] at r2; cases r2
   | some ei=>exact ⟨ei,rfl⟩
 · intro e e' τ he hτ
   rw [he,hτ] at r3
   exact Nat.eq_of_beq_eq_true r3
 · intro τ hτ
   rw [hτ] at r4
   exact Nat.eq_of_beq_eq_true r4
 · intro he
   unfold eqB at hq
   rw [he,Bool.not_true,Bool.false_or] at hq
   split at hq
   · rename_i fs hfs
     have hfo:P.fieldsOf t=fs:=by simp [Program.fieldsOf,hfs]
     simp only [Bool.and_eq_true] at hq
     obtain ⟨⟨⟨q1,q2⟩,q3⟩,q4⟩:=hq
     rw [hfo]
     exact ⟨hfs,by simpa using q3,by simpa using q4,Nat.eq_of_beq_eq_true q1,fun i f hf=>by
      have:=zjd q2 i f hf
      rwa [Nat.zero_add] at this⟩
   · cases hq
structure Tab where
 T:List (Nat×TI)
 F:List (Nat×Func)
 S:List (Nat×Sig)
 H:List (Nat×List (Nat×Keep))
def Tab.sig (t:Tab) (f:FuncId):Sig:=match zaa t.S f with | some s=>s | none=>⟨[],false,[]⟩
def Tab.hint (t:Tab) (f:FuncId) (r:Nat):Option Keep:=match zaa t.H f with | some l=>zaa l r | none=>none
def Tab.ctx (t:Tab) (prim:(f:FuncId)->Option (List AV->Option (t.sig f).den)) (own:FuncId->Nat->Bool) (del:List (Nat×zoF)):Ctx:=⟨zaa t.T,zaa t.F,t.sig,prim,t.hint,own,zaa del⟩
def zs5 (C:Ctx):RC->Bool
 | .dat _=>true
 | .row e t=>isTy (C.T e) t
def rvB (C:Ctx):RV->Bool
 | .one c=>zs5 C c
 | .agg cs=>(cs.all (zs5 C)) && Nat.ble cs.length 20
theorem zje {C:Ctx} {c:RC} (h:zs5 C c=true):rcTy C c:=by
 intro e t hc
 subst hc
 exact zn9 h
theorem zqf {C:Ctx} {v:RV} (h:rvB C v=true):rvTy C v/\zqc v<=20:=by
 cases v with
 | one c=>exact ⟨zje h,by simp [zqc]⟩
 | agg cs =>
  simp only [rvB,Bool.and_eq_true] at h
  exact ⟨fun c hc=>zje (List.all_eq_true.1 h.1 c hc),Nat.le_of_ble_eq_true h.2⟩
def Tab.ok (t:Tab) (P:Program) (C:Ctx):Bool :=
 (t.T.all fun x=>tokB P C x.1 x.2) && (t.S.all fun x=>x.2.outs.all (rvB C)) &&
 (t.F.all fun x=>x.2.body.isSome && Nat.ble (t.sig x.1).pars.length x.2.ntmps)
structure Fits (P:Program) (C:Ctx):Prop where
 pok:POk P C
 sig:SigFit C
 fns:zsz C
theorem Tab.fits {t:Tab} {P:Program} {prim:(f:FuncId)->Option (List AV->Option (t.sig f).den)} {own:FuncId->Nat->Bool} {del:List (Nat×zoF)} (h:t.ok P (t.ctx prim own del)=true)
    (hf:t.F.map (fun x=>P.funcs[x.1]?)=t.F.map (fun x=>some x.2)) (hn:t.F.all (fun x=>!(x.2.name == "runtime.NumGoroutine"))=true) (hm:P.follows .mixedOrders=true) (hd:∀ g op,(g,op)∈del->zpP P (t.ctx prim own del) g op):Fits P (t.ctx prim own del):=by
 unfold Tab.ok at h
 rw [Bool.and_eq_true,Bool.and_eq_true] at h
 obtain ⟨⟨h1,h2⟩,h3⟩:=h
 have hmem:∀ f fn,zaa t.F f=some fn->(f,fn)∈t.F:=fun f fn h=>zaE h
 refine ⟨⟨fun ty ti hT=>?_,fun f fn hfn=>?_,fun f fn hfn=>?_,hm,fun g op h=>hd g op (zaE h)⟩,fun g rv hrv=>?_,fun f fn hfn=>?_⟩
 · exact zo3 (List.all_eq_true.1 h1 _ (zaE (show zaa t.T ty=some ti from hT)))
 · have:=hmem f fn hfn
   have e:∀ {l:List (Nat×Func)},l.map (fun x=>P.funcs[x.1]?)=l.map (fun x=>some x.2)->(f,fn)∈l->P.funcs[f]? = some fn:=by
    intro l
    induction l with
    | nil=>intro _ h; simp at h
    | cons y l ih =>
     intro he hm
     simp only [List.map_cons,List.cons.injEq] at he
     rcases List.mem_cons.1 hm with e | hm
     · cases e; exact he.1
     · exact ih he.2 hm
   exact e hf this
 · have h4:=List.all_eq_true.1 h3 _ (hmem f fn hfn)
   rw [Bool.and_eq_true] at h4
   have h5:=List.all_eq_true.1 hn _ (hmem f fn hfn)
   exact ⟨h4.1,by simpa using h5⟩
 · have hrv':rv∈(t.sig g).outs:=hrv
   unfold Tab.sig at hrv'
   split at hrv'
   · rename_i s hs
     exact zqf (List.all_eq_true.1 (List.all_eq_true.1 h2 _ (zaE hs)) rv hrv')
   · simp [Sig.outs,zjR] at hrv'
 · have h4:=List.all_eq_true.1 h3 _ (hmem f fn hfn)
   rw [Bool.and_eq_true] at h4
   exact Nat.le_of_ble_eq_true h4.2
theorem zer:∀ (args:List AV) (j:Nat),∃ s,zcc j (args.map fun _=>Par.val) args=some s/\s.mu=[]/\s.dead=[] /\ ∀ k a,zaa s.env k=some a->j<=k/\args[k-j]? = some a
 | [],j=>⟨⟨[],[],[]⟩,rfl,rfl,rfl,fun k a h=>by simp [zaa] at h⟩
 | v::vs,j=>by
  obtain ⟨s,h1,h2,h3,h4⟩:=zer vs (j+1)
  refine ⟨⟨(j,v)::s.env,s.mu,[]⟩,by simp only [List.map_cons,zcc,h1],h2,rfl,fun k a hk=>?_⟩
  by_cases hjk:j=k
  · subst hjk
    rw [zag] at hk
    cases hk
    exact ⟨Nat.le_refl _,by simp⟩
  · rw [zad _ _ hjk] at hk
    obtain ⟨h5,h6⟩:=h4 k a hk
    refine ⟨by omega,?_⟩
    rw [show k-j=k-(j+1)+1 by omega]
    simpa using h6
theorem zsA {σ:Sit}:∀ {l:List AV} {us:List Value} {k:Nat} {a:AV},ARs σ l us->l[k]? = some a->∃ u,us[k]? = some u/\AR σ a u
 | [],_,k,a,_,h=>by simp at h
 | x::l,_,0,a,⟨u,r,e,h1,h2⟩,h=>by subst e; simp at h; subst h; exact ⟨u,by simp,h1⟩
 | x::l,_,k+1,a,⟨u,r,e,h1,h2⟩,h=>by
  subst e
  obtain ⟨v,h3,h4⟩:=zsA h2 (by simpa using h)
  exact ⟨v,by simpa using h3,h4⟩
def zku (w:World):Sit:=⟨fun g=>g < w.heap.size,fun _=>none,w,fun _=>False⟩
theorem zqg {P:Program} {C:Ctx} {Γ:Gr} (F:Fits P C) (hprim:∀ g p,C.prim g=some p->zdJ P C Γ g p) {f:FuncId} {K:Nat} {args:List AV} {x:(C.sig f).den} (h:PI C K f args=some x)
    (hs:(C.sig f).pars=args.map fun _=>Par.val) (hr:(C.sig f).res.length=1) (he:zaQ (zb7 (C.sig f) none) 0 (C.sig f).outs x=([.one (.bool true)],[])) {w:World} {us:List Value} (hA:ARs (zku w) args us)
    (hQ:Γ.Q w) (hG:∀ g,Γ.G g->g < w.heap.size):Calls P f us.toArray w fun e w'=>e = .returned (.bool true)/\Below w.heap.size w w':=by
 obtain ⟨s0,h1,h2,h3,h4⟩:=zer args 0
 have hmu:zaa s0.mu=fun _=>none:=by rw [h2]; rfl
 have H:MInv ⟨C,fun _=>False,fun g=>g < w.heap.size,w,fun _=>False,fun _=>none⟩ (zaa s0.mu) s0.dead (fun _=>none) w:=by
  rw [hmu,h3]
  exact ⟨fun id c h=>(by cases h),fun id i h=>(by cases h),fun id id' i i' g h=>absurd rfl h,fun id i g h=>absurd rfl h,fun id i g h=>absurd rfl h,fun id e t xs m i g h=>(by cases h),Ext.refl _ _,fun g h=>h.elim⟩
 have hle:(zku w).Le ((⟨C,fun _=>False,fun g=>g < w.heap.size,w,fun _=>False,fun _=>none⟩ : Base).sit (zaa s0.mu) (fun _=>none) w) :=
  ⟨fun _ _ h=>(by cases h),fun g hg=>⟨⟨hg,.inl hg,fun id c i hc _ hi=>(by cases hi)⟩,rfl⟩,fun g hg=>hg.elim⟩
 have:=zn8 F.pok F.sig F.fns hprim K f args x h (fun _=>False) (fun g=>g < w.heap.size) (fun _=>False) w s0 (fun _=>none) us none 0 (by rw [hs]; exact h1) H
  (fun k a hk=>by
   obtain ⟨_,h5⟩:=h4 k a hk
   obtain ⟨u,h6,h7⟩:=zsA (ARs.mono hle _ _ hA) (by simpa using h5)
   exact ⟨u,h6,h7⟩) (by rw [zd3 hA,hs,List.length_map]) ⟨hQ,fun g hg=>⟨hG g hg,fun h=>h⟩⟩ (.inl rfl) (by
   show ((zaQ (zb7 (C.sig f) none) 0 (C.sig f).outs x).2.map Prod.fst).Nodup
   rw [he]; exact List.nodup_nil)
 refine Calls.mono this ?_
 intro e w' hR
 cases e with
 | returned v =>
  obtain ⟨muF,deadF,ρF,κ,HF,_,_,_,⟨us',hus,rfl⟩,_,_⟩:=hR
  rw [he,hr] at hus
  obtain ⟨u,r,rfl,h5,h6⟩:=hus
  have h6':r=[]:=h6
  subst h6'
  have h5':u = .bool true:=by
   simpa only [SR,CR] using h5
  subst h5'
  exact ⟨rfl,HF.ext.os,HF.ext.tape,HF.ext.output,HF.ext.size,fun g hg=>HF.ext.block g hg (fun h=>h)⟩
 | panicked ch=>exact hR.elim
 | outgrown=>exact hR.elim
end Go.Proofs.YtdhkgmhdengnkaaGreatDoorPi
namespace Go.Proofs.YtdhkgmhdengnkaaGreatDoorPi
set_option linter.unusedVariables false
set_option linter.unusedSimpArgs false
open Go Go.RowKit
theorem zae {a K:Nat} (h:a+1<=K):∃ q,K=q+1:=⟨K-1,by omega⟩
def bs (l:List Nat):ByteArray:=⟨(l.map UInt8.ofNat).toArray⟩
abbrev BA:=ByteArray
abbrev Fu:=Nat->Nat
abbrev i6:Ty:=.int .i64
abbrev vi (n:Int):AV:=.sv (.one (.int .i64 n))
abbrev vb (b:Bool):AV:=.sv (.one (.bool b))
abbrev vs (s:ByteArray):AV:=.sv (.one (.str s))
abbrev vl (e:TypeId) (t:Ty) (xs:List t.den):AV:=.sv (.one (.sl e t xs))
abbrev vf (id:Nat):AV:=.sv (.one (.full id))
abbrev vp (id off:Nat):AV:=.sv (.one (.ptr id off))
abbrev va (cs:List Cel):AV:=.sv (.agg cs)
abbrev tt:Bool:=true
abbrev ff:Bool:=false
abbrev ci (n:Int):Cel:=.int .i64 n
def ln {α:Type} (xs:List α):Int:=xs.length
def lnN {α:Type} (xs:List α):Nat:=xs.length
def sln (s:ByteArray):Int:=s.size
def iLt (x y:Int):Bool:=decide (x < y)
def iLe (x y:Int):Bool:=decide (x<=y)
def iGt (x y:Int):Bool:=decide (x > y)
def iGe (x y:Int):Bool:=decide (x >= y)
def ix {α β:Type} (i:Int) (xs:List α) (x:Option β):Option β:=if 0<=i then (if i < dlen xs then x else none) else none
def gd {β:Type} (c:Prop) [Decidable c] (x:Option β):Option β:=if c then x else none
def Ev {α:Type} (F:Fu->Option α) (r:α):Prop:=∃ N,∀ k:Fu,(∀ i,N<=k i)->F k=some r
def fset (k:Fu) (j v:Nat):Fu:=fun i=>bif Nat.beq i j then v else k i
def frs (S:List Nat) (k:Fu):Fu:=fun i=>bif S.any (Nat.beq i) then k i else k 0
theorem zs6 {i j:Nat} (h:i ≠ j):Nat.beq i j=false:=by
 cases hb:Nat.beq i j with
 | false=>rfl
 | true=>exact absurd (Nat.eq_of_beq_eq_true hb) h
theorem zmj {k:Fu} {j v:Nat} (h:k j=v):fset k j v=k:=by
 funext i
 unfold fset
 by_cases e:i=j
 · subst e; rw [Nat.beq_refl]; exact h.symm
 · rw [zs6 e]; rfl
theorem zs7 {N j v:Nat} {k:Fu} (h:∀ i,N<=k i) (hv:N<=v) (i:Nat):N<=fset k j v i:=by
 unfold fset
 cases Nat.beq i j with
 | true=>exact hv
 | false=>exact h i
theorem zt5 {N:Nat} {S:List Nat} {k:Fu} (h:∀ i,N<=k i) (i:Nat):N<=frs S k i:=by
 unfold frs
 cases S.any (Nat.beq i) with
 | true=>exact h i
 | false=>exact h 0
theorem evf {α:Type} {F G:Fu->Option α} {r:α} (h2:∀ (k:Fu) (K:Nat),64<=K->F (fset k 0 (K+1))=G (fun _=>K)) (H:Ev G r):Ev F r:=by
 obtain ⟨N,H⟩:=H
 refine ⟨max N 64+1,fun k hk=>?_⟩
 have h0:=hk 0
 obtain ⟨K,hK⟩:=zae (show 0+1<=k 0 by omega)
 rw [<- zmj (k:=k) hK,h2 k K (by omega)]
 exact H _ fun _=>by omega
theorem evl {α:Type} (S:List Nat) (j:Nat) {F G:Fu->Option α} {r:α} (h2:∀ (k:Fu) (m:Nat),64<=k 0->F (fset k (j+1) (m+1))=G (fset (frs S k) (j+1) m)) (H:Ev G r):Ev F r:=by
 obtain ⟨N,H⟩:=H
 refine ⟨max N 64+1,fun k hk=>?_⟩
 have h0:=hk 0
 have h1:=hk (j+1)
 obtain ⟨m,hm⟩:=zae (show 0+1<=k (j+1) by omega)
 rw [<- zmj (k:=k) hm,h2 k m (by omega)]
 exact H _ (zs7 (zt5 fun i=>by have:=hk i; omega) (by omega))
theorem S:(∀ {β:Type} {c:Prop} [Decidable c] {x:Option β},c->gd c x=x) /\
    (∀ {α β:Type} {i:Int} {xs:List α} {x:Option β},0<=i->i < (xs.length:Int)->ix i xs x=x) /\
    (∀ {a b:Int},a < b->iLt a b=true)/\(∀ {a b:Int},b<=a->iLt a b=false) /\
    (∀ {a b:Int},a<=b->iLe a b=true)/\(∀ {a b:Int},b < a->iLe a b=false) /\
    (∀ {a b:Int},b < a->iGt a b=true)/\(∀ {a b:Int},a<=b->iGt a b=false) /\
    (∀ {a b:Int},b<=a->iGe a b=true)/\(∀ {a b:Int},a < b->iGe a b=false) /\
    (∀ {a b:Int},a=b->(a == b)=true)/\(∀ {a b:Int},a ≠ b->(a == b)=false) /\
    (∀ {a b:Int},a ≠ b->(a != b)=true)/\(∀ {a b:Int},a=b->(a != b)=false) /\
    (∀ {x:Int},-9223372036854775808<=x->x<=9223372036854775807->W x=x) /\
    (∀ {α β:Type} (a:α) (f:α->Option β),(some a).bind f=f a) /\
    (∀ {α:Type} (l:List α),ln l=l.length)/\(∀ {α:Type} (l:List α),lnN l=l.length)/\(∀ s:ByteArray,sln s=s.size) /\
    (∀ {α:Type} [Decidable True] (a b:α),(if True then a else b)=a)/\(∀ {α:Type} [Decidable False] (a b:α),(if False then a else b)=b) /\
    ((true=true)=True)/\((false=true)=False)/\((!true)=false)/\((!false)=true) /\
    (∀ i:Nat,((i:Int)).toNat=i)/\(∀ i:Nat,((i:Int)+1)=((i+1:Nat):Int)) /\
    (∀ {α:Type} (z:α) (l:List α) (n:Nat),rd z l (n:Int)=l.getD n z):=by
 refine ⟨fun h=>if_pos h,fun h0 h1=>(if_pos h0).trans (if_pos h1),fun h=>decide_eq_true h,fun h=>decide_eq_false (by omega),fun h=>decide_eq_true h,fun h=>decide_eq_false (by omega),fun h=>decide_eq_true h,fun h=>decide_eq_false (by omega),fun h=>decide_eq_true h,fun h=>decide_eq_false (by omega),
  fun h=>beq_iff_eq.2 h,fun h=>beq_eq_false_iff_ne.2 h,fun h=>bne_iff_ne.2 h,fun h=>by subst h; exact bne_self_eq_false _,fun h1 h2=>by rw [W_eq]; unfold wrap64; omega,fun _ _=>rfl,fun _=>rfl,fun _=>rfl,fun _=>rfl,fun _ _=>if_pos trivial,fun _ _=>if_neg id,?_,?_,rfl,rfl,fun i=>by omega,fun i=>by omega,fun _ _ _=>rfl⟩
 · simp
 · simp
theorem dl {a b K:Nat} (h:b<=K) (hab:Nat.ble a b=true:=by rfl):a<=K:=Nat.le_trans (Nat.le_of_ble_eq_true hab) h
theorem dk {a b K:Nat} (h:b<=K+1) (hab:Nat.ble (a+1) b=true:=by rfl):a<=K:=Nat.le_of_succ_le_succ (Nat.le_trans (Nat.le_of_ble_eq_true hab) h)
end Go.Proofs.YtdhkgmhdengnkaaGreatDoorPi
namespace Go.Proofs.YtdhkgmhdengnkaaGreatDoorPi
set_option linter.unusedVariables false
set_option linter.unusedSimpArgs false
open Go Go.RowKit Go.ChangeShapes Go.WideShapes Go.Deep
set_option linter.unusedVariables false
def tyN:Nat->Ty
 | 0=>.unit
 | 1=>.int .i64
 | n+2=>.pair (.int .i64) (tyN (n+1))
def mkN:(n:Nat)->List Int->(tyN n).den
 | 0,_=>()
 | 1,zs=>zs.getD 0 0
 | n+2,zs=>(zs.getD 0 0,mkN (n+1) zs.tail)
theorem zsB {V:Nat->Prop} {w:World}:∀ (n:Nat) (zs:List Int),zs.length=n->KR V w (tyN n) (mkN n zs) (zs.map (Value.int .i64))
 | 0,zs,h=>by rw [List.eq_nil_of_length_eq_zero h]; rfl
 | 1,[z],_=>rfl
 | n+2,z::zs,h=>⟨[.int .i64 z],zs.map (Value.int .i64),rfl,rfl,zsB (n+1) zs (by simpa using h)⟩
theorem znd {w:World} {g o:Nat} {a b:List Value} (h:lies w g o a) (k:lies w g (o+a.length) b):lies w g o (a++b):=by
 intro j u hu
 by_cases hj:j < a.length
 · rw [List.getElem?_append_left hj] at hu
   exact h j u hu
 · rw [List.getElem?_append_right (by omega)] at hu
   have:=k _ u hu
   rwa [show o+a.length+(j-a.length)=o+j by omega] at this
theorem zqh {w:World} {g n:Nat}:∀ {L:List (List Int)} {o:Nat},(∀ zs∈L,zs.length=n)->(∀ i zs,L[i]? = some zs->lies w g (o+i*n) (zs.map (Value.int .i64))) ->
    lies w g o (L.flatMap fun zs=>zs.map (Value.int .i64))
 | [],o,_,_=>fun j u hu=>by simp at hu
 | zs::L,o,hl,h=>by
  rw [List.flatMap_cons]
  refine znd (by simpa using h 0 zs rfl) (zqh (fun z hz=>hl z (List.mem_cons_of_mem _ hz)) fun i zs' hi=>?_)
  have:=h (i+1) zs' (by simpa using hi)
  rw [List.length_map,hl zs List.mem_cons_self]
  rwa [show o+n+i*n=o+(i+1)*n by rw [Nat.add_mul]; omega]
theorem zt6 {V:Nat->Prop} {w:World} {n:Nat}:∀ {L:List (List Int)},(∀ zs∈L,zs.length=n)->KL (KR V w (tyN n)) (L.map (mkN n)) (L.flatMap fun zs=>zs.map (Value.int .i64))
 | [],_=>rfl
 | zs::L,h=>⟨zs.map (Value.int .i64),L.flatMap fun zs=>zs.map (Value.int .i64),by rw [List.flatMap_cons],zsB n zs (h zs List.mem_cons_self),zt6 fun z hz=>h z (List.mem_cons_of_mem _ hz)⟩
theorem zoa {V:Nat->Prop} {w:World} {k:IntKind}:∀ (ys:List Int),KL (KR V w (.int k)) ys (ys.map (Value.int k))
 | []=>rfl
 | y::ys=>⟨[.int k y],ys.map (Value.int k),rfl,rfl,zoa ys⟩
theorem zo4 {w:World} {a:Addr} {u:Value} (h:w.cell? a=some u):a.spot=none/\a.block < w.heap.size:=by
 unfold World.cell? at h
 split at h
 · rename_i c _ _ hb
   split at h
   · cases h
   · rename_i hs
     refine ⟨by cases hx:a.spot with | none=>rfl | some x=>rw [hx] at hs; simp at hs,?_⟩
     exact (Array.getElem?_eq_some_iff.1 hb).1
 · cases h
section
variable {H:Type} {enc:TypeId×Value->H} {P:Program} {w:World} {base:Nat} {spare:Nat->Bool} {held:Bool}
def Fit (P:Program) (t:TypeId) (d:DataW H):Prop:=∀ n∈d.weights P t,n<=reachBytes
theorem zsC {ts:List TypeId} {ds:List (DataW H)} (h:(DataW.weightsEach P ts ds).all (· <= reachBytes)=true) {j:Nat} {t:TypeId} {d:DataW H} (ht:ts[j]? = some t) (hd:ds[j]? = some d):Fit P t d:=by
 intro n hn
 have:=List.all_eq_true.1 h n (DataW.weights_mem_each ht hd n hn)
 simpa using this
theorem zs8 {t e:TypeId} {fuel:Nat} {cs:List Value} {x:DataW H×List MemPlace} (ht:P.underlying t=some (.slice e)) (h:DataW.trod enc P w base spare held fuel t cs=some x) (hw:Fit P t x.1) :
    (cs=[.slice none 0 0]) \/ ∃ a len cap,cs=[.slice (some a) len cap]/\len*P.bytesOf e<=reachBytes:=by
 rcases open_slice ht h with h0 | ⟨a,len,cap,m,n,D,Pl,hcs,hb,hl,hm,hmm,hx,hi⟩
 · exact .inl h0.1
 · refine .inr ⟨a,len,cap,hcs,?_⟩
   rw [hx] at hw
   have:=hw ((((List.range len).map D).length+((List.range (m-len)).map fun j=>D (len+j)).length)*P.bytesOf e) (by simp [DataW.weights,ht])
   refine Nat.le_trans (Nat.mul_le_mul_right _ ?_) this
   simp
theorem zsD {n b:Nat} (B:Nat) (h:n*b<=reachBytes) (hb:b=B):n*B<=140737488351232:=by
 subst hb
 exact Nat.le_trans h (by decide)
theorem zhJ {k:IntKind} {t e:TypeId} {fuel:Nat} {v:Value} {x:DataW H×List MemPlace} (ht:P.underlying t=some (.slice e)) (he:P.underlying e=some (.int k)) (hC:P.cellsOf e=1)
    (h:DataW.trod enc P w base spare held fuel t [v]=some x) (hw:Fit P t x.1) :
    ∃ zs:List Int,zs.length*P.bytesOf e<=reachBytes/\(∀ z∈zs,(Lit.int k z).wf=true)/\KR (zku w).V w (.sl e (.int k)) zs [v]:=by
 rcases open_ints ht he hC h with ⟨hcs,_⟩ | ⟨a,l,c,zs,hcs,_,hl,hm,hz,hx,hcell,hwz⟩
 · obtain rfl:v = .slice none 0 0:=by simpa using hcs
   exact ⟨[],by simp,by simp,by simp only [KR]; exact ⟨none,0,rfl,Nat.le_refl _,.inl rfl⟩⟩
 · obtain rfl:v = .slice (some a) l c:=by simpa using hcs
   have hfit:l*P.bytesOf e<=reachBytes:=by
    rcases zs8 ht h hw with h0 | ⟨a',l',c',h0,h1⟩
    · simp at h0
    · simp only [List.cons.injEq,Value.slice.injEq,and_true] at h0
      rw [h0.2.1]; exact h1
   have hlz:l<=zs.length:=by
    rw [hz]
    split
    · exact hl
    · exact Nat.le_refl _
   have hlen:(zs.take l).length=l:=by simp; omega
   refine ⟨zs.take l,by rw [hlen]; exact hfit,fun z hz'=>hwz z (List.mem_of_mem_take hz'),?_⟩
   show ∃ A c',[Value.slice (some a) l c]=[.slice A (List.length (α:=Int) (zs.take l)) c']/\List.length (α:=Int) (zs.take l)<=c' /\
    (List.length (α:=Int) (zs.take l)=0 \/ ∃ g o us,A=some ⟨g,o,none⟩/\(zku w).V g/\KL (KR (zku w).V w (.int k)) (zs.take l) us/\lies w g o us)
   refine ⟨some a,c,by rw [hlen],by rw [hlen]; exact hl,?_⟩
   rw [hlen]
   by_cases h0:l=0
   · exact .inl h0
   · right
     have hat:∀ j z,(zs.take l)[j]? = some z->w.cell? (a.add j)=some (.int k z):=by
      intro j z hj
      have hjl:j < l:=by
       rcases Nat.lt_or_ge j l with h1 | h1
       · exact h1
       · rw [List.getElem?_eq_none (by omega)] at hj
         cases hj
      rw [List.getElem?_take_of_lt hjl] at hj
      have:=hcell j (by omega)
      rw [List.getD_eq_getElem?_getD,hj] at this
      exact this
     have h2:∃ z,(zs.take l)[0]? = some z:=⟨(zs.take l)[0]'(by omega),List.getElem?_eq_getElem (by omega)⟩
     obtain ⟨z,hz0⟩:=h2
     have hc:=hat 0 z hz0
     rw [show a.add 0=a from rfl] at hc
     obtain ⟨hsp,hlt⟩:=zo4 hc
     obtain ⟨g,o,sp⟩:=a
     obtain rfl:sp=none:=hsp
     refine ⟨g,o,(zs.take l).map (Value.int k),rfl,hlt,?_,fun j u hu=>?_⟩
     · exact zoa (zs.take l)
     · rw [List.getElem?_map] at hu
       obtain ⟨z',hz',rfl⟩:=Option.map_eq_some_iff.1 hu
       have:=hat j z' hz'
       rwa [zbx] at this
theorem zfB {r:Reach} {b0:Nat} {t e:TypeId} {v:Value} {d:DataW H} {p:List MemPlace} (ht:P.underlying t=some (.slice e)) (hv:Value.okWide P w r b0 t v) (h:DataW.Trod enc P w base spare held t v d p) :
    ∃ fuel,DataW.trod enc P w base spare held fuel t [v]=some (d,p):=by
 obtain ⟨a,len,cap,rfl⟩:=okWide_slice ht hv
 exact h
end
end Go.Proofs.YtdhkgmhdengnkaaGreatDoorPi
namespace Go.Proofs.YtdhkgmhdengnkaaGreatDoorPi
set_option linter.unusedVariables false
set_option linter.unusedSimpArgs false
open Go Go.RowKit
theorem Ev.now {α:Type} (r:α):Ev (fun _=>some r) r:=⟨0,fun _ _=>rfl⟩
theorem Ev.bind {α β:Type} {g:Fu->Option α} {f:Fu->α->Option β} {v:α} {r:β} (h:Ev g v) (k:Ev (fun k=>f k v) r):Ev (fun k=>(g k).bind (f k)) r:=by
 obtain ⟨K,h⟩:=h
 obtain ⟨K',k⟩:=k
 exact ⟨max K K',fun n hn=>by dsimp only; rw [h n fun i=>by have:=hn i; omega]; exact k n fun i=>by have:=hn i; omega⟩
theorem zbK {α:Type} {r r':α} (h:r=r'):Ev (fun _=>some r) r':=h ▸ Ev.now r
theorem zs9 {α:Type} {x:Option α} {r:α} (h:x=some r):Ev (fun _=>x) r:=⟨0,fun _ _=>h⟩
theorem Ev.rounds {α:Type} {g:Fu->Option α} {r:α} (h:Ev g r):∃ K,g (fun _=>K)=some r:=by
 obtain ⟨K,h⟩:=h
 exact ⟨K,h _ fun _=>Nat.le_refl _⟩
theorem Ev.ite {α:Type} {c:Prop} [Decidable c] {g h:Fu->Option α} {r:α} (hg:c->Ev g r) (hh:¬ c->Ev h r):Ev (fun k=>if c then g k else h k) r:=by
 by_cases hc:c
 · obtain ⟨K,k⟩:=hg hc
   exact ⟨K,fun n hn=>by dsimp only; rw [if_pos hc]; exact k n hn⟩
 · obtain ⟨K,k⟩:=hh hc
   exact ⟨K,fun n hn=>by dsimp only; rw [if_neg hc]; exact k n hn⟩
theorem Ev.eq {α:Type} {g h:Fu->Option α} {r:α} (e:∀ k,g k=h k) (k:Ev h r):Ev g r:=by
 obtain ⟨K,k⟩:=k
 exact ⟨K,fun n hn=>by rw [e n]; exact k n hn⟩
theorem w64 {x:Int} (h1 : -9223372036854775808<=x) (h2:x<=9223372036854775807):W x=x:=by rw [W_eq]; unfold wrap64; omega
theorem zjf {p:Prop} [Decidable p] (h:¬ p):decide p=false:=decide_eq_false h
theorem zne {p q:Prop} [Decidable p] [Decidable q] (h:p ↔ q):decide p=decide q:=by by_cases hq:q <;> simp [h,hq]
theorem mulb {a b A B:Int} (a0:0<=a) (a1:a<=A) (b0:0<=b) (b1:b<=B):0<=a*b/\a*b<=A*B :=
 ⟨Int.mul_nonneg a0 b0,Int.mul_le_mul a1 b1 b0 (Int.le_trans a0 a1)⟩
theorem zhK {α:Type} (z:α) (l:List α) (n:Nat):rd z l (n:Int)=l.getD n z:=rfl
end Go.Proofs.YtdhkgmhdengnkaaGreatDoorPi
namespace Go.Proofs.YtdhkgmhdengnkaaGreatDoorPi
set_option linter.unusedVariables false
set_option linter.unusedSimpArgs false
open Go
def zta (b:Bool) (e:TypeId) (t:Ty) (x:List t.den):St:=⟨[(4,.sv (.one (.bool b))),(3,.sv (.one (.sl e t x))),(2,.sv (.one .nilsl)),(0,.sv (.one (.sl e t x)))],[],[]⟩
def zkv (C:Ctx) (g:FuncId) (fn:Func) (c2 c3:Code) (b:Bool) (e:TypeId) (t:Ty) (x:List t.den):Option (C.sig g).den :=
 zjU C (PI C 0) g fn.ntmps 1 c2 (zta b e t x) fun ex s=>match ex with
  | .normal=>zjU C (PI C 0) g fn.ntmps 1 c3 s (endK C g fn)
  | ex=>endK C g fn ex s
structure znf (P:Program) (fn:Func) (r0 r1:Nat) (o0 oa ob:Oper) (c2 c3:Code):Prop where
 body:fn.body=some (.seq (.region r0 #[o0] false) (.seq (.seq (.region r1 #[oa,ob] false) c2) c3))
 op0:o0.op = .assign (.const (.slice none 0 0))/\o0.dst=some 2/\o0.guard=none
 opa:oa.op = .move (.tmp 0)/\oa.dst=some 3/\oa.guard=none
 opb:∃ ts ty m e,ob.op = .binOp .eql ts (.tmp 3) (.const (.slice none 0 0)) m/\ob.dst=some 4/\ob.guard=none/\ob.type=ty/\P.underlying ts=some (.slice e)
 slots:5<=fn.ntmps
theorem ztb {P:Program} {id:Nat} {o:Oper} {Q:Exit->Act->World->Prop} {a:Act} {w:World} (hg:o.guard=none) (h:o.wp P a w (fun a' w'=>Q .normal a' w') Q):(Code.region id #[o] false).wp P Q a w:=by
 refine wp_region ?_
 show wpOps P #[o] Q [0] a w
 rw [wpOps_cons]
 unfold wpOp
 have:Region.wanted o (yielded #[o] a.tmps)=true:=by simp [Region.wanted,hg]
 simp only [List.getElem?_toArray,List.getElem?_cons_zero]
 rw [if_pos this]
 exact .inl h
theorem ztc {P:Program} {id:Nat} {o o':Oper} {Q:Exit->Act->World->Prop} {a:Act} {w:World} (hg:o.guard=none) (hg':o'.guard=none)
    (h:o.wp P a w (fun a' w'=>o'.wp P a' w' (fun a' w'=>Q .normal a' w') Q) Q):(Code.region id #[o,o'] false).wp P Q a w:=by
 refine wp_region ?_
 show wpOps P #[o,o'] Q [0,1] a w
 rw [wpOps_cons]
 unfold wpOp
 have:Region.wanted o (yielded #[o,o'] a.tmps)=true:=by simp [Region.wanted,hg]
 simp only [List.getElem?_toArray,List.getElem?_cons_zero]
 rw [if_pos this]
 refine .inl (Oper.wp_mono (fun a' w' h=>?_) h)
 rw [wpOps_cons]
 unfold wpOp
 have:Region.wanted o' (yielded #[o,o'] a'.tmps)=true:=by simp [Region.wanted,hg']
 simp only [List.getElem?_toArray,List.getElem?_cons_succ,List.getElem?_cons_zero]
 rw [if_pos this]
 exact .inl h
theorem ztd {P:Program} {C:Ctx} {Γ:Gr} (F:Fits P C) {g:FuncId} {fn:Func} (hfn:C.fns g=some fn) {r0 r1:Nat} {o0 oa ob:Oper} {c2 c3:Code} (A:znf P fn r0 r1 o0 oa ob c2 c3)
    {e:TypeId} {t:Ty} (hpar:(C.sig g).pars=[.val]) {p:List AV->Option (C.sig g).den}
    (hp:∀ args y,p args=some y->∃ x,args=[.sv (.one (.sl e t x))]/\zkv C g fn c2 c3 false e t x=some y/\(x=[]->zkv C g fn c2 c3 true e t []=some y)):zdJ P C Γ g p:=by
 intro args y hy X V0 R0 w0 s0 ρ0 us o base hs0 HM henv hlen hΓ ho hnd
 obtain ⟨x,rfl,hF,hT⟩:=hp args y hy
 have hret0:zs1 P C Γ (PI C 0):=by
  intro g args x h
  simp only [PI] at h
  cases h
 rw [hpar] at hs0
 simp only [zcc] at hs0
 cases hs0
 let B:Base:=⟨C,X,V0,w0,R0,ρ0⟩
 have hstep:ziS P B (PI C 0) g fn.ntmps:=zkt (B:=B) F.pok F.sig hΓ hret0 g fn.ntmps
 rw [hpar] at hlen
 obtain ⟨u,rfl⟩ : ∃ u,us=[u]:=by
  match us,hlen with
  | [u],_=>exact ⟨u,rfl⟩
 obtain ⟨u',hu',hAR⟩:=henv 0 _ rfl
 have e1:u=u':=by simpa using hu'
 subst e1
 have hn5:=A.slots
 have hCR:CR (B.sit (zaa ([]:List (Nat×Cont))) ρ0 w0) (.sl e t x) u:=hAR
 have hCR':=hCR
 simp only [CR,KR] at hCR'
 obtain ⟨Ad,cp,hu,hle,hxs⟩:=hCR'
 obtain rfl:u = .slice Ad (List.length (α:=t.den) x) cp:=by simpa using hu
 have hbody:=A.body
 refine calls_of_wp (F.pok.fns g fn hfn) hbody ?_
 generalize hact:({ tmps:=#[Value.slice Ad (List.length (α:=t.den) x) cp]++Array.replicate (fn.ntmps-(#[Value.slice Ad (List.length (α:=t.den) x) cp]:Array Value).size) undef,defers:=[] }:Act)=a0
 have hsz0:a0.tmps.size=fn.ntmps:=by rw [<- hact]; simp; omega
 have ha0:a0.eval (.tmp 0) = .slice Ad (List.length (α:=t.den) x) cp:=by
  rw [<- hact]
  simp only [Act.eval,Array.getD_eq_getD_getElem?]
  rw [Array.getElem?_append_left (by simp)]
  rfl
 -- the three operations
 have q0:o0.wp P a0 w0=fun next Q=>next (a0.put (some 2) (.slice none 0 0)) w0:=by
  funext next Q
  obtain ⟨h1,h2,h3⟩:=A.op0
  unfold Oper.wp
  have hr:(execOp a0.eval o0).run P w0 = .ok (.value (.slice none 0 0)) w0:=by simp only [execOp,h1]; rfl
  rw [hr,Oper.upon_value,h2]
 generalize ha1:a0.put (some 2) (.slice none 0 0)=a1
 have hsz1:a1.tmps.size=fn.ntmps:=by rw [<- ha1]; simp [Act.put,hsz0]
 have h10:a1.eval (.tmp 0) = .slice Ad (List.length (α:=t.den) x) cp:=by rw [<- ha0,<- ha1]; simp [Act.put,Act.eval,Array.getElem?_setIfInBounds_ne]
 have h12:a1.eval (.tmp 2) = .slice none 0 0:=by rw [<- ha1]; simp [Act.put,Act.eval,hsz0]; omega
 have qa:oa.wp P a1 w0=fun next Q=>next (a1.put (some 3) (.slice Ad (List.length (α:=t.den) x) cp)) w0:=by
  funext next Q
  obtain ⟨h1,h2,h3⟩:=A.opa
  unfold Oper.wp
  simp only [execOp,h1,h10,Sem.run_pure,Oper.upon_value,h2]
 generalize ha2:a1.put (some 3) (.slice Ad (List.length (α:=t.den) x) cp)=a2
 have hsz2:a2.tmps.size=fn.ntmps:=by rw [<- ha2]; simp [Act.put,hsz1]
 have h20:a2.eval (.tmp 0) = .slice Ad (List.length (α:=t.den) x) cp:=by rw [<- h10,<- ha2]; simp [Act.put,Act.eval,Array.getElem?_setIfInBounds_ne]
 have h22:a2.eval (.tmp 2) = .slice none 0 0:=by rw [<- h12,<- ha2]; simp [Act.put,Act.eval,Array.getElem?_setIfInBounds_ne]
 have h23:a2.eval (.tmp 3) = .slice Ad (List.length (α:=t.den) x) cp:=by rw [<- ha2]; simp [Act.put,Act.eval,hsz1]; omega
 have qb:ob.wp P a2 w0=fun next Q=>next (a2.put (some 4) (.bool Ad.isNone)) w0:=by
  funext next Q
  obtain ⟨ts,ty,m,e',h1,h2,h3,h4,h5⟩:=A.opb
  unfold Oper.wp
  have hg:(eqGuard .eql ts (.tmp 3) (.const (.slice none 0 0)) (.slice Ad (List.length (α:=t.den) x) cp) (.slice none 0 0)).run P w0 = .ok () w0:=rfl
  have hr:(execOp a2.eval ob).run P w0 = .ok (.value (.bool Ad.isNone)) w0:=by
   simp only [execOp,h1,h23]
   rw [show a2.eval (.const (.slice none 0 0)) = .slice none 0 0 from rfl]
   simp only [Sem.run_bind,hg,Result.andThen_ok,Lib.run_eql_slice_nil w0 ts e' Ad _ _ _ _ h5,Sem.run_pure]
  rw [hr,Oper.upon_value,h2]
 generalize ha3:a2.put (some 4) (.bool Ad.isNone)=a3
 have hsz3:a3.tmps.size=fn.ntmps:=by rw [<- ha3]; simp [Act.put,hsz2]
 have hdf:a3.defers=[]:=by rw [<- ha3,<- ha2,<- ha1,<- hact]; rfl
 have v0:a3.eval (.tmp 0) = .slice Ad (List.length (α:=t.den) x) cp:=by rw [<- h20,<- ha3]; simp [Act.put,Act.eval,Array.getElem?_setIfInBounds_ne]
 have v2:a3.eval (.tmp 2) = .slice none 0 0:=by rw [<- h22,<- ha3]; simp [Act.put,Act.eval,Array.getElem?_setIfInBounds_ne]
 have v3:a3.eval (.tmp 3) = .slice Ad (List.length (α:=t.den) x) cp:=by rw [<- h23,<- ha3]; simp [Act.put,Act.eval,Array.getElem?_setIfInBounds_ne]
 have v4:a3.eval (.tmp 4) = .bool Ad.isNone:=by rw [<- ha3]; simp [Act.put,Act.eval,hsz2]; omega
 have HM':MInv B (zaa ([]:List (Nat×Cont))) [] ρ0 w0:=HM
 have hst:∀ (b:Bool) (x':List t.den),b=Ad.isNone->CR (B.sit (zaa ([]:List (Nat×Cont))) ρ0 w0) (.sl e t x') (.slice Ad (List.length (α:=t.den) x) cp)->StR B fn.ntmps (zta b e t x') ρ0 a3 w0:=by
  intro b x' hb hx'
  refine ⟨HM',⟨hsz3,hdf,fun tm v hv=>?_⟩,fun id hi hm=>absurd rfl hm⟩
  have hm:=zaE hv
  simp only [zta,List.mem_cons,Prod.mk.injEq,List.not_mem_nil,or_false] at hm
  rcases hm with ⟨rfl,rfl⟩ | ⟨rfl,rfl⟩ | ⟨rfl,rfl⟩ | ⟨rfl,rfl⟩
  · rw [v4,hb]; show CR _ _ _; simp only [CR]
  · rw [v3]; exact hx'
  · rw [v2]; show CR _ _ _; simp only [CR]
  · rw [v0]; exact hx'
 have rest:∀ (b:Bool) (x':List t.den),b=Ad.isNone->CR (B.sit (zaa ([]:List (Nat×Cont))) ρ0 w0) (.sl e t x') (.slice Ad (List.length (α:=t.den) x) cp)->zkv C g fn c2 c3 b e t x'=some y ->
     c2.wp P (Exit.then (c3.wp P (bodyPost P fn fun | .returned v,w'=>Ret B (C.sig g) (zb7 (C.sig g) o) base y v w' | _,_=>False)) (bodyPost P fn fun | .returned v,w'=>Ret B (C.sig g) (zb7 (C.sig g) o) base y v w' | _,_=>False)) a3 w0:=by
  intro b x' hb hx' hrun
  have fin:∀ (ex:Ex) (s':St) (ρ':Nat->Option RI) (e':Exit) (a':Act) (w':World),ztY ex e'->StR B fn.ntmps s' ρ' a' w'->endK C g fn ex s'=some y->bodyPost P fn (fun | .returned v,w'=>Ret B (C.sig g) (zb7 (C.sig g) o) base y v w' | _,_=>False) e' a' w':=by
   intro ex s' ρ' e' a' w' he H' hK
   have fin:zlD C g fn s'=some y->a'.defers=[] /\ ∃ v,(results fn a'.tmps).run P w' = .ok v w' /\ Ret B (C.sig g) (zb7 (C.sig g) o) base y v w' :=
    fun hF=>⟨H'.env.dfs,zhI (B:=B) F.pok F.sig.ok H' hF ho hnd⟩
   cases ex with
   | normal=>obtain rfl:e' = .normal:=he; exact fin hK
   | exit i=>cases hK
   | ret=>obtain rfl:e' = .ret:=he; exact fin hK
  have hreg:zsY P B (PI C 0) g fn.ntmps:=zhE (B:=B) hstep F.pok.mixed
  refine wp_mono (zfM (B:=B) (pi:=PI C 0) hreg 1 c2 _ _ y ρ0 a3 w0 hrun (hst b x' hb hx')) ?_
  rintro e' a' w' ⟨ex,s',ρ',he,H',hK⟩
  cases ex with
  | normal =>
   obtain rfl:e' = .normal:=he
   show c3.wp P _ a' w'
   refine wp_mono (zfM (B:=B) (pi:=PI C 0) hreg 1 c3 _ _ y ρ' a' w' hK H') ?_
   rintro e2 a2 w2 ⟨ex2,s2,ρ2,he2,H2,hK2⟩
   exact fin ex2 s2 ρ2 e2 a2 w2 he2 H2 hK2
  | exit i =>
   obtain rfl:e' = .exit i:=he
   cases hK
  | ret =>
   obtain rfl:e' = .ret:=he
   exact fin .ret s' ρ' .ret a' w' rfl H' hK
 refine wp_seq (ztb A.op0.2.2 ?_)
 rw [q0,ha1]
 show (Code.seq (.seq (.region r1 #[oa,ob] false) c2) c3).wp P _ a1 w0
 refine wp_seq (wp_seq (ztc A.opa.2.2 (by obtain ⟨_,_,_,_,_,_,h,_⟩:=A.opb; exact h) ?_))
 rw [qa,ha2]
 show ob.wp P a2 w0 _ _
 rw [qb,ha3]
 show c2.wp P _ a3 w0
 cases hAd:Ad with
 | none =>
  have hx0:x=[]:=by
   rcases hxs with h | ⟨g',o',us',h,_⟩
   · exact List.eq_nil_of_length_eq_zero h
   · rw [hAd] at h; cases h
  subst hx0
  exact rest true [] (by rw [hAd]; rfl) hCR (hT rfl)
 | some ad=>exact rest false x (by rw [hAd]; rfl) hCR hF
end Go.Proofs.YtdhkgmhdengnkaaGreatDoorPi
namespace Go.Proofs.YtdhkgmhdengnkaaGreatDoorPi
set_option linter.unusedVariables false
set_option linter.unusedSimpArgs false
open Go
def zjg (S:Sig) (e:TypeId) (t:Ty) (x:List t.den):Option S.den:=match zdf [] 1 S.outs [.one (.frow e t x)] with
 | some (y,_)=>some y
 | none=>none
def zhb (S:Sig) (e:TypeId) (t:Ty) (lim:Nat):List AV->Option S.den
 | [.sv (.one (.sl e' t' x))]=>if h:t'.beq t=true then (bif Nat.beq e' e then (if x.length<=lim then zjg S e t (zgb h x) else none) else none) else none
 | _=>none
def zjh (sig:FuncId->Sig) (l:List (Nat×TypeId×Ty×Nat)) (f:FuncId):Option (List AV->Option (sig f).den):=match zaa l f with
 | some (e,t,lim)=>some (zhb (sig f) e t lim)
 | none=>none
theorem zqi {P:Program} {C:Ctx} {Γ:Gr} (F:Fits P C) {g:FuncId} {fn:Func} (hfn:C.fns g=some fn) {r0 r1:Nat} {o0 oa ob:Oper} {c2 c3:Code} (A:znf P fn r0 r1 o0 oa ob c2 c3)
    {e:TypeId} {t:Ty} {lim:Nat} (hpar:(C.sig g).pars=[.val]) (hF:∀ x:List t.den,zkv C g fn c2 c3 false e t x=if 0+x.length<=lim then zjg (C.sig g) e t x else none)
    (hT:zkv C g fn c2 c3 true e t []=zjg (C.sig g) e t []):zdJ P C Γ g (zhb (C.sig g) e t lim):=by
 refine ztd F hfn A (e:=e) (t:=t) hpar ?_
 intro args y hy
 unfold zhb at hy
 split at hy
 case h_2=>cases hy
 rename_i e' t' x
 split at hy
 case isFalse=>cases hy
 rename_i hb
 obtain ⟨he,hq⟩:=zaj hy
 clear hy
 obtain rfl:=Ty.beq_eq hb
 obtain rfl:=Nat.eq_of_beq_eq_true he
 split at hq
 case isFalse=>cases hq
 rename_i hl
 rw [zd0] at hq
 refine ⟨x,rfl,?_,fun h0=>?_⟩
 · rw [hF,if_pos (by omega)]
   exact hq
 · subst h0
   rw [hT]
   exact hq
end Go.Proofs.YtdhkgmhdengnkaaGreatDoorPi
namespace Go.Proofs.YtdhkgmhdengnkaaGreatDoorPi
set_option linter.unusedVariables false
set_option linter.unusedSimpArgs false
open Go Go.RowKit
structure Aside0 (p:Prop):Prop where
 out:p
theorem zhL {base:Nat} {e:TypeId} {size g n cap:Nat} (vs:List Value):∀ (w:World) (xs:List Value) (o:Nat),w.ownsRow base e size (.slice (some ⟨g,0,none⟩) n cap) n xs->o+vs.length<=xs.length ->
 (w.setCells g o vs).ownsRow base e size (.slice (some ⟨g,0,none⟩) n cap) n (xs.take o++vs++xs.drop (o+vs.length)):=by
 induction vs with
 | nil=>intro w xs o h ho; simpa [World.setCells] using h
 | cons v vs ih =>
  intro w xs o h ho
  rw [List.length_cons] at ho
  have h1:=ih _ (xs.set o v) (o+1) (World.ownsRow.stored h o v).1 (by rw [List.length_set]; omega)
  rw [World.setCells]
  have e:(xs.set o v).take (o+1)++vs++(xs.set o v).drop (o+1+vs.length)=xs.take o++v::vs++xs.drop (o+(v::vs).length):=by
   rw [List.drop_set_of_lt (by omega),List.take_succ_eq_append_getElem (by rw [List.length_set]; omega),List.getElem_set_self,List.take_set_of_le (by omega),List.length_cons,show o+(vs.length+1)=o+1+vs.length by omega]
   simp
  rw [e] at h1
  exact h1
theorem zte {base:Nat} {e:TypeId} {size g n cap m:Nat} {w:World} {xs:List Value} (h:w.ownsRow base e size (.slice (some ⟨g,0,none⟩) n cap) n xs) (hm:m<=n):w.ownsRow base e size (.slice (some ⟨g,0,none⟩) m cap) m (xs.take (m*size)):=by
 obtain ⟨hl,h⟩:=h
 have hms:m*size<=n*size:=Nat.mul_le_mul_right _ hm
 rcases h with ⟨h',_⟩ | ⟨g',cap',cur,h',hb,hg,hnc,hcm,hcs,htake⟩
 · simp at h'
 · simp only [Value.slice.injEq,Option.some.injEq,Addr.mk.injEq,and_true,true_and] at h'
   obtain ⟨rfl,rfl⟩:=h'
   exact ⟨by rw [List.length_take]; omega,.inr ⟨g,cap,cur,rfl,hb,hg,by omega,hcm,hcs,by rw [<- htake,List.take_take,Nat.min_eq_left hms]⟩⟩
theorem zes {g:Nat}:∀ (vs:List Value) (o:Nat) (w:World),((w.setCells g o vs).os=w.os/\(w.setCells g o vs).tape=w.tape/\(w.setCells g o vs).output=w.output/\w.heap.size<=(w.setCells g o vs).heap.size) /\ ∀ k,k ≠ g->(w.setCells g o vs).heap[k]? = w.heap[k]?
 | [],_,_=>⟨⟨rfl,rfl,rfl,Nat.le_refl _⟩,fun _ _=>rfl⟩
 | v::vs,o,w=>by
  rw [World.setCells]
  obtain ⟨⟨h1,h2,h3,h4⟩,h5⟩:=zes (g:=g) vs (o+1) (w.setCell ⟨g,o,none⟩ v)
  refine ⟨⟨h1.trans (by simp [World.setCell]),h2.trans (by simp [World.setCell]),h3.trans (by simp [World.setCell]),Nat.le_trans (by simp [World.setCell]) h4⟩,fun k hk=>(h5 k hk).trans (RowKit.Below.heap_setCell w ⟨g,o,none⟩ v k (fun e=>hk (by rw [e])))⟩
theorem zk0 {P:Program} (w:World) (t e ty:TypeId) (z:Value) (ht:P.underlying t=some (.slice e)) (hv:∀ w,(zeroValue e).run P w = .ok z w) (h1:∀ v∈z.cells.toList,v.oneCell'=true) (b o c:Nat)
 (hc:∀ j,j < z.cells.size->(w.cell? ⟨b,o+j,none⟩).isSome=true) (hf:∀ j,j < z.cells.size->w.frozen? ⟨b,o+j,none⟩=false) :
 (Builtin.clear_ #[t] ty #[.slice (some ⟨b,o,none⟩) 1 c]).run P w = .ok (.tuple #[]) (w.setCells b o z.cells.toList):=by
 have hzc:(Builtin.zeroCells z.cells 1).toList=z.cells.toList:=by
  apply List.ext_getElem
  · simp [Builtin.zeroCells]
  · intro i h1 h2
    have:i < z.cells.size:=by simpa using h2
    simp [Builtin.zeroCells,Nat.mod_eq_of_lt this,getElem!_pos z.cells i this]
 have hst:=run_storeCells_cells (P:=P) b o z.cells.toList 0 w (by simpa using hc) (by simpa using hf) h1
 simp only [Nat.add_zero] at hst
 simp [Builtin.clear_,run_underlying ht,hv,hzc,hst]
end Go.Proofs.YtdhkgmhdengnkaaGreatDoorPi
namespace Go.Proofs.YtdhkgmhdengnkaaGreatDoorPi
set_option linter.unusedVariables false
set_option linter.unusedSimpArgs false
open Go
def askC (fn:Func):Option (Code×Code):=match fn.body with
 | some (.seq (.region _ _ false) (.seq (.seq (.region _ _ false) c2) c3))=>some (c2,c3)
 | _=>none
def zif:Operand->Bool
 | .const (.slice none 0 0)=>true
 | _=>false
theorem zji {x:Operand} (h:zif x=true):x = .const (.slice none 0 0):=by
 unfold zif at h
 split at h
 · rfl
 · cases h
def ask0 (o:Oper):Bool:=match o.op,o.dst,o.guard with
 | .assign x,some d,none=>zif x && Nat.beq d 2
 | _,_,_=>false
def askA (o:Oper):Bool:=match o.op,o.dst,o.guard with
 | .move (.tmp t),some d,none=>Nat.beq t 0 && Nat.beq d 3
 | _,_,_=>false
def askE (P:Program) (o:Oper):Bool:=match o.op,o.dst,o.guard with
 | .binOp .eql ts (.tmp t) x _,some d,none=>Nat.beq t 3 && zif x && Nat.beq d 4 && (match P.underlying ts with | some (.slice _)=>true | _=>false)
 | _,_,_=>false
def askB (P:Program) (fn:Func):Bool:=match fn.body with
 | some (.seq (.region _ ops false) (.seq (.seq (.region _ ops2 false) _) _))=>(match ops.toList,ops2.toList with
  | [o0],[oa,ob]=>ask0 o0 && askA oa && askE P ob && Nat.ble 5 fn.ntmps
  | _,_=>false)
 | _=>false
theorem zo5 {P:Program} {fn:Func} (h:askB P fn=true):∃ r0 r1 o0 oa ob c2 c3,znf P fn r0 r1 o0 oa ob c2 c3/\askC fn=some (c2,c3):=by
 unfold askB at h
 split at h
 case h_2=>cases h
 rename_i r0 ops r1 ops2 c2 c3 hb
 split at h
 case h_2=>cases h
 rename_i o0 oa ob h1 h2
 simp only [Bool.and_eq_true] at h
 obtain ⟨⟨⟨a1,a2⟩,a3⟩,a4⟩:=h
 have e1:ops = #[o0]:=by apply Array.ext'; simpa using h1
 have e2:ops2 = #[oa,ob]:=by apply Array.ext'; simpa using h2
 subst e1 e2
 refine ⟨r0,r1,o0,oa,ob,c2,c3,⟨hb,?_,?_,?_,Nat.le_of_ble_eq_true a4⟩,by unfold askC; rw [hb]⟩
 · unfold ask0 at a1
   split at a1
   · rename_i x d q1 q2 q3
     rw [Bool.and_eq_true] at a1
     rw [q1,q2,q3,zji a1.1,Nat.eq_of_beq_eq_true a1.2]
     exact ⟨rfl,rfl,rfl⟩
   · cases a1
 · unfold askA at a2
   split at a2
   · rename_i t d q1 q2 q3
     rw [Bool.and_eq_true] at a2
     rw [q1,q2,q3,Nat.eq_of_beq_eq_true a2.1,Nat.eq_of_beq_eq_true a2.2]
     exact ⟨rfl,rfl,rfl⟩
   · cases a2
 · unfold askE at a3
   split at a3
   · rename_i ts t x m d q1 q2 q3
     simp only [Bool.and_eq_true] at a3
     obtain ⟨⟨⟨b1,b2⟩,b3⟩,b4⟩:=a3
     split at b4
     · rename_i e he
       rw [q1,q2,q3,zji b2,Nat.eq_of_beq_eq_true b1,Nat.eq_of_beq_eq_true b3]
       exact ⟨ts,_,m,e,rfl,rfl,rfl,rfl,he⟩
     · cases b4
   · cases a3
def askR (C:Ctx) (g:FuncId) (fn:Func) (b:Bool) (e:TypeId) (t:Ty) (x:List t.den):Option (C.sig g).den:=match askC fn with
 | some (c2,c3)=>zkv C g fn c2 c3 b e t x
 | none=>none
theorem zob {P:Program} {C:Ctx} {Γ:Gr} (F:Fits P C) {g:FuncId} {fn:Func} (hfn:C.fns g=some fn) (hb:askB P fn=true)
    {e:TypeId} {t:Ty} {lim:Nat} (hpar:(C.sig g).pars=[.val]) (hF:∀ x:List t.den,askR C g fn false e t x=if 0+x.length<=lim then zjg (C.sig g) e t x else none)
    (hT:askR C g fn true e t []=zjg (C.sig g) e t []):zdJ P C Γ g (zhb (C.sig g) e t lim):=by
 obtain ⟨r0,r1,o0,oa,ob,c2,c3,A,hC⟩:=zo5 hb
 refine zqi F hfn A hpar (fun x=>?_) ?_
 · rw [<- hF x]; unfold askR; rw [hC]
 · rw [<- hT]; unfold askR; rw [hC]
end Go.Proofs.YtdhkgmhdengnkaaGreatDoorPi
namespace Go.Proofs.YtdhkgmhdengnkaaGreatDoorPi
set_option linter.unusedVariables false
set_option linter.unusedSimpArgs false
open Go
def zqj (n:Int):ByteArray:=⟨(Lib.itoa n).toArray⟩
def zhT (xs:List ByteArray) (s:ByteArray):ByteArray:=⟨(Lib.join (xs.map (·.data.toList)) s.data.toList).toArray⟩
def zdK (s t:ByteArray):List ByteArray:=Lib.splitB t 0 (Lib.countB s t) s
def numB (s:ByteArray):Int×Bool:=match Lib.atoiAll s.data.toList with
 | .ok n=>if Lib.itoa n=s.data.toList then (n,true) else (0,false)
 | _=>(0,false)
def zoc (n:Int):Option ByteArray:=if -9223372036854775808<=n then (if n<=9223372036854775807 then some (zqj n) else none) else none
def zod (xs:List ByteArray) (s:ByteArray):Option ByteArray:=if xs.length<=room then (if (zhT xs s).size<=room then some (zhT xs s) else none) else none
def zmk (s t:ByteArray):Option (List ByteArray):=if s.size < 4294967281 then (if 1<=t.size then some (zdK s t) else none) else none
def zd6 (s:ByteArray):Option (Int×Bool):=if s.size<=281474976710656 then some (numB s) else none
def zci (s t:ByteArray):Bool:=decide (0<=Lib.indexByte s.data.toList (t.data.toList.headD 0))
def ztf (s t:ByteArray):Bool:=Lib.hasSuffix s.data.toList t.data.toList
def zuA (s t:ByteArray):ByteArray:=⟨(Lib.trimSuffix s.data.toList t.data.toList).toArray⟩
def ztg (s t:ByteArray):Int:=(Lib.countByte s.data.toList (t.data.toList.headD 0):Nat)
def oneB (_ t:ByteArray):Bool:=Nat.beq t.size 1
def zsE (s _:ByteArray):Bool:=decide (s.size<=281474976710656)
def zml (s t:ByteArray):Option Bool:=bif oneB s t then some (zci s t) else none
inductive Hand where
 | itoa | join (e:TypeId) | split (e:TypeId) | number | contains | suffix | trim | count
 | fn (ok:ByteArray->Bool) (L:ByteArray->List SV)
def zdL (S:Sig) (l:List SV):Option S.den:=match zdf [] l.length S.outs l with
 | some (y,_)=>some y
 | none=>none
def zoe (S:Sig):List AV->Option S.den
 | [.sv (.one (.int .i64 n))]=>if -9223372036854775808<=n then (if n<=9223372036854775807 then zdL S [.one (.str (zqj n))] else none) else none
 | _=>none
def zof (S:Sig) (e:TypeId):List AV->Option S.den
 | [.sv (.one (.sl e' .str xs)),.sv (.one (.str s))]=>bif Nat.beq e e' then (if List.length (α:=ByteArray) xs<=room then (if (zhT xs s).size<=room then zdL S [.one (.str (zhT xs s))] else none) else none) else none
 | _=>none
def zk1 (S:Sig) (e:TypeId):List AV->Option S.den
 | [.sv (.one (.str s)),.sv (.one (.str t))]=>if s.size < 4294967281 then (if 1<=t.size then zdL S [.one (.sl e .str (zdK s t))] else none) else none
 | _=>none
def zig (S:Sig):List AV->Option S.den
 | [.sv (.one (.str s))]=>if s.size<=281474976710656 then zdL S [.one (.int .i64 (numB s).1),.one (.bool (numB s).2)] else none
 | _=>none
def zmm (S:Sig) (ok:ByteArray->ByteArray->Bool) (c:ByteArray->ByteArray->Cel):List AV->Option S.den
 | [.sv (.one (.str s)),.sv (.one (.str t))]=>bif ok s t then zdL S [.one (c s t)] else none
 | _=>none
def fnPr (S:Sig) (ok:ByteArray->Bool) (L:ByteArray->List SV):List AV->Option S.den
 | [.sv (.one (.str s))]=>bif ok s then zdL S (L s) else none
 | _=>none
structure Sv where
 ok:ByteArray->Bool
 D:ByteArray->List (Int×Int)
 n:ByteArray->Int
 r:ByteArray->List ByteArray
 b:ByteArray->Bool
def sv [Inhabited Sv]:Sv:=default
def zt7 (S:Sig):Hand->List AV->Option S.den
 | .fn ok L=>fnPr S ok L
 | .itoa=>zoe S
 | .join e=>zof S e
 | .split e=>zk1 S e
 | .number=>zig S
 | .contains=>zmm S oneB fun s t=>.bool (zci s t)
 | .suffix=>zmm S zsE fun s t=>.bool (ztf s t)
 | .trim=>zmm S zsE fun s t=>.str (zuA s t)
 | .count=>zmm S oneB fun s t=>.int .i64 (ztg s t)
def zk2 (sig:FuncId->Sig) (hs:List (Nat×Hand)) (l:List (Nat×TypeId×Ty×Nat)) (f:FuncId):Option (List AV->Option (sig f).den):=match zaa hs f with
 | some h=>some (zt7 (sig f) h)
 | none=>zjh sig l f
theorem zkw {sl:Bool} {muF:List (Nat×Cont)} {ρF:Nat->Option RI} {w:World} {σR:Sit}:∀ (n j:Nat),zi8 sl muF ρF w σR j (List.replicate n .val) []
 | 0,_=>rfl
 | n+1,j=>by
  rw [List.replicate_succ]
  exact zkw n (j+1)
theorem zng {n:Nat} {args:List AV} {s0:St} (h:zcc 0 (List.replicate n .val) args=some s0) (hl:args.length=n):s0.mu=[]/\s0.dead=[]:=by
 subst hl
 obtain ⟨s,h1,h2,h3,_⟩:=zer args 0
 rw [<- List.map_const'] at h
 rw [h1] at h
 cases h
 exact ⟨h2,h3⟩
theorem zrT {C:Ctx} {X V0 R0:Nat->Prop} {w0 w':World} {ρ0:Nat->Option RI} {S:Sig} {flags:List (Option RMode)} {base:Nat} {x:S.den} {us:List Value} {n:Nat} {L:List SV}
    (hpar:S.pars=List.replicate n .val) (HM:MInv ⟨C,X,V0,w0,R0,ρ0⟩ (zaa []) [] ρ0 w0) (hb:RowKit.Below w0.heap.size w0 w')
    (hx:zaQ flags base S.outs x=(L,[])) (hL:L.length=S.res.length)
    (hv:∀ (σ:Sit),σ.w=w'->(∀ g,w0.heap.size<=g->g < w'.heap.size->σ.V g)->SRs σ L us):Ret ⟨C,X,V0,w0,R0,ρ0⟩ S flags base x (retV us) w':=by
 have ext':Ext X w0 w':=⟨hb.os,hb.tape,hb.output,hb.size,fun g hg _=>hb.block g hg⟩
 refine ⟨[],[],ρ0,[],⟨fun id c h=>(by cases h),HM.dom,fun id id' i i' g h=>absurd rfl h,fun id i g h=>absurd rfl h,fun id i g h=>absurd rfl h,fun id e t xs m i g h=>(by cases h),ext',HM.rd⟩,
  fun id _ h=>absurd rfl h,fun id id' k h=>(by cases h),by rw [hx]; rfl,⟨us,?_,rfl⟩,by rw [hx]; exact Adds.nil,?_⟩
 · rw [hx]
   show SRs _ (L.take S.res.length) us
   rw [<- hL,List.take_length]
   refine hv _ rfl (fun g h1 h2=>⟨⟨h2,.inr h1,fun id c i h=>(by cases h)⟩,fun _=>h1⟩)
 · rw [hx,hpar]
   show zi8 _ _ _ _ _ _ _ (L.drop S.res.length)
   rw [<- hL,List.drop_length]
   exact zkw n 0
theorem zmn:∀ (args:List AV) (j:Nat) {s:St},zcc j (args.map fun _=>Par.val) args=some s->∀ k a,args[k]? = some a->zaa s.env (j+k)=some a
 | [],j,s,h,k,a,hk=>by simp at hk
 | v::vs,j,s,h,k,a,hk=>by
  obtain ⟨s1,h1,h2,h3,h4⟩:=zer vs (j+1)
  simp only [List.map_cons,zcc,h1] at h
  cases h
  cases k with
  | zero =>
   simp at hk
   subst hk
   exact zag _ _ _
  | succ k =>
   rw [zad _ _ (by omega)]
   have:=zmn vs (j+1) h1 k a (by simpa using hk)
   rwa [show j+1+k=j+(k+1) by omega] at this
theorem zo6:∀ n:Nat,zjR (List.replicate n .val)=[]
 | 0=>rfl
 | n+1=>by rw [List.replicate_succ]; exact zo6 n
theorem znh:∀ n:Nat,zdW (List.replicate n .val)=[]
 | 0=>rfl
 | n+1=>by rw [List.replicate_succ]; exact znh n
def ArgIs (w:World) (a:AV) (u:Value):Prop:=∃ σ:Sit,σ.w=w/\(∀ g,σ.V g->g < w.heap.size)/\AR σ a u
def zrU (P:Program) (Γ:Gr) (g:FuncId) (S:Sig) (args:List AV) (y:S.den):Prop :=
 ∀ (w:World) (us:List Value),(∀ (k:Nat) (a:AV),args[k]? = some a->∃ u,us[k]? = some u/\ArgIs w a u)->us.length=args.length->Γ.Q w ->
  Calls P g us.toArray w fun e w'=>∃ vs L,e = .returned (retV vs)/\RowKit.Below w.heap.size w w' /\ (∀ o base,zaQ (zb7 S o) base S.outs y=(L,[]))/\L.length=S.res.length /\
   ∀ (σ:Sit),σ.w=w'->(∀ g,w.heap.size<=g->g < w'.heap.size->σ.V g)->SRs σ L vs
theorem zgE {P:Program} {C:Ctx} {Γ:Gr} {g:FuncId} {n:Nat} {p:List AV->Option (C.sig g).den} (hpar:(C.sig g).pars=List.replicate n .val)
    (h:∀ args y,p args=some y->args.length=n/\zrU P Γ g (C.sig g) args y):zdJ P C Γ g p:=by
 intro args y hy X V0 R0 w0 s0 ρ0 us o base hs0 HM henv hlen hΓ ho hnd
 obtain ⟨hl,hc⟩:=h args y hy
 rw [hpar] at hs0
 obtain ⟨hmu,hdead⟩:=zng hs0 hl
 rw [hpar,List.length_replicate] at hlen
 have hs1:zcc 0 (args.map fun _=>Par.val) args=some s0:=by rw [List.map_const',hl]; exact hs0
 rw [hmu,hdead] at HM
 refine Calls.mono (hc w0 us (fun k a hk=>?_) (by rw [hlen,hl]) hΓ.1) ?_
 · obtain ⟨u,h1,h2⟩:=henv k a (by have:=zmn args 0 hs1 k a hk; rwa [Nat.zero_add] at this)
   exact ⟨u,h1,(⟨C,X,V0,w0,R0,ρ0⟩ : Base).sit (zaa s0.mu) ρ0 w0,rfl,fun g (hg:Base.V _ _ _ _ g)=>hg.1,h2⟩
 · rintro e w' ⟨vs,L,rfl,hb,hx,hL,hv⟩
   exact zrT hpar HM hb (hx _ _) hL hv
theorem zt8 {w:World} {a:AV} {us:List Value} (h:∀ (k:Nat) (x:AV),[a][k]? = some x->∃ u,us[k]? = some u/\ArgIs w x u) (hl:us.length=[a].length):∃ u,us=[u]/\ArgIs w a u:=by
 obtain ⟨u,h1,h2⟩:=h 0 a rfl
 match us,hl with
 | [v],_=>cases h1; exact ⟨_,rfl,h2⟩
theorem zo7 {w:World} {a b:AV} {us:List Value} (h:∀ (k:Nat) (x:AV),[a,b][k]? = some x->∃ u,us[k]? = some u/\ArgIs w x u) (hl:us.length=[a,b].length):∃ u v,us=[u,v]/\ArgIs w a u/\ArgIs w b v:=by
 obtain ⟨u,h1,h2⟩:=h 0 a rfl
 obtain ⟨v,h3,h4⟩:=h 1 b rfl
 match us,hl with
 | [x,y],_=>cases h1; cases h3; exact ⟨_,_,rfl,h2,h4⟩
theorem ArgIs.int {w:World} {k:IntKind} {n:Int} {u:Value} (h:ArgIs w (.sv (.one (.int k n))) u):u = .int k n:=by
 obtain ⟨σ,_,_,h⟩:=h
 have h':CR σ (.int k n) u:=h
 simpa only [CR] using h'
theorem ArgIs.str {w:World} {s:ByteArray} {u:Value} (h:ArgIs w (.sv (.one (.str s))) u):u = .string s:=by
 obtain ⟨σ,_,_,h⟩:=h
 have h':CR σ (.str s) u:=h
 simpa only [CR] using h'
theorem zqk {V:Nat->Prop} {w:World}:∀ (xs:List ByteArray) (us:List Value),KL (KR V w .str) xs us->us=xs.map Value.string
 | [],us,h=>h
 | x::xs,us,⟨a,b,e,ha,hb⟩=>by
  rw [e,show a=[.string x] from ha,zqk xs b hb]
  rfl
theorem ArgIs.strs {w:World} {e:TypeId} {xs:List ByteArray} {u:Value} (h:ArgIs w (.sv (.one (.sl e .str xs))) u):∃ A c,u = .slice A xs.length c/\xs.length<=c /\
    (xs=[] \/ ∃ g o,A=some ⟨g,o,none⟩/\g < w.heap.size /\ ∀ (j:Nat) y,xs[j]? = some y->w.cell? ⟨g,o+j,none⟩=some (.string y)):=by
 obtain ⟨σ,rfl,hV,h⟩:=h
 have h':CR σ (.sl e .str xs) u:=h
 simp only [CR,KR] at h'
 obtain ⟨A,c,hu,hc,hx⟩:=h'
 refine ⟨A,c,(List.cons.inj hu).1,hc,?_⟩
 rcases hx with hx | ⟨g,o,us,hA,hg,hk,hl⟩
 · exact .inl (List.eq_nil_of_length_eq_zero hx)
 · refine .inr ⟨g,o,hA,hV g hg,fun j y hj=>hl j _ ?_⟩
   rw [zqk (V:=σ.V) (w:=σ.w) xs us hk,List.getElem?_map,hj]
   rfl
theorem zql {P:Program} {C:Ctx} {Γ:Gr} {g:FuncId} (hS:C.sig g=⟨[.val],false,[.one (.dat .str)]⟩)
    (hc:∀ (n:Int) (w:World),-9223372036854775808<=n->n<=9223372036854775807->Γ.Q w->Calls P g #[.int .i64 n] w fun e w'=>e = .returned (.string (zqj n))/\RowKit.Below w.heap.size w w') :
    zdJ P C Γ g (zoe (C.sig g)):=by
 refine zgE (n:=1) (by rw [hS]; rfl) fun args y hy=>?_
 generalize C.sig g=S at *
 subst hS
 unfold zoe at hy
 split at hy
 case h_1 n =>
  split at hy
  case isFalse=>exact absurd hy nofun
  rename_i h1
  split at hy
  case isFalse=>exact absurd hy nofun
  rename_i h2
  cases hy
  refine ⟨rfl,fun w us hu hl hQ=>?_⟩
  obtain ⟨u,rfl,k⟩:=zt8 hu hl
  obtain rfl:=k.int
  refine (hc n w h1 h2 hQ).mono ?_
  rintro e w' ⟨rfl,hb⟩
  exact ⟨[.string (zqj n)],[.one (.str (zqj n))],rfl,hb,fun _ _=>rfl,rfl,fun σ _ _=>⟨_,_,rfl,(show CR _ _ _ by simp only [CR]),rfl⟩⟩
 case h_2=>exact absurd hy nofun
theorem zqm {P:Program} {C:Ctx} {Γ:Gr} {g:FuncId} {e:TypeId} (hS:C.sig g=⟨[.val,.val],false,[.one (.dat .str)]⟩)
    (hc:∀ (A:Option Addr) (c:Nat) (xs:List ByteArray) (s:ByteArray) (w:World),xs.length<=c->xs.length<=room->(zhT xs s).size<=room ->
     (xs=[] \/ ∃ g o,A=some ⟨g,o,none⟩/\g < w.heap.size /\ ∀ (j:Nat) y,xs[j]? = some y->w.cell? ⟨g,o+j,none⟩=some (.string y))->Γ.Q w ->
     Calls P g #[.slice A xs.length c,.string s] w fun e w'=>e = .returned (.string (zhT xs s))/\RowKit.Below w.heap.size w w') :
    zdJ P C Γ g (zof (C.sig g) e):=by
 refine zgE (n:=2) (by rw [hS]; rfl) fun args y hy=>?_
 generalize C.sig g=S at *
 subst hS
 unfold zof at hy
 split at hy
 case h_1 e' xs s =>
  obtain ⟨he,hq⟩:=zaj hy
  clear hy
  split at hq
  case isFalse=>exact absurd hq nofun
  rename_i h1
  split at hq
  case isFalse=>exact absurd hq nofun
  rename_i h2
  cases hq
  refine ⟨rfl,fun w us hu hl hQ=>?_⟩
  obtain ⟨u,v,rfl,k1,k2⟩:=zo7 hu hl
  obtain ⟨A,c,rfl,hc1,hc2⟩:=k1.strs
  obtain rfl:=k2.str
  refine (hc A c xs s w hc1 h1 h2 hc2 hQ).mono ?_
  rintro e w' ⟨rfl,hb⟩
  exact ⟨[.string (zhT xs s)],[.one (.str (zhT xs s))],rfl,hb,fun _ _=>rfl,rfl,fun σ _ _=>⟨_,_,rfl,(show CR _ _ _ by simp only [CR]),rfl⟩⟩
 case h_2=>exact absurd hy nofun
theorem zog {V:Nat->Prop} {w:World}:∀ (xs:List ByteArray),KL (KR V w .str) xs (xs.map Value.string)
 | []=>rfl
 | x::xs=>⟨[.string x],_,rfl,rfl,zog xs⟩
theorem zni (e:TypeId) (r:List ByteArray):(Ty.sl e .str).decAll [.sl e .str r]=some r:=by
 unfold Ty.decAll
 simp only [Ty.dec,Ty.beq,dif_pos,Nat.beq_refl,cond_true]
 rfl
theorem znj (e:TypeId) (r:List ByteArray):zgk false [] (.dat (.sl e .str)) (.sl e .str r)=some (r,[]):=by
 have h:=zni e r
 unfold zgk
 simp only [snap,zbr,freeze]
 generalize (Ty.sl e .str).decAll [.sl e .str r]=q at h ⊢
 subst h
 rfl
theorem zmo (e:TypeId) (r:List ByteArray):zdL ⟨[.val,.val],false,[.one (.dat (.sl e .str))]⟩ [.one (.sl e .str r)]=(some r:Option (List ByteArray)):=by
 have h:zdf [] 1 (Sig.outs ⟨[.val,.val],false,[.one (.dat (.sl e .str))]⟩) [.one (.sl e .str r)]=some (r,[]):=znj e r
 unfold zdL
 rw [show List.length [SV.one (.sl e .str r)]=1 from rfl,h]
 rfl
theorem zo8 {P:Program} {C:Ctx} {Γ:Gr} {g:FuncId} {e:TypeId} (hS:C.sig g=⟨[.val,.val],false,[.one (.dat (.sl e .str))]⟩)
    (hc:∀ (s t:ByteArray) (w:World),s.size < 4294967281->1<=t.size->Γ.Q w ->
     Calls P g #[.string s,.string t] w fun q w'=>∃ b c,q = .returned (.slice (some ⟨b,0,none⟩) (zdK s t).length c)/\(zdK s t).length<=c/\RowKit.Below w.heap.size w w' /\ w.heap.size<=b/\b < w'.heap.size /\
      ∀ (j:Nat) y,(zdK s t)[j]? = some y->w'.cell? ⟨b,j,none⟩=some (.string y)) :
    zdJ P C Γ g (zk1 (C.sig g) e):=by
 refine zgE (n:=2) (by rw [hS]; rfl) fun args y hy=>?_
 generalize C.sig g=S at *
 subst hS
 unfold zk1 at hy
 split at hy
 case h_1 s t =>
  split at hy
  case isFalse=>exact absurd hy nofun
  rename_i h1
  split at hy
  case isFalse=>exact absurd hy nofun
  rename_i h2
  have hc':=fun w=>hc s t w h1 h2
  generalize zdK s t=r at hy hc'
  rw [zmo] at hy
  obtain rfl:=Option.some.inj hy
  refine ⟨rfl,fun w us hu hl hQ=>?_⟩
  obtain ⟨u,v,rfl,k1,k2⟩:=zo7 hu hl
  obtain rfl:=k1.str
  obtain rfl:=k2.str
  refine (hc' w hQ).mono ?_
  rintro q w' ⟨b,c,rfl,hlc,hb,hb0,hb1,hcell⟩
  refine ⟨[.slice (some ⟨b,0,none⟩) r.length c],[.one (.sl e .str r)],rfl,hb,fun _ _=>rfl,rfl,fun σ hw hV=>⟨_,_,rfl,(show CR _ _ _ from ?_),rfl⟩⟩
  simp only [CR,KR]
  refine ⟨some ⟨b,0,none⟩,c,rfl,hlc,.inr ⟨b,0,_,rfl,hV b hb0 hb1,zog (V:=σ.V) (w:=σ.w) _,fun j u hj=>?_⟩⟩
  rw [List.getElem?_map] at hj
  cases hx:r[j]? with
  | none=>rw [hx] at hj; cases hj
  | some x=>rw [hx] at hj; cases hj; rw [hw,Nat.zero_add]; exact hcell j x hx
 case h_2=>exact absurd hy nofun
theorem zrV {P:Program} {C:Ctx} {Γ:Gr} {g:FuncId} {τ:Ty} {ok:ByteArray->ByteArray->Bool} {x:ByteArray->ByteArray->τ.den} {c:ByteArray->ByteArray->Cel} {v:ByteArray->ByteArray->Value}
    (hS:C.sig g=⟨[.val,.val],false,[.one (.dat τ)]⟩) (hτ:∀ S:Sig,S=⟨[.val,.val],false,[.one (.dat τ)]⟩->∀ s t y,zdL S [.one (c s t)]=some y->∀ o base,zaQ (zb7 S o) base S.outs y=([.one (c s t)],[]))
    (hcv:∀ σ s t,CR σ (c s t) (v s t))
    (hc:∀ (s t:ByteArray) (w:World),ok s t=true->Γ.Q w->Calls P g #[.string s,.string t] w fun e w'=>e = .returned (v s t)/\w'=w):zdJ P C Γ g (zmm (C.sig g) ok c):=by
 refine zgE (n:=2) (by rw [hS]; rfl) fun args y hy=>?_
 have hτ':=hτ _ hS
 unfold zmm at hy
 split at hy
 case h_1 s t =>
  obtain ⟨h1,hq⟩:=zaj hy
  clear hy
  refine ⟨rfl,fun w us hu hl hQ=>?_⟩
  obtain ⟨u,v',rfl,k1,k2⟩:=zo7 hu hl
  obtain rfl:=k1.str
  obtain rfl:=k2.str
  refine (hc s t w h1 hQ).mono ?_
  rintro e w' ⟨rfl,rfl⟩
  exact ⟨[v s t],[.one (c s t)],rfl,RowKit.Below.refl _ _,hτ' s t y hq,by rw [hS]; rfl,fun σ _ _=>⟨_,_,rfl,hcv σ s t,rfl⟩⟩
 case h_2=>exact absurd hy nofun
theorem zqn {S:Sig} (hS:S=⟨[.val,.val],false,[.one (.dat .bool)]⟩) (b:Bool) (y:S.den) (h:zdL S [.one (.bool b)]=some y) (o:Option RMode) (base:Nat):zaQ (zb7 S o) base S.outs y=([.one (.bool b)],[]):=by
 subst hS; cases h; rfl
theorem zrW {s t:ByteArray} (h:oneB s t=true):t=⟨#[t.data.toList.headD 0]⟩:=by
 have h1:t.size=1:=Nat.eq_of_beq_eq_true h
 obtain ⟨⟨l⟩⟩:=t
 match l,h1 with
 | [c],_=>rfl
theorem zk3 {P:Program} {C:Ctx} {Γ:Gr} {g:FuncId} (hS:C.sig g=⟨[.val,.val],false,[.one (.dat .bool)]⟩)
    (hc:∀ (s:ByteArray) (c:UInt8) (w:World),Calls P g #[.string s,.string ⟨#[c]⟩] w fun e w'=>e = .returned (.bool (decide (0<=Lib.indexByte s.data.toList c)))/\w'=w) :
    zdJ P C Γ g (zmm (C.sig g) oneB fun s t=>.bool (zci s t)) :=
 zrV (τ:=.bool) (x:=fun s t=>zci s t) (v:=fun s t=>.bool (zci s t)) hS (fun _ hS s t y h=>zqn hS _ y h) (fun σ s t=>by simp only [CR]) fun s t w h _=>by
  rw [zrW h]
  exact hc s _ w
theorem znk {P:Program} {C:Ctx} {Γ:Gr} {g:FuncId} (hS:C.sig g=⟨[.val],true,[.one (.dat (.int .i64)),.one (.dat .bool)]⟩)
    (hc:∀ (s:ByteArray) (w:World),s.size<=281474976710656->Γ.Q w->Calls P g #[.string s] w fun e w'=>e = .returned (.tuple #[.int .i64 (numB s).1,.bool (numB s).2])/\RowKit.Below w.heap.size w w') :
    zdJ P C Γ g (zig (C.sig g)):=by
 refine zgE (n:=1) (by rw [hS]; rfl) fun args y hy=>?_
 generalize C.sig g=S at *
 subst hS
 unfold zig at hy
 split at hy
 case h_1 s =>
  split at hy
  case isFalse=>exact absurd hy nofun
  rename_i h1
  cases hy
  refine ⟨rfl,fun w us hu hl hQ=>?_⟩
  obtain ⟨u,rfl,k⟩:=zt8 hu hl
  obtain rfl:=k.str
  refine (hc s w h1 hQ).mono ?_
  rintro e w' ⟨rfl,hb⟩
  exact ⟨[.int .i64 (numB s).1,.bool (numB s).2],[.one (.int .i64 (numB s).1),.one (.bool (numB s).2)],rfl,hb,fun _ _=>rfl,rfl,
   fun σ _ _=>⟨_,_,rfl,(show CR _ _ _ by simp only [CR]),_,_,rfl,(show CR _ _ _ by simp only [CR]),rfl⟩⟩
 case h_2=>exact absurd hy nofun
end Go.Proofs.YtdhkgmhdengnkaaGreatDoorPi
namespace Go.Proofs.YtdhkgmhdengnkaaGreatDoorPi
set_option linter.unusedVariables false
set_option linter.unusedSimpArgs false
open Go Go.RowKit
structure DoorW (P:Program) (w:World):Prop where
 tab:Lib.TabIs P w "internal/strconv.uint64pow10" .u64 Lib.pow10Tab
 syn:∃ (t:TypeId) (p:Value),w.var? P "strconv.ErrSyntax" = some #[.iface t p]
 rng:∃ (t:TypeId) (p:Value),w.var? P "strconv.ErrRange" = some #[.iface t p]
 num:∃ m:Int,w.cell? ⟨0,0,none⟩=some (.int .i64 m)
def zuB (P:Program) (g:Nat):Prop:=g=0 \/ P.globalNamed "internal/strconv.uint64pow10" = some g \/ P.globalNamed "strconv.ErrSyntax" = some g \/ P.globalNamed "strconv.ErrRange" = some g
theorem zk4 {P:Program} {w w':World} {name:String} {cs:Array Value} (h:w.var? P name=some cs) (hb:∀ g,P.globalNamed name=some g->w'.heap[g]? = w.heap[g]?):w'.var? P name=some cs:=by
 unfold World.var? at *
 cases hg:P.globalNamed name with
 | none=>simp [hg] at h
 | some g =>
  simp only [hg,Option.bind_some] at h ⊢
  rw [hb g hg]
  exact h
theorem zqo {P:Program} {w:World} {name:String} {cs:Array Value} (h:w.var? P name=some cs) {g:Nat} (hg:P.globalNamed name=some g):g < w.heap.size:=by
 unfold World.var? at h
 simp only [hg,Option.bind_some] at h
 rcases Nat.lt_or_ge g w.heap.size with h' | h'
 · exact h'
 · rw [Array.getElem?_eq_none h'] at h; simp at h
def zhM (P:Program):Gr where
 Q:=DoorW P
 G:=zuB P
 stay:=fun w w' h _ _ _ hb=>by
  obtain ⟨h1,⟨t2,p2,h2⟩,⟨t3,p3,h3⟩,⟨m,h4⟩⟩:=h
  exact ⟨zk4 h1 fun g hg=>hb g (.inr (.inl hg)),⟨t2,p2,zk4 h2 fun g hg=>hb g (.inr (.inr (.inl hg)))⟩,⟨t3,p3,zk4 h3 fun g hg=>hb g (.inr (.inr (.inr hg)))⟩,
   ⟨m,(ziy (hb 0 (.inl rfl))).trans h4⟩⟩
theorem DoorW.lt {P:Program} {w:World} (h:DoorW P w):∀ g,(zhM P).G g->g < w.heap.size:=by
 obtain ⟨h1,⟨t2,p2,h2⟩,⟨t3,p3,h3⟩,⟨m,h4⟩⟩:=h
 rintro g (rfl | hg | hg | hg)
 · exact World.block_lt_of_cell? w ⟨0,0,none⟩ h4
 · exact zqo h1 hg
 · exact zqo h2 hg
 · exact zqo h3 hg
end Go.Proofs.YtdhkgmhdengnkaaGreatDoorPi
namespace Go.Proofs.YtdhkgmhdengnkaaGreatDoorPi
set_option linter.unusedVariables false
set_option linter.unusedSimpArgs false
open Go Go.RowKit Go.Sort
theorem zk5 (w:World) (b:Nat) (f:Array Value->Array Value) (k:Nat):(mapBlock w b f).heap[k]? = if b=k then (w.heap[k]?).map (onCells f) else w.heap[k]?:=by
 unfold mapBlock
 simp only [Array.getElem?_modify]
theorem zgF {w:World} {e:TypeId} {b cap:Nat} {xs:List Int} (h:w.ownsRow 0 e 1 (.slice (some ⟨b,0,none⟩) xs.length cap) xs.length (xs.map (Value.int .i64))) :
    Holds (Value.int .i64) w b 0 xs.toArray/\b < w.heap.size:=by
 refine ⟨fun j hj=>?_,?_⟩
 · have hj':j < xs.length:=by simpa using hj
   rw [Nat.zero_add]
   refine ⟨?_,World.ownsRow.frozenAt h _⟩
   rw [World.ownsRow.cellAt h j (by simpa using hj')]
   simp [hj']
 · obtain ⟨_,h⟩:=h
   rcases h with ⟨h',_⟩ | ⟨b',cap',cur,hv,_,hh,_⟩
   · simp at h'
   · simp only [Value.slice.injEq,Option.some.injEq,Addr.mk.injEq,and_true,true_and] at hv
     obtain ⟨rfl,rfl⟩:=hv
     exact (Array.getElem?_eq_some_iff.1 hh).1
theorem zoh {w:World} {e:TypeId} {b cap n:Nat} {xs:List Value} (os:Array Obj) (q:Nat) (h:w.ownsRow 0 e 1 (.slice (some ⟨b,0,none⟩) n cap) n xs) {d:List Int} (hd:d.length=n) {m:Nat} (hm:m<=n) :
    (grow (putRow (Value.int .i64) (Sort.ahead w q) b 0 d.toArray) os).ownsRow 0 e 1 (.slice (some ⟨b,0,none⟩) m cap) m ((d.take m).map (Value.int .i64))/\zpM w (grow (putRow (Value.int .i64) (Sort.ahead w q) b 0 d.toArray) os) b:=by
 obtain ⟨hl,h⟩:=h
 rcases h with ⟨h',_⟩ | ⟨b',cap',cur,hv,_,hh,hcap,hmx,hcs,htk⟩
 · simp at h'
 · simp only [Value.slice.injEq,Option.some.injEq,Addr.mk.injEq,and_true,true_and] at hv
   obtain ⟨rfl,rfl⟩:=hv
   have hb:=(Array.getElem?_eq_some_iff.1 hh).1
   have hsz:(putRow (Value.int .i64) (Sort.ahead w q) b 0 d.toArray).heap.size=w.heap.size:=by
    unfold putRow mapBlock
    simp [Sort.ahead]
   have hold:∀ k,k < w.heap.size->(grow (putRow (Value.int .i64) (Sort.ahead w q) b 0 d.toArray) os).heap[k]? = if b=k then (w.heap[k]?).map (onCells (putCells (Value.int .i64) 0 d.toArray)) else w.heap[k]?:=by
    intro k hk
    rw [heap_grow_old _ _ (by rw [hsz]; exact hk)]
    unfold putRow
    rw [zk5]
    rfl
   refine ⟨⟨by rw [List.length_map,List.length_take,hd]; omega,.inr ⟨b,cap,putCells (Value.int .i64) 0 d.toArray cur,rfl,Nat.zero_le _,?_,by omega,hmx,by unfold putCells; simpa using hcs,?_⟩⟩,⟨rfl,rfl,rfl,?_⟩,fun k hk hne=>?_⟩
   · rw [hold b hb,if_pos rfl,hh]
     rfl
   · apply List.ext_getElem?
     intro i
     rw [List.getElem?_take,List.getElem?_map,List.getElem?_take]
     by_cases hi:i < m*1
     · rw [if_pos hi,if_pos (by omega)]
       unfold putCells
       have hi':i < cur.size:=by omega
       have hi2:i < d.length:=by omega
       simp [hi',hd]
       rw [if_pos (show i < n by omega),List.getElem?_eq_getElem hi2]
       rfl
     · rw [if_neg hi,if_neg (by omega)]
       rfl
   · show w.heap.size<=(_++os).size
     rw [Array.size_append,hsz]
     omega
   · rw [hold k hk,if_neg (fun e=>hne e.symm)]
theorem zt9 {P:Program} {g:FuncId} {e:TypeId} (h1:Own1 P g)
    (hc:∀ (b off cap:Nat) (zs:List Int) (w:World),Holds (Value.int .i64) w b off zs.toArray->b < w.heap.size->zs.length < 4611686018427387904->Calls P g #[.slice (some ⟨b,off,none⟩) zs.length cap] w fun e w' =>
     e = .returned (.tuple #[]) /\ ∃ n os,w'=grow (putRow (Value.int .i64) (Sort.ahead w n) b off (zs.mergeSort fun x y=>decide (x<=y)).toArray) os):zpN P g e:=by
 refine ⟨h1,fun b cap xs w h h0 hl=>?_⟩
 obtain ⟨hH,hb⟩:=zgF h
 refine (hc b 0 cap xs w hH hb (by omega)).mono ?_
 rintro q w' ⟨rfl,n,os,rfl⟩
 have hs:(zgM xs).length=xs.length:=List.length_mergeSort _
 obtain ⟨k1,k2⟩:=zoh os n h hs (Nat.le_refl _)
 rw [List.take_of_length_le (by omega)] at k1
 exact ⟨rfl,k1,k2⟩
theorem zo9:∀ (zs:List Int),Lib.compact zs=zav zs:=by
 have key:∀ (l:List Int) (a:Int),((List.range l.length).filter fun j=>decide ((a::l)[j+1]! ≠ (a::l)[j]!)).map (fun j=>(a::l)[j+1]!)=(zav (a::l)).tail/\(zav (a::l)).head? = some a:=by
  intro l
  induction l with
  | nil=>intro a; exact ⟨rfl,rfl⟩
  | cons b l ih =>
   intro a
   obtain ⟨h1,h2⟩:=ih b
   rw [List.length_cons,List.range_succ_eq_map,List.filter_cons,List.filter_map]
   have e1:((fun j=>decide ((a::b::l)[j+1]! ≠ (a::b::l)[j]!)) ∘ Nat.succ)=fun j=>decide ((b::l)[j+1]! ≠ (b::l)[j]!):=by funext j; simp [Nat.succ_eq_add_one]
   rw [e1]
   have e2:∀ L:List Nat,(L.map Nat.succ).map (fun j=>(a::b::l)[j+1]!)=L.map fun j=>(b::l)[j+1]!:=by intro L; simp [Function.comp_def]
   unfold zav
   by_cases hab:a=b
   · subst hab
     simp only [if_true]
     refine ⟨?_,h2⟩
     rw [if_neg (by simp),e2]
     exact h1
   · simp only [if_neg hab,List.tail_cons,List.head?_cons,and_true]
     rw [if_pos (by simpa using fun h=>hab h.symm),List.map_cons,e2,h1]
     cases hc:zav (b::l) with
     | nil=>rw [hc] at h2; simp at h2
     | cons c r=>rw [hc] at h2; simp at h2; subst h2; simp
 intro zs
 unfold Lib.compact Lib.compactUpTo
 cases zs with
 | nil=>rfl
 | cons a l =>
  obtain ⟨h1,h2⟩:=key l a
  rw [List.length_cons,List.range_succ_eq_map,List.filter_cons,if_pos (by simp [Lib.keeps]),List.filter_map,List.map_cons]
  have e1:(Lib.keeps (a::l).toArray ∘ Nat.succ)=fun j=>decide ((a::l)[j+1]! ≠ (a::l)[j]!):=by funext j; simp [Lib.keeps,Nat.succ_eq_add_one]
  have e2:∀ L:List Nat,(L.map Nat.succ).map (fun j=>(a::l).toArray[j]!)=L.map fun j=>(a::l)[j+1]!:=by intro L; simp [Function.comp_def]
  rw [e1,e2,h1]
  cases hc:zav (a::l) with
  | nil=>rw [hc] at h2; simp at h2
  | cons c r=>rw [hc] at h2; simp at h2; subst h2; simp
theorem zjj:∀ (zs:List Int),(zav zs).length<=zs.length
 | []=>by simp [zav]
 | [_]=>by simp [zav]
 | a::b::l=>by
  have:=zjj (b::l)
  unfold zav
  split
  · simp only [List.length_cons] at *; omega
  · simp only [List.length_cons] at *; omega
theorem zqp {P:Program} {g:FuncId} {e:TypeId} (h1:Own1 P g)
    (hc:∀ (b off cap:Nat) (zs:List Int) (w:World),Holds (Value.int .i64) w b off zs.toArray->zs.length<=9223372036854775807->zs.length<=cap->Calls P g #[.slice (some ⟨b,off,none⟩) zs.length cap] w fun e w' =>
     e = .returned (.slice (some ⟨b,off,none⟩) (Lib.compact zs).length cap) /\ ∃ q,w'=putRow (Value.int .i64) (Sort.ahead w q) b off (Lib.compact zs++List.replicate (zs.length-(Lib.compact zs).length) 0).toArray):ziA P g e:=by
 refine ⟨h1,fun b cap xs w h h0 hl=>?_⟩
 obtain ⟨hH,hb⟩:=zgF h
 have hcap:xs.length<=cap:=by
  obtain ⟨_,h'⟩:=h
  rcases h' with ⟨h',_⟩ | ⟨b',cap',cur,hv,_,hh,hcap,_⟩
  · simp at h'
  · simp only [Value.slice.injEq,Option.some.injEq,Addr.mk.injEq,and_true,true_and] at hv
    obtain ⟨rfl,rfl⟩:=hv
    exact hcap
 refine (hc b 0 cap xs w hH (by omega) hcap).mono ?_
 rintro q w' ⟨rfl,n,rfl⟩
 rw [zo9]
 have hs:=zjj xs
 have hlen:(zav xs++List.replicate (xs.length-(zav xs).length) 0).length=xs.length:=by simp; omega
 obtain ⟨k1,k2⟩:=zoh #[] n h hlen hs
 rw [grow_empty,List.take_left] at k1
 rw [grow_empty] at k2
 exact ⟨rfl,k1,k2⟩
theorem zua {P:Program} {g:FuncId} {e:TypeId} {sz bytes:Nat} {cells:Array Value} (h1:Own1 P g) (hz:cells.size=sz) (hb:bytes<=100000)
    (hr:∀ w,Calls P g #[.slice none 0 0,.int .i64 ((0:Nat):Int)] w fun q w'=>q = .returned (.slice none 0 0)/\w'=w)
    (hg:∀ (n:Nat) (w:World),0 < n->n*bytes<=140737488355328->n<=4611686018427387904->Calls P g #[.slice none 0 0,.int .i64 (n:Int)] w fun q w'=>q = .returned (.slice (some ⟨w.heap.size,0,none⟩) 0 (grownCap w n 0 e)) /\
     w'=w.drew.alloc (.cells (Builtin.zeroCells cells n++Builtin.zeroCells cells (grownCap w n 0 e-n)) e)):zpO P g e sz:=by
 refine ⟨h1,fun n w h0 hn=>?_⟩
 obtain ⟨m,rfl⟩ : ∃ m:Nat,n=(m:Int):=⟨n.toNat,by omega⟩
 rcases Nat.eq_zero_or_pos m with rfl | hm
 · refine (hr w).mono ?_
   rintro q w' ⟨rfl,rfl⟩
   exact ⟨none,0,rfl,World.ownsRow_nil _ _ _ _,⟨rfl,rfl,rfl,Nat.le_refl _⟩,fun _ _=>rfl⟩
 · refine (hg m w hm (Nat.le_trans (Nat.mul_le_mul (show m<=1000000000 by omega) hb) (by decide)) (by omega)).mono ?_
   rintro q w' ⟨rfl,rfl⟩
   have hge:=grownCap_ge w m 0 e
   refine ⟨_,_,rfl,World.ownsRow_made w.drew _ _ (Nat.le_refl _) (grownCap_le_maxLen w m 0 e (by unfold maxLen; omega)) ?_,⟨rfl,rfl,rfl,?_⟩,fun k hk=>by first | exact heap_alloc_old w.drew _ k hk | exact heap_alloc_old w.drew _ hk⟩
   · rw [Array.size_append,size_zeroCells,size_zeroCells,hz,<- Nat.add_mul,Nat.add_sub_cancel' hge]
   · simp
end Go.Proofs.YtdhkgmhdengnkaaGreatDoorPi
namespace Go.Proofs.YtdhkgmhdengnkaaGreatDoorPi
set_option linter.unusedVariables false
set_option linter.unusedSimpArgs false
open Go
end Go.Proofs.YtdhkgmhdengnkaaGreatDoorPi
namespace Go.Proofs.YtdhkgmhdengnkaaGreatDoorPi
set_option linter.unusedVariables false
set_option linter.unusedSimpArgs false
open Go
def flat (D:List (Int×Int)):List Value:=D.flatMap fun p=>[.int .i64 p.1,.int .i64 p.2]
theorem zrX:∀ {D D':List (Int×Int)},flat D=flat D'->D=D'
 | [],[],_=>rfl
 | [],_::_,h=>by simp [flat] at h
 | _::_,[],h=>by simp [flat] at h
 | (a,b)::D,(a',b')::D',h=>by
  simp [flat] at h
  obtain ⟨rfl,rfl,h⟩:=h
  rw [zrX (D:=D) (D':=D') (by simpa [flat] using h)]
theorem znl:∀ D:List (Int×Int),(flat D).length=2*D.length
 | []=>rfl
 | _::D=>by simp only [flat,List.flatMap_cons,List.length_append,List.length_cons,List.length_nil]; have:=znl D; simp only [flat] at this; omega
theorem zub {V:Nat->Prop} {w:World}:∀ (D:List (Int×Int)) (us:List Value),KL (KR V w (.pair (.int .i64) (.int .i64))) D us->us=flat D
 | [],us,h=>h
 | x::D,us,⟨a,b,e,ha,hb⟩=>by
  obtain ⟨p,q,rfl,hp,hq⟩:=ha
  have hp':p=[.int .i64 x.1]:=hp
  have hq':q=[.int .i64 x.2]:=hq
  rw [e,hp',hq',zub D b hb]
  rfl
theorem zth {V:Nat->Prop} {w:World}:∀ (D:List (Int×Int)),KL (KR V w (.pair (.int .i64) (.int .i64))) D (flat D)
 | []=>rfl
 | x::D=>⟨[.int .i64 x.1,.int .i64 x.2],flat D,rfl,⟨[.int .i64 x.1],[.int .i64 x.2],rfl,rfl,rfl⟩,zth D⟩
end Go.Proofs.YtdhkgmhdengnkaaGreatDoorPi
namespace Go.Proofs.YtdhkgmhdengnkaaGreatDoorPi
set_option linter.unusedVariables false
set_option linter.unusedSimpArgs false
open Go
abbrev Dk:=List (Int×Int)×Int
def zqq:Nat->ByteArray->List ByteArray
 | 0,_=>[]
 | k+1,r=>if r.size=0 then [] else if 0<=Lib.indexByte r.data.toList 10 then r.extract 0 ((Lib.indexByte r.data.toList 10).toNat+1)::zqq k (r.extract ((Lib.indexByte r.data.toList 10).toNat+1) r.size) else [r]
def zk6 (st:Dk->ByteArray->Dk×ByteArray) (d:Dk):List ByteArray->Dk×List ByteArray
 | []=>(d,[])
 | x::xs=>((zk6 st (st d x).1 xs).1,(st d x).2::(zk6 st (st d x).1 xs).2)
theorem zpa {st:Dk->ByteArray->Dk×ByteArray}:∀ (xs:List ByteArray) (d:Dk) (x:ByteArray),zk6 st d (xs++[x])=((st (zk6 st d xs).1 x).1,(zk6 st d xs).2++[(st (zk6 st d xs).1 x).2])
 | [],_,_=>rfl
 | y::xs,d,x=>by simp only [List.cons_append,zk6,zpa xs]
theorem zmp {st:Dk->ByteArray->Dk×ByteArray}:∀ (xs:List ByteArray) (d:Dk),(zk6 st d xs).2.length=xs.length
 | [],_=>rfl
 | y::xs,d=>by simp only [zk6,List.length_cons,zmp xs]
theorem zk7:∀ (k:Nat) (r:ByteArray),(zqq k r).length<=k
 | 0,_=>Nat.le_refl _
 | k+1,r=>by
  unfold zqq
  split
  · simp
  · split
    · simp only [List.length_cons]; have:=zk7 k (r.extract ((Lib.indexByte r.data.toList 10).toNat+1) r.size); omega
    · simp
end Go.Proofs.YtdhkgmhdengnkaaGreatDoorPi
namespace Go.Proofs.YtdhkgmhdengnkaaGreatDoorPi
set_option linter.unusedVariables false
set_option linter.unusedSimpArgs false
open Go
theorem zrY {V:Nat->Prop} {w:World}:∀ (xs:List ByteArray),KL (KR V w .str) xs (xs.map Value.string)
 | []=>rfl
 | x::xs=>⟨[.string x],_,rfl,rfl,zrY xs⟩
end Go.Proofs.YtdhkgmhdengnkaaGreatDoorPi
