/- The function that runs a script, walked. -/
import Derived.Test.YtdhkgmhdengnkaaGreatDoorPc
import Derived.RangeFuncNested
import Derived.RangeFuncBound
import Derived.RangeFuncCalls
import Derived.RangeFuncLeaves
import Derived.Shelf.Abstract
import Derived.Shelf.RegionOpen
import Derived.WalkKit
import Derived.OwnWalkIn
import Derived.TacticsInMore
import Derived.LoopNIn
import Derived.LoopIn
import Derived.Shelf.Small.Strs
import Derived.Maps.AppendAt
import Derived.Sort.CutIn
import Derived.Shelf.Strings.Count
import Derived.Shelf.Strings.Prefix
import Derived.Test.YtdhkgmhdengnkaaGreatDoorProg
namespace Go.Proofs.YtdhkgmhdengnkaaGreatDoor.Sc
open Go Go.RowKit Go.Shelf
open Go.Proofs.YtdhkgmhdengnkaaGreatDoorPi (zbl Dk zaM zcg d00 zcq zem)
attribute [local go_sem] Oper.semAt_some
set_option linter.unusedVariables false
set_option linter.unusedSimpArgs false
set_option maxRecDepth 100000
def zn3:Go.Shelf.Ren:=⟨fun | 137=>126 | 217=>185 | 266=>233 | n=>n,fun | 9=>9 | 5=>5 | 3=>3 | n=>n,fun | n=>n⟩
theorem ztX:Go.Proofs.Lays.n137 Tryz.prog zn3 where
 mixed:=by kernel_rfl
 f137:=Tryz.func126.trans (congrArg some (by kernel_rfl))
 f217:=Tryz.func185.trans (congrArg some (by kernel_rfl))
 f266:=Tryz.func233.trans (congrArg some (by kernel_rfl))
 t3:=Tryz.underlying3
 a3:=Tryz.isAgg3
 z3:=Tryz.sizeOf3
 v3:=Tryz.zeroValue3
 t5:=Tryz.underlying5
 a5:=Tryz.isAgg5
 z5:=Tryz.sizeOf5
 v5:=Tryz.zeroValue5
 t9:=Tryz.underlying9
 a9:=Tryz.isAgg9
 z9:=Tryz.sizeOf9
 v9:=Tryz.zeroValue9
theorem zn4:∀ (k m:Nat) (r:ByteArray),r.size<=k->r.size<=m->zbl k r=zbl m r:=by
 intro k
 induction k with
 | zero =>
  intro m r h _
  cases m with
  | zero=>rfl
  | succ m=>unfold zbl; rw [if_pos (by omega)]
 | succ k ih =>
  intro m r h1 h2
  cases m with
  | zero=>unfold zbl; rw [if_pos (by omega)]
  | succ m =>
   unfold zbl
   by_cases hz:r.size=0
   · rw [if_pos hz,if_pos hz]
   · rw [if_neg hz,if_neg hz]
     by_cases hi:0<=Lib.indexByte r.data.toList 10
     · rw [if_pos hi,if_pos hi,ih m]
       · simp only [ByteArray.size_extract]; omega
       · simp only [ByteArray.size_extract]; omega
     · rw [if_neg hi,if_neg hi]
def ztY (W:World) (b:Nat):Nat:=match W.cell? ⟨b,0,none⟩ with | some (.string r)=>r.size | _=>0
theorem zim {W:World} {b:Nat} {r:ByteArray} (h:W.cell? ⟨b,0,none⟩=some (.string r)):ztY W b=r.size:=by unfold ztY; rw [h]
theorem zoU:∀ (l:List UInt8),0<=Lib.indexByte l 10->(Lib.indexByte l 10).toNat < l.length
 | [],h=>by simp [Lib.indexByte] at h
 | b::l,h=>by
  unfold Lib.indexByte at *
  by_cases e:(b == 10)=true
  · rw [if_pos e]; simp
  · rw [if_neg e] at h ⊢
    by_cases e2:(Lib.indexByte l 10 == -1)=true
    · rw [if_pos e2] at h; omega
    · rw [if_neg e2] at h ⊢
      have h1:0<=Lib.indexByte l 10 \/ Lib.indexByte l 10 = -1:=by omega
      rcases h1 with h1 | h1
      · have:=zoU l h1
        simp only [List.length_cons]; omega
      · rw [h1] at e2; simp at e2
set_option maxHeartbeats 4000000 in
theorem zrC (n:Nat) (hn:1<=n) (l Bs:Nat) (s:ByteArray) (hs:s.size<=9223372036854775806) (J:List ByteArray->World->Prop)
    (hcall:∀ (r:ByteArray) (W:World),CallsIn Fence.wide (n-1) Tryz.prog 126 #[.string r,.int .u8 10] W fun e w'=>e = .returned (.int .i64 (Lib.indexByte r.data.toList 10))/\w'=W)
    (hJset:∀ pre W (r:ByteArray),J pre W->J pre (W.setCell ⟨Bs,0,none⟩ (.string r))) (hJdrew:∀ pre W,J pre W->J pre W.drew)
    (hJc:∀ pre W,J pre W->W.frozen? ⟨Bs,0,none⟩=false)
    (hY:∀ pre x W,J pre W->pre.length < s.size->x.size<=s.size->YieldAt Fence.wide (n-1) Tryz.prog l #[.string x] W fun e W' =>
     e = .returned (.bool true)/\J (pre++[x]) W' /\ W'.cell? ⟨Bs,0,none⟩=W.cell? ⟨Bs,0,none⟩)
    (W:World) (hBs:W.cell? ⟨Bs,0,none⟩=some (.string s)) (h0:J [] W) :
    CallsIn Fence.wide n Tryz.prog 125 #[.func (.yield l) #[] #[],.pointer (some ⟨Bs,0,none⟩)] W fun e W'=>(∃ v,e = .returned v)/\J (zbl s.size s) W':=by
 refine callsIn_of_wp Tryz.func125 rfl trivial ?_ rfl
 simp only [Tryz.ntmps125,List.size_toArray,List.length_cons,List.length_nil,Nat.reduceAdd,Nat.reduceSub,Array.replicate_succ,Array.replicate_zero,List.push_toArray,List.append_toArray,List.nil_append,List.cons_append]
 gi_wp2
 gi_loopw [] (fun (wr:World)=>∃ (pre:List ByteArray) (r:ByteArray),wr.cell? ⟨Bs,0,none⟩=some (.string r)/\zbl s.size s=pre++zbl r.size r/\J pre wr/\pre.length+r.size<=s.size)
  (fun (wr:World)=>ztY wr Bs)
 case atStart=>exact ⟨[],s,hBs,rfl,h0,by simp⟩
 case round =>
  obtain ⟨pre,r,hc,hx,hJs,hle⟩:=hrel
  by_cases hz:r.size=0
  · have hno:¬ ((r.size:Int) > 0):=by omega
    gi_wp2
    go_end0
    refine ⟨⟨_,rfl⟩,?_⟩
    simpa [zbl] using hJs
  · have hpos:(r.size:Int) > 0:=by omega
    have hfz:=hJc pre wr hJs
    by_cases hi:0<=Lib.indexByte r.data.toList 10
    · have hilt:=zoU _ hi
      have mixed:Tryz.prog.follows .mixedOrders=true:=by kernel_rfl
      obtain ⟨i,hidx⟩ : ∃ i:Nat,Lib.indexByte r.data.toList 10=(i:Int):=⟨(Lib.indexByte r.data.toList 10).toNat,by omega⟩
      have hil:i < r.size:=by
       rw [hidx] at hilt
       have:r.data.toList.length=r.size:=Array.length_toList
       omega
      have hge:(i:Int) >= 0:=by omega
      have hadd:wrap64 ((i:Int)+1)=(i:Int)+1:=by unfold wrap64; omega
      have hadd2:IntKind.i64.wrap ((i:Int)+1)=(i:Int)+1:=by rw [IntKind.wrap_i64]; omega
      have hc0:(0:Int)<=(i:Int)+1:=by omega
      have hc1:(i:Int)+1<=(r.size:Int):=by omega
      have sl1:=fun (W:World)=>run_slice_string_h (P:=Tryz.prog) (w:=W) (s:=r) (t:=9) (ht:=Tryz.underlying9) (kh:=.i64) (h:=(i:Int)+1) hc0 hc1
      have sl2:=fun (W:World)=>run_slice_string_l (P:=Tryz.prog) (w:=W) (s:=r) (t:=9) (ht:=Tryz.underlying9) (kl:=.i64) (l:=(i:Int)+1) hc0 hc1
      have u9:=run_underlying Tryz.underlying9
      have hb1:i+1<=r.size:=by omega
      have hb2:((i+1:Nat):Int)<=(r.size:Int):=by omega
      have hb3:(0:Int)<=((i+1:Nat):Int):=by omega
      have hb4:(0:Int)<=(r.size:Int):=by omega
      gi_wp2_with (refine ⟨trivial,?_⟩; gi_at_call 126; refine (hcall r _).mono ?_; rintro e w' ⟨rfl,rfl⟩; rw [hidx])
      gi_region_o
      have hJ1:=hJdrew pre _ (hJset pre w' (r.extract (i+1) r.size) hJs)
      have hc1':(w'.setCell { block:=Bs,off:=0 } (Value.string (r.extract (i+1) r.size))).drew.cell? ⟨Bs,0,none⟩=some (.string (r.extract (i+1) r.size)):=World.cell?_setCell_same' _ _ _ (by rw [hc]; rfl)
      obtain ⟨fn,tmps,assign,body,hy,hR⟩:=hY pre (r.extract 0 (i+1)) _ hJ1 (by omega) (by simp only [ByteArray.size_extract]; omega)
      generalize (w'.setCell { block:=Bs,off:=0 } (Value.string (r.extract (i+1) r.size))).drew=W1 at *
      gi_wp2
      refine hR.mono ?_
      rintro e W3 ⟨rfl,hJ3,hc3⟩
      gi_wp2
      go_roundw
      case rel =>
       refine ⟨pre++[r.extract 0 (i+1)],r.extract (i+1) r.size,hc3.trans hc1',?_,hJ3,?_⟩
       · rw [hx]
         obtain ⟨k,hk⟩ : ∃ k,r.size=k+1:=⟨r.size-1,by omega⟩
         have e1:zbl r.size r=r.extract 0 (i+1)::zbl k (r.extract (i+1) r.size):=by
          rw [hk]
          show (if r.size=0 then [] else _)=_
          rw [if_neg hz,if_pos hi,hidx,Int.toNat_natCast,hk]
         have e2:(r.extract (i+1) r.size).size<=k:=by simp only [ByteArray.size_extract]; omega
         rw [e1,zn4 k _ _ e2 (Nat.le_refl _)]
         simp
       · simp only [List.length_append,List.length_cons,List.length_nil,ByteArray.size_extract]
         omega
      case measure =>
       rw [zim (hc3.trans hc1'),zim hc]
       simp only [ByteArray.size_extract]
       omega
    · have hneg:¬ (Lib.indexByte r.data.toList 10 >= 0):=hi
      have hJ1:=hJset pre wr (ByteArray.mk #[]) hJs
      have hc1':(wr.setCell { block:=Bs,off:=0 } (Value.string (ByteArray.mk #[]))).cell? ⟨Bs,0,none⟩=some (.string (ByteArray.mk #[])):=World.cell?_setCell_same' _ _ _ (by rw [hc]; rfl)
      obtain ⟨fn,tmps,assign,body,hy,hR⟩:=hY pre r _ hJ1 (by omega) (by omega)
      gi_wp2_with (refine ⟨trivial,?_⟩; gi_at_call 126; refine (hcall r _).mono ?_; rintro e w' ⟨rfl,rfl⟩)
      refine hR.mono ?_
      rintro e W3 ⟨rfl,hJ3,hc3⟩
      gi_wp2
      go_roundw
      case rel =>
       refine ⟨pre++[r],ByteArray.mk #[],hc3.trans hc1',?_,hJ3,?_⟩
       · rw [hx]
         obtain ⟨k,hk⟩ : ∃ k,r.size=k+1:=⟨r.size-1,by omega⟩
         have e1:zbl r.size r=[r]:=by
          rw [hk]
          show (if r.size=0 then [] else _)=_
          rw [if_neg hz,if_neg (by omega)]
         have e3:(ByteArray.mk #[]).size=0:=rfl
         rw [e1,e3]
         simp [zbl]
       · simp only [List.length_append,List.length_cons,List.length_nil]
         have e3:(ByteArray.mk #[]).size=0:=rfl
         omega
      case measure =>
       rw [zim (hc3.trans hc1'),zim hc]
       have e3:(ByteArray.mk #[]).size=0:=rfl
       omega
def zuR (I:List ByteArray->World->Prop) (Bs:Nat) (xs:List ByteArray) (W:World):Exit->Act->World->Prop
 | .normal,_,W'=>KeepsOthers W W' /\ W'.cell? ⟨Bs,0,none⟩=W.cell? ⟨Bs,0,none⟩/\I xs W'
 | _,_,_=>False
theorem zsA {P:Program} {n:Nat} {g:Operand} {ps:Array Tmp} {assign body:Code} {Q:Exit->Act->World->Prop} {a:Act} {w:World} {gf:Nat} {lb:Array Value} {Bs:Nat} {N:Nat} {xs:List ByteArray}
    (h1:1<=n) (hg:a.eval g = .func (.func gf) #[] lb) (eg:∀ args w,(callFunc gf args).run P w = .ok (.enter gf args) w) (hps:ps.size=1) (hB:Bs < w.heap.size)
    (hseq:∀ (l:Nat) (J:List ByteArray->World->Prop) (W:World),(∀ pre W (r:ByteArray),J pre W->J pre (W.setCell ⟨Bs,0,none⟩ (.string r)))->(∀ pre W,J pre W->J pre W.drew)->(∀ pre W,J pre W->W.frozen? ⟨Bs,0,none⟩=false) ->
     (∀ pre x W,J pre W->pre.length < N->x.size<=N->YieldAt Fence.wide (n-1-1) P l #[.string x] W fun e W'=>e = .returned (.bool true)/\J (pre++[x]) W' /\ W'.cell? ⟨Bs,0,none⟩=W.cell? ⟨Bs,0,none⟩) ->
     W.cell? ⟨Bs,0,none⟩=w.cell? ⟨Bs,0,none⟩->J [] W->CallsIn Fence.wide (n-1) P gf (#[.func (.yield l) #[] #[]]++lb) W fun e W'=>(∃ v,e = .returned v)/\J xs W')
    (I:List ByteArray->World->Prop) (hIal:∀ pre W (o:Obj),I pre W->I pre (W.alloc o)) (hIput:∀ pre W l (o o':Obj),w.heap.size<=l->I pre W->W.heap[l]? = some o->o.isCells=false->I pre (W.putObj l o')) (hIset:∀ pre W (r:ByteArray),I pre W->I pre (W.setCell ⟨Bs,0,none⟩ (.string r))) (hIdrew:∀ pre W,I pre W->I pre W.drew) (hIc:∀ pre W,I pre W->W.frozen? ⟨Bs,0,none⟩=false) (h0:I [] w) (a₁:ByteArray->Act)
    (hassign:∀ (l:Nat) (x:ByteArray) (W:World) (K:Act->World->Prop),K (a₁ x) W ->
     assign.wpIn (Fence.wide.inRound l) (n-1-1) P (Exit.then K (fun _ _ _=>False)) { tmps:=(ps.zip #[Value.string x]).foldl (fun t (p,v)=>t.setIfInBounds p v) a.tmps,defers:=[] } W)
    (hbody:∀ (l:Nat) (pre:List ByteArray) (x:ByteArray) (W:World),I pre W->pre.length < N->x.size<=N->body.wpIn (Fence.wide.inRound l) (n-1-1) P (zuR I Bs (pre++[x]) W) (a₁ x) W)
    (hdone:∀ (W:World),I xs W->W.heap[w.heap.size]? = some (.deferred (some []))->Q .normal { a with defers:={ target:=.collected w.heap.size,args:=#[] } :: a.defers } W) :
    (Code.rangeFunc g ps assign body).wpIn Fence.wide n P Q a w:=by
 refine wpIn_rangeFunc fun fn hfn=>?_
 obtain ⟨rec,hrec⟩ : ∃ rec:LoopState->Option Code->Loop,rec=fun st pe=>{ state:=st,pending:=pe,fn,tmps:=a.tmps,params:=ps,assign,body,defers:=w.heap.size }:=⟨_,rfl⟩
 obtain ⟨W1,hW1⟩ : ∃ W1,(w.alloc (.deferred (some []))).alloc (.loop (rec .ready none))=W1:=⟨_,rfl⟩
 have sz:W1.heap.size=w.heap.size+2:=by rw [<- hW1]; simp
 have rL:W1.heap[w.heap.size+1]? = some (.loop (rec .ready none)):=by
  have h:=World.alloc_heap_new (w.alloc (.deferred (some []))) (.loop (rec .ready none))
  rw [World.size_alloc] at h
  rw [<- hW1]; exact h
 have rD:W1.heap[w.heap.size]? = some (.deferred (some [])):=by
  rw [<- hW1]; exact (Below.heap_alloc _ _ _ (by simp)).trans (World.alloc_heap_new w _)
 have rI:I [] W1:=by rw [<- hW1]; exact hIal _ _ _ (hIal _ _ _ h0)
 have rB:W1.cell? ⟨Bs,0,none⟩=w.cell? ⟨Bs,0,none⟩:=by
  refine World.cell?_of_block (?_:W1.heap[Bs]? = w.heap[Bs]?)
  rw [<- hW1]
  exact (Below.heap_alloc _ _ _ (by simp; omega)).trans (Below.heap_alloc _ _ _ hB)
 refine ⟨w.heap.size+1,[{ target:=.collected w.heap.size,args:=#[] }],W1,{ target:=.fn (.func gf) lb,args:=#[.func (.yield (w.heap.size+1)) #[] #[]] },W1,gf,
  #[.func (.yield (w.heap.size+1)) #[] #[]]++lb,W1,?_,?_,?_,?_,fun _=>h1,?_⟩
 · rw [<- hW1,hrec]; exact run_enterLoop_outer _ _ _ _ _
 · simp only [resolve,hg]; simp [go_sem]
 · intro f' _; trivial
 · simp [invoke,go_sem,eg]
 · refine (hseq (w.heap.size+1) (fun pre W=>I pre W/\W.heap[w.heap.size+1]? = some (.loop (rec .ready none))/\W.heap[w.heap.size]? = some (.deferred (some []))) W1
    (fun pre W r h=>⟨hIset pre W r h.1,(Below.heap_setCell W ⟨Bs,0,none⟩ _ _ (show w.heap.size+1 ≠ Bs by omega)).trans h.2.1,(Below.heap_setCell W ⟨Bs,0,none⟩ _ _ (show w.heap.size ≠ Bs by omega)).trans h.2.2⟩)
    (fun pre W h=>⟨hIdrew pre W h.1,h.2.1,h.2.2⟩) (fun pre W h=>hIc pre W h.1) ?_ rB ⟨rI,rL,rD⟩).mono ?_
   · rintro pre x W ⟨hi,hl,hk⟩ hlen hxs
     have hlt:w.heap.size+1 < W.heap.size:=(Array.getElem?_eq_some_iff.1 hl).1
     have hy:=run_yield (P:=P) (args:=#[Value.string x]) hl (by rw [hrec]; exact hps.symm)
     rw [hrec] at hy
     refine ⟨fn,_,assign,body,hy,roundIn_of_wpIn hfn (hassign _ x W _ ⟨_,run_beginRound hl (by rw [hrec]),?_⟩)⟩
     have hl2:(W.putObj (w.heap.size+1) (.loop { rec .ready none with state:=.busy })).heap[w.heap.size+1]? = some (.loop { rec .ready none with state:=.busy }):=World.putObj_heap_same hlt
     have hk2:(W.putObj (w.heap.size+1) (.loop { rec .ready none with state:=.busy })).heap[w.heap.size]? = some (.deferred (some [])):=(World.putObj_heap_other (by omega)).trans hk
     have hc2:(W.putObj (w.heap.size+1) (.loop { rec .ready none with state:=.busy })).cell? ⟨Bs,0,none⟩=W.cell? ⟨Bs,0,none⟩:=World.cell?_of_block (World.putObj_heap_other (show Bs ≠ w.heap.size+1 by omega))
     refine wpIn_mono (hbody _ pre x _ (hIput _ _ _ _ _ (by omega) hi hl rfl) hlen hxs) ?_
     rintro e a3 W3 hp
     cases e with
     | normal =>
      obtain ⟨hk3,hc3,hi3⟩:=hp
      have hl3:=hk3.same _ _ hl2 rfl
      have hr:=run_endRound (P:=P) none hl3
      rw [hrec] at hr hl3
      refine ⟨_,_,hr,rfl,⟨?_,?_,?_⟩,?_⟩
      · exact hIput _ _ _ _ _ (by omega) hi3 hl3 rfl
      · rw [hrec]; exact World.putObj_heap_same (Array.getElem?_eq_some_iff.1 hl3).1
      · exact (World.putObj_heap_other (by omega)).trans (hk3.same _ _ hk2 rfl)
      · exact ((World.cell?_of_block (World.putObj_heap_other (show Bs ≠ w.heap.size+1 by omega))).trans hc3).trans hc2
     | ret=>exact hp.elim
     | exit id=>exact hp.elim
     | goto t=>exact hp.elim
     | panic ch=>exact hp.elim
     | outgrown=>exact hp.elim
   · rintro e W2 ⟨⟨v,rfl⟩,hi,hl,hk⟩
     have hr:=run_endLoop (P:=P) hl (by rw [hrec]; simp)
     rw [hrec] at hr
     exact ⟨none,_,hr,hdone _ (hIput _ _ _ _ _ (by omega) hi hl rfl) ((World.putObj_heap_other (by omega)).trans hk)⟩
theorem zmQ {P:Program} (w:World) (base:Nat) (t ty e:TypeId) (i:TypeInfo) (z:Value) (size bytes:Nat) (ht:P.underlying t=some (.slice e)) (hi:P.info? e=some i) (hz:i.zero=some z)
    (hsize:i.size=size) (hby:i.bytes=bytes) (v:Value) (n:Nat) (xs:List Value) (hown:w.ownsRow base e size v n xs)
    (a:Addr) (m c:Nat) (news:List Value) (hl:news.length=m*size) (hnews:∀ j u,news[j]? = some u->w.cell? (a.add j)=some u) (h1:∀ u∈news,u.oneCell'=true)
    (hm:0 < m) (h63:n+m<=maxLen) (hbytes:(n+m)*bytes<=140737488355328) {v':Value} {w':World} (hr:(Builtin.append_ #[t,t] ty #[v,.slice (some a) m c]).run P w = .ok v' w') :
    v'.ownBlock=v.ownBlock \/ v'.ownBlock=some w.heap.size:=by
 subst hsize
 subst hby
 have hsmall:n+m<=9223372036854775807:=by simp only [maxLen] at h63; omega
 rcases hown.2 with ⟨rfl,rfl⟩ | ⟨g,cap,cur,rfl,hbg,hg,hnc,hcm,hcs,htake⟩
 · have h:=run_append_nil (P:=P) w t ty e i z ht hi hz a m c news hl hnews hm (by omega) (by have hb:=hbytes; simp only [Nat.zero_add] at hb; omega)
   rw [h] at hr
   injection hr with hv hw
   subst hv
   exact .inr rfl
 · by_cases hroom:n+m<=cap
   · obtain ⟨w2,h,_,_⟩:=run_append_fits (P:=P) w base t ty e i _ ht hi rfl g n cap xs hown a m c news hl hnews h1 hroom
     rw [h] at hr
     injection hr with hv hw
     subst hv
     exact .inl rfl
   · have holds:∀ j u,xs[j]? = some u->w.cell? ((⟨g,0,none⟩ : Addr).add j)=some u:=hown.cells (g:=g) rfl
     have h:=run_append_grow (P:=P) w t ty e i z ht hi hz ⟨g,0,none⟩ n cap xs hown.1 holds a m c news hl hnews (by omega) (by omega) (growslice_fits (by omega) hbytes)
     rw [h] at hr
     injection hr with hv hw
     subst hv
     exact .inr rfl
theorem zgH {F:Fence} {n:Nat} {P:Program} (w:World) {ops:Array Oper} {rest:List Oper} {o:Oper} {a:Act} {Q:Exit->Act->World->Prop}
    (hg:o.guard=none) (s x:Operand) (t:TypeId) (hop:o.op=Op.call { callee:=Callee.builtin Builtin.append,args:=#[s,x],argTypes:=#[t,t] })
    (base:Nat) (e:TypeId) (i:TypeInfo) (z:Value) (size bytes:Nat) (h1:P.underlying t=some (.slice e)) (h2:P.info? e=some i) (h3:i.zero=some z) (h4:i.size=size) (h5:i.bytes=bytes) (h6:z.cells.size=size) (h7:0 < size)
    (v:Value) (k:Nat) (xs:List Value) (hs:a.eval s=v) (hown:w.ownsRow base e size v k xs) (ad:Addr) (m c:Nat) (news:List Value) (hx:a.eval x = .slice (some ad) m c) (hn:news.length=m*size)
    (hc:∀ j u,news[j]? = some u->w.cell? (ad.add j)=some u) (h1c:∀ u∈news,u.oneCell'=true) (hm:0 < m) (b1:k+m<=maxLen) (b2:(k+m)*bytes<=140737488355328) (b3:base<=w.heap.size)
    (hK:∀ v' w',w'.ownsRow base e size v' (k+m) (xs++news)->w.grownBy w' v.ownBlock->(v'.ownBlock=v.ownBlock \/ v'.ownBlock=some w.heap.size)->wpListIn F n P ops Q rest (a.put o.dst v') w') :
    wpListIn F n P ops Q (o::rest) a w:=by
 refine wpListIn_plain hg fun K hK'=>?_
 obtain ⟨v',w',hrun,r1,r2,r3⟩:=run_append_own (P:=P) w base t o.type e i z size bytes h1 h2 h3 h4 h5 h6 h7 v k xs hown ad m c news hn hc h1c b1 b2 b3
 have r4:=zmQ (P:=P) w base t o.type e i z size bytes h1 h2 h3 h4 h5 v k xs hown ad m c news hn hc h1c hm b1 b2 hrun
 unfold Oper.wpIn
 refine ⟨?_,?_⟩
 · simp [Oper.about,hop,resolve,Target.leads,Sem.run_pure]
 · rw [Oper.semAt_plain F _ _ (by rw [hop]; intro c hc'; cases hc')]
   simp [execOp,hop,resolve,invoke,builtin,hs,hx,hrun,Result.andThen]
   exact hK' _ _ (hK v' w' r1 r2 r4)
def DS (no:Nat->Prop) (W:World) (D:List (Int×Int)) (u:Value):Prop :=
 ∃ A c,u = .slice A D.length c/\D.length<=c/\(D.length=0 \/ ∃ g o cs e f,A=some ⟨g,o,none⟩/\¬ no g/\W.heap[g]? = some (.cells cs e f)/\Go.Proofs.YtdhkgmhdengnkaaGreatDoorPi.lies W g o (Go.Proofs.YtdhkgmhdengnkaaGreatDoorPi.flat D))
theorem DS.keep {no no':Nat->Prop} {W W':World} {D:List (Int×Int)} {u:Value} (h:DS no W D u) (hk:∀ g cs e f,¬ no g->W.heap[g]? = some (.cells cs e f)->¬ no' g/\W'.heap[g]? = W.heap[g]?):DS no' W' D u:=by
 obtain ⟨A,c,hu,hc,h⟩:=h
 refine ⟨A,c,hu,hc,h.imp id ?_⟩
 rintro ⟨g,o,cs,e,f,hA,hn,hg,hl⟩
 obtain ⟨h1,h2⟩:=hk g cs e f hn hg
 exact ⟨g,o,cs,e,f,hA,h1,h2.trans hg,hl.mono h2⟩
theorem DS.below {no:Nat->Prop} {W W':World} {D:List (Int×Int)} {u:Value} (h:DS no W D u) (hb:Below W.heap.size W W'):DS no W' D u :=
 h.keep fun g cs e f hn hg=>⟨hn,hb.block g (Array.getElem?_eq_some_iff.1 hg).1⟩
theorem DS.grown {no:Nat->Prop} {W W':World} {row:Option Nat} {D:List (Int×Int)} {u:Value} (h:DS no W D u) (hb:W.grownBy W' row) (hr:∀ r,row=some r->no r):DS no W' D u :=
 h.keep fun g cs e f hn hg=>⟨hn,hb.block g (Array.getElem?_eq_some_iff.1 hg).1 fun e=>hn (hr g e.symm)⟩
theorem zds {n:Nat} {w W W':World} {row:Option Nat} (h:Below n w W) (hg:W.grownBy W' row) (hr:∀ r,row=some r->n<=r) (hn:n<=W.heap.size):Below n w W' :=
 ⟨hg.os.trans h.os,hg.tape.trans h.tape,hg.output.trans h.output,Nat.le_trans h.size hg.size,fun g hlt=>(hg.block g (Nat.lt_of_lt_of_le hlt hn) fun e=>absurd (hr g e.symm) (by omega)).trans (h.block g hlt)⟩
def bad (n0 B:Nat) (v:Value) (g:Nat):Prop:=g < n0 \/ g=B \/ g=B+1 \/ g=B+2 \/ some g=v.ownBlock
def Inv (st:Dk->ByteArray->Dk×ByteArray) (ok:Dk->Prop) (n0 B:Nat) (w0:World) (pre:List ByteArray) (W:World):Prop :=
 Below n0 w0 W/\n0<=B/\w0.heap.size=n0/\ok (zaM st d00 (pre.map zcg)).1 /\ ∃ u v s',W.heap[B]? = some (.cells #[u,.int .i64 (zaM st d00 (pre.map zcg)).1.2] 24 (0,0))/\Boxed W (B+1) 41 v/\Boxed W (B+2) 9 (.string s') /\
  W.ownsRow (B+3) 9 1 v (zaM st d00 (pre.map zcg)).2.length ((zaM st d00 (pre.map zcg)).2.map Value.string)/\DS (bad n0 B v) W (zaM st d00 (pre.map zcg)).1.1 u
theorem Inv.grown {st:Dk->ByteArray->Dk×ByteArray} {ok:Dk->Prop} {n0 B:Nat} {w0 W W':World} {pre:List ByteArray} {row:Option Nat} (h:Inv st ok n0 B w0 pre W) (hg:W.grownBy W' row)
    (hr:∀ r,row=some r->n0<=r /\ ∃ o:Obj,W.heap[r]? = some o/\o.isCells=false):Inv st ok n0 B w0 pre W':=by
 obtain ⟨hb,hn,hw,hok,u,v,s',h1,h2,h3,h4,h5⟩:=h
 have hlt:B < W.heap.size:=(Array.getElem?_eq_some_iff.1 h1).1
 have no:∀ {g:Nat} {cs e f},W.heap[g]? = some (.cells cs e f)->some g ≠ row:=fun {g cs e f} hc e'=>by
  obtain ⟨_,o,ho,hc'⟩:=hr g e'.symm
  rw [hc] at ho
  cases ho
  cases hc'
 refine ⟨zds hb hg (fun r e=>(hr r e).1) (by omega),hn,hw,hok,u,v,s',(hg.block B hlt (no h1)).trans h1,h2.kept hg (no h2),h3.kept hg (no h3),h4.kept hg ?_,?_⟩
 · rcases h4.2 with ⟨rfl,_⟩ | ⟨g,cap,cur,rfl,_,hgb,_⟩
   · exact .inl rfl
   · exact .inr (no hgb)
 · exact h5.keep fun g cs e f hn hgc=>⟨hn,hg.block g (Array.getElem?_eq_some_iff.1 hgc).1 (no hgc)⟩
theorem Inv.set {st:Dk->ByteArray->Dk×ByteArray} {ok:Dk->Prop} {n0 B:Nat} {w0 W:World} {pre:List ByteArray} (r:ByteArray) (h:Inv st ok n0 B w0 pre W):Inv st ok n0 B w0 pre (W.setCell ⟨B+2,0,none⟩ (.string r)):=by
 obtain ⟨hb,hn,hw,hok,u,v,s',h1,h2,h3,h4,h5⟩:=h
 have hlt:B < W.heap.size:=(Array.getElem?_eq_some_iff.1 h1).1
 have hg:=grownBy_setCell' W (B+2) (.string r)
 refine ⟨zds hb hg (fun r e=>by cases e; omega) (by omega),hn,hw,hok,u,v,r,(hg.block B hlt (by simp)).trans h1,h2.kept hg (by simp),h3.set _,h4.kept hg ?_,h5.grown hg fun r e=>by cases e; exact .inr (.inr (.inr (.inl rfl)))⟩
 rcases h4.2 with ⟨rfl,_⟩ | ⟨g,cap,cur,rfl,hbg,_⟩
 · exact .inl rfl
 · exact .inr (by simp [Value.ownBlock]; omega)
theorem zmR (W:World):W.grownBy W.drew none:=⟨rfl,rfl,rfl,Nat.le_refl _,fun _ _ _=>rfl⟩
theorem Inv.drew {st:Dk->ByteArray->Dk×ByteArray} {ok:Dk->Prop} {n0 B:Nat} {w0 W:World} {pre:List ByteArray} (h:Inv st ok n0 B w0 pre W):Inv st ok n0 B w0 pre W.drew:=h.grown (zmR W) nofun
theorem Inv.alloc {st:Dk->ByteArray->Dk×ByteArray} {ok:Dk->Prop} {n0 B:Nat} {w0 W:World} {pre:List ByteArray} (o:Obj) (h:Inv st ok n0 B w0 pre W):Inv st ok n0 B w0 pre (W.alloc o):=h.grown (World.grownBy_alloc W o none) nofun
theorem Inv.putObj {st:Dk->ByteArray->Dk×ByteArray} {ok:Dk->Prop} {n0 B l:Nat} {w0 W:World} {pre:List ByteArray} {o:Obj} (o':Obj) (hl:n0<=l) (h:Inv st ok n0 B w0 pre W) (ho:W.heap[l]? = some o) (hc:o.isCells=false):Inv st ok n0 B w0 pre (W.putObj l o') :=
 h.grown (grownBy_putObj' W l o') fun r e=>by cases e; exact ⟨hl,o,ho,hc⟩
def LineOk (st:Dk->ByteArray->Dk×ByteArray) (ok:Dk->Prop) (Q:World->Prop):Prop :=
 ∀ (d:Dk) (l:ByteArray),ok d->l.size<=100000->ok (st d l).1 /\ ∀ (u:Value) (w:World) (no0:Nat->Prop),DS no0 w d.1 u->Q w->Calls Tryz.prog 48 #[.agg #[u,.int .i64 d.2],.string l] w fun e w' =>
  ∃ A c,e = .returned (.tuple #[.agg #[.slice A (st d l).1.1.length c,.int .i64 (st d l).1.2],.string (st d l).2])/\(∀ no,(∀ g,no g->g < w.heap.size)->DS no w d.1 u->DS no w' (st d l).1.1 (.slice A (st d l).1.1.length c))/\Below w.heap.size w w'
theorem zmS {W:World} {B:Nat} {u v:Value} {t:TypeId} (h:W.heap[B]? = some (.cells #[u,v] t (0,0))):W.cell? ⟨B,0,none⟩=some u/\W.cell? ⟨B,1,none⟩=some v/\W.frozen? ⟨B,0,none⟩=false/\W.frozen? ⟨B,1,none⟩=false:=by
 refine ⟨?_,?_,?_,?_⟩ <;> simp [World.cell?,World.frozen?,h]
noncomputable def body40:Code:=match Tryz.f40.body with
 | some (.seq _ (.seq _ (.seq _ (.seq _ (.seq (.seq _ (.block _ (.rangeFunc _ _ _ b))) _)))))=>b
 | _=>.skip
theorem zjU {W:World} {B:Nat} {a b x y:Value} {t:TypeId} (h:W.heap[B]? = some (.cells #[a,b] t (0,0))):((W.setCell ⟨B,0,none⟩ x).setCell ⟨B,1,none⟩ y).heap[B]? = some (.cells #[x,y] t (0,0)):=by
 obtain ⟨hlt,hk⟩:=Array.getElem?_eq_some_iff.1 h
 have h1:(W.setCell ⟨B,0,none⟩ x).heap[B]? = some (.cells #[x,b] t (0,0)):=by
  show (W.heap.modify B _)[B]? = _
  rw [Array.getElem?_eq_getElem (by rw [Array.size_modify]; exact hlt),Array.getElem_modify_self,hk]
  rfl
 obtain ⟨hlt,hk⟩:=Array.getElem?_eq_some_iff.1 h1
 show ((W.setCell ⟨B,0,none⟩ x).heap.modify B _)[B]? = _
 rw [Array.getElem?_eq_getElem (by rw [Array.size_modify]; exact hlt),Array.getElem_modify_self,hk]
 rfl
theorem zbh {W:World} {B k o:Nat} {x:Value} (h:k ≠ B):(W.setCell ⟨B,o,none⟩ x).heap[k]? = W.heap[k]?:=Below.heap_setCell _ _ _ _ h
def Mid (n0 B:Nat) (v:Value) (W W4:World) (D':List (Int×Int)) (n':Int) (g8:Nat) (u':Value):Prop :=
 Below W.heap.size W W4/\W.heap.size<=g8/\W4.heap[g8]? = some (.cells #[u',.int .i64 n'] 24 (0,0))/\DS (fun g=>bad n0 B v g \/ g=g8) W4 D' u'
theorem zuS {n0 B g:Nat} {v:Value} {W:World} {k:Nat} {xs:List Value} (h:bad n0 B v g) (hn:n0<=B) (hB:B+2 < W.heap.size) (hr:W.ownsRow (B+3) 9 1 v k xs):g < W.heap.size:=by
 rcases h with h | h | h | h | h
 · omega
 · omega
 · omega
 · omega
 · exact (hr.lt g h.symm).2
theorem zrD {n0 B:Nat} {v:Value} {W w4:World} {D D':List (Int×Int)} {n':Int} {u u':Value} (hbl:∀ g,bad n0 B v g->g < W.heap.size) (hD:DS (bad n0 B v) W D u) (hb:Below W.heap.size W.drew w4)
    (hd:∀ no,(∀ g,no g->g < W.drew.heap.size)->DS no W.drew D u->DS no w4 D' u'):Mid n0 B v W (w4.alloc (.cells #[u',.int .i64 n'] 24)) D' n' w4.heap.size u':=by
 have h1:Below W.heap.size W w4:=⟨hb.os,hb.tape,hb.output,hb.size,hb.block⟩
 refine ⟨h1.alloc hb.size _,hb.size,World.alloc_heap_new w4 _,?_⟩
 refine (hd _ hbl hD).keep fun g cs e f hn hg=>?_
 have:=(Array.getElem?_eq_some_iff.1 hg).1
 exact ⟨fun h=>by rcases h with h | h; exact hn h; omega,Below.heap_alloc _ _ _ this⟩
theorem zpR {n0 B:Nat} {v:Value} {W w4:World} {D D':List (Int×Int)} {n':Int} {u u' z z':Value} (hbl:∀ g,bad n0 B v g->g < W.heap.size) (hD:DS (bad n0 B v) W D u) (hb0:Below (W.drew.alloc (.cells #[z,z'] 24)).heap.size (W.drew.alloc (.cells #[z,z'] 24)) w4)
    (hd:∀ no,(∀ g,no g->g < (W.drew.alloc (.cells #[z,z'] 24)).heap.size)->DS no (W.drew.alloc (.cells #[z,z'] 24)) D u->DS no w4 D' u'):Mid n0 B v W ((w4.setCell ⟨W.heap.size,0,none⟩ u').setCell ⟨W.heap.size,1,none⟩ (.int .i64 n')) D' n' W.heap.size u':=by
 have hb:Below (W.heap.size+1) (W.drew.alloc (.cells #[z,z'] 24)) w4:=by simpa only [World.size_alloc,World.size_drew] using hb0
 have h1:Below W.heap.size W w4:=((⟨rfl,rfl,rfl,Nat.le_refl _,fun _ _=>rfl⟩ : Below W.heap.size W W.drew).alloc (Nat.le_refl _) _).trans ⟨hb.os,hb.tape,hb.output,hb.size,fun k hk=>hb.block k (by omega)⟩
 have h2:w4.heap[W.heap.size]? = some (.cells #[z,z'] 24 (0,0)):=(hb.block _ (by omega)).trans (World.alloc_heap_new W.drew _)
 refine ⟨(h1.setCell (p:=⟨W.heap.size,0,none⟩) (Nat.le_refl _) _).setCell (p:=⟨W.heap.size,1,none⟩) (Nat.le_refl _) _,Nat.le_refl _,zjU h2,?_⟩
 have h3:DS (fun g=>bad n0 B v g \/ g=W.heap.size) (W.drew.alloc (.cells #[z,z'] 24)) D u:=hD.keep fun g cs e f hn hg=>by
  have:=(Array.getElem?_eq_some_iff.1 hg).1
  exact ⟨fun h=>by rcases h with h | h; exact hn h; omega,Below.heap_alloc W.drew _ _ this⟩
 refine (hd _ (fun g h=>?_) h3).keep fun g cs e f hn hg=>⟨hn,?_⟩
 · have:(W.drew.alloc (.cells #[z,z'] 24)).heap.size=W.heap.size+1:=by simp
   rcases h with h | h
   · have:=hbl g h; omega
   · omega
 · have:g ≠ W.heap.size:=fun h=>hn (.inr h)
   rw [zbh this,zbh this]
theorem ztZ:(Tryz.prog.info? 9).map (fun i=>(i.zero,i.size,i.bytes))=some (some (.string ⟨#[]⟩),1,16):=by kernel_rfl
theorem zsB {W W':World} (hs:W.heap.size<=W'.heap.size) (h:∀ k,(∀ cs e f,W.heap[k]? ≠ some (.cells cs e f))->k < W.heap.size->W'.heap[k]? = W.heap[k]?):KeepsOthers W W' :=
 ⟨hs,fun k o hk ho=>(h k (fun cs e f hc=>by rw [hk] at hc; cases hc; cases ho) (Array.getElem?_eq_some_iff.1 hk).1).trans hk⟩
theorem zt0 {st:Dk->ByteArray->Dk×ByteArray} {ok:Dk->Prop} {n0 B:Nat} {w0 W W5 w1:World} {pre:List ByteArray} {x:ByteArray} {d:Dk} {rs:List ByteArray} {y:ByteArray} {u u' v v':Value} {s':ByteArray} {n:Int}
    (hrl:zaM st d00 ((pre++[x]).map zcg)=(d,rs++[y])) (hok:ok d) (hbel:Below n0 w0 W) (hnB:n0<=B) (hw0:w0.heap.size=n0)
    (hB:W.heap[B]? = some (.cells #[u,.int .i64 n] 24 (0,0))) (hB6:Boxed W (B+1) 41 v) (hBs:Boxed W (B+2) 9 (.string s')) (hrow:W.ownsRow (B+3) 9 1 v rs.length (rs.map Value.string))
    (hg5:W.grownBy W5 (some B)) (h5B:W5.heap[B]? = some (.cells #[u',.int .i64 d.2] 24 (0,0))) (hD5:DS (bad n0 B v) W5 d.1 u')
    (hown':w1.ownsRow (B+3) 9 1 v' (rs.length+1) (rs.map Value.string++[.string y])) (hgrow:(W5.alloc (.cells #[.string y] 9)).grownBy w1 v.ownBlock) (hblk:v'.ownBlock=v.ownBlock \/ v'.ownBlock=some (W5.heap.size+1)) :
    KeepsOthers W (w1.setCell ⟨B+1,0,none⟩ v')/\(w1.setCell ⟨B+1,0,none⟩ v').cell? ⟨B+2,0,none⟩=W.cell? ⟨B+2,0,none⟩/\Inv st ok n0 B w0 (pre++[x]) (w1.setCell ⟨B+1,0,none⟩ v'):=by
 have hlt:=hBs.lt
 have hs5:=hg5.size
 have hvne:∀ k,k < B+3->some k ≠ v.ownBlock:=fun k hk e=>by have:=(hrow.lt k e.symm).1; omega
 have hvne':∀ k,k < B+3->some k ≠ v'.ownBlock:=fun k hk e=>by have:=(hown'.lt k e.symm).1; omega
 have e1:∀ k,k < W5.heap.size->some k ≠ v.ownBlock->w1.heap[k]? = W5.heap[k]?:=fun k hk hn=>(hgrow.block k (by rw [World.size_alloc]; omega) hn).trans (Below.heap_alloc _ _ _ hk)
 have e2:∀ k,k < W.heap.size->k ≠ B->some k ≠ v.ownBlock->w1.heap[k]? = W.heap[k]?:=fun k hk hB hn=>(e1 k (by omega) hn).trans (hg5.block k hk fun e=>hB (by cases e; rfl))
 have hsz1:W.heap.size<=w1.heap.size:=by have:=hgrow.size; rw [World.size_alloc] at this; omega
 have hsz:(w1.setCell ⟨B+1,0,none⟩ v').heap.size=w1.heap.size:=by simp
 have b6:Boxed w1 (B+1) 41 v:=(e2 _ (by omega) (by omega) (hvne _ (by omega))).trans hB6
 have bs:Boxed w1 (B+2) 9 (.string s'):=(e2 _ (by omega) (by omega) (hvne _ (by omega))).trans hBs
 have hB1:w1.heap[B]? = some (.cells #[u',.int .i64 d.2] 24 (0,0)):=(e1 B (by omega) (hvne _ (by omega))).trans h5B
 have g6:=grownBy_setCell' w1 (B+1) v'
 have hcell:(w1.setCell ⟨B+1,0,none⟩ v').heap[B+2]? = W.heap[B+2]?:=(zbh (by omega)).trans (e2 _ (by omega) (by omega) (hvne _ (by omega)))
 have hvb:∀ k,some k=v.ownBlock->∃ cs,W.heap[k]? = some (.cells cs 9 (0,0)):=fun k e=>by
  rcases hrow.2 with ⟨rfl,_⟩ | ⟨g,cap,cur,rfl,_,hgb,_⟩
  · cases e
  · cases e; exact ⟨cur,hgb⟩
 refine ⟨zsB (by rw [hsz]; exact hsz1) fun k hk hl=>?_,World.cell?_of_block hcell,?_,hnB,hw0,?_,u',v',s',?_,?_,?_,?_,?_⟩
 · have k1:k ≠ B:=fun e=>hk _ _ _ (e ▸ hB)
   have k2:k ≠ B+1:=fun e=>hk _ _ _ (e ▸ hB6)
   have k3:some k ≠ v.ownBlock:=fun e=>by obtain ⟨cs,hc⟩:=hvb k e; exact hk _ _ _ hc
   exact (zbh k2).trans (e2 k hl k1 k3)
 · have b1:Below n0 w0 W5:=zds hbel hg5 (fun r e=>by cases e; omega) (by omega)
   have b2:Below n0 w0 (W5.alloc (.cells #[.string y] 9)):=b1.alloc (by omega) _
   have b3:Below n0 w0 w1:=zds b2 hgrow (fun r e=>by have:=(hrow.lt r e).1; omega) (by rw [World.size_alloc]; omega)
   exact zds b3 g6 (fun r e=>by cases e; omega) (by omega)
 · rw [hrl]; exact hok
 · rw [hrl]; exact (zbh (by omega)).trans hB1
 · exact b6.set v'
 · exact bs.kept g6 (by simp)
 · rw [hrl]
   rw [List.length_append,List.length_cons,List.length_nil,List.map_append,List.map_cons,List.map_nil]
   refine hown'.kept g6 ?_
   cases hx:v'.ownBlock with
   | none=>exact .inl rfl
   | some k=>refine .inr fun e=>?_; cases e; exact hvne' (B+1) (by omega) hx.symm
 · rw [hrl]
   refine hD5.keep fun g cs e f hn hg=>?_
   have hgl:=(Array.getElem?_eq_some_iff.1 hg).1
   have n1:some g ≠ v.ownBlock:=fun e=>hn (.inr (.inr (.inr (.inr e))))
   refine ⟨fun h=>?_,(zbh fun e=>hn (.inr (.inr (.inl e)))).trans (e1 g hgl n1)⟩
   rcases h with h | h | h | h | h
   · exact hn (.inl h)
   · exact hn (.inr (.inl h))
   · exact hn (.inr (.inr (.inl h)))
   · exact hn (.inr (.inr (.inr (.inl h))))
   · rcases hblk with hb | hb
     · exact n1 (h.trans hb)
     · rw [hb] at h; cases h; omega
set_option maxHeartbeats 8000000 in
theorem zt1 {st:Dk->ByteArray->Dk×ByteArray} {ok:Dk->Prop} {Q:World->Prop} (hst:LineOk st ok Q)
    (h76:∀ s p w,s.size<=9223372036854775807->Calls Tryz.prog 76 #[.string s,.string p] w fun e w'=>e = .returned (.string ⟨(Lib.trimSuffix s.data.toList p.data.toList).toArray⟩)/\w'=w)
    {n0 B:Nat} {w0:World} (hQ:∀ W,Below n0 w0 W->Q W) (x:ByteArray) (l:Nat) (pre:List ByteArray) (W:World) (hI:Inv st ok n0 B w0 pre W) (hx:x.size<=3000) (hp:pre.length<=3000)
    (t0 t1 t2 t3 t4 t8 t9 t10 t11 t12 t13 t14 t15 t16 t17 t18 t19 t20 t21 t22 t23 t24 t25 t26 t27 t28 t29 t30 t31 t32 t33 t34 t35 t36 t37 t38 t39 t40 t41 t42 t43 t44 t45:Value) :
    body40.wpIn (Fence.wide.inRound l) (8-1-1) Tryz.prog (zuR (Inv st ok n0 B w0) (B+2) (pre++[x]) W) { tmps:=#[t0,t1,t2,t3,t4,Value.pointer (some { block:=B,off:=0 }),Value.pointer (some { block:=B+1,off:=0 }),Value.string x,t8,t9,t10,t11,t12,t13,t14,t15,t16,t17,t18,t19,t20,t21,t22,t23,t24,t25,t26,t27,t28,t29,t30,t31,t32,t33,t34,t35,t36,t37,t38,t39,t40,t41,t42,t43,t44,t45],defers:=[] } W:=by
 have mixed:Tryz.prog.follows .mixedOrders=true:=by kernel_rfl
 obtain ⟨hbel,hnB,hw0,hok,u,v,s',hB,hB6,hBs,hrow,hD⟩:=id hI
 have htl:(zcg x).size<=100000:=by
  have:(zcg x).size<=x.size:=by
   unfold zcg Go.Proofs.YtdhkgmhdengnkaaGreatDoorPi.trimB Lib.trimSuffix
   have e:x.data.toList.length=x.size:=Array.length_toList
   split
   · show (List.toArray _).size<=_
     rw [List.size_toArray,List.length_take,e]; omega
   · show (List.toArray _).size<=_
     rw [List.size_toArray,e]; omega
  omega
 obtain ⟨hok',hcall⟩:=hst (zaM st d00 (pre.map zcg)).1 (zcg x) hok htl
 have hrl:zaM st d00 ((pre++[x]).map zcg)=((st (zaM st d00 (pre.map zcg)).1 (zcg x)).1,(zaM st d00 (pre.map zcg)).2++[(st (zaM st d00 (pre.map zcg)).1 (zcg x)).2]):=by
  rw [List.map_append,List.map_cons,List.map_nil]; exact Go.Proofs.YtdhkgmhdengnkaaGreatDoorPi.scRun_snoc _ _ _
 have hlenR:(zaM st d00 (pre.map zcg)).2.length=pre.length:=by rw [Go.Proofs.YtdhkgmhdengnkaaGreatDoorPi.scRun_length,List.length_map]
 generalize zaM st d00 (pre.map zcg)=R at *
 obtain ⟨⟨D,n⟩,rs⟩:=R
 dsimp only at *
 generalize hr:st (D,n) (zcg x)=r at *
 obtain ⟨A,c,rfl,hDc,hDb⟩:=id hD
 obtain ⟨hc50,hc51,hf50,hf51⟩:=zmS hB
 have hlt2:B+2 < W.heap.size:=hBs.lt
 have hb5:B < W.heap.size:=by omega
 have hbl:∀ g,bad n0 B v g->g < W.heap.size:=fun g h=>zuS h hnB hlt2 hrow
 have hd50:(W.drew.alloc (.cells #[.slice none 0 0,.int .i64 0] 24)).cell? ⟨B,0,none⟩=some (.slice A D.length c):=(Below.cell ((Below.refl W.heap.size W.drew).alloc (Nat.le_refl _) _) (p:=⟨B,0,none⟩) hb5).trans hc50
 have hd51:(W.drew.alloc (.cells #[.slice none 0 0,.int .i64 0] 24)).cell? ⟨B,1,none⟩=some (.int .i64 n):=(Below.cell ((Below.refl W.heap.size W.drew).alloc (Nat.le_refl _) _) (p:=⟨B,1,none⟩) hb5).trans hc51
 have hQ0:Q W.drew:=hQ _ ⟨hbel.os,hbel.tape,hbel.output,hbel.size,hbel.block⟩
 have hQ1:Q (W.drew.alloc (.cells #[.slice none 0 0,.int .i64 0] 24)):=hQ _ ((⟨hbel.os,hbel.tape,hbel.output,hbel.size,hbel.block⟩ : Below n0 w0 W.drew).alloc (by show n0<=W.heap.size; omega) _)
 have hD1:DS (bad n0 B v) (W.drew.alloc (.cells #[.slice none 0 0,.int .i64 0] 24)) D (.slice A D.length c):=hD.grown (row:=none) ⟨rfl,rfl,rfl,by simp,fun k hk _=>Below.heap_alloc W.drew _ _ hk⟩ nofun
 unfold body40 Tryz.f40
 dsimp only
 refine wpIn_block (wpIn_seq (wpIn_cut (fun a4 W4=>∃ g8 A' c' a32 a33 a34 a35 a36 a37 a38,a4={ tmps:=#[t0,t1,t2,t3,t4,Value.pointer (some { block:=B,off:=0 }),Value.pointer (some { block:=B+1,off:=0 }),Value.string x,.pointer (some ⟨g8,0,none⟩),.string r.2,t10,t11,t12,t13,t14,t15,t16,t17,t18,t19,t20,t21,t22,t23,t24,t25,t26,t27,t28,t29,t30,t31,a32,a33,a34,a35,a36,a37,a38,t39,t40,t41,t42,t43,t44,t45],defers:=[] } /\ Mid n0 B v W W4 r.1.1 r.1.2 g8 (.slice A' r.1.1.length c')) ?rest ?first))
 case first =>
  intro J K' hJ hK'
  gi_region_with_o (first
   | (refine ⟨trivial,?_⟩; gi_at_call 76; refine (CallsIn.inRound l (callsIn_wide.2 (h76 x ⟨#[10]⟩ _ (by omega)))).mono ?_; rintro e w' ⟨rfl,rfl⟩)
   | (refine ⟨trivial,?_⟩; gi_at_call 48; refine (CallsIn.inRound l (callsIn_wide.2 (hcall _ _ (bad n0 B v) (by first | exact hD | exact hD1) (by first | exact hQ0 | exact hQ1)))).mono ?_; rintro e w4 ⟨A',c',rfl,hd',hb'⟩
      try (have hz0:w4.cell? ⟨W.heap.size,0,none⟩=some (.slice none 0 0):=(hb'.cell (p:=⟨W.heap.size,0,none⟩) (by simp)).trans ((cell_of_row _ W.heap.size 0 _ 24 (0,0) (World.alloc_heap_new W.drew _)).trans rfl)
           have hz1:w4.cell? ⟨W.heap.size,1,none⟩=some (.int .i64 0):=(hb'.cell (p:=⟨W.heap.size,1,none⟩) (by simp)).trans ((cell_of_row _ W.heap.size 1 _ 24 (0,0) (World.alloc_heap_new W.drew _)).trans rfl)
           have hz2:w4.frozen? ⟨W.heap.size,0,none⟩=false:=(hb'.frozen (p:=⟨W.heap.size,0,none⟩) (by simp)).trans (by simp)
           have hz3:w4.frozen? ⟨W.heap.size,1,none⟩=false:=(hb'.frozen (p:=⟨W.heap.size,1,none⟩) (by simp)).trans (by simp))))
  all_goals first
   | exact hK' _ _ (hJ _ _ ⟨_,_,_,_,_,_,_,_,_,_,rfl,zrD hbl hD hb' hd'⟩)
   | exact hK' _ _ (hJ _ _ ⟨_,_,_,_,_,_,_,_,_,_,rfl,zpR hbl hD hb' hd'⟩)
 case rest =>
  rintro a4 W4 ⟨g8,A',c',a32,a33,a34,a35,a36,a37,a38,rfl,hm1,hm2,hm3,hm4⟩
  have hB4:W4.heap[B]? = some (.cells #[.slice A D.length c,.int .i64 n] 24 (0,0)):=(hm1.block B hb5).trans hB
  obtain ⟨k50,k51,kf50,kf51⟩:=zmS hB4
  obtain ⟨k80,k81,kf80,kf81⟩:=zmS hm3
  have hne:g8 ≠ B:=by omega
  obtain ⟨W5,hW5⟩ : ∃ W5,(W4.setCell ⟨B,0,none⟩ (.slice A' r.1.1.length c')).setCell ⟨B,1,none⟩ (.int .i64 r.1.2)=W5:=⟨_,rfl⟩
  refine wpIn_seq (wpIn_cut (fun a5 w5=>∃ a39,a5={ tmps:=#[t0,t1,t2,t3,t4,Value.pointer (some { block:=B,off:=0 }),Value.pointer (some { block:=B+1,off:=0 }),Value.string x,.pointer (some ⟨g8,0,none⟩),.string r.2,t10,t11,t12,t13,t14,t15,t16,t17,t18,t19,t20,t21,t22,t23,t24,t25,t26,t27,t28,t29,t30,t31,a32,a33,a34,a35,a36,a37,a38,a39,t40,t41,t42,t43,t44,t45],defers:=[] } /\ W5=w5) ?r9 ?r8)
  case r8 =>
   intro J K' hJ hK'
   gi_wp2
   exact hJ _ _ ⟨_,rfl,rfl⟩
  rintro a5 w5 ⟨a39,rfl,rfl⟩
  have h5B:W5.heap[B]? = some (.cells #[.slice A' r.1.1.length c',.int .i64 r.1.2] 24 (0,0)):=by rw [<- hW5]; exact zjU hB4
  have hg45:W4.grownBy W5 (some B):=by
   rw [<- hW5]
   exact ⟨rfl,rfl,rfl,by simp,fun k _ hk=>(zbh fun e=>hk (by rw [e])).trans (zbh fun e=>hk (by rw [e]))⟩
  have hg5:W.grownBy W5 (some B):=⟨hg45.os.trans hm1.os,hg45.tape.trans hm1.tape,hg45.output.trans hm1.output,Nat.le_trans hm1.size hg45.size,fun k hk hn=>(hg45.block k (Nat.lt_of_lt_of_le hk hm1.size) hn).trans (hm1.block k hk)⟩
  have hD5:DS (bad n0 B v) W5 r.1.1 (.slice A' r.1.1.length c'):=hm4.keep fun g cs e f hn hg=>⟨fun h=>hn (.inl h),hg45.block g (Array.getElem?_eq_some_iff.1 hg).1 fun e=>hn (.inl (.inr (.inl (by cases e; rfl))))⟩
  have hvB:v.ownBlock=none \/ v.ownBlock ≠ some B:=by
   cases hx:v.ownBlock with
   | none=>exact .inl rfl
   | some k=>refine .inr fun e=>?_; cases e; have:=(hrow.lt _ hx).1; omega
  have hrow5:W5.ownsRow (B+3) 9 1 v rs.length (rs.map Value.string):=hrow.kept hg5 hvB
  have hB65:Boxed W5 (B+1) 41 v:=hB6.kept hg5 (by simp)
  have hc6:=hB65.cell
  have hf6:=hB65.frozen
  have hrs:rs.length<=3000:=by omega
  clear hlenR
  obtain ⟨i0,hi,hz0,hz1,hz2⟩:=info_parts ztZ
  have hs5:=hg5.size
  gi_wp2_with (gi_at_builtin; refine zgH _ rfl _ _ 41 rfl (B+3) 9 i0 (.string ⟨#[]⟩) 1 16 Tryz.underlying41 hi hz0 hz1 hz2 rfl (by decide) _ _ _ rfl (hrow5.alloc _) ⟨W5.heap.size,0,none⟩ 1 1 [.string r.2] rfl rfl (cell_one_new _ _ _) (by simp [Value.oneCell']) (by decide) (by simp only [maxLen]; omega) (by omega) (by rw [World.size_alloc]; omega) ?_; intro v' w1 hown' hgrow hblk; rw [World.size_alloc] at hblk; obtain ⟨g',cap',rfl⟩:=ownsRow_succ hown'
               have hq:Boxed w1 (B+1) 41 v:=((hB65.alloc _).kept hgrow (fun e=>by have:=(hrow.lt _ e.symm).1; omega))
               have hc1:=hq.cell
               have hf1:=hq.frozen)
  exact zt0 hrl hok' hbel hnB hw0 hB hB6 hBs hrow hg5 h5B hD5 hown' hgrow hblk
set_option maxHeartbeats 1000000 in
theorem zpS (n:Nat) (s:ByteArray) (w:World):CallsIn Fence.wide n Tryz.prog 75 #[.string s] w fun e w'=>e = .returned (.func (.func 125) #[] #[.pointer (some ⟨w.heap.size,0,none⟩)])/\w'=w.alloc (.cells #[.string s] 9):=by
 refine callsIn_of_wp Tryz.func75 rfl trivial ?_ rfl
 simp only [Tryz.ntmps75,List.size_toArray,List.length_cons,List.length_nil,Nat.reduceAdd,Nat.reduceSub,Array.replicate_succ,Array.replicate_zero,List.push_toArray,List.append_toArray,List.nil_append,List.cons_append]
 gi_wp2
 go_ret
 exact ⟨rfl,rfl⟩
theorem zjV {fn:Func} {p t u:Tmp} {ty:TypeId} (h:fn.results = #[.cell p ty,.tmp t,.tmp u]) {tmps:Array Value} {P:Program} {w:World} {a:Addr} {x:Value} (hp:tmps.getD p undef = .pointer (some a))
    (hl:(loadVar ty a).run P w = .ok x w):(results fn tmps).run P w = .ok (.tuple #[x,tmps.getD t undef,tmps.getD u undef]) w:=by
 have hp':tmps[p]?.getD undef = .pointer (some a):=by simpa using hp
 simp [results,h,hp',asAddr,hl]
def zuT (st:Dk->ByteArray->Dk×ByteArray) (s:ByteArray) (n0:Nat) (w w':World) (e:Ending):Prop :=
 ∃ u v rs,e = .returned (.tuple #[.agg #[u,.int .i64 (zaM st d00 (zem s)).1.2],v,.bool true])/\Below n0 w w' /\ DS (fun g=>g<=n0 \/ some g=v.ownBlock) w' (zaM st d00 (zem s)).1.1 u/\rs=(zaM st d00 (zem s)).2/\w'.ownsRow (n0+1) 9 1 v rs.length (rs.map Value.string)
set_option maxHeartbeats 8000000 in
theorem run_good {st:Dk->ByteArray->Dk×ByteArray} {ok:Dk->Prop} {Q:World->Prop} (hst:LineOk st ok Q) (hok0:ok d00)
    (h73:∀ s p w,s.size<=9223372036854775807->Calls Tryz.prog 73 #[.string s,.string p] w fun e w'=>e = .returned (.bool (Lib.hasSuffix s.data.toList p.data.toList))/\w'=w)
    (h74:∀ (s:ByteArray) (w:World),Calls Tryz.prog 74 #[.string s,.string ⟨#[10]⟩] w fun e w'=>e = .returned (.int .i64 (Lib.countByte s.data.toList 10))/\w'=w)
    (h76:∀ s p w,s.size<=9223372036854775807->Calls Tryz.prog 76 #[.string s,.string p] w fun e w'=>e = .returned (.string ⟨(Lib.trimSuffix s.data.toList p.data.toList).toArray⟩)/\w'=w)
    (h126:∀ (r:ByteArray) (w:World),Calls Tryz.prog 126 #[.string r,.int .u8 10] w fun e w'=>e = .returned (.int .i64 (Lib.indexByte r.data.toList 10))/\w'=w)
    (h68:∀ w,Calls Tryz.prog 68 #[] w fun e w'=>∃ A c,e = .returned (.agg #[.slice A 2 c,.int .i64 10])/\DS (fun g=>g < w.heap.size) w' [(0,3),(10,-2)] (.slice A 2 c)/\Below w.heap.size w w')
    (s:ByteArray) (hg:zcq s=true) (w:World) (hQ:∀ W,Below w.heap.size w W->Q W) :
    Calls Tryz.prog 40 #[.string s] w fun e w'=>zuT st s w.heap.size w w' e:=by
 have hs:s.size<=3000:=by
  unfold zcq at hg
  simp only [Bool.and_eq_true,decide_eq_true_eq] at hg
  exact hg.1
 have hcnt:Lib.countByte s.data.toList 10<=50:=by
  unfold zcq at hg
  simp only [Bool.and_eq_true,decide_eq_true_eq] at hg
  exact hg.2.2
 have hcase:s.toList.isEmpty=true \/ (s.toList.isEmpty=false/\Lib.hasSuffix s.data.toList [10]=true):=by
  cases hE:s.toList.isEmpty with
  | true=>exact .inl rfl
  | false =>
   refine .inr ⟨rfl,?_⟩
   unfold zcq at hg
   simp only [Bool.and_eq_true,Bool.or_eq_true,decide_eq_true_eq] at hg
   rcases hg.2.1 with h | h
   · have:s.toList=[]:=by
      apply List.eq_nil_of_length_eq_zero
      rw [<- h]
      obtain ⟨⟨l⟩⟩:=s
      rw [ByteArray.toList_mk]; rfl
     rw [this] at hE; cases hE
   · exact h
 have hlen:¬ ((s.size:Int) > 3000):=by omega
 have hcn:¬ ((Lib.countByte s.data.toList 10:Int) > 50):=by omega
 rcases hcase with hE | ⟨hE,hsuf⟩
 all_goals
  refine (callsIn_wide (n:=8)).1 ?_
  refine callsIn_of_wp_marks Tryz.func40 rfl trivial ?_ rfl
  simp only [Tryz.ntmps40,List.size_toArray,List.length_cons,List.length_nil,Nat.reduceAdd,Nat.reduceSub,Array.replicate_succ,Array.replicate_zero,List.push_toArray,List.append_toArray,List.nil_append,List.cons_append]
  gi_wp2_with (first
   | (refine ⟨trivial,?_⟩; gi_at_call 73; refine (callsIn_wide.2 (h73 s ⟨#[10]⟩ _ (by omega))).mono ?_; rintro e w' ⟨rfl,rfl⟩)
   | (refine ⟨trivial,?_⟩; gi_at_call 74; refine (callsIn_wide.2 (h74 s _)).mono ?_; rintro e w' ⟨rfl,rfl⟩)
   | (refine ⟨trivial,?_⟩; gi_at_call 68; refine (callsIn_wide.2 (h68 _)).mono ?_; rintro e w' ⟨A0,c0,rfl,hu0,hb0⟩)
   | (refine ⟨trivial,?_⟩; gi_at_call 75; refine (zpS _ s _).mono ?_; rintro e w' ⟨rfl,rfl⟩)
   | (refine ⟨trivial,?_⟩))
  have hs1:(w.alloc (.cells #[.slice none 0 0,.int .i64 0] 24)).heap.size=w.heap.size+1:=by simp
  have hBn:w.heap.size+1<=w'.heap.size:=by have:=hb0.size; omega
  obtain ⟨B,hBd⟩ : ∃ B,w'.heap.size=B:=⟨_,rfl⟩
  simp only [hBd,Nat.add_assoc,Nat.reduceAdd]
  obtain ⟨Wl,hWl⟩ : ∃ Wl,((w'.alloc (.cells #[.slice A0 2 c0,.int .i64 10] 24)).alloc (.cells #[.slice none 0 0] 41)).alloc (.cells #[.string s] 9)=Wl:=⟨_,rfl⟩
  rw [hWl]
  have szl:Wl.heap.size=B+3:=by rw [<- hWl]; simp [hBd]
  have hBw:B < (w'.alloc (.cells #[.slice A0 2 c0,.int .i64 10] 24)).heap.size:=by simp [hBd]
  have hl1:Wl.heap[B]? = some (.cells #[.slice A0 2 c0,.int .i64 10] 24 (0,0)):=by
   rw [<- hWl]
   refine (Below.heap_alloc _ _ _ (by simp; omega)).trans ((Below.heap_alloc _ _ _ hBw).trans ?_)
   rw [<- hBd]; exact World.alloc_heap_new w' _
  have hl2:Boxed Wl (B+1) 41 (.slice none 0 0):=by
   rw [<- hWl]
   refine (Below.heap_alloc _ _ _ (by simp; omega)).trans ?_
   have:=World.alloc_heap_new (w'.alloc (.cells #[.slice A0 2 c0,.int .i64 10] 24)) (.cells #[.slice none 0 0] 41)
   rw [World.size_alloc,hBd] at this; exact this
  have hl3:Boxed Wl (B+2) 9 (.string s):=by
   rw [<- hWl]
   have:=World.alloc_heap_new ((w'.alloc (.cells #[.slice A0 2 c0,.int .i64 10] 24)).alloc (.cells #[.slice none 0 0] 41)) (.cells #[.string s] 9)
   rw [World.size_alloc,World.size_alloc,hBd] at this; exact this
  have hlo:∀ k,k < B->Wl.heap[k]? = w'.heap[k]?:=fun k hk=>by
   rw [<- hWl]
   exact (Below.heap_alloc _ _ _ (by simp; omega)).trans ((Below.heap_alloc _ _ _ (by simp; omega)).trans (Below.heap_alloc _ _ _ (by omega)))
  have hbl:Below (w.heap.size+1) (w.alloc (.cells #[.slice none 0 0,.int .i64 0] 24)) Wl:=by
   rw [hs1] at hb0
   rw [<- hWl]
   exact ((hb0.alloc (by omega) _).alloc (by simp; omega) _).alloc (by simp; omega) _
  have hbw:∀ W,Below (w.heap.size+1) (w.alloc (.cells #[.slice none 0 0,.int .i64 0] 24)) W->Below w.heap.size w W:=fun W h =>
   ((Below.refl w.heap.size w).alloc (Nat.le_refl _) _).trans ⟨h.os,h.tape,h.output,h.size,fun k hk=>h.block k (by omega)⟩
  have hI0:Inv st ok (w.heap.size+1) B (w.alloc (.cells #[.slice none 0 0,.int .i64 0] 24)) [] Wl:=by
   refine ⟨hbl,by omega,hs1,hok0,.slice A0 2 c0,.slice none 0 0,s,hl1,hl2,hl3,World.ownsRow_nil _ _ _ _,?_⟩
   refine hu0.keep fun g cs e f hn hgc=>?_
   have hgl:=(Array.getElem?_eq_some_iff.1 hgc).1
   rw [hs1] at hn
   refine ⟨fun h=>?_,hlo g (by omega)⟩
   rcases h with h | h | h | h | h
   · exact hn h
   · omega
   · omega
   · omega
   · cases h
  refine zsA (n:=8) (by omega) (gf:=125) (lb:=#[.pointer (some ⟨B+2,0,none⟩)]) (Bs:=B+2) (N:=s.size) (xs:=zbl s.size s) rfl (enters_of Tryz.func125 (by kernel_rfl) rfl) rfl (by omega) ?_
   (Inv st ok (w.heap.size+1) B (w.alloc (.cells #[.slice none 0 0,.int .i64 0] 24))) (fun pre W o h=>h.alloc o) (fun pre W l o o' hl h ho hc=>h.putObj o' (by omega) ho hc) (fun pre W r h=>h.set r) (fun pre W h=>h.drew)
   (fun pre W h=>by obtain ⟨_,_,_,_,_,_,_,_,_,h3,_⟩:=h; exact h3.frozen) hI0
   ?_ ?_ ?_ ?_
  rotate_left 2
  · intro l x W K hK
    gi_wp2
    exact hK
  · intro l pre x W hI hlen hxs
    exact zt1 hst h76 (fun W h=>hQ W (hbw W h)) x l pre W hI (by omega) (by omega) _ _ _ _ _ _ _ _ _ _ _ _ _ _ _ _ _ _ _ _ _ _ _ _ _ _ _ _ _ _ _ _ _ _ _ _ _ _ _ _ _ _ _
  · intro W hI hK
    obtain ⟨hb,hnB,hw0,hok,u,v,s',h1,h2,h3,h4,h5⟩:=hI
    obtain ⟨A,c,rfl,hDc,hDl⟩:=id h5
    obtain ⟨c50,c51,f50,f51⟩:=zmS h1
    have c6:=h2.cell
    have hn0:W.heap[w.heap.size]? = some (.cells #[.slice none 0 0,.int .i64 0] 24 (0,0)):=(hb.block _ (by omega)).trans (World.alloc_heap_new w _)
    obtain ⟨k0,k1,kf0,kf1⟩:=zmS hn0
    have mixed:Tryz.prog.follows .mixedOrders=true:=by kernel_rfl
    gi_wp2
    gi_region_o
    all_goals gi_wp2
    obtain ⟨W6,hW6⟩ : ∃ W6,(((W.setCell ⟨w.heap.size,0,none⟩ (.slice A (zaM st d00 (List.map zcg (zbl s.size s))).1.1.length c)).setCell ⟨w.heap.size,1,none⟩ (.int .i64 (zaM st d00 (List.map zcg (zbl s.size s))).1.2)).drew)=W6:=⟨_,rfl⟩
    rw [hW6]
    have h6n:W6.heap[w.heap.size]? = some (.cells #[.slice A (zaM st d00 (List.map zcg (zbl s.size s))).1.1.length c,.int .i64 (zaM st d00 (List.map zcg (zbl s.size s))).1.2] 24 (0,0)):=by rw [<- hW6]; exact zjU hn0
    have h6o:∀ k,k ≠ w.heap.size->W6.heap[k]? = W.heap[k]?:=fun k hk=>by rw [<- hW6]; exact (zbh hk).trans (zbh hk)
    have hK6:W6.heap[Wl.heap.size]? = some (.deferred (some [])):=(h6o _ (by omega)).trans hK
    refine ⟨by simp,.inl ⟨_,_,rfl,run_takeDeferred hK6,?_⟩⟩
    obtain ⟨W7,hW7⟩ : ∃ W7,W6.putObj Wl.heap.size (.deferred none)=W7:=⟨_,rfl⟩
    rw [hW7]
    have h7o:∀ k,k ≠ Wl.heap.size->W7.heap[k]? = W6.heap[k]?:=fun k hk=>by rw [<- hW7]; exact World.putObj_heap_other hk
    have h7n:=(h7o _ (by omega)).trans h6n
    have hrun:=run_loadVar_row (P:=Tryz.prog) W7 w.heap.size 24 24 _ (0,0) _ h7n Tryz.underlying24 rfl (by kernel_rfl)
    refine ⟨_,zjV rfl rfl hrun,_,_,_,rfl,?_,?_,rfl,?_⟩
    · have b1:Below w.heap.size w W:=hbw W hb
      refine b1.trans ⟨?_,?_,?_,?_,fun k hk=>(h7o k (by omega)).trans (h6o k (by omega))⟩
      · rw [<- hW7,<- hW6]; rfl
      · rw [<- hW7,<- hW6]; rfl
      · rw [<- hW7,<- hW6]; rfl
      · rw [<- hW7,<- hW6]; simp
    · refine h5.keep fun g cs e f hn hg=>?_
      have hgD:g ≠ Wl.heap.size:=fun e=>by subst e; rw [hK] at hg; cases hg
      have hgn:¬ g < w.heap.size+1:=fun h=>hn (.inl h)
      exact ⟨fun h=>by rcases h with h | h; omega; exact hn (.inr (.inr (.inr (.inr h)))),(h7o g hgD).trans (h6o g (by omega))⟩
    · have hg7:W.grownBy W7 (some Wl.heap.size) \/ True:=.inr trivial
      refine ⟨h4.1,h4.2.imp id ?_⟩
      rintro ⟨g,cap,cur,rfl,hbg,hgb,hrest⟩
      have hgD:g ≠ Wl.heap.size:=fun e=>by subst e; rw [hK] at hgb; cases hgb
      exact ⟨g,cap,cur,rfl,by omega,((h7o g hgD).trans (h6o g (by omega))).trans hgb,hrest⟩
  · intro l J W h1 h2 h3 h4 h5 h6
    exact zrC _ (by omega) l (B+2) s (by omega) J (fun r W=>callsIn_wide.2 (h126 r W)) h1 h2 h3 h4 W (h5.trans hl3.cell) h6
set_option maxHeartbeats 4000000 in
theorem run_bad (h73:∀ s p w,s.size<=9223372036854775807->Calls Tryz.prog 73 #[.string s,.string p] w fun e w'=>e = .returned (.bool (Lib.hasSuffix s.data.toList p.data.toList))/\w'=w)
    (h74:∀ (s:ByteArray) (w:World),Calls Tryz.prog 74 #[.string s,.string ⟨#[10]⟩] w fun e w'=>e = .returned (.int .i64 (Lib.countByte s.data.toList 10))/\w'=w)
    (s:ByteArray) (hg:zcq s=false) (w:World) :
    Calls Tryz.prog 40 #[.string s] w fun e w'=>e = .returned (.tuple #[.agg #[.slice none 0 0,.int .i64 0],.slice none 0 0,.bool false])/\Below w.heap.size w w':=by
 have hsz:s.size<=3000->s.size<=9223372036854775807:=fun h=>by omega
 have hcase:(s.size:Int) > 3000 \/ ((¬ (s.size:Int) > 3000/\s.toList.isEmpty=false/\Lib.hasSuffix s.data.toList [10]=false) \/ (¬ (s.size:Int) > 3000/\s.toList.isEmpty=false/\Lib.hasSuffix s.data.toList [10]=true/\(Lib.countByte s.data.toList 10:Int) > 50)):=by
  by_cases h1:(s.size:Int) > 3000
  · exact .inl h1
  refine .inr ?_
  have h1':s.size<=3000:=by omega
  have hl:s.toList.length=s.size:=by obtain ⟨⟨l⟩⟩:=s; rw [ByteArray.toList_mk]; rfl
  unfold zcq at hg
  rw [decide_eq_true h1',Bool.true_and] at hg
  cases hE:s.toList.isEmpty with
  | true =>
   have h0:s.size=0:=by rw [<- hl]; rw [List.isEmpty_iff] at hE; rw [hE]; rfl
   rw [decide_eq_true h0,Bool.true_or,Bool.true_and,decide_eq_false_iff_not] at hg
   obtain ⟨⟨l⟩⟩:=s
   have hl0:l=[]:=List.eq_nil_of_length_eq_zero h0
   subst hl0
   exact absurd (Nat.zero_le 50) hg
  | false =>
   have h0:¬ s.size=0:=fun h=>by rw [<- hl] at h; rw [List.eq_nil_of_length_eq_zero h] at hE; cases hE
   rw [decide_eq_false h0,Bool.false_or] at hg
   cases hS:Lib.hasSuffix s.data.toList [10] with
   | false=>exact .inl ⟨h1,rfl,rfl⟩
   | true =>
    rw [hS,Bool.true_and,decide_eq_false_iff_not] at hg
    exact .inr ⟨h1,rfl,rfl,by omega⟩
 rcases hcase with h1 | ⟨h1,hE,hsuf⟩ | ⟨h1,hE,hsuf,hc⟩
 all_goals
  refine (callsIn_wide (n:=8)).1 ?_
  refine callsIn_of_wp_marks Tryz.func40 rfl trivial ?_ rfl
  simp only [Tryz.ntmps40,List.size_toArray,List.length_cons,List.length_nil,Nat.reduceAdd,Nat.reduceSub,Array.replicate_succ,Array.replicate_zero,List.push_toArray,List.append_toArray,List.nil_append,List.cons_append]
  gi_wp2_with (first
   | (refine ⟨trivial,?_⟩; gi_at_call 73; refine (callsIn_wide.2 (h73 s ⟨#[10]⟩ _ (by omega))).mono ?_; rintro e w' ⟨rfl,rfl⟩)
   | (refine ⟨trivial,?_⟩; gi_at_call 74; refine (callsIn_wide.2 (h74 s _)).mono ?_; rintro e w' ⟨rfl,rfl⟩)
   | (refine ⟨trivial,?_⟩))
  exact ⟨_,zjV rfl rfl (run_loadVar_row (P:=Tryz.prog) _ w.heap.size 24 24 _ (0,0) _ (World.alloc_heap_new w _) Tryz.underlying24 rfl (by kernel_rfl)),rfl,(Below.refl _ w).alloc (Nat.le_refl _) _⟩
set_option maxHeartbeats 1000000 in
theorem first_desk (w:World):Calls Tryz.prog 68 #[] w fun e w'=>∃ A c,e = .returned (.agg #[.slice A 2 c,.int .i64 10])/\DS (fun g=>g < w.heap.size) w' [(0,3),(10,-2)] (.slice A 2 c)/\Below w.heap.size w w':=by
 refine (callsIn_wide (n:=8)).1 ?_
 refine callsIn_of_wp Tryz.func68 rfl trivial ?_ rfl
 simp only [Tryz.ntmps68,List.size_toArray,List.length_cons,List.length_nil,Nat.reduceAdd,Nat.reduceSub,Array.replicate_succ,Array.replicate_zero,List.push_toArray,List.append_toArray,List.nil_append,List.cons_append]
 gi_wp2
 have h2:=World.alloc_heap_new (w.alloc (.cells #[.slice (some ⟨w.heap.size+1,0,none⟩) 2 2,.int .i64 10] 24)) (.cells #[.int .i64 0,.int .i64 3,.int .i64 10,.int .i64 (-2)] 74)
 rw [World.size_alloc] at h2
 refine bodyPost_ret (results_cell_row rfl _ _ w.heap.size 24 _ (0,0) _ rfl ((Below.heap_alloc _ _ _ (by simp)).trans (World.alloc_heap_new w _)) Tryz.underlying24 rfl (by kernel_rfl)) rfl ?_
 refine ⟨_,_,rfl,⟨_,_,rfl,Nat.le_refl _,.inr ⟨w.heap.size+1,0,_,_,_,rfl,by omega,h2,fun j u hj=>?_⟩⟩,((Below.refl _ w).alloc (Nat.le_refl _) _).alloc (by simp) _⟩
 rw [cell_of_row _ _ _ _ _ _ h2,Nat.zero_add]
 rw [<- hj]
 exact List.getElem?_toArray
def zn5:Go.Shelf.Ren:=⟨fun | 100=>73 | 207=>122 | n=>n,fun | 9=>9 | 4=>4 | 3=>3 | n=>n,fun | n=>n⟩
theorem zt2:Go.Proofs.Lays.n100 Tryz.prog zn5 where
 mixed:=by kernel_rfl
 f100:=Tryz.func73.trans (congrArg some (by kernel_rfl))
 f207:=Tryz.func122.trans (congrArg some (by kernel_rfl))
 t3:=Tryz.underlying3
 a3:=Tryz.isAgg3
 z3:=Tryz.sizeOf3
 v3:=Tryz.zeroValue3
 t4:=Tryz.underlying4
 a4:=Tryz.isAgg4
 z4:=Tryz.sizeOf4
 v4:=Tryz.zeroValue4
 t9:=Tryz.underlying9
 a9:=Tryz.isAgg9
 z9:=Tryz.sizeOf9
 v9:=Tryz.zeroValue9
def zn6:Go.Shelf.Ren:=⟨fun | 138=>74 | 195=>123 | 218=>124 | 143=>91 | 219=>132 | 217=>185 | 225=>186 | 224=>187 | 267=>188 | 266=>233 | 314=>234 | n=>n,fun | 9=>9 | 3=>3 | 4=>4 | 5=>5 | 0=>0 | 46=>189 | 146=>217 | 51=>216 | n=>n,fun | 1=>0 | n=>n⟩
theorem zt3:Go.Proofs.Lays.n138 Tryz.prog zn6 where
 mixed:=by kernel_rfl
 f138:=Tryz.func74.trans (congrArg some (by kernel_rfl))
 f143:=Tryz.func91.trans (congrArg some (by kernel_rfl))
 f195:=Tryz.func123.trans (congrArg some (by kernel_rfl))
 f217:=Tryz.func185.trans (congrArg some (by kernel_rfl))
 f218:=Tryz.func124.trans (congrArg some (by kernel_rfl))
 f219:=Tryz.func132.trans (congrArg some (by kernel_rfl))
 f224:=Tryz.func187.trans (congrArg some (by kernel_rfl))
 f225:=Tryz.func186.trans (congrArg some (by kernel_rfl))
 f266:=Tryz.func233.trans (congrArg some (by kernel_rfl))
 f267:=Tryz.func188.trans (congrArg some (by kernel_rfl))
 f314:=Tryz.func234.trans (congrArg some (by kernel_rfl))
 t0:=Tryz.underlying0
 a0:=Tryz.isAgg0
 z0:=Tryz.sizeOf0
 v0:=Tryz.zeroValue0
 t3:=Tryz.underlying3
 a3:=Tryz.isAgg3
 z3:=Tryz.sizeOf3
 v3:=Tryz.zeroValue3
 t4:=Tryz.underlying4
 a4:=Tryz.isAgg4
 z4:=Tryz.sizeOf4
 v4:=Tryz.zeroValue4
 t5:=Tryz.underlying5
 a5:=Tryz.isAgg5
 z5:=Tryz.sizeOf5
 v5:=Tryz.zeroValue5
 t9:=Tryz.underlying9
 a9:=Tryz.isAgg9
 z9:=Tryz.sizeOf9
 v9:=Tryz.zeroValue9
 t46:=Tryz.underlying189
 a46:=Tryz.isAgg189
 z46:=Tryz.sizeOf189
 v46:=Tryz.zeroValue189
 t51:=Tryz.underlying216
 a51:=Tryz.isAgg216
 z51:=Tryz.sizeOf216
 v51:=Tryz.zeroValue216
 t146:=Tryz.underlying217
 a146:=Tryz.isAgg217
 z146:=Tryz.sizeOf217
 v146:=Tryz.zeroValue217
 g1:=by kernel_rfl
def zn7:Go.Shelf.Ren:=⟨fun | 102=>76 | 209=>127 | 207=>122 | n=>n,fun | 9=>9 | 4=>4 | 3=>3 | n=>n,fun | n=>n⟩
theorem zt4:Go.Proofs.Lays.n102 Tryz.prog zn7 where
 mixed:=by kernel_rfl
 f102:=Tryz.func76.trans (congrArg some (by kernel_rfl))
 f207:=Tryz.func122.trans (congrArg some (by kernel_rfl))
 f209:=Tryz.func127.trans (congrArg some (by kernel_rfl))
 t3:=Tryz.underlying3
 a3:=Tryz.isAgg3
 z3:=Tryz.sizeOf3
 v3:=Tryz.zeroValue3
 t4:=Tryz.underlying4
 a4:=Tryz.isAgg4
 z4:=Tryz.sizeOf4
 v4:=Tryz.zeroValue4
 t9:=Tryz.underlying9
 a9:=Tryz.isAgg9
 z9:=Tryz.sizeOf9
 v9:=Tryz.zeroValue9
theorem calls_73 (s p:ByteArray) (w:World) (h:s.size<=9223372036854775807):Calls Tryz.prog 73 #[.string s,.string p] w fun e w'=>e = .returned (.bool (Lib.hasSuffix s.data.toList p.data.toList))/\w'=w:=Go.Proofs.Any.strings_HasSuffix zt2 s p w h
theorem calls_74 (s:ByteArray) (w:World):Calls Tryz.prog 74 #[.string s,.string ⟨#[10]⟩] w fun e w'=>e = .returned (.int .i64 (Lib.countByte s.data.toList 10))/\w'=w:=Go.Proofs.Any.strings_Count_one zt3 s 10 w
theorem calls_76 (s p:ByteArray) (w:World) (h:s.size<=9223372036854775807):Calls Tryz.prog 76 #[.string s,.string p] w fun e w'=>e = .returned (.string ⟨(Lib.trimSuffix s.data.toList p.data.toList).toArray⟩)/\w'=w:=Go.Proofs.Any.strings_TrimSuffix zt4 s p w h
theorem calls_126 (r:ByteArray) (w:World):Calls Tryz.prog 126 #[.string r,.int .u8 10] w fun e w'=>e = .returned (.int .i64 (Lib.indexByte r.data.toList 10))/\w'=w:=Go.Proofs.Any.strings_IndexByte ztX r 10 w
end Go.Proofs.YtdhkgmhdengnkaaGreatDoor.Sc
