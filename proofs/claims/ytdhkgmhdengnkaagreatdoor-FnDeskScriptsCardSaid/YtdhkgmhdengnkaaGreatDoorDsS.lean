/- The script's function, tied to the tables. -/
import Derived.Test.YtdhkgmhdengnkaaGreatDoorDsT
import Derived.Test.YtdhkgmhdengnkaaGreatDoorDsQb
import Derived.Test.YtdhkgmhdengnkaaGreatDoorDsR
namespace Go.Proofs.YtdhkgmhdengnkaaGreatDoor.Ds
open Go Go.Proofs.YtdhkgmhdengnkaaGreatDoorPi Go.RowKit
set_option maxRecDepth 100000
set_option linter.unusedVariables false
def sv0:Sv:=⟨fun _=>false,fun _=>[],fun _=>0,fun _=>[],fun _=>false⟩
instance:Inhabited (Dk×ByteArray):=⟨(([],0),⟨#[]⟩)⟩
noncomputable def step (d:Dk) (l:ByteArray):Dk×ByteArray:=Classical.epsilon fun r=>Ev (fun k=>@qfrz.f ⟨sv0⟩ k d.1 d.2 l) r
def okD (d:Dk):Prop:=dOk d.1 d.2=true
theorem zt5 {d:Dk} {l:ByteArray} (hd:okD d) (hl:l.size<=100000):Ev (fun k=>@qfrz.f ⟨sv0⟩ k d.1 d.2 l) (step d l)/\okD (step d l).1:=by
 have e:l=bL l.data.toList:=(@zqR ⟨sv0⟩ l).symm
 have hs:l.data.toList.length<=100000:=by rw [Array.length_toList]; exact hl
 obtain ⟨r,h1,h2,_⟩:=@zmL ⟨sv0⟩ d.1 d.2 hd l.data.toList hs
 rw [<- e] at h2
 have h3:Ev (fun k=>@qfrz.f ⟨sv0⟩ k d.1 d.2 l) (step d l):=Classical.epsilon_spec (p:=fun r=>Ev (fun k=>@qfrz.f ⟨sv0⟩ k d.1 d.2 l) r) ⟨r,h2⟩
 have h4:=zup h3 h2
 exact ⟨h3,by rw [h4]; exact h1⟩
theorem zsU {no:Nat->Prop} {w:World} {D:List (Int×Int)} {u:Value} {n:Int} {l:ByteArray} (h:Sc.DS no w D u):∃ V0:Nat->Prop,(∀ g,V0 g->g < w.heap.size /\ ∀ no',Sc.DS no' w D u->¬ no' g) /\
    ARs ⟨V0,fun _=>none,w,fun _=>False⟩ [va [.sl 74 (.pair i6 i6) D,ci n],vs l] [.agg #[u,.int .i64 n],.string l]:=by
 obtain ⟨A,c,rfl,hc,h⟩:=h
 have mk:∀ V0:Nat->Prop,(D.length=0 \/ ∃ g o us,A=some ⟨g,o,none⟩/\V0 g/\KL (KR V0 w (.pair i6 i6)) D us/\lies w g o us)->ARs ⟨V0,fun _=>none,w,fun _=>False⟩ [va [.sl 74 (.pair i6 i6) D,ci n],vs l] [.agg #[.slice A D.length c,.int .i64 n],.string l]:=fun V0 h =>
  ⟨_,_,rfl,⟨[.slice A D.length c,.int .i64 n],rfl,_,_,rfl,by simp only [CR,KR]; exact ⟨A,c,rfl,hc,h⟩,_,_,rfl,by simp only [CR],rfl⟩,_,_,rfl,(by show CR _ _ _; simp only [CR]),rfl⟩
 rcases h with h | ⟨g,o,cs,e,f,rfl,_,hg,hl⟩
 · exact ⟨fun _=>False,fun g h=>h.elim,mk _ (.inl h)⟩
 · by_cases hz:D.length=0
   · exact ⟨fun _=>False,fun g h=>h.elim,mk _ (.inl hz)⟩
   · refine ⟨fun g'=>g'=g,?_,mk _ (.inr ⟨g,o,flat D,rfl,rfl,znr D,hl⟩)⟩
     rintro g' rfl
     refine ⟨(Array.getElem?_eq_some_iff.1 hg).1,?_⟩
     rintro no' ⟨A',c',e',_,h'⟩
     rcases h' with h' | ⟨g2,o2,_,_,_,e2,hn,_⟩
     · exact absurd h' hz
     · simp only [Value.slice.injEq] at e'
       rw [<- e'.1] at e2
       simp only [Option.some.injEq,Addr.mk.injEq] at e2
       rw [e2.1]; exact hn
theorem zuU {no V:Nat->Prop} {w:World} {D:List (Int×Int)} {u:Value} (h:KR V w (.sl 74 (.pair i6 i6)) D [u]) (hV:∀ g,V g->¬ no g):Sc.DS no w D u /\ ∃ A c,u = .slice A D.length c:=by
 simp only [KR] at h
 obtain ⟨A,c,e,hc,h⟩:=h
 have e1:u = .slice A D.length c:=(List.cons.inj e).1
 refine ⟨⟨A,c,e1,hc,?_⟩,A,c,e1⟩
 rcases h with h | ⟨g,o,us,hA,hg,hk,hl⟩
 · exact .inl h
 · have e2:us=flat D:=zoA (V:=V) (w:=w) D us hk
   subst e2
   cases D with
   | nil=>exact .inl rfl
   | cons x D =>
    have h0:=hl 0 _ rfl
    obtain ⟨ob,ho,hcs⟩:=cells_of_cell h0
    cases ob <;> first | exact .inr ⟨g,o,_,_,_,hA,hV g hg,ho,hl⟩ | cases hcs
theorem zuV:∀ g p,(@Cx ⟨sv0⟩).prim g=some p->zcN Tryz.prog (@Cx ⟨sv0⟩) (zdC Tryz.prog) g p:=@zlg ⟨sv0⟩ fun s w h=>nomatch h
theorem zrE:Sc.LineOk step okD (DoorW Tryz.prog):=by
 intro d l hd hl
 obtain ⟨h1,h2⟩:=zt5 hd hl
 refine ⟨h2,fun u w no0 hD hQ=>?_⟩
 obtain ⟨K,hK⟩:=Ev.rounds h1
 obtain ⟨V0,hV,hA⟩:=zsU (n:=d.2) (l:=l) hD
 have hp:PI (@Cx ⟨sv0⟩) K 48 [va [.sl 74 (.pair i6 i6) d.1,ci d.2],vs l]=some (step d l):=hK
 generalize step d l=r at *
 have:=zkD (@fits ⟨sv0⟩) zuV hp (by kernel_rfl) (by kernel_rfl) (e:=74) (t:=.pair i6 i6) (xs:=r.1.1) (n:=r.1.2) (s:=r.2) (by kernel_rfl) (fun g h=>(hV g h).1) hA hQ (DoorW.lt hQ)
 refine this.mono ?_
 rintro q w' ⟨u',rfl,hk,hb⟩
 obtain ⟨_,A,c,rfl⟩:=zuU (no:=fun _=>False) hk fun _ _ h=>h
 refine ⟨A,c,rfl,fun no hno hDn=>(zuU hk fun g hg=>?_).1,hb⟩
 rcases hg with hg | hg
 · exact (hV g hg).2 no hDn
 · exact fun h=>by have:=hno g h; omega
theorem zoV {no:Nat->Prop} {w:World} {D:List (Int×Int)} {u:Value} (h:Sc.DS no w D u):KR (fun g=>¬ no g/\g < w.heap.size) w (.sl 74 (.pair i6 i6)) D [u]:=by
 obtain ⟨A,c,rfl,hc,h⟩:=h
 simp only [KR]
 refine ⟨A,c,rfl,hc,?_⟩
 rcases h with h | ⟨g,o,cs,e,f,hA,hn,hg,hl⟩
 · exact .inl h
 · exact .inr ⟨g,o,flat D,hA,⟨hn,(Array.getElem?_eq_some_iff.1 hg).1⟩,znr (V:=fun g=>¬ no g/\g < w.heap.size) (w:=w) D,hl⟩
theorem zrF {w:World} {n0:Nat} {v:Value} {rs:List ByteArray} (h:w.ownsRow (n0+1) 9 1 v rs.length (rs.map Value.string)):KR (fun g=>n0<=g/\g < w.heap.size) w (.sl 9 .str) rs [v]:=by
 rcases h.2 with ⟨rfl,h0⟩ | ⟨g,cap,cur,rfl,hb,hg,hc,_,_,ht⟩
 · obtain rfl:=List.eq_nil_of_length_eq_zero h0
   simp only [KR]
   exact ⟨none,0,rfl,Nat.le_refl _,.inl rfl⟩
 · simp only [KR]
   refine ⟨some ⟨g,0,none⟩,cap,rfl,hc,.inr ⟨g,0,_,rfl,⟨by omega,(Array.getElem?_eq_some_iff.1 hg).1⟩,zlb (V:=fun g=>n0<=g/\g < w.heap.size) (w:=w) rs,fun j u hj=>?_⟩⟩
   have hlt:j < (rs.map Value.string).length:=(List.getElem?_eq_some_iff.1 hj).1
   rw [cell_of_row _ _ _ _ _ _ hg,Nat.zero_add,<- hj,<- ht,List.getElem?_take,<- Array.getElem?_toList]
   rw [if_pos (by rw [List.length_map] at hlt; omega)]
theorem zhR:@zel ⟨svOf step⟩ Tryz.prog (zdC Tryz.prog) 40 74 9:=by
 intro s w _ hQ
 have hQ':DoorW Tryz.prog w:=hQ
 show Calls Tryz.prog 40 #[.string s] w fun e w'=>∃ u v,e = .returned (.tuple #[.agg #[u,.int .i64 ((svOf step).n s)],v,.bool ((svOf step).b s)])/\Below w.heap.size w w' /\
  KR (fun g=>w.heap.size<=g/\g < w'.heap.size) w' (.sl 74 (.pair i6 i6)) ((svOf step).D s) [u]/\KR (fun g=>w.heap.size<=g/\g < w'.heap.size) w' (.sl 9 .str) ((svOf step).r s) [v]
 unfold svOf
 dsimp only
 cases hg:zcq s with
 | true =>
  simp only [cond_true]
  refine (Sc.run_good zrE (show dOk _ _=true by decide) Sc.calls_73 Sc.calls_74 Sc.calls_76 Sc.calls_126 Sc.first_desk s hg w fun W h=>DoorW.below hQ' h).mono ?_
  rintro e w' ⟨u,v,rs,rfl,hb,hd,hrs,hr⟩
  subst hrs
  refine ⟨u,v,rfl,hb,KR.mono (fun g hg=>⟨⟨Nat.le_of_lt (Nat.lt_of_not_le fun h=>hg.1 (.inl h)),hg.2⟩,rfl⟩) _ _ _ (zoV hd),zrF hr⟩
 | false =>
  simp only [cond_false]
  refine (Sc.run_bad Sc.calls_73 Sc.calls_74 s hg w).mono ?_
  rintro e w' ⟨rfl,hb⟩
  refine ⟨_,_,rfl,hb,?_,?_⟩ <;> simp only [KR] <;> exact ⟨none,0,rfl,Nat.le_refl _,.inl rfl⟩
noncomputable instance:Inhabited Sv:=⟨svOf step⟩
theorem link {w:World} (hw:DoorW Tryz.prog w) {d:Dk} {l:ByteArray} (hd:okD d) (hl:l.size<=100000) {r:Dk×ByteArray} (h:Ev (fun k=>qfrz.f k d.1 d.2 l) r):r=step d l:=by
 obtain ⟨D,n⟩:=d
 have hbw:Below w.heap.size w (w.alloc (.cells (flat D).toArray 74)):=(Below.refl _ w).alloc (Nat.le_refl _) _
 have hw1:DoorW Tryz.prog (w.alloc (.cells (flat D).toArray 74)):=DoorW.below hw hbw
 have hcell:=World.alloc_heap_new w (.cells (flat D).toArray 74)
 have hD:Sc.DS (fun _=>False) (w.alloc (.cells (flat D).toArray 74)) D (.slice (some ⟨w.heap.size,0,none⟩) D.length D.length) :=
  ⟨_,_,rfl,Nat.le_refl _,.inr ⟨w.heap.size,0,_,_,_,rfl,fun h=>h,hcell,fun j u hj=>by rw [cell_of_row _ _ _ _ _ _ hcell,Nat.zero_add,<- hj]; exact List.getElem?_toArray⟩⟩
 have h1:=(zrE (D,n) l hd hl).2 _ _ _ hD hw1
 obtain ⟨V0,hV,hA⟩:=zsU (n:=n) (l:=l) hD
 obtain ⟨K,hK⟩:=Ev.rounds h
 have hp:PI Cx K 48 [va [.sl 74 (.pair i6 i6) D,ci n],vs l]=some r:=hK
 have h2:=zkD fits (zlg zhR) hp (by kernel_rfl) (by kernel_rfl) (e:=74) (t:=.pair i6 i6) (xs:=r.1.1) (n:=r.1.2) (s:=r.2) (by kernel_rfl) (fun g h=>(hV g h).1) hA hw1 (DoorW.lt hw1)
 generalize step (D,n) l=q at *
 obtain ⟨v,w',⟨A,c,e1,hk1,_⟩,u,e2,hk2,_⟩:=zqJ h1 h2 (by rintro e w' ⟨A,c,rfl,_⟩; exact ⟨_,rfl⟩) (by rintro e w' ⟨u,rfl,_⟩; exact ⟨_,rfl⟩)
 rw [e1] at e2
 simp only [Ending.returned.injEq,Value.tuple.injEq,Value.agg.injEq,Array.mk.injEq,List.cons.injEq,Value.int.injEq,Value.string.injEq,and_true,true_and] at e2
 obtain ⟨⟨e3,e4⟩,e5⟩:=e2
 subst e3
 have hk3:=hk1 (fun _=>False) (fun _ h=>h.elim) hD
 have e6:=zpq (zoV hk3) hk2
 obtain ⟨⟨D1,n1⟩,s1⟩:=q
 obtain ⟨⟨D2,n2⟩,s2⟩:=r
 simp only at e4 e5 e6
 rw [e4,e5,e6]
theorem zu2 {w:World} (hw:DoorW Tryz.prog w):ztU:=⟨step,rfl,fun D n l hD hl=>by
 obtain ⟨r,h1,h2,h3⟩:=zmL hD hl
 have e:=link hw (d:=(D,n)) (l:=bL l) hD (by rw [zak]; exact hl) h2
 rw [<- e]
 exact ⟨h1,h2,h3⟩⟩
end Go.Proofs.YtdhkgmhdengnkaaGreatDoor.Ds
