/- A pure interpreter of the program, and its soundness (part 2 of 3). -/
import Derived.LoopN
import Derived.Scope
import Derived.Orders
import Derived.Test.YtdhkgmhdengnkaaGreatDoorPa
namespace Go.Proofs.YtdhkgmhdengnkaaGreatDoorPi
set_option linter.unusedVariables false
set_option linter.unusedSimpArgs false
open Go
structure EnvR (σ:Sit) (n:Nat) (env:List (Nat×AV)) (a:Act):Prop where
 size:a.tmps.size=n
 dfs:a.defers=[]
 val:∀ t v,zaa env t=some v->AR σ v (a.eval (.tmp t))
theorem EnvR.mono {σ σ':Sit} (h:σ.Le σ') {n:Nat} {env:List (Nat×AV)} {a:Act} (k:EnvR σ n env a):EnvR σ' n env a :=
 ⟨k.size,k.dfs,fun t v e=>AR.mono h _ _ (k.val t v e)⟩
theorem zfx {σ:Sit} {v:Value} {c:Cel} (h:zh6 v=some c):CR σ c v:=by
 unfold zh6 at h
 split at h <;> cases h <;> simp only [CR]
theorem zeR {σ:Sit}:∀ {vs:List Value} {cs:List Cel},zeJ vs=some cs->CRs σ cs vs
 | [],cs,h=>by simp only [zeJ] at h; cases h; simp [CRs]
 | v::r,cs,h=>by
  simp only [zeJ] at h
  split at h
  · rename_i c hc
    split at h
    · rename_i cs' hcs
      cases h
      simp only [CRs]
      exact ⟨v,r,rfl,zfx hc,zeR hcs⟩
    · cases h
  · cases h
theorem zkP {σ:Sit} {v:Value} {x:AV} (h:zmP v=some x):AR σ x v:=by
 unfold zmP at h
 split at h
 · rename_i cs
   split at h
   · rename_i l hl
     cases h
     exact ⟨cs.toList,by simp,zeR hl⟩
   · cases h
 · rename_i us
   split at h
   · rename_i hus
     cases h
     exact ⟨us.toList,by simp,hus⟩
   · cases h
 · split at h
   · rename_i c hc
     cases h
     exact zfx hc
   · cases h
theorem zkh {σ:Sit} {n:Nat} {env:List (Nat×AV)} {a:Act} (H:EnvR σ n env a) {x:Operand} {v:AV} (h:opnd env x=some v):AR σ v (a.eval x):=by
 cases x with
 | tmp t=>exact H.val t v h
 | const c=>exact zkP h
 | func f =>
  simp only [opnd] at h
  cases h
  show CR _ _ _
  simp only [CR]
  exact ⟨[],rfl,by simp [CRs]⟩
 | «global» g=>simp only [opnd] at h; cases h
theorem ziI {σ:Sit} {n:Nat} {env:List (Nat×AV)} {a:Act} (H:EnvR σ n env a):∀ {xs:List Operand} {vs:List AV},zeK env xs=some vs->ARs σ vs (xs.map a.eval)
 | [],vs,h=>by simp only [zeK] at h; cases h; rfl
 | x::r,vs,h=>by
  simp only [zeK] at h
  split at h
  · rename_i v hv
    split at h
    · rename_i vs' hvs
      cases h
      exact ⟨_,_,rfl,zkh H hv,ziI H hvs⟩
    · cases h
  · cases h
theorem ziJ {a b:Nat} (h:Nat.blt a b=true):a < b:=by
 unfold Nat.blt at h
 exact Nat.le_of_ble_eq_true h
theorem ziK {σ:Sit} {n:Nat} {env env':List (Nat×AV)} {a:Act} (H:EnvR σ n env a) {dst:Option Nat} {v:AV} {u:Value} (h:zds n env dst v=some env') (hv:AR σ v u) :
    EnvR σ n env' (a.put dst u):=by
 unfold zds at h
 split at h
 · cases h; exact H
 · rename_i d
   obtain ⟨hd,h⟩:=zaj h
   have hd:=ziJ hd
   cases h
   refine ⟨by simp [Act.put,H.size],H.dfs,fun t v' e=>?_⟩
   by_cases htd:d=t
   · subst htd
     rw [zag] at e
     cases e
     have:(a.put (some d) u).eval (.tmp d)=u:=by simp [Act.put,Act.eval,H.size,hd]
     rw [this]; exact hv
   · rw [zad _ _ htd] at e
     have:(a.put (some d) u).eval (.tmp t)=a.eval (.tmp t):=by simp [Act.put,Act.eval,Array.getElem?_setIfInBounds_ne htd]
     rw [this]; exact H.val t v' e
structure StR (B:Base) (n:Nat) (s:St) (ρ:Nat->Option RI) (a:Act) (w:World):Prop where
 inv:MInv B (zaa s.mu) s.dead ρ w
 env:EnvR (B.sit (zaa s.mu) ρ w) n s.env a
 pin:∀ id,isIn id=true->zaa s.mu id ≠ none->ρ id=B.pin id
theorem EnvR.set {σ:Sit} {n:Nat} {env:List (Nat×AV)} {a:Act} (H:EnvR σ n env a) {t:Nat} {v:AV} (h:AR σ v (a.eval (.tmp t))):EnvR σ n ((t,v)::env) a:=by
 refine ⟨H.size,H.dfs,fun t' v' e=>?_⟩
 by_cases ht:t=t'
 · subst ht
   rw [zag] at e
   cases e
   exact h
 · rw [zad _ _ ht] at e
   exact H.val t' v' e
section
variable {B:Base} {n:Nat} {ρ:Nat->Option RI} {a:Act} {w:World}
theorem zpW {mu:List (Nat×Cont)} {dead:List Nat} (H:MInv B (zaa mu) dead ρ w) {id:Nat} {e:TypeId} {te:Ty} {ti:TI} (hT:B.C.T e=some ti) (hty:ti.ty=some te) (hid:zaa mu id=none) (hd:id ∉ dead) :
    (B.sit (zaa mu) ρ w).Le (B.sit (zaa ((id,.row e te [] .own)::mu)) (upd ρ id ⟨none,0,0,te.size⟩) w)/\MInv B (zaa ((id,.row e te [] .own)::mu)) dead (upd ρ id ⟨none,0,0,te.size⟩) w :=
 H.add hid hd ⟨rfl,rfl,rfl,Nat.le_refl _⟩ (fun _ _=>rfl) (fun g h=>by cases h) (fun σ' _ h1 _=>⟨_,h1,rfl,rfl,⟨ti,hT,hty⟩,rfl⟩)
theorem zgr {σ:Sit} {id:Nat} {sz:Nat} (h:σ.ρ id=some ⟨none,0,0,sz⟩) {v:Value} (hv:CR σ .nilsl v):CR σ (.full id) v:=by
 simp only [CR] at hv ⊢
 exact ⟨_,h,rfl,none,hv⟩
theorem zcz:∀ (l:List (Nat×Nat)) {s s':St} {ρ:Nat->Option RI},zdu B.C s l=some s'->StR B n s ρ a w->∃ ρ',StR B n s' ρ' a w
 | [],s,s',ρ,h,H=>by simp only [zdu] at h; cases h; exact ⟨ρ,H⟩
 | (t,0)::r,s,s',ρ,h,H=>zcz r (by simpa only [zdu] using h) H
 | (t,e+1)::r,s,s',ρ,h,H=>by
  simp only [zdu] at h
  generalize ziv t 999=hid0 at h
  split at h
  · rename_i hv
    split at h
    · rename_i ti hT
      split at h
      · rename_i te hty hid
        cases hd:s.dead.any (Nat.beq (hid0)) with
        | true=>rw [hd,Bool.or_true] at h; cases h
        | false =>
         rw [hd,Bool.or_false] at h
         cases hin:isIn hid0 with
         | true=>rw [hin] at h; cases h
         | false =>
         rw [hin] at h
         dsimp only [cond_false] at h
         obtain ⟨le,inv⟩:=zpW H.inv hT hty hid (zd2 hd)
         have hold:=H.env.val _ _ hv
         refine zcz r h (ρ:=upd ρ (hid0) ⟨none,0,0,te.size⟩) ⟨inv,?_,?_⟩
         · refine (H.env.mono le).set ?_
           exact zgr (zaZ _ _ _) (show CR _ .nilsl _ from AR.mono le _ _ hold)
         · intro id hi hm
           have hne:hid0 ≠ id:=by intro e; rw [e,hi] at hin; cases hin
           rw [zad _ _ hne] at hm
           rw [zlL _ _ (Ne.symm hne)]
           exact H.pin id hi hm
      · cases h
    · cases h
  · exact zcz r h H
theorem zgZ {σ:Sit} {c c':Cel} (hc:∀ v,CR σ c v->CR σ c' v):∀ (cs:List Cel) (j:Nat) (us:List Value),cs[j]? = some c->CRs σ cs us->CRs σ (zhp cs j c') us
 | [],j,us,h,_=>by simp at h
 | x::cs,0,us,h,k=>by
  simp only [CRs,zhp] at k ⊢
  simp at h
  subst h
  obtain ⟨u,r,e,h1,h2⟩:=k
  exact ⟨u,r,e,hc u h1,h2⟩
 | x::cs,j+1,us,h,k=>by
  simp only [CRs,zhp] at k ⊢
  obtain ⟨u,r,e,h1,h2⟩:=k
  exact ⟨u,r,e,h1,zgZ hc cs j r (by simpa using h) h2⟩
theorem zce:∀ (l:List (Nat×Nat×Nat)) {s s':St} {ρ:Nat->Option RI},zde B.C s l=some s'->StR B n s ρ a w->∃ ρ',StR B n s' ρ' a w
 | [],s,s',ρ,h,H=>by simp only [zde] at h; cases h; exact ⟨ρ,H⟩
 | (b,j,e)::r,s,s',ρ,h,H=>by
  simp only [zde] at h
  generalize zeO b (j+500)=hid0 at h
  split at h
  · rename_i t cs hb
    split at h
    · rename_i hj
      split at h
      · rename_i ti hT
        split at h
        · rename_i te hty hid
          cases hd:s.dead.any (Nat.beq (hid0)) with
          | true=>rw [hd,Bool.or_true] at h; cases h
          | false =>
           rw [hd,Bool.or_false] at h
           cases hin:isIn hid0 with
           | true=>rw [hin] at h; cases h
           | false =>
           rw [hin] at h
           dsimp only [cond_false] at h
           have hne:hid0 ≠ b:=by
            intro e; rw [e] at hid; rw [hid] at hb; cases hb
           obtain ⟨le,inv⟩:=zpW H.inv hT hty hid (zd2 hd)
           have hb':zaa ((hid0,Cont.row e te [] .own)::s.mu) b=some (.box t cs):=by rw [zad _ _ hne]; exact hb
           obtain ⟨i,g,cur,h1,h2,h3,h4⟩:=inv.cont b _ hb'
           obtain ⟨le2,inv2⟩:=inv.turn (c1:=.box t (zhp cs j (.full (hid0)))) (w':=w) hb' trivial h1 ⟨rfl,rfl,rfl,Nat.le_refl _⟩ (fun _ _ _=>rfl) (fun e t xs m h=>by cases h) (by
            intro σ' hle hi hw
            have h4':=CRs.mono hle _ _ h4
            refine ⟨i,g,cur,hi,h2,by rw [hw]; exact h3,zgZ (fun v hv=>zgr (sz:=te.size) ?_ hv) cs j _ hj h4'⟩
            exact hle.id _ _ (zaZ _ _ _))
           have hmu:adel ((hid0,Cont.row e te [] .own)::s.mu) b=(hid0,Cont.row e te [] .own)::adel s.mu b:=by simp only [adel,zlH hne,cond_false]
           rw [hmu] at le2 inv2
           refine zce r h (ρ:=upd ρ (hid0) ⟨none,0,0,te.size⟩) ⟨inv2,(H.env.mono le).mono le2,fun id hi hm=>?_⟩
           have hne2:hid0 ≠ id:=by intro e; rw [e,hi] at hin; cases hin
           rw [zlL _ _ (Ne.symm hne2)]
           by_cases hbi:b=id
           · refine H.pin id hi ?_
             rw [<- hbi,hb]; simp
           · rw [zad _ _ hbi,zad _ _ hne2,zao hbi] at hm
             exact H.pin id hi hm
        · cases h
      · cases h
    · exact zce r h H
  · exact zce r h H
theorem zsw {σ:Sit} {e:TypeId} {t:Ty} {v:Value} (hv:CR σ .nilsl v):CR σ (.sl e t []) v:=by
 simp only [CR] at hv
 subst hv
 simp only [CR,KR]
 exact ⟨none,0,rfl,Nat.le_refl _,.inl rfl⟩
theorem zel:∀ (l:List (Nat×Nat)) {s s':St},zgO B.C s l=some s'->StR B n s ρ a w->StR B n s' ρ a w
 | [],s,s',h,H=>by simp only [zgO] at h; cases h; exact H
 | (t,e)::r,s,s',h,H=>by
  simp only [zgO] at h
  split at h
  · rename_i hv
    split at h
    · split at h
      · rename_i te _
        have hold:=H.env.val _ _ hv
        exact zel r h ⟨H.inv,H.env.set (zsw (e:=e) (show CR _ .nilsl _ from hold)),H.pin⟩
      · cases h
    · cases h
  · exact zel r h H
theorem zcA:∀ (l:List (Nat×Nat×Nat)) {s s':St},zei B.C s l=some s'->StR B n s ρ a w->StR B n s' ρ a w
 | [],s,s',h,H=>by simp only [zei] at h; cases h; exact H
 | (b,j,e)::r,s,s',h,H=>by
  simp only [zei] at h
  split at h
  · rename_i t cs hb
    split at h
    · rename_i hj
      split at h
      · split at h
        · rename_i te _
          obtain ⟨i,g,cur,h1,h2,h3,h4⟩:=H.inv.cont b _ hb
          obtain ⟨le2,inv2⟩:=H.inv.turn (c1:=.box t (zhp cs j (.sl e te []))) (w':=w) hb trivial h1 ⟨rfl,rfl,rfl,Nat.le_refl _⟩ (fun _ _ _=>rfl) (fun e t xs m h=>by cases h) (by
           intro σ' hle hi hw
           exact ⟨i,g,cur,hi,h2,by rw [hw]; exact h3,zgZ (fun v hv=>zsw hv) cs j _ hj (CRs.mono hle _ _ h4)⟩)
          refine zcA r h ⟨inv2,H.env.mono le2,fun id hi hm=>?_⟩
          by_cases hbi:b=id
          · refine H.pin id hi ?_
            rw [<- hbi,hb]; simp
          · rw [zad _ _ hbi,zao hbi] at hm
            exact H.pin id hi hm
        · cases h
      · cases h
    · exact zcA r h H
  · exact zcA r h H
theorem zcM:∀ (l:List (Nat×Nat)) {s:St},StR B n s ρ a w->StR B n (ziw s l) ρ a w
 | [],s,H=>H
 | (b,j)::r,s,H=>by
  simp only [ziw]
  split
  · split
    · split
      · rename_i id _ _ e t xs hm
        obtain ⟨i,h1,h2⟩:=H.inv.cont id _ hm
        obtain ⟨le2,inv2⟩:=H.inv.turn (c1:=.row e t xs .come) (w':=w) hm (by intro h; cases h) h1 ⟨rfl,rfl,rfl,Nat.le_refl _⟩ (fun _ _ _=>rfl) (fun e t xs m h hmd=>by cases h; rcases hmd with hmd | hmd <;> cases hmd) (by
         intro σ' hle hi hw
         exact ContR.mono (c:=.row e t xs .come) hle (fun i g _ _=>by rw [hw]) (show ContR _ _ id (.row e t xs .come) from ⟨i,h1,h2⟩))
        refine zcM r ⟨inv2,H.env.mono le2,fun id' hi hm'=>?_⟩
        by_cases hbi:id=id'
        · refine H.pin id' hi ?_
          rw [<- hbi,hm]; simp
        · rw [zad _ _ hbi,zao hbi] at hm'
          exact H.pin id' hi hm'
      · exact zcM r H
    · exact zcM r H
  · exact zcM r H
theorem zem:∀ (l:List Nat) {s s':St},zgP s l=some s'->StR B n s ρ a w->StR B n s' ρ a w
 | [],s,s',h,H=>by simp only [zgP] at h; cases h; exact H
 | t::r,s,s',h,H=>by
  simp only [zgP] at h
  split at h
  · rename_i c hv
    split at h
    · rename_i c' fz hs hf
      obtain ⟨_,le,inv,hfV,hl⟩:=H.inv.freeze hf
      have hc:CR (B.sit (zaa s.mu) ρ w) c (a.eval (.tmp t)):=H.env.val _ _ hv
      have h1:=zdZ (V':=B.V (zaa (zab s.mu fz)) ρ w) H.inv.cont (fun g hg=>(le.blk g hg).1) c c' _ hs hc (fun id hid i g hi hg=>hfV id hid i g hi hg)
      refine zem r h ⟨inv,(H.env.mono le).set h1,fun id hi hm=>H.pin id hi ?_⟩
      rcases hl id with h2 | ⟨e,t,xs,h2,_⟩
      · rw [<- h2]; exact hm
      · rw [h2]; simp
    · cases h
  · exact zem r h H
theorem zb6:∀ {l:List Nat},zgg l=true->l.Nodup
 | [],_=>List.nodup_nil
 | a::r,h=>by
  simp only [zgg,Bool.and_eq_true,Bool.not_eq_true'] at h
  exact List.nodup_cons.2 ⟨zd2 h.1,zb6 h.2⟩
theorem zaE {α:Type}:∀ {l:List (Nat×α)} {k:Nat} {v:α},zaa l k=some v->(k,v)∈l
 | [],_,_,h=>by simp [zaa] at h
 | (k',v')::r,k,v,h=>by
  by_cases hk:k'=k
  · subst hk
    rw [zag] at h
    cases h
    simp
  · rw [zad _ _ hk] at h
    exact List.mem_cons_of_mem _ (zaE h)
theorem zaH {α:Type}:∀ {l:List (Nat×α)} {k:Nat} {v:α},(l.map Prod.fst).Nodup->(k,v)∈l->zaa l k=some v
 | [],_,_,_,h=>by simp at h
 | (k',v')::r,k,v,hn,h=>by
  simp only [List.map_cons,List.nodup_cons] at hn
  rcases List.mem_cons.1 h with h | h
  · cases h; rw [zag]
  · have:k' ≠ k:=by
     intro e; subst e
     exact hn.1 (List.mem_map.2 ⟨_,h,rfl⟩)
    rw [zad _ _ this]
    exact zaH hn.2 h
def zoM (m:List (Nat×Nat)):List (Nat×Nat):=m.map fun x=>(x.2,x.1)
theorem zkQ (m:List (Nat×Nat)):(zoM m).map Prod.fst=m.map Prod.snd:=by simp [zoM]
theorem zib {m:List (Nat×Nat)} {a b:Nat}:(b,a)∈zoM m ↔ (a,b)∈m:=by
 simp only [zoM,List.mem_map]
 constructor
 · rintro ⟨⟨x,y⟩,h,e⟩
   cases e
   exact h
 · intro h
   exact ⟨_,h,rfl⟩
theorem zsW {m:List (Nat×Nat)} (h:(m.map Prod.fst).Nodup) {a b b':Nat} (h1:(a,b)∈m) (h2:(a,b')∈m):b=b':=by
 have e1:=zaH h h1
 have e2:=zaH h h2
 rw [e1] at e2
 exact Option.some.inj e2
theorem zdg {mu:Look} {m:List (Nat×Nat)}:∀ {l:List (Nat×Nat)} {b:Nat} {c':Cont},zaa (zcV mu m l) b=some c'->∃ a c,(a,b)∈l/\mu a=some c/\c'=zmS m c
 | [],b,c',h=>by simp [zcV,zaa] at h
 | (x,y)::r,b,c',h=>by
  simp only [zcV] at h
  split at h
  · rename_i c hc
    by_cases hy:y=b
    · subst hy
      rw [zag] at h
      cases h
      exact ⟨x,c,by simp,hc,rfl⟩
    · rw [zad _ _ hy] at h
      obtain ⟨a,c,h1,h2,h3⟩:=zdg h
      exact ⟨a,c,List.mem_cons_of_mem _ h1,h2,h3⟩
  · obtain ⟨a,c,h1,h2,h3⟩:=zdg h
    exact ⟨a,c,List.mem_cons_of_mem _ h1,h2,h3⟩
theorem ziL {mu:Look} {m:List (Nat×Nat)}:∀ {l:List (Nat×Nat)} {a b:Nat},(a,b)∈l->mu a ≠ none->zaa (zcV mu m l) b ≠ none
 | [],a,b,h,_=>by simp at h
 | (x,y)::r,a,b,h,hn=>by
  simp only [zcV]
  split
  · rename_i c hc
    by_cases hy:y=b
    · subst hy; rw [zag]; simp
    · rw [zad _ _ hy]
      rcases List.mem_cons.1 h with h | h
      · cases h; exact absurd rfl hy
      · exact ziL h hn
  · rename_i hc
    rcases List.mem_cons.1 h with h | h
    · cases h; exact absurd hc hn
    · exact ziL h hn
theorem zeS {s:St} {m:List (Nat×Nat)}:∀ {l:List (Nat×Nat)} {t:Nat} {v':AV},zaa (zgR s m l) t=some v'->∃ v,zaa s.env t=some v/\v'=zrC m v
 | [],t,v',h=>by simp [zgR,zaa] at h
 | (x,y)::r,t,v',h=>by
  simp only [zgR] at h
  split at h
  · rename_i v hv
    by_cases hx:x=t
    · subst hx
      rw [zag] at h
      cases h
      exact ⟨v,hv,rfl⟩
    · rw [zad _ _ hx] at h
      exact zeS h
  · exact zeS h
theorem ContR.ren {σ σ':Sit} {m:List (Nat×Nat)} (h:RenOk σ σ' m) {C:Ctx} {a b:Nat} {c:Cont} (hi:∀ i,σ.ρ a=some i->σ'.ρ b=some i) (k:ContR C σ a c):ContR C σ' b (zmS m c):=by
 cases c with
 | box e cs =>
  obtain ⟨i,g,cur,h1,h2,h3,h4⟩:=k
  exact ⟨i,g,cur,hi i h1,h2,by rw [h.w]; exact h3,ziH (zlS h) _ _ h4⟩
 | row e t xs md =>
  obtain ⟨i,h1,h2,h3,h4,h5⟩:=k
  refine ⟨i,hi i h1,h2,h3,h4,?_⟩
  cases hg:i.g with
  | none =>
   simp only [RowR,hg] at h5 ⊢
   exact h5
  | some g =>
   simp only [RowR,hg] at h5 ⊢
   obtain ⟨cur,e1,e2,e3,e4,e5⟩:=h5
   exact ⟨cur,by rw [h.w]; exact e1,e2,e3,e4,KL.imp (KR.mono h.blk t) _ _ e5⟩
theorem zsX {mu:List (Nat×Cont)} {dead:List Nat} (H:MInv B (zaa mu) dead ρ w) {m:List (Nat×Nat)} (h1:(m.map Prod.fst).Nodup) (h2:(m.map Prod.snd).Nodup)
    (hm:∀ a b,(a,b)∈m->zaa mu a ≠ none) :
    ∃ ρ',MInv B (zaa (zcV (zaa mu) m m)) [] ρ' w/\RenOk (B.sit (zaa mu) ρ w) (B.sit (zaa (zcV (zaa mu) m m)) ρ' w) m /\ ∀ a b,(a,b)∈m->ρ' b=ρ a:=by
 let ρ':Nat->Option RI:=fun b=>match zaa (zoM m) b with | some a=>ρ a | none=>none
 have hρ:∀ a b,(a,b)∈m->ρ' b=ρ a:=by
  intro a b hab
  have:zaa (zoM m) b=some a:=zaH (by rw [zkQ]; exact h2) (zib.2 hab)
  simp only [ρ',this]
 have hok:(∀ g,(B.sit (zaa mu) ρ w).V g->(B.sit (zaa (zcV (zaa mu) m m)) ρ' w).V g)->RenOk (B.sit (zaa mu) ρ w) (B.sit (zaa (zcV (zaa mu) m m)) ρ' w) m:=by
  intro hV
  refine ⟨rfl,hV,fun g h=>.inr h,fun a b i hab hi=>?_⟩
  show ρ' b=some i
  rw [hρ a b (zaE hab)]
  exact hi
 have key:(∀ g,(B.sit (zaa mu) ρ w).V g->(B.sit (zaa (zcV (zaa mu) m m)) ρ' w).V g)/\MInv B (zaa (zcV (zaa mu) m m)) [] ρ' w:=by
  refine H.ren (B':=B) (mu':=zaa (zcV (zaa mu) m m)) (ρ':=ρ') (dead':=[]) (fun b a=>(a,b)∈m) (fun b b' c hb hb'=>zsW h1 hb hb') ?_ ?_ (fun g hg=>hg.2.1) ?_ ?_ H.ext H.rd
  · intro b i hb
    left
    simp only [ρ'] at hb
    split at hb
    · rename_i a' ha'
      have:=zib.1 (zaE ha')
      exact ziL this (hm _ _ this)
    · cases hb
  · intro b c' hb
    obtain ⟨a',c,h3,h4,rfl⟩:=zdg hb
    refine .inr ⟨a',c,h3,h4,?_,?_,fun i hi=>by rw [<- hρ a' b h3]; exact hi,fun hV hc=>ContR.ren (hok hV) (fun i hi=>by show ρ' b=some i; rw [hρ a' b h3]; exact hi) hc⟩
    · cases c <;> exact id
    · intro e t xs md he hmd
      cases c with
      | box e' cs=>cases he
      | row e' t' xs' m'=>cases he; exact ⟨e,t,xs,md,rfl,hmd⟩
  · intro b a' i g _ _ hn hi hg
    exact H.own a' i g hn hi hg
  · intro b a' e t xs md i g hb hmd hab hi hg
    obtain ⟨a2,c,h3,h4,h5⟩:=zdg hb
    have:a'=a2:=by
     have e1:=zaH (by rw [zkQ]; exact h2) (zib.2 hab)
     have e2:=zaH (by rw [zkQ]; exact h2) (zib.2 h3)
     rw [e1] at e2
     exact Option.some.inj e2
    subst this
    cases c with
    | box e' cs=>cases h5
    | row e' t' xs' m'=>cases h5; exact H.new a' e t xs md i g h4 hmd hi hg
 exact ⟨ρ',key.2,hok key.1,hρ⟩
theorem zoN {kp:Keep} {s s':St} (h:norm B.C kp s=some s') (H:StR B n s ρ a w):∃ ρ',StR B n s' ρ' a w:=by
 unfold norm at h
 split at h
 · cases h
 · rename_i s1 hs1
   split at h
   · cases h
   · rename_i s3 hs3
     split at h
     · cases h
     rename_i s4 hs4
     split at h
     · cases h
     rename_i s5 hs5
     split at h
     · cases h
     rename_i s2 hs2
     obtain ⟨ρ1,H1⟩:=zcz _ hs1 H
     obtain ⟨ρ2,H3⟩:=zce _ hs3 H1
     have H2:=zem _ hs2 (zcM kp.weak (zcA _ hs5 (zel _ hs4 H3)))
     dsimp only at h
     generalize hm:(zh8 s2 kp.slots (zgj (zaa s2.mu) kp.ins [])).filter (fun x=>(zaa s2.mu x.1).isSome)=m at h
     obtain ⟨hn,h⟩:=zaj h
     cases h
     rw [Bool.and_eq_true,Bool.and_eq_true] at hn
     obtain ⟨hn,hfix⟩:=hn
     have hsm:∀ a b,(a,b)∈m->zaa s2.mu a ≠ none:=by
      intro a b hab
      rw [<- hm] at hab
      have:=(List.mem_filter.1 hab).2
      intro e
      rw [e] at this
      cases this
     obtain ⟨ρ',inv,hok,hρ⟩:=zsX H2.inv (zb6 hn.1) (zb6 hn.2) (m:=m) (by
      intro a b hab
      rw [<- hm] at hab
      have:=(List.mem_filter.1 hab).2
      intro e
      rw [e] at this
      cases this)
     refine ⟨ρ',inv,⟨H2.env.size,H2.env.dfs,fun t v' e=>?_⟩,fun id hi hid=>?_⟩
     · obtain ⟨v,hv,rfl⟩:=zeS e
       exact ztX hok _ _ (H2.env.val t v hv)
     · cases hk:zaa (zcV (zaa s2.mu) m m) id with
       | none=>exact absurd hk hid
       | some c' =>
        obtain ⟨a',c,h3,_,_⟩:=zdg hk
        have h4:=List.all_eq_true.1 hfix _ h3
        dsimp only at h4
        rw [hi,Bool.not_true,Bool.false_or] at h4
        have h5:=Nat.eq_of_beq_eq_true h4
        subst h5
        rw [hρ _ _ h3]
        exact H2.pin _ hi (hsm _ _ h3)
end
end Go.Proofs.YtdhkgmhdengnkaaGreatDoorPi
namespace Go.Proofs.YtdhkgmhdengnkaaGreatDoorPi
set_option linter.unusedVariables false
set_option linter.unusedSimpArgs false
open Go
def ztY:Ex->Exit->Prop
 | .normal,e=>e = .normal
 | .exit i,e=>e = .exit i
 | .ret,e=>e = .ret
section
variable {B:Base} {P:Program} {n:Nat} {R:Type}
def Post (B:Base) (n:Nat) (K:Ex->St->Option R) (r:R) (e:Exit) (a:Act) (w:World):Prop :=
 ∃ ex s ρ,ztY ex e/\StR B n s ρ a w/\K ex s=some r
def zsY (P:Program) (B:Base) (pi:(g:FuncId)->List AV->Option (B.C.sig g).den) (f n:Nat):Prop :=
 ∀ {R:Type} (id:Nat) (ops:Array Oper) (draw:Bool) (s:St) (K:St->Option R) (r:R) (ρ:Nat->Option RI) (a:Act) (w:World),
  ziu B.C pi f n id ops.toList draw s K=some r->StR B n s ρ a w ->
  (Code.region id ops draw).wp P (fun e a' w'=>e = .normal /\ ∃ s' ρ',StR B n s' ρ' a' w' /\ K s'=some r) a w
theorem zeT {f:FuncId} {q:Option Nat} {s:St} {K:St->Option R} {r:R} {ρ:Nat->Option RI} {a:Act} {w:World} (h:zhq B.C f q s K=some r) (H:StR B n s ρ a w) :
    ∃ s' ρ',StR B n s' ρ' a w/\K s'=some r:=by
 unfold zhq at h
 split at h
 · exact ⟨s,ρ,H,h⟩
 · split at h
   · exact ⟨s,ρ,H,h⟩
   · split at h
     · rename_i s' hs
       obtain ⟨ρ',H'⟩:=zoN hs H
       exact ⟨s',ρ',H',h⟩
     · cases h
theorem zki {f:FuncId} {q:Option Nat} {c:Code} {body:St->(Ex->St->Option R)->Option R}
    (hb:∀ (s:St) (K:Ex->St->Option R) (r:R) (ρ:Nat->Option RI) (a:Act) (w:World),body s K=some r->StR B n s ρ a w->c.wp P (Post B n K r) a w)
    (K:Ex->St->Option R) (r:R):∀ (k:Nat) (s:St) (ρ:Nat->Option RI) (a:Act) (w:World),zlC B.C f q body k s K=some r->StR B n s ρ a w->Code.rounds P c (Post B n K r) k a w
 | 0,s,ρ,a,w,h,H=>by simp only [zlC] at h; cases h
 | k+1,s,ρ,a,w,h,H=>by
  replace h:body s (fun e s'=>match e with | .normal=>zhq B.C f q s' (fun s''=>zlC B.C f q body k s'' K) | e=>K e s')=some r:=h
  rw [rounds_succ]
  refine wp_mono (hb s _ r ρ a w h H) ?_
  rintro e a' w' ⟨ex,s',ρ',he,H',hK⟩
  cases ex with
  | normal =>
   have he':e = .normal:=he
   subst he'
   dsimp only at hK
   obtain ⟨s2,ρ2,H2,hK2⟩:=zeT hK H'
   exact zki hb K r k s2 ρ2 a' w' hK2 H2
  | exit i =>
   have he':e = .exit i:=he
   subst he'
   exact ⟨.exit i,s',ρ',rfl,H',hK⟩
  | ret =>
   have he':e = .ret:=he
   subst he'
   exact ⟨.ret,s',ρ',rfl,H',hK⟩
theorem zpX {k:Nat} {s:St} {K:St->Option R} {r:R} (h:gate k s K=some r):K s=some r:=by
 cases k with
 | zero=>simp only [gate] at h; cases h
 | succ k=>exact h
theorem zrJ {C:Ctx} {f:FuncId} {k:Nat} {r:Option Nat} {s:St} {K:St->Option R} {q:R} (h:zrD C f k r s K=some q):zhq C f r s K=some q:=by
 unfold zrD at h
 unfold zhq
 cases r with
 | none=>exact h
 | some r =>
  dsimp only at h ⊢
  cases hh:C.hint f r with
  | none=>rw [hh] at h; exact h
  | some kp =>
   rw [hh] at h
   dsimp only at h ⊢
   cases hn:norm C kp s with
   | none=>rw [hn] at h; cases h
   | some s' =>
    rw [hn] at h
    dsimp only at h ⊢
    cases hb:kp.flat.any (Nat.beq 999999999) with
    | true=>rw [hb] at h; exact zpX h
    | false=>rw [hb] at h; exact h
variable {pi:(g:FuncId)->List AV->Option (B.C.sig g).den} {f:FuncId}
theorem zfM (hreg:zsY P B pi f n) (k:Nat):∀ (c:Code) (s:St) (K:Ex->St->Option R) (r:R) (ρ:Nat->Option RI) (a:Act) (w:World),
    zjU B.C pi f n k c s K=some r->StR B n s ρ a w->c.wp P (Post B n K r) a w:=by
 intro c
 induction c with
 | skip=>intro s K r ρ a w h H; exact wp_skip ⟨.normal,s,ρ,rfl,H,h⟩
 | label l=>intro s K r ρ a w h H; exact wp_label ⟨.normal,s,ρ,rfl,H,h⟩
 | exit id=>intro s K r ρ a w h H; exact wp_exit ⟨.exit id,s,ρ,rfl,H,h⟩
 | ret=>intro s K r ρ a w h H; exact wp_ret ⟨.ret,s,ρ,rfl,H,h⟩
 | region id ops draw =>
  intro s K r ρ a w h H
  refine wp_mono (hreg id ops draw s (K .normal) r ρ a w h H) ?_
  rintro e a' w' ⟨rfl,s',ρ',H',hK⟩
  exact ⟨.normal,s',ρ',rfl,H',hK⟩
 | seq x y ihx ihy =>
  intro s K r ρ a w h H
  replace h:zjU B.C pi f n k x s (fun e s'=>match e with | .normal=>zrD B.C f k (zdX y) s' (fun s''=>zjU B.C pi f n k y s'' K) | e=>K e s')=some r:=h
  refine wp_seq (wp_mono (ihx s _ r ρ a w h H) ?_)
  rintro e a' w' ⟨ex,s',ρ',he,H',hK⟩
  cases ex with
  | normal =>
   have he':e = .normal:=he
   subst he'
   dsimp only at hK
   obtain ⟨s2,ρ2,H2,hK2⟩:=zeT (zrJ hK) H'
   exact ihy s2 K r ρ2 a' w' hK2 H2
  | exit i =>
   have he':e = .exit i:=he
   subst he'
   exact ⟨.exit i,s',ρ',rfl,H',hK⟩
  | ret =>
   have he':e = .ret:=he
   subst he'
   exact ⟨.ret,s',ρ',rfl,H',hK⟩
 | cond c x y ihx ihy =>
  intro s K r ρ a w h H
  replace h:(match opnd s.env c with | some (.sv (.one (.bool t)))=>br t (zjU B.C pi f n k x (setC c true s) K) (zjU B.C pi f n k y (setC c false s) K) | _=>none)=some r:=h
  split at h
  · rename_i t ht
    have hc:a.eval c = .bool t:=by
     have:=zkh H.env ht
     have h':CR (B.sit (zaa s.mu) ρ w) (.bool t) (a.eval c):=this
     simpa only [CR] using h'
    refine wp_cond (t:=t) hc ?_
    have hset:∀ b,b=t->StR B n (setC c b s) ρ a w:=by
     intro b hb
     subst hb
     unfold setC
     split
     · exact ⟨H.inv,H.env.set (show CR (B.sit (zaa s.mu) ρ w) (.bool b) _ from by simp only [CR]; exact hc),H.pin⟩
     · exact H
    cases t with
    | true=>exact ihx _ K r ρ a w h (hset true rfl)
    | false=>exact ihy _ K r ρ a w h (hset false rfl)
  · cases h
 | block id c ih =>
  intro s K r ρ a w h H
  replace h:zjU B.C pi f n k c s (fun e s'=>match e with | .exit i=>bif Nat.beq i id then K .normal s' else K (.exit i) s' | e=>K e s')=some r:=h
  refine wp_block (wp_mono (ih s _ r ρ a w h H) ?_)
  rintro e a' w' ⟨ex,s',ρ',he,H',hK⟩
  cases ex with
  | normal =>
   have he':e = .normal:=he
   subst he'
   exact ⟨.normal,s',ρ',rfl,H',hK⟩
  | exit i =>
   have he':e = .exit i:=he
   subst he'
   dsimp only at hK
   cases hb:Nat.beq i id with
   | true =>
    rw [hb] at hK
    have:=Nat.eq_of_beq_eq_true hb
    simp only [Exit.inBlock,if_pos this]
    exact ⟨.normal,s',ρ',rfl,H',hK⟩
   | false =>
    rw [hb] at hK
    have:i ≠ id:=fun e=>by rw [e,zcZ] at hb; cases hb
    simp only [Exit.inBlock,if_neg this]
    exact ⟨.exit i,s',ρ',rfl,H',hK⟩
  | ret =>
   have he':e = .ret:=he
   subst he'
   exact ⟨.ret,s',ρ',rfl,H',hK⟩
 | loop c ih =>
  intro s K r ρ a w h H
  replace h:zhq B.C f (za1 c) s (fun s'=>zlC B.C f (za1 c) (fun s K=>zjU B.C pi f n k c s K) k s' K)=some r:=h
  obtain ⟨s2,ρ2,H2,h2⟩:=zeT h H
  exact wp_loop_rounds k (zki (fun s K r ρ a w=>ih s K r ρ a w) K r k s2 ρ2 a w h2 H2)
 | scope c ih =>
  intro s K r ρ a w h H
  replace h:zjU B.C pi f n k c s K=some r:=h
  refine wp_scope_straight (wp_mono (ih s K r ρ a w h H) ?_)
  rintro e a' w' ⟨ex,s',ρ',he,H',hK⟩
  cases ex with
  | normal =>
   have he':e = .normal:=he
   subst he'
   exact ⟨.normal,s',ρ',rfl,H',hK⟩
  | exit i =>
   have he':e = .exit i:=he
   subst he'
   exact ⟨.exit i,s',ρ',rfl,H',hK⟩
  | ret =>
   have he':e = .ret:=he
   subst he'
   exact ⟨.ret,s',ρ',rfl,H',hK⟩
 | rangeFunc=>intro s K r ρ a w h H; exact absurd (show (none:Option R)=some r from h) nofun
 | goto=>intro s K r ρ a w h H; exact absurd (show (none:Option R)=some r from h) nofun
 | refuse=>intro s K r ρ a w h H; exact absurd (show (none:Option R)=some r from h) nofun
end
end Go.Proofs.YtdhkgmhdengnkaaGreatDoorPi
namespace Go.Proofs.YtdhkgmhdengnkaaGreatDoorPi
set_option linter.unusedVariables false
set_option linter.unusedSimpArgs false
open Go
section
variable {mu mu':Look}
def Agree (mu mu':Look) (ids:List Nat):Prop:=∀ id∈ids,mu' id=mu id
theorem Agree.left {a b:List Nat} (h:Agree mu mu' (a++b)):Agree mu mu' a:=fun id hid=>h id (List.mem_append_left _ hid)
theorem Agree.right {a b:List Nat} (h:Agree mu mu' (a++b)):Agree mu mu' b:=fun id hid=>h id (List.mem_append_right _ hid)
theorem Agree.of {α:Type} {f:α->List Nat} {l:List α} (h:Agree mu mu' (l.flatMap f)) {x:α} (hx:x∈l):Agree mu mu' (f x) :=
 fun id hid=>h id (List.mem_flatMap.2 ⟨x,hx,hid⟩)
theorem Agree.cons {a:Nat} {l:List Nat} (h:Agree mu mu' (a::l)):mu' a=mu a/\Agree mu mu' l :=
 ⟨h a (by simp),fun id hid=>h id (by simp [hid])⟩
theorem zaS {α:Type} {f g:α->List Nat}:∀ {l:List α},(∀ x∈l,f x=g x)->l.flatMap f=l.flatMap g
 | [],_=>rfl
 | x::l,h=>by simp only [List.flatMap_cons]; rw [h x (by simp),zaS fun y hy=>h y (by simp [hy])]
theorem zbt:∀ (n m:Nat),n<=m->∀ c,Agree mu mu' (zaA mu m c)->zbr mu' n c=zbr mu n c /\ ∀ id∈zbr mu n c,id∈zaA mu m c
 | 0,m,_,c,_=>by simp [zbr]
 | n+1,0,h,_,_=>by omega
 | n+1,m+1,h,c,ha=>by
  cases c <;> simp only [zbr,zaA] at ha ⊢ <;> try (simp; done)
  case ptr id off =>
   obtain ⟨h0,h1⟩:=ha.cons
   rw [h0]
   split
   · rename_i e cs hm
     simp only [hm] at h1
     refine ⟨zaS fun x hx=>(zbt n m (by omega) x (h1.of hx)).1,fun id hid=>?_⟩
     obtain ⟨x,hx,hid⟩:=List.mem_flatMap.1 hid
     exact List.mem_cons_of_mem _ (List.mem_flatMap.2 ⟨x,hx,(zbt n m (by omega) x (h1.of hx)).2 id hid⟩)
   · simp
  case fn f caps =>
   refine ⟨zaS fun x hx=>(zbt n m (by omega) x (ha.of hx)).1,fun id hid=>?_⟩
   obtain ⟨x,hx,hid⟩:=List.mem_flatMap.1 hid
   exact List.mem_flatMap.2 ⟨x,hx,(zbt n m (by omega) x (ha.of hx)).2 id hid⟩
theorem zdh:∀ (n:Nat) (c:Cel),Agree mu mu' (zaA mu n c)->zaA mu' n c=zaA mu n c
 | 0,c,_=>by cases c <;> simp [zaA]
 | n+1,c,ha=>by
  cases c <;> simp only [zaA] at ha ⊢
  case ptr id off =>
   obtain ⟨h0,h1⟩:=ha.cons
   rw [h0]
   split
   · rename_i e cs hm
     simp only [hm] at h1
     rw [zaS fun x hx=>zdh n x (h1.of hx)]
   · rfl
  case fn f caps=>exact zaS fun x hx=>zdh n x (ha.of hx)
theorem zfe {m:Nat} {c:Cel} (h:Agree mu mu' (zaA mu (m+1) c)):snap mu' c=snap mu c:=by
 cases c <;> simp only [snap,zaA] at h ⊢
 all_goals rw [h.cons.1]
theorem zc2 {g g':Cel->Option Cel}:∀ {cs:List Cel},(∀ c∈cs,g c=g' c)->zbN g cs=zbN g' cs
 | [],_=>rfl
 | c::cs,h=>by simp only [zbN]; rw [h c (by simp),zc2 fun x hx=>h x (by simp [hx])]
theorem zfN {m:Nat}:∀ {cs:List Cel},Agree mu mu' (cs.flatMap (zaA mu (m+1)))->zkH mu' cs=zkH mu cs
 | [],_=>rfl
 | c::cs,h=>by
  simp only [zkH]
  rw [List.flatMap_cons] at h
  rw [zfe h.left,zfN h.right]
theorem zdi:∀ (n m:Nat),n<=m->∀ c,Agree mu mu' (zaA mu m c)->zbV mu' n c=zbV mu n c
 | 0,m,_,c,_=>by simp [zbV]
 | n+1,0,h,_,_=>by omega
 | n+1,m+1,h,c,ha=>by
  cases c
  case ptr id off =>
   simp only [zbV,zaA] at ha ⊢
   obtain ⟨h0,h1⟩:=ha.cons
   rw [h0]
   split
   · rename_i e cs hm
     simp only [hm] at h1
     rw [zc2 fun x hx=>zdi n m (by omega) x (h1.of hx)]
   · rfl
  case iptr id j off =>
   simp only [zbV,zaA] at ha ⊢
   rw [ha.cons.1]
  case fn f caps =>
   simp only [zbV,zaA] at ha ⊢
   rw [zc2 fun x hx=>zdi n m (by omega) x (ha.of hx)]
  case rptr=>rfl
  case nilp=>rfl
  all_goals (simp only [zbV]; exact zfe ha)
theorem zdx:∀ {ids:List Nat},Agree mu mu' ids->freeze mu' ids=freeze mu ids
 | [],_=>rfl
 | a::ids,h=>by
  simp only [freeze]
  rw [h.cons.1,zdx h.cons.2]
theorem zff {cs:List Cel} (h:Agree mu mu' (cs.flatMap (zaA mu 8))):cs.flatMap (zbr mu' 6)=cs.flatMap (zbr mu 6)/\Agree mu mu' (cs.flatMap (zbr mu 6)):=by
 refine ⟨zaS fun x hx=>(zbt 6 8 (by omega) x (h.of hx)).1,fun id hid=>?_⟩
 obtain ⟨x,hx,hid⟩:=List.mem_flatMap.1 hid
 exact h.of hx id ((zbt 6 8 (by omega) x (h.of hx)).2 id hid)
theorem zmY {m:Nat} {c:Cel} (h:Agree mu mu' (zaA mu (m+1) c)):zlw mu' c=zlw mu c:=by
 cases c <;> simp only [zlw,zaA] at h ⊢
 all_goals rw [h.cons.1]
theorem ziM {m:Nat} {c:Cel} (h:Agree mu mu' (zaA mu (m+1) c)):lenOf mu' c=lenOf mu c:=by
 cases c <;> simp only [lenOf,zaA] at h ⊢
 all_goals rw [h.cons.1]
theorem zgs {m:Nat} {c:Cel} (h:Agree mu mu' (zaA mu (m+1) c)):zbT mu' c=zbT mu c:=by
 cases c <;> simp only [zbT,zaA] at h ⊢
 all_goals rw [h.cons.1]
theorem zgt {C:Ctx} {t:Option TI} {m:Nat} {c:Cel} (h:Agree mu mu' (zaA mu (m+1) c)):zcq C mu' t c=zcq C mu t c:=by
 unfold zcq
 have e:=zgs h
 cases t <;> cases c <;> first | rfl | (dsimp only; rw [e])
theorem zhu {t:Ty} {m:Nat} {c:Cel} (h:Agree mu mu' (zaA mu (m+1) c)):zgf mu' t c=zgf mu t c:=by
 unfold zgf
 rw [zfe h]
theorem zlT {ti:TI} {m:Nat} {c:Cel} (h:Agree mu mu' (zaA mu (m+1) c)):zir mu' ti c=zir mu ti c:=by
 cases c <;> simp only [zir,zaA] at h ⊢
 all_goals rw [h.cons.1]
theorem zjX {R:Type} {m:Nat} {c:Cel} {lo hi:Option Int} {K:Cel->Option R} (h:Agree mu mu' (zaA mu (m+1) c)):zbF mu' c lo hi K=zbF mu c lo hi K:=by
 unfold zbF
 rw [ziM h]
theorem zkR {ti:TI} {p:Cel} {v:SV} (hp:Agree mu mu' (zaA mu 8 p)) (hv:Agree mu mu' (v.cells.flatMap (zaA mu 8))):zeh mu' ti p v=zeh mu ti p v:=by
 unfold zeh
 rw [(zff hv).1,zdx (zff hv).2,zfN (m:=7) hv]
 cases p <;> simp only [zaA] at hp <;> first | rfl | (dsimp only; rw [hp.cons.1])
theorem zfy {te:Ty}:∀ {l:List (Nat×AV)} {j:Nat},(∀ x∈l,Agree mu mu' (zbm mu x.2))->zb4 mu' te j l=zb4 mu te j l
 | [],j,_=>rfl
 | x::l,j,h=>by
  obtain ⟨i,v⟩:=x
  have hv:=h (i,v) (by simp)
  have ht:=zfy (te:=te) (l:=l) (j:=j+1) fun y hy=>h y (by simp [hy])
  cases v with
  | sv v =>
   simp only [zb4]
   rw [zfN (m:=7) (show Agree mu mu' (v.cells.flatMap (zaA mu 8)) from hv),ht]
  | tup vs=>rfl
  | junk=>rfl
theorem ziN {v:AV} (h:Agree mu mu' (zbm mu v)):zjS mu' v=zjS mu v/\Agree mu mu' (zjS mu v):=by
 cases v with
 | sv v=>exact zff h
 | tup vs =>
  refine ⟨zaS fun x hx=>(zff (h.of hx)).1,fun id hid=>?_⟩
  obtain ⟨x,hx,hid⟩:=List.mem_flatMap.1 hid
  exact (zff (h.of hx)).2 id hid
 | junk=>exact ⟨rfl,fun id hid=>by simp [zjS] at hid⟩
theorem zlU {vs:List AV} (h:Agree mu mu' (vs.flatMap (zbm mu))):vs.flatMap (zjS mu')=vs.flatMap (zjS mu)/\Agree mu mu' (vs.flatMap (zjS mu)):=by
 refine ⟨zaS fun x hx=>(ziN (h.of hx)).1,fun id hid=>?_⟩
 obtain ⟨x,hx,hid⟩:=List.mem_flatMap.1 hid
 exact (ziN (h.of hx)).2 id hid
theorem zen:∀ {rcs:List RC} {cs:List Cel},Agree mu mu' (cs.flatMap (zaA mu 7))->zbf mu' rcs cs=zbf mu rcs cs /\ ∀ l fz gv,zbf mu rcs cs=some (l,fz,gv)->∀ id,id∈fz \/ id∈gv->id∈cs.flatMap (zaA mu 7)
 | [],[],_=>⟨rfl,fun l fz gv e id hid=>by simp only [zbf] at e; cases e; simp at hid⟩
 | [],_::_,_=>by simp [zbf]
 | .dat t::r,[],_=>by simp [zbf]
 | .row e t::r,[],_=>by simp [zbf]
 | .dat t::r,c::cs,h=>by
  rw [List.flatMap_cons] at h
  have hi:=zbt 6 7 (by omega) c h.left
  obtain ⟨i1,i2⟩:=zen (rcs:=r) (cs:=cs) h.right
  refine ⟨?_,?_⟩
  · simp only [zbf]
    rw [zfe h.left,i1,hi.1]
  · intro l fz gv e id hid
    simp only [zbf] at e
    split at e
    · split at e
      · split at e
        · rename_i e'
          cases e
          rw [List.flatMap_cons,List.mem_append]
          rcases hid with hid | hid
          · rcases List.mem_append.1 hid with hid | hid
            · exact .inl (hi.2 id hid)
            · exact .inr (i2 _ _ _ e' id (.inl hid))
          · exact .inr (i2 _ _ _ e' id (.inr hid))
        · cases e
      · cases e
    · cases e
 | .row e t::r,c::cs,h=>by
  rw [List.flatMap_cons] at h
  obtain ⟨i1,i2⟩:=zen (rcs:=r) (cs:=cs) h.right
  cases c <;> simp only [zbf] <;> try (simp; done)
  case nilsl =>
   refine ⟨by rw [i1],?_⟩
   intro l fz gv e id hid
   split at e
   · rename_i e'
     cases e
     rw [List.flatMap_cons,List.mem_append]
     exact .inr (i2 _ _ _ e' id hid)
   · cases e
  case full id0 =>
   have h0:=h.left
   simp only [zaA] at h0
   refine ⟨by rw [h0.cons.1,i1],?_⟩
   intro l fz gv e id hid
   split at e
   · split at e
     · obtain ⟨_,e⟩:=zaj e
       split at e
       · rename_i e'
         cases e
         rw [List.flatMap_cons,List.mem_append]
         rcases hid with hid | hid
         · exact .inr (i2 _ _ _ e' id (.inl hid))
         · rcases List.mem_cons.1 hid with rfl | hid
           · left; simp [zaA]
           · exact .inr (i2 _ _ _ e' id (.inr hid))
       · cases e
     · cases e
   · cases e
theorem zeU:∀ {r:List (Option (TypeId×Ty))} {cs:List Cel},Agree mu mu' (cs.flatMap (zaA mu 8))->zcn mu' r cs=zcn mu r cs /\ ∀ id∈zcn mu r cs,id∈cs.flatMap (zaA mu 8)
 | [],cs,_=>by cases cs <;> exact ⟨rfl,fun id hid=>by simp [zcn] at hid⟩
 | none::r,[],_=>⟨rfl,fun id hid=>by simp [zcn] at hid⟩
 | some x::r,[],_=>⟨rfl,fun id hid=>by simp [zcn] at hid⟩
 | none::r,c::cs,h=>by
  rw [List.flatMap_cons] at h
  obtain ⟨i1,i2⟩:=zeU (r:=r) h.right
  have hi:=zbt 6 8 (by omega) c h.left
  refine ⟨by simp only [zcn]; rw [hi.1,i1],fun id hid=>?_⟩
  simp only [zcn] at hid
  rw [List.flatMap_cons,List.mem_append]
  rcases List.mem_append.1 hid with hid | hid
  · exact .inl (hi.2 id hid)
  · exact .inr (i2 id hid)
 | some x::r,c::cs,h=>by
  rw [List.flatMap_cons] at h
  simp only [zcn]
  obtain ⟨i1,i2⟩:=zeU (r:=r) h.right
  exact ⟨i1,fun id hid=>by rw [List.flatMap_cons,List.mem_append]; exact .inr (i2 id hid)⟩
theorem zdF:∀ {r:List (Option (TypeId×Ty))} {cs:List Cel},Agree mu mu' (cs.flatMap (zaA mu 8))->zcx mu' r cs=zcx mu r cs
 | [],cs,_=>by cases cs <;> rfl
 | none::r,[],_=>rfl
 | some x::r,[],_=>rfl
 | none::r,c::cs,h=>by
  rw [List.flatMap_cons] at h
  simp only [zcx]
  rw [zdh 8 c h.left,zdF h.right]
 | some x::r,c::cs,h=>by
  rw [List.flatMap_cons] at h
  simp only [zcx]
  exact zdF h.right
theorem zeo:∀ {r:List (Option (TypeId×Ty))} {cs:List Cel},Agree mu mu' (cs.flatMap (zaA mu 8))->zbI mu' r cs=zbI mu r cs
 | [],[],_=>rfl
 | [],_::_,_=>rfl
 | none::r,[],_=>rfl
 | some x::r,[],_=>rfl
 | none::r,c::cs,h=>by
  rw [List.flatMap_cons] at h
  simp only [zbI]
  rw [zdi 6 8 (by omega) c h.left,zeo h.right]
 | some x::r,c::cs,h=>by
  rw [List.flatMap_cons] at h
  have ih:=zeo (r:=r) h.right
  obtain ⟨e,t⟩:=x
  cases c <;> simp only [zbI] <;> try rw [ih]
  case full id =>
   have h0:=h.left
   simp only [zaA] at h0
   rw [h0.cons.1]
theorem zdG:∀ {r:List (Option (TypeId×Ty))} {cs:List Cel} {out:List SV},Agree mu mu' (cs.flatMap (zaA mu 8))->zaY mu' r cs out=zaY mu r cs out
 | [],cs,out,_=>by cases cs <;> cases out <;> rfl
 | none::r,[],out,_=>by cases out <;> rfl
 | some x::r,[],out,_=>by cases out <;> rfl
 | none::r,c::cs,out,h=>by
  rw [List.flatMap_cons] at h
  simp only [zaY]
  exact zdG h.right
 | some x::r,c::cs,out,h=>by
  rw [List.flatMap_cons] at h
  have ih:=fun out=>zdG (r:=r) (out:=out) h.right
  cases c
  case full id =>
   have h0:=h.left
   simp only [zaA] at h0
   cases out with
   | nil=>rfl
   | cons o out =>
    cases o with
    | agg l=>rfl
    | one c'=>cases c' <;> first | rfl | (simp only [zaY,ih,h0.cons.1])
  case nilsl =>
   cases out with
   | nil=>rfl
   | cons o out=>simp only [zaY]; exact ih _
  all_goals (cases out <;> rfl)
theorem zcB {C:Ctx}:∀ {ps:List Par} {tys:List TypeId} {vs:List AV},Agree mu mu' (vs.flatMap (zbm mu)) ->
    zal C mu' ps tys vs=zal C mu ps tys vs /\ ∀ l fz gv ids,zal C mu ps tys vs=some (l,fz,gv,ids)->∀ id,id∈fz \/ id∈gv \/ id∈ids->id∈vs.flatMap (zbm mu)
 | [],tys,[],_=>⟨by cases tys <;> rfl,fun l fz gv ids e id hid=>by cases tys <;> (simp only [zal] at e; cases e; simp at hid)⟩
 | [],tys,_::_,_=>⟨by cases tys <;> rfl,fun l fz gv ids e=>by cases tys <;> (simp only [zal] at e; cases e)⟩
 | .val::ps,tys,[],_=>⟨by cases tys <;> rfl,fun l fz gv ids e=>by cases tys <;> (simp only [zal] at e; cases e)⟩
 | .box _ _::ps,tys,[],_=>⟨by cases tys <;> rfl,fun l fz gv ids e=>by cases tys <;> (simp only [zal] at e; cases e)⟩
 | .mix _ _::ps,tys,[],_=>⟨by cases tys <;> rfl,fun l fz gv ids e=>by cases tys <;> (simp only [zal] at e; cases e)⟩
 | .val::ps,tys,v::vs,h=>by
  rw [List.flatMap_cons] at h
  obtain ⟨i1,i2⟩:=zcB (C:=C) (ps:=ps) (tys:=tys.tail) (vs:=vs) h.right
  cases v with
  | tup l=>exact ⟨by cases tys <;> rfl,fun l fz gv ids e=>by cases tys <;> (simp only [zal] at e; cases e)⟩
  | junk=>exact ⟨by cases tys <;> rfl,fun l fz gv ids e=>by cases tys <;> (simp only [zal] at e; cases e)⟩
  | sv v =>
   have hv:Agree mu mu' (v.cells.flatMap (zaA mu 8)):=h.left
   have hf:=zff hv
   refine ⟨?_,fun l fz gv ids e id hid=>?_⟩
   · simp only [zal]
     rw [i1,hf.1]
     cases v with
     | one c =>
      have hc:Agree mu mu' (zaA mu 8 c):=hv.of (by simp [SV.cells])
      dsimp only
      rw [zdi 6 8 (by omega) c hc]
     | agg cs =>
      have e:=zc2 (g:=zbV mu' 6) (g':=zbV mu 6) (cs:=cs) fun x hx=>zdi 6 8 (by omega) x (hv.of (show x∈(SV.agg cs).cells from hx))
      dsimp only
      rw [e]
   · simp only [zal] at e
     split at e
     · cases e
     · split at e
       · rename_i e'
         cases e
         rw [List.flatMap_cons,List.mem_append]
         rcases hid with hid | hid | hid
         · exact .inr (i2 _ _ _ _ e' id (.inl hid))
         · exact .inr (i2 _ _ _ _ e' id (.inr (.inl hid)))
         · rcases List.mem_append.1 hid with hid | hid
           · left
             obtain ⟨x,hx,hid⟩:=List.mem_flatMap.1 hid
             exact List.mem_flatMap.2 ⟨x,hx,(zbt 6 8 (by omega) x (hv.of hx)).2 id hid⟩
           · exact .inr (i2 _ _ _ _ e' id (.inr (.inr hid)))
       · cases e
 | .box e0 rcs::ps,tys,v::vs,h=>by
  rw [List.flatMap_cons] at h
  cases tys with
  | nil=>exact ⟨rfl,fun l fz gv ids e=>by simp only [zal] at e; cases e⟩
  | cons ty tys =>
  obtain ⟨i1,i2⟩:=zcB (C:=C) (ps:=ps) (tys:=tys) (vs:=vs) h.right
  cases v with
  | tup l=>exact ⟨rfl,fun l fz gv ids e=>by simp only [zal] at e; cases e⟩
  | junk=>exact ⟨rfl,fun l fz gv ids e=>by simp only [zal] at e; cases e⟩
  | sv v =>
  cases v with
  | agg cs=>exact ⟨rfl,fun l fz gv ids e=>by simp only [zal] at e; cases e⟩
  | one c =>
  cases c
  case ptr b off =>
   cases off with
   | succ off=>exact ⟨rfl,fun l fz gv ids e=>by simp only [zal] at e; cases e⟩
   | zero =>
    have hb:Agree mu mu' (zaA mu 8 (.ptr b 0)):=h.left.of (by simp [SV.cells])
    have hsub:∀ id,id∈zaA mu 8 (.ptr b 0)->id∈(AV.sv (.one (.ptr b 0))::vs).flatMap (zbm mu):=by
     intro id hid
     rw [List.flatMap_cons,List.mem_append]
     exact .inl (List.mem_flatMap.2 ⟨_,by simp [SV.cells],hid⟩)
    simp only [zaA] at hb hsub
    obtain ⟨b1,b2⟩:=hb.cons
    simp only [zal]
    rw [b1]
    split
    · rename_i e' cs hbx
      simp only [hbx] at b2 hsub
      obtain ⟨g1,g2⟩:=zen (rcs:=rcs) (cs:=cs) b2
      rw [g1,i1]
      refine ⟨rfl,fun l fz gv ids e id hid=>?_⟩
      obtain ⟨_,e⟩:=zaj e
      split at e
      · rename_i e1
        split at e
        · rename_i e2
          cases e
          have key:id∈cs.flatMap (zaA mu 7) \/ id∈vs.flatMap (zbm mu):=by
           rcases hid with hid | hid | hid
           · rcases List.mem_append.1 hid with hid | hid
             · exact .inl (g2 _ _ _ e1 id (.inl hid))
             · exact .inr (i2 _ _ _ _ e2 id (.inl hid))
           · rcases List.mem_append.1 hid with hid | hid
             · exact .inl (g2 _ _ _ e1 id (.inr hid))
             · exact .inr (i2 _ _ _ _ e2 id (.inr (.inl hid)))
           · exact .inr (i2 _ _ _ _ e2 id (.inr (.inr hid)))
          rcases key with key | key
          · exact hsub id (List.mem_cons_of_mem _ key)
          · rw [List.flatMap_cons,List.mem_append]
            exact .inr key
        · cases e
      · cases e
    · exact ⟨rfl,fun l fz gv ids e=>by cases e⟩
  all_goals exact ⟨rfl,fun l fz gv ids e=>by simp only [zal] at e; cases e⟩
 | .mix agg pcs::ps,tys,v::vs,h=>by
  rw [List.flatMap_cons] at h
  cases tys with
  | nil=>exact ⟨rfl,fun l fz gv ids e=>by simp only [zal] at e; cases e⟩
  | cons ty tys =>
  obtain ⟨i1,i2⟩:=zcB (C:=C) (ps:=ps) (tys:=tys) (vs:=vs) h.right
  cases v with
  | tup l=>exact ⟨rfl,fun l fz gv ids e=>by simp only [zal] at e; cases e⟩
  | junk=>exact ⟨rfl,fun l fz gv ids e=>by simp only [zal] at e; cases e⟩
  | sv v =>
   have hv:Agree mu mu' (v.cells.flatMap (zaA mu 8)):=h.left
   have hm:=zeU (r:=pcs) hv
   refine ⟨?_,fun l fz gv ids e id hid=>?_⟩
   · simp only [zal]
     rw [i1,zeo hv,hm.1]
   · simp only [zal] at e
     split at e
     · split at e
       · rename_i e'
         have key:id∈zcn mu pcs v.cells \/ id∈vs.flatMap (zbm mu):=by
          split at e
          · cases e
            rcases hid with hid | hid | hid
            · exact .inr (i2 _ _ _ _ e' id (.inl hid))
            · exact .inr (i2 _ _ _ _ e' id (.inr (.inl hid)))
            · rcases List.mem_append.1 hid with hid | hid
              · exact .inl hid
              · exact .inr (i2 _ _ _ _ e' id (.inr (.inr hid)))
          · cases e
            rcases hid with hid | hid | hid
            · exact .inr (i2 _ _ _ _ e' id (.inl hid))
            · exact .inr (i2 _ _ _ _ e' id (.inr (.inl hid)))
            · rcases List.mem_append.1 hid with hid | hid
              · exact .inl hid
              · exact .inr (i2 _ _ _ _ e' id (.inr (.inr hid)))
          · cases e
         rw [List.flatMap_cons,List.mem_append]
         rcases key with key | key
         · exact .inl (hm.2 id key)
         · exact .inr key
       · cases e
     · cases e
theorem zc3:∀ {ps:List Par} {vs:List AV},Agree mu mu' (vs.flatMap (zbm mu))->zbE mu' ps vs=zbE mu ps vs
 | [],vs,_=>by cases vs <;> rfl
 | .val::ps,[],_=>rfl
 | .box _ _::ps,[],_=>rfl
 | .mix _ _::ps,[],_=>rfl
 | .val::ps,v::vs,h=>by
  rw [List.flatMap_cons] at h
  simp only [zbE]
  rw [zc3 h.right]
  have:zbm mu' v=zbm mu v:=by
   cases v with
   | sv v=>exact zaS fun x hx=>zdh 8 x (Agree.of (show Agree mu mu' (v.cells.flatMap (zaA mu 8)) from h.left) hx)
   | tup l =>
    refine zaS fun x hx=>zaS fun y hy=>zdh 8 y ?_
    exact Agree.of (Agree.of (f:=fun v:SV=>v.cells.flatMap (zaA mu 8)) (show Agree mu mu' (l.flatMap fun v=>v.cells.flatMap (zaA mu 8)) from h.left) hx) hy
   | junk=>rfl
  rw [this]
 | .box _ _::ps,v::vs,h=>by
  rw [List.flatMap_cons] at h
  simp only [zbE]
  exact zc3 h.right
 | .mix _ pcs::ps,v::vs,h=>by
  rw [List.flatMap_cons] at h
  have ih:=zc3 (ps:=ps) h.right
  cases v with
  | sv v =>
   simp only [zbE]
   rw [ih,zdF (show Agree mu mu' (v.cells.flatMap (zaA mu 8)) from h.left)]
  | tup l=>simp only [zbE]; exact ih
  | junk=>simp only [zbE]; exact ih
theorem zcC:∀ {ps:List Par} {vs:List AV} {out:List SV},Agree mu mu' (vs.flatMap (zbm mu))->za8 mu' ps vs out=za8 mu ps vs out
 | [],vs,out,_=>by cases vs <;> cases out <;> rfl
 | .val::ps,[],out,_=>by cases out <;> rfl
 | .box _ _::ps,[],out,_=>by cases out <;> rfl
 | .mix _ _::ps,[],out,_=>by cases out <;> rfl
 | .val::ps,v::vs,out,h=>by
  rw [List.flatMap_cons] at h
  simp only [za8]
  exact zcC h.right
 | .box _ _::ps,v::vs,out,h=>by
  rw [List.flatMap_cons] at h
  have ih:=fun out=>zcC (ps:=ps) (out:=out) h.right
  unfold za8
  split <;> first | rfl | (split <;> simp_all) | simp_all
 | .mix _ pcs::ps,v::vs,out,h=>by
  rw [List.flatMap_cons] at h
  have ih:=fun out=>zcC (ps:=ps) (out:=out) h.right
  cases v with
  | sv v =>
   simp only [za8]
   rw [zdG (show Agree mu mu' (v.cells.flatMap (zaA mu 8)) from h.left),ih]
  | tup l=>cases out <;> rfl
  | junk=>cases out <;> rfl
end
end Go.Proofs.YtdhkgmhdengnkaaGreatDoorPi
namespace Go.Proofs.YtdhkgmhdengnkaaGreatDoorPi
set_option linter.unusedVariables false
set_option linter.unusedSimpArgs false
open Go
section
variable {mu mu':Look}
theorem Agree.one {c:Cel} {vs:List AV} (h:Agree mu mu' ((AV.sv (.one c)::vs).flatMap (zbm mu))):Agree mu mu' (zaA mu 8 c)/\Agree mu mu' (vs.flatMap (zbm mu)):=by
 rw [List.flatMap_cons] at h
 have h1:Agree mu mu' ((SV.one c).cells.flatMap (zaA mu 8)):=h.left
 exact ⟨h1.of (by simp [SV.cells]),h.right⟩
theorem Agree.sv {v:SV} {vs:List AV} (h:Agree mu mu' ((AV.sv v::vs).flatMap (zbm mu))):Agree mu mu' (v.cells.flatMap (zaA mu 8))/\Agree mu mu' (vs.flatMap (zbm mu)):=by
 rw [List.flatMap_cons] at h
 exact ⟨h.left,h.right⟩
theorem ziO {C:Ctx} {f site:Nat} {g:FuncId} {args:List AV} {ed:List (Nat×Option Cont)} (h:Agree mu mu' (args.flatMap (zbm mu))) :
    zeM C f site g mu' args ed=zeM C f site g mu args ed:=by
 funext x
 unfold zeM
 rw [zcC h]
theorem zpY {C:Ctx} {f site:Nat} {o:Oper} {vs:List AV} (h:looks o.op=true->Agree mu mu' (zpJ mu vs)):evD C f site o vs mu'=evD C f site o vs mu:=by
 unfold evD zdb
 generalize hop:o.op=op at h
 split
 all_goals try rfl
 all_goals try (have ht:=(h rfl).right; replace h:=(h rfl).left)
 · -- buildSlice
   rename_i t len parts
   have hi:=zlU h
   have hl:∀ te,zb4 mu' te 0 ((parts.toList.map Prod.fst).zip vs)=zb4 mu te 0 ((parts.toList.map Prod.fst).zip vs) :=
    fun te=>zfy fun x hx=>h.of (List.of_mem_zip hx).2
   simp only [hl,hi.1,zdx hi.2]
 · -- load
   simp only [zmY (m:=7) h.one.1]
 · -- store
   have h1:=h.one
   have h2:=h1.2.sv
   simp only [zkR h1.1 h2.1]
 · -- convert
   rename_i x
   have e:=zhu (t:=.int .u8) (m:=7) h.one.1
   clear h ht hop
   rename_i src dst _
   generalize C.T src=a
   generalize C.T dst=b
   cases a with
   | none=>rfl
   | some tis =>
   cases b with
   | none=>rfl
   | some ti =>
   dsimp only
   generalize ti.ty=tt
   cases tt with
   | none=>rfl
   | some ty=>cases ty <;> first | rfl | (cases x <;> first | rfl | (dsimp only; rw [e]))
 · -- slice
   have h1:=h.one
   simp only [zgt (m:=7) h1.1,zjX (m:=7) h1.1]
 · -- indexAddr
   rename_i c _ _
   have h1:=h.one
   rw [show zbT mu' c=zbT mu c from zgs (m:=7) h1.1]
   cases c <;> first | rfl | skip
   have h2:=h1.1
   simp only [zaA] at h2
   simp only [h2.cons.1]
 · -- call
   rename_i c vs
   split
   all_goals try rfl
   · have h1:=h.one
     simp only [ziM (m:=7) h1.1,zgt (m:=7) h1.1]
   · have h1:=h.one
     have h2:=h1.2.one
     simp only [zlT (m:=7) h1.1,zhu (m:=7) h2.1]
   · rename_i caps vs _
     have hA:Agree mu mu' ((vs++caps.map fun c=>AV.sv (SV.one c)).flatMap (zbm mu)):=by
      intro id hid
      rw [List.flatMap_append] at hid
      rcases List.mem_append.1 hid with hid | hid
      · rw [List.flatMap_cons] at h
        exact h.right id hid
      · obtain ⟨x,hx,hid⟩:=List.mem_flatMap.1 hid
        obtain ⟨c,hc,rfl⟩:=List.mem_map.1 hx
        refine ht id ?_
        simp only [zpI]
        refine List.mem_flatMap.2 ⟨c,hc,?_⟩
        obtain ⟨y,hy,hid⟩:=List.mem_flatMap.1 (show id∈(SV.one c).cells.flatMap (zaA mu 8) from hid)
        simp only [SV.cells,List.mem_singleton] at hy
        rw [<- hy]; exact hid
     rename_i g _
     cases hd:C.del g with
     | some q =>
      cases q with
      | grow e=>rfl
      | del e sz =>
       dsimp only
       split
       · have h2:=h.one.2.one.1
         simp only [zaA] at h2
         rw [h2.cons.1]
       · rfl
      | sort e =>
       dsimp only
       split
       · have h2:=h.one.2.one.1
         simp only [zaA] at h2
         rw [h2.cons.1]
       · rfl
      | compact e =>
       dsimp only
       split
       · have h2:=h.one.2.one.1
         simp only [zaA] at h2
         rw [h2.cons.1]
       · rfl
     | none =>
     dsimp only
     generalize vs++caps.map (fun c=>AV.sv (SV.one c))=args at hA
     cases hfn:C.fns g with
     | none=>rfl
     | some fn =>
     dsimp only
     obtain ⟨e1,e2⟩:=zcB (C:=C) (ps:=(C.sig g).pars) (tys:=fn.params.toList) hA
     rw [e1]
     cases hh:zal C mu (C.sig g).pars fn.params.toList args with
     | none=>rfl
     | some q =>
     obtain ⟨l,fz,gv,ids⟩:=q
     dsimp only
     have e3:apart mu' (C.sig g).pars args (fz++ids) gv=apart mu (C.sig g).pars args (fz++ids) gv:=by
      unfold apart
      rw [zc3 hA]
     have e4:freeze mu' (zis (C.sig g) fz ids)=freeze mu (zis (C.sig g) fz ids):=by
      refine zdx fun id hid=>hA id ?_
      unfold zis at hid
      cases hb:(C.sig g).outs.any RV.hasSl with
      | true =>
       rw [hb] at hid
       rcases List.mem_append.1 hid with hid | hid
       · exact e2 _ _ _ _ hh id (.inl hid)
       · exact e2 _ _ _ _ hh id (.inr (.inr hid))
      | false =>
       rw [hb] at hid
       exact e2 _ _ _ _ hh id (.inl hid)
     rw [e3,e4]
     simp only [ziO hA]
theorem zmZ {ti:TI} {id off:Nat} {v:SV} (h:mu' id=mu id):zeh mu' ti (.ptr id off) v=zeh mu ti (.ptr id off) v:=by
 unfold zeh
 dsimp only
 rw [h]
theorem zoO {C:Ctx} {f site:Nat} {o:Oper} {vs:List AV} (h:Agree mu mu' (zcU o.op mu vs)):evD C f site o vs mu'=evD C f site o vs mu:=by
 unfold zcU at h
 split at h
 · rename_i t x id off r hop
   have hid:=(h.cons).1
   unfold evD zdb
   rw [hop]
   cases r with
   | nil=>simp only [zlw,hid]
   | cons _ _=>rfl
 · rename_i t x y id off r hop
   have hid:=(h.cons).1
   unfold evD zdb
   rw [hop]
   match r with
   | []=>rfl
   | [.sv v]=>simp only [zmZ hid]
   | [.tup _]=>rfl
   | [.junk]=>rfl
   | .sv _::_::_=>rfl
   | .tup _::_::_=>rfl
   | .junk::_::_=>rfl
 · refine zpY fun hl=>?_
   rw [hl] at h
   exact h
end
end Go.Proofs.YtdhkgmhdengnkaaGreatDoorPi
namespace Go.Proofs.YtdhkgmhdengnkaaGreatDoorPi
set_option linter.unusedVariables false
set_option linter.unusedSimpArgs false
open Go
structure HandOk (mu:Look) (σ σ':Sit) (snapped reads:List Nat):Prop where
 w:σ'.w=σ.w
 V:∀ g,σ.V g->σ'.V g
 R:∀ g,σ.R g->σ'.V g \/ σ'.R g
 sn:∀ id∈snapped,∀ i g,mu id ≠ none->σ.ρ id=some i->i.g=some g->σ'.V g
 rd:∀ id∈reads,∀ i g,mu id ≠ none->σ.ρ id=some i->i.g=some g->σ'.V g \/ σ'.R g
theorem HandOk.sub {mu:Look} {σ σ':Sit} {a b a' b':List Nat} (h:HandOk mu σ σ' a b) (h1:∀ id∈a',id∈a) (h2:∀ id∈b',id∈b):HandOk mu σ σ' a' b' :=
 ⟨h.w,h.V,h.R,fun id hid=>h.sn id (h1 id hid),fun id hid=>h.rd id (h2 id hid)⟩
theorem HandOk.ren {mu:Look} {σ σ':Sit} {a b:List Nat} (h:HandOk mu σ σ' a b):RenOk σ σ' []:=⟨h.w,h.V,h.R,fun a b i e=>by simp [zaa] at e⟩
theorem zoP {mu:Look} {c c':Cel} (h:snap mu c=some c'):zdV c'=true:=by
 cases c <;> simp only [snap] at h <;> (try split at h) <;> first | (cases h; rfl) | cases h
theorem zoQ {mu:Look} {c c':Cel} (h:snap mu c=some c'):∀ id∈zbr mu 6 c,mu id ≠ none:=by
 intro id hid
 cases c <;> simp only [snap] at h <;> simp only [zbr] at hid <;> first | (simp at hid; done) | cases h | (simp at hid; subst hid; intro e; rw [e] at h; cases h)
section
variable {B:Base} {mu:List (Nat×Cont)} {ρ:Nat->Option RI} {w:World} {σ':Sit}
theorem zlV (H:MuR B.C (B.sit (zaa mu) ρ w) (zaa mu)) {sn rr:List Nat} (h:HandOk (zaa mu) (B.sit (zaa mu) ρ w) σ' sn rr) {c c':Cel} {v:Value}
    (hs:snap (zaa mu) c=some c') (hc:CR (B.sit (zaa mu) ρ w) c v) (hi:∀ id∈zbr (zaa mu) 6 c,id∈sn):CR σ' c' v:=by
 have h1:=zdZ (V':=σ'.V) H h.V c c' v hs hc (fun id hid i g e1 e2=>h.sn id (hi id hid) i g (zoQ hs id hid) e1 e2)
 refine zc1 (σ:=⟨σ'.V,ρ,w,B.R0⟩) (m:=[]) ⟨h.w,fun _ k=>k,h.R,fun a b i e=>by simp [zaa] at e⟩ c' v (zoP hs) h1
theorem zdy {σ σ':Sit} {f:Cel->Option Cel}:∀ {cs l:List Cel} {us:List Value},(∀ c∈cs,∀ c' v,f c=some c'->CR σ c v->CR σ' c' v)->zbN f cs=some l->CRs σ cs us->CRs σ' l us
 | [],l,us,_,h,k=>by simp only [zbN] at h; cases h; simpa [CRs] using k
 | c::cs,l,us,hf,h,k=>by
  simp only [zbN] at h
  split at h
  · rename_i c' hc'
    split at h
    · rename_i l' hl'
      cases h
      simp only [CRs] at k ⊢
      obtain ⟨u,r,e,h1,h2⟩:=k
      exact ⟨u,r,e,hf c (by simp) c' u hc' h1,zdy (fun x hx=>hf x (by simp [hx])) hl' h2⟩
    · cases h
  · cases h
theorem zd4 (H:MuR B.C (B.sit (zaa mu) ρ w) (zaa mu)):∀ (n m:Nat),n<=m->n<=6->∀ {sn rr:List Nat},HandOk (zaa mu) (B.sit (zaa mu) ρ w) σ' sn rr->∀ {c c':Cel} {v:Value},
    zbV (zaa mu) n c=some c'->CR (B.sit (zaa mu) ρ w) c v->(∀ id∈zbr (zaa mu) n c,id∈sn)->(∀ id∈zaA (zaa mu) m c,id∈rr)->CR σ' c' v
 | 0,m,_,_,sn,rr,h,c,c',v,hp,_,_,_=>by simp [zbV] at hp
 | n+1,0,hn,_,sn,rr,h,c,c',v,hp,_,_,_=>by omega
 | n+1,m+1,hn,h6,sn,rr,h,c,c',v,hp,hc,hi,hr=>by
  have viaSnap:(∀ id∈zbr (zaa mu) 6 c,id∈sn)->snap (zaa mu) c=some c'->CR σ' c' v:=fun hi hs=>zlV H h hs hc hi
  cases c
  case ptr id off =>
   simp only [zbV] at hp
   simp only [zbr] at hi
   simp only [zaA] at hr
   split at hp
   · rename_i e cs hm
     split at hp
     · rename_i l hl
       cases hp
       simp only [hm] at hi hr
       simp only [CR] at hc ⊢
       obtain ⟨i,g,hi1,hg,rfl⟩:=hc
       obtain ⟨i',g',cur,hi',hg',hh,hcs⟩:=H id _ hm
       have e1:i=i':=Option.some.inj (hi1.symm.trans hi')
       subst e1
       have e2:g=g':=Option.some.inj (hg.symm.trans hg')
       subst e2
       refine ⟨g,0,cur.toList,by rw [Nat.zero_add],h.rd id (hr id (by simp)) i g (by rw [hm]; simp) hi1 hg,?_,?_⟩
       · refine zdy (fun x hx x' u hx' hu=>?_) hl hcs
         refine zd4 H n m (by omega) (by omega) h hx' hu (fun id hid=>hi id (List.mem_flatMap.2 ⟨x,hx,hid⟩)) (fun id hid=>hr id ?_)
         exact List.mem_cons_of_mem _ (List.mem_flatMap.2 ⟨x,hx,hid⟩)
       · intro j u hu
         rw [h.w]
         rw [cell_of_row _ _ _ cur e (0,0) hh]
         simpa using hu
     · cases hp
   · cases hp
  case iptr id j off =>
   simp only [zbV] at hp
   simp only [zbr] at hi
   split at hp
   · rename_i e t xs m' hm
     cases hp
     simp only [CR] at hc ⊢
     obtain ⟨i,g,hi1,hj0,hj1,hg,rfl⟩:=hc
     obtain ⟨i',hi',hlen,hsz,_,hrow⟩:=H id _ hm
     have e1:i=i':=Option.some.inj (hi1.symm.trans hi')
     subst e1
     simp only [RowR,hg] at hrow
     obtain ⟨cur,hh,_,_,_,hk⟩:=hrow
     obtain ⟨a,ha,hb⟩:=zoH t t.dflt xs _ j.toNat hk (by omega)
     refine ⟨g,j.toNat*i.sz,a,rfl,.inl (h.sn id (hi id (by simp)) i g (by rw [hm]; simp) hi1 hg),(zcr t _ a).2 (KR.mono (fun g k=>⟨h.V g k,by rw [h.w]⟩) t _ a ha),fun q u hu=>?_⟩
     rw [hsz,h.w]
     have:=hb q u hu
     rw [List.getElem?_take] at this
     split at this
     · rw [cell_of_row _ g _ cur e (0,0) hh]
       simpa using this
     · cases this
   · cases hp
  case rptr cs off =>
   simp only [zbV] at hp
   obtain ⟨hpl,hp⟩:=zaj hp
   cases hp
   exact zc1 h.ren _ _ (by simpa [zdV] using hpl) hc
  case fn f caps =>
   simp only [zbV] at hp
   simp only [zbr] at hi
   simp only [zaA] at hr
   split at hp
   · rename_i l hl
     cases hp
     simp only [CR] at hc ⊢
     obtain ⟨us,e,hcs⟩:=hc
     refine ⟨us,e,zdy (fun x hx x' u hx' hu=>?_) hl hcs⟩
     exact zd4 H n m (by omega) (by omega) h hx' hu (fun id hid=>hi id (List.mem_flatMap.2 ⟨x,hx,hid⟩)) (fun id hid=>hr id (List.mem_flatMap.2 ⟨x,hx,hid⟩))
   · cases hp
  case nilp =>
   simp only [zbV] at hp
   cases hp
   exact zc1 h.ren _ _ rfl hc
  case junk=>simp only [zbV,snap] at hp; cases hp
  case frow=>simp only [zbV,snap] at hp; cases hp
  all_goals exact viaSnap (by simpa only [zbr] using hi) (by simpa only [zbV] using hp)
theorem znZ (e:TypeId) (t:Ty) {σ:Sit} {v:Value} (h:CR σ .nilsl v):CR σ (.sl e t []) v:=by
 simp only [CR] at h
 subst h
 simp only [CR,KR]
 exact ⟨none,0,rfl,Nat.le_refl _,.inl rfl⟩
theorem zfO {σ:Sit}:∀ (tys:List (Option (TypeId×Ty))) (cs:List Cel) (us:List Value),CRs σ cs us->(zca tys cs).length=cs.length->CRs σ (zca tys cs) us
 | [],cs,us,k,_=>by simpa [zca] using k
 | _::_,[],us,k,_=>by
  simp only [CRs] at k
  subst k
  simp [zca,CRs]
 | x::tys,c::cs,us,k,hl=>by
  simp only [CRs] at k
  obtain ⟨u,r,rfl,h1,h2⟩:=k
  have key:∀ c',CR σ c' u->(c' :: zca tys cs).length=(c::cs).length->CRs σ (c' :: zca tys cs) (u::r):=by
   intro c' h1 hl
   simp only [CRs]
   exact ⟨u,r,rfl,h1,zfO tys cs r h2 (by simpa using hl)⟩
  cases x with
  | none =>
   simp only [zca] at hl ⊢
   exact key c h1 hl
  | some et =>
   obtain ⟨e,t⟩:=et
   cases c <;> simp only [zca] at hl ⊢ <;> first | exact key _ (znZ e t h1) hl | exact key _ h1 hl
theorem zcN:∀ (tys:List (Option (TypeId×Ty))) (cs:List Cel),(zca tys cs).length=cs.length
 | [],cs=>by simp [zca]
 | _::_,[]=>by simp [zca]
 | x::tys,c::cs=>by
  cases x with
  | none=>simp only [zca,List.length_cons]; rw [zcN]
  | some et =>
   obtain ⟨e,t⟩:=et
   cases c <;> simp only [zca,List.length_cons] <;> rw [zcN]
end
end Go.Proofs.YtdhkgmhdengnkaaGreatDoorPi
namespace Go.Proofs.YtdhkgmhdengnkaaGreatDoorPi
set_option linter.unusedVariables false
set_option linter.unusedSimpArgs false
open Go
abbrev Ent:=Nat×RI×Option Nat
def olds (E:List Ent):List Nat:=E.filterMap fun y=>y.2.2
theorem ziP (a b:List Ent):olds (a++b)=olds a++olds b:=by simp [olds]
def MixNames (mu:List (Nat×Cont)) (E:List Ent) (j:Nat):Nat->List (Option (TypeId×Ty))->List Cel->Prop
 | i,none::r,_::cs=>MixNames mu E j (i+1) r cs
 | i,some _::r,.full id::cs=>(∃ ri e t xs m,(inId j+1+i,ri,some id)∈E/\zaa mu id=some (.row e t xs m)/\m ≠ .frozen)/\MixNames mu E j (i+1) r cs
 | i,some _::r,.nilsl::cs=>MixNames mu E j (i+1) r cs
 | _,[],[]=>True
 | _,_,_=>False
theorem MixNames.mono {mu:List (Nat×Cont)} {E E':List Ent} (h:∀ y∈E,y∈E') {j:Nat} {pcs:List (Option (TypeId×Ty))} {cs:List Cel} {i:Nat} (k:MixNames mu E j i pcs cs):MixNames mu E' j i pcs cs:=by
 induction pcs generalizing cs i with
 | nil =>
  cases cs with
  | nil=>simp only [MixNames]
  | cons _ _=>simp only [MixNames] at k
 | cons x r ih =>
  cases cs with
  | nil=>cases x <;> simp only [MixNames] at k
  | cons c cs =>
   cases x with
   | none=>simp only [MixNames] at k ⊢; exact ih k
   | some x =>
    cases c
    case full id =>
     simp only [MixNames] at k ⊢
     obtain ⟨⟨ri,e,t,xs,m,h1,h2⟩,h3⟩:=k
     exact ⟨⟨ri,e,t,xs,m,h _ h1,h2⟩,ih h3⟩
    case nilsl=>simp only [MixNames] at k ⊢; exact ih k
    all_goals simp only [MixNames] at k
def zpZ (m:RMode):Prop:=m = .come \/ m = .lent
section
variable (B:Base) (mu:List (Nat×Cont)) (ρ:Nat->Option RI) (w:World) (sn rr:List Nat)
def CellsTo (E:List Ent) (cs cs':List Cel):Prop :=
 ∀ σ',HandOk (zaa mu) (B.sit (zaa mu) ρ w) σ' sn rr->(∀ y∈E,σ'.ρ y.1=some y.2.1)->∀ us,CRs (B.sit (zaa mu) ρ w) cs us->CRs σ' cs' us
def EntOk (E:List Ent) (c':Cont) (ri:RI):Option Nat->Prop
 | none=>ri.g=none/\ri.len=0 /\ ∃ e t m,c' = .row e t [] m/\zpZ m/\ri.sz=t.size
 | some a=>ρ a=some ri/\((∃ e t xs m m',c' = .row e t xs m' /\ zpZ m' /\ zaa mu a=some (.row e t xs m)/\m ≠ .frozen) \/
     ∃ e cs cs',c' = .box e cs' /\ zaa mu a=some (.box e cs)/\CellsTo B mu ρ w sn rr E cs cs')
variable {B mu ρ w sn rr}
theorem CellsTo.mono {E E':List Ent} (h:∀ y∈E,y∈E') {cs cs':List Cel} (k:CellsTo B mu ρ w sn rr E cs cs'):CellsTo B mu ρ w sn rr E' cs cs' :=
 fun σ' h1 h2 us hc=>k σ' h1 (fun y hy=>h2 y (h y hy)) us hc
theorem EntOk.mono {E E':List Ent} (h:∀ y∈E,y∈E') {c':Cont} {ri:RI} {a:Option Nat} (k:EntOk B mu ρ w sn rr E c' ri a):EntOk B mu ρ w sn rr E' c' ri a:=by
 cases a with
 | none=>exact k
 | some a =>
  obtain ⟨h1,h2⟩:=k
  refine ⟨h1,h2.imp id ?_⟩
  rintro ⟨e,cs,cs',h3,h4,h5⟩
  exact ⟨e,cs,cs',h3,h4,h5.mono h⟩
inductive Ents (E:List Ent):List (Nat×Cont)->List Ent->Prop where
 | nil:Ents E [] []
 | cons {b:Nat} {c':Cont} {ri:RI} {a:Option Nat} {m:List (Nat×Cont)} {l:List Ent}:EntOk B mu ρ w sn rr E c' ri a->Ents E m l->Ents E ((b,c')::m) ((b,ri,a)::l)
theorem Ents.mono {E E':List Ent} (h:∀ y∈E,y∈E') {m:List (Nat×Cont)} {l:List Ent} (k:Ents (B:=B) (mu:=mu) (ρ:=ρ) (w:=w) (sn:=sn) (rr:=rr) E m l) :
    Ents (B:=B) (mu:=mu) (ρ:=ρ) (w:=w) (sn:=sn) (rr:=rr) E' m l:=by
 induction k with
 | nil=>exact .nil
 | cons h1 _ ih=>exact .cons (h1.mono h) ih
theorem Ents.append {E:List Ent} {m m':List (Nat×Cont)} {l l':List Ent} (k:Ents (B:=B) (mu:=mu) (ρ:=ρ) (w:=w) (sn:=sn) (rr:=rr) E m l)
    (k':Ents (B:=B) (mu:=mu) (ρ:=ρ) (w:=w) (sn:=sn) (rr:=rr) E m' l'):Ents (B:=B) (mu:=mu) (ρ:=ρ) (w:=w) (sn:=sn) (rr:=rr) E (m++m') (l++l'):=by
 induction k with
 | nil=>exact k'
 | cons h1 _ ih=>exact .cons h1 ih
def zhv:Cel->Prop
 | .frow _ _ _=>False
 | _=>True
theorem zhw {j:Nat} {m:RMode} {i:Nat} {c:Cel} {r:List Cel} (h:zhv c):zaM j m i (c::r)=(c::(zaM j m (i+1) r).1,(zaM j m (i+1) r).2):=by
 cases c <;> first | rfl | exact h.elim
theorem zfz {j:Nat} {m:RMode}:∀ {p:List Cel} {i:Nat} {r:List Cel},(∀ c∈p,zhv c)->zaM j m i (p++r)=(p++(zaM j m (i+p.length) r).1,(zaM j m (i+p.length) r).2)
 | [],i,r,_=>by simp
 | c::p,i,r,h=>by
  rw [List.cons_append,zhw (h c (by simp)),zfz fun x hx=>h x (by simp [hx])]
  simp only [List.length_cons,List.cons_append]
  rw [Nat.add_assoc,Nat.add_comm 1]
theorem zg0:∀ (t:Ty) (x:t.den),∀ c∈t.emb x,zhv c
 | .int _,_,c,h=>by simp [Ty.emb] at h; subst h; trivial
 | .bool,_,c,h=>by simp [Ty.emb] at h; subst h; trivial
 | .str,_,c,h=>by simp [Ty.emb] at h; subst h; trivial
 | .unit,_,c,h=>by simp [Ty.emb] at h
 | .sl _ _,_,c,h=>by simp [Ty.emb] at h; subst h; trivial
 | .pair a b,x,c,h=>by
  simp only [Ty.emb,List.mem_append] at h
  rcases h with h | h
  · exact zg0 a _ c h
  · exact zg0 b _ c h
theorem zm0 {mu:Look} {c c':Cel} (h:snap mu c=some c'):zhv c':=by
 cases c <;> simp only [snap] at h <;> (try split at h) <;> first | (cases h; trivial) | cases h
theorem zsx {E:List Ent} {e:TypeId} {t:Ty} {m:RMode} (hm:zpZ m):EntOk B mu ρ w sn rr E (.row e t [] m) ⟨none,0,0,t.size⟩ none :=
 ⟨rfl,rfl,e,t,m,rfl,hm,rfl⟩
theorem zic (H:MuR B.C (B.sit (zaa mu) ρ w) (zaa mu)) (j:Nat):∀ {rcs:List RC} {cs l:List Cel} {fz gv:List Nat} {us:List Value} (i:Nat),zbf (zaa mu) rcs cs=some (l,fz,gv)->CRs (B.sit (zaa mu) ρ w) cs us->(∀ id∈fz,id∈sn) ->
    ∃ E,Ents (B:=B) (mu:=mu) (ρ:=ρ) (w:=w) (sn:=sn) (rr:=rr) E (zaM j .come i l).2 E/\olds E=gv/\CellsTo B mu ρ w sn rr E cs (zaM j .come i l).1
 | [],[],l,fz,gv,us,i,h,_,_=>by
  simp only [zbf] at h
  cases h
  exact ⟨[],.nil,rfl,fun σ' _ _ us hc=>by simpa [zaM,CRs] using hc⟩
 | [],_::_,l,fz,gv,us,i,h,_,_=>by simp [zbf] at h
 | .dat t::r,[],l,fz,gv,us,i,h,_,_=>by simp [zbf] at h
 | .row e t::r,[],l,fz,gv,us,i,h,_,_=>by simp [zbf] at h
 | .dat t::r,c::cs,l,fz,gv,us,i,h,hc,hsn=>by
  simp only [zbf] at h
  split at h
  · rename_i c' hs
    split at h
    · rename_i x hx
      split at h
      · rename_i l' fz' gv' hb
        cases h
        simp only [CRs] at hc
        obtain ⟨u,us',_,_,h2⟩:=hc
        obtain ⟨E,h3,h4,h5⟩:=zic H j (i+(t.emb x).length) hb h2 (fun id hid=>hsn id (List.mem_append_right _ hid))
        rw [zfz (zg0 t x)]
        refine ⟨E,h3,h4,fun σ' k1 k2 us hc=>?_⟩
        simp only [CRs] at hc
        obtain ⟨u,us',rfl,h1,h2⟩:=hc
        have hc':=zlV H k1 hs h1 (fun id hid=>hsn id (List.mem_append_left _ hid))
        have hk:=zdv hx (show CRs σ' [c'] [u] from by simp only [CRs]; exact ⟨u,[],rfl,hc',rfl⟩)
        have e1:=(zcr t x [u]).2 hk
        exact zbO e1 (h5 σ' k1 k2 us' h2)
      · cases h
    · cases h
  · cases h
 | .row e t::r,c::cs,l,fz,gv,us,i,h,hc,hsn=>by
  simp only [zbf] at h
  split at h
  · split at h
    · rename_i l' fz' gv' hb
      cases h
      simp only [CRs] at hc
      obtain ⟨u,us',_,_,h2⟩:=hc
      obtain ⟨E,h3,h4,h5⟩:=zic H j (i+1) hb h2 hsn
      simp only [zaM]
      refine ⟨(inId j+1+i,⟨none,0,0,t.size⟩,none)::E,.cons (zsx (.inl rfl)) (h3.mono fun y hy=>List.mem_cons_of_mem _ hy),by simpa [olds] using h4,fun σ' k1 k2 us hc=>?_⟩
      simp only [CRs] at hc ⊢
      obtain ⟨u,us',rfl,h1,h2⟩:=hc
      exact ⟨u,us',rfl,zgr (k2 _ List.mem_cons_self) (zc1 k1.ren _ _ rfl h1),h5 σ' k1 (fun y hy=>k2 y (List.mem_cons_of_mem _ hy)) us' h2⟩
    · cases h
  · rename_i id
    split at h
    · rename_i e' t' xs m hm
      split at h
      · rename_i hty
        obtain ⟨hcond,hq⟩:=zaj h
        clear h
        rw [Bool.and_eq_true] at hcond
        obtain ⟨he,hmode⟩:=hcond
        have he:=Nat.eq_of_beq_eq_true he
        subst he
        split at hq
        · rename_i l' fz' gv' hb
          cases hq
          obtain rfl:=Ty.beq_eq hty
          rw [zd0]
          simp only [CRs] at hc
          obtain ⟨u,us',_,h1,h2⟩:=hc
          obtain ⟨E,h3,h4,h5⟩:=zic H j (i+1) hb h2 hsn
          simp only [CR] at h1
          obtain ⟨ri,hri,_⟩:=h1
          simp only [zaM]
          have hri':ρ id=some ri:=hri
          refine ⟨(inId j+1+i,ri,some id)::E,.cons ⟨hri',.inl ⟨e,t',xs,m,.come,rfl,.inl rfl,hm,?_⟩⟩ (h3.mono fun y hy=>List.mem_cons_of_mem _ hy),by simpa [olds] using h4,fun σ' k1 k2 us hc=>?_⟩
          · intro e; rw [e] at hmode; cases hmode
          · simp only [CRs] at hc ⊢
            obtain ⟨u,us',rfl,h1,h2⟩:=hc
            refine ⟨u,us',rfl,?_,h5 σ' k1 (fun y hy=>k2 y (List.mem_cons_of_mem _ hy)) us' h2⟩
            simp only [CR] at h1 ⊢
            obtain ⟨ri',hri2,hd⟩:=h1
            have e2:ri'=ri:=Option.some.inj (hri2.symm.trans hri)
            subst e2
            exact ⟨ri',k2 _ List.mem_cons_self,hd⟩
        · cases hq
      · cases h
    · cases h
  · cases h
theorem ziQ {f:Cel->Option Cel}:∀ {cs l:List Cel},zbN f cs=some l->(∀ c c',f c=some c'->zhv c')->∀ c∈l,zhv c
 | [],l,h,_=>by simp only [zbN] at h; cases h; simp
 | c::cs,l,h,hf=>by
  simp only [zbN] at h
  split at h
  · rename_i c' hc'
    split at h
    · rename_i l' hl'
      cases h
      intro x hx
      rcases List.mem_cons.1 hx with rfl | hx
      · exact hf c _ hc'
      · exact ziQ hl' hf x hx
    · cases h
  · cases h
theorem zlW {mu:Look} {n:Nat} {c c':Cel} (h:zbV mu n c=some c'):zhv c':=by
 cases n with
 | zero=>simp [zbV] at h
 | succ n =>
  cases c
  case ptr id off=>simp only [zbV] at h; split at h <;> (try split at h) <;> first | (cases h; trivial) | cases h
  case iptr id i off=>simp only [zbV] at h; split at h <;> first | (cases h; trivial) | cases h
  case rptr cs off=>simp only [zbV] at h; obtain ⟨_,h⟩:=zaj h; cases h; trivial
  case fn f caps=>simp only [zbV] at h; split at h <;> first | (cases h; trivial) | cases h
  case nilp=>simp only [zbV] at h; cases h; trivial
  all_goals (simp only [zbV] at h; exact zm0 h)
theorem zg1 (tys:List (Option (TypeId×Ty))) (c:Cel) (l:List Cel):∃ c'',zca tys (c::l)=c'' :: zca tys.tail l/\(c''=c \/ ∃ e t,c = .nilsl/\c'' = .sl e t []):=by
 cases tys with
 | nil=>exact ⟨c,by simp [zca],.inl rfl⟩
 | cons x tys =>
  cases x with
  | none=>exact ⟨c,by simp only [zca,List.tail_cons],.inl rfl⟩
  | some et =>
   obtain ⟨e,t⟩:=et
   cases c
   case nilsl=>exact ⟨.sl e t [],by simp only [zca,List.tail_cons],.inr ⟨e,t,rfl,rfl⟩⟩
   all_goals exact ⟨_,by simp only [zca,List.tail_cons],.inl rfl⟩
theorem zid (H:MuR B.C (B.sit (zaa mu) ρ w) (zaa mu)) (j:Nat):∀ {pcs:List (Option (TypeId×Ty))} {cs l:List Cel} {us:List Value} (tys:List (Option (TypeId×Ty))) (i:Nat),zbI (zaa mu) pcs cs=some l->CRs (B.sit (zaa mu) ρ w) cs us ->
    (∀ id∈zcn (zaa mu) pcs cs,id∈sn)->(∀ id∈zcx (zaa mu) pcs cs,id∈rr) ->
    ∃ E,Ents (B:=B) (mu:=mu) (ρ:=ρ) (w:=w) (sn:=sn) (rr:=rr) E (zaM j .lent i (zca tys l)).2 E/\olds E=zcS pcs cs/\CellsTo B mu ρ w sn rr E cs (zaM j .lent i (zca tys l)).1/\MixNames mu E j i pcs cs
 | [],[],l,us,tys,i,h,_,_,_=>by
  simp only [zbI] at h
  cases h
  have:zca tys []=[]:=by have:=zcN tys []; simpa using this
  rw [this]
  exact ⟨[],.nil,rfl,fun σ' _ _ us hc=>by simpa [zaM,CRs] using hc,by simp only [MixNames]⟩
 | [],_::_,l,us,tys,i,h,_,_,_=>by simp [zbI] at h
 | none::r,[],l,us,tys,i,h,_,_,_=>by simp [zbI] at h
 | some x::r,[],l,us,tys,i,h,_,_,_=>by simp [zbI] at h
 | none::r,c::cs,l,us,tys,i,h,hc,hsn,hrr=>by
  simp only [zbI] at h
  split at h
  · rename_i c' l' hp hl
    cases h
    simp only [CRs] at hc
    obtain ⟨u,us',_,_,h2⟩:=hc
    simp only [zcn] at hsn
    simp only [zcx] at hrr
    obtain ⟨E,h3,h4,h5,h6⟩:=zid H j tys.tail (i+1) hl h2 (fun id hid=>hsn id (List.mem_append_right _ hid)) (fun id hid=>hrr id (List.mem_append_right _ hid))
    obtain ⟨c'',e1,e2⟩:=zg1 tys c' l'
    have hnr:zhv c'':=by
     rcases e2 with rfl | ⟨e,t,_,rfl⟩
     · exact zlW hp
     · trivial
    rw [e1,zhw hnr]
    refine ⟨E,h3,by simpa [zcS] using h4,fun σ' k1 k2 us hc=>?_,by simp only [MixNames]; exact h6⟩
    simp only [CRs] at hc ⊢
    obtain ⟨u,us',rfl,h1,h2⟩:=hc
    have hc':=zd4 H 6 8 (by omega) (by omega) k1 hp h1 (fun id hid=>hsn id (List.mem_append_left _ hid)) (fun id hid=>hrr id (List.mem_append_left _ hid))
    refine ⟨u,us',rfl,?_,h5 σ' k1 k2 us' h2⟩
    rcases e2 with rfl | ⟨e,t,rfl,rfl⟩
    · exact hc'
    · exact znZ e t hc'
  · cases h
 | some (e,t)::r,c::cs,l,us,tys,i,h,hc,hsn,hrr=>by
  simp only [zcn] at hsn
  simp only [zcx] at hrr
  cases c
  case nilsl =>
   simp only [zbI] at h
   split at h
   · rename_i l' hl
     cases h
     simp only [CRs] at hc
     obtain ⟨u,us',_,_,h2⟩:=hc
     obtain ⟨E,h3,h4,h5,h6⟩:=zid H j tys.tail (i+1) hl h2 hsn hrr
     obtain ⟨c'',e1,e2⟩:=zg1 tys (.frow e t []) l'
     rcases e2 with rfl | ⟨_,_,e2,_⟩
     case inr=>cases e2
     rw [e1]
     simp only [zaM]
     refine ⟨(inId j+1+i,⟨none,0,0,t.size⟩,none)::E,.cons (zsx (.inr rfl)) (h3.mono fun y hy=>List.mem_cons_of_mem _ hy),by simpa [olds,zcS] using h4,fun σ' k1 k2 us hc=>?_,by simp only [MixNames]; exact h6.mono fun y hy=>List.mem_cons_of_mem _ hy⟩
     simp only [CRs] at hc ⊢
     obtain ⟨u,us',rfl,h1,h2⟩:=hc
     exact ⟨u,us',rfl,zgr (k2 _ List.mem_cons_self) (zc1 k1.ren _ _ rfl h1),h5 σ' k1 (fun y hy=>k2 y (List.mem_cons_of_mem _ hy)) us' h2⟩
   · cases h
  case full id =>
   simp only [zbI] at h
   split at h
   · rename_i e' t' xs m l' hm hl
     have h':m ≠ .frozen/\(if h:t'.beq t=true then (bif Nat.beq e e' then some (.frow e t (zgb h xs)::l') else none) else none)=some l:=by
      cases m <;> first | (exact ⟨by simp,h⟩) | cases h
     obtain ⟨hmode,hq⟩:=h'
     clear h
     split at hq
     · rename_i hty
       obtain ⟨he,hq2⟩:=zaj hq
       clear hq
       have he:=Nat.eq_of_beq_eq_true he
       subst he
       cases hq2
       obtain rfl:=Ty.beq_eq hty
       rw [zd0]
       simp only [CRs] at hc
       obtain ⟨u,us',_,h1,h2⟩:=hc
       obtain ⟨E,h3,h4,h5,h6⟩:=zid H j tys.tail (i+1) hl h2 hsn hrr
       simp only [CR] at h1
       obtain ⟨ri,hri,_⟩:=h1
       have hri':ρ id=some ri:=hri
       obtain ⟨c'',e1,e2⟩:=zg1 tys (.frow e t' xs) l'
       rcases e2 with rfl | ⟨_,_,e2,_⟩
       case inr=>cases e2
       rw [e1]
       simp only [zaM]
       refine ⟨(inId j+1+i,ri,some id)::E,.cons ⟨hri',.inl ⟨e,t',xs,m,.lent,rfl,.inr rfl,hm,hmode⟩⟩ (h3.mono fun y hy=>List.mem_cons_of_mem _ hy),by simpa [olds,zcS] using h4,fun σ' k1 k2 us hc=>?_,by simp only [MixNames]; exact ⟨⟨ri,e,t',xs,m,List.mem_cons_self,hm,hmode⟩,h6.mono fun y hy=>List.mem_cons_of_mem _ hy⟩⟩
       simp only [CRs] at hc ⊢
       obtain ⟨u,us',rfl,h1,h2⟩:=hc
       refine ⟨u,us',rfl,?_,h5 σ' k1 (fun y hy=>k2 y (List.mem_cons_of_mem _ hy)) us' h2⟩
       simp only [CR] at h1 ⊢
       obtain ⟨ri',hri2,hd⟩:=h1
       have e2:ri'=ri:=Option.some.inj (hri2.symm.trans hri)
       subst e2
       exact ⟨ri',k2 _ List.mem_cons_self,hd⟩
     · cases hq
   · cases h
  all_goals (simp only [zbI] at h; cases h)
end
end Go.Proofs.YtdhkgmhdengnkaaGreatDoorPi
namespace Go.Proofs.YtdhkgmhdengnkaaGreatDoorPi
set_option linter.unusedVariables false
set_option linter.unusedSimpArgs false
open Go
section
variable {B:Base} {mu:List (Nat×Cont)} {ρ:Nat->Option RI} {w:World} {sn rr:List Nat}
def EnvTo (B:Base) (mu:List (Nat×Cont)) (ρ:Nat->Option RI) (w:World) (sn rr:List Nat) (E:List Ent) (j:Nat) (env:List (Nat×AV)) (us:List Value):Prop :=
 ∀ σ',HandOk (zaa mu) (B.sit (zaa mu) ρ w) σ' sn rr->(∀ y∈E,σ'.ρ y.1=some y.2.1)->∀ k a,zaa env k=some a->j<=k /\ ∃ u,us[k-j]? = some u/\AR σ' a u
theorem EnvTo.cons {E E':List Ent} (hE:∀ y∈E,y∈E') {j:Nat} {env:List (Nat×AV)} {us:List Value} {a:AV} {u:Value}
    (ha:∀ σ',HandOk (zaa mu) (B.sit (zaa mu) ρ w) σ' sn rr->(∀ y∈E',σ'.ρ y.1=some y.2.1)->AR σ' a u) (h:EnvTo B mu ρ w sn rr E (j+1) env us) :
    EnvTo B mu ρ w sn rr E' j ((j,a)::env) (u::us):=by
 intro σ' h1 h2 k b hk
 by_cases hjk:j=k
 · subst hjk
   rw [zag] at hk
   cases hk
   exact ⟨Nat.le_refl _,u,by simp,ha σ' h1 h2⟩
 · rw [zad _ _ hjk] at hk
   obtain ⟨h3,u',h4,h5⟩:=h σ' h1 (fun y hy=>h2 y (hE y hy)) k b hk
   refine ⟨by omega,u',?_,h5⟩
   have:k-j=k-(j+1)+1:=by omega
   rw [this]
   simpa using h4
def Names (mu:List (Nat×Cont)) (E:List Ent):Nat->List Par->List AV->Prop
 | j,.val::ps,_::vs=>Names mu E (j+1) ps vs
 | j,.box e _::ps,.sv (.one (.ptr id _))::vs=>(∃ ri cs,(inId j,ri,some id)∈E/\zaa mu id=some (.box e cs))/\Names mu E (j+1) ps vs
 | j,.mix _ pcs::ps,.sv v::vs=>MixNames mu E j 0 pcs v.cells/\Names mu E (j+1) ps vs
 | _,[],[]=>True
 | _,_,_=>False
theorem Names.mono {mu:List (Nat×Cont)} {E E':List Ent} (h:∀ y∈E,y∈E'):∀ {ps:List Par} {vs:List AV} {j:Nat},Names mu E j ps vs->Names mu E' j ps vs:=by
 intro ps vs j k
 induction ps generalizing vs j with
 | nil =>
  cases vs with
  | nil=>simp only [Names]
  | cons _ _=>simp only [Names] at k
 | cons p ps ih =>
  cases vs with
  | nil=>cases p <;> simp only [Names] at k
  | cons v vs =>
   cases p with
   | val=>simp only [Names] at k ⊢; exact ih k
   | box e cs =>
    cases v with
    | tup _=>simp only [Names] at k
    | junk=>simp only [Names] at k
    | sv s =>
     cases s with
     | agg _=>simp only [Names] at k
     | one c =>
      cases c
      case ptr id off =>
       simp only [Names] at k ⊢
       obtain ⟨⟨ri,cs',h1,h2⟩,h3⟩:=k
       exact ⟨⟨ri,cs',h _ h1,h2⟩,ih h3⟩
      all_goals simp only [Names] at k
   | mix b pcs =>
    cases v with
    | tup _=>simp only [Names] at k
    | junk=>simp only [Names] at k
    | sv s =>
     simp only [Names] at k ⊢
     exact ⟨k.1.mono h,ih k.2⟩
theorem zgu (H:MuR B.C (B.sit (zaa mu) ρ w) (zaa mu)):∀ {ps:List Par} {tys:List TypeId} {vs l:List AV} {fz gv ids:List Nat} {us:List Value} {s0:St} (j:Nat),
    zal B.C (zaa mu) ps tys vs=some (l,fz,gv,ids)->ARs (B.sit (zaa mu) ρ w) vs us->zcc j ps l=some s0 ->
    (∀ id∈fz,id∈sn)->(∀ id∈ids,id∈sn)->(∀ id∈zbE (zaa mu) ps vs,id∈rr) ->
    ∃ E,Ents (B:=B) (mu:=mu) (ρ:=ρ) (w:=w) (sn:=sn) (rr:=rr) E s0.mu E/\(olds E).Perm (zcb ps vs++gv++zbD ps vs)/\s0.dead=[]/\EnvTo B mu ρ w sn rr E j s0.env us/\Names mu E j ps vs
 | [],tys,[],l,fz,gv,ids,us,s0,j,h,hv,hi,_,_,_=>by
  have hx:some (([]:List AV),([]:List Nat),([]:List Nat),([]:List Nat))=some (l,fz,gv,ids):=by rw [<- h]; cases tys <;> rfl
  cases hx
  simp only [zcc] at hi
  cases hi
  exact ⟨[],.nil,by simp [olds,zcb,zbD],rfl,fun σ' _ _ k a hk=>by simp [zaa] at hk,by simp only [Names]⟩
 | [],tys,_::_,l,fz,gv,ids,us,s0,j,h,_,_,_,_,_=>by cases tys <;> (simp only [zal] at h; cases h)
 | .val::ps,tys,[],l,fz,gv,ids,us,s0,j,h,_,_,_,_,_=>by cases tys <;> (simp only [zal] at h; cases h)
 | .box _ _::ps,tys,[],l,fz,gv,ids,us,s0,j,h,_,_,_,_,_=>by cases tys <;> (simp only [zal] at h; cases h)
 | .mix _ _::ps,tys,[],l,fz,gv,ids,us,s0,j,h,_,_,_,_,_=>by cases tys <;> (simp only [zal] at h; cases h)
 | .val::ps,tys,.tup _::vs,l,fz,gv,ids,us,s0,j,h,_,_,_,_,_=>by cases tys <;> (simp only [zal] at h; cases h)
 | .val::ps,tys,.junk::vs,l,fz,gv,ids,us,s0,j,h,_,_,_,_,_=>by cases tys <;> (simp only [zal] at h; cases h)
 | .val::ps,tys,.sv v::vs,l,fz,gv,ids,us,s0,j,h,hv,hi,hfz,hids,hrr=>by
  obtain ⟨u,us',rfl,h1,h2⟩:=hv
  have h1':SR (B.sit (zaa mu) ρ w) v u:=h1
  simp only [zal] at h
  split at h
  · cases h
  · rename_i v' hr
    split at h
    · rename_i l' fz' gv' ids' hh
      cases h
      simp only [zcc] at hi
      split at hi
      · rename_i s1 hs1
        cases hi
        simp only [zbE] at hrr
        obtain ⟨E,h3,h4,h5,h6,hnm⟩:=zgu H (j+1) hh h2 hs1 hfz (fun id hid=>hids id (List.mem_append_right _ hid)) (fun id hid=>hrr id (List.mem_append_right _ hid))
        refine ⟨E,h3,by simpa [zcb,zbD] using h4,rfl,EnvTo.cons (fun y hy=>hy) (fun σ' k1 k2=>?_) h6,by simp only [Names]; exact hnm⟩
        have hsn':∀ c∈v.cells,∀ id∈zbr (zaa mu) 6 c,id∈sn:=fun c hc id hid=>hids id (List.mem_append_left _ (List.mem_flatMap.2 ⟨c,hc,hid⟩))
        have hrr':∀ c∈v.cells,∀ id∈zaA (zaa mu) 8 c,id∈rr:=fun c hc id hid=>hrr id (List.mem_append_left _ (List.mem_flatMap.2 ⟨c,hc,hid⟩))
        show SR σ' v' u
        cases v with
        | one c =>
         dsimp only at hr
         split at hr
         · rename_i c' hc'
           have hp:=zd4 H 6 8 (by omega) (by omega) k1 hc' h1' (hsn' c (by simp [SV.cells])) (hrr' c (by simp [SV.cells]))
           split at hr
           · rename_i c'' hc''
             cases hr
             have:=zfO (zsN B.C tys) [c'] [u] (by simp only [CRs]; exact ⟨u,[],rfl,hp,rfl⟩) (zcN _ _)
             rw [hc''] at this
             simp only [CRs] at this
             obtain ⟨u2,r2,e,h7,_⟩:=this
             cases e
             exact h7
           · cases hr
         · cases hr
        | agg cs =>
         dsimp only at hr
         split at hr
         · rename_i l2 hl2
           cases hr
           obtain ⟨us2,rfl,h7⟩:=h1'
           have:=zdy (fun c hc c' v hp hv=>zd4 H 6 8 (by omega) (by omega) k1 hp hv (hsn' c hc) (hrr' c hc)) hl2 h7
           exact ⟨us2,rfl,zfO _ _ _ this (zcN _ _)⟩
         · cases hr
      · cases hi
    · cases h
 | .box e0 rcs::ps,tys,v::vs,l,fz,gv,ids,us,s0,j,h,hv,hi,hfz,hids,hrr=>by
  cases tys with
  | nil=>simp only [zal] at h; cases h
  | cons ty tys =>
  cases v with
  | tup _=>simp only [zal] at h; cases h
  | junk=>simp only [zal] at h; cases h
  | sv v =>
  cases v with
  | agg _=>simp only [zal] at h; cases h
  | one c =>
  cases c
  case ptr id off =>
   cases off with
   | succ _=>simp only [zal] at h; cases h
   | zero =>
   simp only [zal] at h
   split at h
   · rename_i e' cs hb
     obtain ⟨he,hq⟩:=zaj h
     clear h
     have he:=Nat.eq_of_beq_eq_true he
     subst he
     split at hq
     · rename_i l1 fz1 gv1 hbx
       split at hq
       · rename_i l' fz' gv' ids' hh
         cases hq
         obtain ⟨u,us',rfl,h1,h2⟩:=hv
         have h1':CR (B.sit (zaa mu) ρ w) (.ptr id 0) u:=h1
         simp only [CR] at h1'
         obtain ⟨ri,g,hri,hg,rfl⟩:=h1'
         simp only [zcc] at hi
         split at hi
         · rename_i s1 hs1
           cases hi
           simp only [zbE] at hrr
           obtain ⟨i',g',cur,hi',hg',hh',hcs⟩:=H id _ hb
           obtain ⟨E1,k1,k2,k3⟩:=zic (rr:=rr) H j 0 hbx hcs (fun id hid=>hfz id (List.mem_append_left _ hid))
           obtain ⟨E2,h3,h4,h5,h6,hnm⟩:=zgu H (j+1) hh h2 hs1 (fun id hid=>hfz id (List.mem_append_right _ hid)) hids hrr
           have m1:∀ y∈E1,y∈(inId j,ri,some id)::(E1++E2):=fun y hy=>List.mem_cons_of_mem _ (List.mem_append_left _ hy)
           have m2:∀ y∈E2,y∈(inId j,ri,some id)::(E1++E2):=fun y hy=>List.mem_cons_of_mem _ (List.mem_append_right _ hy)
           refine ⟨(inId j,ri,some id)::(E1++E2),.cons ⟨hri,.inr ⟨e0,cs,_,rfl,hb,k3.mono m1⟩⟩ ((k1.mono m1).append (h3.mono m2)),?_,rfl,EnvTo.cons m2 (fun σ' q1 q2=>?_) h6,by simp only [Names]; exact ⟨⟨ri,cs,List.mem_cons_self,hb⟩,hnm.mono m2⟩⟩
           · have e1:olds ((inId j,ri,some id)::(E1++E2))=id::(gv1++olds E2):=by
              have:olds ((inId j,ri,some id)::(E1++E2))=id::olds (E1++E2):=by simp [olds]
              rw [this,ziP,k2]
             rw [e1]
             simp only [zcb,zbD,List.cons_append]
             refine List.Perm.cons _ ?_
             refine (List.Perm.append_left gv1 h4).trans ?_
             rw [<- List.append_assoc,<- List.append_assoc]
             refine List.Perm.append_right _ ?_
             rw [<- List.append_assoc]
             exact List.Perm.append_right _ List.perm_append_comm
           · show CR σ' (.ptr (inId j) 0) _
             simp only [CR]
             exact ⟨ri,g,q2 _ List.mem_cons_self,hg,rfl⟩
         · cases hi
       · cases hq
     · cases hq
   · cases h
  all_goals (simp only [zal] at h; cases h)
 | .mix agg pcs::ps,tys,v::vs,l,fz,gv,ids,us,s0,j,h,hv,hi,hfz,hids,hrr=>by
  cases tys with
  | nil=>simp only [zal] at h; cases h
  | cons ty tys =>
  cases v with
  | tup _=>simp only [zal] at h; cases h
  | junk=>simp only [zal] at h; cases h
  | sv v =>
  simp only [zal] at h
  split at h
  · rename_i l1 hl1
    split at h
    · rename_i ti l' fz' gv' ids' hT hh
      obtain ⟨u,us',rfl,h1,h2⟩:=hv
      have h1':SR (B.sit (zaa mu) ρ w) v u:=h1
      have hcells:=zgl v u h1'
      simp only [zbE] at hrr
      have main:∀ (sv:SV),l = .sv sv::l'->sv.cells=zca ti.cty l1->(fz,gv,ids)=(fz',gv',zcn (zaa mu) pcs v.cells++ids') ->
          (∀ σ',(∀ us,CRs (B.sit (zaa mu) ρ w) v.cells us->CRs σ' (zaM j .lent 0 sv.cells).1 us)->SR σ' (bif agg then .agg (zaM j .lent 0 sv.cells).1 else match (zaM j .lent 0 sv.cells).1 with | [c]=>.one c | l=>.agg l) u) ->
          ∃ E,Ents (B:=B) (mu:=mu) (ρ:=ρ) (w:=w) (sn:=sn) (rr:=rr) E s0.mu E/\(olds E).Perm (zcb (.mix agg pcs::ps) (.sv v::vs)++gv++zbD (.mix agg pcs::ps) (.sv v::vs))/\s0.dead=[]/\EnvTo B mu ρ w sn rr E j s0.env (u::us')/\Names mu E j (.mix agg pcs::ps) (.sv v::vs):=by
       rintro sv rfl hsv hx hsr
       cases hx
       simp only [zcc] at hi
       split at hi
       · rename_i s1 hs1
         cases hi
         obtain ⟨E1,k1,k2,k3,k4⟩:=zid (sn:=sn) (rr:=rr) H j ti.cty 0 hl1 hcells (fun id hid=>hids id (List.mem_append_left _ hid)) (fun id hid=>hrr id (List.mem_append_left _ hid))
         obtain ⟨E2,h3,h4,h5,h6,hnm⟩:=zgu H (j+1) hh h2 hs1 hfz (fun id hid=>hids id (List.mem_append_right _ hid)) (fun id hid=>hrr id (List.mem_append_right _ hid))
         have m1:∀ y∈E1,y∈E1++E2:=fun y hy=>List.mem_append_left _ hy
         have m2:∀ y∈E2,y∈E1++E2:=fun y hy=>List.mem_append_right _ hy
         rw [<- hsv] at k1 k3
         refine ⟨E1++E2,(k1.mono m1).append (h3.mono m2),?_,rfl,EnvTo.cons m2 (fun σ' q1 q2=>?_) h6,by simp only [Names]; exact ⟨k4.mono m1,hnm.mono m2⟩⟩
         · rw [ziP,k2]
           simp only [zcb,zbD]
           refine (List.Perm.append_left _ h4).trans ?_
           rw [<- List.append_assoc,<- List.append_assoc (zcb ps vs++gv)]
           exact List.Perm.append_right _ List.perm_append_comm
         · exact hsr σ' fun us hc=>k3 σ' q1 (fun y hy=>q2 y (m1 y hy)) us hc
       · cases hi
      split at h
      · cases h
        refine main (.agg (zca ti.cty l1)) rfl rfl rfl fun σ' hσ=>?_
        obtain ⟨us2,rfl,h7⟩:=h1'
        exact ⟨us2,rfl,hσ us2 h7⟩
      · rename_i c0 c hc
        cases h
        refine main (.one c) rfl (by rw [hc]; rfl) rfl fun σ' hσ=>?_
        have h7:=hσ [u] (by simp only [SV.cells,CRs]; exact ⟨u,[],rfl,h1',rfl⟩)
        have:∃ c',(zaM j .lent 0 (SV.one c).cells).1=[c']:=by
         cases c <;> exact ⟨_,rfl⟩
        obtain ⟨c',e⟩:=this
        rw [e] at h7 ⊢
        simp only [CRs] at h7
        obtain ⟨u2,r2,e2,h8,_⟩:=h7
        cases e2
        exact h8
      · cases h
    · cases h
  · cases h
end
end Go.Proofs.YtdhkgmhdengnkaaGreatDoorPi
namespace Go.Proofs.YtdhkgmhdengnkaaGreatDoorPi
set_option linter.unusedVariables false
set_option linter.unusedSimpArgs false
open Go
theorem zlX {a b:List Nat} (h:(a.any fun x=>b.any (Nat.beq x))=false) {x:Nat} (hx:x∈a):x ∉ b:=by
 intro hb
 have:(a.any fun x=>b.any (Nat.beq x))=true:=List.any_eq_true.2 ⟨x,hx,List.any_eq_true.2 ⟨x,hb,zcZ x⟩⟩
 rw [this] at h; cases h
theorem zkS:∀ {E:List Ent},(olds E).Nodup->∀ {b b':Nat} {r r':RI} {a:Nat},(b,r,some a)∈E->(b',r',some a)∈E->b=b' /\ r=r'
 | [],_,_,_,_,_,_,h,_=>by simp at h
 | (b0,r0,none)::E,hn,b,b',r,r',a,h,h'=>by
  have e:olds ((b0,r0,none)::E)=olds E:=by simp [olds]
  rw [e] at hn
  rcases List.mem_cons.1 h with h | h
  · cases h
  rcases List.mem_cons.1 h' with h' | h'
  · cases h'
  exact zkS hn h h'
 | (b0,r0,some a0)::E,hn,b,b',r,r',a,h,h'=>by
  have e:olds ((b0,r0,some a0)::E)=a0::olds E:=by simp [olds]
  rw [e,List.nodup_cons] at hn
  have hm:∀ {b r},(b,r,some a)∈E->a∈olds E:=fun h=>List.mem_filterMap.2 ⟨_,h,rfl⟩
  rcases List.mem_cons.1 h with h | h <;> rcases List.mem_cons.1 h' with h' | h'
  · cases h; cases h'; exact ⟨rfl,rfl⟩
  · cases h; exact absurd (hm h') hn.1
  · cases h'; exact absurd (hm h) hn.1
  · exact zkS hn.2 h h'
section
variable {B:Base} {mu:List (Nat×Cont)} {ρ:Nat->Option RI} {w:World} {sn rr:List Nat}
theorem Ents.fst {E:List Ent} {m:List (Nat×Cont)} {l:List Ent} (k:Ents (B:=B) (mu:=mu) (ρ:=ρ) (w:=w) (sn:=sn) (rr:=rr) E m l):l.map Prod.fst=m.map Prod.fst:=by
 induction k with
 | nil=>rfl
 | cons h1 _ ih=>simp only [List.map_cons,ih]
theorem Ents.find {E:List Ent} {m:List (Nat×Cont)} {l:List Ent} (k:Ents (B:=B) (mu:=mu) (ρ:=ρ) (w:=w) (sn:=sn) (rr:=rr) E m l) {b:Nat} {c':Cont} (h:(b,c')∈m) :
    ∃ ri a,(b,ri,a)∈l/\EntOk B mu ρ w sn rr E c' ri a:=by
 induction k with
 | nil=>simp at h
 | cons h1 _ ih =>
  rcases List.mem_cons.1 h with h | h
  · cases h; exact ⟨_,_,List.mem_cons_self,h1⟩
  · obtain ⟨ri,a,h2,h3⟩:=ih h
    exact ⟨ri,a,List.mem_cons_of_mem _ h2,h3⟩
theorem Ents.back {E:List Ent} {m:List (Nat×Cont)} {l:List Ent} (k:Ents (B:=B) (mu:=mu) (ρ:=ρ) (w:=w) (sn:=sn) (rr:=rr) E m l) {b:Nat} {ri:RI} {a:Option Nat} (h:(b,ri,a)∈l) :
    ∃ c',(b,c')∈m/\EntOk B mu ρ w sn rr E c' ri a:=by
 induction k with
 | nil=>simp at h
 | cons h1 _ ih =>
  rcases List.mem_cons.1 h with h | h
  · cases h; exact ⟨_,List.mem_cons_self,h1⟩
  · obtain ⟨c',h2,h3⟩:=ih h
    exact ⟨c',List.mem_cons_of_mem _ h2,h3⟩
def zhS (E:List Ent):Nat->Option RI:=fun b=>(zaa (E.map fun y=>(y.1,y.2.1)) b)
theorem zgv {E:List Ent} (hn:(E.map Prod.fst).Nodup) {y:Ent} (hy:y∈E):zhS E y.1=some y.2.1 :=
 zaH (by simpa [Function.comp_def] using hn) (List.mem_map.2 ⟨y,hy,rfl⟩)
theorem zkj {E:List Ent} {b:Nat} {i:RI} (h:zhS E b=some i):∃ a,(b,i,a)∈E:=by
 obtain ⟨y,hy,e⟩:=List.mem_map.1 (zaE h)
 cases e
 exact ⟨y.2.2,hy⟩
def zc8 (B:Base) (mu mu1:List (Nat×Cont)) (ρ:Nat->Option RI) (w:World) (E:List Ent) (noSl:Prop) (ids rr:List Nat):Base :=
 ⟨B.C,fun g=>∃ y∈E,∃ a,y.2.2=some a/\y.2.1.g=some g,
  fun g=>B.V (zaa mu1) ρ w g \/ (noSl /\ ∃ id∈ids,zaa mu id ≠ none /\ ∃ i,ρ id=some i/\i.g=some g),
  w,fun g=>B.R0 g \/ ∃ id∈rr,zaa mu id ≠ none /\ ∃ i,ρ id=some i/\i.g=some g,zhS E⟩
theorem zoR {dead:List Nat} (H:MInv B (zaa mu) dead ρ w) {fz ids frozen rr:List Nat} {fzE:List (Nat×Option Cont)} (hf:freeze (zaa mu) frozen=some fzE) (hfz:∀ id∈fz,id∈frozen)
    (hfr:∀ id∈frozen,id∈fz++ids) {noSl:Prop} (hids:noSl \/ ∀ id∈ids,id∈frozen)
    {E:List Ent} {m0:List (Nat×Cont)} (hE:Ents (B:=B) (mu:=mu) (ρ:=ρ) (w:=w) (sn:=fz++ids) (rr:=rr) E m0 E) (hk:(m0.map Prod.fst).Nodup)
    (hrow:∀ b e t xs m,(b,Cont.row e t xs m)∈m0->zjV B.C e t) (ho:(olds E).Nodup) (hap:∀ a∈olds E,a ∉ (fz++ids)++rr) :
    MInv (zc8 B mu (zab mu fzE) ρ w E noSl ids rr) (zaa m0) [] (zhS E) w /\
    HandOk (zaa mu) (B.sit (zaa mu) ρ w) ((zc8 B mu (zab mu fzE) ρ w E noSl ids rr).sit (zaa m0) (zhS E) w) (fz++ids) rr:=by
 obtain ⟨_,le,H1,hfV,hlook⟩:=H.freeze hf
 have hnE:(E.map Prod.fst).Nodup:=by rw [hE.fst]; exact hk
 have hin:∀ y∈E,∀ a,y.2.2=some a->a∈olds E/\ρ a=some y.2.1/\zaa mu a ≠ none:=by
  intro y hy a ha
  obtain ⟨b,ri,a'⟩:=y
  have ha':a'=some a:=ha
  subst ha'
  obtain ⟨c',_,hok⟩:=hE.back hy
  refine ⟨List.mem_filterMap.2 ⟨_,hy,rfl⟩,hok.1,?_⟩
  rcases hok.2 with ⟨e,t,xs,m,m',_,_,h3,_⟩ | ⟨e,cs,cs',_,h3,_⟩ <;> rw [h3] <;> simp
 -- a number that is read is none of those that are handed over
 have hsep:∀ id,id∈(fz++ids)++rr->zaa mu id ≠ none->∀ i g,ρ id=some i->i.g=some g->¬ ∃ y∈E,∃ a,y.2.2=some a/\y.2.1.g=some g:=by
  rintro id hid hm i g hi hg ⟨y,hy,a,ha,hyg⟩
  obtain ⟨h1,h2,h3⟩:=hin y hy a ha
  have:=H.sep a id _ i g h3 hm h2 hi hyg hg
  subst this
  exact hap a h1 hid
 have hfrom:∀ id,id∈frozen->zaa mu id ≠ none:=by
  intro id hid e
  obtain ⟨_,_,r3,_⟩:=zct hf (mu0:=mu) (fun id=>.inl rfl)
  obtain ⟨_,_,_,_,h,_⟩:=r3 id hid
  rw [e] at h; cases h
 let B':=zc8 B mu (zab mu fzE) ρ w E noSl ids rr
 have hok:(∀ g,(B.sit (zaa (zab mu fzE)) ρ w).V g->(B'.sit (zaa m0) (zhS E) w).V g)->HandOk (zaa mu) (B.sit (zaa mu) ρ w) (B'.sit (zaa m0) (zhS E) w) (fz++ids) rr:=by
  intro hV
  refine ⟨rfl,fun g hg=>hV g (le.blk g hg).1,fun g hg=>.inr (.inl hg),?_,fun id hid i g hm hi hg=>.inr (.inr ⟨id,hid,hm,i,hi,hg⟩)⟩
  intro id hid i g hm hi hg
  by_cases hfi:id∈frozen
  · exact hV g (hfV id hfi i g hi hg)
  · have hidi:id∈ids:=by
     rcases List.mem_append.1 hid with h | h
     · exact absurd (hfz id h) hfi
     · exact h
    have hno:noSl:=by
     rcases hids with h | h
     · exact h
     · exact absurd (h id hidi) hfi
    refine ⟨H.lt id i g hm hi hg,.inl (.inr ⟨hno,id,hidi,hm,i,hi,hg⟩),fun b c' i' hb _ hi' hg'=>?_⟩
    obtain ⟨a,ha⟩:=zkj hi'
    cases a with
    | some a=>exact hsep id (List.mem_append_left _ hid) hm i g hi hg ⟨_,ha,a,rfl,hg'⟩
    | none =>
     obtain ⟨c2,_,h2⟩:=hE.back ha
     have:=h2.1
     rw [this] at hg'; cases hg'
 have key:(∀ g,(B.sit (zaa (zab mu fzE)) ρ w).V g->(B'.sit (zaa m0) (zhS E) w).V g)/\MInv B' (zaa m0) [] (zhS E) w:=by
  refine H1.ren (B':=B') (fun b a=>∃ ri,(b,ri,some a)∈E) (fun a b c ⟨r,h1⟩ ⟨r',h2⟩=>(zkS ho h1 h2).1) ?_ ?_ (fun g hg=>.inl (.inl hg)) ?_ ?_ (Ext.refl _ _) ?_
  · intro b i hb
    left
    obtain ⟨a,ha⟩:=zkj hb
    obtain ⟨c',hc',_⟩:=hE.back ha
    rw [zaH hk hc']
    simp
  · intro b c' hb
    have hbm:=zaE hb
    obtain ⟨ri,a,h1,h2⟩:=hE.find hbm
    have hρ:=zgv hnE h1
    cases a with
    | none =>
     left
     obtain ⟨h3,h4,e,t,m,rfl,_,h5⟩:=h2
     exact ⟨ri,hρ,h3,ri,hρ,h4,h5,hrow b e t [] m hbm,by simp only [RowR,h3]⟩
    | some a =>
     right
     obtain ⟨h3,h4⟩:=h2
     obtain ⟨ho1,_,hma⟩:=hin _ h1 a rfl
     have hna:a ∉ frozen:=fun h=>hap a ho1 (List.mem_append_left _ (hfr a h))
     have hl1:zaa (zab mu fzE) a=zaa mu a:=za9 mu hf a hna
     rcases h4 with ⟨e,t,xs,m,m',rfl,h5,h6,h7⟩ | ⟨e,cs,cs',rfl,h6,h7⟩
     · refine ⟨a,.row e t xs m,⟨ri,h1⟩,by rw [hl1]; exact h6,fun _=>h7,?_,fun i hi=>?_,fun hV hc=>?_⟩
       · intro e1 t1 xs1 m1 he hm
         cases he
         rcases h5 with rfl | rfl <;> rcases hm with hm | hm <;> cases hm
       · have e1:=hρ.symm.trans hi
         cases e1
         exact h3
       · obtain ⟨i,e1,e2,e3,e4,e5⟩:=hc
         have e6:i=ri:=Option.some.inj (e1.symm.trans h3)
         subst e6
         refine ⟨i,hρ,e2,e3,e4,?_⟩
         cases hg:i.g with
         | none=>simp only [RowR,hg] at e5 ⊢; exact e5
         | some g =>
          simp only [RowR,hg] at e5 ⊢
          obtain ⟨cur,f1,f2,f3,f4,f5⟩:=e5
          exact ⟨cur,f1,f2,f3,f4,KL.imp (KR.mono (fun g hg=>⟨hV g hg,rfl⟩) t) _ _ f5⟩
     · refine ⟨a,.box e cs,⟨ri,h1⟩,by rw [hl1]; exact h6,fun _=>trivial,fun e1 t1 xs1 m1 he _=>(by cases he),fun i hi=>?_,fun hV _=>?_⟩
       · have e1:=hρ.symm.trans hi
         cases e1
         exact h3
       · obtain ⟨i,g,cur,e1,e2,e3,e4⟩:=H.cont a _ h6
         have e6:i=ri:=Option.some.inj (e1.symm.trans h3)
         subst e6
         exact ⟨i,g,cur,hρ,e2,e3,h7 _ (hok hV) (fun y hy=>zgv hnE hy) _ e4⟩
  · rintro b a i g _ ⟨ri,h1⟩ _ hi hg
    left
    obtain ⟨_,h2,_⟩:=hin _ h1 a rfl
    have e1:=h2.symm.trans hi
    cases e1
    exact ⟨_,h1,a,rfl,hg⟩
  · rintro b a e t xs m i g hb hm _ _ _
    obtain ⟨ri,a',h1,h2⟩:=hE.find (zaE hb)
    cases a' with
    | none =>
     obtain ⟨_,_,e1,t1,m1,he,h5,_⟩:=h2
     cases he
     rcases h5 with rfl | rfl <;> rcases hm with hm | hm <;> cases hm
    | some a' =>
     rcases h2.2 with ⟨e1,t1,xs1,m1,m',he,h5,_,_⟩ | ⟨e1,cs,cs',he,_,_⟩
     · cases he
       rcases h5 with rfl | rfl <;> rcases hm with hm | hm <;> cases hm
     · cases he
  · intro g hg
    rcases hg with hg | ⟨id,hid,hm,i,hi,hgi⟩
    · have hr:=H.rd g hg
      have hs:=H.ext.size
      refine ⟨by show g < w.heap.size; have:=hr.1; omega,?_⟩
      rintro ⟨y,hy,a,ha,hyg⟩
      obtain ⟨_,h2,h3⟩:=hin y hy a ha
      rcases H.own a _ g h3 h2 hyg with h | h
      · exact hr.2 h
      · have:=hr.1
        omega
    · exact ⟨H.lt id i g hm hi hgi,hsep id (List.mem_append_right _ hid) hm i g hi hgi⟩
 exact ⟨key.2,hok key.1⟩
end
end Go.Proofs.YtdhkgmhdengnkaaGreatDoorPi
namespace Go.Proofs.YtdhkgmhdengnkaaGreatDoorPi
set_option linter.unusedVariables false
set_option linter.unusedSimpArgs false
open Go
section
variable {B:Base} {P:Program} {n:Nat} {R:Type} (pi:(g:FuncId)->List AV->Option (B.C.sig g).den)
def ziR (C:Ctx) (pi:(g:FuncId)->List AV->Option (C.sig g).den):Option (Res C)->zbl->Prop
 | some (.inl d),d'=>d'=d
 | some (.inr c),d'=>∃ x,pi c.g c.args=some x/\d'=c.put x
 | none,_=>False
def zuz (P:Program) (B:Base) (o:Oper) (a:Act) (w:World) (s:St) (ρ:Nat->Option RI) (d:zbl):Prop :=
 ∀ (next:Act->World->Prop) (Q:Exit->Act->World->Prop),(∀ v w',OpD B s.mu s.dead ρ w d v w'->next (a.put o.dst v) w')->o.wp P a w next Q
def ziS (P:Program) (B:Base) (pi:(g:FuncId)->List AV->Option (B.C.sig g).den) (f n:Nat):Prop :=
 ∀ (site:Nat) (o:Oper) (s:St) (ρ:Nat->Option RI) (a:Act) (w:World) (vs:List AV) (d:zbl),StR B n s ρ a w->zeK s.env o.op.operands.toList=some vs ->
  ziR B.C pi (evD B.C f site o vs (zaa s.mu)) d->zuz P B o a w s ρ d
theorem ziT {C:Ctx} {pi:(g:FuncId)->List AV->Option (C.sig g).den} {f n site:Nat} {o:Oper} {s:St} {K:zbl->Option R} {r:R} (h:zka C pi f n site o s K=some r) :
    ∃ vs d,zeK s.env o.op.operands.toList=some vs/\ziR C pi (evD C f site o vs (zaa s.mu)) d/\K d=some r:=by
 unfold zka at h
 split at h
 · rename_i vs hvs
   rw [zgU] at h
   cases he:evD C f site o vs (zaa s.mu) with
   | none=>rw [he] at h; cases h
   | some q =>
    rw [he] at h
    cases q with
    | inl d=>exact ⟨vs,d,hvs,by rw [he]; exact rfl,h⟩
    | inr c =>
     have h':(pi c.g c.args).bind (fun x=>K (c.put x))=some r:=h
     cases hx:pi c.g c.args with
     | none=>rw [hx] at h'; cases h'
     | some x =>
      rw [hx] at h'
      exact ⟨vs,c.put x,hvs,by rw [he]; exact ⟨x,hx,rfl⟩,h'⟩
 · cases h
variable {pi}
theorem ContR.rho {C:Ctx} {σ:Sit} {id:Nat} {c:Cont} (h:ContR C σ id c):∃ i,σ.ρ id=some i:=by
 cases c with
 | box e cs=>obtain ⟨i,_,_,h,_⟩:=h; exact ⟨i,h⟩
 | row e t xs m=>obtain ⟨i,h,_⟩:=h; exact ⟨i,h⟩
theorem zdH:∀ {ed:List (Nat×Option Cont)} {mu:List (Nat×Cont)} {id:Nat},zaa (zab mu ed) id ≠ none->zaa mu id ≠ none \/ ∃ c,(id,c)∈ed
 | [],mu,id,h=>.inl (by simpa only [zab] using h)
 | (k,none)::r,mu,id,hm=>by
  simp only [zab] at hm
  by_cases e:k=id
  · subst e; exact .inr ⟨none,by simp⟩
  · rcases zdH hm with h | ⟨c,h⟩
    · rw [zao e] at h; exact .inl h
    · exact .inr ⟨c,by simp [h]⟩
 | (k,some c)::r,mu,id,hm=>by
  simp only [zab] at hm
  by_cases e:k=id
  · subst e; exact .inr ⟨some c,by simp⟩
  · rcases zdH hm with h | ⟨c,h⟩
    · rw [zad _ _ e,zao e] at h; exact .inl h
    · exact .inr ⟨c,by simp [h]⟩
theorem zgw:∀ {add:List (Nat×Cont)} {dead:List Nat} {mu mu':List (Nat×Cont)} {id:Nat},zaR dead mu add=some mu'->isIn id=true->zaa mu' id ≠ none->zaa mu id ≠ none
 | [],dead,mu,mu',id,h,_,hm=>by rw [<- zba h]; exact hm
 | (k,c)::r,dead,mu,mu',id,h,hi,hm=>by
  have hk:=zeP h k (by simp)
  obtain ⟨_,_,h3⟩:=zcy h
  have:=zgw h3 hi hm
  have hne:k ≠ id:=by intro e; rw [e,hi] at hk; cases hk
  rwa [zad _ _ hne] at this
theorem zoS {ed:List (Nat×Option Cont)} {add:List (Nat×Cont)} {dead:List Nat} {mu mu':List (Nat×Cont)} {id:Nat} (hok:zlx mu ed=true) (h:zaR dead (zab mu ed) add=some mu')
    (hi:isIn id=true) (hm:zaa mu' id ≠ none):zaa mu id ≠ none:=by
 rcases zdH (zgw h hi hm) with h | ⟨c,h⟩
 · exact h
 · have:=List.all_eq_true.1 hok _ h
   dsimp only at this
   rw [hi,Bool.not_true,Bool.false_or] at this
   intro e
   rw [e] at this; cases this
theorem zhx {s s':St} {ρ:Nat->Option RI} {a:Act} {w w':World} {dst:Option Nat} {d:zbl} {v:Value} (H:StR B n s ρ a w) (h:za4 n s dst d=some s') (hd:OpD B s.mu s.dead ρ w d v w') :
    ∃ ρ',StR B n s' ρ' (a.put dst v) w':=by
 unfold za4 at h
 split at h
 · rename_i mu env hmu henv
   cases h
   obtain ⟨hed,hmu⟩:=zaj hmu
   obtain ⟨ρ',le,inv,ha⟩:=hd mu hmu
   refine ⟨ρ',inv,ziK (H.env.mono le) henv ha,fun id hi hm=>?_⟩
   have hold:zaa s.mu id ≠ none:=zoS hed hmu hi hm
   cases hc:zaa s.mu id with
   | none=>exact absurd hc hold
   | some c =>
    obtain ⟨i,hρ⟩:=H.inv.cont id c hc |>.rho
    have h1:=H.pin id hi hold
    have h2:ρ' id=some i:=le.id _ _ hρ
    rw [h2,<- h1]
    exact hρ.symm
 · cases h
theorem zn0 {σ:Sit}:AR σ (.tup []) undef:=⟨[],rfl,rfl⟩
theorem zeV {f:FuncId} (hstep:ziS P B pi f n) {rid:Nat} {ops:Array Oper} {K:St->Option R} {r:R} {Q:Exit->Act->World->Prop}
    (hQ:∀ s ρ a w,StR B n s ρ a w->K s=some r->Q .normal a w) :
    ∀ (l:List Oper) (i:Nat),(∀ j,ops[i+j]? = l[j]?)->∀ (s:St) (ρ:Nat->Option RI) (a:Act) (w:World),zgi B.C pi f n rid ops.toList i l s K=some r->StR B n s ρ a w ->
     wpOps P ops Q ((List.range l.length).map (i + ·)) a w
 | [],i,_,s,ρ,a,w,h,H=>by
  simp only [zgi] at h
  exact hQ s ρ a w H h
 | o::l,i,hops,s,ρ,a,w,h,H=>by
  have hi:ops[i]? = some o:=by simpa using hops 0
  have hops':∀ j,ops[i+1+j]? = l[j]?:=by
   intro j
   have:=hops (j+1)
   rw [show i+1+j=i+(j+1) by omega]
   simpa using this
  have hrange:(List.range (o::l).length).map (i + ·)=i::(List.range l.length).map (i+1 + ·):=by
   rw [List.length_cons,List.range_succ_eq_map]
   simp only [List.map_cons,List.map_map,Nat.add_zero]
   congr 1
   apply List.map_congr_left
   intro x _
   simp only [Function.comp]
   omega
  rw [hrange,wpOps_cons]
  unfold wpOp
  simp only [hi]
  have go:∀ s ρ,StR B n s ρ a w->(zka B.C pi f n (rid*1000+i) o s fun d=>match za4 n s o.dst d with | some s'=>zgi B.C pi f n rid ops.toList (i+1) l s' K | none=>none)=some r ->
      o.wp P a w (wpOps P ops Q ((List.range l.length).map (i+1 + ·))) Q:=by
   intro s ρ H h
   obtain ⟨vs,d,hvs,hd,hK⟩:=ziT h
   split at hK
   · rename_i s' hs'
     refine hstep _ o s ρ a w vs d H hvs hd _ _ fun v w' hod=>?_
     obtain ⟨ρ',H'⟩:=zhx H hs' hod
     exact zeV hstep hQ l (i+1) hops' s' ρ' _ _ hK H'
   · cases hK
  have no:∀ s ρ,StR B n s ρ a w->(match zds n s.env o.dst (.tup []) with | some env=>zgi B.C pi f n rid ops.toList (i+1) l ⟨env,s.mu,s.dead⟩ K | none=>none)=some r ->
      wpOps P ops Q ((List.range l.length).map (i+1 + ·)) (a.put o.dst undef) w:=by
   intro s ρ H h
   split at h
   · rename_i env henv
     exact zeV hstep hQ l (i+1) hops' ⟨env,s.mu,s.dead⟩ ρ _ _ h ⟨H.inv,ziK H.env henv zn0,H.pin⟩
   · cases h
  simp only [zgi] at h
  cases hg:o.guard with
  | none =>
   rw [hg] at h
   have:Region.wanted o (yielded ops a.tmps)=true:=by simp [Region.wanted,hg]
   rw [if_pos this]
   exact .inl (go s ρ H h)
  | some jw =>
   obtain ⟨j,want⟩:=jw
   rw [hg] at h
   dsimp only at h
   split at h
   · cases h
   · rename_i g hgd
     have hy:(ops[j]?).bind (·.dst)=some g:=by
      unfold zmR at hgd
      rw [Array.getElem?_toList] at hgd
      split at hgd
      · rename_i o' ho'
        rw [ho']
        exact hgd
      · cases hgd
     split at h
     · rename_i b hb
       have hv:=H.env.val g _ hb
       have hv':a.eval (.tmp g) = .bool b:=by
        have h':CR (B.sit (zaa s.mu) ρ w) (.bool b) (a.eval (.tmp g)):=hv
        simpa only [CR] using h'
       have hyb:yielded ops a.tmps j=some b:=by
        unfold yielded
        rw [hy]
        simp only [Act.eval,Array.getD_eq_getD_getElem?] at hv'
        cases ht:a.tmps[g]? with
        | none=>rw [ht] at hv'; cases hv'
        | some u =>
         rw [ht] at hv'
         simp only [Option.getD_some] at hv'
         subst hv'
         simp [ht]
       have hset:∀ b',b=b'->StR B n ⟨(g,.sv (.one (.bool b')))::s.env,s.mu,s.dead⟩ ρ a w:=by
        rintro b' rfl
        exact ⟨H.inv,H.env.set (by show CR _ _ _; simp only [CR]; exact hv'),H.pin⟩
       have hw:Region.wanted o (yielded ops a.tmps)=(b == want):=by
        simp [Region.wanted,hg,hyb]
       rw [hw]
       cases b with
       | true =>
        cases want with
        | true=>rw [if_pos (by decide)]; exact .inl (go _ ρ (hset true rfl) h)
        | false=>rw [if_neg (by decide)]; exact no _ ρ (hset true rfl) h
       | false =>
        cases want with
        | true=>rw [if_neg (by decide)]; exact no _ ρ (hset false rfl) h
        | false=>rw [if_pos (by decide)]; exact .inl (go _ ρ (hset false rfl) h)
     · rename_i hb
       have hv:=H.env.val g _ hb
       have hyb:yielded ops a.tmps j=none:=by
        unfold yielded
        rw [hy]
        obtain ⟨us,e,e2⟩ : AR (B.sit (zaa s.mu) ρ w) (.tup []) (a.eval (.tmp g)):=hv
        simp only [Act.eval,Array.getD_eq_getD_getElem?] at e
        cases ht:a.tmps[g]? with
        | none=>simp [ht]
        | some u =>
         rw [ht] at e
         simp only [Option.getD_some] at e
         subst e
         simp [ht]
       have hw:Region.wanted o (yielded ops a.tmps)=false:=by simp [Region.wanted,hg,hyb]
       rw [hw,if_neg (by decide)]
       exact no s ρ H h
     · cases h
end
end Go.Proofs.YtdhkgmhdengnkaaGreatDoorPi
namespace Go.Proofs.YtdhkgmhdengnkaaGreatDoorPi
set_option linter.unusedVariables false
set_option linter.unusedSimpArgs false
open Go
section
variable {C:Ctx} {R:Type} (pi:(g:FuncId)->List AV->Option (C.sig g).den) (f n rid:Nat) (ms:List Nat) (s0:St)
structure One (i:Nat) (o:Oper) (acc:List Done) (x:Done):Prop where
 num:x.i=i
 dest:x.dst=o.dst
 how:((o.guard=none \/ ∃ j want,o.guard=some (j,want)/\Nat.testBit (ms.getD i 0) j=true/\zcK j acc=some (.sv (.one (.bool want)))) /\
    ∃ s vs,zdc n (acc.filter fun x=>Nat.testBit (ms.getD i 0) x.i) s0=some s/\zeK s.env o.op.operands.toList=some vs /\
     x.ids=(zcU o.op (zaa s.mu) vs)/\(∀ id∈x.ids,zaa s.mu id ≠ none)/\ziR C pi (evD C f (rid*1000+i) o vs (zaa s.mu)) x.d /\
     (∃ s',za4 n s o.dst x.d=some s')/\zdd (ms.getD i 0) x.d x.ids acc=true) \/
  ((∃ j want,o.guard=some (j,want)/\Nat.testBit (ms.getD i 0) j=true/\(zcK j acc=some (.sv (.one (.bool !want))) \/ zcK j acc=some (.tup [])))/\x.d=⟨.tup [],[],[]⟩/\x.ids=[])
inductive Quiet:Nat->List Oper->List Done->List Done->Prop where
 | nil {i:Nat} {acc:List Done}:Quiet i [] acc []
 | cons {i:Nat} {o:Oper} {l:List Oper} {acc:List Done} {x:Done} {more:List Done}:One pi f n rid ms s0 i o acc x->Quiet (i+1) l (acc++[x]) more->Quiet i (o::l) acc (x::more)
theorem ziU:∀ {acc:List Done} {j:Nat} {v:AV},zcK j acc=some v->zly j v acc=acc
 | [],j,v,h=>by simp [zcK] at h
 | x::r,j,v,h=>by
  simp only [zcK,zly] at h ⊢
  cases hb:Nat.beq x.i j with
  | true =>
   rw [hb] at h
   have h':some x.d.val=some v:=h
   cases h'
   rfl
  | false =>
   rw [hb] at h
   have h':zcK j r=some v:=h
   simp only [cond_false]
   rw [ziU h']
structure NumOk (i:Nat) (acc:List Done):Prop where
 lt:∀ x∈acc,x.i < i
 nd:(acc.map Done.i).Nodup
theorem NumOk.cons {i:Nat} {acc:List Done} (h:NumOk i acc) {x:Done} (hx:x.i=i):NumOk (i+1) (x::acc):=by
 refine ⟨fun y hy=>?_,?_⟩
 · rcases List.mem_cons.1 hy with rfl | hy
   · omega
   · have:=h.lt y hy; omega
 · rw [List.map_cons,List.nodup_cons]
   refine ⟨fun hm=>?_,h.nd⟩
   obtain ⟨y,hy,e⟩:=List.mem_map.1 hm
   have:=h.lt y hy
   omega
theorem zlY:∀ {l:List Done} {j:Nat} {v:AV},zcK j l=some v->∃ x∈l,x.i=j/\x.d.val=v
 | [],j,v,h=>by simp [zcK] at h
 | x::r,j,v,h=>by
  simp only [zcK] at h
  cases hb:Nat.beq x.i j with
  | true =>
   rw [hb] at h
   exact ⟨x,List.mem_cons_self,Nat.eq_of_beq_eq_true hb,Option.some.inj h⟩
  | false =>
   rw [hb] at h
   obtain ⟨y,h1,h2⟩:=zlY (show zcK j r=some v from h)
   exact ⟨y,List.mem_cons_of_mem _ h1,h2⟩
theorem zn1:∀ {l:List Done} {x:Done},(l.map Done.i).Nodup->x∈l->zcK x.i l=some x.d.val
 | [],x,_,h=>by simp at h
 | y::r,x,hn,h=>by
  rw [List.map_cons,List.nodup_cons] at hn
  simp only [zcK]
  rcases List.mem_cons.1 h with rfl | h
  · rw [zcZ]; rfl
  · rw [zlH (fun e:y.i=x.i=>hn.1 (List.mem_map.2 ⟨x,h,e.symm⟩))]
    exact zn1 hn.2 h
theorem ziV {i:Nat} {acc:List Done} (H:NumOk i acc) {j:Nat} {v:AV} (h:zcK j acc=some v):zcK j acc.reverse=some v:=by
 obtain ⟨x,h1,rfl,rfl⟩:=zlY h
 exact zn1 (by rw [List.map_reverse]; exact (List.reverse_perm _).nodup_iff.2 H.nd) (List.mem_reverse.2 h1)
theorem zhy (n:Nat) (x:Done):∀ (l:List Done) (s:St),zdc n (l++[x]) s=match zdc n l s with | some s'=>za4 n s' x.dst x.d | none=>none
 | [],s=>by
  simp only [List.nil_append,zdc]
  cases za4 n s x.dst x.d <;> rfl
 | y::l,s=>by
  simp only [List.cons_append,zdc]
  cases za4 n s y.dst y.d with
  | none=>rfl
  | some s'=>exact zhy n x l s'
theorem zfP (n:Nat):∀ (l:List Done) (s:St),zdt n l s=zdc n l.reverse s
 | [],s=>rfl
 | x::l,s=>by
  rw [List.reverse_cons,zhy,<- zfP n l s]
  rfl
theorem zg2 (m:Nat) (d:zbl) (ids:List Nat):∀ l:List Done,zdd m d ids l=l.all fun x=>Nat.testBit m x.i || !(zoG (za5 d) (x.ids++za5 x.d) || zoG (za5 x.d) ids)
 | []=>rfl
 | x::l=>by rw [zdd,List.all_cons,zg2 m d ids l]
theorem zoT (m:Nat) (d:zbl) (ids:List Nat) (l:List Done):zdd m d ids l.reverse=zdd m d ids l:=by rw [zg2,zg2,List.all_reverse]
theorem zm1 {site:Nat} {o:Oper} {vs:List AV} {mu:Look} {K:zbl->Option R} {r:R} (h:znT C pi f site o vs mu K=some r) :
    ∃ d,ziR C pi (evD C f site o vs mu) d/\K d=some r:=by
 unfold znT at h
 rw [zgU] at h
 cases he:evD C f site o vs mu with
 | none=>rw [he] at h; cases h
 | some q =>
  rw [he] at h
  cases q with
  | inl d=>exact ⟨d,rfl,h⟩
  | inr c =>
   have h':(pi c.g c.args).bind (fun x=>K (c.put x))=some r:=h
   cases hx:pi c.g c.args with
   | none=>rw [hx] at h'; cases h'
   | some x =>
    rw [hx] at h'
    exact ⟨c.put x,⟨x,hx,rfl⟩,h'⟩
def zn2 (n:Nat) (l:List Done):Prop:=∀ x∈l,x.d.add=[]/\x.d.edit=[] /\ ∀ d,x.dst=some d->Nat.blt d n=true
def zp0 (t:Nat):List Done->Option AV
 | []=>none
 | x::r=>if x.dst=some t then some x.d.val else zp0 t r
theorem zhz (m t:Nat):∀ l:List Done,zpK m t l=zp0 t (l.filter fun x=>Nat.testBit m x.i)
 | []=>rfl
 | x::l=>by
  rw [zpK,zhz m t l,List.filter_cons]
  cases hb:Nat.testBit m x.i with
  | false=>simp
  | true =>
   simp only [Bool.and_true,if_true,zp0]
   cases hd:x.dst with
   | none=>simp
   | some d =>
    by_cases e:d=t
    · subst e; simp [zcZ]
    · simp [zlH e,e]
theorem zlZ {s:St} {dst:Option Nat} {d:zbl} (h1:d.add=[]) (h2:d.edit=[]) (h3:∀ k,dst=some k->Nat.blt k n=true):∃ env',za4 n s dst d=some ⟨env',s.mu,s.dead⟩ /\ ∀ t,zaa env' t=if dst=some t then some d.val else zaa s.env t:=by
 unfold za4
 rw [h1,h2]
 cases dst with
 | none=>exact ⟨s.env,rfl,fun t=>by simp⟩
 | some k =>
  refine ⟨(k,d.val)::s.env,?_,fun t=>?_⟩
  · simp only [zds,h3 k rfl,cond_true]
    rfl
  · by_cases e:k=t
    · subst e; rw [zag,if_pos rfl]
    · rw [zad _ _ e,if_neg (by simpa using e)]
theorem ziW:∀ {l:List Done},zn2 n l->∃ env',zdt n l s0=some ⟨env',s0.mu,s0.dead⟩ /\ ∀ t,zaa env' t=match zp0 t l with | some v=>some v | none=>zaa s0.env t
 | [],_=>⟨s0.env,rfl,fun _=>rfl⟩
 | x::l,h=>by
  obtain ⟨env',h1,h2⟩:=ziW (fun y hy=>h y (List.mem_cons_of_mem _ hy))
  obtain ⟨k1,k2,k3⟩:=h x List.mem_cons_self
  obtain ⟨env2,h3,h4⟩:=zlZ (n:=n) (s:=⟨env',s0.mu,s0.dead⟩) k1 k2 k3
  refine ⟨env2,by rw [zdt,h1]; exact h3,fun t=>?_⟩
  rw [h4 t,zp0]
  by_cases e:x.dst=some t
  · rw [if_pos e,if_pos e]
  · rw [if_neg e,if_neg e]; exact h2 t
theorem zl0 {m:Nat} {acc:List Done} {env env':List (Nat×AV)} (h:∀ t,zaa env' t=match zpK m t acc with | some v=>some v | none=>zaa env t):∀ l:List Operand,zlz m acc env l=zeK env' l
 | []=>rfl
 | x::l=>by
  have hx:ztS m acc env x=opnd env' x:=by
   cases x with
   | tmp t=>rw [opnd,h t]; rfl
   | const v=>rfl
   | func f=>rfl
   | global g=>rfl
  rw [zlz,zeK,hx,zl0 h l]
theorem zoU {s s':St} {dst:Option Nat} {d:zbl} (h1:s.mu=s'.mu) (h2:s.dead=s'.dead) {q:St} (h:za4 n s dst d=some q):∃ q',za4 n s' dst d=some q':=by
 unfold za4 at h ⊢
 rw [h1,h2] at h
 split at h
 · rename_i mu env hmu henv
   rw [hmu]
   cases dst with
   | none=>exact ⟨_,rfl⟩
   | some k =>
    unfold zds at henv ⊢
    obtain ⟨hk,_⟩:=zaj henv
    simp only [hk,cond_true]
    exact ⟨_,rfl⟩
 · cases h
theorem zsZ {d:zbl} (h:nilD d=true):d.add=[]/\d.edit=[]:=by
 unfold nilD at h
 split at h
 · rename_i h1 h2; exact ⟨h1,h2⟩
 · cases h
theorem zkk {m:Nat} {d:zbl} {ids:List Nat} (h1:d.add=[]) (h2:d.edit=[]):∀ {l:List Done},zn2 n l->zdd m d ids l=true
 | [],_=>rfl
 | x::l,h=>by
  obtain ⟨k1,k2,_⟩:=h x List.mem_cons_self
  rw [zdd,zkk h1 h2 (fun y hy=>h y (List.mem_cons_of_mem _ hy))]
  simp [za5,h1,h2,k1,k2,zoG]
theorem zoV {s:St} {dst:Option Nat} {d:zbl} {q:St} (h:za4 n s dst d=some q):∀ k,dst=some k->Nat.blt k n=true:=by
 rintro k rfl
 unfold za4 at h
 split at h
 · rename_i mu env hmu henv
   unfold zds at henv
   exact (zaj henv).1
 · cases h
theorem zep:∀ (l:List Oper) (i:Nat) (cl:Bool) (mr:List Nat) (acc:List Done) (K:List Done->Option R) (r:R),(∀ k m,mr[k]? = some m->m=ms.getD (i+k) 0)->NumOk i acc->(∀ o∈l,∀ d,o.dst=some d->Nat.blt d n=true) ->
    (cl=true->zn2 n acc)->zbG C pi f n rid s0 i cl mr l acc K=some r->∃ more,K (more.reverse++acc)=some r/\Quiet pi f n rid ms s0 i l acc.reverse more
 | [],i,cl,mr,acc,K,r,_,_,_,_,h=>by
  cases mr <;> (simp only [zbG] at h; exact ⟨[],by simpa using h,.nil⟩)
 | o::l,i,cl,[],acc,K,r,_,_,_,_,h=>by simp [zbG] at h
 | o::l,i,cl,m::mr,acc,K,r,hms,HN,hds,hcl,h=>by
  have em:=hms 0 m rfl
  rw [Nat.add_zero] at em
  have hmr:∀ k m',mr[k]? = some m'->m'=ms.getD (i+1+k) 0:=fun k m' hk=>by
   have:=hms (k+1) m' (by simpa using hk)
   rwa [show i+(k+1)=i+1+k by omega] at this
  have hdl:∀ o∈l,∀ d,o.dst=some d->Nat.blt d n=true:=fun o ho=>hds o (List.mem_cons_of_mem _ ho)
  subst em
  have fin:∀ (cl':Bool) (s:St) (vs:List AV) (d:zbl),(o.guard=none \/ ∃ j want,o.guard=some (j,want)/\Nat.testBit (ms.getD i 0) j=true/\zcK j acc=some (.sv (.one (.bool want)))) ->
      zdt n (acc.filter fun x=>Nat.testBit (ms.getD i 0) x.i) s0=some s->zeK s.env o.op.operands.toList=some vs->(zcU o.op (zaa s.mu) vs).all (fun id=>(zaa s.mu id).isSome)=true ->
      ziR C pi (evD C f (rid*1000+i) o vs (zaa s.mu)) d->(∃ s',za4 n s o.dst d=some s')->zdd (ms.getD i 0) d (zcU o.op (zaa s.mu) vs) acc=true->(cl'=true->zn2 n (⟨i,o.dst,d,zcU o.op (zaa s.mu) vs⟩ :: acc)) ->
      zbG C pi f n rid s0 (i+1) cl' mr l (⟨i,o.dst,d,zcU o.op (zaa s.mu) vs⟩ :: acc) K=some r ->
      ∃ more,K (more.reverse++acc)=some r/\Quiet pi f n rid ms s0 i (o::l) acc.reverse more:=by
   intro cl' s vs d hg hs hvs hall hd hs' hfree hcl' h3
   obtain ⟨more,h4,h5⟩:=zep l (i+1) cl' mr _ K r hmr (HN.cons rfl) hdl hcl' h3
   rw [List.reverse_cons] at h5
   refine ⟨_::more,by simpa using h4,.cons ⟨rfl,rfl,.inl ⟨?_,s,vs,by rw [List.filter_reverse,<- zfP]; exact hs,hvs,rfl,fun id hid=>?_,hd,hs',by rw [zoT]; exact hfree⟩⟩ h5⟩
   · rcases hg with hg | ⟨j,want,g1,g2,g3⟩
     · exact .inl hg
     · exact .inr ⟨j,want,g1,g2,ziV HN g3⟩
   · have:=List.all_eq_true.1 hall id hid
     intro e
     rw [e] at this
     cases this
  have go:(o.guard=none \/ ∃ j want,o.guard=some (j,want)/\Nat.testBit (ms.getD i 0) j=true/\zcK j acc=some (.sv (.one (.bool want)))) ->
      (bif cl then
      (match zlz (ms.getD i 0) acc s0.env o.op.operands.toList with
      | none=>none
      | some vs =>
       bif (zcU o.op (zaa s0.mu) vs).all (fun id=>(zaa s0.mu id).isSome) then znT C pi f (rid*1000+i) o vs (zaa s0.mu) (fun d=>match za4 n s0 o.dst d with
        | none=>none
        | some _=>bif nilD d then zbG C pi f n rid s0 (i+1) true mr l (⟨i,o.dst,d,zcU o.op (zaa s0.mu) vs⟩ :: acc) K else bif zdd (ms.getD i 0) d (zcU o.op (zaa s0.mu) vs) acc then zbG C pi f n rid s0 (i+1) false mr l (⟨i,o.dst,d,zcU o.op (zaa s0.mu) vs⟩ :: acc) K else none) else none)
      else match zdt n (acc.filter fun x=>Nat.testBit (ms.getD i 0) x.i) s0 with
       | none=>none
       | some s=>match zeK s.env o.op.operands.toList with
        | none=>none
        | some vs =>
         bif (zcU o.op (zaa s.mu) vs).all (fun id=>(zaa s.mu id).isSome) then zka C pi f n (rid*1000+i) o s (fun d=>match za4 n s o.dst d with
          | none=>none
          | some _=>bif zdd (ms.getD i 0) d (zcU o.op (zaa s.mu) vs) acc then zbG C pi f n rid s0 (i+1) false mr l (⟨i,o.dst,d,zcU o.op (zaa s.mu) vs⟩ :: acc) K else none) else none)=some r ->
      ∃ more,K (more.reverse++acc)=some r/\Quiet pi f n rid ms s0 i (o::l) acc.reverse more:=by
   intro hg h
   cases cl with
   | false =>
    simp only [cond_false] at h
    split at h
    · cases h
    · rename_i s hs
      split at h
      · cases h
      · rename_i vs hvs
        obtain ⟨hall,h2⟩:=zaj h
        clear h
        obtain ⟨vs',d,hvs',hd,hK⟩:=ziT h2
        have e:vs'=vs:=Option.some.inj (hvs'.symm.trans hvs)
        subst e
        split at hK
        · cases hK
        · rename_i s' hs'
          obtain ⟨hfree,h3⟩:=zaj hK
          exact fin false s vs' d hg hs hvs hall hd ⟨s',hs'⟩ hfree (fun h=>by cases h) h3
   | true =>
    have HC:=hcl rfl
    simp only [cond_true] at h
    obtain ⟨env',k1,k2⟩:=ziW (n:=n) (s0:=s0) (l:=acc.filter fun x=>Nat.testBit (ms.getD i 0) x.i) (fun y hy=>HC y (List.mem_filter.1 hy).1)
    have k3:=zl0 (m:=ms.getD i 0) (acc:=acc) (env:=s0.env) (env':=env') (fun t=>by rw [zhz]; exact k2 t) o.op.operands.toList
    split at h
    · cases h
    · rename_i vs hvs
      rw [k3] at hvs
      obtain ⟨hall,h2⟩:=zaj h
      clear h
      obtain ⟨d,hd,hK⟩:=zm1 pi f h2
      split at hK
      · cases hK
      · rename_i s' hs'
        have hq:=zoU (n:=n) (s:=s0) (s':=⟨env',s0.mu,s0.dead⟩) rfl rfl hs'
        cases hn:nilD d with
        | true =>
         rw [hn] at hK
         obtain ⟨e1,e2⟩:=zsZ hn
         refine fin true ⟨env',s0.mu,s0.dead⟩ vs d hg k1 hvs hall hd hq (zkk n e1 e2 HC) (fun _ y hy=>?_) hK
         rcases List.mem_cons.1 hy with rfl | hy
         · exact ⟨e1,e2,zoV n hs'⟩
         · exact HC y hy
        | false =>
         rw [hn] at hK
         obtain ⟨hfree,h3⟩:=zaj (show (bif _ then _ else _)=some r from hK)
         exact fin false ⟨env',s0.mu,s0.dead⟩ vs d hg k1 hvs hall hd hq hfree (fun h=>by cases h) h3
  have no:(∃ j want,o.guard=some (j,want)/\Nat.testBit (ms.getD i 0) j=true/\(zcK j acc=some (.sv (.one (.bool !want))) \/ zcK j acc=some (.tup []))) ->
      zbG C pi f n rid s0 (i+1) cl mr l (⟨i,o.dst,⟨.tup [],[],[]⟩,[]⟩ :: acc) K=some r ->
      ∃ more,K (more.reverse++acc)=some r/\Quiet pi f n rid ms s0 i (o::l) acc.reverse more:=by
   rintro ⟨j,want,g1,g2,g3⟩ h
   obtain ⟨more,h4,h5⟩:=zep l (i+1) cl mr _ K r hmr (HN.cons rfl) hdl (fun e y hy=>by
    rcases List.mem_cons.1 hy with rfl | hy
    · exact ⟨rfl,rfl,fun d hd=>hds o List.mem_cons_self d hd⟩
    · exact hcl e y hy) h
   rw [List.reverse_cons] at h5
   refine ⟨_::more,by simpa using h4,.cons ⟨rfl,rfl,.inr ⟨⟨j,want,g1,g2,?_⟩,rfl,rfl⟩⟩ h5⟩
   rcases g3 with g3 | g3
   · exact .inl (ziV HN g3)
   · exact .inr (ziV HN g3)
  simp only [zbG] at h
  cases hg:o.guard with
  | none =>
   rw [hg] at h
   exact go (.inl hg) h
  | some jw =>
   obtain ⟨j,want⟩:=jw
   rw [hg] at h
   dsimp only at h
   obtain ⟨hm,h2⟩:=zaj h
   clear h
   split at h2
   · rename_i b hb
     cases b with
     | true =>
      rw [ziU hb] at h2
      cases want with
      | true=>exact go (.inr ⟨j,true,hg,hm,hb⟩) h2
      | false=>exact no ⟨j,false,hg,hm,.inl hb⟩ h2
     | false =>
      rw [ziU hb] at h2
      cases want with
      | true=>exact no ⟨j,true,hg,hm,.inl hb⟩ h2
      | false=>exact go (.inr ⟨j,false,hg,hm,hb⟩) h2
   · rename_i hb
     exact no ⟨j,want,hg,hm,.inr hb⟩ h2
   · cases h2
end
def effE (ed:List (Nat×Option Cont)) (id:Nat) (b:Option Cont):Option Cont:=ed.foldl (fun b x=>if x.1=id then x.2 else b) b
def effD (d:zbl) (id:Nat) (b:Option Cont):Option Cont:=match zaa d.add id with
 | some c=>some c
 | none=>effE d.edit id b
def zeG:List Done->Nat->Option Cont->Option Cont
 | [],_,b=>b
 | x::r,id,b=>zeG r id (effD x.d id b)
def zcf:List Done->Nat->Option AV->Option AV
 | [],_,b=>b
 | x::r,t,b=>zcf r t (if x.dst=some t then some x.d.val else b)
def zbH:List Done->Nat->Prop->Prop
 | [],_,b=>b
 | x::r,id,b=>zbH r id ((id,none)∈x.d.edit \/ b)
theorem zcg:∀ (ed:List (Nat×Option Cont)) (mu:List (Nat×Cont)) (id:Nat),zaa (zab mu ed) id=effE ed id (zaa mu id)
 | [],mu,id=>rfl
 | (k,none)::r,mu,id=>by
  simp only [zab,effE,List.foldl_cons]
  rw [zcg r]
  unfold effE
  congr 1
  by_cases h:k=id
  · subst h; rw [if_pos rfl,zaD]
  · rw [if_neg h,zao h]
 | (k,some c)::r,mu,id=>by
  simp only [zab,effE,List.foldl_cons]
  rw [zcg r]
  unfold effE
  congr 1
  by_cases h:k=id
  · subst h; rw [if_pos rfl,zag]
  · rw [if_neg h,zad _ _ h,zao h]
theorem zc9:∀ (ed:List (Nat×Option Cont)) (d:List Nat) (id:Nat),id∈zbX ed d ↔ (id,none)∈ed \/ id∈d
 | [],d,id=>by simp [zbX]
 | (k,none)::r,d,id=>by
  simp only [zbX]
  rw [zc9 r]
  simp only [List.mem_cons,Prod.mk.injEq,and_true]
  constructor
  · rintro (h | h | h)
    · exact .inl (.inr h)
    · exact .inl (.inl h)
    · exact .inr h
  · rintro ((h | h) | h)
    · exact .inr (.inl h)
    · exact .inl h
    · exact .inr (.inr h)
 | (k,some c)::r,d,id=>by
  simp only [zbX]
  rw [zc9 r]
  simp
theorem zcD:∀ (add:List (Nat×Cont)) (dead:List Nat) (mu mu':List (Nat×Cont)),zaR dead mu add=some mu' ->
    (∀ id,zaa mu' id=match zaa add id with | some c=>some c | none=>zaa mu id)/\(add.map Prod.fst).Nodup /\ ∀ id∈add.map Prod.fst,id ∉ dead/\zaa mu id=none
 | [],dead,mu,mu',h=>by
  obtain rfl:=zba h
  exact ⟨fun id=>rfl,List.nodup_nil,by simp⟩
 | (k,c)::r,dead,mu,mu',h=>by
  obtain ⟨h1,h2,h3⟩:=zcy h
  obtain ⟨i1,i2,i3⟩:=zcD r dead _ mu' h3
  have hk:k ∉ r.map Prod.fst:=by
   intro hm
   have:=(i3 k hm).2
   rw [zag] at this
   cases this
  refine ⟨fun id=>?_,List.nodup_cons.2 ⟨hk,i2⟩,fun id hid=>?_⟩
  · rw [i1 id]
    by_cases e:k=id
    · subst e
      rw [zag]
      have:zaa r k=none:=by
       cases hx:zaa r k with
       | none=>rfl
       | some c'=>exact absurd (List.mem_map.2 ⟨_,zaE hx,rfl⟩) hk
      rw [this,zag]
    · rw [zad _ _ e,zad _ _ e]
  · rcases List.mem_cons.1 hid with e | hid
    · have e':id=k:=e
      subst e'; exact ⟨h2,h1⟩
    · obtain ⟨h4,h5⟩:=i3 id hid
      refine ⟨h4,?_⟩
      have:k ≠ id:=by intro e; subst e; exact hk hid
      rwa [zad _ _ this] at h5
theorem zhA:∀ (add:List (Nat×Cont)) (dead:List Nat) (mu:List (Nat×Cont)),(add.map Prod.fst).Nodup->(∀ id∈add.map Prod.fst,id ∉ dead/\zaa mu id=none)->(∀ id∈add.map Prod.fst,isIn id=false)->∃ mu',zaR dead mu add=some mu'
 | [],dead,mu,_,_,_=>⟨mu,rfl⟩
 | (k,c)::r,dead,mu,hn,h,hi=>by
  rw [List.map_cons,List.nodup_cons] at hn
  obtain ⟨h1,h2⟩:=h k (by simp)
  simp only [zaR]
  have hd:dead.any (Nat.beq k)=false:=by
   cases hb:dead.any (Nat.beq k) with
   | false=>rfl
   | true =>
    obtain ⟨x,hx,e⟩:=List.any_eq_true.1 hb
    have:=Nat.eq_of_beq_eq_true e
    subst this
    exact absurd hx h1
  rw [hd,h2,hi k (by simp)]
  refine zhA r dead _ hn.2 (fun id hid=>?_) fun id hid=>hi id (by simp; exact .inr (by simpa using hid))
  obtain ⟨h3,h4⟩:=h id (by simp; exact .inr (by simpa using hid))
  have:k ≠ id:=by intro e; subst e; exact hn.1 hid
  exact ⟨h3,by rw [zad _ _ this]; exact h4⟩
end Go.Proofs.YtdhkgmhdengnkaaGreatDoorPi
namespace Go.Proofs.YtdhkgmhdengnkaaGreatDoorPi
set_option linter.unusedVariables false
set_option linter.unusedSimpArgs false
open Go
structure Exts (s0:St) (l:List Done) (s:St):Prop where
 env:∀ t,zaa s.env t=zcf l t (zaa s0.env t)
 mu:∀ id,zaa s.mu id=zeG l id (zaa s0.mu id)
 dead:∀ id,id∈s.dead ↔ zbH l id (id∈s0.dead)
theorem zm2 {n:Nat} {env env':List (Nat×AV)} {dst:Option Nat} {v:AV} (h:zds n env dst v=some env'):∀ t,zaa env' t=if dst=some t then some v else zaa env t:=by
 intro t
 unfold zds at h
 split at h
 · cases h; rw [if_neg (by simp)]
 · rename_i d
   obtain ⟨_,h⟩:=zaj h
   cases h
   by_cases e:d=t
   · subst e; rw [zag,if_pos rfl]
   · rw [zad _ _ e,if_neg (by simpa using e)]
theorem zm3 {n:Nat} {s s':St} {dst:Option Nat} {d:zbl} (h:za4 n s dst d=some s') :
    (∀ t,zaa s'.env t=if dst=some t then some d.val else zaa s.env t)/\(∀ id,zaa s'.mu id=effD d id (zaa s.mu id)) /\ ∀ id,id∈s'.dead ↔ (id,none)∈d.edit \/ id∈s.dead:=by
 unfold za4 at h
 split at h
 · rename_i mu env hmu henv
   cases h
   obtain ⟨_,hmu⟩:=zaj hmu
   refine ⟨zm2 henv,fun id=>?_,fun id=>zc9 _ _ _⟩
   rw [(zcD _ _ _ _ hmu).1 id,zcg]
   rfl
 · cases h
theorem zhB:∀ (l:List Done) (id:Nat) {a b:Prop},(a ↔ b)->(zbH l id a ↔ zbH l id b)
 | [],_,_,_,h=>h
 | x::r,id,a,b,h=>zhB r id (by rw [h])
theorem Exts.nil (s0:St):Exts s0 [] s0:=⟨fun _=>rfl,fun _=>rfl,fun _=>Iff.rfl⟩
theorem zbY:∀ (a b:List Done) (t:Nat) (v:Option AV),zcf (a++b) t v=zcf b t (zcf a t v)
 | [],_,_,_=>rfl
 | x::a,b,t,v=>zbY a b t _
theorem zch:∀ (a b:List Done) (t:Nat) (v:Option Cont),zeG (a++b) t v=zeG b t (zeG a t v)
 | [],_,_,_=>rfl
 | x::a,b,t,v=>zch a b t _
theorem zbJ:∀ (a b:List Done) (t:Nat) (v:Prop),zbH (a++b) t v ↔ zbH b t (zbH a t v)
 | [],_,_,_=>Iff.rfl
 | x::a,b,t,v=>zbJ a b t _
theorem Exts.step {n:Nat} {s0 s s':St} {l:List Done} {x:Done} (H:Exts s0 l s) (h:za4 n s x.dst x.d=some s'):Exts s0 (l++[x]) s':=by
 obtain ⟨h1,h2,h3⟩:=zm3 h
 refine ⟨fun t=>?_,fun id=>?_,fun id=>?_⟩
 · rw [zbY,h1 t,H.env t]; rfl
 · rw [zch,h2 id,H.mu id]; rfl
 · rw [zbJ,h3 id]
   show _ \/ _ ↔ _ \/ _
   rw [H.dead id]
theorem zfQ {n:Nat} {s00:St}:∀ (l pre:List Done) (s s':St),Exts s00 pre s->zdc n l s=some s'->Exts s00 (pre++l) s'
 | [],pre,s,s',H,h=>by simp only [zdc] at h; cases h; simpa using H
 | x::r,pre,s,s',H,h=>by
  simp only [zdc] at h
  split at h
  · rename_i s1 hs1
    have:=zfQ r (pre++[x]) s1 s' (H.step hs1) h
    simpa using this
  · cases h
theorem zn3:∀ (ed:List (Nat×Option Cont)) (id:Nat) (b:Option Cont),id ∉ ed.map Prod.fst->effE ed id b=b
 | [],_,_,_=>rfl
 | (k,c)::r,id,b,h=>by
  simp only [List.map_cons,List.mem_cons,not_or] at h
  simp only [effE,List.foldl_cons]
  rw [if_neg (fun e=>h.1 e.symm)]
  exact zn3 r id b h.2
theorem zp1 {α:Type} {l:List (Nat×α)} {id:Nat} (h:id ∉ l.map Prod.fst):zaa l id=none:=by
 cases hx:zaa l id with
 | none=>rfl
 | some c=>exact absurd (List.mem_map.2 ⟨_,zaE hx,rfl⟩) h
theorem zie {d:zbl} {id:Nat} {b:Option Cont} (h:id ∉ za5 d):effD d id b=b:=by
 unfold za5 at h
 rw [List.mem_append,not_or] at h
 unfold effD
 rw [zp1 h.2,zn3 _ _ _ h.1]
theorem zkT {d:zbl} {id:Nat} (h:id ∉ za5 d):(id,none) ∉ d.edit:=fun hm=>h (List.mem_append_left _ (List.mem_map.2 ⟨_,hm,rfl⟩))
theorem zg3:∀ (l:List Done) (id:Nat) (b:Option Cont),(∀ x∈l,id ∉ za5 x.d)->zeG l id b=b
 | [],_,_,_=>rfl
 | x::r,id,b,h=>by simp only [zeG]; rw [zie (h x (by simp)),zg3 r id b fun y hy=>h y (by simp [hy])]
theorem zeq:∀ (l:List Done) (t:Nat) (b:Option AV),(∀ x∈l,x.dst ≠ some t)->zcf l t b=b
 | [],_,_,_=>rfl
 | x::r,t,b,h=>by simp only [zcf]; rw [if_neg (h x (by simp)),zeq r t b fun y hy=>h y (by simp [hy])]
theorem zeW:∀ (l:List Done) (id:Nat) (b:Prop),(∀ x∈l,id ∉ za5 x.d)->(zbH l id b ↔ b)
 | [],_,_,_=>Iff.rfl
 | x::r,id,b,h=>by
  simp only [zbH]
  rw [zeW r id _ fun y hy=>h y (by simp [hy])]
  have:=zkT (h x (by simp))
  simp [this]
theorem zhC {p q:Done->Bool} {id:Nat}:∀ (l:List Done) (b:Option Cont),(∀ x∈l,p x=true->q x=true)->(∀ x∈l,q x=true->p x=false->id ∉ za5 x.d)->zeG (l.filter q) id b=zeG (l.filter p) id b
 | [],_,_,_=>rfl
 | x::r,b,h1,h2=>by
  have ih:=fun b=>zhC r b (fun y hy=>h1 y (by simp [hy])) (fun y hy=>h2 y (by simp [hy]))
  cases hp:p x with
  | true =>
   have hq:=h1 x (by simp) hp
   rw [List.filter_cons_of_pos hq,List.filter_cons_of_pos hp]
   exact ih _
  | false =>
   rw [List.filter_cons_of_neg (p:=p) (by simp [hp])]
   cases hq:q x with
   | true =>
    rw [List.filter_cons_of_pos hq]
    simp only [zeG]
    rw [zie (h2 x (by simp) hq hp)]
    exact ih _
   | false =>
    rw [List.filter_cons_of_neg (by simp [hq])]
    exact ih _
theorem zgx {p q:Done->Bool} {t:Nat}:∀ (l:List Done) (b:Option AV),(∀ x∈l,p x=true->q x=true)->(∀ x∈l,q x=true->p x=false->x.dst ≠ some t)->zcf (l.filter q) t b=zcf (l.filter p) t b
 | [],_,_,_=>rfl
 | x::r,b,h1,h2=>by
  have ih:=fun b=>zgx r b (fun y hy=>h1 y (by simp [hy])) (fun y hy=>h2 y (by simp [hy]))
  cases hp:p x with
  | true =>
   have hq:=h1 x (by simp) hp
   rw [List.filter_cons_of_pos hq,List.filter_cons_of_pos hp]
   exact ih _
  | false =>
   rw [List.filter_cons_of_neg (p:=p) (by simp [hp])]
   cases hq:q x with
   | true =>
    rw [List.filter_cons_of_pos hq]
    simp only [zcf]
    rw [if_neg (h2 x (by simp) hq hp)]
    exact ih _
   | false =>
    rw [List.filter_cons_of_neg (by simp [hq])]
    exact ih _
theorem zfA {p q:Done->Bool} {id:Nat}:∀ (l:List Done) (b:Prop),(∀ x∈l,p x=true->q x=true)->(∀ x∈l,q x=true->p x=false->id ∉ za5 x.d)->(zbH (l.filter q) id b ↔ zbH (l.filter p) id b)
 | [],_,_,_=>Iff.rfl
 | x::r,b,h1,h2=>by
  have ih:=fun b=>zfA r b (fun y hy=>h1 y (by simp [hy])) (fun y hy=>h2 y (by simp [hy]))
  cases hp:p x with
  | true =>
   have hq:=h1 x (by simp) hp
   rw [List.filter_cons_of_pos hq,List.filter_cons_of_pos hp]
   exact ih _
  | false =>
   rw [List.filter_cons_of_neg (p:=p) (by simp [hp])]
   cases hq:q x with
   | true =>
    rw [List.filter_cons_of_pos hq]
    simp only [zbH]
    rw [zhB (r.filter q) id (show ((id,none)∈x.d.edit \/ b) ↔ b by have:=zkT (h2 x (by simp) hq hp); simp [this])]
    exact ih _
   | false =>
    rw [List.filter_cons_of_neg (by simp [hq])]
    exact ih _
theorem Exts.late {s0 s:St} {a b:List Done} {x:Done} (hk:∀ y∈b,∀ id,id∈za5 x.d->id ∉ za5 y.d) (hd:∀ y∈b,∀ t,x.dst=some t->y.dst ≠ some t) (H:Exts s0 (a++b++[x]) s):Exts s0 (a++x::b) s:=by
 refine ⟨fun t=>?_,fun id=>?_,fun id=>?_⟩
 · rw [H.env t,zbY,zbY,zbY]
   by_cases h:x.dst=some t
   · rw [zeq b t _ fun y hy=>hd y hy t h]
     simp only [zcf]
     rw [zeq b t _ fun y hy=>hd y hy t h]
   · simp only [zcf]
     rw [if_neg h,if_neg h]
 · rw [H.mu id,zch,zch,zch]
   by_cases h:id∈za5 x.d
   · rw [zg3 b id _ fun y hy=>hk y hy id h]
     simp only [zeG]
     rw [zg3 b id _ fun y hy=>hk y hy id h]
   · simp only [zeG]
     rw [zie h,zie h]
 · rw [H.dead id,zbJ,zbJ,zbJ]
   by_cases h:id∈za5 x.d
   · simp only [zbH]
     rw [zeW b id _ fun y hy=>hk y hy id h]
     exact (zeW b id _ fun y hy=>hk y hy id h).symm
   · have:=zkT h
     simp only [zbH,this,false_or]
end Go.Proofs.YtdhkgmhdengnkaaGreatDoorPi
namespace Go.Proofs.YtdhkgmhdengnkaaGreatDoorPi
set_option linter.unusedVariables false
set_option linter.unusedSimpArgs false
open Go
section
variable {C:Ctx} {pi:(g:FuncId)->List AV->Option (C.sig g).den} {f n rid:Nat} {ms:List Nat} {s0:St}
theorem Quiet.length {i:Nat} {l:List Oper} {acc more:List Done} (h:Quiet pi f n rid ms s0 i l acc more):more.length=l.length:=by
 induction h with
 | nil=>rfl
 | cons _ _ ih=>simp [ih]
theorem Quiet.at {i:Nat} {l:List Oper} {acc more:List Done} (h:Quiet pi f n rid ms s0 i l acc more):∀ (k:Nat) (o:Oper),l[k]? = some o ->
    ∃ x,more[k]? = some x/\One pi f n rid ms s0 (i+k) o (acc++more.take k) x:=by
 induction h with
 | nil=>intro k o h; simp at h
 | cons h1 _ ih =>
  intro k o hk
  cases k with
  | zero =>
   simp at hk
   subst hk
   exact ⟨_,rfl,by simpa using h1⟩
  | succ k =>
   obtain ⟨x,h3,h4⟩:=ih k o (by simpa using hk)
   refine ⟨x,by simpa using h3,?_⟩
   rw [List.take_succ_cons]
   rename_i i0 o0 l0 acc0 x0 more0 _
   have:i0+(k+1)=i0+1+k:=by omega
   rw [this]
   simpa using h4
end
def zgy (acc:List Nat) (o:Oper):Nat:=o.after.toList.foldl (fun s e=>bif zb5 e && Nat.blt e.on acc.length then Nat.lor (Nat.lor s (2 ^ e.on)) (acc.getD e.on 0) else s) 0
theorem zfg (acc:List Nat) (o:Oper) (r:List Oper):zbg acc (o::r)=zbg (acc++[zgy acc o]) r:=rfl
theorem ziX:∀ (l:List Oper) (acc:List Nat),∃ t,zbg acc l=acc++t/\t.length=l.length
 | [],acc=>⟨[],by simp [zbg],rfl⟩
 | o::r,acc=>by
  obtain ⟨t,h1,h2⟩:=ziX r (acc++[zgy acc o])
  exact ⟨zgy acc o::t,by rw [zfg,h1]; simp,by simp [h2]⟩
theorem zn4:∀ (l:List Oper) (acc:List Nat) (k:Nat) (o:Oper),l[k]? = some o->(zbg acc l).getD (acc.length+k) 0=zgy ((zbg acc l).take (acc.length+k)) o
 | [],acc,k,o,h=>by simp at h
 | o' :: r,acc,0,o,h=>by
  simp at h
  subst h
  obtain ⟨t,h1,_⟩:=ziX r (acc++[zgy acc o'])
  rw [zfg,h1]
  simp
 | o' :: r,acc,k+1,o,h=>by
  have:=zn4 r (acc++[zgy acc o']) k o (by simpa using h)
  rw [zfg]
  have e:acc.length+(k+1)=(acc++[zgy acc o']).length+k:=by simp; omega
  rw [e]
  exact this
theorem zl1 (acc:List Nat) (j:Nat):∀ (es:List Edge) (s:Nat),Nat.testBit (es.foldl (fun s e=>bif zb5 e && Nat.blt e.on acc.length then Nat.lor (Nat.lor s (2 ^ e.on)) (acc.getD e.on 0) else s) s) j=true ->
    Nat.testBit s j=true \/ ∃ e∈es,zb5 e=true/\e.on < acc.length/\(j=e.on \/ Nat.testBit (acc.getD e.on 0) j=true)
 | [],s,h=>.inl h
 | e::es,s,h=>by
  simp only [List.foldl_cons] at h
  rcases zl1 acc j es _ h with h1 | ⟨e',h1,h2⟩
  · cases hb:(zb5 e && Nat.blt e.on acc.length) with
    | false=>rw [hb] at h1; exact .inl h1
    | true =>
     rw [hb] at h1
     rw [Bool.and_eq_true] at hb
     have h1':Nat.testBit ((s ||| 2 ^ e.on) ||| acc.getD e.on 0) j=true:=h1
     rw [Nat.testBit_or,Nat.testBit_or,Bool.or_eq_true,Bool.or_eq_true] at h1'
     rcases h1' with (h3 | h3) | h3
     · exact .inl h3
     · rw [Nat.testBit_two_pow] at h3
       exact .inr ⟨e,by simp,hb.1,ziJ hb.2,.inl (by simpa using (of_decide_eq_true h3).symm)⟩
     · exact .inr ⟨e,by simp,hb.1,ziJ hb.2,.inr h3⟩
  · exact .inr ⟨e',by simp [h1],h2⟩
theorem zl2 {ops:List Oper} {i j:Nat} {o:Oper} (hi:ops[i]? = some o) (h:Nat.testBit ((zbg [] ops).getD i 0) j=true) :
    ∃ e∈o.after.toList,zb5 e=true/\e.on < i/\(j=e.on \/ Nat.testBit ((zbg [] ops).getD e.on 0) j=true):=by
 have h1:=zn4 ops [] i o hi
 simp only [List.length_nil,Nat.zero_add] at h1
 rw [h1] at h
 obtain ⟨t,h2,h3⟩:=ziX ops []
 have hlen:(zbg [] ops).length=ops.length:=by rw [h2]; simpa using h3
 have hlt:i < ops.length:=by
  rcases Nat.lt_or_ge i ops.length with h | h
  · exact h
  · rw [List.getElem?_eq_none h] at hi; cases hi
 rcases zl1 _ j _ _ h with h4 | ⟨e,h4,h5,h6,h7⟩
 · simp at h4
 · have h6':e.on < i:=by
    rw [List.length_take,hlen] at h6
    omega
   refine ⟨e,h4,h5,h6',?_⟩
   rcases h7 with h7 | h7
   · exact .inl h7
   · right
     have:((zbg [] ops).take i).getD e.on 0=(zbg [] ops).getD e.on 0:=by
      simp [List.getD_eq_getElem?_getD,List.getElem?_take,h6']
     rw [this] at h7
     exact h7
theorem zkl (e:Edge):Region.binds .any e=zb5 e:=by
 unfold Region.binds zb5
 split <;> simp_all
end Go.Proofs.YtdhkgmhdengnkaaGreatDoorPi
namespace Go.Proofs.YtdhkgmhdengnkaaGreatDoorPi
set_option linter.unusedVariables false
set_option linter.unusedSimpArgs false
open Go
section
variable {B:Base} {P:Program} {n:Nat}
theorem MInv.same {mu mu':List (Nat×Cont)} {dead dead':List Nat} {ρ:Nat->Option RI} {w:World} (H:MInv B (zaa mu) dead ρ w) (h1:∀ id,zaa mu' id=zaa mu id) (h2:∀ id,id∈dead' ↔ id∈dead) :
    MInv B (zaa mu') dead' ρ w:=by
 have e:zaa mu'=zaa mu:=funext h1
 rw [e]
 exact ⟨H.cont,fun id i h=>(H.dom id i h).imp (fun h=>h) (h2 id).2,H.sep,H.own,H.lt,H.new,H.ext,H.rd⟩
theorem StR.same {s s':St} {ρ:Nat->Option RI} {a:Act} {w:World} (H:StR B n s ρ a w) (h0:∀ t,zaa s'.env t=zaa s.env t) (h1:∀ id,zaa s'.mu id=zaa s.mu id) (h2:∀ id,id∈s'.dead ↔ id∈s.dead):StR B n s' ρ a w:=by
 have e:zaa s'.mu=zaa s.mu:=funext h1
 refine ⟨H.inv.same h1 h2,?_,fun id hi hm=>H.pin id hi (by rw [<- h1 id]; exact hm)⟩
 rw [e]
 exact ⟨H.env.size,H.env.dfs,fun t v hv=>H.env.val t v (by rw [<- h0 t]; exact hv)⟩
theorem StR.exts {s0 s s':St} {l:List Done} {ρ:Nat->Option RI} {a:Act} {w:World} (H:StR B n s ρ a w) (h:Exts s0 l s) (h':Exts s0 l s'):StR B n s' ρ a w :=
 H.same (fun t=>by rw [h.env,h'.env]) (fun id=>by rw [h.mu,h'.mu]) (fun id=>by rw [h.dead,h'.dead])
theorem zn5:∀ {l:List Done} {j:Nat} {v:AV},zcK j l=some v->∃ x∈l,x.i=j/\x.d.val=v
 | [],j,v,h=>by simp [zcK] at h
 | x::r,j,v,h=>by
  simp only [zcK] at h
  cases hb:Nat.beq x.i j with
  | true =>
   rw [hb] at h
   exact ⟨x,by simp,Nat.eq_of_beq_eq_true hb,Option.some.inj h⟩
  | false =>
   rw [hb] at h
   obtain ⟨y,h1,h2,h3⟩:=zn5 (show zcK j r=some v from h)
   exact ⟨y,by simp [h1],h2,h3⟩
theorem zfR {x:Done} {t:Nat} (ht:x.dst=some t):∀ {l:List Done} {b:Option AV},x∈l->(∀ y∈l,y.dst=some t->y.d.val=x.d.val)->zcf l t b=some x.d.val
 | [],b,h,_=>by simp at h
 | y::r,b,h,hu=>by
  simp only [zcf]
  by_cases hr:x∈r
  · exact zfR ht hr fun z hz=>hu z (by simp [hz])
  · have hy:x=y:=by
     rcases List.mem_cons.1 h with h | h
     · exact h
     · exact absurd h hr
    subst hy
    rw [if_pos ht]
    by_cases hz:∃ z∈r,z.dst=some t
    · obtain ⟨z,hz1,hz2⟩:=hz
      have:=zfR (x:=z) (b:=some x.d.val) hz2 hz1 fun y hy e=>by rw [hu y (by simp [hy]) e,hu z (by simp [hz1]) hz2]
      rw [this,hu z (by simp [hz1]) hz2]
    · exact zeq r t _ fun z hz' e=>hz ⟨z,hz',e⟩
end
end Go.Proofs.YtdhkgmhdengnkaaGreatDoorPi
namespace Go.Proofs.YtdhkgmhdengnkaaGreatDoorPi
set_option linter.unusedVariables false
set_option linter.unusedSimpArgs false
open Go
theorem zl3 {a b:List Nat} (h:zoG a b=false) {id:Nat} (ha:id∈a):id ∉ b:=zlX h ha
theorem zfS {m:Nat} {d:zbl} {ids:List Nat}:∀ {acc:List Done},zdd m d ids acc=true->∀ y∈acc,Nat.testBit m y.i=false ->
    (∀ id∈za5 y.d,id ∉ ids) /\ ∀ id∈za5 d,id ∉ za5 y.d/\id ∉ y.ids
 | [],_,y,hy,_=>by simp at hy
 | x::r,h,y,hy,hm=>by
  simp only [zdd,Bool.and_eq_true,Bool.or_eq_true] at h
  rcases List.mem_cons.1 hy with e | hy
  · subst e
    rcases h.1 with h1 | h1
    · rw [hm] at h1; cases h1
    · rw [Bool.not_eq_true',Bool.or_eq_false_iff] at h1
      refine ⟨fun id hid=>zl3 h1.2 hid,fun id hid=>?_⟩
      have:=zl3 h1.1 hid
      rw [List.mem_append,not_or] at this
      exact ⟨this.2,this.1⟩
  · exact zfS h.2 y hy hm
section
variable {C:Ctx} {pi:(g:FuncId)->List AV->Option (C.sig g).den} {f n rid:Nat} {ms:List Nat} {s0:St}
theorem One.apart {i k:Nat} {o o':Oper} {acc acc':List Done} {x y:Done} (hx:One pi f n rid ms s0 i o acc x) (hy:One pi f n rid ms s0 k o' acc' y)
    (h:(y∈acc/\Nat.testBit (ms.getD i 0) k=false) \/ (x∈acc' /\ Nat.testBit (ms.getD k 0) i=false)) :
    (∀ id∈za5 y.d,id ∉ x.ids/\id ∉ za5 x.d):=by
 intro id hid
 rcases h with ⟨h1,h2⟩ | ⟨h1,h2⟩
 · rcases hx.how with ⟨_,s,vs,_,_,_,_,_,_,hf⟩ | ⟨_,h3,h4⟩
   · have:=zfS hf y h1 (by rw [hy.num]; exact h2)
     exact ⟨this.1 id hid,fun hk=>(this.2 id hk).1 hid⟩
   · rw [h3,h4]
     simp [za5]
 · rcases hy.how with ⟨_,s,vs,_,_,_,_,_,_,hf⟩ | ⟨_,h3,h4⟩
   · have:=zfS hf x h1 (by rw [hx.num]; exact h2)
     exact ⟨(this.2 id hid).2,(this.2 id hid).1⟩
   · rw [h3] at hid
     simp [za5] at hid
end
end Go.Proofs.YtdhkgmhdengnkaaGreatDoorPi
namespace Go.Proofs.YtdhkgmhdengnkaaGreatDoorPi
set_option linter.unusedVariables false
set_option linter.unusedSimpArgs false
open Go
def inL (L:Nat->Bool) (x:Done):Bool:=L x.i
structure Found (B:Base) (pi:(g:FuncId)->List AV->Option (B.C.sig g).den) (f n rid:Nat) (ops:Array Oper) (s0:St) (acc:List Done):Prop where
 len:acc.length=ops.size
 one:∀ i o,ops[i]? = some o->∃ x,acc[i]? = some x/\One pi f n rid (zbg [] ops.toList) s0 i o (acc.take i) x
 ok:zkc n (zbg [] ops.toList) ops.toList=true
section
variable {B:Base} {pi:(g:FuncId)->List AV->Option (B.C.sig g).den} {f n rid:Nat} {ops:Array Oper} {s0:St} {acc:List Done}
theorem Found.num (F:Found B pi f n rid ops s0 acc) {i:Nat} {x:Done} (h:acc[i]? = some x):x.i=i /\ ∃ o,ops[i]? = some o/\One pi f n rid (zbg [] ops.toList) s0 i o (acc.take i) x:=by
 have hlt:i < ops.size:=by
  rw [<- F.len]
  exact (List.getElem?_eq_some_iff.1 h).1
 have ho:ops[i]? = some ops[i]:=by simp [hlt]
 obtain ⟨x',h1,h2⟩:=F.one i _ ho
 rw [h] at h1
 cases h1
 exact ⟨h2.num,_,ho,h2⟩
theorem Found.mem (F:Found B pi f n rid ops s0 acc) {x:Done} (h:x∈acc):acc[x.i]? = some x:=by
 obtain ⟨k,hk⟩:=List.mem_iff_getElem?.1 h
 have:=(F.num hk).1
 rw [this]; exact hk
theorem Found.free (F:Found B pi f n rid ops s0 acc) {L:Nat->Bool} {i:Nat} {x:Done} (hi:acc[i]? = some x) (hL:L i=false)
    (down:∀ k j,L k=true->Nat.testBit ((zbg [] ops.toList).getD k 0) j=true->L j=true) {y:Done} (hy:y∈acc) (hyL:L y.i=true) (hm:Nat.testBit ((zbg [] ops.toList).getD i 0) y.i=false) :
    ∀ id∈za5 y.d,id ∉ x.ids/\id ∉ za5 x.d:=by
 have hk:=F.mem hy
 obtain ⟨hxi,o,ho,hx⟩:=F.num hi
 obtain ⟨_,o',ho',hy'⟩:=F.num hk
 have hne:y.i ≠ i:=by intro e; rw [e,hL] at hyL; cases hyL
 refine One.apart hx hy' ?_
 rcases Nat.lt_or_gt_of_ne hne with h | h
 · left
   refine ⟨List.mem_iff_getElem?.2 ⟨y.i,?_⟩,hm⟩
   rw [List.getElem?_take,if_pos h]; exact hk
 · right
   refine ⟨List.mem_iff_getElem?.2 ⟨i,?_⟩,?_⟩
   · rw [List.getElem?_take,if_pos h]; exact hi
   · cases hb:Nat.testBit ((zbg [] ops.toList).getD y.i 0) i with
     | false=>rfl
     | true =>
      have:=down y.i i hyL hb
      rw [hL] at this; cases this
end
end Go.Proofs.YtdhkgmhdengnkaaGreatDoorPi
namespace Go.Proofs.YtdhkgmhdengnkaaGreatDoorPi
set_option linter.unusedVariables false
set_option linter.unusedSimpArgs false
open Go
theorem zp2 {ops:List Oper}:∀ (i:Nat) {j:Nat},i < ops.length->Nat.testBit ((zbg [] ops).getD i 0) j=true->j < i:=by
 intro i
 induction i using Nat.strongRecOn with
 | _ i ih =>
  intro j hi h
  obtain ⟨e,_,_,h2,h3⟩:=zl2 (o:=ops[i]) (by simp [hi]) h
  rcases h3 with h3 | h3
  · omega
  · have:=ih e.on h2 (by omega) h3
    omega
theorem zm4 {p:Done->Bool} {i:Nat}:∀ (l:List Done),(∀ k x,l[k]? = some x->i<=k->p x=false)->(l.take i).filter p=l.filter p:=by
 intro l h
 have e:l.filter p=(l.take i++l.drop i).filter p:=by rw [List.take_append_drop]
 rw [e,List.filter_append]
 have:(l.drop i).filter p=[]:=by
  rw [List.filter_eq_nil_iff]
  intro x hx
  obtain ⟨k,hk⟩:=List.mem_iff_getElem?.1 hx
  rw [List.getElem?_drop] at hk
  simp [h _ x hk (by omega)]
 rw [this,List.append_nil]
section
variable {B:Base} {pi:(g:FuncId)->List AV->Option (B.C.sig g).den} {f n rid:Nat} {ops:Array Oper} {s0:St} {acc:List Done}
theorem Found.sees (F:Found B pi f n rid ops s0 acc) {L:Nat->Bool} {i:Nat} {x:Done} (hi:acc[i]? = some x) (hL:L i=false)
    (down:∀ k j,L k=true->Nat.testBit ((zbg [] ops.toList).getD k 0) j=true->L j=true) (hmask:∀ j,Nat.testBit ((zbg [] ops.toList).getD i 0) j=true->L j=true)
    {s sm:St} (hs:Exts s0 (acc.filter (inL L)) s) (hsm:zdc n ((acc.take i).filter fun x=>Nat.testBit ((zbg [] ops.toList).getD i 0) x.i) s0=some sm) :
    (∀ id,(id∈x.ids \/ id∈za5 x.d)->zaa s.mu id=zaa sm.mu id/\(id∈s.dead ↔ id∈sm.dead)) /\
    (∀ t,(∀ y∈acc,L y.i=true->Nat.testBit ((zbg [] ops.toList).getD i 0) y.i=false->y.dst ≠ some t)->zaa s.env t=zaa sm.env t):=by
 have hlt:i < ops.toList.length:=by
  obtain ⟨_,o,ho,_⟩:=F.num hi
  simpa using (Array.getElem?_eq_some_iff.1 ho).1
 have hft:(acc.take i).filter (fun x=>Nat.testBit ((zbg [] ops.toList).getD i 0) x.i)=acc.filter fun x=>Nat.testBit ((zbg [] ops.toList).getD i 0) x.i:=by
  refine zm4 acc fun k y hk hik=>?_
  rw [(F.num hk).1]
  cases hb:Nat.testBit ((zbg [] ops.toList).getD i 0) k with
  | false=>rfl
  | true=>have:=zp2 i hlt hb; omega
 rw [hft] at hsm
 have hE:Exts s0 (acc.filter fun x=>Nat.testBit ((zbg [] ops.toList).getD i 0) x.i) sm:=by
  have:=zfQ _ [] s0 sm (Exts.nil s0) hsm
  simpa using this
 have hpq:∀ y∈acc,Nat.testBit ((zbg [] ops.toList).getD i 0) y.i=true->inL L y=true:=fun y _ h=>hmask y.i h
 refine ⟨fun id hid=>?_,fun t ht=>?_⟩
 · have hn:∀ y∈acc,inL L y=true->Nat.testBit ((zbg [] ops.toList).getD i 0) y.i=false->id ∉ za5 y.d:=by
    intro y hy h1 h2 hk
    have:=F.free hi hL down hy h1 h2 id hk
    rcases hid with h | h
    · exact this.1 h
    · exact this.2 h
   refine ⟨?_,?_⟩
   · rw [hs.mu,hE.mu]
     exact zhC acc _ hpq hn
   · rw [hs.dead,hE.dead]
     exact zfA acc _ hpq hn
 · rw [hs.env,hE.env]
   exact zgx acc _ hpq fun y hy h1 h2=>ht y hy h1 h2
end
end Go.Proofs.YtdhkgmhdengnkaaGreatDoorPi
namespace Go.Proofs.YtdhkgmhdengnkaaGreatDoorPi
set_option linter.unusedVariables false
set_option linter.unusedSimpArgs false
open Go
theorem zd5 {env env':List (Nat×AV)}:∀ {xs:List Operand},(∀ t∈zfu xs,zaa env' t=zaa env t)->zeK env' xs=zeK env xs
 | [],_=>rfl
 | x::r,h=>by
  simp only [zeK]
  cases x with
  | tmp t =>
   have h1:opnd env' (.tmp t)=opnd env (.tmp t):=h t (by simp [zfu])
   rw [h1,zd5 fun t ht=>h t (by simp [zfu,ht])]
  | const v=>rw [show opnd env' (.const v)=opnd env (.const v) from rfl,zd5 fun t ht=>h t (by simpa [zfu] using ht)]
  | func g=>rw [show opnd env' (.func g)=opnd env (.func g) from rfl,zd5 fun t ht=>h t (by simpa [zfu] using ht)]
  | «global» g=>rw [show opnd env' (.global g)=opnd env (.global g) from rfl,zd5 fun t ht=>h t (by simpa [zfu] using ht)]
theorem zm5 {n:Nat} {s sm:St} {dst:Option Nat} {d:zbl} {s':St} (h:za4 n sm dst d=some s') (hk:∀ id∈za5 d,zaa s.mu id=zaa sm.mu id/\(id∈s.dead ↔ id∈sm.dead)) :
    ∃ s1,za4 n s dst d=some s1:=by
 unfold za4 at h ⊢
 split at h
 · rename_i mu env hmu henv
   obtain ⟨hed,hmu⟩:=zaj hmu
   have hed1:zlx s.mu d.edit=true:=by
    unfold zlx at hed ⊢
    rw [List.all_eq_true] at hed ⊢
    intro x hx
    have:=hed x hx
    rw [(hk x.1 (List.mem_append_left _ (List.mem_map.2 ⟨x,hx,rfl⟩))).1]
    exact this
   obtain ⟨_,h2,h3⟩:=zcD _ _ _ _ hmu
   obtain ⟨mu1,hmu1⟩:=zhA d.add (zbX d.edit s.dead) (zab s.mu d.edit) h2 (by
    intro id hid
    obtain ⟨h4,h5⟩:=h3 id hid
    obtain ⟨k1,k2⟩:=hk id (List.mem_append_right _ hid)
    rw [zc9] at h4 ⊢
    rw [zcg] at h5 ⊢
    rw [k1,k2]
    exact ⟨h4,h5⟩) (zeP hmu)
   have:∃ env1,zds n s.env dst d.val=some env1:=by
    unfold zds at henv ⊢
    cases dst with
    | none=>exact ⟨_,rfl⟩
    | some t =>
     obtain ⟨hb,_⟩:=zaj henv
     dsimp only
     rw [hb]
     exact ⟨_,rfl⟩
   obtain ⟨env1,henv1⟩:=this
   rw [hed1,cond_true,hmu1,henv1]
   exact ⟨_,rfl⟩
 · cases h
section
variable {B:Base} {pi:(g:FuncId)->List AV->Option (B.C.sig g).den} {f n rid:Nat} {ops:Array Oper} {s0:St} {acc:List Done}
theorem zhD {ms:List Nat} {all:List Oper}:∀ (l:List Oper) (i:Nat),zeN ms all i l=true->∀ k o d,l[k]? = some o->o.dst=some d->∀ j o',all[j]? = some o'->i+k ≠ j ->
    Nat.testBit (ms.getD j 0) (i+k)=false->Nat.testBit (ms.getD (i+k) 0) j=false->d ∉ zgN all o'
 | [],i,_,k,o,d,h,_,_,_,_,_,_,_=>by simp at h
 | o1::r,i,hok,0,o,d,h,hd,j,o',hj,hne,h1,h2=>by
  simp at h
  subst h
  simp only [zeN,Bool.and_eq_true] at hok
  have hk:=hok.1
  rw [hd] at hk
  dsimp only at hk
  rw [List.all_eq_true] at hk
  have:=hk (o',j) (by
   rw [List.mem_iff_getElem?]
   exact ⟨j,by rw [List.getElem?_zipIdx,hj]; simp⟩)
  simp only [Nat.add_zero] at hne h1 h2
  dsimp only at this
  rw [zlH hne,h1,h2] at this
  simp only [Bool.false_or,Bool.not_eq_true'] at this
  exact zd2 this
 | o1::r,i,hok,k+1,o,d,h,hd,j,o',hj,hne,h1,h2=>by
  simp only [zeN,Bool.and_eq_true] at hok
  have e:i+(k+1)=i+1+k:=by omega
  rw [e] at hne h1 h2
  exact zhD r (i+1) hok.2 k o d (by simpa using h) hd j o' hj hne h1 h2
end
end Go.Proofs.YtdhkgmhdengnkaaGreatDoorPi
namespace Go.Proofs.YtdhkgmhdengnkaaGreatDoorPi
set_option linter.unusedVariables false
set_option linter.unusedSimpArgs false
open Go
section
variable {B:Base} {P:Program} {pi:(g:FuncId)->List AV->Option (B.C.sig g).den} {f n rid:Nat} {ops:Array Oper} {s0:St} {acc:List Done}
theorem Found.parts (F:Found B pi f n rid ops s0 acc):zeN (zbg [] ops.toList) ops.toList 0 ops.toList=true/\zkb 0 ops.toList=true/\(zlA ops.toList).Nodup /\
    (∀ o∈ops.toList,∀ j want,o.guard=some (j,want)->∃ d,zmR ops.toList j=some d):=by
 have h:=F.ok
 unfold zkc at h
 simp only [Bool.and_eq_true] at h
 obtain ⟨⟨⟨⟨h1,h2⟩,h3⟩,_⟩,h5⟩:=h
 refine ⟨h1,h2,zb6 h3,fun o ho j want hg=>?_⟩
 have:=List.all_eq_true.1 h5 o ho
 rw [hg] at this
 exact Option.isSome_iff_exists.1 this
theorem zgz {α:Type} {g:α->Option Nat}:∀ {l:List α},(l.filterMap g).Nodup->∀ {i j:Nat} {x y:α} {d:Nat},l[i]? = some x->l[j]? = some y->g x=some d->g y=some d->i=j
 | [],_,_,_,_,_,_,h,_,_,_=>by simp at h
 | a::l,hn,i,j,x,y,d,hi,hj,hx,hy=>by
  have tl:(l.filterMap g).Nodup:=by
   cases ha:g a with
   | none=>rw [List.filterMap_cons_none ha] at hn; exact hn
   | some b=>rw [List.filterMap_cons_some ha,List.nodup_cons] at hn; exact hn.2
  have no:∀ {k:Nat} {z:α},l[k]? = some z->g z=some d->g a=some d->False:=by
   intro k z hk hz ha
   rw [List.filterMap_cons_some ha,List.nodup_cons] at hn
   exact hn.1 (List.mem_filterMap.2 ⟨z,List.mem_iff_getElem?.2 ⟨k,hk⟩,hz⟩)
  cases i with
  | zero =>
   cases j with
   | zero=>rfl
   | succ j =>
    simp at hi hj
    subst hi
    exact (no hj hy hx).elim
  | succ i =>
   cases j with
   | zero =>
    simp at hi hj
    subst hj
    exact (no hi hx hy).elim
   | succ j =>
    have:=zgz tl (by simpa using hi) (by simpa using hj) hx hy
    omega
theorem Found.dst_inj (F:Found B pi f n rid ops s0 acc) {x y:Done} (hx:x∈acc) (hy:y∈acc) {t:Nat} (h1:x.dst=some t) (h2:y.dst=some t):x=y:=by
 have ex:=F.mem hx
 have ey:=F.mem hy
 obtain ⟨_,o,ho,h3⟩:=F.num ex
 obtain ⟨_,o',ho',h4⟩:=F.num ey
 have:x.i=y.i:=zgz (g:=fun o:Oper=>o.dst) (l:=ops.toList) F.parts.2.2.1 (by rw [Array.getElem?_toList]; exact ho) (by rw [Array.getElem?_toList]; exact ho') (by rw [<- h3.dest]; exact h1) (by rw [<- h4.dest]; exact h2)
 rw [this,ey] at ex
 exact (Option.some.inj ex).symm
end
end Go.Proofs.YtdhkgmhdengnkaaGreatDoorPi
namespace Go.Proofs.YtdhkgmhdengnkaaGreatDoorPi
set_option linter.unusedVariables false
set_option linter.unusedSimpArgs false
open Go
section
variable {B:Base} {P:Program} {pi:(g:FuncId)->List AV->Option (B.C.sig g).den} {f n rid:Nat} {ops:Array Oper} {s0:St} {acc:List Done}
theorem zl4 {L:Nat->Bool} {i:Nat} {x:Done} (F:Found B pi f n rid ops s0 acc) (hi:acc[i]? = some x) (hL:L i=false) :
    acc.filter (inL fun k=>L k || k == i)=(acc.take i).filter (inL L)++x::(acc.drop (i+1)).filter (inL L)/\acc.filter (inL L)=(acc.take i).filter (inL L)++(acc.drop (i+1)).filter (inL L):=by
 have hx:=(F.num hi).1
 have hlt:=(List.getElem?_eq_some_iff.1 hi).1
 have hacc:acc=acc.take i++x::acc.drop (i+1):=by
  have h1:acc.drop i=x::acc.drop (i+1):=by
   rw [List.drop_eq_getElem_cons hlt]
   congr 1
   exact (List.getElem?_eq_some_iff.1 hi).2
  rw [<- h1,List.take_append_drop]
 have hpre:∀ y∈acc.take i,(y.i == i)=false:=by
  intro y hy
  obtain ⟨k,hk⟩:=List.mem_iff_getElem?.1 hy
  rw [List.getElem?_take] at hk
  split at hk
  · rw [(F.num hk).1]; simp; omega
  · cases hk
 have hpost:∀ y∈acc.drop (i+1),(y.i == i)=false:=by
  intro y hy
  obtain ⟨k,hk⟩:=List.mem_iff_getElem?.1 hy
  rw [List.getElem?_drop] at hk
  rw [(F.num hk).1]; simp; omega
 have same:∀ l:List Done,(∀ y∈l,(y.i == i)=false)->l.filter (inL fun k=>L k || k == i)=l.filter (inL L):=by
  intro l hl
  apply List.filter_congr
  intro y hy
  simp only [inL,hl y hy,Bool.or_false]
 constructor
 · conv=>lhs; rw [hacc]
   rw [List.filter_append,List.filter_cons_of_pos (by simp [inL,hx]),same _ hpre,same _ hpost]
 · conv=>lhs; rw [hacc]
   rw [List.filter_append,List.filter_cons_of_neg (by simp [inL,hx,hL])]
theorem Found.more (F:Found B pi f n rid ops s0 acc) {L:Nat->Bool} {i:Nat} {x:Done} (hi:acc[i]? = some x) (hL:L i=false)
    (down:∀ k j,L k=true->Nat.testBit ((zbg [] ops.toList).getD k 0) j=true->L j=true) {s s1:St} (hs:Exts s0 (acc.filter (inL L)) s) (h:za4 n s x.dst x.d=some s1) :
    Exts s0 (acc.filter (inL fun k=>L k || k == i)) s1:=by
 obtain ⟨e1,e2⟩:=zl4 F hi hL
 have h1:=hs.step h
 rw [e2] at h1
 rw [e1]
 have hxm:x∈acc:=List.mem_iff_getElem?.2 ⟨i,hi⟩
 have post:∀ y∈(acc.drop (i+1)).filter (inL L),y∈acc/\L y.i=true/\i < y.i:=by
  intro y hy
  obtain ⟨h2,h3⟩:=List.mem_filter.1 hy
  obtain ⟨k,hk⟩:=List.mem_iff_getElem?.1 h2
  rw [List.getElem?_drop] at hk
  refine ⟨List.mem_of_mem_drop h2,h3,?_⟩
  rw [(F.num hk).1]; omega
 have hlt:i < ops.toList.length:=by
  obtain ⟨_,o,ho,_⟩:=F.num hi
  simpa using (Array.getElem?_eq_some_iff.1 ho).1
 refine Exts.late (fun y hy id hx hk=>?_) (fun y hy t h2 h3=>?_) h1
 · obtain ⟨h2,h3,h4⟩:=post y hy
   have hm:Nat.testBit ((zbg [] ops.toList).getD i 0) y.i=false:=by
    cases hb:Nat.testBit ((zbg [] ops.toList).getD i 0) y.i with
    | false=>rfl
    | true=>have:=zp2 i hlt hb; omega
   exact (F.free hi hL down h2 h3 hm id hk).2 hx
 · obtain ⟨h4,h5,h6⟩:=post y hy
   have:=F.dst_inj hxm h4 h2 h3
   have hxi:=(F.num hi).1
   rw [<- this,hxi] at h6
   omega
end
end Go.Proofs.YtdhkgmhdengnkaaGreatDoorPi
namespace Go.Proofs.YtdhkgmhdengnkaaGreatDoorPi
set_option linter.unusedVariables false
set_option linter.unusedSimpArgs false
open Go
section
variable {B:Base} {P:Program} {pi:(g:FuncId)->List AV->Option (B.C.sig g).den} {f n rid:Nat} {ops:Array Oper} {s0:St} {acc:List Done}
theorem Found.guard (F:Found B pi f n rid ops s0 acc) {L:Nat->Bool} {i j:Nat} {o:Oper} {want:Bool} (ho:ops[i]? = some o) (hg:o.guard=some (j,want)) (hLj:L j=true)
    {s:St} (hs:Exts s0 (acc.filter (inL L)) s) {v:AV} (hv:zcK j (acc.take i)=some v):∃ d,(ops[j]?).bind (·.dst)=some d/\zaa s.env d=some v:=by
 obtain ⟨d,hd⟩:=F.parts.2.2.2 o (by rw [List.mem_iff_getElem?]; exact ⟨i,by rw [Array.getElem?_toList]; exact ho⟩) j want hg
 have hy:(ops[j]?).bind (·.dst)=some d:=by
  unfold zmR at hd
  rw [Array.getElem?_toList] at hd
  split at hd
  · rename_i o' ho'
    rw [ho']; exact hd
  · cases hd
 refine ⟨d,hy,?_⟩
 obtain ⟨y,h1,h2,h3⟩:=zn5 hv
 have hya:y∈acc:=List.mem_of_mem_take h1
 have hyd:y.dst=some d:=by
  obtain ⟨_,o',ho',h4⟩:=F.num (F.mem hya)
  rw [h2] at ho'
  rw [ho'] at hy
  rw [h4.dest]; exact hy
 rw [hs.env,zfR hyd (List.mem_filter.2 ⟨hya,by simp only [inL,h2]; exact hLj⟩) fun z hz e=>by rw [F.dst_inj (List.mem_filter.1 hz).1 hya e hyd],h3]
theorem Found.step (hstep:ziS P B pi f n) (F:Found B pi f n rid ops s0 acc) {L:Nat->Bool} {i:Nat} {o:Oper} (ho:ops[i]? = some o) (hL:L i=false)
    (down:∀ k j,L k=true->Nat.testBit ((zbg [] ops.toList).getD k 0) j=true->L j=true) (hmask:∀ j,Nat.testBit ((zbg [] ops.toList).getD i 0) j=true->L j=true)
    {s:St} {ρ:Nat->Option RI} {a:Act} {w:World} (hs:Exts s0 (acc.filter (inL L)) s) (H:StR B n s ρ a w) {K:Act->World->Prop} {Q:Exit->Act->World->Prop}
    (hn:∀ d,o.dst=some d->d < n)
    (hK:∀ s1 ρ1 a1 w1,StR B n s1 ρ1 a1 w1->Exts s0 (acc.filter (inL fun k=>L k || k == i)) s1->K a1 w1):wpOp P ops Q i K a w:=by
 obtain ⟨x,hi,hx⟩:=F.one i o ho
 unfold wpOp
 simp only [ho]
 have hnum:=hx.num
 rcases hx.how with ⟨hg,sm,vs,hsm,hvs,hids,hpres,hd,⟨sm',hsm'⟩,hfree⟩ | ⟨⟨j,want,hg,hbit,hval⟩,hxd,hxi⟩
 · have hw:Region.wanted o (yielded ops a.tmps)=true:=by
    rcases hg with hg | ⟨j,want,hg,hbit,hval⟩
    · simp [Region.wanted,hg]
    · obtain ⟨d,h1,h2⟩:=F.guard ho hg (hmask j hbit) hs hval
      have hv:=H.env.val d _ h2
      have hv':a.eval (.tmp d) = .bool want:=by
       have h':CR (B.sit (zaa s.mu) ρ w) (.bool want) (a.eval (.tmp d)):=hv
       simpa only [CR] using h'
      have hyb:yielded ops a.tmps j=some want:=by
       unfold yielded
       rw [h1]
       simp only [Act.eval,Array.getD_eq_getD_getElem?] at hv'
       cases ht:a.tmps[d]? with
       | none=>rw [ht] at hv'; cases hv'
       | some u =>
        rw [ht] at hv'
        simp only [Option.getD_some] at hv'
        subst hv'
        simp [ht]
      simp [Region.wanted,hg,hyb]
   rw [if_pos hw]
   left
   obtain ⟨s1,s2⟩:=F.sees hi hL down hmask hs hsm
   have hreads:∀ t∈zfu o.op.operands.toList,zaa s.env t=zaa sm.env t:=by
    intro t ht
    refine s2 t fun y hy hLy hby e=>?_
    obtain ⟨_,o',ho',hy'⟩:=F.num (F.mem hy)
    refine zhD ops.toList 0 F.parts.1 y.i o' t (by rw [Array.getElem?_toList]; exact ho') (by rw [<- hy'.dest]; exact e) i o (by rw [Array.getElem?_toList]; exact ho) ?_ ?_ ?_ (List.mem_append_left _ ht)
    · intro e2
      rw [Nat.zero_add] at e2
      rw [e2,hL] at hLy; cases hLy
    · rw [Nat.zero_add]; exact hby
    · rw [Nat.zero_add]
      cases hb:Nat.testBit ((zbg [] ops.toList).getD y.i 0) i with
      | false=>rfl
      | true=>have:=down y.i i hLy hb; rw [hL] at this; cases this
   have hvs':zeK s.env o.op.operands.toList=some vs:=(zd5 hreads).trans hvs
   have hev:evD B.C f (rid*1000+i) o vs (zaa s.mu)=evD B.C f (rid*1000+i) o vs (zaa sm.mu) :=
    zoO fun id hid=>(s1 id (.inl (by rw [hids]; exact hid))).1
   obtain ⟨s',hs'⟩:=zm5 (s:=s) hsm' fun id hid=>s1 id (.inr hid)
   refine hstep _ o s ρ a w vs x.d H hvs' (by rw [hev]; exact hd) _ _ fun v w' hod=>?_
   obtain ⟨ρ',H'⟩:=zhx H hs' hod
   exact hK _ _ _ _ H' (F.more hi hL down hs (by rw [hx.dest]; exact hs'))
 · have hw:Region.wanted o (yielded ops a.tmps)=false:=by
    rcases hval with hval | hval
    · obtain ⟨d,h1,h2⟩:=F.guard ho hg (hmask j hbit) hs hval
      have hv:=H.env.val d _ h2
      have hv':a.eval (.tmp d) = .bool !want:=by
       have h':CR (B.sit (zaa s.mu) ρ w) (.bool !want) (a.eval (.tmp d)):=hv
       simpa only [CR] using h'
      have hyb:yielded ops a.tmps j=some !want:=by
       unfold yielded
       rw [h1]
       simp only [Act.eval,Array.getD_eq_getD_getElem?] at hv'
       cases ht:a.tmps[d]? with
       | none=>rw [ht] at hv'; cases hv'
       | some u =>
        rw [ht] at hv'
        simp only [Option.getD_some] at hv'
        subst hv'
        simp [ht]
      simp [Region.wanted,hg,hyb]
    · obtain ⟨d,h1,h2⟩:=F.guard ho hg (hmask j hbit) hs hval
      have hv:=H.env.val d _ h2
      have hyb:yielded ops a.tmps j=none:=by
       unfold yielded
       rw [h1]
       obtain ⟨us,e,e2⟩ : AR (B.sit (zaa s.mu) ρ w) (.tup []) (a.eval (.tmp d)):=hv
       simp only [Act.eval,Array.getD_eq_getD_getElem?] at e
       cases ht:a.tmps[d]? with
       | none=>simp [ht]
       | some u =>
        rw [ht] at e
        simp only [Option.getD_some] at e
        subst e
        simp [ht]
      simp [Region.wanted,hg,hyb]
   rw [hw,if_neg (by decide)]
   have hput:∃ env,zds n s.env o.dst (.tup [])=some env:=by
    unfold zds
    cases hd:o.dst with
    | none=>exact ⟨_,rfl⟩
    | some d =>
     have hb:Nat.blt d n=true:=Nat.ble_eq_true_of_le (hn d hd)
     dsimp only
     rw [hb]
     exact ⟨_,rfl⟩
   obtain ⟨env,henv⟩:=hput
   refine hK ⟨env,s.mu,s.dead⟩ ρ _ w ⟨H.inv,ziK H.env henv zn0,H.pin⟩ (F.more hi hL down hs ?_)
   rw [hx.dest,hxd]
   simp only [za4,zlx,List.all_nil,cond_true,zab,zaR,zbX,henv]
end
end Go.Proofs.YtdhkgmhdengnkaaGreatDoorPi
namespace Go.Proofs.YtdhkgmhdengnkaaGreatDoorPi
set_option linter.unusedVariables false
set_option linter.unusedSimpArgs false
open Go
section
variable {B:Base} {P:Program} {pi:(g:FuncId)->List AV->Option (B.C.sig g).den} {f n rid:Nat} {ops:Array Oper} {s0:St} {acc:List Done}
theorem ziY:∀ (l:List Oper) (i:Nat),zkb i l=true->∀ k o,l[k]? = some o->∀ e∈o.after.toList,zb5 e=true->e.on < i+k
 | [],i,_,k,o,h,_,_,_=>by simp at h
 | o1::r,i,hok,k,o,h,e,he,hb=>by
  simp only [zkb,Bool.and_eq_true] at hok
  cases k with
  | zero =>
   simp at h
   subst h
   have:=List.all_eq_true.1 hok.1 e he
   rw [hb] at this
   simp only [Bool.not_true,Bool.false_or] at this
   have:=ziJ this
   omega
  | succ k =>
   have:=ziY r (i+1) hok.2 k o (by simpa using h) e he hb
   omega
theorem Found.ready (F:Found B pi f n rid ops s0 acc) {listed:Array Bool} (hsz:listed.size=ops.size) (h:Region.ready .any ops listed=[]):∀ i,i < ops.size->listed.getD i true=true:=by
 intro i
 induction i using Nat.strongRecOn with
 | _ i ih =>
  intro hi
  cases hb:listed.getD i true with
  | true=>rfl
  | false =>
   have:i∈Region.ready .any ops listed:=by
    rw [mem_ready]
    refine ⟨hb,ops[i],by simp [hi],fun e he hbd=>?_⟩
    rw [zkl] at hbd
    have hlt:=ziY ops.toList 0 F.parts.2.1 i ops[i] (by rw [Array.getElem?_toList]; simp [hi]) e (by simpa using he) hbd
    have:=ih e.on (by omega) (by omega)
    have hlt2:e.on < listed.size:=by omega
    simpa [Array.getD,hlt2] using this
   rw [h] at this
   cases this
end
end Go.Proofs.YtdhkgmhdengnkaaGreatDoorPi
namespace Go.Proofs.YtdhkgmhdengnkaaGreatDoorPi
set_option linter.unusedVariables false
set_option linter.unusedSimpArgs false
open Go
section
variable {B:Base} {P:Program} {pi:(g:FuncId)->List AV->Option (B.C.sig g).den} {f n rid:Nat} {ops:Array Oper} {s0:St} {acc:List Done}
theorem zl5:∀ (l:List Bool) (i:Nat),l[i]? = some false->(l.set i true).count false+1=l.count false
 | [],i,h=>by simp at h
 | b::r,0,h=>by
  simp at h
  subst h
  simp
 | b::r,i+1,h=>by
  have:=zl5 r i (by simpa using h)
  rw [List.set_cons_succ,List.count_cons,List.count_cons]
  omega
theorem Found.run (hstep:ziS P B pi f n) (F:Found B pi f n rid ops s0 acc) (hn:∀ (i:Nat) (o:Oper) (d:Nat),ops[i]? = some o->o.dst=some d->d < n) {Q:Exit->Act->World->Prop}
    (hQ:∀ s ρ a w,StR B n s ρ a w->Exts s0 acc s->Q .normal a w):∀ (fuel:Nat) (listed:Array Bool) (s:St) (ρ:Nat->Option RI) (a:Act) (w:World),listed.size=ops.size->listed.toList.count false=fuel ->
     (∀ k j,listed.getD k false=true->Nat.testBit ((zbg [] ops.toList).getD k 0) j=true->listed.getD j false=true) ->
     Exts s0 (acc.filter (inL fun i=>listed.getD i false)) s->StR B n s ρ a w->wpAny P .any ops Q fuel listed a w:=by
 have done:∀ (listed:Array Bool) (s:St) (ρ:Nat->Option RI) (a:Act) (w:World),listed.size=ops.size->Region.ready .any ops listed=[] ->
     Exts s0 (acc.filter (inL fun i=>listed.getD i false)) s->StR B n s ρ a w->Q .normal a w:=by
  intro listed s ρ a w hsz hr hs H
  have:acc.filter (inL fun i=>listed.getD i false)=acc:=by
   rw [List.filter_eq_self]
   intro x hx
   have hm:=F.mem hx
   have hlt:x.i < ops.size:=by rw [<- F.len]; exact (List.getElem?_eq_some_iff.1 hm).1
   have:=F.ready hsz hr x.i hlt
   have hlt2:x.i < listed.size:=by omega
   simp only [inL]
   simpa [Array.getD,hlt2] using this
  rw [this] at hs
  exact hQ s ρ a w H hs
 intro fuel
 induction fuel with
 | zero =>
  intro listed s ρ a w hsz hc down hs H
  have hr:Region.ready .any ops listed=[]:=by
   rw [List.eq_nil_iff_forall_not_mem]
   intro j hj
   have h0:=(mem_ready.1 hj).1
   have hlt:j < listed.size:=by
    rcases Nat.lt_or_ge j listed.size with h | h
    · exact h
    · simp [Array.getD,Nat.not_lt.2 h] at h0
   have h1:listed[j]=false:=by simpa [Array.getD,hlt] using h0
   have:false∈listed.toList:=by rw [<- h1]; simp
   have:=List.count_pos_iff.2 this
   omega
  exact ⟨hr,done listed s ρ a w hsz hr hs H⟩
 | succ fuel ih =>
  intro listed s ρ a w hsz hc down hs H
  refine ⟨fun hr=>done listed s ρ a w hsz hr hs H,fun i hi=>?_⟩
  obtain ⟨h0,o,ho,hall⟩:=mem_ready.1 hi
  have hlt:i < listed.size:=by
   rcases Nat.lt_or_ge i listed.size with h | h
   · exact h
   · simp [Array.getD,Nat.not_lt.2 h] at h0
  have hfalse:listed[i]=false:=by simpa [Array.getD,hlt] using h0
  have hmask:∀ j,Nat.testBit ((zbg [] ops.toList).getD i 0) j=true->listed.getD j false=true:=by
   intro j hj
   obtain ⟨e,h1,h2,h3,h4⟩:=zl2 (o:=o) (by rw [Array.getElem?_toList]; exact ho) hj
   have he:=hall e (by simpa using h1) (by rw [zkl]; exact h2)
   rcases h4 with h4 | h4
   · rw [h4]; exact he
   · exact down e.on j he h4
  have hget:∀ k,(listed.setIfInBounds i true).getD k false=(listed.getD k false || k == i):=by
   intro k
   by_cases h:i=k
   · subst h; simp [Array.getD,hlt]
   · rw [getD_set_ne false h]
     have:(k == i)=false:=by simpa using fun e=>h e.symm
     rw [this,Bool.or_false]
  refine F.step hstep ho (L:=fun k=>listed.getD k false) (by simp [Array.getD,hlt,hfalse]) down hmask hs H (fun d hd=>hn i o d ho hd) fun s1 ρ1 a1 w1 H1 hs1=>?_
  refine ih _ s1 ρ1 a1 w1 (by simpa using hsz) ?_ ?_ ?_ H1
  · have:=zl5 listed.toList i (by simp [hlt,hfalse])
    rw [Array.toList_setIfInBounds]
    omega
  · intro k j hk hj
    rw [hget] at hk ⊢
    rw [Bool.or_eq_true] at hk ⊢
    rcases hk with hk | hk
    · exact .inl (down k j hk hj)
    · have:k=i:=by simpa using hk
      subst this
      exact .inl (hmask j hj)
  · have:(fun k=>(listed.setIfInBounds i true).getD k false)=fun k=>listed.getD k false || k == i:=funext hget
    rw [this]
    exact hs1
end
end Go.Proofs.YtdhkgmhdengnkaaGreatDoorPi
namespace Go.Proofs.YtdhkgmhdengnkaaGreatDoorPi
set_option linter.unusedVariables false
set_option linter.unusedSimpArgs false
open Go
theorem zp3 {R:Type} (m:Nat) (K:Nat->R):zsu m K=K m:=by cases m <;> rfl
theorem zrK (acc:List Nat) {i k:Nat} (hi:acc.length=i) (hk:k < i):acc.getD (i-1-k) 0=acc.reverse.getD k 0:=by
 simp only [List.getD_eq_getElem?_getD]
 rw [List.getElem?_reverse (by omega),hi]
theorem zrL {i:Nat} {acc:List Nat} (hi:acc.length=i) (o:Oper):zsP i acc o=zgy acc.reverse o:=by
 unfold zsP zgy
 congr 1
 funext s e
 rw [List.length_reverse,hi]
 cases hb:(zb5 e && Nat.blt e.on i) with
 | false=>rfl
 | true =>
  rw [Bool.and_eq_true] at hb
  rw [zrK acc hi (ziJ hb.2)]
theorem zl6 {R:Type}:∀ (l:List Oper) (i:Nat) (acc:List Nat) (K:List Nat->Option R),acc.length=i->znS i acc l K=K (zbg acc.reverse l)
 | [],i,acc,K,h=>rfl
 | o::l,i,acc,K,h=>by
  rw [znS,zp3,zl6 l (i+1) _ K (by simp [h]),List.reverse_cons,zrL h,zfg]
theorem zg4:∀ {l:List Oper} {i0 i:Nat} {o:Oper} {d:Nat},(zlA l).Nodup->l[i]? = some o->o.dst=some d->zaa (zit i0 l) d=some (i0+i)
 | [],_,_,_,_,_,h,_=>by simp at h
 | a::l,i0,i,o,d,hn,h,hd=>by
  unfold zlA at hn
  rw [zit]
  cases i with
  | zero =>
   simp at h
   subst h
   rw [hd]
   exact zag _ _ _
  | succ i =>
   have h':l[i]? = some o:=by simpa using h
   have hm:d∈l.filterMap fun o=>o.dst:=List.mem_filterMap.2 ⟨o,List.mem_iff_getElem?.2 ⟨i,h'⟩,hd⟩
   cases ha:a.dst with
   | none =>
    rw [List.filterMap_cons_none ha] at hn
    have:=zg4 (i0:=i0+1) hn h' hd
    rwa [show i0+1+i=i0+(i+1) by omega] at this
   | some d' =>
    rw [List.filterMap_cons_some ha,List.nodup_cons] at hn
    have:=zg4 (i0:=i0+1) hn.2 h' hd
    dsimp only
    rw [zad _ _ (fun e:d'=d=>hn.1 (by rw [e]; exact hm))]
    rwa [show i0+1+i=i0+(i+1) by omega] at this
theorem zl7 {ms:List Nat} {W:List (Nat×Nat)} {all:List Oper}:∀ {l:List Oper} {j:Nat} {mr:List Nat},zlB ms W all j mr l=true->∀ (k:Nat) (o:Oper),l[k]? = some o->∀ t∈zgN all o,∀ i,zaa W t=some i ->
    (Nat.beq i (j+k) || Nat.testBit (mr.getD k 0) i || Nat.testBit (ms.getD i 0) (j+k))=true
 | [],_,_,_,k,o,h,_,_,_,_=>by simp at h
 | a::l,j,[],h,_,_,_,_,_,_,_=>by simp [zlB] at h
 | a::l,j,m::mr,h,k,o,hk,t,ht,i,hi=>by
  simp only [zlB,Bool.and_eq_true] at h
  cases k with
  | zero =>
   simp at hk
   subst hk
   have:=List.all_eq_true.1 h.1 t ht
   rw [hi] at this
   simpa using this
  | succ k =>
   have:=zl7 h.2 k o (by simpa using hk) t ht i hi
   rw [show j+1+k=j+(k+1) by omega] at this
   simpa using this
theorem zkm {ms:List Nat} {all:List Oper}:∀ {l:List Oper} {i:Nat},(∀ (k:Nat) (o:Oper),l[k]? = some o->∀ d,o.dst=some d->∀ (j:Nat) (o':Oper),all[j]? = some o' ->
      (Nat.beq (i+k) j || Nat.testBit (ms.getD j 0) (i+k) || Nat.testBit (ms.getD (i+k) 0) j || !((zgN all o').any (Nat.beq d)))=true)->zeN ms all i l=true
 | [],_,_=>rfl
 | a::l,i,h=>by
  rw [zeN,Bool.and_eq_true]
  refine ⟨?_,zkm fun k o hk d hd j o' hj=>?_⟩
  · cases ha:a.dst with
    | none=>rfl
    | some d =>
     refine List.all_eq_true.2 fun x hx=>?_
     obtain ⟨o',j⟩:=x
     have hj:=List.mem_zipIdx_iff_getElem?.1 hx
     have:=h 0 a rfl d ha j o' hj
     simpa using this
  · have:=h (k+1) o (by simpa using hk) d hd j o' hj
    rwa [show i+(k+1)=i+1+k by omega] at this
theorem zrM {n:Nat} {ops:List Oper} (h:zsQ n (zbg [] ops) ops=true):zkc n (zbg [] ops) ops=true:=by
 unfold zsQ at h
 unfold zkc
 simp only [Bool.and_eq_true] at h ⊢
 obtain ⟨⟨⟨⟨h1,h2⟩,h3⟩,h4⟩,h5⟩:=h
 refine ⟨⟨⟨⟨zkm fun k o hk d hd j o' hj=>?_,h2⟩,h3⟩,h4⟩,h5⟩
 rw [Nat.zero_add]
 cases hr:(zgN ops o').any (Nat.beq d) with
 | false=>simp
 | true =>
  obtain ⟨t,ht,e⟩:=List.any_eq_true.1 hr
  obtain rfl:=Nat.eq_of_beq_eq_true e
  have:=zl7 h1 j o' hj d ht k (by have:=zg4 (i0:=0) (zb6 h3) hk hd; rwa [Nat.zero_add] at this)
  rw [Nat.zero_add] at this
  simp only [Bool.or_eq_true] at this ⊢
  rcases this with (e | e) | e
  · exact .inl (.inl (.inl e))
  · exact .inl (.inl (.inr e))
  · exact .inl (.inr e)
theorem zhE {B:Base} {P:Program} {n:Nat} {pi:(g:FuncId)->List AV->Option (B.C.sig g).den} {f:FuncId} (hstep:ziS P B pi f n) (hm:P.follows .mixedOrders=true):zsY P B pi f n:=by
 intro R id ops draw s K r ρ a w h H
 cases draw with
 | false =>
  have h':zgi B.C pi f n id ops.toList 0 ops.toList s K=some r:=h
  have:=zeV hstep (Q:=fun e a' w'=>e = .normal /\ ∃ s' ρ',StR B n s' ρ' a' w' /\ K s'=some r) (fun s ρ a w H hK=>⟨rfl,s,ρ,H,hK⟩) ops.toList 0 (fun j=>by simp) s ρ a w h' H
  refine wp_region ?_
  simpa using this
 | true =>
  simp only [ziu] at h
  rw [zl6 _ 0 [] _ rfl,List.reverse_nil] at h
  obtain ⟨hok0,h2⟩:=zaj h
  have hok:=zrM hok0
  have hdn:∀ o∈ops.toList,∀ d,o.dst=some d->Nat.blt d n=true:=by
   intro o ho d hd
   have hok':=hok
   unfold zkc at hok'
   simp only [Bool.and_eq_true] at hok'
   have:=List.all_eq_true.1 hok'.1.2 o ho
   rw [hd] at this
   exact this
  obtain ⟨acc,h3,h4⟩:=zep pi f n id (zbg [] ops.toList) s ops.toList 0 true (zbg [] ops.toList) [] _ r (fun k m hk=>by simp [hk]) ⟨fun x hx=>by simp at hx,by simp⟩ hdn (fun _ x hx=>by simp at hx) h2
  rw [List.append_nil] at h3
  rw [zfP,List.reverse_reverse] at h3
  have F:Found B pi f n id ops s acc:=by
   refine ⟨by rw [h4.length]; simp,fun i o ho=>?_,hok⟩
   obtain ⟨x,h5,h6⟩:=h4.at i o (by rw [Array.getElem?_toList]; exact ho)
   exact ⟨x,h5,by simpa using h6⟩
  split at h3
  · rename_i sF hsF
    have hE:Exts s acc sF:=by
     have:=zfQ acc [] s sF (Exts.nil s) hsF
     simpa using this
    have hn:∀ (i:Nat) (o:Oper) (d:Nat),ops[i]? = some o->o.dst=some d->d < n:=by
     intro i o d ho hd
     unfold zkc at hok
     simp only [Bool.and_eq_true] at hok
     have:=List.all_eq_true.1 hok.1.2 o (by rw [List.mem_iff_getElem?]; exact ⟨i,by rw [Array.getElem?_toList]; exact ho⟩)
     rw [hd] at this
     exact ziJ this
    refine wp_region_any hm ?_
    obtain ⟨le,inv⟩:=H.inv.drew (w.drawn+1)
    refine F.run hstep hn (fun s1 ρ1 a1 w1 H1 hs1=>⟨rfl,sF,ρ1,H1.exts hs1 hE,h3⟩) ops.size _ s ρ a _ (by simp) (by simp) ?_ ?_ ⟨inv,H.env.mono le,H.pin⟩
    · intro k j hk _
      rw [Array.getD_eq_getD_getElem?,Array.getElem?_replicate] at hk
      split at hk <;> simp at hk
    · have:acc.filter (inL fun i=>(Array.replicate ops.size false).getD i false)=[]:=by
       rw [List.filter_eq_nil_iff]
       intro x _
       simp only [inL]
       rw [Array.getD_eq_getD_getElem?,Array.getElem?_replicate]
       split <;> simp
      rw [this]
      exact Exts.nil s
  · cases h3
end Go.Proofs.YtdhkgmhdengnkaaGreatDoorPi
namespace Go.Proofs.YtdhkgmhdengnkaaGreatDoorPi
set_option linter.unusedVariables false
set_option linter.unusedSimpArgs false
open Go
theorem zg5 {mu' muF:List (Nat×Cont)} (h:∀ id c,zaa mu' id=some c->zaa muF id=some c):∀ {ids:List Nat} {fz:List (Nat×Option Cont)},freeze (zaa mu') ids=some fz->freeze (zaa muF) ids=some fz
 | [],fz,k=>by simpa only [freeze] using k
 | a::r,fz,k=>by
  simp only [freeze] at k ⊢
  split at k
  · rename_i e t xs hm
    rw [h _ _ hm]
    dsimp only
    split at k
    · rename_i l hl
      rw [zg5 h hl]
      exact k
    · cases k
  · rename_i e t xs hm
    rw [h _ _ hm]
    exact zg5 h k
  · cases k
theorem zrN {mu' muF:List (Nat×Cont)} (h:∀ id c,zaa mu' id=some c->zaa muF id=some c) {c c':Cel} (k:snap (zaa mu') c=some c'):snap (zaa muF) c=some c' /\ zbr (zaa mu') 6 c=zbr (zaa muF) 6 c:=by
 cases c <;> simp only [snap] at k ⊢ <;> first
  | exact ⟨k,rfl⟩
  | cases k
  | (split at k
     · rename_i hm
       rw [h _ _ hm]
       exact ⟨k,rfl⟩
     · cases k)
theorem zp4 (l:List Nat):∃ n,∀ x∈l,x < n:=by
 induction l with
 | nil=>exact ⟨0,by simp⟩
 | cons a l ih =>
  obtain ⟨n,h⟩:=ih
  refine ⟨n+a+1,fun x hx=>?_⟩
  rcases List.mem_cons.1 hx with rfl | hx
  · omega
  · have:=h x hx
    omega
theorem zl8 (mu:List (Nat×Cont)) (dead:List Nat):∃ k,zaa mu k=none/\k ∉ dead/\isIn k=false:=by
 obtain ⟨n,h⟩:=zp4 (9000001000000000::(mu.map Prod.fst++dead))
 refine ⟨n,?_,fun hd=>?_,?_⟩
 · cases e:zaa mu n with
   | none=>rfl
   | some c =>
    have:=h n (List.mem_cons_of_mem _ (List.mem_append_left _ (List.mem_map.2 ⟨_,zaE e,rfl⟩)))
    omega
 · have:=h n (List.mem_cons_of_mem _ (List.mem_append_right _ hd))
   omega
 · have h1:=h _ List.mem_cons_self
   unfold isIn
   have:Nat.blt n 9000001000000000=false:=by
    cases e:Nat.blt n 9000001000000000 with
    | false=>rfl
    | true=>have:=ziJ e; omega
   rw [this,Bool.and_false]
theorem zdz {α:Type}:∀ {a b:List (Nat×α)} {k:Nat},zaa (a++b) k=match zaa a k with | some v=>some v | none=>zaa b k
 | [],b,k=>rfl
 | (x,v)::a,b,k=>by
  simp only [List.cons_append,zaa]
  cases Nat.beq x k with
  | true=>rfl
  | false=>exact zdz (a:=a)
def rhoR (κ:List (Nat×Nat)) (ρ:Nat->Option RI):Nat->Option RI:=fun id=>(zaa κ id).bind ρ
def sitR (B:Base) (sl:Bool) (muF:List (Nat×Cont)) (ρ:Nat->Option RI) (w:World) (κ:List (Nat×Nat)):Sit :=
 ⟨fun g=>B.V (zaa muF) ρ w g/\(sl=false->B.w0.heap.size<=g),rhoR κ ρ,w,fun _=>False⟩
structure zl9 (B:Base) (w:World) (mu' muF:List (Nat×Cont)) (dead:List Nat) (ρ:Nat->Option RI) (κ:List (Nat×Nat)):Prop where
 inv:MInv B (zaa muF) dead ρ w
 sub:∀ id c,zaa mu' id=some c->zaa muF id=some c
 gone:∀ id k,(id,k)∈κ->zaa mu' k=none
 inj:∀ id id' k,(id,k)∈κ->(id',k)∈κ->id=id'
 there:∀ id k,(id,k)∈κ->zaa muF k ≠ none
 pin:∀ id,isIn id=true->zaa muF id ≠ none->ρ id=B.pin id
def zp5:Cont->Prop
 | .row _ _ _ .own=>False
 | _=>True
structure EncStep (B:Base) (w:World) (muF muF':List (Nat×Cont)) (ρ ρ':Nat->Option RI) (κ κ':List (Nat×Nat)):Prop where
 le:(B.sit (zaa muF) ρ w).Le (B.sit (zaa muF') ρ' w)
 kap:∃ κ1,κ'=κ++κ1
 keep:∀ id c,zaa muF id=some c->(∃ j,(j,id)∈κ) \/ zp5 c->zaa muF' id=some c
section
variable {B:Base} {w:World}
theorem EncStep.refl (muF:List (Nat×Cont)) (ρ:Nat->Option RI) (κ:List (Nat×Nat)):EncStep B w muF muF ρ ρ κ κ :=
 ⟨Sit.Le.refl _,⟨[],by simp⟩,fun _ _ h _=>h⟩
theorem EncStep.trans {mu1 mu2 mu3:List (Nat×Cont)} {ρ1 ρ2 ρ3:Nat->Option RI} {κ1 κ2 κ3:List (Nat×Nat)} (h:EncStep B w mu1 mu2 ρ1 ρ2 κ1 κ2) (k:EncStep B w mu2 mu3 ρ2 ρ3 κ2 κ3) :
    EncStep B w mu1 mu3 ρ1 ρ3 κ1 κ3:=by
 obtain ⟨a,ha⟩:=h.kap
 obtain ⟨b,hb⟩:=k.kap
 refine ⟨h.le.trans k.le,⟨a++b,by rw [hb,ha,List.append_assoc]⟩,fun id c hc ho=>k.keep id c (h.keep id c hc ho) ?_⟩
 refine ho.imp (fun ⟨j,hj⟩=>⟨j,?_⟩) (fun x=>x)
 rw [ha]
 exact List.mem_append_left _ hj
theorem EncStep.sit {mu1 mu2:List (Nat×Cont)} {ρ1 ρ2:Nat->Option RI} {κ1 κ2:List (Nat×Nat)} (h:EncStep B w mu1 mu2 ρ1 ρ2 κ1 κ2) (sl:Bool):(sitR B sl mu1 ρ1 w κ1).Le (sitR B sl mu2 ρ2 w κ2):=by
 obtain ⟨a,ha⟩:=h.kap
 refine ⟨fun id r e=>?_,fun g hg=>⟨⟨(h.le.blk g hg.1).1,hg.2⟩,rfl⟩,fun g hg=>hg.elim⟩
 have e':(zaa κ1 id).bind ρ1=some r:=e
 show (zaa κ2 id).bind ρ2=some r
 cases hk:zaa κ1 id with
 | none=>rw [hk] at e'; cases e'
 | some k =>
  rw [hk] at e'
  rw [ha,zdz,hk]
  exact h.le.id _ _ e'
def Adds (sl:Bool) (muF:List (Nat×Cont)) (κ:List (Nat×Nat)) (l:List (Nat×Cont)):Prop :=
 ∀ i c,(i,c)∈l->∃ k e t xs m m',(i,k)∈κ/\(c = .row e t xs m/\(t.hasSl=true->sl=true))/\zaa muF k=some (.row e t xs m')/\(m' = .own \/ (m' = .come/\m = .come))/\(m = .own \/ m = .come)
theorem Adds.step {sl:Bool} {mu1 mu2:List (Nat×Cont)} {ρ1 ρ2:Nat->Option RI} {κ1 κ2:List (Nat×Nat)} {l:List (Nat×Cont)} (h:EncStep B w mu1 mu2 ρ1 ρ2 κ1 κ2) (k:Adds sl mu1 κ1 l):Adds sl mu2 κ2 l:=by
 intro i c hi
 obtain ⟨k1,e,t,xs,m,m',h1,h2,h3,h4,h5⟩:=k i c hi
 obtain ⟨a,ha⟩:=h.kap
 exact ⟨k1,e,t,xs,m,m',by rw [ha]; exact List.mem_append_left _ h1,h2,h.keep _ _ h3 (.inl ⟨_,h1⟩),h4,h5⟩
theorem Adds.append {sl:Bool} {muF:List (Nat×Cont)} {κ:List (Nat×Nat)} {a b:List (Nat×Cont)} (h:Adds sl muF κ a) (k:Adds sl muF κ b):Adds sl muF κ (a++b):=by
 intro i c hi
 rcases List.mem_append.1 hi with hi | hi
 · exact h i c hi
 · exact k i c hi
theorem Adds.nil {sl:Bool} {muF:List (Nat×Cont)} {κ:List (Nat×Nat)}:Adds sl muF κ []:=fun i c h=>by simp at h
def CRo (σ:Sit) (c:Cel):Option Value->Prop
 | some v=>CR σ c v
 | none=>∃ e t xs,c = .frow e t xs
def CRb (sl:Bool) (σ:Sit) (c c':Cel):Option Value->Prop
 | some v=>CR σ c' v
 | none=>∃ e t xs,c = .frow e t xs/\c' = .sl e t xs/\(t.hasSl=true->sl=true)
theorem CRb.mono {sl:Bool} {σ σ':Sit} (h:σ.Le σ') {c c':Cel}:∀ {v:Option Value},CRb sl σ c c' v->CRb sl σ' c c' v
 | some _,k=>CR.mono h _ _ k
 | none,k=>k
def zma (come:Bool) (o:Option RMode) (ov:Option Value):Prop :=
 ((come=false/\(o=none \/ o=some .own))/\ov ≠ none) \/ (o=some .come/\ov ≠ none) \/ (o=none/\ov=none)
theorem zmb {mu' muF:List (Nat×Cont)} {dead:List Nat} {ρ:Nat->Option RI} {κ:List (Nat×Nat)} (S:zl9 B w mu' muF dead ρ κ) {ids:List Nat} {fz:List (Nat×Option Cont)} (h:freeze (zaa mu') ids=some fz) :
    zl9 B w (zab mu' fz) (zab muF fz) dead ρ κ/\EncStep B w muF (zab muF fz) ρ ρ κ κ /\
     (∀ id,id∈ids->∀ i g,ρ id=some i->i.g=some g->(B.sit (zaa (zab muF fz)) ρ w).V g/\B.w0.heap.size<=g):=by
 have hF:=zg5 S.sub h
 obtain ⟨_,le,inv,hV,hl⟩:=S.inv.freeze hF
 obtain ⟨_,_,r3,_⟩:=zct (mu0:=muF) hF (fun id=>.inl rfl)
 obtain ⟨_,s2,s3,_⟩:=zct (mu0:=mu') h (fun id=>.inl rfl)
 have hin:∀ id,id∈ids->zaa mu' id ≠ none:=fun id hid=>by
  obtain ⟨_,_,_,_,h1,_⟩:=s3 id hid
  rw [h1]; simp
 have keep:∀ id c,zaa muF id=some c->(∃ j,(j,id)∈κ) \/ zp5 c->zaa (zab muF fz) id=some c:=by
  intro id c hc ho
  rcases hl id with h1 | ⟨e,t,xs,h1,h2⟩
  · rw [h1]; exact hc
  · rw [hc] at h1
    cases h1
    rcases ho with ⟨j,hj⟩ | ho
    · have h0:=S.gone j id hj
      have hid:id ∉ ids:=fun hid=>hin id hid h0
      rw [za9 _ hF id hid]
      exact hc
    · exact ho.elim
 have hpin:∀ id,isIn id=true->zaa (zab muF fz) id ≠ none->ρ id=B.pin id:=by
  intro id hi hm
  refine S.pin id hi ?_
  rcases hl id with h1 | ⟨e,t,xs,h1,h2⟩
  · rw [<- h1]; exact hm
  · rw [h1]; simp
 refine ⟨⟨inv,?_,?_,S.inj,?_,hpin⟩,⟨le,⟨[],by simp⟩,keep⟩,?_⟩
 · intro id c hc
   by_cases hid:id∈ids
   · obtain ⟨e,t,xs,m,h1,h2,h3⟩:=s3 id hid
     obtain ⟨e',t',xs',m',h1',h2',h3'⟩:=r3 id hid
     rw [S.sub _ _ h1] at h1'
     cases h1'
     rw [h3] at hc
     rw [h3',<- hc]
   · rw [za9 _ h id hid] at hc
     rw [za9 _ hF id hid]
     exact S.sub _ _ hc
 · intro id k hk
   have h0:=S.gone id k hk
   have hid:k ∉ ids:=fun hid=>hin k hid h0
   rw [za9 _ h k hid]
   exact h0
 · intro id k hk
   cases e:zaa muF k with
   | none=>exact absurd e (S.there id k hk)
   | some c=>rw [keep k c e (.inl ⟨id,hk⟩)]; simp
 · intro id hid i g hi hg
   refine ⟨hV id hid i g hi hg,?_⟩
   obtain ⟨e,t,xs,m,h1,h2,_⟩:=r3 id hid
   exact S.inv.new id e t xs m i g h1 h2 hi hg
theorem ziZ {sl:Bool} {t:Ty} (ht:t.hasSl=true->sl=true) {muF:List (Nat×Cont)} {ρ:Nat->Option RI} {κ:List (Nat×Nat)} {x:t.den} {us:List Value} (h:KR (B.V (zaa muF) ρ w) w t x us) :
    KR (sitR B sl muF ρ w κ).V w t x us:=by
 cases hs:t.hasSl with
 | false=>exact zkO t x us hs h
 | true =>
  have:=ht hs
  subst this
  exact KR.mono (fun g hg=>⟨⟨hg,fun e=>by cases e⟩,rfl⟩) t x us h
theorem zs0 {σ:Sit} {t:Ty} {x:t.den} {v:Value} (h:KR σ.V σ.w t x [v]):CR σ ((t.emb x).headD .junk) v:=by
 have h1:=(zcr t x [v]).2 h
 have h2:=zbz h1
 cases e:t.emb x with
 | nil=>rw [e] at h2; cases h2
 | cons c r =>
  rw [e] at h1
  simp only [CRs] at h1
  obtain ⟨u,us,e1,h3,_⟩:=h1
  cases e1
  exact h3
theorem zfT {mu' mu'' muF:List (Nat×Cont)} {dead:List Nat} {ρ:Nat->Option RI} {κ:List (Nat×Nat)} (S:zl9 B w mu' muF dead ρ κ) {sl:Bool} {come:Bool} {rc:RC} (hsl:rc.hasSl=true->sl=true)
    (hty:∀ e t,rc = .row e t->zjV B.C e t) {c:Cel} {x:rc.den} (h:zgk come mu' rc c=some (x,mu'')) {o:Option RMode} {id:Nat}
    {ov:Option Value} (ho:zma come o ov) (hc:CRo (B.sit (zaa muF) ρ w) c ov) (hid:(κ.map Prod.fst++(zbW o id rc x).2.map Prod.fst).Nodup) :
    ∃ muF' dead' ρ' κ',zl9 B w mu'' muF' dead' ρ' κ' /\ EncStep B w muF muF' ρ ρ' κ κ' /\ κ'.map Prod.fst=κ.map Prod.fst++(zbW o id rc x).2.map Prod.fst /\
     CRb sl (sitR B sl muF' ρ' w κ') c (zbW o id rc x).1 ov/\Adds sl muF' κ' (zbW o id rc x).2:=by
 cases rc with
 | dat t =>
  simp only [zgk] at h
  split at h
  · rename_i c' fz hs hf
    split at h
    · rename_i y hx
      cases h
      obtain ⟨S',st,hV⟩:=zmb S hf
      obtain ⟨hs',hids⟩:=zrN S.sub hs
      have hv:∃ v,ov=some v:=by
       cases ov with
       | some v=>exact ⟨v,rfl⟩
       | none=>obtain ⟨e,t,xs,rfl⟩:=hc; simp [snap] at hs
      obtain ⟨v,rfl⟩:=hv
      have hc':CR (B.sit (zaa muF) ρ w) c v:=hc
      have h1:=zdZ (V':=B.V (zaa (zab muF fz)) ρ w) S.inv.cont (fun g hg=>(st.le.blk g hg).1) c c' v hs' hc' (fun id hid i g hi hg=>(hV id (by rw [hids]; exact hid) i g hi hg).1)
      have h2:=zdv hx (show CRs ⟨B.V (zaa (zab muF fz)) ρ w,ρ,w,B.R0⟩ [c'] [v] from by simp only [CRs]; exact ⟨v,[],rfl,h1,rfl⟩)
      refine ⟨_,dead,ρ,κ,S',st,by simp [zbW],?_,Adds.nil⟩
      exact zs0 (σ:=sitR B sl (zab muF fz) ρ w κ) (ziZ (κ:=κ) hsl h2)
    · cases h
  · cases h
 | row e t =>
  have hsl':t.hasSl=true->sl=true:=hsl
  cases c
  case frow e' t' xs =>
   simp only [zgk] at h
   split at h
   · rename_i ht
     obtain ⟨he,h⟩:=zaj h
     cases h
     obtain rfl:=Ty.beq_eq ht
     have he:=Nat.eq_of_beq_eq_true he
     subst he
     have hov:ov=none:=by
      cases ov with
      | none=>rfl
      | some v=>simp only [CRo,CR] at hc
     subst hov
     have hon:o=none:=by
      rcases ho with ⟨_,h⟩ | ⟨_,h⟩ | ⟨h,_⟩
      · exact absurd rfl h
      · exact absurd rfl h
      · exact h
     subst hon
     exact ⟨muF,dead,ρ,κ,S,EncStep.refl _ _ _,by simp [zbW],⟨e,t',xs,rfl,rfl,hsl'⟩,Adds.nil⟩
   · cases h
  case nilsl =>
   simp only [zgk] at h
   cases h
   have hv:∃ v,ov=some v:=by
    cases ov with
    | some v=>exact ⟨v,rfl⟩
    | none=>obtain ⟨e,t,xs,h⟩:=hc; cases h
   obtain ⟨v,rfl⟩:=hv
   have hc':v = .slice none 0 0:=by simpa only [CRo,CR] using hc
   subst hc'
   cases o with
   | none =>
    refine ⟨muF,dead,ρ,κ,S,EncStep.refl _ _ _,by simp [zbW],?_,Adds.nil⟩
    show CR _ (.sl e t []) _
    simp only [CR,KR]
    exact ⟨none,0,rfl,Nat.le_refl _,.inl rfl⟩
   | some m =>
    have hm:m = .own \/ m = .come:=by
     rcases ho with ⟨⟨_,h | h⟩,_⟩ | ⟨h,_⟩ | ⟨h,_⟩ <;> cases h
     · exact .inl rfl
     · exact .inr rfl
    obtain ⟨k,hk,hkd,hkin⟩:=zl8 muF dead
    obtain ⟨ti,hT,hti⟩:=hty e t rfl
    obtain ⟨le,inv⟩:=zpW S.inv hT hti hk hkd
    have hsub:∀ i c,zaa mu' i=some c->i ≠ k:=by
     intro i c hi e
     subst e
     rw [S.sub _ _ hi] at hk; cases hk
    have hnid:zaa κ id=none:=by
     cases e:zaa κ id with
     | none=>rfl
     | some k' =>
      exfalso
      rw [List.nodup_append] at hid
      exact hid.2.2 id (List.mem_map.2 ⟨_,zaE e,rfl⟩) id (by simp [zbW]) rfl
    have hnk:∀ j,(j,k) ∉ κ:=fun j hj=>S.there j k hj hk
    have keep:∀ i c,zaa muF i=some c->zaa ((k,Cont.row e t [] .own)::muF) i=some c:=by
     intro i c hi
     have:k ≠ i:=by intro e; subst e; rw [hk] at hi; cases hi
     rw [zad _ _ this]; exact hi
    refine ⟨(k,.row e t [] .own)::muF,dead,upd ρ k ⟨none,0,0,t.size⟩,κ++[(id,k)],⟨inv,fun i c hi=>keep i c (S.sub i c hi),?_,?_,?_,?_⟩,⟨le,⟨_,rfl⟩,fun i c hi _=>keep i c hi⟩,by simp [zbW],?_,?_⟩
    · intro j k' hj
      rcases List.mem_append.1 hj with hj | hj
      · exact S.gone j k' hj
      · simp at hj
        rw [hj.2]
        cases e:zaa mu' k with
        | none=>rfl
        | some c=>exact absurd rfl (hsub k c e)
    · intro j j' k' hj hj'
      rcases List.mem_append.1 hj with hj | hj <;> rcases List.mem_append.1 hj' with hj' | hj'
      · exact S.inj j j' k' hj hj'
      · simp at hj'; rw [hj'.2] at hj; exact absurd hj (hnk j)
      · simp at hj; rw [hj.2] at hj'; exact absurd hj' (hnk j')
      · simp at hj hj'; rw [hj.1,hj'.1]
    · intro j k' hj
      rcases List.mem_append.1 hj with hj | hj
      · cases e:zaa muF k' with
        | none=>exact absurd e (S.there j k' hj)
        | some c=>rw [keep _ _ e]; simp
      · simp at hj; rw [hj.2,zag]; simp
    · intro i hi hm
      have hne:k ≠ i:=by intro e; rw [e,hi] at hkin; cases hkin
      rw [zad _ _ hne] at hm
      rw [zlL _ _ (Ne.symm hne)]
      exact S.pin i hi hm
    · show CR _ (.full id) _
      refine zgr (sz:=t.size) ?_ (by simp only [CR])
      show (zaa (κ++[(id,k)]) id).bind _=_
      rw [zdz,hnid]
      simp only [zaa,zcZ,cond_true,Option.bind_some]
      exact zaZ _ _ _
    · intro i c hi
      simp only [zbW,List.mem_singleton,Prod.mk.injEq] at hi
      obtain ⟨rfl,rfl⟩:=hi
      exact ⟨k,e,t,[],m,.own,by simp,⟨rfl,hsl'⟩,zag _ _ _,.inl rfl,hm⟩
  case full id0 =>
   simp only [zgk] at h
   split at h
   · rename_i e' t' xs m0 hm0
     obtain ⟨hmode,h⟩:=zaj h
     split at h
     · rename_i ht
       obtain ⟨he,h⟩:=zaj h
       cases h
       obtain rfl:=Ty.beq_eq ht
       have he:=Nat.eq_of_beq_eq_true he
       subst he
       rw [zd0] at hid ⊢
       have hv:∃ v,ov=some v:=by
        cases ov with
        | some v=>exact ⟨v,rfl⟩
        | none=>obtain ⟨e,t,xs,h⟩:=hc; cases h
       obtain ⟨v,rfl⟩:=hv
       have hc':CR (B.sit (zaa muF) ρ w) (.full id0) v:=hc
       have hF:=S.sub _ _ hm0
       have hnk:∀ j,(j,id0) ∉ κ:=fun j hj=>by have:=S.gone j _ hj; rw [hm0] at this; cases this
       cases o with
       | some m =>
        have hmm:(m0 = .own \/ (m0 = .come/\m = .come))/\(m = .own \/ m = .come):=by
         rcases ho with ⟨⟨h1,h | h⟩,_⟩ | ⟨h,_⟩ | ⟨h,_⟩ <;> cases h
         · subst h1
           cases m0 <;> first | exact ⟨.inl rfl,.inl rfl⟩ | cases hmode
         · cases m0 <;> first | exact ⟨.inl rfl,.inr rfl⟩ | exact ⟨.inr ⟨rfl,rfl⟩,.inr rfl⟩ | cases hmode
        have hnid:zaa κ id=none:=by
         cases e:zaa κ id with
         | none=>rfl
         | some k' =>
          exfalso
          rw [List.nodup_append] at hid
          exact hid.2.2 id (List.mem_map.2 ⟨_,zaE e,rfl⟩) id (by simp [zbW]) rfl
        refine ⟨muF,dead,ρ,κ++[(id,id0)],⟨S.inv,?_,?_,?_,?_,S.pin⟩,⟨Sit.Le.refl _,⟨_,rfl⟩,fun _ _ h _=>h⟩,by simp [zbW],?_,?_⟩
        · intro i c hi
          by_cases hi0:id0=i
          · subst hi0; rw [zaD] at hi; cases hi
          · rw [zao hi0] at hi; exact S.sub _ _ hi
        · intro j k' hj
          rcases List.mem_append.1 hj with hj | hj
          · by_cases hi0:id0=k'
            · subst hi0; exact zaD _ _
            · rw [zao hi0]; exact S.gone j k' hj
          · simp at hj
            rw [hj.2]
            exact zaD _ _
        · intro j j' k' hj hj'
          rcases List.mem_append.1 hj with hj | hj <;> rcases List.mem_append.1 hj' with hj' | hj'
          · exact S.inj j j' k' hj hj'
          · simp at hj'; rw [hj'.2] at hj; exact absurd hj (hnk j)
          · simp at hj; rw [hj.2] at hj'; exact absurd hj' (hnk j')
          · simp at hj hj'; rw [hj.1,hj'.1]
        · intro j k' hj
          rcases List.mem_append.1 hj with hj | hj
          · exact S.there j k' hj
          · simp at hj; rw [hj.2,hF]; simp
        · show CR _ (.full id) _
          simp only [CR] at hc' ⊢
          obtain ⟨i,hi,hh⟩:=hc'
          refine ⟨i,?_,hh⟩
          show (zaa (κ++[(id,id0)]) id).bind _=_
          rw [zdz,hnid]
          simp only [zaa,zcZ,cond_true,Option.bind_some]
          exact hi
        · intro i c hi
          simp only [zbW,List.mem_singleton,Prod.mk.injEq] at hi
          obtain ⟨rfl,rfl⟩:=hi
          exact ⟨id0,e,t',xs,m,m0,by simp,⟨rfl,hsl'⟩,hF,hmm.1,hmm.2⟩
       | none =>
        have hown:m0 = .own:=by
         rcases ho with ⟨⟨h1,_⟩,_⟩ | ⟨h,_⟩ | ⟨_,h⟩
         · subst h1
           cases m0 <;> first | rfl | cases hmode
         · cases h
         · cases h
        subst hown
        have hf:freeze (zaa mu') [id0]=some [(id0,some (.row e t' xs .frozen))]:=by simp [freeze,hm0]
        obtain ⟨S',st,hV⟩:=zmb S hf
        refine ⟨_,dead,ρ,κ,⟨S'.inv,?_,?_,S'.inj,S'.there,S'.pin⟩,st,by simp [zbW],?_,Adds.nil⟩
        · intro i c hi
          by_cases hi0:id0=i
          · subst hi0; rw [zaD] at hi; cases hi
          · refine S'.sub i c ?_
            rw [zao hi0] at hi
            simp only [zab]
            rw [zad _ _ hi0,zao hi0]
            exact hi
        · intro j k' hj
          by_cases hi0:id0=k'
          · subst hi0; exact zaD _ _
          · rw [zao hi0]; exact S.gone j k' hj
        · have hs:snap (zaa muF) (.full id0)=some (.sl e t' xs):=by simp [snap,hF]
          have h1:=zdZ (V':=fun g=>B.V (zaa (zab muF [(id0,some (.row e t' xs .frozen))])) ρ w g) S.inv.cont (fun g hg=>(st.le.blk g hg).1) _ _ v hs hc' (fun i hi ri g h2 h3=>by
           simp [zbr] at hi
           subst hi
           exact (hV i (by simp) ri g h2 h3).1)
          show CR _ (.sl e t' xs) v
          simp only [CR] at h1 hc' ⊢
          obtain ⟨ri,hri,hh⟩:=hc'
          simp only [KR] at h1 ⊢
          obtain ⟨A,cp,hA,hle,hk⟩:=h1
          have hri':ρ id0=some ri:=hri
          have hcap:=zbU (S.inv.cont _ _ hF) hri'
          cases hgn:ri.g with
          | none=>exact ⟨A,cp,hA,hle,.inl (hcap.2.2.1 hgn)⟩
          | some g0 =>
          refine ⟨A,cp,hA,hle,hk.imp (fun x=>x) ?_⟩
          rintro ⟨g,o',us,rfl,hVg,hkl,hlies⟩
          refine ⟨g,o',us,rfl,⟨hVg,fun _=>?_⟩,KL.imp (fun x us h=>ziZ (κ:=κ) hsl' h) _ _ hkl,hlies⟩
          have hg:ri.g=some g:=by
           simp only [hdr0,hgn] at hh
           cases hA
           simp only [Value.slice.injEq,Option.some.injEq,Addr.mk.injEq] at hh
           rw [hgn,hh.1.1]
          exact (hV id0 (by simp) ri g hri hg).2
     · cases h
   · cases h
  all_goals (simp only [zgk] at h; cases h)
end
end Go.Proofs.YtdhkgmhdengnkaaGreatDoorPi
namespace Go.Proofs.YtdhkgmhdengnkaaGreatDoorPi
set_option linter.unusedVariables false
set_option linter.unusedSimpArgs false
open Go
theorem zoW (come:Bool) (mu:List (Nat×Cont)):zeF come mu [] []=some ((),mu):=rfl
theorem zm6 (come:Bool) (mu:List (Nat×Cont)) (c:Cel) (cs:List Cel):zeF come mu [] (c::cs)=none:=rfl
theorem zm7 (come:Bool) (mu:List (Nat×Cont)) (a:RC):zeF come mu [a] []=none:=rfl
theorem zoX (come:Bool) (mu:List (Nat×Cont)) (a:RC) (c:Cel):zeF come mu [a] [c]=zgk come mu a c:=rfl
theorem zm8 (come:Bool) (mu:List (Nat×Cont)) (a:RC) (c c':Cel) (cs:List Cel):zeF come mu [a] (c::c' :: cs)=none:=rfl
theorem zmc (come:Bool) (mu:List (Nat×Cont)) (a b:RC) (r:List RC):zeF come mu (a::b::r) []=none:=rfl
theorem zm9 (come:Bool) (mu:List (Nat×Cont)) (a b:RC) (r:List RC) (c:Cel) (cs:List Cel):zeF come mu (a::b::r) (c::cs)=match zgk come mu a c with
    | some (x,mu')=>match zeF come mu' (b::r) cs with
     | some (y,mu'')=>some ((x,y),mu'')
     | none=>none
    | none=>none:=rfl
theorem zoY (n:Nat) (mu:List (Nat×Cont)):zdf mu n [] []=some ((),mu):=rfl
theorem zi0 (n:Nat) (mu:List (Nat×Cont)) (c:SV) (cs:List SV):zdf mu n [] (c::cs)=none:=rfl
theorem zi1 (n:Nat) (mu:List (Nat×Cont)) (a:RV):zdf mu n [a] []=none:=rfl
theorem zoZ (n:Nat) (mu:List (Nat×Cont)) (a:RV) (c:SV):zdf mu n [a] [c]=zkI (Nat.beq n 0) mu a c:=rfl
theorem zi2 (n:Nat) (mu:List (Nat×Cont)) (a:RV) (c c':SV) (cs:List SV):zdf mu n [a] (c::c' :: cs)=none:=rfl
theorem zhF (n:Nat) (mu:List (Nat×Cont)) (a b:RV) (r:List RV):zdf mu n (a::b::r) []=none:=rfl
theorem zi3 (n:Nat) (mu:List (Nat×Cont)) (a b:RV) (r:List RV) (c:SV) (cs:List SV):zdf mu n (a::b::r) (c::cs)=match zkI (Nat.beq n 0) mu a c with
    | some (x,mu')=>match zdf mu' (n-1) (b::r) cs with
     | some (y,mu'')=>some ((x,y),mu'')
     | none=>none
    | none=>none:=rfl
theorem zkn (o:Option RMode) (id:Nat) (x:zho []):zdr o id [] x=([],[]):=rfl
theorem zi4 (o:Option RMode) (id:Nat) (a b:RC) (r:List RC) (x:zho (a::b::r)):zdr o id (a::b::r) x=((zbW o id a x.1).1::(zdr o (id+1) (b::r) x.2).1,(zbW o id a x.1).2++(zdr o (id+1) (b::r) x.2).2):=rfl
theorem zko (os:List (Option RMode)) (id:Nat) (x:zgc []):zaQ os id [] x=([],[]):=by cases os <;> rfl
theorem zi5 (o:Option RMode) (os:List (Option RMode)) (id:Nat) (a b:RV) (r:List RV) (x:zgc (a::b::r)) :
    zaQ (o::os) id (a::b::r) x=((zgh o id a x.1).1::(zaQ os (id+20) (b::r) x.2).1,(zgh o id a x.1).2++(zaQ os (id+20) (b::r) x.2).2):=rfl
theorem zp6 (come:Bool) (mu:List (Nat×Cont)) (a:RC) (c:Cel):zkI come mu (.one a) (.one c)=zgk come mu a c:=rfl
theorem zp7 (come:Bool) (mu:List (Nat×Cont)) (a:List RC) (c:List Cel):zkI come mu (.agg a) (.agg c)=zeF come mu a c:=rfl
theorem zp8 (come:Bool) (mu:List (Nat×Cont)) (a:RC) (c:List Cel):zkI come mu (.one a) (.agg c)=none:=rfl
theorem zp9 (come:Bool) (mu:List (Nat×Cont)) (a:List RC) (c:Cel):zkI come mu (.agg a) (.one c)=none:=rfl
def rcTy (C:Ctx) (rc:RC):Prop:=∀ e t,rc = .row e t->zjV C e t
def rvTy (C:Ctx):RV->Prop
 | .one c=>rcTy C c
 | .agg cs=>∀ c∈cs,rcTy C c
def SRo (σ:Sit) (s:SV):Option Value->Prop
 | some v=>SR σ s v
 | none=>∃ e t xs,s = .one (.frow e t xs)
def SRb (sl:Bool) (σ:Sit) (s s':SV):Option Value->Prop
 | some v=>SR σ s' v
 | none=>∃ e t xs,s = .one (.frow e t xs)/\s' = .one (.sl e t xs)/\(t.hasSl=true->sl=true)
theorem SRo.mono {σ σ':Sit} (h:σ.Le σ') {s:SV}:∀ {v:Option Value},SRo σ s v->SRo σ' s v
 | some _,k=>SR.mono h _ _ k
 | none,k=>k
theorem SRb.mono {sl:Bool} {σ σ':Sit} (h:σ.Le σ') {s s':SV}:∀ {v:Option Value},SRb sl σ s s' v->SRb sl σ' s s' v
 | some _,k=>SR.mono h _ _ k
 | none,k=>k
theorem zkp {a b c:List Nat} (h:(a++(b++c)).Nodup):(a++b).Nodup:=by
 rw [<- List.append_assoc] at h
 exact (List.nodup_append.1 h).1
theorem zi6 {a b c:List Nat} (h:(a++(b++c)).Nodup):((a++b)++c).Nodup:=by rwa [List.append_assoc]
section
variable {B:Base} {w:World}
def Enc1 (B:Base) (w:World) (sl:Bool) (mu'' muF:List (Nat×Cont)) (ρ:Nat->Option RI) (κ:List (Nat×Nat)) (adds:List (Nat×Cont)) (G:Sit->Prop):Prop :=
 ∃ muF' dead' ρ' κ',zl9 B w mu'' muF' dead' ρ' κ' /\ EncStep B w muF muF' ρ ρ' κ κ' /\ κ'.map Prod.fst=κ.map Prod.fst++adds.map Prod.fst/\G (sitR B sl muF' ρ' w κ')/\Adds sl muF' κ' adds
theorem zhG {sl come:Bool} {o:Option RMode} (ho:come=false/\(o=none \/ o=some .own) \/ o=some .come):∀ {rcs:List RC} {cs:List Cel} {us:List Value} {mu' mu'' muF:List (Nat×Cont)} {dead:List Nat} {ρ:Nat->Option RI} {κ:List (Nat×Nat)} {x:zho rcs} {id:Nat},
    zl9 B w mu' muF dead ρ κ->(∀ rc∈rcs,rc.hasSl=true->sl=true)->(∀ rc∈rcs,rcTy B.C rc)->zeF come mu' rcs cs=some (x,mu'')->CRs (B.sit (zaa muF) ρ w) cs us ->
    (κ.map Prod.fst++(zdr o id rcs x).2.map Prod.fst).Nodup->Enc1 B w sl mu'' muF ρ κ (zdr o id rcs x).2 fun σ=>CRs σ (zdr o id rcs x).1 us
 | [],cs,us,mu',mu'',muF,dead,ρ,κ,x,id,S,_,_,h,hc,_=>by
  cases cs with
  | nil =>
   rw [zoW] at h
   have e3:mu'=mu'':=congrArg Prod.snd (Option.some.inj h)
   subst e3
   rw [zkn]
   exact ⟨muF,dead,ρ,κ,S,EncStep.refl _ _ _,by simp,by simpa [CRs] using hc,Adds.nil⟩
  | cons c cs=>rw [zm6] at h; cases h
 | [a],cs,us,mu',mu'',muF,dead,ρ,κ,x,id,S,hsl,hty,h,hc,hid=>by
  match cs,h,hc with
  | [],h,_=>rw [zm7] at h; cases h
  | [c],h,hc =>
   rw [zoX] at h
   obtain ⟨u,rfl,h1⟩:=zmT.1 hc
   have ho':zma come o (some u):=ho.elim (fun h=>.inl ⟨h,by simp⟩) (fun h=>.inr (.inl ⟨h,by simp⟩))
   obtain ⟨muF',dead',ρ',κ',r1,r2,r3,r4,r5⟩:=zfT S (hsl a (by simp)) (hty a (by simp)) h (id:=id) (ov:=some u) ho' h1 hid
   exact ⟨muF',dead',ρ',κ',r1,r2,r3,zmT.2 ⟨u,rfl,r4⟩,r5⟩
  | _::_::_,h,_=>rw [zm8] at h; cases h
 | a::b::r,cs,us,mu',mu'',muF,dead,ρ,κ,x,id,S,hsl,hty,h,hc,hid=>by
  cases cs with
  | nil=>rw [zmc] at h; cases h
  | cons c cs =>
   rw [zm9] at h
   split at h
   · rename_i x1 mu1 h1
     split at h
     · rename_i x2 mu2 h2
       have hx:=Option.some.inj h
       have e1:x1=x.1:=congrArg (fun p=>p.1.1) hx
       have e2:x2=x.2:=congrArg (fun p=>p.1.2) hx
       have e3:mu2=mu'':=congrArg Prod.snd hx
       clear hx h
       subst e1 e2 e3
       simp only [CRs] at hc
       obtain ⟨u,us',rfl,hc1,hc2⟩:=hc
       have ho':zma come o (some u):=ho.elim (fun h=>.inl ⟨h,by simp⟩) (fun h=>.inr (.inl ⟨h,by simp⟩))
       rw [zi4] at hid ⊢
       simp only [List.map_append] at hid ⊢
       obtain ⟨muF1,dead1,ρ1,κ1,r1,r2,r3,r4,r5⟩:=zfT S (hsl a (by simp)) (hty a (by simp)) h1 (id:=id) (ov:=some u) ho' hc1 (zkp hid)
       have hid2:=zi6 hid
       rw [<- r3] at hid2
       obtain ⟨muF2,dead2,ρ2,κ2,q1,q2,q3,q4,q5⟩:=zhG ho r1 (fun rc hrc=>hsl rc (List.mem_cons_of_mem _ hrc)) (fun rc hrc=>hty rc (List.mem_cons_of_mem _ hrc)) h2 (CRs.mono r2.le _ _ hc2) hid2
       refine ⟨muF2,dead2,ρ2,κ2,q1,r2.trans q2,by rw [q3,r3,List.map_append,List.append_assoc],?_,(Adds.step q2 r5).append q5⟩
       simp only [CRs]
       exact ⟨u,us',rfl,CRb.mono (q2.sit sl) (v:=some u) r4,q4⟩
     · cases h
   · cases h
theorem zi7 {sl come:Bool} {o:Option RMode} {rv:RV} {s:SV} {ov:Option Value} (ho:zma come o ov) {mu' mu'' muF:List (Nat×Cont)} {dead:List Nat} {ρ:Nat->Option RI} {κ:List (Nat×Nat)} {x:rv.den} {id:Nat}
    (S:zl9 B w mu' muF dead ρ κ) (hsl:rv.hasSl=true->sl=true) (hty:rvTy B.C rv) (h:zkI come mu' rv s=some (x,mu'')) (hc:SRo (B.sit (zaa muF) ρ w) s ov)
    (hid:(κ.map Prod.fst++(zgh o id rv x).2.map Prod.fst).Nodup):Enc1 B w sl mu'' muF ρ κ (zgh o id rv x).2 fun σ=>SRb sl σ s (zgh o id rv x).1 ov:=by
 cases rv with
 | one rc =>
  cases s with
  | agg cs=>rw [zp8] at h; cases h
  | one c =>
   rw [zp6] at h
   have hc':CRo (B.sit (zaa muF) ρ w) c ov:=by
    cases ov with
    | some v=>exact hc
    | none=>obtain ⟨e,t,xs,h⟩:=hc; cases h; exact ⟨e,t,xs,rfl⟩
   obtain ⟨muF',dead',ρ',κ',r1,r2,r3,r4,r5⟩:=zfT S hsl hty h (id:=id) ho hc' hid
   refine ⟨muF',dead',ρ',κ',r1,r2,r3,?_,r5⟩
   cases ov with
   | some v=>exact r4
   | none=>obtain ⟨e,t,xs,h1,h2,h3⟩:=r4; exact ⟨e,t,xs,by rw [h1],by simp only [zgh,h2],h3⟩
 | agg rcs =>
  cases s with
  | one c=>rw [zp9] at h; cases h
  | agg cs =>
   rw [zp7] at h
   have hv:∃ v,ov=some v:=by
    cases ov with
    | some v=>exact ⟨v,rfl⟩
    | none=>obtain ⟨e,t,xs,h⟩:=hc; cases h
   obtain ⟨v,rfl⟩:=hv
   obtain ⟨us,rfl,h1⟩ : SR (B.sit (zaa muF) ρ w) (.agg cs) v:=hc
   have ho':come=false/\(o=none \/ o=some .own) \/ o=some .come:=by
    rcases ho with ⟨h,_⟩ | ⟨h,_⟩ | ⟨_,h⟩
    · exact .inl h
    · exact .inr h
    · cases h
   obtain ⟨muF',dead',ρ',κ',r1,r2,r3,r4,r5⟩:=zhG ho' (id:=id) S (fun rc hrc hs=>hsl (by simp only [RV.hasSl,List.any_eq_true]; exact ⟨rc,hrc,hs⟩)) hty h h1 hid
   exact ⟨muF',dead',ρ',κ',r1,r2,r3,⟨us,rfl,r4⟩,r5⟩
def SRos (σ:Sit):List SV->List (Option Value)->Prop
 | [],vs=>vs=[]
 | s::ss,vs=>∃ v r,vs=v::r/\SRo σ s v/\SRos σ ss r
def SRbs (sl:Bool) (σ:Sit):List SV->List SV->List (Option Value)->Prop
 | [],ss',vs=>ss'=[]/\vs=[]
 | s::ss,ss',vs=>∃ s' r' v r,ss'=s' :: r' /\ vs=v::r/\SRb sl σ s s' v/\SRbs sl σ ss r' r
theorem SRos.mono {σ σ':Sit} (h:σ.Le σ'):∀ {s:List SV} {v:List (Option Value)},SRos σ s v->SRos σ' s v
 | [],_,k=>k
 | _::_,_,⟨v,r,e,h1,h2⟩=>⟨v,r,e,h1.mono h,SRos.mono h h2⟩
def zdI:Nat->List (Option RMode)->List (Option Value)->Prop
 | _,_,[]=>True
 | n,o::os,v::vs=>zma (Nat.beq n 0) o v/\zdI (n-1) os vs
 | _,[],_::_=>False
theorem zhH {sl:Bool}:∀ {rvs:List RV} {ss:List SV} {vs:List (Option Value)} {n:Nat} {os:List (Option RMode)} {mu' mu'' muF:List (Nat×Cont)} {dead:List Nat} {ρ:Nat->Option RI} {κ:List (Nat×Nat)} {x:zgc rvs} {id:Nat},
    zdI n os vs->zl9 B w mu' muF dead ρ κ->(∀ rv∈rvs,rv.hasSl=true->sl=true)->(∀ rv∈rvs,rvTy B.C rv)->zdf mu' n rvs ss=some (x,mu'')->SRos (B.sit (zaa muF) ρ w) ss vs ->
    (κ.map Prod.fst++(zaQ os id rvs x).2.map Prod.fst).Nodup->Enc1 B w sl mu'' muF ρ κ (zaQ os id rvs x).2 fun σ=>SRbs sl σ ss (zaQ os id rvs x).1 vs
 | [],ss,vs,n,os,mu',mu'',muF,dead,ρ,κ,x,id,_,S,_,_,h,hc,_=>by
  cases ss with
  | nil =>
   rw [zoY] at h
   have e3:mu'=mu'':=congrArg Prod.snd (Option.some.inj h)
   subst e3
   have hv:vs=[]:=hc
   subst hv
   rw [zko]
   exact ⟨muF,dead,ρ,κ,S,EncStep.refl _ _ _,by simp,⟨rfl,rfl⟩,Adds.nil⟩
  | cons c cs=>rw [zi0] at h; cases h
 | [a],ss,vs,n,os,mu',mu'',muF,dead,ρ,κ,x,id,ho,S,hsl,hty,h,hc,hid=>by
  match ss,h,hc with
  | [],h,_=>rw [zi1] at h; cases h
  | [s],h,hc =>
   rw [zoZ] at h
   obtain ⟨v,r,rfl,h1,h2⟩:=hc
   have h2':r=[]:=h2
   subst h2'
   match os,ho,hid with
   | [],ho,_=>exact ho.elim
   | o::os,ho,hid =>
    obtain ⟨muF',dead',ρ',κ',r1,r2,r3,r4,r5⟩:=zi7 ho.1 S (hsl a (by simp)) (hty a (by simp)) h (id:=id) h1 hid
    exact ⟨muF',dead',ρ',κ',r1,r2,r3,⟨_,_,_,_,rfl,rfl,r4,rfl,rfl⟩,r5⟩
  | _::_::_,h,_=>rw [zi2] at h; cases h
 | a::b::r,ss,vs,n,os,mu',mu'',muF,dead,ρ,κ,x,id,ho,S,hsl,hty,h,hc,hid=>by
  cases ss with
  | nil=>rw [zhF] at h; cases h
  | cons s ss =>
   rw [zi3] at h
   split at h
   · rename_i x1 mu1 h1
     split at h
     · rename_i x2 mu2 h2
       have hx:=Option.some.inj h
       have e1:x1=x.1:=congrArg (fun p=>p.1.1) hx
       have e2:x2=x.2:=congrArg (fun p=>p.1.2) hx
       have e3:mu2=mu'':=congrArg Prod.snd hx
       clear hx h
       subst e1 e2 e3
       obtain ⟨v,vs',rfl,hc1,hc2⟩:=hc
       match os,ho,hid with
       | [],ho,_=>exact ho.elim
       | o::os,ho,hid =>
        rw [zi5] at hid ⊢
        simp only [List.map_append] at hid ⊢
        obtain ⟨muF1,dead1,ρ1,κ1,r1,r2,r3,r4,r5⟩:=zi7 ho.1 S (hsl a (by simp)) (hty a (by simp)) h1 (id:=id) hc1 (zkp hid)
        have hid2:=zi6 hid
        rw [<- r3] at hid2
        obtain ⟨muF2,dead2,ρ2,κ2,q1,q2,q3,q4,q5⟩:=zhH ho.2 r1 (fun rc hrc=>hsl rc (List.mem_cons_of_mem _ hrc)) (fun rc hrc=>hty rc (List.mem_cons_of_mem _ hrc)) h2 (hc2.mono r2.le) hid2
        exact ⟨muF2,dead2,ρ2,κ2,q1,r2.trans q2,by rw [q3,r3,List.map_append,List.append_assoc],⟨_,_,_,_,rfl,rfl,r4.mono (q2.sit sl),q4⟩,(Adds.step q2 r5).append q5⟩
     · cases h
   · cases h
end
end Go.Proofs.YtdhkgmhdengnkaaGreatDoorPi
namespace Go.Proofs.YtdhkgmhdengnkaaGreatDoorPi
set_option linter.unusedVariables false
set_option linter.unusedSimpArgs false
open Go
def retV:List Value->Value
 | [u]=>u
 | us=>.tuple us.toArray
def zkU (sl:Bool) (muF:List (Nat×Cont)) (j:Nat):Nat->List (Option (TypeId×Ty))->List SV->List SV->Prop
 | _,[],out,rest=>rest=out
 | i,none::r,out,rest=>zkU sl muF j (i+1) r out rest
 | i,some _::r,out,rest=>∃ e t xs out',out = .one (.sl e t xs)::out' /\ (t.hasSl=true->sl=true)/\zaa muF (inId j+1+i)=some (.row e t xs .lent)/\zkU sl muF j (i+1) r out' rest
def zi8 (sl:Bool) (muF:List (Nat×Cont)) (ρF:Nat->Option RI) (w:World) (σR:Sit):Nat->List Par->List SV->Prop
 | _,[],out=>out=[]
 | j,.val::ps,out=>zi8 sl muF ρF w σR (j+1) ps out
 | j,.box e _::ps,out=>∃ cs out' i g cur cF,out = .agg cs::out' /\ zaa muF (inId j)=some (.box e cF)/\ρF (inId j)=some i/\i.g=some g/\w.heap[g]? = some (.cells cur e (0,0)) /\
     CRs σR cs cur.toList/\zi8 sl muF ρF w σR (j+1) ps out'
 | j,.mix _ cs::ps,out=>∃ rest,zkU sl muF j 0 cs out rest/\zi8 sl muF ρF w σR (j+1) ps rest
def Ret (B:Base) (S:Sig) (flags:List (Option RMode)) (base:Nat) (x:S.den) (v:Value) (w:World):Prop :=
 ∃ muF deadF ρF κ,MInv B (zaa muF) deadF ρF w/\(∀ id,isIn id=true->zaa muF id ≠ none->ρF id=B.pin id)/\(∀ id id' k,(id,k)∈κ->(id',k)∈κ->id=id') /\
  κ.map Prod.fst=(zaQ flags base S.outs x).2.map Prod.fst /\
  (∃ us,SRs (sitR B (S.outs.any RV.hasSl) muF ρF w κ) ((zaQ flags base S.outs x).1.take S.res.length) us/\v=retV us) /\
  Adds (S.outs.any RV.hasSl) muF κ (zaQ flags base S.outs x).2/\zi8 (S.outs.any RV.hasSl) muF ρF w (sitR B (S.outs.any RV.hasSl) muF ρF w κ) 0 S.pars ((zaQ flags base S.outs x).1.drop S.res.length)
section
variable {B:Base} {P:Program} {w:World}
theorem zc4:∀ (cs:List (Option (TypeId×Ty))) {mu:Look} {j i:Nat} {os:List SV},zbn mu j i cs=some os->os.length=(zgd cs).length
 | [],mu,j,i,os,h=>by simp only [zbn] at h; cases h; rfl
 | none::r,mu,j,i,os,h=>by simp only [zbn] at h; simpa [zgd] using zc4 r h
 | some (e,t)::r,mu,j,i,os,h=>by
  simp only [zbn] at h
  split at h
  · rename_i e' t' xs m l hm hl
    split at h
    · cases h; simp [zgd,zc4 r hl]
    · cases h
  · cases h
theorem zcE:∀ (ps:List Par) {mu:Look} {j:Nat} {os:List SV},zcd mu j ps=some os->os.length=(zjR ps).length
 | [],mu,j,os,h=>by simp only [zcd] at h; cases h; rfl
 | .val::ps,mu,j,os,h=>by simp only [zcd] at h; simpa [zjR] using zcE ps h
 | .box e cs::ps,mu,j,os,h=>by
  simp only [zcd] at h
  split at h
  · obtain ⟨_,h⟩:=zaj h
    split at h
    · rename_i l hl
      cases h; simp [zjR,zcE ps hl]
    · cases h
  · cases h
 | .mix b cs::ps,mu,j,os,h=>by
  simp only [zcd] at h
  split at h
  · rename_i l l' hl hl'
    cases h; simp [zjR,zcE ps hl',zc4 cs hl]
  · cases h
theorem zfU {σ:Sit}:∀ {a b:List SV} {x y:List (Option Value)},SRos σ a x->SRos σ b y->SRos σ (a++b) (x++y)
 | [],b,x,y,h,k=>by rw [show x=[] from h]; exact k
 | s::a,b,x,y,⟨v,r,e,h1,h2⟩,k=>by subst e; exact ⟨v,_,rfl,h1,zfU h2 k⟩
theorem zfV {sl:Bool} {σ:Sit}:∀ {a b:List SV} {out:List SV} {x y:List (Option Value)},SRbs sl σ (a++b) out (x++y)->a.length=x.length->∃ o1 o2,out=o1++o2/\SRbs sl σ a o1 x/\SRbs sl σ b o2 y/\o1.length=a.length
 | [],b,out,x,y,h,hl=>by
  have:x=[]:=List.eq_nil_of_length_eq_zero hl.symm
  subst this
  exact ⟨[],out,rfl,⟨rfl,rfl⟩,h,rfl⟩
 | s::a,b,out,[],y,h,hl=>by simp at hl
 | s::a,b,out,x0::x,y,⟨s',r',v,r,e1,e2,h1,h2⟩,hl=>by
  cases e2
  obtain ⟨o1,o2,h3,h4,h5,h6⟩:=zfV h2 (by simpa using hl)
  subst e1 h3
  exact ⟨s' :: o1,o2,rfl,⟨_,_,_,_,rfl,rfl,h1,h4⟩,h5,by simp [h6]⟩
theorem zkq {sl:Bool} {σ:Sit}:∀ {a out:List SV} {us:List Value},SRbs sl σ a out (us.map some)->SRs σ out us
 | [],out,us,⟨h1,h2⟩=>by subst h1; cases us with | nil=>rfl | cons u us=>simp at h2
 | s::a,out,[],⟨_,_,_,_,_,e2,_⟩=>by cases e2
 | s::a,out,u::us,⟨s',r',v,r,e1,e2,h1,h2⟩=>by
  cases e2
  subst e1
  exact ⟨u,us,rfl,h1,zkq h2⟩
theorem zmd {σ:Sit}:∀ {a:List SV} {us:List Value},SRs σ a us->SRos σ a (us.map some)
 | [],us,h=>by rw [show us=[] from h]; rfl
 | s::a,us,⟨u,r,e,h1,h2⟩=>by subst e; exact ⟨_,_,rfl,h1,zmd h2⟩
theorem zg6 {σ:Sit}:∀ {a:List SV} {us:List Value},SRs σ a us->us.length=a.length
 | [],us,h=>by rw [show us=[] from h]; rfl
 | s::a,us,⟨u,r,e,h1,h2⟩=>by subst e; simp [zg6 h2]
theorem zeX {sl:Bool} {muF:List (Nat×Cont)} {j:Nat} {σ:Sit}:∀ {cs:List (Option (TypeId×Ty))} {i:Nat} {os:List SV},zbn (zaa muF) j i cs=some os ->
    ∃ ovs,SRos σ os ovs/\zdI 0 ((zgd cs).map fun _=>none) ovs /\ ∀ muF' σR out,(∀ id e t xs,zaa muF id=some (.row e t xs .lent)->zaa muF' id=some (.row e t xs .lent))->SRbs sl σR os out ovs->∀ rest,zkU sl muF' j i cs (out++rest) rest
 | [],i,os,h=>by
  simp only [zbn] at h
  cases h
  exact ⟨[],rfl,trivial,fun muF' σR out _ ho rest=>by rw [ho.1]; rfl⟩
 | none::r,i,os,h=>by
  simp only [zbn] at h
  exact zeX (sl:=sl) (cs:=r) h
 | some (e,t)::r,i,os,h=>by
  simp only [zbn] at h
  split at h
  · rename_i e' t' xs m l hm hl
    split at h
    · cases h
      obtain ⟨ovs,h1,h2,h3⟩:=zeX (sl:=sl) (cs:=r) (σ:=σ) hl
      refine ⟨none::ovs,⟨_,_,rfl,⟨_,_,_,rfl⟩,h1⟩,⟨.inr (.inr ⟨rfl,rfl⟩),h2⟩,fun muF' σR out hk ho rest=>?_⟩
      obtain ⟨s',r',v,r2,e1,e2,h4,h5⟩:=ho
      cases e2
      subst e1
      obtain ⟨e1,t1,xs1,h6,h7,h8⟩:=h4
      cases h6
      subst h7
      exact ⟨_,_,_,_,rfl,h8,hk _ _ _ _ hm,h3 muF' σR r' hk h5 rest⟩
    · cases h
  · cases h
theorem zeY:∀ {a b:List (Option RMode)} {x y:List (Option Value)},zdI 0 a x->zdI 0 b y->a.length=x.length->zdI 0 (a++b) (x++y)
 | [],b,x,y,_,k,hl=>by rw [List.eq_nil_of_length_eq_zero hl.symm]; exact k
 | o::a,b,[],y,_,_,hl=>by simp at hl
 | o::a,b,v::x,y,h,k,hl=>⟨h.1,zeY h.2 k (by simpa using hl)⟩
theorem zfW {σ:Sit}:∀ {a:List SV} {x:List (Option Value)},SRos σ a x->x.length=a.length
 | [],x,h=>by rw [show x=[] from h]; rfl
 | s::a,x,⟨v,r,e,h1,h2⟩=>by subst e; simp [zfW h2]
theorem zc5 {sl:Bool} {muF:List (Nat×Cont)} {dead:List Nat} {ρ:Nat->Option RI} (H:MInv B (zaa muF) dead ρ w):∀ {ps:List Par} {j:Nat} {os:List SV},zcd (zaa muF) j ps=some os ->
    ∃ ovs,SRos (B.sit (zaa muF) ρ w) os ovs/\zdI 0 (zdW ps) ovs/\(zdW ps).length=ovs.length /\ ∀ muF' ρ' σR out,(∀ id c,zaa muF id=some c->zp5 c->zaa muF' id=some c)->(∀ id i,ρ id=some i->ρ' id=some i) ->
     SRbs sl σR os out ovs->zi8 sl muF' ρ' w σR j ps out
 | [],j,os,h=>by
  simp only [zcd] at h
  cases h
  exact ⟨[],rfl,trivial,rfl,fun _ _ _ out _ _ h=>h.1⟩
 | .val::ps,j,os,h=>by
  simp only [zcd] at h
  exact zc5 (sl:=sl) (ps:=ps) H h
 | .box e rcs::ps,j,os,h=>by
  simp only [zcd] at h
  split at h
  · rename_i e' cs hm
    obtain ⟨he,hq⟩:=zaj h
    clear h
    have he:=Nat.eq_of_beq_eq_true he
    subst he
    split at hq
    · rename_i l hl
      cases hq
      obtain ⟨ovs,h1,h2,h2l,h3⟩:=zc5 (sl:=sl) (ps:=ps) H hl
      obtain ⟨i,g,cur,k1,k2,k3,k4⟩:=H.cont _ _ hm
      refine ⟨some (.agg cur)::ovs,⟨_,_,rfl,⟨cur.toList,by simp,k4⟩,h1⟩,⟨.inr (.inl ⟨rfl,by simp⟩),h2⟩,by simp [zdW,h2l],fun muF' ρ' σR out hk hρ ho=>?_⟩
      obtain ⟨s',r',v,r2,e1,e2,h4,h5⟩:=ho
      cases e2
      subst e1
      have hs:∃ cs',s' = .agg cs' /\ CRs σR cs' cur.toList:=by
       cases s' with
       | one c =>
        have h4':CR σR c (.agg cur):=h4
        have:=znV _ _ h4'
        simp [Value.oneCell'] at this
       | agg cs' =>
        obtain ⟨us,e3,h6⟩:=h4
        simp only [Value.agg.injEq] at e3
        exact ⟨cs',rfl,by rw [e3]; simpa using h6⟩
      obtain ⟨cs',rfl,h6⟩:=hs
      exact ⟨cs',r',i,g,cur,cs,rfl,hk _ _ hm trivial,hρ _ _ k1,k2,k3,h6,h3 muF' ρ' σR r' hk hρ h5⟩
    · cases hq
  · cases h
 | .mix b cs::ps,j,os,h=>by
  simp only [zcd] at h
  split at h
  · rename_i l l' hl hl'
    cases h
    obtain ⟨ovs,h1,h2,h2l,h3⟩:=zc5 (sl:=sl) (ps:=ps) H hl'
    obtain ⟨ovs1,k1,k2,k3⟩:=zeX (sl:=sl) (σ:=B.sit (zaa muF) ρ w) hl
    have hlen:((zgd cs).map fun _=>(none:Option RMode)).length=ovs1.length:=by
     rw [zfW k1,zc4 cs hl,List.length_map]
    refine ⟨ovs1++ovs,zfU k1 h1,zeY k2 h2 hlen,by simp only [zdW,List.length_append,h2l,hlen],fun muF' ρ' σR out hk hρ ho=>?_⟩
    obtain ⟨o1,o2,rfl,h4,h5,_⟩:=zfV ho (zfW k1).symm
    exact ⟨o2,k3 muF' σR o1 (fun id e t xs he=>hk _ _ he trivial) h4 o2,h3 muF' ρ' σR o2 hk hρ h5⟩
  · cases h
end
end Go.Proofs.YtdhkgmhdengnkaaGreatDoorPi
namespace Go.Proofs.YtdhkgmhdengnkaaGreatDoorPi
set_option linter.unusedVariables false
set_option linter.unusedSimpArgs false
open Go
section
variable {B:Base} {P:Program} {w:World} {n:Nat}
def zqa (tmps:Array Value):ResultVar->Sem Value
 | .tmp t=>pure (tmps.getD t undef)
 | .cell a t=>do loadVar t (<- asAddr (tmps.getD a undef))
theorem zme (OK:POk P B.C) {s:St} {ρ:Nat->Option RI} {a:Act} (H:StR B n s ρ a w) {r:ResultVar} {v:SV} (h:znU B.C s r=some v) :
    ∃ u,(zqa a.tmps r).run P w = .ok u w/\SR (B.sit (zaa s.mu) ρ w) v u:=by
 cases r with
 | tmp t =>
  simp only [znU] at h
  split at h
  · rename_i v' hv
    cases h
    have:=H.env.val t _ hv
    exact ⟨_,rfl,this⟩
  · cases h
 | cell p ty =>
  simp only [znU] at h
  split at h
  · rename_i id off ti hp hT
    split at h
    · rename_i e cs hm
      have h1:CR (B.sit (zaa s.mu) ρ w) (.ptr id off) (a.eval (.tmp p)):=H.env.val p _ hp
      obtain ⟨g,o,us,h2,h3,h4⟩:=ziC (p:=.ptr id off) (cs:=cs) (off:=off) H.inv.cont (by simp [zlw,hm]) h1
      obtain ⟨u,h5,h6⟩:=zfv (OK.T ty ti hT) h h3 h4
      refine ⟨u,?_,h6⟩
      have e1:a.tmps.getD p undef = .pointer (some ⟨g,o+off,none⟩):=h2
      simp only [zqa,e1,Sem.run_bind]
      exact h5
    · cases h
  · cases h
theorem zgA (OK:POk P B.C) {s:St} {ρ:Nat->Option RI} {a:Act} (H:StR B n s ρ a w):∀ {rs:List ResultVar} {vs:List SV},zix B.C s rs=some vs ->
    ∃ us,(rs.mapM (zqa a.tmps)).run P w = .ok us w/\SRs (B.sit (zaa s.mu) ρ w) vs us
 | [],vs,h=>by simp only [zix] at h; cases h; exact ⟨[],rfl,rfl⟩
 | r::rs,vs,h=>by
  simp only [zix] at h
  split at h
  · rename_i v hv
    split at h
    · rename_i vs' hvs
      cases h
      obtain ⟨u,h1,h2⟩:=zme OK H hv
      obtain ⟨us,h3,h4⟩:=zgA OK H hvs
      exact ⟨u::us,by simp [List.mapM_cons,h1,h3],⟨u,us,rfl,h2,h4⟩⟩
    · cases h
  · cases h
theorem zmf {fn:Func} {tmps:Array Value} {us:List Value} (h:(fn.results.toList.mapM (zqa tmps)).run P w = .ok us w):(results fn tmps).run P w = .ok (retV us) w:=by
 have e:results fn tmps=(do let vs <- fn.results.mapM (zqa tmps); pure (if h:vs.size=1 then vs[0] else .tuple vs)):=by
  unfold results
  congr 1
 rw [e,Array.mapM_eq_mapM_toList]
 simp only [map_eq_pure_bind,bind_assoc,pure_bind,Sem.run_bind,h,Result.andThen_ok,Sem.run_pure]
 match us with
 | []=>rfl
 | [u]=>rfl
 | u::u' :: r=>rfl
theorem zi9 {o:Option RMode} (ho:o=none \/ o=some .own) {fs:List (Option RMode)} {ovs:List (Option Value)} (h:zdI 0 fs ovs):∀ (us:List Value),zdI us.length (us.map (fun _=>o)++fs) (us.map some++ovs)
 | []=>h
 | u::us=>⟨.inl ⟨⟨rfl,ho⟩,by simp⟩,by simpa using zi9 ho h us⟩
theorem zgB:∀ {rvs:List RV} {ss:List SV} {m:Nat} {mu mu':List (Nat×Cont)} {x:zgc rvs},zdf mu m rvs ss=some (x,mu')->ss.length=rvs.length
 | [],ss,m,mu,mu',x,h=>by
  cases ss with
  | nil=>rfl
  | cons=>rw [zi0] at h; cases h
 | [a],ss,m,mu,mu',x,h=>by
  match ss,h with
  | [],h=>rw [zi1] at h; cases h
  | [s],h=>rfl
  | _::_::_,h=>rw [zi2] at h; cases h
 | a::b::r,ss,m,mu,mu',x,h=>by
  cases ss with
  | nil=>rw [zhF] at h; cases h
  | cons s ss =>
   rw [zi3] at h
   split at h
   · split at h
     · rename_i h2
       simp [zgB h2]
     · cases h
   · cases h
def ztZ (C:Ctx):Prop:=∀ g,∀ rv∈(C.sig g).outs,rvTy C rv
theorem zhI (OK:POk P B.C) (SO:ztZ B.C) {g:FuncId} {fn:Func} {s:St} {ρ:Nat->Option RI} {a:Act} (H:StR B n s ρ a w) {x:(B.C.sig g).den} (h:zlD B.C g fn s=some x) {o:Option RMode} (ho:o=none \/ o=some .own) {base:Nat}
    (hid:((zaQ ((B.C.sig g).res.map (fun _=>o)++zdW (B.C.sig g).pars) base (B.C.sig g).outs x).2.map Prod.fst).Nodup) :
    ∃ v,(results fn a.tmps).run P w = .ok v w/\Ret B (B.C.sig g) ((B.C.sig g).res.map (fun _=>o)++zdW (B.C.sig g).pars) base x v w:=by
 unfold zlD at h
 split at h
 · cases h
 · rename_i vs hvs
   split at h
   · cases h
   · rename_i os hos
     split at h
     · rename_i y mu2 henc
       cases h
       obtain ⟨us,hrun,hres⟩:=zgA OK H hvs
       obtain ⟨ovs,h1,h2,h2l,h3⟩:=zc5 (sl:=(B.C.sig g).outs.any RV.hasSl) H.inv hos
       have hlen:vs.length=(B.C.sig g).res.length:=by
        have e1:=zgB henc
        rw [List.length_append,zcE _ hos] at e1
        unfold Sig.outs at e1
        rw [List.length_append] at e1
        omega
       have hul:us.length=(B.C.sig g).res.length:=by rw [zg6 hres,hlen]
       have hfl:zdI (B.C.sig g).res.length ((B.C.sig g).res.map (fun _=>o)++zdW (B.C.sig g).pars) (us.map some++ovs):=by
        have:=zi9 ho h2 us
        rw [hul] at this
        have e2:us.map (fun _=>o)=(B.C.sig g).res.map (fun _=>o):=by rw [List.map_const',List.map_const',hul]
        rwa [e2] at this
       obtain ⟨muF,deadF,ρF,κ,r1,r2,r3,r4,r5⟩:=zhH (sl:=(B.C.sig g).outs.any RV.hasSl) (id:=base) (κ:=[]) hfl
        ⟨H.inv,fun _ _ h=>h,fun _ _ h=>by simp at h,fun _ _ _ h=>by simp at h,fun _ _ h=>by simp at h,H.pin⟩
        (fun rv hrv hs=>List.any_eq_true.2 ⟨rv,hrv,hs⟩) (SO g) henc (zfU (zmd hres) h1) (by simpa using hid)
       obtain ⟨o1,o2,e1,k1,k2,k3⟩:=zfV r4 (by rw [List.length_map,zg6 hres])
       refine ⟨retV us,zmf hrun,muF,deadF,ρF,κ,r1.inv,r1.pin,r1.inj,by simpa using r3,⟨us,?_,rfl⟩,r5,?_⟩
       · rw [e1,<- hlen,<- k3,List.take_left]
         exact zkq k1
       · rw [e1,<- hlen,<- k3,List.drop_left]
         exact h3 muF ρF _ o2 (fun id c hc hn=>r2.keep id c hc (.inr hn)) (fun id i hi=>r2.le.id _ _ hi) k2
     · cases h
end
end Go.Proofs.YtdhkgmhdengnkaaGreatDoorPi
namespace Go.Proofs.YtdhkgmhdengnkaaGreatDoorPi
set_option linter.unusedVariables false
set_option linter.unusedSimpArgs false
open Go
theorem edits_last:∀ (ed:List (Nat×Option Cont)) (mu:List (Nat×Cont)) (id:Nat),(∃ c,(id,c)∈ed)->∃ c,(id,c)∈ed/\zaa (zab mu ed) id=c
 | [],mu,id,h=>by obtain ⟨c,h⟩:=h; simp at h
 | (k,none)::r,mu,id,h=>by
  simp only [zab]
  by_cases hr:∃ c,(id,c)∈r
  · obtain ⟨c,h1,h2⟩:=edits_last r (adel mu k) id hr
    exact ⟨c,List.mem_cons_of_mem _ h1,h2⟩
  · obtain ⟨c,h⟩:=h
    rcases List.mem_cons.1 h with e | h
    · cases e
      refine ⟨none,List.mem_cons_self,?_⟩
      rw [edits_last.edits_not r _ _ fun c hc=>hr ⟨c,hc⟩]
      exact zaD _ _
    · exact absurd ⟨c,h⟩ hr
 | (k,some c0)::r,mu,id,h=>by
  simp only [zab]
  by_cases hr:∃ c,(id,c)∈r
  · obtain ⟨c,h1,h2⟩:=edits_last r ((k,c0)::adel mu k) id hr
    exact ⟨c,List.mem_cons_of_mem _ h1,h2⟩
  · obtain ⟨c,h⟩:=h
    rcases List.mem_cons.1 h with e | h
    · cases e
      refine ⟨some c0,List.mem_cons_self,?_⟩
      rw [edits_last.edits_not r _ _ fun c hc=>hr ⟨c,hc⟩]
      exact zag _ _ _
    · exact absurd ⟨c,h⟩ hr
where
 edits_not:∀ (ed:List (Nat×Option Cont)) (mu:List (Nat×Cont)) (id:Nat),(∀ c,(id,c) ∉ ed)->zaa (zab mu ed) id=zaa mu id
 | [],mu,id,_=>rfl
 | (k,none)::r,mu,id,h=>by
  simp only [zab]
  have hne:k ≠ id:=fun e=>h none (by simp [e])
  rw [edits_last.edits_not r _ _ fun c hc=>h c (List.mem_cons_of_mem _ hc),zao hne]
 | (k,some c0)::r,mu,id,h=>by
  simp only [zab]
  have hne:k ≠ id:=fun e=>h (some c0) (by simp [e])
  rw [edits_last.edits_not r _ _ fun c hc=>h c (List.mem_cons_of_mem _ hc),zad _ _ hne,zao hne]
theorem edits_not (ed:List (Nat×Option Cont)) (mu:List (Nat×Cont)) (id:Nat) (h:∀ c,(id,c) ∉ ed):zaa (zab mu ed) id=zaa mu id:=edits_last.edits_not ed mu id h
section
variable {mu:List (Nat×Cont)} {E:List Ent} {muF:List (Nat×Cont)} {ρF:Nat->Option RI} {w':World} {σR:Sit} {sl:Bool}
def EdOk (mu:List (Nat×Cont)) (E:List Ent) (muF:List (Nat×Cont)) (ρF:Nat->Option RI) (w':World) (σR:Sit) (sl:Bool) (id:Nat) (c':Cont):Prop :=
 ∃ k ri,(k,ri,some id)∈E /\
  ((∃ e cs cF i g cur,c' = .box e cs/\zaa muF k=some (.box e cF)/\ρF k=some i/\i.g=some g/\w'.heap[g]? = some (.cells cur e (0,0))/\CRs σR cs cur.toList) \/
   ∃ e t xs m e' t' xs',c' = .row e t xs m/\(t.hasSl=true->sl=true)/\zaa muF k=some (.row e t xs .lent)/\zaa mu id=some (.row e' t' xs' m)/\m ≠ .frozen)
theorem zkV {j:Nat}:∀ {pcs:List (Option (TypeId×Ty))} {cs:List Cel} {i:Nat} {out rest:List SV},MixNames mu E j i pcs cs->zkU sl muF j i pcs out rest ->
    (zaY (zaa mu) pcs cs out).2=rest/\(∀ id c,(id,c)∈(zaY (zaa mu) pcs cs out).1->∃ c',c=some c' /\ EdOk mu E muF ρF w' σR sl id c') /\
     ∀ id∈zcS pcs cs,∃ c',(id,some c')∈(zaY (zaa mu) pcs cs out).1:=by
 intro pcs
 induction pcs with
 | nil =>
  intro cs i out rest hn ho
  cases cs with
  | cons c cs=>simp only [MixNames] at hn
  | nil =>
   simp only [zkU] at ho
   subst ho
   simp [zaY,zcS]
 | cons x r ih =>
  intro cs i out rest hn ho
  cases cs with
  | nil=>cases x <;> simp only [MixNames] at hn
  | cons c cs =>
   cases x with
   | none =>
    simp only [MixNames] at hn
    simp only [zkU] at ho
    simpa only [zaY,zcS] using ih hn ho
   | some x =>
    cases c
    case full id0 =>
     simp only [MixNames] at hn
     simp only [zkU] at ho
     obtain ⟨⟨ri,e0,t0,xs0,m,h1,h2,h3⟩,h4⟩:=hn
     obtain ⟨e,t,xs,out',rfl,h5,h6,h7⟩:=ho
     obtain ⟨k1,k2,k3⟩:=ih h4 h7
     simp only [zaY,h2,zcS]
     refine ⟨k1,fun id c hc=>?_,fun id hid=>?_⟩
     · rcases List.mem_cons.1 hc with e1 | hc
       · cases e1
         exact ⟨_,rfl,_,ri,h1,.inr ⟨e,t,xs,m,e0,t0,xs0,rfl,h5,h6,h2,h3⟩⟩
       · exact k2 id c hc
     · rcases List.mem_cons.1 hid with e1 | hid
       · subst e1
         exact ⟨_,List.mem_cons_self⟩
       · obtain ⟨c',hc'⟩:=k3 id hid
         exact ⟨c',List.mem_cons_of_mem _ hc'⟩
    case nilsl =>
     simp only [MixNames] at hn
     simp only [zkU] at ho
     obtain ⟨e,t,xs,out',rfl,h5,h6,h7⟩:=ho
     simpa only [zaY,zcS] using ih hn h7
    all_goals simp only [MixNames] at hn
theorem zkW:∀ {ps:List Par} {vs:List AV} {j:Nat} {out:List SV},Names mu E j ps vs->zi8 sl muF ρF w' σR j ps out ->
    (∀ id c,(id,c)∈za8 (zaa mu) ps vs out->∃ c',c=some c' /\ EdOk mu E muF ρF w' σR sl id c') /\
     ∀ id,id∈zcb ps vs \/ id∈zbD ps vs->∃ c',(id,some c')∈za8 (zaa mu) ps vs out:=by
 intro ps
 induction ps with
 | nil =>
  intro vs j out hn ho
  cases vs with
  | cons v vs=>simp only [Names] at hn
  | nil=>simp [za8,zcb,zbD]
 | cons p ps ih =>
  intro vs j out hn ho
  cases vs with
  | nil=>cases p <;> simp only [Names] at hn
  | cons v vs =>
   cases p with
   | val =>
    simp only [Names] at hn
    simp only [zi8] at ho
    simpa only [za8,zcb,zbD] using ih hn ho
   | box e rcs =>
    cases v with
    | tup _=>simp only [Names] at hn
    | junk=>simp only [Names] at hn
    | sv s =>
    cases s with
    | agg _=>simp only [Names] at hn
    | one c =>
    cases c
    case ptr id0 off =>
     simp only [Names] at hn
     simp only [zi8] at ho
     obtain ⟨⟨ri,cs0,h1,h2⟩,h3⟩:=hn
     obtain ⟨cs,out',i,g,cur,cF,rfl,k1,k2,k3,k4,k5,k6⟩:=ho
     obtain ⟨r1,r2⟩:=ih h3 k6
     simp only [za8,zcb,zbD]
     refine ⟨fun id c hc=>?_,fun id hid=>?_⟩
     · rcases List.mem_cons.1 hc with e1 | hc
       · cases e1
         exact ⟨_,rfl,_,ri,h1,.inl ⟨e,cs,cF,i,g,cur,rfl,k1,k2,k3,k4,k5⟩⟩
       · exact r1 id c hc
     · by_cases he:id=id0
       · subst he; exact ⟨_,List.mem_cons_self⟩
       · obtain ⟨c',hc'⟩:=r2 id (hid.imp (fun h=>by rcases List.mem_cons.1 h with h | h <;> first | exact absurd h he | exact h) (fun h=>h))
         exact ⟨c',List.mem_cons_of_mem _ hc'⟩
    all_goals simp only [Names] at hn
   | mix b pcs =>
    cases v with
    | tup _=>simp only [Names] at hn
    | junk=>simp only [Names] at hn
    | sv s =>
     simp only [Names] at hn
     simp only [zi8] at ho
     obtain ⟨rest,h1,h2⟩:=ho
     obtain ⟨k1,k2,k3⟩:=zkV (ρF:=ρF) (w':=w') (σR:=σR) hn.1 h1
     rw [<- k1] at h2
     obtain ⟨r1,r2⟩:=ih hn.2 h2
     simp only [za8,zcb,zbD]
     refine ⟨fun id c hc=>?_,fun id hid=>?_⟩
     · rcases List.mem_append.1 hc with hc | hc
       · exact k2 id c hc
       · exact r1 id c hc
     · rcases hid with hid | hid
       · obtain ⟨c',hc'⟩:=r2 id (.inl hid)
         exact ⟨c',List.mem_append_right _ hc'⟩
       · rcases List.mem_append.1 hid with hid | hid
         · obtain ⟨c',hc'⟩:=k3 id hid
           exact ⟨c',List.mem_append_left _ hc'⟩
         · obtain ⟨c',hc'⟩:=r2 id (.inr hid)
           exact ⟨c',List.mem_append_right _ hc'⟩
end
end Go.Proofs.YtdhkgmhdengnkaaGreatDoorPi
namespace Go.Proofs.YtdhkgmhdengnkaaGreatDoorPi
set_option linter.unusedVariables false
set_option linter.unusedSimpArgs false
open Go
section
variable {B:Base} {mu:List (Nat×Cont)} {dead:List Nat} {ρ:Nat->Option RI} {w:World}
theorem zrO {σ:Sit} {l:List SV} {us:List Value} (h:SRs σ l us):AR σ (zsO l) (retV us):=by
 match l,us,h with
 | [],us,h=>rw [show us=[] from h]; exact ⟨[],rfl,rfl⟩
 | [s],us,⟨u,r,e,h1,h2⟩ =>
  have h2':r=[]:=h2
  subst e h2'
  exact h1
 | s::s' :: l,us,⟨u,r,e,h1,u',r',e',h2,h3⟩ =>
  subst e e'
  exact ⟨u::u' :: r',rfl,u,_,rfl,h1,u',r',rfl,h2,h3⟩
theorem zqb (H:MInv B (zaa mu) dead ρ w) {frozen ids rr:List Nat} {ed:List (Nat×Option Cont)} (hf:freeze (zaa mu) frozen=some ed) {S:Sig} {flags:List (Option RMode)} {base:Nat} {x:S.den}
    {sn:List Nat} (hfr:∀ id∈frozen,id∈sn)
    {E:List Ent} {m0:List (Nat×Cont)} (hE:Ents (B:=B) (mu:=mu) (ρ:=ρ) (w:=w) (sn:=sn) (rr:=rr) E m0 E) (hk:(m0.map Prod.fst).Nodup) (hin:∀ y∈m0,isIn y.1=true)
    {args:List AV} {gv:List Nat} (hp:(olds E).Perm (zcb S.pars args++gv++zbD S.pars args)) (ho:(olds E).Nodup) (hap:∀ a∈olds E,a ∉ sn) (hnm:Names mu E 0 S.pars args)
    {v:Value} {w':World} (hr:Ret (zc8 B mu (zab mu ed) ρ w E (S.outs.any RV.hasSl=false) ids rr) S flags base x v w') :
    OpD B mu dead ρ w ⟨zsO ((zaQ flags base S.outs x).1.take S.res.length),(zaQ flags base S.outs x).2,(ed++zfJ gv)++za8 (zaa mu) S.pars args ((zaQ flags base S.outs x).1.drop S.res.length)⟩ v w':=by
 obtain ⟨muF,deadF,ρF,κ,HF,hpin,hinj,hκ,⟨us,hus,rfl⟩,hadd,hout⟩:=hr
 obtain ⟨hd1,le1,H1,_,hl1⟩:=H.freeze hf
 generalize hmu1:zab mu ed=mu1 at *
 generalize hsl:S.outs.any RV.hasSl=sl at *
 generalize hsvs:(zaQ flags base S.outs x).1.take S.res.length=rs at *
 generalize hoo:(zaQ flags base S.outs x).1.drop S.res.length=out at *
 generalize hads:(zaQ flags base S.outs x).2=adds at *
 obtain ⟨hed1,hed2⟩:=zkW hnm hout
 generalize hED:za8 (zaa mu) S.pars args out=ED at *
 intro mu2 hmu2
 dsimp only at hmu2 ⊢
 obtain ⟨hlook,hnd,hfree⟩:=zcD _ _ _ _ hmu2
 have hedit:zab mu (ed++zfJ gv++ED)=zab (zab mu1 (zfJ gv)) ED:=by
  rw [zcs,zcs,hmu1]
 have hdead:∀ id,id∈zbX (ed++zfJ gv++ED) dead ↔ id∈gv \/ id∈dead:=by
  intro id
  rw [zc0,zc0,hd1,zc9,zc9]
  constructor
  · rintro (h | h | h)
    · obtain ⟨c',h2,_⟩:=hed1 id none h
      cases h2
    · simp only [zfJ,List.mem_map,Prod.mk.injEq,and_true,exists_eq_right] at h
      exact .inl h
    · exact .inr h
  · rintro (h | h)
    · exact .inr (.inl (by simp only [zfJ,List.mem_map,Prod.mk.injEq,and_true,exists_eq_right]; exact h))
    · exact .inr (.inr h)
 rw [hedit] at hlook hfree
 have hnE:(E.map Prod.fst).Nodup:=by rw [hE.fst]; exact hk
 -- what lies in E
 have hent:∀ b ri a,(b,ri,some a)∈E->ρ a=some ri/\zaa mu a ≠ none/\(∀ c,zaa mu a=some c->mutC c)/\zaa mu1 a=zaa mu a/\isIn b=true/\zhS E b=some ri:=by
  intro b ri a h
  obtain ⟨c',h1,h2,h3⟩:=hE.back h
  have ha:a∈olds E:=List.mem_filterMap.2 ⟨_,h,rfl⟩
  have hna:a ∉ frozen:=fun h=>hap a ha (hfr a h)
  have h4:zaa mu1 a=zaa mu a:=by rw [<- hmu1]; exact za9 mu hf a hna
  have h5:=hin _ h1
  have h6:zhS E b=some ri:=zgv hnE h
  rcases h3 with ⟨e,t,xs,m,m',_,_,h7,h8⟩ | ⟨e,cs,cs',_,h7,_⟩
  · refine ⟨h2,by rw [h7]; simp,fun c hc=>?_,h4,h5,h6⟩
    rw [h7] at hc; cases hc; exact h8
  · refine ⟨h2,by rw [h7]; simp,fun c hc=>?_,h4,h5,h6⟩
    rw [h7] at hc; cases hc; trivial
 have hgvNot:∀ id,id∈gv->¬ (id∈zcb S.pars args \/ id∈zbD S.pars args):=by
  intro id h1 h2
  have hnp:=hp.nodup_iff.1 ho
  rw [List.nodup_append,List.nodup_append] at hnp
  rcases h2 with h2 | h2
  · exact hnp.1.2.2 id h2 id h1 rfl
  · exact hnp.2.2 id (List.mem_append_right _ h1) id h2 rfl
 let ρ2:Nat->Option RI:=fun id=>match zaa κ id with | some k=>ρF k | none=>ρ id
 have hκn:∀ id,id ∉ adds.map Prod.fst->zaa κ id=none:=by
  intro id h
  cases e:zaa κ id with
  | none=>rfl
  | some k=>exact absurd (by rw [<- hκ]; exact List.mem_map.2 ⟨_,zaE e,rfl⟩) h
 have hκnd:(κ.map Prod.fst).Nodup:=by rw [hκ]; exact hnd
 have hκm:∀ id k,(id,k)∈κ->zaa κ id=some k:=fun id k h=>zaH hκnd h
 have hρfree:∀ id,id∈adds.map Prod.fst->ρ id=none:=by
  intro id h
  obtain ⟨h1,h2⟩:=hfree id h
  rw [hdead] at h1
  cases e:ρ id with
  | none=>rfl
  | some i =>
   exfalso
   rcases H1.dom id i e with h3 | h3
   · by_cases hE1:∃ c,(id,c)∈ED
     · obtain ⟨c,h4,h5⟩:=edits_last ED (zab mu1 (zfJ gv)) id hE1
       obtain ⟨c',rfl,_⟩:=hed1 id c h4
       rw [h5] at h2; cases h2
     · rw [edits_not _ _ _ fun c hc=>hE1 ⟨c,hc⟩] at h2
       rw [edits_not _ _ _ fun c hc=>?_] at h2
       · exact h3 h2
       · simp only [zfJ,List.mem_map,Prod.mk.injEq] at hc
         obtain ⟨y,hy,rfl,_⟩:=hc
         exact h1 (.inl hy)
   · exact h1 (.inr h3)
 have hρ2:∀ id i,ρ id=some i->ρ2 id=some i:=by
  intro id i h
  have:id ∉ adds.map Prod.fst:=fun h1=>by rw [hρfree id h1] at h; cases h
  simp only [ρ2,hκn id this]
  exact h
 have hρ2n:∀ id,id ∉ adds.map Prod.fst->ρ2 id=ρ id:=by
  intro id h
  simp only [ρ2,hκn id h]
 have hρ2k:∀ id k,(id,k)∈κ->ρ2 id=ρF k:=by
  intro id k h
  simp only [ρ2,hκm id k h]
 have hED2:∀ id,id ∉ adds.map Prod.fst->(∃ c,(id,c)∈ED)->∃ c',zaa mu2 id=some c' /\ EdOk mu E muF ρF w' (sitR (zc8 B mu mu1 ρ w E (sl=false) ids rr) sl muF ρF w' κ) sl id c':=by
  intro id h1 h2
  obtain ⟨c,h4,h5⟩:=edits_last ED (zab mu1 (zfJ gv)) id h2
  obtain ⟨c',rfl,h6⟩:=hed1 id c h4
  refine ⟨c',?_,h6⟩
  rw [hlook id]
  have:zaa adds id=none:=by
   cases e:zaa adds id with
   | none=>rfl
   | some c=>exact absurd (List.mem_map.2 ⟨_,zaE e,rfl⟩) h1
  rw [this,h5]
 have hnokey:∀ id,id ∉ adds.map Prod.fst->zaa adds id=none:=by
  intro id h1
  cases e:zaa adds id with
  | none=>rfl
  | some c=>exact absurd (List.mem_map.2 ⟨_,zaE e,rfl⟩) h1
 have hgiven:∀ id c,(id,c)∈zfJ gv ↔ id∈gv/\c=none:=by
  intro id c
  simp only [zfJ,List.mem_map,Prod.mk.injEq]
  constructor
  · rintro ⟨y,hy,rfl,rfl⟩; exact ⟨hy,rfl⟩
  · rintro ⟨h,rfl⟩; exact ⟨id,h,rfl,rfl⟩
 have hkeep:∀ id,id ∉ adds.map Prod.fst->(¬ ∃ c,(id,c)∈ED)->id ∉ gv->zaa mu2 id=zaa mu1 id:=by
  intro id h1 h2 h3
  rw [hlook id,hnokey id h1]
  dsimp only
  rw [edits_not _ _ _ fun c hc=>h2 ⟨c,hc⟩,edits_not _ _ _ fun c hc=>h3 ((hgiven id c).1 hc).1]
 have hgone:∀ id,id ∉ adds.map Prod.fst->(¬ ∃ c,(id,c)∈ED)->id∈gv->zaa mu2 id=none:=by
  intro id h1 h2 h3
  rw [hlook id,hnokey id h1]
  dsimp only
  rw [edits_not _ _ _ fun c hc=>h2 ⟨c,hc⟩]
  obtain ⟨c,h4,h5⟩:=edits_last (zfJ gv) mu1 id ⟨none,(hgiven id none).2 ⟨h3,rfl⟩⟩
  rw [h5]
  exact ((hgiven id c).1 h4).2
 let B':=zc8 B mu mu1 ρ w E (sl=false) ids rr
 have hRle:((∀ g,B'.V0 g->B.V (zaa mu1) ρ w g)->∀ g,B'.V (zaa muF) ρF w' g->B.V (zaa mu2) ρ2 w' g)->(∀ g,w.heap.size<=g->B'.V (zaa muF) ρF w' g->B.V (zaa mu2) ρ2 w' g) ->
     (sitR B' sl muF ρF w' κ).Le (B.sit (zaa mu2) ρ2 w'):=by
  intro vv vn
  refine ⟨fun id r e=>?_,fun g hg=>⟨?_,rfl⟩,fun g hg=>hg.elim⟩
  · have e':(zaa κ id).bind ρF=some r:=e
    show ρ2 id=some r
    cases hk:zaa κ id with
    | none=>rw [hk] at e'; cases e'
    | some k=>rw [hk] at e'; simp only [ρ2,hk]; exact e'
  · cases hs:sl with
    | false=>exact vn g (hg.2 hs) hg.1
    | true =>
     refine vv (fun g hg=>?_) g hg.1
     rcases hg with hg | ⟨hg,_⟩
     · exact hg
     · rw [hs] at hg; cases hg
 have hKR:((∀ g,B'.V0 g->B.V (zaa mu1) ρ w g)->∀ g,B'.V (zaa muF) ρF w' g->B.V (zaa mu2) ρ2 w' g)->∀ {t:Ty},(t.hasSl=true->sl=true)->∀ {y:t.den} {vs:List Value},KR (B'.V (zaa muF) ρF w') w' t y vs->KR (B.V (zaa mu2) ρ2 w') w' t y vs:=by
  intro vv t ht y vs hy
  cases hs:t.hasSl with
  | false=>exact zkO t y vs hs hy
  | true =>
   have hsl1:=ht hs
   refine KR.mono (fun g hg=>⟨vv (fun g hg=>?_) g hg,rfl⟩) t y vs hy
   rcases hg with hg | ⟨hg,_⟩
   · exact hg
   · rw [hsl1] at hg; cases hg
 have hRow:((∀ g,B'.V0 g->B.V (zaa mu1) ρ w g)->∀ g,B'.V (zaa muF) ρF w' g->B.V (zaa mu2) ρ2 w' g)->∀ {k id:Nat} {e:TypeId} {t:Ty} {xs:List t.den} {m m':RMode},(t.hasSl=true->sl=true)->zaa muF k=some (.row e t xs m')->ρ2 id=ρF k->ContR B.C (B.sit (zaa mu2) ρ2 w') id (.row e t xs m):=by
  intro vv k id e t xs m m' ht hk hid
  obtain ⟨i,h1,h2,h3,h4,h5⟩:=HF.cont k _ hk
  refine ⟨i,hid.trans h1,h2,h3,h4,?_⟩
  cases hg:i.g with
  | none=>simp only [RowR,hg] at h5 ⊢; exact h5
  | some g =>
   simp only [RowR,hg] at h5 ⊢
   obtain ⟨cur,f1,f2,f3,f4,f5⟩:=h5
   exact ⟨cur,f1,f2,f3,f4,KL.imp (fun y vs h=>hKR vv ht h) _ _ f5⟩
 have hpinE:∀ k ri id,(k,ri,some id)∈E->zaa muF k ≠ none->ρF k=some ri:=by
  intro k ri id h1 h2
  obtain ⟨_,_,_,_,h3,h4⟩:=hent k ri id h1
  rw [hpin k h3 h2]
  exact h4
 obtain ⟨le,vv,vn,inv⟩:=MInv.back H1 HF (mu2:=zaa mu2) (dead2:=zbX (ed++zfJ gv++ED) dead) (ρ2:=ρ2) rfl (fun id=>id∈olds E) (by
     rintro g ⟨⟨b,ri,a'⟩,hy,a,ha,hg⟩
     have ha':a'=some a:=ha
     subst ha'
     obtain ⟨h1,h2,h3,h4,_,_⟩:=hent b ri a hy
     cases hc:zaa mu a with
     | none=>exact absurd hc h2
     | some c=>exact ⟨a,ri,c,List.mem_filterMap.2 ⟨_,hy,rfl⟩,by rw [h4]; exact hc,h3 c hc,h1,hg⟩)
  hρ2 (by
   intro id i hi
   by_cases hka:id∈adds.map Prod.fst
   · left
     obtain ⟨y,hy,rfl⟩:=List.mem_map.1 hka
     rw [hlook,zaH hnd (show (y.1,y.2)∈adds from hy)]
     simp
   · rw [hρ2n id hka] at hi
     by_cases hE1:∃ c,(id,c)∈ED
     · left
       obtain ⟨c',h1,_⟩:=hED2 id hka hE1
       rw [h1]; simp
     · by_cases hg:id∈gv
       · exact .inr ((hdead id).2 (.inl hg))
       · rcases H1.dom id i hi with h1 | h1
         · left; rw [hkeep id hka hE1 hg]; exact h1
         · exact .inr ((hdead id).2 (.inr h1)))
  (fun id k=>(id,k)∈κ \/ (∃ ri,(k,ri,some id)∈E)/\((∃ e cs,zaa muF k=some (.box e cs)) \/ ∃ e t xs,zaa muF k=some (.row e t xs .lent))) (by
   have hno:∀ a k,(a,k)∈κ->((∃ e cs,zaa muF k=some (.box e cs)) \/ ∃ e t xs,zaa muF k=some (.row e t xs .lent))->False:=by
    intro a k h1 h2
    have h3:a∈adds.map Prod.fst:=by rw [<- hκ]; exact List.mem_map.2 ⟨_,h1,rfl⟩
    obtain ⟨y,hy,rfl⟩:=List.mem_map.1 h3
    obtain ⟨k',e,t,xs,m,m',h4,_,h5,h6,_⟩:=hadd y.1 y.2 hy
    have h7:=(hκm _ _ h1).symm.trans (hκm _ _ h4)
    cases h7
    rcases h2 with ⟨e',cs,h2⟩ | ⟨e',t',xs',h2⟩
    · rw [h5] at h2; cases h2
    · rw [h5] at h2; cases h2
      rcases h6 with h6 | ⟨h6,_⟩ <;> cases h6
   rintro a b k (h1 | ⟨⟨ri,h1⟩,h1'⟩) (h2 | ⟨⟨ri',h2⟩,h2'⟩)
   · exact hinj a b k h1 h2
   · exact (hno a k h1 h2').elim
   · exact (hno b k h2 h1').elim
   · have e1:zaa (E.map fun y=>(y.1,y.2)) k=some (ri,some a):=zaH (by simpa [Function.comp_def] using hnE) (List.mem_map.2 ⟨_,h1,rfl⟩)
     have e2:zaa (E.map fun y=>(y.1,y.2)) k=some (ri',some b):=zaH (by simpa [Function.comp_def] using hnE) (List.mem_map.2 ⟨_,h2,rfl⟩)
     rw [e1] at e2
     cases e2
     rfl)
  (by
   intro id c hc
   by_cases hka:id∈adds.map Prod.fst
   · right
     obtain ⟨y,hy,rfl⟩:=List.mem_map.1 hka
     rw [hlook,zaH hnd (show (y.1,y.2)∈adds from hy)] at hc
     cases hc
     obtain ⟨k,e,t,xs,m,m',h1,⟨h2,h2s⟩,h3,h4,h5⟩:=hadd y.1 y.2 hy
     rw [h2]
     refine ⟨k,.row e t xs m',.inl h1,h3,hρ2k _ _ h1,fun _=>?_,fun e1 t1 xs1 m1 he hm=>?_,fun _ vv _=>hRow vv h2s h3 (hρ2k _ _ h1)⟩
     · rcases h4 with rfl | ⟨rfl,_⟩ <;> (intro h; cases h)
     · cases he
       rcases h4 with rfl | ⟨rfl,rfl⟩
       · exact .inl ⟨_,_,_,_,rfl,.inl rfl⟩
       · rcases hm with hm | hm <;> cases hm
   · by_cases hE1:∃ c,(id,c)∈ED
     · right
       obtain ⟨c',h1,k,ri,h2,h3⟩:=hED2 id hka hE1
       rw [hc] at h1
       cases h1
       obtain ⟨g1,g2,g3,g4,g5,g6⟩:=hent k ri id h2
       rcases h3 with ⟨e,cs,cF,i,g,cur,rfl,k1,k2,k3,k4,k5⟩ | ⟨e,t,xs,m,e',t',xs',rfl,ks,k1,k2,k3⟩
       · have hkF:=hpinE k ri id h2 (by rw [k1]; simp)
         have hii:i=ri:=Option.some.inj (k2.symm.trans hkF)
         subst hii
         refine ⟨k,.box e cF,.inr ⟨⟨_,h2⟩,.inl ⟨_,_,k1⟩⟩,k1,by rw [hρ2n id hka,g1,hkF],fun h=>h,fun _ _ _ _ he _=>(by cases he),fun _ vv vn=>?_⟩
         exact ⟨i,g,cur,hρ2 _ _ g1,k3,k4,CRs.mono (hRle vv vn) _ _ k5⟩
       · have hkF:=hpinE k ri id h2 (by rw [k1]; simp)
         have hρ':ρ2 id=ρF k:=by rw [hρ2n id hka,g1,hkF]
         refine ⟨k,.row e t xs .lent,.inr ⟨⟨_,h2⟩,.inr ⟨_,_,_,k1⟩⟩,k1,hρ',fun _ h=>(by cases h),fun e1 t1 xs1 m1 he hm=>.inr ⟨⟨e',t',xs',m,by rw [g4]; exact k2,?_⟩,hρ2n id hka⟩,fun _ vv _=>hRow vv ks k1 hρ'⟩
         cases he
         exact hm
     · by_cases hg:id∈gv
       · rw [hgone id hka hE1 hg] at hc; cases hc
       · left
         refine ⟨fun hh=>?_,by rw [<- hkeep id hka hE1 hg]; exact hc,hρ2n id hka⟩
         have:=hp.mem_iff.1 hh
         rw [List.mem_append,List.mem_append] at this
         rcases this with (h | h) | h
         · obtain ⟨c',hc'⟩:=hed2 id (.inl h); exact hE1 ⟨_,hc'⟩
         · exact hg h
         · obtain ⟨c',hc'⟩:=hed2 id (.inr h); exact hE1 ⟨_,hc'⟩)
 exact ⟨ρ2,le1.trans le,inv,zrO (SRs.mono (hRle vv vn) _ _ hus)⟩
end
end Go.Proofs.YtdhkgmhdengnkaaGreatDoorPi
