/- The plain law (part 2 of 2). -/
import Derived.Test.YtdhkgmhdengnkaaGreatDoorTaQa
namespace Go.Proofs.YtdhkgmhdengnkaaGreatDoor.Ta
open Go Go.Proofs.YtdhkgmhdengnkaaGreatDoorPi Go.RowKit
set_option linter.unusedVariables false
set_option linter.unusedSectionVars false
set_option linter.unusedSimpArgs false
set_option maxHeartbeats 1000000
variable [Inhabited Sv]
theorem zk7:∀ {a b:List Int},a.Pairwise (· < ·)->b.Pairwise (· < ·)->(∀ x,x∈a ↔ x∈b)->a=b:=by
 intro a
 induction a with
 | nil =>
  intro b _ _ h
  cases b with
  | nil=>rfl
  | cons y b=>exact absurd ((h y).2 (by simp)) (by simp)
 | cons x a ih =>
  intro b ha hb h
  cases b with
  | nil=>exact absurd ((h x).1 (by simp)) (by simp)
  | cons y b =>
   obtain ⟨a1,a2⟩:=List.pairwise_cons.1 ha
   obtain ⟨b1,b2⟩:=List.pairwise_cons.1 hb
   have hxy:x=y:=by
    rcases List.mem_cons.1 ((h x).1 (by simp)) with e | e
    · exact e
    · rcases List.mem_cons.1 ((h y).2 (by simp)) with e' | e'
      · exact e'.symm
      · have:=b1 x e
        have:=a1 y e'
        omega
   subst hxy
   rw [ih a2 b2 fun z=>⟨fun hz=>by
    rcases List.mem_cons.1 ((h z).1 (List.mem_cons_of_mem _ hz)) with e | e
    · have:=a1 z hz; omega
    · exact e,fun hz=>by
    rcases List.mem_cons.1 ((h z).2 (List.mem_cons_of_mem _ hz)) with e | e
    · have:=b1 z hz; omega
    · exact e⟩]
theorem zeO:∀ (l:List Int) (x:Int),x∈zau l ↔ x∈l
 | [],x=>by unfold zau; exact Iff.rfl
 | [a],x=>by unfold zau; exact Iff.rfl
 | a::b::l,x=>by
  have h:=zeO (b::l) x
  unfold zau
  by_cases e:a=b
  · rw [if_pos e,h,e]; simp
  · rw [if_neg e,List.mem_cons,h,List.mem_cons (a:=x) (b:=a)]
theorem zhx:∀ (l:List Int),l.Pairwise (· <= ·)->(zau l).Pairwise (· < ·)
 | [],_=>by unfold zau; exact List.Pairwise.nil
 | [a],_=>by unfold zau; simp
 | a::b::l,h=>by
  obtain ⟨h1,h2⟩:=List.pairwise_cons.1 h
  have ih:=zhx (b::l) h2
  unfold zau
  by_cases e:a=b
  · rw [if_pos e]; exact ih
  · rw [if_neg e]
    refine List.pairwise_cons.2 ⟨fun y hy=>?_,ih⟩
    have hy:=(zeO _ _).1 hy
    have hab:=h1 b (by simp)
    rcases List.mem_cons.1 hy with e' | hy
    · subst e'; omega
    · have:=(List.pairwise_cons.1 h2).1 y hy
      omega
theorem zqI (l:List Int) (x:Int):x∈zgq l ↔ x∈l:=(List.mergeSort_perm l _).mem_iff
theorem zqJ (l:List Int):(zgq l).length=l.length:=(List.mergeSort_perm l _).length_eq
theorem zqK (l:List Int):(zgq l).Pairwise (· <= ·):=by
 have h:=List.pairwise_mergeSort (le:=fun x y:Int=>decide (x<=y)) (fun a b c h1 h2=>decide_eq_true (by have:=of_decide_eq_true h1; have:=of_decide_eq_true h2; omega)) (fun a b=>by
  rcases Int.le_total a b with h | h
  · rw [decide_eq_true h]; rfl
  · rw [decide_eq_true h,Bool.or_true]) l
 exact h.imp fun h=>of_decide_eq_true h
theorem zk8 {s:List Int} (x:Int) (hl:s.length<=1000) (hs:s.Pairwise (· < ·)):∃ r:List Int,Ev (fun k=>qhkz.f k s x) r/\r.Pairwise (· < ·)/\(∀ y,y∈r ↔ y∈s \/ y=x)/\r.length<=s.length+1:=by
 have srt:∀ {i j:Nat},i < j->j < s.length->s.getD i 0 < s.getD j 0:=fun {i j} hij hj=>by
  have:=List.pairwise_iff_getElem.1 hs i j (by omega) hj hij
  rw [List.getD_eq_getElem?_getD,List.getD_eq_getElem?_getD,List.getElem?_eq_getElem (show i < s.length by omega),List.getElem?_eq_getElem hj]
  exact this
 have put:∀ i,i<=s.length->(∀ j,j < i->s.getD j 0 < x)->(∀ j,i<=j->j < s.length->x < s.getD j 0)->(s.take i++[x]++s.drop i).Pairwise (· < ·)/\(∀ y,y∈s.take i++[x]++s.drop i ↔ y∈s \/ y=x)/\(s.take i++[x]++s.drop i).length<=s.length+1:=by
  intro i hi h1 h2
  have ht:=List.Pairwise.sublist (List.take_sublist i s) hs
  have hd:=List.Pairwise.sublist (List.drop_sublist i s) hs
  refine ⟨List.pairwise_append.2 ⟨List.pairwise_append.2 ⟨ht,by simp,fun a ha b hb=>?_⟩,hd,fun a ha b hb=>?_⟩,fun y=>?_,by simp; omega⟩
  · obtain ⟨j,j1,j2,rfl⟩:=zbH (z:=0) ha
    rw [List.mem_singleton.1 hb]
    exact h1 j j1
  · obtain ⟨j,j1,j2,rfl⟩:=zbt (z:=0) hb
    rcases List.mem_append.1 ha with ha | ha
    · obtain ⟨j',j1',j2',rfl⟩:=zbH (z:=0) ha
      exact srt (by omega) j2
    · rw [List.mem_singleton.1 ha]
      exact h2 j j1 j2
  · have e:y∈s ↔ y∈s.take i \/ y∈s.drop i:=by rw [<- List.mem_append,List.take_append_drop]
    simp only [List.mem_append,List.mem_singleton,e]
    constructor
    · rintro ((h | h) | h)
      · exact .inl (.inl h)
      · exact .inr h
      · exact .inl (.inr h)
    · rintro ((h | h) | h)
      · exact .inl (.inl h)
      · exact .inr h
      · exact .inl (.inr h)
 have key:∀ (d i:Nat),i+d=s.length->(∀ j,j < i->s.getD j 0 < x)->∃ r:List Int,Ev (fun k=>qhkz.l0 k s x (i:Int)) r/\r.Pairwise (· < ·)/\(∀ y,y∈r ↔ y∈s \/ y=x)/\r.length<=s.length+1:=by
  intro d
  induction d with
  | zero =>
   intro i hi h
   refine ⟨_,qhkz.v0 ?_,put i (by omega) h (fun j h1 h2=>by omega)⟩
   simp (disch:=omega) only [S,List.nil_append,List.length_append,List.length_cons,List.length_nil,List.length_take,List.length_drop]
   exact Ev.now _
  | succ d ih =>
   intro i hi h
   by_cases c:s.getD i 0 < x
   · obtain ⟨r,r1,r2⟩:=ih (i+1) (by omega) (fun j hj=>by
      rcases Nat.lt_or_ge j i with h' | h'
      · exact h j h'
      · rw [show j=i by omega]; exact c)
     refine ⟨r,qhkz.v0 ?_,r2⟩
     simp (disch:=omega) only [S]
     exact r1
   · by_cases e:s.getD i 0=x
     · refine ⟨s,qhkz.v0 ?_,hs,fun y=>⟨.inl,fun h=>h.elim id fun h=>by rw [h,<- e]; exact zaf (by omega)⟩,by omega⟩
       simp (disch:=omega) only [S]
       exact Ev.now _
     · refine ⟨_,qhkz.v0 ?_,put i (by omega) h (fun j h1 h2=>by
        rcases Nat.lt_or_ge i j with h' | h'
        · have:=srt h' h2; omega
        · rw [show j=i by omega]; omega)⟩
       simp (disch:=omega) only [S,List.nil_append,List.length_append,List.length_cons,List.length_nil,List.length_take,List.length_drop]
       exact Ev.now _
 obtain ⟨r,r1,r2⟩:=key s.length 0 (by omega) (fun j h=>by omega)
 exact ⟨r,qhkz.v r1,r2⟩
theorem smul {a b A B:Int} (ha : -A<=a/\a<=A) (hb:0<=b/\b<=B) : -(A*B)<=a*b/\a*b<=A*B:=by
 have hA:0<=A:=by omega
 have p1:=Int.mul_le_mul_of_nonneg_right ha.1 hb.1
 have p2:=Int.mul_le_mul_of_nonneg_right ha.2 hb.1
 have p3:=Int.mul_le_mul_of_nonneg_left hb.2 hA
 rw [Int.neg_mul] at p1
 omega
theorem zjo {n:Int} (hn:1<=n/\n<=1000) {w v:Wk} (hw:wOk w=true) (hv:wOk v=true):∃ r:List (List Int)×Bool,Ev (fun k=>qdmz.f k n w.1 w.2 v.1 v.2) r/\Ev (fun k=>qdez.f k n w.1 w.2 v.1 v.2) r/\zfH r.1/\r.1.length<=1000/\(r.2=true->0 < r.1.length)/\(r.2=false->r.1=[]):=by
 by_cases hs:w.2=v.2
 · refine ⟨([],false),qdmz.v ?_,qdez.v ?_,fun r hr=>by simp at hr,by simp,by simp,fun _=>rfl⟩
   · have hne:(w.2 == v.2)=true:=beq_iff_eq.2 hs
     simp only [zbx hn,zaD,S,hw,hv,hne]
     exact Ev.now _
   · have hne:(w.2 == v.2)=true:=beq_iff_eq.2 hs
     simp only [zbU hn hw hv,S,hne]
     exact Ev.now _
 · obtain ⟨b1,b2,b3⟩:=zog hn hw hv
   have hw':=zaX.1 hw
   obtain ⟨m,hm⟩ : ∃ m:Nat,(ahead n w v).2=(m:Int):=⟨(ahead n w v).2.toNat,by omega⟩
   have hm0:0 < m:=by
    rcases Nat.eq_zero_or_pos m with h | h
    · subst h; exact absurd (b3.1 hm) hs
    · exact h
   have hB:=mulb (a:=n) (b:=(m:Int)) (A:=1000) (B:=200) (by omega) (by omega) (by omega) (by omega)
   have hB1:0 < n*(m:Int):=Int.mul_pos (by omega) (by omega)
   -- the numbers
   obtain ⟨X,hX⟩ : ∃ X:Nat->Int,∀ i,X i=W (W (w.1*(m:Int))+W (w.2*W ((ahead n w v).1+W ((i:Int)*n)))):=⟨_,fun _=>rfl⟩
   have hXb:∀ i,i < 200->-4611686018427387904<=X i/\X i<=4611686018427387904:=by
    intro i hi
    have q1:=smul (a:=w.1) (b:=(m:Int)) (A:=1000) (B:=200) (by omega) (by omega)
    have q2:=mulb (a:=(i:Int)) (b:=n) (A:=200) (B:=1000) (by omega) (by omega) (by omega) (by omega)
    have q3:=smul (a:=w.2) (b:=(ahead n w v).1+(i:Int)*n) (A:=100) (B:=201000) (by omega) (by omega)
    rw [hX,w64 (x:=(i:Int)*n) (by omega) (by omega),w64 (x:=(ahead n w v).1+(i:Int)*n) (by omega) (by omega),w64 (x:=w.2*_) (by omega) (by omega),w64 (x:=w.1*_) (by omega) (by omega),w64 (by omega) (by omega)]
    omega
   have hNb:∀ i,0<=X i % (n*(m:Int))/\X i % (n*(m:Int)) < 200001:=fun i=>⟨Int.emod_nonneg _ (by omega),by have:=Int.emod_lt_of_pos (X i) hB1; omega⟩
   have wB:W (n*(m:Int))=n*(m:Int):=w64 (by omega) (by omega)
   -- the rows of a list of numbers
   have rowsOf:∀ L:List Int,(∀ x∈L,0<=x/\x < 200001)->L.length<=1000->∀ (e i:Nat),i+e=L.length->∀ acc:List (List Int),acc.length=i->zfH acc ->
       ∃ R:List (List Int),Ev (fun k=>qdkz.l1 k (m:Int) (L.length:Int) (i:Int) acc L) R/\Ev (fun k=>qdez.l1 k (m:Int) L (L.length:Int) (i:Int) acc) (R,true)/\zfH R/\R.length=L.length:=by
    intro L hL hl e
    induction e with
    | zero =>
     intro i hi acc ha hr
     refine ⟨acc,qdkz.v1 ?_,qdez.v1 ?_,hr,by omega⟩ <;> simp (disch:=omega) only [S] <;> exact Ev.now _
    | succ e ih =>
     intro i hi acc ha hr
     have hx:=hL _ (zaf (z:=0) (show i < L.length by omega))
     have i1:i64 (L.getD i 0):=by unfold i64; omega
     have i2:i64 (m:Int):=by unfold i64; omega
     obtain ⟨g1,g2⟩:=zgX i1 i2
     obtain ⟨R,r1,r2,r3⟩:=ih (i+1) (by omega) (acc++[[(low (L.getD i 0) (m:Int)).1,(low (L.getD i 0) (m:Int)).2]]) (by simp; omega) (zkl hr g1 g2)
     refine ⟨R,qdkz.v1 ?_,qdez.v1 ?_,r3⟩
     · simp (disch:=omega) only [S]
       exact Ev.bind (zbw i1 i2 (by omega)) r1
     · simp (disch:=omega) only [S]
       exact Ev.bind (zbs i1 i2 (by omega)) r2
   have main:∀ (e i:Nat),i+e=m->∀ (acc:List Int) (s:List Int),acc.length=i->s.length<=i->s.Pairwise (· < ·)->(∀ y,y∈s ↔ y∈acc)->(∀ x∈acc,0<=x/\x < 200001) ->
       ∃ R:List (List Int),Ev (fun k=>qdkz.l0 k n (ahead n w v).1 (m:Int) (m:Int) (i:Int) w.1 w.2 acc) R/\Ev (fun k=>qdez.l0 k n (ahead n w v).1 (m:Int) s (i:Int) w.1 w.2) (R,true)/\zfH R/\(0 < R.length/\R.length<=1000):=by
    intro e
    induction e with
    | zero =>
     intro i hi acc s ha hs1 hs2 hs3 hb
     have es:zau (zgq acc)=s:=zk7 (zhx _ (zqK _)) hs2 fun x=>by rw [zeO,zqI,hs3]
     have sl:=zqJ acc
     have s0:0 < s.length:=by
      have:=(hs3 _).2 (zaf (z:=0) (show 0 < acc.length by omega))
      exact List.length_pos_of_mem this
     obtain ⟨R,r1,r2,r3,r4⟩:=rowsOf s (fun x hx=>hb x ((hs3 x).1 hx)) (by omega) s.length 0 (by omega) [] rfl (fun r hr=>by simp at hr)
     refine ⟨R,qdkz.v0 ?_,qdez.v0 ?_,r3,by omega⟩
     · simp (disch:=omega) only [S,sl,es]
       exact r1
     · simp (disch:=omega) only [S]
       exact r2
    | succ e ih =>
     intro i hi acc s ha hs1 hs2 hs3 hb
     obtain ⟨r,r1,r2,r3,r4⟩:=zk8 (X i % (n*(m:Int))) (by omega) hs2
     obtain ⟨R,q1,q2,q3⟩:=ih (i+1) (by omega) (acc++[X i % (n*(m:Int))]) r (by simp; omega) (by omega) r2 (fun y=>by rw [r3,hs3,List.mem_append,List.mem_singleton]) (fun x hx=>by
      rcases List.mem_append.1 hx with h | h
      · exact hb x h
      · rw [List.mem_singleton.1 h]; exact hNb i)
     have hx:=hXb i (by omega)
     have wi:W ((i:Int)+1)=((i+1:Nat):Int):=by rw [w64 (by omega) (by omega)]; omega
     have lt1:iLt (i:Int) (m:Int)=true:=decide_eq_true (by omega)
     refine ⟨R,qdkz.v0 ?_,qdez.v0 ?_,q3⟩
     · simp only [lt1,if_true,<- hX,wB,zdI hB1 hx (by omega),Option.bind_some,wi]
       simp (disch:=omega) only [S]
       exact q1
     · simp only [lt1,if_true,<- hX,wB,zel hB1 (show n*(m:Int)<=4611686018427387904 by omega),Option.bind_some,wi]
       exact Ev.bind r1 q2
   obtain ⟨R,r1,r2,r3,r4⟩:=main m 0 (by omega) [] [] rfl (by simp) List.Pairwise.nil (fun y=>Iff.rfl) (fun x hx=>by simp at hx)
   refine ⟨(R,true),qdmz.v ?_,qdez.v ?_,r3,r4.2,fun _=>r4.1,fun h=>by cases h⟩
   · have hne:(w.2 == v.2)=false:=beq_eq_false_iff_ne.2 hs
     simp only [zbx hn,zaD,S,hw,hv,hne]
     refine Ev.bind (qdkz.v ?_) (Ev.now _)
     simp only [zeL hn hw hv,S,hm]
     exact r1
   · have hne:(w.2 == v.2)=false:=beq_eq_false_iff_ne.2 hs
     simp only [zbU hn hw hv,zdg hn hw hv,S,hne,hm]
     exact r2
def zaF (t:Int):Nat->List Wk->List Int
 | _,[]=>[]
 | i,v::l=>if v.1<=t/\t<=v.1+v.2 then (i:Int)::zaF t (i+1) l else zaF t (i+1) l
theorem zk9 (t:Int) (l:List Wk):∀ i,(zaF t i l).length<=l.length:=by
 induction l with
 | nil=>intro i; simp [zaF]
 | cons v l ih =>
  intro i
  simp only [zaF]
  have:=ih (i+1)
  split <;> simp <;> omega
def ve (v:Wk):Int:=v.1+v.2
def Gd (l:List Wk):Int->List Int->Prop
 | last,[]=>∀ v∈l,v.1<=last
 | last,t::r=>(∃ v∈l,last < v.1/\ve v=t)/\(∀ v∈l,last < v.1->t<=ve v)/\Gd l t r
def runL:Int->List Wk->List Int
 | _,[]=>[]
 | last,v::s=>if last < v.1 then ve v::runL (ve v) s else runL last s
theorem zrK (s:List Wk):∀ last,(runL last s).length<=s.length:=by
 induction s with
 | nil=>intro last; simp [runL]
 | cons v s ih =>
  intro last
  rw [runL]
  split
  · have:=ih (ve v); simp; omega
  · have:=ih last; simp; omega
theorem zqL {v:Wk} {s:List Wk} (hs:∀ u∈s,u.1<=ve u) (r:List Int):∀ last,v.1<=last->Gd s last r->Gd (v::s) last r:=by
 induction r with
 | nil =>
  intro last hv h u hu
  rcases List.mem_cons.1 hu with rfl | hu
  · exact hv
  · exact h u hu
 | cons t r ih =>
  intro last hv h
  obtain ⟨⟨u,hu,hl,he⟩,h2,h3⟩:=h
  refine ⟨⟨u,List.mem_cons_of_mem _ hu,hl,he⟩,?_,ih t ?_ h3⟩
  · intro x hx hlx
    rcases List.mem_cons.1 hx with rfl | hx
    · omega
    · exact h2 x hx hlx
  · have:=hs u hu
    omega
theorem zt5 (s:List Wk):(∀ u∈s,u.1<=ve u)->s.Pairwise (fun a b=>ve a<=ve b)->∀ last,Gd s last (runL last s):=by
 induction s with
 | nil=>intro _ _ last u hu; simp at hu
 | cons v s ih =>
  intro hs hp last
  rw [List.pairwise_cons] at hp
  have hs':∀ u∈s,u.1<=ve u:=fun u hu=>hs u (List.mem_cons_of_mem _ hu)
  rw [runL]
  by_cases h:last < v.1
  · rw [if_pos h]
    refine ⟨⟨v,List.mem_cons_self,h,rfl⟩,?_,zqL hs' _ _ (hs v List.mem_cons_self) (ih hs' hp.2 _)⟩
    intro u hu _
    rcases List.mem_cons.1 hu with rfl | hu
    · exact Int.le_refl _
    · exact hp.1 u hu
  · rw [if_neg h]
    exact zqL hs' _ _ (by omega) (ih hs' hp.2 _)
theorem zrL {l l':List Wk} (h:∀ v,v∈l ↔ v∈l') (r:List Int):∀ last,Gd l last r->Gd l' last r:=by
 induction r with
 | nil=>intro last hg v hv; exact hg v ((h v).2 hv)
 | cons t r ih =>
  rintro last ⟨⟨v,hv,hl,he⟩,h2,h3⟩
  exact ⟨⟨v,(h v).1 hv,hl,he⟩,fun u hu=>h2 u ((h u).2 hu),ih t h3⟩
def zfi (last:Int):List Wk->Int->Int
 | [],c=>c
 | v::l,c=>zfi last l (if v.1<=last then c else if c < 0 then v.1+v.2 else if v.1+v.2 < c then v.1+v.2 else c)
theorem znp {last:Int} (l:List Wk):(∀ v∈l,v.1<=last)->∀ c,zfi last l c=c:=by
 induction l with
 | nil=>intro _ c; rfl
 | cons v l ih =>
  intro h c
  rw [zfi,if_pos (h v List.mem_cons_self)]
  exact ih (fun u hu=>h u (List.mem_cons_of_mem _ hu)) c
theorem znq {last t:Int} (ht:0<=t) (l:List Wk):(∀ v∈l,last < v.1->t<=ve v)->∀ c,(c=t \/ (∃ v∈l,last < v.1/\ve v=t)/\(c < 0 \/ t<=c))->zfi last l c=t:=by
 induction l with
 | nil =>
  intro _ c hc
  rcases hc with rfl | ⟨⟨v,hv,_⟩,_⟩
  · rfl
  · simp at hv
 | cons v l ih =>
  intro h c hc
  have h':∀ u∈l,last < u.1->t<=ve u:=fun u hu=>h u (List.mem_cons_of_mem _ hu)
  have hv:=h v List.mem_cons_self
  have hve:ve v=v.1+v.2:=rfl
  rw [zfi]
  refine ih h' _ ?_
  by_cases h0:v.1<=last
  · rw [if_pos h0]
    rcases hc with hc | ⟨⟨u,hu,hl,he⟩,hc⟩
    · exact .inl hc
    · rcases List.mem_cons.1 hu with rfl | hu
      · omega
      · exact .inr ⟨⟨u,hu,hl,he⟩,hc⟩
  · have hv':=hv (by omega)
    rw [if_neg h0]
    rcases hc with hc | ⟨⟨u,hu,hl,he⟩,hc⟩
    · left
      rw [if_neg (by omega),if_neg (by omega)]
      exact hc
    · rcases List.mem_cons.1 hu with rfl | hu
      · left
        split
        · exact he
        · split
          · exact he
          · omega
      · right
        refine ⟨⟨u,hu,hl,he⟩,.inr ?_⟩
        split
        · omega
        · split
          · omega
          · omega
theorem zjp (t:Int) (l:List Wk):∀ (i:Nat) (j:Int),j∈zaF t i l ↔ ∃ q:Nat,q < l.length/\j=((i+q:Nat):Int)/\(l.getD q (0,0)).1<=t/\t<=ve (l.getD q (0,0)):=by
 induction l with
 | nil=>intro i j; simp [zaF]
 | cons v l ih =>
  intro i j
  have key:j∈zaF t (i+1) l ↔ ∃ q:Nat,q < l.length/\j=((i+(q+1):Nat):Int)/\(l.getD q (0,0)).1<=t/\t<=ve (l.getD q (0,0)):=by
   rw [ih (i+1) j]
   constructor
   · rintro ⟨q,h1,h2,h3⟩
     exact ⟨q,h1,by omega,h3⟩
   · rintro ⟨q,h1,h2,h3⟩
     exact ⟨q,h1,by omega,h3⟩
  rw [zaF]
  constructor
  · intro h
    split at h
    · rename_i hc
      rcases List.mem_cons.1 h with rfl | h
      · exact ⟨0,by simp,by simp,hc.1,hc.2⟩
      · obtain ⟨q,h1,h2,h3⟩:=key.1 h
        exact ⟨q+1,by simp; omega,h2,h3⟩
    · obtain ⟨q,h1,h2,h3⟩:=key.1 h
      exact ⟨q+1,by simp; omega,h2,h3⟩
  · rintro ⟨q,h1,h2,h3,h4⟩
    cases q with
    | zero =>
     rw [if_pos ⟨h3,h4⟩]
     rw [h2]; simp
    | succ q =>
     have:j∈zaF t (i+1) l:=key.2 ⟨q,by simpa using h1,h2,h3,h4⟩
     split
     · exact List.mem_cons_of_mem _ this
     · exact this
def zba (l:List Wk) (last:Int):List Bool:=l.map fun v=>decide (v.1<=last)
theorem zcn (l:List Wk) (last:Int):(zba l last).length=l.length:=by simp [zba]
theorem zjq {l:List Wk} {last:Int} {i:Nat} (h:i < l.length):(zba l last).getD i false=decide ((l.getD i (0,0)).1<=last):=by
 unfold zba
 rw [List.getD_eq_getElem?_getD,List.getD_eq_getElem?_getD,List.getElem?_map,List.getElem?_eq_getElem h]
 rfl
def zcI:List Bool->List Int->List Bool
 | s,[]=>s
 | s,j::w=>zcI (s.set j.toNat true) w
theorem znr (w:List Int):∀ s,(zcI s w).length=s.length:=by
 induction w with
 | nil=>intro s; rfl
 | cons j w ih=>intro s; rw [zcI,ih,List.length_set]
theorem zpa (w:List Int):∀ (s:List Bool) (q:Nat),q < s.length->(∀ j∈w,0<=j)->((zcI s w).getD q false=true ↔ s.getD q false=true \/ (q:Int)∈w):=by
 induction w with
 | nil=>intro s q hq _; simp [zcI]
 | cons j w ih =>
  intro s q hq hw
  have hj:=hw j List.mem_cons_self
  rw [zcI,ih _ q (by rw [List.length_set]; exact hq) (fun x hx=>hw x (List.mem_cons_of_mem _ hx)),List.mem_cons]
  by_cases h:j.toNat=q
  · have e:(s.set j.toNat true).getD q false=true:=by
     rw [List.getD_eq_getElem?_getD,h,List.getElem?_set_self hq]; rfl
    have e2:(q:Int)=j:=by omega
    rw [e]
    exact ⟨fun _=>.inr (.inl e2),fun _=>.inl rfl⟩
  · have e:(s.set j.toNat true).getD q false=s.getD q false:=by
     rw [List.getD_eq_getElem?_getD,List.getElem?_set_ne h,<- List.getD_eq_getElem?_getD]
    have e2:¬ (q:Int)=j:=by omega
    rw [e]
    exact ⟨fun h=>h.elim .inl (fun h=>.inr (.inr h)),fun h=>h.elim .inl (fun h=>h.elim (fun h=>absurd h e2) .inr)⟩
theorem zns {l:List Wk} {last t:Int} (h1:∀ v∈l,last < v.1->t<=ve v) (h2:last<=t):zcI (zba l last) (zaF t 0 l)=zba l t:=by
 have hl:(zcI (zba l last) (zaF t 0 l)).length=(zba l t).length:=by rw [znr,zcn,zcn]
 refine List.ext_getElem hl fun q hq1 hq2=>?_
 have hq:q < l.length:=by rw [zcn] at hq2; exact hq2
 have e1:(zcI (zba l last) (zaF t 0 l))[q]=(zcI (zba l last) (zaF t 0 l)).getD q false:=by
  rw [List.getD_eq_getElem?_getD,List.getElem?_eq_getElem hq1]; rfl
 have e2:(zba l t)[q]=(zba l t).getD q false:=by
  rw [List.getD_eq_getElem?_getD,List.getElem?_eq_getElem hq2]; rfl
 have hm:l.getD q (0,0)∈l:=by
  rw [List.getD_eq_getElem?_getD,List.getElem?_eq_getElem hq]
  exact List.getElem_mem hq
 have hg:=h1 _ hm
 rw [e1,e2]
 have key:=zpa (zaF t 0 l) (zba l last) q (by rw [zcn]; exact hq) (fun j hj=>by
  obtain ⟨p,_,rfl,_⟩:=(zjp t l 0 j).1 hj
  omega)
 rw [zjq hq,decide_eq_true_eq,zjp] at key
 rw [zjq hq,Bool.eq_iff_iff,key,decide_eq_true_eq]
 constructor
 · rintro (h | ⟨p,hp,hqp,h3,_⟩)
   · omega
   · have:p=q:=by omega
     subst this
     exact h3
 · intro h
   by_cases h3:(l.getD q (0,0)).1<=last
   · exact .inl h3
   · exact .inr ⟨q,hq,by omega,h,hg (by omega)⟩
theorem zqM {l:List Wk} (h:zap 6 vOk l=true) {i:Nat} (hi:i < l.length):(0<=(l.getD i (0,0)).1/\(l.getD i (0,0)).1<=200)/\0<=(l.getD i (0,0)).2/\(l.getD i (0,0)).2<=200:=zdc.1 ((zan.1 h).2 _ (zaf hi))
def ltE (v u:Wk):Bool:=decide (ve v < ve u)
theorem zqN (x:Wk) (acc:List Wk) (hs:acc.Pairwise fun a b=>ve a<=ve b):∀ n,n<=acc.length->(∀ i,n<=i->i < acc.length->ve x<=ve (acc.getD i (0,0)))->(∀ i,zcV ltE (0,0) x acc n<=i->i < acc.length->ve x<=ve (acc.getD i (0,0))) /\ ∀ i,i < zcV ltE (0,0) x acc n->ve (acc.getD i (0,0))<=ve x:=by
 intro n
 induction n with
 | zero=>intro _ h; exact ⟨h,fun i hi=>absurd hi (by unfold zcV; omega)⟩
 | succ n ih =>
  intro hn h
  unfold zcV
  cases hc:ltE x (acc.getD n (0,0)) with
  | true =>
   rw [if_pos rfl]
   refine ih (by omega) fun i h1 h2=>?_
   rcases Nat.lt_or_ge n i with h3 | h3
   · exact h i (by omega) h2
   · have:i=n:=by omega
     subst this
     have:=of_decide_eq_true hc
     omega
  | false =>
   rw [if_neg (by simp)]
   refine ⟨h,fun i hi=>?_⟩
   have hx:=of_decide_eq_false hc
   rcases Nat.lt_or_ge i n with h3 | h3
   · have:=List.pairwise_iff_getElem.1 hs i n (by omega) (by omega) h3
     have e1:acc.getD i (0,0)=acc[i]'(by omega):=by rw [List.getD_eq_getElem?_getD,List.getElem?_eq_getElem (show i < acc.length by omega)]; rfl
     have e2:acc.getD n (0,0)=acc[n]'(by omega):=by rw [List.getD_eq_getElem?_getD,List.getElem?_eq_getElem (show n < acc.length by omega)]; rfl
     rw [e1]; rw [e2] at hx; omega
   · have:i=n:=by omega
     subst this
     omega
theorem zt6:∀ (n:Nat) (l:List Wk),l.length=n->(zaz ltE (0,0) l).Pairwise fun a b=>ve a<=ve b:=by
 intro n
 induction n with
 | zero=>intro l h; rw [List.length_eq_zero_iff.1 h]; exact List.Pairwise.nil
 | succ n ih =>
  intro l h
  have h0:l ≠ []:=by intro e; subst e; simp at h
  rw [<- List.dropLast_concat_getLast h0,zbK]
  have hs:=ih l.dropLast (by simp [h])
  obtain ⟨k1,k2⟩:=zqN (l.getLast h0) _ hs _ (Nat.le_refl _) (fun i h1 h2=>by omega)
  unfold ins zbe
  have hp:=zhZ ltE (0,0) (l.getLast h0) (zaz ltE (0,0) l.dropLast) (zaz ltE (0,0) l.dropLast).length
  generalize zaz ltE (0,0) l.dropLast=acc at *
  generalize zcV ltE (0,0) (l.getLast h0) acc acc.length=p at *
  refine List.pairwise_append.2 ⟨List.Pairwise.sublist (List.take_sublist _ _) hs,List.pairwise_cons.2 ⟨fun y hy=>?_,List.Pairwise.sublist (List.drop_sublist _ _) hs⟩,fun a ha b hb=>?_⟩
  · obtain ⟨i,i1,i2,rfl⟩:=zbt (z:=(0,0)) hy
    exact k1 i i1 i2
  · obtain ⟨i,i1,i2,rfl⟩:=zbH (z:=(0,0)) ha
    rcases List.mem_cons.1 hb with rfl | hb
    · exact k2 i i1
    · obtain ⟨j,j1,j2,rfl⟩:=zbt (z:=(0,0)) hb
      have:=k1 j j1 j2
      have:=k2 i i1
      omega
theorem cmpE:zqz (fun _ (x y:Wk)=>qbqz.f x.1 x.2 y.1 y.2) ltE (fun v=>vOk v=true):=by
 intro x y hx hy
 have hx:=zdc.1 hx
 have hy:=zdc.1 hy
 obtain ⟨c,e,l,_⟩:=zbV (x.1+x.2) (y.1+y.2)
 refine ⟨c,zsF ?_,?_⟩
 · unfold qbqz.f
   rw [w64 (x:=x.1+x.2) (by omega) (by omega),w64 (x:=y.1+y.2) (by omega) (by omega),e]
   rfl
 · rw [l]; rfl
theorem zs7 {n:Nat} (h:n<=6):∃ t,qfcz.f (IntKind.wrap .u64 (n:Int))=some t:=by
 have e:IntKind.wrap .u64 (n:Int)=(n:Int):=by
  simp [IntKind.wrap,IntKind.bits,IntKind.signed]
  omega
 have e2:IntKind.wrap .u8 (n:Int)=(n:Int):=by
  simp [IntKind.wrap,IntKind.bits,IntKind.signed]
  omega
 unfold qfcz.f qdqz.f
 rw [e,if_neg (show ¬ iGe (n:Int) 4294967296=true by rw [show iGe (n:Int) 4294967296=false from decide_eq_false (by omega)]; decide),
  if_neg (show ¬ iGe (n:Int) 65536=true by rw [show iGe (n:Int) 65536=false from decide_eq_false (by omega)]; decide),
  if_neg (show ¬ iGe (n:Int) 256=true by rw [show iGe (n:Int) 256=false from decide_eq_false (by omega)]; decide),
  S.1 (show 0<=IntKind.wrap .u8 (n:Int) by omega),S.1 (show IntKind.wrap .u8 (n:Int) < 256 by omega)]
 exact ⟨_,rfl⟩
theorem znt {l:List Wk} (hv:zap 6 vOk l=true):Ev (fun k=>qahz.f k l) (zaz ltE (0,0) l):=by
 obtain ⟨h1,h2⟩:=zan.1 hv
 obtain ⟨t,ht⟩:=zs7 h1.2
 refine qahz.v ?_
 simp only [S,ht]
 refine Ev.bind (qarz.v (qarz.v0 ?_)) (Ev.now _)
 have c:iLe (W ((l.length:Int)-0)) 12=true:=decide_eq_true (by rw [w64 (by omega) (by omega)]; omega)
 simp only [c,if_true]
 refine Ev.bind (v:=zaz ltE (0,0) l) (qaez.v ?_) (Ev.now _)
 have h:=zk5 cmpE (F0:=fun k a b i arr=>qaez.l0 k a b i arr) (F1:=fun k a b i j arr=>qaez.l1 k a b i j arr)
  qaez.v0 qaez.v1 [] l [] h2 (by simp; omega)
 simp only [List.length_nil,Nat.zero_add,List.nil_append,List.append_nil] at h
 rw [show W (0+1)=1 by decide]
 exact h
theorem zmm {T:List Wk} (hg:zap 6 vOk T=true) (d:Nat):∀ (i:Nat) (acc:List Int) (last:Int),i+d=T.length->acc.length<=i ->
    Ev (fun k=>qcdz.l0 k last (T.length:Int) (i:Int) acc T) (acc++runL last (T.drop i),true):=by
 have hl:=(zan.1 hg).1
 induction d with
 | zero =>
  intro i acc last hi ha
  rw [List.drop_eq_nil_of_le (by omega)]
  refine qcdz.v0 ?_
  simp (disch:=omega) only [S]
  exact zbS (by simp [runL])
 | succ d ih =>
  intro i acc last hi ha
  have hb:=zqM hg (show i < T.length by omega)
  rw [zav (0,0) (show i < T.length by omega),runL]
  refine qcdz.v0 ?_
  by_cases h:last < (T.getD i (0,0)).1
  · simp (disch:=omega) only [S,if_pos h]
    rw [show acc++ve (T.getD i (0,0))::runL (ve (T.getD i (0,0))) (T.drop (i+1))=acc++[ve (T.getD i (0,0))]++runL (ve (T.getD i (0,0))) (T.drop (i+1)) by simp]
    exact ih (i+1) _ _ (by omega) (by simp; omega)
  · simp (disch:=omega) only [S,if_neg h]
    exact ih (i+1) _ _ (by omega) (by omega)
theorem ze3 {l:List Wk} (hv:zap 6 vOk l=true):∃ r,r.length<=6/\Gd l (-1) r/\(0<=0 /\ ∀ x∈r,i64 x)/\Ev (fun k=>qcdz.f k l) (r,true):=by
 obtain ⟨hl,h2⟩:=zan.1 hv
 have hm:∀ v,v∈zaz ltE (0,0) l ↔ v∈l:=fun v=>(za4 _ _ _).mem_iff
 have hil:=zcD ltE (0,0) l
 have hvT:zap 6 vOk (zaz ltE (0,0) l)=true:=zan.2 ⟨by omega,fun w hw=>h2 w ((hm w).1 hw)⟩
 have hr:=zrK (zaz ltE (0,0) l) (-1)
 have hmem:∀ (s:List Wk),(∀ v∈s,vOk v=true)->∀ last,∀ x∈runL last s,i64 x:=by
  intro s
  induction s with
  | nil=>intro _ last x hx; simp [runL] at hx
  | cons v s ih =>
   intro h last x hx
   unfold runL at hx
   split at hx
   · rcases List.mem_cons.1 hx with rfl | hx
     · have:=zdc.1 (h v (by simp))
       unfold i64 ve; omega
     · exact ih (fun u hu=>h u (List.mem_cons_of_mem _ hu)) _ x hx
   · exact ih (fun u hu=>h u (List.mem_cons_of_mem _ hu)) _ x hx
 refine ⟨runL (-1) (zaz ltE (0,0) l),by omega,?_,⟨Nat.le_refl _,hmem _ (fun v hv'=>h2 v ((hm v).1 hv')) _⟩,?_⟩
 · refine zrL hm _ _ (zt5 _ (fun u hu=>?_) (zt6 _ l rfl) (-1))
   have:=zdc.1 (h2 u ((hm u).1 hu))
   unfold ve; omega
 · refine qcdz.v (Ev.bind (zcm l) ?_)
   unfold qbiz.f
   simp (disch:=omega) only [hv,S]
   refine Ev.bind (znt hv) ?_
   have:=zmm hvT (zaz ltE (0,0) l).length 0 [] (-1) (by omega) (by simp)
   simpa using this
theorem zjr {l:List Wk} (hv:zap 6 vOk l=true) (t:Int):Ev (fun k=>qfsz.f k l t) (zaF t 0 l):=by
 have hl:=(zan.1 hv).1
 have key:∀ (d i:Nat) (acc:List Int),i+d=l.length->acc.length<=i->Ev (fun k=>qfsz.l0 k t l (l.length:Int) (i:Int) acc) (acc++zaF t i (l.drop i)):=by
  intro d
  induction d with
  | zero =>
   intro i acc hi ha
   rw [List.drop_eq_nil_of_le (by omega)]
   refine qfsz.v0 ?_
   simp (disch:=omega) only [S]
   exact zbS (by simp [zaF])
  | succ d ih =>
   intro i acc hi ha
   have hb:=zqM hv (show i < l.length by omega)
   rw [zav (0,0) (show i < l.length by omega)]
   refine qfsz.v0 ?_
   simp (disch:=omega) only [S,zaq,decide_eq_true_eq,zaF]
   by_cases h1:(l.getD i (0,0)).1<=t/\t<=(l.getD i (0,0)).1+(l.getD i (0,0)).2
   · have h:=ih (i+1) (acc++[(i:Int)]) (by omega) (by simp; omega)
     rw [List.append_assoc] at h
     simp only [if_pos h1]
     exact h
   · have h:=ih (i+1) acc (by omega) (by omega)
     simp only [if_neg h1]
     exact h
 exact qfsz.v (key l.length 0 [] (by omega) (by simp))
theorem zkm {l:List Wk} (hv:zap 6 vOk l=true) {acc:List Int} {last:Int} {R:List Int×Bool} (ha:acc.length<=1000) (d:Nat):∀ (i:Nat) (c:Int),i+d=l.length ->
    Ev (fun k=>if zfi last (l.drop i) c < 0 then some (acc,true) else ((qfsz.f k l (zfi last (l.drop i) c)).bind fun t=>(qcgz.l2 k l t (t.length:Int) 0 (acc++[zfi last (l.drop i) c]) (zba l last)))) R ->
    Ev (fun k=>qcgz.l1 k l c l (l.length:Int) (i:Int) acc (zba l last)) R:=by
 have hl:=(zan.1 hv).1
 induction d with
 | zero =>
  intro i c hi hR
  rw [List.drop_eq_nil_of_le (by omega)] at hR
  refine qcgz.v1 ?_
  rw [show zfi last [] c=c from rfl] at hR
  by_cases hc:c < 0
  · simp only [if_pos hc] at hR
    simp (disch:=omega) only [S]
    exact hR
  · simp only [if_neg hc] at hR
    simp (disch:=omega) only [S]
    exact hR
 | succ d ih =>
  intro i c hi hR
  have hb:=zqM hv (show i < l.length by omega)
  have hsl:=zcn l last
  rw [zav (0,0) (show i < l.length by omega),zfi] at hR
  refine qcgz.v1 ?_
  have sa:=zjq (l:=l) (last:=last) (show i < l.length by omega)
  by_cases h0:(l.getD i (0,0)).1<=last
  · rw [decide_eq_true h0] at sa
    simp only [if_pos h0] at hR
    simp (disch:=omega) only [S,sa]
    exact ih (i+1) c (by omega) hR
  · rw [decide_eq_false h0] at sa
    simp only [if_neg h0] at hR
    by_cases h1:c < 0
    · simp only [if_pos h1] at hR
      simp (disch:=omega) only [S,sa]
      exact ih (i+1) _ (by omega) hR
    · simp only [if_neg h1] at hR
      by_cases h2:(l.getD i (0,0)).1+(l.getD i (0,0)).2 < c
      · simp only [if_pos h2] at hR
        simp (disch:=omega) only [S,sa]
        exact ih (i+1) _ (by omega) hR
      · simp only [if_neg h2] at hR
        simp (disch:=omega) only [S,sa]
        exact ih (i+1) _ (by omega) hR
theorem zpb {l:List Wk} {acc:List Int} {R:List Int×Bool} {w:List Int} (hw:w.length<=1000) (hj:∀ j∈w,0<=j/\j < (l.length:Int)) (d:Nat):∀ (i:Nat) (s:List Bool),i+d=w.length->s.length=l.length ->
    Ev (fun k=>qcgz.l0 k l acc (zcI s (w.drop i))) R ->
    Ev (fun k=>qcgz.l2 k l w (w.length:Int) (i:Int) acc s) R:=by
 induction d with
 | zero =>
  intro i s hi hs hR
  rw [List.drop_eq_nil_of_le (by omega)] at hR
  refine qcgz.v2 ?_
  simp (disch:=omega) only [S]
  exact hR
 | succ d ih =>
  intro i s hi hs hR
  have hb:=hj _ (zaf (z:=0) (show i < w.length by omega))
  rw [zav 0 (show i < w.length by omega),zcI] at hR
  refine qcgz.v2 ?_
  simp (disch:=omega) only [S]
  exact ih (i+1) _ (by omega) (by rw [List.length_set]; exact hs) hR
theorem zpc {l:List Wk} (hv:zap 6 vOk l=true) (r:List Int):∀ (last:Int) (acc:List Int),Gd l last r->acc.length+r.length<=1000 ->
    Ev (fun k=>qcgz.l0 k l acc (zba l last)) (acc++r,true):=by
 obtain ⟨hl6,hmem⟩:=zan.1 hv
 induction r with
 | nil =>
  intro last acc hg ha
  simp only [List.length_nil] at ha
  refine qcgz.v0 ?_
  simp only [S]
  refine zkm hv (by omega) l.length 0 (-1) (by omega) ?_
  rw [List.drop_zero,znp l hg]
  simp only [if_pos (show (-1:Int) < 0 by omega),List.append_nil]
  exact Ev.now _
 | cons t r ih =>
  rintro last acc ⟨⟨v,hvl,hl,he⟩,h2,h3⟩ ha
  have hgv:=zdc.1 (hmem _ hvl)
  have ht:0<=t/\last<=t:=by unfold ve at he; omega
  rw [List.length_cons] at ha
  refine qcgz.v0 ?_
  simp only [S]
  refine zkm hv (by omega) l.length 0 (-1) (by omega) ?_
  rw [List.drop_zero,znq ht.1 l h2 (-1) (.inr ⟨⟨v,hvl,hl,he⟩,.inl (by omega)⟩)]
  simp only [if_neg (show ¬ t < 0 by omega)]
  refine Ev.bind (zjr hv t) ?_
  have hlen:=zk9 t l 0
  refine zpb (by omega) (fun j hj=>by
   obtain ⟨p,hp,rfl,_⟩:=(zjp t l 0 j).1 hj
   omega) (zaF t 0 l).length 0 _ (by omega) (zcn _ _) ?_
  rw [List.drop_zero,zns h2 ht.2,show acc++t::r=acc++[t]++r by simp]
  exact ih t _ h3 (by simp; omega)
theorem zg2 {l:List Wk} (hv:zap 6 vOk l=true):∃ L:List Int,Ev (fun k=>qcdz.f k l) (L,true)/\Ev (fun k=>qcgz.f k l) (L,true)/\L.length<=6 /\ ∀ n∈L,i64 n:=by
 obtain ⟨hl,hmem⟩:=zan.1 hv
 obtain ⟨r,h1,h2,h3,h4⟩:=ze3 hv
 refine ⟨r,h4,qcgz.v (Ev.bind (zdC l) ?_),h1,h3.2⟩
 simp (disch:=omega) only [hv,S]
 have e:List.replicate l.length false=zba l (-1):=by
  refine (List.eq_replicate_iff.2 ⟨zcn _ _,fun b hb=>?_⟩).symm
  obtain ⟨v,hvl,rfl⟩:=List.mem_map.1 hb
  have:=zdc.1 (hmem _ hvl)
  exact decide_eq_false (by omega)
 rw [e]
 exact zpc hv r (-1) [] h2 (by simp; omega)
def beqN:List Nat->List Nat->Bool
 | [],[]=>true
 | a::l,b::m=>(a % 256 == b % 256) && beqN l m
 | _,_=>false
theorem zqO:∀ a b:List Nat,beqN a b=decide (a.map UInt8.ofNat=b.map UInt8.ofNat)
 | [],[]=>rfl
 | [],_::_=>rfl
 | _::_,[]=>rfl
 | a::l,b::m=>by
  have h:(UInt8.ofNat a=UInt8.ofNat b) ↔ a % 256=b % 256:=by
   rw [<- UInt8.toNat_inj,UInt8.toNat_ofNat',UInt8.toNat_ofNat']
  unfold beqN
  rw [zqO l m,List.map_cons,List.map_cons,Bool.eq_iff_iff,Bool.and_eq_true,beq_iff_eq,decide_eq_true_eq,decide_eq_true_eq,List.cons.injEq,h]
theorem sqn (a b:List Nat):seq (bs a) (bs b)=beqN a b:=by rw [zql,zql,zqn,zqO]
def zbW:List (List Nat×List Nat):=[([119,97,108,107,101,114,115],[87]),([97,100,100],[87]),([114,105,110,103],[78]),([116,117,114,110],[78]),([100,114,111,112],[78]),([97,116],[78]),([115,104,111,119],[]),([112,97,105,114,115],[]),([102,105,114,115,116],[]),([108,101,97,100],[]),([108,97,115,116],[]),([115,116,97,114,116],[]),([109,101,101,116],[78,78]),([119,104,101,114,101],[78,78]),([97,114,111,117,110,100],[78,78]),([103,97,112],[78,78]),([112,108,97,99,101,115],[78,78]),([100,111,103],[67]),([114,117,110],[67]),([97,112,97,114,116],[67,78]),([109,101,97,110],[76]),([116,105,109,101],[76]),([110,101,101,100],[76,78,78]),([118,105,115,105,116,115],[86]),([103,117,105,100,101,115],[86]),([99,104,97,110,99,101],[78,78,78])]
theorem zaT {w:List UInt8} {b:List Nat} (h:¬ w=b.map UInt8.ofNat):seq (bL w) (bs b)=false:=by rw [zql,zqn]; exact decide_eq_false h
theorem znu (w:List UInt8):(qetz.f (bL w)=some (bs [],false)/\qfpz.f (bL w)=some (bs [63])) \/
    ∃ e∈zbW,bL w=bs e.1/\qetz.f (bs e.1)=some (bs e.2,true)/\qfpz.f (bs e.1)=some (bs (e.2.map (· + 32))):=by
 by_cases h0:w=([119,97,108,107,101,114,115]:List Nat).map UInt8.ofNat
 · exact .inr ⟨([119,97,108,107,101,114,115],[87]),by unfold zbW; simp only [List.mem_cons,true_or,or_true],by rw [h0]; rfl,by unfold qetz.f; simp only [sqn]; rfl,by unfold qfpz.f; simp only [sqn]; rfl⟩
 by_cases h1:w=([97,100,100]:List Nat).map UInt8.ofNat
 · exact .inr ⟨([97,100,100],[87]),by unfold zbW; simp only [List.mem_cons,true_or,or_true],by rw [h1]; rfl,by unfold qetz.f; simp only [sqn]; rfl,by unfold qfpz.f; simp only [sqn]; rfl⟩
 by_cases h2:w=([114,105,110,103]:List Nat).map UInt8.ofNat
 · exact .inr ⟨([114,105,110,103],[78]),by unfold zbW; simp only [List.mem_cons,true_or,or_true],by rw [h2]; rfl,by unfold qetz.f; simp only [sqn]; rfl,by unfold qfpz.f; simp only [sqn]; rfl⟩
 by_cases h3:w=([116,117,114,110]:List Nat).map UInt8.ofNat
 · exact .inr ⟨([116,117,114,110],[78]),by unfold zbW; simp only [List.mem_cons,true_or,or_true],by rw [h3]; rfl,by unfold qetz.f; simp only [sqn]; rfl,by unfold qfpz.f; simp only [sqn]; rfl⟩
 by_cases h4:w=([100,114,111,112]:List Nat).map UInt8.ofNat
 · exact .inr ⟨([100,114,111,112],[78]),by unfold zbW; simp only [List.mem_cons,true_or,or_true],by rw [h4]; rfl,by unfold qetz.f; simp only [sqn]; rfl,by unfold qfpz.f; simp only [sqn]; rfl⟩
 by_cases h5:w=([97,116]:List Nat).map UInt8.ofNat
 · exact .inr ⟨([97,116],[78]),by unfold zbW; simp only [List.mem_cons,true_or,or_true],by rw [h5]; rfl,by unfold qetz.f; simp only [sqn]; rfl,by unfold qfpz.f; simp only [sqn]; rfl⟩
 by_cases h6:w=([115,104,111,119]:List Nat).map UInt8.ofNat
 · exact .inr ⟨([115,104,111,119],[]),by unfold zbW; simp only [List.mem_cons,true_or,or_true],by rw [h6]; rfl,by unfold qetz.f; simp only [sqn]; rfl,by unfold qfpz.f; simp only [sqn]; rfl⟩
 by_cases h7:w=([112,97,105,114,115]:List Nat).map UInt8.ofNat
 · exact .inr ⟨([112,97,105,114,115],[]),by unfold zbW; simp only [List.mem_cons,true_or,or_true],by rw [h7]; rfl,by unfold qetz.f; simp only [sqn]; rfl,by unfold qfpz.f; simp only [sqn]; rfl⟩
 by_cases h8:w=([102,105,114,115,116]:List Nat).map UInt8.ofNat
 · exact .inr ⟨([102,105,114,115,116],[]),by unfold zbW; simp only [List.mem_cons,true_or,or_true],by rw [h8]; rfl,by unfold qetz.f; simp only [sqn]; rfl,by unfold qfpz.f; simp only [sqn]; rfl⟩
 by_cases h9:w=([108,101,97,100]:List Nat).map UInt8.ofNat
 · exact .inr ⟨([108,101,97,100],[]),by unfold zbW; simp only [List.mem_cons,true_or,or_true],by rw [h9]; rfl,by unfold qetz.f; simp only [sqn]; rfl,by unfold qfpz.f; simp only [sqn]; rfl⟩
 by_cases h10:w=([108,97,115,116]:List Nat).map UInt8.ofNat
 · exact .inr ⟨([108,97,115,116],[]),by unfold zbW; simp only [List.mem_cons,true_or,or_true],by rw [h10]; rfl,by unfold qetz.f; simp only [sqn]; rfl,by unfold qfpz.f; simp only [sqn]; rfl⟩
 by_cases h11:w=([115,116,97,114,116]:List Nat).map UInt8.ofNat
 · exact .inr ⟨([115,116,97,114,116],[]),by unfold zbW; simp only [List.mem_cons,true_or,or_true],by rw [h11]; rfl,by unfold qetz.f; simp only [sqn]; rfl,by unfold qfpz.f; simp only [sqn]; rfl⟩
 by_cases h12:w=([109,101,101,116]:List Nat).map UInt8.ofNat
 · exact .inr ⟨([109,101,101,116],[78,78]),by unfold zbW; simp only [List.mem_cons,true_or,or_true],by rw [h12]; rfl,by unfold qetz.f; simp only [sqn]; rfl,by unfold qfpz.f; simp only [sqn]; rfl⟩
 by_cases h13:w=([119,104,101,114,101]:List Nat).map UInt8.ofNat
 · exact .inr ⟨([119,104,101,114,101],[78,78]),by unfold zbW; simp only [List.mem_cons,true_or,or_true],by rw [h13]; rfl,by unfold qetz.f; simp only [sqn]; rfl,by unfold qfpz.f; simp only [sqn]; rfl⟩
 by_cases h14:w=([97,114,111,117,110,100]:List Nat).map UInt8.ofNat
 · exact .inr ⟨([97,114,111,117,110,100],[78,78]),by unfold zbW; simp only [List.mem_cons,true_or,or_true],by rw [h14]; rfl,by unfold qetz.f; simp only [sqn]; rfl,by unfold qfpz.f; simp only [sqn]; rfl⟩
 by_cases h15:w=([103,97,112]:List Nat).map UInt8.ofNat
 · exact .inr ⟨([103,97,112],[78,78]),by unfold zbW; simp only [List.mem_cons,true_or,or_true],by rw [h15]; rfl,by unfold qetz.f; simp only [sqn]; rfl,by unfold qfpz.f; simp only [sqn]; rfl⟩
 by_cases h16:w=([112,108,97,99,101,115]:List Nat).map UInt8.ofNat
 · exact .inr ⟨([112,108,97,99,101,115],[78,78]),by unfold zbW; simp only [List.mem_cons,true_or,or_true],by rw [h16]; rfl,by unfold qetz.f; simp only [sqn]; rfl,by unfold qfpz.f; simp only [sqn]; rfl⟩
 by_cases h17:w=([100,111,103]:List Nat).map UInt8.ofNat
 · exact .inr ⟨([100,111,103],[67]),by unfold zbW; simp only [List.mem_cons,true_or,or_true],by rw [h17]; rfl,by unfold qetz.f; simp only [sqn]; rfl,by unfold qfpz.f; simp only [sqn]; rfl⟩
 by_cases h18:w=([114,117,110]:List Nat).map UInt8.ofNat
 · exact .inr ⟨([114,117,110],[67]),by unfold zbW; simp only [List.mem_cons,true_or,or_true],by rw [h18]; rfl,by unfold qetz.f; simp only [sqn]; rfl,by unfold qfpz.f; simp only [sqn]; rfl⟩
 by_cases h19:w=([97,112,97,114,116]:List Nat).map UInt8.ofNat
 · exact .inr ⟨([97,112,97,114,116],[67,78]),by unfold zbW; simp only [List.mem_cons,true_or,or_true],by rw [h19]; rfl,by unfold qetz.f; simp only [sqn]; rfl,by unfold qfpz.f; simp only [sqn]; rfl⟩
 by_cases h20:w=([109,101,97,110]:List Nat).map UInt8.ofNat
 · exact .inr ⟨([109,101,97,110],[76]),by unfold zbW; simp only [List.mem_cons,true_or,or_true],by rw [h20]; rfl,by unfold qetz.f; simp only [sqn]; rfl,by unfold qfpz.f; simp only [sqn]; rfl⟩
 by_cases h21:w=([116,105,109,101]:List Nat).map UInt8.ofNat
 · exact .inr ⟨([116,105,109,101],[76]),by unfold zbW; simp only [List.mem_cons,true_or,or_true],by rw [h21]; rfl,by unfold qetz.f; simp only [sqn]; rfl,by unfold qfpz.f; simp only [sqn]; rfl⟩
 by_cases h22:w=([110,101,101,100]:List Nat).map UInt8.ofNat
 · exact .inr ⟨([110,101,101,100],[76,78,78]),by unfold zbW; simp only [List.mem_cons,true_or,or_true],by rw [h22]; rfl,by unfold qetz.f; simp only [sqn]; rfl,by unfold qfpz.f; simp only [sqn]; rfl⟩
 by_cases h23:w=([118,105,115,105,116,115]:List Nat).map UInt8.ofNat
 · exact .inr ⟨([118,105,115,105,116,115],[86]),by unfold zbW; simp only [List.mem_cons,true_or,or_true],by rw [h23]; rfl,by unfold qetz.f; simp only [sqn]; rfl,by unfold qfpz.f; simp only [sqn]; rfl⟩
 by_cases h24:w=([103,117,105,100,101,115]:List Nat).map UInt8.ofNat
 · exact .inr ⟨([103,117,105,100,101,115],[86]),by unfold zbW; simp only [List.mem_cons,true_or,or_true],by rw [h24]; rfl,by unfold qetz.f; simp only [sqn]; rfl,by unfold qfpz.f; simp only [sqn]; rfl⟩
 by_cases h25:w=([99,104,97,110,99,101]:List Nat).map UInt8.ofNat
 · exact .inr ⟨([99,104,97,110,99,101],[78,78,78]),by unfold zbW; simp only [List.mem_cons,true_or,or_true],by rw [h25]; rfl,by unfold qetz.f; simp only [sqn]; rfl,by unfold qfpz.f; simp only [sqn]; rfl⟩
 refine .inl ⟨?_,?_⟩
 · unfold qetz.f; simp only [zaT h0,zaT h1,zaT h2,zaT h3,zaT h4,zaT h5,zaT h6,zaT h7,zaT h8,zaT h9,zaT h10,zaT h11,zaT h12,zaT h13,zaT h14,zaT h15,zaT h16,zaT h17,zaT h18,zaT h19,zaT h20,zaT h21,zaT h22,zaT h23,zaT h24,zaT h25,Bool.false_eq_true,if_false]
 · unfold qfpz.f; simp only [zaT h0,zaT h1,zaT h2,zaT h3,zaT h4,zaT h5,zaT h6,zaT h7,zaT h8,zaT h9,zaT h10,zaT h11,zaT h12,zaT h13,zaT h14,zaT h15,zaT h16,zaT h17,zaT h18,zaT h19,zaT h20,zaT h21,zaT h22,zaT h23,zaT h24,zaT h25,Bool.false_eq_true,if_false]
abbrev Ar:=List Wk×(Int×(Int×(Int×(Int×(List Wk×(List Wk×List Int))))))
def zaO (c:Nat) (w:List UInt8) (s:Ar):Option Ar :=
 if c=87 then (if (zbd w).2=true then some ((zbd w).1,s.2) else none)
 else if c=67 then (if (zas w).2=true then some (s.1,((zas w).1.1,((zas w).1.2.1,((zas w).1.2.2.1,((zas w).1.2.2.2,s.2.2.2.2.2))))) else none)
 else if c=76 then (if (zcx w).2=true then some (s.1,(s.2.1,(s.2.2.1,(s.2.2.2.1,(s.2.2.2.2.1,((zcx w).1,s.2.2.2.2.2.2)))))) else none)
 else if c=86 then (if (zbv w).2=true then some (s.1,(s.2.1,(s.2.2.1,(s.2.2.2.1,(s.2.2.2.2.1,(s.2.2.2.2.2.1,((zbv w).1,s.2.2.2.2.2.2.2))))))) else none)
 else if 0<=l1r w then some (s.1,(s.2.1,(s.2.2.1,(s.2.2.2.1,(s.2.2.2.2.1,(s.2.2.2.2.2.1,(s.2.2.2.2.2.2.1,s.2.2.2.2.2.2.2++[l1r w]))))))) else none
def zfL:List Nat->List (List UInt8)->Ar->Option Ar
 | [],_,s=>some s
 | _::_,[],_=>none
 | c::cs,w::ws,s=>(zaO c w s).bind (zfL cs ws)
theorem zom (w:List UInt8):(∃ n,0<=n/\n<=999999/\zdU w=(n,true)/\l1r w=n) \/ (l1r w = -1/\((zdU w).2=false \/ decide (0<=(zdU w).1/\(zdU w).1<=999999)=false)):=by
 rcases zdb w with ⟨n,h0,h1,hw,h2⟩ | ⟨h2,hn⟩
 · exact .inl ⟨n,h0,h1,by rw [hw]; exact zdV (by omega) (by omega),h2⟩
 · refine .inr ⟨h2,?_⟩
   rcases zi2 w with ⟨n,_,_,hw,h3⟩ | ⟨h3,_⟩
   · refine .inr (decide_eq_false fun h=>hn n ?_ ?_ hw)
     · rw [h3] at h; exact h.1
     · rw [h3] at h; exact h.2
   · exact .inl (by rw [h3])
theorem znv (w:List UInt8) (s:Ar):zaO 78 w s=if 0<=l1r w then some (s.1,(s.2.1,(s.2.2.1,(s.2.2.2.1,(s.2.2.2.2.1,(s.2.2.2.2.2.1,(s.2.2.2.2.2.2.1,s.2.2.2.2.2.2.2++[l1r w]))))))) else none:=by
 unfold zaO
 rw [if_neg (by decide),if_neg (by decide),if_neg (by decide),if_neg (by decide)]
def zmn (c:Nat):Prop:=c=87 \/ c=67 \/ c=76 \/ c=86 \/ c=78
theorem zmo {c:Nat} (hc:zmn c) {w:List UInt8} (hw:w.length<=2000000) (s:Ar) (hs:s.2.2.2.2.2.2.2.length<=1000) :
    ∃ t:Ar,Ev (fun k=>qbtz.f k s.1 s.2.1 s.2.2.1 s.2.2.2.1 s.2.2.2.2.1 s.2.2.2.2.2.1 s.2.2.2.2.2.2.1 s.2.2.2.2.2.2.2 (c:Int) (bL w)) ((zaO c w s).isSome,t) /\ ∀ t',zaO c w s=some t'->t=t':=by
 rcases hc with rfl | rfl | rfl | rfl | rfl
 · refine ⟨((zbd w).1,s.2),qbtz.v ?_,?_⟩
   · simp (disch:=omega) only [S]
     refine Ev.bind (ze2 hw) (zbS ?_)
     unfold zaO
     rw [if_pos rfl]
     cases (zbd w).2 <;> rfl
   · intro t' h
     unfold zaO at h
     rw [if_pos rfl] at h
     split at h
     · injection h
     · cases h
 · refine ⟨(s.1,((zas w).1.1,((zas w).1.2.1,((zas w).1.2.2.1,((zas w).1.2.2.2,s.2.2.2.2.2))))),qbtz.v ?_,?_⟩
   · simp (disch:=omega) only [S]
     refine Ev.bind (zgj hw) (zbS ?_)
     unfold zaO
     rw [if_neg (by decide),if_pos rfl]
     cases (zas w).2 <;> rfl
   · intro t' h
     unfold zaO at h
     rw [if_neg (by decide),if_pos rfl] at h
     split at h
     · injection h
     · cases h
 · refine ⟨(s.1,(s.2.1,(s.2.2.1,(s.2.2.2.1,(s.2.2.2.2.1,((zcx w).1,s.2.2.2.2.2.2)))))),qbtz.v ?_,?_⟩
   · simp (disch:=omega) only [S]
     refine Ev.bind (zgU hw) (zbS ?_)
     unfold zaO
     rw [if_neg (by decide),if_neg (by decide),if_pos rfl]
     cases (zcx w).2 <;> rfl
   · intro t' h
     unfold zaO at h
     rw [if_neg (by decide),if_neg (by decide),if_pos rfl] at h
     split at h
     · injection h
     · cases h
 · refine ⟨(s.1,(s.2.1,(s.2.2.1,(s.2.2.2.1,(s.2.2.2.2.1,(s.2.2.2.2.2.1,((zbv w).1,s.2.2.2.2.2.2.2))))))),qbtz.v ?_,?_⟩
   · simp (disch:=omega) only [S]
     refine Ev.bind (zfC hw) (zbS ?_)
     unfold zaO
     rw [if_neg (by decide),if_neg (by decide),if_neg (by decide),if_pos rfl]
     cases (zbv w).2 <;> rfl
   · intro t' h
     unfold zaO at h
     rw [if_neg (by decide),if_neg (by decide),if_neg (by decide),if_pos rfl] at h
     split at h
     · injection h
     · cases h
 · refine ⟨(s.1,(s.2.1,(s.2.2.1,(s.2.2.2.1,(s.2.2.2.2.1,(s.2.2.2.2.2.1,(s.2.2.2.2.2.2.1,s.2.2.2.2.2.2.2++[(zdU w).1]))))))),qbtz.v ?_,?_⟩
   · simp (disch:=omega) only [S,zdv hw,zar]
     rw [znv]
     rcases zom w with ⟨n,h0,h1,hn,hr⟩ | ⟨hr,hn⟩
     · rw [hn,hr,if_pos h0]
       refine zbS ?_
       rw [show decide (0<=n/\n<=999999)=true from decide_eq_true ⟨h0,h1⟩]
       rfl
     · rw [hr]
       rcases hn with hn | hn
       · simp only [hn,Bool.false_eq_true,if_false]
         exact zbS rfl
       · simp only [hn]
         cases (zdU w).2
         · exact zbS rfl
         · exact zbS rfl
   · intro t' h
     rw [znv] at h
     rcases zom w with ⟨n,h0,h1,hn,hr⟩ | ⟨hr,hn⟩
     · rw [hr,if_pos h0] at h
       rw [hn]
       injection h
     · rw [hr] at h
       simp at h
abbrev zt7:=BA×((List Wk×(Int×Ar))×Bool)
noncomputable abbrev zkn (k:Fu) (X:List BA) (Y:BA) (Z:List BA) (m i:Int) (D:List Wk) (n:Int) (s:Ar):Option zt7:=qglz.l0 k X Y Z m i 0 0 0 0 0 D n s.1 s.2.1 s.2.2.1 s.2.2.2.1 s.2.2.2.2.1 s.2.2.2.2.2.1 s.2.2.2.2.2.2.1 s.2.2.2.2.2.2.2
noncomputable abbrev zmp (k:Fu) (X:List BA) (Y:BA) (Z:List BA) (m i:Int) (D:List Wk) (n:Int) (s:Ar):=qewz.l0 k X Y Z m i D n 0 s.1 s.2.1 s.2.2.1 s.2.2.2.1 s.2.2.2.2.1 s.2.2.2.2.2.1 s.2.2.2.2.2.2.1 s.2.2.2.2.2.2.2
theorem zqP {fs:List Nat} {i:Nat} (h:i < fs.length):bat (bs fs) (i:Int)=((fs.getD i 0 % 256:Nat):Int):=by
 rw [zql,zht (by simpa using h)]
 have e:(fs.map UInt8.ofNat).getD i 0=UInt8.ofNat (fs.getD i 0):=by simp [h]
 rw [e,UInt8.toNat_ofNat']
theorem zg3 (fs:List Nat):(bs fs).size=fs.length:=by rw [zql,zal,List.length_map]
theorem zqQ {X:List BA} {fs:List Nat} {ws:List (List UInt8)} (hfw:fs.length=ws.length) (hl:ws.length<=1000) (hw:∀ w∈ws,w.length<=2000000) {D:List Wk} {n:Int} (s:Ar) (hs:s.2.2.2.2.2.2.2.length<=1000) {i:Nat} (hi:i < ws.length) (hc:zmn (fs.getD i 0)) :
    (zaO (fs.getD i 0) (ws.getD i []) s=none->∃ z,Ev (fun k=>zkn k X (bs (fs.map (· + 32))) (ws.map bL) (ws.length:Int) (i:Int) D n s) (bs [],(z,false))) /\
    (∀ t,zaO (fs.getD i 0) (ws.getD i []) s=some t->∀ r,Ev (fun k=>zkn k X (bs (fs.map (· + 32))) (ws.map bL) (ws.length:Int) ((i+1:Nat):Int) D n t) r->Ev (fun k=>zkn k X (bs (fs.map (· + 32))) (ws.map bL) (ws.length:Int) (i:Int) D n s) r):=by
 have hwi:=hw _ (zaf (z:=[]) hi)
 have hb:bat (bs (fs.map (· + 32))) (i:Int)=(((fs.getD i 0+32) % 256:Nat):Int):=by
  rw [zqP (by simp; omega)]
  have e:(fs.map (· + 32)).getD i 0=fs.getD i 0+32:=by
   have:i < fs.length:=by omega
   simp [this]
  rw [e]
 have hz:=zg3 (fs.map (· + 32))
 rw [List.length_map] at hz
 have hml:(ws.map bL).length=ws.length:=List.length_map _
 have hg:=zeH ws i
 generalize fs.getD i 0=c at *
 generalize ws.getD i []=w at *
 rcases hc with rfl | rfl | rfl | rfl | rfl
 · have hE:=zi9 hwi
   cases hq:(zbd w).2 with
   | true =>
    refine ⟨fun h=>by unfold zaO at h; simp [hq] at h,fun t h r hr=>qglz.v0 ?_⟩
    have ht:t=((zbd w).1,s.2):=by unfold zaO at h; simp [hq] at h; exact h.symm
    subst ht
    simp (disch:=omega) only [S,hb,hg]
    refine Ev.bind hE ?_
    simp (disch:=omega) only [S,hq]
    exact hr
   | false =>
    refine ⟨fun _=>⟨(D,(n,((zbd w).1,s.2))),qglz.v0 ?_⟩,fun t h=>by unfold zaO at h; simp [hq] at h⟩
    simp (disch:=omega) only [S,hb,hg]
    refine Ev.bind hE ?_
    simp (disch:=omega) only [S,hq]
    exact Ev.now _
 · have hE:=zjc hwi
   cases hq:(zas w).2 with
   | true =>
    refine ⟨fun h=>by unfold zaO at h; simp [hq] at h,fun t h r hr=>qglz.v0 ?_⟩
    have ht:t=(s.1,((zas w).1.1,((zas w).1.2.1,((zas w).1.2.2.1,((zas w).1.2.2.2,s.2.2.2.2.2))))):=by unfold zaO at h; simp [hq] at h; exact h.symm
    subst ht
    simp (disch:=omega) only [S,hb,hg]
    refine Ev.bind hE ?_
    simp (disch:=omega) only [S,hq]
    exact hr
   | false =>
    refine ⟨fun _=>⟨(D,(n,(s.1,((zas w).1.1,((zas w).1.2.1,((zas w).1.2.2.1,((zas w).1.2.2.2,s.2.2.2.2.2))))))),qglz.v0 ?_⟩,fun t h=>by unfold zaO at h; simp [hq] at h⟩
    simp (disch:=omega) only [S,hb,hg]
    refine Ev.bind hE ?_
    simp (disch:=omega) only [S,hq]
    exact Ev.now _
 · have hE:=zja hwi
   cases hq:(zcx w).2 with
   | true =>
    refine ⟨fun h=>by unfold zaO at h; simp [hq] at h,fun t h r hr=>qglz.v0 ?_⟩
    have ht:t=(s.1,(s.2.1,(s.2.2.1,(s.2.2.2.1,(s.2.2.2.2.1,((zcx w).1,s.2.2.2.2.2.2)))))):=by unfold zaO at h; simp [hq] at h; exact h.symm
    subst ht
    simp (disch:=omega) only [S,hb,hg]
    refine Ev.bind hE ?_
    simp (disch:=omega) only [S,hq]
    exact hr
   | false =>
    refine ⟨fun _=>⟨(D,(n,(s.1,(s.2.1,(s.2.2.1,(s.2.2.2.1,(s.2.2.2.2.1,((zcx w).1,s.2.2.2.2.2.2)))))))),qglz.v0 ?_⟩,fun t h=>by unfold zaO at h; simp [hq] at h⟩
    simp (disch:=omega) only [S,hb,hg]
    refine Ev.bind hE ?_
    simp (disch:=omega) only [S,hq]
    exact Ev.now _
 · have hE:=zjb hwi
   cases hq:(zbv w).2 with
   | true =>
    refine ⟨fun h=>by unfold zaO at h; simp [hq] at h,fun t h r hr=>qglz.v0 ?_⟩
    have ht:t=(s.1,(s.2.1,(s.2.2.1,(s.2.2.2.1,(s.2.2.2.2.1,(s.2.2.2.2.2.1,((zbv w).1,s.2.2.2.2.2.2.2))))))):=by unfold zaO at h; simp [hq] at h; exact h.symm
    subst ht
    simp (disch:=omega) only [S,hb,hg]
    refine Ev.bind hE ?_
    simp (disch:=omega) only [S,hq]
    exact hr
   | false =>
    refine ⟨fun _=>⟨(D,(n,(s.1,(s.2.1,(s.2.2.1,(s.2.2.2.1,(s.2.2.2.2.1,(s.2.2.2.2.2.1,((zbv w).1,s.2.2.2.2.2.2.2))))))))),qglz.v0 ?_⟩,fun t h=>by unfold zaO at h; simp [hq] at h⟩
    simp (disch:=omega) only [S,hb,hg]
    refine Ev.bind hE ?_
    simp (disch:=omega) only [S,hq]
    exact Ev.now _
 · have hE:=zaI hwi
   by_cases hq:0<=l1r w
   · refine ⟨fun h=>by unfold zaO at h; simp [hq] at h,fun t h r hr=>qglz.v0 ?_⟩
     have ht:t=(s.1,(s.2.1,(s.2.2.1,(s.2.2.2.1,(s.2.2.2.2.1,(s.2.2.2.2.2.1,(s.2.2.2.2.2.2.1,s.2.2.2.2.2.2.2++[l1r w]))))))):=by unfold zaO at h; simp [hq] at h; exact h.symm
     subst ht
     simp (disch:=omega) only [S,hb,hg]
     refine Ev.bind hE ?_
     simp (disch:=omega) only [S]
     exact hr
   · refine ⟨fun _=>⟨(D,(n,(s.1,(s.2.1,(s.2.2.1,(s.2.2.2.1,(s.2.2.2.2.1,(s.2.2.2.2.2.1,(s.2.2.2.2.2.2.1,s.2.2.2.2.2.2.2++[l1r w]))))))))),qglz.v0 ?_⟩,fun t h=>by unfold zaO at h; simp [hq] at h⟩
     simp (disch:=omega) only [S,hb,hg]
     refine Ev.bind hE ?_
     simp (disch:=omega) only [S]
     exact Ev.now _
def zfM:BA:=bs [119,104,97,116]
def noB:BA:=bs [110,111]
abbrev ChR:=(List Wk×Int)×(BA×(Bool×Ar))
def fin (D:List Wk) (n:Int) (R:ChR):(List Wk×Int)×BA:=if R.2.2.1=true then (R.1,R.2.1) else ((D,n),noB)
theorem zqR {w0:List UInt8} {fs:List Nat} {ws:List (List UInt8)} (hf:∀ c∈fs,zmn c) (hfw:fs.length=ws.length) (hl:ws.length<=1000) (hw:∀ w∈ws,w.length<=2000000) {D:List Wk} {n:Int} :
    ∀ (d i:Nat),i+d=ws.length->∀ s:Ar,s.2.2.2.2.2.2.2.length<=i ->
     (zfL (fs.drop i) (ws.drop i) s=none->Ev (fun k=>zmp k (bL w0::ws.map bL) (bs fs) (ws.map bL) (ws.length:Int) (i:Int) D n s) ((D,n),zfM) /\
      ∃ z,Ev (fun k=>zkn k (bL w0::ws.map bL) (bs (fs.map (· + 32))) (ws.map bL) (ws.length:Int) (i:Int) D n s) (bs [],(z,false))) /\
     (∀ t,zfL (fs.drop i) (ws.drop i) s=some t ->
      (∀ R:ChR,Ev (fun k=>qcwz.f k D n (bL w0) t.1 t.2.1 t.2.2.1 t.2.2.2.1 t.2.2.2.2.1 t.2.2.2.2.2.1 t.2.2.2.2.2.2.1 t.2.2.2.2.2.2.2) R->Ev (fun k=>zmp k (bL w0::ws.map bL) (bs fs) (ws.map bL) (ws.length:Int) (i:Int) D n s) (fin D n R)) /\
      Ev (fun k=>zkn k (bL w0::ws.map bL) (bs (fs.map (· + 32))) (ws.map bL) (ws.length:Int) (i:Int) D n s) (bL w0,((D,(n,t)),true))):=by
 have hX:∀ {β:Type} (x:Option β),gd (0 < (((bL w0::ws.map bL).length:Nat):Int)) x=x:=fun x=>S.1 (by rw [List.length_cons]; omega)
 intro d
 induction d with
 | zero =>
  intro i hi s hs
  rw [List.drop_eq_nil_of_le (by omega)]
  refine ⟨fun h=>by simp [zfL] at h,fun t ht=>?_⟩
  have ht:t=s:=by simp [zfL] at ht; exact ht.symm
  subst ht
  refine ⟨fun R hR=>qewz.v0 ?_,qglz.v0 ?_⟩
  · simp (disch:=omega) only [S,hX,rd0]
    refine Ev.bind hR ?_
    unfold fin
    cases R.2.2.1
    · exact Ev.now _
    · exact Ev.now _
  · simp (disch:=omega) only [S,hX,rd0]
    exact Ev.now _
 | succ d ih =>
  intro i hi s hs
  have hif:i < fs.length:=by omega
  have hc:=hf _ (zaf (z:=0) hif)
  have hwi:=hw _ (zaf (z:=[]) (show i < ws.length by omega))
  obtain ⟨p1,p2⟩:=zqQ (X:=bL w0::ws.map bL) (D:=D) (n:=n) hfw hl hw s (by omega) (show i < ws.length by omega) hc
  obtain ⟨t0,q1,q2⟩:=zmo hc hwi s (by omega)
  have hb:bat (bs fs) (i:Int)=((fs.getD i 0:Nat):Int):=by
   rw [zqP hif]
   rcases hc with e | e | e | e | e <;> rw [e]
  have hz:=zg3 fs
  have hml:(ws.map bL).length=ws.length:=List.length_map _
  rw [zav 0 hif,zav [] (show i < ws.length by omega)]
  cases hA:zaO (fs.getD i 0) (ws.getD i []) s with
  | none =>
   refine ⟨fun _=>⟨qewz.v0 ?_,p1 hA⟩,fun t ht=>by
    have h':(zaO (fs.getD i 0) (ws.getD i []) s).bind (zfL (fs.drop (i+1)) (ws.drop (i+1)))=some t:=ht
    rw [hA] at h'; cases h'⟩
   rw [hA] at q1
   simp (disch:=omega) only [S,hb,zeH]
   refine Ev.bind q1 ?_
   exact Ev.now _
  | some t1 =>
   rw [hA] at q1
   have e:=q2 t1 hA
   subst e
   have hlen:t0.2.2.2.2.2.2.2.length<=i+1:=by
    unfold zaO at hA
    split at hA
    · split at hA
      · injection hA with hA; subst hA; exact Nat.le_succ_of_le hs
      · cases hA
    · split at hA
      · split at hA
        · injection hA with hA; subst hA; exact Nat.le_succ_of_le hs
        · cases hA
      · split at hA
        · split at hA
          · injection hA with hA; subst hA; exact Nat.le_succ_of_le hs
          · cases hA
        · split at hA
          · split at hA
            · injection hA with hA; subst hA; exact Nat.le_succ_of_le hs
            · cases hA
          · split at hA
            · injection hA with hA; subst hA; simp; omega
            · cases hA
   obtain ⟨i1,i2⟩:=ih (i+1) (by omega) t0 hlen
   have step:∀ r,Ev (fun k=>zmp k (bL w0::ws.map bL) (bs fs) (ws.map bL) (ws.length:Int) ((i+1:Nat):Int) D n t0) r->Ev (fun k=>zmp k (bL w0::ws.map bL) (bs fs) (ws.map bL) (ws.length:Int) (i:Int) D n s) r:=by
    intro r hr
    refine qewz.v0 ?_
    simp (disch:=omega) only [S,hb,zeH]
    refine Ev.bind q1 ?_
    simp (disch:=omega) only [S,Option.isSome_some]
    exact hr
   have hT:zfL (fs.getD i 0::fs.drop (i+1)) (ws.getD i []::ws.drop (i+1)) s=zfL (fs.drop (i+1)) (ws.drop (i+1)) t0:=by
    show (zaO _ _ s).bind _=_
    rw [hA]; rfl
   rw [hT]
   refine ⟨fun h=>?_,fun t h=>?_⟩
   · obtain ⟨a,z,b⟩:=i1 h
     exact ⟨step _ a,z,p2 t0 hA _ b⟩
   · obtain ⟨a,b⟩:=i2 t h
     exact ⟨fun R hR=>step _ (a R hR),p2 t0 hA _ b⟩
theorem BQ:(∀ a b:List Nat,seq (bs a) (bs b)=beqN a b)/\(beqN [] []=true)/\(∀ (a b:Nat) (l m:List Nat),beqN (a::l) (b::m)=((a % 256 == b % 256) && beqN l m))/\(∀ (b:Nat) (m:List Nat),beqN [] (b::m)=false)/\(∀ (a:Nat) (l:List Nat),beqN (a::l) []=false)/\(∀ b:Bool,(true && b)=b)/\(∀ b:Bool,(false && b)=false) :=
 ⟨sqn,rfl,fun _ _ _ _=>rfl,fun _ _=>rfl,fun _ _=>rfl,fun _=>rfl,fun _=>rfl⟩
theorem LN:(∀ {α:Type} (a:α) (l:List α),(a::l).length=l.length+1)/\(∀ {α:Type},([]:List α).length=0)/\(∀ {α:Type} (z a:α) (l:List α),rd z (a::l) 0=a)/\(∀ {α:Type} (z a b:α) (l:List α),rd z (a::b::l) 1=b)/\(∀ {α:Type} (z a b c:α) (l:List α),rd z (a::b::c::l) 2=c)/\(∀ {α:Type} (l:List α),[]++l=l) :=
 ⟨fun _ _=>rfl,rfl,fun _ _ _=>rfl,fun _ _ _ _=>rfl,fun _ _ _ _ _=>rfl,fun _=>rfl⟩
noncomputable abbrev chgF (k:Fu) (D:List Wk) (n:Int) (w:BA) (t:Ar):Option ChR:=qcwz.f k D n w t.1 t.2.1 t.2.2.1 t.2.2.2.1 t.2.2.2.2.1 t.2.2.2.2.2.1 t.2.2.2.2.2.2.1 t.2.2.2.2.2.2.2
abbrev StR:=BA×(List Wk×(Int×Ar))
noncomputable abbrev movF (k:Fu) (D:List Wk) (n:Int) (t:Ar) (w:BA):Option StR:=qccz.f k D n t.1 t.2.1 t.2.2.1 t.2.2.2.1 t.2.2.2.2.1 t.2.2.2.2.2.1 t.2.2.2.2.2.2.1 t.2.2.2.2.2.2.2 w
noncomputable abbrev asdF (k:Fu) (D:List Wk) (n:Int) (t:Ar) (w:BA):Option StR:=qbyz.f k D n t.1 t.2.1 t.2.2.1 t.2.2.2.1 t.2.2.2.2.1 t.2.2.2.2.2.1 t.2.2.2.2.2.2.1 t.2.2.2.2.2.2.2 w
noncomputable abbrev askF (k:Fu) (D:List Wk) (n:Int) (w:BA) (t:Ar):Option (BA×(Bool×Ar)):=qeuz.f k D n w t.1 t.2.1 t.2.2.1 t.2.2.2.1 t.2.2.2.2.1 t.2.2.2.2.2.1 t.2.2.2.2.2.2.1 t.2.2.2.2.2.2.2
def Act (w:BA) (t:Ar) (D:List Wk) (n:Int):Prop:=∃ r:(List Wk×Int)×BA,dOk r.1.1 r.1.2=true/\(∃ R:ChR,Ev (fun k=>chgF k D n w t) R/\r=fin D n R) /\
 ∀ line,Ev (fun k=>qglz.f k D n line) (w,((D,(n,t)),true))->Ev (fun k=>qgzz.f k D n line) r
theorem zat {D:List Wk} {n:Int}:dOk D n=true ↔ zap 8 wOk D=true/\(1<=n/\n<=1000):=by unfold dOk; rw [Bool.and_eq_true,decide_eq_true_eq]
theorem zjs (X:List Wk) (n:Int) (t:Ar):Ev (fun k=>(qgvz.f k X n).bind fun t0=>if (!t0) then some ((X,n),(bs [],(false,t))) else (qckz.f k X).bind fun t1=>some ((X,n),(t1.1,(t1.2,t)))) (if dOk X n=true then ((X,n),(bL (wkT X),(true,t))) else ((X,n),(bs [],(false,t)))):=by
 refine Ev.bind (zfb X n) ?_
 cases h:dOk X n with
 | false=>simp only [S]; exact Ev.now _
 | true =>
  simp only [S]
  refine Ev.bind (zfD X) ?_
  rw [if_pos (zat.1 h).1]
  exact Ev.now _
theorem zon (D X:List Wk) (n:Int) (t:Ar):Ev (fun k=>qdjz.f k D n t.1 t.2.1 t.2.2.1 t.2.2.2.1 t.2.2.2.2.1 t.2.2.2.2.2.1 t.2.2.2.2.2.2.1 t.2.2.2.2.2.2.2 X) (if zap 8 wOk X=true then (bL (wkT X),(X,(n,t))) else (noB,(D,(n,t)))):=by
 refine qdjz.v (Ev.bind (zbq X) ?_)
 cases h:zap 8 wOk X with
 | false=>simp only [S]; exact Ev.now _
 | true =>
  simp only [S]
  exact Ev.bind (zdH h) (Ev.now _)
theorem zc0 {w:BA} {t:Ar} {D X:List Wk} {n m:Int} (hD:dOk D n=true)
    (h1:Ev (fun k=>chgF k D n w t) (if dOk X m=true then ((X,m),(bL (wkT X),(true,t))) else ((X,m),(bs [],(false,t)))))
    (h2:∃ Z:StR,Ev (fun k=>movF k D n t w) Z/\((Z.2.1,Z.2.2.1),Z.1)=(if dOk X m=true then ((X,m),bL (wkT X)) else ((D,n),noB)))
    (h3:∀ Z:StR,Ev (fun k=>movF k D n t w) Z->∀ line,Ev (fun k=>qglz.f k D n line) (w,((D,(n,t)),true))->Ev (fun k=>qgzz.f k D n line) ((Z.2.1,Z.2.2.1),Z.1)):Act w t D n:=by
 obtain ⟨Z,z1,z2⟩:=h2
 refine ⟨if dOk X m=true then ((X,m),bL (wkT X)) else ((D,n),noB),?_,⟨_,h1,?_⟩,fun line hl=>by rw [<- z2]; exact h3 Z z1 line hl⟩
 · split
   · assumption
   · exact hD
 · unfold fin
   split <;> rfl
theorem zsh {w:BA} {t:Ar} {D:List Wk} {n:Int} (hD:dOk D n=true) {R:ChR} (h1:Ev (fun k=>chgF k D n w t) R) (hR:R.2.2.1=false) (h3:∀ line,Ev (fun k=>qglz.f k D n line) (w,((D,(n,t)),true))->Ev (fun k=>qgzz.f k D n line) ((D,n),noB)):Act w t D n :=
 ⟨((D,n),noB),hD,⟨R,h1,by unfold fin; rw [hR]; rfl⟩,h3⟩
theorem zbl {w:BA} {t:Ar} {D:List Wk} {n:Int} (hD:dOk D n=true)
    (h1:∀ r,Ev (fun k=>askF k D n w t) r->Ev (fun k=>chgF k D n w t) ((D,n),r))
    (h2:∀ Z:StR,Ev (fun k=>asdF k D n t w) Z->∀ line,Ev (fun k=>qglz.f k D n line) (w,((D,(n,t)),true))->Ev (fun k=>qgzz.f k D n line) ((D,n),Z.1))
    (h3:∃ (T:BA) (ok:Bool),Ev (fun k=>askF k D n w t) (T,(ok,t))/\Ev (fun k=>asdF k D n t w) ((if ok=true then T else noB),(D,(n,t)))):Act w t D n:=by
 obtain ⟨T,ok,a,b⟩:=h3
 refine ⟨((D,n),if ok=true then T else noB),hD,⟨_,h1 _ a,?_⟩,h2 _ b⟩
 unfold fin
 cases ok <;> rfl
abbrev Ans (F:Fu->Option (BA×(Bool×Ar))) (G:Fu->Option StR) (D:List Wk) (n:Int) (t:Ar):Prop:=∃ (T:BA) (ok:Bool),Ev F (T,(ok,t))/\Ev G ((if ok=true then T else noB),(D,(n,t)))
theorem zeP {F G:Fu->Option R3} (D:List Wk) (n:Int) (t:Ar) (h:Same3 F G):Ans (fun k=>(F k).bind fun t0=>(qhvz.f k t0.1 t0.2.1 t0.2.2).bind fun t1=>some (t1.1,(t1.2,t))) (fun k=>(G k).bind fun t0=>(qgoz.f k t0.1 t0.2.1 t0.2.2).bind fun t1=>some (t1,(D,(n,t)))) D n t:=by
 obtain ⟨r,a,b,c,d⟩:=h
 refine ⟨bL (numT 47 [r.1,r.2.1]),r.2.2,Ev.bind a (Ev.bind (zhv c d _) (Ev.now _)),Ev.bind b (Ev.bind (zdF c d _) (zbS ?_))⟩
 unfold zgm
 cases r.2.2 <;> rfl
abbrev Ans2 (F:Fu->Option (BA×Bool)) (G:Fu->Option StR) (D:List Wk) (n:Int) (t:Ar):Prop:=∃ (T:BA) (ok:Bool),Ev F (T,ok)/\Ev G ((if ok=true then T else noB),(D,(n,t)))
theorem zh0 {F G:Fu->Option R3} (D:List Wk) (n:Int) (t:Ar) (h:Same3 F G):Ans2 (fun k=>(F k).bind fun t0=>(qhvz.f k t0.1 t0.2.1 t0.2.2).bind fun t1=>some t1) (fun k=>(G k).bind fun t0=>(qgoz.f k t0.1 t0.2.1 t0.2.2).bind fun t1=>some (t1,(D,(n,t)))) D n t:=by
 obtain ⟨r,a,b,c,d⟩:=h
 refine ⟨bL (numT 47 [r.1,r.2.1]),r.2.2,Ev.bind a (Ev.bind (zhv c d _) (Ev.now _)),Ev.bind b (Ev.bind (zdF c d _) (zbS ?_))⟩
 unfold zgm
 cases r.2.2 <;> rfl
theorem zla {F G:Fu->Option (List Int×Bool)} {L:List Int} (D:List Wk) (n:Int) (t:Ar) (a:Ev F (L,true)) (b:Ev G (L,true)) (hl:L.length<=1000000) (hL:∀ x∈L,i64 x):Ans (fun k=>(F k).bind fun t0=>(qfkz.f k t0.1 t0.2).bind fun t1=>some (t1.1,(t1.2,t))) (fun k=>(G k).bind fun t0=>(qgfz.f k t0.1 t0.2).bind fun t1=>some (t1,(D,(n,t)))) D n t :=
 ⟨bL (znl L),true,Ev.bind a (Ev.bind (zeK hl hL _) (Ev.now _)),Ev.bind b (Ev.bind (zdG hl hL _) (Ev.now _))⟩
theorem zko (c1 c2:BA) (b:Bool):Ev (fun k=>qhlz.f k [] c1 c2 b) (bs [45],b):=by
 refine qhlz.v ?_
 simp (disch:=omega) only [S,LN]
 exact Ev.now _
theorem zs8 {F G:Fu->Option (List (List Int)×Bool)} {L:List (List Int)} (D:List Wk) (n:Int) (t:Ar) (a:Ev F (L,true)) (b:Ev G (L,true)) (hl:L.length<=1000) (hL:zfH L):Ans (fun k=>(F k).bind fun t0=>(qhlz.f k t0.1 (bs [44]) (bs [32]) t0.2).bind fun t1=>some (t1.1,(t1.2,t))) (fun k=>(G k).bind fun t0=>(qgdz.f k t0.1 t0.2).bind fun t1=>some (t1,(D,(n,t)))) D n t:=by
 by_cases h0:L=[]
 · subst h0
   refine ⟨bs [45],true,Ev.bind a (Ev.bind (zko _ _ _) (Ev.now _)),Ev.bind b (Ev.bind (v:=bs [45]) (qgdz.v ?_) (Ev.now _))⟩
   simp (disch:=omega) only [S,LN]
   exact Ev.now _
 · have h0':0 < L.length:=List.length_pos_iff.2 h0
   refine ⟨bL (znm 44 32 L),true,Ev.bind a (Ev.bind (zgl h0' hl (fun r hr=>by have:=hL r hr; exact ⟨by omega,this.2⟩) _) (Ev.now _)),Ev.bind b (Ev.bind (zjJ h0' hl (fun r hr=>by have:=hL r hr; exact ⟨by omega,this.2⟩)) (Ev.now _))⟩
theorem zqS {F G:Fu->Option (List (List Int)×Bool)} {r:List (List Int)×Bool} (D:List Wk) (n:Int) (t:Ar) (a:Ev F r) (b:Ev G r) (hL:zfH r.1) (hl:r.1.length<=1000) (h1:r.2=true->0 < r.1.length) (h2:r.2=false->r.1=[]):Ans2 (fun k=>(F k).bind fun t0=>(qhlz.f k t0.1 (bs [47]) (bs [44]) t0.2).bind fun t1=>some t1) (fun k=>(G k).bind fun t0=>(qfhz.f k t0.1 t0.2).bind fun t1=>some (t1,(D,(n,t)))) D n t:=by
 obtain ⟨L,b0⟩:=r
 cases b0 with
 | false =>
  have:L=[]:=h2 rfl
  subst this
  refine ⟨bs [45],false,Ev.bind a (Ev.bind (zko _ _ _) (Ev.now _)),Ev.bind b (Ev.bind (v:=noB) (qfhz.v ?_) (Ev.now _))⟩
  simp only [S]
  exact Ev.now _
 | true =>
  refine ⟨bL (znm 47 44 L),true,Ev.bind a (Ev.bind (zgl (h1 rfl) hl (fun r hr=>by have:=hL r hr; exact ⟨by omega,this.2⟩) _) (Ev.now _)),Ev.bind b (Ev.bind (zjd hl hL) (Ev.now _))⟩
section
variable {D:List Wk} {n:Int} (hD:dOk D n=true)
include hD
theorem dlen:1<=D.length/\D.length<=8:=(zan.1 (zat.1 hD).1).1
theorem dmem:∀ w∈D,wOk w=true:=(zan.1 (zat.1 hD).1).2
theorem znw {X:List Wk} (hX:zap 8 wOk X=true):Act (bs [119,97,108,107,101,114,115]) (X,(0,(0,(0,(0,([],([],[]))))))) D n:=by
 have hl:=dlen hD
 have hn:=(zat.1 hD).2
 have e:dOk X n=true:=zat.2 ⟨hX,hn⟩
 refine zc0 (X:=X) (m:=n) hD (qcwz.v (by simp (disch:=omega) only [↓reduceIte,BQ,Nat.reduceMod,Nat.reduceBEq,LN,S]; exact zjs _ _ _)) ⟨_,qccz.v (by simp (disch:=omega) only [↓reduceIte,BQ,Nat.reduceMod,Nat.reduceBEq,LN,S]; exact Ev.bind (zon D X n (X,(0,(0,(0,(0,([],([],[])))))))) (Ev.now _)),?_⟩ (fun Z h line hr=>qgzz.v (Ev.bind hr (by simp (disch:=omega) only [↓reduceIte,BQ,Nat.reduceMod,Nat.reduceBEq,LN,S]; exact Ev.bind h (Ev.now _))))
 rw [if_pos hX,if_pos e]
theorem zqT (X:List Wk) (hX:X.length<=1000):Ev (fun k=>qbez.f k [D,X]) (D++X):=by
 have hl:=dlen hD
 have w1:W (0+1)=1:=by decide
 have w2:W (1+1)=2:=by decide
 have x0:∀ {β:Type} (x:Option β),ix 0 [D,X] x=x:=fun x=>S.2.1 (by decide) (show (0:Int) < 2 by decide)
 have x1:∀ {β:Type} (x:Option β),ix 1 [D,X] x=x:=fun x=>S.2.1 (by decide) (show (1:Int) < 2 by decide)
 have hln:ln [D,X]=2:=rfl
 refine qbez.v (qbez.v0 ?_)
 simp only [w1,x0,hln,LN]
 simp (disch:=omega) only [S]
 refine qbez.v0 ?_
 simp only [w2,x1,LN]
 simp (disch:=omega) only [S]
 refine qbez.v0 ?_
 simp only [hln]
 simp (disch:=omega) only [S]
 refine qbez.v1 ?_
 simp only [w1,x0,LN]
 simp (disch:=omega) only [S,LN]
 refine qbez.v1 ?_
 simp only [w2,x1,LN]
 simp (disch:=omega) only [S]
 refine qbez.v1 ?_
 simp (disch:=omega) only [S]
 exact Ev.now _
theorem zs9 {X:List Wk} (hX:zap 8 wOk X=true):Act (bs [97,100,100]) (X,(0,(0,(0,(0,([],([],[]))))))) D n:=by
 have hl:=dlen hD
 have hn:=(zat.1 hD).2
 have hx:=(zan.1 hX).1
 have e:dOk (D++X) n=zap 8 wOk (D++X):=by unfold dOk; rw [decide_eq_true hn,Bool.and_true]
 refine zc0 (X:=D++X) (m:=n) hD (qcwz.v (by simp (disch:=omega) only [↓reduceIte,BQ,Nat.reduceMod,Nat.reduceBEq,LN,S]; exact Ev.bind (zqT hD X (by omega)) (zjs _ _ _))) ⟨_,qccz.v (by simp (disch:=omega) only [↓reduceIte,BQ,Nat.reduceMod,Nat.reduceBEq,LN,S]; exact Ev.bind (zon D (D++X) n (X,(0,(0,(0,(0,([],([],[])))))))) (Ev.now _)),?_⟩ (fun Z h line hr=>qgzz.v (Ev.bind hr (by simp (disch:=omega) only [↓reduceIte,BQ,Nat.reduceMod,Nat.reduceBEq,LN,S]; exact Ev.bind h (Ev.now _))))
 rw [e]
 split <;> rfl
theorem zrM {m:Nat} (hm:m<=999999):Act (bs [114,105,110,103]) ([],(0,(0,(0,(0,([],([],[(m:Int)]))))))) D n:=by
 have hl:=dlen hD
 have hn:=(zat.1 hD).2
 by_cases hm1:1<=(m:Int)/\(m:Int)<=1000
 · have e:dOk D (m:Int)=true:=zat.2 ⟨(zat.1 hD).1,hm1⟩
   refine zc0 (X:=D) (m:=(m:Int)) hD (qcwz.v (by simp (disch:=omega) only [↓reduceIte,BQ,Nat.reduceMod,Nat.reduceBEq,LN,S]; exact zjs _ _ _)) ⟨_,qccz.v (by simp (disch:=omega) only [↓reduceIte,BQ,Nat.reduceMod,Nat.reduceBEq,LN,S,zaq,decide_eq_true hm1]; exact Ev.bind (zdH (zat.1 hD).1) (Ev.now _)),?_⟩ (fun Z h line hr=>qgzz.v (Ev.bind hr (by simp (disch:=omega) only [↓reduceIte,BQ,Nat.reduceMod,Nat.reduceBEq,LN,S]; exact Ev.bind h (Ev.now _))))
   rw [if_pos e]
 · have e:¬ dOk D (m:Int)=true:=fun h=>hm1 (zat.1 h).2
   refine zc0 (X:=D) (m:=(m:Int)) hD (qcwz.v (by simp (disch:=omega) only [↓reduceIte,BQ,Nat.reduceMod,Nat.reduceBEq,LN,S]; exact zjs _ _ _)) ⟨_,qccz.v (by simp (disch:=omega) only [↓reduceIte,BQ,Nat.reduceMod,Nat.reduceBEq,LN,S,zaq,decide_eq_false hm1]; exact Ev.now _),?_⟩ (fun Z h line hr=>qgzz.v (Ev.bind hr (by simp (disch:=omega) only [↓reduceIte,BQ,Nat.reduceMod,Nat.reduceBEq,LN,S]; exact Ev.bind h (Ev.now _))))
   rw [if_neg e]; rfl
theorem zcd (m:Nat):qbmz.f D n (m:Int)=some (decide (m < D.length)):=by
 have hl:=dlen hD
 unfold qbmz.f
 simp (disch:=omega) only [S,zar]
 by_cases h:m < D.length
 · rw [decide_eq_true h,decide_eq_true (by omega)]
 · rw [decide_eq_false h,decide_eq_false (by omega)]
theorem zoo:qbfz.f D=some D:=by
 have hl:=dlen hD
 unfold qbfz.f
 exact S.1 (by omega)
theorem zrN {m:Nat} (hm:m<=999999):Act (bs [116,117,114,110]) ([],(0,(0,(0,(0,([],([],[(m:Int)]))))))) D n:=by
 have hl:=dlen hD
 have hn:=(zat.1 hD).2
 by_cases hm1:m < D.length
 · have hw:=zaX.1 (dmem hD _ (zaf (z:=(0,0)) hm1))
   have w1:(D.getD m (0,0)).2*(-1) = -(D.getD m (0,0)).2:=by omega
   have w2:0-(D.getD m (0,0)).2 = -(D.getD m (0,0)).2:=by omega
   have hok:zap 8 wOk (D.set m ((D.getD m (0,0)).1,-(D.getD m (0,0)).2))=true:=zan.2 ⟨by rw [List.length_set]; exact hl,fun w h=>by
    rcases List.mem_or_eq_of_mem_set h with h | h
    · exact dmem hD w h
    · rw [h]; exact zaX.2 ⟨hw.1,by simp only []; omega⟩⟩
   have e:dOk (D.set m ((D.getD m (0,0)).1,-(D.getD m (0,0)).2)) n=true:=zat.2 ⟨hok,hn⟩
   refine zc0 (X:=D.set m ((D.getD m (0,0)).1,-(D.getD m (0,0)).2)) (m:=n) hD (qcwz.v (by simp (disch:=omega) only [↓reduceIte,BQ,Nat.reduceMod,Nat.reduceBEq,LN,S,w1,zcd hD,zoo hD,decide_eq_true hm1]; exact zjs _ _ _)) ⟨_,qccz.v (by simp (disch:=omega) only [↓reduceIte,BQ,Nat.reduceMod,Nat.reduceBEq,LN,S,w2]; exact Ev.bind (zon D _ n ([],(0,(0,(0,(0,([],([],[(m:Int)])))))))) (Ev.now _)),?_⟩ (fun Z h line hr=>qgzz.v (Ev.bind hr (by simp (disch:=omega) only [↓reduceIte,BQ,Nat.reduceMod,Nat.reduceBEq,LN,S]; exact Ev.bind h (Ev.now _))))
   rw [if_pos e,if_pos hok]
 · refine zsh hD (R:=((D,n),(bs [],(false,_)))) (qcwz.v (by simp (disch:=omega) only [↓reduceIte,BQ,Nat.reduceMod,Nat.reduceBEq,LN,S,zcd hD,decide_eq_false hm1]; exact Ev.now _)) rfl (fun line hr=>qgzz.v (Ev.bind hr (by simp (disch:=omega) only [↓reduceIte,BQ,Nat.reduceMod,Nat.reduceBEq,LN,S]; exact Ev.bind (v:=(noB,(D,(n,_)))) (qccz.v (by simp (disch:=omega) only [↓reduceIte,BQ,Nat.reduceMod,Nat.reduceBEq,LN,S]; exact Ev.now _)) (Ev.now _))))
theorem zrO {m:Nat} (hm:m<=999999):Act (bs [100,114,111,112]) ([],(0,(0,(0,(0,([],([],[(m:Int)]))))))) D n:=by
 have hl:=dlen hD
 have hn:=(zat.1 hD).2
 by_cases hm1:m < D.length
 · have lt:(D.drop (m+1)).take (D.length-(m+1))=D.drop (m+1):=List.take_of_length_le (by simp)
   have e:dOk (D.take m++D.drop (m+1)) n=zap 8 wOk (D.take m++D.drop (m+1)):=by unfold dOk; rw [decide_eq_true hn,Bool.and_true]
   refine zc0 (X:=D.take m++D.drop (m+1)) (m:=n) hD (qcwz.v (by simp (disch:=omega) only [↓reduceIte,BQ,Nat.reduceMod,Nat.reduceBEq,LN,S,zcd hD,zoo hD,decide_eq_true hm1]; exact zjs _ _ _)) ⟨_,qccz.v (by simp (disch:=omega) only [↓reduceIte,BQ,Nat.reduceMod,Nat.reduceBEq,LN,S,List.length_take,List.length_drop]; rw [lt]; exact Ev.bind (zon D _ n ([],(0,(0,(0,(0,([],([],[(m:Int)])))))))) (Ev.now _)),?_⟩ (fun Z h line hr=>qgzz.v (Ev.bind hr (by simp (disch:=omega) only [↓reduceIte,BQ,Nat.reduceMod,Nat.reduceBEq,LN,S]; exact Ev.bind h (Ev.now _))))
   rw [e]
   split <;> rfl
 · refine zsh hD (R:=((D,n),(bs [],(false,_)))) (qcwz.v (by simp (disch:=omega) only [↓reduceIte,BQ,Nat.reduceMod,Nat.reduceBEq,LN,S,zcd hD,decide_eq_false hm1]; exact Ev.now _)) rfl (fun line hr=>qgzz.v (Ev.bind hr (by simp (disch:=omega) only [↓reduceIte,BQ,Nat.reduceMod,Nat.reduceBEq,LN,S]; exact Ev.bind (v:=(noB,(D,(n,_)))) (qccz.v (by simp (disch:=omega) only [↓reduceIte,BQ,Nat.reduceMod,Nat.reduceBEq,LN,S]; exact Ev.now _)) (Ev.now _))))
theorem zrP  : Act (bs [115,104,111,119]) ([],(0,(0,(0,(0,([],([],[]))))))) D n:=by
 have hl:=dlen hD
 have hn:=(zat.1 hD).2
 refine ⟨((D,n),bL (wkT D)),hD,⟨_,qcwz.v (by simp (disch:=omega) only [↓reduceIte,BQ,Nat.reduceMod,Nat.reduceBEq,LN,S]; exact zjs _ _ _),by unfold fin; rw [if_pos hD]; rfl⟩,fun line hr=>qgzz.v (Ev.bind hr (by simp (disch:=omega) only [↓reduceIte,BQ,Nat.reduceMod,Nat.reduceBEq,LN,S]; exact Ev.bind (qbyz.v (by simp (disch:=omega) only [↓reduceIte,BQ,Nat.reduceMod,Nat.reduceBEq,LN,S]; exact Ev.bind (zdH (zat.1 hD).1) (Ev.now _))) (Ev.now _)))⟩
theorem zqU  : Act (bs [115,116,97,114,116]) ([],(0,(0,(0,(0,([],([],[]))))))) D n:=by
 have hl:=dlen hD
 have hn:=(zat.1 hD).2
 refine zbl hD (fun r h=>qcwz.v (by simp (disch:=omega) only [↓reduceIte,BQ,Nat.reduceMod,Nat.reduceBEq,LN,S]; exact Ev.bind h (Ev.now _))) (fun Z h line hr=>qgzz.v (Ev.bind hr (by simp (disch:=omega) only [↓reduceIte,BQ,Nat.reduceMod,Nat.reduceBEq,LN,S]; exact Ev.bind h (Ev.now _)))) ?_
 obtain ⟨T,ok,x,y⟩:=zeP D n ([],(0,(0,(0,(0,([],([],[]))))))) (zjj (zat.1 hD).1 hn)
 exact ⟨T,ok,qeuz.v (by simp (disch:=omega) only [↓reduceIte,BQ,Nat.reduceMod,Nat.reduceBEq,LN,S]; exact x),qbyz.v (by simp (disch:=omega) only [↓reduceIte,BQ,Nat.reduceMod,Nat.reduceBEq,LN,S]; exact y)⟩
theorem zrQ  : Act (bs [108,101,97,100]) ([],(0,(0,(0,(0,([],([],[]))))))) D n:=by
 have hl:=dlen hD
 have hn:=(zat.1 hD).2
 obtain ⟨L,l1,l2,l3,l4⟩:=zjN (zat.1 hD).1
 refine zbl hD (fun r h=>qcwz.v (by simp (disch:=omega) only [↓reduceIte,BQ,Nat.reduceMod,Nat.reduceBEq,LN,S]; exact Ev.bind h (Ev.now _))) (fun Z h line hr=>qgzz.v (Ev.bind hr (by simp (disch:=omega) only [↓reduceIte,BQ,Nat.reduceMod,Nat.reduceBEq,LN,S]; exact Ev.bind h (Ev.now _)))) ?_
 obtain ⟨T,ok,x,y⟩:=zla D n ([],(0,(0,(0,(0,([],([],[]))))))) l1 l2 (by omega) l4
 exact ⟨T,ok,qeuz.v (by simp (disch:=omega) only [↓reduceIte,BQ,Nat.reduceMod,Nat.reduceBEq,LN,S]; exact x),qbyz.v (by simp (disch:=omega) only [↓reduceIte,BQ,Nat.reduceMod,Nat.reduceBEq,LN,S]; exact y)⟩
theorem zrR  : Act (bs [108,97,115,116]) ([],(0,(0,(0,(0,([],([],[]))))))) D n:=by
 have hl:=dlen hD
 have hn:=(zat.1 hD).2
 obtain ⟨L,l1,l2,l3,l4⟩:=zjL (zat.1 hD).1
 refine zbl hD (fun r h=>qcwz.v (by simp (disch:=omega) only [↓reduceIte,BQ,Nat.reduceMod,Nat.reduceBEq,LN,S]; exact Ev.bind h (Ev.now _))) (fun Z h line hr=>qgzz.v (Ev.bind hr (by simp (disch:=omega) only [↓reduceIte,BQ,Nat.reduceMod,Nat.reduceBEq,LN,S]; exact Ev.bind h (Ev.now _)))) ?_
 obtain ⟨T,ok,x,y⟩:=zla D n ([],(0,(0,(0,(0,([],([],[]))))))) l1 l2 (by omega) l4
 exact ⟨T,ok,qeuz.v (by simp (disch:=omega) only [↓reduceIte,BQ,Nat.reduceMod,Nat.reduceBEq,LN,S]; exact x),qbyz.v (by simp (disch:=omega) only [↓reduceIte,BQ,Nat.reduceMod,Nat.reduceBEq,LN,S]; exact y)⟩
theorem zt8 {m:Nat} (hm:m<=999999):Act (bs [97,116]) ([],(0,(0,(0,(0,([],([],[(m:Int)]))))))) D n:=by
 have hl:=dlen hD
 have hn:=(zat.1 hD).2
 obtain ⟨L,l1,l2,l3,l4⟩:=zjM (zat.1 hD).1 (n:=(m:Int)) (d:=1) (by omega) (by omega)
 refine zbl hD (fun r h=>qcwz.v (by simp (disch:=omega) only [↓reduceIte,BQ,Nat.reduceMod,Nat.reduceBEq,LN,S]; exact Ev.bind h (Ev.now _))) (fun Z h line hr=>qgzz.v (Ev.bind hr (by simp (disch:=omega) only [↓reduceIte,BQ,Nat.reduceMod,Nat.reduceBEq,LN,S]; exact Ev.bind h (Ev.now _)))) ?_
 obtain ⟨T,ok,x,y⟩:=zla D n ([],(0,(0,(0,(0,([],([],[(m:Int)]))))))) l1 l2 (by omega) l4
 exact ⟨T,ok,qeuz.v (by simp (disch:=omega) only [↓reduceIte,BQ,Nat.reduceMod,Nat.reduceBEq,LN,S]; exact x),qbyz.v (by simp (disch:=omega) only [↓reduceIte,BQ,Nat.reduceMod,Nat.reduceBEq,LN,S]; exact y)⟩
theorem zqV  : Act (bs [112,97,105,114,115]) ([],(0,(0,(0,(0,([],([],[]))))))) D n:=by
 have hl:=dlen hD
 have hn:=(zat.1 hD).2
 obtain ⟨c,c1,c2,c3,c4⟩:=zgo (zat.1 hD).1
 refine zbl hD (fun r h=>qcwz.v (by simp (disch:=omega) only [↓reduceIte,BQ,Nat.reduceMod,Nat.reduceBEq,LN,S]; exact Ev.bind h (Ev.now _))) (fun Z h line hr=>qgzz.v (Ev.bind hr (by simp (disch:=omega) only [↓reduceIte,BQ,Nat.reduceMod,Nat.reduceBEq,LN,S]; exact Ev.bind h (Ev.now _)))) ⟨bL (Lib.itoa c),true,qeuz.v (by simp (disch:=omega) only [↓reduceIte,BQ,Nat.reduceMod,Nat.reduceBEq,LN,S]; exact Ev.bind c1 (by simp only [zjI c3,S]; exact Ev.now _)),qbyz.v (by simp (disch:=omega) only [↓reduceIte,BQ,Nat.reduceMod,Nat.reduceBEq,LN,S]; exact Ev.bind c2 (Ev.bind (zhE c4 c3 true) (Ev.now _)))⟩
theorem zqW  : Act (bs [102,105,114,115,116]) ([],(0,(0,(0,(0,([],([],[]))))))) D n:=by
 have hl:=dlen hD
 have hn:=(zat.1 hD).2
 obtain ⟨R,r1,r2,r3,r4⟩:=zhK (zat.1 hD).1
 refine zbl hD (fun r h=>qcwz.v (by simp (disch:=omega) only [↓reduceIte,BQ,Nat.reduceMod,Nat.reduceBEq,LN,S]; exact Ev.bind h (Ev.now _))) (fun Z h line hr=>qgzz.v (Ev.bind hr (by simp (disch:=omega) only [↓reduceIte,BQ,Nat.reduceMod,Nat.reduceBEq,LN,S]; exact Ev.bind h (Ev.now _)))) ?_
 cases R with
 | nil=>exact ⟨bs [],false,qeuz.v (by simp (disch:=omega) only [↓reduceIte,BQ,Nat.reduceMod,Nat.reduceBEq,LN,S]; exact Ev.bind r1 (by simp (disch:=omega) only [S,LN]; exact Ev.now _)),qbyz.v (by simp (disch:=omega) only [↓reduceIte,BQ,Nat.reduceMod,Nat.reduceBEq,LN,S]; exact Ev.bind r2 (by simp (disch:=omega) only [S,LN]; exact Ev.now _))⟩
 | cons e R =>
  obtain ⟨i,j,x,y,rfl,hi,hj,_⟩:=r4 e (by simp)
  have hq:∀ z∈[i,j],i64 z:=fun z hz=>by
   unfold i64
   simp only [List.mem_cons,List.not_mem_nil,or_false] at hz
   omega
  have tk:List.take 2 [i,j,x,y]=[i,j]:=rfl
  refine ⟨bL (znl [i,j]),true,qeuz.v ?_,qbyz.v ?_⟩
  · simp (disch:=omega) only [↓reduceIte,BQ,Nat.reduceMod,Nat.reduceBEq,LN,S]
    refine Ev.bind r1 ?_
    simp (disch:=omega) only [S,LN,tk]
    exact Ev.bind (zeK (by simp) hq true) (Ev.now _)
  · simp (disch:=omega) only [↓reduceIte,BQ,Nat.reduceMod,Nat.reduceBEq,LN,S]
    refine Ev.bind r2 ?_
    simp (disch:=omega) only [S,LN,tk]
    exact Ev.bind (zdG (by simp) hq true) (Ev.now _)
theorem zrS {m m2:Nat} (hm:m<=999999) (hm2:m2<=999999):Act (bs [109,101,101,116]) ([],(0,(0,(0,(0,([],([],[(m:Int),(m2:Int)]))))))) D n:=by
 have hl:=dlen hD
 have hn:=(zat.1 hD).2
 refine zbl hD (fun r h=>qcwz.v (by simp (disch:=omega) only [↓reduceIte,BQ,Nat.reduceMod,Nat.reduceBEq,LN,S]; exact Ev.bind h (Ev.now _))) (fun Z h line hr=>qgzz.v (Ev.bind hr (by simp (disch:=omega) only [↓reduceIte,BQ,Nat.reduceMod,Nat.reduceBEq,LN,S]; exact Ev.bind h (Ev.now _)))) ?_
 by_cases q1:m < D.length
 · by_cases q2:m2 < D.length
   · obtain ⟨T,ok,x,y⟩:=zh0 D n ([],(0,(0,(0,(0,([],([],[(m:Int),(m2:Int)]))))))) (zhF (dmem hD _ (zaf (z:=(0,0)) q1)) (dmem hD _ (zaf (z:=(0,0)) q2)))
     refine ⟨T,ok,qeuz.v (by simp (disch:=omega) only [↓reduceIte,BQ,Nat.reduceMod,Nat.reduceBEq,LN,S,zcd hD,decide_eq_true q1,decide_eq_true q2]; exact Ev.bind (qbxz.v (by simp (disch:=omega) only [↓reduceIte,BQ,Nat.reduceMod,Nat.reduceBEq,LN,S]; exact x)) (Ev.now _)),qbyz.v (by simp (disch:=omega) only [↓reduceIte,BQ,Nat.reduceMod,Nat.reduceBEq,LN,S]; exact Ev.bind (qcyz.v (by simp (disch:=omega) only [↓reduceIte,BQ,Nat.reduceMod,Nat.reduceBEq,LN,S]; exact y)) (Ev.now _))⟩
   · exact ⟨bs [],false,qeuz.v (by simp (disch:=omega) only [↓reduceIte,BQ,Nat.reduceMod,Nat.reduceBEq,LN,S,zcd hD,decide_eq_true q1,decide_eq_false q2]; exact Ev.now _),qbyz.v (by simp (disch:=omega) only [↓reduceIte,BQ,Nat.reduceMod,Nat.reduceBEq,LN,S]; exact Ev.bind (v:=(noB,(D,(n,_)))) (qcyz.v (by simp (disch:=omega) only [↓reduceIte,BQ,Nat.reduceMod,Nat.reduceBEq,LN,S]; exact Ev.now _)) (Ev.now _))⟩
 · exact ⟨bs [],false,qeuz.v (by simp (disch:=omega) only [↓reduceIte,BQ,Nat.reduceMod,Nat.reduceBEq,LN,S,zcd hD,decide_eq_false q1]; exact Ev.now _),qbyz.v (by simp (disch:=omega) only [↓reduceIte,BQ,Nat.reduceMod,Nat.reduceBEq,LN,S]; exact Ev.bind (v:=(noB,(D,(n,_)))) (qcyz.v (by simp (disch:=omega) only [↓reduceIte,BQ,Nat.reduceMod,Nat.reduceBEq,LN,S]; exact Ev.now _)) (Ev.now _))⟩
theorem zqX {m m2:Nat} (hm:m<=999999) (hm2:m2<=999999):Act (bs [119,104,101,114,101]) ([],(0,(0,(0,(0,([],([],[(m:Int),(m2:Int)]))))))) D n:=by
 have hl:=dlen hD
 have hn:=(zat.1 hD).2
 refine zbl hD (fun r h=>qcwz.v (by simp (disch:=omega) only [↓reduceIte,BQ,Nat.reduceMod,Nat.reduceBEq,LN,S]; exact Ev.bind h (Ev.now _))) (fun Z h line hr=>qgzz.v (Ev.bind hr (by simp (disch:=omega) only [↓reduceIte,BQ,Nat.reduceMod,Nat.reduceBEq,LN,S]; exact Ev.bind h (Ev.now _)))) ?_
 by_cases q1:m < D.length
 · by_cases q2:m2 < D.length
   · obtain ⟨T,ok,x,y⟩:=zh0 D n ([],(0,(0,(0,(0,([],([],[(m:Int),(m2:Int)]))))))) (zgY (dmem hD _ (zaf (z:=(0,0)) q1)) (dmem hD _ (zaf (z:=(0,0)) q2)))
     refine ⟨T,ok,qeuz.v (by simp (disch:=omega) only [↓reduceIte,BQ,Nat.reduceMod,Nat.reduceBEq,LN,S,zcd hD,decide_eq_true q1,decide_eq_true q2]; exact Ev.bind (qbxz.v (by simp (disch:=omega) only [↓reduceIte,BQ,Nat.reduceMod,Nat.reduceBEq,LN,S]; exact x)) (Ev.now _)),qbyz.v (by simp (disch:=omega) only [↓reduceIte,BQ,Nat.reduceMod,Nat.reduceBEq,LN,S]; exact Ev.bind (qcyz.v (by simp (disch:=omega) only [↓reduceIte,BQ,Nat.reduceMod,Nat.reduceBEq,LN,S]; exact y)) (Ev.now _))⟩
   · exact ⟨bs [],false,qeuz.v (by simp (disch:=omega) only [↓reduceIte,BQ,Nat.reduceMod,Nat.reduceBEq,LN,S,zcd hD,decide_eq_true q1,decide_eq_false q2]; exact Ev.now _),qbyz.v (by simp (disch:=omega) only [↓reduceIte,BQ,Nat.reduceMod,Nat.reduceBEq,LN,S]; exact Ev.bind (v:=(noB,(D,(n,_)))) (qcyz.v (by simp (disch:=omega) only [↓reduceIte,BQ,Nat.reduceMod,Nat.reduceBEq,LN,S]; exact Ev.now _)) (Ev.now _))⟩
 · exact ⟨bs [],false,qeuz.v (by simp (disch:=omega) only [↓reduceIte,BQ,Nat.reduceMod,Nat.reduceBEq,LN,S,zcd hD,decide_eq_false q1]; exact Ev.now _),qbyz.v (by simp (disch:=omega) only [↓reduceIte,BQ,Nat.reduceMod,Nat.reduceBEq,LN,S]; exact Ev.bind (v:=(noB,(D,(n,_)))) (qcyz.v (by simp (disch:=omega) only [↓reduceIte,BQ,Nat.reduceMod,Nat.reduceBEq,LN,S]; exact Ev.now _)) (Ev.now _))⟩
theorem zpd {m m2:Nat} (hm:m<=999999) (hm2:m2<=999999):Act (bs [97,114,111,117,110,100]) ([],(0,(0,(0,(0,([],([],[(m:Int),(m2:Int)]))))))) D n:=by
 have hl:=dlen hD
 have hn:=(zat.1 hD).2
 refine zbl hD (fun r h=>qcwz.v (by simp (disch:=omega) only [↓reduceIte,BQ,Nat.reduceMod,Nat.reduceBEq,LN,S]; exact Ev.bind h (Ev.now _))) (fun Z h line hr=>qgzz.v (Ev.bind hr (by simp (disch:=omega) only [↓reduceIte,BQ,Nat.reduceMod,Nat.reduceBEq,LN,S]; exact Ev.bind h (Ev.now _)))) ?_
 by_cases q1:m < D.length
 · by_cases q2:m2 < D.length
   · obtain ⟨T,ok,x,y⟩:=zh0 D n ([],(0,(0,(0,(0,([],([],[(m:Int),(m2:Int)]))))))) (zk2 hn (dmem hD _ (zaf (z:=(0,0)) q1)) (dmem hD _ (zaf (z:=(0,0)) q2)))
     refine ⟨T,ok,qeuz.v (by simp (disch:=omega) only [↓reduceIte,BQ,Nat.reduceMod,Nat.reduceBEq,LN,S,zcd hD,decide_eq_true q1,decide_eq_true q2]; exact Ev.bind (qbxz.v (by simp (disch:=omega) only [↓reduceIte,BQ,Nat.reduceMod,Nat.reduceBEq,LN,S]; exact x)) (Ev.now _)),qbyz.v (by simp (disch:=omega) only [↓reduceIte,BQ,Nat.reduceMod,Nat.reduceBEq,LN,S]; exact Ev.bind (qcyz.v (by simp (disch:=omega) only [↓reduceIte,BQ,Nat.reduceMod,Nat.reduceBEq,LN,S]; exact y)) (Ev.now _))⟩
   · exact ⟨bs [],false,qeuz.v (by simp (disch:=omega) only [↓reduceIte,BQ,Nat.reduceMod,Nat.reduceBEq,LN,S,zcd hD,decide_eq_true q1,decide_eq_false q2]; exact Ev.now _),qbyz.v (by simp (disch:=omega) only [↓reduceIte,BQ,Nat.reduceMod,Nat.reduceBEq,LN,S]; exact Ev.bind (v:=(noB,(D,(n,_)))) (qcyz.v (by simp (disch:=omega) only [↓reduceIte,BQ,Nat.reduceMod,Nat.reduceBEq,LN,S]; exact Ev.now _)) (Ev.now _))⟩
 · exact ⟨bs [],false,qeuz.v (by simp (disch:=omega) only [↓reduceIte,BQ,Nat.reduceMod,Nat.reduceBEq,LN,S,zcd hD,decide_eq_false q1]; exact Ev.now _),qbyz.v (by simp (disch:=omega) only [↓reduceIte,BQ,Nat.reduceMod,Nat.reduceBEq,LN,S]; exact Ev.bind (v:=(noB,(D,(n,_)))) (qcyz.v (by simp (disch:=omega) only [↓reduceIte,BQ,Nat.reduceMod,Nat.reduceBEq,LN,S]; exact Ev.now _)) (Ev.now _))⟩
theorem zta {m m2:Nat} (hm:m<=999999) (hm2:m2<=999999):Act (bs [103,97,112]) ([],(0,(0,(0,(0,([],([],[(m:Int),(m2:Int)]))))))) D n:=by
 have hl:=dlen hD
 have hn:=(zat.1 hD).2
 refine zbl hD (fun r h=>qcwz.v (by simp (disch:=omega) only [↓reduceIte,BQ,Nat.reduceMod,Nat.reduceBEq,LN,S]; exact Ev.bind h (Ev.now _))) (fun Z h line hr=>qgzz.v (Ev.bind hr (by simp (disch:=omega) only [↓reduceIte,BQ,Nat.reduceMod,Nat.reduceBEq,LN,S]; exact Ev.bind h (Ev.now _)))) ?_
 by_cases q1:m < D.length
 · by_cases q2:m2 < D.length
   · obtain ⟨T,ok,x,y⟩:=zh0 D n ([],(0,(0,(0,(0,([],([],[(m:Int),(m2:Int)]))))))) (zmg hn (dmem hD _ (zaf (z:=(0,0)) q1)) (dmem hD _ (zaf (z:=(0,0)) q2)))
     refine ⟨T,ok,qeuz.v (by simp (disch:=omega) only [↓reduceIte,BQ,Nat.reduceMod,Nat.reduceBEq,LN,S,zcd hD,decide_eq_true q1,decide_eq_true q2]; exact Ev.bind (qbxz.v (by simp (disch:=omega) only [↓reduceIte,BQ,Nat.reduceMod,Nat.reduceBEq,LN,S]; exact x)) (Ev.now _)),qbyz.v (by simp (disch:=omega) only [↓reduceIte,BQ,Nat.reduceMod,Nat.reduceBEq,LN,S]; exact Ev.bind (qcyz.v (by simp (disch:=omega) only [↓reduceIte,BQ,Nat.reduceMod,Nat.reduceBEq,LN,S]; exact y)) (Ev.now _))⟩
   · exact ⟨bs [],false,qeuz.v (by simp (disch:=omega) only [↓reduceIte,BQ,Nat.reduceMod,Nat.reduceBEq,LN,S,zcd hD,decide_eq_true q1,decide_eq_false q2]; exact Ev.now _),qbyz.v (by simp (disch:=omega) only [↓reduceIte,BQ,Nat.reduceMod,Nat.reduceBEq,LN,S]; exact Ev.bind (v:=(noB,(D,(n,_)))) (qcyz.v (by simp (disch:=omega) only [↓reduceIte,BQ,Nat.reduceMod,Nat.reduceBEq,LN,S]; exact Ev.now _)) (Ev.now _))⟩
 · exact ⟨bs [],false,qeuz.v (by simp (disch:=omega) only [↓reduceIte,BQ,Nat.reduceMod,Nat.reduceBEq,LN,S,zcd hD,decide_eq_false q1]; exact Ev.now _),qbyz.v (by simp (disch:=omega) only [↓reduceIte,BQ,Nat.reduceMod,Nat.reduceBEq,LN,S]; exact Ev.bind (v:=(noB,(D,(n,_)))) (qcyz.v (by simp (disch:=omega) only [↓reduceIte,BQ,Nat.reduceMod,Nat.reduceBEq,LN,S]; exact Ev.now _)) (Ev.now _))⟩
theorem zpe {m m2:Nat} (hm:m<=999999) (hm2:m2<=999999):Act (bs [112,108,97,99,101,115]) ([],(0,(0,(0,(0,([],([],[(m:Int),(m2:Int)]))))))) D n:=by
 have hl:=dlen hD
 have hn:=(zat.1 hD).2
 refine zbl hD (fun r h=>qcwz.v (by simp (disch:=omega) only [↓reduceIte,BQ,Nat.reduceMod,Nat.reduceBEq,LN,S]; exact Ev.bind h (Ev.now _))) (fun Z h line hr=>qgzz.v (Ev.bind hr (by simp (disch:=omega) only [↓reduceIte,BQ,Nat.reduceMod,Nat.reduceBEq,LN,S]; exact Ev.bind h (Ev.now _)))) ?_
 by_cases q1:m < D.length
 · by_cases q2:m2 < D.length
   · obtain ⟨rr,s1,s2,s3,s4,s5,s6⟩:=zjo hn (dmem hD _ (zaf (z:=(0,0)) q1)) (dmem hD _ (zaf (z:=(0,0)) q2))
     obtain ⟨T,ok,x,y⟩:=zqS D n ([],(0,(0,(0,(0,([],([],[(m:Int),(m2:Int)]))))))) s1 s2 s3 s4 s5 s6
     refine ⟨T,ok,qeuz.v (by simp (disch:=omega) only [↓reduceIte,BQ,Nat.reduceMod,Nat.reduceBEq,LN,S,zcd hD,decide_eq_true q1,decide_eq_true q2]; exact Ev.bind (qbxz.v (by simp (disch:=omega) only [↓reduceIte,BQ,Nat.reduceMod,Nat.reduceBEq,LN,S]; exact x)) (Ev.now _)),qbyz.v (by simp (disch:=omega) only [↓reduceIte,BQ,Nat.reduceMod,Nat.reduceBEq,LN,S]; exact Ev.bind (qcyz.v (by simp (disch:=omega) only [↓reduceIte,BQ,Nat.reduceMod,Nat.reduceBEq,LN,S]; exact y)) (Ev.now _))⟩
   · exact ⟨bs [],false,qeuz.v (by simp (disch:=omega) only [↓reduceIte,BQ,Nat.reduceMod,Nat.reduceBEq,LN,S,zcd hD,decide_eq_true q1,decide_eq_false q2]; exact Ev.now _),qbyz.v (by simp (disch:=omega) only [↓reduceIte,BQ,Nat.reduceMod,Nat.reduceBEq,LN,S]; exact Ev.bind (v:=(noB,(D,(n,_)))) (qcyz.v (by simp (disch:=omega) only [↓reduceIte,BQ,Nat.reduceMod,Nat.reduceBEq,LN,S]; exact Ev.now _)) (Ev.now _))⟩
 · exact ⟨bs [],false,qeuz.v (by simp (disch:=omega) only [↓reduceIte,BQ,Nat.reduceMod,Nat.reduceBEq,LN,S,zcd hD,decide_eq_false q1]; exact Ev.now _),qbyz.v (by simp (disch:=omega) only [↓reduceIte,BQ,Nat.reduceMod,Nat.reduceBEq,LN,S]; exact Ev.bind (v:=(noB,(D,(n,_)))) (qcyz.v (by simp (disch:=omega) only [↓reduceIte,BQ,Nat.reduceMod,Nat.reduceBEq,LN,S]; exact Ev.now _)) (Ev.now _))⟩
theorem ztb {a l r d:Int}:Act (bs [100,111,103]) ([],(a,(l,(r,(d,([],([],[]))))))) D n:=by
 have hl:=dlen hD
 have hn:=(zat.1 hD).2
 refine zbl hD (fun r h=>qcwz.v (by simp (disch:=omega) only [↓reduceIte,BQ,Nat.reduceMod,Nat.reduceBEq,LN,S]; exact Ev.bind h (Ev.now _))) (fun Z h line hr=>qgzz.v (Ev.bind hr (by simp (disch:=omega) only [↓reduceIte,BQ,Nat.reduceMod,Nat.reduceBEq,LN,S]; exact Ev.bind h (Ev.now _)))) ?_
 obtain ⟨T,ok,x,y⟩:=zeP D n ([],(a,(l,(r,(d,([],([],[]))))))) (zjg a l r d)
 exact ⟨T,ok,qeuz.v (by simp (disch:=omega) only [↓reduceIte,BQ,Nat.reduceMod,Nat.reduceBEq,LN,S]; exact Ev.bind (qegz.v (by simp (disch:=omega) only [↓reduceIte,BQ,Nat.reduceMod,Nat.reduceBEq,LN,S]; exact x)) (Ev.now _)),qbyz.v (by simp (disch:=omega) only [↓reduceIte,BQ,Nat.reduceMod,Nat.reduceBEq,LN,S]; exact y)⟩
theorem ztc {a l r d:Int}:Act (bs [114,117,110]) ([],(a,(l,(r,(d,([],([],[]))))))) D n:=by
 have hl:=dlen hD
 have hn:=(zat.1 hD).2
 refine zbl hD (fun r h=>qcwz.v (by simp (disch:=omega) only [↓reduceIte,BQ,Nat.reduceMod,Nat.reduceBEq,LN,S]; exact Ev.bind h (Ev.now _))) (fun Z h line hr=>qgzz.v (Ev.bind hr (by simp (disch:=omega) only [↓reduceIte,BQ,Nat.reduceMod,Nat.reduceBEq,LN,S]; exact Ev.bind h (Ev.now _)))) ?_
 obtain ⟨T,ok,x,y⟩:=zeP D n ([],(a,(l,(r,(d,([],([],[]))))))) (zhG a l r d)
 exact ⟨T,ok,qeuz.v (by simp (disch:=omega) only [↓reduceIte,BQ,Nat.reduceMod,Nat.reduceBEq,LN,S]; exact Ev.bind (qegz.v (by simp (disch:=omega) only [↓reduceIte,BQ,Nat.reduceMod,Nat.reduceBEq,LN,S]; exact x)) (Ev.now _)),qbyz.v (by simp (disch:=omega) only [↓reduceIte,BQ,Nat.reduceMod,Nat.reduceBEq,LN,S]; exact y)⟩
theorem zqY {a l r d:Int} {m:Nat}:Act (bs [97,112,97,114,116]) ([],(a,(l,(r,(d,([],([],[(m:Int)]))))))) D n:=by
 have hl:=dlen hD
 have hn:=(zat.1 hD).2
 refine zbl hD (fun r h=>qcwz.v (by simp (disch:=omega) only [↓reduceIte,BQ,Nat.reduceMod,Nat.reduceBEq,LN,S]; exact Ev.bind h (Ev.now _))) (fun Z h line hr=>qgzz.v (Ev.bind hr (by simp (disch:=omega) only [↓reduceIte,BQ,Nat.reduceMod,Nat.reduceBEq,LN,S]; exact Ev.bind h (Ev.now _)))) ?_
 obtain ⟨T,ok,x,y⟩:=zeP D n ([],(a,(l,(r,(d,([],([],[(m:Int)]))))))) (zfF a l r d (m:Int))
 exact ⟨T,ok,qeuz.v (by simp (disch:=omega) only [↓reduceIte,BQ,Nat.reduceMod,Nat.reduceBEq,LN,S]; exact Ev.bind (qegz.v (by simp (disch:=omega) only [↓reduceIte,BQ,Nat.reduceMod,Nat.reduceBEq,LN,S]; exact x)) (Ev.now _)),qbyz.v (by simp (disch:=omega) only [↓reduceIte,BQ,Nat.reduceMod,Nat.reduceBEq,LN,S]; exact y)⟩
theorem zrT {X:List Wk}:Act (bs [109,101,97,110]) ([],(0,(0,(0,(0,(X,([],[]))))))) D n:=by
 have hl:=dlen hD
 have hn:=(zat.1 hD).2
 refine zbl hD (fun r h=>qcwz.v (by simp (disch:=omega) only [↓reduceIte,BQ,Nat.reduceMod,Nat.reduceBEq,LN,S]; exact Ev.bind h (Ev.now _))) (fun Z h line hr=>qgzz.v (Ev.bind hr (by simp (disch:=omega) only [↓reduceIte,BQ,Nat.reduceMod,Nat.reduceBEq,LN,S]; exact Ev.bind h (Ev.now _)))) ?_
 obtain ⟨T,ok,x,y⟩:=zeP D n ([],(0,(0,(0,(0,(X,([],[]))))))) (zjK X)
 exact ⟨T,ok,qeuz.v (by simp (disch:=omega) only [↓reduceIte,BQ,Nat.reduceMod,Nat.reduceBEq,LN,S]; exact Ev.bind (qegz.v (by simp (disch:=omega) only [↓reduceIte,BQ,Nat.reduceMod,Nat.reduceBEq,LN,S]; exact x)) (Ev.now _)),qbyz.v (by simp (disch:=omega) only [↓reduceIte,BQ,Nat.reduceMod,Nat.reduceBEq,LN,S]; exact y)⟩
theorem zrU {X:List Wk}:Act (bs [116,105,109,101]) ([],(0,(0,(0,(0,(X,([],[]))))))) D n:=by
 have hl:=dlen hD
 have hn:=(zat.1 hD).2
 refine zbl hD (fun r h=>qcwz.v (by simp (disch:=omega) only [↓reduceIte,BQ,Nat.reduceMod,Nat.reduceBEq,LN,S]; exact Ev.bind h (Ev.now _))) (fun Z h line hr=>qgzz.v (Ev.bind hr (by simp (disch:=omega) only [↓reduceIte,BQ,Nat.reduceMod,Nat.reduceBEq,LN,S]; exact Ev.bind h (Ev.now _)))) ?_
 obtain ⟨T,ok,x,y⟩:=zeP D n ([],(0,(0,(0,(0,(X,([],[]))))))) (zjh X)
 exact ⟨T,ok,qeuz.v (by simp (disch:=omega) only [↓reduceIte,BQ,Nat.reduceMod,Nat.reduceBEq,LN,S]; exact Ev.bind (qegz.v (by simp (disch:=omega) only [↓reduceIte,BQ,Nat.reduceMod,Nat.reduceBEq,LN,S]; exact x)) (Ev.now _)),qbyz.v (by simp (disch:=omega) only [↓reduceIte,BQ,Nat.reduceMod,Nat.reduceBEq,LN,S]; exact y)⟩
theorem zrV {X:List Wk} {m m2:Nat}:Act (bs [110,101,101,100]) ([],(0,(0,(0,(0,(X,([],[(m:Int),(m2:Int)]))))))) D n:=by
 have hl:=dlen hD
 have hn:=(zat.1 hD).2
 refine zbl hD (fun r h=>qcwz.v (by simp (disch:=omega) only [↓reduceIte,BQ,Nat.reduceMod,Nat.reduceBEq,LN,S]; exact Ev.bind h (Ev.now _))) (fun Z h line hr=>qgzz.v (Ev.bind hr (by simp (disch:=omega) only [↓reduceIte,BQ,Nat.reduceMod,Nat.reduceBEq,LN,S]; exact Ev.bind h (Ev.now _)))) ?_
 obtain ⟨T,ok,x,y⟩:=zeP D n ([],(0,(0,(0,(0,(X,([],[(m:Int),(m2:Int)]))))))) (zhH X (m:Int) (m2:Int))
 exact ⟨T,ok,qeuz.v (by simp (disch:=omega) only [↓reduceIte,BQ,Nat.reduceMod,Nat.reduceBEq,LN,S]; exact Ev.bind (qegz.v (by simp (disch:=omega) only [↓reduceIte,BQ,Nat.reduceMod,Nat.reduceBEq,LN,S]; exact x)) (Ev.now _)),qbyz.v (by simp (disch:=omega) only [↓reduceIte,BQ,Nat.reduceMod,Nat.reduceBEq,LN,S]; exact y)⟩
theorem zpf {m m2 m3:Nat}:Act (bs [99,104,97,110,99,101]) ([],(0,(0,(0,(0,([],([],[(m:Int),(m2:Int),(m3:Int)]))))))) D n:=by
 have hl:=dlen hD
 have hn:=(zat.1 hD).2
 refine zbl hD (fun r h=>qcwz.v (by simp (disch:=omega) only [↓reduceIte,BQ,Nat.reduceMod,Nat.reduceBEq,LN,S]; exact Ev.bind h (Ev.now _))) (fun Z h line hr=>qgzz.v (Ev.bind hr (by simp (disch:=omega) only [↓reduceIte,BQ,Nat.reduceMod,Nat.reduceBEq,LN,S]; exact Ev.bind h (Ev.now _)))) ?_
 obtain ⟨T,ok,x,y⟩:=zeP D n ([],(0,(0,(0,(0,([],([],[(m:Int),(m2:Int),(m3:Int)]))))))) (zfG (m:Int) (m2:Int) (m3:Int))
 exact ⟨T,ok,qeuz.v (by simp (disch:=omega) only [↓reduceIte,BQ,Nat.reduceMod,Nat.reduceBEq,LN,S]; exact Ev.bind (qegz.v (by simp (disch:=omega) only [↓reduceIte,BQ,Nat.reduceMod,Nat.reduceBEq,LN,S]; exact x)) (Ev.now _)),qbyz.v (by simp (disch:=omega) only [↓reduceIte,BQ,Nat.reduceMod,Nat.reduceBEq,LN,S]; exact y)⟩
theorem zpg {X:List Wk} (hX:zap 6 vOk X=true):Act (bs [118,105,115,105,116,115]) ([],(0,(0,(0,(0,([],(X,[]))))))) D n:=by
 have hl:=dlen hD
 have hn:=(zat.1 hD).2
 obtain ⟨L,l1,l2,l3,l4⟩:=zo1 hX
 refine zbl hD (fun r h=>qcwz.v (by simp (disch:=omega) only [↓reduceIte,BQ,Nat.reduceMod,Nat.reduceBEq,LN,S]; exact Ev.bind h (Ev.now _))) (fun Z h line hr=>qgzz.v (Ev.bind hr (by simp (disch:=omega) only [↓reduceIte,BQ,Nat.reduceMod,Nat.reduceBEq,LN,S]; exact Ev.bind h (Ev.now _)))) ?_
 obtain ⟨T,ok,x,y⟩:=zs8 D n ([],(0,(0,(0,(0,([],(X,[]))))))) l1 l2 (by omega) l3
 exact ⟨T,ok,qeuz.v (by simp (disch:=omega) only [↓reduceIte,BQ,Nat.reduceMod,Nat.reduceBEq,LN,S]; exact Ev.bind (qegz.v (by simp (disch:=omega) only [↓reduceIte,BQ,Nat.reduceMod,Nat.reduceBEq,LN,S]; exact x)) (Ev.now _)),qbyz.v (by simp (disch:=omega) only [↓reduceIte,BQ,Nat.reduceMod,Nat.reduceBEq,LN,S]; exact y)⟩
theorem zph {X:List Wk} (hX:zap 6 vOk X=true):Act (bs [103,117,105,100,101,115]) ([],(0,(0,(0,(0,([],(X,[]))))))) D n:=by
 have hl:=dlen hD
 have hn:=(zat.1 hD).2
 obtain ⟨L,l1,l2,l3,l4⟩:=zg2 hX
 refine zbl hD (fun r h=>qcwz.v (by simp (disch:=omega) only [↓reduceIte,BQ,Nat.reduceMod,Nat.reduceBEq,LN,S]; exact Ev.bind h (Ev.now _))) (fun Z h line hr=>qgzz.v (Ev.bind hr (by simp (disch:=omega) only [↓reduceIte,BQ,Nat.reduceMod,Nat.reduceBEq,LN,S]; exact Ev.bind h (Ev.now _)))) ?_
 obtain ⟨T,ok,x,y⟩:=zla D n ([],(0,(0,(0,(0,([],(X,[]))))))) l1 l2 (by omega) l4
 exact ⟨T,ok,qeuz.v (by simp (disch:=omega) only [↓reduceIte,BQ,Nat.reduceMod,Nat.reduceBEq,LN,S]; exact Ev.bind (qegz.v (by simp (disch:=omega) only [↓reduceIte,BQ,Nat.reduceMod,Nat.reduceBEq,LN,S]; exact x)) (Ev.now _)),qbyz.v (by simp (disch:=omega) only [↓reduceIte,BQ,Nat.reduceMod,Nat.reduceBEq,LN,S]; exact y)⟩
end
theorem zqZ {n:Nat} {ok:Wk->Bool} {o:Option (List Wk)} (h:(zaY n ok o).2=true):zap n ok (zaY n ok o).1=true:=by
 cases o with
 | none=>cases h
 | some L =>
  unfold zaY at *
  by_cases c:zap n ok L=true
  · simp only [if_pos c]; exact c
  · simp only [if_neg c] at h; cases h
theorem zdY {w:List UInt8} {s t:Ar} (h:zaO 78 w s=some t):∃ m:Nat,m<=999999/\t=(s.1,(s.2.1,(s.2.2.1,(s.2.2.2.1,(s.2.2.2.2.1,(s.2.2.2.2.2.1,(s.2.2.2.2.2.2.1,s.2.2.2.2.2.2.2++[(m:Int)]))))))):=by
 rw [znv] at h
 have hb:=zsa w
 by_cases c:0<=l1r w
 · rw [if_pos c] at h
   injection h with h
   exact ⟨(l1r w).toNat,by omega,by rw [show (((l1r w).toNat:Nat):Int)=l1r w by omega]; exact h.symm⟩
 · rw [if_neg c] at h; cases h
theorem zt9 {w:List UInt8} {s t:Ar} (h:zaO 87 w s=some t):∃ X,zap 8 wOk X=true/\t=(X,s.2):=by
 unfold zaO at h
 rw [if_pos rfl] at h
 split at h
 · rename_i c
   injection h with h
   exact ⟨_,zqZ c,h.symm⟩
 · cases h
theorem ztd {w:List UInt8} {s t:Ar} (h:zaO 67 w s=some t):∃ a l r d:Int,t=(s.1,(a,(l,(r,(d,s.2.2.2.2.2))))):=by
 unfold zaO at h
 rw [if_neg (by decide),if_pos rfl] at h
 split at h
 · injection h with h
   exact ⟨_,_,_,_,h.symm⟩
 · cases h
theorem zte {w:List UInt8} {s t:Ar} (h:zaO 76 w s=some t):∃ X,t=(s.1,(s.2.1,(s.2.2.1,(s.2.2.2.1,(s.2.2.2.2.1,(X,s.2.2.2.2.2.2)))))):=by
 unfold zaO at h
 rw [if_neg (by decide),if_neg (by decide),if_pos rfl] at h
 split at h
 · injection h with h
   exact ⟨_,h.symm⟩
 · cases h
theorem zua {w:List UInt8} {s t:Ar} (h:zaO 86 w s=some t):∃ X,zap 6 vOk X=true/\t=(s.1,(s.2.1,(s.2.2.1,(s.2.2.2.1,(s.2.2.2.2.1,(s.2.2.2.2.2.1,(X,s.2.2.2.2.2.2.2))))))):=by
 unfold zaO at h
 rw [if_neg (by decide),if_neg (by decide),if_neg (by decide),if_pos rfl] at h
 split at h
 · rename_i c
   injection h with h
   exact ⟨_,zqZ c,h.symm⟩
 · cases h
theorem zdZ {c:Nat} {w:List UInt8} {s t:Ar} (h:zfL [c] [w] s=some t):zaO c w s=some t:=by
 have h':(zaO c w s).bind (fun s=>some s)=some t:=h
 cases e:zaO c w s with
 | none=>rw [e] at h'; cases h'
 | some u=>rw [e] at h'; exact h'
theorem zjt {c c2:Nat} {w w2:List UInt8} {s t:Ar} (h:zfL [c,c2] [w,w2] s=some t):∃ u,zaO c w s=some u/\zaO c2 w2 u=some t:=by
 have h':(zaO c w s).bind (zfL [c2] [w2])=some t:=h
 cases e:zaO c w s with
 | none=>rw [e] at h'; cases h'
 | some u=>rw [e] at h'; exact ⟨u,rfl,zdZ h'⟩
theorem zsi {c c2 c3:Nat} {w w2 w3:List UInt8} {s t:Ar} (h:zfL [c,c2,c3] [w,w2,w3] s=some t):∃ u v,zaO c w s=some u/\zaO c2 w2 u=some v/\zaO c3 w3 v=some t:=by
 have h':(zaO c w s).bind (zfL [c2,c3] [w2,w3])=some t:=h
 cases e:zaO c w s with
 | none=>rw [e] at h'; cases h'
 | some u=>rw [e] at h'; obtain ⟨v,a,b⟩:=zjt h'; exact ⟨u,v,rfl,a,b⟩
theorem len3 {α:Type} {l:List α} (h:l.length=3):∃ a b c,l=[a,b,c]:=by
 match l,h with
 | [a,b,c],_=>exact ⟨a,b,c,rfl⟩
def s0:Ar:=([],(0,(0,(0,(0,([],([],[])))))))
theorem ztf {D:List Wk} {n:Int} (hD:dOk D n=true) {e:List Nat×List Nat} (he:e∈zbW) {ws:List (List UInt8)} (hl:e.2.length=ws.length) {t:Ar} (ht:zfL e.2 ws s0=some t):Act (bs e.1) t D n:=by
 unfold zbW at he
 simp only [List.mem_cons,List.not_mem_nil,or_false] at he
 rcases he with rfl | rfl | rfl | rfl | rfl | rfl | rfl | rfl | rfl | rfl | rfl | rfl | rfl | rfl | rfl | rfl | rfl | rfl | rfl | rfl | rfl | rfl | rfl | rfl | rfl | rfl
 · obtain ⟨w,rfl⟩:=List.length_eq_one_iff.1 hl.symm
   obtain ⟨X,hX,rfl⟩:=zt9 (zdZ ht)
   exact znw hD hX
 · obtain ⟨w,rfl⟩:=List.length_eq_one_iff.1 hl.symm
   obtain ⟨X,hX,rfl⟩:=zt9 (zdZ ht)
   exact zs9 hD hX
 · obtain ⟨w,rfl⟩:=List.length_eq_one_iff.1 hl.symm
   obtain ⟨m,hm,rfl⟩:=zdY (zdZ ht)
   exact zrM hD hm
 · obtain ⟨w,rfl⟩:=List.length_eq_one_iff.1 hl.symm
   obtain ⟨m,hm,rfl⟩:=zdY (zdZ ht)
   exact zrN hD hm
 · obtain ⟨w,rfl⟩:=List.length_eq_one_iff.1 hl.symm
   obtain ⟨m,hm,rfl⟩:=zdY (zdZ ht)
   exact zrO hD hm
 · obtain ⟨w,rfl⟩:=List.length_eq_one_iff.1 hl.symm
   obtain ⟨m,hm,rfl⟩:=zdY (zdZ ht)
   exact zt8 hD hm
 · have hw:ws=[]:=List.length_eq_zero_iff.1 hl.symm
   subst hw
   injection ht with ht
   subst ht
   exact zrP hD
 · have hw:ws=[]:=List.length_eq_zero_iff.1 hl.symm
   subst hw
   injection ht with ht
   subst ht
   exact zqV hD
 · have hw:ws=[]:=List.length_eq_zero_iff.1 hl.symm
   subst hw
   injection ht with ht
   subst ht
   exact zqW hD
 · have hw:ws=[]:=List.length_eq_zero_iff.1 hl.symm
   subst hw
   injection ht with ht
   subst ht
   exact zrQ hD
 · have hw:ws=[]:=List.length_eq_zero_iff.1 hl.symm
   subst hw
   injection ht with ht
   subst ht
   exact zrR hD
 · have hw:ws=[]:=List.length_eq_zero_iff.1 hl.symm
   subst hw
   injection ht with ht
   subst ht
   exact zqU hD
 · obtain ⟨w,w2,rfl⟩:=len2 hl.symm
   obtain ⟨u,h1,h2⟩:=zjt ht
   obtain ⟨m,hm,rfl⟩:=zdY h1
   obtain ⟨m2,hm2,rfl⟩:=zdY h2
   exact zrS hD hm hm2
 · obtain ⟨w,w2,rfl⟩:=len2 hl.symm
   obtain ⟨u,h1,h2⟩:=zjt ht
   obtain ⟨m,hm,rfl⟩:=zdY h1
   obtain ⟨m2,hm2,rfl⟩:=zdY h2
   exact zqX hD hm hm2
 · obtain ⟨w,w2,rfl⟩:=len2 hl.symm
   obtain ⟨u,h1,h2⟩:=zjt ht
   obtain ⟨m,hm,rfl⟩:=zdY h1
   obtain ⟨m2,hm2,rfl⟩:=zdY h2
   exact zpd hD hm hm2
 · obtain ⟨w,w2,rfl⟩:=len2 hl.symm
   obtain ⟨u,h1,h2⟩:=zjt ht
   obtain ⟨m,hm,rfl⟩:=zdY h1
   obtain ⟨m2,hm2,rfl⟩:=zdY h2
   exact zta hD hm hm2
 · obtain ⟨w,w2,rfl⟩:=len2 hl.symm
   obtain ⟨u,h1,h2⟩:=zjt ht
   obtain ⟨m,hm,rfl⟩:=zdY h1
   obtain ⟨m2,hm2,rfl⟩:=zdY h2
   exact zpe hD hm hm2
 · obtain ⟨w,rfl⟩:=List.length_eq_one_iff.1 hl.symm
   obtain ⟨a,l,r,d,rfl⟩:=ztd (zdZ ht)
   exact ztb hD
 · obtain ⟨w,rfl⟩:=List.length_eq_one_iff.1 hl.symm
   obtain ⟨a,l,r,d,rfl⟩:=ztd (zdZ ht)
   exact ztc hD
 · obtain ⟨w,w2,rfl⟩:=len2 hl.symm
   obtain ⟨u,h1,h2⟩:=zjt ht
   obtain ⟨a,l,r,d,rfl⟩:=ztd h1
   obtain ⟨m,hm,rfl⟩:=zdY h2
   exact zqY hD
 · obtain ⟨w,rfl⟩:=List.length_eq_one_iff.1 hl.symm
   obtain ⟨X,rfl⟩:=zte (zdZ ht)
   exact zrT hD
 · obtain ⟨w,rfl⟩:=List.length_eq_one_iff.1 hl.symm
   obtain ⟨X,rfl⟩:=zte (zdZ ht)
   exact zrU hD
 · obtain ⟨w,w2,w3,rfl⟩:=len3 hl.symm
   obtain ⟨u,v,h1,h2,h3⟩:=zsi ht
   obtain ⟨X,rfl⟩:=zte h1
   obtain ⟨m,hm,rfl⟩:=zdY h2
   obtain ⟨m2,hm2,rfl⟩:=zdY h3
   exact zrV hD
 · obtain ⟨w,rfl⟩:=List.length_eq_one_iff.1 hl.symm
   obtain ⟨X,hX,rfl⟩:=zua (zdZ ht)
   exact zpg hD hX
 · obtain ⟨w,rfl⟩:=List.length_eq_one_iff.1 hl.symm
   obtain ⟨X,hX,rfl⟩:=zua (zdZ ht)
   exact zph hD hX
 · obtain ⟨w,w2,w3,rfl⟩:=len3 hl.symm
   obtain ⟨u,v,h1,h2,h3⟩:=zsi ht
   obtain ⟨m,hm,rfl⟩:=zdY h1
   obtain ⟨m2,hm2,rfl⟩:=zdY h2
   obtain ⟨m3,hm3,rfl⟩:=zdY h3
   exact zpf hD
theorem ztg:∀ e∈zbW,∀ c∈e.2,zmn c:=by
 unfold zbW zmn
 decide
theorem zrW:∀ e∈zbW,e.2.length<=3:=by decide
theorem zop {D:List Wk} {n:Int} {l:List UInt8} (hl:l.length<=100000) {w0:List UInt8} {ws:List (List UInt8)} (hs:zac 32 l=w0::ws) {Sh:BA} (hS:qfpz.f (bL w0)=some Sh) {r:zt7}
    (h:(Sh.size:Int) ≠ (ws.length:Int)->r.1=bs []/\r.2.1=(D,(n,s0))/\r.2.2=false) (h':(Sh.size:Int)=(ws.length:Int)->Ev (fun k=>zkn k (bL w0::ws.map bL) Sh (ws.map bL) (ws.length:Int) 0 D n s0) r):Ev (fun k=>qglz.f k D n (bL l)) r:=by
 have hb:=za8 32 l
 rw [hs,List.length_cons] at hb
 have hq:Ev (fun k=>qgaz.f k (bL l) 32) (bL w0::ws.map bL):=by
  have:=zaS (l:=l) (by omega) 32
  rw [hs] at this
  exact this
 have hlen:(bL w0::ws.map bL).length=ws.length+1:=by simp
 refine qglz.v (Ev.bind hq ?_)
 simp (disch:=omega) only [S,rd0,hS,hlen]
 by_cases c:(Sh.size:Int)=(ws.length:Int)
 · have e:((Sh.size:Int) != (((ws.length+1:Nat):Int)-1))=false:=by rw [bne_eq_false_iff_eq]; omega
   have e2:List.drop 1 (bL w0::ws.map bL)=ws.map bL:=rfl
   have e3:(ws.map bL).length=ws.length:=List.length_map _
   simp (disch:=omega) only [S,e,e2,e3]
   exact h' c
 · have e:((Sh.size:Int) != (((ws.length+1:Nat):Int)-1))=true:=by rw [bne_iff_ne]; omega
   simp (disch:=omega) only [S,e]
   obtain ⟨r1,⟨r2,r3⟩,r4⟩:=r
   obtain ⟨z1,z2,z3⟩:=h c
   simp only at z1 z2 z3
   subst z1 z3
   cases z2
   exact Ev.now _
theorem zq0 {D:List Wk} {n:Int} {l:List UInt8} (hl:l.length<=100000) {w0:List UInt8} {ws:List (List UInt8)} (hs:zac 32 l=w0::ws) {Fm:BA} (hS:qetz.f (bL w0)=some (Fm,true)) {r:(List Wk×Int)×BA}
    (h:(Fm.size:Int) ≠ (ws.length:Int)->r=((D,n),zfM)) (h':(Fm.size:Int)=(ws.length:Int)->Ev (fun k=>zmp k (bL w0::ws.map bL) Fm (ws.map bL) (ws.length:Int) 0 D n s0) r):Ev (fun k=>qewz.f k D n (bL l)) r:=by
 have hb:=za8 32 l
 rw [hs,List.length_cons] at hb
 have hq:qfez.f (bL l) (bs [32])=some (bL w0::ws.map bL):=by
  have:=za3 (l:=l) (by omega) 32
  rw [hs] at this
  exact this
 have hlen:(bL w0::ws.map bL).length=ws.length+1:=by simp
 refine qewz.v ?_
 simp (disch:=omega) only [S,hq,rd0,hS,hlen]
 by_cases c:(Fm.size:Int)=(ws.length:Int)
 · have e:((Fm.size:Int) != (((ws.length+1:Nat):Int)-1))=false:=by rw [bne_eq_false_iff_eq]; omega
   have e2:List.drop 1 (bL w0::ws.map bL)=ws.map bL:=rfl
   have e3:(ws.map bL).length=ws.length:=List.length_map _
   simp (disch:=omega) only [S,e,e2,e3]
   exact h' c
 · have e:((Fm.size:Int) != (((ws.length+1:Nat):Int)-1))=true:=by rw [bne_iff_ne]; omega
   simp (disch:=omega) only [S,e]
   rw [h c]
   exact Ev.now _
theorem zlb {D:List Wk} {n:Int} {l:BA} {z} (h:Ev (fun k=>qglz.f k D n l) (bs [],(z,false))):Ev (fun k=>qgzz.f k D n l) ((D,n),zfM):=by
 refine qgzz.v (Ev.bind h ?_)
 simp only [S]
 exact Ev.now _
theorem zmq {D:List Wk} {n:Int} (hD:dOk D n=true) {l:List UInt8} (hl:l.length<=100000):∃ r:(List Wk×Int)×BA,dOk r.1.1 r.1.2=true/\Ev (fun k=>qewz.f k D n (bL l)) r/\Ev (fun k=>qgzz.f k D n (bL l)) r:=by
 have hb:=za8 32 l
 have hm:=zb1 32 l
 cases hs:zac 32 l with
 | nil=>exact absurd hs (zaU 32 l)
 | cons w0 ws =>
  rw [hs,List.length_cons] at hb
  have hw:∀ w∈ws,w.length<=2000000:=fun w h=>by
   have:=hm w (by rw [hs]; exact List.mem_cons_of_mem _ h)
   omega
  rcases znu w0 with ⟨u1,u2⟩ | ⟨e,he,e1,e2,e3⟩
  · refine ⟨((D,n),zfM),hD,?_,zlb (z:=(D,(n,s0))) (zop hl hs u2 (fun _=>⟨rfl,rfl,rfl⟩) (fun hc=>?_))⟩
    · have hq:qfez.f (bL l) (bs [32])=some (bL w0::ws.map bL):=by
       have:=za3 (l:=l) (by omega) 32
       rw [hs] at this
       exact this
      have hlen:(bL w0::ws.map bL).length=ws.length+1:=by simp
      refine qewz.v ?_
      simp (disch:=omega) only [S,hq,rd0,u1,hlen]
      exact Ev.now _
    · rw [zg3] at hc
      simp only [List.length_cons,List.length_nil] at hc
      have hml:(ws.map bL).length=ws.length:=List.length_map _
      have hz:bat (bs [63]) (0:Int)=63:=by
       have:=zqP (fs:=[63]) (i:=0) (by decide)
       exact this
      have hz2:(bs [63]).size=1:=zg3 [63]
      refine qglz.v0 ?_
      have c0:iLt 0 (ws.length:Int)=true:=decide_eq_true (by omega)
      have c1:∀ {β:Type} (x:Option β),ix 0 (ws.map bL) x=x:=fun x=>S.2.1 (by decide) (by omega)
      have c2:∀ {β:Type} (x:Option β),gd (0 < sln (bs [63])) x=x:=fun x=>S.1 (by show (0:Int) < ((bs [63]).size:Int); omega)
      have c3:∀ {β:Type} (x:Option β),gd ((0:Int)<=0) x=x:=fun x=>S.1 (by decide)
      have d1:((63:Int) == 110)=false:=by decide
      have d2:((63:Int) == 119)=false:=by decide
      have d3:((63:Int) == 99)=false:=by decide
      have d4:((63:Int) == 108)=false:=by decide
      have d5:((63:Int) == 118)=false:=by decide
      simp only [c0,c1,c2,c3,hz,d1,d2,d3,d4,d5,if_true,Bool.false_eq_true,if_false]
      exact Ev.now _
  · rw [<- e1] at e2 e3
    have z1:=zg3 e.2
    have z2:=zg3 (e.2.map (· + 32))
    rw [List.length_map] at z2
    by_cases hc:e.2.length=ws.length
    · have h3:=zrW e he
      have hr:=zqR (w0:=w0) (D:=D) (n:=n) (ztg e he) hc (by omega) hw ws.length 0 (by omega) s0 (by decide)
      rw [List.drop_zero,List.drop_zero] at hr
      cases ht:zfL e.2 ws s0 with
      | none =>
       obtain ⟨a,z,b⟩:=hr.1 ht
       exact ⟨((D,n),zfM),hD,zq0 hl hs e2 (fun h=>absurd (by omega) h) (fun _=>a),zlb (zop hl hs e3 (fun h=>absurd (by omega) h) (fun _=>b))⟩
      | some t =>
       obtain ⟨a,b⟩:=hr.2 t ht
       obtain ⟨r,r1,⟨R,r2,r3⟩,r4⟩:=ztf hD he hc ht
       rw [<- e1] at r2 r4
       refine ⟨r,r1,zq0 hl hs e2 (fun h=>absurd (by omega) h) (fun _=>by rw [r3]; exact a R r2),r4 _ (zop hl hs e3 (fun h=>absurd (by omega) h) (fun _=>b))⟩
    · exact ⟨((D,n),zfM),hD,zq0 hl hs e2 (fun _=>rfl) (fun h=>absurd (by omega) hc),zlb (z:=(D,(n,s0))) (zop hl hs e3 (fun _=>⟨rfl,rfl,rfl⟩) (fun h=>absurd (by omega) hc))⟩
theorem zkp {c:UInt8}:∀ {l:List UInt8},c∈l->1 < (zac c l).length:=by
 intro l
 induction l with
 | nil=>intro h; simp at h
 | cons b l ih =>
  intro h
  have h0:=zaU c l
  unfold zac
  by_cases e:b=c
  · rw [if_pos e,List.length_cons]
    have:=List.length_pos_iff.2 h0
    omega
  · rw [if_neg e]
    have h':c∈l:=by
     rcases List.mem_cons.1 h with h | h
     · exact absurd h.symm e
     · exact h
    have:=ih h'
    cases hs:zac c l with
    | nil=>exact absurd hs h0
    | cons w ws=>rw [hs] at this; simpa using this
theorem ib {c:UInt8}:∀ l:List UInt8,(c∈l->0<=Lib.indexByte l c)/\(c ∉ l->Lib.indexByte l c = -1)
 | []=>⟨fun h=>by simp at h,fun _=>rfl⟩
 | b::l=>by
  obtain ⟨h1,h2⟩:=ib (c:=c) l
  unfold Lib.indexByte
  by_cases e:b=c
  · subst e
    exact ⟨fun _=>by simp,fun h=>absurd (List.mem_cons_self) h⟩
  · have e':(b == c)=false:=by simpa using e
    rw [e',if_neg (by decide)]
    refine ⟨fun h=>?_,fun h=>?_⟩
    · have h':c∈l:=by
       rcases List.mem_cons.1 h with h | h
       · exact absurd h.symm e
       · exact h
      have:=h1 h'
      rw [if_neg (by rw [beq_iff_eq]; omega)]
      omega
    · have:=h2 (fun hc=>h (List.mem_cons_of_mem _ hc))
      rw [this]; rfl
theorem znx (l:List UInt8) (c:UInt8):qctz.f (bL l) (bL [c])=some (decide (1 < (zac c l).length)):=by
 have h1:zca (bL l) (bL [c])=decide (1 < (zac c l).length):=by
  unfold zca
  rw [zhs,zhs,show ([c]:List UInt8).headD 0=c from rfl]
  by_cases h:c∈l
  · rw [decide_eq_true (zkp h),decide_eq_true ((ib l).1 h)]
  · rw [zgi c l h,(ib l).2 h]
    rfl
 show (bif oneB (bL l) (bL [c]) then some (zca (bL l) (bL [c])) else none)=_
 rw [h1]
 rfl
theorem zbL {l:List UInt8} {c:UInt8}:Lib.hasSuffix l [c]=true ↔ ∃ b,l=b++[c]:=by
 unfold Lib.hasSuffix
 rw [List.isSuffixOf_iff_suffix]
 constructor
 · rintro ⟨b,h⟩; exact ⟨b,h.symm⟩
 · rintro ⟨b,h⟩; exact ⟨b,h.symm⟩
theorem zrX (b:List UInt8):zcb (bL (b++[10]))=bL b:=by
 have h:Lib.hasSuffix (b++[10]) [10]=true:=zbL.2 ⟨b,rfl⟩
 unfold zcb trimB Lib.trimSuffix
 rw [zhs,show (ByteArray.data ⟨#[(10:UInt8)]⟩).toList=[10] from rfl,if_pos h]
 simp [bL]
theorem zju {c:UInt8}:∀ {l:List UInt8},c∈l->∃ a r,l=a++c::r/\c ∉ a/\Lib.indexByte l c=(a.length:Int)
 | b::l,h=>by
  by_cases hb:b=c
  · subst hb
    exact ⟨[],l,rfl,by simp,by simp [Lib.indexByte]⟩
  · have hl:c∈l:=by rcases List.mem_cons.1 h with h | h; exact absurd h.symm hb; exact h
    obtain ⟨a,r,rfl,h1,h2⟩:=zju hl
    refine ⟨b::a,r,rfl,by simp [h1,Ne.symm hb],?_⟩
    have e1:(b == c)=false:=beq_false_of_ne hb
    unfold Lib.indexByte
    rw [h2,e1]
    have e2:((a.length:Int) == -1)=false:=beq_false_of_ne (by omega)
    simp [e2]
theorem zjv (c:UInt8):∀ l:List UInt8,(zac c l).length=Lib.countByte l c+1
 | []=>by simp [zac,Lib.countByte]
 | b::l=>by
  have ih:=zjv c l
  unfold zac
  unfold Lib.countByte at *
  by_cases hb:b=c
  · subst hb
    rw [if_pos rfl,List.length_cons,ih,List.count_cons_self]
  · rw [if_neg hb,List.count_cons_of_ne hb]
    split
    · rename_i h; exact absurd h (zaU c l)
    · rename_i w ws h
      rw [h] at ih
      simpa using ih
theorem zd0 (c:UInt8):∀ l:List UInt8,((zac c l).getLast (zaU c l)=[] ↔ l=[] \/ Lib.hasSuffix l [c]=true)
 | []=>by simp [zac]
 | b::l=>by
  have ih:=zd0 c l
  have hx:Lib.hasSuffix (b::l) [c]=true ↔ (l=[]/\b=c) \/ Lib.hasSuffix l [c]=true:=by
   rw [zbL,zbL]
   constructor
   · rintro ⟨a,h⟩
     cases a with
     | nil=>simp at h; exact .inl ⟨h.2,h.1⟩
     | cons x a=>simp at h; exact .inr ⟨a,h.2⟩
   · rintro (⟨rfl,rfl⟩ | ⟨a,rfl⟩)
     · exact ⟨[],rfl⟩
     · exact ⟨b::a,rfl⟩
  rw [hx]
  obtain ⟨w,ws,h⟩ : ∃ w ws,zac c l=w::ws:=by
   cases h:zac c l with
   | nil=>exact absurd h (zaU c l)
   | cons w ws=>exact ⟨w,ws,rfl⟩
  by_cases hb:b=c
  · subst hb
    have e:zac b (b::l)=[]::zac b l:=by rw [zac,if_pos rfl]
    simp only [e]
    rw [List.getLast_cons (zaU b l),ih]
    simp
  · have e:zac c (b::l)=(b::w)::ws:=by rw [zac,if_neg hb,h]
    simp only [e]
    simp only [h] at ih
    cases ws with
    | nil =>
     have hl:c ∉ l:=fun hc=>by have:=zkp hc; rw [h] at this; simp at this
     simp only [List.getLast_singleton]
     have:¬ Lib.hasSuffix l [c]=true:=fun hs=>by obtain ⟨a,rfl⟩:=zbL.1 hs; exact hl (by simp)
     simp [this,hb]
    | cons y ys =>
     rw [List.getLast_cons (by simp)] at ih ⊢
     rw [ih]
     have:l ≠ []:=fun hl=>by subst hl; simp [zac] at h
     simp [this]
theorem zmr {l:List UInt8} (hs:l=[] \/ Lib.hasSuffix l [10]=true) (hz:l ≠ []):∃ a r,l=a++10::r/\(10:UInt8) ∉ a/\(r=[] \/ Lib.hasSuffix r [10]=true):=by
 have hs':Lib.hasSuffix l [10]=true:=by rcases hs with hs | hs; exact absurd hs hz; exact hs
 obtain ⟨b,hb⟩:=zbL.1 hs'
 have hm:(10:UInt8)∈l:=by rw [hb]; simp
 obtain ⟨a,r,hl,ha,_⟩:=zju hm
 refine ⟨a,r,hl,ha,?_⟩
 by_cases hr:r=[]
 · exact .inl hr
 · refine .inr (zbL.2 ?_)
   rw [hl] at hb
   obtain ⟨r',x,rfl⟩ : ∃ r' x,r=r' ++ [x]:=⟨r.dropLast,r.getLast hr,(List.dropLast_concat_getLast hr).symm⟩
   have e:a++10::(r' ++ [x])=(a++10::r')++[x]:=by simp
   rw [e] at hb
   have h2:=(List.append_inj' hb rfl).2
   exact ⟨r',by rw [h2]⟩
theorem zjw:∀ (n:Nat) (l:List UInt8),l.length<=n->(l=[] \/ Lib.hasSuffix l [10]=true)->(zbj n (bL l)).map zcb=((zac 10 l).dropLast).map bL
 | 0,l,h,_=>by
  have:l=[]:=List.eq_nil_of_length_eq_zero (by omega)
  subst this
  simp [zbj,zac]
 | n+1,l,h,hs=>by
  by_cases hz:l=[]
  · subst hz
    have:(bL []).size=0:=rfl
    simp [zbj,zac,this]
  · have hs':Lib.hasSuffix l [10]=true:=by rcases hs with hs | hs; exact absurd hs hz; exact hs
    obtain ⟨b,hb⟩:=zbL.1 hs'
    have hm:(10:UInt8)∈l:=by rw [hb]; simp
    obtain ⟨a,r,hl,ha,hi⟩:=zju hm
    have hsz:¬ (bL l).size=0:=by rw [zal]; intro h0; exact hz (List.eq_nil_of_length_eq_zero h0)
    have hr:r=[] \/ Lib.hasSuffix r [10]=true:=by
     by_cases hr:r=[]
     · exact .inl hr
     · refine .inr (zbL.2 ?_)
       rw [hl] at hb
       obtain ⟨r',x,rfl⟩ : ∃ r' x,r=r' ++ [x]:=⟨r.dropLast,r.getLast hr,(List.dropLast_concat_getLast hr).symm⟩
       have e:a++10::(r' ++ [x])=(a++10::r')++[x]:=by simp
       rw [e] at hb
       have h2:=(List.append_inj' hb rfl).2
       exact ⟨r',by rw [h2]⟩
    have ih:=zjw n r (by rw [hl] at h; simp at h; omega) hr
    unfold zbj
    rw [if_neg hsz,zhs,hi,if_pos (by omega),zi0,zb0,zb0,zal]
    have e0:l=(a++[10])++r:=by rw [hl]; simp
    have e1:(l.take (a.length+1)).drop 0=a++[10]:=by rw [List.drop_zero,e0]; exact List.take_left' (by simp)
    have e2:(l.take l.length).drop (a.length+1)=r:=by rw [List.take_length,e0]; exact List.drop_left' (by simp)
    rw [e1,e2,List.map_cons,zrX,ih,hl,zcZ 10 r a ha,List.dropLast_cons_of_ne_nil (zaU 10 r)]
    rfl
theorem zeZ (l:List UInt8):zcc (bL l)=true ↔ l.length<=3000/\(zac 10 l).getLast (zaU 10 l)=[]/\(zac 10 l).length<=51:=by
 unfold zcc
 rw [zhs,zal,zd0,zjv]
 simp only [Bool.and_eq_true,Bool.or_eq_true,decide_eq_true_eq]
 constructor
 · rintro ⟨h1,h2,h3⟩
   exact ⟨h1,h2.imp (fun h=>List.eq_nil_of_length_eq_zero h) id,by omega⟩
 · rintro ⟨h1,h2,h3⟩
   exact ⟨h1,h2.imp (fun h=>by rw [h]; rfl) id,by omega⟩
theorem zg4 {l:List UInt8} (h:zcc (bL l)=true):zee (bL l)=((zac 10 l).dropLast).map bL:=by
 unfold zee
 rw [zal]
 exact zjw _ l (Nat.le_refl _) ((zd0 10 l).1 ((zeZ l).1 h).2.1)
theorem zpi {st:Dk->BA->Dk×BA} (hst:∀ (D:List Wk) (n:Int) (l:List UInt8),dOk D n=true->l.length<=100000->dOk (st (D,n) (bL l)).1.1 (st (D,n) (bL l)).1.2=true/\Ev (fun k=>qgzz.f k D n (bL l)) (st (D,n) (bL l))) (xs:List (List UInt8)) (hx:∀ x∈xs,x.length<=100000) (hl:xs.length<=2000000) :
    ∀ (m i:Nat) (d:Dk) (acc:List BA),i+m=xs.length->acc.length=i->dOk d.1 d.2=true ->
     Ev (fun k=>qhqz.l0 k (xs.map bL) (xs.length:Int) (i:Int) 0 d.1 d.2 acc) ((zaM st d ((xs.drop i).map bL)).1,(acc++(zaM st d ((xs.drop i).map bL)).2,true)):=by
 have hln:(xs.map bL).length=xs.length:=List.length_map _
 intro m
 induction m with
 | zero =>
  intro i d acc hi ha hd
  rw [show i=xs.length by omega,List.drop_length]
  refine qhqz.v0 ?_
  simp (disch:=omega) only [S]
  simp only [zaM,List.map_nil,List.append_nil]
  exact Ev.now _
 | succ m ih =>
  intro i d acc hi ha hd
  have hx':(xs.getD i []).length<=100000:=hx _ (zaf (by omega))
  obtain ⟨h1,h2⟩:=hst d.1 d.2 (xs.getD i []) hd hx'
  have e:xs.drop i=xs.getD i []::xs.drop (i+1):=zav [] (by omega)
  have h:=ih (i+1) (st d (bL (xs.getD i []))).1 (acc++[(st d (bL (xs.getD i []))).2]) (by omega) (by simp [ha]) h1
  rw [e,List.map_cons]
  simp only [zaM]
  rw [List.append_assoc,List.singleton_append] at h
  refine qhqz.v0 ?_
  simp (disch:=omega) only [S,hln,ha,zeH]
  exact Ev.bind h2 h
theorem zth:qekz.f=some ([((0:Int),(3:Int)),(10,-2)],10):=rfl
theorem zrY {st:Dk->BA->Dk×BA} (hst:∀ (D:List Wk) (n:Int) (l:List UInt8),dOk D n=true->l.length<=100000->dOk (st (D,n) (bL l)).1.1 (st (D,n) (bL l)).1.2=true/\Ev (fun k=>qgzz.f k D n (bL l)) (st (D,n) (bL l))) {l:List UInt8} (hl:l.length<=2000000) :
    Ev (fun k=>qhqz.f k (bL l)) (((svOf st).D (bL l),(svOf st).n (bL l)),((svOf st).r (bL l),(svOf st).b (bL l))):=by
 have hsz:sln (bL l)=(l.length:Int):=by simp only [sln,zal]
 have hsp:Ev (fun k=>qgaz.f k (bL l) 10) ((zac 10 l).map bL):=zaS hl 10
 have hln:ln ((zac 10 l).map bL)=((zac 10 l).length:Int):=by simp only [ln,List.length_map]
 have hne:=zaU 10 l
 have hpos:0 < (zac 10 l).length:=List.length_pos_iff.2 hne
 have hcl:=za8 10 l
 have hk:W (((zac 10 l).length:Int)-1)=(((zac 10 l).length-1:Nat):Int):=by rw [w64 (by omega) (by omega)]; omega
 have hlast:(zac 10 l).getD ((zac 10 l).length-1) []=(zac 10 l).getLast hne:=by
  rw [List.getD_eq_getElem?_getD,List.getLast_eq_getElem,List.getElem?_eq_getElem (by omega)]; rfl
 have hbad:zcc (bL l)=false->(((svOf st).D (bL l),(svOf st).n (bL l)),((svOf st).r (bL l),(svOf st).b (bL l)))=((([],0),([],false)):(List Wk×Int)×(List BA×Bool)):=fun h=>by
  unfold svOf; simp only [h]; rfl
 have hgi:=zeZ l
 refine qhqz.v ?_
 by_cases h1:l.length<=3000
 · have c1:iGt (l.length:Int) 3000=false:=decide_eq_false (by omega)
   simp only [hsz,c1,Bool.false_eq_true,if_false]
   refine Ev.bind hsp ?_
   have hlm:((zac 10 l).map bL).length=(zac 10 l).length:=List.length_map _
   simp only [hln,hk]
   have hix:∀ {β:Type} {x:Option β},ix (((zac 10 l).length-1:Nat):Int) ((zac 10 l).map bL) x=x:=fun {β x}=>by
    simp (disch:=omega) only [S,hlm]
   refine Ev.eq (fun k=>hix) ?_
   have hrd:rd (bs []) ((zac 10 l).map bL) (((zac 10 l).length-1:Nat):Int)=bL ((zac 10 l).getLast hne):=by rw [ztW,hlast]
   simp only [hrd]
   have hbs:bs []=bL []:=rfl
   simp only [hbs,zqn]
   by_cases h2:(zac 10 l).getLast hne=[]
   · by_cases h3:(zac 10 l).length<=51
     · have hg:zcc (bL l)=true:=hgi.2 ⟨h1,h2,h3⟩
       have c3:iGt (((zac 10 l).length-1:Nat):Int) 50=false:=decide_eq_false (by omega)
       simp only [decide_eq_true h2]
       simp only [Bool.not_true,Bool.false_eq_true,if_false,c3,zth,Option.bind_some]
       have hdrop:List.take (Int.toNat (((zac 10 l).length-1:Nat):Int)) ((zac 10 l).map bL)=((zac 10 l).dropLast).map bL:=by
        rw [zi0,<- List.map_take,List.dropLast_eq_take]
       simp only [hdrop]
       have hdl:((zac 10 l).dropLast).length=(zac 10 l).length-1:=List.length_dropLast
       have h:=zpi hst (zac 10 l).dropLast (fun x hx=>by have:=zb1 10 l x ((List.dropLast_sublist _).subset hx); omega) (by omega) ((zac 10 l).dropLast).length 0 d00 [] (by omega) rfl rfl
       have hln2:ln (((zac 10 l).dropLast).map bL)=(((zac 10 l).dropLast).length:Int):=by simp only [ln,List.length_map]
       simp only [hln2]
       have hgd:∀ {β:Type} {x:Option β},gd (0<=(((zac 10 l).length-1:Nat):Int)) (gd ((((zac 10 l).length-1:Nat):Int)<=((zac 10 l).length:Int)) x)=x:=fun {β x}=>by
        simp (disch:=omega) only [S]
       have hv:(((svOf st).D (bL l),(svOf st).n (bL l)),((svOf st).r (bL l),(svOf st).b (bL l)))=((zaM st d00 (((zac 10 l).dropLast).map bL)).1,((zaM st d00 (((zac 10 l).dropLast).map bL)).2,true)):=by
        unfold svOf
        simp only [hg,zg4 hg,cond_true]
       rw [hv]
       refine Ev.eq (fun k=>hgd) ?_
       exact h
     · have hg:zcc (bL l)=false:=by cases hq:zcc (bL l) with | false=>rfl | true=>exact absurd (hgi.1 hq).2.2 h3
       have c3:iGt (((zac 10 l).length-1:Nat):Int) 50=true:=decide_eq_true (by omega)
       rw [hbad hg]
       simp only [decide_eq_true h2]
       simp only [Bool.not_true,Bool.false_eq_true,if_false,c3,if_true]
       exact Ev.now _
   · have hg:zcc (bL l)=false:=by cases hq:zcc (bL l) with | false=>rfl | true=>exact absurd (hgi.1 hq).2.1 h2
     rw [hbad hg]
     simp only [decide_eq_false h2]
     simp only [Bool.not_false,if_true]
     exact Ev.now _
 · have hg:zcc (bL l)=false:=by cases hq:zcc (bL l) with | false=>rfl | true=>exact absurd (hgi.1 hq).1 h1
   have c1:iGt (l.length:Int) 3000=true:=decide_eq_true (by omega)
   rw [hbad hg]
   simp only [hsz,c1,if_true]
   exact Ev.now _
theorem zrZ (st:Dk->BA->Dk×BA) (l:List UInt8):((svOf st).r (bL l)).length<=3000:=by
 unfold svOf
 cases hg:zcc (bL l) with
 | false=>simp [hg]
 | true =>
  simp only [hg,cond_true]
  rw [scRun_length,zg4 hg,List.length_map,List.length_dropLast]
  have:=(zeZ l).1 hg
  have:=za8 10 l
  omega
def zti [Inhabited Sv]:Prop:=∃ st:Dk->BA->Dk×BA,sv=svOf st /\ ∀ (D:List Wk) (n:Int) (l:List UInt8),dOk D n=true->l.length<=100000 ->
 dOk (st (D,n) (bL l)).1.1 (st (D,n) (bL l)).1.2=true/\Ev (fun k=>qewz.f k D n (bL l)) (st (D,n) (bL l))/\Ev (fun k=>qgzz.f k D n (bL l)) (st (D,n) (bL l))
theorem zms (h:zti) (l:List UInt8) (hl:l.length<=1048576):sv.ok (bL l)=true/\(sv.r (bL l)).length<=3000/\(sv.b (bL l)=false->sv.r (bL l)=[])/\Ev (fun k=>qhqz.f k (bL l)) ((sv.D (bL l),sv.n (bL l)),(sv.r (bL l),sv.b (bL l))):=by
 obtain ⟨st,e,hst⟩:=h
 rw [e]
 refine ⟨rfl,zrZ st l,fun hb=>?_,zrY (fun D n l hD hl=>⟨(hst D n l hD hl).1,(hst D n l hD hl).2.2⟩) (by omega)⟩
 have hb':zcc (bL l)=false:=hb
 unfold svOf
 simp only [hb',cond_false]
def zdi:Nat->List BA->List Int
 | _,[]=>[]
 | i,x::xs=>(if seq x noB=true \/ seq x zfM=true then [((i+1:Nat):Int)] else [])++zdi (i+1) xs
theorem zmt:∀ (xs:List BA) (i:Nat),(zdi i xs).length<=xs.length
 | [],_=>Nat.le_refl _
 | x::xs,i=>by
  have:=zmt xs (i+1)
  unfold zdi
  split <;> simp only [List.length_append,List.length_cons,List.length_nil] <;> omega
theorem zny {F:Fu->List BA->Int->Int->List Int->Option (List Int×Bool)} {b:Bool}
    (v:∀ {x0:List BA} {x1 x2:Int} {x3:List Int} {r:List Int×Bool},Ev (fun k=>if (iLt x2 x1) then ix x2 x0 <| if (seq (rd (bs []) x0 x2) (bs [110,111])) then gd (((lnN x3)+1)<=17592186044416) <| F k x0 x1 (W (x2+1)) (x3++[(W (x2+1))]) else if (seq (rd (bs []) x0 x2) (bs [119,104,97,116])) then gd (((lnN x3)+1)<=17592186044416) <| F k x0 x1 (W (x2+1)) (x3++[(W (x2+1))]) else F k x0 x1 (W (x2+1)) x3 else some (x3,b)) r->Ev (fun k=>F k x0 x1 x2 x3) r)
    (xs:List BA) (hl:xs.length<=2000000):∀ (m i:Nat) (acc:List Int),i+m=xs.length->acc.length<=i->Ev (fun k=>F k xs (xs.length:Int) (i:Int) acc) (acc++zdi i (xs.drop i),b):=by
 intro m
 induction m with
 | zero =>
  intro i acc hi ha
  rw [show i=xs.length by omega,List.drop_length]
  refine v ?_
  simp (disch:=omega) only [S]
  simp only [zdi,List.append_nil]
  exact Ev.now _
 | succ m ih =>
  intro i acc hi ha
  have e:xs.drop i=xs.getD i (bs [])::xs.drop (i+1):=zav (bs []) (by omega)
  have w1:W ((i:Int)+1)=((i+1:Nat):Int):=by rw [w64 (by omega) (by omega)]; omega
  have h1:=ih (i+1) (acc++[((i+1:Nat):Int)]) (by omega) (by simp; omega)
  have h2:=ih (i+1) acc (by omega) (by omega)
  rw [List.append_assoc] at h1
  rw [e]
  unfold zdi
  refine v ?_
  simp only [w1]
  simp (disch:=omega) only [S]
  by_cases c1:seq (xs.getD i (bs [])) (bs [110,111])=true
  · have c:seq (xs.getD i (bs [])) noB=true \/ seq (xs.getD i (bs [])) zfM=true:=.inl c1
    simp only [c1,if_true,if_pos c]
    exact h1
  · by_cases c2:seq (xs.getD i (bs [])) (bs [119,104,97,116])=true
    · have c:seq (xs.getD i (bs [])) noB=true \/ seq (xs.getD i (bs [])) zfM=true:=.inr c2
      simp only [c1,c2,if_true,if_pos c,if_false]
      exact h1
    · have c:¬ (seq (xs.getD i (bs [])) noB=true \/ seq (xs.getD i (bs [])) zfM=true):=fun h=>h.elim c1 c2
      simp only [c1,c2,if_false,if_neg c,List.nil_append]
      exact h2
theorem zmu {st:Dk->BA->Dk×BA}:∀ (a b:List BA) (d:Dk),zaM st d (a++b)=((zaM st (zaM st d a).1 b).1,(zaM st d a).2++(zaM st (zaM st d a).1 b).2)
 | [],_,_=>rfl
 | x::a,b,d=>by simp only [List.cons_append,zaM,zmu a]
theorem zg5 (i:Nat) (x:BA) (xs:List BA):zdi i (x::xs)=(if seq x noB=true \/ seq x zfM=true then [((i+1:Nat):Int)] else [])++zdi (i+1) xs:=rfl
theorem zq1:∀ (a b:List BA) (i:Nat),zdi i (a++b)=zdi i a++zdi (i+a.length) b
 | [],_,_=>rfl
 | x::a,b,i=>by
  simp only [List.cons_append,zdi,zq1 a,List.append_assoc,List.length_cons]
  rw [show i+1+a.length=i+(a.length+1) by omega]
theorem zkq:∀ (n:Nat) (l:List UInt8),l.length<=n->(l=[] \/ Lib.hasSuffix l [10]=true)->l=((zac 10 l).dropLast.map (· ++ [10])).flatten /\ ∀ x∈(zac 10 l).dropLast,(10:UInt8) ∉ x
 | n,l,h,hs=>by
  by_cases hz:l=[]
  · subst hz; simp [zac]
  · obtain ⟨a,r,hl,ha,hr⟩:=zmr hs hz
    cases n with
    | zero=>rw [hl] at h; simp at h
    | succ n =>
     obtain ⟨h1,h2⟩:=zkq n r (by rw [hl] at h; simp at h; omega) hr
     rw [hl,zcZ 10 r a ha,List.dropLast_cons_of_ne_nil (zaU 10 r),List.map_cons,List.flatten_cons,<- h1]
     exact ⟨by simp,fun x hx=>by rcases List.mem_cons.1 hx with rfl | hx; exact ha; exact h2 x hx⟩
theorem zkr:∀ (n:Nat) (u v:List UInt8),u.length<=n->(u=[] \/ Lib.hasSuffix u [10]=true)->(zac 10 (u++v)).dropLast=(zac 10 u).dropLast++(zac 10 v).dropLast
 | n,u,v,h,hs=>by
  by_cases hz:u=[]
  · subst hz; simp [zac]
  · obtain ⟨a,r,hl,ha,hr⟩:=zmr hs hz
    cases n with
    | zero=>rw [hl] at h; simp at h
    | succ n =>
     have ih:=zkr n r v (by rw [hl] at h; simp at h; omega) hr
     rw [hl,List.append_assoc,List.cons_append,zcZ 10 (r++v) a ha,zcZ 10 r a ha,List.dropLast_cons_of_ne_nil (zaU 10 r),List.dropLast_cons_of_ne_nil (zaU 10 (r++v)),ih]
     rfl
theorem znz {st:Dk->BA->Dk×BA} {D:List Wk} {n:Int} {x:List UInt8} (hD:dOk D n=true) (hx:x.length<=3000) (h10:(10:UInt8) ∉ x) (h1:dOk (st (D,n) (bL x)).1.1 (st (D,n) (bL x)).1.2=true) (h2:Ev (fun k=>qewz.f k D n (bL x)) (st (D,n) (bL x))) :
    Ev (fun k=>qfdz.f k D n (bL x)) ((st (D,n) (bL x)).1,((st (D,n) (bL x)).2,true)):=by
 have hI:=zfb D n
 rw [hD] at hI
 have hC:=znx x 10
 have hC':qctz.f (bL x) (bs [10])=some (decide (1 < (zac 10 x).length)):=hC
 rw [zgi 10 x h10] at hC'
 have h8:=(zan.1 (zat.1 h1).1).1
 have e:(decide (1 < [x].length))=false:=rfl
 rw [e] at hC'
 refine qfdz.v (Ev.bind hI ?_)
 simp (disch:=omega) only [S,zal,hC']
 refine Ev.bind h2 ?_
 unfold qbfz.f
 simp (disch:=omega) only [S]
 exact Ev.now _
theorem znA {l:List BA} (h:l.length<=2000000):Ev (fun k=>qhfz.f k l l) true:=by
 have key:∀ (d i:Nat),i+d=l.length->Ev (fun k=>qhfz.l0 k l l (l.length:Int) (i:Int)) true:=by
  intro d
  induction d with
  | zero =>
   intro i hi
   rw [show i=l.length by omega]
   refine qhfz.v0 ?_
   simp (disch:=omega) only [S]
   exact Ev.now _
  | succ d ih =>
   intro i hi
   have h:=ih (i+1) (by omega)
   refine qhfz.v0 ?_
   simp (disch:=omega) only [S,zkV]
   exact h
 refine qhfz.v ?_
 simp (disch:=omega) only [S]
 exact key l.length 0 (by omega)
theorem zlc {l:List Wk} (h:l.length<=2000000):Ev (fun k=>qevz.f k l l) true:=by
 have key:∀ (d i:Nat),i+d=l.length->Ev (fun k=>qevz.l0 k l l (l.length:Int) (i:Int)) true:=by
  intro d
  induction d with
  | zero =>
   intro i hi
   rw [show i=l.length by omega]
   refine qevz.v0 ?_
   simp (disch:=omega) only [S]
   exact Ev.now _
  | succ d ih =>
   intro i hi
   have h:=ih (i+1) (by omega)
   have e:∀ p:Wk,(p.1 == p.1 && p.2 == p.2)=true:=fun p=>by simp
   refine qevz.v0 ?_
   simp (disch:=omega) only [S,e]
   exact h
 refine qevz.v ?_
 simp (disch:=omega) only [S]
 exact key l.length 0 (by omega)
theorem zpj {l:List Wk} (h:l.length<=2000000) (n:Int):Ev (fun k=>qhgz.f k l n l n) true:=by
 refine qhgz.v ?_
 simp (disch:=omega) only [S]
 exact Ev.bind (zlc h) (Ev.now _)
theorem zmv {l t:List UInt8} {a:UInt8} {i:Nat} (h:l.drop i=a::t):i < l.length/\l.getD i 0=a/\l.drop (i+1)=t:=by
 have hi:i < l.length:=by
  rcases Nat.lt_or_ge i l.length with h' | h'
  · exact h'
  · rw [List.drop_eq_nil_of_le h'] at h; cases h
 rw [zav 0 hi] at h
 exact ⟨hi,(List.cons.inj h).1,(List.cons.inj h).2⟩
theorem ne10 {a:UInt8} (h:a ≠ 10):((a.toNat:Int) != 10)=true:=by
 rw [bne_iff_ne]
 intro e
 exact h (UInt8.toNat_inj.1 (by have:a.toNat=10:=by omega
                                rw [this]; rfl))
theorem zpk {F:Fu->BA->Int->Int->Int->List Wk->Int->Option Bool} {s:List UInt8} {reps:List BA} {fl:List Int} {LD:List Wk} {LN:Int}
    (v:∀ {x2:BA} {x3 x4 x5:Int} {x9:List Wk} {x10:Int} {r:Bool},Ev (fun k=>if (iLt x5 (sln (bL s))) then gd (0<=x5) <| gd (x5 < (sln (bL s))) <| if ((bat (bL s) x5) != 10) then gd (0<=x5) <| gd (x5<=(W (x5+1))) <| gd ((W (x5+1))<=(sln (bL s))) <| gd (((ByteArray.size x2)+(ByteArray.size (ByteArray.extract (bL s) (Int.toNat x5) (Int.toNat (W (x5+1))))))<=maxLen) <| F k (x2++(ByteArray.extract (bL s) (Int.toNat x5) (Int.toNat (W (x5+1))))) x3 x4 (W (x5+1)) x9 x10 else (qfdz.f k x9 x10 x2).bind fun t0 =>
     if (!t0.2.2) then some false else if (iGe x3 (ln reps)) then some false else ix x3 reps <| if (!(seq (rd (bs []) reps x3) t0.2.1)) then some false else if (seq t0.2.1 (bs [110,111])) then if (iGe x4 (ln fl)) then some false else ix x4 fl <| if ((rd 0 fl x4) != (W (x3+1))) then some false else F k (bs []) (W (x3+1)) (W (x4+1)) (W (x5+1)) t0.1.1 t0.1.2 else if (seq t0.2.1 (bs [119,104,97,116])) then if (iGe x4 (ln fl)) then some false else ix x4 fl <| if ((rd 0 fl x4) != (W (x3+1))) then some false else F k (bs []) (W (x3+1)) (W (x4+1)) (W (x5+1)) t0.1.1 t0.1.2 else F k (bs []) (W (x3+1)) x4 (W (x5+1)) t0.1.1 t0.1.2 else if (x3 == (ln reps)) then if (x4 == (ln fl)) then (qhgz.f k x9 x10 LD LN).bind fun t0 =>
     some t0 else some false else some false) r->Ev (fun k=>F k x2 x3 x4 x5 x9 x10) r)
    {st:Dk->BA->Dk×BA} (hst:∀ (D:List Wk) (n:Int) (l:List UInt8),dOk D n=true->l.length<=100000->dOk (st (D,n) (bL l)).1.1 (st (D,n) (bL l)).1.2=true/\Ev (fun k=>qewz.f k D n (bL l)) (st (D,n) (bL l))/\Ev (fun k=>qgzz.f k D n (bL l)) (st (D,n) (bL l)))
    (hs:s.length<=3000) (hr:reps.length<=3000) (hf:fl.length<=3000) :
    ∀ (zs:List (List UInt8)) (i:Nat) (ra:List BA) (fa:List Int) (d:Dk),i+((zs.map (· ++ [10])).flatten).length=s.length->s.drop i=(zs.map (· ++ [10])).flatten->(∀ z∈zs,(10:UInt8) ∉ z)->dOk d.1 d.2=true ->
     reps=ra++(zaM st d (zs.map bL)).2->fl=fa++zdi ra.length (zaM st d (zs.map bL)).2->(LD,LN)=(zaM st d (zs.map bL)).1->Ev (fun k=>F k (bs []) (ra.length:Int) (fa.length:Int) (i:Int) d.1 d.2) true:=by
 have hsz:sln (bL s)=(s.length:Int):=by simp only [sln,zal]
 have step1:∀ (q p:List UInt8) (i:Nat) (t:List UInt8) (c b:Int) (D:List Wk) (n:Int),(10:UInt8) ∉ q->s.drop i=q++10::t->p.length+q.length<=3000->Ev (fun k=>F k (bL (p++q)) c b ((i+q.length:Nat):Int) D n) true->Ev (fun k=>F k (bL p) c b (i:Int) D n) true:=by
  intro q
  induction q with
  | nil =>
   intro p i t c b D n _ _ _ h
   rw [List.append_nil] at h
   exact h
  | cons a q ih =>
   intro p i t c b D n hq hd hl h
   obtain ⟨hi,ha,hd'⟩:=zmv hd
   have ha10:a ≠ 10:=fun e=>hq (e ▸ List.mem_cons_self)
   have h':=ih (p++[a]) (i+1) t c b D n (fun hm=>hq (List.mem_cons_of_mem _ hm)) hd' (by simp at hl ⊢; omega) (by
    rw [List.append_assoc,List.singleton_append,show i+1+q.length=i+(a::q).length by simp; omega]
    exact h)
   have w1:W ((i:Int)+1)=((i+1:Nat):Int):=by rw [w64 (by omega) (by omega)]; omega
   have ex:ByteArray.extract (bL s) i (i+1)=bL [a]:=by
    rw [zb0,List.take_succ_eq_append_getElem hi,List.drop_append_of_le_length (by simp; omega)]
    have e1:(s.take i).drop i=[]:=List.drop_eq_nil_of_le (by simp; omega)
    have e2:s[i]=a:=by rw [<- ha,List.getD_eq_getElem?_getD,List.getElem?_eq_getElem hi]; rfl
    rw [e1,e2]; rfl
   have hb:=zht (l:=s) hi
   rw [ha] at hb
   refine v ?_
   simp only [hsz,w1,zi0,ex,hb,ne10 ha10,zal,zdu]
   simp only [List.length_cons] at hl
   have hm:p.length + [a].length<=maxLen:=by simp only [maxLen,List.length_cons,List.length_nil]; omega
   simp (disch:=omega) only [S,hm]
   exact h'
 intro zs
 induction zs with
 | nil =>
  intro i ra fa d hi hd hz hD hrr hff hl
  simp only [List.map_nil,List.flatten_nil,List.length_nil,Nat.add_zero] at hi
  simp only [List.map_nil,zaM,zdi,List.append_nil] at hrr hff hl
  obtain ⟨rfl,rfl⟩ : LD=d.1/\LN=d.2:=by rw [<- hl]; exact ⟨rfl,rfl⟩
  have h8:=(zan.1 (zat.1 hD).1).1
  have hy:=zpj (l:=d.1) (by omega) d.2
  refine v ?_
  have hc:iLt (i:Int) (s.length:Int)=false:=decide_eq_false (by omega)
  have e1:((ra.length:Int) == ln reps)=true:=by rw [hrr]; exact beq_self_eq_true _
  have e2:((fa.length:Int) == ln fl)=true:=by rw [hff]; exact beq_self_eq_true _
  simp only [hsz,hc,Bool.false_eq_true,if_false,e1,e2,if_true]
  exact Ev.bind hy (Ev.now _)
 | cons z zs ih =>
  intro i ra fa d hi hd hz hD hrr hff hl
  have h10:=hz z List.mem_cons_self
  simp only [List.map_cons,List.flatten_cons,List.length_append,List.length_cons,List.length_nil] at hi
  rw [List.map_cons,List.flatten_cons,List.append_assoc,List.singleton_append] at hd
  refine step1 z [] i _ _ _ _ _ h10 hd (by simp; omega) ?_
  rw [List.nil_append]
  have hd2:s.drop (i+z.length)=10::(zs.map (· ++ [10])).flatten:=by
   rw [<- List.drop_drop,hd,List.drop_left]
  obtain ⟨hi2,ha,hd3⟩:=zmv hd2
  obtain ⟨D,n⟩:=d
  obtain ⟨k1,k2,_⟩:=hst D n z hD (by omega)
  have hL:=znz hD (by omega) h10 k1 k2
  simp only [List.map_cons,zaM] at hrr hff hl
  generalize st (D,n) (bL z)=r at *
  obtain ⟨⟨D',n'⟩,y⟩:=r
  have w3:W ((ra.length:Int)+1)=(((ra++[y]).length:Nat):Int):=by
   have:ra.length<=reps.length:=by rw [hrr]; simp
   rw [w64 (by omega) (by omega)]; simp
  have w5:W (((i+z.length:Nat):Int)+1)=((i+z.length+1:Nat):Int):=by rw [w64 (by omega) (by omega)]; omega
  have hb:=zht (l:=s) hi2
  rw [ha] at hb
  have e10:((((10:UInt8).toNat:Nat):Int) != 10)=false:=by decide
  have hrl:ra.length < reps.length:=by rw [hrr]; simp
  have hrg:iGe (ra.length:Int) (ln reps)=false:=decide_eq_false (by simp only [ln]; omega)
  have hrd:rd (bs []) reps (ra.length:Int)=y:=by
   rw [zkd,hrr,List.getD_eq_getElem?_getD,List.getElem?_append_right (Nat.le_refl _),Nat.sub_self]; rfl
  have hix:∀ {β:Type} {x:Option β},ix (ra.length:Int) reps x=x:=fun {β x}=>by simp (disch:=omega) only [S]
  have hgo:=ih (i+z.length+1) (ra++[y]) (fa++if seq y noB=true \/ seq y zfM=true then [((ra.length+1:Nat):Int)] else []) (D',n') (by omega) hd3 (fun w hw=>hz w (List.mem_cons_of_mem _ hw)) k1
   (by rw [hrr]; simp) (by rw [hff,zg5,List.append_assoc,List.length_append]; rfl) hl
  refine v ?_
  have hc:iLt ((i+z.length:Nat):Int) (s.length:Int)=true:=decide_eq_true (by omega)
  have hg1:∀ {β:Type} {x:Option β},gd (0<=((i+z.length:Nat):Int)) (gd (((i+z.length:Nat):Int) < (s.length:Int)) x)=x:=fun {β x}=>by simp (disch:=omega) only [S]
  simp only [hsz,hc,if_true,hg1,hb,e10,Bool.false_eq_true,if_false]
  refine Ev.bind hL ?_
  simp only [Bool.not_true,Bool.false_eq_true,if_false,hrg,hix,hrd,zkV,w3,w5]
  by_cases c1:seq y (bs [110,111])=true
  · have c:seq y noB=true \/ seq y zfM=true:=.inl c1
    rw [if_pos c] at hgo
    have hff':fl=fa++((ra.length+1:Nat):Int)::zdi (ra.length+1) (zaM st (D',n') (zs.map bL)).2:=by rw [hff,zg5,if_pos c]; rfl
    have hfl:fa.length < fl.length:=by rw [hff']; simp
    have hfg:iGe (fa.length:Int) (ln fl)=false:=decide_eq_false (by simp only [ln]; omega)
    have hfd:rd 0 fl (fa.length:Int)=((ra.length+1:Nat):Int):=by
     rw [zkd,hff',List.getD_eq_getElem?_getD,List.getElem?_append_right (Nat.le_refl _),Nat.sub_self]; rfl
    have hfx:∀ {β:Type} {x:Option β},ix (fa.length:Int) fl x=x:=fun {β x}=>by simp (disch:=omega) only [S]
    have w4:W ((fa.length:Int)+1)=(((fa++[((ra.length+1:Nat):Int)]).length:Nat):Int):=by rw [w64 (by omega) (by omega)]; simp
    have e5:(((ra.length+1:Nat):Int) != (((ra++[y]).length:Nat):Int))=false:=by simp
    simp only [c1,if_true,hfg,Bool.false_eq_true,if_false,hfx,hfd,e5,w4]
    exact hgo
  · by_cases c2:seq y (bs [119,104,97,116])=true
    · have c:seq y noB=true \/ seq y zfM=true:=.inr c2
      rw [if_pos c] at hgo
      have hff':fl=fa++((ra.length+1:Nat):Int)::zdi (ra.length+1) (zaM st (D',n') (zs.map bL)).2:=by rw [hff,zg5,if_pos c]; rfl
      have hfl:fa.length < fl.length:=by rw [hff']; simp
      have hfg:iGe (fa.length:Int) (ln fl)=false:=decide_eq_false (by simp only [ln]; omega)
      have hfd:rd 0 fl (fa.length:Int)=((ra.length+1:Nat):Int):=by
       rw [zkd,hff',List.getD_eq_getElem?_getD,List.getElem?_append_right (Nat.le_refl _),Nat.sub_self]; rfl
      have hfx:∀ {β:Type} {x:Option β},ix (fa.length:Int) fl x=x:=fun {β x}=>by simp (disch:=omega) only [S]
      have w4:W ((fa.length:Int)+1)=(((fa++[((ra.length+1:Nat):Int)]).length:Nat):Int):=by rw [w64 (by omega) (by omega)]; simp
      have e5:(((ra.length+1:Nat):Int) != (((ra++[y]).length:Nat):Int))=false:=by simp
      simp only [c1,c2,if_true,hfg,Bool.false_eq_true,if_false,hfx,hfd,e5,w4]
      exact hgo
    · have c:¬ (seq y noB=true \/ seq y zfM=true):=fun h=>h.elim c1 c2
      rw [if_neg c,List.append_nil] at hgo
      simp only [c1,c2,Bool.false_eq_true,if_false]
      exact hgo
theorem zq2 {st:Dk->BA->Dk×BA} (e:(sv:Sv)=svOf st) {l:List UInt8} (hg:zcc (bL l)=true):sv.r (bL l)=(zaM st d00 (((zac 10 l).dropLast).map bL)).2/\(sv.D (bL l),sv.n (bL l))=(zaM st d00 (((zac 10 l).dropLast).map bL)).1/\sv.b (bL l)=true:=by
 rw [e]
 unfold svOf
 simp only [hg,zg4 hg,cond_true]
 simp
theorem zq3 {l:List UInt8} (hg:zcc (bL l)=true) {m:Nat} (hm:m<=l.length) (h0:m=0 \/ l.getD (m-1) 0=10):zcc (bL (l.take m))=true /\ ∃ vs,(zac 10 l).dropLast=(zac 10 (l.take m)).dropLast++vs:=by
 obtain ⟨g1,g2,g3⟩:=(zeZ l).1 hg
 have hs:l.take m=[] \/ Lib.hasSuffix (l.take m) [10]=true:=by
  rcases h0 with rfl | h0
  · exact .inl rfl
  · cases m with
    | zero=>exact .inl rfl
    | succ k =>
     rw [Nat.add_sub_cancel] at h0
     refine .inr (zbL.2 ⟨l.take k,?_⟩)
     rw [zbk 0 (by omega),h0]
 have h2:=zkr (l.take m).length (l.take m) (l.drop m) (Nat.le_refl _) hs
 rw [List.take_append_drop] at h2
 refine ⟨(zeZ _).2 ⟨by rw [List.length_take]; omega,(zd0 10 _).2 hs,?_⟩,_,h2⟩
 have h3:=congrArg List.length h2
 rw [List.length_append,List.length_dropLast,List.length_dropLast] at h3
 omega
section
variable {l:List UInt8} (h1:sv.ok (bL l)=true)
include h1
theorem zfN:qeiz.f (bL l)=some ((sv.D (bL l),sv.n (bL l)),(sv.r (bL l),sv.b (bL l))):=by
 unfold qeiz.f zkf
 rw [h1]; rfl
theorem zjx:qebz.f (bL l)=some (sv.r (bL l),sv.b (bL l)):=by
 unfold qebz.f
 rw [zfN h1]; rfl
theorem znB:qedz.f (bL l)=some (if sv.b (bL l)=true then ((sv.D (bL l),sv.n (bL l)),true) else (([],0),false)):=by
 unfold qedz.f
 rw [zfN h1]
 cases sv.b (bL l) <;> rfl
theorem zld (h2:(sv.r (bL l)).length<=3000) (h3:sv.b (bL l)=false->sv.r (bL l)=[]):Ev (fun k=>qcrz.f k (bL l)) (zdi 0 (sv.r (bL l)),sv.b (bL l)):=by
 refine qcrz.v ?_
 simp only [zfN h1,Option.bind_some]
 cases hb:sv.b (bL l) with
 | false =>
  simp only [Bool.not_false,if_true,h3 hb,zdi]
  exact Ev.now _
 | true =>
  simp only [Bool.not_true,Bool.false_eq_true,if_false]
  simp (disch:=omega) only [S]
  exact zny (F:=fun k=>qcrz.l0 k) (b:=true) (fun h=>qcrz.v0 h) (sv.r (bL l)) (by omega) (sv.r (bL l)).length 0 [] (by omega) (by simp)
end
theorem FnTopOfAll (hV:zti) (s:BA) (c:Int):∃ K,qdiz.f (fun _=>K) s c=some true:=by
 refine Ev.rounds (g:=fun k=>qdiz.f k s c) (qdiz.v ?_)
 obtain ⟨st,e,hst⟩:=id hV
 obtain ⟨l,rfl⟩ : ∃ l,s=bL l:=⟨_,(zqm s).symm⟩
 have hsz:sln (bL l)=(l.length:Int):=by simp only [sln,zal]
 by_cases hs:1048576 < l.length
 · have c1:iGt (l.length:Int) 1048576=true:=decide_eq_true (by omega)
   simp only [hsz,c1,if_true]
   exact Ev.now _
 have c1:iGt (l.length:Int) 1048576=false:=decide_eq_false (by omega)
 obtain ⟨h1,h2,h3,h4⟩:=zms hV l (by omega)
 have hR:=zjx h1
 have hA:=znB h1
 have hF:=zld h1 h2 h3
 have hS:Ev (fun k=>qdxz.f k (bL l)) (sv.r (bL l),sv.b (bL l)):=qdxz.v (Ev.bind h4 (Ev.now _))
 have hT:=znA (l:=sv.r (bL l)) (by omega)
 have b1:(!true)=false:=rfl
 have b2:(sv.b (bL l) == sv.b (bL l))=true:=beq_self_eq_true _
 have ff:¬ (false=true):=by decide
 simp only [hsz,c1,if_neg ff,hR,hA,Option.bind_some]
 refine Ev.bind hS (Ev.bind hF ?_)
 simp only [b1,b2,if_neg ff]
 refine Ev.bind hT ?_
 simp only [b1,if_neg ff]
 cases hb:sv.b (bL l) with
 | false =>
  simp only [if_neg ff,beq_self_eq_true,b1,Bool.not_false,if_true]
  exact Ev.now _
 | true =>
  have hg:zcc (bL l)=true:=by rw [e] at hb; exact hb
  obtain ⟨g1,g2,g3⟩:=(zeZ l).1 hg
  obtain ⟨hr,hDn,_⟩:=zq2 e hg
  obtain ⟨f1,f2⟩:=zkq l.length l (Nat.le_refl _) ((zd0 10 l).1 g2)
  have hlf:=zmt (sv.r (bL l)) 0
  have hFD:qepz.f=some d00:=rfl
  have hloop:Ev (fun k=>qdiz.l1 k (bL l) (sv.r (bL l)) (bs []) 0 0 0 (sv.D (bL l)) (sv.n (bL l)) (zdi 0 (sv.r (bL l))) d00.1 d00.2) true :=
   zpk (F:=fun k x2 x3 x4 x5 x9 x10=>qdiz.l1 k (bL l) (sv.r (bL l)) x2 x3 x4 x5 (sv.D (bL l)) (sv.n (bL l)) (zdi 0 (sv.r (bL l))) x9 x10) (fun h=>qdiz.v1 h) hst g1 h2 (by omega) (zac 10 l).dropLast 0 [] [] d00
    (by rw [<- f1]; omega) (by rw [<- f1]; rfl) f2 rfl (by rw [hr]; rfl) (by rw [hr]; rfl) hDn
  generalize sv.D (bL l)=D at *
  generalize sv.n (bL l)=n at *
  generalize hrr:sv.r (bL l)=R at *
  have hpart:∀ m:Nat,m<=l.length->(m=0 \/ l.getD (m-1) 0=10)->∃ pr tl,qebz.f (bL (l.take m))=some (pr,true)/\R=pr++tl:=by
   intro m hm h0
   obtain ⟨q1,vs,q2⟩:=zq3 hg hm h0
   have hk:=(zms hV (l.take m) (by rw [List.length_take]; omega)).1
   obtain ⟨q3,_,q4⟩:=zq2 e q1
   refine ⟨sv.r (bL (l.take m)),(zaM st (zaM st d00 (((zac 10 (l.take m)).dropLast).map bL)).1 (vs.map bL)).2,(zjx hk).trans (by rw [q4]),?_⟩
   rw [hr,q3,q2,List.map_append,zmu]
  have hcmp:∀ pr tl:List BA,R=pr++tl->Ev (fun k=>qdiz.l0 k (bL l) R pr 0 D n (zdi 0 R)) true:=by
   intro pr tl hp
   have hpl:pr.length<=R.length:=by rw [hp]; simp
   have key:∀ (d i:Nat),i+d=pr.length->Ev (fun k=>qdiz.l0 k (bL l) R pr (i:Int) D n (zdi 0 R)) true:=by
    intro d
    induction d with
    | zero =>
     intro i hi
     rw [show i=pr.length by omega]
     refine qdiz.v0 ?_
     simp (disch:=omega) only [S,hFD]
     exact hloop
    | succ d ih =>
     intro i hi
     have h:=ih (i+1) (by omega)
     have eq:R.getD i (bs [])=pr.getD i (bs []):=by
      rw [hp,List.getD_eq_getElem?_getD,List.getD_eq_getElem?_getD,List.getElem?_append_left (by omega)]
     refine qdiz.v0 ?_
     simp (disch:=omega) only [S,eq,zkV]
     exact h
   exact key pr.length 0 (by omega)
  have hgo:∀ m:Nat,m<=l.length->(m=0 \/ l.getD (m-1) 0=10)->Ev (fun k=>(qebz.f (ByteArray.extract (bL l) 0 (Int.toNat (m:Int)))).bind fun t5=>if (!t5.2)=true then some false else if iGt (ln t5.1) (ln R)=true then some false else qdiz.l0 k (bL l) R t5.1 0 D n (zdi 0 R)) true:=by
   intro m hm h0
   obtain ⟨pr,tl,p1,p2⟩:=hpart m hm h0
   have ex:ByteArray.extract (bL l) 0 (Int.toNat (m:Int))=bL (l.take m):=by rw [zi0,zb0,List.drop_zero]
   have hpl:pr.length<=R.length:=by rw [p2]; simp
   have hc:iGt (ln pr) (ln R)=false:=decide_eq_false (by simp only [ln]; omega)
   simp only [ex,p1,Option.bind_some,b1,if_neg ff,hc]
   exact hcmp pr tl p2
  simp only [if_true,beq_self_eq_true,b1,if_neg ff]
  by_cases d1:0<=c
  · obtain ⟨m,rfl⟩ : ∃ m:Nat,c=(m:Int):=⟨c.toNat,by omega⟩
    have e1:iGe (m:Int) 0=true:=decide_eq_true (by omega)
    by_cases d2:m<=l.length
    · have e2:iLe (m:Int) (l.length:Int)=true:=decide_eq_true (by omega)
      by_cases d3:m=0
      · have e3:((m:Int) == 0)=true:=by rw [d3]; rfl
        have hgd:∀ {β:Type} {x:Option β},gd (0<=(m:Int)) (gd ((m:Int)<=(l.length:Int)) x)=x:=fun {β x}=>by simp (disch:=omega) only [S]
        simp only [e1,e2,e3,if_true,hgd]
        exact hgo m d2 (.inl d3)
      · have e3:((m:Int) == 0)=false:=beq_eq_false_iff_ne.2 (by omega)
        have w1:W ((m:Int)-1)=((m-1:Nat):Int):=by rw [w64 (by omega) (by omega)]; omega
        have hgd:∀ {β:Type} {x:Option β},gd (0<=(m:Int)) (gd ((m:Int)<=(l.length:Int)) x)=x:=fun {β x}=>by simp (disch:=omega) only [S]
        have hgd2:∀ {β:Type} {x:Option β},gd (0<=((m-1:Nat):Int)) (gd (((m-1:Nat):Int) < (l.length:Int)) x)=x:=fun {β x}=>by simp (disch:=omega) only [S]
        have hbt:=zht (l:=l) (i:=m-1) (by omega)
        simp only [e1,e2,e3,if_true,if_neg ff,w1,hgd,hgd2,hbt]
        by_cases d4:l.getD (m-1) 0=10
        · have e4:((((l.getD (m-1) 0).toNat:Nat):Int) == 10)=true:=by rw [d4]; rfl
          simp only [e4,if_true]
          exact hgo m d2 (.inr d4)
        · have e4:((((l.getD (m-1) 0).toNat:Nat):Int) == 10)=false:=by
           have:=ne10 d4
           rw [bne,Bool.not_eq_true'] at this
           exact this
          simp only [e4,if_neg ff,hFD,Option.bind_some]
          exact hloop
    · have e2:iLe (m:Int) (l.length:Int)=false:=decide_eq_false (by omega)
      simp only [e1,e2,if_true,if_neg ff,hFD,Option.bind_some]
      exact hloop
  · have e1:iGe c 0=false:=decide_eq_false (by omega)
    simp only [e1,if_neg ff,hFD,Option.bind_some]
    exact hloop
end Go.Proofs.YtdhkgmhdengnkaaGreatDoor.Ta
