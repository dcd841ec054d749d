/- The plain law (part 2 of 2). -/
import Derived.Test.YtdhkgmhdengnkaaGreatDoorDsQa
namespace Go.Proofs.YtdhkgmhdengnkaaGreatDoor.Ds
open Go Go.Proofs.YtdhkgmhdengnkaaGreatDoorPi Go.RowKit
set_option linter.unusedVariables false
set_option linter.unusedSectionVars false
set_option linter.unusedSimpArgs false
set_option maxHeartbeats 1000000
variable [Inhabited Sv]
theorem zls:∀ {a b:List Int},a.Pairwise (· < ·)->b.Pairwise (· < ·)->(∀ x,x∈a ↔ x∈b)->a=b:=by
 intro a
 induction a with
 | nil =>
  intro b _ _ h
  cases b with
  | nil=>rfl
  | cons y b=>exact absurd ((h y).2 (by simp)) (by simp)
 | cons x a ih =>
  intro b ha hb h
  cases b with
  | nil=>exact absurd ((h x).1 (by simp)) (by simp)
  | cons y b =>
   obtain ⟨a1,a2⟩:=List.pairwise_cons.1 ha
   obtain ⟨b1,b2⟩:=List.pairwise_cons.1 hb
   have hxy:x=y:=by
    rcases List.mem_cons.1 ((h x).1 (by simp)) with e | e
    · exact e
    · rcases List.mem_cons.1 ((h y).2 (by simp)) with e' | e'
      · exact e'.symm
      · have:=b1 x e
        have:=a1 y e'
        omega
   subst hxy
   rw [ih a2 b2 fun z=>⟨fun hz=>by
    rcases List.mem_cons.1 ((h z).1 (List.mem_cons_of_mem _ hz)) with e | e
    · have:=a1 z hz; omega
    · exact e,fun hz=>by
    rcases List.mem_cons.1 ((h z).2 (List.mem_cons_of_mem _ hz)) with e | e
    · have:=b1 z hz; omega
    · exact e⟩]
theorem zeY:∀ (l:List Int) (x:Int),x∈zau l ↔ x∈l
 | [],x=>by unfold zau; exact Iff.rfl
 | [a],x=>by unfold zau; exact Iff.rfl
 | a::b::l,x=>by
  have h:=zeY (b::l) x
  unfold zau
  by_cases e:a=b
  · rw [if_pos e,h,e]; simp
  · rw [if_neg e,List.mem_cons,h,List.mem_cons (a:=x) (b:=a)]
theorem zhQ:∀ (l:List Int),l.Pairwise (· <= ·)->(zau l).Pairwise (· < ·)
 | [],_=>by unfold zau; exact List.Pairwise.nil
 | [a],_=>by unfold zau; simp
 | a::b::l,h=>by
  obtain ⟨h1,h2⟩:=List.pairwise_cons.1 h
  have ih:=zhQ (b::l) h2
  unfold zau
  by_cases e:a=b
  · rw [if_pos e]; exact ih
  · rw [if_neg e]
    refine List.pairwise_cons.2 ⟨fun y hy=>?_,ih⟩
    have hy:=(zeY _ _).1 hy
    have hab:=h1 b (by simp)
    rcases List.mem_cons.1 hy with e' | hy
    · subst e'; omega
    · have:=(List.pairwise_cons.1 h2).1 y hy
      omega
theorem zre (l:List Int) (x:Int):x∈zgI l ↔ x∈l:=(List.mergeSort_perm l _).mem_iff
theorem zrf (l:List Int):(zgI l).length=l.length:=(List.mergeSort_perm l _).length_eq
theorem zrg (l:List Int):(zgI l).Pairwise (· <= ·):=by
 have h:=List.pairwise_mergeSort (le:=fun x y:Int=>decide (x<=y)) (fun a b c h1 h2=>decide_eq_true (by have:=of_decide_eq_true h1; have:=of_decide_eq_true h2; omega)) (fun a b=>by
  rcases Int.le_total a b with h | h
  · rw [decide_eq_true h]; rfl
  · rw [decide_eq_true h,Bool.or_true]) l
 exact h.imp fun h=>of_decide_eq_true h
theorem zlt {s:List Int} (x:Int) (hl:s.length<=1000) (hs:s.Pairwise (· < ·)):∃ r:List Int,Ev (fun k=>qigz.f k s x) r/\r.Pairwise (· < ·)/\(∀ y,y∈r ↔ y∈s \/ y=x)/\r.length<=s.length+1:=by
 have srt:∀ {i j:Nat},i < j->j < s.length->s.getD i 0 < s.getD j 0:=fun {i j} hij hj=>by
  have:=List.pairwise_iff_getElem.1 hs i j (by omega) hj hij
  rw [List.getD_eq_getElem?_getD,List.getD_eq_getElem?_getD,List.getElem?_eq_getElem (show i < s.length by omega),List.getElem?_eq_getElem hj]
  exact this
 have put:∀ i,i<=s.length->(∀ j,j < i->s.getD j 0 < x)->(∀ j,i<=j->j < s.length->x < s.getD j 0)->(s.take i++[x]++s.drop i).Pairwise (· < ·)/\(∀ y,y∈s.take i++[x]++s.drop i ↔ y∈s \/ y=x)/\(s.take i++[x]++s.drop i).length<=s.length+1:=by
  intro i hi h1 h2
  have ht:=List.Pairwise.sublist (List.take_sublist i s) hs
  have hd:=List.Pairwise.sublist (List.drop_sublist i s) hs
  refine ⟨List.pairwise_append.2 ⟨List.pairwise_append.2 ⟨ht,by simp,fun a ha b hb=>?_⟩,hd,fun a ha b hb=>?_⟩,fun y=>?_,by simp; omega⟩
  · obtain ⟨j,j1,j2,rfl⟩:=zbL (z:=0) ha
    rw [List.mem_singleton.1 hb]
    exact h1 j j1
  · obtain ⟨j,j1,j2,rfl⟩:=zbw (z:=0) hb
    rcases List.mem_append.1 ha with ha | ha
    · obtain ⟨j',j1',j2',rfl⟩:=zbL (z:=0) ha
      exact srt (by omega) j2
    · rw [List.mem_singleton.1 ha]
      exact h2 j j1 j2
  · have e:y∈s ↔ y∈s.take i \/ y∈s.drop i:=by rw [<- List.mem_append,List.take_append_drop]
    simp only [List.mem_append,List.mem_singleton,e]
    constructor
    · rintro ((h | h) | h)
      · exact .inl (.inl h)
      · exact .inr h
      · exact .inl (.inr h)
    · rintro ((h | h) | h)
      · exact .inl (.inl h)
      · exact .inr h
      · exact .inl (.inr h)
 have key:∀ (d i:Nat),i+d=s.length->(∀ j,j < i->s.getD j 0 < x)->∃ r:List Int,Ev (fun k=>qigz.l0 k s x (i:Int)) r/\r.Pairwise (· < ·)/\(∀ y,y∈r ↔ y∈s \/ y=x)/\r.length<=s.length+1:=by
  intro d
  induction d with
  | zero =>
   intro i hi h
   refine ⟨_,qigz.v0 ?_,put i (by omega) h (fun j h1 h2=>by omega)⟩
   simp (disch:=omega) only [S,List.nil_append,List.length_append,List.length_cons,List.length_nil,List.length_take,List.length_drop]
   exact Ev.now _
  | succ d ih =>
   intro i hi h
   by_cases c:s.getD i 0 < x
   · obtain ⟨r,r1,r2⟩:=ih (i+1) (by omega) (fun j hj=>by
      rcases Nat.lt_or_ge j i with h' | h'
      · exact h j h'
      · rw [show j=i by omega]; exact c)
     refine ⟨r,qigz.v0 ?_,r2⟩
     simp (disch:=omega) only [S]
     exact r1
   · by_cases e:s.getD i 0=x
     · refine ⟨s,qigz.v0 ?_,hs,fun y=>⟨.inl,fun h=>h.elim id fun h=>by rw [h,<- e]; exact zag (by omega)⟩,by omega⟩
       simp (disch:=omega) only [S]
       exact Ev.now _
     · refine ⟨_,qigz.v0 ?_,put i (by omega) h (fun j h1 h2=>by
        rcases Nat.lt_or_ge i j with h' | h'
        · have:=srt h' h2; omega
        · rw [show j=i by omega]; omega)⟩
       simp (disch:=omega) only [S,List.nil_append,List.length_append,List.length_cons,List.length_nil,List.length_take,List.length_drop]
       exact Ev.now _
 obtain ⟨r,r1,r2⟩:=key s.length 0 (by omega) (fun j h=>by omega)
 exact ⟨r,qigz.v r1,r2⟩
theorem smul {a b A B:Int} (ha : -A<=a/\a<=A) (hb:0<=b/\b<=B) : -(A*B)<=a*b/\a*b<=A*B:=by
 have hA:0<=A:=by omega
 have p1:=Int.mul_le_mul_of_nonneg_right ha.1 hb.1
 have p2:=Int.mul_le_mul_of_nonneg_right ha.2 hb.1
 have p3:=Int.mul_le_mul_of_nonneg_left hb.2 hA
 rw [Int.neg_mul] at p1
 omega
theorem zjJ {n:Int} (hn:1<=n/\n<=1000) {w v:Wk} (hw:wOk w=true) (hv:wOk v=true):∃ r:List (List Int)×Bool,Ev (fun k=>qdxz.f k n w.1 w.2 v.1 v.2) r/\Ev (fun k=>qdoz.f k n w.1 w.2 v.1 v.2) r/\zfX r.1/\r.1.length<=1000/\(r.2=true->0 < r.1.length)/\(r.2=false->r.1=[]):=by
 by_cases hs:w.2=v.2
 · refine ⟨([],false),qdxz.v ?_,qdoz.v ?_,fun r hr=>by simp at hr,by simp,by simp,fun _=>rfl⟩
   · have hne:(w.2 == v.2)=true:=beq_iff_eq.2 hs
     simp only [zbC hn,zaD,S,hw,hv,hne]
     exact Ev.now _
   · have hne:(w.2 == v.2)=true:=beq_iff_eq.2 hs
     simp only [zbY hn hw hv,S,hne]
     exact Ev.now _
 · obtain ⟨b1,b2,b3⟩:=zoJ hn hw hv
   have hw':=zaU.1 hw
   obtain ⟨m,hm⟩ : ∃ m:Nat,(ahead n w v).2=(m:Int):=⟨(ahead n w v).2.toNat,by omega⟩
   have hm0:0 < m:=by
    rcases Nat.eq_zero_or_pos m with h | h
    · subst h; exact absurd (b3.1 hm) hs
    · exact h
   have hB:=mulb (a:=n) (b:=(m:Int)) (A:=1000) (B:=200) (by omega) (by omega) (by omega) (by omega)
   have hB1:0 < n*(m:Int):=Int.mul_pos (by omega) (by omega)
   -- the numbers
   obtain ⟨X,hX⟩ : ∃ X:Nat->Int,∀ i,X i=W (W (w.1*(m:Int))+W (w.2*W ((ahead n w v).1+W ((i:Int)*n)))):=⟨_,fun _=>rfl⟩
   have hXb:∀ i,i < 200->-4611686018427387904<=X i/\X i<=4611686018427387904:=by
    intro i hi
    have q1:=smul (a:=w.1) (b:=(m:Int)) (A:=1000) (B:=200) (by omega) (by omega)
    have q2:=mulb (a:=(i:Int)) (b:=n) (A:=200) (B:=1000) (by omega) (by omega) (by omega) (by omega)
    have q3:=smul (a:=w.2) (b:=(ahead n w v).1+(i:Int)*n) (A:=100) (B:=201000) (by omega) (by omega)
    rw [hX,w64 (x:=(i:Int)*n) (by omega) (by omega),w64 (x:=(ahead n w v).1+(i:Int)*n) (by omega) (by omega),w64 (x:=w.2*_) (by omega) (by omega),w64 (x:=w.1*_) (by omega) (by omega),w64 (by omega) (by omega)]
    omega
   have hNb:∀ i,0<=X i % (n*(m:Int))/\X i % (n*(m:Int)) < 200001:=fun i=>⟨Int.emod_nonneg _ (by omega),by have:=Int.emod_lt_of_pos (X i) hB1; omega⟩
   have wB:W (n*(m:Int))=n*(m:Int):=w64 (by omega) (by omega)
   -- the rows of a list of numbers
   have rowsOf:∀ L:List Int,(∀ x∈L,0<=x/\x < 200001)->L.length<=1000->∀ (e i:Nat),i+e=L.length->∀ acc:List (List Int),acc.length=i->zfX acc ->
       ∃ R:List (List Int),Ev (fun k=>qdqz.l1 k (m:Int) (L.length:Int) (i:Int) acc L) R/\Ev (fun k=>qdoz.l1 k (m:Int) L (L.length:Int) (i:Int) acc) (R,true)/\zfX R/\R.length=L.length:=by
    intro L hL hl e
    induction e with
    | zero =>
     intro i hi acc ha hr
     refine ⟨acc,qdqz.v1 ?_,qdoz.v1 ?_,hr,by omega⟩ <;> simp (disch:=omega) only [S] <;> exact Ev.now _
    | succ e ih =>
     intro i hi acc ha hr
     have hx:=hL _ (zag (z:=0) (show i < L.length by omega))
     have i1:i64 (L.getD i 0):=by unfold i64; omega
     have i2:i64 (m:Int):=by unfold i64; omega
     obtain ⟨g1,g2⟩:=zhe i1 i2
     obtain ⟨R,r1,r2,r3⟩:=ih (i+1) (by omega) (acc++[[(low (L.getD i 0) (m:Int)).1,(low (L.getD i 0) (m:Int)).2]]) (by simp; omega) (zkH hr g1 g2)
     refine ⟨R,qdqz.v1 ?_,qdoz.v1 ?_,r3⟩
     · simp (disch:=omega) only [S]
       exact Ev.bind (zbB i1 i2 (by omega)) r1
     · simp (disch:=omega) only [S]
       exact Ev.bind (zbv i1 i2 (by omega)) r2
   have main:∀ (e i:Nat),i+e=m->∀ (acc:List Int) (s:List Int),acc.length=i->s.length<=i->s.Pairwise (· < ·)->(∀ y,y∈s ↔ y∈acc)->(∀ x∈acc,0<=x/\x < 200001) ->
       ∃ R:List (List Int),Ev (fun k=>qdqz.l0 k n (ahead n w v).1 (m:Int) (m:Int) (i:Int) w.1 w.2 acc) R/\Ev (fun k=>qdoz.l0 k n (ahead n w v).1 (m:Int) s (i:Int) w.1 w.2) (R,true)/\zfX R/\(0 < R.length/\R.length<=1000):=by
    intro e
    induction e with
    | zero =>
     intro i hi acc s ha hs1 hs2 hs3 hb
     have es:zau (zgI acc)=s:=zls (zhQ _ (zrg _)) hs2 fun x=>by rw [zeY,zre,hs3]
     have sl:=zrf acc
     have s0:0 < s.length:=by
      have:=(hs3 _).2 (zag (z:=0) (show 0 < acc.length by omega))
      exact List.length_pos_of_mem this
     obtain ⟨R,r1,r2,r3,r4⟩:=rowsOf s (fun x hx=>hb x ((hs3 x).1 hx)) (by omega) s.length 0 (by omega) [] rfl (fun r hr=>by simp at hr)
     refine ⟨R,qdqz.v0 ?_,qdoz.v0 ?_,r3,by omega⟩
     · simp (disch:=omega) only [S,sl,es]
       exact r1
     · simp (disch:=omega) only [S]
       exact r2
    | succ e ih =>
     intro i hi acc s ha hs1 hs2 hs3 hb
     obtain ⟨r,r1,r2,r3,r4⟩:=zlt (X i % (n*(m:Int))) (by omega) hs2
     obtain ⟨R,q1,q2,q3⟩:=ih (i+1) (by omega) (acc++[X i % (n*(m:Int))]) r (by simp; omega) (by omega) r2 (fun y=>by rw [r3,hs3,List.mem_append,List.mem_singleton]) (fun x hx=>by
      rcases List.mem_append.1 hx with h | h
      · exact hb x h
      · rw [List.mem_singleton.1 h]; exact hNb i)
     have hx:=hXb i (by omega)
     have wi:W ((i:Int)+1)=((i+1:Nat):Int):=by rw [w64 (by omega) (by omega)]; omega
     have lt1:iLt (i:Int) (m:Int)=true:=decide_eq_true (by omega)
     refine ⟨R,qdqz.v0 ?_,qdoz.v0 ?_,q3⟩
     · simp only [lt1,if_true,<- hX,wB,zdS hB1 hx (by omega),Option.bind_some,wi]
       simp (disch:=omega) only [S]
       exact q1
     · simp only [lt1,if_true,<- hX,wB,zet hB1 (show n*(m:Int)<=4611686018427387904 by omega),Option.bind_some,wi]
       exact Ev.bind r1 q2
   obtain ⟨R,r1,r2,r3,r4⟩:=main m 0 (by omega) [] [] rfl (by simp) List.Pairwise.nil (fun y=>Iff.rfl) (fun x hx=>by simp at hx)
   refine ⟨(R,true),qdxz.v ?_,qdoz.v ?_,r3,r4.2,fun _=>r4.1,fun h=>by cases h⟩
   · have hne:(w.2 == v.2)=false:=beq_eq_false_iff_ne.2 hs
     simp only [zbC hn,zaD,S,hw,hv,hne]
     refine Ev.bind (qdqz.v ?_) (Ev.now _)
     simp only [zeV hn hw hv,S,hm]
     exact r1
   · have hne:(w.2 == v.2)=false:=beq_eq_false_iff_ne.2 hs
     simp only [zbY hn hw hv,zdp hn hw hv,S,hne,hm]
     exact r2
def zaF (t:Int):Nat->List Wk->List Int
 | _,[]=>[]
 | i,v::l=>if v.1<=t/\t<=v.1+v.2 then (i:Int)::zaF t (i+1) l else zaF t (i+1) l
theorem zlu (t:Int) (l:List Wk):∀ i,(zaF t i l).length<=l.length:=by
 induction l with
 | nil=>intro i; simp [zaF]
 | cons v l ih =>
  intro i
  simp only [zaF]
  have:=ih (i+1)
  split <;> simp <;> omega
def ve (v:Wk):Int:=v.1+v.2
def Gd (l:List Wk):Int->List Int->Prop
 | last,[]=>∀ v∈l,v.1<=last
 | last,t::r=>(∃ v∈l,last < v.1/\ve v=t)/\(∀ v∈l,last < v.1->t<=ve v)/\Gd l t r
def runL:Int->List Wk->List Int
 | _,[]=>[]
 | last,v::s=>if last < v.1 then ve v::runL (ve v) s else runL last s
theorem zsi (s:List Wk):∀ last,(runL last s).length<=s.length:=by
 induction s with
 | nil=>intro last; simp [runL]
 | cons v s ih =>
  intro last
  rw [runL]
  split
  · have:=ih (ve v); simp; omega
  · have:=ih last; simp; omega
theorem zrh {v:Wk} {s:List Wk} (hs:∀ u∈s,u.1<=ve u) (r:List Int):∀ last,v.1<=last->Gd s last r->Gd (v::s) last r:=by
 induction r with
 | nil =>
  intro last hv h u hu
  rcases List.mem_cons.1 hu with rfl | hu
  · exact hv
  · exact h u hu
 | cons t r ih =>
  intro last hv h
  obtain ⟨⟨u,hu,hl,he⟩,h2,h3⟩:=h
  refine ⟨⟨u,List.mem_cons_of_mem _ hu,hl,he⟩,?_,ih t ?_ h3⟩
  · intro x hx hlx
    rcases List.mem_cons.1 hx with rfl | hx
    · omega
    · exact h2 x hx hlx
  · have:=hs u hu
    omega
theorem zuJ (s:List Wk):(∀ u∈s,u.1<=ve u)->s.Pairwise (fun a b=>ve a<=ve b)->∀ last,Gd s last (runL last s):=by
 induction s with
 | nil=>intro _ _ last u hu; simp at hu
 | cons v s ih =>
  intro hs hp last
  rw [List.pairwise_cons] at hp
  have hs':∀ u∈s,u.1<=ve u:=fun u hu=>hs u (List.mem_cons_of_mem _ hu)
  rw [runL]
  by_cases h:last < v.1
  · rw [if_pos h]
    refine ⟨⟨v,List.mem_cons_self,h,rfl⟩,?_,zrh hs' _ _ (hs v List.mem_cons_self) (ih hs' hp.2 _)⟩
    intro u hu _
    rcases List.mem_cons.1 hu with rfl | hu
    · exact Int.le_refl _
    · exact hp.1 u hu
  · rw [if_neg h]
    exact zrh hs' _ _ (by omega) (ih hs' hp.2 _)
theorem zsj {l l':List Wk} (h:∀ v,v∈l ↔ v∈l') (r:List Int):∀ last,Gd l last r->Gd l' last r:=by
 induction r with
 | nil=>intro last hg v hv; exact hg v ((h v).2 hv)
 | cons t r ih =>
  rintro last ⟨⟨v,hv,hl,he⟩,h2,h3⟩
  exact ⟨⟨v,(h v).1 hv,hl,he⟩,fun u hu=>h2 u ((h u).2 hu),ih t h3⟩
def zfy (last:Int):List Wk->Int->Int
 | [],c=>c
 | v::l,c=>zfy last l (if v.1<=last then c else if c < 0 then v.1+v.2 else if v.1+v.2 < c then v.1+v.2 else c)
theorem znJ {last:Int} (l:List Wk):(∀ v∈l,v.1<=last)->∀ c,zfy last l c=c:=by
 induction l with
 | nil=>intro _ c; rfl
 | cons v l ih =>
  intro h c
  rw [zfy,if_pos (h v List.mem_cons_self)]
  exact ih (fun u hu=>h u (List.mem_cons_of_mem _ hu)) c
theorem znK {last t:Int} (ht:0<=t) (l:List Wk):(∀ v∈l,last < v.1->t<=ve v)->∀ c,(c=t \/ (∃ v∈l,last < v.1/\ve v=t)/\(c < 0 \/ t<=c))->zfy last l c=t:=by
 induction l with
 | nil =>
  intro _ c hc
  rcases hc with rfl | ⟨⟨v,hv,_⟩,_⟩
  · rfl
  · simp at hv
 | cons v l ih =>
  intro h c hc
  have h':∀ u∈l,last < u.1->t<=ve u:=fun u hu=>h u (List.mem_cons_of_mem _ hu)
  have hv:=h v List.mem_cons_self
  have hve:ve v=v.1+v.2:=rfl
  rw [zfy]
  refine ih h' _ ?_
  by_cases h0:v.1<=last
  · rw [if_pos h0]
    rcases hc with hc | ⟨⟨u,hu,hl,he⟩,hc⟩
    · exact .inl hc
    · rcases List.mem_cons.1 hu with rfl | hu
      · omega
      · exact .inr ⟨⟨u,hu,hl,he⟩,hc⟩
  · have hv':=hv (by omega)
    rw [if_neg h0]
    rcases hc with hc | ⟨⟨u,hu,hl,he⟩,hc⟩
    · left
      rw [if_neg (by omega),if_neg (by omega)]
      exact hc
    · rcases List.mem_cons.1 hu with rfl | hu
      · left
        split
        · exact he
        · split
          · exact he
          · omega
      · right
        refine ⟨⟨u,hu,hl,he⟩,.inr ?_⟩
        split
        · omega
        · split
          · omega
          · omega
theorem zjK (t:Int) (l:List Wk):∀ (i:Nat) (j:Int),j∈zaF t i l ↔ ∃ q:Nat,q < l.length/\j=((i+q:Nat):Int)/\(l.getD q (0,0)).1<=t/\t<=ve (l.getD q (0,0)):=by
 induction l with
 | nil=>intro i j; simp [zaF]
 | cons v l ih =>
  intro i j
  have key:j∈zaF t (i+1) l ↔ ∃ q:Nat,q < l.length/\j=((i+(q+1):Nat):Int)/\(l.getD q (0,0)).1<=t/\t<=ve (l.getD q (0,0)):=by
   rw [ih (i+1) j]
   constructor
   · rintro ⟨q,h1,h2,h3⟩
     exact ⟨q,h1,by omega,h3⟩
   · rintro ⟨q,h1,h2,h3⟩
     exact ⟨q,h1,by omega,h3⟩
  rw [zaF]
  constructor
  · intro h
    split at h
    · rename_i hc
      rcases List.mem_cons.1 h with rfl | h
      · exact ⟨0,by simp,by simp,hc.1,hc.2⟩
      · obtain ⟨q,h1,h2,h3⟩:=key.1 h
        exact ⟨q+1,by simp; omega,h2,h3⟩
    · obtain ⟨q,h1,h2,h3⟩:=key.1 h
      exact ⟨q+1,by simp; omega,h2,h3⟩
  · rintro ⟨q,h1,h2,h3,h4⟩
    cases q with
    | zero =>
     rw [if_pos ⟨h3,h4⟩]
     rw [h2]; simp
    | succ q =>
     have:j∈zaF t (i+1) l:=key.2 ⟨q,by simpa using h1,h2,h3,h4⟩
     split
     · exact List.mem_cons_of_mem _ this
     · exact this
def zbc (l:List Wk) (last:Int):List Bool:=l.map fun v=>decide (v.1<=last)
theorem zct (l:List Wk) (last:Int):(zbc l last).length=l.length:=by simp [zbc]
theorem zjL {l:List Wk} {last:Int} {i:Nat} (h:i < l.length):(zbc l last).getD i false=decide ((l.getD i (0,0)).1<=last):=by
 unfold zbc
 rw [List.getD_eq_getElem?_getD,List.getD_eq_getElem?_getD,List.getElem?_map,List.getElem?_eq_getElem h]
 rfl
def zcP:List Bool->List Int->List Bool
 | s,[]=>s
 | s,j::w=>zcP (s.set j.toNat true) w
theorem znL (w:List Int):∀ s,(zcP s w).length=s.length:=by
 induction w with
 | nil=>intro s; rfl
 | cons j w ih=>intro s; rw [zcP,ih,List.length_set]
theorem zpF (w:List Int):∀ (s:List Bool) (q:Nat),q < s.length->(∀ j∈w,0<=j)->((zcP s w).getD q false=true ↔ s.getD q false=true \/ (q:Int)∈w):=by
 induction w with
 | nil=>intro s q hq _; simp [zcP]
 | cons j w ih =>
  intro s q hq hw
  have hj:=hw j List.mem_cons_self
  rw [zcP,ih _ q (by rw [List.length_set]; exact hq) (fun x hx=>hw x (List.mem_cons_of_mem _ hx)),List.mem_cons]
  by_cases h:j.toNat=q
  · have e:(s.set j.toNat true).getD q false=true:=by
     rw [List.getD_eq_getElem?_getD,h,List.getElem?_set_self hq]; rfl
    have e2:(q:Int)=j:=by omega
    rw [e]
    exact ⟨fun _=>.inr (.inl e2),fun _=>.inl rfl⟩
  · have e:(s.set j.toNat true).getD q false=s.getD q false:=by
     rw [List.getD_eq_getElem?_getD,List.getElem?_set_ne h,<- List.getD_eq_getElem?_getD]
    have e2:¬ (q:Int)=j:=by omega
    rw [e]
    exact ⟨fun h=>h.elim .inl (fun h=>.inr (.inr h)),fun h=>h.elim .inl (fun h=>h.elim (fun h=>absurd h e2) .inr)⟩
theorem znM {l:List Wk} {last t:Int} (h1:∀ v∈l,last < v.1->t<=ve v) (h2:last<=t):zcP (zbc l last) (zaF t 0 l)=zbc l t:=by
 have hl:(zcP (zbc l last) (zaF t 0 l)).length=(zbc l t).length:=by rw [znL,zct,zct]
 refine List.ext_getElem hl fun q hq1 hq2=>?_
 have hq:q < l.length:=by rw [zct] at hq2; exact hq2
 have e1:(zcP (zbc l last) (zaF t 0 l))[q]=(zcP (zbc l last) (zaF t 0 l)).getD q false:=by
  rw [List.getD_eq_getElem?_getD,List.getElem?_eq_getElem hq1]; rfl
 have e2:(zbc l t)[q]=(zbc l t).getD q false:=by
  rw [List.getD_eq_getElem?_getD,List.getElem?_eq_getElem hq2]; rfl
 have hm:l.getD q (0,0)∈l:=by
  rw [List.getD_eq_getElem?_getD,List.getElem?_eq_getElem hq]
  exact List.getElem_mem hq
 have hg:=h1 _ hm
 rw [e1,e2]
 have key:=zpF (zaF t 0 l) (zbc l last) q (by rw [zct]; exact hq) (fun j hj=>by
  obtain ⟨p,_,rfl,_⟩:=(zjK t l 0 j).1 hj
  omega)
 rw [zjL hq,decide_eq_true_eq,zjK] at key
 rw [zjL hq,Bool.eq_iff_iff,key,decide_eq_true_eq]
 constructor
 · rintro (h | ⟨p,hp,hqp,h3,_⟩)
   · omega
   · have:p=q:=by omega
     subst this
     exact h3
 · intro h
   by_cases h3:(l.getD q (0,0)).1<=last
   · exact .inl h3
   · exact .inr ⟨q,hq,by omega,h,hg (by omega)⟩
theorem zri {l:List Wk} (h:zap 6 vOk l=true) {i:Nat} (hi:i < l.length):(0<=(l.getD i (0,0)).1/\(l.getD i (0,0)).1<=200)/\0<=(l.getD i (0,0)).2/\(l.getD i (0,0)).2<=200:=zdl.1 ((zal.1 h).2 _ (zag hi))
def ltE (v u:Wk):Bool:=decide (ve v < ve u)
theorem zrj (x:Wk) (acc:List Wk) (hs:acc.Pairwise fun a b=>ve a<=ve b):∀ n,n<=acc.length->(∀ i,n<=i->i < acc.length->ve x<=ve (acc.getD i (0,0)))->(∀ i,zc4 ltE (0,0) x acc n<=i->i < acc.length->ve x<=ve (acc.getD i (0,0))) /\ ∀ i,i < zc4 ltE (0,0) x acc n->ve (acc.getD i (0,0))<=ve x:=by
 intro n
 induction n with
 | zero=>intro _ h; exact ⟨h,fun i hi=>absurd hi (by unfold zc4; omega)⟩
 | succ n ih =>
  intro hn h
  unfold zc4
  cases hc:ltE x (acc.getD n (0,0)) with
  | true =>
   rw [if_pos rfl]
   refine ih (by omega) fun i h1 h2=>?_
   rcases Nat.lt_or_ge n i with h3 | h3
   · exact h i (by omega) h2
   · have:i=n:=by omega
     subst this
     have:=of_decide_eq_true hc
     omega
  | false =>
   rw [if_neg (by simp)]
   refine ⟨h,fun i hi=>?_⟩
   have hx:=of_decide_eq_false hc
   rcases Nat.lt_or_ge i n with h3 | h3
   · have:=List.pairwise_iff_getElem.1 hs i n (by omega) (by omega) h3
     have e1:acc.getD i (0,0)=acc[i]'(by omega):=by rw [List.getD_eq_getElem?_getD,List.getElem?_eq_getElem (show i < acc.length by omega)]; rfl
     have e2:acc.getD n (0,0)=acc[n]'(by omega):=by rw [List.getD_eq_getElem?_getD,List.getElem?_eq_getElem (show n < acc.length by omega)]; rfl
     rw [e1]; rw [e2] at hx; omega
   · have:i=n:=by omega
     subst this
     omega
theorem zuK:∀ (n:Nat) (l:List Wk),l.length=n->(zaz ltE (0,0) l).Pairwise fun a b=>ve a<=ve b:=by
 intro n
 induction n with
 | zero=>intro l h; rw [List.length_eq_zero_iff.1 h]; exact List.Pairwise.nil
 | succ n ih =>
  intro l h
  have h0:l ≠ []:=by intro e; subst e; simp at h
  rw [<- List.dropLast_concat_getLast h0,zbO]
  have hs:=ih l.dropLast (by simp [h])
  obtain ⟨k1,k2⟩:=zrj (l.getLast h0) _ hs _ (Nat.le_refl _) (fun i h1 h2=>by omega)
  unfold ins zbg
  have hp:=zij ltE (0,0) (l.getLast h0) (zaz ltE (0,0) l.dropLast) (zaz ltE (0,0) l.dropLast).length
  generalize zaz ltE (0,0) l.dropLast=acc at *
  generalize zc4 ltE (0,0) (l.getLast h0) acc acc.length=p at *
  refine List.pairwise_append.2 ⟨List.Pairwise.sublist (List.take_sublist _ _) hs,List.pairwise_cons.2 ⟨fun y hy=>?_,List.Pairwise.sublist (List.drop_sublist _ _) hs⟩,fun a ha b hb=>?_⟩
  · obtain ⟨i,i1,i2,rfl⟩:=zbw (z:=(0,0)) hy
    exact k1 i i1 i2
  · obtain ⟨i,i1,i2,rfl⟩:=zbL (z:=(0,0)) ha
    rcases List.mem_cons.1 hb with rfl | hb
    · exact k2 i i1
    · obtain ⟨j,j1,j2,rfl⟩:=zbw (z:=(0,0)) hb
      have:=k1 j j1 j2
      have:=k2 i i1
      omega
theorem cmpE:zq5 (fun _ (x y:Wk)=>qbuz.f x.1 x.2 y.1 y.2) ltE (fun v=>vOk v=true):=by
 intro x y hx hy
 have hx:=zdl.1 hx
 have hy:=zdl.1 hy
 obtain ⟨c,e,l,_⟩:=zbZ (x.1+x.2) (y.1+y.2)
 refine ⟨c,zth ?_,?_⟩
 · unfold qbuz.f
   rw [w64 (x:=x.1+x.2) (by omega) (by omega),w64 (x:=y.1+y.2) (by omega) (by omega),e]
   rfl
 · rw [l]; rfl
theorem ztJ {n:Nat} (h:n<=6):∃ t,qffz.f (IntKind.wrap .u64 (n:Int))=some t:=by
 have e:IntKind.wrap .u64 (n:Int)=(n:Int):=by
  simp [IntKind.wrap,IntKind.bits,IntKind.signed]
  omega
 have e2:IntKind.wrap .u8 (n:Int)=(n:Int):=by
  simp [IntKind.wrap,IntKind.bits,IntKind.signed]
  omega
 unfold qffz.f qdwz.f
 rw [e,if_neg (show ¬ iGe (n:Int) 4294967296=true by rw [show iGe (n:Int) 4294967296=false from decide_eq_false (by omega)]; decide),
  if_neg (show ¬ iGe (n:Int) 65536=true by rw [show iGe (n:Int) 65536=false from decide_eq_false (by omega)]; decide),
  if_neg (show ¬ iGe (n:Int) 256=true by rw [show iGe (n:Int) 256=false from decide_eq_false (by omega)]; decide),
  S.1 (show 0<=IntKind.wrap .u8 (n:Int) by omega),S.1 (show IntKind.wrap .u8 (n:Int) < 256 by omega)]
 exact ⟨_,rfl⟩
theorem znN {l:List Wk} (hv:zap 6 vOk l=true):Ev (fun k=>qahz.f k l) (zaz ltE (0,0) l):=by
 obtain ⟨h1,h2⟩:=zal.1 hv
 obtain ⟨t,ht⟩:=ztJ h1.2
 refine qahz.v ?_
 simp only [S,ht]
 refine Ev.bind (qapz.v (qapz.v0 ?_)) (Ev.now _)
 have c:iLe (W ((l.length:Int)-0)) 12=true:=decide_eq_true (by rw [w64 (by omega) (by omega)]; omega)
 simp only [c,if_true]
 refine Ev.bind (v:=zaz ltE (0,0) l) (qaez.v ?_) (Ev.now _)
 have h:=zlq cmpE (F0:=fun k a b i arr=>qaez.l0 k a b i arr) (F1:=fun k a b i j arr=>qaez.l1 k a b i j arr)
  qaez.v0 qaez.v1 [] l [] h2 (by simp; omega)
 simp only [List.length_nil,Nat.zero_add,List.nil_append,List.append_nil] at h
 rw [show W (0+1)=1 by decide]
 exact h
theorem zmH {T:List Wk} (hg:zap 6 vOk T=true) (d:Nat):∀ (i:Nat) (acc:List Int) (last:Int),i+d=T.length->acc.length<=i ->
    Ev (fun k=>qcpz.l0 k last (T.length:Int) (i:Int) acc T) (acc++runL last (T.drop i),true):=by
 have hl:=(zal.1 hg).1
 induction d with
 | zero =>
  intro i acc last hi ha
  rw [List.drop_eq_nil_of_le (by omega)]
  refine qcpz.v0 ?_
  simp (disch:=omega) only [S]
  exact zbW (by simp [runL])
 | succ d ih =>
  intro i acc last hi ha
  have hb:=zri hg (show i < T.length by omega)
  rw [zav (0,0) (show i < T.length by omega),runL]
  refine qcpz.v0 ?_
  by_cases h:last < (T.getD i (0,0)).1
  · simp (disch:=omega) only [S,if_pos h]
    rw [show acc++ve (T.getD i (0,0))::runL (ve (T.getD i (0,0))) (T.drop (i+1))=acc++[ve (T.getD i (0,0))]++runL (ve (T.getD i (0,0))) (T.drop (i+1)) by simp]
    exact ih (i+1) _ _ (by omega) (by simp; omega)
  · simp (disch:=omega) only [S,if_neg h]
    exact ih (i+1) _ _ (by omega) (by omega)
theorem zfi {l:List Wk} (hv:zap 6 vOk l=true):∃ r,r.length<=6/\Gd l (-1) r/\(0<=0 /\ ∀ x∈r,i64 x)/\Ev (fun k=>qcpz.f k l) (r,true):=by
 obtain ⟨hl,h2⟩:=zal.1 hv
 have hm:∀ v,v∈zaz ltE (0,0) l ↔ v∈l:=fun v=>(za6 _ _ _).mem_iff
 have hil:=zcK ltE (0,0) l
 have hvT:zap 6 vOk (zaz ltE (0,0) l)=true:=zal.2 ⟨by omega,fun w hw=>h2 w ((hm w).1 hw)⟩
 have hr:=zsi (zaz ltE (0,0) l) (-1)
 have hmem:∀ (s:List Wk),(∀ v∈s,vOk v=true)->∀ last,∀ x∈runL last s,i64 x:=by
  intro s
  induction s with
  | nil=>intro _ last x hx; simp [runL] at hx
  | cons v s ih =>
   intro h last x hx
   unfold runL at hx
   split at hx
   · rcases List.mem_cons.1 hx with rfl | hx
     · have:=zdl.1 (h v (by simp))
       unfold i64 ve; omega
     · exact ih (fun u hu=>h u (List.mem_cons_of_mem _ hu)) _ x hx
   · exact ih (fun u hu=>h u (List.mem_cons_of_mem _ hu)) _ x hx
 refine ⟨runL (-1) (zaz ltE (0,0) l),by omega,?_,⟨Nat.le_refl _,hmem _ (fun v hv'=>h2 v ((hm v).1 hv')) _⟩,?_⟩
 · refine zsj hm _ _ (zuJ _ (fun u hu=>?_) (zuK _ l rfl) (-1))
   have:=zdl.1 (h2 u ((hm u).1 hu))
   unfold ve; omega
 · refine qcpz.v (Ev.bind (zcs l) ?_)
   unfold qbiz.f
   simp (disch:=omega) only [hv,S]
   refine Ev.bind (znN hv) ?_
   have:=zmH hvT (zaz ltE (0,0) l).length 0 [] (-1) (by omega) (by simp)
   simpa using this
theorem zjM {l:List Wk} (hv:zap 6 vOk l=true) (t:Int):Ev (fun k=>qfuz.f k l t) (zaF t 0 l):=by
 have hl:=(zal.1 hv).1
 have key:∀ (d i:Nat) (acc:List Int),i+d=l.length->acc.length<=i->Ev (fun k=>qfuz.l0 k t l (l.length:Int) (i:Int) acc) (acc++zaF t i (l.drop i)):=by
  intro d
  induction d with
  | zero =>
   intro i acc hi ha
   rw [List.drop_eq_nil_of_le (by omega)]
   refine qfuz.v0 ?_
   simp (disch:=omega) only [S]
   exact zbW (by simp [zaF])
  | succ d ih =>
   intro i acc hi ha
   have hb:=zri hv (show i < l.length by omega)
   rw [zav (0,0) (show i < l.length by omega)]
   refine qfuz.v0 ?_
   simp (disch:=omega) only [S,zaq,decide_eq_true_eq,zaF]
   by_cases h1:(l.getD i (0,0)).1<=t/\t<=(l.getD i (0,0)).1+(l.getD i (0,0)).2
   · have h:=ih (i+1) (acc++[(i:Int)]) (by omega) (by simp; omega)
     rw [List.append_assoc] at h
     simp only [if_pos h1]
     exact h
   · have h:=ih (i+1) acc (by omega) (by omega)
     simp only [if_neg h1]
     exact h
 exact qfuz.v (key l.length 0 [] (by omega) (by simp))
theorem zkI {l:List Wk} (hv:zap 6 vOk l=true) {acc:List Int} {last:Int} {R:List Int×Bool} (ha:acc.length<=1000) (d:Nat):∀ (i:Nat) (c:Int),i+d=l.length ->
    Ev (fun k=>if zfy last (l.drop i) c < 0 then some (acc,true) else ((qfuz.f k l (zfy last (l.drop i) c)).bind fun t=>(qckz.l2 k l t (t.length:Int) 0 (acc++[zfy last (l.drop i) c]) (zbc l last)))) R ->
    Ev (fun k=>qckz.l1 k l c l (l.length:Int) (i:Int) acc (zbc l last)) R:=by
 have hl:=(zal.1 hv).1
 induction d with
 | zero =>
  intro i c hi hR
  rw [List.drop_eq_nil_of_le (by omega)] at hR
  refine qckz.v1 ?_
  rw [show zfy last [] c=c from rfl] at hR
  by_cases hc:c < 0
  · simp only [if_pos hc] at hR
    simp (disch:=omega) only [S]
    exact hR
  · simp only [if_neg hc] at hR
    simp (disch:=omega) only [S]
    exact hR
 | succ d ih =>
  intro i c hi hR
  have hb:=zri hv (show i < l.length by omega)
  have hsl:=zct l last
  rw [zav (0,0) (show i < l.length by omega),zfy] at hR
  refine qckz.v1 ?_
  have sa:=zjL (l:=l) (last:=last) (show i < l.length by omega)
  by_cases h0:(l.getD i (0,0)).1<=last
  · rw [decide_eq_true h0] at sa
    simp only [if_pos h0] at hR
    simp (disch:=omega) only [S,sa]
    exact ih (i+1) c (by omega) hR
  · rw [decide_eq_false h0] at sa
    simp only [if_neg h0] at hR
    by_cases h1:c < 0
    · simp only [if_pos h1] at hR
      simp (disch:=omega) only [S,sa]
      exact ih (i+1) _ (by omega) hR
    · simp only [if_neg h1] at hR
      by_cases h2:(l.getD i (0,0)).1+(l.getD i (0,0)).2 < c
      · simp only [if_pos h2] at hR
        simp (disch:=omega) only [S,sa]
        exact ih (i+1) _ (by omega) hR
      · simp only [if_neg h2] at hR
        simp (disch:=omega) only [S,sa]
        exact ih (i+1) _ (by omega) hR
theorem zpG {l:List Wk} {acc:List Int} {R:List Int×Bool} {w:List Int} (hw:w.length<=1000) (hj:∀ j∈w,0<=j/\j < (l.length:Int)) (d:Nat):∀ (i:Nat) (s:List Bool),i+d=w.length->s.length=l.length ->
    Ev (fun k=>qckz.l0 k l acc (zcP s (w.drop i))) R ->
    Ev (fun k=>qckz.l2 k l w (w.length:Int) (i:Int) acc s) R:=by
 induction d with
 | zero =>
  intro i s hi hs hR
  rw [List.drop_eq_nil_of_le (by omega)] at hR
  refine qckz.v2 ?_
  simp (disch:=omega) only [S]
  exact hR
 | succ d ih =>
  intro i s hi hs hR
  have hb:=hj _ (zag (z:=0) (show i < w.length by omega))
  rw [zav 0 (show i < w.length by omega),zcP] at hR
  refine qckz.v2 ?_
  simp (disch:=omega) only [S]
  exact ih (i+1) _ (by omega) (by rw [List.length_set]; exact hs) hR
theorem zpH {l:List Wk} (hv:zap 6 vOk l=true) (r:List Int):∀ (last:Int) (acc:List Int),Gd l last r->acc.length+r.length<=1000 ->
    Ev (fun k=>qckz.l0 k l acc (zbc l last)) (acc++r,true):=by
 obtain ⟨hl6,hmem⟩:=zal.1 hv
 induction r with
 | nil =>
  intro last acc hg ha
  simp only [List.length_nil] at ha
  refine qckz.v0 ?_
  simp only [S]
  refine zkI hv (by omega) l.length 0 (-1) (by omega) ?_
  rw [List.drop_zero,znJ l hg]
  simp only [if_pos (show (-1:Int) < 0 by omega),List.append_nil]
  exact Ev.now _
 | cons t r ih =>
  rintro last acc ⟨⟨v,hvl,hl,he⟩,h2,h3⟩ ha
  have hgv:=zdl.1 (hmem _ hvl)
  have ht:0<=t/\last<=t:=by unfold ve at he; omega
  rw [List.length_cons] at ha
  refine qckz.v0 ?_
  simp only [S]
  refine zkI hv (by omega) l.length 0 (-1) (by omega) ?_
  rw [List.drop_zero,znK ht.1 l h2 (-1) (.inr ⟨⟨v,hvl,hl,he⟩,.inl (by omega)⟩)]
  simp only [if_neg (show ¬ t < 0 by omega)]
  refine Ev.bind (zjM hv t) ?_
  have hlen:=zlu t l 0
  refine zpG (by omega) (fun j hj=>by
   obtain ⟨p,hp,rfl,_⟩:=(zjK t l 0 j).1 hj
   omega) (zaF t 0 l).length 0 _ (by omega) (zct _ _) ?_
  rw [List.drop_zero,znM h2 ht.2,show acc++t::r=acc++[t]++r by simp]
  exact ih t _ h3 (by simp; omega)
theorem zhj {l:List Wk} (hv:zap 6 vOk l=true):∃ L:List Int,Ev (fun k=>qcpz.f k l) (L,true)/\Ev (fun k=>qckz.f k l) (L,true)/\L.length<=6 /\ ∀ n∈L,i64 n:=by
 obtain ⟨hl,hmem⟩:=zal.1 hv
 obtain ⟨r,h1,h2,h3,h4⟩:=zfi hv
 refine ⟨r,h4,qckz.v (Ev.bind (zdN l) ?_),h1,h3.2⟩
 simp (disch:=omega) only [hv,S]
 have e:List.replicate l.length false=zbc l (-1):=by
  refine (List.eq_replicate_iff.2 ⟨zct _ _,fun b hb=>?_⟩).symm
  obtain ⟨v,hvl,rfl⟩:=List.mem_map.1 hb
  have:=zdl.1 (hmem _ hvl)
  exact decide_eq_false (by omega)
 rw [e]
 exact zpH hv r (-1) [] h2 (by simp; omega)
def beqN:List Nat->List Nat->Bool
 | [],[]=>true
 | a::l,b::m=>(a % 256 == b % 256) && beqN l m
 | _,_=>false
theorem zrk:∀ a b:List Nat,beqN a b=decide (a.map UInt8.ofNat=b.map UInt8.ofNat)
 | [],[]=>rfl
 | [],_::_=>rfl
 | _::_,[]=>rfl
 | a::l,b::m=>by
  have h:(UInt8.ofNat a=UInt8.ofNat b) ↔ a % 256=b % 256:=by
   rw [<- UInt8.toNat_inj,UInt8.toNat_ofNat',UInt8.toNat_ofNat']
  unfold beqN
  rw [zrk l m,List.map_cons,List.map_cons,Bool.eq_iff_iff,Bool.and_eq_true,beq_iff_eq,decide_eq_true_eq,decide_eq_true_eq,List.cons.injEq,h]
theorem sqn (a b:List Nat):seq (bs a) (bs b)=beqN a b:=by rw [zqQ,zqQ,zqS,zrk]
def zb0:List (List Nat×List Nat):=[([119,97,108,107,101,114,115],[87]),([97,100,100],[87]),([114,105,110,103],[78]),([116,117,114,110],[78]),([100,114,111,112],[78]),([97,116],[78]),([115,104,111,119],[]),([112,97,105,114,115],[]),([102,105,114,115,116],[]),([108,101,97,100],[]),([108,97,115,116],[]),([115,116,97,114,116],[]),([109,101,101,116],[78,78]),([119,104,101,114,101],[78,78]),([97,114,111,117,110,100],[78,78]),([103,97,112],[78,78]),([112,108,97,99,101,115],[78,78]),([100,111,103],[67]),([114,117,110],[67]),([97,112,97,114,116],[67,78]),([109,101,97,110],[76]),([116,105,109,101],[76]),([110,101,101,100],[76,78,78]),([118,105,115,105,116,115],[86]),([103,117,105,100,101,115],[86]),([99,104,97,110,99,101],[78,78,78])]
theorem zaT {w:List UInt8} {b:List Nat} (h:¬ w=b.map UInt8.ofNat):seq (bL w) (bs b)=false:=by rw [zqQ,zqS]; exact decide_eq_false h
theorem znO (w:List UInt8):(qfdz.f (bL w)=some (bs [],false)/\qgjz.f (bL w)=some (bs [63])) \/
    ∃ e∈zb0,bL w=bs e.1/\qfdz.f (bs e.1)=some (bs e.2,true)/\qgjz.f (bs e.1)=some (bs (e.2.map (· + 32))):=by
 by_cases h0:w=([119,97,108,107,101,114,115]:List Nat).map UInt8.ofNat
 · exact .inr ⟨([119,97,108,107,101,114,115],[87]),by unfold zb0; simp only [List.mem_cons,true_or,or_true],by rw [h0]; rfl,by unfold qfdz.f; simp only [sqn]; rfl,by unfold qgjz.f; simp only [sqn]; rfl⟩
 by_cases h1:w=([97,100,100]:List Nat).map UInt8.ofNat
 · exact .inr ⟨([97,100,100],[87]),by unfold zb0; simp only [List.mem_cons,true_or,or_true],by rw [h1]; rfl,by unfold qfdz.f; simp only [sqn]; rfl,by unfold qgjz.f; simp only [sqn]; rfl⟩
 by_cases h2:w=([114,105,110,103]:List Nat).map UInt8.ofNat
 · exact .inr ⟨([114,105,110,103],[78]),by unfold zb0; simp only [List.mem_cons,true_or,or_true],by rw [h2]; rfl,by unfold qfdz.f; simp only [sqn]; rfl,by unfold qgjz.f; simp only [sqn]; rfl⟩
 by_cases h3:w=([116,117,114,110]:List Nat).map UInt8.ofNat
 · exact .inr ⟨([116,117,114,110],[78]),by unfold zb0; simp only [List.mem_cons,true_or,or_true],by rw [h3]; rfl,by unfold qfdz.f; simp only [sqn]; rfl,by unfold qgjz.f; simp only [sqn]; rfl⟩
 by_cases h4:w=([100,114,111,112]:List Nat).map UInt8.ofNat
 · exact .inr ⟨([100,114,111,112],[78]),by unfold zb0; simp only [List.mem_cons,true_or,or_true],by rw [h4]; rfl,by unfold qfdz.f; simp only [sqn]; rfl,by unfold qgjz.f; simp only [sqn]; rfl⟩
 by_cases h5:w=([97,116]:List Nat).map UInt8.ofNat
 · exact .inr ⟨([97,116],[78]),by unfold zb0; simp only [List.mem_cons,true_or,or_true],by rw [h5]; rfl,by unfold qfdz.f; simp only [sqn]; rfl,by unfold qgjz.f; simp only [sqn]; rfl⟩
 by_cases h6:w=([115,104,111,119]:List Nat).map UInt8.ofNat
 · exact .inr ⟨([115,104,111,119],[]),by unfold zb0; simp only [List.mem_cons,true_or,or_true],by rw [h6]; rfl,by unfold qfdz.f; simp only [sqn]; rfl,by unfold qgjz.f; simp only [sqn]; rfl⟩
 by_cases h7:w=([112,97,105,114,115]:List Nat).map UInt8.ofNat
 · exact .inr ⟨([112,97,105,114,115],[]),by unfold zb0; simp only [List.mem_cons,true_or,or_true],by rw [h7]; rfl,by unfold qfdz.f; simp only [sqn]; rfl,by unfold qgjz.f; simp only [sqn]; rfl⟩
 by_cases h8:w=([102,105,114,115,116]:List Nat).map UInt8.ofNat
 · exact .inr ⟨([102,105,114,115,116],[]),by unfold zb0; simp only [List.mem_cons,true_or,or_true],by rw [h8]; rfl,by unfold qfdz.f; simp only [sqn]; rfl,by unfold qgjz.f; simp only [sqn]; rfl⟩
 by_cases h9:w=([108,101,97,100]:List Nat).map UInt8.ofNat
 · exact .inr ⟨([108,101,97,100],[]),by unfold zb0; simp only [List.mem_cons,true_or,or_true],by rw [h9]; rfl,by unfold qfdz.f; simp only [sqn]; rfl,by unfold qgjz.f; simp only [sqn]; rfl⟩
 by_cases h10:w=([108,97,115,116]:List Nat).map UInt8.ofNat
 · exact .inr ⟨([108,97,115,116],[]),by unfold zb0; simp only [List.mem_cons,true_or,or_true],by rw [h10]; rfl,by unfold qfdz.f; simp only [sqn]; rfl,by unfold qgjz.f; simp only [sqn]; rfl⟩
 by_cases h11:w=([115,116,97,114,116]:List Nat).map UInt8.ofNat
 · exact .inr ⟨([115,116,97,114,116],[]),by unfold zb0; simp only [List.mem_cons,true_or,or_true],by rw [h11]; rfl,by unfold qfdz.f; simp only [sqn]; rfl,by unfold qgjz.f; simp only [sqn]; rfl⟩
 by_cases h12:w=([109,101,101,116]:List Nat).map UInt8.ofNat
 · exact .inr ⟨([109,101,101,116],[78,78]),by unfold zb0; simp only [List.mem_cons,true_or,or_true],by rw [h12]; rfl,by unfold qfdz.f; simp only [sqn]; rfl,by unfold qgjz.f; simp only [sqn]; rfl⟩
 by_cases h13:w=([119,104,101,114,101]:List Nat).map UInt8.ofNat
 · exact .inr ⟨([119,104,101,114,101],[78,78]),by unfold zb0; simp only [List.mem_cons,true_or,or_true],by rw [h13]; rfl,by unfold qfdz.f; simp only [sqn]; rfl,by unfold qgjz.f; simp only [sqn]; rfl⟩
 by_cases h14:w=([97,114,111,117,110,100]:List Nat).map UInt8.ofNat
 · exact .inr ⟨([97,114,111,117,110,100],[78,78]),by unfold zb0; simp only [List.mem_cons,true_or,or_true],by rw [h14]; rfl,by unfold qfdz.f; simp only [sqn]; rfl,by unfold qgjz.f; simp only [sqn]; rfl⟩
 by_cases h15:w=([103,97,112]:List Nat).map UInt8.ofNat
 · exact .inr ⟨([103,97,112],[78,78]),by unfold zb0; simp only [List.mem_cons,true_or,or_true],by rw [h15]; rfl,by unfold qfdz.f; simp only [sqn]; rfl,by unfold qgjz.f; simp only [sqn]; rfl⟩
 by_cases h16:w=([112,108,97,99,101,115]:List Nat).map UInt8.ofNat
 · exact .inr ⟨([112,108,97,99,101,115],[78,78]),by unfold zb0; simp only [List.mem_cons,true_or,or_true],by rw [h16]; rfl,by unfold qfdz.f; simp only [sqn]; rfl,by unfold qgjz.f; simp only [sqn]; rfl⟩
 by_cases h17:w=([100,111,103]:List Nat).map UInt8.ofNat
 · exact .inr ⟨([100,111,103],[67]),by unfold zb0; simp only [List.mem_cons,true_or,or_true],by rw [h17]; rfl,by unfold qfdz.f; simp only [sqn]; rfl,by unfold qgjz.f; simp only [sqn]; rfl⟩
 by_cases h18:w=([114,117,110]:List Nat).map UInt8.ofNat
 · exact .inr ⟨([114,117,110],[67]),by unfold zb0; simp only [List.mem_cons,true_or,or_true],by rw [h18]; rfl,by unfold qfdz.f; simp only [sqn]; rfl,by unfold qgjz.f; simp only [sqn]; rfl⟩
 by_cases h19:w=([97,112,97,114,116]:List Nat).map UInt8.ofNat
 · exact .inr ⟨([97,112,97,114,116],[67,78]),by unfold zb0; simp only [List.mem_cons,true_or,or_true],by rw [h19]; rfl,by unfold qfdz.f; simp only [sqn]; rfl,by unfold qgjz.f; simp only [sqn]; rfl⟩
 by_cases h20:w=([109,101,97,110]:List Nat).map UInt8.ofNat
 · exact .inr ⟨([109,101,97,110],[76]),by unfold zb0; simp only [List.mem_cons,true_or,or_true],by rw [h20]; rfl,by unfold qfdz.f; simp only [sqn]; rfl,by unfold qgjz.f; simp only [sqn]; rfl⟩
 by_cases h21:w=([116,105,109,101]:List Nat).map UInt8.ofNat
 · exact .inr ⟨([116,105,109,101],[76]),by unfold zb0; simp only [List.mem_cons,true_or,or_true],by rw [h21]; rfl,by unfold qfdz.f; simp only [sqn]; rfl,by unfold qgjz.f; simp only [sqn]; rfl⟩
 by_cases h22:w=([110,101,101,100]:List Nat).map UInt8.ofNat
 · exact .inr ⟨([110,101,101,100],[76,78,78]),by unfold zb0; simp only [List.mem_cons,true_or,or_true],by rw [h22]; rfl,by unfold qfdz.f; simp only [sqn]; rfl,by unfold qgjz.f; simp only [sqn]; rfl⟩
 by_cases h23:w=([118,105,115,105,116,115]:List Nat).map UInt8.ofNat
 · exact .inr ⟨([118,105,115,105,116,115],[86]),by unfold zb0; simp only [List.mem_cons,true_or,or_true],by rw [h23]; rfl,by unfold qfdz.f; simp only [sqn]; rfl,by unfold qgjz.f; simp only [sqn]; rfl⟩
 by_cases h24:w=([103,117,105,100,101,115]:List Nat).map UInt8.ofNat
 · exact .inr ⟨([103,117,105,100,101,115],[86]),by unfold zb0; simp only [List.mem_cons,true_or,or_true],by rw [h24]; rfl,by unfold qfdz.f; simp only [sqn]; rfl,by unfold qgjz.f; simp only [sqn]; rfl⟩
 by_cases h25:w=([99,104,97,110,99,101]:List Nat).map UInt8.ofNat
 · exact .inr ⟨([99,104,97,110,99,101],[78,78,78]),by unfold zb0; simp only [List.mem_cons,true_or,or_true],by rw [h25]; rfl,by unfold qfdz.f; simp only [sqn]; rfl,by unfold qgjz.f; simp only [sqn]; rfl⟩
 refine .inl ⟨?_,?_⟩
 · unfold qfdz.f; simp only [zaT h0,zaT h1,zaT h2,zaT h3,zaT h4,zaT h5,zaT h6,zaT h7,zaT h8,zaT h9,zaT h10,zaT h11,zaT h12,zaT h13,zaT h14,zaT h15,zaT h16,zaT h17,zaT h18,zaT h19,zaT h20,zaT h21,zaT h22,zaT h23,zaT h24,zaT h25,Bool.false_eq_true,if_false]
 · unfold qgjz.f; simp only [zaT h0,zaT h1,zaT h2,zaT h3,zaT h4,zaT h5,zaT h6,zaT h7,zaT h8,zaT h9,zaT h10,zaT h11,zaT h12,zaT h13,zaT h14,zaT h15,zaT h16,zaT h17,zaT h18,zaT h19,zaT h20,zaT h21,zaT h22,zaT h23,zaT h24,zaT h25,Bool.false_eq_true,if_false]
abbrev Ar:=List Wk×(Int×(Int×(Int×(Int×(List Wk×(List Wk×List Int))))))
def zaO (c:Nat) (w:List UInt8) (s:Ar):Option Ar :=
 if c=87 then (if (zbf w).2=true then some ((zbf w).1,s.2) else none)
 else if c=67 then (if (zas w).2=true then some (s.1,((zas w).1.1,((zas w).1.2.1,((zas w).1.2.2.1,((zas w).1.2.2.2,s.2.2.2.2.2))))) else none)
 else if c=76 then (if (zcD w).2=true then some (s.1,(s.2.1,(s.2.2.1,(s.2.2.2.1,(s.2.2.2.2.1,((zcD w).1,s.2.2.2.2.2.2)))))) else none)
 else if c=86 then (if (zbA w).2=true then some (s.1,(s.2.1,(s.2.2.1,(s.2.2.2.1,(s.2.2.2.2.1,(s.2.2.2.2.2.1,((zbA w).1,s.2.2.2.2.2.2.2))))))) else none)
 else if 0<=l1r w then some (s.1,(s.2.1,(s.2.2.1,(s.2.2.2.1,(s.2.2.2.2.1,(s.2.2.2.2.2.1,(s.2.2.2.2.2.2.1,s.2.2.2.2.2.2.2++[l1r w]))))))) else none
def zf1:List Nat->List (List UInt8)->Ar->Option Ar
 | [],_,s=>some s
 | _::_,[],_=>none
 | c::cs,w::ws,s=>(zaO c w s).bind (zf1 cs ws)
theorem zoP (w:List UInt8):(∃ n,0<=n/\n<=999999/\zd4 w=(n,true)/\l1r w=n) \/ (l1r w = -1/\((zd4 w).2=false \/ decide (0<=(zd4 w).1/\(zd4 w).1<=999999)=false)):=by
 rcases zdk w with ⟨n,h0,h1,hw,h2⟩ | ⟨h2,hn⟩
 · exact .inl ⟨n,h0,h1,by rw [hw]; exact zd5 (by omega) (by omega),h2⟩
 · refine .inr ⟨h2,?_⟩
   rcases zjn w with ⟨n,_,_,hw,h3⟩ | ⟨h3,_⟩
   · refine .inr (decide_eq_false fun h=>hn n ?_ ?_ hw)
     · rw [h3] at h; exact h.1
     · rw [h3] at h; exact h.2
   · exact .inl (by rw [h3])
theorem znP (w:List UInt8) (s:Ar):zaO 78 w s=if 0<=l1r w then some (s.1,(s.2.1,(s.2.2.1,(s.2.2.2.1,(s.2.2.2.2.1,(s.2.2.2.2.2.1,(s.2.2.2.2.2.2.1,s.2.2.2.2.2.2.2++[l1r w]))))))) else none:=by
 unfold zaO
 rw [if_neg (by decide),if_neg (by decide),if_neg (by decide),if_neg (by decide)]
def zmI (c:Nat):Prop:=c=87 \/ c=67 \/ c=76 \/ c=86 \/ c=78
theorem zmJ {c:Nat} (hc:zmI c) {w:List UInt8} (hw:w.length<=2000000) (s:Ar) (hs:s.2.2.2.2.2.2.2.length<=1000) :
    ∃ t:Ar,Ev (fun k=>qbwz.f k s.1 s.2.1 s.2.2.1 s.2.2.2.1 s.2.2.2.2.1 s.2.2.2.2.2.1 s.2.2.2.2.2.2.1 s.2.2.2.2.2.2.2 (c:Int) (bL w)) ((zaO c w s).isSome,t) /\ ∀ t',zaO c w s=some t'->t=t':=by
 rcases hc with rfl | rfl | rfl | rfl | rfl
 · refine ⟨((zbf w).1,s.2),qbwz.v ?_,?_⟩
   · simp (disch:=omega) only [S]
     refine Ev.bind (zfh hw) (zbW ?_)
     unfold zaO
     rw [if_pos rfl]
     cases (zbf w).2 <;> rfl
   · intro t' h
     unfold zaO at h
     rw [if_pos rfl] at h
     split at h
     · injection h
     · cases h
 · refine ⟨(s.1,((zas w).1.1,((zas w).1.2.1,((zas w).1.2.2.1,((zas w).1.2.2.2,s.2.2.2.2.2))))),qbwz.v ?_,?_⟩
   · simp (disch:=omega) only [S]
     refine Ev.bind (zgA hw) (zbW ?_)
     unfold zaO
     rw [if_neg (by decide),if_pos rfl]
     cases (zas w).2 <;> rfl
   · intro t' h
     unfold zaO at h
     rw [if_neg (by decide),if_pos rfl] at h
     split at h
     · injection h
     · cases h
 · refine ⟨(s.1,(s.2.1,(s.2.2.1,(s.2.2.2.1,(s.2.2.2.2.1,((zcD w).1,s.2.2.2.2.2.2)))))),qbwz.v ?_,?_⟩
   · simp (disch:=omega) only [S]
     refine Ev.bind (zhc hw) (zbW ?_)
     unfold zaO
     rw [if_neg (by decide),if_neg (by decide),if_pos rfl]
     cases (zcD w).2 <;> rfl
   · intro t' h
     unfold zaO at h
     rw [if_neg (by decide),if_neg (by decide),if_pos rfl] at h
     split at h
     · injection h
     · cases h
 · refine ⟨(s.1,(s.2.1,(s.2.2.1,(s.2.2.2.1,(s.2.2.2.2.1,(s.2.2.2.2.2.1,((zbA w).1,s.2.2.2.2.2.2.2))))))),qbwz.v ?_,?_⟩
   · simp (disch:=omega) only [S]
     refine Ev.bind (zfS hw) (zbW ?_)
     unfold zaO
     rw [if_neg (by decide),if_neg (by decide),if_neg (by decide),if_pos rfl]
     cases (zbA w).2 <;> rfl
   · intro t' h
     unfold zaO at h
     rw [if_neg (by decide),if_neg (by decide),if_neg (by decide),if_pos rfl] at h
     split at h
     · injection h
     · cases h
 · refine ⟨(s.1,(s.2.1,(s.2.2.1,(s.2.2.2.1,(s.2.2.2.2.1,(s.2.2.2.2.2.1,(s.2.2.2.2.2.2.1,s.2.2.2.2.2.2.2++[(zd4 w).1]))))))),qbwz.v ?_,?_⟩
   · simp (disch:=omega) only [S,zdE hw,zar]
     rw [znP]
     rcases zoP w with ⟨n,h0,h1,hn,hr⟩ | ⟨hr,hn⟩
     · rw [hn,hr,if_pos h0]
       refine zbW ?_
       rw [show decide (0<=n/\n<=999999)=true from decide_eq_true ⟨h0,h1⟩]
       rfl
     · rw [hr]
       rcases hn with hn | hn
       · simp only [hn,Bool.false_eq_true,if_false]
         exact zbW rfl
       · simp only [hn]
         cases (zd4 w).2
         · exact zbW rfl
         · exact zbW rfl
   · intro t' h
     rw [znP] at h
     rcases zoP w with ⟨n,h0,h1,hn,hr⟩ | ⟨hr,hn⟩
     · rw [hr,if_pos h0] at h
       rw [hn]
       injection h
     · rw [hr] at h
       simp at h
abbrev zuL:=BA×((List Wk×(Int×Ar))×Bool)
noncomputable abbrev zkJ (k:Fu) (X:List BA) (Y:BA) (Z:List BA) (m i:Int) (D:List Wk) (n:Int) (s:Ar):Option zuL:=qhuz.l0 k X Y Z m i 0 0 0 0 0 D n s.1 s.2.1 s.2.2.1 s.2.2.2.1 s.2.2.2.2.1 s.2.2.2.2.2.1 s.2.2.2.2.2.2.1 s.2.2.2.2.2.2.2
noncomputable abbrev zmK (k:Fu) (X:List BA) (Y:BA) (Z:List BA) (m i:Int) (D:List Wk) (n:Int) (s:Ar):=qfrz.l0 k X Y Z m i D n 0 s.1 s.2.1 s.2.2.1 s.2.2.2.1 s.2.2.2.2.1 s.2.2.2.2.2.1 s.2.2.2.2.2.2.1 s.2.2.2.2.2.2.2
theorem zrl {fs:List Nat} {i:Nat} (h:i < fs.length):bat (bs fs) (i:Int)=((fs.getD i 0 % 256:Nat):Int):=by
 rw [zqQ,zjl (by simpa using h)]
 have e:(fs.map UInt8.ofNat).getD i 0=UInt8.ofNat (fs.getD i 0):=by simp [h]
 rw [e,UInt8.toNat_ofNat']
theorem zhk (fs:List Nat):(bs fs).size=fs.length:=by rw [zqQ,zak,List.length_map]
theorem zrm {X:List BA} {fs:List Nat} {ws:List (List UInt8)} (hfw:fs.length=ws.length) (hl:ws.length<=1000) (hw:∀ w∈ws,w.length<=2000000) {D:List Wk} {n:Int} (s:Ar) (hs:s.2.2.2.2.2.2.2.length<=1000) {i:Nat} (hi:i < ws.length) (hc:zmI (fs.getD i 0)) :
    (zaO (fs.getD i 0) (ws.getD i []) s=none->∃ z,Ev (fun k=>zkJ k X (bs (fs.map (· + 32))) (ws.map bL) (ws.length:Int) (i:Int) D n s) (bs [],(z,false))) /\
    (∀ t,zaO (fs.getD i 0) (ws.getD i []) s=some t->∀ r,Ev (fun k=>zkJ k X (bs (fs.map (· + 32))) (ws.map bL) (ws.length:Int) ((i+1:Nat):Int) D n t) r->Ev (fun k=>zkJ k X (bs (fs.map (· + 32))) (ws.map bL) (ws.length:Int) (i:Int) D n s) r):=by
 have hwi:=hw _ (zag (z:=[]) hi)
 have hb:bat (bs (fs.map (· + 32))) (i:Int)=(((fs.getD i 0+32) % 256:Nat):Int):=by
  rw [zrl (by simp; omega)]
  have e:(fs.map (· + 32)).getD i 0=fs.getD i 0+32:=by
   have:i < fs.length:=by omega
   simp [this]
  rw [e]
 have hz:=zhk (fs.map (· + 32))
 rw [List.length_map] at hz
 have hml:(ws.map bL).length=ws.length:=List.length_map _
 have hg:=zeR ws i
 generalize fs.getD i 0=c at *
 generalize ws.getD i []=w at *
 rcases hc with rfl | rfl | rfl | rfl | rfl
 · have hE:=zju hwi
   cases hq:(zbf w).2 with
   | true =>
    refine ⟨fun h=>by unfold zaO at h; simp [hq] at h,fun t h r hr=>qhuz.v0 ?_⟩
    have ht:t=((zbf w).1,s.2):=by unfold zaO at h; simp [hq] at h; exact h.symm
    subst ht
    simp (disch:=omega) only [S,hb,hg]
    refine Ev.bind hE ?_
    simp (disch:=omega) only [S,hq]
    exact hr
   | false =>
    refine ⟨fun _=>⟨(D,(n,((zbf w).1,s.2))),qhuz.v0 ?_⟩,fun t h=>by unfold zaO at h; simp [hq] at h⟩
    simp (disch:=omega) only [S,hb,hg]
    refine Ev.bind hE ?_
    simp (disch:=omega) only [S,hq]
    exact Ev.now _
 · have hE:=zjx hwi
   cases hq:(zas w).2 with
   | true =>
    refine ⟨fun h=>by unfold zaO at h; simp [hq] at h,fun t h r hr=>qhuz.v0 ?_⟩
    have ht:t=(s.1,((zas w).1.1,((zas w).1.2.1,((zas w).1.2.2.1,((zas w).1.2.2.2,s.2.2.2.2.2))))):=by unfold zaO at h; simp [hq] at h; exact h.symm
    subst ht
    simp (disch:=omega) only [S,hb,hg]
    refine Ev.bind hE ?_
    simp (disch:=omega) only [S,hq]
    exact hr
   | false =>
    refine ⟨fun _=>⟨(D,(n,(s.1,((zas w).1.1,((zas w).1.2.1,((zas w).1.2.2.1,((zas w).1.2.2.2,s.2.2.2.2.2))))))),qhuz.v0 ?_⟩,fun t h=>by unfold zaO at h; simp [hq] at h⟩
    simp (disch:=omega) only [S,hb,hg]
    refine Ev.bind hE ?_
    simp (disch:=omega) only [S,hq]
    exact Ev.now _
 · have hE:=zjv hwi
   cases hq:(zcD w).2 with
   | true =>
    refine ⟨fun h=>by unfold zaO at h; simp [hq] at h,fun t h r hr=>qhuz.v0 ?_⟩
    have ht:t=(s.1,(s.2.1,(s.2.2.1,(s.2.2.2.1,(s.2.2.2.2.1,((zcD w).1,s.2.2.2.2.2.2)))))):=by unfold zaO at h; simp [hq] at h; exact h.symm
    subst ht
    simp (disch:=omega) only [S,hb,hg]
    refine Ev.bind hE ?_
    simp (disch:=omega) only [S,hq]
    exact hr
   | false =>
    refine ⟨fun _=>⟨(D,(n,(s.1,(s.2.1,(s.2.2.1,(s.2.2.2.1,(s.2.2.2.2.1,((zcD w).1,s.2.2.2.2.2.2)))))))),qhuz.v0 ?_⟩,fun t h=>by unfold zaO at h; simp [hq] at h⟩
    simp (disch:=omega) only [S,hb,hg]
    refine Ev.bind hE ?_
    simp (disch:=omega) only [S,hq]
    exact Ev.now _
 · have hE:=zjw hwi
   cases hq:(zbA w).2 with
   | true =>
    refine ⟨fun h=>by unfold zaO at h; simp [hq] at h,fun t h r hr=>qhuz.v0 ?_⟩
    have ht:t=(s.1,(s.2.1,(s.2.2.1,(s.2.2.2.1,(s.2.2.2.2.1,(s.2.2.2.2.2.1,((zbA w).1,s.2.2.2.2.2.2.2))))))):=by unfold zaO at h; simp [hq] at h; exact h.symm
    subst ht
    simp (disch:=omega) only [S,hb,hg]
    refine Ev.bind hE ?_
    simp (disch:=omega) only [S,hq]
    exact hr
   | false =>
    refine ⟨fun _=>⟨(D,(n,(s.1,(s.2.1,(s.2.2.1,(s.2.2.2.1,(s.2.2.2.2.1,(s.2.2.2.2.2.1,((zbA w).1,s.2.2.2.2.2.2.2))))))))),qhuz.v0 ?_⟩,fun t h=>by unfold zaO at h; simp [hq] at h⟩
    simp (disch:=omega) only [S,hb,hg]
    refine Ev.bind hE ?_
    simp (disch:=omega) only [S,hq]
    exact Ev.now _
 · have hE:=zaI hwi
   by_cases hq:0<=l1r w
   · refine ⟨fun h=>by unfold zaO at h; simp [hq] at h,fun t h r hr=>qhuz.v0 ?_⟩
     have ht:t=(s.1,(s.2.1,(s.2.2.1,(s.2.2.2.1,(s.2.2.2.2.1,(s.2.2.2.2.2.1,(s.2.2.2.2.2.2.1,s.2.2.2.2.2.2.2++[l1r w]))))))):=by unfold zaO at h; simp [hq] at h; exact h.symm
     subst ht
     simp (disch:=omega) only [S,hb,hg]
     refine Ev.bind hE ?_
     simp (disch:=omega) only [S]
     exact hr
   · refine ⟨fun _=>⟨(D,(n,(s.1,(s.2.1,(s.2.2.1,(s.2.2.2.1,(s.2.2.2.2.1,(s.2.2.2.2.2.1,(s.2.2.2.2.2.2.1,s.2.2.2.2.2.2.2++[l1r w]))))))))),qhuz.v0 ?_⟩,fun t h=>by unfold zaO at h; simp [hq] at h⟩
     simp (disch:=omega) only [S,hb,hg]
     refine Ev.bind hE ?_
     simp (disch:=omega) only [S]
     exact Ev.now _
def zf2:BA:=bs [119,104,97,116]
def noB:BA:=bs [110,111]
abbrev ChR:=(List Wk×Int)×(BA×(Bool×Ar))
def fin (D:List Wk) (n:Int) (R:ChR):(List Wk×Int)×BA:=if R.2.2.1=true then (R.1,R.2.1) else ((D,n),noB)
theorem zrn {w0:List UInt8} {fs:List Nat} {ws:List (List UInt8)} (hf:∀ c∈fs,zmI c) (hfw:fs.length=ws.length) (hl:ws.length<=1000) (hw:∀ w∈ws,w.length<=2000000) {D:List Wk} {n:Int} :
    ∀ (d i:Nat),i+d=ws.length->∀ s:Ar,s.2.2.2.2.2.2.2.length<=i ->
     (zf1 (fs.drop i) (ws.drop i) s=none->Ev (fun k=>zmK k (bL w0::ws.map bL) (bs fs) (ws.map bL) (ws.length:Int) (i:Int) D n s) ((D,n),zf2) /\
      ∃ z,Ev (fun k=>zkJ k (bL w0::ws.map bL) (bs (fs.map (· + 32))) (ws.map bL) (ws.length:Int) (i:Int) D n s) (bs [],(z,false))) /\
     (∀ t,zf1 (fs.drop i) (ws.drop i) s=some t ->
      (∀ R:ChR,Ev (fun k=>qctz.f k D n (bL w0) t.1 t.2.1 t.2.2.1 t.2.2.2.1 t.2.2.2.2.1 t.2.2.2.2.2.1 t.2.2.2.2.2.2.1 t.2.2.2.2.2.2.2) R->Ev (fun k=>zmK k (bL w0::ws.map bL) (bs fs) (ws.map bL) (ws.length:Int) (i:Int) D n s) (fin D n R)) /\
      Ev (fun k=>zkJ k (bL w0::ws.map bL) (bs (fs.map (· + 32))) (ws.map bL) (ws.length:Int) (i:Int) D n s) (bL w0,((D,(n,t)),true))):=by
 have hX:∀ {β:Type} (x:Option β),gd (0 < (((bL w0::ws.map bL).length:Nat):Int)) x=x:=fun x=>S.1 (by rw [List.length_cons]; omega)
 intro d
 induction d with
 | zero =>
  intro i hi s hs
  rw [List.drop_eq_nil_of_le (by omega)]
  refine ⟨fun h=>by simp [zf1] at h,fun t ht=>?_⟩
  have ht:t=s:=by simp [zf1] at ht; exact ht.symm
  subst ht
  refine ⟨fun R hR=>qfrz.v0 ?_,qhuz.v0 ?_⟩
  · simp (disch:=omega) only [S,hX,rd0]
    refine Ev.bind hR ?_
    unfold fin
    cases R.2.2.1
    · exact Ev.now _
    · exact Ev.now _
  · simp (disch:=omega) only [S,hX,rd0]
    exact Ev.now _
 | succ d ih =>
  intro i hi s hs
  have hif:i < fs.length:=by omega
  have hc:=hf _ (zag (z:=0) hif)
  have hwi:=hw _ (zag (z:=[]) (show i < ws.length by omega))
  obtain ⟨p1,p2⟩:=zrm (X:=bL w0::ws.map bL) (D:=D) (n:=n) hfw hl hw s (by omega) (show i < ws.length by omega) hc
  obtain ⟨t0,q1,q2⟩:=zmJ hc hwi s (by omega)
  have hb:bat (bs fs) (i:Int)=((fs.getD i 0:Nat):Int):=by
   rw [zrl hif]
   rcases hc with e | e | e | e | e <;> rw [e]
  have hz:=zhk fs
  have hml:(ws.map bL).length=ws.length:=List.length_map _
  rw [zav 0 hif,zav [] (show i < ws.length by omega)]
  cases hA:zaO (fs.getD i 0) (ws.getD i []) s with
  | none =>
   refine ⟨fun _=>⟨qfrz.v0 ?_,p1 hA⟩,fun t ht=>by
    have h':(zaO (fs.getD i 0) (ws.getD i []) s).bind (zf1 (fs.drop (i+1)) (ws.drop (i+1)))=some t:=ht
    rw [hA] at h'; cases h'⟩
   rw [hA] at q1
   simp (disch:=omega) only [S,hb,zeR]
   refine Ev.bind q1 ?_
   exact Ev.now _
  | some t1 =>
   rw [hA] at q1
   have e:=q2 t1 hA
   subst e
   have hlen:t0.2.2.2.2.2.2.2.length<=i+1:=by
    unfold zaO at hA
    split at hA
    · split at hA
      · injection hA with hA; subst hA; exact Nat.le_succ_of_le hs
      · cases hA
    · split at hA
      · split at hA
        · injection hA with hA; subst hA; exact Nat.le_succ_of_le hs
        · cases hA
      · split at hA
        · split at hA
          · injection hA with hA; subst hA; exact Nat.le_succ_of_le hs
          · cases hA
        · split at hA
          · split at hA
            · injection hA with hA; subst hA; exact Nat.le_succ_of_le hs
            · cases hA
          · split at hA
            · injection hA with hA; subst hA; simp; omega
            · cases hA
   obtain ⟨i1,i2⟩:=ih (i+1) (by omega) t0 hlen
   have step:∀ r,Ev (fun k=>zmK k (bL w0::ws.map bL) (bs fs) (ws.map bL) (ws.length:Int) ((i+1:Nat):Int) D n t0) r->Ev (fun k=>zmK k (bL w0::ws.map bL) (bs fs) (ws.map bL) (ws.length:Int) (i:Int) D n s) r:=by
    intro r hr
    refine qfrz.v0 ?_
    simp (disch:=omega) only [S,hb,zeR]
    refine Ev.bind q1 ?_
    simp (disch:=omega) only [S,Option.isSome_some]
    exact hr
   have hT:zf1 (fs.getD i 0::fs.drop (i+1)) (ws.getD i []::ws.drop (i+1)) s=zf1 (fs.drop (i+1)) (ws.drop (i+1)) t0:=by
    show (zaO _ _ s).bind _=_
    rw [hA]; rfl
   rw [hT]
   refine ⟨fun h=>?_,fun t h=>?_⟩
   · obtain ⟨a,z,b⟩:=i1 h
     exact ⟨step _ a,z,p2 t0 hA _ b⟩
   · obtain ⟨a,b⟩:=i2 t h
     exact ⟨fun R hR=>step _ (a R hR),p2 t0 hA _ b⟩
theorem BQ:(∀ a b:List Nat,seq (bs a) (bs b)=beqN a b)/\(beqN [] []=true)/\(∀ (a b:Nat) (l m:List Nat),beqN (a::l) (b::m)=((a % 256 == b % 256) && beqN l m))/\(∀ (b:Nat) (m:List Nat),beqN [] (b::m)=false)/\(∀ (a:Nat) (l:List Nat),beqN (a::l) []=false)/\(∀ b:Bool,(true && b)=b)/\(∀ b:Bool,(false && b)=false) :=
 ⟨sqn,rfl,fun _ _ _ _=>rfl,fun _ _=>rfl,fun _ _=>rfl,fun _=>rfl,fun _=>rfl⟩
theorem LN:(∀ {α:Type} (a:α) (l:List α),(a::l).length=l.length+1)/\(∀ {α:Type},([]:List α).length=0)/\(∀ {α:Type} (z a:α) (l:List α),rd z (a::l) 0=a)/\(∀ {α:Type} (z a b:α) (l:List α),rd z (a::b::l) 1=b)/\(∀ {α:Type} (z a b c:α) (l:List α),rd z (a::b::c::l) 2=c)/\(∀ {α:Type} (l:List α),[]++l=l) :=
 ⟨fun _ _=>rfl,rfl,fun _ _ _=>rfl,fun _ _ _ _=>rfl,fun _ _ _ _ _=>rfl,fun _=>rfl⟩
noncomputable abbrev chgF (k:Fu) (D:List Wk) (n:Int) (w:BA) (t:Ar):Option ChR:=qctz.f k D n w t.1 t.2.1 t.2.2.1 t.2.2.2.1 t.2.2.2.2.1 t.2.2.2.2.2.1 t.2.2.2.2.2.2.1 t.2.2.2.2.2.2.2
abbrev StR:=BA×(List Wk×(Int×Ar))
noncomputable abbrev movF (k:Fu) (D:List Wk) (n:Int) (t:Ar) (w:BA):Option StR:=qcfz.f k D n t.1 t.2.1 t.2.2.1 t.2.2.2.1 t.2.2.2.2.1 t.2.2.2.2.2.1 t.2.2.2.2.2.2.1 t.2.2.2.2.2.2.2 w
noncomputable abbrev asdF (k:Fu) (D:List Wk) (n:Int) (t:Ar) (w:BA):Option StR:=qcoz.f k D n t.1 t.2.1 t.2.2.1 t.2.2.2.1 t.2.2.2.2.1 t.2.2.2.2.2.1 t.2.2.2.2.2.2.1 t.2.2.2.2.2.2.2 w
noncomputable abbrev askF (k:Fu) (D:List Wk) (n:Int) (w:BA) (t:Ar):Option (BA×(Bool×Ar)):=qfkz.f k D n w t.1 t.2.1 t.2.2.1 t.2.2.2.1 t.2.2.2.2.1 t.2.2.2.2.2.1 t.2.2.2.2.2.2.1 t.2.2.2.2.2.2.2
def Act (w:BA) (t:Ar) (D:List Wk) (n:Int):Prop:=∃ r:(List Wk×Int)×BA,dOk r.1.1 r.1.2=true/\(∃ R:ChR,Ev (fun k=>chgF k D n w t) R/\r=fin D n R) /\
 ∀ line,Ev (fun k=>qhuz.f k D n line) (w,((D,(n,t)),true))->Ev (fun k=>qhlz.f k D n line) r
theorem zat {D:List Wk} {n:Int}:dOk D n=true ↔ zap 8 wOk D=true/\(1<=n/\n<=1000):=by unfold dOk; rw [Bool.and_eq_true,decide_eq_true_eq]
theorem zjN (X:List Wk) (n:Int) (t:Ar):Ev (fun k=>(qgpz.f k X n).bind fun t0=>if (!t0) then some ((X,n),(bs [],(false,t))) else (qddz.f k X).bind fun t1=>some ((X,n),(t1.1,(t1.2,t)))) (if dOk X n=true then ((X,n),(bL (wkT X),(true,t))) else ((X,n),(bs [],(false,t)))):=by
 refine Ev.bind (zfr X n) ?_
 cases h:dOk X n with
 | false=>simp only [S]; exact Ev.now _
 | true =>
  simp only [S]
  refine Ev.bind (zfT X) ?_
  rw [if_pos (zat.1 h).1]
  exact Ev.now _
theorem zoQ (D X:List Wk) (n:Int) (t:Ar):Ev (fun k=>qdvz.f k D n t.1 t.2.1 t.2.2.1 t.2.2.2.1 t.2.2.2.2.1 t.2.2.2.2.2.1 t.2.2.2.2.2.2.1 t.2.2.2.2.2.2.2 X) (if zap 8 wOk X=true then (bL (wkT X),(X,(n,t))) else (noB,(D,(n,t)))):=by
 refine qdvz.v (Ev.bind (zbt X) ?_)
 cases h:zap 8 wOk X with
 | false=>simp only [S]; exact Ev.now _
 | true =>
  simp only [S]
  exact Ev.bind (zcE h) (Ev.now _)
theorem zc9 {w:BA} {t:Ar} {D X:List Wk} {n m:Int} (hD:dOk D n=true)
    (h1:Ev (fun k=>chgF k D n w t) (if dOk X m=true then ((X,m),(bL (wkT X),(true,t))) else ((X,m),(bs [],(false,t)))))
    (h2:∃ Z:StR,Ev (fun k=>movF k D n t w) Z/\((Z.2.1,Z.2.2.1),Z.1)=(if dOk X m=true then ((X,m),bL (wkT X)) else ((D,n),noB)))
    (h3:∀ Z:StR,Ev (fun k=>movF k D n t w) Z->∀ line,Ev (fun k=>qhuz.f k D n line) (w,((D,(n,t)),true))->Ev (fun k=>qhlz.f k D n line) ((Z.2.1,Z.2.2.1),Z.1)):Act w t D n:=by
 obtain ⟨Z,z1,z2⟩:=h2
 refine ⟨if dOk X m=true then ((X,m),bL (wkT X)) else ((D,n),noB),?_,⟨_,h1,?_⟩,fun line hl=>by rw [<- z2]; exact h3 Z z1 line hl⟩
 · split
   · assumption
   · exact hD
 · unfold fin
   split <;> rfl
theorem zsS {w:BA} {t:Ar} {D:List Wk} {n:Int} (hD:dOk D n=true) {R:ChR} (h1:Ev (fun k=>chgF k D n w t) R) (hR:R.2.2.1=false) (h3:∀ line,Ev (fun k=>qhuz.f k D n line) (w,((D,(n,t)),true))->Ev (fun k=>qhlz.f k D n line) ((D,n),noB)):Act w t D n :=
 ⟨((D,n),noB),hD,⟨R,h1,by unfold fin; rw [hR]; rfl⟩,h3⟩
theorem zbm {w:BA} {t:Ar} {D:List Wk} {n:Int} (hD:dOk D n=true)
    (h1:∀ r,Ev (fun k=>askF k D n w t) r->Ev (fun k=>chgF k D n w t) ((D,n),r))
    (h2:∀ Z:StR,Ev (fun k=>asdF k D n t w) Z->∀ line,Ev (fun k=>qhuz.f k D n line) (w,((D,(n,t)),true))->Ev (fun k=>qhlz.f k D n line) ((D,n),Z.1))
    (h3:∃ (T:BA) (ok:Bool),Ev (fun k=>askF k D n w t) (T,(ok,t))/\Ev (fun k=>asdF k D n t w) ((if ok=true then T else noB),(D,(n,t)))):Act w t D n:=by
 obtain ⟨T,ok,a,b⟩:=h3
 refine ⟨((D,n),if ok=true then T else noB),hD,⟨_,h1 _ a,?_⟩,h2 _ b⟩
 unfold fin
 cases ok <;> rfl
abbrev Ans (F:Fu->Option (BA×(Bool×Ar))) (G:Fu->Option StR) (D:List Wk) (n:Int) (t:Ar):Prop:=∃ (T:BA) (ok:Bool),Ev F (T,(ok,t))/\Ev G ((if ok=true then T else noB),(D,(n,t)))
theorem zeZ {F G:Fu->Option R3} (D:List Wk) (n:Int) (t:Ar) (h:Same3 F G):Ans (fun k=>(F k).bind fun t0=>(qilz.f k t0.1 t0.2.1 t0.2.2).bind fun t1=>some (t1.1,(t1.2,t))) (fun k=>(G k).bind fun t0=>(qgzz.f k t0.1 t0.2.1 t0.2.2).bind fun t1=>some (t1,(D,(n,t)))) D n t:=by
 obtain ⟨r,a,b,c,d⟩:=h
 refine ⟨bL (numT 47 [r.1,r.2.1]),r.2.2,Ev.bind a (Ev.bind (zhO c d _) (Ev.now _)),Ev.bind b (Ev.bind (zdQ c d _) (zbW ?_))⟩
 unfold zgC
 cases r.2.2 <;> rfl
abbrev Ans2 (F:Fu->Option (BA×Bool)) (G:Fu->Option StR) (D:List Wk) (n:Int) (t:Ar):Prop:=∃ (T:BA) (ok:Bool),Ev F (T,ok)/\Ev G ((if ok=true then T else noB),(D,(n,t)))
theorem zik {F G:Fu->Option R3} (D:List Wk) (n:Int) (t:Ar) (h:Same3 F G):Ans2 (fun k=>(F k).bind fun t0=>(qilz.f k t0.1 t0.2.1 t0.2.2).bind fun t1=>some t1) (fun k=>(G k).bind fun t0=>(qgzz.f k t0.1 t0.2.1 t0.2.2).bind fun t1=>some (t1,(D,(n,t)))) D n t:=by
 obtain ⟨r,a,b,c,d⟩:=h
 refine ⟨bL (numT 47 [r.1,r.2.1]),r.2.2,Ev.bind a (Ev.bind (zhO c d _) (Ev.now _)),Ev.bind b (Ev.bind (zdQ c d _) (zbW ?_))⟩
 unfold zgC
 cases r.2.2 <;> rfl
theorem zlv {F G:Fu->Option (List Int×Bool)} {L:List Int} (D:List Wk) (n:Int) (t:Ar) (a:Ev F (L,true)) (b:Ev G (L,true)) (hl:L.length<=1000000) (hL:∀ x∈L,i64 x):Ans (fun k=>(F k).bind fun t0=>(qftz.f k t0.1 t0.2).bind fun t1=>some (t1.1,(t1.2,t))) (fun k=>(G k).bind fun t0=>(qhjz.f k t0.1 t0.2).bind fun t1=>some (t1,(D,(n,t)))) D n t :=
 ⟨bL (znF L),true,Ev.bind a (Ev.bind (zeU hl hL _) (Ev.now _)),Ev.bind b (Ev.bind (zdR hl hL _) (Ev.now _))⟩
theorem zkK (c1 c2:BA) (b:Bool):Ev (fun k=>qifz.f k [] c1 c2 b) (bs [45],b):=by
 refine qifz.v ?_
 simp (disch:=omega) only [S,LN]
 exact Ev.now _
theorem ztK {F G:Fu->Option (List (List Int)×Bool)} {L:List (List Int)} (D:List Wk) (n:Int) (t:Ar) (a:Ev F (L,true)) (b:Ev G (L,true)) (hl:L.length<=1000) (hL:zfX L):Ans (fun k=>(F k).bind fun t0=>(qifz.f k t0.1 (bs [44]) (bs [32]) t0.2).bind fun t1=>some (t1.1,(t1.2,t))) (fun k=>(G k).bind fun t0=>(qhrz.f k t0.1 t0.2).bind fun t1=>some (t1,(D,(n,t)))) D n t:=by
 by_cases h0:L=[]
 · subst h0
   refine ⟨bs [45],true,Ev.bind a (Ev.bind (zkK _ _ _) (Ev.now _)),Ev.bind b (Ev.bind (v:=bs [45]) (qhrz.v ?_) (Ev.now _))⟩
   simp (disch:=omega) only [S,LN]
   exact Ev.now _
 · have h0':0 < L.length:=List.length_pos_iff.2 h0
   refine ⟨bL (znG 44 32 L),true,Ev.bind a (Ev.bind (zgB h0' hl (fun r hr=>by have:=hL r hr; exact ⟨by omega,this.2⟩) _) (Ev.now _)),Ev.bind b (Ev.bind (zj5 h0' hl (fun r hr=>by have:=hL r hr; exact ⟨by omega,this.2⟩)) (Ev.now _))⟩
theorem zro {F G:Fu->Option (List (List Int)×Bool)} {r:List (List Int)×Bool} (D:List Wk) (n:Int) (t:Ar) (a:Ev F r) (b:Ev G r) (hL:zfX r.1) (hl:r.1.length<=1000) (h1:r.2=true->0 < r.1.length) (h2:r.2=false->r.1=[]):Ans2 (fun k=>(F k).bind fun t0=>(qifz.f k t0.1 (bs [47]) (bs [44]) t0.2).bind fun t1=>some t1) (fun k=>(G k).bind fun t0=>(qgkz.f k t0.1 t0.2).bind fun t1=>some (t1,(D,(n,t)))) D n t:=by
 obtain ⟨L,b0⟩:=r
 cases b0 with
 | false =>
  have:L=[]:=h2 rfl
  subst this
  refine ⟨bs [45],false,Ev.bind a (Ev.bind (zkK _ _ _) (Ev.now _)),Ev.bind b (Ev.bind (v:=noB) (qgkz.v ?_) (Ev.now _))⟩
  simp only [S]
  exact Ev.now _
 | true =>
  refine ⟨bL (znG 47 44 L),true,Ev.bind a (Ev.bind (zgB (h1 rfl) hl (fun r hr=>by have:=hL r hr; exact ⟨by omega,this.2⟩) _) (Ev.now _)),Ev.bind b (Ev.bind (zjy hl hL) (Ev.now _))⟩
section
variable {D:List Wk} {n:Int} (hD:dOk D n=true)
include hD
theorem dlen:1<=D.length/\D.length<=8:=(zal.1 (zat.1 hD).1).1
theorem dmem:∀ w∈D,wOk w=true:=(zal.1 (zat.1 hD).1).2
theorem znQ {X:List Wk} (hX:zap 8 wOk X=true):Act (bs [119,97,108,107,101,114,115]) (X,(0,(0,(0,(0,([],([],[]))))))) D n:=by
 have hl:=dlen hD
 have hn:=(zat.1 hD).2
 have e:dOk X n=true:=zat.2 ⟨hX,hn⟩
 refine zc9 (X:=X) (m:=n) hD (qctz.v (by simp (disch:=omega) only [↓reduceIte,BQ,Nat.reduceMod,Nat.reduceBEq,LN,S]; exact zjN _ _ _)) ⟨_,qcfz.v (by simp (disch:=omega) only [↓reduceIte,BQ,Nat.reduceMod,Nat.reduceBEq,LN,S]; exact Ev.bind (zoQ D X n (X,(0,(0,(0,(0,([],([],[])))))))) (Ev.now _)),?_⟩ (fun Z h line hr=>qhlz.v (Ev.bind hr (by simp (disch:=omega) only [↓reduceIte,BQ,Nat.reduceMod,Nat.reduceBEq,LN,S]; exact Ev.bind h (Ev.now _))))
 rw [if_pos hX,if_pos e]
theorem zrp (X:List Wk) (hX:X.length<=1000):Ev (fun k=>qbez.f k [D,X]) (D++X):=by
 have hl:=dlen hD
 have w1:W (0+1)=1:=by decide
 have w2:W (1+1)=2:=by decide
 have x0:∀ {β:Type} (x:Option β),ix 0 [D,X] x=x:=fun x=>S.2.1 (by decide) (show (0:Int) < 2 by decide)
 have x1:∀ {β:Type} (x:Option β),ix 1 [D,X] x=x:=fun x=>S.2.1 (by decide) (show (1:Int) < 2 by decide)
 have hln:ln [D,X]=2:=rfl
 refine qbez.v (qbez.v0 ?_)
 simp only [w1,x0,hln,LN]
 simp (disch:=omega) only [S]
 refine qbez.v0 ?_
 simp only [w2,x1,LN]
 simp (disch:=omega) only [S]
 refine qbez.v0 ?_
 simp only [hln]
 simp (disch:=omega) only [S]
 refine qbez.v1 ?_
 simp only [w1,x0,LN]
 simp (disch:=omega) only [S,LN]
 refine qbez.v1 ?_
 simp only [w2,x1,LN]
 simp (disch:=omega) only [S]
 refine qbez.v1 ?_
 simp (disch:=omega) only [S]
 exact Ev.now _
theorem ztL {X:List Wk} (hX:zap 8 wOk X=true):Act (bs [97,100,100]) (X,(0,(0,(0,(0,([],([],[]))))))) D n:=by
 have hl:=dlen hD
 have hn:=(zat.1 hD).2
 have hx:=(zal.1 hX).1
 have e:dOk (D++X) n=zap 8 wOk (D++X):=by unfold dOk; rw [decide_eq_true hn,Bool.and_true]
 refine zc9 (X:=D++X) (m:=n) hD (qctz.v (by simp (disch:=omega) only [↓reduceIte,BQ,Nat.reduceMod,Nat.reduceBEq,LN,S]; exact Ev.bind (zrp hD X (by omega)) (zjN _ _ _))) ⟨_,qcfz.v (by simp (disch:=omega) only [↓reduceIte,BQ,Nat.reduceMod,Nat.reduceBEq,LN,S]; exact Ev.bind (zoQ D (D++X) n (X,(0,(0,(0,(0,([],([],[])))))))) (Ev.now _)),?_⟩ (fun Z h line hr=>qhlz.v (Ev.bind hr (by simp (disch:=omega) only [↓reduceIte,BQ,Nat.reduceMod,Nat.reduceBEq,LN,S]; exact Ev.bind h (Ev.now _))))
 rw [e]
 split <;> rfl
theorem zsk {m:Nat} (hm:m<=999999):Act (bs [114,105,110,103]) ([],(0,(0,(0,(0,([],([],[(m:Int)]))))))) D n:=by
 have hl:=dlen hD
 have hn:=(zat.1 hD).2
 by_cases hm1:1<=(m:Int)/\(m:Int)<=1000
 · have e:dOk D (m:Int)=true:=zat.2 ⟨(zat.1 hD).1,hm1⟩
   refine zc9 (X:=D) (m:=(m:Int)) hD (qctz.v (by simp (disch:=omega) only [↓reduceIte,BQ,Nat.reduceMod,Nat.reduceBEq,LN,S]; exact zjN _ _ _)) ⟨_,qcfz.v (by simp (disch:=omega) only [↓reduceIte,BQ,Nat.reduceMod,Nat.reduceBEq,LN,S,zaq,decide_eq_true hm1]; exact Ev.bind (zcE (zat.1 hD).1) (Ev.now _)),?_⟩ (fun Z h line hr=>qhlz.v (Ev.bind hr (by simp (disch:=omega) only [↓reduceIte,BQ,Nat.reduceMod,Nat.reduceBEq,LN,S]; exact Ev.bind h (Ev.now _))))
   rw [if_pos e]
 · have e:¬ dOk D (m:Int)=true:=fun h=>hm1 (zat.1 h).2
   refine zc9 (X:=D) (m:=(m:Int)) hD (qctz.v (by simp (disch:=omega) only [↓reduceIte,BQ,Nat.reduceMod,Nat.reduceBEq,LN,S]; exact zjN _ _ _)) ⟨_,qcfz.v (by simp (disch:=omega) only [↓reduceIte,BQ,Nat.reduceMod,Nat.reduceBEq,LN,S,zaq,decide_eq_false hm1]; exact Ev.now _),?_⟩ (fun Z h line hr=>qhlz.v (Ev.bind hr (by simp (disch:=omega) only [↓reduceIte,BQ,Nat.reduceMod,Nat.reduceBEq,LN,S]; exact Ev.bind h (Ev.now _))))
   rw [if_neg e]; rfl
theorem zch (m:Nat):qbvz.f D n (m:Int)=some (decide (m < D.length)):=by
 have hl:=dlen hD
 unfold qbvz.f
 simp (disch:=omega) only [S,zar]
 by_cases h:m < D.length
 · rw [decide_eq_true h,decide_eq_true (by omega)]
 · rw [decide_eq_false h,decide_eq_false (by omega)]
theorem zoR:qbfz.f D=some D:=by
 have hl:=dlen hD
 unfold qbfz.f
 exact S.1 (by omega)
theorem zsl {m:Nat} (hm:m<=999999):Act (bs [116,117,114,110]) ([],(0,(0,(0,(0,([],([],[(m:Int)]))))))) D n:=by
 have hl:=dlen hD
 have hn:=(zat.1 hD).2
 by_cases hm1:m < D.length
 · have hw:=zaU.1 (dmem hD _ (zag (z:=(0,0)) hm1))
   have w1:(D.getD m (0,0)).2*(-1) = -(D.getD m (0,0)).2:=by omega
   have w2:0-(D.getD m (0,0)).2 = -(D.getD m (0,0)).2:=by omega
   have hok:zap 8 wOk (D.set m ((D.getD m (0,0)).1,-(D.getD m (0,0)).2))=true:=zal.2 ⟨by rw [List.length_set]; exact hl,fun w h=>by
    rcases List.mem_or_eq_of_mem_set h with h | h
    · exact dmem hD w h
    · rw [h]; exact zaU.2 ⟨hw.1,by simp only []; omega⟩⟩
   have e:dOk (D.set m ((D.getD m (0,0)).1,-(D.getD m (0,0)).2)) n=true:=zat.2 ⟨hok,hn⟩
   refine zc9 (X:=D.set m ((D.getD m (0,0)).1,-(D.getD m (0,0)).2)) (m:=n) hD (qctz.v (by simp (disch:=omega) only [↓reduceIte,BQ,Nat.reduceMod,Nat.reduceBEq,LN,S,w1,zch hD,zoR hD,decide_eq_true hm1]; exact zjN _ _ _)) ⟨_,qcfz.v (by simp (disch:=omega) only [↓reduceIte,BQ,Nat.reduceMod,Nat.reduceBEq,LN,S,w2]; exact Ev.bind (zoQ D _ n ([],(0,(0,(0,(0,([],([],[(m:Int)])))))))) (Ev.now _)),?_⟩ (fun Z h line hr=>qhlz.v (Ev.bind hr (by simp (disch:=omega) only [↓reduceIte,BQ,Nat.reduceMod,Nat.reduceBEq,LN,S]; exact Ev.bind h (Ev.now _))))
   rw [if_pos e,if_pos hok]
 · refine zsS hD (R:=((D,n),(bs [],(false,_)))) (qctz.v (by simp (disch:=omega) only [↓reduceIte,BQ,Nat.reduceMod,Nat.reduceBEq,LN,S,zch hD,decide_eq_false hm1]; exact Ev.now _)) rfl (fun line hr=>qhlz.v (Ev.bind hr (by simp (disch:=omega) only [↓reduceIte,BQ,Nat.reduceMod,Nat.reduceBEq,LN,S]; exact Ev.bind (v:=(noB,(D,(n,_)))) (qcfz.v (by simp (disch:=omega) only [↓reduceIte,BQ,Nat.reduceMod,Nat.reduceBEq,LN,S]; exact Ev.now _)) (Ev.now _))))
theorem zsm {m:Nat} (hm:m<=999999):Act (bs [100,114,111,112]) ([],(0,(0,(0,(0,([],([],[(m:Int)]))))))) D n:=by
 have hl:=dlen hD
 have hn:=(zat.1 hD).2
 by_cases hm1:m < D.length
 · have lt:(D.drop (m+1)).take (D.length-(m+1))=D.drop (m+1):=List.take_of_length_le (by simp)
   have e:dOk (D.take m++D.drop (m+1)) n=zap 8 wOk (D.take m++D.drop (m+1)):=by unfold dOk; rw [decide_eq_true hn,Bool.and_true]
   refine zc9 (X:=D.take m++D.drop (m+1)) (m:=n) hD (qctz.v (by simp (disch:=omega) only [↓reduceIte,BQ,Nat.reduceMod,Nat.reduceBEq,LN,S,zch hD,zoR hD,decide_eq_true hm1]; exact zjN _ _ _)) ⟨_,qcfz.v (by simp (disch:=omega) only [↓reduceIte,BQ,Nat.reduceMod,Nat.reduceBEq,LN,S,List.length_take,List.length_drop]; rw [lt]; exact Ev.bind (zoQ D _ n ([],(0,(0,(0,(0,([],([],[(m:Int)])))))))) (Ev.now _)),?_⟩ (fun Z h line hr=>qhlz.v (Ev.bind hr (by simp (disch:=omega) only [↓reduceIte,BQ,Nat.reduceMod,Nat.reduceBEq,LN,S]; exact Ev.bind h (Ev.now _))))
   rw [e]
   split <;> rfl
 · refine zsS hD (R:=((D,n),(bs [],(false,_)))) (qctz.v (by simp (disch:=omega) only [↓reduceIte,BQ,Nat.reduceMod,Nat.reduceBEq,LN,S,zch hD,decide_eq_false hm1]; exact Ev.now _)) rfl (fun line hr=>qhlz.v (Ev.bind hr (by simp (disch:=omega) only [↓reduceIte,BQ,Nat.reduceMod,Nat.reduceBEq,LN,S]; exact Ev.bind (v:=(noB,(D,(n,_)))) (qcfz.v (by simp (disch:=omega) only [↓reduceIte,BQ,Nat.reduceMod,Nat.reduceBEq,LN,S]; exact Ev.now _)) (Ev.now _))))
theorem zsn  : Act (bs [115,104,111,119]) ([],(0,(0,(0,(0,([],([],[]))))))) D n:=by
 have hl:=dlen hD
 have hn:=(zat.1 hD).2
 refine ⟨((D,n),bL (wkT D)),hD,⟨_,qctz.v (by simp (disch:=omega) only [↓reduceIte,BQ,Nat.reduceMod,Nat.reduceBEq,LN,S]; exact zjN _ _ _),by unfold fin; rw [if_pos hD]; rfl⟩,fun line hr=>qhlz.v (Ev.bind hr (by simp (disch:=omega) only [↓reduceIte,BQ,Nat.reduceMod,Nat.reduceBEq,LN,S]; exact Ev.bind (qcoz.v (by simp (disch:=omega) only [↓reduceIte,BQ,Nat.reduceMod,Nat.reduceBEq,LN,S]; exact Ev.bind (zcE (zat.1 hD).1) (Ev.now _))) (Ev.now _)))⟩
theorem zrq  : Act (bs [115,116,97,114,116]) ([],(0,(0,(0,(0,([],([],[]))))))) D n:=by
 have hl:=dlen hD
 have hn:=(zat.1 hD).2
 refine zbm hD (fun r h=>qctz.v (by simp (disch:=omega) only [↓reduceIte,BQ,Nat.reduceMod,Nat.reduceBEq,LN,S]; exact Ev.bind h (Ev.now _))) (fun Z h line hr=>qhlz.v (Ev.bind hr (by simp (disch:=omega) only [↓reduceIte,BQ,Nat.reduceMod,Nat.reduceBEq,LN,S]; exact Ev.bind h (Ev.now _)))) ?_
 obtain ⟨T,ok,x,y⟩:=zeZ D n ([],(0,(0,(0,(0,([],([],[]))))))) (zjE (zat.1 hD).1 hn)
 exact ⟨T,ok,qfkz.v (by simp (disch:=omega) only [↓reduceIte,BQ,Nat.reduceMod,Nat.reduceBEq,LN,S]; exact x),qcoz.v (by simp (disch:=omega) only [↓reduceIte,BQ,Nat.reduceMod,Nat.reduceBEq,LN,S]; exact y)⟩
theorem zso  : Act (bs [108,101,97,100]) ([],(0,(0,(0,(0,([],([],[]))))))) D n:=by
 have hl:=dlen hD
 have hn:=(zat.1 hD).2
 obtain ⟨L,l1,l2,l3,l4⟩:=zj9 (zat.1 hD).1
 refine zbm hD (fun r h=>qctz.v (by simp (disch:=omega) only [↓reduceIte,BQ,Nat.reduceMod,Nat.reduceBEq,LN,S]; exact Ev.bind h (Ev.now _))) (fun Z h line hr=>qhlz.v (Ev.bind hr (by simp (disch:=omega) only [↓reduceIte,BQ,Nat.reduceMod,Nat.reduceBEq,LN,S]; exact Ev.bind h (Ev.now _)))) ?_
 obtain ⟨T,ok,x,y⟩:=zlv D n ([],(0,(0,(0,(0,([],([],[]))))))) l1 l2 (by omega) l4
 exact ⟨T,ok,qfkz.v (by simp (disch:=omega) only [↓reduceIte,BQ,Nat.reduceMod,Nat.reduceBEq,LN,S]; exact x),qcoz.v (by simp (disch:=omega) only [↓reduceIte,BQ,Nat.reduceMod,Nat.reduceBEq,LN,S]; exact y)⟩
theorem zsp  : Act (bs [108,97,115,116]) ([],(0,(0,(0,(0,([],([],[]))))))) D n:=by
 have hl:=dlen hD
 have hn:=(zat.1 hD).2
 obtain ⟨L,l1,l2,l3,l4⟩:=zj7 (zat.1 hD).1
 refine zbm hD (fun r h=>qctz.v (by simp (disch:=omega) only [↓reduceIte,BQ,Nat.reduceMod,Nat.reduceBEq,LN,S]; exact Ev.bind h (Ev.now _))) (fun Z h line hr=>qhlz.v (Ev.bind hr (by simp (disch:=omega) only [↓reduceIte,BQ,Nat.reduceMod,Nat.reduceBEq,LN,S]; exact Ev.bind h (Ev.now _)))) ?_
 obtain ⟨T,ok,x,y⟩:=zlv D n ([],(0,(0,(0,(0,([],([],[]))))))) l1 l2 (by omega) l4
 exact ⟨T,ok,qfkz.v (by simp (disch:=omega) only [↓reduceIte,BQ,Nat.reduceMod,Nat.reduceBEq,LN,S]; exact x),qcoz.v (by simp (disch:=omega) only [↓reduceIte,BQ,Nat.reduceMod,Nat.reduceBEq,LN,S]; exact y)⟩
theorem zuM {m:Nat} (hm:m<=999999):Act (bs [97,116]) ([],(0,(0,(0,(0,([],([],[(m:Int)]))))))) D n:=by
 have hl:=dlen hD
 have hn:=(zat.1 hD).2
 obtain ⟨L,l1,l2,l3,l4⟩:=zj8 (zat.1 hD).1 (n:=(m:Int)) (d:=1) (by omega) (by omega)
 refine zbm hD (fun r h=>qctz.v (by simp (disch:=omega) only [↓reduceIte,BQ,Nat.reduceMod,Nat.reduceBEq,LN,S]; exact Ev.bind h (Ev.now _))) (fun Z h line hr=>qhlz.v (Ev.bind hr (by simp (disch:=omega) only [↓reduceIte,BQ,Nat.reduceMod,Nat.reduceBEq,LN,S]; exact Ev.bind h (Ev.now _)))) ?_
 obtain ⟨T,ok,x,y⟩:=zlv D n ([],(0,(0,(0,(0,([],([],[(m:Int)]))))))) l1 l2 (by omega) l4
 exact ⟨T,ok,qfkz.v (by simp (disch:=omega) only [↓reduceIte,BQ,Nat.reduceMod,Nat.reduceBEq,LN,S]; exact x),qcoz.v (by simp (disch:=omega) only [↓reduceIte,BQ,Nat.reduceMod,Nat.reduceBEq,LN,S]; exact y)⟩
theorem zrr  : Act (bs [112,97,105,114,115]) ([],(0,(0,(0,(0,([],([],[]))))))) D n:=by
 have hl:=dlen hD
 have hn:=(zat.1 hD).2
 obtain ⟨c,c1,c2,c3,c4⟩:=zgE (zat.1 hD).1
 refine zbm hD (fun r h=>qctz.v (by simp (disch:=omega) only [↓reduceIte,BQ,Nat.reduceMod,Nat.reduceBEq,LN,S]; exact Ev.bind h (Ev.now _))) (fun Z h line hr=>qhlz.v (Ev.bind hr (by simp (disch:=omega) only [↓reduceIte,BQ,Nat.reduceMod,Nat.reduceBEq,LN,S]; exact Ev.bind h (Ev.now _)))) ⟨bL (Lib.itoa c),true,qfkz.v (by simp (disch:=omega) only [↓reduceIte,BQ,Nat.reduceMod,Nat.reduceBEq,LN,S]; exact Ev.bind c1 (by simp only [zj4 c3,S]; exact Ev.now _)),qcoz.v (by simp (disch:=omega) only [↓reduceIte,BQ,Nat.reduceMod,Nat.reduceBEq,LN,S]; exact Ev.bind c2 (Ev.bind (zhX c4 c3 true) (Ev.now _)))⟩
theorem zrs  : Act (bs [102,105,114,115,116]) ([],(0,(0,(0,(0,([],([],[]))))))) D n:=by
 have hl:=dlen hD
 have hn:=(zat.1 hD).2
 obtain ⟨R,r1,r2,r3,r4⟩:=zh3 (zat.1 hD).1
 refine zbm hD (fun r h=>qctz.v (by simp (disch:=omega) only [↓reduceIte,BQ,Nat.reduceMod,Nat.reduceBEq,LN,S]; exact Ev.bind h (Ev.now _))) (fun Z h line hr=>qhlz.v (Ev.bind hr (by simp (disch:=omega) only [↓reduceIte,BQ,Nat.reduceMod,Nat.reduceBEq,LN,S]; exact Ev.bind h (Ev.now _)))) ?_
 cases R with
 | nil=>exact ⟨bs [],false,qfkz.v (by simp (disch:=omega) only [↓reduceIte,BQ,Nat.reduceMod,Nat.reduceBEq,LN,S]; exact Ev.bind r1 (by simp (disch:=omega) only [S,LN]; exact Ev.now _)),qcoz.v (by simp (disch:=omega) only [↓reduceIte,BQ,Nat.reduceMod,Nat.reduceBEq,LN,S]; exact Ev.bind r2 (by simp (disch:=omega) only [S,LN]; exact Ev.now _))⟩
 | cons e R =>
  obtain ⟨i,j,x,y,rfl,hi,hj,_⟩:=r4 e (by simp)
  have hq:∀ z∈[i,j],i64 z:=fun z hz=>by
   unfold i64
   simp only [List.mem_cons,List.not_mem_nil,or_false] at hz
   omega
  have tk:List.take 2 [i,j,x,y]=[i,j]:=rfl
  refine ⟨bL (znF [i,j]),true,qfkz.v ?_,qcoz.v ?_⟩
  · simp (disch:=omega) only [↓reduceIte,BQ,Nat.reduceMod,Nat.reduceBEq,LN,S]
    refine Ev.bind r1 ?_
    simp (disch:=omega) only [S,LN,tk]
    exact Ev.bind (zeU (by simp) hq true) (Ev.now _)
  · simp (disch:=omega) only [↓reduceIte,BQ,Nat.reduceMod,Nat.reduceBEq,LN,S]
    refine Ev.bind r2 ?_
    simp (disch:=omega) only [S,LN,tk]
    exact Ev.bind (zdR (by simp) hq true) (Ev.now _)
theorem zsq {m m2:Nat} (hm:m<=999999) (hm2:m2<=999999):Act (bs [109,101,101,116]) ([],(0,(0,(0,(0,([],([],[(m:Int),(m2:Int)]))))))) D n:=by
 have hl:=dlen hD
 have hn:=(zat.1 hD).2
 refine zbm hD (fun r h=>qctz.v (by simp (disch:=omega) only [↓reduceIte,BQ,Nat.reduceMod,Nat.reduceBEq,LN,S]; exact Ev.bind h (Ev.now _))) (fun Z h line hr=>qhlz.v (Ev.bind hr (by simp (disch:=omega) only [↓reduceIte,BQ,Nat.reduceMod,Nat.reduceBEq,LN,S]; exact Ev.bind h (Ev.now _)))) ?_
 by_cases q1:m < D.length
 · by_cases q2:m2 < D.length
   · obtain ⟨T,ok,x,y⟩:=zik D n ([],(0,(0,(0,(0,([],([],[(m:Int),(m2:Int)]))))))) (zhY (dmem hD _ (zag (z:=(0,0)) q1)) (dmem hD _ (zag (z:=(0,0)) q2)))
     refine ⟨T,ok,qfkz.v (by simp (disch:=omega) only [↓reduceIte,BQ,Nat.reduceMod,Nat.reduceBEq,LN,S,zch hD,decide_eq_true q1,decide_eq_true q2]; exact Ev.bind (qcez.v (by simp (disch:=omega) only [↓reduceIte,BQ,Nat.reduceMod,Nat.reduceBEq,LN,S]; exact x)) (Ev.now _)),qcoz.v (by simp (disch:=omega) only [↓reduceIte,BQ,Nat.reduceMod,Nat.reduceBEq,LN,S]; exact Ev.bind (qcyz.v (by simp (disch:=omega) only [↓reduceIte,BQ,Nat.reduceMod,Nat.reduceBEq,LN,S]; exact y)) (Ev.now _))⟩
   · exact ⟨bs [],false,qfkz.v (by simp (disch:=omega) only [↓reduceIte,BQ,Nat.reduceMod,Nat.reduceBEq,LN,S,zch hD,decide_eq_true q1,decide_eq_false q2]; exact Ev.now _),qcoz.v (by simp (disch:=omega) only [↓reduceIte,BQ,Nat.reduceMod,Nat.reduceBEq,LN,S]; exact Ev.bind (v:=(noB,(D,(n,_)))) (qcyz.v (by simp (disch:=omega) only [↓reduceIte,BQ,Nat.reduceMod,Nat.reduceBEq,LN,S]; exact Ev.now _)) (Ev.now _))⟩
 · exact ⟨bs [],false,qfkz.v (by simp (disch:=omega) only [↓reduceIte,BQ,Nat.reduceMod,Nat.reduceBEq,LN,S,zch hD,decide_eq_false q1]; exact Ev.now _),qcoz.v (by simp (disch:=omega) only [↓reduceIte,BQ,Nat.reduceMod,Nat.reduceBEq,LN,S]; exact Ev.bind (v:=(noB,(D,(n,_)))) (qcyz.v (by simp (disch:=omega) only [↓reduceIte,BQ,Nat.reduceMod,Nat.reduceBEq,LN,S]; exact Ev.now _)) (Ev.now _))⟩
theorem zrt {m m2:Nat} (hm:m<=999999) (hm2:m2<=999999):Act (bs [119,104,101,114,101]) ([],(0,(0,(0,(0,([],([],[(m:Int),(m2:Int)]))))))) D n:=by
 have hl:=dlen hD
 have hn:=(zat.1 hD).2
 refine zbm hD (fun r h=>qctz.v (by simp (disch:=omega) only [↓reduceIte,BQ,Nat.reduceMod,Nat.reduceBEq,LN,S]; exact Ev.bind h (Ev.now _))) (fun Z h line hr=>qhlz.v (Ev.bind hr (by simp (disch:=omega) only [↓reduceIte,BQ,Nat.reduceMod,Nat.reduceBEq,LN,S]; exact Ev.bind h (Ev.now _)))) ?_
 by_cases q1:m < D.length
 · by_cases q2:m2 < D.length
   · obtain ⟨T,ok,x,y⟩:=zik D n ([],(0,(0,(0,(0,([],([],[(m:Int),(m2:Int)]))))))) (zhf (dmem hD _ (zag (z:=(0,0)) q1)) (dmem hD _ (zag (z:=(0,0)) q2)))
     refine ⟨T,ok,qfkz.v (by simp (disch:=omega) only [↓reduceIte,BQ,Nat.reduceMod,Nat.reduceBEq,LN,S,zch hD,decide_eq_true q1,decide_eq_true q2]; exact Ev.bind (qcez.v (by simp (disch:=omega) only [↓reduceIte,BQ,Nat.reduceMod,Nat.reduceBEq,LN,S]; exact x)) (Ev.now _)),qcoz.v (by simp (disch:=omega) only [↓reduceIte,BQ,Nat.reduceMod,Nat.reduceBEq,LN,S]; exact Ev.bind (qcyz.v (by simp (disch:=omega) only [↓reduceIte,BQ,Nat.reduceMod,Nat.reduceBEq,LN,S]; exact y)) (Ev.now _))⟩
   · exact ⟨bs [],false,qfkz.v (by simp (disch:=omega) only [↓reduceIte,BQ,Nat.reduceMod,Nat.reduceBEq,LN,S,zch hD,decide_eq_true q1,decide_eq_false q2]; exact Ev.now _),qcoz.v (by simp (disch:=omega) only [↓reduceIte,BQ,Nat.reduceMod,Nat.reduceBEq,LN,S]; exact Ev.bind (v:=(noB,(D,(n,_)))) (qcyz.v (by simp (disch:=omega) only [↓reduceIte,BQ,Nat.reduceMod,Nat.reduceBEq,LN,S]; exact Ev.now _)) (Ev.now _))⟩
 · exact ⟨bs [],false,qfkz.v (by simp (disch:=omega) only [↓reduceIte,BQ,Nat.reduceMod,Nat.reduceBEq,LN,S,zch hD,decide_eq_false q1]; exact Ev.now _),qcoz.v (by simp (disch:=omega) only [↓reduceIte,BQ,Nat.reduceMod,Nat.reduceBEq,LN,S]; exact Ev.bind (v:=(noB,(D,(n,_)))) (qcyz.v (by simp (disch:=omega) only [↓reduceIte,BQ,Nat.reduceMod,Nat.reduceBEq,LN,S]; exact Ev.now _)) (Ev.now _))⟩
theorem zpI {m m2:Nat} (hm:m<=999999) (hm2:m2<=999999):Act (bs [97,114,111,117,110,100]) ([],(0,(0,(0,(0,([],([],[(m:Int),(m2:Int)]))))))) D n:=by
 have hl:=dlen hD
 have hn:=(zat.1 hD).2
 refine zbm hD (fun r h=>qctz.v (by simp (disch:=omega) only [↓reduceIte,BQ,Nat.reduceMod,Nat.reduceBEq,LN,S]; exact Ev.bind h (Ev.now _))) (fun Z h line hr=>qhlz.v (Ev.bind hr (by simp (disch:=omega) only [↓reduceIte,BQ,Nat.reduceMod,Nat.reduceBEq,LN,S]; exact Ev.bind h (Ev.now _)))) ?_
 by_cases q1:m < D.length
 · by_cases q2:m2 < D.length
   · obtain ⟨T,ok,x,y⟩:=zik D n ([],(0,(0,(0,(0,([],([],[(m:Int),(m2:Int)]))))))) (zln hn (dmem hD _ (zag (z:=(0,0)) q1)) (dmem hD _ (zag (z:=(0,0)) q2)))
     refine ⟨T,ok,qfkz.v (by simp (disch:=omega) only [↓reduceIte,BQ,Nat.reduceMod,Nat.reduceBEq,LN,S,zch hD,decide_eq_true q1,decide_eq_true q2]; exact Ev.bind (qcez.v (by simp (disch:=omega) only [↓reduceIte,BQ,Nat.reduceMod,Nat.reduceBEq,LN,S]; exact x)) (Ev.now _)),qcoz.v (by simp (disch:=omega) only [↓reduceIte,BQ,Nat.reduceMod,Nat.reduceBEq,LN,S]; exact Ev.bind (qcyz.v (by simp (disch:=omega) only [↓reduceIte,BQ,Nat.reduceMod,Nat.reduceBEq,LN,S]; exact y)) (Ev.now _))⟩
   · exact ⟨bs [],false,qfkz.v (by simp (disch:=omega) only [↓reduceIte,BQ,Nat.reduceMod,Nat.reduceBEq,LN,S,zch hD,decide_eq_true q1,decide_eq_false q2]; exact Ev.now _),qcoz.v (by simp (disch:=omega) only [↓reduceIte,BQ,Nat.reduceMod,Nat.reduceBEq,LN,S]; exact Ev.bind (v:=(noB,(D,(n,_)))) (qcyz.v (by simp (disch:=omega) only [↓reduceIte,BQ,Nat.reduceMod,Nat.reduceBEq,LN,S]; exact Ev.now _)) (Ev.now _))⟩
 · exact ⟨bs [],false,qfkz.v (by simp (disch:=omega) only [↓reduceIte,BQ,Nat.reduceMod,Nat.reduceBEq,LN,S,zch hD,decide_eq_false q1]; exact Ev.now _),qcoz.v (by simp (disch:=omega) only [↓reduceIte,BQ,Nat.reduceMod,Nat.reduceBEq,LN,S]; exact Ev.bind (v:=(noB,(D,(n,_)))) (qcyz.v (by simp (disch:=omega) only [↓reduceIte,BQ,Nat.reduceMod,Nat.reduceBEq,LN,S]; exact Ev.now _)) (Ev.now _))⟩
theorem ztM {m m2:Nat} (hm:m<=999999) (hm2:m2<=999999):Act (bs [103,97,112]) ([],(0,(0,(0,(0,([],([],[(m:Int),(m2:Int)]))))))) D n:=by
 have hl:=dlen hD
 have hn:=(zat.1 hD).2
 refine zbm hD (fun r h=>qctz.v (by simp (disch:=omega) only [↓reduceIte,BQ,Nat.reduceMod,Nat.reduceBEq,LN,S]; exact Ev.bind h (Ev.now _))) (fun Z h line hr=>qhlz.v (Ev.bind hr (by simp (disch:=omega) only [↓reduceIte,BQ,Nat.reduceMod,Nat.reduceBEq,LN,S]; exact Ev.bind h (Ev.now _)))) ?_
 by_cases q1:m < D.length
 · by_cases q2:m2 < D.length
   · obtain ⟨T,ok,x,y⟩:=zik D n ([],(0,(0,(0,(0,([],([],[(m:Int),(m2:Int)]))))))) (zmB hn (dmem hD _ (zag (z:=(0,0)) q1)) (dmem hD _ (zag (z:=(0,0)) q2)))
     refine ⟨T,ok,qfkz.v (by simp (disch:=omega) only [↓reduceIte,BQ,Nat.reduceMod,Nat.reduceBEq,LN,S,zch hD,decide_eq_true q1,decide_eq_true q2]; exact Ev.bind (qcez.v (by simp (disch:=omega) only [↓reduceIte,BQ,Nat.reduceMod,Nat.reduceBEq,LN,S]; exact x)) (Ev.now _)),qcoz.v (by simp (disch:=omega) only [↓reduceIte,BQ,Nat.reduceMod,Nat.reduceBEq,LN,S]; exact Ev.bind (qcyz.v (by simp (disch:=omega) only [↓reduceIte,BQ,Nat.reduceMod,Nat.reduceBEq,LN,S]; exact y)) (Ev.now _))⟩
   · exact ⟨bs [],false,qfkz.v (by simp (disch:=omega) only [↓reduceIte,BQ,Nat.reduceMod,Nat.reduceBEq,LN,S,zch hD,decide_eq_true q1,decide_eq_false q2]; exact Ev.now _),qcoz.v (by simp (disch:=omega) only [↓reduceIte,BQ,Nat.reduceMod,Nat.reduceBEq,LN,S]; exact Ev.bind (v:=(noB,(D,(n,_)))) (qcyz.v (by simp (disch:=omega) only [↓reduceIte,BQ,Nat.reduceMod,Nat.reduceBEq,LN,S]; exact Ev.now _)) (Ev.now _))⟩
 · exact ⟨bs [],false,qfkz.v (by simp (disch:=omega) only [↓reduceIte,BQ,Nat.reduceMod,Nat.reduceBEq,LN,S,zch hD,decide_eq_false q1]; exact Ev.now _),qcoz.v (by simp (disch:=omega) only [↓reduceIte,BQ,Nat.reduceMod,Nat.reduceBEq,LN,S]; exact Ev.bind (v:=(noB,(D,(n,_)))) (qcyz.v (by simp (disch:=omega) only [↓reduceIte,BQ,Nat.reduceMod,Nat.reduceBEq,LN,S]; exact Ev.now _)) (Ev.now _))⟩
theorem zpJ {m m2:Nat} (hm:m<=999999) (hm2:m2<=999999):Act (bs [112,108,97,99,101,115]) ([],(0,(0,(0,(0,([],([],[(m:Int),(m2:Int)]))))))) D n:=by
 have hl:=dlen hD
 have hn:=(zat.1 hD).2
 refine zbm hD (fun r h=>qctz.v (by simp (disch:=omega) only [↓reduceIte,BQ,Nat.reduceMod,Nat.reduceBEq,LN,S]; exact Ev.bind h (Ev.now _))) (fun Z h line hr=>qhlz.v (Ev.bind hr (by simp (disch:=omega) only [↓reduceIte,BQ,Nat.reduceMod,Nat.reduceBEq,LN,S]; exact Ev.bind h (Ev.now _)))) ?_
 by_cases q1:m < D.length
 · by_cases q2:m2 < D.length
   · obtain ⟨rr,s1,s2,s3,s4,s5,s6⟩:=zjJ hn (dmem hD _ (zag (z:=(0,0)) q1)) (dmem hD _ (zag (z:=(0,0)) q2))
     obtain ⟨T,ok,x,y⟩:=zro D n ([],(0,(0,(0,(0,([],([],[(m:Int),(m2:Int)]))))))) s1 s2 s3 s4 s5 s6
     refine ⟨T,ok,qfkz.v (by simp (disch:=omega) only [↓reduceIte,BQ,Nat.reduceMod,Nat.reduceBEq,LN,S,zch hD,decide_eq_true q1,decide_eq_true q2]; exact Ev.bind (qcez.v (by simp (disch:=omega) only [↓reduceIte,BQ,Nat.reduceMod,Nat.reduceBEq,LN,S]; exact x)) (Ev.now _)),qcoz.v (by simp (disch:=omega) only [↓reduceIte,BQ,Nat.reduceMod,Nat.reduceBEq,LN,S]; exact Ev.bind (qcyz.v (by simp (disch:=omega) only [↓reduceIte,BQ,Nat.reduceMod,Nat.reduceBEq,LN,S]; exact y)) (Ev.now _))⟩
   · exact ⟨bs [],false,qfkz.v (by simp (disch:=omega) only [↓reduceIte,BQ,Nat.reduceMod,Nat.reduceBEq,LN,S,zch hD,decide_eq_true q1,decide_eq_false q2]; exact Ev.now _),qcoz.v (by simp (disch:=omega) only [↓reduceIte,BQ,Nat.reduceMod,Nat.reduceBEq,LN,S]; exact Ev.bind (v:=(noB,(D,(n,_)))) (qcyz.v (by simp (disch:=omega) only [↓reduceIte,BQ,Nat.reduceMod,Nat.reduceBEq,LN,S]; exact Ev.now _)) (Ev.now _))⟩
 · exact ⟨bs [],false,qfkz.v (by simp (disch:=omega) only [↓reduceIte,BQ,Nat.reduceMod,Nat.reduceBEq,LN,S,zch hD,decide_eq_false q1]; exact Ev.now _),qcoz.v (by simp (disch:=omega) only [↓reduceIte,BQ,Nat.reduceMod,Nat.reduceBEq,LN,S]; exact Ev.bind (v:=(noB,(D,(n,_)))) (qcyz.v (by simp (disch:=omega) only [↓reduceIte,BQ,Nat.reduceMod,Nat.reduceBEq,LN,S]; exact Ev.now _)) (Ev.now _))⟩
theorem ztN {a l r d:Int}:Act (bs [100,111,103]) ([],(a,(l,(r,(d,([],([],[]))))))) D n:=by
 have hl:=dlen hD
 have hn:=(zat.1 hD).2
 refine zbm hD (fun r h=>qctz.v (by simp (disch:=omega) only [↓reduceIte,BQ,Nat.reduceMod,Nat.reduceBEq,LN,S]; exact Ev.bind h (Ev.now _))) (fun Z h line hr=>qhlz.v (Ev.bind hr (by simp (disch:=omega) only [↓reduceIte,BQ,Nat.reduceMod,Nat.reduceBEq,LN,S]; exact Ev.bind h (Ev.now _)))) ?_
 obtain ⟨T,ok,x,y⟩:=zeZ D n ([],(a,(l,(r,(d,([],([],[]))))))) (zjB a l r d)
 exact ⟨T,ok,qfkz.v (by simp (disch:=omega) only [↓reduceIte,BQ,Nat.reduceMod,Nat.reduceBEq,LN,S]; exact Ev.bind (qfbz.v (by simp (disch:=omega) only [↓reduceIte,BQ,Nat.reduceMod,Nat.reduceBEq,LN,S]; exact x)) (Ev.now _)),qcoz.v (by simp (disch:=omega) only [↓reduceIte,BQ,Nat.reduceMod,Nat.reduceBEq,LN,S]; exact y)⟩
theorem ztO {a l r d:Int}:Act (bs [114,117,110]) ([],(a,(l,(r,(d,([],([],[]))))))) D n:=by
 have hl:=dlen hD
 have hn:=(zat.1 hD).2
 refine zbm hD (fun r h=>qctz.v (by simp (disch:=omega) only [↓reduceIte,BQ,Nat.reduceMod,Nat.reduceBEq,LN,S]; exact Ev.bind h (Ev.now _))) (fun Z h line hr=>qhlz.v (Ev.bind hr (by simp (disch:=omega) only [↓reduceIte,BQ,Nat.reduceMod,Nat.reduceBEq,LN,S]; exact Ev.bind h (Ev.now _)))) ?_
 obtain ⟨T,ok,x,y⟩:=zeZ D n ([],(a,(l,(r,(d,([],([],[]))))))) (zhZ a l r d)
 exact ⟨T,ok,qfkz.v (by simp (disch:=omega) only [↓reduceIte,BQ,Nat.reduceMod,Nat.reduceBEq,LN,S]; exact Ev.bind (qfbz.v (by simp (disch:=omega) only [↓reduceIte,BQ,Nat.reduceMod,Nat.reduceBEq,LN,S]; exact x)) (Ev.now _)),qcoz.v (by simp (disch:=omega) only [↓reduceIte,BQ,Nat.reduceMod,Nat.reduceBEq,LN,S]; exact y)⟩
theorem zru {a l r d:Int} {m:Nat}:Act (bs [97,112,97,114,116]) ([],(a,(l,(r,(d,([],([],[(m:Int)]))))))) D n:=by
 have hl:=dlen hD
 have hn:=(zat.1 hD).2
 refine zbm hD (fun r h=>qctz.v (by simp (disch:=omega) only [↓reduceIte,BQ,Nat.reduceMod,Nat.reduceBEq,LN,S]; exact Ev.bind h (Ev.now _))) (fun Z h line hr=>qhlz.v (Ev.bind hr (by simp (disch:=omega) only [↓reduceIte,BQ,Nat.reduceMod,Nat.reduceBEq,LN,S]; exact Ev.bind h (Ev.now _)))) ?_
 obtain ⟨T,ok,x,y⟩:=zeZ D n ([],(a,(l,(r,(d,([],([],[(m:Int)]))))))) (zfV a l r d (m:Int))
 exact ⟨T,ok,qfkz.v (by simp (disch:=omega) only [↓reduceIte,BQ,Nat.reduceMod,Nat.reduceBEq,LN,S]; exact Ev.bind (qfbz.v (by simp (disch:=omega) only [↓reduceIte,BQ,Nat.reduceMod,Nat.reduceBEq,LN,S]; exact x)) (Ev.now _)),qcoz.v (by simp (disch:=omega) only [↓reduceIte,BQ,Nat.reduceMod,Nat.reduceBEq,LN,S]; exact y)⟩
theorem zsr {X:List Wk}:Act (bs [109,101,97,110]) ([],(0,(0,(0,(0,(X,([],[]))))))) D n:=by
 have hl:=dlen hD
 have hn:=(zat.1 hD).2
 refine zbm hD (fun r h=>qctz.v (by simp (disch:=omega) only [↓reduceIte,BQ,Nat.reduceMod,Nat.reduceBEq,LN,S]; exact Ev.bind h (Ev.now _))) (fun Z h line hr=>qhlz.v (Ev.bind hr (by simp (disch:=omega) only [↓reduceIte,BQ,Nat.reduceMod,Nat.reduceBEq,LN,S]; exact Ev.bind h (Ev.now _)))) ?_
 obtain ⟨T,ok,x,y⟩:=zeZ D n ([],(0,(0,(0,(0,(X,([],[]))))))) (zj6 X)
 exact ⟨T,ok,qfkz.v (by simp (disch:=omega) only [↓reduceIte,BQ,Nat.reduceMod,Nat.reduceBEq,LN,S]; exact Ev.bind (qfbz.v (by simp (disch:=omega) only [↓reduceIte,BQ,Nat.reduceMod,Nat.reduceBEq,LN,S]; exact x)) (Ev.now _)),qcoz.v (by simp (disch:=omega) only [↓reduceIte,BQ,Nat.reduceMod,Nat.reduceBEq,LN,S]; exact y)⟩
theorem zss {X:List Wk}:Act (bs [116,105,109,101]) ([],(0,(0,(0,(0,(X,([],[]))))))) D n:=by
 have hl:=dlen hD
 have hn:=(zat.1 hD).2
 refine zbm hD (fun r h=>qctz.v (by simp (disch:=omega) only [↓reduceIte,BQ,Nat.reduceMod,Nat.reduceBEq,LN,S]; exact Ev.bind h (Ev.now _))) (fun Z h line hr=>qhlz.v (Ev.bind hr (by simp (disch:=omega) only [↓reduceIte,BQ,Nat.reduceMod,Nat.reduceBEq,LN,S]; exact Ev.bind h (Ev.now _)))) ?_
 obtain ⟨T,ok,x,y⟩:=zeZ D n ([],(0,(0,(0,(0,(X,([],[]))))))) (zjC X)
 exact ⟨T,ok,qfkz.v (by simp (disch:=omega) only [↓reduceIte,BQ,Nat.reduceMod,Nat.reduceBEq,LN,S]; exact Ev.bind (qfbz.v (by simp (disch:=omega) only [↓reduceIte,BQ,Nat.reduceMod,Nat.reduceBEq,LN,S]; exact x)) (Ev.now _)),qcoz.v (by simp (disch:=omega) only [↓reduceIte,BQ,Nat.reduceMod,Nat.reduceBEq,LN,S]; exact y)⟩
theorem zst {X:List Wk} {m m2:Nat}:Act (bs [110,101,101,100]) ([],(0,(0,(0,(0,(X,([],[(m:Int),(m2:Int)]))))))) D n:=by
 have hl:=dlen hD
 have hn:=(zat.1 hD).2
 refine zbm hD (fun r h=>qctz.v (by simp (disch:=omega) only [↓reduceIte,BQ,Nat.reduceMod,Nat.reduceBEq,LN,S]; exact Ev.bind h (Ev.now _))) (fun Z h line hr=>qhlz.v (Ev.bind hr (by simp (disch:=omega) only [↓reduceIte,BQ,Nat.reduceMod,Nat.reduceBEq,LN,S]; exact Ev.bind h (Ev.now _)))) ?_
 obtain ⟨T,ok,x,y⟩:=zeZ D n ([],(0,(0,(0,(0,(X,([],[(m:Int),(m2:Int)]))))))) (zh0 X (m:Int) (m2:Int))
 exact ⟨T,ok,qfkz.v (by simp (disch:=omega) only [↓reduceIte,BQ,Nat.reduceMod,Nat.reduceBEq,LN,S]; exact Ev.bind (qfbz.v (by simp (disch:=omega) only [↓reduceIte,BQ,Nat.reduceMod,Nat.reduceBEq,LN,S]; exact x)) (Ev.now _)),qcoz.v (by simp (disch:=omega) only [↓reduceIte,BQ,Nat.reduceMod,Nat.reduceBEq,LN,S]; exact y)⟩
theorem zpK {m m2 m3:Nat}:Act (bs [99,104,97,110,99,101]) ([],(0,(0,(0,(0,([],([],[(m:Int),(m2:Int),(m3:Int)]))))))) D n:=by
 have hl:=dlen hD
 have hn:=(zat.1 hD).2
 refine zbm hD (fun r h=>qctz.v (by simp (disch:=omega) only [↓reduceIte,BQ,Nat.reduceMod,Nat.reduceBEq,LN,S]; exact Ev.bind h (Ev.now _))) (fun Z h line hr=>qhlz.v (Ev.bind hr (by simp (disch:=omega) only [↓reduceIte,BQ,Nat.reduceMod,Nat.reduceBEq,LN,S]; exact Ev.bind h (Ev.now _)))) ?_
 obtain ⟨T,ok,x,y⟩:=zeZ D n ([],(0,(0,(0,(0,([],([],[(m:Int),(m2:Int),(m3:Int)]))))))) (zfW (m:Int) (m2:Int) (m3:Int))
 exact ⟨T,ok,qfkz.v (by simp (disch:=omega) only [↓reduceIte,BQ,Nat.reduceMod,Nat.reduceBEq,LN,S]; exact Ev.bind (qfbz.v (by simp (disch:=omega) only [↓reduceIte,BQ,Nat.reduceMod,Nat.reduceBEq,LN,S]; exact x)) (Ev.now _)),qcoz.v (by simp (disch:=omega) only [↓reduceIte,BQ,Nat.reduceMod,Nat.reduceBEq,LN,S]; exact y)⟩
theorem zpL {X:List Wk} (hX:zap 6 vOk X=true):Act (bs [118,105,115,105,116,115]) ([],(0,(0,(0,(0,([],(X,[]))))))) D n:=by
 have hl:=dlen hD
 have hn:=(zat.1 hD).2
 obtain ⟨L,l1,l2,l3,l4⟩:=zpw hX
 refine zbm hD (fun r h=>qctz.v (by simp (disch:=omega) only [↓reduceIte,BQ,Nat.reduceMod,Nat.reduceBEq,LN,S]; exact Ev.bind h (Ev.now _))) (fun Z h line hr=>qhlz.v (Ev.bind hr (by simp (disch:=omega) only [↓reduceIte,BQ,Nat.reduceMod,Nat.reduceBEq,LN,S]; exact Ev.bind h (Ev.now _)))) ?_
 obtain ⟨T,ok,x,y⟩:=ztK D n ([],(0,(0,(0,(0,([],(X,[]))))))) l1 l2 (by omega) l3
 exact ⟨T,ok,qfkz.v (by simp (disch:=omega) only [↓reduceIte,BQ,Nat.reduceMod,Nat.reduceBEq,LN,S]; exact Ev.bind (qfbz.v (by simp (disch:=omega) only [↓reduceIte,BQ,Nat.reduceMod,Nat.reduceBEq,LN,S]; exact x)) (Ev.now _)),qcoz.v (by simp (disch:=omega) only [↓reduceIte,BQ,Nat.reduceMod,Nat.reduceBEq,LN,S]; exact y)⟩
theorem zpM {X:List Wk} (hX:zap 6 vOk X=true):Act (bs [103,117,105,100,101,115]) ([],(0,(0,(0,(0,([],(X,[]))))))) D n:=by
 have hl:=dlen hD
 have hn:=(zat.1 hD).2
 obtain ⟨L,l1,l2,l3,l4⟩:=zhj hX
 refine zbm hD (fun r h=>qctz.v (by simp (disch:=omega) only [↓reduceIte,BQ,Nat.reduceMod,Nat.reduceBEq,LN,S]; exact Ev.bind h (Ev.now _))) (fun Z h line hr=>qhlz.v (Ev.bind hr (by simp (disch:=omega) only [↓reduceIte,BQ,Nat.reduceMod,Nat.reduceBEq,LN,S]; exact Ev.bind h (Ev.now _)))) ?_
 obtain ⟨T,ok,x,y⟩:=zlv D n ([],(0,(0,(0,(0,([],(X,[]))))))) l1 l2 (by omega) l4
 exact ⟨T,ok,qfkz.v (by simp (disch:=omega) only [↓reduceIte,BQ,Nat.reduceMod,Nat.reduceBEq,LN,S]; exact Ev.bind (qfbz.v (by simp (disch:=omega) only [↓reduceIte,BQ,Nat.reduceMod,Nat.reduceBEq,LN,S]; exact x)) (Ev.now _)),qcoz.v (by simp (disch:=omega) only [↓reduceIte,BQ,Nat.reduceMod,Nat.reduceBEq,LN,S]; exact y)⟩
end
theorem zrv {n:Nat} {ok:Wk->Bool} {o:Option (List Wk)} (h:(zaY n ok o).2=true):zap n ok (zaY n ok o).1=true:=by
 cases o with
 | none=>cases h
 | some L =>
  unfold zaY at *
  by_cases c:zap n ok L=true
  · simp only [if_pos c]; exact c
  · simp only [if_neg c] at h; cases h
theorem zd8 {w:List UInt8} {s t:Ar} (h:zaO 78 w s=some t):∃ m:Nat,m<=999999/\t=(s.1,(s.2.1,(s.2.2.1,(s.2.2.2.1,(s.2.2.2.2.1,(s.2.2.2.2.2.1,(s.2.2.2.2.2.2.1,s.2.2.2.2.2.2.2++[(m:Int)]))))))):=by
 rw [znP] at h
 have hb:=zsM w
 by_cases c:0<=l1r w
 · rw [if_pos c] at h
   injection h with h
   exact ⟨(l1r w).toNat,by omega,by rw [show (((l1r w).toNat:Nat):Int)=l1r w by omega]; exact h.symm⟩
 · rw [if_neg c] at h; cases h
theorem zuN {w:List UInt8} {s t:Ar} (h:zaO 87 w s=some t):∃ X,zap 8 wOk X=true/\t=(X,s.2):=by
 unfold zaO at h
 rw [if_pos rfl] at h
 split at h
 · rename_i c
   injection h with h
   exact ⟨_,zrv c,h.symm⟩
 · cases h
theorem ztP {w:List UInt8} {s t:Ar} (h:zaO 67 w s=some t):∃ a l r d:Int,t=(s.1,(a,(l,(r,(d,s.2.2.2.2.2))))):=by
 unfold zaO at h
 rw [if_neg (by decide),if_pos rfl] at h
 split at h
 · injection h with h
   exact ⟨_,_,_,_,h.symm⟩
 · cases h
theorem ztQ {w:List UInt8} {s t:Ar} (h:zaO 76 w s=some t):∃ X,t=(s.1,(s.2.1,(s.2.2.1,(s.2.2.2.1,(s.2.2.2.2.1,(X,s.2.2.2.2.2.2)))))):=by
 unfold zaO at h
 rw [if_neg (by decide),if_neg (by decide),if_pos rfl] at h
 split at h
 · injection h with h
   exact ⟨_,h.symm⟩
 · cases h
theorem zuO {w:List UInt8} {s t:Ar} (h:zaO 86 w s=some t):∃ X,zap 6 vOk X=true/\t=(s.1,(s.2.1,(s.2.2.1,(s.2.2.2.1,(s.2.2.2.2.1,(s.2.2.2.2.2.1,(X,s.2.2.2.2.2.2.2))))))):=by
 unfold zaO at h
 rw [if_neg (by decide),if_neg (by decide),if_neg (by decide),if_pos rfl] at h
 split at h
 · rename_i c
   injection h with h
   exact ⟨_,zrv c,h.symm⟩
 · cases h
theorem zd9 {c:Nat} {w:List UInt8} {s t:Ar} (h:zf1 [c] [w] s=some t):zaO c w s=some t:=by
 have h':(zaO c w s).bind (fun s=>some s)=some t:=h
 cases e:zaO c w s with
 | none=>rw [e] at h'; cases h'
 | some u=>rw [e] at h'; exact h'
theorem zjO {c c2:Nat} {w w2:List UInt8} {s t:Ar} (h:zf1 [c,c2] [w,w2] s=some t):∃ u,zaO c w s=some u/\zaO c2 w2 u=some t:=by
 have h':(zaO c w s).bind (zf1 [c2] [w2])=some t:=h
 cases e:zaO c w s with
 | none=>rw [e] at h'; cases h'
 | some u=>rw [e] at h'; exact ⟨u,rfl,zd9 h'⟩
theorem zsT {c c2 c3:Nat} {w w2 w3:List UInt8} {s t:Ar} (h:zf1 [c,c2,c3] [w,w2,w3] s=some t):∃ u v,zaO c w s=some u/\zaO c2 w2 u=some v/\zaO c3 w3 v=some t:=by
 have h':(zaO c w s).bind (zf1 [c2,c3] [w2,w3])=some t:=h
 cases e:zaO c w s with
 | none=>rw [e] at h'; cases h'
 | some u=>rw [e] at h'; obtain ⟨v,a,b⟩:=zjO h'; exact ⟨u,v,rfl,a,b⟩
theorem len3 {α:Type} {l:List α} (h:l.length=3):∃ a b c,l=[a,b,c]:=by
 match l,h with
 | [a,b,c],_=>exact ⟨a,b,c,rfl⟩
def s0:Ar:=([],(0,(0,(0,(0,([],([],[])))))))
theorem ztR {D:List Wk} {n:Int} (hD:dOk D n=true) {e:List Nat×List Nat} (he:e∈zb0) {ws:List (List UInt8)} (hl:e.2.length=ws.length) {t:Ar} (ht:zf1 e.2 ws s0=some t):Act (bs e.1) t D n:=by
 unfold zb0 at he
 simp only [List.mem_cons,List.not_mem_nil,or_false] at he
 rcases he with rfl | rfl | rfl | rfl | rfl | rfl | rfl | rfl | rfl | rfl | rfl | rfl | rfl | rfl | rfl | rfl | rfl | rfl | rfl | rfl | rfl | rfl | rfl | rfl | rfl | rfl
 · obtain ⟨w,rfl⟩:=List.length_eq_one_iff.1 hl.symm
   obtain ⟨X,hX,rfl⟩:=zuN (zd9 ht)
   exact znQ hD hX
 · obtain ⟨w,rfl⟩:=List.length_eq_one_iff.1 hl.symm
   obtain ⟨X,hX,rfl⟩:=zuN (zd9 ht)
   exact ztL hD hX
 · obtain ⟨w,rfl⟩:=List.length_eq_one_iff.1 hl.symm
   obtain ⟨m,hm,rfl⟩:=zd8 (zd9 ht)
   exact zsk hD hm
 · obtain ⟨w,rfl⟩:=List.length_eq_one_iff.1 hl.symm
   obtain ⟨m,hm,rfl⟩:=zd8 (zd9 ht)
   exact zsl hD hm
 · obtain ⟨w,rfl⟩:=List.length_eq_one_iff.1 hl.symm
   obtain ⟨m,hm,rfl⟩:=zd8 (zd9 ht)
   exact zsm hD hm
 · obtain ⟨w,rfl⟩:=List.length_eq_one_iff.1 hl.symm
   obtain ⟨m,hm,rfl⟩:=zd8 (zd9 ht)
   exact zuM hD hm
 · have hw:ws=[]:=List.length_eq_zero_iff.1 hl.symm
   subst hw
   injection ht with ht
   subst ht
   exact zsn hD
 · have hw:ws=[]:=List.length_eq_zero_iff.1 hl.symm
   subst hw
   injection ht with ht
   subst ht
   exact zrr hD
 · have hw:ws=[]:=List.length_eq_zero_iff.1 hl.symm
   subst hw
   injection ht with ht
   subst ht
   exact zrs hD
 · have hw:ws=[]:=List.length_eq_zero_iff.1 hl.symm
   subst hw
   injection ht with ht
   subst ht
   exact zso hD
 · have hw:ws=[]:=List.length_eq_zero_iff.1 hl.symm
   subst hw
   injection ht with ht
   subst ht
   exact zsp hD
 · have hw:ws=[]:=List.length_eq_zero_iff.1 hl.symm
   subst hw
   injection ht with ht
   subst ht
   exact zrq hD
 · obtain ⟨w,w2,rfl⟩:=len2 hl.symm
   obtain ⟨u,h1,h2⟩:=zjO ht
   obtain ⟨m,hm,rfl⟩:=zd8 h1
   obtain ⟨m2,hm2,rfl⟩:=zd8 h2
   exact zsq hD hm hm2
 · obtain ⟨w,w2,rfl⟩:=len2 hl.symm
   obtain ⟨u,h1,h2⟩:=zjO ht
   obtain ⟨m,hm,rfl⟩:=zd8 h1
   obtain ⟨m2,hm2,rfl⟩:=zd8 h2
   exact zrt hD hm hm2
 · obtain ⟨w,w2,rfl⟩:=len2 hl.symm
   obtain ⟨u,h1,h2⟩:=zjO ht
   obtain ⟨m,hm,rfl⟩:=zd8 h1
   obtain ⟨m2,hm2,rfl⟩:=zd8 h2
   exact zpI hD hm hm2
 · obtain ⟨w,w2,rfl⟩:=len2 hl.symm
   obtain ⟨u,h1,h2⟩:=zjO ht
   obtain ⟨m,hm,rfl⟩:=zd8 h1
   obtain ⟨m2,hm2,rfl⟩:=zd8 h2
   exact ztM hD hm hm2
 · obtain ⟨w,w2,rfl⟩:=len2 hl.symm
   obtain ⟨u,h1,h2⟩:=zjO ht
   obtain ⟨m,hm,rfl⟩:=zd8 h1
   obtain ⟨m2,hm2,rfl⟩:=zd8 h2
   exact zpJ hD hm hm2
 · obtain ⟨w,rfl⟩:=List.length_eq_one_iff.1 hl.symm
   obtain ⟨a,l,r,d,rfl⟩:=ztP (zd9 ht)
   exact ztN hD
 · obtain ⟨w,rfl⟩:=List.length_eq_one_iff.1 hl.symm
   obtain ⟨a,l,r,d,rfl⟩:=ztP (zd9 ht)
   exact ztO hD
 · obtain ⟨w,w2,rfl⟩:=len2 hl.symm
   obtain ⟨u,h1,h2⟩:=zjO ht
   obtain ⟨a,l,r,d,rfl⟩:=ztP h1
   obtain ⟨m,hm,rfl⟩:=zd8 h2
   exact zru hD
 · obtain ⟨w,rfl⟩:=List.length_eq_one_iff.1 hl.symm
   obtain ⟨X,rfl⟩:=ztQ (zd9 ht)
   exact zsr hD
 · obtain ⟨w,rfl⟩:=List.length_eq_one_iff.1 hl.symm
   obtain ⟨X,rfl⟩:=ztQ (zd9 ht)
   exact zss hD
 · obtain ⟨w,w2,w3,rfl⟩:=len3 hl.symm
   obtain ⟨u,v,h1,h2,h3⟩:=zsT ht
   obtain ⟨X,rfl⟩:=ztQ h1
   obtain ⟨m,hm,rfl⟩:=zd8 h2
   obtain ⟨m2,hm2,rfl⟩:=zd8 h3
   exact zst hD
 · obtain ⟨w,rfl⟩:=List.length_eq_one_iff.1 hl.symm
   obtain ⟨X,hX,rfl⟩:=zuO (zd9 ht)
   exact zpL hD hX
 · obtain ⟨w,rfl⟩:=List.length_eq_one_iff.1 hl.symm
   obtain ⟨X,hX,rfl⟩:=zuO (zd9 ht)
   exact zpM hD hX
 · obtain ⟨w,w2,w3,rfl⟩:=len3 hl.symm
   obtain ⟨u,v,h1,h2,h3⟩:=zsT ht
   obtain ⟨m,hm,rfl⟩:=zd8 h1
   obtain ⟨m2,hm2,rfl⟩:=zd8 h2
   obtain ⟨m3,hm3,rfl⟩:=zd8 h3
   exact zpK hD
theorem ztS:∀ e∈zb0,∀ c∈e.2,zmI c:=by
 unfold zb0 zmI
 decide
theorem zsu:∀ e∈zb0,e.2.length<=3:=by decide
theorem zoS {D:List Wk} {n:Int} {l:List UInt8} (hl:l.length<=100000) {w0:List UInt8} {ws:List (List UInt8)} (hs:zac 32 l=w0::ws) {Sh:BA} (hS:qgjz.f (bL w0)=some Sh) {r:zuL}
    (h:(Sh.size:Int) ≠ (ws.length:Int)->r.1=bs []/\r.2.1=(D,(n,s0))/\r.2.2=false) (h':(Sh.size:Int)=(ws.length:Int)->Ev (fun k=>zkJ k (bL w0::ws.map bL) Sh (ws.map bL) (ws.length:Int) 0 D n s0) r):Ev (fun k=>qhuz.f k D n (bL l)) r:=by
 have hb:=zba 32 l
 rw [hs,List.length_cons] at hb
 have hq:Ev (fun k=>qgez.f k (bL l) 32) (bL w0::ws.map bL):=by
  have:=zaS (l:=l) (by omega) 32
  rw [hs] at this
  exact this
 have hlen:(bL w0::ws.map bL).length=ws.length+1:=by simp
 refine qhuz.v (Ev.bind hq ?_)
 simp (disch:=omega) only [S,rd0,hS,hlen]
 by_cases c:(Sh.size:Int)=(ws.length:Int)
 · have e:((Sh.size:Int) != (((ws.length+1:Nat):Int)-1))=false:=by rw [bne_eq_false_iff_eq]; omega
   have e2:List.drop 1 (bL w0::ws.map bL)=ws.map bL:=rfl
   have e3:(ws.map bL).length=ws.length:=List.length_map _
   simp (disch:=omega) only [S,e,e2,e3]
   exact h' c
 · have e:((Sh.size:Int) != (((ws.length+1:Nat):Int)-1))=true:=by rw [bne_iff_ne]; omega
   simp (disch:=omega) only [S,e]
   obtain ⟨r1,⟨r2,r3⟩,r4⟩:=r
   obtain ⟨z1,z2,z3⟩:=h c
   simp only at z1 z2 z3
   subst z1 z3
   cases z2
   exact Ev.now _
theorem zrw {D:List Wk} {n:Int} {l:List UInt8} (hl:l.length<=100000) {w0:List UInt8} {ws:List (List UInt8)} (hs:zac 32 l=w0::ws) {Fm:BA} (hS:qfdz.f (bL w0)=some (Fm,true)) {r:(List Wk×Int)×BA}
    (h:(Fm.size:Int) ≠ (ws.length:Int)->r=((D,n),zf2)) (h':(Fm.size:Int)=(ws.length:Int)->Ev (fun k=>zmK k (bL w0::ws.map bL) Fm (ws.map bL) (ws.length:Int) 0 D n s0) r):Ev (fun k=>qfrz.f k D n (bL l)) r:=by
 have hb:=zba 32 l
 rw [hs,List.length_cons] at hb
 have hq:qfnz.f (bL l) (bs [32])=some (bL w0::ws.map bL):=by
  have:=za5 (l:=l) (by omega) 32
  rw [hs] at this
  exact this
 have hlen:(bL w0::ws.map bL).length=ws.length+1:=by simp
 refine qfrz.v ?_
 simp (disch:=omega) only [S,hq,rd0,hS,hlen]
 by_cases c:(Fm.size:Int)=(ws.length:Int)
 · have e:((Fm.size:Int) != (((ws.length+1:Nat):Int)-1))=false:=by rw [bne_eq_false_iff_eq]; omega
   have e2:List.drop 1 (bL w0::ws.map bL)=ws.map bL:=rfl
   have e3:(ws.map bL).length=ws.length:=List.length_map _
   simp (disch:=omega) only [S,e,e2,e3]
   exact h' c
 · have e:((Fm.size:Int) != (((ws.length+1:Nat):Int)-1))=true:=by rw [bne_iff_ne]; omega
   simp (disch:=omega) only [S,e]
   rw [h c]
   exact Ev.now _
theorem zlw {D:List Wk} {n:Int} {l:BA} {z} (h:Ev (fun k=>qhuz.f k D n l) (bs [],(z,false))):Ev (fun k=>qhlz.f k D n l) ((D,n),zf2):=by
 refine qhlz.v (Ev.bind h ?_)
 simp only [S]
 exact Ev.now _
theorem zmL {D:List Wk} {n:Int} (hD:dOk D n=true) {l:List UInt8} (hl:l.length<=100000):∃ r:(List Wk×Int)×BA,dOk r.1.1 r.1.2=true/\Ev (fun k=>qfrz.f k D n (bL l)) r/\Ev (fun k=>qhlz.f k D n (bL l)) r:=by
 have hb:=zba 32 l
 have hm:=zb5 32 l
 cases hs:zac 32 l with
 | nil=>exact absurd hs (zaV 32 l)
 | cons w0 ws =>
  rw [hs,List.length_cons] at hb
  have hw:∀ w∈ws,w.length<=2000000:=fun w h=>by
   have:=hm w (by rw [hs]; exact List.mem_cons_of_mem _ h)
   omega
  rcases znO w0 with ⟨u1,u2⟩ | ⟨e,he,e1,e2,e3⟩
  · refine ⟨((D,n),zf2),hD,?_,zlw (z:=(D,(n,s0))) (zoS hl hs u2 (fun _=>⟨rfl,rfl,rfl⟩) (fun hc=>?_))⟩
    · have hq:qfnz.f (bL l) (bs [32])=some (bL w0::ws.map bL):=by
       have:=za5 (l:=l) (by omega) 32
       rw [hs] at this
       exact this
      have hlen:(bL w0::ws.map bL).length=ws.length+1:=by simp
      refine qfrz.v ?_
      simp (disch:=omega) only [S,hq,rd0,u1,hlen]
      exact Ev.now _
    · rw [zhk] at hc
      simp only [List.length_cons,List.length_nil] at hc
      have hml:(ws.map bL).length=ws.length:=List.length_map _
      have hz:bat (bs [63]) (0:Int)=63:=by
       have:=zrl (fs:=[63]) (i:=0) (by decide)
       exact this
      have hz2:(bs [63]).size=1:=zhk [63]
      refine qhuz.v0 ?_
      have c0:iLt 0 (ws.length:Int)=true:=decide_eq_true (by omega)
      have c1:∀ {β:Type} (x:Option β),ix 0 (ws.map bL) x=x:=fun x=>S.2.1 (by decide) (by omega)
      have c2:∀ {β:Type} (x:Option β),gd (0 < sln (bs [63])) x=x:=fun x=>S.1 (by show (0:Int) < ((bs [63]).size:Int); omega)
      have c3:∀ {β:Type} (x:Option β),gd ((0:Int)<=0) x=x:=fun x=>S.1 (by decide)
      have d1:((63:Int) == 110)=false:=by decide
      have d2:((63:Int) == 119)=false:=by decide
      have d3:((63:Int) == 99)=false:=by decide
      have d4:((63:Int) == 108)=false:=by decide
      have d5:((63:Int) == 118)=false:=by decide
      simp only [c0,c1,c2,c3,hz,d1,d2,d3,d4,d5,if_true,Bool.false_eq_true,if_false]
      exact Ev.now _
  · rw [<- e1] at e2 e3
    have z1:=zhk e.2
    have z2:=zhk (e.2.map (· + 32))
    rw [List.length_map] at z2
    by_cases hc:e.2.length=ws.length
    · have h3:=zsu e he
      have hr:=zrn (w0:=w0) (D:=D) (n:=n) (ztS e he) hc (by omega) hw ws.length 0 (by omega) s0 (by decide)
      rw [List.drop_zero,List.drop_zero] at hr
      cases ht:zf1 e.2 ws s0 with
      | none =>
       obtain ⟨a,z,b⟩:=hr.1 ht
       exact ⟨((D,n),zf2),hD,zrw hl hs e2 (fun h=>absurd (by omega) h) (fun _=>a),zlw (zoS hl hs e3 (fun h=>absurd (by omega) h) (fun _=>b))⟩
      | some t =>
       obtain ⟨a,b⟩:=hr.2 t ht
       obtain ⟨r,r1,⟨R,r2,r3⟩,r4⟩:=ztR hD he hc ht
       rw [<- e1] at r2 r4
       refine ⟨r,r1,zrw hl hs e2 (fun h=>absurd (by omega) h) (fun _=>by rw [r3]; exact a R r2),r4 _ (zoS hl hs e3 (fun h=>absurd (by omega) h) (fun _=>b))⟩
    · exact ⟨((D,n),zf2),hD,zrw hl hs e2 (fun _=>rfl) (fun h=>absurd (by omega) hc),zlw (z:=(D,(n,s0))) (zoS hl hs e3 (fun _=>⟨rfl,rfl,rfl⟩) (fun h=>absurd (by omega) hc))⟩
theorem zkL {c:UInt8}:∀ {l:List UInt8},c∈l->1 < (zac c l).length:=by
 intro l
 induction l with
 | nil=>intro h; simp at h
 | cons b l ih =>
  intro h
  have h0:=zaV c l
  unfold zac
  by_cases e:b=c
  · rw [if_pos e,List.length_cons]
    have:=List.length_pos_iff.2 h0
    omega
  · rw [if_neg e]
    have h':c∈l:=by
     rcases List.mem_cons.1 h with h | h
     · exact absurd h.symm e
     · exact h
    have:=ih h'
    cases hs:zac c l with
    | nil=>exact absurd hs h0
    | cons w ws=>rw [hs] at this; simpa using this
theorem ib {c:UInt8}:∀ l:List UInt8,(c∈l->0<=Lib.indexByte l c)/\(c ∉ l->Lib.indexByte l c = -1)
 | []=>⟨fun h=>by simp at h,fun _=>rfl⟩
 | b::l=>by
  obtain ⟨h1,h2⟩:=ib (c:=c) l
  unfold Lib.indexByte
  by_cases e:b=c
  · subst e
    exact ⟨fun _=>by simp,fun h=>absurd (List.mem_cons_self) h⟩
  · have e':(b == c)=false:=by simpa using e
    rw [e',if_neg (by decide)]
    refine ⟨fun h=>?_,fun h=>?_⟩
    · have h':c∈l:=by
       rcases List.mem_cons.1 h with h | h
       · exact absurd h.symm e
       · exact h
      have:=h1 h'
      rw [if_neg (by rw [beq_iff_eq]; omega)]
      omega
    · have:=h2 (fun hc=>h (List.mem_cons_of_mem _ hc))
      rw [this]; rfl
theorem znR (l:List UInt8) (c:UInt8):qdaz.f (bL l) (bL [c])=some (decide (1 < (zac c l).length)):=by
 have h1:zcf (bL l) (bL [c])=decide (1 < (zac c l).length):=by
  unfold zcf
  rw [zhM,zhM,show ([c]:List UInt8).headD 0=c from rfl]
  by_cases h:c∈l
  · rw [decide_eq_true (zkL h),decide_eq_true ((ib l).1 h)]
  · rw [zgz c l h,(ib l).2 h]
    rfl
 show (bif oneB (bL l) (bL [c]) then some (zcf (bL l) (bL [c])) else none)=_
 rw [h1]
 rfl
theorem zb6 {l:List UInt8} {c:UInt8}:Lib.hasSuffix l [c]=true ↔ ∃ b,l=b++[c]:=by
 unfold Lib.hasSuffix
 rw [List.isSuffixOf_iff_suffix]
 constructor
 · rintro ⟨b,h⟩; exact ⟨b,h.symm⟩
 · rintro ⟨b,h⟩; exact ⟨b,h.symm⟩
theorem zsv (b:List UInt8):zcg (bL (b++[10]))=bL b:=by
 have h:Lib.hasSuffix (b++[10]) [10]=true:=zb6.2 ⟨b,rfl⟩
 unfold zcg trimB Lib.trimSuffix
 rw [zhM,show (ByteArray.data ⟨#[(10:UInt8)]⟩).toList=[10] from rfl,if_pos h]
 simp [bL]
theorem zjP {c:UInt8}:∀ {l:List UInt8},c∈l->∃ a r,l=a++c::r/\c ∉ a/\Lib.indexByte l c=(a.length:Int)
 | b::l,h=>by
  by_cases hb:b=c
  · subst hb
    exact ⟨[],l,rfl,by simp,by simp [Lib.indexByte]⟩
  · have hl:c∈l:=by rcases List.mem_cons.1 h with h | h; exact absurd h.symm hb; exact h
    obtain ⟨a,r,rfl,h1,h2⟩:=zjP hl
    refine ⟨b::a,r,rfl,by simp [h1,Ne.symm hb],?_⟩
    have e1:(b == c)=false:=beq_false_of_ne hb
    unfold Lib.indexByte
    rw [h2,e1]
    have e2:((a.length:Int) == -1)=false:=beq_false_of_ne (by omega)
    simp [e2]
theorem zjQ (c:UInt8):∀ l:List UInt8,(zac c l).length=Lib.countByte l c+1
 | []=>by simp [zac,Lib.countByte]
 | b::l=>by
  have ih:=zjQ c l
  unfold zac
  unfold Lib.countByte at *
  by_cases hb:b=c
  · subst hb
    rw [if_pos rfl,List.length_cons,ih,List.count_cons_self]
  · rw [if_neg hb,List.count_cons_of_ne hb]
    split
    · rename_i h; exact absurd h (zaV c l)
    · rename_i w ws h
      rw [h] at ih
      simpa using ih
theorem zfe (c:UInt8):∀ l:List UInt8,((zac c l).getLast (zaV c l)=[] ↔ l=[] \/ Lib.hasSuffix l [c]=true)
 | []=>by simp [zac]
 | b::l=>by
  have ih:=zfe c l
  have hx:Lib.hasSuffix (b::l) [c]=true ↔ (l=[]/\b=c) \/ Lib.hasSuffix l [c]=true:=by
   rw [zb6,zb6]
   constructor
   · rintro ⟨a,h⟩
     cases a with
     | nil=>simp at h; exact .inl ⟨h.2,h.1⟩
     | cons x a=>simp at h; exact .inr ⟨a,h.2⟩
   · rintro (⟨rfl,rfl⟩ | ⟨a,rfl⟩)
     · exact ⟨[],rfl⟩
     · exact ⟨b::a,rfl⟩
  rw [hx]
  obtain ⟨w,ws,h⟩ : ∃ w ws,zac c l=w::ws:=by
   cases h:zac c l with
   | nil=>exact absurd h (zaV c l)
   | cons w ws=>exact ⟨w,ws,rfl⟩
  by_cases hb:b=c
  · subst hb
    have e:zac b (b::l)=[]::zac b l:=by rw [zac,if_pos rfl]
    simp only [e]
    rw [List.getLast_cons (zaV b l),ih]
    simp
  · have e:zac c (b::l)=(b::w)::ws:=by rw [zac,if_neg hb,h]
    simp only [e]
    simp only [h] at ih
    cases ws with
    | nil =>
     have hl:c ∉ l:=fun hc=>by have:=zkL hc; rw [h] at this; simp at this
     simp only [List.getLast_singleton]
     have:¬ Lib.hasSuffix l [c]=true:=fun hs=>by obtain ⟨a,rfl⟩:=zb6.1 hs; exact hl (by simp)
     simp [this,hb]
    | cons y ys =>
     rw [List.getLast_cons (by simp)] at ih ⊢
     rw [ih]
     have:l ≠ []:=fun hl=>by subst hl; simp [zac] at h
     simp [this]
theorem zmM {l:List UInt8} (hs:l=[] \/ Lib.hasSuffix l [10]=true) (hz:l ≠ []):∃ a r,l=a++10::r/\(10:UInt8) ∉ a/\(r=[] \/ Lib.hasSuffix r [10]=true):=by
 have hs':Lib.hasSuffix l [10]=true:=by rcases hs with hs | hs; exact absurd hs hz; exact hs
 obtain ⟨b,hb⟩:=zb6.1 hs'
 have hm:(10:UInt8)∈l:=by rw [hb]; simp
 obtain ⟨a,r,hl,ha,_⟩:=zjP hm
 refine ⟨a,r,hl,ha,?_⟩
 by_cases hr:r=[]
 · exact .inl hr
 · refine .inr (zb6.2 ?_)
   rw [hl] at hb
   obtain ⟨r',x,rfl⟩ : ∃ r' x,r=r' ++ [x]:=⟨r.dropLast,r.getLast hr,(List.dropLast_concat_getLast hr).symm⟩
   have e:a++10::(r' ++ [x])=(a++10::r')++[x]:=by simp
   rw [e] at hb
   have h2:=(List.append_inj' hb rfl).2
   exact ⟨r',by rw [h2]⟩
theorem zjR:∀ (n:Nat) (l:List UInt8),l.length<=n->(l=[] \/ Lib.hasSuffix l [10]=true)->(zbl n (bL l)).map zcg=((zac 10 l).dropLast).map bL
 | 0,l,h,_=>by
  have:l=[]:=List.eq_nil_of_length_eq_zero (by omega)
  subst this
  simp [zbl,zac]
 | n+1,l,h,hs=>by
  by_cases hz:l=[]
  · subst hz
    have:(bL []).size=0:=rfl
    simp [zbl,zac,this]
  · have hs':Lib.hasSuffix l [10]=true:=by rcases hs with hs | hs; exact absurd hs hz; exact hs
    obtain ⟨b,hb⟩:=zb6.1 hs'
    have hm:(10:UInt8)∈l:=by rw [hb]; simp
    obtain ⟨a,r,hl,ha,hi⟩:=zjP hm
    have hsz:¬ (bL l).size=0:=by rw [zak]; intro h0; exact hz (List.eq_nil_of_length_eq_zero h0)
    have hr:r=[] \/ Lib.hasSuffix r [10]=true:=by
     by_cases hr:r=[]
     · exact .inl hr
     · refine .inr (zb6.2 ?_)
       rw [hl] at hb
       obtain ⟨r',x,rfl⟩ : ∃ r' x,r=r' ++ [x]:=⟨r.dropLast,r.getLast hr,(List.dropLast_concat_getLast hr).symm⟩
       have e:a++10::(r' ++ [x])=(a++10::r')++[x]:=by simp
       rw [e] at hb
       have h2:=(List.append_inj' hb rfl).2
       exact ⟨r',by rw [h2]⟩
    have ih:=zjR n r (by rw [hl] at h; simp at h; omega) hr
    unfold zbl
    rw [if_neg hsz,zhM,hi,if_pos (by omega),zlh,zcr,zcr,zak]
    have e0:l=(a++[10])++r:=by rw [hl]; simp
    have e1:(l.take (a.length+1)).drop 0=a++[10]:=by rw [List.drop_zero,e0]; exact List.take_left' (by simp)
    have e2:(l.take l.length).drop (a.length+1)=r:=by rw [List.take_length,e0]; exact List.drop_left' (by simp)
    rw [e1,e2,List.map_cons,zsv,ih,hl,zc8 10 r a ha,List.dropLast_cons_of_ne_nil (zaV 10 r)]
    rfl
theorem zil (l:List UInt8):zcq (bL l)=true ↔ l.length<=3000/\(zac 10 l).getLast (zaV 10 l)=[]/\(zac 10 l).length<=51:=by
 unfold zcq
 rw [zhM,zak,zfe,zjQ]
 simp only [Bool.and_eq_true,Bool.or_eq_true,decide_eq_true_eq]
 constructor
 · rintro ⟨h1,h2,h3⟩
   exact ⟨h1,h2.imp (fun h=>List.eq_nil_of_length_eq_zero h) id,by omega⟩
 · rintro ⟨h1,h2,h3⟩
   exact ⟨h1,h2.imp (fun h=>by rw [h]; rfl) id,by omega⟩
theorem zhl {l:List UInt8} (h:zcq (bL l)=true):zem (bL l)=((zac 10 l).dropLast).map bL:=by
 unfold zem
 rw [zak]
 exact zjR _ l (Nat.le_refl _) ((zfe 10 l).1 ((zil l).1 h).2.1)
theorem zpN {st:Dk->BA->Dk×BA} (hst:∀ (D:List Wk) (n:Int) (l:List UInt8),dOk D n=true->l.length<=100000->dOk (st (D,n) (bL l)).1.1 (st (D,n) (bL l)).1.2=true/\Ev (fun k=>qhlz.f k D n (bL l)) (st (D,n) (bL l))) (xs:List (List UInt8)) (hx:∀ x∈xs,x.length<=100000) (hl:xs.length<=2000000) :
    ∀ (m i:Nat) (d:Dk) (acc:List BA),i+m=xs.length->acc.length=i->dOk d.1 d.2=true ->
     Ev (fun k=>qhwz.l0 k (xs.map bL) (xs.length:Int) (i:Int) 0 d.1 d.2 acc) ((zaM st d ((xs.drop i).map bL)).1,(acc++(zaM st d ((xs.drop i).map bL)).2,true)):=by
 have hln:(xs.map bL).length=xs.length:=List.length_map _
 intro m
 induction m with
 | zero =>
  intro i d acc hi ha hd
  rw [show i=xs.length by omega,List.drop_length]
  refine qhwz.v0 ?_
  simp (disch:=omega) only [S]
  simp only [zaM,List.map_nil,List.append_nil]
  exact Ev.now _
 | succ m ih =>
  intro i d acc hi ha hd
  have hx':(xs.getD i []).length<=100000:=hx _ (zag (by omega))
  obtain ⟨h1,h2⟩:=hst d.1 d.2 (xs.getD i []) hd hx'
  have e:xs.drop i=xs.getD i []::xs.drop (i+1):=zav [] (by omega)
  have h:=ih (i+1) (st d (bL (xs.getD i []))).1 (acc++[(st d (bL (xs.getD i []))).2]) (by omega) (by simp [ha]) h1
  rw [e,List.map_cons]
  simp only [zaM]
  rw [List.append_assoc,List.singleton_append] at h
  refine qhwz.v0 ?_
  simp (disch:=omega) only [S,hln,ha,zeR]
  exact Ev.bind h2 h
theorem ztT:qejz.f=some ([((0:Int),(3:Int)),(10,-2)],10):=rfl
theorem zsw {st:Dk->BA->Dk×BA} (hst:∀ (D:List Wk) (n:Int) (l:List UInt8),dOk D n=true->l.length<=100000->dOk (st (D,n) (bL l)).1.1 (st (D,n) (bL l)).1.2=true/\Ev (fun k=>qhlz.f k D n (bL l)) (st (D,n) (bL l))) {l:List UInt8} (hl:l.length<=2000000) :
    Ev (fun k=>qhwz.f k (bL l)) (((svOf st).D (bL l),(svOf st).n (bL l)),((svOf st).r (bL l),(svOf st).b (bL l))):=by
 have hsz:sln (bL l)=(l.length:Int):=by simp only [sln,zak]
 have hsp:Ev (fun k=>qgez.f k (bL l) 10) ((zac 10 l).map bL):=zaS hl 10
 have hln:ln ((zac 10 l).map bL)=((zac 10 l).length:Int):=by simp only [ln,List.length_map]
 have hne:=zaV 10 l
 have hpos:0 < (zac 10 l).length:=List.length_pos_iff.2 hne
 have hcl:=zba 10 l
 have hk:W (((zac 10 l).length:Int)-1)=(((zac 10 l).length-1:Nat):Int):=by rw [w64 (by omega) (by omega)]; omega
 have hlast:(zac 10 l).getD ((zac 10 l).length-1) []=(zac 10 l).getLast hne:=by
  rw [List.getD_eq_getElem?_getD,List.getLast_eq_getElem,List.getElem?_eq_getElem (by omega)]; rfl
 have hbad:zcq (bL l)=false->(((svOf st).D (bL l),(svOf st).n (bL l)),((svOf st).r (bL l),(svOf st).b (bL l)))=((([],0),([],false)):(List Wk×Int)×(List BA×Bool)):=fun h=>by
  unfold svOf; simp only [h]; rfl
 have hgi:=zil l
 refine qhwz.v ?_
 by_cases h1:l.length<=3000
 · have c1:iGt (l.length:Int) 3000=false:=decide_eq_false (by omega)
   simp only [hsz,c1,Bool.false_eq_true,if_false]
   refine Ev.bind hsp ?_
   have hlm:((zac 10 l).map bL).length=(zac 10 l).length:=List.length_map _
   simp only [hln,hk]
   have hix:∀ {β:Type} {x:Option β},ix (((zac 10 l).length-1:Nat):Int) ((zac 10 l).map bL) x=x:=fun {β x}=>by
    simp (disch:=omega) only [S,hlm]
   refine Ev.eq (fun k=>hix) ?_
   have hrd:rd (bs []) ((zac 10 l).map bL) (((zac 10 l).length-1:Nat):Int)=bL ((zac 10 l).getLast hne):=by rw [zuA,hlast]
   simp only [hrd]
   have hbs:bs []=bL []:=rfl
   simp only [hbs,zqS]
   by_cases h2:(zac 10 l).getLast hne=[]
   · by_cases h3:(zac 10 l).length<=51
     · have hg:zcq (bL l)=true:=hgi.2 ⟨h1,h2,h3⟩
       have c3:iGt (((zac 10 l).length-1:Nat):Int) 50=false:=decide_eq_false (by omega)
       simp only [decide_eq_true h2]
       simp only [Bool.not_true,Bool.false_eq_true,if_false,c3,ztT,Option.bind_some]
       have hdrop:List.take (Int.toNat (((zac 10 l).length-1:Nat):Int)) ((zac 10 l).map bL)=((zac 10 l).dropLast).map bL:=by
        rw [zlh,<- List.map_take,List.dropLast_eq_take]
       simp only [hdrop]
       have hdl:((zac 10 l).dropLast).length=(zac 10 l).length-1:=List.length_dropLast
       have h:=zpN hst (zac 10 l).dropLast (fun x hx=>by have:=zb5 10 l x ((List.dropLast_sublist _).subset hx); omega) (by omega) ((zac 10 l).dropLast).length 0 d00 [] (by omega) rfl rfl
       have hln2:ln (((zac 10 l).dropLast).map bL)=(((zac 10 l).dropLast).length:Int):=by simp only [ln,List.length_map]
       simp only [hln2]
       have hgd:∀ {β:Type} {x:Option β},gd (0<=(((zac 10 l).length-1:Nat):Int)) (gd ((((zac 10 l).length-1:Nat):Int)<=((zac 10 l).length:Int)) x)=x:=fun {β x}=>by
        simp (disch:=omega) only [S]
       have hv:(((svOf st).D (bL l),(svOf st).n (bL l)),((svOf st).r (bL l),(svOf st).b (bL l)))=((zaM st d00 (((zac 10 l).dropLast).map bL)).1,((zaM st d00 (((zac 10 l).dropLast).map bL)).2,true)):=by
        unfold svOf
        simp only [hg,zhl hg,cond_true]
       rw [hv]
       refine Ev.eq (fun k=>hgd) ?_
       exact h
     · have hg:zcq (bL l)=false:=by cases hq:zcq (bL l) with | false=>rfl | true=>exact absurd (hgi.1 hq).2.2 h3
       have c3:iGt (((zac 10 l).length-1:Nat):Int) 50=true:=decide_eq_true (by omega)
       rw [hbad hg]
       simp only [decide_eq_true h2]
       simp only [Bool.not_true,Bool.false_eq_true,if_false,c3,if_true]
       exact Ev.now _
   · have hg:zcq (bL l)=false:=by cases hq:zcq (bL l) with | false=>rfl | true=>exact absurd (hgi.1 hq).2.1 h2
     rw [hbad hg]
     simp only [decide_eq_false h2]
     simp only [Bool.not_false,if_true]
     exact Ev.now _
 · have hg:zcq (bL l)=false:=by cases hq:zcq (bL l) with | false=>rfl | true=>exact absurd (hgi.1 hq).1 h1
   have c1:iGt (l.length:Int) 3000=true:=decide_eq_true (by omega)
   rw [hbad hg]
   simp only [hsz,c1,if_true]
   exact Ev.now _
theorem zsx (st:Dk->BA->Dk×BA) (l:List UInt8):((svOf st).r (bL l)).length<=3000:=by
 unfold svOf
 cases hg:zcq (bL l) with
 | false=>simp [hg]
 | true =>
  simp only [hg,cond_true]
  rw [scRun_length,zhl hg,List.length_map,List.length_dropLast]
  have:=(zil l).1 hg
  have:=zba 10 l
  omega
def ztU [Inhabited Sv]:Prop:=∃ st:Dk->BA->Dk×BA,sv=svOf st /\ ∀ (D:List Wk) (n:Int) (l:List UInt8),dOk D n=true->l.length<=100000 ->
 dOk (st (D,n) (bL l)).1.1 (st (D,n) (bL l)).1.2=true/\Ev (fun k=>qfrz.f k D n (bL l)) (st (D,n) (bL l))/\Ev (fun k=>qhlz.f k D n (bL l)) (st (D,n) (bL l))
theorem zrx (h:ztU) (l:List UInt8) (hl:l.length<=1048576):sv.ok (bL l)=true/\(sv.r (bL l)).length<=3000/\(sv.b (bL l)=false->sv.r (bL l)=[])/\Ev (fun k=>qhwz.f k (bL l)) ((sv.D (bL l),sv.n (bL l)),(sv.r (bL l),sv.b (bL l))):=by
 obtain ⟨st,e,hst⟩:=h
 rw [e]
 refine ⟨rfl,zsx st l,fun hb=>?_,zsw (fun D n l hD hl=>⟨(hst D n l hD hl).1,(hst D n l hD hl).2.2⟩) (by omega)⟩
 have hb':zcq (bL l)=false:=hb
 unfold svOf
 simp only [hb',cond_false]
def zev:Nat->List BA->List Int
 | _,[]=>[]
 | i,x::xs=>(if seq x noB=true \/ seq x zf2=true then [((i+1:Nat):Int)] else [])++zev (i+1) xs
theorem zmN:∀ (xs:List BA) (i:Nat),(zev i xs).length<=xs.length
 | [],_=>Nat.le_refl _
 | x::xs,i=>by
  have:=zmN xs (i+1)
  unfold zev
  split <;> simp only [List.length_append,List.length_cons,List.length_nil] <;> omega
theorem znS {F:Fu->List BA->Int->Int->List Int->Option (List Int×Bool)} {b:Bool}
    (v:∀ {x0:List BA} {x1 x2:Int} {x3:List Int} {r:List Int×Bool},Ev (fun k=>if (iLt x2 x1) then ix x2 x0 <| if (seq (rd (bs []) x0 x2) (bs [110,111])) then gd (((lnN x3)+1)<=17592186044416) <| F k x0 x1 (W (x2+1)) (x3++[(W (x2+1))]) else if (seq (rd (bs []) x0 x2) (bs [119,104,97,116])) then gd (((lnN x3)+1)<=17592186044416) <| F k x0 x1 (W (x2+1)) (x3++[(W (x2+1))]) else F k x0 x1 (W (x2+1)) x3 else some (x3,b)) r->Ev (fun k=>F k x0 x1 x2 x3) r)
    (xs:List BA) (hl:xs.length<=2000000):∀ (m i:Nat) (acc:List Int),i+m=xs.length->acc.length<=i->Ev (fun k=>F k xs (xs.length:Int) (i:Int) acc) (acc++zev i (xs.drop i),b):=by
 intro m
 induction m with
 | zero =>
  intro i acc hi ha
  rw [show i=xs.length by omega,List.drop_length]
  refine v ?_
  simp (disch:=omega) only [S]
  simp only [zev,List.append_nil]
  exact Ev.now _
 | succ m ih =>
  intro i acc hi ha
  have e:xs.drop i=xs.getD i (bs [])::xs.drop (i+1):=zav (bs []) (by omega)
  have w1:W ((i:Int)+1)=((i+1:Nat):Int):=by rw [w64 (by omega) (by omega)]; omega
  have h1:=ih (i+1) (acc++[((i+1:Nat):Int)]) (by omega) (by simp; omega)
  have h2:=ih (i+1) acc (by omega) (by omega)
  rw [List.append_assoc] at h1
  rw [e]
  unfold zev
  refine v ?_
  simp only [w1]
  simp (disch:=omega) only [S]
  by_cases c1:seq (xs.getD i (bs [])) (bs [110,111])=true
  · have c:seq (xs.getD i (bs [])) noB=true \/ seq (xs.getD i (bs [])) zf2=true:=.inl c1
    simp only [c1,if_true,if_pos c]
    exact h1
  · by_cases c2:seq (xs.getD i (bs [])) (bs [119,104,97,116])=true
    · have c:seq (xs.getD i (bs [])) noB=true \/ seq (xs.getD i (bs [])) zf2=true:=.inr c2
      simp only [c1,c2,if_true,if_pos c,if_false]
      exact h1
    · have c:¬ (seq (xs.getD i (bs [])) noB=true \/ seq (xs.getD i (bs [])) zf2=true):=fun h=>h.elim c1 c2
      simp only [c1,c2,if_false,if_neg c,List.nil_append]
      exact h2
theorem zry {st:Dk->BA->Dk×BA}:∀ (a b:List BA) (d:Dk),zaM st d (a++b)=((zaM st (zaM st d a).1 b).1,(zaM st d a).2++(zaM st (zaM st d a).1 b).2)
 | [],_,_=>rfl
 | x::a,b,d=>by simp only [List.cons_append,zaM,zry a]
theorem zhm (i:Nat) (x:BA) (xs:List BA):zev i (x::xs)=(if seq x noB=true \/ seq x zf2=true then [((i+1:Nat):Int)] else [])++zev (i+1) xs:=rfl
theorem zrz:∀ (a b:List BA) (i:Nat),zev i (a++b)=zev i a++zev (i+a.length) b
 | [],_,_=>rfl
 | x::a,b,i=>by
  simp only [List.cons_append,zev,zrz a,List.append_assoc,List.length_cons]
  rw [show i+1+a.length=i+(a.length+1) by omega]
theorem zkM:∀ (n:Nat) (l:List UInt8),l.length<=n->(l=[] \/ Lib.hasSuffix l [10]=true)->l=((zac 10 l).dropLast.map (· ++ [10])).flatten /\ ∀ x∈(zac 10 l).dropLast,(10:UInt8) ∉ x
 | n,l,h,hs=>by
  by_cases hz:l=[]
  · subst hz; simp [zac]
  · obtain ⟨a,r,hl,ha,hr⟩:=zmM hs hz
    cases n with
    | zero=>rw [hl] at h; simp at h
    | succ n =>
     obtain ⟨h1,h2⟩:=zkM n r (by rw [hl] at h; simp at h; omega) hr
     rw [hl,zc8 10 r a ha,List.dropLast_cons_of_ne_nil (zaV 10 r),List.map_cons,List.flatten_cons,<- h1]
     exact ⟨by simp,fun x hx=>by rcases List.mem_cons.1 hx with rfl | hx; exact ha; exact h2 x hx⟩
theorem zpO:∀ (n:Nat) (u v:List UInt8),u.length<=n->(u=[] \/ Lib.hasSuffix u [10]=true)->(zac 10 (u++v)).dropLast=(zac 10 u).dropLast++(zac 10 v).dropLast
 | n,u,v,h,hs=>by
  by_cases hz:u=[]
  · subst hz; simp [zac]
  · obtain ⟨a,r,hl,ha,hr⟩:=zmM hs hz
    cases n with
    | zero=>rw [hl] at h; simp at h
    | succ n =>
     have ih:=zpO n r v (by rw [hl] at h; simp at h; omega) hr
     rw [hl,List.append_assoc,List.cons_append,zc8 10 (r++v) a ha,zc8 10 r a ha,List.dropLast_cons_of_ne_nil (zaV 10 r),List.dropLast_cons_of_ne_nil (zaV 10 (r++v)),ih]
     rfl
theorem znT {st:Dk->BA->Dk×BA} {D:List Wk} {n:Int} {x:List UInt8} (hD:dOk D n=true) (hx:x.length<=3000) (h10:(10:UInt8) ∉ x) (h1:dOk (st (D,n) (bL x)).1.1 (st (D,n) (bL x)).1.2=true) (h2:Ev (fun k=>qfrz.f k D n (bL x)) (st (D,n) (bL x))) :
    Ev (fun k=>qfoz.f k D n (bL x)) ((st (D,n) (bL x)).1,((st (D,n) (bL x)).2,true)):=by
 have hI:=zfr D n
 rw [hD] at hI
 have hC:=znR x 10
 have hC':qdaz.f (bL x) (bs [10])=some (decide (1 < (zac 10 x).length)):=hC
 rw [zgz 10 x h10] at hC'
 have h8:=(zal.1 (zat.1 h1).1).1
 have e:(decide (1 < [x].length))=false:=rfl
 rw [e] at hC'
 refine qfoz.v (Ev.bind hI ?_)
 simp (disch:=omega) only [S,zak,hC']
 refine Ev.bind h2 ?_
 unfold qbfz.f
 simp (disch:=omega) only [S]
 exact Ev.now _
theorem znU {l:List BA} (h:l.length<=2000000):Ev (fun k=>qhpz.f k l l) true:=by
 have key:∀ (d i:Nat),i+d=l.length->Ev (fun k=>qhpz.l0 k l l (l.length:Int) (i:Int)) true:=by
  intro d
  induction d with
  | zero =>
   intro i hi
   rw [show i=l.length by omega]
   refine qhpz.v0 ?_
   simp (disch:=omega) only [S]
   exact Ev.now _
  | succ d ih =>
   intro i hi
   have h:=ih (i+1) (by omega)
   refine qhpz.v0 ?_
   simp (disch:=omega) only [S,zoC]
   exact h
 refine qhpz.v ?_
 simp (disch:=omega) only [S]
 exact key l.length 0 (by omega)
theorem zlx {l:List Wk} (h:l.length<=2000000):Ev (fun k=>qfiz.f k l l) true:=by
 have key:∀ (d i:Nat),i+d=l.length->Ev (fun k=>qfiz.l0 k l l (l.length:Int) (i:Int)) true:=by
  intro d
  induction d with
  | zero =>
   intro i hi
   rw [show i=l.length by omega]
   refine qfiz.v0 ?_
   simp (disch:=omega) only [S]
   exact Ev.now _
  | succ d ih =>
   intro i hi
   have h:=ih (i+1) (by omega)
   have e:∀ p:Wk,(p.1 == p.1 && p.2 == p.2)=true:=fun p=>by simp
   refine qfiz.v0 ?_
   simp (disch:=omega) only [S,e]
   exact h
 refine qfiz.v ?_
 simp (disch:=omega) only [S]
 exact key l.length 0 (by omega)
theorem zpP {l:List Wk} (h:l.length<=2000000) (n:Int):Ev (fun k=>qicz.f k l n l n) true:=by
 refine qicz.v ?_
 simp (disch:=omega) only [S]
 exact Ev.bind (zlx h) (Ev.now _)
theorem zmO {l t:List UInt8} {a:UInt8} {i:Nat} (h:l.drop i=a::t):i < l.length/\l.getD i 0=a/\l.drop (i+1)=t:=by
 have hi:i < l.length:=by
  rcases Nat.lt_or_ge i l.length with h' | h'
  · exact h'
  · rw [List.drop_eq_nil_of_le h'] at h; cases h
 rw [zav 0 hi] at h
 exact ⟨hi,(List.cons.inj h).1,(List.cons.inj h).2⟩
theorem ne10 {a:UInt8} (h:a ≠ 10):((a.toNat:Int) != 10)=true:=by
 rw [bne_iff_ne]
 intro e
 exact h (UInt8.toNat_inj.1 (by have:a.toNat=10:=by omega
                                rw [this]; rfl))
theorem zpQ {F:Fu->BA->Int->Int->Int->List Wk->Int->Option Bool} {s:List UInt8} {reps:List BA} {fl:List Int} {LD:List Wk} {LN:Int}
    (v:∀ {x2:BA} {x3 x4 x5:Int} {x9:List Wk} {x10:Int} {r:Bool},Ev (fun k=>if (iLt x5 (sln (bL s))) then gd (0<=x5) <| gd (x5 < (sln (bL s))) <| if ((bat (bL s) x5) != 10) then gd (0<=x5) <| gd (x5<=(W (x5+1))) <| gd ((W (x5+1))<=(sln (bL s))) <| gd (((ByteArray.size x2)+(ByteArray.size (ByteArray.extract (bL s) (Int.toNat x5) (Int.toNat (W (x5+1))))))<=maxLen) <| F k (x2++(ByteArray.extract (bL s) (Int.toNat x5) (Int.toNat (W (x5+1))))) x3 x4 (W (x5+1)) x9 x10 else (qfoz.f k x9 x10 x2).bind fun t0 =>
     if (!t0.2.2) then some false else if (iGe x3 (ln reps)) then some false else ix x3 reps <| if (!(seq (rd (bs []) reps x3) t0.2.1)) then some false else if (seq t0.2.1 (bs [110,111])) then if (iGe x4 (ln fl)) then some false else ix x4 fl <| if ((rd 0 fl x4) != (W (x3+1))) then some false else F k (bs []) (W (x3+1)) (W (x4+1)) (W (x5+1)) t0.1.1 t0.1.2 else if (seq t0.2.1 (bs [119,104,97,116])) then if (iGe x4 (ln fl)) then some false else ix x4 fl <| if ((rd 0 fl x4) != (W (x3+1))) then some false else F k (bs []) (W (x3+1)) (W (x4+1)) (W (x5+1)) t0.1.1 t0.1.2 else F k (bs []) (W (x3+1)) x4 (W (x5+1)) t0.1.1 t0.1.2 else if (x3 == (ln reps)) then if (x4 == (ln fl)) then (qicz.f k x9 x10 LD LN).bind fun t0 =>
     some t0 else some false else some false) r->Ev (fun k=>F k x2 x3 x4 x5 x9 x10) r)
    {st:Dk->BA->Dk×BA} (hst:∀ (D:List Wk) (n:Int) (l:List UInt8),dOk D n=true->l.length<=100000->dOk (st (D,n) (bL l)).1.1 (st (D,n) (bL l)).1.2=true/\Ev (fun k=>qfrz.f k D n (bL l)) (st (D,n) (bL l))/\Ev (fun k=>qhlz.f k D n (bL l)) (st (D,n) (bL l)))
    (hs:s.length<=3000) (hr:reps.length<=3000) (hf:fl.length<=3000) :
    ∀ (zs:List (List UInt8)) (i:Nat) (ra:List BA) (fa:List Int) (d:Dk),i+((zs.map (· ++ [10])).flatten).length=s.length->s.drop i=(zs.map (· ++ [10])).flatten->(∀ z∈zs,(10:UInt8) ∉ z)->dOk d.1 d.2=true ->
     reps=ra++(zaM st d (zs.map bL)).2->fl=fa++zev ra.length (zaM st d (zs.map bL)).2->(LD,LN)=(zaM st d (zs.map bL)).1->Ev (fun k=>F k (bs []) (ra.length:Int) (fa.length:Int) (i:Int) d.1 d.2) true:=by
 have hsz:sln (bL s)=(s.length:Int):=by simp only [sln,zak]
 have step1:∀ (q p:List UInt8) (i:Nat) (t:List UInt8) (c b:Int) (D:List Wk) (n:Int),(10:UInt8) ∉ q->s.drop i=q++10::t->p.length+q.length<=3000->Ev (fun k=>F k (bL (p++q)) c b ((i+q.length:Nat):Int) D n) true->Ev (fun k=>F k (bL p) c b (i:Int) D n) true:=by
  intro q
  induction q with
  | nil =>
   intro p i t c b D n _ _ _ h
   rw [List.append_nil] at h
   exact h
  | cons a q ih =>
   intro p i t c b D n hq hd hl h
   obtain ⟨hi,ha,hd'⟩:=zmO hd
   have ha10:a ≠ 10:=fun e=>hq (e ▸ List.mem_cons_self)
   have h':=ih (p++[a]) (i+1) t c b D n (fun hm=>hq (List.mem_cons_of_mem _ hm)) hd' (by simp at hl ⊢; omega) (by
    rw [List.append_assoc,List.singleton_append,show i+1+q.length=i+(a::q).length by simp; omega]
    exact h)
   have w1:W ((i:Int)+1)=((i+1:Nat):Int):=by rw [w64 (by omega) (by omega)]; omega
   have ex:ByteArray.extract (bL s) i (i+1)=bL [a]:=by
    rw [zcr,List.take_succ_eq_append_getElem hi,List.drop_append_of_le_length (by simp; omega)]
    have e1:(s.take i).drop i=[]:=List.drop_eq_nil_of_le (by simp; omega)
    have e2:s[i]=a:=by rw [<- ha,List.getD_eq_getElem?_getD,List.getElem?_eq_getElem hi]; rfl
    rw [e1,e2]; rfl
   have hb:=zjl (l:=s) hi
   rw [ha] at hb
   refine v ?_
   simp only [hsz,w1,zlh,ex,hb,ne10 ha10,zak,zdD]
   simp only [List.length_cons] at hl
   have hm:p.length + [a].length<=maxLen:=by simp only [maxLen,List.length_cons,List.length_nil]; omega
   simp (disch:=omega) only [S,hm]
   exact h'
 intro zs
 induction zs with
 | nil =>
  intro i ra fa d hi hd hz hD hrr hff hl
  simp only [List.map_nil,List.flatten_nil,List.length_nil,Nat.add_zero] at hi
  simp only [List.map_nil,zaM,zev,List.append_nil] at hrr hff hl
  obtain ⟨rfl,rfl⟩ : LD=d.1/\LN=d.2:=by rw [<- hl]; exact ⟨rfl,rfl⟩
  have h8:=(zal.1 (zat.1 hD).1).1
  have hy:=zpP (l:=d.1) (by omega) d.2
  refine v ?_
  have hc:iLt (i:Int) (s.length:Int)=false:=decide_eq_false (by omega)
  have e1:((ra.length:Int) == ln reps)=true:=by rw [hrr]; exact beq_self_eq_true _
  have e2:((fa.length:Int) == ln fl)=true:=by rw [hff]; exact beq_self_eq_true _
  simp only [hsz,hc,Bool.false_eq_true,if_false,e1,e2,if_true]
  exact Ev.bind hy (Ev.now _)
 | cons z zs ih =>
  intro i ra fa d hi hd hz hD hrr hff hl
  have h10:=hz z List.mem_cons_self
  simp only [List.map_cons,List.flatten_cons,List.length_append,List.length_cons,List.length_nil] at hi
  rw [List.map_cons,List.flatten_cons,List.append_assoc,List.singleton_append] at hd
  refine step1 z [] i _ _ _ _ _ h10 hd (by simp; omega) ?_
  rw [List.nil_append]
  have hd2:s.drop (i+z.length)=10::(zs.map (· ++ [10])).flatten:=by
   rw [<- List.drop_drop,hd,List.drop_left]
  obtain ⟨hi2,ha,hd3⟩:=zmO hd2
  obtain ⟨D,n⟩:=d
  obtain ⟨k1,k2,_⟩:=hst D n z hD (by omega)
  have hL:=znT hD (by omega) h10 k1 k2
  simp only [List.map_cons,zaM] at hrr hff hl
  generalize st (D,n) (bL z)=r at *
  obtain ⟨⟨D',n'⟩,y⟩:=r
  have w3:W ((ra.length:Int)+1)=(((ra++[y]).length:Nat):Int):=by
   have:ra.length<=reps.length:=by rw [hrr]; simp
   rw [w64 (by omega) (by omega)]; simp
  have w5:W (((i+z.length:Nat):Int)+1)=((i+z.length+1:Nat):Int):=by rw [w64 (by omega) (by omega)]; omega
  have hb:=zjl (l:=s) hi2
  rw [ha] at hb
  have e10:((((10:UInt8).toNat:Nat):Int) != 10)=false:=by decide
  have hrl:ra.length < reps.length:=by rw [hrr]; simp
  have hrg:iGe (ra.length:Int) (ln reps)=false:=decide_eq_false (by simp only [ln]; omega)
  have hrd:rd (bs []) reps (ra.length:Int)=y:=by
   rw [zhK,hrr,List.getD_eq_getElem?_getD,List.getElem?_append_right (Nat.le_refl _),Nat.sub_self]; rfl
  have hix:∀ {β:Type} {x:Option β},ix (ra.length:Int) reps x=x:=fun {β x}=>by simp (disch:=omega) only [S]
  have hgo:=ih (i+z.length+1) (ra++[y]) (fa++if seq y noB=true \/ seq y zf2=true then [((ra.length+1:Nat):Int)] else []) (D',n') (by omega) hd3 (fun w hw=>hz w (List.mem_cons_of_mem _ hw)) k1
   (by rw [hrr]; simp) (by rw [hff,zhm,List.append_assoc,List.length_append]; rfl) hl
  refine v ?_
  have hc:iLt ((i+z.length:Nat):Int) (s.length:Int)=true:=decide_eq_true (by omega)
  have hg1:∀ {β:Type} {x:Option β},gd (0<=((i+z.length:Nat):Int)) (gd (((i+z.length:Nat):Int) < (s.length:Int)) x)=x:=fun {β x}=>by simp (disch:=omega) only [S]
  simp only [hsz,hc,if_true,hg1,hb,e10,Bool.false_eq_true,if_false]
  refine Ev.bind hL ?_
  simp only [Bool.not_true,Bool.false_eq_true,if_false,hrg,hix,hrd,zoC,w3,w5]
  by_cases c1:seq y (bs [110,111])=true
  · have c:seq y noB=true \/ seq y zf2=true:=.inl c1
    rw [if_pos c] at hgo
    have hff':fl=fa++((ra.length+1:Nat):Int)::zev (ra.length+1) (zaM st (D',n') (zs.map bL)).2:=by rw [hff,zhm,if_pos c]; rfl
    have hfl:fa.length < fl.length:=by rw [hff']; simp
    have hfg:iGe (fa.length:Int) (ln fl)=false:=decide_eq_false (by simp only [ln]; omega)
    have hfd:rd 0 fl (fa.length:Int)=((ra.length+1:Nat):Int):=by
     rw [zhK,hff',List.getD_eq_getElem?_getD,List.getElem?_append_right (Nat.le_refl _),Nat.sub_self]; rfl
    have hfx:∀ {β:Type} {x:Option β},ix (fa.length:Int) fl x=x:=fun {β x}=>by simp (disch:=omega) only [S]
    have w4:W ((fa.length:Int)+1)=(((fa++[((ra.length+1:Nat):Int)]).length:Nat):Int):=by rw [w64 (by omega) (by omega)]; simp
    have e5:(((ra.length+1:Nat):Int) != (((ra++[y]).length:Nat):Int))=false:=by simp
    simp only [c1,if_true,hfg,Bool.false_eq_true,if_false,hfx,hfd,e5,w4]
    exact hgo
  · by_cases c2:seq y (bs [119,104,97,116])=true
    · have c:seq y noB=true \/ seq y zf2=true:=.inr c2
      rw [if_pos c] at hgo
      have hff':fl=fa++((ra.length+1:Nat):Int)::zev (ra.length+1) (zaM st (D',n') (zs.map bL)).2:=by rw [hff,zhm,if_pos c]; rfl
      have hfl:fa.length < fl.length:=by rw [hff']; simp
      have hfg:iGe (fa.length:Int) (ln fl)=false:=decide_eq_false (by simp only [ln]; omega)
      have hfd:rd 0 fl (fa.length:Int)=((ra.length+1:Nat):Int):=by
       rw [zhK,hff',List.getD_eq_getElem?_getD,List.getElem?_append_right (Nat.le_refl _),Nat.sub_self]; rfl
      have hfx:∀ {β:Type} {x:Option β},ix (fa.length:Int) fl x=x:=fun {β x}=>by simp (disch:=omega) only [S]
      have w4:W ((fa.length:Int)+1)=(((fa++[((ra.length+1:Nat):Int)]).length:Nat):Int):=by rw [w64 (by omega) (by omega)]; simp
      have e5:(((ra.length+1:Nat):Int) != (((ra++[y]).length:Nat):Int))=false:=by simp
      simp only [c1,c2,if_true,hfg,Bool.false_eq_true,if_false,hfx,hfd,e5,w4]
      exact hgo
    · have c:¬ (seq y noB=true \/ seq y zf2=true):=fun h=>h.elim c1 c2
      rw [if_neg c,List.append_nil] at hgo
      simp only [c1,c2,Bool.false_eq_true,if_false]
      exact hgo
theorem ztV {st:Dk->BA->Dk×BA} (e:(sv:Sv)=svOf st) {l:List UInt8} (hg:zcq (bL l)=true):sv.r (bL l)=(zaM st d00 (((zac 10 l).dropLast).map bL)).2/\(sv.D (bL l),sv.n (bL l))=(zaM st d00 (((zac 10 l).dropLast).map bL)).1/\sv.b (bL l)=true:=by
 rw [e]
 unfold svOf
 simp only [hg,zhl hg,cond_true]
 simp
section
variable {l:List UInt8} (h1:sv.ok (bL l)=true)
include h1
theorem zf3:qewz.f (bL l)=some ((sv.D (bL l),sv.n (bL l)),(sv.r (bL l),sv.b (bL l))):=by
 unfold qewz.f zkB
 rw [h1]; rfl
theorem znV:qeyz.f (bL l)=some (sv.r (bL l),sv.b (bL l)):=by
 unfold qeyz.f
 rw [zf3 h1]; rfl
theorem znW:qeoz.f (bL l)=some (if sv.b (bL l)=true then ((sv.D (bL l),sv.n (bL l)),true) else (([],0),false)):=by
 unfold qeoz.f
 rw [zf3 h1]
 cases sv.b (bL l) <;> rfl
theorem zly (h2:(sv.r (bL l)).length<=3000) (h3:sv.b (bL l)=false->sv.r (bL l)=[]):Ev (fun k=>qdbz.f k (bL l)) (zev 0 (sv.r (bL l)),sv.b (bL l)):=by
 refine qdbz.v ?_
 simp only [zf3 h1,Option.bind_some]
 cases hb:sv.b (bL l) with
 | false =>
  simp only [Bool.not_false,if_true,h3 hb,zev]
  exact Ev.now _
 | true =>
  simp only [Bool.not_true,Bool.false_eq_true,if_false]
  simp (disch:=omega) only [S]
  exact znS (F:=fun k=>qdbz.l0 k) (b:=true) (fun h=>qdbz.v0 h) (sv.r (bL l)) (by omega) (sv.r (bL l)).length 0 [] (by omega) (by simp)
end
theorem zrA (n:Int):IntKind.u64.wrap n=n % 18446744073709551616:=by simp [IntKind.wrap,IntKind.bits,IntKind.signed]
theorem u64w (n:Int):0<=IntKind.u64.wrap n/\IntKind.u64.wrap n < 18446744073709551616:=by
 rw [zrA]
 omega
theorem zuP {x:Int} (h0:0<=x) (h1:x < 18446744073709551616):Go.bits .and .u64 x 255=x % 256:=by
 have e:(2:Int) ^ 64=18446744073709551616:=by decide
 have h:=bits_mask .u64 64 (by decide) (fun n h₀ h₁=>by
  rw [zrA]
  rw [e] at h₁
  omega) 8 (by decide) x h0 (by rw [e]; exact h1)
 exact h
theorem zuQ {a:Int} (h:(Lit.int .u8 a).wf=true):0<=a/\a<=255:=by
 have h':=h
 simp only [Lit.wf,Bool.and_eq_true,decide_eq_true_eq] at h'
 have e1:IntKind.u8.min=0:=by decide
 have e2:IntKind.u8.max=255:=by decide
 rw [e1,e2] at h'
 exact h'
def zaZ (s:List Int):Prop:=∀ x∈s,0<=x/\x<=255
theorem ztW {s:List Int} (hs:zaZ s) (i:Int):0<=rd 0 s i/\rd 0 s i<=255:=by
 unfold rd
 rw [List.getD_eq_getElem?_getD]
 cases h:s[i.toNat]? with
 | none=>simp
 | some x=>exact hs x (List.mem_of_getElem? h)
theorem zoT (n:Int):0<=W (Go.bits .and .u64 (ishr (IntKind.u64.wrap n) 40) 255)/\W (Go.bits .and .u64 (ishr (IntKind.u64.wrap n) 40) 255)<=255:=by
 have h:=u64w n
 have e:ishr (IntKind.u64.wrap n) 40=(IntKind.u64.wrap n) / 1099511627776:=by
  show Int.fdiv (IntKind.u64.wrap n) (2 ^ (40:Int).toNat)=_
  rw [show (2:Int) ^ (40:Int).toNat=1099511627776 from by decide,Int.fdiv_eq_ediv_of_nonneg _ (by omega)]
 rw [e,zuP (by omega) (by omega),w64 (by omega) (by omega)]
 omega
def Goes {α:Type} (s:List Int) (a n:Int) (x:Option (α×List Int×Int×Int)) (P:α->Prop):Prop:=∃ v a' e,x=some (v,s,a',e)/\a<=a' /\ a' <= a+n/\P v
theorem Goes.bind {α β:Type} {s:List Int} {a n m:Int} {x:Option (α×List Int×Int×Int)} {P:α->Prop} {f:α×List Int×Int×Int->Option (β×List Int×Int×Int)} {Q:β->Prop} (h:Goes s a n x P)
    (k:∀ v a' e,a<=a'->a' <= a+n->P v->Goes s a' m (f (v,s,a',e)) Q):Goes s a (n+m) (x.bind f) Q:=by
 obtain ⟨v,a',e,rfl,h1,h2,h3⟩:=h
 obtain ⟨u,b,g,h4,h5,h6,h7⟩:=k v a' e h1 h2 h3
 exact ⟨u,b,g,h4,by omega,by omega,h7⟩
theorem Goes.step {α β:Type} {s:List Int} {a n m l:Int} {x:Option (α×List Int×Int×Int)} {P:α->Prop} {f:α×List Int×Int×Int->Option (β×List Int×Int×Int)} {Q:β->Prop} (h:Goes s a n x P) (hl:n+m<=l)
    (k:∀ v a' e,a<=a'->a' <= a+n->P v->Goes s a' m (f (v,s,a',e)) Q):Goes s a l (x.bind f) Q:=by
 obtain ⟨u,b,g,h4,h5,h6,h7⟩:=h.bind k
 exact ⟨u,b,g,h4,h5,by omega,h7⟩
theorem Goes.now {α:Type} {s:List Int} {a e:Int} {v:α} {P:α->Prop} (h:P v):Goes s a 0 (some (v,s,a,e)) P:=⟨v,a,e,rfl,by omega,by omega,h⟩
theorem Goes.le {α:Type} {s:List Int} {a n m:Int} {x:Option (α×List Int×Int×Int)} {P Q:α->Prop} (h:Goes s a n x P) (hn:n<=m) (hP:∀ v,P v->Q v):Goes s a m x Q:=by
 obtain ⟨v,a',e,h0,h1,h2,h3⟩:=h
 exact ⟨v,a',e,h0,h1,by omega,hP v h3⟩
theorem Goes.ite {α:Type} {s:List Int} {a n:Int} {c:Prop} [Decidable c] {x y:Option (α×List Int×Int×Int)} {P:α->Prop} (h:c->Goes s a n x P) (k:¬ c->Goes s a n y P):Goes s a n (if c then x else y) P:=by
 by_cases hc:c
 · rw [if_pos hc]; exact h hc
 · rw [if_neg hc]; exact k hc
theorem zsy {α β:Type} {i:Int} {xs:List α} {x:Option β} (h0:0<=i) (h1:i < (xs.length:Int)):ix i xs x=x:=by simp (disch:=omega) only [S]
theorem znX {β:Type} {c:Prop} [Decidable c] {x:Option β} (h:c):gd c x=x:=if_pos h
theorem zcS {s:List Int} (hs:zaZ s) {a:Int} (d:Int) (h0:0<=a) (h1:a<=1000000000000):Goes s a 1 (qdrz.f s a d) fun v=>0<=v/\v<=255:=by
 have hb:=ztW hs a
 unfold qdrz.f
 rw [w64 (x:=a+1) (by omega) (by omega),w64 (x:=rd 0 s a) (by omega) (by omega)]
 refine Goes.ite (fun c=>?_) (fun c=>?_)
 · rw [zsy h0 (of_decide_eq_true c)]
   refine Goes.ite (fun c=>?_) (fun c=>?_)
   · exact ⟨_,_,_,rfl,by omega,by omega,hb⟩
   · exact ⟨_,_,_,rfl,by omega,by omega,zoT _⟩
 · refine Goes.ite (fun c=>?_) (fun c=>?_)
   · exact ⟨_,_,_,rfl,by omega,by omega,by omega⟩
   · exact ⟨_,_,_,rfl,by omega,by omega,zoT _⟩
theorem zrB {a n:Int} (ha:0<=a) (hn:0 < n):0<=Int.tmod a n/\Int.tmod a n < n:=by
 rw [Int.tmod_eq_emod_of_nonneg ha]
 exact ⟨Int.emod_nonneg _ (by omega),Int.emod_lt_of_pos _ hn⟩
theorem zcT {s:List Int} (hs:zaZ s) {a:Int} (d:Int) (n:Int) (h0:0<=a) (h1:a<=1000000000):Goes s a 2 (qecz.f s a d n) fun v=>0<=v/\(1<=n->v < n)/\(n<=1->v=0):=by
 unfold qecz.f
 refine Goes.ite (fun hn=>?_) (fun hn=>?_)
 · have hn:=of_decide_eq_true hn
   exact ⟨_,_,_,rfl,by omega,by omega,by omega,fun _=>by omega,fun _=>rfl⟩
 · have hn:¬ n<=1:=fun h=>hn (decide_eq_true h)
   refine Goes.bind (n:=1) (m:=1) (zcS hs d h0 (by omega)) fun v a' e g1 g2 hv=>?_
   refine Goes.ite (fun hb=>?_) (fun hb=>?_)
   · refine Goes.le (Goes.bind (n:=1) (m:=0) (zcS hs e (by omega) (by omega)) fun v' b f _ _ hv'=>?_) (by omega) (fun v h=>h)
     simp only [if_neg (show ¬ n=0 by omega)]
     have:=zrB (a:=W (W (v*256)+v')) (n:=n) (by rw [w64 (x:=v*256) (by omega) (by omega),w64 (by omega) (by omega)]; omega) (by omega)
     exact Goes.now ⟨this.1,fun _=>this.2,fun h=>absurd h hn⟩
   · simp only [if_neg (show ¬ n=0 by omega)]
     have:=zrB (a:=v) (n:=n) hv.1 (by omega)
     exact Goes.le (Goes.now ⟨this.1,fun _=>this.2,fun h=>absurd h hn⟩) (by omega) (fun v h=>h)
theorem zbn {s:List Int} (hs:zaZ s) {a:Int} (d:Int) {n:Int} (hn:1<=n) (h0:0<=a) (h1:a<=1000000000):Goes s a 2 (qecz.f s a d n) fun v=>0<=v/\v < n :=
 (zcT hs d n h0 h1).le (by omega) fun v h=>⟨h.1,h.2.1 hn⟩
theorem ze0 {s:List Int} (hs:zaZ s) {a:Int} (d:Int) {l:List Int} (hl:1<=l.length) (h0:0<=a) (h1:a<=1000000000):Goes s a 2 (qcuz.f s a d l) fun v=>v∈l:=by
 unfold qcuz.f
 refine (Goes.bind (n:=2) (m:=0) (zbn hs d (n:=ln l) (by simp only [ln]; omega) h0 h1) fun v a' e _ _ hv=>?_).le (by omega) fun _ h=>h
 simp only [zsy hv.1 hv.2]
 refine Goes.now ?_
 unfold rd
 rw [List.getD_eq_getElem?_getD,List.getElem?_eq_getElem (by simp only [ln] at hv; omega)]
 exact List.getElem_mem _
theorem zgF {s:List Int} (hs:zaZ s) {a:Int} (d:Int) {l:List BA} (hl:1<=l.length) (h0:0<=a) (h1:a<=1000000000):Goes s a 2 (qfpz.f s a d l) fun v=>v∈l:=by
 unfold qfpz.f
 refine (Goes.bind (n:=2) (m:=0) (zbn hs d (n:=ln l) (by simp only [ln]; omega) h0 h1) fun v a' e _ _ hv=>?_).le (by omega) fun _ h=>h
 simp only [zsy hv.1 hv.2]
 refine Goes.now ?_
 unfold rd
 rw [List.getD_eq_getElem?_getD,List.getElem?_eq_getElem (by simp only [ln] at hv; omega)]
 exact List.getElem_mem _
theorem zf4 {s:List Int} (hs:zaZ s) {a:Int} (d:Int) (n:Int) (h0:0<=a) (h1:a<=1000000000):Goes s a 2 (qepz.f s a d n) fun _=>True:=by
 unfold qepz.f
 exact Goes.step (n:=2) (m:=0) (zcT hs d n h0 h1) (by omega) fun v a' e _ _ _=>Goes.now trivial
def EvGoes {α:Type} (s:List Int) (a n:Int) (g:Fu->Option (α×List Int×Int×Int)) (P:α->Prop):Prop:=∃ v a' e,Ev g (v,s,a',e)/\a<=a' /\ a' <= a+n/\P v
theorem Goes.ev {α:Type} {s:List Int} {a n:Int} {x:Option (α×List Int×Int×Int)} {P:α->Prop} (h:Goes s a n x P):EvGoes s a n (fun _=>x) P:=by
 obtain ⟨v,a',e,h0,h1,h2,h3⟩:=h
 exact ⟨v,a',e,⟨0,fun _ _=>h0⟩,h1,h2,h3⟩
theorem EvGoes.bind {α β:Type} {s:List Int} {a n m l:Int} {g:Fu->Option (α×List Int×Int×Int)} {P:α->Prop} {f:Fu->α×List Int×Int×Int->Option (β×List Int×Int×Int)} {Q:β->Prop} (h:EvGoes s a n g P) (hl:n+m<=l)
    (k:∀ v a' e,a<=a'->a' <= a+n->P v->EvGoes s a' m (fun k=>f k (v,s,a',e)) Q):EvGoes s a l (fun k=>(g k).bind (f k)) Q:=by
 obtain ⟨v,a',e,h0,h1,h2,h3⟩:=h
 obtain ⟨u,b,q,h4,h5,h6,h7⟩:=k v a' e h1 h2 h3
 exact ⟨u,b,q,Ev.bind h0 h4,by omega,by omega,h7⟩
theorem EvGoes.val {α β:Type} {s:List Int} {a n:Int} {g:Fu->Option α} {v:α} {f:Fu->α->Option (β×List Int×Int×Int)} {Q:β->Prop} (h:Ev g v) (k:EvGoes s a n (fun k=>f k v) Q):EvGoes s a n (fun k=>(g k).bind (f k)) Q:=by
 obtain ⟨u,b,q,h4,h5⟩:=k
 exact ⟨u,b,q,Ev.bind h h4,h5⟩
theorem EvGoes.le {α:Type} {s:List Int} {a n m:Int} {g:Fu->Option (α×List Int×Int×Int)} {P Q:α->Prop} (h:EvGoes s a n g P) (hn:n<=m) (hP:∀ v,P v->Q v):EvGoes s a m g Q:=by
 obtain ⟨v,a',e,h0,h1,h2,h3⟩:=h
 exact ⟨v,a',e,h0,h1,by omega,hP v h3⟩
theorem za4 {s:List Int} (hs:zaZ s) {a:Int} (d:Int) (h0:0<=a) (h1:a<=1000000):Goes s a 4 (qblz.f s a d) fun v=>wOk v=true:=by
 unfold qblz.f
 refine Goes.step (n:=2) (m:=2) (zbn hs d (n:=25) (by omega) h0 (by omega)) (by omega) fun v a1 e1 _ _ hv=>?_
 refine Goes.step (n:=2) (m:=0) (zbn hs e1 (n:=11) (by omega) (by omega) (by omega)) (by omega) fun u a2 e2 _ _ hu=>?_
 refine Goes.now ?_
 unfold wOk
 dsimp only
 rw [w64 (by omega) (by omega),w64 (by omega) (by omega),decide_eq_true (by omega),decide_eq_true (by omega)]
 rfl
theorem zb1 {s:List Int} (hs:zaZ s) {a:Int} (d:Int) (h0:0<=a) (h1:a<=1000000):Goes s a 8 (qbnz.f s a d) fun v=>(0<=v.1/\v.1<=1000)/\(0<=v.2.1/\v.2.1<=1000)/\(0<=v.2.2.1/\v.2.2.1<=1000)/\(0<=v.2.2.2/\v.2.2.2<=1000):=by
 unfold qbnz.f
 refine Goes.step (n:=2) (m:=6) (zbn hs d (n:=60) (by omega) h0 (by omega)) (by omega) fun v a1 e1 _ _ hv=>?_
 refine Goes.step (n:=2) (m:=4) (zbn hs e1 (n:=5) (by omega) (by omega) (by omega)) (by omega) fun u a2 e2 _ _ hu=>?_
 refine Goes.step (n:=2) (m:=2) (zbn hs e2 (n:=5) (by omega) (by omega) (by omega)) (by omega) fun t a3 e3 _ _ ht=>?_
 have most:∀ x y:Int,0<=x/\x<=5->0<=y/\y<=5->∃ z,qgxz.f x y=some z/\0<=z/\z<=5:=fun x y hx hy=>by
  unfold qgxz.f
  by_cases h:iGt x y=true
  · exact ⟨x,if_pos h,hx.1,hx.2⟩
  · exact ⟨y,if_neg h,hy.1,hy.2⟩
 have key:∀ x:Int,0<=x/\x<=5->Goes s a3 2 ((qgxz.f x t).bind fun t3=>(qecz.f s a3 e3 5).bind fun t4=>some ((W (1+v),(x,(t,W (W (t3+1)+t4.1)))),t4.2)) fun v=>(0<=v.1/\v.1<=1000)/\(0<=v.2.1/\v.2.1<=1000)/\(0<=v.2.2.1/\v.2.2.1<=1000)/\(0<=v.2.2.2/\v.2.2.2<=1000):=fun x hx=>by
  obtain ⟨z,hz,z0,z1⟩:=most x t hx (by omega)
  rw [hz,Option.bind_some]
  refine Goes.step (n:=2) (m:=0) (zbn hs e3 (n:=5) (by omega) (by omega) (by omega)) (by omega) fun y a4 e4 _ _ hy=>?_
  refine Goes.now ?_
  dsimp only
  rw [w64 (x:=1+v) (by omega) (by omega),w64 (x:=z+1) (by omega) (by omega),w64 (by omega) (by omega)]
  omega
 refine Goes.ite (fun _=>?_) (fun _=>?_)
 · exact key 1 (by omega)
 · exact key u (by omega)
def Txt (n:Nat) (g:Fu->Option BA):Prop:=∃ r:BA,Ev g r/\r.size<=n
theorem ze1 {n:Int} (h0:0<=n) (h1:n<=1000):Ev (fun k=>qijz.f k n) (bL (Lib.itoa n))/\(bL (Lib.itoa n)).size<=5:=⟨zer h0 (by unfold i64; omega),by rw [zak]; exact zfc (by omega) h1⟩
theorem zdG {β:Type} {n:Nat} {x:Option β} (h:n<=1000000):gd (n<=maxLen) x=x:=if_pos (by simp only [maxLen]; omega)
theorem ze2 {a b c e:Int} (h:(0<=a/\a<=1000)/\(0<=b/\b<=1000)/\(0<=c/\c<=1000)/\(0<=e/\e<=1000)):Txt 30 (fun k=>qgsz.f k a b c e):=by
 obtain ⟨⟨ha,ha'⟩,⟨hb,hb'⟩,⟨hc,hc'⟩,he,he'⟩:=h
 obtain ⟨e1,s1⟩:=ze1 ha ha'
 obtain ⟨e2,s2⟩:=ze1 hb hb'
 obtain ⟨e3,s3⟩:=ze1 hc hc'
 obtain ⟨e4,s4⟩:=ze1 he he'
 have o1:(bs [45]).size=1:=rfl
 refine ⟨(((((bL (Lib.itoa a)++bs [45])++bL (Lib.itoa b))++bs [45])++bL (Lib.itoa c))++bs [45])++bL (Lib.itoa e),qgsz.v (Ev.bind e1 ?_),?_⟩
 · refine Ev.eq (fun k=>zdG (by omega)) (Ev.bind e2 (Ev.eq (fun k=>zdG (by simp only [ByteArray.size_append,o1]; omega)) (Ev.eq (fun k=>zdG (by simp only [ByteArray.size_append,o1]; omega)) (Ev.bind e3 (Ev.eq (fun k=>zdG (by simp only [ByteArray.size_append,o1]; omega)) (Ev.eq (fun k=>zdG (by simp only [ByteArray.size_append,o1]; omega)) (Ev.bind e4 (Ev.eq (fun k=>zdG (by simp only [ByteArray.size_append,o1]; omega)) (Ev.now _)))))))))
 · simp only [ByteArray.size_append,o1]; omega
def Small (l:List Wk):Prop:=∀ w∈l,(0<=w.1/\w.1<=1000)/\(0<=w.2/\w.2<=1000)
theorem zsz {l:List Wk} (h:Small l) (i:Nat):(0<=(l.getD i (0,0)).1/\(l.getD i (0,0)).1<=1000)/\(0<=(l.getD i (0,0)).2/\(l.getD i (0,0)).2<=1000):=by
 by_cases hi:i < l.length
 · exact h _ (zag hi)
 · rw [List.getD_eq_getElem?_getD,List.getElem?_eq_none (by omega)]; decide
theorem zmP {F:Fu->BA->List Wk->Int->Int->Option BA} {c1 c2:BA} (k1:c1.size=1) (k2:c2.size=1)
    (v:∀ {x0:BA} {x1:List Wk} {x2 x3:Int} {r:BA},Ev (fun k=>if (iLt x3 x2) then ix x3 x1 <| if (iGt x3 0) then gd (((ByteArray.size x0)+1)<=maxLen) <| (qijz.f k (rd (0,0) x1 x3).1).bind fun t0 =>
     gd (((ByteArray.size t0)+1)<=maxLen) <| (qijz.f k (rd (0,0) x1 x3).2).bind fun t1 =>
     gd (((ByteArray.size (t0++c1))+(ByteArray.size t1))<=maxLen) <| gd (((ByteArray.size (x0++c2))+(ByteArray.size ((t0++c1)++t1)))<=maxLen) <| F k ((x0++c2)++((t0++c1)++t1)) x1 x2 (W (x3+1)) else (qijz.f k (rd (0,0) x1 x3).1).bind fun t0 =>
     gd (((ByteArray.size t0)+1)<=maxLen) <| (qijz.f k (rd (0,0) x1 x3).2).bind fun t1 =>
     gd (((ByteArray.size (t0++c1))+(ByteArray.size t1))<=maxLen) <| gd (((ByteArray.size x0)+(ByteArray.size ((t0++c1)++t1)))<=maxLen) <| F k (x0++((t0++c1)++t1)) x1 x2 (W (x3+1)) else some x0) r->Ev (fun k=>F k x0 x1 x2 x3) r)
    {l:List Wk} (hl:Small l) (hn:l.length<=10):∀ (m i:Nat) (x0:BA),i+m=l.length->x0.size+12*m<=1000->∃ r,Ev (fun k=>F k x0 l (l.length:Int) (i:Int)) r/\r.size<=x0.size+12*m:=by
 intro m
 induction m with
 | zero =>
  intro i x0 hi hx
  refine ⟨x0,v ?_,by omega⟩
  have c:iLt (i:Int) (l.length:Int)=false:=decide_eq_false (by omega)
  simp only [c,Bool.false_eq_true,if_false]
  exact Ev.now _
 | succ m ih =>
  intro i x0 hi hx
  obtain ⟨⟨p1,p2⟩,p3,p4⟩:=zsz hl i
  obtain ⟨e1,s1⟩:=ze1 p1 p2
  obtain ⟨e2,s2⟩:=ze1 p3 p4
  have c:iLt (i:Int) (l.length:Int)=true:=decide_eq_true (by omega)
  have hix:∀ {β:Type} {x:Option β},ix (i:Int) l x=x:=fun {β x}=>zsy (by omega) (by omega)
  have w1:W ((i:Int)+1)=((i+1:Nat):Int):=by rw [w64 (by omega) (by omega)]; omega
  by_cases h0:0 < i
  · have c0:iGt (i:Int) 0=true:=decide_eq_true (by omega)
    obtain ⟨r,hr,hs⟩:=ih (i+1) ((x0++c2)++((bL (Lib.itoa (l.getD i (0,0)).1)++c1)++bL (Lib.itoa (l.getD i (0,0)).2))) (by omega) (by simp only [ByteArray.size_append,k1,k2]; omega)
    refine ⟨r,v ?_,by simp only [ByteArray.size_append,k1,k2] at hs; omega⟩
    simp only [c,c0,if_true,hix,zhK,w1]
    refine Ev.eq (fun k=>zdG (by omega)) (Ev.bind e1 (Ev.eq (fun k=>zdG (by omega)) (Ev.bind e2 (Ev.eq (fun k=>zdG (by simp only [ByteArray.size_append,k1]; omega)) (Ev.eq (fun k=>zdG (by simp only [ByteArray.size_append,k1,k2]; omega)) hr)))))
  · have c0:iGt (i:Int) 0=false:=decide_eq_false (by omega)
    obtain ⟨r,hr,hs⟩:=ih (i+1) (x0++((bL (Lib.itoa (l.getD i (0,0)).1)++c1)++bL (Lib.itoa (l.getD i (0,0)).2))) (by omega) (by simp only [ByteArray.size_append,k1]; omega)
    refine ⟨r,v ?_,by simp only [ByteArray.size_append,k1] at hs; omega⟩
    simp only [c,c0,if_true,Bool.false_eq_true,if_false,hix,zhK,w1]
    refine Ev.bind e1 (Ev.eq (fun k=>zdG (by omega)) (Ev.bind e2 (Ev.eq (fun k=>zdG (by simp only [ByteArray.size_append,k1]; omega)) (Ev.eq (fun k=>zdG (by simp only [ByteArray.size_append,k1]; omega)) hr))))
theorem zdr {l:List Wk} (hl:Small l) (hn:l.length<=10):Txt 120 (fun k=>qhtz.f k l):=by
 obtain ⟨r,h1,h2⟩:=zmP (F:=qhtz.l0) (c1:=bs [47]) (c2:=bs [43]) rfl rfl (fun h=>qhtz.v0 h) hl hn l.length 0 (bs []) (by omega) (by show 0+12*l.length<=1000; omega)
 exact ⟨r,qhtz.v h1,by have h3:r.size<=0+12*l.length:=h2; omega⟩
theorem ze3 {l:List Wk} (hl:Small l) (hn:l.length<=10):Txt 120 (fun k=>qgqz.f k l):=by
 obtain ⟨r,h1,h2⟩:=zmP (F:=qgqz.l0) (c1:=bs [43]) (c2:=bs [44]) rfl rfl (fun h=>qgqz.v0 h) hl hn l.length 0 (bs []) (by omega) (by show 0+12*l.length<=1000; omega)
 exact ⟨r,qgqz.v h1,by have h3:r.size<=0+12*l.length:=h2; omega⟩
theorem zjS {s:List Int} (hs:zaZ s) {F:Fu->Int->List Int->Int->Int->List Wk->Option (List Wk×List Int×Int×Int)} {A B:Int} (hA:1<=A/\A<=500) (hB:1<=B/\B<=500) {g1 g2:Int->Int} (hg1:∀ x,0<=x->x<=500->0<=g1 x/\g1 x<=1000) (hg2:∀ x,0<=x->x<=500->0<=g2 x/\g2 x<=1000)
    (v:∀ {x0:Int} {x1:List Int} {x2 x3:Int} {x4:List Wk} {r},Ev (fun k=>if (iGt x0 0) then (qecz.f x1 x2 x3 A).bind fun t0 =>
     (qecz.f t0.2.1 t0.2.2.1 t0.2.2.2 B).bind fun t1 =>
     gd (((lnN x4)+1)<=8796093022208) <| F k (W (x0-1)) t1.2.1 t1.2.2.1 t1.2.2.2 (x4++[(g1 t0.1,g2 t1.1)]) else some (x4,(x1,(x2,x3)))) r->Ev (fun k=>F k x0 x1 x2 x3 x4) r) :
    ∀ (n:Nat) {a:Int} (d:Int) (l:List Wk),0<=a->a<=1000000->a+4*(n:Int)<=1000000->Small l->l.length+n<=10->EvGoes s a (4*(n:Int)) (fun k=>F k (n:Int) s a d l) fun v=>Small v/\v.length<=10:=by
 intro n
 induction n with
 | zero =>
  intro a d l h0 h1 h2 hl hn
  refine ⟨l,a,d,v ?_,by omega,by omega,hl,by omega⟩
  have c:iGt ((0:Nat):Int) 0=false:=rfl
  simp only [c,Bool.false_eq_true,if_false]
  exact Ev.now _
 | succ n ih =>
  intro a d l h0 h1 h2 hl hn
  obtain ⟨x,a1,e1,p1,p2,p3,p4⟩:=zbn hs d (n:=A) hA.1 h0 (by omega)
  obtain ⟨y,a2,e2,q1,q2,q3,q4⟩:=zbn hs e1 (n:=B) hB.1 (by omega:0<=a1) (by omega)
  have hxy:Small (l++[(g1 x,g2 y)]):=fun w hw=>by
   rcases List.mem_append.1 hw with hw | hw
   · exact hl w hw
   · rw [List.mem_singleton] at hw
     subst hw
     exact ⟨hg1 x p4.1 (by omega),hg2 y q4.1 (by omega)⟩
  obtain ⟨r,a3,e3,r1,r2,r3,r4⟩:=ih (a:=a2) e2 (l++[(g1 x,g2 y)]) (by omega) (by omega) (by omega) hxy (by simp; omega)
  refine ⟨r,a3,e3,v ?_,by omega,by omega,r4⟩
  have c:iGt ((n+1:Nat):Int) 0=true:=decide_eq_true (by omega)
  have w1:W (((n+1:Nat):Int)-1)=(n:Int):=by rw [w64 (by omega) (by omega)]; omega
  have hgd:∀ {β:Type} {x:Option β},gd ((lnN l)+1<=8796093022208) x=x:=fun {β x}=>znX (by simp only [lnN]; omega)
  simp only [c,if_true,p1,Option.bind_some,q1,hgd,w1]
  exact r1
theorem zbo {s:List Int} (hs:zaZ s) {a:Int} (d:Int) (h0:0<=a) (h1:a<=900000):EvGoes s a 30 (fun k=>qbqz.f k s a d) fun v=>Small v/\v.length<=10:=by
 obtain ⟨x,a1,e1,p1,p2,p3,p4⟩:=zbn hs d (n:=4) (by omega) h0 (by omega)
 have ew:W (1+x)=((x.toNat+1:Nat):Int):=by rw [w64 (by omega) (by omega)]; omega
 obtain ⟨r,a2,e2,r1,r2,r3,r4⟩:=zjS hs (F:=qbqz.l0) (A:=60) (B:=12) (by omega) (by omega) (g1:=fun x=>W (1+x)) (g2:=fun x=>W (1+x)) (fun x h h'=>by rw [w64 (by omega) (by omega)]; omega) (fun x h h'=>by rw [w64 (by omega) (by omega)]; omega) (fun h=>qbqz.v0 h) (x.toNat+1) (a:=a1) e1 [] (by omega) (by omega) (by omega) (fun w hw=>by cases hw) (by simp; omega)
 refine ⟨r,a2,e2,qbqz.v ?_,by omega,by omega,r4⟩
 simp only [p1,Option.bind_some,ew]
 exact r1
theorem zbP {s:List Int} (hs:zaZ s) {a:Int} (d:Int) (h0:0<=a) (h1:a<=900000):EvGoes s a 30 (fun k=>qbkz.f k s a d) fun v=>Small v/\v.length<=10:=by
 obtain ⟨x,a1,e1,p1,p2,p3,p4⟩:=zbn hs d (n:=5) (by omega) h0 (by omega)
 have ew:W (1+x)=((x.toNat+1:Nat):Int):=by rw [w64 (by omega) (by omega)]; omega
 obtain ⟨r,a2,e2,r1,r2,r3,r4⟩:=zjS hs (F:=qbkz.l0) (A:=16) (B:=6) (by omega) (by omega) (g1:=fun x=>x) (g2:=fun x=>x) (fun x h h'=>by omega) (fun x h h'=>by omega) (fun h=>qbkz.v0 h) (x.toNat+1) (a:=a1) e1 [] (by omega) (by omega) (by omega) (fun w hw=>by cases hw) (by simp; omega)
 refine ⟨r,a2,e2,qbkz.v ?_,by omega,by omega,r4⟩
 simp only [p1,Option.bind_some,ew]
 exact r1
theorem EvGoes.of {α:Type} {s:List Int} {a n:Int} {g h:Fu->Option (α×List Int×Int×Int)} {P:α->Prop} (v:∀ r,Ev g r->Ev h r) (H:EvGoes s a n g P):EvGoes s a n h P:=by
 obtain ⟨x,a',e,h0,h1⟩:=H
 exact ⟨x,a',e,v _ h0,h1⟩
theorem EvGoes.ite {α:Type} {s:List Int} {a n:Int} {c:Prop} [Decidable c] {g h:Fu->Option (α×List Int×Int×Int)} {P:α->Prop} (hg:c->EvGoes s a n g P) (hh:¬ c->EvGoes s a n h P):EvGoes s a n (fun k=>if c then g k else h k) P:=by
 by_cases hc:c
 · exact EvGoes.of (fun r h=>Ev.eq (fun k=>if_pos hc) h) (hg hc)
 · exact EvGoes.of (fun r h=>Ev.eq (fun k=>if_neg hc) h) (hh hc)
theorem EvGoes.gd {α:Type} {s:List Int} {a n:Int} {m:Nat} {g:Fu->Option (α×List Int×Int×Int)} {P:α->Prop} (h:m<=1000000) (H:EvGoes s a n g P):EvGoes s a n (fun k=>gd (m<=maxLen) (g k)) P :=
 EvGoes.of (fun r h'=>Ev.eq (fun k=>zdG h) h') H
theorem EvGoes.txt {β:Type} {s:List Int} {a n:Int} {m:Nat} {g:Fu->Option BA} {f:Fu->BA->Option (β×List Int×Int×Int)} {Q:β->Prop} (h:Txt m g) (k:∀ r:BA,r.size<=m->EvGoes s a n (fun k=>f k r) Q):EvGoes s a n (fun k=>(g k).bind (f k)) Q:=by
 obtain ⟨r,h1,h2⟩:=h
 exact EvGoes.val h1 (k r h2)
theorem EvGoes.now {α:Type} {s:List Int} {a e n:Int} {v:α} {P:α->Prop} (h:P v) (hn:0<=n):EvGoes s a n (fun _=>some (v,s,a,e)) P:=⟨v,a,e,Ev.now _,by omega,by omega,h⟩
theorem zhn {s:List Int} (hs:zaZ s) {a:Int} (d:Int) {l:List BA} {m:Nat} (hl:1<=l.length) (hm:∀ x∈l,x.size<=m) (h0:0<=a) (h1:a<=1000000000):Goes s a 2 (qfpz.f s a d l) fun v=>v.size<=m :=
 (zgF hs d hl h0 h1).le (by omega) fun v hv=>hm v hv
theorem znY {n:Int} (h0:0<=n) (h1:n<=1000):Txt 5 (fun k=>qijz.f k n):=⟨_,(ze1 h0 h1).1,(ze1 h0 h1).2⟩
theorem zkN {l:List Wk} (h:zap 8 wOk l=true) (h2:l.length<=2):Txt 100 (fun k=>qhez.f k l):=by
 refine ⟨_,zcE h,?_⟩
 have hw:=(zal.1 h).2
 rw [zak,zq1]
 have:=zig (s:=[44]) (m:=42) (L:=l.map fun w=>numT 58 [w.1,w.2]) (fun w hw'=>by
  obtain ⟨p,hp,rfl⟩:=List.mem_map.1 hw'
  have h3:=zaU.1 (hw p hp)
  exact zdF (L:=[p.1,p.2]) (fun n hn=>by
   simp only [List.mem_cons,List.not_mem_nil,or_false] at hn
   unfold i64
   rcases hn with rfl | rfl <;> omega))
 rw [List.length_map] at this
 simp only [List.length_cons,List.length_nil] at this
 have h5:l.length*(42+(0+1))<=2*43:=Nat.mul_le_mul h2 (Nat.le_refl _)
 omega
theorem zjT (n:Nat) {l:List BA} (h:(l.all fun x=>Nat.ble x.size n)=true):∀ x∈l,x.size<=n:=fun x hx=>Nat.le_of_ble_eq_true (List.all_eq_true.1 h x hx)
theorem znZ {s:List Int} (hs:zaZ s) {a:Int} (d:Int) (h0:0<=a) (h1:a<=400000):EvGoes s a 300 (fun k=>qcdz.f k s a d) fun v=>v.size<=300:=by
 refine EvGoes.of (fun r h=>qcdz.v h) ?_
 refine EvGoes.bind (n:=2) (m:=298) (zbn hs d (n:=12) (by omega) h0 (by omega)).ev (by omega) fun v a1 e1 q1 q2 hv=>?_
 have two:EvGoes s a1 298 (fun k=>(qfpz.f s a1 e1 [(bs [109,101,101,116,32]),(bs [119,104,101,114,101,32]),(bs [97,114,111,117,110,100,32]),(bs [103,97,112,32]),(bs [112,108,97,99,101,115,32])]).bind fun t1 =>
     (qecz.f t1.2.1 t1.2.2.1 t1.2.2.2 3).bind fun t2 =>
     (qijz.f k t2.1).bind fun t3 =>
     gd (((ByteArray.size t1.1)+(ByteArray.size t3))<=maxLen) <| gd (((ByteArray.size (t1.1++t3))+1)<=maxLen) <| (qecz.f t2.2.1 t2.2.2.1 t2.2.2.2 3).bind fun t4 =>
     (qijz.f k t4.1).bind fun t5 =>
     gd (((ByteArray.size ((t1.1++t3)++(bs [32])))+(ByteArray.size t5))<=maxLen) <| some ((((t1.1++t3)++(bs [32]))++t5),t4.2)) fun v=>v.size<=300:=by
  refine EvGoes.bind (n:=2) (m:=296) (zhn hs e1 (m:=10) (by decide) (zjT 10 (by decide)) (by omega) (by omega)).ev (by omega) fun x a2 e2 _ _ hx=>?_
  refine EvGoes.bind (n:=2) (m:=294) (zbn hs e2 (n:=3) (by omega) (by omega) (by omega)).ev (by omega) fun y a3 e3 _ _ hy=>?_
  refine EvGoes.txt (znY hy.1 (by omega)) fun t ht=>?_
  try dsimp only
  refine EvGoes.gd (by omega) (EvGoes.gd (by simp only [ByteArray.size_append]; omega) ?_)
  refine EvGoes.bind (n:=2) (m:=292) (zbn hs e3 (n:=3) (by omega) (by omega) (by omega)).ev (by omega) fun z a4 e4 _ _ hz=>?_
  refine EvGoes.txt (znY hz.1 (by omega)) fun u hu=>?_
  have o1:(bs [32]).size=1:=rfl
  try dsimp only
  refine EvGoes.gd (by simp only [ByteArray.size_append,o1]; omega) (EvGoes.now ?_ (by omega))
  simp only [ByteArray.size_append,o1]; omega
 have one:EvGoes s a1 298 (fun k=>(qfpz.f s a1 e1 [(bs [115,104,111,119]),(bs [112,97,105,114,115]),(bs [102,105,114,115,116]),(bs [108,101,97,100]),(bs [108,97,115,116]),(bs [115,116,97,114,116])]).bind fun t1 =>
     some t1) fun v=>v.size<=300 :=
  EvGoes.bind (n:=2) (m:=0) (zhn hs e1 (m:=10) (by decide) (zjT 10 (by decide)) (by omega) (by omega)).ev (by omega) fun x a2 e2 _ _ hx=>EvGoes.now (by omega) (by omega)
 refine EvGoes.ite (fun _=>?_) fun _=>EvGoes.ite (fun _=>?_) fun _=>EvGoes.ite (fun _=>?_) fun _=>EvGoes.ite (fun _=>two) fun _=>EvGoes.ite (fun _=>two) fun _=>EvGoes.ite (fun _=>two) fun _=>EvGoes.ite (fun _=>one) fun _=>EvGoes.ite (fun _=>one) fun _=>EvGoes.ite (fun _=>one) fun _=>EvGoes.ite (fun _=>?_) fun _=>EvGoes.ite (fun _=>?_) fun _=>?_
 · refine EvGoes.bind (n:=4) (m:=294) (za4 hs e1 (by omega) (by omega)).ev (by omega) fun x a2 e2 _ _ hx=>?_
   refine EvGoes.bind (n:=4) (m:=290) (za4 hs e2 (by omega) (by omega)).ev (by omega) fun y a3 e3 _ _ hy=>?_
   refine EvGoes.txt (zkN (l:=[x,y]) (zal.2 ⟨by simp,fun w hw=>by
    simp only [List.mem_cons,List.not_mem_nil,or_false] at hw
    rcases hw with rfl | rfl
    · exact hx
    · exact hy⟩) (by simp)) fun t ht=>?_
   try dsimp only
   refine EvGoes.gd (by omega) (EvGoes.now ?_ (by omega))
   have o1:(bs [119,97,108,107,101,114,115,32]).size=8:=rfl
   simp only [ByteArray.size_append,o1]; omega
 · refine EvGoes.bind (n:=4) (m:=294) (za4 hs e1 (by omega) (by omega)).ev (by omega) fun x a2 e2 _ _ hx=>?_
   refine EvGoes.txt (zkN (l:=[x]) (zal.2 ⟨by simp,fun w hw=>by
    simp only [List.mem_cons,List.not_mem_nil,or_false] at hw
    rcases hw with rfl
    exact hx⟩) (by simp)) fun t ht=>?_
   try dsimp only
   refine EvGoes.gd (by omega) (EvGoes.now ?_ (by omega))
   have o1:(bs [97,100,100,32]).size=4:=rfl
   simp only [ByteArray.size_append,o1]; omega
 · refine EvGoes.bind (n:=2) (m:=296) (zhn hs e1 (m:=10) (by decide) (zjT 10 (by decide)) (by omega) (by omega)).ev (by omega) fun x a2 e2 _ _ hx=>?_
   refine EvGoes.bind (n:=2) (m:=294) (zbn hs e2 (n:=13) (by omega) (by omega) (by omega)).ev (by omega) fun y a3 e3 _ _ hy=>?_
   refine EvGoes.txt (znY hy.1 (by omega)) fun t ht=>?_
   try dsimp only
   refine EvGoes.gd (by omega) (EvGoes.now ?_ (by omega))
   simp only [ByteArray.size_append]; omega
 · refine EvGoes.bind (n:=2) (m:=296) (zhn hs e1 (m:=10) (by decide) (zjT 10 (by decide)) (by omega) (by omega)).ev (by omega) fun x a2 e2 _ _ hx=>?_
   refine EvGoes.bind (n:=8) (m:=288) (zb1 hs e2 (by omega) (by omega)).ev (by omega) fun y a3 e3 _ _ hy=>?_
   refine EvGoes.txt (ze2 hy) fun t ht=>?_
   try dsimp only
   refine EvGoes.gd (by omega) (EvGoes.now ?_ (by omega))
   simp only [ByteArray.size_append]; omega
 · refine EvGoes.bind (n:=30) (m:=268) (zbo hs e1 (by omega) (by omega)) (by omega) fun x a2 e2 _ _ hx=>?_
   refine EvGoes.txt (zdr hx.1 hx.2) fun t2 g2=>EvGoes.gd (by omega) ?_
   refine EvGoes.bind (n:=30) (m:=238) (zbo hs e2 (by omega) (by omega)) (by omega) fun x a3 e3 _ _ hx=>?_
   refine EvGoes.txt (zdr hx.1 hx.2) fun t4 g4=>EvGoes.gd (by omega) ?_
   refine EvGoes.bind (n:=30) (m:=208) (zbo hs e3 (by omega) (by omega)) (by omega) fun x a4 e4 _ _ hx=>?_
   have o5:(bs [110,101,101,100,32]).size=5:=rfl
   have o6:(bs [97,112,97,114,116,32]).size=6:=rfl
   refine EvGoes.txt (zdr hx.1 hx.2) fun t6 g6=>EvGoes.gd (by omega) (EvGoes.gd (by simp only [ByteArray.size_append,o5]; omega) ?_)
   refine EvGoes.bind (n:=30) (m:=178) (zbP hs e4 (by omega) (by omega)) (by omega) fun x a5 e5 _ _ hx=>?_
   refine EvGoes.txt (ze3 hx.1 hx.2) fun t8 g8=>EvGoes.gd (by omega) ?_
   refine EvGoes.bind (n:=30) (m:=148) (zbP hs e5 (by omega) (by omega)) (by omega) fun x a6 e6 _ _ hx=>?_
   refine EvGoes.txt (ze3 hx.1 hx.2) fun t10 g10=>EvGoes.gd (by omega) ?_
   refine EvGoes.bind (n:=8) (m:=140) (zb1 hs e6 (by omega) (by omega)).ev (by omega) fun y a7 e7 _ _ hy=>?_
   refine EvGoes.txt (ze2 hy) fun t12 g12=>EvGoes.gd (by omega) (EvGoes.gd (by simp only [ByteArray.size_append,o6]; omega) ?_)
   refine EvGoes.bind (n:=2) (m:=0) (zhn hs e7 (m:=300) (by simp) (fun x hx=>?_) (by omega) (by omega)).ev (by omega) fun x a8 e8 _ _ hx=>EvGoes.now hx (by omega)
   have p1:(bs [109,101,97,110,32]).size=5:=rfl
   have p2:(bs [116,105,109,101,32]).size=5:=rfl
   have p3:(bs [32,50,48,32,52]).size=5:=rfl
   have p4:(bs [118,105,115,105,116,115,32]).size=7:=rfl
   have p5:(bs [103,117,105,100,101,115,32]).size=7:=rfl
   have p6:(bs [32,50]).size=2:=rfl
   have p7:(bs [99,104,97,110,99,101,32,57,32,50,32,51]).size=12:=rfl
   simp only [List.mem_cons,List.not_mem_nil,or_false] at hx
   rcases hx with rfl | rfl | rfl | rfl | rfl | rfl | rfl <;> simp only [ByteArray.size_append,o5,o6,p1,p2,p3,p4,p5,p6,p7] <;> omega
 · exact EvGoes.bind (n:=2) (m:=0) (zhn hs e1 (m:=40) (by decide) (zjT 40 (by decide)) (by omega) (by omega)).ev (by omega) fun x a2 e2 _ _ hx=>EvGoes.now (by omega) (by omega)
theorem zn0 (z:Int):(bytesOf [z]).size=1:=by simp [bytesOf,ByteArray.size]
theorem zn1 {s:List Int} (hs:zaZ s) {x1:BA} (h10:1<=x1.size/\x1.size<=1000) (n:Nat):∀ {a:Int} (d:Int) (x0:BA),0<=a->a<=900000->x0.size+n<=100010->n<=10->a+6*(n:Int)<=900000 ->
    EvGoes s a (6*(n:Int)) (fun k=>qcgz.l0 k x0 x1 (n:Int) s a d) fun v=>v.size<=100010:=by
 induction n with
 | zero =>
  intro a d x0 h0 h1 h2 h4 h5
  refine EvGoes.of (fun r h=>qcgz.v0 h) ?_
  have c:iGt ((0:Nat):Int) 0=false:=rfl
  simp only [c,Bool.false_eq_true,if_false]
  exact EvGoes.now (by omega) (by omega)
 | succ n ih =>
  intro a d x0 h0 h1 h2 h4 h5
  refine EvGoes.of (fun r h=>qcgz.v0 h) ?_
  have c:iGt ((n+1:Nat):Int) 0=true:=decide_eq_true (by omega)
  have ew:W (((n+1:Nat):Int)-1)=(n:Int):=by rw [w64 (by omega) (by omega)]; omega
  have sl:∀ x:BA,sln x=(x.size:Int):=fun _=>rfl
  simp only [c,if_true,ew,sl]
  by_cases hz:0 < x0.size
  · have cz:iGt (x0.size:Int) 0=true:=decide_eq_true (by omega)
    simp only [cz,if_true]
    refine EvGoes.bind (n:=2) (m:=6*(n:Int)+4) (zbn hs d (n:=(x0.size:Int)) (by omega) h0 (by omega)).ev (by omega) fun v a1 e1 _ _ hv=>?_
    refine EvGoes.bind (n:=2) (m:=6*(n:Int)+2) (zbn hs e1 (n:=(x1.size:Int)) (by omega) (by omega) (by omega)).ev (by omega) fun u a2 e2 _ _ hu=>?_
    refine EvGoes.of (fun r h=>Ev.eq (fun k=>(znX hu.1).trans (znX hu.2)) h) ?_
    refine EvGoes.bind (n:=2) (m:=6*(n:Int)) (zbn hs e2 (n:=3) (by omega) (by omega) (by omega)).ev (by omega) fun w a3 e3 _ _ hw=>?_
    have ewv:W (v+1)=v+1:=w64 (by omega) (by omega)
    have z1:(x0.extract 0 v.toNat).size=v.toNat:=by rw [ByteArray.size_extract]; omega
    have z2:(x0.extract v.toNat (x0.size:Int).toNat).size=x0.size-v.toNat:=by rw [ByteArray.size_extract]; omega
    have z3:(x0.extract (v+1).toNat (x0.size:Int).toNat).size=x0.size-(v+1).toNat:=by rw [ByteArray.size_extract]; omega
    have hb:=zn0 (bat x1 u)
    simp only [ewv]
    have g0:∀ {β:Type} {x:Option β},gd (0<=v) (gd (v<=(x0.size:Int)) x)=x:=fun {β x}=>(znX hv.1).trans (znX (by omega))
    have g1:∀ {β:Type} {x:Option β},gd (0<=v+1) (gd (v+1<=(x0.size:Int)) x)=x:=fun {β x}=>(znX (by omega)).trans (znX (by omega))
    simp only [g0,g1]
    refine EvGoes.ite (fun _=>?_) fun _=>EvGoes.ite (fun _=>?_) fun _=>?_
    · refine EvGoes.gd (by rw [z1,hb]; omega) (EvGoes.gd (by rw [ByteArray.size_append,z1,hb,z2]; omega) ?_)
      exact ih e3 _ (by omega) (by omega) (by rw [ByteArray.size_append,ByteArray.size_append,z1,z2,hb]; omega) (by omega) (by omega)
    · refine EvGoes.gd (by rw [z1,hb]; omega) (EvGoes.gd (by rw [ByteArray.size_append,z1,hb,z3]; omega) ?_)
      exact ih e3 _ (by omega) (by omega) (by rw [ByteArray.size_append,ByteArray.size_append,z1,z3,hb]; omega) (by omega) (by omega)
    · refine EvGoes.gd (by rw [z1,z3]; omega) ?_
      exact ih e3 _ (by omega) (by omega) (by rw [ByteArray.size_append,z1,z3]; omega) (by omega) (by omega)
  · have cz:iGt (x0.size:Int) 0=false:=decide_eq_false (by omega)
    simp only [cz,Bool.false_eq_true,if_false]
    exact EvGoes.now (by omega) (by omega)
theorem zez {s:List Int} (hs:zaZ s) {a:Int} (d:Int) {x0 x1:BA} (h10:1<=x1.size/\x1.size<=1000) (h0:0<=a) (h1:a<=800000) (h2:x0.size<=99990):EvGoes s a 20 (fun k=>qcgz.f k s a d x0 x1) fun v=>v.size<=100010:=by
 refine EvGoes.of (fun r h=>qcgz.v h) ?_
 refine EvGoes.bind (n:=2) (m:=18) (zbn hs d (n:=2) (by omega) h0 (by omega)).ev (by omega) fun v a1 e1 _ _ hv=>?_
 have ew:W (1+v)=((v.toNat+1:Nat):Int):=by rw [w64 (by omega) (by omega)]; omega
 simp only [ew]
 exact (zn1 hs h10 (v.toNat+1) e1 x0 (by omega) (by omega) (by omega) (by omega) (by omega)).le (by omega) fun _ h=>h
theorem zn2 {s:List Int} (hs:zaZ s) (n:Nat):∀ {a:Int} (d:Int) (x0:BA),0<=a->a+300*(n:Int)<=100000->x0.size+301*n<=20000 ->
    EvGoes s a (300*(n:Int)+30) (fun k=>qbpz.l0 k x0 (n:Int) s a d) fun v=>v.size<=100010:=by
 induction n with
 | zero =>
  intro a d x0 h0 h1 h2
  refine EvGoes.of (fun r h=>qbpz.v0 h) ?_
  have c:iGt ((0:Nat):Int) 0=false:=rfl
  simp only [c,Bool.false_eq_true,if_false]
  refine EvGoes.bind (n:=2) (m:=28) (zf4 hs d 12 h0 (by omega)).ev (by omega) fun v a1 e1 _ _ _=>?_
  refine EvGoes.ite (fun _=>?_) fun _=>EvGoes.now (by omega) (by omega)
  have o1:(bs [115,104,111,119]).size=4:=rfl
  refine EvGoes.gd (by omega) ?_
  exact EvGoes.bind (n:=20) (m:=0) (zez hs e1 (by decide) (by omega) (by omega) (by rw [ByteArray.size_append,o1]; omega)) (by omega) fun x a2 e2 _ _ hx=>EvGoes.now hx (by omega)
 | succ n ih =>
  intro a d x0 h0 h1 h2
  refine EvGoes.of (fun r h=>qbpz.v0 h) ?_
  have c:iGt ((n+1:Nat):Int) 0=true:=decide_eq_true (by omega)
  have ew:W (((n+1:Nat):Int)-1)=(n:Int):=by rw [w64 (by omega) (by omega)]; omega
  simp only [c,if_true,ew]
  refine EvGoes.bind (n:=300) (m:=300*(n:Int)+30) (znZ hs d h0 (by omega)) (by omega) fun v a1 e1 _ _ hv=>?_
  have o1:(bs [10]).size=1:=rfl
  try dsimp only
  refine EvGoes.gd (by omega) (EvGoes.gd (by rw [ByteArray.size_append,o1]; omega) ?_)
  exact ih e1 _ (by omega) (by omega) (by rw [ByteArray.size_append,ByteArray.size_append,o1]; omega)
theorem zgG {s:List Int} (hs:zaZ s):Txt 100010 (fun k=>qcbz.f k s):=by
 obtain ⟨n,a1,e1,p1,p2,p3,p4⟩:=ze0 hs (a:=0) 0 (l:=[0,1,5,10,20,50,51]) (by decide) (by omega) (by omega)
 have hn:∃ m:Nat,n=(m:Int)/\m<=51:=by
  simp only [List.mem_cons,List.not_mem_nil,or_false] at p4
  rcases p4 with rfl | rfl | rfl | rfl | rfl | rfl | rfl
  · exact ⟨0,rfl,by omega⟩
  · exact ⟨1,rfl,by omega⟩
  · exact ⟨5,rfl,by omega⟩
  · exact ⟨10,rfl,by omega⟩
  · exact ⟨20,rfl,by omega⟩
  · exact ⟨50,rfl,by omega⟩
  · exact ⟨51,rfl,by omega⟩
 obtain ⟨m,rfl,hm⟩:=hn
 obtain ⟨r,a2,e2,r1,_,_,r2⟩:=zn2 hs m (a:=a1) e1 (bs []) (by omega) (by omega) (by show 0+301*m<=20000; omega)
 refine ⟨r,qcbz.v (Ev.bind (v:=(r,(s,(a2,e2)))) (qbpz.v ?_) (Ev.now _)),r2⟩
 simp only [p1,Option.bind_some]
 exact r1
theorem FnDeskScripts (hV:ztU) (l0 l1:List Int) (m0:l0.length<=140737488351232) (f0:∀ z∈l0,(Lit.int .u8 z).wf=true) (m1:l1.length<=140737488351232) (f1:∀ z∈l1,(Lit.int .u8 z).wf=true):∃ K,qbyz.f (fun _=>K) l0 l1=some true:=by
 have hc:zaZ l0:=fun z hz=>zuQ (f0 z hz)
 refine Ev.rounds (g:=fun k=>qbyz.f k l0 l1) (qbyz.v ?_)
 have hbig:∃ b,qimz.f l0 l1=some b:=by
  unfold qimz.f
  by_cases h:iGt (ln l0) 1048576=true
  · exact ⟨_,if_pos h⟩
  · exact ⟨_,if_neg h⟩
 obtain ⟨b,hbig⟩:=hbig
 have ff:¬ (false=true):=by decide
 simp only [hbig,Option.bind_some]
 cases b with
 | true=>simp only [if_true]; exact Ev.now _
 | false =>
  simp only [if_neg ff]
  obtain ⟨s,hd,hsz⟩:=zgG hc
  refine Ev.bind hd ?_
  obtain ⟨st,e,hst⟩:=id hV
  obtain ⟨l,rfl⟩ : ∃ l,s=bL l:=⟨_,(zqR s).symm⟩
  rw [zak] at hsz
  obtain ⟨h1,h2,h3,h4⟩:=zrx hV l (by omega)
  have hR:=znV h1
  have hA:=znW h1
  have hF:=zly h1 h2 h3
  have hS:Ev (fun k=>qekz.f k (bL l)) (sv.r (bL l),sv.b (bL l)):=qekz.v (Ev.bind h4 (Ev.now _))
  have hT:=znU (l:=sv.r (bL l)) (by omega)
  have b1:(!true)=false:=rfl
  have b2:(sv.b (bL l) == sv.b (bL l))=true:=beq_self_eq_true _
  simp only [hR,hA,Option.bind_some]
  refine Ev.bind hS (Ev.bind hF ?_)
  simp only [b1,b2,if_neg ff]
  refine Ev.bind hT ?_
  simp only [b1,if_neg ff]
  cases hb:sv.b (bL l) with
  | false =>
   simp only [if_neg ff,beq_self_eq_true,b1,Bool.not_false,if_true]
   exact Ev.now _
  | true =>
   have hg:zcq (bL l)=true:=by rw [e] at hb; exact hb
   obtain ⟨g1,g2,g3⟩:=(zil l).1 hg
   obtain ⟨hr,hDn,_⟩:=ztV e hg
   obtain ⟨q1,q2⟩:=zkM l.length l (Nat.le_refl _) ((zfe 10 l).1 g2)
   have hlf:=zmN (sv.r (bL l)) 0
   have hFD:qemz.f=some d00:=rfl
   simp only [if_true,beq_self_eq_true,b1,if_neg ff,hFD,Option.bind_some]
   exact zpQ (F:=fun k x2 x3 x4 x5 x9 x10=>qbyz.l0 k (bL l) (sv.r (bL l)) x2 x3 x4 x5 (sv.D (bL l)) (sv.n (bL l)) (zev 0 (sv.r (bL l))) x9 x10) (fun h=>qbyz.v0 h) hst g1 h2 (by omega) (zac 10 l).dropLast 0 [] [] d00
    (by rw [<- q1]; omega) (by rw [<- q1]; rfl) q2 rfl (by rw [hr]; rfl) (by rw [hr]; rfl) hDn
end Go.Proofs.YtdhkgmhdengnkaaGreatDoor.Ds
