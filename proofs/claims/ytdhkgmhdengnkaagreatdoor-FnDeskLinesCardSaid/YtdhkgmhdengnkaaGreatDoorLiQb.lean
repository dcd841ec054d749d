/- The plain law (part 2 of 2). -/
import Derived.Test.YtdhkgmhdengnkaaGreatDoorLiQa
namespace Go.Proofs.YtdhkgmhdengnkaaGreatDoor.Li
open Go Go.Proofs.YtdhkgmhdengnkaaGreatDoorPi Go.RowKit
set_option linter.unusedVariables false
set_option linter.unusedSimpArgs false
set_option maxHeartbeats 1000000
theorem zll:∀ {a b:List Int},a.Pairwise (· < ·)->b.Pairwise (· < ·)->(∀ x,x∈a ↔ x∈b)->a=b:=by
 intro a
 induction a with
 | nil =>
  intro b _ _ h
  cases b with
  | nil=>rfl
  | cons y b=>exact absurd ((h y).2 (by simp)) (by simp)
 | cons x a ih =>
  intro b ha hb h
  cases b with
  | nil=>exact absurd ((h x).1 (by simp)) (by simp)
  | cons y b =>
   obtain ⟨a1,a2⟩:=List.pairwise_cons.1 ha
   obtain ⟨b1,b2⟩:=List.pairwise_cons.1 hb
   have hxy:x=y:=by
    rcases List.mem_cons.1 ((h x).1 (by simp)) with e | e
    · exact e
    · rcases List.mem_cons.1 ((h y).2 (by simp)) with e' | e'
      · exact e'.symm
      · have:=b1 x e
        have:=a1 y e'
        omega
   subst hxy
   rw [ih a2 b2 fun z=>⟨fun hz=>by
    rcases List.mem_cons.1 ((h z).1 (List.mem_cons_of_mem _ hz)) with e | e
    · have:=a1 z hz; omega
    · exact e,fun hz=>by
    rcases List.mem_cons.1 ((h z).2 (List.mem_cons_of_mem _ hz)) with e | e
    · have:=b1 z hz; omega
    · exact e⟩]
theorem ze6:∀ (l:List Int) (x:Int),x∈zav l ↔ x∈l
 | [],x=>by unfold zav; exact Iff.rfl
 | [a],x=>by unfold zav; exact Iff.rfl
 | a::b::l,x=>by
  have h:=ze6 (b::l) x
  unfold zav
  by_cases e:a=b
  · rw [if_pos e,h,e]; simp
  · rw [if_neg e,List.mem_cons,h,List.mem_cons (a:=x) (b:=a)]
theorem zhP:∀ (l:List Int),l.Pairwise (· <= ·)->(zav l).Pairwise (· < ·)
 | [],_=>by unfold zav; exact List.Pairwise.nil
 | [a],_=>by unfold zav; simp
 | a::b::l,h=>by
  obtain ⟨h1,h2⟩:=List.pairwise_cons.1 h
  have ih:=zhP (b::l) h2
  unfold zav
  by_cases e:a=b
  · rw [if_pos e]; exact ih
  · rw [if_neg e]
    refine List.pairwise_cons.2 ⟨fun y hy=>?_,ih⟩
    have hy:=(ze6 _ _).1 hy
    have hab:=h1 b (by simp)
    rcases List.mem_cons.1 hy with e' | hy
    · subst e'; omega
    · have:=(List.pairwise_cons.1 h2).1 y hy
      omega
theorem zqT (l:List Int) (x:Int):x∈zgM l ↔ x∈l:=(List.mergeSort_perm l _).mem_iff
theorem zqU (l:List Int):(zgM l).length=l.length:=(List.mergeSort_perm l _).length_eq
theorem zqV (l:List Int):(zgM l).Pairwise (· <= ·):=by
 have h:=List.pairwise_mergeSort (le:=fun x y:Int=>decide (x<=y)) (fun a b c h1 h2=>decide_eq_true (by have:=of_decide_eq_true h1; have:=of_decide_eq_true h2; omega)) (fun a b=>by
  rcases Int.le_total a b with h | h
  · rw [decide_eq_true h]; rfl
  · rw [decide_eq_true h,Bool.or_true]) l
 exact h.imp fun h=>of_decide_eq_true h
theorem zlm {s:List Int} (x:Int) (hl:s.length<=1000) (hs:s.Pairwise (· < ·)):∃ r:List Int,Ev (fun k=>qigz.f k s x) r/\r.Pairwise (· < ·)/\(∀ y,y∈r ↔ y∈s \/ y=x)/\r.length<=s.length+1:=by
 have srt:∀ {i j:Nat},i < j->j < s.length->s.getD i 0 < s.getD j 0:=fun {i j} hij hj=>by
  have:=List.pairwise_iff_getElem.1 hs i j (by omega) hj hij
  rw [List.getD_eq_getElem?_getD,List.getD_eq_getElem?_getD,List.getElem?_eq_getElem (show i < s.length by omega),List.getElem?_eq_getElem hj]
  exact this
 have put:∀ i,i<=s.length->(∀ j,j < i->s.getD j 0 < x)->(∀ j,i<=j->j < s.length->x < s.getD j 0)->(s.take i++[x]++s.drop i).Pairwise (· < ·)/\(∀ y,y∈s.take i++[x]++s.drop i ↔ y∈s \/ y=x)/\(s.take i++[x]++s.drop i).length<=s.length+1:=by
  intro i hi h1 h2
  have ht:=List.Pairwise.sublist (List.take_sublist i s) hs
  have hd:=List.Pairwise.sublist (List.drop_sublist i s) hs
  refine ⟨List.pairwise_append.2 ⟨List.pairwise_append.2 ⟨ht,by simp,fun a ha b hb=>?_⟩,hd,fun a ha b hb=>?_⟩,fun y=>?_,by simp; omega⟩
  · obtain ⟨j,j1,j2,rfl⟩:=zbL (z:=0) ha
    rw [List.mem_singleton.1 hb]
    exact h1 j j1
  · obtain ⟨j,j1,j2,rfl⟩:=zbw (z:=0) hb
    rcases List.mem_append.1 ha with ha | ha
    · obtain ⟨j',j1',j2',rfl⟩:=zbL (z:=0) ha
      exact srt (by omega) j2
    · rw [List.mem_singleton.1 ha]
      exact h2 j j1 j2
  · have e:y∈s ↔ y∈s.take i \/ y∈s.drop i:=by rw [<- List.mem_append,List.take_append_drop]
    simp only [List.mem_append,List.mem_singleton,e]
    constructor
    · rintro ((h | h) | h)
      · exact .inl (.inl h)
      · exact .inr h
      · exact .inl (.inr h)
    · rintro ((h | h) | h)
      · exact .inl (.inl h)
      · exact .inr h
      · exact .inl (.inr h)
 have key:∀ (d i:Nat),i+d=s.length->(∀ j,j < i->s.getD j 0 < x)->∃ r:List Int,Ev (fun k=>qigz.l0 k s x (i:Int)) r/\r.Pairwise (· < ·)/\(∀ y,y∈r ↔ y∈s \/ y=x)/\r.length<=s.length+1:=by
  intro d
  induction d with
  | zero =>
   intro i hi h
   refine ⟨_,qigz.v0 ?_,put i (by omega) h (fun j h1 h2=>by omega)⟩
   simp (disch:=omega) only [S,List.nil_append,List.length_append,List.length_cons,List.length_nil,List.length_take,List.length_drop]
   exact Ev.now _
  | succ d ih =>
   intro i hi h
   by_cases c:s.getD i 0 < x
   · obtain ⟨r,r1,r2⟩:=ih (i+1) (by omega) (fun j hj=>by
      rcases Nat.lt_or_ge j i with h' | h'
      · exact h j h'
      · rw [show j=i by omega]; exact c)
     refine ⟨r,qigz.v0 ?_,r2⟩
     simp (disch:=omega) only [S]
     exact r1
   · by_cases e:s.getD i 0=x
     · refine ⟨s,qigz.v0 ?_,hs,fun y=>⟨.inl,fun h=>h.elim id fun h=>by rw [h,<- e]; exact zaf (by omega)⟩,by omega⟩
       simp (disch:=omega) only [S]
       exact Ev.now _
     · refine ⟨_,qigz.v0 ?_,put i (by omega) h (fun j h1 h2=>by
        rcases Nat.lt_or_ge i j with h' | h'
        · have:=srt h' h2; omega
        · rw [show j=i by omega]; omega)⟩
       simp (disch:=omega) only [S,List.nil_append,List.length_append,List.length_cons,List.length_nil,List.length_take,List.length_drop]
       exact Ev.now _
 obtain ⟨r,r1,r2⟩:=key s.length 0 (by omega) (fun j h=>by omega)
 exact ⟨r,qigz.v r1,r2⟩
theorem smul {a b A B:Int} (ha : -A<=a/\a<=A) (hb:0<=b/\b<=B) : -(A*B)<=a*b/\a*b<=A*B:=by
 have hA:0<=A:=by omega
 have p1:=Int.mul_le_mul_of_nonneg_right ha.1 hb.1
 have p2:=Int.mul_le_mul_of_nonneg_right ha.2 hb.1
 have p3:=Int.mul_le_mul_of_nonneg_left hb.2 hA
 rw [Int.neg_mul] at p1
 omega
theorem zjH {n:Int} (hn:1<=n/\n<=1000) {w v:Wk} (hw:wOk w=true) (hv:wOk v=true):∃ r:List (List Int)×Bool,Ev (fun k=>qdwz.f k n w.1 w.2 v.1 v.2) r/\Ev (fun k=>qdyz.f k n w.1 w.2 v.1 v.2) r/\zf4 r.1/\r.1.length<=1000/\(r.2=true->0 < r.1.length)/\(r.2=false->r.1=[]):=by
 by_cases hs:w.2=v.2
 · refine ⟨([],false),qdwz.v ?_,qdyz.v ?_,fun r hr=>by simp at hr,by simp,by simp,fun _=>rfl⟩
   · have hne:(w.2 == v.2)=true:=beq_iff_eq.2 hs
     simp only [zbC hn,zau,S,hw,hv,hne]
     exact Ev.now _
   · have hne:(w.2 == v.2)=true:=beq_iff_eq.2 hs
     simp only [zb0 hn hw hv,S,hne]
     exact Ev.now _
 · obtain ⟨b1,b2,b3⟩:=zoo hn hw hv
   have hw':=zaO.1 hw
   obtain ⟨m,hm⟩ : ∃ m:Nat,(ahead n w v).2=(m:Int):=⟨(ahead n w v).2.toNat,by omega⟩
   have hm0:0 < m:=by
    rcases Nat.eq_zero_or_pos m with h | h
    · subst h; exact absurd (b3.1 hm) hs
    · exact h
   have hB:=mulb (a:=n) (b:=(m:Int)) (A:=1000) (B:=200) (by omega) (by omega) (by omega) (by omega)
   have hB1:0 < n*(m:Int):=Int.mul_pos (by omega) (by omega)
   -- the numbers
   obtain ⟨X,hX⟩ : ∃ X:Nat->Int,∀ i,X i=W (W (w.1*(m:Int))+W (w.2*W ((ahead n w v).1+W ((i:Int)*n)))):=⟨_,fun _=>rfl⟩
   have hXb:∀ i,i < 200->-4611686018427387904<=X i/\X i<=4611686018427387904:=by
    intro i hi
    have q1:=smul (a:=w.1) (b:=(m:Int)) (A:=1000) (B:=200) (by omega) (by omega)
    have q2:=mulb (a:=(i:Int)) (b:=n) (A:=200) (B:=1000) (by omega) (by omega) (by omega) (by omega)
    have q3:=smul (a:=w.2) (b:=(ahead n w v).1+(i:Int)*n) (A:=100) (B:=201000) (by omega) (by omega)
    rw [hX,w64 (x:=(i:Int)*n) (by omega) (by omega),w64 (x:=(ahead n w v).1+(i:Int)*n) (by omega) (by omega),w64 (x:=w.2*_) (by omega) (by omega),w64 (x:=w.1*_) (by omega) (by omega),w64 (by omega) (by omega)]
    omega
   have hNb:∀ i,0<=X i % (n*(m:Int))/\X i % (n*(m:Int)) < 200001:=fun i=>⟨Int.emod_nonneg _ (by omega),by have:=Int.emod_lt_of_pos (X i) hB1; omega⟩
   have wB:W (n*(m:Int))=n*(m:Int):=w64 (by omega) (by omega)
   -- the rows of a list of numbers
   have rowsOf:∀ L:List Int,(∀ x∈L,0<=x/\x < 200001)->L.length<=1000->∀ (e i:Nat),i+e=L.length->∀ acc:List (List Int),acc.length=i->zf4 acc ->
       ∃ R:List (List Int),Ev (fun k=>qdnz.l1 k (m:Int) (L.length:Int) (i:Int) acc L) R/\Ev (fun k=>qdyz.l1 k (m:Int) L (L.length:Int) (i:Int) acc) (R,true)/\zf4 R/\R.length=L.length:=by
    intro L hL hl e
    induction e with
    | zero =>
     intro i hi acc ha hr
     refine ⟨acc,qdnz.v1 ?_,qdyz.v1 ?_,hr,by omega⟩ <;> simp (disch:=omega) only [S] <;> exact Ev.now _
    | succ e ih =>
     intro i hi acc ha hr
     have hx:=hL _ (zaf (z:=0) (show i < L.length by omega))
     have i1:i64 (L.getD i 0):=by unfold i64; omega
     have i2:i64 (m:Int):=by unfold i64; omega
     obtain ⟨g1,g2⟩:=zeB i1 i2
     obtain ⟨R,r1,r2,r3⟩:=ih (i+1) (by omega) (acc++[[(low (L.getD i 0) (m:Int)).1,(low (L.getD i 0) (m:Int)).2]]) (by simp; omega) (zkB hr g1 g2)
     refine ⟨R,qdnz.v1 ?_,qdyz.v1 ?_,r3⟩
     · simp (disch:=omega) only [S]
       exact Ev.bind (zbh i1 i2 (by omega)) r1
     · simp (disch:=omega) only [S]
       exact Ev.bind (zbv i1 i2 (by omega)) r2
   have main:∀ (e i:Nat),i+e=m->∀ (acc:List Int) (s:List Int),acc.length=i->s.length<=i->s.Pairwise (· < ·)->(∀ y,y∈s ↔ y∈acc)->(∀ x∈acc,0<=x/\x < 200001) ->
       ∃ R:List (List Int),Ev (fun k=>qdnz.l0 k n (ahead n w v).1 (m:Int) (m:Int) (i:Int) w.1 w.2 acc) R/\Ev (fun k=>qdyz.l0 k n (ahead n w v).1 (m:Int) s (i:Int) w.1 w.2) (R,true)/\zf4 R/\(0 < R.length/\R.length<=1000):=by
    intro e
    induction e with
    | zero =>
     intro i hi acc s ha hs1 hs2 hs3 hb
     have es:zav (zgM acc)=s:=zll (zhP _ (zqV _)) hs2 fun x=>by rw [ze6,zqT,hs3]
     have sl:=zqU acc
     have s0:0 < s.length:=by
      have:=(hs3 _).2 (zaf (z:=0) (show 0 < acc.length by omega))
      exact List.length_pos_of_mem this
     obtain ⟨R,r1,r2,r3,r4⟩:=rowsOf s (fun x hx=>hb x ((hs3 x).1 hx)) (by omega) s.length 0 (by omega) [] rfl (fun r hr=>by simp at hr)
     refine ⟨R,qdnz.v0 ?_,qdyz.v0 ?_,r3,by omega⟩
     · simp (disch:=omega) only [S,sl,es]
       exact r1
     · simp (disch:=omega) only [S]
       exact r2
    | succ e ih =>
     intro i hi acc s ha hs1 hs2 hs3 hb
     obtain ⟨r,r1,r2,r3,r4⟩:=zlm (X i % (n*(m:Int))) (by omega) hs2
     obtain ⟨R,q1,q2,q3⟩:=ih (i+1) (by omega) (acc++[X i % (n*(m:Int))]) r (by simp; omega) (by omega) r2 (fun y=>by rw [r3,hs3,List.mem_append,List.mem_singleton]) (fun x hx=>by
      rcases List.mem_append.1 hx with h | h
      · exact hb x h
      · rw [List.mem_singleton.1 h]; exact hNb i)
     have hx:=hXb i (by omega)
     have wi:W ((i:Int)+1)=((i+1:Nat):Int):=by rw [w64 (by omega) (by omega)]; omega
     have lt1:iLt (i:Int) (m:Int)=true:=decide_eq_true (by omega)
     refine ⟨R,qdnz.v0 ?_,qdyz.v0 ?_,q3⟩
     · simp only [lt1,if_true,<- hX,wB,zdT hB1 hx (by omega),Option.bind_some,wi]
       simp (disch:=omega) only [S]
       exact q1
     · simp only [lt1,if_true,<- hX,wB,zeD hB1 (show n*(m:Int)<=4611686018427387904 by omega),Option.bind_some,wi]
       exact Ev.bind r1 q2
   obtain ⟨R,r1,r2,r3,r4⟩:=main m 0 (by omega) [] [] rfl (by simp) List.Pairwise.nil (fun y=>Iff.rfl) (fun x hx=>by simp at hx)
   refine ⟨(R,true),qdwz.v ?_,qdyz.v ?_,r3,r4.2,fun _=>r4.1,fun h=>by cases h⟩
   · have hne:(w.2 == v.2)=false:=beq_eq_false_iff_ne.2 hs
     simp only [zbC hn,zau,S,hw,hv,hne]
     refine Ev.bind (qdnz.v ?_) (Ev.now _)
     simp only [ze3 hn hw hv,S,hm]
     exact r1
   · have hne:(w.2 == v.2)=false:=beq_eq_false_iff_ne.2 hs
     simp only [zb0 hn hw hv,zdo hn hw hv,S,hne,hm]
     exact r2
def zaI (t:Int):Nat->List Wk->List Int
 | _,[]=>[]
 | i,v::l=>if v.1<=t/\t<=v.1+v.2 then (i:Int)::zaI t (i+1) l else zaI t (i+1) l
theorem zln (t:Int) (l:List Wk):∀ i,(zaI t i l).length<=l.length:=by
 induction l with
 | nil=>intro i; simp [zaI]
 | cons v l ih =>
  intro i
  simp only [zaI]
  have:=ih (i+1)
  split <;> simp <;> omega
def ve (v:Wk):Int:=v.1+v.2
def Gd (l:List Wk):Int->List Int->Prop
 | last,[]=>∀ v∈l,v.1<=last
 | last,t::r=>(∃ v∈l,last < v.1/\ve v=t)/\(∀ v∈l,last < v.1->t<=ve v)/\Gd l t r
def runL:Int->List Wk->List Int
 | _,[]=>[]
 | last,v::s=>if last < v.1 then ve v::runL (ve v) s else runL last s
theorem zsb (s:List Wk):∀ last,(runL last s).length<=s.length:=by
 induction s with
 | nil=>intro last; simp [runL]
 | cons v s ih =>
  intro last
  rw [runL]
  split
  · have:=ih (ve v); simp; omega
  · have:=ih last; simp; omega
theorem zqW {v:Wk} {s:List Wk} (hs:∀ u∈s,u.1<=ve u) (r:List Int):∀ last,v.1<=last->Gd s last r->Gd (v::s) last r:=by
 induction r with
 | nil =>
  intro last hv h u hu
  rcases List.mem_cons.1 hu with rfl | hu
  · exact hv
  · exact h u hu
 | cons t r ih =>
  intro last hv h
  obtain ⟨⟨u,hu,hl,he⟩,h2,h3⟩:=h
  refine ⟨⟨u,List.mem_cons_of_mem _ hu,hl,he⟩,?_,ih t ?_ h3⟩
  · intro x hx hlx
    rcases List.mem_cons.1 hx with rfl | hx
    · omega
    · exact h2 x hx hlx
  · have:=hs u hu
    omega
theorem zup (s:List Wk):(∀ u∈s,u.1<=ve u)->s.Pairwise (fun a b=>ve a<=ve b)->∀ last,Gd s last (runL last s):=by
 induction s with
 | nil=>intro _ _ last u hu; simp at hu
 | cons v s ih =>
  intro hs hp last
  rw [List.pairwise_cons] at hp
  have hs':∀ u∈s,u.1<=ve u:=fun u hu=>hs u (List.mem_cons_of_mem _ hu)
  rw [runL]
  by_cases h:last < v.1
  · rw [if_pos h]
    refine ⟨⟨v,List.mem_cons_self,h,rfl⟩,?_,zqW hs' _ _ (hs v List.mem_cons_self) (ih hs' hp.2 _)⟩
    intro u hu _
    rcases List.mem_cons.1 hu with rfl | hu
    · exact Int.le_refl _
    · exact hp.1 u hu
  · rw [if_neg h]
    exact zqW hs' _ _ (by omega) (ih hs' hp.2 _)
theorem zsc {l l':List Wk} (h:∀ v,v∈l ↔ v∈l') (r:List Int):∀ last,Gd l last r->Gd l' last r:=by
 induction r with
 | nil=>intro last hg v hv; exact hg v ((h v).2 hv)
 | cons t r ih =>
  rintro last ⟨⟨v,hv,hl,he⟩,h2,h3⟩
  exact ⟨⟨v,(h v).1 hv,hl,he⟩,fun u hu=>h2 u ((h u).2 hu),ih t h3⟩
def zfI (last:Int):List Wk->Int->Int
 | [],c=>c
 | v::l,c=>zfI last l (if v.1<=last then c else if c < 0 then v.1+v.2 else if v.1+v.2 < c then v.1+v.2 else c)
theorem znC {last:Int} (l:List Wk):(∀ v∈l,v.1<=last)->∀ c,zfI last l c=c:=by
 induction l with
 | nil=>intro _ c; rfl
 | cons v l ih =>
  intro h c
  rw [zfI,if_pos (h v List.mem_cons_self)]
  exact ih (fun u hu=>h u (List.mem_cons_of_mem _ hu)) c
theorem znD {last t:Int} (ht:0<=t) (l:List Wk):(∀ v∈l,last < v.1->t<=ve v)->∀ c,(c=t \/ (∃ v∈l,last < v.1/\ve v=t)/\(c < 0 \/ t<=c))->zfI last l c=t:=by
 induction l with
 | nil =>
  intro _ c hc
  rcases hc with rfl | ⟨⟨v,hv,_⟩,_⟩
  · rfl
  · simp at hv
 | cons v l ih =>
  intro h c hc
  have h':∀ u∈l,last < u.1->t<=ve u:=fun u hu=>h u (List.mem_cons_of_mem _ hu)
  have hv:=h v List.mem_cons_self
  have hve:ve v=v.1+v.2:=rfl
  rw [zfI]
  refine ih h' _ ?_
  by_cases h0:v.1<=last
  · rw [if_pos h0]
    rcases hc with hc | ⟨⟨u,hu,hl,he⟩,hc⟩
    · exact .inl hc
    · rcases List.mem_cons.1 hu with rfl | hu
      · omega
      · exact .inr ⟨⟨u,hu,hl,he⟩,hc⟩
  · have hv':=hv (by omega)
    rw [if_neg h0]
    rcases hc with hc | ⟨⟨u,hu,hl,he⟩,hc⟩
    · left
      rw [if_neg (by omega),if_neg (by omega)]
      exact hc
    · rcases List.mem_cons.1 hu with rfl | hu
      · left
        split
        · exact he
        · split
          · exact he
          · omega
      · right
        refine ⟨⟨u,hu,hl,he⟩,.inr ?_⟩
        split
        · omega
        · split
          · omega
          · omega
theorem zjI (t:Int) (l:List Wk):∀ (i:Nat) (j:Int),j∈zaI t i l ↔ ∃ q:Nat,q < l.length/\j=((i+q:Nat):Int)/\(l.getD q (0,0)).1<=t/\t<=ve (l.getD q (0,0)):=by
 induction l with
 | nil=>intro i j; simp [zaI]
 | cons v l ih =>
  intro i j
  have key:j∈zaI t (i+1) l ↔ ∃ q:Nat,q < l.length/\j=((i+(q+1):Nat):Int)/\(l.getD q (0,0)).1<=t/\t<=ve (l.getD q (0,0)):=by
   rw [ih (i+1) j]
   constructor
   · rintro ⟨q,h1,h2,h3⟩
     exact ⟨q,h1,by omega,h3⟩
   · rintro ⟨q,h1,h2,h3⟩
     exact ⟨q,h1,by omega,h3⟩
  rw [zaI]
  constructor
  · intro h
    split at h
    · rename_i hc
      rcases List.mem_cons.1 h with rfl | h
      · exact ⟨0,by simp,by simp,hc.1,hc.2⟩
      · obtain ⟨q,h1,h2,h3⟩:=key.1 h
        exact ⟨q+1,by simp; omega,h2,h3⟩
    · obtain ⟨q,h1,h2,h3⟩:=key.1 h
      exact ⟨q+1,by simp; omega,h2,h3⟩
  · rintro ⟨q,h1,h2,h3,h4⟩
    cases q with
    | zero =>
     rw [if_pos ⟨h3,h4⟩]
     rw [h2]; simp
    | succ q =>
     have:j∈zaI t (i+1) l:=key.2 ⟨q,by simpa using h1,h2,h3,h4⟩
     split
     · exact List.mem_cons_of_mem _ this
     · exact this
def zbe (l:List Wk) (last:Int):List Bool:=l.map fun v=>decide (v.1<=last)
theorem zcw (l:List Wk) (last:Int):(zbe l last).length=l.length:=by simp [zbe]
theorem zjJ {l:List Wk} {last:Int} {i:Nat} (h:i < l.length):(zbe l last).getD i false=decide ((l.getD i (0,0)).1<=last):=by
 unfold zbe
 rw [List.getD_eq_getElem?_getD,List.getD_eq_getElem?_getD,List.getElem?_map,List.getElem?_eq_getElem h]
 rfl
def zcT:List Bool->List Int->List Bool
 | s,[]=>s
 | s,j::w=>zcT (s.set j.toNat true) w
theorem znE (w:List Int):∀ s,(zcT s w).length=s.length:=by
 induction w with
 | nil=>intro s; rfl
 | cons j w ih=>intro s; rw [zcT,ih,List.length_set]
theorem zpq (w:List Int):∀ (s:List Bool) (q:Nat),q < s.length->(∀ j∈w,0<=j)->((zcT s w).getD q false=true ↔ s.getD q false=true \/ (q:Int)∈w):=by
 induction w with
 | nil=>intro s q hq _; simp [zcT]
 | cons j w ih =>
  intro s q hq hw
  have hj:=hw j List.mem_cons_self
  rw [zcT,ih _ q (by rw [List.length_set]; exact hq) (fun x hx=>hw x (List.mem_cons_of_mem _ hx)),List.mem_cons]
  by_cases h:j.toNat=q
  · have e:(s.set j.toNat true).getD q false=true:=by
     rw [List.getD_eq_getElem?_getD,h,List.getElem?_set_self hq]; rfl
    have e2:(q:Int)=j:=by omega
    rw [e]
    exact ⟨fun _=>.inr (.inl e2),fun _=>.inl rfl⟩
  · have e:(s.set j.toNat true).getD q false=s.getD q false:=by
     rw [List.getD_eq_getElem?_getD,List.getElem?_set_ne h,<- List.getD_eq_getElem?_getD]
    have e2:¬ (q:Int)=j:=by omega
    rw [e]
    exact ⟨fun h=>h.elim .inl (fun h=>.inr (.inr h)),fun h=>h.elim .inl (fun h=>h.elim (fun h=>absurd h e2) .inr)⟩
theorem znF {l:List Wk} {last t:Int} (h1:∀ v∈l,last < v.1->t<=ve v) (h2:last<=t):zcT (zbe l last) (zaI t 0 l)=zbe l t:=by
 have hl:(zcT (zbe l last) (zaI t 0 l)).length=(zbe l t).length:=by rw [znE,zcw,zcw]
 refine List.ext_getElem hl fun q hq1 hq2=>?_
 have hq:q < l.length:=by rw [zcw] at hq2; exact hq2
 have e1:(zcT (zbe l last) (zaI t 0 l))[q]=(zcT (zbe l last) (zaI t 0 l)).getD q false:=by
  rw [List.getD_eq_getElem?_getD,List.getElem?_eq_getElem hq1]; rfl
 have e2:(zbe l t)[q]=(zbe l t).getD q false:=by
  rw [List.getD_eq_getElem?_getD,List.getElem?_eq_getElem hq2]; rfl
 have hm:l.getD q (0,0)∈l:=by
  rw [List.getD_eq_getElem?_getD,List.getElem?_eq_getElem hq]
  exact List.getElem_mem hq
 have hg:=h1 _ hm
 rw [e1,e2]
 have key:=zpq (zaI t 0 l) (zbe l last) q (by rw [zcw]; exact hq) (fun j hj=>by
  obtain ⟨p,_,rfl,_⟩:=(zjI t l 0 j).1 hj
  omega)
 rw [zjJ hq,decide_eq_true_eq,zjI] at key
 rw [zjJ hq,Bool.eq_iff_iff,key,decide_eq_true_eq]
 constructor
 · rintro (h | ⟨p,hp,hqp,h3,_⟩)
   · omega
   · have:p=q:=by omega
     subst this
     exact h3
 · intro h
   by_cases h3:(l.getD q (0,0)).1<=last
   · exact .inl h3
   · exact .inr ⟨q,hq,by omega,h,hg (by omega)⟩
theorem zqX {l:List Wk} (h:zam 6 vOk l=true) {i:Nat} (hi:i < l.length):(0<=(l.getD i (0,0)).1/\(l.getD i (0,0)).1<=200)/\0<=(l.getD i (0,0)).2/\(l.getD i (0,0)).2<=200:=zdk.1 ((zak.1 h).2 _ (zaf hi))
def ltE (v u:Wk):Bool:=decide (ve v < ve u)
theorem zqY (x:Wk) (acc:List Wk) (hs:acc.Pairwise fun a b=>ve a<=ve b):∀ n,n<=acc.length->(∀ i,n<=i->i < acc.length->ve x<=ve (acc.getD i (0,0)))->(∀ i,zc7 ltE (0,0) x acc n<=i->i < acc.length->ve x<=ve (acc.getD i (0,0))) /\ ∀ i,i < zc7 ltE (0,0) x acc n->ve (acc.getD i (0,0))<=ve x:=by
 intro n
 induction n with
 | zero=>intro _ h; exact ⟨h,fun i hi=>absurd hi (by unfold zc7; omega)⟩
 | succ n ih =>
  intro hn h
  unfold zc7
  cases hc:ltE x (acc.getD n (0,0)) with
  | true =>
   rw [if_pos rfl]
   refine ih (by omega) fun i h1 h2=>?_
   rcases Nat.lt_or_ge n i with h3 | h3
   · exact h i (by omega) h2
   · have:i=n:=by omega
     subst this
     have:=of_decide_eq_true hc
     omega
  | false =>
   rw [if_neg (by simp)]
   refine ⟨h,fun i hi=>?_⟩
   have hx:=of_decide_eq_false hc
   rcases Nat.lt_or_ge i n with h3 | h3
   · have:=List.pairwise_iff_getElem.1 hs i n (by omega) (by omega) h3
     have e1:acc.getD i (0,0)=acc[i]'(by omega):=by rw [List.getD_eq_getElem?_getD,List.getElem?_eq_getElem (show i < acc.length by omega)]; rfl
     have e2:acc.getD n (0,0)=acc[n]'(by omega):=by rw [List.getD_eq_getElem?_getD,List.getElem?_eq_getElem (show n < acc.length by omega)]; rfl
     rw [e1]; rw [e2] at hx; omega
   · have:i=n:=by omega
     subst this
     omega
theorem zuq:∀ (n:Nat) (l:List Wk),l.length=n->(zaC ltE (0,0) l).Pairwise fun a b=>ve a<=ve b:=by
 intro n
 induction n with
 | zero=>intro l h; rw [List.length_eq_zero_iff.1 h]; exact List.Pairwise.nil
 | succ n ih =>
  intro l h
  have h0:l ≠ []:=by intro e; subst e; simp at h
  rw [<- List.dropLast_concat_getLast h0,zbQ]
  have hs:=ih l.dropLast (by simp [h])
  obtain ⟨k1,k2⟩:=zqY (l.getLast h0) _ hs _ (Nat.le_refl _) (fun i h1 h2=>by omega)
  unfold ins zbi
  have hp:=zik ltE (0,0) (l.getLast h0) (zaC ltE (0,0) l.dropLast) (zaC ltE (0,0) l.dropLast).length
  generalize zaC ltE (0,0) l.dropLast=acc at *
  generalize zc7 ltE (0,0) (l.getLast h0) acc acc.length=p at *
  refine List.pairwise_append.2 ⟨List.Pairwise.sublist (List.take_sublist _ _) hs,List.pairwise_cons.2 ⟨fun y hy=>?_,List.Pairwise.sublist (List.drop_sublist _ _) hs⟩,fun a ha b hb=>?_⟩
  · obtain ⟨i,i1,i2,rfl⟩:=zbw (z:=(0,0)) hy
    exact k1 i i1 i2
  · obtain ⟨i,i1,i2,rfl⟩:=zbL (z:=(0,0)) ha
    rcases List.mem_cons.1 hb with rfl | hb
    · exact k2 i i1
    · obtain ⟨j,j1,j2,rfl⟩:=zbw (z:=(0,0)) hb
      have:=k1 j j1 j2
      have:=k2 i i1
      omega
theorem cmpE:zqK (fun _ (x y:Wk)=>qbrz.f x.1 x.2 y.1 y.2) ltE (fun v=>vOk v=true):=by
 intro x y hx hy
 have hx:=zdk.1 hx
 have hy:=zdk.1 hy
 obtain ⟨c,e,l,_⟩:=zb1 (x.1+x.2) (y.1+y.2)
 refine ⟨c,zs9 ?_,?_⟩
 · unfold qbrz.f
   rw [w64 (x:=x.1+x.2) (by omega) (by omega),w64 (x:=y.1+y.2) (by omega) (by omega),e]
   rfl
 · rw [l]; rfl
theorem ztB {n:Nat} (h:n<=6):∃ t,qfiz.f (IntKind.wrap .u64 (n:Int))=some t:=by
 have e:IntKind.wrap .u64 (n:Int)=(n:Int):=by
  simp [IntKind.wrap,IntKind.bits,IntKind.signed]
  omega
 have e2:IntKind.wrap .u8 (n:Int)=(n:Int):=by
  simp [IntKind.wrap,IntKind.bits,IntKind.signed]
  omega
 unfold qfiz.f qdxz.f
 rw [e,if_neg (show ¬ iGe (n:Int) 4294967296=true by rw [show iGe (n:Int) 4294967296=false from decide_eq_false (by omega)]; decide),
  if_neg (show ¬ iGe (n:Int) 65536=true by rw [show iGe (n:Int) 65536=false from decide_eq_false (by omega)]; decide),
  if_neg (show ¬ iGe (n:Int) 256=true by rw [show iGe (n:Int) 256=false from decide_eq_false (by omega)]; decide),
  S.1 (show 0<=IntKind.wrap .u8 (n:Int) by omega),S.1 (show IntKind.wrap .u8 (n:Int) < 256 by omega)]
 exact ⟨_,rfl⟩
theorem znG {l:List Wk} (hv:zam 6 vOk l=true):Ev (fun k=>qaiz.f k l) (zaC ltE (0,0) l):=by
 obtain ⟨h1,h2⟩:=zak.1 hv
 obtain ⟨t,ht⟩:=ztB h1.2
 refine qaiz.v ?_
 simp only [S,ht]
 refine Ev.bind (qaqz.v (qaqz.v0 ?_)) (Ev.now _)
 have c:iLe (W ((l.length:Int)-0)) 12=true:=decide_eq_true (by rw [w64 (by omega) (by omega)]; omega)
 simp only [c,if_true]
 refine Ev.bind (v:=zaC ltE (0,0) l) (qagz.v ?_) (Ev.now _)
 have h:=zlj cmpE (F0:=fun k a b i arr=>qagz.l0 k a b i arr) (F1:=fun k a b i j arr=>qagz.l1 k a b i j arr)
  qagz.v0 qagz.v1 [] l [] h2 (by simp; omega)
 simp only [List.length_nil,Nat.zero_add,List.nil_append,List.append_nil] at h
 rw [show W (0+1)=1 by decide]
 exact h
theorem zmF {T:List Wk} (hg:zam 6 vOk T=true) (d:Nat):∀ (i:Nat) (acc:List Int) (last:Int),i+d=T.length->acc.length<=i ->
    Ev (fun k=>qckz.l0 k last (T.length:Int) (i:Int) acc T) (acc++runL last (T.drop i),true):=by
 have hl:=(zak.1 hg).1
 induction d with
 | zero =>
  intro i acc last hi ha
  rw [List.drop_eq_nil_of_le (by omega)]
  refine qckz.v0 ?_
  simp (disch:=omega) only [S]
  exact zbK (by simp [runL])
 | succ d ih =>
  intro i acc last hi ha
  have hb:=zqX hg (show i < T.length by omega)
  rw [zaF (0,0) (show i < T.length by omega),runL]
  refine qckz.v0 ?_
  by_cases h:last < (T.getD i (0,0)).1
  · simp (disch:=omega) only [S,if_pos h]
    rw [show acc++ve (T.getD i (0,0))::runL (ve (T.getD i (0,0))) (T.drop (i+1))=acc++[ve (T.getD i (0,0))]++runL (ve (T.getD i (0,0))) (T.drop (i+1)) by simp]
    exact ih (i+1) _ _ (by omega) (by simp; omega)
  · simp (disch:=omega) only [S,if_neg h]
    exact ih (i+1) _ _ (by omega) (by omega)
theorem zft {l:List Wk} (hv:zam 6 vOk l=true):∃ r,r.length<=6/\Gd l (-1) r/\(0<=0 /\ ∀ x∈r,i64 x)/\Ev (fun k=>qckz.f k l) (r,true):=by
 obtain ⟨hl,h2⟩:=zak.1 hv
 have hm:∀ v,v∈zaC ltE (0,0) l ↔ v∈l:=fun v=>(za7 _ _ _).mem_iff
 have hil:=zcP ltE (0,0) l
 have hvT:zam 6 vOk (zaC ltE (0,0) l)=true:=zak.2 ⟨by omega,fun w hw=>h2 w ((hm w).1 hw)⟩
 have hr:=zsb (zaC ltE (0,0) l) (-1)
 have hmem:∀ (s:List Wk),(∀ v∈s,vOk v=true)->∀ last,∀ x∈runL last s,i64 x:=by
  intro s
  induction s with
  | nil=>intro _ last x hx; simp [runL] at hx
  | cons v s ih =>
   intro h last x hx
   unfold runL at hx
   split at hx
   · rcases List.mem_cons.1 hx with rfl | hx
     · have:=zdk.1 (h v (by simp))
       unfold i64 ve; omega
     · exact ih (fun u hu=>h u (List.mem_cons_of_mem _ hu)) _ x hx
   · exact ih (fun u hu=>h u (List.mem_cons_of_mem _ hu)) _ x hx
 refine ⟨runL (-1) (zaC ltE (0,0) l),by omega,?_,⟨Nat.le_refl _,hmem _ (fun v hv'=>h2 v ((hm v).1 hv')) _⟩,?_⟩
 · refine zsc hm _ _ (zup _ (fun u hu=>?_) (zuq _ l rfl) (-1))
   have:=zdk.1 (h2 u ((hm u).1 hu))
   unfold ve; omega
 · refine qckz.v (Ev.bind (zcv l) ?_)
   unfold qbiz.f
   simp (disch:=omega) only [hv,S]
   refine Ev.bind (znG hv) ?_
   have:=zmF hvT (zaC ltE (0,0) l).length 0 [] (-1) (by omega) (by simp)
   simpa using this
theorem zjK {l:List Wk} (hv:zam 6 vOk l=true) (t:Int):Ev (fun k=>qfrz.f k l t) (zaI t 0 l):=by
 have hl:=(zak.1 hv).1
 have key:∀ (d i:Nat) (acc:List Int),i+d=l.length->acc.length<=i->Ev (fun k=>qfrz.l0 k t l (l.length:Int) (i:Int) acc) (acc++zaI t i (l.drop i)):=by
  intro d
  induction d with
  | zero =>
   intro i acc hi ha
   rw [List.drop_eq_nil_of_le (by omega)]
   refine qfrz.v0 ?_
   simp (disch:=omega) only [S]
   exact zbK (by simp [zaI])
  | succ d ih =>
   intro i acc hi ha
   have hb:=zqX hv (show i < l.length by omega)
   rw [zaF (0,0) (show i < l.length by omega)]
   refine qfrz.v0 ?_
   simp (disch:=omega) only [S,zaq,decide_eq_true_eq,zaI]
   by_cases h1:(l.getD i (0,0)).1<=t/\t<=(l.getD i (0,0)).1+(l.getD i (0,0)).2
   · have h:=ih (i+1) (acc++[(i:Int)]) (by omega) (by simp; omega)
     rw [List.append_assoc] at h
     simp only [if_pos h1]
     exact h
   · have h:=ih (i+1) acc (by omega) (by omega)
     simp only [if_neg h1]
     exact h
 exact qfrz.v (key l.length 0 [] (by omega) (by simp))
theorem zkC {l:List Wk} (hv:zam 6 vOk l=true) {acc:List Int} {last:Int} {R:List Int×Bool} (ha:acc.length<=1000) (d:Nat):∀ (i:Nat) (c:Int),i+d=l.length ->
    Ev (fun k=>if zfI last (l.drop i) c < 0 then some (acc,true) else ((qfrz.f k l (zfI last (l.drop i) c)).bind fun t=>(qcjz.l2 k l t (t.length:Int) 0 (acc++[zfI last (l.drop i) c]) (zbe l last)))) R ->
    Ev (fun k=>qcjz.l1 k l c l (l.length:Int) (i:Int) acc (zbe l last)) R:=by
 have hl:=(zak.1 hv).1
 induction d with
 | zero =>
  intro i c hi hR
  rw [List.drop_eq_nil_of_le (by omega)] at hR
  refine qcjz.v1 ?_
  rw [show zfI last [] c=c from rfl] at hR
  by_cases hc:c < 0
  · simp only [if_pos hc] at hR
    simp (disch:=omega) only [S]
    exact hR
  · simp only [if_neg hc] at hR
    simp (disch:=omega) only [S]
    exact hR
 | succ d ih =>
  intro i c hi hR
  have hb:=zqX hv (show i < l.length by omega)
  have hsl:=zcw l last
  rw [zaF (0,0) (show i < l.length by omega),zfI] at hR
  refine qcjz.v1 ?_
  have sa:=zjJ (l:=l) (last:=last) (show i < l.length by omega)
  by_cases h0:(l.getD i (0,0)).1<=last
  · rw [decide_eq_true h0] at sa
    simp only [if_pos h0] at hR
    simp (disch:=omega) only [S,sa]
    exact ih (i+1) c (by omega) hR
  · rw [decide_eq_false h0] at sa
    simp only [if_neg h0] at hR
    by_cases h1:c < 0
    · simp only [if_pos h1] at hR
      simp (disch:=omega) only [S,sa]
      exact ih (i+1) _ (by omega) hR
    · simp only [if_neg h1] at hR
      by_cases h2:(l.getD i (0,0)).1+(l.getD i (0,0)).2 < c
      · simp only [if_pos h2] at hR
        simp (disch:=omega) only [S,sa]
        exact ih (i+1) _ (by omega) hR
      · simp only [if_neg h2] at hR
        simp (disch:=omega) only [S,sa]
        exact ih (i+1) _ (by omega) hR
theorem zpr {l:List Wk} {acc:List Int} {R:List Int×Bool} {w:List Int} (hw:w.length<=1000) (hj:∀ j∈w,0<=j/\j < (l.length:Int)) (d:Nat):∀ (i:Nat) (s:List Bool),i+d=w.length->s.length=l.length ->
    Ev (fun k=>qcjz.l0 k l acc (zcT s (w.drop i))) R ->
    Ev (fun k=>qcjz.l2 k l w (w.length:Int) (i:Int) acc s) R:=by
 induction d with
 | zero =>
  intro i s hi hs hR
  rw [List.drop_eq_nil_of_le (by omega)] at hR
  refine qcjz.v2 ?_
  simp (disch:=omega) only [S]
  exact hR
 | succ d ih =>
  intro i s hi hs hR
  have hb:=hj _ (zaf (z:=0) (show i < w.length by omega))
  rw [zaF 0 (show i < w.length by omega),zcT] at hR
  refine qcjz.v2 ?_
  simp (disch:=omega) only [S]
  exact ih (i+1) _ (by omega) (by rw [List.length_set]; exact hs) hR
theorem zps {l:List Wk} (hv:zam 6 vOk l=true) (r:List Int):∀ (last:Int) (acc:List Int),Gd l last r->acc.length+r.length<=1000 ->
    Ev (fun k=>qcjz.l0 k l acc (zbe l last)) (acc++r,true):=by
 obtain ⟨hl6,hmem⟩:=zak.1 hv
 induction r with
 | nil =>
  intro last acc hg ha
  simp only [List.length_nil] at ha
  refine qcjz.v0 ?_
  simp only [S]
  refine zkC hv (by omega) l.length 0 (-1) (by omega) ?_
  rw [List.drop_zero,znC l hg]
  simp only [if_pos (show (-1:Int) < 0 by omega),List.append_nil]
  exact Ev.now _
 | cons t r ih =>
  rintro last acc ⟨⟨v,hvl,hl,he⟩,h2,h3⟩ ha
  have hgv:=zdk.1 (hmem _ hvl)
  have ht:0<=t/\last<=t:=by unfold ve at he; omega
  rw [List.length_cons] at ha
  refine qcjz.v0 ?_
  simp only [S]
  refine zkC hv (by omega) l.length 0 (-1) (by omega) ?_
  rw [List.drop_zero,znD ht.1 l h2 (-1) (.inr ⟨⟨v,hvl,hl,he⟩,.inl (by omega)⟩)]
  simp only [if_neg (show ¬ t < 0 by omega)]
  refine Ev.bind (zjK hv t) ?_
  have hlen:=zln t l 0
  refine zpr (by omega) (fun j hj=>by
   obtain ⟨p,hp,rfl,_⟩:=(zjI t l 0 j).1 hj
   omega) (zaI t 0 l).length 0 _ (by omega) (zcw _ _) ?_
  rw [List.drop_zero,znF h2 ht.2,show acc++t::r=acc++[t]++r by simp]
  exact ih t _ h3 (by simp; omega)
theorem zhk {l:List Wk} (hv:zam 6 vOk l=true):∃ L:List Int,Ev (fun k=>qckz.f k l) (L,true)/\Ev (fun k=>qcjz.f k l) (L,true)/\L.length<=6 /\ ∀ n∈L,i64 n:=by
 obtain ⟨hl,hmem⟩:=zak.1 hv
 obtain ⟨r,h1,h2,h3,h4⟩:=zft hv
 refine ⟨r,h4,qcjz.v (Ev.bind (zdN l) ?_),h1,h3.2⟩
 simp (disch:=omega) only [hv,S]
 have e:List.replicate l.length false=zbe l (-1):=by
  refine (List.eq_replicate_iff.2 ⟨zcw _ _,fun b hb=>?_⟩).symm
  obtain ⟨v,hvl,rfl⟩:=List.mem_map.1 hb
  have:=zdk.1 (hmem _ hvl)
  exact decide_eq_false (by omega)
 rw [e]
 exact zps hv r (-1) [] h2 (by simp; omega)
def beqN:List Nat->List Nat->Bool
 | [],[]=>true
 | a::l,b::m=>(a % 256 == b % 256) && beqN l m
 | _,_=>false
theorem zqZ:∀ a b:List Nat,beqN a b=decide (a.map UInt8.ofNat=b.map UInt8.ofNat)
 | [],[]=>rfl
 | [],_::_=>rfl
 | _::_,[]=>rfl
 | a::l,b::m=>by
  have h:(UInt8.ofNat a=UInt8.ofNat b) ↔ a % 256=b % 256:=by
   rw [<- UInt8.toNat_inj,UInt8.toNat_ofNat',UInt8.toNat_ofNat']
  unfold beqN
  rw [zqZ l m,List.map_cons,List.map_cons,Bool.eq_iff_iff,Bool.and_eq_true,beq_iff_eq,decide_eq_true_eq,decide_eq_true_eq,List.cons.injEq,h]
theorem sqn (a b:List Nat):seq (bs a) (bs b)=beqN a b:=by rw [zk8,zk8,zqx,zqZ]
def zb2:List (List Nat×List Nat):=[([119,97,108,107,101,114,115],[87]),([97,100,100],[87]),([114,105,110,103],[78]),([116,117,114,110],[78]),([100,114,111,112],[78]),([97,116],[78]),([115,104,111,119],[]),([112,97,105,114,115],[]),([102,105,114,115,116],[]),([108,101,97,100],[]),([108,97,115,116],[]),([115,116,97,114,116],[]),([109,101,101,116],[78,78]),([119,104,101,114,101],[78,78]),([97,114,111,117,110,100],[78,78]),([103,97,112],[78,78]),([112,108,97,99,101,115],[78,78]),([100,111,103],[67]),([114,117,110],[67]),([97,112,97,114,116],[67,78]),([109,101,97,110],[76]),([116,105,109,101],[76]),([110,101,101,100],[76,78,78]),([118,105,115,105,116,115],[86]),([103,117,105,100,101,115],[86]),([99,104,97,110,99,101],[78,78,78])]
theorem zaV {w:List UInt8} {b:List Nat} (h:¬ w=b.map UInt8.ofNat):seq (bL w) (bs b)=false:=by rw [zk8,zqx]; exact decide_eq_false h
theorem znH (w:List UInt8):(qfmz.f (bL w)=some (bs [],false)/\qgez.f (bL w)=some (bs [63])) \/
    ∃ e∈zb2,bL w=bs e.1/\qfmz.f (bs e.1)=some (bs e.2,true)/\qgez.f (bs e.1)=some (bs (e.2.map (· + 32))):=by
 by_cases h0:w=([119,97,108,107,101,114,115]:List Nat).map UInt8.ofNat
 · exact .inr ⟨([119,97,108,107,101,114,115],[87]),by unfold zb2; simp only [List.mem_cons,true_or,or_true],by rw [h0]; rfl,by unfold qfmz.f; simp only [sqn]; rfl,by unfold qgez.f; simp only [sqn]; rfl⟩
 by_cases h1:w=([97,100,100]:List Nat).map UInt8.ofNat
 · exact .inr ⟨([97,100,100],[87]),by unfold zb2; simp only [List.mem_cons,true_or,or_true],by rw [h1]; rfl,by unfold qfmz.f; simp only [sqn]; rfl,by unfold qgez.f; simp only [sqn]; rfl⟩
 by_cases h2:w=([114,105,110,103]:List Nat).map UInt8.ofNat
 · exact .inr ⟨([114,105,110,103],[78]),by unfold zb2; simp only [List.mem_cons,true_or,or_true],by rw [h2]; rfl,by unfold qfmz.f; simp only [sqn]; rfl,by unfold qgez.f; simp only [sqn]; rfl⟩
 by_cases h3:w=([116,117,114,110]:List Nat).map UInt8.ofNat
 · exact .inr ⟨([116,117,114,110],[78]),by unfold zb2; simp only [List.mem_cons,true_or,or_true],by rw [h3]; rfl,by unfold qfmz.f; simp only [sqn]; rfl,by unfold qgez.f; simp only [sqn]; rfl⟩
 by_cases h4:w=([100,114,111,112]:List Nat).map UInt8.ofNat
 · exact .inr ⟨([100,114,111,112],[78]),by unfold zb2; simp only [List.mem_cons,true_or,or_true],by rw [h4]; rfl,by unfold qfmz.f; simp only [sqn]; rfl,by unfold qgez.f; simp only [sqn]; rfl⟩
 by_cases h5:w=([97,116]:List Nat).map UInt8.ofNat
 · exact .inr ⟨([97,116],[78]),by unfold zb2; simp only [List.mem_cons,true_or,or_true],by rw [h5]; rfl,by unfold qfmz.f; simp only [sqn]; rfl,by unfold qgez.f; simp only [sqn]; rfl⟩
 by_cases h6:w=([115,104,111,119]:List Nat).map UInt8.ofNat
 · exact .inr ⟨([115,104,111,119],[]),by unfold zb2; simp only [List.mem_cons,true_or,or_true],by rw [h6]; rfl,by unfold qfmz.f; simp only [sqn]; rfl,by unfold qgez.f; simp only [sqn]; rfl⟩
 by_cases h7:w=([112,97,105,114,115]:List Nat).map UInt8.ofNat
 · exact .inr ⟨([112,97,105,114,115],[]),by unfold zb2; simp only [List.mem_cons,true_or,or_true],by rw [h7]; rfl,by unfold qfmz.f; simp only [sqn]; rfl,by unfold qgez.f; simp only [sqn]; rfl⟩
 by_cases h8:w=([102,105,114,115,116]:List Nat).map UInt8.ofNat
 · exact .inr ⟨([102,105,114,115,116],[]),by unfold zb2; simp only [List.mem_cons,true_or,or_true],by rw [h8]; rfl,by unfold qfmz.f; simp only [sqn]; rfl,by unfold qgez.f; simp only [sqn]; rfl⟩
 by_cases h9:w=([108,101,97,100]:List Nat).map UInt8.ofNat
 · exact .inr ⟨([108,101,97,100],[]),by unfold zb2; simp only [List.mem_cons,true_or,or_true],by rw [h9]; rfl,by unfold qfmz.f; simp only [sqn]; rfl,by unfold qgez.f; simp only [sqn]; rfl⟩
 by_cases h10:w=([108,97,115,116]:List Nat).map UInt8.ofNat
 · exact .inr ⟨([108,97,115,116],[]),by unfold zb2; simp only [List.mem_cons,true_or,or_true],by rw [h10]; rfl,by unfold qfmz.f; simp only [sqn]; rfl,by unfold qgez.f; simp only [sqn]; rfl⟩
 by_cases h11:w=([115,116,97,114,116]:List Nat).map UInt8.ofNat
 · exact .inr ⟨([115,116,97,114,116],[]),by unfold zb2; simp only [List.mem_cons,true_or,or_true],by rw [h11]; rfl,by unfold qfmz.f; simp only [sqn]; rfl,by unfold qgez.f; simp only [sqn]; rfl⟩
 by_cases h12:w=([109,101,101,116]:List Nat).map UInt8.ofNat
 · exact .inr ⟨([109,101,101,116],[78,78]),by unfold zb2; simp only [List.mem_cons,true_or,or_true],by rw [h12]; rfl,by unfold qfmz.f; simp only [sqn]; rfl,by unfold qgez.f; simp only [sqn]; rfl⟩
 by_cases h13:w=([119,104,101,114,101]:List Nat).map UInt8.ofNat
 · exact .inr ⟨([119,104,101,114,101],[78,78]),by unfold zb2; simp only [List.mem_cons,true_or,or_true],by rw [h13]; rfl,by unfold qfmz.f; simp only [sqn]; rfl,by unfold qgez.f; simp only [sqn]; rfl⟩
 by_cases h14:w=([97,114,111,117,110,100]:List Nat).map UInt8.ofNat
 · exact .inr ⟨([97,114,111,117,110,100],[78,78]),by unfold zb2; simp only [List.mem_cons,true_or,or_true],by rw [h14]; rfl,by unfold qfmz.f; simp only [sqn]; rfl,by unfold qgez.f; simp only [sqn]; rfl⟩
 by_cases h15:w=([103,97,112]:List Nat).map UInt8.ofNat
 · exact .inr ⟨([103,97,112],[78,78]),by unfold zb2; simp only [List.mem_cons,true_or,or_true],by rw [h15]; rfl,by unfold qfmz.f; simp only [sqn]; rfl,by unfold qgez.f; simp only [sqn]; rfl⟩
 by_cases h16:w=([112,108,97,99,101,115]:List Nat).map UInt8.ofNat
 · exact .inr ⟨([112,108,97,99,101,115],[78,78]),by unfold zb2; simp only [List.mem_cons,true_or,or_true],by rw [h16]; rfl,by unfold qfmz.f; simp only [sqn]; rfl,by unfold qgez.f; simp only [sqn]; rfl⟩
 by_cases h17:w=([100,111,103]:List Nat).map UInt8.ofNat
 · exact .inr ⟨([100,111,103],[67]),by unfold zb2; simp only [List.mem_cons,true_or,or_true],by rw [h17]; rfl,by unfold qfmz.f; simp only [sqn]; rfl,by unfold qgez.f; simp only [sqn]; rfl⟩
 by_cases h18:w=([114,117,110]:List Nat).map UInt8.ofNat
 · exact .inr ⟨([114,117,110],[67]),by unfold zb2; simp only [List.mem_cons,true_or,or_true],by rw [h18]; rfl,by unfold qfmz.f; simp only [sqn]; rfl,by unfold qgez.f; simp only [sqn]; rfl⟩
 by_cases h19:w=([97,112,97,114,116]:List Nat).map UInt8.ofNat
 · exact .inr ⟨([97,112,97,114,116],[67,78]),by unfold zb2; simp only [List.mem_cons,true_or,or_true],by rw [h19]; rfl,by unfold qfmz.f; simp only [sqn]; rfl,by unfold qgez.f; simp only [sqn]; rfl⟩
 by_cases h20:w=([109,101,97,110]:List Nat).map UInt8.ofNat
 · exact .inr ⟨([109,101,97,110],[76]),by unfold zb2; simp only [List.mem_cons,true_or,or_true],by rw [h20]; rfl,by unfold qfmz.f; simp only [sqn]; rfl,by unfold qgez.f; simp only [sqn]; rfl⟩
 by_cases h21:w=([116,105,109,101]:List Nat).map UInt8.ofNat
 · exact .inr ⟨([116,105,109,101],[76]),by unfold zb2; simp only [List.mem_cons,true_or,or_true],by rw [h21]; rfl,by unfold qfmz.f; simp only [sqn]; rfl,by unfold qgez.f; simp only [sqn]; rfl⟩
 by_cases h22:w=([110,101,101,100]:List Nat).map UInt8.ofNat
 · exact .inr ⟨([110,101,101,100],[76,78,78]),by unfold zb2; simp only [List.mem_cons,true_or,or_true],by rw [h22]; rfl,by unfold qfmz.f; simp only [sqn]; rfl,by unfold qgez.f; simp only [sqn]; rfl⟩
 by_cases h23:w=([118,105,115,105,116,115]:List Nat).map UInt8.ofNat
 · exact .inr ⟨([118,105,115,105,116,115],[86]),by unfold zb2; simp only [List.mem_cons,true_or,or_true],by rw [h23]; rfl,by unfold qfmz.f; simp only [sqn]; rfl,by unfold qgez.f; simp only [sqn]; rfl⟩
 by_cases h24:w=([103,117,105,100,101,115]:List Nat).map UInt8.ofNat
 · exact .inr ⟨([103,117,105,100,101,115],[86]),by unfold zb2; simp only [List.mem_cons,true_or,or_true],by rw [h24]; rfl,by unfold qfmz.f; simp only [sqn]; rfl,by unfold qgez.f; simp only [sqn]; rfl⟩
 by_cases h25:w=([99,104,97,110,99,101]:List Nat).map UInt8.ofNat
 · exact .inr ⟨([99,104,97,110,99,101],[78,78,78]),by unfold zb2; simp only [List.mem_cons,true_or,or_true],by rw [h25]; rfl,by unfold qfmz.f; simp only [sqn]; rfl,by unfold qgez.f; simp only [sqn]; rfl⟩
 refine .inl ⟨?_,?_⟩
 · unfold qfmz.f; simp only [zaV h0,zaV h1,zaV h2,zaV h3,zaV h4,zaV h5,zaV h6,zaV h7,zaV h8,zaV h9,zaV h10,zaV h11,zaV h12,zaV h13,zaV h14,zaV h15,zaV h16,zaV h17,zaV h18,zaV h19,zaV h20,zaV h21,zaV h22,zaV h23,zaV h24,zaV h25,Bool.false_eq_true,if_false]
 · unfold qgez.f; simp only [zaV h0,zaV h1,zaV h2,zaV h3,zaV h4,zaV h5,zaV h6,zaV h7,zaV h8,zaV h9,zaV h10,zaV h11,zaV h12,zaV h13,zaV h14,zaV h15,zaV h16,zaV h17,zaV h18,zaV h19,zaV h20,zaV h21,zaV h22,zaV h23,zaV h24,zaV h25,Bool.false_eq_true,if_false]
abbrev Ar:=List Wk×(Int×(Int×(Int×(Int×(List Wk×(List Wk×List Int))))))
def zaG (c:Nat) (w:List UInt8) (s:Ar):Option Ar :=
 if c=87 then (if (za2 w).2=true then some ((za2 w).1,s.2) else none)
 else if c=67 then (if (zat w).2=true then some (s.1,((zat w).1.1,((zat w).1.2.1,((zat w).1.2.2.1,((zat w).1.2.2.2,s.2.2.2.2.2))))) else none)
 else if c=76 then (if (zck w).2=true then some (s.1,(s.2.1,(s.2.2.1,(s.2.2.2.1,(s.2.2.2.2.1,((zck w).1,s.2.2.2.2.2.2)))))) else none)
 else if c=86 then (if (zbB w).2=true then some (s.1,(s.2.1,(s.2.2.1,(s.2.2.2.1,(s.2.2.2.2.1,(s.2.2.2.2.2.1,((zbB w).1,s.2.2.2.2.2.2.2))))))) else none)
 else if 0<=l1r w then some (s.1,(s.2.1,(s.2.2.1,(s.2.2.2.1,(s.2.2.2.2.1,(s.2.2.2.2.2.1,(s.2.2.2.2.2.2.1,s.2.2.2.2.2.2.2++[l1r w]))))))) else none
def zcQ:List Nat->List (List UInt8)->Ar->Option Ar
 | [],_,s=>some s
 | _::_,[],_=>none
 | c::cs,w::ws,s=>(zaG c w s).bind (zcQ cs ws)
theorem zou (w:List UInt8):(∃ n,0<=n/\n<=999999/\zd9 w=(n,true)/\l1r w=n) \/ (l1r w = -1/\((zd9 w).2=false \/ decide (0<=(zd9 w).1/\(zd9 w).1<=999999)=false)):=by
 rcases zdj w with ⟨n,h0,h1,hw,h2⟩ | ⟨h2,hn⟩
 · exact .inl ⟨n,h0,h1,by rw [hw]; exact zea (by omega) (by omega),h2⟩
 · refine .inr ⟨h2,?_⟩
   rcases zjl w with ⟨n,_,_,hw,h3⟩ | ⟨h3,_⟩
   · refine .inr (decide_eq_false fun h=>hn n ?_ ?_ hw)
     · rw [h3] at h; exact h.1
     · rw [h3] at h; exact h.2
   · exact .inl (by rw [h3])
theorem zlo (w:List UInt8) (s:Ar):zaG 78 w s=if 0<=l1r w then some (s.1,(s.2.1,(s.2.2.1,(s.2.2.2.1,(s.2.2.2.2.1,(s.2.2.2.2.2.1,(s.2.2.2.2.2.2.1,s.2.2.2.2.2.2.2++[l1r w]))))))) else none:=by
 unfold zaG
 rw [if_neg (by decide),if_neg (by decide),if_neg (by decide),if_neg (by decide)]
def zhQ (c:Nat):Prop:=c=87 \/ c=67 \/ c=76 \/ c=86 \/ c=78
theorem zmG {c:Nat} (hc:zhQ c) {w:List UInt8} (hw:w.length<=2000000) (s:Ar) (hs:s.2.2.2.2.2.2.2.length<=1000) :
    ∃ t:Ar,Ev (fun k=>qbyz.f k s.1 s.2.1 s.2.2.1 s.2.2.2.1 s.2.2.2.2.1 s.2.2.2.2.2.1 s.2.2.2.2.2.2.1 s.2.2.2.2.2.2.2 (c:Int) (bL w)) ((zaG c w s).isSome,t) /\ ∀ t',zaG c w s=some t'->t=t':=by
 rcases hc with rfl | rfl | rfl | rfl | rfl
 · refine ⟨((za2 w).1,s.2),qbyz.v ?_,?_⟩
   · simp (disch:=omega) only [S]
     refine Ev.bind (zfs hw) (zbK ?_)
     unfold zaG
     rw [if_pos rfl]
     cases (za2 w).2 <;> rfl
   · intro t' h
     unfold zaG at h
     rw [if_pos rfl] at h
     split at h
     · injection h
     · cases h
 · refine ⟨(s.1,((zat w).1.1,((zat w).1.2.1,((zat w).1.2.2.1,((zat w).1.2.2.2,s.2.2.2.2.2))))),qbyz.v ?_,?_⟩
   · simp (disch:=omega) only [S]
     refine Ev.bind (zgG hw) (zbK ?_)
     unfold zaG
     rw [if_neg (by decide),if_pos rfl]
     cases (zat w).2 <;> rfl
   · intro t' h
     unfold zaG at h
     rw [if_neg (by decide),if_pos rfl] at h
     split at h
     · injection h
     · cases h
 · refine ⟨(s.1,(s.2.1,(s.2.2.1,(s.2.2.2.1,(s.2.2.2.2.1,((zck w).1,s.2.2.2.2.2.2)))))),qbyz.v ?_,?_⟩
   · simp (disch:=omega) only [S]
     refine Ev.bind (zhf hw) (zbK ?_)
     unfold zaG
     rw [if_neg (by decide),if_neg (by decide),if_pos rfl]
     cases (zck w).2 <;> rfl
   · intro t' h
     unfold zaG at h
     rw [if_neg (by decide),if_neg (by decide),if_pos rfl] at h
     split at h
     · injection h
     · cases h
 · refine ⟨(s.1,(s.2.1,(s.2.2.1,(s.2.2.2.1,(s.2.2.2.2.1,(s.2.2.2.2.2.1,((zbB w).1,s.2.2.2.2.2.2.2))))))),qbyz.v ?_,?_⟩
   · simp (disch:=omega) only [S]
     refine Ev.bind (zf1 hw) (zbK ?_)
     unfold zaG
     rw [if_neg (by decide),if_neg (by decide),if_neg (by decide),if_pos rfl]
     cases (zbB w).2 <;> rfl
   · intro t' h
     unfold zaG at h
     rw [if_neg (by decide),if_neg (by decide),if_neg (by decide),if_pos rfl] at h
     split at h
     · injection h
     · cases h
 · refine ⟨(s.1,(s.2.1,(s.2.2.1,(s.2.2.2.1,(s.2.2.2.2.1,(s.2.2.2.2.2.1,(s.2.2.2.2.2.2.1,s.2.2.2.2.2.2.2++[(zd9 w).1]))))))),qbyz.v ?_,?_⟩
   · simp (disch:=omega) only [S,zdB hw,zas]
     rw [zlo]
     rcases zou w with ⟨n,h0,h1,hn,hr⟩ | ⟨hr,hn⟩
     · rw [hn,hr,if_pos h0]
       refine zbK ?_
       rw [show decide (0<=n/\n<=999999)=true from decide_eq_true ⟨h0,h1⟩]
       rfl
     · rw [hr]
       rcases hn with hn | hn
       · simp only [hn,Bool.false_eq_true,if_false]
         exact zbK rfl
       · simp only [hn]
         cases (zd9 w).2
         · exact zbK rfl
         · exact zbK rfl
   · intro t' h
     rw [zlo] at h
     rcases zou w with ⟨n,h0,h1,hn,hr⟩ | ⟨hr,hn⟩
     · rw [hr,if_pos h0] at h
       rw [hn]
       injection h
     · rw [hr] at h
       simp at h
abbrev zur:=BA×((List Wk×(Int×Ar))×Bool)
noncomputable abbrev zkD (k:Fu) (X:List BA) (Y:BA) (Z:List BA) (m i:Int) (D:List Wk) (n:Int) (s:Ar):Option zur:=qhgz.l0 k X Y Z m i 0 0 0 0 0 D n s.1 s.2.1 s.2.2.1 s.2.2.2.1 s.2.2.2.2.1 s.2.2.2.2.2.1 s.2.2.2.2.2.2.1 s.2.2.2.2.2.2.2
noncomputable abbrev zmH (k:Fu) (X:List BA) (Y:BA) (Z:List BA) (m i:Int) (D:List Wk) (n:Int) (s:Ar):=qfaz.l0 k X Y Z m i D n 0 s.1 s.2.1 s.2.2.1 s.2.2.2.1 s.2.2.2.2.1 s.2.2.2.2.2.1 s.2.2.2.2.2.2.1 s.2.2.2.2.2.2.2
theorem zq0 {fs:List Nat} {i:Nat} (h:i < fs.length):bat (bs fs) (i:Int)=((fs.getD i 0 % 256:Nat):Int):=by
 rw [zk8,zms (by simpa using h)]
 have e:(fs.map UInt8.ofNat).getD i 0=UInt8.ofNat (fs.getD i 0):=by simp [h]
 rw [e,UInt8.toNat_ofNat']
theorem zf8 (fs:List Nat):(bs fs).size=fs.length:=by rw [zk8,zai,List.length_map]
theorem zq1 {X:List BA} {fs:List Nat} {ws:List (List UInt8)} (hfw:fs.length=ws.length) (hl:ws.length<=1000) (hw:∀ w∈ws,w.length<=2000000) {D:List Wk} {n:Int} (s:Ar) (hs:s.2.2.2.2.2.2.2.length<=1000) {i:Nat} (hi:i < ws.length) (hc:zhQ (fs.getD i 0)) :
    (zaG (fs.getD i 0) (ws.getD i []) s=none->∃ z,Ev (fun k=>zkD k X (bs (fs.map (· + 32))) (ws.map bL) (ws.length:Int) (i:Int) D n s) (bs [],(z,false))) /\
    (∀ t,zaG (fs.getD i 0) (ws.getD i []) s=some t->∀ r,Ev (fun k=>zkD k X (bs (fs.map (· + 32))) (ws.map bL) (ws.length:Int) ((i+1:Nat):Int) D n t) r->Ev (fun k=>zkD k X (bs (fs.map (· + 32))) (ws.map bL) (ws.length:Int) (i:Int) D n s) r):=by
 have hwi:=hw _ (zaf (z:=[]) hi)
 have hb:bat (bs (fs.map (· + 32))) (i:Int)=(((fs.getD i 0+32) % 256:Nat):Int):=by
  rw [zq0 (by simp; omega)]
  have e:(fs.map (· + 32)).getD i 0=fs.getD i 0+32:=by
   have:i < fs.length:=by omega
   simp [this]
  rw [e]
 have hz:=zf8 (fs.map (· + 32))
 rw [List.length_map] at hz
 have hml:(ws.map bL).length=ws.length:=List.length_map _
 have hg:=zfX ws i
 generalize fs.getD i 0=c at *
 generalize ws.getD i []=w at *
 rcases hc with rfl | rfl | rfl | rfl | rfl
 · have hE:=zjs hwi
   cases hq:(za2 w).2 with
   | true =>
    refine ⟨fun h=>by unfold zaG at h; simp [hq] at h,fun t h r hr=>qhgz.v0 ?_⟩
    have ht:t=((za2 w).1,s.2):=by unfold zaG at h; simp [hq] at h; exact h.symm
    subst ht
    simp (disch:=omega) only [S,hb,hg]
    refine Ev.bind hE ?_
    simp (disch:=omega) only [S,hq]
    exact hr
   | false =>
    refine ⟨fun _=>⟨(D,(n,((za2 w).1,s.2))),qhgz.v0 ?_⟩,fun t h=>by unfold zaG at h; simp [hq] at h⟩
    simp (disch:=omega) only [S,hb,hg]
    refine Ev.bind hE ?_
    simp (disch:=omega) only [S,hq]
    exact Ev.now _
 · have hE:=zjv hwi
   cases hq:(zat w).2 with
   | true =>
    refine ⟨fun h=>by unfold zaG at h; simp [hq] at h,fun t h r hr=>qhgz.v0 ?_⟩
    have ht:t=(s.1,((zat w).1.1,((zat w).1.2.1,((zat w).1.2.2.1,((zat w).1.2.2.2,s.2.2.2.2.2))))):=by unfold zaG at h; simp [hq] at h; exact h.symm
    subst ht
    simp (disch:=omega) only [S,hb,hg]
    refine Ev.bind hE ?_
    simp (disch:=omega) only [S,hq]
    exact hr
   | false =>
    refine ⟨fun _=>⟨(D,(n,(s.1,((zat w).1.1,((zat w).1.2.1,((zat w).1.2.2.1,((zat w).1.2.2.2,s.2.2.2.2.2))))))),qhgz.v0 ?_⟩,fun t h=>by unfold zaG at h; simp [hq] at h⟩
    simp (disch:=omega) only [S,hb,hg]
    refine Ev.bind hE ?_
    simp (disch:=omega) only [S,hq]
    exact Ev.now _
 · have hE:=zjt hwi
   cases hq:(zck w).2 with
   | true =>
    refine ⟨fun h=>by unfold zaG at h; simp [hq] at h,fun t h r hr=>qhgz.v0 ?_⟩
    have ht:t=(s.1,(s.2.1,(s.2.2.1,(s.2.2.2.1,(s.2.2.2.2.1,((zck w).1,s.2.2.2.2.2.2)))))):=by unfold zaG at h; simp [hq] at h; exact h.symm
    subst ht
    simp (disch:=omega) only [S,hb,hg]
    refine Ev.bind hE ?_
    simp (disch:=omega) only [S,hq]
    exact hr
   | false =>
    refine ⟨fun _=>⟨(D,(n,(s.1,(s.2.1,(s.2.2.1,(s.2.2.2.1,(s.2.2.2.2.1,((zck w).1,s.2.2.2.2.2.2)))))))),qhgz.v0 ?_⟩,fun t h=>by unfold zaG at h; simp [hq] at h⟩
    simp (disch:=omega) only [S,hb,hg]
    refine Ev.bind hE ?_
    simp (disch:=omega) only [S,hq]
    exact Ev.now _
 · have hE:=zju hwi
   cases hq:(zbB w).2 with
   | true =>
    refine ⟨fun h=>by unfold zaG at h; simp [hq] at h,fun t h r hr=>qhgz.v0 ?_⟩
    have ht:t=(s.1,(s.2.1,(s.2.2.1,(s.2.2.2.1,(s.2.2.2.2.1,(s.2.2.2.2.2.1,((zbB w).1,s.2.2.2.2.2.2.2))))))):=by unfold zaG at h; simp [hq] at h; exact h.symm
    subst ht
    simp (disch:=omega) only [S,hb,hg]
    refine Ev.bind hE ?_
    simp (disch:=omega) only [S,hq]
    exact hr
   | false =>
    refine ⟨fun _=>⟨(D,(n,(s.1,(s.2.1,(s.2.2.1,(s.2.2.2.1,(s.2.2.2.2.1,(s.2.2.2.2.2.1,((zbB w).1,s.2.2.2.2.2.2.2))))))))),qhgz.v0 ?_⟩,fun t h=>by unfold zaG at h; simp [hq] at h⟩
    simp (disch:=omega) only [S,hb,hg]
    refine Ev.bind hE ?_
    simp (disch:=omega) only [S,hq]
    exact Ev.now _
 · have hE:=zaL hwi
   by_cases hq:0<=l1r w
   · refine ⟨fun h=>by unfold zaG at h; simp [hq] at h,fun t h r hr=>qhgz.v0 ?_⟩
     have ht:t=(s.1,(s.2.1,(s.2.2.1,(s.2.2.2.1,(s.2.2.2.2.1,(s.2.2.2.2.2.1,(s.2.2.2.2.2.2.1,s.2.2.2.2.2.2.2++[l1r w]))))))):=by unfold zaG at h; simp [hq] at h; exact h.symm
     subst ht
     simp (disch:=omega) only [S,hb,hg]
     refine Ev.bind hE ?_
     simp (disch:=omega) only [S]
     exact hr
   · refine ⟨fun _=>⟨(D,(n,(s.1,(s.2.1,(s.2.2.1,(s.2.2.2.1,(s.2.2.2.2.1,(s.2.2.2.2.2.1,(s.2.2.2.2.2.2.1,s.2.2.2.2.2.2.2++[l1r w]))))))))),qhgz.v0 ?_⟩,fun t h=>by unfold zaG at h; simp [hq] at h⟩
     simp (disch:=omega) only [S,hb,hg]
     refine Ev.bind hE ?_
     simp (disch:=omega) only [S]
     exact Ev.now _
def zpt:BA:=bs [119,104,97,116]
def noB:BA:=bs [110,111]
abbrev ChR:=(List Wk×Int)×(BA×(Bool×Ar))
def fin (D:List Wk) (n:Int) (R:ChR):(List Wk×Int)×BA:=if R.2.2.1=true then (R.1,R.2.1) else ((D,n),noB)
theorem zmI {w0:List UInt8} {fs:List Nat} {ws:List (List UInt8)} (hf:∀ c∈fs,zhQ c) (hfw:fs.length=ws.length) (hl:ws.length<=1000) (hw:∀ w∈ws,w.length<=2000000) {D:List Wk} {n:Int} :
    ∀ (d i:Nat),i+d=ws.length->∀ s:Ar,s.2.2.2.2.2.2.2.length<=i ->
     (zcQ (fs.drop i) (ws.drop i) s=none->Ev (fun k=>zmH k (bL w0::ws.map bL) (bs fs) (ws.map bL) (ws.length:Int) (i:Int) D n s) ((D,n),zpt) /\
      ∃ z,Ev (fun k=>zkD k (bL w0::ws.map bL) (bs (fs.map (· + 32))) (ws.map bL) (ws.length:Int) (i:Int) D n s) (bs [],(z,false))) /\
     (∀ t,zcQ (fs.drop i) (ws.drop i) s=some t ->
      (∀ R:ChR,Ev (fun k=>qdmz.f k D n (bL w0) t.1 t.2.1 t.2.2.1 t.2.2.2.1 t.2.2.2.2.1 t.2.2.2.2.2.1 t.2.2.2.2.2.2.1 t.2.2.2.2.2.2.2) R->Ev (fun k=>zmH k (bL w0::ws.map bL) (bs fs) (ws.map bL) (ws.length:Int) (i:Int) D n s) (fin D n R)) /\
      Ev (fun k=>zkD k (bL w0::ws.map bL) (bs (fs.map (· + 32))) (ws.map bL) (ws.length:Int) (i:Int) D n s) (bL w0,((D,(n,t)),true))):=by
 have hX:∀ {β:Type} (x:Option β),gd (0 < (((bL w0::ws.map bL).length:Nat):Int)) x=x:=fun x=>S.1 (by rw [List.length_cons]; omega)
 intro d
 induction d with
 | zero =>
  intro i hi s hs
  rw [List.drop_eq_nil_of_le (by omega)]
  refine ⟨fun h=>by simp [zcQ] at h,fun t ht=>?_⟩
  have ht:t=s:=by simp [zcQ] at ht; exact ht.symm
  subst ht
  refine ⟨fun R hR=>qfaz.v0 ?_,qhgz.v0 ?_⟩
  · simp (disch:=omega) only [S,hX,rd0]
    refine Ev.bind hR ?_
    unfold fin
    cases R.2.2.1
    · exact Ev.now _
    · exact Ev.now _
  · simp (disch:=omega) only [S,hX,rd0]
    exact Ev.now _
 | succ d ih =>
  intro i hi s hs
  have hif:i < fs.length:=by omega
  have hc:=hf _ (zaf (z:=0) hif)
  have hwi:=hw _ (zaf (z:=[]) (show i < ws.length by omega))
  obtain ⟨p1,p2⟩:=zq1 (X:=bL w0::ws.map bL) (D:=D) (n:=n) hfw hl hw s (by omega) (show i < ws.length by omega) hc
  obtain ⟨t0,q1,q2⟩:=zmG hc hwi s (by omega)
  have hb:bat (bs fs) (i:Int)=((fs.getD i 0:Nat):Int):=by
   rw [zq0 hif]
   rcases hc with e | e | e | e | e <;> rw [e]
  have hz:=zf8 fs
  have hml:(ws.map bL).length=ws.length:=List.length_map _
  rw [zaF 0 hif,zaF [] (show i < ws.length by omega)]
  cases hA:zaG (fs.getD i 0) (ws.getD i []) s with
  | none =>
   refine ⟨fun _=>⟨qfaz.v0 ?_,p1 hA⟩,fun t ht=>by
    have h':(zaG (fs.getD i 0) (ws.getD i []) s).bind (zcQ (fs.drop (i+1)) (ws.drop (i+1)))=some t:=ht
    rw [hA] at h'; cases h'⟩
   rw [hA] at q1
   simp (disch:=omega) only [S,hb,zfX]
   refine Ev.bind q1 ?_
   exact Ev.now _
  | some t1 =>
   rw [hA] at q1
   have e:=q2 t1 hA
   subst e
   have hlen:t0.2.2.2.2.2.2.2.length<=i+1:=by
    unfold zaG at hA
    split at hA
    · split at hA
      · injection hA with hA; subst hA; exact Nat.le_succ_of_le hs
      · cases hA
    · split at hA
      · split at hA
        · injection hA with hA; subst hA; exact Nat.le_succ_of_le hs
        · cases hA
      · split at hA
        · split at hA
          · injection hA with hA; subst hA; exact Nat.le_succ_of_le hs
          · cases hA
        · split at hA
          · split at hA
            · injection hA with hA; subst hA; exact Nat.le_succ_of_le hs
            · cases hA
          · split at hA
            · injection hA with hA; subst hA; simp; omega
            · cases hA
   obtain ⟨i1,i2⟩:=ih (i+1) (by omega) t0 hlen
   have step:∀ r,Ev (fun k=>zmH k (bL w0::ws.map bL) (bs fs) (ws.map bL) (ws.length:Int) ((i+1:Nat):Int) D n t0) r->Ev (fun k=>zmH k (bL w0::ws.map bL) (bs fs) (ws.map bL) (ws.length:Int) (i:Int) D n s) r:=by
    intro r hr
    refine qfaz.v0 ?_
    simp (disch:=omega) only [S,hb,zfX]
    refine Ev.bind q1 ?_
    simp (disch:=omega) only [S,Option.isSome_some]
    exact hr
   have hT:zcQ (fs.getD i 0::fs.drop (i+1)) (ws.getD i []::ws.drop (i+1)) s=zcQ (fs.drop (i+1)) (ws.drop (i+1)) t0:=by
    show (zaG _ _ s).bind _=_
    rw [hA]; rfl
   rw [hT]
   refine ⟨fun h=>?_,fun t h=>?_⟩
   · obtain ⟨a,z,b⟩:=i1 h
     exact ⟨step _ a,z,p2 t0 hA _ b⟩
   · obtain ⟨a,b⟩:=i2 t h
     exact ⟨fun R hR=>step _ (a R hR),p2 t0 hA _ b⟩
theorem BQ:(∀ a b:List Nat,seq (bs a) (bs b)=beqN a b)/\(beqN [] []=true)/\(∀ (a b:Nat) (l m:List Nat),beqN (a::l) (b::m)=((a % 256 == b % 256) && beqN l m))/\(∀ (b:Nat) (m:List Nat),beqN [] (b::m)=false)/\(∀ (a:Nat) (l:List Nat),beqN (a::l) []=false)/\(∀ b:Bool,(true && b)=b)/\(∀ b:Bool,(false && b)=false) :=
 ⟨sqn,rfl,fun _ _ _ _=>rfl,fun _ _=>rfl,fun _ _=>rfl,fun _=>rfl,fun _=>rfl⟩
theorem LN:(∀ {α:Type} (a:α) (l:List α),(a::l).length=l.length+1)/\(∀ {α:Type},([]:List α).length=0)/\(∀ {α:Type} (z a:α) (l:List α),rd z (a::l) 0=a)/\(∀ {α:Type} (z a b:α) (l:List α),rd z (a::b::l) 1=b)/\(∀ {α:Type} (z a b c:α) (l:List α),rd z (a::b::c::l) 2=c)/\(∀ {α:Type} (l:List α),[]++l=l) :=
 ⟨fun _ _=>rfl,rfl,fun _ _ _=>rfl,fun _ _ _ _=>rfl,fun _ _ _ _ _=>rfl,fun _=>rfl⟩
noncomputable abbrev chgF (k:Fu) (D:List Wk) (n:Int) (w:BA) (t:Ar):Option ChR:=qdmz.f k D n w t.1 t.2.1 t.2.2.1 t.2.2.2.1 t.2.2.2.2.1 t.2.2.2.2.2.1 t.2.2.2.2.2.2.1 t.2.2.2.2.2.2.2
abbrev StR:=BA×(List Wk×(Int×Ar))
noncomputable abbrev movF (k:Fu) (D:List Wk) (n:Int) (t:Ar) (w:BA):Option StR:=qchz.f k D n t.1 t.2.1 t.2.2.1 t.2.2.2.1 t.2.2.2.2.1 t.2.2.2.2.2.1 t.2.2.2.2.2.2.1 t.2.2.2.2.2.2.2 w
noncomputable abbrev asdF (k:Fu) (D:List Wk) (n:Int) (t:Ar) (w:BA):Option StR:=qcgz.f k D n t.1 t.2.1 t.2.2.1 t.2.2.2.1 t.2.2.2.2.1 t.2.2.2.2.2.1 t.2.2.2.2.2.2.1 t.2.2.2.2.2.2.2 w
noncomputable abbrev askF (k:Fu) (D:List Wk) (n:Int) (w:BA) (t:Ar):Option (BA×(Bool×Ar)):=qfkz.f k D n w t.1 t.2.1 t.2.2.1 t.2.2.2.1 t.2.2.2.2.1 t.2.2.2.2.2.1 t.2.2.2.2.2.2.1 t.2.2.2.2.2.2.2
def Kept (D:List Wk) (n:Int) (r:(List Wk×Int)×BA):Prop:=r.1=(D,n) \/ ∃ X,zam 8 wOk X=true/\r.2=bL (wkT X)
def Act (w:BA) (t:Ar) (D:List Wk) (n:Int):Prop:=∃ r:(List Wk×Int)×BA,dOk r.1.1 r.1.2=true/\Kept D n r/\(∃ R:ChR,Ev (fun k=>chgF k D n w t) R/\r=fin D n R) /\
 ∀ line,Ev (fun k=>qhgz.f k D n line) (w,((D,(n,t)),true))->Ev (fun k=>qhez.f k D n line) r
theorem zar {D:List Wk} {n:Int}:dOk D n=true ↔ zam 8 wOk D=true/\(1<=n/\n<=1000):=by unfold dOk; rw [Bool.and_eq_true,decide_eq_true_eq]
theorem zhR (X:List Wk) (n:Int) (t:Ar):Ev (fun k=>(qglz.f k X n).bind fun t0=>if (!t0) then some ((X,n),(bs [],(false,t))) else (qcwz.f k X).bind fun t1=>some ((X,n),(t1.1,(t1.2,t)))) (if dOk X n=true then ((X,n),(bL (wkT X),(true,t))) else ((X,n),(bs [],(false,t)))):=by
 refine Ev.bind (zcG X n) ?_
 cases h:dOk X n with
 | false=>simp only [S]; exact Ev.now _
 | true =>
  simp only [S]
  refine Ev.bind (zdm X) ?_
  rw [if_pos (zar.1 h).1]
  exact Ev.now _
theorem zov (D X:List Wk) (n:Int) (t:Ar):Ev (fun k=>qeaz.f k D n t.1 t.2.1 t.2.2.1 t.2.2.2.1 t.2.2.2.2.1 t.2.2.2.2.2.1 t.2.2.2.2.2.2.1 t.2.2.2.2.2.2.2 X) (if zam 8 wOk X=true then (bL (wkT X),(X,(n,t))) else (noB,(D,(n,t)))):=by
 refine qeaz.v (Ev.bind (zbc X) ?_)
 cases h:zam 8 wOk X with
 | false=>simp only [S]; exact Ev.now _
 | true =>
  simp only [S]
  exact Ev.bind (zcI h) (Ev.now _)
theorem zda {w:BA} {t:Ar} {D X:List Wk} {n m:Int} (hD:dOk D n=true)
    (h1:Ev (fun k=>chgF k D n w t) (if dOk X m=true then ((X,m),(bL (wkT X),(true,t))) else ((X,m),(bs [],(false,t)))))
    (h2:∃ Z:StR,Ev (fun k=>movF k D n t w) Z/\((Z.2.1,Z.2.2.1),Z.1)=(if dOk X m=true then ((X,m),bL (wkT X)) else ((D,n),noB)))
    (h3:∀ Z:StR,Ev (fun k=>movF k D n t w) Z->∀ line,Ev (fun k=>qhgz.f k D n line) (w,((D,(n,t)),true))->Ev (fun k=>qhez.f k D n line) ((Z.2.1,Z.2.2.1),Z.1)):Act w t D n:=by
 obtain ⟨Z,z1,z2⟩:=h2
 refine ⟨if dOk X m=true then ((X,m),bL (wkT X)) else ((D,n),noB),?_,?_,⟨_,h1,?_⟩,fun line hl=>by rw [<- z2]; exact h3 Z z1 line hl⟩
 · split
   · assumption
   · exact hD
 · split
   · exact .inr ⟨X,(zar.1 (by assumption)).1,rfl⟩
   · exact .inl rfl
 · unfold fin
   split <;> rfl
theorem zsL {w:BA} {t:Ar} {D:List Wk} {n:Int} (hD:dOk D n=true) {R:ChR} (h1:Ev (fun k=>chgF k D n w t) R) (hR:R.2.2.1=false) (h3:∀ line,Ev (fun k=>qhgz.f k D n line) (w,((D,(n,t)),true))->Ev (fun k=>qhez.f k D n line) ((D,n),noB)):Act w t D n :=
 ⟨((D,n),noB),hD,.inl rfl,⟨R,h1,by unfold fin; rw [hR]; rfl⟩,h3⟩
theorem zbo {w:BA} {t:Ar} {D:List Wk} {n:Int} (hD:dOk D n=true)
    (h1:∀ r,Ev (fun k=>askF k D n w t) r->Ev (fun k=>chgF k D n w t) ((D,n),r))
    (h2:∀ Z:StR,Ev (fun k=>asdF k D n t w) Z->∀ line,Ev (fun k=>qhgz.f k D n line) (w,((D,(n,t)),true))->Ev (fun k=>qhez.f k D n line) ((D,n),Z.1))
    (h3:∃ (T:BA) (ok:Bool),Ev (fun k=>askF k D n w t) (T,(ok,t))/\Ev (fun k=>asdF k D n t w) ((if ok=true then T else noB),(D,(n,t)))):Act w t D n:=by
 obtain ⟨T,ok,a,b⟩:=h3
 refine ⟨((D,n),if ok=true then T else noB),hD,.inl rfl,⟨_,h1 _ a,?_⟩,h2 _ b⟩
 unfold fin
 cases ok <;> rfl
abbrev Ans (F:Fu->Option (BA×(Bool×Ar))) (G:Fu->Option StR) (D:List Wk) (n:Int) (t:Ar):Prop:=∃ (T:BA) (ok:Bool),Ev F (T,(ok,t))/\Ev G ((if ok=true then T else noB),(D,(n,t)))
theorem ze7 {F G:Fu->Option R3} (D:List Wk) (n:Int) (t:Ar) (h:Same3 F G):Ans (fun k=>(F k).bind fun t0=>(qikz.f k t0.1 t0.2.1 t0.2.2).bind fun t1=>some (t1.1,(t1.2,t))) (fun k=>(G k).bind fun t0=>(qhiz.f k t0.1 t0.2.1 t0.2.2).bind fun t1=>some (t1,(D,(n,t)))) D n t:=by
 obtain ⟨r,a,b,c,d⟩:=h
 refine ⟨bL (numT 47 [r.1,r.2.1]),r.2.2,Ev.bind a (Ev.bind (zcO c d _) (Ev.now _)),Ev.bind b (Ev.bind (zdR c d _) (zbK ?_))⟩
 unfold zbu
 cases r.2.2 <;> rfl
abbrev Ans2 (F:Fu->Option (BA×Bool)) (G:Fu->Option StR) (D:List Wk) (n:Int) (t:Ar):Prop:=∃ (T:BA) (ok:Bool),Ev F (T,ok)/\Ev G ((if ok=true then T else noB),(D,(n,t)))
theorem zil {F G:Fu->Option R3} (D:List Wk) (n:Int) (t:Ar) (h:Same3 F G):Ans2 (fun k=>(F k).bind fun t0=>(qikz.f k t0.1 t0.2.1 t0.2.2).bind fun t1=>some t1) (fun k=>(G k).bind fun t0=>(qhiz.f k t0.1 t0.2.1 t0.2.2).bind fun t1=>some (t1,(D,(n,t)))) D n t:=by
 obtain ⟨r,a,b,c,d⟩:=h
 refine ⟨bL (numT 47 [r.1,r.2.1]),r.2.2,Ev.bind a (Ev.bind (zcO c d _) (Ev.now _)),Ev.bind b (Ev.bind (zdR c d _) (zbK ?_))⟩
 unfold zbu
 cases r.2.2 <;> rfl
theorem zlp {F G:Fu->Option (List Int×Bool)} {L:List Int} (D:List Wk) (n:Int) (t:Ar) (a:Ev F (L,true)) (b:Ev G (L,true)) (hl:L.length<=1000000) (hL:∀ x∈L,i64 x):Ans (fun k=>(F k).bind fun t0=>(qfwz.f k t0.1 t0.2).bind fun t1=>some (t1.1,(t1.2,t))) (fun k=>(G k).bind fun t0=>(qgyz.f k t0.1 t0.2).bind fun t1=>some (t1,(D,(n,t)))) D n t :=
 ⟨bL (zny L),true,Ev.bind a (Ev.bind (ze2 hl hL _) (Ev.now _)),Ev.bind b (Ev.bind (zdS hl hL _) (Ev.now _))⟩
theorem zkE (c1 c2:BA) (b:Bool):Ev (fun k=>qifz.f k [] c1 c2 b) (bs [45],b):=by
 refine qifz.v ?_
 simp (disch:=omega) only [S,LN]
 exact Ev.now _
theorem ztC {F G:Fu->Option (List (List Int)×Bool)} {L:List (List Int)} (D:List Wk) (n:Int) (t:Ar) (a:Ev F (L,true)) (b:Ev G (L,true)) (hl:L.length<=1000) (hL:zf4 L):Ans (fun k=>(F k).bind fun t0=>(qifz.f k t0.1 (bs [44]) (bs [32]) t0.2).bind fun t1=>some (t1.1,(t1.2,t))) (fun k=>(G k).bind fun t0=>(qgwz.f k t0.1 t0.2).bind fun t1=>some (t1,(D,(n,t)))) D n t:=by
 by_cases h0:L=[]
 · subst h0
   refine ⟨bs [45],true,Ev.bind a (Ev.bind (zkE _ _ _) (Ev.now _)),Ev.bind b (Ev.bind (v:=bs [45]) (qgwz.v ?_) (Ev.now _))⟩
   simp (disch:=omega) only [S,LN]
   exact Ev.now _
 · have h0':0 < L.length:=List.length_pos_iff.2 h0
   refine ⟨bL (znz 44 32 L),true,Ev.bind a (Ev.bind (zgI h0' hl (fun r hr=>by have:=hL r hr; exact ⟨by omega,this.2⟩) _) (Ev.now _)),Ev.bind b (Ev.bind (zjY h0' hl (fun r hr=>by have:=hL r hr; exact ⟨by omega,this.2⟩)) (Ev.now _))⟩
theorem zq2 {F G:Fu->Option (List (List Int)×Bool)} {r:List (List Int)×Bool} (D:List Wk) (n:Int) (t:Ar) (a:Ev F r) (b:Ev G r) (hL:zf4 r.1) (hl:r.1.length<=1000) (h1:r.2=true->0 < r.1.length) (h2:r.2=false->r.1=[]):Ans2 (fun k=>(F k).bind fun t0=>(qifz.f k t0.1 (bs [47]) (bs [44]) t0.2).bind fun t1=>some t1) (fun k=>(G k).bind fun t0=>(qfxz.f k t0.1 t0.2).bind fun t1=>some (t1,(D,(n,t)))) D n t:=by
 obtain ⟨L,b0⟩:=r
 cases b0 with
 | false =>
  have:L=[]:=h2 rfl
  subst this
  refine ⟨bs [45],false,Ev.bind a (Ev.bind (zkE _ _ _) (Ev.now _)),Ev.bind b (Ev.bind (v:=noB) (qfxz.v ?_) (Ev.now _))⟩
  simp only [S]
  exact Ev.now _
 | true =>
  refine ⟨bL (znz 47 44 L),true,Ev.bind a (Ev.bind (zgI (h1 rfl) hl (fun r hr=>by have:=hL r hr; exact ⟨by omega,this.2⟩) _) (Ev.now _)),Ev.bind b (Ev.bind (zjw hl hL) (Ev.now _))⟩
section
variable {D:List Wk} {n:Int} (hD:dOk D n=true)
include hD
theorem dlen:1<=D.length/\D.length<=8:=(zak.1 (zar.1 hD).1).1
theorem dmem:∀ w∈D,wOk w=true:=(zak.1 (zar.1 hD).1).2
theorem znI {X:List Wk} (hX:zam 8 wOk X=true):Act (bs [119,97,108,107,101,114,115]) (X,(0,(0,(0,(0,([],([],[]))))))) D n:=by
 have hl:=dlen hD
 have hn:=(zar.1 hD).2
 have e:dOk X n=true:=zar.2 ⟨hX,hn⟩
 refine zda (X:=X) (m:=n) hD (qdmz.v (by simp (disch:=omega) only [↓reduceIte,BQ,Nat.reduceMod,Nat.reduceBEq,LN,S]; exact zhR _ _ _)) ⟨_,qchz.v (by simp (disch:=omega) only [↓reduceIte,BQ,Nat.reduceMod,Nat.reduceBEq,LN,S]; exact Ev.bind (zov D X n (X,(0,(0,(0,(0,([],([],[])))))))) (Ev.now _)),?_⟩ (fun Z h line hr=>qhez.v (Ev.bind hr (by simp (disch:=omega) only [↓reduceIte,BQ,Nat.reduceMod,Nat.reduceBEq,LN,S]; exact Ev.bind h (Ev.now _))))
 rw [if_pos hX,if_pos e]
theorem zq3 (X:List Wk) (hX:X.length<=1000):Ev (fun k=>qbez.f k [D,X]) (D++X):=by
 have hl:=dlen hD
 have w1:W (0+1)=1:=by decide
 have w2:W (1+1)=2:=by decide
 have x0:∀ {β:Type} (x:Option β),ix 0 [D,X] x=x:=fun x=>S.2.1 (by decide) (show (0:Int) < 2 by decide)
 have x1:∀ {β:Type} (x:Option β),ix 1 [D,X] x=x:=fun x=>S.2.1 (by decide) (show (1:Int) < 2 by decide)
 have hln:ln [D,X]=2:=rfl
 refine qbez.v (qbez.v0 ?_)
 simp only [w1,x0,hln,LN]
 simp (disch:=omega) only [S]
 refine qbez.v0 ?_
 simp only [w2,x1,LN]
 simp (disch:=omega) only [S]
 refine qbez.v0 ?_
 simp only [hln]
 simp (disch:=omega) only [S]
 refine qbez.v1 ?_
 simp only [w1,x0,LN]
 simp (disch:=omega) only [S,LN]
 refine qbez.v1 ?_
 simp only [w2,x1,LN]
 simp (disch:=omega) only [S]
 refine qbez.v1 ?_
 simp (disch:=omega) only [S]
 exact Ev.now _
theorem ztD {X:List Wk} (hX:zam 8 wOk X=true):Act (bs [97,100,100]) (X,(0,(0,(0,(0,([],([],[]))))))) D n:=by
 have hl:=dlen hD
 have hn:=(zar.1 hD).2
 have hx:=(zak.1 hX).1
 have e:dOk (D++X) n=zam 8 wOk (D++X):=by unfold dOk; rw [decide_eq_true hn,Bool.and_true]
 refine zda (X:=D++X) (m:=n) hD (qdmz.v (by simp (disch:=omega) only [↓reduceIte,BQ,Nat.reduceMod,Nat.reduceBEq,LN,S]; exact Ev.bind (zq3 hD X (by omega)) (zhR _ _ _))) ⟨_,qchz.v (by simp (disch:=omega) only [↓reduceIte,BQ,Nat.reduceMod,Nat.reduceBEq,LN,S]; exact Ev.bind (zov D (D++X) n (X,(0,(0,(0,(0,([],([],[])))))))) (Ev.now _)),?_⟩ (fun Z h line hr=>qhez.v (Ev.bind hr (by simp (disch:=omega) only [↓reduceIte,BQ,Nat.reduceMod,Nat.reduceBEq,LN,S]; exact Ev.bind h (Ev.now _))))
 rw [e]
 split <;> rfl
theorem zsd {m:Nat} (hm:m<=999999):Act (bs [114,105,110,103]) ([],(0,(0,(0,(0,([],([],[(m:Int)]))))))) D n:=by
 have hl:=dlen hD
 have hn:=(zar.1 hD).2
 by_cases hm1:1<=(m:Int)/\(m:Int)<=1000
 · have e:dOk D (m:Int)=true:=zar.2 ⟨(zar.1 hD).1,hm1⟩
   refine zda (X:=D) (m:=(m:Int)) hD (qdmz.v (by simp (disch:=omega) only [↓reduceIte,BQ,Nat.reduceMod,Nat.reduceBEq,LN,S]; exact zhR _ _ _)) ⟨_,qchz.v (by simp (disch:=omega) only [↓reduceIte,BQ,Nat.reduceMod,Nat.reduceBEq,LN,S,zaq,decide_eq_true hm1]; exact Ev.bind (zcI (zar.1 hD).1) (Ev.now _)),?_⟩ (fun Z h line hr=>qhez.v (Ev.bind hr (by simp (disch:=omega) only [↓reduceIte,BQ,Nat.reduceMod,Nat.reduceBEq,LN,S]; exact Ev.bind h (Ev.now _))))
   rw [if_pos e]
 · have e:¬ dOk D (m:Int)=true:=fun h=>hm1 (zar.1 h).2
   refine zda (X:=D) (m:=(m:Int)) hD (qdmz.v (by simp (disch:=omega) only [↓reduceIte,BQ,Nat.reduceMod,Nat.reduceBEq,LN,S]; exact zhR _ _ _)) ⟨_,qchz.v (by simp (disch:=omega) only [↓reduceIte,BQ,Nat.reduceMod,Nat.reduceBEq,LN,S,zaq,decide_eq_false hm1]; exact Ev.now _),?_⟩ (fun Z h line hr=>qhez.v (Ev.bind hr (by simp (disch:=omega) only [↓reduceIte,BQ,Nat.reduceMod,Nat.reduceBEq,LN,S]; exact Ev.bind h (Ev.now _))))
   rw [if_neg e]; rfl
theorem zbR (m:Nat):qbsz.f D n (m:Int)=some (decide (m < D.length)):=by
 have hl:=dlen hD
 unfold qbsz.f
 simp (disch:=omega) only [S,zas]
 by_cases h:m < D.length
 · rw [decide_eq_true h,decide_eq_true (by omega)]
 · rw [decide_eq_false h,decide_eq_false (by omega)]
theorem zlq:qbfz.f D=some D:=by
 have hl:=dlen hD
 unfold qbfz.f
 exact S.1 (by omega)
theorem zse {m:Nat} (hm:m<=999999):Act (bs [116,117,114,110]) ([],(0,(0,(0,(0,([],([],[(m:Int)]))))))) D n:=by
 have hl:=dlen hD
 have hn:=(zar.1 hD).2
 by_cases hm1:m < D.length
 · have hw:=zaO.1 (dmem hD _ (zaf (z:=(0,0)) hm1))
   have w1:(D.getD m (0,0)).2*(-1) = -(D.getD m (0,0)).2:=by omega
   have w2:0-(D.getD m (0,0)).2 = -(D.getD m (0,0)).2:=by omega
   have hok:zam 8 wOk (D.set m ((D.getD m (0,0)).1,-(D.getD m (0,0)).2))=true:=zak.2 ⟨by rw [List.length_set]; exact hl,fun w h=>by
    rcases List.mem_or_eq_of_mem_set h with h | h
    · exact dmem hD w h
    · rw [h]; exact zaO.2 ⟨hw.1,by simp only []; omega⟩⟩
   have e:dOk (D.set m ((D.getD m (0,0)).1,-(D.getD m (0,0)).2)) n=true:=zar.2 ⟨hok,hn⟩
   refine zda (X:=D.set m ((D.getD m (0,0)).1,-(D.getD m (0,0)).2)) (m:=n) hD (qdmz.v (by simp (disch:=omega) only [↓reduceIte,BQ,Nat.reduceMod,Nat.reduceBEq,LN,S,w1,zbR hD,zlq hD,decide_eq_true hm1]; exact zhR _ _ _)) ⟨_,qchz.v (by simp (disch:=omega) only [↓reduceIte,BQ,Nat.reduceMod,Nat.reduceBEq,LN,S,w2]; exact Ev.bind (zov D _ n ([],(0,(0,(0,(0,([],([],[(m:Int)])))))))) (Ev.now _)),?_⟩ (fun Z h line hr=>qhez.v (Ev.bind hr (by simp (disch:=omega) only [↓reduceIte,BQ,Nat.reduceMod,Nat.reduceBEq,LN,S]; exact Ev.bind h (Ev.now _))))
   rw [if_pos e,if_pos hok]
 · refine zsL hD (R:=((D,n),(bs [],(false,_)))) (qdmz.v (by simp (disch:=omega) only [↓reduceIte,BQ,Nat.reduceMod,Nat.reduceBEq,LN,S,zbR hD,decide_eq_false hm1]; exact Ev.now _)) rfl (fun line hr=>qhez.v (Ev.bind hr (by simp (disch:=omega) only [↓reduceIte,BQ,Nat.reduceMod,Nat.reduceBEq,LN,S]; exact Ev.bind (v:=(noB,(D,(n,_)))) (qchz.v (by simp (disch:=omega) only [↓reduceIte,BQ,Nat.reduceMod,Nat.reduceBEq,LN,S]; exact Ev.now _)) (Ev.now _))))
theorem zsf {m:Nat} (hm:m<=999999):Act (bs [100,114,111,112]) ([],(0,(0,(0,(0,([],([],[(m:Int)]))))))) D n:=by
 have hl:=dlen hD
 have hn:=(zar.1 hD).2
 by_cases hm1:m < D.length
 · have lt:(D.drop (m+1)).take (D.length-(m+1))=D.drop (m+1):=List.take_of_length_le (by simp)
   have e:dOk (D.take m++D.drop (m+1)) n=zam 8 wOk (D.take m++D.drop (m+1)):=by unfold dOk; rw [decide_eq_true hn,Bool.and_true]
   refine zda (X:=D.take m++D.drop (m+1)) (m:=n) hD (qdmz.v (by simp (disch:=omega) only [↓reduceIte,BQ,Nat.reduceMod,Nat.reduceBEq,LN,S,zbR hD,zlq hD,decide_eq_true hm1]; exact zhR _ _ _)) ⟨_,qchz.v (by simp (disch:=omega) only [↓reduceIte,BQ,Nat.reduceMod,Nat.reduceBEq,LN,S,List.length_take,List.length_drop]; rw [lt]; exact Ev.bind (zov D _ n ([],(0,(0,(0,(0,([],([],[(m:Int)])))))))) (Ev.now _)),?_⟩ (fun Z h line hr=>qhez.v (Ev.bind hr (by simp (disch:=omega) only [↓reduceIte,BQ,Nat.reduceMod,Nat.reduceBEq,LN,S]; exact Ev.bind h (Ev.now _))))
   rw [e]
   split <;> rfl
 · refine zsL hD (R:=((D,n),(bs [],(false,_)))) (qdmz.v (by simp (disch:=omega) only [↓reduceIte,BQ,Nat.reduceMod,Nat.reduceBEq,LN,S,zbR hD,decide_eq_false hm1]; exact Ev.now _)) rfl (fun line hr=>qhez.v (Ev.bind hr (by simp (disch:=omega) only [↓reduceIte,BQ,Nat.reduceMod,Nat.reduceBEq,LN,S]; exact Ev.bind (v:=(noB,(D,(n,_)))) (qchz.v (by simp (disch:=omega) only [↓reduceIte,BQ,Nat.reduceMod,Nat.reduceBEq,LN,S]; exact Ev.now _)) (Ev.now _))))
theorem zsg  : Act (bs [115,104,111,119]) ([],(0,(0,(0,(0,([],([],[]))))))) D n:=by
 have hl:=dlen hD
 have hn:=(zar.1 hD).2
 refine ⟨((D,n),bL (wkT D)),hD,.inl rfl,⟨_,qdmz.v (by simp (disch:=omega) only [↓reduceIte,BQ,Nat.reduceMod,Nat.reduceBEq,LN,S]; exact zhR _ _ _),by unfold fin; rw [if_pos hD]; rfl⟩,fun line hr=>qhez.v (Ev.bind hr (by simp (disch:=omega) only [↓reduceIte,BQ,Nat.reduceMod,Nat.reduceBEq,LN,S]; exact Ev.bind (qcgz.v (by simp (disch:=omega) only [↓reduceIte,BQ,Nat.reduceMod,Nat.reduceBEq,LN,S]; exact Ev.bind (zcI (zar.1 hD).1) (Ev.now _))) (Ev.now _)))⟩
theorem zq4  : Act (bs [115,116,97,114,116]) ([],(0,(0,(0,(0,([],([],[]))))))) D n:=by
 have hl:=dlen hD
 have hn:=(zar.1 hD).2
 refine zbo hD (fun r h=>qdmz.v (by simp (disch:=omega) only [↓reduceIte,BQ,Nat.reduceMod,Nat.reduceBEq,LN,S]; exact Ev.bind h (Ev.now _))) (fun Z h line hr=>qhez.v (Ev.bind hr (by simp (disch:=omega) only [↓reduceIte,BQ,Nat.reduceMod,Nat.reduceBEq,LN,S]; exact Ev.bind h (Ev.now _)))) ?_
 obtain ⟨T,ok,x,y⟩:=ze7 D n ([],(0,(0,(0,(0,([],([],[]))))))) (zjC (zar.1 hD).1 hn)
 exact ⟨T,ok,qfkz.v (by simp (disch:=omega) only [↓reduceIte,BQ,Nat.reduceMod,Nat.reduceBEq,LN,S]; exact x),qcgz.v (by simp (disch:=omega) only [↓reduceIte,BQ,Nat.reduceMod,Nat.reduceBEq,LN,S]; exact y)⟩
theorem zsh  : Act (bs [108,101,97,100]) ([],(0,(0,(0,(0,([],([],[]))))))) D n:=by
 have hl:=dlen hD
 have hn:=(zar.1 hD).2
 obtain ⟨L,l1,l2,l3,l4⟩:=zj2 (zar.1 hD).1
 refine zbo hD (fun r h=>qdmz.v (by simp (disch:=omega) only [↓reduceIte,BQ,Nat.reduceMod,Nat.reduceBEq,LN,S]; exact Ev.bind h (Ev.now _))) (fun Z h line hr=>qhez.v (Ev.bind hr (by simp (disch:=omega) only [↓reduceIte,BQ,Nat.reduceMod,Nat.reduceBEq,LN,S]; exact Ev.bind h (Ev.now _)))) ?_
 obtain ⟨T,ok,x,y⟩:=zlp D n ([],(0,(0,(0,(0,([],([],[]))))))) l1 l2 (by omega) l4
 exact ⟨T,ok,qfkz.v (by simp (disch:=omega) only [↓reduceIte,BQ,Nat.reduceMod,Nat.reduceBEq,LN,S]; exact x),qcgz.v (by simp (disch:=omega) only [↓reduceIte,BQ,Nat.reduceMod,Nat.reduceBEq,LN,S]; exact y)⟩
theorem zsi  : Act (bs [108,97,115,116]) ([],(0,(0,(0,(0,([],([],[]))))))) D n:=by
 have hl:=dlen hD
 have hn:=(zar.1 hD).2
 obtain ⟨L,l1,l2,l3,l4⟩:=zj0 (zar.1 hD).1
 refine zbo hD (fun r h=>qdmz.v (by simp (disch:=omega) only [↓reduceIte,BQ,Nat.reduceMod,Nat.reduceBEq,LN,S]; exact Ev.bind h (Ev.now _))) (fun Z h line hr=>qhez.v (Ev.bind hr (by simp (disch:=omega) only [↓reduceIte,BQ,Nat.reduceMod,Nat.reduceBEq,LN,S]; exact Ev.bind h (Ev.now _)))) ?_
 obtain ⟨T,ok,x,y⟩:=zlp D n ([],(0,(0,(0,(0,([],([],[]))))))) l1 l2 (by omega) l4
 exact ⟨T,ok,qfkz.v (by simp (disch:=omega) only [↓reduceIte,BQ,Nat.reduceMod,Nat.reduceBEq,LN,S]; exact x),qcgz.v (by simp (disch:=omega) only [↓reduceIte,BQ,Nat.reduceMod,Nat.reduceBEq,LN,S]; exact y)⟩
theorem zus {m:Nat} (hm:m<=999999):Act (bs [97,116]) ([],(0,(0,(0,(0,([],([],[(m:Int)]))))))) D n:=by
 have hl:=dlen hD
 have hn:=(zar.1 hD).2
 obtain ⟨L,l1,l2,l3,l4⟩:=zj1 (zar.1 hD).1 (n:=(m:Int)) (d:=1) (by omega) (by omega)
 refine zbo hD (fun r h=>qdmz.v (by simp (disch:=omega) only [↓reduceIte,BQ,Nat.reduceMod,Nat.reduceBEq,LN,S]; exact Ev.bind h (Ev.now _))) (fun Z h line hr=>qhez.v (Ev.bind hr (by simp (disch:=omega) only [↓reduceIte,BQ,Nat.reduceMod,Nat.reduceBEq,LN,S]; exact Ev.bind h (Ev.now _)))) ?_
 obtain ⟨T,ok,x,y⟩:=zlp D n ([],(0,(0,(0,(0,([],([],[(m:Int)]))))))) l1 l2 (by omega) l4
 exact ⟨T,ok,qfkz.v (by simp (disch:=omega) only [↓reduceIte,BQ,Nat.reduceMod,Nat.reduceBEq,LN,S]; exact x),qcgz.v (by simp (disch:=omega) only [↓reduceIte,BQ,Nat.reduceMod,Nat.reduceBEq,LN,S]; exact y)⟩
theorem zq5  : Act (bs [112,97,105,114,115]) ([],(0,(0,(0,(0,([],([],[]))))))) D n:=by
 have hl:=dlen hD
 have hn:=(zar.1 hD).2
 obtain ⟨c,c1,c2,c3,c4⟩:=zdC (zar.1 hD).1
 refine zbo hD (fun r h=>qdmz.v (by simp (disch:=omega) only [↓reduceIte,BQ,Nat.reduceMod,Nat.reduceBEq,LN,S]; exact Ev.bind h (Ev.now _))) (fun Z h line hr=>qhez.v (Ev.bind hr (by simp (disch:=omega) only [↓reduceIte,BQ,Nat.reduceMod,Nat.reduceBEq,LN,S]; exact Ev.bind h (Ev.now _)))) ⟨bL (Lib.itoa c),true,qfkz.v (by simp (disch:=omega) only [↓reduceIte,BQ,Nat.reduceMod,Nat.reduceBEq,LN,S]; exact Ev.bind c1 (by simp only [zfH c3,S]; exact Ev.now _)),qcgz.v (by simp (disch:=omega) only [↓reduceIte,BQ,Nat.reduceMod,Nat.reduceBEq,LN,S]; exact Ev.bind c2 (Ev.bind (zhX c4 c3 true) (Ev.now _)))⟩
theorem zq6  : Act (bs [102,105,114,115,116]) ([],(0,(0,(0,(0,([],([],[]))))))) D n:=by
 have hl:=dlen hD
 have hn:=(zar.1 hD).2
 obtain ⟨R,r1,r2,r3,r4⟩:=zh3 (zar.1 hD).1
 refine zbo hD (fun r h=>qdmz.v (by simp (disch:=omega) only [↓reduceIte,BQ,Nat.reduceMod,Nat.reduceBEq,LN,S]; exact Ev.bind h (Ev.now _))) (fun Z h line hr=>qhez.v (Ev.bind hr (by simp (disch:=omega) only [↓reduceIte,BQ,Nat.reduceMod,Nat.reduceBEq,LN,S]; exact Ev.bind h (Ev.now _)))) ?_
 cases R with
 | nil=>exact ⟨bs [],false,qfkz.v (by simp (disch:=omega) only [↓reduceIte,BQ,Nat.reduceMod,Nat.reduceBEq,LN,S]; exact Ev.bind r1 (by simp (disch:=omega) only [S,LN]; exact Ev.now _)),qcgz.v (by simp (disch:=omega) only [↓reduceIte,BQ,Nat.reduceMod,Nat.reduceBEq,LN,S]; exact Ev.bind r2 (by simp (disch:=omega) only [S,LN]; exact Ev.now _))⟩
 | cons e R =>
  obtain ⟨i,j,x,y,rfl,hi,hj,_⟩:=r4 e (by simp)
  have hq:∀ z∈[i,j],i64 z:=fun z hz=>by
   unfold i64
   simp only [List.mem_cons,List.not_mem_nil,or_false] at hz
   omega
  have tk:List.take 2 [i,j,x,y]=[i,j]:=rfl
  refine ⟨bL (zny [i,j]),true,qfkz.v ?_,qcgz.v ?_⟩
  · simp (disch:=omega) only [↓reduceIte,BQ,Nat.reduceMod,Nat.reduceBEq,LN,S]
    refine Ev.bind r1 ?_
    simp (disch:=omega) only [S,LN,tk]
    exact Ev.bind (ze2 (by simp) hq true) (Ev.now _)
  · simp (disch:=omega) only [↓reduceIte,BQ,Nat.reduceMod,Nat.reduceBEq,LN,S]
    refine Ev.bind r2 ?_
    simp (disch:=omega) only [S,LN,tk]
    exact Ev.bind (zdS (by simp) hq true) (Ev.now _)
theorem zsj {m m2:Nat} (hm:m<=999999) (hm2:m2<=999999):Act (bs [109,101,101,116]) ([],(0,(0,(0,(0,([],([],[(m:Int),(m2:Int)]))))))) D n:=by
 have hl:=dlen hD
 have hn:=(zar.1 hD).2
 refine zbo hD (fun r h=>qdmz.v (by simp (disch:=omega) only [↓reduceIte,BQ,Nat.reduceMod,Nat.reduceBEq,LN,S]; exact Ev.bind h (Ev.now _))) (fun Z h line hr=>qhez.v (Ev.bind hr (by simp (disch:=omega) only [↓reduceIte,BQ,Nat.reduceMod,Nat.reduceBEq,LN,S]; exact Ev.bind h (Ev.now _)))) ?_
 by_cases q1:m < D.length
 · by_cases q2:m2 < D.length
   · obtain ⟨T,ok,x,y⟩:=zil D n ([],(0,(0,(0,(0,([],([],[(m:Int),(m2:Int)]))))))) (zhY (dmem hD _ (zaf (z:=(0,0)) q1)) (dmem hD _ (zaf (z:=(0,0)) q2)))
     refine ⟨T,ok,qfkz.v (by simp (disch:=omega) only [↓reduceIte,BQ,Nat.reduceMod,Nat.reduceBEq,LN,S,zbR hD,decide_eq_true q1,decide_eq_true q2]; exact Ev.bind (qcez.v (by simp (disch:=omega) only [↓reduceIte,BQ,Nat.reduceMod,Nat.reduceBEq,LN,S]; exact x)) (Ev.now _)),qcgz.v (by simp (disch:=omega) only [↓reduceIte,BQ,Nat.reduceMod,Nat.reduceBEq,LN,S]; exact Ev.bind (qddz.v (by simp (disch:=omega) only [↓reduceIte,BQ,Nat.reduceMod,Nat.reduceBEq,LN,S]; exact y)) (Ev.now _))⟩
   · exact ⟨bs [],false,qfkz.v (by simp (disch:=omega) only [↓reduceIte,BQ,Nat.reduceMod,Nat.reduceBEq,LN,S,zbR hD,decide_eq_true q1,decide_eq_false q2]; exact Ev.now _),qcgz.v (by simp (disch:=omega) only [↓reduceIte,BQ,Nat.reduceMod,Nat.reduceBEq,LN,S]; exact Ev.bind (v:=(noB,(D,(n,_)))) (qddz.v (by simp (disch:=omega) only [↓reduceIte,BQ,Nat.reduceMod,Nat.reduceBEq,LN,S]; exact Ev.now _)) (Ev.now _))⟩
 · exact ⟨bs [],false,qfkz.v (by simp (disch:=omega) only [↓reduceIte,BQ,Nat.reduceMod,Nat.reduceBEq,LN,S,zbR hD,decide_eq_false q1]; exact Ev.now _),qcgz.v (by simp (disch:=omega) only [↓reduceIte,BQ,Nat.reduceMod,Nat.reduceBEq,LN,S]; exact Ev.bind (v:=(noB,(D,(n,_)))) (qddz.v (by simp (disch:=omega) only [↓reduceIte,BQ,Nat.reduceMod,Nat.reduceBEq,LN,S]; exact Ev.now _)) (Ev.now _))⟩
theorem zq7 {m m2:Nat} (hm:m<=999999) (hm2:m2<=999999):Act (bs [119,104,101,114,101]) ([],(0,(0,(0,(0,([],([],[(m:Int),(m2:Int)]))))))) D n:=by
 have hl:=dlen hD
 have hn:=(zar.1 hD).2
 refine zbo hD (fun r h=>qdmz.v (by simp (disch:=omega) only [↓reduceIte,BQ,Nat.reduceMod,Nat.reduceBEq,LN,S]; exact Ev.bind h (Ev.now _))) (fun Z h line hr=>qhez.v (Ev.bind hr (by simp (disch:=omega) only [↓reduceIte,BQ,Nat.reduceMod,Nat.reduceBEq,LN,S]; exact Ev.bind h (Ev.now _)))) ?_
 by_cases q1:m < D.length
 · by_cases q2:m2 < D.length
   · obtain ⟨T,ok,x,y⟩:=zil D n ([],(0,(0,(0,(0,([],([],[(m:Int),(m2:Int)]))))))) (zhh (dmem hD _ (zaf (z:=(0,0)) q1)) (dmem hD _ (zaf (z:=(0,0)) q2)))
     refine ⟨T,ok,qfkz.v (by simp (disch:=omega) only [↓reduceIte,BQ,Nat.reduceMod,Nat.reduceBEq,LN,S,zbR hD,decide_eq_true q1,decide_eq_true q2]; exact Ev.bind (qcez.v (by simp (disch:=omega) only [↓reduceIte,BQ,Nat.reduceMod,Nat.reduceBEq,LN,S]; exact x)) (Ev.now _)),qcgz.v (by simp (disch:=omega) only [↓reduceIte,BQ,Nat.reduceMod,Nat.reduceBEq,LN,S]; exact Ev.bind (qddz.v (by simp (disch:=omega) only [↓reduceIte,BQ,Nat.reduceMod,Nat.reduceBEq,LN,S]; exact y)) (Ev.now _))⟩
   · exact ⟨bs [],false,qfkz.v (by simp (disch:=omega) only [↓reduceIte,BQ,Nat.reduceMod,Nat.reduceBEq,LN,S,zbR hD,decide_eq_true q1,decide_eq_false q2]; exact Ev.now _),qcgz.v (by simp (disch:=omega) only [↓reduceIte,BQ,Nat.reduceMod,Nat.reduceBEq,LN,S]; exact Ev.bind (v:=(noB,(D,(n,_)))) (qddz.v (by simp (disch:=omega) only [↓reduceIte,BQ,Nat.reduceMod,Nat.reduceBEq,LN,S]; exact Ev.now _)) (Ev.now _))⟩
 · exact ⟨bs [],false,qfkz.v (by simp (disch:=omega) only [↓reduceIte,BQ,Nat.reduceMod,Nat.reduceBEq,LN,S,zbR hD,decide_eq_false q1]; exact Ev.now _),qcgz.v (by simp (disch:=omega) only [↓reduceIte,BQ,Nat.reduceMod,Nat.reduceBEq,LN,S]; exact Ev.bind (v:=(noB,(D,(n,_)))) (qddz.v (by simp (disch:=omega) only [↓reduceIte,BQ,Nat.reduceMod,Nat.reduceBEq,LN,S]; exact Ev.now _)) (Ev.now _))⟩
theorem zpu {m m2:Nat} (hm:m<=999999) (hm2:m2<=999999):Act (bs [97,114,111,117,110,100]) ([],(0,(0,(0,(0,([],([],[(m:Int),(m2:Int)]))))))) D n:=by
 have hl:=dlen hD
 have hn:=(zar.1 hD).2
 refine zbo hD (fun r h=>qdmz.v (by simp (disch:=omega) only [↓reduceIte,BQ,Nat.reduceMod,Nat.reduceBEq,LN,S]; exact Ev.bind h (Ev.now _))) (fun Z h line hr=>qhez.v (Ev.bind hr (by simp (disch:=omega) only [↓reduceIte,BQ,Nat.reduceMod,Nat.reduceBEq,LN,S]; exact Ev.bind h (Ev.now _)))) ?_
 by_cases q1:m < D.length
 · by_cases q2:m2 < D.length
   · obtain ⟨T,ok,x,y⟩:=zil D n ([],(0,(0,(0,(0,([],([],[(m:Int),(m2:Int)]))))))) (zlg hn (dmem hD _ (zaf (z:=(0,0)) q1)) (dmem hD _ (zaf (z:=(0,0)) q2)))
     refine ⟨T,ok,qfkz.v (by simp (disch:=omega) only [↓reduceIte,BQ,Nat.reduceMod,Nat.reduceBEq,LN,S,zbR hD,decide_eq_true q1,decide_eq_true q2]; exact Ev.bind (qcez.v (by simp (disch:=omega) only [↓reduceIte,BQ,Nat.reduceMod,Nat.reduceBEq,LN,S]; exact x)) (Ev.now _)),qcgz.v (by simp (disch:=omega) only [↓reduceIte,BQ,Nat.reduceMod,Nat.reduceBEq,LN,S]; exact Ev.bind (qddz.v (by simp (disch:=omega) only [↓reduceIte,BQ,Nat.reduceMod,Nat.reduceBEq,LN,S]; exact y)) (Ev.now _))⟩
   · exact ⟨bs [],false,qfkz.v (by simp (disch:=omega) only [↓reduceIte,BQ,Nat.reduceMod,Nat.reduceBEq,LN,S,zbR hD,decide_eq_true q1,decide_eq_false q2]; exact Ev.now _),qcgz.v (by simp (disch:=omega) only [↓reduceIte,BQ,Nat.reduceMod,Nat.reduceBEq,LN,S]; exact Ev.bind (v:=(noB,(D,(n,_)))) (qddz.v (by simp (disch:=omega) only [↓reduceIte,BQ,Nat.reduceMod,Nat.reduceBEq,LN,S]; exact Ev.now _)) (Ev.now _))⟩
 · exact ⟨bs [],false,qfkz.v (by simp (disch:=omega) only [↓reduceIte,BQ,Nat.reduceMod,Nat.reduceBEq,LN,S,zbR hD,decide_eq_false q1]; exact Ev.now _),qcgz.v (by simp (disch:=omega) only [↓reduceIte,BQ,Nat.reduceMod,Nat.reduceBEq,LN,S]; exact Ev.bind (v:=(noB,(D,(n,_)))) (qddz.v (by simp (disch:=omega) only [↓reduceIte,BQ,Nat.reduceMod,Nat.reduceBEq,LN,S]; exact Ev.now _)) (Ev.now _))⟩
theorem ztE {m m2:Nat} (hm:m<=999999) (hm2:m2<=999999):Act (bs [103,97,112]) ([],(0,(0,(0,(0,([],([],[(m:Int),(m2:Int)]))))))) D n:=by
 have hl:=dlen hD
 have hn:=(zar.1 hD).2
 refine zbo hD (fun r h=>qdmz.v (by simp (disch:=omega) only [↓reduceIte,BQ,Nat.reduceMod,Nat.reduceBEq,LN,S]; exact Ev.bind h (Ev.now _))) (fun Z h line hr=>qhez.v (Ev.bind hr (by simp (disch:=omega) only [↓reduceIte,BQ,Nat.reduceMod,Nat.reduceBEq,LN,S]; exact Ev.bind h (Ev.now _)))) ?_
 by_cases q1:m < D.length
 · by_cases q2:m2 < D.length
   · obtain ⟨T,ok,x,y⟩:=zil D n ([],(0,(0,(0,(0,([],([],[(m:Int),(m2:Int)]))))))) (zmz hn (dmem hD _ (zaf (z:=(0,0)) q1)) (dmem hD _ (zaf (z:=(0,0)) q2)))
     refine ⟨T,ok,qfkz.v (by simp (disch:=omega) only [↓reduceIte,BQ,Nat.reduceMod,Nat.reduceBEq,LN,S,zbR hD,decide_eq_true q1,decide_eq_true q2]; exact Ev.bind (qcez.v (by simp (disch:=omega) only [↓reduceIte,BQ,Nat.reduceMod,Nat.reduceBEq,LN,S]; exact x)) (Ev.now _)),qcgz.v (by simp (disch:=omega) only [↓reduceIte,BQ,Nat.reduceMod,Nat.reduceBEq,LN,S]; exact Ev.bind (qddz.v (by simp (disch:=omega) only [↓reduceIte,BQ,Nat.reduceMod,Nat.reduceBEq,LN,S]; exact y)) (Ev.now _))⟩
   · exact ⟨bs [],false,qfkz.v (by simp (disch:=omega) only [↓reduceIte,BQ,Nat.reduceMod,Nat.reduceBEq,LN,S,zbR hD,decide_eq_true q1,decide_eq_false q2]; exact Ev.now _),qcgz.v (by simp (disch:=omega) only [↓reduceIte,BQ,Nat.reduceMod,Nat.reduceBEq,LN,S]; exact Ev.bind (v:=(noB,(D,(n,_)))) (qddz.v (by simp (disch:=omega) only [↓reduceIte,BQ,Nat.reduceMod,Nat.reduceBEq,LN,S]; exact Ev.now _)) (Ev.now _))⟩
 · exact ⟨bs [],false,qfkz.v (by simp (disch:=omega) only [↓reduceIte,BQ,Nat.reduceMod,Nat.reduceBEq,LN,S,zbR hD,decide_eq_false q1]; exact Ev.now _),qcgz.v (by simp (disch:=omega) only [↓reduceIte,BQ,Nat.reduceMod,Nat.reduceBEq,LN,S]; exact Ev.bind (v:=(noB,(D,(n,_)))) (qddz.v (by simp (disch:=omega) only [↓reduceIte,BQ,Nat.reduceMod,Nat.reduceBEq,LN,S]; exact Ev.now _)) (Ev.now _))⟩
theorem zpv {m m2:Nat} (hm:m<=999999) (hm2:m2<=999999):Act (bs [112,108,97,99,101,115]) ([],(0,(0,(0,(0,([],([],[(m:Int),(m2:Int)]))))))) D n:=by
 have hl:=dlen hD
 have hn:=(zar.1 hD).2
 refine zbo hD (fun r h=>qdmz.v (by simp (disch:=omega) only [↓reduceIte,BQ,Nat.reduceMod,Nat.reduceBEq,LN,S]; exact Ev.bind h (Ev.now _))) (fun Z h line hr=>qhez.v (Ev.bind hr (by simp (disch:=omega) only [↓reduceIte,BQ,Nat.reduceMod,Nat.reduceBEq,LN,S]; exact Ev.bind h (Ev.now _)))) ?_
 by_cases q1:m < D.length
 · by_cases q2:m2 < D.length
   · obtain ⟨rr,s1,s2,s3,s4,s5,s6⟩:=zjH hn (dmem hD _ (zaf (z:=(0,0)) q1)) (dmem hD _ (zaf (z:=(0,0)) q2))
     obtain ⟨T,ok,x,y⟩:=zq2 D n ([],(0,(0,(0,(0,([],([],[(m:Int),(m2:Int)]))))))) s1 s2 s3 s4 s5 s6
     refine ⟨T,ok,qfkz.v (by simp (disch:=omega) only [↓reduceIte,BQ,Nat.reduceMod,Nat.reduceBEq,LN,S,zbR hD,decide_eq_true q1,decide_eq_true q2]; exact Ev.bind (qcez.v (by simp (disch:=omega) only [↓reduceIte,BQ,Nat.reduceMod,Nat.reduceBEq,LN,S]; exact x)) (Ev.now _)),qcgz.v (by simp (disch:=omega) only [↓reduceIte,BQ,Nat.reduceMod,Nat.reduceBEq,LN,S]; exact Ev.bind (qddz.v (by simp (disch:=omega) only [↓reduceIte,BQ,Nat.reduceMod,Nat.reduceBEq,LN,S]; exact y)) (Ev.now _))⟩
   · exact ⟨bs [],false,qfkz.v (by simp (disch:=omega) only [↓reduceIte,BQ,Nat.reduceMod,Nat.reduceBEq,LN,S,zbR hD,decide_eq_true q1,decide_eq_false q2]; exact Ev.now _),qcgz.v (by simp (disch:=omega) only [↓reduceIte,BQ,Nat.reduceMod,Nat.reduceBEq,LN,S]; exact Ev.bind (v:=(noB,(D,(n,_)))) (qddz.v (by simp (disch:=omega) only [↓reduceIte,BQ,Nat.reduceMod,Nat.reduceBEq,LN,S]; exact Ev.now _)) (Ev.now _))⟩
 · exact ⟨bs [],false,qfkz.v (by simp (disch:=omega) only [↓reduceIte,BQ,Nat.reduceMod,Nat.reduceBEq,LN,S,zbR hD,decide_eq_false q1]; exact Ev.now _),qcgz.v (by simp (disch:=omega) only [↓reduceIte,BQ,Nat.reduceMod,Nat.reduceBEq,LN,S]; exact Ev.bind (v:=(noB,(D,(n,_)))) (qddz.v (by simp (disch:=omega) only [↓reduceIte,BQ,Nat.reduceMod,Nat.reduceBEq,LN,S]; exact Ev.now _)) (Ev.now _))⟩
theorem ztF {a l r d:Int}:Act (bs [100,111,103]) ([],(a,(l,(r,(d,([],([],[]))))))) D n:=by
 have hl:=dlen hD
 have hn:=(zar.1 hD).2
 refine zbo hD (fun r h=>qdmz.v (by simp (disch:=omega) only [↓reduceIte,BQ,Nat.reduceMod,Nat.reduceBEq,LN,S]; exact Ev.bind h (Ev.now _))) (fun Z h line hr=>qhez.v (Ev.bind hr (by simp (disch:=omega) only [↓reduceIte,BQ,Nat.reduceMod,Nat.reduceBEq,LN,S]; exact Ev.bind h (Ev.now _)))) ?_
 obtain ⟨T,ok,x,y⟩:=ze7 D n ([],(a,(l,(r,(d,([],([],[]))))))) (zjz a l r d)
 exact ⟨T,ok,qfkz.v (by simp (disch:=omega) only [↓reduceIte,BQ,Nat.reduceMod,Nat.reduceBEq,LN,S]; exact Ev.bind (qerz.v (by simp (disch:=omega) only [↓reduceIte,BQ,Nat.reduceMod,Nat.reduceBEq,LN,S]; exact x)) (Ev.now _)),qcgz.v (by simp (disch:=omega) only [↓reduceIte,BQ,Nat.reduceMod,Nat.reduceBEq,LN,S]; exact y)⟩
theorem ztG {a l r d:Int}:Act (bs [114,117,110]) ([],(a,(l,(r,(d,([],([],[]))))))) D n:=by
 have hl:=dlen hD
 have hn:=(zar.1 hD).2
 refine zbo hD (fun r h=>qdmz.v (by simp (disch:=omega) only [↓reduceIte,BQ,Nat.reduceMod,Nat.reduceBEq,LN,S]; exact Ev.bind h (Ev.now _))) (fun Z h line hr=>qhez.v (Ev.bind hr (by simp (disch:=omega) only [↓reduceIte,BQ,Nat.reduceMod,Nat.reduceBEq,LN,S]; exact Ev.bind h (Ev.now _)))) ?_
 obtain ⟨T,ok,x,y⟩:=ze7 D n ([],(a,(l,(r,(d,([],([],[]))))))) (zhZ a l r d)
 exact ⟨T,ok,qfkz.v (by simp (disch:=omega) only [↓reduceIte,BQ,Nat.reduceMod,Nat.reduceBEq,LN,S]; exact Ev.bind (qerz.v (by simp (disch:=omega) only [↓reduceIte,BQ,Nat.reduceMod,Nat.reduceBEq,LN,S]; exact x)) (Ev.now _)),qcgz.v (by simp (disch:=omega) only [↓reduceIte,BQ,Nat.reduceMod,Nat.reduceBEq,LN,S]; exact y)⟩
theorem zq8 {a l r d:Int} {m:Nat}:Act (bs [97,112,97,114,116]) ([],(a,(l,(r,(d,([],([],[(m:Int)]))))))) D n:=by
 have hl:=dlen hD
 have hn:=(zar.1 hD).2
 refine zbo hD (fun r h=>qdmz.v (by simp (disch:=omega) only [↓reduceIte,BQ,Nat.reduceMod,Nat.reduceBEq,LN,S]; exact Ev.bind h (Ev.now _))) (fun Z h line hr=>qhez.v (Ev.bind hr (by simp (disch:=omega) only [↓reduceIte,BQ,Nat.reduceMod,Nat.reduceBEq,LN,S]; exact Ev.bind h (Ev.now _)))) ?_
 obtain ⟨T,ok,x,y⟩:=ze7 D n ([],(a,(l,(r,(d,([],([],[(m:Int)]))))))) (zf2 a l r d (m:Int))
 exact ⟨T,ok,qfkz.v (by simp (disch:=omega) only [↓reduceIte,BQ,Nat.reduceMod,Nat.reduceBEq,LN,S]; exact Ev.bind (qerz.v (by simp (disch:=omega) only [↓reduceIte,BQ,Nat.reduceMod,Nat.reduceBEq,LN,S]; exact x)) (Ev.now _)),qcgz.v (by simp (disch:=omega) only [↓reduceIte,BQ,Nat.reduceMod,Nat.reduceBEq,LN,S]; exact y)⟩
theorem zsk {X:List Wk}:Act (bs [109,101,97,110]) ([],(0,(0,(0,(0,(X,([],[]))))))) D n:=by
 have hl:=dlen hD
 have hn:=(zar.1 hD).2
 refine zbo hD (fun r h=>qdmz.v (by simp (disch:=omega) only [↓reduceIte,BQ,Nat.reduceMod,Nat.reduceBEq,LN,S]; exact Ev.bind h (Ev.now _))) (fun Z h line hr=>qhez.v (Ev.bind hr (by simp (disch:=omega) only [↓reduceIte,BQ,Nat.reduceMod,Nat.reduceBEq,LN,S]; exact Ev.bind h (Ev.now _)))) ?_
 obtain ⟨T,ok,x,y⟩:=ze7 D n ([],(0,(0,(0,(0,(X,([],[]))))))) (zjZ X)
 exact ⟨T,ok,qfkz.v (by simp (disch:=omega) only [↓reduceIte,BQ,Nat.reduceMod,Nat.reduceBEq,LN,S]; exact Ev.bind (qerz.v (by simp (disch:=omega) only [↓reduceIte,BQ,Nat.reduceMod,Nat.reduceBEq,LN,S]; exact x)) (Ev.now _)),qcgz.v (by simp (disch:=omega) only [↓reduceIte,BQ,Nat.reduceMod,Nat.reduceBEq,LN,S]; exact y)⟩
theorem zsl {X:List Wk}:Act (bs [116,105,109,101]) ([],(0,(0,(0,(0,(X,([],[]))))))) D n:=by
 have hl:=dlen hD
 have hn:=(zar.1 hD).2
 refine zbo hD (fun r h=>qdmz.v (by simp (disch:=omega) only [↓reduceIte,BQ,Nat.reduceMod,Nat.reduceBEq,LN,S]; exact Ev.bind h (Ev.now _))) (fun Z h line hr=>qhez.v (Ev.bind hr (by simp (disch:=omega) only [↓reduceIte,BQ,Nat.reduceMod,Nat.reduceBEq,LN,S]; exact Ev.bind h (Ev.now _)))) ?_
 obtain ⟨T,ok,x,y⟩:=ze7 D n ([],(0,(0,(0,(0,(X,([],[]))))))) (zjA X)
 exact ⟨T,ok,qfkz.v (by simp (disch:=omega) only [↓reduceIte,BQ,Nat.reduceMod,Nat.reduceBEq,LN,S]; exact Ev.bind (qerz.v (by simp (disch:=omega) only [↓reduceIte,BQ,Nat.reduceMod,Nat.reduceBEq,LN,S]; exact x)) (Ev.now _)),qcgz.v (by simp (disch:=omega) only [↓reduceIte,BQ,Nat.reduceMod,Nat.reduceBEq,LN,S]; exact y)⟩
theorem zsm {X:List Wk} {m m2:Nat}:Act (bs [110,101,101,100]) ([],(0,(0,(0,(0,(X,([],[(m:Int),(m2:Int)]))))))) D n:=by
 have hl:=dlen hD
 have hn:=(zar.1 hD).2
 refine zbo hD (fun r h=>qdmz.v (by simp (disch:=omega) only [↓reduceIte,BQ,Nat.reduceMod,Nat.reduceBEq,LN,S]; exact Ev.bind h (Ev.now _))) (fun Z h line hr=>qhez.v (Ev.bind hr (by simp (disch:=omega) only [↓reduceIte,BQ,Nat.reduceMod,Nat.reduceBEq,LN,S]; exact Ev.bind h (Ev.now _)))) ?_
 obtain ⟨T,ok,x,y⟩:=ze7 D n ([],(0,(0,(0,(0,(X,([],[(m:Int),(m2:Int)]))))))) (zh0 X (m:Int) (m2:Int))
 exact ⟨T,ok,qfkz.v (by simp (disch:=omega) only [↓reduceIte,BQ,Nat.reduceMod,Nat.reduceBEq,LN,S]; exact Ev.bind (qerz.v (by simp (disch:=omega) only [↓reduceIte,BQ,Nat.reduceMod,Nat.reduceBEq,LN,S]; exact x)) (Ev.now _)),qcgz.v (by simp (disch:=omega) only [↓reduceIte,BQ,Nat.reduceMod,Nat.reduceBEq,LN,S]; exact y)⟩
theorem zpw {m m2 m3:Nat}:Act (bs [99,104,97,110,99,101]) ([],(0,(0,(0,(0,([],([],[(m:Int),(m2:Int),(m3:Int)]))))))) D n:=by
 have hl:=dlen hD
 have hn:=(zar.1 hD).2
 refine zbo hD (fun r h=>qdmz.v (by simp (disch:=omega) only [↓reduceIte,BQ,Nat.reduceMod,Nat.reduceBEq,LN,S]; exact Ev.bind h (Ev.now _))) (fun Z h line hr=>qhez.v (Ev.bind hr (by simp (disch:=omega) only [↓reduceIte,BQ,Nat.reduceMod,Nat.reduceBEq,LN,S]; exact Ev.bind h (Ev.now _)))) ?_
 obtain ⟨T,ok,x,y⟩:=ze7 D n ([],(0,(0,(0,(0,([],([],[(m:Int),(m2:Int),(m3:Int)]))))))) (zf3 (m:Int) (m2:Int) (m3:Int))
 exact ⟨T,ok,qfkz.v (by simp (disch:=omega) only [↓reduceIte,BQ,Nat.reduceMod,Nat.reduceBEq,LN,S]; exact Ev.bind (qerz.v (by simp (disch:=omega) only [↓reduceIte,BQ,Nat.reduceMod,Nat.reduceBEq,LN,S]; exact x)) (Ev.now _)),qcgz.v (by simp (disch:=omega) only [↓reduceIte,BQ,Nat.reduceMod,Nat.reduceBEq,LN,S]; exact y)⟩
theorem zpx {X:List Wk} (hX:zam 6 vOk X=true):Act (bs [118,105,115,105,116,115]) ([],(0,(0,(0,(0,([],(X,[]))))))) D n:=by
 have hl:=dlen hD
 have hn:=(zar.1 hD).2
 obtain ⟨L,l1,l2,l3,l4⟩:=zph hX
 refine zbo hD (fun r h=>qdmz.v (by simp (disch:=omega) only [↓reduceIte,BQ,Nat.reduceMod,Nat.reduceBEq,LN,S]; exact Ev.bind h (Ev.now _))) (fun Z h line hr=>qhez.v (Ev.bind hr (by simp (disch:=omega) only [↓reduceIte,BQ,Nat.reduceMod,Nat.reduceBEq,LN,S]; exact Ev.bind h (Ev.now _)))) ?_
 obtain ⟨T,ok,x,y⟩:=ztC D n ([],(0,(0,(0,(0,([],(X,[]))))))) l1 l2 (by omega) l3
 exact ⟨T,ok,qfkz.v (by simp (disch:=omega) only [↓reduceIte,BQ,Nat.reduceMod,Nat.reduceBEq,LN,S]; exact Ev.bind (qerz.v (by simp (disch:=omega) only [↓reduceIte,BQ,Nat.reduceMod,Nat.reduceBEq,LN,S]; exact x)) (Ev.now _)),qcgz.v (by simp (disch:=omega) only [↓reduceIte,BQ,Nat.reduceMod,Nat.reduceBEq,LN,S]; exact y)⟩
theorem zpy {X:List Wk} (hX:zam 6 vOk X=true):Act (bs [103,117,105,100,101,115]) ([],(0,(0,(0,(0,([],(X,[]))))))) D n:=by
 have hl:=dlen hD
 have hn:=(zar.1 hD).2
 obtain ⟨L,l1,l2,l3,l4⟩:=zhk hX
 refine zbo hD (fun r h=>qdmz.v (by simp (disch:=omega) only [↓reduceIte,BQ,Nat.reduceMod,Nat.reduceBEq,LN,S]; exact Ev.bind h (Ev.now _))) (fun Z h line hr=>qhez.v (Ev.bind hr (by simp (disch:=omega) only [↓reduceIte,BQ,Nat.reduceMod,Nat.reduceBEq,LN,S]; exact Ev.bind h (Ev.now _)))) ?_
 obtain ⟨T,ok,x,y⟩:=zlp D n ([],(0,(0,(0,(0,([],(X,[]))))))) l1 l2 (by omega) l4
 exact ⟨T,ok,qfkz.v (by simp (disch:=omega) only [↓reduceIte,BQ,Nat.reduceMod,Nat.reduceBEq,LN,S]; exact Ev.bind (qerz.v (by simp (disch:=omega) only [↓reduceIte,BQ,Nat.reduceMod,Nat.reduceBEq,LN,S]; exact x)) (Ev.now _)),qcgz.v (by simp (disch:=omega) only [↓reduceIte,BQ,Nat.reduceMod,Nat.reduceBEq,LN,S]; exact y)⟩
end
theorem zq9 {n:Nat} {ok:Wk->Bool} {o:Option (List Wk)} (h:(zaW n ok o).2=true):zam n ok (zaW n ok o).1=true:=by
 cases o with
 | none=>cases h
 | some L =>
  unfold zaW at *
  by_cases c:zam n ok L=true
  · simp only [if_pos c]; exact c
  · simp only [if_neg c] at h; cases h
theorem zef {w:List UInt8} {s t:Ar} (h:zaG 78 w s=some t):∃ m:Nat,m<=999999/\t=(s.1,(s.2.1,(s.2.2.1,(s.2.2.2.1,(s.2.2.2.2.1,(s.2.2.2.2.2.1,(s.2.2.2.2.2.2.1,s.2.2.2.2.2.2.2++[(m:Int)]))))))):=by
 rw [zlo] at h
 have hb:=zsG w
 by_cases c:0<=l1r w
 · rw [if_pos c] at h
   injection h with h
   exact ⟨(l1r w).toNat,by omega,by rw [show (((l1r w).toNat:Nat):Int)=l1r w by omega]; exact h.symm⟩
 · rw [if_neg c] at h; cases h
theorem zut {w:List UInt8} {s t:Ar} (h:zaG 87 w s=some t):∃ X,zam 8 wOk X=true/\t=(X,s.2):=by
 unfold zaG at h
 rw [if_pos rfl] at h
 split at h
 · rename_i c
   injection h with h
   exact ⟨_,zq9 c,h.symm⟩
 · cases h
theorem ztH {w:List UInt8} {s t:Ar} (h:zaG 67 w s=some t):∃ a l r d:Int,t=(s.1,(a,(l,(r,(d,s.2.2.2.2.2))))):=by
 unfold zaG at h
 rw [if_neg (by decide),if_pos rfl] at h
 split at h
 · injection h with h
   exact ⟨_,_,_,_,h.symm⟩
 · cases h
theorem ztI {w:List UInt8} {s t:Ar} (h:zaG 76 w s=some t):∃ X,t=(s.1,(s.2.1,(s.2.2.1,(s.2.2.2.1,(s.2.2.2.2.1,(X,s.2.2.2.2.2.2)))))):=by
 unfold zaG at h
 rw [if_neg (by decide),if_neg (by decide),if_pos rfl] at h
 split at h
 · injection h with h
   exact ⟨_,h.symm⟩
 · cases h
theorem zuu {w:List UInt8} {s t:Ar} (h:zaG 86 w s=some t):∃ X,zam 6 vOk X=true/\t=(s.1,(s.2.1,(s.2.2.1,(s.2.2.2.1,(s.2.2.2.2.1,(s.2.2.2.2.2.1,(X,s.2.2.2.2.2.2.2))))))):=by
 unfold zaG at h
 rw [if_neg (by decide),if_neg (by decide),if_neg (by decide),if_pos rfl] at h
 split at h
 · rename_i c
   injection h with h
   exact ⟨_,zq9 c,h.symm⟩
 · cases h
theorem zeg {c:Nat} {w:List UInt8} {s t:Ar} (h:zcQ [c] [w] s=some t):zaG c w s=some t:=by
 have h':(zaG c w s).bind (fun s=>some s)=some t:=h
 cases e:zaG c w s with
 | none=>rw [e] at h'; cases h'
 | some u=>rw [e] at h'; exact h'
theorem zjL {c c2:Nat} {w w2:List UInt8} {s t:Ar} (h:zcQ [c,c2] [w,w2] s=some t):∃ u,zaG c w s=some u/\zaG c2 w2 u=some t:=by
 have h':(zaG c w s).bind (zcQ [c2] [w2])=some t:=h
 cases e:zaG c w s with
 | none=>rw [e] at h'; cases h'
 | some u=>rw [e] at h'; exact ⟨u,rfl,zeg h'⟩
theorem zsM {c c2 c3:Nat} {w w2 w3:List UInt8} {s t:Ar} (h:zcQ [c,c2,c3] [w,w2,w3] s=some t):∃ u v,zaG c w s=some u/\zaG c2 w2 u=some v/\zaG c3 w3 v=some t:=by
 have h':(zaG c w s).bind (zcQ [c2,c3] [w2,w3])=some t:=h
 cases e:zaG c w s with
 | none=>rw [e] at h'; cases h'
 | some u=>rw [e] at h'; obtain ⟨v,a,b⟩:=zjL h'; exact ⟨u,v,rfl,a,b⟩
theorem len3 {α:Type} {l:List α} (h:l.length=3):∃ a b c,l=[a,b,c]:=by
 match l,h with
 | [a,b,c],_=>exact ⟨a,b,c,rfl⟩
def s0:Ar:=([],(0,(0,(0,(0,([],([],[])))))))
theorem ztJ {D:List Wk} {n:Int} (hD:dOk D n=true) {e:List Nat×List Nat} (he:e∈zb2) {ws:List (List UInt8)} (hl:e.2.length=ws.length) {t:Ar} (ht:zcQ e.2 ws s0=some t):Act (bs e.1) t D n:=by
 unfold zb2 at he
 simp only [List.mem_cons,List.not_mem_nil,or_false] at he
 rcases he with rfl | rfl | rfl | rfl | rfl | rfl | rfl | rfl | rfl | rfl | rfl | rfl | rfl | rfl | rfl | rfl | rfl | rfl | rfl | rfl | rfl | rfl | rfl | rfl | rfl | rfl
 · obtain ⟨w,rfl⟩:=List.length_eq_one_iff.1 hl.symm
   obtain ⟨X,hX,rfl⟩:=zut (zeg ht)
   exact znI hD hX
 · obtain ⟨w,rfl⟩:=List.length_eq_one_iff.1 hl.symm
   obtain ⟨X,hX,rfl⟩:=zut (zeg ht)
   exact ztD hD hX
 · obtain ⟨w,rfl⟩:=List.length_eq_one_iff.1 hl.symm
   obtain ⟨m,hm,rfl⟩:=zef (zeg ht)
   exact zsd hD hm
 · obtain ⟨w,rfl⟩:=List.length_eq_one_iff.1 hl.symm
   obtain ⟨m,hm,rfl⟩:=zef (zeg ht)
   exact zse hD hm
 · obtain ⟨w,rfl⟩:=List.length_eq_one_iff.1 hl.symm
   obtain ⟨m,hm,rfl⟩:=zef (zeg ht)
   exact zsf hD hm
 · obtain ⟨w,rfl⟩:=List.length_eq_one_iff.1 hl.symm
   obtain ⟨m,hm,rfl⟩:=zef (zeg ht)
   exact zus hD hm
 · have hw:ws=[]:=List.length_eq_zero_iff.1 hl.symm
   subst hw
   injection ht with ht
   subst ht
   exact zsg hD
 · have hw:ws=[]:=List.length_eq_zero_iff.1 hl.symm
   subst hw
   injection ht with ht
   subst ht
   exact zq5 hD
 · have hw:ws=[]:=List.length_eq_zero_iff.1 hl.symm
   subst hw
   injection ht with ht
   subst ht
   exact zq6 hD
 · have hw:ws=[]:=List.length_eq_zero_iff.1 hl.symm
   subst hw
   injection ht with ht
   subst ht
   exact zsh hD
 · have hw:ws=[]:=List.length_eq_zero_iff.1 hl.symm
   subst hw
   injection ht with ht
   subst ht
   exact zsi hD
 · have hw:ws=[]:=List.length_eq_zero_iff.1 hl.symm
   subst hw
   injection ht with ht
   subst ht
   exact zq4 hD
 · obtain ⟨w,w2,rfl⟩:=len2 hl.symm
   obtain ⟨u,h1,h2⟩:=zjL ht
   obtain ⟨m,hm,rfl⟩:=zef h1
   obtain ⟨m2,hm2,rfl⟩:=zef h2
   exact zsj hD hm hm2
 · obtain ⟨w,w2,rfl⟩:=len2 hl.symm
   obtain ⟨u,h1,h2⟩:=zjL ht
   obtain ⟨m,hm,rfl⟩:=zef h1
   obtain ⟨m2,hm2,rfl⟩:=zef h2
   exact zq7 hD hm hm2
 · obtain ⟨w,w2,rfl⟩:=len2 hl.symm
   obtain ⟨u,h1,h2⟩:=zjL ht
   obtain ⟨m,hm,rfl⟩:=zef h1
   obtain ⟨m2,hm2,rfl⟩:=zef h2
   exact zpu hD hm hm2
 · obtain ⟨w,w2,rfl⟩:=len2 hl.symm
   obtain ⟨u,h1,h2⟩:=zjL ht
   obtain ⟨m,hm,rfl⟩:=zef h1
   obtain ⟨m2,hm2,rfl⟩:=zef h2
   exact ztE hD hm hm2
 · obtain ⟨w,w2,rfl⟩:=len2 hl.symm
   obtain ⟨u,h1,h2⟩:=zjL ht
   obtain ⟨m,hm,rfl⟩:=zef h1
   obtain ⟨m2,hm2,rfl⟩:=zef h2
   exact zpv hD hm hm2
 · obtain ⟨w,rfl⟩:=List.length_eq_one_iff.1 hl.symm
   obtain ⟨a,l,r,d,rfl⟩:=ztH (zeg ht)
   exact ztF hD
 · obtain ⟨w,rfl⟩:=List.length_eq_one_iff.1 hl.symm
   obtain ⟨a,l,r,d,rfl⟩:=ztH (zeg ht)
   exact ztG hD
 · obtain ⟨w,w2,rfl⟩:=len2 hl.symm
   obtain ⟨u,h1,h2⟩:=zjL ht
   obtain ⟨a,l,r,d,rfl⟩:=ztH h1
   obtain ⟨m,hm,rfl⟩:=zef h2
   exact zq8 hD
 · obtain ⟨w,rfl⟩:=List.length_eq_one_iff.1 hl.symm
   obtain ⟨X,rfl⟩:=ztI (zeg ht)
   exact zsk hD
 · obtain ⟨w,rfl⟩:=List.length_eq_one_iff.1 hl.symm
   obtain ⟨X,rfl⟩:=ztI (zeg ht)
   exact zsl hD
 · obtain ⟨w,w2,w3,rfl⟩:=len3 hl.symm
   obtain ⟨u,v,h1,h2,h3⟩:=zsM ht
   obtain ⟨X,rfl⟩:=ztI h1
   obtain ⟨m,hm,rfl⟩:=zef h2
   obtain ⟨m2,hm2,rfl⟩:=zef h3
   exact zsm hD
 · obtain ⟨w,rfl⟩:=List.length_eq_one_iff.1 hl.symm
   obtain ⟨X,hX,rfl⟩:=zuu (zeg ht)
   exact zpx hD hX
 · obtain ⟨w,rfl⟩:=List.length_eq_one_iff.1 hl.symm
   obtain ⟨X,hX,rfl⟩:=zuu (zeg ht)
   exact zpy hD hX
 · obtain ⟨w,w2,w3,rfl⟩:=len3 hl.symm
   obtain ⟨u,v,h1,h2,h3⟩:=zsM ht
   obtain ⟨m,hm,rfl⟩:=zef h1
   obtain ⟨m2,hm2,rfl⟩:=zef h2
   obtain ⟨m3,hm3,rfl⟩:=zef h3
   exact zpw hD
theorem ztK:∀ e∈zb2,∀ c∈e.2,zhQ c:=by
 unfold zb2 zhQ
 decide
theorem zsn:∀ e∈zb2,e.2.length<=3:=by decide
theorem zow {D:List Wk} {n:Int} {l:List UInt8} (hl:l.length<=100000) {w0:List UInt8} {ws:List (List UInt8)} (hs:zah 32 l=w0::ws) {Sh:BA} (hS:qgez.f (bL w0)=some Sh) {r:zur}
    (h:(Sh.size:Int) ≠ (ws.length:Int)->r.1=bs []/\r.2.1=(D,(n,s0))/\r.2.2=false) (h':(Sh.size:Int)=(ws.length:Int)->Ev (fun k=>zkD k (bL w0::ws.map bL) Sh (ws.map bL) (ws.length:Int) 0 D n s0) r):Ev (fun k=>qhgz.f k D n (bL l)) r:=by
 have hb:=zbP 32 l
 rw [hs,List.length_cons] at hb
 have hq:Ev (fun k=>qfqz.f k (bL l) 32) (bL w0::ws.map bL):=by
  have:=zaU (l:=l) (by omega) 32
  rw [hs] at this
  exact this
 have hlen:(bL w0::ws.map bL).length=ws.length+1:=by simp
 refine qhgz.v (Ev.bind hq ?_)
 simp (disch:=omega) only [S,rd0,hS,hlen]
 by_cases c:(Sh.size:Int)=(ws.length:Int)
 · have e:((Sh.size:Int) != (((ws.length+1:Nat):Int)-1))=false:=by rw [bne_eq_false_iff_eq]; omega
   have e2:List.drop 1 (bL w0::ws.map bL)=ws.map bL:=rfl
   have e3:(ws.map bL).length=ws.length:=List.length_map _
   simp (disch:=omega) only [S,e,e2,e3]
   exact h' c
 · have e:((Sh.size:Int) != (((ws.length+1:Nat):Int)-1))=true:=by rw [bne_iff_ne]; omega
   simp (disch:=omega) only [S,e]
   obtain ⟨r1,⟨r2,r3⟩,r4⟩:=r
   obtain ⟨z1,z2,z3⟩:=h c
   simp only at z1 z2 z3
   subst z1 z3
   cases z2
   exact Ev.now _
theorem zox {D:List Wk} {n:Int} {l:List UInt8} (hl:l.length<=100000) {w0:List UInt8} {ws:List (List UInt8)} (hs:zah 32 l=w0::ws) {Fm:BA} (hS:qfmz.f (bL w0)=some (Fm,true)) {r:(List Wk×Int)×BA}
    (h:(Fm.size:Int) ≠ (ws.length:Int)->r=((D,n),zpt)) (h':(Fm.size:Int)=(ws.length:Int)->Ev (fun k=>zmH k (bL w0::ws.map bL) Fm (ws.map bL) (ws.length:Int) 0 D n s0) r):Ev (fun k=>qfaz.f k D n (bL l)) r:=by
 have hb:=zbP 32 l
 rw [hs,List.length_cons] at hb
 have hq:qffz.f (bL l) (bs [32])=some (bL w0::ws.map bL):=by
  have:=za6 (l:=l) (by omega) 32
  rw [hs] at this
  exact this
 have hlen:(bL w0::ws.map bL).length=ws.length+1:=by simp
 refine qfaz.v ?_
 simp (disch:=omega) only [S,hq,rd0,hS,hlen]
 by_cases c:(Fm.size:Int)=(ws.length:Int)
 · have e:((Fm.size:Int) != (((ws.length+1:Nat):Int)-1))=false:=by rw [bne_eq_false_iff_eq]; omega
   have e2:List.drop 1 (bL w0::ws.map bL)=ws.map bL:=rfl
   have e3:(ws.map bL).length=ws.length:=List.length_map _
   simp (disch:=omega) only [S,e,e2,e3]
   exact h' c
 · have e:((Fm.size:Int) != (((ws.length+1:Nat):Int)-1))=true:=by rw [bne_iff_ne]; omega
   simp (disch:=omega) only [S,e]
   rw [h c]
   exact Ev.now _
theorem zlr {D:List Wk} {n:Int} {l:BA} {z} (h:Ev (fun k=>qhgz.f k D n l) (bs [],(z,false))):Ev (fun k=>qhez.f k D n l) ((D,n),zpt):=by
 refine qhez.v (Ev.bind h ?_)
 simp only [S]
 exact Ev.now _
theorem zso {D:List Wk} {n:Int} (hD:dOk D n=true) {l:List UInt8} (hl:l.length<=100000):∃ r:(List Wk×Int)×BA,dOk r.1.1 r.1.2=true/\Kept D n r/\Ev (fun k=>qfaz.f k D n (bL l)) r/\Ev (fun k=>qhez.f k D n (bL l)) r:=by
 have hb:=zbP 32 l
 have hm:=zb8 32 l
 cases hs:zah 32 l with
 | nil=>exact absurd hs (zd7 32 l)
 | cons w0 ws =>
  rw [hs,List.length_cons] at hb
  have hw:∀ w∈ws,w.length<=2000000:=fun w h=>by
   have:=hm w (by rw [hs]; exact List.mem_cons_of_mem _ h)
   omega
  rcases znH w0 with ⟨u1,u2⟩ | ⟨e,he,e1,e2,e3⟩
  · refine ⟨((D,n),zpt),hD,.inl rfl,?_,zlr (z:=(D,(n,s0))) (zow hl hs u2 (fun _=>⟨rfl,rfl,rfl⟩) (fun hc=>?_))⟩
    · have hq:qffz.f (bL l) (bs [32])=some (bL w0::ws.map bL):=by
       have:=za6 (l:=l) (by omega) 32
       rw [hs] at this
       exact this
      have hlen:(bL w0::ws.map bL).length=ws.length+1:=by simp
      refine qfaz.v ?_
      simp (disch:=omega) only [S,hq,rd0,u1,hlen]
      exact Ev.now _
    · rw [zf8] at hc
      simp only [List.length_cons,List.length_nil] at hc
      have hml:(ws.map bL).length=ws.length:=List.length_map _
      have hz:bat (bs [63]) (0:Int)=63:=by
       have:=zq0 (fs:=[63]) (i:=0) (by decide)
       exact this
      have hz2:(bs [63]).size=1:=zf8 [63]
      refine qhgz.v0 ?_
      have c0:iLt 0 (ws.length:Int)=true:=decide_eq_true (by omega)
      have c1:∀ {β:Type} (x:Option β),ix 0 (ws.map bL) x=x:=fun x=>S.2.1 (by decide) (by omega)
      have c2:∀ {β:Type} (x:Option β),gd (0 < sln (bs [63])) x=x:=fun x=>S.1 (by show (0:Int) < ((bs [63]).size:Int); omega)
      have c3:∀ {β:Type} (x:Option β),gd ((0:Int)<=0) x=x:=fun x=>S.1 (by decide)
      have d1:((63:Int) == 110)=false:=by decide
      have d2:((63:Int) == 119)=false:=by decide
      have d3:((63:Int) == 99)=false:=by decide
      have d4:((63:Int) == 108)=false:=by decide
      have d5:((63:Int) == 118)=false:=by decide
      simp only [c0,c1,c2,c3,hz,d1,d2,d3,d4,d5,if_true,Bool.false_eq_true,if_false]
      exact Ev.now _
  · rw [<- e1] at e2 e3
    have z1:=zf8 e.2
    have z2:=zf8 (e.2.map (· + 32))
    rw [List.length_map] at z2
    by_cases hc:e.2.length=ws.length
    · have h3:=zsn e he
      have hr:=zmI (w0:=w0) (D:=D) (n:=n) (ztK e he) hc (by omega) hw ws.length 0 (by omega) s0 (by decide)
      rw [List.drop_zero,List.drop_zero] at hr
      cases ht:zcQ e.2 ws s0 with
      | none =>
       obtain ⟨a,z,b⟩:=hr.1 ht
       exact ⟨((D,n),zpt),hD,.inl rfl,zox hl hs e2 (fun h=>absurd (by omega) h) (fun _=>a),zlr (zow hl hs e3 (fun h=>absurd (by omega) h) (fun _=>b))⟩
      | some t =>
       obtain ⟨a,b⟩:=hr.2 t ht
       obtain ⟨r,r1,r5,⟨R,r2,r3⟩,r4⟩:=ztJ hD he hc ht
       rw [<- e1] at r2 r4
       refine ⟨r,r1,r5,zox hl hs e2 (fun h=>absurd (by omega) h) (fun _=>by rw [r3]; exact a R r2),r4 _ (zow hl hs e3 (fun h=>absurd (by omega) h) (fun _=>b))⟩
    · exact ⟨((D,n),zpt),hD,.inl rfl,zox hl hs e2 (fun _=>rfl) (fun h=>absurd (by omega) hc),zlr (z:=(D,(n,s0))) (zow hl hs e3 (fun _=>⟨rfl,rfl,rfl⟩) (fun h=>absurd (by omega) hc))⟩
theorem zpz {c:UInt8}:∀ {l:List UInt8},c∈l->1 < (zah c l).length:=by
 intro l
 induction l with
 | nil=>intro h; simp at h
 | cons b l ih =>
  intro h
  have h0:=zd7 c l
  unfold zah
  by_cases e:b=c
  · rw [if_pos e,List.length_cons]
    have:=List.length_pos_iff.2 h0
    omega
  · rw [if_neg e]
    have h':c∈l:=by
     rcases List.mem_cons.1 h with h | h
     · exact absurd h.symm e
     · exact h
    have:=ih h'
    cases hs:zah c l with
    | nil=>exact absurd hs h0
    | cons w ws=>rw [hs] at this; simpa using this
theorem ib {c:UInt8}:∀ l:List UInt8,(c∈l->0<=Lib.indexByte l c)/\(c ∉ l->Lib.indexByte l c = -1)
 | []=>⟨fun h=>by simp at h,fun _=>rfl⟩
 | b::l=>by
  obtain ⟨h1,h2⟩:=ib (c:=c) l
  unfold Lib.indexByte
  by_cases e:b=c
  · subst e
    exact ⟨fun _=>by simp,fun h=>absurd (List.mem_cons_self) h⟩
  · have e':(b == c)=false:=by simpa using e
    rw [e',if_neg (by decide)]
    refine ⟨fun h=>?_,fun h=>?_⟩
    · have h':c∈l:=by
       rcases List.mem_cons.1 h with h | h
       · exact absurd h.symm e
       · exact h
      have:=h1 h'
      rw [if_neg (by rw [beq_iff_eq]; omega)]
      omega
    · have:=h2 (fun hc=>h (List.mem_cons_of_mem _ hc))
      rw [this]; rfl
theorem zjM (l:List UInt8) (c:UInt8):qdjz.f (bL l) (bL [c])=some (decide (1 < (zah c l).length)):=by
 have h1:zci (bL l) (bL [c])=decide (1 < (zah c l).length):=by
  unfold zci
  rw [zmr,zmr,show ([c]:List UInt8).headD 0=c from rfl]
  by_cases h:c∈l
  · rw [decide_eq_true (zpz h),decide_eq_true ((ib l).1 h)]
  · rw [ze0 c l h,(ib l).2 h]
    rfl
 show (bif oneB (bL l) (bL [c]) then some (zci (bL l) (bL [c])) else none)=_
 rw [h1]
 rfl
theorem zra (n:Int):IntKind.u64.wrap n=n % 18446744073709551616:=by simp [IntKind.wrap,IntKind.bits,IntKind.signed]
theorem u64w (n:Int):0<=IntKind.u64.wrap n/\IntKind.u64.wrap n < 18446744073709551616:=by
 rw [zra]
 omega
theorem zuv {x:Int} (h0:0<=x) (h1:x < 18446744073709551616):Go.bits .and .u64 x 255=x % 256:=by
 have e:(2:Int) ^ 64=18446744073709551616:=by decide
 have h:=bits_mask .u64 64 (by decide) (fun n h₀ h₁=>by
  rw [zra]
  rw [e] at h₁
  omega) 8 (by decide) x h0 (by rw [e]; exact h1)
 exact h
theorem zuw {a:Int} (h:(Lit.int .u8 a).wf=true):0<=a/\a<=255:=by
 have h':=h
 simp only [Lit.wf,Bool.and_eq_true,decide_eq_true_eq] at h'
 have e1:IntKind.u8.min=0:=by decide
 have e2:IntKind.u8.max=255:=by decide
 rw [e1,e2] at h'
 exact h'
def zaX (s:List Int):Prop:=∀ x∈s,0<=x/\x<=255
theorem ztL {s:List Int} (hs:zaX s) (i:Int):0<=rd 0 s i/\rd 0 s i<=255:=by
 unfold rd
 rw [List.getD_eq_getElem?_getD]
 cases h:s[i.toNat]? with
 | none=>simp
 | some x=>exact hs x (List.mem_of_getElem? h)
theorem zoy (n:Int):0<=W (Go.bits .and .u64 (ishr (IntKind.u64.wrap n) 40) 255)/\W (Go.bits .and .u64 (ishr (IntKind.u64.wrap n) 40) 255)<=255:=by
 have h:=u64w n
 have e:ishr (IntKind.u64.wrap n) 40=(IntKind.u64.wrap n) / 1099511627776:=by
  show Int.fdiv (IntKind.u64.wrap n) (2 ^ (40:Int).toNat)=_
  rw [show (2:Int) ^ (40:Int).toNat=1099511627776 from by decide,Int.fdiv_eq_ediv_of_nonneg _ (by omega)]
 rw [e,zuv (by omega) (by omega),w64 (by omega) (by omega)]
 omega
def Goes {α:Type} (s:List Int) (a n:Int) (x:Option (α×List Int×Int×Int)) (P:α->Prop):Prop:=∃ v a' e,x=some (v,s,a',e)/\a<=a' /\ a' <= a+n/\P v
theorem Goes.bind {α β:Type} {s:List Int} {a n m:Int} {x:Option (α×List Int×Int×Int)} {P:α->Prop} {f:α×List Int×Int×Int->Option (β×List Int×Int×Int)} {Q:β->Prop} (h:Goes s a n x P)
    (k:∀ v a' e,a<=a'->a' <= a+n->P v->Goes s a' m (f (v,s,a',e)) Q):Goes s a (n+m) (x.bind f) Q:=by
 obtain ⟨v,a',e,rfl,h1,h2,h3⟩:=h
 obtain ⟨u,b,g,h4,h5,h6,h7⟩:=k v a' e h1 h2 h3
 exact ⟨u,b,g,h4,by omega,by omega,h7⟩
theorem Goes.step {α β:Type} {s:List Int} {a n m l:Int} {x:Option (α×List Int×Int×Int)} {P:α->Prop} {f:α×List Int×Int×Int->Option (β×List Int×Int×Int)} {Q:β->Prop} (h:Goes s a n x P) (hl:n+m<=l)
    (k:∀ v a' e,a<=a'->a' <= a+n->P v->Goes s a' m (f (v,s,a',e)) Q):Goes s a l (x.bind f) Q:=by
 obtain ⟨u,b,g,h4,h5,h6,h7⟩:=h.bind k
 exact ⟨u,b,g,h4,h5,by omega,h7⟩
theorem Goes.now {α:Type} {s:List Int} {a e:Int} {v:α} {P:α->Prop} (h:P v):Goes s a 0 (some (v,s,a,e)) P:=⟨v,a,e,rfl,by omega,by omega,h⟩
theorem Goes.le {α:Type} {s:List Int} {a n m:Int} {x:Option (α×List Int×Int×Int)} {P Q:α->Prop} (h:Goes s a n x P) (hn:n<=m) (hP:∀ v,P v->Q v):Goes s a m x Q:=by
 obtain ⟨v,a',e,h0,h1,h2,h3⟩:=h
 exact ⟨v,a',e,h0,h1,by omega,hP v h3⟩
theorem Goes.ite {α:Type} {s:List Int} {a n:Int} {c:Prop} [Decidable c] {x y:Option (α×List Int×Int×Int)} {P:α->Prop} (h:c->Goes s a n x P) (k:¬ c->Goes s a n y P):Goes s a n (if c then x else y) P:=by
 by_cases hc:c
 · rw [if_pos hc]; exact h hc
 · rw [if_neg hc]; exact k hc
theorem zpA {α β:Type} {i:Int} {xs:List α} {x:Option β} (h0:0<=i) (h1:i < (xs.length:Int)):ix i xs x=x:=by simp (disch:=omega) only [S]
theorem zrb {β:Type} {c:Prop} [Decidable c] {x:Option β} (h:c):gd c x=x:=if_pos h
theorem zcW {s:List Int} (hs:zaX s) {a:Int} (d:Int) (h0:0<=a) (h1:a<=1000000000000):Goes s a 1 (qdzz.f s a d) fun v=>0<=v/\v<=255:=by
 have hb:=ztL hs a
 unfold qdzz.f
 rw [w64 (x:=a+1) (by omega) (by omega),w64 (x:=rd 0 s a) (by omega) (by omega)]
 refine Goes.ite (fun c=>?_) (fun c=>?_)
 · rw [zpA h0 (of_decide_eq_true c)]
   refine Goes.ite (fun c=>?_) (fun c=>?_)
   · exact ⟨_,_,_,rfl,by omega,by omega,hb⟩
   · exact ⟨_,_,_,rfl,by omega,by omega,zoy _⟩
 · refine Goes.ite (fun c=>?_) (fun c=>?_)
   · exact ⟨_,_,_,rfl,by omega,by omega,by omega⟩
   · exact ⟨_,_,_,rfl,by omega,by omega,zoy _⟩
theorem zrc {a n:Int} (ha:0<=a) (hn:0 < n):0<=Int.tmod a n/\Int.tmod a n < n:=by
 rw [Int.tmod_eq_emod_of_nonneg ha]
 exact ⟨Int.emod_nonneg _ (by omega),Int.emod_lt_of_pos _ hn⟩
theorem zcX {s:List Int} (hs:zaX s) {a:Int} (d:Int) (n:Int) (h0:0<=a) (h1:a<=1000000000):Goes s a 2 (qdpz.f s a d n) fun v=>0<=v/\(1<=n->v < n)/\(n<=1->v=0):=by
 unfold qdpz.f
 refine Goes.ite (fun hn=>?_) (fun hn=>?_)
 · have hn:=of_decide_eq_true hn
   exact ⟨_,_,_,rfl,by omega,by omega,by omega,fun _=>by omega,fun _=>rfl⟩
 · have hn:¬ n<=1:=fun h=>hn (decide_eq_true h)
   refine Goes.bind (n:=1) (m:=1) (zcW hs d h0 (by omega)) fun v a' e g1 g2 hv=>?_
   refine Goes.ite (fun hb=>?_) (fun hb=>?_)
   · refine Goes.le (Goes.bind (n:=1) (m:=0) (zcW hs e (by omega) (by omega)) fun v' b f _ _ hv'=>?_) (by omega) (fun v h=>h)
     simp only [if_neg (show ¬ n=0 by omega)]
     have:=zrc (a:=W (W (v*256)+v')) (n:=n) (by rw [w64 (x:=v*256) (by omega) (by omega),w64 (by omega) (by omega)]; omega) (by omega)
     exact Goes.now ⟨this.1,fun _=>this.2,fun h=>absurd h hn⟩
   · simp only [if_neg (show ¬ n=0 by omega)]
     have:=zrc (a:=v) (n:=n) hv.1 (by omega)
     exact Goes.le (Goes.now ⟨this.1,fun _=>this.2,fun h=>absurd h hn⟩) (by omega) (fun v h=>h)
theorem zbj {s:List Int} (hs:zaX s) {a:Int} (d:Int) {n:Int} (hn:1<=n) (h0:0<=a) (h1:a<=1000000000):Goes s a 2 (qdpz.f s a d n) fun v=>0<=v/\v < n :=
 (zcX hs d n h0 h1).le (by omega) fun v h=>⟨h.1,h.2.1 hn⟩
theorem zbM {s:List Int} (hs:zaX s) {a:Int} (d:Int) {l:List Int} (hl:1<=l.length) (h0:0<=a) (h1:a<=1000000000):Goes s a 2 (qdkz.f s a d l) fun v=>v∈l:=by
 unfold qdkz.f
 refine (Goes.bind (n:=2) (m:=0) (zbj hs d (n:=ln l) (by simp only [ln]; omega) h0 h1) fun v a' e _ _ hv=>?_).le (by omega) fun _ h=>h
 simp only [zpA hv.1 hv.2]
 refine Goes.now ?_
 unfold rd
 rw [List.getD_eq_getElem?_getD,List.getElem?_eq_getElem (by simp only [ln] at hv; omega)]
 exact List.getElem_mem _
theorem zgK {s:List Int} (hs:zaX s) {a:Int} (d:Int) {l:List BA} (hl:1<=l.length) (h0:0<=a) (h1:a<=1000000000):Goes s a 2 (qewz.f s a d l) fun v=>v∈l:=by
 unfold qewz.f
 refine (Goes.bind (n:=2) (m:=0) (zbj hs d (n:=ln l) (by simp only [ln]; omega) h0 h1) fun v a' e _ _ hv=>?_).le (by omega) fun _ h=>h
 simp only [zpA hv.1 hv.2]
 refine Goes.now ?_
 unfold rd
 rw [List.getD_eq_getElem?_getD,List.getElem?_eq_getElem (by simp only [ln] at hv; omega)]
 exact List.getElem_mem _
theorem zf9 {s:List Int} (hs:zaX s) {a:Int} (d:Int) (n:Int) (h0:0<=a) (h1:a<=1000000000):Goes s a 2 (qeuz.f s a d n) fun _=>True:=by
 unfold qeuz.f
 exact Goes.step (n:=2) (m:=0) (zcX hs d n h0 h1) (by omega) fun v a' e _ _ _=>Goes.now trivial
def EvGoes {α:Type} (s:List Int) (a n:Int) (g:Fu->Option (α×List Int×Int×Int)) (P:α->Prop):Prop:=∃ v a' e,Ev g (v,s,a',e)/\a<=a' /\ a' <= a+n/\P v
theorem Goes.ev {α:Type} {s:List Int} {a n:Int} {x:Option (α×List Int×Int×Int)} {P:α->Prop} (h:Goes s a n x P):EvGoes s a n (fun _=>x) P:=by
 obtain ⟨v,a',e,h0,h1,h2,h3⟩:=h
 exact ⟨v,a',e,⟨0,fun _ _=>h0⟩,h1,h2,h3⟩
theorem EvGoes.bind {α β:Type} {s:List Int} {a n m l:Int} {g:Fu->Option (α×List Int×Int×Int)} {P:α->Prop} {f:Fu->α×List Int×Int×Int->Option (β×List Int×Int×Int)} {Q:β->Prop} (h:EvGoes s a n g P) (hl:n+m<=l)
    (k:∀ v a' e,a<=a'->a' <= a+n->P v->EvGoes s a' m (fun k=>f k (v,s,a',e)) Q):EvGoes s a l (fun k=>(g k).bind (f k)) Q:=by
 obtain ⟨v,a',e,h0,h1,h2,h3⟩:=h
 obtain ⟨u,b,q,h4,h5,h6,h7⟩:=k v a' e h1 h2 h3
 exact ⟨u,b,q,Ev.bind h0 h4,by omega,by omega,h7⟩
theorem EvGoes.val {α β:Type} {s:List Int} {a n:Int} {g:Fu->Option α} {v:α} {f:Fu->α->Option (β×List Int×Int×Int)} {Q:β->Prop} (h:Ev g v) (k:EvGoes s a n (fun k=>f k v) Q):EvGoes s a n (fun k=>(g k).bind (f k)) Q:=by
 obtain ⟨u,b,q,h4,h5⟩:=k
 exact ⟨u,b,q,Ev.bind h h4,h5⟩
theorem EvGoes.le {α:Type} {s:List Int} {a n m:Int} {g:Fu->Option (α×List Int×Int×Int)} {P Q:α->Prop} (h:EvGoes s a n g P) (hn:n<=m) (hP:∀ v,P v->Q v):EvGoes s a m g Q:=by
 obtain ⟨v,a',e,h0,h1,h2,h3⟩:=h
 exact ⟨v,a',e,h0,h1,by omega,hP v h3⟩
theorem zaB {s:List Int} (hs:zaX s) {a:Int} (d:Int) (h0:0<=a) (h1:a<=1000000):Goes s a 4 (qblz.f s a d) fun v=>wOk v=true:=by
 unfold qblz.f
 refine Goes.step (n:=2) (m:=2) (zbj hs d (n:=25) (by omega) h0 (by omega)) (by omega) fun v a1 e1 _ _ hv=>?_
 refine Goes.step (n:=2) (m:=0) (zbj hs e1 (n:=11) (by omega) (by omega) (by omega)) (by omega) fun u a2 e2 _ _ hu=>?_
 refine Goes.now ?_
 unfold wOk
 dsimp only
 rw [w64 (by omega) (by omega),w64 (by omega) (by omega),decide_eq_true (by omega),decide_eq_true (by omega)]
 rfl
theorem zb3 {s:List Int} (hs:zaX s) {a:Int} (d:Int) (h0:0<=a) (h1:a<=1000000):Goes s a 8 (qbmz.f s a d) fun v=>(0<=v.1/\v.1<=1000)/\(0<=v.2.1/\v.2.1<=1000)/\(0<=v.2.2.1/\v.2.2.1<=1000)/\(0<=v.2.2.2/\v.2.2.2<=1000):=by
 unfold qbmz.f
 refine Goes.step (n:=2) (m:=6) (zbj hs d (n:=60) (by omega) h0 (by omega)) (by omega) fun v a1 e1 _ _ hv=>?_
 refine Goes.step (n:=2) (m:=4) (zbj hs e1 (n:=5) (by omega) (by omega) (by omega)) (by omega) fun u a2 e2 _ _ hu=>?_
 refine Goes.step (n:=2) (m:=2) (zbj hs e2 (n:=5) (by omega) (by omega) (by omega)) (by omega) fun t a3 e3 _ _ ht=>?_
 have most:∀ x y:Int,0<=x/\x<=5->0<=y/\y<=5->∃ z,qgvz.f x y=some z/\0<=z/\z<=5:=fun x y hx hy=>by
  unfold qgvz.f
  by_cases h:iGt x y=true
  · exact ⟨x,if_pos h,hx.1,hx.2⟩
  · exact ⟨y,if_neg h,hy.1,hy.2⟩
 have key:∀ x:Int,0<=x/\x<=5->Goes s a3 2 ((qgvz.f x t).bind fun t3=>(qdpz.f s a3 e3 5).bind fun t4=>some ((W (1+v),(x,(t,W (W (t3+1)+t4.1)))),t4.2)) fun v=>(0<=v.1/\v.1<=1000)/\(0<=v.2.1/\v.2.1<=1000)/\(0<=v.2.2.1/\v.2.2.1<=1000)/\(0<=v.2.2.2/\v.2.2.2<=1000):=fun x hx=>by
  obtain ⟨z,hz,z0,z1⟩:=most x t hx (by omega)
  rw [hz,Option.bind_some]
  refine Goes.step (n:=2) (m:=0) (zbj hs e3 (n:=5) (by omega) (by omega) (by omega)) (by omega) fun y a4 e4 _ _ hy=>?_
  refine Goes.now ?_
  dsimp only
  rw [w64 (x:=1+v) (by omega) (by omega),w64 (x:=z+1) (by omega) (by omega),w64 (by omega) (by omega)]
  omega
 refine Goes.ite (fun _=>?_) (fun _=>?_)
 · exact key 1 (by omega)
 · exact key u (by omega)
def Txt (n:Nat) (g:Fu->Option BA):Prop:=∃ r:BA,Ev g r/\r.size<=n
theorem ze8 {n:Int} (h0:0<=n) (h1:n<=1000):Ev (fun k=>qihz.f k n) (bL (Lib.itoa n))/\(bL (Lib.itoa n)).size<=5:=⟨zez h0 (by unfold i64; omega),by rw [zai]; exact zaP (by omega) h1⟩
theorem zbq {β:Type} {n:Nat} {x:Option β} (h:n<=1000000):gd (n<=maxLen) x=x:=if_pos (by simp only [maxLen]; omega)
theorem ze9 {a b c e:Int} (h:(0<=a/\a<=1000)/\(0<=b/\b<=1000)/\(0<=c/\c<=1000)/\(0<=e/\e<=1000)):Txt 30 (fun k=>qhsz.f k a b c e):=by
 obtain ⟨⟨ha,ha'⟩,⟨hb,hb'⟩,⟨hc,hc'⟩,he,he'⟩:=h
 obtain ⟨e1,s1⟩:=ze8 ha ha'
 obtain ⟨e2,s2⟩:=ze8 hb hb'
 obtain ⟨e3,s3⟩:=ze8 hc hc'
 obtain ⟨e4,s4⟩:=ze8 he he'
 have o1:(bs [45]).size=1:=rfl
 refine ⟨(((((bL (Lib.itoa a)++bs [45])++bL (Lib.itoa b))++bs [45])++bL (Lib.itoa c))++bs [45])++bL (Lib.itoa e),qhsz.v (Ev.bind e1 ?_),?_⟩
 · refine Ev.eq (fun k=>zbq (by omega)) (Ev.bind e2 (Ev.eq (fun k=>zbq (by simp only [ByteArray.size_append,o1]; omega)) (Ev.eq (fun k=>zbq (by simp only [ByteArray.size_append,o1]; omega)) (Ev.bind e3 (Ev.eq (fun k=>zbq (by simp only [ByteArray.size_append,o1]; omega)) (Ev.eq (fun k=>zbq (by simp only [ByteArray.size_append,o1]; omega)) (Ev.bind e4 (Ev.eq (fun k=>zbq (by simp only [ByteArray.size_append,o1]; omega)) (Ev.now _)))))))))
 · simp only [ByteArray.size_append,o1]; omega
def Small (l:List Wk):Prop:=∀ w∈l,(0<=w.1/\w.1<=1000)/\(0<=w.2/\w.2<=1000)
theorem zsp {l:List Wk} (h:Small l) (i:Nat):(0<=(l.getD i (0,0)).1/\(l.getD i (0,0)).1<=1000)/\(0<=(l.getD i (0,0)).2/\(l.getD i (0,0)).2<=1000):=by
 by_cases hi:i < l.length
 · exact h _ (zaf hi)
 · rw [List.getD_eq_getElem?_getD,List.getElem?_eq_none (by omega)]; decide
theorem zmJ {F:Fu->BA->List Wk->Int->Int->Option BA} {c1 c2:BA} (k1:c1.size=1) (k2:c2.size=1)
    (v:∀ {x0:BA} {x1:List Wk} {x2 x3:Int} {r:BA},Ev (fun k=>if (iLt x3 x2) then ix x3 x1 <| if (iGt x3 0) then gd (((ByteArray.size x0)+1)<=maxLen) <| (qihz.f k (rd (0,0) x1 x3).1).bind fun t0 =>
     gd (((ByteArray.size t0)+1)<=maxLen) <| (qihz.f k (rd (0,0) x1 x3).2).bind fun t1 =>
     gd (((ByteArray.size (t0++c1))+(ByteArray.size t1))<=maxLen) <| gd (((ByteArray.size (x0++c2))+(ByteArray.size ((t0++c1)++t1)))<=maxLen) <| F k ((x0++c2)++((t0++c1)++t1)) x1 x2 (W (x3+1)) else (qihz.f k (rd (0,0) x1 x3).1).bind fun t0 =>
     gd (((ByteArray.size t0)+1)<=maxLen) <| (qihz.f k (rd (0,0) x1 x3).2).bind fun t1 =>
     gd (((ByteArray.size (t0++c1))+(ByteArray.size t1))<=maxLen) <| gd (((ByteArray.size x0)+(ByteArray.size ((t0++c1)++t1)))<=maxLen) <| F k (x0++((t0++c1)++t1)) x1 x2 (W (x3+1)) else some x0) r->Ev (fun k=>F k x0 x1 x2 x3) r)
    {l:List Wk} (hl:Small l) (hn:l.length<=10):∀ (m i:Nat) (x0:BA),i+m=l.length->x0.size+12*m<=1000->∃ r,Ev (fun k=>F k x0 l (l.length:Int) (i:Int)) r/\r.size<=x0.size+12*m:=by
 intro m
 induction m with
 | zero =>
  intro i x0 hi hx
  refine ⟨x0,v ?_,by omega⟩
  have c:iLt (i:Int) (l.length:Int)=false:=decide_eq_false (by omega)
  simp only [c,Bool.false_eq_true,if_false]
  exact Ev.now _
 | succ m ih =>
  intro i x0 hi hx
  obtain ⟨⟨p1,p2⟩,p3,p4⟩:=zsp hl i
  obtain ⟨e1,s1⟩:=ze8 p1 p2
  obtain ⟨e2,s2⟩:=ze8 p3 p4
  have c:iLt (i:Int) (l.length:Int)=true:=decide_eq_true (by omega)
  have hix:∀ {β:Type} {x:Option β},ix (i:Int) l x=x:=fun {β x}=>zpA (by omega) (by omega)
  have w1:W ((i:Int)+1)=((i+1:Nat):Int):=by rw [w64 (by omega) (by omega)]; omega
  by_cases h0:0 < i
  · have c0:iGt (i:Int) 0=true:=decide_eq_true (by omega)
    obtain ⟨r,hr,hs⟩:=ih (i+1) ((x0++c2)++((bL (Lib.itoa (l.getD i (0,0)).1)++c1)++bL (Lib.itoa (l.getD i (0,0)).2))) (by omega) (by simp only [ByteArray.size_append,k1,k2]; omega)
    refine ⟨r,v ?_,by simp only [ByteArray.size_append,k1,k2] at hs; omega⟩
    simp only [c,c0,if_true,hix,zhK,w1]
    refine Ev.eq (fun k=>zbq (by omega)) (Ev.bind e1 (Ev.eq (fun k=>zbq (by omega)) (Ev.bind e2 (Ev.eq (fun k=>zbq (by simp only [ByteArray.size_append,k1]; omega)) (Ev.eq (fun k=>zbq (by simp only [ByteArray.size_append,k1,k2]; omega)) hr)))))
  · have c0:iGt (i:Int) 0=false:=decide_eq_false (by omega)
    obtain ⟨r,hr,hs⟩:=ih (i+1) (x0++((bL (Lib.itoa (l.getD i (0,0)).1)++c1)++bL (Lib.itoa (l.getD i (0,0)).2))) (by omega) (by simp only [ByteArray.size_append,k1]; omega)
    refine ⟨r,v ?_,by simp only [ByteArray.size_append,k1] at hs; omega⟩
    simp only [c,c0,if_true,Bool.false_eq_true,if_false,hix,zhK,w1]
    refine Ev.bind e1 (Ev.eq (fun k=>zbq (by omega)) (Ev.bind e2 (Ev.eq (fun k=>zbq (by simp only [ByteArray.size_append,k1]; omega)) (Ev.eq (fun k=>zbq (by simp only [ByteArray.size_append,k1]; omega)) hr))))
theorem zdq {l:List Wk} (hl:Small l) (hn:l.length<=10):Txt 120 (fun k=>qhfz.f k l):=by
 obtain ⟨r,h1,h2⟩:=zmJ (F:=qhfz.l0) (c1:=bs [47]) (c2:=bs [43]) rfl rfl (fun h=>qhfz.v0 h) hl hn l.length 0 (bs []) (by omega) (by show 0+12*l.length<=1000; omega)
 exact ⟨r,qhfz.v h1,by have h3:r.size<=0+12*l.length:=h2; omega⟩
theorem zfa {l:List Wk} (hl:Small l) (hn:l.length<=10):Txt 120 (fun k=>qhtz.f k l):=by
 obtain ⟨r,h1,h2⟩:=zmJ (F:=qhtz.l0) (c1:=bs [43]) (c2:=bs [44]) rfl rfl (fun h=>qhtz.v0 h) hl hn l.length 0 (bs []) (by omega) (by show 0+12*l.length<=1000; omega)
 exact ⟨r,qhtz.v h1,by have h3:r.size<=0+12*l.length:=h2; omega⟩
theorem zjN {s:List Int} (hs:zaX s) {F:Fu->Int->List Int->Int->Int->List Wk->Option (List Wk×List Int×Int×Int)} {A B:Int} (hA:1<=A/\A<=500) (hB:1<=B/\B<=500) {g1 g2:Int->Int} (hg1:∀ x,0<=x->x<=500->0<=g1 x/\g1 x<=1000) (hg2:∀ x,0<=x->x<=500->0<=g2 x/\g2 x<=1000)
    (v:∀ {x0:Int} {x1:List Int} {x2 x3:Int} {x4:List Wk} {r},Ev (fun k=>if (iGt x0 0) then (qdpz.f x1 x2 x3 A).bind fun t0 =>
     (qdpz.f t0.2.1 t0.2.2.1 t0.2.2.2 B).bind fun t1 =>
     gd (((lnN x4)+1)<=8796093022208) <| F k (W (x0-1)) t1.2.1 t1.2.2.1 t1.2.2.2 (x4++[(g1 t0.1,g2 t1.1)]) else some (x4,(x1,(x2,x3)))) r->Ev (fun k=>F k x0 x1 x2 x3 x4) r) :
    ∀ (n:Nat) {a:Int} (d:Int) (l:List Wk),0<=a->a<=1000000->a+4*(n:Int)<=1000000->Small l->l.length+n<=10->EvGoes s a (4*(n:Int)) (fun k=>F k (n:Int) s a d l) fun v=>Small v/\v.length<=10:=by
 intro n
 induction n with
 | zero =>
  intro a d l h0 h1 h2 hl hn
  refine ⟨l,a,d,v ?_,by omega,by omega,hl,by omega⟩
  have c:iGt ((0:Nat):Int) 0=false:=rfl
  simp only [c,Bool.false_eq_true,if_false]
  exact Ev.now _
 | succ n ih =>
  intro a d l h0 h1 h2 hl hn
  obtain ⟨x,a1,e1,p1,p2,p3,p4⟩:=zbj hs d (n:=A) hA.1 h0 (by omega)
  obtain ⟨y,a2,e2,q1,q2,q3,q4⟩:=zbj hs e1 (n:=B) hB.1 (by omega:0<=a1) (by omega)
  have hxy:Small (l++[(g1 x,g2 y)]):=fun w hw=>by
   rcases List.mem_append.1 hw with hw | hw
   · exact hl w hw
   · rw [List.mem_singleton] at hw
     subst hw
     exact ⟨hg1 x p4.1 (by omega),hg2 y q4.1 (by omega)⟩
  obtain ⟨r,a3,e3,r1,r2,r3,r4⟩:=ih (a:=a2) e2 (l++[(g1 x,g2 y)]) (by omega) (by omega) (by omega) hxy (by simp; omega)
  refine ⟨r,a3,e3,v ?_,by omega,by omega,r4⟩
  have c:iGt ((n+1:Nat):Int) 0=true:=decide_eq_true (by omega)
  have w1:W (((n+1:Nat):Int)-1)=(n:Int):=by rw [w64 (by omega) (by omega)]; omega
  have hgd:∀ {β:Type} {x:Option β},gd ((lnN l)+1<=8796093022208) x=x:=fun {β x}=>zrb (by simp only [lnN]; omega)
  simp only [c,if_true,p1,Option.bind_some,q1,hgd,w1]
  exact r1
theorem zbp {s:List Int} (hs:zaX s) {a:Int} (d:Int) (h0:0<=a) (h1:a<=900000):EvGoes s a 30 (fun k=>qbpz.f k s a d) fun v=>Small v/\v.length<=10:=by
 obtain ⟨x,a1,e1,p1,p2,p3,p4⟩:=zbj hs d (n:=4) (by omega) h0 (by omega)
 have ew:W (1+x)=((x.toNat+1:Nat):Int):=by rw [w64 (by omega) (by omega)]; omega
 obtain ⟨r,a2,e2,r1,r2,r3,r4⟩:=zjN hs (F:=qbpz.l0) (A:=60) (B:=12) (by omega) (by omega) (g1:=fun x=>W (1+x)) (g2:=fun x=>W (1+x)) (fun x h h'=>by rw [w64 (by omega) (by omega)]; omega) (fun x h h'=>by rw [w64 (by omega) (by omega)]; omega) (fun h=>qbpz.v0 h) (x.toNat+1) (a:=a1) e1 [] (by omega) (by omega) (by omega) (fun w hw=>by cases hw) (by simp; omega)
 refine ⟨r,a2,e2,qbpz.v ?_,by omega,by omega,r4⟩
 simp only [p1,Option.bind_some,ew]
 exact r1
theorem zbS {s:List Int} (hs:zaX s) {a:Int} (d:Int) (h0:0<=a) (h1:a<=900000):EvGoes s a 30 (fun k=>qbkz.f k s a d) fun v=>Small v/\v.length<=10:=by
 obtain ⟨x,a1,e1,p1,p2,p3,p4⟩:=zbj hs d (n:=5) (by omega) h0 (by omega)
 have ew:W (1+x)=((x.toNat+1:Nat):Int):=by rw [w64 (by omega) (by omega)]; omega
 obtain ⟨r,a2,e2,r1,r2,r3,r4⟩:=zjN hs (F:=qbkz.l0) (A:=16) (B:=6) (by omega) (by omega) (g1:=fun x=>x) (g2:=fun x=>x) (fun x h h'=>by omega) (fun x h h'=>by omega) (fun h=>qbkz.v0 h) (x.toNat+1) (a:=a1) e1 [] (by omega) (by omega) (by omega) (fun w hw=>by cases hw) (by simp; omega)
 refine ⟨r,a2,e2,qbkz.v ?_,by omega,by omega,r4⟩
 simp only [p1,Option.bind_some,ew]
 exact r1
theorem EvGoes.of {α:Type} {s:List Int} {a n:Int} {g h:Fu->Option (α×List Int×Int×Int)} {P:α->Prop} (v:∀ r,Ev g r->Ev h r) (H:EvGoes s a n g P):EvGoes s a n h P:=by
 obtain ⟨x,a',e,h0,h1⟩:=H
 exact ⟨x,a',e,v _ h0,h1⟩
theorem EvGoes.ite {α:Type} {s:List Int} {a n:Int} {c:Prop} [Decidable c] {g h:Fu->Option (α×List Int×Int×Int)} {P:α->Prop} (hg:c->EvGoes s a n g P) (hh:¬ c->EvGoes s a n h P):EvGoes s a n (fun k=>if c then g k else h k) P:=by
 by_cases hc:c
 · exact EvGoes.of (fun r h=>Ev.eq (fun k=>if_pos hc) h) (hg hc)
 · exact EvGoes.of (fun r h=>Ev.eq (fun k=>if_neg hc) h) (hh hc)
theorem EvGoes.gd {α:Type} {s:List Int} {a n:Int} {m:Nat} {g:Fu->Option (α×List Int×Int×Int)} {P:α->Prop} (h:m<=1000000) (H:EvGoes s a n g P):EvGoes s a n (fun k=>gd (m<=maxLen) (g k)) P :=
 EvGoes.of (fun r h'=>Ev.eq (fun k=>zbq h) h') H
theorem EvGoes.txt {β:Type} {s:List Int} {a n:Int} {m:Nat} {g:Fu->Option BA} {f:Fu->BA->Option (β×List Int×Int×Int)} {Q:β->Prop} (h:Txt m g) (k:∀ r:BA,r.size<=m->EvGoes s a n (fun k=>f k r) Q):EvGoes s a n (fun k=>(g k).bind (f k)) Q:=by
 obtain ⟨r,h1,h2⟩:=h
 exact EvGoes.val h1 (k r h2)
theorem EvGoes.now {α:Type} {s:List Int} {a e n:Int} {v:α} {P:α->Prop} (h:P v) (hn:0<=n):EvGoes s a n (fun _=>some (v,s,a,e)) P:=⟨v,a,e,Ev.now _,by omega,by omega,h⟩
theorem zhl {s:List Int} (hs:zaX s) {a:Int} (d:Int) {l:List BA} {m:Nat} (hl:1<=l.length) (hm:∀ x∈l,x.size<=m) (h0:0<=a) (h1:a<=1000000000):Goes s a 2 (qewz.f s a d l) fun v=>v.size<=m :=
 (zgK hs d hl h0 h1).le (by omega) fun v hv=>hm v hv
theorem znJ {n:Int} (h0:0<=n) (h1:n<=1000):Txt 5 (fun k=>qihz.f k n):=⟨_,(ze8 h0 h1).1,(ze8 h0 h1).2⟩
theorem zkF {l:List Wk} (h:zam 8 wOk l=true) (h2:l.length<=2):Txt 100 (fun k=>qhbz.f k l):=by
 refine ⟨_,zcI h,?_⟩
 have hw:=(zak.1 h).2
 rw [zai,zmy]
 have:=zgH (s:=[44]) (m:=42) (L:=l.map fun w=>numT 58 [w.1,w.2]) (fun w hw'=>by
  obtain ⟨p,hp,rfl⟩:=List.mem_map.1 hw'
  have h3:=zaO.1 (hw p hp)
  exact zcH (L:=[p.1,p.2]) (fun n hn=>by
   simp only [List.mem_cons,List.not_mem_nil,or_false] at hn
   unfold i64
   rcases hn with rfl | rfl <;> omega))
 rw [List.length_map] at this
 simp only [List.length_cons,List.length_nil] at this
 have h5:l.length*(42+(0+1))<=2*43:=Nat.mul_le_mul h2 (Nat.le_refl _)
 omega
theorem zjO (n:Nat) {l:List BA} (h:(l.all fun x=>Nat.ble x.size n)=true):∀ x∈l,x.size<=n:=fun x hx=>Nat.le_of_ble_eq_true (List.all_eq_true.1 h x hx)
theorem znK {s:List Int} (hs:zaX s) {a:Int} (d:Int) (h0:0<=a) (h1:a<=400000):EvGoes s a 300 (fun k=>qccz.f k s a d) fun v=>v.size<=300:=by
 refine EvGoes.of (fun r h=>qccz.v h) ?_
 refine EvGoes.bind (n:=2) (m:=298) (zbj hs d (n:=12) (by omega) h0 (by omega)).ev (by omega) fun v a1 e1 q1 q2 hv=>?_
 have two:EvGoes s a1 298 (fun k=>(qewz.f s a1 e1 [(bs [109,101,101,116,32]),(bs [119,104,101,114,101,32]),(bs [97,114,111,117,110,100,32]),(bs [103,97,112,32]),(bs [112,108,97,99,101,115,32])]).bind fun t1 =>
     (qdpz.f t1.2.1 t1.2.2.1 t1.2.2.2 3).bind fun t2 =>
     (qihz.f k t2.1).bind fun t3 =>
     gd (((ByteArray.size t1.1)+(ByteArray.size t3))<=maxLen) <| gd (((ByteArray.size (t1.1++t3))+1)<=maxLen) <| (qdpz.f t2.2.1 t2.2.2.1 t2.2.2.2 3).bind fun t4 =>
     (qihz.f k t4.1).bind fun t5 =>
     gd (((ByteArray.size ((t1.1++t3)++(bs [32])))+(ByteArray.size t5))<=maxLen) <| some ((((t1.1++t3)++(bs [32]))++t5),t4.2)) fun v=>v.size<=300:=by
  refine EvGoes.bind (n:=2) (m:=296) (zhl hs e1 (m:=10) (by decide) (zjO 10 (by decide)) (by omega) (by omega)).ev (by omega) fun x a2 e2 _ _ hx=>?_
  refine EvGoes.bind (n:=2) (m:=294) (zbj hs e2 (n:=3) (by omega) (by omega) (by omega)).ev (by omega) fun y a3 e3 _ _ hy=>?_
  refine EvGoes.txt (znJ hy.1 (by omega)) fun t ht=>?_
  try dsimp only
  refine EvGoes.gd (by omega) (EvGoes.gd (by simp only [ByteArray.size_append]; omega) ?_)
  refine EvGoes.bind (n:=2) (m:=292) (zbj hs e3 (n:=3) (by omega) (by omega) (by omega)).ev (by omega) fun z a4 e4 _ _ hz=>?_
  refine EvGoes.txt (znJ hz.1 (by omega)) fun u hu=>?_
  have o1:(bs [32]).size=1:=rfl
  try dsimp only
  refine EvGoes.gd (by simp only [ByteArray.size_append,o1]; omega) (EvGoes.now ?_ (by omega))
  simp only [ByteArray.size_append,o1]; omega
 have one:EvGoes s a1 298 (fun k=>(qewz.f s a1 e1 [(bs [115,104,111,119]),(bs [112,97,105,114,115]),(bs [102,105,114,115,116]),(bs [108,101,97,100]),(bs [108,97,115,116]),(bs [115,116,97,114,116])]).bind fun t1 =>
     some t1) fun v=>v.size<=300 :=
  EvGoes.bind (n:=2) (m:=0) (zhl hs e1 (m:=10) (by decide) (zjO 10 (by decide)) (by omega) (by omega)).ev (by omega) fun x a2 e2 _ _ hx=>EvGoes.now (by omega) (by omega)
 refine EvGoes.ite (fun _=>?_) fun _=>EvGoes.ite (fun _=>?_) fun _=>EvGoes.ite (fun _=>?_) fun _=>EvGoes.ite (fun _=>two) fun _=>EvGoes.ite (fun _=>two) fun _=>EvGoes.ite (fun _=>two) fun _=>EvGoes.ite (fun _=>one) fun _=>EvGoes.ite (fun _=>one) fun _=>EvGoes.ite (fun _=>one) fun _=>EvGoes.ite (fun _=>?_) fun _=>EvGoes.ite (fun _=>?_) fun _=>?_
 · refine EvGoes.bind (n:=4) (m:=294) (zaB hs e1 (by omega) (by omega)).ev (by omega) fun x a2 e2 _ _ hx=>?_
   refine EvGoes.bind (n:=4) (m:=290) (zaB hs e2 (by omega) (by omega)).ev (by omega) fun y a3 e3 _ _ hy=>?_
   refine EvGoes.txt (zkF (l:=[x,y]) (zak.2 ⟨by simp,fun w hw=>by
    simp only [List.mem_cons,List.not_mem_nil,or_false] at hw
    rcases hw with rfl | rfl
    · exact hx
    · exact hy⟩) (by simp)) fun t ht=>?_
   try dsimp only
   refine EvGoes.gd (by omega) (EvGoes.now ?_ (by omega))
   have o1:(bs [119,97,108,107,101,114,115,32]).size=8:=rfl
   simp only [ByteArray.size_append,o1]; omega
 · refine EvGoes.bind (n:=4) (m:=294) (zaB hs e1 (by omega) (by omega)).ev (by omega) fun x a2 e2 _ _ hx=>?_
   refine EvGoes.txt (zkF (l:=[x]) (zak.2 ⟨by simp,fun w hw=>by
    simp only [List.mem_cons,List.not_mem_nil,or_false] at hw
    rcases hw with rfl
    exact hx⟩) (by simp)) fun t ht=>?_
   try dsimp only
   refine EvGoes.gd (by omega) (EvGoes.now ?_ (by omega))
   have o1:(bs [97,100,100,32]).size=4:=rfl
   simp only [ByteArray.size_append,o1]; omega
 · refine EvGoes.bind (n:=2) (m:=296) (zhl hs e1 (m:=10) (by decide) (zjO 10 (by decide)) (by omega) (by omega)).ev (by omega) fun x a2 e2 _ _ hx=>?_
   refine EvGoes.bind (n:=2) (m:=294) (zbj hs e2 (n:=13) (by omega) (by omega) (by omega)).ev (by omega) fun y a3 e3 _ _ hy=>?_
   refine EvGoes.txt (znJ hy.1 (by omega)) fun t ht=>?_
   try dsimp only
   refine EvGoes.gd (by omega) (EvGoes.now ?_ (by omega))
   simp only [ByteArray.size_append]; omega
 · refine EvGoes.bind (n:=2) (m:=296) (zhl hs e1 (m:=10) (by decide) (zjO 10 (by decide)) (by omega) (by omega)).ev (by omega) fun x a2 e2 _ _ hx=>?_
   refine EvGoes.bind (n:=8) (m:=288) (zb3 hs e2 (by omega) (by omega)).ev (by omega) fun y a3 e3 _ _ hy=>?_
   refine EvGoes.txt (ze9 hy) fun t ht=>?_
   try dsimp only
   refine EvGoes.gd (by omega) (EvGoes.now ?_ (by omega))
   simp only [ByteArray.size_append]; omega
 · refine EvGoes.bind (n:=30) (m:=268) (zbp hs e1 (by omega) (by omega)) (by omega) fun x a2 e2 _ _ hx=>?_
   refine EvGoes.txt (zdq hx.1 hx.2) fun t2 g2=>EvGoes.gd (by omega) ?_
   refine EvGoes.bind (n:=30) (m:=238) (zbp hs e2 (by omega) (by omega)) (by omega) fun x a3 e3 _ _ hx=>?_
   refine EvGoes.txt (zdq hx.1 hx.2) fun t4 g4=>EvGoes.gd (by omega) ?_
   refine EvGoes.bind (n:=30) (m:=208) (zbp hs e3 (by omega) (by omega)) (by omega) fun x a4 e4 _ _ hx=>?_
   have o5:(bs [110,101,101,100,32]).size=5:=rfl
   have o6:(bs [97,112,97,114,116,32]).size=6:=rfl
   refine EvGoes.txt (zdq hx.1 hx.2) fun t6 g6=>EvGoes.gd (by omega) (EvGoes.gd (by simp only [ByteArray.size_append,o5]; omega) ?_)
   refine EvGoes.bind (n:=30) (m:=178) (zbS hs e4 (by omega) (by omega)) (by omega) fun x a5 e5 _ _ hx=>?_
   refine EvGoes.txt (zfa hx.1 hx.2) fun t8 g8=>EvGoes.gd (by omega) ?_
   refine EvGoes.bind (n:=30) (m:=148) (zbS hs e5 (by omega) (by omega)) (by omega) fun x a6 e6 _ _ hx=>?_
   refine EvGoes.txt (zfa hx.1 hx.2) fun t10 g10=>EvGoes.gd (by omega) ?_
   refine EvGoes.bind (n:=8) (m:=140) (zb3 hs e6 (by omega) (by omega)).ev (by omega) fun y a7 e7 _ _ hy=>?_
   refine EvGoes.txt (ze9 hy) fun t12 g12=>EvGoes.gd (by omega) (EvGoes.gd (by simp only [ByteArray.size_append,o6]; omega) ?_)
   refine EvGoes.bind (n:=2) (m:=0) (zhl hs e7 (m:=300) (by simp) (fun x hx=>?_) (by omega) (by omega)).ev (by omega) fun x a8 e8 _ _ hx=>EvGoes.now hx (by omega)
   have p1:(bs [109,101,97,110,32]).size=5:=rfl
   have p2:(bs [116,105,109,101,32]).size=5:=rfl
   have p3:(bs [32,50,48,32,52]).size=5:=rfl
   have p4:(bs [118,105,115,105,116,115,32]).size=7:=rfl
   have p5:(bs [103,117,105,100,101,115,32]).size=7:=rfl
   have p6:(bs [32,50]).size=2:=rfl
   have p7:(bs [99,104,97,110,99,101,32,57,32,50,32,51]).size=12:=rfl
   simp only [List.mem_cons,List.not_mem_nil,or_false] at hx
   rcases hx with rfl | rfl | rfl | rfl | rfl | rfl | rfl <;> simp only [ByteArray.size_append,o5,o6,p1,p2,p3,p4,p5,p6,p7] <;> omega
 · exact EvGoes.bind (n:=2) (m:=0) (zhl hs e1 (m:=40) (by decide) (zjO 40 (by decide)) (by omega) (by omega)).ev (by omega) fun x a2 e2 _ _ hx=>EvGoes.now (by omega) (by omega)
theorem zj3 (l:List Wk) (n:Int):Ev (fun k=>qgqz.f k l n) (dOk l n):=by
 refine qgqz.v (Ev.bind (zbc l) ?_)
 unfold dOk
 simp only [zaq,Option.bind_some]
 cases zam 8 wOk l <;> simpa using Ev.now _
abbrev DkR:=(List Wk×Int)×(BA×Bool)
theorem zmK (D:List Wk) (n:Int) {l:List UInt8} (hl:l.length<=2000000):∃ r:DkR,r.1.1.length<=8/\(r.2.2=true->dOk r.1.1 r.1.2=true/\Kept D n (r.1,r.2.1))/\Ev (fun k=>qfbz.f k D n (bL l)) r/\Ev (fun k=>qflz.f k D n (bL l)) r:=by
 have hI:=zcG D n
 have hS:=zj3 D n
 cases hD:dOk D n with
 | false =>
  rw [hD] at hI hS
  refine ⟨(([],0),(bs [],false)),by decide,by simp,qfbz.v (Ev.bind hI ?_),qflz.v (Ev.bind hS ?_)⟩ <;> simp only [S] <;> exact Ev.now _
 | true =>
  rw [hD] at hI hS
  by_cases h3:3000 < l.length
  · refine ⟨(([],0),(bs [],false)),by decide,by simp,qfbz.v (Ev.bind hI ?_),qflz.v (Ev.bind hS ?_)⟩ <;> simp (disch:=omega) only [S,zai] <;> exact Ev.now _
  · have hC:=zjM l 10
    have hP:Ev (fun k=>qfqz.f k (bL l) 10) ((zah 10 l).map bL):=zaU (l:=l) (by omega) 10
    have hC':qdjz.f (bL l) (bs [10])=some (decide (1 < (zah 10 l).length)):=hC
    have hml:((zah 10 l).map bL).length=(zah 10 l).length:=List.length_map _
    by_cases h1:1 < (zah 10 l).length
    · rw [decide_eq_true h1] at hC'
      refine ⟨(([],0),(bs [],false)),by decide,by simp,qfbz.v (Ev.bind hI ?_),qflz.v (Ev.bind hS ?_)⟩
      · simp (disch:=omega) only [S,zai,hC']
        exact Ev.now _
      · simp (disch:=omega) only [S,zai]
        refine Ev.bind hP ?_
        simp (disch:=omega) only [S,hml]
        exact Ev.now _
    · rw [decide_eq_false h1] at hC'
      obtain ⟨r,r1,rk,r2,r3⟩:=zso hD (l:=l) (by omega)
      have h8:=(zak.1 (zar.1 r1).1).1
      refine ⟨(r.1,(r.2,true)),h8.2,fun _=>⟨r1,rk⟩,qfbz.v (Ev.bind hI ?_),qflz.v (Ev.bind hS ?_)⟩
      · simp (disch:=omega) only [S,zai,hC']
        refine Ev.bind r2 ?_
        unfold qbfz.f
        simp (disch:=omega) only [S]
        exact Ev.now _
      · simp (disch:=omega) only [S,zai]
        refine Ev.bind hP ?_
        simp (disch:=omega) only [S,hml]
        refine Ev.bind r3 ?_
        unfold qhwz.f
        simp (disch:=omega) only [S]
        exact Ev.now _
theorem zls {l:List Wk} (h:l.length<=2000000):Ev (fun k=>qfnz.f k l l) true:=by
 have key:∀ (d i:Nat),i+d=l.length->Ev (fun k=>qfnz.l0 k l l (l.length:Int) (i:Int)) true:=by
  intro d
  induction d with
  | zero =>
   intro i hi
   rw [show i=l.length by omega]
   refine qfnz.v0 ?_
   simp (disch:=omega) only [S]
   exact Ev.now _
  | succ d ih =>
   intro i hi
   have h:=ih (i+1) (by omega)
   have e:∀ p:Wk,(p.1 == p.1 && p.2 == p.2)=true:=fun p=>by simp
   refine qfnz.v0 ?_
   simp (disch:=omega) only [S,e]
   exact h
 refine qfnz.v ?_
 simp (disch:=omega) only [S]
 exact key l.length 0 (by omega)
theorem zfo {l:List Wk} (h:l.length<=2000000) (n:Int):Ev (fun k=>qibz.f k l n l n) true:=by
 refine qibz.v ?_
 simp (disch:=omega) only [S]
 exact Ev.bind (zls h) (Ev.now _)
theorem znL {D:List Wk} {n:Int} (hD:dOk D n=true) {l:List UInt8} (hl:l.length<=3000) (h10:(10:UInt8) ∉ l) {r:(List Wk×Int)×BA} (h:Ev (fun k=>qfaz.f k D n (bL l)) r) (h8:r.1.1.length<=8):Ev (fun k=>qfbz.f k D n (bL l)) (r.1,(r.2,true)):=by
 have hI:=zcG D n
 rw [hD] at hI
 have hC:=zjM l 10
 have hC':qdjz.f (bL l) (bs [10])=some (decide (1 < (zah 10 l).length)):=hC
 rw [ze0 10 l h10] at hC'
 have e:(decide (1 < [l].length))=false:=rfl
 rw [e] at hC'
 refine qfbz.v (Ev.bind hI ?_)
 simp (disch:=omega) only [S,zai,hC']
 refine Ev.bind h ?_
 unfold qbfz.f
 simp (disch:=omega) only [S]
 exact Ev.now _
theorem zdD {D:List Wk} {n:Int} (hD:dOk D n=true) {w0 fs:List Nat} {ws:List (List UInt8)} (hf:∀ c∈fs,zhQ c) (hS:qfmz.f (bs w0)=some (bs fs,true)) (hc:fs.length=ws.length) (h3:ws.length<=3) {l:List UInt8} (hs:zah 32 l=w0.map UInt8.ofNat::ws) (hl:l.length<=3000) (h10:(10:UInt8) ∉ l) {t:Ar} (ht:zcQ fs ws s0=some t) {R:ChR} (hR:Ev (fun k=>chgF k D n (bs w0) t) R) {E:List Wk} {m:Int} {T:BA} (hr:fin D n R=((E,m),T)) (h8:E.length<=8):Ev (fun k=>qfbz.f k D n (bL l)) ((E,m),(T,true)):=by
 have hm:=zb8 32 l
 have hw:∀ w∈ws,w.length<=2000000:=fun w h=>by
  have:=hm w (by rw [hs]; exact List.mem_cons_of_mem _ h)
  omega
 have z1:=zf8 fs
 have hq:=(zmI (w0:=w0.map UInt8.ofNat) (D:=D) (n:=n) hf hc (by omega) hw ws.length 0 (by omega) s0 (by decide)).2
 rw [List.drop_zero,List.drop_zero] at hq
 have h:=(hq t ht).1 R hR
 rw [hr] at h
 exact znL hD hl h10 (zox (by omega) hs hS (fun h=>absurd (by omega) h) (fun _=>h)) h8
theorem zfb {fs:List Nat} (h:(fs.all fun c=>Nat.beq c 87 || (Nat.beq c 67 || (Nat.beq c 76 || (Nat.beq c 86 || Nat.beq c 78))))=true):∀ c∈fs,zhQ c:=fun c hc=>by
 have:=List.all_eq_true.1 h c hc
 unfold zhQ
 simpa using this
theorem zrd:qfmz.f (bs [115,104,111,119])=some (bs [],true):=by unfold qfmz.f; simp only [sqn]; rfl
theorem zmL:qfmz.f (bs [119,97,108,107,101,114,115])=some (bs [87],true):=by unfold qfmz.f; simp only [sqn]; rfl
theorem zre:qfmz.f (bs [116,117,114,110])=some (bs [78],true):=by unfold qfmz.f; simp only [sqn]; rfl
theorem zrf:qfmz.f (bs [109,101,101,116])=some (bs [78,78],true):=by unfold qfmz.f; simp only [sqn]; rfl
theorem zpB:qfmz.f (bs [119,104,101,114,101])=some (bs [78,78],true):=by unfold qfmz.f; simp only [sqn]; rfl
theorem zpC:qfmz.f (bs [112,97,105,114,115])=some (bs [],true):=by unfold qfmz.f; simp only [sqn]; rfl
theorem zrg:qfmz.f (bs [109,101,97,110])=some (bs [76],true):=by unfold qfmz.f; simp only [sqn]; rfl
theorem znM:qfmz.f (bs [99,104,97,110,99,101])=some (bs [78,78,78],true):=by unfold qfmz.f; simp only [sqn]; rfl
theorem zoz {s:List UInt8} {b:UInt8}:∀ {L:List (List UInt8)},b∈Lib.join L s->(∃ w∈L,b∈w) \/ b∈s
 | [],h=>by simp [Lib.join,List.intercalate] at h
 | w::ws,h=>by
  have key:∀ {ws:List (List UInt8)},b∈Lib.joinTail s ws->(∃ w∈ws,b∈w) \/ b∈s:=by
   intro ws
   induction ws with
   | nil=>intro h; simp [Lib.joinTail] at h
   | cons v vs ih =>
    intro h
    have e:Lib.joinTail s (v::vs)=s++v++Lib.joinTail s vs:=by simp [Lib.joinTail]
    rw [e,List.mem_append,List.mem_append] at h
    rcases h with (h | h) | h
    · exact .inr h
    · exact .inl ⟨v,List.mem_cons_self,h⟩
    · rcases ih h with ⟨w,hw,hb⟩ | h
      · exact .inl ⟨w,List.mem_cons_of_mem _ hw,hb⟩
      · exact .inr h
  rw [Lib.join_cons,List.mem_append] at h
  rcases h with h | h
  · exact .inl ⟨w,List.mem_cons_self,h⟩
  · rcases key h with ⟨v,hv,hb⟩ | h
    · exact .inl ⟨v,List.mem_cons_of_mem _ hv,hb⟩
    · exact .inr h
theorem zoA {c b:UInt8} {L:List Int} (h:b∈numT c L):dig b \/ b=45 \/ b=c:=by
 rcases zoz h with ⟨w,hw,hb⟩ | h
 · obtain ⟨n,_,rfl⟩:=List.mem_map.1 hw
   rcases zla hb with h | h
   · exact .inl h
   · exact .inr (.inl h)
 · exact .inr (.inr (List.mem_singleton.1 h))
def prT (c c1:UInt8) (l:List Wk):List UInt8:=Lib.join (l.map fun w=>numT c [w.1,w.2]) [c1]
theorem ztM {c c1 b:UInt8} {l:List Wk} (h:b∈prT c c1 l):dig b \/ b=45 \/ b=c \/ b=c1:=by
 rcases zoz h with ⟨w,hw,hb⟩ | h
 · obtain ⟨p,_,rfl⟩:=List.mem_map.1 hw
   rcases zoA hb with h | h | h
   · exact .inl h
   · exact .inr (.inl h)
   · exact .inr (.inr (.inl h))
 · exact .inr (.inr (.inr (List.mem_singleton.1 h)))
theorem znN {c:UInt8} (h1:¬ dig c) (h2:c ≠ 45) (p:Wk):zbk c (numT c [p.1,p.2]) p:=by
 unfold zbk numT
 exact zdM c [Lib.itoa p.1,Lib.itoa p.2] (by simp) (fun x hx=>by
  simp only [List.mem_cons,List.not_mem_nil,or_false] at hx
  rcases hx with rfl | rfl <;> exact zqA h1 h2)
theorem zkG {c:UInt8} (h1:¬ dig c) (h2:c ≠ 45):∀ l:List Wk,zec c (l.map fun w=>numT c [w.1,w.2]) l
 | []=>trivial
 | p::l=>⟨znN h1 h2 p,zkG h1 h2 l⟩
theorem zoB {c c1:UInt8} (h1:¬ dig c) (h2:c ≠ 45) (h3:¬ dig c1) (h4:c1 ≠ 45) (h5:c1 ≠ c) {m:Nat} {ok:Wk->Bool} (hok:okIn (-999999) 999999 ok) {l:List Wk} (hl:zam m ok l=true):zaW m ok (zay (zed c) (zah c1 (prT c c1 l)))=(l,true):=by
 obtain ⟨⟨g1,g2⟩,g3⟩:=zak.1 hl
 have e:zah c1 (prT c c1 l)=l.map fun w=>numT c [w.1,w.2]:=zdM c1 _ (by intro h; rw [List.map_eq_nil_iff] at h; subst h; simp at g1) (fun x hx=>by
  obtain ⟨p,_,rfl⟩:=List.mem_map.1 hx
  intro hb
  rcases zoA hb with h | h | h
  · exact h3 h
  · exact h4 h
  · exact h5 h)
 rw [e,zdP (zld hok) (zkG h1 h2 l) g3]
 show (if zam m ok l=true then (l,true) else ([],false))=(l,true)
 rw [if_pos hl]
theorem zoC (l:List Wk):wkT l=prT 58 44 l:=zmy l
theorem zcm {b:UInt8} (h:b.toNat < 48 \/ 57 < b.toNat):¬ dig b:=fun g=>by unfold dig at g; omega
theorem zmM {l:List Wk} (hl:zam 8 wOk l=true):za2 (wkT l)=(l,true):=by
 rw [zoC]
 exact zoB (zcm (by decide)) (by decide) (zcm (by decide)) (by decide) (by decide) w_in hl
theorem zrh {l:List Wk} (hl:zam 5 lOk l=true):zck (prT 47 43 l)=(l,true) :=
 zoB (zcm (by decide)) (by decide) (zcm (by decide)) (by decide) (by decide) (znw l_in) hl
theorem znO {c c1:UInt8} {l:List Wk} (h:∀ w∈l,i64 w.1/\i64 w.2):(prT c c1 l).length<=l.length*43:=by
 have:=zgH (s:=[c1]) (L:=l.map fun w=>numT c [w.1,w.2]) (m:=42) fun w hw=>by
  obtain ⟨p,hp,rfl⟩:=List.mem_map.1 hw
  have:=zcH (c:=c) (L:=[p.1,p.2]) (fun n hn=>by
   simp only [List.mem_cons,List.not_mem_nil,or_false] at hn
   rcases hn with rfl | rfl
   · exact (h p hp).1
   · exact (h p hp).2)
  simpa using this
 simpa [prT] using this
theorem zoD {c c1 b:UInt8} (h1:¬ dig b) (h2:b ≠ 45) (h3:b ≠ c) (h4:b ≠ c1) (l:List Wk):b ∉ prT c c1 l:=fun h=>by
 rcases ztM h with h | h | h | h
 · exact h1 h
 · exact h2 h
 · exact h3 h
 · exact h4 h
theorem zri {l:List Wk} (hl:zam 8 wOk l=true):(wkT l).length<=344:=by
 obtain ⟨⟨_,g2⟩,g3⟩:=zak.1 hl
 have:=znO (c:=58) (c1:=44) (l:=l) fun w hw=>by
  have:=zaO.1 (g3 w hw)
  unfold i64
  omega
 rw [zoC]
 omega
theorem zfp {n:Int} (h0:0<=n) (h1:n<=999999) (s:Ar):zaG 78 (Lib.itoa n) s=some (s.1,(s.2.1,(s.2.2.1,(s.2.2.2.1,(s.2.2.2.2.1,(s.2.2.2.2.2.1,(s.2.2.2.2.2.2.1,s.2.2.2.2.2.2.2++[n]))))))):=by
 rw [zlo,zdA h0 h1,if_pos h0]
theorem zjP (c:Nat) (w:List UInt8) (s:Ar):zcQ [c] [w] s=zaG c w s:=by
 show (zaG c w s).bind (zcQ [] [])=_
 cases zaG c w s <;> rfl
theorem zrj {a b:List UInt8} (ha:(32:UInt8) ∉ a) (hb:(32:UInt8) ∉ b):zah 32 (a++32::b)=[a,b]:=by
 rw [zd8 _ _ _ ha,ze0 _ _ hb]
theorem zrk {a b c:List UInt8} (ha:(32:UInt8) ∉ a) (hb:(32:UInt8) ∉ b) (hc:(32:UInt8) ∉ c):zah 32 (a++32::(b++32::c))=[a,b,c]:=by
 rw [zd8 _ _ _ ha,zrj hb hc]
theorem zux {a b c d:List UInt8} (ha:(32:UInt8) ∉ a) (hb:(32:UInt8) ∉ b) (hc:(32:UInt8) ∉ c) (hd:(32:UInt8) ∉ d):zah 32 (a++32::(b++32::(c++32::d)))=[a,b,c,d]:=by
 rw [zd8 _ _ _ ha,zrk hb hc hd]
theorem zpD {l:List Wk} (hl:zam 8 wOk l=true):∃ b t,wkT l=b::t/\(dig b \/ b=45):=by
 obtain ⟨⟨g1,_⟩,_⟩:=zak.1 hl
 cases l with
 | nil=>simp at g1
 | cons p l =>
  rw [zmy,List.map_cons,Lib.join_cons,zr5]
  cases e:Lib.itoa p.1 with
  | nil=>exact absurd e (ztq _)
  | cons b t=>exact ⟨b,_,rfl,zla (n:=p.1) (by rw [e]; exact List.mem_cons_self)⟩
theorem zrl {D:List Wk} {n:Int} {r:(List Wk×Int)×BA} (h:Kept D n r) (hr:seq r.2 (bs [110,111])=true \/ seq r.2 (bs [119,104,97,116])=true):r.1=(D,n):=by
 rcases h with h | ⟨X,hX,h⟩
 · exact h
 · exfalso
   obtain ⟨b,t,e,hb⟩:=zpD hX
   rw [h,e] at hr
   have no:∀ c:Nat,∀ L:List Nat,(57 < (UInt8.ofNat c).toNat)->seq (bL (b::t)) (bs (c::L))=true->False:=fun c L hc hq=>by
    rw [zk8,zqx,decide_eq_true_eq,List.map_cons] at hq
    have:=(List.cons.inj hq).1
    subst this
    rcases hb with hb | hb
    · unfold dig at hb; omega
    · rw [hb] at hc; revert hc; decide
   rcases hr with hr | hr
   · exact no _ _ (by decide) hr
   · exact no _ _ (by decide) hr
theorem zjQ (u:Nat):u<=9223372036854775807->Ev (fun k=>qfsz.f k (u:Int)) (bL (Lib.decDigits u)):=by
 induction u using Nat.strongRecOn with
 | ind u ih =>
  intro hu
  have nums:∀ x:Nat,x<=200->bytesOf [IntKind.wrap .u8 (W (48+(x:Int)))]=bL [UInt8.ofNat (48+x)]:=by
   intro x hx
   rw [w64 (by omega) (by omega),show IntKind.wrap .u8 (48+(x:Int))=48+(x:Int) by simp [IntKind.wrap,IntKind.bits,IntKind.signed]; omega]
   show (⟨#[UInt8.ofNat (48+(x:Int)).toNat]⟩ : ByteArray)=bL [UInt8.ofNat (48+x)]
   rw [show (48+(x:Int)).toNat=48+x by omega]
   rfl
  refine qfsz.v ?_
  by_cases h:u < 10
  · rw [zeu h,nums u (by omega)]
    simp (disch:=omega) only [S]
    exact Ev.now _
  · have h1:=ih (u / 10) (by omega) (by omega)
    have h2:=ih (u % 10) (by omega) (by omega)
    rw [zeu (show u % 10 < 10 by omega)] at h2
    rw [zk9 (by omega)]
    have e1:W (Int.tdiv (u:Int) 10)=((u / 10:Nat):Int):=by
     rw [Int.tdiv_eq_ediv_of_nonneg (by omega),w64 (by omega) (by omega)]; omega
    have e2:Int.tmod (u:Int) 10=((u % 10:Nat):Int):=by
     rw [Int.tmod_eq_emod_of_nonneg (by omega)]; omega
    have hl:=zev (u:=u / 10) (k:=18) (by omega)
    have hM:=hML
    simp only [e1,e2]
    simp (disch:=omega) only [S]
    refine Ev.bind h1 (Ev.bind h2 ?_)
    simp (disch:=omega) only [S,zai,List.length_singleton,zbb]
    exact Ev.now _
theorem zb9 {n:Int} (h0:0<=n) (h:i64 n):Ev (fun k=>qfsz.f k n) (bL (Lib.itoa n)):=by
 obtain ⟨u,rfl⟩ : ∃ u:Nat,n=(u:Int):=⟨n.toNat,by omega⟩
 unfold i64 at h
 rw [zcj]
 exact zjQ u (by omega)
theorem zim {a b:Int} {ok:Bool} (ha:i64 a) (hb:i64 b) (h:ok=true->1<=b):Ev (fun k=>qhzz.f k a b ok) (bL (zbu a b ok)):=by
 have hM:=hML
 have h1:=zfF ha
 have h2:=zfF hb
 refine qhzz.v ?_
 cases ok with
 | false=>simp only [S]; exact Ev.now _
 | true =>
  have hp:=h rfl
  have hb':=hb
  have ha':=ha
  unfold i64 at hb' ha'
  have e:zbu a b true=Lib.itoa a++[47]++Lib.itoa b:=by unfold zbu; rw [if_pos rfl,zr5]
  rw [e]
  by_cases hn:a < 0
  · obtain ⟨u,rfl⟩ : ∃ u:Nat,a = -(u:Int):=⟨a.natAbs,by omega⟩
    have hl:=zev (u:=u) (k:=18) (by omega)
    rw [zet (by omega)]
    simp (disch:=omega) only [S,Int.zero_sub,Int.neg_neg]
    refine Ev.bind (zjQ u (by omega)) ?_
    simp (disch:=omega) only [S,zai,show bs [45]=bL [45] from rfl,show bs [47]=bL [47] from rfl,zbb,List.length_append,List.length_cons,List.length_nil]
    refine Ev.bind (zb9 (by omega) hb) ?_
    simp (disch:=omega) only [S,zai,zbb,List.length_append,List.length_cons,List.length_nil]
    exact zbK (by simp)
  · simp (disch:=omega) only [S]
    refine Ev.bind (zb9 (by omega) ha) ?_
    simp (disch:=omega) only [S,zai]
    refine Ev.bind (zb9 (by omega) hb) ?_
    simp (disch:=omega) only [S,zai,show bs [47]=bL [47] from rfl,zbb,List.length_append,List.length_cons,List.length_nil]
    exact Ev.now _
theorem zh4 {l:List Wk} (hok:zam 5 lOk l=true):Ev (fun k=>qeyz.f k l) (bL (prT 47 43 l),true):=by
 refine qeyz.v (Ev.bind (zax l) ?_)
 obtain ⟨h1,h2⟩:=zak.1 hok
 have hlm:(l.map fun w=>numT 47 [w.1,w.2]).length=l.length:=List.length_map _
 have hi64:∀ w∈l,∀ n∈[w.1,w.2],i64 n:=by
  intro w hw n hn
  have:=zex.1 (h2 w hw)
  unfold i64
  simp only [List.mem_cons,List.not_mem_nil,or_false] at hn
  omega
 have hm:∀ x∈l.map fun w=>numT 47 [w.1,w.2],x.length<=42:=fun x hx=>by
  obtain ⟨w,hw,rfl⟩:=List.mem_map.1 hx
  have:=zcH (c:=47) (hi64 w hw)
  simpa using this
 simp (disch:=omega) only [S,hok]
 unfold prT
 have hg:∀ i,i < l.length->(l.map fun w=>numT 47 [w.1,w.2]).getD i []=numT 47 [(l.getD i (0,0)).1,(l.getD i (0,0)).2]:=fun i hi=>by simp [hi]
 generalize (l.map fun w=>numT 47 [w.1,w.2])=L at *
 rw [<- hlm]
 refine zii (F:=fun k i xs=>qeyz.l0 k l (L.length:Int) i xs) ?_ ?_
 · refine qeyz.v0 ?_
   simp (disch:=omega) only [S,show bs [43]=bL [43] from rfl,zcl hm (by omega) (by omega)]
   exact Ev.now _
 · intro i xs hi hx h
   have hi':i < l.length:=by omega
   refine qeyz.v0 ?_
   simp (disch:=omega) only [S]
   refine Ev.bind (za3 (c:=47) (by simp) (hi64 _ (zaf (z:=(0,0)) hi'))) ?_
   rw [hg i hi'] at h
   exact h
def Part (F:Fu->Option R3):Prop:=∃ r:R3,Ev F r/\i64 r.1/\i64 r.2.1/\(r.2.2=true->1<=r.2.1)
theorem zh5 {w v:Wk} (hw:wOk w=true) (hv:wOk v=true):Part (fun k=>qcqz.f k w.1 w.2 v.1 v.2):=by
 obtain ⟨b1,b2,b3⟩:=zeC hw hv
 refine ⟨meet w v,qcqz.v ?_,by unfold i64; omega,by unfold i64; omega,fun h=>by have:=b3 h; omega⟩
 simp only [zau,S,hw,hv]
 exact Ev.bind (zaw hw hv) (Ev.now _)
theorem zhm {w v:Wk} (hw:wOk w=true) (hv:wOk v=true):Part (fun k=>qciz.f k w.1 w.2 v.1 v.2):=by
 obtain ⟨b1,b2,b3⟩:=zeC hw hv
 obtain ⟨p1,p2⟩:=zlf hw b1 b2
 cases ho:(meet w v).2.2 with
 | false =>
  refine ⟨noR,qciz.v ?_,zpg,zpg,fun h=>by cases h⟩
  simp only [zau,S,hw,hv]
  refine Ev.bind (zaw hw hv) ?_
  simp only [ho,S]
  exact Ev.now _
 | true =>
  have hd:=b3 ho
  have hn1:i64 (w.1*(meet w v).2.1+w.2*(meet w v).1):=by unfold i64; omega
  have hn2:i64 (meet w v).2.1:=by unfold i64; omega
  have hl:=zeB hn1 hn2
  have h0:(meet w v).2.1 ≠ 0:=by omega
  refine ⟨((low (w.1*(meet w v).2.1+w.2*(meet w v).1) (meet w v).2.1).1,((low (w.1*(meet w v).2.1+w.2*(meet w v).1) (meet w v).2.1).2,true)),qciz.v ?_,hl.1,hl.2,fun _=>by have:=zpf (n:=w.1*(meet w v).2.1+w.2*(meet w v).1) h0; show 1<=(low _ _).2; omega⟩
  simp only [zau,S,hw,hv]
  refine Ev.bind (zaw hw hv) ?_
  unfold qgbz.f
  simp (disch:=omega) only [ho,S]
  exact Ev.bind (zbh hn1 hn2 h0) (Ev.now _)
theorem zj4 {l:List Wk} (hok:zam 5 lOk l=true):∃ r:R3,Ev (fun k=>qeqz.f k l) r/\i64 r.1/\i64 r.2.1/\(r.2.2=true->1<=r.2.1)/\r.2.2=true:=by
 obtain ⟨t,a,b,c1,c2⟩:=zfm hok
 obtain ⟨n,e,f,g1,g2⟩:=zdU hok
 have m1:=mulb (a:=n) (b:=t.2) (A:=5000) (B:=10000000000) (by omega) (by omega) (by omega) (by omega)
 have hl:=zeB (n:=n*t.2) (d:=t.1) (by unfold i64; omega) (by unfold i64; omega)
 refine ⟨((low (n*t.2) t.1).1,((low (n*t.2) t.1).2,true)),qeqz.v (Ev.bind (zax l) ?_),hl.1,hl.2,fun _=>by have:=zpf (n:=n*t.2) (d:=t.1) (by omega); show 1<=(low _ _).2; omega,rfl⟩
 simp only [hok,S]
 refine Ev.bind a (Ev.bind e ?_)
 simp (disch:=omega) only [S]
 exact Ev.bind (zby (by unfold i64; omega) (by unfold i64; omega) (by omega)) (Ev.now _)
theorem zga {n:Nat} {a b:Int} (h1:1<=(n:Int)/\(n:Int)<=200) (h2:0<=a/\a<=200) (h3:0<=b/\b<=200):Part (fun k=>qboz.f k (n:Int) a b):=by
 have hI:qfhz.f (n:Int) a b=some true:=by
  unfold qfhz.f qekz.f
  simp only [zas,S,decide_eq_true h1,decide_eq_true h2,decide_eq_true h3]
 obtain ⟨c1,_⟩:=zkA (m:=n) (a:=a) (b:=b) (by omega) h2 h3
 have hb:=zqJ n a b n 0
 have hm:=mulb (a:=(n:Int)) (b:=(n:Int)) (A:=200) (B:=200) (by omega) (by omega) (by omega) (by omega)
 have hp:=Int.mul_pos (a:=(n:Int)) (b:=(n:Int)) (by omega) (by omega)
 have hl:=zeB (n:=tot n a b n 0) (d:=(n:Int)*n) (by unfold i64; omega) (by unfold i64; omega)
 refine ⟨((low (tot n a b n 0) ((n:Int)*n)).1,((low (tot n a b n 0) ((n:Int)*n)).2,true)),qboz.v ?_,hl.1,hl.2,fun _=>by have:=zpf (n:=tot n a b n 0) (d:=(n:Int)*n) (by omega); show 1<=(low _ _).2; omega⟩
 simp only [hI,S]
 refine Ev.bind c1 ?_
 simp (disch:=omega) only [S]
 exact Ev.bind (zby (by unfold i64; omega) (by unfold i64; omega) (by omega)) (Ev.now _)
theorem zrm {F:Fu->Option R3} {r:R3} (h:Ev F r) (h1:i64 r.1) (h2:i64 r.2.1):Ev (fun k=>(F k).bind fun t0=>(qikz.f k t0.1 t0.2.1 t0.2.2).bind fun t1=>some t1) (bL (numT 47 [r.1,r.2.1]),r.2.2) :=
 Ev.bind h (Ev.bind (zcO h1 h2 _) (Ev.now _))
theorem zin (D:List Wk) (n:Int) (r:R3) (t:Ar):fin D n ((D,n),(bL (numT 47 [r.1,r.2.1]),(r.2.2,t)))=((D,n),bL (zbu r.1 r.2.1 r.2.2)):=by
 unfold fin zbu
 cases r.2.2 <;> rfl
theorem zpE {b:UInt8} {n:Int} (h1:¬ dig b) (h2:b ≠ 45):b ∉ Lib.itoa n:=zqA h1 h2
theorem zrn {X:List Wk} {n:Int} (h:dOk X n=true) (t:Ar):Ev (fun k=>(qglz.f k X n).bind fun t0=>if (!t0) then some ((X,n),(bs [],(false,t))) else (qcwz.f k X).bind fun t1=>some ((X,n),(t1.1,(t1.2,t)))) ((X,n),(bL (wkT X),(true,t))):=by
 have:=zhR X n t
 rw [if_pos h] at this
 exact this
section
variable {D:List Wk} {n:Int} (hD:dOk D n=true)
include hD
theorem zfc {l w:BA} (h:Ev (fun k=>qfbz.f k D n l) ((D,n),(w,true))):Ev (fun k=>qhaz.f k D n l w) true:=by
 have hl:=dlen hD
 refine qhaz.v (Ev.bind h ?_)
 simp only [S,zfh]
 exact Ev.bind (zfo (by omega) n) (Ev.now _)
theorem zsq:Ev (fun k=>qfbz.f k D n (bs [115,104,111,119])) ((D,n),(bL (wkT D),true)) :=
 zdD hD (w0:=[115,104,111,119]) (fs:=[]) (ws:=[]) (t:=s0) (l:=[115,104,111,119]) (zfb rfl) zrd rfl (by decide) (by decide) (by decide) (by decide) rfl (R:=((D,n),(bL (wkT D),(true,s0))))
  (qdmz.v (by simp (disch:=omega) only [↓reduceIte,BQ,Nat.reduceMod,Nat.reduceBEq,LN,S]; exact zrn hD _)) rfl (dlen hD).2
theorem znP:Ev (fun k=>qfbz.f k D n (bs [119,97,108,107,101,114,115,32]++bL (wkT D))) ((D,n),(bL (wkT D),true)):=by
 have hl:=dlen hD
 have hok:=(zar.1 hD).1
 have hlen:=zri hok
 have n32:(32:UInt8) ∉ wkT D:=by rw [zoC]; exact zoD (zcm (by decide)) (by decide) (by decide) (by decide) D
 have n10:(10:UInt8) ∉ wkT D:=by rw [zoC]; exact zoD (zcm (by decide)) (by decide) (by decide) (by decide) D
 have e:bs [119,97,108,107,101,114,115,32]++bL (wkT D)=bL (([119,97,108,107,101,114,115]:List UInt8)++32::wkT D):=by
  rw [zk8,zbb]; rfl
 rw [e]
 have ht:zcQ [87] [wkT D] s0=some (D,s0.2):=by
  rw [zjP]
  unfold zaG
  rw [if_pos rfl,zmM hok,if_pos rfl]
 refine zdD hD (w0:=[119,97,108,107,101,114,115]) (fs:=[87]) (ws:=[wkT D]) (zfb rfl) zmL rfl (by simp) (zrj (by decide) n32) (by simp; omega) (by simp [n10]) ht (R:=((D,n),(bL (wkT D),(true,(D,s0.2)))))
  (qdmz.v ?_) rfl hl.2
 unfold s0
 simp (disch:=omega) only [↓reduceIte,BQ,Nat.reduceMod,Nat.reduceBEq,LN,S]
 exact zrn hD _
theorem zoE:dOk (D.set 0 ((D.getD 0 (0,0)).1,-(D.getD 0 (0,0)).2)) n=true/\Ev (fun k=>qfbz.f k D n (bs [116,117,114,110,32,48])) ((D.set 0 ((D.getD 0 (0,0)).1,-(D.getD 0 (0,0)).2),n),(bL (wkT (D.set 0 ((D.getD 0 (0,0)).1,-(D.getD 0 (0,0)).2))),true)):=by
 have hl:=dlen hD
 have hn:=(zar.1 hD).2
 have hm1:(0:Nat) < D.length:=by omega
 have hw:=zaO.1 (dmem hD _ (zaf (z:=(0,0)) hm1))
 have w1:(D.getD 0 (0,0)).2*(-1) = -(D.getD 0 (0,0)).2:=by omega
 have hok:zam 8 wOk (D.set 0 ((D.getD 0 (0,0)).1,-(D.getD 0 (0,0)).2))=true:=zak.2 ⟨by rw [List.length_set]; exact hl,fun w h=>by
  rcases List.mem_or_eq_of_mem_set h with h | h
  · exact dmem hD w h
  · rw [h]; exact zaO.2 ⟨hw.1,by simp only []; omega⟩⟩
 have e:dOk (D.set 0 ((D.getD 0 (0,0)).1,-(D.getD 0 (0,0)).2)) n=true:=zar.2 ⟨hok,hn⟩
 have z:((0:Nat):Int)=0:=rfl
 have h0:=zbR hD 0
 have hrd:rd (0,0) D 0=D.getD 0 (0,0):=zhK (0,0) D 0
 rw [decide_eq_true hm1] at h0
 have ht:zcQ [78] [[48]] s0=some ([],(0,(0,(0,(0,([],([],[((0:Nat):Int)]))))))):=by
  have:=zfp (n:=0) (by omega) (by omega) s0
  have e0:Lib.itoa 0=[48]:=by
   rw [show (0:Int)=((0:Nat):Int) from rfl,zcj,zeu (by decide)]
   rfl
  rw [e0] at this
  rw [zjP]
  exact this
 refine ⟨e,zdD hD (w0:=[116,117,114,110]) (fs:=[78]) (ws:=[[48]]) (l:=[116,117,114,110,32,48]) (zfb rfl) zre rfl (by decide) (by decide) (by decide) (by decide) ht (R:=((D.set 0 ((D.getD 0 (0,0)).1,-(D.getD 0 (0,0)).2),n),(bL (wkT (D.set 0 ((D.getD 0 (0,0)).1,-(D.getD 0 (0,0)).2))),(true,([],(0,(0,(0,(0,([],([],[((0:Nat):Int)]))))))))))) (qdmz.v ?_) rfl (by rw [List.length_set]; exact hl.2)⟩
 simp (disch:=omega) only [↓reduceIte,BQ,Nat.reduceMod,Nat.reduceBEq,LN,S,w1,h0,zlq hD]
 exact zrn e _
theorem zro:∃ c:Int,Ev (fun k=>qbxz.f k D) (c,true)/\i64 c/\0<=c/\Ev (fun k=>qfbz.f k D n (bs [112,97,105,114,115])) ((D,n),(bL (Lib.itoa c),true)):=by
 obtain ⟨c,c1,c2,c3,c4⟩:=zdC (zar.1 hD).1
 refine ⟨c,c1,c3,c4,zdD hD (w0:=[112,97,105,114,115]) (fs:=[]) (ws:=[]) (t:=s0) (l:=[112,97,105,114,115]) (zfb rfl) zpC rfl (by decide) (by decide) (by decide) (by decide) rfl (R:=((D,n),(bL (Lib.itoa c),(true,s0)))) (qdmz.v ?_) rfl (dlen hD).2⟩
 simp (disch:=omega) only [↓reduceIte,BQ,Nat.reduceMod,Nat.reduceBEq,LN,S]
 refine Ev.bind (v:=(bL (Lib.itoa c),(true,s0))) (qfkz.v ?_) (Ev.now _)
 simp (disch:=omega) only [↓reduceIte,BQ,Nat.reduceMod,Nat.reduceBEq,LN,S]
 refine Ev.bind c1 ?_
 simp only [zfH c3,S]
 exact Ev.now _
theorem zo7 {m m2:Nat} (hm:m < D.length) (hm2:m2 < D.length):zcQ [78,78] [Lib.itoa (m:Int),Lib.itoa (m2:Int)] s0=some ([],(0,(0,(0,(0,([],([],[(m:Int),(m2:Int)]))))))):=by
 have hl:=dlen hD
 show (zaG 78 (Lib.itoa (m:Int)) s0).bind (zcQ [78] [Lib.itoa (m2:Int)])=_
 rw [zfp (by omega) (by omega),Option.bind_some,zjP,zfp (by omega) (by omega)]
 rfl
theorem zsr {m m2:Nat} (hm:m < D.length) (hm2:m2 < D.length) {r:R3} (h:Ev (fun k=>qcqz.f k (D.getD m (0,0)).1 (D.getD m (0,0)).2 (D.getD m2 (0,0)).1 (D.getD m2 (0,0)).2) r) (h1:i64 r.1) (h2:i64 r.2.1) :
    Ev (fun k=>qfbz.f k D n (bL (([109,101,101,116]:List UInt8)++32::(Lib.itoa (m:Int)++32::Lib.itoa (m2:Int))))) ((D,n),(bL (zbu r.1 r.2.1 r.2.2),true)):=by
 have hl:=dlen hD
 have l1:=zaP (n:=(m:Int)) (by omega) (by omega)
 have l2:=zaP (n:=(m2:Int)) (by omega) (by omega)
 have q:∀ x:Int,(32:UInt8) ∉ Lib.itoa x:=fun x=>zpE (zcm (by decide)) (by decide)
 have q':∀ x:Int,(10:UInt8) ∉ Lib.itoa x:=fun x=>zpE (zcm (by decide)) (by decide)
 refine zdD hD (w0:=[109,101,101,116]) (fs:=[78,78]) (zfb rfl) zrf rfl (by simp) (zrk (by decide) (q _) (q _)) (by simp; omega) (by simp [q']) (zo7 hD hm hm2) (qdmz.v ?_) (zin D n r ([],(0,(0,(0,(0,([],([],[(m:Int),(m2:Int)])))))))) hl.2
 simp (disch:=omega) only [↓reduceIte,BQ,Nat.reduceMod,Nat.reduceBEq,LN,S]
 refine Ev.bind (v:=(bL (numT 47 [r.1,r.2.1]),(r.2.2,_))) (qfkz.v ?_) (Ev.now _)
 simp (disch:=omega) only [↓reduceIte,BQ,Nat.reduceMod,Nat.reduceBEq,LN,S,zbR hD,decide_eq_true hm,decide_eq_true hm2]
 refine Ev.bind (v:=(bL (numT 47 [r.1,r.2.1]),r.2.2)) (qcez.v ?_) (Ev.now _)
 simp (disch:=omega) only [↓reduceIte,BQ,Nat.reduceMod,Nat.reduceBEq,LN,S]
 exact zrm h h1 h2
theorem zrp {m m2:Nat} (hm:m < D.length) (hm2:m2 < D.length) {r:R3} (h:Ev (fun k=>qciz.f k (D.getD m (0,0)).1 (D.getD m (0,0)).2 (D.getD m2 (0,0)).1 (D.getD m2 (0,0)).2) r) (h1:i64 r.1) (h2:i64 r.2.1) :
    Ev (fun k=>qfbz.f k D n (bL (([119,104,101,114,101]:List UInt8)++32::(Lib.itoa (m:Int)++32::Lib.itoa (m2:Int))))) ((D,n),(bL (zbu r.1 r.2.1 r.2.2),true)):=by
 have hl:=dlen hD
 have l1:=zaP (n:=(m:Int)) (by omega) (by omega)
 have l2:=zaP (n:=(m2:Int)) (by omega) (by omega)
 have q:∀ x:Int,(32:UInt8) ∉ Lib.itoa x:=fun x=>zpE (zcm (by decide)) (by decide)
 have q':∀ x:Int,(10:UInt8) ∉ Lib.itoa x:=fun x=>zpE (zcm (by decide)) (by decide)
 refine zdD hD (w0:=[119,104,101,114,101]) (fs:=[78,78]) (zfb rfl) zpB rfl (by simp) (zrk (by decide) (q _) (q _)) (by simp; omega) (by simp [q']) (zo7 hD hm hm2) (qdmz.v ?_) (zin D n r ([],(0,(0,(0,(0,([],([],[(m:Int),(m2:Int)])))))))) hl.2
 simp (disch:=omega) only [↓reduceIte,BQ,Nat.reduceMod,Nat.reduceBEq,LN,S]
 refine Ev.bind (v:=(bL (numT 47 [r.1,r.2.1]),(r.2.2,_))) (qfkz.v ?_) (Ev.now _)
 simp (disch:=omega) only [↓reduceIte,BQ,Nat.reduceMod,Nat.reduceBEq,LN,S,zbR hD,decide_eq_true hm,decide_eq_true hm2]
 refine Ev.bind (v:=(bL (numT 47 [r.1,r.2.1]),r.2.2)) (qcez.v ?_) (Ev.now _)
 simp (disch:=omega) only [↓reduceIte,BQ,Nat.reduceMod,Nat.reduceBEq,LN,S]
 exact zrm h h1 h2
theorem zss {l:List Wk} (hok:zam 5 lOk l=true) {r:R3} (h:Ev (fun k=>qeqz.f k l) r) (h1:i64 r.1) (h2:i64 r.2.1) :
    Ev (fun k=>qfbz.f k D n (bL (([109,101,97,110]:List UInt8)++32::prT 47 43 l))) ((D,n),(bL (zbu r.1 r.2.1 r.2.2),true)):=by
 have hl:=dlen hD
 obtain ⟨⟨_,g2⟩,g3⟩:=zak.1 hok
 have hlen:=znO (c:=47) (c1:=43) (l:=l) fun w hw=>by
  have:=zex.1 (g3 w hw)
  unfold i64
  omega
 have n32:(32:UInt8) ∉ prT 47 43 l:=zoD (zcm (by decide)) (by decide) (by decide) (by decide) l
 have n10:(10:UInt8) ∉ prT 47 43 l:=zoD (zcm (by decide)) (by decide) (by decide) (by decide) l
 have ht:zcQ [76] [prT 47 43 l] s0=some ([],(0,(0,(0,(0,(l,([],[]))))))):=by
  rw [zjP]
  unfold zaG
  rw [if_neg (by decide),if_neg (by decide),if_pos rfl,zrh hok,if_pos rfl]
  rfl
 refine zdD hD (w0:=[109,101,97,110]) (fs:=[76]) (zfb rfl) zrg rfl (by simp) (zrj (by decide) n32) (by simp; omega) (by simp [n10]) ht (qdmz.v ?_) (zin D n r ([],(0,(0,(0,(0,(l,([],[])))))))) hl.2
 simp (disch:=omega) only [↓reduceIte,BQ,Nat.reduceMod,Nat.reduceBEq,LN,S]
 refine Ev.bind (v:=(bL (numT 47 [r.1,r.2.1]),(r.2.2,_))) (qfkz.v ?_) (Ev.now _)
 simp (disch:=omega) only [↓reduceIte,BQ,Nat.reduceMod,Nat.reduceBEq,LN,S]
 refine Ev.bind (v:=(bL (numT 47 [r.1,r.2.1]),(r.2.2,_))) (qerz.v ?_) (Ev.now _)
 simp (disch:=omega) only [↓reduceIte,BQ,Nat.reduceMod,Nat.reduceBEq,LN,S]
 exact Ev.bind h (Ev.bind (zcO h1 h2 _) (Ev.now _))
theorem zpF {a b c:Nat} (ha:a<=1000) (hb:b<=1000) (hc:c<=1000) {r:R3} (h:Ev (fun k=>qboz.f k (a:Int) (b:Int) (c:Int)) r) (h1:i64 r.1) (h2:i64 r.2.1) :
    Ev (fun k=>qfbz.f k D n (bL (([99,104,97,110,99,101]:List UInt8)++32::(Lib.itoa (a:Int)++32::(Lib.itoa (b:Int)++32::Lib.itoa (c:Int)))))) ((D,n),(bL (zbu r.1 r.2.1 r.2.2),true)):=by
 have hl:=dlen hD
 have l1:=zaP (n:=(a:Int)) (by omega) (by omega)
 have l2:=zaP (n:=(b:Int)) (by omega) (by omega)
 have l3:=zaP (n:=(c:Int)) (by omega) (by omega)
 have q:∀ x:Int,(32:UInt8) ∉ Lib.itoa x:=fun x=>zpE (zcm (by decide)) (by decide)
 have q':∀ x:Int,(10:UInt8) ∉ Lib.itoa x:=fun x=>zpE (zcm (by decide)) (by decide)
 have ht:zcQ [78,78,78] [Lib.itoa (a:Int),Lib.itoa (b:Int),Lib.itoa (c:Int)] s0=some ([],(0,(0,(0,(0,([],([],[(a:Int),(b:Int),(c:Int)]))))))):=by
  show (zaG 78 (Lib.itoa (a:Int)) s0).bind (zcQ [78,78] [Lib.itoa (b:Int),Lib.itoa (c:Int)])=_
  rw [zfp (by omega) (by omega),Option.bind_some]
  show (zaG 78 (Lib.itoa (b:Int)) _).bind (zcQ [78] [Lib.itoa (c:Int)])=_
  rw [zfp (by omega) (by omega),Option.bind_some,zjP,zfp (by omega) (by omega)]
  rfl
 refine zdD hD (w0:=[99,104,97,110,99,101]) (fs:=[78,78,78]) (zfb rfl) znM rfl (by simp) (zux (by decide) (q _) (q _) (q _)) (by simp; omega) (by simp [q']) ht (qdmz.v ?_) (zin D n r ([],(0,(0,(0,(0,([],([],[(a:Int),(b:Int),(c:Int)])))))))) hl.2
 simp (disch:=omega) only [↓reduceIte,BQ,Nat.reduceMod,Nat.reduceBEq,LN,S]
 refine Ev.bind (v:=(bL (numT 47 [r.1,r.2.1]),(r.2.2,_))) (qfkz.v ?_) (Ev.now _)
 simp (disch:=omega) only [↓reduceIte,BQ,Nat.reduceMod,Nat.reduceBEq,LN,S]
 refine Ev.bind (v:=(bL (numT 47 [r.1,r.2.1]),(r.2.2,_))) (qerz.v ?_) (Ev.now _)
 simp (disch:=omega) only [↓reduceIte,BQ,Nat.reduceMod,Nat.reduceBEq,LN,S]
 exact Ev.bind h (Ev.bind (zcO h1 h2 _) (Ev.now _))
end
theorem zeI {s:List Int} (hs:zaX s) {a:Int} (d:Int) (h0:0<=a) (h1:a<=900000):Goes s a 8 (qclz.f s a d) fun _=>True:=by
 unfold qclz.f
 refine Goes.step (n:=4) (m:=4) (zaB hs d h0 (by omega)) (by omega) fun v a1 e1 _ _ _=>?_
 refine Goes.step (n:=2) (m:=2) (zbj hs e1 (n:=20) (by omega) (by omega) (by omega)) (by omega) fun u a2 e2 _ _ hu=>?_
 refine Goes.ite (fun _=>?_) fun _=>Goes.ite (fun _=>?_) fun _=>?_
 · exact Goes.step (n:=2) (m:=0) (zbM hs e2 (by simp) (by omega) (by omega)) (by omega) fun x a3 e3 _ _ _=>Goes.now trivial
 · exact Goes.step (n:=2) (m:=0) (zbM hs e2 (by simp) (by omega) (by omega)) (by omega) fun x a3 e3 _ _ _=>Goes.now trivial
 · exact (Goes.now (P:=fun _=>True) trivial).le (by omega) fun _ h=>h
theorem zrq {s:List Int} (hs:zaX s):∀ (m:Nat) {a:Int} (d:Int) (x:List Wk),9<=x.length+m->x.length<=9->0<=a->a+8*(m:Int)<=900000->EvGoes s a (8*(m:Int)+2) (fun k=>qbvz.l1 k s a d x) fun _=>True:=by
 intro m
 induction m with
 | zero =>
  intro a d x h1 h2 h3 h4
  refine EvGoes.of (fun r h=>qbvz.v1 h) ?_
  refine EvGoes.bind (n:=2) (m:=0) (zbj hs d (n:=2) (by omega) h3 (by omega)).ev (by omega) fun v a1 e1 _ _ hv=>?_
  have w:W (8+v)=8+v:=w64 (by omega) (by omega)
  have c:iLt (ln x) (8+v)=false:=decide_eq_false (by simp only [ln]; omega)
  simp only [w,c,Bool.false_eq_true,if_false]
  exact EvGoes.now trivial (by omega)
 | succ m ih =>
  intro a d x h1 h2 h3 h4
  refine EvGoes.of (fun r h=>qbvz.v1 h) ?_
  refine EvGoes.bind (n:=2) (m:=8*(m:Int)+6) (zbj hs d (n:=2) (by omega) h3 (by omega)).ev (by omega) fun v a1 e1 _ _ hv=>?_
  have w:W (8+v)=8+v:=w64 (by omega) (by omega)
  simp only [w]
  by_cases hc:(x.length:Int) < 8+v
  · have c:iLt (ln x) (8+v)=true:=decide_eq_true hc
    simp only [c,if_true]
    refine EvGoes.bind (n:=4) (m:=8*(m:Int)+2) (zaB hs e1 (by omega) (by omega)).ev (by omega) fun u a2 e2 _ _ hu=>?_
    have hgd:∀ {β:Type} {y:Option β},gd ((lnN x)+1<=8796093022208) y=y:=fun {β y}=>zrb (by simp only [lnN]; omega)
    simp only [hgd]
    exact ih e2 _ (by simp; omega) (by simp; omega) (by omega) (by omega)
  · have c:iLt (ln x) (8+v)=false:=decide_eq_false hc
    simp only [c,Bool.false_eq_true,if_false]
    exact EvGoes.now trivial (by omega)
theorem zmN {s:List Int} (hs:zaX s):∀ (n:Nat) {a:Int} (d:Int) (x:List Wk),x.length+n<=9->1<=x.length+n->0<=a->a+8*(n:Int)<=800000->EvGoes s a (8*(n:Int)+100) (fun k=>qbvz.l0 k (n:Int) s a d x) fun _=>True:=by
 intro n
 induction n with
 | zero =>
  intro a d x h1 h2 h3 h4
  refine EvGoes.of (fun r h=>qbvz.v0 h) ?_
  have c:iGt ((0:Nat):Int) 0=false:=rfl
  have hgd:∀ {β:Type} {y:Option β},gd ((lnN x)+1<=8796093022208) y=y:=fun {β y}=>zrb (by simp only [lnN]; omega)
  have hgd2:∀ {β:Type} {y:Option β},gd (0 < (ln x)) y=y:=fun {β y}=>zrb (by simp only [ln]; omega)
  simp only [c,Bool.false_eq_true,if_false,hgd,hgd2]
  refine EvGoes.bind (n:=2) (m:=98) (zbj hs d (n:=20) (by omega) h3 (by omega)).ev (by omega) fun v a1 e1 _ _ hv=>?_
  refine EvGoes.ite (fun _=>?_) fun _=>EvGoes.ite (fun _=>?_) fun _=>EvGoes.ite (fun _=>?_) fun _=>EvGoes.ite (fun _=>?_) fun _=>?_
  · exact EvGoes.now trivial (by omega)
  · exact (zrq hs 9 e1 x (by omega) (by omega) (by omega) (by omega)).le (by omega) fun _ h=>h
  · exact EvGoes.now trivial (by omega)
  · exact EvGoes.now trivial (by omega)
  · exact EvGoes.now trivial (by omega)
 | succ n ih =>
  intro a d x h1 h2 h3 h4
  refine EvGoes.of (fun r h=>qbvz.v0 h) ?_
  have c:iGt ((n+1:Nat):Int) 0=true:=decide_eq_true (by omega)
  have w1:W (((n+1:Nat):Int)-1)=(n:Int):=by rw [w64 (by omega) (by omega)]; omega
  have hgd:∀ {β:Type} {y:Option β},gd ((lnN x)+1<=8796093022208) y=y:=fun {β y}=>zrb (by simp only [lnN]; omega)
  simp only [c,if_true,hgd,w1]
  refine EvGoes.bind (n:=8) (m:=8*(n:Int)+100) (zeI hs d h3 (by omega)).ev (by omega) fun v a1 e1 _ _ _=>?_
  exact ih e1 _ (by simp; omega) (by simp; omega) (by omega) (by omega)
theorem zrr {s:List Int} (hs:zaX s):EvGoes s 0 300 (fun k=>qdqz.f k s 0 0) fun _=>True:=by
 refine EvGoes.of (fun r h=>qdqz.v h) ?_
 refine EvGoes.bind (n:=200) (m:=2) (P:=fun _=>True) (EvGoes.of (fun r h=>qbvz.v h) ?_) (by omega) fun v a1 e1 _ _ _=>?_
 · refine EvGoes.bind (n:=2) (m:=180) (zbj hs 0 (n:=5) (by omega) (by omega) (by omega)).ev (by omega) fun v a1 e1 _ _ hv=>?_
   have w:W (1+v)=((v.toNat+1:Nat):Int):=by rw [w64 (by omega) (by omega)]; omega
   simp only [w]
   exact (zmN hs (v.toNat+1) e1 [] (by simp; omega) (by simp) (by omega) (by omega)).le (by omega) fun _ h=>h
 · refine EvGoes.bind (n:=2) (m:=0) (P:=fun _=>True) (Goes.ev ?_) (by omega) fun u a2 e2 _ _ _=>EvGoes.now trivial (by omega)
   unfold qcoz.f
   exact Goes.step (n:=2) (m:=0) (zbM hs e1 (by simp) (by omega) (by omega)) (by omega) fun x a3 e3 _ _ _=>Goes.now trivial
theorem zhn {s:List Int} (hs:zaX s):∃ (D:List Wk) (n:Int) (l:List UInt8),Ev (fun k=>qcfz.f k s) ((D,n),bL l)/\l.length<=1000:=by
 obtain ⟨⟨D,n⟩,a1,e1,p1,p2,p3,_⟩:=zrr hs
 obtain ⟨b,a2,e2,q1,q2,q3,_⟩:=zf9 hs e1 20 (a:=a1) (by omega) (by omega)
 obtain ⟨x,a3,e3,r1,_,_,r2⟩:=znK hs e2 (a:=a2) (by omega) (by omega)
 have o1:(bs [10]).size=1:=rfl
 obtain ⟨l,rfl⟩ : ∃ l,x=bL l:=⟨_,(zsF x).symm⟩
 have hz:=zai l
 cases b with
 | true =>
  refine ⟨D,n,l++[10],qcfz.v (Ev.bind p1 ?_),by simp; omega⟩
  simp only [q1,Option.bind_some,if_true]
  refine Ev.bind r1 (Ev.eq (fun k=>zbq (by dsimp only; omega)) ?_)
  exact zbK (by rw [show bs [10]=bL [10] from rfl,zbb])
 | false =>
  refine ⟨D,n,l,qcfz.v (Ev.bind p1 ?_),by omega⟩
  simp only [q1,Option.bind_some,Bool.false_eq_true,if_false]
  exact Ev.bind r1 (Ev.now _)
theorem zrs (w:List Nat) (x y:List UInt8):bs w++(((bs [32]++bL x)++bs [32])++bL y)=bL (w.map UInt8.ofNat++32::(x++32::y)):=by
 rw [zk8,show bs [32]=bL [32] from rfl,zbb,zbb,zbb,zbb]
 simp
theorem ztN (x:List UInt8):bs [109,101,97,110,32]++bL x=bL (([109,101,97,110]:List UInt8)++32::x):=by
 rw [zk8,zbb]
 rfl
theorem zrt (x y z:List UInt8):((((bs [99,104,97,110,99,101,32]++bL x)++bs [32])++bL y)++bs [32])++bL z=bL (([99,104,97,110,99,101]:List UInt8)++32::(x++32::(y++32::z))):=by
 rw [show bs [99,104,97,110,99,101,32]=bL [99,104,97,110,99,101,32] from rfl,show bs [32]=bL [32] from rfl,zbb,zbb,zbb,zbb,zbb]
 simp
theorem zgL (a m:Nat):Int.tmod (a:Int) (m:Int)=((a % m:Nat):Int):=by
 rw [Int.tmod_eq_emod_of_nonneg (by omega)]
 rfl
section
variable {D:List Wk} {n:Int} (hD:dOk D n=true)
include hD
set_option maxHeartbeats 1000000 in
theorem zru (a b:Nat):Ev (fun k=>qgxz.f k D n (a:Int) (b:Int)) true:=by
 have hl:=dlen hD
 have hM:=hML
 have hi:a % D.length < D.length:=Nat.mod_lt _ (by omega)
 have hj:b % D.length < D.length:=Nat.mod_lt _ (by omega)
 have e1:Int.tmod (a:Int) (ln D)=((a % D.length:Nat):Int):=zgL a D.length
 have e2:Int.tmod (b:Int) (ln D)=((b % D.length:Nat):Int):=zgL b D.length
 have e3:Int.tmod (a:Int) 1000=((a % 1000:Nat):Int):=zgL a 1000
 have e4:Int.tmod (b:Int) 100=((b % 100:Nat):Int):=zgL b 100
 have e5:Int.tmod (a:Int) 200=((a % 200:Nat):Int):=zgL a 200
 have h3:a % 1000 < 1000:=Nat.mod_lt _ (by omega)
 have h4:b % 100 < 100:=Nat.mod_lt _ (by omega)
 have h5:a % 200 < 200:=Nat.mod_lt _ (by omega)
 have c0:¬ (ln D)=0:=by simp only [ln]; omega
 refine qgxz.v ?_
 simp only [e1,e2,e3,e4,e5,if_neg c0]
 generalize a % D.length=i at *
 generalize b % D.length=j at *
 generalize a % 1000=p at *
 generalize b % 100=q at *
 generalize a % 200=u at *
 have w1:W (1+(i:Int))=((i+1:Nat):Int):=by rw [w64 (by omega) (by omega)]; omega
 have w2:W (1+(j:Int))=((j+1:Nat):Int):=by rw [w64 (by omega) (by omega)]; omega
 have w3:W (1+(p:Int))=((p+1:Nat):Int):=by rw [w64 (by omega) (by omega)]; omega
 have w4:W (1+(q:Int))=((q+1:Nat):Int):=by rw [w64 (by omega) (by omega)]; omega
 have w5:W (1+(u:Int))=((u+1:Nat):Int):=by rw [w64 (by omega) (by omega)]; omega
 simp only [w1,w2,w3,w4,w5]
 have gi:=dmem hD _ (zaf (z:=(0,0)) hi)
 have gj:=dmem hD _ (zaf (z:=(0,0)) hj)
 have x1:∀ {β:Type} (x:Option β),ix (i:Int) D x=x:=fun x=>zpA (by omega) (by omega)
 have x2:∀ {β:Type} (x:Option β),ix (j:Int) D x=x:=fun x=>zpA (by omega) (by omega)
 have y1:rd (0,0) D (i:Int)=D.getD i (0,0):=zhK (0,0) D i
 have y2:rd (0,0) D (j:Int)=D.getD j (0,0):=zhK (0,0) D j
 simp only [x1,x2,y1,y2]
 obtain ⟨r,ra,rb,rc,rd'⟩:=zh5 gi gj
 obtain ⟨s,sa,sb,sc,sd⟩:=zhm gi gj
 obtain ⟨c,c1,c2,c3,c4⟩:=zro hD
 have lok:zam 5 lOk [(((i+1:Nat):Int),((j+1:Nat):Int)),(((p+1:Nat):Int),((q+1:Nat):Int))]=true:=zak.2 ⟨⟨by simp,by simp⟩,fun w hw=>by
  simp only [List.mem_cons,List.not_mem_nil,or_false] at hw
  rcases hw with rfl | rfl
  · exact zex.2 ⟨by dsimp only; omega,by dsimp only; omega⟩
  · exact zex.2 ⟨by dsimp only; omega,by dsimp only; omega⟩⟩
 obtain ⟨v,va,vb,vc,vd,ve⟩:=zj4 lok
 have ht:=zh4 lok
 have hr:=zss hD lok va vb vc
 have hlen:=znO (c:=47) (c1:=43) (l:=[(((i+1:Nat):Int),((j+1:Nat):Int)),(((p+1:Nat):Int),((q+1:Nat):Int))]) fun w hw=>by
  have:=zex.1 ((zak.1 lok).2 w hw)
  unfold i64
  omega
 simp only [List.length_cons,List.length_nil] at hlen
 generalize [(((i+1:Nat):Int),((j+1:Nat):Int)),(((p+1:Nat):Int),((q+1:Nat):Int))]=L at *
 obtain ⟨t,ta,tb,tc,td⟩:=zga (n:=u+1) (a:=(i:Int)) (b:=(q:Int)) (by omega) (by omega) (by omega)
 have ni:=zb9 (n:=(i:Int)) (by omega) (by unfold i64; omega)
 have nj:=zb9 (n:=(j:Int)) (by omega) (by unfold i64; omega)
 have nu:=zb9 (n:=((u+1:Nat):Int)) (by omega) (by unfold i64; omega)
 have nq:=zb9 (n:=(q:Int)) (by omega) (by unfold i64; omega)
 have li:=zaP (n:=(i:Int)) (by omega) (by omega)
 have lj:=zaP (n:=(j:Int)) (by omega) (by omega)
 have lu:=zaP (n:=((u+1:Nat):Int)) (by omega) (by omega)
 have lq:=zaP (n:=(q:Int)) (by omega) (by omega)
 have k1:=zfc hD (zsr hD hi hj ra rb rc)
 have k2:=zfc hD (zrp hD hi hj sa sb sc)
 have k3:=zfc hD c4
 have k4:=zfc hD hr
 have k5:=zfc hD (zpF hD (a:=u+1) (b:=i) (c:=q) (by omega) (by omega) (by omega) ta tb tc)
 have m1:bs [109,101,101,116]++(((bs [32]++bL (Lib.itoa (i:Int)))++bs [32])++bL (Lib.itoa (j:Int)))=bL (([109,101,101,116]:List UInt8)++32::(Lib.itoa (i:Int)++32::Lib.itoa (j:Int))):=zrs _ _ _
 have m2:bs [119,104,101,114,101]++(((bs [32]++bL (Lib.itoa (i:Int)))++bs [32])++bL (Lib.itoa (j:Int)))=bL (([119,104,101,114,101]:List UInt8)++32::(Lib.itoa (i:Int)++32::Lib.itoa (j:Int))):=zrs _ _ _
 rw [<- m1] at k1
 rw [<- m2] at k2
 rw [<- ztN] at k4
 rw [<- zrt] at k5
 rw [ve] at k4
 have o1:(bs [32]).size=1:=rfl
 have o2:(bs [99,104,97,110,99,101,32]).size=7:=rfl
 have bf:¬ ((!true)=true):=by decide
 have c5:¬ (iLt c 0=true):=by rw [show iLt c 0=false from decide_eq_false (by omega)]; decide
 have n1:¬ ((!v.2.2)=true):=by rw [ve]; decide
 refine Ev.bind ra (Ev.bind sa (Ev.bind ni ?_))
 refine Ev.eq (fun k=>zbq (by simp only [ByteArray.size_append,zai,o1]; omega)) ?_
 refine Ev.eq (fun k=>zbq (by simp only [ByteArray.size_append,zai,o1]; omega)) ?_
 refine Ev.bind nj ?_
 refine Ev.eq (fun k=>zbq (by simp only [ByteArray.size_append,zai,o1]; omega)) ?_
 refine Ev.eq (fun k=>zbq (by simp only [ByteArray.size_append,zai,o1]; omega)) ?_
 refine Ev.bind (zim rb rc rd') (Ev.bind k1 ?_)
 refine Ev.eq (fun k=>if_neg bf) ?_
 refine Ev.eq (fun k=>zbq (by simp only [ByteArray.size_append,zai,o1]; omega)) ?_
 refine Ev.bind (zim sb sc sd) (Ev.bind k2 ?_)
 refine Ev.eq (fun k=>if_neg bf) ?_
 refine Ev.bind c1 ?_
 refine Ev.eq (fun k=>if_neg bf) ?_
 refine Ev.eq (fun k=>if_neg c5) ?_
 refine Ev.bind (zb9 c3 c2) (Ev.bind k3 ?_)
 refine Ev.eq (fun k=>if_neg bf) ?_
 refine Ev.bind va (Ev.bind ht ?_)
 refine Ev.eq (fun k=>if_neg n1) ?_
 refine Ev.eq (fun k=>if_neg bf) ?_
 refine Ev.eq (fun k=>zbq (by dsimp only; rw [zai]; omega)) ?_
 refine Ev.bind (v:=bL (zbu v.1 v.2.1 true)) (zim vb vc (fun _=>vd ve)) (Ev.bind k4 ?_)
 refine Ev.eq (fun k=>if_neg bf) ?_
 refine Ev.bind ta (Ev.bind nu ?_)
 refine Ev.eq (fun k=>zbq (by simp only [ByteArray.size_append,zai,o2]; omega)) ?_
 refine Ev.eq (fun k=>zbq (by simp only [ByteArray.size_append,zai,o1,o2]; omega)) ?_
 refine Ev.bind ni ?_
 refine Ev.eq (fun k=>zbq (by simp only [ByteArray.size_append,zai,o1,o2]; omega)) ?_
 refine Ev.eq (fun k=>zbq (by simp only [ByteArray.size_append,zai,o1,o2]; omega)) ?_
 refine Ev.bind nq ?_
 refine Ev.eq (fun k=>zbq (by simp only [ByteArray.size_append,zai,o1,o2]; omega)) ?_
 exact Ev.bind (zim tb tc td) (Ev.bind k5 (Ev.now _))
theorem zrv:(D.set 0 ((D.getD 0 (0,0)).1,-(D.getD 0 (0,0)).2)).set 0 (((D.set 0 ((D.getD 0 (0,0)).1,-(D.getD 0 (0,0)).2)).getD 0 (0,0)).1,-((D.set 0 ((D.getD 0 (0,0)).1,-(D.getD 0 (0,0)).2)).getD 0 (0,0)).2)=D:=by
 have hl:=dlen hD
 cases D with
 | nil=>simp at hl
 | cons p D=>simp
theorem zst (a b:Nat):Ev (fun k=>(qglz.f k D n).bind fun t6 =>
    if (!t6) then some false else (qfbz.f k D n (bs [115,104,111,119])).bind fun t7 =>
    (qcwz.f k D).bind fun t8 =>
    gd ((8+(ByteArray.size t8.1))<=maxLen) <| (qfbz.f k D n ((bs [119,97,108,107,101,114,115,32])++t8.1)).bind fun t9 =>
    (qfbz.f k D n (bs [116,117,114,110,32,48])).bind fun t10 =>
    (qfbz.f k t10.1.1 t10.1.2 (bs [116,117,114,110,32,48])).bind fun t11 =>
    if t7.2.2 then if t8.2 then if (seq t7.2.1 t8.1) then (qibz.f k t7.1.1 t7.1.2 D n).bind fun t12 =>
    if t12 then if t9.2.2 then if (seq t9.2.1 t8.1) then (qibz.f k t9.1.1 t9.1.2 D n).bind fun t13 =>
    if t13 then if t10.2.2 then if t11.2.2 then (qibz.f k t11.1.1 t11.1.2 D n).bind fun t14 =>
    if t14 then (qgxz.f k D n (a:Int) (b:Int)).bind fun t15 =>
    some t15 else some false else some false else some false else some false else some false else some false else some false else some false else some false else some false) true:=by
 have hl:=dlen hD
 have hM:=hML
 have hlen:=zri (zar.1 hD).1
 have hI:=zcG D n
 rw [hD] at hI
 have hW:=zdm D
 rw [if_pos (zar.1 hD).1] at hW
 have ht:=zoE hD
 have hb:=(zoE ht.1).2
 rw [zrv hD] at hb
 have hy:=zfo (l:=D) (by omega) n
 refine Ev.bind hI ?_
 simp only [S]
 refine Ev.bind (zsq hD) (Ev.bind hW ?_)
 simp (disch:=omega) only [S,zai]
 refine Ev.bind (znP hD) (Ev.bind ht.2 (Ev.bind hb ?_))
 simp only [S,zfh]
 refine Ev.bind hy ?_
 simp only [S,zfh]
 refine Ev.bind hy ?_
 simp only [S,zfh]
 refine Ev.bind hy ?_
 simp only [S,zfh]
 exact Ev.bind (zru hD a b) (Ev.now _)
end
theorem FnDeskLines (l0 l1:List Int) (m0:l0.length<=140737488351232) (f0:∀ z∈l0,(Lit.int .u8 z).wf=true) (m1:l1.length<=140737488351232) (f1:∀ z∈l1,(Lit.int .u8 z).wf=true):∃ K,qcrz.f (fun _=>K) l0 l1=some true:=by
 have hc:zaX l0:=fun z hz=>zuw (f0 z hz)
 refine Ev.rounds (g:=fun k=>qcrz.f k l0 l1) (qcrz.v ?_)
 have hbig:∃ b,qimz.f l0 l1=some b:=by
  unfold qimz.f
  by_cases h:iGt (ln l0) 1048576=true
  · exact ⟨_,if_pos h⟩
  · exact ⟨_,if_neg h⟩
 obtain ⟨b,hbig⟩:=hbig
 have ff:¬ (false=true):=by decide
 simp only [hbig,Option.bind_some]
 cases b with
 | true=>simp only [if_true]; exact Ev.now _
 | false =>
  simp only [if_neg ff]
  obtain ⟨D,n,l,hd,hsz⟩:=zhn hc
  refine Ev.bind hd ?_
  obtain ⟨r,r1,r2,r3,r4⟩:=zmK D n (l:=l) (by omega)
  have b1:(!true)=false:=rfl
  have b2:(r.2.2 == r.2.2)=true:=beq_self_eq_true _
  refine Ev.bind r3 (Ev.bind r4 ?_)
  simp only [b1,b2,zfh,if_neg ff]
  refine Ev.bind (zfo (by omega) r.1.2) ?_
  simp only [b1,if_neg ff]
  cases hok:r.2.2 with
  | false =>
   simp only [Bool.not_false,if_true]
   exact Ev.now _
  | true =>
   obtain ⟨g1,g2⟩:=r2 hok
   have tail:=zst g1 l0.length l1.length
   have hy:r.1=(D,n)->Ev (fun k=>qibz.f k r.1.1 r.1.2 D n) true:=fun e=>by
    rw [e] at r1 ⊢
    exact zfo (by omega) n
   simp only [b1,if_neg ff]
   by_cases c1:seq r.2.1 (bs [110,111])=true
   · simp only [if_pos c1]
     refine Ev.bind (hy (zrl g2 (.inl c1))) ?_
     simp only [b1,if_neg ff]
     exact tail
   · simp only [if_neg c1]
     by_cases c2:seq r.2.1 (bs [119,104,97,116])=true
     · simp only [if_pos c2]
       refine Ev.bind (hy (zrl g2 (.inr c2))) ?_
       simp only [b1,if_neg ff]
       exact tail
     · simp only [if_neg c2]
       exact tail
end Go.Proofs.YtdhkgmhdengnkaaGreatDoor.Li
