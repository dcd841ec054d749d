/- The plain law (part 2 of 2). -/
import Derived.Test.YtdhkgmhdengnkaaGreatDoorRsQa
namespace Go.Proofs.YtdhkgmhdengnkaaGreatDoor.Rs
open Go Go.Proofs.YtdhkgmhdengnkaaGreatDoorPi Go.RowKit
set_option linter.unusedVariables false
set_option linter.unusedSectionVars false
set_option linter.unusedSimpArgs false
set_option maxHeartbeats 1000000
variable [Inhabited Sv]
theorem zkU:∀ {a b:List Int},a.Pairwise (· < ·)->b.Pairwise (· < ·)->(∀ x,x∈a ↔ x∈b)->a=b:=by
 intro a
 induction a with
 | nil =>
  intro b _ _ h
  cases b with
  | nil=>rfl
  | cons y b=>exact absurd ((h y).2 (by simp)) (by simp)
 | cons x a ih =>
  intro b ha hb h
  cases b with
  | nil=>exact absurd ((h x).1 (by simp)) (by simp)
  | cons y b =>
   obtain ⟨a1,a2⟩:=List.pairwise_cons.1 ha
   obtain ⟨b1,b2⟩:=List.pairwise_cons.1 hb
   have hxy:x=y:=by
    rcases List.mem_cons.1 ((h x).1 (by simp)) with e | e
    · exact e
    · rcases List.mem_cons.1 ((h y).2 (by simp)) with e' | e'
      · exact e'.symm
      · have:=b1 x e
        have:=a1 y e'
        omega
   subst hxy
   rw [ih a2 b2 fun z=>⟨fun hz=>by
    rcases List.mem_cons.1 ((h z).1 (List.mem_cons_of_mem _ hz)) with e | e
    · have:=a1 z hz; omega
    · exact e,fun hz=>by
    rcases List.mem_cons.1 ((h z).2 (List.mem_cons_of_mem _ hz)) with e | e
    · have:=b1 z hz; omega
    · exact e⟩]
theorem zeK:∀ (l:List Int) (x:Int),x∈zau l ↔ x∈l
 | [],x=>by unfold zau; exact Iff.rfl
 | [a],x=>by unfold zau; exact Iff.rfl
 | a::b::l,x=>by
  have h:=zeK (b::l) x
  unfold zau
  by_cases e:a=b
  · rw [if_pos e,h,e]; simp
  · rw [if_neg e,List.mem_cons,h,List.mem_cons (a:=x) (b:=a)]
theorem zhl:∀ (l:List Int),l.Pairwise (· <= ·)->(zau l).Pairwise (· < ·)
 | [],_=>by unfold zau; exact List.Pairwise.nil
 | [a],_=>by unfold zau; simp
 | a::b::l,h=>by
  obtain ⟨h1,h2⟩:=List.pairwise_cons.1 h
  have ih:=zhl (b::l) h2
  unfold zau
  by_cases e:a=b
  · rw [if_pos e]; exact ih
  · rw [if_neg e]
    refine List.pairwise_cons.2 ⟨fun y hy=>?_,ih⟩
    have hy:=(zeK _ _).1 hy
    have hab:=h1 b (by simp)
    rcases List.mem_cons.1 hy with e' | hy
    · subst e'; omega
    · have:=(List.pairwise_cons.1 h2).1 y hy
      omega
theorem zqs (l:List Int) (x:Int):x∈zgg l ↔ x∈l:=(List.mergeSort_perm l _).mem_iff
theorem zqt (l:List Int):(zgg l).length=l.length:=(List.mergeSort_perm l _).length_eq
theorem zqu (l:List Int):(zgg l).Pairwise (· <= ·):=by
 have h:=List.pairwise_mergeSort (le:=fun x y:Int=>decide (x<=y)) (fun a b c h1 h2=>decide_eq_true (by have:=of_decide_eq_true h1; have:=of_decide_eq_true h2; omega)) (fun a b=>by
  rcases Int.le_total a b with h | h
  · rw [decide_eq_true h]; rfl
  · rw [decide_eq_true h,Bool.or_true]) l
 exact h.imp fun h=>of_decide_eq_true h
theorem zkV {s:List Int} (x:Int) (hl:s.length<=1000) (hs:s.Pairwise (· < ·)):∃ r:List Int,Ev (fun k=>qhgz.f k s x) r/\r.Pairwise (· < ·)/\(∀ y,y∈r ↔ y∈s \/ y=x)/\r.length<=s.length+1:=by
 have srt:∀ {i j:Nat},i < j->j < s.length->s.getD i 0 < s.getD j 0:=fun {i j} hij hj=>by
  have:=List.pairwise_iff_getElem.1 hs i j (by omega) hj hij
  rw [List.getD_eq_getElem?_getD,List.getD_eq_getElem?_getD,List.getElem?_eq_getElem (show i < s.length by omega),List.getElem?_eq_getElem hj]
  exact this
 have put:∀ i,i<=s.length->(∀ j,j < i->s.getD j 0 < x)->(∀ j,i<=j->j < s.length->x < s.getD j 0)->(s.take i++[x]++s.drop i).Pairwise (· < ·)/\(∀ y,y∈s.take i++[x]++s.drop i ↔ y∈s \/ y=x)/\(s.take i++[x]++s.drop i).length<=s.length+1:=by
  intro i hi h1 h2
  have ht:=List.Pairwise.sublist (List.take_sublist i s) hs
  have hd:=List.Pairwise.sublist (List.drop_sublist i s) hs
  refine ⟨List.pairwise_append.2 ⟨List.pairwise_append.2 ⟨ht,by simp,fun a ha b hb=>?_⟩,hd,fun a ha b hb=>?_⟩,fun y=>?_,by simp; omega⟩
  · obtain ⟨j,j1,j2,rfl⟩:=zbG (z:=0) ha
    rw [List.mem_singleton.1 hb]
    exact h1 j j1
  · obtain ⟨j,j1,j2,rfl⟩:=zbs (z:=0) hb
    rcases List.mem_append.1 ha with ha | ha
    · obtain ⟨j',j1',j2',rfl⟩:=zbG (z:=0) ha
      exact srt (by omega) j2
    · rw [List.mem_singleton.1 ha]
      exact h2 j j1 j2
  · have e:y∈s ↔ y∈s.take i \/ y∈s.drop i:=by rw [<- List.mem_append,List.take_append_drop]
    simp only [List.mem_append,List.mem_singleton,e]
    constructor
    · rintro ((h | h) | h)
      · exact .inl (.inl h)
      · exact .inr h
      · exact .inl (.inr h)
    · rintro ((h | h) | h)
      · exact .inl (.inl h)
      · exact .inr h
      · exact .inl (.inr h)
 have key:∀ (d i:Nat),i+d=s.length->(∀ j,j < i->s.getD j 0 < x)->∃ r:List Int,Ev (fun k=>qhgz.l0 k s x (i:Int)) r/\r.Pairwise (· < ·)/\(∀ y,y∈r ↔ y∈s \/ y=x)/\r.length<=s.length+1:=by
  intro d
  induction d with
  | zero =>
   intro i hi h
   refine ⟨_,qhgz.v0 ?_,put i (by omega) h (fun j h1 h2=>by omega)⟩
   simp (disch:=omega) only [S,List.nil_append,List.length_append,List.length_cons,List.length_nil,List.length_take,List.length_drop]
   exact Ev.now _
  | succ d ih =>
   intro i hi h
   by_cases c:s.getD i 0 < x
   · obtain ⟨r,r1,r2⟩:=ih (i+1) (by omega) (fun j hj=>by
      rcases Nat.lt_or_ge j i with h' | h'
      · exact h j h'
      · rw [show j=i by omega]; exact c)
     refine ⟨r,qhgz.v0 ?_,r2⟩
     simp (disch:=omega) only [S]
     exact r1
   · by_cases e:s.getD i 0=x
     · refine ⟨s,qhgz.v0 ?_,hs,fun y=>⟨.inl,fun h=>h.elim id fun h=>by rw [h,<- e]; exact zag (by omega)⟩,by omega⟩
       simp (disch:=omega) only [S]
       exact Ev.now _
     · refine ⟨_,qhgz.v0 ?_,put i (by omega) h (fun j h1 h2=>by
        rcases Nat.lt_or_ge i j with h' | h'
        · have:=srt h' h2; omega
        · rw [show j=i by omega]; omega)⟩
       simp (disch:=omega) only [S,List.nil_append,List.length_append,List.length_cons,List.length_nil,List.length_take,List.length_drop]
       exact Ev.now _
 obtain ⟨r,r1,r2⟩:=key s.length 0 (by omega) (fun j h=>by omega)
 exact ⟨r,qhgz.v r1,r2⟩
theorem smul {a b A B:Int} (ha : -A<=a/\a<=A) (hb:0<=b/\b<=B) : -(A*B)<=a*b/\a*b<=A*B:=by
 have hA:0<=A:=by omega
 have p1:=Int.mul_le_mul_of_nonneg_right ha.1 hb.1
 have p2:=Int.mul_le_mul_of_nonneg_right ha.2 hb.1
 have p3:=Int.mul_le_mul_of_nonneg_left hb.2 hA
 rw [Int.neg_mul] at p1
 omega
theorem zjg {n:Int} (hn:1<=n/\n<=1000) {w v:Wk} (hw:wOk w=true) (hv:wOk v=true):∃ r:List (List Int)×Bool,Ev (fun k=>qdoz.f k n w.1 w.2 v.1 v.2) r/\Ev (fun k=>qdnz.f k n w.1 w.2 v.1 v.2) r/\zfA r.1/\r.1.length<=1000/\(r.2=true->0 < r.1.length)/\(r.2=false->r.1=[]):=by
 by_cases hs:w.2=v.2
 · refine ⟨([],false),qdoz.v ?_,qdnz.v ?_,fun r hr=>by simp at hr,by simp,by simp,fun _=>rfl⟩
   · have hne:(w.2 == v.2)=true:=beq_iff_eq.2 hs
     simp only [zbx hn,zaD,S,hw,hv,hne]
     exact Ev.now _
   · have hne:(w.2 == v.2)=true:=beq_iff_eq.2 hs
     simp only [zbT hn hw hv,S,hne]
     exact Ev.now _
 · obtain ⟨b1,b2,b3⟩:=znZ hn hw hv
   have hw':=zaV.1 hw
   obtain ⟨m,hm⟩ : ∃ m:Nat,(ahead n w v).2=(m:Int):=⟨(ahead n w v).2.toNat,by omega⟩
   have hm0:0 < m:=by
    rcases Nat.eq_zero_or_pos m with h | h
    · subst h; exact absurd (b3.1 hm) hs
    · exact h
   have hB:=mulb (a:=n) (b:=(m:Int)) (A:=1000) (B:=200) (by omega) (by omega) (by omega) (by omega)
   have hB1:0 < n*(m:Int):=Int.mul_pos (by omega) (by omega)
   -- the numbers
   obtain ⟨X,hX⟩ : ∃ X:Nat->Int,∀ i,X i=W (W (w.1*(m:Int))+W (w.2*W ((ahead n w v).1+W ((i:Int)*n)))):=⟨_,fun _=>rfl⟩
   have hXb:∀ i,i < 200->-4611686018427387904<=X i/\X i<=4611686018427387904:=by
    intro i hi
    have q1:=smul (a:=w.1) (b:=(m:Int)) (A:=1000) (B:=200) (by omega) (by omega)
    have q2:=mulb (a:=(i:Int)) (b:=n) (A:=200) (B:=1000) (by omega) (by omega) (by omega) (by omega)
    have q3:=smul (a:=w.2) (b:=(ahead n w v).1+(i:Int)*n) (A:=100) (B:=201000) (by omega) (by omega)
    rw [hX,w64 (x:=(i:Int)*n) (by omega) (by omega),w64 (x:=(ahead n w v).1+(i:Int)*n) (by omega) (by omega),w64 (x:=w.2*_) (by omega) (by omega),w64 (x:=w.1*_) (by omega) (by omega),w64 (by omega) (by omega)]
    omega
   have hNb:∀ i,0<=X i % (n*(m:Int))/\X i % (n*(m:Int)) < 200001:=fun i=>⟨Int.emod_nonneg _ (by omega),by have:=Int.emod_lt_of_pos (X i) hB1; omega⟩
   have wB:W (n*(m:Int))=n*(m:Int):=w64 (by omega) (by omega)
   -- the rows of a list of numbers
   have rowsOf:∀ L:List Int,(∀ x∈L,0<=x/\x < 200001)->L.length<=1000->∀ (e i:Nat),i+e=L.length->∀ acc:List (List Int),acc.length=i->zfA acc ->
       ∃ R:List (List Int),Ev (fun k=>qdsz.l1 k (m:Int) (L.length:Int) (i:Int) acc L) R/\Ev (fun k=>qdnz.l1 k (m:Int) L (L.length:Int) (i:Int) acc) (R,true)/\zfA R/\R.length=L.length:=by
    intro L hL hl e
    induction e with
    | zero =>
     intro i hi acc ha hr
     refine ⟨acc,qdsz.v1 ?_,qdnz.v1 ?_,hr,by omega⟩ <;> simp (disch:=omega) only [S] <;> exact Ev.now _
    | succ e ih =>
     intro i hi acc ha hr
     have hx:=hL _ (zag (z:=0) (show i < L.length by omega))
     have i1:i64 (L.getD i 0):=by unfold i64; omega
     have i2:i64 (m:Int):=by unfold i64; omega
     obtain ⟨g1,g2⟩:=zgO i1 i2
     obtain ⟨R,r1,r2,r3⟩:=ih (i+1) (by omega) (acc++[[(low (L.getD i 0) (m:Int)).1,(low (L.getD i 0) (m:Int)).2]]) (by simp; omega) (zkb hr g1 g2)
     refine ⟨R,qdsz.v1 ?_,qdnz.v1 ?_,r3⟩
     · simp (disch:=omega) only [S]
       exact Ev.bind (zbw i1 i2 (by omega)) r1
     · simp (disch:=omega) only [S]
       exact Ev.bind (zbr i1 i2 (by omega)) r2
   have main:∀ (e i:Nat),i+e=m->∀ (acc:List Int) (s:List Int),acc.length=i->s.length<=i->s.Pairwise (· < ·)->(∀ y,y∈s ↔ y∈acc)->(∀ x∈acc,0<=x/\x < 200001) ->
       ∃ R:List (List Int),Ev (fun k=>qdsz.l0 k n (ahead n w v).1 (m:Int) (m:Int) (i:Int) w.1 w.2 acc) R/\Ev (fun k=>qdnz.l0 k n (ahead n w v).1 (m:Int) s (i:Int) w.1 w.2) (R,true)/\zfA R/\(0 < R.length/\R.length<=1000):=by
    intro e
    induction e with
    | zero =>
     intro i hi acc s ha hs1 hs2 hs3 hb
     have es:zau (zgg acc)=s:=zkU (zhl _ (zqu _)) hs2 fun x=>by rw [zeK,zqs,hs3]
     have sl:=zqt acc
     have s0:0 < s.length:=by
      have:=(hs3 _).2 (zag (z:=0) (show 0 < acc.length by omega))
      exact List.length_pos_of_mem this
     obtain ⟨R,r1,r2,r3,r4⟩:=rowsOf s (fun x hx=>hb x ((hs3 x).1 hx)) (by omega) s.length 0 (by omega) [] rfl (fun r hr=>by simp at hr)
     refine ⟨R,qdsz.v0 ?_,qdnz.v0 ?_,r3,by omega⟩
     · simp (disch:=omega) only [S,sl,es]
       exact r1
     · simp (disch:=omega) only [S]
       exact r2
    | succ e ih =>
     intro i hi acc s ha hs1 hs2 hs3 hb
     obtain ⟨r,r1,r2,r3,r4⟩:=zkV (X i % (n*(m:Int))) (by omega) hs2
     obtain ⟨R,q1,q2,q3⟩:=ih (i+1) (by omega) (acc++[X i % (n*(m:Int))]) r (by simp; omega) (by omega) r2 (fun y=>by rw [r3,hs3,List.mem_append,List.mem_singleton]) (fun x hx=>by
      rcases List.mem_append.1 hx with h | h
      · exact hb x h
      · rw [List.mem_singleton.1 h]; exact hNb i)
     have hx:=hXb i (by omega)
     have wi:W ((i:Int)+1)=((i+1:Nat):Int):=by rw [w64 (by omega) (by omega)]; omega
     have lt1:iLt (i:Int) (m:Int)=true:=decide_eq_true (by omega)
     refine ⟨R,qdsz.v0 ?_,qdnz.v0 ?_,q3⟩
     · simp only [lt1,if_true,<- hX,wB,zdE hB1 hx (by omega),Option.bind_some,wi]
       simp (disch:=omega) only [S]
       exact q1
     · simp only [lt1,if_true,<- hX,wB,zeh hB1 (show n*(m:Int)<=4611686018427387904 by omega),Option.bind_some,wi]
       exact Ev.bind r1 q2
   obtain ⟨R,r1,r2,r3,r4⟩:=main m 0 (by omega) [] [] rfl (by simp) List.Pairwise.nil (fun y=>Iff.rfl) (fun x hx=>by simp at hx)
   refine ⟨(R,true),qdoz.v ?_,qdnz.v ?_,r3,r4.2,fun _=>r4.1,fun h=>by cases h⟩
   · have hne:(w.2 == v.2)=false:=beq_eq_false_iff_ne.2 hs
     simp only [zbx hn,zaD,S,hw,hv,hne]
     refine Ev.bind (qdsz.v ?_) (Ev.now _)
     simp only [zeH hn hw hv,S,hm]
     exact r1
   · have hne:(w.2 == v.2)=false:=beq_eq_false_iff_ne.2 hs
     simp only [zbT hn hw hv,zdd hn hw hv,S,hne,hm]
     exact r2
def zaF (t:Int):Nat->List Wk->List Int
 | _,[]=>[]
 | i,v::l=>if v.1<=t/\t<=v.1+v.2 then (i:Int)::zaF t (i+1) l else zaF t (i+1) l
theorem zkW (t:Int) (l:List Wk):∀ i,(zaF t i l).length<=l.length:=by
 induction l with
 | nil=>intro i; simp [zaF]
 | cons v l ih =>
  intro i
  simp only [zaF]
  have:=ih (i+1)
  split <;> simp <;> omega
def ve (v:Wk):Int:=v.1+v.2
def Gd (l:List Wk):Int->List Int->Prop
 | last,[]=>∀ v∈l,v.1<=last
 | last,t::r=>(∃ v∈l,last < v.1/\ve v=t)/\(∀ v∈l,last < v.1->t<=ve v)/\Gd l t r
def runL:Int->List Wk->List Int
 | _,[]=>[]
 | last,v::s=>if last < v.1 then ve v::runL (ve v) s else runL last s
theorem zrp (s:List Wk):∀ last,(runL last s).length<=s.length:=by
 induction s with
 | nil=>intro last; simp [runL]
 | cons v s ih =>
  intro last
  rw [runL]
  split
  · have:=ih (ve v); simp; omega
  · have:=ih last; simp; omega
theorem zqv {v:Wk} {s:List Wk} (hs:∀ u∈s,u.1<=ve u) (r:List Int):∀ last,v.1<=last->Gd s last r->Gd (v::s) last r:=by
 induction r with
 | nil =>
  intro last hv h u hu
  rcases List.mem_cons.1 hu with rfl | hu
  · exact hv
  · exact h u hu
 | cons t r ih =>
  intro last hv h
  obtain ⟨⟨u,hu,hl,he⟩,h2,h3⟩:=h
  refine ⟨⟨u,List.mem_cons_of_mem _ hu,hl,he⟩,?_,ih t ?_ h3⟩
  · intro x hx hlx
    rcases List.mem_cons.1 hx with rfl | hx
    · omega
    · exact h2 x hx hlx
  · have:=hs u hu
    omega
theorem ztN (s:List Wk):(∀ u∈s,u.1<=ve u)->s.Pairwise (fun a b=>ve a<=ve b)->∀ last,Gd s last (runL last s):=by
 induction s with
 | nil=>intro _ _ last u hu; simp at hu
 | cons v s ih =>
  intro hs hp last
  rw [List.pairwise_cons] at hp
  have hs':∀ u∈s,u.1<=ve u:=fun u hu=>hs u (List.mem_cons_of_mem _ hu)
  rw [runL]
  by_cases h:last < v.1
  · rw [if_pos h]
    refine ⟨⟨v,List.mem_cons_self,h,rfl⟩,?_,zqv hs' _ _ (hs v List.mem_cons_self) (ih hs' hp.2 _)⟩
    intro u hu _
    rcases List.mem_cons.1 hu with rfl | hu
    · exact Int.le_refl _
    · exact hp.1 u hu
  · rw [if_neg h]
    exact zqv hs' _ _ (by omega) (ih hs' hp.2 _)
theorem zrq {l l':List Wk} (h:∀ v,v∈l ↔ v∈l') (r:List Int):∀ last,Gd l last r->Gd l' last r:=by
 induction r with
 | nil=>intro last hg v hv; exact hg v ((h v).2 hv)
 | cons t r ih =>
  rintro last ⟨⟨v,hv,hl,he⟩,h2,h3⟩
  exact ⟨⟨v,(h v).1 hv,hl,he⟩,fun u hu=>h2 u ((h u).2 hu),ih t h3⟩
def zfb (last:Int):List Wk->Int->Int
 | [],c=>c
 | v::l,c=>zfb last l (if v.1<=last then c else if c < 0 then v.1+v.2 else if v.1+v.2 < c then v.1+v.2 else c)
theorem zm8 {last:Int} (l:List Wk):(∀ v∈l,v.1<=last)->∀ c,zfb last l c=c:=by
 induction l with
 | nil=>intro _ c; rfl
 | cons v l ih =>
  intro h c
  rw [zfb,if_pos (h v List.mem_cons_self)]
  exact ih (fun u hu=>h u (List.mem_cons_of_mem _ hu)) c
theorem zm9 {last t:Int} (ht:0<=t) (l:List Wk):(∀ v∈l,last < v.1->t<=ve v)->∀ c,(c=t \/ (∃ v∈l,last < v.1/\ve v=t)/\(c < 0 \/ t<=c))->zfb last l c=t:=by
 induction l with
 | nil =>
  intro _ c hc
  rcases hc with rfl | ⟨⟨v,hv,_⟩,_⟩
  · rfl
  · simp at hv
 | cons v l ih =>
  intro h c hc
  have h':∀ u∈l,last < u.1->t<=ve u:=fun u hu=>h u (List.mem_cons_of_mem _ hu)
  have hv:=h v List.mem_cons_self
  have hve:ve v=v.1+v.2:=rfl
  rw [zfb]
  refine ih h' _ ?_
  by_cases h0:v.1<=last
  · rw [if_pos h0]
    rcases hc with hc | ⟨⟨u,hu,hl,he⟩,hc⟩
    · exact .inl hc
    · rcases List.mem_cons.1 hu with rfl | hu
      · omega
      · exact .inr ⟨⟨u,hu,hl,he⟩,hc⟩
  · have hv':=hv (by omega)
    rw [if_neg h0]
    rcases hc with hc | ⟨⟨u,hu,hl,he⟩,hc⟩
    · left
      rw [if_neg (by omega),if_neg (by omega)]
      exact hc
    · rcases List.mem_cons.1 hu with rfl | hu
      · left
        split
        · exact he
        · split
          · exact he
          · omega
      · right
        refine ⟨⟨u,hu,hl,he⟩,.inr ?_⟩
        split
        · omega
        · split
          · omega
          · omega
theorem zjh (t:Int) (l:List Wk):∀ (i:Nat) (j:Int),j∈zaF t i l ↔ ∃ q:Nat,q < l.length/\j=((i+q:Nat):Int)/\(l.getD q (0,0)).1<=t/\t<=ve (l.getD q (0,0)):=by
 induction l with
 | nil=>intro i j; simp [zaF]
 | cons v l ih =>
  intro i j
  have key:j∈zaF t (i+1) l ↔ ∃ q:Nat,q < l.length/\j=((i+(q+1):Nat):Int)/\(l.getD q (0,0)).1<=t/\t<=ve (l.getD q (0,0)):=by
   rw [ih (i+1) j]
   constructor
   · rintro ⟨q,h1,h2,h3⟩
     exact ⟨q,h1,by omega,h3⟩
   · rintro ⟨q,h1,h2,h3⟩
     exact ⟨q,h1,by omega,h3⟩
  rw [zaF]
  constructor
  · intro h
    split at h
    · rename_i hc
      rcases List.mem_cons.1 h with rfl | h
      · exact ⟨0,by simp,by simp,hc.1,hc.2⟩
      · obtain ⟨q,h1,h2,h3⟩:=key.1 h
        exact ⟨q+1,by simp; omega,h2,h3⟩
    · obtain ⟨q,h1,h2,h3⟩:=key.1 h
      exact ⟨q+1,by simp; omega,h2,h3⟩
  · rintro ⟨q,h1,h2,h3,h4⟩
    cases q with
    | zero =>
     rw [if_pos ⟨h3,h4⟩]
     rw [h2]; simp
    | succ q =>
     have:j∈zaF t (i+1) l:=key.2 ⟨q,by simpa using h1,h2,h3,h4⟩
     split
     · exact List.mem_cons_of_mem _ this
     · exact this
def za8 (l:List Wk) (last:Int):List Bool:=l.map fun v=>decide (v.1<=last)
theorem zck (l:List Wk) (last:Int):(za8 l last).length=l.length:=by simp [za8]
theorem zji {l:List Wk} {last:Int} {i:Nat} (h:i < l.length):(za8 l last).getD i false=decide ((l.getD i (0,0)).1<=last):=by
 unfold za8
 rw [List.getD_eq_getElem?_getD,List.getD_eq_getElem?_getD,List.getElem?_map,List.getElem?_eq_getElem h]
 rfl
def zcF:List Bool->List Int->List Bool
 | s,[]=>s
 | s,j::w=>zcF (s.set j.toNat true) w
theorem zna (w:List Int):∀ s,(zcF s w).length=s.length:=by
 induction w with
 | nil=>intro s; rfl
 | cons j w ih=>intro s; rw [zcF,ih,List.length_set]
theorem zoT (w:List Int):∀ (s:List Bool) (q:Nat),q < s.length->(∀ j∈w,0<=j)->((zcF s w).getD q false=true ↔ s.getD q false=true \/ (q:Int)∈w):=by
 induction w with
 | nil=>intro s q hq _; simp [zcF]
 | cons j w ih =>
  intro s q hq hw
  have hj:=hw j List.mem_cons_self
  rw [zcF,ih _ q (by rw [List.length_set]; exact hq) (fun x hx=>hw x (List.mem_cons_of_mem _ hx)),List.mem_cons]
  by_cases h:j.toNat=q
  · have e:(s.set j.toNat true).getD q false=true:=by
     rw [List.getD_eq_getElem?_getD,h,List.getElem?_set_self hq]; rfl
    have e2:(q:Int)=j:=by omega
    rw [e]
    exact ⟨fun _=>.inr (.inl e2),fun _=>.inl rfl⟩
  · have e:(s.set j.toNat true).getD q false=s.getD q false:=by
     rw [List.getD_eq_getElem?_getD,List.getElem?_set_ne h,<- List.getD_eq_getElem?_getD]
    have e2:¬ (q:Int)=j:=by omega
    rw [e]
    exact ⟨fun h=>h.elim .inl (fun h=>.inr (.inr h)),fun h=>h.elim .inl (fun h=>h.elim (fun h=>absurd h e2) .inr)⟩
theorem znb {l:List Wk} {last t:Int} (h1:∀ v∈l,last < v.1->t<=ve v) (h2:last<=t):zcF (za8 l last) (zaF t 0 l)=za8 l t:=by
 have hl:(zcF (za8 l last) (zaF t 0 l)).length=(za8 l t).length:=by rw [zna,zck,zck]
 refine List.ext_getElem hl fun q hq1 hq2=>?_
 have hq:q < l.length:=by rw [zck] at hq2; exact hq2
 have e1:(zcF (za8 l last) (zaF t 0 l))[q]=(zcF (za8 l last) (zaF t 0 l)).getD q false:=by
  rw [List.getD_eq_getElem?_getD,List.getElem?_eq_getElem hq1]; rfl
 have e2:(za8 l t)[q]=(za8 l t).getD q false:=by
  rw [List.getD_eq_getElem?_getD,List.getElem?_eq_getElem hq2]; rfl
 have hm:l.getD q (0,0)∈l:=by
  rw [List.getD_eq_getElem?_getD,List.getElem?_eq_getElem hq]
  exact List.getElem_mem hq
 have hg:=h1 _ hm
 rw [e1,e2]
 have key:=zoT (zaF t 0 l) (za8 l last) q (by rw [zck]; exact hq) (fun j hj=>by
  obtain ⟨p,_,rfl,_⟩:=(zjh t l 0 j).1 hj
  omega)
 rw [zji hq,decide_eq_true_eq,zjh] at key
 rw [zji hq,Bool.eq_iff_iff,key,decide_eq_true_eq]
 constructor
 · rintro (h | ⟨p,hp,hqp,h3,_⟩)
   · omega
   · have:p=q:=by omega
     subst this
     exact h3
 · intro h
   by_cases h3:(l.getD q (0,0)).1<=last
   · exact .inl h3
   · exact .inr ⟨q,hq,by omega,h,hg (by omega)⟩
theorem zqw {l:List Wk} (h:zao 6 vOk l=true) {i:Nat} (hi:i < l.length):(0<=(l.getD i (0,0)).1/\(l.getD i (0,0)).1<=200)/\0<=(l.getD i (0,0)).2/\(l.getD i (0,0)).2<=200:=zc9.1 ((zap.1 h).2 _ (zag hi))
def ltE (v u:Wk):Bool:=decide (ve v < ve u)
theorem zqx (x:Wk) (acc:List Wk) (hs:acc.Pairwise fun a b=>ve a<=ve b):∀ n,n<=acc.length->(∀ i,n<=i->i < acc.length->ve x<=ve (acc.getD i (0,0)))->(∀ i,zcS ltE (0,0) x acc n<=i->i < acc.length->ve x<=ve (acc.getD i (0,0))) /\ ∀ i,i < zcS ltE (0,0) x acc n->ve (acc.getD i (0,0))<=ve x:=by
 intro n
 induction n with
 | zero=>intro _ h; exact ⟨h,fun i hi=>absurd hi (by unfold zcS; omega)⟩
 | succ n ih =>
  intro hn h
  unfold zcS
  cases hc:ltE x (acc.getD n (0,0)) with
  | true =>
   rw [if_pos rfl]
   refine ih (by omega) fun i h1 h2=>?_
   rcases Nat.lt_or_ge n i with h3 | h3
   · exact h i (by omega) h2
   · have:i=n:=by omega
     subst this
     have:=of_decide_eq_true hc
     omega
  | false =>
   rw [if_neg (by simp)]
   refine ⟨h,fun i hi=>?_⟩
   have hx:=of_decide_eq_false hc
   rcases Nat.lt_or_ge i n with h3 | h3
   · have:=List.pairwise_iff_getElem.1 hs i n (by omega) (by omega) h3
     have e1:acc.getD i (0,0)=acc[i]'(by omega):=by rw [List.getD_eq_getElem?_getD,List.getElem?_eq_getElem (show i < acc.length by omega)]; rfl
     have e2:acc.getD n (0,0)=acc[n]'(by omega):=by rw [List.getD_eq_getElem?_getD,List.getElem?_eq_getElem (show n < acc.length by omega)]; rfl
     rw [e1]; rw [e2] at hx; omega
   · have:i=n:=by omega
     subst this
     omega
theorem ztO:∀ (n:Nat) (l:List Wk),l.length=n->(zaz ltE (0,0) l).Pairwise fun a b=>ve a<=ve b:=by
 intro n
 induction n with
 | zero=>intro l h; rw [List.length_eq_zero_iff.1 h]; exact List.Pairwise.nil
 | succ n ih =>
  intro l h
  have h0:l ≠ []:=by intro e; subst e; simp at h
  rw [<- List.dropLast_concat_getLast h0,zbJ]
  have hs:=ih l.dropLast (by simp [h])
  obtain ⟨k1,k2⟩:=zqx (l.getLast h0) _ hs _ (Nat.le_refl _) (fun i h1 h2=>by omega)
  unfold ins zbc
  have hp:=zhO ltE (0,0) (l.getLast h0) (zaz ltE (0,0) l.dropLast) (zaz ltE (0,0) l.dropLast).length
  generalize zaz ltE (0,0) l.dropLast=acc at *
  generalize zcS ltE (0,0) (l.getLast h0) acc acc.length=p at *
  refine List.pairwise_append.2 ⟨List.Pairwise.sublist (List.take_sublist _ _) hs,List.pairwise_cons.2 ⟨fun y hy=>?_,List.Pairwise.sublist (List.drop_sublist _ _) hs⟩,fun a ha b hb=>?_⟩
  · obtain ⟨i,i1,i2,rfl⟩:=zbs (z:=(0,0)) hy
    exact k1 i i1 i2
  · obtain ⟨i,i1,i2,rfl⟩:=zbG (z:=(0,0)) ha
    rcases List.mem_cons.1 hb with rfl | hb
    · exact k2 i i1
    · obtain ⟨j,j1,j2,rfl⟩:=zbs (z:=(0,0)) hb
      have:=k1 j j1 j2
      have:=k2 i i1
      omega
theorem cmpE:zqj (fun _ (x y:Wk)=>qbrz.f x.1 x.2 y.1 y.2) ltE (fun v=>vOk v=true):=by
 intro x y hx hy
 have hx:=zc9.1 hx
 have hy:=zc9.1 hy
 obtain ⟨c,e,l,_⟩:=zbU (x.1+x.2) (y.1+y.2)
 refine ⟨c,zsn ?_,?_⟩
 · unfold qbrz.f
   rw [w64 (x:=x.1+x.2) (by omega) (by omega),w64 (x:=y.1+y.2) (by omega) (by omega),e]
   rfl
 · rw [l]; rfl
theorem zsM {n:Nat} (h:n<=6):∃ t,qeoz.f (IntKind.wrap .u64 (n:Int))=some t:=by
 have e:IntKind.wrap .u64 (n:Int)=(n:Int):=by
  simp [IntKind.wrap,IntKind.bits,IntKind.signed]
  omega
 have e2:IntKind.wrap .u8 (n:Int)=(n:Int):=by
  simp [IntKind.wrap,IntKind.bits,IntKind.signed]
  omega
 unfold qeoz.f qdmz.f
 rw [e,if_neg (show ¬ iGe (n:Int) 4294967296=true by rw [show iGe (n:Int) 4294967296=false from decide_eq_false (by omega)]; decide),
  if_neg (show ¬ iGe (n:Int) 65536=true by rw [show iGe (n:Int) 65536=false from decide_eq_false (by omega)]; decide),
  if_neg (show ¬ iGe (n:Int) 256=true by rw [show iGe (n:Int) 256=false from decide_eq_false (by omega)]; decide),
  S.1 (show 0<=IntKind.wrap .u8 (n:Int) by omega),S.1 (show IntKind.wrap .u8 (n:Int) < 256 by omega)]
 exact ⟨_,rfl⟩
theorem znc {l:List Wk} (hv:zao 6 vOk l=true):Ev (fun k=>qahz.f k l) (zaz ltE (0,0) l):=by
 obtain ⟨h1,h2⟩:=zap.1 hv
 obtain ⟨t,ht⟩:=zsM h1.2
 refine qahz.v ?_
 simp only [S,ht]
 refine Ev.bind (qapz.v (qapz.v0 ?_)) (Ev.now _)
 have c:iLe (W ((l.length:Int)-0)) 12=true:=decide_eq_true (by rw [w64 (by omega) (by omega)]; omega)
 simp only [c,if_true]
 refine Ev.bind (v:=zaz ltE (0,0) l) (qaez.v ?_) (Ev.now _)
 have h:=zkS cmpE (F0:=fun k a b i arr=>qaez.l0 k a b i arr) (F1:=fun k a b i j arr=>qaez.l1 k a b i j arr)
  qaez.v0 qaez.v1 [] l [] h2 (by simp; omega)
 simp only [List.length_nil,Nat.zero_add,List.nil_append,List.append_nil] at h
 rw [show W (0+1)=1 by decide]
 exact h
theorem zma {T:List Wk} (hg:zao 6 vOk T=true) (d:Nat):∀ (i:Nat) (acc:List Int) (last:Int),i+d=T.length->acc.length<=i ->
    Ev (fun k=>qbzz.l0 k last (T.length:Int) (i:Int) acc T) (acc++runL last (T.drop i),true):=by
 have hl:=(zap.1 hg).1
 induction d with
 | zero =>
  intro i acc last hi ha
  rw [List.drop_eq_nil_of_le (by omega)]
  refine qbzz.v0 ?_
  simp (disch:=omega) only [S]
  exact zbR (by simp [runL])
 | succ d ih =>
  intro i acc last hi ha
  have hb:=zqw hg (show i < T.length by omega)
  rw [zay (0,0) (show i < T.length by omega),runL]
  refine qbzz.v0 ?_
  by_cases h:last < (T.getD i (0,0)).1
  · simp (disch:=omega) only [S,if_pos h]
    rw [show acc++ve (T.getD i (0,0))::runL (ve (T.getD i (0,0))) (T.drop (i+1))=acc++[ve (T.getD i (0,0))]++runL (ve (T.getD i (0,0))) (T.drop (i+1)) by simp]
    exact ih (i+1) _ _ (by omega) (by simp; omega)
  · simp (disch:=omega) only [S,if_neg h]
    exact ih (i+1) _ _ (by omega) (by omega)
theorem zeX {l:List Wk} (hv:zao 6 vOk l=true):∃ r,r.length<=6/\Gd l (-1) r/\(0<=0 /\ ∀ x∈r,i64 x)/\Ev (fun k=>qbzz.f k l) (r,true):=by
 obtain ⟨hl,h2⟩:=zap.1 hv
 have hm:∀ v,v∈zaz ltE (0,0) l ↔ v∈l:=fun v=>(za2 _ _ _).mem_iff
 have hil:=zcA ltE (0,0) l
 have hvT:zao 6 vOk (zaz ltE (0,0) l)=true:=zap.2 ⟨by omega,fun w hw=>h2 w ((hm w).1 hw)⟩
 have hr:=zrp (zaz ltE (0,0) l) (-1)
 have hmem:∀ (s:List Wk),(∀ v∈s,vOk v=true)->∀ last,∀ x∈runL last s,i64 x:=by
  intro s
  induction s with
  | nil=>intro _ last x hx; simp [runL] at hx
  | cons v s ih =>
   intro h last x hx
   unfold runL at hx
   split at hx
   · rcases List.mem_cons.1 hx with rfl | hx
     · have:=zc9.1 (h v (by simp))
       unfold i64 ve; omega
     · exact ih (fun u hu=>h u (List.mem_cons_of_mem _ hu)) _ x hx
   · exact ih (fun u hu=>h u (List.mem_cons_of_mem _ hu)) _ x hx
 refine ⟨runL (-1) (zaz ltE (0,0) l),by omega,?_,⟨Nat.le_refl _,hmem _ (fun v hv'=>h2 v ((hm v).1 hv')) _⟩,?_⟩
 · refine zrq hm _ _ (ztN _ (fun u hu=>?_) (ztO _ l rfl) (-1))
   have:=zc9.1 (h2 u ((hm u).1 hu))
   unfold ve; omega
 · refine qbzz.v (Ev.bind (zcj l) ?_)
   unfold qbiz.f
   simp (disch:=omega) only [hv,S]
   refine Ev.bind (znc hv) ?_
   have:=zma hvT (zaz ltE (0,0) l).length 0 [] (-1) (by omega) (by simp)
   simpa using this
theorem zjj {l:List Wk} (hv:zao 6 vOk l=true) (t:Int):Ev (fun k=>qfkz.f k l t) (zaF t 0 l):=by
 have hl:=(zap.1 hv).1
 have key:∀ (d i:Nat) (acc:List Int),i+d=l.length->acc.length<=i->Ev (fun k=>qfkz.l0 k t l (l.length:Int) (i:Int) acc) (acc++zaF t i (l.drop i)):=by
  intro d
  induction d with
  | zero =>
   intro i acc hi ha
   rw [List.drop_eq_nil_of_le (by omega)]
   refine qfkz.v0 ?_
   simp (disch:=omega) only [S]
   exact zbR (by simp [zaF])
  | succ d ih =>
   intro i acc hi ha
   have hb:=zqw hv (show i < l.length by omega)
   rw [zay (0,0) (show i < l.length by omega)]
   refine qfkz.v0 ?_
   simp (disch:=omega) only [S,zaq,decide_eq_true_eq,zaF]
   by_cases h1:(l.getD i (0,0)).1<=t/\t<=(l.getD i (0,0)).1+(l.getD i (0,0)).2
   · have h:=ih (i+1) (acc++[(i:Int)]) (by omega) (by simp; omega)
     rw [List.append_assoc] at h
     simp only [if_pos h1]
     exact h
   · have h:=ih (i+1) acc (by omega) (by omega)
     simp only [if_neg h1]
     exact h
 exact qfkz.v (key l.length 0 [] (by omega) (by simp))
theorem zkc {l:List Wk} (hv:zao 6 vOk l=true) {acc:List Int} {last:Int} {R:List Int×Bool} (ha:acc.length<=1000) (d:Nat):∀ (i:Nat) (c:Int),i+d=l.length ->
    Ev (fun k=>if zfb last (l.drop i) c < 0 then some (acc,true) else ((qfkz.f k l (zfb last (l.drop i) c)).bind fun t=>(qcfz.l2 k l t (t.length:Int) 0 (acc++[zfb last (l.drop i) c]) (za8 l last)))) R ->
    Ev (fun k=>qcfz.l1 k l c l (l.length:Int) (i:Int) acc (za8 l last)) R:=by
 have hl:=(zap.1 hv).1
 induction d with
 | zero =>
  intro i c hi hR
  rw [List.drop_eq_nil_of_le (by omega)] at hR
  refine qcfz.v1 ?_
  rw [show zfb last [] c=c from rfl] at hR
  by_cases hc:c < 0
  · simp only [if_pos hc] at hR
    simp (disch:=omega) only [S]
    exact hR
  · simp only [if_neg hc] at hR
    simp (disch:=omega) only [S]
    exact hR
 | succ d ih =>
  intro i c hi hR
  have hb:=zqw hv (show i < l.length by omega)
  have hsl:=zck l last
  rw [zay (0,0) (show i < l.length by omega),zfb] at hR
  refine qcfz.v1 ?_
  have sa:=zji (l:=l) (last:=last) (show i < l.length by omega)
  by_cases h0:(l.getD i (0,0)).1<=last
  · rw [decide_eq_true h0] at sa
    simp only [if_pos h0] at hR
    simp (disch:=omega) only [S,sa]
    exact ih (i+1) c (by omega) hR
  · rw [decide_eq_false h0] at sa
    simp only [if_neg h0] at hR
    by_cases h1:c < 0
    · simp only [if_pos h1] at hR
      simp (disch:=omega) only [S,sa]
      exact ih (i+1) _ (by omega) hR
    · simp only [if_neg h1] at hR
      by_cases h2:(l.getD i (0,0)).1+(l.getD i (0,0)).2 < c
      · simp only [if_pos h2] at hR
        simp (disch:=omega) only [S,sa]
        exact ih (i+1) _ (by omega) hR
      · simp only [if_neg h2] at hR
        simp (disch:=omega) only [S,sa]
        exact ih (i+1) _ (by omega) hR
theorem zoU {l:List Wk} {acc:List Int} {R:List Int×Bool} {w:List Int} (hw:w.length<=1000) (hj:∀ j∈w,0<=j/\j < (l.length:Int)) (d:Nat):∀ (i:Nat) (s:List Bool),i+d=w.length->s.length=l.length ->
    Ev (fun k=>qcfz.l0 k l acc (zcF s (w.drop i))) R ->
    Ev (fun k=>qcfz.l2 k l w (w.length:Int) (i:Int) acc s) R:=by
 induction d with
 | zero =>
  intro i s hi hs hR
  rw [List.drop_eq_nil_of_le (by omega)] at hR
  refine qcfz.v2 ?_
  simp (disch:=omega) only [S]
  exact hR
 | succ d ih =>
  intro i s hi hs hR
  have hb:=hj _ (zag (z:=0) (show i < w.length by omega))
  rw [zay 0 (show i < w.length by omega),zcF] at hR
  refine qcfz.v2 ?_
  simp (disch:=omega) only [S]
  exact ih (i+1) _ (by omega) (by rw [List.length_set]; exact hs) hR
theorem zoV {l:List Wk} (hv:zao 6 vOk l=true) (r:List Int):∀ (last:Int) (acc:List Int),Gd l last r->acc.length+r.length<=1000 ->
    Ev (fun k=>qcfz.l0 k l acc (za8 l last)) (acc++r,true):=by
 obtain ⟨hl6,hmem⟩:=zap.1 hv
 induction r with
 | nil =>
  intro last acc hg ha
  simp only [List.length_nil] at ha
  refine qcfz.v0 ?_
  simp only [S]
  refine zkc hv (by omega) l.length 0 (-1) (by omega) ?_
  rw [List.drop_zero,zm8 l hg]
  simp only [if_pos (show (-1:Int) < 0 by omega),List.append_nil]
  exact Ev.now _
 | cons t r ih =>
  rintro last acc ⟨⟨v,hvl,hl,he⟩,h2,h3⟩ ha
  have hgv:=zc9.1 (hmem _ hvl)
  have ht:0<=t/\last<=t:=by unfold ve at he; omega
  rw [List.length_cons] at ha
  refine qcfz.v0 ?_
  simp only [S]
  refine zkc hv (by omega) l.length 0 (-1) (by omega) ?_
  rw [List.drop_zero,zm9 ht.1 l h2 (-1) (.inr ⟨⟨v,hvl,hl,he⟩,.inl (by omega)⟩)]
  simp only [if_neg (show ¬ t < 0 by omega)]
  refine Ev.bind (zjj hv t) ?_
  have hlen:=zkW t l 0
  refine zoU (by omega) (fun j hj=>by
   obtain ⟨p,hp,rfl,_⟩:=(zjh t l 0 j).1 hj
   omega) (zaF t 0 l).length 0 _ (by omega) (zck _ _) ?_
  rw [List.drop_zero,znb h2 ht.2,show acc++t::r=acc++[t]++r by simp]
  exact ih t _ h3 (by simp; omega)
theorem zgT {l:List Wk} (hv:zao 6 vOk l=true):∃ L:List Int,Ev (fun k=>qbzz.f k l) (L,true)/\Ev (fun k=>qcfz.f k l) (L,true)/\L.length<=6 /\ ∀ n∈L,i64 n:=by
 obtain ⟨hl,hmem⟩:=zap.1 hv
 obtain ⟨r,h1,h2,h3,h4⟩:=zeX hv
 refine ⟨r,h4,qcfz.v (Ev.bind (zdy l) ?_),h1,h3.2⟩
 simp (disch:=omega) only [hv,S]
 have e:List.replicate l.length false=za8 l (-1):=by
  refine (List.eq_replicate_iff.2 ⟨zck _ _,fun b hb=>?_⟩).symm
  obtain ⟨v,hvl,rfl⟩:=List.mem_map.1 hb
  have:=zc9.1 (hmem _ hvl)
  exact decide_eq_false (by omega)
 rw [e]
 exact zoV hv r (-1) [] h2 (by simp; omega)
def beqN:List Nat->List Nat->Bool
 | [],[]=>true
 | a::l,b::m=>(a % 256 == b % 256) && beqN l m
 | _,_=>false
theorem zqy:∀ a b:List Nat,beqN a b=decide (a.map UInt8.ofNat=b.map UInt8.ofNat)
 | [],[]=>rfl
 | [],_::_=>rfl
 | _::_,[]=>rfl
 | a::l,b::m=>by
  have h:(UInt8.ofNat a=UInt8.ofNat b) ↔ a % 256=b % 256:=by
   rw [<- UInt8.toNat_inj,UInt8.toNat_ofNat',UInt8.toNat_ofNat']
  unfold beqN
  rw [zqy l m,List.map_cons,List.map_cons,Bool.eq_iff_iff,Bool.and_eq_true,beq_iff_eq,decide_eq_true_eq,decide_eq_true_eq,List.cons.injEq,h]
theorem sqn (a b:List Nat):seq (bs a) (bs b)=beqN a b:=by rw [zp5,zp5,zp7,zqy]
def zbV:List (List Nat×List Nat):=[([119,97,108,107,101,114,115],[87]),([97,100,100],[87]),([114,105,110,103],[78]),([116,117,114,110],[78]),([100,114,111,112],[78]),([97,116],[78]),([115,104,111,119],[]),([112,97,105,114,115],[]),([102,105,114,115,116],[]),([108,101,97,100],[]),([108,97,115,116],[]),([115,116,97,114,116],[]),([109,101,101,116],[78,78]),([119,104,101,114,101],[78,78]),([97,114,111,117,110,100],[78,78]),([103,97,112],[78,78]),([112,108,97,99,101,115],[78,78]),([100,111,103],[67]),([114,117,110],[67]),([97,112,97,114,116],[67,78]),([109,101,97,110],[76]),([116,105,109,101],[76]),([110,101,101,100],[76,78,78]),([118,105,115,105,116,115],[86]),([103,117,105,100,101,115],[86]),([99,104,97,110,99,101],[78,78,78])]
theorem zaS {w:List UInt8} {b:List Nat} (h:¬ w=b.map UInt8.ofNat):seq (bL w) (bs b)=false:=by rw [zp5,zp7]; exact decide_eq_false h
theorem znd (w:List UInt8):(qesz.f (bL w)=some (bs [],false)/\qfvz.f (bL w)=some (bs [63])) \/
    ∃ e∈zbV,bL w=bs e.1/\qesz.f (bs e.1)=some (bs e.2,true)/\qfvz.f (bs e.1)=some (bs (e.2.map (· + 32))):=by
 by_cases h0:w=([119,97,108,107,101,114,115]:List Nat).map UInt8.ofNat
 · exact .inr ⟨([119,97,108,107,101,114,115],[87]),by unfold zbV; simp only [List.mem_cons,true_or,or_true],by rw [h0]; rfl,by unfold qesz.f; simp only [sqn]; rfl,by unfold qfvz.f; simp only [sqn]; rfl⟩
 by_cases h1:w=([97,100,100]:List Nat).map UInt8.ofNat
 · exact .inr ⟨([97,100,100],[87]),by unfold zbV; simp only [List.mem_cons,true_or,or_true],by rw [h1]; rfl,by unfold qesz.f; simp only [sqn]; rfl,by unfold qfvz.f; simp only [sqn]; rfl⟩
 by_cases h2:w=([114,105,110,103]:List Nat).map UInt8.ofNat
 · exact .inr ⟨([114,105,110,103],[78]),by unfold zbV; simp only [List.mem_cons,true_or,or_true],by rw [h2]; rfl,by unfold qesz.f; simp only [sqn]; rfl,by unfold qfvz.f; simp only [sqn]; rfl⟩
 by_cases h3:w=([116,117,114,110]:List Nat).map UInt8.ofNat
 · exact .inr ⟨([116,117,114,110],[78]),by unfold zbV; simp only [List.mem_cons,true_or,or_true],by rw [h3]; rfl,by unfold qesz.f; simp only [sqn]; rfl,by unfold qfvz.f; simp only [sqn]; rfl⟩
 by_cases h4:w=([100,114,111,112]:List Nat).map UInt8.ofNat
 · exact .inr ⟨([100,114,111,112],[78]),by unfold zbV; simp only [List.mem_cons,true_or,or_true],by rw [h4]; rfl,by unfold qesz.f; simp only [sqn]; rfl,by unfold qfvz.f; simp only [sqn]; rfl⟩
 by_cases h5:w=([97,116]:List Nat).map UInt8.ofNat
 · exact .inr ⟨([97,116],[78]),by unfold zbV; simp only [List.mem_cons,true_or,or_true],by rw [h5]; rfl,by unfold qesz.f; simp only [sqn]; rfl,by unfold qfvz.f; simp only [sqn]; rfl⟩
 by_cases h6:w=([115,104,111,119]:List Nat).map UInt8.ofNat
 · exact .inr ⟨([115,104,111,119],[]),by unfold zbV; simp only [List.mem_cons,true_or,or_true],by rw [h6]; rfl,by unfold qesz.f; simp only [sqn]; rfl,by unfold qfvz.f; simp only [sqn]; rfl⟩
 by_cases h7:w=([112,97,105,114,115]:List Nat).map UInt8.ofNat
 · exact .inr ⟨([112,97,105,114,115],[]),by unfold zbV; simp only [List.mem_cons,true_or,or_true],by rw [h7]; rfl,by unfold qesz.f; simp only [sqn]; rfl,by unfold qfvz.f; simp only [sqn]; rfl⟩
 by_cases h8:w=([102,105,114,115,116]:List Nat).map UInt8.ofNat
 · exact .inr ⟨([102,105,114,115,116],[]),by unfold zbV; simp only [List.mem_cons,true_or,or_true],by rw [h8]; rfl,by unfold qesz.f; simp only [sqn]; rfl,by unfold qfvz.f; simp only [sqn]; rfl⟩
 by_cases h9:w=([108,101,97,100]:List Nat).map UInt8.ofNat
 · exact .inr ⟨([108,101,97,100],[]),by unfold zbV; simp only [List.mem_cons,true_or,or_true],by rw [h9]; rfl,by unfold qesz.f; simp only [sqn]; rfl,by unfold qfvz.f; simp only [sqn]; rfl⟩
 by_cases h10:w=([108,97,115,116]:List Nat).map UInt8.ofNat
 · exact .inr ⟨([108,97,115,116],[]),by unfold zbV; simp only [List.mem_cons,true_or,or_true],by rw [h10]; rfl,by unfold qesz.f; simp only [sqn]; rfl,by unfold qfvz.f; simp only [sqn]; rfl⟩
 by_cases h11:w=([115,116,97,114,116]:List Nat).map UInt8.ofNat
 · exact .inr ⟨([115,116,97,114,116],[]),by unfold zbV; simp only [List.mem_cons,true_or,or_true],by rw [h11]; rfl,by unfold qesz.f; simp only [sqn]; rfl,by unfold qfvz.f; simp only [sqn]; rfl⟩
 by_cases h12:w=([109,101,101,116]:List Nat).map UInt8.ofNat
 · exact .inr ⟨([109,101,101,116],[78,78]),by unfold zbV; simp only [List.mem_cons,true_or,or_true],by rw [h12]; rfl,by unfold qesz.f; simp only [sqn]; rfl,by unfold qfvz.f; simp only [sqn]; rfl⟩
 by_cases h13:w=([119,104,101,114,101]:List Nat).map UInt8.ofNat
 · exact .inr ⟨([119,104,101,114,101],[78,78]),by unfold zbV; simp only [List.mem_cons,true_or,or_true],by rw [h13]; rfl,by unfold qesz.f; simp only [sqn]; rfl,by unfold qfvz.f; simp only [sqn]; rfl⟩
 by_cases h14:w=([97,114,111,117,110,100]:List Nat).map UInt8.ofNat
 · exact .inr ⟨([97,114,111,117,110,100],[78,78]),by unfold zbV; simp only [List.mem_cons,true_or,or_true],by rw [h14]; rfl,by unfold qesz.f; simp only [sqn]; rfl,by unfold qfvz.f; simp only [sqn]; rfl⟩
 by_cases h15:w=([103,97,112]:List Nat).map UInt8.ofNat
 · exact .inr ⟨([103,97,112],[78,78]),by unfold zbV; simp only [List.mem_cons,true_or,or_true],by rw [h15]; rfl,by unfold qesz.f; simp only [sqn]; rfl,by unfold qfvz.f; simp only [sqn]; rfl⟩
 by_cases h16:w=([112,108,97,99,101,115]:List Nat).map UInt8.ofNat
 · exact .inr ⟨([112,108,97,99,101,115],[78,78]),by unfold zbV; simp only [List.mem_cons,true_or,or_true],by rw [h16]; rfl,by unfold qesz.f; simp only [sqn]; rfl,by unfold qfvz.f; simp only [sqn]; rfl⟩
 by_cases h17:w=([100,111,103]:List Nat).map UInt8.ofNat
 · exact .inr ⟨([100,111,103],[67]),by unfold zbV; simp only [List.mem_cons,true_or,or_true],by rw [h17]; rfl,by unfold qesz.f; simp only [sqn]; rfl,by unfold qfvz.f; simp only [sqn]; rfl⟩
 by_cases h18:w=([114,117,110]:List Nat).map UInt8.ofNat
 · exact .inr ⟨([114,117,110],[67]),by unfold zbV; simp only [List.mem_cons,true_or,or_true],by rw [h18]; rfl,by unfold qesz.f; simp only [sqn]; rfl,by unfold qfvz.f; simp only [sqn]; rfl⟩
 by_cases h19:w=([97,112,97,114,116]:List Nat).map UInt8.ofNat
 · exact .inr ⟨([97,112,97,114,116],[67,78]),by unfold zbV; simp only [List.mem_cons,true_or,or_true],by rw [h19]; rfl,by unfold qesz.f; simp only [sqn]; rfl,by unfold qfvz.f; simp only [sqn]; rfl⟩
 by_cases h20:w=([109,101,97,110]:List Nat).map UInt8.ofNat
 · exact .inr ⟨([109,101,97,110],[76]),by unfold zbV; simp only [List.mem_cons,true_or,or_true],by rw [h20]; rfl,by unfold qesz.f; simp only [sqn]; rfl,by unfold qfvz.f; simp only [sqn]; rfl⟩
 by_cases h21:w=([116,105,109,101]:List Nat).map UInt8.ofNat
 · exact .inr ⟨([116,105,109,101],[76]),by unfold zbV; simp only [List.mem_cons,true_or,or_true],by rw [h21]; rfl,by unfold qesz.f; simp only [sqn]; rfl,by unfold qfvz.f; simp only [sqn]; rfl⟩
 by_cases h22:w=([110,101,101,100]:List Nat).map UInt8.ofNat
 · exact .inr ⟨([110,101,101,100],[76,78,78]),by unfold zbV; simp only [List.mem_cons,true_or,or_true],by rw [h22]; rfl,by unfold qesz.f; simp only [sqn]; rfl,by unfold qfvz.f; simp only [sqn]; rfl⟩
 by_cases h23:w=([118,105,115,105,116,115]:List Nat).map UInt8.ofNat
 · exact .inr ⟨([118,105,115,105,116,115],[86]),by unfold zbV; simp only [List.mem_cons,true_or,or_true],by rw [h23]; rfl,by unfold qesz.f; simp only [sqn]; rfl,by unfold qfvz.f; simp only [sqn]; rfl⟩
 by_cases h24:w=([103,117,105,100,101,115]:List Nat).map UInt8.ofNat
 · exact .inr ⟨([103,117,105,100,101,115],[86]),by unfold zbV; simp only [List.mem_cons,true_or,or_true],by rw [h24]; rfl,by unfold qesz.f; simp only [sqn]; rfl,by unfold qfvz.f; simp only [sqn]; rfl⟩
 by_cases h25:w=([99,104,97,110,99,101]:List Nat).map UInt8.ofNat
 · exact .inr ⟨([99,104,97,110,99,101],[78,78,78]),by unfold zbV; simp only [List.mem_cons,true_or,or_true],by rw [h25]; rfl,by unfold qesz.f; simp only [sqn]; rfl,by unfold qfvz.f; simp only [sqn]; rfl⟩
 refine .inl ⟨?_,?_⟩
 · unfold qesz.f; simp only [zaS h0,zaS h1,zaS h2,zaS h3,zaS h4,zaS h5,zaS h6,zaS h7,zaS h8,zaS h9,zaS h10,zaS h11,zaS h12,zaS h13,zaS h14,zaS h15,zaS h16,zaS h17,zaS h18,zaS h19,zaS h20,zaS h21,zaS h22,zaS h23,zaS h24,zaS h25,Bool.false_eq_true,if_false]
 · unfold qfvz.f; simp only [zaS h0,zaS h1,zaS h2,zaS h3,zaS h4,zaS h5,zaS h6,zaS h7,zaS h8,zaS h9,zaS h10,zaS h11,zaS h12,zaS h13,zaS h14,zaS h15,zaS h16,zaS h17,zaS h18,zaS h19,zaS h20,zaS h21,zaS h22,zaS h23,zaS h24,zaS h25,Bool.false_eq_true,if_false]
abbrev Ar:=List Wk×(Int×(Int×(Int×(Int×(List Wk×(List Wk×List Int))))))
def zaM (c:Nat) (w:List UInt8) (s:Ar):Option Ar :=
 if c=87 then (if (zbb w).2=true then some ((zbb w).1,s.2) else none)
 else if c=67 then (if (zas w).2=true then some (s.1,((zas w).1.1,((zas w).1.2.1,((zas w).1.2.2.1,((zas w).1.2.2.2,s.2.2.2.2.2))))) else none)
 else if c=76 then (if (zcu w).2=true then some (s.1,(s.2.1,(s.2.2.1,(s.2.2.2.1,(s.2.2.2.2.1,((zcu w).1,s.2.2.2.2.2.2)))))) else none)
 else if c=86 then (if (zbv w).2=true then some (s.1,(s.2.1,(s.2.2.1,(s.2.2.2.1,(s.2.2.2.2.1,(s.2.2.2.2.2.1,((zbv w).1,s.2.2.2.2.2.2.2))))))) else none)
 else if 0<=l1r w then some (s.1,(s.2.1,(s.2.2.1,(s.2.2.2.1,(s.2.2.2.2.1,(s.2.2.2.2.2.1,(s.2.2.2.2.2.2.1,s.2.2.2.2.2.2.2++[l1r w]))))))) else none
def zfE:List Nat->List (List UInt8)->Ar->Option Ar
 | [],_,s=>some s
 | _::_,[],_=>none
 | c::cs,w::ws,s=>(zaM c w s).bind (zfE cs ws)
theorem zn5 (w:List UInt8):(∃ n,0<=n/\n<=999999/\zdS w=(n,true)/\l1r w=n) \/ (l1r w = -1/\((zdS w).2=false \/ decide (0<=(zdS w).1/\(zdS w).1<=999999)=false)):=by
 rcases zc8 w with ⟨n,h0,h1,hw,h2⟩ | ⟨h2,hn⟩
 · exact .inl ⟨n,h0,h1,by rw [hw]; exact zdT (by omega) (by omega),h2⟩
 · refine .inr ⟨h2,?_⟩
   rcases ziU w with ⟨n,_,_,hw,h3⟩ | ⟨h3,_⟩
   · refine .inr (decide_eq_false fun h=>hn n ?_ ?_ hw)
     · rw [h3] at h; exact h.1
     · rw [h3] at h; exact h.2
   · exact .inl (by rw [h3])
theorem zne (w:List UInt8) (s:Ar):zaM 78 w s=if 0<=l1r w then some (s.1,(s.2.1,(s.2.2.1,(s.2.2.2.1,(s.2.2.2.2.1,(s.2.2.2.2.2.1,(s.2.2.2.2.2.2.1,s.2.2.2.2.2.2.2++[l1r w]))))))) else none:=by
 unfold zaM
 rw [if_neg (by decide),if_neg (by decide),if_neg (by decide),if_neg (by decide)]
def zmb (c:Nat):Prop:=c=87 \/ c=67 \/ c=76 \/ c=86 \/ c=78
theorem zmc {c:Nat} (hc:zmb c) {w:List UInt8} (hw:w.length<=2000000) (s:Ar) (hs:s.2.2.2.2.2.2.2.length<=1000) :
    ∃ t:Ar,Ev (fun k=>qbtz.f k s.1 s.2.1 s.2.2.1 s.2.2.2.1 s.2.2.2.2.1 s.2.2.2.2.2.1 s.2.2.2.2.2.2.1 s.2.2.2.2.2.2.2 (c:Int) (bL w)) ((zaM c w s).isSome,t) /\ ∀ t',zaM c w s=some t'->t=t':=by
 rcases hc with rfl | rfl | rfl | rfl | rfl
 · refine ⟨((zbb w).1,s.2),qbtz.v ?_,?_⟩
   · simp (disch:=omega) only [S]
     refine Ev.bind (zeW hw) (zbR ?_)
     unfold zaM
     rw [if_pos rfl]
     cases (zbb w).2 <;> rfl
   · intro t' h
     unfold zaM at h
     rw [if_pos rfl] at h
     split at h
     · injection h
     · cases h
 · refine ⟨(s.1,((zas w).1.1,((zas w).1.2.1,((zas w).1.2.2.1,((zas w).1.2.2.2,s.2.2.2.2.2))))),qbtz.v ?_,?_⟩
   · simp (disch:=omega) only [S]
     refine Ev.bind (zf9 hw) (zbR ?_)
     unfold zaM
     rw [if_neg (by decide),if_pos rfl]
     cases (zas w).2 <;> rfl
   · intro t' h
     unfold zaM at h
     rw [if_neg (by decide),if_pos rfl] at h
     split at h
     · injection h
     · cases h
 · refine ⟨(s.1,(s.2.1,(s.2.2.1,(s.2.2.2.1,(s.2.2.2.2.1,((zcu w).1,s.2.2.2.2.2.2)))))),qbtz.v ?_,?_⟩
   · simp (disch:=omega) only [S]
     refine Ev.bind (zgL hw) (zbR ?_)
     unfold zaM
     rw [if_neg (by decide),if_neg (by decide),if_pos rfl]
     cases (zcu w).2 <;> rfl
   · intro t' h
     unfold zaM at h
     rw [if_neg (by decide),if_neg (by decide),if_pos rfl] at h
     split at h
     · injection h
     · cases h
 · refine ⟨(s.1,(s.2.1,(s.2.2.1,(s.2.2.2.1,(s.2.2.2.2.1,(s.2.2.2.2.2.1,((zbv w).1,s.2.2.2.2.2.2.2))))))),qbtz.v ?_,?_⟩
   · simp (disch:=omega) only [S]
     refine Ev.bind (zfv hw) (zbR ?_)
     unfold zaM
     rw [if_neg (by decide),if_neg (by decide),if_neg (by decide),if_pos rfl]
     cases (zbv w).2 <;> rfl
   · intro t' h
     unfold zaM at h
     rw [if_neg (by decide),if_neg (by decide),if_neg (by decide),if_pos rfl] at h
     split at h
     · injection h
     · cases h
 · refine ⟨(s.1,(s.2.1,(s.2.2.1,(s.2.2.2.1,(s.2.2.2.2.1,(s.2.2.2.2.2.1,(s.2.2.2.2.2.2.1,s.2.2.2.2.2.2.2++[(zdS w).1]))))))),qbtz.v ?_,?_⟩
   · simp (disch:=omega) only [S,zdr hw,zar]
     rw [zne]
     rcases zn5 w with ⟨n,h0,h1,hn,hr⟩ | ⟨hr,hn⟩
     · rw [hn,hr,if_pos h0]
       refine zbR ?_
       rw [show decide (0<=n/\n<=999999)=true from decide_eq_true ⟨h0,h1⟩]
       rfl
     · rw [hr]
       rcases hn with hn | hn
       · simp only [hn,Bool.false_eq_true,if_false]
         exact zbR rfl
       · simp only [hn]
         cases (zdS w).2
         · exact zbR rfl
         · exact zbR rfl
   · intro t' h
     rw [zne] at h
     rcases zn5 w with ⟨n,h0,h1,hn,hr⟩ | ⟨hr,hn⟩
     · rw [hr,if_pos h0] at h
       rw [hn]
       injection h
     · rw [hr] at h
       simp at h
abbrev ztP:=BA×((List Wk×(Int×Ar))×Bool)
noncomputable abbrev zkd (k:Fu) (X:List BA) (Y:BA) (Z:List BA) (m i:Int) (D:List Wk) (n:Int) (s:Ar):Option ztP:=qgbz.l0 k X Y Z m i 0 0 0 0 0 D n s.1 s.2.1 s.2.2.1 s.2.2.2.1 s.2.2.2.2.1 s.2.2.2.2.2.1 s.2.2.2.2.2.2.1 s.2.2.2.2.2.2.2
noncomputable abbrev zmd (k:Fu) (X:List BA) (Y:BA) (Z:List BA) (m i:Int) (D:List Wk) (n:Int) (s:Ar):=qfbz.l0 k X Y Z m i D n 0 s.1 s.2.1 s.2.2.1 s.2.2.2.1 s.2.2.2.2.1 s.2.2.2.2.2.1 s.2.2.2.2.2.2.1 s.2.2.2.2.2.2.2
theorem zqz {fs:List Nat} {i:Nat} (h:i < fs.length):bat (bs fs) (i:Int)=((fs.getD i 0 % 256:Nat):Int):=by
 rw [zp5,zlX (by simpa using h)]
 have e:(fs.map UInt8.ofNat).getD i 0=UInt8.ofNat (fs.getD i 0):=by simp [h]
 rw [e,UInt8.toNat_ofNat']
theorem zgU (fs:List Nat):(bs fs).size=fs.length:=by rw [zp5,zam,List.length_map]
theorem zqA {X:List BA} {fs:List Nat} {ws:List (List UInt8)} (hfw:fs.length=ws.length) (hl:ws.length<=1000) (hw:∀ w∈ws,w.length<=2000000) {D:List Wk} {n:Int} (s:Ar) (hs:s.2.2.2.2.2.2.2.length<=1000) {i:Nat} (hi:i < ws.length) (hc:zmb (fs.getD i 0)) :
    (zaM (fs.getD i 0) (ws.getD i []) s=none->∃ z,Ev (fun k=>zkd k X (bs (fs.map (· + 32))) (ws.map bL) (ws.length:Int) (i:Int) D n s) (bs [],(z,false))) /\
    (∀ t,zaM (fs.getD i 0) (ws.getD i []) s=some t->∀ r,Ev (fun k=>zkd k X (bs (fs.map (· + 32))) (ws.map bL) (ws.length:Int) ((i+1:Nat):Int) D n t) r->Ev (fun k=>zkd k X (bs (fs.map (· + 32))) (ws.map bL) (ws.length:Int) (i:Int) D n s) r):=by
 have hwi:=hw _ (zag (z:=[]) hi)
 have hb:bat (bs (fs.map (· + 32))) (i:Int)=(((fs.getD i 0+32) % 256:Nat):Int):=by
  rw [zqz (by simp; omega)]
  have e:(fs.map (· + 32)).getD i 0=fs.getD i 0+32:=by
   have:i < fs.length:=by omega
   simp [this]
  rw [e]
 have hz:=zgU (fs.map (· + 32))
 rw [List.length_map] at hz
 have hml:(ws.map bL).length=ws.length:=List.length_map _
 have hg:=zeD ws i
 generalize fs.getD i 0=c at *
 generalize ws.getD i []=w at *
 rcases hc with rfl | rfl | rfl | rfl | rfl
 · have hE:=zi1 hwi
   cases hq:(zbb w).2 with
   | true =>
    refine ⟨fun h=>by unfold zaM at h; simp [hq] at h,fun t h r hr=>qgbz.v0 ?_⟩
    have ht:t=((zbb w).1,s.2):=by unfold zaM at h; simp [hq] at h; exact h.symm
    subst ht
    simp (disch:=omega) only [S,hb,hg]
    refine Ev.bind hE ?_
    simp (disch:=omega) only [S,hq]
    exact hr
   | false =>
    refine ⟨fun _=>⟨(D,(n,((zbb w).1,s.2))),qgbz.v0 ?_⟩,fun t h=>by unfold zaM at h; simp [hq] at h⟩
    simp (disch:=omega) only [S,hb,hg]
    refine Ev.bind hE ?_
    simp (disch:=omega) only [S,hq]
    exact Ev.now _
 · have hE:=zi4 hwi
   cases hq:(zas w).2 with
   | true =>
    refine ⟨fun h=>by unfold zaM at h; simp [hq] at h,fun t h r hr=>qgbz.v0 ?_⟩
    have ht:t=(s.1,((zas w).1.1,((zas w).1.2.1,((zas w).1.2.2.1,((zas w).1.2.2.2,s.2.2.2.2.2))))):=by unfold zaM at h; simp [hq] at h; exact h.symm
    subst ht
    simp (disch:=omega) only [S,hb,hg]
    refine Ev.bind hE ?_
    simp (disch:=omega) only [S,hq]
    exact hr
   | false =>
    refine ⟨fun _=>⟨(D,(n,(s.1,((zas w).1.1,((zas w).1.2.1,((zas w).1.2.2.1,((zas w).1.2.2.2,s.2.2.2.2.2))))))),qgbz.v0 ?_⟩,fun t h=>by unfold zaM at h; simp [hq] at h⟩
    simp (disch:=omega) only [S,hb,hg]
    refine Ev.bind hE ?_
    simp (disch:=omega) only [S,hq]
    exact Ev.now _
 · have hE:=zi2 hwi
   cases hq:(zcu w).2 with
   | true =>
    refine ⟨fun h=>by unfold zaM at h; simp [hq] at h,fun t h r hr=>qgbz.v0 ?_⟩
    have ht:t=(s.1,(s.2.1,(s.2.2.1,(s.2.2.2.1,(s.2.2.2.2.1,((zcu w).1,s.2.2.2.2.2.2)))))):=by unfold zaM at h; simp [hq] at h; exact h.symm
    subst ht
    simp (disch:=omega) only [S,hb,hg]
    refine Ev.bind hE ?_
    simp (disch:=omega) only [S,hq]
    exact hr
   | false =>
    refine ⟨fun _=>⟨(D,(n,(s.1,(s.2.1,(s.2.2.1,(s.2.2.2.1,(s.2.2.2.2.1,((zcu w).1,s.2.2.2.2.2.2)))))))),qgbz.v0 ?_⟩,fun t h=>by unfold zaM at h; simp [hq] at h⟩
    simp (disch:=omega) only [S,hb,hg]
    refine Ev.bind hE ?_
    simp (disch:=omega) only [S,hq]
    exact Ev.now _
 · have hE:=zi3 hwi
   cases hq:(zbv w).2 with
   | true =>
    refine ⟨fun h=>by unfold zaM at h; simp [hq] at h,fun t h r hr=>qgbz.v0 ?_⟩
    have ht:t=(s.1,(s.2.1,(s.2.2.1,(s.2.2.2.1,(s.2.2.2.2.1,(s.2.2.2.2.2.1,((zbv w).1,s.2.2.2.2.2.2.2))))))):=by unfold zaM at h; simp [hq] at h; exact h.symm
    subst ht
    simp (disch:=omega) only [S,hb,hg]
    refine Ev.bind hE ?_
    simp (disch:=omega) only [S,hq]
    exact hr
   | false =>
    refine ⟨fun _=>⟨(D,(n,(s.1,(s.2.1,(s.2.2.1,(s.2.2.2.1,(s.2.2.2.2.1,(s.2.2.2.2.2.1,((zbv w).1,s.2.2.2.2.2.2.2))))))))),qgbz.v0 ?_⟩,fun t h=>by unfold zaM at h; simp [hq] at h⟩
    simp (disch:=omega) only [S,hb,hg]
    refine Ev.bind hE ?_
    simp (disch:=omega) only [S,hq]
    exact Ev.now _
 · have hE:=zaI hwi
   by_cases hq:0<=l1r w
   · refine ⟨fun h=>by unfold zaM at h; simp [hq] at h,fun t h r hr=>qgbz.v0 ?_⟩
     have ht:t=(s.1,(s.2.1,(s.2.2.1,(s.2.2.2.1,(s.2.2.2.2.1,(s.2.2.2.2.2.1,(s.2.2.2.2.2.2.1,s.2.2.2.2.2.2.2++[l1r w]))))))):=by unfold zaM at h; simp [hq] at h; exact h.symm
     subst ht
     simp (disch:=omega) only [S,hb,hg]
     refine Ev.bind hE ?_
     simp (disch:=omega) only [S]
     exact hr
   · refine ⟨fun _=>⟨(D,(n,(s.1,(s.2.1,(s.2.2.1,(s.2.2.2.1,(s.2.2.2.2.1,(s.2.2.2.2.2.1,(s.2.2.2.2.2.2.1,s.2.2.2.2.2.2.2++[l1r w]))))))))),qgbz.v0 ?_⟩,fun t h=>by unfold zaM at h; simp [hq] at h⟩
     simp (disch:=omega) only [S,hb,hg]
     refine Ev.bind hE ?_
     simp (disch:=omega) only [S]
     exact Ev.now _
def zoW:BA:=bs [119,104,97,116]
def noB:BA:=bs [110,111]
abbrev ChR:=(List Wk×Int)×(BA×(Bool×Ar))
def fin (D:List Wk) (n:Int) (R:ChR):(List Wk×Int)×BA:=if R.2.2.1=true then (R.1,R.2.1) else ((D,n),noB)
theorem zqB {w0:List UInt8} {fs:List Nat} {ws:List (List UInt8)} (hf:∀ c∈fs,zmb c) (hfw:fs.length=ws.length) (hl:ws.length<=1000) (hw:∀ w∈ws,w.length<=2000000) {D:List Wk} {n:Int} :
    ∀ (d i:Nat),i+d=ws.length->∀ s:Ar,s.2.2.2.2.2.2.2.length<=i ->
     (zfE (fs.drop i) (ws.drop i) s=none->Ev (fun k=>zmd k (bL w0::ws.map bL) (bs fs) (ws.map bL) (ws.length:Int) (i:Int) D n s) ((D,n),zoW) /\
      ∃ z,Ev (fun k=>zkd k (bL w0::ws.map bL) (bs (fs.map (· + 32))) (ws.map bL) (ws.length:Int) (i:Int) D n s) (bs [],(z,false))) /\
     (∀ t,zfE (fs.drop i) (ws.drop i) s=some t ->
      (∀ R:ChR,Ev (fun k=>qczz.f k D n (bL w0) t.1 t.2.1 t.2.2.1 t.2.2.2.1 t.2.2.2.2.1 t.2.2.2.2.2.1 t.2.2.2.2.2.2.1 t.2.2.2.2.2.2.2) R->Ev (fun k=>zmd k (bL w0::ws.map bL) (bs fs) (ws.map bL) (ws.length:Int) (i:Int) D n s) (fin D n R)) /\
      Ev (fun k=>zkd k (bL w0::ws.map bL) (bs (fs.map (· + 32))) (ws.map bL) (ws.length:Int) (i:Int) D n s) (bL w0,((D,(n,t)),true))):=by
 have hX:∀ {β:Type} (x:Option β),gd (0 < (((bL w0::ws.map bL).length:Nat):Int)) x=x:=fun x=>S.1 (by rw [List.length_cons]; omega)
 intro d
 induction d with
 | zero =>
  intro i hi s hs
  rw [List.drop_eq_nil_of_le (by omega)]
  refine ⟨fun h=>by simp [zfE] at h,fun t ht=>?_⟩
  have ht:t=s:=by simp [zfE] at ht; exact ht.symm
  subst ht
  refine ⟨fun R hR=>qfbz.v0 ?_,qgbz.v0 ?_⟩
  · simp (disch:=omega) only [S,hX,rd0]
    refine Ev.bind hR ?_
    unfold fin
    cases R.2.2.1
    · exact Ev.now _
    · exact Ev.now _
  · simp (disch:=omega) only [S,hX,rd0]
    exact Ev.now _
 | succ d ih =>
  intro i hi s hs
  have hif:i < fs.length:=by omega
  have hc:=hf _ (zag (z:=0) hif)
  have hwi:=hw _ (zag (z:=[]) (show i < ws.length by omega))
  obtain ⟨p1,p2⟩:=zqA (X:=bL w0::ws.map bL) (D:=D) (n:=n) hfw hl hw s (by omega) (show i < ws.length by omega) hc
  obtain ⟨t0,q1,q2⟩:=zmc hc hwi s (by omega)
  have hb:bat (bs fs) (i:Int)=((fs.getD i 0:Nat):Int):=by
   rw [zqz hif]
   rcases hc with e | e | e | e | e <;> rw [e]
  have hz:=zgU fs
  have hml:(ws.map bL).length=ws.length:=List.length_map _
  rw [zay 0 hif,zay [] (show i < ws.length by omega)]
  cases hA:zaM (fs.getD i 0) (ws.getD i []) s with
  | none =>
   refine ⟨fun _=>⟨qfbz.v0 ?_,p1 hA⟩,fun t ht=>by
    have h':(zaM (fs.getD i 0) (ws.getD i []) s).bind (zfE (fs.drop (i+1)) (ws.drop (i+1)))=some t:=ht
    rw [hA] at h'; cases h'⟩
   rw [hA] at q1
   simp (disch:=omega) only [S,hb,zeD]
   refine Ev.bind q1 ?_
   exact Ev.now _
  | some t1 =>
   rw [hA] at q1
   have e:=q2 t1 hA
   subst e
   have hlen:t0.2.2.2.2.2.2.2.length<=i+1:=by
    unfold zaM at hA
    split at hA
    · split at hA
      · injection hA with hA; subst hA; exact Nat.le_succ_of_le hs
      · cases hA
    · split at hA
      · split at hA
        · injection hA with hA; subst hA; exact Nat.le_succ_of_le hs
        · cases hA
      · split at hA
        · split at hA
          · injection hA with hA; subst hA; exact Nat.le_succ_of_le hs
          · cases hA
        · split at hA
          · split at hA
            · injection hA with hA; subst hA; exact Nat.le_succ_of_le hs
            · cases hA
          · split at hA
            · injection hA with hA; subst hA; simp; omega
            · cases hA
   obtain ⟨i1,i2⟩:=ih (i+1) (by omega) t0 hlen
   have step:∀ r,Ev (fun k=>zmd k (bL w0::ws.map bL) (bs fs) (ws.map bL) (ws.length:Int) ((i+1:Nat):Int) D n t0) r->Ev (fun k=>zmd k (bL w0::ws.map bL) (bs fs) (ws.map bL) (ws.length:Int) (i:Int) D n s) r:=by
    intro r hr
    refine qfbz.v0 ?_
    simp (disch:=omega) only [S,hb,zeD]
    refine Ev.bind q1 ?_
    simp (disch:=omega) only [S,Option.isSome_some]
    exact hr
   have hT:zfE (fs.getD i 0::fs.drop (i+1)) (ws.getD i []::ws.drop (i+1)) s=zfE (fs.drop (i+1)) (ws.drop (i+1)) t0:=by
    show (zaM _ _ s).bind _=_
    rw [hA]; rfl
   rw [hT]
   refine ⟨fun h=>?_,fun t h=>?_⟩
   · obtain ⟨a,z,b⟩:=i1 h
     exact ⟨step _ a,z,p2 t0 hA _ b⟩
   · obtain ⟨a,b⟩:=i2 t h
     exact ⟨fun R hR=>step _ (a R hR),p2 t0 hA _ b⟩
theorem BQ:(∀ a b:List Nat,seq (bs a) (bs b)=beqN a b)/\(beqN [] []=true)/\(∀ (a b:Nat) (l m:List Nat),beqN (a::l) (b::m)=((a % 256 == b % 256) && beqN l m))/\(∀ (b:Nat) (m:List Nat),beqN [] (b::m)=false)/\(∀ (a:Nat) (l:List Nat),beqN (a::l) []=false)/\(∀ b:Bool,(true && b)=b)/\(∀ b:Bool,(false && b)=false) :=
 ⟨sqn,rfl,fun _ _ _ _=>rfl,fun _ _=>rfl,fun _ _=>rfl,fun _=>rfl,fun _=>rfl⟩
theorem LN:(∀ {α:Type} (a:α) (l:List α),(a::l).length=l.length+1)/\(∀ {α:Type},([]:List α).length=0)/\(∀ {α:Type} (z a:α) (l:List α),rd z (a::l) 0=a)/\(∀ {α:Type} (z a b:α) (l:List α),rd z (a::b::l) 1=b)/\(∀ {α:Type} (z a b c:α) (l:List α),rd z (a::b::c::l) 2=c)/\(∀ {α:Type} (l:List α),[]++l=l) :=
 ⟨fun _ _=>rfl,rfl,fun _ _ _=>rfl,fun _ _ _ _=>rfl,fun _ _ _ _ _=>rfl,fun _=>rfl⟩
noncomputable abbrev chgF (k:Fu) (D:List Wk) (n:Int) (w:BA) (t:Ar):Option ChR:=qczz.f k D n w t.1 t.2.1 t.2.2.1 t.2.2.2.1 t.2.2.2.2.1 t.2.2.2.2.2.1 t.2.2.2.2.2.2.1 t.2.2.2.2.2.2.2
abbrev StR:=BA×(List Wk×(Int×Ar))
noncomputable abbrev movF (k:Fu) (D:List Wk) (n:Int) (t:Ar) (w:BA):Option StR:=qccz.f k D n t.1 t.2.1 t.2.2.1 t.2.2.2.1 t.2.2.2.2.1 t.2.2.2.2.2.1 t.2.2.2.2.2.2.1 t.2.2.2.2.2.2.2 w
noncomputable abbrev asdF (k:Fu) (D:List Wk) (n:Int) (t:Ar) (w:BA):Option StR:=qcez.f k D n t.1 t.2.1 t.2.2.1 t.2.2.2.1 t.2.2.2.2.1 t.2.2.2.2.2.1 t.2.2.2.2.2.2.1 t.2.2.2.2.2.2.2 w
noncomputable abbrev askF (k:Fu) (D:List Wk) (n:Int) (w:BA) (t:Ar):Option (BA×(Bool×Ar)):=qezz.f k D n w t.1 t.2.1 t.2.2.1 t.2.2.2.1 t.2.2.2.2.1 t.2.2.2.2.2.1 t.2.2.2.2.2.2.1 t.2.2.2.2.2.2.2
def Act (w:BA) (t:Ar) (D:List Wk) (n:Int):Prop:=∃ r:(List Wk×Int)×BA,dOk r.1.1 r.1.2=true/\(∃ R:ChR,Ev (fun k=>chgF k D n w t) R/\r=fin D n R) /\
 ∀ line,Ev (fun k=>qgbz.f k D n line) (w,((D,(n,t)),true))->Ev (fun k=>qhbz.f k D n line) r
theorem zat {D:List Wk} {n:Int}:dOk D n=true ↔ zao 8 wOk D=true/\(1<=n/\n<=1000):=by unfold dOk; rw [Bool.and_eq_true,decide_eq_true_eq]
theorem zjk (X:List Wk) (n:Int) (t:Ar):Ev (fun k=>(qfyz.f k X n).bind fun t0=>if (!t0) then some ((X,n),(bs [],(false,t))) else (qdbz.f k X).bind fun t1=>some ((X,n),(t1.1,(t1.2,t)))) (if dOk X n=true then ((X,n),(bL (wkT X),(true,t))) else ((X,n),(bs [],(false,t)))):=by
 refine Ev.bind (zjx X n) ?_
 cases h:dOk X n with
 | false=>simp only [S]; exact Ev.now _
 | true =>
  simp only [S]
  refine Ev.bind (zfw X) ?_
  rw [if_pos (zat.1 h).1]
  exact Ev.now _
theorem zn6 (D X:List Wk) (n:Int) (t:Ar):Ev (fun k=>qdez.f k D n t.1 t.2.1 t.2.2.1 t.2.2.2.1 t.2.2.2.2.1 t.2.2.2.2.2.1 t.2.2.2.2.2.2.1 t.2.2.2.2.2.2.2 X) (if zao 8 wOk X=true then (bL (wkT X),(X,(n,t))) else (noB,(D,(n,t)))):=by
 refine qdez.v (Ev.bind (zbp X) ?_)
 cases h:zao 8 wOk X with
 | false=>simp only [S]; exact Ev.now _
 | true =>
  simp only [S]
  exact Ev.bind (zdD h) (Ev.now _)
theorem zcX {w:BA} {t:Ar} {D X:List Wk} {n m:Int} (hD:dOk D n=true)
    (h1:Ev (fun k=>chgF k D n w t) (if dOk X m=true then ((X,m),(bL (wkT X),(true,t))) else ((X,m),(bs [],(false,t)))))
    (h2:∃ Z:StR,Ev (fun k=>movF k D n t w) Z/\((Z.2.1,Z.2.2.1),Z.1)=(if dOk X m=true then ((X,m),bL (wkT X)) else ((D,n),noB)))
    (h3:∀ Z:StR,Ev (fun k=>movF k D n t w) Z->∀ line,Ev (fun k=>qgbz.f k D n line) (w,((D,(n,t)),true))->Ev (fun k=>qhbz.f k D n line) ((Z.2.1,Z.2.2.1),Z.1)):Act w t D n:=by
 obtain ⟨Z,z1,z2⟩:=h2
 refine ⟨if dOk X m=true then ((X,m),bL (wkT X)) else ((D,n),noB),?_,⟨_,h1,?_⟩,fun line hl=>by rw [<- z2]; exact h3 Z z1 line hl⟩
 · split
   · assumption
   · exact hD
 · unfold fin
   split <;> rfl
theorem zrZ {w:BA} {t:Ar} {D:List Wk} {n:Int} (hD:dOk D n=true) {R:ChR} (h1:Ev (fun k=>chgF k D n w t) R) (hR:R.2.2.1=false) (h3:∀ line,Ev (fun k=>qgbz.f k D n line) (w,((D,(n,t)),true))->Ev (fun k=>qhbz.f k D n line) ((D,n),noB)):Act w t D n :=
 ⟨((D,n),noB),hD,⟨R,h1,by unfold fin; rw [hR]; rfl⟩,h3⟩
theorem zbj {w:BA} {t:Ar} {D:List Wk} {n:Int} (hD:dOk D n=true)
    (h1:∀ r,Ev (fun k=>askF k D n w t) r->Ev (fun k=>chgF k D n w t) ((D,n),r))
    (h2:∀ Z:StR,Ev (fun k=>asdF k D n t w) Z->∀ line,Ev (fun k=>qgbz.f k D n line) (w,((D,(n,t)),true))->Ev (fun k=>qhbz.f k D n line) ((D,n),Z.1))
    (h3:∃ (T:BA) (ok:Bool),Ev (fun k=>askF k D n w t) (T,(ok,t))/\Ev (fun k=>asdF k D n t w) ((if ok=true then T else noB),(D,(n,t)))):Act w t D n:=by
 obtain ⟨T,ok,a,b⟩:=h3
 refine ⟨((D,n),if ok=true then T else noB),hD,⟨_,h1 _ a,?_⟩,h2 _ b⟩
 unfold fin
 cases ok <;> rfl
abbrev Ans (F:Fu->Option (BA×(Bool×Ar))) (G:Fu->Option StR) (D:List Wk) (n:Int) (t:Ar):Prop:=∃ (T:BA) (ok:Bool),Ev F (T,(ok,t))/\Ev G ((if ok=true then T else noB),(D,(n,t)))
theorem zeL {F G:Fu->Option R3} (D:List Wk) (n:Int) (t:Ar) (h:Same3 F G):Ans (fun k=>(F k).bind fun t0=>(qhqz.f k t0.1 t0.2.1 t0.2.2).bind fun t1=>some (t1.1,(t1.2,t))) (fun k=>(G k).bind fun t0=>(qgpz.f k t0.1 t0.2.1 t0.2.2).bind fun t1=>some (t1,(D,(n,t)))) D n t:=by
 obtain ⟨r,a,b,c,d⟩:=h
 refine ⟨bL (numT 47 [r.1,r.2.1]),r.2.2,Ev.bind a (Ev.bind (zhj c d _) (Ev.now _)),Ev.bind b (Ev.bind (zdB c d _) (zbR ?_))⟩
 unfold zgc
 cases r.2.2 <;> rfl
abbrev Ans2 (F:Fu->Option (BA×Bool)) (G:Fu->Option StR) (D:List Wk) (n:Int) (t:Ar):Prop:=∃ (T:BA) (ok:Bool),Ev F (T,ok)/\Ev G ((if ok=true then T else noB),(D,(n,t)))
theorem zhP {F G:Fu->Option R3} (D:List Wk) (n:Int) (t:Ar) (h:Same3 F G):Ans2 (fun k=>(F k).bind fun t0=>(qhqz.f k t0.1 t0.2.1 t0.2.2).bind fun t1=>some t1) (fun k=>(G k).bind fun t0=>(qgpz.f k t0.1 t0.2.1 t0.2.2).bind fun t1=>some (t1,(D,(n,t)))) D n t:=by
 obtain ⟨r,a,b,c,d⟩:=h
 refine ⟨bL (numT 47 [r.1,r.2.1]),r.2.2,Ev.bind a (Ev.bind (zhj c d _) (Ev.now _)),Ev.bind b (Ev.bind (zdB c d _) (zbR ?_))⟩
 unfold zgc
 cases r.2.2 <;> rfl
theorem zkX {F G:Fu->Option (List Int×Bool)} {L:List Int} (D:List Wk) (n:Int) (t:Ar) (a:Ev F (L,true)) (b:Ev G (L,true)) (hl:L.length<=1000000) (hL:∀ x∈L,i64 x):Ans (fun k=>(F k).bind fun t0=>(qfqz.f k t0.1 t0.2).bind fun t1=>some (t1.1,(t1.2,t))) (fun k=>(G k).bind fun t0=>(qgvz.f k t0.1 t0.2).bind fun t1=>some (t1,(D,(n,t)))) D n t :=
 ⟨bL (zm4 L),true,Ev.bind a (Ev.bind (zeG hl hL _) (Ev.now _)),Ev.bind b (Ev.bind (zdC hl hL _) (Ev.now _))⟩
theorem zke (c1 c2:BA) (b:Bool):Ev (fun k=>qhcz.f k [] c1 c2 b) (bs [45],b):=by
 refine qhcz.v ?_
 simp (disch:=omega) only [S,LN]
 exact Ev.now _
theorem zsN {F G:Fu->Option (List (List Int)×Bool)} {L:List (List Int)} (D:List Wk) (n:Int) (t:Ar) (a:Ev F (L,true)) (b:Ev G (L,true)) (hl:L.length<=1000) (hL:zfA L):Ans (fun k=>(F k).bind fun t0=>(qhcz.f k t0.1 (bs [44]) (bs [32]) t0.2).bind fun t1=>some (t1.1,(t1.2,t))) (fun k=>(G k).bind fun t0=>(qguz.f k t0.1 t0.2).bind fun t1=>some (t1,(D,(n,t)))) D n t:=by
 by_cases h0:L=[]
 · subst h0
   refine ⟨bs [45],true,Ev.bind a (Ev.bind (zke _ _ _) (Ev.now _)),Ev.bind b (Ev.bind (v:=bs [45]) (qguz.v ?_) (Ev.now _))⟩
   simp (disch:=omega) only [S,LN]
   exact Ev.now _
 · have h0':0 < L.length:=List.length_pos_iff.2 h0
   refine ⟨bL (zm5 44 32 L),true,Ev.bind a (Ev.bind (zgb h0' hl (fun r hr=>by have:=hL r hr; exact ⟨by omega,this.2⟩) _) (Ev.now _)),Ev.bind b (Ev.bind (zjz h0' hl (fun r hr=>by have:=hL r hr; exact ⟨by omega,this.2⟩)) (Ev.now _))⟩
theorem zqC {F G:Fu->Option (List (List Int)×Bool)} {r:List (List Int)×Bool} (D:List Wk) (n:Int) (t:Ar) (a:Ev F r) (b:Ev G r) (hL:zfA r.1) (hl:r.1.length<=1000) (h1:r.2=true->0 < r.1.length) (h2:r.2=false->r.1=[]):Ans2 (fun k=>(F k).bind fun t0=>(qhcz.f k t0.1 (bs [47]) (bs [44]) t0.2).bind fun t1=>some t1) (fun k=>(G k).bind fun t0=>(qfoz.f k t0.1 t0.2).bind fun t1=>some (t1,(D,(n,t)))) D n t:=by
 obtain ⟨L,b0⟩:=r
 cases b0 with
 | false =>
  have:L=[]:=h2 rfl
  subst this
  refine ⟨bs [45],false,Ev.bind a (Ev.bind (zke _ _ _) (Ev.now _)),Ev.bind b (Ev.bind (v:=noB) (qfoz.v ?_) (Ev.now _))⟩
  simp only [S]
  exact Ev.now _
 | true =>
  refine ⟨bL (zm5 47 44 L),true,Ev.bind a (Ev.bind (zgb (h1 rfl) hl (fun r hr=>by have:=hL r hr; exact ⟨by omega,this.2⟩) _) (Ev.now _)),Ev.bind b (Ev.bind (zi5 hl hL) (Ev.now _))⟩
section
variable {D:List Wk} {n:Int} (hD:dOk D n=true)
include hD
theorem dlen:1<=D.length/\D.length<=8:=(zap.1 (zat.1 hD).1).1
theorem dmem:∀ w∈D,wOk w=true:=(zap.1 (zat.1 hD).1).2
theorem znf {X:List Wk} (hX:zao 8 wOk X=true):Act (bs [119,97,108,107,101,114,115]) (X,(0,(0,(0,(0,([],([],[]))))))) D n:=by
 have hl:=dlen hD
 have hn:=(zat.1 hD).2
 have e:dOk X n=true:=zat.2 ⟨hX,hn⟩
 refine zcX (X:=X) (m:=n) hD (qczz.v (by simp (disch:=omega) only [↓reduceIte,BQ,Nat.reduceMod,Nat.reduceBEq,LN,S]; exact zjk _ _ _)) ⟨_,qccz.v (by simp (disch:=omega) only [↓reduceIte,BQ,Nat.reduceMod,Nat.reduceBEq,LN,S]; exact Ev.bind (zn6 D X n (X,(0,(0,(0,(0,([],([],[])))))))) (Ev.now _)),?_⟩ (fun Z h line hr=>qhbz.v (Ev.bind hr (by simp (disch:=omega) only [↓reduceIte,BQ,Nat.reduceMod,Nat.reduceBEq,LN,S]; exact Ev.bind h (Ev.now _))))
 rw [if_pos hX,if_pos e]
theorem zqD (X:List Wk) (hX:X.length<=1000):Ev (fun k=>qbez.f k [D,X]) (D++X):=by
 have hl:=dlen hD
 have w1:W (0+1)=1:=by decide
 have w2:W (1+1)=2:=by decide
 have x0:∀ {β:Type} (x:Option β),ix 0 [D,X] x=x:=fun x=>S.2.1 (by decide) (show (0:Int) < 2 by decide)
 have x1:∀ {β:Type} (x:Option β),ix 1 [D,X] x=x:=fun x=>S.2.1 (by decide) (show (1:Int) < 2 by decide)
 have hln:ln [D,X]=2:=rfl
 refine qbez.v (qbez.v0 ?_)
 simp only [w1,x0,hln,LN]
 simp (disch:=omega) only [S]
 refine qbez.v0 ?_
 simp only [w2,x1,LN]
 simp (disch:=omega) only [S]
 refine qbez.v0 ?_
 simp only [hln]
 simp (disch:=omega) only [S]
 refine qbez.v1 ?_
 simp only [w1,x0,LN]
 simp (disch:=omega) only [S,LN]
 refine qbez.v1 ?_
 simp only [w2,x1,LN]
 simp (disch:=omega) only [S]
 refine qbez.v1 ?_
 simp (disch:=omega) only [S]
 exact Ev.now _
theorem zsO {X:List Wk} (hX:zao 8 wOk X=true):Act (bs [97,100,100]) (X,(0,(0,(0,(0,([],([],[]))))))) D n:=by
 have hl:=dlen hD
 have hn:=(zat.1 hD).2
 have hx:=(zap.1 hX).1
 have e:dOk (D++X) n=zao 8 wOk (D++X):=by unfold dOk; rw [decide_eq_true hn,Bool.and_true]
 refine zcX (X:=D++X) (m:=n) hD (qczz.v (by simp (disch:=omega) only [↓reduceIte,BQ,Nat.reduceMod,Nat.reduceBEq,LN,S]; exact Ev.bind (zqD hD X (by omega)) (zjk _ _ _))) ⟨_,qccz.v (by simp (disch:=omega) only [↓reduceIte,BQ,Nat.reduceMod,Nat.reduceBEq,LN,S]; exact Ev.bind (zn6 D (D++X) n (X,(0,(0,(0,(0,([],([],[])))))))) (Ev.now _)),?_⟩ (fun Z h line hr=>qhbz.v (Ev.bind hr (by simp (disch:=omega) only [↓reduceIte,BQ,Nat.reduceMod,Nat.reduceBEq,LN,S]; exact Ev.bind h (Ev.now _))))
 rw [e]
 split <;> rfl
theorem zrr {m:Nat} (hm:m<=999999):Act (bs [114,105,110,103]) ([],(0,(0,(0,(0,([],([],[(m:Int)]))))))) D n:=by
 have hl:=dlen hD
 have hn:=(zat.1 hD).2
 by_cases hm1:1<=(m:Int)/\(m:Int)<=1000
 · have e:dOk D (m:Int)=true:=zat.2 ⟨(zat.1 hD).1,hm1⟩
   refine zcX (X:=D) (m:=(m:Int)) hD (qczz.v (by simp (disch:=omega) only [↓reduceIte,BQ,Nat.reduceMod,Nat.reduceBEq,LN,S]; exact zjk _ _ _)) ⟨_,qccz.v (by simp (disch:=omega) only [↓reduceIte,BQ,Nat.reduceMod,Nat.reduceBEq,LN,S,zaq,decide_eq_true hm1]; exact Ev.bind (zdD (zat.1 hD).1) (Ev.now _)),?_⟩ (fun Z h line hr=>qhbz.v (Ev.bind hr (by simp (disch:=omega) only [↓reduceIte,BQ,Nat.reduceMod,Nat.reduceBEq,LN,S]; exact Ev.bind h (Ev.now _))))
   rw [if_pos e]
 · have e:¬ dOk D (m:Int)=true:=fun h=>hm1 (zat.1 h).2
   refine zcX (X:=D) (m:=(m:Int)) hD (qczz.v (by simp (disch:=omega) only [↓reduceIte,BQ,Nat.reduceMod,Nat.reduceBEq,LN,S]; exact zjk _ _ _)) ⟨_,qccz.v (by simp (disch:=omega) only [↓reduceIte,BQ,Nat.reduceMod,Nat.reduceBEq,LN,S,zaq,decide_eq_false hm1]; exact Ev.now _),?_⟩ (fun Z h line hr=>qhbz.v (Ev.bind hr (by simp (disch:=omega) only [↓reduceIte,BQ,Nat.reduceMod,Nat.reduceBEq,LN,S]; exact Ev.bind h (Ev.now _))))
   rw [if_neg e]; rfl
theorem zca (m:Nat):qbnz.f D n (m:Int)=some (decide (m < D.length)):=by
 have hl:=dlen hD
 unfold qbnz.f
 simp (disch:=omega) only [S,zar]
 by_cases h:m < D.length
 · rw [decide_eq_true h,decide_eq_true (by omega)]
 · rw [decide_eq_false h,decide_eq_false (by omega)]
theorem zn7:qbfz.f D=some D:=by
 have hl:=dlen hD
 unfold qbfz.f
 exact S.1 (by omega)
theorem zrs {m:Nat} (hm:m<=999999):Act (bs [116,117,114,110]) ([],(0,(0,(0,(0,([],([],[(m:Int)]))))))) D n:=by
 have hl:=dlen hD
 have hn:=(zat.1 hD).2
 by_cases hm1:m < D.length
 · have hw:=zaV.1 (dmem hD _ (zag (z:=(0,0)) hm1))
   have w1:(D.getD m (0,0)).2*(-1) = -(D.getD m (0,0)).2:=by omega
   have w2:0-(D.getD m (0,0)).2 = -(D.getD m (0,0)).2:=by omega
   have hok:zao 8 wOk (D.set m ((D.getD m (0,0)).1,-(D.getD m (0,0)).2))=true:=zap.2 ⟨by rw [List.length_set]; exact hl,fun w h=>by
    rcases List.mem_or_eq_of_mem_set h with h | h
    · exact dmem hD w h
    · rw [h]; exact zaV.2 ⟨hw.1,by simp only []; omega⟩⟩
   have e:dOk (D.set m ((D.getD m (0,0)).1,-(D.getD m (0,0)).2)) n=true:=zat.2 ⟨hok,hn⟩
   refine zcX (X:=D.set m ((D.getD m (0,0)).1,-(D.getD m (0,0)).2)) (m:=n) hD (qczz.v (by simp (disch:=omega) only [↓reduceIte,BQ,Nat.reduceMod,Nat.reduceBEq,LN,S,w1,zca hD,zn7 hD,decide_eq_true hm1]; exact zjk _ _ _)) ⟨_,qccz.v (by simp (disch:=omega) only [↓reduceIte,BQ,Nat.reduceMod,Nat.reduceBEq,LN,S,w2]; exact Ev.bind (zn6 D _ n ([],(0,(0,(0,(0,([],([],[(m:Int)])))))))) (Ev.now _)),?_⟩ (fun Z h line hr=>qhbz.v (Ev.bind hr (by simp (disch:=omega) only [↓reduceIte,BQ,Nat.reduceMod,Nat.reduceBEq,LN,S]; exact Ev.bind h (Ev.now _))))
   rw [if_pos e,if_pos hok]
 · refine zrZ hD (R:=((D,n),(bs [],(false,_)))) (qczz.v (by simp (disch:=omega) only [↓reduceIte,BQ,Nat.reduceMod,Nat.reduceBEq,LN,S,zca hD,decide_eq_false hm1]; exact Ev.now _)) rfl (fun line hr=>qhbz.v (Ev.bind hr (by simp (disch:=omega) only [↓reduceIte,BQ,Nat.reduceMod,Nat.reduceBEq,LN,S]; exact Ev.bind (v:=(noB,(D,(n,_)))) (qccz.v (by simp (disch:=omega) only [↓reduceIte,BQ,Nat.reduceMod,Nat.reduceBEq,LN,S]; exact Ev.now _)) (Ev.now _))))
theorem zrt {m:Nat} (hm:m<=999999):Act (bs [100,114,111,112]) ([],(0,(0,(0,(0,([],([],[(m:Int)]))))))) D n:=by
 have hl:=dlen hD
 have hn:=(zat.1 hD).2
 by_cases hm1:m < D.length
 · have lt:(D.drop (m+1)).take (D.length-(m+1))=D.drop (m+1):=List.take_of_length_le (by simp)
   have e:dOk (D.take m++D.drop (m+1)) n=zao 8 wOk (D.take m++D.drop (m+1)):=by unfold dOk; rw [decide_eq_true hn,Bool.and_true]
   refine zcX (X:=D.take m++D.drop (m+1)) (m:=n) hD (qczz.v (by simp (disch:=omega) only [↓reduceIte,BQ,Nat.reduceMod,Nat.reduceBEq,LN,S,zca hD,zn7 hD,decide_eq_true hm1]; exact zjk _ _ _)) ⟨_,qccz.v (by simp (disch:=omega) only [↓reduceIte,BQ,Nat.reduceMod,Nat.reduceBEq,LN,S,List.length_take,List.length_drop]; rw [lt]; exact Ev.bind (zn6 D _ n ([],(0,(0,(0,(0,([],([],[(m:Int)])))))))) (Ev.now _)),?_⟩ (fun Z h line hr=>qhbz.v (Ev.bind hr (by simp (disch:=omega) only [↓reduceIte,BQ,Nat.reduceMod,Nat.reduceBEq,LN,S]; exact Ev.bind h (Ev.now _))))
   rw [e]
   split <;> rfl
 · refine zrZ hD (R:=((D,n),(bs [],(false,_)))) (qczz.v (by simp (disch:=omega) only [↓reduceIte,BQ,Nat.reduceMod,Nat.reduceBEq,LN,S,zca hD,decide_eq_false hm1]; exact Ev.now _)) rfl (fun line hr=>qhbz.v (Ev.bind hr (by simp (disch:=omega) only [↓reduceIte,BQ,Nat.reduceMod,Nat.reduceBEq,LN,S]; exact Ev.bind (v:=(noB,(D,(n,_)))) (qccz.v (by simp (disch:=omega) only [↓reduceIte,BQ,Nat.reduceMod,Nat.reduceBEq,LN,S]; exact Ev.now _)) (Ev.now _))))
theorem zru  : Act (bs [115,104,111,119]) ([],(0,(0,(0,(0,([],([],[]))))))) D n:=by
 have hl:=dlen hD
 have hn:=(zat.1 hD).2
 refine ⟨((D,n),bL (wkT D)),hD,⟨_,qczz.v (by simp (disch:=omega) only [↓reduceIte,BQ,Nat.reduceMod,Nat.reduceBEq,LN,S]; exact zjk _ _ _),by unfold fin; rw [if_pos hD]; rfl⟩,fun line hr=>qhbz.v (Ev.bind hr (by simp (disch:=omega) only [↓reduceIte,BQ,Nat.reduceMod,Nat.reduceBEq,LN,S]; exact Ev.bind (qcez.v (by simp (disch:=omega) only [↓reduceIte,BQ,Nat.reduceMod,Nat.reduceBEq,LN,S]; exact Ev.bind (zdD (zat.1 hD).1) (Ev.now _))) (Ev.now _)))⟩
theorem zqE  : Act (bs [115,116,97,114,116]) ([],(0,(0,(0,(0,([],([],[]))))))) D n:=by
 have hl:=dlen hD
 have hn:=(zat.1 hD).2
 refine zbj hD (fun r h=>qczz.v (by simp (disch:=omega) only [↓reduceIte,BQ,Nat.reduceMod,Nat.reduceBEq,LN,S]; exact Ev.bind h (Ev.now _))) (fun Z h line hr=>qhbz.v (Ev.bind hr (by simp (disch:=omega) only [↓reduceIte,BQ,Nat.reduceMod,Nat.reduceBEq,LN,S]; exact Ev.bind h (Ev.now _)))) ?_
 obtain ⟨T,ok,x,y⟩:=zeL D n ([],(0,(0,(0,(0,([],([],[]))))))) (zjb (zat.1 hD).1 hn)
 exact ⟨T,ok,qezz.v (by simp (disch:=omega) only [↓reduceIte,BQ,Nat.reduceMod,Nat.reduceBEq,LN,S]; exact x),qcez.v (by simp (disch:=omega) only [↓reduceIte,BQ,Nat.reduceMod,Nat.reduceBEq,LN,S]; exact y)⟩
theorem zrv  : Act (bs [108,101,97,100]) ([],(0,(0,(0,(0,([],([],[]))))))) D n:=by
 have hl:=dlen hD
 have hn:=(zat.1 hD).2
 obtain ⟨L,l1,l2,l3,l4⟩:=zjD (zat.1 hD).1
 refine zbj hD (fun r h=>qczz.v (by simp (disch:=omega) only [↓reduceIte,BQ,Nat.reduceMod,Nat.reduceBEq,LN,S]; exact Ev.bind h (Ev.now _))) (fun Z h line hr=>qhbz.v (Ev.bind hr (by simp (disch:=omega) only [↓reduceIte,BQ,Nat.reduceMod,Nat.reduceBEq,LN,S]; exact Ev.bind h (Ev.now _)))) ?_
 obtain ⟨T,ok,x,y⟩:=zkX D n ([],(0,(0,(0,(0,([],([],[]))))))) l1 l2 (by omega) l4
 exact ⟨T,ok,qezz.v (by simp (disch:=omega) only [↓reduceIte,BQ,Nat.reduceMod,Nat.reduceBEq,LN,S]; exact x),qcez.v (by simp (disch:=omega) only [↓reduceIte,BQ,Nat.reduceMod,Nat.reduceBEq,LN,S]; exact y)⟩
theorem zrw  : Act (bs [108,97,115,116]) ([],(0,(0,(0,(0,([],([],[]))))))) D n:=by
 have hl:=dlen hD
 have hn:=(zat.1 hD).2
 obtain ⟨L,l1,l2,l3,l4⟩:=zjB (zat.1 hD).1
 refine zbj hD (fun r h=>qczz.v (by simp (disch:=omega) only [↓reduceIte,BQ,Nat.reduceMod,Nat.reduceBEq,LN,S]; exact Ev.bind h (Ev.now _))) (fun Z h line hr=>qhbz.v (Ev.bind hr (by simp (disch:=omega) only [↓reduceIte,BQ,Nat.reduceMod,Nat.reduceBEq,LN,S]; exact Ev.bind h (Ev.now _)))) ?_
 obtain ⟨T,ok,x,y⟩:=zkX D n ([],(0,(0,(0,(0,([],([],[]))))))) l1 l2 (by omega) l4
 exact ⟨T,ok,qezz.v (by simp (disch:=omega) only [↓reduceIte,BQ,Nat.reduceMod,Nat.reduceBEq,LN,S]; exact x),qcez.v (by simp (disch:=omega) only [↓reduceIte,BQ,Nat.reduceMod,Nat.reduceBEq,LN,S]; exact y)⟩
theorem ztQ {m:Nat} (hm:m<=999999):Act (bs [97,116]) ([],(0,(0,(0,(0,([],([],[(m:Int)]))))))) D n:=by
 have hl:=dlen hD
 have hn:=(zat.1 hD).2
 obtain ⟨L,l1,l2,l3,l4⟩:=zjC (zat.1 hD).1 (n:=(m:Int)) (d:=1) (by omega) (by omega)
 refine zbj hD (fun r h=>qczz.v (by simp (disch:=omega) only [↓reduceIte,BQ,Nat.reduceMod,Nat.reduceBEq,LN,S]; exact Ev.bind h (Ev.now _))) (fun Z h line hr=>qhbz.v (Ev.bind hr (by simp (disch:=omega) only [↓reduceIte,BQ,Nat.reduceMod,Nat.reduceBEq,LN,S]; exact Ev.bind h (Ev.now _)))) ?_
 obtain ⟨T,ok,x,y⟩:=zkX D n ([],(0,(0,(0,(0,([],([],[(m:Int)]))))))) l1 l2 (by omega) l4
 exact ⟨T,ok,qezz.v (by simp (disch:=omega) only [↓reduceIte,BQ,Nat.reduceMod,Nat.reduceBEq,LN,S]; exact x),qcez.v (by simp (disch:=omega) only [↓reduceIte,BQ,Nat.reduceMod,Nat.reduceBEq,LN,S]; exact y)⟩
theorem zqF  : Act (bs [112,97,105,114,115]) ([],(0,(0,(0,(0,([],([],[]))))))) D n:=by
 have hl:=dlen hD
 have hn:=(zat.1 hD).2
 obtain ⟨c,c1,c2,c3,c4⟩:=zge (zat.1 hD).1
 refine zbj hD (fun r h=>qczz.v (by simp (disch:=omega) only [↓reduceIte,BQ,Nat.reduceMod,Nat.reduceBEq,LN,S]; exact Ev.bind h (Ev.now _))) (fun Z h line hr=>qhbz.v (Ev.bind hr (by simp (disch:=omega) only [↓reduceIte,BQ,Nat.reduceMod,Nat.reduceBEq,LN,S]; exact Ev.bind h (Ev.now _)))) ⟨bL (Lib.itoa c),true,qezz.v (by simp (disch:=omega) only [↓reduceIte,BQ,Nat.reduceMod,Nat.reduceBEq,LN,S]; exact Ev.bind c1 (by simp only [zjy c3,S]; exact Ev.now _)),qcez.v (by simp (disch:=omega) only [↓reduceIte,BQ,Nat.reduceMod,Nat.reduceBEq,LN,S]; exact Ev.bind c2 (Ev.bind (zhs c4 c3 true) (Ev.now _)))⟩
theorem zqG  : Act (bs [102,105,114,115,116]) ([],(0,(0,(0,(0,([],([],[]))))))) D n:=by
 have hl:=dlen hD
 have hn:=(zat.1 hD).2
 obtain ⟨R,r1,r2,r3,r4⟩:=zhy (zat.1 hD).1
 refine zbj hD (fun r h=>qczz.v (by simp (disch:=omega) only [↓reduceIte,BQ,Nat.reduceMod,Nat.reduceBEq,LN,S]; exact Ev.bind h (Ev.now _))) (fun Z h line hr=>qhbz.v (Ev.bind hr (by simp (disch:=omega) only [↓reduceIte,BQ,Nat.reduceMod,Nat.reduceBEq,LN,S]; exact Ev.bind h (Ev.now _)))) ?_
 cases R with
 | nil=>exact ⟨bs [],false,qezz.v (by simp (disch:=omega) only [↓reduceIte,BQ,Nat.reduceMod,Nat.reduceBEq,LN,S]; exact Ev.bind r1 (by simp (disch:=omega) only [S,LN]; exact Ev.now _)),qcez.v (by simp (disch:=omega) only [↓reduceIte,BQ,Nat.reduceMod,Nat.reduceBEq,LN,S]; exact Ev.bind r2 (by simp (disch:=omega) only [S,LN]; exact Ev.now _))⟩
 | cons e R =>
  obtain ⟨i,j,x,y,rfl,hi,hj,_⟩:=r4 e (by simp)
  have hq:∀ z∈[i,j],i64 z:=fun z hz=>by
   unfold i64
   simp only [List.mem_cons,List.not_mem_nil,or_false] at hz
   omega
  have tk:List.take 2 [i,j,x,y]=[i,j]:=rfl
  refine ⟨bL (zm4 [i,j]),true,qezz.v ?_,qcez.v ?_⟩
  · simp (disch:=omega) only [↓reduceIte,BQ,Nat.reduceMod,Nat.reduceBEq,LN,S]
    refine Ev.bind r1 ?_
    simp (disch:=omega) only [S,LN,tk]
    exact Ev.bind (zeG (by simp) hq true) (Ev.now _)
  · simp (disch:=omega) only [↓reduceIte,BQ,Nat.reduceMod,Nat.reduceBEq,LN,S]
    refine Ev.bind r2 ?_
    simp (disch:=omega) only [S,LN,tk]
    exact Ev.bind (zdC (by simp) hq true) (Ev.now _)
theorem zrx {m m2:Nat} (hm:m<=999999) (hm2:m2<=999999):Act (bs [109,101,101,116]) ([],(0,(0,(0,(0,([],([],[(m:Int),(m2:Int)]))))))) D n:=by
 have hl:=dlen hD
 have hn:=(zat.1 hD).2
 refine zbj hD (fun r h=>qczz.v (by simp (disch:=omega) only [↓reduceIte,BQ,Nat.reduceMod,Nat.reduceBEq,LN,S]; exact Ev.bind h (Ev.now _))) (fun Z h line hr=>qhbz.v (Ev.bind hr (by simp (disch:=omega) only [↓reduceIte,BQ,Nat.reduceMod,Nat.reduceBEq,LN,S]; exact Ev.bind h (Ev.now _)))) ?_
 by_cases q1:m < D.length
 · by_cases q2:m2 < D.length
   · obtain ⟨T,ok,x,y⟩:=zhP D n ([],(0,(0,(0,(0,([],([],[(m:Int),(m2:Int)]))))))) (zht (dmem hD _ (zag (z:=(0,0)) q1)) (dmem hD _ (zag (z:=(0,0)) q2)))
     refine ⟨T,ok,qezz.v (by simp (disch:=omega) only [↓reduceIte,BQ,Nat.reduceMod,Nat.reduceBEq,LN,S,zca hD,decide_eq_true q1,decide_eq_true q2]; exact Ev.bind (qbxz.v (by simp (disch:=omega) only [↓reduceIte,BQ,Nat.reduceMod,Nat.reduceBEq,LN,S]; exact x)) (Ev.now _)),qcez.v (by simp (disch:=omega) only [↓reduceIte,BQ,Nat.reduceMod,Nat.reduceBEq,LN,S]; exact Ev.bind (qckz.v (by simp (disch:=omega) only [↓reduceIte,BQ,Nat.reduceMod,Nat.reduceBEq,LN,S]; exact y)) (Ev.now _))⟩
   · exact ⟨bs [],false,qezz.v (by simp (disch:=omega) only [↓reduceIte,BQ,Nat.reduceMod,Nat.reduceBEq,LN,S,zca hD,decide_eq_true q1,decide_eq_false q2]; exact Ev.now _),qcez.v (by simp (disch:=omega) only [↓reduceIte,BQ,Nat.reduceMod,Nat.reduceBEq,LN,S]; exact Ev.bind (v:=(noB,(D,(n,_)))) (qckz.v (by simp (disch:=omega) only [↓reduceIte,BQ,Nat.reduceMod,Nat.reduceBEq,LN,S]; exact Ev.now _)) (Ev.now _))⟩
 · exact ⟨bs [],false,qezz.v (by simp (disch:=omega) only [↓reduceIte,BQ,Nat.reduceMod,Nat.reduceBEq,LN,S,zca hD,decide_eq_false q1]; exact Ev.now _),qcez.v (by simp (disch:=omega) only [↓reduceIte,BQ,Nat.reduceMod,Nat.reduceBEq,LN,S]; exact Ev.bind (v:=(noB,(D,(n,_)))) (qckz.v (by simp (disch:=omega) only [↓reduceIte,BQ,Nat.reduceMod,Nat.reduceBEq,LN,S]; exact Ev.now _)) (Ev.now _))⟩
theorem zqH {m m2:Nat} (hm:m<=999999) (hm2:m2<=999999):Act (bs [119,104,101,114,101]) ([],(0,(0,(0,(0,([],([],[(m:Int),(m2:Int)]))))))) D n:=by
 have hl:=dlen hD
 have hn:=(zat.1 hD).2
 refine zbj hD (fun r h=>qczz.v (by simp (disch:=omega) only [↓reduceIte,BQ,Nat.reduceMod,Nat.reduceBEq,LN,S]; exact Ev.bind h (Ev.now _))) (fun Z h line hr=>qhbz.v (Ev.bind hr (by simp (disch:=omega) only [↓reduceIte,BQ,Nat.reduceMod,Nat.reduceBEq,LN,S]; exact Ev.bind h (Ev.now _)))) ?_
 by_cases q1:m < D.length
 · by_cases q2:m2 < D.length
   · obtain ⟨T,ok,x,y⟩:=zhP D n ([],(0,(0,(0,(0,([],([],[(m:Int),(m2:Int)]))))))) (zgP (dmem hD _ (zag (z:=(0,0)) q1)) (dmem hD _ (zag (z:=(0,0)) q2)))
     refine ⟨T,ok,qezz.v (by simp (disch:=omega) only [↓reduceIte,BQ,Nat.reduceMod,Nat.reduceBEq,LN,S,zca hD,decide_eq_true q1,decide_eq_true q2]; exact Ev.bind (qbxz.v (by simp (disch:=omega) only [↓reduceIte,BQ,Nat.reduceMod,Nat.reduceBEq,LN,S]; exact x)) (Ev.now _)),qcez.v (by simp (disch:=omega) only [↓reduceIte,BQ,Nat.reduceMod,Nat.reduceBEq,LN,S]; exact Ev.bind (qckz.v (by simp (disch:=omega) only [↓reduceIte,BQ,Nat.reduceMod,Nat.reduceBEq,LN,S]; exact y)) (Ev.now _))⟩
   · exact ⟨bs [],false,qezz.v (by simp (disch:=omega) only [↓reduceIte,BQ,Nat.reduceMod,Nat.reduceBEq,LN,S,zca hD,decide_eq_true q1,decide_eq_false q2]; exact Ev.now _),qcez.v (by simp (disch:=omega) only [↓reduceIte,BQ,Nat.reduceMod,Nat.reduceBEq,LN,S]; exact Ev.bind (v:=(noB,(D,(n,_)))) (qckz.v (by simp (disch:=omega) only [↓reduceIte,BQ,Nat.reduceMod,Nat.reduceBEq,LN,S]; exact Ev.now _)) (Ev.now _))⟩
 · exact ⟨bs [],false,qezz.v (by simp (disch:=omega) only [↓reduceIte,BQ,Nat.reduceMod,Nat.reduceBEq,LN,S,zca hD,decide_eq_false q1]; exact Ev.now _),qcez.v (by simp (disch:=omega) only [↓reduceIte,BQ,Nat.reduceMod,Nat.reduceBEq,LN,S]; exact Ev.bind (v:=(noB,(D,(n,_)))) (qckz.v (by simp (disch:=omega) only [↓reduceIte,BQ,Nat.reduceMod,Nat.reduceBEq,LN,S]; exact Ev.now _)) (Ev.now _))⟩
theorem zoX {m m2:Nat} (hm:m<=999999) (hm2:m2<=999999):Act (bs [97,114,111,117,110,100]) ([],(0,(0,(0,(0,([],([],[(m:Int),(m2:Int)]))))))) D n:=by
 have hl:=dlen hD
 have hn:=(zat.1 hD).2
 refine zbj hD (fun r h=>qczz.v (by simp (disch:=omega) only [↓reduceIte,BQ,Nat.reduceMod,Nat.reduceBEq,LN,S]; exact Ev.bind h (Ev.now _))) (fun Z h line hr=>qhbz.v (Ev.bind hr (by simp (disch:=omega) only [↓reduceIte,BQ,Nat.reduceMod,Nat.reduceBEq,LN,S]; exact Ev.bind h (Ev.now _)))) ?_
 by_cases q1:m < D.length
 · by_cases q2:m2 < D.length
   · obtain ⟨T,ok,x,y⟩:=zhP D n ([],(0,(0,(0,(0,([],([],[(m:Int),(m2:Int)]))))))) (zkP hn (dmem hD _ (zag (z:=(0,0)) q1)) (dmem hD _ (zag (z:=(0,0)) q2)))
     refine ⟨T,ok,qezz.v (by simp (disch:=omega) only [↓reduceIte,BQ,Nat.reduceMod,Nat.reduceBEq,LN,S,zca hD,decide_eq_true q1,decide_eq_true q2]; exact Ev.bind (qbxz.v (by simp (disch:=omega) only [↓reduceIte,BQ,Nat.reduceMod,Nat.reduceBEq,LN,S]; exact x)) (Ev.now _)),qcez.v (by simp (disch:=omega) only [↓reduceIte,BQ,Nat.reduceMod,Nat.reduceBEq,LN,S]; exact Ev.bind (qckz.v (by simp (disch:=omega) only [↓reduceIte,BQ,Nat.reduceMod,Nat.reduceBEq,LN,S]; exact y)) (Ev.now _))⟩
   · exact ⟨bs [],false,qezz.v (by simp (disch:=omega) only [↓reduceIte,BQ,Nat.reduceMod,Nat.reduceBEq,LN,S,zca hD,decide_eq_true q1,decide_eq_false q2]; exact Ev.now _),qcez.v (by simp (disch:=omega) only [↓reduceIte,BQ,Nat.reduceMod,Nat.reduceBEq,LN,S]; exact Ev.bind (v:=(noB,(D,(n,_)))) (qckz.v (by simp (disch:=omega) only [↓reduceIte,BQ,Nat.reduceMod,Nat.reduceBEq,LN,S]; exact Ev.now _)) (Ev.now _))⟩
 · exact ⟨bs [],false,qezz.v (by simp (disch:=omega) only [↓reduceIte,BQ,Nat.reduceMod,Nat.reduceBEq,LN,S,zca hD,decide_eq_false q1]; exact Ev.now _),qcez.v (by simp (disch:=omega) only [↓reduceIte,BQ,Nat.reduceMod,Nat.reduceBEq,LN,S]; exact Ev.bind (v:=(noB,(D,(n,_)))) (qckz.v (by simp (disch:=omega) only [↓reduceIte,BQ,Nat.reduceMod,Nat.reduceBEq,LN,S]; exact Ev.now _)) (Ev.now _))⟩
theorem zsP {m m2:Nat} (hm:m<=999999) (hm2:m2<=999999):Act (bs [103,97,112]) ([],(0,(0,(0,(0,([],([],[(m:Int),(m2:Int)]))))))) D n:=by
 have hl:=dlen hD
 have hn:=(zat.1 hD).2
 refine zbj hD (fun r h=>qczz.v (by simp (disch:=omega) only [↓reduceIte,BQ,Nat.reduceMod,Nat.reduceBEq,LN,S]; exact Ev.bind h (Ev.now _))) (fun Z h line hr=>qhbz.v (Ev.bind hr (by simp (disch:=omega) only [↓reduceIte,BQ,Nat.reduceMod,Nat.reduceBEq,LN,S]; exact Ev.bind h (Ev.now _)))) ?_
 by_cases q1:m < D.length
 · by_cases q2:m2 < D.length
   · obtain ⟨T,ok,x,y⟩:=zhP D n ([],(0,(0,(0,(0,([],([],[(m:Int),(m2:Int)]))))))) (zl4 hn (dmem hD _ (zag (z:=(0,0)) q1)) (dmem hD _ (zag (z:=(0,0)) q2)))
     refine ⟨T,ok,qezz.v (by simp (disch:=omega) only [↓reduceIte,BQ,Nat.reduceMod,Nat.reduceBEq,LN,S,zca hD,decide_eq_true q1,decide_eq_true q2]; exact Ev.bind (qbxz.v (by simp (disch:=omega) only [↓reduceIte,BQ,Nat.reduceMod,Nat.reduceBEq,LN,S]; exact x)) (Ev.now _)),qcez.v (by simp (disch:=omega) only [↓reduceIte,BQ,Nat.reduceMod,Nat.reduceBEq,LN,S]; exact Ev.bind (qckz.v (by simp (disch:=omega) only [↓reduceIte,BQ,Nat.reduceMod,Nat.reduceBEq,LN,S]; exact y)) (Ev.now _))⟩
   · exact ⟨bs [],false,qezz.v (by simp (disch:=omega) only [↓reduceIte,BQ,Nat.reduceMod,Nat.reduceBEq,LN,S,zca hD,decide_eq_true q1,decide_eq_false q2]; exact Ev.now _),qcez.v (by simp (disch:=omega) only [↓reduceIte,BQ,Nat.reduceMod,Nat.reduceBEq,LN,S]; exact Ev.bind (v:=(noB,(D,(n,_)))) (qckz.v (by simp (disch:=omega) only [↓reduceIte,BQ,Nat.reduceMod,Nat.reduceBEq,LN,S]; exact Ev.now _)) (Ev.now _))⟩
 · exact ⟨bs [],false,qezz.v (by simp (disch:=omega) only [↓reduceIte,BQ,Nat.reduceMod,Nat.reduceBEq,LN,S,zca hD,decide_eq_false q1]; exact Ev.now _),qcez.v (by simp (disch:=omega) only [↓reduceIte,BQ,Nat.reduceMod,Nat.reduceBEq,LN,S]; exact Ev.bind (v:=(noB,(D,(n,_)))) (qckz.v (by simp (disch:=omega) only [↓reduceIte,BQ,Nat.reduceMod,Nat.reduceBEq,LN,S]; exact Ev.now _)) (Ev.now _))⟩
theorem zoY {m m2:Nat} (hm:m<=999999) (hm2:m2<=999999):Act (bs [112,108,97,99,101,115]) ([],(0,(0,(0,(0,([],([],[(m:Int),(m2:Int)]))))))) D n:=by
 have hl:=dlen hD
 have hn:=(zat.1 hD).2
 refine zbj hD (fun r h=>qczz.v (by simp (disch:=omega) only [↓reduceIte,BQ,Nat.reduceMod,Nat.reduceBEq,LN,S]; exact Ev.bind h (Ev.now _))) (fun Z h line hr=>qhbz.v (Ev.bind hr (by simp (disch:=omega) only [↓reduceIte,BQ,Nat.reduceMod,Nat.reduceBEq,LN,S]; exact Ev.bind h (Ev.now _)))) ?_
 by_cases q1:m < D.length
 · by_cases q2:m2 < D.length
   · obtain ⟨rr,s1,s2,s3,s4,s5,s6⟩:=zjg hn (dmem hD _ (zag (z:=(0,0)) q1)) (dmem hD _ (zag (z:=(0,0)) q2))
     obtain ⟨T,ok,x,y⟩:=zqC D n ([],(0,(0,(0,(0,([],([],[(m:Int),(m2:Int)]))))))) s1 s2 s3 s4 s5 s6
     refine ⟨T,ok,qezz.v (by simp (disch:=omega) only [↓reduceIte,BQ,Nat.reduceMod,Nat.reduceBEq,LN,S,zca hD,decide_eq_true q1,decide_eq_true q2]; exact Ev.bind (qbxz.v (by simp (disch:=omega) only [↓reduceIte,BQ,Nat.reduceMod,Nat.reduceBEq,LN,S]; exact x)) (Ev.now _)),qcez.v (by simp (disch:=omega) only [↓reduceIte,BQ,Nat.reduceMod,Nat.reduceBEq,LN,S]; exact Ev.bind (qckz.v (by simp (disch:=omega) only [↓reduceIte,BQ,Nat.reduceMod,Nat.reduceBEq,LN,S]; exact y)) (Ev.now _))⟩
   · exact ⟨bs [],false,qezz.v (by simp (disch:=omega) only [↓reduceIte,BQ,Nat.reduceMod,Nat.reduceBEq,LN,S,zca hD,decide_eq_true q1,decide_eq_false q2]; exact Ev.now _),qcez.v (by simp (disch:=omega) only [↓reduceIte,BQ,Nat.reduceMod,Nat.reduceBEq,LN,S]; exact Ev.bind (v:=(noB,(D,(n,_)))) (qckz.v (by simp (disch:=omega) only [↓reduceIte,BQ,Nat.reduceMod,Nat.reduceBEq,LN,S]; exact Ev.now _)) (Ev.now _))⟩
 · exact ⟨bs [],false,qezz.v (by simp (disch:=omega) only [↓reduceIte,BQ,Nat.reduceMod,Nat.reduceBEq,LN,S,zca hD,decide_eq_false q1]; exact Ev.now _),qcez.v (by simp (disch:=omega) only [↓reduceIte,BQ,Nat.reduceMod,Nat.reduceBEq,LN,S]; exact Ev.bind (v:=(noB,(D,(n,_)))) (qckz.v (by simp (disch:=omega) only [↓reduceIte,BQ,Nat.reduceMod,Nat.reduceBEq,LN,S]; exact Ev.now _)) (Ev.now _))⟩
theorem zsQ {a l r d:Int}:Act (bs [100,111,103]) ([],(a,(l,(r,(d,([],([],[]))))))) D n:=by
 have hl:=dlen hD
 have hn:=(zat.1 hD).2
 refine zbj hD (fun r h=>qczz.v (by simp (disch:=omega) only [↓reduceIte,BQ,Nat.reduceMod,Nat.reduceBEq,LN,S]; exact Ev.bind h (Ev.now _))) (fun Z h line hr=>qhbz.v (Ev.bind hr (by simp (disch:=omega) only [↓reduceIte,BQ,Nat.reduceMod,Nat.reduceBEq,LN,S]; exact Ev.bind h (Ev.now _)))) ?_
 obtain ⟨T,ok,x,y⟩:=zeL D n ([],(a,(l,(r,(d,([],([],[]))))))) (zi8 a l r d)
 exact ⟨T,ok,qezz.v (by simp (disch:=omega) only [↓reduceIte,BQ,Nat.reduceMod,Nat.reduceBEq,LN,S]; exact Ev.bind (qdyz.v (by simp (disch:=omega) only [↓reduceIte,BQ,Nat.reduceMod,Nat.reduceBEq,LN,S]; exact x)) (Ev.now _)),qcez.v (by simp (disch:=omega) only [↓reduceIte,BQ,Nat.reduceMod,Nat.reduceBEq,LN,S]; exact y)⟩
theorem zsR {a l r d:Int}:Act (bs [114,117,110]) ([],(a,(l,(r,(d,([],([],[]))))))) D n:=by
 have hl:=dlen hD
 have hn:=(zat.1 hD).2
 refine zbj hD (fun r h=>qczz.v (by simp (disch:=omega) only [↓reduceIte,BQ,Nat.reduceMod,Nat.reduceBEq,LN,S]; exact Ev.bind h (Ev.now _))) (fun Z h line hr=>qhbz.v (Ev.bind hr (by simp (disch:=omega) only [↓reduceIte,BQ,Nat.reduceMod,Nat.reduceBEq,LN,S]; exact Ev.bind h (Ev.now _)))) ?_
 obtain ⟨T,ok,x,y⟩:=zeL D n ([],(a,(l,(r,(d,([],([],[]))))))) (zhu a l r d)
 exact ⟨T,ok,qezz.v (by simp (disch:=omega) only [↓reduceIte,BQ,Nat.reduceMod,Nat.reduceBEq,LN,S]; exact Ev.bind (qdyz.v (by simp (disch:=omega) only [↓reduceIte,BQ,Nat.reduceMod,Nat.reduceBEq,LN,S]; exact x)) (Ev.now _)),qcez.v (by simp (disch:=omega) only [↓reduceIte,BQ,Nat.reduceMod,Nat.reduceBEq,LN,S]; exact y)⟩
theorem zqI {a l r d:Int} {m:Nat}:Act (bs [97,112,97,114,116]) ([],(a,(l,(r,(d,([],([],[(m:Int)]))))))) D n:=by
 have hl:=dlen hD
 have hn:=(zat.1 hD).2
 refine zbj hD (fun r h=>qczz.v (by simp (disch:=omega) only [↓reduceIte,BQ,Nat.reduceMod,Nat.reduceBEq,LN,S]; exact Ev.bind h (Ev.now _))) (fun Z h line hr=>qhbz.v (Ev.bind hr (by simp (disch:=omega) only [↓reduceIte,BQ,Nat.reduceMod,Nat.reduceBEq,LN,S]; exact Ev.bind h (Ev.now _)))) ?_
 obtain ⟨T,ok,x,y⟩:=zeL D n ([],(a,(l,(r,(d,([],([],[(m:Int)]))))))) (zfy a l r d (m:Int))
 exact ⟨T,ok,qezz.v (by simp (disch:=omega) only [↓reduceIte,BQ,Nat.reduceMod,Nat.reduceBEq,LN,S]; exact Ev.bind (qdyz.v (by simp (disch:=omega) only [↓reduceIte,BQ,Nat.reduceMod,Nat.reduceBEq,LN,S]; exact x)) (Ev.now _)),qcez.v (by simp (disch:=omega) only [↓reduceIte,BQ,Nat.reduceMod,Nat.reduceBEq,LN,S]; exact y)⟩
theorem zry {X:List Wk}:Act (bs [109,101,97,110]) ([],(0,(0,(0,(0,(X,([],[]))))))) D n:=by
 have hl:=dlen hD
 have hn:=(zat.1 hD).2
 refine zbj hD (fun r h=>qczz.v (by simp (disch:=omega) only [↓reduceIte,BQ,Nat.reduceMod,Nat.reduceBEq,LN,S]; exact Ev.bind h (Ev.now _))) (fun Z h line hr=>qhbz.v (Ev.bind hr (by simp (disch:=omega) only [↓reduceIte,BQ,Nat.reduceMod,Nat.reduceBEq,LN,S]; exact Ev.bind h (Ev.now _)))) ?_
 obtain ⟨T,ok,x,y⟩:=zeL D n ([],(0,(0,(0,(0,(X,([],[]))))))) (zjA X)
 exact ⟨T,ok,qezz.v (by simp (disch:=omega) only [↓reduceIte,BQ,Nat.reduceMod,Nat.reduceBEq,LN,S]; exact Ev.bind (qdyz.v (by simp (disch:=omega) only [↓reduceIte,BQ,Nat.reduceMod,Nat.reduceBEq,LN,S]; exact x)) (Ev.now _)),qcez.v (by simp (disch:=omega) only [↓reduceIte,BQ,Nat.reduceMod,Nat.reduceBEq,LN,S]; exact y)⟩
theorem zrz {X:List Wk}:Act (bs [116,105,109,101]) ([],(0,(0,(0,(0,(X,([],[]))))))) D n:=by
 have hl:=dlen hD
 have hn:=(zat.1 hD).2
 refine zbj hD (fun r h=>qczz.v (by simp (disch:=omega) only [↓reduceIte,BQ,Nat.reduceMod,Nat.reduceBEq,LN,S]; exact Ev.bind h (Ev.now _))) (fun Z h line hr=>qhbz.v (Ev.bind hr (by simp (disch:=omega) only [↓reduceIte,BQ,Nat.reduceMod,Nat.reduceBEq,LN,S]; exact Ev.bind h (Ev.now _)))) ?_
 obtain ⟨T,ok,x,y⟩:=zeL D n ([],(0,(0,(0,(0,(X,([],[]))))))) (zi9 X)
 exact ⟨T,ok,qezz.v (by simp (disch:=omega) only [↓reduceIte,BQ,Nat.reduceMod,Nat.reduceBEq,LN,S]; exact Ev.bind (qdyz.v (by simp (disch:=omega) only [↓reduceIte,BQ,Nat.reduceMod,Nat.reduceBEq,LN,S]; exact x)) (Ev.now _)),qcez.v (by simp (disch:=omega) only [↓reduceIte,BQ,Nat.reduceMod,Nat.reduceBEq,LN,S]; exact y)⟩
theorem zrA {X:List Wk} {m m2:Nat}:Act (bs [110,101,101,100]) ([],(0,(0,(0,(0,(X,([],[(m:Int),(m2:Int)]))))))) D n:=by
 have hl:=dlen hD
 have hn:=(zat.1 hD).2
 refine zbj hD (fun r h=>qczz.v (by simp (disch:=omega) only [↓reduceIte,BQ,Nat.reduceMod,Nat.reduceBEq,LN,S]; exact Ev.bind h (Ev.now _))) (fun Z h line hr=>qhbz.v (Ev.bind hr (by simp (disch:=omega) only [↓reduceIte,BQ,Nat.reduceMod,Nat.reduceBEq,LN,S]; exact Ev.bind h (Ev.now _)))) ?_
 obtain ⟨T,ok,x,y⟩:=zeL D n ([],(0,(0,(0,(0,(X,([],[(m:Int),(m2:Int)]))))))) (zhv X (m:Int) (m2:Int))
 exact ⟨T,ok,qezz.v (by simp (disch:=omega) only [↓reduceIte,BQ,Nat.reduceMod,Nat.reduceBEq,LN,S]; exact Ev.bind (qdyz.v (by simp (disch:=omega) only [↓reduceIte,BQ,Nat.reduceMod,Nat.reduceBEq,LN,S]; exact x)) (Ev.now _)),qcez.v (by simp (disch:=omega) only [↓reduceIte,BQ,Nat.reduceMod,Nat.reduceBEq,LN,S]; exact y)⟩
theorem zoZ {m m2 m3:Nat}:Act (bs [99,104,97,110,99,101]) ([],(0,(0,(0,(0,([],([],[(m:Int),(m2:Int),(m3:Int)]))))))) D n:=by
 have hl:=dlen hD
 have hn:=(zat.1 hD).2
 refine zbj hD (fun r h=>qczz.v (by simp (disch:=omega) only [↓reduceIte,BQ,Nat.reduceMod,Nat.reduceBEq,LN,S]; exact Ev.bind h (Ev.now _))) (fun Z h line hr=>qhbz.v (Ev.bind hr (by simp (disch:=omega) only [↓reduceIte,BQ,Nat.reduceMod,Nat.reduceBEq,LN,S]; exact Ev.bind h (Ev.now _)))) ?_
 obtain ⟨T,ok,x,y⟩:=zeL D n ([],(0,(0,(0,(0,([],([],[(m:Int),(m2:Int),(m3:Int)]))))))) (zfz (m:Int) (m2:Int) (m3:Int))
 exact ⟨T,ok,qezz.v (by simp (disch:=omega) only [↓reduceIte,BQ,Nat.reduceMod,Nat.reduceBEq,LN,S]; exact Ev.bind (qdyz.v (by simp (disch:=omega) only [↓reduceIte,BQ,Nat.reduceMod,Nat.reduceBEq,LN,S]; exact x)) (Ev.now _)),qcez.v (by simp (disch:=omega) only [↓reduceIte,BQ,Nat.reduceMod,Nat.reduceBEq,LN,S]; exact y)⟩
theorem zo0 {X:List Wk} (hX:zao 6 vOk X=true):Act (bs [118,105,115,105,116,115]) ([],(0,(0,(0,(0,([],(X,[]))))))) D n:=by
 have hl:=dlen hD
 have hn:=(zat.1 hD).2
 obtain ⟨L,l1,l2,l3,l4⟩:=zoK hX
 refine zbj hD (fun r h=>qczz.v (by simp (disch:=omega) only [↓reduceIte,BQ,Nat.reduceMod,Nat.reduceBEq,LN,S]; exact Ev.bind h (Ev.now _))) (fun Z h line hr=>qhbz.v (Ev.bind hr (by simp (disch:=omega) only [↓reduceIte,BQ,Nat.reduceMod,Nat.reduceBEq,LN,S]; exact Ev.bind h (Ev.now _)))) ?_
 obtain ⟨T,ok,x,y⟩:=zsN D n ([],(0,(0,(0,(0,([],(X,[]))))))) l1 l2 (by omega) l3
 exact ⟨T,ok,qezz.v (by simp (disch:=omega) only [↓reduceIte,BQ,Nat.reduceMod,Nat.reduceBEq,LN,S]; exact Ev.bind (qdyz.v (by simp (disch:=omega) only [↓reduceIte,BQ,Nat.reduceMod,Nat.reduceBEq,LN,S]; exact x)) (Ev.now _)),qcez.v (by simp (disch:=omega) only [↓reduceIte,BQ,Nat.reduceMod,Nat.reduceBEq,LN,S]; exact y)⟩
theorem zo1 {X:List Wk} (hX:zao 6 vOk X=true):Act (bs [103,117,105,100,101,115]) ([],(0,(0,(0,(0,([],(X,[]))))))) D n:=by
 have hl:=dlen hD
 have hn:=(zat.1 hD).2
 obtain ⟨L,l1,l2,l3,l4⟩:=zgT hX
 refine zbj hD (fun r h=>qczz.v (by simp (disch:=omega) only [↓reduceIte,BQ,Nat.reduceMod,Nat.reduceBEq,LN,S]; exact Ev.bind h (Ev.now _))) (fun Z h line hr=>qhbz.v (Ev.bind hr (by simp (disch:=omega) only [↓reduceIte,BQ,Nat.reduceMod,Nat.reduceBEq,LN,S]; exact Ev.bind h (Ev.now _)))) ?_
 obtain ⟨T,ok,x,y⟩:=zkX D n ([],(0,(0,(0,(0,([],(X,[]))))))) l1 l2 (by omega) l4
 exact ⟨T,ok,qezz.v (by simp (disch:=omega) only [↓reduceIte,BQ,Nat.reduceMod,Nat.reduceBEq,LN,S]; exact Ev.bind (qdyz.v (by simp (disch:=omega) only [↓reduceIte,BQ,Nat.reduceMod,Nat.reduceBEq,LN,S]; exact x)) (Ev.now _)),qcez.v (by simp (disch:=omega) only [↓reduceIte,BQ,Nat.reduceMod,Nat.reduceBEq,LN,S]; exact y)⟩
end
theorem zqJ {n:Nat} {ok:Wk->Bool} {o:Option (List Wk)} (h:(zaW n ok o).2=true):zao n ok (zaW n ok o).1=true:=by
 cases o with
 | none=>cases h
 | some L =>
  unfold zaW at *
  by_cases c:zao n ok L=true
  · simp only [if_pos c]; exact c
  · simp only [if_neg c] at h; cases h
theorem zdW {w:List UInt8} {s t:Ar} (h:zaM 78 w s=some t):∃ m:Nat,m<=999999/\t=(s.1,(s.2.1,(s.2.2.1,(s.2.2.2.1,(s.2.2.2.2.1,(s.2.2.2.2.2.1,(s.2.2.2.2.2.2.1,s.2.2.2.2.2.2.2++[(m:Int)]))))))):=by
 rw [zne] at h
 have hb:=zrS w
 by_cases c:0<=l1r w
 · rw [if_pos c] at h
   injection h with h
   exact ⟨(l1r w).toNat,by omega,by rw [show (((l1r w).toNat:Nat):Int)=l1r w by omega]; exact h.symm⟩
 · rw [if_neg c] at h; cases h
theorem ztR {w:List UInt8} {s t:Ar} (h:zaM 87 w s=some t):∃ X,zao 8 wOk X=true/\t=(X,s.2):=by
 unfold zaM at h
 rw [if_pos rfl] at h
 split at h
 · rename_i c
   injection h with h
   exact ⟨_,zqJ c,h.symm⟩
 · cases h
theorem zsS {w:List UInt8} {s t:Ar} (h:zaM 67 w s=some t):∃ a l r d:Int,t=(s.1,(a,(l,(r,(d,s.2.2.2.2.2))))):=by
 unfold zaM at h
 rw [if_neg (by decide),if_pos rfl] at h
 split at h
 · injection h with h
   exact ⟨_,_,_,_,h.symm⟩
 · cases h
theorem zsT {w:List UInt8} {s t:Ar} (h:zaM 76 w s=some t):∃ X,t=(s.1,(s.2.1,(s.2.2.1,(s.2.2.2.1,(s.2.2.2.2.1,(X,s.2.2.2.2.2.2)))))):=by
 unfold zaM at h
 rw [if_neg (by decide),if_neg (by decide),if_pos rfl] at h
 split at h
 · injection h with h
   exact ⟨_,h.symm⟩
 · cases h
theorem ztS {w:List UInt8} {s t:Ar} (h:zaM 86 w s=some t):∃ X,zao 6 vOk X=true/\t=(s.1,(s.2.1,(s.2.2.1,(s.2.2.2.1,(s.2.2.2.2.1,(s.2.2.2.2.2.1,(X,s.2.2.2.2.2.2.2))))))):=by
 unfold zaM at h
 rw [if_neg (by decide),if_neg (by decide),if_neg (by decide),if_pos rfl] at h
 split at h
 · rename_i c
   injection h with h
   exact ⟨_,zqJ c,h.symm⟩
 · cases h
theorem zdX {c:Nat} {w:List UInt8} {s t:Ar} (h:zfE [c] [w] s=some t):zaM c w s=some t:=by
 have h':(zaM c w s).bind (fun s=>some s)=some t:=h
 cases e:zaM c w s with
 | none=>rw [e] at h'; cases h'
 | some u=>rw [e] at h'; exact h'
theorem zjl {c c2:Nat} {w w2:List UInt8} {s t:Ar} (h:zfE [c,c2] [w,w2] s=some t):∃ u,zaM c w s=some u/\zaM c2 w2 u=some t:=by
 have h':(zaM c w s).bind (zfE [c2] [w2])=some t:=h
 cases e:zaM c w s with
 | none=>rw [e] at h'; cases h'
 | some u=>rw [e] at h'; exact ⟨u,rfl,zdX h'⟩
theorem zr0 {c c2 c3:Nat} {w w2 w3:List UInt8} {s t:Ar} (h:zfE [c,c2,c3] [w,w2,w3] s=some t):∃ u v,zaM c w s=some u/\zaM c2 w2 u=some v/\zaM c3 w3 v=some t:=by
 have h':(zaM c w s).bind (zfE [c2,c3] [w2,w3])=some t:=h
 cases e:zaM c w s with
 | none=>rw [e] at h'; cases h'
 | some u=>rw [e] at h'; obtain ⟨v,a,b⟩:=zjl h'; exact ⟨u,v,rfl,a,b⟩
theorem len3 {α:Type} {l:List α} (h:l.length=3):∃ a b c,l=[a,b,c]:=by
 match l,h with
 | [a,b,c],_=>exact ⟨a,b,c,rfl⟩
def s0:Ar:=([],(0,(0,(0,(0,([],([],[])))))))
theorem zsU {D:List Wk} {n:Int} (hD:dOk D n=true) {e:List Nat×List Nat} (he:e∈zbV) {ws:List (List UInt8)} (hl:e.2.length=ws.length) {t:Ar} (ht:zfE e.2 ws s0=some t):Act (bs e.1) t D n:=by
 unfold zbV at he
 simp only [List.mem_cons,List.not_mem_nil,or_false] at he
 rcases he with rfl | rfl | rfl | rfl | rfl | rfl | rfl | rfl | rfl | rfl | rfl | rfl | rfl | rfl | rfl | rfl | rfl | rfl | rfl | rfl | rfl | rfl | rfl | rfl | rfl | rfl
 · obtain ⟨w,rfl⟩:=List.length_eq_one_iff.1 hl.symm
   obtain ⟨X,hX,rfl⟩:=ztR (zdX ht)
   exact znf hD hX
 · obtain ⟨w,rfl⟩:=List.length_eq_one_iff.1 hl.symm
   obtain ⟨X,hX,rfl⟩:=ztR (zdX ht)
   exact zsO hD hX
 · obtain ⟨w,rfl⟩:=List.length_eq_one_iff.1 hl.symm
   obtain ⟨m,hm,rfl⟩:=zdW (zdX ht)
   exact zrr hD hm
 · obtain ⟨w,rfl⟩:=List.length_eq_one_iff.1 hl.symm
   obtain ⟨m,hm,rfl⟩:=zdW (zdX ht)
   exact zrs hD hm
 · obtain ⟨w,rfl⟩:=List.length_eq_one_iff.1 hl.symm
   obtain ⟨m,hm,rfl⟩:=zdW (zdX ht)
   exact zrt hD hm
 · obtain ⟨w,rfl⟩:=List.length_eq_one_iff.1 hl.symm
   obtain ⟨m,hm,rfl⟩:=zdW (zdX ht)
   exact ztQ hD hm
 · have hw:ws=[]:=List.length_eq_zero_iff.1 hl.symm
   subst hw
   injection ht with ht
   subst ht
   exact zru hD
 · have hw:ws=[]:=List.length_eq_zero_iff.1 hl.symm
   subst hw
   injection ht with ht
   subst ht
   exact zqF hD
 · have hw:ws=[]:=List.length_eq_zero_iff.1 hl.symm
   subst hw
   injection ht with ht
   subst ht
   exact zqG hD
 · have hw:ws=[]:=List.length_eq_zero_iff.1 hl.symm
   subst hw
   injection ht with ht
   subst ht
   exact zrv hD
 · have hw:ws=[]:=List.length_eq_zero_iff.1 hl.symm
   subst hw
   injection ht with ht
   subst ht
   exact zrw hD
 · have hw:ws=[]:=List.length_eq_zero_iff.1 hl.symm
   subst hw
   injection ht with ht
   subst ht
   exact zqE hD
 · obtain ⟨w,w2,rfl⟩:=len2 hl.symm
   obtain ⟨u,h1,h2⟩:=zjl ht
   obtain ⟨m,hm,rfl⟩:=zdW h1
   obtain ⟨m2,hm2,rfl⟩:=zdW h2
   exact zrx hD hm hm2
 · obtain ⟨w,w2,rfl⟩:=len2 hl.symm
   obtain ⟨u,h1,h2⟩:=zjl ht
   obtain ⟨m,hm,rfl⟩:=zdW h1
   obtain ⟨m2,hm2,rfl⟩:=zdW h2
   exact zqH hD hm hm2
 · obtain ⟨w,w2,rfl⟩:=len2 hl.symm
   obtain ⟨u,h1,h2⟩:=zjl ht
   obtain ⟨m,hm,rfl⟩:=zdW h1
   obtain ⟨m2,hm2,rfl⟩:=zdW h2
   exact zoX hD hm hm2
 · obtain ⟨w,w2,rfl⟩:=len2 hl.symm
   obtain ⟨u,h1,h2⟩:=zjl ht
   obtain ⟨m,hm,rfl⟩:=zdW h1
   obtain ⟨m2,hm2,rfl⟩:=zdW h2
   exact zsP hD hm hm2
 · obtain ⟨w,w2,rfl⟩:=len2 hl.symm
   obtain ⟨u,h1,h2⟩:=zjl ht
   obtain ⟨m,hm,rfl⟩:=zdW h1
   obtain ⟨m2,hm2,rfl⟩:=zdW h2
   exact zoY hD hm hm2
 · obtain ⟨w,rfl⟩:=List.length_eq_one_iff.1 hl.symm
   obtain ⟨a,l,r,d,rfl⟩:=zsS (zdX ht)
   exact zsQ hD
 · obtain ⟨w,rfl⟩:=List.length_eq_one_iff.1 hl.symm
   obtain ⟨a,l,r,d,rfl⟩:=zsS (zdX ht)
   exact zsR hD
 · obtain ⟨w,w2,rfl⟩:=len2 hl.symm
   obtain ⟨u,h1,h2⟩:=zjl ht
   obtain ⟨a,l,r,d,rfl⟩:=zsS h1
   obtain ⟨m,hm,rfl⟩:=zdW h2
   exact zqI hD
 · obtain ⟨w,rfl⟩:=List.length_eq_one_iff.1 hl.symm
   obtain ⟨X,rfl⟩:=zsT (zdX ht)
   exact zry hD
 · obtain ⟨w,rfl⟩:=List.length_eq_one_iff.1 hl.symm
   obtain ⟨X,rfl⟩:=zsT (zdX ht)
   exact zrz hD
 · obtain ⟨w,w2,w3,rfl⟩:=len3 hl.symm
   obtain ⟨u,v,h1,h2,h3⟩:=zr0 ht
   obtain ⟨X,rfl⟩:=zsT h1
   obtain ⟨m,hm,rfl⟩:=zdW h2
   obtain ⟨m2,hm2,rfl⟩:=zdW h3
   exact zrA hD
 · obtain ⟨w,rfl⟩:=List.length_eq_one_iff.1 hl.symm
   obtain ⟨X,hX,rfl⟩:=ztS (zdX ht)
   exact zo0 hD hX
 · obtain ⟨w,rfl⟩:=List.length_eq_one_iff.1 hl.symm
   obtain ⟨X,hX,rfl⟩:=ztS (zdX ht)
   exact zo1 hD hX
 · obtain ⟨w,w2,w3,rfl⟩:=len3 hl.symm
   obtain ⟨u,v,h1,h2,h3⟩:=zr0 ht
   obtain ⟨m,hm,rfl⟩:=zdW h1
   obtain ⟨m2,hm2,rfl⟩:=zdW h2
   obtain ⟨m3,hm3,rfl⟩:=zdW h3
   exact zoZ hD
theorem zsV:∀ e∈zbV,∀ c∈e.2,zmb c:=by
 unfold zbV zmb
 decide
theorem zrB:∀ e∈zbV,e.2.length<=3:=by decide
theorem zn8 {D:List Wk} {n:Int} {l:List UInt8} (hl:l.length<=100000) {w0:List UInt8} {ws:List (List UInt8)} (hs:zac 32 l=w0::ws) {Sh:BA} (hS:qfvz.f (bL w0)=some Sh) {r:ztP}
    (h:(Sh.size:Int) ≠ (ws.length:Int)->r.1=bs []/\r.2.1=(D,(n,s0))/\r.2.2=false) (h':(Sh.size:Int)=(ws.length:Int)->Ev (fun k=>zkd k (bL w0::ws.map bL) Sh (ws.map bL) (ws.length:Int) 0 D n s0) r):Ev (fun k=>qgbz.f k D n (bL l)) r:=by
 have hb:=za6 32 l
 rw [hs,List.length_cons] at hb
 have hq:Ev (fun k=>qfnz.f k (bL l) 32) (bL w0::ws.map bL):=by
  have:=zaR (l:=l) (by omega) 32
  rw [hs] at this
  exact this
 have hlen:(bL w0::ws.map bL).length=ws.length+1:=by simp
 refine qgbz.v (Ev.bind hq ?_)
 simp (disch:=omega) only [S,rd0,hS,hlen]
 by_cases c:(Sh.size:Int)=(ws.length:Int)
 · have e:((Sh.size:Int) != (((ws.length+1:Nat):Int)-1))=false:=by rw [bne_eq_false_iff_eq]; omega
   have e2:List.drop 1 (bL w0::ws.map bL)=ws.map bL:=rfl
   have e3:(ws.map bL).length=ws.length:=List.length_map _
   simp (disch:=omega) only [S,e,e2,e3]
   exact h' c
 · have e:((Sh.size:Int) != (((ws.length+1:Nat):Int)-1))=true:=by rw [bne_iff_ne]; omega
   simp (disch:=omega) only [S,e]
   obtain ⟨r1,⟨r2,r3⟩,r4⟩:=r
   obtain ⟨z1,z2,z3⟩:=h c
   simp only at z1 z2 z3
   subst z1 z3
   cases z2
   exact Ev.now _
theorem zqK {D:List Wk} {n:Int} {l:List UInt8} (hl:l.length<=100000) {w0:List UInt8} {ws:List (List UInt8)} (hs:zac 32 l=w0::ws) {Fm:BA} (hS:qesz.f (bL w0)=some (Fm,true)) {r:(List Wk×Int)×BA}
    (h:(Fm.size:Int) ≠ (ws.length:Int)->r=((D,n),zoW)) (h':(Fm.size:Int)=(ws.length:Int)->Ev (fun k=>zmd k (bL w0::ws.map bL) Fm (ws.map bL) (ws.length:Int) 0 D n s0) r):Ev (fun k=>qfbz.f k D n (bL l)) r:=by
 have hb:=za6 32 l
 rw [hs,List.length_cons] at hb
 have hq:qfcz.f (bL l) (bs [32])=some (bL w0::ws.map bL):=by
  have:=za1 (l:=l) (by omega) 32
  rw [hs] at this
  exact this
 have hlen:(bL w0::ws.map bL).length=ws.length+1:=by simp
 refine qfbz.v ?_
 simp (disch:=omega) only [S,hq,rd0,hS,hlen]
 by_cases c:(Fm.size:Int)=(ws.length:Int)
 · have e:((Fm.size:Int) != (((ws.length+1:Nat):Int)-1))=false:=by rw [bne_eq_false_iff_eq]; omega
   have e2:List.drop 1 (bL w0::ws.map bL)=ws.map bL:=rfl
   have e3:(ws.map bL).length=ws.length:=List.length_map _
   simp (disch:=omega) only [S,e,e2,e3]
   exact h' c
 · have e:((Fm.size:Int) != (((ws.length+1:Nat):Int)-1))=true:=by rw [bne_iff_ne]; omega
   simp (disch:=omega) only [S,e]
   rw [h c]
   exact Ev.now _
theorem zkY {D:List Wk} {n:Int} {l:BA} {z} (h:Ev (fun k=>qgbz.f k D n l) (bs [],(z,false))):Ev (fun k=>qhbz.f k D n l) ((D,n),zoW):=by
 refine qhbz.v (Ev.bind h ?_)
 simp only [S]
 exact Ev.now _
theorem zme {D:List Wk} {n:Int} (hD:dOk D n=true) {l:List UInt8} (hl:l.length<=100000):∃ r:(List Wk×Int)×BA,dOk r.1.1 r.1.2=true/\Ev (fun k=>qfbz.f k D n (bL l)) r/\Ev (fun k=>qhbz.f k D n (bL l)) r:=by
 have hb:=za6 32 l
 have hm:=zb1 32 l
 cases hs:zac 32 l with
 | nil=>exact absurd hs (zbi 32 l)
 | cons w0 ws =>
  rw [hs,List.length_cons] at hb
  have hw:∀ w∈ws,w.length<=2000000:=fun w h=>by
   have:=hm w (by rw [hs]; exact List.mem_cons_of_mem _ h)
   omega
  rcases znd w0 with ⟨u1,u2⟩ | ⟨e,he,e1,e2,e3⟩
  · refine ⟨((D,n),zoW),hD,?_,zkY (z:=(D,(n,s0))) (zn8 hl hs u2 (fun _=>⟨rfl,rfl,rfl⟩) (fun hc=>?_))⟩
    · have hq:qfcz.f (bL l) (bs [32])=some (bL w0::ws.map bL):=by
       have:=za1 (l:=l) (by omega) 32
       rw [hs] at this
       exact this
      have hlen:(bL w0::ws.map bL).length=ws.length+1:=by simp
      refine qfbz.v ?_
      simp (disch:=omega) only [S,hq,rd0,u1,hlen]
      exact Ev.now _
    · rw [zgU] at hc
      simp only [List.length_cons,List.length_nil] at hc
      have hml:(ws.map bL).length=ws.length:=List.length_map _
      have hz:bat (bs [63]) (0:Int)=63:=by
       have:=zqz (fs:=[63]) (i:=0) (by decide)
       exact this
      have hz2:(bs [63]).size=1:=zgU [63]
      refine qgbz.v0 ?_
      have c0:iLt 0 (ws.length:Int)=true:=decide_eq_true (by omega)
      have c1:∀ {β:Type} (x:Option β),ix 0 (ws.map bL) x=x:=fun x=>S.2.1 (by decide) (by omega)
      have c2:∀ {β:Type} (x:Option β),gd (0 < sln (bs [63])) x=x:=fun x=>S.1 (by show (0:Int) < ((bs [63]).size:Int); omega)
      have c3:∀ {β:Type} (x:Option β),gd ((0:Int)<=0) x=x:=fun x=>S.1 (by decide)
      have d1:((63:Int) == 110)=false:=by decide
      have d2:((63:Int) == 119)=false:=by decide
      have d3:((63:Int) == 99)=false:=by decide
      have d4:((63:Int) == 108)=false:=by decide
      have d5:((63:Int) == 118)=false:=by decide
      simp only [c0,c1,c2,c3,hz,d1,d2,d3,d4,d5,if_true,Bool.false_eq_true,if_false]
      exact Ev.now _
  · rw [<- e1] at e2 e3
    have z1:=zgU e.2
    have z2:=zgU (e.2.map (· + 32))
    rw [List.length_map] at z2
    by_cases hc:e.2.length=ws.length
    · have h3:=zrB e he
      have hr:=zqB (w0:=w0) (D:=D) (n:=n) (zsV e he) hc (by omega) hw ws.length 0 (by omega) s0 (by decide)
      rw [List.drop_zero,List.drop_zero] at hr
      cases ht:zfE e.2 ws s0 with
      | none =>
       obtain ⟨a,z,b⟩:=hr.1 ht
       exact ⟨((D,n),zoW),hD,zqK hl hs e2 (fun h=>absurd (by omega) h) (fun _=>a),zkY (zn8 hl hs e3 (fun h=>absurd (by omega) h) (fun _=>b))⟩
      | some t =>
       obtain ⟨a,b⟩:=hr.2 t ht
       obtain ⟨r,r1,⟨R,r2,r3⟩,r4⟩:=zsU hD he hc ht
       rw [<- e1] at r2 r4
       refine ⟨r,r1,zqK hl hs e2 (fun h=>absurd (by omega) h) (fun _=>by rw [r3]; exact a R r2),r4 _ (zn8 hl hs e3 (fun h=>absurd (by omega) h) (fun _=>b))⟩
    · exact ⟨((D,n),zoW),hD,zqK hl hs e2 (fun _=>rfl) (fun h=>absurd (by omega) hc),zkY (z:=(D,(n,s0))) (zn8 hl hs e3 (fun _=>⟨rfl,rfl,rfl⟩) (fun h=>absurd (by omega) hc))⟩
theorem zo2 {c:UInt8}:∀ {l:List UInt8},c∈l->1 < (zac c l).length:=by
 intro l
 induction l with
 | nil=>intro h; simp at h
 | cons b l ih =>
  intro h
  have h0:=zbi c l
  unfold zac
  by_cases e:b=c
  · rw [if_pos e,List.length_cons]
    have:=List.length_pos_iff.2 h0
    omega
  · rw [if_neg e]
    have h':c∈l:=by
     rcases List.mem_cons.1 h with h | h
     · exact absurd h.symm e
     · exact h
    have:=ih h'
    cases hs:zac c l with
    | nil=>exact absurd hs h0
    | cons w ws=>rw [hs] at this; simpa using this
theorem zcY {l:List UInt8} {c:UInt8}:Lib.hasSuffix l [c]=true ↔ ∃ b,l=b++[c]:=by
 unfold Lib.hasSuffix
 rw [List.isSuffixOf_iff_suffix]
 constructor
 · rintro ⟨b,h⟩; exact ⟨b,h.symm⟩
 · rintro ⟨b,h⟩; exact ⟨b,h.symm⟩
theorem zrC (b:List UInt8):zb9 (bL (b++[10]))=bL b:=by
 have h:Lib.hasSuffix (b++[10]) [10]=true:=zcY.2 ⟨b,rfl⟩
 unfold zb9 trimB Lib.trimSuffix
 rw [zj7,show (ByteArray.data ⟨#[(10:UInt8)]⟩).toList=[10] from rfl,if_pos h]
 simp [bL]
theorem zmf {c:UInt8}:∀ {l:List UInt8},c∈l->∃ a r,l=a++c::r/\c ∉ a/\Lib.indexByte l c=(a.length:Int)
 | b::l,h=>by
  by_cases hb:b=c
  · subst hb
    exact ⟨[],l,rfl,by simp,by simp [Lib.indexByte]⟩
  · have hl:c∈l:=by rcases List.mem_cons.1 h with h | h; exact absurd h.symm hb; exact h
    obtain ⟨a,r,rfl,h1,h2⟩:=zmf hl
    refine ⟨b::a,r,rfl,by simp [h1,Ne.symm hb],?_⟩
    have e1:(b == c)=false:=beq_false_of_ne hb
    unfold Lib.indexByte
    rw [h2,e1]
    have e2:((a.length:Int) == -1)=false:=beq_false_of_ne (by omega)
    simp [e2]
theorem zjm (c:UInt8):∀ l:List UInt8,(zac c l).length=Lib.countByte l c+1
 | []=>by simp [zac,Lib.countByte]
 | b::l=>by
  have ih:=zjm c l
  unfold zac
  unfold Lib.countByte at *
  by_cases hb:b=c
  · subst hb
    rw [if_pos rfl,List.length_cons,ih,List.count_cons_self]
  · rw [if_neg hb,List.count_cons_of_ne hb]
    split
    · rename_i h; exact absurd h (zbi c l)
    · rename_i w ws h
      rw [h] at ih
      simpa using ih
theorem zgV (c:UInt8):∀ l:List UInt8,((zac c l).getLast (zbi c l)=[] ↔ l=[] \/ Lib.hasSuffix l [c]=true)
 | []=>by simp [zac]
 | b::l=>by
  have ih:=zgV c l
  have hx:Lib.hasSuffix (b::l) [c]=true ↔ (l=[]/\b=c) \/ Lib.hasSuffix l [c]=true:=by
   rw [zcY,zcY]
   constructor
   · rintro ⟨a,h⟩
     cases a with
     | nil=>simp at h; exact .inl ⟨h.2,h.1⟩
     | cons x a=>simp at h; exact .inr ⟨a,h.2⟩
   · rintro (⟨rfl,rfl⟩ | ⟨a,rfl⟩)
     · exact ⟨[],rfl⟩
     · exact ⟨b::a,rfl⟩
  rw [hx]
  obtain ⟨w,ws,h⟩ : ∃ w ws,zac c l=w::ws:=by
   cases h:zac c l with
   | nil=>exact absurd h (zbi c l)
   | cons w ws=>exact ⟨w,ws,rfl⟩
  by_cases hb:b=c
  · subst hb
    have e:zac b (b::l)=[]::zac b l:=by rw [zac,if_pos rfl]
    simp only [e]
    rw [List.getLast_cons (zbi b l),ih]
    simp
  · have e:zac c (b::l)=(b::w)::ws:=by rw [zac,if_neg hb,h]
    simp only [e]
    simp only [h] at ih
    cases ws with
    | nil =>
     have hl:c ∉ l:=fun hc=>by have:=zo2 hc; rw [h] at this; simp at this
     simp only [List.getLast_singleton]
     have:¬ Lib.hasSuffix l [c]=true:=fun hs=>by obtain ⟨a,rfl⟩:=zcY.1 hs; exact hl (by simp)
     simp [this,hb]
    | cons y ys =>
     rw [List.getLast_cons (by simp)] at ih ⊢
     rw [ih]
     have:l ≠ []:=fun hl=>by subst hl; simp [zac] at h
     simp [this]
theorem zjn:∀ (n:Nat) (l:List UInt8),l.length<=n->(l=[] \/ Lib.hasSuffix l [10]=true)->(zbh n (bL l)).map zb9=((zac 10 l).dropLast).map bL
 | 0,l,h,_=>by
  have:l=[]:=List.eq_nil_of_length_eq_zero (by omega)
  subst this
  simp [zbh,zac]
 | n+1,l,h,hs=>by
  by_cases hz:l=[]
  · subst hz
    have:(bL []).size=0:=rfl
    simp [zbh,zac,this]
  · have hs':Lib.hasSuffix l [10]=true:=by rcases hs with hs | hs; exact absurd hs hz; exact hs
    obtain ⟨b,hb⟩:=zcY.1 hs'
    have hm:(10:UInt8)∈l:=by rw [hb]; simp
    obtain ⟨a,r,hl,ha,hi⟩:=zmf hm
    have hsz:¬ (bL l).size=0:=by rw [zam]; intro h0; exact hz (List.eq_nil_of_length_eq_zero h0)
    have hr:r=[] \/ Lib.hasSuffix r [10]=true:=by
     by_cases hr:r=[]
     · exact .inl hr
     · refine .inr (zcY.2 ?_)
       rw [hl] at hb
       obtain ⟨r',x,rfl⟩ : ∃ r' x,r=r' ++ [x]:=⟨r.dropLast,r.getLast hr,(List.dropLast_concat_getLast hr).symm⟩
       have e:a++10::(r' ++ [x])=(a++10::r')++[x]:=by simp
       rw [e] at hb
       have h2:=(List.append_inj' hb rfl).2
       exact ⟨r',by rw [h2]⟩
    have ih:=zjn n r (by rw [hl] at h; simp at h; omega) hr
    unfold zbh
    rw [if_neg hsz,zj7,hi,if_pos (by omega),zmX,zcW,zcW,zam]
    have e0:l=(a++[10])++r:=by rw [hl]; simp
    have e1:(l.take (a.length+1)).drop 0=a++[10]:=by rw [List.drop_zero,e0]; exact List.take_left' (by simp)
    have e2:(l.take l.length).drop (a.length+1)=r:=by rw [List.take_length,e0]; exact List.drop_left' (by simp)
    rw [e1,e2,List.map_cons,zrC,ih,hl,zgH 10 r a ha,List.dropLast_cons_of_ne_nil (zbi 10 r)]
    rfl
theorem zkZ (l:List UInt8):zcD (bL l)=true ↔ l.length<=3000/\(zac 10 l).getLast (zbi 10 l)=[]/\(zac 10 l).length<=51:=by
 unfold zcD
 rw [zj7,zam,zgV,zjm]
 simp only [Bool.and_eq_true,Bool.or_eq_true,decide_eq_true_eq]
 constructor
 · rintro ⟨h1,h2,h3⟩
   exact ⟨h1,h2.imp (fun h=>List.eq_nil_of_length_eq_zero h) id,by omega⟩
 · rintro ⟨h1,h2,h3⟩
   exact ⟨h1,h2.imp (fun h=>by rw [h]; rfl) id,by omega⟩
theorem zkf {l:List UInt8} (h:zcD (bL l)=true):zea (bL l)=((zac 10 l).dropLast).map bL:=by
 unfold zea
 rw [zam]
 exact zjn _ l (Nat.le_refl _) ((zgV 10 l).1 ((zkZ l).1 h).2.1)
theorem zo3 {st:Dk->BA->Dk×BA} (hst:∀ (D:List Wk) (n:Int) (l:List UInt8),dOk D n=true->l.length<=100000->dOk (st (D,n) (bL l)).1.1 (st (D,n) (bL l)).1.2=true/\Ev (fun k=>qhbz.f k D n (bL l)) (st (D,n) (bL l))) (xs:List (List UInt8)) (hx:∀ x∈xs,x.length<=100000) (hl:xs.length<=2000000) :
    ∀ (m i:Nat) (d:Dk) (acc:List BA),i+m=xs.length->acc.length=i->dOk d.1 d.2=true ->
     Ev (fun k=>qhlz.l0 k (xs.map bL) (xs.length:Int) (i:Int) 0 d.1 d.2 acc) ((zbo st d ((xs.drop i).map bL)).1,(acc++(zbo st d ((xs.drop i).map bL)).2,true)):=by
 have hln:(xs.map bL).length=xs.length:=List.length_map _
 intro m
 induction m with
 | zero =>
  intro i d acc hi ha hd
  rw [show i=xs.length by omega,List.drop_length]
  refine qhlz.v0 ?_
  simp (disch:=omega) only [S]
  simp only [zbo,List.map_nil,List.append_nil]
  exact Ev.now _
 | succ m ih =>
  intro i d acc hi ha hd
  have hx':(xs.getD i []).length<=100000:=hx _ (zag (by omega))
  obtain ⟨h1,h2⟩:=hst d.1 d.2 (xs.getD i []) hd hx'
  have e:xs.drop i=xs.getD i []::xs.drop (i+1):=zay [] (by omega)
  have h:=ih (i+1) (st d (bL (xs.getD i []))).1 (acc++[(st d (bL (xs.getD i []))).2]) (by omega) (by simp [ha]) h1
  rw [e,List.map_cons]
  simp only [zbo]
  rw [List.append_assoc,List.singleton_append] at h
  refine qhlz.v0 ?_
  simp (disch:=omega) only [S,hln,ha,zeD]
  exact Ev.bind h2 h
theorem zsW:qenz.f=some ([((0:Int),(3:Int)),(10,-2)],10):=rfl
theorem zrD {st:Dk->BA->Dk×BA} (hst:∀ (D:List Wk) (n:Int) (l:List UInt8),dOk D n=true->l.length<=100000->dOk (st (D,n) (bL l)).1.1 (st (D,n) (bL l)).1.2=true/\Ev (fun k=>qhbz.f k D n (bL l)) (st (D,n) (bL l))) {l:List UInt8} (hl:l.length<=2000000) :
    Ev (fun k=>qhlz.f k (bL l)) (((svOf st).D (bL l),(svOf st).n (bL l)),((svOf st).r (bL l),(svOf st).b (bL l))):=by
 have hsz:sln (bL l)=(l.length:Int):=by simp only [sln,zam]
 have hsp:Ev (fun k=>qfnz.f k (bL l) 10) ((zac 10 l).map bL):=zaR hl 10
 have hln:ln ((zac 10 l).map bL)=((zac 10 l).length:Int):=by simp only [ln,List.length_map]
 have hne:=zbi 10 l
 have hpos:0 < (zac 10 l).length:=List.length_pos_iff.2 hne
 have hcl:=za6 10 l
 have hk:W (((zac 10 l).length:Int)-1)=(((zac 10 l).length-1:Nat):Int):=by rw [w64 (by omega) (by omega)]; omega
 have hlast:(zac 10 l).getD ((zac 10 l).length-1) []=(zac 10 l).getLast hne:=by
  rw [List.getD_eq_getElem?_getD,List.getLast_eq_getElem,List.getElem?_eq_getElem (by omega)]; rfl
 have hbad:zcD (bL l)=false->(((svOf st).D (bL l),(svOf st).n (bL l)),((svOf st).r (bL l),(svOf st).b (bL l)))=((([],0),([],false)):(List Wk×Int)×(List BA×Bool)):=fun h=>by
  unfold svOf; simp only [h]; rfl
 have hgi:=zkZ l
 refine qhlz.v ?_
 by_cases h1:l.length<=3000
 · have c1:iGt (l.length:Int) 3000=false:=decide_eq_false (by omega)
   simp only [hsz,c1,Bool.false_eq_true,if_false]
   refine Ev.bind hsp ?_
   have hlm:((zac 10 l).map bL).length=(zac 10 l).length:=List.length_map _
   simp only [hln,hk]
   have hix:∀ {β:Type} {x:Option β},ix (((zac 10 l).length-1:Nat):Int) ((zac 10 l).map bL) x=x:=fun {β x}=>by
    simp (disch:=omega) only [S,hlm]
   refine Ev.eq (fun k=>hix) ?_
   have hrd:rd (bs []) ((zac 10 l).map bL) (((zac 10 l).length-1:Nat):Int)=bL ((zac 10 l).getLast hne):=by rw [ztE,hlast]
   simp only [hrd]
   have hbs:bs []=bL []:=rfl
   simp only [hbs,zp7]
   by_cases h2:(zac 10 l).getLast hne=[]
   · by_cases h3:(zac 10 l).length<=51
     · have hg:zcD (bL l)=true:=hgi.2 ⟨h1,h2,h3⟩
       have c3:iGt (((zac 10 l).length-1:Nat):Int) 50=false:=decide_eq_false (by omega)
       simp only [decide_eq_true h2]
       simp only [Bool.not_true,Bool.false_eq_true,if_false,c3,zsW,Option.bind_some]
       have hdrop:List.take (Int.toNat (((zac 10 l).length-1:Nat):Int)) ((zac 10 l).map bL)=((zac 10 l).dropLast).map bL:=by
        rw [zmX,<- List.map_take,List.dropLast_eq_take]
       simp only [hdrop]
       have hdl:((zac 10 l).dropLast).length=(zac 10 l).length-1:=List.length_dropLast
       have h:=zo3 hst (zac 10 l).dropLast (fun x hx=>by have:=zb1 10 l x ((List.dropLast_sublist _).subset hx); omega) (by omega) ((zac 10 l).dropLast).length 0 d00 [] (by omega) rfl rfl
       have hln2:ln (((zac 10 l).dropLast).map bL)=(((zac 10 l).dropLast).length:Int):=by simp only [ln,List.length_map]
       simp only [hln2]
       have hgd:∀ {β:Type} {x:Option β},gd (0<=(((zac 10 l).length-1:Nat):Int)) (gd ((((zac 10 l).length-1:Nat):Int)<=((zac 10 l).length:Int)) x)=x:=fun {β x}=>by
        simp (disch:=omega) only [S]
       have hv:(((svOf st).D (bL l),(svOf st).n (bL l)),((svOf st).r (bL l),(svOf st).b (bL l)))=((zbo st d00 (((zac 10 l).dropLast).map bL)).1,((zbo st d00 (((zac 10 l).dropLast).map bL)).2,true)):=by
        unfold svOf
        simp only [hg,zkf hg,cond_true]
       rw [hv]
       refine Ev.eq (fun k=>hgd) ?_
       exact h
     · have hg:zcD (bL l)=false:=by cases hq:zcD (bL l) with | false=>rfl | true=>exact absurd (hgi.1 hq).2.2 h3
       have c3:iGt (((zac 10 l).length-1:Nat):Int) 50=true:=decide_eq_true (by omega)
       rw [hbad hg]
       simp only [decide_eq_true h2]
       simp only [Bool.not_true,Bool.false_eq_true,if_false,c3,if_true]
       exact Ev.now _
   · have hg:zcD (bL l)=false:=by cases hq:zcD (bL l) with | false=>rfl | true=>exact absurd (hgi.1 hq).2.1 h2
     rw [hbad hg]
     simp only [decide_eq_false h2]
     simp only [Bool.not_false,if_true]
     exact Ev.now _
 · have hg:zcD (bL l)=false:=by cases hq:zcD (bL l) with | false=>rfl | true=>exact absurd (hgi.1 hq).1 h1
   have c1:iGt (l.length:Int) 3000=true:=decide_eq_true (by omega)
   rw [hbad hg]
   simp only [hsz,c1,if_true]
   exact Ev.now _
theorem zrE (st:Dk->BA->Dk×BA) (l:List UInt8):((svOf st).r (bL l)).length<=3000:=by
 unfold svOf
 cases hg:zcD (bL l) with
 | false=>simp [hg]
 | true =>
  simp only [hg,cond_true]
  rw [scRun_length,zkf hg,List.length_map,List.length_dropLast]
  have:=(zkZ l).1 hg
  have:=za6 10 l
  omega
def zsX [Inhabited Sv]:Prop:=∃ st:Dk->BA->Dk×BA,sv=svOf st /\ ∀ (D:List Wk) (n:Int) (l:List UInt8),dOk D n=true->l.length<=100000 ->
 dOk (st (D,n) (bL l)).1.1 (st (D,n) (bL l)).1.2=true/\Ev (fun k=>qfbz.f k D n (bL l)) (st (D,n) (bL l))/\Ev (fun k=>qhbz.f k D n (bL l)) (st (D,n) (bL l))
theorem zqL (h:zsX) (l:List UInt8) (hl:l.length<=1048576):sv.ok (bL l)=true/\(sv.r (bL l)).length<=3000/\(sv.b (bL l)=false->sv.r (bL l)=[])/\Ev (fun k=>qhlz.f k (bL l)) ((sv.D (bL l),sv.n (bL l)),(sv.r (bL l),sv.b (bL l))):=by
 obtain ⟨st,e,hst⟩:=h
 rw [e]
 refine ⟨rfl,zrE st l,fun hb=>?_,zrD (fun D n l hD hl=>⟨(hst D n l hD hl).1,(hst D n l hD hl).2.2⟩) (by omega)⟩
 have hb':zcD (bL l)=false:=hb
 unfold svOf
 simp only [hb',cond_false]
section
variable {l:List UInt8} (h1:sv.ok (bL l)=true)
include h1
theorem zng:qekz.f (bL l)=some ((sv.D (bL l),sv.n (bL l)),(sv.r (bL l),sv.b (bL l))):=by
 unfold qekz.f zj4
 rw [h1]; rfl
theorem znh:qeez.f (bL l)=some (sv.r (bL l),sv.b (bL l)):=by
 unfold qeez.f
 rw [zng h1]; rfl
end
theorem zk0:∀ (n:Nat) (x:BA),x.size+n<=100000->∃ r,Ev (fun k=>qeyz.l0 k (n:Int) x) r:=by
 intro n
 induction n using Nat.strongRecOn with
 | _ n ih =>
  intro x hx
  by_cases h0:n=0
  · subst h0
    refine ⟨(bs [109])++x,qeyz.v0 ?_⟩
    have c:iGt ((0:Nat):Int) 0=false:=rfl
    have g:1+x.size<=maxLen:=by simp only [maxLen]; omega
    simp only [c,Bool.false_eq_true,if_false]
    simp only [gd,if_pos g]
    exact Ev.now _
  · have c:iGt (n:Int) 0=true:=decide_eq_true (by omega)
    have e:W (Int.tdiv (n:Int) 10)=((n / 10:Nat):Int):=by
     have:Int.tdiv (n:Int) 10=((n / 10:Nat):Int):=rfl
     rw [this,w64 (by omega) (by omega)]
    have hb:∀ z:Int,(zbY [z]).size=1:=fun z=>by simp [zbY,ByteArray.size]
    obtain ⟨r,hr⟩:=ih (n / 10) (by omega) ((zbY [(IntKind.wrap .u8 (W (48+(Int.tmod (n:Int) 10))))])++x) (by rw [ByteArray.size_append,hb]; omega)
    have g:(zbY [(IntKind.wrap .u8 (W (48+(Int.tmod (n:Int) 10))))]).size+x.size<=maxLen:=by rw [hb]; simp only [maxLen]; omega
    refine ⟨r,qeyz.v0 ?_⟩
    simp only [c,if_true,e]
    simp only [gd,if_pos g]
    exact hr
theorem zk1:∃ f:Nat->BA,∀ n:Nat,n<=4000->Ev (fun k=>qeyz.f k (n:Int)) (f n):=by
 have h:∀ n:Nat,∃ r,n<=4000->Ev (fun k=>qeyz.f k (n:Int)) r:=fun n=>by
  by_cases hn:n<=4000
  · by_cases h0:n=0
    · subst h0
      exact ⟨bs [109,48],fun _=>qeyz.v (by
       have c:iLe ((0:Nat):Int) 0=true:=rfl
       simp only [c,if_true]
       exact Ev.now _)⟩
    · obtain ⟨r,hr⟩:=zk0 n (bs []) (by show 0+n<=100000; omega)
      have c:iLe (n:Int) 0=false:=decide_eq_false (by omega)
      exact ⟨r,fun _=>qeyz.v (by simp only [c,Bool.false_eq_true,if_false]; exact hr)⟩
  · exact ⟨bs [],fun h=>absurd h hn⟩
 exact ⟨fun n=>Classical.choose (h n),fun n hn=>Classical.choose_spec (h n) hn⟩
theorem zmg {l:List BA} (h:l.length<=2000000):Ev (fun k=>qejz.f k l l) true:=by
 have key:∀ (d i:Nat),i+d=l.length->Ev (fun k=>qejz.l0 k l l (i:Int)) true:=by
  intro d
  induction d with
  | zero =>
   intro i hi
   rw [show i=l.length by omega]
   refine qejz.v0 ?_
   simp (disch:=omega) only [S]
   exact Ev.now _
  | succ d ih =>
   intro i hi
   have h:=ih (i+1) (by omega)
   refine qejz.v0 ?_
   simp (disch:=omega) only [S,znS]
   exact h
 refine qejz.v ?_
 simp (disch:=omega) only [S]
 exact key l.length 0 (by omega)
def mkT (f:Nat->BA) (i:Nat):List BA:=(List.range i).map fun j:Nat=>f (1+j)
theorem zk2 (f:Nat->BA) (i:Nat):(mkT f i).length=i:=by simp [mkT]
theorem zrF (f:Nat->BA) (i:Nat):mkT f (i+1)=mkT f i++[f (1+i)]:=by unfold mkT; rw [List.range_succ]; simp
theorem ztT {f:Nat->BA} {m i:Nat} (h:i < m):(mkT f m).getD i (bs [])=f (1+i):=by
 unfold mkT
 rw [List.getD_eq_getElem?_getD,List.getElem?_map,List.getElem?_range h]; rfl
theorem setT {a c:BA} {u v:List BA} {i:Nat} (h:u.length=i):(u++c::v).set i a=u++a::v:=by
 subst h; simp
theorem zrG {f:Nat->BA} (hf:∀ n:Nat,n<=4000->Ev (fun k=>qeyz.f k (n:Int)) (f n)) {l:List BA} (h:l.length<=3000):Ev (fun k=>qdaz.f k l 1) (((1+l.length:Nat):Int),mkT f l.length):=by
 have key:∀ (d i:Nat),i+d=l.length->Ev (fun k=>qdaz.l0 k ((1+i:Nat):Int) (i:Int) (mkT f i++l.drop i)) (((1+l.length:Nat):Int),mkT f l.length):=by
  intro d
  induction d with
  | zero =>
   intro i hi
   have hl:(mkT f i++l.drop i).length=l.length:=by simp [zk2]; omega
   have hi':i=l.length:=by omega
   refine qdaz.v0 ?_
   simp (disch:=omega) only [S,hl]
   rw [hi',List.drop_length,List.append_nil]
   exact Ev.now _
  | succ d ih =>
   intro i hi
   have h':=ih (i+1) (by omega)
   have hl:(mkT f i++l.drop i).length=l.length:=by simp [zk2]; omega
   have e:l.drop i=l.getD i (bs [])::l.drop (i+1):=zay (bs []) (by omega)
   have w1:W (((1+i:Nat):Int)+1)=((1+(i+1):Nat):Int):=by rw [w64 (by omega) (by omega)]; omega
   have hs:(mkT f i++l.drop i).set i (f (1+i))=mkT f (i+1)++l.drop (i+1):=by
    rw [e,setT (zk2 f i),zrF,List.append_assoc,List.singleton_append]
   have c:iLt (i:Int) (ln (mkT f i++l.drop i))=true:=decide_eq_true (by simp only [ln,hl]; omega)
   refine qdaz.v0 ?_
   simp only [c,if_true]
   refine Ev.bind (hf (1+i) (by omega)) ?_
   simp only [w1]
   simp (disch:=omega) only [S,hl,hs]
   exact h'
 refine qdaz.v ?_
 exact key l.length 0 (by omega)
theorem zrH {f:Nat->BA} (hf:∀ n:Nat,n<=4000->Ev (fun k=>qeyz.f k (n:Int)) (f n)) {m:Nat} (h:m<=3000):Ev (fun k=>qcyz.f k (mkT f m) 1) ((1+m:Nat):Int):=by
 have hm:=zk2 f m
 have key:∀ (d i:Nat),i+d=m->Ev (fun k=>qcyz.l0 k (mkT f m) ((1+i:Nat):Int) (i:Int)) ((1+m:Nat):Int):=by
  intro d
  induction d with
  | zero =>
   intro i hi
   rw [show i=m by omega]
   refine qcyz.v0 ?_
   simp (disch:=omega) only [S,hm]
   exact Ev.now _
  | succ d ih =>
   intro i hi
   have h':=ih (i+1) (by omega)
   have g:=ztT (f:=f) (m:=m) (i:=i) (by omega)
   have w1:W (((1+i:Nat):Int)+1)=((1+(i+1):Nat):Int):=by rw [w64 (by omega) (by omega)]; omega
   have c:iLt (i:Int) (ln (mkT f m))=true:=decide_eq_true (by simp only [ln,hm]; omega)
   have hix:∀ {β:Type} {x:Option β},ix (i:Int) (mkT f m) x=x:=fun {β x}=>by simp (disch:=omega) only [S,hm]
   have hrd:rd (bs []) (mkT f m) (i:Int)=f (1+i):=(znG _ _ _).trans g
   refine qcyz.v0 ?_
   simp only [c,if_true,hix]
   refine Ev.bind (hf (1+i) (by omega)) ?_
   simp only [hrd,znS,Bool.not_true,Bool.false_eq_true,if_false,w1]
   simp (disch:=omega) only [S]
   exact h'
 exact qcyz.v (key m 0 (by omega))
theorem FnExactRunScript (hV:zsX) (s:BA):∃ K,qbkz.f (fun _=>K) s=some true:=by
 refine Ev.rounds (g:=fun k=>qbkz.f k s) (qbkz.v ?_)
 obtain ⟨l,rfl⟩ : ∃ l,s=bL l:=⟨_,(zp6 s).symm⟩
 have hsz:sln (bL l)=(l.length:Int):=by simp only [sln,zam]
 by_cases hs:1048576 < l.length
 · have c:iGt (l.length:Int) 1048576=true:=decide_eq_true (by omega)
   simp only [hsz,c,if_true]
   exact Ev.now _
 · have c:iGt (l.length:Int) 1048576=false:=decide_eq_false (by omega)
   obtain ⟨h1,h2,h3,h4⟩:=zqL hV l (by omega)
   have hI:=znh h1
   have hS:Ev (fun k=>qelz.f k (bL l)) (sv.r (bL l),sv.b (bL l)):=qelz.v (Ev.bind h4 (Ev.now _))
   obtain ⟨f,hf⟩:=zk1
   generalize sv.r (bL l)=R at *
   have hE:=zmg (l:=R) (by omega)
   have hM:=zrG hf (l:=R) h2
   have hH:=zrH hf (m:=R.length) h2
   have b1:(!true)=false:=rfl
   have b2:(sv.b (bL l) == sv.b (bL l))=true:=beq_self_eq_true _
   have c3:iLt ((1+R.length:Nat):Int) 0=false:=decide_eq_false (by omega)
   have b3:(((1+R.length:Nat):Int) != ((1+R.length:Nat):Int))=false:=bne_self_eq_false _
   have ff:¬ (false=true):=by decide
   simp only [hsz,c,if_neg ff,hI,Option.bind_some]
   refine Ev.bind hS (Ev.bind hE ?_)
   simp only [b1,b2,if_neg ff]
   refine Ev.bind hM (Ev.bind hH ?_)
   simp only [c3,b3,if_neg ff]
   refine Ev.bind hE ?_
   simp only [b1,b2,if_neg ff]
   refine Ev.bind hH ?_
   simp only [c3,b3,if_neg ff]
   exact Ev.now _
end Go.Proofs.YtdhkgmhdengnkaaGreatDoor.Rs
