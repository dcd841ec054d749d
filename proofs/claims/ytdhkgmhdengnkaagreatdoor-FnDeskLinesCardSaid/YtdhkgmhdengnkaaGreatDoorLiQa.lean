/- The plain law (part 1 of 2). -/
import Derived.Test.YtdhkgmhdengnkaaGreatDoorPc
import Derived.Test.YtdhkgmhdengnkaaGreatDoorLiF4
import Derived.Lib.AtoiTie
import Derived.Lib.AtoiAllCases
namespace Go.Proofs.YtdhkgmhdengnkaaGreatDoor.Li
open Go Go.Proofs.YtdhkgmhdengnkaaGreatDoorPi Go.RowKit
set_option linter.unusedVariables false
set_option linter.unusedSimpArgs false
set_option maxHeartbeats 1000000
theorem zto {i:Nat}:((i:Int)).toNat=i:=by omega
theorem zaF {α:Type} (z:α) {l:List α} {i:Nat} (h:i < l.length):l.drop i=l.getD i z::l.drop (i+1):=by
 rw [List.drop_eq_getElem_cons h,List.getD_eq_getElem?_getD,List.getElem?_eq_getElem h]; rfl
theorem zbA {α:Type} (z:α) {l:List α} {i:Nat} (h:i < l.length):l.take (i+1)=l.take i++[l.getD i z]:=by
 rw [List.take_succ_eq_append_getElem h,List.getD_eq_getElem?_getD,List.getElem?_eq_getElem h]; rfl
theorem zaf {α:Type} {z:α} {l:List α} {i:Nat} (h:i < l.length):l.getD i z∈l:=by
 rw [List.getD_eq_getElem?_getD,List.getElem?_eq_getElem h]
 exact List.getElem_mem h
theorem zqw {α β:Type} (g:α->β) (za:α) (zb:β) {l:List α} {i:Nat} (h:i < l.length) :
    ((l.take i).map g++List.replicate (l.length-i) zb).set i (g (l.getD i za))=(l.take (i+1)).map g++List.replicate (l.length-(i+1)) zb:=by
 rw [zbA za h,List.map_append,List.set_append_right _ _ (by simp; omega)]
 have e:i-((l.take i).map g).length=0:=by simp; omega
 rw [e,show l.length-i=(l.length-(i+1))+1 by omega,List.replicate_succ,List.set_cons_zero]
 simp
theorem zr1 {α β:Type} (g:α->β) (zb:β) {l:List α} {i:Nat} (h:i<=l.length):((l.take i).map g++List.replicate (l.length-i) zb).length=l.length:=by
 simp; omega
def bL (l:List UInt8):ByteArray:=⟨l.toArray⟩
theorem zk8 (l:List Nat):bs l=bL (l.map UInt8.ofNat):=rfl
theorem zbb (a b:List UInt8):bL a++bL b=bL (a++b):=by
 apply ByteArray.ext
 simp [bL,ByteArray.data_append]
theorem zai (l:List UInt8):(bL l).size=l.length:=by simp [bL,ByteArray.size]
theorem zsF (s:ByteArray):bL s.data.toList=s:=by
 apply ByteArray.ext
 simp [bL]
theorem zmr (l:List UInt8):(bL l).data.toList=l:=by simp [bL]
theorem zqx (a b:List UInt8):seq (bL a) (bL b)=decide (a=b):=by
 have e:∀ l:List UInt8,(bL l).toList=l:=ByteArray.toList_mk
 unfold seq
 rw [e,e]
 by_cases h:a=b
 · subst h; simp
 · simp [h]
theorem zfh (s:ByteArray):seq s s=true:=beq_self_eq_true _
theorem zfi (l:List UInt8) (a b:Nat):(bL l).extract a b=bL ((l.take b).drop a):=by
 apply ByteArray.ext
 simp [bL,ByteArray.data_extract,List.drop_take]
theorem zms {l:List UInt8} {i:Nat} (h:i < l.length):bat (bL l) (i:Int)=((l.getD i 0).toNat:Int):=by
 unfold bat
 rw [zmr,zto]
theorem zuC (xs:List (List UInt8)) (i:Nat):rd (bs []) (xs.map bL) (i:Int)=bL (xs.getD i []):=by
 rw [zhK,List.getD_eq_getElem?_getD,List.getD_eq_getElem?_getD,List.getElem?_map]
 cases xs[i]? with
 | none=>rfl
 | some x=>rfl
theorem zfX (xs:List (List UInt8)) (i:Nat):(xs.map bL).getD i (bs [])=bL (xs.getD i []):=zuC xs i
theorem zcj (u:Nat):Lib.itoa (u:Int)=Lib.decDigits u:=by
 unfold Lib.itoa
 rw [if_neg (by omega)]
 simp
theorem zet {u:Nat} (h:0 < u):Lib.itoa (-(u:Int))=45::Lib.decDigits u:=by
 unfold Lib.itoa
 rw [if_pos (by omega),show (-(u:Int)).natAbs=u by omega]
theorem zr2 {q d:Nat} (hq:0 < q) (hd:d < 10):Lib.decDigits (10*q+d)=Lib.decDigits q++[UInt8.ofNat (48+d)]:=by
 rw [Lib.decDigits,dif_neg (by omega),show (10*q+d) / 10=q by omega,show (10*q+d) % 10=d by omega]
theorem zeu {d:Nat} (hd:d < 10):Lib.decDigits d=[UInt8.ofNat (48+d)]:=by
 rw [Lib.decDigits,dif_pos hd]
theorem zk9 {u:Nat} (h:10<=u):Lib.decDigits u=Lib.decDigits (u / 10)++[UInt8.ofNat (48+u % 10)]:=by
 rw [Lib.decDigits,dif_neg (by omega)]
theorem zqy {b:UInt8} {n:Nat} (h:b.toNat=n):UInt8.ofNat n=b:=by
 rw [<- h]; simp
def dig (b:UInt8):Prop:=48<=b.toNat/\b.toNat<=57
instance (b:UInt8):Decidable (dig b):=inferInstanceAs (Decidable (_/\_))
def valL (a:Nat) (l:List UInt8):Nat:=l.foldl (fun a b=>10*a+(b.toNat-48)) a
theorem zhN (u:Nat):Lib.decDigits u ≠ []:=by
 rw [Lib.decDigits]
 split <;> simp
theorem zfj (u:Nat):(∀ b∈Lib.decDigits u,dig b)/\valL 0 (Lib.decDigits u)=u/\(0 < u->(Lib.decDigits u).head? ≠ some 48):=by
 induction u using Nat.strongRecOn with
 | ind u ih =>
  have hd:∀ d,d < 10->(UInt8.ofNat (48+d)).toNat=48+d:=by
   intro d hd
   rw [UInt8.toNat_ofNat']
   omega
  by_cases h:u < 10
  · rw [zeu h]
    refine ⟨?_,?_,?_⟩
    · intro b hb
      simp only [List.mem_singleton] at hb
      subst hb
      unfold dig
      rw [hd u h]
      omega
    · simp only [valL,List.foldl_cons,List.foldl_nil]
      rw [hd u h]
      omega
    · intro h0 e
      simp only [List.head?_cons,Option.some.injEq] at e
      have:=congrArg UInt8.toNat e
      rw [hd u h] at this
      simp at this
      omega
  · obtain ⟨h1,h2,h3⟩:=ih (u / 10) (by omega)
    rw [zk9 (by omega)]
    refine ⟨?_,?_,?_⟩
    · intro b hb
      rcases List.mem_append.1 hb with hb | hb
      · exact h1 b hb
      · simp only [List.mem_singleton] at hb
        subst hb
        unfold dig
        rw [hd _ (by omega)]
        omega
    · unfold valL at *
      rw [List.foldl_append,h2,List.foldl_cons,List.foldl_nil,hd _ (by omega)]
      omega
    · intro _
      have:=h3 (by omega)
      cases hc:Lib.decDigits (u / 10) with
      | nil=>exact absurd hc (zhN _)
      | cons b r=>rw [hc] at this; simpa using this
theorem zqz:∀ (l:List UInt8) (a:Nat),a<=valL a l
 | [],a=>Nat.le_refl _
 | b::l,a=>Nat.le_trans (by omega) (zqz l (10*a+(b.toNat-48)))
theorem ztp:∀ (n:Nat) (l:List UInt8),l.length=n->l ≠ []->(∀ b∈l,dig b)->(l.length=1 \/ l.head? ≠ some 48)->Lib.decDigits (valL 0 l)=l:=by
 intro n
 induction n with
 | zero=>intro l hl h0; exact absurd (List.length_eq_zero_iff.1 hl) h0
 | succ n ih =>
  intro l hl h0 hd hh
  obtain ⟨p,b,rfl⟩ : ∃ p b,l=p++[b]:=⟨l.dropLast,l.getLast h0,(List.dropLast_concat_getLast h0).symm⟩
  have hb:=hd b (by simp)
  unfold dig at hb
  have ev:valL 0 (p++[b])=10*valL 0 p+(b.toNat-48):=by simp [valL]
  rw [ev]
  by_cases hp:p=[]
  · subst hp
    rw [show valL 0 []=0 from rfl,dec_snoc_zero hb.1 hb.2]
    rfl
  · have hl':p.length=n:=by simpa using hl
    have hp1:p.length ≠ 0:=fun e=>hp (List.length_eq_zero_iff.1 e)
    have hh':p.head? ≠ some 48:=by
     rcases hh with hh | hh
     · simp at hh; exact absurd hh hp
     · cases p with
       | nil=>exact absurd rfl hp
       | cons c r=>simpa using hh
    have h1:=ih p hl' hp (fun c hc=>hd c (by simp [hc])) (.inr hh')
    have hpos:0 < valL 0 p:=by
     cases p with
     | nil=>exact absurd rfl hp
     | cons c r =>
      have hc:=hd c (by simp)
      unfold dig at hc
      have hc0:c.toNat ≠ 48:=by
       intro e
       have e2:c=48:=UInt8.toNat_inj.1 e
       subst e2
       simp at hh'
      have:=zqz r (10*0+(c.toNat-48))
      show 0 < valL (10*0+(c.toNat-48)) r
      omega
    rw [zr2 hpos (by omega),h1,zqy (b:=b) (by omega)]
where
 dec_snoc_zero {b:UInt8} (h1:48<=b.toNat) (h2:b.toNat<=57):Lib.decDigits (10*0+(b.toNat-48))=[b]:=by
  rw [zeu (by omega),zqy (b:=b) (by omega)]
theorem zev {u k:Nat} (h:u < 10 ^ (k+1)):(Lib.decDigits u).length<=k+1:=by
 induction k generalizing u with
 | zero=>rw [zeu (by omega)]; simp
 | succ k ih =>
  by_cases h10:u < 10
  · rw [zeu h10]; simp
  · have hp:10 ^ (k+1+1)=10 ^ (k+1)*10:=Nat.pow_succ _ _
    have:=ih (u:=u / 10) (by omega)
    rw [zk9 (by omega),List.length_append,List.length_singleton]
    omega
theorem zew {n:Int} {k:Nat} (h0 : -(10 ^ (k+1):Nat) < n) (h1:n < (10 ^ (k+1):Nat)):(Lib.itoa n).length<=k+2:=by
 unfold Lib.itoa
 split
 · have:=zev (u:=n.natAbs) (k:=k) (by omega)
   simpa using this
 · have:=zev (u:=n.toNat) (k:=k) (by omega)
   omega
theorem zpc {n:Int} (h0 : -9223372036854775808<=n) (h1:n<=9223372036854775807):(Lib.itoa n).length<=20:=by
 have:=zew (n:=n) (k:=18) (by omega) (by omega)
 exact this
theorem zla {n:Int} {b:UInt8} (h:b∈Lib.itoa n):dig b \/ b=45:=by
 unfold Lib.itoa at h
 split at h
 · rcases List.mem_cons.1 h with h | h
   · exact .inr h
   · exact .inl ((zfj _).1 b h)
 · exact .inl ((zfj _).1 b h)
theorem zqA {n:Int} {c:UInt8} (h1:¬ dig c) (h2:c ≠ 45):c ∉ Lib.itoa n:=fun h=>(zla h).elim h1 h2
theorem zmt {n:Int} (h0:0<=n):(45:UInt8) ∉ Lib.itoa n:=by
 unfold Lib.itoa
 rw [if_neg (by omega)]
 intro h
 have:=(zfj _).1 _ h
 unfold dig at this
 simp at this
theorem ztq (n:Int):Lib.itoa n ≠ []:=by
 unfold Lib.itoa
 split
 · simp
 · exact zhN _
def zah (c:UInt8):List UInt8->List (List UInt8)
 | []=>[[]]
 | b::l=>if b=c then []::zah c l else match zah c l with
  | []=>[[b]]
  | w::ws=>(b::w)::ws
theorem zd7 (c:UInt8):∀ l:List UInt8,zah c l ≠ []
 | []=>by simp [zah]
 | b::l=>by
  unfold zah
  split
  · simp
  · split <;> simp
theorem zkx (c:UInt8):∀ l:List UInt8,Lib.splitK [c] 0 (Lib.count l [c]) l=zah c l
 | []=>by rw [Lib.count_one]; simp [Lib.splitK,zah]
 | b::l=>by
  have ih:=zkx c l
  by_cases h:b=c
  · subst h
    rw [Lib.count_cons_eq,Nat.add_comm,Lib.splitK]
    have hix:Lib.index (b::l) [b]=((0:Nat):Int):=by rw [Lib.index]; simp [List.isPrefixOf]
    rw [hix]
    simp [zah,ih]
  · rw [Lib.count_cons_ne b c l h]
    have hp:([c]:List UInt8).isPrefixOf (b::l)=false:=by simp [List.isPrefixOf,Ne.symm h]
    have hix:Lib.index (b::l) [c]=if Lib.index l [c] == -1 then -1 else Lib.index l [c]+1:=by rw [Lib.index,hp]; simp
    rw [zah,if_neg h,<- ih]
    by_cases hm:Lib.index l [c] = -1
    · rw [Lib.count_miss hm]
      simp [Lib.splitK]
    · have hge:=Lib.index_ge l [c]
      obtain ⟨j,hj⟩ : ∃ j:Nat,Lib.index l [c]=j:=⟨(Lib.index l [c]).toNat,by omega⟩
      have hix':Lib.index (b::l) [c]=((j+1:Nat):Int):=by rw [hix,if_neg (fun e=>hm (beq_iff_eq.1 e)),hj]; omega
      rw [Lib.count_hit (by simp) hj,Nat.add_comm,Lib.splitK,Lib.splitK,hj,hix']
      have a1:¬ ((((j+1:Nat):Int)) == -1)=true:=by intro e; have:=beq_iff_eq.1 e; omega
      have a2:¬ ((((j:Nat):Int)) == -1)=true:=by intro e; have:=beq_iff_eq.1 e; omega
      rw [if_neg a1,if_neg a2]
      simp
theorem zpd (c:UInt8) (s:ByteArray):(Lib.splitB ⟨#[c]⟩ 0 (Lib.countB s ⟨#[c]⟩) s).map (·.data.toList)=zah c s.data.toList:=by
 rw [Lib.splitB_data]
 exact zkx c _
theorem zr3 (c:UInt8) (l:List UInt8):Lib.splitB ⟨#[c]⟩ 0 (Lib.countB (bL l) ⟨#[c]⟩) (bL l)=(zah c l).map bL:=by
 have h:=congrArg (List.map bL) (zpd c (bL l))
 rw [zmr,List.map_map] at h
 rw [<- h]
 have e:(bL ∘ fun s:ByteArray=>s.data.toList)=id:=by funext s; exact zsF s
 rw [e,List.map_id]
theorem zbP (c:UInt8):∀ l:List UInt8,(zah c l).length<=l.length+1
 | []=>by simp [zah]
 | b::l=>by
  have ih:=zbP c l
  unfold zah
  split
  · simp; omega
  · split
    · simp
    · rename_i w ws h
      rw [h] at ih
      simp at ih ⊢; omega
theorem zb8 (c:UInt8):∀ (l:List UInt8) (w:List UInt8),w∈zah c l->w.length<=l.length
 | [],w,h=>by simp [zah] at h; subst h; simp
 | b::l,w,h=>by
  have ih:=zb8 c l
  unfold zah at h
  split at h
  · rcases List.mem_cons.1 h with rfl | h
    · simp
    · have:=ih w h; simp; omega
  · split at h
    · simp at h; subst h; simp
    · rename_i x xs hx
      rw [hx] at ih
      rcases List.mem_cons.1 h with rfl | h
      · have:=ih x List.mem_cons_self; simp; omega
      · have:=ih w (List.mem_cons_of_mem _ h); simp; omega
theorem zfk (c:UInt8):∀ l:List UInt8,((zah c l).map (fun w=>w.length+1)).sum=l.length+1
 | []=>by simp [zah]
 | b::l=>by
  have ih:=zfk c l
  unfold zah
  split
  · simp [ih]; omega
  · split
    · rename_i h; exact absurd h (zd7 c l)
    · rename_i w ws h
      rw [h] at ih
      simp at ih ⊢; omega
theorem ze0 (c:UInt8):∀ l:List UInt8,c ∉ l->zah c l=[l]
 | [],_=>rfl
 | b::l,h=>by
  have hb:¬ b=c:=fun e=>h (by rw [e]; exact List.mem_cons_self)
  have hl:c ∉ l:=fun e=>h (List.mem_cons_of_mem _ e)
  unfold zah
  rw [if_neg hb,ze0 c l hl]
theorem zd8 (c:UInt8) (r:List UInt8):∀ l:List UInt8,c ∉ l->zah c (l++c::r)=l::zah c r
 | [],_=>by simp [zah]
 | b::l,h=>by
  have hb:¬ b=c:=fun e=>h (by rw [e]; exact List.mem_cons_self)
  have hl:c ∉ l:=fun e=>h (List.mem_cons_of_mem _ e)
  rw [List.cons_append,zah,if_neg hb,zd8 c r l hl]
theorem znt (c:UInt8):∀ l:List UInt8,Lib.join (zah c l) [c]=l
 | []=>by simp [zah,Lib.join,List.intercalate]
 | b::l=>by
  have ih:=znt c l
  have hj:∀ w ws,Lib.joinTail [c] (w::ws)=c::(w++Lib.joinTail [c] ws):=by intro w ws; simp [Lib.joinTail]
  obtain ⟨w,ws,h⟩ : ∃ w ws,zah c l=w::ws:=by
   cases h:zah c l with
   | nil=>exact absurd h (zd7 c l)
   | cons w ws=>exact ⟨w,ws,rfl⟩
  unfold zah
  rw [h,Lib.join_cons] at ih
  split
  · rename_i hb
    rw [h,Lib.join_cons,hj,ih,hb]; rfl
  · rw [h]
    simp only []
    rw [Lib.join_cons,List.cons_append,ih]
theorem zdM (c:UInt8):∀ xs:List (List UInt8),xs ≠ []->(∀ x∈xs,c ∉ x)->zah c (Lib.join xs [c])=xs
 | [],h,_=>absurd rfl h
 | [x],_,h=>by
  rw [Lib.join_cons]
  simp only [Lib.joinTail,List.map_nil,List.flatten_nil,List.append_nil]
  exact ze0 c x (h x List.mem_cons_self)
 | x::y::r,_,h=>by
  have ih:=zdM c (y::r) (by simp) (fun z hz=>h z (List.mem_cons_of_mem _ hz))
  rw [Lib.join_cons] at ih ⊢
  have hj:Lib.joinTail [c] (y::r)=c::(y++Lib.joinTail [c] r):=by simp [Lib.joinTail]
  rw [hj,zd8 c _ x (h x List.mem_cons_self),ih]
def zd9 (l:List UInt8):Int×Bool:=match Lib.atoiAll l with | .ok n=>if Lib.itoa n=l then (n,true) else (0,false) | _=>(0,false)
theorem zmu {b:UInt8} (h:dig b):Lib.digitVal b=some (b.toNat-48):=by
 unfold Lib.digitVal
 unfold dig at h
 first | rw [if_pos h] | simp [h]
theorem zfY:∀ (l:List UInt8) (a:Nat),(∀ b∈l,dig b)->Lib.decFrom a l=some (valL a l)
 | [],a,_=>rfl
 | b::l,a,h=>by
  unfold Lib.decFrom
  rw [zmu (h b List.mem_cons_self)]
  simp only []
  rw [show a*10+(b.toNat-48)=10*a+(b.toNat-48) by omega]
  exact zfY l _ fun c hc=>h c (List.mem_cons_of_mem _ hc)
theorem zqB {n:Int} (h0 : -(100000000000000000:Nat) < n) (h1:n < (100000000000000000:Nat)):Lib.atoiAll (Lib.itoa n) = .ok n:=by
 have hl:=zew (n:=n) (k:=16) (by omega) (by omega)
 rw [Lib.atoiAll_short _ hl]
 by_cases hn:n < 0
 · obtain ⟨u,rfl⟩ : ∃ u:Nat,n = -(u:Int):=⟨n.natAbs,by omega⟩
   rw [zet (by omega)]
   obtain ⟨d1,d2,_⟩:=zfj u
   have hd:Lib.decNat (Lib.decDigits u)=some u:=by
    unfold Lib.decNat
    cases hc:Lib.decDigits u with
    | nil=>exact absurd hc (zhN u)
    | cons b r =>
     rw [<- hc]
     have:=zfY (Lib.decDigits u) 0 d1
     rw [d2] at this
     simpa [hc] using this
   unfold Lib.atoi
   simp [hd,Lib.NumEnd.ofOption]
 · obtain ⟨u,rfl⟩ : ∃ u:Nat,n=(u:Int):=⟨n.toNat,by omega⟩
   rw [zcj]
   obtain ⟨d1,d2,_⟩:=zfj u
   have hd:Lib.decNat (Lib.decDigits u)=some u:=by
    unfold Lib.decNat
    cases hc:Lib.decDigits u with
    | nil=>exact absurd hc (zhN u)
    | cons b r =>
     rw [<- hc]
     have:=zfY (Lib.decDigits u) 0 d1
     rw [d2] at this
     simpa [hc] using this
   cases hc:Lib.decDigits u with
   | nil=>exact absurd hc (zhN u)
   | cons b r =>
    rw [hc] at hd d1
    have hb:=d1 b List.mem_cons_self
    unfold dig at hb
    unfold Lib.atoi
    simp [hd,Lib.NumEnd.ofOption,show b.toNat ≠ 45 by omega,show b.toNat ≠ 43 by omega,show b ≠ 45 by rintro rfl; simp at hb,show b ≠ 43 by rintro rfl; simp at hb]
theorem zea {n:Int} (h0 : -(100000000000000000:Nat) < n) (h1:n < (100000000000000000:Nat)):zd9 (Lib.itoa n)=(n,true):=by
 unfold zd9
 rw [zqB h0 h1]
 simp
theorem zoj {n m:Int} (h0 : -(100000000000000000:Nat) < n) (h1:n < (100000000000000000:Nat)) (h2 : -(100000000000000000:Nat) < m) (h3:m < (100000000000000000:Nat)) (h:Lib.itoa n=Lib.itoa m):n=m:=by
 have a:=zea h0 h1
 rw [h,zea h2 h3] at a
 exact (congrArg Prod.fst a).symm
theorem zjl (l:List UInt8):(∃ n,-9223372036854775808<=n/\n<=9223372036854775807/\l=Lib.itoa n/\zd9 l=(n,true)) \/ (zd9 l=(0,false) /\ ∀ n:Int,-(100000000000000000:Nat) < n->n < (100000000000000000:Nat)->l ≠ Lib.itoa n):=by
 by_cases h:(zd9 l).2=true
 · left
   unfold zd9 at *
   cases hA:Lib.atoiAll l with
   | ok n =>
    rw [hA] at h
    by_cases hi:Lib.itoa n=l
    · have:=Lib.atoiAll_bounds hA
      exact ⟨n,this.1,this.2,hi.symm,by simp only [if_pos hi]⟩
    · simp only [if_neg hi] at h; cases h
   | _=>rw [hA] at h; cases h
 · right
   refine ⟨?_,fun n h0 h1 e=>?_⟩
   · unfold zd9 at *
     cases hA:Lib.atoiAll l with
     | ok n =>
      rw [hA] at h
      by_cases hi:Lib.itoa n=l
      · simp only [if_pos hi] at h; exact absurd trivial h
      · simp only [if_neg hi]
     | _=>rfl
   · rw [e,zea h0 h1] at h
     exact h rfl
def zeb:List (List UInt8)->Option (List Int)
 | []=>some []
 | w::ws=>if (zd9 w).2=true then (zeb ws).map ((zd9 w).1 :: ·) else none
def zaJ (c:UInt8) (l:List UInt8):List Int×Bool:=match zeb (zah c l) with | some r=>(r,true) | none=>([],false)
def digs (acc:Int):List UInt8->Int
 | []=>acc
 | b::r=>if b.toNat < 48 \/ 57 < b.toNat then -1 else digs (10*acc+((b.toNat:Int)-48)) r
def l1r (l:List UInt8):Int:=if l.length < 1 \/ 6 < l.length \/ (l.getD 0 0=48/\1 < l.length) then -1 else digs 0 l
theorem zok:∀ (l:List UInt8) (a:Nat),(∀ b∈l,dig b)->digs (a:Int) l=(valL a l:Nat)
 | [],a,_=>rfl
 | b::l,a,h=>by
  have hb:=h b List.mem_cons_self
  unfold dig at hb
  unfold digs
  rw [if_neg (by omega),show 10*(a:Int)+((b.toNat:Int)-48)=((10*a+(b.toNat-48):Nat):Int) by omega]
  exact zok l _ fun c hc=>h c (List.mem_cons_of_mem _ hc)
theorem zol:∀ (l:List UInt8) (a:Int),0<=a->(¬ ∀ b∈l,dig b)->digs a l = -1
 | [],a,_,h=>absurd (fun b hb=>by simp at hb) h
 | b::l,a,h0,h=>by
  unfold digs
  by_cases hb:dig b
  · unfold dig at hb
    rw [if_neg (by omega)]
    refine zol l _ (by omega) fun h'=>h fun c hc=>?_
    rcases List.mem_cons.1 hc with rfl | hc
    · exact hb
    · exact h' c hc
  · unfold dig at hb
    rw [if_pos (by omega)]
theorem zqC:∀ (l:List UInt8) (a:Nat),(∀ b∈l,dig b)->valL a l < (a+1)*10 ^ l.length
 | [],a,_=>by simp [valL]
 | b::l,a,h=>by
  have hb:=h b List.mem_cons_self
  unfold dig at hb
  have:=zqC l (10*a+(b.toNat-48)) fun c hc=>h c (List.mem_cons_of_mem _ hc)
  show valL (10*a+(b.toNat-48)) l < _
  refine Nat.lt_of_lt_of_le this ?_
  rw [List.length_cons,Nat.pow_succ,Nat.mul_comm (10 ^ l.length) 10,<- Nat.mul_assoc]
  exact Nat.mul_le_mul_right _ (by omega)
theorem zdA {n:Int} (h0:0<=n) (h1:n<=999999):l1r (Lib.itoa n)=n:=by
 obtain ⟨u,rfl⟩ : ∃ u:Nat,n=(u:Int):=⟨n.toNat,by omega⟩
 rw [zcj]
 obtain ⟨d1,d2,d3⟩:=zfj u
 have hl:=zev (u:=u) (k:=5) (by omega)
 unfold l1r
 rw [if_neg]
 · have:=zok _ 0 d1
   rw [d2] at this
   exact this
 · rintro (h | h | ⟨h,hl1⟩)
   · exact zhN u (List.length_eq_zero_iff.1 (by omega))
   · omega
   · have hu:0 < u:=by
      rcases Nat.eq_zero_or_pos u with rfl | h
      · rw [zeu (by omega)] at hl1; simp at hl1
      · exact h
     have:=d3 hu
     cases hc:Lib.decDigits u with
     | nil=>exact zhN u hc
     | cons b r=>rw [hc] at h this; simp at h this; exact this h
theorem zdj (l:List UInt8):(∃ n,0<=n/\n<=999999/\l=Lib.itoa n/\l1r l=n) \/ (l1r l = -1 /\ ∀ n:Int,0<=n->n<=999999->l ≠ Lib.itoa n):=by
 by_cases h:∃ n:Int,0<=n/\n<=999999/\l=Lib.itoa n
 · obtain ⟨n,h0,h1,e⟩:=h
   exact .inl ⟨n,h0,h1,e,by rw [e]; exact zdA h0 h1⟩
 · right
   refine ⟨?_,fun n h0 h1 e=>h ⟨n,h0,h1,e⟩⟩
   unfold l1r
   by_cases hc:l.length < 1 \/ 6 < l.length \/ (l.getD 0 0=48/\1 < l.length)
   · rw [if_pos hc]
   · rw [if_neg hc]
     refine zol l 0 (by omega) fun hd=>h ⟨(valL 0 l:Nat),by omega,?_,?_⟩
     · have h1:=zqC l 0 hd
       have h2:10 ^ l.length<=10 ^ 6:=Nat.pow_le_pow_right (by omega) (by omega)
       omega
     · rw [zcj]
       refine (ztp _ l rfl (by intro e; subst e; simp at hc) hd ?_).symm
       by_cases h1:l.length=1
       · exact .inl h1
       · right
         intro e
         refine hc (.inr (.inr ⟨?_,by omega⟩))
         cases l with
         | nil=>simp at e
         | cons b r=>simpa using e
def meR (l:List UInt8):Int×Bool:=if 1 < l.length/\l.getD 0 0=45 then (-(l1r (l.drop 1)),decide (l1r (l.drop 1) > 0)) else (l1r l,decide (l1r l >= 0))
theorem zjm (l:List UInt8):(∃ n,-999999<=n/\n<=999999/\l=Lib.itoa n/\meR l=(n,true)) \/ ((meR l).2=false /\ ∀ n:Int,-999999<=n->n<=999999->l ≠ Lib.itoa n):=by
 unfold meR
 by_cases h:1 < l.length/\l.getD 0 0=45
 · rw [if_pos h]
   obtain ⟨b,r,rfl⟩ : ∃ b r,l=b::r:=by
    cases l with
    | nil=>simp at h
    | cons b r=>exact ⟨b,r,rfl⟩
   have hb:b=45:=by simpa using h.2
   subst hb
   rw [List.drop_one,List.tail_cons]
   rcases zdj r with ⟨n,h0,h1,e,hn⟩ | ⟨hn,hne⟩
   · rw [hn]
     by_cases hz:0 < n
     · obtain ⟨u,rfl⟩ : ∃ u:Nat,n=(u:Int):=⟨n.toNat,by omega⟩
       refine .inl ⟨-(u:Int),by omega,by omega,?_,by rw [decide_eq_true (show (u:Int) > 0 from hz)]⟩
       rw [zet (by omega),e,zcj]
     · refine .inr ⟨decide_eq_false (by omega),fun m m0 m1 em=>?_⟩
       by_cases hm:0<=m
       · exact zmt hm (by rw [<- em]; simp)
       · obtain ⟨u,rfl⟩ : ∃ u:Nat,m = -(u:Int):=⟨m.natAbs,by omega⟩
         rw [zet (by omega)] at em
         have e3:Lib.itoa n=Lib.itoa (u:Int):=by rw [<- e,zcj]; exact (List.cons.inj em).2
         have:=zoj (by omega) (by omega) (by omega) (by omega) e3
         omega
   · rw [hn]
     refine .inr ⟨by decide,fun m m0 m1 em=>?_⟩
     by_cases hm:0<=m
     · exact zmt hm (by rw [<- em]; simp)
     · obtain ⟨u,rfl⟩ : ∃ u:Nat,m = -(u:Int):=⟨m.natAbs,by omega⟩
       rw [zet (by omega)] at em
       exact hne (u:Int) (by omega) (by omega) (by rw [zcj]; exact (List.cons.inj em).2)
 · rw [if_neg h]
   rcases zdj l with ⟨n,h0,h1,e,hn⟩ | ⟨hn,hne⟩
   · exact .inl ⟨n,by omega,h1,e,by rw [hn,decide_eq_true (show n >= 0 from h0)]⟩
   · rw [hn]
     refine .inr ⟨by decide,fun m m0 m1 em=>?_⟩
     by_cases hm:0<=m
     · exact hne m hm m1 em
     · obtain ⟨u,rfl⟩ : ∃ u:Nat,m = -(u:Int):=⟨m.natAbs,by omega⟩
       rw [zet (by omega)] at em
       refine h ⟨?_,by rw [em]; rfl⟩
       rw [em,List.length_cons]
       have:(Lib.decDigits u).length ≠ 0:=fun e=>zhN u (List.length_eq_zero_iff.1 e)
       omega
theorem zaq (a b c:Int):qilz.f a b c=some (decide (b<=a/\a<=c)):=by
 unfold qilz.f iGe iLe
 by_cases h:b<=a
 · simp [h]
 · simp [h]
theorem zas (a b c:Int):qgoz.f a b c=some (decide (b<=a/\a<=c)):=by
 unfold qgoz.f iGe iLe
 by_cases h:b<=a
 · simp [h]
 · simp [h]
theorem zlb {α:Type} {F:Fu->List α->Int->Int->Option Bool} {g:α->Bool} {z:α}
    (step:∀ {x0:List α} {x1 x2:Int} {r:Bool},Ev (fun k=>if iLt x2 x1 then ix x2 x0 <| (if g (rd z x0 x2)=true then F k x0 x1 (W (x2+1)) else some false) else some true) r->Ev (fun k=>F k x0 x1 x2) r)
    {l:List α} (hl:l.length<=9223372036854775806):Ev (fun k=>F k l (l.length:Int) 0) (l.all g):=by
 have key:∀ (d i:Nat),i+d=l.length->Ev (fun k=>F k l (l.length:Int) (i:Int)) ((l.drop i).all g):=by
  intro d
  induction d with
  | zero =>
   intro i hi
   rw [List.drop_eq_nil_of_le (by omega)]
   refine step ?_
   simp (disch:=omega) only [S]
   exact Ev.now _
  | succ d ih =>
   intro i hi
   have h:=ih (i+1) (by omega)
   rw [zaF z (show i < l.length by omega),List.all_cons]
   refine step ?_
   simp (disch:=omega) only [S]
   cases hg:g (l.getD i z) with
   | true=>simpa using h
   | false=>simpa using Ev.now false
 exact key l.length 0 (by omega)
theorem zhc {α:Type} {F:Fu->List α->Int->Int->Option Int} {g:α->Bool} {z:α}
    (step:∀ {x0:List α} {x1 x2:Int} {r:Int},Ev (fun k=>if iLt x2 x1 then ix x2 x0 <| (if g (rd z x0 x2)=true then F k x0 x1 (W (x2+1)) else some x2) else some (-1)) r->Ev (fun k=>F k x0 x1 x2) r)
    {l:List α} (hl:l.length<=9223372036854775806):∃ r,Ev (fun k=>F k l (l.length:Int) 0) r/\iGe r 0 = !(l.all g):=by
 have key:∀ (d i:Nat),i+d=l.length->∃ r,Ev (fun k=>F k l (l.length:Int) (i:Int)) r/\iGe r 0 = !((l.drop i).all g):=by
  intro d
  induction d with
  | zero =>
   intro i hi
   rw [List.drop_eq_nil_of_le (by omega)]
   refine ⟨-1,step ?_,rfl⟩
   simp (disch:=omega) only [S]
   exact Ev.now _
  | succ d ih =>
   intro i hi
   obtain ⟨r,h,e⟩:=ih (i+1) (by omega)
   rw [zaF z (show i < l.length by omega),List.all_cons]
   cases hg:g (l.getD i z) with
   | true =>
    refine ⟨r,step ?_,by simpa using e⟩
    simp (disch:=omega) only [S,hg]
    exact h
   | false =>
    refine ⟨(i:Int),step ?_,by simp (disch:=omega) only [S,Bool.false_and]⟩
    simp (disch:=omega) only [S,hg]
    exact Ev.now _
 exact key l.length 0 (by omega)
abbrev Wk:=Int×Int
def wOk (w:Wk):Bool:=decide (-1000<=w.1/\w.1<=1000) && decide (-100<=w.2/\w.2<=100)
def lOk (w:Wk):Bool:=decide (1<=w.1/\w.1<=1000) && decide (1<=w.2/\w.2<=100)
def vOk (w:Wk):Bool:=decide (0<=w.1/\w.1<=200) && decide (0<=w.2/\w.2<=200)
def zr4 (n:Nat) (l:List Wk):Bool:=decide (1<=(l.length:Int)/\(l.length:Int)<=n)
def zam (n:Nat) (ok:Wk->Bool) (l:List Wk):Bool:=zr4 n l && l.all ok
theorem zak {n:Nat} {ok:Wk->Bool} {l:List Wk}:zam n ok l=true ↔ (1<=l.length/\l.length<=n) /\ ∀ w∈l,ok w=true:=by
 unfold zam zr4
 rw [Bool.and_eq_true,List.all_eq_true,decide_eq_true_eq]
 exact ⟨fun h=>⟨by omega,h.2⟩,fun h=>⟨by omega,h.2⟩⟩
theorem zaO {w:Wk}:wOk w=true ↔ (-1000<=w.1/\w.1<=1000)/\(-100<=w.2/\w.2<=100):=by unfold wOk; rw [Bool.and_eq_true,decide_eq_true_eq,decide_eq_true_eq]
theorem zex {w:Wk}:lOk w=true ↔ (1<=w.1/\w.1<=1000)/\(1<=w.2/\w.2<=100):=by unfold lOk; rw [Bool.and_eq_true,decide_eq_true_eq,decide_eq_true_eq]
theorem zdk {w:Wk}:vOk w=true ↔ (0<=w.1/\w.1<=200)/\(0<=w.2/\w.2<=200):=by unfold vOk; rw [Bool.and_eq_true,decide_eq_true_eq,decide_eq_true_eq]
theorem zcF (a b:Int):qgsz.f a b=some (wOk (a,b)):=by
 unfold qgsz.f wOk
 simp only [zaq,Option.bind_some]
 cases decide (-1000<=a/\a<=1000) <;> simp
theorem zau (a b:Int):qfdz.f a b=some (wOk (a,b)):=by
 unfold qfdz.f wOk
 simp only [zas,Option.bind_some]
 cases decide (-1000<=a/\a<=1000) <;> simp
theorem zfq (a b:Int):qcnz.f a b=some (!wOk (a,b)):=by
 unfold qcnz.f
 simp only [zau,Option.bind_some]
theorem zhd (a b:Int):qepz.f a b=some (!lOk (a,b)):=by
 unfold qepz.f qhdz.f qhuz.f lOk
 simp only [zas,Option.bind_some]
 cases decide (1<=a/\a<=1000) <;> simp
theorem zfZ (a b:Int):qcyz.f a b=some (!vOk (a,b)):=by
 unfold qcyz.f vOk
 simp only [zas,Option.bind_some]
 cases decide (0<=a/\a<=200) <;> simp
theorem zjn {n:Nat} (hn:n<=100) {ok:Wk->Bool} {l:List Wk} {F:Fu->Option Bool} (h:l.length<=9223372036854775806->Ev F (l.all ok)) :
    Ev (fun k=>(some (decide (1<=ln l/\ln l<=n))).bind fun t0=>if (!t0)=true then some false else F k) (zam n ok l):=by
 unfold zam zr4 ln
 by_cases hc:1<=(l.length:Int)/\(l.length:Int)<=n
 · simp only [Option.bind_some,decide_eq_true hc,Bool.not_true,Bool.false_eq_true,if_false,Bool.true_and]
   exact h (by omega)
 · simp only [Option.bind_some,decide_eq_false hc,Bool.not_false,if_true,Bool.false_and]
   exact Ev.now _
theorem zjo {n:Nat} (hn:n<=100) {ok:Wk->Bool} {l:List Wk} {F:Fu->Option Bool} (h:l.length<=9223372036854775806->Ev F (!(l.all ok))) :
    Ev (fun k=>(some (decide (1<=ln l/\ln l<=n))).bind fun t0=>if t0=true then (F k).bind fun t1=>some (!t1) else some false) (zam n ok l):=by
 unfold zam zr4 ln
 by_cases hc:1<=(l.length:Int)/\(l.length:Int)<=n
 · simp only [Option.bind_some,decide_eq_true hc,if_true,Bool.true_and]
   exact Ev.bind (h (by omega)) (zbK (Bool.not_not _))
 · simp only [Option.bind_some,decide_eq_false hc,Bool.false_eq_true,if_false,Bool.false_and]
   exact Ev.now _
theorem zbc (l:List Wk):Ev (fun k=>qhyz.f k l) (zam 8 wOk l):=by
 refine qhyz.v ?_
 simp only [zaq]
 refine zjn (n:=8) (by decide) fun hl=>?_
 exact zlb (F:=qhyz.l0) (g:=wOk) (z:=(0,0)) (fun {x0 x1 x2 r} h=>qhyz.v0 (by simp only [zcF,Option.bind_some]; cases hw:wOk (rd (0,0) x0 x2) <;> simpa [hw] using h)) hl
theorem zaK (l:List Wk):Ev (fun k=>qhpz.f k l) (zam 5 lOk l):=by
 refine qhpz.v ?_
 simp only [zaq]
 refine zjn (n:=5) (by decide) fun hl=>?_
 refine zlb (F:=qhpz.l0) (g:=lOk) (z:=(0,0)) (fun {x0 x1 x2 r} h=>qhpz.v0 ?_) hl
 simp only [zaq,Option.bind_some]
 unfold lOk at h
 cases h1:decide (1<=(rd (0,0) x0 x2).1/\(rd (0,0) x0 x2).1<=1000) <;> cases h2:decide (1<=(rd (0,0) x0 x2).2/\(rd (0,0) x0 x2).2<=100) <;> simpa [h1,h2] using h
theorem zdN (l:List Wk):Ev (fun k=>qgrz.f k l) (zam 6 vOk l):=by
 refine qgrz.v ?_
 simp only [zaq]
 refine zjn (n:=6) (by decide) fun hl=>?_
 refine zlb (F:=qgrz.l0) (g:=vOk) (z:=(0,0)) (fun {x0 x1 x2 r} h=>qgrz.v0 ?_) hl
 simp only [zaq,Option.bind_some]
 unfold vOk at h
 cases h1:decide (0<=(rd (0,0) x0 x2).1/\(rd (0,0) x0 x2).1<=200) <;> cases h2:decide (0<=(rd (0,0) x0 x2).2/\(rd (0,0) x0 x2).2<=200) <;> simpa [h1,h2] using h
theorem zaz (l:List Wk):Ev (fun k=>qdrz.f k l) (zam 8 wOk l):=by
 refine qdrz.v ?_
 simp only [zas]
 refine zjo (n:=8) (by decide) fun hl=>?_
 refine qabz.v ?_
 obtain ⟨r,h1,h2⟩:=zhc (F:=qafz.l0) (g:=wOk) (z:=(0,0)) (fun {x0 x1 x2 r} h=>qafz.v0 (by simp only [zfq,Option.bind_some]; cases hw:wOk (rd (0,0) x0 x2) <;> simpa [hw] using h)) hl
 exact Ev.bind (qafz.v h1) (zbK h2)
theorem zax (l:List Wk):Ev (fun k=>qftz.f k l) (zam 5 lOk l):=by
 refine qftz.v ?_
 simp only [zas]
 refine zjo (n:=5) (by decide) fun hl=>?_
 refine qapz.v ?_
 obtain ⟨r,h1,h2⟩:=zhc (F:=qavz.l0) (g:=lOk) (z:=(0,0)) (fun {x0 x1 x2 r} h=>qavz.v0 (by simp only [zhd,Option.bind_some]; cases hw:lOk (rd (0,0) x0 x2) <;> simpa [hw] using h)) hl
 exact Ev.bind (qavz.v h1) (zbK h2)
theorem zcv (l:List Wk):Ev (fun k=>qelz.f k l) (zam 6 vOk l):=by
 refine qelz.v ?_
 simp only [zas]
 refine zjo (n:=6) (by decide) fun hl=>?_
 refine qaez.v ?_
 obtain ⟨r,h1,h2⟩:=zhc (F:=qakz.l0) (g:=vOk) (z:=(0,0)) (fun {x0 x1 x2 r} h=>qakz.v0 (by simp only [zfZ,Option.bind_some]; cases hw:vOk (rd (0,0) x0 x2) <;> simpa [hw] using h)) hl
 exact Ev.bind (qakz.v h1) (zbK h2)
def dOk (l:List Wk) (n:Int):Bool:=zam 8 wOk l && decide (1<=n/\n<=1000)
theorem zcG (l:List Wk) (n:Int):Ev (fun k=>qglz.f k l n) (dOk l n):=by
 refine qglz.v (Ev.bind (zaz l) ?_)
 unfold dOk qhmz.f
 simp only [zas,Option.bind_some]
 cases zam 8 wOk l <;> simpa using Ev.now _
def cOk (a l r d:Int):Bool:=decide ((1<=a/\a<=1000)/\(0<=l/\l<=20)/\(0<=r/\r<=20)/\0 < l+r/\l < d/\r < d/\d<=20)
theorem za0 (a l r d:Int):qguz.f a l r d=some (cOk a l r d):=by
 unfold qguz.f qgvz.f cOk
 simp only [zaq,Option.bind_some]
 by_cases h1:1<=a/\a<=1000
 · by_cases h2:0<=l/\l<=20
   · by_cases h3:0<=r/\r<=20
     · simp only [decide_eq_true h1,decide_eq_true h2,decide_eq_true h3,if_true]
       by_cases h4:0 < l+r
       · by_cases h5:r < l
         · simp (disch:=omega) only [S]
           exact congrArg some (zne (by omega))
         · simp (disch:=omega) only [S]
           exact congrArg some (zne (by omega))
       · simp (disch:=omega) only [S]
         exact congrArg some (zjf (by omega)).symm
     · simp only [decide_eq_true h1,decide_eq_true h2,decide_eq_false h3,if_true,Bool.false_eq_true,if_false]
       exact congrArg some (zjf (by omega)).symm
   · simp only [decide_eq_true h1,decide_eq_false h2,if_true,Bool.false_eq_true,if_false]
     exact congrArg some (zjf (by omega)).symm
 · simp only [decide_eq_false h1,Bool.false_eq_true,if_false]
   exact congrArg some (zjf (by omega)).symm
theorem zaT (a l r d:Int):qfzz.f a l r d=some (cOk a l r d):=by
 unfold qfzz.f cOk mx
 simp only [zas,Option.bind_some]
 by_cases h1:1<=a/\a<=1000
 · by_cases h2:0<=l/\l<=20
   · by_cases h3:0<=r/\r<=20
     · simp only [decide_eq_true h1,decide_eq_true h2,decide_eq_true h3,if_true]
       by_cases h4:0 < l+r
       · have e:(if r > l then r else l)=max l r:=by split <;> omega
         rw [e]
         by_cases h5:max l r < d
         · simp (disch:=omega) only [S]
           exact congrArg some (zne (by omega))
         · simp (disch:=omega) only [S]
           exact congrArg some (zjf (by omega)).symm
       · simp (disch:=omega) only [S]
         exact congrArg some (zjf (by omega)).symm
     · simp only [decide_eq_true h1,decide_eq_true h2,decide_eq_false h3,if_true,Bool.false_eq_true,if_false]
       exact congrArg some (zjf (by omega)).symm
   · simp only [decide_eq_true h1,decide_eq_false h2,if_true,Bool.false_eq_true,if_false]
     exact congrArg some (zjf (by omega)).symm
 · simp only [decide_eq_false h1,Bool.false_eq_true,if_false]
   exact congrArg some (zjf (by omega)).symm
theorem za6 {l:List UInt8} (h:l.length<=2000000) (c:UInt8):qffz.f (bL l) (bL [c])=some ((zah c l).map bL):=by
 unfold qffz.f zmk zdK
 rw [if_pos (by rw [zai]; omega),if_pos (by rw [zai]; simp),show bL [c]=⟨#[c]⟩ from rfl,zr3]
theorem zdB {l:List UInt8} (h:l.length<=2000000):qedz.f (bL l)=some (zd9 l):=by
 unfold qedz.f zd6 numB zd9
 rw [if_pos (by rw [zai]; omega),zmr]
 cases Lib.atoiAll l <;> rfl
def zfC (p:List UInt8) (c:UInt8) (r:List UInt8):List (List UInt8):=match zah c r with | []=>[p] | w::ws=>(p++w)::ws
theorem zky (c:UInt8) (r:List UInt8):zfC [] c r=zah c r:=by
 unfold zfC
 cases h:zah c r with
 | nil=>exact absurd h (zd7 c r)
 | cons w ws=>rfl
theorem zpe (p:List UInt8) (c:UInt8) (r:List UInt8):zfC p c (c::r)=p::zah c r:=by
 unfold zfC
 simp [zah]
theorem znu (p:List UInt8) {b c:UInt8} (h:¬ b=c) (r:List UInt8):zfC p c (b::r)=zfC (p++[b]) c r:=by
 unfold zfC
 rw [zah,if_neg h]
 cases h:zah c r with
 | nil=>exact absurd h (zd7 c r)
 | cons w ws=>simp
theorem zmv {l:List UInt8} (hl:l.length<=2000000) (c:UInt8) (d:Nat):∀ (i f:Nat) (out:List ByteArray),out.length<=i->f<=i->i+d=l.length ->
    Ev (fun k=>qfqz.l0 k (bL l) (c.toNat:Int) (f:Int) (i:Int) out) (out++(zfC ((l.take i).drop f) c (l.drop i)).map bL):=by
 induction d with
 | zero =>
  intro i f out ho hf hi
  rw [List.drop_eq_nil_of_le (show l.length<=i by omega),List.take_of_length_le (show l.length<=i by omega)]
  refine qfqz.v0 ?_
  simp (disch:=omega) only [S,zai,zfi,List.take_length]
  have e:zfC (l.drop f) c []=[l.drop f]:=by simp [zfC,zah]
  rw [e]
  exact Ev.now _
 | succ d ih =>
  intro i f out ho hf hi
  have hil:i < l.length:=by omega
  rw [zaF 0 hil]
  have ht:=zbA (0:UInt8) hil
  refine qfqz.v0 ?_
  have e1:=zms hil
  by_cases hb:l.getD i 0=c
  · rw [hb,zpe]
    have e2:bat (bL l) (i:Int)=(c.toNat:Int):=by rw [e1,hb]
    simp (disch:=omega) only [S,zai,zfi,e2]
    have h:=ih (i+1) (i+1) (out++[bL ((l.take i).drop f)]) (by simp; omega) (Nat.le_refl _) (by omega)
    rw [List.drop_eq_nil_of_le (show (l.take (i+1)).length<=i+1 by simp; omega),zky] at h
    simpa using h
  · have hne:¬ ((l.getD i 0).toNat:Int)=(c.toNat:Int):=fun e=>hb (UInt8.toNat_inj.1 (by omega))
    rw [znu _ hb]
    simp (disch:=omega) only [S,zai,zfi,e1]
    have h:=ih (i+1) f out (by omega) (by omega) (by omega)
    rw [ht,List.drop_append_of_le_length (by simp; omega)] at h
    exact h
theorem zaU {l:List UInt8} (hl:l.length<=2000000) (c:UInt8):Ev (fun k=>qfqz.f k (bL l) (c.toNat:Int)) ((zah c l).map bL):=by
 have h:=zmv hl c l.length 0 0 [] (by simp) (Nat.le_refl _) (by omega)
 refine qfqz.v ?_
 simpa [zky] using h
theorem znv {l:List UInt8} (hl:l.length<=6) (d:Nat):∀ (i:Nat) (a:Nat),a < 10 ^ i->i+d=l.length ->
    Ev (fun k=>qhqz.l0 k (bL l) (a:Int) (i:Int)) (digs (a:Int) (l.drop i)):=by
 induction d with
 | zero =>
  intro i a ha hi
  rw [List.drop_eq_nil_of_le (by omega)]
  refine qhqz.v0 ?_
  simp (disch:=omega) only [S,zai,digs]
  exact Ev.now _
 | succ d ih =>
  intro i a ha hi
  have hil:i < l.length:=by omega
  have hp:10 ^ i<=10 ^ 6:=Nat.pow_le_pow_right (by omega) (by omega)
  have hb:(l.getD i 0).toNat < 256:=(l.getD i 0).toNat_lt
  rw [zaF 0 hil]
  unfold digs
  refine qhqz.v0 ?_
  have e1:=zms hil
  generalize hg:(l.getD i 0).toNat=b at *
  by_cases h1:b < 48
  · rw [if_pos (show b < 48 \/ 57 < b from Or.inl h1)]
    simp (disch:=omega) only [S,zai,e1]
    exact Ev.now _
  · by_cases h2:57 < b
    · rw [if_pos (show b < 48 \/ 57 < b from Or.inr h2)]
      simp (disch:=omega) only [S,zai,e1]
      exact Ev.now _
    · rw [if_neg (show ¬ (b < 48 \/ 57 < b) by omega)]
      have h:=ih (i+1) (10*a+(b-48)) (by rw [Nat.pow_succ]; omega) (by omega)
      have e3:10*(a:Int)+((b:Int)-48)=((10*a+(b-48):Nat):Int):=by omega
      have e4:IntKind.wrap .u8 ((b:Int)-48)=(b:Int)-48:=by simp [IntKind.wrap,IntKind.bits,IntKind.signed]; omega
      rw [<- e3] at h
      rw [e3] at h ⊢
      rw [<- e3]
      simp (disch:=omega) only [S,zai,e1,e4]
      rw [<- e3] at h
      exact h
theorem zaL {l:List UInt8} (hl:l.length<=2000000):Ev (fun k=>qhqz.f k (bL l)) (l1r l):=by
 unfold l1r
 refine qhqz.v ?_
 simp only [zaq]
 by_cases h:1<=l.length/\l.length<=6
 · have hb:=zms (show 0 < l.length by omega)
   have hb':bat (bL l) 0=((l.getD 0 0).toNat:Int):=hb
   have hg:=znv h.2 l.length 0 0 (by simp) (by omega)
   rw [List.drop_zero] at hg
   have hg':Ev (fun k=>qhqz.l0 k (bL l) 0 0) (digs 0 l):=hg
   have hc:decide ((1:Int)<=sln (bL l)/\sln (bL l)<=6)=true:=decide_eq_true (by unfold sln; rw [zai]; omega)
   by_cases h0:l.getD 0 0=48
   · have e:((l.getD 0 0).toNat:Int)=48:=by rw [h0]; rfl
     by_cases h1:1 < l.length
     · rw [if_pos (show l.length < 1 \/ 6 < l.length \/ (l.getD 0 0=48/\1 < l.length) from Or.inr (Or.inr ⟨h0,h1⟩))]
       rw [hc]
       simp (disch:=omega) only [S,zai,hb']
       exact Ev.now _
     · rw [if_neg (show ¬ (l.length < 1 \/ 6 < l.length \/ (l.getD 0 0=48/\1 < l.length)) by omega)]
       rw [hc]
       simp (disch:=omega) only [S,zai,hb']
       exact hg'
   · have e:¬ ((l.getD 0 0).toNat:Int)=48:=fun e=>h0 (UInt8.toNat_inj.1 (by have:(48:UInt8).toNat=48:=rfl; omega))
     rw [if_neg (show ¬ (l.length < 1 \/ 6 < l.length \/ (l.getD 0 0=48/\1 < l.length)) by rintro (h1 | h1 | ⟨h1,_⟩) <;> first | omega | exact h0 h1)]
     rw [hc]
     simp (disch:=omega) only [S,zai,hb']
     exact hg'
 · have hc:decide ((1:Int)<=sln (bL l)/\sln (bL l)<=6)=false:=decide_eq_false (by unfold sln; rw [zai]; omega)
   rw [if_pos (show l.length < 1 \/ 6 < l.length \/ (l.getD 0 0=48/\1 < l.length) by omega),hc]
   simp (disch:=omega) only [S]
   exact Ev.now _
theorem zsG (l:List UInt8) : -1<=l1r l/\l1r l<=999999:=by
 rcases zdj l with ⟨n,h0,h1,_,e⟩ | ⟨e,_⟩ <;> omega
theorem zfD {l:List UInt8} (hl:l.length<=2000000):Ev (fun k=>qgtz.f k (bL l)) (meR l):=by
 refine qgtz.v ?_
 unfold meR
 by_cases h1:1 < l.length
 · have hb:bat (bL l) 0=((l.getD 0 0).toNat:Int):=zms (show 0 < l.length by omega)
   by_cases h2:l.getD 0 0=45
   · have e:((l.getD 0 0).toNat:Int)=45:=by rw [h2]; rfl
     rw [if_pos ⟨h1,h2⟩]
     simp (disch:=omega) only [S,zai,hb,zfi,List.take_length]
     have:=zsG (l.drop 1)
     refine Ev.bind (zaL (by simp; omega)) ?_
     simp (disch:=omega) only [S,Int.zero_sub]
     exact Ev.now _
   · have e:¬ ((l.getD 0 0).toNat:Int)=45:=fun e=>h2 (UInt8.toNat_inj.1 (by have:(45:UInt8).toNat=45:=rfl; omega))
     rw [if_neg (fun h=>h2 h.2)]
     simp (disch:=omega) only [S,zai,hb]
     exact Ev.bind (zaL hl) (Ev.now _)
 · rw [if_neg (fun h=>h1 h.1)]
   simp (disch:=omega) only [S,zai]
   exact Ev.bind (zaL hl) (Ev.now _)
theorem zhU {ws:List (List UInt8)} (hl:ws.length<=2000001) (hw:∀ w∈ws,w.length<=2000000) (d:Nat):∀ (i:Nat) (acc:List Int),acc.length=i->i+d=ws.length ->
    Ev (fun k=>qcvz.l0 k (ws.map bL) (ws.length:Int) (i:Int) acc) (match zeb (ws.drop i) with | some r=>(acc++r,true) | none=>([],false)):=by
 induction d with
 | zero =>
  intro i acc ha hi
  rw [List.drop_eq_nil_of_le (by omega)]
  refine qcvz.v0 ?_
  simp (disch:=omega) only [S,zeb,List.append_nil]
  exact Ev.now _
 | succ d ih =>
  intro i acc ha hi
  have hil:i < ws.length:=by omega
  have h:=ih (i+1) (acc++[(zd9 (ws.getD i [])).1]) (by simp [ha]) (by omega)
  have hml:(ws.map bL).length=ws.length:=List.length_map _
  rw [zaF [] hil]
  refine qcvz.v0 ?_
  simp (disch:=omega) only [S,List.length_map,zfX,zdB (hw _ (zaf hil))]
  unfold zeb
  cases hn:(zd9 (ws.getD i [])).2 with
  | true =>
   simp (disch:=omega) only [S]
   cases hr:zeb (ws.drop (i+1)) with
   | none=>rw [hr] at h; simpa using h
   | some r=>rw [hr] at h; simpa using h
  | false =>
   simp only [S]
   exact Ev.now _
theorem zdl {l:List UInt8} (h:l.length<=2000000) (c:UInt8):Ev (fun k=>qcvz.f k (bL l) (bL [c])) (zaJ c l):=by
 refine qcvz.v ?_
 simp only [S,za6 h,List.length_map]
 have:=zbP c l
 have h0:=zhU (ws:=zah c l) (by omega) (fun w hw=>by have:=zb8 c l w hw; omega) (zah c l).length 0 [] rfl (by omega)
 simp only [List.drop_zero,List.nil_append] at h0
 exact h0
def zay (f:List UInt8->Option Wk):List (List UInt8)->Option (List Wk)
 | []=>some []
 | w::ws=>match f w with
  | some p=>(zay f ws).map (p :: ·)
  | none=>none
def zaW (n:Nat) (ok:Wk->Bool):Option (List Wk)->List Wk×Bool
 | some L=>if zam n ok L=true then (L,true) else ([],false)
 | none=>([],false)
def zbk (c:UInt8) (w:List UInt8) (p:Wk):Prop:=zah c w=[Lib.itoa p.1,Lib.itoa p.2]
def zec (c:UInt8):List (List UInt8)->List Wk->Prop
 | [],[]=>True
 | w::ws,p::ps=>zbk c w p/\zec c ws ps
 | _,_=>False
theorem zdO {f:List UInt8->Option Wk} {c:UInt8} {ok:Wk->Bool} (hA:∀ w p,f w=some p->ok p=true->zbk c w p):∀ {ws:List (List UInt8)} {L:List Wk},zay f ws=some L->(∀ p∈L,ok p=true)->zec c ws L
 | [],L,h,_=>by cases h; trivial
 | w::ws,L,h,hok=>by
  unfold zay at h
  cases hf:f w with
  | none=>rw [hf] at h; cases h
  | some p =>
   rw [hf] at h
   cases hr:zay f ws with
   | none=>rw [hr] at h; cases h
   | some L' =>
    rw [hr] at h
    cases h
    exact ⟨hA w p hf (hok p List.mem_cons_self),zdO hA hr fun q hq=>hok q (List.mem_cons_of_mem _ hq)⟩
theorem zdP {f:List UInt8->Option Wk} {c:UInt8} {ok:Wk->Bool} (hB:∀ w p,zbk c w p->ok p=true->f w=some p):∀ {ws:List (List UInt8)} {L:List Wk},zec c ws L->(∀ p∈L,ok p=true)->zay f ws=some L
 | [],[],_,_=>rfl
 | [],_::_,h,_=>h.elim
 | _::_,[],h,_=>h.elim
 | w::ws,p::L,h,hok=>by
  unfold zay
  rw [hB w p h.1 (hok p List.mem_cons_self),zdP hB h.2 fun q hq=>hok q (List.mem_cons_of_mem _ hq)]
  rfl
theorem zf0 {f g:List UInt8->Option Wk} {c:UInt8} {n:Nat} {ok:Wk->Bool} (hA:∀ w p,f w=some p->ok p=true->zbk c w p) (hB:∀ w p,zbk c w p->ok p=true->f w=some p)
    (hC:∀ w p,g w=some p->ok p=true->zbk c w p) (hD:∀ w p,zbk c w p->ok p=true->g w=some p) (ws:List (List UInt8)):zaW n ok (zay f ws)=zaW n ok (zay g ws):=by
 have half:∀ {f g:List UInt8->Option Wk},(∀ w p,f w=some p->ok p=true->zbk c w p)->(∀ w p,zbk c w p->ok p=true->g w=some p)->∀ L,zay f ws=some L->zam n ok L=true->zay g ws=some L:=by
  intro f g hA hD L h hL
  have h2:=(zak.1 hL).2
  exact zdP hD (zdO hA h h2) h2
 cases hf:zay f ws with
 | some L =>
  by_cases hL:zam n ok L=true
  · rw [half hA hD L hf hL]
  · cases hg:zay g ws with
    | none=>simp [zaW,hL]
    | some L' =>
     by_cases hL':zam n ok L'=true
     · have:=half hC hB L' hg hL'
       rw [hf] at this
       cases this
       rfl
     · simp [zaW,hL,hL']
 | none =>
  cases hg:zay g ws with
  | none=>rfl
  | some L' =>
   by_cases hL':zam n ok L'=true
   · have:=half hC hB L' hg hL'
     rw [hf] at this
     cases this
   · simp [zaW,hL']
theorem zmw {c c1:UInt8} {m n:Nat} {ok:Wk->Bool} (hs:∀ w p,zbk c w p->ok p=true->w.length<=m) {l:List UInt8} {L:List Wk} (h:zec c (zah c1 l) L) (hL:zam n ok L=true):l.length+1<=n*(m+1):=by
 have key:∀ (ws:List (List UInt8)) (L:List Wk),zec c ws L->(∀ p∈L,ok p=true)->(ws.map (fun w=>w.length+1)).sum<=L.length*(m+1):=by
  intro ws
  induction ws with
  | nil=>intro L _ _; simp
  | cons w ws ih =>
   intro L h hok
   cases L with
   | nil=>exact h.elim
   | cons p L =>
    have h1:=hs w p h.1 (hok p List.mem_cons_self)
    have h2:=ih L h.2 fun q hq=>hok q (List.mem_cons_of_mem _ hq)
    rw [List.map_cons,List.sum_cons,List.length_cons,Nat.succ_mul]
    omega
 obtain ⟨h1,h2⟩:=zak.1 hL
 have:=key _ L h h2
 rw [zfk] at this
 exact Nat.le_trans this (Nat.mul_le_mul_right _ h1.2)
def zed (c:UInt8) (w:List UInt8):Option Wk:=if (zaJ c w).2=true/\(zaJ c w).1.length=2 then some ((zaJ c w).1.getD 0 0,(zaJ c w).1.getD 1 0) else none
def zfr (c:UInt8) (w:List UInt8):Option Wk:=if (zah c w).length=2 then (if (meR ((zah c w).getD 0 [])).2=true/\(meR ((zah c w).getD 1 [])).2=true then some ((meR ((zah c w).getD 0 [])).1,(meR ((zah c w).getD 1 [])).1) else none) else none
def zhV (c:UInt8) (w:List UInt8):Option Wk:=if (zah c w).length=2 then some (l1r ((zah c w).getD 0 []),l1r ((zah c w).getD 1 [])) else none
theorem len2 {α:Type} {l:List α} (h:l.length=2):∃ a b,l=[a,b]:=by
 match l,h with
 | [a,b],_=>exact ⟨a,b,rfl⟩
theorem ztr {ws:List (List UInt8)} {r:List Int} (h:zeb ws=some r):ws=r.map Lib.itoa:=by
 induction ws generalizing r with
 | nil=>simp [zeb] at h; subst h; rfl
 | cons w ws ih =>
  unfold zeb at h
  by_cases hn:(zd9 w).2=true
  · rw [if_pos hn] at h
    cases hr:zeb ws with
    | none=>rw [hr] at h; simp at h
    | some r' =>
     rw [hr] at h
     simp at h
     subst h
     rcases zjl w with ⟨n,_,_,e,hn'⟩ | ⟨hn',_⟩
     · rw [List.map_cons,hn',<- ih hr,<- e]
     · rw [hn'] at hn; cases hn
  · rw [if_neg hn] at h; simp at h
theorem zts {r:List Int} (h:∀ n∈r,-(100000000000000000:Nat) < n/\n < (100000000000000000:Nat)):zeb (r.map Lib.itoa)=some r:=by
 induction r with
 | nil=>rfl
 | cons n r ih =>
  have h1:=h n List.mem_cons_self
  rw [List.map_cons,zeb,zea h1.1 h1.2,ih (fun m hm=>h m (List.mem_cons_of_mem _ hm))]
  simp
theorem zjp {c:UInt8} {l:List UInt8} (h:(zaJ c l).2=true):zah c l=(zaJ c l).1.map Lib.itoa:=by
 unfold zaJ at *
 cases hr:zeb (zah c l) with
 | none=>rw [hr] at h; simp at h
 | some r=>exact ztr hr
theorem zjq {c:UInt8} {l:List UInt8} {r:List Int} (h:zah c l=r.map Lib.itoa) (hr:∀ n∈r,-(100000000000000000:Nat) < n/\n < (100000000000000000:Nat)):zaJ c l=(r,true):=by
 unfold zaJ
 rw [h,zts hr]
def okIn (lo hi:Int) (ok:Wk->Bool):Prop:=∀ p,ok p=true->(lo<=p.1/\p.1<=hi)/\(lo<=p.2/\p.2<=hi)
theorem zlc (c:UInt8) (ok:Wk->Bool) (w:List UInt8) (p:Wk) (h:zed c w=some p) (_:ok p=true):zbk c w p:=by
 unfold zed at h
 split at h
 · rename_i hc
   obtain ⟨a,b,e⟩:=len2 hc.2
   have h2:=zjp hc.1
   rw [e] at h h2
   cases h
   exact h2
 · cases h
theorem zld {c:UInt8} {ok:Wk->Bool} (hok:okIn (-999999) 999999 ok) (w:List UInt8) (p:Wk) (h:zbk c w p) (hp:ok p=true):zed c w=some p:=by
 obtain ⟨h1,h2⟩:=hok p hp
 have e:=zjq (r:=[p.1,p.2]) h (by intro n hn; simp only [List.mem_cons,List.not_mem_nil,or_false] at hn; omega)
 unfold zed
 rw [e]
 rfl
theorem ztt (c:UInt8) (ok:Wk->Bool) (w:List UInt8) (p:Wk) (h:zfr c w=some p) (_:ok p=true):zbk c w p:=by
 unfold zfr at h
 split at h
 · rename_i hc
   obtain ⟨a,b,e⟩:=len2 hc
   rw [e] at h
   simp only [List.getD_cons_zero,List.getD_cons_succ] at h
   split at h
   · rename_i hm
     rcases zjm a with ⟨n,_,_,ea,ra⟩ | ⟨ra,_⟩
     · rcases zjm b with ⟨m,_,_,eb,rb⟩ | ⟨rb,_⟩
       · rw [ra,rb] at h
         cases h
         unfold zbk
         rw [e,ea,eb]
       · rw [rb] at hm; cases hm.2
     · rw [ra] at hm; cases hm.1
   · cases h
 · cases h
theorem zom {n:Int} (h0 : -999999<=n) (h1:n<=999999):meR (Lib.itoa n)=(n,true):=by
 rcases zjm (Lib.itoa n) with ⟨m,h2,h3,e,r⟩ | ⟨_,hne⟩
 · rw [r,zoj (by omega) (by omega) (by omega) (by omega) e]
 · exact absurd rfl (hne n h0 h1)
theorem ztu {c:UInt8} {ok:Wk->Bool} (hok:okIn (-999999) 999999 ok) (w:List UInt8) (p:Wk) (h:zbk c w p) (hp:ok p=true):zfr c w=some p:=by
 obtain ⟨h1,h2⟩:=hok p hp
 unfold zbk at h
 unfold zfr
 rw [h]
 simp only [List.getD_cons_zero,List.getD_cons_succ,List.length_cons,List.length_nil,zom h1.1 h1.2,zom h2.1 h2.2]
 simp
theorem zqD {c:UInt8} {ok:Wk->Bool} (hok:okIn 0 999999 ok) (w:List UInt8) (p:Wk) (h:zhV c w=some p) (hp:ok p=true):zbk c w p:=by
 obtain ⟨h1,h2⟩:=hok p hp
 unfold zhV at h
 split at h
 · rename_i hc
   obtain ⟨a,b,e⟩:=len2 hc
   rw [e] at h
   simp only [List.getD_cons_zero,List.getD_cons_succ] at h
   cases h
   rcases zdj a with ⟨n,_,_,ea,ra⟩ | ⟨ra,_⟩
   · rcases zdj b with ⟨m,_,_,eb,rb⟩ | ⟨rb,_⟩
     · unfold zbk
       rw [e]
       show [a,b]=[Lib.itoa (l1r a),Lib.itoa (l1r b)]
       rw [ra,rb,<- ea,<- eb]
     · rw [rb] at h2; simp at h2
   · rw [ra] at h1; simp at h1
 · cases h
theorem zqE {c:UInt8} {ok:Wk->Bool} (hok:okIn 0 999999 ok) (w:List UInt8) (p:Wk) (h:zbk c w p) (hp:ok p=true):zhV c w=some p:=by
 obtain ⟨h1,h2⟩:=hok p hp
 unfold zbk at h
 unfold zhV
 rw [h]
 simp only [List.getD_cons_zero,List.getD_cons_succ,List.length_cons,List.length_nil,zdA h1.1 h1.2,zdA h2.1 h2.2]
 simp
theorem w_in:okIn (-999999) 999999 wOk:=fun p h=>by have:=zaO.1 h; omega
theorem l_in:okIn 0 999999 lOk:=fun p h=>by have:=zex.1 h; omega
theorem v_in:okIn 0 999999 vOk:=fun p h=>by have:=zdk.1 h; omega
theorem znw {ok:Wk->Bool} (h:okIn 0 999999 ok):okIn (-999999) 999999 ok:=fun p hp=>by have:=h p hp; omega
theorem zhe {c:UInt8} {w:List UInt8} {p:Wk} (h:zbk c w p):w.length=(Lib.itoa p.1).length+1+(Lib.itoa p.2).length:=by
 have:=zfk c w
 unfold zbk at h
 rw [h] at this
 simp at this
 omega
def za2 (l:List UInt8):List Wk×Bool:=zaW 8 wOk (zay (zed 58) (zah 44 l))
def zck (l:List UInt8):List Wk×Bool:=zaW 5 lOk (zay (zed 47) (zah 43 l))
def zbB (l:List UInt8):List Wk×Bool:=zaW 6 vOk (zay (zed 43) (zah 44 l))
theorem zjr {c c1:UInt8} {n m:Nat} {ok:Wk->Bool} (hs:∀ w p,zbk c w p->ok p=true->w.length<=m) {l:List UInt8} (hl:n*(m+1) < l.length+1):zaW n ok (zay (zed c) (zah c1 l))=([],false):=by
 cases hr:zay (zed c) (zah c1 l) with
 | none=>rfl
 | some L =>
  unfold zaW
  by_cases hL:zam n ok L=true
  · have:=zmw hs (zdO (zlc c ok) hr (zak.1 hL).2) hL
    omega
  · simp [hL]
theorem zdQ {F:Fu->List BA->Int->Int->List Wk->Option (List Wk×Bool)} {G:Fu->List Wk->Option Bool} {c:UInt8} {n:Nat} {ok:Wk->Bool} (hG:∀ L,Ev (fun k=>G k L) (zam n ok L))
    (step:∀ {x0:List BA} {x1 x2:Int} {x3:List Wk} {r},Ev (fun k=>if (iLt x2 x1) then ix x2 x0 <| (qcvz.f k (rd (bs []) x0 x2) (bL [c])).bind fun t0 =>
     if (!t0.2) then some ([],false) else if ((ln t0.1) != 2) then some ([],false) else gd (0 < (ln t0.1)) <| gd (1 < (ln t0.1)) <| gd (((lnN x3)+1)<=8796093022208) <| F k x0 x1 (W (x2+1)) (x3++[((rd 0 t0.1 0),(rd 0 t0.1 1))]) else (G k x3).bind fun t0 =>
     if (!t0) then some ([],false) else some (x3,true)) r->Ev (fun k=>F k x0 x1 x2 x3) r)
    {ws:List (List UInt8)} (hl:ws.length<=2000001) (hw:∀ w∈ws,w.length<=2000000) (d:Nat):∀ (i:Nat) (acc:List Wk),acc.length=i->i+d=ws.length ->
    Ev (fun k=>F k (ws.map bL) (ws.length:Int) (i:Int) acc) (zaW n ok ((zay (zed c) (ws.drop i)).map (acc ++ ·))):=by
 have hml:(ws.map bL).length=ws.length:=List.length_map _
 induction d with
 | zero =>
  intro i acc ha hi
  rw [List.drop_eq_nil_of_le (by omega)]
  refine step ?_
  simp (disch:=omega) only [S]
  refine Ev.bind (hG acc) ?_
  simp only [zay,Option.map_some,zaW,List.append_nil]
  cases zam n ok acc <;> simpa using Ev.now _
 | succ d ih =>
  intro i acc ha hi
  have hil:i < ws.length:=by omega
  rw [zaF [] hil]
  refine step ?_
  simp (disch:=omega) only [S,zfX]
  refine Ev.bind (zdl (hw _ (zaf hil)) c) ?_
  unfold zay
  cases h1:(zaJ c (ws.getD i [])).2 with
  | false =>
   have:zed c (ws.getD i [])=none:=by unfold zed; rw [if_neg (by rw [h1]; simp)]
   rw [this]
   simp only [S]
   exact Ev.now _
  | true =>
   by_cases h2:(zaJ c (ws.getD i [])).1.length=2
   · obtain ⟨a,b,e⟩:=len2 h2
     have hp:zed c (ws.getD i [])=some (a,b):=by unfold zed; rw [if_pos ⟨h1,h2⟩,e]; rfl
     have h:=ih (i+1) (acc++[(a,b)]) (by simp [ha]) (by omega)
     rw [hp,e]
     simp (disch:=omega) only [S,List.length_cons,List.length_nil]
     have e2:((zay (zed c) (ws.drop (i+1))).map ((a,b) :: ·)).map (acc ++ ·)=(zay (zed c) (ws.drop (i+1))).map (acc++[(a,b)] ++ ·):=by
      cases zay (zed c) (ws.drop (i+1)) <;> simp
     simp only [e2]
     exact h
   · have:zed c (ws.getD i [])=none:=by unfold zed; rw [if_neg (fun h=>h2 h.2)]
     rw [this]
     simp (disch:=omega) only [S]
     exact Ev.now _
theorem zfl {c:UInt8} {l:List UInt8} (h:l.length<=2000000):(zah c l).length<=2000001 /\ ∀ w∈zah c l,w.length<=2000000 :=
 ⟨by have:=zbP c l; omega,fun w hw=>by have:=zb8 c l w hw; omega⟩
theorem map_nil (o:Option (List Wk)):o.map (([]:List Wk) ++ ·)=o:=by cases o <;> simp
theorem zfs {l:List UInt8} (h:l.length<=2000000):Ev (fun k=>qcbz.f k (bL l)) (za2 l):=by
 refine qcbz.v ?_
 obtain ⟨h1,h2⟩:=zfl (c:=44) h
 have:=zdQ (c:=58) (F:=qcbz.l0) zaz qcbz.v0 h1 h2 (zah 44 l).length 0 [] rfl (by omega)
 rw [map_nil] at this
 simp only [show bs [44]=bL [44] from rfl,za6 h,S,List.length_map]
 exact this
theorem zhf {l:List UInt8} (h:l.length<=2000000):Ev (fun k=>qemz.f k (bL l)) (zck l):=by
 refine qemz.v ?_
 obtain ⟨h1,h2⟩:=zfl (c:=43) h
 have:=zdQ (c:=47) (F:=qemz.l0) zax qemz.v0 h1 h2 (zah 43 l).length 0 [] rfl (by omega)
 rw [map_nil] at this
 simp only [show bs [43]=bL [43] from rfl,za6 h,S,List.length_map]
 exact this
theorem zf1 {l:List UInt8} (h:l.length<=2000000):Ev (fun k=>qcuz.f k (bL l)) (zbB l):=by
 refine qcuz.v ?_
 obtain ⟨h1,h2⟩:=zfl (c:=44) h
 have:=zdQ (c:=43) (F:=qcuz.l0) zcv qcuz.v0 h1 h2 (zah 44 l).length 0 [] rfl (by omega)
 rw [map_nil] at this
 simp only [show bs [44]=bL [44] from rfl,za6 h,S,List.length_map]
 exact this
theorem zfE {F:Fu->List BA->Int->Int->List Wk->Option (List Wk×Bool)} {G:Fu->List Wk->Option Bool} {c:UInt8} {n:Nat} {ok:Wk->Bool} (hG:∀ L,Ev (fun k=>G k L) (zam n ok L))
    (step:∀ {x0:List BA} {x1 x2:Int} {x3:List Wk} {r},Ev (fun k=>if (iLt x2 x1) then ix x2 x0 <| (qfqz.f k (rd (bs []) x0 x2) (c.toNat:Int)).bind fun t0 =>
     if ((ln t0) != 2) then some ([],false) else gd (0 < (ln t0)) <| (qhqz.f k (rd (bs []) t0 0)).bind fun t1 =>
     gd (1 < (ln t0)) <| (qhqz.f k (rd (bs []) t0 1)).bind fun t2 =>
     gd (((lnN x3)+1)<=8796093022208) <| F k x0 x1 (W (x2+1)) (x3++[(t1,t2)]) else (G k x3).bind fun t0 =>
     if (!t0) then some ([],false) else some (x3,true)) r->Ev (fun k=>F k x0 x1 x2 x3) r)
    {ws:List (List UInt8)} (hl:ws.length<=2000001) (hw:∀ w∈ws,w.length<=2000000) (d:Nat):∀ (i:Nat) (acc:List Wk),acc.length=i->i+d=ws.length ->
    Ev (fun k=>F k (ws.map bL) (ws.length:Int) (i:Int) acc) (zaW n ok ((zay (zhV c) (ws.drop i)).map (acc ++ ·))):=by
 have hml:(ws.map bL).length=ws.length:=List.length_map _
 induction d with
 | zero =>
  intro i acc ha hi
  rw [List.drop_eq_nil_of_le (by omega)]
  refine step ?_
  simp (disch:=omega) only [S]
  refine Ev.bind (hG acc) ?_
  simp only [zay,Option.map_some,zaW,List.append_nil]
  cases zam n ok acc <;> simpa using Ev.now _
 | succ d ih =>
  intro i acc ha hi
  have hil:i < ws.length:=by omega
  have hwi:=hw _ (zaf (z:=[]) hil)
  rw [zaF [] hil]
  refine step ?_
  simp (disch:=omega) only [S,zfX]
  refine Ev.bind (zaU hwi c) ?_
  unfold zay
  by_cases h2:(zah c (ws.getD i [])).length=2
  · have hm:=zb8 c (ws.getD i [])
    obtain ⟨a,b,e⟩:=len2 h2
    have ha1:=hm a (by rw [e]; simp)
    have hb1:=hm b (by rw [e]; simp)
    have hp:zhV c (ws.getD i [])=some (l1r a,l1r b):=by unfold zhV; rw [if_pos h2,e]; rfl
    have h:=ih (i+1) (acc++[(l1r a,l1r b)]) (by simp [ha]) (by omega)
    rw [hp,e]
    have e2:((zay (zhV c) (ws.drop (i+1))).map ((l1r a,l1r b) :: ·)).map (acc ++ ·)=(zay (zhV c) (ws.drop (i+1))).map (acc++[(l1r a,l1r b)] ++ ·):=by
     cases zay (zhV c) (ws.drop (i+1)) <;> simp
    simp only [e2]
    simp (disch:=omega) only [S,List.map_cons,List.map_nil,List.length_cons,List.length_nil]
    refine Ev.bind (zaL (l:=a) (by omega)) ?_
    refine Ev.bind (zaL (l:=b) (by omega)) ?_
    exact h
  · have:zhV c (ws.getD i [])=none:=by unfold zhV; rw [if_neg h2]
    have hml2:((zah c (ws.getD i [])).map bL).length=(zah c (ws.getD i [])).length:=List.length_map _
    rw [this]
    simp (disch:=omega) only [S]
    exact Ev.now _
theorem zmx {ws:List (List UInt8)} (hl:ws.length<=2000001) (hw:∀ w∈ws,w.length<=2000000) (d:Nat):∀ (i:Nat) (acc:List Wk),acc.length=i->i+d=ws.length ->
    Ev (fun k=>qfuz.l0 k (ws.map bL) (ws.length:Int) (i:Int) acc) (zaW 8 wOk ((zay (zfr 58) (ws.drop i)).map (acc ++ ·))):=by
 have hml:(ws.map bL).length=ws.length:=List.length_map _
 induction d with
 | zero =>
  intro i acc ha hi
  rw [List.drop_eq_nil_of_le (by omega)]
  refine qfuz.v0 ?_
  simp (disch:=omega) only [S]
  refine Ev.bind (zbc acc) ?_
  simp only [zay,Option.map_some,zaW,List.append_nil]
  cases zam 8 wOk acc <;> simpa using Ev.now _
 | succ d ih =>
  intro i acc ha hi
  have hil:i < ws.length:=by omega
  have hwi:=hw _ (zaf (z:=[]) hil)
  rw [zaF [] hil]
  refine qfuz.v0 ?_
  simp (disch:=omega) only [S,zfX]
  refine Ev.bind (zaU hwi 58) ?_
  unfold zay
  by_cases h2:(zah 58 (ws.getD i [])).length=2
  · have hm:=zb8 58 (ws.getD i [])
    obtain ⟨a,b,e⟩:=len2 h2
    have ha1:=hm a (by rw [e]; simp)
    have hb1:=hm b (by rw [e]; simp)
    rw [e]
    simp (disch:=omega) only [S,List.map_cons,List.map_nil,List.length_cons,List.length_nil]
    refine Ev.bind (zfD (l:=a) (by omega)) ?_
    refine Ev.bind (zfD (l:=b) (by omega)) ?_
    cases hra:(meR a).2 with
    | false =>
     have hp:zfr 58 (ws.getD i [])=none:=by unfold zfr; rw [if_pos h2,e,if_neg (by simp [hra])]
     rw [hp]
     simp only [S]
     exact Ev.now _
    | true =>
     cases hrb:(meR b).2 with
     | false =>
      have hp:zfr 58 (ws.getD i [])=none:=by unfold zfr; rw [if_pos h2,e,if_neg (by simp [hrb])]
      rw [hp]
      simp only [S]
      exact Ev.now _
     | true =>
      have hp:zfr 58 (ws.getD i [])=some ((meR a).1,(meR b).1):=by unfold zfr; rw [if_pos h2,e,if_pos (by simp [hra,hrb])]; rfl
      have h:=ih (i+1) (acc++[((meR a).1,(meR b).1)]) (by simp [ha]) (by omega)
      have e2:((zay (zfr 58) (ws.drop (i+1))).map (((meR a).1,(meR b).1) :: ·)).map (acc ++ ·)=(zay (zfr 58) (ws.drop (i+1))).map (acc++[((meR a).1,(meR b).1)] ++ ·):=by
       cases zay (zfr 58) (ws.drop (i+1)) <;> simp
      rw [hp]
      simp only [e2]
      simp (disch:=omega) only [S]
      exact h
  · have:zfr 58 (ws.getD i [])=none:=by unfold zfr; rw [if_neg h2]
    have hml2:((zah 58 (ws.getD i [])).map bL).length=(zah 58 (ws.getD i [])).length:=List.length_map _
    rw [this]
    simp (disch:=omega) only [S]
    exact Ev.now _
theorem zaP {n:Int} (h0 : -1000<=n) (h1:n<=1000):(Lib.itoa n).length<=5:=zew (k:=3) (by omega) (by omega)
theorem znx {n:Int} (h0 : -100<=n) (h1:n<=100):(Lib.itoa n).length<=4:=zew (k:=2) (by omega) (by omega)
theorem zjs {l:List UInt8} (h:l.length<=2000000):Ev (fun k=>qfuz.f k (bL l)) (za2 l):=by
 have hs:∀ w p,zbk 58 w p->wOk p=true->w.length<=10:=by
  intro w p hw hp
  obtain ⟨h1,h2⟩:=zaO.1 hp
  have:=zhe hw
  have:=zaP h1.1 h1.2
  have:=znx h2.1 h2.2
  omega
 refine qfuz.v ?_
 by_cases hl:100 < l.length
 · unfold za2
   rw [zjr hs (by omega)]
   simp (disch:=omega) only [S,zai]
   exact Ev.now _
 · obtain ⟨h1,h2⟩:=zfl (c:=44) h
   have:=zmx h1 h2 (zah 44 l).length 0 [] rfl (by omega)
   rw [map_nil,List.drop_zero,<- zf0 (zlc 58 wOk) (zld w_in) (ztt 58 wOk) (ztu w_in)] at this
   simp (disch:=omega) only [S,zai]
   refine Ev.bind (zaU h 44) ?_
   simp only [S,List.length_map]
   exact this
theorem zjt {l:List UInt8} (h:l.length<=2000000):Ev (fun k=>qgaz.f k (bL l)) (zck l):=by
 have hs:∀ w p,zbk 47 w p->lOk p=true->w.length<=11:=by
  intro w p hw hp
  obtain ⟨h1,h2⟩:=zex.1 hp
  have:=zhe hw
  have:=zaP (n:=p.1) (by omega) (by omega)
  have:=zaP (n:=p.2) (by omega) (by omega)
  omega
 refine qgaz.v ?_
 by_cases hl:80 < l.length
 · unfold zck
   rw [zjr hs (by omega)]
   simp (disch:=omega) only [S,zai]
   exact Ev.now _
 · obtain ⟨h1,h2⟩:=zfl (c:=43) h
   have:=zfE (c:=47) (F:=qgaz.l0) zaK qgaz.v0 h1 h2 (zah 43 l).length 0 [] rfl (by omega)
   rw [map_nil,List.drop_zero,<- zf0 (zlc 47 lOk) (zld (znw l_in)) (zqD l_in) (zqE l_in)] at this
   simp (disch:=omega) only [S,zai]
   refine Ev.bind (zaU h 43) ?_
   simp only [S,List.length_map]
   exact this
theorem zju {l:List UInt8} (h:l.length<=2000000):Ev (fun k=>qgfz.f k (bL l)) (zbB l):=by
 have hs:∀ w p,zbk 43 w p->vOk p=true->w.length<=9:=by
  intro w p hw hp
  obtain ⟨h1,h2⟩:=zdk.1 hp
  have:=zhe hw
  have:=zew (n:=p.1) (k:=2) (by omega) (by omega)
  have:=zew (n:=p.2) (k:=2) (by omega) (by omega)
  omega
 refine qgfz.v ?_
 by_cases hl:60 < l.length
 · unfold zbB
   rw [zjr hs (by omega)]
   simp (disch:=omega) only [S,zai]
   exact Ev.now _
 · obtain ⟨h1,h2⟩:=zfl (c:=44) h
   have:=zfE (c:=43) (F:=qgfz.l0) zdN qgfz.v0 h1 h2 (zah 44 l).length 0 [] rfl (by omega)
   rw [map_nil,List.drop_zero,<- zf0 (zlc 43 vOk) (zld (znw v_in)) (zqD v_in) (zqE v_in)] at this
   simp (disch:=omega) only [S,zai]
   refine Ev.bind (zaU h 44) ?_
   simp only [S,List.length_map]
   exact this
abbrev Ch:=Int×(Int×(Int×Int))
def zat (l:List UInt8):Ch×Bool :=
 if (zaJ 45 l).2=true/\(zaJ 45 l).1.length=4/\cOk ((zaJ 45 l).1.getD 0 0) ((zaJ 45 l).1.getD 1 0) ((zaJ 45 l).1.getD 2 0) ((zaJ 45 l).1.getD 3 0)=true
 then (((zaJ 45 l).1.getD 0 0,((zaJ 45 l).1.getD 1 0,((zaJ 45 l).1.getD 2 0,(zaJ 45 l).1.getD 3 0))),true) else ((0,(0,(0,0))),false)
theorem len4 {α:Type} {l:List α} (h:l.length=4):∃ a b c d,l=[a,b,c,d]:=by
 match l,h with
 | [a,b,c,d],_=>exact ⟨a,b,c,d,rfl⟩
theorem rd0 {α:Type} (z a:α) (l:List α):rd z (a::l) 0=a:=rfl
theorem rd1 {α:Type} (z a b:α) (l:List α):rd z (a::b::l) 1=b:=rfl
theorem rd2 {α:Type} (z a b c:α) (l:List α):rd z (a::b::c::l) 2=c:=rfl
theorem rd3 {α:Type} (z a b c d:α) (l:List α):rd z (a::b::c::d::l) 3=d:=rfl
theorem zgG {l:List UInt8} (h:l.length<=2000000):Ev (fun k=>qefz.f k (bL l)) (zat l):=by
 refine qefz.v (Ev.bind (zdl h 45) ?_)
 cases h1:(zaJ 45 l).2 with
 | false =>
  have e:zat l=((0,(0,(0,0))),false):=by unfold zat; rw [if_neg (by rw [h1]; simp)]
  rw [e]
  simp only [S]
  exact Ev.now _
 | true =>
  by_cases h2:(zaJ 45 l).1.length=4
  · unfold zat
    obtain ⟨a,b,c,d,e⟩:=len4 h2
    rw [h1,e]
    simp (disch:=omega) only [S,List.length_cons,List.length_nil,rd0,rd1,rd2,rd3,zaT,List.getD_cons_zero,List.getD_cons_succ]
    cases cOk a b c d with
    | false=>simp; exact Ev.now _
    | true=>simp; exact Ev.now _
  · have e:zat l=((0,(0,(0,0))),false):=by unfold zat; rw [if_neg (fun h=>h2 h.2.1)]
    rw [e]
    simp (disch:=omega) only [S]
    exact Ev.now _
theorem zey {a l r d:Int}:cOk a l r d=true ↔ (1<=a/\a<=1000)/\(0<=l/\l<=20)/\(0<=r/\r<=20)/\0 < l+r/\l < d/\r < d/\d<=20:=by unfold cOk; rw [decide_eq_true_eq]
theorem zjv {l:List UInt8} (h:l.length<=2000000):Ev (fun k=>qfpz.f k (bL l)) (zat l):=by
 refine qfpz.v (Ev.bind (zaU h 45) ?_)
 have hsum:=zfk 45 l
 -- where the program reads a chase the text is one
 have key:∀ a b c d:Int,cOk a b c d=true->zah 45 l=[Lib.itoa a,Lib.itoa b,Lib.itoa c,Lib.itoa d]->l.length<=16/\zat l=((a,(b,(c,d))),true):=by
  intro a b c d hc hs
  have hc':=zey.1 hc
  have la:=zew (n:=a) (k:=3) (by omega) (by omega)
  have la2:(Lib.itoa a).length<=4:=by
   obtain ⟨u,rfl⟩ : ∃ u:Nat,a=(u:Int):=⟨a.toNat,by omega⟩
   rw [zcj]
   exact zev (k:=3) (by omega)
  have lx:∀ n:Int,0<=n->n<=20->(Lib.itoa n).length<=2:=by
   intro n h0 h1
   obtain ⟨u,rfl⟩ : ∃ u:Nat,n=(u:Int):=⟨n.toNat,by omega⟩
   rw [zcj]
   exact zev (k:=1) (by omega)
  have lb:=lx b (by omega) (by omega)
  have lc:=lx c (by omega) (by omega)
  have ld:=lx d (by omega) (by omega)
  refine ⟨?_,?_⟩
  · rw [hs] at hsum
    simp at hsum
    omega
  · have e:=zjq (r:=[a,b,c,d]) hs (by intro n hn; simp only [List.mem_cons,List.not_mem_nil,or_false] at hn; omega)
    unfold zat
    rw [e]
    simp [hc]
 have no:(∀ a b c d:Int,cOk a b c d=true->¬ zah 45 l=[Lib.itoa a,Lib.itoa b,Lib.itoa c,Lib.itoa d])->zat l=((0,(0,(0,0))),false):=by
  intro hn
  unfold zat
  rw [if_neg]
  rintro ⟨h1,h2,h3⟩
  have h4:=zjp h1
  obtain ⟨a,b,c,d,e⟩:=len4 h2
  rw [e] at h3 h4
  exact hn a b c d h3 h4
 have hml:((zah 45 l).map bL).length=(zah 45 l).length:=List.length_map _
 by_cases hl:16 < l.length
 · rw [no fun a b c d hc hs=>by have:=(key a b c d hc hs).1; omega]
   simp (disch:=omega) only [S,zai]
   exact Ev.now _
 · by_cases h4:(zah 45 l).length=4
   · have hm:=zb8 45 l
     obtain ⟨a,b,c,d,e⟩:=len4 h4
     rw [e] at hm ⊢
     have ha:=hm a (by simp)
     have hb:=hm b (by simp)
     have hc:=hm c (by simp)
     have hd:=hm d (by simp)
     simp (disch:=omega) only [S,zai,List.map_cons,List.map_nil,List.length_cons,List.length_nil,rd0,rd1,rd2,rd3]
     refine Ev.bind (zaL (l:=a) (by omega)) (Ev.bind (zaL (l:=b) (by omega)) (Ev.bind (zaL (l:=c) (by omega)) (Ev.bind (zaL (l:=d) (by omega)) ?_)))
     simp only [za0,S]
     cases hk:cOk (l1r a) (l1r b) (l1r c) (l1r d) with
     | true =>
      have hk':=zey.1 hk
      have ea:∀ x,0<=l1r x->x=Lib.itoa (l1r x):=by
       intro x hx
       rcases zdj x with ⟨n,_,_,e1,e2⟩ | ⟨e1,_⟩
       · rw [e2]; exact e1
       · omega
      rw [(key _ _ _ _ hk (by rw [e,<- ea a (by omega),<- ea b (by omega),<- ea c (by omega),<- ea d (by omega)])).2]
      simp only [S]
      exact Ev.now _
     | false =>
      rw [no]
      · simp only [S]
        exact Ev.now _
      · intro a' b' c' d' hc' hs
        rw [e] at hs
        simp only [List.cons.injEq,and_true] at hs
        obtain ⟨rfl,rfl,rfl,rfl⟩:=hs
        have hc2:=zey.1 hc'
        rw [zdA (by omega) (by omega),zdA (by omega) (by omega),zdA (by omega) (by omega),zdA (by omega) (by omega),hc'] at hk
        cases hk
   · rw [no fun a b c d hc hs=>h4 (by rw [hs]; rfl)]
     simp (disch:=omega) only [S,zai]
     exact Ev.now _
theorem hML:140737488355328<=maxLen:=by decide
theorem zqF (s x:List UInt8):∀ xs:List (List UInt8),Lib.join (xs++[x]) s=Lib.join xs s++(if xs.length=0 then [] else s)++x
 | []=>by simp [Lib.join,List.intercalate]
 | w::ws=>by
  rw [List.cons_append,Lib.join_cons,Lib.join_cons]
  simp [Lib.joinTail]
theorem zgH {s:List UInt8} {m:Nat}:∀ {L:List (List UInt8)},(∀ w∈L,w.length<=m)->(Lib.join L s).length<=L.length*(m+s.length):=by
 intro L
 induction L with
 | nil=>intro _; simp [Lib.join,List.intercalate]
 | cons w ws ih =>
  intro h
  have key:∀ ws:List (List UInt8),(∀ w∈ws,w.length<=m)->(Lib.joinTail s ws).length<=ws.length*(m+s.length):=by
   intro ws
   induction ws with
   | nil=>intro _; simp [Lib.joinTail]
   | cons v vs ih =>
    intro h
    have h1:=h v List.mem_cons_self
    have h2:=ih fun w hw=>h w (List.mem_cons_of_mem _ hw)
    have e:Lib.joinTail s (v::vs)=s++v++Lib.joinTail s vs:=by simp [Lib.joinTail]
    rw [e,List.length_append,List.length_append,List.length_cons,Nat.succ_mul]
    omega
  have h1:=h w List.mem_cons_self
  have h2:=key ws fun w hw=>h w (List.mem_cons_of_mem _ hw)
  rw [Lib.join_cons,List.length_append,List.length_cons,Nat.succ_mul]
  omega
theorem zih {F:Fu->BA->Int->Option BA} {L:List (List UInt8)} {c:UInt8} {m:Nat} (hm:∀ w∈L,w.length<=m) (hb:L.length*(m+1)<=1000000000)
    (hend:∀ x,Ev (fun k=>F k (bL x) (L.length:Int)) (bL x))
    (hstep:∀ (i:Nat) (x:List UInt8) r,i < L.length->x.length<=1000000000->Ev (fun k=>F k (bL (x++(if i=0 then [] else [c])++L.getD i [])) ((i+1:Nat):Int)) r->Ev (fun k=>F k (bL x) (i:Int)) r) :
    Ev (fun k=>F k (bs []) 0) (bL (Lib.join L [c])):=by
 have key:∀ (d i:Nat),i+d=L.length->Ev (fun k=>F k (bL (Lib.join (L.take i) [c])) (i:Int)) (bL (Lib.join L [c])):=by
  intro d
  induction d with
  | zero =>
   intro i hi
   rw [List.take_of_length_le (by omega),show i=L.length by omega]
   exact hend _
  | succ d ih =>
   intro i hi
   have h:=ih (i+1) (by omega)
   have hl:(Lib.join (L.take i) [c]).length<=(L.take i).length*(m+1):=zgH (s:=[c]) fun w hw=>hm w (List.mem_of_mem_take hw)
   have h2:(L.take i).length*(m+1)<=L.length*(m+1):=Nat.mul_le_mul_right _ (by rw [List.length_take]; omega)
   rw [zbA [] (show i < L.length by omega),zqF] at h
   have e:(L.take i).length=i:=by rw [List.length_take]; omega
   rw [e] at h
   exact hstep i _ _ (by omega) (by omega) h
 exact key L.length 0 (by omega)
theorem zcl {L:List (List UInt8)} {c:UInt8} {m:Nat} (hm:∀ w∈L,w.length<=m) (hb:L.length*(m+1)<=1000000000) (hl:L.length<=1000000000):qgiz.f (L.map bL) (bL [c])=some (bL (Lib.join L [c])):=by
 have e:(L.map bL).map (fun b=>b.data.toList)=L:=by
  rw [List.map_map]
  exact (List.map_congr_left (fun x _=>by simp [bL])).trans (List.map_id L)
 have e2:(bL [c]).data.toList=[c]:=by simp [bL]
 have e3:zhT (L.map bL) (bL [c])=bL (Lib.join L [c]):=by
  unfold zhT
  rw [e,e2]
  rfl
 have:=zgH (s:=[c]) hm
 unfold qgiz.f zod
 rw [e3,if_pos (by rw [List.length_map]; unfold room; omega),if_pos (by rw [zai]; unfold room; simp at this; omega)]
theorem zii {β:Type} {F:Fu->Int->List BA->Option β} {L:List (List UInt8)} {r:β} (hend:Ev (fun k=>F k (L.length:Int) (L.map bL)) r)
    (hstep:∀ (i:Nat) (xs:List BA),i < L.length->xs.length=L.length->Ev (fun k=>F k ((i+1:Nat):Int) (xs.set i (bL (L.getD i [])))) r->Ev (fun k=>F k (i:Int) xs) r) :
    Ev (fun k=>F k 0 (List.replicate L.length (bs []))) r:=by
 have key:∀ (d i:Nat),i+d=L.length->Ev (fun k=>F k (i:Int) ((L.take i).map bL++List.replicate (L.length-i) (bs []))) r:=by
  intro d
  induction d with
  | zero =>
   intro i hi
   rw [List.take_of_length_le (by omega),show L.length-i=0 by omega,List.replicate_zero,List.append_nil,show i=L.length by omega]
   exact hend
  | succ d ih =>
   intro i hi
   have h:=ih (i+1) (by omega)
   rw [<- zqw bL ([]:List UInt8) (bs []) (show i < L.length by omega)] at h
   exact hstep i _ (by omega) (zr1 bL (bs []) (by omega)) h
 exact key L.length 0 (by omega)
def i64 (n:Int):Prop:=-9223372036854775807<=n/\n<=9223372036854775807
theorem ze1 {n:Int} (h:i64 n):qfyz.f n=some (bL (Lib.itoa n)):=by
 unfold i64 at h
 unfold qfyz.f zoc
 rw [if_pos (by omega),if_pos (by omega)]
 rfl
theorem zfF {n:Int} (h:i64 n):(Lib.itoa n).length<=20:=zpc (by unfold i64 at h; omega) (by unfold i64 at h; omega)
theorem zfG (u:Nat):u<=9223372036854775807->Ev (fun k=>qihz.f k (u:Int)) (bL (Lib.decDigits u)):=by
 induction u using Nat.strongRecOn with
 | ind u ih =>
  intro hu
  have nums:∀ x:Nat,x<=200->bytesOf [IntKind.wrap .u8 (W (48+(x:Int)))]=bL [UInt8.ofNat (48+x)]:=by
   intro x hx
   rw [w64 (by omega) (by omega),show IntKind.wrap .u8 (48+(x:Int))=48+(x:Int) by simp [IntKind.wrap,IntKind.bits,IntKind.signed]; omega]
   show (⟨#[UInt8.ofNat (48+(x:Int)).toNat]⟩ : ByteArray)=bL [UInt8.ofNat (48+x)]
   rw [show (48+(x:Int)).toNat=48+x by omega]
   rfl
  refine qihz.v ?_
  by_cases h:u < 10
  · rw [zeu h,nums u (by omega)]
    simp (disch:=omega) only [S]
    exact Ev.now _
  · rw [zk9 (by omega)]
    have h1:=ih (u / 10) (by omega) (by omega)
    have e1:W (Int.tdiv (u:Int) 10)=((u / 10:Nat):Int):=by
     rw [Int.tdiv_eq_ediv_of_nonneg (by omega),w64 (by omega) (by omega)]; omega
    have e2:Int.tmod (u:Int) 10=((u % 10:Nat):Int):=by
     rw [Int.tmod_eq_emod_of_nonneg (by omega)]; omega
    have hl:=zev (u:=u / 10) (k:=18) (by omega)
    have hM:=hML
    simp only [e1,e2,nums (u % 10) (by omega)]
    simp (disch:=omega) only [S]
    refine Ev.bind h1 ?_
    simp (disch:=omega) only [S,zai,List.length_singleton,zbb]
    exact Ev.now _
theorem zez {n:Int} (h0:0<=n) (h:i64 n):Ev (fun k=>qihz.f k n) (bL (Lib.itoa n)):=by
 obtain ⟨u,rfl⟩ : ∃ u:Nat,n=(u:Int):=⟨n.toNat,by omega⟩
 unfold i64 at h
 rw [zcj]
 exact zfG u (by omega)
theorem zbd {n:Int} (h:i64 n):Ev (fun k=>qiiz.f k n) (bL (Lib.itoa n)):=by
 have h':=h
 unfold i64 at h'
 refine qiiz.v ?_
 by_cases hn:n < 0
 · obtain ⟨u,rfl⟩ : ∃ u:Nat,n = -(u:Int):=⟨n.natAbs,by omega⟩
   have hl:=zev (u:=u) (k:=18) (by omega)
   have hM:=hML
   rw [zet (by omega)]
   simp (disch:=omega) only [S,Int.zero_sub,Int.neg_neg]
   refine Ev.bind (zfG u (by omega)) ?_
   simp (disch:=omega) only [S,zai,show bs [45]=bL [45] from rfl,zbb]
   exact Ev.now _
 · simp (disch:=omega) only [S]
   exact Ev.bind (zez (by omega) h) (Ev.now _)
def numT (c:UInt8) (L:List Int):List UInt8:=Lib.join (L.map Lib.itoa) [c]
theorem zcH {c:UInt8} {L:List Int} (h:∀ n∈L,i64 n):(numT c L).length<=L.length*21:=by
 have:=zgH (s:=[c]) (L:=L.map Lib.itoa) (m:=20) fun w hw=>by
  obtain ⟨n,hn,rfl⟩:=List.mem_map.1 hw
  exact zfF (h n hn)
 unfold numT
 simpa using this
theorem za3 {L:List Int} {c:UInt8} (hL:L.length<=1000000) (hn:∀ n∈L,i64 n):Ev (fun k=>qczz.f k L (bL [c])) (bL (numT c L)):=by
 have hlm:(L.map Lib.itoa).length=L.length:=List.length_map _
 have hm:∀ w∈L.map Lib.itoa,w.length<=20:=fun w hw=>by
  obtain ⟨n,h,rfl⟩:=List.mem_map.1 hw
  exact zfF (hn n h)
 refine qczz.v ?_
 simp (disch:=omega) only [S]
 rw [<- hlm]
 refine zii (F:=fun k i xs=>qczz.l0 k (bL [c]) L ((L.map Lib.itoa).length:Int) i xs) ?_ ?_
 · refine qczz.v0 ?_
   simp (disch:=omega) only [S,zcl hm (by omega) (by omega)]
   exact Ev.now _
 · intro i xs hi hx h
   have hi':i < L.length:=by omega
   refine qczz.v0 ?_
   simp (disch:=omega) only [S,ze1 (hn _ (zaf (z:=0) hi'))]
   have e:(L.map Lib.itoa).getD i []=Lib.itoa (L.getD i 0):=by simp [hi']
   rw [e] at h
   exact h
theorem zfH {n:Int} (h:i64 n) (b:Bool):qhjz.f n b=some (bL (Lib.itoa n),b):=by
 unfold qhjz.f
 simp only [ze1 h,S]
def zui:List UInt8:=[45]
def noT:List UInt8:=[110,111]
def zny (L:List Int):List UInt8:=if L.length=0 then zui else numT 44 L
theorem ze2 {L:List Int} (hL:L.length<=1000000) (hn:∀ n∈L,i64 n) (b:Bool):Ev (fun k=>qfwz.f k L b) (bL (zny L),b):=by
 refine qfwz.v ?_
 unfold zny
 by_cases h:L.length=0
 · rw [if_pos h]
   simp (disch:=omega) only [S]
   exact Ev.now _
 · rw [if_neg h]
   simp (disch:=omega) only [S]
   exact Ev.bind (za3 (c:=44) hL hn) (Ev.now _)
theorem zcO {a b:Int} (ha:i64 a) (hb:i64 b) (t:Bool):Ev (fun k=>qikz.f k a b t) (bL (numT 47 [a,b]),t):=by
 refine qikz.v (Ev.bind (za3 (c:=47) (L:=[a,b]) (by simp) ?_) (Ev.now _))
 intro n h
 simp only [List.mem_cons,List.not_mem_nil,or_false] at h
 rcases h with rfl | rfl
 · exact ha
 · exact hb
def znz (c1 c2:UInt8) (L:List (List Int)):List UInt8:=Lib.join (L.map (numT c1)) [c2]
theorem zgI {L:List (List Int)} {c1 c2:UInt8} (h0:0 < L.length) (hL:L.length<=1000) (hr:∀ r∈L,r.length<=1000 /\ ∀ n∈r,i64 n) (b:Bool):Ev (fun k=>qifz.f k L (bL [c1]) (bL [c2]) b) (bL (znz c1 c2 L),b):=by
 have hlm:(L.map (numT c1)).length=L.length:=List.length_map _
 have hm:∀ w∈L.map (numT c1),w.length<=21000:=fun w hw=>by
  obtain ⟨r,h,rfl⟩:=List.mem_map.1 hw
  have:=zcH (c:=c1) (hr r h).2
  have:=(hr r h).1
  omega
 refine qifz.v ?_
 simp (disch:=omega) only [S]
 rw [<- hlm]
 refine zii (F:=fun k i xs=>qifz.l0 k (bL [c1]) (bL [c2]) b L ((L.map (numT c1)).length:Int) i xs) ?_ ?_
 · refine qifz.v0 ?_
   simp (disch:=omega) only [S,zcl hm (by omega) (by omega)]
   exact Ev.now _
 · intro i xs hi hx h
   have hi':i < L.length:=by omega
   obtain ⟨q1,q2⟩:=hr _ (zaf (z:=[]) hi')
   refine qifz.v0 ?_
   simp (disch:=omega) only [S]
   refine Ev.bind (za3 (c:=c1) (by omega) q2) ?_
   have e:(L.map (numT c1)).getD i []=numT c1 (L.getD i []):=by simp [hi']
   rw [e] at h
   exact h
def zbu (a b:Int) (t:Bool):List UInt8:=if t=true then numT 47 [a,b] else noT
theorem zr5 (c:UInt8) (a b:Int):numT c [a,b]=Lib.itoa a++[c]++Lib.itoa b:=by
 unfold numT
 rw [List.map_cons,List.map_cons,List.map_nil,Lib.join_cons]
 simp [Lib.joinTail]
theorem zdR {a b:Int} (ha:i64 a) (hb:i64 b) (t:Bool):Ev (fun k=>qhiz.f k a b t) (bL (zbu a b t)):=by
 have hM:=hML
 have h1:=zfF ha
 have h2:=zfF hb
 refine qhiz.v ?_
 cases t with
 | false=>simp only [S]; exact Ev.now _
 | true =>
  simp only [S]
  refine Ev.bind (zbd ha) ?_
  simp (disch:=omega) only [S,zai]
  refine Ev.bind (zbd hb) ?_
  simp (disch:=omega) only [S,zai,show bs [47]=bL [47] from rfl,zbb,List.length_append,List.length_cons,List.length_nil]
  refine zbK ?_
  unfold zbu
  rw [if_pos rfl,zr5]
theorem zhW {L:List Int} (hL:L.length<=1000000) (hn:∀ n∈L,i64 n):Ev (fun k=>qgyz.l0 k (bs []) L (L.length:Int) 0) (bL (numT 44 L)):=by
 have hM:=hML
 have hlm:(L.map Lib.itoa).length=L.length:=List.length_map _
 have hm:∀ w∈L.map Lib.itoa,w.length<=20:=fun w hw=>by
  obtain ⟨n,h,rfl⟩:=List.mem_map.1 hw
  exact zfF (hn n h)
 rw [<- hlm]
 refine zih (F:=fun k x i=>qgyz.l0 k x L ((L.map Lib.itoa).length:Int) i) (c:=44) hm (by omega) ?_ ?_
 · intro x
   refine qgyz.v0 ?_
   simp (disch:=omega) only [S]
   exact Ev.now _
 · intro i x r hi hx h
   have hi':i < L.length:=by omega
   have hq:=hn _ (zaf (z:=0) hi')
   have h20:=zfF hq
   have e:(L.map Lib.itoa).getD i []=Lib.itoa (L.getD i 0):=by simp [hi']
   rw [e] at h
   refine qgyz.v0 ?_
   by_cases h0:i=0
   · subst h0
     simp (disch:=omega) only [S]
     refine Ev.bind (zbd hq) ?_
     simp (disch:=omega) only [S,zai,zbb]
     simpa using h
   · rw [if_neg h0] at h
     simp (disch:=omega) only [S,zai]
     refine Ev.bind (zbd hq) ?_
     simp (disch:=omega) only [S,show bs [44]=bL [44] from rfl,zbb,zai,List.length_append,List.length_cons,List.length_nil]
     exact h
def zij (L:List Int) (t:Bool):List UInt8:=if t=true then zny L else noT
theorem zdS {L:List Int} (hL:L.length<=1000000) (hn:∀ n∈L,i64 n) (t:Bool):Ev (fun k=>qgyz.f k L t) (bL (zij L t)):=by
 refine qgyz.v ?_
 unfold zij
 cases t with
 | false=>simp only [S]; exact Ev.now _
 | true =>
  unfold zny
  by_cases h:L.length=0
  · rw [if_pos rfl,if_pos h]
    simp (disch:=omega) only [S]
    exact Ev.now _
  · rw [if_pos rfl,if_neg h]
    simp (disch:=omega) only [S]
    exact zhW hL hn
theorem zjY {L:List (List Int)} (h0:0 < L.length) (hL:L.length<=1000) (hr:∀ r∈L,(0 < r.length/\r.length<=1000) /\ ∀ n∈r,i64 n):Ev (fun k=>qgwz.f k L true) (bL (znz 44 32 L)):=by
 have hM:=hML
 have hlm:(L.map (numT 44)).length=L.length:=List.length_map _
 have hm:∀ w∈L.map (numT 44),w.length<=21000:=fun w hw=>by
  obtain ⟨r,h,rfl⟩:=List.mem_map.1 hw
  have:=zcH (c:=44) (hr r h).2
  have:=(hr r h).1
  omega
 refine qgwz.v ?_
 simp (disch:=omega) only [S]
 rw [<- hlm]
 refine zih (F:=fun k x i=>qgwz.l0 k x L ((L.map (numT 44)).length:Int) i) (c:=32) hm (by omega) ?_ ?_
 · intro x
   refine qgwz.v0 ?_
   simp (disch:=omega) only [S]
   exact Ev.now _
 · intro i x r hi hx h
   have hi':i < L.length:=by omega
   obtain ⟨q1,q2⟩:=hr _ (zaf (z:=[]) hi')
   have hlen:=zcH (c:=44) q2
   have e:(L.map (numT 44)).getD i []=numT 44 (L.getD i []):=by simp [hi']
   have ht:=zdS (L:=L.getD i []) (by omega) q2 true
   have e2:zij (L.getD i []) true=numT 44 (L.getD i []):=by unfold zij zny; rw [if_pos rfl,if_neg (by omega)]
   rw [e2] at ht
   rw [e] at h
   refine qgwz.v0 ?_
   by_cases h0:i=0
   · subst h0
     simp (disch:=omega) only [S]
     refine Ev.bind ht ?_
     simp (disch:=omega) only [S,zai,zbb]
     simpa using h
   · rw [if_neg h0] at h
     simp (disch:=omega) only [S,zai]
     refine Ev.bind ht ?_
     simp (disch:=omega) only [S,show bs [32]=bL [32] from rfl,zbb,zai,List.length_append,List.length_cons,List.length_nil]
     exact h
theorem zjw {L:List (List Int)} (hL:L.length<=1000) (hr:∀ r∈L,r.length=2 /\ ∀ n∈r,i64 n):Ev (fun k=>qfxz.f k L true) (bL (znz 47 44 L)):=by
 have hM:=hML
 have hlm:(L.map (numT 47)).length=L.length:=List.length_map _
 have hm:∀ w∈L.map (numT 47),w.length<=42:=fun w hw=>by
  obtain ⟨r,h,rfl⟩:=List.mem_map.1 hw
  have:=zcH (c:=47) (hr r h).2
  have:=(hr r h).1
  omega
 refine qfxz.v ?_
 simp (disch:=omega) only [S]
 rw [<- hlm]
 refine zih (F:=fun k x i=>qfxz.l0 k x L ((L.map (numT 47)).length:Int) i) (c:=44) hm (by omega) ?_ ?_
 · intro x
   refine qfxz.v0 ?_
   simp (disch:=omega) only [S]
   exact Ev.now _
 · intro i x r hi hx h
   have hi':i < L.length:=by omega
   obtain ⟨q1,q2⟩:=hr _ (zaf (z:=[]) hi')
   obtain ⟨a,b,eab⟩:=len2 q1
   have hlen:=zcH (c:=47) q2
   have e:(L.map (numT 47)).getD i []=numT 47 (L.getD i []):=by simp [hi']
   rw [eab] at q2 e hlen
   have ht:=zdR (a:=a) (b:=b) (q2 a (by simp)) (q2 b (by simp)) true
   have e2:zbu a b true=numT 47 [a,b]:=rfl
   rw [e2] at ht
   rw [e] at h
   simp only [List.length_cons,List.length_nil] at hlen
   refine qfxz.v0 ?_
   by_cases h0:i=0
   · subst h0
     simp (disch:=omega) only [S,eab,List.length_cons,List.length_nil,rd0,rd1]
     refine Ev.bind ht ?_
     simp (disch:=omega) only [S,zai,zbb]
     simpa using h
   · rw [if_neg h0] at h
     simp (disch:=omega) only [S,zai,eab,List.length_cons,List.length_nil,rd0,rd1]
     refine Ev.bind ht ?_
     simp (disch:=omega) only [S,show bs [44]=bL [44] from rfl,zbb,zai,List.length_append,List.length_cons,List.length_nil]
     exact h
theorem zhX {n:Int} (h0:0<=n) (h:i64 n) (t:Bool):Ev (fun k=>qexz.f k n t) (bL (if t=true then Lib.itoa n else noT)):=by
 refine qexz.v ?_
 cases t with
 | false=>simp only [S]; exact Ev.now _
 | true=>simp only [S]; exact Ev.bind (zez h0 h) (Ev.now _)
def wkT (l:List Wk):List UInt8:=znz 58 44 (l.map fun w=>[w.1,w.2])
theorem zmy (l:List Wk):wkT l=Lib.join (l.map fun w=>numT 58 [w.1,w.2]) [44]:=by
 unfold wkT znz
 rw [List.map_map]
 rfl
theorem zdm (l:List Wk):Ev (fun k=>qcwz.f k l) (if zam 8 wOk l=true then (bL (wkT l),true) else (bs [],false)):=by
 refine qcwz.v (Ev.bind (zaz l) ?_)
 cases hok:zam 8 wOk l with
 | false=>simp only [S]; exact Ev.now _
 | true =>
  obtain ⟨h1,h2⟩:=zak.1 hok
  have hlm:(l.map fun w=>numT 58 [w.1,w.2]).length=l.length:=List.length_map _
  have hi64:∀ w∈l,∀ n∈[w.1,w.2],i64 n:=by
   intro w hw n hn
   have:=zaO.1 (h2 w hw)
   unfold i64
   simp only [List.mem_cons,List.not_mem_nil,or_false] at hn
   omega
  have hm:∀ x∈l.map fun w=>numT 58 [w.1,w.2],x.length<=42:=fun x hx=>by
   obtain ⟨w,hw,rfl⟩:=List.mem_map.1 hx
   have:=zcH (c:=58) (hi64 w hw)
   simpa using this
  simp (disch:=omega) only [S]
  rw [zmy]
  have hg:∀ i,i < l.length->(l.map fun w=>numT 58 [w.1,w.2]).getD i []=numT 58 [(l.getD i (0,0)).1,(l.getD i (0,0)).2]:=fun i hi=>by simp [hi]
  generalize (l.map fun w=>numT 58 [w.1,w.2])=L at *
  rw [<- hlm]
  refine zii (F:=fun k i xs=>qcwz.l0 k l (L.length:Int) i xs) ?_ ?_
  · refine qcwz.v0 ?_
    simp (disch:=omega) only [S,show bs [44]=bL [44] from rfl,zcl hm (by omega) (by omega)]
    exact Ev.now _
  · intro i xs hi hx h
    have hi':i < l.length:=by omega
    refine qcwz.v0 ?_
    simp (disch:=omega) only [S]
    refine Ev.bind (za3 (c:=58) (by simp) (hi64 _ (zaf (z:=(0,0)) hi'))) ?_
    rw [hg i hi'] at h
    exact h
theorem zcI {l:List Wk} (hok:zam 8 wOk l=true):Ev (fun k=>qhbz.f k l) (bL (wkT l)):=by
 have hM:=hML
 obtain ⟨h1,h2⟩:=zak.1 hok
 have hlm:(l.map fun w=>numT 58 [w.1,w.2]).length=l.length:=List.length_map _
 have hm:∀ x∈l.map fun w=>numT 58 [w.1,w.2],x.length<=42:=fun x hx=>by
  obtain ⟨w,hw,rfl⟩:=List.mem_map.1 hx
  have:=zcH (c:=58) (L:=[w.1,w.2]) (fun n hn=>by
   have:=zaO.1 (h2 w hw)
   unfold i64
   simp only [List.mem_cons,List.not_mem_nil,or_false] at hn
   omega)
  simpa using this
 refine qhbz.v ?_
 simp only [S]
 rw [zmy]
 have hg:∀ i,i < l.length->(l.map fun w=>numT 58 [w.1,w.2]).getD i []=numT 58 [(l.getD i (0,0)).1,(l.getD i (0,0)).2]:=fun i hi=>by simp [hi]
 generalize (l.map fun w=>numT 58 [w.1,w.2])=L at *
 rw [<- hlm]
 refine zih (F:=fun k x i=>qhbz.l0 k x l (L.length:Int) i) (c:=44) hm (by omega) ?_ ?_
 · intro x
   refine qhbz.v0 ?_
   simp (disch:=omega) only [S]
   exact Ev.now _
 · intro i x r hi hx h
   have hi':i < l.length:=by omega
   have hw:=zaO.1 (h2 _ (zaf (z:=(0,0)) hi'))
   have ha:i64 (l.getD i (0,0)).1:=by unfold i64; omega
   have hb:i64 (l.getD i (0,0)).2:=by unfold i64; omega
   have la:=zfF ha
   have lb:=zfF hb
   rw [hg i hi',zr5] at h
   refine qhbz.v0 ?_
   by_cases h0:i=0
   · subst h0
     simp (disch:=omega) only [S]
     refine Ev.bind (zbd ha) ?_
     simp (disch:=omega) only [S,zai,show bs [58]=bL [58] from rfl,zbb]
     refine Ev.bind (zbd hb) ?_
     simp (disch:=omega) only [S,zai,zbb,List.length_append,List.length_cons,List.length_nil]
     simpa using h
   · rw [if_neg h0] at h
     simp (disch:=omega) only [S,zai]
     refine Ev.bind (zbd ha) ?_
     simp (disch:=omega) only [S,zai,show bs [58]=bL [58] from rfl,zbb]
     refine Ev.bind (zbd hb) ?_
     simp (disch:=omega) only [S,show bs [44]=bL [44] from rfl,zbb,zai,List.length_append,List.length_cons,List.length_nil]
     exact h
def low1 (n d:Int):Int×Int:=(Int.tdiv n (Int.gcd d n:Nat),Int.tdiv d (Int.gcd d n:Nat))
def low (n d:Int):Int×Int:=if d < 0 then low1 (-n) (-d) else low1 n d
theorem zon {n d:Int} (h:0 < d):0 < ((Int.gcd d n:Nat):Int):=by
 have:0 < Int.gcd d n:=Int.gcd_pos_of_ne_zero_left _ (by omega)
 omega
theorem zjx {n d:Int} (h:0 < d):∃ g:Int,0 < g/\n=(low1 n d).1*g/\d=(low1 n d).2*g/\0 < (low1 n d).2/\Int.gcd (low1 n d).1 (low1 n d).2=1:=by
 have hg:=zon (n:=n) h
 have e1:n=(low1 n d).1*(Int.gcd d n:Nat):=(Int.tdiv_mul_cancel (Int.gcd_dvd_right d n)).symm
 have e2:d=(low1 n d).2*(Int.gcd d n:Nat):=(Int.tdiv_mul_cancel (Int.gcd_dvd_left d n)).symm
 have e3:0 < (low1 n d).2:=by
  rcases Int.lt_or_le 0 (low1 n d).2 with h1 | h1
  · exact h1
  · have:=Int.mul_nonneg (a:=-(low1 n d).2) (b:=(Int.gcd d n:Nat)) (by omega) (by omega)
    rw [Int.neg_mul] at this
    omega
 refine ⟨_,hg,e1,e2,e3,?_⟩
 have h4:Int.gcd ((low1 n d).1*(Int.gcd d n:Nat)) ((low1 n d).2*(Int.gcd d n:Nat))=Int.gcd d n:=by
  rw [<- e1,<- e2,Int.gcd_comm]
 rw [Int.gcd_mul_right,Int.natAbs_natCast] at h4
 have hg':0 < Int.gcd d n:=by omega
 exact Nat.eq_of_mul_eq_mul_right hg' (by omega)
theorem zqG {n d:Int} (h:0 < d):(low1 n d).1*d=n*(low1 n d).2:=by
 obtain ⟨g,g0,e1,e2,e3,e4⟩:=zjx (n:=n) h
 calc _=(low1 n d).1*((low1 n d).2*g):=by rw [<- e2]
  _=(low1 n d).1*g*(low1 n d).2:=by ac_rfl
  _=_:=by rw [<- e1]
theorem zhg (n g:Int):Int.natAbs (Int.tdiv n g)<=Int.natAbs n:=by
 rw [Int.natAbs_tdiv]; exact Nat.div_le_self _ _
theorem zpf {n d:Int} (h:d ≠ 0):0 < (low n d).2:=by
 unfold low
 split
 · obtain ⟨_,_,_,_,h,_⟩:=zjx (n:=-n) (d:=-d) (by omega)
   exact h
 · obtain ⟨_,_,_,_,h,_⟩:=zjx (n:=n) (d:=d) (by omega)
   exact h
theorem zsH {n d:Int} (h:d ≠ 0):(low n d).1*d=n*(low n d).2:=by
 unfold low
 split
 · have:=zqG (n:=-n) (d:=-d) (by omega)
   rw [Int.mul_neg,Int.neg_mul] at this
   omega
 · exact zqG (by omega)
theorem zqH (n d:Int):(low n d).1.natAbs<=n.natAbs/\(low n d).2.natAbs<=d.natAbs:=by
 unfold low low1
 split
 · have h1:=zhg (-n) (Int.gcd (-d) (-n):Nat)
   have h2:=zhg (-d) (Int.gcd (-d) (-n):Nat)
   rw [Int.natAbs_neg] at h1 h2
   exact ⟨h1,h2⟩
 · exact ⟨zhg _ _,zhg _ _⟩
theorem ztv {n d:Int} (h:d ≠ 0):low (-n) (-d)=low n d:=by
 unfold low
 by_cases h0:d < 0
 · rw [if_neg (by omega),if_pos h0]
 · rw [if_pos (by omega),if_neg h0,Int.neg_neg,Int.neg_neg]
theorem zle {n d:Int} (h:d ≠ 0):((low n d).1 < 0 ↔ (n < 0/\0 < d) \/ (0 < n/\d < 0))/\((low n d).1=0 ↔ n=0):=by
 have h1:=zsH (n:=n) h
 have h2:=zpf (n:=n) h
 generalize (low n d).1=p at *
 generalize (low n d).2=q at *
 rcases Int.lt_trichotomy d 0 with hd | hd | hd
 · rcases Int.lt_trichotomy p 0 with hp | hp | hp
   · have:=Int.mul_pos_of_neg_of_neg hp hd
     have:0 < n:=by
      rcases Int.lt_or_le 0 n with h3 | h3
      · exact h3
      · have:=Int.mul_nonpos_of_nonpos_of_nonneg h3 (Int.le_of_lt h2); omega
     omega
   · subst hp
     rw [Int.zero_mul] at h1
     have:n=0:=(Int.mul_eq_zero.1 h1.symm).resolve_right (by omega)
     omega
   · have:=Int.mul_neg_of_pos_of_neg hp hd
     have:n < 0:=by
      rcases Int.lt_or_le n 0 with h3 | h3
      · exact h3
      · have:=Int.mul_nonneg h3 (Int.le_of_lt h2); omega
     omega
 · exact absurd hd h
 · rcases Int.lt_trichotomy p 0 with hp | hp | hp
   · have:=Int.mul_neg_of_neg_of_pos hp hd
     have:n < 0:=by
      rcases Int.lt_or_le n 0 with h3 | h3
      · exact h3
      · have:=Int.mul_nonneg h3 (Int.le_of_lt h2); omega
     omega
   · subst hp
     rw [Int.zero_mul] at h1
     have:n=0:=(Int.mul_eq_zero.1 h1.symm).resolve_right (by omega)
     omega
   · have:=Int.mul_pos hp hd
     have:0 < n:=by
      rcases Int.lt_or_le 0 n with h3 | h3
      · exact h3
      · have:=Int.mul_nonpos_of_nonpos_of_nonneg h3 (Int.le_of_lt h2); omega
     omega
theorem zc6 {n:Int} (h:i64 n):qidz.f n=some ((n.natAbs:Nat):Int):=by
 unfold i64 at h
 unfold qidz.f mx
 rw [w64 (by omega) (by omega)]
 refine congrArg some ?_
 split <;> omega
theorem zeA {n:Int} (h:i64 n):qhxz.f n=some ((n.natAbs:Nat):Int):=by
 unfold i64 at h
 unfold qhxz.f qgvz.f
 rw [w64 (by omega) (by omega)]
 by_cases h0:0 < n
 · simp (disch:=omega) only [S]
   exact congrArg some (by omega)
 · by_cases h1:n=0
   · subst h1; rfl
   · simp (disch:=omega) only [S]
     exact congrArg some (by omega)
theorem zr6 (b:Nat):∀ a:Nat,Ev (fun k=>qevz.l0 k (a:Int) (b:Int)) ((Nat.gcd a b:Nat):Int):=by
 induction b using Nat.strongRecOn with
 | _ b ih =>
  intro a
  refine qevz.v0 ?_
  rcases Nat.eq_zero_or_pos b with rfl | hb
  · rw [Nat.gcd_zero_right]
    simp (disch:=omega) only [S]
    exact Ev.now _
  · simp (disch:=omega) only [S,if_neg (show ¬ (b:Int)=0 by omega)]
    have e:Nat.gcd a b=Nat.gcd b (a % b):=by rw [Nat.gcd_comm a b,Nat.gcd_rec,Nat.gcd_comm]
    have:=ih (a % b) (Nat.mod_lt _ hb) b
    rw [Int.ofNat_tmod,<- e] at this
    exact this
theorem zee (a b:Nat):Ev (fun k=>qevz.f k (a:Int) (b:Int)) ((Nat.gcd a b:Nat):Int):=qevz.v (zr6 b a)
theorem zkz {n:Int} (g:Int) (h:i64 n):W (Int.tdiv n g)=Int.tdiv n g:=by
 have:=zhg n g
 unfold i64 at h
 exact w64 (by omega) (by omega)
theorem zbh {n d:Int} (hn:i64 n) (hd:i64 d) (h:d ≠ 0):Ev (fun k=>qhlz.f k n d) (low n d):=by
 have key:∀ n d:Int,i64 n->i64 d->0 < d->∃ g:Int,g ≠ 0/\(n.tdiv g,d.tdiv g)=low1 n d/\Ev (fun k=>qevz.f k d ((n.natAbs:Nat):Int)) g:=by
  intro n d hn hd h0
  have hg:=zon (n:=n) h0
  refine ⟨((Int.gcd d n:Nat):Int),by omega,rfl,?_⟩
  obtain ⟨m,rfl⟩ : ∃ m:Nat,d=m:=⟨d.toNat,by omega⟩
  exact zee m n.natAbs
 have hn':=hn
 have hd':=hd
 unfold i64 at hn' hd'
 unfold low
 refine qhlz.v ?_
 by_cases h0:d < 0
 · obtain ⟨g,g0,e,hE⟩:=key (-n) (-d) (by unfold i64; omega) (by unfold i64; omega) (by omega)
   rw [if_pos h0,<- e]
   simp (disch:=omega) only [S,Int.zero_sub,zc6 (show i64 (-n) by unfold i64; omega)]
   refine Ev.bind hE ?_
   simp only [if_neg g0,zkz g (show i64 (-n) by unfold i64; omega),zkz g (show i64 (-d) by unfold i64; omega)]
   exact Ev.now _
 · obtain ⟨g,g0,e,hE⟩:=key n d hn hd (by omega)
   rw [if_neg h0,<- e]
   simp (disch:=omega) only [S,zc6 hn]
   refine Ev.bind hE ?_
   simp only [if_neg g0,zkz g hn,zkz g hd]
   exact Ev.now _
theorem zjy {n d:Int} (hn:i64 n) (hd:i64 d) (b:Nat):∀ a:Nat,0 < Nat.gcd a b ->
    Ev (fun k=>qiaz.l0 k n d (a:Int) (b:Int)) (Int.tdiv n (Nat.gcd a b:Nat),Int.tdiv d (Nat.gcd a b:Nat)):=by
 induction b using Nat.strongRecOn with
 | _ b ih =>
  intro a hg
  refine qiaz.v0 ?_
  rcases Nat.eq_zero_or_pos b with rfl | hb
  · rw [Nat.gcd_zero_right] at hg ⊢
    simp (disch:=omega) only [S,if_neg (show ¬ (a:Int)=0 by omega),zkz _ hn,zkz _ hd]
    exact Ev.now _
  · simp (disch:=omega) only [S,if_neg (show ¬ (b:Int)=0 by omega)]
    have e:Nat.gcd a b=Nat.gcd b (a % b):=by rw [Nat.gcd_comm a b,Nat.gcd_rec,Nat.gcd_comm]
    rw [e] at hg ⊢
    have:=ih (a % b) (Nat.mod_lt _ hb) b hg
    rw [Int.ofNat_tmod] at this
    exact this
theorem zbv {n d:Int} (hn:i64 n) (hd:i64 d) (h:d ≠ 0):Ev (fun k=>qiaz.f k n d) (low n d):=by
 have key:∀ n d:Int,i64 n->i64 d->0 < d->Ev (fun k=>qiaz.l0 k n d ((n.natAbs:Nat):Int) d) (low1 n d):=by
  intro n d hn hd h0
  obtain ⟨m,rfl⟩ : ∃ m:Nat,d=m:=⟨d.toNat,by omega⟩
  have hg:0 < Nat.gcd n.natAbs m:=Nat.gcd_pos_of_pos_right _ (by omega)
  have:=zjy hn hd m n.natAbs hg
  rw [Nat.gcd_comm] at this
  exact this
 have hn':=hn
 have hd':=hd
 unfold i64 at hn' hd'
 unfold low
 refine qiaz.v ?_
 by_cases h0:d < 0
 · rw [if_pos h0]
   simp (disch:=omega) only [S,Int.zero_sub,zeA (show i64 (-n) by unfold i64; omega)]
   exact key (-n) (-d) (by unfold i64; omega) (by unfold i64; omega) (by omega)
 · rw [if_neg h0]
   simp (disch:=omega) only [S,zeA hn]
   exact key n d hn hd (by omega)
abbrev R3:=Int×(Int×Bool)
def noR:R3:=(0,(0,false))
def Same3 (F G:Fu->Option R3):Prop:=∃ r:R3,Ev F r/\Ev G r/\i64 r.1/\i64 r.2.1
theorem zpg:i64 0:=by unfold i64; omega
theorem zuj:i64 1:=by unfold i64; omega
theorem Same3.no {F G:Fu->Option R3} (h:Ev F noR) (k:Ev G noR):Same3 F G:=⟨noR,h,k,zpg,zpg⟩
theorem zeB {n d:Int} (hn:i64 n) (hd:i64 d):i64 (low n d).1/\i64 (low n d).2:=by
 have:=zqH n d
 unfold i64 at *
 omega
theorem Same3.frac {n d n' d':Int} (hn:i64 n) (hd:i64 d) (h:d ≠ 0) (e1:n'=n) (e2:d'=d) :
    Same3 (fun k=>(qhlz.f k n d).bind fun t=>some (t.1,(t.2,true))) (fun k=>(qiaz.f k n' d').bind fun t=>some (t.1,(t.2,true))):=by
 subst e1 e2
 exact ⟨((low n' d').1,((low n' d').2,true)),Ev.bind (zbh hn hd h) (Ev.now _),Ev.bind (zbv hn hd h) (Ev.now _),(zeB hn hd).1,(zeB hn hd).2⟩
def meet (w v:Wk):R3:=if w.1=v.1 then (0,(1,true)) else if w.2=v.2 then noR else if (low (v.1-w.1) (w.2-v.2)).1 < 0 then noR else ((low (v.1-w.1) (w.2-v.2)).1,((low (v.1-w.1) (w.2-v.2)).2,true))
theorem zeC {w v:Wk} (hw:wOk w=true) (hv:wOk v=true):(0<=(meet w v).1/\(meet w v).1<=2000)/\(0<=(meet w v).2.1/\(meet w v).2.1<=200)/\((meet w v).2.2=true->0 < (meet w v).2.1):=by
 have h1:=zaO.1 hw
 have h2:=zaO.1 hv
 unfold meet noR
 split
 · simp
 · split
   · simp
   · rename_i hs
     have b:=zqH (v.1-w.1) (w.2-v.2)
     have:=zpf (n:=v.1-w.1) (d:=w.2-v.2) (by omega)
     split
     · simp
     · simp only []
       omega
theorem zaw {w v:Wk} (hw:wOk w=true) (hv:wOk v=true):Ev (fun k=>qdcz.f k w.1 w.2 v.1 v.2) (meet w v):=by
 have h1:=zaO.1 hw
 have h2:=zaO.1 hv
 refine qdcz.v ?_
 unfold meet
 by_cases hp:w.1=v.1
 · rw [if_pos hp]
   simp (disch:=omega) only [S]
   exact Ev.now _
 · rw [if_neg hp]
   by_cases hs:w.2=v.2
   · rw [if_pos hs]
     simp (disch:=omega) only [S]
     exact Ev.now _
   · rw [if_neg hs]
     simp (disch:=omega) only [S]
     refine Ev.bind (zbh (by unfold i64; omega) (by unfold i64; omega) (by omega)) ?_
     by_cases hn:(low (v.1-w.1) (w.2-v.2)).1 < 0
     · simp (disch:=omega) only [S,if_pos hn]
       exact Ev.now _
     · simp (disch:=omega) only [S,if_neg hn]
       exact Ev.now _
theorem zbZ {w v:Wk} (hw:wOk w=true) (hv:wOk v=true):Ev (fun k=>qhcz.f k w.1 w.2 v.1 v.2) (meet w v):=by
 have h1:=zaO.1 hw
 have h2:=zaO.1 hv
 refine qhcz.v ?_
 unfold meet
 by_cases hp:w.1=v.1
 · rw [if_pos hp]
   simp (disch:=omega) only [S]
   exact Ev.now _
 · rw [if_neg hp]
   by_cases hs:w.2=v.2
   · rw [if_pos hs]
     simp (disch:=omega) only [S]
     exact Ev.now _
   · rw [if_neg hs]
     have hsg:=(zle (n:=v.1-w.1) (d:=w.2-v.2) (by omega)).1
     have hl:=zbv (n:=v.1-w.1) (d:=w.2-v.2) (by unfold i64; omega) (by unfold i64; omega) (by omega)
     by_cases a:0 < v.1-w.1
     · by_cases b:0 < w.2-v.2
       · rw [if_neg (fun h=>by have:=hsg.1 h; omega)]
         simp (disch:=omega) only [S,beq_self_eq_true]
         exact Ev.bind hl (Ev.now _)
       · rw [if_pos (hsg.2 (by omega))]
         simp (disch:=omega) only [S]
         exact Ev.now _
     · by_cases b:0 < w.2-v.2
       · rw [if_pos (hsg.2 (by omega))]
         simp (disch:=omega) only [S]
         exact Ev.now _
       · rw [if_neg (fun h=>by have:=hsg.1 h; omega)]
         simp (disch:=omega) only [S,beq_self_eq_true]
         exact Ev.bind hl (Ev.now _)
theorem zhY {w v:Wk} (hw:wOk w=true) (hv:wOk v=true):Same3 (fun k=>qcqz.f k w.1 w.2 v.1 v.2) (fun k=>qdgz.f k w.1 w.2 v.1 v.2):=by
 have hb:=zeC hw hv
 refine ⟨meet w v,qcqz.v ?_,qdgz.v ?_,by unfold i64; omega,by unfold i64; omega⟩
 · simp only [zau,S,hw,hv]
   exact Ev.bind (zaw hw hv) (Ev.now _)
 · simp only [zcF,S,hw,hv]
   exact Ev.bind (zbZ hw hv) (Ev.now _)
theorem zdn {w v:Wk} (hw:wOk w=true) (hv:wOk v=true):Ev (fun k=>qdgz.f k w.1 w.2 v.1 v.2) (meet w v):=by
 refine qdgz.v ?_
 simp only [zcF,S,hw,hv]
 exact Ev.bind (zbZ hw hv) (Ev.now _)
theorem zlf {w:Wk} (hw:wOk w=true) {n d N D:Int} (hn:0<=n/\n<=N) (hd:0<=d/\d<=D):(-(1000*D)<=w.1*d/\w.1*d<=1000*D)/\(-(100*N)<=w.2*n/\w.2*n<=100*N):=by
 have h:=zaO.1 hw
 have p1:=Int.mul_le_mul_of_nonneg_right h.1.2 hd.1
 have p2:=Int.mul_le_mul_of_nonneg_right h.1.1 hd.1
 have q1:=Int.mul_le_mul_of_nonneg_right h.2.2 hn.1
 have q2:=Int.mul_le_mul_of_nonneg_right h.2.1 hn.1
 omega
theorem zhh {w v:Wk} (hw:wOk w=true) (hv:wOk v=true):Same3 (fun k=>qciz.f k w.1 w.2 v.1 v.2) (fun k=>qcmz.f k w.1 w.2 v.1 v.2):=by
 obtain ⟨b1,b2,b3⟩:=zeC hw hv
 obtain ⟨p1,p2⟩:=zlf hw b1 b2
 cases ho:(meet w v).2.2 with
 | false =>
  refine Same3.no (qciz.v ?_) (qcmz.v (Ev.bind (zdn hw hv) ?_))
  · simp only [zau,S,hw,hv]
    refine Ev.bind (zaw hw hv) ?_
    simp only [ho,S]
    exact Ev.now _
  · simp only [ho,S]
    exact Ev.now _
 | true =>
  have hd:=b3 ho
  obtain ⟨r,r1,r2,r3,r4⟩:=Same3.frac (n:=w.1*(meet w v).2.1+w.2*(meet w v).1) (d:=(meet w v).2.1) (by unfold i64; omega) (by unfold i64; omega) (by omega) rfl rfl
  refine ⟨r,qciz.v ?_,qcmz.v (Ev.bind (zdn hw hv) ?_),r3,r4⟩
  · simp only [zau,S,hw,hv]
    refine Ev.bind (zaw hw hv) ?_
    unfold qgbz.f
    simp (disch:=omega) only [ho,S]
    exact r1
  · simp (disch:=omega) only [ho,S]
    exact r2
theorem zdT {a b:Int} (hb:0 < b) (hA : -4611686018427387904<=a/\a<=4611686018427387904) (hB:b<=4611686018427387904):qgmz.f a b=some (a % b):=by
 have hq:a.tdiv b*b+a.tmod b=a:=by rw [Int.mul_comm]; exact Int.mul_tdiv_add_tmod a b
 have hm0:=Int.emod_nonneg a (show b ≠ 0 by omega)
 have hm1:=Int.emod_lt_of_pos a hb
 have he:a / b*b+a % b=a:=by rw [Int.mul_comm]; exact Int.mul_ediv_add_emod a b
 have hbd:=zhg a b
 have hmb:(a.tmod b).natAbs < b.natAbs:=by rw [Int.natAbs_tmod]; exact Nat.mod_lt _ (by omega)
 unfold qgmz.f qfjz.f
 simp only [if_neg (show ¬ b=0 by omega)]
 by_cases hn:a.tmod b < 0
 · have e2:a % b=a.tmod b+b:=by
    have:(a % b-(a.tmod b+b))=(a.tdiv b-1-a / b)*b:=by rw [Int.sub_mul,Int.sub_mul]; omega
    have h3:(a.tdiv b-1-a / b)=0:=by
     rcases Int.lt_trichotomy (a.tdiv b-1-a / b) 0 with h | h | h
     · have:=Int.mul_le_mul_of_nonneg_right (show a.tdiv b-1-a / b <= -1 by omega) (show 0<=b by omega)
       omega
     · exact h
     · have:=Int.mul_le_mul_of_nonneg_right (show 1<=a.tdiv b-1-a / b by omega) (show 0<=b by omega)
       omega
    rw [h3,Int.zero_mul] at this
    omega
   have e3:b*(a.tdiv b-1)=a-a.tmod b-b:=by rw [Int.mul_sub,Int.mul_comm]; omega
   simp (disch:=omega) only [S,e3]
   exact congrArg some (by omega)
 · have e2:a % b=a.tmod b:=by
    have:(a % b-a.tmod b)=(a.tdiv b-a / b)*b:=by rw [Int.sub_mul]; omega
    have h3:(a.tdiv b-a / b)=0:=by
     rcases Int.lt_trichotomy (a.tdiv b-a / b) 0 with h | h | h
     · have:=Int.mul_le_mul_of_nonneg_right (show a.tdiv b-a / b <= -1 by omega) (show 0<=b by omega)
       omega
     · exact h
     · have:=Int.mul_le_mul_of_nonneg_right (show 1<=a.tdiv b-a / b by omega) (show 0<=b by omega)
       omega
    rw [h3,Int.zero_mul] at this
    omega
   have e3:b*a.tdiv b=a-a.tmod b:=by rw [Int.mul_comm]; omega
   simp (disch:=omega) only [S,e3]
   exact congrArg some (by omega)
theorem zeD {a b:Int} (hb:0 < b) (hB:b<=4611686018427387904):qicz.f a b=some (a % b):=by
 have hmb:(a.tmod b).natAbs < b.natAbs:=by rw [Int.natAbs_tmod]; exact Nat.mod_lt _ (by omega)
 unfold qicz.f
 simp only [if_neg (show ¬ b=0 by omega)]
 rw [w64 (by omega) (by omega),Int.tmod_eq_emod_of_nonneg (by omega)]
 have hq:a.tmod b=a-b*a.tdiv b:=Int.tmod_def a b
 rw [hq,show a-b*a.tdiv b+b=a+b*(1-a.tdiv b) by rw [Int.mul_sub]; omega,Int.add_mul_emod_self_left]
def ahead (n:Int) (w v:Wk):Int×Int:=if w.2 < v.2 then ((w.1-v.1) % n,v.2-w.2) else ((v.1-w.1) % n,w.2-v.2)
theorem zoo {n:Int} (hn:1<=n/\n<=1000) {w v:Wk} (hw:wOk w=true) (hv:wOk v=true):(0<=(ahead n w v).1/\(ahead n w v).1 < n)/\(0<=(ahead n w v).2/\(ahead n w v).2<=200)/\((ahead n w v).2=0 ↔ w.2=v.2):=by
 have h1:=zaO.1 hw
 have h2:=zaO.1 hv
 unfold ahead
 split
 · have:=Int.emod_nonneg (w.1-v.1) (show n ≠ 0 by omega)
   have:=Int.emod_lt_of_pos (w.1-v.1) (show 0 < n by omega)
   simp only []
   omega
 · have:=Int.emod_nonneg (v.1-w.1) (show n ≠ 0 by omega)
   have:=Int.emod_lt_of_pos (v.1-w.1) (show 0 < n by omega)
   simp only []
   omega
theorem ze3 {n:Int} (hn:1<=n/\n<=1000) {w v:Wk} (hw:wOk w=true) (hv:wOk v=true):qgcz.f n w.1 w.2 v.1 v.2=some (ahead n w v):=by
 have h1:=zaO.1 hw
 have h2:=zaO.1 hv
 unfold qgcz.f ahead
 by_cases h:w.2 < v.2
 · simp (disch:=omega) only [S,if_pos h,zdT]
 · simp (disch:=omega) only [S,if_neg h,zdT]
theorem zdo {n:Int} (hn:1<=n/\n<=1000) {w v:Wk} (hw:wOk w=true) (hv:wOk v=true):qghz.f n w.1 w.2 v.1 v.2=some (ahead n w v):=by
 have h1:=zaO.1 hw
 have h2:=zaO.1 hv
 unfold qghz.f ahead
 by_cases h:w.2 < v.2
 · simp (disch:=omega) only [S,if_pos h,zeD]
 · simp (disch:=omega) only [S,if_neg h,zeD]
theorem zb0 {n:Int} (hn:1<=n/\n<=1000) {w v:Wk} (hw:wOk w=true) (hv:wOk v=true):qgpz.f n w.1 w.2 v.1 v.2=some true:=by
 unfold qgpz.f
 simp only [zaq,zcF,S,decide_eq_true hn,hw,hv]
theorem zbC {n:Int} (hn:1<=n/\n<=1000):qhmz.f n=some true:=by
 unfold qhmz.f
 simp only [zas,S,decide_eq_true hn]
theorem zlg {n:Int} (hn:1<=n/\n<=1000) {w v:Wk} (hw:wOk w=true) (hv:wOk v=true):Same3 (fun k=>qezz.f k n w.1 w.2 v.1 v.2) (fun k=>qfcz.f k n w.1 w.2 v.1 v.2):=by
 obtain ⟨b1,b2,b3⟩:=zoo hn hw hv
 have hI:∀ {r},Ev (fun k=>if ((ahead n w v).2 == 0)=true then if (iGt (ahead n w v).1 0)=true then some (0,(0,false)) else if ((ahead n w v).2 == 0)=true then some (0,(1,true)) else (qhlz.f k (ahead n w v).1 (ahead n w v).2).bind fun t4=>some (t4.1,(t4.2,true)) else if ((ahead n w v).2 == 0)=true then some (0,(1,true)) else (qhlz.f k (ahead n w v).1 (ahead n w v).2).bind fun t4=>some (t4.1,(t4.2,true))) r->Ev (fun k=>qezz.f k n w.1 w.2 v.1 v.2) r:=by
  intro r h
  refine qezz.v ?_
  simp only [zbC hn,zau,hw,hv,S,ze3 hn hw hv]
  exact h
 have hS:∀ {r},Ev (fun k=>if ((ahead n w v).1 == 0)=true then some (0,(1,true)) else if ((ahead n w v).2 == 0)=true then some (0,(0,false)) else (qiaz.f k (ahead n w v).1 (ahead n w v).2).bind fun t2=>some (t2.1,(t2.2,true))) r->Ev (fun k=>qfcz.f k n w.1 w.2 v.1 v.2) r:=by
  intro r h
  refine qfcz.v ?_
  simp only [zb0 hn hw hv,S,zdo hn hw hv]
  exact h
 by_cases hs:(ahead n w v).2=0
 · by_cases hg:(ahead n w v).1=0
   · refine ⟨(0,(1,true)),hI ?_,hS ?_,zpg,zuj⟩
     · simp (disch:=omega) only [S]
       exact Ev.now _
     · simp (disch:=omega) only [S]
       exact Ev.now _
   · refine Same3.no (hI ?_) (hS ?_)
     · simp (disch:=omega) only [S]
       exact Ev.now _
     · simp (disch:=omega) only [S]
       exact Ev.now _
 · by_cases hg:(ahead n w v).1=0
   · refine ⟨(0,(1,true)),hI ?_,hS ?_,zpg,zuj⟩
     · simp (disch:=omega) only [S]
       refine Ev.bind (zbh (by unfold i64; omega) (by unfold i64; omega) hs) ?_
       have e:low (ahead n w v).1 (ahead n w v).2=(0,1):=by
        rw [hg]
        unfold low low1
        rw [if_neg (by omega),Int.gcd_zero_right,Int.zero_tdiv]
        refine Prod.ext rfl ?_
        show Int.tdiv _ ((ahead n w v).2.natAbs:Nat)=1
        rw [show (((ahead n w v).2.natAbs:Nat):Int)=(ahead n w v).2 by omega]
        exact Int.tdiv_self hs
       rw [e]
       exact Ev.now _
     · simp (disch:=omega) only [S]
       exact Ev.now _
   · obtain ⟨r,r1,r2,r3,r4⟩:=Same3.frac (n:=(ahead n w v).1) (d:=(ahead n w v).2) (by unfold i64; omega) (by unfold i64; omega) hs rfl rfl
     refine ⟨r,hI ?_,hS ?_,r3,r4⟩
     · simp (disch:=omega) only [S]
       exact r1
     · simp (disch:=omega) only [S]
       exact r2
theorem zmz {n:Int} (hn:1<=n/\n<=1000) {w v:Wk} (hw:wOk w=true) (hv:wOk v=true):Same3 (fun k=>qgjz.f k n w.1 w.2 v.1 v.2) (fun k=>qggz.f k n w.1 w.2 v.1 v.2):=by
 have h1:=zaO.1 hw
 have h2:=zaO.1 hv
 by_cases hs:w.2=v.2
 · refine Same3.no (qgjz.v ?_) (qggz.v ?_)
   · simp (disch:=omega) only [zbC hn,zau,hw,hv,S]
     exact Ev.now _
   · simp (disch:=omega) only [zb0 hn hw hv,S]
     exact Ev.now _
 · have e:(ahead n w v).2=(((w.2-v.2).natAbs:Nat):Int):=by unfold ahead; split <;> (simp only []; omega)
   obtain ⟨r,r1,r2,r3,r4⟩:=Same3.frac (n:=n) (d:=(((w.2-v.2).natAbs:Nat):Int)) (by unfold i64; omega) (by unfold i64; omega) (by omega) rfl e
   refine ⟨r,qgjz.v ?_,qggz.v ?_,r3,r4⟩
   · simp (disch:=omega) only [zbC hn,zau,hw,hv,S,zc6 (show i64 (w.2-v.2) by unfold i64; omega)]
     exact r1
   · simp (disch:=omega) only [zb0 hn hw hv,S,zdo hn hw hv]
     exact r2
theorem zjz (a l r d:Int):Same3 (fun k=>qdsz.f k a l r d) (fun k=>qebz.f k a l r d):=by
 cases hc:cOk a l r d with
 | false =>
  refine Same3.no (qdsz.v ?_) (qebz.v ?_)
  · simp only [zaT,hc,S]; exact Ev.now _
  · simp only [za0,hc,S]; exact Ev.now _
 | true =>
  have h:=zey.1 hc
  obtain ⟨r,r1,r2,r3,r4⟩:=Same3.frac (n:=a) (d:=l+r) (by unfold i64; omega) (by unfold i64; omega) (by omega) rfl rfl
  refine ⟨r,qdsz.v ?_,qebz.v ?_,r3,r4⟩
  · simp (disch:=omega) only [zaT,hc,S]; exact r1
  · simp (disch:=omega) only [za0,hc,S]; exact r2
theorem zhZ (a l r d:Int):Same3 (fun k=>qdez.f k a l r d) (fun k=>qdhz.f k a l r d):=by
 cases hc:cOk a l r d with
 | false =>
  refine Same3.no (qdez.v ?_) (qdhz.v ?_)
  · simp only [zaT,hc,S]; exact Ev.now _
  · simp only [za0,hc,S]; exact Ev.now _
 | true =>
  have h:=zey.1 hc
  have hm:=mulb (a:=d) (b:=a) (A:=20) (B:=1000) (by omega) (by omega) (by omega) (by omega)
  obtain ⟨q,r1,r2,r3,r4⟩:=Same3.frac (n:=d*a) (d:=l+r) (n':=a*d) (by unfold i64; omega) (by unfold i64; omega) (by omega) (Int.mul_comm _ _) rfl
  rw [Int.mul_comm] at hm
  have hm':=hm
  rw [Int.mul_comm a d] at hm'
  refine ⟨q,qdez.v ?_,qdhz.v ?_,r3,r4⟩
  · simp (disch:=omega) only [zaT,hc,S]; exact r1
  · simp (disch:=omega) only [za0,hc,S]; exact r2
theorem zdU {l:List Wk} (hok:zam 5 lOk l=true):∃ n:Int,Ev (fun k=>qgzz.f k l) n/\Ev (fun k=>qhoz.f k l) n/\0<=n/\n<=5000:=by
 obtain ⟨h1,h2⟩:=zak.1 hok
 have key:∀ (d i:Nat) (s:Int),i+d=l.length->0<=s->s<=1000*i->∃ n:Int,Ev (fun k=>qgzz.l0 k s l (l.length:Int) (i:Int)) n/\Ev (fun k=>qhoz.l0 k s l (l.length:Int) (i:Int)) n/\0<=n/\n<=5000:=by
  intro d
  induction d with
  | zero =>
   intro i s hi h0 hs
   refine ⟨s,qgzz.v0 ?_,qhoz.v0 ?_,h0,by omega⟩ <;> simp (disch:=omega) only [S] <;> exact Ev.now _
  | succ d ih =>
   intro i s hi h0 hs
   have hw:=zex.1 (h2 _ (zaf (z:=(0,0)) (show i < l.length by omega)))
   obtain ⟨n,a,b,c⟩:=ih (i+1) (s+(l.getD i (0,0)).1) (by omega) (by omega) (by omega)
   refine ⟨n,qgzz.v0 ?_,qhoz.v0 ?_,c⟩ <;> simp (disch:=omega) only [S] <;> assumption
 obtain ⟨n,a,b,c⟩:=key l.length 0 0 (by omega) (by omega) (by omega)
 refine ⟨n,qgzz.v ?_,qhoz.v ?_,c⟩ <;> simp only [S] <;> assumption
def bnd:Nat->Int
 | 0=>1
 | i+1=>100*bnd i
theorem zmA:∀ i,i<=6->1<=bnd i/\bnd i<=1000000000000:=by decide
theorem zuD:∀ i:Nat,i<=5->bnd i<=10000000000/\10*(i:Int)*bnd i<=500000000000:=by decide
theorem ztw {n d:Int} (hd:0 < d) (hn:0<=n):(0<=(low n d).1/\(low n d).1<=n)/\(0 < (low n d).2/\(low n d).2<=d)/\(0 < n->0 < (low n d).1):=by
 have h1:=zqH n d
 have h2:=zpf (n:=n) (d:=d) (by omega)
 have h3:=zle (n:=n) (d:=d) (by omega)
 omega
theorem zfm {l:List Wk} (hok:zam 5 lOk l=true):∃ t:Int×Int,Ev (fun k=>qgnz.f k l) t/\Ev (fun k=>qhkz.f k l) t/\(0 < t.1/\t.1<=500000000000)/\(0 < t.2/\t.2<=10000000000):=by
 obtain ⟨h1,h2⟩:=zak.1 hok
 have key:∀ (d i:Nat) (n m:Int),i+d=l.length->(0<=n/\n<=10*i*bnd i)->(0 < m/\m<=bnd i)->(0 < i->0 < n)->∃ t:Int×Int,Ev (fun k=>qgnz.l0 k n m l (l.length:Int) (i:Int)) t/\Ev (fun k=>qhkz.l0 k n m l (l.length:Int) (i:Int)) t/\(0 < t.1/\t.1<=500000000000)/\(0 < t.2/\t.2<=10000000000):=by
  intro d
  induction d with
  | zero =>
   intro i n m hi hn hm h0
   have hb:=zuD i (by omega)
   refine ⟨(n,m),qgnz.v0 ?_,qhkz.v0 ?_,⟨h0 (by omega),by omega⟩,hm.1,by omega⟩ <;> simp (disch:=omega) only [S] <;> exact Ev.now _
  | succ d ih =>
   intro i n m hi hn hm h0
   have hw:=zex.1 (h2 _ (zaf (z:=(0,0)) (show i < l.length by omega)))
   obtain ⟨w,hwd⟩ : ∃ w,l.getD i (0,0)=w:=⟨_,rfl⟩
   rw [hwd] at hw
   have hb:=zmA i (by omega)
   have hb1:10*(i:Int)*bnd i<=50*bnd i:=Int.mul_le_mul_of_nonneg_right (by omega) (by omega)
   have hb2:10*((i+1:Nat):Int)*bnd (i+1)=100*(10*i*bnd i)+1000*bnd i:=by
    rw [show bnd (i+1)=100*bnd i from rfl,show 10*((i+1:Nat):Int)=10*i+10 by omega,Int.add_mul,<- Int.mul_assoc,Int.mul_comm (10*(i:Int)) 100,Int.mul_assoc,show 10*(100*bnd i)=1000*bnd i by omega]
   have m1:=mulb (a:=n) (b:=w.2) (A:=10*i*bnd i) (B:=100) (by omega) (by omega) (by omega) (by omega)
   have m2:=mulb (a:=w.1) (b:=m) (A:=1000) (B:=bnd i) (by omega) (by omega) (by omega) (by omega)
   have m3:=mulb (a:=m) (b:=w.2) (A:=bnd i) (B:=100) (by omega) (by omega) (by omega) (by omega)
   have m4:0 < m*w.2:=Int.mul_pos (by omega) (by omega)
   have m5:0 < w.1*m:=Int.mul_pos (by omega) (by omega)
   obtain ⟨l1,l2,l3⟩:=ztw (n:=n*w.2+w.1*m) (d:=m*w.2) m4 (by omega)
   obtain ⟨t,a,b,c⟩:=ih (i+1) (low (n*w.2+w.1*m) (m*w.2)).1 (low (n*w.2+w.1*m) (m*w.2)).2 (by omega) (by omega) (by rw [show bnd (i+1)=100*bnd i from rfl]; omega) (fun _=>l3 (by omega))
   refine ⟨t,qgnz.v0 ?_,qhkz.v0 ?_,c⟩
   · simp (disch:=omega) only [S,hwd]
     exact Ev.bind (zbh (by unfold i64; omega) (by unfold i64; omega) (by omega)) a
   · simp (disch:=omega) only [S,hwd]
     exact Ev.bind (zbv (by unfold i64; omega) (by unfold i64; omega) (by omega)) b
 obtain ⟨t,a,b,c⟩:=key l.length 0 0 1 (by omega) ⟨by omega,by simp⟩ ⟨by omega,by decide⟩ (fun h=>absurd h (by omega))
 refine ⟨t,qgnz.v ?_,qhkz.v ?_,c⟩ <;> simp only [S] <;> assumption
theorem zjA (l:List Wk):Same3 (fun k=>qdoz.f k l) (fun k=>qdvz.f k l):=by
 cases hok:zam 5 lOk l with
 | false =>
  refine Same3.no (qdoz.v (Ev.bind (zax l) ?_)) (qdvz.v (Ev.bind (zaK l) ?_)) <;> simp only [hok,S] <;> exact Ev.now _
 | true =>
  obtain ⟨t,a,b,c1,c2⟩:=zfm hok
  refine ⟨(t.1,(t.2,true)),qdoz.v (Ev.bind (zax l) ?_),qdvz.v (Ev.bind (zaK l) ?_),show i64 t.1 from by unfold i64; omega,show i64 t.2 from by unfold i64; omega⟩
  · simp only [hok,S]; exact Ev.bind a (Ev.now _)
  · simp only [hok,S]; exact Ev.bind b (Ev.now _)
theorem zby {n d:Int} (hn:i64 n) (hd:i64 d) (h:d ≠ 0):Ev (fun k=>qfoz.f k n d) ((low n d).1,((low n d).2,true)):=by
 refine qfoz.v ?_
 simp (disch:=omega) only [S]
 exact Ev.bind (zbh hn hd h) (Ev.now _)
theorem zjZ (l:List Wk):Same3 (fun k=>qeqz.f k l) (fun k=>qesz.f k l):=by
 cases hok:zam 5 lOk l with
 | false =>
  refine Same3.no (qeqz.v (Ev.bind (zax l) ?_)) (qesz.v (Ev.bind (zaK l) ?_)) <;> simp only [hok,S] <;> exact Ev.now _
 | true =>
  obtain ⟨t,a,b,c1,c2⟩:=zfm hok
  obtain ⟨n,e,f,g1,g2⟩:=zdU hok
  have m1:=mulb (a:=n) (b:=t.2) (A:=5000) (B:=10000000000) (by omega) (by omega) (by omega) (by omega)
  have hl:=zeB (n:=n*t.2) (d:=t.1) (by unfold i64; omega) (by unfold i64; omega)
  refine ⟨((low (n*t.2) t.1).1,((low (n*t.2) t.1).2,true)),qeqz.v (Ev.bind (zax l) ?_),qesz.v (Ev.bind (zaK l) ?_),hl.1,hl.2⟩
  · simp only [hok,S]
    refine Ev.bind a (Ev.bind e ?_)
    simp (disch:=omega) only [S]
    exact Ev.bind (zby (by unfold i64; omega) (by unfold i64; omega) (by omega)) (Ev.now _)
  · simp only [hok,S]
    refine Ev.bind b (Ev.bind f ?_)
    simp (disch:=omega) only [S]
    exact Ev.bind (zbv (by unfold i64; omega) (by unfold i64; omega) (by omega)) (Ev.now _)
theorem zh0 (l:List Wk) (x y:Int):Same3 (fun k=>qcxz.f k l x y) (fun k=>qdaz.f k l x y):=by
 cases hok:zam 5 lOk l with
 | false =>
  refine Same3.no (qcxz.v (Ev.bind (zax l) ?_)) (qdaz.v (Ev.bind (zaK l) ?_)) <;> simp only [hok,S] <;> exact Ev.now _
 | true =>
  have hx1:qhdz.f x=some (decide (1<=x/\x<=1000)):=by unfold qhdz.f; simp only [zas,S]
  have hy1:qhuz.f y=some (decide (1<=y/\y<=100)):=by unfold qhuz.f; simp only [zas,S]
  by_cases hx:1<=x/\x<=1000
  · by_cases hy:1<=y/\y<=100
    · obtain ⟨t,a,b,c1,c2⟩:=zfm hok
      obtain ⟨n,e,f,g1,g2⟩:=zdU hok
      have m1:=mulb (a:=n+x) (b:=t.2) (A:=6000) (B:=10000000000) (by omega) (by omega) (by omega) (by omega)
      have m2:=mulb (a:=t.1) (b:=y) (A:=500000000000) (B:=100) (by omega) (by omega) (by omega) (by omega)
      have m3:=mulb (a:=x) (b:=y) (A:=1000) (B:=100) (by omega) (by omega) (by omega) (by omega)
      have m4:=mulb (a:=x*y) (b:=t.2) (A:=100000) (B:=10000000000) (by omega) (by omega) (by omega) (by omega)
      by_cases hz:(n+x)*t.2-t.1*y<=0
      · refine Same3.no (qcxz.v (Ev.bind (zax l) ?_)) (qdaz.v (Ev.bind (zaK l) ?_))
        · simp only [hok,S,hx1,hy1,decide_eq_true hx,decide_eq_true hy]
          refine Ev.bind a (Ev.bind e ?_)
          simp (disch:=omega) only [S]
          exact Ev.now _
        · simp only [hok,S,zaq,decide_eq_true hx,decide_eq_true hy]
          refine Ev.bind b (Ev.bind f ?_)
          simp (disch:=omega) only [S]
          exact Ev.now _
      · have hl:=zeB (n:=x*y*t.2) (d:=(n+x)*t.2-t.1*y) (by unfold i64; omega) (by unfold i64; omega)
        refine ⟨((low (x*y*t.2) ((n+x)*t.2-t.1*y)).1,((low (x*y*t.2) ((n+x)*t.2-t.1*y)).2,true)),qcxz.v (Ev.bind (zax l) ?_),qdaz.v (Ev.bind (zaK l) ?_),hl.1,hl.2⟩
        · simp only [hok,S,hx1,hy1,decide_eq_true hx,decide_eq_true hy]
          refine Ev.bind a (Ev.bind e ?_)
          simp (disch:=omega) only [S]
          exact Ev.bind (zby (by unfold i64; omega) (by unfold i64; omega) (by omega)) (Ev.now _)
        · simp only [hok,S,zaq,decide_eq_true hx,decide_eq_true hy]
          refine Ev.bind b (Ev.bind f ?_)
          simp (disch:=omega) only [S]
          exact Ev.bind (zbv (by unfold i64; omega) (by unfold i64; omega) (by omega)) (Ev.now _)
    · refine Same3.no (qcxz.v (Ev.bind (zax l) ?_)) (qdaz.v (Ev.bind (zaK l) ?_))
      · simp only [hok,S,hx1,hy1,decide_eq_true hx,decide_eq_false hy]; exact Ev.now _
      · simp only [hok,S,zaq,decide_eq_true hx,decide_eq_false hy]; exact Ev.now _
  · refine Same3.no (qcxz.v (Ev.bind (zax l) ?_)) (qdaz.v (Ev.bind (zaK l) ?_))
    · simp only [hok,S,hx1,decide_eq_false hx]; exact Ev.now _
    · simp only [hok,S,zaq,decide_eq_false hx]; exact Ev.now _
def ap (a l r d:Int):Nat->Int×Int
 | 0=>(a,1)
 | i+1=>if i % 2=0 then ((ap a l r d i).1*(d-l),(ap a l r d i).2*(d+r)) else ((ap a l r d i).1*(d-r),(ap a l r d i).2*(d+l))
theorem zr7 {a l r d:Int} (hc:cOk a l r d=true):∀ i:Nat,i<=6->(0<=(ap a l r d i).1/\(ap a l r d i).1<=1000*bnd i)/\(0 < (ap a l r d i).2/\(ap a l r d i).2<=bnd i)
 | 0,_=>by
  have h:=zey.1 hc
  exact ⟨⟨by show 0<=a; omega,by show a<=1000*1; omega⟩,by show (0:Int) < 1; decide,by show (1:Int)<=1; decide⟩
 | i+1,hi=>by
  have h:=zey.1 hc
  obtain ⟨h1,h2⟩:=zr7 hc i (by omega)
  have hb:=zmA i (by omega)
  have e:bnd (i+1)=100*bnd i:=rfl
  unfold ap
  split
  · have m1:=mulb (a:=(ap a l r d i).1) (b:=d-l) (A:=1000*bnd i) (B:=100) (by omega) (by omega) (by omega) (by omega)
    have m2:=mulb (a:=(ap a l r d i).2) (b:=d+r) (A:=bnd i) (B:=100) (by omega) (by omega) (by omega) (by omega)
    have m3:=Int.mul_pos (a:=(ap a l r d i).2) (b:=d+r) (by omega) (by omega)
    simp only []
    omega
  · have m1:=mulb (a:=(ap a l r d i).1) (b:=d-r) (A:=1000*bnd i) (B:=100) (by omega) (by omega) (by omega) (by omega)
    have m2:=mulb (a:=(ap a l r d i).2) (b:=d+l) (A:=bnd i) (B:=100) (by omega) (by omega) (by omega) (by omega)
    have m3:=Int.mul_pos (a:=(ap a l r d i).2) (b:=d+l) (by omega) (by omega)
    simp only []
    omega
theorem zjB {a l r d:Int} (hc:cOk a l r d=true) (t:Nat) (ht:t<=6):Ev (fun k=>qgdz.f k a l r d (t:Int)) (ap a l r d t):=by
 have h:=zey.1 hc
 have key:∀ (e i:Nat),i+e=t->Ev (fun k=>qgdz.l0 k (ap a l r d i).1 (ap a l r d i).2 (t:Int) (i:Int) a l r d) (ap a l r d t):=by
  intro e
  induction e with
  | zero =>
   intro i hi
   rw [show t=i by omega]
   refine qgdz.v0 ?_
   simp (disch:=omega) only [S]
   exact Ev.now _
  | succ e ih =>
   intro i hi
   have h1:=ih (i+1) (by omega)
   obtain ⟨b1,b2⟩:=zr7 hc (i+1) (by omega)
   have hb:=zmA (i+1) (by omega)
   refine qgdz.v0 ?_
   have e1:Int.tmod (i:Int) 2=((i % 2:Nat):Int):=by rw [Int.tmod_eq_emod_of_nonneg (by omega)]; omega
   by_cases h0:i % 2=0
   · have e2:ap a l r d (i+1)=((ap a l r d i).1*(d-l),(ap a l r d i).2*(d+r)):=by rw [ap,if_pos h0]
     rw [e2] at h1 b1 b2
     simp only [] at h1 b1 b2
     simp (disch:=omega) only [S,e1]
     exact h1
   · have e2:ap a l r d (i+1)=((ap a l r d i).1*(d-r),(ap a l r d i).2*(d+l)):=by rw [ap,if_neg h0]
     rw [e2] at h1 b1 b2
     simp only [] at h1 b1 b2
     simp (disch:=omega) only [S,e1]
     exact h1
 exact qgdz.v (key t 0 (by omega))
abbrev D5:=Int×(Int×(Int×(Int×Int)))
theorem zlh {a l r d:Int} (hc:cOk a l r d=true) (t:Nat) (ht:t<=6):∃ res:List D5,Ev (fun k=>qhvz.f k a l r d (t:Int)) res/\t < res.length/\(res.getD t (0,(0,(0,(0,0))))).2.2.1=(ap a l r d t).1/\(res.getD t (0,(0,(0,(0,0))))).2.2.2.2=(ap a l r d t).2:=by
 have h:=zey.1 hc
 have key:∀ (e i:Nat) (x y z:Int) (out:List D5),i+e=t->out.length=i+1->out.getD i (0,(0,(0,(0,0))))=(x,(y,((ap a l r d i).1,(z,(ap a l r d i).2)))) ->
     ∃ res:List D5,Ev (fun k=>qhvz.l0 k (t:Int) ((i+1:Nat):Int) a l r d x y (ap a l r d i).1 z (ap a l r d i).2 out) res/\t < res.length/\(res.getD t (0,(0,(0,(0,0))))).2.2.1=(ap a l r d t).1/\(res.getD t (0,(0,(0,(0,0))))).2.2.2.2=(ap a l r d t).2:=by
  intro e
  induction e with
  | zero =>
   intro i x y z out hi hl ho
   have:t=i:=by omega
   subst this
   refine ⟨out,qhvz.v0 ?_,by omega,by rw [ho],by rw [ho]⟩
   simp (disch:=omega) only [S]
   exact Ev.now _
  | succ e ih =>
   intro i x y z out hi hl ho
   obtain ⟨b1,b2⟩:=zr7 hc (i+1) (by omega)
   have hb:=zmA (i+1) (by omega)
   have e1:Int.tmod ((i+1:Nat):Int) 2=(((i+1) % 2:Nat):Int):=by rw [Int.tmod_eq_emod_of_nonneg (by omega)]; omega
   have step:∀ x' y' z':Int,∃ res:List D5,Ev (fun k=>qhvz.l0 k (t:Int) ((i+1+1:Nat):Int) a l r d x' y' (ap a l r d (i+1)).1 z' (ap a l r d (i+1)).2 (out++[(x',(y',((ap a l r d (i+1)).1,(z',(ap a l r d (i+1)).2))))])) res/\t < res.length/\(res.getD t (0,(0,(0,(0,0))))).2.2.1=(ap a l r d t).1/\(res.getD t (0,(0,(0,(0,0))))).2.2.2.2=(ap a l r d t).2:=fun x' y' z' =>
    ih (i+1) x' y' z' _ (by omega) (by simp [hl]) (by
     rw [List.getD_eq_getElem?_getD,List.getElem?_append_right (by omega),hl]
     simp)
   by_cases h0:i % 2=0
   · have e2:ap a l r d (i+1)=((ap a l r d i).1*(d-l),(ap a l r d i).2*(d+r)):=by rw [ap,if_pos h0]
     rw [e2] at b1 b2
     simp only [] at b1 b2
     have hm:qgvz.f 0 d=some d:=by unfold qgvz.f; simp (disch:=omega) only [S]
     have e3:d+r-l-r=d-l:=by omega
     obtain ⟨res,s1,s2⟩:=step (W (W (x*W (d+r))+(ap a l r d i).1)) (W (W (y*W (d+r))+W (d*(ap a l r d i).1))) (W (W (z*W (d+r))+W (d*(ap a l r d i).1)))
     refine ⟨res,qhvz.v0 ?_,s2⟩
     rw [e2] at s1
     simp only [] at s1
     have w1:W (d+r)=d+r:=w64 (by omega) (by omega)
     have w2:W (W (W (d+r)-l)-r)=d-l:=by rw [w1,w64 (x:=d+r-l) (by omega) (by omega),e3,w64 (by omega) (by omega)]
     have w3:W ((ap a l r d i).1*(d-l))=(ap a l r d i).1*(d-l):=w64 (by omega) (by omega)
     have w4:W ((ap a l r d i).2*(d+r))=(ap a l r d i).2*(d+r):=w64 (by omega) (by omega)
     have w5:W (((i+1:Nat):Int)+1)=((i+1+1:Nat):Int):=by rw [w64 (by omega) (by omega)]; omega
     have c1:iLe ((i+1:Nat):Int) (t:Int)=true:=decide_eq_true (by omega)
     have c2:(Int.tmod ((i+1:Nat):Int) 2 == 0)=false:=by rw [e1]; exact beq_eq_false_iff_ne.2 (by omega)
     have c3:lnN out+1<=3518437208883:=by show out.length+1<=_; omega
     simp only [c1,c2,hm,Option.bind_some,w2,w3,w5,if_true,Bool.false_eq_true,if_false]
     unfold gd
     simp only [if_pos c3]
     rw [w1] at s1 ⊢
     rw [w4]
     exact s1
   · have e2:ap a l r d (i+1)=((ap a l r d i).1*(d-r),(ap a l r d i).2*(d+l)):=by rw [ap,if_neg h0]
     rw [e2] at b1 b2
     simp only [] at b1 b2
     have hm:qgvz.f 0 (W (0-d))=some 0:=by
      unfold qgvz.f
      rw [w64 (by omega) (by omega)]
      by_cases hd:(0:Int) > 0-d
      · simp (disch:=omega) only [S]
      · omega
     have e3:d+l-l-r=d-r:=by omega
     obtain ⟨res,s1,s2⟩:=step (W (W (x*W (d+l))+(ap a l r d i).1)) (W (W (y*W (d+l))+W (W (0-d)*(ap a l r d i).1))) (W (W (z*W (d+l))+W (0*(ap a l r d i).1)))
     refine ⟨res,qhvz.v0 ?_,s2⟩
     rw [e2] at s1
     simp only [] at s1
     have w1:W (d+l)=d+l:=w64 (by omega) (by omega)
     have w2:W (W (W (d+l)-l)-r)=d-r:=by rw [w1,w64 (x:=d+l-l) (by omega) (by omega),e3,w64 (by omega) (by omega)]
     have w3:W ((ap a l r d i).1*(d-r))=(ap a l r d i).1*(d-r):=w64 (by omega) (by omega)
     have w4:W ((ap a l r d i).2*(d+l))=(ap a l r d i).2*(d+l):=w64 (by omega) (by omega)
     have w5:W (((i+1:Nat):Int)+1)=((i+1+1:Nat):Int):=by rw [w64 (by omega) (by omega)]; omega
     have c1:iLe ((i+1:Nat):Int) (t:Int)=true:=decide_eq_true (by omega)
     have c2:(Int.tmod ((i+1:Nat):Int) 2 == 0)=true:=by rw [e1]; exact beq_iff_eq.2 (by omega)
     have c3:lnN out+1<=3518437208883:=by show out.length+1<=_; omega
     simp only [c1,c2,hm,Option.bind_some,w2,w3,w5,if_true]
     unfold gd
     simp only [if_pos c3]
     rw [w1] at s1 ⊢
     rw [w4]
     exact s1
 obtain ⟨res,s1,s2⟩:=key t 0 0 0 0 [(0,(0,(a,(0,1))))] (by omega) rfl rfl
 exact ⟨res,qhvz.v s1,s2⟩
theorem zf2 (a l r d t:Int):Same3 (fun k=>qbtz.f k a l r d t) (fun k=>qbuz.f k a l r d t):=by
 have hT:qhrz.f t=some (decide (1<=t/\t<=6)):=by unfold qhrz.f; simp only [zas,S]
 cases hc:cOk a l r d with
 | false =>
  refine Same3.no (qbtz.v ?_) (qbuz.v ?_)
  · simp only [zaT,hc,S]; exact Ev.now _
  · simp only [za0,hc,S]; exact Ev.now _
 | true =>
  by_cases ht:1<=t/\t<=6
  · obtain ⟨n,rfl⟩ : ∃ n:Nat,t=(n:Int):=⟨t.toNat,by omega⟩
    obtain ⟨b1,b2⟩:=zr7 hc n (by omega)
    have hb:=zmA n (by omega)
    obtain ⟨res,s1,s2,s3,s4⟩:=zlh hc n (by omega)
    obtain ⟨q,r1,r2,r3,r4⟩:=Same3.frac (n:=(ap a l r d n).1) (d:=(ap a l r d n).2) (by unfold i64; omega) (by unfold i64; omega) (by omega) rfl rfl
    refine ⟨q,qbtz.v ?_,qbuz.v ?_,r3,r4⟩
    · simp only [zaT,hc,S,hT,decide_eq_true ht]
      exact Ev.bind (zjB hc n (by omega)) r1
    · simp only [za0,hc,S,zaq,decide_eq_true ht]
      refine Ev.bind s1 ?_
      simp (disch:=omega) only [S,s3,s4]
      exact r2
  · refine Same3.no (qbtz.v ?_) (qbuz.v ?_)
    · simp only [zaT,hc,S,hT,decide_eq_false ht]; exact Ev.now _
    · simp only [za0,hc,S,zaq,decide_eq_false ht]; exact Ev.now _
theorem zli {x0 x4 x5:Int} {l:List Wk} {r:R3} (b:Nat):∀ a:Nat,Ev (fun k=>qecz.l0 k x0 ((Nat.gcd a b:Nat):Int) l x4 (W (x5+1))) r->Ev (fun k=>qecz.l1 k x0 (a:Int) (b:Int) l x4 x5) r:=by
 induction b using Nat.strongRecOn with
 | _ b ih =>
  intro a h
  refine qecz.v1 ?_
  rcases Nat.eq_zero_or_pos b with rfl | hb
  · rw [Nat.gcd_zero_right] at h
    have c1:iGt ((0:Nat):Int) 0=false:=rfl
    simp only [c1,Bool.false_eq_true,if_false]
    exact h
  · have e:Nat.gcd a b=Nat.gcd b (a % b):=by rw [Nat.gcd_comm a b,Nat.gcd_rec,Nat.gcd_comm]
    rw [e] at h
    have:=ih (a % b) (Nat.mod_lt _ hb) b h
    rw [Int.ofNat_tmod] at this
    have c1:iGt (b:Int) 0=true:=decide_eq_true (by omega)
    simp only [c1,if_true,if_neg (show ¬ (b:Int)=0 by omega)]
    exact this
theorem zjC {l:List Wk} {n:Int} (hl:zam 8 wOk l=true) (hn:1<=n/\n<=1000):Same3 (fun k=>qeez.f k n l) (fun k=>qecz.f k n l):=by
 obtain ⟨h1,h2⟩:=zak.1 hl
 have key:∀ (e i:Nat) (g:Nat),i+e=l.length->g<=100->Same3 (fun k=>qeez.l0 k n (g:Int) l (l.length:Int) (i:Int)) (fun k=>qecz.l0 k n (g:Int) l (l.length:Int) (i:Int)):=by
  intro e
  induction e with
  | zero =>
   intro i g hi hg
   by_cases h0:g=0
   · subst h0
     refine Same3.no (qeez.v0 ?_) (qecz.v0 ?_) <;> simp (disch:=omega) only [S] <;> exact Ev.now _
   · obtain ⟨r,r1,r2,r3⟩:=Same3.frac (n:=n) (d:=(g:Int)) (by unfold i64; omega) (by unfold i64; omega) (by omega) rfl rfl
     refine ⟨r,qeez.v0 ?_,qecz.v0 ?_,r3⟩
     · simp (disch:=omega) only [S]; exact r1
     · simp (disch:=omega) only [S]; exact r2
  | succ e ih =>
   intro i g hi hg
   have hw:=zaO.1 (h2 _ (zaf (z:=(0,0)) (show i < l.length by omega)))
   have hs:i64 (l.getD i (0,0)).2:=by unfold i64; omega
   have hb:Nat.gcd g (l.getD i (0,0)).2.natAbs<=100:=by
    rcases Nat.eq_zero_or_pos g with rfl | h0
    · rw [Nat.gcd_zero_left]; omega
    · exact Nat.le_trans (Nat.gcd_le_left _ h0) hg
   obtain ⟨r,r1,r2,r3⟩:=ih (i+1) (Nat.gcd g (l.getD i (0,0)).2.natAbs) (by omega) hb
   refine ⟨r,qeez.v0 ?_,qecz.v0 ?_,r3⟩
   · simp (disch:=omega) only [S,zc6 hs]
     exact Ev.bind (zee _ _) r1
   · simp (disch:=omega) only [S,zeA hs]
     refine zli _ _ ?_
     simp (disch:=omega) only [S]
     exact r2
 obtain ⟨r,r1,r2,r3⟩:=key l.length 0 0 (by omega) (by omega)
 refine ⟨r,qeez.v ?_,qecz.v ?_,r3⟩
 · simp only [zbC hn,S]
   refine Ev.bind (zaz l) ?_
   simp only [hl,S]
   exact r1
 · simp only [zaq,decide_eq_true hn,S]
   refine Ev.bind (zbc l) ?_
   simp only [hl,S]
   exact r2
def inn (a b x:Int):Nat->Int->Int
 | 0,_=>0
 | e+1,j=>(if j<=x+a/\x<=j+b then 1 else 0)+inn a b x e (j+1)
def tot (m:Nat) (a b:Int):Nat->Int->Int
 | 0,_=>0
 | e+1,x=>inn a b x m 0+tot m a b e (x+1)
theorem zqI (a b x:Int):∀ (e:Nat) (j:Int),0<=inn a b x e j/\inn a b x e j<=e
 | 0,_=>⟨Int.le_refl _,Int.le_refl _⟩
 | e+1,j=>by
  have:=zqI a b x e (j+1)
  unfold inn
  split <;> omega
theorem zqJ (m:Nat) (a b:Int):∀ (e:Nat) (x:Int),0<=tot m a b e x/\tot m a b e x<=e*m
 | 0,_=>⟨Int.le_refl _,by simp [tot]⟩
 | e+1,x=>by
  have h1:=zqJ m a b e (x+1)
  have h2:=zqI a b x m 0
  unfold tot
  rw [show ((e+1:Nat):Int)=e+1 by omega,Int.add_mul]
  omega
theorem zkA {m:Nat} {a b:Int} (hm:m<=200) (ha:0<=a/\a<=200) (hb:0<=b/\b<=200):Ev (fun k=>qbzz.f k (m:Int) a b) (tot m a b m 0)/\Ev (fun k=>qdtz.f k (m:Int) a b) (tot m a b m 0):=by
 have inner:∀ (x:Nat) (r:Int),x < m->∀ (e j:Nat) (c:Int),j+e=m->(0<=c/\c<=200*x+j) ->
     (Ev (fun k=>qbzz.l0 k (m:Int) a b (c+inn a b x e j) (m:Int) ((x+1:Nat):Int)) r->Ev (fun k=>qbzz.l1 k (m:Int) a b c (x:Int) (m:Int) (x:Int) (m:Int) (j:Int)) r) /\
     (Ev (fun k=>qdtz.l0 k (m:Int) a b (c+inn a b x e j) ((x+1:Nat):Int)) r->Ev (fun k=>qdtz.l1 k (m:Int) a b c (x:Int) (j:Int)) r):=by
  intro x r hx e
  induction e with
  | zero =>
   intro j c hj hc
   simp only [inn,Int.add_zero]
   refine ⟨fun h=>qbzz.v1 ?_,fun h=>qdtz.v1 ?_⟩ <;> simp (disch:=omega) only [S] <;> exact h
  | succ e ih =>
   intro j c hj hc
   unfold inn
   by_cases h1:(j:Int)<=x+a
   · by_cases h2:(x:Int)<=j+b
     · obtain ⟨i1,i2⟩:=ih (j+1) (c+1) (by omega) (by omega)
       rw [if_pos ⟨h1,h2⟩]
       refine ⟨fun h=>qbzz.v1 ?_,fun h=>qdtz.v1 ?_⟩
       · have h':=i1 (by rw [show c+1+inn a b x e ((j+1:Nat):Int)=c+(1+inn a b x e ((j:Int)+1)) by rw [show ((j+1:Nat):Int)=(j:Int)+1 by omega]; omega]; exact h)
         simp (disch:=omega) only [S]
         exact h'
       · have h':=i2 (by rw [show c+1+inn a b x e ((j+1:Nat):Int)=c+(1+inn a b x e ((j:Int)+1)) by rw [show ((j+1:Nat):Int)=(j:Int)+1 by omega]; omega]; exact h)
         simp (disch:=omega) only [S]
         exact h'
     · obtain ⟨i1,i2⟩:=ih (j+1) c (by omega) (by omega)
       rw [if_neg (fun h=>h2 h.2),Int.zero_add]
       refine ⟨fun h=>qbzz.v1 ?_,fun h=>qdtz.v1 ?_⟩
       · have h':=i1 h
         simp (disch:=omega) only [S]
         exact h'
       · have h':=i2 h
         simp (disch:=omega) only [S]
         exact h'
   · obtain ⟨i1,i2⟩:=ih (j+1) c (by omega) (by omega)
     rw [if_neg (fun h=>h1 h.1),Int.zero_add]
     refine ⟨fun h=>qbzz.v1 ?_,fun h=>qdtz.v1 ?_⟩
     · have h':=i1 h
       simp (disch:=omega) only [S]
       exact h'
     · have h':=i2 h
       simp (disch:=omega) only [S]
       exact h'
 have outer:∀ (e x:Nat) (c:Int),x+e=m->(0<=c/\c<=200*x)->Ev (fun k=>qbzz.l0 k (m:Int) a b c (m:Int) (x:Int)) (c+tot m a b e x)/\Ev (fun k=>qdtz.l0 k (m:Int) a b c (x:Int)) (c+tot m a b e x):=by
  intro e
  induction e with
  | zero =>
   intro x c hx hc
   simp only [tot,Int.add_zero]
   refine ⟨qbzz.v0 ?_,qdtz.v0 ?_⟩ <;> simp (disch:=omega) only [S] <;> exact Ev.now _
  | succ e ih =>
   intro x c hx hc
   have hb:=zqI a b x m 0
   obtain ⟨o1,o2⟩:=ih (x+1) (c+inn a b x m 0) (by omega) (by omega)
   obtain ⟨i1,i2⟩:=inner x (c+tot m a b (e+1) x) (by omega) m 0 c (by omega) (by omega)
   have e1:c+inn a b x m 0+tot m a b e ((x+1:Nat):Int)=c+tot m a b (e+1) x:=by
    rw [tot,show ((x+1:Nat):Int)=(x:Int)+1 by omega]; omega
   rw [e1] at o1 o2
   refine ⟨qbzz.v0 ?_,qdtz.v0 ?_⟩
   · simp (disch:=omega) only [S]; exact i1 o1
   · simp (disch:=omega) only [S]; exact i2 o2
 obtain ⟨o1,o2⟩:=outer m 0 0 (by omega) (by omega)
 rw [Int.zero_add] at o1 o2
 exact ⟨qbzz.v o1,qdtz.v o2⟩
theorem zf3 (m a b:Int):Same3 (fun k=>qboz.f k m a b) (fun k=>qbqz.f k m a b):=by
 have hI:qfhz.f m a b=some (decide (1<=m/\m<=200) && (decide (0<=a/\a<=200) && decide (0<=b/\b<=200))):=by
  unfold qfhz.f qekz.f
  simp only [zas,S]
  cases decide (1<=m/\m<=200) <;> cases decide (0<=a/\a<=200) <;> rfl
 have hS:qetz.f m a b=some (decide (1<=m/\m<=200) && (decide (0<=a/\a<=200) && decide (0<=b/\b<=200))):=by
  unfold qetz.f
  simp only [zaq,S]
  cases decide (1<=m/\m<=200) <;> cases decide (0<=a/\a<=200) <;> rfl
 cases hc:(decide (1<=m/\m<=200) && (decide (0<=a/\a<=200) && decide (0<=b/\b<=200))) with
 | false =>
  refine Same3.no (qboz.v ?_) (qbqz.v ?_)
  · simp only [hI,hc,S]; exact Ev.now _
  · simp only [hS,hc,S]; exact Ev.now _
 | true =>
  simp only [Bool.and_eq_true,decide_eq_true_eq] at hc
  obtain ⟨h1,h2,h3⟩:=hc
  have hc:(decide (1<=m/\m<=200) && (decide (0<=a/\a<=200) && decide (0<=b/\b<=200)))=true:=by simp [h1,h2,h3]
  obtain ⟨n,rfl⟩ : ∃ n:Nat,m=(n:Int):=⟨m.toNat,by omega⟩
  obtain ⟨c1,c2⟩:=zkA (m:=n) (a:=a) (b:=b) (by omega) h2 h3
  have hb:=zqJ n a b n 0
  have hm:=mulb (a:=(n:Int)) (b:=(n:Int)) (A:=200) (B:=200) (by omega) (by omega) (by omega) (by omega)
  have hp:=Int.mul_pos (a:=(n:Int)) (b:=(n:Int)) (by omega) (by omega)
  have hl:=zeB (n:=tot n a b n 0) (d:=(n:Int)*n) (by unfold i64; omega) (by unfold i64; omega)
  refine ⟨((low (tot n a b n 0) ((n:Int)*n)).1,((low (tot n a b n 0) ((n:Int)*n)).2,true)),qboz.v ?_,qbqz.v ?_,hl.1,hl.2⟩
  · simp only [hI,hc,S]
    refine Ev.bind c1 ?_
    simp (disch:=omega) only [S]
    exact Ev.bind (zby (by unfold i64; omega) (by unfold i64; omega) (by omega)) (Ev.now _)
  · simp only [hS,hc,S]
    refine Ev.bind c2 ?_
    simp (disch:=omega) only [S]
    exact Ev.bind (zbv (by unfold i64; omega) (by unfold i64; omega) (by omega)) (Ev.now _)
def zf4 (L:List (List Int)):Prop:=∀ r∈L,r.length=2 /\ ∀ n∈r,i64 n
theorem zkB {L:List (List Int)} (h:zf4 L) {a b:Int} (ha:i64 a) (hb:i64 b):zf4 (L++[[a,b]]):=by
 intro r hr
 rcases List.mem_append.1 hr with hr | hr
 · exact h r hr
 · simp only [List.mem_singleton] at hr
   subst hr
   refine ⟨rfl,fun n hn=>?_⟩
   simp only [List.mem_cons,List.not_mem_nil,or_false] at hn
   rcases hn with rfl | rfl
   · exact ha
   · exact hb
theorem zf5 (a b:Int):qfvz.f a b=some (min a b):=by
 unfold qfvz.f
 by_cases h:a < b
 · simp (disch:=omega) only [S]; exact congrArg some (by omega)
 · simp (disch:=omega) only [S]; exact congrArg some (by omega)
theorem zf6 (a b:Int):qgvz.f a b=some (max a b):=by
 unfold qgvz.f
 by_cases h:b < a
 · simp (disch:=omega) only [S]; exact congrArg some (by omega)
 · simp (disch:=omega) only [S]; exact congrArg some (by omega)
theorem zph {l:List Wk} (hok:zam 6 vOk l=true):∃ rows:List (List Int),Ev (fun k=>qcdz.f k l) (rows,true)/\Ev (fun k=>qcpz.f k l) (rows,true)/\zf4 rows/\rows.length<=36:=by
 obtain ⟨h1,h2⟩:=zak.1 hok
 have inner:∀ (i:Nat),i < l.length->(∀ acc,zf4 acc->acc.length<=6*(i+1)->∃ rows:List (List Int),Ev (fun k=>qcdz.l0 k l l (l.length:Int) ((i+1:Nat):Int) acc) (rows,true)/\Ev (fun k=>qcpz.l0 k l l (l.length:Int) ((i+1:Nat):Int) acc) (rows,true)/\zf4 rows/\rows.length<=36) ->
     ∀ (e j:Nat) acc,j+e=l.length->zf4 acc->acc.length<=6*i+j->∃ rows:List (List Int),Ev (fun k=>qcdz.l1 k l (i:Int) (j:Int) l (l.length:Int) (i:Int) acc (l.getD i (0,0)).1 (l.getD i (0,0)).2) (rows,true)/\Ev (fun k=>qcpz.l1 k l (i:Int) (j:Int) l (l.length:Int) (i:Int) acc (l.getD i (0,0)).1 (l.getD i (0,0)).2) (rows,true)/\zf4 rows/\rows.length<=36:=by
  intro i hi hout e
  induction e with
  | zero =>
   intro j acc hj ha hl
   obtain ⟨rows,a,b,c⟩:=hout acc ha (by omega)
   refine ⟨rows,qcdz.v1 ?_,qcpz.v1 ?_,c⟩ <;> simp (disch:=omega) only [S] <;> assumption
  | succ e ih =>
   intro j acc hj ha hl
   have hv:=zdk.1 (h2 _ (zaf (z:=(0,0)) hi))
   have hw:=zdk.1 (h2 _ (zaf (z:=(0,0)) (show j < l.length by omega)))
   by_cases c1:(l.getD i (0,0)).1<=(l.getD j (0,0)).1+(l.getD j (0,0)).2
   · by_cases c2:(l.getD j (0,0)).1<=(l.getD i (0,0)).1+(l.getD i (0,0)).2
     · obtain ⟨rows,a,b,c⟩:=ih (j+1) (acc++[[(i:Int),(j:Int)]]) (by omega) (zkB ha (by unfold i64; omega) (by unfold i64; omega)) (by simp; omega)
       refine ⟨rows,qcdz.v1 ?_,qcpz.v1 ?_,c⟩
       · simp (disch:=omega) only [S]; exact a
       · simp (disch:=omega) only [S,zf5,zf6]; exact b
     · obtain ⟨rows,a,b,c⟩:=ih (j+1) acc (by omega) ha (by omega)
       refine ⟨rows,qcdz.v1 ?_,qcpz.v1 ?_,c⟩
       · simp (disch:=omega) only [S]; exact a
       · simp (disch:=omega) only [S,zf5,zf6]; exact b
   · obtain ⟨rows,a,b,c⟩:=ih (j+1) acc (by omega) ha (by omega)
     refine ⟨rows,qcdz.v1 ?_,qcpz.v1 ?_,c⟩
     · simp (disch:=omega) only [S]; exact a
     · simp (disch:=omega) only [S,zf5,zf6]; exact b
 have outer:∀ (e i:Nat) acc,i+e=l.length->zf4 acc->acc.length<=6*i->∃ rows:List (List Int),Ev (fun k=>qcdz.l0 k l l (l.length:Int) (i:Int) acc) (rows,true)/\Ev (fun k=>qcpz.l0 k l l (l.length:Int) (i:Int) acc) (rows,true)/\zf4 rows/\rows.length<=36:=by
  intro e
  induction e with
  | zero =>
   intro i acc hi ha hl
   refine ⟨acc,qcdz.v0 ?_,qcpz.v0 ?_,ha,by omega⟩ <;> simp (disch:=omega) only [S] <;> exact Ev.now _
  | succ e ih =>
   intro i acc hi ha hl
   obtain ⟨rows,a,b,c⟩:=inner i (by omega) (fun acc ha hl=>ih (i+1) acc (by omega) ha hl) e (i+1) acc (by omega) ha (by omega)
   refine ⟨rows,qcdz.v0 ?_,qcpz.v0 ?_,c⟩
   · simp (disch:=omega) only [S]; exact a
   · simp (disch:=omega) only [S]; exact b
 obtain ⟨rows,a,b,c⟩:=outer l.length 0 [] (by omega) (fun r hr=>by simp at hr) (by simp)
 refine ⟨rows,qcdz.v (Ev.bind (zcv l) ?_),qcpz.v (Ev.bind (zdN l) ?_),c⟩ <;> simp only [hok,S] <;> assumption
section
variable {α:Type}
def zc7 (lt:α->α->Bool) (z x:α) (acc:List α):Nat->Nat
 | 0=>0
 | n+1=>if lt x (acc.getD n z)=true then zc7 lt z x acc n else n+1
def zbi (acc:List α) (x:α) (n:Nat):List α:=acc.take n++x::acc.drop n
def ins (lt:α->α->Bool) (z:α) (acc:List α) (x:α):List α:=zbi acc x (zc7 lt z x acc acc.length)
def zaC (lt:α->α->Bool) (z:α) (l:List α):List α:=l.foldl (ins lt z) []
theorem zik (lt:α->α->Bool) (z x:α) (acc:List α):∀ n,zc7 lt z x acc n<=n
 | 0=>Nat.le_refl _
 | n+1=>by
  unfold zc7
  split
  · exact Nat.le_succ_of_le (zik lt z x acc n)
  · exact Nat.le_refl _
theorem ztx (lt:α->α->Bool) (z:α) (acc:List α) (x:α):(ins lt z acc x).length=acc.length+1:=by
 have:=zik lt z x acc acc.length
 unfold ins zbi
 simp
 omega
theorem zbQ (lt:α->α->Bool) (z:α) (l:List α) (x:α):zaC lt z (l++[x])=ins lt z (zaC lt z l) x:=by
 unfold zaC
 rw [List.foldl_append]
 rfl
theorem zcP (lt:α->α->Bool) (z:α) (l:List α):(zaC lt z l).length=l.length:=by
 have key:∀ n,∀ l:List α,l.length=n->(zaC lt z l).length=n:=by
  intro n
  induction n with
  | zero=>intro l h; rw [List.length_eq_zero_iff.1 h]; rfl
  | succ n ih =>
   intro l h
   have h0:l ≠ []:=by intro e; subst e; simp at h
   rw [<- List.dropLast_concat_getLast h0,zbQ,ztx,ih _ (by simp [h])]
 exact key _ l rfl
theorem zhi (acc:List α) (x:α) (n:Nat):(zbi acc x n).Perm (acc++[x]):=by
 unfold zbi
 have h:(acc.take n++x::acc.drop n).Perm (x::(acc.take n++acc.drop n)):=List.perm_middle
 rw [List.take_append_drop] at h
 exact h.trans (List.perm_append_singleton x acc).symm
theorem za7 (lt:α->α->Bool) (z:α) (l:List α):(zaC lt z l).Perm l:=by
 have key:∀ n,∀ l:List α,l.length=n->(zaC lt z l).Perm l:=by
  intro n
  induction n with
  | zero=>intro l h; rw [List.length_eq_zero_iff.1 h]; exact List.Perm.refl _
  | succ n ih =>
   intro l h
   have h0:l ≠ []:=by intro e; subst e; simp at h
   have h1:=ih l.dropLast (by simp [h])
   have h2:(zaC lt z (l.dropLast++[l.getLast h0])).Perm (l.dropLast++[l.getLast h0]):=by
    rw [zbQ]
    exact (zhi _ _ _).trans (h1.append_right _)
   rwa [List.dropLast_concat_getLast h0] at h2
 exact key _ l rfl
def zqK (G:Fu->α->α->Option Int) (lt:α->α->Bool) (P:α->Prop):Prop:=∀ x y,P x->P y->∃ c,Ev (fun k=>G k x y) c/\iLt c 0=lt x y
theorem zty {u w:List α} {p q z:α}:(u++p::q::w).getD u.length z=p/\(u++p::q::w).getD (u.length+1) z=q/\((u++p::q::w).set (u.length+1) p).set u.length q=u++q::p::w:=by
 refine ⟨?_,?_,?_⟩
 · simp [List.getD_eq_getElem?_getD]
 · rw [List.getD_eq_getElem?_getD,List.getElem?_append_right (by omega)]
   simp
 · rw [List.set_append_right _ _ (by omega),List.set_append_right _ _ (by omega)]
   simp
theorem zlj {z:α} {G:Fu->α->α->Option Int} {lt:α->α->Bool} {P:α->Prop} (hG:zqK G lt P) {F0:Fu->Int->Int->Int->List α->Option (List α)} {F1:Fu->Int->Int->Int->Int->List α->Option (List α)}
    (step0:∀ {x0 x1 x2:Int} {x3:List α} {r},Ev (fun k=>if (iLt x2 x1) then F1 k x0 x1 x2 x2 x3 else some x3) r->Ev (fun k=>F0 k x0 x1 x2 x3) r)
    (step1:∀ {x0 x1 x2 x3:Int} {x4:List α} {r},Ev (fun k=>if (iGt x3 x0) then ix x3 x4 <| ix (W (x3-1)) x4 <| (G k (rd z x4 x3) (rd z x4 (W (x3-1)))).bind fun t0 =>
     if (iLt t0 0) then ix (W (x3-1)) x4 <| ix x3 x4 <| ix x3 x4 <| ix (W (x3-1)) (List.set x4 (Int.toNat x3) (rd z x4 (W (x3-1)))) <| F1 k x0 x1 x2 (W (x3-1)) (List.set (List.set x4 (Int.toNat x3) (rd z x4 (W (x3-1)))) (Int.toNat (W (x3-1))) (rd z x4 x3)) else F0 k x0 x1 (W (x2+1)) x4 else F0 k x0 x1 (W (x2+1)) x4) r->Ev (fun k=>F1 k x0 x1 x2 x3 x4) r)
    (pre blk post:List α) (hP:∀ x∈blk,P x) (hl:pre.length+blk.length+post.length<=1000000000) :
    Ev (fun k=>F0 k (pre.length:Int) ((pre.length+blk.length:Nat):Int) ((pre.length+1:Nat):Int) (pre++blk++post)) (pre++zaC lt z blk++post):=by
 have inner:∀ (acc rest:List α) (x:α) (b i:Nat) (r:List α),(∀ y∈acc,P y)->P x->pre.length+acc.length+rest.length+1<=1000000000->i<=1000000000->∀ n,n<=acc.length ->
     Ev (fun k=>F0 k (pre.length:Int) (b:Int) ((i+1:Nat):Int) (pre++zbi acc x (zc7 lt z x acc n)++rest)) r->Ev (fun k=>F1 k (pre.length:Int) (b:Int) (i:Int) ((pre.length+n:Nat):Int) (pre++zbi acc x n++rest)) r:=by
  intro acc rest x b i r hacc hx hlen hi n
  have ei:W ((i:Int)+1)=((i+1:Nat):Int):=by rw [w64 (by omega) (by omega)]; omega
  induction n with
  | zero =>
   intro _ h
   refine step1 ?_
   have c:iGt ((pre.length+0:Nat):Int) (pre.length:Int)=false:=decide_eq_false (by omega)
   simp only [c,ei,Bool.false_eq_true,if_false]
   exact h
  | succ n ih =>
   intro hn h
   have hy:acc.getD n z∈acc:=zaf (by omega)
   obtain ⟨c,hc1,hc2⟩:=hG x (acc.getD n z) hx (hacc _ hy)
   have e1:zbi acc x (n+1)=acc.take n++acc.getD n z::x::acc.drop (n+1):=by
    unfold zbi
    rw [zbA z (by omega)]
    simp
   have e2:zbi acc x n=acc.take n++x::acc.getD n z::acc.drop (n+1):=by
    unfold zbi
    rw [zaF z (show n < acc.length by omega)]
   obtain ⟨s1,s2,s3⟩:=zty (u:=pre++acc.take n) (w:=acc.drop (n+1)++rest) (p:=acc.getD n z) (q:=x) (z:=z)
   have hu:(pre++acc.take n).length=pre.length+n:=by simp; omega
   rw [hu] at s1 s2 s3
   have e3:pre++zbi acc x (n+1)++rest=pre++acc.take n++acc.getD n z::x::(acc.drop (n+1)++rest):=by rw [e1]; simp
   have e4:pre++zbi acc x n++rest=pre++acc.take n++x::acc.getD n z::(acc.drop (n+1)++rest):=by rw [e2]; simp
   have hL:(pre++acc.take n++acc.getD n z::x::(acc.drop (n+1)++rest)).length=pre.length+acc.length+rest.length+1:=by simp; omega
   rw [e3]
   generalize hg:pre++acc.take n++acc.getD n z::x::(acc.drop (n+1)++rest)=L at *
   have hL2:(L.set (pre.length+(n+1)) (acc.getD n z)).length=L.length:=List.length_set
   have ej:W (((pre.length+(n+1):Nat):Int)-1)=((pre.length+n:Nat):Int):=by rw [w64 (by omega) (by omega)]; omega
   have s2':L.getD (pre.length+(n+1)) z=x:=s2
   refine step1 ?_
   unfold zc7 at h
   cases hlt:lt x (acc.getD n z) with
   | true =>
    rw [hlt,if_pos rfl] at h
    rw [hlt] at hc2
    have h':=ih (by omega) h
    rw [e4] at h'
    simp only [ej]
    simp (disch:=omega) only [S,s1,s2',ei]
    refine Ev.bind hc1 ?_
    simp only [hc2,if_true]
    have s3':(L.set (pre.length+(n+1)) (acc.getD n z)).set (pre.length+n) x=pre++acc.take n++x::acc.getD n z::(acc.drop (n+1)++rest):=s3
    rw [s3']
    exact h'
   | false =>
    rw [hlt,if_neg (by simp)] at h
    rw [hlt] at hc2
    rw [e3] at h
    simp only [ej]
    simp (disch:=omega) only [S,s1,s2',ei]
    refine Ev.bind hc1 ?_
    simp only [hc2,Bool.false_eq_true,if_false]
    exact h
 have outer:∀ (d n:Nat),n+d=blk.length->1<=n->Ev (fun k=>F0 k (pre.length:Int) ((pre.length+blk.length:Nat):Int) ((pre.length+n:Nat):Int) (pre++zaC lt z (blk.take n)++(blk.drop n++post))) (pre++zaC lt z blk++post):=by
  intro d
  induction d with
  | zero =>
   intro n hn h1
   rw [List.take_of_length_le (by omega),List.drop_eq_nil_of_le (by omega)]
   refine step0 ?_
   simp (disch:=omega) only [S]
   exact Ev.now _
  | succ d ih =>
   intro n hn h1
   have h:=ih (n+1) (by omega) (by omega)
   have hl1:=zcP lt z (blk.take n)
   have hl2:(blk.take n).length=n:=by rw [List.length_take]; omega
   rw [zbA z (show n < blk.length by omega),zbQ] at h
   rw [zaF z (show n < blk.length by omega)]
   refine step0 ?_
   simp (disch:=omega) only [S]
   have hi:=inner (zaC lt z (blk.take n)) (blk.drop (n+1)++post) (blk.getD n z) (pre.length+blk.length) (pre.length+n) _ (fun y hy=>hP y (List.mem_of_mem_take ((za7 lt z _).mem_iff.1 hy))) (hP _ (zaf (by omega))) (by simp; omega) (by omega) n (by omega) (by
    unfold ins at h
    rw [hl1,hl2] at h
    exact h)
   have e:zbi (zaC lt z (blk.take n)) (blk.getD n z) n=zaC lt z (blk.take n)++[blk.getD n z]:=by
    unfold zbi
    rw [List.take_of_length_le (by omega),List.drop_eq_nil_of_le (by omega)]
   rw [e] at hi
   simpa using hi
 cases blk with
 | nil =>
  refine step0 ?_
  have c:iLt ((pre.length+1:Nat):Int) ((pre.length+([]:List α).length:Nat):Int)=false:=decide_eq_false (by simp; omega)
  simp only [c,Bool.false_eq_true,if_false]
  exact Ev.now _
 | cons x l =>
  have h:=outer l.length 1 (by simp; omega) (Nat.le_refl _)
  have e:zaC lt z ((x::l).take 1)=[x]:=by simp [zaC,ins,zbi,zc7]
  rw [e] at h
  simpa using h
end
theorem zb1 (a b:Int):∃ c,qduz.f a b=some c/\(iLt c 0=decide (a < b))/\(c=0 ↔ a=b):=by
 have hn:∀ n:Int,(n != n)=false:=fun n=>bne_self_eq_false n
 unfold qduz.f qfgz.f
 simp only [Option.bind_some,hn,Bool.false_eq_true,if_false]
 rcases Int.lt_trichotomy a b with h | h | h
 · refine ⟨-1,by simp (disch:=omega) only [S],by rw [decide_eq_true h]; rfl,by omega⟩
 · refine ⟨0,by simp (disch:=omega) only [S],by rw [decide_eq_false (by omega)]; rfl,by omega⟩
 · refine ⟨1,by simp (disch:=omega) only [S],by rw [decide_eq_false (by omega)]; rfl,by omega⟩
def bef:List Int->List Int->Bool
 | a::l,b::m=>if a=b then bef l m else decide (a < b)
 | _,_=>false
theorem zh1 {a b:List Int} (h:a.length=b.length) (hl:a.length<=1000000):Ev (fun k=>qfez.f k a b) (bef a b):=by
 have key:∀ (d i:Nat),i+d=a.length->Ev (fun k=>qfez.l0 k a b (a.length:Int) (i:Int)) (bef (a.drop i) (b.drop i)):=by
  intro d
  induction d with
  | zero =>
   intro i hi
   rw [List.drop_eq_nil_of_le (by omega),List.drop_eq_nil_of_le (by omega)]
   refine qfez.v0 ?_
   simp (disch:=omega) only [S]
   exact Ev.now _
  | succ d ih =>
   intro i hi
   have h1:=ih (i+1) (by omega)
   rw [zaF 0 (show i < a.length by omega),zaF 0 (show i < b.length by omega)]
   unfold bef
   refine qfez.v0 ?_
   by_cases e:a.getD i 0=b.getD i 0
   · rw [if_pos e]
     simp (disch:=omega) only [S]
     exact h1
   · rw [if_neg e]
     simp (disch:=omega) only [S]
     exact Ev.now _
 exact qfez.v (key a.length 0 (by omega))
def idx (n:Nat):List Int:=(List.range n).map fun i:Nat=>(i:Int)
theorem zop (n:Nat):idx (n+1)=idx n++[(n:Int)]:=by unfold idx; rw [List.range_succ]; simp
theorem zhj {n:Nat} {x:Int} (h:x∈idx n):∃ i:Nat,x=(i:Int)/\i < n:=by
 unfold idx at h
 obtain ⟨i,hi,rfl⟩:=List.mem_map.1 h
 exact ⟨i,rfl,List.mem_range.1 hi⟩
theorem zdp (n:Nat):(idx n).length=n:=by unfold idx; simp
def zlk (keys:List (List Int)) (i j:Int):Bool:=bef (keys.getD i.toNat []) (keys.getD j.toNat [])
theorem ze4 {keys:List (List Int)} {m:Nat} (hm:m<=10) (hk:∀ x∈keys,x.length=m) (hl:keys.length<=1000):Ev (fun k=>qgkz.f k keys) (zaC (zlk keys) 0 (idx keys.length)):=by
 have inner:∀ (i:Nat) (out:List Int) (r:List Int),i < keys.length->out.length=i->(∀ x∈out,∃ j:Nat,x=(j:Int)/\j < i)->∀ n,n<=out.length ->
     Ev (fun k=>qgkz.l0 k keys keys (keys.length:Int) ((i+1:Nat):Int) (zbi out (i:Int) (zc7 (zlk keys) 0 (i:Int) out n))) r->Ev (fun k=>qgkz.l1 k keys (i:Int) (keys.getD i []) (n:Int) keys (keys.length:Int) (i:Int) out) r:=by
  intro i out r hi ho hx n
  have fin:∀ p:Nat,p<=out.length->((out.take p++[(i:Int)])++(out.drop p).take (out.length-p))=zbi out (i:Int) p:=by
   intro p hp
   have e:(out.drop p).take (out.length-p)=out.drop p:=List.take_of_length_le (by simp)
   unfold zbi
   rw [e]
   simp
  induction n with
  | zero =>
   intro _ h
   have hf:=fin 0 (Nat.zero_le _)
   have h':Ev (fun k=>qgkz.l0 k keys keys (keys.length:Int) ((i+1:Nat):Int) (zbi out (i:Int) 0)) r:=h
   refine qgkz.v1 ?_
   have c:iGt ((0:Nat):Int) 0=false:=rfl
   have hlt:((out.take 0).length)=0:=by simp
   have hl3:(List.take (out.length-0) (List.drop 0 out)).length=out.length:=by simp
   simp only [c,Bool.false_eq_true,if_false]
   unfold qiez.f
   simp (disch:=omega) only [S,List.nil_append,List.length_append,List.length_cons,List.length_nil,List.length_take,List.length_drop]
   rw [hf]
   exact h'
  | succ n ih =>
   intro hn h
   have hy:=hx _ (zaf (z:=0) (show n < out.length by omega))
   obtain ⟨j,ej,hj⟩:=hy
   have hkj:(keys.getD i []).length=(keys.getD j []).length:=by rw [hk _ (zaf hi),hk _ (zaf (by omega))]
   have hb:=zh1 hkj (by rw [hk _ (zaf hi)]; omega)
   have hlt:zlk keys (i:Int) (out.getD n 0)=bef (keys.getD i []) (keys.getD j []):=by unfold zlk; rw [ej]; rfl
   have ew:W (((n+1:Nat):Int)-1)=((n:Nat):Int):=by rw [w64 (by omega) (by omega)]; omega
   unfold zc7 at h
   rw [hlt] at h
   refine qgkz.v1 ?_
   simp only [ew]
   simp (disch:=omega) only [S,ej]
   refine Ev.bind hb ?_
   cases hbf:bef (keys.getD i []) (keys.getD j []) with
   | true =>
    rw [hbf,if_pos rfl] at h
    simp only [if_true]
    exact ih (by omega) h
   | false =>
    rw [hbf,if_neg (by simp)] at h
    have hf:=fin (n+1) hn
    unfold qiez.f
    simp (disch:=omega) only [S,List.nil_append,List.length_append,List.length_cons,List.length_nil,List.length_take,List.length_drop]
    rw [hf]
    exact h
 have outer:∀ (d i:Nat),i+d=keys.length->Ev (fun k=>qgkz.l0 k keys keys (keys.length:Int) (i:Int) (zaC (zlk keys) 0 (idx i))) (zaC (zlk keys) 0 (idx keys.length)):=by
  intro d
  induction d with
  | zero =>
   intro i hi
   rw [show i=keys.length by omega]
   refine qgkz.v0 ?_
   simp (disch:=omega) only [S]
   exact Ev.now _
  | succ d ih =>
   intro i hi
   have h:=ih (i+1) (by omega)
   have hl:=zcP (zlk keys) 0 (idx i)
   rw [zdp] at hl
   rw [zop,zbQ] at h
   refine qgkz.v0 ?_
   simp (disch:=omega) only [S]
   rw [hl]
   refine inner i _ _ (by omega) hl (fun x hx=>zhj ((za7 _ _ _).mem_iff.1 hx)) i (by omega) ?_
   unfold ins at h
   rw [hl] at h
   exact h
 exact qgkz.v (outer keys.length 0 (by omega))
theorem zjD {α:Type} {lt lt':α->α->Bool} {z:α} {P:α->Prop} (h:∀ x y,P x->P y->lt x y=lt' x y):∀ l:List α,(∀ x∈l,P x)->zaC lt z l=zaC lt' z l:=by
 have hp:∀ (x:α) (acc:List α),P x->(∀ y∈acc,P y)->∀ n,n<=acc.length->zc7 lt z x acc n=zc7 lt' z x acc n:=by
  intro x acc hx ha n
  induction n with
  | zero=>intro _; rfl
  | succ n ih =>
   intro hn
   unfold zc7
   rw [h x _ hx (ha _ (zaf (by omega))),ih (by omega)]
 have key:∀ n,∀ l:List α,l.length=n->(∀ x∈l,P x)->zaC lt z l=zaC lt' z l:=by
  intro n
  induction n with
  | zero=>intro l h _; rw [List.length_eq_zero_iff.1 h]; rfl
  | succ n ih =>
   intro l hl hP
   have h0:l ≠ []:=by intro e; subst e; simp at hl
   have e:=ih l.dropLast (by simp [hl]) (fun x hx=>hP x ((List.dropLast_sublist l).subset hx))
   have e2:zaC lt z (l.dropLast++[l.getLast h0])=zaC lt' z (l.dropLast++[l.getLast h0]):=by
    rw [zbQ,zbQ,e]
    unfold ins
    rw [hp _ _ (hP _ (List.getLast_mem h0)) (fun y hy=>hP y ((List.dropLast_sublist l).subset ((za7 lt' z _).mem_iff.1 hy))) _ (Nat.le_refl _)]
   rwa [List.dropLast_concat_getLast h0] at e2
 exact fun l=>key l.length l rfl
theorem zuE (a b:Int):Ev (fun k=>qijz.f k [a,b]) (if a=0 then b else a):=by
 refine qijz.v (qijz.v0 ?_)
 have e0:W (0+1)=1:=by decide
 have e1:W (1+1)=2:=by decide
 by_cases ha:a=0
 · rw [if_pos ha]
   simp (disch:=omega) only [S,List.length_cons,List.length_nil,rd0,Int.zero_add]
   refine qijz.v0 ?_
   by_cases hb:b=0
   · subst hb
     simp (disch:=omega) only [S,List.length_cons,List.length_nil,rd1]
     refine qijz.v0 ?_
     simp (disch:=omega) only [S,List.length_cons,List.length_nil]
     exact Ev.now _
   · simp (disch:=omega) only [S,List.length_cons,List.length_nil,rd1]
     exact Ev.now _
 · rw [if_neg ha]
   simp (disch:=omega) only [S,List.length_cons,List.length_nil,rd0]
   exact Ev.now _
def wAt (l:List Wk) (i:Int):Wk:=l.getD i.toNat (0,0)
def zhO (l:List Wk) (i j:Int):Bool:=decide ((wAt l i).2 < (wAt l j).2 \/ ((wAt l i).2=(wAt l j).2/\(wAt l i).1 < (wAt l j).1))
def plc (n d:Int) (w:Wk):Int:=w.1*d+w.2*n
def ltAt (l:List Wk) (n d:Int) (i j:Int):Bool:=decide (plc n d (wAt l i) < plc n d (wAt l j))
def inR (m:Nat) (x:Int):Prop:=∃ i:Nat,x=(i:Int)/\i < m
theorem ztz (l:List Wk):zqK (fun k x y=>qbnz.f k x y l) (zhO l) (inR l.length):=by
 rintro x y ⟨i,rfl,hi⟩ ⟨j,rfl,hj⟩
 obtain ⟨c1,e1,l1,z1⟩:=zb1 (l.getD i (0,0)).2 (l.getD j (0,0)).2
 obtain ⟨c2,e2,l2,z2⟩:=zb1 (l.getD i (0,0)).1 (l.getD j (0,0)).1
 refine ⟨if c1=0 then c2 else c1,qbnz.v ?_,?_⟩
 · simp (disch:=omega) only [S]
   refine Ev.bind (qdfz.v ?_) (Ev.now _)
   simp only [e1,e2,S]
   exact Ev.bind (zuE c1 c2) (Ev.now _)
 · unfold zhO wAt
   simp only [Int.toNat_natCast]
   by_cases hc:c1=0
   · rw [if_pos hc,l2]
     have:=z1.1 hc
     exact zne (by omega)
   · rw [if_neg hc,l1]
     have:¬ (l.getD i (0,0)).2=(l.getD j (0,0)).2:=fun e=>hc (z1.2 e)
     exact zne (by omega)
theorem zqL {w:Wk} (hw:wOk w=true) {n d:Int} (hn:0<=n/\n<=1000000) (hd:1<=d/\d<=1000):qgbz.f w.1 w.2 n d=some (plc n d w)/\W (W (w.1*d)+W (w.2*n))=plc n d w /\ -200000000<=plc n d w/\plc n d w<=200000000:=by
 obtain ⟨p1,p2⟩:=zlf hw hn (show 0<=d/\d<=1000 by omega)
 unfold qgbz.f plc
 have e:W (W (w.1*d)+W (w.2*n))=w.1*d+w.2*n:=by rw [w64 (x:=w.1*d) (by omega) (by omega),w64 (x:=w.2*n) (by omega) (by omega),w64 (by omega) (by omega)]
 exact ⟨congrArg some e,e,by omega,by omega⟩
theorem zuF {l:List Wk} (hl:∀ w∈l,wOk w=true) {n d:Int} (hn:0<=n/\n<=1000000) (hd:1<=d/\d<=1000):zqK (fun _ x y=>qbjz.f x y n d l) (ltAt l n d) (inR l.length):=by
 rintro x y ⟨i,rfl,hi⟩ ⟨j,rfl,hj⟩
 have p1:=zqL (hl _ (zaf (z:=(0,0)) hi)) hn hd
 have p2:=zqL (hl _ (zaf (z:=(0,0)) hj)) hn hd
 obtain ⟨c1,e1,l1,z1⟩:=zb1 (plc n d (l.getD i (0,0))) (plc n d (l.getD j (0,0)))
 refine ⟨c1,zs9 ?_,?_⟩
 · unfold qbjz.f qctz.f
   simp (disch:=omega) only [S,p1.1,p2.1,e1]
 · rw [l1]
   rfl
theorem zoq {β:Type} {F:Fu->Int->List Int->Option β} {n:Nat} {r:β} (hend:Ev (fun k=>F k (n:Int) (idx n)) r)
    (hstep:∀ (i:Nat) (xs:List Int),i < n->xs.length=n->Ev (fun k=>F k ((i+1:Nat):Int) (xs.set i (i:Int))) r->Ev (fun k=>F k (i:Int) xs) r) :
    Ev (fun k=>F k 0 (List.replicate n (0:Int))) r:=by
 have key:∀ (d i:Nat),i+d=n->Ev (fun k=>F k (i:Int) (idx i++List.replicate d (0:Int))) r:=by
  intro d
  induction d with
  | zero =>
   intro i hi
   rw [show i=n by omega,List.replicate_zero,List.append_nil]
   exact hend
  | succ d ih =>
   intro i hi
   refine hstep i _ (by omega) (by simp [zdp]; omega) ?_
   have h:=ih (i+1) (by omega)
   rw [List.replicate_succ,List.set_append_right _ _ (by rw [zdp]; omega),zdp,Nat.sub_self,List.set_cons_zero]
   rw [zop] at h
   simpa using h
 exact key n 0 (by omega)
theorem zgJ {l:List Wk} (hok:zam 8 wOk l=true):Ev (fun k=>qbhz.f k l) (zaC (zhO l) 0 (idx l.length)):=by
 obtain ⟨h1,h2⟩:=zak.1 hok
 refine qbhz.v ?_
 simp (disch:=omega) only [S,List.length_replicate]
 refine zoq (F:=fun k i xs=>qbhz.l0 k (l.length:Int) i l xs) ?_ ?_
 · have hil:=zdp l.length
   refine qbhz.v0 ?_
   simp (disch:=omega) only [S]
   refine Ev.bind (qatz.v ?_) (Ev.now _)
   refine Ev.bind (qbaz.v (qbaz.v0 ?_)) (Ev.now _)
   simp (disch:=omega) only [S]
   refine Ev.bind (v:=zaC (zhO l) 0 (idx l.length)) (qarz.v ?_) (qbaz.v1 ?_)
   · have h:=zlj (ztz l) (F0:=fun k a b i arr=>qarz.l0 k a b l i arr) (F1:=fun k a b i j arr=>qarz.l1 k a b l i j arr)
      qarz.v0 qarz.v1 [] (idx l.length) [] (fun x hx=>zhj hx) (by simp [zdp]; omega)
     simp only [List.length_nil,Nat.zero_add,List.nil_append,List.append_nil,zdp] at h
     rw [hil,show W (0+1)=1 by decide]
     exact h
   · simp (disch:=omega) only [S]
     exact Ev.now _
 · intro i xs hi hx h
   refine qbhz.v0 ?_
   simp (disch:=omega) only [S]
   exact h
theorem zh2 {l:List Wk} (hok:zam 8 wOk l=true) {n d:Int} (hn:0<=n/\n<=1000000) (hd:1<=d/\d<=1000):Ev (fun k=>qbgz.f k l n d) (zaC (ltAt l n d) 0 (idx l.length)):=by
 obtain ⟨h1,h2⟩:=zak.1 hok
 refine qbgz.v ?_
 simp (disch:=omega) only [S,List.length_replicate]
 refine zoq (F:=fun k i xs=>qbgz.l0 k (l.length:Int) i l n d xs) ?_ ?_
 · have hil:=zdp l.length
   refine qbgz.v0 ?_
   simp (disch:=omega) only [S]
   refine Ev.bind (qaoz.v ?_) (Ev.now _)
   refine Ev.bind (qawz.v (qawz.v0 ?_)) (Ev.now _)
   simp (disch:=omega) only [S]
   refine Ev.bind (v:=zaC (ltAt l n d) 0 (idx l.length)) (qalz.v ?_) (qawz.v1 ?_)
   · have h:=zlj (zuF h2 hn hd) (F0:=fun k a b i arr=>qalz.l0 k a b n d l i arr) (F1:=fun k a b i j arr=>qalz.l1 k a b n d l i j arr)
      qalz.v0 qalz.v1 [] (idx l.length) [] (fun x hx=>zhj hx) (by simp [zdp]; omega)
     simp only [List.length_nil,Nat.zero_add,List.nil_append,List.append_nil,zdp] at h
     rw [hil,show W (0+1)=1 by decide]
     exact h
   · simp (disch:=omega) only [S]
     exact Ev.now _
 · intro i xs hi hx h
   refine qbgz.v0 ?_
   simp (disch:=omega) only [S]
   exact h
theorem zmB {lt:Int->Int->Bool} {m:Nat} (hm:m<=8):(zaC lt 0 (idx m)).length=m /\ ∀ x∈zaC lt 0 (idx m),i64 x:=by
 refine ⟨by rw [zcP,zdp],fun x hx=>?_⟩
 obtain ⟨i,rfl,hi⟩:=zhj ((za7 _ _ _).mem_iff.1 hx)
 unfold i64
 omega
theorem zj0 {l:List Wk} (hok:zam 8 wOk l=true):∃ L:List Int,Ev (fun k=>qenz.f k l) (L,true)/\Ev (fun k=>qegz.f k l) (L,true)/\L.length=l.length /\ ∀ n∈L,i64 n:=by
 obtain ⟨h1,h2⟩:=zak.1 hok
 refine ⟨zaC (zhO l) 0 (idx l.length),qenz.v (Ev.bind (zaz l) ?_),qegz.v (Ev.bind (zbc l) ?_),zmB h1.2⟩
 · simp only [hok,S]
   exact Ev.bind (zgJ hok) (Ev.now _)
 · simp only [hok,S]
   have hk:∀ (e i:Nat),i+e=l.length->Ev (fun k=>qegz.l0 k l (l.length:Int) (i:Int) ((l.take i).map fun w=>[w.2,w.1])) (zaC (zhO l) 0 (idx l.length),true):=by
    intro e
    induction e with
    | zero =>
     intro i hi
     rw [List.take_of_length_le (by omega)]
     refine qegz.v0 ?_
     simp (disch:=omega) only [S]
     have ho:=ze4 (keys:=l.map fun w=>[w.2,w.1]) (m:=2) (by decide) (by intro x hx; obtain ⟨w,_,rfl⟩:=List.mem_map.1 hx; rfl) (by simp; omega)
     rw [List.length_map] at ho
     refine Ev.bind ho (zbK ?_)
     rw [zjD (lt':=zhO l) (P:=inR l.length) ?_ _ (fun x hx=>zhj hx)]
     rintro x y ⟨i,rfl,hi⟩ ⟨j,rfl,hj⟩
     unfold zlk zhO wAt
     have g:∀ i,i < l.length->(l.map fun w=>[w.2,w.1]).getD i []=[(l.getD i (0,0)).2,(l.getD i (0,0)).1]:=fun i hi=>by simp [hi]
     simp only [Int.toNat_natCast,g i hi,g j hj,bef]
     by_cases e1:(l.getD i (0,0)).2=(l.getD j (0,0)).2
     · rw [if_pos e1]
       by_cases e2:(l.getD i (0,0)).1=(l.getD j (0,0)).1
       · rw [if_pos e2]; exact (zjf (by omega)).symm
       · rw [if_neg e2]; exact zne (by omega)
     · rw [if_neg e1]; exact zne (by omega)
    | succ e ih =>
     intro i hi
     have h:=ih (i+1) (by omega)
     rw [zbA (0,0) (show i < l.length by omega),List.map_append] at h
     have hl:((l.take i).map fun w:Wk=>[w.2,w.1]).length=i:=by simp; omega
     refine qegz.v0 ?_
     simp (disch:=omega) only [S]
     exact h
   exact hk l.length 0 (by omega)
theorem zj1 {l:List Wk} (hok:zam 8 wOk l=true) {n d:Int} (hn:0<=n/\n<=1000000) (hd:1<=d/\d<=1000):∃ L:List Int,Ev (fun k=>qeoz.f k l n d) (L,true)/\Ev (fun k=>qehz.f k l n d) (L,true)/\L.length=l.length /\ ∀ n∈L,i64 n:=by
 obtain ⟨h1,h2⟩:=zak.1 hok
 refine ⟨zaC (ltAt l n d) 0 (idx l.length),qeoz.v (Ev.bind (zaz l) ?_),qehz.v (Ev.bind (zbc l) ?_),zmB h1.2⟩
 · have hT:qhhz.f n d=some true:=by unfold qhhz.f; simp only [zas,S,decide_eq_true hn,decide_eq_true hd]
   simp only [hok,S,hT]
   exact Ev.bind (zh2 hok hn hd) (Ev.now _)
 · have hT:qhnz.f n d=some true:=by unfold qhnz.f; simp only [zaq,S,decide_eq_true hn,decide_eq_true hd]
   simp only [hok,S,hT]
   have hk:∀ (e i:Nat),i+e=l.length->Ev (fun k=>qehz.l0 k n d l (l.length:Int) (i:Int) ((l.take i).map fun w=>[plc n d w])) (zaC (ltAt l n d) 0 (idx l.length),true):=by
    intro e
    induction e with
    | zero =>
     intro i hi
     rw [List.take_of_length_le (by omega)]
     refine qehz.v0 ?_
     simp (disch:=omega) only [S]
     have ho:=ze4 (keys:=l.map fun w=>[plc n d w]) (m:=1) (by decide) (by intro x hx; obtain ⟨w,_,rfl⟩:=List.mem_map.1 hx; rfl) (by simp; omega)
     rw [List.length_map] at ho
     refine Ev.bind ho (zbK ?_)
     rw [zjD (lt':=ltAt l n d) (P:=inR l.length) ?_ _ (fun x hx=>zhj hx)]
     rintro x y ⟨i,rfl,hi⟩ ⟨j,rfl,hj⟩
     unfold zlk ltAt wAt
     have g:∀ i,i < l.length->(l.map fun w=>[plc n d w]).getD i []=[plc n d (l.getD i (0,0))]:=fun i hi=>by simp [hi]
     simp only [Int.toNat_natCast,g i hi,g j hj,bef]
     by_cases e1:plc n d (l.getD i (0,0))=plc n d (l.getD j (0,0))
     · rw [if_pos e1]; exact (zjf (by omega)).symm
     · rw [if_neg e1]
    | succ e ih =>
     intro i hi
     have h:=ih (i+1) (by omega)
     have hp:=zqL (h2 _ (zaf (z:=(0,0)) (show i < l.length by omega))) hn hd
     rw [zbA (0,0) (show i < l.length by omega),List.map_append] at h
     have hl:((l.take i).map fun w:Wk=>[plc n d w]).length=i:=by simp; omega
     refine qehz.v0 ?_
     rw [show rd (0,0) l (i:Int)=l.getD i (0,0) from rfl,hp.2.1]
     simp (disch:=omega) only [S]
     exact h
   exact hk l.length 0 (by omega)
def mLt (e f:List Int):Bool:=decide (e.getD 2 0*f.getD 3 0 < f.getD 2 0*e.getD 3 0)
def mIx (e:List Int):Int:=e.getD 0 0*8+e.getD 1 0
def mOk (e:List Int):Prop:=∃ i k n d:Int,e=[i,k,n,d]/\(0<=i/\i<=7)/\(0<=k/\k<=7)/\(0<=n/\n<=2000)/\(0 < d/\d<=200)
def lex (x y:List Int):Prop:=mLt x y=true \/ (mLt y x=false/\mIx x < mIx y)
theorem zf7 {x y w:List Int} (hx:mOk x) (hy:mOk y) (hw:mOk w) (h1:mLt x y=false) (h2:mLt y w=false):mLt x w=false:=by
 obtain ⟨_,_,a,b,rfl,_,_,ha,hb⟩:=hx
 obtain ⟨_,_,c,d,rfl,_,_,hc,hd⟩:=hy
 obtain ⟨_,_,e,f,rfl,_,_,he,hf⟩:=hw
 unfold mLt at *
 simp only [List.getD_cons_zero,List.getD_cons_succ] at *
 have h1:=of_decide_eq_false h1
 have h2:=of_decide_eq_false h2
 refine decide_eq_false fun h3=>?_
 have q1:c*b<=a*d:=by omega
 have q2:e*d<=c*f:=by omega
 have p1:=Int.mul_le_mul_of_nonneg_right q1 (show 0<=f by omega)
 have p2:=Int.mul_le_mul_of_nonneg_right q2 (show 0<=b by omega)
 have p3:=Int.mul_lt_mul_of_pos_right h3 hd.1
 have e1:c*b*f=c*f*b:=by ac_rfl
 have e2:a*d*f=a*f*d:=by ac_rfl
 have e3:e*d*b=e*b*d:=by ac_rfl
 omega
theorem zr8 {x y:List Int} (h:mLt x y=true):mLt y x=false:=by
 unfold mLt at *
 have:=of_decide_eq_true h
 exact decide_eq_false (by omega)
theorem znA (x:List Int):mLt x x=false:=decide_eq_false (by omega)
theorem zsI {x y:List Int} (h:lex x y):mLt y x=false:=h.elim zr8 fun h=>h.1
theorem zor {x y:List Int} (h:mLt y x=false) (hi:mIx x < mIx y):lex x y:=by
 cases hc:mLt x y with
 | true=>exact .inl hc
 | false=>exact .inr ⟨h,hi⟩
theorem zqM {x y a b:List Int} (hx:mOk x) (hy:mOk y) (ha:mOk a) (hb:mOk b) (h:mLt x y=true) (h1:mLt x a=false) (h2:mLt b y=false):mLt a b=true:=by
 cases hc:mLt a b with
 | true=>rfl
 | false =>
  have:=zf7 hx hb hy (zf7 hx ha hb h1 hc) h2
  rw [this] at h
  cases h
abbrev Srt (l:List (List Int)):Prop:=l.Pairwise lex
theorem Srt.at {l:List (List Int)} (h:Srt l) {i j:Nat} (hij:i < j) (hj:j < l.length):lex (l.getD i []) (l.getD j []):=by
 have:=List.pairwise_iff_getElem.1 h i j (by omega) hj hij
 rw [List.getD_eq_getElem?_getD,List.getD_eq_getElem?_getD,List.getElem?_eq_getElem (show i < l.length by omega),List.getElem?_eq_getElem hj]
 exact this
theorem Srt.le {l:List (List Int)} (h:Srt l) {i j:Nat} (hij:i<=j) (hj:j < l.length):mLt (l.getD j []) (l.getD i [])=false:=by
 rcases Nat.lt_or_ge i j with h1 | h1
 · exact zsI (h.at h1 hj)
 · have:i=j:=by omega
   subst this
   exact znA _
theorem zbL {α:Type} {z x:α} {l:List α} {n:Nat} (h:x∈l.take n):∃ i,i < n/\i < l.length/\l.getD i z=x:=by
 obtain ⟨i,hi,e⟩:=List.getElem_of_mem h
 have hi':i < n/\i < l.length:=by rw [List.length_take] at hi; omega
 refine ⟨i,hi'.1,hi'.2,?_⟩
 rw [List.getD_eq_getElem?_getD,List.getElem?_eq_getElem hi'.2]
 simpa using e
theorem zbw {α:Type} {z x:α} {l:List α} {n:Nat} (h:x∈l.drop n):∃ i,n<=i/\i < l.length/\l.getD i z=x:=by
 obtain ⟨i,hi,e⟩:=List.getElem_of_mem h
 have hi':n+i < l.length:=by rw [List.length_drop] at hi; omega
 refine ⟨n+i,by omega,hi',?_⟩
 rw [List.getD_eq_getElem?_getD,List.getElem?_eq_getElem hi']
 simpa using e
theorem znB {l:List (List Int)} (hl:Srt l) {x:List Int} {n:Nat} (h1:∀ i,i < n->i < l.length->lex (l.getD i []) x) (h2:∀ i,n<=i->i < l.length->lex x (l.getD i [])):Srt (zbi l x n):=by
 unfold zbi
 have ht:=List.Pairwise.sublist (List.take_sublist n l) hl
 have hd:=List.Pairwise.sublist (List.drop_sublist n l) hl
 refine List.pairwise_append.2 ⟨ht,List.pairwise_cons.2 ⟨fun y hy=>?_,hd⟩,fun a ha b hb=>?_⟩
 · obtain ⟨i,i1,i2,rfl⟩:=zbw (z:=[]) hy
   exact h2 i i1 i2
 · obtain ⟨i,i1,i2,rfl⟩:=zbL (z:=[]) ha
   rcases List.mem_cons.1 hb with rfl | hb
   · exact h1 i i1 i2
   · obtain ⟨j,j1,j2,rfl⟩:=zbw (z:=[]) hb
     exact hl.at (by omega) j2
theorem zpi:∀ {a b:List (List Int)},Srt a->Srt b->a.Perm b->(∀ x∈a,mOk x)->a=b:=by
 intro a
 induction a with
 | nil=>intro b _ _ h _; exact (List.Perm.nil_eq h)
 | cons x a ih =>
  intro b ha hb h hok
  cases b with
  | nil=>exact absurd h.symm.nil_eq (by simp)
  | cons y b =>
   have hxy:x=y:=by
    by_cases e:x=y
    · exact e
    · have h1:y∈a:=by
       have:=h.mem_iff.2 (List.mem_cons_self (a:=y) (l:=b))
       rcases List.mem_cons.1 this with h | h
       · exact absurd h.symm e
       · exact h
      have h2:x∈b:=by
       have:=h.mem_iff.1 (List.mem_cons_self (a:=x) (l:=a))
       rcases List.mem_cons.1 this with h | h
       · exact absurd h e
       · exact h
      have l1:=(List.pairwise_cons.1 ha).1 y h1
      have l2:=(List.pairwise_cons.1 hb).1 x h2
      exfalso
      rcases l1 with l1 | l1
      · rw [zsI l2] at l1; cases l1
      · rcases l2 with l2 | l2
        · rw [l1.1] at l2; cases l2
        · omega
   subst hxy
   rw [ih (List.pairwise_cons.1 ha).2 (List.pairwise_cons.1 hb).2 (List.Perm.cons_inv h) (fun z hz=>hok z (List.mem_cons_of_mem _ hz))]
theorem cmpM:zqK (fun _ x y=>qcaz.f x y) mLt mOk:=by
 rintro x y ⟨i,k,n,d,rfl,_,_,hn,hd⟩ ⟨i',k',n',d',rfl,_,_,hn',hd'⟩
 obtain ⟨c,e,l,_⟩:=zb1 (n*d') (n' * d)
 have m1:=mulb (a:=n) (b:=d') (A:=2000) (B:=200) (by omega) (by omega) (by omega) (by omega)
 have m2:=mulb (a:=n') (b:=d) (A:=2000) (B:=200) (by omega) (by omega) (by omega) (by omega)
 refine ⟨c,zs9 ?_,?_⟩
 · unfold qcaz.f
   simp only [rd2,rd3]
   simp (disch:=omega) only [S,List.length_cons,List.length_nil,e]
 · rw [l]; rfl
theorem zjE:∀ (l:List (List Int)),(∀ x∈l,mOk x)->l.Pairwise (fun x y=>mIx x < mIx y)->Srt (zaC mLt [] l):=by
 have hins:∀ (acc:List (List Int)) (x:List Int),Srt acc->(∀ y∈acc,mOk y)->mOk x->(∀ y∈acc,mIx y < mIx x)->Srt (ins mLt [] acc x):=by
  intro acc x ha hok hx hix
  have key:∀ n,n<=acc.length->(∀ i,n<=i->i < acc.length->mLt x (acc.getD i [])=true)->(zc7 mLt [] x acc n=0 \/ mLt x (acc.getD (zc7 mLt [] x acc n-1) [])=false) /\ ∀ i,zc7 mLt [] x acc n<=i->i < acc.length->mLt x (acc.getD i [])=true:=by
   intro n
   induction n with
   | zero=>intro _ h; exact ⟨.inl rfl,h⟩
   | succ n ih =>
    intro hn h
    unfold zc7
    cases hc:mLt x (acc.getD n []) with
    | true =>
     rw [if_pos rfl]
     refine ih (by omega) fun i h1 h2=>?_
     rcases Nat.lt_or_ge n i with h3 | h3
     · exact h i (by omega) h2
     · have:i=n:=by omega
       subst this
       exact hc
    | false =>
     rw [if_neg (by simp)]
     exact ⟨.inr hc,h⟩
  obtain ⟨k1,k2⟩:=key acc.length (Nat.le_refl _) (fun i h1 h2=>by omega)
  have hp:=zik mLt [] x acc acc.length
  unfold ins
  refine znB ha (fun i h1 h2=>?_) (fun i h1 h2=>.inl (k2 i h1 h2))
  rcases k1 with k1 | k1
  · omega
  · have hle:=ha.le (i:=i) (j:=zc7 mLt [] x acc acc.length-1) (by omega) (by omega)
    exact zor (zf7 hx (hok _ (zaf (by omega))) (hok _ (zaf h2)) k1 hle) (hix _ (zaf h2))
 have key:∀ n,∀ l:List (List Int),l.length=n->(∀ x∈l,mOk x)->l.Pairwise (fun x y=>mIx x < mIx y)->Srt (zaC mLt [] l):=by
  intro n
  induction n with
  | zero=>intro l h _ _; rw [List.length_eq_zero_iff.1 h]; exact List.Pairwise.nil
  | succ n ih =>
   intro l hl hok hp
   have h0:l ≠ []:=by intro e; subst e; simp at hl
   have e:=List.dropLast_concat_getLast h0
   rw [<- e] at hok hp ⊢
   obtain ⟨p1,_,p3⟩:=List.pairwise_append.1 hp
   rw [zbQ]
   have hm:∀ y,y∈zaC mLt [] l.dropLast ↔ y∈l.dropLast:=fun y=>(za7 _ _ _).mem_iff
   refine hins _ _ (ih _ (by simp [hl]) (fun x hx=>hok x (by simp [hx])) p1) (fun y hy=>hok y (by simp [(hm y).1 hy])) (hok _ (by simp)) (fun y hy=>p3 y ((hm y).1 hy) _ (by simp))
 exact fun l=>key l.length l rfl
theorem zsJ {α:Type} {z:α} {u v w:List α} {i:Nat} (h:i < v.length):(u++v++w).getD (u.length+i) z=v.getD i z:=by
 rw [List.getD_eq_getElem?_getD,List.append_assoc,List.getElem?_append_right (by omega),List.getElem?_append_left (by omega),List.getD_eq_getElem?_getD]
 congr 2
 omega
theorem zuk {α:Type} {u w:List α} {p q z:α}:((u++p::q::w).set u.length q).set (u.length+1) p=u++q::p::w:=by
 rw [List.set_append_right _ _ (by omega),List.set_append_right _ _ (by omega)]
 simp
theorem half (i j:Nat) (h:i+j<=1000000):W (ishr (IntKind.wrap .u64 (W ((i:Int)+(j:Int)))) 1)=(((i+j) / 2:Nat):Int):=by
 rw [w64 (x:=(i:Int)+(j:Int)) (by omega) (by omega)]
 have e:IntKind.wrap .u64 ((i:Int)+(j:Int))=((i+j:Nat):Int):=by
  simp [IntKind.wrap,IntKind.bits,IntKind.signed]
  omega
 rw [e]
 show W (Int.fdiv ((i+j:Nat):Int) (2 ^ (1:Int).toNat))=_
 rw [show (2:Int) ^ (1:Int).toNat=2 from rfl,Int.fdiv_eq_ediv_of_nonneg _ (by omega),w64 (by omega) (by omega)]
 omega
theorem zul {α:Type} {z:α} {u v w:List α} {p q:α}:(u++p::v++q::w).getD u.length z=p/\(u++p::v++q::w).getD (u.length+1+v.length) z=q/\((u++p::v++q::w).set u.length q).set (u.length+1+v.length) p=u++q::v++p::w:=by
 refine ⟨?_,?_,?_⟩
 · simp [List.getD_eq_getElem?_getD]
 · rw [List.getD_eq_getElem?_getD,List.getElem?_append_right (by simp; omega)]
   have e:u.length+1+v.length-(u++p::v).length=0:=by simp; omega
   rw [e]
   rfl
 · have e1:(u++p::v++q::w).set u.length q=u++q::v++q::w:=by
    rw [List.append_assoc,List.set_append_right _ _ (by omega)]
    simp
   rw [e1,List.set_append_right _ _ (by simp; omega)]
   have e:u.length+1+v.length-(u++q::v).length=0:=by simp; omega
   rw [e]
   simp
theorem zeE (p X q Y s:List (List Int)) (hXY:X.length=Y.length) (hl:(p++X++q++Y++s).length<=1000000) :
    Ev (fun k=>qazz.f k (p++X++q++Y++s) (p.length:Int) ((p.length+X.length+q.length:Nat):Int) (X.length:Int)) (p++Y++q++X++s):=by
 have key:∀ (d i:Nat),i+d=X.length->Ev (fun k=>qazz.l0 k (p.length:Int) ((p.length+X.length+q.length:Nat):Int) (X.length:Int) (i:Int) (p++(Y.take i++X.drop i)++q++(X.take i++Y.drop i)++s)) (p++Y++q++X++s):=by
  intro d
  induction d with
  | zero =>
   intro i hi
   rw [List.take_of_length_le (by omega),List.take_of_length_le (by omega),List.drop_eq_nil_of_le (by omega),List.drop_eq_nil_of_le (by omega)]
   refine qazz.v0 ?_
   simp (disch:=omega) only [S,List.append_nil]
   exact Ev.now _
  | succ d ih =>
   intro i hi
   have h:=ih (i+1) (by omega)
   rw [zbA [] (show i < X.length by omega),zbA [] (show i < Y.length by omega)] at h
   have hdX:=zaF [] (show i < X.length by omega)
   have hdY:=zaF [] (show i < Y.length by omega)
   obtain ⟨s1,s2,s3⟩:=zul (z:=([]:List Int)) (u:=p++Y.take i) (v:=X.drop (i+1)++q++X.take i) (w:=Y.drop (i+1)++s) (p:=X.getD i []) (q:=Y.getD i [])
   have e1:p++(Y.take i++X.drop i)++q++(X.take i++Y.drop i)++s=p++Y.take i++X.getD i []::(X.drop (i+1)++q++X.take i)++Y.getD i []::(Y.drop (i+1)++s):=by rw [hdX,hdY]; simp
   have e2:p++(Y.take i++[Y.getD i []]++X.drop (i+1))++q++(X.take i++[X.getD i []]++Y.drop (i+1))++s=p++Y.take i++Y.getD i []::(X.drop (i+1)++q++X.take i)++X.getD i []::(Y.drop (i+1)++s):=by simp
   rw [e2] at h
   rw [e1]
   have a1:(p++Y.take i).length=p.length+i:=by simp; omega
   have a2:(p++Y.take i).length+1+(X.drop (i+1)++q++X.take i).length=p.length+X.length+q.length+i:=by simp; omega
   rw [a2] at s2 s3
   rw [a1] at s1 s3
   have hL:(p++Y.take i++X.getD i []::(X.drop (i+1)++q++X.take i)++Y.getD i []::(Y.drop (i+1)++s)).length=p.length+X.length+q.length+Y.length+s.length:=by simp; omega
   have hl':p.length+X.length+q.length+Y.length+s.length<=1000000:=by simp at hl; omega
   generalize p++Y.take i++X.getD i []::(X.drop (i+1)++q++X.take i)++Y.getD i []::(Y.drop (i+1)++s)=L at *
   have hL2:(L.set (p.length+i) (Y.getD i [])).length=L.length:=List.length_set
   have w1:W (((p.length+X.length+q.length:Nat):Int)+(i:Int))=((p.length+X.length+q.length+i:Nat):Int):=by rw [w64 (by omega) (by omega)]; omega
   have w2:W ((p.length:Int)+(i:Int))=((p.length+i:Nat):Int):=by rw [w64 (by omega) (by omega)]; omega
   refine qazz.v0 ?_
   simp only [w1,w2]
   simp (disch:=omega) only [S,s1,s2]
   rw [s3]
   exact h
 exact qazz.v (by simpa using key X.length 0 (by omega))
theorem zpj:∀ (N:Nat) (p U V s:List (List Int)),U.length+V.length<=N->0 < U.length->0 < V.length->(p++U++V++s).length<=1000000 ->
    Ev (fun k=>qbdz.l0 k ((p.length+U.length:Nat):Int) (U.length:Int) (V.length:Int) (p++U++V++s)) (p++V++U++s):=by
 intro N
 induction N with
 | zero=>intro p U V s h h0 _ _; omega
 | succ N ih =>
  intro p U V s hN hU hV hl
  have hl':p.length+U.length+V.length+s.length<=1000000:=by simp at hl; omega
  refine qbdz.v0 ?_
  by_cases h1:U.length=V.length
  · have w1:W (((p.length+U.length:Nat):Int)-(U.length:Int))=(p.length:Int):=by rw [w64 (by omega) (by omega)]; omega
    simp only [w1]
    simp (disch:=omega) only [S]
    have h:=zeE p U [] V s h1 (by simpa using hl)
    simp only [List.append_nil,List.length_nil,Nat.add_zero] at h
    exact Ev.bind h (Ev.now _)
  · by_cases h2:V.length < U.length
    · have hU':U=U.take V.length++U.drop V.length:=(List.take_append_drop _ _).symm
      have l1:(U.take V.length).length=V.length:=by rw [List.length_take]; omega
      have l2:(U.drop V.length).length=U.length-V.length:=by rw [List.length_drop]
      have w1:W (((p.length+U.length:Nat):Int)-(U.length:Int))=(p.length:Int):=by rw [w64 (by omega) (by omega)]; omega
      have w2:W ((U.length:Int)-(V.length:Int))=((U.length-V.length:Nat):Int):=by rw [w64 (by omega) (by omega)]; omega
      simp only [w1,w2]
      simp (disch:=omega) only [S]
      have h:=zeE p (U.take V.length) (U.drop V.length) V s l1 (by rw [List.append_assoc p (U.take _),List.take_append_drop]; exact hl)
      rw [l1,show p.length+V.length+(U.drop V.length).length=p.length+U.length by omega,List.append_assoc p (U.take _),List.take_append_drop] at h
      refine Ev.bind h ?_
      have g:=ih (p++V) (U.drop V.length) (U.take V.length) s (by omega) (by omega) (by omega) (by simp; omega)
      rw [l1,l2,show (p++V).length+(U.length-V.length)=p.length+U.length by simp; omega] at g
      rw [show p++V++U++s=p++V++U.take V.length++U.drop V.length++s by rw [List.append_assoc (p++V) (U.take _),List.take_append_drop]]
      exact g
    · have hV':V=V.take (V.length-U.length)++V.drop (V.length-U.length):=(List.take_append_drop _ _).symm
      have l1:(V.take (V.length-U.length)).length=V.length-U.length:=by rw [List.length_take]; omega
      have l2:(V.drop (V.length-U.length)).length=U.length:=by rw [List.length_drop]; omega
      have w1:W (((p.length+U.length:Nat):Int)-(U.length:Int))=(p.length:Int):=by rw [w64 (by omega) (by omega)]; omega
      have w2:W (W (((p.length+U.length:Nat):Int)+(V.length:Int))-(U.length:Int))=((p.length+V.length:Nat):Int):=by rw [w64 (x:=((p.length+U.length:Nat):Int)+(V.length:Int)) (by omega) (by omega),w64 (by omega) (by omega)]; omega
      have w3:W ((V.length:Int)-(U.length:Int))=((V.length-U.length:Nat):Int):=by rw [w64 (by omega) (by omega)]; omega
      simp only [w1,w2,w3]
      simp (disch:=omega) only [S]
      have h:=zeE p U (V.take (V.length-U.length)) (V.drop (V.length-U.length)) s l2.symm (by rw [List.append_assoc (p++U) (V.take _),List.take_append_drop]; exact hl)
      rw [show p.length+U.length+(V.take (V.length-U.length)).length=p.length+V.length by omega,List.append_assoc (p++U) (V.take _),List.take_append_drop] at h
      refine Ev.bind h ?_
      have g:=ih p (V.drop (V.length-U.length)) (V.take (V.length-U.length)) (U++s) (by omega) (by omega) (by omega) (by simp; omega)
      rw [l1,l2] at g
      have e1:p++V.drop (V.length-U.length)++V.take (V.length-U.length)++U++s=p++V.drop (V.length-U.length)++V.take (V.length-U.length)++(U++s):=by simp
      have e2:p++V++U++s=p++V.take (V.length-U.length)++V.drop (V.length-U.length)++(U++s):=by
       rw [List.append_assoc p (V.take _),List.take_append_drop]
       simp
      rw [e1,e2]
      exact g
theorem zmC (B:List (List Int)) (x:List Int) (n:Nat) (hn:n < B.length):zbi B x n=B.take n++x::B.getD n []::B.drop (n+1)/\zbi B x (n+1)=B.take n++B.getD n []::x::B.drop (n+1):=by
 unfold zbi
 refine ⟨by rw [zaF [] hn],?_⟩
 rw [zbA [] hn]
 simp
theorem zpk (pre B post:List (List Int)) (x:List Int) (t:Nat) (ht:t<=B.length) (hl:pre.length+B.length+post.length+1<=1000000):∀ (d n:Nat),n+d=t ->
    Ev (fun k=>qbbz.l3 k ((pre.length+1+t:Nat):Int) ((pre.length+n:Nat):Int) (pre++zbi B x n++post)) (pre++zbi B x t++post):=by
 intro d
 induction d with
 | zero =>
  intro n hn
  rw [show t=n by omega]
  have w1:W (((pre.length+1+n:Nat):Int)-1)=((pre.length+n:Nat):Int):=by rw [w64 (by omega) (by omega)]; omega
  refine qbbz.v3 ?_
  simp only [w1]
  simp (disch:=omega) only [S]
  exact Ev.now _
 | succ d ih =>
  intro n hn
  have h:=ih (n+1) (by omega)
  obtain ⟨e1,e2⟩:=zmC B x n (by omega)
  have hu:(pre++B.take n).length=pre.length+n:=by simp; omega
  obtain ⟨s1,s2,_⟩:=zty (u:=pre++B.take n) (w:=B.drop (n+1)++post) (p:=x) (q:=B.getD n []) (z:=([]:List Int))
  have s3:=zuk (u:=pre++B.take n) (w:=B.drop (n+1)++post) (p:=x) (q:=B.getD n []) (z:=([]:List Int))
  rw [hu] at s1 s2 s3
  have e3:pre++zbi B x n++post=pre++B.take n++x::B.getD n []::(B.drop (n+1)++post):=by rw [e1]; simp
  have e4:pre++zbi B x (n+1)++post=pre++B.take n++B.getD n []::x::(B.drop (n+1)++post):=by rw [e2]; simp
  have hL:(pre++B.take n++x::B.getD n []::(B.drop (n+1)++post)).length=pre.length+B.length+post.length+1:=by simp; omega
  rw [e4] at h
  rw [e3]
  generalize pre++B.take n++x::B.getD n []::(B.drop (n+1)++post)=L at *
  have hL2:(L.set (pre.length+n) (B.getD n [])).length=L.length:=List.length_set
  have w1:W (((pre.length+1+t:Nat):Int)-1)=((pre.length+t:Nat):Int):=by rw [w64 (by omega) (by omega)]; omega
  have w2:W (((pre.length+n:Nat):Int)+1)=((pre.length+n+1:Nat):Int):=by rw [w64 (by omega) (by omega)]; omega
  refine qbbz.v3 ?_
  simp only [w1,w2]
  simp (disch:=omega) only [S,s1,s2]
  rw [s3]
  exact h
theorem zqN (pre A post:List (List Int)) (x:List Int) (t:Nat) (hl:pre.length+A.length+post.length+1<=1000000):∀ (d n:Nat),t+d=n->n<=A.length ->
    Ev (fun k=>qbbz.l4 k ((pre.length+t:Nat):Int) ((pre.length+n:Nat):Int) (pre++zbi A x n++post)) (pre++zbi A x t++post):=by
 intro d
 induction d with
 | zero =>
  intro n hn hA
  rw [show n=t by omega]
  refine qbbz.v4 ?_
  have c:iGt ((pre.length+t:Nat):Int) ((pre.length+t:Nat):Int)=false:=decide_eq_false (by omega)
  simp only [c,Bool.false_eq_true,if_false]
  exact Ev.now _
 | succ d ih =>
  intro n hn hA
  obtain ⟨m,rfl⟩ : ∃ m,n=m+1:=⟨n-1,by omega⟩
  have h:=ih m (by omega) (by omega)
  obtain ⟨e1,e2⟩:=zmC A x m (by omega)
  have hu:(pre++A.take m).length=pre.length+m:=by simp; omega
  obtain ⟨s1,s2,s3⟩:=zty (u:=pre++A.take m) (w:=A.drop (m+1)++post) (p:=A.getD m []) (q:=x) (z:=([]:List Int))
  rw [hu] at s1 s2 s3
  have e3:pre++zbi A x (m+1)++post=pre++A.take m++A.getD m []::x::(A.drop (m+1)++post):=by rw [e2]; simp
  have e4:pre++zbi A x m++post=pre++A.take m++x::A.getD m []::(A.drop (m+1)++post):=by rw [e1]; simp
  have hL:(pre++A.take m++A.getD m []::x::(A.drop (m+1)++post)).length=pre.length+A.length+post.length+1:=by simp; omega
  rw [e4] at h
  rw [e3]
  generalize pre++A.take m++A.getD m []::x::(A.drop (m+1)++post)=L at *
  have hL2:(L.set (pre.length+m+1) (A.getD m [])).length=L.length:=List.length_set
  have w1:W (((pre.length+(m+1):Nat):Int)-1)=((pre.length+m:Nat):Int):=by rw [w64 (by omega) (by omega)]; omega
  have e5:pre.length+(m+1)=pre.length+m+1:=by omega
  refine qbbz.v4 ?_
  simp only [w1]
  rw [e5]
  simp (disch:=omega) only [S,s1,s2]
  rw [s3]
  exact h
theorem zpl (D:List (List Int)) (a:Nat) (hP:∀ i,i < D.length->mOk (D.getD i [])) (ha:a < D.length) (hl:D.length<=100000) (lo hi:Nat) (hhi:hi<=D.length):∀ (N i j:Nat),j-i<=N->lo<=i->i<=j->j<=hi ->
    (i=lo \/ mLt (D.getD (i-1) []) (D.getD a [])=true)->(j=hi \/ mLt (D.getD j []) (D.getD a [])=false) ->
    ∃ t,(lo<=t/\t<=hi)/\(t=lo \/ mLt (D.getD (t-1) []) (D.getD a [])=true)/\(t=hi \/ mLt (D.getD t []) (D.getD a [])=false) /\
     ∀ r,Ev (fun k=>qbbz.l3 k (t:Int) (a:Int) D) r->Ev (fun k=>qbbz.l0 k (a:Int) (i:Int) (j:Int) D) r:=by
 intro N
 induction N with
 | zero =>
  intro i j h0 h1 h2 h3 h4 h5
  obtain rfl:i=j:=by omega
  refine ⟨i,⟨h1,h3⟩,h4,h5,fun r h=>qbbz.v0 ?_⟩
  simp (disch:=omega) only [S]
  exact h
 | succ N ih =>
  intro i j h0 h1 h2 h3 h4 h5
  by_cases hij:i < j
  · obtain ⟨c,hc1,hc2⟩:=cmpM (D.getD ((i+j) / 2) []) (D.getD a []) (hP _ (by omega)) (hP _ ha)
    have hh:=half i j (by omega)
    cases hb:mLt (D.getD ((i+j) / 2) []) (D.getD a []) with
    | true =>
     obtain ⟨t,t1,t2,t3,t4⟩:=ih ((i+j) / 2+1) j (by omega) (by omega) (by omega) h3 (.inr (by rw [Nat.add_sub_cancel]; exact hb)) h5
     refine ⟨t,t1,t2,t3,fun r h=>qbbz.v0 ?_⟩
     rw [hb] at hc2
     simp only [hh]
     simp (disch:=omega) only [S]
     refine Ev.bind hc1 ?_
     simp only [hc2,if_true]
     exact t4 r h
    | false =>
     obtain ⟨t,t1,t2,t3,t4⟩:=ih i ((i+j) / 2) (by omega) h1 (by omega) (by omega) h4 (.inr hb)
     refine ⟨t,t1,t2,t3,fun r h=>qbbz.v0 ?_⟩
     rw [hb] at hc2
     simp only [hh]
     simp (disch:=omega) only [S]
     refine Ev.bind hc1 ?_
     simp only [hc2,Bool.false_eq_true,if_false]
     exact t4 r h
  · obtain rfl:i=j:=by omega
    refine ⟨i,⟨h1,h3⟩,h4,h5,fun r h=>qbbz.v0 ?_⟩
    simp (disch:=omega) only [S]
    exact h
theorem zqO (D:List (List Int)) (m:Nat) (hP:∀ i,i < D.length->mOk (D.getD i [])) (hm:m < D.length) (hl:D.length<=100000) (lo hi:Nat) (hhi:hi<=D.length):∀ (N i j:Nat),j-i<=N->lo<=i->i<=j->j<=hi ->
    (i=lo \/ mLt (D.getD m []) (D.getD (i-1) [])=false)->(j=hi \/ mLt (D.getD m []) (D.getD j [])=true) ->
    ∃ t,(lo<=t/\t<=hi)/\(t=lo \/ mLt (D.getD m []) (D.getD (t-1) [])=false)/\(t=hi \/ mLt (D.getD m []) (D.getD t [])=true) /\
     ∀ r,Ev (fun k=>qbbz.l4 k (t:Int) (m:Int) D) r->Ev (fun k=>qbbz.l1 k (m:Int) (i:Int) (j:Int) D) r:=by
 intro N
 induction N with
 | zero =>
  intro i j h0 h1 h2 h3 h4 h5
  obtain rfl:i=j:=by omega
  refine ⟨i,⟨h1,h3⟩,h4,h5,fun r h=>qbbz.v1 ?_⟩
  simp (disch:=omega) only [S]
  exact h
 | succ N ih =>
  intro i j h0 h1 h2 h3 h4 h5
  by_cases hij:i < j
  · obtain ⟨c,hc1,hc2⟩:=cmpM (D.getD m []) (D.getD ((i+j) / 2) []) (hP _ hm) (hP _ (by omega))
    have hh:=half i j (by omega)
    cases hb:mLt (D.getD m []) (D.getD ((i+j) / 2) []) with
    | false =>
     obtain ⟨t,t1,t2,t3,t4⟩:=ih ((i+j) / 2+1) j (by omega) (by omega) (by omega) h3 (.inr (by rw [Nat.add_sub_cancel]; exact hb)) h5
     refine ⟨t,t1,t2,t3,fun r h=>qbbz.v1 ?_⟩
     rw [hb] at hc2
     simp only [hh]
     simp (disch:=omega) only [S]
     refine Ev.bind hc1 ?_
     simp only [hc2,Bool.not_false,if_true]
     exact t4 r h
    | true =>
     obtain ⟨t,t1,t2,t3,t4⟩:=ih i ((i+j) / 2) (by omega) h1 (by omega) (by omega) h4 (.inr hb)
     refine ⟨t,t1,t2,t3,fun r h=>qbbz.v1 ?_⟩
     rw [hb] at hc2
     simp only [hh]
     simp (disch:=omega) only [S]
     refine Ev.bind hc1 ?_
     simp only [hc2,Bool.not_true,Bool.false_eq_true,if_false]
     exact t4 r h
  · obtain rfl:i=j:=by omega
    refine ⟨i,⟨h1,h3⟩,h4,h5,fun r h=>qbbz.v1 ?_⟩
    simp (disch:=omega) only [S]
    exact h
noncomputable def zjF (k:Fu) (a s mid e b:Int) (D:List (List Int)):Option (List (List Int)) :=
 if iLt a s then if iLt s mid then (qbbz.f k D a s mid).bind fun t1 =>
  if iLt mid e then if iLt e b then (qbbz.f k t1 mid e b).bind fun t2=>some t2 else some t1 else some t1
  else if iLt mid e then if iLt e b then (qbbz.f k D mid e b).bind fun t1=>some t1 else some D else some D
 else if iLt mid e then if iLt e b then (qbbz.f k D mid e b).bind fun t1=>some t1 else some D else some D
noncomputable def zos (k:Fu) (a m b mid n s:Int) (D:List (List Int)):Option (List (List Int)) :=
 if iLt s m then if iLt m (W (n-s)) then (qbdz.f k D s m (W (n-s))).bind fun t0=>zjF k a s mid (W (n-s)) b t0 else zjF k a s mid (W (n-s)) b D else zjF k a s mid (W (n-s)) b D
theorem zot (D:List (List Int)) (a m b mid n:Nat) (hP:∀ i,i < D.length->mOk (D.getD i [])) (hl:D.length<=100000) (lo hi:Nat) (hlo:n-1-lo < D.length) (hhi:hi<=D.length) (hn:hi < n):∀ (N i j:Nat),j-i<=N->lo<=i->i<=j->j<=hi ->
    (i=lo \/ mLt (D.getD (n-i) []) (D.getD (i-1) [])=false)->(j=hi \/ mLt (D.getD (n-1-j) []) (D.getD j [])=true)->n<=1000000 ->
    ∃ t,(lo<=t/\t<=hi)/\(t=lo \/ mLt (D.getD (n-t) []) (D.getD (t-1) [])=false)/\(t=hi \/ mLt (D.getD (n-1-t) []) (D.getD t [])=true) /\
     ∀ r,Ev (fun k=>zos k (a:Int) (m:Int) (b:Int) (mid:Int) (n:Int) (t:Int) D) r->Ev (fun k=>qbbz.l2 k (a:Int) (m:Int) (b:Int) (mid:Int) (n:Int) (i:Int) (j:Int) ((n-1:Nat):Int) D) r:=by
 intro N
 have stop:∀ i:Nat,∀ r,Ev (fun k=>zos k (a:Int) (m:Int) (b:Int) (mid:Int) (n:Int) (i:Int) D) r->Ev (fun k=>qbbz.l2 k (a:Int) (m:Int) (b:Int) (mid:Int) (n:Int) (i:Int) (i:Int) ((n-1:Nat):Int) D) r:=by
  intro i r h
  refine qbbz.v2 ?_
  have c:iLt (i:Int) (i:Int)=false:=decide_eq_false (by omega)
  simp only [c,Bool.false_eq_true,if_false]
  exact h
 induction N with
 | zero =>
  intro i j h0 h1 h2 h3 h4 h5 hn6
  obtain rfl:i=j:=by omega
  exact ⟨i,⟨h1,h3⟩,h4,h5,stop i⟩
 | succ N ih =>
  intro i j h0 h1 h2 h3 h4 h5 hn6
  by_cases hij:i < j
  · obtain ⟨c,hc1,hc2⟩:=cmpM (D.getD (n-1-(i+j) / 2) []) (D.getD ((i+j) / 2) []) (hP _ (by omega)) (hP _ (by omega))
    have hh:=half i j (by omega)
    have w1:W (((n-1:Nat):Int)-(((i+j) / 2:Nat):Int))=((n-1-(i+j) / 2:Nat):Int):=by rw [w64 (by omega) (by omega)]; omega
    cases hb:mLt (D.getD (n-1-(i+j) / 2) []) (D.getD ((i+j) / 2) []) with
    | false =>
     obtain ⟨t,t1,t2,t3,t4⟩:=ih ((i+j) / 2+1) j (by omega) (by omega) (by omega) h3 (.inr (by rw [Nat.add_sub_cancel,show n-((i+j) / 2+1)=n-1-(i+j) / 2 by omega]; exact hb)) h5 hn6
     refine ⟨t,t1,t2,t3,fun r h=>qbbz.v2 ?_⟩
     rw [hb] at hc2
     have hlt:iLt (i:Int) (j:Int)=true:=decide_eq_true (by omega)
     have hx2:∀ {β:Type} (x:Option β),ix ((n-1-(i+j) / 2:Nat):Int) D x=x:=fun x=>S.2.1 (by omega) (by omega)
     have hx3:∀ {β:Type} (x:Option β),ix (((i+j) / 2:Nat):Int) D x=x:=fun x=>S.2.1 (by omega) (by omega)
     have w2:W ((((i+j) / 2:Nat):Int)+1)=(((i+j) / 2+1:Nat):Int):=by rw [w64 (by omega) (by omega)]; omega
     simp only [hh,w1,hlt,if_true,hx2,hx3,zhK]
     refine Ev.bind hc1 ?_
     simp only [hc2,Bool.not_false,if_true,w2]
     exact t4 r h
    | true =>
     obtain ⟨t,t1,t2,t3,t4⟩:=ih i ((i+j) / 2) (by omega) h1 (by omega) (by omega) h4 (.inr hb) hn6
     refine ⟨t,t1,t2,t3,fun r h=>qbbz.v2 ?_⟩
     rw [hb] at hc2
     have hlt:iLt (i:Int) (j:Int)=true:=decide_eq_true (by omega)
     have hx2:∀ {β:Type} (x:Option β),ix ((n-1-(i+j) / 2:Nat):Int) D x=x:=fun x=>S.2.1 (by omega) (by omega)
     have hx3:∀ {β:Type} (x:Option β),ix (((i+j) / 2:Nat):Int) D x=x:=fun x=>S.2.1 (by omega) (by omega)
     simp only [hh,w1,hlt,if_true,hx2,hx3,zhK]
     refine Ev.bind hc1 ?_
     simp only [hc2,Bool.not_true,Bool.false_eq_true,if_false]
     exact t4 r h
  · obtain rfl:i=j:=by omega
    exact ⟨i,⟨h1,h3⟩,h4,h5,stop i⟩
def zqP (a m b:Nat) (p A B s D:List (List Int)):Prop:=∃ M,Ev (fun k=>qbbz.f k D (a:Int) (m:Int) (b:Int)) (p++M++s)/\M.Perm (A++B)/\Srt M
theorem side (a m b:Nat) (p A B s D:List (List Int)) (hD:D=p++A++B++s) (ha:a=p.length) (hm:m=a+A.length) (hb:b=m+B.length) (hA:Srt A) (hB:Srt B) (h:0 < A.length->0 < B.length->zqP a m b p A B s D) :
    ∃ M,M.Perm (A++B)/\Srt M/\((iLt (a:Int) (m:Int)=true/\iLt (m:Int) (b:Int)=true/\Ev (fun k=>qbbz.f k D (a:Int) (m:Int) (b:Int)) (p++M++s)) \/ ((iLt (a:Int) (m:Int)=false \/ iLt (m:Int) (b:Int)=false)/\D=p++M++s)):=by
 by_cases h1:0 < A.length
 · by_cases h2:0 < B.length
   · obtain ⟨M,e,q,r⟩:=h h1 h2
     exact ⟨M,q,r,.inl ⟨decide_eq_true (by omega),decide_eq_true (by omega),e⟩⟩
   · have:B=[]:=List.length_eq_zero_iff.1 (by omega)
     subst this
     exact ⟨A,by simp,hA,.inr ⟨.inr (decide_eq_false (by simp at hb; omega)),by rw [hD]; simp⟩⟩
 · have:A=[]:=List.length_eq_zero_iff.1 (by omega)
   subst this
   exact ⟨B,by simp,hB,.inr ⟨.inl (decide_eq_false (by simp at hm; omega)),by rw [hD]; simp⟩⟩
theorem zr9 (N:Nat) (ih:∀ (p A B s:List (List Int)),A.length+B.length<=N->0 < A.length->0 < B.length->Srt A->Srt B->(∀ x∈A,∀ y∈B,mIx x < mIx y)->(∀ x∈p++A++B++s,mOk x)->(p++A++B++s).length<=100000->zqP p.length (p.length+A.length) (p.length+A.length+B.length) p A B s (p++A++B++s))
    (p A1 B1 A2 B2 s:List (List Int)) (hN1:A1.length+B1.length<=N) (hN2:A2.length+B2.length<=N) (hA1:Srt A1) (hB1:Srt B1) (hA2:Srt A2) (hB2:Srt B2) (hx1:∀ x∈A1,∀ y∈B1,mIx x < mIx y) (hx2:∀ x∈A2,∀ y∈B2,mIx x < mIx y)
    (hok:∀ x∈p++A1++B1++A2++B2++s,mOk x) (hl:(p++A1++B1++A2++B2++s).length<=100000)
    (a st mid e b:Nat) (ha:a=p.length) (hst:st=a+A1.length) (hmid:mid=st+B1.length) (he:e=mid+A2.length) (hb:b=e+B2.length) :
    ∃ M1 M2,M1.Perm (A1++B1)/\M2.Perm (A2++B2)/\Srt M1/\Srt M2/\Ev (fun k=>zjF k (a:Int) (st:Int) (mid:Int) (e:Int) (b:Int) (p++A1++B1++A2++B2++s)) (p++M1++M2++s):=by
 obtain ⟨M1,p1,q1,r1⟩:=side a st mid p A1 B1 (A2++B2++s) (p++A1++B1++A2++B2++s) (by simp) ha hst hmid hA1 hB1 (fun h1 h2=>by
  subst hmid hst ha
  have g:=ih p A1 B1 (A2++B2++s) hN1 h1 h2 hA1 hB1 hx1 (fun x hx=>hok x (by simpa using hx)) (by simpa using hl)
  rw [show p++A1++B1++A2++B2++s=p++A1++B1++(A2++B2++s) by simp]
  exact g)
 have hM1:∀ x,x∈M1 ↔ x∈A1 \/ x∈B1:=fun x=>by rw [p1.mem_iff,List.mem_append]
 have lM1:M1.length=A1.length+B1.length:=by rw [p1.length_eq,List.length_append]
 obtain ⟨M2,p2,q2,r2⟩:=side mid e b (p++M1) A2 B2 s (p++M1++A2++B2++s) rfl (by simp; omega) he hb hA2 hB2 (fun h1 h2=>by
  have g:=ih (p++M1) A2 B2 s hN2 h1 h2 hA2 hB2 hx2 (fun x hx=>hok x (by
   simp only [List.mem_append,hM1] at hx ⊢
   rcases hx with (((h | h | h) | h) | h) | h
   · exact .inl (.inl (.inl (.inl (.inl h))))
   · exact .inl (.inl (.inl (.inl (.inr h))))
   · exact .inl (.inl (.inl (.inr h)))
   · exact .inl (.inl (.inr h))
   · exact .inl (.inr h)
   · exact .inr h)) (by simp at hl ⊢; omega)
  rw [show (p++M1).length=mid by simp; omega] at g
  rw [he,hb,he]
  exact g)
 refine ⟨M1,M2,p1,p2,q1,q2,?_⟩
 have hE:p++M1++(A2++B2++s)=p++M1++A2++B2++s:=by simp
 unfold zjF
 rcases r1 with ⟨c1,c2,e1⟩ | ⟨c1,e1⟩
 · simp only [c1,c2,if_true]
   refine Ev.bind e1 ?_
   rw [hE]
   rcases r2 with ⟨d1,d2,e2⟩ | ⟨d1,e2⟩
   · simp only [d1,d2,if_true]
     exact Ev.bind e2 (Ev.now _)
   · rcases d1 with d1 | d1
     · simp only [d1,Bool.false_eq_true,if_false]
       rw [e2]; exact Ev.now _
     · simp only [d1,Bool.false_eq_true,if_false]
       rw [e2]; split <;> exact Ev.now _
 · rw [e1,hE]
   have fin:Ev (fun k=>if iLt (mid:Int) (e:Int) then if iLt (e:Int) (b:Int) then (qbbz.f k (p++M1++A2++B2++s) (mid:Int) (e:Int) (b:Int)).bind fun t1=>some t1 else some (p++M1++A2++B2++s) else some (p++M1++A2++B2++s)) (p++M1++M2++s):=by
    rcases r2 with ⟨d1,d2,e2⟩ | ⟨d1,e2⟩
    · simp only [d1,d2,if_true]
      exact Ev.bind e2 (Ev.now _)
    · rcases d1 with d1 | d1
      · simp only [d1,Bool.false_eq_true,if_false]
        rw [e2]; exact Ev.now _
      · simp only [d1,Bool.false_eq_true,if_false]
        rw [e2]; split <;> exact Ev.now _
   rcases c1 with c1 | c1
   · simp only [c1,Bool.false_eq_true,if_false]
     exact fin
   · cases c0:iLt (a:Int) (st:Int) with
     | true=>simp only [c1,Bool.false_eq_true,if_false,if_true]; exact fin
     | false=>simp only [Bool.false_eq_true,if_false]; exact fin
theorem zmD:∀ (N:Nat) (p A B s:List (List Int)),A.length+B.length<=N->0 < A.length->0 < B.length->Srt A->Srt B->(∀ x∈A,∀ y∈B,mIx x < mIx y)->(∀ x∈p++A++B++s,mOk x)->(p++A++B++s).length<=100000->zqP p.length (p.length+A.length) (p.length+A.length+B.length) p A B s (p++A++B++s):=by
 intro N
 induction N with
 | zero=>intro p A B s h h0; omega
 | succ N ih =>
  intro p A B s hN hA hB hsA hsB hix hok hl
  have hl':p.length+A.length+B.length+s.length<=100000:=by simp at hl; omega
  have hP:∀ i,i < (p++A++B++s).length->mOk ((p++A++B++s).getD i []):=fun i hi=>hok _ (zaf hi)
  have w1:W (((p.length+A.length:Nat):Int)-(p.length:Int))=(A.length:Int):=by rw [w64 (by omega) (by omega)]; omega
  have w2:W (((p.length+A.length+B.length:Nat):Int)-((p.length+A.length:Nat):Int))=(B.length:Int):=by rw [w64 (by omega) (by omega)]; omega
  have okA:∀ i,i < A.length->mOk (A.getD i []):=fun i hi=>hok _ (List.mem_append_left _ (List.mem_append_left _ (List.mem_append_right _ (zaf hi))))
  have okB:∀ i,i < B.length->mOk (B.getD i []):=fun i hi=>hok _ (List.mem_append_left _ (List.mem_append_right _ (zaf hi)))
  have dA:∀ i,i < A.length->(p++A++B++s).getD (p.length+i) []=A.getD i []:=fun i hi=>by rw [List.append_assoc (p++A)]; exact zsJ hi
  have dB:∀ i,i < B.length->(p++A++B++s).getD (p.length+A.length+i) []=B.getD i []:=fun i hi=>by
   have:=zsJ (z:=([]:List Int)) (u:=p++A) (v:=B) (w:=s) hi
   rwa [List.length_append] at this
  by_cases h1:A.length=1
  · obtain ⟨x,rfl⟩:=List.length_eq_one_iff.1 h1
    have hx:(p++[x]++B++s).getD p.length []=x:=by simp
    obtain ⟨t,⟨t1,t2⟩,t3,t4,t5⟩:=zpl (p++[x]++B++s) p.length hP (by simp) hl (p.length+1) (p.length+1+B.length) (by simp; omega) _ (p.length+1) (p.length+1+B.length) (Nat.le_refl _) (Nat.le_refl _) (by omega) (Nat.le_refl _) (.inl rfl) (.inl rfl)
    obtain ⟨n,rfl⟩ : ∃ n,t=p.length+1+n:=⟨t-(p.length+1),by omega⟩
    rw [hx] at t3 t4
    have q3:n=0 \/ mLt (B.getD (n-1) []) x=true:=by
     rcases t3 with h | h
     · exact .inl (by omega)
     · cases n with
       | zero=>exact .inl rfl
       | succ n =>
        have e:=dB n (by omega)
        rw [show p.length + [x].length+n=p.length+1+(n+1)-1 by simp] at e
        rw [e] at h
        exact .inr h
    have q4:n=B.length \/ mLt (B.getD n []) x=false:=by
     rcases t4 with h | h
     · exact .inl (by omega)
     · by_cases hn:n < B.length
       · have e:=dB n hn
         rw [show p.length + [x].length+n=p.length+1+n by simp] at e
         rw [e] at h
         exact .inr h
       · exact .inl (by omega)
    refine ⟨zbi B x n,qbbz.v ?_,?_,?_⟩
    · simp only [w1,w2]
      simp (disch:=omega) only [S,h1]
      have hm:=zpk p B s x n (by omega) (by simp at hl; omega) n 0 (by omega)
      have e0:p++zbi B x 0++s=p++[x]++B++s:=by simp [zbi]
      rw [e0] at hm
      exact t5 _ hm
    · exact (zhi B x n).trans List.perm_append_comm
    · refine znB hsB (fun i i1 i2=>?_) (fun i i1 i2=>?_)
      · rcases q3 with q3 | q3
        · omega
        · exact .inl (zqM (okB _ (by omega)) (okA 0 (by simp)) (okB i i2) (okA 0 (by simp)) q3 (hsB.le (by omega) (by omega)) (znA _))
      · rcases q4 with q4 | q4
        · omega
        · exact zor (zf7 (okB i i2) (okB n (by omega)) (okA 0 (by simp)) (hsB.le i1 i2) q4) (hix x (by simp) _ (zaf i2))
  · by_cases h2:B.length=1
    · obtain ⟨x,rfl⟩:=List.length_eq_one_iff.1 h2
      have hx:(p++A++[x]++s).getD (p.length+A.length) []=x:=by simp
      obtain ⟨t,⟨t1,t2⟩,t3,t4,t5⟩:=zqO (p++A++[x]++s) (p.length+A.length) hP (by simp) hl p.length (p.length+A.length) (by simp) _ p.length (p.length+A.length) (Nat.le_refl _) (Nat.le_refl _) (by omega) (Nat.le_refl _) (.inl rfl) (.inl rfl)
      obtain ⟨n,rfl⟩ : ∃ n,t=p.length+n:=⟨t-p.length,by omega⟩
      rw [hx] at t3 t4
      have q3:n=0 \/ mLt x (A.getD (n-1) [])=false:=by
       rcases t3 with h | h
       · exact .inl (by omega)
       · cases n with
         | zero=>exact .inl rfl
         | succ n =>
          have e:=dA n (by omega)
          rw [show p.length+(n+1)-1=p.length+n by omega,e] at h
          exact .inr h
      have q4:n=A.length \/ mLt x (A.getD n [])=true:=by
       rcases t4 with h | h
       · exact .inl (by omega)
       · by_cases hn:n < A.length
         · rw [dA n hn] at h
           exact .inr h
         · exact .inl (by omega)
      refine ⟨zbi A x n,qbbz.v ?_,?_,?_⟩
      · simp only [w1,w2]
        simp (disch:=omega) only [S,h2]
        have hm:=zqN p A s x n (by simp at hl; omega) (A.length-n) A.length (by omega) (Nat.le_refl _)
        have e0:p++zbi A x A.length++s=p++A++[x]++s:=by simp [zbi]
        rw [e0] at hm
        exact t5 _ hm
      · exact zhi A x n
      · refine znB hsA (fun i i1 i2=>?_) (fun i i1 i2=>?_)
        · rcases q3 with q3 | q3
          · omega
          · exact zor (zf7 (okB 0 (by simp)) (okA _ (by omega)) (okA i i2) q3 (hsA.le (by omega) (by omega))) (hix _ (zaf i2) _ (by simp))
        · rcases q4 with q4 | q4
          · omega
          · exact .inl (zqM (okB 0 (by simp)) (okA n (by omega)) (okB 0 (by simp)) (okA i i2) q4 (znA _) (hsA.le i1 i2))
    · -- the general case
      obtain ⟨mid,hmid⟩ : ∃ mid,mid=(p.length+(p.length+A.length+B.length)) / 2:=⟨_,rfl⟩
      have hh:W (ishr (IntKind.wrap .u64 (W ((p.length:Int)+((p.length+A.length+B.length:Nat):Int)))) 1)=(mid:Int):=by rw [half _ _ (by omega),hmid]
      have wn:W ((mid:Int)+((p.length+A.length:Nat):Int))=((mid+(p.length+A.length):Nat):Int):=by rw [w64 (by omega) (by omega)]; omega
      have wq:W (((mid+(p.length+A.length):Nat):Int)-1)=((mid+(p.length+A.length)-1:Nat):Int):=by rw [w64 (by omega) (by omega)]; omega
      -- where to cut: the place that the search finds
      have cut:∀ t,p.length<=t->t<=p.length+A.length->t<=mid->mid+(p.length+A.length)-t<=p.length+A.length+B.length ->
          (t=p.length \/ mid+(p.length+A.length)-t=p.length+A.length+B.length \/ mLt ((p++A++B++s).getD (mid+(p.length+A.length)-t) []) ((p++A++B++s).getD (t-1) [])=false) ->
          (t=p.length+A.length \/ t=mid \/ mLt ((p++A++B++s).getD (mid+(p.length+A.length)-1-t) []) ((p++A++B++s).getD t [])=true) ->
          ∃ M,M.Perm (A++B)/\Srt M/\Ev (fun k=>zos k (p.length:Int) ((p.length+A.length:Nat):Int) ((p.length+A.length+B.length:Nat):Int) (mid:Int) ((mid+(p.length+A.length):Nat):Int) (t:Int) (p++A++B++s)) (p++M++s):=by
       intro t c1 c2 c3 c4 c5 c6
       obtain ⟨u,rfl⟩ : ∃ u,t=p.length+u:=⟨t-p.length,by omega⟩
       obtain ⟨v,hv⟩ : ∃ v,v=mid-(p.length+u):=⟨_,rfl⟩
       have lA1:(A.take u).length=u:=by rw [List.length_take]; omega
       have lA2:(A.drop u).length=A.length-u:=by rw [List.length_drop]
       have lB1:(B.take v).length=v:=by rw [List.length_take]; omega
       have lB2:(B.drop v).length=B.length-v:=by rw [List.length_drop]
       have tA:A.take u++A.drop u=A:=List.take_append_drop _ _
       have tB:B.take v++B.drop v=B:=List.take_append_drop _ _
       have mA1:∀ x∈A.take u,x∈A:=fun x h=>List.mem_of_mem_take h
       have mA2:∀ x∈A.drop u,x∈A:=fun x h=>List.mem_of_mem_drop h
       have mB1:∀ x∈B.take v,x∈B:=fun x h=>List.mem_of_mem_take h
       have mB2:∀ x∈B.drop v,x∈B:=fun x h=>List.mem_of_mem_drop h
       obtain ⟨M1,M2,p1,p2,q1,q2,r⟩:=zr9 N ih p (A.take u) (B.take v) (A.drop u) (B.drop v) s (by omega) (by omega)
        (List.Pairwise.sublist (List.take_sublist _ _) hsA) (List.Pairwise.sublist (List.take_sublist _ _) hsB) (List.Pairwise.sublist (List.drop_sublist _ _) hsA) (List.Pairwise.sublist (List.drop_sublist _ _) hsB)
        (fun x hx y hy=>hix x (mA1 x hx) y (mB1 y hy)) (fun x hx y hy=>hix x (mA2 x hx) y (mB2 y hy))
        (fun x hx=>hok x (by
         simp only [List.mem_append] at hx ⊢
         rcases hx with ((((h | h) | h) | h) | h) | h
         · exact .inl (.inl (.inl h))
         · exact .inl (.inl (.inr (mA1 x h)))
         · exact .inl (.inr (mB1 x h))
         · exact .inl (.inl (.inr (mA2 x h)))
         · exact .inl (.inr (mB2 x h))
         · exact .inr h))
        (by simp only [List.length_append]; omega) p.length (p.length+u) mid (mid+(p.length+A.length)-(p.length+u)) (p.length+A.length+B.length) rfl (by omega) (by omega) (by omega) (by omega)
       have pe:(M1++M2).Perm (A++B):=by
        have h:=p1.append p2
        refine h.trans ?_
        have e1:A++B=A.take u++(A.drop u++B.take v)++B.drop v:=by
         rw [<- List.append_assoc,tA,List.append_assoc,tB]
        rw [e1,List.append_assoc,List.append_assoc]
        refine List.Perm.append_left _ ?_
        rw [<- List.append_assoc]
        exact List.perm_append_comm.append_right _
       refine ⟨M1++M2,pe,List.pairwise_append.2 ⟨q1,q2,fun x hx y hy=>?_⟩,?_⟩
       · rcases List.mem_append.1 (p1.mem_iff.1 hx) with hx | hx
         · rcases List.mem_append.1 (p2.mem_iff.1 hy) with hy | hy
           · obtain ⟨i,i1,i2,rfl⟩:=zbL (z:=[]) hx
             obtain ⟨j,j1,j2,rfl⟩:=zbw (z:=[]) hy
             exact hsA.at (by omega) j2
           · obtain ⟨i,i1,i2,rfl⟩:=zbL (z:=[]) hx
             obtain ⟨j,j1,j2,rfl⟩:=zbw (z:=[]) hy
             rcases c5 with c5 | c5 | c5
             · omega
             · omega
             · have e1:mid+(p.length+A.length)-(p.length+u)=p.length+A.length+v:=by omega
               have e2:p.length+u-1=p.length+(u-1):=by omega
               rw [e1,e2,dA (u-1) (by omega),dB v (by omega)] at c5
               have g1:=zf7 (okB v (by omega)) (okA (u-1) (by omega)) (okA i i2) c5 (hsA.le (by omega) (by omega))
               have g2:=zf7 (okB j j2) (okB v (by omega)) (okA i i2) (hsB.le j1 j2) g1
               exact zor g2 (hix _ (zaf i2) _ (zaf j2))
         · rcases List.mem_append.1 (p2.mem_iff.1 hy) with hy | hy
           · obtain ⟨i,i1,i2,rfl⟩:=zbL (z:=[]) hx
             obtain ⟨j,j1,j2,rfl⟩:=zbw (z:=[]) hy
             rcases c6 with c6 | c6 | c6
             · omega
             · omega
             · have e1:mid+(p.length+A.length)-1-(p.length+u)=p.length+A.length+(v-1):=by omega
               rw [e1,dA u (by omega),dB (v-1) (by omega)] at c6
               exact .inl (zqM (okB (v-1) (by omega)) (okA u (by omega)) (okB i i2) (okA j j2) c6 (hsB.le (by omega) (by omega)) (hsA.le j1 j2))
           · obtain ⟨i,i1,i2,rfl⟩:=zbL (z:=[]) hx
             obtain ⟨j,j1,j2,rfl⟩:=zbw (z:=[]) hy
             exact hsB.at (by omega) j2
       · have we:W (((mid+(p.length+A.length):Nat):Int)-((p.length+u:Nat):Int))=((mid+(p.length+A.length)-(p.length+u):Nat):Int):=by rw [w64 (by omega) (by omega)]; omega
         unfold zos
         simp only [we]
         rw [<- List.append_assoc]
         have e1:p++A++B++s=p++A.take u++A.drop u++B.take v++(B.drop v++s):=by
          rw [List.append_assoc p (A.take u),tA,<- List.append_assoc (p++A++B.take v),List.append_assoc (p++A) (B.take v),tB]
         by_cases k1:u < A.length
         · by_cases k2:0 < v
           · have b1:iLt ((p.length+u:Nat):Int) ((p.length+A.length:Nat):Int)=true:=decide_eq_true (by omega)
             have b2:iLt ((p.length+A.length:Nat):Int) ((mid+(p.length+A.length)-(p.length+u):Nat):Int)=true:=decide_eq_true (by omega)
             simp only [b1,b2,if_true]
             have g:=zpj _ (p++A.take u) (A.drop u) (B.take v) (B.drop v++s) (Nat.le_refl _) (by omega) (by omega) (by simp only [List.length_append]; omega)
             rw [<- e1,lA2,lB1] at g
             have hr:Ev (fun k=>qbdz.f k (p++A++B++s) ((p.length+u:Nat):Int) ((p.length+A.length:Nat):Int) ((mid+(p.length+A.length)-(p.length+u):Nat):Int)) (p++A.take u++B.take v++A.drop u++(B.drop v++s)):=by
              refine qbdz.v ?_
              have y1:W (((p.length+A.length:Nat):Int)-((p.length+u:Nat):Int))=((A.length-u:Nat):Int):=by rw [w64 (by omega) (by omega)]; omega
              have y2:W (((mid+(p.length+A.length)-(p.length+u):Nat):Int)-((p.length+A.length:Nat):Int))=(v:Int):=by rw [w64 (by omega) (by omega)]; omega
              have y3:(p++A.take u).length+(A.length-u)=p.length+A.length:=by rw [List.length_append]; omega
              rw [y3] at g
              simp only [y1,y2]
              exact g
             refine Ev.bind hr ?_
             rw [<- List.append_assoc (p++A.take u++B.take v++A.drop u)]
             exact r
           · have b2:iLt ((p.length+A.length:Nat):Int) ((mid+(p.length+A.length)-(p.length+u):Nat):Int)=false:=decide_eq_false (by omega)
             have hv0:v=0:=by omega
             have e2:p++A++B++s=p++A.take u++B.take v++A.drop u++B.drop v++s:=by
              rw [hv0]; simp only [List.take_zero,List.drop_zero,List.append_nil]; rw [List.append_assoc p (A.take u),tA]
             simp only [b2,Bool.false_eq_true,if_false]
             rw [e2]
             split <;> exact r
         · have b1:iLt ((p.length+u:Nat):Int) ((p.length+A.length:Nat):Int)=false:=decide_eq_false (by omega)
           have hu:A.length<=u:=by omega
           have e2:p++A++B++s=p++A.take u++B.take v++A.drop u++B.drop v++s:=by
            rw [List.take_of_length_le hu,List.drop_eq_nil_of_le hu,List.append_nil,List.append_assoc (p++A) (B.take v),tB]
           simp only [b1,Bool.false_eq_true,if_false]
           rw [e2]
           exact r
      by_cases h3:mid < p.length+A.length
      · have ws:W (((mid+(p.length+A.length):Nat):Int)-((p.length+A.length+B.length:Nat):Int))=((mid+(p.length+A.length)-(p.length+A.length+B.length):Nat):Int):=by rw [w64 (by omega) (by omega)]; omega
        obtain ⟨t,⟨t1,t2⟩,t3,t4,t5⟩:=zot (p++A++B++s) p.length (p.length+A.length) (p.length+A.length+B.length) mid (mid+(p.length+A.length)) hP hl (mid+(p.length+A.length)-(p.length+A.length+B.length)) mid (by simp only [List.length_append]; omega) (by simp only [List.length_append]; omega) (by omega) _ (mid+(p.length+A.length)-(p.length+A.length+B.length)) mid (Nat.le_refl _) (Nat.le_refl _) (by omega) (Nat.le_refl _) (.inl rfl) (.inl rfl) (by omega)
        obtain ⟨M,z1,z2,z3⟩:=cut t (by omega) (by omega) t2 (by omega) (t3.elim (fun h=>.inr (.inl (by omega))) fun h=>.inr (.inr h)) (t4.elim (fun h=>.inr (.inl h)) fun h=>.inr (.inr h))
        refine ⟨M,qbbz.v ?_,z1,z2⟩
        have b3:iGt ((p.length+A.length:Nat):Int) (mid:Int)=true:=decide_eq_true (by omega)
        have b1:(((A.length:Nat):Int) == 1)=false:=by rw [beq_eq_false_iff_ne]; omega
        have b2:(((B.length:Nat):Int) == 1)=false:=by rw [beq_eq_false_iff_ne]; omega
        simp only [w1,w2,hh,wn,wq,ws,b1,b2,b3,Bool.false_eq_true,if_false,if_true]
        exact t5 _ z3
      · obtain ⟨t,⟨t1,t2⟩,t3,t4,t5⟩:=zot (p++A++B++s) p.length (p.length+A.length) (p.length+A.length+B.length) mid (mid+(p.length+A.length)) hP hl p.length (p.length+A.length) (by simp only [List.length_append]; omega) (by simp only [List.length_append]; omega) (by omega) _ p.length (p.length+A.length) (Nat.le_refl _) (Nat.le_refl _) (by omega) (Nat.le_refl _) (.inl rfl) (.inl rfl) (by omega)
        obtain ⟨M,z1,z2,z3⟩:=cut t t1 t2 (by omega) (by omega) (t3.elim .inl fun h=>.inr (.inr h)) (t4.elim .inl fun h=>.inr (.inr h))
        refine ⟨M,qbbz.v ?_,z1,z2⟩
        have b3:iGt ((p.length+A.length:Nat):Int) (mid:Int)=false:=decide_eq_false (by omega)
        have b1:(((A.length:Nat):Int) == 1)=false:=by rw [beq_eq_false_iff_ne]; omega
        have b2:(((B.length:Nat):Int) == 1)=false:=by rw [beq_eq_false_iff_ne]; omega
        simp only [w1,w2,hh,wn,wq,b1,b2,b3,Bool.false_eq_true,if_false]
        exact t5 _ z3
theorem insM (pre blk post:List (List Int)) (hP:∀ x∈blk,mOk x) (hl:pre.length+blk.length+post.length<=1000000) :
    Ev (fun k=>qauz.f k (pre++blk++post) (pre.length:Int) ((pre.length+blk.length:Nat):Int)) (pre++zaC mLt [] blk++post):=by
 refine qauz.v ?_
 have h:=zlj cmpM (F0:=fun k a b i arr=>qauz.l0 k a b i arr) (F1:=fun k a b i j arr=>qauz.l1 k a b i j arr)
  qauz.v0 qauz.v1 pre blk post hP (by omega)
 rw [show W ((pre.length:Int)+1)=((pre.length+1:Nat):Int) by rw [w64 (by omega) (by omega)]; omega]
 exact h
theorem zpm {l:List (List Int)} (hl:l.length<=39) (hok:∀ x∈l,mOk x) (hix:l.Pairwise (fun x y=>mIx x < mIx y)):Ev (fun k=>qaxz.f k l) (zaC mLt [] l):=by
 refine qaxz.v (Ev.bind (v:=zaC mLt [] l) (qbcz.v ?_) (Ev.now _))
 simp only [S]
 by_cases h20:l.length < 20
 · refine qbcz.v0 ?_
   simp (disch:=omega) only [S]
   have h:=insM [] l [] hok (by simp; omega)
   simp only [List.length_nil,Nat.zero_add,List.nil_append,List.append_nil] at h
   refine Ev.bind h (qbcz.v1 ?_)
   simp (disch:=omega) only [S]
   exact Ev.now _
 · have lA:(l.take 20).length=20:=by rw [List.length_take]; omega
   have lB:(l.drop 20).length=l.length-20:=by rw [List.length_drop]
   have tAB:l.take 20++l.drop 20=l:=List.take_append_drop _ _
   have oA:∀ x∈l.take 20,mOk x:=fun x h=>hok x (List.mem_of_mem_take h)
   have oB:∀ x∈l.drop 20,mOk x:=fun x h=>hok x (List.mem_of_mem_drop h)
   have sA:=zjE (l.take 20) oA (List.Pairwise.sublist (List.take_sublist _ _) hix)
   have sB:=zjE (l.drop 20) oB (List.Pairwise.sublist (List.drop_sublist _ _) hix)
   have pA:=za7 mLt [] (l.take 20)
   have pB:=za7 mLt [] (l.drop 20)
   have kA:=zcP mLt [] (l.take 20)
   have kB:=zcP mLt [] (l.drop 20)
   have i1:=insM [] (l.take 20) (l.drop 20) oA (by simp; omega)
   have i2:=insM (zaC mLt [] (l.take 20)) (l.drop 20) [] oB (by simp only [List.length_nil]; omega)
   rw [lA] at i1 kA
   rw [kA,lB] at i2
   rw [lB] at kB
   rw [List.append_nil] at i2
   rw [show 20+(l.length-20)=l.length by omega,List.append_nil] at i2
   rw [List.nil_append,tAB,List.nil_append] at i1
   have fin:Ev (fun k=>qbcz.l1 k (l.length:Int) 20 (zaC mLt [] (l.take 20)++zaC mLt [] (l.drop 20))) (zaC mLt [] l):=by
    have okI:∀ x∈zaC mLt [] l,mOk x:=fun x h=>hok x ((za7 mLt [] l).mem_iff.1 h)
    have perm:(zaC mLt [] (l.take 20)++zaC mLt [] (l.drop 20)).Perm l:=by
     have h:=pA.append pB
     rwa [tAB] at h
    refine qbcz.v1 ?_
    by_cases he:l.length=20
    · simp (disch:=omega) only [S]
      have e0:l.drop 20=[]:=List.drop_eq_nil_of_le (by omega)
      have e1:l.take 20=l:=List.take_of_length_le (by omega)
      rw [e0,e1]
      rw [show zaC mLt [] []=[] from rfl,List.append_nil]
      exact Ev.now _
    · have w40:W (2*20)=40:=by decide
      simp only [w40]
      simp (disch:=omega) only [S]
      refine qbcz.v2 ?_
      have w20:W (0+20)=20:=by decide
      have w3:W (20*2)=40:=by decide
      simp only [w20,w3]
      simp (disch:=omega) only [S]
      obtain ⟨M,m1,m2,m3⟩:=zmD _ [] (zaC mLt [] (l.take 20)) (zaC mLt [] (l.drop 20)) [] (Nat.le_refl _) (by omega) (by omega) sA sB
       (fun x hx y hy=>by
        have hx:=pA.mem_iff.1 hx
        have hy:=pB.mem_iff.1 hy
        rw [<- tAB] at hix
        exact (List.pairwise_append.1 hix).2.2 x hx y hy)
       (fun x hx=>by
        simp only [List.nil_append,List.append_nil] at hx
        exact hok x (perm.mem_iff.1 hx))
       (by simp only [List.nil_append,List.append_nil,List.length_append]; omega)
      simp only [List.nil_append,List.append_nil,List.length_nil,Nat.zero_add,kA,kB,show 20+(l.length-20)=l.length by omega] at m1
      have eM:M=zaC mLt [] l:=zpi m3 (zjE l hok hix) ((m2.trans perm).trans (za7 mLt [] l).symm) (fun x hx=>hok x ((m2.trans perm).mem_iff.1 hx))
      rw [eM] at m1
      refine Ev.bind m1 (qbcz.v1 ?_)
      simp (disch:=omega) only [S]
      exact Ev.now _
   have w40:W (20+20)=40:=by decide
   refine qbcz.v0 ?_
   simp only [w40]
   simp (disch:=omega) only [S]
   refine Ev.bind i1 (qbcz.v0 ?_)
   simp (disch:=omega) only [S]
   exact Ev.bind i2 fin
def tri:Nat->Nat
 | 0=>0
 | n+1=>n+tri n
theorem zum:∀ n,n<=8->tri n<=28:=by decide
theorem zun {i j:Nat} {w v:Wk} (hi:i < 8) (hj:j < 8) (hw:wOk w=true) (hv:wOk v=true) (h:(meet w v).2.2=true):mOk [(i:Int),(j:Int),(meet w v).1,(meet w v).2.1]:=by
 obtain ⟨b1,b2,b3⟩:=zeC hw hv
 exact ⟨_,_,_,_,rfl,by omega,by omega,b1,b3 h,b2.2⟩
theorem zeH {l:List Wk} (hok:zam 8 wOk l=true):∃ R:List (List Int),Ev (fun k=>qcsz.f k l) R/\Ev (fun k=>qdiz.f k l) (R,true)/\R.length<=28 /\ ∀ x∈R,mOk x:=by
 obtain ⟨h1,h2⟩:=zak.1 hok
 -- the statement's way to put one in
 have put:∀ (i j:Nat) (w:Wk) (num den:Int) (acc:List (List Int)) (r:List (List Int)×Bool),j < 8->mOk [(i:Int),(j:Int),num,den]->(∀ x∈acc,mOk x)->acc.length<=1000->∀ n,n<=acc.length ->
     Ev (fun k=>qdiz.l1 k l (i:Int) ((j+1:Nat):Int) l (l.length:Int) (i:Int) (zbi acc [(i:Int),(j:Int),num,den] (zc7 mLt [] [(i:Int),(j:Int),num,den] acc n)) w.1 w.2) r ->
     Ev (fun k=>qdiz.l2 k l (i:Int) (j:Int) num den (n:Int) l (l.length:Int) (i:Int) acc w.1 w.2) r:=by
  intro i j w num den acc r hj hm hacc hlen n
  have fin:∀ p:Nat,p<=acc.length->((acc.take p++[[(i:Int),(j:Int),num,den]])++(acc.drop p).take (acc.length-p))=zbi acc [(i:Int),(j:Int),num,den] p:=by
   intro p hp
   have e:(acc.drop p).take (acc.length-p)=acc.drop p:=List.take_of_length_le (by simp)
   unfold zbi
   rw [e]
   simp
  obtain ⟨_,_,_,_,e,_,_,hn,hd⟩:=hm
  injection e with e1 e; injection e with e2 e; injection e with e3 e; injection e with e4 e
  subst e3 e4
  have wj:W ((j:Int)+1)=((j+1:Nat):Int):=by rw [w64 (by omega) (by omega)]; omega
  induction n with
  | zero =>
   intro _ h
   have hf:=fin 0 (Nat.zero_le _)
   have h':Ev (fun k=>qdiz.l1 k l (i:Int) ((j+1:Nat):Int) l (l.length:Int) (i:Int) (zbi acc [(i:Int),(j:Int),num,den] 0) w.1 w.2) r:=h
   refine qdiz.v2 ?_
   have c:iGt ((0:Nat):Int) 0=false:=rfl
   simp only [c,Bool.false_eq_true,if_false,wj]
   simp (disch:=omega) only [S,List.nil_append,List.length_append,List.length_cons,List.length_nil,List.length_take,List.length_drop]
   rw [hf]
   exact h'
  | succ n ih =>
   intro hn1 h
   have hy:=hacc _ (zaf (z:=([]:List Int)) (show n < acc.length by omega))
   obtain ⟨i',k',num',den',ey,_,_,hn',hd'⟩:=hy
   have ew:W (((n+1:Nat):Int)-1)=((n:Nat):Int):=by rw [w64 (by omega) (by omega)]; omega
   have m1:=mulb (a:=num) (b:=den') (A:=2000) (B:=200) (by omega) (by omega) (by omega) (by omega)
   have m2:=mulb (a:=num') (b:=den) (A:=2000) (B:=200) (by omega) (by omega) (by omega) (by omega)
   have hlt:mLt [(i:Int),(j:Int),num,den] (acc.getD n [])=decide (num*den' < num' * den):=by rw [ey]; rfl
   unfold zc7 at h
   rw [hlt] at h
   refine qdiz.v2 ?_
   simp only [ew,wj]
   simp (disch:=omega) only [S,ey,List.length_cons,List.length_nil,rd2,rd3]
   have ec:iLt (num*den') (num' * den)=decide (num*den' < num' * den):=rfl
   rw [ec]
   cases hbf:decide (num*den' < num' * den) with
   | true =>
    rw [hbf,if_pos rfl] at h
    simp only [if_true]
    exact ih (by omega) h
   | false =>
    rw [hbf,if_neg (by simp)] at h
    have hf:=fin (n+1) hn1
    simp only [Bool.false_eq_true,if_false]
    simp (disch:=omega) only [S,List.nil_append,List.length_append,List.length_cons,List.length_nil,List.length_take,List.length_drop]
    rw [hf]
    exact h
 -- one walker with those behind
 have outer:∀ (e i:Nat),i+e=l.length->∀ acc:List (List Int),acc.length+tri e<=28->(∀ x∈acc,mOk x)->acc.Pairwise (fun x y=>mIx x < mIx y)->(∀ x∈acc,mIx x < 8*(i:Int)) ->
     ∃ R:List (List Int),Ev (fun k=>qcsz.l0 k l l (l.length:Int) (i:Int) acc) R/\Ev (fun k=>qdiz.l0 k l l (l.length:Int) (i:Int) (zaC mLt [] acc)) (R,true)/\R.length<=28 /\ ∀ x∈R,mOk x:=by
  intro e
  induction e with
  | zero =>
   intro i hi acc hc ho hp hx
   refine ⟨zaC mLt [] acc,qcsz.v0 ?_,qdiz.v0 ?_,by rw [zcP]; omega,fun x hx=>ho x ((za7 mLt [] acc).mem_iff.1 hx)⟩
   · simp (disch:=omega) only [S]
     exact Ev.bind (zpm (by omega) ho hp) (Ev.now _)
   · simp (disch:=omega) only [S]
     exact Ev.now _
  | succ e ih =>
   intro i hi acc hc ho hp hx
   have hw:=h2 _ (zaf (z:=(0,0)) (show i < l.length by omega))
   have inner:∀ (d j:Nat),j+d=l.length->i < j->∀ acc:List (List Int),acc.length+d+tri e<=28->(∀ x∈acc,mOk x)->acc.Pairwise (fun x y=>mIx x < mIx y)->(∀ x∈acc,mIx x < 8*(i:Int)+j) ->
       ∃ R:List (List Int),Ev (fun k=>qcsz.l1 k l (i:Int) (j:Int) l (l.length:Int) (i:Int) acc (l.getD i (0,0)).1 (l.getD i (0,0)).2) R/\Ev (fun k=>qdiz.l1 k l (i:Int) (j:Int) l (l.length:Int) (i:Int) (zaC mLt [] acc) (l.getD i (0,0)).1 (l.getD i (0,0)).2) (R,true)/\R.length<=28 /\ ∀ x∈R,mOk x:=by
    intro d
    induction d with
    | zero =>
     intro j hj hij acc hc ho hp hx
     obtain ⟨R,r1,r2,r3⟩:=ih (i+1) (by omega) acc (by omega) ho hp (fun x h=>by have:=hx x h; omega)
     refine ⟨R,qcsz.v1 ?_,qdiz.v1 ?_,r3⟩
     · simp (disch:=omega) only [S]; exact r1
     · simp (disch:=omega) only [S]; exact r2
    | succ d ihd =>
     intro j hj hij acc hc ho hp hx
     have hv:=h2 _ (zaf (z:=(0,0)) (show j < l.length by omega))
     have hI:=zaw hw hv
     have hS:=zbZ hw hv
     cases hm:(meet (l.getD i (0,0)) (l.getD j (0,0))).2.2 with
     | false =>
      obtain ⟨R,r1,r2,r3⟩:=ihd (j+1) (by omega) (by omega) acc (by omega) ho hp (fun x h=>by have:=hx x h; omega)
      refine ⟨R,qcsz.v1 ?_,qdiz.v1 ?_,r3⟩
      · simp (disch:=omega) only [S]
        refine Ev.bind hI ?_
        simp only [hm,Bool.false_eq_true,if_false]
        exact r1
      · simp (disch:=omega) only [S]
        refine Ev.bind hS ?_
        simp only [hm,Bool.not_false,if_true]
        exact r2
     | true =>
      have hmo:=zun (i:=i) (j:=j) (by omega) (by omega) hw hv hm
      have hmx:mIx [(i:Int),(j:Int),(meet (l.getD i (0,0)) (l.getD j (0,0))).1,(meet (l.getD i (0,0)) (l.getD j (0,0))).2.1]=8*(i:Int)+j:=by unfold mIx; simp only [List.getD_cons_zero,List.getD_cons_succ]; omega
      obtain ⟨R,r1,r2,r3⟩:=ihd (j+1) (by omega) (by omega) (acc++[[(i:Int),(j:Int),(meet (l.getD i (0,0)) (l.getD j (0,0))).1,(meet (l.getD i (0,0)) (l.getD j (0,0))).2.1]]) (by simp only [List.length_append,List.length_cons,List.length_nil]; omega)
       (fun x h=>by
        rcases List.mem_append.1 h with h | h
        · exact ho x h
        · rw [List.mem_singleton.1 h]; exact hmo)
       (List.pairwise_append.2 ⟨hp,by simp,fun x h y h'=>by rw [List.mem_singleton.1 h',hmx]; exact hx x h⟩)
       (fun x h=>by
        rcases List.mem_append.1 h with h | h
        · have:=hx x h; omega
        · rw [List.mem_singleton.1 h,hmx]; omega)
      refine ⟨R,qcsz.v1 ?_,qdiz.v1 ?_,r3⟩
      · simp (disch:=omega) only [S]
        refine Ev.bind hI ?_
        simp (disch:=omega) only [hm,S]
        exact r1
      · have hil:=zcP mLt [] acc
        simp (disch:=omega) only [S]
        refine Ev.bind hS ?_
        simp (disch:=omega) only [hm,S]
        rw [zbQ] at r2
        exact put i j (l.getD i (0,0)) _ _ _ _ (by omega) hmo (fun x h=>ho x ((za7 mLt [] acc).mem_iff.1 h)) (by omega) _ (Nat.le_refl _) r2
   have ht:tri (e+1)=e+tri e:=rfl
   obtain ⟨R,r1,r2,r3⟩:=inner e (i+1) (by omega) (by omega) acc (by omega) ho hp (fun x h=>by have:=hx x h; omega)
   refine ⟨R,qcsz.v0 ?_,qdiz.v0 ?_,r3⟩
   · simp (disch:=omega) only [S]; exact r1
   · simp (disch:=omega) only [S]; exact r2
 obtain ⟨R,r1,r2,r3⟩:=outer l.length 0 (by omega) [] (by have:=zum _ h1.2; simpa using this) (by simp) List.Pairwise.nil (by simp)
 refine ⟨R,qcsz.v ?_,qdiz.v (Ev.bind (zbc l) ?_),r3⟩
 · simp only [S]; exact r1
 · simp only [hok,S]; exact r2
theorem zh3 {l:List Wk} (hok:zam 8 wOk l=true):∃ R:List (List Int),Ev (fun k=>qdbz.f k l) (R,true)/\Ev (fun k=>qdiz.f k l) (R,true)/\R.length<=28 /\ ∀ x∈R,mOk x:=by
 obtain ⟨R,r1,r2,r3⟩:=zeH hok
 refine ⟨R,qdbz.v (Ev.bind (zaz l) ?_),r2,r3⟩
 simp only [hok,S]
 exact Ev.bind r1 (Ev.now _)
theorem zdC {l:List Wk} (hok:zam 8 wOk l=true):∃ n:Int,Ev (fun k=>qbxz.f k l) (n,true)/\Ev (fun k=>qbwz.f k l) (n,true)/\i64 n/\0<=n:=by
 obtain ⟨R,r1,r2,r3,_⟩:=zeH hok
 refine ⟨R.length,qbxz.v (Ev.bind (zaz l) ?_),qbwz.v (Ev.bind r2 ?_),by unfold i64; omega,by omega⟩
 · simp only [hok,S]
   exact Ev.bind r1 (zbK (by simp only [S]))
 · exact zbK (by simp only [S])
theorem zmE (w v:Wk):meet w v=meet v w:=by
 unfold meet
 by_cases hp:w.1=v.1
 · rw [if_pos hp,if_pos hp.symm]
 · rw [if_neg hp,if_neg (Ne.symm hp)]
   by_cases hs:w.2=v.2
   · rw [if_pos hs,if_pos hs.symm]
   · rw [if_neg hs,if_neg (Ne.symm hs)]
     have e:=ztv (n:=v.1-w.1) (d:=w.2-v.2) (by omega)
     rw [show -(v.1-w.1)=w.1-v.1 by omega,show -(w.2-v.2)=v.2-w.2 by omega] at e
     rw [e]
def zpn (l:List Wk) (a:Wk) (n d:Int):Prop:=∀ v∈l,a.2 < v.2->v.1*d+v.2*n<=a.1*d+a.2*n
theorem zfn {a b c:Int} (hc:0 < c) (h:a*c<=b*c):a<=b:=Int.le_of_mul_le_mul_right h hc
theorem zpo {a b c d e f:Int} (hb:0 < b) (hd:0 < d) (hf:0 < f) (h1:a*d<=c*b) (h2:c*f<=e*d):a*f<=e*b:=by
 have p1:=Int.mul_le_mul_of_nonneg_right h1 (show 0<=f by omega)
 have p2:=Int.mul_le_mul_of_nonneg_right h2 (show 0<=b by omega)
 refine zfn hd ?_
 rw [show a*f*d=a*d*f by ac_rfl,show e*b*d=e*d*b by ac_rfl]
 rw [show c*f*b=c*b*f by ac_rfl] at p2
 omega
theorem zjG {a v:Wk} (ha:wOk a=true) (hv:wOk v=true) (hs:a.2 < v.2) {n d:Int} (hn:0<=n) (hd:0 < d) (h:v.1*d+v.2*n<=a.1*d+a.2*n) :
    (meet a v).2.2=true/\n*(meet a v).2.1<=(meet a v).1*d/\(meet a v).1*(v.2-a.2)=(a.1-v.1)*(meet a v).2.1:=by
 have hb:=zeC ha hv
 have key:n*(v.2-a.2)<=(a.1-v.1)*d:=by
  rw [Int.mul_sub,Int.sub_mul,Int.mul_comm n v.2,Int.mul_comm n a.2]; omega
 have hpos:0<=(a.1-v.1)*d:=Int.le_trans (Int.mul_nonneg hn (by omega)) key
 have hx:v.1<=a.1:=by
  have:0*d<=(a.1-v.1)*d:=by omega
  have:=zfn hd this
  omega
 have hok:(meet a v).2.2=true/\(meet a v).1*(v.2-a.2)=(a.1-v.1)*(meet a v).2.1:=by
  unfold meet
  by_cases e:a.1=v.1
  · rw [if_pos e]
    exact ⟨rfl,by simp only []; rw [e,Int.sub_self,Int.zero_mul,Int.zero_mul]⟩
  · rw [if_neg e,if_neg (by omega)]
    have hsg:=(zle (n:=v.1-a.1) (d:=a.2-v.2) (by omega)).1
    have hl:=zsH (n:=v.1-a.1) (d:=a.2-v.2) (by omega)
    rw [if_neg (fun h=>by have:=hsg.1 h; omega)]
    refine ⟨rfl,?_⟩
    simp only []
    rw [show a.2-v.2 = -(v.2-a.2) by omega,show v.1-a.1 = -(a.1-v.1) by omega,Int.mul_neg,Int.neg_mul] at hl
    rw [show a.2-v.2 = -(v.2-a.2) by omega,show v.1-a.1 = -(a.1-v.1) by omega]
    omega
 refine ⟨hok.1,?_,hok.2⟩
 have hD:=hb.2.2 hok.1
 have p:=Int.mul_le_mul_of_nonneg_right key (show 0<=(meet a v).2.1 by omega)
 have e:(meet a v).1*(v.2-a.2)*d=(a.1-v.1)*(meet a v).2.1*d:=congrArg (· * d) hok.2
 refine zfn (show 0 < v.2-a.2 by omega) ?_
 rw [show n*(meet a v).2.1*(v.2-a.2)=n*(v.2-a.2)*(meet a v).2.1 by ac_rfl,show (meet a v).1*d*(v.2-a.2)=(meet a v).1*(v.2-a.2)*d by ac_rfl,e,show (a.1-v.1)*(meet a v).2.1*d=(a.1-v.1)*d*(meet a v).2.1 by ac_rfl]
 exact p
theorem zqQ {l:List Wk} (hl:∀ w∈l,wOk w=true) {a b:Wk} (ha:a∈l) (hb:b∈l) (hs:a.2 < b.2) {n d:Int} (hn:0<=n) (hd:0 < d) (h:zpn l a n d)
    (hmin:∀ v∈l,a.2 < v.2->(meet a b).1*(meet a v).2.1<=(meet a v).1*(meet a b).2.1):zpn l b (meet a b).1 (meet a b).2.1:=by
 intro v hv hbv
 obtain ⟨o1,_,e1⟩:=zjG (hl a ha) (hl b hb) hs hn hd (h b hb hs)
 obtain ⟨o2,_,e2⟩:=zjG (hl a ha) (hl v hv) (by omega) hn hd (h v hv (by omega))
 have d1:=(zeC (hl a ha) (hl b hb)).2.2 o1
 have d2:=(zeC (hl a ha) (hl v hv)).2.2 o2
 have hm:=hmin v hv (by omega)
 generalize (meet a b).1=N at *
 generalize (meet a b).2.1=D at *
 generalize (meet a v).1=M at *
 generalize (meet a v).2.1=E at *
 -- N (v-a)<=(xa-xv) D
 have k:N*(v.2-a.2)<=(a.1-v.1)*D:=by
  have p:=Int.mul_le_mul_of_nonneg_right hm (show 0<=v.2-a.2 by omega)
  refine zfn d2 ?_
  rw [show N*(v.2-a.2)*E=N*E*(v.2-a.2) by ac_rfl,show (a.1-v.1)*D*E=(a.1-v.1)*E*D by ac_rfl,<- e2,show M*(v.2-a.2)*D=M*D*(v.2-a.2) by ac_rfl]
  exact p
 rw [Int.mul_sub,Int.sub_mul,Int.mul_comm N v.2,Int.mul_comm N a.2] at k
 rw [Int.mul_sub,Int.sub_mul,Int.mul_comm N b.2,Int.mul_comm N a.2] at e1
 omega
def fast (l:List Wk) (s:Int):Nat:=l.countP fun v=>decide (s < v.2)
theorem zqR:∀ {l:List Wk} {s t:Int} {b:Wk},b∈l->s < b.2->b.2=t->fast l t < fast l s:=by
 intro l
 induction l with
 | nil=>intro _ _ b h; simp at h
 | cons w l ih =>
  intro s t b hb h1 h2
  have mono:fast l t<=fast l s:=List.countP_mono_left fun v _ h=>by
   have:=of_decide_eq_true h
   exact decide_eq_true (by omega)
  unfold fast at *
  rw [List.countP_cons,List.countP_cons]
  rcases List.mem_cons.1 hb with rfl | hb
  · rw [if_neg (by simp; omega),if_pos (by simp; omega)]
    omega
  · have h:=ih hb h1 h2
    by_cases c:t < w.2
    · rw [if_pos (by simp; omega),if_pos (by simp; omega)]; omega
    · rw [if_neg (by simp; omega)]; omega
theorem ztA (l:List Wk) (s:Int):fast l s<=l.length:=List.countP_le_length
theorem zpp {l:List Wk} (h8:l.length<=8):∀ (d i a:Nat),i+d=l.length->a < l.length->(∀ j,j < i->(l.getD j (0,0)).1<=(l.getD a (0,0)).1) ->
    ∃ b,b < l.length/\(∀ j,j < l.length->(l.getD j (0,0)).1<=(l.getD b (0,0)).1) /\
     (∀ r,Ev (fun k=>qdlz.l1 k l (b:Int) [(b:Int)]) r->Ev (fun k=>qdlz.l0 k l (a:Int) l (l.length:Int) (i:Int)) r) /\
     (∀ r,Ev (fun k=>qejz.l1 k l (b:Int) 0 1 0 [(b:Int)]) r->Ev (fun k=>qejz.l0 k l (a:Int) l (l.length:Int) (i:Int)) r):=by
 intro d
 induction d with
 | zero =>
  intro i a hi ha hj
  refine ⟨a,ha,fun j h=>hj j (by omega),fun r h=>qdlz.v0 ?_,fun r h=>qejz.v0 ?_⟩ <;> simp (disch:=omega) only [S] <;> exact h
 | succ d ih =>
  intro i a hi ha hj
  by_cases c1:(l.getD a (0,0)).1 < (l.getD i (0,0)).1
  · obtain ⟨b,b1,b2,b3,b4⟩:=ih (i+1) i (by omega) (by omega) (fun j h=>by
     rcases Nat.lt_or_ge j i with h | h'
     · have:=hj j h; omega
     · rw [show j=i by omega]; omega)
    refine ⟨b,b1,b2,fun r h=>qdlz.v0 ?_,fun r h=>qejz.v0 ?_⟩ <;> simp (disch:=omega) only [S]
    · exact b3 r h
    · exact b4 r h
  · by_cases c2:(l.getD i (0,0)).1=(l.getD a (0,0)).1/\(l.getD a (0,0)).2 < (l.getD i (0,0)).2
    · obtain ⟨b,b1,b2,b3,b4⟩:=ih (i+1) i (by omega) (by omega) (fun j h=>by
       rcases Nat.lt_or_ge j i with h | h'
       · have:=hj j h; omega
       · rw [show j=i by omega]; omega)
      refine ⟨b,b1,b2,fun r h=>qdlz.v0 ?_,fun r h=>qejz.v0 ?_⟩ <;> simp (disch:=omega) only [S]
      · exact b3 r h
      · exact b4 r h
    · obtain ⟨b,b1,b2,b3,b4⟩:=ih (i+1) a (by omega) ha (fun j h=>by
       rcases Nat.lt_or_ge j i with h | h'
       · exact hj j h
       · rw [show j=i by omega]; omega)
      refine ⟨b,b1,b2,fun r h=>qdlz.v0 ?_,fun r h=>qejz.v0 ?_⟩
      · by_cases c3:(l.getD i (0,0)).1=(l.getD a (0,0)).1
        · simp (disch:=omega) only [S]; exact b3 r h
        · simp (disch:=omega) only [S]; exact b3 r h
      · by_cases c3:(l.getD i (0,0)).1=(l.getD a (0,0)).1
        · simp (disch:=omega) only [S]; exact b4 r h
        · simp (disch:=omega) only [S]; exact b4 r h
abbrev mt (l:List Wk) (a j:Nat):R3:=meet (l.getD a (0,0)) (l.getD j (0,0))
def zqS (l:List Wk) (a b i:Nat):Prop:=b < l.length/\(l.getD a (0,0)).2 < (l.getD b (0,0)).2 /\ ∀ j,j < i->j < l.length->(l.getD a (0,0)).2 < (l.getD j (0,0)).2->(mt l a b).1*(mt l a j).2.1<=(mt l a j).1*(mt l a b).2.1
section
variable {l:List Wk} (h8:l.length<=8) (hl:∀ w∈l,wOk w=true) {a:Nat} (ha:a < l.length) {n d:Int} (hn:0<=n/\n<=2000) (hd:0 < d/\d<=200) (hA:zpn l (l.getD a (0,0)) n d) (round:Nat) (out:List Int)
include h8 hl ha hn hd hA
theorem ze5 {j:Nat} (hj:j < l.length) (hf:(l.getD a (0,0)).2 < (l.getD j (0,0)).2):(mt l a j).2.2=true/\n*(mt l a j).2.1<=(mt l a j).1*d/\(0 < (mt l a j).2.1/\(mt l a j).2.1<=200)/\(0<=(mt l a j).1/\(mt l a j).1<=2000):=by
 have _:=h8
 have h1:=hl _ (zaf (z:=(0,0)) ha)
 have h2:=hl _ (zaf (z:=(0,0)) hj)
 obtain ⟨o1,o2,_⟩:=zjG h1 h2 hf hn.1 hd.1 (hA _ (zaf hj) hf)
 have hb:=zeC h1 h2
 exact ⟨o1,o2,⟨hb.2.2 o1,hb.2.1.2⟩,hb.1⟩
set_option maxHeartbeats 2000000 in
theorem zuo (ho:out.length<=100):∀ (e i:Nat),i+e=l.length->∀ c,zqS l a c i ->
    ∃ b,zqS l a b l.length /\
     (∀ r,Ev (fun k=>qdlz.l1 k l (b:Int) (out++[(b:Int)])) r->Ev (fun k=>qdlz.l2 k l (a:Int) (c:Int) (mt l a c).1 (mt l a c).2.1 l (l.length:Int) (i:Int) out) r) /\
     (∀ r,Ev (fun k=>qejz.l1 k l (b:Int) (mt l a b).1 (mt l a b).2.1 (W ((round:Int)+1)) (out++[(b:Int)])) r->Ev (fun k=>qejz.l2 k l (a:Int) n d (round:Int) (c:Int) (mt l a c).1 (mt l a c).2.1 l (l.length:Int) (i:Int) out) r):=by
 intro e
 induction e with
 | zero =>
  intro i hi c hc
  rw [show i=l.length by omega] at hc ⊢
  refine ⟨c,hc,fun r h=>qdlz.v2 ?_,fun r h=>qejz.v2 ?_⟩ <;> simp (disch:=omega) only [S] <;> exact h
 | succ e ih =>
  intro i hi c hc
  have hil:i < l.length:=by omega
  have hwa:=hl _ (zaf (z:=(0,0)) ha)
  have hwi:=hl _ (zaf (z:=(0,0)) hil)
  have hS:Ev (fun k=>qhcz.f k (l.getD a (0,0)).1 (l.getD a (0,0)).2 (l.getD i (0,0)).1 (l.getD i (0,0)).2) (mt l a i):=zbZ hwa hwi
  have hI:Ev (fun k=>qdcz.f k (l.getD i (0,0)).1 (l.getD i (0,0)).2 (l.getD a (0,0)).1 (l.getD a (0,0)).2) (mt l a i):=by
   have:=zaw hwi hwa
   rwa [zmE] at this
  obtain ⟨c1,c2,c3⟩:=hc
  by_cases hf:(l.getD a (0,0)).2 < (l.getD i (0,0)).2
  · obtain ⟨o1,o2,o3,o4⟩:=ze5 h8 hl ha hn hd hA hil hf
    obtain ⟨p1,p2,p3,p4⟩:=ze5 h8 hl ha hn hd hA c1 c2
    have m1:=mulb (a:=(mt l a i).1) (b:=(mt l a c).2.1) (A:=2000) (B:=200) (by omega) (by omega) (by omega) (by omega)
    have m2:=mulb (a:=(mt l a c).1) (b:=(mt l a i).2.1) (A:=2000) (B:=200) (by omega) (by omega) (by omega) (by omega)
    have m3:=mulb (a:=(mt l a i).1) (b:=d) (A:=2000) (B:=200) (by omega) (by omega) (by omega) (by omega)
    have m4:=mulb (a:=n) (b:=(mt l a i).2.1) (A:=2000) (B:=200) (by omega) (by omega) (by omega) (by omega)
    have take:(mt l a i).1*(mt l a c).2.1<=(mt l a c).1*(mt l a i).2.1->zqS l a i (i+1):=fun h=>⟨hil,hf,fun j j1 j2 j3=>by
     rcases Nat.lt_or_ge j i with j4 | j4
     · exact zpo o3.1 p3.1 (ze5 h8 hl ha hn hd hA j2 j3).2.2.1.1 h (c3 j j4 j2 j3)
     · rw [show j=i by omega]; exact Int.le_refl _⟩
    have keep:¬ (mt l a i).1*(mt l a c).2.1 < (mt l a c).1*(mt l a i).2.1->zqS l a c (i+1):=fun h=>⟨c1,c2,fun j j1 j2 j3=>by
     rcases Nat.lt_or_ge j i with j4 | j4
     · exact c3 j j4 j2 j3
     · rw [show j=i by omega]; omega⟩
    by_cases q1:(mt l a i).1*(mt l a c).2.1 < (mt l a c).1*(mt l a i).2.1
    · obtain ⟨b,b1,b2,b3⟩:=ih (i+1) (by omega) i (take (by omega))
      refine ⟨b,b1,fun r h=>qdlz.v2 ?_,fun r h=>qejz.v2 ?_⟩
      · simp (disch:=omega) only [S]
        refine Ev.bind hI ?_
        simp (disch:=omega) only [o1,S]
        exact b2 r h
      · simp (disch:=omega) only [S]
        refine Ev.bind hS ?_
        simp (disch:=omega) only [o1,S]
        exact b3 r h
    · by_cases q2:(mt l a i).1*(mt l a c).2.1=(mt l a c).1*(mt l a i).2.1
      · by_cases q3:(l.getD c (0,0)).2 < (l.getD i (0,0)).2
        · obtain ⟨b,b1,b2,b3⟩:=ih (i+1) (by omega) i (take (by omega))
          refine ⟨b,b1,fun r h=>qdlz.v2 ?_,fun r h=>qejz.v2 ?_⟩
          · simp (disch:=omega) only [S]
            refine Ev.bind hI ?_
            simp (disch:=omega) only [o1,S]
            exact b2 r h
          · simp (disch:=omega) only [S]
            refine Ev.bind hS ?_
            simp (disch:=omega) only [o1,S]
            exact b3 r h
        · obtain ⟨b,b1,b2,b3⟩:=ih (i+1) (by omega) c (keep q1)
          refine ⟨b,b1,fun r h=>qdlz.v2 ?_,fun r h=>qejz.v2 ?_⟩
          · simp (disch:=omega) only [S]
            refine Ev.bind hI ?_
            simp (disch:=omega) only [o1,S]
            exact b2 r h
          · simp (disch:=omega) only [S]
            refine Ev.bind hS ?_
            simp (disch:=omega) only [o1,S]
            exact b3 r h
      · obtain ⟨b,b1,b2,b3⟩:=ih (i+1) (by omega) c (keep q1)
        refine ⟨b,b1,fun r h=>qdlz.v2 ?_,fun r h=>qejz.v2 ?_⟩
        · simp (disch:=omega) only [S]
          refine Ev.bind hI ?_
          simp (disch:=omega) only [o1,S]
          exact b2 r h
        · simp (disch:=omega) only [S]
          refine Ev.bind hS ?_
          simp (disch:=omega) only [o1,S]
          exact b3 r h
  · obtain ⟨b,b1,b2,b3⟩:=ih (i+1) (by omega) c ⟨c1,c2,fun j j1 j2 j3=>by
     rcases Nat.lt_or_ge j i with j4 | j4
     · exact c3 j j4 j2 j3
     · rw [show j=i by omega] at j3; exact absurd j3 hf⟩
    refine ⟨b,b1,fun r h=>qdlz.v2 ?_,fun r h=>qejz.v2 ?_⟩
    · simp (disch:=omega) only [S]
      exact b2 r h
    · simp (disch:=omega) only [S]
      exact Ev.bind hS (b3 r h)
theorem zsK (ho:out.length<=100):∀ (e i:Nat),i+e=l.length->(∀ j,j < i->j < l.length->¬ (l.getD a (0,0)).2 < (l.getD j (0,0)).2) ->
    (Ev (fun k=>qdlz.l2 k l (a:Int) (-1) 0 0 l (l.length:Int) (i:Int) out) out/\Ev (fun k=>qejz.l2 k l (a:Int) n d (round:Int) (-1) 0 1 l (l.length:Int) (i:Int) out) (out,true)) \/
    ∃ b,zqS l a b l.length /\
     (∀ r,Ev (fun k=>qdlz.l1 k l (b:Int) (out++[(b:Int)])) r->Ev (fun k=>qdlz.l2 k l (a:Int) (-1) 0 0 l (l.length:Int) (i:Int) out) r) /\
     (∀ r,Ev (fun k=>qejz.l1 k l (b:Int) (mt l a b).1 (mt l a b).2.1 (W ((round:Int)+1)) (out++[(b:Int)])) r->Ev (fun k=>qejz.l2 k l (a:Int) n d (round:Int) (-1) 0 1 l (l.length:Int) (i:Int) out) r):=by
 intro e
 induction e with
 | zero =>
  intro i hi hc
  refine .inl ⟨qdlz.v2 ?_,qejz.v2 ?_⟩ <;> simp (disch:=omega) only [S] <;> exact Ev.now _
 | succ e ih =>
  intro i hi hc
  have hil:i < l.length:=by omega
  have hwa:=hl _ (zaf (z:=(0,0)) ha)
  have hwi:=hl _ (zaf (z:=(0,0)) hil)
  have hS:Ev (fun k=>qhcz.f k (l.getD a (0,0)).1 (l.getD a (0,0)).2 (l.getD i (0,0)).1 (l.getD i (0,0)).2) (mt l a i):=zbZ hwa hwi
  have hI:Ev (fun k=>qdcz.f k (l.getD i (0,0)).1 (l.getD i (0,0)).2 (l.getD a (0,0)).1 (l.getD a (0,0)).2) (mt l a i):=by
   have:=zaw hwi hwa
   rwa [zmE] at this
  by_cases hf:(l.getD a (0,0)).2 < (l.getD i (0,0)).2
  · obtain ⟨o1,o2,o3,o4⟩:=ze5 h8 hl ha hn hd hA hil hf
    have m3:=mulb (a:=(mt l a i).1) (b:=d) (A:=2000) (B:=200) (by omega) (by omega) (by omega) (by omega)
    have m4:=mulb (a:=n) (b:=(mt l a i).2.1) (A:=2000) (B:=200) (by omega) (by omega) (by omega) (by omega)
    obtain ⟨b,b1,b2,b3⟩:=zuo h8 hl ha hn hd hA round out ho e (i+1) (by omega) i ⟨hil,hf,fun j j1 j2 j3=>by
     rcases Nat.lt_or_ge j i with j4 | j4
     · exact absurd j3 (hc j j4 j2)
     · rw [show j=i by omega]; exact Int.le_refl _⟩
    refine .inr ⟨b,b1,fun r h=>qdlz.v2 ?_,fun r h=>qejz.v2 ?_⟩
    · simp (disch:=omega) only [S]
      refine Ev.bind hI ?_
      simp (disch:=omega) only [o1,S]
      exact b2 r h
    · simp (disch:=omega) only [S]
      refine Ev.bind hS ?_
      simp (disch:=omega) only [o1,S]
      exact b3 r h
  · have hc':∀ j,j < i+1->j < l.length->¬ (l.getD a (0,0)).2 < (l.getD j (0,0)).2:=fun j j1 j2=>by
     rcases Nat.lt_or_ge j i with j4 | j4
     · exact hc j j4 j2
     · rw [show j=i by omega]; exact hf
    rcases ih (i+1) (by omega) hc' with ⟨r1,r2⟩ | ⟨b,b1,b2,b3⟩
    · refine .inl ⟨qdlz.v2 ?_,qejz.v2 ?_⟩
      · simp (disch:=omega) only [S]
        exact r1
      · simp (disch:=omega) only [S]
        exact Ev.bind hS r2
    · refine .inr ⟨b,b1,fun r h=>qdlz.v2 ?_,fun r h=>qejz.v2 ?_⟩
      · simp (disch:=omega) only [S]
        exact b2 r h
      · simp (disch:=omega) only [S]
        exact Ev.bind hS (b3 r h)
end
theorem zsa {l:List Wk} (h8:l.length<=8) (hl:∀ w∈l,wOk w=true):∀ (N a:Nat) (n d:Int) (round:Nat) (out:List Int),fast l (l.getD a (0,0)).2<=N->a < l.length->(0<=n/\n<=2000)->(0 < d/\d<=200)->zpn l (l.getD a (0,0)) n d->round+N < 2*l.length->out.length+N<=9->0 < out.length->(∀ x∈out,inR l.length x) ->
    ∃ R:List Int,Ev (fun k=>qdlz.l1 k l (a:Int) out) R/\Ev (fun k=>qejz.l1 k l (a:Int) n d (round:Int) out) (R,true)/\(0 < R.length/\R.length<=9) /\ ∀ x∈R,inR l.length x:=by
 intro N
 induction N with
 | zero =>
  intro a n d round out hf ha hn hd hA hr ho ho0 hx
  have none:∀ j,j < l.length->¬ (l.getD a (0,0)).2 < (l.getD j (0,0)).2:=fun j hj hlt=>by
   have:=zqR (zaf (z:=(0,0)) hj) hlt rfl
   omega
  rcases zsK h8 hl ha hn hd hA round out (by omega) l.length 0 (by omega) (fun j h=>absurd h (by omega)) with ⟨r1,r2⟩ | ⟨b,⟨b1,b2,_⟩,_⟩
  · refine ⟨out,qdlz.v1 ?_,qejz.v1 ?_,⟨ho0,by omega⟩,hx⟩
    · exact r1
    · simp (disch:=omega) only [S]; exact r2
  · exact absurd b2 (none b b1)
 | succ N ih =>
  intro a n d round out hf ha hn hd hA hr ho ho0 hx
  rcases zsK h8 hl ha hn hd hA round out (by omega) l.length 0 (by omega) (fun j h=>absurd h (by omega)) with ⟨r1,r2⟩ | ⟨b,⟨b1,b2,b3⟩,b4,b5⟩
  · refine ⟨out,qdlz.v1 ?_,qejz.v1 ?_,⟨ho0,by omega⟩,hx⟩
    · simp only [S]; exact r1
    · simp (disch:=omega) only [S]; exact r2
  · have hlt:=zqR (zaf (z:=(0,0)) b1) b2 rfl
    obtain ⟨o1,o2,o3,o4⟩:=ze5 h8 hl ha hn hd hA b1 b2
    have wr:W ((round:Int)+1)=((round+1:Nat):Int):=by rw [w64 (by omega) (by omega)]; omega
    have hA':zpn l (l.getD b (0,0)) (mt l a b).1 (mt l a b).2.1:=zqQ hl (zaf ha) (zaf b1) b2 hn.1 hd.1 hA (fun v hv hav=>by
     obtain ⟨j,hj,e⟩:=List.getElem_of_mem hv
     have ej:l.getD j (0,0)=v:=by rw [List.getD_eq_getElem?_getD,List.getElem?_eq_getElem hj]; exact e
     have:=b3 j hj hj (by rw [ej]; exact hav)
     rw [show mt l a j=meet (l.getD a (0,0)) v by rw [<- ej]] at this
     exact this)
    obtain ⟨R,r1,r2,r3⟩:=ih b (mt l a b).1 (mt l a b).2.1 (round+1) (out++[(b:Int)]) (by omega) b1 o4 o3 hA' (by omega) (by simp; omega) (by simp) (fun x h=>by
     rcases List.mem_append.1 h with h | h
     · exact hx x h
     · rw [List.mem_singleton.1 h]; exact ⟨b,rfl,b1⟩)
    rw [wr] at b5
    refine ⟨R,qdlz.v1 ?_,qejz.v1 ?_,r3⟩
    · simp only [S]; exact b4 R r1
    · simp (disch:=omega) only [S]; exact b5 (R,true) r2
theorem zj2 {l:List Wk} (hok:zam 8 wOk l=true):∃ L:List Int,Ev (fun k=>qeiz.f k l) (L,true)/\Ev (fun k=>qejz.f k l) (L,true)/\(0 < L.length/\L.length<=9) /\ ∀ n∈L,i64 n:=by
 obtain ⟨h1,h2⟩:=zak.1 hok
 obtain ⟨b,b1,b2,b3,b4⟩:=zpp h1.2 l.length 0 0 (by omega) (by omega) (fun j h=>absurd h (by omega))
 have hA:zpn l (l.getD b (0,0)) 0 1:=by
  intro v hv _
  obtain ⟨j,hj,e⟩:=List.getElem_of_mem hv
  have ej:l.getD j (0,0)=v:=by rw [List.getD_eq_getElem?_getD,List.getElem?_eq_getElem hj]; exact e
  have:=b2 j hj
  rw [ej] at this
  omega
 have hfl:=ztA l (l.getD b (0,0)).2
 obtain ⟨R,r1,r2,r3,r4⟩:=zsa h1.2 h2 l.length b 0 1 0 [(b:Int)] hfl b1 (by omega) (by omega) hA (by omega) (by simp; omega) (by simp) (fun x h=>by rw [List.mem_singleton.1 h]; exact ⟨b,rfl,b1⟩)
 refine ⟨R,qeiz.v (Ev.bind (zaz l) ?_),qejz.v (Ev.bind (zbc l) ?_),r3,fun x hx=>by
  obtain ⟨i,rfl,hi⟩:=r4 x hx
  unfold i64; omega⟩
 · simp only [hok,S]
   refine Ev.bind (qdlz.v ?_) (Ev.now _)
   simp only [S]
   exact b3 R r1
 · simp only [hok,S]
   exact b4 (R,true) r2
end Go.Proofs.YtdhkgmhdengnkaaGreatDoor.Li
