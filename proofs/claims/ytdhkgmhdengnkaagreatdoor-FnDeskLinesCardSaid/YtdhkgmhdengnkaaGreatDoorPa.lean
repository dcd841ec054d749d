/- A pure interpreter of the program, and its soundness (part 1 of 3). -/
import Derived.Orders
import Derived.Below
import Derived.Laws.OwnMore
import Derived.Laws.Entries
import Derived.Laws.StructEq
import Derived.Laws.Slices
import Derived.Lib.ConvBytes
import Derived.Laws.BytesArg
import Derived.Laws.BytesString
import Derived.Laws.Small
namespace Go.Proofs.YtdhkgmhdengnkaaGreatDoorPi
set_option linter.unusedVariables false
set_option linter.unusedSimpArgs false
open Go
inductive Ty where
 | int (k:IntKind) | bool | str | unit | pair (a b:Ty) | sl (e:TypeId) (t:Ty)
def Ty.den:Ty->Type
 | .int _=>Int
 | .bool=>Bool
 | .str=>ByteArray
 | .unit=>Unit
 | .pair a b=>a.den×b.den
 | .sl _ t=>List t.den
def Ty.dflt:(t:Ty)->t.den
 | .int _=>(0:Int)
 | .bool=>false
 | .str=>ByteArray.empty
 | .unit=>()
 | .pair a b=>(a.dflt,b.dflt)
 | .sl _ t=>([]:List t.den)
def kbeq:IntKind->IntKind->Bool
 | .i8,.i8 | .i16,.i16 | .i32,.i32 | .i64,.i64 | .u8,.u8 | .u16,.u16 | .u32,.u32 | .u64,.u64=>true
 | _,_=>false
def Ty.beq:Ty->Ty->Bool
 | .int k,.int k'=>kbeq k k'
 | .bool,.bool | .str,.str | .unit,.unit=>true
 | .pair a b,.pair a' b'=>a.beq a' && b.beq b'
 | .sl e t,.sl e' t'=>Nat.beq e e' && t.beq t'
 | _,_=>false
theorem zcR {a b:IntKind} (h:kbeq a b=true):a=b:=by cases a <;> cases b <;> first | rfl | (simp [kbeq] at h)
theorem Ty.beq_eq:∀ {a b:Ty},a.beq b=true->a=b
 | .int _,.int _,h=>by rw [zcR h]
 | .bool,.bool,_ | .str,.str,_ | .unit,.unit,_=>rfl
 | .pair a b,.pair a' b',h=>by
  simp only [Ty.beq,Bool.and_eq_true] at h
  rw [Ty.beq_eq h.1,Ty.beq_eq h.2]
 | .sl e t,.sl e' t',h=>by
  simp only [Ty.beq,Bool.and_eq_true] at h
  rw [Ty.beq_eq h.2,Nat.eq_of_beq_eq_true h.1]
def Ty.size:Ty->Nat
 | .int _ | .bool | .str | .sl _ _=>1
 | .unit=>0
 | .pair a b=>a.size+b.size
def zav:List Int->List Int
 | a::b::l=>if a=b then zav (b::l) else a::zav (b::l)
 | l=>l
def zgM (xs:List Int):List Int:=xs.mergeSort fun x y=>decide (x<=y)
section
variable {α:Type}
abbrev iadd (x y:Int):Int:=x+y
abbrev isub (x y:Int):Int:=x-y
abbrev imul (x y:Int):Int:=x*y
abbrev iquo (x y:Int):Int:=x.tdiv y
abbrev irem (x y:Int):Int:=x.tmod y
abbrev ishr (x y:Int):Int:=x.fdiv (2 ^ y.toNat)
abbrev iand (k:IntKind) (x y:Int):Int:=Go.bits .and k x y
abbrev ieq (x y:Int):Bool:=x == y
abbrev ine (x y:Int):Bool:=x != y
abbrev ilt (x y:Int):Bool:=decide (x < y)
abbrev ile (x y:Int):Bool:=decide (x<=y)
abbrev igt (x y:Int):Bool:=decide (x > y)
abbrev ige (x y:Int):Bool:=decide (x >= y)
abbrev beq2 (x y:Bool):Bool:=x == y
abbrev bne2 (x y:Bool):Bool:=!(x == y)
abbrev bnot (x:Bool):Bool:=!x
abbrev band (x y:Bool):Bool:=x && y
abbrev bor (x y:Bool):Bool:=x || y
abbrev br (b:Bool) (x y:α):α:=if b=true then x else y
abbrev dlen (xs:List α):Int:=(xs.length:Int)
abbrev ztP (xs:List α):Nat:=xs.length
abbrev zio (n:Nat) (xs:List α):List α:=xs.take n
abbrev zlu (n:Nat) (xs:List α):List α:=xs.drop n
abbrev dset (xs:List α) (i:Nat) (x:α):List α:=xs.set i x
abbrev dapp (xs ys:List α):List α:=xs++ys
abbrev ztQ (xs:List Int):List Int:=zgM xs
abbrev ztR (xs:List Int):List Int:=zav xs
abbrev drep (n:Nat) (x:α):List α:=List.replicate n x
abbrev slen (s:ByteArray):Int:=(s.size:Int)
abbrev sapp (s t:ByteArray):ByteArray:=s++t
abbrev sext (s:ByteArray) (l h:Nat):ByteArray:=s.extract l h
abbrev itn (i:Int):Nat:=i.toNat
abbrev n2i (n:Nat):Int:=(n:Int)
abbrev nadd (a b:Nat):Nat:=a+b
abbrev nsub (a b:Nat):Nat:=a-b
end
inductive Cel where
 | int (k:IntKind) (n:Int)
 | bool (b:Bool)
 | str (s:ByteArray)
 | nilsl
 | sl (e:TypeId) (t:Ty) (xs:List t.den)
 | full (id:Nat)
 | pre (id:Nat) (len:Nat)
 | sub (id:Nat) (off len:Nat)
 | ptr (id off:Nat)
 | iptr (id:Nat) (i:Int) (off:Nat)
 | rptr (cs:List Cel) (off:Nat)
 | nilp
 | fn (f:FuncId) (caps:List Cel)
 | frow (e:TypeId) (t:Ty) (xs:List t.den)
 | junk
 deriving Inhabited
inductive SV where
 | one (c:Cel)
 | agg (cs:List Cel)
 deriving Inhabited
def SV.cells:SV->List Cel
 | .one c=>[c]
 | .agg cs=>cs
inductive AV where
 | sv (s:SV)
 | tup (vs:List SV)
 | junk
 deriving Inhabited
inductive RMode where
 | own
 | come
 | lent
 | frozen
inductive Cont where
 | box (e:TypeId) (cs:List Cel)
 | row (e:TypeId) (t:Ty) (xs:List t.den) (m:RMode)
structure St where
 env:List (Nat×AV)
 mu:List (Nat×Cont)
 dead:List Nat
def zaa {α:Type}:List (Nat×α)->Nat->Option α
 | [],_=>none
 | (k,v)::r,i=>bif Nat.beq k i then some v else zaa r i
def adel {α:Type}:List (Nat×α)->Nat->List (Nat×α)
 | [],_=>[]
 | (k,v)::r,i=>bif Nat.beq k i then adel r i else (k,v)::adel r i
def Ty.emb:(t:Ty)->t.den->List Cel
 | .int k,n=>[.int k n]
 | .bool,b=>[.bool b]
 | .str,s=>[.str s]
 | .unit,_=>[]
 | .pair a b,x=>a.emb x.1++b.emb x.2
 | .sl e t,xs=>[.sl e t xs]
def zgb {t t':Ty} (h:t.beq t'=true) (xs:List t.den):List t'.den:=cast (by rw [Ty.beq_eq h]) xs
def Ty.dec:(t:Ty)->List Cel->Option (t.den×List Cel)
 | .int k,.int k' n::r=>bif kbeq k k' then some (n,r) else none
 | .bool,.bool b::r=>some (b,r)
 | .str,.str s::r=>some (s,r)
 | .unit,r=>some ((),r)
 | .pair a b,cs=>match a.dec cs with
  | some (x,r)=>match b.dec r with
   | some (y,r')=>some ((x,y),r')
   | none=>none
  | none=>none
 | .sl _ _,.nilsl::r=>some (([]:List _),r)
 | .sl e t,.sl e' t' xs::r=>if h:t'.beq t=true then bif Nat.beq e e' then some (zgb h xs,r) else none else none
 | _,_=>none
def Ty.decAll (t:Ty) (cs:List Cel):Option t.den :=
 match t.dec cs with
 | some (x,[])=>some x
 | _=>none
def rd {α:Type} (d:α) (xs:List α) (i:Int):α:=xs.getD i.toNat d
structure TI where
 agg:Bool
 size:Nat
 bytes:Nat
 fields:List (Nat×Nat×Bool)
 elem:Option TypeId
 zero:List Cel
 ty:Option Ty
 cty:List (Option (TypeId×Ty))
 eq:Bool
inductive RC where
 | dat (t:Ty)
 | row (e:TypeId) (t:Ty)
def RC.den:RC->Type
 | .dat t=>t.den
 | .row _ t=>List t.den
inductive RV where
 | one (c:RC)
 | agg (cs:List RC)
def zho:List RC->Type
 | []=>Unit
 | [a]=>a.den
 | a::b::r=>a.den×zho (b::r)
def RV.den:RV->Type
 | .one c=>c.den
 | .agg cs=>zho cs
def zgc:List RV->Type
 | []=>Unit
 | [a]=>a.den
 | a::b::r=>a.den×zgc (b::r)
inductive Par where
 | val
 | box (e:TypeId) (cs:List RC)
 | mix (agg:Bool) (cs:List (Option (TypeId×Ty)))
structure Sig where
 pars:List Par
 tup:Bool
 res:List RV
def zgd:List (Option (TypeId×Ty))->List RV
 | []=>[]
 | none::r=>zgd r
 | some (e,t)::r=>.one (.row e t)::zgd r
def zjR:List Par->List RV
 | []=>[]
 | .val::r=>zjR r
 | .box _ cs::r=>.agg cs::zjR r
 | .mix _ cs::r=>zgd cs++zjR r
def Sig.outs (s:Sig):List RV:=s.res++zjR s.pars
def Sig.den (s:Sig):Type:=zgc s.outs
structure Keep where
 ins:List Nat
 slots:List (Nat×Nat)
 boxes:List (Nat×Nat×Nat)
 plain:List (Nat×Nat)
 plainB:List (Nat×Nat×Nat)
 weak:List (Nat×Nat)
 flat:List Nat
inductive zoF where
 | del (e:TypeId) (sz:Nat) | sort (e:TypeId) | compact (e:TypeId) | grow (e:TypeId)
structure Ctx where
 T:TypeId->Option TI
 fns:FuncId->Option Func
 sig:FuncId->Sig
 prim:(f:FuncId)->Option (List AV->Option (sig f).den)
 hint:FuncId->Nat->Option Keep
 own:FuncId->Nat->Bool
 del:FuncId->Option zoF
def zh6:Value->Option Cel
 | .int k n=>some (.int k n)
 | .bool b=>some (.bool b)
 | .string s=>some (.str s)
 | .slice none 0 0=>some .nilsl
 | .pointer none=>some .nilp
 | _=>none
def zeJ:List Value->Option (List Cel)
 | []=>some []
 | v::r=>match zh6 v with
  | some c=>match zeJ r with
   | some cs=>some (c::cs)
   | none=>none
  | none=>none
def zmP:Value->Option AV
 | .agg cs=>match zeJ cs.toList with
  | some l=>some (.sv (.agg l))
  | none=>none
 | .tuple us=>(match us.toList with
  | []=>some (.tup [])
  | _=>none)
 | v=>match zh6 v with
  | some c=>some (.sv (.one c))
  | none=>none
def opnd (env:List (Nat×AV)):Operand->Option AV
 | .tmp t=>zaa env t
 | .const v=>zmP v
 | .func f=>some (.sv (.one (.fn f [])))
 | .global _=>none
def zeK (env:List (Nat×AV)):List Operand->Option (List AV)
 | []=>some []
 | x::r=>match opnd env x with
  | some v=>match zeK env r with
   | some vs=>some (v::vs)
   | none=>none
  | none=>none
abbrev Look:=Nat->Option Cont
def snap (mu:Look):Cel->Option Cel
 | .full id=>match mu id with
  | some (.row e t xs _)=>some (.sl e t xs)
  | _=>none
 | .pre id n=>match mu id with
  | some (.row e t xs _)=>some (.sl e t (zio n xs))
  | _=>none
 | .sub id o n=>match mu id with
  | some (.row e t xs _)=>some (.sl e t (zio n (zlu o xs)))
  | _=>none
 | .int k n=>some (.int k n)
 | .bool b=>some (.bool b)
 | .str s=>some (.str s)
 | .nilsl=>some .nilsl
 | .sl e t xs=>some (.sl e t xs)
 | _=>none
def zkH (mu:Look):List Cel->Option (List Cel)
 | []=>some []
 | c::r=>match snap mu c with
  | some c'=>match zkH mu r with
   | some r'=>some (c' :: r')
   | none=>none
  | none=>none
def zbN (g:Cel->Option Cel):List Cel->Option (List Cel)
 | []=>some []
 | c::r=>match g c with
  | some c'=>match zbN g r with
   | some r'=>some (c' :: r')
   | none=>none
  | none=>none
mutual
def zdV:Cel->Bool
 | .full _ | .pre _ _ | .sub _ _ _ | .ptr _ _ | .iptr _ _ _=>false
 | .fn _ caps=>zdE caps
 | .rptr cs _=>zdE cs
 | _=>true
def zdE:List Cel->Bool
 | []=>true
 | c::cs=>zdV c && zdE cs
end
def zbV (mu:Look):Nat->Cel->Option Cel
 | 0,_=>none
 | n+1,.ptr id off=>match mu id with
  | some (.box _ cs)=>match zbN (zbV mu n) cs with
   | some l=>some (.rptr l off)
   | none=>none
  | _=>none
 | _+1,.iptr id i off=>match mu id with
  | some (.row _ t xs _)=>some (.rptr (t.emb (rd t.dflt xs i)) off)
  | _=>none
 | _+1,.rptr cs off=>bif zdE cs then some (.rptr cs off) else none
 | n+1,.fn f caps=>match zbN (zbV mu n) caps with
  | some l=>some (.fn f l)
  | none=>none
 | _+1,.nilp=>some .nilp
 | _+1,c=>snap mu c
def zca:List (Option (TypeId×Ty))->List Cel->List Cel
 | some (e,t)::r,.nilsl::cs=>.sl e t []::zca r cs
 | _::r,c::cs=>c::zca r cs
 | [],cs=>cs
 | _,[]=>[]
structure zbl where
 val:AV
 add:List (Nat×Cont)
 edit:List (Nat×Option Cont)
def W (n:Int):Int:=match n with
 | .ofNat m=>bif Nat.ble m 9223372036854775807 then n else RowKit.wrap64 n
 | .negSucc m=>bif Nat.ble m 9223372036854775807 then n else RowKit.wrap64 n
theorem zlv {α:Type} {b:Bool} {x y:α} (h:b=true->x=y):(bif b then x else y)=y:=by
 cases b with
 | false=>rfl
 | true=>exact h rfl
theorem W_eq:∀ n:Int,W n=RowKit.wrap64 n
 | .ofNat m=>zlv fun h=>by
  have h1:m<=9223372036854775807:=Nat.le_of_ble_eq_true h
  generalize hn:(Int.ofNat m)=n
  have h2:n=(m:Int):=hn.symm
  unfold RowKit.wrap64
  omega
 | .negSucc m=>zlv fun h=>by
  have h1:m<=9223372036854775807:=Nat.le_of_ble_eq_true h
  generalize hn:(Int.negSucc m)=n
  have h2:n = -((m:Int)+1):=by rw [<- hn]; exact Int.negSucc_eq m
  unfold RowKit.wrap64
  omega
def wr (k:IntKind) (n:Int):Int :=
 match k with
 | .i64=>W n
 | k=>k.wrap n
def mx (x y:Int):Int:=if y > x then y else x
def mn (x y:Int):Int:=if y < x then y else x
def bat (s:ByteArray) (i:Int):Int:=((s.data.toList.getD i.toNat 0).toNat:Int)
def seq (x y:ByteArray):Bool:=x.toList == y.toList
def slt (x y:ByteArray):Bool:=Op.bytesLess x.toList y.toList
def bytesOf (xs:List Int):ByteArray:=⟨(xs.map fun n=>UInt8.ofNat n.toNat).toArray⟩
def room:Nat:=140737488355328
def is64:IntKind->Bool
 | .i64 | .u64=>true
 | _=>false
def isTy (t:Option TI) (τ:Ty):Bool:=match t with
 | some ti=>(match ti.ty with | some τ'=>τ'.beq τ | none=>false)
 | none=>false
def zge (cs:List Cel) (off:Nat) (new:List Cel):List Cel:=cs.take off++new++cs.drop (off+new.length)
section
variable {R:Type} (C:Ctx)
def one (c:Cel):zbl:=⟨.sv (.one c),[],[]⟩
def zj6 (op:BinOp) (k:IntKind) (x y:Int) (K:Cel->Option R):Option R :=
 match op with
 | .add=>K (.int k (wr k (iadd x y)))
 | .sub=>K (.int k (wr k (isub x y)))
 | .mul=>K (.int k (wr k (imul x y)))
 | .quo=>if y=0 then none else K (.int k (wr k (iquo x y)))
 | .rem=>if y=0 then none else K (.int k (irem x y))
 | .eql=>K (.bool (ieq x y))
 | .neq=>K (.bool (ine x y))
 | .lss=>K (.bool (ilt x y))
 | .leq=>K (.bool (ile x y))
 | .gtr=>K (.bool (igt x y))
 | .geq=>K (.bool (ige x y))
 | .and=>K (.int k (iand k x y))
 | _=>none
def zj7 (op:BinOp) (x y:ByteArray) (K:Cel->Option R):Option R :=
 match op with
 | .add=>if x.size+y.size<=maxLen then K (.str (sapp x y)) else none
 | .eql=>K (.bool (seq x y))
 | .neq=>K (.bool (bnot (seq x y)))
 | .lss=>K (.bool (slt x y))
 | .gtr=>K (.bool (bnot (bor (slt x y) (seq x y))))
 | .leq=>K (.bool (bor (slt x y) (seq x y)))
 | .geq=>K (.bool (bnot (slt x y)))
 | _=>none
def ziq:List Cel->List Cel->Option Bool
 | [.int k a],[.int k' b]=>bif kbeq k k' then some (ieq a b) else none
 | .int k a::c::r,.int k' b::c' :: r'=>bif kbeq k k' then (match ziq (c::r) (c' :: r') with
  | some t=>some (band (ieq a b) t)
  | none=>none) else none
 | _,_=>none
def tiEq (n:Nat):Option TI->Bool
 | some ti=>ti.eq && Nat.beq n ti.size
 | none=>false
def zeL (op:BinOp) (ti:Option TI) (x y:AV) (K:Cel->Option R):Option R :=
 match x,y with
 | .sv (.one (.int k a)),.sv (.one (.int k' b))=>(match op with
  | .shr=>bif is64 k then (if 0<=b then (if b < 64 then K (.int k (ishr a b)) else none) else none) else none
  | op=>bif kbeq k k' then zj6 op k a b K else none)
 | .sv (.one (.str a)),.sv (.one (.str b))=>zj7 op a b K
 | .sv (.one (.bool a)),.sv (.one (.bool b))=>bif isTy ti .bool then (match op with
  | .eql=>K (.bool (beq2 a b))
  | .neq=>K (.bool (bne2 a b))
  | _=>none) else none
 | .sv (.agg xs),.sv (.agg ys)=>bif tiEq xs.length ti then (match ziq xs ys with
  | some t=>(match op with
   | .eql=>K (.bool t)
   | .neq=>K (.bool (bnot t))
   | _=>none)
  | none=>none) else none
 | _,_=>none
def zmQ (c:Bool):AV->AV->Option Cel
 | .sv (.one (.int k x)),.sv (.one (.int k' y))=>bif kbeq k k' then some (.int k (br c x y)) else none
 | .sv (.one (.bool x)),.sv (.one (.bool y))=>some (.bool (br c x y))
 | .sv (.one (.str x)),.sv (.one (.str y))=>some (.str (br c x y))
 | _,_=>none
def zlw (mu:Look):Cel->Option (List Cel×Nat)
 | .ptr id off=>match mu id with
  | some (.box _ cs)=>some (cs,off)
  | _=>none
 | .iptr id i off=>match mu id with
  | some (.row _ t xs _)=>some (t.emb (rd t.dflt xs i),off)
  | _=>none
 | .rptr cs off=>some (cs,off)
 | _=>none
def znR (ti:TI) (cs:List Cel) (off:Nat):Option SV :=
 bif ti.agg then (bif Nat.ble (off+ti.size) cs.length then some (.agg ((cs.drop off).take ti.size)) else none)
 else match cs.drop off with
  | c::_=>some (.one c)
  | []=>none
def zbr (mu:Look):Nat->Cel->List Nat
 | 0,_=>[]
 | _+1,.full id=>[id]
 | _+1,.pre id _=>[id]
 | _+1,.sub id _ _=>[id]
 | _+1,.iptr id _ _=>[id]
 | n+1,.ptr id _=>match mu id with
  | some (.box _ cs)=>cs.flatMap (zbr mu n)
  | _=>[]
 | n+1,.fn _ caps=>caps.flatMap (zbr mu n)
 | _+1,_=>[]
def freeze (mu:Look):List Nat->Option (List (Nat×Option Cont))
 | []=>some []
 | id::r=>match mu id with
  | some (.row e t xs .own)=>(match freeze mu r with
   | some l=>some ((id,some (.row e t xs .frozen))::l)
   | none=>none)
  | some (.row _ _ _ .frozen)=>freeze mu r
  | _=>none
def zjS (mu:Look):AV->List Nat
 | .sv v=>v.cells.flatMap (zbr mu 6)
 | .tup vs=>vs.flatMap fun v=>v.cells.flatMap (zbr mu 6)
 | .junk=>[]
def zeh (mu:Look) (ti:TI) (p:Cel) (v:SV):Option (List (Nat×Option Cont)) :=
 bif Nat.beq v.cells.length ti.size then
  match p with
  | .ptr id off=>match mu id with
   | some (.box e cs)=>bif Nat.ble (off+ti.size) cs.length then some [(id,some (.box e (zge cs off v.cells)))] else none
   | _=>none
  | .iptr id i off=>match mu id with
   | some (.row e t xs m)=>(match m with
    | .frozen=>none
    | m=>bif (v.cells.flatMap (zbr mu 6)).any (Nat.beq id) then none else match zkH mu v.cells,freeze mu (v.cells.flatMap (zbr mu 6)) with
     | some cs,some fz=>bif Nat.ble (off+ti.size) t.size then
         (match t.decAll (zge (t.emb (rd t.dflt xs i)) off cs) with
          | some x=>some (fz++[(id,some (.row e t (dset xs (itn i) x) m))])
          | none=>none)
      else none
     | _,_=>none)
   | _=>none
  | _=>none
 else none
def zj8 (ti:TI) (e:TypeId):Bool:=match ti.elem with
 | some e0=>Nat.beq e0 e
 | none=>false
def zco:RMode->Bool
 | .own | .come=>true
 | _=>false
def zir (mu:Look) (ti:TI):Cel->Option ((e:TypeId)×(t:Ty)×List t.den×RMode×List (Nat×Option Cont))
 | .nilsl=>match ti.elem,ti.ty with
  | some e,some (.sl _ t)=>some ⟨e,t,[],.own,[]⟩
  | _,_=>none
 | .full id=>match mu id with
  | some (.row e t xs m)=>bif zco m && zj8 ti e then some ⟨e,t,xs,m,[(id,none)]⟩ else none
  | _=>none
 | .pre id n=>match mu id with
  | some (.row e t xs m)=>bif zco m && zj8 ti e then some ⟨e,t,zio n xs,m,[(id,none)]⟩ else none
  | _=>none
 | _=>none
def zgf (mu:Look) (t:Ty) (c:Cel):Option (List t.den) :=
 match snap mu c with
 | some .nilsl=>some []
 | some (.sl _ t' xs)=>if h:t'.beq t=true then some (zgb h xs) else none
 | _=>none
def lenOf (mu:Look):Cel->Option Int
 | .nilsl=>some 0
 | .str s=>some (slen s)
 | .sl _ _ xs=>some (dlen xs)
 | .full id=>match mu id with
  | some (.row _ _ xs _)=>some (dlen xs)
  | _=>none
 | .pre _ n=>some (n2i n)
 | .sub _ _ n=>some (n2i n)
 | _=>none
def zcp (c:Cel) (lo hi:Option Int) (l h:Int) (K:Cel->Option R):Option R :=
 match c with
 | .nilsl=>K .nilsl
 | .str s=>K (.str (sext s (itn l) (itn h)))
 | .sl e t xs=>(match lo,hi with
  | none,none=>K (.sl e t xs)
  | none,some _=>K (.sl e t (zio (itn h) xs))
  | some _,none=>K (.sl e t (zlu (itn l) xs))
  | some _,some _=>K (.sl e t (zlu (itn l) (zio (itn h) xs))))
 | .full id=>(match lo,hi with
  | none,none=>K (.full id)
  | none,some _=>K (.pre id (itn h))
  | some _,_=>K (.sub id (itn l) (nsub (itn h) (itn l))))
 | .pre id _=>(match lo with
  | none=>K (.pre id (itn h))
  | some _=>K (.sub id (itn l) (nsub (itn h) (itn l))))
 | .sub id o _=>K (.sub id (nadd o (itn l)) (nsub (itn h) (itn l)))
 | _=>none
def zbF (mu:Look) (c:Cel) (lo hi:Option Int) (K:Cel->Option R):Option R :=
 match lenOf mu c with
 | none=>none
 | some n=>match lo,hi with
  | none,none=>zcp c none none 0 n K
  | none,some h=>if 0<=h then (if h<=n then zcp c none (some h) 0 h K else none) else none
  | some l,none=>if 0<=l then (if l<=n then zcp c (some l) none l n K else none) else none
  | some l,some h=>if 0<=l then (if l<=h then (if h<=n then zcp c (some l) (some h) l h K else none) else none) else none
def zcJ (fields:List (Nat×Nat×Bool)) (cs:List Cel):List (Nat×AV)->Option (List Cel)
 | []=>some cs
 | (i,.sv v)::r=>match fields[i]? with
  | some (off,size,_)=>bif Nat.beq v.cells.length size then (bif Nat.ble (off+size) cs.length then zcJ fields (zge cs off v.cells) r else none) else none
  | none=>none
 | _=>none
def zb4 (mu:Look) (t:Ty):Nat->List (Nat×AV)->Option (List t.den)
 | _,[]=>some []
 | i,(j,.sv v)::r=>bif Nat.beq i j then (match zkH mu v.cells with
  | some cs=>(match t.decAll cs with
   | some x=>(match zb4 mu t (i+1) r with
    | some l=>some (x::l)
    | none=>none)
   | none=>none)
  | none=>none) else none
 | _,_=>none
def zbT (mu:Look):Cel->Option Nat
 | .sl _ t _=>some t.size
 | .full id=>match mu id with
  | some (.row _ t _ _)=>some t.size
  | _=>none
 | .pre id _=>match mu id with
  | some (.row _ t _ _)=>some t.size
  | _=>none
 | .sub id _ _=>match mu id with
  | some (.row _ t _ _)=>some t.size
  | _=>none
 | _=>none
def zj9 (C:Ctx) (ti:TI) (n:Option Nat):Bool:=match ti.elem,n with
 | some e,some n=>(match C.T e with | some tie=>Nat.beq tie.size n | none=>false)
 | _,_=>false
def zcq (C:Ctx) (mu:Look) (t:Option TI) (c:Cel):Bool:=match t,c with
 | some ti,.str _=>isTy (some ti) .str
 | some ti,.nilsl=>ti.elem.isSome
 | some ti,c=>zj9 C ti (zbT mu c)
 | none,_=>false
def zgg:List Nat->Bool
 | []=>true
 | a::r=>!(r.any (Nat.beq a)) && zgg r
def Ty.hasSl:Ty->Bool
 | .sl _ _=>true
 | .pair a b=>a.hasSl || b.hasSl
 | _=>false
def RC.hasSl:RC->Bool
 | .dat t=>t.hasSl
 | .row _ t=>t.hasSl
def RV.hasSl:RV->Bool
 | .one c=>c.hasSl
 | .agg cs=>cs.any RC.hasSl
def zbf (mu:Look):List RC->List Cel->Option (List Cel×List Nat×List Nat)
 | [],[]=>some ([],[],[])
 | .dat t::r,c::cs=>match snap mu c with
  | some c'=>match t.decAll [c'] with
   | some x=>match zbf mu r cs with
    | some (l,fz,gv)=>some (t.emb x++l,zbr mu 6 c++fz,gv)
    | none=>none
   | none=>none
  | none=>none
 | .row e t::r,c::cs =>
  match c with
  | .nilsl=>(match zbf mu r cs with
   | some (l,fz,gv)=>some (.frow e t []::l,fz,gv)
   | none=>none)
  | .full id=>(match mu id with
   | some (.row e' t' xs m)=>if h:t'.beq t=true then (bif Nat.beq e e' && zco m then
       (match zbf mu r cs with
        | some (l,fz,gv)=>some (.frow e t (zgb h xs)::l,fz,id::gv)
        | none=>none) else none) else none
   | _=>none)
  | _=>none
 | _,_=>none
def zaA (mu:Look):Nat->Cel->List Nat
 | 0,_=>[]
 | _+1,.full id=>[id]
 | _+1,.pre id _=>[id]
 | _+1,.sub id _ _=>[id]
 | _+1,.iptr id _ _=>[id]
 | n+1,.ptr id _=>id::match mu id with
  | some (.box _ cs)=>cs.flatMap (zaA mu n)
  | _=>[]
 | n+1,.fn _ caps=>caps.flatMap (zaA mu n)
 | _+1,_=>[]
def zbm (mu:Look):AV->List Nat
 | .sv v=>v.cells.flatMap (zaA mu 8)
 | .tup vs=>vs.flatMap fun v=>v.cells.flatMap (zaA mu 8)
 | .junk=>[]
def zcn (mu:Look):List (Option (TypeId×Ty))->List Cel->List Nat
 | none::r,c::cs=>zbr mu 6 c++zcn mu r cs
 | some _::r,_::cs=>zcn mu r cs
 | _,_=>[]
def zbI (mu:Look):List (Option (TypeId×Ty))->List Cel->Option (List Cel)
 | [],[]=>some []
 | none::r,c::cs=>match zbV mu 6 c,zbI mu r cs with
  | some c',some l=>some (c' :: l)
  | _,_=>none
 | some (e,t)::r,.full id::cs=>match mu id,zbI mu r cs with
  | some (.row e' t' xs m),some l=>(match m with
   | .frozen=>none
   | _=>if h:t'.beq t=true then (bif Nat.beq e e' then some (.frow e t (zgb h xs)::l) else none) else none)
  | _,_=>none
 | some (e,t)::r,.nilsl::cs=>match zbI mu r cs with
  | some l=>some (.frow e t []::l)
  | none=>none
 | _,_=>none
def zcx (mu:Look):List (Option (TypeId×Ty))->List Cel->List Nat
 | none::r,c::cs=>zaA mu 8 c++zcx mu r cs
 | some _::r,_::cs=>zcx mu r cs
 | _,_=>[]
def zsN:List TypeId->List (Option (TypeId×Ty))
 | []=>[]
 | ty::_=>match C.T ty with
  | some ti=>ti.cty
  | none=>[]
def zal (mu:Look):List Par->List TypeId->List AV->Option (List AV×List Nat×List Nat×List Nat)
 | [],_,[]=>some ([],[],[],[])
 | .val::ps,tys,.sv v::vs =>
  let r:Option SV:=match v with
   | .one c=>(match zbV mu 6 c with
    | some c'=>(match zca (zsN C tys) [c'] with
        | [c'']=>some (.one c'')
        | _=>none)
    | none=>none)
   | .agg cs=>(match zbN (zbV mu 6) cs with
    | some l=>some (.agg (zca (zsN C tys) l))
    | none=>none)
  match r with
  | none=>none
  | some v'=>match zal mu ps tys.tail vs with
   | some (l,fz,gv,ids)=>some (.sv v' :: l,fz,gv,v.cells.flatMap (zbr mu 6)++ids)
   | none=>none
 | .box e rcs::ps,_::tys,.sv (.one (.ptr id 0))::vs=>match mu id with
  | some (.box e' cs)=>bif Nat.beq e e' then (match zbf mu rcs cs with
   | some (l,fz,gv)=>match zal mu ps tys vs with
    | some (l',fz',gv',ids)=>some (.sv (.agg l)::l',fz++fz',gv++gv',ids)
    | none=>none
   | none=>none) else none
  | _=>none
 | .mix agg pcs::ps,ty::tys,.sv v::vs=>match zbI mu pcs v.cells with
  | some l=>(match C.T ty,zal mu ps tys vs with
   | some ti,some (l',fz,gv,ids) =>
    let l:=zca ti.cty l
    (match agg,v,l with
    | true,.agg _,l=>some (.sv (.agg l)::l',fz,gv,zcn mu pcs v.cells++ids)
    | false,.one _,[c]=>some (.sv (.one c)::l',fz,gv,zcn mu pcs v.cells++ids)
    | _,_,_=>none)
   | _,_=>none)
  | none=>none
 | _,_,_=>none
def zcb:List Par->List AV->List Nat
 | .box _ _::ps,.sv (.one (.ptr id _))::vs=>id::zcb ps vs
 | _::ps,_::vs=>zcb ps vs
 | _,_=>[]
def zcS:List (Option (TypeId×Ty))->List Cel->List Nat
 | some _::r,.full id::cs=>id::zcS r cs
 | _::r,_::cs=>zcS r cs
 | _,_=>[]
def zbD:List Par->List AV->List Nat
 | .mix _ pcs::ps,.sv v::vs=>zcS pcs v.cells++zbD ps vs
 | _::ps,_::vs=>zbD ps vs
 | _,_=>[]
def zbE (mu:Look):List Par->List AV->List Nat
 | .val::ps,v::vs=>zbm mu v++zbE mu ps vs
 | .mix _ pcs::ps,.sv v::vs=>zcx mu pcs v.cells++zbE mu ps vs
 | _::ps,_::vs=>zbE mu ps vs
 | _,_=>[]
def apart (mu:Look) (ps:List Par) (vs:List AV) (fz gv:List Nat):Bool :=
 zgg (zcb ps vs++gv++zbD ps vs) && !((zcb ps vs++gv++zbD ps vs).any fun x=>(fz++zbE mu ps vs).any (Nat.beq x))
def zis (g:Sig) (fz ids:List Nat):List Nat:=bif g.outs.any RV.hasSl then fz++ids else fz
def zfJ (gv:List Nat):List (Nat×Option Cont):=gv.map fun id=>(id,none)
def zbW (own:Option RMode) (id:Nat):(c:RC)->c.den->Cel×List (Nat×Cont)
 | .dat t,x=>((t.emb x).headD .junk,[])
 | .row e t,xs=>match own with
  | some m=>(.full id,[(id,.row e t xs m)])
  | none=>(.sl e t xs,[])
def zdr (own:Option RMode):Nat->(cs:List RC)->zho cs->List Cel×List (Nat×Cont)
 | _,[],_=>([],[])
 | id,[a],x=>([(zbW own id a x).1],(zbW own id a x).2)
 | id,a::b::r,x=>((zbW own id a x.1).1::(zdr own (id+1) (b::r) x.2).1,(zbW own id a x.1).2++(zdr own (id+1) (b::r) x.2).2)
def zgh (own:Option RMode) (id:Nat):(v:RV)->v.den->SV×List (Nat×Cont)
 | .one c,x=>(.one (zbW own id c x).1,(zbW own id c x).2)
 | .agg cs,x=>(.agg (zdr own id cs x).1,(zdr own id cs x).2)
def zaQ:List (Option RMode)->Nat->(vs:List RV)->zgc vs->List SV×List (Nat×Cont)
 | _,_,[],_=>([],[])
 | o::_,id,[a],x=>([(zgh o id a x).1],(zgh o id a x).2)
 | o::os,id,a::b::r,x=>((zgh o id a x.1).1::(zaQ os (id+20) (b::r) x.2).1,(zgh o id a x.1).2++(zaQ os (id+20) (b::r) x.2).2)
 | [],_,_,_=>([],[])
def zdW:List Par->List (Option RMode)
 | []=>[]
 | .val::r=>zdW r
 | .box _ _::r=>some .come::zdW r
 | .mix _ cs::r=>(zgd cs).map (fun _=>none)++zdW r
def zaY (mu:Look):List (Option (TypeId×Ty))->List Cel->List SV->List (Nat×Option Cont)×List SV
 | none::r,_::cs,out=>zaY mu r cs out
 | some _::r,.full id::cs,.one (.sl e t xs)::out =>
  (match mu id with
  | some (.row _ _ _ m)=>((id,some (.row e t xs m))::(zaY mu r cs out).1,(zaY mu r cs out).2)
  | _=>zaY mu r cs out)
 | some _::r,.nilsl::cs,_::out=>zaY mu r cs out
 | _,_,out=>([],out)
def za8 (mu:Look):List Par->List AV->List SV->List (Nat×Option Cont)
 | .val::ps,_::vs,out=>za8 mu ps vs out
 | .box e _::ps,.sv (.one (.ptr id _))::vs,.agg cs::out=>(id,some (.box e cs))::za8 mu ps vs out
 | .mix _ pcs::ps,.sv v::vs,out=>(zaY mu pcs v.cells out).1++za8 mu ps vs (zaY mu pcs v.cells out).2
 | _,_,_=>[]
def zsO:List SV->AV
 | [v]=>.sv v
 | vs=>.tup vs
def zh7 (f:FuncId) (site:Nat) (g:FuncId):List (Option RMode):=(C.sig g).res.map (fun _=>bif C.own f site then some .own else none)++zdW (C.sig g).pars
def zeM (f:FuncId) (site:Nat) (g:FuncId) (mu:Look) (args:List AV) (ed:List (Nat×Option Cont)) (x:(C.sig g).den):zbl :=
 ⟨zsO ((zaQ (zh7 C f site g) (site*1000) (C.sig g).outs x).1.take (C.sig g).res.length),
  (zaQ (zh7 C f site g) (site*1000) (C.sig g).outs x).2,
  ed++za8 mu (C.sig g).pars args ((zaQ (zh7 C f site g) (site*1000) (C.sig g).outs x).1.drop (C.sig g).res.length)⟩
def inId (j:Nat):Nat:=9000000000000000+j*1000
def isIn (id:Nat):Bool:=Nat.ble 9000000000000000 id && Nat.blt id 9000001000000000
def zaM (j:Nat) (m:RMode):Nat->List Cel->List Cel×List (Nat×Cont)
 | _,[]=>([],[])
 | i,.frow e t xs::r=>(.full (inId j+1+i)::(zaM j m (i+1) r).1,(inId j+1+i,.row e t xs m)::(zaM j m (i+1) r).2)
 | i,c::r=>(c::(zaM j m (i+1) r).1,(zaM j m (i+1) r).2)
def zcc:Nat->List Par->List AV->Option St
 | _,[],[]=>some ⟨[],[],[]⟩
 | j,.val::ps,v::vs=>match zcc (j+1) ps vs with
  | some s=>some ⟨(j,v)::s.env,s.mu,[]⟩
  | none=>none
 | j,.box e _::ps,.sv (.agg cs)::vs=>match zcc (j+1) ps vs with
  | some s=>some ⟨(j,.sv (.one (.ptr (inId j) 0)))::s.env,(inId j,.box e (zaM j .come 0 cs).1)::(zaM j .come 0 cs).2++s.mu,[]⟩
  | none=>none
 | j,.mix agg _::ps,.sv v::vs=>match zcc (j+1) ps vs with
  | some s=>some ⟨(j,.sv (bif agg then .agg (zaM j .lent 0 v.cells).1 else match (zaM j .lent 0 v.cells).1 with | [c]=>.one c | l=>.agg l))::s.env,(zaM j .lent 0 v.cells).2++s.mu,[]⟩
  | none=>none
 | _,_,_=>none
def zpH (g:FuncId) (l:List AV):Bool:=match zcc 0 (C.sig g).pars l with
 | some s=>zgg (s.mu.map Prod.fst) && (s.mu.all fun x=>isIn x.1 && match x.2 with
  | .row e t _ _=>isTy (C.T e) t
  | .box _ _=>true)
 | none=>false
def zdb (f:FuncId) (site:Nat) (o:Oper) (vs:List AV) (mu:Look) (Kd:zbl->Option R)
    (Kc:(g:FuncId)->List AV->((C.sig g).den->zbl)->Option R):Option R :=
 match o.op,vs with
 | .move _,[v]=>Kd ⟨v,[],[]⟩
 | .assign _,[v]=>Kd ⟨v,[],[]⟩
 | .pick _ _ _,[.sv (.one (.bool c)),x,y]=>(match zmQ c x y with
  | some z=>Kd (one z)
  | none=>br c (Kd ⟨x,[],[]⟩) (Kd ⟨y,[],[]⟩))
 | .alloc e,_=>(match C.T e with
  | some ti=>Kd ⟨.sv (.one (.ptr (site*1000) 0)),[(site*1000,.box e ti.zero)],[]⟩
  | none=>none)
 | .box e _,[.sv v]=>Kd ⟨.sv (.one (.ptr (site*1000) 0)),[(site*1000,.box e v.cells)],[]⟩
 | .build t parts,vs=>(match C.T t with
  | some ti=>bif ti.fields.isEmpty then none else (match zcJ ti.fields ti.zero ((parts.toList.map Prod.fst).zip vs) with
   | some cs=>Kd ⟨.sv (.agg cs),[],[]⟩
   | none=>none)
  | none=>none)
 | .buildSlice t len parts,vs=>(match C.T t with
  | some ti=>(match ti.elem,ti.ty with
   | some e,some (.sl _ te)=>(match C.T e with
    | some tie=>(match zb4 mu te 0 ((parts.toList.map Prod.fst).zip vs) with
     | some xs=>bif Nat.beq len parts.size && Nat.beq vs.length len && Nat.ble (len*tie.size) 16777216 && Nat.ble len maxLen then (match freeze mu (vs.flatMap (zjS mu)) with
      | some fz=>bif C.own f site then Kd ⟨.sv (.one (.full (site*1000))),[(site*1000,.row e te xs .own)],fz⟩ else Kd ⟨.sv (.one (.sl e te xs)),[],fz⟩
      | none=>none) else none
     | none=>none)
    | none=>none)
   | _,_=>none)
  | none=>none)
 | .load t _,[.sv (.one p)]=>(match C.T t,zlw mu p with
  | some ti,some (cs,off)=>(match znR ti cs off with
   | some v=>Kd ⟨.sv v,[],[]⟩
   | none=>none)
  | _,_=>none)
 | .store t _ _,[.sv (.one p),.sv v]=>(match C.T t with
  | some ti=>(match zeh mu ti p v with
   | some ed=>Kd ⟨.tup [],[],ed⟩
   | none=>none)
  | none=>none)
 | .nilCheck _,[.sv (.one p)]=>(match p with
  | .ptr _ _ | .iptr _ _ _ | .rptr _ _ | .fn _ _=>Kd ⟨.sv (.one p),[],[]⟩
  | _=>none)
 | .binOp op xt _ _ _,[x,y]=>zeL op (C.T xt) x y fun c=>Kd (one c)
 | .unOp op _ _,[.sv (.one x)]=>(match op,x with
  | .neg,.int k n=>Kd (one (.int k (wr k (isub 0 n))))
  | .not,.bool b=>Kd (one (.bool (bnot b)))
  | _,_=>none)
 | .convert src dst _,[.sv (.one x)]=>(match C.T src,C.T dst with
  | some tis,some ti=>(match ti.ty,x with
   | some (.int k),.int _ n=>Kd (one (.int k (wr k n)))
   | some .str,.str s=>Kd (one (.str s))
   | some .str,c=>bif (match tis.elem with | some e=>isTy (C.T e) (.int .u8) | none=>false) then (match zgf mu (.int .u8) c with
    | some xs=>Kd (one (.str (bytesOf xs)))
    | none=>none) else none
   | _,_=>none)
  | _,_=>none)
 | .makeFunc (.func g) first _,vs=>bif first.isEmpty then
     (match vs.mapM fun v=>match v with | .sv (.one c)=>some c | _=>none with
      | some cs=>Kd (one (.fn g cs))
      | none=>none)
  else none
 | .makeSlice t _ _,[.sv (.one (.int _ l)),.sv (.one (.int _ c))]=>(match C.T t with
  | some ti=>(match ti.elem,ti.ty with
   | some e,some (.sl _ te)=>(match C.T e with
    | some tie=>bif Nat.ble 1 tie.bytes then (if 0<=l then (if l<=c then (if imul c (n2i tie.bytes)<=140737488355328 then
        Kd ⟨.sv (.one (.full (site*1000))),[(site*1000,.row e te (drep (itn l) te.dflt) .own)],[]⟩ else none) else none) else none) else none
    | none=>none)
   | _,_=>none)
  | none=>none)
 | .slice t _ lo hi mxo,.sv (.one c)::r=>bif mxo.isSome || !zcq C mu (C.T t) c then none else
     (match lo,hi,r with
     | none,none,[]=>zbF mu c none none fun c=>Kd (one c)
     | some _,none,[.sv (.one (.int _ l))]=>zbF mu c (some l) none fun c=>Kd (one c)
     | none,some _,[.sv (.one (.int _ h))]=>zbF mu c none (some h) fun c=>Kd (one c)
     | some _,some _,[.sv (.one (.int _ l)),.sv (.one (.int _ h))]=>zbF mu c (some l) (some h) fun c=>Kd (one c)
     | _,_,_=>none)
 | .fieldAddr s _ i,[.sv (.one p)]=>(match C.T s with
  | some ti=>(match ti.fields[i]? with
   | some (off,size,_)=>bif Nat.beq size 0 then none else (match p with
    | .ptr id o=>Kd (one (.ptr id (o+off)))
    | .iptr id j o=>Kd (one (.iptr id j (o+off)))
    | .rptr cs o=>Kd (one (.rptr cs (o+off)))
    | _=>none)
   | none=>none)
  | none=>none)
 | .field s _ i,[.sv (.agg cs)]=>(match C.T s with
  | some ti=>(match ti.fields[i]? with
   | some (off,size,agg)=>bif Nat.ble (off+size) cs.length then
       (bif agg then Kd ⟨.sv (.agg ((cs.drop off).take size)),[],[]⟩ else (match cs.drop off with
        | c::_=>Kd (one c)
        | []=>none)) else none
   | none=>none)
  | none=>none)
 | .indexAddr t _ _,[.sv (.one c),.sv (.one (.int _ i))]=>(match C.T t with
  | some ti=>bif zj9 C ti (zbT mu c) then (match c with
      | .sl _ t xs=>if 0<=i then (if i < dlen xs then Kd (one (.rptr (t.emb (rd t.dflt xs i)) 0)) else none) else none
      | .full id=>(match mu id with
       | some (.row _ _ xs _)=>if 0<=i then (if i < dlen xs then Kd (one (.iptr id i 0)) else none) else none
       | _=>none)
      | .pre id n=>if 0<=i then (if i < n2i n then Kd (one (.iptr id i 0)) else none) else none
      | .sub id o n=>if 0<=i then (if i < n2i n then Kd (one (.iptr id (iadd (n2i o) i) 0)) else none) else none
      | _=>none) else none
  | none=>none)
 | .index t _ _,[.sv (.one (.str s)),.sv (.one (.int _ i))]=>bif isTy (C.T t) .str then (if 0<=i then (if i < slen s then Kd (one (.int .u8 (bat s i))) else none) else none) else none
 | .extract _ i,[.tup vs]=>(match vs[i]? with
  | some v=>Kd ⟨.sv v,[],[]⟩
  | none=>none)
 | .call c,vs=>(match c.callee,vs with
  | .builtin .len,[.sv (.one x)]=>(match c.argTypes.toList,lenOf mu x with
   | [t],some n=>bif zcq C mu (C.T t) x then Kd (one (.int .i64 n)) else none
   | _,_=>none)
  | .builtin .append,[.sv (.one x),.sv (.one y)]=>(match c.argTypes.toList with
   | [t,t2]=>bif Nat.beq t t2 then (match C.T t with
    | some ti=>(match zir mu ti x with
     | some ⟨e,te,xs,m,ed⟩=>(match zgf mu te y,C.T e with
      | some ys,some tie=>bif Nat.ble 1 tie.bytes then (if nadd (ztP xs) (ztP ys)<=140737488355328 / tie.bytes then
          Kd ⟨.sv (.one (.full (site*1000))),[(site*1000,.row e te (dapp xs ys) m)],ed⟩ else none) else none
      | _,_=>none)
     | none=>none)
    | none=>none) else none
   | _=>none)
  | .builtin .max,[.sv (.one (.int k x)),.sv (.one (.int _ y))]=>Kd (one (.int k (mx x y)))
  | .builtin .min,[.sv (.one (.int k x)),.sv (.one (.int _ y))]=>Kd (one (.int k (mn x y)))
  | .value _,.sv (.one (.fn g caps))::vs=>(match C.del g with
   | some (.del e sz)=>(match caps,vs with
    | [],[.sv (.one (.full id)),.sv (.one (.int k i)),.sv (.one (.int k' j))]=>(match mu id with
     | some (.row e' t xs m)=>bif (Nat.beq e e' && Nat.beq t.size sz) && (zco m && (kbeq k .i64 && kbeq k' .i64)) then (if 0<=i then (if i < dlen xs then (if j=iadd i 1 then (if dlen xs<=5000000000000 then
         Kd ⟨.sv (.one (.full (site*1000))),[(site*1000,.row e' t (dapp (zio (itn i) xs) (zlu (itn j) xs)) m)],[(id,none)]⟩ else none) else none) else none) else none) else none
     | _=>none)
    | _,_=>none)
   | some (.sort e)=>(match caps,vs with
    | [],[.sv (.one (.full id))]=>(match mu id with
     | some (.row e' (.int .i64) xs m)=>bif Nat.beq e e' && zco m then (if 0 < dlen xs then (if dlen xs<=5000000000000 then
         Kd ⟨.tup [],[],[(id,some (.row e' (.int .i64) (ztQ xs) m))]⟩ else none) else none) else none
     | _=>none)
    | _,_=>none)
   | some (.compact e)=>(match caps,vs with
    | [],[.sv (.one (.full id))]=>(match mu id with
     | some (.row e' (.int .i64) xs m)=>bif Nat.beq e e' && zco m then (if 0 < dlen xs then (if dlen xs<=5000000000000 then
         Kd ⟨.sv (.one (.full (site*1000))),[(site*1000,.row e' (.int .i64) (ztR xs) m)],[(id,none)]⟩ else none) else none) else none
     | _=>none)
    | _,_=>none)
   | some (.grow e)=>(match caps,vs with
    | [],[.sv (.one .nilsl),.sv (.one (.int k n))]=>(match C.T e with
     | some tie=>(match tie.ty with
      | some te=>bif kbeq k .i64 then (if 0<=n then (if n<=1000000000 then
          Kd ⟨.sv (.one (.full (site*1000))),[(site*1000,.row e te [] .own)],[]⟩ else none) else none) else none
      | none=>none)
     | none=>none)
    | _,_=>none)
   | none=>(match C.fns g with
   | some fn=>(match zal C mu (C.sig g).pars fn.params.toList (vs++caps.map fun c=>.sv (.one c)) with
    | some (l,fz,gv,ids)=>bif apart mu (C.sig g).pars (vs++caps.map fun c=>.sv (.one c)) (fz++ids) gv && zpH C g l then (match freeze mu (zis (C.sig g) fz ids) with
     | none=>none
     | some ed=>Kc g l (zeM C f site g mu (vs++caps.map fun c=>.sv (.one c)) (ed++zfJ gv))) else none
    | none=>none)
   | none=>none))
  | _,_=>none)
 | _,_=>none
inductive Ex where
 | normal | exit (id:Nat) | ret
def zab (mu:List (Nat×Cont)):List (Nat×Option Cont)->List (Nat×Cont)
 | []=>mu
 | (id,none)::r=>zab (adel mu id) r
 | (id,some c)::r=>zab ((id,c)::adel mu id) r
def zbX:List (Nat×Option Cont)->List Nat->List Nat
 | [],d=>d
 | (id,none)::r,d=>zbX r (id::d)
 | (_,some _)::r,d=>zbX r d
def zaR (dead:List Nat) (mu:List (Nat×Cont)):List (Nat×Cont)->Option (List (Nat×Cont))
 | []=>some mu
 | (id,c)::r=>bif isIn id || dead.any (Nat.beq id) then none else match zaa mu id with
  | some _=>none
  | none=>zaR dead ((id,c)::mu) r
def zds (n:Nat) (env:List (Nat×AV)) (dst:Option Nat) (v:AV):Option (List (Nat×AV)) :=
 match dst with
 | none=>some env
 | some d=>bif Nat.blt d n then some ((d,v)::env) else none
def zlx (mu:List (Nat×Cont)) (ed:List (Nat×Option Cont)):Bool:=ed.all fun x=>!(isIn x.1) || (zaa mu x.1).isSome
def za4 (n:Nat) (s:St) (dst:Option Nat) (d:zbl):Option St :=
 match (bif zlx s.mu d.edit then zaR (zbX d.edit s.dead) (zab s.mu d.edit) d.add else none),zds n s.env dst d.val with
 | some mu,some env=>some ⟨env,mu,zbX d.edit s.dead⟩
 | _,_=>none
def zmR (ops:List Oper) (j:Nat):Option Nat:=match ops[j]? with | some o=>o.dst | none=>none
variable (pi:(g:FuncId)->List AV->Option (C.sig g).den)
def zka (f n:Nat) (site:Nat) (o:Oper) (s:St) (K:zbl->Option R):Option R :=
 match zeK s.env o.op.operands.toList with
 | some vs=>zdb C f site o vs (zaa s.mu) K fun g args mk=>(pi g args).bind fun x=>K (mk x)
 | none=>none
def zgi (f n rid:Nat) (all:List Oper):Nat->List Oper->St->(St->Option R)->Option R
 | _,[],s,K=>K s
 | i,o::r,s,K =>
  let go (s:St):Option R:=zka C pi f n (rid*1000+i) o s fun d=>match za4 n s o.dst d with
   | some s'=>zgi f n rid all (i+1) r s' K
   | none=>none
  let no (s:St):Option R:=match zds n s.env o.dst (.tup []) with
   | some env=>zgi f n rid all (i+1) r ⟨env,s.mu,s.dead⟩ K
   | none=>none
  match o.guard with
  | none=>go s
  | some (j,want)=>match zmR all j with
   | none=>none
   | some g=>match zaa s.env g with
    | some (.sv (.one (.bool b)))=>br b ((bif want then go else no) ⟨(g,.sv (.one (.bool true)))::s.env,s.mu,s.dead⟩) ((bif want then no else go) ⟨(g,.sv (.one (.bool false)))::s.env,s.mu,s.dead⟩)
    | some (.tup [])=>no s
    | _=>none
def zb5 (e:Edge):Bool:=match e.ground with
 | .textOnly _ | .gcOnly _=>false
 | _=>true
def zbg:List Nat->List Oper->List Nat
 | acc,[]=>acc
 | acc,o::r=>zbg (acc++[o.after.toList.foldl (fun s e=>bif zb5 e && Nat.blt e.on acc.length then Nat.lor (Nat.lor s (2 ^ e.on)) (acc.getD e.on 0) else s) 0]) r
structure Done where
 i:Nat
 dst:Option Nat
 d:zbl
 ids:List Nat
def zdc (n:Nat):List Done->St->Option St
 | [],s=>some s
 | x::r,s=>match za4 n s x.dst x.d with
  | some s'=>zdc n r s'
  | none=>none
def zly (j:Nat) (v:AV):List Done->List Done
 | []=>[]
 | x::r=>bif Nat.beq x.i j then ⟨x.i,x.dst,⟨v,x.d.add,x.d.edit⟩,x.ids⟩ :: r else x::zly j v r
def zcK (j:Nat):List Done->Option AV
 | []=>none
 | x::r=>bif Nat.beq x.i j then some x.d.val else zcK j r
def zpI (mu:Look):List AV->List Nat
 | .sv (.one (.fn _ caps))::_=>caps.flatMap (zaA mu 8)
 | _=>[]
def zpJ (mu:Look) (vs:List AV):List Nat:=vs.flatMap (zbm mu)++zpI mu vs
def looks:Op->Bool
 | .move _ | .assign _ | .pick .. | .alloc _ | .box .. | .build .. | .nilCheck _ | .binOp .. | .unOp .. | .makeFunc .. | .makeSlice .. | .fieldAddr .. | .field .. | .index .. | .extract ..=>false
 | _=>true
def zcU (op:Op) (mu:Look) (vs:List AV):List Nat:=match op,vs with
 | .load _ _,.sv (.one (.ptr id _))::_=>[id]
 | .store _ _ _,.sv (.one (.ptr id _))::_=>[id]
 | op,vs=>bif looks op then zpJ mu vs else []
def za5 (d:zbl):List Nat:=d.edit.map Prod.fst++d.add.map Prod.fst
def zoG (a b:List Nat):Bool:=a.any fun x=>b.any (Nat.beq x)
def zdd (m:Nat) (d:zbl) (ids:List Nat):List Done->Bool
 | []=>true
 | x::r=>(Nat.testBit m x.i || !(zoG (za5 d) (x.ids++za5 x.d) || zoG (za5 x.d) ids)) && zdd m d ids r
def zsu {R:Type} (m:Nat) (K:Nat->R):R:=match m with
 | 0=>K 0
 | k+1=>K (Nat.succ k)
def zsP (i:Nat) (acc:List Nat) (o:Oper):Nat:=o.after.toList.foldl (fun s e=>bif zb5 e && Nat.blt e.on i then Nat.lor (Nat.lor s (2 ^ e.on)) (acc.getD (i-1-e.on) 0) else s) 0
def znS:Nat->List Nat->List Oper->(List Nat->Option R)->Option R
 | _,acc,[],K=>K acc.reverse
 | i,acc,o::r,K=>zsu (zsP i acc o) fun m=>znS (i+1) (m::acc) r K
def zdt (n:Nat):List Done->St->Option St
 | [],s=>some s
 | x::r,s=>match zdt n r s with
  | some s'=>za4 n s' x.dst x.d
  | none=>none
def zpK (m t:Nat):List Done->Option AV
 | []=>none
 | x::r=>bif (match x.dst with | some d=>Nat.beq d t | none=>false) && Nat.testBit m x.i then some x.d.val else zpK m t r
def ztS (m:Nat) (acc:List Done) (env:List (Nat×AV)) (x:Operand):Option AV:=match x with
 | .tmp t=>(match zpK m t acc with
  | some v=>some v
  | none=>zaa env t)
 | x=>opnd env x
def zlz (m:Nat) (acc:List Done) (env:List (Nat×AV)):List Operand->Option (List AV)
 | []=>some []
 | x::r=>match ztS m acc env x with
  | some v=>match zlz m acc env r with
   | some vs=>some (v::vs)
   | none=>none
  | none=>none
def nilD (d:zbl):Bool:=match d.add,d.edit with
 | [],[]=>true
 | _,_=>false
def znT (f site:Nat) (o:Oper) (vs:List AV) (mu:Look) (K:zbl->Option R):Option R:=zdb C f site o vs mu K fun g args mk=>(pi g args).bind fun x=>K (mk x)
def zbG (f n rid:Nat) (s0:St):Nat->Bool->List Nat->List Oper->List Done->(List Done->Option R)->Option R
 | _,_,_,[],acc,K=>K acc
 | i,cl,m::ms,o::r,acc,K =>
  let go (acc:List Done):Option R:=bif cl then
      (match zlz m acc s0.env o.op.operands.toList with
      | none=>none
      | some vs =>
       let ids:=zcU o.op (zaa s0.mu) vs
       bif ids.all (fun id=>(zaa s0.mu id).isSome) then znT C pi f (rid*1000+i) o vs (zaa s0.mu) (fun d=>match za4 n s0 o.dst d with
        | none=>none
        | some _=>bif nilD d then zbG f n rid s0 (i+1) true ms r (⟨i,o.dst,d,ids⟩ :: acc) K else bif zdd m d ids acc then zbG f n rid s0 (i+1) false ms r (⟨i,o.dst,d,ids⟩ :: acc) K else none) else none)
   else match zdt n (acc.filter fun x=>Nat.testBit m x.i) s0 with
   | none=>none
   | some s=>match zeK s.env o.op.operands.toList with
    | none=>none
    | some vs =>
     let ids:=zcU o.op (zaa s.mu) vs
     bif ids.all (fun id=>(zaa s.mu id).isSome) then zka C pi f n (rid*1000+i) o s (fun d=>match za4 n s o.dst d with
      | none=>none
      | some _=>bif zdd m d ids acc then zbG f n rid s0 (i+1) false ms r (⟨i,o.dst,d,ids⟩ :: acc) K else none) else none
  let no (acc:List Done):Option R:=zbG f n rid s0 (i+1) cl ms r (⟨i,o.dst,⟨.tup [],[],[]⟩,[]⟩ :: acc) K
  match o.guard with
  | none=>go acc
  | some (j,want)=>bif Nat.testBit m j then (match zcK j acc with
      | some (.sv (.one (.bool b)))=>br b ((bif want then go else no) (zly j (.sv (.one (.bool true))) acc)) ((bif want then no else go) (zly j (.sv (.one (.bool false))) acc))
      | some (.tup [])=>no acc
      | _=>none) else none
 | _,_,[],_::_,_,_=>none
def zfu:List Operand->List Nat
 | []=>[]
 | .tmp t::r=>t::zfu r
 | _::r=>zfu r
def zgN (all:List Oper) (o:Oper):List Nat:=zfu o.op.operands.toList++(match o.guard with
 | none=>[]
 | some (j,_)=>(match zmR all j with
  | some d=>[d]
  | none=>[]))
def zeN (ms:List Nat) (all:List Oper):Nat->List Oper->Bool
 | _,[]=>true
 | i,o::r=>(match o.dst with
     | none=>true
     | some d=>(all.zipIdx.all fun (o',j)=>Nat.beq i j || Nat.testBit (ms.getD j 0) i || Nat.testBit (ms.getD i 0) j || !((zgN all o').any (Nat.beq d)))) && zeN ms all (i+1) r
def zkb:Nat->List Oper->Bool
 | _,[]=>true
 | i,o::r=>(o.after.toList.all fun e=>!(zb5 e) || Nat.blt e.on i) && zkb (i+1) r
def zlA (ops:List Oper):List Nat:=ops.filterMap fun o=>o.dst
def zkc (n:Nat) (ms:List Nat) (ops:List Oper):Bool :=
 zeN ms ops 0 ops && zkb 0 ops && zgg (zlA ops) && (ops.all fun o=>match o.dst with | some d=>Nat.blt d n | none=>true) &&
  ops.all fun o=>match o.guard with | some (j,_)=>(zmR ops j).isSome | none=>true
def zit:Nat->List Oper->List (Nat×Nat)
 | _,[]=>[]
 | i,o::r=>match o.dst with
  | some d=>(d,i)::zit (i+1) r
  | none=>zit (i+1) r
def zlB (ms:List Nat) (W:List (Nat×Nat)) (all:List Oper):Nat->List Nat->List Oper->Bool
 | _,_,[]=>true
 | j,mj::mr,o::r=>((zgN all o).all fun t=>match zaa W t with
     | none=>true
     | some i=>Nat.beq i j || Nat.testBit mj i || Nat.testBit (ms.getD i 0) j) && zlB ms W all (j+1) mr r
 | _,[],_::_=>false
def zsQ (n:Nat) (ms:List Nat) (ops:List Oper):Bool :=
 zlB ms (zit 0 ops) ops 0 ms ops && zkb 0 ops && zgg (zlA ops) && (ops.all fun o=>match o.dst with | some d=>Nat.blt d n | none=>true) &&
  ops.all fun o=>match o.guard with | some (j,_)=>(zmR ops j).isSome | none=>true
def ziu (f n rid:Nat) (ops:List Oper) (draw:Bool) (s:St) (K:St->Option R):Option R :=
 match draw with
 | false=>zgi C pi f n rid ops 0 ops s K
 | true=>znS 0 [] ops fun ms =>
  bif zsQ n ms ops then
   zbG C pi f n rid s 0 true ms ops [] fun acc=>match zdt n acc s with
    | some s'=>K s'
    | none=>none
  else none
def ziv (slot j:Nat):Nat:=1000000000000+slot*1000+j
def zeO (id j:Nat):Nat:=2000000000000000+id*1000+j
def zdu (s:St):List (Nat×Nat)->Option St
 | []=>some s
 | (t,0)::r=>zdu s r
 | (t,e+1)::r=>match zaa s.env t with
  | some (.sv (.one .nilsl))=>(match C.T e with
   | some ti=>match ti.ty,zaa s.mu (ziv t 999) with
    | some te,none=>bif isIn (ziv t 999) || s.dead.any (Nat.beq (ziv t 999)) then none else zdu ⟨(t,.sv (.one (.full (ziv t 999))))::s.env,(ziv t 999,.row e te [] .own)::s.mu,s.dead⟩ r
    | _,_=>none
   | none=>none)
  | _=>zdu s r
def zhp {α:Type}:List α->Nat->α->List α
 | [],_,_=>[]
 | _::r,0,y=>y::r
 | x::r,n+1,y=>x::zhp r n y
def zde (s:St):List (Nat×Nat×Nat)->Option St
 | []=>some s
 | (b,j,e)::r=>match zaa s.mu b with
  | some (.box t cs)=>(match cs[j]? with
   | some .nilsl=>(match C.T e with
    | some ti=>match ti.ty,zaa s.mu (zeO b (j+500)) with
     | some te,none=>bif isIn (zeO b (j+500)) || s.dead.any (Nat.beq (zeO b (j+500))) then none else zde ⟨s.env,(b,.box t (zhp cs j (.full (zeO b (j+500)))))::(zeO b (j+500),.row e te [] .own)::adel s.mu b,s.dead⟩ r
     | _,_=>none
    | none=>none)
   | _=>zde s r)
  | _=>zde s r
def zgO (s:St):List (Nat×Nat)->Option St
 | []=>some s
 | (t,e)::r=>match zaa s.env t with
  | some (.sv (.one .nilsl))=>(match C.T e with
   | some ti=>match ti.ty with
    | some te=>zgO ⟨(t,.sv (.one (.sl e te [])))::s.env,s.mu,s.dead⟩ r
    | none=>none
   | none=>none)
  | _=>zgO s r
def zei (s:St):List (Nat×Nat×Nat)->Option St
 | []=>some s
 | (b,j,e)::r=>match zaa s.mu b with
  | some (.box t cs)=>(match cs[j]? with
   | some .nilsl=>(match C.T e with
    | some ti=>match ti.ty with
     | some te=>zei ⟨s.env,(b,.box t (zhp cs j (.sl e te [])))::adel s.mu b,s.dead⟩ r
     | none=>none
    | none=>none)
   | _=>zei s r)
  | _=>zei s r
def ziw (s:St):List (Nat×Nat)->St
 | []=>s
 | (b,j)::r=>match zaa s.mu b with
  | some (.box _ cs)=>(match cs[j]? with
   | some (.full id)=>(match zaa s.mu id with
    | some (.row e t xs .own)=>ziw ⟨s.env,(id,.row e t xs .come)::adel s.mu id,s.dead⟩ r
    | _=>ziw s r)
   | _=>ziw s r)
  | _=>ziw s r
def zgP (s:St):List Nat->Option St
 | []=>some s
 | t::r=>match zaa s.env t with
  | some (.sv (.one c))=>(match snap (zaa s.mu) c,freeze (zaa s.mu) (zbr (zaa s.mu) 6 c) with
   | some c',some fz=>zgP ⟨(t,.sv (.one c'))::s.env,zab s.mu fz,s.dead⟩ r
   | _,_=>none)
  | _=>zgP s r
def zrB (home:Nat->Nat):Nat->List Cel->List (Nat×Nat)->List (Nat×Nat)
 | _,[],m=>m
 | j,c::r,m=>zrB home (j+1) r (match c with
  | .full id | .pre id _ | .sub id _ _ | .iptr id _ _=>(match zaa m id with
   | some _=>m
   | none=>m++[(id,home j)])
  | _=>m)
def zsR (c:Cel):List Nat :=
 match c with
 | .ptr id _=>[id]
 | .fn _ caps=>caps.flatMap fun c=>match c with | .ptr id _=>[id] | _=>[]
 | _=>[]
def zgQ (mu:Look):List Nat->List (Nat×Nat)->List (Nat×Nat)
 | [],m=>m
 | b::r,m=>match zaa m b,mu b with
  | none,some (.box _ cs)=>zgQ mu r (zrB (zeO b) 0 cs (m++[(b,b)]))
  | _,_=>zgQ mu r m
def zgj (mu:Look):List Nat->List (Nat×Nat)->List (Nat×Nat)
 | [],m=>m
 | b::r,m=>match mu b with
  | some (.box _ cs)=>zgj mu r (zrB (zeO b) 0 cs (m++[(b,b)]))
  | some _=>zgj mu r (m++[(b,b)])
  | none=>zgj mu r m
def zh8 (s:St):List (Nat×Nat)->List (Nat×Nat)->List (Nat×Nat)
 | [],m=>m
 | (t,_)::r,m=>match zaa s.env t with
  | some (.sv v)=>zh8 s r (zgQ (zaa s.mu) (v.cells.flatMap zsR) (zrB (ziv t) 0 v.cells m))
  | _=>zh8 s r m
def zjT (m:List (Nat×Nat)):Cel->Cel
 | .full id=>(match zaa m id with | some i=>.full i | none=>.junk)
 | .pre id n=>(match zaa m id with | some i=>.pre i n | none=>.junk)
 | .sub id o n=>(match zaa m id with | some i=>.sub i o n | none=>.junk)
 | .ptr id o=>(match zaa m id with | some i=>.ptr i o | none=>.junk)
 | .iptr id j o=>(match zaa m id with | some i=>.iptr i j o | none=>.junk)
 | .fn f caps=>bif zdE caps then .fn f caps else .junk
 | .rptr cs off=>bif zdE cs then .rptr cs off else .junk
 | c=>c
def renC (m:List (Nat×Nat)):Cel->Cel
 | .fn f caps=>.fn f (caps.map (zjT m))
 | c=>zjT m c
def zrC (m:List (Nat×Nat)):AV->AV
 | .sv (.one c)=>.sv (.one (renC m c))
 | .sv (.agg cs)=>.sv (.agg (cs.map (renC m)))
 | .tup vs=>.tup (vs.map fun v=>match v with | .one c=>.one (renC m c) | .agg cs=>.agg (cs.map (renC m)))
 | .junk=>.junk
def zmS (m:List (Nat×Nat)):Cont->Cont
 | .box e cs=>.box e (cs.map (renC m))
 | c=>c
def zgR (s:St) (m:List (Nat×Nat)):List (Nat×Nat)->List (Nat×AV)
 | []=>[]
 | (t,_)::r=>match zaa s.env t with
  | some v=>(t,zrC m v)::zgR s m r
  | none=>zgR s m r
def zcV (mu:Look) (m:List (Nat×Nat)):List (Nat×Nat)->List (Nat×Cont)
 | []=>[]
 | (a,b)::r=>match mu a with
  | some c=>(b,zmS m c)::zcV mu m r
  | none=>zcV mu m r
def norm (kp:Keep) (s:St):Option St :=
 match zdu C s kp.slots with
 | none=>none
 | some s=>match zde C s kp.boxes with
  | none=>none
  | some s=>match zgO C s kp.plain with
  | none=>none
  | some s=>match zei C s kp.plainB with
  | none=>none
  | some s=>match zgP (ziw s kp.weak) kp.flat with
  | none=>none
  | some s =>
   let m:=(zh8 s kp.slots (zgj (zaa s.mu) kp.ins [])).filter fun x=>(zaa s.mu x.1).isSome
   bif (zgg (m.map Prod.fst) && zgg (m.map Prod.snd)) && (m.all fun x=>!(isIn x.2) || Nat.beq x.1 x.2) then some ⟨zgR s m kp.slots,zcV (zaa s.mu) m m,[]⟩ else none
def za1:Code->Option Nat
 | .region id _ _=>some id
 | .seq a _=>za1 a
 | .block _ c=>za1 c
 | .loop c=>za1 c
 | .scope c=>za1 c
 | _=>none
def zhq (f:FuncId) (r:Option Nat) (s:St) (K:St->Option R):Option R :=
 match r with
 | none=>K s
 | some r=>match C.hint f r with
  | none=>K s
  | some kp=>match norm C kp s with
   | some s'=>K s'
   | none=>none
def zdX:Code->Option Nat
 | .region id _ _=>some id
 | .seq a _=>zdX a
 | .block _ c=>zdX c
 | .scope c=>zdX c
 | _=>none
def gate:Nat->St->(St->Option R)->Option R
 | 0,_,_=>none
 | _+1,s,K=>K s
def zrD (f:FuncId) (k:Nat) (r:Option Nat) (s:St) (K:St->Option R):Option R :=
 match r with
 | none=>K s
 | some r=>match C.hint f r with
  | none=>K s
  | some kp=>match norm C kp s with
   | some s'=>bif kp.flat.any (Nat.beq 999999999) then gate k s' K else K s'
   | none=>none
def ztT (f:FuncId) (r:Option Nat) (run:St->(Ex->St->Option R)->Option R) (K:Ex->St->Option R):Ex->St->Option R:=fun e s'=>match e with
 | .normal=>zhq C f r s' fun s''=>run s'' K
 | e=>K e s'
def zlC (f:FuncId) (r:Option Nat) (body:St->(Ex->St->Option R)->Option R):Nat->St->(Ex->St->Option R)->Option R
 | 0,_,_=>none
 | n+1,s,K=>body s (ztT C f r (zlC f r body n) K)
def seqK (f k:Nat) (r:Option Nat) (run:(Ex->St->Option R)->St->Option R) (K:Ex->St->Option R):Ex->St->Option R:=fun e s'=>match e with
 | .normal=>zrD C f k r s' (run K)
 | e=>K e s'
def zsv (id:Nat) (K:Ex->St->Option R):Ex->St->Option R:=fun e s'=>match e with
 | .exit i=>bif Nat.beq i id then K .normal s' else K (.exit i) s'
 | e=>K e s'
def setC (c:Operand) (b:Bool) (s:St):St:=match c with
 | .tmp t=>⟨(t,.sv (.one (.bool b)))::s.env,s.mu,s.dead⟩
 | _=>s
def zgS (f n k:Nat):Code->(Ex->St->Option R)->St->Option R
 | .skip,K,s=>K .normal s
 | .label _,K,s=>K .normal s
 | .region id ops draw,K,s=>ziu C pi f n id ops.toList draw s (K .normal)
 | .seq a b,K,s=>zgS f n k a (seqK C f k (zdX b) (zgS f n k b) K) s
 | .cond c a b,K,s=>match opnd s.env c with
  | some (.sv (.one (.bool t)))=>br t (zgS f n k a K (setC c true s)) (zgS f n k b K (setC c false s))
  | _=>none
 | .block id c,K,s=>zgS f n k c (zsv id K) s
 | .loop c,K,s=>zhq C f (za1 c) s fun s'=>zlC C f (za1 c) (fun s K=>zgS f n k c K s) k s' K
 | .exit id,K,s=>K (.exit id) s
 | .scope c,K,s=>zgS f n k c K s
 | .ret,K,s=>K .ret s
 | _,_,_=>none
abbrev zjU (f n k:Nat) (c:Code) (s:St) (K:Ex->St->Option R):Option R:=zgS C pi f n k c K s
abbrev ztU {α:Type} (b:Bool) (x y:α):α:=match b with | true=>x | false=>y
def goP (f n k:Nat):List Bool->Code->(Ex->St->Option R)->St->List Nat->Option R
 | [],.seq _ b,K,s,m::_=>gate m s (zgS C pi f n k b K)
 | [],.loop c,K,s,m::_=>zlC C f (za1 c) (fun s K=>zgS C pi f n k c K s) m s K
 | x::p,.seq a b,K,s,ms=>ztU x (goP f n k p b K s ms) (goP f n k p a (seqK C f k (zdX b) (zgS C pi f n k b) K) s ms)
 | x::p,.cond _ a b,K,s,ms=>ztU x (goP f n k p b K s ms) (goP f n k p a K s ms)
 | _::p,.block id c,K,s,ms=>goP f n k p c (zsv id K) s ms
 | _::p,.scope c,K,s,ms=>goP f n k p c K s ms
 | _::p,.loop c,K,s,m::ms=>goP f n k p c (ztT C f (za1 c) (zlC C f (za1 c) (fun s K=>zgS C pi f n k c K s) m) K) s ms
 | _,_,_,_,_=>none
def zgk (come:Bool) (mu:List (Nat×Cont)):(c:RC)->Cel->Option (c.den×List (Nat×Cont))
 | .dat t,c=>match snap (zaa mu) c,freeze (zaa mu) (zbr (zaa mu) 6 c) with
  | some c',some fz=>match t.decAll [c'] with
   | some x=>some (x,zab mu fz)
   | none=>none
  | _,_=>none
 | .row e t,.frow e' t' xs=>if h:t'.beq t=true then (bif Nat.beq e e' then some (zgb h xs,mu) else none) else none
 | .row e t,.nilsl=>some (([]:List t.den),mu)
 | .row e t,.full id=>match zaa mu id with
  | some (.row e' t' xs m)=>bif (match m with | .own=>true | .come=>come | _=>false) then
      (if h:t'.beq t=true then (bif Nat.beq e e' then some (zgb h xs,adel mu id) else none) else none) else none
  | _=>none
 | _,_=>none
def zeF (come:Bool) (mu:List (Nat×Cont)):(cs:List RC)->List Cel->Option (zho cs×List (Nat×Cont))
 | [],[]=>some ((),mu)
 | [a],[c]=>zgk come mu a c
 | a::b::r,c::cs=>match zgk come mu a c with
  | some (x,mu')=>match zeF come mu' (b::r) cs with
   | some (y,mu'')=>some ((x,y),mu'')
   | none=>none
  | none=>none
 | _,_=>none
def zkI (come:Bool) (mu:List (Nat×Cont)):(v:RV)->SV->Option (v.den×List (Nat×Cont))
 | .one c,.one x=>zgk come mu c x
 | .agg cs,.agg l=>zeF come mu cs l
 | _,_=>none
def zdf (mu:List (Nat×Cont)):Nat->(vs:List RV)->List SV->Option (zgc vs×List (Nat×Cont))
 | _,[],[]=>some ((),mu)
 | n,[a],[v]=>zkI (Nat.beq n 0) mu a v
 | n,a::b::r,v::vs=>match zkI (Nat.beq n 0) mu a v with
  | some (x,mu')=>match zdf mu' (n-1) (b::r) vs with
   | some (y,mu'')=>some ((x,y),mu'')
   | none=>none
  | none=>none
 | _,_,_=>none
def znU (s:St):ResultVar->Option SV
 | .tmp t=>match zaa s.env t with
  | some (.sv v)=>some v
  | _=>none
 | .cell a ty=>match zaa s.env a,C.T ty with
  | some (.sv (.one (.ptr id off))),some ti=>(match zaa s.mu id with
   | some (.box _ cs)=>znR ti cs off
   | _=>none)
  | _,_=>none
def zix (s:St):List ResultVar->Option (List SV)
 | []=>some []
 | r::rs=>match znU C s r with
  | some v=>match zix s rs with
   | some vs=>some (v::vs)
   | none=>none
  | none=>none
def zbn (mu:Look) (j:Nat):Nat->List (Option (TypeId×Ty))->Option (List SV)
 | _,[]=>some []
 | i,none::r=>zbn mu j (i+1) r
 | i,some _::r=>match mu (inId j+1+i),zbn mu j (i+1) r with
  | some (.row e t xs m),some l=>(match m with
   | .lent=>some (.one (.frow e t xs)::l)
   | _=>none)
  | _,_=>none
def zcd (mu:Look):Nat->List Par->Option (List SV)
 | _,[]=>some []
 | j,.val::ps=>zcd mu (j+1) ps
 | j,.box e _::ps=>match mu (inId j) with
  | some (.box e' cs)=>bif Nat.beq e e' then (match zcd mu (j+1) ps with
   | some l=>some (.agg cs::l)
   | none=>none) else none
  | _=>none
 | j,.mix _ cs::ps=>match zbn mu j 0 cs,zcd mu (j+1) ps with
  | some l,some l'=>some (l++l')
  | _,_=>none
def zlD (f:FuncId) (fn:Func) (s:St):Option (C.sig f).den :=
 match zix C s fn.results.toList with
 | none=>none
 | some vs=>match zcd (zaa s.mu) 0 (C.sig f).pars with
  | none=>none
  | some os=>match zdf s.mu (C.sig f).res.length (C.sig f).outs (vs++os) with
   | some (x,_)=>some x
   | none=>none
def endK (f:FuncId) (fn:Func):Ex->St->Option (C.sig f).den:=fun e s'=>match e with
 | .exit _=>none
 | _=>zlD C f fn s'
def PI1 (k:Nat) (f:FuncId) (args:List AV):Option (C.sig f).den:=match C.prim f with
 | some g=>g args
 | none=>match C.fns f with
  | none=>none
  | some fn=>match fn.body with
   | none=>none
   | some c=>match zcc 0 (C.sig f).pars args with
    | none=>none
    | some s=>zgS C pi f fn.ntmps k c (endK C f fn) s
def PI:Nat->(f:FuncId)->List AV->Option (C.sig f).den
 | 0,_,_=>none
 | k+1,f,args=>PI1 C (PI k) k f args
theorem zac {k:Nat} {f:FuncId} {args:List AV} {x:Option (C.sig f).den} (h:PI1 C (PI C k) k f args=x):PI C (k+1) f args=x:=h
def zap (k:Nat) (f:FuncId) (p:List Bool) (ms:List Nat) (s:St):Option (C.sig f).den :=
 match C.fns f with
 | none=>none
 | some fn=>match fn.body with
  | none=>none
  | some c=>goP C (PI C k) f fn.ntmps k p c (endK C f fn) s ms
end
end Go.Proofs.YtdhkgmhdengnkaaGreatDoorPi
namespace Go.Proofs.YtdhkgmhdengnkaaGreatDoorPi
set_option linter.unusedVariables false
set_option linter.unusedSimpArgs false
open Go
structure RI where
 g:Option Nat
 cap:Nat
 len:Nat
 sz:Nat
structure Sit where
 V:Nat->Prop
 ρ:Nat->Option RI
 w:World
 R:Nat->Prop
def KL {α:Type} (R:α->List Value->Prop):List α->List Value->Prop
 | [],vs=>vs=[]
 | x::xs,vs=>∃ a b,vs=a++b/\R x a/\KL R xs b
def lies (w:World) (g o:Nat) (vs:List Value):Prop:=∀ (j:Nat) (u:Value),vs[j]? = some u->w.cell? ⟨g,o+j,none⟩=some u
def KR (V:Nat->Prop) (w:World):(t:Ty)->t.den->List Value->Prop
 | .int k,n,vs=>vs=[.int k n]
 | .bool,b,vs=>vs=[.bool b]
 | .str,s,vs=>vs=[.string s]
 | .unit,_,vs=>vs=[]
 | .pair a b,x,vs=>∃ p q,vs=p++q/\KR V w a x.1 p/\KR V w b x.2 q
 | .sl _ t,xs,vs=>∃ A c,vs=[.slice A (List.length (α:=t.den) xs) c]/\List.length (α:=t.den) xs<=c /\
     (List.length (α:=t.den) xs=0 \/ ∃ g o us,A=some ⟨g,o,none⟩/\V g/\KL (KR V w t) xs us/\lies w g o us)
def hdr0 (i:RI) (n:Nat) (v:Value):Prop :=
 match i.g with
 | none=>n=0 /\ ∃ A,v = .slice A 0 0
 | some g=>v = .slice (some ⟨g,0,none⟩) n i.cap
def hdrs (i:RI) (o n:Nat) (v:Value):Prop :=
 ∃ A c,v = .slice A n c/\n<=c/\(n=0 \/ ∃ g,i.g=some g/\A=some ⟨g,o*i.sz,none⟩)
mutual
def CR (σ:Sit):Cel->Value->Prop
 | .int k n,v=>v = .int k n
 | .bool b,v=>v = .bool b
 | .str s,v=>v = .string s
 | .nilsl,v=>v = .slice none 0 0
 | .sl e t xs,v=>KR σ.V σ.w (.sl e t) xs [v]
 | .full id,v=>∃ i,σ.ρ id=some i/\hdr0 i i.len v
 | .pre id n,v=>∃ i,σ.ρ id=some i/\n<=i.len/\hdr0 i n v
 | .sub id o n,v=>∃ i,σ.ρ id=some i/\o+n<=i.len/\hdrs i o n v
 | .ptr id off,v=>∃ i g,σ.ρ id=some i/\i.g=some g/\v = .pointer (some ⟨g,off,none⟩)
 | .iptr id j off,v=>∃ i g,σ.ρ id=some i/\0<=j/\j < (i.len:Int)/\i.g=some g/\v = .pointer (some ⟨g,j.toNat*i.sz+off,none⟩)
 | .rptr cs off,v=>∃ g o us,v = .pointer (some ⟨g,o+off,none⟩)/\(σ.V g \/ σ.R g)/\CRs σ cs us/\lies σ.w g o us
 | .nilp,v=>v = .pointer none
 | .fn f caps,v=>∃ us:List Value,v = .func (.func f) #[] us.toArray/\CRs σ caps us
 | .frow _ _ _,_=>False
 | .junk,v=>v.oneCell'=true
def CRs (σ:Sit):List Cel->List Value->Prop
 | [],us=>us=[]
 | c::cs,us=>∃ u r,us=u::r/\CR σ c u/\CRs σ cs r
end
def SR (σ:Sit):SV->Value->Prop
 | .one c,v=>CR σ c v
 | .agg cs,v=>∃ us:List Value,v = .agg us.toArray/\CRs σ cs us
def SRs (σ:Sit):List SV->List Value->Prop
 | [],us=>us=[]
 | c::cs,us=>∃ u r,us=u::r/\SR σ c u/\SRs σ cs r
def AR (σ:Sit):AV->Value->Prop
 | .sv s,v=>SR σ s v
 | .tup vs,v=>∃ us:List Value,v = .tuple us.toArray/\SRs σ vs us
 | .junk,_=>True
def ARs (σ:Sit):List AV->List Value->Prop
 | [],us=>us=[]
 | c::cs,us=>∃ u r,us=u::r/\AR σ c u/\ARs σ cs r
structure Sit.Le (σ σ':Sit):Prop where
 id:∀ i r,σ.ρ i=some r->σ'.ρ i=some r
 blk:∀ g,σ.V g->σ'.V g/\σ'.w.heap[g]? = σ.w.heap[g]?
 rd:∀ g,σ.R g->σ'.R g/\σ'.w.heap[g]? = σ.w.heap[g]?
theorem Sit.Le.vr {σ σ':Sit} (h:σ.Le σ') {g:Nat} (k:σ.V g \/ σ.R g):(σ'.V g \/ σ'.R g)/\σ'.w.heap[g]? = σ.w.heap[g]?:=by
 rcases k with k | k
 · exact ⟨.inl (h.blk g k).1,(h.blk g k).2⟩
 · exact ⟨.inr (h.rd g k).1,(h.rd g k).2⟩
theorem Sit.Le.refl (σ:Sit):σ.Le σ:=⟨fun _ _ h=>h,fun _ h=>⟨h,rfl⟩,fun _ h=>⟨h,rfl⟩⟩
theorem Sit.Le.trans {a b c:Sit} (h:a.Le b) (k:b.Le c):a.Le c :=
 ⟨fun i r e=>k.id _ _ (h.id _ _ e),fun g hg=>⟨(k.blk g (h.blk g hg).1).1,(k.blk g (h.blk g hg).1).2.trans (h.blk g hg).2⟩,fun g hg=>⟨(k.rd g (h.rd g hg).1).1,(k.rd g (h.rd g hg).1).2.trans (h.rd g hg).2⟩⟩
theorem ziy {w w':World} {g o:Nat} (h:w'.heap[g]? = w.heap[g]?):w'.cell? ⟨g,o,none⟩=w.cell? ⟨g,o,none⟩ :=
 World.cell?_of_block (w:=w) h
theorem lies.mono {w w':World} {g o:Nat} {us:List Value} (h:w'.heap[g]? = w.heap[g]?) (k:lies w g o us):lies w' g o us :=
 fun j u e=>(ziy h).trans (k j u e)
theorem KL.imp {α:Type} {R R':α->List Value->Prop} (h:∀ x vs,R x vs->R' x vs):∀ (xs:List α) (vs:List Value),KL R xs vs->KL R' xs vs
 | [],_,k=>k
 | _::xs,_,⟨a,b,e,ha,hb⟩=>⟨a,b,e,h _ _ ha,KL.imp h xs b hb⟩
theorem KR.mono {V V':Nat->Prop} {w w':World} (h:∀ g,V g->V' g/\w'.heap[g]? = w.heap[g]?):∀ (t:Ty) (x:t.den) (vs:List Value),KR V w t x vs->KR V' w' t x vs
 | .int _,_,_,k=>k
 | .bool,_,_,k=>k
 | .str,_,_,k=>k
 | .unit,_,_,k=>k
 | .pair a b,x,_,⟨p,q,e,hp,hq⟩=>⟨p,q,e,KR.mono h a x.1 p hp,KR.mono h b x.2 q hq⟩
 | .sl _ t,_,_,⟨A,c,e,hc,hk⟩=>⟨A,c,e,hc,hk.imp id fun ⟨g,o,us,eA,hV,hl,hm⟩=>⟨g,o,us,eA,(h g hV).1,KL.imp (KR.mono h t) _ _ hl,hm.mono (h g hV).2⟩⟩
mutual
theorem CR.mono {σ σ':Sit} (h:σ.Le σ'):∀ (c:Cel) (v:Value),CR σ c v->CR σ' c v
 | .int _ _,_,k=>by simpa [CR] using k
 | .bool _,_,k=>by simpa [CR] using k
 | .str _,_,k=>by simpa [CR] using k
 | .nilsl,_,k=>by simpa [CR] using k
 | .sl e t xs,v,k=>by
  simp only [CR] at k ⊢
  exact KR.mono h.blk _ _ _ k
 | .full id,_,k=>by
  simp only [CR] at k ⊢
  obtain ⟨i,e,r⟩:=k
  exact ⟨i,h.id _ _ e,r⟩
 | .pre id n,_,k=>by
  simp only [CR] at k ⊢
  obtain ⟨i,e,r⟩:=k
  exact ⟨i,h.id _ _ e,r⟩
 | .sub id o n,_,k=>by
  simp only [CR] at k ⊢
  obtain ⟨i,e,r⟩:=k
  exact ⟨i,h.id _ _ e,r⟩
 | .ptr id o,_,k=>by
  simp only [CR] at k ⊢
  obtain ⟨i,g,e,r⟩:=k
  exact ⟨i,g,h.id _ _ e,r⟩
 | .iptr id j o,_,k=>by
  simp only [CR] at k ⊢
  obtain ⟨i,g,e,r⟩:=k
  exact ⟨i,g,h.id _ _ e,r⟩
 | .rptr cs off,_,k=>by
  simp only [CR] at k ⊢
  obtain ⟨g,o,us,e,hV,hc,hl⟩:=k
  exact ⟨g,o,us,e,(h.vr hV).1,CRs.mono h cs us hc,hl.mono (h.vr hV).2⟩
 | .nilp,_,k=>by simpa [CR] using k
 | .fn f caps,_,k=>by
  simp only [CR] at k ⊢
  obtain ⟨us,e,hc⟩:=k
  exact ⟨us,e,CRs.mono h caps us hc⟩
 | .frow _ _ _,_,k=>by simp only [CR] at k
 | .junk,_,k=>by simpa only [CR] using k
theorem CRs.mono {σ σ':Sit} (h:σ.Le σ'):∀ (cs:List Cel) (us:List Value),CRs σ cs us->CRs σ' cs us
 | [],_,k=>by simpa [CRs] using k
 | c::cs,_,k=>by
  simp only [CRs] at k ⊢
  obtain ⟨u,r,e,hc,hr⟩:=k
  exact ⟨u,r,e,CR.mono h c u hc,CRs.mono h cs r hr⟩
end
theorem SR.mono {σ σ':Sit} (h:σ.Le σ'):∀ (s:SV) (v:Value),SR σ s v->SR σ' s v
 | .one c,v,k=>CR.mono h c v k
 | .agg cs,_,⟨us,e,k⟩=>⟨us,e,CRs.mono h cs us k⟩
theorem SRs.mono {σ σ':Sit} (h:σ.Le σ'):∀ (s:List SV) (v:List Value),SRs σ s v->SRs σ' s v
 | [],_,k=>k
 | c::cs,_,⟨u,r,e,hc,hr⟩=>⟨u,r,e,SR.mono h c u hc,SRs.mono h cs r hr⟩
theorem AR.mono {σ σ':Sit} (h:σ.Le σ'):∀ (s:AV) (v:Value),AR σ s v->AR σ' s v
 | .sv s,v,k=>SR.mono h s v k
 | .tup vs,_,⟨us,e,k⟩=>⟨us,e,SRs.mono h vs us k⟩
 | .junk,_,_=>trivial
theorem ARs.mono {σ σ':Sit} (h:σ.Le σ'):∀ (s:List AV) (v:List Value),ARs σ s v->ARs σ' s v
 | [],_,k=>k
 | c::cs,_,⟨u,r,e,hc,hr⟩=>⟨u,r,e,AR.mono h c u hc,ARs.mono h cs r hr⟩
theorem znV {σ:Sit} (c:Cel) (v:Value) (h:CR σ c v):v.oneCell'=true:=by
 cases c <;> simp only [CR] at h
 case sl e t xs=>simp only [KR] at h; obtain ⟨A,c,e,_⟩:=h; simp only [List.cons.injEq,and_true] at e; rw [e]; rfl
 case full=>obtain ⟨i,_,h⟩:=h; unfold hdr0 at h; split at h; (obtain ⟨_,A,rfl⟩:=h; rfl); (rw [h]; rfl)
 case pre=>obtain ⟨i,_,_,h⟩:=h; unfold hdr0 at h; split at h; (obtain ⟨_,A,rfl⟩:=h; rfl); (rw [h]; rfl)
 case sub=>obtain ⟨i,_,_,A,c,rfl,_⟩:=h; rfl
 case ptr=>obtain ⟨i,g,_,_,rfl⟩:=h; rfl
 case iptr=>obtain ⟨i,g,_,_,_,_,rfl⟩:=h; rfl
 case rptr=>obtain ⟨g,o,us,rfl,_⟩:=h; rfl
 case fn=>obtain ⟨us,rfl,_⟩:=h; rfl
 all_goals first | exact h | (rw [h]; rfl)
theorem zlE {v:Value} (h:v.oneCell'=true):v.cells = #[v]:=by cases v <;> first | rfl | (simp [Value.oneCell'] at h)
theorem zh9 {σ:Sit}:∀ (cs:List Cel) (us:List Value),CRs σ cs us->∀ u∈us,u.oneCell'=true
 | [],_,h,u,hu=>by simp only [CRs] at h; subst h; simp at hu
 | c::cs,_,h,u,hu=>by
  simp only [CRs] at h
  obtain ⟨x,r,rfl,h1,h2⟩:=h
  rcases List.mem_cons.1 hu with rfl | hu
  · exact znV c _ h1
  · exact zh9 cs r h2 u hu
theorem zgl {σ:Sit} (s:SV) (v:Value) (h:SR σ s v):CRs σ s.cells v.cells.toList:=by
 cases s with
 | one c =>
  have h':CR σ c v:=h
  rw [zlE (znV c v h')]
  simp only [SV.cells,CRs]
  exact ⟨v,[],rfl,h',rfl⟩
 | agg cs =>
  obtain ⟨us,rfl,h⟩:=h
  simpa [SV.cells,Value.cells] using h
theorem zbO {σ:Sit}:∀ {a b:List Cel} {us vs:List Value},CRs σ a us->CRs σ b vs->CRs σ (a++b) (us++vs)
 | [],_,_,_,h,k=>by
  simp only [CRs] at h
  subst h
  exact k
 | c::a,b,_,_,h,k=>by
  simp only [CRs] at h
  obtain ⟨u,r,rfl,hc,hr⟩:=h
  simp only [List.cons_append,CRs]
  exact ⟨u,r++_,rfl,hc,zbO hr k⟩
theorem zlF {σ:Sit}:∀ {a b:List Cel} {us:List Value},CRs σ (a++b) us->∃ p q,us=p++q/\CRs σ a p/\CRs σ b q
 | [],_,us,h=>⟨[],us,rfl,by simp [CRs],h⟩
 | c::a,b,_,h=>by
  simp only [List.cons_append,CRs] at h
  obtain ⟨u,r,rfl,hc,hr⟩:=h
  obtain ⟨p,q,rfl,hp,hq⟩:=zlF hr
  exact ⟨u::p,q,rfl,by simp only [CRs]; exact ⟨u,p,rfl,hc,hp⟩,hq⟩
theorem zbz {σ:Sit}:∀ {a:List Cel} {us:List Value},CRs σ a us->us.length=a.length
 | [],_,h=>by simp only [CRs] at h; subst h; rfl
 | c::a,_,h=>by
  simp only [CRs] at h
  obtain ⟨u,r,rfl,_,hr⟩:=h
  simp [zbz hr]
theorem zmT {σ:Sit} {c:Cel} {us:List Value}:CRs σ [c] us ↔ ∃ u,us=[u]/\CR σ c u:=by
 simp only [CRs]
 constructor
 · rintro ⟨u,r,rfl,h,rfl⟩; exact ⟨u,rfl,h⟩
 · rintro ⟨u,rfl,h⟩; exact ⟨u,[],rfl,h,rfl⟩
theorem zgT:∀ (t:Ty) (x:t.den),(t.emb x).length=t.size
 | .int _,_ | .bool,_ | .str,_ | .sl _ _,_ | .unit,_=>rfl
 | .pair a b,x=>by simp [Ty.emb,Ty.size,zgT a x.1,zgT b x.2]
theorem zcr {σ:Sit}:∀ (t:Ty) (x:t.den) (us:List Value),CRs σ (t.emb x) us ↔ KR σ.V σ.w t x us
 | .int k,n,us=>by simp [Ty.emb,CRs,CR,KR]
 | .bool,b,us=>by simp [Ty.emb,CRs,CR,KR]
 | .str,s,us=>by simp [Ty.emb,CRs,CR,KR]
 | .unit,_,us=>by simp [Ty.emb,CRs,KR]
 | .pair a b,x,us=>by
  simp only [Ty.emb,KR]
  constructor
  · intro h
    obtain ⟨p,q,rfl,hp,hq⟩:=zlF h
    exact ⟨p,q,rfl,(zcr a x.1 p).1 hp,(zcr b x.2 q).1 hq⟩
  · rintro ⟨p,q,rfl,hp,hq⟩
    exact zbO ((zcr a x.1 p).2 hp) ((zcr b x.2 q).2 hq)
 | .sl e t,xs,us=>by
  simp only [Ty.emb]
  rw [zmT]
  constructor
  · rintro ⟨u,rfl,h⟩; simpa only [CR] using h
  · intro h
    have h':=h
    simp only [KR] at h'
    obtain ⟨A,c,rfl,_⟩:=h'
    exact ⟨_,rfl,by simpa only [CR] using h⟩
theorem zcL {V:Nat->Prop} {w:World} (t:Ty) (x:t.den) (us:List Value) (h:KR V w t x us):us.length=t.size:=by
 have:=zbz ((zcr (σ:=⟨V,fun _=>none,w,fun _=>False⟩) t x us).2 h)
 rw [this,zgT]
theorem zgm {V:Nat->Prop} {w:World} (t:Ty):∀ (xs:List t.den) (us:List Value),KL (KR V w t) xs us->us.length=xs.length*t.size
 | [],_,h=>by rw [show _=[] from h]; simp
 | x::xs,_,⟨a,b,rfl,ha,hb⟩=>by
  rw [List.length_append,zcL t x a ha,zgm t xs b hb,List.length_cons,Nat.add_mul]; omega
theorem zgn {α:Type} {R:α->List Value->Prop}:∀ {xs ys:List α} {us vs:List Value},KL R xs us->KL R ys vs->KL R (xs++ys) (us++vs)
 | [],_,_,_,h,k=>by rw [show _=[] from h]; exact k
 | x::xs,ys,_,_,⟨a,b,e,ha,hb⟩,k=>by subst e; exact ⟨a,b++_,by simp,ha,zgn hb k⟩
theorem znW {α:Type} {R:α->List Value->Prop}:∀ {xs ys:List α} {us:List Value},KL R (xs++ys) us->∃ p q,us=p++q/\KL R xs p/\KL R ys q
 | [],_,us,h=>⟨[],us,rfl,rfl,h⟩
 | x::xs,ys,_,⟨a,b,e,ha,hb⟩=>by
  obtain ⟨p,q,rfl,hp,hq⟩:=znW hb
  exact ⟨a++p,q,by simp [e],⟨a,p,rfl,ha,hp⟩,hq⟩
theorem zoH {V:Nat->Prop} {w:World} (t:Ty) (d:t.den):∀ (xs:List t.den) (us:List Value) (i:Nat),KL (KR V w t) xs us->i < xs.length ->
    ∃ a,KR V w t (xs.getD i d) a /\ ∀ (j:Nat) (u:Value),a[j]? = some u->us[i*t.size+j]? = some u
 | [],_,_,_,h=>by simp at h
 | x::xs,_,0,⟨a,b,rfl,ha,hb⟩,_=>⟨a,by simpa using ha,fun j u e=>by
    rw [Nat.zero_mul,Nat.zero_add,List.getElem?_append_left (by have:=(List.getElem?_eq_some_iff.1 e).1; omega)]; exact e⟩
 | x::xs,_,i+1,⟨a,b,rfl,ha,hb⟩,h=>by
  obtain ⟨a',h1,h2⟩:=zoH t d xs b i hb (by simpa using h)
  refine ⟨a',by simpa using h1,fun j u e=>?_⟩
  have hl:=zcL t x a ha
  rw [List.getElem?_append_right (by rw [hl,Nat.add_mul]; omega),<- h2 j u e]
  congr 1
  rw [hl,Nat.add_mul]; omega
end Go.Proofs.YtdhkgmhdengnkaaGreatDoorPi
namespace Go.Proofs.YtdhkgmhdengnkaaGreatDoorPi
set_option linter.unusedVariables false
set_option linter.unusedSimpArgs false
open Go
def zjV (C:Ctx) (e:TypeId) (t:Ty):Prop:=∃ ti,C.T e=some ti/\ti.ty=some t
def RowR (σ:Sit) (i:RI) (e:TypeId) (t:Ty) (xs:List t.den):Prop :=
 match i.g with
 | none=>xs=[]
 | some g=>∃ cur:Array Value,σ.w.heap[g]? = some (.cells cur e (0,0))/\xs.length<=i.cap/\i.cap<=maxLen/\cur.size=i.cap*t.size /\
     KL (KR σ.V σ.w t) xs (cur.toList.take (xs.length*t.size))
def ContR (C:Ctx) (σ:Sit) (id:Nat):Cont->Prop
 | .box e cs=>∃ i g cur,σ.ρ id=some i/\i.g=some g/\σ.w.heap[g]? = some (.cells cur e (0,0))/\CRs σ cs cur.toList
 | .row e t xs _=>∃ i,σ.ρ id=some i/\i.len=xs.length/\i.sz=t.size/\zjV C e t/\RowR σ i e t xs
def MuR (C:Ctx) (σ:Sit) (mu:Look):Prop:=∀ id c,mu id=some c->ContR C σ id c
theorem zlG {w:World} {g:Nat} {cur:Array Value} {e:TypeId} {fz:Nat×Nat} (h:w.heap[g]? = some (.cells cur e fz)) (o m:Nat):lies w g o ((cur.toList.drop o).take m):=by
 intro j u hu
 rw [List.getElem?_take] at hu
 split at hu
 · rw [cell_of_row w g (o+j) cur e fz h]
   rw [List.getElem?_drop] at hu
   simpa using hu
 · cases hu
theorem zsS {α:Type} {R:α->List Value->Prop} {xs:List α} {us:List Value} (n:Nat) (h:KL R xs us):∃ p q,us=p++q/\KL R (xs.take n) p/\KL R (xs.drop n) q:=by
 rw [<- List.take_append_drop n xs] at h
 exact znW h
theorem zcY {V:Nat->Prop} {w:World} (t:Ty) {xs:List t.den} {us:List Value} (n:Nat) (h:KL (KR V w t) xs us) (hn:n<=xs.length) :
    KL (KR V w t) (xs.take n) (us.take (n*t.size))/\KL (KR V w t) (xs.drop n) (us.drop (n*t.size)):=by
 obtain ⟨p,q,rfl,hp,hq⟩:=zsS n h
 have hl:=zgm t _ _ hp
 rw [List.length_take,Nat.min_eq_left hn] at hl
 rw [<- hl,List.take_left,List.drop_left]
 exact ⟨hp,hq⟩
theorem zsT {α:Type} (d:α) (xs:List α) {i:Nat} (h:i < xs.length):xs.getD i d=xs[i]:=by simp [h]
theorem zkJ {C:Ctx} {σ:Sit} {V':Nat->Prop} (hV:∀ g,σ.V g->V' g) {id:Nat} {e:TypeId} {t:Ty} {xs:List t.den} {m:RMode}
    (hc:ContR C σ id (.row e t xs m)) (hg:∀ i g,σ.ρ id=some i->i.g=some g->V' g) {i:RI} (hi:σ.ρ id=some i) {o n:Nat} (hon:o+n<=i.len) {v:Value}
    (hv:∃ A c,v = .slice A n c/\n<=c/\(n=0 \/ ∃ g,i.g=some g/\A=some ⟨g,o*i.sz,none⟩)) :
    KR V' σ.w (.sl e t) ((xs.drop o).take n) [v]:=by
 obtain ⟨i',hi',hlen,hsz,_,hr⟩:=hc
 rw [hi] at hi'
 obtain rfl:=Option.some.inj hi'
 obtain ⟨A,c,rfl,hnc,hA⟩:=hv
 rw [hlen] at hon
 have hl:((xs.drop o).take n).length=n:=by simp; omega
 refine ⟨A,c,by rw [show List.length (α:=t.den) _=n from hl],by rw [show List.length (α:=t.den) _=n from hl]; exact hnc,?_⟩
 rcases hA with hA | ⟨g,hgg,rfl⟩
 · exact .inl (by rw [show List.length (α:=t.den) _=n from hl]; exact hA)
 · simp only [RowR,hgg] at hr
   obtain ⟨cur,hh,_,_,_,hk⟩:=hr
   have hk2:=(zcY t o hk (by omega)).2
   have hk3:=(zcY t n hk2 (by simp; omega)).1
   have hm:(o+n)*t.size<=xs.length*t.size:=Nat.mul_le_mul_right _ hon
   rw [Nat.add_mul] at hm
   rw [List.drop_take,List.take_take,Nat.min_eq_left (by omega)] at hk3
   refine .inr ⟨g,o*i.sz,_,rfl,hg i g hi hgg,KL.imp (KR.mono (V':=V') (w':=σ.w) (fun g h=>⟨hV g h,rfl⟩) t) _ _ hk3,?_⟩
   rw [hsz]
   exact zlG hh (o*t.size) (n*t.size)
theorem zbU {C:Ctx} {σ:Sit} {id:Nat} {e:TypeId} {t:Ty} {xs:List t.den} {m:RMode} (hc:ContR C σ id (.row e t xs m)) {i:RI} (hi:σ.ρ id=some i) :
    i.len=xs.length/\i.sz=t.size/\(i.g=none->xs.length=0)/\(∀ g,i.g=some g->xs.length<=i.cap):=by
 obtain ⟨i',hi',hlen,hsz,_,hr⟩:=hc
 rw [hi] at hi'
 obtain rfl:=Option.some.inj hi'
 refine ⟨hlen,hsz,fun h=>?_,fun g h=>?_⟩
 · simp only [RowR,h] at hr; simp [hr]
 · simp only [RowR,h] at hr
   obtain ⟨cur,_,h2,_⟩:=hr
   exact h2
theorem zdY {i:RI} {n:Nat} {v:Value} (h:hdr0 i n v) (hn:∀ g,i.g=some g->n<=i.cap) :
    ∃ A c,v = .slice A n c/\n<=c/\(n=0 \/ ∃ g,i.g=some g/\A=some ⟨g,0*i.sz,none⟩):=by
 unfold hdr0 at h
 split at h
 · obtain ⟨rfl,A,rfl⟩:=h
   exact ⟨A,0,rfl,Nat.le_refl _,.inl rfl⟩
 · rename_i g hg
   subst h
   exact ⟨_,_,rfl,hn g hg,.inr ⟨g,hg,by simp⟩⟩
theorem zdZ {C:Ctx} {σ:Sit} {mu:Look} {V':Nat->Prop} (hM:MuR C σ mu) (hV:∀ g,σ.V g->V' g) :
    ∀ (c c':Cel) (v:Value),snap mu c=some c'->CR σ c v->(∀ id∈zbr mu 6 c,∀ i g,σ.ρ id=some i->i.g=some g->V' g)->CR ⟨V',σ.ρ,σ.w,σ.R⟩ c' v:=by
 have hle:σ.Le ⟨V',σ.ρ,σ.w,σ.R⟩:=⟨fun _ _ h=>h,fun g h=>⟨hV g h,rfl⟩,fun _ h=>⟨h,rfl⟩⟩
 intro c c' v hs hc hb
 cases c <;> simp only [snap] at hs <;> try (first | (cases hs; exact CR.mono hle _ _ hc) | cases hs)
 case full id =>
  split at hs
  · rename_i e t xs m hm
    cases hs
    simp only [CR] at hc ⊢
    obtain ⟨i,hi,hv⟩:=hc
    have hC:=hM id _ hm
    obtain ⟨h1,h2,h3,h4⟩:=zbU hC hi
    have hb':∀ i g,σ.ρ id=some i->i.g=some g->V' g:=hb id (by simp [zbr])
    have:=zkJ hV hC hb' hi (o:=0) (n:=i.len) (by omega) (zdY hv (by rw [h1]; exact h4))
    rw [h1] at this
    simpa using this
  · cases hs
 case pre id n =>
  split at hs
  · rename_i e t xs m hm
    cases hs
    simp only [CR] at hc ⊢
    obtain ⟨i,hi,hn,hv⟩:=hc
    have hC:=hM id _ hm
    obtain ⟨h1,h2,h3,h4⟩:=zbU hC hi
    have hb':∀ i g,σ.ρ id=some i->i.g=some g->V' g:=hb id (by simp [zbr])
    have:=zkJ hV hC hb' hi (o:=0) (n:=n) (by omega) (zdY hv (fun g hg=>by have:=h4 g hg; omega))
    simpa using this
  · cases hs
 case sub id o n =>
  split at hs
  · rename_i e t xs m hm
    cases hs
    simp only [CR] at hc ⊢
    obtain ⟨i,hi,hn,hv⟩:=hc
    have hC:=hM id _ hm
    have hb':∀ i g,σ.ρ id=some i->i.g=some g->V' g:=hb id (by simp [zbr])
    exact zkJ hV hC hb' hi (o:=o) (n:=n) (by omega) hv
  · cases hs
theorem zfK {C:Ctx} {σ:Sit} {mu:Look} {V':Nat->Prop} (hM:MuR C σ mu) (hV:∀ g,σ.V g->V' g) :
    ∀ (cs cs':List Cel) (us:List Value),zkH mu cs=some cs'->CRs σ cs us->(∀ id∈cs.flatMap (zbr mu 6),∀ i g,σ.ρ id=some i->i.g=some g->V' g)->CRs ⟨V',σ.ρ,σ.w,σ.R⟩ cs' us
 | [],cs',us,hs,hc,_=>by simp only [zkH] at hs; cases hs; simpa [CRs] using hc
 | c::cs,cs',us,hs,hc,hb=>by
  simp only [zkH] at hs
  split at hs
  · rename_i c' hc'
    split at hs
    · rename_i r hr
      cases hs
      simp only [CRs] at hc ⊢
      obtain ⟨u,us',rfl,h1,h2⟩:=hc
      simp only [List.flatMap_cons,List.mem_append] at hb
      exact ⟨u,us',rfl,zdZ hM hV c c' u hc' h1 (fun id h=>hb id (.inl h)),zfK hM hV cs r us' hr h2 (fun id h=>hb id (.inr h))⟩
    · cases hs
  · cases hs
theorem zd0 {t:Ty} (h:t.beq t=true) (xs:List t.den):zgb h xs=xs:=rfl
theorem zpL {σ:Sit}:∀ (t:Ty) (cs:List Cel) (x:t.den) (r:List Cel) (us:List Value),t.dec cs=some (x,r)->CRs σ cs us ->
    ∃ p q,us=p++q/\KR σ.V σ.w t x p/\CRs σ r q:=by
 intro t
 induction t with
 | int k =>
  intro cs x r us h hc
  cases cs with
  | nil=>simp [Ty.dec] at h
  | cons c cs =>
   cases c <;> simp only [Ty.dec] at h <;> try cases h
   rename_i k' n
   simp only [CRs] at hc
   obtain ⟨u,us',rfl,h1,h2⟩:=hc
   cases hk:kbeq k k' with
   | false=>rw [hk] at h; cases h
   | true =>
    rw [hk] at h
    cases h
    obtain rfl:=zcR hk
    exact ⟨[u],us',rfl,by simp only [CR] at h1; simp [KR,h1],h2⟩
 | bool =>
  intro cs x r us h hc
  cases cs with
  | nil=>simp [Ty.dec] at h
  | cons c cs =>
   cases c <;> simp only [Ty.dec] at h <;> try cases h
   simp only [CRs] at hc
   obtain ⟨u,us',rfl,h1,h2⟩:=hc
   exact ⟨[u],us',rfl,by simp only [CR] at h1; simp [KR,h1],h2⟩
 | str =>
  intro cs x r us h hc
  cases cs with
  | nil=>simp [Ty.dec] at h
  | cons c cs =>
   cases c <;> simp only [Ty.dec] at h <;> try cases h
   simp only [CRs] at hc
   obtain ⟨u,us',rfl,h1,h2⟩:=hc
   exact ⟨[u],us',rfl,by simp only [CR] at h1; simp [KR,h1],h2⟩
 | unit =>
  intro cs x r us h hc
  simp only [Ty.dec] at h
  cases h
  exact ⟨[],us,rfl,by simp [KR],hc⟩
 | pair a b iha ihb =>
  intro cs x r us h hc
  simp only [Ty.dec] at h
  split at h
  · rename_i x1 r1 h1
    split at h
    · rename_i x2 r2 h2
      cases h
      obtain ⟨p,q,rfl,hp,hq⟩:=iha cs x1 r1 us h1 hc
      obtain ⟨p',q',rfl,hp',hq'⟩:=ihb r1 x2 _ q h2 hq
      exact ⟨p++p',q',by simp,⟨p,p',rfl,hp,hp'⟩,hq'⟩
    · cases h
  · cases h
 | sl e t _ =>
  intro cs x r us h hc
  cases cs with
  | nil=>simp [Ty.dec] at h
  | cons c cs =>
   cases c <;> simp only [Ty.dec] at h <;> try cases h
   case nilsl.refl =>
    simp only [CRs] at hc
    obtain ⟨u,us',rfl,h1,h2⟩:=hc
    simp only [CR] at h1
    subst h1
    exact ⟨[_],us',rfl,⟨none,0,rfl,Nat.le_refl _,.inl rfl⟩,h2⟩
   case sl e' t' xs =>
    split at h
    · rename_i hb
      obtain rfl:=Ty.beq_eq hb
      cases he:Nat.beq e e' with
      | false=>rw [he] at h; cases h
      | true =>
       rw [he] at h
       cases h
       simp only [CRs] at hc
       obtain ⟨u,us',rfl,h1,h2⟩:=hc
       simp only [CR] at h1
       exact ⟨[u],us',rfl,h1,h2⟩
    · cases h
theorem zdv {σ:Sit} {t:Ty} {cs:List Cel} {x:t.den} {us:List Value} (h:t.decAll cs=some x) (hc:CRs σ cs us):KR σ.V σ.w t x us:=by
 unfold Ty.decAll at h
 split at h
 · rename_i y hy
   cases h
   obtain ⟨p,q,rfl,hp,hq⟩:=zpL t cs x [] us hy hc
   simp only [CRs] at hq
   subst hq
   simpa using hp
 · cases h
end Go.Proofs.YtdhkgmhdengnkaaGreatDoorPi
namespace Go.Proofs.YtdhkgmhdengnkaaGreatDoorPi
set_option linter.unusedVariables false
set_option linter.unusedSimpArgs false
open Go
theorem zlH {a b:Nat} (h:a ≠ b):Nat.beq a b=false:=by
 cases e:Nat.beq a b with
 | false=>rfl
 | true=>exact absurd (Nat.eq_of_beq_eq_true e) h
theorem zcZ (a:Nat):Nat.beq a a=true:=Nat.beq_refl a
section assoc
variable {α:Type}
theorem zag (k:Nat) (v:α) (r:List (Nat×α)):zaa ((k,v)::r) k=some v:=by simp [zaa,zcZ]
theorem zad {k i:Nat} (v:α) (r:List (Nat×α)) (h:k ≠ i):zaa ((k,v)::r) i=zaa r i:=by simp [zaa,zlH h]
theorem zaD (i:Nat):∀ r:List (Nat×α),zaa (adel r i) i=none
 | []=>rfl
 | (k,v)::r=>by
  simp only [adel]
  cases e:Nat.beq k i with
  | true=>simpa using zaD i r
  | false =>
   simp only [cond_false,zaa,e]
   exact zaD i r
theorem zao {i j:Nat} (h:i ≠ j):∀ r:List (Nat×α),zaa (adel r i) j=zaa r j
 | []=>rfl
 | (k,v)::r=>by
  simp only [adel]
  cases e:Nat.beq k i with
  | true =>
   have hk:k ≠ j:=fun hkj=>h ((Nat.eq_of_beq_eq_true e).symm.trans hkj)
   simp only [cond_true]
   rw [zao h r,zad v r hk]
  | false =>
   simp only [cond_false,zaa]
   rw [zao h r]
end assoc
theorem zcs (mu:List (Nat×Cont)):∀ (a b:List (Nat×Option Cont)),zab mu (a++b)=zab (zab mu a) b:=by
 intro a
 induction a generalizing mu with
 | nil=>intro b; rfl
 | cons x a ih =>
  intro b
  obtain ⟨id,c⟩:=x
  cases c <;> simp only [List.cons_append,zab] <;> exact ih _ b
theorem zc0:∀ (a b:List (Nat×Option Cont)) (d:List Nat),zbX (a++b) d=zbX b (zbX a d):=by
 intro a
 induction a with
 | nil=>intro b d; rfl
 | cons x a ih =>
  intro b d
  obtain ⟨id,c⟩:=x
  cases c <;> simp only [List.cons_append,zbX] <;> exact ih b _
def mutC:Cont->Prop
 | .box _ _=>True
 | .row _ _ _ m=>m ≠ .frozen
structure Ext (X:Nat->Prop) (w0 w:World):Prop where
 os:w.os=w0.os
 tape:w.tape=w0.tape
 output:w.output=w0.output
 size:w0.heap.size<=w.heap.size
 block:∀ g,g < w0.heap.size->¬ X g->w.heap[g]? = w0.heap[g]?
theorem Ext.refl (X:Nat->Prop) (w:World):Ext X w w:=⟨rfl,rfl,rfl,Nat.le_refl _,fun _ _ _=>rfl⟩
structure Base where
 C:Ctx
 X:Nat->Prop
 V0:Nat->Prop
 w0:World
 R0:Nat->Prop
 pin:Nat->Option RI
def Base.V (B:Base) (mu:Look) (ρ:Nat->Option RI) (w:World) (g:Nat):Prop :=
 g < w.heap.size/\(B.V0 g \/ B.w0.heap.size<=g) /\ ∀ id c i,mu id=some c->mutC c->ρ id=some i->i.g ≠ some g
abbrev Base.sit (B:Base) (mu:Look) (ρ:Nat->Option RI) (w:World):Sit:=⟨B.V mu ρ w,ρ,w,B.R0⟩
structure MInv (B:Base) (mu:Look) (dead:List Nat) (ρ:Nat->Option RI) (w:World):Prop where
 cont:MuR B.C (B.sit mu ρ w) mu
 dom:∀ id i,ρ id=some i->mu id ≠ none \/ id∈dead
 sep:∀ id id' i i' g,mu id ≠ none->mu id' ≠ none->ρ id=some i->ρ id'=some i'->i.g=some g->i'.g=some g->id=id'
 own:∀ id i g,mu id ≠ none->ρ id=some i->i.g=some g->B.X g \/ B.w0.heap.size<=g
 lt:∀ id i g,mu id ≠ none->ρ id=some i->i.g=some g->g < w.heap.size
 new:∀ id e t xs m i g,mu id=some (.row e t xs m)->(m = .own \/ m = .frozen)->ρ id=some i->i.g=some g->B.w0.heap.size<=g
 ext:Ext B.X B.w0 w
 rd:∀ g,B.R0 g->g < B.w0.heap.size/\¬ B.X g
theorem MInv.rdLe {B:Base} {mu:Look} {dead:List Nat} {ρ:Nat->Option RI} {w w':World} (H:MInv B mu dead ρ w) (hx:Ext B.X B.w0 w') {g:Nat} (hg:B.R0 g) :
    B.R0 g/\w'.heap[g]? = w.heap[g]? :=
 ⟨hg,(hx.block g (H.rd g hg).1 (H.rd g hg).2).trans (H.ext.block g (H.rd g hg).1 (H.rd g hg).2).symm⟩
theorem RowR.mono {σ σ':Sit} (h:σ.Le σ') {i:RI} {e:TypeId} {t:Ty} {xs:List t.den} (hb:∀ g,i.g=some g->σ'.w.heap[g]? = σ.w.heap[g]?) (k:RowR σ i e t xs):RowR σ' i e t xs:=by
 cases hg:i.g with
 | none =>
  simp only [RowR,hg] at k ⊢
  exact k
 | some g =>
  simp only [RowR,hg] at k ⊢
  obtain ⟨cur,h1,h2,h3,h4,h5⟩:=k
  exact ⟨cur,(hb g hg).trans h1,h2,h3,h4,KL.imp (KR.mono h.blk t) _ _ h5⟩
theorem ContR.mono {C:Ctx} {σ σ':Sit} (h:σ.Le σ') {id:Nat} {c:Cont} (hb:∀ i g,σ.ρ id=some i->i.g=some g->σ'.w.heap[g]? = σ.w.heap[g]?) (k:ContR C σ id c):ContR C σ' id c:=by
 cases c with
 | box e cs =>
  obtain ⟨i,g,cur,h1,h2,h3,h4⟩:=k
  exact ⟨i,g,cur,h.id _ _ h1,h2,(hb i g h1 h2).trans h3,CRs.mono h cs _ h4⟩
 | row e t xs m =>
  obtain ⟨i,h1,h2,h3,h4,h5⟩:=k
  exact ⟨i,h.id _ _ h1,h2,h3,h4,h5.mono h (fun g hg=>hb i g h1 hg)⟩
theorem MInv.one {B:Base} {mu mu':Look} {dead dead':List Nat} {ρ ρ':Nat->Option RI} {w w':World} (H:MInv B mu dead ρ w)
    (id0:Option Nat) (id1:Nat) (c1:Cont) (i1:RI)
    (h1:mu' id1=some c1) (h0:∀ a,id0=some a->a ≠ id1->mu' a=none) (ho:∀ id,id ≠ id1->id0 ≠ some id->mu' id=mu id)
    (r1:ρ' id1=some i1) (ro:∀ id,id ≠ id1->ρ' id=ρ id)
    (hd:∀ id,id∈dead->id∈dead') (hd0:∀ a,id0=some a->a ≠ id1->a∈dead')
    (hm0:∀ a,id0=some a->∃ c,mu a=some c/\mutC c)
    (hf:(id0=some id1/\ρ id1=some i1) \/ ρ id1=none)
    (hg:∀ g,i1.g=some g->g < w'.heap.size/\((∃ a i0,id0=some a/\ρ a=some i0/\i0.g=some g) \/ w.heap.size<=g))
    (hw:w'.os=w.os/\w'.tape=w.tape/\w'.output=w.output/\w.heap.size<=w'.heap.size)
    (hb:∀ g,g < w.heap.size->(∀ a i0,id0=some a->ρ a=some i0->i0.g ≠ some g)->w'.heap[g]? = w.heap[g]?)
    (hn1:∀ e t xs m g,c1 = .row e t xs m->(m = .own \/ m = .frozen)->i1.g=some g->B.w0.heap.size<=g)
    (hc:(B.sit mu ρ w).Le (B.sit mu' ρ' w')->ContR B.C (B.sit mu' ρ' w') id1 c1) :
    (B.sit mu ρ w).Le (B.sit mu' ρ' w')/\MInv B mu' dead' ρ' w':=by
 have hsz:=H.ext.size
 have ext':Ext B.X B.w0 w':=by
  refine ⟨hw.1.trans H.ext.os,hw.2.1.trans H.ext.tape,hw.2.2.1.trans H.ext.output,Nat.le_trans H.ext.size hw.2.2.2,fun g hlt hX=>?_⟩
  rw [hb g (by omega) ?_]
  · exact H.ext.block g hlt hX
  · intro a i0 e0 e1 e2
    obtain ⟨c,hca,_⟩:=hm0 a e0
    rcases H.own a i0 g (by rw [hca]; simp) e1 e2 with h | h
    · exact hX h
    · omega
 have le:(B.sit mu ρ w).Le (B.sit mu' ρ' w'):=by
  refine ⟨fun id r e=>?_,fun g hV=>?_,fun g hg=>H.rdLe ext' hg⟩
  · by_cases h:id=id1
    · subst h
      rcases hf with ⟨_,h⟩ | h
      · have e':ρ id=some r:=e
        show ρ' id=some r
        rw [h] at e'
        rw [r1,e']
      · have e':ρ id=some r:=e
        rw [h] at e'; cases e'
    · show ρ' id=some r
      rw [ro id h]; exact e
  · obtain ⟨v1,v2,v3⟩:=hV
    have hn0:∀ a i0,id0=some a->ρ a=some i0->i0.g ≠ some g:=by
     intro a i0 e0 e1
     obtain ⟨c,hc,hm⟩:=hm0 a e0
     exact v3 a c i0 hc hm e1
    refine ⟨⟨by have:=hw.2.2.2; show g < w'.heap.size; have:g < w.heap.size:=v1; omega,v2,fun id c i hmu hm hρ=>?_⟩,hb g v1 hn0⟩
    by_cases h:id=id1
    · subst h
      rw [r1] at hρ
      obtain rfl:=Option.some.inj hρ
      intro e
      rcases (hg g e).2 with ⟨a,i0,e0,e1,e2⟩ | h
      · exact hn0 a i0 e0 e1 e2
      · have:g < w.heap.size:=v1
        omega
    · have h':id0 ≠ some id:=by
       intro e
       rw [h0 id e h] at hmu; cases hmu
      rw [ho id h h'] at hmu
      rw [ro id h] at hρ
      exact v3 id c i hmu hm hρ
 have old:∀ id,id ≠ id1->mu' id ≠ none->id0 ≠ some id/\mu id ≠ none:=by
  intro id h hn
  have h':id0 ≠ some id:=fun e=>hn (h0 id e h)
  exact ⟨h',by rw [<- ho id h h']; exact hn⟩
 -- a block of another number is not the touched one
 have other:∀ id i g,id ≠ id1->mu' id ≠ none->ρ id=some i->i.g=some g->∀ a i0,id0=some a->ρ a=some i0->i0.g ≠ some g:=by
  intro id i g hne hn hρ hig a i0 e0 e1 e2
  obtain ⟨h',hmu⟩:=old id hne hn
  obtain ⟨c,hca,_⟩:=hm0 a e0
  have:=H.sep id a i i0 g hmu (by rw [hca]; simp) hρ e1 hig e2
  exact h' (by rw [this,e0])
 refine ⟨le,⟨?_,?_,?_,?_,?_,?_,?_,?_⟩⟩
 · intro id c hmu
   by_cases h:id=id1
   · subst h
     rw [h1] at hmu
     obtain rfl:=Option.some.inj hmu
     exact hc le
   · have hn:mu' id ≠ none:=by rw [hmu]; simp
     obtain ⟨h',_⟩:=old id h hn
     have hmu':=hmu
     rw [ho id h h'] at hmu
     refine ContR.mono le (fun i g e1 e2=>?_) (H.cont id c hmu)
     exact hb g (H.lt id i g (by rw [hmu]; simp) e1 e2) (other id i g h hn e1 e2)
 · intro id i e
   by_cases h:id=id1
   · subst h; left; rw [h1]; simp
   · rw [ro id h] at e
     rcases H.dom id i e with hn | hn
     · by_cases h':id0=some id
       · right; exact hd0 id h' h
       · left; rw [ho id h h']; exact hn
     · right; exact hd id hn
 · intro id id' i i' g hn hn' hρ hρ' hig hig'
   by_cases h:id=id1
   · by_cases h2:id'=id1
     · rw [h,h2]
     · subst h
       rw [r1] at hρ
       obtain rfl:=Option.some.inj hρ
       rw [ro id' h2] at hρ'
       rcases (hg g hig).2 with ⟨a,i0,e0,e1,e2⟩ | hge
       · exact absurd e2 (other id' i' g h2 hn' hρ' hig' a i0 e0 e1)
       · have:=H.lt id' i' g (old id' h2 hn').2 hρ' hig'
         omega
   · by_cases h2:id'=id1
     · subst h2
       rw [r1] at hρ'
       obtain rfl:=Option.some.inj hρ'
       rw [ro id h] at hρ
       rcases (hg g hig').2 with ⟨a,i0,e0,e1,e2⟩ | hge
       · exact absurd e2 (other id i g h hn hρ hig a i0 e0 e1)
       · have:=H.lt id i g (old id h hn).2 hρ hig
         omega
     · rw [ro id h] at hρ
       rw [ro id' h2] at hρ'
       exact H.sep id id' i i' g (old id h hn).2 (old id' h2 hn').2 hρ hρ' hig hig'
 · intro id i g hn hρ hig
   by_cases h:id=id1
   · subst h
     rw [r1] at hρ
     obtain rfl:=Option.some.inj hρ
     rcases (hg g hig).2 with ⟨a,i0,e0,e1,e2⟩ | hge
     · obtain ⟨c,hca,_⟩:=hm0 a e0
       exact H.own a i0 g (by rw [hca]; simp) e1 e2
     · right; omega
   · rw [ro id h] at hρ
     exact H.own id i g (old id h hn).2 hρ hig
 · intro id i g hn hρ hig
   by_cases h:id=id1
   · subst h
     rw [r1] at hρ
     obtain rfl:=Option.some.inj hρ
     exact (hg g hig).1
   · rw [ro id h] at hρ
     have:=H.lt id i g (old id h hn).2 hρ hig
     have:=hw.2.2.2
     omega
 · intro id e t xs m i g hmu hm hρ hig
   by_cases h:id=id1
   · subst h
     rw [h1] at hmu
     rw [r1] at hρ
     obtain rfl:=Option.some.inj hρ
     exact hn1 e t xs m g (Option.some.inj hmu) hm hig
   · have hn:mu' id ≠ none:=by rw [hmu]; simp
     rw [ho id h (old id h hn).1] at hmu
     rw [ro id h] at hρ
     exact H.new id e t xs m i g hmu hm hρ hig
 · exact ext'
 · exact H.rd
theorem zct {mu:List (Nat×Cont)}:∀ {ids:List Nat} {fz:List (Nat×Option Cont)} {mu0:List (Nat×Cont)},freeze (zaa mu) ids=some fz ->
    (∀ id,zaa mu0 id=zaa mu id \/ ∃ e t xs,zaa mu id=some (.row e t xs .own)/\zaa mu0 id=some (.row e t xs .frozen)) ->
    (∀ d,zbX fz d=d)/\(∀ id,zaa (zab mu0 fz) id=zaa mu id \/ ∃ e t xs,zaa mu id=some (.row e t xs .own)/\zaa (zab mu0 fz) id=some (.row e t xs .frozen)) /\
    (∀ id,id∈ids->∃ e t xs m,zaa mu id=some (.row e t xs m)/\(m = .own \/ m = .frozen)/\zaa (zab mu0 fz) id=some (.row e t xs .frozen)) /\
    (∀ id,(∃ e t xs,zaa mu0 id=some (.row e t xs .frozen))->zaa (zab mu0 fz) id=zaa mu0 id)
 | [],fz,mu0,h,h0=>by
  simp only [freeze] at h
  cases h
  exact ⟨fun d=>rfl,h0,fun id h=>by simp at h,fun id _=>rfl⟩
 | a::ids,fz,mu0,h,h0=>by
  simp only [freeze] at h
  split at h
  · rename_i e t xs hm
    split at h
    · rename_i l hl
      cases h
      have h1:∀ id,zaa ((a,Cont.row e t xs .frozen)::adel mu0 a) id=zaa mu id \/ ∃ e' t' xs',zaa mu id=some (.row e' t' xs' .own)/\zaa ((a,Cont.row e t xs .frozen)::adel mu0 a) id=some (.row e' t' xs' .frozen):=by
       intro id
       by_cases hid:a=id
       · subst hid
         exact .inr ⟨e,t,xs,hm,zag _ _ _⟩
       · rw [zad _ _ hid,zao hid]
         rcases h0 id with h | ⟨e',t',xs',h1,h2⟩
         · exact .inl h
         · exact .inr ⟨e',t',xs',h1,h2⟩
      obtain ⟨r1,r2,r3,r4⟩:=zct (mu0:=(a,Cont.row e t xs .frozen)::adel mu0 a) hl h1
      refine ⟨fun d=>by simp only [zbX]; exact r1 d,by simp only [zab]; exact r2,?_,?_⟩
      · intro id hid
        simp only [zab]
        rcases List.mem_cons.1 hid with rfl | hid
        · refine ⟨e,t,xs,.own,hm,.inl rfl,?_⟩
          rw [r4 id ⟨e,t,xs,zag _ _ _⟩,zag]
        · exact r3 id hid
      · intro id hid
        simp only [zab]
        by_cases ha:a=id
        · subst ha
          rw [r4 a ⟨e,t,xs,zag _ _ _⟩,zag]
          obtain ⟨e',t',xs',h'⟩:=hid
          rcases h0 a with h | ⟨_,_,_,h1,h2⟩
          · rw [h',hm] at h; cases h
          · rw [hm] at h1; cases h1; exact h2.symm
        · have:zaa ((a,Cont.row e t xs .frozen)::adel mu0 a) id=zaa mu0 id:=by rw [zad _ _ ha,zao ha]
          rw [r4 id (by rw [this]; exact hid),this]
    · cases h
  · rename_i e t xs hm
    obtain ⟨r1,r2,r3,r4⟩:=zct h h0
    refine ⟨r1,r2,?_,r4⟩
    intro id hid
    rcases List.mem_cons.1 hid with rfl | hid
    · refine ⟨e,t,xs,.frozen,hm,.inr rfl,?_⟩
      rcases r2 id with h | ⟨e',t',xs',h1,h2⟩
      · rw [h,hm]
      · rw [hm] at h1; cases h1
    · exact r3 id hid
  · cases h
theorem za9 {mu:List (Nat×Cont)}:∀ {ids:List Nat} {fz:List (Nat×Option Cont)} (mu0:List (Nat×Cont)),freeze (zaa mu) ids=some fz->∀ id,id ∉ ids->zaa (zab mu0 fz) id=zaa mu0 id
 | [],fz,mu0,h,id,_=>by simp only [freeze] at h; cases h; rfl
 | a::ids,fz,mu0,h,id,hid=>by
  simp only [List.mem_cons,not_or] at hid
  simp only [freeze] at h
  split at h
  · split at h
    · rename_i l hl
      cases h
      simp only [zab]
      rw [za9 _ hl id hid.2,zad _ _ (Ne.symm hid.1),zao (Ne.symm hid.1)]
    · cases h
  · exact za9 mu0 h id hid.2
  · cases h
theorem MInv.freeze {B:Base} {mu:List (Nat×Cont)} {dead:List Nat} {ρ:Nat->Option RI} {w:World} (H:MInv B (zaa mu) dead ρ w) {ids:List Nat} {fz:List (Nat×Option Cont)}
    (h:freeze (zaa mu) ids=some fz) :
    (∀ d,zbX fz d=d)/\(B.sit (zaa mu) ρ w).Le (B.sit (zaa (zab mu fz)) ρ w)/\MInv B (zaa (zab mu fz)) dead ρ w /\
     (∀ id,id∈ids->∀ i g,ρ id=some i->i.g=some g->(B.sit (zaa (zab mu fz)) ρ w).V g) /\
     (∀ id,zaa (zab mu fz) id=zaa mu id \/ ∃ e t xs,zaa mu id=some (.row e t xs .own)/\zaa (zab mu fz) id=some (.row e t xs .frozen)):=by
 obtain ⟨r1,r2,r3,_⟩:=zct h (fun id=>.inl rfl)
 have hne:∀ id,zaa (zab mu fz) id ≠ none ↔ zaa mu id ≠ none:=by
  intro id
  rcases r2 id with h | ⟨e,t,xs,h1,h2⟩
  · rw [h]
  · rw [h1,h2]; simp
 have hmut:∀ id c,zaa (zab mu fz) id=some c->mutC c->zaa mu id=some c:=by
  intro id c hc hm
  rcases r2 id with h | ⟨e,t,xs,h1,h2⟩
  · rw [<- h]; exact hc
  · rw [h2] at hc; cases hc; exact absurd rfl hm
 have le:(B.sit (zaa mu) ρ w).Le (B.sit (zaa (zab mu fz)) ρ w) :=
  ⟨fun _ _ h=>h,fun g ⟨v1,v2,v3⟩=>⟨⟨v1,v2,fun id c i hc hm=>v3 id c i (hmut id c hc hm) hm⟩,rfl⟩,fun _ h=>⟨h,rfl⟩⟩
 refine ⟨r1,le,⟨?_,?_,?_,?_,?_,?_,H.ext,H.rd⟩,?_,r2⟩
 · intro id c hc
   rcases r2 id with h | ⟨e,t,xs,h1,h2⟩
   · rw [h] at hc
     exact ContR.mono le (fun _ _ _ _=>rfl) (H.cont id c hc)
   · rw [h2] at hc
     cases hc
     exact ContR.mono (c:=.row e t xs .frozen) le (fun _ _ _ _=>rfl) (show ContR _ _ id (.row e t xs .frozen) from H.cont id (.row e t xs .own) h1)
 · intro id i e
   rcases H.dom id i e with h | h
   · exact .inl ((hne id).2 h)
   · exact .inr h
 · intro id id' i i' g h1 h2
   exact H.sep id id' i i' g ((hne id).1 h1) ((hne id').1 h2)
 · intro id i g h1
   exact H.own id i g ((hne id).1 h1)
 · intro id i g h1
   exact H.lt id i g ((hne id).1 h1)
 · intro id e t xs m i g hc hm
   rcases r2 id with h | ⟨e',t',xs',h1,h2⟩
   · rw [h] at hc; exact H.new id e t xs m i g hc hm
   · rw [h2] at hc; cases hc; exact H.new id e t xs .own i g h1 (.inl rfl)
 · intro id hid i g hi hg
   obtain ⟨e,t,xs,m,h1,h2,h3⟩:=r3 id hid
   refine ⟨H.lt id i g (by rw [h1]; simp) hi hg,.inr (H.new id e t xs m i g h1 h2 hi hg),fun id' c i' hc hm hi' hg'=>?_⟩
   have:id'=id:=H.sep id' id i' i g (by rw [hmut id' c hc hm]; simp) (by rw [h1]; simp) hi' hi hg' hg
   subst this
   rw [h3] at hc
   cases hc
   exact hm rfl
end Go.Proofs.YtdhkgmhdengnkaaGreatDoorPi
namespace Go.Proofs.YtdhkgmhdengnkaaGreatDoorPi
set_option linter.unusedVariables false
set_option linter.unusedSimpArgs false
open Go
structure CallD (C:Ctx) where
 g:FuncId
 args:List AV
 put:(C.sig g).den->zbl
abbrev Res (C:Ctx):=zbl ⊕ CallD C
def evD (C:Ctx) (f:FuncId) (site:Nat) (o:Oper) (vs:List AV) (mu:Look):Option (Res C) :=
 zdb C f site o vs mu (fun d=>some (.inl d)) (fun g l mk=>some (.inr ⟨g,l,mk⟩))
section
variable {R S:Type}
theorem zoI (op:BinOp) (k:IntKind) (x y:Int) (K:Cel->Option R) (G:Cel->Option S) (F:S->Option R) (h:∀ c,K c=(G c).bind F) :
    zj6 op k x y K=(zj6 op k x y G).bind F:=by
 unfold zj6
 cases op <;> simp only [h] <;> first | rfl | (split <;> rfl)
theorem zoJ (op:BinOp) (x y:ByteArray) (K:Cel->Option R) (G:Cel->Option S) (F:S->Option R) (h:∀ c,K c=(G c).bind F) :
    zj7 op x y K=(zj7 op x y G).bind F:=by
 unfold zj7
 cases op <;> simp only [h] <;> first | rfl | (split <;> rfl)
theorem zgo {b:Bool} {x y:Option R} {x' y':Option S} {F:S->Option R} (h:x=x'.bind F) (k:y=y'.bind F):cond b x y=(cond b x' y').bind F:=by cases b <;> assumption
theorem ziz (op:BinOp) (ti:Option TI) (x y:AV) (K:Cel->Option R) (G:Cel->Option S) (F:S->Option R) (h:∀ c,K c=(G c).bind F) :
    zeL op ti x y K=(zeL op ti x y G).bind F:=by
 unfold zeL
 split
 · split
   · refine zgo ?_ rfl
     split
     · split
       · exact h _
       · rfl
     · rfl
   · rename_i k _ k' _ _ _
     exact zgo (zoI _ _ _ _ K G F h) rfl
 · exact zoJ _ _ _ K G F h
 · refine zgo ?_ rfl
   split <;> first | exact h _ | rfl
 · refine zgo ?_ rfl
   split
   · split <;> first | exact h _ | rfl
   · rfl
 · rfl
theorem zej (c:Cel) (lo hi:Option Int) (l r:Int) (K:Cel->Option R) (G:Cel->Option S) (F:S->Option R) (h:∀ c,K c=(G c).bind F) :
    zcp c lo hi l r K=(zcp c lo hi l r G).bind F:=by
 unfold zcp
 split <;> (try split) <;> first | exact h _ | rfl
theorem zhr (mu:Look) (c:Cel) (lo hi:Option Int) (K:Cel->Option R) (G:Cel->Option S) (F:S->Option R) (h:∀ c,K c=(G c).bind F) :
    zbF mu c lo hi K=(zbF mu c lo hi G).bind F:=by
 unfold zbF
 split
 · rfl
 · split
   · exact zej _ _ _ _ _ K G F h
   · split
     · split
       · exact zej _ _ _ _ _ K G F h
       · rfl
     · rfl
   · split
     · split
       · exact zej _ _ _ _ _ K G F h
       · rfl
     · rfl
   · split
     · split
       · split
         · exact zej _ _ _ _ _ K G F h
         · rfl
       · rfl
     · rfl
theorem zsU (b:Bool) (x y:Option S) (F:S->Option R):(br b x y).bind F=br b (x.bind F) (y.bind F):=by cases b <;> rfl
theorem zgU (C:Ctx) (f:FuncId) (site:Nat) (o:Oper) (vs:List AV) (mu:Look) (Kd:zbl->Option R)
    (Kc:(g:FuncId)->List AV->((C.sig g).den->zbl)->Option R) :
    zdb C f site o vs mu Kd Kc=(evD C f site o vs mu).bind fun x=>match x with | .inl d=>Kd d | .inr c=>Kc c.g c.args c.put:=by
 unfold evD zdb
 generalize hop:o.op=op
 split
 all_goals try contradiction
 all_goals repeat' first
  | rfl
  | (rw [zsU]; rfl)
  | (apply ziz; intro c; rfl)
  | (apply zhr; intro c; rfl)
  | (refine zgo ?_ ?_)
  | split
end
end Go.Proofs.YtdhkgmhdengnkaaGreatDoorPi
namespace Go.Proofs.YtdhkgmhdengnkaaGreatDoorPi
set_option linter.unusedVariables false
set_option linter.unusedSimpArgs false
open Go
def aggD:TypeDesc->Bool
 | .struct _ | .array _ _=>true
 | _=>false
structure TOk (P:Program) (C:Ctx) (t:TypeId) (ti:TI):Prop where
 info:∃ inf z,P.info? t=some inf/\inf.size=ti.size/\inf.bytes=ti.bytes/\inf.zero=some z/\(∀ σ,CRs σ ti.zero z.cells.toList)/\(∀ τ,ti.ty=some τ->∀ V w,KR V w τ τ.dflt z.cells.toList)
 desc:∃ d,P.underlying t=some d/\ti.agg=aggD d/\(∀ e,ti.elem=some e->d = .slice e) /\
  (∀ (i off size:Nat) (agg:Bool),ti.fields[i]? = some (off,size,agg)->∃ (fs:Array Field) (f:Field),d = .struct fs/\fs[i]? = some f/\f.offset=off/\(∃ fi,P.info? f.type=some fi/\fi.size=size) /\ ∃ fd,P.underlying f.type=some fd/\aggD fd=agg) /\
  (∀ k,ti.ty=some (.int k)->d = .int k)/\(ti.ty=some .str->d = .string)/\(ti.ty=some .bool->d = .bool)
 bld:ti.fields.isEmpty=false->∃ fs:Array Field,P.underlying t=some (.struct fs) /\ ∃ places,fs.toList.mapM (fun f=>(P.info? f.type).map fun i=>(f.offset,i.size))=some places /\
  ∀ (i off size:Nat) (agg:Bool),ti.fields[i]? = some (off,size,agg)->places[i]? = some (off,size)
 slTy:∀ e τ,ti.ty=some (.sl e τ)->zjV C e τ
 elI:∀ e,ti.elem=some e->∃ ei,P.info? e=some ei
 elTy:∀ e e' τ,ti.elem=some e->ti.ty=some (.sl e' τ)->e'=e
 size:∀ τ,ti.ty=some τ->τ.size=ti.size
 eqs:ti.eq=true->P.underlying t=some (.struct (P.fieldsOf t))/\P.stoodInHeld t=false/\P.eqGuardType P.depth t=false /\
  (P.fieldsOf t).toList.length=ti.size /\ ∀ (i:Nat) (f:Field),(P.fieldsOf t).toList[i]? = some f->f.name ≠ "_" /\ f.offset=i /\ ∃ k,P.underlying f.type=some (.int k)
def ztV (P:Program) (g:FuncId) (e:TypeId) (sz:Nat):Prop :=
 (∃ fn,P.funcs[g]? = some fn/\fn.body.isSome=true/\(fn.name == "runtime.NumGoroutine")=false) /\
 ∀ (b cap n i j:Nat) (xs:List Value) (w:World),w.ownsRow 0 e sz (.slice (some ⟨b,0,none⟩) n cap) n xs->(∀ u∈xs,u.oneCell'=true)->j=i+1->i < n->n<=5000000000000->cap<=9223372036854775807->n<=cap ->
  Calls P g #[.slice (some ⟨b,0,none⟩) n cap,.int .i64 i,.int .i64 j] w fun q w'=>q = .returned (.slice (some ⟨b,0,none⟩) (n-1) cap) /\
   w'.ownsRow 0 e sz (.slice (some ⟨b,0,none⟩) (n-1) cap) (n-1) (xs.take (i*sz)++xs.drop (j*sz))/\(w'.os=w.os/\w'.tape=w.tape/\w'.output=w.output/\w.heap.size<=w'.heap.size) /\ ∀ k,k ≠ b->w'.heap[k]? = w.heap[k]?
def Own1 (P:Program) (g:FuncId):Prop:=∃ fn,P.funcs[g]? = some fn/\fn.body.isSome=true/\(fn.name == "runtime.NumGoroutine")=false
def zpM (w w':World) (b:Nat):Prop:=(w'.os=w.os/\w'.tape=w.tape/\w'.output=w.output/\w.heap.size<=w'.heap.size) /\ ∀ k,k < w.heap.size->k ≠ b->w'.heap[k]? = w.heap[k]?
def zpN (P:Program) (g:FuncId) (e:TypeId):Prop :=
 Own1 P g /\ ∀ (b cap:Nat) (xs:List Int) (w:World),w.ownsRow 0 e 1 (.slice (some ⟨b,0,none⟩) xs.length cap) xs.length (xs.map (Value.int .i64))->0 < xs.length->xs.length<=5000000000000 ->
  Calls P g #[.slice (some ⟨b,0,none⟩) xs.length cap] w fun q w'=>q = .returned (.tuple #[])/\w'.ownsRow 0 e 1 (.slice (some ⟨b,0,none⟩) xs.length cap) xs.length ((zgM xs).map (Value.int .i64))/\zpM w w' b
def ziA (P:Program) (g:FuncId) (e:TypeId):Prop :=
 Own1 P g /\ ∀ (b cap:Nat) (xs:List Int) (w:World),w.ownsRow 0 e 1 (.slice (some ⟨b,0,none⟩) xs.length cap) xs.length (xs.map (Value.int .i64))->0 < xs.length->xs.length<=5000000000000 ->
  Calls P g #[.slice (some ⟨b,0,none⟩) xs.length cap] w fun q w'=>q = .returned (.slice (some ⟨b,0,none⟩) (zav xs).length cap)/\w'.ownsRow 0 e 1 (.slice (some ⟨b,0,none⟩) (zav xs).length cap) (zav xs).length ((zav xs).map (Value.int .i64))/\zpM w w' b
def zpO (P:Program) (g:FuncId) (e:TypeId) (sz:Nat):Prop :=
 Own1 P g /\ ∀ (n:Int) (w:World),0<=n->n<=1000000000 ->
  Calls P g #[.slice none 0 0,.int .i64 n] w fun q w'=>∃ A cap,q = .returned (.slice A 0 cap)/\w'.ownsRow w.heap.size e sz (.slice A 0 cap) 0 []/\(w'.os=w.os/\w'.tape=w.tape/\w'.output=w.output/\w.heap.size<=w'.heap.size) /\ ∀ k,k < w.heap.size->w'.heap[k]? = w.heap[k]?
def zpP (P:Program) (C:Ctx) (g:FuncId):zoF->Prop
 | .del e sz=>ztV P g e sz
 | .sort e=>zpN P g e
 | .compact e=>ziA P g e
 | .grow e=>∃ tie te,C.T e=some tie/\tie.ty=some te/\zpO P g e te.size
structure POk (P:Program) (C:Ctx):Prop where
 T:∀ t ti,C.T t=some ti->TOk P C t ti
 fns:∀ f fn,C.fns f=some fn->P.funcs[f]? = some fn
 body:∀ f fn,C.fns f=some fn->fn.body.isSome=true/\(fn.name == "runtime.NumGoroutine")=false
 mixed:P.follows .mixedOrders=true
 del:∀ g op,C.del g=some op->zpP P C g op
theorem zbx (g o n:Nat):(⟨g,o,none⟩ : Addr).add n=⟨g,o+n,none⟩:=by
 unfold Addr.add
 split
 · rename_i h; subst h; rfl
 · rfl
theorem zrE (k:IntKind) (n:Int):wr k n=k.wrap n:=by
 unfold wr
 split
 · rw [IntKind.wrap_i64,W_eq]; unfold RowKit.wrap64; rfl
 · rfl
theorem zd1 {P:Program} {t:TypeId} {d:TypeDesc} (h:P.underlying t=some d) (w:World):(isAgg t).run P w = .ok (aggD d) w:=by
 unfold isAgg
 rw [Sem.run_bind,run_underlying h]
 cases d <;> rfl
theorem zcu {P:Program} {t:TypeId} {i:TypeInfo} (h:P.info? t=some i) (w:World):(sizeOf t).run P w = .ok i.size w:=by
 simp [sizeOf,typeInfo,h]
theorem zlI {S:Type} {P:Program} {w:World} {op:BinOp} {k:IntKind} {x y:Int} {K:Cel->Option S} {r:S} (h:zj6 op k x y K=some r) :
    ∃ c,K c=some r /\ ∀ σ,∃ v,CR σ c v/\(binOp op 0 (.int k x) (.int k y)).run P w = .ok v w /\ ∀ t,binOp op t (.int k x) (.int k y)=binOp op 0 (.int k x) (.int k y):=by
 unfold zj6 at h
 cases op <;> dsimp only at h <;> try (cases h; done)
 case quo =>
  split at h
  · cases h
  · rename_i hy
    exact ⟨_,h,fun σ=>⟨_,rfl,by simp [binOp,Op.intDiv,hy,zrE],fun _=>rfl⟩⟩
 case rem =>
  split at h
  · cases h
  · rename_i hy
    exact ⟨_,h,fun σ=>⟨_,rfl,by simp [binOp,Op.intDiv,hy],fun _=>rfl⟩⟩
 case and=>exact ⟨_,h,fun σ=>⟨_,rfl,by simp only [binOp,ne_eq,not_true_eq_false,if_false,Go.intBits_and,Sem.run_pure],fun _=>rfl⟩⟩
 all_goals exact ⟨_,h,fun σ=>⟨_,rfl,by simp [binOp,Op.intArith,Op.intCmp,zrE],fun _=>rfl⟩⟩
theorem zlJ {S:Type} {P:Program} {w:World} {op:BinOp} {x y:ByteArray} {K:Cel->Option S} {r:S} (h:zj7 op x y K=some r) :
    ∃ c,K c=some r /\ ∀ σ,∃ v,CR σ c v /\ ∀ t,(binOp op t (.string x) (.string y)).run P w = .ok v w:=by
 unfold zj7 at h
 cases op <;> dsimp only at h <;> try (cases h; done)
 case add =>
  split at h
  · rename_i hl
    refine ⟨_,h,fun σ=>⟨_,rfl,fun t=>?_⟩⟩
    have:¬ (((x.size+y.size:Nat):Int) > IntKind.i64.max):=by
     simp only [maxLen] at hl
     have e:IntKind.i64.max=9223372036854775807:=by decide
     rw [e]; omega
    simp only [binOp,Op.stringOp]
    rw [if_neg this]
    rfl
  · cases h
 all_goals exact ⟨_,h,fun σ=>⟨_,rfl,fun t=>by simp [binOp,Op.stringOp,seq,slt]⟩⟩
theorem Ty.beq_refl:∀ t:Ty,t.beq t=true
 | .int k=>by cases k <;> rfl
 | .bool | .str | .unit=>rfl
 | .pair a b=>by simp [Ty.beq,Ty.beq_refl a,Ty.beq_refl b]
 | .sl e t=>by simp [Ty.beq,Ty.beq_refl t]
theorem zgV {α:Type} {b:Bool} {x:Option α} {r:α} (h:cond b x none=some r):b=true/\x=some r:=by
 cases b with
 | true=>exact ⟨rfl,h⟩
 | false=>cases h
theorem zlK {P:Program} {w:World} {σ:Sit}:∀ (fs:List Field) (i:Nat) (xs ys:List Cel) (us vs:List Value) (t:Bool),
    (∀ (j:Nat) (f:Field),fs[j]? = some f->f.name ≠ "_" /\ f.offset=i+j /\ ∃ k,P.underlying f.type=some (.int k))->fs.length=xs.length->ziq xs ys=some t ->
    ∀ (A B:Array Value),(∀ j u,us[j]? = some u->A[i+j]? = some u)->(∀ j u,vs[j]? = some u->B[i+j]? = some u)->CRs σ xs us->CRs σ ys vs ->
    (Op.eqFields 9999 A B fs).run P w = .ok t w:=by
 intro fs
 induction fs with
 | nil =>
  intro i xs ys us vs t _ hl he
  cases xs with
  | nil=>simp [ziq] at he
  | cons x xs=>simp at hl
 | cons f fs ih =>
  intro i xs ys us vs t hf hl he A B hA hB hx hy
  obtain ⟨h1,h2,k0,h3⟩:=hf 0 f rfl
  unfold ziq at he
  split at he
  · rename_i k a k' b
    obtain ⟨hk,he⟩:=zgV he
    cases he
    simp only [CRs] at hx hy
    obtain ⟨u,_,rfl,hu,rfl⟩:=hx
    obtain ⟨v,_,rfl,hv,rfl⟩:=hy
    simp only [CR] at hu hv
    subst hu hv
    have hfs:fs=[]:=List.eq_nil_of_length_eq_zero (by simpa using hl)
    subst hfs
    have ha:=hA 0 _ rfl
    have hb:=hB 0 _ rfl
    obtain rfl:=zcR hk
    simp only [Op.eqFields,h1,ne_eq,not_false_eq_true,if_true,Sem.run_bind,part,zd1 h3,aggD,Result.andThen_ok,Bool.false_eq_true,if_false,h2,ha,hb,Sem.run_pure,run_equalIn_int w 9998 f.type k k0 a b h3]
    by_cases hab:a == b
    · simp [hab]
    · simp only [Bool.not_eq_true] at hab
      simp [hab]
  · rename_i k a c r k' b c' r'
    obtain ⟨hk,he⟩:=zgV he
    split at he
    · rename_i t' ht'
      cases he
      simp only [CRs] at hx hy
      obtain ⟨u,us',rfl,hu,hx⟩:=hx
      obtain ⟨v,vs',rfl,hv,hy⟩:=hy
      simp only [CR] at hu hv
      subst hu hv
      have ha:=hA 0 _ rfl
      have hb:=hB 0 _ rfl
      obtain rfl:=zcR hk
      have hrec:=ih (i+1) (c::r) (c' :: r') us' vs' t' (fun j f hj=>by
       have:=hf (j+1) f (by simpa using hj)
       rw [show i+1+j=i+(j+1) by omega]; exact this) (by simpa using hl) ht' A B (fun j u hj=>by
       have:=hA (j+1) u (by simpa using hj)
       rw [show i+1+j=i+(j+1) by omega]; exact this) (fun j u hj=>by
       have:=hB (j+1) u (by simpa using hj)
       rw [show i+1+j=i+(j+1) by omega]; exact this) (by simp only [CRs]; exact hx) (by simp only [CRs]; exact hy)
      simp only [Op.eqFields,h1,ne_eq,not_false_eq_true,if_true,Sem.run_bind,part,zd1 h3,aggD,Result.andThen_ok,Bool.false_eq_true,if_false,h2,ha,hb,Sem.run_pure,run_equalIn_int w 9998 f.type k k0 a b h3]
      by_cases hab:a == b
      · simp only [hab,Bool.not_true,Bool.false_eq_true,if_false,Bool.true_and]
        exact hrec
      · simp only [Bool.not_eq_true] at hab
        simp [hab]
    · cases he
  · cases he
theorem zkK {S:Type} {P:Program} {C:Ctx} (OK:POk P C) {w:World} {op:BinOp} {t:TypeId} {x y:AV} {K:Cel->Option S} {r:S} (h:zeL op (C.T t) x y K=some r)
    (σ:Sit) (u u':Value) (hx:AR σ x u) (hy:AR σ y u') (X Y:Operand) :
    ∃ c v,K c=some r/\CR σ c v/\(do eqGuard op t X Y u u'; binOp op t u u').run P w = .ok v w:=by
 unfold zeL at h
 split at h
 · rename_i k a k' b
   have hx':u = .int k a:=hx
   have hy':u' = .int k' b:=hy
   subst hx' hy'
   have hg:(eqGuard op t X Y (.int k a) (.int k' b)).run P w = .ok () w:=by cases op <;> rfl
   split at h
   · cases hk:is64 k with
     | false=>rw [hk] at h; cases h
     | true =>
      rw [hk] at h
      dsimp only [cond_true] at h
      split at h
      · rename_i hb0
        split at h
        · rename_i hb
          have hbits:k.bits=64:=by cases k <;> first | rfl | (simp [is64] at hk)
          refine ⟨_,.int k (ishr a b),h,rfl,?_⟩
          rw [Sem.run_bind,hg]
          simp only [Result.andThen_ok,binOp,Op.shift]
          rw [if_neg (by omega),hbits,Nat.min_eq_left (by omega)]
          rfl
        · cases h
      · cases h
   · cases hk:kbeq k k' with
     | false=>rw [hk] at h; cases h
     | true =>
      rw [hk] at h
      obtain rfl:=zcR hk
      obtain ⟨c,h1,h2⟩:=zlI (P:=P) (w:=w) h
      obtain ⟨v,h3,h4,h5⟩:=h2 σ
      refine ⟨c,v,h1,h3,?_⟩
      rw [Sem.run_bind,hg]
      simp only [Result.andThen_ok]
      rw [h5 t,h4]
 · rename_i a b
   have hx':u = .string a:=hx
   have hy':u' = .string b:=hy
   subst hx' hy'
   obtain ⟨c,h1,h2⟩:=zlJ (P:=P) (w:=w) h
   obtain ⟨v,h3,h4⟩:=h2 σ
   refine ⟨c,v,h1,h3,?_⟩
   rw [Sem.run_bind,show (eqGuard op t X Y (.string a) (.string b)).run P w = .ok () w by cases op <;> rfl]
   simp only [Result.andThen_ok]
   exact h4 t
 · rename_i a b
   have hx':u = .bool a:=hx
   have hy':u' = .bool b:=hy
   subst hx' hy'
   cases hT:C.T t with
   | none=>rw [hT] at h; cases h
   | some ti =>
    rw [hT] at h
    cases hty:ti.ty with
    | none=>simp [isTy,hty] at h
    | some τ =>
     cases hb:τ.beq .bool with
     | false=>simp [isTy,hty,hb] at h
     | true =>
      obtain rfl:=Ty.beq_eq hb
      obtain ⟨d,hd,_,_,_,_,_,hdb⟩:=(OK.T t ti hT).desc
      rw [hdb hty] at hd
      simp only [isTy,hty,hb,cond_true] at h
      have he:(Op.equal t (.bool a) (.bool b)).run P w = .ok (a == b) w:=by
       have hd':∀ n,(Op.equalIn (n+1) t (.bool a) (.bool b)).run P w = .ok (a == b) w:=by
        intro n
        rw [Op.equalIn,Sem.run_bind,run_underlying hd]
        rfl
       exact hd' 9999
      split at h
      · refine ⟨_,.bool (a == b),h,rfl,?_⟩
        rw [Sem.run_bind,show (eqGuard .eql t X Y (.bool a) (.bool b)).run P w = .ok () w from rfl]
        simp only [Result.andThen_ok,binOp,Sem.run_bind,he]
        rfl
      · refine ⟨_,.bool (!(a == b)),h,rfl,?_⟩
        rw [Sem.run_bind,show (eqGuard .neq t X Y (.bool a) (.bool b)).run P w = .ok () w from rfl]
        simp only [Result.andThen_ok,binOp,Sem.run_bind,he]
        rfl
      · cases h
 · rename_i xs ys
   obtain ⟨us,rfl,hxs⟩:=hx
   obtain ⟨vs,rfl,hys⟩:=hy
   obtain ⟨hte,h⟩:=zgV h
   cases hT:C.T t with
   | none=>rw [hT] at hte; cases hte
   | some ti =>
    rw [hT] at hte
    have hte':(ti.eq && Nat.beq xs.length ti.size)=true:=hte
    rw [Bool.and_eq_true] at hte'
    obtain ⟨e1,e2,e3,e0,e4⟩:=(OK.T t ti hT).eqs hte'.1
    split at h
    · rename_i b hb
      have hlen:(P.fieldsOf t).toList.length=xs.length:=by rw [e0,Nat.eq_of_beq_eq_true hte'.2]
      have hrun:=zlK (P:=P) (w:=w) (P.fieldsOf t).toList 0 xs ys us vs b (fun j f hj=>by rw [Nat.zero_add]; exact e4 j f hj) hlen hb us.toArray vs.toArray (fun j u hj=>by simpa using hj) (fun j u hj=>by simpa using hj) hxs hys
      have heq:(Op.equalIn 10000 t (.agg us.toArray) (.agg vs.toArray)).run P w = .ok b w:=by
       rw [run_equalIn_agg w 9999 t _ _ e1 e2]
       exact hrun
      split at h
      · refine ⟨_,.bool b,h,rfl,?_⟩
        rw [Sem.run_bind,run_eqGuard_agg w _ t X Y _ _ e3]
        simp only [Result.andThen_ok]
        rw [run_eql_struct,heq]
        rfl
      · refine ⟨_,.bool (!b),h,rfl,?_⟩
        rw [Sem.run_bind,run_eqGuard_agg w _ t X Y _ _ e3]
        simp only [Result.andThen_ok]
        rw [run_neq_struct,heq]
        rfl
      · cases h
    · cases h
 · cases h
end Go.Proofs.YtdhkgmhdengnkaaGreatDoorPi
namespace Go.Proofs.YtdhkgmhdengnkaaGreatDoorPi
set_option linter.unusedVariables false
set_option linter.unusedSimpArgs false
open Go
theorem zd2 {d:List Nat} {id:Nat} (h:d.any (Nat.beq id)=false):id ∉ d:=by
 intro hm
 have:d.any (Nat.beq id)=true:=List.any_eq_true.2 ⟨id,hm,zcZ id⟩
 rw [this] at h; cases h
theorem zba {dead:List Nat} {mu mu':List (Nat×Cont)} (h:zaR dead mu []=some mu'):mu'=mu:=by
 simp only [zaR] at h; exact (Option.some.inj h).symm
theorem zcy {dead:List Nat} {mu mu':List (Nat×Cont)} {id:Nat} {c:Cont} {r:List (Nat×Cont)} (h:zaR dead mu ((id,c)::r)=some mu') :
    zaa mu id=none/\id ∉ dead/\zaR dead ((id,c)::mu) r=some mu':=by
 simp only [zaR] at h
 cases hd:dead.any (Nat.beq id) with
 | true=>rw [hd,Bool.or_true] at h; cases h
 | false =>
  rw [hd,Bool.or_false] at h
  cases hi:isIn id with
  | true=>rw [hi] at h; cases h
  | false =>
   rw [hi] at h
   dsimp only [cond_false] at h
   split at h
   · cases h
   · rename_i hn; exact ⟨hn,zd2 hd,h⟩
theorem zeP:∀ {add:List (Nat×Cont)} {dead:List Nat} {mu mu':List (Nat×Cont)},zaR dead mu add=some mu'->∀ id∈add.map Prod.fst,isIn id=false
 | [],_,_,_,_,id,h=>by simp at h
 | (k,c)::r,dead,mu,mu',h,id,hid=>by
  obtain ⟨_,_,h3⟩:=zcy h
  rcases List.mem_cons.1 hid with e | hid
  · cases hk:isIn k with
    | true=>simp only [zaR,hk,Bool.true_or] at h; cases h
    | false=>rw [e]; exact hk
  · exact zeP h3 id hid
theorem zaN {dead:List Nat} {mu mu':List (Nat×Cont)} {id:Nat} {c:Cont} (h:zaR dead mu [(id,c)]=some mu') :
    zaa mu id=none/\id ∉ dead/\mu'=(id,c)::mu:=by
 obtain ⟨h1,h2,h3⟩:=zcy h
 exact ⟨h1,h2,zba h3⟩
def upd (ρ:Nat->Option RI) (id:Nat) (i:RI):Nat->Option RI:=fun k=>if k=id then some i else ρ k
theorem zaZ (ρ:Nat->Option RI) (id:Nat) (i:RI):upd ρ id i id=some i:=if_pos rfl
theorem zlL (ρ:Nat->Option RI) {id k:Nat} (i:RI) (h:k ≠ id):upd ρ id i k=ρ k:=if_neg h
section
variable {B:Base} {mu:List (Nat×Cont)} {dead:List Nat} {ρ:Nat->Option RI} {w:World}
theorem MInv.free (H:MInv B (zaa mu) dead ρ w) {id:Nat} (h:zaa mu id=none) (hd:id ∉ dead):ρ id=none:=by
 cases e:ρ id with
 | none=>rfl
 | some i =>
  rcases H.dom id i e with h' | h'
  · exact absurd h h'
  · exact absurd h' hd
theorem MInv.add (H:MInv B (zaa mu) dead ρ w) {id:Nat} {c:Cont} {i:RI} {w':World} (hid:zaa mu id=none) (hd:id ∉ dead)
    (hw:w'.os=w.os/\w'.tape=w.tape/\w'.output=w.output/\w.heap.size<=w'.heap.size) (hb:∀ g,g < w.heap.size->w'.heap[g]? = w.heap[g]?)
    (hg:∀ g,i.g=some g->w.heap.size<=g/\g < w'.heap.size)
    (hc:∀ σ',(B.sit (zaa mu) ρ w).Le σ'->σ'.ρ id=some i->σ'.w=w'->ContR B.C σ' id c) :
    (B.sit (zaa mu) ρ w).Le (B.sit (zaa ((id,c)::mu)) (upd ρ id i) w')/\MInv B (zaa ((id,c)::mu)) dead (upd ρ id i) w':=by
 refine H.one none id c i (zag _ _ _) (fun a h=>by cases h) (fun k hk _=>zad _ _ (Ne.symm hk)) (zaZ _ _ _) (fun k hk=>zlL _ _ hk)
  (fun _ h=>h) (fun a h=>by cases h) (fun a h=>by cases h) (.inr (H.free hid hd)) (fun g h=>⟨(hg g h).2,.inr (hg g h).1⟩) hw (fun g h _=>hb g h) ?_ (fun le=>hc _ le (zaZ _ _ _) rfl)
 intro e t xs m g _ _ h
 have:=(hg g h).1
 have:=H.ext.size
 omega
theorem MInv.turn (H:MInv B (zaa mu) dead ρ w) {id:Nat} {c0 c1:Cont} {i:RI} {w':World} (h0:zaa mu id=some c0) (hm:mutC c0) (hi:ρ id=some i)
    (hw:w'.os=w.os/\w'.tape=w.tape/\w'.output=w.output/\w.heap.size<=w'.heap.size) (hb:∀ g,g < w.heap.size->i.g ≠ some g->w'.heap[g]? = w.heap[g]?)
    (hn:∀ e t xs m,c1 = .row e t xs m->(m = .own \/ m = .frozen)->∃ e t xs m',c0 = .row e t xs m' /\ (m' = .own \/ m' = .frozen))
    (hc:∀ σ',(B.sit (zaa mu) ρ w).Le σ'->σ'.ρ id=some i->σ'.w=w'->ContR B.C σ' id c1) :
    (B.sit (zaa mu) ρ w).Le (B.sit (zaa ((id,c1)::adel mu id)) ρ w')/\MInv B (zaa ((id,c1)::adel mu id)) dead ρ w':=by
 refine H.one (some id) id c1 i (zag _ _ _) (fun a h hne=>absurd (Option.some.inj h).symm hne) (fun k hk _=>by rw [zad _ _ (Ne.symm hk),zao (Ne.symm hk)]) hi (fun _ _=>rfl)
  (fun _ h=>h) (fun a h hne=>absurd (Option.some.inj h).symm hne) (fun a h=>by cases h; exact ⟨c0,h0,hm⟩) (.inl ⟨rfl,hi⟩) ?_ hw ?_ ?_ (fun le=>hc _ le hi rfl)
 · intro g hg
   exact ⟨by have:=H.lt id i g (by rw [h0]; simp) hi hg; have:=hw.2.2.2; omega,.inl ⟨id,i,rfl,hi,hg⟩⟩
 · intro g hlt hne
   exact hb g hlt (hne id i rfl hi)
 · intro e t xs m g hc1 hm1 hg
   obtain ⟨e',t',xs',m',h',hm'⟩:=hn e t xs m hc1 hm1
   rw [h'] at h0
   exact H.new id e' t' xs' m' i g h0 hm' hi hg
theorem MInv.swap (H:MInv B (zaa mu) dead ρ w) {id0 id1:Nat} {c0 c1:Cont} {i0 i1:RI} {w':World} (h0:zaa mu id0=some c0) (hm:mutC c0) (hi:ρ id0=some i0)
    (hid:zaa (adel mu id0) id1=none) (hd:id1 ∉ id0::dead)
    (hw:w'.os=w.os/\w'.tape=w.tape/\w'.output=w.output/\w.heap.size<=w'.heap.size) (hb:∀ g,g < w.heap.size->i0.g ≠ some g->w'.heap[g]? = w.heap[g]?)
    (hg:∀ g,i1.g=some g->g < w'.heap.size/\(i0.g=some g \/ w.heap.size<=g))
    (hn:∀ e t xs m,c1 = .row e t xs m->(m = .own \/ m = .frozen)->∃ e t xs m',c0 = .row e t xs m' /\ (m' = .own \/ m' = .frozen))
    (hc:∀ σ',(B.sit (zaa mu) ρ w).Le σ'->σ'.ρ id1=some i1->σ'.w=w'->ContR B.C σ' id1 c1) :
    (B.sit (zaa mu) ρ w).Le (B.sit (zaa ((id1,c1)::adel mu id0)) (upd ρ id1 i1) w')/\MInv B (zaa ((id1,c1)::adel mu id0)) (id0::dead) (upd ρ id1 i1) w':=by
 have hne:id0 ≠ id1:=fun h=>hd (by rw [h]; simp)
 have hid':zaa mu id1=none:=by rw [<- zao hne]; exact hid
 have hfree:ρ id1=none:=H.free hid' (fun h=>hd (by simp [h]))
 refine H.one (some id0) id1 c1 i1 (zag _ _ _) ?_ ?_ (zaZ _ _ _) (fun k hk=>zlL _ _ hk)
  (fun _ h=>by simp [h]) (fun a h _=>by cases h; simp) (fun a h=>by cases h; exact ⟨c0,h0,hm⟩) (.inr hfree) ?_ hw ?_ ?_ (fun le=>hc _ le (zaZ _ _ _) rfl)
 · intro a h _
   cases h
   rw [zad _ _ (Ne.symm hne),zaD]
 · intro k hk hk0
   have:id0 ≠ k:=fun h=>hk0 (by rw [h])
   rw [zad _ _ (Ne.symm hk),zao this]
 · intro g h
   obtain ⟨h1,h2⟩:=hg g h
   refine ⟨h1,?_⟩
   rcases h2 with h2 | h2
   · exact .inl ⟨id0,i0,rfl,hi,h2⟩
   · exact .inr h2
 · intro g hlt hne'
   exact hb g hlt (hne' id0 i0 rfl hi)
 · intro e t xs m g hc1 hm1 hg1
   obtain ⟨e',t',xs',m',h',hm'⟩:=hn e t xs m hc1 hm1
   rcases (hg g hg1).2 with h2 | h2
   · rw [h'] at h0
     exact H.new id0 e' t' xs' m' i0 g h0 hm' hi h2
   · have:=H.ext.size
     omega
def OpD (B:Base) (mu:List (Nat×Cont)) (dead:List Nat) (ρ:Nat->Option RI) (w:World) (δ:zbl) (v:Value) (w':World):Prop :=
 ∀ mu',zaR (zbX δ.edit dead) (zab mu δ.edit) δ.add=some mu' ->
  ∃ ρ',(B.sit (zaa mu) ρ w).Le (B.sit (zaa mu') ρ' w')/\MInv B (zaa mu') (zbX δ.edit dead) ρ' w' /\ AR (B.sit (zaa mu') ρ' w') δ.val v
theorem MInv.drew (H:MInv B (zaa mu) dead ρ w) (n:Nat):(B.sit (zaa mu) ρ w).Le (B.sit (zaa mu) ρ { w with drawn:=n })/\MInv B (zaa mu) dead ρ { w with drawn:=n }:=by
 have le:(B.sit (zaa mu) ρ w).Le (B.sit (zaa mu) ρ { w with drawn:=n }):=⟨fun _ _ h=>h,fun g h=>⟨h,rfl⟩,fun _ h=>⟨h,rfl⟩⟩
 exact ⟨le,⟨fun id c h=>ContR.mono le (fun _ _ _ _=>rfl) (H.cont id c h),H.dom,H.sep,H.own,H.lt,H.new,⟨H.ext.os,H.ext.tape,H.ext.output,H.ext.size,H.ext.block⟩,H.rd⟩⟩
theorem OpD.quiet (H:MInv B (zaa mu) dead ρ w) {a:AV} {v:Value} (h:AR (B.sit (zaa mu) ρ w) a v):OpD B mu dead ρ w ⟨a,[],[]⟩ v w:=by
 intro mu' hmu
 obtain rfl:=zba hmu
 exact ⟨ρ,Sit.Le.refl _,H,h⟩
theorem OpD.frozen (H:MInv B (zaa mu) dead ρ w) {ids:List Nat} {fz ed:List (Nat×Option Cont)} (h:freeze (zaa mu) ids=some fz) {a:AV} {ad:List (Nat×Cont)} {v:Value} {w':World}
    (k:MInv B (zaa (zab mu fz)) dead ρ w->(B.sit (zaa mu) ρ w).Le (B.sit (zaa (zab mu fz)) ρ w)->(∀ id,id∈ids->∀ i g,ρ id=some i->i.g=some g->(B.sit (zaa (zab mu fz)) ρ w).V g) ->
     OpD B (zab mu fz) dead ρ w ⟨a,ad,ed⟩ v w'):OpD B mu dead ρ w ⟨a,ad,fz++ed⟩ v w':=by
 obtain ⟨h1,h2,h3,h4,_⟩:=H.freeze h
 intro mu' hmu
 dsimp only at hmu
 rw [zcs,zc0,h1] at hmu
 obtain ⟨ρ',r1,r2,r3⟩:=k h3 h2 h4 mu' hmu
 refine ⟨ρ',h2.trans r1,?_,r3⟩
 dsimp only at r2 ⊢
 rw [zc0,h1]
 exact r2
end
end Go.Proofs.YtdhkgmhdengnkaaGreatDoorPi
namespace Go.Proofs.YtdhkgmhdengnkaaGreatDoorPi
set_option linter.unusedVariables false
set_option linter.unusedSimpArgs false
open Go
theorem zdw {σ:Sit}:∀ (n:Nat) {cs:List Cel} {us:List Value},CRs σ cs us->CRs σ (cs.drop n) (us.drop n)
 | 0,_,_,h=>by simpa using h
 | n+1,[],_,h=>by simp only [CRs] at h; subst h; simp [CRs]
 | n+1,c::cs,_,h=>by
  simp only [CRs] at h
  obtain ⟨u,r,rfl,_,h2⟩:=h
  simpa using zdw n h2
theorem zfd {σ:Sit}:∀ (n:Nat) {cs:List Cel} {us:List Value},CRs σ cs us->CRs σ (cs.take n) (us.take n)
 | 0,_,_,_=>by simp [CRs]
 | n+1,[],_,h=>by simp only [CRs] at h; subst h; simp [CRs]
 | n+1,c::cs,_,h=>by
  simp only [CRs] at h
  obtain ⟨u,r,rfl,h1,h2⟩:=h
  simp only [List.take_succ_cons,CRs]
  exact ⟨u,_,rfl,h1,zfd n h2⟩
theorem ziB {w:World} {g o:Nat} {us:List Value} (h:lies w g o us) (n:Nat):lies w g (o+n) (us.drop n):=by
 intro j u hu
 rw [List.getElem?_drop] at hu
 rw [Nat.add_assoc]
 exact h _ _ hu
theorem zkd {w:World} {g o:Nat} {us:List Value} (h:lies w g o us) (n:Nat):lies w g o (us.take n):=by
 intro j u hu
 rw [List.getElem?_take] at hu
 split at hu
 · exact h _ _ hu
 · cases hu
theorem zgp {a b:Nat} (h:Nat.ble a b=true):a<=b:=Nat.le_of_ble_eq_true h
section
variable {P:Program} {B:Base} {mu:List (Nat×Cont)} {dead:List Nat} {ρ:Nat->Option RI} {w:World}
theorem ziC (H:MuR B.C (B.sit (zaa mu) ρ w) (zaa mu)) {p:Cel} {v:Value} {cs:List Cel} {off:Nat} (h:zlw (zaa mu) p=some (cs,off)) (hp:CR (B.sit (zaa mu) ρ w) p v) :
    ∃ g o us,v = .pointer (some ⟨g,o+off,none⟩)/\CRs (B.sit (zaa mu) ρ w) cs us/\lies w g o us:=by
 unfold zlw at h
 split at h
 · rename_i id off'
   split at h
   · rename_i e cs' hm
     cases h
     simp only [CR] at hp
     obtain ⟨i,g,hi,hg,rfl⟩:=hp
     obtain ⟨i',g',cur,hi',hg',hh,hc⟩:=H id _ hm
     obtain rfl:=Option.some.inj (hi.symm.trans hi')
     rw [hg] at hg'
     obtain rfl:=Option.some.inj hg'
     refine ⟨g,0,cur.toList,by simp,hc,fun j u hu=>?_⟩
     rw [cell_of_row w g _ cur e (0,0) hh]
     simpa using hu
   · cases h
 · rename_i id j off'
   split at h
   · rename_i e t xs m hm
     cases h
     simp only [CR] at hp
     obtain ⟨i,g,hi,hj0,hj1,hg,rfl⟩:=hp
     obtain ⟨i',hi',hlen,hsz,_,hr⟩:=H id _ hm
     obtain rfl:=Option.some.inj (hi.symm.trans hi')
     simp only [RowR,hg] at hr
     obtain ⟨cur,hh,_,_,_,hk⟩:=hr
     obtain ⟨a,ha,hb⟩:=zoH t t.dflt xs _ j.toNat hk (by omega)
     refine ⟨g,j.toNat*i.sz,a,rfl,(zcr t _ a).2 ha,fun q u hu=>?_⟩
     rw [hsz]
     have:=hb q u hu
     rw [List.getElem?_take] at this
     split at this
     · rw [cell_of_row w g _ cur e (0,0) hh]
       simpa using this
     · cases this
   · cases h
 · cases h
   simp only [CR] at hp
   obtain ⟨g,o,us,rfl,_,hc,hl⟩:=hp
   exact ⟨g,o,us,rfl,hc,hl⟩
 · cases h
theorem zfv {t:TypeId} {ti:TI} {cs:List Cel} {off:Nat} {s:SV} {σ:Sit} {g o:Nat} {us:List Value} (OK:TOk P B.C t ti) (hl:znR ti cs off=some s)
    (hc:CRs σ cs us) (hm:lies w g o us):∃ v,(loadVar t ⟨g,o+off,none⟩).run P w = .ok v w/\SR σ s v:=by
 obtain ⟨inf,z,hinf,hsz,_⟩:=OK.info
 obtain ⟨d,hd,hagg,_⟩:=OK.desc
 have hlen:=zbz hc
 unfold znR at hl
 cases ha:ti.agg with
 | true =>
  rw [ha] at hl
  cases hb:Nat.ble (off+ti.size) cs.length with
  | false=>simp [hb] at hl
  | true =>
   simp only [hb,cond_true,Option.some.injEq] at hl
   subst hl
   have hle:=zgp hb
   have hc':=zfd ti.size (zdw off hc)
   have hm':=zkd (ziB hm off) ti.size
   have hl':((us.drop off).take ti.size).length=ti.size:=by simp; omega
   have hr:=run_loadCells_list (P:=P) w ⟨g,o+off,none⟩ ((us.drop off).take ti.size) (fun j v hv=>by rw [zbx]; exact hm' j v hv)
   rw [hl'] at hr
   refine ⟨.agg ((us.drop off).take ti.size).toArray,?_,⟨_,rfl,hc'⟩⟩
   unfold loadVar
   rw [Sem.run_bind,zd1 hd,Result.andThen_ok,<- hagg,ha]
   simp only [if_true,Sem.run_bind,zcu hinf,Result.andThen_ok,hsz,hr]
   rfl
 | false =>
  rw [ha] at hl
  simp only [cond_false] at hl
  split at hl
  · rename_i c r hdrop
    cases hl
    have hc':=zdw off hc
    rw [hdrop] at hc'
    simp only [CRs] at hc'
    obtain ⟨u,r',hu,h1,_⟩:=hc'
    have hcell:=ziB hm off 0 u (by rw [hu]; rfl)
    simp only [Nat.add_zero] at hcell
    refine ⟨u,?_,h1⟩
    unfold loadVar
    rw [Sem.run_bind,zd1 hd,Result.andThen_ok,<- hagg,ha]
    simp [run_load,hcell]
  · cases hl
theorem ziD {t e:TypeId} {ti:TI} {g o:Nat} {v:Value} {cur:Array Value} (OK:TOk P B.C t ti) (hv:v.cells.size=ti.size) (h1:∀ u∈v.cells.toList,u.oneCell'=true)
    (hg:w.heap[g]? = some (.cells cur e (0,0))) (hl:o+ti.size<=cur.size) :
    (storeVar t ⟨g,o,none⟩ v).run P w = .ok () (w.setRow g (cur.toList.take o++v.cells.toList++cur.toList.drop (o+ti.size)).toArray):=by
 obtain ⟨inf,z,hinf,hsz,_⟩:=OK.info
 have hst:=run_storeCells_at P g o e v.cells.toList 0 cur w hg (by simp [hv]; exact hl) h1
 simp only [Nat.add_zero,Array.length_toList,hv] at hst
 unfold storeVar
 rw [Sem.run_bind,zcu hinf,Result.andThen_ok,if_neg (by rw [hv,hsz]; simp)]
 exact hst
end
end Go.Proofs.YtdhkgmhdengnkaaGreatDoorPi
namespace Go.Proofs.YtdhkgmhdengnkaaGreatDoorPi
set_option linter.unusedVariables false
set_option linter.unusedSimpArgs false
open Go
theorem zkL {V:Nat->Prop} {w:World} (t:Ty) (d:t.den):∀ (xs:List t.den) (us:List Value),us.length=xs.length*t.size ->
    (∀ i,i < xs.length->∃ a,KR V w t (xs.getD i d) a /\ ∀ (j:Nat) (u:Value),a[j]? = some u->us[i*t.size+j]? = some u)->KL (KR V w t) xs us
 | [],us,hl,_=>by
  simp only [List.length_nil,Nat.zero_mul] at hl
  exact List.eq_nil_of_length_eq_zero hl
 | x::xs,us,hl,h=>by
  rw [List.length_cons,Nat.add_mul,Nat.one_mul] at hl
  obtain ⟨a,ha,hj⟩:=h 0 (by simp)
  simp only [Nat.zero_mul,Nat.zero_add,List.getD_cons_zero] at ha hj
  have hla:=zcL t x a ha
  have hea:a=us.take t.size:=by
   apply List.ext_getElem?
   intro j
   rw [List.getElem?_take]
   by_cases hlt:j < t.size
   · rw [if_pos hlt]
     have:j < a.length:=by omega
     rw [hj j _ (List.getElem?_eq_getElem this)]
     exact List.getElem?_eq_getElem this
   · rw [if_neg hlt]
     exact List.getElem?_eq_none (by omega)
  refine ⟨us.take t.size,us.drop t.size,(List.take_append_drop _ _).symm,hea ▸ ha,?_⟩
  refine zkL t d xs (us.drop t.size) (by rw [List.length_drop]; omega) fun i hi=>?_
  obtain ⟨b,hb,hbj⟩:=h (i+1) (by simpa using hi)
  refine ⟨b,by simpa using hb,fun j u hu=>?_⟩
  rw [List.getElem?_drop,<- hbj j u hu]
  congr 1
  rw [Nat.add_mul,Nat.one_mul]
  omega
theorem ztW {V:Nat->Prop} {w:World} (t:Ty) (d x:t.den) {xs:List t.den} {us vs:List Value} {i:Nat} (h:KL (KR V w t) xs us) (hi:i < xs.length) (hl:vs.length=us.length)
    {a:List Value} (ha:KR V w t x a) (hin:∀ j u,a[j]? = some u->vs[i*t.size+j]? = some u) (hout:∀ k,(k < i*t.size \/ i*t.size+t.size<=k)->vs[k]? = us[k]?) :
    KL (KR V w t) (xs.set i x) vs:=by
 refine zkL t d _ _ (by rw [hl,zgm t xs us h,List.length_set]) fun k hk=>?_
 rw [List.length_set] at hk
 by_cases hki:k=i
 · subst hki
   refine ⟨a,?_,hin⟩
   rw [List.getD_eq_getElem?_getD,List.getElem?_set_self hk]
   exact ha
 · obtain ⟨b,hb,hbj⟩:=zoH t d xs us k h hk
   refine ⟨b,?_,fun j u hu=>?_⟩
   · rw [List.getD_eq_getElem?_getD,List.getElem?_set_ne (Ne.symm hki),<- List.getD_eq_getElem?_getD]
     exact hb
   · have hj:j < t.size:=by
      have:=(List.getElem?_eq_some_iff.1 hu).1
      rw [zcL t _ b hb] at this
      exact this
     rw [hout,hbj j u hu]
     rcases Nat.lt_or_gt_of_ne hki with h' | h'
     · left
       have:(k+1)*t.size<=i*t.size:=Nat.mul_le_mul_right _ h'
       rw [Nat.add_mul,Nat.one_mul] at this
       omega
     · right
       have:(i+1)*t.size<=k*t.size:=Nat.mul_le_mul_right _ h'
       rw [Nat.add_mul,Nat.one_mul] at this
       omega
theorem zkM {α:Type} (l n:List α) (o k:Nat) (h:o+n.length<=l.length) :
    (l.take o++n++l.drop (o+n.length))[k]? = if k < o then l[k]? else if k < o+n.length then n[k-o]? else l[k]?:=by
 have hl:(l.take o).length=o:=by rw [List.length_take]; omega
 by_cases h1:k < o
 · rw [if_pos h1,List.append_assoc,List.getElem?_append_left (by omega),List.getElem?_take,if_pos h1]
 · rw [if_neg h1]
   by_cases h2:k < o+n.length
   · rw [if_pos h2,List.getElem?_append_left (by rw [List.length_append]; omega),List.getElem?_append_right (by omega),hl]
   · rw [if_neg h2,List.getElem?_append_right (by rw [List.length_append]; omega),List.length_append,hl,List.getElem?_drop]
     congr 1
     omega
section
variable {P:Program} {B:Base} {mu:List (Nat×Cont)} {dead:List Nat} {ρ:Nat->Option RI} {w:World}
theorem zeQ {w:World} {g:Nat} (cur':Array Value):(w.setRow g cur').os=w.os/\(w.setRow g cur').tape=w.tape/\(w.setRow g cur').output=w.output/\w.heap.size<=(w.setRow g cur').heap.size :=
 ⟨rfl,rfl,rfl,by rw [setRow_size]; exact Nat.le_refl _⟩
theorem zmU (H:MInv B (zaa mu) dead ρ w) {t:TypeId} {ti:TI} (OK:TOk P B.C t ti) {p:Cel} {s:SV} {u v:Value} {ed:List (Nat×Option Cont)}
    (h:zeh (zaa mu) ti p s=some ed) (hp:CR (B.sit (zaa mu) ρ w) p u) (hs:SR (B.sit (zaa mu) ρ w) s v) :
    ∃ w',(Instr.storeAt t u v).run P w = .ok () w' /\ OpD B mu dead ρ w ⟨.tup [],[],ed⟩ undef w':=by
 have hcs:=zgl s v hs
 have hlen:=zbz hcs
 have hone:=zh9 _ _ hcs
 unfold zeh at h
 cases hb:Nat.beq s.cells.length ti.size with
 | false=>rw [hb] at h; cases h
 | true =>
  have hsz:v.cells.size=ti.size:=by
   have:=Nat.eq_of_beq_eq_true hb
   rw [Array.length_toList] at hlen
   omega
  rw [hb] at h
  dsimp only [cond_true] at h
  split at h
  · rename_i id off
    split at h
    · rename_i e cs hm
      cases hb2:Nat.ble (off+ti.size) cs.length with
      | false=>rw [hb2] at h; cases h
      | true =>
       rw [hb2] at h
       cases h
       have hle:=zgp hb2
       simp only [CR] at hp
       obtain ⟨i,g,hi,hg,rfl⟩:=hp
       obtain ⟨i',g',cur,hi',hg',hh,hc⟩:=H.cont id _ hm
       obtain rfl:=Option.some.inj (hi.symm.trans hi')
       obtain rfl:=Option.some.inj (hg.symm.trans hg')
       have hcl:=zbz hc
       rw [Array.length_toList] at hcl
       have hr:=ziD (w:=w) (e:=e) (g:=g) (o:=off) (v:=v) (cur:=cur) OK hsz hone hh (by omega)
       refine ⟨_,by simp only [Instr.storeAt,Instr.sureAddr,Sem.run_bind,Sem.run_pure,Result.andThen_ok]; exact hr,?_⟩
       intro mu' hmu
       have hmu':mu'=(id,Cont.box e (zge cs off s.cells))::adel mu id:=zba hmu
       subst hmu'
       obtain ⟨le,inv⟩:=H.turn (c1:=.box e (zge cs off s.cells)) (w':=w.setRow g (cur.toList.take off++v.cells.toList++cur.toList.drop (off+ti.size)).toArray) hm trivial hi (zeQ _)
        (fun k _ hne=>setRow_other w g k _ (fun e=>hne (by rw [hg,e]))) (fun _ _ _ _ h=>by cases h) (fun σ' le hρ hw'=>by
         refine ⟨i,g,_,hρ,hg,by rw [hw']; exact setRow_heap w g cur _ e (0,0) hh,?_⟩
         have h1:=CRs.mono le _ _ (zfd off hc)
         have h2:=CRs.mono le _ _ hcs
         have h3:=CRs.mono le _ _ (zdw (off+ti.size) hc)
         have e2:off+s.cells.length=off+ti.size:=by rw [Nat.eq_of_beq_eq_true hb]
         simp only [zge,e2]
         exact zbO (zbO h1 h2) h3)
       exact ⟨ρ,le,inv,[],rfl,rfl⟩
    · cases h
  · rename_i id j off
    split at h
    · rename_i e t' xs m hm
      split at h
      · cases h
      · rename_i hmf
        cases hself:(s.cells.flatMap (zbr (zaa mu) 6)).any (Nat.beq id) with
        | true=>rw [hself] at h; cases h
        | false =>
        rw [hself] at h
        dsimp only [cond_false] at h
        split at h
        · rename_i cs fz hsn hfz
          cases hb2:Nat.ble (off+ti.size) t'.size with
          | false=>rw [hb2] at h; cases h
          | true =>
           rw [hb2] at h
           dsimp only [cond_true] at h
           split at h
           · rename_i x hx
             cases h
             have hle:=zgp hb2
             simp only [CR] at hp
             obtain ⟨i,g,hi,hj0,hj1,hg,rfl⟩:=hp
             -- the run
             have hC:=H.cont id _ hm
             obtain ⟨i',hi',hlen',hsz',hty,hr⟩:=hC
             obtain rfl:=Option.some.inj (hi.symm.trans hi')
             simp only [RowR,hg] at hr
             obtain ⟨cur,hh,hcap,hmx,hcs2,hk⟩:=hr
             have hjl:j.toNat < xs.length:=by omega
             have hmul:(j.toNat+1)*t'.size<=xs.length*t'.size:=Nat.mul_le_mul_right _ hjl
             have hmul2:xs.length*t'.size<=i.cap*t'.size:=Nat.mul_le_mul_right _ hcap
             rw [Nat.add_mul,Nat.one_mul] at hmul
             have hrun:=ziD (w:=w) (e:=e) (g:=g) (o:=j.toNat*t'.size+off) (v:=v) (cur:=cur) OK hsz hone hh (by omega)
             refine ⟨_,by simp only [Instr.storeAt,Instr.sureAddr,Sem.run_bind,Sem.run_pure,Result.andThen_ok,hsz']; exact hrun,?_⟩
             refine OpD.frozen H hfz fun H2 le2 hV2=>?_
             -- behind the freezing
             have hm2:zaa (zab mu fz) id=some (.row e t' xs m):=by
              rw [za9 mu hfz id (fun hin=>by rw [List.any_eq_true.2 ⟨id,hin,zcZ id⟩] at hself; cases hself)]
              exact hm
             intro mu' hmu
             have hmu':mu'=(id,Cont.row e t' (dset xs (itn j) x) m)::adel (zab mu fz) id:=zba hmu
             subst hmu'
             obtain ⟨a,haR,haj⟩:=zoH t' t'.dflt xs _ j.toNat hk hjl
             have hal:=zcL t' _ a haR
             have hvl:v.cells.toList.length=ti.size:=by rw [Array.length_toList]; exact hsz
             -- the element as it is then
             have hsn2:=zfK (V':=(B.sit (zaa (zab mu fz)) ρ w).V) H.cont (fun g hg=>(le2.blk g hg).1) s.cells cs _ hsn hcs (fun k hk'=>hV2 k hk')
             have hsl:=zbz hsn2
             have haC:=CRs.mono le2 _ _ ((zcr t' _ a).2 haR)
             have hxR:KR (B.sit (zaa (zab mu fz)) ρ w).V w t' x (a.take off++v.cells.toList++a.drop (off+ti.size)):=by
              refine zdv (σ:=B.sit (zaa (zab mu fz)) ρ w) hx ?_
              simp only [zge]
              rw [show off+cs.length=off+ti.size by rw [<- hsl,hvl]]
              exact zbO (zbO (zfd off haC) hsn2) (zdw (off+ti.size) haC)
             obtain ⟨le,inv⟩:=H2.turn (c1:=.row e t' (dset xs (itn j) x) m) (w':=w.setRow g (cur.toList.take (j.toNat*t'.size+off)++v.cells.toList++cur.toList.drop (j.toNat*t'.size+off+ti.size)).toArray)
              hm2 hmf hi (zeQ _) (fun k _ hne=>setRow_other w g k _ (fun e=>hne (by rw [hg,e]))) (fun _ _ _ _ h h'=>by cases h; exact ⟨_,_,_,_,rfl,h'⟩) (fun σ' le hρ hw'=>by
               refine ⟨i,hρ,by rw [List.length_set]; exact hlen',hsz',hty,?_⟩
               simp only [RowR,hg]
               refine ⟨_,by rw [hw']; exact setRow_heap w g cur _ e (0,0) hh,by rw [List.length_set]; exact hcap,hmx,?_,?_⟩
               · simp only [List.size_toArray,List.length_append,List.length_take,List.length_drop,hvl,Array.length_toList]
                 omega
               · have hk':KL (KR σ'.V σ'.w t') xs (cur.toList.take (xs.length*t'.size)):=KL.imp (KR.mono (le2.trans le).blk t') _ _ hk
                 have hx':KR σ'.V σ'.w t' x (a.take off++v.cells.toList++a.drop (off+ti.size)):=KR.mono le.blk t' _ _ hxR
                 rw [List.length_set]
                 have hseg:∀ k,(cur.toList.take (j.toNat*t'.size+off)++v.cells.toList++cur.toList.drop (j.toNat*t'.size+off+ti.size))[k]? =
                     if k < j.toNat*t'.size+off then cur.toList[k]? else if k < j.toNat*t'.size+off+ti.size then v.cells.toList[k-(j.toNat*t'.size+off)]? else cur.toList[k]?:=by
                  intro k
                  have:=zkM cur.toList v.cells.toList (j.toNat*t'.size+off) k (by rw [hvl,Array.length_toList]; omega)
                  rw [hvl] at this
                  exact this
                 have haseg:∀ k,(a.take off++v.cells.toList++a.drop (off+ti.size))[k]? = if k < off then a[k]? else if k < off+ti.size then v.cells.toList[k-off]? else a[k]?:=by
                  intro k
                  have:=zkM a v.cells.toList off k (by rw [hvl]; omega)
                  rw [hvl] at this
                  exact this
                 have hcura:∀ q u,a[q]? = some u->cur.toList[j.toNat*t'.size+q]? = some u:=by
                  intro q u hq
                  have:=haj q u hq
                  rw [List.getElem?_take] at this
                  split at this
                  · exact this
                  · cases this
                 show KL _ (xs.set j.toNat x) _
                 refine ztW t' t'.dflt x (i:=j.toNat) hk' hjl ?_ hx' ?_ ?_
                 · simp only [List.toList_toArray,List.length_take,List.length_append,List.length_drop,hvl,Array.length_toList]
                   omega
                 · intro q u hq
                   have hqlt:q < t'.size:=by
                    have:=(List.getElem?_eq_some_iff.1 hq).1
                    simp only [List.length_append,List.length_take,List.length_drop,hvl,hal] at this
                    omega
                   rw [List.toList_toArray,List.getElem?_take,if_pos (by omega),hseg]
                   rw [haseg] at hq
                   by_cases h1:q < off
                   · rw [if_pos h1] at hq
                     rw [if_pos (by omega)]
                     exact hcura q u hq
                   · rw [if_neg h1] at hq
                     rw [if_neg (by omega)]
                     by_cases h2:q < off+ti.size
                     · rw [if_pos h2] at hq
                       rw [if_pos (by omega),<- hq]
                       congr 1
                       omega
                     · rw [if_neg h2] at hq
                       rw [if_neg (by omega)]
                       exact hcura q u hq
                 · intro k hk2
                   rw [List.toList_toArray,List.getElem?_take,List.getElem?_take]
                   split
                   · rw [hseg]
                     by_cases h1:k < j.toNat*t'.size+off
                     · rw [if_pos h1]
                     · rw [if_neg h1,if_neg (by omega)]
                   · rfl)
             exact ⟨ρ,le,inv,[],rfl,rfl⟩
           · cases h
        · cases h
    · cases h
  · cases h
end
end Go.Proofs.YtdhkgmhdengnkaaGreatDoorPi
namespace Go.Proofs.YtdhkgmhdengnkaaGreatDoorPi
set_option linter.unusedVariables false
set_option linter.unusedSimpArgs false
open Go
section
variable {P:Program} {B:Base} {mu:List (Nat×Cont)} {dead:List Nat} {ρ:Nat->Option RI} {w:World}
theorem zgW {t ty e:TypeId} {inf:TypeInfo} {z:Value} (ht:P.underlying t=some (.slice e)) (hi:P.info? e=some inf) (hz:inf.zero=some z) (hzs:z.cells.size=inf.size)
    {n cap:Nat} {A:Option Addr} {olds:List Value} (tag:Bool) (hS:(tag=true/\n=0/\cap=0/\olds=[]) \/ tag=false /\ ∃ g cur,A=some ⟨g,0,none⟩/\w.heap[g]? = some (.cells cur e (0,0))/\n<=cap/\cap<=maxLen/\cur.size=cap*inf.size/\cur.toList.take (n*inf.size)=olds)
    {m c:Nat} {A2:Option Addr} {news:List Value} (hl:news.length=m*inf.size) (h1:∀ u∈news,u.oneCell'=true) (hY:m=0 \/ ∃ g o,A2=some ⟨g,o,none⟩/\lies w g o news)
    (hroom:(n+m)*inf.bytes<=140737488355328) (hmax:n+m<=maxLen) :
    (tag=true/\n=0/\m=0/\cap=0/\(Builtin.append_ #[t,t] ty #[.slice A n cap,.slice A2 m c]).run P w = .ok (.slice A 0 0) w) \/
    (tag=false /\ ∃ g cur cur',A=some ⟨g,0,none⟩/\w.heap[g]? = some (.cells cur e (0,0))/\n+m<=cap/\cur'.size=cur.size/\cur'.toList.take ((n+m)*inf.size)=olds++news /\
     (Builtin.append_ #[t,t] ty #[.slice A n cap,.slice A2 m c]).run P w = .ok (.slice A (n+m) cap) (w.setRow g cur')) \/
    (∃ cap' cur',n+m<=cap' /\ cap' <= maxLen/\cur'.size=cap' * inf.size/\cur'.toList.take ((n+m)*inf.size)=olds++news /\
     (Builtin.append_ #[t,t] ty #[.slice A n cap,.slice A2 m c]).run P w = .ok (.slice (some ⟨w.heap.size,0,none⟩) (n+m) cap') (w.drew.alloc (.cells cur' e))):=by
 have hm0:m=0->news=[]:=fun h=>List.eq_nil_of_length_eq_zero (by rw [hl,h,Nat.zero_mul])
 -- what is appended
 have hnews:∀ w':World,(∀ g o,w'.cell? ⟨g,o,none⟩=w.cell? ⟨g,o,none⟩)->(Builtin.firstCells inf.size m (.slice A2 m c)).run P w' = .ok news.toArray w':=by
  intro w' hw'
  rcases hY with h0 | ⟨g,o,rfl,hlie⟩
  · rw [hm0 h0,h0]
    cases A2 with
    | none=>simp [Builtin.firstCells]
    | some a=>simp [Builtin.firstCells,loadCells,loadCellsFrom]
  · exact run_firstCells_some (P:=P) w' inf.size m ⟨g,o,none⟩ m c news hl (fun j u hu=>by rw [zbx,hw']; exact hlie j u hu)
 have grow:∀ (olds':List Value),olds'=olds->olds.length=n*inf.size->cap < n+m->(Builtin.firstCells inf.size n (.slice A n cap)).run P w.drew = .ok olds.toArray w.drew ->
     (Builtin.append_ #[t,t] ty #[.slice A n cap,.slice A2 m c]).run P w = .ok (.slice (some ⟨w.heap.size,0,none⟩) (n+m) (grownCap w (n+m) cap e))
      (w.drew.alloc (.cells (olds.toArray++news.toArray++Builtin.zeroCells z.cells (grownCap w (n+m) cap e-(n+m))) e)):=by
  intro olds' _ _ hg hold
  have hsmall:n+m<=9223372036854775807:=by simp only [maxLen] at hmax; omega
  have hn:¬ (n+m<=cap):=by omega
  have h63':¬ (9223372036854775807 < ((n:Int)+(m:Int))):=by omega
  have hfit:=growslice_fits (need:=n+m) (old:=cap) (bytes:=inf.bytes) hg hroom
  have h48':¬ (281474976710656 < Builtin.nextslicecap (n+m) cap*inf.bytes):=by omega
  have hf:=hnews w.drew (fun _ _=>rfl)
  simp [Builtin.append_,run_underlying ht,sizeOf,typeInfo,zeroValue,hi,hz,Builtin.lenOf,hn,h63',h48',Question.forced,hf,hold,newRow,grownCap]
  congr 2
  apply Array.ext'
  simp [List.append_assoc]
 have third:∀ (_:olds.length=n*inf.size) (_:cap < n+m) (_:(Builtin.firstCells inf.size n (.slice A n cap)).run P w.drew = .ok olds.toArray w.drew),
     (∃ cap' cur',n+m<=cap' /\ cap' <= maxLen/\cur'.size=cap' * inf.size/\cur'.toList.take ((n+m)*inf.size)=olds++news /\
     (Builtin.append_ #[t,t] ty #[.slice A n cap,.slice A2 m c]).run P w = .ok (.slice (some ⟨w.heap.size,0,none⟩) (n+m) cap') (w.drew.alloc (.cells cur' e))):=by
  intro ho hg hold
  have hge:=grownCap_ge w (n+m) cap e
  refine ⟨_,_,hge,grownCap_le_maxLen w (n+m) cap e hmax,?_,?_,grow olds rfl ho hg hold⟩
  · simp only [Array.size_append,List.size_toArray,size_zeroCells,hzs,ho,hl,<- Nat.add_mul]
    congr 1
    omega
  · have:(olds++news).length=(n+m)*inf.size:=by rw [List.length_append,ho,hl,Nat.add_mul]
    simp only [Array.toList_append,List.append_assoc]
    rw [<- List.append_assoc,<- this]
    exact List.take_left
 rcases hS with ⟨htag,rfl,rfl,rfl⟩ | ⟨htag,g,cur,rfl,hg,hnc,hcm,hcs,htake⟩
 · by_cases hm:m=0
   · left
     subst hm
     refine ⟨htag,rfl,rfl,rfl,?_⟩
     have hf:=hnews w (fun _ _=>rfl)
     rw [hm0 rfl] at hf
     cases A with
     | none=>simp [Builtin.append_,run_underlying ht,sizeOf,typeInfo,hi,Builtin.lenOf,hf]
     | some a=>simp [Builtin.append_,run_underlying ht,sizeOf,typeInfo,hi,Builtin.lenOf,hf,storeCells]
   · right; right
     refine third (by simp) (by omega) ?_
     cases A with
     | none=>simp [Builtin.firstCells]
     | some a=>simp [Builtin.firstCells,loadCells,loadCellsFrom]
 · have ho:olds.length=n*inf.size:=by
    rw [<- htake,List.length_take,Array.length_toList,hcs]
    exact Nat.min_eq_left (Nat.mul_le_mul_right _ hnc)
   by_cases hroom':n+m<=cap
   · right; left
     have hfit:(n+m)*inf.size<=cur.size:=by rw [hcs]; exact Nat.mul_le_mul_right _ hroom'
     rw [Nat.add_mul] at hfit
     have hst:=run_storeCells_at P g (n*inf.size) e news 0 cur w hg (by rw [hl]; simpa using hfit) h1
     simp only [Nat.add_zero] at hst
     refine ⟨htag,g,cur,(cur.toList.take (n*inf.size)++news++cur.toList.drop (n*inf.size+news.length)).toArray,rfl,hg,hroom',?_,?_,?_⟩
     rotate_left 2
     · have hf:=hnews w (fun _ _=>rfl)
       simp only [Builtin.append_,List.getElem?_toArray,List.getElem?_cons_zero,List.getElem?_cons_succ]
       simp [run_underlying ht,sizeOf,typeInfo,hi,Builtin.lenOf,hroom',hf,zbx,hst]
     · simp only [List.size_toArray,List.length_append,List.length_take,List.length_drop,Array.length_toList,hl]
       omega
     · have hlen:(olds++news).length=(n+m)*inf.size:=by rw [List.length_append,ho,hl,Nat.add_mul]
       simp only [htake]
       rw [<- hlen]
       exact List.take_left
   · right; right
     refine third ho (by omega) ?_
     refine run_firstCells_some (P:=P) w.drew inf.size n ⟨g,0,none⟩ n cap olds ho (fun j u hu=>?_)
     rw [zbx,Nat.zero_add]
     show w.cell? ⟨g,j,none⟩=some u
     rw [cell_of_row w g j cur e (0,0) hg]
     rw [<- htake,List.getElem?_take] at hu
     split at hu
     · simpa using hu
     · cases hu
theorem zpQ {C:Ctx} {σ:Sit} {id:Nat} {e:TypeId} {t:Ty} {xs:List t.den} {m:RMode} (hc:ContR C σ id (.row e t xs m)) {i:RI} (hi:σ.ρ id=some i) {g:Nat} (hg:i.g=some g)
    {o n:Nat} (hon:o+n<=xs.length):∃ us,KL (KR σ.V σ.w t) ((xs.drop o).take n) us/\lies σ.w g (o*t.size) us:=by
 obtain ⟨i',hi',hlen,hsz,_,hr⟩:=hc
 obtain rfl:=Option.some.inj (hi.symm.trans hi')
 simp only [RowR,hg] at hr
 obtain ⟨cur,hh,_,_,_,hk⟩:=hr
 have hk2:=(zcY t o hk (by omega)).2
 have hk3:=(zcY t n hk2 (by simp; omega)).1
 have hm:(o+n)*t.size<=xs.length*t.size:=Nat.mul_le_mul_right _ hon
 rw [Nat.add_mul] at hm
 rw [List.drop_take,List.take_take,Nat.min_eq_left (by omega)] at hk3
 exact ⟨_,hk3,zlG hh (o*t.size) (n*t.size)⟩
theorem zhs (H:MuR B.C (B.sit (zaa mu) ρ w) (zaa mu)) {t:Ty} {c:Cel} {u:Value} {ys:List t.den} (h:zgf (zaa mu) t c=some ys) (hc:CR (B.sit (zaa mu) ρ w) c u) :
    ∃ A n news,u = .slice A ys.length n/\KL (KR (B.V (zaa mu) ρ w) w t) ys news/\(ys.length=0 \/ ∃ g o,A=some ⟨g,o,none⟩/\lies w g o news):=by
 have nil:∀ {A:Option Addr} {n:Nat} {ys:List t.den},u = .slice A ys.length n->ys.length=0 ->
     ∃ A n news,u = .slice A ys.length n/\KL (KR (B.V (zaa mu) ρ w) w t) ys news/\(ys.length=0 \/ ∃ g o,A=some ⟨g,o,none⟩/\lies w g o news):=by
  intro A n ys hu h0
  refine ⟨A,n,[],hu,?_,.inl h0⟩
  rw [List.eq_nil_of_length_eq_zero h0]
  rfl
 have fromRow:∀ {id:Nat} {e:TypeId} {xs:List t.den} {m:RMode} (_:zaa mu id=some (.row e t xs m)) {i:RI} (_:ρ id=some i) {o n:Nat} (_:o+n<=i.len)
     (_:∃ A c,u = .slice A n c/\n<=c/\(n=0 \/ ∃ g,i.g=some g/\A=some ⟨g,o*i.sz,none⟩)),
     ∃ A n' news,u = .slice A ((xs.drop o).take n).length n' /\ KL (KR (B.V (zaa mu) ρ w) w t) ((xs.drop o).take n) news/\(((xs.drop o).take n).length=0 \/ ∃ g o,A=some ⟨g,o,none⟩/\lies w g o news):=by
  intro id e xs m hm i hi o n hon hv
  have hC:=H id _ hm
  obtain ⟨h1,h2,h3,h4⟩:=zbU hC hi
  obtain ⟨A,c,rfl,hnc,hA⟩:=hv
  have hl:((xs.drop o).take n).length=n:=by simp; omega
  rcases hA with hA | ⟨g,hg,rfl⟩
  · exact nil (by rw [hl]) (by rw [hl]; exact hA)
  · obtain ⟨us,hk,hlie⟩:=zpQ hC hi hg (o:=o) (n:=n) (by omega)
    exact ⟨_,c,us,by rw [hl],hk,.inr ⟨g,_,rfl,by rw [h2]; exact hlie⟩⟩
 unfold zgf at h
 split at h
 · rename_i hs
   cases h
   have hu:u = .slice none 0 0:=by
    cases c <;> simp only [snap] at hs <;> try (first | cases hs | (split at hs <;> cases hs))
    simpa only [CR] using hc
   exact nil (ys:=[]) hu rfl
 · rename_i e t' xs hs
   split at h
   · rename_i hb
     obtain rfl:=Ty.beq_eq hb
     rw [zd0] at h
     obtain rfl:=Option.some.inj h
     cases c <;> simp only [snap] at hs <;> try (cases hs; done)
     case sl =>
      cases hs
      simp only [CR,KR] at hc
      obtain ⟨A,n,he,hn,hk⟩:=hc
      simp only [List.cons.injEq,and_true] at he
      rcases hk with hk | ⟨g,o,us,rfl,_,hk,hl⟩
      · exact nil he hk
      · exact ⟨_,n,us,he,hk,.inr ⟨g,o,rfl,hl⟩⟩
     case full id =>
      split at hs
      · rename_i hm
        cases hs
        simp only [CR] at hc
        obtain ⟨i,hi,hv⟩:=hc
        obtain ⟨h1,h2,h3,h4⟩:=zbU (H id _ hm) hi
        have:=fromRow hm hi (o:=0) (n:=i.len) (by omega) (zdY hv (by rw [h1]; exact h4))
        rw [h1] at this
        simpa using this
      · cases hs
     case pre id n =>
      split at hs
      · rename_i hm
        cases hs
        simp only [CR] at hc
        obtain ⟨i,hi,hn,hv⟩:=hc
        obtain ⟨h1,h2,h3,h4⟩:=zbU (H id _ hm) hi
        have:=fromRow hm hi (o:=0) (n:=n) (by omega) (zdY hv (fun g hg=>by have:=h4 g hg; omega))
        simpa using this
      · cases hs
     case sub id o n =>
      split at hs
      · rename_i hm
        cases hs
        simp only [CR] at hc
        obtain ⟨i,hi,hn,hv⟩:=hc
        exact fromRow hm hi (o:=o) (n:=n) (by omega) hv
      · cases hs
   · cases h
 · cases h
theorem zlM {ti:TI} {e:TypeId} (h:zj8 ti e=true):ti.elem=some e:=by
 unfold zj8 at h
 split at h
 · rename_i e0 he
   rw [he,Nat.eq_of_beq_eq_true h]
 · cases h
theorem zlN {t:TypeId} {ti:TI} (OK:TOk P B.C t ti) {x:Cel} {u:Value} {e:TypeId} {te:Ty} {xs:List te.den} {m:RMode} {ed:List (Nat×Option Cont)}
    (h:zir (zaa mu) ti x=some ⟨e,te,xs,m,ed⟩) (hc:CR (B.sit (zaa mu) ρ w) x u) (H:MuR B.C (B.sit (zaa mu) ρ w) (zaa mu)) :
    (ed=[]/\u = .slice none 0 0/\xs=[]/\m = .own/\zjV B.C e te/\ti.elem=some e) \/
    ∃ id i full,ed=[(id,none)]/\zaa mu id=some (.row e te full m)/\zco m=true/\ti.elem=some e/\ρ id=some i/\xs=full.take xs.length/\xs.length<=full.length/\hdr0 i xs.length u:=by
 unfold zir at h
 split at h
 · split at h
   · rename_i e' e2 t' he hty
     cases h
     left
     have he2:=OK.elTy _ _ _ he hty
     refine ⟨rfl,by simpa only [CR] using hc,rfl,rfl,?_⟩
     rw [<- he2]
     exact ⟨OK.slTy _ _ hty,by rw [he2]; exact he⟩
   · cases h
 · rename_i id
   split at h
   · rename_i e' t' xs' m' hm
     cases ho:zco m' && zj8 ti e' with
     | false=>rw [ho] at h; cases h
     | true =>
      rw [ho] at h
      cases h
      simp only [Bool.and_eq_true] at ho
      have hel:=zlM ho.2
      simp only [CR] at hc
      obtain ⟨i,hi,hv⟩:=hc
      obtain ⟨h1,_⟩:=zbU (H id _ hm) hi
      exact .inr ⟨id,i,xs,rfl,hm,ho.1,hel,hi,by simp,Nat.le_refl _,by rw [<- h1]; exact hv⟩
   · cases h
 · rename_i id n
   split at h
   · rename_i e' t' xs' m' hm
     cases ho:zco m' && zj8 ti e' with
     | false=>rw [ho] at h; cases h
     | true =>
      rw [ho] at h
      cases h
      simp only [Bool.and_eq_true] at ho
      have hel:=zlM ho.2
      simp only [CR] at hc
      obtain ⟨i,hi,hn,hv⟩:=hc
      obtain ⟨h1,_⟩:=zbU (H id _ hm) hi
      have hl:(zio n xs').length=n:=by simp; omega
      exact .inr ⟨id,i,xs',rfl,hm,ho.1,hel,hi,by rw [hl],by rw [hl]; omega,by rw [hl]; exact hv⟩
   · cases h
 · cases h
theorem zia {e:TypeId} {te:Ty} {tie:TI} (hr:zjV B.C e te) (hT:B.C.T e=some tie) (OK:TOk P B.C e tie) :
    ∃ inf z,P.info? e=some inf/\inf.size=te.size/\inf.bytes=tie.bytes/\inf.zero=some z/\z.cells.size=inf.size /\ ∀ V w,KR V w te te.dflt z.cells.toList:=by
 obtain ⟨ti',h1,h2⟩:=hr
 rw [hT] at h1
 obtain rfl:=Option.some.inj h1
 obtain ⟨inf,z,hi,hs,hb,hz,_,hk⟩:=OK.info
 have hsz:=OK.size _ h2
 refine ⟨inf,z,hi,by rw [hs,hsz],hb,hz,?_,hk _ h2⟩
 have:=zcL te _ _ (hk _ h2 (fun _=>True) B.w0)
 rw [Array.length_toList] at this
 rw [this,hsz,hs]
theorem zlO (H:MInv B (zaa mu) dead ρ w) {t ty:TypeId} {ti:TI} (OK:TOk P B.C t ti) {x y:Cel} {u u':Value} {e:TypeId} {te:Ty} {xs ys:List te.den} {m:RMode} {ed:List (Nat×Option Cont)}
    (h:zir (zaa mu) ti x=some ⟨e,te,xs,m,ed⟩) (hy:zgf (zaa mu) te y=some ys) {tie:TI} (hT:B.C.T e=some tie) (OKe:TOk P B.C e tie) (hb1:1<=tie.bytes)
    (hroom:(xs.length+ys.length)*tie.bytes<=140737488355328) (hx:CR (B.sit (zaa mu) ρ w) x u) (hy':CR (B.sit (zaa mu) ρ w) y u') (id1:Nat) :
    ∃ v w',(Builtin.append_ #[t,t] ty #[u,u']).run P w = .ok v w' /\ OpD B mu dead ρ w ⟨.sv (.one (.full id1)),[(id1,.row e te (xs++ys) m)],ed⟩ v w':=by
 obtain ⟨d,hd,_,hel,_⟩:=OK.desc
 have hmax:xs.length+ys.length<=maxLen:=by
  have:(xs.length+ys.length)*1<=(xs.length+ys.length)*tie.bytes:=Nat.mul_le_mul_left _ hb1
  simp only [maxLen]
  omega
 obtain ⟨A2,c2,news,rfl,hnk,hnl⟩:=zhs H.cont hy hy'
 have hnl':=zgm te _ _ hnk
 have hone:∀ v∈news,v.oneCell'=true:=by
  have:∀ (zs:List te.den) (vs:List Value),KL (KR (B.V (zaa mu) ρ w) w te) zs vs->∀ v∈vs,v.oneCell'=true:=by
   intro zs
   induction zs with
   | nil=>intro vs hv v hm; rw [show vs=[] from hv] at hm; simp at hm
   | cons z zs ih =>
    rintro vs ⟨a,b,rfl,ha,hb⟩ v hm
    rcases List.mem_append.1 hm with hm | hm
    · exact zh9 _ _ ((zcr (σ:=B.sit (zaa mu) ρ w) te z a).2 ha) v hm
    · exact ih b hb v hm
  exact this ys news hnk
 rcases zlN OK h hx H.cont with ⟨rfl,rfl,rfl,rfl,hrt,hte⟩ | ⟨id,i,full,rfl,hm,hom,hte,hi,hxs,hxl,hv⟩
 · -- nil
   obtain ⟨inf,z,hinf,hsz,hby,hz,hzs,_⟩:=zia hrt hT OKe
   rw [hel e hte] at hd
   have hr:=zgW (P:=P) (w:=w) (ty:=ty) (n:=0) (cap:=0) (A:=none) (olds:=[]) (m:=ys.length) (c:=c2) (A2:=A2) (news:=news) hd hinf hz hzs true (.inl ⟨rfl,rfl,rfl,rfl⟩) (by rw [hnl',hsz]) hone hnl (by rw [hby]; simpa using hroom) (by simpa using hmax)
   rcases hr with ⟨_,_,hm0,_,hr⟩ | ⟨htag,_⟩ | ⟨cap',cur',h1,h2,h3,h4,hr⟩
   · refine ⟨_,_,hr,fun mu' hmu=>?_⟩
     obtain ⟨h5,h6,rfl⟩:=zaN hmu
     have hys:ys=[]:=List.eq_nil_of_length_eq_zero hm0
     obtain ⟨le,inv⟩:=H.add (i:=⟨none,0,0,te.size⟩) (c:=.row e te ([]++ys) .own) (w':=w) h5 h6 ⟨rfl,rfl,rfl,Nat.le_refl _⟩ (fun _ _=>rfl) (fun g hg=>by cases hg) (fun σ' _ hρ hw'=>⟨_,hρ,by simp [hys],rfl,hrt,by simp [RowR,hys]⟩)
     exact ⟨_,le,inv,⟨_,zaZ _ _ _,by simp [hdr0]⟩⟩
   · cases htag
   · refine ⟨_,_,hr,fun mu' hmu=>?_⟩
     obtain ⟨h5,h6,rfl⟩:=zaN hmu
     simp only [Nat.zero_add,List.nil_append] at h1 h2 h3 h4
     obtain ⟨le,inv⟩:=H.add (i:=⟨some w.heap.size,cap',ys.length,te.size⟩) (c:=.row e te ([]++ys) .own) (w':=w.drew.alloc (.cells cur' e)) h5 h6 ⟨rfl,rfl,rfl,by simp⟩ (fun g hg=>heap_alloc_old w.drew _ g hg)
      (fun g hg=>by cases hg; exact ⟨Nat.le_refl _,by simp⟩) (fun σ' le hρ hw'=>by
       refine ⟨_,hρ,by simp,rfl,hrt,?_⟩
       simp only [RowR]
       refine ⟨cur',by rw [hw']; exact heap_alloc_new w.drew _,by simpa using h1,h2,by rw [h3,hsz],?_⟩
       simp only [List.nil_append]
       rw [<- hsz,h4]
       exact KL.imp (KR.mono le.blk te) _ _ hnk)
     exact ⟨_,le,inv,⟨_,zaZ _ _ _,by simp [hdr0]⟩⟩
 · -- a row of one's own
   obtain ⟨i',hi',hlen',hsz',hrt,hrr⟩:=H.cont id _ hm
   obtain rfl:=Option.some.inj (hi.symm.trans hi')
   obtain ⟨inf,z,hinf,hsz,hby,hz,hzs,_⟩:=zia hrt hT OKe
   rw [hel e hte] at hd
   have hmut:mutC (.row e te full m):=by cases m <;> simp [zco,mutC] at hom ⊢
   cases hg:i.g with
   | none =>
    simp only [RowR,hg] at hrr
    subst hrr
    have hxs0:xs=[]:=by rw [hxs]; simp
    subst hxs0
    simp only [hdr0,hg] at hv
    obtain ⟨_,A,rfl⟩:=hv
    have hr:=zgW (P:=P) (w:=w) (ty:=ty) (n:=0) (cap:=0) (A:=A) (olds:=[]) (m:=ys.length) (c:=c2) (A2:=A2) (news:=news) hd hinf hz hzs true (.inl ⟨rfl,rfl,rfl,rfl⟩) (by rw [hnl',hsz]) hone hnl (by rw [hby]; simpa using hroom) (by simpa using hmax)
    rcases hr with ⟨_,_,hm0,_,hr⟩ | ⟨htag,_⟩ | ⟨cap',cur',h1,h2,h3,h4,hr⟩
    · refine ⟨_,_,hr,fun mu' hmu=>?_⟩
      obtain ⟨h5,h6,rfl⟩:=zaN hmu
      have hys:ys=[]:=List.eq_nil_of_length_eq_zero hm0
      obtain ⟨le,inv⟩:=H.swap (i1:=⟨none,0,0,te.size⟩) (c1:=.row e te ([]++ys) m) (w':=w) hm hmut hi h5 h6 ⟨rfl,rfl,rfl,Nat.le_refl _⟩ (fun _ _ _=>rfl) (fun g hg=>by cases hg) (fun _ _ _ _ h h'=>by cases h; exact ⟨_,_,_,_,rfl,h'⟩)
       (fun σ' _ hρ hw'=>⟨_,hρ,by simp [hys],rfl,hrt,by simp [RowR,hys]⟩)
      exact ⟨_,le,inv,⟨_,zaZ _ _ _,by simp [hdr0]⟩⟩
    · cases htag
    · refine ⟨_,_,hr,fun mu' hmu=>?_⟩
      obtain ⟨h5,h6,rfl⟩:=zaN hmu
      simp only [Nat.zero_add,List.nil_append] at h1 h2 h3 h4
      obtain ⟨le,inv⟩:=H.swap (i1:=⟨some w.heap.size,cap',ys.length,te.size⟩) (c1:=.row e te ([]++ys) m) (w':=w.drew.alloc (.cells cur' e)) hm hmut hi h5 h6 ⟨rfl,rfl,rfl,by simp⟩ (fun g hlt _=>heap_alloc_old w.drew _ g hlt)
       (fun g hg=>by cases hg; exact ⟨by simp,.inr (Nat.le_refl _)⟩) (fun _ _ _ _ h h'=>by cases h; exact ⟨_,_,_,_,rfl,h'⟩) (fun σ' le hρ hw'=>by
        refine ⟨_,hρ,by simp,rfl,hrt,?_⟩
        simp only [RowR]
        refine ⟨cur',by rw [hw']; exact heap_alloc_new w.drew _,by simpa using h1,h2,by rw [h3,hsz],?_⟩
        simp only [List.nil_append]
        rw [<- hsz,h4]
        exact KL.imp (KR.mono le.blk te) _ _ hnk)
      exact ⟨_,le,inv,⟨_,zaZ _ _ _,by simp [hdr0]⟩⟩
   | some g =>
    simp only [RowR,hg] at hrr
    obtain ⟨cur,hh,hcap,hmx,hcs,hk⟩:=hrr
    simp only [hdr0,hg] at hv
    subst hv
    have hkx:KL (KR (B.V (zaa mu) ρ w) w te) xs (cur.toList.take (xs.length*te.size)):=by
     have:=(zcY te xs.length hk hxl).1
     rw [<- hxs,List.take_take,Nat.min_eq_left (Nat.mul_le_mul_right _ hxl)] at this
     exact this
    have hr:=zgW (P:=P) (w:=w) (ty:=ty) (n:=xs.length) (cap:=i.cap) (A:=some ⟨g,0,none⟩) (olds:=cur.toList.take (xs.length*te.size)) (m:=ys.length) (c:=c2) (A2:=A2) (news:=news) hd hinf hz hzs false
     (.inr ⟨rfl,g,cur,rfl,hh,by omega,hmx,by rw [hcs,hsz],by rw [hsz]⟩) (by rw [hnl',hsz]) hone hnl (by rw [hby]; exact hroom) hmax
    rcases hr with ⟨htag,_⟩ | ⟨_,g',cur1,cur',hA,hh',hcap',hcs',htk,hr⟩ | ⟨cap',cur',h1,h2,h3,h4,hr⟩
    · cases htag
    · simp only [Option.some.injEq,Addr.mk.injEq,and_true] at hA
      subst hA
      rw [hh] at hh'
      simp only [Option.some.injEq,Obj.cells.injEq,and_true] at hh'
      subst hh'
      refine ⟨_,_,hr,fun mu' hmu=>?_⟩
      obtain ⟨h5,h6,rfl⟩:=zaN hmu
      obtain ⟨le,inv⟩:=H.swap (i1:=⟨some g,i.cap,xs.length+ys.length,te.size⟩) (c1:=.row e te (xs++ys) m) (w':=w.setRow g cur') hm hmut hi h5 h6 (zeQ _) (fun k _ hne=>setRow_other w g k _ (fun e=>hne (by rw [hg,e])))
       (fun g' hg'=>by cases hg'; exact ⟨by rw [setRow_size]; exact H.lt id i g (by rw [hm]; simp) hi hg,.inl hg⟩) (fun _ _ _ _ h h'=>by cases h; exact ⟨_,_,_,_,rfl,h'⟩) (fun σ' le hρ hw'=>by
        refine ⟨_,hρ,by simp,rfl,hrt,?_⟩
        simp only [RowR]
        refine ⟨cur',by rw [hw']; exact setRow_heap w g cur _ e (0,0) hh,by simpa using hcap',hmx,by rw [hcs',hcs],?_⟩
        rw [List.length_append,<- hsz,htk]
        exact KL.imp (KR.mono le.blk te) _ _ (zgn hkx hnk))
      exact ⟨_,le,inv,⟨_,zaZ _ _ _,by simp [hdr0]⟩⟩
    · refine ⟨_,_,hr,fun mu' hmu=>?_⟩
      obtain ⟨h5,h6,rfl⟩:=zaN hmu
      obtain ⟨le,inv⟩:=H.swap (i1:=⟨some w.heap.size,cap',xs.length+ys.length,te.size⟩) (c1:=.row e te (xs++ys) m) (w':=w.drew.alloc (.cells cur' e)) hm hmut hi h5 h6 ⟨rfl,rfl,rfl,by simp⟩ (fun g hlt _=>heap_alloc_old w.drew _ g hlt)
       (fun g hg=>by cases hg; exact ⟨by simp,.inr (Nat.le_refl _)⟩) (fun _ _ _ _ h h'=>by cases h; exact ⟨_,_,_,_,rfl,h'⟩) (fun σ' le hρ hw'=>by
        refine ⟨_,hρ,by simp,rfl,hrt,?_⟩
        simp only [RowR]
        refine ⟨cur',by rw [hw']; exact heap_alloc_new w.drew _,by simpa using h1,h2,by rw [h3,hsz],?_⟩
        rw [List.length_append,<- hsz,h4]
        exact KL.imp (KR.mono le.blk te) _ _ (zgn hkx hnk))
      exact ⟨_,le,inv,⟨_,zaZ _ _ _,by simp [hdr0]⟩⟩
end
end Go.Proofs.YtdhkgmhdengnkaaGreatDoorPi
namespace Go.Proofs.YtdhkgmhdengnkaaGreatDoorPi
set_option linter.unusedVariables false
set_option linter.unusedSimpArgs false
open Go
theorem zgq {o:Option TI} {τ:Ty} (h:isTy o τ=true):∃ ti,o=some ti/\ti.ty=some τ:=by
 unfold isTy at h
 split at h
 · rename_i ti
   split at h
   · rename_i τ' hty
     exact ⟨ti,rfl,by rw [hty,Ty.beq_eq h]⟩
   · cases h
 · cases h
theorem zfL {C:Ctx} {ti:TI} {n:Option Nat} (h:zj9 C ti n=true):∃ e tie k,ti.elem=some e/\n=some k/\C.T e=some tie/\tie.size=k:=by
 unfold zj9 at h
 split at h
 · rename_i e k he
   split at h
   · rename_i tie hT
     exact ⟨e,tie,k,he,rfl,hT,Nat.eq_of_beq_eq_true h⟩
   · cases h
 · cases h
section
variable {P:Program} {B:Base} {mu:List (Nat×Cont)} {dead:List Nat} {ρ:Nat->Option RI} {w:World}
theorem zke (H:MuR B.C (B.sit (zaa mu) ρ w) (zaa mu)) {c:Cel} {u:Value} (hc:CR (B.sit (zaa mu) ρ w) c u) {k:Nat} (h:zbT (zaa mu) c=some k) :
    ∃ A n cap,u = .slice A n cap/\n<=cap/\lenOf (zaa mu) c=some (n:Int) /\
     (n=0 \/ ∃ g o,A=some ⟨g,o,none⟩):=by
 unfold zbT at h
 split at h
 · rename_i e t xs
   simp only [CR,KR] at hc
   obtain ⟨A,cap,he,hn,hk⟩:=hc
   simp only [List.cons.injEq,and_true] at he
   exact ⟨A,_,cap,he,hn,rfl,hk.imp id fun ⟨g,o,us,hA,_⟩=>⟨g,o,hA⟩⟩
 · rename_i id
   split at h
   · rename_i e t xs m hm
     simp only [CR] at hc
     obtain ⟨i,hi,hv⟩:=hc
     obtain ⟨h1,h2,h3,h4⟩:=zbU (H id _ hm) hi
     obtain ⟨A,cap,hu,hn,hA⟩:=zdY hv (by rw [h1]; exact h4)
     refine ⟨A,_,cap,hu,hn,by simp only [lenOf,hm,h1],hA.imp (fun h=>h) fun ⟨g,_,hA⟩=>⟨g,_,hA⟩⟩
   · cases h
 · rename_i id n
   split at h
   · rename_i e t xs m hm
     simp only [CR] at hc
     obtain ⟨i,hi,hn,hv⟩:=hc
     obtain ⟨h1,h2,h3,h4⟩:=zbU (H id _ hm) hi
     obtain ⟨A,cap,hu,hn',hA⟩:=zdY hv (fun g hg=>by have:=h4 g hg; omega)
     exact ⟨A,n,cap,hu,hn',rfl,hA.imp (fun h=>h) fun ⟨g,_,hA⟩=>⟨g,_,hA⟩⟩
   · cases h
 · rename_i id o n
   split at h
   · rename_i e t xs m hm
     simp only [CR] at hc
     obtain ⟨i,hi,hn,A,cap,hu,hn',hA⟩:=hc
     exact ⟨A,n,cap,hu,hn',rfl,hA.imp (fun h=>h) fun ⟨g,_,hA⟩=>⟨g,_,hA⟩⟩
   · cases h
 · cases h
theorem zek {t e:TypeId} {ei:TypeInfo} (hd:P.underlying t=some (.slice e)) (he:P.info? e=some ei) {k:IntKind} {i:Int} {g o n cap:Nat} (h0:0<=i) (h1:i < (n:Int)) :
    (Instr.indexAt t (.slice (some ⟨g,o,none⟩) n cap) (.int k i)).run P w = .ok (.pointer (some ⟨g,o+i.toNat*ei.size,none⟩)) w:=by
 simp only [Instr.indexAt,asIntOf,Sem.run_bind,Sem.run_pure,Result.andThen_ok,run_underlying hd]
 rw [if_pos ⟨h0,h1⟩]
 simp only [Sem.run_bind,zcu he,Result.andThen_ok,Sem.run_pure,zbx]
theorem zmV (H:MuR B.C (B.sit (zaa mu) ρ w) (zaa mu)) (OKP:POk P B.C) {t:TypeId} {ti:TI} (hT:B.C.T t=some ti) {c:Cel} {u:Value} (hc:CR (B.sit (zaa mu) ρ w) c u) {k:IntKind} {i:Int}
    (hsz:zj9 B.C ti (zbT (zaa mu) c)=true) {S:Type} {K:Cel->Option S} {r:S}
    (h:(match (generalizing:=false) c with
       | .sl _ t xs=>if 0<=i then (if i < dlen xs then K (.rptr (t.emb (rd t.dflt xs i)) 0) else none) else none
       | .full id=>(match zaa mu id with
        | some (.row _ _ xs _)=>if 0<=i then (if i < dlen xs then K (.iptr id i 0) else none) else none
        | _=>none)
       | .pre id n=>if 0<=i then (if i < n2i n then K (.iptr id i 0) else none) else none
       | .sub id o n=>if 0<=i then (if i < n2i n then K (.iptr id (iadd (n2i o) i) 0) else none) else none
       | _=>none)=some r) :
    ∃ p v,K p=some r/\(Instr.indexAt t u (.int k i)).run P w = .ok v w/\CR (B.sit (zaa mu) ρ w) p v:=by
 obtain ⟨e,tie,n0,hel,hn0,hTe,hts⟩:=zfL hsz
 obtain ⟨d,hd,_,hel',_⟩:=(OKP.T t ti hT).desc
 rw [hel' e hel] at hd
 obtain ⟨ei,z,hei,hes,_⟩:=(OKP.T e tie hTe).info
 cases c <;> dsimp only at h <;> try (cases h; done)
 case sl e' t' xs =>
  split at h
  · rename_i h0
    split at h
    · rename_i h1
      simp only [zbT,Option.some.injEq] at hn0
      simp only [CR,KR] at hc
      obtain ⟨A,cap,he,hn,hk⟩:=hc
      simp only [List.cons.injEq,and_true] at he
      rcases hk with hk | ⟨g,o,us,rfl,hV,hk,hl⟩
      · exfalso
        have h1':i < ((List.length (α:=t'.den) xs:Nat):Int):=h1
        rw [hk] at h1'
        omega
      · subst he
        have h1':i < ((List.length (α:=t'.den) xs:Nat):Int):=h1
        obtain ⟨a,ha,hj⟩:=zoH t' t'.dflt xs us i.toNat hk (by omega)
        refine ⟨_,_,h,zek hd hei h0 h1,?_⟩
        simp only [CR]
        refine ⟨g,o+i.toNat*ei.size,a,by simp,.inl hV,(zcr t' _ a).2 ha,fun q v hq=>?_⟩
        have:=hl _ v (hj q v hq)
        rw [hes,hts,<- hn0,Nat.add_assoc]
        exact this
    · cases h
  · cases h
 case full id =>
  split at h
  · rename_i e' t' xs m hm
    split at h
    · rename_i h0
      split at h
      · rename_i h1
        have h1':i < (xs.length:Int):=h1
        simp only [zbT,hm,Option.some.injEq] at hn0
        simp only [CR] at hc
        obtain ⟨j,hj,hv⟩:=hc
        obtain ⟨r1,r2,r3,r4⟩:=zbU (H id _ hm) hj
        cases hg:j.g with
        | none=>have:=r3 hg; omega
        | some g =>
         simp only [hdr0,hg] at hv
         subst hv
         refine ⟨_,_,h,zek hd hei h0 (by rw [r1]; exact h1'),?_⟩
         simp only [CR]
         exact ⟨j,g,hj,h0,by rw [r1]; exact h1',hg,by rw [hes,hts,<- hn0,r2]; simp⟩
      · cases h
    · cases h
  · cases h
 case pre id n =>
  split at h
  · rename_i h0
    split at h
    · rename_i h1
      have h1':i < (n:Int):=h1
      simp only [zbT] at hn0
      split at hn0
      · rename_i e' t' xs m hm
        simp only [Option.some.injEq] at hn0
        simp only [CR] at hc
        obtain ⟨j,hj,hjn,hv⟩:=hc
        obtain ⟨r1,r2,r3,r4⟩:=zbU (H id _ hm) hj
        cases hg:j.g with
        | none=>have:=r3 hg; omega
        | some g =>
         simp only [hdr0,hg] at hv
         subst hv
         refine ⟨_,_,h,zek hd hei h0 h1',?_⟩
         simp only [CR]
         exact ⟨j,g,hj,h0,by omega,hg,by rw [hes,hts,<- hn0,r2]; simp⟩
      · cases hn0
    · cases h
  · cases h
 case sub id o n =>
  split at h
  · rename_i h0
    split at h
    · rename_i h1
      have h1':i < (n:Int):=h1
      simp only [zbT] at hn0
      split at hn0
      · rename_i e' t' xs m hm
        simp only [Option.some.injEq] at hn0
        simp only [CR] at hc
        obtain ⟨j,hj,hjn,A,cap,rfl,hnc,hA⟩:=hc
        obtain ⟨r1,r2,r3,r4⟩:=zbU (H id _ hm) hj
        rcases hA with hA | ⟨g,hg,rfl⟩
        · omega
        · refine ⟨_,_,h,zek hd hei h0 h1',?_⟩
          simp only [CR]
          refine ⟨j,g,hj,by simp only [iadd,n2i]; omega,by simp only [iadd,n2i]; omega,hg,?_⟩
          rw [hes,hts,<- hn0,r2]
          have:(iadd (n2i o) i).toNat=o+i.toNat:=by simp only [iadd,n2i]; omega
          rw [this,Nat.add_mul]
          simp
      · cases hn0
    · cases h
  · cases h
end
end Go.Proofs.YtdhkgmhdengnkaaGreatDoorPi
namespace Go.Proofs.YtdhkgmhdengnkaaGreatDoorPi
set_option linter.unusedVariables false
set_option linter.unusedSimpArgs false
open Go
def optB (v:Option Value) (x:Option Int) (d y:Int):Prop:=(v=none/\x=none/\y=d) \/ ∃ k,v=some (.int k y)/\x=some y
section
variable {P:Program} {B:Base} {mu:List (Nat×Cont)} {dead:List Nat} {ρ:Nat->Option RI} {w:World}
theorem zgX {lov hiv:Option Value} {lo hi:Option Int} {l h:Int} {n cap:Nat} (hl:optB lov lo 0 l) (hh:optB hiv hi n h) (h0:0<=l) (h1:l<=h) (h2:h<=n) (h3:n<=cap) (b:Bool) :
    (Instr.sliceBounds b n cap lov hiv none).run P w = .ok (l.toNat,h.toNat,cap) w:=by
 have eh:(h.toNat:Int)=h:=Int.toNat_of_nonneg (by omega)
 rcases hl with ⟨rfl,rfl,rfl⟩ | ⟨k,rfl,rfl⟩
 · rcases hh with ⟨rfl,rfl,rfl⟩ | ⟨k',rfl,rfl⟩
   · simp [Instr.sliceBounds]
   · simp [Instr.sliceBounds,run_sliceBound (P:=P) w k' h cap _ (by omega) (by omega)]
 · rcases hh with ⟨rfl,rfl,rfl⟩ | ⟨k',rfl,rfl⟩
   · simp [Instr.sliceBounds,run_sliceBound (P:=P) w k l n _ (by omega) (by omega)]
   · simp [Instr.sliceBounds,run_sliceBound (P:=P) w k' h cap _ (by omega) (by omega),run_sliceBound (P:=P) w k l h.toNat _ (by omega) (by omega)]
theorem zfw {t e:TypeId} {ei:TypeInfo} (hd:P.underlying t=some (.slice e)) (he:P.info? e=some ei) {lov hiv:Option Value} {lo hi:Option Int} {l h:Int} {n cap:Nat} {A:Option Addr}
    (hl:optB lov lo 0 l) (hh:optB hiv hi n h) (h0:0<=l) (h1:l<=h) (h2:h<=n) (h3:n<=cap) :
    (Instr.sliceAt t (.slice A n cap) lov hiv none).run P w = .ok (.slice (if cap=l.toNat then A else A.map (·.add (l.toNat*ei.size))) (h.toNat-l.toNat) (cap-l.toNat)) w:=by
 have hb:=zgX (P:=P) (w:=w) hl hh h0 h1 h2 h3 true
 simp [Instr.sliceAt,Instr.slice,run_underlying hd,hb,zcu he]
theorem ziE {t:TypeId} (hd:P.underlying t=some .string) {lov hiv:Option Value} {lo hi:Option Int} {l h:Int} {s:ByteArray}
    (hl:optB lov lo 0 l) (hh:optB hiv hi s.size h) (h0:0<=l) (h1:l<=h) (h2:h<=s.size) :
    (Instr.sliceAt t (.string s) lov hiv none).run P w = .ok (.string (s.extract l.toNat h.toNat)) w:=by
 have hb:=zgX (P:=P) (w:=w) hl hh h0 h1 h2 (Nat.le_refl _) false
 simp [Instr.sliceAt,Instr.slice,run_underlying hd,hb]
theorem zoK (H:MuR B.C (B.sit (zaa mu) ρ w) (zaa mu)) (OKP:POk P B.C) {t:TypeId} {c:Cel} {u:Value} (hc:CR (B.sit (zaa mu) ρ w) c u)
    (hty:zcq B.C (zaa mu) (B.C.T t) c=true) {lov hiv:Option Value} {lo hi:Option Int} {l h n:Int} (hn:lenOf (zaa mu) c=some n)
    (hl:optB lov lo 0 l) (hh:optB hiv hi n h) (h0:0<=l) (h1:l<=h) (h2:h<=n) {S:Type} {K:Cel->Option S} {r:S} (hp:zcp c lo hi l h K=some r) :
    ∃ p v,K p=some r/\(Instr.sliceAt t u lov hiv none).run P w = .ok v w/\CR (B.sit (zaa mu) ρ w) p v:=by
 cases hT:B.C.T t with
 | none=>rw [hT] at hty; simp [zcq] at hty
 | some ti =>
 rw [hT] at hty
 obtain ⟨d,hd,_,hel,_,_,hstr,_⟩:=(OKP.T t ti hT).desc
 by_cases hs:∃ s,c = .str s
 · obtain ⟨s,rfl⟩:=hs
   obtain ⟨ti',he,hty'⟩:=zgq (τ:=.str) (o:=some ti) (by simpa only [zcq] using hty)
   cases he
   rw [hstr hty'] at hd
   have hu:u = .string s:=by simpa only [CR] using hc
   subst hu
   simp only [lenOf,Option.some.injEq] at hn
   subst hn
   exact ⟨_,_,hp,ziE hd hl hh h0 h1 h2,by simp only [CR,sext,itn]⟩
 · by_cases hnil:c = .nilsl
   · subst hnil
     simp only [zcq] at hty
     obtain ⟨e,he⟩:=Option.isSome_iff_exists.1 hty
     have hu:u = .slice none 0 0:=by simpa only [CR] using hc
     subst hu
     rw [hel e he] at hd
     simp only [lenOf,Option.some.injEq] at hn
     subst hn
     have hl0:l=0:=by omega
     have hh0:h=0:=by omega
     subst hl0 hh0
     have hb:=zgX (P:=P) (w:=w) hl hh h0 h1 h2 (Nat.le_refl _) true
     refine ⟨_,.slice none 0 0,hp,?_,by simp only [CR]⟩
     obtain ⟨ei,hei⟩:=(OKP.T t ti hT).elI e he
     simpa using zfw (P:=P) (w:=w) (A:=none) hd hei hl hh h0 h1 h2 (Nat.le_refl _)
   · have hsz:zj9 B.C ti (zbT (zaa mu) c)=true:=by
      unfold zcq at hty
      split at hty
      · exact absurd ⟨_,rfl⟩ hs
      · exact absurd rfl hnil
      · rename_i h1 h2 h3
        cases h1
        exact hty
      · cases hty
     obtain ⟨e,tie,k,he,hk,hTe,hts⟩:=zfL hsz
     rw [hel e he] at hd
     obtain ⟨ei,z,hei,hes,_⟩:=(OKP.T e tie hTe).info
     obtain ⟨A,n',cap,rfl,hncap,hlen,hA⟩:=zke H hc hk
     rw [hn] at hlen
     obtain rfl:=Option.some.inj hlen
     have hrun:=zfw (P:=P) (w:=w) (A:=A) hd hei hl hh h0 h1 h2 hncap
     have hA':∀ g o,A=some ⟨g,o,none⟩->0 < h.toNat-l.toNat->(if cap=l.toNat then A else A.map (·.add (l.toNat*ei.size)))=some ⟨g,o+l.toNat*ei.size,none⟩:=by
      intro g o hA hpos
      rw [if_neg (by omega),hA]
      simp [zbx]
     have hsub:(h.toNat-l.toNat:Nat)=0 \/ 0 < h.toNat-l.toNat:=by omega
     cases c <;> simp only [zbT] at hk <;> try (cases hk; done)
     case sl e' t' xs =>
      cases hk
      simp only [CR,KR] at hc
      obtain ⟨A0,cap0,he0,hn0,hk0⟩:=hc
      simp only [List.cons.injEq,and_true,Value.slice.injEq] at he0
      obtain ⟨rfl,rfl,rfl⟩:=he0
      have hgo:∀ ys:List t'.den,ys=(List.drop l.toNat (List.take h.toNat (α:=t'.den) xs))->CR (B.sit (zaa mu) ρ w) (.sl e' t' ys) (.slice (if cap=l.toNat then A else A.map (·.add (l.toNat*ei.size))) (h.toNat-l.toNat) (cap-l.toNat)):=by
       intro ys hys
       have hyl:ys.length=h.toNat-l.toNat:=by rw [hys]; simp; omega
       simp only [CR,KR]
       refine ⟨_,_,by rw [show List.length (α:=t'.den) ys=_ from hyl],by rw [show List.length (α:=t'.den) ys=_ from hyl]; omega,?_⟩
       rcases hsub with hz | hpos
       · left; rw [show List.length (α:=t'.den) ys=_ from hyl]; exact hz
       · right
         rcases hk0 with hk0 | ⟨g,o,us,hAA,hV,hku,hlie⟩
         · have:List.length (α:=t'.den) xs=0:=hk0
           omega
         · have hle:l.toNat<=List.length (α:=t'.den) xs:=by omega
           have k1:=(zcY t' h.toNat hku (by omega)).1
           have k2:=(zcY t' l.toNat k1 (by simp; omega)).2
           refine ⟨g,o+l.toNat*ei.size,_,hA' g o hAA hpos,hV,by rw [hys]; exact k2,?_⟩
           rw [hes,hts]
           exact ziB (zkd hlie _) _
      unfold zcp at hp
      rcases hl with ⟨_,rfl,rfl⟩ | ⟨_,_,rfl⟩ <;> rcases hh with ⟨_,rfl,rfl⟩ | ⟨_,_,rfl⟩
      · exact ⟨_,_,hp,hrun,hgo _ (by simp)⟩
      · exact ⟨_,_,hp,hrun,hgo _ (by simp [zio,itn])⟩
      · exact ⟨_,_,hp,hrun,hgo _ (by simp [zlu,itn])⟩
      · exact ⟨_,_,hp,hrun,hgo _ rfl⟩
     case full id =>
      split at hk
      · rename_i e' t' xs m hm
        cases hk
        simp only [CR] at hc
        obtain ⟨i,hi,hv⟩:=hc
        obtain ⟨r1,r2,r3,r4⟩:=zbU (H id _ hm) hi
        have hlen':n'=i.len:=by
         unfold hdr0 at hv
         split at hv
         · obtain ⟨h0',A0,he0⟩:=hv; cases he0; exact h0'.symm
         · cases hv; rfl
        subst hlen'
        unfold zcp at hp
        have hpre:CR (B.sit (zaa mu) ρ w) (.pre id h.toNat) (.slice (if cap=0 then A else A.map (·.add (0*ei.size))) (h.toNat-0) (cap-0)):=by
         simp only [CR]
         refine ⟨i,hi,by omega,?_⟩
         unfold hdr0 at hv ⊢
         split at hv
         · obtain ⟨h0',A0,he0⟩:=hv
           obtain ⟨e1,e2,e3⟩:=Value.slice.inj he0
           subst e1 e3
           exact ⟨by omega,A,by simp; omega⟩
         · cases hv; simp [zbx]
        have hsb:CR (B.sit (zaa mu) ρ w) (.sub id l.toNat (h.toNat-l.toNat)) (.slice (if cap=l.toNat then A else A.map (·.add (l.toNat*ei.size))) (h.toNat-l.toNat) (cap-l.toNat)):=by
         simp only [CR]
         refine ⟨i,hi,by omega,_,_,rfl,by omega,?_⟩
         rcases hsub with hz | hpos
         · exact .inl hz
         · right
           unfold hdr0 at hv
           split at hv
           · obtain ⟨h0',_⟩:=hv; omega
           · rename_i g hg
             cases hv
             exact ⟨g,hg,by rw [hA' g 0 rfl hpos,hes,hts,r2]; simp⟩
        rcases hl with ⟨_,rfl,rfl⟩ | ⟨_,_,rfl⟩ <;> rcases hh with ⟨_,rfl,rfl⟩ | ⟨_,_,rfl⟩
        · refine ⟨_,_,hp,hrun,?_⟩
          simp only [CR]
          refine ⟨i,hi,?_⟩
          unfold hdr0 at hv ⊢
          split at hv
          · obtain ⟨h0',A0,he0⟩:=hv
            obtain ⟨e1,e2,e3⟩:=Value.slice.inj he0
            subst e1 e3
            exact ⟨h0',A,by simp; omega⟩
          · cases hv; simp [zbx]
        · exact ⟨_,_,hp,hrun,hpre⟩
        · exact ⟨_,_,hp,hrun,hsb⟩
        · exact ⟨_,_,hp,hrun,hsb⟩
      · cases hk
     case pre id n0 =>
      split at hk
      · rename_i e' t' xs m hm
        cases hk
        simp only [CR] at hc
        obtain ⟨i,hi,hn0,hv⟩:=hc
        obtain ⟨r1,r2,r3,r4⟩:=zbU (H id _ hm) hi
        have hlen':n'=n0:=by
         unfold hdr0 at hv
         split at hv
         · obtain ⟨h0',A0,he0⟩:=hv; cases he0; exact h0'.symm
         · cases hv; rfl
        subst hlen'
        unfold zcp at hp
        have hpre:CR (B.sit (zaa mu) ρ w) (.pre id h.toNat) (.slice (if cap=0 then A else A.map (·.add (0*ei.size))) (h.toNat-0) (cap-0)):=by
         simp only [CR]
         refine ⟨i,hi,by omega,?_⟩
         unfold hdr0 at hv ⊢
         split at hv
         · obtain ⟨h0',A0,he0⟩:=hv
           obtain ⟨e1,e2,e3⟩:=Value.slice.inj he0
           subst e1 e3
           exact ⟨by omega,A,by simp; omega⟩
         · cases hv; simp [zbx]
        have hsb:CR (B.sit (zaa mu) ρ w) (.sub id l.toNat (h.toNat-l.toNat)) (.slice (if cap=l.toNat then A else A.map (·.add (l.toNat*ei.size))) (h.toNat-l.toNat) (cap-l.toNat)):=by
         simp only [CR]
         refine ⟨i,hi,by omega,_,_,rfl,by omega,?_⟩
         rcases hsub with hz | hpos
         · exact .inl hz
         · right
           unfold hdr0 at hv
           split at hv
           · obtain ⟨h0',_⟩:=hv; omega
           · rename_i g hg
             cases hv
             exact ⟨g,hg,by rw [hA' g 0 rfl hpos,hes,hts,r2]; simp⟩
        rcases hl with ⟨_,rfl,rfl⟩ | ⟨_,_,rfl⟩
        · exact ⟨_,_,hp,hrun,hpre⟩
        · exact ⟨_,_,hp,hrun,hsb⟩
      · cases hk
     case sub id o n0 =>
      split at hk
      · rename_i e' t' xs m hm
        cases hk
        simp only [CR] at hc
        obtain ⟨i,hi,hn0,A0,c0,he0,hnc0,hA0⟩:=hc
        cases he0
        obtain ⟨r1,r2,r3,r4⟩:=zbU (H id _ hm) hi
        unfold zcp at hp
        refine ⟨_,_,hp,hrun,?_⟩
        simp only [CR,nadd,nsub,itn]
        refine ⟨i,hi,by omega,_,_,rfl,by omega,?_⟩
        rcases hsub with hz | hpos
        · exact .inl hz
        · right
          rcases hA0 with hA0 | ⟨g,hg,hA0⟩
          · omega
          · exact ⟨g,hg,by rw [hA' g _ hA0 hpos,hes,hts,r2,Nat.add_mul]⟩
      · cases hk
end
end Go.Proofs.YtdhkgmhdengnkaaGreatDoorPi
namespace Go.Proofs.YtdhkgmhdengnkaaGreatDoorPi
set_option linter.unusedVariables false
set_option linter.unusedSimpArgs false
open Go
theorem znX (off:Nat):∀ (l:List Value) (k:Nat) (cur:Array Value),off+k+l.length<=cur.size ->
    ((l.zipIdx k).foldl (fun cs x=>cs.setIfInBounds (off+x.2) x.1) cur).toList=cur.toList.take (off+k)++l++cur.toList.drop (off+k+l.length)
 | [],k,cur,_=>by simp
 | v::r,k,cur,h=>by
  simp only [List.length_cons] at h
  simp only [List.zipIdx_cons,List.foldl_cons]
  rw [znX off r (k+1) (cur.setIfInBounds (off+k) v) (by simp; omega)]
  rw [Array.toList_setIfInBounds]
  apply List.ext_getElem?
  intro j
  have hl:(cur.toList.set (off+k) v).length=cur.size:=by simp
  have a:=zkM (cur.toList.set (off+k) v) r (off+(k+1)) j (by rw [hl]; omega)
  have b:=zkM cur.toList (v::r) (off+k) j (by simp; omega)
  rw [a,b]
  simp only [List.length_cons]
  by_cases h1:j < off+k
  · rw [if_pos (by omega),if_pos h1,List.getElem?_set_ne (by omega)]
  · rw [if_neg h1]
    by_cases h2:j=off+k
    · subst h2
      rw [if_pos (by omega),if_pos (by omega),List.getElem?_set_self (by simp; omega)]
      simp
    · rw [if_neg (by omega)]
      by_cases h3:j < off+k+(r.length+1)
      · rw [if_pos (by omega),if_pos h3]
        obtain ⟨q,hq⟩ : ∃ q,j-(off+k)=q+1:=⟨j-(off+k)-1,by omega⟩
        rw [hq,List.getElem?_cons_succ]
        congr 1
        omega
      · rw [if_neg (by omega),if_neg h3,List.getElem?_set_ne (by omega)]
theorem zlP (off:Nat) (vs cur:Array Value) (h:off+vs.size<=cur.size) :
    (vs.zipIdx.foldl (fun cs (x:Value×Nat)=>match x with | (c,j)=>cs.setIfInBounds (off+j) c) cur).toList=cur.toList.take off++vs.toList++cur.toList.drop (off+vs.size):=by
 have:=znX off vs.toList 0 cur (by simpa using h)
 simp only [Nat.add_zero,Array.length_toList] at this
 rw [<- this,<- Array.foldl_toList]
 congr 1
 rw [Array.toList_zipIdx]
section
variable {P:Program} {B:Base} {mu:List (Nat×Cont)} {dead:List Nat} {ρ:Nat->Option RI} {w:World}
theorem zkf {σ:Sit} {fields:List (Nat×Nat×Bool)} {place:Nat->Option (Nat×Nat)} (hp:∀ (i off size:Nat) (agg:Bool),fields[i]? = some (off,size,agg)->place i=some (off,size)) :
    ∀ (parts:List (Nat×AV)) (vals:List (Nat×Value)) (cs cs':List Cel) (cur:Array Value),zcJ fields cs parts=some cs'->parts.map Prod.fst=vals.map Prod.fst ->
     ARs σ (parts.map Prod.snd) (vals.map Prod.snd)->CRs σ cs cur.toList->∃ cur',Instr.fill place cur vals=some cur' /\ CRs σ cs' cur'.toList
 | [],vals,cs,cs',cur,h,hf,_,hc=>by
  simp only [List.map_nil] at hf
  have:vals=[]:=by cases vals <;> simp at hf ⊢
  subst this
  simp only [zcJ] at h
  cases h
  exact ⟨cur,rfl,hc⟩
 | (i,v)::parts,vals,cs,cs',cur,h,hf,hA,hc=>by
  cases vals with
  | nil=>simp at hf
  | cons x vals =>
   obtain ⟨i',u⟩:=x
   simp only [List.map_cons,List.cons.injEq] at hf hA
   obtain ⟨rfl,hf⟩:=hf
   obtain ⟨u',r,he,h1,h2⟩:=hA
   cases he
   cases v with
   | sv s =>
    simp only [zcJ] at h
    split at h
    · rename_i off size agg hfi
      have hpi:=hp i off size agg hfi
      cases hb:Nat.beq s.cells.length size with
      | false=>rw [hb] at h; cases h
      | true =>
       rw [hb] at h
       dsimp only [cond_true] at h
       cases hb2:Nat.ble (off+size) cs.length with
       | false=>rw [hb2] at h; cases h
       | true =>
        rw [hb2] at h
        dsimp only [cond_true] at h
        have hs:=Nat.eq_of_beq_eq_true hb
        have hle:=zgp hb2
        have hsc:=zgl s u h1
        have hl:=zbz hsc
        have hlc:=zbz hc
        rw [Array.length_toList] at hl hlc
        have hfold:=zlP off u.cells cur (by omega)
        have hc':CRs σ (zge cs off s.cells) (u.cells.zipIdx.foldl (fun cs (x:Value×Nat)=>match x with | (c,j)=>cs.setIfInBounds (off+j) c) cur).toList:=by
         rw [hfold]
         simp only [zge]
         rw [show off+s.cells.length=off+u.cells.size by omega]
         exact zbO (zbO (zfd off hc) hsc) (zdw _ hc)
        obtain ⟨cur',r1,r2⟩:=zkf hp parts vals _ cs' _ h hf h2 hc'
        refine ⟨cur',?_,r2⟩
        simp only [Instr.fill,hpi]
        rw [if_neg (by simp; omega)]
        exact r1
    · cases h
   | tup l=>simp only [zcJ] at h; cases h
   | junk=>simp only [zcJ] at h; cases h
theorem zmW {t:TypeId} {ti:TI} (OK:TOk P B.C t ti) {σ:Sit} {parts:List (Nat×AV)} {vals:Array (Nat×Value)} {cs:List Cel} (h:zcJ ti.fields ti.zero parts=some cs)
    (hs:∃ fs,P.underlying t=some (.struct fs) /\ ∃ places,fs.toList.mapM (fun f=>(P.info? f.type).map fun i=>(f.offset,i.size))=some places /\ ∀ (i off size:Nat) (agg:Bool),ti.fields[i]? = some (off,size,agg)->places[i]? = some (off,size))
    (hf:parts.map Prod.fst=vals.toList.map Prod.fst) (hA:ARs σ (parts.map Prod.snd) (vals.toList.map Prod.snd)) :
    ∃ us:List Value,(Instr.build t vals).run P w = .ok (.agg us.toArray) w/\CRs σ cs us:=by
 obtain ⟨fs,hd,places,hpl,hfp⟩:=hs
 obtain ⟨inf,z,hi,_,_,hz,hzc,_⟩:=OK.info
 obtain ⟨cur',h1,h2⟩:=zkf (place:=fun i=>places.toArray[i]?) (fun i off size agg h=>by simpa using hfp i off size agg h) parts vals.toList ti.zero cs z.cells h hf hA (hzc σ)
 refine ⟨cur'.toList,?_,h2⟩
 have:=run_build (P:=P) w t vals cur' (by simp only [Program.built,hi,hd,hz,hpl]; exact h1)
 simpa using this
theorem zlQ {V':Nat->Prop} (H:MuR B.C (B.sit (zaa mu) ρ w) (zaa mu)) (hV:∀ g,(B.V (zaa mu) ρ w) g->V' g) (t:Ty) :
    ∀ (parts:List (Nat×AV)) (vals:List (Nat×Value)) (i:Nat) (xs:List t.den) (cur:Array Value),zb4 (zaa mu) t i parts=some xs->parts.map Prod.fst=vals.map Prod.fst ->
     ARs (B.sit (zaa mu) ρ w) (parts.map Prod.snd) (vals.map Prod.snd)->(i+parts.length)*t.size<=cur.size ->
     (∀ id∈(parts.map Prod.snd).flatMap (zjS (zaa mu)),∀ r g,ρ id=some r->r.g=some g->V' g) ->
     xs.length=parts.length /\ ∃ us cur',Instr.fill (fun i=>some (i*t.size,t.size)) cur vals=some cur' /\ KL (KR V' w t) xs us/\us.length=parts.length*t.size/\cur'.toList=cur.toList.take (i*t.size)++us++cur.toList.drop (i*t.size+us.length)
 | [],vals,i,xs,cur,h,hf,_,_,_=>by
  have:vals=[]:=by cases vals <;> simp at hf ⊢
  subst this
  simp only [zb4] at h
  cases h
  exact ⟨rfl,[],cur,rfl,rfl,by simp,by simp⟩
 | (j,v)::parts,vals,i,xs,cur,h,hf,hA,hsz,hb=>by
  cases vals with
  | nil=>simp at hf
  | cons x vals =>
   obtain ⟨j',u⟩:=x
   simp only [List.map_cons,List.cons.injEq] at hf hA
   obtain ⟨rfl,hf⟩:=hf
   obtain ⟨u',r,he,h1,h2⟩:=hA
   cases he
   cases v with
   | sv s =>
    simp only [zb4] at h
    cases hij:Nat.beq i j with
    | false=>rw [hij] at h; cases h
    | true =>
     rw [hij] at h
     obtain rfl:=Nat.eq_of_beq_eq_true hij
     dsimp only [cond_true] at h
     split at h
     · rename_i cs hcs
       split at h
       · rename_i y hy
         split at h
         · rename_i l hl
           cases h
           simp only [List.map_cons,List.flatMap_cons,List.mem_append] at hb
           have hsc:=zfK H hV s.cells cs _ hcs (zgl s u h1) (fun id hid=>hb id (.inl (by simpa only [zjS] using hid)))
           have hyR:KR V' w t y u.cells.toList:=zdv hy hsc
           have hul:u.cells.size=t.size:=by have:=zcL t _ _ hyR; rwa [Array.length_toList] at this
           simp only [List.length_cons] at hsz
           have hsz':(i+(parts.length+1))*t.size=i*t.size+(parts.length*t.size+t.size):=by rw [Nat.add_mul,Nat.add_mul,Nat.one_mul]
           rw [hsz'] at hsz
           have hfold:=zlP (i*t.size) u.cells cur (by omega)
           have hfs:(u.cells.zipIdx.foldl (fun cs (x:Value×Nat)=>match x with | (c,j)=>cs.setIfInBounds (i*t.size+j) c) cur).size=cur.size:=by
            rw [<- Array.length_toList,hfold]; simp; omega
           obtain ⟨r0,us,cur',r1,r2,r3,r4⟩:=zlQ H hV t parts vals (i+1) l _ hl hf h2 (by rw [hfs,show i+1+parts.length=i+(parts.length+1) by omega,hsz']; exact hsz) (fun id hid=>hb id (.inr hid))
           refine ⟨by simp [r0],u.cells.toList++us,cur',?_,⟨_,_,rfl,hyR,r2⟩,by simp [r3,hul,Nat.add_mul]; omega,?_⟩
           · simp only [Instr.fill]
             rw [if_neg (by simp; omega)]
             exact r1
           · rw [r4,hfold]
             have e1:(i+1)*t.size=i*t.size+u.cells.size:=by rw [Nat.add_mul,Nat.one_mul,hul]
             rw [e1]
             have hl1:(cur.toList.take (i*t.size)).length=i*t.size:=by rw [List.length_take,Array.length_toList]; omega
             have ht:(cur.toList.take (i*t.size)++u.cells.toList++cur.toList.drop (i*t.size+u.cells.size)).take (i*t.size+u.cells.size)=cur.toList.take (i*t.size)++u.cells.toList:=by
              have:(cur.toList.take (i*t.size)++u.cells.toList).length=i*t.size+u.cells.size:=by rw [List.length_append,hl1,Array.length_toList]
              rw [<- this]; exact List.take_left
             have hd:(cur.toList.take (i*t.size)++u.cells.toList++cur.toList.drop (i*t.size+u.cells.size)).drop (i*t.size+u.cells.size+us.length)=cur.toList.drop (i*t.size+(u.cells.toList++us).length):=by
              have hlen:(cur.toList.take (i*t.size)++u.cells.toList).length=i*t.size+u.cells.size:=by rw [List.length_append,hl1,Array.length_toList]
              rw [<- hlen,<- List.drop_drop,List.drop_left,hlen,List.drop_drop]
              congr 1
              simp
              omega
             rw [ht,hd]
             simp only [List.append_assoc]
         · cases h
       · cases h
     · cases h
   | tup l=>simp only [zb4] at h; cases h
   | junk=>simp only [zb4] at h; cases h
theorem zrF (z:Array Value) (n k:Nat) (h:k < n):(madeCells z n).toList[k]? = some (z[k % z.size]!):=by
 simp [madeCells,h]
theorem zoL {V:Nat->Prop} {t:Ty} {z:Array Value} (hz:KR V w t t.dflt z.toList) (n c:Nat) (hnc:n<=c) :
    KL (KR V w t) (List.replicate n t.dflt) ((madeCells z (c*t.size)).toList.take (n*t.size)):=by
 have hzl:=zcL t _ _ hz
 rw [Array.length_toList] at hzl
 have hle:n*t.size<=c*t.size:=Nat.mul_le_mul_right _ hnc
 refine zkL t t.dflt _ _ (by rw [List.length_take,Array.length_toList,size_madeCells,List.length_replicate]; omega) fun i hi=>?_
 rw [List.length_replicate] at hi
 refine ⟨z.toList,by rw [zsT _ _ (by rw [List.length_replicate]; exact hi),List.getElem_replicate]; exact hz,fun j u hu=>?_⟩
 have hj:j < z.size:=by have:=(List.getElem?_eq_some_iff.1 hu).1; rwa [Array.length_toList] at this
 have hm:(i+1)*t.size<=n*t.size:=Nat.mul_le_mul_right _ hi
 rw [Nat.add_mul,Nat.one_mul] at hm
 rw [List.getElem?_take,if_pos (by omega),zrF _ _ _ (by omega)]
 have hmod:(i*z.size+j) % z.size=j:=by rw [Nat.add_comm,Nat.add_mul_mod_self_right,Nat.mod_eq_of_lt hj]
 rw [<- hzl,hmod,<- hu]
 simp [hj]
end
end Go.Proofs.YtdhkgmhdengnkaaGreatDoorPi
namespace Go.Proofs.YtdhkgmhdengnkaaGreatDoorPi
set_option linter.unusedVariables false
set_option linter.unusedSimpArgs false
open Go
def zlR (P:Program) (o:Oper) (a:Act) (w:World) (v:Value) (w':World):Prop :=
 (execOp a.eval o).run P w = .ok (.value v) w' \/ ((execOp a.eval o).run P w = .ok .skip w' /\ v=undef)
def zgY (z:Value) (n:Nat):Array Value:=(Array.range n).map ((if n=0 then #[] else z.cells)[· % (if n=0 then #[] else z.cells).size]!)
theorem zht (z:Value) (n:Nat):(zgY z n).size=n:=by simp [zgY]
theorem zjW {P:Program} {w:World} {t e:TypeId} {inf:TypeInfo} {z:Value} (hd:P.underlying t=some (.slice e)) (hi:P.info? e=some inf) (hz:inf.zero=some z) {len:Nat} (hle:len*inf.size<=16777216)
    {parts:Array (Nat×Value)} {cur:Array Value} (h:Instr.fill (fun i=>some (i*inf.size,inf.size)) (zgY z (len*inf.size)) parts.toList=some cur) :
    (Instr.buildSlice t len parts).run P w = .ok (.slice (some ⟨w.heap.size,0,none⟩) len len) (w.alloc (.cells cur e)):=by
 have hle':¬ (len*inf.size > 2 ^ 24):=by omega
 unfold Instr.buildSlice
 simp only [Sem.run_bind,run_underlying hd,Result.andThen_ok,zcu hi,if_neg hle',Sem.run_pure]
 by_cases h0:len*inf.size=0
 · simp only [h0,if_true,Sem.run_pure,Result.andThen_ok,zgY] at h ⊢
   rw [pure_bind,h]
   rfl
 · simp only [h0,if_false,Sem.run_bind,Sem.run_pure,Result.andThen_ok,zgY,zeroValue,typeInfo,run_program,hi,hz] at h ⊢
   rw [h]
   rfl
theorem zpR {V:Nat->Prop} {w:World}:∀ (xs:List Int) (us:List Value),KL (KR V w (.int .u8)) xs us->us=xs.map fun n=>.int .u8 n
 | [],_,h=>h
 | x::xs,_,⟨a,b,e,ha,hb⟩=>by
  simp only [KR] at ha
  rw [e,ha,zpR xs b hb]
  rfl
theorem zaj {α:Type} {b:Bool} {x:Option α} {r:α} (h:cond b x none=some r):b=true/\x=some r:=by
 cases b with
 | true=>exact ⟨rfl,h⟩
 | false=>cases h
theorem ziF {α:Type} {b:Bool} {x:Option α} {r:α} (h:cond b none x=some r):b=false/\x=some r:=by
 cases b with
 | true=>cases h
 | false=>exact ⟨rfl,h⟩
theorem zbs {P:Program} {s:Sem Value} {w w':World} {v:Value} (h:s.run P w = .ok v w'):(do pure (Next.value (<- s)):Sem Next).run P w = .ok (.value v) w':=by
 rw [Sem.run_bind,h]; rfl
theorem zrG {P:Program} {s:Sem Unit} {w w':World} (h:s.run P w = .ok () w'):(do s; pure Next.skip:Sem Next).run P w = .ok .skip w':=by
 rw [Sem.run_bind,h]; rfl
theorem zpS {σ:Sit} {us:List Value} (h:ARs σ [] us):us=[]:=h
theorem zan {σ:Sit} {v:AV} {vs:List AV} {us:List Value} (h:ARs σ (v::vs) us):∃ u r,us=u::r/\AR σ v u/\ARs σ vs r:=h
theorem zrH {σ:Sit} {c:Bool} {x y:AV} {z:Cel} {u u':Value} (h:zmQ c x y=some z) (hx:AR σ x u) (hy:AR σ y u'):CR σ z (if c then u else u'):=by
 unfold zmQ at h
 split at h
 · rename_i k a k' b
   cases hk:kbeq k k' with
   | false=>rw [hk] at h; cases h
   | true =>
    rw [hk] at h
    cases h
    obtain rfl:=zcR hk
    have hx':u = .int k a:=hx
    have hy':u' = .int k b:=hy
    subst hx' hy'
    cases c <;> simp [CR,br]
 · cases h
   have hx':u = .bool _:=hx
   have hy':u' = .bool _:=hy
   subst hx' hy'
   cases c <;> simp [CR,br]
 · cases h
   have hx':u = .string _:=hx
   have hy':u' = .string _:=hy
   subst hx' hy'
   cases c <;> simp [CR,br]
 · cases h
theorem znY {σ:Sit}:∀ {vs:List AV} {cs:List Cel} {us:List Value},(vs.mapM fun v=>match v with | .sv (.one c)=>some c | _=>none)=some cs->ARs σ vs us->CRs σ cs us
 | [],cs,us,h,hA=>by
  simp at h
  subst h
  rw [zpS hA]
  simp [CRs]
 | v::vs,cs,us,h,hA=>by
  obtain ⟨u,r,rfl,h1,h2⟩:=zan hA
  simp only [List.mapM_cons,Option.bind_eq_bind,Option.pure_def] at h
  split at h
  · rename_i c
    simp only [Option.bind_some] at h
    cases hm:(vs.mapM fun v=>match v with | AV.sv (.one c)=>some c | _=>none) with
    | none=>simp [hm] at h
    | some cs' =>
     simp only [hm,Option.bind_some,Option.some.injEq] at h
     subst h
     simp only [CRs]
     exact ⟨u,r,rfl,h1,znY hm h2⟩
  · simp at h
theorem zpT {σ:Sit}:∀ {vs:List SV} {us:List Value} {i:Nat} {s:SV},SRs σ vs us->vs[i]? = some s->∃ u,us[i]? = some u/\SR σ s u
 | [],_,_,_,_,h=>by simp at h
 | v::vs,_,0,s,hA,h=>by
  obtain ⟨u,r,rfl,h1,_⟩:=hA
  simp at h
  subst h
  exact ⟨u,rfl,h1⟩
 | v::vs,_,i+1,s,hA,h=>by
  obtain ⟨u,r,rfl,_,h2⟩:=hA
  simpa using zpT h2 (by simpa using h)
theorem zd3 {σ:Sit}:∀ {vs:List AV} {us:List Value},ARs σ vs us->us.length=vs.length
 | [],_,h=>by have:=zpS h; subst this; rfl
 | v::vs,_,h=>by obtain ⟨u,r,rfl,_,h2⟩:=zan h; simp [zd3 h2]
section
variable {P:Program} {B:Base} {mu:List (Nat×Cont)} {dead:List Nat} {ρ:Nat->Option RI} {w:World}
theorem OpD.alloc (H:MInv B (zaa mu) dead ρ w) {id:Nat} {e:TypeId} {cs:List Cel} {cur:Array Value} (hc:CRs (B.sit (zaa mu) ρ w) cs cur.toList) :
    OpD B mu dead ρ w ⟨.sv (.one (.ptr id 0)),[(id,.box e cs)],[]⟩ (.pointer (some ⟨w.heap.size,0,none⟩)) (w.alloc (.cells cur e)):=by
 intro mu' hmu
 obtain ⟨h5,h6,rfl⟩:=zaN hmu
 obtain ⟨le,inv⟩:=H.add (i:=⟨some w.heap.size,0,0,0⟩) (c:=.box e cs) (w':=w.alloc (.cells cur e)) h5 h6 ⟨rfl,rfl,rfl,by simp⟩ (fun g hg=>heap_alloc_old w _ g hg)
  (fun g hg=>by cases hg; exact ⟨Nat.le_refl _,by simp⟩) (fun σ' le hρ hw'=>⟨_,_,cur,hρ,rfl,by rw [hw']; exact heap_alloc_new w _,CRs.mono le _ _ hc⟩)
 exact ⟨_,le,inv,⟨_,_,zaZ _ _ _,rfl,rfl⟩⟩
theorem OpD.newRow (H:MInv B (zaa mu) dead ρ w) {id:Nat} {e:TypeId} {te:Ty} {xs:List te.den} {cur:Array Value} {cap:Nat} (hr:zjV B.C e te) (hcap:xs.length<=cap) (hmx:cap<=maxLen) (hsz:cur.size=cap*te.size)
    (hk:KL (KR (B.V (zaa mu) ρ w) w te) xs (cur.toList.take (xs.length*te.size))) :
    OpD B mu dead ρ w ⟨.sv (.one (.full id)),[(id,.row e te xs .own)],[]⟩ (.slice (some ⟨w.heap.size,0,none⟩) xs.length cap) (w.alloc (.cells cur e)):=by
 intro mu' hmu
 obtain ⟨h5,h6,rfl⟩:=zaN hmu
 obtain ⟨le,inv⟩:=H.add (i:=⟨some w.heap.size,cap,xs.length,te.size⟩) (c:=.row e te xs .own) (w':=w.alloc (.cells cur e)) h5 h6 ⟨rfl,rfl,rfl,by simp⟩ (fun g hg=>heap_alloc_old w _ g hg)
  (fun g hg=>by cases hg; exact ⟨Nat.le_refl _,by simp⟩) (fun σ' le hρ hw'=>by
   refine ⟨_,hρ,rfl,rfl,hr,?_⟩
   simp only [RowR]
   exact ⟨cur,by rw [hw']; exact heap_alloc_new w _,hcap,hmx,hsz,KL.imp (KR.mono le.blk te) _ _ hk⟩)
 exact ⟨_,le,inv,⟨_,zaZ _ _ _,rfl⟩⟩
theorem OpD.newPlain (H:MInv B (zaa mu) dead ρ w) {e:TypeId} {te:Ty} {xs:List te.den} {cur:Array Value} (hk:KL (KR (B.V (zaa mu) ρ w) w te) xs cur.toList) :
    OpD B mu dead ρ w ⟨.sv (.one (.sl e te xs)),[],[]⟩ (.slice (some ⟨w.heap.size,0,none⟩) xs.length xs.length) (w.alloc (.cells cur e)):=by
 intro mu' hmu
 have e1:mu'=mu:=zba hmu
 rw [e1]
 clear hmu e1
 have le:(B.sit (zaa mu) ρ w).Le (B.sit (zaa mu) ρ (w.alloc (.cells cur e))) :=
  ⟨fun _ _ h=>h,fun g ⟨v1,v2,v3⟩=>⟨⟨by show g < (w.alloc _).heap.size; have:g < w.heap.size:=v1; simp; omega,v2,v3⟩,heap_alloc_old w _ g v1⟩,
   fun g h=>⟨h,heap_alloc_old w _ g (by have:=(H.rd g h).1; have:=H.ext.size; omega)⟩⟩
 refine ⟨ρ,le,⟨fun id c h=>ContR.mono le (fun i g h1 h2=>heap_alloc_old w _ g (H.lt id i g (by rw [show zaa mu id=some c from h]; simp) h1 h2)) (H.cont id c h),H.dom,H.sep,H.own,?_,H.new,?_,H.rd⟩,?_⟩
 · intro id i g h1 h2 h3
   have:=H.lt id i g h1 h2 h3
   simp; omega
 · exact ⟨H.ext.os,H.ext.tape,H.ext.output,by have:=H.ext.size; simp; omega,fun g h1 h2=>(heap_alloc_old w _ g (by have:=H.ext.size; omega)).trans (H.ext.block g h1 h2)⟩
 · show CR _ _ _
   simp only [CR,KR]
   refine ⟨_,_,rfl,Nat.le_refl _,.inr ⟨_,0,cur.toList,rfl,⟨by simp,.inr H.ext.size,fun id c i h1 _ h2 h3=>?_⟩,KL.imp (KR.mono le.blk te) _ _ hk,?_⟩⟩
   · have:=H.lt id i w.heap.size (by rw [show zaa mu id=some c from h1]; simp) h2 h3
     omega
   · intro j u hu
     rw [cell_of_row _ _ _ cur e (0,0) (heap_alloc_new w _)]
     simpa using hu
theorem zmX {xs:List Int} {A:Option Addr} {n:Nat} {news:List Value} (hn:news=xs.map (Value.int .u8)) (hA:xs.length=0 \/ ∃ g o,A=some ⟨g,o,none⟩/\lies w g o news) :
    (Conv.bytesToString (.slice A xs.length n)).run P w = .ok (.string (bytesOf xs)) w:=by
 rcases hA with h0 | ⟨g,o',rfl,hl⟩
 · have hx0:xs=[]:=List.eq_nil_of_length_eq_zero h0
   subst hx0
   cases A with
   | none=>rfl
   | some ad =>
    have:=run_bytesToString (P:=P) w ad 0 n [] (by simp [loadCells,loadCellsFrom])
    exact this
 · have hlc:(loadCells ⟨g,o',none⟩ xs.length).run P w = .ok (xs.map (Value.int .u8)).toArray w:=by
    have:=run_loadCells_list (P:=P) w ⟨g,o',none⟩ news (fun j v hj=>by rw [zbx]; exact hl j v hj)
    rw [hn] at this
    simpa using this
   rw [run_bytesToString w _ _ n xs hlc,foldl_push_bytes]
   simp [bytesOf,ByteArray.empty,ByteArray.emptyWithCapacity]
   rfl
theorem zkN (OKP:POk P B.C) (H:MuR B.C (B.sit (zaa mu) ρ w) (zaa mu)) {src dst:TypeId} {tis ti:TI} (hs:B.C.T src=some tis) (hd:B.C.T dst=some ti) {x:Cel} {u:Value} (hx:CR (B.sit (zaa mu) ρ w) x u)
    {S:Type} {K:Cel->Option S} {r:S}
    (h:(match (generalizing:=false) ti.ty,x with
     | some (.int k),.int _ n=>K (.int k (wr k n))
     | some .str,.str s=>K (.str s)
     | some .str,c=>bif (match tis.elem with | some e=>isTy (B.C.T e) (.int .u8) | none=>false) then (match zgf (zaa mu) (.int .u8) c with
      | some xs=>K (.str (bytesOf xs))
      | none=>none) else none
     | _,_=>none)=some r):∃ c v,K c=some r/\CR (B.sit (zaa mu) ρ w) c v/\(convert src dst u).run P w = .ok v w:=by
 obtain ⟨ds,hds,_,hels,_⟩:=(OKP.T src tis hs).desc
 obtain ⟨dd,hdd,_,_,_,hint,hstr,_⟩:=(OKP.T dst ti hd).desc
 split at h
 · rename_i k k' n hty
   rw [hint k hty] at hdd
   have hu:u = .int k' n:=by simpa only [CR] using hx
   subst hu
   exact ⟨_,.int k (wr k n),h,by simp only [CR],by simp [convert,run_underlying hds,run_underlying hdd,Conv.intToInt,zrE]⟩
 · rename_i s hty
   rw [hstr hty] at hdd
   have hu:u = .string s:=by simpa only [CR] using hx
   subst hu
   exact ⟨_,.string s,h,by simp only [CR],by cases ds <;> simp [convert,run_underlying hds,run_underlying hdd]⟩
 · rename_i c hty hne
   rw [hstr hty] at hdd
   obtain ⟨hb,h⟩:=zaj h
   split at hb
   · rename_i e he
     obtain ⟨tie,hTe,htye⟩:=zgq hb
     obtain ⟨de,hde,_,_,_,hinte,_⟩:=(OKP.T e tie hTe).desc
     rw [hinte _ htye] at hde
     rw [hels e he] at hds
     split at h
     · rename_i xs hxs
       refine ⟨_,.string (bytesOf xs),h,by simp only [CR],?_⟩
       obtain ⟨A,n,news,rfl,hk,hA⟩:=zhs H hxs hx
       rw [run_convert_bytes_string w src dst e _ _ _ hds hde hdd]
       exact zmX (xs:=xs) (zpR xs news hk) hA
     · cases h
   · cases hb
 · cases h
theorem zkg {t:TypeId} {ti:TI} (OK:TOk P B.C t ti) {i off size:Nat} {agg:Bool} (h:ti.fields[i]? = some (off,size,agg)) :
    ∃ (fs:Array Field) (f:Field) (fi:TypeInfo) (fd:TypeDesc),P.underlying t=some (.struct fs)/\fs[i]? = some f/\f.offset=off/\P.info? f.type=some fi/\fi.size=size/\P.underlying f.type=some fd/\aggD fd=agg:=by
 obtain ⟨d,hd,_,_,hf,_⟩:=OK.desc
 obtain ⟨fs,f,rfl,h1,h2,⟨fi,h3,h4⟩,fd,h5,h6⟩:=hf i off size agg h
 exact ⟨fs,f,fi,fd,hd,h1,h2,h3,h4,h5,h6⟩
set_option maxHeartbeats 1000000 in
theorem zpU (H:MuR B.C (B.sit (zaa mu) ρ w) (zaa mu)) (OKP:POk P B.C) {t ty:TypeId} {x:Cel} {u:Value} (hc:CR (B.sit (zaa mu) ρ w) x u)
    (hty:zcq B.C (zaa mu) (B.C.T t) x=true) {n:Int} (hn:lenOf (zaa mu) x=some n):(Builtin.len_ #[t] ty #[u]).run P w = .ok (.int .i64 n) w:=by
 cases hT:B.C.T t with
 | none=>rw [hT] at hty; simp [zcq] at hty
 | some ti =>
 rw [hT] at hty
 obtain ⟨d,hd,_,hel,_,_,hstr,_⟩:=(OKP.T t ti hT).desc
 unfold zcq at hty
 split at hty
 · rename_i ti' s e1
   cases e1
   obtain ⟨ti'',e2,htyy⟩:=zgq hty
   cases e2
   rw [hstr htyy] at hd
   have hu:u = .string s:=hc
   subst hu
   cases hn
   simp [Builtin.len_,run_underlying hd,goInt,slen,n2i]
 · rename_i e1
   cases e1
   cases he:ti.elem with
   | none=>rw [he] at hty; cases hty
   | some e =>
    rw [hel e he] at hd
    have hu:u = .slice none 0 0:=hc
    subst hu
    cases hn
    simp [Builtin.len_,run_underlying hd,goInt]
 · rename_i ti' c' e1 e2 e3
   cases e1
   obtain ⟨e,tie,k,he,hk,_,_⟩:=zfL hty
   rw [hel e he] at hd
   obtain ⟨A,m,cap,hu,_,hl,_⟩:=zke H hc hk
   subst hu
   rw [hl] at hn
   cases hn
   simp [Builtin.len_,run_underlying hd,goInt]
 · cases hty
theorem zrI (OKP:POk P B.C) (H:MInv B (zaa mu) dead ρ w) {f site:Nat} {o:Oper} {a:Act} {vs:List AV} {δ:zbl} (h:evD B.C f site o vs (zaa mu)=some (.inl δ))
    (hvs:ARs (B.sit (zaa mu) ρ w) vs (o.op.operands.toList.map a.eval)) (hdel:∀ g caps r,vs = .sv (.one (.fn g caps))::r->∀ c0 F,o.op = .call c0->c0.callee = .value F->B.C.del g=none):∃ v w',zlR P o a w v w' /\ OpD B mu dead ρ w δ v w':=by
 unfold evD zdb at h
 split at h
 · -- move
   rename_i x v hop
   rw [hop] at hvs
   obtain ⟨u,r,he,h1,_⟩:=zan hvs
   cases he
   cases h
   exact ⟨_,w,.inl (by simp only [execOp,hop]; rfl),OpD.quiet H h1⟩
 · -- assign
   rename_i x v hop
   rw [hop] at hvs
   obtain ⟨u,r,he,h1,_⟩:=zan hvs
   cases he
   cases h
   exact ⟨_,w,.inl (by simp only [execOp,hop]; rfl),OpD.quiet H h1⟩
 · -- pick
   rename_i c a' b' cb x y hop
   rw [hop] at hvs
   obtain ⟨u,r,he,h1,hr⟩:=zan hvs
   cases he
   obtain ⟨u,r,he,h2,hr⟩:=zan hr
   cases he
   obtain ⟨u,r,he,h3,_⟩:=zan hr
   cases he
   have h1':a.eval c = .bool cb:=h1
   have hrun:zlR P o a w (if cb then a.eval a' else a.eval b') w:=by
    left
    simp only [execOp,hop,h1',asBool,Sem.run_bind,Sem.run_pure,Result.andThen_ok]
   split at h
   · rename_i z hz
     cases h
     exact ⟨_,w,hrun,OpD.quiet H (zrH hz h2 h3)⟩
   · cases cb with
     | true=>cases h; exact ⟨_,w,hrun,OpD.quiet H h2⟩
     | false=>cases h; exact ⟨_,w,hrun,OpD.quiet H h3⟩
 · -- alloc
   rename_i e hop
   split at h
   · rename_i ti hT
     cases h
     obtain ⟨inf,z,hi,_,_,hz,hzc,_⟩:=(OKP.T e ti hT).info
     refine ⟨_,_,.inl ?_,OpD.alloc H (hzc _)⟩
     simp only [execOp,hop]
     refine zbs ?_
     simp [Instr.alloc,zeroValue,typeInfo,hi,hz,newVar,newRow]
   · cases h
 · -- box
   rename_i e x s hop
   rw [hop] at hvs
   obtain ⟨u,r,he,h1,_⟩:=zan hvs
   cases he
   cases h
   refine ⟨_,_,.inl ?_,OpD.alloc H (zgl s _ h1)⟩
   simp only [execOp,hop]
   refine zbs ?_
   simp [Instr.box,newVar,newRow]
 · -- build
   rename_i _ t parts hop
   split at h
   · rename_i ti hT
     cases hfe:ti.fields.isEmpty with
     | true=>rw [hfe] at h; cases h
     | false =>
      rw [hfe] at h
      dsimp only [cond_false] at h
      split at h
      · rename_i cs hcs
        cases h
        rw [hop] at hvs
        have hops:(Op.build t parts).operands.toList.map a.eval=parts.toList.map fun x=>a.eval x.2:=by simp [Op.operands]
        rw [hops] at hvs
        have hl:=zd3 hvs
        rw [List.length_map] at hl
        obtain ⟨us,hr,hc⟩:=zmW (w:=w) (OKP.T t ti hT) (σ:=B.sit (zaa mu) ρ w) (vals:=parts.map fun x=>(x.1,a.eval x.2)) hcs ((OKP.T t ti hT).bld hfe)
         (by rw [List.map_fst_zip (by simp [hl])]; simp) (by rw [List.map_snd_zip (by simp [hl])]; simpa [Function.comp_def] using hvs)
        refine ⟨_,w,.inl ?_,OpD.quiet H ⟨us,rfl,hc⟩⟩
        simp only [execOp,hop]
        exact zbs hr
      · cases h
   · cases h
 · -- buildSlice
   rename_i _ t len parts hop
   split at h
   · rename_i ti hT
     split at h
     · rename_i e e2 te hel hty
       have hee:=(OKP.T t ti hT).elTy _ _ _ hel hty
       subst hee
       split at h
       · rename_i tie hTe
         split at h
         · rename_i xs hxs
           obtain ⟨hck,h⟩:=zaj h
           ·
            simp only [Bool.and_eq_true] at hck
            obtain ⟨⟨⟨c1,c2⟩,c3⟩,c4⟩:=hck
            have c1:=Nat.eq_of_beq_eq_true c1
            have c2:=Nat.eq_of_beq_eq_true c2
            have c3:=zgp c3
            have c4:=zgp c4
            split at h
            · rename_i fz hfz
              rw [hop] at hvs
              have hops:(Op.buildSlice t len parts).operands.toList.map a.eval=parts.toList.map fun x=>a.eval x.2:=by simp [Op.operands]
              rw [hops] at hvs
              have hl:=zd3 hvs
              rw [List.length_map] at hl
              obtain ⟨d,hd,_,hel',_⟩:=(OKP.T t ti hT).desc
              rw [hel' e2 hel] at hd
              have hrt:=(OKP.T t ti hT).slTy _ _ hty
              obtain ⟨inf,z,hinf,hsz,hby,hz,hzs,_⟩:=zia hrt hTe (OKP.T e2 tie hTe)
              have htsz:tie.size=te.size:=by
               obtain ⟨inf',_,hi',hs',_⟩:=(OKP.T e2 tie hTe).info
               rw [hinf] at hi'
               cases hi'
               rw [<- hs',hsz]
              obtain ⟨r1,le1,H2,hV2,_⟩:=H.freeze hfz
              obtain ⟨q1,us,cur',q2,q3,q4,q5⟩:=zlQ (V':=B.V (zaa (zab mu fz)) ρ w) H.cont (fun g hg=>(le1.blk g hg).1) te _ (parts.toList.map fun x=>(x.1,a.eval x.2)) 0 xs
               (zgY z (len*inf.size)) hxs
               (by rw [List.map_fst_zip (by simp [hl])]; simp) (by rw [List.map_snd_zip (by simp [hl])]; simpa [Function.comp_def] using hvs)
               (by rw [zht,List.length_zip,List.length_map,hl,Nat.min_self,c2,hsz]; simp) (by rw [List.map_snd_zip (by simp [hl])]; exact hV2)
              rw [List.length_zip,List.length_map,hl,Nat.min_self,c2] at q1 q4
              have hfin:cur'.toList=us:=by
               rw [q5]
               simp only [Nat.zero_mul,List.take_zero,List.nil_append,Nat.zero_add]
               rw [q4,List.drop_eq_nil_of_le (by rw [Array.length_toList,zht,hsz]; exact Nat.le_refl _),List.append_nil]
              have hrun:(Instr.buildSlice t len (parts.map fun x=>(x.1,a.eval x.2))).run P w = .ok (.slice (some ⟨w.heap.size,0,none⟩) len len) (w.alloc (.cells cur' e2)) :=
               zjW hd hinf hz (by rw [hsz,<- htsz]; exact c3) (by rw [hsz] at q2 ⊢; simpa using q2)
              have hRuns:zlR P o a w (.slice (some ⟨w.heap.size,0,none⟩) len len) (w.alloc (.cells cur' e2)):=by
               left
               simp only [execOp,hop]
               exact zbs hrun
              have hcsz:cur'.size=len*te.size:=by rw [<- Array.length_toList,hfin,q4]
              refine ⟨_,_,hRuns,?_⟩
              cases hown:B.C.own f site with
              | true =>
               rw [hown] at h
               cases h
               refine OpD.frozen (ed:=[]) H hfz (fun _ _ _=>?_) |> fun k=>by simpa using k
               have:=OpD.newRow (id:=site*1000) (cap:=len) (cur:=cur') (e:=e2) H2 hrt (by rw [q1]; exact Nat.le_refl _) c4 hcsz (by rw [q1,hfin,List.take_of_length_le (by rw [q4]; exact Nat.le_refl _)]; exact q3)
               rwa [q1] at this
              | false =>
               rw [hown] at h
               cases h
               refine OpD.frozen (ed:=[]) H hfz (fun _ _ _=>?_) |> fun k=>by simpa using k
               have:=OpD.newPlain (cur:=cur') (e:=e2) H2 (by rw [hfin]; exact q3)
               rwa [q1] at this
            · cases h
         · cases h
       · cases h
     · cases h
   · cases h
 · -- load
   rename_i t p' p hop
   rw [hop] at hvs
   obtain ⟨u,r,he,h1,_⟩:=zan hvs
   cases he
   split at h
   · rename_i ti cs off hT hm
     split at h
     · rename_i s hs
       cases h
       obtain ⟨g,o',us,hu,hc,hl⟩:=ziC H.cont hm h1
       obtain ⟨v,hr,hv⟩:=zfv (P:=P) (OKP.T t ti hT) hs hc hl
       refine ⟨v,w,.inl ?_,OpD.quiet H hv⟩
       simp only [execOp,hop]
       refine zbs ?_
       simp only [Instr.loadAt,hu,Instr.sureAddr,Sem.run_bind,Sem.run_pure,Result.andThen_ok]
       exact hr
     · cases h
   · cases h
 · -- store
   rename_i t p' v' p s hop
   rw [hop] at hvs
   obtain ⟨u,r,he,h1,hr⟩:=zan hvs
   cases he
   obtain ⟨u,r,he,h2,_⟩:=zan hr
   cases he
   split at h
   · rename_i ti hT
     split at h
     · rename_i ed hed
       cases h
       obtain ⟨w',hr,hd⟩:=zmU H (OKP.T t ti hT) hed h1 h2
       refine ⟨undef,w',.inr ⟨?_,rfl⟩,hd⟩
       simp only [execOp,hop]
       exact zrG hr
     · cases h
   · cases h
 · -- nilCheck
   rename_i x p hop
   rw [hop] at hvs
   obtain ⟨u,r,he,h1,_⟩:=zan hvs
   cases he
   have hp:CR (B.sit (zaa mu) ρ w) p (a.eval x):=h1
   split at h <;> try (cases h; done)
   all_goals
    cases h
    refine ⟨_,w,.inl ?_,OpD.quiet H h1⟩
    simp only [CR] at hp
   · obtain ⟨i,g,_,_,e⟩:=hp
     simp only [execOp,hop,e]
     rfl
   · obtain ⟨i,g,_,_,_,_,e⟩:=hp
     simp only [execOp,hop,e]
     rfl
   · obtain ⟨g,o',us,e,_⟩:=hp
     simp only [execOp,hop,e]
     rfl
   · obtain ⟨us,e,_⟩:=hp
     simp only [execOp,hop,e]
     rfl
 · -- binOp
   rename_i op xt X Y yt x y hop
   rw [hop] at hvs
   obtain ⟨u,r,he,h1,hr⟩:=zan hvs
   cases he
   obtain ⟨u,r,he,h2,_⟩:=zan hr
   cases he
   obtain ⟨c,v,hK,hc,hrun⟩:=zkK OKP (w:=w) h _ _ _ h1 h2 X Y
   cases hK
   refine ⟨v,w,.inl ?_,OpD.quiet H hc⟩
   simp only [execOp,hop]
   exact zbs hrun
 · -- unOp
   rename_i op xt X x hop
   rw [hop] at hvs
   obtain ⟨u,r,he,h1,_⟩:=zan hvs
   cases he
   split at h
   · rename_i k n
     cases h
     have h1':a.eval X = .int k n:=h1
     refine ⟨_,w,.inl ?_,OpD.quiet H (show CR _ _ (.int k (wr k (isub 0 n))) by simp only [CR])⟩
     simp only [execOp,hop,h1']
     exact zbs (by simp [Op.unary,Op.intArith,zrE])
   · rename_i b
     cases h
     have h1':a.eval X = .bool b:=h1
     refine ⟨_,w,.inl ?_,OpD.quiet H (show CR _ _ (.bool (bnot b)) by simp only [CR])⟩
     simp only [execOp,hop,h1']
     exact zbs (by simp [Op.unary])
   · cases h
 · -- convert
   rename_i src dst X x hop
   rw [hop] at hvs
   obtain ⟨u,r,he,h1,_⟩:=zan hvs
   cases he
   split at h
   · rename_i tis ti hs hd
     obtain ⟨c,v,hK,hc,hrun⟩:=zkN OKP H.cont hs hd (show CR _ x _ from h1) (K:=fun c=>some (Sum.inl (one c))) h
     cases hK
     refine ⟨v,w,.inl ?_,OpD.quiet H hc⟩
     simp only [execOp,hop]
     exact zbs hrun
   · cases h
 · -- makeFunc
   rename_i _ g first caps hop
   obtain ⟨hf,h⟩:=zaj h
   split at h
   · rename_i cs hcs
     cases h
     have hf':first = #[]:=by simpa using hf
     subst hf'
     rw [hop] at hvs
     have hops:(Op.makeFunc (.func g) #[] caps).operands.toList.map a.eval=(caps.map a.eval).toList:=by simp [Op.operands]
     rw [hops] at hvs
     refine ⟨_,w,.inl (by simp only [execOp,hop,Instr.makeFunc]; rfl),OpD.quiet H ?_⟩
     show CR _ (.fn g cs) _
     simp only [CR]
     exact ⟨(caps.map a.eval).toList,by simp; exact Array.ext' (by simp),znY hcs hvs⟩
   · cases h
 · -- makeSlice
   rename_i t L Cc kl l kc c hop
   rw [hop] at hvs
   obtain ⟨u,r,he,h1,hr⟩:=zan hvs
   cases he
   obtain ⟨u,r,he,h2,_⟩:=zan hr
   cases he
   have h1':a.eval L = .int kl l:=h1
   have h2':a.eval Cc = .int kc c:=h2
   split at h
   · rename_i ti hT
     split at h
     · rename_i e e2 te hel hty
       have hee:=(OKP.T t ti hT).elTy _ _ _ hel hty
       subst hee
       split at h
       · rename_i tie hTe
         obtain ⟨hb,h⟩:=zaj h
         have hb:=zgp hb
         split at h
         · rename_i h0
           split at h
           · rename_i hlc
             split at h
             · rename_i hroom
               cases h
               obtain ⟨d,hd,_,hel',_⟩:=(OKP.T t ti hT).desc
               rw [hel' _ hel] at hd
               have hrt:=(OKP.T t ti hT).slTy _ _ hty
               obtain ⟨inf,z,hinf,hsz,hby,hz,hzs,hzk⟩:=zia hrt hTe (OKP.T _ tie hTe)
               have hroom':c*(tie.bytes:Int)<=140737488355328:=hroom
               have hc1:c*1<=c*(tie.bytes:Int):=Int.mul_le_mul_of_nonneg_left (by omega) (by omega)
               have hr:=run_make (P:=P) w t _ inf z hd hinf hz kl kc l c h0 hlc (by rw [hby,Int.mul_comm]; omega) (by omega)
               have hn:=OpD.newRow (id:=site*1000) (e:=_) (te:=te) (xs:=List.replicate l.toNat te.dflt) (cap:=c.toNat) (cur:=madeCells z.cells (c.toNat*inf.size)) H hrt (by simp; omega) (by simp only [maxLen]; omega)
                (by rw [size_madeCells,hsz]) (by rw [List.length_replicate,hsz]; exact zoL (hzk _ _) l.toNat c.toNat (by omega))
               rw [List.length_replicate] at hn
               refine ⟨_,_,.inl ?_,hn⟩
               simp only [execOp,hop,h1',h2']
               exact zbs hr
             · cases h
           · cases h
         · cases h
       · cases h
     · cases h
   · cases h
 · -- slice
   rename_i t X lo hi mxo c r hop
   rw [hop] at hvs
   obtain ⟨hck,hq⟩:=ziF h
   clear h
   simp only [Bool.or_eq_false_iff,Bool.not_eq_false'] at hck
   have hmx:mxo=none:=by simpa using hck.1
   subst hmx
   obtain ⟨u,r',he,h1,hr⟩:=zan hvs
   have hX:u=a.eval X:=by
    have:(Op.slice t X lo hi none).operands.toList.map a.eval=a.eval X::((lo.toArray++hi.toArray).toList.map a.eval):=by simp [Op.operands]
    rw [this] at he
    cases he
    rfl
   have hr':r'=(lo.toArray++hi.toArray).toList.map a.eval:=by
    have:(Op.slice t X lo hi none).operands.toList.map a.eval=a.eval X::((lo.toArray++hi.toArray).toList.map a.eval):=by simp [Op.operands]
    rw [this] at he
    cases he
    rfl
   subst hX hr'
   have fin:∀ {lo' hi':Option Int},zbF (zaa mu) c lo' hi' (fun c=>some (Sum.inl (one c)):Cel->Option (Res B.C))=some (.inl δ) ->
       ((lo=none/\lo'=none) \/ ∃ x k y,lo=some x/\a.eval x = .int k y/\lo'=some y)->((hi=none/\hi'=none) \/ ∃ x k y,hi=some x/\a.eval x = .int k y/\hi'=some y) ->
       ∃ v w',zlR P o a w v w' /\ OpD B mu dead ρ w δ v w':=by
    intro lo' hi' h hl hh
    unfold zbF at h
    split at h
    · cases h
    · rename_i n hn
      have main:∀ {l hh':Int},optB (lo.map a.eval) lo' 0 l->optB (hi.map a.eval) hi' n hh'->0<=l->l<=hh'->hh' <= n->zcp c lo' hi' l hh' (fun c=>some (Sum.inl (one c)):Cel->Option (Res B.C))=some (.inl δ) ->
          ∃ v w',zlR P o a w v w' /\ OpD B mu dead ρ w δ v w':=by
       intro l hh' b1 b2 b3 b4 b5 hp
       obtain ⟨p,v,hK,hrun,hcr⟩:=zoK (P:=P) H.cont OKP (show CR _ c _ from h1) hck.2 hn b1 b2 b3 b4 b5 hp
       cases hK
       refine ⟨v,w,.inl ?_,OpD.quiet H hcr⟩
       simp only [execOp,hop]
       exact zbs hrun
      have hn0:0<=n:=by
       unfold lenOf at hn
       split at hn <;> (try split at hn) <;> first | (cases hn; done) | (cases hn; simp [slen,dlen,n2i]; done) | (cases hn; omega)
      rcases hl with ⟨rfl,rfl⟩ | ⟨x1,k1,y1,rfl,e1,rfl⟩ <;> rcases hh with ⟨rfl,rfl⟩ | ⟨x2,k2,y2,rfl,e2,rfl⟩
      · exact main (.inl ⟨rfl,rfl,rfl⟩) (.inl ⟨rfl,rfl,rfl⟩) (by omega) (by omega) (by omega) h
      · dsimp only at h
        split at h
        · split at h
          · exact main (.inl ⟨rfl,rfl,rfl⟩) (.inr ⟨k2,by simp [e2],rfl⟩) (by omega) (by omega) (by omega) h
          · cases h
        · cases h
      · dsimp only at h
        split at h
        · split at h
          · exact main (.inr ⟨k1,by simp [e1],rfl⟩) (.inl ⟨rfl,rfl,rfl⟩) (by omega) (by omega) (by omega) h
          · cases h
        · cases h
      · dsimp only at h
        split at h
        · split at h
          · split at h
            · exact main (.inr ⟨k1,by simp [e1],rfl⟩) (.inr ⟨k2,by simp [e2],rfl⟩) (by omega) (by omega) (by omega) h
            · cases h
          · cases h
        · cases h
   split at hq
   · exact fin hq (.inl ⟨rfl,rfl⟩) (.inl ⟨rfl,rfl⟩)
   · rename_i x1 k l
     obtain ⟨u,q,he,g1,_⟩:=zan hr
     simp at he
     exact fin hq (.inr ⟨x1,k,l,rfl,by rw [he.1]; exact g1,rfl⟩) (.inl ⟨rfl,rfl⟩)
   · rename_i x1 k l
     obtain ⟨u,q,he,g1,_⟩:=zan hr
     simp at he
     exact fin hq (.inl ⟨rfl,rfl⟩) (.inr ⟨x1,k,l,rfl,by rw [he.1]; exact g1,rfl⟩)
   · rename_i x1 x2 k l k2 h2
     obtain ⟨u,q,he,g1,hr⟩:=zan hr
     obtain ⟨u2,q2,he2,g2,_⟩:=zan hr
     subst he2
     simp at he
     exact fin hq (.inr ⟨x1,k,l,rfl,by rw [he.1]; exact g1,rfl⟩) (.inr ⟨x2,k2,h2,rfl,by rw [he.2.1]; exact g2,rfl⟩)
   · cases hq
 · -- fieldAddr
   rename_i s X i p hop
   rw [hop] at hvs
   obtain ⟨u,r,he,h1,_⟩:=zan hvs
   cases he
   have hp:CR (B.sit (zaa mu) ρ w) p (a.eval X):=h1
   split at h
   · rename_i ti hT
     split at h
     · rename_i off size agg hfi
       obtain ⟨hsz,h⟩:=ziF h
       obtain ⟨fs,f,fi,fd,hd,hf,hoff,hfinfo,hfs,_⟩:=zkg (OKP.T s ti hT) hfi
       have hrun:∀ g q,a.eval X = .pointer (some ⟨g,q,none⟩)->(Instr.fieldAt s (a.eval X) i).run P w = .ok (.pointer (some ⟨g,q+off,none⟩)) w:=by
        intro g q he
        have hne:¬ (fi.size=0):=by
         intro e0
         rw [<- hfs,e0] at hsz
         simp at hsz
        rw [he]
        simp [Instr.fieldAt,run_underlying hd,hf,Instr.sureAddr,fieldPlace,zcu hfinfo,hne,zbx,hoff]
       split at h
       · cases h
         simp only [CR] at hp
         obtain ⟨j,g,e1,e2,e3⟩:=hp
         refine ⟨_,w,.inl (by simp only [execOp,hop]; exact zbs (hrun g _ e3)),OpD.quiet H (show CR _ (.ptr _ _) _ from ?_)⟩
         simp only [CR]
         exact ⟨j,g,e1,e2,rfl⟩
       · cases h
         simp only [CR] at hp
         obtain ⟨j,g,e1,e2,e3,e4,e5⟩:=hp
         refine ⟨_,w,.inl (by simp only [execOp,hop]; exact zbs (hrun g _ e5)),OpD.quiet H (show CR _ (.iptr _ _ _) _ from ?_)⟩
         simp only [CR]
         exact ⟨j,g,e1,e2,e3,e4,by rw [Nat.add_assoc]⟩
       · cases h
         simp only [CR] at hp
         obtain ⟨g,q,us,e1,e2,e3,e4⟩:=hp
         refine ⟨_,w,.inl (by simp only [execOp,hop]; exact zbs (hrun g _ e1)),OpD.quiet H (show CR _ (.rptr _ _) _ from ?_)⟩
         simp only [CR]
         exact ⟨g,q,us,by rw [Nat.add_assoc],e2,e3,e4⟩
       · cases h
     · cases h
   · cases h
 · -- field
   rename_i s X i cs hop
   rw [hop] at hvs
   obtain ⟨u,r,he,h1,_⟩:=zan hvs
   cases he
   obtain ⟨us,hu,hc⟩ : SR (B.sit (zaa mu) ρ w) (.agg cs) (a.eval X):=h1
   split at h
   · rename_i ti hT
     split at h
     · rename_i off size agg hfi
       obtain ⟨hle,h⟩:=zaj h
       have hle:=zgp hle
       obtain ⟨fs,f,fi,fd,hd,hf,hoff,hfinfo,hfs,hfd,hagg⟩:=zkg (OKP.T s ti hT) hfi
       have hlen:=zbz hc
       have hrun:∀ v,(part f.type us.toArray f.offset).run P w = .ok v w->(Instr.field s (a.eval X) i).run P w = .ok v w:=by
        intro v hv
        rw [hu]
        simp only [Instr.field,Sem.run_bind,run_underlying hd,Result.andThen_ok,hf,asAgg,Sem.run_pure]
        exact hv
       cases agg with
       | true =>
        dsimp only [cond_true] at h
        cases h
        refine ⟨.agg ((us.drop off).take size).toArray,w,.inl ?_,OpD.quiet H ⟨_,rfl,zfd size (zdw off hc)⟩⟩
        simp only [execOp,hop]
        refine zbs (hrun _ ?_)
        simp only [part,Sem.run_bind,zd1 hfd,hagg,Result.andThen_ok,if_true,zcu hfinfo,hfs,hoff,Sem.run_pure]
        congr 2
        apply Array.ext'
        simp [List.extract_eq_take_drop]
       | false =>
        dsimp only [cond_false] at h
        split at h
        · rename_i c r hdrop
          cases h
          have hc':=zdw off hc
          rw [hdrop] at hc'
          simp only [CRs] at hc'
          obtain ⟨u,r',hu',h1,_⟩:=hc'
          refine ⟨u,w,.inl ?_,OpD.quiet H h1⟩
          simp only [execOp,hop]
          refine zbs (hrun _ ?_)
          have hget:us[off]? = some u:=by
           have:(us.drop off)[0]? = some u:=by rw [hu']; rfl
           rw [List.getElem?_drop] at this
           simpa using this
          simp [part,zd1 hfd,hagg,hoff,hget]
        · cases h
     · cases h
   · cases h
 · -- indexAddr
   rename_i t X I c k i hop
   rw [hop] at hvs
   obtain ⟨u,r,he,h1,hr⟩:=zan hvs
   cases he
   obtain ⟨u,r,he,h2,_⟩:=zan hr
   cases he
   have h2':a.eval I = .int k i:=h2
   split at h
   · rename_i ti hT
     obtain ⟨hsz,h⟩:=zaj h
     obtain ⟨p,v,hK,hrun,hcr⟩:=zmV (P:=P) H.cont OKP hT (show CR _ c _ from h1) (k:=k) hsz (K:=fun c=>some (Sum.inl (one c))) h
     cases hK
     refine ⟨v,w,.inl ?_,OpD.quiet H hcr⟩
     simp only [execOp,hop,h2']
     exact zbs hrun
   · cases h
 · -- index
   rename_i t X I s k i hop
   rw [hop] at hvs
   obtain ⟨u,r,he,h1,hr⟩:=zan hvs
   cases he
   obtain ⟨u,r,he,h2,_⟩:=zan hr
   cases he
   have h1':a.eval X = .string s:=h1
   have h2':a.eval I = .int k i:=h2
   obtain ⟨hty,h⟩:=zaj h
   obtain ⟨ti,hT,htyy⟩:=zgq hty
   obtain ⟨d,hd,_,_,_,_,hstr,_⟩:=(OKP.T t ti hT).desc
   rw [hstr htyy] at hd
   split at h
   · rename_i h0
     split at h
     · rename_i hlt
       cases h
       have hlt':i < (s.size:Int):=hlt
       have hsz:i.toNat < s.size:=by omega
       refine ⟨.int .u8 (bat s i),w,.inl ?_,OpD.quiet H (show CR (B.sit (zaa mu) ρ w) (.int .u8 (bat s i)) (.int .u8 (bat s i)) from by simp only [CR])⟩
       simp only [execOp,hop,h1',h2']
       refine zbs ?_
       have hg:s[i.toNat]? = some s[i.toNat]:=by simp [hsz]
       simp only [Instr.index,asIntOf,Sem.run_bind,Sem.run_pure,Result.andThen_ok,run_underlying hd,if_pos h0,hg]
       congr 2
       have hsz':i.toNat < s.data.size:=hsz
       simp only [bat]
       first
        | (simp [hsz']; rfl)
        | (simp; rw [Array.getElem?_eq_getElem hsz']; rfl)
     · cases h
   · cases h
 · -- extract
   rename_i X i vs' hop
   rw [hop] at hvs
   obtain ⟨u,r,he,h1,_⟩:=zan hvs
   cases he
   obtain ⟨us,hu,hs⟩ : AR (B.sit (zaa mu) ρ w) (.tup vs') (a.eval X):=h1
   split at h
   · rename_i s hs'
     cases h
     obtain ⟨u,hget,hsr⟩:=zpT hs hs'
     refine ⟨u,w,.inl ?_,OpD.quiet H hsr⟩
     simp only [execOp,hop,hu]
     exact zbs (by simp [Instr.extract,hget])
   · cases h
 · -- call
   rename_i c hop
   rw [hop] at hvs
   split at h
   · -- len
     rename_i x hcal
     have hops:(Op.call c).operands.toList=c.args.toList:=by simp [Op.operands,Call.operands,hcal]
     rw [hops] at hvs
     obtain ⟨u,r,he,h1,hr⟩:=zan hvs
     have hr0:r=[]:=hr
     subst hr0
     have h1':CR (B.sit (zaa mu) ρ w) x u:=h1
     split at h
     · rename_i t n hts hn
       obtain ⟨hty,h⟩:=zaj h
       cases h
       have hargs:c.args.map a.eval = #[u]:=by
        apply Array.ext'
        simpa using he
       have hats:c.argTypes = #[t]:=by
        apply Array.ext'
        simpa using hts
       have hrun:(Builtin.len_ #[t] o.type #[u]).run P w = .ok (.int .i64 n) w:=zpU H.cont OKP h1' hty hn
       refine ⟨_,w,.inl ?_,OpD.quiet H (show CR (B.sit (zaa mu) ρ w) (.int .i64 n) (.int .i64 n) from by simp only [CR])⟩
       simp only [execOp,hop,Sem.run_bind,resolve,hcal,Sem.run_pure,Result.andThen_ok,invoke,builtin,hargs,hats]
       rw [hrun]
       rfl
     · cases h
   · -- append
     rename_i x y hcal
     have hops:(Op.call c).operands.toList=c.args.toList:=by simp [Op.operands,Call.operands,hcal]
     rw [hops] at hvs
     obtain ⟨u,r,he,h1,hr⟩:=zan hvs
     obtain ⟨u2,r2,he2,h2,hr2⟩:=zan hr
     have hr0:r2=[]:=hr2
     subst hr0
     subst he2
     split at h
     · rename_i t t2 hts
       obtain ⟨htt,hq⟩:=zaj h
       clear h
       have htt':t=t2:=Nat.eq_of_beq_eq_true htt
       clear htt
       subst htt'
       split at hq
       · rename_i ti hT
         split at hq
         · rename_i e te xs m ed hown
           split at hq
           · rename_i ys tie hys hTe
             obtain ⟨hb,hq2⟩:=zaj hq
             clear hq
             have hb:=zgp hb
             split at hq2
             · rename_i hroom
               cases hq2
               have hargs:c.args.map a.eval = #[u,u2]:=by
                apply Array.ext'
                simpa using he
               have hats:c.argTypes = #[t,t]:=by
                apply Array.ext'
                simpa using hts
               obtain ⟨v,w',hrun,hop'⟩:=zlO (P:=P) (ty:=o.type) H (OKP.T t ti hT) hown hys hTe (OKP.T e tie hTe) hb ((Nat.le_div_iff_mul_le (by omega)).1 hroom) (show CR _ x u from h1) (show CR _ y u2 from h2) (site*1000)
               refine ⟨v,w',.inl ?_,hop'⟩
               simp only [execOp,hop,Sem.run_bind,resolve,hcal,Sem.run_pure,Result.andThen_ok,invoke,builtin,hargs,hats]
               rw [hrun]
               rfl
             · cases hq2
           · cases hq
         · cases hq
       · cases hq
     · cases h
   · -- max
     rename_i k x k2 y hcal
     cases h
     have hops:(Op.call c).operands.toList=c.args.toList:=by simp [Op.operands,Call.operands,hcal]
     rw [hops] at hvs
     obtain ⟨u,r,he,h1,hr⟩:=zan hvs
     obtain ⟨u2,r2,he2,h2,hr2⟩:=zan hr
     have hr0:r2=[]:=hr2
     subst hr0
     subst he2
     have h1':u = .int k x:=h1
     have h2':u2 = .int k2 y:=h2
     subst h1' h2'
     have hargs:c.args.map a.eval = #[.int k x,.int k2 y]:=by
      apply Array.ext'
      simpa using he
     refine ⟨_,w,.inl ?_,OpD.quiet H (show CR (B.sit (zaa mu) ρ w) (.int k (mx x y)) (.int k (mx x y)) from by simp only [CR])⟩
     simp only [execOp,hop,Sem.run_bind,resolve,hcal,Sem.run_pure,Result.andThen_ok,invoke,builtin,hargs]
     rw [run_max_int2]
     rfl
   · -- min
     rename_i k x k2 y hcal
     cases h
     have hops:(Op.call c).operands.toList=c.args.toList:=by simp [Op.operands,Call.operands,hcal]
     rw [hops] at hvs
     obtain ⟨u,r,he,h1,hr⟩:=zan hvs
     obtain ⟨u2,r2,he2,h2,hr2⟩:=zan hr
     have hr0:r2=[]:=hr2
     subst hr0
     subst he2
     have h1':u = .int k x:=h1
     have h2':u2 = .int k2 y:=h2
     subst h1' h2'
     have hargs:c.args.map a.eval = #[.int k x,.int k2 y]:=by
      apply Array.ext'
      simpa using he
     refine ⟨_,w,.inl ?_,OpD.quiet H (show CR (B.sit (zaa mu) ρ w) (.int k (mn x y)) (.int k (mn x y)) from by simp only [CR])⟩
     simp only [execOp,hop,Sem.run_bind,resolve,hcal,Sem.run_pure,Result.andThen_ok,invoke,builtin,hargs]
     rw [run_min_int2]
     rfl
   · -- a call
     rename_i F g caps vs' hcal
     rw [hdel _ _ _ rfl _ _ hop hcal] at h
     dsimp only at h
     split at h
     · split at h
       · obtain ⟨_,hq⟩:=zaj h
         clear h
         split at hq <;> cases hq
       · cases h
     · cases h
   · cases h
 · cases h
end
end Go.Proofs.YtdhkgmhdengnkaaGreatDoorPi
namespace Go.Proofs.YtdhkgmhdengnkaaGreatDoorPi
set_option linter.unusedVariables false
set_option linter.unusedSimpArgs false
open Go
structure RenOk (σ σ':Sit) (m:List (Nat×Nat)):Prop where
 w:σ'.w=σ.w
 V:∀ g,σ.V g->σ'.V g
 R:∀ g,σ.R g->σ'.V g \/ σ'.R g
 id:∀ a b i,zaa m a=some b->σ.ρ a=some i->σ'.ρ b=some i
section
variable {σ σ':Sit} {m:List (Nat×Nat)}
theorem RenOk.blk (h:RenOk σ σ' m):∀ g,σ.V g->σ'.V g/\σ'.w.heap[g]? = σ.w.heap[g]?:=fun g k=>⟨h.V g k,by rw [h.w]⟩
theorem RenOk.vr (h:RenOk σ σ' m) {g:Nat} (k:σ.V g \/ σ.R g):σ'.V g \/ σ'.R g:=by
 rcases k with k | k
 · exact .inl (h.V g k)
 · exact h.R g k
mutual
theorem zc1 (h:RenOk σ σ' m):∀ (c:Cel) (v:Value),zdV c=true->CR σ c v->CR σ' c v
 | .int _ _,_,_,k=>by simpa [CR] using k
 | .bool _,_,_,k=>by simpa [CR] using k
 | .str _,_,_,k=>by simpa [CR] using k
 | .nilsl,_,_,k=>by simpa [CR] using k
 | .sl e t xs,v,_,k=>by
  simp only [CR] at k ⊢
  exact KR.mono h.blk _ _ _ k
 | .full id,_,e,_=>by simp [zdV] at e
 | .pre id n,_,e,_=>by simp [zdV] at e
 | .sub id o n,_,e,_=>by simp [zdV] at e
 | .ptr id o,_,e,_=>by simp [zdV] at e
 | .iptr id j o,_,e,_=>by simp [zdV] at e
 | .rptr cs off,_,e,k=>by
  simp only [zdV] at e
  simp only [CR] at k ⊢
  obtain ⟨g,o,us,e1,hV,hc,hl⟩:=k
  exact ⟨g,o,us,e1,h.vr hV,ziG h cs us e hc,hl.mono (by rw [h.w])⟩
 | .nilp,_,_,k=>by simpa [CR] using k
 | .fn f caps,_,e,k=>by
  simp only [zdV] at e
  simp only [CR] at k ⊢
  obtain ⟨us,e1,hc⟩:=k
  exact ⟨us,e1,ziG h caps us e hc⟩
 | .frow _ _ _,_,_,k=>by simp only [CR] at k
 | .junk,_,_,k=>by simpa [CR] using k
theorem ziG (h:RenOk σ σ' m):∀ (cs:List Cel) (us:List Value),zdE cs=true->CRs σ cs us->CRs σ' cs us
 | [],_,_,k=>by simpa [CRs] using k
 | c::cs,us,e,k=>by
  simp only [zdE,Bool.and_eq_true] at e
  simp only [CRs] at k ⊢
  obtain ⟨u,r,e1,hc,hr⟩:=k
  exact ⟨u,r,e1,zc1 h c u e.1 hc,ziG h cs r e.2 hr⟩
end
theorem zsV {c:Cel} {v:Value} (h:CR σ c v):CR σ' .junk v:=by
 simp only [CR]
 exact znV c v h
theorem zpV (h:RenOk σ σ' m) (c:Cel) (v:Value) (k:CR σ c v):CR σ' (zjT m c) v:=by
 have kj:CR σ' .junk v:=zsV k
 cases c
 case full id =>
  simp only [zjT]
  split
  · rename_i b hb
    simp only [CR] at k ⊢
    obtain ⟨i,hi,r⟩:=k
    exact ⟨i,h.id _ _ _ hb hi,r⟩
  · exact kj
 case pre id n =>
  simp only [zjT]
  split
  · rename_i b hb
    simp only [CR] at k ⊢
    obtain ⟨i,hi,r⟩:=k
    exact ⟨i,h.id _ _ _ hb hi,r⟩
  · exact kj
 case sub id o n =>
  simp only [zjT]
  split
  · rename_i b hb
    simp only [CR] at k ⊢
    obtain ⟨i,hi,r⟩:=k
    exact ⟨i,h.id _ _ _ hb hi,r⟩
  · exact kj
 case ptr id o =>
  simp only [zjT]
  split
  · rename_i b hb
    simp only [CR] at k ⊢
    obtain ⟨i,g,hi,r⟩:=k
    exact ⟨i,g,h.id _ _ _ hb hi,r⟩
  · exact kj
 case iptr id j o =>
  simp only [zjT]
  split
  · rename_i b hb
    simp only [CR] at k ⊢
    obtain ⟨i,g,hi,r⟩:=k
    exact ⟨i,g,h.id _ _ _ hb hi,r⟩
  · exact kj
 case fn f caps =>
  simp only [zjT]
  cases hp:zdE caps with
  | true=>exact zc1 h _ _ (by simpa [zdV] using hp) k
  | false=>exact kj
 case rptr cs off =>
  simp only [zjT]
  cases hp:zdE cs with
  | true=>exact zc1 h _ _ (by simpa [zdV] using hp) k
  | false=>exact kj
 all_goals exact zc1 h _ _ rfl k
theorem ziH {f:Cel->Cel} (h:∀ c v,CR σ c v->CR σ' (f c) v):∀ (cs:List Cel) (us:List Value),CRs σ cs us->CRs σ' (cs.map f) us
 | [],us,k=>by simpa [CRs] using k
 | c::cs,us,k=>by
  simp only [CRs,List.map_cons] at k ⊢
  obtain ⟨u,r,e,hc,hr⟩:=k
  exact ⟨u,r,e,h c u hc,ziH h cs r hr⟩
theorem zlS (h:RenOk σ σ' m) (c:Cel) (v:Value) (k:CR σ c v):CR σ' (renC m c) v:=by
 unfold renC
 split
 · rename_i f caps
   simp only [CR] at k ⊢
   obtain ⟨us,e,hc⟩:=k
   exact ⟨us,e,ziH (zpV h) _ _ hc⟩
 · exact zpV h c v k
theorem ztX (h:RenOk σ σ' m) (a:AV) (v:Value) (k:AR σ a v):AR σ' (zrC m a) v:=by
 unfold zrC
 split
 · exact zlS h _ v k
 · obtain ⟨us,e,hc⟩:=k
   exact ⟨us,e,ziH (zlS h) _ _ hc⟩
 · obtain ⟨us,e,hs⟩:=k
   refine ⟨us,e,?_⟩
   clear e
   rename_i vs
   induction vs generalizing us with
   | nil=>exact hs
   | cons s vs ih =>
    obtain ⟨u,r,e,h1,h2⟩:=hs
    refine ⟨u,r,e,?_,ih r h2⟩
    cases s with
    | one c=>exact zlS h _ u h1
    | agg cs =>
     obtain ⟨us,e,hc⟩:=h1
     exact ⟨us,e,ziH (zlS h) _ _ hc⟩
 · trivial
end
theorem MInv.ren {B B':Base} {mu mu':Look} {dead dead':List Nat} {ρ ρ':Nat->Option RI} {w:World} (H:MInv B mu dead ρ w) (q:Nat->Nat->Prop)
    (inj:∀ a b c,q a c->q b c->a=b)
    (hq:∀ b i,ρ' b=some i->mu' b ≠ none \/ b∈dead')
    (hs:∀ b c',mu' b=some c'->(∃ i,ρ' b=some i/\i.g=none/\ContR B'.C (B'.sit mu' ρ' w) b c') \/
     ∃ a c,q b a/\mu a=some c/\(mutC c'->mutC c)/\(∀ e t xs m,c' = .row e t xs m->(m = .own \/ m = .frozen)->∃ e t xs m,c = .row e t xs m/\(m = .own \/ m = .frozen)) /\
     (∀ i,ρ' b=some i->ρ a=some i)/\((∀ g,(B.sit mu ρ w).V g->(B'.sit mu' ρ' w).V g)->ContR B.C (B.sit mu ρ w) a c->ContR B'.C (B'.sit mu' ρ' w) b c'))
    (hV:∀ g,B.V mu ρ w g->B'.V0 g \/ B'.w0.heap.size<=g)
    (hown:∀ b a i g,mu' b ≠ none->q b a->mu a ≠ none->ρ a=some i->i.g=some g->B'.X g \/ B'.w0.heap.size<=g)
    (hnew:∀ b a e t xs m i g,mu' b=some (.row e t xs m)->(m = .own \/ m = .frozen)->q b a->ρ a=some i->i.g=some g->B'.w0.heap.size<=g)
    (hext:Ext B'.X B'.w0 w) (hrd:∀ g,B'.R0 g->g < B'.w0.heap.size/\¬ B'.X g) :
    (∀ g,(B.sit mu ρ w).V g->(B'.sit mu' ρ' w).V g)/\MInv B' mu' dead' ρ' w:=by
 have hs':∀ b i g,mu' b ≠ none->ρ' b=some i->i.g=some g->∃ a,q b a/\mu a ≠ none/\ρ a=some i:=by
  intro b i g hb hi hg
  cases e:mu' b with
  | none=>exact absurd e hb
  | some c' =>
   rcases hs b c' e with ⟨i',h1,h2,_⟩ | ⟨a,c,h1,h2,_,_,h3,_⟩
   · rw [hi] at h1
     cases h1
     rw [h2] at hg; cases hg
   · exact ⟨a,h1,by rw [h2]; simp,h3 i hi⟩
 have le:∀ g,(B.sit mu ρ w).V g->(B'.sit mu' ρ' w).V g:=by
  rintro g ⟨v1,v2,v3⟩
  refine ⟨v1,hV g ⟨v1,v2,v3⟩,fun b c' i hb hm hi hg=>?_⟩
  rcases hs b c' hb with ⟨i',h1,h2,_⟩ | ⟨a,c,h1,h2,h3,_,h4,_⟩
  · rw [hi] at h1
    cases h1
    rw [h2] at hg; cases hg
  · exact v3 a c i h2 (h3 hm) (h4 i hi) hg
 refine ⟨le,⟨?_,hq,?_,?_,?_,?_,hext,hrd⟩⟩
 · intro b c' hb
   rcases hs b c' hb with ⟨i',_,_,h3⟩ | ⟨a,c,h1,h2,_,_,_,h5⟩
   · exact h3
   · exact h5 le (H.cont a c h2)
 · intro b b' i i' g hb hb' hi hi' hg hg'
   obtain ⟨a,h1,h2,h3⟩:=hs' b i g hb hi hg
   obtain ⟨a',h1',h2',h3'⟩:=hs' b' i' g hb' hi' hg'
   have:=H.sep a a' i i' g h2 h2' h3 h3' hg hg'
   subst this
   exact inj b b' a h1 h1'
 · intro b i g hb hi hg
   obtain ⟨a,h1,h2,h3⟩:=hs' b i g hb hi hg
   exact hown b a i g hb h1 h2 h3 hg
 · intro b i g hb hi hg
   obtain ⟨a,h1,h2,h3⟩:=hs' b i g hb hi hg
   exact H.lt a i g h2 h3 hg
 · intro b e t xs m i g hb hm hi hg
   obtain ⟨a,h1,h2,h3⟩:=hs' b i g (by rw [hb]; simp) hi hg
   exact hnew b a e t xs m i g hb hm h1 h3 hg
theorem zkO {V V':Nat->Prop} {w w':World}:∀ (t:Ty) (x:t.den) (vs:List Value),t.hasSl=false->KR V w t x vs->KR V' w' t x vs
 | .int _,_,_,_,k=>k
 | .bool,_,_,_,k=>k
 | .str,_,_,_,k=>k
 | .unit,_,_,_,k=>k
 | .pair a b,x,_,h,⟨p,q,e,hp,hq⟩=>by
  simp only [Ty.hasSl,Bool.or_eq_false_iff] at h
  exact ⟨p,q,e,zkO a x.1 p h.1 hp,zkO b x.2 q h.2 hq⟩
 | .sl _ t,_,_,h,_=>by simp [Ty.hasSl] at h
theorem MInv.back {B B':Base} {mu1 mu2 muF:Look} {dead1 dead2 deadF:List Nat} {ρ ρ2 ρF:Nat->Option RI} {w w':World} (H:MInv B mu1 dead1 ρ w) (HF:MInv B' muF deadF ρF w')
    (hw:B'.w0=w) (hand:Nat->Prop)
    (hX:∀ g,B'.X g->∃ id i c,hand id/\mu1 id=some c/\mutC c/\ρ id=some i/\i.g=some g)
    (hρ:∀ id i,ρ id=some i->ρ2 id=some i)
    (dom:∀ id i,ρ2 id=some i->mu2 id ≠ none \/ id∈dead2)
    (q:Nat->Nat->Prop) (inj:∀ a b c,q a c->q b c->a=b)
    (cls:∀ id c,mu2 id=some c->(¬ hand id/\mu1 id=some c/\ρ2 id=ρ id) \/
     ∃ k cF,q id k/\muF k=some cF/\ρ2 id=ρF k/\(mutC c->mutC cF)/\(∀ e t xs m,c = .row e t xs m->(m = .own \/ m = .frozen)->(∃ e t xs m,cF = .row e t xs m/\(m = .own \/ m = .frozen)) \/ ((∃ e t xs m,mu1 id=some (.row e t xs m)/\(m = .own \/ m = .frozen))/\ρ2 id=ρ id)) /\
      ((B.sit mu1 ρ w).Le (B.sit mu2 ρ2 w')->((∀ g,B'.V0 g->B.V mu1 ρ w g)->∀ g,B'.V muF ρF w' g->B.V mu2 ρ2 w' g)->(∀ g,w.heap.size<=g->B'.V muF ρF w' g->B.V mu2 ρ2 w' g)->ContR B.C (B.sit mu2 ρ2 w') id c)) :
    (B.sit mu1 ρ w).Le (B.sit mu2 ρ2 w')/\((∀ g,B'.V0 g->B.V mu1 ρ w g)->∀ g,B'.V muF ρF w' g->B.V mu2 ρ2 w' g)/\(∀ g,w.heap.size<=g->B'.V muF ρF w' g->B.V mu2 ρ2 w' g)/\MInv B mu2 dead2 ρ2 w':=by
 have hsz:w.heap.size<=w'.heap.size:=by rw [<- hw]; exact HF.ext.size
 have hsz0:=H.ext.size
 have hblk:∀ g,g < w.heap.size->¬ B'.X g->w'.heap[g]? = w.heap[g]?:=by
  intro g h1 h2
  have:=HF.ext.block g (by rw [hw]; exact h1) h2
  rw [hw] at this
  exact this
 have hnX:∀ g,B.V mu1 ρ w g->¬ B'.X g:=by
  rintro g ⟨_,_,v3⟩ hx
  obtain ⟨id,i,c,_,h2,h3,h4,h5⟩:=hX g hx
  exact v3 id c i h2 h3 h4 h5
 have hXown:∀ g,B'.X g->B.X g \/ B.w0.heap.size<=g:=by
  intro g hx
  obtain ⟨id,i,c,_,h2,_,h4,h5⟩:=hX g hx
  exact H.own id i g (by rw [h2]; simp) h4 h5
 have hown:∀ k i g,muF k ≠ none->ρF k=some i->i.g=some g->B'.X g \/ w.heap.size<=g:=by
  intro k i g h1 h2 h3
  have:=HF.own k i g h1 h2 h3
  rwa [hw] at this
 have le:(B.sit mu1 ρ w).Le (B.sit mu2 ρ2 w'):=by
  refine ⟨fun id r e=>hρ id r e,fun g hg=>?_,fun g hg=>?_⟩
  · have hv:=hg
    obtain ⟨v1,v2,v3⟩:=hg
    refine ⟨⟨by have:g < w.heap.size:=v1; show g < w'.heap.size; omega,v2,fun id c i hc hm hi he=>?_⟩,hblk g v1 (hnX g hv)⟩
    rcases cls id c hc with ⟨_,h2,h3⟩ | ⟨k,cF,_,h2,h3,_,_,_⟩
    · exact v3 id c i h2 hm (by rw [<- h3]; exact hi) he
    · rcases hown k i g (by rw [h2]; simp) (by rw [<- h3]; exact hi) he with h | h
      · exact hnX g hv h
      · have:g < w.heap.size:=v1
        omega
  · have hr:=H.rd g hg
    refine ⟨hg,hblk g (by have:=hr.1; omega) fun hx=>?_⟩
    rcases hXown g hx with h | h
    · exact hr.2 h
    · have:=hr.1
      omega
 have vn:∀ g,w.heap.size<=g->B'.V muF ρF w' g->B.V mu2 ρ2 w' g:=by
  rintro g v2 ⟨v1,_,v3⟩
  refine ⟨v1,.inr (by omega),fun id c i hc hm hi he=>?_⟩
  rcases cls id c hc with ⟨_,h2,h3⟩ | ⟨k,cF,_,h2,h3,h4,_,_⟩
  · have:=H.lt id i g (by rw [h2]; simp) (by rw [<- h3]; exact hi) he
    omega
  · exact v3 k cF i h2 (h4 hm) (by rw [<- h3]; exact hi) he
 have vv:(∀ g,B'.V0 g->B.V mu1 ρ w g)->∀ g,B'.V muF ρF w' g->B.V mu2 ρ2 w' g:=by
  intro h0 g hv
  rcases hv.2.1 with v2 | v2
  · exact (le.blk g (h0 g v2)).1
  · rw [hw] at v2
    exact vn g v2 hv
 have keep:∀ id i g,¬ hand id->mu1 id ≠ none->ρ id=some i->i.g=some g->¬ B'.X g:=by
  intro id i g h1 h2 h3 h4 hx
  obtain ⟨id',i',c',h1',h2',_,h4',h5'⟩:=hX g hx
  have:=H.sep id id' i i' g h2 (by rw [h2']; simp) h3 h4' h4 h5'
  subst this
  exact h1 h1'
 refine ⟨le,vv,vn,⟨?_,dom,?_,?_,?_,?_,?_,H.rd⟩⟩
 · intro id c hc
   rcases cls id c hc with ⟨h1,h2,h3⟩ | ⟨k,cF,_,h2,_,_,_,h6⟩
   · refine ContR.mono le (fun i g e1 e2=>?_) (H.cont id c h2)
     exact hblk g (H.lt id i g (by rw [h2]; simp) e1 e2) (keep id i g h1 (by rw [h2]; simp) e1 e2)
   · exact h6 le vv vn
 · intro id id' i i' g hn hn' hi hi' hg hg'
   cases e:mu2 id with
   | none=>exact absurd e hn
   | some c =>
   cases e':mu2 id' with
   | none=>exact absurd e' hn'
   | some c' =>
   rcases cls id c e with ⟨h1,h2,h3⟩ | ⟨k,cF,hk,h2,h3,_,_,_⟩ <;> rcases cls id' c' e' with ⟨h1',h2',h3'⟩ | ⟨k',cF',hk',h2',h3',_,_,_⟩
   · exact H.sep id id' i i' g (by rw [h2]; simp) (by rw [h2']; simp) (by rw [<- h3]; exact hi) (by rw [<- h3']; exact hi') hg hg'
   · have hlt:=H.lt id i g (by rw [h2]; simp) (by rw [<- h3]; exact hi) hg
     rcases hown k' i' g (by rw [h2']; simp) (by rw [<- h3']; exact hi') hg' with h | h
     · exact absurd h (keep id i g h1 (by rw [h2]; simp) (by rw [<- h3]; exact hi) hg)
     · omega
   · have hlt:=H.lt id' i' g (by rw [h2']; simp) (by rw [<- h3']; exact hi') hg'
     rcases hown k i g (by rw [h2]; simp) (by rw [<- h3]; exact hi) hg with h | h
     · exact absurd h (keep id' i' g h1' (by rw [h2']; simp) (by rw [<- h3']; exact hi') hg')
     · omega
   · have:=HF.sep k k' i i' g (by rw [h2]; simp) (by rw [h2']; simp) (by rw [<- h3]; exact hi) (by rw [<- h3']; exact hi') hg hg'
     subst this
     exact inj id id' k hk hk'
 · intro id i g hn hi hg
   cases e:mu2 id with
   | none=>exact absurd e hn
   | some c =>
   rcases cls id c e with ⟨h1,h2,h3⟩ | ⟨k,cF,hk,h2,h3,_,_,_⟩
   · exact H.own id i g (by rw [h2]; simp) (by rw [<- h3]; exact hi) hg
   · rcases hown k i g (by rw [h2]; simp) (by rw [<- h3]; exact hi) hg with h | h
     · exact hXown g h
     · right; omega
 · intro id i g hn hi hg
   cases e:mu2 id with
   | none=>exact absurd e hn
   | some c =>
   rcases cls id c e with ⟨h1,h2,h3⟩ | ⟨k,cF,hk,h2,h3,_,_,_⟩
   · have:=H.lt id i g (by rw [h2]; simp) (by rw [<- h3]; exact hi) hg
     omega
   · exact HF.lt k i g (by rw [h2]; simp) (by rw [<- h3]; exact hi) hg
 · intro id e t xs m i g hc hm hi hg
   rcases cls id _ hc with ⟨h1,h2,h3⟩ | ⟨k,cF,hk,h2,h3,_,h5,_⟩
   · exact H.new id e t xs m i g h2 hm (by rw [<- h3]; exact hi) hg
   · rcases h5 e t xs m rfl hm with ⟨e',t',xs',m',h6,h7⟩ | ⟨⟨e',t',xs',m',h6,h7⟩,h8⟩
     · subst h6
       have:=HF.new k e' t' xs' m' i g h2 h7 (by rw [<- h3]; exact hi) hg
       rw [hw] at this
       omega
     · exact H.new id e' t' xs' m' i g h6 h7 (by rw [<- h8]; exact hi) hg
 · have hx:=HF.ext
   rw [hw] at hx
   refine ⟨hx.os.trans H.ext.os,hx.tape.trans H.ext.tape,hx.output.trans H.ext.output,by omega,fun g h1 h2=>?_⟩
   rw [hblk g (by omega) fun h=>?_]
   · exact H.ext.block g h1 h2
   · rcases hXown g h with h | h
     · exact h2 h
     · omega
end Go.Proofs.YtdhkgmhdengnkaaGreatDoorPi
