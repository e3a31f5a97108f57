/- An interpreter of the program's text over plain data, and the first half of why it is right: what it says an operation gives is what the machine gives. No condition. -/
import Derived.Calls
import Derived.Below
import Derived.Orders
import Derived.Laws.AppendOwn
import Derived.Laws.OwnMore
import Derived.Lib.SliceRun
import Derived.Laws.Rows
import Derived.Laws.Cells
import Derived.Deep.Slices
import Derived.Laws.CopyRow
import Derived.Laws.Tables
import Derived.Laws.StructEq
import Derived.Laws.Slices
import Derived.Laws.BytesArg
import Derived.Laws.MakeOwn
set_option linter.unusedSimpArgs false
set_option linter.unusedVariables false
theorem aZ.{u_1} : ∀ {α : Type u_1} {xs : Array α} {i : Nat} {d : α}, Array.getD xs i d = Option.getD xs[i]? d := @Array.getD_eq_getD_getElem?
theorem bZ.{u_1} : ∀ {α : Type u_1} {i : Nat} {b : α} {xs : Array α}, xs[i]? = some b ↔ ∃ (h : i < Array.size xs), xs[i] = b := @Array.getElem?_eq_some_iff
theorem cZ.{u_1} : ∀ {α : Type u_1} {i : Nat} {l : List α} (h : i < List.length l), List.drop i l = l[i] :: List.drop (i + 1) l := @List.drop_eq_getElem_cons
theorem dZ.{u_1} : ∀ {α : Type u_1} {l : List α} {i : Nat} (h : i < List.length l), l[i]? = some l[i] := @List.getElem?_eq_getElem
theorem eZ.{u_1} : ∀ {α : Type u_1} {b : α} (as : List α) {bs : List α}, b ∈ bs → b ∈ as ++ bs := @List.mem_append_right
theorem fZ.{u_1} : ∀ {α : Type u_1} (y : α) {a : α} {l : List α}, a ∈ l → a ∈ y :: l := @List.mem_cons_of_mem
theorem gZ.{u_1} : ∀ {α : Type u_1} {a : α} {as : List α} (bs : List α), a ∈ as → a ∈ as ++ bs := @List.mem_append_left
theorem iZ.{u_1} : ∀ {α : Type u_1} {l : List α} {i : Nat} {a : α}, l[i]? = some a → a ∈ l := @List.mem_of_getElem?
theorem jZ : ∀ {n m k : Nat}, n < m → m ≤ k → n < k := @Nat.lt_of_lt_of_le
theorem kZ.{u_1} : ∀ {α : Type u_1} {a b : α}, a ∈ [b] ↔ a = b := @List.mem_singleton
theorem lZ.{u_1} : ∀ {α : Type u_1} {l : List α} {i j : Nat}, (List.take i l)[j]? = if j < i then l[j]? else none := @List.getElem?_take
theorem mZ.{u_1} : ∀ {α : Type u_1} {xs : List α} {i j : Nat}, (List.drop i xs)[j]? = xs[i + j]? := @List.getElem?_drop
theorem nZ.{u_1} : ∀ {α : Type u_1} (val val_1 : α), (some val = some val_1) = (val = val_1) := @Option.some.injEq
theorem oZ : ∀ {α β : Type} (a : α) (w : Go.World) (f : α → Go.World → Go.Result β), Go.Result.andThen (Go.Result.ok a w) f = f a w := @Go.Result.andThen_ok
theorem pZ : ∀ {p : Prop} [inst : Decidable p], (decide p = true) = p := @decide_eq_true_eq
theorem qZ.{u_1} : ∀ {α : Type u_1} {l₁ l₂ : List α}, List.Nodup (l₁ ++ l₂) ↔ List.Nodup l₁ ∧ List.Nodup l₂ ∧ ∀ (a : α), a ∈ l₁ → ∀ (b : α), b ∈ l₂ → a ≠ b := @List.nodup_append
theorem rZ.{u_1, u_2} : ∀ {α : Type u_1} {β : Type u_2} (a : α) (f : α → Option β), Option.bind (some a) f = f a := @Option.bind_some
theorem sZ : ∀ (a b : Bool), ((a && b) = true) = (a = true ∧ b = true) := @Bool.and_eq_true
theorem tZ.{u_1} : ∀ {α : Type u_1} {l : List α} {n : Nat} (h : n < List.length l), l[n] ∈ l := @List.getElem_mem
theorem uZ.{u_1} : ∀ {α : Type u_1} {p : α → Bool} {l : List α}, List.all l p = true ↔ ∀ (x : α), x ∈ l → p x = true := @List.all_eq_true
theorem vZ : ∀ {p : Prop} [inst : Decidable p], ¬p → decide p = false := @decide_eq_false
theorem wZ.{u_1} : ∀ {α : Type u_1} {a : α} {s t : List α}, a ∈ s ++ t ↔ a ∈ s ∨ a ∈ t := @List.mem_append
theorem xZ.{u_1} : ∀ {α : Type u_1} {val val_1 : α}, some val = some val_1 → val = val_1 := @Option.some.inj
theorem yZ : ∀ {p : Prop} [inst : Decidable p], p → decide p = true := @decide_eq_true
theorem zZ.{u_1} : ∀ {α : Type u_1} {b : α} {l : List α} {a : α}, a ∈ b :: l ↔ a = b ∨ a ∈ l := @List.mem_cons
theorem aY : ∀ {α β : Type} (P : Go.Program) (w : Go.World) (x : Go.Sem α) (f : α → Go.Sem β), Go.Sem.run P (x >>= f) w = Go.Result.andThen (Go.Sem.run P x w) fun (a : α) (w' : Go.World) => Go.Sem.run P (f a) w' := @Go.Sem.run_bind
theorem bY : ∀ {n m k : Nat}, n ≤ m → m ≤ k → n ≤ k := @Nat.le_trans
theorem cY : ∀ (n : Nat), n ≤ n := @Nat.le_refl
theorem dY.{u_1} : ∀ {c : Prop} {h : Decidable c}, c → ∀ {α : Sort u_1} {t e : α}, (if c then t else e) = t := @if_pos
theorem eY.{u_1} : ∀ {c : Prop} {h : Decidable c}, ¬c → ∀ {α : Sort u_1} {t e : α}, (if c then t else e) = e := @if_neg
namespace Go.V
inductive Sh where
 | b | i (k:IntKind) | s | l (e:Nat) (sh:Sh) | a (fs:List Sh)
 deriving Inhabited
mutual
def Ty:Sh->Type
 | .b=>Bool
 | .i _=>Int
 | .s=>ByteArray
 | .l _ sh=>List (Ty sh)
 | .a fs=>TyL fs
def TyL:List Sh->Type
 | []=>Unit
 | [f]=>Ty f
 | f::g::r=>Ty f×TyL (g::r)
end
mutual
def Sh.n:Sh->Nat
 | .b | .i _ | .s | .l _ _=>1
 | .a fs=>Sh.nL fs
def Sh.nL:List Sh->Nat
 | []=>0
 | f::r=>Sh.n f+Sh.nL r
end
mutual
def Sh.flat:Sh->Bool
 | .b | .i _ | .s=>true
 | .l _ _=>false
 | .a fs=>Sh.flatL fs
def Sh.flatL:List Sh->Bool
 | []=>true
 | f::r=>Sh.flat f&&Sh.flatL r
end
mutual
def Sh.dec:(x y:Sh)->Decidable (x=y)
  | .b,.b=>isTrue rfl
  | .s,.s=>isTrue rfl
  | .i k,.i k'=>if h:k=k' then isTrue (by rw [h]) else isFalse (by simp [h])
  | .l e x,.l e' y=>if h:e=e' then match Sh.dec x y with
    | isTrue g=>isTrue (by rw [h,g])
    | isFalse g=>isFalse (by simp [h,g])
    else isFalse (by simp [h])
  | .a x,.a y=>match Sh.decL x y with
    | isTrue g=>isTrue (by rw [g])
    | isFalse g=>isFalse (by simp [g])
  | .b,.s | .b,.i _ | .b,.l _ _ | .b,.a _ | .s,.b | .s,.i _ | .s,.l _ _ | .s,.a _ | .i _,.b | .i _,.s | .i _,.l _ _ | .i _,.a _
  | .l _ _,.b | .l _ _,.s | .l _ _,.i _ | .l _ _,.a _ | .a _,.b | .a _,.s | .a _,.i _ | .a _,.l _ _=>isFalse (by simp)
def Sh.decL:(a b:List Sh)->Decidable (a=b)
  | [],[]=>isTrue rfl
  | [],_::_=>isFalse (by simp)
  | _::_,[]=>isFalse (by simp)
  | x::r,y::q=>match Sh.dec x y with
    | isFalse g=>isFalse (by simp [g])
    | isTrue g=>match Sh.decL r q with
      | isTrue h=>isTrue (by rw [g,h])
      | isFalse h=>isFalse (by simp [h])
end
def castSh {sh sh':Sh} (xs:List (Ty sh)):Option (List (Ty sh')):=match Sh.dec sh sh' with
 | isTrue h=>some (h▸xs)
 | isFalse _=>none
inductive C where
 | v (x:Value)
 | l (e:Nat) (sh:Sh) (xs:List (Ty sh))
 | ref (h:Nat)
 | emp
 | ptr (h off:Nat)
 | el (h sz i j:Nat)
 /-- A part of a row of the call's own: elements lo up to hi. -/
 | sub (h sz lo hi:Nat)
 | at_ (cs:List C)
 | clo (g:Nat) (caps:List C)
instance:Inhabited C:=⟨.v undef⟩
inductive AV where
 | c (x:C)
 | agg (cs:List C)
 | tup (xs:List (Bool×List C))
instance:Inhabited AV:=⟨.c default⟩
inductive Ob where
 | var (cells:List C)
 | arr (e:Nat) (sh:Sh) (xs:List (Ty sh))
 /-- A row whose element i stands in these cells: its rows are objects of their own. -/
 | opn (e:Nat) (sh:Sh) (xs:List (Ty sh)) (i:Nat) (cs:List C)
mutual
def avs:(sh:Sh)->Ty sh->List C
 | .b,x=>[.v (.bool x)]
 | .i k,x=>[.v (.int k x)]
 | .s,x=>[.v (.string x)]
 | .l e sh,xs=>[.l e sh xs]
 | .a fs,x=>avsL fs x
def avsL:(fs:List Sh)->TyL fs->List C
 | [],_=>[]
 | [f],x=>avs f x
 | f::g::r,x=>avs f x.1++avsL (g::r) x.2
end
def C.isBool:C->Option Bool
 | .v (.bool x)=>some x
 | _=>none
def C.isInt (k:IntKind):C->Option Int
 | .v (.int k' x)=>if k=k' then some x else none
 | _=>none
def C.isString:C->Option ByteArray
 | .v (.string x)=>some x
 | _=>none
def C.isSl (e:Nat) (sh:Sh):C->Option (List (Ty sh))
 | .v (.slice none 0 0)=>some []
 | .emp=>some []
 | .l e' _ xs=>if e'=e then castSh xs else none
 | _=>none
def headC {α:Type} (f:C->Option α):List C->Option (α×List C)
  | []=>none
  | c::r=>match f c with
    | some x=>some (x,r)
    | none=>none
mutual
def rd:(sh:Sh)->List C->Option (Ty sh×List C)
 | .b,cs=>headC C.isBool cs
 | .i k,cs=>headC (C.isInt k) cs
 | .s,cs=>headC C.isString cs
 | .l e sh,cs=>headC (C.isSl e sh) cs
 | .a fs,cs=>rdL fs cs
def rdL:(fs:List Sh)->List C->Option (TyL fs×List C)
  | [],r=>some ((),r)
  | [f],r=>rd f r
  | f::g::fs,r=>match rd f r with
    | some (x,r)=>match rdL (g::fs) r with
      | some (y,r)=>some ((x,y),r)
      | none=>none
    | none=>none
end
inductive TyK where
 | one | slc (e:Nat) | agg (fs:List (Nat×Nat))
 deriving Inhabited
structure TyI where
 k:TyK
 sz:Nat
 by_:Nat
 zero:List Value
 sh:Sh
 deriving Inhabited
structure RSh where
 own:Bool
 shs:List Sh
 /-- How many of them are rows of the arguments, as they stand at the end. -/
 io:Nat:=0
 deriving Inhabited
def RTy (r:RSh):Type:=TyL r.shs
structure Env where
 P:Program
 fn:Nat->Option Func
 ty:Nat->Option TyI
 lv:Nat->List Nat
 rs:Nat->RSh
 /-- Which arguments are the call's own from then on: their shapes. -/
 tk:Nat->List (Option Sh)
 ext:(f:Nat)->Option (List AV->Option (RTy (rs f)))
 /-- Package-level variables that hold what start-up code has laid: their blocks. -/
 tab:List (Nat×Array Value):=[]
structure St where
 nt:Nat
 nx:Nat
 sl:List (Nat×AV)
 ob:List (Nat×Ob)
 deriving Inhabited
def look {α:Type}:List (Nat×α)->Nat->Option α
 | [],_=>none
 | (k,v)::r,n=>if k=n then some v else look r n
def put {α:Type} (n:Nat) (v:α):List (Nat×α)->List (Nat×α)
 | []=>[(n,v)]
 | (k,u)::r=>if k=n then (n,v)::r else if n<k then (n,v)::(k,u)::r else (k,u)::put n v r
def del {α:Type} (n:Nat):List (Nat×α)->List (Nat×α)
 | []=>[]
 | (k,u)::r=>if k=n then del n r else (k,u)::del n r
def AV.sc:AV->Option Value
 | .c (.v x)=>some x
 | _=>none
def AV.cs:AV->Option (List C)
 | .c x=>some [x]
 | .agg fs=>some fs
 | .tup _=>none
def AV.cells:AV->List C
 | .c x=>[x]
 | .agg fs=>fs
 | .tup _=>[]
def St.ev (st:St):Operand->Option AV
  | .tmp t=>look st.sl t
  | .const v=>match v with
    | .agg _ | .tuple _=>none
    | v=>some (.c (.v v))
  | .func f=>some (.c (.v (.func (.func f) #[] #[])))
  | .global _=>none
def St.sc (st:St) (x:Operand):Option Value:=match st.ev x with
 | some (.c (.v x))=>some x
 | _=>none
def St.int (st:St) (x:Operand):Option Int:=
 match st.sc x with
 | some (.int .i64 n)=>some n
 | _=>none
def St.bool (st:St) (x:Operand):Option Bool:=
 match st.sc x with
 | some (.bool b)=>some b
 | _=>none
def bytesOf (xs:List Int):ByteArray:=⟨(xs.map fun n=>UInt8.ofNat n.toNat).toArray⟩
def St.bytes (st:St) (sh:Sh):C->Option ByteArray
  | .ref h=>match sh with
    | .i .u8=>match look st.ob h with
      | some (.arr _ (.i .u8) (x::r))=>some (bytesOf (x::r))
      | _=>none
    | _=>none
  | _=>none
def St.len (st:St):C->Option Nat
  | .l _ _ xs=>some xs.length
  | .v (.slice none 0 0)=>some 0
  | .emp=>some 0
  | .ref h=>match look st.ob h with
    | some (.arr _ _ xs)=>some xs.length
    | some (.opn _ _ xs _ _)=>some xs.length
    | _=>none
  | .sub _ _ lo hi=>some (hi-lo)
  | _=>none
def St.part (st:St) (h sz lo hi:Nat):Option C:=match look st.ob h with
 | some (.arr e sh xs)=>if sz=sh.n then some (.l e sh ((xs.take hi).drop lo)) else none
 | _=>none
def St.data (st:St):C->Option C
  | .ref h=>match look st.ob h with
    | some (.arr e sh xs)=>some (.l e sh xs)
    | _=>none
  | .ptr _ _ | .el _ _ _ _=>none
  | .sub h sz lo hi=>st.part h sz lo hi
  | x=>some x
def St.datas (st:St):List C->Option (List C)
  | []=>some []
  | f::r=>match st.data f with
    | none=>none
    | some x=>match St.datas st r with
      | none=>none
      | some xs=>some (x::xs)
def St.dataA (st:St):AV->Option AV
  | .c x=>match st.data x with
    | some y=>some (.c y)
    | none=>none
  | .agg cs=>match st.datas cs with
    | some ds=>some (.agg ds)
    | none=>none
  | .tup _=>none
def St.dataAs (st:St):List AV->Option (List AV)
  | []=>some []
  | f::r=>match st.dataA f with
    | none=>none
    | some x=>match St.dataAs st r with
      | none=>none
      | some xs=>some (x::xs)
def fillAt {α:Type} (cells:List α) (off:Nat) (v:List α):List α:=cells.take off++v++cells.drop (off+v.length)
def TyI.part (E:Env) (i:TyI) (n:Nat):Option (Nat×TyI):=
  match i.k with
  | .agg fs=>match fs[n]? with
    | some (off,t)=>match E.ty t with
      | some j=>some (off,j)
      | none=>none
    | none=>none
  | _=>none
def TyI.isAgg (i:TyI):Bool:=match i.k with | .agg _=>true | _=>false
def pack (agg:Bool) (cs:List C):Option AV:=
 if agg then some (.agg cs) else match cs with | [x]=>some (.c x) | _=>none
def bin {R:Type} (op:BinOp) (x y:Value) (K:Value->Option R):Option R:=
  match x,y with
  | .int k a,.int k' b=>
    match op with
    | .shl=>if b<0 then none else K (.int k (k.wrap (a*2^(min b.toNat k.bits))))
    | .shr=>if b<0 then none else K (.int k (a.fdiv (2^(min b.toNat k.bits))))
    | .add=>if k=k' then K (.int k (k.wrap (a+b))) else none
    | .sub=>if k=k' then K (.int k (k.wrap (a-b))) else none
    | .mul=>if k=k' then K (.int k (k.wrap (a*b))) else none
    | .quo=>if k=k' then if b=0 then none else K (.int k (k.wrap (a.tdiv b))) else none
    | .rem=>if k=k' then if b=0 then none else K (.int k (a.tmod b)) else none
    | .eql=>if k=k' then K (.bool (a==b)) else none
    | .neq=>if k=k' then K (.bool (a !=b)) else none
    | .lss=>if k=k' then K (.bool (decide (a<b))) else none
    | .leq=>if k=k' then K (.bool (decide (a<=b))) else none
    | .gtr=>if k=k' then K (.bool (decide (a>b))) else none
    | .geq=>if k=k' then K (.bool (decide (a>=b))) else none
    | .and=>if k=k' then K (.int k (k.wrap (BitVec.ofInt k.bits a&&&BitVec.ofInt k.bits b).toNat)) else none
    | .or=>if k=k' then K (.int k (k.wrap (BitVec.ofInt k.bits a ||| BitVec.ofInt k.bits b).toNat)) else none
    | .xor=>if k=k' then K (.int k (k.wrap (BitVec.ofInt k.bits a^^^BitVec.ofInt k.bits b).toNat)) else none
    | .andNot=>if k=k' then K (.int k (k.wrap (BitVec.ofInt k.bits a&&& ~~~BitVec.ofInt k.bits b).toNat)) else none
  | .string a,.string b=>
    match op with
    | .add=>if a.size+b.size<=9223372036854775807 then K (.string (a++b)) else none
    | .eql=>K (.bool (a.toList==b.toList))
    | .neq=>K (.bool (!(a.toList==b.toList)))
    | .lss=>K (.bool (Op.bytesLess a.toList b.toList))
    | .gtr=>K (.bool (!(Op.bytesLess a.toList b.toList || a.toList==b.toList)))
    | .leq=>K (.bool (Op.bytesLess a.toList b.toList || a.toList==b.toList))
    | .geq=>K (.bool (!(Op.bytesLess a.toList b.toList)))
    | _=>none
  | _,_=>none
def un (op:UnOp) (x:Value):Option Value:=
 match op,x with
 | .neg,.int k n=>some (.int k (k.wrap (0-n)))
 | .not,.bool b=>some (.bool (!b))
 | _,_=>none
def mn (a b:Int):Int:=if b<a then b else a
def mx (a b:Int):Int:=if a<b then b else a
def elemTy (E:Env) (t:Nat):Option (Nat×TyI):=
  match E.ty t with
  | some i=>match i.k with
    | .slc e=>match E.ty e with
      | some j=>some (e,j)
      | none=>none
    | _=>none
  | none=>none
def isStr (E:Env) (t:Nat):Bool:=
  match E.ty t with
  | some i=>match i.sh with
    | .s=>true
    | _=>false
  | none=>false
def isBool (E:Env) (t:Nat):Bool:=
  match E.ty t with
  | some i=>match i.sh with
    | .b=>true
    | _=>false
  | none=>false
def binB {R:Type} (op:BinOp) (x y:Value) (K:Value->Option R):Option R:=
  match x,y with
  | .bool a,.bool b=>match op with
    | .eql=>K (.bool (a==b))
    | .neq=>K (.bool (!(a==b)))
    | _=>none
  | _,_=>none
def intTy (E:Env) (t:Nat):Option IntKind:=
  match E.ty t with
  | some i=>match i.sh with
    | .i k=>some k
    | _=>none
  | none=>none
def Sh.agg:Sh->Bool
 | .a _=>true
 | _=>false
mutual
def eqTy (P:Program):Sh->Nat->Bool
  | .b,t=>match P.underlying t with | some .bool=>true | _=>false
  | .i _,t=>match P.underlying t with | some (.int _)=>true | _=>false
  | .s,t=>match P.underlying t with | some .string=>true | _=>false
  | .l _ _,_=>false
  | .a fs,t=>match P.underlying t with
    | some (.struct ds)=> !P.stoodInHeld t&&eqTyL P fs ds.toList 0
    | _=>false
def eqTyL (P:Program):List Sh->List Field->Nat->Bool
 | [],[],_=>true
 | f :: r, d :: q, off => (d.name != "_" && d.offset == off) && ((P.cellsOf d.type == f.n && eqTy P f d.type) && eqTyL P r q (off + f.n))
 | _,_,_=>false
end
mutual
def Sh.dep:Sh->Nat
 | .a fs=>Sh.depL fs+1
 | _=>0
def Sh.depL:List Sh->Nat
 | []=>0
 | f::r=>max (Sh.dep f) (Sh.depL r)
end
def eqB (x y:Bool):Bool:=x==y
def eqI (x y:Int):Bool:=x==y
def eqS (x y:ByteArray):Bool:=x.toList==y.toList
mutual
def eqT:(sh:Sh)->Ty sh->Ty sh->Bool
 | .b,x,y=>eqB x y
 | .i _,x,y=>eqI x y
 | .s,x,y=>eqS x y
 | .l _ _,_,_=>false
 | .a fs,x,y=>eqTL fs x y
def eqTL:(fs:List Sh)->TyL fs->TyL fs->Bool
 | [],_,_=>true
 | [f],x,y=>eqT f x y
 | f::g::r,x,y=>eqT f x.1 y.1&&eqTL (g::r) x.2 y.2
end
def structEq {R:Type} (E:Env) (t:Nat) (op:BinOp) (x y:Option AV) (K:Bool->Option R):Option R:=
  match E.ty t,x,y with
  | some i,some (.agg xs),some (.agg ys)=>if i.sh.agg&&(decide (i.sh.dep<=9999)&&(eqTy E.P i.sh t&& !E.P.eqGuardType E.P.depth t)) then match rd i.sh xs,rd i.sh ys with
    | some (a,[]),some (b,[])=>match op with
      | .eql=>K (eqT i.sh a b)
      | .neq=>K (!eqT i.sh a b)
      | _=>none
    | _,_=>none
    else none
  | _,_,_=>none
def nilQ (E:Env) (t:Nat) (op:BinOp) (v:Option AV) (y:Operand):Option Bool:=
  match op,elemTy E t,v,y with
  | .eql,some _,some (.c c),.const (.slice none 0 0)=>match c with
    | .l _ _ xs=>some xs.isEmpty
    | .v (.slice none 0 0)=>none
    | _=>none
  | _,_,_,_=>none
open Classical in
noncomputable def agree {R:Type} (e:Bool) (a b:Option R):Option R:=if e then (if a=b then a else none) else b
def St.bnd (st:St) (d:Int):Option Operand->Option Int
 | none=>some d
 | some x=>st.int x
def slcK {R:Type} (E:Env) (st:St) (t:Nat) (v:Option AV) (lo hi mx:Option Operand) (K:AV->Option R):Option R:=
  if isStr E t then match mx,v with
    | none,some (.c (.v (.string s)))=>match st.bnd 0 lo,st.bnd s.size hi with
      | some l,some h=>if 0<=l then if l<=h then if h<=(s.size:Int) then K (.c (.v (.string (s.extract l.toNat h.toNat)))) else none else none else none
      | _,_=>none
    | _,_=>none
  else match elemTy E t,v with
    | some (_,j),some (.c c)=>match mx with
      | some m=>match lo,hi with
        | none,some h=>match st.int h,st.int m,st.len c with
          | some a,some b,some _=>if a=0 then if b=0 then K (.c .emp) else none else none
          | _,_,_=>none
        | _,_=>none
      | none=>match c with
        | .l e sh xs=>match st.bnd 0 lo,st.bnd xs.length hi with
          | some l,some h=>if j.sz=sh.n then if 0<=l then if l<=h then if h<=(xs.length:Int) then K (.c (.l e sh ((xs.take h.toNat).drop l.toNat))) else none else none else none else none
          | _,_=>none
        | .ref n=>match look st.ob n with
          | some (.arr _ sh xs)=>match st.bnd 0 lo,st.bnd xs.length hi with
            | some l,some h=>if j.sz=sh.n then if 0<=l then if l<=h then if h<=(xs.length:Int) then K (.c (.sub n sh.n l.toNat h.toNat)) else none else none else none else none
            | _,_=>none
          | _=>none
        | _=>none
    | _,_=>none
def opv {R:Type} (E:Env) (st:St) (o:Oper) (K:AV->Option R) (N:Option R):Option R:=
  match o.op with
  | .move x | .assign x=>match st.ev x with
    | some v=>K v
    | none=>none
  | .pick c a b=>match st.bool c with
    | some c=>match st.bool a,st.bool b with
      | some a,some b=>K (.c (.v (.bool (if c then a else b))))
      | none,some b=>if c then none else K (.c (.v (.bool b)))
      | some a,none=>if c then K (.c (.v (.bool a))) else none
      | none,none=>none
    | none=>none
  | .binOp op t x y _=>match st.sc x,st.sc y with
    | some x,some y=>if isBool E t then binB op x y fun v=>K (.c (.v v)) else bin op x y fun v=>K (.c (.v v))
    | _,_=>if (nilQ E t op (st.ev x) y).isSome then N else structEq E t op (st.ev x) (st.ev y) fun b=>K (.c (.v (.bool b)))
  | .unOp op _ x=>match st.sc x with
    | some x=>match un op x with
      | some v=>K (.c (.v v))
      | none=>none
    | none=>none
  | .convert t' t x=>match intTy E t,E.ty t',st.sc x with
    | some k,some _,some (.int _ n)=>K (.c (.v (.int k (k.wrap n))))
    | _,_,_=>if isStr E t then match elemTy E t',st.ev x with
        | some (_,j),some (.c c)=>match st.bytes j.sh c with
          | some b=>K (.c (.v (.string b)))
          | none=>none
        | _,_=>none
      else none
  | .index t x n=>if isStr E t then match st.sc x,st.int n with
    | some (.string s),some i=>if 0<=i then match s[i.toNat]? with
      | some b=>K (.c (.v (.int .u8 b.toNat)))
      | none=>none
      else none
    | _,_=>none
    else none
  | .field s x n=>match E.ty s,st.ev x with
    | some i,some (.agg cs)=>match i.part E n with
      | some (off,j)=>if off+j.sz<=cs.length then match pack j.isAgg ((cs.drop off).take j.sz) with
        | some v=>K v
        | none=>none
        else none
      | none=>none
    | _,_=>none
  | .fieldAddr s x n=>match E.ty s,st.ev x with
    | some i,some (.c v)=>match i.part E n with
      | some (off,_)=>match v with
        | .ptr h o=>K (.c (.ptr h (o+off)))
        | .el h sz i o=>K (.c (.el h sz i (o+off)))
        | .at_ cs=>K (.c (.at_ (cs.drop off)))
        | _=>none
      | none=>none
    | _,_=>none
  | .extract x n=>match st.ev x with
    | some (.tup fs)=>match fs[n]? with
      | some (b,cs)=>match pack b cs with
        | some v=>K v
        | none=>none
      | none=>none
    | _=>none
  | .load t x=>match E.ty t,st.ev x with
    | some i,some (.c (.ptr h o))=>match look st.ob h with
      | some (.var cs)=>if o+i.sz<=cs.length then match pack i.isAgg ((cs.drop o).take i.sz) with
        | some v=>K v
        | none=>none
        else none
      | _=>none
    | some i,some (.c (.el h sz n o))=>match look st.ob h with
      | some (.arr _ sh xs)=>if sz=sh.n&&sh.flat then match xs[n]? with
        | some x=>if o+i.sz<=sh.n then match pack i.isAgg (((avs sh x).drop o).take i.sz) with
          | some v=>K v
          | none=>none
          else none
        | none=>none
        else N
      | some (.opn _ _ _ _ _)=>N
      | _=>none
    | some i,some (.c (.at_ cs))=>if i.sz<=cs.length then match pack i.isAgg (cs.take i.sz) with
      | some v=>K v
      | none=>none
      else none
    | _,_=>none
  | .indexAddr t x n=>match elemTy E t with
    | some (e,j)=>match st.ev x,st.int n with
      | some (.c (.ref h)),some i=>match look st.ob h with
        | some (.arr e' sh xs)=>if e'=e then if j.sz=sh.n then if 0<=i then if i<xs.length then K (.c (.el h sh.n i.toNat 0)) else none else none else none else none
        | some (.opn e' sh xs _ _)=>if e'=e then if j.sz=sh.n then if 0<=i then if i<xs.length then K (.c (.el h sh.n i.toNat 0)) else none else none else none else none
        | _=>none
      | some (.c (.sub h sz lo hi)),some i=>match look st.ob h with
        | some (.arr e' sh xs)=>if e'=e then if j.sz=sh.n&&sz=sh.n then if 0<=i then if (lo:Int)+i<hi then if hi<=xs.length then K (.c (.el h sh.n (lo+i.toNat) 0)) else none else none else none else none else none
        | _=>none
      | some (.c (.l _ sh xs)),some i=>if j.sz=sh.n then if 0<=i then match xs[i.toNat]? with
          | some x=>K (.c (.at_ (avs sh x)))
          | none=>none
          else none else none
      | _,_=>none
    | none=>none
  | .call { callee:= .builtin .len,args,argTypes }=>match args.toList,argTypes.toList with
    | [x],[t]=>match st.ev x with
      | some (.c v)=>match elemTy E t with
        | some _=>match st.len v with
          | some n=>K (.c (.v (.int .i64 n)))
          | none=>none
        | none=>if isStr E t then match v with
          | .v (.string s)=>K (.c (.v (.int .i64 s.size)))
          | _=>none
          else none
      | _=>none
    | _,_=>none
  | .call { callee:= .builtin .min,args,.. }=>match args.toList with
    | [x,y]=>match st.int x,st.int y with
      | some a,some b=>K (.c (.v (.int .i64 (mn a b))))
      | _,_=>none
    | _=>none
  | .call { callee:= .builtin .max,args,.. }=>match args.toList with
    | [x,y]=>match st.int x,st.int y with
      | some a,some b=>K (.c (.v (.int .i64 (mx a b))))
      | _,_=>none
    | _=>none
  | .slice t x lo hi mx=>slcK E st t (st.ev x) lo hi mx K
  | _=>N
mutual
def oavs:(sh:Sh)->Ty sh->Nat->List C×List (Nat×Ob)×Nat
 | .l e sh,xs,n=>([.ref n],[(n,.arr e sh xs)],n+1)
 | .a fs,x,n=>oavsL fs x n
 | .b,x,n=>([.v (.bool x)],[],n)
 | .i k,x,n=>([.v (.int k x)],[],n)
 | .s,x,n=>([.v (.string x)],[],n)
def oavsL:(fs:List Sh)->TyL fs->Nat->List C×List (Nat×Ob)×Nat
  | [],_,n=>([],[],n)
  | [f],x,n=>oavs f x n
  | f::g::r,x,n=>match oavs f x.1 n with
    | (vs,os,n)=>match oavsL (g::r) x.2 n with
      | (ws,ps,n)=>(vs++ws,os++ps,n)
end
def resOwn:(fs:List Sh)->TyL fs->Nat->List (Bool×List C)×List (Nat×Ob)×Nat
  | [],_,n=>([],[],n)
  | [f],x,n=>match oavs f x n with
      | (vs,os,n)=>([(f.agg,vs)],os,n)
  | f::g::r,x,n=>match oavs f x.1 n with
      | (vs,os,n)=>match resOwn (g::r) x.2 n with
        | (ws,ps,n)=>((f.agg,vs)::ws,os++ps,n)
def resBor:(fs:List Sh)->TyL fs->List (Bool×List C)
 | [],_=>[]
 | [f],x=>[(f.agg,avs f x)]
 | f::g::r,x=>(f.agg,avs f x.1)::resBor (g::r) x.2
def resAV:List (Bool×List C)->Option AV
 | [(b,cs)]=>pack b cs
 | xs=>some (.tup xs)
def putAll {α:Type}:List (Nat×α)->List (Nat×α)->List (Nat×α)
 | [],l=>l
 | (k,v)::r,l=>putAll r (put k v l)
def St.set (st:St) (d:Option Tmp) (v:AV):St:=
 match d with
 | some d=>if d<st.nt then { st with sl:=put d v st.sl } else { st with sl:=del d st.sl }
 | none=>st
def St.unset (st:St) (d:Option Tmp):St:=st.set d (.tup [])
def St.new (st:St) (d:Option Tmp) (v:AV) (o:Ob):St:=
 { st.set d v with ob:=put st.nx o st.ob,nx:=st.nx+1 }
def St.moved (st:St):List C->Option (List C×St)
  | []=>some ([],st)
  | .v x::r=>match St.moved st r with
    | some (xs,st)=>some (.v x::xs,st)
    | none=>none
  | .ref h::r=>match look st.ob h with
    | some (.arr e sh xs)=>match St.moved { st with ob:=del h st.ob } r with
      | some (ys,st)=>some (.l e sh xs::ys,st)
      | none=>none
    | _=>none
  | .sub h sz lo hi::r=>match look st.ob h with
    | some (.arr e sh xs)=>if sz=sh.n then match St.moved { st with ob:=del h st.ob } r with
      | some (ys,st)=>some (.l e sh ((xs.take hi).drop lo)::ys,st)
      | none=>none
      else none
    | _=>none
  | _=>none
def St.settle (st:St):List C->Option (List C×St)
  | []=>some ([],st)
  | .sub h sz lo hi::r=>match look st.ob h with
    | some (.arr e sh xs)=>if sz=sh.n then match St.settle { st with ob:=put st.nx (.arr e sh ((xs.take hi).drop lo)) (del h st.ob),nx:=st.nx+1 } r with
      | some (ys,st')=>some (.ref st.nx::ys,st')
      | none=>none
      else none
    | _=>none
  | x::r=>match St.settle st r with
    | some (ys,st)=>some (x::ys,st)
    | none=>none
def C.isSub:C->Bool
 | .sub _ _ _ _=>true
 | _=>false
def C.isV:C->Bool
 | .v _=>true
 | _=>false
def close1 (h:Nat) (st:St):Option St:=match look st.ob h with
  | some (.opn e sh xs i cs)=>match st.moved cs with
    | some (ds,st)=>match rd sh ds with
      | some (z,[])=>match look st.ob h with
        | some (.opn _ _ _ _ _)=>some { st with ob:=put h (.arr e sh (xs.set i z)) st.ob }
        | _=>none
      | _=>none
    | none=>none
  | _=>some st
def closeL:List Nat->St->Option St
  | [],st=>some st
  | h::r,st=>match close1 h st with
    | some st=>closeL r st
    | none=>none
def opnOf:List (Nat×Ob)->List Nat
 | []=>[]
 | (h,.opn _ _ _ _ _)::r=>h::opnOf r
 | _::r=>opnOf r
def St.closeAll (st:St):Option St:=match opnOf st.ob with
 | []=>some st
 | hs=>closeL hs.reverse st
def refsOf:Option AV->List Nat
  | some v=>v.cells.flatMap fun
    | .ref h=>[h]
    | _=>[]
  | none=>[]
def St.closeFor (st:St) (o:Oper):Option St:=match opnOf st.ob with
 | []=>some st
 | hs=>closeL ((o.op.operands.toList.flatMap fun x=>refsOf (st.ev x)).filter hs.contains) st
def placesOf (E:Env):List (Nat×Nat)->Option (List (Nat×Nat))
  | []=>some []
  | (off,t)::r=>match E.ty t with
    | some j=>match placesOf E r with
      | some ps=>some ((off,j.sz)::ps)
      | none=>none
    | none=>none
def fillP (ps:List (Nat×Nat)):List C->List (Nat×List C)->Option (List C)
  | cells,[]=>some cells
  | cells,(n,v)::r=>match ps[n]? with
    | some (off,sz)=>if v.length=sz then if off+sz<=cells.length then fillP ps (fillAt cells off v) r else none else none
    | none=>none
def evParts (st:St):List (Nat×Operand)->Option (List (Nat×List C))
  | []=>some []
  | (n,x)::r=>match st.ev x with
    | some v=>match v.cs with
      | some cs=>match evParts st r with
        | some vs=>some ((n,cs)::vs)
        | none=>none
      | none=>none
    | none=>none
def evAll (st:St):List Operand->Option (List AV)
  | []=>some []
  | x::r=>match st.ev x with
    | some v=>match evAll st r with
      | some vs=>some (v::vs)
      | none=>none
    | none=>none
def movedParts (sh:Sh) (st:St):List (Nat×List C)->Nat->Option (List (Ty sh)×St)
  | [],_=>some ([],st)
  | (n,v)::r,k=>if n=k then match st.moved v with
      | none=>none
      | some (cs,st)=>match rd sh cs with
        | some (x,[])=>match movedParts sh st r (k+1) with
          | none=>none
          | some (xs,st)=>some (x::xs,st)
        | _=>none
    else none
def freezeCells (st:St):List C->Option (List C×St)
  | []=>some ([],st)
  | .ref h::r=>match look st.ob h with
    | some (.arr e sh xs)=>match freezeCells { st with ob:=del h st.ob } r with
      | some (ys,st)=>some (.l e sh xs::ys,st)
      | none=>none
    | _=>none
  | .ptr _ _::_ | .el _ _ _ _::_ | .sub _ _ _ _::_=>none
  | x::r=>match freezeCells st r with
    | some (ys,st)=>some (x::ys,st)
    | none=>none
def freezeVars (st:St):List AV->Option (List C×St)
  | []=>some ([],st)
  | .c (.ptr h 0)::r=>match look st.ob h with
    | some (.var cs)=>match freezeCells { st with ob:=del h st.ob } cs with
      | some (cs,st)=>match freezeVars st r with
        | some (xs,st)=>some (.at_ cs::xs,st)
        | none=>none
      | none=>none
    | _=>none
  | .c (.at_ cs)::r=>match freezeVars st r with
    | some (xs,st)=>some (.at_ cs::xs,st)
    | none=>none
  | _=>none
def thaw1 (h:Nat) (cs:List C) (p:Nat×AV):Nat×AV:=match p.2 with
 | .c (.ptr h' 0)=>if h'=h then (p.1,.c (.at_ cs)) else p
 | _=>p
def thaw:List AV->List C->List (Nat×AV)->List (Nat×AV)
 | .c (.ptr h _)::r,.at_ cs::q,sl=>thaw r q (sl.map (thaw1 h cs))
 | _::r,_::q,sl=>thaw r q sl
 | _,_,sl=>sl
def appArg (st:St) (sh':Sh):C->Option (List (Ty sh')×St)
  | .l _ sh xs=>if sh'.flat then match castSh (sh':=sh') xs with
    | some xs=>some (xs,st)
    | none=>none
    else none
  | .v (.slice none 0 0)=>some ([],st)
  | .emp=>some ([],st)
  | .ref h=>match look st.ob h with
    | some (.arr _ sh xs)=>match castSh (sh':=sh') xs with
      | some xs=>some (xs,{ st with ob:=del h st.ob })
      | none=>none
    | _=>none
  | .sub h sz lo hi=>match look st.ob h with
    | some (.arr _ sh xs)=>if sz=sh.n&&sh'.flat then match castSh (sh':=sh') xs with
      | some xs=>some ((xs.take hi).drop lo,st)
      | none=>none
      else none
    | _=>none
  | _=>none
def AV.isAggOf (f:Sh):AV->Bool
 | .agg _=>f.agg
 | .c _=> !f.agg
 | .tup _=>false
def fin1 (own:Bool) (f:Sh) (v:AV) (st:St):Option (Ty f×St):=
  if v.isAggOf f then (if own then match st.moved v.cells with
      | some (cs,st)=>match rd f cs with
        | some (x,[])=>some (x,st)
        | _=>none
      | none=>none
    else match st.datas v.cells with
      | some cs=>match rd f cs with
        | some (x,[])=>some (x,st)
        | _=>none
      | none=>none) else none
def argAV (sh:Sh) (y:Ty sh):AV:=if sh.agg then .agg (avs sh y) else match avs sh y with
 | [c]=> .c c
 | cs=> .agg cs
def takeArgs:List (Option Sh)->List AV->St->Option (List AV×St)
  | [],vs,st=>some (vs,st)
  | _::_,[],_=>none
  | some sh::t,v::r,st=>match fin1 true sh v st with
    | some (y,st)=>match takeArgs t r st with
      | some (xs,st)=>some (argAV sh y::xs,st)
      | none=>none
    | none=>none
  | none::t,v::r,st=>match takeArgs t r st with
    | some (xs,st)=>some (v::xs,st)
    | none=>none
def initTk:List (Option Sh)->List AV->Nat->Option (List AV×List (Nat×Ob)×Nat)
  | [],xs,n=>some (xs,[],n)
  | _::_,[],_=>none
  | some sh::t,x::r,n=>match rd sh x.cells with
    | some (y,[])=>match oavs sh y n with
      | (cs,os,n)=>match pack sh.agg cs with
        | some v=>match initTk t r n with
          | some (ys,ps,n)=>some (v::ys,os++ps,n)
          | none=>none
        | none=>none
    | _=>none
  | none::t,x::r,n=>match initTk t r n with
    | some (ys,ps,n)=>some (x::ys,ps,n)
    | none=>none
abbrev CallD (E:Env):=(g:Nat)->List AV->Option (RTy (E.rs g))
def C.still:C->Bool
 | .ref _ | .ptr _ _ | .el _ _ _ _ | .sub _ _ _ _=>false
 | _=>true
def callable (r:RSh) (vs:List AV):Bool:=r.own || Sh.flatL r.shs || vs.all fun v=>v.cells.all C.still
def ioRefs:List (Option Sh)->List AV->List Nat
 | some _::t,v::r=>v.cells.filterMap (fun | .ref h=>some h | _=>none)++ioRefs t r
 | none::t,_::r=>ioRefs t r
 | _,_=>[]
def AV.isTup:AV->Bool
 | .tup _=>true
 | _=>false
def slV:Value->Bool
 | .slice _ _ _=>true
 | _=>false
def ioOk:List (Option Sh)->List AV->Bool
 | some _::t,v::r=>(!v.isTup&&v.cells.all (fun | .v x=> !slV x | .ref _=>true | _=>false))&&ioOk t r
 | none::t,_::r=>ioOk t r
 | _,_=>true
def giveBack:List (Bool×List C)->List Nat->List (Nat×Ob)->Option (List (Nat×Ob))
  | [],[],ob=>some ob
  | (false,[.ref n])::r,h::hs,ob=>match look ob n,look ob h with
    | some o,none=>giveBack r hs (put h o (del n ob))
    | _,_=>none
  | _,_,_=>none
def callK {R:Type} (E:Env) (call:CallD E) (st:St) (dst:Option Tmp) (g:Nat) (hs:List Nat) (xs:List AV) (K:St->Option R):Option R:=
  (call g xs).bind fun p=>
    if (E.rs g).own then match resOwn (E.rs g).shs p st.nx with
      | (vs,os,n)=>match resAV (vs.take (vs.length-(E.rs g).io)),giveBack (vs.drop (vs.length-(E.rs g).io)) hs (putAll os st.ob) with
        | some v,some ob=>K { st.set dst v with ob:=ob,nx:=n }
        | _,_=>none
    else if (E.rs g).io=0 then match resAV (resBor (E.rs g).shs p) with
      | some v=>K (st.set dst v)
      | none=>none
      else none
def St.callee (st:St) (f:Operand):Option (Nat×List C):=
 match st.ev f with
 | some (.c (.v (.func (.func g) f c)))=>if f.isEmpty&&c.isEmpty then some (g,[]) else none
 | some (.c (.clo g caps))=>some (g,caps)
 | _=>none
def stillParts (sh:Sh):List (Nat×List C)->Nat->Option (List (Ty sh))
  | [],_=>some []
  | (n,v)::r,k=>if n=k then if v.all C.still then match rd sh v with
      | some (x,[])=>match stillParts sh r (k+1) with
        | none=>none
        | some xs=>some (x::xs)
      | _=>none
      else none else none
noncomputable def eff {R:Type} (E:Env) (call:CallD E) (st:St) (o:Oper) (K:St->Option R):Option R:=
  match o.op with
  | .alloc t=>match E.ty t with
    | some i=>K (st.new o.dst (.c (.ptr st.nx 0)) (.var (i.zero.map .v)))
    | none=>none
  | .box t x=>match st.ev x with
    | some (.c c)=>K (st.new o.dst (.c (.ptr st.nx 0)) (.var [c]))
    | some (.agg cs)=>K (st.new o.dst (.c (.ptr st.nx 0)) (.var cs))
    | _=>none
  | .build t parts=>match E.ty t,evParts st parts.toList with
    | some i,some ps=>match i.k with
      | .agg fs=>match placesOf E fs with
        | some pl=>match fillP pl (i.zero.map .v) ps with
          | some cs=>K (st.set o.dst (.agg cs))
          | none=>none
        | none=>none
      | _=>none
    | _,_=>none
  | .buildSlice t n parts=>match elemTy E t,evParts st parts.toList with
    | some (e,i),some ps=>if n*i.sz<=16777216 then match movedParts i.sh st ps 0 with
      | some (xs,st)=>if xs.length=n then K (st.new o.dst (.c (.ref st.nx)) (.arr e i.sh xs)) else none
      | none=>match stillParts i.sh ps 0 with
        | some xs=>if xs.length=n then K (st.set o.dst (.c (.l e i.sh xs))) else none
        | none=>none
      else none
    | _,_=>none
  | .binOp op t x y _=>match nilQ E t op (st.ev x) y with
    | some b=>agree b (K (st.set o.dst (.c (.v (.bool true))))) (K (st.set o.dst (.c (.v (.bool false)))))
    | none=>none
  | .makeSlice t l c=>match elemTy E t,st.int l,st.int c with
    | some (e,i),some n,some m=>
      if (n==m)=true then if 0<=n then if i.by_*n.toNat<=281474976710656 then match rd i.sh (i.zero.map .v) with
        | some (z,[])=>K (st.new o.dst (.c (.ref st.nx)) (.arr e i.sh (List.replicate n.toNat z)))
        | _=>none
      else none else none else none
    | _,_,_=>none
  | .store t a x=>if o.dst.isSome then none else match E.ty t,st.ev a,st.ev x with
    | some i,some (.c (.ptr h off)),some v=>match v.cs with
      | some vs=>match st.settle vs with
        | some (vs,st)=>match look st.ob h with
          | some (.var cs)=>if vs.length=i.sz then if off+i.sz<=cs.length then K { st with ob:=put h (.var (fillAt cs off vs)) st.ob } else none else none
          | _=>none
        | none=>none
      | none=>none
    | some t,some (.c (.el h sz i j)),some v=>match v.cs with
      | some vs=>match (close1 h st).bind fun st=>st.moved vs with
        | some (ws,st)=>match look st.ob h with
          | some (.arr e sh xs)=>match xs[i]? with
            | some y=>if sz=sh.n&&t.sz=sh.n then (if j=0 then match rd sh ws with
                | some (z,[])=>K { st with ob:=put h (.arr e sh (xs.set i z)) st.ob }
                | _=>none
                else none)
              else if sz=sh.n then if ws.length=t.sz then if j+t.sz<=sh.n then match rd sh (fillAt (avs sh y) j ws) with
                | some (z,[])=>K { st with ob:=put h (.arr e sh (xs.set i z)) st.ob }
                | _=>none
                else none else none else none
            | none=>none
          | _=>none
        | none=>none
      | none=>none
    | _,_,_=>none
  | .load t x=>match E.ty t,st.ev x with
    | some i,some (.c (.el h sz n j))=>match close1 h st with
      | some st=>match look st.ob h with
        | some (.arr e sh xs)=>match xs[n]? with
          | some y=>if sz=sh.n&&j+i.sz<=sh.n then (if (((avs sh y).drop j).take i.sz).all C.isV then match pack i.isAgg (((avs sh y).drop j).take i.sz) with
              | some v=>K (st.set o.dst v)
              | none=>none
              else match oavs sh y st.nx with
                | (cs,os,m)=>match pack i.isAgg ((cs.drop j).take i.sz) with
                  | some v=>K (({ st with ob:=put h (.opn e sh xs n cs) (putAll os (del h st.ob)),nx:=m }:St).set o.dst v)
                  | none=>none) else none
          | none=>none
        | _=>none
      | none=>none
    | _,_=>none
  | .call { callee:= .builtin .append,args,argTypes }=>match args.toList,argTypes.toList with
    | [s,x],[t,t']=>match st.ev s,st.ev x,elemTy E t with
      | some (.c s),some (.c x),some (e,i)=>if t=t' then match appArg st i.sh x with
        | none=>none
        | some (xs,st)=>match s with
          | .ref h=>match look st.ob h with
            | some (.arr e' sh ys)=>if e'=e then match castSh (sh':=i.sh) ys with
              | some ys=>if (ys.length+xs.length)*i.by_<=140737488355328 then
                K ({ st with ob:=del h st.ob }.new o.dst (.c (.ref st.nx)) (.arr e i.sh (ys++xs))) else none
              | none=>none
              else none
            | _=>none
          | .v (.slice none 0 0)=>if xs.length*i.by_<=140737488355328 then
                K (st.new o.dst (.c (.ref st.nx)) (.arr e i.sh xs)) else none
          | .emp=>if xs.length*i.by_<=140737488355328 then
                K (st.new o.dst (.c (.ref st.nx)) (.arr e i.sh xs)) else none
          | _=>none
        else none
      | _,_,_=>none
    | _,_=>none
  | .call { callee:= .value f,args,.. }=>match st.callee f,evAll st args.toList with
    | some (g,caps),some vs=>match takeArgs (E.tk g) vs st with
      | some (ws,st)=>match st.dataAs ws with
        | some xs=>if callable (E.rs g) ws&&(((E.tk g).isEmpty || ((E.rs g).own || Sh.flatL (E.rs g).shs))&&(decide ((E.rs g).io=0) || ioOk (E.tk g) vs)) then callK E call st o.dst g (if (E.rs g).io=0 then [] else ioRefs (E.tk g) vs) (xs++caps.map .c) K else none
        | none=>none
      | none=>none
    | _,_=>none
  | .makeFunc (.func g) f captured=>match evAll st captured.toList with
    | some vs=>if f.isEmpty then match freezeVars st vs with
      | some (caps,st)=>K ({ st with sl:=thaw vs caps st.sl }.set o.dst (.c (.clo g caps)))
      | none=>none
      else none
    | none=>none
  | _=>none
noncomputable def vstep {R:Type} (E:Env) (call:CallD E) (st:St) (o:Oper) (K:St->Option R):Option R:=
 opv E st o (fun v=>K (st.set o.dst v)) (match st.closeFor o with
  | some st=>eff E call st o K
  | none=>none)
def vstepA {R:Type} (E:Env) (call:CallD E) (st:St) (o:Oper) (K:St->Option R):Option R:=
  opv E st o (fun v=>K (st.set o.dst v)) (match o.op with
    | .call { callee:= .value f,args,.. }=>match st.callee f,evAll st args.toList with
      | some (g,caps),some vs=>match st.dataAs vs with
        | some xs=>if callable (E.rs g) vs&&((E.tk g).isEmpty&&decide ((E.rs g).io=0)) then (call g (xs++caps.map .c)).bind fun p=>match resAV (resBor (E.rs g).shs p) with
          | some v=>K (st.set o.dst v)
          | none=>none
          else none
        | none=>none
      | _,_=>none
    | .build t parts=>match E.ty t,evParts st parts.toList with
      | some i,some ps=>match i.k with
        | .agg fs=>match placesOf E fs with
          | some pl=>match fillP pl (i.zero.map .v) ps with
            | some cs=>K (st.set o.dst (.agg cs))
            | none=>none
          | none=>none
        | _=>none
      | _,_=>none
    | _=>none)
def guard? (st:St) (ops:Array Oper) (o:Oper):Option Bool:=
  match o.guard with
  | none=>some true
  | some (j,want)=>match ops[j]? with
    | some p=>match p.dst with
      | some t=>match look st.sl t with
        | some (.c (.v (.bool b)))=>some (b==want)
        | some (.tup [])=>some false
        | _=>none
      | none=>none
    | none=>none
def St.know (st:St) (ops:Array Oper) (o:Oper) (b:Bool):St:=
  match o.guard with
  | none=>st
  | some (j,want)=>match ops[j]? with
    | some p=>match p.dst with
      | some t=>match look st.sl t with
        | some (.c (.v (.bool _)))=>{ st with sl:=put t (.c (.v (.bool (if b then want else !want)))) st.sl }
        | _=>st
      | none=>st
    | none=>st
noncomputable def vregion {R:Type} (E:Env) (call:CallD E) (ops:Array Oper):List Oper->Nat->St->(St->Option R)->Option R
  | [],_,st,K=>K st
  | o::r,n,st,K=>match guard? st ops o with
    | some b=>if b then vstep E call (st.know ops o true) o fun st=>vregion E call ops r (n+1) st K
        else vregion E call ops r (n+1) ((st.know ops o false).unset o.dst) K
    | none=>none
structure PV where
 v:AV
 os:List (Nat×Ob)
 n:Nat
 deriving Inhabited
abbrev Pk:=List (Nat×PV)
def C.place (b:Nat):C->C
 | .ref h=> .ref (b+h)
 | .ptr h o=> .ptr (b+h) o
 | .el h sz i j=> .el (b+h) sz i j
 | .sub h sz lo hi=> .sub (b+h) sz lo hi
 | x=>x
def AV.place (b:Nat):AV->AV
 | .c x=> .c (x.place b)
 | .agg cs=> .agg (cs.map (C.place b))
 | .tup xs=> .tup xs
def delAll {α:Type}:List Nat->List (Nat×α)->List (Nat×α)
 | [],l=>l
 | k::r,l=>delAll r (del k l)
def obsAt (b:Nat) (os:List (Nat×Ob)):List (Nat×Ob):=os.map fun p=>(b+p.1,p.2)
def allocAll:Pk->St->St
 | [],st=>st
 | (d,p)::r,st=>allocAll r { st with nx:=st.nx+p.n,sl:=put d (p.v.place st.nx) st.sl,ob:=putAll (obsAt st.nx p.os) st.ob }
def pv1 (v:AV) (o:Ob):PV:=⟨v,[(0,o)],1⟩
def pkRow (pk:Pk) (sh:Sh) (e:Nat):Operand->Option (Nat×List (Ty sh))
  | .tmp t=>match look pk t with
    | some ⟨.c (.ref 0),[(0,.arr e' sh' xs)],1⟩=>if e'=e then match castSh (sh':=sh) xs with
      | some xs=>some (t,xs)
      | none=>none
      else none
    | _=>none
  | _=>none
def pkDatas (os:List (Nat×Ob)):List C->Option (List C)
  | []=>some []
  | .v x::r=>match pkDatas os r with
    | some xs=>some (.v x::xs)
    | none=>none
  | .ref h::r=>match look os h with
    | some (.arr e sh xs)=>match pkDatas (del h os) r with
      | some ys=>some (.l e sh xs::ys)
      | none=>none
    | _=>none
  | _=>none
def headPart (st:St) (pk:Pk) (x:Operand):Option (List C×List Nat):=match (match x with
    | .tmp t=>(look pk t).map fun p=>(t,p)
    | _=>none) with
  | some (t,p)=>match p.v.cs with
    | some cs=>match pkDatas p.os cs with
      | some ds=>some (ds,[t])
      | none=>none
    | none=>none
  | none=>match st.ev x with
    | some v=>match v.cs with
      | some cs=>if cs.all C.isV then some (cs,[]) else none
      | none=>none
    | none=>none
def headParts (sh:Sh) (st:St):Pk->List (Nat×Operand)->Nat->Option (List (Ty sh)×List Nat)
  | _,[],_=>some ([],[])
  | pk,(n,x)::r,k=>if n=k then match headPart st pk x with
      | some (cs,us)=>match rd sh cs with
        | some (y,[])=>match headParts sh st (delAll us pk) r (k+1) with
          | some (ys,vs)=>some (y::ys,us++vs)
          | none=>none
        | _=>none
      | none=>none
    else none
def headRow (st:St) (pk:Pk) (sh:Sh) (e:Nat) (x:Operand):Option (List Nat×List (Ty sh)):=match pkRow pk sh e x with
  | some (t,xs)=>some ([t],xs)
  | none=>match st.ev x with
    | some (.c (.v (.slice none 0 0)))=>some ([],[])
    | some (.c .emp)=>some ([],[])
    | _=>none
def headApp (st:St) (pk:Pk) (sh:Sh) (e:Nat) (x:Operand):Option (List Nat×List (Ty sh)):=match headRow st pk sh e x with
  | some r=>some r
  | none=>match st.ev x with
    | some (.c (.l _ sh' xs))=>if sh.flat then match castSh (sh':=sh) xs with
      | some xs=>some ([],xs)
      | none=>none
      else none
    | some (.c (.sub h sz lo hi))=>match look st.ob h with
      | some (.arr _ sh' xs)=>if sz=sh'.n&&sh.flat then match castSh (sh':=sh) xs with
        | some xs=>some ([],(xs.take hi).drop lo)
        | none=>none
        else none
      | _=>none
    | _=>none
def mkC {R:Type} (E:Env) (call:CallD E) (st:St) (pk:Pk) (o:Oper) (K:PV->List Nat->Option R):Option R:=match o.op with
  | .alloc t=>match E.ty t with
    | some i=>K (pv1 (.c (.ptr 0 0)) (.var (i.zero.map .v))) []
    | none=>none
  | .makeSlice t l c=>match elemTy E t,st.int l,st.int c with
    | some (e,i),some n,some m=>
      if (n==m)=true then if 0<=n then if i.by_*n.toNat<=281474976710656 then match rd i.sh (i.zero.map .v) with
        | some (z,[])=>K (pv1 (.c (.ref 0)) (.arr e i.sh (List.replicate n.toNat z))) []
        | _=>none
      else none else none else none
    | _,_,_=>none
  | .buildSlice t n parts=>match elemTy E t with
    | some (e,i)=>if n*i.sz<=16777216 then match headParts i.sh st pk parts.toList 0 with
      | some (xs,us)=>if xs.length=n then K (pv1 (.c (.ref 0)) (.arr e i.sh xs)) us else none
      | none=>none
      else none
    | none=>none
  | .call { callee:= .builtin .append,args,argTypes }=>match args.toList,argTypes.toList with
    | [s,x],[t,t']=>match elemTy E t with
      | some (e,i)=>if t=t' then match headRow st pk i.sh e s with
        | some (us,ys)=>match headApp st (delAll us pk) i.sh e x with
          | some (vs,xs)=>if (ys.length+xs.length)*i.by_<=140737488355328 then K (pv1 (.c (.ref 0)) (.arr e i.sh (ys++xs))) (us++vs) else none
          | none=>none
        | none=>none
        else none
      | none=>none
    | _,_=>none
  | .call { callee:= .value f,args,.. }=>match st.callee f,evAll st args.toList with
    | some (g,caps),some vs=>match st.dataAs vs with
      | some xs=>if (E.rs g).own&&((E.tk g).isEmpty&&decide ((E.rs g).io=0)) then (call g (xs++caps.map .c)).bind fun p=>match resOwn (E.rs g).shs p 0 with
          | ([(b,cs)],os,n)=>match pack b cs with
            | some v=>K ⟨v,os,n⟩ []
            | none=>none
          | _=>none
        else none
      | none=>none
    | _,_=>none
  | _=>none
def makes:Op->Bool
 | .alloc _ | .makeSlice _ _ _ | .buildSlice _ _ _=>true
 | .call { callee:= .builtin .append,.. }=>true
 | _=>false
def ownCall (E:Env) (ops:Array Oper) (m:Nat) (o:Oper):Bool:=match o.op,o.dst with
 | .call { callee:= .value (.func g),.. },some d=>(E.rs g).own&&(!Sh.flatL (E.rs g).shs&&(decide ((E.rs g).shs.length=1)&&(ops.toList.take m).all fun q=> !(q.looksAt ops).contains d || makes q.op))
 | _,_=>false
def ownSlots (E:Env) (ops:Array Oper) (m:Nat):List Nat:=(ops.toList.take m).filterMap fun o=>if makes o.op || ownCall E ops m o then o.dst else none
def headEnd (ops:Array Oper) (cs:List Nat) (pk:Pk) (st:St):St:=if cs.isEmpty then st else allocAll pk { st with nx:=st.nx+1000*ops.size }
def usedUp (o:Oper) (pk:Pk) (us:List Nat):Bool:=o.op.operands.toList.all fun x=>match x with
 | .tmp t=>(look pk t).isNone || us.contains t
 | _=>true
def inSlots (cs:List Nat):Option Tmp->Bool
 | some d=>cs.contains d
 | none=>false
noncomputable def vhead {R:Type} (E:Env) (call:CallD E) (ops:Array Oper) (m:Nat) (cs:List Nat) (tl:List Oper->Nat->St->(St->Option R)->Option R):List Oper->Nat->St->Pk->(St->Option R)->Option R
 | [],n,st,pk,K=>tl [] n (headEnd ops cs pk st) K
 | o::r,n,st,pk,K=>if n<m then match guard? st ops o with
  | some b=>if b then
   (if inSlots cs o.dst then match o.dst with
    | some d=>if d<st.nt then mkC E call (st.know ops o true) pk o fun p us=>if p.n<=1000&&usedUp o pk us then vhead E call ops m cs tl r (n+1) { st.know ops o true with sl:=del d (st.know ops o true).sl } (delAll (d::us) pk++[(d,p)]) K else none
     else none
    | none=>none
   else if (o.looksAt ops).all fun t=> !cs.contains t then vstepA E call (st.know ops o true) o fun st=>vhead E call ops m cs tl r (n+1) st pk K else none)
   else vhead E call ops m cs tl r (n+1) ((st.know ops o false).unset o.dst) pk K
  | none=>none
  else tl (o::r) n (headEnd ops cs pk st) K
def lastFrom (b:Array Nat):Nat->Nat->Nat
 | 0,_=>0
 | n+1,top=>if b.getD n 0=2^n-1 then lastFrom b n top else n+1
def headOf (ops:Array Oper):Nat:=lastFrom (Region.before ops) ops.size ops.size
def W2 (ops:Array Oper) (k:Nat):Option Tmp:=(ops[k]?).bind (·.dst)
def isAlloc:Op->Bool
 | .alloc _=>true
 | _=>false
def pureF:Op->Bool
 | .move _ | .extract _ _=>true
 | _=>false
def flTy (E:Env) (ops:Array Oper) (j:Nat):Bool:=match ops[j]? with
  | some o=>match o.op with
    | .alloc t=>(E.ty t).isSome
    | _=>false
  | none=>false
noncomputable def vflow {R:Type} (E:Env) (call:CallD E) (ops:Array Oper) (A F:List Nat):List Oper->Nat->St->(St->Option R)->Option R
 | [],_,st,K=>K st
 | o::r,n,st,K=>if (A.all fun j=>decide (j<n) || (match W2 ops j with
  | some d=>(look st.sl d).isNone&&(decide (d<st.nt)&&flTy E ops j)
  | none=>false))=true then
  if A.contains n=true then eff E call st o fun st=>vflow E call ops A F r (n+1) st K
  else if F.contains n=true then opv E st o (fun v=>vflow E call ops A F r (n+1) (st.set o.dst v) K) none
  else match guard? st ops o with
   | some b=>if b=true then vstep E call (st.know ops o true) o fun st=>vflow E call ops A F r (n+1) st K
    else vflow E call ops A F r (n+1) ((st.know ops o false).unset o.dst) K
   | none=>none
  else none
def flowFrom (B:Array Nat) (al pu:Nat->Bool):Nat->Nat
 | 0=>0
 | n+1=>if (al n || (List.range n).all fun i=>pu i || (B.getD n 0).testBit i)=true then flowFrom B al pu n else n+1
def opAt (ops:Array Oper) (p:Op->Bool) (j:Nat):Bool:=match ops[j]? with
 | some o=>o.guard.isNone&&p o.op
 | none=>false
def flowM (ops:Array Oper):Nat:=
 let B:=Region.before ops
 let m:=flowFrom B (opAt ops isAlloc) (opAt ops pureF) ops.size
 if ((List.range m).all fun i=> !opAt ops pureF i || (List.range ops.size).all fun j=>decide (j<m) || (opAt ops isAlloc j || (B.getD j 0).testBit i))=true then m else headOf ops
def flowA (ops:Array Oper) (m:Nat):List Nat:=(List.range ops.size).filter fun j=>decide (m<=j)&&opAt ops isAlloc j
def flowF (ops:Array Oper) (m:Nat):List Nat:=(List.range ops.size).filter fun j=>decide (m<=j)&&opAt ops pureF j
def flowSt (E:Env) (ops:Array Oper) (A:List Nat) (st:St):Bool:=A.all fun j=>match W2 ops j with
 | some d=>(look st.sl d).isNone&&(decide (d<st.nt)&&flTy E ops j)
 | none=>false
def isEmptyRow:Op->Bool
 | .buildSlice _ n ps=>n==0&&ps.isEmpty
 | _=>false
def pureW:Op->Bool
 | .move _ | .extract _ _ | .fieldAddr _ _ _ | .build _ _ | .load _ _ | .indexAddr _ _ _ | .slice _ _ _ _ _ | .binOp _ _ _ _ _=>true
 | _=>false
def wideA (ops:Array Oper):List Nat:=(List.range ops.size).filter (opAt ops isAlloc)
def wideZ (ops:Array Oper):List Nat:=(List.range ops.size).filter (opAt ops isEmptyRow)
def wideF (ops:Array Oper) (skip:List Nat):List Nat:=(List.range ops.size).filter fun j=>opAt ops pureW j&& !skip.contains j
def zTy (E:Env) (ops:Array Oper) (j:Nat):Bool:=match ops[j]? with
  | some o=>match o.op with
    | .buildSlice t _ _=>(elemTy E t).isSome
    | _=>false
  | none=>false
def bindsOn (o:Oper):List Nat:=(o.after.toList.filter (Region.binds .any)).map (·.on)
def ordNext (ops:Array Oper) (F rem:List Nat):Nat:=match rem.find? fun j=>F.contains j&&(match ops[j]? with
    | some o=>(bindsOn o).all fun i=> !rem.contains i
    | none=>false) with
  | some j=>j
  | none=>rem.headD 0
def ordOf (ops:Array Oper) (F:List Nat):Nat->List Nat->List Nat
 | 0,_=>[]
 | _+1,[]=>[]
 | n+1,rem=>ordNext ops F rem::ordOf ops F n (rem.erase (ordNext ops F rem))
def ordOk (ops:Array Oper) (B:Array Nat) (A Z F:List Nat):List Nat->Bool
  | []=>true
  | j::r=>(match ops[j]? with
    | none=>false
    | some o=>(bindsOn o).all (fun i=> !(j::r).contains i&&decide (i<ops.size))&&((if F.contains j then (pureW o.op&&(o.guard.isNone&&(!A.contains j&&(!Z.contains j&&(r.all fun i=>match ops[i]? with
        | some q=>(bindsOn q).contains j || o.apart ops q
        | none=>true)))))
        else r.all fun i=>A.contains i || (Z.contains i || (B.getD i 0).testBit j))&&(!r.contains j&&ordOk ops B A Z F r)))
def wideOk (ops:Array Oper) (A Z F ord:List Nat):Bool:=
 Region.noSelect ops&&((List.range ops.size).all (fun j=>ord.contains j)&&(ord.all (fun j=>decide (j<ops.size))&&(((List.range ops.size).all fun j=>(!A.contains j || opAt ops isAlloc j)&&((!Z.contains j || opAt ops isEmptyRow j)&&(!(A.contains j || Z.contains j) || ((W2 ops j).isSome&&(List.range ops.size).all fun i=>i==j || W2 ops i !=W2 ops j))))&&((A++Z).all (fun j=>decide (j<ops.size))&&ordOk ops (Region.before ops) A Z F ord))))
def wopv {R:Type} (E:Env) (st:St) (o:Oper) (K:AV->Option R):Option R:=match o.op with
  | .build t parts=>match E.ty t,evParts st parts.toList with
    | some i,some ps=>match i.k with
      | .agg fs=>match placesOf E fs with
        | some pl=>match fillP pl (i.zero.map .v) ps with
          | some cs=>K (.agg cs)
          | none=>none
        | none=>none
      | _=>none
    | _,_=>none
  | .load t x=>match E.ty t,st.ev x with
    | some i,some (.c (.at_ cs))=>if i.sz<=cs.length then match pack i.isAgg (cs.take i.sz) with
      | some v=>K v
      | none=>none
      else none
    | some i,some (.c (.ptr h off))=>match look st.ob h with
      | some (.var cs)=>match cs[off]? with
        | some (.ref n)=>if i.sz=1 then if i.isAgg then none else K (.c (.ref n)) else none
        | _=>none
      | _=>none
    | some i,some (.c (.el h sz n o))=>match look st.ob h with
      | some (.arr _ sh xs)=>if sz=sh.n&&sh.flat then match xs[n]? with
        | some x=>if o+i.sz<=sh.n then match pack i.isAgg (((avs sh x).drop o).take i.sz) with
          | some v=>K v
          | none=>none
          else none
        | none=>none
        else none
      | _=>none
    | _,_=>none
  | .binOp op t x y _=>match st.sc x,st.sc y with
    | some x,some y=>if isBool E t then none else bin op x y fun v=>K (.c (.v v))
    | _,_=>none
  | _=>opv E st o K none
def heldOf (st:St) (o:Oper):List (Nat×Nat×Nat):=match o.op with
  | .load _ x=>match st.ev x with
    | some (.c (.ptr h off))=>match look st.ob h with
      | some (.var cs)=>match cs[off]? with
        | some (.ref n)=>[(h,off,n)]
        | _=>[]
      | _=>[]
    | _=>[]
  | _=>[]
def elOf (st:St) (o:Oper):Bool:=match o.op with
  | .load _ x=>match st.ev x with
    | some (.c (.el _ _ _ _))=>true
    | _=>false
  | _=>false
def heldOk (st:St) (T:List (Nat×Nat×Nat)):Bool:=T.all fun p=>match look st.ob p.1 with
  | some (.var cs)=>match cs[p.2.1]? with
    | some (.ref n)=>n==p.2.2
    | _=>false
  | _=>false
noncomputable def wflow {R:Type} (E:Env) (call:CallD E) (ops:Array Oper) (A Z F:List Nat):List (Nat×Nat×Nat)->List Nat->St->(St->Option R)->Option R
  | T,[],st,K=>if heldOk st T=true then K st else none
  | T,j::r,st,K=>if heldOk st T=true then if ((j::r).all fun i=> !(A.contains i || Z.contains i) || (match W2 ops i with
      | some d=>(look st.sl d).isNone&&(decide (d<st.nt)&&(flTy E ops i || zTy E ops i))
      | none=>false))=true then match ops[j]? with
      | some o=>if (A.contains j || Z.contains j)=true then eff E call st o fun st=>wflow E call ops A Z F T r st K
        else if F.contains j=true then (if (!elOf st o || r.all fun i=>F.contains i || (match ops[i]? with | some q=>(bindsOn q).contains j | none=>true))=true then wopv E st o fun v=>wflow E call ops A Z F (heldOf st o++T) r (st.set o.dst v) K else none)
        else match guard? st ops o with
          | some b=>if b=true then vstep E call (st.know ops o true) o fun st=>wflow E call ops A Z F T r st K
              else wflow E call ops A Z F T r ((st.know ops o false).unset o.dst) K
          | none=>none
      | none=>none
    else none else none
def wideHint (q:Nat):Option (Nat×Nat):=if 2199023255552<=q then some ((q-2199023255552) / 4096,(q-2199023255552)%4096) else none
def wideSkips (id:Nat) (lv:List Nat):List Nat:=lv.filterMap fun q=>match wideHint q with
 | some (i,j)=>if i=id then some j else none
 | none=>none
def frz1 (t:Nat) (st:St):St:=match look st.sl t with
  | some (.c (.ptr h 0))=>match look st.ob h with
    | some (.var cs)=>if cs.all C.still then { st with sl:=put t (.c (.at_ cs)) st.sl,ob:=del h st.ob } else st
    | _=>st
  | _=>st
def frzs:List Nat->St->St
 | [],st=>st
 | q::r,st=>frzs r (if 1099511627776<=q then (if q<2199023255552 then frz1 (q-1099511627776) st else st) else st)
def dropR (lo hi:Nat):List (Nat×AV)->List (Nat×AV)
 | []=>[]
 | p::r=>if lo<=p.1 then (if p.1<hi then dropR lo hi r else p::dropR lo hi r) else p::dropR lo hi r
def drps (id:Nat):List Nat->St->St
 | [],st=>st
 | q::r,st=>drps id r (if 1649267441664<=q then (if q<2199023255552 then (if (q-1649267441664) / 16777216=id then { st with sl:=dropR ((q-1649267441664) / 4096%4096) ((q-1649267441664)%4096) st.sl } else st) else st) else st)
inductive Ex where
 | normal | exit (i:Nat) | ret
 deriving Inhabited
def wkCell (nx:Nat) (cs:List C) (i:Nat):Option (List C):=match cs[i]? with
 | some (.v (.slice none 0 0))=>some (cs.set i (.ref nx))
 | _=>none
def wake1 (E:Env) (t i e:Nat) (st:St):St:=match E.ty e with
  | some j=>match look st.sl t with
    | some (.c (.ptr h 0))=>match look st.ob h with
      | some (.var cs)=>match wkCell st.nx cs i with
        | some ds=>{ st with nx:=st.nx+1,ob:=put h (.var ds) (put st.nx (.arr e j.sh []) st.ob) }
        | none=>st
      | _=>st
    | some (.c (.v (.slice none 0 0)))=>{ st with nx:=st.nx+1,sl:=put t (.c (.ref st.nx)) st.sl,ob:=put st.nx (.arr e j.sh []) st.ob }
    | some (.agg cs)=>match wkCell st.nx cs i with
      | some ds=>{ st with nx:=st.nx+1,sl:=put t (.agg ds) st.sl,ob:=put st.nx (.arr e j.sh []) st.ob }
      | none=>st
    | _=>st
  | none=>st
def wakes (E:Env):List Nat->St->St
 | [],st=>st
 | q::r,st=>wakes E r (if q<1048576 then st else if 1099511627776<=q then st else wake1 E ((q-1048576) / 4194304) ((q-1048576) / 65536%64) ((q-1048576)%65536) st)
def C.hs:C->List Nat
 | .ref h | .ptr h _ | .el h _ _ _ | .sub h _ _ _=>[h]
 | _=>[]
def AV.hs (v:AV):List Nat:=v.cells.flatMap C.hs
def C.ren (hs:List Nat):C->C
 | .ref h=> .ref (hs.idxOf h)
 | .ptr h o=> .ptr (hs.idxOf h) o
 | .el h sz i j=> .el (hs.idxOf h) sz i j
 | .sub h sz lo hi=> .sub (hs.idxOf h) sz lo hi
 | x=>x
def AV.ren (hs:List Nat):AV->AV
 | .c x=> .c (x.ren hs)
 | .agg cs=> .agg (cs.map (C.ren hs))
 | .tup xs=> .tup xs
def Ob.ren (hs:List Nat):Ob->Ob
 | .var cs=> .var (cs.map (C.ren hs))
 | .opn e sh xs i cs=> .opn e sh xs i (cs.map (C.ren hs))
 | x=>x
def Ob.hs:Ob->List Nat
 | .var cs=>cs.flatMap C.hs
 | .opn _ _ _ _ cs=>cs.flatMap C.hs
 | _=>[]
def dedup:List Nat->List Nat->List Nat
 | [],acc=>acc
 | h::r,acc=>if acc.contains h then dedup r acc else dedup r (acc++[h])
def reach (ob:List (Nat×Ob)):Nat->List Nat->List Nat
 | 0,hs=>hs
 | n+1,hs=>reach ob n (dedup (hs.flatMap fun h=>match look ob h with | some o=>o.hs | none=>[]) hs)
def canonOb (ob:List (Nat×Ob)) (hs:List Nat):List Nat->Nat->List (Nat×Ob)
  | [],_=>[]
  | h::r,n=>match look ob h with
    | some o=>if o.hs.all hs.contains then (n,o.ren hs)::canonOb ob hs r (n+1) else canonOb ob hs r (n+1)
    | none=>canonOb ob hs r (n+1)
def pickSl (sl:List (Nat×AV)):List Nat->List (Nat×AV)
  | []=>[]
  | t::r=>match look sl t with
    | some v=>if v.isTup then pickSl sl r else (t,v)::pickSl sl r
    | none=>pickSl sl r
def St.canon0 (keys:List Nat) (st:St):St:=
 let sl:=pickSl st.sl keys.tail
 let hs:=reach st.ob 3 (dedup (sl.flatMap fun p=>p.2.hs) (List.range (keys.headD 0)))
 { nt:=st.nt,nx:=hs.length,sl:=sl.map fun p=>(p.1,p.2.ren hs),ob:=canonOb st.ob hs hs 0 }
def settleSl:List Nat->St->St
  | [],st=>st
  | t::r,st=>settleSl r (match look st.sl t with
    | some (.c (.sub h sz lo hi))=>match st.settle [.sub h sz lo hi] with
      | some ([c],st1)=>{ st1 with sl:=put t (.c c) st1.sl }
      | _=>st
    | _=>st)
def St.canon (keys:List Nat) (st:St):St:=(settleSl keys.tail st).canon0 keys
def loopRun {R:Type} (keys:List Nat) (body:St->(Ex->St->Option R)->Option R):Nat->St->(Ex->St->Option R)->Option R
  | 0,_,_=>none
  | k+1,st,K=>body st fun e st=>match e with
    | .normal=>match st.closeAll with
      | some st=>loopRun keys body k (st.canon keys) K
      | none=>none
    | e=>K e st
noncomputable def regionRun {R:Type} (E:Env) (call:CallD E) (lv:List Nat) (id:Nat) (ops:Array Oper) (d:Bool) (st:St) (K:St->Option R):Option R:=
 if d then (match wideSkips id lv.tail with
  | s::r=>if wideOk ops (wideA ops) (wideZ ops) (wideF ops (s::r)) (ordOf ops (wideF ops (s::r)) ops.size (List.range ops.size))=true then wflow E call ops (wideA ops) (wideZ ops) (wideF ops (s::r)) [] (ordOf ops (wideF ops (s::r)) ops.size (List.range ops.size)) st K else none
  | []=>if flowM ops<headOf ops then (if flowSt E ops (flowA ops (flowM ops)) st=true then vhead E call ops (flowM ops) (ownSlots E ops (flowM ops)) (vflow E call ops (flowA ops (flowM ops)) (flowF ops (flowM ops))) ops.toList 0 st [] K else none) else vhead E call ops (headOf ops) (ownSlots E ops (headOf ops)) (vregion E call ops) ops.toList 0 st [] K)
 else vregion E call ops ops.toList 0 st K
noncomputable def run {R:Type} (E:Env) (call:CallD E) (lv:List Nat) (k:Nat):Code->St->(Ex->St->Option R)->Option R
  | .skip,st,K=>K .normal st
  | .region id ops d,st,K=>regionRun E call lv id ops d (frzs lv.tail st) fun st=>K .normal (drps id lv.tail st)
  | .seq a b,st,K=>run E call lv k a st fun e st=>match e with
    | .normal=>run E call lv k b st K
    | e=>K e st
  | .cond c x y,st,K=>match st.bool c with
    | some b=>if b then run E call lv k x st K else run E call lv k y st K
    | none=>none
  | .block i c,st,K=>run E call lv k c st fun e st=>match e with
    | .exit j=>if j=i then K .normal st else K (.exit j) st
    | e=>K e st
  | .loop c,st,K=>match (st.closeAll).map (wakes E lv.tail) with
    | some st=>let keys:=lv.headD 0::(st.sl.map (·.1)).filter lv.tail.contains
      loopRun keys (run E call lv k c) k (st.canon keys) K
    | none=>none
  | .exit i,st,K=>K (.exit i) st
  | .ret,st,K=>K .ret st
  | _,_,_=>none
def results1 (E:Env) (st:St):ResultVar->Option AV
  | .tmp t=>look st.sl t
  | .cell a ty=>match look st.sl a,E.ty ty with
    | some (.c (.ptr h 0)),some i=>match look st.ob h with
      | some (.var cs)=>if i.sz<=cs.length then pack i.isAgg (cs.take i.sz) else none
      | _=>none
    | _,_=>none
def resultsL (E:Env) (st:St):List ResultVar->Option (List AV)
  | []=>some []
  | r::rs=>match results1 E st r with
    | some v=>match resultsL E st rs with
      | some vs=>some (v::vs)
      | none=>none
    | none=>none
def finL (own:Bool):(fs:List Sh)->List AV->St->Option (TyL fs)
  | [],[],_=>some ()
  | [f],[v],st=>match fin1 own f v st with
    | some (x,_)=>some x
    | none=>none
  | f::g::r,v::vs,st=>match fin1 own f v st with
    | some (x,st)=>match finL own (g::r) vs st with
      | some y=>some (x,y)
      | none=>none
    | none=>none
  | _,_,_=>none
def C1 (E:Env) (r:RSh) (F:Func):Ex->St->Option (RTy r)
  | .exit _,_=>none
  | _,st=>match st.closeAll with
    | some st=>match resultsL E st F.results.toList with
      | some vs=>finL r.own r.shs (vs++(List.range r.io).map fun i=> .c (.ref i)) st
      | none=>none
    | none=>none
def initSl:Nat->List AV->List (Nat×AV)
 | _,[]=>[]
 | n,x::r=>(n,x)::initSl (n+1) r
noncomputable def den (E:Env):Nat->CallD E
  | 0,_,_=>none
  | k+1,f,args=>match E.ext f with
    | some g=>g args
    | none=>match E.fn f with
      | none=>none
      | some F=>match F.body with
        | none=>none
        | some c=>if args.length<=F.ntmps then match initTk (E.tk f) args 0 with
          | some (ys,os,n)=>if (E.rs f).io=(E.lv f).headD 0&&decide ((E.rs f).io<=n) then run E (den E k) (E.lv f) k c { nt:=F.ntmps,nx:=n,sl:=initSl 0 ys,ob:=putAll os [] } (C1 E (E.rs f) F) else none
          | none=>none
          else none
def loops:Code->List Code
 | .seq a b=>loops a++loops b
 | .cond _ a b=>loops a++loops b
 | .block _ a=>loops a
 | .loop c=>c::loops c
 | _=>[]
def nthLoop (F:Func) (n:Nat):Code:=match F.body with
 | some c=>(loops c).getD n .skip
 | none=> .skip
end Go.V
namespace Go.V
open Go.RowKit (Below)
def All2 {α β:Type} (R:α->β->Prop):List α->List β->Prop
 | [],[]=>True
 | a::r,b::s=>R a b/\All2 R r s
 | _,_=>False
def rowT {α:Type} (w:World) (ok:Nat->Prop) (n:Nat) (R:α->List Value->Prop) (xs:List α) (u:Value):Prop:=
 ∃A c,u= .slice A xs.length c/\xs.length<=c/\c<=maxLen/\
  (0<xs.length->∃ad,A=some ad/\ok ad.block/\ad.block<w.heap.size/\∀(j:Nat) (x:α),xs[j]? =some x->∃vs,R x vs/\∀(i:Nat) (v:Value),vs[i]? =some v->w.cell? (ad.add (j*n+i))=some v)
mutual
def repT (w:World) (ok:Nat->Prop):(sh:Sh)->Ty sh->List Value->Prop
 | .b,x,us=>us=[.bool x]
 | .i k,x,us=>us=[.int k x]
 | .s,x,us=>us=[.string x]
 | .l _ sh,xs,us=>∃u,us=[u]/\rowT w ok sh.n (repT w ok sh) xs u
 | .a fs,x,us=>repTL w ok fs x us
def repTL (w:World) (ok:Nat->Prop):(fs:List Sh)->TyL fs->List Value->Prop
 | [],_,us=>us=[]
 | [f],x,us=>repT w ok f x us
 | f::g::r,x,us=>∃vs ws,us=vs++ws/\repT w ok f x.1 vs/\repTL w ok (g::r) x.2 ws
end
mutual
def rep (w:World) (ok:Nat->Prop):C->Value->Prop
 | .v x,u=>u=x/\x.oneCell'=true
 | .l _ sh xs,u=>rowT w ok sh.n (repT w ok sh) xs u
 | .emp,u=>∃A,u= .slice A 0 0
 | .at_ cs,u=>∃ad us,u= .pointer (some ad)/\repL w ok cs us/\(cs≠[]->ok ad.block/\ad.block<w.heap.size)/\∀(i:Nat) (x:Value),us[i]? =some x->w.cell? (ad.add i)=some x
 | .clo g cs,u=>∃us,u= .func (.func g) #[] us.toArray/\repL w ok cs us
 | .ref _,_ | .ptr _ _,_ | .el _ _ _ _,_ | .sub _ _ _ _,_=>False
def repL (w:World) (ok:Nat->Prop):List C->List Value->Prop
 | [],us=>us=[]
 | c::cs,us=>∃u vs,us=u::vs/\rep w ok c u/\repL w ok cs vs
end
def rowO {α:Type} (n:Nat) (R:α->List Value->List Nat->Prop):List α->List Value->List Nat->Prop
 | [],_,L=>L=[]
 | x::xs,us,L=>∃L1 L2,L=L1++L2/\R x (us.take n) L1/\rowO n R xs (us.drop n) L2
def ownRow {α:Type} (w:World) (e n:Nat) (R:α->List Value->List Nat->Prop) (xs:List α) (u:Value) (L:List Nat):Prop:=
 (xs=[]/\L=[]/\∃A,u= .slice A 0 0)\/
 ∃g off cap cur L',u= .slice (some ⟨g,off,none⟩) xs.length cap/\w.heap[g]? =some (.cells cur e (0,0))/\xs.length<=cap/\cap<=maxLen/\cur.size=off+cap*n/\L=g::L'/\rowO n R xs (cur.toList.drop off) L'
mutual
def ownT (w:World):(sh:Sh)->Ty sh->List Value->List Nat->Prop
 | .b,x,us,L=>us=[.bool x]/\L=[]
 | .i k,x,us,L=>us=[.int k x]/\L=[]
 | .s,x,us,L=>us=[.string x]/\L=[]
 | .l e sh,xs,us,L=>∃u,us=[u]/\ownRow w e sh.n (ownT w sh) xs u L
 | .a fs,x,us,L=>ownTL w fs x us L
def ownTL (w:World):(fs:List Sh)->TyL fs->List Value->List Nat->Prop
 | [],_,us,L=>us=[]/\L=[]
 | [f],x,us,L=>ownT w f x us L
 | f::g::r,x,us,L=>∃vs ws L1 L2,us=vs++ws/\L=L1++L2/\ownT w f x.1 vs L1/\ownTL w (g::r) x.2 ws L2
end
theorem lt_of_same {w w1:World} {k:Nat} (h:w1.heap[k]? =w.heap[k]?) (hk:k<w.heap.size):k<w1.heap.size:=by
 rw [Array.getElem?_eq_getElem hk] at h
 exact (bZ.1 h).1
theorem block_add (a:Addr) (n:Nat):(a.add n).block=a.block:=by unfold Addr.add;split<;>rfl
theorem rowT_imp {α:Type} {w w':World} {ok ok':Nat->Prop} {n:Nat} {R R':α->List Value->Prop} {xs:List α} {u:Value} (h:rowT w ok n R xs u) (hR:∀x vs,R x vs->R' x vs)
 (hw:∀k,ok k->k<w.heap.size->ok' k/\w'.heap[k]? =w.heap[k]?):rowT w' ok' n R' xs u:=by
 obtain ⟨A,c,rfl,h1,h2,h3⟩:=h;refine ⟨A,c,rfl,h1,h2,fun hp=> ?_⟩
 obtain ⟨ad,rfl,h0,hlt,h4⟩:=h3 hp;refine ⟨ad,rfl,(hw _ h0 hlt).1,lt_of_same (hw _ h0 hlt).2 hlt,fun j x hx=> ?_⟩
 obtain ⟨vs,h5,h6⟩:=h4 j x hx;refine ⟨vs,hR _ _ h5,fun i v hv=>(World.cell?_of_block ?_).trans (h6 i v hv)⟩
 rw [block_add];exact (hw _ h0 hlt).2
mutual
theorem repT_len {w:World} {ok:Nat->Prop}:(sh:Sh)->(x:Ty sh)->(us:List Value)->repT w ok sh x us->us.length=sh.n
 | .b,x,us,h=>by simp only [repT] at h;simp [h,Sh.n]
 | .i k,x,us,h=>by simp only [repT] at h;simp [h,Sh.n]
 | .s,x,us,h=>by simp only [repT] at h;simp [h,Sh.n]
 | .l e sh,xs,us,h=>by simp only [repT] at h;obtain ⟨u,rfl,_⟩:=h;simp [Sh.n]
 | .a fs,x,us,h=>by simp only [repT] at h;simp only [Sh.n];exact repTL_len fs x us h
theorem repTL_len {w:World} {ok:Nat->Prop}:(fs:List Sh)->(x:TyL fs)->(us:List Value)->repTL w ok fs x us->us.length=Sh.nL fs
  | [],_,us,h=>by simp only [repTL] at h;simp [h,Sh.nL]
  | [f],x,us,h=>by simp only [repTL] at h;simp only [Sh.nL,Nat.add_zero];exact repT_len f x us h
  | f::g::r,x,us,h=>by
    simp only [repTL] at h;obtain ⟨vs,ws,rfl,h1,h2⟩:=h;have e1:=repT_len f _ _ h1;have e2:=repTL_len (g::r) _ _ h2;rw [List.length_append,e1,e2];simp [Sh.nL]
end
section
variable {w w':World} {ok ok':Nat->Prop} (hw:∀k,ok k->k<w.heap.size->ok' k/\w'.heap[k]? =w.heap[k]?)
mutual
theorem repT_step (hw:∀k,ok k->k<w.heap.size->ok' k/\w'.heap[k]? =w.heap[k]?):(sh:Sh)->(x:Ty sh)->(us:List Value)->repT w ok sh x us->repT w' ok' sh x us
  | .b,x,us,h=>by simp only [repT] at h ⊢;exact h
  | .i k,x,us,h=>by simp only [repT] at h ⊢;exact h
  | .s,x,us,h=>by simp only [repT] at h ⊢;exact h
  | .l e sh,xs,us,h=>by
    simp only [repT] at h ⊢;obtain ⟨u,rfl,h⟩:=h;exact ⟨u,rfl,rowT_imp h (fun x vs hx=>repT_step hw sh x vs hx) hw⟩
  | .a fs,x,us,h=>by simp only [repT] at h ⊢;exact repTL_step hw fs x us h
theorem repTL_step (hw:∀k,ok k->k<w.heap.size->ok' k/\w'.heap[k]? =w.heap[k]?):(fs:List Sh)->(x:TyL fs)->(us:List Value)->repTL w ok fs x us->repTL w' ok' fs x us
  | [],_,us,h=>by simp only [repTL] at h ⊢;exact h
  | [f],x,us,h=>by simp only [repTL] at h ⊢;exact repT_step hw f x us h
  | f::g::r,x,us,h=>by
    simp only [repTL] at h ⊢;obtain ⟨vs,ws,rfl,h1,h2⟩:=h;exact ⟨vs,ws,rfl,repT_step hw f _ _ h1,repTL_step hw (g::r) _ _ h2⟩
end
mutual
theorem rep_step (hw:∀k,ok k->k<w.heap.size->ok' k/\w'.heap[k]? =w.heap[k]?):(c:C)->(u:Value)->rep w ok c u->rep w' ok' c u
  | .v x,u,h=>by simp only [rep] at h ⊢;exact h
  | .l _ sh xs,u,h=>by simp only [rep] at h ⊢;exact rowT_imp h (fun x vs hx=>repT_step hw sh x vs hx) hw
  | .emp,u,h=>by simp only [rep] at h ⊢;exact h
  | .at_ cs,u,h=>by
    simp only [rep] at h ⊢;obtain ⟨ad,us,rfl,h1,h0,h2⟩:=h;refine ⟨ad,us,rfl,repL_step hw cs us h1,fun hne=>⟨(hw _ (h0 hne).1 (h0 hne).2).1,lt_of_same (hw _ (h0 hne).1 (h0 hne).2).2 (h0 hne).2⟩,fun i x hx=>(World.cell?_of_block ?_).trans (h2 i x hx)⟩
    have hne:cs≠[]:=by
      rintro rfl
      simp only [repL] at h1;subst h1;simp at hx
    rw [block_add];exact (hw _ (h0 hne).1 (h0 hne).2).2
  | .clo g cs,u,h=>by
    simp only [rep] at h ⊢;obtain ⟨us,rfl,h1⟩:=h;exact ⟨us,rfl,repL_step hw cs us h1⟩
  | .ref _,_,h=>by simp only [rep] at h
  | .ptr _ _,_,h=>by simp only [rep] at h
  | .el _ _ _ _,_,h=>by simp only [rep] at h
  | .sub _ _ _ _,_,h=>by simp only [rep] at h
theorem repL_step (hw:∀k,ok k->k<w.heap.size->ok' k/\w'.heap[k]? =w.heap[k]?):(cs:List C)->(us:List Value)->repL w ok cs us->repL w' ok' cs us
  | [],us,h=>by simp only [repL] at h ⊢;exact h
  | c::cs,us,h=>by
    simp only [repL] at h ⊢;obtain ⟨u,vs,rfl,h1,h2⟩:=h;exact ⟨u,vs,rfl,rep_step hw c u h1,repL_step hw cs vs h2⟩
end
end
theorem repL_append {w:World} {ok:Nat->Prop} {cs ds:List C} {us vs:List Value} (h1:repL w ok cs us) (h2:repL w ok ds vs):repL w ok (cs++ds) (us++vs):=by
  induction cs generalizing us with
  | nil=>simp only [repL] at h1;subst h1;simpa using h2
  | cons c cs ih=>
    simp only [repL] at h1;obtain ⟨u,ws,rfl,h3,h4⟩:=h1;simp only [List.cons_append,repL];exact ⟨u,ws++vs,rfl,h3,ih h4⟩
theorem repL_len {w:World} {ok:Nat->Prop} {cs:List C} {us:List Value} (h:repL w ok cs us):us.length=cs.length:=by
  induction cs generalizing us with
  | nil=>simp only [repL] at h;simp [h]
  | cons c cs ih=>
    simp only [repL] at h;obtain ⟨u,ws,rfl,h3,h4⟩:=h;simp [ih h4]
theorem repL_drop {w:World} {ok:Nat->Prop} {cs:List C} {us:List Value} (n:Nat) (h:repL w ok cs us):repL w ok (cs.drop n) (us.drop n):=by
  induction n generalizing cs us with
  | zero=>simpa using h
  | succ n ih=>
    cases cs with
    | nil=>simp only [repL] at h;subst h;simp [repL]
    | cons c cs=>
      simp only [repL] at h;obtain ⟨u,ws,rfl,h3,h4⟩:=h;simpa using ih h4
theorem repL_take {w:World} {ok:Nat->Prop} {cs:List C} {us:List Value} (n:Nat) (h:repL w ok cs us):repL w ok (cs.take n) (us.take n):=by
  induction n generalizing cs us with
  | zero=>simp [repL]
  | succ n ih=>
    cases cs with
    | nil=>simp only [repL] at h;subst h;simp [repL]
    | cons c cs=>
      simp only [repL] at h;obtain ⟨u,ws,rfl,h3,h4⟩:=h;simp only [List.take_succ_cons,repL];exact ⟨u,_,rfl,h3,ih h4⟩
mutual
theorem rep_avs {w:World} {ok:Nat->Prop}:(sh:Sh)->(x:Ty sh)->(us:List Value)->repT w ok sh x us->repL w ok (avs sh x) us
 | .b,x,us,h=>by simp only [repT] at h;subst h;simp only [avs,repL,rep];exact ⟨_,_,rfl,⟨rfl,rfl⟩,rfl⟩
 | .i k,x,us,h=>by simp only [repT] at h;subst h;simp only [avs,repL,rep];exact ⟨_,_,rfl,⟨rfl,rfl⟩,rfl⟩
 | .s,x,us,h=>by simp only [repT] at h;subst h;simp only [avs,repL,rep];exact ⟨_,_,rfl,⟨rfl,rfl⟩,rfl⟩
 | .l e sh,xs,us,h=>by simp only [repT] at h;obtain ⟨u,rfl,h⟩:=h;simp only [avs,repL,rep];exact ⟨_,_,rfl,h,rfl⟩
 | .a fs,x,us,h=>by simp only [repT] at h;simp only [avs];exact rep_avsL fs x us h
theorem rep_avsL {w:World} {ok:Nat->Prop}:(fs:List Sh)->(x:TyL fs)->(us:List Value)->repTL w ok fs x us->repL w ok (avsL fs x) us
  | [],_,us,h=>by simp only [repTL] at h;subst h;simp [avsL,repL]
  | [f],x,us,h=>by simp only [repTL] at h;simp only [avsL];exact rep_avs f x us h
  | f::g::r,x,us,h=>by
    simp only [repTL] at h;obtain ⟨vs,ws,rfl,h1,h2⟩:=h;simp only [avsL];exact repL_append (rep_avs f _ _ h1) (rep_avsL (g::r) _ _ h2)
end
theorem rowO_imp {α:Type} {n:Nat} {R R':α->List Value->List Nat->Prop} {xs:List α} {us:List Value} {L:List Nat} (h:rowO n R xs us L)
    (hR:∀x vs L1,(∀b ∈ L1,b ∈ L)->R x vs L1->R' x vs L1):rowO n R' xs us L:=by
  induction xs generalizing us L with
  | nil=>exact h
  | cons x xs ih=>
    obtain ⟨L1,L2,rfl,h1,h2⟩:=h;exact ⟨L1,L2,rfl,hR _ _ _ (fun b hb=>gZ _ hb) h1,ih h2 fun y vs L3 h3=>hR y vs L3 fun b hb=>eZ _ (h3 b hb)⟩
def KeptL (L:List Nat) (w w':World):Prop:=∀b ∈ L,w'.heap[b]? =w.heap[b]?
theorem ownRow_world {α:Type} {w w':World} {e n:Nat} {R R':α->List Value->List Nat->Prop} {xs:List α} {u:Value} {L:List Nat} (hw:KeptL L w w')
 (hR:∀x vs L1,(∀b ∈ L1,b ∈ L)->R x vs L1->R' x vs L1) (h:ownRow w e n R xs u L):ownRow w' e n R' xs u L:=by
 rcases h with h | ⟨g,off,cap,cur,L',rfl,h1,h2,h3,h4,rfl,h5⟩
 · exact .inl h
 · refine .inr ⟨g,off,cap,cur,L',rfl,(hw g (by simp)).trans h1,h2,h3,h4,rfl,rowO_imp h5 fun x vs L1 h6=>hR x vs L1 fun b hb=>fZ _ (h6 b hb)⟩
mutual
theorem ownT_world {w w':World}:(sh:Sh)->(x:Ty sh)->(us:List Value)->(L:List Nat)->KeptL L w w'->ownT w sh x us L->ownT w' sh x us L
  | .b,x,us,L,hw,h=>by simp only [ownT] at h ⊢;exact h
  | .i k,x,us,L,hw,h=>by simp only [ownT] at h ⊢;exact h
  | .s,x,us,L,hw,h=>by simp only [ownT] at h ⊢;exact h
  | .l e sh,xs,us,L,hw,h=>by
    simp only [ownT] at h ⊢;obtain ⟨u,rfl,h⟩:=h;exact ⟨u,rfl,ownRow_world hw (fun x vs L1 h1 h2=>ownT_world sh x vs L1 (fun b hb=>hw b (h1 b hb)) h2) h⟩
  | .a fs,x,us,L,hw,h=>by simp only [ownT] at h ⊢;exact ownTL_world fs x us L hw h
theorem ownTL_world {w w':World}:(fs:List Sh)->(x:TyL fs)->(us:List Value)->(L:List Nat)->KeptL L w w'->ownTL w fs x us L->ownTL w' fs x us L
  | [],_,us,L,hw,h=>by simp only [ownTL] at h ⊢;exact h
  | [f],x,us,L,hw,h=>by simp only [ownTL] at h ⊢;exact ownT_world f x us L hw h
  | f::g::r,x,us,L,hw,h=>by
    simp only [ownTL] at h ⊢;obtain ⟨vs,ws,L1,L2,rfl,rfl,h1,h2⟩:=h;exact ⟨vs,ws,L1,L2,rfl,rfl,ownT_world f _ _ _ (fun b hb=>hw b (gZ _ hb)) h1,ownTL_world (g::r) _ _ _ (fun b hb=>hw b (eZ _ hb)) h2⟩
end
theorem rowO_at {α:Type} {n:Nat} {R:α->List Value->List Nat->Prop} {xs:List α} {us:List Value} {L:List Nat} (h:rowO n R xs us L) (j:Nat) (x:α) (hx:xs[j]? =some x):
    ∃L1,(∀b ∈ L1,b ∈ L)/\R x ((us.drop (j*n)).take n) L1:=by
  induction xs generalizing us L j with
  | nil=>simp at hx
  | cons y ys ih=>
    obtain ⟨L1,L2,rfl,h1,h2⟩:=h;cases j with
    | zero=>
      simp only [List.getElem?_cons_zero,nZ] at hx
      subst hx;exact ⟨L1,fun b hb=>gZ _ hb,by simpa using h1⟩
    | succ j=>
      obtain ⟨L3,h3,h4⟩:=ih h2 j (by simpa using hx)
      refine ⟨L3,fun b hb=>eZ _ (h3 b hb),?_⟩
      rw [List.drop_drop] at h4;rw [show (j+1)*n=n+j*n by rw [Nat.add_mul,Nat.one_mul,Nat.add_comm]]
      exact h4
theorem ownRow_reads {α:Type} {w:World} {ok:Nat->Prop} {e n:Nat} {R:α->List Value->List Nat->Prop} {R':α->List Value->Prop} {xs:List α} {u:Value} {L:List Nat}
 (hR:∀x vs L1,(∀b ∈ L1,b ∈ L)->R x vs L1->R' x vs) (hL:∀b ∈ L,ok b) (h:ownRow w e n R xs u L):rowT w ok n R' xs u:=by
 rcases h with ⟨rfl,rfl,A,rfl⟩ | ⟨g,off,cap,cur,L',rfl,h1,h2,h3,h4,rfl,h5⟩
 · exact ⟨A,0,rfl,by simp,by simp,fun h=>by simp at h⟩
 · refine ⟨_,cap,rfl,h2,h3,fun _=>⟨_,rfl,hL g (by simp),(bZ.1 h1).1,fun j x hx=> ?_⟩⟩
   obtain ⟨L1,h7,h6⟩:=rowO_at h5 j x hx;refine ⟨_,hR _ _ _ (fun b hb=>fZ _ (h7 b hb)) h6,fun i v hv=> ?_⟩
   rw [lZ] at hv
   split at hv;rotate_left;cases hv
   rw [mZ,mZ] at hv
   have hadd:(⟨g,off,none⟩:Addr).add (j*n+i)=⟨g,off+(j*n+i),none⟩:=by unfold Addr.add;split<;>simp_all
   rw [hadd,cell_of_row w g _ cur e (0,0) h1];simpa using hv
mutual
theorem ownT_reads {w:World} {ok:Nat->Prop}:(sh:Sh)->(x:Ty sh)->(us:List Value)->(L:List Nat)->(∀b ∈ L,ok b)->ownT w sh x us L->repT w ok sh x us
  | .b,x,us,L,hL,h=>by simp only [ownT] at h;simp only [repT];exact h.1
  | .i k,x,us,L,hL,h=>by simp only [ownT] at h;simp only [repT];exact h.1
  | .s,x,us,L,hL,h=>by simp only [ownT] at h;simp only [repT];exact h.1
  | .l e sh,xs,us,L,hL,h=>by
    simp only [ownT] at h;obtain ⟨u,rfl,h⟩:=h;simp only [repT];exact ⟨u,rfl,ownRow_reads (fun x vs L1 h2 h1=>ownT_reads sh x vs L1 (fun b hb=>hL b (h2 b hb)) h1) hL h⟩
  | .a fs,x,us,L,hL,h=>by simp only [ownT] at h;simp only [repT];exact ownTL_reads fs x us L hL h
theorem ownTL_reads {w:World} {ok:Nat->Prop}:(fs:List Sh)->(x:TyL fs)->(us:List Value)->(L:List Nat)->(∀b ∈ L,ok b)->ownTL w fs x us L->repTL w ok fs x us
  | [],_,us,L,hL,h=>by simp only [ownTL] at h;simp only [repTL];exact h.1
  | [f],x,us,L,hL,h=>by simp only [ownTL] at h;simp only [repTL];exact ownT_reads f x us L hL h
  | f::g::r,x,us,L,hL,h=>by
    simp only [ownTL] at h;obtain ⟨vs,ws,L1,L2,rfl,rfl,h1,h2⟩:=h;simp only [repTL];exact ⟨vs,ws,rfl,ownT_reads f _ _ _ (fun b hb=>hL b (gZ _ hb)) h1,ownTL_reads (g::r) _ _ _ (fun b hb=>hL b (eZ _ hb)) h2⟩
end
end Go.V
namespace Go.V
open Go.RowKit (Below)
def kview:TypeDesc->Option TyK
 | .slice e=>some (.slc e)
 | .struct fs=>some (.agg (fs.toList.map fun f=>(f.offset,f.type)))
 | .array _ _=>none
 | _=>some .one
def shview:TypeDesc->Option Sh
 | .int k=>some (.i k)
 | .string=>some .s
 | .bool=>some .b
 | _=>none
def tyView (P:Program) (t:Nat):Option (Nat×Nat×List Value×TyK×Option Sh):=
  match P.info? t,P.underlying t with
  | some i,some d=>match i.zero,kview d with
    | some z,some k=>some (i.size,i.bytes,z.cells.toList,k,shview d)
    | _,_=>none
  | _,_=>none
def Sh.base:Sh->Option Sh
 | .i k=>some (.i k)
 | .s=>some .s
 | .b=>some .b
 | _=>none
def TyI.view (i:TyI):Nat×Nat×List Value×TyK×Option Sh:=(i.sz,i.by_,i.zero,i.k,i.sh.base)
def TyI.fits (i:TyI):Bool:=i.sh.n==i.sz&&i.zero.length==i.sz&&i.zero.all Value.oneCell'&&(i.sh.agg==i.isAgg)&&decide (0<i.sz)&&decide (0<i.by_)
structure TyOk (P:Program) (t:Nat) (i:TyI):Prop where
 view:tyView P t=some i.view
 fits:i.fits=true
section
variable {P:Program} {t:Nat} {i:TyI}
theorem TyOk.parts (h:TyOk P t i):∃(inf:TypeInfo) (d:TypeDesc) (z:Value),P.info? t=some inf/\P.underlying t=some d/\inf.zero=some z/\inf.size=i.sz/\inf.bytes=i.by_/\z.cells.toList=i.zero/\kview d=some i.k/\shview d=i.sh.base:=by
 have hv:=h.view;unfold tyView TyI.view at hv;split at hv;rotate_left;cases hv
 rename_i inf d h1 h2;split at hv;rotate_left;cases hv
 rename_i z k h3 h4;simp only [nZ,Prod.mk.injEq] at hv;obtain ⟨a,b,c,e,f⟩:=hv;exact ⟨inf,d,z,h1,h2,h3,a,b,c,by rw [h4,e],f⟩
theorem TyOk.n (h:TyOk P t i):i.sh.n=i.sz:=by have:=h.fits;simp [TyI.fits] at this;omega
theorem TyOk.zlen (h:TyOk P t i):i.zero.length=i.sz:=by have:=h.fits;simp [TyI.fits] at this;omega
theorem TyOk.zone (h:TyOk P t i):∀u ∈ i.zero,u.oneCell'=true:=by have:=h.fits;simp [TyI.fits] at this;exact this.1.1.1.2
theorem TyOk.agg (h:TyOk P t i):i.sh.agg=i.isAgg:=by have:=h.fits;simp [TyI.fits] at this;exact this.1.1.2
theorem TyOk.pos (h:TyOk P t i):0<i.sz:=by have:=h.fits;simp [TyI.fits] at this;omega
theorem TyOk.bpos (h:TyOk P t i):0<i.by_:=by have:=h.fits;simp [TyI.fits] at this;omega
theorem TyOk.run_sizeOf (h:TyOk P t i) (w:World):(sizeOf t).run P w= .ok i.sz w:=by
 obtain ⟨inf,d,z,h1,h2,h3,h4,_⟩:=h.parts;simp [sizeOf,typeInfo,h1,h4]
theorem TyOk.run_isAgg (h:TyOk P t i) (w:World):(isAgg t).run P w= .ok i.isAgg w:=by
 obtain ⟨inf,d,z,h1,h2,h3,h4,_,_,h5,_⟩:=h.parts;unfold isAgg;rw [aY,run_underlying h2 w];cases d<;>simp [kview] at h5<;>simp [TyI.isAgg,<-h5]
theorem TyOk.run_zero (h:TyOk P t i) (w:World):∃z,z.cells.toList=i.zero/\(zeroValue t).run P w= .ok z w:=by
 obtain ⟨inf,d,z,h1,h2,h3,h4,_,h6,_⟩:=h.parts;exact ⟨z,h6,by simp [zeroValue,typeInfo,h1,h3]⟩
theorem TyOk.slc (h:TyOk P t i) {e:Nat} (hk:i.k= .slc e):P.underlying t=some (.slice e):=by
 obtain ⟨inf,d,z,h1,h2,h3,h4,_,_,h5,_⟩:=h.parts;rw [hk] at h5;cases d<;>simp [kview] at h5
 subst h5;exact h2
theorem TyOk.struct (h:TyOk P t i) {fs:List (Nat×Nat)} (hk:i.k= .agg fs):∃fields,P.underlying t=some (.struct fields)/\fields.toList.map (fun f=>(f.offset,f.type))=fs:=by
 obtain ⟨inf,d,z,h1,h2,h3,h4,_,_,h5,_⟩:=h.parts;rw [hk] at h5;cases d<;>simp [kview] at h5
 exact ⟨_,h2,by simpa using h5⟩
theorem TyOk.int (h:TyOk P t i) {k:IntKind} (hk:i.sh= .i k):P.underlying t=some (.int k):=by
 obtain ⟨inf,d,z,h1,h2,h3,h4,_,_,_,h5⟩:=h.parts;rw [hk] at h5;cases d<;>simp [shview,Sh.base] at h5
 subst h5;exact h2
theorem TyOk.bool (h:TyOk P t i) (hk:i.sh= .b):P.underlying t=some .bool:=by
 obtain ⟨inf,d,z,h1,h2,h3,h4,_,_,_,h5⟩:=h.parts;rw [hk] at h5;cases d<;>simp [shview,Sh.base] at h5
 exact h2
theorem TyOk.str (h:TyOk P t i) (hk:i.sh= .s):P.underlying t=some .string:=by
 obtain ⟨inf,d,z,h1,h2,h3,h4,_,_,_,h5⟩:=h.parts;rw [hk] at h5;cases d<;>simp [shview,Sh.base] at h5
 exact h2
end
structure EnvOk (E:Env):Prop where
 ty:∀t i,E.ty t=some i->TyOk E.P t i
 fn:∀f F,E.fn f=some F->E.P.funcs[f]? =some F
 body : ∀ f F, E.fn f = some F -> F.name ≠ "runtime.NumGoroutine"
 mixed:E.P.follows .mixedOrders=true
def VC (w:World) (ok:Nat->Prop) (β:Nat->Value):C->Value->Prop
 | .ref h,u=>u=β h/\∃A n c,u= .slice A n c
 | .ptr h o,u=>∃b,β h= .pointer (some ⟨b,0,none⟩)/\u= .pointer (some ⟨b,o,none⟩)
 | .el h sz i j,u=>∃g off n c,β h= .slice (some ⟨g,off,none⟩) n c/\u= .pointer (some ⟨g,off+(i*sz+j),none⟩)
 | .sub h sz lo hi,u=>∃A n c,β h= .slice A n c/\lo<=hi/\hi<=n/\n<=c/\u= .slice (if c=lo then A else A.map (·.add (lo*sz))) (hi-lo) (c-lo)
 | .v x,u=>rep w ok (.v x) u
 | .l e sh xs,u=>rep w ok (.l e sh xs) u
 | .emp,u=>rep w ok .emp u
 | .at_ cs,u=>rep w ok (.at_ cs) u
 | .clo g cs,u=>rep w ok (.clo g cs) u
def C.lt (n:Nat) (c:C):Prop:=∀h ∈ c.hs,h<n
def AV.lt (n:Nat) (v:AV):Prop:=match v with
 | .c x=>x.lt n
 | .agg cs=>∀c ∈ cs,C.lt n c
 | .tup xs=>∀p ∈ xs,∀c ∈ p.2,C.lt n c
def Ob.lt (n:Nat):Ob->Prop
 | .var cs=>∀c ∈ cs,C.lt n c
 | .arr _ _ _=>True
 | .opn _ _ _ _ cs=>∀c ∈ cs,C.lt n c
theorem rep_one {w:World} {ok:Nat->Prop}:(c:C)->(u:Value)->rep w ok c u->u.oneCell'=true
 | .v x,u,h=>by simp only [rep] at h;rw [h.1];exact h.2
 | .l _ sh xs,u,h=>by simp only [rep] at h;obtain ⟨A,c,rfl,_⟩:=h;rfl
 | .emp,u,h=>by simp only [rep] at h;obtain ⟨A,rfl⟩:=h;rfl
 | .at_ cs,u,h=>by simp only [rep] at h;obtain ⟨ad,us,rfl,_⟩:=h;rfl
 | .clo g cs,u,h=>by simp only [rep] at h;obtain ⟨us,rfl,_⟩:=h;rfl
 | .ref _,_,h=>by simp only [rep] at h
 | .ptr _ _,_,h=>by simp only [rep] at h
 | .el _ _ _ _,_,h=>by simp only [rep] at h
 | .sub _ _ _ _,_,h=>by simp only [rep] at h
theorem VC.one {w:World} {ok:Nat->Prop} {β:Nat->Value} {c:C} {u:Value} (h:VC w ok β c u):u.oneCell'=true:=by
 cases c<;>simp only [VC] at h
 case ref=>obtain ⟨_,A,n,c,rfl⟩:=h;rfl
 case ptr=>obtain ⟨b,_,rfl⟩:=h;rfl
 case el=>obtain ⟨g,off,n,c,_,rfl⟩:=h;rfl
 case sub=>obtain ⟨A,n,c,_,_,_,_,rfl⟩:=h;rfl
 all_goals exact rep_one _ _ h
theorem VC.step {w w1:World} {ok ok':Nat->Prop} {β β':Nat->Value} {c:C} {u:Value} (h:VC w ok β c u) (hw:∀k,ok k->k<w.heap.size->ok' k/\w1.heap[k]? =w.heap[k]?)
 (hβ:∀h ∈ c.hs,β' h=β h):VC w1 ok' β' c u:=by
 cases c<;>simp only [VC,C.hs,kZ,forall_eq] at h hβ ⊢
 case ref=>rw [hβ];exact h
 case ptr=>rw [hβ];exact h
 case el=>rw [hβ];exact h
 case sub=>rw [hβ];exact h
 all_goals exact rep_step hw _ _ h
theorem VC.of_rep {w:World} {ok:Nat->Prop} {β:Nat->Value} {c:C} {u:Value} (h:rep w ok c u):VC w ok β c u:=by
 cases c<;>simp only [VC]
 case ref=>simp only [rep] at h
 case ptr=>simp only [rep] at h
 case el=>simp only [rep] at h
 case sub=>simp only [rep] at h
 all_goals exact h
theorem All2.imp {α β:Type} {R R':α->β->Prop} {xs:List α} {ys:List β} (h:All2 R xs ys) (hR:∀x ∈ xs,∀y,R x y->R' x y):All2 R' xs ys:=by
  induction xs generalizing ys with
  | nil=>cases ys<;>simp_all [All2]
  | cons x xs ih=>
    cases ys with
    | nil=>simp [All2] at h
    | cons y ys=>
      simp only [All2] at h ⊢;exact ⟨hR x (by simp) y h.1,ih h.2 fun z hz=>hR z (by simp [hz])⟩
theorem All2.len {α β:Type} {R:α->β->Prop} {xs:List α} {ys:List β} (h:All2 R xs ys):xs.length=ys.length:=by
  induction xs generalizing ys with
  | nil=>cases ys<;>simp_all [All2]
  | cons x xs ih=>cases ys with
    | nil=>simp [All2] at h
    | cons y ys=>simp [ih h.2]
theorem All2.take {α β:Type} {R:α->β->Prop} {xs:List α} {ys:List β} (h:All2 R xs ys) (n:Nat):All2 R (xs.take n) (ys.take n):=by
 induction n generalizing xs ys with
 | zero=>simp [All2]
 | succ n ih=>cases xs<;>cases ys<;>simp_all [All2]
theorem All2.drop {α β:Type} {R:α->β->Prop} {xs:List α} {ys:List β} (h:All2 R xs ys) (n:Nat):All2 R (xs.drop n) (ys.drop n):=by
 induction n generalizing xs ys with
 | zero=>simpa using h
 | succ n ih=>cases xs<;>cases ys<;>simp_all [All2]
theorem All2.append {α β:Type} {R:α->β->Prop} {xs xs':List α} {ys ys':List β} (h:All2 R xs ys) (h':All2 R xs' ys'):All2 R (xs++xs') (ys++ys'):=by
  induction xs generalizing ys with
  | nil=>cases ys<;>simp_all [All2]
  | cons x xs ih=>cases ys with
    | nil=>simp [All2] at h
    | cons y ys=>simp only [List.cons_append,All2] at h ⊢;exact ⟨h.1,ih h.2⟩
theorem All2.at {α β:Type} {R:α->β->Prop} {xs:List α} {ys:List β} (h:All2 R xs ys) (i:Nat) (x:α) (hx:xs[i]? =some x):∃y,ys[i]? =some y/\R x y:=by
  induction xs generalizing ys i with
  | nil=>simp at hx
  | cons z xs ih=>cases ys with
    | nil=>simp [All2] at h
    | cons y ys=>
      cases i with
      | zero=>simp at hx;subst hx;exact ⟨y,by simp,h.1⟩
      | succ i=>simpa using ih h.2 i (by simpa using hx)
theorem All2.of_repL {w:World} {ok:Nat->Prop} {β:Nat->Value} {cs:List C} {us:List Value} (h:repL w ok cs us):All2 (VC w ok β) cs us:=by
  induction cs generalizing us with
  | nil=>simp only [repL] at h;subst h;simp [All2]
  | cons c cs ih=>
    simp only [repL] at h;obtain ⟨u,vs,rfl,h1,h2⟩:=h;exact ⟨VC.of_rep h1,ih h2⟩
def VP (w:World) (ok:Nat->Prop) (β:Nat->Value) (b:Bool) (cs:List C) (u:Value):Prop:=
 if b then ∃us,u= .agg us.toArray/\All2 (VC w ok β) cs us else ∃c,cs=[c]/\VC w ok β c u
def VA (w:World) (ok:Nat->Prop) (β:Nat->Value):AV->Value->Prop
 | .c x,u=>VC w ok β x u
 | .agg cs,u=>∃us,u= .agg us.toArray/\All2 (VC w ok β) cs us
 | .tup xs,u=>∃us,u= .tuple us.toArray/\All2 (fun p u=>VP w ok β p.1 p.2 u) xs us
theorem VP.step {w w1:World} {ok ok':Nat->Prop} {β β':Nat->Value} {b:Bool} {cs:List C} {u:Value} (h:VP w ok β b cs u) (hw:∀k,ok k->k<w.heap.size->ok' k/\w1.heap[k]? =w.heap[k]?)
 (hβ:∀c ∈ cs,∀h ∈ c.hs,β' h=β h):VP w1 ok' β' b cs u:=by
 unfold VP at*;split
 · rename_i hb;rw [dY hb] at h;obtain ⟨us,rfl,h⟩:=h;exact ⟨us,rfl,h.imp fun c hc u hu=>hu.step hw (hβ c hc)⟩
 · rename_i hb;rw [eY hb] at h;obtain ⟨c,rfl,h⟩:=h;exact ⟨c,rfl,h.step hw (hβ c (by simp))⟩
theorem VA.step {w w1:World} {ok ok':Nat->Prop} {β β':Nat->Value} {v:AV} {u:Value} {n:Nat} (h:VA w ok β v u) (hn:v.lt n) (hw:∀k,ok k->k<w.heap.size->ok' k/\w1.heap[k]? =w.heap[k]?)
    (hβ:∀h,h<n->β' h=β h):VA w1 ok' β' v u:=by
  cases v with
  | c x=>exact VC.step h hw fun h hh=>hβ h (hn h hh)
  | agg cs=>
    obtain ⟨us,rfl,h⟩:=h;exact ⟨us,rfl,h.imp fun c hc u hu=>hu.step hw fun h hh=>hβ h (hn c hc h hh)⟩
  | tup xs=>
    obtain ⟨us,rfl,h⟩:=h;exact ⟨us,rfl,h.imp fun p hp u hu=>VP.step hu hw fun c hc h hh=>hβ h (hn p hp c hc h hh)⟩
theorem pack_VA {w:World} {ok:Nat->Prop} {β:Nat->Value} {b:Bool} {cs:List C} {v:AV} {u:Value} (hp:pack b cs=some v) (h:VP w ok β b cs u):VA w ok β v u:=by
  unfold pack at hp;unfold VP at h;cases b with
  | true=>simp at hp;subst hp;simpa [VA] using h
  | false=>
    simp only [Bool.false_eq_true,if_false] at hp h;obtain ⟨c,rfl,h⟩:=h;simp at hp;subst hp;exact h
theorem pack_lt {b:Bool} {cs:List C} {v:AV} {n:Nat} (hp:pack b cs=some v) (h:∀c ∈ cs,C.lt n c):v.lt n:=by
  unfold pack at hp;cases b with
  | true=>simp at hp;subst hp;exact h
  | false=>
    simp only [Bool.false_eq_true,if_false] at hp;split at hp;rotate_left;cases hp
    simp at hp;subst hp;exact h _ (by simp)
def OB (w:World) (ok:Nat->Prop) (β:Nat->Value):Ob->Value->List Nat->Prop
 | .var cs,u,L=>∃b ty us,u= .pointer (some ⟨b,0,none⟩)/\L=[b]/\w.heap[b]? =some (.cells us.toArray ty (0,0))/\All2 (VC w ok β) cs us
 | .arr e sh xs,u,L=>ownRow w e sh.n (ownT w sh) xs u L
 | .opn e sh xs i cs,u,L=>∃g off cap cur La Lb,u= .slice (some ⟨g,off,none⟩) xs.length cap/\w.heap[g]? =some (.cells cur e (0,0))/\xs.length<=cap/\cap<=maxLen/\cur.size=off+cap*sh.n/\L=g::(La++Lb)/\i<xs.length/\
  rowO sh.n (ownT w sh) (xs.take i) ((cur.toList.drop off).take (i*sh.n)) La/\All2 (VC w ok β) cs (((cur.toList.drop off).drop (i*sh.n)).take sh.n)/\rowO sh.n (ownT w sh) (xs.drop (i+1)) ((cur.toList.drop off).drop (i*sh.n+sh.n)) Lb
def imm (G:Nat->Prop) (st:St) (Lf:Nat->List Nat) (k:Nat):Prop:=G k/\∀h o,look st.ob h=some o->k ∉ Lf h
structure Chg (L:List Nat) (w w':World):Prop where
 os:w'.os=w.os
 tape:w'.tape=w.tape
 output:w'.output=w.output
 size:w.heap.size<=w'.heap.size
 block:∀k,k<w.heap.size->k ∉ L->w'.heap[k]? =w.heap[k]?
theorem Chg.of_below {w w':World} (h:Below w.heap.size w w') (L:List Nat):Chg L w w':=⟨h.os,h.tape,h.output,h.size,fun k hk _=>h.block k hk⟩
theorem Chg.refl (L:List Nat) (w:World):Chg L w w:=⟨rfl,rfl,rfl,cY _,fun _ _ _=>rfl⟩
theorem Chg.then {T L:List Nat} {w w' w'':World} (h:Chg T w w') (h':Chg L w' w'') (hL:∀b ∈ L,w.heap.size<=b\/b ∈ T):Chg T w w'':=
 ⟨h'.os.trans h.os,h'.tape.trans h.tape,h'.output.trans h.output,bY h.size h'.size,fun k hk hn=>(h'.block k (jZ hk h.size) fun hm=>by
  rcases hL k hm with h1 | h1
  · omega
  · exact hn h1).trans (h.block k hk hn)⟩
structure Base where
 w:World
 T:List Nat
 /-- So many objects keep their numbers; what they are. -/
 m:Nat
 B:Nat->Value
structure Sim (G:Nat->Prop) (w0:Base) (st:St) (a:Act) (w:World) (β:Nat->Value) (Lf:Nat->List Nat):Prop where
 fresh:∀k,(w0.w.heap.size<=k\/k ∈ w0.T)->G k
 below:Chg w0.T w0.w w
 defers:a.defers=[]
 size:st.nt<=a.tmps.size
 slots:∀t v,look st.sl t=some v->VA w (imm G st Lf) β v (a.tmps.getD t undef)
 slt:∀t v,look st.sl t=some v->v.lt st.nx
 obs:∀h o,look st.ob h=some o->OB w (imm G st Lf) β o (β h) (Lf h)
 olt:∀h o,look st.ob h=some o->h<st.nx/\o.lt st.nx
 new:∀h o,look st.ob h=some o->∀b ∈ Lf h,(w0.w.heap.size<=b\/b ∈ w0.T)/\b<w.heap.size
 nodup:∀h o,look st.ob h=some o->(Lf h).Nodup
 disj:∀h o h' o',look st.ob h=some o->look st.ob h'=some o'->h≠h'->∀b ∈ Lf h,b ∉ Lf h'
 pin:∀i,i<w0.m->β i=w0.B i
 pinx:w0.m<=st.nx
theorem E1 {α:Type} (n:Nat) (v:α) (l:List (Nat×α)):look (put n v l) n=some v:=by
  induction l with
  | nil=>simp [put,look]
  | cons p l ih=>
    obtain ⟨k,u⟩:=p;simp only [put];split
    · simp [look]
    · split
      · simp [look]
      · rename_i h1 h2;simp [look,h1,ih]
theorem look_put_ne {α:Type} {n m:Nat} (v:α) (l:List (Nat×α)) (h:m≠n):look (put n v l) m=look l m:=by
  induction l with
  | nil=>simp [put,look];omega
  | cons p l ih=>
    obtain ⟨k,u⟩:=p;simp only [put];split
    · rename_i h1;subst h1;simp only [look];rw [eY (by omega),eY (by omega)]
    · split
      · simp only [look];rw [eY (by omega)]
      · simp only [look,ih]
theorem i2 {α:Type} (n:Nat) (l:List (Nat×α)):look (del n l) n=none:=by
  induction l with
  | nil=>simp [del,look]
  | cons p l ih=>
    obtain ⟨k,u⟩:=p;simp only [del];split
    · exact ih
    · rename_i h1;simp [look,h1,ih]
theorem look_del_ne {α:Type} {n m:Nat} (l:List (Nat×α)) (h:m≠n):look (del n l) m=look l m:=by
  induction l with
  | nil=>simp [del,look]
  | cons p l ih=>
    obtain ⟨k,u⟩:=p;simp only [del];split
    · rename_i h1;subst h1;simp only [look,ih];rw [eY (by omega)]
    · simp only [look,ih]
theorem look_del {α:Type} {n m:Nat} {l:List (Nat×α)} {v:α} (h:look (del n l) m=some v):m≠n/\look l m=some v:=by
 have hne:m≠n:=by rintro rfl;rw [i2] at h;cases h
 exact ⟨hne,by rwa [look_del_ne _ hne] at h⟩
section
variable {E:Env} {G:Nat->Prop} {w0:Base} {st:St} {a:Act} {w:World} {β:Nat->Value} {Lf:Nat->List Nat}
theorem Sim.ev (S:Sim G w0 st a w β Lf) {x:Operand} {v:AV} (h:st.ev x=some v):VA w (imm G st Lf) β v (a.eval x)/\v.lt st.nx:=by
  cases x with
  | tmp t=>exact ⟨S.slots t v h,S.slt t v h⟩
  | const c=>
    simp only [St.ev] at h;split at h;cases h;cases h
    rename_i h1 h2;cases h
    refine ⟨?_,by intro h hh;simp [C.hs] at hh⟩
    show rep w (imm G st Lf) (.v c) c
    simp only [rep,true_and];cases c<;>first | rfl | (exact absurd rfl (h1 _)) | (exact absurd rfl (h2 _))
  | func f=>
    simp only [St.ev,nZ] at h;subst h;exact ⟨by show rep w (imm G st Lf) (.v _) _;simp [rep,Act.eval,Value.oneCell'],by intro h hh;simp [C.hs] at hh⟩
  | global g=>simp [St.ev] at h
theorem Sim.sc (S:Sim G w0 st a w β Lf) {x:Operand} {v:Value} (h:st.sc x=some v):a.eval x=v:=by
 unfold St.sc at h;split at h;rotate_left;cases h
 rename_i v' hv;simp only [nZ] at h;subst h;have h1:rep w (imm G st Lf) (.v v') (a.eval x):=(S.ev hv).1;simp only [rep] at h1;exact h1.1
theorem Sim.int (S:Sim G w0 st a w β Lf) {x:Operand} {n:Int} (h:st.int x=some n):a.eval x= .int .i64 n:=by
 unfold St.int at h;split at h;rotate_left;cases h
 rename_i hv;cases h;exact S.sc hv
theorem Sim.bool (S:Sim G w0 st a w β Lf) {x:Operand} {b:Bool} (h:st.bool x=some b):a.eval x= .bool b:=by
 unfold St.bool at h;split at h;rotate_left;cases h
 rename_i hv;cases h;exact S.sc hv
end
end Go.V
namespace Go.V
open Go.RowKit (Below)
theorem VA.scalar {w:World} {ok:Nat->Prop} {β:Nat->Value} {x:Value} (h:x.oneCell'=true):VA w ok β (.c (.v x)) x:=by
 show rep w ok (.v x) x
 simp only [rep];exact ⟨trivial,h⟩
theorem AV.lt_v (n:Nat) (x:Value):(AV.c (.v x)).lt n:=by intro h hh;simp [C.hs] at hh
theorem bin_sound {P:Program} {R:Type} {op:BinOp} {x y:Value} {K:Value->Option R} {r:R} (h:bin op x y K=some r) (t:TypeId) (xo yo:Operand) (w:World):
 ∃v,(do eqGuard op t xo yo x y;binOp op t x y:Sem Value).run P w= .ok v w/\v.oneCell'=true/\K v=some r:=by
 unfold bin at h;split at h
 · rename_i k a k' b;have hg:(eqGuard op t xo yo (.int k a) (.int k' b)).run P w= .ok () w:=by
    unfold eqGuard;split<;>simp
   split at h
   case h_1 | h_2=>
    split at h;cases h
    rename_i hb;exact ⟨_,by simp [hg,binOp,Op.shift,hb],rfl,h⟩
   case h_6 | h_7=>
    split at h;rotate_left;cases h
    rename_i hk;subst hk;split at h;cases h
    rename_i hb;exact ⟨_,by simp [hg,binOp,Op.intDiv,hb],rfl,h⟩
   all_goals
    split at h;rotate_left;cases h
    rename_i hk;subst hk;exact ⟨_,by simp [hg,binOp,Op.intArith,Op.intBits,Op.intCmp],rfl,h⟩
 · rename_i a b;have hg:(eqGuard op t xo yo (.string a) (.string b)).run P w= .ok () w:=by
    unfold eqGuard;split<;>simp
   split at h
   case h_1=>
    split at h;rotate_left;cases h
    rename_i hb;have hmax:¬(((a.size+b.size:Nat):Int)>IntKind.i64.max):=by
     have:IntKind.i64.max=9223372036854775807:=rfl
     omega
    exact ⟨_,by (simp [hg,binOp,Op.stringOp,hmax];omega),rfl,h⟩
   all_goals first
    | cases h;done
    | exact ⟨_,by simp [hg,binOp,Op.stringOp],rfl,h⟩
 · cases h
theorem un_sound {P:Program} {op:UnOp} {x v:Value} (h:un op x=some v) (w:World):(Op.unary op x).run P w= .ok v w/\v.oneCell'=true:=by
 unfold un at h;split at h
 · cases h;exact ⟨by simp [Op.unary,Op.intArith],rfl⟩
 · cases h;exact ⟨by simp [Op.unary],rfl⟩
 · cases h
theorem addr_add (b o j:Nat):(⟨b,o,none⟩:Addr).add j=⟨b,o+j,none⟩:=by
 unfold Addr.add;split
 · rename_i h;subst h;simp
 · rfl
theorem Sh.n_one {sh:Sh} (h:sh.agg=false):sh.n=1:=by
 cases sh<;>simp [Sh.agg] at h<;>simp [Sh.n]
def valOf (b:Bool) (us:List Value):Value:=if b then .agg us.toArray else us.headD undef
theorem VP_valOf {w:World} {ok:Nat->Prop} {β:Nat->Value} {b:Bool} {cs:List C} {us:List Value} (h:All2 (VC w ok β) cs us) (hb:b=false->cs.length=1):VP w ok β b cs (valOf b us):=by
  unfold VP valOf;cases b with
  | true=>simpa using h
  | false=>
    simp only [Bool.false_eq_true,if_false]
    match cs,us,h,hb rfl with
    | [c],[u],h,_=>exact ⟨c,rfl,h.1⟩
theorem run_loadAt {P:Program} {t:Nat} {i:TyI} (hT:TyOk P t i) {w:World} {ad:Addr} {us:List Value} (hl:us.length=i.sz) (hc:∀(j:Nat) (u:Value),us[j]? =some u->w.cell? (ad.add j)=some u):
    (Instr.loadAt t (.pointer (some ad))).run P w= .ok (valOf i.isAgg us) w:=by
  unfold Instr.loadAt Instr.sureAddr loadVar valOf;simp only [aY,Sem.run_pure,oZ,hT.run_isAgg];cases hb:i.isAgg with
  | true=>
    simp only [if_true,aY,hT.run_sizeOf,oZ,<-hl,run_loadCells_list w ad us hc,Sem.run_pure]
  | false=>
    have h1:i.sz=1:=by rw [<-hT.n];exact Sh.n_one (by rw [hT.agg,hb])
    rw [h1] at hl
    match us,hl with
    | [u],_=>
      have:=hc 0 u rfl
      simp only [Addr.add,if_true] at this;simp [this]
theorem part_field {E:Env} (hE:EnvOk E) {s:Nat} {i j:TyI} {n off:Nat} (hi:E.ty s=some i) (hp:i.part E n=some (off,j)):
 ∃(fields:Array Field) (f:Field),E.P.underlying s=some (.struct fields)/\fields[n]? =some f/\f.offset=off/\TyOk E.P f.type j:=by
 unfold TyI.part at hp;split at hp;rotate_left;cases hp
 rename_i fs hk;obtain ⟨fields,h1,h2⟩:=(hE.ty _ _ hi).struct hk;split at hp;rotate_left;cases hp
 rename_i o t ht;split at hp;rotate_left;cases hp
 rename_i j' hj;cases hp
 rw [<-h2,List.getElem?_map] at ht
 obtain ⟨f,hf,hft⟩:=Option.map_eq_some_iff.1 ht;simp only [Prod.mk.injEq] at hft;obtain ⟨h3,h4⟩:=hft;refine ⟨fields,f,h1,by simpa using hf,h3,?_⟩
 rw [h4];exact hE.ty _ _ hj
theorem run_part {P:Program} {t:Nat} {j:TyI} (hT:TyOk P t j) {w:World} {us:List Value} {off:Nat} (hl:off+j.sz<=us.length):
    (part t us.toArray off).run P w= .ok (valOf j.isAgg ((us.drop off).take j.sz)) w:=by
  unfold part valOf;simp only [aY,hT.run_isAgg,oZ];cases hb:j.isAgg with
  | true=>
    simp only [if_true,aY,hT.run_sizeOf,oZ,Sem.run_pure]
    congr 2
    rw [List.extract_toArray];simp [List.extract_eq_take_drop]
  | false=>
    have h1:j.sz=1:=by rw [<-hT.n];exact Sh.n_one (by rw [hT.agg,hb])
    have h2:off<us.length:=by omega
    have h3:us.drop off=us[off]::us.drop (off+1):=cZ h2;have h4:(List.take 1 (List.drop off us)).headD undef=us[off]:=by rw [h3];rfl
    rw [h1,h4];simp [h2]
theorem pack_len {cs:List C} {v:AV} (h:pack false cs=some v):cs.length=1:=by
 unfold pack at h;simp only [Bool.false_eq_true,if_false] at h;split at h;rotate_left;cases h
 rfl
theorem mem_of_drop_take {α:Type} {x:α} {l:List α} {a b:Nat} (h:x ∈ (l.drop a).take b):x ∈ l:=List.mem_of_mem_drop (List.mem_of_mem_take h)
end Go.V
namespace Go.V
open Go.RowKit (Below)
def Gives {R:Type} (G:Nat->Prop) (E:Env) (st:St) (a:Act) (w:World) (β:Nat->Value) (Lf:Nat->List Nat) (o:Oper) (K:AV->Option R) (r:R):Prop:=
 ∃av u,(execOp a.eval o).run E.P w= .ok (.value u) w/\VA w (imm G st Lf) β av u/\av.lt st.nx/\K av=some r
theorem lt_drop_take {n a b:Nat} {cs:List C} (h:∀c ∈ cs,C.lt n c):∀c ∈ (cs.drop a).take b,C.lt n c:=fun c hc=>h c (mem_of_drop_take hc)
mutual
theorem avs_lt (n:Nat):(sh:Sh)->(x:Ty sh)->∀c ∈ avs sh x,C.lt n c
 | .b,x=>by simp [avs,C.lt,C.hs]
 | .i k,x=>by simp [avs,C.lt,C.hs]
 | .s,x=>by simp [avs,C.lt,C.hs]
 | .l e sh,x=>by simp [avs,C.lt,C.hs]
 | .a fs,x=>by simp only [avs];exact avsL_lt n fs x
theorem avsL_lt (n:Nat):(fs:List Sh)->(x:TyL fs)->∀c ∈ avsL fs x,C.lt n c
  | [],_=>by simp [avsL]
  | [f],x=>by simp only [avsL];exact avs_lt n f x
  | f::g::r,x=>by
    simp only [avsL,wZ]
    rintro c (hc | hc)
    · exact avs_lt n f _ c hc
    · exact avsL_lt n (g::r) _ c hc
end
theorem AV.lt_c {n:Nat} {c:C} (h:C.lt n c):(AV.c c).lt n:=h
theorem all2_drop_add {cs:List C} {us:List Value} {w:World} {ok:Nat->Prop} {β:Nat->Value} {o z:Nat} (h:All2 (VC w ok β) cs us) (hz:o+z<=cs.length):
 All2 (VC w ok β) ((cs.drop o).take z) ((us.drop o).take z)/\((us.drop o).take z).length=z:=by
 refine ⟨(h.drop o).take z,?_⟩
 have:=h.len
 simp only [List.length_take,List.length_drop];omega
mutual
theorem repT_flat {w w':World} {ok ok':Nat->Prop}:(sh:Sh)->(x:Ty sh)->(us:List Value)->sh.flat=true->repT w ok sh x us->repT w' ok' sh x us
 | .b,x,us,_,h=>by simp only [repT] at h ⊢;exact h
 | .i k,x,us,_,h=>by simp only [repT] at h ⊢;exact h
 | .s,x,us,_,h=>by simp only [repT] at h ⊢;exact h
 | .l e sh,xs,us,hf,h=>by simp [Sh.flat] at hf
 | .a fs,x,us,hf,h=>by simp only [repT] at h ⊢;exact repTL_flat fs x us (by simpa only [Sh.flat] using hf) h
theorem repTL_flat {w w':World} {ok ok':Nat->Prop}:(fs:List Sh)->(x:TyL fs)->(us:List Value)->Sh.flatL fs=true->repTL w ok fs x us->repTL w' ok' fs x us
  | [],_,us,_,h=>by simp only [repTL] at h ⊢;exact h
  | [f],x,us,hf,h=>by simp only [repTL] at h ⊢;exact repT_flat f x us (by simpa [Sh.flatL] using hf) h
  | f::g::r,x,us,hf,h=>by
    simp only [repTL] at h ⊢;rw [Sh.flatL,sZ] at hf;obtain ⟨vs,ws,rfl,h1,h2⟩:=h;exact ⟨vs,ws,rfl,repT_flat f _ _ hf.1 h1,repTL_flat (g::r) _ _ hf.2 h2⟩
end
section
variable {E:Env} {G:Nat->Prop} {w0:Base} {st:St} {a:Act} {w:World} {β:Nat->Value} {Lf:Nat->List Nat} {R:Type} {K:AV->Option R} {N:Option R} {r:R} {o:Oper}
theorem gives_field (hE:EnvOk E) (S:Sim G w0 st a w β Lf) {s:Nat} {x:Operand} {n:Nat} (ho:o.op= .field s x n) (h:opv E st o K N=some r):Gives G E st a w β Lf o K r:=by
 simp only [opv,ho] at h;split at h;rotate_left;cases h
 rename_i i cs hi hv;split at h;rotate_left;cases h
 rename_i off j hp;split at h;rotate_left;cases h
 rename_i hz';split at h;rotate_left;cases h
 rename_i v hpk;obtain ⟨hva,hlt⟩:=S.ev hv;obtain ⟨us,hu,hall⟩:=hva;obtain ⟨fields,f,h1,h2,h3,h4⟩:=part_field hE hi hp;have hz:off+j.sz<=us.length:=by rw [<-hall.len];exact hz'
 obtain ⟨h5,h6⟩:=all2_drop_add hall hz';refine ⟨v,valOf j.isAgg ((us.drop off).take j.sz),?_,pack_VA hpk (VP_valOf h5 ?_),pack_lt hpk (lt_drop_take hlt),h⟩
 · simp [execOp,ho,Instr.field,hu,run_underlying h1,h2,asAgg,h3,run_part h4 hz]
 · intro hb;rw [hb] at hpk;exact pack_len hpk
theorem run_fieldAt {s:Nat} {P:Program} {fields:Array Field} {f:Field} {n:Nat} {j:TyI} (h1:P.underlying s=some (.struct fields)) (h2:fields[n]? =some f) (h4:TyOk P f.type j) (ad:Addr) (w:World):
 (Instr.fieldAt s (.pointer (some ad)) n).run P w= .ok (.pointer (some (ad.add f.offset))) w:=by
 have hp:=h4.pos;simp [Instr.fieldAt,Instr.sureAddr,fieldPlace,run_underlying h1,h2,h4.run_sizeOf,show ¬j.sz=0 by omega]
theorem add_assoc' (ad:Addr) (i j:Nat):(ad.add i).add j=ad.add (i+j):=Go.Deep.add_add ad i j
theorem rep_at_drop {ok:Nat->Prop} {cs:List C} {ad:Addr} (n:Nat) (h:rep w ok (.at_ cs) (.pointer (some ad))):rep w ok (.at_ (cs.drop n)) (.pointer (some (ad.add n))):=by
 simp only [rep] at h ⊢;obtain ⟨ad',us,he,h1,h2,h3⟩:=h
 injection he with he
 cases he
 refine ⟨_,us.drop n,rfl,repL_drop n h1,fun hne=> ?_,fun i x hx=> ?_⟩
 · rw [block_add];exact h2 (by rintro rfl;simp at hne)
 · rw [mZ] at hx
   rw [add_assoc'];exact h3 _ _ hx
theorem gives_fieldAddr (hE:EnvOk E) (S:Sim G w0 st a w β Lf) {s:Nat} {x:Operand} {n:Nat} (ho:o.op= .fieldAddr s x n) (h:opv E st o K N=some r):Gives G E st a w β Lf o K r:=by
 simp only [opv,ho] at h;split at h;rotate_left;cases h
 rename_i i c hi hv;split at h;rotate_left;cases h
 rename_i off j hp;obtain ⟨hva,hlt⟩:=S.ev hv;obtain ⟨fields,f,h1,h2,h3,h4⟩:=part_field hE hi hp;have hlt':C.lt st.nx c:=hlt;have hva':VC w (imm G st Lf) β c (a.eval x):=hva;split at h
 · rename_i hh oo;obtain ⟨b,hb,hu⟩:=hva';refine ⟨.c (.ptr hh (oo+off)),.pointer (some ⟨b,oo+off,none⟩),?_,⟨b,hb,rfl⟩,hlt',h⟩
   simp [execOp,ho,hu,run_fieldAt h1 h2 h4,addr_add,h3]
 · rename_i hh sz i' oo;obtain ⟨g,go,n',c',hb,hu⟩:=hva';refine ⟨.c (.el hh sz i' (oo+off)),.pointer (some ⟨g,go+(i'*sz+(oo+off)),none⟩),?_,⟨g,go,n',c',hb,rfl⟩,hlt',h⟩
   simp [execOp,ho,hu,run_fieldAt h1 h2 h4,addr_add,h3,Nat.add_assoc]
 · rename_i cs;have hr:rep w (imm G st Lf) (.at_ cs) (a.eval x):=hva';have hr0:=hr;simp only [rep] at hr0;obtain ⟨ad,us,hu,_⟩:=hr0;rw [hu] at hr;refine ⟨.c (.at_ (cs.drop off)),.pointer (some (ad.add off)),?_,rep_at_drop off hr,AV.lt_c (by simp [C.lt,C.hs]),h⟩
   simp [execOp,ho,hu,run_fieldAt h1 h2 h4,h3]
 · cases h
theorem gives_extract (S:Sim G w0 st a w β Lf) {x:Operand} {n:Nat} (ho:o.op= .extract x n) (h:opv E st o K N=some r):Gives G E st a w β Lf o K r:=by
 simp only [opv,ho] at h;split at h;rotate_left;cases h
 rename_i fs hv;split at h;rotate_left;cases h
 rename_i b cs hn;split at h;rotate_left;cases h
 rename_i v hpk;obtain ⟨hva,hlt⟩:=S.ev hv;obtain ⟨us,hu,hall⟩:=hva;obtain ⟨u,hun,hvp⟩:=hall.at n (b,cs) hn;refine ⟨v,u,?_,pack_VA hpk hvp,pack_lt hpk (hlt (b,cs) (iZ hn)),h⟩
 simp [execOp,ho,Instr.extract,hu,hun]
theorem gives_load (hE:EnvOk E) (S:Sim G w0 st a w β Lf) {t:Nat} {x:Operand} (ho:o.op= .load t x) (h:opv E st o K N=some r):Gives G E st a w β Lf o K r\/N=some r:=by
 simp only [opv,ho] at h;split at h
 · rename_i i hh oo hi hv;obtain ⟨hva,hlt⟩:=S.ev hv;obtain ⟨b,hb,hu⟩:∃b,β hh= .pointer (some ⟨b,0,none⟩)/\a.eval x= .pointer (some ⟨b,oo,none⟩):=hva;split at h;rotate_left;cases h
   rename_i cs hcs;split at h;rotate_left;cases h
   rename_i hz;split at h;rotate_left;cases h
   rename_i v hpk;obtain ⟨b',ty,us,he,hL,hg,hall⟩:=S.obs _ _ hcs;rw [hb] at he
   injection he with he
   injection he with he
   cases he
   obtain ⟨h5,h6⟩:=all2_drop_add hall hz;refine .inl ⟨v,valOf i.isAgg ((us.drop oo).take i.sz),?_,pack_VA hpk (VP_valOf h5 ?_),pack_lt hpk (lt_drop_take (S.olt _ _ hcs).2),h⟩
   · have hr:=run_loadAt (hE.ty _ _ hi) (w:=w) (ad:=⟨b,oo,none⟩) h6 (fun j u hj=>by
      rw [addr_add,cell_of_row w b _ us.toArray ty (0,0) hg];rw [lZ] at hj
      split at hj
      · rw [mZ] at hj
        simpa using hj
      · cases hj)
     simp [execOp,ho,hu,hr]
   · intro hb';rw [hb'] at hpk;exact pack_len hpk
 · rename_i i hh sz n oo hi hv;obtain ⟨hva,hlt⟩:=S.ev hv;obtain ⟨g,off,n',c',hb,hu⟩:∃g off n' c',β hh= .slice (some ⟨g,off,none⟩) n' c'/\a.eval x= .pointer (some ⟨g,off+(n*sz+oo),none⟩):=hva;split at h
   · rename_i e sh xs hob;split at h
     · rename_i hsz;split at h;rotate_left;cases h
       rename_i y hy;simp only [sZ,pZ] at hsz;obtain ⟨rfl,hflat⟩:=hsz;split at h;rotate_left;cases h
       rename_i hz;split at h;rotate_left;cases h
       rename_i v hpk;have hor:ownRow w e sh.n (ownT w sh) xs (β hh) (Lf hh):=S.obs _ _ hob;rcases hor with ⟨rfl,_⟩ | ⟨g',off',cap,cur,L',hgv,hg,_,_,_,_,hrow⟩
       · simp at hy
       · rw [hb] at hgv
         injection hgv with hgv _ _
         injection hgv with hgv
         injection hgv with hgv hgo
         subst hgv hgo;obtain ⟨L1,_,hown⟩:=rowO_at hrow n y hy;have hrt:repT w (imm G st Lf) sh y _:=repT_flat (ok:=fun _=>True) sh y _ hflat (ownT_reads sh y _ L1 (fun _ _=>trivial) hown)
         have hall:All2 (VC w (imm G st Lf) β) (avs sh y) _:=All2.of_repL (rep_avs sh y _ hrt);have hlen:=repT_len _ _ _ hrt;have hz':oo+i.sz<=(avs sh y).length:=by rw [hall.len,hlen];exact hz
         obtain ⟨h5,h6⟩:=all2_drop_add hall hz';refine .inl ⟨v,_,?_,pack_VA hpk (VP_valOf h5 ?_),pack_lt hpk (lt_drop_take (avs_lt _ sh y)),h⟩
         · have hr:=run_loadAt (hE.ty _ _ hi) (w:=w) (ad:=⟨g,off+(n*sh.n+oo),none⟩) h6 (fun j u hj=>by
            rw [addr_add,cell_of_row w g _ cur e (0,0) hg];rw [lZ] at hj
            split at hj
            · rw [mZ,lZ] at hj
              split at hj;rotate_left;cases hj
              rw [mZ,mZ] at hj
              rw [Nat.add_assoc,Nat.add_assoc];simpa using hj
            · cases hj)
           simp only [execOp,ho,hu,aY,hr,oZ,Sem.run_pure]
         · intro hb';rw [hb'] at hpk;exact pack_len hpk
     · exact .inr h
   · exact .inr h
   · cases h
 · rename_i i cs hi hv;obtain ⟨hva,hlt⟩:=S.ev hv;have hr:rep w (imm G st Lf) (.at_ cs) (a.eval x):=hva;simp only [rep] at hr;obtain ⟨ad,us,hu,h1,h2,h3⟩:=hr;split at h;rotate_left;cases h
   rename_i hz;split at h;rotate_left;cases h
   rename_i v hpk;have hall:All2 (VC w (imm G st Lf) β) cs us:=All2.of_repL h1;have h5:All2 (VC w (imm G st Lf) β) (cs.take i.sz) (us.take i.sz):=hall.take _;have hl:us.length=cs.length:=hall.len.symm;refine .inl ⟨v,valOf i.isAgg (us.take i.sz),?_,pack_VA hpk (VP_valOf h5 ?_),pack_lt hpk ?_,h⟩
   · have hr:=run_loadAt (hE.ty _ _ hi) (w:=w) (ad:=ad) (us:=us.take i.sz) (by simp;omega) (fun j u hj=>by
      rw [lZ] at hj
      split at hj
      · exact h3 _ _ hj
      · cases hj)
     simp [execOp,ho,hu,hr]
   · intro hb';rw [hb'] at hpk;exact pack_len hpk
   · intro c hc;have hc':=List.mem_of_mem_take hc;intro h' hh';exfalso;obtain ⟨k,hk,hke⟩:=List.getElem_of_mem hc';obtain ⟨u',_,hu'⟩:=hall.at k c (by rw [dZ hk,hke])
     have:∀(c:C) (u:Value),(∃vs,repL w (imm G st Lf) [c] vs)->c.hs=[]:=by
      rintro c u ⟨vs,hvs⟩
      simp only [repL] at hvs;obtain ⟨u,vs,_,hvs,_⟩:=hvs;cases c<;>first | rfl | (simp only [rep] at hvs)
     have hrl:=repL_take 1 (repL_drop k h1);have e1:(cs.drop k).take 1=[c]:=by rw [cZ hk,hke];rfl
     rw [e1] at hrl
     have:=this c u' ⟨_,hrl⟩
     rw [this] at hh';simp at hh'
 · cases h
end
end Go.V
namespace Go.V
open Go.RowKit (Below)
theorem elemTy_ok {E:Env} (hE:EnvOk E) {t e:Nat} {i:TyI} (h:elemTy E t=some (e,i)):E.P.underlying t=some (.slice e)/\TyOk E.P e i:=by
 unfold elemTy at h;split at h;rotate_left;cases h
 rename_i j hj;split at h;rotate_left;cases h
 rename_i e' hk;split at h;rotate_left;cases h
 rename_i i' hi;cases h
 exact ⟨(hE.ty _ _ hj).slc hk,hE.ty _ _ hi⟩
theorem isStr_ok {E:Env} (hE:EnvOk E) {t:Nat} (h:isStr E t=true):E.P.underlying t=some .string:=by
 unfold isStr at h;split at h;rotate_left;cases h
 rename_i j hj;split at h;rotate_left;cases h
 rename_i hk;exact (hE.ty _ _ hj).str hk
theorem intTy_ok {E:Env} (hE:EnvOk E) {t:Nat} {k:IntKind} (h:intTy E t=some k):E.P.underlying t=some (.int k):=by
 unfold intTy at h;split at h;rotate_left;cases h
 rename_i j hj;split at h;rotate_left;cases h
 rename_i k' hk;cases h
 exact (hE.ty _ _ hj).int hk
section
variable {E:Env} {G:Nat->Prop} {w0:Base} {st:St} {a:Act} {w:World} {β:Nat->Value} {Lf:Nat->List Nat} {R:Type} {K:AV->Option R} {N:Option R} {r:R} {o:Oper}
theorem rep_at_avs {ok:Nat->Prop} {e':Nat} {sh:Sh} {xs:List (Ty sh)} {u:Value} (h:rep w ok (.l e' sh xs) u) (i:Nat) (x:Ty sh) (hx:xs[i]? =some x):
 ∃ad c,u= .slice (some ad) xs.length c/\rep w ok (.at_ (avs sh x)) (.pointer (some (ad.add (i*sh.n)))):=by
 simp only [rep] at h;obtain ⟨A,c,rfl,h1,h2,h3⟩:=h;have hi:i<xs.length:=(List.getElem?_eq_some_iff.1 hx).1
 obtain ⟨ad,rfl,h4,h5,h6⟩:=h3 (by omega)
 obtain ⟨vs,h7,h8⟩:=h6 i x hx;refine ⟨ad,c,rfl,?_⟩
 simp only [rep];exact ⟨_,vs,rfl,rep_avs sh x vs h7,fun _=>by rw [block_add];exact ⟨h4,h5⟩,fun j u hu=>by rw [add_assoc'];exact h8 j u hu⟩
theorem run_indexAt {P:Program} {t e:Nat} {j:TyI} (h1:P.underlying t=some (.slice e)) (h2:TyOk P e j) (ad:Addr) (len c:Nat) (i:Int) (h0:0<=i) (hl:i<len) (w:World):
 (Instr.indexAt t (.slice (some ad) len c) (.int .i64 i)).run P w= .ok (.pointer (some (ad.add (i.toNat*j.sz)))) w:=by
 simp [Instr.indexAt,asIntOf,run_underlying h1,h0,hl,h2.run_sizeOf]
theorem gives_indexAddr (hE:EnvOk E) (S:Sim G w0 st a w β Lf) {t:Nat} {x n:Operand} (ho:o.op= .indexAddr t x n) (h:opv E st o K N=some r):Gives G E st a w β Lf o K r:=by
 simp only [opv,ho] at h;split at h;rotate_left;cases h
 rename_i e j hel;obtain ⟨ht,hj⟩:=elemTy_ok hE hel;split at h
 · rename_i hh i hv hn;have hnum:=S.int hn;obtain ⟨hva,hlt⟩:=S.ev hv;obtain ⟨hu,A,n',c',hA⟩:a.eval x=β hh/\∃A n c,a.eval x= .slice A n c:=hva;split at h
   · rename_i e' sh xs hob;split at h;rotate_left;cases h
     rename_i he;subst he;split at h;rotate_left;cases h
     rename_i hsz;split at h;rotate_left;cases h
     rename_i h0;split at h;rotate_left;cases h
     rename_i hlen;have hor:ownRow w e' sh.n (ownT w sh) xs (β hh) (Lf hh):=S.obs _ _ hob;rcases hor with ⟨rfl,_⟩ | ⟨g,off,cap,cur,L',hgv,hg,hlc,hcm,hcs,_,hrow⟩
     · simp at hlen;omega
     · refine ⟨.c (.el hh sh.n i.toNat 0),.pointer (some ⟨g,off+(i.toNat*sh.n+0),none⟩),?_,⟨g,off,_,_,hgv,rfl⟩,hlt,h⟩
       simp only [execOp,ho,hu,hnum,hgv,aY,run_indexAt ht hj _ _ _ _ h0 hlen,oZ,Sem.run_pure,hsz,addr_add,Nat.zero_add,Nat.add_zero]
   · rename_i e' sh xs _ _ hob;split at h;rotate_left;cases h
     rename_i he;subst he;split at h;rotate_left;cases h
     rename_i hsz;split at h;rotate_left;cases h
     rename_i h0;split at h;rotate_left;cases h
     rename_i hlen;obtain ⟨g,off,cap,cur,La,Lb,hgv,_⟩:=S.obs _ _ hob;refine ⟨.c (.el hh sh.n i.toNat 0),.pointer (some ⟨g,off+(i.toNat*sh.n+0),none⟩),?_,⟨g,off,_,_,hgv,rfl⟩,hlt,h⟩
     simp only [execOp,ho,hu,hnum,hgv,aY,run_indexAt ht hj _ _ _ _ h0 hlen,oZ,Sem.run_pure,hsz,addr_add,Nat.zero_add,Nat.add_zero]
   · cases h
 · rename_i hh sz lo hi i hv hn;have hnum:=S.int hn;obtain ⟨hva,hlt⟩:=S.ev hv;obtain ⟨A,n',c',hb0,hlh,hhn,hnc,hu⟩:VC w (imm G st Lf) β (.sub hh sz lo hi) (a.eval x):=hva;split at h;rotate_left;cases h
   rename_i e' sh xs hob;split at h;rotate_left;cases h
   rename_i he;subst he;split at h;rotate_left;cases h
   rename_i hsz;simp only [sZ,pZ] at hsz;obtain ⟨hsz,rfl⟩:=hsz;split at h;rotate_left;cases h
   rename_i h0;split at h;rotate_left;cases h
   rename_i hlen;split at h;rotate_left;cases h
   rename_i hxs;have hor:ownRow w e' sh.n (ownT w sh) xs (β hh) (Lf hh):=S.obs _ _ hob;rcases hor with ⟨rfl,_⟩ | ⟨g,off,cap,cur,L',hgv,hg,hlc,hcm,hcs,_,hrow⟩
   · simp at hxs;omega
   · rw [hb0] at hgv
     injection hgv with e1 e2 e3
     subst e1 e2 e3;have hcl:¬c'=lo:=by omega
     rw [eY hcl] at hu;refine ⟨.c (.el hh sh.n (lo+i.toNat) 0),.pointer (some ⟨g,off+((lo+i.toNat)*sh.n+0),none⟩),?_,⟨g,off,_,_,hb0,rfl⟩,hlt,h⟩
     simp only [execOp,ho,hu,hnum,Option.map_some,aY,run_indexAt ht hj _ _ _ _ h0 (show i<((hi-lo:Nat):Int) by omega),oZ,Sem.run_pure,hsz,addr_add,Nat.add_zero,Nat.add_mul,Nat.add_assoc]
 · rename_i e' sh xs i hv hn;have hnum:=S.int hn;obtain ⟨hva,hlt⟩:=S.ev hv;have hr:rep w (imm G st Lf) (.l e' sh xs) (a.eval x):=hva;split at h;rotate_left;cases h
   rename_i hsz;split at h;rotate_left;cases h
   rename_i h0;split at h;rotate_left;cases h
   rename_i y hy;obtain ⟨ad,c,hu,hat⟩:=rep_at_avs hr i.toNat y hy;have hlen:i<xs.length:=by have:=(List.getElem?_eq_some_iff.1 hy).1;omega
   refine ⟨.c (.at_ (avs sh y)),_,?_,hat,AV.lt_c (by simp [C.lt,C.hs]),h⟩
   simp only [execOp,ho,hu,hnum,aY,run_indexAt ht hj _ _ _ _ h0 hlen,oZ,Sem.run_pure,hsz]
 · cases h
theorem len_sound (S:Sim G w0 st a w β Lf) {c:C} {u:Value} {n:Nat} (hc:VC w (imm G st Lf) β c u) (h:st.len c=some n):∃A cap,u= .slice A n cap:=by
 unfold St.len at h;split at h
 · rename_i e' sh xs;cases h
   have hr:rep w (imm G st Lf) (.l e' sh xs) u:=hc;simp only [rep] at hr;obtain ⟨A,c,rfl,_⟩:=hr;exact ⟨_,_,rfl⟩
 · cases h
   have hr:rep w (imm G st Lf) (.v _) u:=hc;simp only [rep] at hr;exact ⟨_,_,hr.1⟩
 · cases h
   have hr:rep w (imm G st Lf) .emp u:=hc;simp only [rep] at hr;obtain ⟨A,rfl⟩:=hr;exact ⟨_,_,rfl⟩
 · rename_i hh;obtain ⟨hu,_⟩:u=β hh/\∃A n c,u= .slice A n c:=hc;split at h
   · rename_i e sh xs hob;cases h
     have hor:ownRow w e sh.n (ownT w sh) xs (β hh) (Lf hh):=S.obs _ _ hob;rw [hu];rcases hor with ⟨rfl,_,A,hA⟩ | ⟨g,off,cap,cur,L',hgv,_⟩
     · exact ⟨_,_,hA⟩
     · exact ⟨_,_,hgv⟩
   · rename_i e sh xs _ _ hob;cases h
     rw [hu];obtain ⟨g,off,cap,cur,La,Lb,hgv,_⟩:=S.obs _ _ hob;exact ⟨_,_,hgv⟩
   · cases h
 · rename_i hh sz lo hi;cases h
   obtain ⟨A,n',c',_,_,_,_,hu⟩:VC w (imm G st Lf) β (.sub hh sz lo hi) u:=hc;exact ⟨_,_,hu⟩
 · cases h
theorem ownRow_val {α:Type} {w:World} {e n:Nat} {R:α->List Value->List Nat->Prop} {xs:List α} {u:Value} {L:List Nat} (h:ownRow w e n R xs u L):∃A c,u= .slice A xs.length c/\xs.length<=c:=by
 rcases h with ⟨rfl,_,A,rfl⟩ | ⟨g,off,cap,cur,L',rfl,_,h,_⟩
 · exact ⟨A,0,rfl,cY _⟩
 · exact ⟨_,_,rfl,h⟩
theorem gives_len (hE:EnvOk E) (S:Sim G w0 st a w β Lf) {args:Array Operand} {tys:Array TypeId} (ho:o.op= .call { callee:= .builtin .len,args,argTypes:=tys }) (h:opv E st o K N=some r):Gives G E st a w β Lf o K r:=by
 simp only [opv,ho] at h;split at h;rotate_left;cases h
 rename_i x t hargs htys
 obtain rfl:args=#[x]:=by cases args;simp_all
 obtain rfl:tys=#[t]:=by cases tys;simp_all
 split at h;rotate_left;cases h
 rename_i v hv;obtain ⟨hva,hlt⟩:=S.ev hv;have hvc:VC w (imm G st Lf) β v (a.eval x):=hva;split at h
 · rename_i p hel;obtain ⟨ht,_⟩:=elemTy_ok hE hel;split at h;rotate_left;cases h
   rename_i n hn;obtain ⟨A,c,hu⟩:=len_sound S hvc hn;refine ⟨_,.int .i64 n,?_,VA.scalar rfl,AV.lt_v _ _,h⟩
   simp [execOp,ho,resolve,invoke,builtin,Builtin.len_,run_underlying ht,hu,goInt]
 · split at h;rotate_left;cases h
   rename_i hs;split at h;rotate_left;cases h
   rename_i s;have hr:rep w (imm G st Lf) (.v (.string s)) (a.eval x):=hvc;simp only [rep] at hr;refine ⟨_,.int .i64 s.size,?_,VA.scalar rfl,AV.lt_v _ _,h⟩
   simp [execOp,ho,resolve,invoke,builtin,Builtin.len_,run_underlying (isStr_ok hE hs),hr.1,goInt]
theorem gives_min (S:Sim G w0 st a w β Lf) {args:Array Operand} {tys:Array TypeId} (ho:o.op= .call { callee:= .builtin .min,args,argTypes:=tys }) (h:opv E st o K N=some r):Gives G E st a w β Lf o K r:=by
 simp only [opv,ho] at h;split at h;rotate_left;cases h
 rename_i x y hargs
 obtain rfl:args=#[x,y]:=by cases args;simp_all
 split at h;rotate_left;cases h
 rename_i n m hn hm;have h1:=S.int hn;have h2:=S.int hm;refine ⟨_,.int .i64 (mn n m),?_,VA.scalar rfl,AV.lt_v _ _,h⟩
 simp [execOp,ho,resolve,invoke,builtin,Builtin.min_,h1,h2,Builtin.min2,mn,List.foldlM]
theorem gives_max (S:Sim G w0 st a w β Lf) {args:Array Operand} {tys:Array TypeId} (ho:o.op= .call { callee:= .builtin .max,args,argTypes:=tys }) (h:opv E st o K N=some r):Gives G E st a w β Lf o K r:=by
 simp only [opv,ho] at h;split at h;rotate_left;cases h
 rename_i x y hargs
 obtain rfl:args=#[x,y]:=by cases args;simp_all
 split at h;rotate_left;cases h
 rename_i n m hn hm;have h1:=S.int hn;have h2:=S.int hm;refine ⟨_,.int .i64 (mx n m),?_,VA.scalar rfl,AV.lt_v _ _,h⟩
 simp [execOp,ho,resolve,invoke,builtin,Builtin.max_,h1,h2,Builtin.max2,mx,List.foldlM]
theorem gives_move (S:Sim G w0 st a w β Lf) {x:Operand} (ho:o.op= .move x\/o.op= .assign x) (h:opv E st o K N=some r):Gives G E st a w β Lf o K r:=by
 rcases ho with ho | ho
 all_goals
  simp only [opv,ho] at h;split at h;rotate_left;cases h
  rename_i v hv;obtain ⟨hva,hlt⟩:=S.ev hv;exact ⟨v,a.eval x,by simp [execOp,ho],hva,hlt,h⟩
theorem gives_pick (S:Sim G w0 st a w β Lf) {x y z:Operand} (ho:o.op= .pick x y z) (h:opv E st o K N=some r):Gives G E st a w β Lf o K r:=by
 simp only [opv,ho] at h;split at h;rotate_left;cases h
 rename_i c hc;have h1:=S.bool hc;split at h
 · rename_i p q hp hq;refine ⟨_,.bool (if c then p else q),?_,VA.scalar rfl,AV.lt_v _ _,h⟩
   have h2:=S.bool hp;have h3:=S.bool hq;cases c<;>simp [execOp,ho,asBool,h1,h2,h3]
 · rename_i q hp hq;split at h;cases h
   rename_i hcf;have h3:=S.bool hq;simp only [Bool.not_eq_true] at hcf;subst hcf;exact ⟨_,.bool q,by simp [execOp,ho,asBool,h1,h3],VA.scalar rfl,AV.lt_v _ _,h⟩
 · rename_i p hp hq;split at h;rotate_left;cases h
   rename_i hct;have h2:=S.bool hp;subst hct;exact ⟨_,.bool p,by simp [execOp,ho,asBool,h1,h2],VA.scalar rfl,AV.lt_v _ _,h⟩
 · cases h
theorem isBool_ok {E:Env} (hE:EnvOk E) {t:Nat} (h:isBool E t=true):E.P.underlying t=some .bool:=by
 unfold isBool at h;split at h;rotate_left;cases h
 rename_i j hj;split at h;rotate_left;cases h
 rename_i hk;exact (hE.ty _ _ hj).bool hk
mutual
theorem rd_vc {P:Program} {w:World} {ok:Nat->Prop} {β:Nat->Value}:(sh:Sh)->(t:Nat)->(cs:List C)->(x:Ty sh)->(rest:List C)->(us:List Value)->eqTy P sh t=true->rd sh cs=some (x,rest)->All2 (VC w ok β) cs us->
    ∃vs ws,us=vs++ws/\repT w ok sh x vs/\All2 (VC w ok β) rest ws
  | .b,t,[],x,rest,us,he,h,hm=>by simp [rd,headC] at h
  | .b,t,c::cs,x,rest,[],he,h,hm=>hm.elim
  | .b,t,c::cs,x,rest,u::us,he,h,hm=>by
    cases c<;>simp [rd,headC,C.isBool] at h
    rename_i v;cases v<;>simp at h
    obtain ⟨rfl,rfl⟩:=h
    have:=hm.1
    simp only [VC,rep] at this;obtain ⟨rfl,_⟩:=this;exact ⟨[_],us,rfl,by simp only [repT],hm.2⟩
  | .i k,t,[],x,rest,us,he,h,hm=>by simp [rd,headC] at h
  | .i k,t,c::cs,x,rest,[],he,h,hm=>hm.elim
  | .i k,t,c::cs,x,rest,u::us,he,h,hm=>by
    cases c<;>simp [rd,headC,C.isInt] at h
    rename_i v;cases v<;>simp at h
    rename_i k' n;by_cases hk:k=k'
    · subst hk;simp at h;obtain ⟨rfl,rfl⟩:=h
      have:=hm.1
      simp only [VC,rep] at this;obtain ⟨rfl,_⟩:=this;exact ⟨[_],us,rfl,by simp only [repT],hm.2⟩
    · simp [hk] at h
  | .s,t,[],x,rest,us,he,h,hm=>by simp [rd,headC] at h
  | .s,t,c::cs,x,rest,[],he,h,hm=>hm.elim
  | .s,t,c::cs,x,rest,u::us,he,h,hm=>by
    cases c<;>simp [rd,headC,C.isString] at h
    rename_i v;cases v<;>simp at h
    obtain ⟨rfl,rfl⟩:=h
    have:=hm.1
    simp only [VC,rep] at this;obtain ⟨rfl,_⟩:=this;exact ⟨[_],us,rfl,by simp only [repT],hm.2⟩
  | .l _ _,t,cs,x,rest,us,he,h,hm=>by simp [eqTy] at he
  | .a fs,t,cs,x,rest,us,he,h,hm=>by
    unfold eqTy at he;split at he;rotate_left;cases he
    rename_i ds _;rw [sZ] at he;simp only [rd] at h;obtain ⟨vs,ws,h1,h2,h3⟩:=rdL_vc fs ds.toList 0 cs x rest us he.2 h hm;exact ⟨vs,ws,h1,by simp only [repT];exact h2,h3⟩
theorem rdL_vc {P:Program} {w:World} {ok:Nat->Prop} {β:Nat->Value}:(fs:List Sh)->(ds:List Field)->(off:Nat)->(cs:List C)->(x:TyL fs)->(rest:List C)->(us:List Value)->eqTyL P fs ds off=true->rdL fs cs=some (x,rest)->All2 (VC w ok β) cs us->
    ∃vs ws,us=vs++ws/\repTL w ok fs x vs/\All2 (VC w ok β) rest ws
  | [],ds,off,cs,x,rest,us,he,h,hm=>by
    simp only [rdL,nZ,Prod.mk.injEq] at h;obtain ⟨_,rfl⟩:=h;exact ⟨[],us,rfl,by simp only [repTL],hm⟩
  | [f],[],off,cs,x,rest,us,he,h,hm=>by simp [eqTyL] at he
  | [f],d::ds,off,cs,x,rest,us,he,h,hm=>by
    simp only [eqTyL,sZ] at he;simp only [rdL] at h;obtain ⟨vs,ws,h1,h2,h3⟩:=rd_vc f d.type cs x rest us he.2.1.2 h hm;exact ⟨vs,ws,h1,by simp only [repTL];exact h2,h3⟩
  | f::g::r,[],off,cs,x,rest,us,he,h,hm=>by simp [eqTyL] at he
  | f::g::r,d::ds,off,cs,x,rest,us,he,h,hm=>by
    rw [eqTyL] at he;simp only [sZ] at he;simp only [rdL] at h;split at h;rotate_left;cases h
    rename_i a r1 hr1;split at h;rotate_left;cases h
    rename_i b r2 hr2;cases h
    obtain ⟨vs,ws,rfl,h2,h3⟩:=rd_vc f d.type cs a r1 us he.2.1.2 hr1 hm;obtain ⟨vs',ws',rfl,h4,h5⟩:=rdL_vc (g::r) ds (off+f.n) r1 b _ ws he.2.2 hr2 h3;exact ⟨vs++vs',ws',by rw [List.append_assoc],by simp only [repTL];exact ⟨vs,vs',rfl,h2,h4⟩,h5⟩
end
theorem eqTy_part {P:Program} {sh:Sh} {t:Nat} (h:eqTy P sh t=true) (hc:P.cellsOf t=sh.n) {w:World} {us:List Value} {off:Nat} (hl:off+sh.n<=us.length):
    (part t us.toArray off).run P w= .ok (valOf sh.agg ((us.drop off).take sh.n)) w:=by
  have one:∀{d:TypeDesc},P.underlying t=some d->((isAgg t).run P w= .ok false w)->sh.n=1->sh.agg=false->(part t us.toArray off).run P w= .ok (valOf sh.agg ((us.drop off).take sh.n)) w:=by
    intro d hu hag hn ha;rw [hn] at hl;have h2:off<us.length:=by omega
    have h3:us.drop off=us[off]::us.drop (off+1):=cZ h2;have h4:(List.take 1 (List.drop off us)).headD undef=us[off]:=by rw [h3];rfl
    unfold part valOf;rw [aY,hag,ha,hn];simp only [oZ,Bool.false_eq_true,if_false,h4];simp [h2]
  cases sh with
  | b=>
    unfold eqTy at h;split at h;rotate_left;cases h
    rename_i hu;exact one hu (by unfold isAgg;rw [aY,run_underlying hu w];simp) (by simp [Sh.n]) rfl
  | i k=>
    unfold eqTy at h;split at h;rotate_left;cases h
    rename_i hu;exact one hu (by unfold isAgg;rw [aY,run_underlying hu w];simp) (by simp [Sh.n]) rfl
  | s=>
    unfold eqTy at h;split at h;rotate_left;cases h
    rename_i hu;exact one hu (by unfold isAgg;rw [aY,run_underlying hu w];simp) (by simp [Sh.n]) rfl
  | l e sh=>simp [eqTy] at h
  | a fs=>
    unfold eqTy at h;split at h;rotate_left;cases h
    rename_i ds hu;have hag:(isAgg t).run P w= .ok true w:=by unfold isAgg;rw [aY,run_underlying hu w];simp
    have hsz:(sizeOf t).run P w= .ok (P.cellsOf t) w:=by
      unfold Program.underlying at hu;cases hi:P.info? t with
      | none=>rw [hi] at hu;cases hu
      | some i=>simp [sizeOf,typeInfo,hi,Program.cellsOf]
    unfold part valOf;rw [aY,hag];simp only [oZ,if_true,aY,hsz,hc,Sem.run_pure,Sh.agg]
    congr 2
    rw [List.extract_toArray];simp [List.extract_eq_take_drop]
mutual
theorem run_eqT {P:Program} {w w1:World} {ok:Nat->Prop}:(sh:Sh)->(t:Nat)->(d:Nat)->eqTy P sh t=true->sh.dep<=d->(x y:Ty sh)->(us vs:List Value)->repT w ok sh x us->repT w ok sh y vs->
    (Op.equalIn (d+1) t (valOf sh.agg us) (valOf sh.agg vs)).run P w1= .ok (eqT sh x y) w1
  | .b,t,d,he,hd,x,y,us,vs,hu,hv=>by
    unfold eqTy at he;split at he;rotate_left;cases he
    rename_i hb;simp only [repT] at hu hv;subst hu hv;simp only [valOf,Sh.agg,Bool.false_eq_true,if_false,List.headD_cons,eqT,eqB];exact run_equalIn_bool' w1 d t x y hb
  | .i k,t,d,he,hd,x,y,us,vs,hu,hv=>by
    unfold eqTy at he;split at he;rotate_left;cases he
    rename_i hb;simp only [repT] at hu hv;subst hu hv;simp only [valOf,Sh.agg,Bool.false_eq_true,if_false,List.headD_cons,eqT,eqI];exact run_equalIn_int w1 d t k _ x y hb
  | .s,t,d,he,hd,x,y,us,vs,hu,hv=>by
    unfold eqTy at he;split at he;rotate_left;cases he
    rename_i hb;simp only [repT] at hu hv;subst hu hv;simp only [valOf,Sh.agg,Bool.false_eq_true,if_false,List.headD_cons,eqT,eqS];exact run_equalIn_string w1 d t x y hb
  | .l _ _,t,d,he,hd,x,y,us,vs,hu,hv=>by simp [eqTy] at he
  | .a fs,t,0,he,hd,x,y,us,vs,hu,hv=>by simp [Sh.dep] at hd
  | .a fs,t,d+1,he,hd,x,y,us,vs,hu,hv=>by
    unfold eqTy at he;split at he;rotate_left;cases he
    rename_i ds hb;simp only [sZ,Bool.not_eq_true'] at he;simp only [Sh.dep] at hd;simp only [repT] at hu hv;simp only [valOf,Sh.agg,if_true,eqT];have hf:P.fieldsOf t=ds:=by unfold Program.fieldsOf;rw [hb]
    rw [run_equalIn_struct w1 (d+1) t _ _ (by rw [hf];exact hb) he.1,hf]
    exact run_eqTL fs ds.toList d 0 he.2 (by omega) x y us vs (by simpa using hu) (by simpa using hv) (by rw [repTL_len fs x us hu];simp) (by rw [repTL_len fs y vs hv];simp)
theorem run_eqTL {P:Program} {w w1:World} {ok:Nat->Prop}:(fs:List Sh)->(ds:List Field)->(d:Nat)->(off:Nat)->eqTyL P fs ds off=true->Sh.depL fs<=d->(x y:TyL fs)->(us vs:List Value)->repTL w ok fs x (us.drop off)->repTL w ok fs y (vs.drop off)->
    us.length=off+Sh.nL fs->vs.length=off+Sh.nL fs->(Op.eqFields (d+1) us.toArray vs.toArray ds).run P w1= .ok (eqTL fs x y) w1
  | [],[],d,off,he,hd,x,y,us,vs,hu,hv,hl,hm=>by simp [Op.eqFields,eqTL]
  | [],_::_,d,off,he,hd,x,y,us,vs,hu,hv,hl,hm=>by simp [eqTyL] at he
  | [f],[],d,off,he,hd,x,y,us,vs,hu,hv,hl,hm=>by simp [eqTyL] at he
  | [f],D::ds,d,off,he,hd,x,y,us,vs,hu,hv,hl,hm=>by
    simp only [eqTyL,sZ,bne_iff_ne,ne_eq,beq_iff_eq] at he;obtain ⟨⟨hn,ho⟩,⟨hc,ht⟩,hr⟩:=he;have hds:ds=[]:=by cases ds with | nil=>rfl | cons _ _=>simp [eqTyL] at hr
    subst hds;simp only [Sh.nL,Nat.add_zero] at hl hm;simp only [Sh.depL] at hd;simp only [repTL] at hu hv;have e1:(us.drop off).take f.n=us.drop off:=List.take_of_length_le (by rw [List.length_drop];omega)
    have e2:(vs.drop off).take f.n=vs.drop off:=List.take_of_length_le (by rw [List.length_drop];omega)
    simp only [Op.eqFields,dY hn,aY,ho];rw [eqTy_part ht hc (by omega),e1]
    simp only [oZ];rw [eqTy_part ht hc (by omega),e2]
    simp only [oZ];rw [run_eqT f D.type d ht (by omega) x y _ _ hu hv]
    simp only [oZ,eqTL];cases eqT f x y<;>simp
  | f::g::r,[],d,off,he,hd,x,y,us,vs,hu,hv,hl,hm=>by simp [eqTyL] at he
  | f::g::r,D::ds,d,off,he,hd,x,y,us,vs,hu,hv,hl,hm=>by
    rw [eqTyL] at he;simp only [sZ,bne_iff_ne,ne_eq,beq_iff_eq] at he;obtain ⟨⟨hn,ho⟩,⟨hc,ht⟩,hr⟩:=he;rw [Sh.nL] at hl hm;rw [Sh.depL] at hd;simp only [repTL] at hu hv;obtain ⟨a1,b1,eu,hu1,hu2⟩:=hu;obtain ⟨a2,b2,ev,hv1,hv2⟩:=hv;have n1:=repT_len f _ _ hu1;have n2:=repT_len f _ _ hv1;have e1:(us.drop off).take f.n=a1:=by rw [eu,<-n1];simp
    have e2:(vs.drop off).take f.n=a2:=by rw [ev,<-n2];simp
    have d1:us.drop (off+f.n)=b1:=by rw [<-List.drop_drop,eu,<-n1];simp
    have d2:vs.drop (off+f.n)=b2:=by rw [<-List.drop_drop,ev,<-n2];simp
    have ih:=run_eqTL (w1:=w1) (g::r) ds d (off+f.n) hr (by omega) x.2 y.2 us vs (by rw [d1];exact hu2) (by rw [d2];exact hv2) (by omega) (by omega)
    rw [Op.eqFields,dY hn];simp only [aY,ho];rw [eqTy_part ht hc (by omega),e1]
    simp only [oZ];rw [eqTy_part ht hc (by omega),e2]
    simp only [oZ];rw [run_eqT f D.type d ht (by omega) x.1 y.1 _ _ hu1 hv1]
    simp only [oZ];rw [eqTL];cases eqT f x.1 y.1 with
    | true=>simpa using ih
    | false=>simp
end
theorem gives_structEq (hE:EnvOk E) (S:Sim G w0 st a w β Lf) {op:BinOp} {t u:TypeId} {x y:Operand} (ho:o.op= .binOp op t x y u) (h:(structEq E t op (st.ev x) (st.ev y) fun b=>K (.c (.v (.bool b))))=some r):Gives G E st a w β Lf o K r:=by
 unfold structEq at h;split at h;rotate_left;cases h
 rename_i i xs ys hi hx hy;split at h;rotate_left;cases h
 rename_i hc;simp only [sZ,pZ,Bool.not_eq_true'] at hc;obtain ⟨hag,hd,he,hg⟩:=hc;split at h;rotate_left;cases h
 rename_i p q hp hq;obtain ⟨h1,_⟩:=S.ev hx;obtain ⟨h2,_⟩:=S.ev hy;obtain ⟨us,e1,g1⟩:∃us:List Value,a.eval x= .agg us.toArray/\All2 (VC w (imm G st Lf) β) xs us:=h1;obtain ⟨vs,e2,g2⟩:∃vs:List Value,a.eval y= .agg vs.toArray/\All2 (VC w (imm G st Lf) β) ys vs:=h2;obtain ⟨us1,us2,rfl,f1,k1⟩:=rd_vc i.sh t xs p [] us he hp g1;obtain ⟨vs1,vs2,rfl,f2,k2⟩:=rd_vc i.sh t ys q [] vs he hq g2
 obtain rfl:us2=[]:=by cases us2 with | nil=>rfl | cons _ _=>exact k1.elim
 obtain rfl:vs2=[]:=by cases vs2 with | nil=>rfl | cons _ _=>exact k2.elim
 simp only [List.append_nil] at e1 e2;have hgd:(eqGuard op t x y (.agg us1.toArray) (.agg vs1.toArray)).run E.P w= .ok () w:=run_eqGuard_agg w op t x y _ _ hg;have heq:=run_eqT (w1:=w) i.sh t 9999 he hd p q us1 vs1 f1 f2;simp only [valOf,hag,if_true] at heq;split at h
 · refine ⟨_,.bool (eqT i.sh p q),?_,VA.scalar rfl,AV.lt_v _ _,h⟩
   simp only [execOp,ho,e1,e2,aY,hgd,oZ];simp [run_eql_struct,heq]
 · refine ⟨_,.bool (!eqT i.sh p q),?_,VA.scalar rfl,AV.lt_v _ _,h⟩
   simp only [execOp,ho,e1,e2,aY,hgd,oZ];simp [run_neq_struct,heq]
 · cases h
theorem gives_bin (hE:EnvOk E) (S:Sim G w0 st a w β Lf) {op:BinOp} {t u:TypeId} {x y:Operand} (ho:o.op= .binOp op t x y u) (h:opv E st o K N=some r):Gives G E st a w β Lf o K r\/N=some r:=by
  simp only [opv,ho] at h;split at h
  · rename_i p q hp hq;left
    split at h
    · rename_i hb;have hu:=isBool_ok hE hb;unfold binB at h;split at h;rotate_left;cases h
      rename_i b c;have hg:(eqGuard op t x y (.bool b) (.bool c)).run E.P w= .ok () w:=by
        unfold eqGuard;split<;>simp
      have he:(Op.equal t (.bool b) (.bool c)).run E.P w= .ok (b==c) w:=by
        have gen:∀d,(Op.equalIn (d+1) t (.bool b) (.bool c)).run E.P w= .ok (b==c) w:=fun d=>by simp [Op.equalIn,run_underlying hu]
        exact gen 9999
      split at h
      · exact ⟨_,.bool (b==c),by simp [execOp,ho,S.sc hp,S.sc hq,hg,binOp,he],VA.scalar rfl,AV.lt_v _ _,h⟩
      · exact ⟨_,.bool (!(b==c)),by simp [execOp,ho,S.sc hp,S.sc hq,hg,binOp,he],VA.scalar rfl,AV.lt_v _ _,h⟩
      · cases h
    · obtain ⟨v,h1,h2,h3⟩:=bin_sound (P:=E.P) h t x y w;refine ⟨_,v,?_,VA.scalar h2,AV.lt_v _ _,h3⟩
      rw [aY] at h1;simp only [execOp,ho,S.sc hp,S.sc hq,aY];generalize (eqGuard op t x y p q).run E.P w=g at h1 ⊢;cases g with
      | ok x w'=>
        simp only [oZ] at h1 ⊢;rw [h1];rfl
      | halt x w'=>simp at h1
  · split at h
    · exact .inr h
    · exact .inl (gives_structEq hE S ho h)
theorem run_bounds {P:Program} (w:World) {st:St} {a:Act} (hi_:∀(x:Operand) (n:Int),st.int x=some n->a.eval x= .int .i64 n) {isS:Bool} {len cap:Nat} {lo hi:Option Operand} {l h:Int} (e1:st.bnd 0 lo=some l) (e2:st.bnd len hi=some h) (h0:0<=l) (h1:l<=h) (h2:h<=(len:Int)) (h3:len<=cap):
    (Instr.sliceBounds isS len cap (lo.map a.eval) (hi.map a.eval) none).run P w= .ok (l.toNat,h.toNat,cap) w:=by
  cases lo with
  | none=>
    simp only [St.bnd,nZ] at e1;subst e1;cases hi with
    | none=>
      simp only [St.bnd,nZ] at e2;subst e2;simp [Instr.sliceBounds]
    | some y=>
      simp only [St.bnd] at e2;have q2:=hi_ y h e2;simp [Instr.sliceBounds,q2,run_sliceBound,h0,h1,h2,(by omega:h<=(cap:Int))]
  | some x=>
    simp only [St.bnd] at e1;have q1:=hi_ x l e1;cases hi with
    | none=>
      simp only [St.bnd,nZ] at e2;subst e2;simp [Instr.sliceBounds,q1,run_sliceBound,h0,h1]
    | some y=>
      simp only [St.bnd] at e2;have q2:=hi_ y h e2;have e:(h.toNat:Int)=h:=Int.toNat_of_nonneg (by omega)
      simp [Instr.sliceBounds,q1,q2,run_sliceBound,h0,h1,h2,e,(by omega:0<=h),(by omega:h<=(cap:Int))]
theorem gives_slice (hE:EnvOk E) (S:Sim G w0 st a w β Lf) {t:TypeId} {x:Operand} {lo hi mx:Option Operand} (ho:o.op= .slice t x lo hi mx) (h:opv E st o K N=some r):Gives G E st a w β Lf o K r:=by
 simp only [opv,ho] at h;unfold slcK at h;split at h
 · rename_i hs;have hu:=isStr_ok hE hs;split at h;rotate_left;cases h
   rename_i s hx;have hv:a.eval x= .string s:=by
    have:=(S.ev hx).1
    have h1:rep w (imm G st Lf) (.v (.string s)) (a.eval x):=this;simp only [rep] at h1;exact h1.1
   split at h;rotate_left;cases h
   rename_i l q e1 e2;split at h;rotate_left;cases h
   rename_i h0;split at h;rotate_left;cases h
   rename_i h1;split at h;rotate_left;cases h
   rename_i h2;have hb:=run_bounds (P:=E.P) w (a:=a) (fun x n hx=>S.int hx) (isS:=false) e1 e2 h0 h1 h2 (cY _)
   refine ⟨_,.string (s.extract l.toNat q.toNat),?_,VA.scalar rfl,AV.lt_v _ _,h⟩
   simp [execOp,ho,hv,Instr.sliceAt,Instr.slice,run_underlying hu,hb]
 · split at h;rotate_left;cases h
   rename_i e j c hel hx;obtain ⟨hu,hT⟩:=elemTy_ok hE hel;have hc:VC w (imm G st Lf) β c (a.eval x):=(S.ev hx).1;split at h
   · split at h;rotate_left;cases h
     rename_i m _ _ y;split at h;rotate_left;cases h
     rename_i p q n hy hm hn;split at h;rotate_left;cases h
     rename_i hp0;split at h;rotate_left;cases h
     rename_i hq0;subst hp0 hq0;obtain ⟨A,n',c',hv⟩:∃A n c,a.eval x= .slice A n c:=by
      cases c<;>simp only [St.len] at hn
      case v v=>
       split at hn<;>first | (cases hn;done) | skip
       all_goals
        rename_i heq
        first
         | (cases heq;simp only [VC,rep] at hc;exact ⟨_,_,_,hc.1⟩)
         | cases heq
      case l e' sh xs=>simp only [VC,rep] at hc;obtain ⟨A,c,hv,_⟩:=hc;exact ⟨A,_,c,hv⟩
      case ref hh=>simp only [VC] at hc;exact hc.2
      case emp=>simp only [VC,rep] at hc;obtain ⟨A,hv⟩:=hc;exact ⟨A,0,0,hv⟩
      case sub=>simp only [VC] at hc;obtain ⟨A,_,_,_,_,_,_,hv⟩:=hc;exact ⟨_,_,_,hv⟩
      all_goals cases hn
     refine ⟨_,.slice A 0 0,?_,(by show rep w (imm G st Lf) .emp _;simp only [rep];exact ⟨A,rfl⟩),(by intro h hh;simp [C.hs] at hh),h⟩
     have h1:=S.int hy;have h2:=S.int hm;have hz:=hT.run_sizeOf w;simp [execOp,ho,hv,h1,h2,Instr.sliceAt,Instr.slice,run_underlying hu,Instr.sliceBounds,run_sliceBound,hz]
   · split at h
     · rename_i e' sh xs;split at h;rotate_left;cases h
       rename_i l q e1 e2;split at h;rotate_left;cases h
       rename_i hj;split at h;rotate_left;cases h
       rename_i h0;split at h;rotate_left;cases h
       rename_i h1;split at h;rotate_left;cases h
       rename_i h2;simp only [VC,rep] at hc;obtain ⟨A,cp,hv,hle,hmx,hm⟩:=hc;have hb:=run_bounds (P:=E.P) w (a:=a) (fun x n hx=>S.int hx) (isS:=true) e1 e2 h0 h1 h2 hle
       have hz:=hT.run_sizeOf w;have hlen:((xs.take q.toNat).drop l.toNat).length=q.toNat-l.toNat:=by
        rw [List.length_drop,List.length_take];omega
       refine ⟨_,.slice (if cp=l.toNat then A else A.map (·.add (l.toNat*j.sz))) (q.toNat-l.toNat) (cp-l.toNat),?_,?_,(by intro h hh;simp [C.hs] at hh),h⟩
       · simp [execOp,ho,hv,Instr.sliceAt,Instr.slice,run_underlying hu,hb,hz]
       · show rep w (imm G st Lf) (.l e' sh _) _
         simp only [rep];refine ⟨_,_,by rw [hlen],by rw [hlen];omega,by omega,fun hp=> ?_⟩
         rw [hlen] at hp;have hp':0<xs.length:=by clear hm;omega
         obtain ⟨ad,rfl,g1,g2,g3⟩:=hm hp';rw [eY (by clear hm g3;omega)]
         refine ⟨_,rfl,by rw [block_add];exact g1,by rw [block_add];exact g2,fun k y hy=> ?_⟩
         rw [mZ,lZ] at hy
         split at hy;rotate_left;cases hy
         obtain ⟨vs,g4,g5⟩:=g3 _ _ hy;refine ⟨vs,g4,fun i v hi'=> ?_⟩
         have:=g5 i v hi'
         have ea:(ad.add (l.toNat*j.sz)).add (k*sh.n+i)=ad.add ((l.toNat+k)*sh.n+i):=by
          rw [hj,Nat.add_mul,Nat.add_assoc];unfold Addr.add;split<;>split<;>split<;>simp_all [Nat.add_assoc]
         rw [ea];exact this
     · rename_i n;split at h;rotate_left;cases h
       rename_i e' sh xs hob;split at h;rotate_left;cases h
       rename_i l q e1 e2;split at h;rotate_left;cases h
       rename_i hj;split at h;rotate_left;cases h
       rename_i h0;split at h;rotate_left;cases h
       rename_i h1;split at h;rotate_left;cases h
       rename_i h2;obtain ⟨hv0,_⟩:a.eval x=β n/\∃A n c,a.eval x= .slice A n c:=hc;obtain ⟨A,cp,hbv,hle⟩:=ownRow_val (show ownRow w e' sh.n (ownT w sh) xs (β n) (Lf n) from S.obs _ _ hob)
       have hv:=hv0.trans hbv;have hb:=run_bounds (P:=E.P) w (a:=a) (fun x n hx=>S.int hx) (isS:=true) e1 e2 h0 h1 h2 hle
       have hz:=hT.run_sizeOf w;refine ⟨.c (.sub n sh.n l.toNat q.toNat),.slice (if cp=l.toNat then A else A.map (·.add (l.toNat*sh.n))) (q.toNat-l.toNat) (cp-l.toNat),?_,⟨A,xs.length,cp,hbv,by omega,by omega,hle,rfl⟩,(show C.lt st.nx (.ref n) from (S.ev hx).2),h⟩
       simp [execOp,ho,hv,Instr.sliceAt,Instr.slice,run_underlying hu,hb,hz,hj]
     · cases h
theorem gives_un (S:Sim G w0 st a w β Lf) {op:UnOp} {t:TypeId} {x:Operand} (ho:o.op= .unOp op t x) (h:opv E st o K N=some r):Gives G E st a w β Lf o K r:=by
 simp only [opv,ho] at h;split at h;rotate_left;cases h
 rename_i p hp;split at h;rotate_left;cases h
 rename_i v hv;obtain ⟨h1,h2⟩:=un_sound (P:=E.P) hv w;refine ⟨_,v,?_,VA.scalar h2,AV.lt_v _ _,h⟩
 simp [execOp,ho,S.sc hp,h1]
theorem gives_convert (hE:EnvOk E) (S:Sim G w0 st a w β Lf) {t t':TypeId} {x:Operand} (ho:o.op= .convert t' t x) (h:opv E st o K N=some r):Gives G E st a w β Lf o K r:=by
 simp only [opv,ho] at h;split at h
 · rename_i k i k' n hk hi hn;obtain ⟨inf,d,z,h1,h2,_⟩:=(hE.ty _ _ hi).parts;refine ⟨_,.int k (k.wrap n),?_,VA.scalar rfl,AV.lt_v _ _,h⟩
   simp only [execOp,ho,S.sc hn,convert,aY,run_underlying h2,run_underlying (intTy_ok hE hk),oZ];cases d<;>simp [Conv.intToInt]
 · split at h;rotate_left;cases h
   rename_i hs;split at h;rotate_left;cases h
   rename_i e j c hel hv;obtain ⟨ht,hj⟩:=elemTy_ok hE hel;split at h;rotate_left;cases h
   rename_i b hb;refine ⟨_,.string b,?_,VA.scalar rfl,AV.lt_v _ _,h⟩
   obtain ⟨hva,hlt⟩:=S.ev hv;unfold St.bytes at hb;split at hb;rotate_left;cases hb
   rename_i hh;split at hb;rotate_left;cases hb
   rename_i hsh;split at hb;rotate_left;cases hb
   rename_i e' x0 r hob;cases hb
   obtain ⟨hu,_⟩:a.eval x=β hh/\∃A n c,a.eval x= .slice A n c:=hva;have hor:ownRow w e' (Sh.n (.i .u8)) (ownT w (.i .u8)) (x0::r) (β hh) (Lf hh):=S.obs _ _ hob;rcases hor with ⟨h0,_⟩ | ⟨g,off,cap,cur,L',hgv,hg,hlc,hcm,hcs,_,hrow⟩
   · cases h0
   · have hee:E.P.underlying e=some (.int .u8):=hj.int hsh;have hr:=run_convert_bytes_arg (P:=E.P) w _ e ht hee g off (x0::r).length cap (x0::r) rfl (fun i hi=>by
      obtain ⟨L1,_,h1⟩:=rowO_at hrow i ((x0::r)[i]) (dZ hi)
      simp only [ownT,Sh.n,Nat.mul_one] at h1;have h2:((cur.toList.drop off).drop i)[0]? =some (Value.int .u8 ((x0::r)[i])):=by
       have h3:=congrArg (·[0]?) h1.1;simpa [lZ] using h3
      rw [mZ,Nat.add_zero,mZ] at h2
      rw [cell_of_row w g _ cur e' (0,0) hg];rw [<-Array.getElem?_toList,h2,List.getD_eq_getElem?_getD]
      exact congrArg (fun z:Int=>some (Value.int .u8 z)) (congrArg (fun o:Option Int=>o.getD 0) (dZ (l:=(x0::r:List Int)) hi)).symm) _ (isStr_ok hE hs)
     simp only [execOp,ho,hu,hgv];rw [aY,hr];rfl
theorem gives_index (hE:EnvOk E) (S:Sim G w0 st a w β Lf) {t:TypeId} {x n:Operand} (ho:o.op= .index t x n) (h:opv E st o K N=some r):Gives G E st a w β Lf o K r:=by
 simp only [opv,ho] at h;split at h;rotate_left;cases h
 rename_i hs;split at h;rotate_left;cases h
 rename_i s i hx hn;split at h;rotate_left;cases h
 rename_i h0;split at h;rotate_left;cases h
 rename_i b hb;refine ⟨_,.int .u8 b.toNat,?_,VA.scalar rfl,AV.lt_v _ _,h⟩
 simp [execOp,ho,Instr.index,asIntOf,S.sc hx,S.int hn,run_underlying (isStr_ok hE hs),h0,hb]
end
end Go.V
namespace Go.V
open Go.RowKit (Below)
section
variable {E:Env} {G:Nat->Prop} {w0:Base} {st:St} {a:Act} {w:World} {β:Nat->Value} {Lf:Nat->List Nat}
theorem opv_sound {R:Type} {K:AV->Option R} {N:Option R} {r:R} {o:Oper} (hE:EnvOk E) (S:Sim G w0 st a w β Lf) (h:opv E st o K N=some r):Gives G E st a w β Lf o K r\/N=some r:=by
 cases ho:o.op
 case move x=>exact .inl (gives_move S (.inl ho) h)
 case assign x=>exact .inl (gives_move S (.inr ho) h)
 case pick x y z=>exact .inl (gives_pick S ho h)
 case binOp op t x y u=>exact gives_bin hE S ho h
 case unOp op t x=>exact .inl (gives_un S ho h)
 case convert t u x=>exact .inl (gives_convert hE S ho h)
 case index t x y=>exact .inl (gives_index hE S ho h)
 case field t x n=>exact .inl (gives_field hE S ho h)
 case fieldAddr t x n=>exact .inl (gives_fieldAddr hE S ho h)
 case extract x n=>exact .inl (gives_extract S ho h)
 case load t x=>exact gives_load hE S ho h
 case indexAddr t x n=>exact .inl (gives_indexAddr hE S ho h)
 case slice t x lo hi mx=>exact .inl (gives_slice hE S ho h)
 case call c=>
  obtain ⟨callee,args,tys⟩:=c;cases callee
  case builtin b=>
   cases b
   case len=>exact .inl (gives_len hE S ho h)
   case min=>exact .inl (gives_min S ho h)
   case max=>exact .inl (gives_max S ho h)
   all_goals (right;simpa only [opv,ho] using h)
  all_goals (right;simpa only [opv,ho] using h)
 all_goals (right;simpa only [opv,ho] using h)
theorem getD_set (tmps:Array Value) (d t:Nat) (u:Value) (hd:d<tmps.size):(tmps.setIfInBounds d u).getD t undef=if t=d then u else tmps.getD t undef:=by
 simp only [aZ,Array.getElem?_setIfInBounds]
 by_cases h:d=t
 · subst h;simp [hd]
 · rw [eY h,eY (fun e=>h e.symm)]
theorem getD_set_ne (tmps:Array Value) (d t:Nat) (u:Value) (hd:t≠d):(tmps.setIfInBounds d u).getD t undef=tmps.getD t undef:=by
 simp only [aZ,Array.getElem?_setIfInBounds]
 rw [eY (fun e=>hd e.symm)]
theorem put_tmps (a:Act) (d:Nat) (u:Value):(a.put (some d) u).tmps=a.tmps.setIfInBounds d u:=rfl
theorem put_size (a:Act) (d:Option Nat) (u:Value):(a.put d u).tmps.size=a.tmps.size:=by cases d<;>simp [Act.put]
theorem put_defers (a:Act) (d:Option Nat) (u:Value):(a.put d u).defers=a.defers:=by cases d<;>simp [Act.put]
theorem Sim.dropped (S:Sim G w0 st a w β Lf) (d:Tmp) (u:Value):Sim G w0 { st with sl:=del d st.sl } (a.put (some d) u) w β Lf:=by
 refine { fresh:=S.fresh,below:=S.below,defers:=by rw [put_defers];exact S.defers,size:=by rw [put_size];exact S.size,slots:= ?_,slt:= ?_,obs:=S.obs,olt:=S.olt,new:=S.new,nodup:=S.nodup,disj:=S.disj,pin:=S.pin,pinx:=S.pinx }
 · intro t v h;obtain ⟨hne,h⟩:=look_del h;rw [put_tmps,getD_set_ne _ _ _ _ hne];exact S.slots t v h
 · intro t v h;exact S.slt t v (look_del h).2
theorem Sim.set (S:Sim G w0 st a w β Lf) (d:Option Tmp) {v:AV} {u:Value} (hv:VA w (imm G st Lf) β v u) (hlt:v.lt st.nx):Sim G w0 (st.set d v) (a.put d u) w β Lf:=by
  cases d with
  | none=>exact S
  | some d=>
    simp only [St.set];split
    · rename_i hd;refine { fresh:=S.fresh,below:=S.below,defers:=by rw [put_defers];exact S.defers,size:=by rw [put_size];exact S.size,slots:= ?_,slt:= ?_,obs:=S.obs,olt:=S.olt,new:=S.new,nodup:=S.nodup,disj:=S.disj,pin:=S.pin,pinx:=S.pinx }
      · intro t v' h;by_cases ht:t=d
        · subst ht;rw [E1] at h;cases h
          rw [put_tmps,getD_set _ _ _ _ (jZ hd S.size),dY rfl];exact hv
        · rw [look_put_ne _ _ ht] at h;rw [put_tmps,getD_set_ne _ _ _ _ ht];exact S.slots t v' h
      · intro t v' h;by_cases ht:t=d
        · subst ht;rw [E1] at h;cases h
          exact hlt
        · rw [look_put_ne _ _ ht] at h;exact S.slt t v' h
    · exact S.dropped d u
theorem Sim.unset (S:Sim G w0 st a w β Lf) (d:Option Tmp):Sim G w0 (st.unset d) (a.put d undef) w β Lf:=S.set d (v:= .tup []) ⟨[],rfl,trivial⟩ (by intro p hp;cases hp)
theorem OB.step {w w1:World} {ok ok':Nat->Prop} {β β':Nat->Value} {o:Ob} {u:Value} {L:List Nat} {n:Nat} (h:OB w ok β o u L) (hn:o.lt n) (hw:∀k,ok k->k<w.heap.size->ok' k/\w1.heap[k]? =w.heap[k]?)
    (hL:KeptL L w w1) (hβ:∀h,h<n->β' h=β h):OB w1 ok' β' o u L:=by
  cases o with
  | var cs=>
    obtain ⟨b,ty,us,rfl,rfl,h1,h2⟩:=h;exact ⟨b,ty,us,rfl,rfl,(hL b (by simp)).trans h1,h2.imp fun c hc u hu=>hu.step hw fun h hh=>hβ h (hn c hc h hh)⟩
  | arr e sh xs=>exact ownRow_world hL (fun x vs L1 h1 h2=>ownT_world sh x vs L1 (fun b hb=>hL b (h1 b hb)) h2) h
  | opn e sh xs i cs=>
    obtain ⟨g,off,cap,cur,La,Lb,rfl,h1,h2,h3,h4,rfl,h5,h6,h7,h8⟩:=h;exact ⟨g,off,cap,cur,La,Lb,rfl,(hL g (by simp)).trans h1,h2,h3,h4,rfl,h5,rowO_imp h6 fun x vs L1 h9 h10=>ownT_world sh x vs L1 (fun b hb=>hL b (fZ _ (gZ _ (h9 b hb)))) h10,
      h7.imp fun c hc u hu=>hu.step hw fun h hh=>hβ h (hn c hc h hh),rowO_imp h8 fun x vs L1 h9 h10=>ownT_world sh x vs L1 (fun b hb=>hL b (fZ _ (eZ _ (h9 b hb)))) h10⟩
theorem Sim.kept (S:Sim G w0 st a w β Lf) {w':World} (hB:Below w.heap.size w w'):Sim G w0 st a w' β Lf:=by
 have hw:∀k,imm G st Lf k->k<w.heap.size->imm G st Lf k/\w'.heap[k]? =w.heap[k]? :=fun k hk hlt=>⟨hk,hB.block k hlt⟩
 refine { fresh:=S.fresh,below:=S.below.then (Chg.of_below hB []) (by simp),defers:=S.defers,size:=S.size,slots:=fun t v h=>(S.slots t v h).step (S.slt t v h) hw fun _ _=>rfl,slt:=S.slt,obs:= ?_,olt:=S.olt,new:= ?_,nodup:=S.nodup,disj:=S.disj,pin:=S.pin,pinx:=S.pinx }
 · intro h o ho;exact (S.obs h o ho).step (S.olt h o ho).2 hw (fun b hb=>hB.block b (S.new h o ho b hb).2) fun _ _=>rfl
 · intro h o ho b hb;exact ⟨(S.new h o ho b hb).1,jZ (S.new h o ho b hb).2 hB.size⟩
theorem Sim.fewer (S:Sim G w0 st a w β Lf) {ob':List (Nat×Ob)} (h:∀n o,look ob' n=some o->look st.ob n=some o):Sim G w0 { st with ob:=ob' } a w β Lf:=by
  have hw:∀k,imm G st Lf k->k<w.heap.size->imm G { st with ob:=ob' } Lf k/\w.heap[k]? =w.heap[k]? :=fun k hk _=>⟨⟨hk.1,fun n o ho=>hk.2 n o (h n o ho)⟩,rfl⟩
  exact { fresh:=S.fresh,below:=S.below,defers:=S.defers,size:=S.size,slots:=fun t v ht=>(S.slots t v ht).step (S.slt t v ht) hw fun _ _=>rfl,slt:=S.slt,
          obs:=fun n o ho=>(S.obs n o (h n o ho)).step (S.olt n o (h n o ho)).2 hw (fun _ _=>rfl) fun _ _=>rfl,olt:=fun n o ho=>S.olt n o (h n o ho),
          new:=fun n o ho=>S.new n o (h n o ho),nodup:=fun n o ho=>S.nodup n o (h n o ho),disj:=fun n o n' o' ho ho'=>S.disj n o n' o' (h n o ho) (h n' o' ho'),pin:=S.pin,pinx:=S.pinx }
def upd {α:Type} (f:Nat->α) (n:Nat) (x:α):Nat->α:=fun m=>if m=n then x else f m
theorem Z2 {α:Type} (f:Nat->α) (n:Nat) (x:α):upd f n x n=x:=dY rfl
theorem upd_ne {α:Type} (f:Nat->α) {n m:Nat} (x:α) (h:m≠n):upd f n x m=f m:=eY h
theorem upd_lt {α:Type} (f:Nat->α) {n m:Nat} (x:α) (h:m<n):upd f n x m=f m:=eY (by omega)
theorem Sim.add (S:Sim G w0 st a w β Lf) {o:Ob} {u:Value} {L:List Nat} (hn:∀b ∈ L,(w0.w.heap.size<=b\/b ∈ w0.T)/\b<w.heap.size) (hd:∀h o,look st.ob h=some o->∀b ∈ Lf h,b ∉ L) (hL:L.Nodup) (hlt:o.lt st.nx)
 (hfr:∀t v,look st.sl t=some v->VA w (fun k=>imm G st Lf k/\k ∉ L) β v (a.tmps.getD t undef)) (hob:∀h o,look st.ob h=some o->OB w (fun k=>imm G st Lf k/\k ∉ L) β o (β h) (Lf h))
 (hO:OB w (fun k=>imm G st Lf k/\k ∉ L) β o u L):
 Sim G w0 { st with ob:=put st.nx o st.ob,nx:=st.nx+1 } a w (upd β st.nx u) (upd Lf st.nx L):=by
 have key:∀h o',look (put st.nx o st.ob) h=some o'->(h=st.nx/\o'=o)\/(h<st.nx/\look st.ob h=some o'):=by
  intro h o' ho;by_cases e:h=st.nx
  · subst e;rw [E1] at ho;exact .inl ⟨rfl,(xZ ho).symm⟩
  · rw [look_put_ne _ _ e] at ho;exact .inr ⟨(S.olt h o' ho).1,ho⟩
 have himm:∀k,(imm G st Lf k/\k ∉ L)->k<w.heap.size->imm G { st with ob:=put st.nx o st.ob,nx:=st.nx+1 } (upd Lf st.nx L) k/\w.heap[k]? =w.heap[k]? :=by
  intro k hk _;refine ⟨⟨hk.1.1,fun h o' ho=> ?_⟩,rfl⟩
  rcases key h o' ho with ⟨rfl,rfl⟩ | ⟨hl,ho⟩
  · rw [Z2];exact hk.2
  · rw [upd_lt _ _ hl];exact hk.1.2 h o' ho
 have hβ:∀h,h<st.nx->upd β st.nx u h=β h:=fun h hh=>upd_lt _ _ hh
 refine { fresh:=S.fresh,below:=S.below,defers:=S.defers,size:=S.size,slots:=fun t v ht=>(hfr t v ht).step (S.slt t v ht) himm hβ,slt:= ?_,obs:= ?_,olt:= ?_,new:= ?_,nodup:= ?_,disj:= ?_,pin:=fun i hi=>(upd_lt _ _ (jZ hi S.pinx)).trans (S.pin i hi),pinx:=Nat.le_succ_of_le S.pinx }
 · intro t v ht
   have:=S.slt t v ht
   cases v with
   | c x=>exact fun h hh=>Nat.lt_succ_of_lt (this h hh)
   | agg cs=>exact fun c hc h hh=>Nat.lt_succ_of_lt (this c hc h hh)
   | tup xs=>exact fun p hp c hc h hh=>Nat.lt_succ_of_lt (this p hp c hc h hh)
 · intro h o' ho;rcases key h o' ho with ⟨rfl,rfl⟩ | ⟨hl,ho⟩
   · rw [Z2,Z2];exact hO.step hlt himm (fun _ _=>rfl) hβ
   · rw [upd_lt _ _ hl,upd_lt _ _ hl];exact (hob h o' ho).step (S.olt h o' ho).2 himm (fun _ _=>rfl) hβ
 · intro h o' ho;have up:∀o:Ob,o.lt st.nx->o.lt (st.nx+1):=fun o=>by
    cases o with
    | var cs=>exact fun h c hc x hx=>Nat.lt_succ_of_lt (h c hc x hx)
    | arr=>exact id
    | opn=>exact fun h c hc x hx=>Nat.lt_succ_of_lt (h c hc x hx)
   rcases key h o' ho with ⟨rfl,rfl⟩ | ⟨hl,ho⟩
   · exact ⟨Nat.lt_succ_self _,up _ hlt⟩
   · exact ⟨Nat.lt_succ_of_lt hl,up _ (S.olt h o' ho).2⟩
 · intro h o' ho b hb;rcases key h o' ho with ⟨rfl,rfl⟩ | ⟨hl,ho⟩
   · rw [Z2] at hb;exact hn b hb
   · rw [upd_lt _ _ hl] at hb;exact S.new h o' ho b hb
 · intro h o' ho;rcases key h o' ho with ⟨rfl,rfl⟩ | ⟨hl,ho⟩
   · rw [Z2];exact hL
   · rw [upd_lt _ _ hl];exact S.nodup h o' ho
 · intro h o1 h' o2 ho ho' hne b hb;rcases key h o1 ho with ⟨e1,e2⟩ | ⟨hl,hq⟩
   · rw [e1,Z2] at hb;rcases key h' o2 ho' with ⟨e3,e4⟩ | ⟨hl',hq'⟩
     · exact absurd (e1.trans e3.symm) hne
     · rw [upd_lt _ _ hl'];exact fun hb'=>hd h' o2 hq' b hb' hb
   · rw [upd_lt _ _ hl] at hb;rcases key h' o2 ho' with ⟨e3,e4⟩ | ⟨hl',hq'⟩
     · rw [e3,Z2];exact hd h o1 hq b hb
     · rw [upd_lt _ _ hl'];exact S.disj h o1 h' o2 hq hq' hne b hb
theorem Sim.apart (S:Sim G w0 st a w β Lf) {w':World} (hB:Below w.heap.size w w') {L:List Nat} (hL:∀b ∈ L,w.heap.size<=b):
 (∀t v,look st.sl t=some v->VA w' (fun k=>imm G st Lf k/\k ∉ L) β v (a.tmps.getD t undef))/\(∀h o,look st.ob h=some o->OB w' (fun k=>imm G st Lf k/\k ∉ L) β o (β h) (Lf h)):=by
 have hw:∀k,imm G st Lf k->k<w.heap.size->(imm G st Lf k/\k ∉ L)/\w'.heap[k]? =w.heap[k]? :=fun k hk hlt=>⟨⟨hk,fun hm=>by have:=hL k hm;omega⟩,hB.block k hlt⟩
 exact ⟨fun t v ht=>(S.slots t v ht).step (S.slt t v ht) hw fun _ _=>rfl,fun h o ho=>(S.obs h o ho).step (S.olt h o ho).2 hw (fun b hb=>hB.block b (S.new h o ho b hb).2) fun _ _=>rfl⟩
end
end Go.V
namespace Go.V
open Go.RowKit (Below)
section
variable {α:Type} {n:Nat} {R:α->List Value->List Nat->Prop}
theorem rowO_congr {xs:List α} {us us':List Value} {L:List Nat} (h:rowO n R xs us L) (he:us.take (xs.length*n)=us'.take (xs.length*n)):rowO n R xs us' L:=by
  induction xs generalizing us us' L with
  | nil=>exact h
  | cons x xs ih=>
    obtain ⟨L1,L2,rfl,h1,h2⟩:=h;have e1:us.take n=us'.take n:=by
      have:=congrArg (List.take n) he
      rw [List.take_take,List.take_take] at this;have hm:min n ((x::xs).length*n)=n:=by simp [Nat.add_mul]
      rwa [hm] at this
    refine ⟨L1,L2,rfl,e1▸h1,ih h2 ?_⟩
    have:=congrArg (List.drop n) he
    rw [List.drop_take,List.drop_take] at this;have hm:(x::xs).length*n-n=xs.length*n:=by simp [Nat.add_mul]
    rwa [hm] at this
theorem rowO_append {xs ys:List α} {us vs:List Value} {L1 L2:List Nat} (h1:rowO n R xs us L1) (hl:us.length=xs.length*n) (h2:rowO n R ys vs L2):rowO n R (xs++ys) (us++vs) (L1++L2):=by
  induction xs generalizing us L1 with
  | nil=>
    obtain rfl:L1=[]:=h1
    have:us=[]:=List.eq_nil_of_length_eq_zero (by simpa using hl)
    subst this;simpa using h2
  | cons x xs ih=>
    obtain ⟨La,Lb,rfl,h3,h4⟩:=h1;have hn:n<=us.length:=by rw [hl];simp [Nat.add_mul]
    refine ⟨La,Lb++L2,by simp,?_,?_⟩
    · rw [List.take_append_of_le_length hn];exact h3
    · rw [List.drop_append_of_le_length hn];exact ih h4 (by rw [List.length_drop,hl];simp [Nat.add_mul])
theorem rowO_drop {xs:List α} {us:List Value} {L:List Nat} (h:rowO n R xs us L):∀lo,∃L',rowO n R (xs.drop lo) (us.drop (lo*n)) L'/\(∀b ∈ L',b ∈ L)/\(L.Nodup->L'.Nodup):=by
  induction xs generalizing us L with
  | nil=>intro lo;exact ⟨[],by simp [rowO],by simp,fun _=>List.nodup_nil⟩
  | cons x xs ih=>
    intro lo;cases lo with
    | zero=>exact ⟨L,by simpa using h,fun b hb=>hb,fun h=>h⟩
    | succ lo=>
      obtain ⟨L1,L2,rfl,h1,h2⟩:=h;obtain ⟨L',h3,h4,h5⟩:=ih h2 lo;refine ⟨L',?_,fun b hb=>eZ _ (h4 b hb),fun hn=>h5 (qZ.1 hn).2.1⟩
      rw [List.drop_drop] at h3;rw [show (lo+1)*n=n+lo*n by rw [Nat.add_mul,Nat.one_mul,Nat.add_comm]]
      exact h3
theorem rowO_take {xs:List α} {us:List Value} {L:List Nat} (h:rowO n R xs us L):∀hi,∃L',rowO n R (xs.take hi) us L'/\(∀b ∈ L',b ∈ L)/\(L.Nodup->L'.Nodup):=by
  induction xs generalizing us L with
  | nil=>intro hi;exact ⟨[],by simp [rowO],by simp,fun _=>List.nodup_nil⟩
  | cons x xs ih=>
    intro hi;cases hi with
    | zero=>exact ⟨[],rfl,by simp,fun _=>List.nodup_nil⟩
    | succ hi=>
      obtain ⟨L1,L2,rfl,h1,h2⟩:=h;obtain ⟨L',h3,h4,h5⟩:=ih h2 hi;refine ⟨L1++L',⟨L1,L',rfl,h1,h3⟩,fun b hb=> ?_,fun hn=> ?_⟩
      · rcases wZ.1 hb with hb | hb
        · exact gZ _ hb
        · exact eZ _ (h4 b hb)
      · obtain ⟨g1,g2,g3⟩:=qZ.1 hn;exact qZ.2 ⟨g1,h5 g2,fun b hb b' hb'=>g3 b hb b' (h4 b' hb')⟩
theorem ownRow_part {w:World} {e:Nat} {xs:List α} {L:List Nat} {A:Option Addr} {m c:Nat} (h:ownRow w e n R xs (.slice A m c) L) {lo hi:Nat} (h1:lo<=hi) (h2:hi<=m):
 ∃L',ownRow w e n R ((xs.take hi).drop lo) (.slice (if c=lo then A else A.map (·.add (lo*n))) (hi-lo) (c-lo)) L'/\(∀b ∈ L',b ∈ L)/\(L.Nodup->L'.Nodup):=by
 rcases h with ⟨rfl,rfl,A',he⟩ | ⟨g,off,cap,cur,Lr,he,hg,hl,hm,hs,rfl,hr⟩
 · injection he with _ hm hc
   subst hm hc
   obtain rfl:hi=0:=by omega
   obtain rfl:lo=0:=by omega
   exact ⟨[],.inl ⟨by simp,rfl,A,by simp⟩,by simp,fun _=>List.nodup_nil⟩
 · injection he with hA hm' hc
   subst hA hm' hc;by_cases hcl:c=lo
   · refine ⟨[],.inl ⟨?_,rfl,some ⟨g,off,none⟩,?_⟩,by simp,fun _=>List.nodup_nil⟩
     · rw [List.drop_eq_nil_iff,List.length_take];omega
     · rw [dY hcl,show hi-lo=0 by omega,show c-lo=0 by omega]
   · obtain ⟨La,k1,k2,k3⟩:=rowO_take hr hi;obtain ⟨Lb,k4,k5,k6⟩:=rowO_drop k1 lo;have hlc:lo<=c:=by omega
     refine ⟨g::Lb,.inr ⟨g,off+lo*n,c-lo,cur,Lb,?_,hg,?_,by omega,?_,rfl,?_⟩,fun b hb=> ?_,fun hn=> ?_⟩
     · rw [eY hcl,Option.map_some,addr_add]
       congr 1
       rw [List.length_drop,List.length_take];omega
     · rw [List.length_drop,List.length_take];omega
     · rw [hs,Nat.sub_mul,Nat.add_assoc]
       have:lo*n<=c*n:=Nat.mul_le_mul_right _ hlc
       omega
     · rw [List.drop_drop] at k4;exact k4
     · rcases zZ.1 hb with rfl | hb
       · simp
       · exact fZ _ (k2 b (k5 b hb))
     · obtain ⟨g1,g2⟩:=List.nodup_cons.1 hn;exact List.nodup_cons.2 ⟨fun hm=>g1 (k2 g (k5 g hm)),k6 (k3 g2)⟩
theorem rowO_flat {xs:List α} {us:List Value} {L:List Nat} (h:rowO n R xs us L) (hf:∀x vs L,R x vs L->L=[]):L=[]:=by
  induction xs generalizing us L with
  | nil=>exact h
  | cons x xs ih=>
    obtain ⟨La,Lb,rfl,h1,h2⟩:=h;rw [hf _ _ _ h1,ih h2];rfl
end
end Go.V
namespace Go.V
open Go.RowKit (Below)
theorem Below.alloc1 (w:World) (o:Obj):Below w.heap.size w (w.alloc o):=(Below.refl _ w).alloc (cY _) o
theorem Chg.setRow (w:World) (g:Nat) (cs:Array Value):Chg [g] w (w.setRow g cs):=⟨rfl,rfl,rfl,by simp,fun k _ hk=>setRow_other w g k cs (by simpa using hk)⟩
section
variable {E:Env} {G:Nat->Prop} {w0:Base} {st:St} {a:Act} {w:World} {β:Nat->Value} {Lf:Nat->List Nat}
theorem Ob.lt_up {o:Ob} {n m:Nat} (h:o.lt n) (hm:n<=m):o.lt m:=by
 cases o with
 | var cs=>exact fun c hc x hx=>jZ (h c hc x hx) hm
 | arr=>exact h
 | opn=>exact fun c hc x hx=>jZ (h c hc x hx) hm
theorem AV.lt_up {v:AV} {n m:Nat} (h:v.lt n) (hm:n<=m):v.lt m:=by
 cases v with
 | c x=>exact fun y hy=>jZ (h y hy) hm
 | agg cs=>exact fun c hc y hy=>jZ (h c hc y hy) hm
 | tup xs=>exact fun p hp c hc y hy=>jZ (h p hp c hc y hy) hm
theorem Sim.gone (S:Sim G w0 st a w β Lf) {ob':List (Nat×Ob)} (hsub:∀n o,look ob' n=some o->look st.ob n=some o) {w':World} {L:List Nat} (hC:Chg L w w')
    (hL1:∀b ∈ L,∃h o,look st.ob h=some o/\b ∈ Lf h) (hL2:∀h o,look ob' h=some o->∀b ∈ Lf h,b ∉ L):Sim G w0 { st with ob:=ob' } a w' β Lf:=by
  have hnew:∀b ∈ L,w0.w.heap.size<=b\/b ∈ w0.T:=by
    intro b hb;obtain ⟨h,o,ho,hb⟩:=hL1 b hb;exact (S.new h o ho b hb).1
  have hw2:∀k,imm G st Lf k->k<w.heap.size->imm G { st with ob:=ob' } Lf k/\w'.heap[k]? =w.heap[k]? :=fun k hk hlt=>⟨⟨hk.1,fun n o ho=>hk.2 n o (hsub n o ho)⟩,hC.block k hlt fun hm=>by
    obtain ⟨h,o,ho,hb⟩:=hL1 k hm;exact hk.2 h o ho hb⟩
  exact { fresh:=S.fresh,below:=S.below.then hC hnew,defers:=S.defers,size:=S.size,slots:=fun t v ht=>(S.slots t v ht).step (S.slt t v ht) hw2 fun _ _=>rfl,slt:=S.slt,
          obs:=fun n o ho=>(S.obs n o (hsub n o ho)).step (S.olt n o (hsub n o ho)).2 hw2 (fun b hb=>hC.block b (S.new n o (hsub n o ho) b hb).2 (hL2 n o ho b hb)) fun _ _=>rfl,
          olt:=fun n o ho=>S.olt n o (hsub n o ho),new:=fun n o ho b hb=>⟨(S.new n o (hsub n o ho) b hb).1,jZ (S.new n o (hsub n o ho) b hb).2 hC.size⟩,
          nodup:=fun n o ho=>S.nodup n o (hsub n o ho),disj:=fun n o n' o' ho ho'=>S.disj n o n' o' (hsub n o ho) (hsub n' o' ho'),pin:=S.pin,pinx:=S.pinx }
theorem Sim.put_new (S:Sim G w0 st a w β Lf) {ob':List (Nat×Ob)} (hsub:∀n o,look ob' n=some o->look st.ob n=some o) {w':World} {o:Ob} {u:Value} {L:List Nat} (hC:Chg L w w')
    (hL1:∀b ∈ L,(w.heap.size<=b/\b<w'.heap.size)\/∃h o,look st.ob h=some o/\b ∈ Lf h) (hL2:∀h o,look ob' h=some o->∀b ∈ Lf h,b ∉ L) (hnd:L.Nodup) (hlt:o.lt st.nx)
    (hO:OB w' (fun k=>imm G { st with ob:=ob' } Lf k/\k ∉ L) β o u L):
    Sim G w0 { st with ob:=put st.nx o ob',nx:=st.nx+1 } a w' (upd β st.nx u) (upd Lf st.nx L):=by
  have himmL:∀k,imm G st Lf k->k<w.heap.size->k ∉ L:=by
    intro k hk hlt hm;rcases hL1 k hm with h | ⟨h,o,ho,hb⟩
    · omega
    · exact hk.2 h o ho hb
  have hw:∀k,imm G st Lf k->k<w.heap.size->(imm G { st with ob:=ob' } Lf k/\k ∉ L)/\w'.heap[k]? =w.heap[k]? :=fun k hk hlt=>
    ⟨⟨⟨hk.1,fun n o ho=>hk.2 n o (hsub n o ho)⟩,himmL k hk hlt⟩,hC.block k hlt (himmL k hk hlt)⟩
  have h0:w0.w.heap.size<=w.heap.size:=S.below.size;have hnew:∀b ∈ L,w0.w.heap.size<=b\/b ∈ w0.T:=by
    intro b hb;rcases hL1 b hb with h | ⟨h,o,ho,hb⟩
    · exact .inl (by omega)
    · exact (S.new h o ho b hb).1
  have S':Sim G w0 { st with ob:=ob' } a w' β Lf:=by
    have hw2:∀k,imm G st Lf k->k<w.heap.size->imm G { st with ob:=ob' } Lf k/\w'.heap[k]? =w.heap[k]? :=fun k hk hlt=>⟨(hw k hk hlt).1.1,(hw k hk hlt).2⟩
    exact { fresh:=S.fresh,below:=S.below.then hC hnew,defers:=S.defers,size:=S.size,slots:=fun t v ht=>(S.slots t v ht).step (S.slt t v ht) hw2 fun _ _=>rfl,slt:=S.slt,
            obs:=fun n o ho=>(S.obs n o (hsub n o ho)).step (S.olt n o (hsub n o ho)).2 hw2 (fun b hb=>hC.block b (S.new n o (hsub n o ho) b hb).2 (hL2 n o ho b hb)) fun _ _=>rfl,
            olt:=fun n o ho=>S.olt n o (hsub n o ho),new:=fun n o ho b hb=>⟨(S.new n o (hsub n o ho) b hb).1,jZ (S.new n o (hsub n o ho) b hb).2 hC.size⟩,
            nodup:=fun n o ho=>S.nodup n o (hsub n o ho),disj:=fun n o n' o' ho ho'=>S.disj n o n' o' (hsub n o ho) (hsub n' o' ho'),pin:=S.pin,pinx:=S.pinx }
  refine S'.add (o:=o) (u:=u) (L:=L) ?_ (fun h o ho b hb=>hL2 h o ho b hb) hnd hlt ?_ ?_ hO
  · intro b hb;refine ⟨hnew b hb,?_⟩
    rcases hL1 b hb with h | ⟨h,o,ho,hb⟩
    · exact h.2
    · exact jZ (S.new h o ho b hb).2 hC.size
  · exact fun t v ht=>(S.slots t v ht).step (S.slt t v ht) hw fun _ _=>rfl
  · exact fun n o ho=>(S.obs n o (hsub n o ho)).step (S.olt n o (hsub n o ho)).2 hw (fun b hb=>hC.block b (S.new n o (hsub n o ho) b hb).2 (hL2 n o ho b hb)) fun _ _=>rfl
theorem Sim.mod (S:Sim G w0 st a w β Lf) {ob':List (Nat×Ob)} (hsub:∀n o,look ob' n=some o->look st.ob n=some o) {w':World} {h:Nat} {o0 o:Ob} {L:List Nat} (hh:look ob' h=some o0) (hC:Chg (Lf h) w w')
 (hL1:∀b ∈ L,b ∈ Lf h\/∃h' o,look st.ob h'=some o/\h'≠h/\b ∈ Lf h') (hL2:∀h' o,look ob' h'=some o->h'≠h->∀b ∈ Lf h',b ∉ L) (hnd:L.Nodup) (hlt:o.lt st.nx)
 (hO:OB w' (fun k=>imm G st Lf k) β o (β h) L):
 Sim G w0 { st with ob:=put h o ob' } a w' β (upd Lf h L):=by
 have hh0:=hsub h o0 hh;have key:∀n o',look (put h o ob') n=some o'->(n=h/\o'=o)\/(n≠h/\look ob' n=some o'):=by
  intro n o' ho;by_cases e:n=h
  · subst e;rw [E1] at ho;exact .inl ⟨rfl,(xZ ho).symm⟩
  · rw [look_put_ne _ _ e] at ho;exact .inr ⟨e,ho⟩
 have himm:∀k,imm G st Lf k->k<w.heap.size->imm G { st with ob:=put h o ob' } (upd Lf h L) k/\w'.heap[k]? =w.heap[k]? :=by
  intro k hk hlt;refine ⟨⟨hk.1,fun n o' ho=> ?_⟩,hC.block k hlt (hk.2 h o0 hh0)⟩
  rcases key n o' ho with ⟨rfl,rfl⟩ | ⟨hne,ho⟩
  · rw [Z2];intro hm;rcases hL1 k hm with hb | ⟨h',o'',ho',_,hb⟩
    · exact hk.2 n o0 hh0 hb
    · exact hk.2 h' o'' ho' hb
  · rw [upd_ne _ _ hne];exact hk.2 n o' (hsub n o' ho)
 have hnew:∀b ∈ Lf h,w0.w.heap.size<=b\/b ∈ w0.T:=fun b hb=>(S.new h o0 hh0 b hb).1
 refine { fresh:=S.fresh,below:=S.below.then hC hnew,defers:=S.defers,size:=S.size,slots:=fun t v ht=>(S.slots t v ht).step (S.slt t v ht) himm fun _ _=>rfl,slt:=S.slt,obs:= ?_,olt:= ?_,new:= ?_,nodup:= ?_,disj:= ?_,pin:=S.pin,pinx:=S.pinx }
 · intro n o' ho;rcases key n o' ho with ⟨rfl,rfl⟩ | ⟨hne,ho⟩
   · rw [Z2];refine hO.step hlt (fun k hk hlt=>⟨⟨hk.1,?_⟩,rfl⟩) (fun _ _=>rfl) fun _ _=>rfl
     intro m o'' hm;rcases key m o'' hm with ⟨rfl,rfl⟩ | ⟨hne,hm⟩
     · rw [Z2];intro hk';rcases hL1 k hk' with hb | ⟨h',o2,ho',_,hb⟩
       · exact hk.2 m o0 hh0 hb
       · exact hk.2 h' o2 ho' hb
     · rw [upd_ne _ _ hne];exact hk.2 m o'' (hsub m o'' hm)
   · rw [upd_ne _ _ hne];exact (S.obs n o' (hsub n o' ho)).step (S.olt n o' (hsub n o' ho)).2 himm (fun b hb=>hC.block b (S.new n o' (hsub n o' ho) b hb).2 (S.disj n o' h o0 (hsub n o' ho) hh0 hne b hb)) fun _ _=>rfl
 · intro n o' ho;rcases key n o' ho with ⟨rfl,rfl⟩ | ⟨hne,ho⟩
   · exact ⟨(S.olt n o0 hh0).1,hlt⟩
   · exact S.olt n o' (hsub n o' ho)
 · intro n o' ho b hb;have go:∀n o'',look st.ob n=some o''->b ∈ Lf n->(w0.w.heap.size<=b\/b ∈ w0.T)/\b<w'.heap.size:=fun n o'' ho hb=>⟨(S.new n o'' ho b hb).1,jZ (S.new n o'' ho b hb).2 hC.size⟩
   rcases key n o' ho with ⟨rfl,rfl⟩ | ⟨hne,ho⟩
   · rw [Z2] at hb;rcases hL1 b hb with hb | ⟨h',o'',ho',_,hb⟩
     · exact go _ _ hh0 hb
     · exact go _ _ ho' hb
   · rw [upd_ne _ _ hne] at hb;exact go _ _ (hsub n o' ho) hb
 · intro n o' ho;rcases key n o' ho with ⟨rfl,rfl⟩ | ⟨hne,ho⟩
   · rw [Z2];exact hnd
   · rw [upd_ne _ _ hne];exact S.nodup n o' (hsub n o' ho)
 · intro n o1 m o2 hn hm hne b hb;rcases key n o1 hn with ⟨e1,e2⟩ | ⟨h1,hq⟩
   · rw [e1,Z2] at hb;rcases key m o2 hm with ⟨e3,e4⟩ | ⟨h2,hq'⟩
     · exact absurd (e1.trans e3.symm) hne
     · rw [upd_ne _ _ h2];exact fun hb'=>hL2 m o2 hq' h2 b hb' hb
   · rw [upd_ne _ _ h1] at hb;rcases key m o2 hm with ⟨e3,e4⟩ | ⟨h2,hq'⟩
     · rw [e3,Z2];exact hL2 n o1 hq h1 b hb
     · rw [upd_ne _ _ h2];exact S.disj n o1 m o2 (hsub _ _ hq) (hsub _ _ hq') hne b hb
def mv (w:World):C->Value->List Nat->Prop
 | .v x,u,L=>u=x/\x.oneCell'=true/\L=[]
 | .l e sh xs,u,L=>ownRow w e sh.n (ownT w sh) xs u L
 | .emp,u,L=>(∃A,u= .slice A 0 0)/\L=[]
 | _,_,_=>False
def mvL (w:World):List C->List Value->List Nat->Prop
 | [],us,L=>us=[]/\L=[]
 | c::cs,us,L=>∃u vs L1 L2,us=u::vs/\L=L1++L2/\mv w c u L1/\mvL w cs vs L2
theorem castSh_eq {sh sh':Sh} {xs:List (Ty sh)} {ys:List (Ty sh')} (h:castSh xs=some ys):∃e:sh=sh',e▸xs=ys:=by
 unfold castSh at h;split at h;rotate_left;cases h
 rename_i e _;exact ⟨e,xZ h⟩
theorem headC_some {α:Type} {f:C->Option α} {cs rest:List C} {x:α} (h:headC f cs=some (x,rest)):∃c,cs=c::rest/\f c=some x:=by
  cases cs with
  | nil=>cases h
  | cons c r=>
    simp only [headC] at h;split at h;rotate_left;cases h
    rename_i y hy;cases h
    exact ⟨c,rfl,hy⟩
theorem isBool_some {c:C} {x:Bool} (h:c.isBool=some x):c= .v (.bool x):=by
 unfold C.isBool at h;split at h;rotate_left;cases h
 cases h;rfl
theorem isInt_some {k:IntKind} {c:C} {x:Int} (h:c.isInt k=some x):c= .v (.int k x):=by
 unfold C.isInt at h;split at h;rotate_left;cases h
 split at h;rotate_left;cases h
 rename_i hk;simp only [nZ] at h;subst h hk;rfl
theorem isString_some {c:C} {x:ByteArray} (h:c.isString=some x):c= .v (.string x):=by
 unfold C.isString at h;split at h;rotate_left;cases h
 cases h;rfl
theorem isSl_some {e:Nat} {sh:Sh} {c:C} {xs:List (Ty sh)} (h:c.isSl e sh=some xs):(c= .v (.slice none 0 0)/\xs=[])\/(c= .emp/\xs=[])\/c= .l e sh xs:=by
 unfold C.isSl at h;split at h
 · cases h;exact .inl ⟨rfl,rfl⟩
 · cases h;exact .inr (.inl ⟨rfl,rfl⟩)
 · split at h;rotate_left;cases h
   rename_i he;obtain ⟨e1,e2⟩:=castSh_eq h;subst e1 he;simp only at e2
   subst e2;exact .inr (.inr rfl)
 · cases h
theorem mvL_cons {w:World} {c:C} {r:List C} {us:List Value} {L:List Nat} (h:mvL w (c::r) us L):∃u vs L1 L2,us=u::vs/\L=L1++L2/\mv w c u L1/\mvL w r vs L2:=h
mutual
theorem rd_own {w:World}:(sh:Sh)->(cs:List C)->(x:Ty sh)->(rest:List C)->(us:List Value)->(L:List Nat)->rd sh cs=some (x,rest)->mvL w cs us L->
    ∃vs ws L1 L2,us=vs++ws/\L=L1++L2/\ownT w sh x vs L1/\mvL w rest ws L2
  | .b,cs,x,rest,us,L,h,hm=>by
    simp only [rd] at h;obtain ⟨c,rfl,hc⟩:=headC_some h;obtain ⟨u,vs,L1,L2,rfl,rfl,h1,h2⟩:=mvL_cons hm;rw [isBool_some hc] at h1;obtain ⟨rfl,_,rfl⟩:=h1;exact ⟨[_],vs,[],L2,rfl,rfl,by simp [ownT],h2⟩
  | .i k,cs,x,rest,us,L,h,hm=>by
    simp only [rd] at h;obtain ⟨c,rfl,hc⟩:=headC_some h;obtain ⟨u,vs,L1,L2,rfl,rfl,h1,h2⟩:=mvL_cons hm;rw [isInt_some hc] at h1;obtain ⟨rfl,_,rfl⟩:=h1;exact ⟨[_],vs,[],L2,rfl,rfl,by simp [ownT],h2⟩
  | .s,cs,x,rest,us,L,h,hm=>by
    simp only [rd] at h;obtain ⟨c,rfl,hc⟩:=headC_some h;obtain ⟨u,vs,L1,L2,rfl,rfl,h1,h2⟩:=mvL_cons hm;rw [isString_some hc] at h1;obtain ⟨rfl,_,rfl⟩:=h1;exact ⟨[_],vs,[],L2,rfl,rfl,by simp [ownT],h2⟩
  | .l e sh,cs,x,rest,us,L,h,hm=>by
    simp only [rd] at h;obtain ⟨c,rfl,hc⟩:=headC_some h;obtain ⟨u,vs,L1,L2,rfl,rfl,h1,h2⟩:=mvL_cons hm;rcases isSl_some hc with ⟨rfl,rfl⟩ | ⟨rfl,rfl⟩ | rfl
    · obtain ⟨rfl,_,rfl⟩:=h1;exact ⟨[_],vs,[],L2,rfl,rfl,by simp only [ownT];exact ⟨_,rfl,.inl ⟨rfl,rfl,_,rfl⟩⟩,h2⟩
    · obtain ⟨⟨A,rfl⟩,rfl⟩:=h1;exact ⟨[_],vs,[],L2,rfl,rfl,by simp only [ownT];exact ⟨_,rfl,.inl ⟨rfl,rfl,_,rfl⟩⟩,h2⟩
    · exact ⟨[u],vs,L1,L2,rfl,rfl,by simp only [ownT];exact ⟨u,rfl,h1⟩,h2⟩
  | .a fs,cs,x,rest,us,L,h,hm=>by
    simp only [rd] at h;simp only [ownT];exact rdL_own fs cs x rest us L h hm
theorem rdL_own {w:World}:(fs:List Sh)->(cs:List C)->(x:TyL fs)->(rest:List C)->(us:List Value)->(L:List Nat)->rdL fs cs=some (x,rest)->mvL w cs us L->
    ∃vs ws L1 L2,us=vs++ws/\L=L1++L2/\ownTL w fs x vs L1/\mvL w rest ws L2
  | [],cs,x,rest,us,L,h,hm=>by
    simp only [rdL,nZ,Prod.mk.injEq] at h;obtain ⟨_,rfl⟩:=h;exact ⟨[],us,[],L,rfl,rfl,by simp [ownTL],hm⟩
  | [f],cs,x,rest,us,L,h,hm=>by
    simp only [rdL] at h;simp only [ownTL];exact rd_own f cs x rest us L h hm
  | f::g::r,cs,x,rest,us,L,h,hm=>by
    simp only [rdL] at h;split at h;rotate_left;cases h
    rename_i y r1 h1;split at h;rotate_left;cases h
    rename_i z r2 h2;cases h
    obtain ⟨vs,ws,L1,L2,rfl,rfl,h3,h4⟩:=rd_own f cs y r1 us L h1 hm;obtain ⟨vs',ws',L3,L4,rfl,rfl,h5,h6⟩:=rdL_own (g::r) r1 z _ ws L2 h2 h4;refine ⟨vs++vs',ws',L1++L3,L4,by simp,by simp,?_,h6⟩
    simp only [ownTL];exact ⟨vs,vs',L1,L3,rfl,rfl,h3,h5⟩
end
mutual
theorem rd_rep {w:World} {ok:Nat->Prop}:(sh:Sh)->(cs:List C)->(x:Ty sh)->(rest:List C)->(us:List Value)->rd sh cs=some (x,rest)->repL w ok cs us->
    ∃vs ws,us=vs++ws/\repT w ok sh x vs/\repL w ok rest ws
  | .b,cs,x,rest,us,h,hm=>by
    simp only [rd] at h;obtain ⟨c,rfl,hc⟩:=headC_some h;simp only [repL] at hm;obtain ⟨u,vs,rfl,h1,h2⟩:=hm;rw [isBool_some hc] at h1;simp only [rep] at h1;exact ⟨[u],vs,rfl,by simp only [repT];rw [h1.1],h2⟩
  | .i k,cs,x,rest,us,h,hm=>by
    simp only [rd] at h;obtain ⟨c,rfl,hc⟩:=headC_some h;simp only [repL] at hm;obtain ⟨u,vs,rfl,h1,h2⟩:=hm;rw [isInt_some hc] at h1;simp only [rep] at h1;exact ⟨[u],vs,rfl,by simp only [repT];rw [h1.1],h2⟩
  | .s,cs,x,rest,us,h,hm=>by
    simp only [rd] at h;obtain ⟨c,rfl,hc⟩:=headC_some h;simp only [repL] at hm;obtain ⟨u,vs,rfl,h1,h2⟩:=hm;rw [isString_some hc] at h1;simp only [rep] at h1;exact ⟨[u],vs,rfl,by simp only [repT];rw [h1.1],h2⟩
  | .l e sh,cs,x,rest,us,h,hm=>by
    simp only [rd] at h;obtain ⟨c,rfl,hc⟩:=headC_some h;simp only [repL] at hm;obtain ⟨u,vs,rfl,h1,h2⟩:=hm;have nil:∀A,rowT w ok sh.n (repT w ok sh) [] (.slice A 0 0):=fun A=>⟨A,0,rfl,cY _,Nat.zero_le _,fun h=>absurd h (by simp)⟩
    rcases isSl_some hc with ⟨rfl,rfl⟩ | ⟨rfl,rfl⟩ | rfl
    · simp only [rep] at h1;exact ⟨[u],vs,rfl,by simp only [repT];exact ⟨u,rfl,by rw [h1.1];exact nil _⟩,h2⟩
    · simp only [rep] at h1;obtain ⟨A,rfl⟩:=h1;exact ⟨[_],vs,rfl,by simp only [repT];exact ⟨_,rfl,nil _⟩,h2⟩
    · simp only [rep] at h1;exact ⟨[u],vs,rfl,by simp only [repT];exact ⟨u,rfl,h1⟩,h2⟩
  | .a fs,cs,x,rest,us,h,hm=>by
    simp only [rd] at h;simp only [repT];exact rdL_rep fs cs x rest us h hm
theorem rdL_rep {w:World} {ok:Nat->Prop}:(fs:List Sh)->(cs:List C)->(x:TyL fs)->(rest:List C)->(us:List Value)->rdL fs cs=some (x,rest)->repL w ok cs us->
    ∃vs ws,us=vs++ws/\repTL w ok fs x vs/\repL w ok rest ws
  | [],cs,x,rest,us,h,hm=>by
    simp only [rdL,nZ,Prod.mk.injEq] at h;obtain ⟨_,rfl⟩:=h;exact ⟨[],us,rfl,by simp [repTL],hm⟩
  | [f],cs,x,rest,us,h,hm=>by
    simp only [rdL] at h;simp only [repTL];exact rd_rep f cs x rest us h hm
  | f::g::r,cs,x,rest,us,h,hm=>by
    simp only [rdL] at h;split at h;rotate_left;cases h
    rename_i y r1 h1;split at h;rotate_left;cases h
    rename_i z r2 h2;cases h
    obtain ⟨vs,ws,rfl,h3,h4⟩:=rd_rep f cs y r1 us h1 hm;obtain ⟨vs',ws',rfl,h5,h6⟩:=rdL_rep (g::r) r1 z _ ws h2 h4;refine ⟨vs++vs',ws',by simp,?_,h6⟩
    simp only [repTL];exact ⟨vs,vs',rfl,h3,h5⟩
end
theorem moved_sound:∀(cs ds:List C) (us:List Value) (st st1:St),Sim G w0 st a w β Lf->All2 (VC w (imm G st Lf) β) cs us->st.moved cs=some (ds,st1)->
    ∃L,mvL w ds us L/\st1={ st with ob:=st1.ob }/\(∀n o,look st1.ob n=some o->look st.ob n=some o)/\(∀b ∈ L,∃h o,look st.ob h=some o/\look st1.ob h=none/\b ∈ Lf h)/\L.Nodup
  | [],ds,us,st,st1,S,h,hm=>by
    simp only [St.moved,nZ,Prod.mk.injEq] at hm;obtain ⟨rfl,rfl⟩:=hm;cases us with
    | nil=>exact ⟨[],⟨rfl,rfl⟩,rfl,fun _ _ h=>h,by simp,List.nodup_nil⟩
    | cons u us=>simp [All2] at h
  | c::cs,ds,us,st,st1,S,h,hm=>by
    cases us with
    | nil=>simp [All2] at h
    | cons u us=>
    obtain ⟨hc,h⟩:=h;cases c<;>simp only [St.moved] at hm<;>(try contradiction)
    case v x=>
      split at hm;rotate_left;cases hm
      rename_i xs st2 h2;simp only [nZ,Prod.mk.injEq] at hm;obtain ⟨rfl,rfl⟩:=hm;obtain ⟨L,h3,h4,h5,h6,h7⟩:=moved_sound cs xs us st st2 S h h2;have hr:rep w (imm G st Lf) (.v x) u:=hc;simp only [rep] at hr;exact ⟨L,⟨u,us,[],L,rfl,rfl,⟨hr.1,hr.2,rfl⟩,h3⟩,h4,h5,h6,h7⟩
    case ref hh=>
      split at hm;rotate_left;cases hm
      rename_i e sh xs hob;split at hm;rotate_left;cases hm
      rename_i ys st2 h2;simp only [nZ,Prod.mk.injEq] at hm;obtain ⟨rfl,rfl⟩:=hm;have hsub:∀n o,look (del hh st.ob) n=some o->look st.ob n=some o:=fun n o ho=>(look_del ho).2
      have S':=S.fewer hsub;have himm:∀k,imm G st Lf k->k<w.heap.size->imm G { st with ob:=del hh st.ob } Lf k/\w.heap[k]? =w.heap[k]? :=fun k hk _=>⟨⟨hk.1,fun n o ho=>hk.2 n o (hsub n o ho)⟩,rfl⟩
      obtain ⟨L,h3,h4,h5,h6,h7⟩:=moved_sound cs ys us _ st2 S' (h.imp fun c _ u hu=>hu.step himm fun _ _=>rfl) h2
      obtain ⟨hu,_⟩:u=β hh/\∃A n c,u= .slice A n c:=hc;have hor:ownRow w e sh.n (ownT w sh) xs (β hh) (Lf hh):=S.obs _ _ hob;refine ⟨Lf hh++L,⟨u,us,Lf hh,L,rfl,rfl,by rw [hu];exact hor,h3⟩,h4,fun n o ho=>hsub n o (h5 n o ho),?_,?_⟩
      · intro b hb;rcases wZ.1 hb with hb | hb
        · refine ⟨hh,_,hob,?_,hb⟩
          cases hl:look st2.ob hh with
          | none=>rfl
          | some o=>have:=h5 hh o hl;rw [i2] at this;cases this
        · obtain ⟨h,o,ho,h8,h9⟩:=h6 b hb;exact ⟨h,o,hsub h o ho,h8,h9⟩
      · refine qZ.2 ⟨S.nodup _ _ hob,h7,?_⟩
        rintro b hb b' hb' rfl
        obtain ⟨h,o,ho,h8,h9⟩:=h6 b hb';exact S.disj hh _ h o hob (hsub h o ho) (fun e=>by rw [<-e,i2] at ho;cases ho) b hb h9
    case sub hh sz lo hi=>
      split at hm;rotate_left;cases hm
      rename_i e sh xs hob;split at hm;rotate_left;cases hm
      rename_i hsz;subst hsz;split at hm;rotate_left;cases hm
      rename_i ys st2 h2;simp only [nZ,Prod.mk.injEq] at hm;obtain ⟨rfl,rfl⟩:=hm;have hsub:∀n o,look (del hh st.ob) n=some o->look st.ob n=some o:=fun n o ho=>(look_del ho).2
      have S':=S.fewer hsub;have himm:∀k,imm G st Lf k->k<w.heap.size->imm G { st with ob:=del hh st.ob } Lf k/\w.heap[k]? =w.heap[k]? :=fun k hk _=>⟨⟨hk.1,fun n o ho=>hk.2 n o (hsub n o ho)⟩,rfl⟩
      obtain ⟨L,h3,h4,h5,h6,h7⟩:=moved_sound cs ys us _ st2 S' (h.imp fun c _ u hu=>hu.step himm fun _ _=>rfl) h2
      obtain ⟨A,n',c',hb0,hlh,hhn,hnc,hu⟩:VC w (imm G st Lf) β (.sub hh sh.n lo hi) u:=hc;have hor:ownRow w e sh.n (ownT w sh) xs (β hh) (Lf hh):=S.obs _ _ hob;rw [hb0] at hor;obtain ⟨L0,g1,g2,g3⟩:=ownRow_part hor hlh hhn;refine ⟨L0++L,⟨u,us,L0,L,rfl,rfl,by rw [hu];exact g1,h3⟩,h4,fun n o ho=>hsub n o (h5 n o ho),?_,?_⟩
      · intro b hb;rcases wZ.1 hb with hb | hb
        · refine ⟨hh,_,hob,?_,g2 b hb⟩
          cases hl:look st2.ob hh with
          | none=>rfl
          | some o=>have:=h5 hh o hl;rw [i2] at this;cases this
        · obtain ⟨h,o,ho,h8,h9⟩:=h6 b hb;exact ⟨h,o,hsub h o ho,h8,h9⟩
      · refine qZ.2 ⟨g3 (S.nodup _ _ hob),h7,?_⟩
        rintro b hb b' hb' rfl
        obtain ⟨h,o,ho,h8,h9⟩:=h6 b hb';exact S.disj hh _ h o hob (hsub h o ho) (fun e=>by rw [<-e,i2] at ho;cases ho) b (g2 b hb) h9
end
end Go.V
namespace Go.V
open Go.RowKit (Below)
def SimE (G:Nat->Prop) (w0:Base) (st:St) (a:Act) (w:World):Prop:=∃β Lf,Sim G w0 st a w β Lf
theorem new_eq (st:St) (d:Option Tmp) (v:AV) (o:Ob):st.new d v o=({ st with ob:=put st.nx o st.ob,nx:=st.nx+1 }:St).set d v:=by
 cases d with
 | none=>rfl
 | some d=>simp only [St.new,St.set];split<;>rfl
theorem wp_value {P:Program} {o:Oper} {a:Act} {w w':World} {u:Value} {X:Act->World->Prop} {Q:Exit->Act->World->Prop} (h:(execOp a.eval o).run P w= .ok (.value u) w') (hX:X (a.put o.dst u) w'):o.wp P a w X Q:=by
 unfold Oper.wp;rw [h];exact hX
theorem wp_skipped {P:Program} {o:Oper} {a:Act} {w w':World} {X:Act->World->Prop} {Q:Exit->Act->World->Prop} (h:(execOp a.eval o).run P w= .ok .skip w') (hX:X (a.put o.dst undef) w'):o.wp P a w X Q:=by
 unfold Oper.wp;rw [h];exact hX
theorem all2_vals {w:World} {ok:Nat->Prop} {β:Nat->Value} {us:List Value} (h:∀u ∈ us,u.oneCell'=true):All2 (VC w ok β) (us.map .v) us:=by
  induction us with
  | nil=>simp [All2]
  | cons u us ih=>
    refine ⟨?_,ih fun v hv=>h v (by simp [hv])⟩
    show rep w ok (.v u) u
    simp only [rep];exact ⟨trivial,h u (by simp)⟩
theorem lt_vals (n:Nat) (us:List Value):∀c ∈ us.map C.v,C.lt n c:=by
 intro c hc;obtain ⟨u,_,rfl⟩:=List.mem_map.1 hc;intro h hh;simp [C.hs] at hh
theorem cells_of_one {u:Value} (h:u.oneCell'=true):u.cells=#[u]:=by cases u<;>simp_all [Value.oneCell',Value.cells]
theorem cs_VA {w:World} {ok:Nat->Prop} {β:Nat->Value} {v:AV} {u:Value} {cs:List C} (h:VA w ok β v u) (hc:v.cs=some cs):All2 (VC w ok β) cs u.cells.toList:=by
  cases v with
  | c x=>
    simp only [AV.cs,nZ] at hc;subst hc;have h':VC w ok β x u:=h;rw [cells_of_one h'.one];exact ⟨h',trivial⟩
  | agg fs=>
    simp only [AV.cs,nZ] at hc;subst hc;obtain ⟨us,rfl,h⟩:=h;simpa [Value.cells] using h
  | tup xs=>simp [AV.cs] at hc
theorem cs_lt {v:AV} {cs:List C} {n:Nat} (h:v.lt n) (hc:v.cs=some cs):∀c ∈ cs,C.lt n c:=by
 cases v with
 | c x=>simp only [AV.cs,nZ] at hc;subst hc;intro y hy;simp at hy;subst hy;exact h
 | agg fs=>simp only [AV.cs,nZ] at hc;subst hc;exact h
 | tup xs=>simp [AV.cs] at hc
theorem all_one {w:World} {ok:Nat->Prop} {β:Nat->Value} {cs:List C} {us:List Value} (h:All2 (VC w ok β) cs us):∀u ∈ us,u.oneCell'=true:=by
  induction cs generalizing us with
  | nil=>cases us with
    | nil=>simp
    | cons u us=>simp [All2] at h
  | cons c cs ih=>cases us with
    | nil=>simp [All2] at h
    | cons u us=>
      intro v hv;rcases zZ.1 hv with rfl | hv
      · exact h.1.one
      · exact ih h.2 v hv
section
variable {E:Env} {G:Nat->Prop} {w0:Base} {st:St} {a:Act} {w:World} {β:Nat->Value} {Lf:Nat->List Nat} {R:Type} {r:R} {o:Oper} {call:CallD E} {K:St->Option R} {X:Act->World->Prop} {Q:Exit->Act->World->Prop}
theorem new_var (S:Sim G w0 st a w β Lf) (d:Option Tmp) (t:TypeId) {cs:List C} {us:List Value} (h:All2 (VC w (imm G st Lf) β) cs us) (hlt:∀c ∈ cs,C.lt st.nx c):
 SimE G w0 (st.new d (.c (.ptr st.nx 0)) (.var cs)) (a.put d (.pointer (some ⟨w.heap.size,0,none⟩))) (w.alloc (.cells us.toArray t)):=by
 have S':=S.put_new (ob':=st.ob) (fun _ _ h=>h) (w':=w.alloc (.cells us.toArray t)) (o:= .var cs) (u:= .pointer (some ⟨w.heap.size,0,none⟩)) (L:=[w.heap.size]) (Chg.of_below (Below.alloc1 _ _) _)
  (fun b hb=> .inl (by simp at hb;subst hb;simp)) (fun h o ho b hb hm=>by simp at hm;have:=(S.new h o ho b hb).2;omega) (by simp) hlt
  ⟨w.heap.size,t,us,rfl,rfl,heap_alloc_new w _,h.imp fun c hc u hu=>hu.step (fun k hk hlt=>⟨⟨hk,by simp;omega⟩,heap_alloc_old w _ k hlt⟩) fun _ _=>rfl⟩
 rw [new_eq];refine ⟨_,_,S'.set d ⟨w.heap.size,Z2 _ _ _,rfl⟩ ?_⟩
 intro h hh;simp [C.hs] at hh;subst hh;exact Nat.lt_succ_self _
theorem eff_alloc (hE:EnvOk E) (S:Sim G w0 st a w β Lf) {t:TypeId} (ho:o.op= .alloc t) (h:eff E call st o K=some r) (hX:∀st' a' w',SimE G w0 st' a' w'->K st'=some r->X a' w'):o.wp E.P a w X Q:=by
 simp only [eff,ho] at h;split at h;rotate_left;cases h
 rename_i i hi;have hT:=hE.ty _ _ hi;obtain ⟨z,hz,hr⟩:=hT.run_zero w;refine wp_value (u:= .pointer (some ⟨w.heap.size,0,none⟩)) (w':=w.alloc (.cells i.zero.toArray t)) ?_ (hX _ _ _ (new_var S o.dst t (all2_vals hT.zone) (lt_vals _ _)) h)
 have hz':z.cells=i.zero.toArray:=by rw [<-hz]
 simp [execOp,ho,Instr.alloc,hr,newVar,newRow,hz']
theorem eff_box (S:Sim G w0 st a w β Lf) {t:TypeId} {x:Operand} (ho:o.op= .box t x) (h:eff E call st o K=some r) (hX:∀st' a' w',SimE G w0 st' a' w'->K st'=some r->X a' w'):o.wp E.P a w X Q:=by
 simp only [eff,ho] at h;split at h
 · rename_i c hv;obtain ⟨hva,hlt⟩:=S.ev hv;have hvc:VC w (imm G st Lf) β c (a.eval x):=hva;refine wp_value (u:= .pointer (some ⟨w.heap.size,0,none⟩)) (w':=w.alloc (.cells [a.eval x].toArray t)) ?_ (hX _ _ _ (new_var S o.dst t (cs:=[c]) ⟨hvc,trivial⟩ (by intro y hy;simp at hy;subst hy;exact hlt)) h)
   simp [execOp,ho,Instr.box,newVar,newRow,cells_of_one hvc.one]
 · rename_i cs hv;obtain ⟨hva,hlt⟩:=S.ev hv;obtain ⟨us,hu,hall⟩:=hva;refine wp_value (u:= .pointer (some ⟨w.heap.size,0,none⟩)) (w':=w.alloc (.cells us.toArray t)) ?_ (hX _ _ _ (new_var S o.dst t hall hlt) h)
   simp [execOp,ho,Instr.box,newVar,newRow,hu,Value.cells]
 · cases h
theorem new_arr (S:Sim G w0 st a w β Lf) (d:Option Tmp) {ob':List (Nat×Ob)} (hsub:∀n o,look ob' n=some o->look st.ob n=some o) {w':World} {e:Nat} {sh:Sh} {xs:List (Ty sh)} {u:Value} {L:List Nat} (hC:Chg L w w')
 (hL1:∀b ∈ L,(w.heap.size<=b/\b<w'.heap.size)\/∃h o,look st.ob h=some o/\look ob' h=none/\b ∈ Lf h) (hnd:L.Nodup) (hO:ownRow w' e sh.n (ownT w' sh) xs u L) (hu:∃A n c,u= .slice A n c):
 SimE G w0 (({ st with ob:=ob' }:St).new d (.c (.ref st.nx)) (.arr e sh xs)) (a.put d u) w':=by
 have S':=S.put_new (ob':=ob') hsub (w':=w') (o:= .arr e sh xs) (u:=u) (L:=L) hC (fun b hb=>(hL1 b hb).imp id fun ⟨h,o,h1,_,h3⟩=>⟨h,o,h1,h3⟩)
  (fun h o ho b hb hm=>by
   rcases hL1 b hm with h1 | ⟨h',o',h1,h2,h3⟩
   · have:=(S.new h o (hsub h o ho) b hb).2;omega
   · exact S.disj h o h' o' (hsub h o ho) h1 (fun e=>by rw [e,h2] at ho;cases ho) b hb h3) hnd trivial hO
 rw [new_eq];refine ⟨_,_,S'.set d ⟨(Z2 _ _ _).symm,hu⟩ ?_⟩
 intro h hh;simp [C.hs] at hh;subst hh;exact Nat.lt_succ_self _
end
end Go.V
namespace Go.V
open Go.RowKit (Below)
theorem foldl_set (cs:Array Value) (off:Nat) (vs:List Value) (k:Nat) (h:off+k+vs.length<=cs.size):
    (vs.zipIdx k).foldl (fun cs (p:Value×Nat)=>cs.setIfInBounds (off+p.2) p.1) cs=(cs.toList.take (off+k)++vs++cs.toList.drop (off+k+vs.length)).toArray:=by
  induction vs generalizing cs k with
  | nil=>simp
  | cons v vs ih=>
    simp only [List.zipIdx_cons,List.foldl_cons];have hs:off+k<cs.toList.length:=by simp at h ⊢;omega
    rw [ih _ (k+1) (by simp at h ⊢;omega)]
    congr 1
    simp only [Array.toList_setIfInBounds];rw [List.set_eq_take_append_cons_drop,dY hs];generalize cs.toList=l at hs;have hl:(l.take (off+k)++[v]).length=off+(k+1):=by rw [List.length_append,List.length_take];simp;omega
    have e0:l.take (off+k)++v::l.drop (off+k+1)=(l.take (off+k)++[v])++l.drop (off+k+1):=by simp
    have e1:((l.take (off+k)++[v])++l.drop (off+k+1)).take (off+(k+1))=l.take (off+k)++[v]:=List.take_left' hl;have e2:((l.take (off+k)++[v])++l.drop (off+k+1)).drop (off+(k+1))=l.drop (off+k+1):=List.drop_left' hl;have e3:((l.take (off+k)++[v])++l.drop (off+k+1)).drop (off+(k+1)+vs.length)=l.drop (off+k+(vs.length+1)):=by
      rw [<-List.drop_drop,e2,List.drop_drop]
      congr 1
      omega
    rw [e0,e1,e3];simp
theorem fill_sound {w:World} {ok:Nat->Prop} {β:Nat->Value} {pl:List (Nat×Nat)} {place:Nat->Option (Nat×Nat)} (hp:∀n p,pl[n]? =some p->place n=some p):
    ∀(ps:List (Nat×List C)) (qs:List (Nat×Value)) (cells out:List C) (us:List Value),All2 (fun p q=>p.1=q.1/\All2 (VC w ok β) p.2 q.2.cells.toList) ps qs->All2 (VC w ok β) cells us->fillP pl cells ps=some out->
      ∃vs,Instr.fill place us.toArray qs=some vs.toArray/\All2 (VC w ok β) out vs
  | [],qs,cells,out,us,h,hc,hf=>by
    cases qs with
    | nil=>
      simp only [fillP,nZ] at hf;subst hf;exact ⟨us,rfl,hc⟩
    | cons q qs=>simp [All2] at h
  | (n,v)::ps,qs,cells,out,us,h,hc,hf=>by
    cases qs with
    | nil=>simp [All2] at h
    | cons q qs=>
    obtain ⟨m,x⟩:=q;obtain ⟨⟨rfl,hv⟩,h⟩:=h;simp only [fillP] at hf;split at hf;rotate_left;cases hf
    rename_i off sz hpl;split at hf;rotate_left;cases hf
    rename_i h1;split at hf;rotate_left;cases hf
    rename_i h2;have hl1:=hv.len;have hl2:=hc.len;simp only at hv hl1
    have hall:All2 (VC w ok β) (fillAt cells off v) (us.take off++x.cells.toList++us.drop (off+x.cells.toList.length)):=by
      unfold fillAt;rw [<-hl1];exact ((hc.take off).append hv).append (hc.drop _)
    obtain ⟨vs,h3,h4⟩:=fill_sound hp ps qs _ out _ h hall hf;refine ⟨vs,?_,h4⟩
    have hxs:x.cells.size=sz:=by rw [<-Array.length_toList,<-hl1];exact h1
    have hbd:¬(us.length<off+x.cells.size):=by rw [hxs];omega
    simp only [Instr.fill,hp n _ hpl];have hfold:=foldl_set us.toArray off x.cells.toList 0 (by simp;omega)
    simp only [Nat.add_zero] at hfold;have key:x.cells.zipIdx.foldl (fun cs (p:Value×Nat)=>cs.setIfInBounds (off+p.2) p.1) us.toArray=(us.toArray.toList.take off++x.cells.toList++us.toArray.toList.drop (off+x.cells.toList.length)).toArray:=by
      rw [<-Array.foldl_toList,Array.toList_zipIdx];exact hfold
    have hcond:¬((decide (x.cells.size≠sz) || decide (off+x.cells.size>us.toArray.size))=true):=by
      simp [hxs];omega
    rw [eY hcond];show Instr.fill place (x.cells.zipIdx.foldl (fun cs (p:Value×Nat)=>cs.setIfInBounds (off+p.2) p.1) us.toArray) qs=_
    rw [key];exact h3
section
variable {E:Env} {G:Nat->Prop} {w0:Base} {st:St} {a:Act} {w:World} {β:Nat->Value} {Lf:Nat->List Nat} {R:Type} {r:R} {o:Oper} {call:CallD E} {K:St->Option R} {X:Act->World->Prop} {Q:Exit->Act->World->Prop}
theorem evParts_sound (S:Sim G w0 st a w β Lf):∀(ps:List (Nat×Operand)) (vs:List (Nat×List C)),evParts st ps=some vs->
    All2 (fun p q=>p.1=q.1/\All2 (VC w (imm G st Lf) β) p.2 q.2.cells.toList) vs (ps.map fun (i,x)=>(i,a.eval x))/\(∀p ∈ vs,∀c ∈ p.2,C.lt st.nx c)
  | [],vs,h=>by
    simp only [evParts,nZ] at h;subst h;exact ⟨trivial,by simp⟩
  | (n,x)::ps,vs,h=>by
    simp only [evParts] at h;split at h;rotate_left;cases h
    rename_i v hv;split at h;rotate_left;cases h
    rename_i cs hcs;split at h;rotate_left;cases h
    rename_i ws hws;cases h
    obtain ⟨h1,h2⟩:=evParts_sound S ps ws hws;obtain ⟨h3,h4⟩:=S.ev hv;refine ⟨⟨⟨rfl,cs_VA h3 hcs⟩,h1⟩,?_⟩
    intro p hp;rcases zZ.1 hp with rfl | hp
    · exact cs_lt h4 hcs
    · exact h2 p hp
theorem fillP_lt {n:Nat} {pl:List (Nat×Nat)}:∀(ps:List (Nat×List C)) (cells out:List C),(∀p ∈ ps,∀c ∈ p.2,C.lt n c)->(∀c ∈ cells,C.lt n c)->fillP pl cells ps=some out->∀c ∈ out,C.lt n c
  | [],cells,out,_,hc,h=>by
    simp only [fillP,nZ] at h;subst h;exact hc
  | (m,v)::ps,cells,out,hp,hc,h=>by
    simp only [fillP] at h;split at h;rotate_left;cases h
    split at h;rotate_left;cases h
    split at h;rotate_left;cases h
    refine fillP_lt ps _ out (fun p hp'=>hp p (by simp [hp'])) ?_ h
    intro c hc';unfold fillAt at hc';simp only [wZ] at hc';rcases hc' with (hc' | hc') | hc'
    · exact hc c (List.mem_of_mem_take hc')
    · exact hp (m,v) (by simp) c hc'
    · exact hc c (List.mem_of_mem_drop hc')
theorem places_sound (hE:EnvOk E):∀(fs:List (Nat×Nat)) (pl:List (Nat×Nat)) (fields:List Field),placesOf E fs=some pl->fields.map (fun f=>(f.offset,f.type))=fs->∀w:World,
    (fields.mapM fun f=>(do pure (f.offset,<-sizeOf f.type):Sem (Nat×Nat))).run E.P w= .ok pl w
  | [],pl,fields,h,hf,w=>by
    simp only [placesOf,nZ] at h;subst h
    have:fields=[]:=by simpa using hf
    subst this;simp
  | (off,t)::fs,pl,fields,h,hf,w=>by
    simp only [placesOf] at h;split at h;rotate_left;cases h
    rename_i j hj;split at h;rotate_left;cases h
    rename_i ps hps;cases h
    cases fields with
    | nil=>simp at hf
    | cons f fields=>
      simp only [List.map_cons,List.cons.injEq,Prod.mk.injEq] at hf;obtain ⟨⟨rfl,rfl⟩,hf⟩:=hf;have ih:=places_sound hE fs ps fields hps hf w;rw [List.mapM_cons];simp only [aY,(hE.ty _ _ hj).run_sizeOf,oZ,Sem.run_pure,ih]
theorem build_val (hE:EnvOk E) (S:Sim G w0 st a w β Lf) {t:TypeId} {parts:Array (Nat×Operand)} {i:TyI} {ps:List (Nat×List C)} {fs pl:List (Nat×Nat)} {cs:List C} (ho:o.op= .build t parts) (hi:E.ty t=some i) (hps:evParts st parts.toList=some ps)
 (hk:i.k= .agg fs) (hpl:placesOf E fs=some pl) (hcs:fillP pl (i.zero.map .v) ps=some cs):∃u,(execOp a.eval o).run E.P w= .ok (.value u) w/\VA w (imm G st Lf) β (.agg cs) u/\(AV.agg cs).lt st.nx:=by
 have hT:=hE.ty _ _ hi;obtain ⟨z,hz,hr⟩:=hT.run_zero w;have hz':z.cells=i.zero.toArray:=by rw [<-hz]
 obtain ⟨fields,hu,hf⟩:=hT.struct hk;obtain ⟨h1,h2⟩:=evParts_sound S _ _ hps;obtain ⟨vs,h3,h4⟩:=fill_sound (place:=(pl.toArray[·]?)) (fun n p hp=>by simpa using hp) ps _ _ cs i.zero h1 (all2_vals hT.zone) hcs
 have hm:=places_sound hE fs pl fields.toList hpl hf w;refine ⟨.agg vs.toArray,?_,⟨vs,rfl,h4⟩,fillP_lt ps _ cs h2 (lt_vals _ _) hcs⟩
 have hm':(fields.mapM fun f=>(do pure (f.offset,<-sizeOf f.type):Sem (Nat×Nat))).run E.P w= .ok pl.toArray w:=by
  rw [<-Array.toArray_toList (xs:=fields),List.mapM_toArray,Sem.run_map,hm];rfl
 have h3':Instr.fill (fun x=>pl.toArray[x]?) i.zero.toArray (parts.map fun (i,x)=>(i,a.eval x)).toList=some vs.toArray:=by
  rw [Array.toList_map];exact h3
 simp only [execOp,ho,Instr.build,aY,hr,oZ,run_underlying hu,hm',hz',h3',Sem.run_pure]
theorem eff_build (hE:EnvOk E) (S:Sim G w0 st a w β Lf) {t:TypeId} {parts:Array (Nat×Operand)} (ho:o.op= .build t parts) (h:eff E call st o K=some r) (hX:∀st' a' w',SimE G w0 st' a' w'->K st'=some r->X a' w'):o.wp E.P a w X Q:=by
 simp only [eff,ho] at h;split at h;rotate_left;cases h
 rename_i i ps hi hps;split at h;rotate_left;cases h
 rename_i fs hk;split at h;rotate_left;cases h
 rename_i pl hpl;split at h;rotate_left;cases h
 rename_i cs hcs;obtain ⟨u,h1,h2,h3⟩:=build_val hE S ho hi hps hk hpl hcs;exact wp_value h1 (hX _ _ _ ⟨_,_,S.set o.dst h2 h3⟩ h)
end
end Go.V
