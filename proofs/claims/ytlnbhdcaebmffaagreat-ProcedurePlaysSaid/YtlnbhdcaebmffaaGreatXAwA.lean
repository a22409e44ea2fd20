/-
  A reckoner of Go code over abstract values (own work): what an operation gives where slots hold values that are known, addresses of the call's own variables, and slices that read as lists. It is a plain Lean function into Prop; XAwS shows that what it says holds of the model's own walk ('Code.wp').
-/
import Derived.WalkKit
import Derived.WalkLawsBesides
set_option linter.unusedSimpArgs false
set_option linter.unusedVariables false
namespace Go.Aw
inductive AV (El:TypeId→Type) where
 | any
 | v (x:Value)
 | agg (cs:List (AV El))
 | tup (vs:List (AV El))
 | ref (i off:Nat)
 | gs (i:Nat)
 | rg (t:TypeId) (i idx off:Nat)
 | sl (t:TypeId) (xs:List (El t)) (full:Bool)
 | rp (t:TypeId) (x:El t) (off:Nat)
 | ra (t:TypeId) (xs:List (El t))
 | clo (f:FuncId) (cap:List (AV El))
 | gw (t:TypeId) (i lo:Nat)
 | gm (i:Nat)
 | fm (k:IntKind) (ks:List Int) (vs:List (AV El))
 | gd (g:Bool) (x:AV El)
inductive AObj (El:TypeId→Type) where
 | cells (cs:List (AV El))
 | row (t:TypeId) (xs:List (El t))
 | frozen (t:TypeId) (xs:List (El t))
 | mp (k:IntKind) (ks:List Int) (vs:List (AV El))
 | gone
structure Sig where
 El:TypeId→Type
 dflt : ∀t,El t
 sz:TypeId→Nat
 cell : ∀t,El t→List (AV El)
 dec : ∀t,List (AV El)→Option (El t)
 glob:Nat→AV El
 ofBytes : ∀t,Option (ByteArray→List (El t))
 toInts : ∀t,Option (List (El t)→List Int)
abbrev Ct (El:TypeId→Type):= List (AV El)→Option (List Prop×AV El×List (AObj El))
structure Cx where
 P:Program
 S:Sig
 T:FuncId→Option (Ct S.El)
 F:FuncId→Option Func
 unroll:Nat:=0
 win:Bool:=false
 fz:Bool:=false
 tl:Bool:=false
 tr:Bool:=false
 I:FuncId→List (AV S.El)→List (AObj S.El)→Option (List Prop×AV S.El×List (AObj S.El)):= fun _ _ _=>none
 Q:FuncId→Option (IntKind×List Int×List FuncId):= fun _=>none
 lw:FuncId→Option Nat:=fun _=>none
 an:FuncId→Bool:=fun _=>false
 sp:Bool:=false
 ts:Bool:=false
 lv:List Nat:=[]
 fv:List (Nat×TypeId):= []
 lg:Bool:=false
 ay:Bool:=false
inductive AExit where
 | normal | exit (id:Nat)| ret
structure St (El:TypeId→Type) where
 lo:Nat
 slots:List (Nat×AV El)
 n:Nat
 objs:List (AObj El)
variable {El:TypeId→Type}
structure Ob (p:Prop): Prop where
 out:p
def conj:List Prop→Prop
 | []=> True
 | [p]=> Ob p
 | p::ps=>Ob p∧conj ps
def if0 (g:Bool): List Prop→List Prop
 | []=> []
 | p::ps=>(g=true→p):: if0 g ps
def also:List Prop→Prop→Prop
 | [],q=>q
 | p::ps,q=>Ob p∧also ps q
def lk:List (Nat×AV El)→Nat→AV El
 | [],_ => .any
 | (k,x):: l,t=>bif Nat.beq k t then x else lk l t
def nth {α:Type}: List α→Nat→Option α
 | [],_=>none
 | a::_,0=>some a
 | _::l,n+1=>nth l n
def setN {α:Type}: List α→Nat→α→List α
 | [],_,_=>[]
 | _::l,0,x=>x::l
 | a::l,n+1,x=>a::setN l n x
def obj (H:List (AObj El)) (i:Nat): AObj El:=(nth H i).getD .gone
def cellsOf:AV El→Option (List (AV El))
 | .v x=>some (x.cells.toList.map .v)
 | .agg cs=>some cs
 | .ref i o=>some [.ref i o]
 | .gs i=>some [.gs i]
 | .sl t xs f=>some [.sl t xs f]
 | .clo f c=>some [.clo f c]
 | _=>none
def one:AV El→Bool
 | .v (.agg _)| .v (.tuple _)| .any | .agg _ | .tup _ | .gd .. => false
 | _=>true
def cut (cs:List (AV El)) (off n:Nat): Option (List (AV El)):=
 bif Nat.ble (off+n) cs.length then some ((cs.drop off).take n) else none
def over (cs:List (AV El)) (off:Nat): List (AV El)→List (AV El)
 | []=> cs
 | x::xs=>over (setN cs off x) (off+1) xs
def aggD:TypeDesc→Bool
 | .struct _ | .array _ _=>true
 | _=>false
def isAggT (P:Program) (t:TypeId): Bool :=
 match P.underlying t with
 | some d=>aggD d
 | none=>false
def sizeT (P:Program) (t:TypeId): Nat:=((P.info? t).map (·.size)).getD 0
def bytesT (P:Program) (t:TypeId): Nat:=((P.info? t).map (·.bytes)).getD 0
def fieldT (P:Program) (t:TypeId) (f:Nat): Option (Nat×TypeId):=
 match P.underlying t with
 | some (.struct fs)=> (nth fs.toList f).map fun d=>(d.offset,d.type)
 | _=>none
def elemT (P:Program) (t:TypeId): Option TypeId :=
 match P.underlying t with
 | some (.slice e)=> some e
 | _=>none
def zeroT (P:Program) (t:TypeId): Option (List (AV El)):= ((P.info? t).bind (·.zero)).map fun z=>z.cells.toList.map .v
def whole (P:Program) (t:TypeId) (cs:List (AV El)) (off:Nat): Option (AV El):=
 match P.underlying t,P.info? t with
 | some d,some i=>bif aggD d then (cut cs off i.size).map .agg else nth cs off
 | _,_=>none
def zeroFit (P:Program) (e:TypeId): Bool :=
 match (P.info? e).bind (·.zero) with
 | some z=>Nat.beq z.cells.size (sizeT P e)
 | none=>false
def chunks {α:Type} (size:Nat): Nat→List α→List (List α)
 | 0,_=>[]
 | n+1,l=>l.take size::chunks size n (l.drop size)
def decAll (S:Sig) (t:TypeId): List (List (AV S.El))→Option (List (S.El t))
 | []=> some []
 | c::cs=>match S.dec t c,decAll S t cs with
  | some x,some xs=>some (x::xs)
  | _,_=>none
def bandK (k:IntKind) (a b:Int): Int:=k.wrap (BitVec.ofInt k.bits a &&& BitVec.ofInt k.bits b).toNat
def borK (k:IntKind) (a b:Int): Int:=k.wrap (BitVec.ofInt k.bits a ||| BitVec.ofInt k.bits b).toNat
def bxorK (k:IntKind) (a b:Int): Int:=k.wrap (BitVec.ofInt k.bits a ^^^ BitVec.ofInt k.bits b).toNat
def bclrK (k:IntKind) (a b:Int): Int:=k.wrap (BitVec.ofInt k.bits a &&& ~~~(BitVec.ofInt k.bits b)).toNat
def bnotK (k:IntKind) (a:Int): Int:=bxorK k (if k.signed then -1 else k.max) a
def shlK (k:IntKind) (a b:Int): Int:=k.wrap (a*2 ^ (min b.toNat k.bits))
def shrK (k:IntKind) (a b:Int): Int:=a.fdiv (2 ^ (min b.toNat k.bits))
def maxI (a b:Int): Int:=if b > a then b else a
def minI (a b:Int): Int:=if b < a then b else a
def arith (op:BinOp) (k:IntKind) (a b:Int): List Prop×AV El :=
 match op with
 | .add=>([], .v (.int k (k.wrap (a+b))))
 | .sub=>([], .v (.int k (k.wrap (a - b))))
 | .mul=>([], .v (.int k (k.wrap (a*b))))
 | .quo=>([b≠0], .v (.int k (k.wrap (a.tdiv b))))
 | .rem=>([b≠0], .v (.int k (a.tmod b)))
 | .and=>([], .v (.int k (bandK k a b)))
 | .or=>([], .v (.int k (borK k a b)))
 | .xor=>([], .v (.int k (bxorK k a b)))
 | .andNot=>([], .v (.int k (bclrK k a b)))
 | .eql=>([], .v (.bool (a==b)))
 | .neq=>([], .v (.bool (a != b)))
 | .lss=>([], .v (.bool (decide (a < b))))
 | .leq=>([], .v (.bool (decide (a≤b))))
 | .gtr=>([], .v (.bool (decide (b < a))))
 | .geq=>([], .v (.bool (decide (b≤a))))
 | .shl=>([0≤b], .v (.int k (shlK k a b)))
 | .shr=>([0≤b], .v (.int k (shrK k a b)))
def isShift:BinOp→Bool
 | .shl | .shr=>true
 | _=>false
def eqCells:List (AV El)→List (AV El)→Option Bool
 | [],[]=> some true
 | .v (.int k a):: l, .v (.int k' b):: l' =>
  bif k==k' then (match l,l' with
   | [],[]=> some (a==b)
   | _,_=>(eqCells l l').map ((a==b) && ·)) else none
 | .v (.bool a):: l, .v (.bool b):: l'=>(eqCells l l').map ((a==b) && ·)
 | _,_=>none
def isBool (P:Program) (t:TypeId): Bool :=
 match P.underlying t with
 | some .bool=>true
 | _=>false
def flatFs (f:TypeId→Option (List Bool)) (sz:TypeId→Nat): List Field→Nat→Option (List Bool)
 | [],_=>some []
 | fd :: l,n => bif (fd.name == "_" || !(Nat.beq fd.offset n)) then none else match f fd.type with
  | some s=>bif (Nat.beq (sz fd.type) s.length && Nat.blt 0 s.length) then (flatFs f sz l (n+s.length)).map (s ++ ·) else none
  | none=>none
def flatK (P:Program): Nat→TypeId→Option (List Bool)
 | 0,_=>none
 | d+1,t=>match P.underlying t with
  | some .bool=>some [true]
  | some (.int _)=> some [false]
  | some (.struct fs)=> bif P.stoodInHeld t then none else flatFs (flatK P d) (sizeT P) fs.toList 0
  | _=>none
def fitsA:List Bool→List (AV El)→Bool
 | [],[]=> true
 | true::s, .v (.bool _):: l=>fitsA s l
 | false::s, .v (.int _ _):: l=>fitsA s l
 | _,_=>false
def eqOk (P:Program) (t:TypeId) (xs ys:List (AV El)): Bool :=
 match flatK P 8 t with
 | some s=>isAggT P t && (fitsA s xs && (fitsA s ys && !(P.eqGuardType P.depth t)))
 | none=>false
def strEq (a b:ByteArray): Bool:=a.toList==b.toList
def binA (C:Cx) (op:BinOp) (t:TypeId): AV El→AV El→Option (List Prop×AV El)
 | .v (.int k a), .v (.int k' b)=> bif (isShift op || k==k') then some (arith op k a b) else none
 | .v (.bool a), .v (.bool b)=> bif isBool C.P t then (match op with
  | .eql=>some ([], .v (.bool (a==b)))
  | .neq=>some ([], .v (.bool (!(a==b))))
  | _=>none) else none
 | .v (.string a), .v (.string b)=> match op with
  | .eql=>some ([], .v (.bool (strEq a b)))
  | .neq=>some ([], .v (.bool (!(strEq a b))))
  | _=>none
 | .agg xs, .agg ys=>bif eqOk C.P t xs ys then (match op,eqCells xs ys with
  | .eql,some b=>some ([], .v (.bool b))
  | .neq,some b=>some ([], .v (.bool (!b)))
  | _,_=>none) else none
 | _,_=>none
def unA (op:UnOp): AV El→Option (AV El)
 | .v (.int k a)=> match op with
  | .neg=>some (.v (.int k (k.wrap (0 - a))))
  | .xor=>some (.v (.int k (bnotK k a)))
  | _=>none
 | .v (.bool a)=> match op with
  | .not=>some (.v (.bool (!a)))
  | _=>none
 | _=>none
def bytesI (s:ByteArray): List Int:=s.data.toList.map fun b=>(b.toNat:Int)
def isStr (P:Program) (t:TypeId): Bool :=
 match P.underlying t with
 | some .string=>true
 | _=>false
def convA (C:Cx) (src dst:TypeId) (x:AV C.S.El): Option (AV C.S.El):=
 bif (C.P.underlying src).isNone then none else match x with
 | .v (.int _ n)=> match C.P.underlying dst with
  | some (.int k)=> some (.v (.int k (k.wrap n)))
  | _=>none
 | .v (.string s)=> match C.P.underlying dst with
  | some .string=>some (.v (.string s))
  | _=>none
 | _=>none
def convB (C:Cx) (src dst:TypeId) (x:AV C.S.El): Option (Sigma fun e=>List (C.S.El e)):=
 match x with
 | .v (.string s)=> match C.P.underlying dst with
  | some (.slice e)=> bif isStr C.P src then (match C.P.underlying e with
   | some (.int .u8)=> (C.S.ofBytes e).map fun f=>⟨e,f s⟩
   | _=>none) else none
  | _=>none
 | _=>none
def fillA (P:Program) (place:Nat→Option (Nat×Nat)) (cells:List (AV El)): List (Nat×AV El)→Option (List (AV El))
 | []=> some cells
 | (i,x):: rest=>match place i,cellsOf x with
  | some (off,size),some cs=>bif (Nat.beq cs.length size && Nat.ble (off+size) cells.length) then fillA P place (over cells off cs) rest else none
  | _,_=>none
def buildA (C:Cx) (t:TypeId) (parts:List (Nat×AV C.S.El)): Option (AV C.S.El):=
 match zeroT C.P t,C.P.underlying t with
 | some z,some (.struct fs)=> bif (fs.toList.all fun f=>(C.P.info? f.type).isSome) then (fillA C.P (fun i=>(nth fs.toList i).map fun f=>(f.offset,sizeT C.P f.type)) z parts).map .agg else none
 | some z,some (.array _ e)=> bif (C.P.info? e).isSome then (fillA C.P (fun i=>some (i*sizeT C.P e,sizeT C.P e)) z parts).map .agg else none
 | _,_=>none
def rep {α:Type}: Nat→List α→List α
 | 0,_=>[]
 | n+1,l=>l ++ rep n l
def buildSliceA (C:Cx) (t:TypeId) (len:Nat) (parts:List (Nat×AV C.S.El)): Option (Sigma fun e=>List (C.S.El e)):=
 match elemT C.P t with
 | none=>none
 | some e=>match zeroT C.P e with
  | none=>none
  | some z=>bif (Nat.ble (len*sizeT C.P e) 16777216 && Nat.beq z.length (sizeT C.P e) && Nat.ble 1 z.length && Nat.beq (sizeT C.P e) (C.S.sz e)) then
    (match fillA C.P (fun i=>some (i*sizeT C.P e,sizeT C.P e)) (rep len z) parts with
    | none=>none
    | some cs=>(decAll C.S e (chunks (sizeT C.P e) len cs)).map fun xs=>⟨e,xs⟩) else none
def loadA (C:Cx) (t:TypeId) (H:List (AObj C.S.El)): AV C.S.El→Option (List Prop×AV C.S.El)
 | .ref i off=>match obj H i with
  | .cells cs=>(whole C.P t cs off).map ([],·)
  | _=>none
 | .rp u x off=>(whole C.P t (C.S.cell u x) off).map ([],·)
 | .rg u i idx off=>match obj H i with
  | .row v xs=>bif Nat.beq u v then (whole C.P t (C.S.cell v (xs.getD idx (C.S.dflt v))) off).map ([idx < xs.length],·) else none
  | _=>none
 | _=>none
def fitE (C:Cx) (t u:TypeId): Bool :=
 match C.P.underlying t with
 | some (.slice e)| some (.array _ e)=> Nat.beq (sizeT C.P e) (C.S.sz u)
 | _=>false
def isSl (P:Program) (t:TypeId): Bool :=
 match P.underlying t with
 | some (.slice _)=> true
 | _=>false
def lenArr (P:Program) (t:TypeId): Option Nat :=
 match P.underlying t with
 | some (.array n _)=> some n
 | _=>none
def indexAddrA (C:Cx) (t:TypeId) (H:List (AObj C.S.El)): AV C.S.El→AV C.S.El→Option (List Prop×AV C.S.El)
 | .sl u xs _, .v (.int _ n)=> bif (isSl C.P t && fitE C t u) then some ([0≤n∧n < xs.length], .rp u (xs.getD n.toNat (C.S.dflt u)) 0) else none
 | .ra u xs, .v (.int _ n)=> bif fitE C t u then (lenArr C.P t).map fun len=>([len=xs.length∧0≤n∧n < xs.length], .rp u (xs.getD n.toNat (C.S.dflt u)) 0) else none
 | .gs i, .v (.int _ n)=> match obj H i with
  | .row u xs=>bif (isSl C.P t && fitE C t u) then some ([0≤n∧n < xs.length], .rg u i n.toNat 0) else none
  | .frozen u xs=>bif (isSl C.P t && fitE C t u) then some ([0≤n∧n < xs.length], .rp u (xs.getD n.toNat (C.S.dflt u)) 0) else none
  | _=>none
 | .ref i off, .v (.int _ n)=> match C.P.underlying t with
  | some (.array len e)=> bif (C.P.info? e).isNone then none else some ([0≤n∧n < len], .ref i (off+n.toNat*sizeT C.P e))
  | _=>none
 | .rp u x off, .v (.int _ n)=> match C.P.underlying t with
  | some (.array len e)=> bif (C.P.info? e).isNone then none else some ([0≤n∧n < len], .rp u x (off+n.toNat*sizeT C.P e))
  | _=>none
 | _,_=>none
def fieldAddrA (C:Cx) (t:TypeId) (f:Nat): AV C.S.El→Option (AV C.S.El)
 | .ref i off=>(fieldT C.P t f).bind fun d=>bif Nat.beq (sizeT C.P d.2) 0 then none else some (.ref i (off+d.1))
 | .rp u x off=>(fieldT C.P t f).bind fun d=>bif Nat.beq (sizeT C.P d.2) 0 then none else some (.rp u x (off+d.1))
 | .rg u i idx off=>(fieldT C.P t f).bind fun d=>bif Nat.beq (sizeT C.P d.2) 0 then none else some (.rg u i idx (off+d.1))
 | _=>none
def fieldA (C:Cx) (t:TypeId) (f:Nat): AV C.S.El→Option (AV C.S.El)
 | .agg cs=>(fieldT C.P t f).bind fun d=>whole C.P d.2 cs d.1
 | _=>none
def bnd (H:Int): Option (AV El)→Option Int
 | none=>some H
 | some (.v (.int _ n))=> some n
 | _=>none
def sliceA (C:Cx) (t:TypeId) (lo hi mx:Option (AV C.S.El)): AV C.S.El→Option (List Prop×AV C.S.El)
 | .sl u xs full=>bif !(isSl C.P t && fitE C t u) then none else match bnd 0 lo,bnd xs.length hi,mx with
  | some l,some h,none=>some ([0≤l∧l≤h∧h≤xs.length], .sl u ((xs.take h.toNat).drop l.toNat) (full && (match hi with | none=>true | _=>false)))
  | some l,some h,some (.v (.int _ m))=> bif hi.isSome then some ([0≤l∧l≤h∧h≤xs.length∧m=h], .sl u ((xs.take h.toNat).drop l.toNat) true) else none
  | _,_,_=>none
 | .v (.string s)=> bif !isStr C.P t then none else match bnd 0 lo,bnd s.size hi,mx with
  | some l,some h,none=>some ([0≤l∧l≤h∧h≤s.size], .v (.string (s.extract l.toNat h.toNat)))
  | _,_,_=>none
 | _=>none
def byteAt (s:ByteArray) (n:Int): Int:=(bytesI s).getD n.toNat 0
def indexA (C:Cx) (t:TypeId): AV C.S.El→AV C.S.El→Option (List Prop×AV C.S.El)
 | .v (.string s), .v (.int _ n)=> bif isStr C.P t then some ([0≤n∧n < s.size], .v (.int .u8 (byteAt s n))) else none
 | .agg cs, .v (.int _ n)=> match C.P.underlying t with
  | some (.array len e)=> (whole C.P e cs (n.toNat*sizeT C.P e)).map ([0≤n∧n < len],·)
  | _=>none
 | _,_=>none
def lenA (P:Program) (t:TypeId) (H:List (AObj El)): AV El→Option (AV El)
 | .sl _ xs _=>bif isSl P t then some (.v (.int .i64 xs.length)) else none
 | .gs i=>bif isSl P t then (match obj H i with
  | .row _ xs=>some (.v (.int .i64 xs.length))
  | .frozen _ xs=>some (.v (.int .i64 xs.length))
  | _=>none) else none
 | .v (.string s)=> bif isStr P t then some (.v (.int .i64 s.size)) else none
 | .v (.slice _ n _)=> bif isSl P t then some (.v (.int .i64 n)) else none
 | _=>none
def foldMM (f:Int→Int→Int) (k:IntKind) (a:Int): List (AV El)→Option (AV El)
 | []=> some (.v (.int k a))
 | .v (.int k' b):: rest=>bif k==k' then foldMM f k (f a b) rest else none
 | _=>none
def mmA (f:Int→Int→Int): List (AV El)→Option (AV El)
 | .v (.int k a):: rest=>foldMM f k a rest
 | _=>none
def deref (H:List (AObj El)): AV El→AV El
 | .gs i=>match obj H i with
  | .row t xs => .sl t xs false
  | .frozen t xs => .sl t xs false
  | _ => .any
 | x=>x
def deref1 (H:List (AObj El)): AV El→AV El
 | .agg cs => .agg (cs.map (deref H))
 | x=>deref H x
def owns:AV El→List Nat
 | .gs i=>[i]
 | _=>[]
def owns1:AV El→List Nat
 | .agg cs=>cs.flatMap owns
 | x=>owns x
def freeze1 (H:List (AObj El)) (i:Nat): List (AObj El):=
 match obj H i with
 | .row t xs=>setN H i (.frozen t xs)
 | _=>H
def freezeAll (H:List (AObj El)) (l:List Nat): List (AObj El):= l.foldl freeze1 H
def sh (n:Nat): AV El→AV El
 | .gs i => .gs (n+i)
 | .gm i => .gm (n+i)
 | x=>x
def sh1 (n:Nat): AV El→AV El
 | .agg cs => .agg (cs.map (sh n))
 | x=>sh n x
def sh2 (n:Nat): AV El→AV El
 | .tup vs => .tup (vs.map (sh1 n))
 | x=>sh1 n x
def isScal:AV El→Bool
 | .v _=>true
 | _=>false
def isScal1:AV El→Bool
 | .agg cs=>cs.all isScal
 | x=>isScal x
def isScal2:AV El→Bool
 | .tup vs=>vs.all isScal1
 | x=>isScal1 x
def scalObj (S:Sig): AObj S.El→Bool
 | .row t _=>(S.cell t (S.dflt t)).all isScal
 | .cells cs=>cs.all isScal
 | _=>false
def gsScal:AV El→Bool
 | .v _ | .gs _=>true
 | _=>false
def gsScal1:AV El→Bool
 | .agg cs=>cs.all gsScal
 | x=>gsScal x
def gsScal2:AV El→Bool
 | .tup vs=>vs.all gsScal1
 | x=>gsScal1 x
def keepOwn (C:Cx) (r:AV C.S.El) (news:List (AObj C.S.El)): Bool:=C.win && (news.all (scalObj C.S) && gsScal2 r)
def unGd:AV El→List Bool×AV El
 | .gd g x=>([g],x)
 | x=>([],x)
def own1:AV El→List Prop
 | .gd g _=>[g=true]
 | _=>[]
def own2 (p:Prop): AV El→List Prop
 | .gd g _=>[p→g=true]
 | _=>[]
def pickA (c a b:AV El): Option (List Prop×AV El):=
 match (unGd c).2,(unGd a).2,(unGd b).2 with
 | .v (.bool z), .v (.bool p), .v (.bool q)=> some (own1 c ++ own2 (z=true) a ++ own2 (z=false) b, .v (.bool (bif z then p else q)))
 | _,_,_=>none
def cl0:AV El→Bool
 | .any | .v _ | .sl .. | .rp .. | .ra .. => true
 | .clo _ cs=>cs.all isScal
 | _=>false
def cl1:AV El→Bool
 | .agg cs=>cs.all cl0
 | x=>cl0 x
def lt0 (n:Nat): AV El→Bool
 | .ref i _ | .gs i | .rg _ i _ _ | .gw _ i _ | .gm i=>Nat.blt i n
 | .fm _ _ vs=>vs.all cl1
 | .agg _ | .tup _ | .clo .. | .gd .. => false
 | _=>true
def lt1 (n:Nat): AV El→Bool
 | .agg cs=>cs.all (lt0 n)
 | .clo _ cs=>cs.all (lt0 n)
 | x=>lt0 n x
def lt2 (n:Nat): AV El→Bool
 | .tup vs=>vs.all (lt1 n)
 | .gd _ x=>lt1 n x
 | x=>lt1 n x
def norm0 (P:Program) (t:TypeId): AV El→AV El
 | .v (.slice none 0 0)=> match elemT P t with
  | some e => .sl e [] false
  | none => .v (.slice none 0 0)
 | .sl u xs _ => .sl u xs false
 | x=>x
def normL (P:Program): List TypeId→List (AV El)→List (AV El)
 | t::ts,x::xs=>norm0 P t x::normL P ts xs
 | _,xs=>xs
def nilA (P:Program) (t:TypeId): AV El→AV El
 | .agg cs=>match P.cellTypes P.depth t with
  | some ts => .agg (normL P ts cs)
  | none => .agg cs
 | x=>norm0 P t x
def nilAll (P:Program): List TypeId→List (AV El)→List (AV El)
 | t::ts,x::xs=>nilA P t x::nilAll P ts xs
 | _,xs=>xs
def argsA (P:Program) (c:Call) (H:List (AObj El)) (args:List (AV El)): List (AV El):= nilAll P c.argTypes.toList (args.map (deref1 H))
def mvK:Nat:=1000000
def closV (g:FuncId) (vs:Array Value): Value:=.func (.func (g % mvK)) (vs.toList.take (g / mvK)).toArray (vs.toList.drop (g / mvK)).toArray
theorem closV_lt {f:FuncId} (vs:Array Value) (h:Nat.blt f mvK=true): closV f vs = .func (.func f) #[] vs:=by
 have h1:f < 1000000:=by simpa [mvK,Nat.blt_eq] using h
 unfold closV mvK
 rw [Nat.mod_eq_of_lt h1,Nat.div_eq_of_lt h1]
 simp
theorem mv_mod (a n:Nat) (h:a < 1000000): (a+1000000*n) % 1000000=a:=by omega
theorem mv_div (a n:Nat) (h:a < 1000000): (a+1000000*n) / 1000000=n:=by omega
theorem closV_mk (f:FuncId) (fs vs:Array Value) (h:Nat.blt f mvK=true): closV (f+mvK*fs.size) (fs ++ vs)= .func (.func f) fs vs:=by
 have h1:f < 1000000:=by simpa [mvK,Nat.blt_eq] using h
 unfold closV mvK
 have e1:(f+1000000*fs.size) % 1000000=f:=mv_mod f fs.size h1
 have e2:(f+1000000*fs.size) / 1000000=fs.size:=mv_div f fs.size h1
 rw [e1,e2]
 simp
def targetOf (rho:Operand→AV El) (c:Call): Option (FuncId×List (AV El)):=
 match c.callee with
 | .value x=>match rho x with
  | .clo f cap=>some (f % mvK,cap.take (f / mvK)++ (c.args.toList.map rho ++ cap.drop (f / mvK)))
  | _=>none
 | _=>none
def ofInts (ns:List Int): ByteArray:=ns.foldl (fun r n=>r.push (UInt8.ofNat n.toNat)) ByteArray.empty
def convS (C:Cx) (src dst:TypeId) (H:List (AObj C.S.El)) (x:AV C.S.El): Option (AV C.S.El):=
 bif isStr C.P dst then (match deref H x,C.P.underlying src with
  | .sl t xs _,some (.slice e)=> match C.P.underlying e with
   | some (.int .u8)=> (C.S.toInts t).map fun f => .v (.string (ofInts (f xs)))
   | _=>none
  | _,_=>none) else none
def winA (C:Cx) (t:TypeId) (H:List (AObj C.S.El)) (x:AV C.S.El) (lo hi mx:Option (AV C.S.El)): Option (List Prop×AV C.S.El):=
 match x,lo,hi,mx with
 | .gs i,some (.v (.int _ l)),none,none=>match obj H i with
  | .row u xs=>bif (C.win && !C.tl) && isSl C.P t && fitE C t u then some ([0≤l∧l≤xs.length], .gw u i l.toNat) else none
  | _=>none
 | _,_,_,_=>none
def tailA (C:Cx) (t:TypeId) (H:List (AObj C.S.El)) (x:AV C.S.El) (lo hi mx:Option (AV C.S.El)): Option (List Prop×AV C.S.El×List (AObj C.S.El)):=
 match x,lo,hi,mx with
 | .gs i,some (.v (.int _ l)),none,none=>match obj H i with
  | .row u xs=>bif C.tl && isSl C.P t && fitE C t u then some ([0≤l∧l≤xs.length], .gs H.length,setN H i .gone ++ [.row u (xs.drop l.toNat)]) else none
  | _=>none
 | _,_,_,_=>none
def clearA (C:Cx) (c:Call) (rho:Operand→AV C.S.El) (H:List (AObj C.S.El)): Option (List (AObj C.S.El)):=
 match c.args.toList.map rho,c.argTypes.toList with
 | [.gw u i lo],[t]=> match obj H i,elemT C.P t with
  | .row v xs,some e=>if h:u=v then (if he:e=v then (match zeroT C.P e with
   | some z=>match C.S.dec v z with
    | some d=>bif (Nat.beq z.length (C.S.sz v) && Nat.beq (sizeT C.P e) (C.S.sz v)) then some (setN H i (.row v (xs.take lo ++ List.replicate (xs.length - lo) d))) else none
    | none=>none
   | none=>none) else none) else none
  | _,_=>none
 | _,_=>none
def evP (C:Cx) (o:Oper) (rho:Operand→AV C.S.El) (H:List (AObj C.S.El)): Option (List Prop×AV C.S.El):=
 match o.op with
 | .move x | .assign x=>some ([],rho x)
 | .pick c a b=>pickA (rho c) (rho a) (rho b)
 | .build t parts=>(buildA C t (parts.toList.map fun (i,x)=> (i,rho x))).map ([],·)
 | .load t a=>loadA C t H (rho a)
 | .nilCheck x=>match rho x with
  | .ref i o=>some ([], .ref i o)
  | .rp t x o=>some ([], .rp t x o)
  | .rg t i j o=>some ([], .rg t i j o)
  | .clo f c=>some ([], .clo f c)
  | _=>none
 | .binOp op t x y _=>binA C op t (rho x) (rho y)
 | .unOp op _ x=>(unA op (rho x)).map ([],·)
 | .convert s d x=>match convA C s d (rho x) with
  | some r=>some ([],r)
  | none=>(convS C s d H (rho x)).map ([],·)
 | .fieldAddr t x f=>(fieldAddrA C t f (rho x)).map ([],·)
 | .field t x f=>(fieldA C t f (rho x)).map ([],·)
 | .indexAddr t x i=>indexAddrA C t H (rho x) (rho i)
 | .index t x i=>indexA C t (rho x) (rho i)
 | .slice t x lo hi mx=>sliceA C t (lo.map rho) (hi.map rho) (mx.map rho) (rho x)
 | .extract x i=>match rho x with
  | .tup vs=>(nth vs i).map ([],·)
  | _=>none
 | .makeFunc fn first cap=>match fn with
  | .func f=>bif Nat.blt f mvK then some ([], .clo (f+mvK*first.size) (first.toList.map rho ++ cap.toList.map rho)) else none
  | _=>none
 | .call c=>match c.callee with
  | .builtin .len=>match c.args.toList,c.argTypes.toList with
   | [x],[t]=> (lenA C.P t H (rho x)).map ([],·)
   | _,_=>none
  | .builtin .min=>(mmA minI (c.args.toList.map rho)).map ([],·)
  | .builtin .max=>(mmA maxI (c.args.toList.map rho)).map ([],·)
  | .value _=>match targetOf rho c with
   | some (f,args)=> match C.T f with
    | some ct=>match ct (argsA C.P c H args) with
     | some (ps,r,[])=> bif ((argsA C.P c H args).all (lt1 0) && ((isScal2 r || (args.flatMap owns1).isEmpty) && lt2 0 (sh2 H.length r))) then some (ps,sh2 H.length r) else none
     | _=>none
    | none=>none
   | none=>none
  | _=>none
 | _=>none
def mapKey (P:Program) (t:TypeId): Option IntKind :=
 match P.underlying t with
 | some (.map k _)=> match P.underlying k with
  | some (.int kk)=> some kk
  | _=>none
 | _=>none
def mapElem (P:Program) (t:TypeId): Option TypeId :=
 match P.underlying t with
 | some (.map _ e)=> some e
 | _=>none
def putM (C:Cx) (t:TypeId) (H:List (AObj C.S.El)) (m k x:AV C.S.El): Option (List (AObj C.S.El)):=
 match m,k,mapKey C.P t with
 | .gm i, .v (.int kk n),some kt=>match obj H i with
  | .mp ko ks vs=>bif (kk==kt && ko==kt && ks.all fun z => !(z==n)) then some (setN H i (.mp ko (ks ++ [n]) (vs ++ [x]))) else none
  | _=>none
 | _,_,_=>none
def mapOf (H:List (AObj El)): AV El→Option (IntKind×List Int×List (AV El))
 | .gm i=>match obj H i with
  | .mp k ks vs=>some (k,ks,vs)
  | _=>none
 | .fm k ks vs=>some (k,ks,vs)
 | _=>none
def lkMap (n:Int): List Int→List (AV El)→(Option (AV El)→Prop)→Prop
 | k::ks,v::vs,K=>cond (n==k) (K (some v)) (lkMap n ks vs K)
 | _,_,K=>K none
def avZ:Value→AV El
 | .agg cs => .agg (cs.toList.map .v)
 | z => .v z
def lkFind (n:Int): List Int→List (AV El)→Option (AV El)
 | k::ks,v::vs=>bif n==k then some v else lkFind n ks vs
 | _,_=>none
def lkRes (C:Cx) (t:TypeId) (ok:Bool): Option (AV C.S.El)→Option (AV C.S.El)
 | some v=>bif ok then some (.tup [v, .v (.bool true)]) else some v
 | none=>(mapElem C.P t).bind fun e=>((C.P.info? e).bind (·.zero)).map fun z=>bif ok then .tup [avZ z, .v (.bool false)] else avZ z
def lookupA (C:Cx) (t:TypeId) (H:List (AObj C.S.El)) (m k:AV C.S.El): Option (Int×List Int×List (AV C.S.El)):=
 match mapOf H m,k,mapKey C.P t with
 | some (ko,ks,vs), .v (.int kk n),some kt=>bif (kk==kt && ko==kt) then some (n,ks,vs) else none
 | _,_,_=>none
def evI (C:Cx) (o:Oper) (rho:Operand→AV C.S.El) (H:List (AObj C.S.El)): Option (List Prop×AV C.S.El×List (AObj C.S.El)):=
 match o.op with
 | .box _ x=>(cellsOf (rho x)).map fun cs=>([], .ref H.length 0,H ++ [.cells cs])
 | .makeMap t r=>match mapKey C.P t,r.map rho with
  | some k,none=>some ([], .gm H.length,H ++ [.mp k [] []])
  | some k,some (.v (.int _ _))=> some ([], .gm H.length,H ++ [.mp k [] []])
  | _,_=>none
 | .mapUpdate t m k x=>(putM C t H (rho m) (rho k) (rho x)).map fun H'=>([], .any,H')
 | .insert t m k x=>(putM C t H (rho m) (rho k) (rho x)).map fun H'=>([], .any,H')
 | .buildSlice t len parts=>(buildSliceA C t len (parts.toList.map fun (i,x)=> (i,deref1 H (rho x)))).map fun r=>([], .gs H.length,freezeAll H (parts.toList.flatMap fun p=>owns1 (rho p.2))++ [.row r.1 r.2])
 | .alloc t=>(zeroT C.P t).map fun cs=>([], .ref H.length 0,H ++ [.cells cs])
 | .store t a x=>match rho a,cellsOf (rho x) with
  | .ref i off,some new=>match obj H i with
   | .cells cs=>bif (Nat.beq new.length (sizeT C.P t) && Nat.ble (off+new.length) cs.length && new.all one && (C.P.info? t).isSome) then some ([], .any,setN H i (.cells (over cs off new))) else none
   | _=>none
  | .rg v i idx off,some new=>match obj H i with
   | .row u xs=>bif (Nat.beq u v && Nat.beq new.length (sizeT C.P t) && Nat.ble (off+new.length) (C.S.sz u) && new.all one && (C.P.info? t).isSome) then
     (match C.S.dec u (over (C.S.cell u (xs.getD idx (C.S.dflt u))) off new) with
     | some y=>some ([idx < xs.length], .any,setN H i (.row u (xs.set idx y)))
     | none=>none) else none
   | _=>none
  | _,_=>none
 | .makeSlice t l c=>match elemT C.P t,rho l,rho c with
  | some e, .v (.int _ n), .v (.int _ m)=> match zeroT C.P e with
   | some z=>match C.S.dec e z with
    | some d=>bif (Nat.beq (sizeT C.P e) (C.S.sz e) && Nat.beq z.length (C.S.sz e)) then
      some ([0≤n∧n≤m∧(bytesT C.P e:Int)* m≤281474976710656∧m≤9223372036854775807], .gs H.length,H ++ [.row e (List.replicate n.toNat d)]) else none
    | none=>none
   | none=>none
  | _,_,_=>none
 | .convert s d x=>(convB C s d (rho x)).map fun r=>([r.2.length≤9223372036854775807], .gs H.length,H ++ [.row r.1 r.2])
 | .slice t x lo hi mx=>match winA C t H (rho x) (lo.map rho) (hi.map rho) (mx.map rho) with
  | some (ps,w)=> some (ps,w,H)
  | none=>match tailA C t H (rho x) (lo.map rho) (hi.map rho) (mx.map rho) with
  | some r=>some r
  | none=>match rho x with
  | .gs i=>(sliceA C t (lo.map rho) (hi.map rho) (mx.map rho) (deref H (.gs i))).map fun r=>(r.1,r.2,freeze1 H i)
  | _=>none
 | .call c=>match c.callee with
  | .builtin .append=>match c.args.toList.map rho,c.argTypes.toList with
   | [s,x],[t,t']=> match elemT C.P t,deref H x with
    | some e, .sl u ys _=>if hu:u=e then
      bif (Nat.beq t t' && Nat.beq (sizeT C.P e) (C.S.sz e) && zeroFit C.P e && Nat.ble 1 (bytesT C.P e)) then
      (match s with
      | .gs i=>match obj H i with
       | .row v xs=>if h:v=e then some ([(xs.length+ys.length)* bytesT C.P e≤140737488355328], .gs H.length,setN H i .gone ++ [.row e ((h ▸ xs)++ (hu ▸ ys))]) else none
       | _=>none
      | .v (.slice none 0 0)=> some ([ys.length*bytesT C.P e≤140737488355328], .gs H.length,H ++ [.row e (hu ▸ ys)])
      | _=>none) else none
     else none
    | _,_=>none
   | _,_=>none
  | .builtin .clear=>(clearA C c rho H).map fun H'=>([], .any,H')
  | .builtin .copy=>match c.args.toList.map rho,c.argTypes.toList with
   | [.gs i,x],[t,_]=> match obj H i,deref H x with
    | .row u xs, .sl e ys _=>if h:e=u then bif (fitE C t u && isSl C.P t) then
      some ([], .v (.int .i64 (min ys.length xs.length:Nat)),setN H i (.row u ((h ▸ ys:List (C.S.El u)).take xs.length ++ xs.drop ys.length))) else none else none
    | _,_=>none
   | _,_=>none
  | .value _=>match targetOf rho c with
   | some (f,args)=> match C.T f with
    | some ct=>match ct (argsA C.P c H args) with
     | some (ps,r,news)=> bif (argsA C.P c H args).all (lt1 0) then some (ps,sh2 H.length r,(bif keepOwn C r news then H else freezeAll H (args.flatMap owns1))++ news) else none
     | none=>none
    | none=>none
   | none=>none
  | _=>none
 | _=>none
def objLe:List (AObj El)→List (AObj El)→Prop
 | _,[]=> True
 | [],_::_=>False
 | _::l, .gone::l'=>objLe l l'
 | o::l,o'::l'=>o=o'∧objLe l l'
def ltO (n:Nat): AObj El→Bool
 | .cells cs=>cs.all (lt1 n)
 | .mp _ _ vs=>vs.all (lt1 n)
 | _=>true
def stLe (s s':St El): Prop :=
 s.lo=s'.lo∧s.n=s'.n∧conj (s'.slots.map fun p=>lk s.slots p.1=p.2)∧objLe s.objs s'.objs∧
  (s'.slots.all (fun p=>lt2 s'.objs.length p.2) && s'.objs.all (ltO s'.objs.length) && Nat.ble s'.lo s'.objs.length)= true
inductive Up where
 | slot (d:Nat) (t:TypeId)
 | cell (i j:Nat) (t:TypeId)
 | drop (i j:Nat)
def upg1:Up→St El→St El
 | .slot d t,st=>match lk st.slots d with
  | .v (.slice none 0 0)=> {st with slots:=(d, .gs st.objs.length):: st.slots,objs:=st.objs ++ [.row t []]}
  | _=>st
 | .cell i j t,st=>match obj st.objs i with
  | .cells cs=>match nth cs j with
   | some (.v (.slice none 0 0))=> {st with objs:=setN st.objs i (.cells (setN cs j (.gs st.objs.length)))++ [.row t []]}
   | _=>st
  | _=>st
 | .drop i j,st=>match obj st.objs i with
  | .cells cs=>{st with objs:=setN st.objs i (.cells (setN cs j .any))}
  | _=>st
def upg:List Up→St El→St El
 | [],st=>st
 | u::l,st=>upg l (upg1 u st)
def posOf:Nat→List Nat→Option Nat
 | _,[]=> none
 | i,j::l=>bif Nat.beq i j then some 0 else (posOf i l).map (·+ 1)
def renI (lo:Nat) (sg:List Nat) (i:Nat): Option Nat:=bif Nat.blt i lo then some i else (posOf i sg).map (lo + ·)
def ren0 (lo:Nat) (sg:List Nat): AV El→AV El
 | .gs i=>match renI lo sg i with
  | some k => .gs k
  | none => .any
 | .ref i o=>match renI lo sg i with
  | some k => .ref k o
  | none => .any
 | .rg t i j o=>match renI lo sg i with
  | some k => .rg t k j o
  | none => .any
 | .agg _ | .tup _ | .clo .. | .gd .. | .gw .. | .gm _ | .fm .. => .any
 | x=>x
def ren1 (lo:Nat) (sg:List Nat): AV El→AV El
 | .agg cs => .agg (cs.map (ren0 lo sg))
 | .clo f cs => .clo f (cs.map (ren0 lo sg))
 | x=>ren0 lo sg x
def ren2 (lo:Nat) (sg:List Nat): AV El→AV El
 | .tup cs => .tup (cs.map (ren1 lo sg))
 | .gd g x => .gd g (ren1 lo sg x)
 | x=>ren1 lo sg x
def renO (lo:Nat) (sg:List Nat): AObj El→AObj El
 | .cells cs => .cells (cs.map (ren1 lo sg))
 | .mp k ks vs => .mp k ks (vs.map (ren1 lo sg))
 | o=>o
def renSt (sg:List Nat) (st:St El): St El :=
 {lo:=st.lo,slots:=st.slots.map fun p=>(p.1,ren2 st.lo sg p.2),n:=st.n,objs:=(st.objs.take st.lo).map (renO st.lo sg)++ sg.map fun i=>renO st.lo sg (obj st.objs i)}
def nodupB:List Nat→Bool
 | []=> true
 | i::l => !(l.contains i) && nodupB l
def sgOk (lo n:Nat) (sg:List Nat): Bool:=nodupB sg && sg.all fun i=>Nat.ble lo i && Nat.blt i n
def stGe (s s':St El): Prop:=∃ups sg,sgOk s.lo (upg ups s).objs.length sg=true∧stLe (renSt sg (upg ups s)) s'
def idsA:AV El→List Nat
 | .gs i=>[i]
 | .ref i _=>[i]
 | .rg _ i _ _=>[i]
 | _=>[]
def idsA1:AV El→List Nat
 | .agg cs=>cs.flatMap idsA
 | .clo _ cs=>cs.flatMap idsA
 | x=>idsA x
def idsA2:AV El→List Nat
 | .tup cs=>cs.flatMap idsA1
 | .gd _ x=>idsA1 x
 | x=>idsA1 x
def idsO:AObj El→List Nat
 | .cells cs=>cs.flatMap idsA1
 | _=>[]
def addNew (lo:Nat): List Nat→List Nat→List Nat
 | acc,[]=> acc
 | acc,i::l=>bif (Nat.blt i lo || acc.contains i) then addNew lo acc l else addNew lo (acc ++ [i]) l
def growIds (st:St El) (acc:List Nat): List Nat:=addNew st.lo acc (acc.flatMap fun i=>idsO (obj st.objs i))
def reach (keep:List Nat) (st:St El): List Nat :=
 growIds st (growIds st (growIds st (addNew st.lo (addNew st.lo [] (keep.flatMap fun k=>idsA2 (lk st.slots k))) ((st.objs.take st.lo).flatMap idsO))))
def keepS (keep:List Nat) (s:St El): St El:={lo:=s.lo,slots:=keep.map fun k=>(k,lk s.slots k),n:=s.n,objs:=s.objs}
def okB (s:St El): Bool:=s.slots.all (fun p=>lt2 s.objs.length p.2) && s.objs.all (ltO s.objs.length) && Nat.ble s.lo s.objs.length
def headS (keep:List Nat) (ups:List Up) (s:St El): St El:=keepS keep (renSt (reach keep (upg ups s)) (upg ups s))
def okH (keep:List Nat) (ups:List Up) (s:St El): Bool:=sgOk s.lo (upg ups s).objs.length (reach keep (upg ups s)) && okB (headS keep ups s)
def lwm (C:Cx) (f:FuncId) (n:Nat): Nat :=
 match C.lw f with
 | some m=>bif Nat.ble m n then m else n
 | none=>n
def nubN:List Nat→List Nat
 | []=> []
 | i::l=>i::(nubN l).filter fun j => !(Nat.beq i j)
def atLo (m:Nat) (s:St El): St El:={lo:=m,slots:=s.slots,n:=s.n,objs:=s.objs}
def lowKeep (m:Nat) (s:St El): List Nat:=nubN ((s.slots.map (·.1)).filter fun k=>lt2 m (lk s.slots k))
def frz1 (C:Cx) (m:Nat) (s:St C.S.El) (p:Nat×TypeId): St C.S.El :=
 match lk s.slots p.1 with
 | .ref i 0=>match obj s.objs i with
  | .cells cs=>match C.S.dec p.2 cs with
   | some x=>bif Nat.ble m i then {s with slots:=(p.1, .rp p.2 x 0):: s.slots,objs:=setN s.objs i .gone} else s
   | none=>s
  | _=>s
 | _=>s
def frzS (C:Cx) (m:Nat): List (Nat×TypeId)→St C.S.El→St C.S.El
 | [],s=>s
 | p::l,s=>frzS C m l (frz1 C m s p)
def lowM (lv:List Nat) (m:Nat): Nat:=m - lv.length
def lowS (lv:List Nat) (m:Nat) (s:St El): St El:=atLo s.lo (headS (lowKeep (lowM lv m) s ++ lv) [] (atLo (lowM lv m) s))
def lowOk (lv:List Nat) (m:Nat) (s:St El) (args:List (AV El)): Bool:=Nat.ble s.lo (lowM lv m) && (Nat.ble (lowM lv m) s.objs.length && (okH (lowKeep (lowM lv m) s ++ lv) [] (atLo (lowM lv m) s) && (args.all (lt2 (lowM lv m)) && ((lowS lv m s).slots.all (fun p=>lt2 m p.2) && Nat.ble m (lowS lv m s).objs.length))))
abbrev Inl (El:TypeId→Type):= FuncId→List (AV El)→List (AObj El)→(AV El→List (AObj El)→Prop)→Prop
def look (C:Cx) (slots:List (Nat×AV C.S.El)): Operand→AV C.S.El
 | .tmp t=>lk slots t
 | .const v => .v v
 | .global g=>C.S.glob g
 | .func f=>bif Nat.blt f mvK then .clo f [] else .any
def bare (x:AV El): AV El:=(unGd x).2
def owed1 (g:Option Bool): AV El→List Prop
 | .gd h _=>match g with
  | none=>[h=true]
  | some g=>[g=true→h=true]
 | _=>[]
def owed (g:Option Bool): List (AV El)→List Prop
 | []=> []
 | x::xs=>owed1 g x ++ owed g xs
def guardB (slots:List (Nat×AV El)) (all:List Oper) (j:Nat) (want:Bool): Option Bool :=
 match (nth all j).bind (·.dst) with
 | some d=>match lk slots d with
  | .v (.bool b)=> match want with
   | true=>some b
   | false=>some (!b)
  | .gd g (.v (.bool b))=> match want with
   | true=>some (g && b)
   | false=>some (g && !b)
  | _=>none
 | none=>none
def putD (st:St El) (d:Option Nat) (x:AV El): Option (St El):=
 match d with
 | none=>some st
 | some d=>bif Nat.blt d st.n then some {st with slots:=(d,x):: st.slots} else none
def isPick:Op→Bool
 | .pick .. => true
 | _=>false
def rhoOf (C:Cx) (st:St C.S.El) (o:Oper): Operand→AV C.S.El :=
 fun x=>bif isPick o.op then look C st.slots x else bare (look C st.slots x)
def owedOf (C:Cx) (st:St C.S.El) (o:Oper) (g:Option Bool): List Prop :=
 bif isPick o.op then [] else owed g (o.op.operands.toList.map (look C st.slots))
def nilCmp (C:Cx) (op:BinOp) (t:TypeId) (H:List (AObj C.S.El)) (x y:AV C.S.El): Option (Bool×Prop):=
 bif isSl C.P t then (match deref H x with
  | .sl _ xs _=>(match y with
   | .v (.slice none 0 0)=> (match op with
    | .eql=>some (false,xs=[])
    | .neq=>some (true,xs=[])
    | _=>none)
   | _=>none)
  | _=>none) else none
def asmP (C:Cx) (o:Oper) (rho:Operand→AV C.S.El) (H:List (AObj C.S.El)): Option Prop :=
 match o.op with
 | .call c=>match c.callee with
  | .builtin .len=>match c.args.toList with
   | [x]=> match deref H (rho x) with
    | .sl _ xs _=>some (xs.length≤9223372036854775807)
    | _=>none
   | _=>none
  | _=>none
 | _=>none
def asm (p:Option Prop) (q:Prop): Prop :=
 match p with
 | some p=>p→q
 | none=>q
def fzA (C:Cx) (o:Oper) (rho:Operand→AV C.S.El): Option (AV C.S.El):=
 match o.op with
 | .buildSlice t len parts=>bif C.fz then (buildSliceA C t len (parts.toList.map fun (i,x)=> (i,rho x))).map fun r => .sl r.1 r.2 true else none
 | _=>none
def full0 (P:Program) (t:TypeId): AV El→AV El
 | .v (.slice none 0 0)=> match elemT P t with
  | some e => .sl e [] true
  | none => .v (.slice none 0 0)
 | x=>x
def apA (C:Cx) (c:Call) (rho:Operand→AV C.S.El) (H:List (AObj C.S.El)): Option (List Prop×AV C.S.El):=
 match c.args.toList.map rho,c.argTypes.toList with
 | [s,x],[t,t']=> match full0 C.P t s,elemT C.P t,deref H x with
  | .sl v xs true,some e, .sl u ys _=>if hv:v=e then (if hu:u=e then
    bif (Nat.beq t t' && Nat.beq (sizeT C.P e) (C.S.sz e) && zeroFit C.P e && Nat.ble 1 (bytesT C.P e)) then
     some ([(xs.length+ys.length)* bytesT C.P e≤140737488355328], .sl e ((hv ▸ xs)++ (hu ▸ ys)) false) else none else none) else none
  | _,_,_=>none
 | _,_=>none
def apO (C:Cx) (o:Oper) (rho:Operand→AV C.S.El) (H:List (AObj C.S.El)): Option (List Prop×AV C.S.El):=
 match o.op with
 | .call c=>match c.callee with
  | .builtin .append=>match C.sp,c.args.toList.map rho with
   | true, .sl _ _ true::_=>apA C c rho H
   | _,_=>none
  | _=>none
 | _=>none
def splK (C:Cx) (o:Oper) (x:AV C.S.El) (P:AV C.S.El→Prop): Prop :=
 match C.sp,o.op,x with
 | true, .binOp .rem _ _ _ _, .v (.int k r)=> cond (r==0) (P (.v (.int k 0))) (cond (r==1) (P (.v (.int k 1))) (cond C.lg False (P (.v (.int k r)))))
 | _,_,x=>P x
def evOne (C:Cx) (inl:Inl C.S.El) (o:Oper) (st:St C.S.El) (K:St C.S.El→Prop): Prop :=
 match evP C o (rhoOf C st o) st.objs with
 | some (ps,x)=> splK C o x fun x=>match putD st o.dst x with
  | some st'=>also (owedOf C st o none ++ ps) (asm (asmP C o (rhoOf C st o) st.objs) (K st'))
  | none=>False
 | none=>match fzA C o (rhoOf C st o) with
  | some x=>match putD st o.dst x with
   | some st'=>also (owedOf C st o none) (K st')
   | none=>False
  | none=>match apO C o (rhoOf C st o) st.objs with
  | some (ps,x)=> match putD st o.dst x with
   | some st'=>also (owedOf C st o none ++ ps) (K st')
   | none=>False
  | none=>match evI C o (rhoOf C st o) st.objs with
  | some (ps,x,H)=> match putD {st with objs:=H} o.dst x with
   | some st'=>also (owedOf C st o none ++ ps) (K st')
   | none=>False
  | none=>match o.op with
   | .call c=>match targetOf (rhoOf C st o) c with
    | some (f,args)=> match C.lw f with
     | none=>also (owedOf C st o none) <| inl f args st.objs fun r H=>match putD {st with objs:=H} o.dst r with
      | some st'=>K st'
      | none=>False
     | some m=>match lowOk C.lv m (frzS C m C.fv st) args with
      | true=>also (owedOf C st o none) <| inl f args (lowS C.lv m (frzS C m C.fv st)).objs fun r H=>match putD {lowS C.lv m (frzS C m C.fv st) with objs:=H} o.dst r with
       | some st'=>K st'
       | none=>False
      | false=>False
    | none=>False
   | .lookup t m k ok=>match lookupA C t st.objs (rhoOf C st o m) (rhoOf C st o k) with
    | some (n,ks,vs)=> also (owedOf C st o none) (lkMap n ks vs fun r=>match lkRes C t ok r with
     | some x=>match putD st o.dst x with
      | some st'=>K st'
      | none=>False
     | none=>False)
    | none=>False
   | .binOp op t x y _=>match nilCmp C op t st.objs (rhoOf C st o x) (rhoOf C st o y) with
    | some (neg,p)=> also (owedOf C st o none) (∀z:Bool,(z=true→p)→match putD st o.dst (.v (.bool (bif neg then !z else z))) with
     | some st'=>K st'
     | none=>False)
    | none=>False
   | _=>False
def readN (news:List (AObj El)): AV El→AV El
 | .gm _ => .any
 | x=>deref news x
def readN1 (news:List (AObj El)): AV El→AV El
 | .agg cs => .agg (cs.map (readN news))
 | x=>readN news x
def readN2 (news:List (AObj El)): AV El→AV El
 | .tup vs => .tup (vs.map (readN1 news))
 | x=>readN1 news x
def mapClo (q:IntKind×List Int×List FuncId) (x:AV El): AV El:=.fm q.1 q.2.1 (q.2.2.map fun g => .clo (g+mvK) [x])
def polyA (C:Cx) (f:FuncId) (args:List (AV C.S.El)): Option (List Prop×AV C.S.El):=
 match C.Q f,args with
 | some q,[.ref i off]=> some ([],mapClo q (.ref i off))
 | _,_=>none
def evD (C:Cx) (o:Oper) (rho:Operand→AV C.S.El) (H:List (AObj C.S.El)): Option (List Prop×AV C.S.El):=
 match evP C o rho H with
 | some r=>some r
 | none=>match o.op with
  | .buildSlice t len parts=>(buildSliceA C t len (parts.toList.map fun (i,x)=> (i,rho x))).map fun r=>([], .sl r.1 r.2 true)
  | .convert s d x=>(convB C s d (rho x)).map fun r=>([r.2.length≤9223372036854775807], .sl r.1 r.2 false)
  | .call c=>match c.callee with
   | .value _=>match targetOf rho c with
    | some (f,args)=> match C.T f with
     | some ct=>match ct (argsA C.P c H args) with
      | some (ps,r,news)=> bif ((argsA C.P c H args).all (lt1 0) && ((args.flatMap owns1).isEmpty || keepOwn C r news) && lt2 0 (readN2 news r)) then some (ps,readN2 news r) else none
      | none=>none
     | none=>polyA C f args
    | none=>none
   | .builtin .append=>apA C c rho H
   | _=>none
  | _=>none
def lgS (C:Cx) (st:St C.S.El) (all:List Oper) (j:Nat) (b:Bool): St C.S.El :=
 match C.lg,(nth all j).bind (·.dst) with
 | true,some d=>match lk st.slots d with
  | .v (.bool _)=> {st with slots:=(d, .v (.bool b)):: st.slots}
  | _=>st
 | _,_=>st
def evOps (C:Cx) (inl:Inl C.S.El) (all:List Oper): List Oper→St C.S.El→(St C.S.El→Prop)→Prop
 | [],st,K=>K st
 | o::rest,st,K=>match o.guard with
  | none=>evOne C inl o st fun st'=>evOps C inl all rest st' K
  | some (j,want)=> match guardB st.slots all j want with
   | none=>False
   | some g=>match evP C o (rhoOf C st o) st.objs with
    | some (ps,x)=> match putD st o.dst (.gd g (bare x)) with
     | some st'=>also (if0 g (owedOf C st o (some g)++ own1 x ++ ps)) (evOps C inl all rest st' K)
     | none=>False
    | none=>cond g (evOne C inl o (lgS C st all j want) fun st'=>evOps C inl all rest st' K) (match putD (lgS C st all j !want) o.dst (.gd g (.v (.bool false))) with
       | some st'=>evOps C inl all rest st' K
       | none=>False)
def looks (all:List Oper) (o:Oper): List Nat :=
 o.op.operands.toList.flatMap (fun | .tmp t=>[t]| _=>[])++ (match o.guard with
  | some (j,_)=> ((nth all j).bind (·.dst)).toList
  | none=>[])
def names (all:List Oper) (o:Oper): List Nat:=o.dst.toList ++ looks all o
def maskOf (acc:List Nat): List Edge→Nat
 | []=> 0
 | e::es=>bif Region.binds .any e then (2 ^ e.on ||| (nth acc e.on).getD 0)||| maskOf acc es else maskOf acc es
def bitsFrom (acc:List Nat): List Oper→List Nat
 | []=> acc
 | o::os=>bitsFrom (acc ++ [maskOf acc o.after.toList]) os
def bitsBefore (all:List Oper): List Nat:=bitsFrom [] all
def ahead (bits:List Nat) (i j:Nat): Bool:=((nth bits j).getD 0).testBit i
def disj (d:Option Nat) (l:List Nat): Bool :=
 match d with
 | some d => !l.contains d
 | none=>true
def apart2 (all:List Oper) (bits:List Nat) (i j:Nat): Bool :=
 match nth all i,nth all j with
 | some oi,some oj=>ahead bits i j || (disj oi.dst (names all oj) && disj oj.dst (names all oi))
 | _,_=>true
def apartOk (all:List Oper) (bits:List Nat): Bool :=
 (List.range all.length).all fun j=>(List.range j).all fun i=>apart2 all bits i j
def tailOk (all:List Oper) (bits:List Nat) (m:Nat): Bool :=
 (List.range all.length).all fun j=>bif Nat.ble m j then (List.range j).all fun i=>ahead bits i j else true
def edgesOk (all:List Oper): Bool :=
 (List.range all.length).all fun i=>match nth all i with
  | some o=>o.after.toList.all fun e=>bif Region.binds .any e then Nat.blt e.on i else true
  | none=>true
def isDrawn (C:Cx) (o:Oper): Bool :=
 match o.op with
 | .box .. | .alloc _ | .store .. | .makeSlice .. | .makeMap .. | .mapUpdate .. | .insert .. => false
 | .call c=>match c.callee with
  | .builtin .append | .builtin .copy | .builtin .clear=>false
  | .builtin _=>true
  | .value (.func f)=> (C.T f).isSome || (C.Q f).isSome
  | .value _=>true
  | _=>false
 | _=>true
def firstM (C:Cx): List Oper→Nat
 | []=> 0
 | o::l=>bif isDrawn C o then firstM C l+1 else 0
def isAlloc (o:Oper): Bool :=
 match o.op with
 | .box .. | .alloc _=>true
 | _=>false
def isAppend (o:Oper): Bool :=
 match o.op with
 | .call c=>match c.callee with
  | .builtin .append=>true
  | _=>false
 | _=>false
def firstM2 (C:Cx): List Oper→Nat
 | []=> 0
 | o::l=>bif (isDrawn C o || isAlloc o || isAppend o) then firstM2 C l+1 else 0
def isStore (o:Oper): Bool :=
 match o.op with
 | .store .. => true
 | _=>false
def firstM3 (C:Cx): List Oper→Nat
 | []=> 0
 | o::l=>bif (isDrawn C o || isAlloc o || isStore o || isAppend o) then firstM3 C l+1 else 0
def apCall (all:List Oper): Bool :=
 all.any fun o=>match o.op with
  | .call c=>match c.callee,c.args.toList with
   | .builtin .append, .tmp t::_=>all.any fun p=>match p.op,p.dst with
    | .call d,some u=>match d.callee with
     | .value _=>Nat.beq u t
     | _=>false
    | _,_=>false
   | _,_=>false
  | _=>false
def isCloCall (o:Option Oper): Bool :=
 match o with
 | some o=>match o.op with
  | .call c=>match c.callee with
   | .value (.tmp _)=> true
   | _=>false
  | _=>false
 | none=>false
def cloM (C:Cx) (ops:List Oper): Option Nat:=(List.range ops.length).find? fun k=>isCloCall (nth ops k) && (Nat.ble k (firstM C ops) && tailOk ops (bitsBefore ops) k)
def minM (all:List Oper) (bits:List Nat): Nat:=(List.range all.length).foldl (fun m j=>bif (List.range j).all fun i=>ahead bits i j then m else j+1) 0
def pickM (C:Cx) (ops:List Oper): Nat :=
 match cloM C ops with
 | some k=>k
 | none =>
 bif apCall ops && tailOk ops (bitsBefore ops) (firstM2 C ops) then firstM2 C ops else
 bif tailOk ops (bitsBefore ops) (firstM C ops) then firstM C ops else bif tailOk ops (bitsBefore ops) (firstM2 C ops) then firstM2 C ops else
 bif tailOk ops (bitsBefore ops) (firstM3 C ops) then firstM3 C ops else bif Nat.ble (minM ops (bitsBefore ops)) ops.length then minM ops (bitsBefore ops) else 0
def isLate (all:List Oper) (o:Option Oper): Bool :=
 match o with
 | some o=>match o.op with
  | .store _ (.tmp t) _=>all.all fun p => !(isAlloc p && (match p.dst with
   | some d=>Nat.beq d t
   | none=>false))
  | .store .. => true
  | _=>false
 | none=>false
def isTail (o:Oper): Bool :=
 match o.op with
 | .slice _ _ (some _) none none=>true
 | _=>false
def isAT (C:Cx) (o:Oper): Bool:=isAppend o || (C.ts && isTail o)
def isApp (C:Cx) (o:Option Oper): Bool :=
 match o with
 | some o=>isAT C o
 | none=>false
def lateIx (C:Cx) (all:List Oper) (m:Nat): List Nat:=(List.range m).filter fun i=>isLate all (nth all i)|| (C.sp && isApp C (nth all i))
def spareB (C:Cx) (all:List Oper): Bool:=C.sp && all.any (isAT C)
def spareS (C:Cx) (all:List Oper) (st:St C.S.El): St C.S.El:=bif spareB C all then {st with objs:=st.objs ++ [.gone]} else st
def syncd (all:List Oper) (Lt:List Nat) (i:Nat): Bool:=Lt.all fun j=>Nat.beq j i || (bif Nat.blt j i then ahead (bitsBefore all) j i else ahead (bitsBefore all) i j)
def blind (o:Oper): Bool :=
 match o.op with
 | .move _ | .assign _ | .pick .. | .build .. | .nilCheck _ | .binOp .. | .unOp .. | .fieldAddr .. | .field .. | .index .. | .slice .. | .extract .. | .makeFunc .. | .buildSlice .. => true
 | _=>false
def safeLoad (Tg:List Nat) (o:Oper) (rho:Operand→AV El): Bool :=
 match o.op with
 | .load _ a=>match rho a with
  | .ref j _ => !(Tg.contains j)
  | _=>false
 | _=>false
def seen (Tg:List Nat) (all:List Oper) (Lt:List Nat) (i:Nat) (o:Oper) (rho:Operand→AV El) (H:List (AObj El)): List (AObj El):= bif (blind o || (syncd all Lt i || safeLoad Tg o rho)) then H else []
def lateA (C:Cx) (Tg:List Nat) (all:List Oper) (Lt:List Nat) (i:Nat) (o:Oper) (rho:Operand→AV C.S.El) (H:List (AObj C.S.El)): Option (Nat×Nat×List (AV C.S.El)):=
 match o.op with
 | .store t a x=>match rho a,cellsOf (rho x) with
  | .ref j off,some new=>match obj H j with
   | .cells cs=>bif (((Lt.contains i && Tg.contains j) && syncd all Lt i) && (Nat.beq new.length (sizeT C.P t) && Nat.ble (off+new.length) cs.length && new.all one && (C.P.info? t).isSome)) then some (j,off,new) else none
   | _=>none
  | _,_=>none
 | _=>none
def putL (H:List (AObj El)) (j off:Nat) (new:List (AV El)): List (AObj El):=
 match obj H j with
 | .cells cs=>setN H j (.cells (over cs off new))
 | _=>H
def isGone:AObj El→Bool
 | .gone=>true
 | _=>false
def apK0 (C:Cx) (Tg:List Nat) (all:List Oper) (Lt:List Nat) (i:Nat) (o:Oper) (rho:Operand→AV C.S.El) (H:List (AObj C.S.El)): Option (List Prop×Nat×Nat×AObj C.S.El×AV C.S.El):=
 match o.op with
 | .call c=>match c.callee with
  | .builtin .append=>match c.args.toList.map rho,c.argTypes.toList with
   | [.gs a,x],[t,t']=> match elemT C.P t,deref H x,obj H a with
    | some e, .sl u ys _, .row v xs=>if hu:u=e then (if hv:v=e then
      bif ((Nat.beq t t' && Nat.beq (sizeT C.P e) (C.S.sz e) && zeroFit C.P e && Nat.ble 1 (bytesT C.P e)) && ((Lt.contains i && Tg.contains a && Tg.contains (H.length - 1)) && (syncd all Lt i && isGone (obj H (H.length - 1)) && Nat.ble 1 H.length) && (spareB C all && (List.range all.length).all fun j=>Nat.beq j i || !(isApp C (nth all j))))) then
       some ([(xs.length+ys.length)* bytesT C.P e≤140737488355328],a,H.length - 1, .row e ((hv ▸ xs)++ (hu ▸ ys)), .gs (H.length - 1)) else none else none) else none
    | _,_,_=>none
   | _,_=>none
  | _=>none
 | _=>none
def apT (C:Cx) (Tg:List Nat) (all:List Oper) (Lt:List Nat) (i:Nat) (o:Oper) (rho:Operand→AV C.S.El) (H:List (AObj C.S.El)): Option (List Prop×Nat×Nat×AObj C.S.El×AV C.S.El):=
 match o.op with
 | .slice t x (some lo) none none=>match rho x,rho lo with
  | .gs a, .v (.int _ l)=> match obj H a with
   | .row u xs =>
    bif ((isSl C.P t && fitE C t u) && C.ts) && ((Lt.contains i && Tg.contains a && Tg.contains (H.length - 1)) && (syncd all Lt i && isGone (obj H (H.length - 1)) && Nat.ble 1 H.length) && (spareB C all && (List.range all.length).all fun j=>Nat.beq j i || !(isApp C (nth all j)))) then
     some ([0≤l∧l≤xs.length],a,H.length - 1, .row u (xs.drop l.toNat), .gs (H.length - 1)) else none
   | _=>none
  | _,_=>none
 | _=>none
def apK (C:Cx) (Tg:List Nat) (all:List Oper) (Lt:List Nat) (i:Nat) (o:Oper) (rho:Operand→AV C.S.El) (H:List (AObj C.S.El)): Option (List Prop×Nat×Nat×AObj C.S.El×AV C.S.El):=
 match apK0 C Tg all Lt i o rho H with
 | some r=>some r
 | none=>apT C Tg all Lt i o rho H
def apUse (C:Cx) (all:List Oper) (d:Option Nat): Bool :=
 match d with
 | some d=>tailOk all (bitsBefore all) (firstM C all) && all.any fun o=>match o.op with
  | .call c=>match c.callee,c.args.toList with
   | .builtin .append, .tmp t::_=>Nat.beq t d
   | _,_=>false
  | _=>false
 | none=>false
def rowCt (C:Cx) (o:Oper) (rho:Operand→AV C.S.El): Option (List Prop×AV C.S.El×List (AObj C.S.El)):=
 match o.op with
 | .call c=>match targetOf rho c with
  | some (f,args)=> bif C.an f && args.all (lt1 0) then (match C.T f with
   | some ct=>bif (argsA C.P c [] args).all (lt1 0) then ct (argsA C.P c [] args) else none
   | none=>none) else none
  | none=>none
 | _=>none
def rowO (j:Nat): Option (List Prop×AV El×List (AObj El))→Option (AObj El×AV El)
 | some (_, .gs 0,[.row t xs])=> some (.row t xs, .gs j)
 | _=>none
def allocP (C:Cx) (o:Oper) (rho:Operand→AV C.S.El): List Prop :=
 match rowCt C o rho with
 | some (ps,_)=> ps
 | none=>[]
def allocO (C:Cx) (all:List Oper) (o:Oper) (rho:Operand→AV C.S.El) (j:Nat): Option (AObj C.S.El×AV C.S.El):=
 match o.op with
 | .alloc t=>(zeroT C.P t).map fun cs=>(.cells cs, .ref j 0)
 | .box _ x=>(cellsOf (rho x)).map fun cs=>(.cells cs, .ref j 0)
 | .buildSlice t len parts=>bif apUse C all o.dst then (buildSliceA C t len (parts.toList.map fun (i,x)=> (i,rho x))).map fun r=>(.row r.1 r.2, .gs j) else none
 | .call _=>rowO j (rowCt C o rho)
 | _=>none
def noGs0 (n:Nat): AV El→Bool
 | .gs i | .rg _ i _ _ | .gw _ i _ | .gm i=>Nat.blt i n
 | _=>true
def noGs1 (n:Nat): AV El→Bool
 | .agg cs=>cs.all (noGs0 n)
 | x=>noGs0 n x
def noGs (n:Nat): AV El→Bool
 | .clo _ cs=>cs.all (noGs1 n)
 | x=>noGs1 n x
def noNew (C:Cx) (n:Nat) (o:Oper) (rho:Operand→AV C.S.El): Bool:=o.op.operands.toList.all fun x=>noGs n (rho x)
def putA (C:Cx) (o:Oper) (rho:Operand→AV C.S.El) (n:Nat) (N:List (AObj C.S.El)) (D:List Nat): Option (Nat×List (AV C.S.El)):=
 match o.op with
 | .store t a x=>match rho a,cellsOf (rho x) with
  | .ref i off,some new=>bif (Nat.beq off 0 && Nat.ble n i && !(D.contains (i - n))) then
    (match nth N (i - n) with
    | some (.cells cs)=> bif (Nat.beq new.length (sizeT C.P t) && Nat.beq new.length cs.length && new.all one && (C.P.info? t).isSome) then some (i - n,new) else none
    | _=>none) else none
  | _,_=>none
 | _=>none
def evDs (C:Cx) (Tg:List Nat) (all:List Oper) (Lt:List Nat): Nat→Nat→List Oper→St C.S.El→List (AObj C.S.El)→List Nat→(List Oper→St C.S.El→Prop)→Prop
 | _,0,l,st,N,_,K=>K l {st with objs:=st.objs ++ N}
 | _,_+1,[],st,N,_,K=>K [] {st with objs:=st.objs ++ N}
 | i,m+1,o::rest,st,N,D,K=>match o.guard with
  | none=>match allocO C all o (rhoOf C st o) (st.objs.length+N.length) with
   | some (ob,x)=> match putD st o.dst x with
    | some st'=>also (owedOf C st o none ++ allocP C o (rhoOf C st o)) (evDs C Tg all Lt (i+1) m rest st' (N ++ [ob]) D K)
    | none=>False
   | none=>match putA C o (rhoOf C st o) st.objs.length N D with
    | some (k,cs)=> match putD st o.dst .any with
     | some st'=>also (owedOf C st o none) (evDs C Tg all Lt (i+1) m rest st' (setN N k (.cells cs)) (k::D) K)
     | none=>False
    | none=>match lateA C Tg all Lt i o (rhoOf C st o) st.objs with
     | some (j,off,new)=> match putD st o.dst .any with
      | some st'=>also (owedOf C st o none) (evDs C Tg all Lt (i+1) m rest {st' with objs:=putL st.objs j off new} N D K)
      | none=>False
     | none=>match apK C Tg all Lt i o (rhoOf C st o) st.objs with
      | some (ps,a,k,ob,x)=> match putD st o.dst x with
       | some st'=>also (owedOf C st o none ++ ps) (evDs C Tg all Lt (i+1) m rest {st' with objs:=setN (setN st.objs a .gone) k ob} N D K)
       | none=>False
      | none=>bif noNew C (seen Tg all Lt i o (rhoOf C st o) st.objs).length o (rhoOf C st o) then (match evD C o (rhoOf C st o) (seen Tg all Lt i o (rhoOf C st o) st.objs) with
       | some (ps,x)=> match putD st o.dst x with
        | some st'=>also (owedOf C st o none ++ ps) (evDs C Tg all Lt (i+1) m rest st' N D K)
        | none=>False
       | none=>match o.op with
        | .lookup t mp k ok=>match lookupA C t (seen Tg all Lt i o (rhoOf C st o) st.objs) (rhoOf C st o mp) (rhoOf C st o k) with
         | some (n,ks,vs)=> also (owedOf C st o none) (lkMap n ks vs fun r=>match lkRes C t ok r with
          | some x=>match putD st o.dst x with
           | some st'=>evDs C Tg all Lt (i+1) m rest st' N D K
           | none=>False
          | none=>False)
         | none=>False
        | _=>False) else False
  | some (j,want)=> match guardB st.slots all j want with
   | none=>False
   | some g=>bif noNew C (seen Tg all Lt i o (rhoOf C st o) st.objs).length o (rhoOf C st o) then (match evD C o (rhoOf C st o) (seen Tg all Lt i o (rhoOf C st o) st.objs) with
    | some (ps,x)=> match putD st o.dst (.gd g (bare x)) with
     | some st'=>also (if0 g (owedOf C st o (some g)++ own1 x ++ ps)) (evDs C Tg all Lt (i+1) m rest st' N D K)
     | none=>False
    | none=>False) else False
def isIdx (o:Oper): Bool :=
 match o.op with
 | .indexAddr .. => true
 | _=>false
def preS (C:Cx): List Oper→St C.S.El→St C.S.El
 | [],st=>st
 | o::l,st=>bif (blind o || isIdx o) && o.guard.isNone then (match evP C o (rhoOf C st o) st.objs with
  | some (_,x)=> match putD st o.dst x with
   | some st'=>preS C l st'
   | none=>preS C l st
  | none=>preS C l st) else preS C l st
def tgOf (C:Cx) (st:St C.S.El) (o:Option Oper): List Nat :=
 match o with
 | some o=>match o.op with
  | .store _ a _=>match rhoOf C st o a with
   | .ref j _=>[j]
   | _=>[]
  | .call _ | .slice .. => (List.range st.objs.length).filter fun i=>match obj st.objs i with
   | .cells _=>false
   | _=>true
  | _=>[]
 | none=>[]
def lateTg (C:Cx) (all:List Oper) (Lt:List Nat) (st:St C.S.El): List Nat:=Lt.flatMap fun i=>tgOf C (preS C all st) (nth all i)
def resA (C:Cx) (st:St C.S.El): ResultVar→Option (AV C.S.El)
 | .tmp t=>some (lk st.slots t)
 | .cell a t=>match loadA C t st.objs (lk st.slots a) with
  | some ([],x)=> some x
  | _=>none
def resAll (C:Cx) (st:St C.S.El): List ResultVar→Option (List (AV C.S.El))
 | []=> some []
 | r::rs=>match resA C st r,resAll C st rs with
  | some x,some xs=>some (x::xs)
  | _,_=>none
def resultsA (C:Cx) (fn:Func) (st:St C.S.El): Option (AV C.S.El):=
 match fn.results.toList with
 | [r]=> resA C st r
 | rs=>(resAll C st rs).map .tup
def rounds (f:St El→(AExit→St El→Prop)→Prop): Nat→St El→(AExit→St El→Prop)→Prop
 | 0,_,_=>False
 | n+1,st,K=>f st fun e s'=>match e with
  | .normal=>rounds f n s' K
  | e=>K e s'
def learn (st:St El) (c:Operand) (b:Bool): St El :=
 match c with
 | .tmp t=>{st with slots:=(t, .v (.bool b)):: st.slots}
 | _=>st
def hasLoop:Code→Bool
 | .seq a b=>hasLoop a || hasLoop b
 | .cond _ a b=>hasLoop a || hasLoop b
 | .block _ b=>hasLoop b
 | .scope b=>hasLoop b
 | .loop _=>true
 | _=>false
def unr (C:Cx) (b:Code): Nat:=bif Nat.ble 100 C.unroll then (bif hasLoop b then 0 else C.unroll - 100) else C.unroll
def isInl (C:Cx) (o:Option Oper): Bool :=
 match o with
 | some o=>match o.op with
  | .call c=>match c.callee with
   | .value (.func f)=> ((C.T f).isNone && (C.F f).isSome) && (C.Q f).isNone
   | _=>false
  | _=>false
 | none=>false
def anyB (C:Cx) (all:List Oper): Bool:=(C.ay && Nat.ble 2 (all.filter isAppend).length)|| (List.range (minM all (bitsBefore all))).any fun i=>isInl C (nth all i)
def lbit (L:List Bool) (i:Nat): Bool:=(nth L i).getD false
def rdy (all:List Oper) (L:List Bool): List Nat:=(List.range all.length).filter fun i=>match nth all i with
 | some o => !(lbit L i) && o.after.toList.all fun e => !(Region.binds .any e)|| lbit L e.on
 | none=>false
def evEach (P:Nat→Prop): Nat→List Nat→Prop
 | i,[]=> P i
 | i,j::l=>P i∧evEach P j l
def evAny (C:Cx) (inl:Inl C.S.El) (all:List Oper): Nat→List Bool→St C.S.El→(St C.S.El→Prop)→Prop
 | 0,L,st,K=>match rdy all L with
  | []=> K st
  | _=>False
 | f+1,L,st,K=>match rdy all L with
  | []=> K st
  | i::is=>evEach (fun i=>match nth all i with
   | some o=>evOps C inl all [o] st fun st'=>evAny C inl all f (setN L i true) st' K
   | none=>False) i is
def evCode (C:Cx) (inl:Inl C.S.El): Code→St C.S.El→(AExit→St C.S.El→Prop)→Prop
 | .skip,st,K=>K .normal st
 | .region _ ops draw,st,K=>match draw with
  | false=>evOps C inl ops.toList ops.toList st fun st'=>K .normal st'
  | true=>bif anyB C ops.toList then evAny C inl ops.toList ops.toList.length (List.replicate ops.toList.length false) st (fun st'=>K .normal st') else
   bif (edgesOk ops.toList && (apartOk ops.toList (bitsBefore ops.toList) && tailOk ops.toList (bitsBefore ops.toList) (pickM C ops.toList))) then
    evDs C (lateTg C ops.toList (lateIx C ops.toList (pickM C ops.toList)) (spareS C ops.toList st)) ops.toList (lateIx C ops.toList (pickM C ops.toList)) 0 (pickM C ops.toList) ops.toList (spareS C ops.toList st) [] [] fun rest st'=>evOps C inl ops.toList rest st' fun st''=>K .normal st'' else False
 | .seq a b,st,K=>evCode C inl a st fun e st'=>match e with
  | .normal=>evCode C inl b st' K
  | e=>K e st'
 | .cond c x y,st,K=>match look C st.slots c with
  | .v (.bool b)=> cond b (evCode C inl x (learn st c true) K) (evCode C inl y (learn st c false) K)
  | _=>False
 | .block id b,st,K=>evCode C inl b st fun e st'=>match e with
  | .exit i=>bif Nat.beq i id then K .normal st' else K (.exit i) st'
  | e=>K e st'
 | .loop b,st,K=>match unr C b with
  | 0 => ∃(I:Nat→St C.S.El→Prop) (n:Nat) (s0:St C.S.El),I n s0∧stGe st s0∧
   ∀n s,I n s→evCode C inl b s fun e s'=>match e with
    | .normal => ∃m s'',m < n∧I m s''∧stGe s' s''
    | e=>K e s'
  | n+1=>rounds (fun s K'=>evCode C inl b s K') (n+1) st K
 | .scope b,st,K=>evCode C inl b st K
 | .label _,st,K=>K .normal st
 | .exit id,st,K=>K (.exit id) st
 | .ret,st,K=>K .ret st
 | _,_,_=>False
def trS (lo:Nat) (r:AV El) (H:List (AObj El)): St El:={lo:=lo,slots:=[(0,r)],n:=1,objs:=H}
def plainR0:AV El→Bool
 | .gm _ | .fm .. | .gw .. => false
 | _=>true
def plainR1:AV El→Bool
 | .agg cs=>cs.all plainR0
 | .clo _ cs=>cs.all plainR0
 | x=>plainR0 x
def plainR:AV El→Bool
 | .tup cs=>cs.all plainR1
 | x=>plainR1 x
def plainO:AObj El→Bool
 | .cells cs=>cs.all plainR1
 | .mp _ _ vs=>vs.all plainR1
 | _=>true
def trOk (lo:Nat) (r:AV El) (H:List (AObj El)): Bool:=plainR r && H.all plainO && okH [0] [] (trS lo r H)
def retK (C:Cx) (lo:Nat) (r:AV C.S.El) (H:List (AObj C.S.El)) (K:AV C.S.El→List (AObj C.S.El)→Prop): Prop :=
 match C.tr && trOk lo r H with
 | true=>K (lk (headS [0] [] (trS lo r H)).slots 0) (headS [0] [] (trS lo r H)).objs
 | false=>K r H
def enum {α:Type}: Nat→List α→List (Nat×α)
 | _,[]=> []
 | n,a::l=>(n,a):: enum (n+1) l
def evFun (C:Cx): Nat→Inl C.S.El
 | 0,_,_,_,_=>False
 | fuel+1,f,args,H,K=>match C.I f args H with
  | some (ps,r,H')=> also ps (K r H')
  | none=>match C.F f with
  | none=>False
  | some fn=>match fn.body with
   | none=>False
   | some c=>evCode C (evFun C fuel) c {lo:=lwm C f H.length,slots:=enum 0 args,n:=bif Nat.ble args.length fn.ntmps then fn.ntmps else args.length,objs:=H} fun e st=>match e with
    | .exit _=>False
    | _=>match resultsA C fn st with
     | some r=>retK C (lwm C f H.length) r st.objs K
     | none=>False
def exp0 (H:List (AObj El)) (ids:List Nat): AV El→List Nat×AV El
 | .gs i=>match obj H i with
  | .row _ _=>bif ids.contains i then (ids, .any) else (ids ++ [i], .gs ids.length)
  | .frozen t xs=>(ids, .sl t xs false)
  | _=>(ids, .any)
 | .v x=>(ids, .v x)
 | .sl t xs f=>(ids, .sl t xs f)
 | .fm k ks vs=>(ids,bif vs.all cl1 then .fm k ks vs else .any)
 | _=>(ids, .any)
def expL (H:List (AObj El)): List Nat→List (AV El)→List Nat×List (AV El)
 | ids,[]=> (ids,[])
 | ids,x::xs=>match exp0 H ids x with
  | (ids1,y)=> match expL H ids1 xs with
   | (ids2,ys)=> (ids2,y::ys)
def exp1 (H:List (AObj El)) (ids:List Nat): AV El→List Nat×AV El
 | .agg cs=>match expL H ids cs with
  | (ids',ys)=> (ids', .agg ys)
 | x=>exp0 H ids x
def expL1 (H:List (AObj El)): List Nat→List (AV El)→List Nat×List (AV El)
 | ids,[]=> (ids,[])
 | ids,x::xs=>match exp1 H ids x with
  | (ids1,y)=> match expL1 H ids1 xs with
   | (ids2,ys)=> (ids2,y::ys)
def exp2 (H:List (AObj El)): AV El→List Nat×AV El
 | .tup cs=>match expL1 H [] cs with
  | (ids',ys)=> (ids', .tup ys)
 | x=>exp1 H [] x
def fit0 (x r:AV El): AV El :=
 match x,r with
 | .sl t _ _, .v (.slice none 0 0)=> .sl t [] false
 | .sl _ _ _, .sl u xs _ => .sl u xs false
 | _,r=>r
def fitL:List (AV El)→List (AV El)→List (AV El)
 | x::xs,r::rs=>fit0 x r::fitL xs rs
 | _,rs=>rs
def fit1 (x r:AV El): AV El :=
 match x,r with
 | .agg xs, .agg rs => .agg (fitL xs rs)
 | x,r=>fit0 x r
def fitL1:List (AV El)→List (AV El)→List (AV El)
 | x::xs,r::rs=>fit1 x r::fitL1 xs rs
 | _,rs=>rs
def prep0 (news:List (AObj El)) (x r:AV El) (H:List (AObj El)): AV El×List (AObj El):=
 match x with
 | .gs k=>match r with
  | .v (.slice none 0 0)=> match nth news k with
   | some (.row t _)=> (.gs H.length,H ++ [.row t []])
   | _=>(r,H)
  | _=>(r,H)
 | .sl t _ f=>match r with
  | .v (.slice none 0 0)=> (.sl t [] false,H)
  | .sl u xs g=>(.sl u xs (g && f),H)
  | .gs i=>match obj H i with
   | .row u xs=>(.sl u xs false,freeze1 H i)
   | .frozen u xs=>(.sl u xs false,H)
   | _=>(r,H)
  | _=>(r,H)
 | .fm _ _ ws=>match r with
  | .gm i=>match obj H i with
   | .mp k ks vs=>(.fm k ks (fitL1 ws (vs.map (deref1 H))),setN (freezeAll H (vs.flatMap owns1)) i .gone)
   | _=>(r,H)
  | _=>(r,H)
 | _=>(r,H)
def prepL (news:List (AObj El)): List (AV El)→List (AV El)→List (AObj El)→List (AV El)×List (AObj El)
 | x::xs,r::rs,H=>match prep0 news x r H with
  | (r',H')=> match prepL news xs rs H' with
   | (rs',H'')=> (r'::rs',H'')
 | _,rs,H=>(rs,H)
def prep1 (news:List (AObj El)) (x r:AV El) (H:List (AObj El)): AV El×List (AObj El):=
 match x,r with
 | .agg xs, .agg rs=>match prepL news xs rs H with
  | (rs',H')=> (.agg rs',H')
 | x,r=>prep0 news x r H
def prepL1 (news:List (AObj El)): List (AV El)→List (AV El)→List (AObj El)→List (AV El)×List (AObj El)
 | x::xs,r::rs,H=>match prep1 news x r H with
  | (r',H')=> match prepL1 news xs rs H' with
   | (rs',H'')=> (r'::rs',H'')
 | _,rs,H=>(rs,H)
def prep2 (news:List (AObj El)) (x r:AV El) (H:List (AObj El)): AV El×List (AObj El):=
 match x,r with
 | .tup xs, .tup rs=>match prepL1 news xs rs H with
  | (rs',H')=> (.tup rs',H')
 | x,r=>prep1 news x r H
def Gives (r:AV El) (H:List (AObj El)) (x:AV El) (news:List (AObj El)): Prop :=
 (exp2 (prep2 news x r H).2 (prep2 news x r H).1).2=x∧(exp2 (prep2 news x r H).2 (prep2 news x r H).1).1.map (obj (prep2 news x r H).2)= news
end Go.Aw
