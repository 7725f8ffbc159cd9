/- The abstract layer, 1: values, states, the meaning of operations; what a path of code asks. Definitions alone. -/
import Derived.Calls
set_option linter.unusedVariables false
set_option linter.unusedSimpArgs false
noncomputable section
namespace Go.Abs
open Go
inductive AV where
 |undef
 |int (k:IntKind) (n:Int)
 |bool (b:Bool)
 |str (s:List UInt8)
 |nilp
 |ptr (b i j:Nat)
 |rp (row:List AV) (j:Nat)
 |fn (f:FuncId) (caps:List AV)
 |nilfn
 |nili
 |ifc
 |emp
 |ref (b off len:Nat)
 |ro (z:List AV) (rows:List (List AV))
 |own (lvl:Nat) (z:List AV) (rows:List (List AV))
 |obj (cells:List AV)
 |agg (cs:List AV)
 |tup (vs:List AV)
 deriving Inhabited
structure Blk where
 arr:Bool
 lvl:Nat
 z:List AV
 rows:List (List AV)
 deriving Inhabited
inductive MB where
 |abs|dead|live (b:Blk)
 deriving Inhabited
structure St where
 n:Nat
 t:Nat→AV
 m:Nat→MB
 an:List Nat
def upd{α:Type}(f:Nat→α)(k:Nat)(v:α):Nat→α:=fun x=>if x=k then v else f x
def St.mws(s:St):List (Nat × MB)→St
 |[]=>s
 |x::l=>St.mws {s with m:=upd s.m x.1 x.2} l
def St.put(s:St)(d:Option Nat)(v:AV):St:=match d with
 |some d=>{s with t:=upd s.t d v}
 |none=>s
def St.dstOk(s:St)(d:Option Nat):Bool:=match d with
 |some d=>decide (d<s.n)
 |none=>true
inductive RP(α:Type) where
 |ret (a:α)
 |tmp (k:Nat) (c:AV→RP α)
 |mem (b:Nat) (c:MB→RP α)
 |req (b:Bool) (c:RP α)
 |fail
noncomputable def RP.bind{α β:Type}(p:RP α)(f:α→RP β):RP β:=
 RP.rec (motive:=fun _=>RP β) (fun a=>f a) (fun k _ ih=>.tmp k fun v=>ih v) (fun b _ ih=>.mem b fun v=>ih v) (fun b _ ih=>.req b ih) .fail p
instance:Monad RP where
 pure:=RP.ret
 bind:=RP.bind
def RP.run{α:Type}:RP α→St→Option α
 | .ret a,_=>some a
 | .tmp k c,s=>(c (s.t k)).run s
 | .mem b c,s=>(c (s.m b)).run s
 | .req b c,s=>if b=true then c.run s else none
 | .fail,_=>none
def Rq(b:Bool)(X:Prop):Prop:=b=true∧X
def Br(b:Bool)(X Y:Prop):Prop:=(b=true→X)∧(b=false→Y)
def RP.runK{α:Type}:RP α→St→(α→Prop)→Prop
 | .ret a,_,K=>K a
 | .tmp k c,s,K=>(c (s.t k)).runK s K
 | .mem b c,s,K=>(c (s.m b)).runK s K
 | .req b c,s,K=>Rq b (c.runK s K)
 | .fail,_,_=>False
inductive UT where
 |int (k:IntKind)|bool|str|slice (e:TypeId)|struct (fs:List (Nat × TypeId))|array (n:Nat) (e:TypeId)|ptr (e:TypeId)|func|iface|other
 deriving Inhabited
structure TI where
 ut:UT
 size:Nat
 bytes:Nat
 zero:List AV
 eqs:Bool
 deriving Inhabited
def fitsK:IntKind→Int→Bool
 | .i8,n=>decide (-128≤n)&&decide (n≤127)
 | .i16,n=>decide (-32768≤n)&&decide (n≤32767)
 | .i32,n=>decide (-2147483648≤n)&&decide (n≤2147483647)
 | .i64,n=>decide (-9223372036854775808≤n)&&decide (n≤9223372036854775807)
 | .u8,n=>decide (0≤n)&&decide (n≤255)
 | .u16,n=>decide (0≤n)&&decide (n≤65535)
 | .u32,n=>decide (0≤n)&&decide (n≤4294967295)
 | .u64,n=>decide (0≤n)&&decide (n≤18446744073709551615)
def maxLn:Nat:=9223372036854775807
def ofVal:Value→AV
 | .int k n=>if fitsK k n=true then .int k n else .undef
 | .bool b=>.bool b
 | .string s=>if s.data.toList.length≤maxLn then .str s.data.toList else .undef
 | .pointer none=>.nilp
 | .slice none 0 0=>.emp
 | .nilFunc=>.nilfn
 | .nilIface=>.nili
 |_=>.undef
def utOf:TypeDesc→UT
 | .int k=>.int k
 | .bool=>.bool
 | .string=>.str
 | .slice e=>.slice e
 | .struct fs=>.struct (fs.toList.map fun f=>(f.offset,f.type))
 | .array n e=>.array n e
 | .pointer e=>.ptr e
 | .func _ _ _=>.func
 | .interface _=>.iface
 |_=>.other
def eqsOf(P:Program)(t:TypeId):TypeDesc→Bool
 | .struct fs=>fs.toList.all (fun f=>f.name != "_")&&(fs.toList.map (·.offset)==List.range fs.size)&& !P.stoodInHeld t&& !P.eqGuardType P.depth t
 |_=>false
def tiOf(P:Program)(t:TypeId):Option TI:=
 match P.info? t,P.underlying t with
 |some i,some d=>match i.zero with
  |some z=>if z.cells.size=i.size then some ⟨utOf d,i.size,i.bytes,z.cells.toList.map ofVal,eqsOf P t d⟩else none
  |none=>none
 |_,_=>none
abbrev TT:=List (Nat × TI)
def TT.get:TT→Nat→Option TI
 |[],_=>none
 |(k,i)::l,t=>match Nat.beq k t with
  |true=>some i
  |false=>TT.get l t
def TT.ok(T:TT)(P:Program):Prop:= ∀t i,T.get t=some i→tiOf P t=some i
def AV.leaves:AV→List AV
 | .agg cs=>cs
 |v=>[v]
def AV.isUndef:AV→Bool
 | .undef=>true
 |_=>false
def AV.plain:AV→Bool
 | .int _ _=>true
 | .bool _=>true
 | .str _=>true
 | .ro _ _=>true
 | .emp=>true
 | .nilp=>true
 | .nilfn=>true
 |_=>false
def AV.flat:AV→Bool
 | .int _ _=>true
 | .bool _=>true
 | .str _=>true
 | .nilp=>true
 | .nilfn=>true
 |_=>false
def AV.isPtr:AV→Bool
 | .ptr _ _ _=>true
 | .rp _ _=>true
 |_=>false
def AV.light:AV→Bool
 | .int _ _=>true
 | .bool _=>true
 | .str _=>true
 | .ro _ _=>true
 | .emp=>true
 | .nilp=>true
 | .nilfn=>true
 | .nili=>true
 | .ifc=>true
 | .ref _ _ _=>true
 | .ptr _ _ _=>true
 | .rp _ _=>true
 | .fn _ caps=>caps.all AV.isPtr
 |_=>false
def cid(d i:Nat):Nat:=1000*(d+1)+i
def RP.ofOpt{α:Type}:Option α→RP α
 |some a=>.ret a
 |none=>.fail
def guardP(b:Bool):RP Unit:=.req b (.ret ())
def opnd:Operand→RP AV
 | .tmp k=>.tmp k .ret
 | .const v=>.ret (ofVal v)
 | .func f=>.ret (.fn f [])
 | .global _=>.fail
def opnds:List Operand→RP (List AV)
 |[]=>.ret []
 |x::l=>(opnd x).bind fun v=>(opnds l).bind fun vs=>.ret (v::vs)
abbrev Res:=AV × List (Nat × MB)
def val(v:AV):RP Res:=.ret (v,[])
def TI.ofT(T:TT)(t:TypeId):RP TI:=match T.get t with
 |some i=>.ret i
 |none=>.fail
def elemT(T:TT)(t:TypeId):RP TypeId:=match T.get t with
 |some i=>match i.ut with
  | .slice e=>.ret e
  | .array _ e=>.ret e
  |_=>.fail
 |none=>.fail
def elemI(T:TT)(t:TypeId):RP TI:=(elemT T t).bind fun e=>TI.ofT T e
def sliceI(T:TT)(t:TypeId):RP TI:=match T.get t with
 |some i=>match i.ut with
  | .slice e=>TI.ofT T e
  |_=>.fail
 |none=>.fail
def u8rows(s:List UInt8):List (List AV):=s.map fun c=>[.int .u8 c.toNat]
def rowA(rows:List (List AV))(n:Nat)(z:List AV):List AV:=rows.getD n z
def subA(rows:List (List AV))(off n:Nat):List (List AV):=(rows.drop off).take n
def lvlOf(cs:List AV):Nat:=if cs.all AV.flat then 0 else 1
def liveA:MB→RP Blk
 | .live b=>.ret b
 |_=>.fail
def arrB(m:MB):RP Blk:=(liveA m).bind fun b=>(guardP b.arr).bind fun _=>.ret b
def rowsOf(z:List AV):AV→RP (Nat × List (List AV))
 | .emp=>.ret (0,[])
 | .ro z' rows=>.req (z'.length==z.length) (.ret (1,rows))
 | .ref b off len=>.mem b fun m=>(arrB m).bind fun blk=>.req (blk.z.length==z.length&&decide (blk.lvl≤1)) (.ret (blk.lvl,subA blk.rows off len))
 | .str s=>.req (z.length==1) (.ret (0,u8rows s))
 |_=>.fail
def lenA:AV→RP Nat
 | .str s=>.ret s.length
 | .ref _ _ n=>.ret n
 | .ro _ r=>.ret r.length
 | .emp=>.ret 0
 |_=>.fail
def setCells(row:List AV)(j:Nat)(vs:List AV):List AV:=row.take j++vs++row.drop (j+vs.length)
def setRow(rows:List (List AV))(i j:Nat)(z vs:List AV):List (List AV):=rows.set i (setCells (rowA rows i z) j vs)
def asNat(v:AV):RP Nat:=match v with
 | .int _ n=>.req (decide (0≤n)) (.ret n.toNat)
 |_=>.fail
def leafEq(T:TT):List TypeId→List AV→List AV→Option Bool
 |[],[],[]=>some true
 |t::ts,x::l,y::r=>match T.get t with
  |some i=>match i.ut,x,y with
   | .int _,.int k a,.int k' b=>if k=k' then(leafEq T ts l r).map fun e=>a==b&&e else none
   | .bool,.bool a,.bool b=>(leafEq T ts l r).map fun e=>a==b&&e
   | .str,.str a,.str b=>(leafEq T ts l r).map fun e=>a==b&&e
   |_,_,_=>none
  |none=>none
 |_,_,_=>none
def arithInt(op:BinOp)(k:IntKind)(x y:Int):RP AV:=
 match op with
 | .add=>.ret (.int k (k.wrap (x+y)))
 | .sub=>.ret (.int k (k.wrap (x-y)))
 | .mul=>.ret (.int k (k.wrap (x*y)))
 | .quo=>.req (y != 0) (.ret (.int k (k.wrap (x.tdiv y))))
 | .rem=>.req (y != 0) (.ret (.int k (x.tmod y)))
 | .and=>.ret (.int k (k.wrap (BitVec.ofInt k.bits x&&&BitVec.ofInt k.bits y).toNat))
 | .or=>.ret (.int k (k.wrap (BitVec.ofInt k.bits x|||BitVec.ofInt k.bits y).toNat))
 | .xor=>.ret (.int k (k.wrap (BitVec.ofInt k.bits x^^^BitVec.ofInt k.bits y).toNat))
 | .eql=>.ret (.bool (x==y))
 | .neq=>.ret (.bool (x != y))
 | .lss=>.ret (.bool (decide (x<y)))
 | .leq=>.ret (.bool (decide (x≤y)))
 | .gtr=>.ret (.bool (decide (x>y)))
 | .geq=>.ret (.bool (decide (x≥y)))
 |_=>.fail
def binInt(op:BinOp)(k k':IntKind)(a b:Int):RP AV:=
 match op with
 | .shl=>.req (decide (0≤b)) (.ret (.int k (k.wrap (a*2 ^ (min b.toNat k.bits)))))
 | .shr=>.req (decide (0≤b)) (.ret (.int k (a.fdiv (2 ^ (min b.toNat k.bits)))))
 |op=>if k=k' then arithInt op k a b else .fail
def maxStr:Nat:=1099511627776
def binStr(op:BinOp)(a b:List UInt8):RP AV:=
 match op with
 | .add=>.req (decide (a.length+b.length<maxStr)) (.ret (.str (a++b)))
 | .eql=>.ret (.bool (a==b))
 | .neq=>.ret (.bool (!(a==b)))
 | .lss=>.ret (.bool (Op.bytesLess a b))
 |_=>.fail
def binBool(op:BinOp)(a b:Bool):RP AV:=
 match op with
 | .eql=>.ret (.bool (a==b))
 | .neq=>.ret (.bool (!(a==b)))
 |_=>.fail
def binAgg(T:TT)(op:BinOp)(i:Option TI)(a b:List AV):RP AV:=
 match i with
 |some i=>.req i.eqs (match i.ut with
  | .struct fs=>match leafEq T (fs.map (·.2)) a b with
   |some e=>match op with
    | .eql=>.ret (.bool e)
    | .neq=>.ret (.bool (!e))
    |_=>.fail
   |none=>.fail
  |_=>.fail)
 |none=>.fail
def binA(T:TT)(i:Option TI)(op:BinOp)(x y:AV):RP AV:=
 match x with
 | .int k a=>match y with
  | .int k' b=>binInt op k k' a b
  |_=>.fail
 | .str a=>match y with
  | .str b=>binStr op a b
  |_=>.fail
 | .bool a=>match y with
  | .bool b=>match i with
   |some i=>match i.ut with
    | .bool=>binBool op a b
    |_=>.fail
   |none=>.fail
  |_=>.fail
 | .agg a=>match y with
  | .agg b=>binAgg T op i a b
  |_=>.fail
 |_=>.fail
def isNilI:Operand→Bool
 | .const .nilIface=>true
 |_=>false
def nilI(i:Option TI)(op:BinOp)(x:AV):RP AV:=match i with
 |some i=>match i.ut with
  | .iface=>match x with
   | .nili=>match op with
    | .eql=>.ret (.bool true)
    | .neq=>.ret (.bool false)
    |_=>.fail
   | .ifc=>match op with
    | .eql=>.ret (.bool false)
    | .neq=>.ret (.bool true)
    |_=>.fail
   |_=>.fail
  |_=>.fail
 |none=>.fail
def unA(op:UnOp)(x:AV):RP AV:=
 match x with
 | .int k n=>match op with
  | .neg=>.ret (.int k (k.wrap (0-n)))
  |_=>.fail
 | .bool b=>match op with
  | .not=>.ret (.bool (!b))
  |_=>.fail
 |_=>.fail
def dstOf(o:Oper)(k:Nat→RP Res):RP Res:=match o.dst with
 |some d=>k d
 |none=>.fail
def newB(d:Nat)(k:RP Res):RP Res:=.mem d fun m=>match m with
 | .abs=>k
 |_=>.fail
def varB(d:Nat)(cs:List AV):Res:=(.ptr d 0 0,[(d,.live ⟨false,0,cs,[cs]⟩)])
def arrR(d lvl:Nat)(z:List AV)(rows:List (List AV))(n:Nat):Res:=(.ref d 0 n,[(d,.live ⟨true,lvl,z,rows⟩)])
def evAlloc(T:TT)(t:TypeId)(d:Nat):RP Res:=newB d ((TI.ofT T t).bind fun i=>match i.ut with
 | .array n e=>(TI.ofT T e).bind fun j=>.req (i.size==n*j.size&&decide (0<j.size)&&decide (0<n)&&decide (n≤maxLn)&&i.zero.all AV.flat)
   (.ret (.ptr d 0 0,[(d,.live ⟨true,0,j.zero,(List.range n).map fun k=>(i.zero.drop (k*j.size)).take j.size⟩)]))
 |_=>.ret (varB d i.zero))
def evBox(x:Operand)(d:Nat):RP Res:=newB d ((opnd x).bind fun v=>.req (v.leaves.all AV.light) (.ret (varB d v.leaves)))
def fillA(offs:Nat→Option (Nat × Nat)):List AV→List (Nat × AV)→Option (List AV)
 |cs,[]=>some cs
 |cs,(i,v)::l=>match offs i with
  |some o=>if v.leaves.length=o.2∧o.1+o.2≤cs.length then fillA offs (setCells cs o.1 v.leaves) l else none
  |none=>none
def fieldA(T:TT)(fs:List (Nat × TypeId))(i:Nat):Option (Nat × Nat):=match fs[i]? with
 |some p=>match T.get p.2 with
  |some j=>some (p.1,j.size)
  |none=>none
 |none=>none
def evBuild(T:TT)(t:TypeId)(ps:List (Nat × Operand)):RP Res:=(TI.ofT T t).bind fun i=>match i.ut with
 | .struct fs=>(opnds (ps.map (·.2))).bind fun vs=>.req ((vs.all fun v=>v.leaves.all AV.light)&&fs.all fun p=>(T.get p.2).isSome)<|(RP.ofOpt (fillA (fieldA T fs) i.zero ((ps.map (·.1)).zip vs))).bind fun cs=>val (.agg cs)
 | .array _ e=>match ps with
  |[]=>(TI.ofT T e).bind fun _=>val (.agg i.zero)
  |_=>.fail
 |_=>.fail
def putRows:List (List AV)→List (Nat × AV)→List (List AV)
 |rows,[]=>rows
 |rows,(i,v)::l=>putRows (rows.set i v.leaves) l
def evBuildSlice(T:TT)(t:TypeId)(n:Nat)(ps:List (Nat × Operand))(d:Nat):RP Res:=newB d ((sliceI T t).bind fun i=>
 (opnds (ps.map (·.2))).bind fun vs=>.req (vs.all (fun v=>v.leaves.all AV.plain&&v.leaves.length==i.size)&&i.zero.all AV.plain&&decide (0<i.size)&&decide (n*i.size≤10000)&&ps.all (fun p=>decide (p.1<n)))
  (if n=0 then val .emp else .ret (arrR d (if(vs.all fun v=>v.leaves.all AV.flat)&&i.zero.all AV.flat then 0 else 1) i.zero (putRows (List.replicate n i.zero) ((ps.map (·.1)).zip vs)) n)))
def cellsAt(n:Nat):AV→RP (List AV)
 | .ptr b r j=>.mem b fun m=>(liveA m).bind fun blk=>.ret (((rowA blk.rows r blk.z).drop j).take n)
 | .rp row j=>.ret ((row.drop j).take n)
 |_=>.fail
def isAggT:UT→Bool
 | .struct _=>true
 | .array _ _=>true
 |_=>false
def evLoad(T:TT)(t:TypeId)(x:Operand):RP Res:=(TI.ofT T t).bind fun i=>(opnd x).bind fun v=>(cellsAt i.size v).bind fun cs=>
 .req (cs.all AV.light&&cs.length==i.size) (if isAggT i.ut then val (.agg cs)else match cs with
  |[c]=>val c
  |_=>.fail)
def setMany(rows:List (List AV))(r:Nat)(vs:List AV):List (List AV):=rows.take r++vs.map (fun x=>[x])++rows.drop (r+vs.length)
def isMany(n:Nat)(blk:Blk):Bool:=blk.arr&&Nat.blt blk.z.length n
def evStore(T:TT)(t:TypeId)(x y:Operand):RP Res:=(TI.ofT T t).bind fun i=>(opnd y).bind fun v=>(opnd x).bind fun a=>match a with
 | .ptr b r j=>.mem b fun m=>(liveA m).bind fun blk=>
   if isMany i.size blk=true then .req (blk.z.length==1&&j==0&&v.leaves.length==i.size&&decide (r+i.size≤blk.rows.length)&&v.leaves.all AV.plain&&decide (blk.lvl≤1))
    (.ret (.undef,[(b,.live {blk with lvl:=max blk.lvl (lvlOf v.leaves),rows:=setMany blk.rows r v.leaves})]))
   else .req (v.leaves.length==i.size&&decide (j+i.size≤blk.z.length))
   (if blk.arr then .req (v.leaves.all AV.plain&&decide (blk.lvl≤1)) (.ret (.undef,[(b,.live {blk with lvl:=max blk.lvl (lvlOf v.leaves),rows:=setRow blk.rows r j blk.z v.leaves})]))
    else .req (v.leaves.all AV.light&&(((rowA blk.rows r blk.z).drop j).take i.size).all (fun c=> !c.isUndef)) (.ret (.undef,[(b,.live {blk with rows:=setRow blk.rows r j blk.z v.leaves})])))
 |_=>.fail
def evNilCheck(x:Operand):RP Res:=(opnd x).bind fun v=>match v with
 | .ptr b i j=>val (.ptr b i j)
 | .rp r j=>val (.rp r j)
 |_=>.fail
def bytesOfRows:List (List AV)→Option (List UInt8)
 |[]=>some []
 |r::l=>match r with
  |[.int .u8 n]=>(bytesOfRows l).map fun s=>UInt8.ofNat n.toNat::s
  |_=>none
def convA(T:TT)(same:Bool)(s u:TI)(v:AV)(d:Nat):RP Res:=
 match u.ut with
 | .int k=>match v with
  | .int _ n=>val (.int k (k.wrap n))
  |_=>.fail
 | .str=>match v with
  | .str b=>val (.str b)
  |v=>match s.ut with
   | .slice e=>(TI.ofT T e).bind fun j=>match j.ut with
    | .int .u8=>(rowsOf [.undef] v).bind fun r=>(RP.ofOpt (bytesOfRows r.2)).bind fun b=>val (.str b)
    |_=>.fail
   |_=>.fail
 | .slice e=>match v with
  | .str b=>match s.ut with
   | .str=>(TI.ofT T e).bind fun j=>match j.ut with
    | .int .u8=>newB d (.ret (arrR d 0 [.int .u8 0] (u8rows b) b.length))
    |_=>.fail
   |_=>.fail
  | .ref b off len=>match same with
   |true=>(TI.ofT T e).bind fun j=>match j.ut with
    | .int .u8=>.req (decide (0<len)) (.mem b fun m=>(arrB m).bind fun blk=>val (.ref b off len))
    |_=>.fail
   |false=>.fail
  |_=>.fail
 |_=>.fail
def evConvert(T:TT)(s t:TypeId)(x:Operand)(d:Nat):RP Res:=(TI.ofT T s).bind fun i=>(TI.ofT T t).bind fun j=>(opnd x).bind fun v=>convA T (Nat.beq s t) i j v d
def evExtract(x:Operand)(i:Nat):RP Res:=(opnd x).bind fun v=>match v with
 | .tup vs=>(RP.ofOpt vs[i]?).bind val
 |_=>.fail
def evField(T:TT)(t:TypeId)(x:Operand)(f:Nat):RP Res:=(TI.ofT T t).bind fun i=>match i.ut with
 | .struct fs=>match fs[f]? with
  |some p=>(TI.ofT T p.2).bind fun j=>(opnd x).bind fun v=>match v with
   | .agg cs=>if isAggT j.ut then .req (decide (p.1+j.size≤cs.length)) (val (.agg ((cs.drop p.1).take j.size)))else(RP.ofOpt cs[p.1]?).bind val
   |_=>.fail
  |none=>.fail
 |_=>.fail
def evMakeFunc(fn:Fn)(first caps:List Operand):RP Res:=match fn,first with
 | .func f,[]=>(opnds caps).bind fun vs=>val (.fn f vs)
 |_,_=>.fail
def maxBytes:Nat:=1099511627776
def evMakeSlice(T:TT)(t:TypeId)(l c:Operand)(d:Nat):RP Res:=newB d ((sliceI T t).bind fun i=>(opnd l).bind fun l=>(opnd c).bind fun c=>(asNat l).bind fun n=>(asNat c).bind fun m=>
 .req (decide (n≤m)&&decide (m*i.bytes≤maxBytes)&&decide (m≤maxBytes)&&decide (0<i.size)&&i.zero.all AV.plain) (.ret (arrR d (lvlOf i.zero) i.zero (List.replicate n i.zero) n)))
def natOr(x:Option Operand)(n:Nat):RP Nat:=match x with
 |some z=>(opnd z).bind asNat
 |none=>.ret n
def arrA(v:AV):RP AV:=match v with
 | .ptr b i j=>match i,j with
  |0,0=>.mem b fun m=>(arrB m).bind fun blk=>.ret (.ref b 0 blk.rows.length)
  |_,_=>.fail
 |v=>.ret v
def cutA(s l h:Nat):AV→RP Res
 | .str b=>val (.str ((b.drop l).take (h-l)))
 | .ref b off _=>.mem b fun m=>(arrB m).bind fun blk=>.req (blk.z.length==s) (val (.ref b (off+l) (h-l)))
 | .ro z r=>.req (z.length==s) (val (.ro z (subA r l (h-l))))
 | .emp=>val .emp
 |_=>.fail
def widthA(T:TT)(t:TypeId):RP Nat:=(TI.ofT T t).bind fun i=>match i.ut with
 | .slice e=>(TI.ofT T e).bind fun j=>.ret j.size
 | .array _ e=>(TI.ofT T e).bind fun j=>.ret j.size
 | .str=>.ret 1
 |_=>.fail
def fitsA(T:TT)(t:TypeId)(v:AV):RP Unit:=(TI.ofT T t).bind fun i=>match i.ut,v with
 | .slice _,.ref _ _ _=>.ret ()
 | .slice _,.ro _ _=>.ret ()
 | .slice _,.emp=>.ret ()
 | .array n _,.ptr b _ _=>.mem b fun m=>(liveA m).bind fun blk=>guardP (blk.arr&&blk.rows.length==n)
 | .str,.str _=>.ret ()
 |_,_=>.fail
def evSlice(T:TT)(t:TypeId)(x:Operand)(lo hi:Option Operand):RP Res:=(opnd x).bind fun x=>(fitsA T t x).bind fun _=>(widthA T t).bind fun s=>(arrA x).bind fun v=>
 (natOr lo 0).bind fun l=>(lenA v).bind fun len=>(natOr hi len).bind fun h=>.req (decide (l≤h)&&decide (h≤len)) (cutA s l h v)
def evFieldAddr(T:TT)(t:TypeId)(x:Operand)(f:Nat):RP Res:=(TI.ofT T t).bind fun i=>match i.ut with
 | .struct fs=>match fieldA T fs f with
  |some p=>.req (decide (0<p.2)) ((opnd x).bind fun v=>match v with
   | .ptr b i j=>val (.ptr b i (j+p.1))
   | .rp row j=>val (.rp row (j+p.1))
   |_=>.fail)
  |none=>.fail
 |_=>.fail
def evIndexAddr(T:TT)(t:TypeId)(x i:Operand):RP Res:=(opnd i).bind fun i=>(asNat i).bind fun n=>(opnd x).bind fun x=>(fitsA T t x).bind fun _=>(elemI T t).bind fun e=>(arrA x).bind fun v=>match v with
 | .ref b off len=>.mem b fun m=>(arrB m).bind fun blk=>.req (blk.z.length==e.size&&decide (n<len)) (val (.ptr b (off+n) 0))
 | .ro z rows=>.req (z.length==e.size&&decide (n<rows.length)) (val (.rp (rowA rows n z) 0))
 |_=>.fail
def evIndex(T:TT)(t:TypeId)(x i:Operand):RP Res:=(opnd i).bind fun i=>(asNat i).bind fun n=>(opnd x).bind fun v=>(fitsA T t v).bind fun _=>match v with
 | .str s=>.req (decide (n<s.length)) (val (.int .u8 (s.getD n 0).toNat))
 |_=>.fail
def mxA:List AV→RP AV
 |[.int k x,.int k' y]=>if k=k' then .ret (.int k (if y>x then y else x))else .fail
 |_=>.fail
def mnA:List AV→RP AV
 |[.int k x,.int k' y]=>if k=k' then .ret (.int k (if y<x then y else x))else .fail
 |_=>.fail
def srcOk(T:TT)(t:TypeId):RP Unit:=(TI.ofT T t).bind fun i=>match i.ut with
 | .slice _=>.ret ()
 | .str=>.ret ()
 |_=>.fail
def evAppend(T:TT)(t u:TypeId)(s x:Operand)(d:Nat):RP Res:=newB d ((sliceI T t).bind fun i=>(srcOk T u).bind fun _=>(opnd x).bind fun x=>(rowsOf i.zero x).bind fun rs=>(opnd s).bind fun s=>
 .req (decide (0<i.size)&&decide (0<i.bytes)&&decide (i.bytes≤65536)&&i.zero.all AV.plain) (match s with
 | .emp=>.req (decide (rs.2.length*i.bytes≤maxBytes)) (.ret (arrR d rs.1 i.zero rs.2 rs.2.length))
 | .ref b off n=>.mem b fun m=>(arrB m).bind fun blk=>
   .req (blk.z.length==i.size&&decide (blk.lvl≤1)&&decide ((n+rs.2.length)*i.bytes≤maxBytes))
   (.ret (.ref d 0 (n+rs.2.length),[(b,.dead),(d,.live ⟨true,max blk.lvl rs.1,i.zero,subA blk.rows off n++rs.2⟩)]))
 |_=>.fail))
def evCopy(T:TT)(t u:TypeId)(s x:Operand):RP Res:=(sliceI T t).bind fun i=>(srcOk T u).bind fun _=>(opnd x).bind fun x=>(rowsOf i.zero x).bind fun rs=>(opnd s).bind fun s=>.req (decide (0<i.size))<|match s with
 | .emp=>val (.int .i64 0)
 | .ref b off n=>.mem b fun m=>(arrB m).bind fun blk=>.req (blk.z.length==i.size&&decide (blk.lvl≤1))
   (.ret (.int .i64 (min rs.2.length n:Nat),[(b,.live {blk with lvl:=max blk.lvl rs.1,rows:=blk.rows.take off++rs.2.take n++blk.rows.drop (off+min rs.2.length n)})]))
 |_=>.fail
def evClear(T:TT)(t:TypeId)(s:Operand):RP Res:=(sliceI T t).bind fun i=>(opnd s).bind fun s=>.req (decide (0<i.size)&&i.zero.all AV.plain)<|match s with
 | .emp=>val (.tup [])
 | .ref b off n=>.mem b fun m=>(arrB m).bind fun blk=>.req (blk.z.length==i.size&&decide (blk.lvl≤1))
   (.ret (.tup [],[(b,.live {blk with lvl:=max blk.lvl (lvlOf i.zero),rows:=blk.rows.take off++(List.replicate n i.zero).take n++blk.rows.drop (off+min (List.replicate n i.zero).length n)})]))
 |_=>.fail
def argT(c:Call)(i:Nat)(k:TypeId→RP Res):RP Res:=match c.argTypes[i]? with
 |some t=>k t
 |none=>.fail
def evLen(T:TT)(t:TypeId)(x:Operand):RP Res:=(opnd x).bind fun v=>(fitsA T t v).bind fun _=>(lenA v).bind fun n=>val (.int .i64 n)
def evBuiltin(T:TT)(b:Builtin)(c:Call)(o:Oper):RP Res:=
 match b with
 | .len=>match c.args.toList with
  |[x]=>argT c 0 fun t=>evLen T t x
  |_=>.fail
 | .max=>(opnds c.args.toList).bind fun vs=>(mxA vs).bind val
 | .min=>(opnds c.args.toList).bind fun vs=>(mnA vs).bind val
 | .append=>match c.args.toList with
  |[s,x]=>argT c 0 fun t=>argT c 1 fun u=>dstOf o (evAppend T t u s x)
  |_=>.fail
 | .copy=>match c.args.toList with
  |[s,x]=>argT c 0 fun t=>argT c 1 fun u=>evCopy T t u s x
  |_=>.fail
 | .clear=>match c.args.toList with
  |[s]=>argT c 0 fun t=>evClear T t s
  |_=>.fail
 |_=>.fail
def evPick(c a b:Operand):RP Res:=(opnd c).bind fun c=>match c with
 | .bool t=>(opnd a).bind fun x=>(opnd b).bind fun y=>val (if t=true then x else y)
 |_=>.fail
def evOp(T:TT)(o:Oper):RP Res:=
 match o.op with
 | .move x=>(opnd x).bind val
 | .assign x=>(opnd x).bind val
 | .pick c a b=>evPick c a b
 | .alloc t=>dstOf o (evAlloc T t)
 | .box _ x=>dstOf o (evBox x)
 | .build t ps=>evBuild T t ps.toList
 | .buildSlice t n ps=>dstOf o (evBuildSlice T t n ps.toList)
 | .load t x=>evLoad T t x
 | .store t x y=>evStore T t x y
 | .nilCheck x=>evNilCheck x
 | .binOp op t x y _=>match isNilI y with
  |true=>(opnd x).bind fun a=>(nilI (T.get t) op a).bind val
  |false=>(opnd x).bind fun a=>(opnd y).bind fun b=>(binA T (T.get t) op a b).bind val
 | .unOp op _ x=>(opnd x).bind fun a=>(unA op a).bind val
 | .convert s t x=>dstOf o (evConvert T s t x)
 | .extract x i=>evExtract x i
 | .field t x f=>evField T t x f
 | .makeFunc fn first caps=>evMakeFunc fn first.toList caps.toList
 | .makeSlice t l c=>dstOf o (evMakeSlice T t l c)
 | .slice t x lo hi mx=>match mx with
  |none=>evSlice T t x lo hi
  |some _=>.fail
 | .fieldAddr t x f=>evFieldAddr T t x f
 | .indexAddr t x i=>evIndexAddr T t x i
 | .index t x i=>evIndex T t x i
 | .call c=>match c.callee with
  | .builtin b=>evBuiltin T b c o
  |_=>.fail
 |_=>.fail
end Go.Abs
