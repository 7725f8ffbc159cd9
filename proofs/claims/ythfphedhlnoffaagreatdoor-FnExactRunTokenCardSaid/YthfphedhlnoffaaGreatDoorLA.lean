import Derived.Calls
/- The abstract layer, 1: values, states, the meaning of operations; what a path of code asks. Definitions alone. -/
set_option linter.unusedVariables false
set_option linter.unusedSimpArgs false
noncomputable section
namespace Go.Abs
open Go
inductive AV where
 |undef
 |int (k:IntKind) (n:Int)
 |bool (b:Bool)
 |str (s:List UInt8)
 |nilp
 |ptr (b i j:Nat)
 |rp (row:List AV) (j:Nat)
 |fn (f:FuncId) (caps:List AV)
 |nilfn
 |emp
 |ref (b off len:Nat)
 |ro (z:List AV) (rows:List (List AV))
 |own (lvl:Nat) (z:List AV) (rows:List (List AV))
 |obj (cells:List AV)
 |agg (cs:List AV)
 |tup (vs:List AV)
 deriving Inhabited
structure Blk where
 arr:Bool
 lvl:Nat
 z:List AV
 rows:List (List AV)
 deriving Inhabited
inductive MB where
 |abs|dead|live (b:Blk)
 deriving Inhabited
structure St where
 n:Nat
 t:Nat→AV
 m:Nat→MB
 an:List Nat
def bi{α:Type}(f:Nat→α)(k:Nat)(v:α):Nat→α:=fun x=>if x=k then v else f x
def St.mws(s:St):List (Nat × MB)→St
 |[]=>s
 |x::l=>St.mws {s with m:=bi s.m x.1 x.2} l
def St.put(s:St)(d:Option Nat)(v:AV):St:=match d with
 |some d=>{s with t:=bi s.t d v}
 |none=>s
def St.dstOk(s:St)(d:Option Nat):Bool:=match d with
 |some d=>decide (d<s.n)
 |none=>true
inductive RP(α:Type) where
 |ret (a:α)
 |tmp (k:Nat) (c:AV→RP α)
 |mem (b:Nat) (c:MB→RP α)
 |req (b:Bool) (c:RP α)
 |fail
noncomputable def RP.bind{α β:Type}(p:RP α)(f:α→RP β):RP β:=
 RP.rec (motive:=fun _=>RP β) (fun a=>f a) (fun k _ ih=>.tmp k fun v=>ih v) (fun b _ ih=>.mem b fun v=>ih v) (fun b _ ih=>.req b ih) .fail p
instance:Monad RP where
 pure:=RP.ret
 bind:=RP.bind
def RP.run{α:Type}:RP α→St→Option α
 | .ret a,_=>some a
 | .tmp k c,s=>(c (s.t k)).run s
 | .mem b c,s=>(c (s.m b)).run s
 | .req b c,s=>if b=true then c.run s else none
 | .fail,_=>none
def Rq(b:Bool)(X:Prop):Prop:=b=true∧X
def Br(b:Bool)(X Y:Prop):Prop:=(b=true→X)∧(b=false→Y)
def RP.runK{α:Type}:RP α→St→(α→Prop)→Prop
 | .ret a,_,K=>K a
 | .tmp k c,s,K=>(c (s.t k)).runK s K
 | .mem b c,s,K=>(c (s.m b)).runK s K
 | .req b c,s,K=>Rq b (c.runK s K)
 | .fail,_,_=>False
inductive UT where
 |int (k:IntKind)|bool|str|slice (e:TypeId)|struct (fs:List (Nat × TypeId))|array (n:Nat) (e:TypeId)|ptr (e:TypeId)|func|other
 deriving Inhabited
structure TI where
 ut:UT
 size:Nat
 bytes:Nat
 zero:List AV
 eqs:Bool
 deriving Inhabited
def dE:IntKind→Int→Bool
 | .i8,n=>decide (-128≤n)&&decide (n≤127)
 | .i16,n=>decide (-32768≤n)&&decide (n≤32767)
 | .i32,n=>decide (-2147483648≤n)&&decide (n≤2147483647)
 | .i64,n=>decide (-9223372036854775808≤n)&&decide (n≤9223372036854775807)
 | .u8,n=>decide (0≤n)&&decide (n≤255)
 | .u16,n=>decide (0≤n)&&decide (n≤65535)
 | .u32,n=>decide (0≤n)&&decide (n≤4294967295)
 | .u64,n=>decide (0≤n)&&decide (n≤18446744073709551615)
def cj:Nat:=9223372036854775807
def ofVal:Value→AV
 | .int k n=>if dE k n=true then .int k n else .undef
 | .bool b=>.bool b
 | .string s=>if s.data.toList.length≤cj then .str s.data.toList else .undef
 | .pointer none=>.nilp
 | .slice none 0 0=>.emp
 | .nilFunc=>.nilfn
 |_=>.undef
def fx:TypeDesc→UT
 | .int k=>.int k
 | .bool=>.bool
 | .string=>.str
 | .slice e=>.slice e
 | .struct fs=>.struct (fs.toList.map fun f=>(f.offset,f.type))
 | .array n e=>.array n e
 | .pointer e=>.ptr e
 | .func _ _ _=>.func
 |_=>.other
def BK(P:Program)(t:TypeId):TypeDesc→Bool
 | .struct fs=>fs.toList.all (fun f=>f.name != "_")&&(fs.toList.map (·.offset)==List.range fs.size)&& !P.stoodInHeld t&& !P.eqGuardType P.depth t
 |_=>false
def yT(P:Program)(t:TypeId):Option TI:=
 match P.info? t,P.underlying t with
 |some i,some d=>match i.zero with
  |some z=>if z.cells.size=i.size then some ⟨fx d,i.size,i.bytes,z.cells.toList.map ofVal,BK P t d⟩else none
  |none=>none
 |_,_=>none
abbrev TT:=List (Nat × TI)
def TT.get:TT→Nat→Option TI
 |[],_=>none
 |(k,i)::l,t=>match Nat.beq k t with
  |true=>some i
  |false=>TT.get l t
def TT.ok(T:TT)(P:Program):Prop:= ∀t i,T.get t=some i→yT P t=some i
def AV.leaves:AV→List AV
 | .agg cs=>cs
 |v=>[v]
def AV.isUndef:AV→Bool
 | .undef=>true
 |_=>false
def AV.plain:AV→Bool
 | .int _ _=>true
 | .bool _=>true
 | .str _=>true
 | .ro _ _=>true
 | .emp=>true
 | .nilp=>true
 | .nilfn=>true
 |_=>false
def AV.flat:AV→Bool
 | .int _ _=>true
 | .bool _=>true
 | .str _=>true
 | .nilp=>true
 | .nilfn=>true
 |_=>false
def AV.isPtr:AV→Bool
 | .ptr _ _ _=>true
 | .rp _ _=>true
 |_=>false
def AV.light:AV→Bool
 | .int _ _=>true
 | .bool _=>true
 | .str _=>true
 | .ro _ _=>true
 | .emp=>true
 | .nilp=>true
 | .nilfn=>true
 | .ref _ _ _=>true
 | .ptr _ _ _=>true
 | .rp _ _=>true
 | .fn _ caps=>caps.all AV.isPtr
 |_=>false
def EF(d i:Nat):Nat:=1000*(d+1)+i
def RP.ofOpt{α:Type}:Option α→RP α
 |some a=>.ret a
 |none=>.fail
def mE(b:Bool):RP Unit:=.req b (.ret ())
def cK:Operand→RP AV
 | .tmp k=>.tmp k .ret
 | .const v=>.ret (ofVal v)
 | .func f=>.ret (.fn f [])
 | .global _=>.fail
def gk:List Operand→RP (List AV)
 |[]=>.ret []
 |x::l=>(cK x).bind fun v=>(gk l).bind fun vs=>.ret (v::vs)
abbrev di:=AV × List (Nat × MB)
def il(v:AV):RP di:=.ret (v,[])
def TI.ofT(T:TT)(t:TypeId):RP TI:=match T.get t with
 |some i=>.ret i
 |none=>.fail
def Eq(T:TT)(t:TypeId):RP TypeId:=match T.get t with
 |some i=>match i.ut with
  | .slice e=>.ret e
  | .array _ e=>.ret e
  |_=>.fail
 |none=>.fail
def Er(T:TT)(t:TypeId):RP TI:=(Eq T t).bind fun e=>TI.ofT T e
def oh(T:TT)(t:TypeId):RP TI:=match T.get t with
 |some i=>match i.ut with
  | .slice e=>TI.ofT T e
  |_=>.fail
 |none=>.fail
def dq(s:List UInt8):List (List AV):=s.map fun c=>[.int .u8 c.toNat]
def dn(rows:List (List AV))(n:Nat)(z:List AV):List AV:=rows.getD n z
def am(rows:List (List AV))(off n:Nat):List (List AV):=(rows.drop off).take n
def gh(cs:List AV):Nat:=if cs.all AV.flat then 0 else 1
def gX:MB→RP Blk
 | .live b=>.ret b
 |_=>.fail
def kC(m:MB):RP Blk:=(gX m).bind fun b=>(mE b.arr).bind fun _=>.ret b
def oB(z:List AV):AV→RP (Nat × List (List AV))
 | .emp=>.ret (0,[])
 | .ro z' rows=>.req (z'.length==z.length) (.ret (1,rows))
 | .ref b off len=>.mem b fun m=>(kC m).bind fun blk=>.req (blk.z.length==z.length&&decide (blk.lvl≤1)) (.ret (blk.lvl,am blk.rows off len))
 | .str s=>.req (z.length==1) (.ret (0,dq s))
 |_=>.fail
def B9:AV→RP Nat
 | .str s=>.ret s.length
 | .ref _ _ n=>.ret n
 | .ro _ r=>.ret r.length
 | .emp=>.ret 0
 |_=>.fail
def setCells(row:List AV)(j:Nat)(vs:List AV):List AV:=row.take j++vs++row.drop (j+vs.length)
def bl(rows:List (List AV))(i j:Nat)(z vs:List AV):List (List AV):=rows.set i (setCells (dn rows i z) j vs)
def qZ(v:AV):RP Nat:=match v with
 | .int _ n=>.req (decide (0≤n)) (.ret n.toNat)
 |_=>.fail
def gb(T:TT):List TypeId→List AV→List AV→Option Bool
 |[],[],[]=>some true
 |t::ts,x::l,y::r=>match T.get t with
  |some i=>match i.ut,x,y with
   | .int _,.int k a,.int k' b=>if k=k' then(gb T ts l r).map fun e=>a==b&&e else none
   | .bool,.bool a,.bool b=>(gb T ts l r).map fun e=>a==b&&e
   | .str,.str a,.str b=>(gb T ts l r).map fun e=>a==b&&e
   |_,_,_=>none
  |none=>none
 |_,_,_=>none
def vf(op:BinOp)(k:IntKind)(x y:Int):RP AV:=
 match op with
 | .add=>.ret (.int k (k.wrap (x+y)))
 | .sub=>.ret (.int k (k.wrap (x-y)))
 | .mul=>.ret (.int k (k.wrap (x*y)))
 | .quo=>.req (y != 0) (.ret (.int k (k.wrap (x.tdiv y))))
 | .rem=>.req (y != 0) (.ret (.int k (x.tmod y)))
 | .and=>.ret (.int k (k.wrap (BitVec.ofInt k.bits x&&&BitVec.ofInt k.bits y).toNat))
 | .or=>.ret (.int k (k.wrap (BitVec.ofInt k.bits x|||BitVec.ofInt k.bits y).toNat))
 | .xor=>.ret (.int k (k.wrap (BitVec.ofInt k.bits x^^^BitVec.ofInt k.bits y).toNat))
 | .eql=>.ret (.bool (x==y))
 | .neq=>.ret (.bool (x != y))
 | .lss=>.ret (.bool (decide (x<y)))
 | .leq=>.ret (.bool (decide (x≤y)))
 | .gtr=>.ret (.bool (decide (x>y)))
 | .geq=>.ret (.bool (decide (x≥y)))
 |_=>.fail
def sP(op:BinOp)(k k':IntKind)(a b:Int):RP AV:=
 match op with
 | .shl=>.req (decide (0≤b)) (.ret (.int k (k.wrap (a*2 ^ (min b.toNat k.bits)))))
 | .shr=>.req (decide (0≤b)) (.ret (.int k (a.fdiv (2 ^ (min b.toNat k.bits)))))
 |op=>if k=k' then vf op k a b else .fail
def gt:Nat:=1099511627776
def tE(op:BinOp)(a b:List UInt8):RP AV:=
 match op with
 | .add=>.req (decide (a.length+b.length<gt)) (.ret (.str (a++b)))
 | .eql=>.ret (.bool (a==b))
 | .neq=>.ret (.bool (!(a==b)))
 | .lss=>.ret (.bool (Op.bytesLess a b))
 |_=>.fail
def yr(op:BinOp)(a b:Bool):RP AV:=
 match op with
 | .eql=>.ret (.bool (a==b))
 | .neq=>.ret (.bool (!(a==b)))
 |_=>.fail
def Ak(T:TT)(op:BinOp)(i:Option TI)(a b:List AV):RP AV:=
 match i with
 |some i=>.req i.eqs (match i.ut with
  | .struct fs=>match gb T (fs.map (·.2)) a b with
   |some e=>match op with
    | .eql=>.ret (.bool e)
    | .neq=>.ret (.bool (!e))
    |_=>.fail
   |none=>.fail
  |_=>.fail)
 |none=>.fail
def C0(T:TT)(i:Option TI)(op:BinOp)(x y:AV):RP AV:=
 match x with
 | .int k a=>match y with
  | .int k' b=>sP op k k' a b
  |_=>.fail
 | .str a=>match y with
  | .str b=>tE op a b
  |_=>.fail
 | .bool a=>match y with
  | .bool b=>match i with
   |some i=>match i.ut with
    | .bool=>yr op a b
    |_=>.fail
   |none=>.fail
  |_=>.fail
 | .agg a=>match y with
  | .agg b=>Ak T op i a b
  |_=>.fail
 |_=>.fail
def Lg(op:UnOp)(x:AV):RP AV:=
 match x with
 | .int k n=>match op with
  | .neg=>.ret (.int k (k.wrap (0-n)))
  |_=>.fail
 | .bool b=>match op with
  | .not=>.ret (.bool (!b))
  |_=>.fail
 |_=>.fail
def jT(o:Oper)(k:Nat→RP di):RP di:=match o.dst with
 |some d=>k d
 |none=>.fail
def vy(d:Nat)(k:RP di):RP di:=.mem d fun m=>match m with
 | .abs=>k
 |_=>.fail
def Ja(d:Nat)(cs:List AV):di:=(.ptr d 0 0,[(d,.live ⟨false,0,cs,[cs]⟩)])
def C2(d lvl:Nat)(z:List AV)(rows:List (List AV))(n:Nat):di:=(.ref d 0 n,[(d,.live ⟨true,lvl,z,rows⟩)])
def xD(T:TT)(t:TypeId)(d:Nat):RP di:=vy d ((TI.ofT T t).bind fun i=>match i.ut with
 | .array n e=>(TI.ofT T e).bind fun j=>.req (i.size==n*j.size&&decide (0<j.size)&&decide (0<n)&&decide (n≤cj)&&i.zero.all AV.flat)
   (.ret (.ptr d 0 0,[(d,.live ⟨true,0,j.zero,(List.range n).map fun k=>(i.zero.drop (k*j.size)).take j.size⟩)]))
 |_=>.ret (Ja d i.zero))
def ED(x:Operand)(d:Nat):RP di:=vy d ((cK x).bind fun v=>.req (v.leaves.all AV.light) (.ret (Ja d v.leaves)))
def ve(offs:Nat→Option (Nat × Nat)):List AV→List (Nat × AV)→Option (List AV)
 |cs,[]=>some cs
 |cs,(i,v)::l=>match offs i with
  |some o=>if v.leaves.length=o.2∧o.1+o.2≤cs.length then ve offs (setCells cs o.1 v.leaves) l else none
  |none=>none
def iY(T:TT)(fs:List (Nat × TypeId))(i:Nat):Option (Nat × Nat):=match fs[i]? with
 |some p=>match T.get p.2 with
  |some j=>some (p.1,j.size)
  |none=>none
 |none=>none
def xM(T:TT)(t:TypeId)(ps:List (Nat × Operand)):RP di:=(TI.ofT T t).bind fun i=>match i.ut with
 | .struct fs=>(gk (ps.map (·.2))).bind fun vs=>.req ((vs.all fun v=>v.leaves.all AV.light)&&fs.all fun p=>(T.get p.2).isSome)<|(RP.ofOpt (ve (iY T fs) i.zero ((ps.map (·.1)).zip vs))).bind fun cs=>il (.agg cs)
 | .array _ e=>match ps with
  |[]=>(TI.ofT T e).bind fun _=>il (.agg i.zero)
  |_=>.fail
 |_=>.fail
def gf:List (List AV)→List (Nat × AV)→List (List AV)
 |rows,[]=>rows
 |rows,(i,v)::l=>gf (rows.set i v.leaves) l
def nM(T:TT)(t:TypeId)(n:Nat)(ps:List (Nat × Operand))(d:Nat):RP di:=vy d ((oh T t).bind fun i=>
 (gk (ps.map (·.2))).bind fun vs=>.req (vs.all (fun v=>v.leaves.all AV.plain&&v.leaves.length==i.size)&&i.zero.all AV.plain&&decide (0<i.size)&&decide (n*i.size≤10000)&&ps.all (fun p=>decide (p.1<n)))
  (if n=0 then il .emp else .ret (C2 d (if(vs.all fun v=>v.leaves.all AV.flat)&&i.zero.all AV.flat then 0 else 1) i.zero (gf (List.replicate n i.zero) ((ps.map (·.1)).zip vs)) n)))
def yC(n:Nat):AV→RP (List AV)
 | .ptr b r j=>.mem b fun m=>(gX m).bind fun blk=>.ret (((dn blk.rows r blk.z).drop j).take n)
 | .rp row j=>.ret ((row.drop j).take n)
 |_=>.fail
def fI:UT→Bool
 | .struct _=>true
 | .array _ _=>true
 |_=>false
def kR(T:TT)(t:TypeId)(x:Operand):RP di:=(TI.ofT T t).bind fun i=>(cK x).bind fun v=>(yC i.size v).bind fun cs=>
 .req (cs.all AV.light&&cs.length==i.size) (if fI i.ut then il (.agg cs)else match cs with
  |[c]=>il c
  |_=>.fail)
def fL(rows:List (List AV))(r:Nat)(vs:List AV):List (List AV):=rows.take r++vs.map (fun x=>[x])++rows.drop (r+vs.length)
def iL(n:Nat)(blk:Blk):Bool:=blk.arr&&Nat.blt blk.z.length n
def lK(T:TT)(t:TypeId)(x y:Operand):RP di:=(TI.ofT T t).bind fun i=>(cK y).bind fun v=>(cK x).bind fun a=>match a with
 | .ptr b r j=>.mem b fun m=>(gX m).bind fun blk=>
   if iL i.size blk=true then .req (blk.z.length==1&&j==0&&v.leaves.length==i.size&&decide (r+i.size≤blk.rows.length)&&v.leaves.all AV.plain&&decide (blk.lvl≤1))
    (.ret (.undef,[(b,.live {blk with lvl:=max blk.lvl (gh v.leaves),rows:=fL blk.rows r v.leaves})]))
   else .req (v.leaves.length==i.size&&decide (j+i.size≤blk.z.length))
   (if blk.arr then .req (v.leaves.all AV.plain&&decide (blk.lvl≤1)) (.ret (.undef,[(b,.live {blk with lvl:=max blk.lvl (gh v.leaves),rows:=bl blk.rows r j blk.z v.leaves})]))
    else .req (v.leaves.all AV.light&&(((dn blk.rows r blk.z).drop j).take i.size).all (fun c=> !c.isUndef)) (.ret (.undef,[(b,.live {blk with rows:=bl blk.rows r j blk.z v.leaves})])))
 |_=>.fail
def qA(x:Operand):RP di:=(cK x).bind fun v=>match v with
 | .ptr b i j=>il (.ptr b i j)
 | .rp r j=>il (.rp r j)
 |_=>.fail
def cI:List (List AV)→Option (List UInt8)
 |[]=>some []
 |r::l=>match r with
  |[.int .u8 n]=>(cI l).map fun s=>UInt8.ofNat n.toNat::s
  |_=>none
def py(T:TT)(same:Bool)(s u:TI)(v:AV)(d:Nat):RP di:=
 match u.ut with
 | .int k=>match v with
  | .int _ n=>il (.int k (k.wrap n))
  |_=>.fail
 | .str=>match v with
  | .str b=>il (.str b)
  |v=>match s.ut with
   | .slice e=>(TI.ofT T e).bind fun j=>match j.ut with
    | .int .u8=>(oB [.undef] v).bind fun r=>(RP.ofOpt (cI r.2)).bind fun b=>il (.str b)
    |_=>.fail
   |_=>.fail
 | .slice e=>match v with
  | .str b=>match s.ut with
   | .str=>(TI.ofT T e).bind fun j=>match j.ut with
    | .int .u8=>vy d (.ret (C2 d 0 [.int .u8 0] (dq b) b.length))
    |_=>.fail
   |_=>.fail
  | .ref b off len=>match same with
   |true=>(TI.ofT T e).bind fun j=>match j.ut with
    | .int .u8=>.req (decide (0<len)) (.mem b fun m=>(kC m).bind fun blk=>il (.ref b off len))
    |_=>.fail
   |false=>.fail
  |_=>.fail
 |_=>.fail
def fB(T:TT)(s t:TypeId)(x:Operand)(d:Nat):RP di:=(TI.ofT T s).bind fun i=>(TI.ofT T t).bind fun j=>(cK x).bind fun v=>py T (Nat.beq s t) i j v d
def sG(x:Operand)(i:Nat):RP di:=(cK x).bind fun v=>match v with
 | .tup vs=>(RP.ofOpt vs[i]?).bind il
 |_=>.fail
def xW(T:TT)(t:TypeId)(x:Operand)(f:Nat):RP di:=(TI.ofT T t).bind fun i=>match i.ut with
 | .struct fs=>match fs[f]? with
  |some p=>(TI.ofT T p.2).bind fun j=>(cK x).bind fun v=>match v with
   | .agg cs=>if fI j.ut then .req (decide (p.1+j.size≤cs.length)) (il (.agg ((cs.drop p.1).take j.size)))else(RP.ofOpt cs[p.1]?).bind il
   |_=>.fail
  |none=>.fail
 |_=>.fail
def mH(fn:Fn)(first caps:List Operand):RP di:=match fn,first with
 | .func f,[]=>(gk caps).bind fun vs=>il (.fn f vs)
 |_,_=>.fail
def ao:Nat:=1099511627776
def pv(T:TT)(t:TypeId)(l c:Operand)(d:Nat):RP di:=vy d ((oh T t).bind fun i=>(cK l).bind fun l=>(cK c).bind fun c=>(qZ l).bind fun n=>(qZ c).bind fun m=>
 .req (decide (n≤m)&&decide (m*i.bytes≤ao)&&decide (m≤ao)&&decide (0<i.size)&&i.zero.all AV.plain) (.ret (C2 d (gh i.zero) i.zero (List.replicate n i.zero) n)))
def uM(x:Option Operand)(n:Nat):RP Nat:=match x with
 |some z=>(cK z).bind qZ
 |none=>.ret n
def GR(v:AV):RP AV:=match v with
 | .ptr b i j=>match i,j with
  |0,0=>.mem b fun m=>(kC m).bind fun blk=>.ret (.ref b 0 blk.rows.length)
  |_,_=>.fail
 |v=>.ret v
def KT(s l h:Nat):AV→RP di
 | .str b=>il (.str ((b.drop l).take (h-l)))
 | .ref b off _=>.mem b fun m=>(kC m).bind fun blk=>.req (blk.z.length==s) (il (.ref b (off+l) (h-l)))
 | .ro z r=>.req (z.length==s) (il (.ro z (am r l (h-l))))
 | .emp=>il .emp
 |_=>.fail
def zY(T:TT)(t:TypeId):RP Nat:=(TI.ofT T t).bind fun i=>match i.ut with
 | .slice e=>(TI.ofT T e).bind fun j=>.ret j.size
 | .array _ e=>(TI.ofT T e).bind fun j=>.ret j.size
 | .str=>.ret 1
 |_=>.fail
def uC(T:TT)(t:TypeId)(v:AV):RP Unit:=(TI.ofT T t).bind fun i=>match i.ut,v with
 | .slice _,.ref _ _ _=>.ret ()
 | .slice _,.ro _ _=>.ret ()
 | .slice _,.emp=>.ret ()
 | .array n _,.ptr b _ _=>.mem b fun m=>(gX m).bind fun blk=>mE (blk.arr&&blk.rows.length==n)
 | .str,.str _=>.ret ()
 |_,_=>.fail
def yQ(T:TT)(t:TypeId)(x:Operand)(lo hi:Option Operand):RP di:=(cK x).bind fun x=>(uC T t x).bind fun _=>(zY T t).bind fun s=>(GR x).bind fun v=>
 (uM lo 0).bind fun l=>(B9 v).bind fun len=>(uM hi len).bind fun h=>.req (decide (l≤h)&&decide (h≤len)) (KT s l h v)
def pp(T:TT)(t:TypeId)(x:Operand)(f:Nat):RP di:=(TI.ofT T t).bind fun i=>match i.ut with
 | .struct fs=>match iY T fs f with
  |some p=>.req (decide (0<p.2)) ((cK x).bind fun v=>match v with
   | .ptr b i j=>il (.ptr b i (j+p.1))
   | .rp row j=>il (.rp row (j+p.1))
   |_=>.fail)
  |none=>.fail
 |_=>.fail
def oY(T:TT)(t:TypeId)(x i:Operand):RP di:=(cK i).bind fun i=>(qZ i).bind fun n=>(cK x).bind fun x=>(uC T t x).bind fun _=>(Er T t).bind fun e=>(GR x).bind fun v=>match v with
 | .ref b off len=>.mem b fun m=>(kC m).bind fun blk=>.req (blk.z.length==e.size&&decide (n<len)) (il (.ptr b (off+n) 0))
 | .ro z rows=>.req (z.length==e.size&&decide (n<rows.length)) (il (.rp (dn rows n z) 0))
 |_=>.fail
def xC(T:TT)(t:TypeId)(x i:Operand):RP di:=(cK i).bind fun i=>(qZ i).bind fun n=>(cK x).bind fun v=>(uC T t v).bind fun _=>match v with
 | .str s=>.req (decide (n<s.length)) (il (.int .u8 (s.getD n 0).toNat))
 |_=>.fail
def Kw:List AV→RP AV
 |[.int k x,.int k' y]=>if k=k' then .ret (.int k (if y>x then y else x))else .fail
 |_=>.fail
def KO:List AV→RP AV
 |[.int k x,.int k' y]=>if k=k' then .ret (.int k (if y<x then y else x))else .fail
 |_=>.fail
def Ar(T:TT)(t:TypeId):RP Unit:=(TI.ofT T t).bind fun i=>match i.ut with
 | .slice _=>.ret ()
 | .str=>.ret ()
 |_=>.fail
def Bf(T:TT)(t u:TypeId)(s x:Operand)(d:Nat):RP di:=vy d ((oh T t).bind fun i=>(Ar T u).bind fun _=>(cK x).bind fun x=>(oB i.zero x).bind fun rs=>(cK s).bind fun s=>
 .req (decide (0<i.size)&&decide (0<i.bytes)&&decide (i.bytes≤65536)&&i.zero.all AV.plain) (match s with
 | .emp=>.req (decide (rs.2.length*i.bytes≤ao)) (.ret (C2 d rs.1 i.zero rs.2 rs.2.length))
 | .ref b off n=>.mem b fun m=>(kC m).bind fun blk=>
   .req (blk.z.length==i.size&&decide (blk.lvl≤1)&&decide ((n+rs.2.length)*i.bytes≤ao))
   (.ret (.ref d 0 (n+rs.2.length),[(b,.dead),(d,.live ⟨true,max blk.lvl rs.1,i.zero,am blk.rows off n++rs.2⟩)]))
 |_=>.fail))
def GH(T:TT)(t u:TypeId)(s x:Operand):RP di:=(oh T t).bind fun i=>(Ar T u).bind fun _=>(cK x).bind fun x=>(oB i.zero x).bind fun rs=>(cK s).bind fun s=>.req (decide (0<i.size))<|match s with
 | .emp=>il (.int .i64 0)
 | .ref b off n=>.mem b fun m=>(kC m).bind fun blk=>.req (blk.z.length==i.size&&decide (blk.lvl≤1))
   (.ret (.int .i64 (min rs.2.length n:Nat),[(b,.live {blk with lvl:=max blk.lvl rs.1,rows:=blk.rows.take off++rs.2.take n++blk.rows.drop (off+min rs.2.length n)})]))
 |_=>.fail
def vZ(c:Call)(i:Nat)(k:TypeId→RP di):RP di:=match c.argTypes[i]? with
 |some t=>k t
 |none=>.fail
def IH(T:TT)(t:TypeId)(x:Operand):RP di:=(cK x).bind fun v=>(uC T t v).bind fun _=>(B9 v).bind fun n=>il (.int .i64 n)
def fG(T:TT)(b:Builtin)(c:Call)(o:Oper):RP di:=
 match b with
 | .len=>match c.args.toList with
  |[x]=>vZ c 0 fun t=>IH T t x
  |_=>.fail
 | .max=>(gk c.args.toList).bind fun vs=>(Kw vs).bind il
 | .min=>(gk c.args.toList).bind fun vs=>(KO vs).bind il
 | .append=>match c.args.toList with
  |[s,x]=>vZ c 0 fun t=>vZ c 1 fun u=>jT o (Bf T t u s x)
  |_=>.fail
 | .copy=>match c.args.toList with
  |[s,x]=>vZ c 0 fun t=>vZ c 1 fun u=>GH T t u s x
  |_=>.fail
 |_=>.fail
def om(c a b:Operand):RP di:=(cK c).bind fun c=>match c with
 | .bool t=>(cK a).bind fun x=>(cK b).bind fun y=>il (if t=true then x else y)
 |_=>.fail
def io(T:TT)(o:Oper):RP di:=
 match o.op with
 | .move x=>(cK x).bind il
 | .assign x=>(cK x).bind il
 | .pick c a b=>om c a b
 | .alloc t=>jT o (xD T t)
 | .box _ x=>jT o (ED x)
 | .build t ps=>xM T t ps.toList
 | .buildSlice t n ps=>jT o (nM T t n ps.toList)
 | .load t x=>kR T t x
 | .store t x y=>lK T t x y
 | .nilCheck x=>qA x
 | .binOp op t x y _=>(cK x).bind fun a=>(cK y).bind fun b=>(C0 T (T.get t) op a b).bind il
 | .unOp op _ x=>(cK x).bind fun a=>(Lg op a).bind il
 | .convert s t x=>jT o (fB T s t x)
 | .extract x i=>sG x i
 | .field t x f=>xW T t x f
 | .makeFunc fn first caps=>mH fn first.toList caps.toList
 | .makeSlice t l c=>jT o (pv T t l c)
 | .slice t x lo hi mx=>match mx with
  |none=>yQ T t x lo hi
  |some _=>.fail
 | .fieldAddr t x f=>pp T t x f
 | .indexAddr t x i=>oY T t x i
 | .index t x i=>xC T t x i
 | .call c=>match c.callee with
  | .builtin b=>fG T b c o
  |_=>.fail
 |_=>.fail
end Go.Abs

/- The abstract layer, 2: what an abstract value says of a value in a world; what survives a change of the world. -/
noncomputable section
namespace Go.Abs
open Go
abbrev Cells:=Nat→Nat→Prop
def Emp(O:Cells):Prop:= ∀g o,¬O g o
def Disj(O O':Cells):Prop:= ∀g o,O g o→O' g o→False
def ae:Cells:=fun _ _=>False
theorem ah:Emp ae:=fun _ _ h=>h
theorem Disj.symm{O O':Cells}(h:Disj O O'):Disj O' O:=fun g o a b=>h g o b a
theorem Emp.disj{O O':Cells}(h:Emp O):Disj O O':=fun g o a _=>h g o a
theorem Emp.disj' {O O':Cells}(h:Emp O'):Disj O O':=fun g o _ a=>h g o a
def BF(w:World)(g n:Nat):Prop:= ∃c e fz,w.heap[g]? =some (.cells c e fz)∧n≤c.size∧(∀i,i<c.size→ ¬(fz.1≤i∧i<fz.2))∧fz.1≤fz.2
theorem BF.lt{w:World}{g n:Nat}(h:BF w g n):g<w.heap.size:=by
 obtain⟨c,e,fz,h,_⟩:=h
 exact(Array.getElem?_eq_some_iff.1 h).1
theorem BF.mono{w:World}{g n n':Nat}(h:BF w g n)(hn:n'≤n):BF w g n':=by
 obtain⟨c,e,fz,h,h1,h2⟩:=h
 exact⟨c,e,fz,h,Nat.le_trans hn h1,h2⟩
structure Loc where
 g:Nat
 base:Nat
 s:Nat
 n:Nat
 bound:Bool
abbrev bG:=Nat→Option Loc
def aC:bG:=fun _=>none
def SR:AV→Value→Prop
 | .undef,_=>True
 | .int k n,v=>v=.int k n∧dE k n=true
 | .bool b,v=>v=.bool b
 | .str s,v=>v=.string ⟨s.toArray⟩∧s.length≤cj
 | .nilp,v=>v=.pointer none
 | .nilfn,v=>v=.nilFunc
 | .emp,v=> ∃a,v=.slice a 0 0
 |_,_=>False
structure Uni(n:Nat)(os:Nat→Cells)(O:Cells):Prop where
 iff: ∀g o,O g o↔ ∃j,j<n∧os j g o
 dis: ∀j k,j<n→k<n→j≠k→Disj (os j) (os k)
structure Wide(z:List AV)(rows:List (List AV)):Prop where
 len: ∀row∈rows,row.length=z.length
 known: ∀row∈rows,∀x∈row,x.isUndef=false
inductive AR(w:World)(R:Cells):bG→AV→Value→Cells→Prop where
 |sc {loc x v O} (h:SR x v) (e:Emp O):AR w R loc x v O
 |ro0 {loc z a cap O} (e:Emp O):AR w R loc (.ro z []) (.slice a 0 cap) O
 |ro {loc z rows g o cap O} (vs:Nat→Nat→Value) (e:Emp O) (hl:0<rows.length) (hcap:rows.length≤cap) (hg:g<w.heap.size) (hw:Wide z rows)
   (hc: ∀i j,i<rows.length→j<z.length→w.cell? ⟨g,o+i*z.length+j,none⟩=some (vs i j)∧R g (o+i*z.length+j))
   (hx: ∀i j row x,rows[i]? =some row→row[j]? =some x→AR w R aC x (vs i j) ae) (hp: ∀row∈rows,∀x∈row,x.plain=true) (hm:rows.length≤cj):
   AR w R loc (.ro z rows) (.slice (some ⟨g,o,none⟩) rows.length cap) O
 |own0 {loc lvl z a O} (e:Emp O):AR w R loc (.own lvl z []) (.slice a 0 0) O
 |own {loc lvl z rows g o cap O} (vs:Nat→Nat→Value) (os:Nat→Nat→Cells) (hcap:rows.length≤cap) (hb:BF w g (o+cap*z.length)) (hw:Wide z rows)
   (hc: ∀i j,i<rows.length→j<z.length→w.cell? ⟨g,o+i*z.length+j,none⟩=some (vs i j))
   (hx: ∀i j row x,rows[i]? =some row→row[j]? =some x→AR w R aC x (vs i j) (os i j))
   (hO: ∀g' o',O g' o'↔g'=g∨ ∃i j,i<rows.length∧j<z.length∧os i j g' o')
   (hd: ∀i j,i<rows.length→j<z.length→ ∀o',¬os i j g o')
   (hdd: ∀i j i' j',i<rows.length→j<z.length→i'<rows.length→j'<z.length→(i,j)≠(i',j')→Disj (os i j) (os i' j'))
   (h0:lvl=0→ ∀row∈rows,∀x∈row,x.flat=true)
   (h1:lvl≤1→ ∀row∈rows,∀x∈row,x.plain=true) (hm:rows.length≤cj):
   AR w R loc (.own lvl z rows) (.slice (some ⟨g,o,none⟩) rows.length cap) O
 |ref0 {loc b off a O} (l:Loc) (e:Emp O) (hl:loc b=some l) (hn:off≤l.n):AR w R loc (.ref b off 0) (.slice a 0 0) O
 |ref {loc b off len cap O} (l:Loc) (e:Emp O) (hl:loc b=some l) (hbd:l.bound=true) (hn:off+len≤l.n) (hcap:len≤cap) (hb:BF w l.g (l.base+(off+cap)*l.s)) (hm:len≤cj):
   AR w R loc (.ref b off len) (.slice (some ⟨l.g,l.base+off*l.s,none⟩) len cap) O
 |ptr {loc b i j O} (l:Loc) (e:Emp O) (hl:loc b=some l) (hbd:l.bound=true) (hi:i<l.n):AR w R loc (.ptr b i j) (.pointer (some ⟨l.g,l.base+i*l.s+j,none⟩)) O
 |rp {loc row j g o O} (vs:Nat→Value) (e:Emp O) (hg:g<w.heap.size) (hk: ∀x∈row,x.isUndef=false)
   (hc: ∀k,k<row.length→w.cell? ⟨g,o+k,none⟩=some (vs k)∧R g (o+k))
   (hx: ∀k x,row[k]? =some x→AR w R aC x (vs k) ae):
   AR w R loc (.rp row j) (.pointer (some ⟨g,o+j,none⟩)) O
 |fn {loc f caps vs O} (os:Nat→Cells) (hn:vs.size=caps.length) (hx: ∀k x v,caps[k]? =some x→vs[k]? =some v→AR w R loc x v (os k)) (hu:Uni caps.length os O):
   AR w R loc (.fn f caps) (.func (.func f) #[] vs) O
 |obj {loc cells g o O} (vs:Nat→Value) (os:Nat→Cells) (hb:BF w g (o+cells.length)) (hk: ∀x∈cells,x.isUndef=false)
   (hc: ∀k,k<cells.length→w.cell? ⟨g,o+k,none⟩=some (vs k))
   (hx: ∀k x,cells[k]? =some x→AR w R loc x (vs k) (os k))
   (hO: ∀g' o',O g' o'↔(g'=g∧o≤o'∧o'<o+cells.length)∨ ∃k,k<cells.length∧os k g' o')
   (hd: ∀k,k<cells.length→ ∀o',o≤o'→o'<o+cells.length→ ¬os k g o')
   (hdd: ∀k k',k<cells.length→k'<cells.length→k≠k'→Disj (os k) (os k')):
   AR w R loc (.obj cells) (.pointer (some ⟨g,o,none⟩)) O
 |agg {loc cs vs O} (os:Nat→Cells) (hn:vs.size=cs.length) (hx: ∀k x v,cs[k]? =some x→vs[k]? =some v→AR w R loc x v (os k)) (hu:Uni cs.length os O):
   AR w R loc (.agg cs) (.agg vs) O
 |tup {loc cs vs O} (os:Nat→Cells) (hn:vs.size=cs.length) (hx: ∀k x v,cs[k]? =some x→vs[k]? =some v→AR w R loc x v (os k)) (hu:Uni cs.length os O):
   AR w R loc (.tup cs) (.tuple vs) O
structure Keeps(w w':World)(S:Cells):Prop where
 size:w.heap.size≤w'.heap.size
 bf: ∀g n,BF w g n→BF w' g n
 cell: ∀g o,S g o→w'.cell? ⟨g,o,none⟩=w.cell? ⟨g,o,none⟩
theorem Keeps.refl(w:World)(S:Cells):Keeps w w S:=⟨Nat.le_refl _,fun _ _ h=>h,fun _ _ _=>rfl⟩
theorem Keeps.sub{w w':World}{S S':Cells}(h:Keeps w w' S)(hs: ∀g o,S' g o→S g o):Keeps w w' S':=⟨h.size,h.bf,fun g o k=>h.cell g o (hs g o k)⟩
theorem Keeps.trans{w w' w'':World}{S:Cells}(h:Keeps w w' S)(k:Keeps w' w'' S):Keeps w w'' S:=
 ⟨Nat.le_trans h.size k.size,fun g n hb=>k.bf g n (h.bf g n hb),fun g o hs=>(k.cell g o hs).trans (h.cell g o hs)⟩
theorem AR.keep{w w':World}{R:Cells}{loc:bG}{x:AV}{v:Value}{O:Cells}(h:AR w R loc x v O):
  ∀{S R':Cells}{loc':bG},Keeps w w' S→(∀g o,R g o→S g o∧R' g o)→(∀g o,O g o→S g o)→(∀b l,loc b=some l→loc' b=some l)→
  AR w' R' loc' x v O:=by
 induction h with
 |sc h e=>intros;exact .sc h e
 |ro0 e=>intros;exact .ro0 e
 | @ro loc z rows g o cap O vs e hl hcap hg hw hc hx hp hm ih=>
  intro S R' loc' K hR hO hloc
  refine .ro vs e hl hcap (Nat.lt_of_lt_of_le hg K.size) hw (fun i j hi hj=> ?_) (fun i j row x h1 h2=>ih i j row x h1 h2 K hR (fun _ _ h=>h.elim) (fun _ _ h=>h)) hp hm
  obtain⟨h1,h2⟩:=hc i j hi hj
  exact⟨(K.cell _ _ (hR _ _ h2).1).trans h1,(hR _ _ h2).2⟩
 |own0 e=>intros;exact .own0 e
 | @own loc lvl z rows g o cap O vs os hcap hb hw hc hx hO hd hdd h0 h1 hm ih=>
  intro S R' loc' K hR hOS hloc
  refine .own vs os hcap (K.bf _ _ hb) hw (fun i j hi hj=>(K.cell _ _ (hOS _ _ ((hO _ _).2 (.inl rfl)))).trans (hc i j hi hj)) (fun i j row x h1 h2=> ?_) hO hd hdd h0 h1 hm
  have hi:i<rows.length:=(List.getElem?_eq_some_iff.1 h1).1
  have hj:j<z.length:=by
   have:=(List.getElem?_eq_some_iff.1 h2).1
   rw[hw.len row (List.mem_of_getElem? h1)]at this
   exact this
  exact ih i j row x h1 h2 K hR (fun g' o' ho=>hOS _ _ ((hO _ _).2 (.inr ⟨i,j,hi,hj,ho⟩))) (fun _ _ h=>h)
 |ref0 l e hl hn=>intro S R' loc' K hR hO hloc;exact .ref0 l e (hloc _ _ hl) hn
 |ref l e hl hbd hn hcap hb hm=>intro S R' loc' K hR hO hloc;exact .ref l e (hloc _ _ hl) hbd hn hcap (K.bf _ _ hb) hm
 |ptr l e hl hbd hi=>intro S R' loc' K hR hO hloc;exact .ptr l e (hloc _ _ hl) hbd hi
 | @rp loc row j g o O vs e hg hk hc hx ih=>
  intro S R' loc' K hR hO hloc
  refine .rp vs e (Nat.lt_of_lt_of_le hg K.size) hk (fun k hk=> ?_) (fun k x h1=>ih k x h1 K hR (fun _ _ h=>h.elim) (fun _ _ h=>h))
  obtain⟨h1,h2⟩:=hc k hk
  exact⟨(K.cell _ _ (hR _ _ h2).1).trans h1,(hR _ _ h2).2⟩
 | @fn loc f caps vs O os hn hx hu ih=>
  intro S R' loc' K hR hO hloc
  exact .fn os hn (fun k x v h1 h2=>ih k x v h1 h2 K hR (fun g o ho=>hO _ _ ((hu.iff _ _).2 ⟨k,(List.getElem?_eq_some_iff.1 h1).1,ho⟩)) hloc) hu
 | @obj loc cells g o O vs os hb hk hc hx hO hd hdd ih=>
  intro S R' loc' K hR hOS hloc
  refine .obj vs os (K.bf _ _ hb) hk (fun k hk=>(K.cell _ _ (hOS _ _ ((hO _ _).2 (.inl ⟨rfl,by omega,by omega⟩)))).trans (hc k hk)) (fun k x h1=> ?_) hO hd hdd
  exact ih k x h1 K hR (fun g' o' ho=>hOS _ _ ((hO _ _).2 (.inr ⟨k,(List.getElem?_eq_some_iff.1 h1).1,ho⟩))) hloc
 | @agg loc cs vs O os hn hx hu ih=>
  intro S R' loc' K hR hO hloc
  exact .agg os hn (fun k x v h1 h2=>ih k x v h1 h2 K hR (fun g o ho=>hO _ _ ((hu.iff _ _).2 ⟨k,(List.getElem?_eq_some_iff.1 h1).1,ho⟩)) hloc) hu
 | @tup loc cs vs O os hn hx hu ih=>
  intro S R' loc' K hR hO hloc
  exact .tup os hn (fun k x v h1 h2=>ih k x v h1 h2 K hR (fun g o ho=>hO _ _ ((hu.iff _ _).2 ⟨k,(List.getElem?_eq_some_iff.1 h1).1,ho⟩)) hloc) hu
theorem AR.weak{w:World}{R R':Cells}{loc loc':bG}{x:AV}{v:Value}{O:Cells}(h:AR w R loc x v O)(hR: ∀g o,R g o→R' g o)
  (hl: ∀b l,loc b=some l→loc' b=some l):AR w R' loc' x v O:=
 h.keep (S:=fun _ _=>True) (Keeps.refl _ _) (fun g o k=>⟨trivial,hR g o k⟩) (fun _ _ _=>trivial) hl
inductive BR(w:World)(R:Cells)(loc:bG)(b:Nat):Blk→Cells→Prop where
 |arr0 {lvl z O} (l:Loc) (hl:loc b=some l) (hn:l.n=0) (hs:l.s=z.length) (hbd:l.bound=false) (e:Emp O):BR w R loc b ⟨true,lvl,z,[]⟩ O
 |arr {lvl z rows O} (l:Loc) (vs:Nat→Nat→Value) (os:Nat→Nat→Cells) (hl:loc b=some l) (hbd:l.bound=true) (hs:l.s=z.length) (hn:l.n=rows.length)
   (hb:BF w l.g (l.base+rows.length*z.length)) (hw:Wide z rows)
   (hc: ∀i j,i<rows.length→j<z.length→w.cell? ⟨l.g,l.base+i*z.length+j,none⟩=some (vs i j))
   (hx: ∀i j row x,rows[i]? =some row→row[j]? =some x→AR w R aC x (vs i j) (os i j))
   (hO: ∀g' o',O g' o'↔g'=l.g∨ ∃i j,i<rows.length∧j<z.length∧os i j g' o')
   (hd: ∀i j,i<rows.length→j<z.length→ ∀o',¬os i j l.g o')
   (hdd: ∀i j i' j',i<rows.length→j<z.length→i'<rows.length→j'<z.length→(i,j)≠(i',j')→Disj (os i j) (os i' j'))
   (h0:lvl=0→ ∀row∈rows,∀x∈row,x.flat=true)
   (h1:lvl≤1→ ∀row∈rows,∀x∈row,x.plain=true) (hm:rows.length≤cj):
   BR w R loc b ⟨true,lvl,z,rows⟩ O
 |var {lvl z row O} (l:Loc) (vs:Nat→Value) (os:Nat→Cells) (hl:loc b=some l) (hbd:l.bound=true) (hs:l.s=z.length) (hn:l.n=1) (hz:row.length=z.length)
   (hb:BF w l.g (l.base+z.length))
   (hc: ∀k x,row[k]? =some x→x.isUndef=false→w.cell? ⟨l.g,l.base+k,none⟩=some (vs k))
   (hx: ∀k x,row[k]? =some x→x.isUndef=false→AR w R loc x (vs k) (os k))
   (hO: ∀g' o',O g' o'↔ ∃k x,row[k]? =some x∧x.isUndef=false∧((g'=l.g∧o'=l.base+k)∨os k g' o'))
   (hd: ∀k x k' x',row[k]? =some x→x.isUndef=false→row[k']? =some x'→x'.isUndef=false→ ¬os k l.g (l.base+k'))
   (hdd: ∀k x k' x',row[k]? =some x→x.isUndef=false→row[k']? =some x'→x'.isUndef=false→k≠k'→Disj (os k) (os k')):
   BR w R loc b ⟨false,lvl,z,[row]⟩ O
theorem BR.loc_some{w:World}{R:Cells}{loc:bG}{b:Nat}{blk:Blk}{O:Cells}(h:BR w R loc b blk O): ∃l,loc b=some l:=by
 cases h<;>exact⟨_, ‹_›⟩
theorem BR.keep{w w':World}{R R' S:Cells}{loc loc':bG}{b:Nat}{blk:Blk}{O:Cells}(h:BR w R loc b blk O)(K:Keeps w w' S)
  (hR: ∀g o,R g o→S g o∧R' g o)(hOS: ∀g o,O g o→S g o)(hloc: ∀b l,loc b=some l→loc' b=some l):BR w' R' loc' b blk O:=by
 cases h with
 |arr0 l hl hn hs hbd e=>exact .arr0 l (hloc _ _ hl) hn hs hbd e
 | @arr lvl z rows O l vs os hl hbd hs hn hb hw hc hx hO hd hdd h0 h1 hm=>
  refine .arr l vs os (hloc _ _ hl) hbd hs hn (K.bf _ _ hb) hw (fun i j hi hj=>(K.cell _ _ (hOS _ _ ((hO _ _).2 (.inl rfl)))).trans (hc i j hi hj)) (fun i j row x h1 h2=> ?_) hO hd hdd h0 h1 hm
  have hi:i<rows.length:=(List.getElem?_eq_some_iff.1 h1).1
  have hj:j<z.length:=by
   have:=(List.getElem?_eq_some_iff.1 h2).1
   rw[hw.len row (List.mem_of_getElem? h1)]at this
   exact this
  exact(hx i j row x h1 h2).keep K hR (fun g' o' ho=>hOS _ _ ((hO _ _).2 (.inr ⟨i,j,hi,hj,ho⟩))) (fun _ _ h=>h)
 | @var lvl z row O l vs os hl hbd hs hn hz hb hc hx hO hd hdd=>
  refine .var l vs os (hloc _ _ hl) hbd hs hn hz (K.bf _ _ hb) (fun k x h1 h2=>(K.cell _ _ (hOS _ _ ((hO _ _).2 ⟨k,x,h1,h2,.inl ⟨rfl,rfl⟩⟩))).trans (hc k x h1 h2)) (fun k x h1 h2=> ?_) hO hd hdd
  exact(hx k x h1 h2).keep K hR (fun g' o' ho=>hOS _ _ ((hO _ _).2 ⟨k,x,h1,h2,.inr ho⟩)) hloc
structure Frame(w w':World)(O:Cells):Prop where
 size:w.heap.size≤w'.heap.size
 bf: ∀g n,BF w g n→BF w' g n
 cell: ∀g o,g<w.heap.size→ ¬O g o→w'.cell? ⟨g,o,none⟩=w.cell? ⟨g,o,none⟩
 shape: ∀g,g<w.heap.size→w'.shape? g=w.shape? g
 obj: ∀g,g<w.heap.size→w.shape? g=none→w'.heap[g]? =w.heap[g]?
 same: ∀g,g<w.heap.size→(∀o,¬O g o)→w'.heap[g]? =w.heap[g]?
 os:w'.os=w.os
 tape:w'.tape=w.tape
 output:w'.output=w.output
theorem Frame.refl(w:World)(O:Cells):Frame w w O:=⟨Nat.le_refl _,fun _ _ h=>h,fun _ _ _ _=>rfl,fun _ _=>rfl,fun _ _ _=>rfl,fun _ _ _=>rfl,rfl,rfl,rfl⟩
theorem Frame.trans{w w' w'':World}{O O':Cells}(h:Frame w w' O)(k:Frame w' w'' O')(hs: ∀g o,O' g o→O g o∨w.heap.size≤g):Frame w w'' O:=by
 refine⟨Nat.le_trans h.size k.size,fun g n hb=>k.bf g n (h.bf g n hb),fun g o hg ho=> ?_,fun g hg=>(k.shape g (Nat.lt_of_lt_of_le hg h.size)).trans (h.shape g hg),
  fun g hg hn=> ?_,fun g hg hno=> ?_,k.os.trans h.os,k.tape.trans h.tape,k.output.trans h.output⟩
 ·refine(k.cell g o (Nat.lt_of_lt_of_le hg h.size) fun ho'=> ?_).trans (h.cell g o hg ho)
  rcases hs g o ho' with h1|h1
  ·exact ho h1
  ·omega
 ·exact(k.obj g (Nat.lt_of_lt_of_le hg h.size) ((h.shape g hg).trans hn)).trans (h.obj g hg hn)
 ·refine(k.same g (Nat.lt_of_lt_of_le hg h.size) fun o ho=> ?_).trans (h.same g hg hno)
  rcases hs g o ho with h1|h1
  ·exact hno o h1
  ·omega
theorem Frame.weak{w w':World}{O O':Cells}(h:Frame w w' O)(hs: ∀g o,O g o→O' g o):Frame w w' O':=
 ⟨h.size,h.bf,fun g o hg ho=>h.cell g o hg fun k=>ho (hs g o k),h.shape,h.obj,fun g hg hno=>h.same g hg fun o k=>hno o (hs g o k),h.os,h.tape,h.output⟩
theorem Frame.keeps{w w':World}{O S:Cells}(h:Frame w w' O)(hs: ∀g o,S g o→g<w.heap.size∧ ¬O g o):Keeps w w' S:=
 ⟨h.size,h.bf,fun g o k=>h.cell g o (hs g o k).1 (hs g o k).2⟩
structure Env where
 w0:World
 R0:Cells
 O0:Cells
 A:bG
def al(ob:Nat→Cells)(X:Cells):Cells:=fun g o=>(∃b,ob b g o)∨X g o
def RS(E:Env)(w:World)(ow:Cells):Cells:=fun g o=>(E.R0 g o∨E.O0 g o∨E.w0.heap.size≤g)∧g<w.heap.size∧ ¬ow g o
structure RelC(E:Env)(st:St)(a:Act)(w:World)(X:Cells)(loc:bG)(ob:Nat→Cells):Prop where
 tm: ∀k,AR w (RS E w (al ob X)) loc (st.t k) (a.tmps.getD k undef) ae
 sz:st.n=a.tmps.size
 df:a.defers=[]
 ab: ∀b,st.m b=.abs→loc b=none∧Emp (ob b)
 dd: ∀b,st.m b=.dead→(loc b).isSome∧Emp (ob b)
 lv: ∀b blk,st.m b=.live blk→BR w (RS E w (al ob X)) loc b blk (ob b)
 db: ∀b b',b≠b'→Disj (ob b) (ob b')
 dx: ∀b,Disj (ob b) X
 lt: ∀g o,al ob X g o→g<w.heap.size
 sub: ∀g o,al ob X g o→E.O0 g o∨E.w0.heap.size≤g
 fr:Frame E.w0 w E.O0
 an: ∀b∈st.an,loc b=E.A b∧(loc b).isSome=true
def Rel(E:Env)(st:St)(a:Act)(w:World)(X:Cells):Prop:= ∃loc ob,RelC E st a w X loc ob
end Go.Abs

/- The abstract layer, 3: how the relation goes from state to state. -/
noncomputable section
namespace Go.Abs
open Go
def pf(E:Env)(w:World)(ow:Cells)(loc:bG)(b:Nat)(x:MB)(O:Cells):Prop:=match x with
 | .abs=>loc b=none∧Emp O
 | .dead=>(loc b).isSome∧Emp O
 | .live blk=>BR w (RS E w ow) loc b blk O
theorem RelC.at{E:Env}{st:St}{a:Act}{w:World}{X:Cells}{loc:bG}{ob:Nat→Cells}(h:RelC E st a w X loc ob)(b:Nat):
  pf E w (al ob X) loc b (st.m b) (ob b):=by
 unfold pf
 split
 ·rename_i hm;exact h.ab b hm
 ·rename_i hm;exact h.dd b hm
 ·rename_i blk hm;exact h.lv b blk hm
theorem RS.sub{E:Env}{w w':World}{ow ow':Cells}(hs:w.heap.size≤w'.heap.size)(hD: ∀g o,ow' g o→ow g o∨w.heap.size≤g)(g o:Nat)(h:RS E w ow g o):RS E w' ow' g o:=by
 obtain⟨h1,h2,h3⟩:=h
 refine⟨h1,Nat.lt_of_lt_of_le h2 hs,fun k=> ?_⟩
 rcases hD g o k with k|k
 ·exact h3 k
 ·omega
theorem RelC.go{E:Env}{st st':St}{a:Act}{w w':World}{X X':Cells}{loc loc':bG}{ob ob':Nat→Cells}(h:RelC E st a w X loc ob)(Wt:Cells)
  (hn:st'.n=st.n)(ht:st'.t=st.t)(hF:Frame w w' Wt)
  (hD: ∀g o,al ob' X' g o→(al ob X g o∨w.heap.size≤g)∧g<w'.heap.size)
  (hW: ∀g o,Wt g o→al ob X g o)
  (hloc: ∀b l,loc b=some l→loc' b=some l)
  (hb: ∀b,(st'.m b=st.m b∧ob' b=ob b∧loc' b=loc b∧Disj Wt (ob b))∨pf E w' (al ob' X') loc' b (st'.m b) (ob' b))
  (hdb: ∀b b',b≠b'→Disj (ob' b) (ob' b'))(hdx: ∀b,Disj (ob' b) X')(han:st'.an=st.an:=by rfl):RelC E st' a w' X' loc' ob':=by
 have hK:Keeps w w' (fun g o=>g<w.heap.size∧ ¬Wt g o):=hF.keeps fun g o k=>k
 have hR: ∀g o,RS E w (al ob X) g o→(g<w.heap.size∧ ¬Wt g o)∧RS E w' (al ob' X') g o:=fun g o k=>
  ⟨⟨k.2.1,fun hw=>k.2.2 (hW g o hw)⟩,RS.sub hF.size (fun g o k=>(hD g o k).1) g o k⟩
 have key: ∀b,pf E w' (al ob' X') loc' b (st'.m b) (ob' b):=by
  intro b
  rcases hb b with⟨h1,h2,h3,h4⟩|hb
  ·have hat:=h.at b
   rw[h1,h2]
   cases hm:st.m b with
   |abs=>rw[hm]at hat;exact⟨h3.trans hat.1,hat.2⟩
   |dead=>rw[hm]at hat;exact⟨by rw[h3];exact hat.1,hat.2⟩
   |live blk=>
    rw[hm]at hat
    exact BR.keep hat hK hR (fun g o k=>⟨h.lt g o (.inl ⟨b,k⟩),fun hw=>h4 g o hw k⟩) hloc
  ·exact hb
 refine⟨fun k=> ?_,hn.trans h.sz,h.df,fun b hm=> ?_,fun b hm=> ?_,fun b blk hm=> ?_,hdb,hdx,fun g o k=>(hD g o k).2,fun g o k=> ?_,?_,fun b hb=> ?_⟩
 ·rw[ht]
  exact(h.tm k).keep hK hR (fun _ _ k=>k.elim) hloc
 ·have:=key b;rw[hm]at this;exact this
 ·have:=key b;rw[hm]at this;exact this
 ·have:=key b;rw[hm]at this;exact this
 ·rcases(hD g o k).1 with k|k
  ·exact h.sub g o k
  ·exact .inr (Nat.le_trans h.fr.size k)
 ·exact h.fr.trans hF fun g o k=>h.sub g o (hW g o k)
 ·rw[han]at hb
  obtain⟨h1,h2⟩:=h.an b hb
  obtain⟨l,hl⟩:=Option.isSome_iff_exists.1 h2
  have:=hloc b l hl
  rw[this]
  exact⟨by rw[←h1,hl],rfl⟩
theorem RelC.put{E:Env}{st:St}{a:Act}{w:World}{X:Cells}{loc:bG}{ob:Nat→Cells}(h:RelC E st a w X loc ob)(d:Option Nat)(x:AV)(v:Value)
  (hd:st.dstOk d=true)(hx:d≠none→AR w (RS E w (al ob X)) loc x v ae):RelC E (st.put d x) (a.put d v) w X loc ob:=by
 cases d with
 |none=>exact h
 |some d=>
  have hlt:d<a.tmps.size:=by have:=of_decide_eq_true hd;rw[h.sz]at this;exact this
  refine⟨fun k=> ?_,?_,h.df,h.ab,h.dd,h.lv,h.db,h.dx,h.lt,h.sub,h.fr,h.an⟩
  ·simp only[St.put,bi,Act.put]
   by_cases hk:k=d
   ·subst hk
    simp only[if_true]
    have:(a.tmps.setIfInBounds k v).getD k undef=v:=by simp[hlt]
    rw[this]
    exact hx (by simp)
   ·simp only[hk,if_false]
    have:(a.tmps.setIfInBounds d v).getD k undef=a.tmps.getD k undef:=by
     simp[Array.getElem?_setIfInBounds_ne (Ne.symm hk)]
    rw[this]
    exact h.tm k
  ·simp[St.put,Act.put,h.sz]
theorem Frame.drew(w:World)(n:Nat)(O:Cells):Frame w {w with drawn:=n} O:=
 ⟨Nat.le_refl _,fun _ _ h=>h,fun _ _ _ _=>rfl,fun _ _=>rfl,fun _ _ _=>rfl,fun _ _ _=>rfl,rfl,rfl,rfl⟩
def World.push(w:World)(o:Obj):World:={w with heap:=w.heap.push o}
theorem nI{w:World}{o:Obj}{g:Nat}(h:g<w.heap.size):(World.push w o).heap[g]? =w.heap[g]? :=by
 simp[World.push,Array.getElem?_push,Nat.ne_of_lt h]
theorem nk{w:World}{o:Obj}:(World.push w o).heap[w.heap.size]? =some o:=by simp[World.push]
theorem Frame.push(w:World)(o:Obj)(O:Cells):Frame w (World.push w o) O:=by
 refine⟨by simp[World.push],fun g n hb=> ?_,fun g off hg _=> ?_,fun g hg=> ?_,fun g hg _=>nI hg,fun g hg _=>nI hg,rfl,rfl,rfl⟩
 ·obtain⟨c,e,fz,h,k⟩:=hb
  exact⟨c,e,fz,(nI (Array.getElem?_eq_some_iff.1 h).1).trans h,k⟩
 ·simp only[World.cell?,nI hg]
 ·simp only[World.shape?,nI hg]
theorem Frame.set(w:World)(g o:Nat)(v:Value)(O:Cells)(hO:O g o):Frame w (w.setCell ⟨g,o,none⟩ v) O:=by
 have hat: ∀g',(w.setCell ⟨g,o,none⟩ v).heap[g']? =if g'=g then(w.heap[g']?).map (fun| .cells c e f=>.cells (c.setIfInBounds o v) e f|x=>x)else w.heap[g']? :=by
  intro g'
  simp only[World.setCell,Array.getElem?_modify]
  by_cases h:g=g'
  ·subst h;simp only[if_true];cases w.heap[g]? with
   |none=>rfl
   |some x=>cases x<;>rfl
  ·simp[h,Ne.symm h]
 refine⟨by simp[World.setCell],fun g' n hb=> ?_,fun g' o' hg hno=> ?_,fun g' hg=> ?_,fun g' hg hn=> ?_,fun g' hg hno=> ?_,rfl,rfl,rfl⟩
 ·obtain⟨c,e,fz,h,h1,h2⟩:=hb
  by_cases hgg:g'=g
  ·refine⟨c.setIfInBounds o v,e,fz,by rw[hat,if_pos hgg,h];rfl,by simpa using h1,by simpa using h2.1,h2.2⟩
  ·exact⟨c,e,fz,by rw[hat,if_neg hgg,h],h1,h2⟩
 ·simp only[World.cell?]
  rw[hat]
  by_cases hgg:g'=g
  ·subst hgg
   simp only[if_true]
   cases hh:w.heap[g']? with
   |none=>rfl
   |some x=>
    cases x<;>simp
    have:o≠o':=fun e=>hno (e▸hO)
    simp[Array.getElem?_setIfInBounds_ne this]
  ·simp[hgg]
 ·simp only[World.shape?]
  rw[hat]
  by_cases hgg:g'=g
  ·subst hgg
   simp only[if_true]
   cases hh:w.heap[g']? with
   |none=>rfl
   |some x=>cases x<;>simp
  ·simp[hgg]
 ·rw[hat]
  by_cases hgg:g'=g
  ·subst hgg
   simp only[if_true]
   simp only[World.shape?]at hn
   cases hh:w.heap[g']? with
   |none=>rfl
   |some x=>cases x<;>simp_all
  ·simp[hgg]
 ·rw[hat]
  by_cases hgg:g'=g
  ·subst hgg
   exact(hno o hO).elim
  ·simp[hgg]
theorem gJ{w:World}{g n g':Nat}:(w.freeze ⟨g,n,none⟩ 1).heap[g']? =if g'=g then(w.heap[g']?).map (fun| .cells c e (lo,hi)=>.cells c e (if lo==hi then(n,n+1)else(min lo n,max hi (n+1)))|x=>x)else w.heap[g']? :=by
 simp only[World.freeze,if_neg (show ¬(1:Nat)=0 by decide),Array.getElem?_modify]
 by_cases h:g=g'
 ·subst h;simp only[if_true];cases w.heap[g]? with
  |none=>rfl
  |some x=>cases x<;>rfl
 ·simp[h,Ne.symm h]
theorem pq{w:World}{g n:Nat}(g' o:Nat):(w.freeze ⟨g,n,none⟩ 1).cell? ⟨g',o,none⟩=w.cell? ⟨g',o,none⟩:=by
 simp only[World.cell?]
 rw[gJ]
 by_cases hgg:g'=g
 ·subst hgg
  simp only[if_true]
  cases hh:w.heap[g']? with
  |none=>rfl
  |some x=>cases x<;>rfl
 ·simp[hgg]
theorem Frame.freeze(w:World){g n:Nat}(O:Cells)(hO: ∃o,O g o){c:Array Value}{e:TypeId}{fz:Nat × Nat}(hc:w.heap[g]? =some (.cells c e fz))(hn:n=c.size)(h1: ∀i,i<c.size→ ¬(fz.1≤i∧i<fz.2))(h2:fz.1≤fz.2):
  Frame w (w.freeze ⟨g,n,none⟩ 1) O:=by
 refine⟨by simp[World.freeze],fun g' m hb=> ?_,fun g' o' hg hno=>pq g' o',fun g' hg=> ?_,fun g' hg hs=> ?_,fun g' hg hno=> ?_,rfl,rfl,rfl⟩
 ·obtain⟨c',e',fz',h3,h4,h5,h6⟩:=hb
  by_cases hgg:g'=g
  ·subst hgg
   rw[hc]at h3
   injection h3 with h3
   injection h3 with h7 h8 h9
   subst h7;subst h8;subst h9
   refine⟨c,e,if fz.1==fz.2 then(n,n+1)else(min fz.1 n,max fz.2 (n+1)),by rw[gJ,if_pos rfl,hc];rfl,h4,?_⟩
   split
   ·exact⟨fun i hi=>by simp only;omega,by simp⟩
   ·rename_i hne
    simp only[beq_iff_eq]at hne
    have:=h1 fz.1
    exact⟨fun i hi=>by simp only;omega,by simp only;omega⟩
  ·exact⟨c',e',fz',by rw[gJ,if_neg hgg,h3],h4,h5,h6⟩
 ·simp only[World.shape?]
  rw[gJ]
  by_cases hgg:g'=g
  ·subst hgg
   simp only[if_true]
   cases hh:w.heap[g']? with
   |none=>rfl
   |some x=>cases x<;>rfl
  ·simp[hgg]
 ·rw[gJ]
  by_cases hgg:g'=g
  ·subst hgg
   simp only[World.shape?,hc]at hs
   cases hs
  ·simp[hgg]
 ·rw[gJ]
  by_cases hgg:g'=g
  ·subst hgg
   obtain⟨o,ho⟩:=hO
   exact(hno o ho).elim
  ·simp[hgg]
theorem BF.cell{w:World}{g n o:Nat}(h:BF w g n)(ho:o<n): ∃v,w.cell? ⟨g,o,none⟩=some v:=by
 obtain⟨c,e,fz,h,h1,h2⟩:=h
 simp only[World.cell?,h]
 exact⟨c[o],by simp[Nat.lt_of_lt_of_le ho h1]⟩
theorem BF.unfrozen{w:World}{g n o:Nat}(h:BF w g n)(ho:o<n):w.frozen? ⟨g,o,none⟩=false:=by
 obtain⟨c,e,fz,h,h1,h2,_⟩:=h
 simp only[World.frozen?,h]
 have:=h2 o (by omega)
 obtain⟨lo,hi⟩:=fz
 simp at this⊢
 omega
end Go.Abs
