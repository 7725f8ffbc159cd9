import Derived.Test.YthfphedhlnoffaaGreatDoorLH
/- The abstract layer, 28: a quick walk. States are lists; every step is computed by the head. -/
set_option linter.unusedVariables false
set_option linter.unusedSimpArgs false
noncomputable section
namespace Go.Abs
open Go
structure RqS(b:Bool)(X:Prop):Prop where
 l:b=true
 r:X
structure ChkS(b:Bool)(X:Prop):Prop where
 l:b=true
 r:X
structure BrS(b:Bool)(X Y:Prop):Prop where
 t:b=true→X
 f:b=false→Y
structure ShG(x y:AV):Prop where
 s:Sh x y
inductive CallG(P:Program)(f:FuncId)(as:List AV)(K:AV→Prop):Prop where
 |mk (res:AV) (h:Con P f as (aa as) res) (k:K res):CallG P f as K
inductive RowG(row:List AV)(K:List AV→Prop):Prop where
 |mk (row':List AV) (h:row=row') (k:K row'):RowG row K
inductive RowsG(rows:List (List AV))(K:List (List AV)→Prop):Prop where
 |mk (rows':List (List AV)) (h:rows=rows') (k:K rows'):RowsG rows K
structure LoopG(P:Program)(c:Code)(Q:Ex→St→Prop)(st:St):Prop where
 wp:WP P (.loop c) Q st
structure FacG(F:Nat→Prop)(X:Prop):Prop where
 k:(∀d,F d)→X
abbrev Ts:=List (Nat × AV)
abbrev Ms:=List (Nat × MB)
def okK(b:Bool)(X:Prop):Prop:=match b with
 |true=>X
 |false=>False
def cT:Ts→Nat→AV
 |[],_=>.undef
 |p::l,k=>match Nat.beq k p.1 with
  |true=>p.2
  |false=>cT l k
def bV:Ms→Nat→MB
 |[],_=>.abs
 |p::l,k=>match Nat.beq k p.1 with
  |true=>p.2
  |false=>bV l k
structure Fx where
 n:Nat
 an:List Nat
 kp:List (Nat × List Nat)
def St.ls(n:Fx)(ts:Ts)(ms:Ms):St:=⟨n.n,cT ts,bV ms,n.an⟩
def fH:MB→Bool
 | .abs=>true
 |_=>false
def uE(v:AV)(K:AV→Prop):Prop:=match v with
 | .undef=>K .undef
 | .int k n=>K (.int k n)
 | .bool b=>K (.bool b)
 | .str s=>K (.str s)
 | .nilp=>K .nilp
 | .ptr b i j=>K (.ptr b i j)
 | .rp row j=>K (.rp row j)
 | .fn f caps=>K (.fn f caps)
 | .nilfn=>K .nilfn
 | .emp=>K .emp
 | .ref b off len=>K (.ref b off len)
 | .ro z rows=>K (.ro z rows)
 | .own lvl z rows=>K (.own lvl z rows)
 | .obj cells=>K (.obj cells)
 | .agg cs=>K (.agg cs)
 | .tup vs=>K (.tup vs)
noncomputable def lD(F:AV→(AV→Prop)→Prop)(l:List AV):(List AV→Prop)→Prop:=
 List.rec (motive:=fun _=>(List AV→Prop)→Prop) (fun K=>K []) (fun x _ ih K=>F x fun x=>ih fun l=>K (x::l)) l
def fc(v:AV)(K:AV→Prop):Prop:=match v with
 | .agg cs=>lD uE cs fun cs=>K (.agg cs)
 | .tup cs=>lD uE cs fun cs=>K (.tup cs)
 | .fn f cs=>lD uE cs fun cs=>K (.fn f cs)
 | .obj cs=>lD uE cs fun cs=>K (.obj cs)
 |v=>uE v K
def F0(v:AV)(K:AV→Prop):Prop:=match v with
 | .ro z rows=>lD uE z fun z=>RowsG rows fun rows=>K (.ro z rows)
 | .own lvl z rows=>lD uE z fun z=>RowsG rows fun rows=>K (.own lvl z rows)
 |v=>fc v K
def DL(v:AV)(K:AV→Prop):Prop:=match v with
 | .agg cs=>lD F0 cs fun cs=>K (.agg cs)
 |v=>F0 v K
def fg(v:AV)(K:AV→Prop):Prop:=match v with
 | .tup cs=>lD DL cs fun cs=>K (.tup cs)
 |v=>DL v K
noncomputable def Gi(l:List (List AV)):(List (List AV)→Prop)→Prop:=
 List.rec (motive:=fun _=>(List (List AV)→Prop)→Prop) (fun K=>K []) (fun x _ ih K=>lD fc x fun x=>ih fun l=>K (x::l)) l
def A0(n:Nat)(K:Nat→Prop):Prop:=match Nat.beq n 0 with
 |true=>K 0
 |false=>match Nat.beq n 1 with
  |true=>K 1
  |false=>K n
def Ik(m:MB)(K:MB→Prop):Prop:=match m with
 | .abs=>K .abs
 | .dead=>K .dead
 | .live ⟨arr,lvl,z,rows⟩=>A0 lvl fun lvl=>lD uE z fun z=>match arr with
  |true=>K (.live ⟨true,lvl,z,rows⟩)
  |false=>Gi rows fun rows=>K (.live ⟨false,lvl,z,rows⟩)
def vm:Ms→Ms→(Ms→Prop)→Prop
 |[],ms,K=>K ms
 |(b,m)::l,ms,K=>Ik m fun m=>vm l ((b,m)::ms) K
def RP.go{α:Type}(p:RP α):Ts→Ms→(α→Prop)→Prop:=
 RP.rec (motive:=fun _=>Ts→Ms→(α→Prop)→Prop) (fun a _ _ K=>K a) (fun k _ ih ts ms K=>ih (cT ts k) ts ms K) (fun b _ ih ts ms K=>ih (bV ms b) ts ms K) (fun b _ ih ts ms K=>RqS b (ih ts ms K)) (fun _ _ _=>False) p
def RP.goL{α:Type}(p:RP α):Ts→Ms→(α→List Nat→List Nat→Prop)→Prop:=
 RP.rec (motive:=fun _=>Ts→Ms→(α→List Nat→List Nat→Prop)→Prop) (fun a _ _ K=>K a [] []) (fun k _ ih ts ms K=>ih (cT ts k) ts ms fun a s m=>K a (k::s) m) (fun b _ ih ts ms K=>ih (bV ms b) ts ms fun a s m=>K a s (b::m)) (fun b _ ih ts ms K=>RqS b (ih ts ms K)) (fun _ _ _=>False) p
def yg(t:Bool)(x y:AV)(K:AV→Prop):Prop:=match x with
 | .int k n=>match y with
  | .int k' m=>if k=k' then K (.int k (if t=true then n else m))else BrS t (K (.int k n)) (K (.int k' m))
  |y=>BrS t (K (.int k n)) (K y)
 | .bool a=>match y with
  | .bool b=>K (.bool (if t=true then a else b))
  |y=>BrS t (K (.bool a)) (K y)
 | .str a=>match y with
  | .str b=>K (.str (if t=true then a else b))
  |y=>BrS t (K (.str a)) (K y)
 |x=>BrS t (K x) (K y)
def oP(i:TI)(j:Nat)(K:AV→Prop)(row:List AV):Prop:=lD uE ((row.drop j).take i.size) fun cs=>okK (cs.all AV.light&&cs.length==i.size)<|match fF i.ut with
 |true=>K (.agg cs)
 |false=>match cs with
  |[c]=>K c
  |_=>False
def Eo(blk:Blk)(r:Nat)(K:List AV→Prop):Prop:=match blk with
 |⟨arr,_,z,rows⟩=>match arr with
  |true=>RowG (dm rows r z) K
  |false=>K (dm rows r z)
def ot(i:TI)(v:AV)(b r j:Nat)(blk:Blk)(K:MB→Prop):Prop:=match blk with
 |⟨arr,lvl,z,rows⟩=>lD uE v.leaves fun vs=>match arr&&Nat.blt z.length i.size with
  |true=>okK (z.length==1&&j==0&&vs.length==i.size&&decide (r+i.size≤rows.length)&&vs.all AV.plain&&decide (lvl≤1)) (RowsG (fy rows r vs) fun rows=>K (.live ⟨true,max lvl (ga vs),z,rows⟩))
  |false=>okK (vs.length==i.size&&decide (j+i.size≤z.length))<|match arr with
   |true=>okK (vs.all AV.plain&&decide (lvl≤1)) (RowsG (be rows r j z vs) fun rows=>K (.live ⟨true,max lvl (ga vs),z,rows⟩))
   |false=>okK (vs.all AV.light&&(((dm rows r z).drop j).take i.size).all (fun c=> !c.isUndef)) (K (.live ⟨false,lvl,z,be rows r j z vs⟩))
def wN(r:cZ)(K:cZ→Prop):Prop:=match r with
 |(v,[(b,.live ⟨true,lvl,z,rows⟩)])=>Gi rows fun rows=>K (v,[(b,.live ⟨true,lvl,z,rows⟩)])
 |r=>K r
inductive AppG(lvl:Nat)(rows:List (List AV))(n:Nat)(K:Nat→List (List AV)→Nat→Prop):Prop where
 |mk (lvl':Nat) (rows':List (List AV)) (n':Nat) (h0:lvl=lvl') (h1:rows=rows') (h2:n=n') (k:K lvl' rows' n'):AppG lvl rows n K
def CH(r:cZ)(K:cZ→Prop):Prop:=match r with
 |(v,l)=>match v with
  | .ref b off n=>match l with
   |[(b1,m1),(b2,m2)]=>match m2 with
    | .live ⟨arr,lvl,z,rows⟩=>AppG lvl rows n fun lvl rows n=>K (.ref b off n,[(b1,m1),(b2,.live ⟨arr,lvl,z,rows⟩)])
    |m2=>K (.ref b off n,[(b1,m1),(b2,m2)])
   |[(b2,m2)]=>match m2 with
    | .live ⟨arr,lvl,z,rows⟩=>AppG lvl rows n fun lvl rows n=>K (.ref b off n,[(b2,.live ⟨arr,lvl,z,rows⟩)])
    |m2=>K (.ref b off n,[(b2,m2)])
   |l=>K (.ref b off n,l)
  | .int k n=>match l with
   |[(b2,m2)]=>match m2 with
    | .live ⟨arr,lvl,z,rows⟩=>RowsG rows fun rows=>K (.int k n,[(b2,.live ⟨arr,lvl,z,rows⟩)])
    |m2=>K (.int k n,[(b2,m2)])
   |l=>K (.int k n,l)
  |v=>K (v,l)
inductive BytG(rows:List (List AV))(K:List UInt8→Prop):Prop where
 |mk (b:List UInt8) (h:cD rows=some b) (k:K b):BytG rows K
def zH(T:TT)(same:Bool)(i j:TI)(v:AV)(d:Nat)(ts:Ts)(ms:Ms)(K:cZ→Prop):Prop:=match j.ut with
 | .str=>match v with
  | .str b=>K (.str b,[])
  |v=>match i.ut with
   | .slice e=>(TI.ofT T e).go ts ms fun je=>match je.ut with
    | .int .u8=>(nQ [.undef] v).go ts ms fun r=>BytG r.2 fun b=>K (.str b,[])
    |_=>False
   |_=>False
 |_=>(oG T same i j v d).go ts ms K
def vW(T:TT)(same:Bool)(i j:TI)(v:AV)(d:Nat)(ts:Ts)(ms:Ms)(K:cZ→List Nat→List Nat→Prop):Prop:=match j.ut with
 | .str=>match v with
  | .str b=>K (.str b,[]) [] []
  |v=>match i.ut with
   | .slice e=>(TI.ofT T e).goL ts ms fun je s m=>match je.ut with
    | .int .u8=>(nQ [.undef] v).goL ts ms fun r s' m'=>BytG r.2 fun b=>K (.str b,[]) (s++s') (m++m')
    |_=>False
   |_=>False
 |_=>(oG T same i j v d).goL ts ms K
def F5(T:TT)(o:Oper)(ts:Ts)(ms:Ms)(K:cZ→Prop):Prop:=match o.op with
 | .pick c a b=>(cG c).go ts ms fun c=>match c with
  | .bool t=>(cG a).go ts ms fun x=>(cG b).go ts ms fun y=>yg t x y fun v=>K (v,[])
  |_=>False
 | .load t x=>(TI.ofT T t).go ts ms fun i=>(cG x).go ts ms fun v=>match v with
  | .ptr b r j=>match bV ms b with
   | .live blk=>Eo blk r (oP i j fun c=>K (c,[]))
   |_=>False
  | .rp row j=>RowG row (oP i j fun c=>K (c,[]))
  |_=>False
 | .store t x y=>(TI.ofT T t).go ts ms fun i=>(cG y).go ts ms fun v=>(cG x).go ts ms fun a=>match a with
  | .ptr b r j=>match bV ms b with
   | .live blk=>fc v fun v=>ot i v b r j blk fun m=>K (.undef,[(b,m)])
   |_=>False
  |_=>False
 | .convert s t x=>match o.dst with
  |some d=>(TI.ofT T s).go ts ms fun i=>(TI.ofT T t).go ts ms fun j=>(cG x).go ts ms fun v=>zH T (Nat.beq s t) i j v d ts ms K
  |none=>False
 | .buildSlice _ _ _=>(ib T o).go ts ms fun r=>wN r K
 | .call _=>(ib T o).go ts ms fun r=>CH r K
 |_=>(ib T o).go ts ms K
def CR(T:TT)(o:Oper)(ts:Ts)(ms:Ms)(K:cZ→List Nat→List Nat→Prop):Prop:=match o.op with
 | .pick c a b=>(cG c).goL ts ms fun c s m=>match c with
  | .bool t=>(cG a).goL ts ms fun x s' m'=>(cG b).goL ts ms fun y s'' m''=>yg t x y fun v=>K (v,[]) (s++(s'++s'')) (m++(m'++m''))
  |_=>False
 | .load t x=>(TI.ofT T t).goL ts ms fun i s0 m0=>(cG x).goL ts ms fun v s m=>match v with
  | .ptr b r j=>match bV ms b with
   | .live blk=>Eo blk r (oP i j fun c=>K (c,[]) (s0++s) (m0++(m++[b])))
   |_=>False
  | .rp row j=>RowG row (oP i j fun c=>K (c,[]) (s0++s) (m0++m))
  |_=>False
 | .store t x y=>(TI.ofT T t).goL ts ms fun i s0 m0=>(cG y).goL ts ms fun v s m=>(cG x).goL ts ms fun a s' m'=>match a with
  | .ptr b r j=>match bV ms b with
   | .live blk=>fc v fun v=>ot i v b r j blk fun mb=>K (.undef,[(b,mb)]) (s0++(s++s')) (m0++(m++(m'++[b])))
   |_=>False
  |_=>False
 | .convert s t x=>match o.dst with
  |some d=>(TI.ofT T s).goL ts ms fun i s0 m0=>(TI.ofT T t).goL ts ms fun j s1 m1=>(cG x).goL ts ms fun v s2 m2=>vW T (Nat.beq s t) i j v d ts ms fun r s3 m3=>K r (s0++(s1++(s2++s3))) (m0++(m1++(m2++m3)))
  |none=>False
 | .buildSlice _ _ _=>(ib T o).goL ts ms fun r s m=>wN r fun r=>K r s m
 | .call _=>(ib T o).goL ts ms fun r s m=>CH r fun r=>K r s m
 |_=>(ib T o).goL ts ms K
def kB(n:Fx)(o:Oper)(r:cZ)(ts:Ts)(ms:Ms)(K:Ts→Ms→Prop):Prop:=match r with
 |(v,l)=>vm l ms fun ms=>match o.dst with
  |none=>K ts ms
  |some d=>okK (Nat.blt d n.n) (fc v fun v=>K ((d,v)::ts) ms)
def oU(n:Fx)(o:Oper)(res:AV)(ts:Ts)(ms:Ms)(K:Ts→Ms→Prop):Prop:=match o.dst with
 |none=>K ts ms
 |some d=>okK (fZ res)<|match gN (DR d 0) res with
  |(v,l)=>okK (l.all fun p=>fH (bV ms p.1))<|okK (Nat.blt d n.n)<|vm l ms fun ms=>fc v fun v=>K ((d,v)::ts) ms
inductive HandG(P:Program)(f:FuncId)(as os:List AV)(j:Nat)(rows:List (List AV))(z:List AV)(any:Bool)(K:MB→AV→Prop):Prop where
 |mk (lvl':Nat) (z':List AV) (rows':List (List AV)) (res:AV) (h:Con P f as (os.set j (.own lvl' z' rows')) res) (h1:rows'.length=rows.length) (h2:(Nat.beq z'.length z.length&&Nat.ble lvl' 1)=true)
   (h3:(!any||(res.nr&&lvl'==0))=true) (k:K (.live ⟨true,lvl',z',rows'⟩) res):HandG P f as os j rows z any K
def AH(P:Program)(n:Fx)(o:Oper)(ts:Ts)(ms:Ms)(K:Ts→Ms→Prop)(f:FuncId)(as:List AV)(j:Nat):Prop:=match as[j]? with
 |some x=>match x with
  | .ref b off m=>match off with
   |0=>match bV ms b with
    | .live ⟨arr,lvl,z,rows⟩=>match arr with
     |true=>okK (Nat.ble lvl 1)<|RqS (decide (m=rows.length))<|(dT (as.set j .undef)).go ts ((b,.dead)::ms) fun ys=>lD DL (ys.set j (.own lvl z rows)) fun ys'=>
       HandG P f ys' (aa as) j rows z ((as.set j .undef).any AV.hasRef) fun m' res=>Ik m' fun m'=>oU n o res ts ((b,m')::ms) K
     |false=>False
    |_=>False
   |_=>False
  |_=>False
 |none=>False
abbrev Gv:=List (Option (Nat × Nat × List AV × List (List AV)))
def wE:Gv→List Nat
 |[]=>[]
 |some (b,_)::l=>b::wE l
 |none::l=>wE l
def rO:Gv→List AV→List AV
 |none::l,x::cs=>x::rO l cs
 |some (_,lvl,z,rows)::l,_::cs=>.own lvl z rows::rO l cs
 |_,_=>[]
def te:Gv→List AV→Prop
 |[],[]=>True
 |none::l,o::os=>o=.undef∧te l os
 |some (_,_,z,rows)::l,o::os=>(match o with
  | .own _ z' rows'=>rows'.length=rows.length∧z'.length=z.length
  |_=>False)∧te l os
 |_,_=>False
def F7:Gv→List AV→List (Nat × MB)
 |none::l,_::os=>F7 l os
 |some (b,_)::l,.own lvl' z' rows'::os=>(b,.live ⟨true,lvl',z',rows'⟩)::F7 l os
 |_,_=>[]
def FZ(ms:Ms):List AV→(Gv→Prop)→Prop
 |[],K=>K []
 |x::cs,K=>match x with
  | .ref b off n=>match off with
   |0=>match bV ms b with
    | .live ⟨arr,lvl,z,rows⟩=>match arr with
     |true=>okK (Nat.ble lvl 1)<|RqS (decide (n=rows.length))<|FZ ms cs fun l=>okK (!(wE l).contains b) (K (some (b,lvl,z,rows)::l))
     |false=>False
    |_=>False
   |_=>False
  |x=>okK x.goes (FZ ms cs fun l=>K (none::l))
inductive HandAG(P:Program)(f:FuncId)(gv:Gv)(args ys os:List AV)(K:List AV→AV→Prop):Prop where
 |mk (os':List AV) (res:AV) (h:Con P f (.agg args::ys) (.agg os'::os) res) (h1:te gv os') (k:K os' res):HandAG P f gv args ys os K
def wH(P:Program)(n:Fx)(o:Oper)(ts:Ts)(ms:Ms)(K:Ts→Ms→Prop)(f:FuncId)(as:List AV):Prop:=match as with
 | .agg cs::rest=>lD uE cs fun cs=>okK (!(rest.any AV.hasRef))<|(dT rest).go [] [] fun ys=>lD DL ys fun ys=>FZ ms cs fun gv=>lD F0 (rO gv cs) fun args=>
   HandAG P f gv args ys (aa rest) fun os' res=>vm (F7 gv os') ms fun ms=>oU n o res ts ms K
 |_=>False
inductive CallX(f:FuncId)(L:Prop)(H:Nat→Prop)(A:Prop):Prop where
 |lend (h:L):CallX f L H A
 |hand (j:Nat) (h:H j):CallX f L H A
 |handA (h:A):CallX f L H A
def xR(P:Program)(n:Fx)(o:Oper)(ts:Ts)(ms:Ms)(K:Ts→Ms→Prop)(q:AV × List AV × List AV):Prop:=match q with
 |(fv,as,ys)=>match fv with
  | .fn f caps=>match caps with
   |[]=>CallX f (lD DL ys fun ys=>match as.any AV.hasRef with
    |false=>CallG P f ys fun res=>oU n o res ts ms K
    |true=>CallG P f ys fun res=>match res.nr with
     |true=>oU n o res ts ms K
     |false=>vm (jz as) ms fun ms=>oU n o res ts ms K) (AH P n o ts ms K f as) (wH P n o ts ms K f as)
   |_=>False
  |_=>False
def sD(x:AV)(ms:Ms)(K:AV→Ms→Prop):Prop:=match x with
 | .ref b off n=>match bV ms b with
  | .live ⟨arr,lvl,z,rows⟩=>match arr with
   |true=>okK (Nat.ble lvl 1) (K (.own lvl z (am rows off n)) ((b,.dead)::ms))
   |false=>False
  |_=>False
 |v=>okK v.goes (K v ms)
def iT:List AV→Ms→(List AV→Ms→Prop)→Prop
 |[],ms,K=>K [] ms
 |x::l,ms,K=>sD x ms fun y ms=>iT l ms fun ys ms=>K (y::ys) ms
def AB(x:AV)(n:Nat)(ms:Ms)(K:AV→Ms→Prop):Prop:=match x with
 | .ptr b i j=>match i with
  |0=>match bV ms b with
   | .live ⟨arr,lvl,z,rows⟩=>match arr with
    |false=>match rows with
     |[row]=>lD uE ((row.drop j).take n) fun cs=>okK (Nat.ble (j+n) row.length&&cs.all fun c=>c.light&& !c.isUndef)<|
       vm [(b,.live ⟨false,lvl,z,[setCells row j (List.replicate n .undef)]⟩)] ms fun ms=>
       iT cs ms fun ys ms=>okK (ys.all fun c=> !c.isUndef) (K (.obj ys) ms)
     |_=>False
    |true=>False
   |_=>False
  |_=>False
 |_=>False
def sN:List (Option Nat)→List AV→Ms→(List AV→Ms→Prop)→Prop
 |[],[],ms,K=>K [] ms
 |none::fs,_::as,ms,K=>sN fs as ms fun l ms=>K (.undef::l) ms
 |some n::fs,x::as,ms,K=>AB x n ms fun y ms=>sN fs as ms fun l ms=>K (y::l) ms
 |_,_,_,_=>False
def G4(v:AV)(K:AV→Prop):Prop:=match v with
 | .obj cs=>lD uE cs fun cs=>K (.obj cs)
 |v=>K v
def AC(x o:AV)(b0:Nat)(ms:Ms)(K:Ms→Prop):Prop:=match x with
 | .ptr b _ j=>match o with
  | .obj cs=>match bV ms b with
   | .live ⟨arr,lvl,z,rows⟩=>match arr with
    |false=>match rows with
     |[row]=>okK (cs.all cC&&Nat.ble (j+cs.length) row.length&&((row.drop j).take cs.length).all AV.isUndef)<|
      match aC b0 cs with
      |(vs,l)=>okK (l.all fun p=>fH (bV ms p.1))<|vm l ms fun ms=>vm [(b,.live ⟨false,lvl,z,[setCells row j vs]⟩)] ms K
     |_=>False
    |true=>False
   |_=>False
  |_=>False
 |_=>False
def qM:List (Option Nat)→List AV→List AV→Nat→Ms→(Ms→Prop)→Prop
 |[],[],[],_,ms,K=>K ms
 |none::fs,_::as,o::os,b0,ms,K=>match o with
  | .undef=>qM fs as os b0 ms K
  |_=>False
 |some _::fs,x::as,o::os,b0,ms,K=>AC x o b0 ms fun ms=>qM fs as os (Nat.add b0 100) ms K
 |_,_,_,_,_,_=>False
def pI:Ms→Nat→Nat
 |[],n=>n
 |p::l,n=>match Nat.ble n p.1 with
  |true=>match Nat.ble 500000 p.1 with
   |true=>pI l n
   |false=>pI l (p.1+1)
  |false=>pI l n
def xe(n:Nat)(K:Nat→Prop):Prop:=List.rec (motive:=fun _=>Prop) (K n) (fun b _ ih=>match Nat.ble n b with|true=>K b|false=>ih) [100000,100300,100600,100900,101200,101500,101800,102100,102400,102700,103000,103300,103600,103900,104200]
inductive CallPG(P:Program)(f:FuncId)(as:List AV)(K:List AV→AV→Prop):Prop where
 |mk (as' os:List AV) (res:AV) (e:as=as') (h:Con P f as' os res) (k:K os res):CallPG P f as K
inductive HandPX(f:FuncId)(H:List (Option Nat)→Prop):Prop where
 |mk (fs:List (Option Nat)) (h:H fs):HandPX f H
def AK(as:List AV)(fv:AV):Bool:=as.any (fun v=>match v with| .ptr _ _ _=>true| .rp _ _=>true| .fn _ (_::_)=>true|_=>false)||(match fv with| .fn _ (_::_)=>true|_=>false)
def sF(P:Program)(n:Fx)(o:Oper)(ts:Ts)(ms:Ms)(K:Ts→Ms→Prop)(fv:AV)(as:List AV):Prop:=match fv with
 | .fn f caps=>lD fc (as++caps) fun as=>HandPX f fun fs=>lD fc (eD fs as) fun rs=>sN fs as ms fun gs ms=>(oy rs).go ts ms fun ys=>lD fc (vY fs gs ys) fun xs=>
   CallPG P f xs fun os res=>okK (!(rs.any AV.leads)||(res.nr&&os.all AV.nrO))<|lD G4 os fun os=>xe (pI ms 100000) fun b0=>qM fs as os b0 ms fun ms=>oU n o res ts ms K
 |_=>False
structure NilG(n:Nat)(K:Bool→Prop):Prop where
 k: ∀b:Bool,(b=true→n=0)→K b
def FN(T:TT)(n:Fx)(o:Oper)(op:BinOp)(t:TypeId)(x:Operand)(ts:Ts)(ms:Ms)(K:Ts→Ms→Prop):Prop:=okK (qw T t)<|(cG x).go ts ms fun v=>match Dy v with
 |some m=>match o.dst with
  |some d=>okK (Nat.blt d n.n)<|match op with
   | .eql=>NilG m fun b=>K ((d,.bool b)::ts) ms
   | .neq=>NilG m fun b=>K ((d,.bool (!b))::ts) ms
   |_=>False
  |none=>False
 |none=>False
def H8(P:Program)(T:TT)(n:Fx)(o:Oper)(ts:Ts)(ms:Ms)(K:Ts→Ms→Prop):Prop:=match o.op with
 | .call c=>match c.callee with
  | .value f=>(cG f).go ts ms fun fv=>(fY c.args.toList).go ts ms fun as=>match AK as fv with
   |true=>sF P n o ts ms K fv as
   |false=>(qA c f).go ts ms (xR P n o ts ms K)
  |_=>F5 T o ts ms fun r=>kB n o r ts ms K
 | .binOp op t x y _=>match tI y with
  |true=>FN T n o op t x ts ms K
  |false=>F5 T o ts ms fun r=>kB n o r ts ms K
 |_=>F5 T o ts ms fun r=>kB n o r ts ms K
def zE(n:Fx)(o:Oper)(ts:Ts)(ms:Ms)(K:Ts→Ms→Prop):Prop:=match o.dst with
 |none=>K ts ms
 |some d=>okK (Nat.blt d n.n) (K ((d,.tup [])::ts) ms)
def Az(d:Nat)(want:Bool)(v:AV)(ts:Ts)(X:Ts→Prop)(Y:Ts→Prop):Prop:=match v with
 | .bool b=>match want with
  |true=>BrS b (X ((d,.bool true)::ts)) (Y ((d,.bool false)::ts))
  |false=>BrS b (Y ((d,.bool true)::ts)) (X ((d,.bool false)::ts))
 | .tup vs=>match vs with
  |[]=>Y ts
  |_=>False
 |_=>False
def Ad:List (Nat × List Nat)→Nat→Option (List Nat)
 |[],_=>none
 |p::l,k=>match Nat.beq k p.1 with
  |true=>some p.2
  |false=>Ad l k
def lu(k:Nat)(ts:Ts)(ms:Ms)(K:Ts→Ms→Prop):Prop:=match cT ts k with
 | .ref b off len=>match bV ms b with
  | .live ⟨arr,lvl,z,rows⟩=>match arr with
   |true=>okK (Nat.ble lvl 1) (K ((k,.ro z (am rows off len))::ts) ((b,.dead)::ms))
   |false=>False
  |_=>False
 |_=>False
def uJ:List Nat→Ts→Ms→(Ts→Ms→Prop)→Prop
 |[],ts,ms,K=>K ts ms
 |k::l,ts,ms,K=>match cT ts k with
  | .ref b off len=>match bV ms b with
   | .live ⟨arr,lvl,z,rows⟩=>match arr with
    |true=>okK (Nat.ble lvl 1) (RowsG (am rows off len) fun rows=>uJ l ((k,.ro z rows)::ts) ((b,.dead)::ms) K)
    |false=>False
   |_=>False
  |_=>uJ l ts ms K
def rG(n:Fx)(o:Oper)(ts:Ts)(ms:Ms)(K:Ts→Ms→Prop):Prop:=match n.kp with
 |[]=>K ts ms
 |kp=>match o.dst with
  |some d=>match Ad kp (Nat.add 1000000 d)with
   |some ks=>uJ ks ts ms K
   |none=>K ts ms
  |none=>K ts ms
def vy(P:Program)(T:TT)(n:Fx)(ops:List Oper):List Oper→Ts→Ms→(Ts→Ms→Prop)→Prop
 |[],ts,ms,K=>K ts ms
 |o::rest,ts,ms,K=>match jm ops o with
  |some none=>H8 P T n o ts ms fun ts ms=>rG n o ts ms fun ts ms=>vy P T n ops rest ts ms K
  |some (some (d,want))=>Az d want (cT ts d) ts (fun ts=>H8 P T n o ts ms fun ts ms=>rG n o ts ms fun ts ms=>vy P T n ops rest ts ms K) fun ts=>zE n o ts ms fun ts ms=>rG n o ts ms fun ts ms=>vy P T n ops rest ts ms K
  |none=>False
def Aa(P:Program)(o:Oper)(ms:Ms)(K:cZ→List Nat→List Nat→Prop)(q:AV × List AV × List AV)(s m:List Nat):Prop:=match q with
 |(fv,as,ys)=>match fv with
  | .fn f caps=>match caps with
   |[]=>lD DL ys fun ys=>CallG P f ys fun res=>okK (match o.dst with|none=>true|some _=>fZ res)<|
     match bL o res with
     |(v,l)=>okK (l.all fun p=>fH (bV ms p.1))<|match !(as.any AV.hasRef)||res.nr with
      |true=>K (v,l) s (m++l.map (·.1))
      |false=>okK (hN (hC as) (l.map (·.1))) (K (v,jz as++l) s (m++l.map (·.1)))
   |_=>False
  |_=>False
def sY(x:AV)(ms:Ms)(K:AV→Ms→Wr→Prop):Prop:=match x with
 | .ref b off n=>match bV ms b with
  | .live ⟨arr,lvl,z,rows⟩=>match arr with
   |true=>okK (Nat.ble lvl 1) (K (.own lvl z (am rows off n)) ((b,.dead)::ms) [(b,.dead)])
   |false=>False
  |_=>False
 |v=>okK v.goes (K v ms [])
def ov:List AV→Ms→(List AV→Ms→Wr→List Nat→Prop)→Prop
 |[],ms,K=>K [] ms [] []
 |x::l,ms,K=>sY x ms fun y ms W=>ov l ms fun ys ms W' L'=>K (y::ys) ms (W++W') (x.refs0++L')
def BD(x:AV)(n:Nat)(ms:Ms)(K:AV→Ms→Wr→List Nat→Prop):Prop:=match x with
 | .ptr b i j=>match i with
  |0=>match bV ms b with
   | .live ⟨arr,lvl,z,rows⟩=>match arr with
    |false=>match rows with
     |[row]=>lD uE ((row.drop j).take n) fun cs=>okK (Nat.ble (j+n) row.length&&cs.all fun c=>c.light&& !c.isUndef)<|
       vm [(b,.live ⟨false,lvl,z,[setCells row j (List.replicate n .undef)]⟩)] ms fun ms=>
       ov cs ms fun ys ms W L=>okK (ys.all fun c=> !c.isUndef) (K (.obj ys) ms ((b,.live ⟨false,lvl,z,[setCells row j (List.replicate n .undef)]⟩)::W) (b::L))
     |_=>False
    |true=>False
   |_=>False
  |_=>False
 |_=>False
def sQ:List (Option Nat)→List AV→Ms→(List AV→Ms→Wr→List Nat→Prop)→Prop
 |[],[],ms,K=>K [] ms [] []
 |none::fs,_::as,ms,K=>sQ fs as ms fun l ms W L=>K (.undef::l) ms W L
 |some n::fs,x::as,ms,K=>BD x n ms fun y ms W L=>sQ fs as ms fun l ms W' L'=>K (y::l) ms (W++W') (L++L')
 |_,_,_,_=>False
def Al(x o:AV)(b0:Nat)(ms:Ms)(K:Ms→Wr→List Nat→Prop):Prop:=match x with
 | .ptr b _ j=>match o with
  | .obj cs=>match bV ms b with
   | .live ⟨arr,lvl,z,rows⟩=>match arr with
    |false=>match rows with
     |[row]=>okK (cs.all cC&&Nat.ble (j+cs.length) row.length&&((row.drop j).take cs.length).all AV.isUndef)<|
      match aC b0 cs with
      |(vs,l)=>okK (l.all fun p=>fH (bV ms p.1))<|vm l ms fun ms=>vm [(b,.live ⟨false,lvl,z,[setCells row j vs]⟩)] ms fun ms=>
       K ms (l++[(b,.live ⟨false,lvl,z,[setCells row j vs]⟩)]) (b::l.map (·.1))
     |_=>False
    |true=>False
   |_=>False
  |_=>False
 |_=>False
def qL:List (Option Nat)→List AV→List AV→Nat→Ms→(Ms→Wr→List Nat→Prop)→Prop
 |[],[],[],_,ms,K=>K ms [] []
 |none::fs,_::as,o::os,b0,ms,K=>match o with
  | .undef=>qL fs as os b0 ms K
  |_=>False
 |some _::fs,x::as,o::os,b0,ms,K=>Al x o b0 ms fun ms W L=>qL fs as os (Nat.add b0 100) ms fun ms W' L'=>K ms (W++W') (L++L')
 |_,_,_,_,_,_=>False
def wW(P:Program)(n:Fx)(o:Oper)(ts:Ts)(ms:Ms)(K:cZ→List Nat→List Nat→Prop)(fv:AV)(as:List AV)(s1 m1 s2 m2:List Nat):Prop:=match fv with
 | .fn f caps=>okK (match o.dst with|none=>true|some d=>Nat.blt d n.n)<|lD fc (as++caps) fun as=>HandPX f fun fs=>lD fc (eD fs as) fun rs=>sQ fs as ms fun gs ms1 W1 L1=>(oy rs).goL ts ms1 fun ys s3 m3=>lD fc (vY fs gs ys) fun xs=>
   CallPG P f xs fun os res=>okK (!(rs.any AV.leads)||(res.nr&&os.all AV.nrO))<|lD G4 os fun os=>xe (pI ms1 100000) fun b0=>qL fs as os b0 ms1 fun ms2 W2 L2=>
   okK (match o.dst with|none=>true|some _=>fZ res)<|match bL o res with
   |(v,l)=>okK (l.all fun p=>fH (bV ms2 p.1)) (K (v,W1++(W2++l)) (s1++(s2++s3)) (m1++(m2++(L1++(m3++(L2++l.map (·.1)))))))
 |_=>False
def Cq(P:Program)(T:TT)(n:Fx)(o:Oper)(ts:Ts)(ms:Ms)(K:cZ→List Nat→List Nat→Prop):Prop:=match o.op with
 | .call c=>match c.callee with
  | .value f=>(cG f).goL ts ms fun fv s1 m1=>(fY c.args.toList).goL ts ms fun as s2 m2=>match AK as fv with
   |true=>wW P n o ts ms K fv as s1 m1 s2 m2
   |false=>(qA c f).goL ts ms (Aa P o ms K)
  |_=>CR T o ts ms K
 |_=>CR T o ts ms K
def wZ(d:Nat)(want:Bool)(v:AV)(X:(cZ→List Nat→List Nat→Prop)→Prop)(K:cZ→List Nat→List Nat→Prop):Prop:=match v with
 | .bool b=>match want with
  |true=>BrS b (X fun r s m=>K r (d::s) m) (K (.tup [],[]) [d] [])
  |false=>BrS b (K (.tup [],[]) [d] []) (X fun r s m=>K r (d::s) m)
 | .tup vs=>match vs with
  |[]=>K (.tup [],[]) [d] []
  |_=>False
 |_=>False
abbrev Sm:=Nat × List Nat × List Nat × List Nat × List Nat
def Item.sm(y:Item):Sm:=(y.i,y.ws,y.rs,y.rm,y.wm)
def G1:List Nat→Nat→Bool
 |[],_=>false
 |x::l,b=>match Nat.beq b x with
  |true=>true
  |false=>G1 l b
def jr:List Nat→List Nat→Bool
 |[],_=>true
 |x::l,l'=>match G1 l' x with
  |true=>false
  |false=>jr l l'
def wz:Sm→Sm→Bool
 |(_,ws,rs,rm,wm),(_,ws',rs',rm',wm')=>jr ws rs'&&jr ws' rs&&jr ws ws'&&jr wm rm'&&jr wm' rm&&jr wm wm'
def uj(c:List Nat)(x:Sm):List Sm→Bool
 |[]=>true
 |y::l=>(G1 c y.1||wz y x)&&uj c x l
def Ai:List Nat→(List Nat→Prop)→Prop
 |[],K=>K []
 |x::l,K=>Ai l fun l=>K (x::l)
def Co:List (List Nat)→(List (List Nat)→Prop)→Prop
 |[],K=>K []
 |x::l,K=>Ai x fun x=>Co l fun l=>K (x::l)
def yP:List (List Nat)→List Nat × List (List Nat)
 |[]=>([],[])
 |x::l=>(x,l)
def uB(P:Program)(T:TT)(n:Fx)(ops:List Oper):List (List Nat)→List Sm→Nat→List Oper→Ts→Ms→(Ts→Ms→Prop)→Prop
 |_,_,_,[],ts,ms,K=>K ts ms
 |cl,past,i,o::rest,ts,ms,K=>
  let F:cZ→List Nat→List Nat→Prop:=fun r s m=>Ai s fun s=>Ai m fun m=>Ai o.dst.toList fun ws=>Ai (r.2.map (·.1)) fun wm=>
   ChkS (uj (yP cl).1 (i,ws,s,m,wm) past) (kB n o r ts ms fun ts ms=>uB P T n ops (yP cl).2 ((i,ws,s,m,wm)::past) (Nat.add i 1) rest ts ms K)
  match jm ops o with
  |some none=>Cq P T n o ts ms F
  |some (some (d,want))=>wZ d want (cT ts d) (Cq P T n o ts ms) F
  |none=>False
def QL(n:Fx)(Q:Ex→Ts→Ms→Prop)(e:Ex)(st:St):Prop:= ∃ts ms,st=St.ls n ts ms∧Q e ts ms
def DX(c:Operand)(b:Bool)(ts:Ts):Ts:=match c with
 | .tmp k=>(k,.bool b)::ts
 |_=>ts
def AQ(c:Operand)(b:Bool)(ts:Ts)(K:Ts→Prop):Prop:=match c with
 | .tmp k=>K ((k,.bool b)::ts)
 |_=>K ts
def JU(X:Ts→Ms→Prop)(Q:Ex→Ts→Ms→Prop):Ex→Ts→Ms→Prop
 | .normal,ts,ms=>X ts ms
 | .exit i,ts,ms=>Q (.exit i) ts ms
 | .ret,ts,ms=>Q .ret ts ms
def A6(id:Nat)(Q:Ex→Ts→Ms→Prop):Ex→Ts→Ms→Prop
 | .normal,ts,ms=>Q .normal ts ms
 | .exit i,ts,ms=>match Nat.beq i id with
  |true=>Q .normal ts ms
  |false=>Q (.exit i) ts ms
 | .ret,ts,ms=>Q .ret ts ms
def C7(v:AV)(ms:Ms)(X:Prop):Prop:=match v with
 | .int k n=>FacG (fun d=>AV.facts d (.int k n)) X
 | .str s=>FacG (fun d=>AV.facts d (.str s)) X
 | .ro z rows=>FacG (fun d=>AV.facts d (.ro z rows)) X
 | .ref b _ _=>match bV ms b with
  | .live ⟨true,lvl,z,rows⟩=>FacG (fun d=>MB.facts d (.live ⟨true,lvl,z,rows⟩)) X
  |_=>X
 |_=>X
def Cz:List AV→Ms→Prop→Prop
 |[],ms,X=>X
 |x::l,ms,X=>C7 x ms (Cz l ms X)
def EM(v:AV)(ms:Ms)(X:Prop):Prop:=match v with
 | .agg cs=>Cz cs ms X
 | .tup cs=>Cz cs ms X
 |v=>C7 v ms X
def xP(o:Oper)(ts:Ts)(ms:Ms)(X:Prop):Prop:=match o.op with
 | .call c=>match c.callee with
  | .value _=>match o.dst with
   |some d=>EM (cT ts d) ms X
   |none=>X
  |_=>X
 |_=>X
def wt:List Oper→Ts→Ms→Prop→Prop
 |[],ts,ms,X=>X
 |o::l,ts,ms,X=>xP o ts ms (wt l ts ms X)
def AF(ks:List Nat)(ts:Ts):(Ts→Prop)→Prop:=
 List.rec (motive:=fun _=>(Ts→Prop)→Prop) (fun K=>K []) (fun k _ ih K=>fc (cT ts k) fun v=>ih fun l=>K ((k,v)::l)) ks
def qu:List (Nat × Nat)→Nat→(Nat→Prop)→Prop
 |[],b,K=>K b
 |(a,o)::l,b,K=>match Nat.beq b o with
  |true=>K a
  |false=>qu l b K
def zy(bs:List (Nat × Nat))(v:AV)(K:AV→Prop):Prop:=match v with
 | .ref b o n=>qu bs b fun b=>K (.ref b o n)
 | .ptr b i j=>qu bs b fun b=>K (.ptr b i j)
 |v=>K v
def qP(F:AV→(AV→Prop)→Prop):List AV→(List AV→Prop)→Prop
 |[],K=>K []
 |x::l,K=>F x fun x=>qP F l fun l=>K (x::l)
def oM(bs:List (Nat × Nat))(v:AV)(K:AV→Prop):Prop:=match v with
 | .fn g caps=>qP (zy bs) caps fun caps=>K (.fn g caps)
 | .ref b o n=>qu bs b fun b=>K (.ref b o n)
 | .ptr b i j=>qu bs b fun b=>K (.ptr b i j)
 |v=>K v
def wX(bs:List (Nat × Nat))(v:AV)(K:AV→Prop):Prop:=match v with
 | .agg cs=>qP (oM bs) cs fun cs=>K (.agg cs)
 | .tup cs=>qP (oM bs) cs fun cs=>K (.tup cs)
 |v=>oM bs v K
def xS(bs:List (Nat × Nat)):List (List AV)→(List (List AV)→Prop)→Prop
 |[],K=>K []
 |x::l,K=>qP (oM bs) x fun x=>xS bs l fun l=>K (x::l)
def zP(bs:List (Nat × Nat))(m:MB)(K:MB→Prop):Prop:=match m with
 | .live ⟨arr,lvl,z,rows⟩=>match arr with
  |true=>K (.live ⟨true,lvl,z,rows⟩)
  |false=>xS bs rows fun rows=>K (.live ⟨false,lvl,z,rows⟩)
 |m=>K m
def qk(bs:List (Nat × Nat))(ts:Ts):List Nat→(Ts→Prop)→Prop
 |[],K=>K []
 |k::ks,K=>fc (cT ts k) fun v=>wX bs v fun v=>qk bs ts ks fun l=>K ((k,v)::l)
def oK(bs:List (Nat × Nat))(ms:Ms):List (Nat × Nat)→(Ms→Prop)→Prop
 |[],K=>K []
 |(a,o)::l,K=>Ik (bV ms o) fun m=>zP bs m fun m=>oK bs ms l fun l=>K ((a,m)::l)
def wS(n:Fx)(ks:List Nat)(bs:List (Nat × Nat))(ts:Ts)(ms:Ms)(K:Ts→Ms→Prop):Prop:=
 okK (fL (St.ls n ts ms) ks bs) (qk bs ts ks fun ts'=>oK bs ms bs fun ms'=>K ts' ms')
def Aq(n:Fx)(ks:List Nat)(bs:List (Nat × Nat))(ts:Ts)(ms:Ms)(K:Ts→Ms→Prop):Prop:=
 ChkS (fL (St.ls n ts ms) ks bs) (qk bs ts ks fun ts'=>oK bs ms bs fun ms'=>K ts' ms')
def Ez:List (Nat × Nat)→Nat→Bool
 |[],_=>false
 |p::l,b=>match Nat.beq p.2 b with
  |true=>true
  |false=>Ez l b
def DT:List Nat→Nat→Bool
 |[],_=>false
 |x::l,b=>match Nat.beq x b with
  |true=>true
  |false=>DT l b
def zO:List Nat:=[1,2,3,4,5,6,7,8,9,10,11,12,13,14,15,16,17,18,19,20,21,22,23,24,25,26,27,28,29,30,31,32,33,34,35,36,37,38,39,40,41,42,43,44,45,46,47,48,49,50,51,52,53,54,55,56,57,58,59,60]
abbrev KB:=List Nat→List (Nat × Nat)→Prop
def nw(an:List Nat)(nm:List Nat)(bs:List (Nat × Nat))(b:Nat)(K:KB):Prop:=match Ez bs b with
 |true=>K nm bs
 |false=>match nm with
  |[]=>False
  |m::nm=>match DT an b with
   |true=>K nm ((b,b)::bs)
   |false=>K nm ((m,b)::bs)
def xU(an:List Nat)(nm:List Nat)(bs:List (Nat × Nat))(v:AV)(K:KB):Prop:=match v with
 | .ref b _ _=>nw an nm bs b K
 | .ptr b _ _=>nw an nm bs b K
 |_=>K nm bs
def pV(F:List Nat→List (Nat × Nat)→AV→KB→Prop):List AV→List Nat→List (Nat × Nat)→KB→Prop
 |[],nm,bs,K=>K nm bs
 |x::l,nm,bs,K=>F nm bs x fun nm bs=>pV F l nm bs K
def pB(an:List Nat)(ms:Ms)(nm:List Nat)(bs:List (Nat × Nat))(v:AV)(K:KB):Prop:=match v with
 | .ref b _ _=>nw an nm bs b K
 | .ptr b i j=>match Ez bs b with
  |true=>K nm bs
  |false=>match bV ms b with
   | .live ⟨arr,_,_,rows⟩=>match arr with
    |true=>nw an nm bs b K
    |false=>match rows with
     |[row]=>nw an nm bs b fun nm bs=>pV (xU an) row nm bs K
     |_=>nw an nm bs b K
   |_=>nw an nm bs b K
 | .fn _ caps=>pV (xU an) caps nm bs K
 |_=>K nm bs
def AP(an:List Nat)(ms:Ms)(nm:List Nat)(bs:List (Nat × Nat))(v:AV)(K:KB):Prop:=match v with
 | .agg cs=>pV (pB an ms) cs nm bs K
 | .tup cs=>pV (pB an ms) cs nm bs K
 | .fn _ caps=>pV (pB an ms) caps nm bs K
 |v=>pB an ms nm bs v K
def wY(an:List Nat)(ms:Ms):List Nat→List Nat→List (Nat × Nat)→KB→Prop
 |[],nm,bs,K=>K nm bs
 |b::l,nm,bs,K=>pB an ms nm bs (.ptr b 0 0) fun nm bs=>wY an ms l nm bs K
def xd(an:List Nat)(ts:Ts)(ms:Ms):List Nat→List Nat→List (Nat × Nat)→KB→Prop
 |[],nm,bs,K=>K nm bs
 |k::l,nm,bs,K=>AP an ms nm bs (cT ts k) fun nm bs=>xd an ts ms l nm bs K
def Ig:List (Nat × Nat)→(List (Nat × Nat)→Prop)→Prop
 |[],K=>K []
 |(a,b)::l,K=>Ig l fun l=>K ((a,b)::l)
def wg(n:Fx)(ks:List Nat)(ts:Ts)(ms:Ms)(K:Ts→Ms→Prop):Prop:=
 wY n.an ms n.an zO [] fun nm bs=>xd n.an ts ms ks nm bs fun _ bs=>Ig bs.reverse fun bs=>Aq n ks bs ts ms K
def Kx(n:Fx)(ks:List Nat)(ts:Ts)(ms:Ms)(K:Ts→Ms→Prop):Prop:=
 wY n.an ms n.an zO [] fun nm bs=>xd n.an ts ms ks nm bs fun _ bs=>Ig bs.reverse fun bs=>ChkS (fL (St.ls n ts ms) ks bs) (qk bs ts ks fun ts'=>oK bs ms bs fun ms'=>K ts' ms')
def DM(n:Fx)(ks:List Nat)(ts:Ts)(ms:Ms)(K:Ts→Ms→Prop):Prop:=match ks with
 |[]=>K [] ms
 |k::l=>match Nat.beq k 999999 with
  |true=>Kx n l ts ms K
  |false=>match Nat.beq k 888888 with
   |true=>uJ l ts ms K
   |false=>AF (k::l) ts fun ts=>K ts ms
def Ah(n:Fx)(a:Code)(ts:Ts)(ms:Ms)(K:Ts→Ms→Prop):Prop:=match a with
 | .region id _ _=>match Ad n.kp id with
  |some ks=>DM n ks ts ms K
  |none=>K ts ms
 |_=>K ts ms
def ev(P:Program)(T:TT)(n:Fx):Code→(Ex→Ts→Ms→Prop)→Ts→Ms→Prop
 | .skip,Q,ts,ms=>Q .normal ts ms
 | .label _,Q,ts,ms=>Q .normal ts ms
 | .ret,Q,ts,ms=>Q .ret ts ms
 | .exit id,Q,ts,ms=>Q (.exit id) ts ms
 | .seq a b,Q,ts,ms=>ev P T n a (JU (fun ts ms=>Ah n a ts ms fun ts ms=>ev P T n b Q ts ms) Q) ts ms
 | .block id c,Q,ts,ms=>ev P T n c (A6 id Q) ts ms
 | .cond c x y,Q,ts,ms=>(cG c).go ts ms fun v=>match v with
  | .bool b=>BrS b (AQ c true ts fun ts=>ev P T n x Q ts ms) (AQ c false ts fun ts=>ev P T n y Q ts ms)
  |_=>False
 | .region _ ops draw,Q,ts,ms=>match draw with
  |false=>vy P T n ops.toList ops.toList ts ms fun ts ms=>wt ops.toList ts ms (Q .normal ts ms)
  |true=>ChkS (nA ops.toList (Hw ops.toList)) (Co (Hw ops.toList) fun cl=>uB P T n ops.toList cl [] 0 ops.toList ts ms fun ts ms=>wt ops.toList ts ms (Q .normal ts ms))
 | .loop c,Q,ts,ms=>LoopG P c (QL n Q) (St.ls n ts ms)
 |_,_,_,_=>False
def nn(x:AV)(ts:Ts)(ms:Ms)(K:AV→Ms→Prop):Prop:=(di x).go ts ms fun p=>match p with
 |(y,l)=>vm l ms fun ms=>K y ms
def mj:List AV→Ts→Ms→(List AV→Ms→Prop)→Prop
 |[],ts,ms,K=>K [] ms
 |x::l,ts,ms,K=>nn x ts ms fun y ms=>mj l ts ms fun ys ms=>K (y::ys) ms
def lC(x:AV)(ts:Ts)(ms:Ms)(K:AV→Ms→Prop):Prop:=match x with
 | .agg cs=>mj cs ts ms fun ys ms=>K (.agg ys) ms
 | .ptr b i j=>match i with
  |0=>match j with
   |0=>match bV ms b with
    | .live ⟨arr,_,_,rows⟩=>match arr with
     |false=>match rows with
      |[row]=>okK (row.all fun c=>c.light&& !c.isUndef) (iT row ((b,.dead)::ms) fun ys ms=>okK (ys.all fun c=> !c.isUndef) (K (.obj ys) ms))
      |_=>False
     |true=>False
    |_=>False
   |_=>False
  |_=>False
 |v=>nn v ts ms K
def kn:List AV→Ts→Ms→(List AV→Ms→Prop)→Prop
 |[],ts,ms,K=>K [] ms
 |x::l,ts,ms,K=>lC x ts ms fun y ms=>kn l ts ms fun ys ms=>K (y::ys) ms
def FL(T:TT)(rs:List ResultVar)(res:AV)(ts:Ts)(ms:Ms):Prop:=(ma T rs).go ts ms fun xs=>match xs with
 |[x]=>lC x ts ms fun y _=>fg y fun y=>ShG y res
 |xs=>kn xs ts ms fun ys _=>fg (.tup ys) fun y=>ShG y res
def tJ(T:TT)(rs:List ResultVar)(res:AV):Ex→Ts→Ms→Prop
 | .ret,ts,ms=>FL T rs res ts ms
 | .normal,ts,ms=>FL T rs res ts ms
 | .exit _,_,_=>False
def Bi:List Nat→List AV→(Ts→Prop)→Prop
 |_,[],K=>K []
 |k::ks,x::l,K=>fc x fun x=>Bi ks l fun ts=>K ((k,x)::ts)
 |[],_::_,_=>False
def xt:List Nat:=[0,1,2,3,4,5,6,7,8,9,10,11,12,13,14,15,16,17,18,19]
def iK(as:List AV)(K:Ts→Ms→Prop):Prop:=match bP e0 as with
 |(vs,l)=>Bi xt vs fun ts=>vm l [] fun ms=>K ts ms
structure AftG(x o y:AV)(n:Option Nat)(X:Prop):Prop where
 h1:x.rowsN=n
 h2:o=y
 k:X
def wa(ms:Ms):List (Option Nat)→List AV→List AV→Prop→Prop
 |[],[],[],X=>X
 |none::hs,_::as,o::os,X=>okK o.isUndef (wa ms hs as os X)
 |some b::hs,x::as,o::os,X=>okK (!(dY hs).contains b)<|match bV ms b with
  | .live ⟨arr,lvl,z,rows⟩=>match arr with
   |true=>AftG x o (.own lvl z rows) (some rows.length) (wa ms hs as os X)
   |false=>False
  |_=>False
 |_,_,_,_=>False
def zl(T:TT)(rs:List ResultVar)(res:AV)(hs:List (Option Nat))(as os:List AV)(ts:Ts)(ms:Ms):Prop:=(ma T rs).go ts ms fun xs=>match xs with
 |[x]=>lC x ts ms fun y ms=>fg y fun y=>wa ms hs as os (ShG y res)
 |xs=>kn xs ts ms fun ys ms=>fg (.tup ys) fun y=>wa ms hs as os (ShG y res)
def zN(T:TT)(rs:List ResultVar)(res:AV)(hs:List (Option Nat))(as os:List AV):Ex→Ts→Ms→Prop
 | .ret,ts,ms=>zl T rs res hs as os ts ms
 | .normal,ts,ms=>zl T rs res hs as os ts ms
 | .exit _,_,_=>False
def pp(as:List AV)(K:Ts→Ms→Prop):Prop:=match dI e0 as with
 |(vs,l)=>Bi xt vs fun ts=>vm l [] fun ms=>K ts ms
structure AftPG(x y:AV)(X:Prop):Prop where
 s:Sh x y
 k:X
def nk:Nat→List AV→List AV→Ms→Prop
 |_,[],[],_=>True
 |b,x::as,o::os,ms=>match x with
  | .obj _=>match o with
   | .obj cs=>match bV ms b with
    | .live ⟨arr,_,_,rows⟩=>match arr with
     |false=>match rows with
      |[row]=>okK (row.all (fun c=>c.light&& !c.isUndef)&&cs.all fun c=> !c.isUndef) (iT row ((b,.dead)::ms) fun ys ms=>lD F0 ys fun ys=>AftPG (.agg ys) (.agg cs) (nk (Nat.add b 100) as os ms))
      |_=>False
     |true=>False
    |_=>False
   |_=>False
  |_=>match o with
   | .undef=>nk (Nat.add b 100) as os ms
   |_=>False
 |_,_,_,_=>False
def Bf(T:TT)(rs:List ResultVar)(res:AV)(b:Nat)(as os:List AV)(ts:Ts)(ms:Ms):Prop:=(ma T rs).go ts ms fun xs=>match xs with
 |[x]=>lC x ts ms fun y ms=>fg y fun y=>AftPG y res (nk b as os ms)
 |xs=>kn xs ts ms fun ys ms=>fg (.tup ys) fun y=>AftPG y res (nk b as os ms)
def wG(T:TT)(rs:List ResultVar)(res:AV)(b:Nat)(as os:List AV):Ex→Ts→Ms→Prop
 | .ret,ts,ms=>Bf T rs res b as os ts ms
 | .normal,ts,ms=>Bf T rs res b as os ts ms
 | .exit _,_,_=>False
end Go.Abs
end

/- The abstract layer, 29: the quick walk is sound. -/
noncomputable section
namespace Go.Abs
open Go
section
variable{P:Program}{T:TT}{n:Fx}
theorem jf{a b:Nat}(h:Nat.beq a b=true):a=b:=Nat.eq_of_beq_eq_true h
theorem xH{a b:Nat}(h:Nat.beq a b=false):a≠b:=Nat.ne_of_beq_eq_false h
theorem bB{b:Bool}{X:Prop}(h:okK b X):b=true∧X:=by
 cases b
 ·exact h.elim
 ·exact⟨rfl,h⟩
theorem iI(ts:Ts)(ms:Ms)(d:Nat)(v:AV):(St.ls n ts ms).put (some d) v=St.ls n ((d,v)::ts) ms:=by
 simp only[St.put,St.ls,St.mk.injEq,true_and,and_true]
 funext k
 simp only[bb,cT]
 split
 ·rename_i h;subst h;simp
 ·rename_i h
  split
  ·rename_i h2;exact absurd (jf h2) h
  ·rfl
theorem jZ(ts:Ts)(ms:Ms)(b:Nat)(m:MB):{St.ls n ts ms with m:=bb (St.ls n ts ms).m b m}=St.ls n ts ((b,m)::ms):=by
 simp only[St.ls,St.mk.injEq,true_and,and_true]
 funext k
 simp only[bb,bV]
 split
 ·rename_i h;subst h;simp
 ·rename_i h
  split
  ·rename_i h2;exact absurd (jf h2) h
  ·rfl
theorem hS{v:AV}{K:AV→Prop}(h:uE v K):K v:=by cases v<;>exact h
theorem cL{F:AV→(AV→Prop)→Prop}(hF: ∀v K,F v K→K v): ∀{l:List AV}{K:List AV→Prop},lD F l K→K l
 |[],K,h=>h
 |x::l,K,h=>cL hF (l:=l) (hF _ _ h)
theorem gG{v:AV}{K:AV→Prop}(h:fc v K):K v:=by
 cases v<;>first|exact h|exact cL (fun _ _=>hS) h
theorem mZ{rows:List (List AV)}{K:List (List AV)→Prop}(h:RowsG rows K):K rows:=by
 obtain⟨r,rfl,h⟩:=h
 exact h
theorem tE{v:AV}{K:AV→Prop}(h:F0 v K):K v:=by
 unfold F0 at h
 split at h
 ·rename_i z rows
  exact mZ (K:=fun rows=>K (.ro z rows)) (cL (fun _ _=>hS) (K:=fun z=>RowsG rows fun rows=>K (.ro z rows)) h)
 ·rename_i lvl z rows
  exact mZ (K:=fun rows=>K (.own lvl z rows)) (cL (fun _ _=>hS) (K:=fun z=>RowsG rows fun rows=>K (.own lvl z rows)) h)
 ·exact gG h
theorem nT{v:AV}{K:AV→Prop}(h:DL v K):K v:=by
 unfold DL at h
 split at h
 ·exact cL (fun _ _=>tE) (K:=fun cs=>K (.agg cs)) h
 ·exact tE h
theorem rX{v:AV}{K:AV→Prop}(h:fg v K):K v:=by
 unfold fg at h
 split at h
 ·exact cL (fun _ _=>nT) (K:=fun cs=>K (.tup cs)) h
 ·exact nT h
theorem vG: ∀{l:List (List AV)}{K:List (List AV)→Prop},Gi l K→K l
 |[],K,h=>h
 |x::l,K,h=>vG (l:=l) (cL (fun _ _=>gG) h)
theorem xC{n:Nat}{K:Nat→Prop}(h:A0 n K):K n:=by
 unfold A0 at h
 split at h
 ·rename_i e;rw[jf e];exact h
 ·split at h
  ·rename_i e;rw[jf e];exact h
  ·exact h
theorem ta{m:MB}{K:MB→Prop}(h:Ik m K):K m:=by
 cases m with
 |abs=>exact h
 |dead=>exact h
 |live b=>
  obtain⟨arr,lvl,z,rows⟩:=b
  cases arr with
  |true=>
   have h:A0 lvl (fun lvl=>lD uE z fun z=>K (.live ⟨true,lvl,z,rows⟩)):=h
   exact cL (fun _ _=>hS) (K:=fun z=>K (.live ⟨true,lvl,z,rows⟩)) (xC h)
  |false=>
   have h:A0 lvl (fun lvl=>lD uE z fun z=>Gi rows fun rows=>K (.live ⟨false,lvl,z,rows⟩)):=h
   exact vG (K:=fun rows=>K (.live ⟨false,lvl,z,rows⟩)) (cL (fun _ _=>hS) (K:=fun z=>Gi rows fun rows=>K (.live ⟨false,lvl,z,rows⟩)) (xC h))
theorem hZ(ts:Ts): ∀{l ms:Ms}{K:Ms→Prop},vm l ms K→ ∃ms',(St.ls n ts ms).mws l=St.ls n ts ms'∧K ms'
 |[],ms,K,h=>⟨ms,rfl,h⟩
 |p::l,ms,K,h=>by
  have h:=ta h
  obtain⟨ms',h1,h2⟩:=hZ ts (l:=l) h
  refine⟨ms',?_,h2⟩
  rw[←h1]
  show St.mws {St.ls n ts ms with m:=bb (St.ls n ts ms).m p.1 p.2} l=_
  rw[jZ]
theorem dn{α:Type}{ts:Ts}{ms:Ms}: ∀{p:RP α}{K:α→Prop},p.go ts ms K→p.runK (St.ls n ts ms) K
 | .ret a,K,h=>h
 | .tmp k c,K,h=>dn (p:=c (cT ts k)) h
 | .mem b c,K,h=>dn (p:=c (bV ms b)) h
 | .req b c,K,h=>⟨h.1,dn h.2⟩
 | .fail,K,h=>h.elim
theorem dj{α:Type}{ts:Ts}{ms:Ms}: ∀{p:RP α}{K:α→List Nat→List Nat→Prop},p.goL ts ms K→p.runL (St.ls n ts ms) K
 | .ret a,K,h=>h
 | .tmp k c,K,h=>dj (p:=c (cT ts k)) h
 | .mem b c,K,h=>dj (p:=c (bV ms b)) h
 | .req b c,K,h=>⟨h.1,dj h.2⟩
 | .fail,K,h=>h.elim
theorem bG{α:Type}{st:St}: ∀{p:RP α}{K K':α→List Nat→List Nat→Prop},p.runL st K→(∀a s m,K a s m→K' a s m)→p.runL st K'
 | .ret a,K,K',h,hk=>hk _ _ _ h
 | .tmp k c,K,K',h,hk=>bG (p:=c (st.t k)) h fun a s m=>hk a _ _
 | .mem b c,K,K',h,hk=>bG (p:=c (st.m b)) h fun a s m=>hk a _ _
 | .req b c,K,K',h,hk=>⟨h.1,bG (p:=c) h.2 hk⟩
 | .fail,K,K',h,hk=>h.elim
theorem cu{α β:Type}{st:St}: ∀{p:RP α}{f:α→RP β}{K:β→List Nat→List Nat→Prop},(p.runL st fun a s m=>(f a).runL st fun b s' m'=>K b (s++s') (m++m'))→(p.bind f).runL st K
 | .ret a,f,K,h=>h
 | .tmp k c,f,K,h=>cu (p:=c (st.t k)) h
 | .mem b c,f,K,h=>cu (p:=c (st.m b)) h
 | .req b c,f,K,h=>⟨h.1,cu (p:=c) h.2⟩
 | .fail,f,K,h=>h.elim
theorem runK_mono{α:Type}{st:St}: ∀{p:RP α}{K K':α→Prop},p.runK st K→(∀a,K a→K' a)→p.runK st K'
 | .ret a,K,K',h,hk=>hk _ h
 | .tmp k c,K,K',h,hk=>runK_mono (p:=c (st.t k)) h hk
 | .mem b c,K,K',h,hk=>runK_mono (p:=c (st.m b)) h hk
 | .req b c,K,K',h,hk=>⟨h.1,runK_mono (p:=c) h.2 hk⟩
 | .fail,K,K',h,hk=>h.elim
theorem cw{α β:Type}{st:St}: ∀{p:RP α}{f:α→RP β}{K:β→Prop},(p.runK st fun a=>(f a).runK st K)→(p.bind f).runK st K
 | .ret a,f,K,h=>h
 | .tmp k c,f,K,h=>cw (p:=c (st.t k)) h
 | .mem b c,f,K,h=>cw (p:=c (st.m b)) h
 | .req b c,f,K,h=>⟨h.1,cw (p:=c) h.2⟩
 | .fail,f,K,h=>h.elim
theorem BrS.out{b:Bool}{X Y:Prop}(h:BrS b X Y){Z:Prop}(hx:b=true→X→Z)(hy:b=false→Y→Z):Z:=by
 cases b with
 |true=>exact hx rfl (h.1 rfl)
 |false=>exact hy rfl (h.2 rfl)
theorem xk{t:Bool}{x y:AV}{K:AV→Prop}(h:yg t x y K):K (if t=true then x else y):=by
 have br: ∀x y:AV,BrS t (K x) (K y)→K (if t=true then x else y):=fun x y h=>h.out (fun e k=>by subst e;exact k) fun e k=>by subst e;exact k
 unfold yg at h
 split at h
 ·split at h
  ·split at h
   ·rename_i e;subst e;cases t<;>exact h
   ·exact br _ _ h
  ·exact br _ _ h
 ·split at h
  ·cases t<;>exact h
  ·exact br _ _ h
 ·split at h
  ·cases t<;>exact h
  ·exact br _ _ h
 ·exact br _ _ h
theorem xK{i:TI}{j:Nat}{K:AV→Prop}{row:List AV}(h:oP i j K row): ∃c,((((row.drop j).take i.size).all AV.light&&((row.drop j).take i.size).length==i.size)=true∧
  (if fF i.ut then ic (.agg ((row.drop j).take i.size))else match (row.drop j).take i.size with|[c]=>ic c|_=>.fail)=ic c∧K c):=by
 unfold oP at h
 have h:=cL (fun _ _=>hS) h
 obtain⟨h1,h⟩:=bB h
 generalize (row.drop j).take i.size=cs at h h1
 split at h
 ·rename_i hi
  exact⟨_,h1,by rw[if_pos hi],h⟩
 ·rename_i hi
  split at h
  ·exact⟨_,h1,by simp[hi],h⟩
  ·exact h.elim
theorem wv{row:List AV}{K:List AV→Prop}(h:RowG row K):K row:=by
 obtain⟨r,rfl,h⟩:=h
 exact h
theorem xo{blk:Blk}{r:Nat}{K:List AV→Prop}(h:Eo blk r K):K (dm blk.rows r blk.z):=by
 obtain⟨arr,lvl,z,rows⟩:=blk
 cases arr with
 |true=>exact wv h
 |false=>exact h
theorem uk{i:TI}{v:AV}{b r j:Nat}{blk:Blk}{K:MB→Prop}(h:ot i v b r j blk K):
  (iB i.size blk=true∧(blk.z.length==1&&j==0&&v.leaves.length==i.size&&decide (r+i.size≤blk.rows.length)&&v.leaves.all AV.plain&&decide (blk.lvl≤1))=true∧
   K (.live {blk with lvl:=max blk.lvl (ga v.leaves),rows:=fy blk.rows r v.leaves}))∨
  (¬iB i.size blk=true∧(v.leaves.length==i.size&&decide (j+i.size≤blk.z.length))=true∧
  ((blk.arr=true∧(v.leaves.all AV.plain&&decide (blk.lvl≤1))=true∧K (.live {blk with lvl:=max blk.lvl (ga v.leaves),rows:=be blk.rows r j blk.z v.leaves}))∨
   (blk.arr=false∧(v.leaves.all AV.light&&(((dm blk.rows r blk.z).drop j).take i.size).all (fun c=> !c.isUndef))=true∧K (.live {blk with rows:=be blk.rows r j blk.z v.leaves})))):=by
 obtain⟨arr,lvl,z,rows⟩:=blk
 unfold ot at h
 have h:=cL (fun _ _=>hS) h
 cases hm:(arr&&Nat.blt z.length i.size)with
 |true=>
  rw[hm]at h
  have ha:arr=true:=by
   simp only[Bool.and_eq_true]at hm
   exact hm.1
  subst ha
  have hh:=bB h
  exact .inl ⟨hm,hh.1,mZ (K:=fun rows=>K (.live ⟨true,max lvl (ga v.leaves),z,rows⟩)) hh.2⟩
 |false=>
  rw[hm]at h
  obtain⟨h1,h⟩:=bB h
  refine .inr ⟨by unfold iB;rw[hm];simp,h1,?_⟩
  cases arr with
  |true=>
   obtain⟨h2,h⟩:=bB h
   exact .inl ⟨rfl,h2,mZ (K:=fun rows=>K (.live ⟨true,max lvl (ga v.leaves),z,rows⟩)) h⟩
  |false=>
   obtain⟨h2,h⟩:=bB h
   exact .inr ⟨rfl,h2,h⟩
theorem zQ{lvl n:Nat}{rows:List (List AV)}{K:Nat→List (List AV)→Nat→Prop}(h:AppG lvl rows n K):K lvl rows n:=by
 obtain⟨_,_,_,rfl,rfl,rfl,h⟩:=h
 exact h
theorem wU{r:cZ}{K:cZ→Prop}(h:CH r K):K r:=by
 obtain⟨v,l⟩:=r
 unfold CH at h
 simp only at h
 split at h
 ·split at h
  ·split at h
   ·exact zQ h
   ·exact h
  ·split at h
   ·exact zQ h
   ·exact h
  ·exact h
 ·split at h
  ·split at h
   ·exact mZ h
   ·exact h
  ·exact h
 ·exact h
theorem ue{r:cZ}{K:cZ→Prop}(h:wN r K):K r:=by
 unfold wN at h
 split at h
 ·rename_i v b lvl z rows
  exact vG (K:=fun rows=>K (v,[(b,.live ⟨true,lvl,z,rows⟩)])) h
 ·exact h
theorem B5{same:Bool}{i j:TI}{v:AV}{d:Nat}{ts:Ts}{ms:Ms}{K:cZ→Prop}(h:zH T same i j v d ts ms K):(oG T same i j v d).runK (St.ls n ts ms) K:=by
 unfold zH at h
 split at h
 ·rename_i hj
  unfold oG
  rw[hj]
  split at h
  ·exact h
  ·rename_i v' hns
   cases v with
   |str b=>exact absurd rfl (hns b)
   |_=>
    simp only
    split at h
    ·rename_i e hi
     rw[hi]
     simp only
     refine cw (runK_mono (dn h) fun je hje=> ?_)
     split at hje
     ·rename_i hu
      rw[hu]
      simp only
      refine cw (runK_mono (dn hje) fun r hr=> ?_)
      obtain⟨b,hb,hk⟩:=hr
      rw[hb]
      exact hk
     ·exact hje.elim
    ·exact h.elim
 ·exact dn h
theorem Bm{same:Bool}{i j:TI}{v:AV}{d:Nat}{ts:Ts}{ms:Ms}{K:cZ→List Nat→List Nat→Prop}(h:vW T same i j v d ts ms K):(oG T same i j v d).runL (St.ls n ts ms) K:=by
 unfold vW at h
 split at h
 ·rename_i hj
  unfold oG
  rw[hj]
  split at h
  ·exact h
  ·rename_i v' hns
   cases v with
   |str b=>exact absurd rfl (hns b)
   |_=>
    simp only
    split at h
    ·rename_i e hi
     rw[hi]
     simp only
     refine cu (bG (dj h) fun je s m hje=> ?_)
     split at hje
     ·rename_i hu
      rw[hu]
      simp only
      refine cu (bG (dj hje) fun r s' m' hr=> ?_)
      obtain⟨b,hb,hk⟩:=hr
      rw[hb]
      show K _ _ _
      simpa using hk
     ·exact hje.elim
    ·exact h.elim
 ·exact dj h
theorem D3{o:Oper}{ts:Ts}{ms:Ms}{K:cZ→Prop}(h:F5 T o ts ms K):(ib T o).runK (St.ls n ts ms) K:=by
 unfold F5 at h
 split at h
 ·rename_i c a b ho
  unfold ib
  rw[ho]
  show(oj c a b).runK _ K
  unfold oj
  refine cw (runK_mono (dn h) fun v hv=> ?_)
  split at hv
  ·refine cw (runK_mono (dn hv) fun x hx=> ?_)
   refine cw (runK_mono (dn hx) fun y hy=> ?_)
   exact xk (K:=fun v=>K (v,[])) hy
  ·exact hv.elim
 ·rename_i t x ho
  unfold ib
  rw[ho]
  show(kK T t x).runK _ K
  unfold kK
  refine cw (runK_mono (dn h) fun i hi=> ?_)
  refine cw (runK_mono (dn hi) fun v hv=> ?_)
  have fin: ∀{row:List AV}{j:Nat},oP i j (fun c=>K (c,[])) row→RP.runK (.req (((row.drop j).take i.size).all AV.light&&((row.drop j).take i.size).length==i.size)
    (if fF i.ut then ic (.agg ((row.drop j).take i.size))else match (row.drop j).take i.size with|[c]=>ic c|_=>.fail)) (St.ls n ts ms) K:=fun h=>by
   obtain⟨c,h1,h2,h3⟩:=xK h
   refine⟨h1,?_⟩
   rw[h2]
   exact h3
  split at hv
  ·rename_i b r j
   split at hv
   ·rename_i blk hm
    have hm:(St.ls n ts ms).m b=.live blk:=hm
    show RP.runK (RP.bind (gE ((St.ls n ts ms).m b) |>.bind fun blk=>.ret (((dm blk.rows r blk.z).drop j).take i.size)) _) _ _
    rw[hm]
    exact fin (xo hv)
   ·exact hv.elim
  ·exact fin (wv hv)
  ·exact hv.elim
 ·rename_i t x y ho
  unfold ib
  rw[ho]
  show(lg T t x y).runK _ K
  unfold lg
  refine cw (runK_mono (dn h) fun i hi=> ?_)
  refine cw (runK_mono (dn hi) fun v hv=> ?_)
  refine cw (runK_mono (dn hv) fun a ha=> ?_)
  split at ha
  ·rename_i b r j
   split at ha
   ·rename_i blk hm
    have hm:(St.ls n ts ms).m b=.live blk:=hm
    have ha:=uk (gG (K:=fun v=>ot i v b r j blk fun m=>K (.undef,[(b,m)])) ha)
    show RP.runK (RP.bind (gE ((St.ls n ts ms).m b)) _) _ _
    rw[hm]
    rcases ha with⟨hq,h2,h3⟩|⟨hq,ha⟩
    ·show RP.runK (if iB i.size blk=true then _ else _) _ _
     rw[if_pos hq];exact⟨h2,h3⟩
    show RP.runK (if iB i.size blk=true then _ else _) _ _
    rw[if_neg hq]
    refine⟨ha.1,?_⟩
    rcases ha.2 with⟨h1,h2,h3⟩|⟨h1,h2,h3⟩
    ·rw[if_pos h1];exact⟨h2,h3⟩
    ·rw[if_neg (by simp[h1])];exact⟨h2,h3⟩
   ·exact ha.elim
  ·exact ha.elim
 ·rename_i s t x ho
  split at h
  ·rename_i d hd
   unfold ib
   rw[ho]
   show(jG o (fx T s t x)).runK _ K
   unfold jG
   rw[hd]
   show(fx T s t x d).runK _ K
   unfold fx
   refine cw (runK_mono (dn h) fun i hi=> ?_)
   refine cw (runK_mono (dn hi) fun j hj=> ?_)
   refine cw (runK_mono (dn hj) fun v hv=> ?_)
   exact B5 hv
  ·exact h.elim
 ·exact runK_mono (dn h) fun r hr=>ue hr
 ·exact runK_mono (dn h) fun r hr=>wU hr
 ·exact dn h
theorem xZ{o:Oper}{ts:Ts}{ms:Ms}{K:cZ→List Nat→List Nat→Prop}(h:CR T o ts ms K):(ib T o).runL (St.ls n ts ms) K:=by
 unfold CR at h
 split at h
 ·rename_i c a b ho
  unfold ib
  rw[ho]
  show(oj c a b).runL _ K
  unfold oj
  refine cu (bG (dj h) fun v s m hv=> ?_)
  split at hv
  ·refine cu (bG (dj hv) fun x s' m' hx=> ?_)
   refine cu (bG (dj hx) fun y s'' m'' hy=> ?_)
   have:=xk (K:=fun v=>K (v,[]) (s++(s'++s'')) (m++(m'++m''))) hy
   show K _ _ _
   simpa using this
  ·exact hv.elim
 ·rename_i t x ho
  unfold ib
  rw[ho]
  show(kK T t x).runL _ K
  unfold kK
  refine cu (bG (dj h) fun i s0 m0 hi=> ?_)
  refine cu (bG (dj hi) fun v s m hv=> ?_)
  have fin: ∀{row:List AV}{j:Nat}{K:cZ→List Nat→List Nat→Prop}{s m:List Nat},oP i j (fun c=>K (c,[]) s m) row→RP.runL (.req (((row.drop j).take i.size).all AV.light&&((row.drop j).take i.size).length==i.size)
    (if fF i.ut then ic (.agg ((row.drop j).take i.size))else match (row.drop j).take i.size with|[c]=>ic c|_=>.fail)) (St.ls n ts ms) (fun r s' m'=>K r (s++s') (m++m')):=fun h=>by
   obtain⟨c,h1,h2,h3⟩:=xK h
   refine⟨h1,?_⟩
   rw[h2]
   show _
   simpa[ic,RP.runL]using h3
  split at hv
  ·rename_i b r j
   split at hv
   ·rename_i blk hm
    have hm:(St.ls n ts ms).m b=.live blk:=hm
    show RP.runL (RP.bind (gE ((St.ls n ts ms).m b) |>.bind fun blk=>.ret (((dm blk.rows r blk.z).drop j).take i.size)) _) _ _
    rw[hm]
    have:=fin (K:=K) (xo hv)
    exact bG this fun r s' m' h=>by simpa using h
   ·exact hv.elim
  ·have:=fin (K:=K) (wv hv)
   exact bG this fun r s' m' h=>by simpa using h
  ·exact hv.elim
 ·rename_i t x y ho
  unfold ib
  rw[ho]
  show(lg T t x y).runL _ K
  unfold lg
  refine cu (bG (dj h) fun i s0 m0 hi=> ?_)
  refine cu (bG (dj hi) fun v s m hv=> ?_)
  refine cu (bG (dj hv) fun a s' m' ha=> ?_)
  split at ha
  ·rename_i b r j
   split at ha
   ·rename_i blk hm
    have hm:(St.ls n ts ms).m b=.live blk:=hm
    have ha:=uk (gG (K:=fun v=>ot i v b r j blk fun mb=>K (.undef,[(b,mb)]) (s0++(s++s')) (m0++(m++(m'++[b])))) ha)
    show RP.runL (RP.bind (gE ((St.ls n ts ms).m b)) _) _ _
    rw[hm]
    rcases ha with⟨hq,h2,h3⟩|⟨hq,ha⟩
    ·show RP.runL (if iB i.size blk=true then _ else _) _ _
     rw[if_pos hq];refine⟨h2,?_⟩;simpa[RP.runL]using h3
    show RP.runL (if iB i.size blk=true then _ else _) _ _
    rw[if_neg hq]
    refine⟨ha.1,?_⟩
    rcases ha.2 with⟨h1,h2,h3⟩|⟨h1,h2,h3⟩
    ·rw[if_pos h1];refine⟨h2,?_⟩;simpa[RP.runL]using h3
    ·rw[if_neg (by simp[h1])];refine⟨h2,?_⟩;simpa[RP.runL]using h3
   ·exact ha.elim
  ·exact ha.elim
 ·rename_i s t x ho
  split at h
  ·rename_i d hd
   unfold ib
   rw[ho]
   show(jG o (fx T s t x)).runL _ K
   unfold jG
   rw[hd]
   show(fx T s t x d).runL _ K
   unfold fx
   refine cu (bG (dj h) fun i s0 m0 hi=> ?_)
   refine cu (bG (dj hi) fun j s1 m1 hj=> ?_)
   refine cu (bG (dj hj) fun v s2 m2 hv=> ?_)
   exact bG (Bm hv) fun r s3 m3 h=>by simpa using h
  ·exact h.elim
 ·exact bG (dj h) fun r s m hr=>ue (K:=fun r=>K r s m) hr
 ·exact bG (dj h) fun r s m hr=>wU (K:=fun r=>K r s m) hr
 ·exact dj h
def KL(n:Fx)(K:Ts→Ms→Prop)(st:St):Prop:= ∃ts ms,st=St.ls n ts ms∧K ts ms
theorem qF{a b:Nat}(h:Nat.blt a b=true):a<b:=by
 have:=Nat.le_of_ble_eq_true h
 omega
theorem pR{o:Oper}{r:cZ}{ts:Ts}{ms:Ms}{K:Ts→Ms→Prop}(h:kB n o r ts ms K):(St.ls n ts ms).dstOk o.dst=true∧KL n K ((St.ls n ts ms).after o r):=by
 obtain⟨v,l⟩:=r
 unfold kB at h
 obtain⟨ms',h1,h2⟩:=hZ (n:=n) ts h
 unfold St.after
 simp only[h1]
 split at h2
 ·rename_i hd
  rw[hd]
  exact⟨rfl,ts,ms',rfl,h2⟩
 ·rename_i d hd
  rw[hd]
  obtain⟨h3,h4⟩:=bB h2
  refine⟨decide_eq_true (qF h3),_,_,iI _ _ _ _,gG (K:=fun v=>K ((d,v)::ts) ms') h4⟩
theorem lr{o:Oper}{res:AV}{ts:Ts}{ms:Ms}{K:Ts→Ms→Prop}(h:oU n o res ts ms K):eT o (St.ls n ts ms) res (KL n K):=by
 unfold oU at h
 unfold eT
 split at h
 ·rename_i hd;rw[hd];exact⟨ts,ms,rfl,h⟩
 ·rename_i d hd
  rw[hd]
  obtain⟨h1,h⟩:=bB h
  split at h
  rename_i v l hvl
  obtain⟨h2,h⟩:=bB h
  obtain⟨h3,h⟩:=bB h
  obtain⟨ms',h4,h5⟩:=hZ (n:=n) ts h
  simp only[hvl]
  refine⟨h1,?_,decide_eq_true (qF h3),?_⟩
  ·refine List.all_eq_true.2 fun p hp=> ?_
   have:=List.all_eq_true.1 h2 p hp
   show(match bV ms p.1 with| .abs=>true|_=>false)=true
   cases hm:bV ms p.1<;>rw[hm]at this<;>simp_all[fH]
  ·simp only[h4]
   exact⟨_,_,iI _ _ _ _,gG (K:=fun v=>K ((d,v)::ts) ms') h5⟩
theorem CB{o:Oper}{ts:Ts}{ms:Ms}{K:Ts→Ms→Prop}{f:FuncId}{as:List AV}{j:Nat}(h:AH P n o ts ms K f as j):A2 P o (St.ls n ts ms) (KL n K) f as j:=by
 unfold AH at h
 split at h
 ·rename_i x hx
  split at h
  ·rename_i b off m
   split at h
   ·split at h
    ·rename_i arr lvl z rows hm
     split at h
     ·obtain⟨h1,g1⟩:=bB h
      obtain⟨g2,g3⟩:=g1
      have h2:m=rows.length:=of_decide_eq_true g2
      obtain⟨ys,h3,h4⟩:=cM (dn (n:=n) g3)
      clear h g3 g2
      subst h2
      have h4:=cL (fun _ _=>nT) h4
      obtain⟨lvl',z',rows',res,h5,h6,h7,h8,h9⟩:=h4
      have h9:=ta h9
      simp only[Bool.and_eq_true]at h7
      have hls:(St.ls n ts ms).mws [(b,.live ⟨true,lvl',z',rows'⟩)]=St.ls n ts ((b,.live ⟨true,lvl',z',rows'⟩)::ms):=jZ ts ms b _
      have hld:(St.ls n ts ms).mws [(b,.dead)]=St.ls n ts ((b,.dead)::ms):=jZ ts ms b _
      refine⟨b,lvl,z,rows,ys,lvl',z',rows',res,hx,hm,Nat.le_of_ble_eq_true h1,by rw[hld];exact h3,h5,h6,jf h7.1,Nat.le_of_ble_eq_true h7.2,h8,?_⟩
      rw[hls]
      exact lr h9
     ·exact h.elim
    ·exact h.elim
   ·exact h.elim
  ·exact h.elim
 ·exact h.elim
def Ak(st:St):Gv→List AV→Prop
 |[],[]=>True
 |none::gv,x::cs=>x.goes=true∧Ak st gv cs
 |some (b,lvl,z,rows)::gv,x::cs=>(x=.ref b 0 rows.length∧st.m b=.live ⟨true,lvl,z,rows⟩∧lvl≤1∧(wE gv).contains b=false)∧Ak st gv cs
 |_,_=>False
theorem wu{ts:Ts}{ms:Ms}: ∀{cs:List AV}{K:Gv→Prop},FZ ms cs K→ ∃gv,Ak (St.ls n ts ms) gv cs∧K gv
 |[],K,h=>⟨[],trivial,h⟩
 |x::cs,K,h=>by
  have rest:okK x.goes (FZ ms cs fun l=>K (none::l))→ ∃gv,Ak (St.ls n ts ms) gv (x::cs)∧K gv:=fun h=>by
   obtain⟨h1,g1⟩:=bB h
   obtain⟨gv,h2,h3⟩:=wu (cs:=cs) g1
   exact⟨none::gv,⟨h1,h2⟩,h3⟩
  unfold FZ at h
  split at h
  ·rename_i b off m
   split at h
   ·split at h
    ·rename_i arr lvl z rows hm
     split at h
     ·obtain⟨h1,g1⟩:=bB h
      obtain⟨g2,g3⟩:=g1
      have g2:=of_decide_eq_true g2
      obtain⟨gv,h2,h3⟩:=wu (cs:=cs) g3
      obtain⟨h4,h5⟩:=bB h3
      exact⟨some (b,lvl,z,rows)::gv,⟨⟨by rw[g2],hm,Nat.le_of_ble_eq_true h1,by simpa using h4⟩,h2⟩,h5⟩
     ·exact h.elim
    ·exact h.elim
   ·exact h.elim
  ·exact rest h
def lJ:Gv→List AV→List (Option HLf)
 |none::l,_::os=>none::lJ l os
 |some (b,lvl,z,rows)::l,.own lvl' z' rows'::os=>some ⟨b,lvl,z,rows,lvl',z',rows'⟩::lJ l os
 |_,_=>[]
theorem tg{st:St}: ∀{gv:Gv}{cs os:List AV},Ak st gv cs→te gv os→B2 st (lJ gv os) cs∧ir (lJ gv os) cs=rO gv cs∧(lJ gv os).map rC=os∧lK (lJ gv os)=wE gv∧yI (lJ gv os)=F7 gv os
 |[],[],[],_,_=>⟨trivial,rfl,rfl,rfl,rfl⟩
 |[],[],_::_,_,h=>h.elim
 |[],_::_,_,h,_=>h.elim
 |none::_,[],_,h,_=>h.elim
 |some _::_,[],_,h,_=>h.elim
 |none::_,_::_,[],_,h=>h.elim
 |some _::_,_::_,[],_,h=>h.elim
 |none::gv,x::cs,o::os,⟨h1,h2⟩,⟨h3,h4⟩=>by
  obtain⟨k1,k2,k3,k4,k5⟩:=tg h2 h4
  subst h3
  exact⟨⟨h1,k1⟩,by simp[lJ,ir,rO,BP,k2],by simp[lJ,rC,k3],by simp[lJ,lK,wE,k4],by simp[lJ,yI,F7,k5]⟩
 |some (b,lvl,z,rows)::gv,x::cs,o::os,⟨⟨h1,h2,h3,h5⟩,h6⟩,⟨h10,h4⟩=>by
  obtain⟨k1,k2,k3,k4,k5⟩:=tg h6 h4
  cases o<;>try exact h10.elim
  obtain⟨h8,h9⟩:=h10
  exact⟨⟨⟨h1,h2,h3,h8,h9,by rw[k4];exact h5⟩,k1⟩,by simp[lJ,ir,rO,BP,k2],by simp[lJ,rC,k3],by simp[lJ,lK,wE,k4],by simp[lJ,yI,F7,k5]⟩
theorem AX{o:Oper}{ts:Ts}{ms:Ms}{K:Ts→Ms→Prop}{f:FuncId}{as:List AV}(h:wH P n o ts ms K f as):vo P o (St.ls n ts ms) (KL n K) f as:=by
 unfold wH at h
 split at h
 ·rename_i cs rest
  have h:=cL (fun _ _=>hS) h
  obtain⟨h1,g1⟩:=bB h
  obtain⟨ys,h2,g2⟩:=cM (dn (n:=⟨0,[],[]⟩) g1)
  have g2:=cL (fun _ _=>nT) g2
  obtain⟨gv,h3,g3⟩:=wu (n:=n) (ts:=ts) g2
  have g3:=cL (fun _ _=>tE) g3
  obtain⟨os',res,h4,h5,h6⟩:=g3
  obtain⟨k1,k2,k3,k4,k5⟩:=tg h3 h5
  obtain⟨ms',h7,h8⟩:=hZ (n:=n) ts h6
  refine⟨cs,rest,lJ gv os',ys,res,rfl,k1,by simpa using h1,?_,by rw[k2,k3];exact h4,?_⟩
  ·exact iE (by simpa using h1) h2
  ·rw[k5,h7]
   exact lr h8
 ·exact h.elim
theorem CQ{o:Oper}{ts:Ts}{ms:Ms}{K:Ts→Ms→Prop}{q:AV × List AV × List AV}(h:xR P n o ts ms K q):mX P o (St.ls n ts ms) (KL n K) q:=by
 obtain⟨fv,as,ys⟩:=q
 unfold xR at h
 simp only at h
 unfold mX
 split at h
 ·split at h
  ·rcases h with h|⟨j,h⟩|h
   ·left
    have h:=cL (fun _ _=>nT) h
    split at h
    ·rename_i ha
     obtain⟨res,h1,h2⟩:=h
     exact⟨res,h1,.inl ⟨by simp[ha],lr h2⟩⟩
    ·rename_i ha
     obtain⟨res,h1,h2⟩:=h
     split at h2
     ·rename_i h3
      exact⟨res,h1,.inl ⟨by simp[h3],lr h2⟩⟩
     ·obtain⟨ms',h4,h5⟩:=hZ (n:=n) ts h2
      exact⟨res,h1,.inr (by rw[h4];exact lr h5)⟩
   ·exact .inr (.inl ⟨j,CB h⟩)
   ·exact .inr (.inr (AX h))
  ·exact h.elim
 ·exact h.elim
theorem wA{x:AV}{ts:Ts}{ms:Ms}{K:AV→Ms→Prop}(h:sD x ms K):(di x).runK (St.ls n ts ms) fun p=> ∃ms',(St.ls n ts ms).mws p.2=St.ls n ts ms'∧K p.1 ms':=by
 have rest: ∀x:AV,okK x.goes (K x ms)→(RP.req x.goes (.ret (x,[]))).runK (St.ls n ts ms) fun p:AV × List (Nat × MB)=> ∃ms',(St.ls n ts ms).mws p.2=St.ls n ts ms'∧K p.1 ms':=fun x h=>by
  obtain⟨h1,h2⟩:=bB h
  exact⟨h1,ms,rfl,h2⟩
 cases x with
 |ref b off m=>
  simp only[sD]at h
  split at h
  ·rename_i arr lvl z rows hm
   split at h
   ·obtain⟨h1,h2⟩:=bB h
    have hm':(St.ls n ts ms).m b=.live ⟨true,lvl,z,rows⟩:=hm
    simp only[di,RP.runK,hm',jT,gE,RP.bind,my]
    refine⟨rfl,decide_eq_true (Nat.le_of_ble_eq_true h1),_,?_,h2⟩
    show{St.ls n ts ms with m:=bb (St.ls n ts ms).m b .dead}=_
    rw[jZ]
   ·exact h.elim
  ·exact h.elim
 |_=>exact rest _ h
theorem gm{ts:Ts}: ∀{l:List AV}{ms:Ms}{K:List AV→Ms→Prop}{K':List AV→St→Prop},iT l ms K→(∀ys ms,K ys ms→K' ys (St.ls n ts ms))→cA l (St.ls n ts ms) K'
 |[],ms,K,K',h,hk=>hk _ _ h
 |x::l,ms,K,K',h,hk=>runK_mono (wA h) fun p hp=>by
  obtain⟨ms',h1,h2⟩:=hp
  rw[h1]
  exact gm h2 fun ys ms h=>hk _ _ h
theorem BH{x:AV}{w:Nat}{ts:Ts}{ms:Ms}{K:AV→Ms→Prop}{K':AV→St→Prop}(h:AB x w ms K)(hk: ∀y ms,K y ms→K' y (St.ls n ts ms)):jd x w (St.ls n ts ms) K':=by
 unfold AB at h
 split at h
 case h_2=>exact h.elim
 split at h
 case h_2=>exact h.elim
 split at h
 case h_2=>exact h.elim
 rename_i b _ j _ arr lvl z rows hm
 split at h
 case h_2=>exact h.elim
 split at h
 case h_2=>exact h.elim
 rename_i row
 have h:=cL (fun _ _=>hS) h
 obtain⟨h1,h⟩:=bB h
 obtain⟨ms',h2,h3⟩:=hZ (n:=n) ts h
 have hm':(St.ls n ts ms).m b=.live ⟨false,lvl,z,[row]⟩:=hm
 unfold jd
 simp only[hm']
 simp only[Bool.and_eq_true]at h1
 refine⟨by simp only[Bool.and_eq_true];exact⟨decide_eq_true (Nat.le_of_ble_eq_true h1.1),h1.2⟩,?_⟩
 rw[h2]
 refine gm h3 fun ys ms h=> ?_
 obtain⟨h4,h5⟩:=bB h
 exact⟨h4,hk _ _ h5⟩
theorem oz{ts:Ts}: ∀{fs:List (Option Nat)}{as:List AV}{ms:Ms}{K:List AV→Ms→Prop}{K':List AV→St→Prop},sN fs as ms K→(∀ys ms,K ys ms→K' ys (St.ls n ts ms))→gY fs as (St.ls n ts ms) K'
 |[],[],ms,K,K',h,hk=>hk _ _ h
 |[],_::_,_,_,_,h,_=>h.elim
 |none::_,[],_,_,_,h,_=>h.elim
 |some _::_,[],_,_,_,h,_=>h.elim
 |none::fs,x::as,ms,K,K',h,hk=>oz (fs:=fs) (as:=as) h fun ys ms h=>hk _ _ h
 |some w::fs,x::as,ms,K,K',h,hk=>BH h fun y ms h=>oz (fs:=fs) (as:=as) h fun ys ms h=>hk _ _ h
theorem zL{x o:AV}{b0:Nat}{ts:Ts}{ms:Ms}{K:Ms→Prop}{K':St→Prop}(h:AC x o b0 ms K)(hk: ∀ms,K ms→K' (St.ls n ts ms)):lW x o b0 (St.ls n ts ms) K':=by
 unfold AC at h
 split at h
 case h_2=>exact h.elim
 rename_i b i j
 split at h
 case h_2=>exact h.elim
 rename_i cs
 split at h
 case h_2=>exact h.elim
 rename_i arr lvl z rows hm
 split at h
 case h_2=>exact h.elim
 split at h
 case h_2=>exact h.elim
 rename_i row
 obtain⟨h1,h⟩:=bB h
 split at h
 rename_i vs l hvl
 obtain⟨h2,h⟩:=bB h
 obtain⟨ms1,h3,h⟩:=hZ (n:=n) ts h
 obtain⟨ms2,h4,h5⟩:=hZ (n:=n) ts h
 have hm':(St.ls n ts ms).m b=.live ⟨false,lvl,z,[row]⟩:=hm
 unfold lW
 simp only[hm',hvl]
 simp only[Bool.and_eq_true]at h1
 refine⟨by simp only[Bool.and_eq_true];exact⟨⟨h1.1.1,decide_eq_true (Nat.le_of_ble_eq_true h1.1.2)⟩,h1.2⟩,?_,?_⟩
 ·refine List.all_eq_true.2 fun p hp=> ?_
  have:=List.all_eq_true.1 h2 p hp
  show(match bV ms p.1 with| .abs=>true|_=>false)=true
  cases hm:bV ms p.1<;>rw[hm]at this<;>simp_all[fH]
 ·rw[h3,h4]
  exact hk _ h5
theorem oc{ts:Ts}: ∀{fs:List (Option Nat)}{as os:List AV}{b0:Nat}{ms:Ms}{K:Ms→Prop}{K':St→Prop},qM fs as os b0 ms K→(∀ms,K ms→K' (St.ls n ts ms))→ky fs as os b0 (St.ls n ts ms) K'
 |[],[],[],b0,ms,K,K',h,hk=>hk _ h
 |[],[],_::_,_,_,_,_,h,_=>h.elim
 |[],_::_,[],_,_,_,_,h,_=>h.elim
 |[],_::_,_::_,_,_,_,_,h,_=>h.elim
 |none::_,[],os,_,_,_,_,h,_=>by cases os<;>exact h.elim
 |some _::_,[],os,_,_,_,_,h,_=>by cases os<;>exact h.elim
 |none::_,_::_,[],_,_,_,_,h,_=>h.elim
 |some _::_,_::_,[],_,_,_,_,h,_=>h.elim
 |none::fs,x::as,o::os,b0,ms,K,K',h,hk=>by
  unfold qM at h
  split at h
  ·exact⟨rfl,oc (fs:=fs) (as:=as) h hk⟩
  ·exact h.elim
 |some w::fs,x::as,o::os,b0,ms,K,K',h,hk=>zL h fun ms h=>oc (fs:=fs) (as:=as) h hk
theorem BA{v:AV}{K:AV→Prop}(h:G4 v K):K v:=by
 cases v with
 |obj cs=>exact cL (fun _ _=>hS) (K:=fun cs=>K (.obj cs)) h
 |_=>exact h
theorem tL{n:Nat}{K:Nat→Prop}(h:xe n K): ∃b,K b:=by
 unfold xe at h
 revert h
 generalize [100000,100300,100600,100900,101200,101500,101800,102100,102400,102700,103000,103300,103600,103900,104200]=l
 intro h
 induction l with
 |nil=>exact⟨_,h⟩
 |cons b l ih=>
  simp only at h
  split at h
  ·exact⟨_,h⟩
  ·exact ih h
theorem Ba{o:Oper}{c:Call}{fo:Operand}{ts:Ts}{ms:Ms}{K:Ts→Ms→Prop}(h:(cG fo).go ts ms fun fv=>(fY c.args.toList).go ts ms fun as=>sF P n o ts ms K fv as):jN P c fo o (St.ls n ts ms) (KL n K):=by
 unfold jN
 refine runK_mono (dn h) fun fv h=> ?_
 refine runK_mono (dn h) fun as h=> ?_
 unfold sF at h
 split at h
 case h_2=>exact h.elim
 rename_i f caps
 have h:=cL (fun _ _=>gG) h
 obtain⟨fs,h⟩:=h
 refine⟨fs,?_⟩
 have h:=cL (fun _ _=>gG) h
 refine oz h fun gs ms h=> ?_
 refine runK_mono (dn h) fun ys h=> ?_
 have h:=cL (fun _ _=>gG) h
 obtain⟨_,os,res,rfl,h1,h⟩:=h
 obtain⟨h2,h⟩:=bB h
 obtain⟨_,h⟩:=tL (cL (fun _ _=>BA) h)
 exact⟨os,res,_,h1,h2,oc h fun ms h=>lr h⟩
theorem Fp{o:Oper}{op:BinOp}{t:TypeId}{x y:Operand}{ts:Ts}{ms:Ms}{K:Ts→Ms→Prop}(hy:tI y=true)(h:FN T n o op t x ts ms K):Et T o op t x y (St.ls n ts ms) (KL n K):=by
 unfold FN at h
 obtain⟨h1,g1⟩:=bB h
 obtain⟨v,h2,g2⟩:=cM (dn (n:=n) g1)
 split at g2
 ·rename_i m hm
  split at g2
  ·rename_i d hd
   obtain⟨h3,g3⟩:=bB g2
   refine⟨hy,h1,by rw[hd];exact decide_eq_true (qF h3),v,m,h2,hm,fun b hb=> ?_⟩
   split at g3
   ·simp only
    rw[hd]
    exact⟨_,_,iI _ _ _ _,g3.k b hb⟩
   ·simp only
    rw[hd]
    exact⟨_,_,iI _ _ _ _,g3.k b hb⟩
   ·exact g3.elim
  ·exact g2.elim
 ·exact g2.elim
theorem qX{o:Oper}{ts:Ts}{ms:Ms}{K:Ts→Ms→Prop}(h:H8 P T n o ts ms K):sB P T o (St.ls n ts ms) (KL n K):=by
 have base:F5 T o ts ms (fun r=>kB n o r ts ms K)→F6 T o (St.ls n ts ms) (KL n K):=fun h=>by
  have h:=D3 (n:=n) h
  obtain⟨r,h1,h2⟩:=cM h
  refine⟨(pR h2).1,runK_mono h fun r hr=>(pR hr).2⟩
 unfold H8 at h
 unfold sB
 split at h
 ·rename_i c ho
  simp only[ho]
  split at h
  ·rename_i f hc
   simp only[hc]
   have hb:((cG f).go ts ms fun fv=>(fY c.args.toList).go ts ms fun as=>sF P n o ts ms K fv as)∨(qA c f).go ts ms (xR P n o ts ms K):=by
    have run: ∀{α:Type}(p:RP α)(K1 K2:α→Prop)(Z:Prop),p.go ts ms K1→(∀a,K1 a→K2 a∨Z)→p.go ts ms K2∨Z:=by
     intro α p
     induction p with
     |ret a=>intro K1 K2 Z h hk;exact hk a h
     |tmp k c ih=>intro K1 K2 Z h hk;exact ih _ K1 K2 Z h hk
     |mem b c ih=>intro K1 K2 Z h hk;exact ih _ K1 K2 Z h hk
     |req b c ih=>intro K1 K2 Z h hk;exact(ih K1 K2 Z h.r hk).imp (fun k=>⟨h.l,k⟩) id
     |fail=>intro K1 K2 Z h hk;exact h.elim
    refine run _ _ _ _ h fun fv h=>run _ _ _ _ h fun as h=> ?_
    split at h
    ·exact .inl h
    ·exact .inr h
   rcases hb with h|h
   ·exact .inr (Ba h)
   ·exact .inl (runK_mono (dn h) fun q hq=>CQ hq)
  ·rename_i hc
   split
   ·rename_i f hf;exact absurd hf (hc f)
   ·exact base h
 ·rename_i op t x y ty ho
  simp only[ho]
  split at h
  ·rename_i hy;exact .inr (Fp hy h)
  ·exact .inl (base h)
 ·rename_i hc hc2
  split
  ·rename_i c ho;exact absurd ho (hc c)
  ·exact .inl (base h)
  ·exact base h
theorem lA{o:Oper}{ts:Ts}{ms:Ms}{K:Ts→Ms→Prop}(h:zE n o ts ms K):(St.ls n ts ms).dstOk o.dst=true∧KL n K ((St.ls n ts ms).put o.dst (.tup [])):=by
 unfold zE at h
 split at h
 ·rename_i hd;rw[hd];exact⟨rfl,ts,ms,rfl,h⟩
 ·rename_i d hd
  obtain⟨h1,h⟩:=bB h
  rw[hd]
  exact⟨decide_eq_true (qF h1),_,_,iI _ _ _ _,h⟩
theorem gH{α:Type}{st:St}{K:α→Prop}: ∀{r:RP α},r.runK st K→ ∃a,K a∧ ∀K':α→Prop,K' a→r.runK st K'
 | .ret a,h=>⟨a,h,fun _ h=>h⟩
 | .tmp k c,h=>gH (r:=c (st.t k)) h
 | .mem b c,h=>gH (r:=c (st.m b)) h
 | .req b c,h=>by
  obtain⟨a,h1,h2⟩:=gH (r:=c) h.2
  exact⟨a,h1,fun K' h'=>⟨h.1,h2 K' h'⟩⟩
 | .fail,h=>h.elim
theorem kr: ∀{l:List AV}{st:St}{K:List AV→St→Prop},cA l st K→ ∃ys st1,st1.n=st.n∧K ys st1∧ ∀K':List AV→St→Prop,K' ys st1→cA l st K'
 |[],st,K,h=>⟨[],st,rfl,h,fun _ h=>h⟩
 |x::l,st,K,h=>by
  obtain⟨p,h1,h2⟩:=gH h
  obtain⟨ys,st1,h3,h4,h5⟩:=kr h1
  exact⟨p.1::ys,st1,h3.trans (fw _ _),h4,fun K' h'=>h2 _ (h5 _ h')⟩
theorem yr{x:AV}{w:Nat}{st:St}{K:AV→St→Prop}(h:jd x w st K): ∃y st1,st1.n=st.n∧K y st1∧ ∀K':AV→St→Prop,K' y st1→jd x w st K':=by
 unfold jd at h⊢
 split at h
 case h_2=>exact h.elim
 split at h
 case h_2=>exact h.elim
 split at h
 case h_2=>exact h.elim
 split at h
 case h_2=>exact h.elim
 split at h
 case h_2=>exact h.elim
 obtain⟨ys,st1,h3,h4,h5⟩:=kr h.2
 exact⟨.obj ys,st1,h3.trans (fw _ _),h4.2,fun K' h'=>⟨h.1,h5 _ ⟨h4.1,h'⟩⟩⟩
theorem mr: ∀{fs:List (Option Nat)}{as:List AV}{st:St}{K:List AV→St→Prop},gY fs as st K→ ∃ys st1,st1.n=st.n∧K ys st1∧ ∀K':List AV→St→Prop,K' ys st1→gY fs as st K'
 |[],[],st,K,h=>⟨[],st,rfl,h,fun _ h=>h⟩
 |[],_::_,_,_,h=>h.elim
 |none::_,[],_,_,h=>h.elim
 |some _::_,[],_,_,h=>h.elim
 |none::fs,x::as,st,K,h=>by
  obtain⟨ys,st1,h3,h4,h5⟩:=mr (fs:=fs) (as:=as) h
  exact⟨_,st1,h3,h4,fun K' h'=>h5 _ h'⟩
 |some w::fs,x::as,st,K,h=>by
  obtain⟨y,st1,h1,h2,h3⟩:=yr h
  obtain⟨ys,st2,h4,h5,h6⟩:=mr (fs:=fs) (as:=as) h2
  exact⟨_,st2,h4.trans h1,h5,fun K' h'=>h3 _ (h6 _ h')⟩
theorem yj{x o:AV}{b0:Nat}{st:St}{K:St→Prop}(h:lW x o b0 st K): ∃st1,st1.n=st.n∧K st1∧ ∀K':St→Prop,K' st1→lW x o b0 st K':=by
 unfold lW at h⊢
 split at h
 case h_2=>exact h.elim
 split at h
 case h_2=>exact h.elim
 split at h
 case h_2=>exact h.elim
 split at h
 case h_2=>exact h.elim
 split at h
 case h_2=>exact h.elim
 exact⟨_,(fw _ _).trans (fw _ _),h.2.2,fun K' h'=>⟨h.1,h.2.1,h'⟩⟩
theorem mo: ∀{fs:List (Option Nat)}{as os:List AV}{b0:Nat}{st:St}{K:St→Prop},ky fs as os b0 st K→ ∃st1,st1.n=st.n∧K st1∧ ∀K':St→Prop,K' st1→ky fs as os b0 st K'
 |[],[],[],b0,st,K,h=>⟨st,rfl,h,fun _ h=>h⟩
 |[],[],_::_,_,_,_,h=>h.elim
 |[],_::_,[],_,_,_,h=>h.elim
 |[],_::_,_::_,_,_,_,h=>h.elim
 |none::_,[],os,_,_,_,h=>by cases os<;>exact h.elim
 |some _::_,[],os,_,_,_,h=>by cases os<;>exact h.elim
 |none::_,_::_,[],_,_,_,h=>h.elim
 |some _::_,_::_,[],_,_,_,h=>h.elim
 |none::fs,x::as,o::os,b0,st,K,h=>by
  obtain⟨st1,h3,h4,h5⟩:=mo (fs:=fs) (as:=as) h.2
  exact⟨st1,h3,h4,fun K' h'=>⟨h.1,h5 _ h'⟩⟩
 |some w::fs,x::as,o::os,b0,st,K,h=>by
  obtain⟨st1,h1,h2,h3⟩:=yj h
  obtain⟨st2,h4,h5,h6⟩:=mo (fs:=fs) (as:=as) h2
  exact⟨st2,h4.trans h1,h5,fun K' h'=>h3 _ (h6 _ h')⟩
theorem rd{c:Call}{fo:Operand}{o:Oper}{st:St}{K:St→Prop}(h:jN P c fo o st K): ∃st1 res,st1.n=st.n∧eT o st1 res K∧ ∀K':St→Prop,eT o st1 res K'→jN P c fo o st K':=by
 unfold jN at h⊢
 obtain⟨fv,h,g1⟩:=gH h
 obtain⟨as,h,g2⟩:=gH h
 cases fv with
 |fn f caps=>
  obtain⟨fs,h⟩:=h
  obtain⟨gs,st1,e1,h,g3⟩:=mr h
  obtain⟨ys,h,g4⟩:=gH h
  obtain⟨os,res,b0,h1,h2,h⟩:=h
  obtain⟨st2,e2,h,g5⟩:=mo h
  exact⟨st2,res,e2.trans e1,h,fun K' h'=>g1 _ (g2 _ ⟨fs,g3 _ (g4 _ ⟨os,res,b0,h1,h2,g5 _ h'⟩)⟩)⟩
 |_=>exact h.elim
theorem xJ{o:Oper}{st:St}{K:St→Prop}(h:sB P T o st K):st.dstOk o.dst=true:=by
 unfold sB at h
 split at h
 ·split at h
  ·have land0: ∀(s:St) res,s.n=st.n→eT o s res K→st.dstOk o.dst=true:=fun s res hs h3=>by
    unfold eT at h3
    split at h3
    ·rename_i hd;rw[hd];rfl
    ·rename_i d hd
     rw[hd]
     have:=h3.2.2.1
     rw[hs]at this
     exact this
   rcases h with h|h
   case inr=>
    obtain⟨st1,res,h1,h2,_⟩:=rd h
    exact land0 st1 res h1 h2
   obtain⟨q,_,hq⟩:=cM h
   unfold mX at hq
   have land: ∀(s:St) res,s.n=st.n→eT o s res K→st.dstOk o.dst=true:=fun s res hs h3=>by
    unfold eT at h3
    split at h3
    ·rename_i hd;rw[hd];rfl
    ·rename_i d hd
     rw[hd]
     have:=h3.2.2.1
     rw[hs]at this
     exact this
   split at hq
   ·split at hq
    ·rcases hq with⟨res,h1,⟨h2,h3⟩|h3⟩|⟨j,b,lvl,z,rows,ys,lvl',z',rows',res,h1,h2,h3,h4,h5,h6,h7,h8,h9,h10⟩|⟨cs,rest,ds,ys,res,h1,h2,h3,h4,h5,h6⟩
     ·exact land st res rfl h3
     ·exact land (st.mws (jz q.2.1)) res (fw _ _) h3
     ·exact land (st.mws [(b,_)]) res (fw _ _) h10
     ·exact land (st.mws (yI ds)) res (fw _ _) h6
    ·exact hq.elim
   ·exact hq.elim
  ·exact h.1
 ·rcases h with h|h
  ·exact h.1
  ·exact h.2.2.1
 ·exact h.1
theorem qR{o:Oper}{st:St}{K K':St→Prop}(h:sB P T o st K)(hk: ∀s,K s→K' s):sB P T o st K':=by
 have hl: ∀(st:St) res,eT o st res K→eT o st res K':=fun st res h=>by
  unfold eT at h⊢
  split at h
  ·exact hk _ h
  ·exact⟨h.1,h.2.1,h.2.2.1,hk _ h.2.2.2⟩
 unfold sB at h⊢
 split at h
 ·split at h
  ·rcases h with h|h
   case inr=>
    obtain⟨st1,res,h1,h2,h3⟩:=rd h
    exact .inr (h3 _ (hl _ _ h2))
   refine .inl (runK_mono h fun q hq=> ?_)
   unfold mX at hq⊢
   split at hq
   ·split at hq
    ·rcases hq with⟨res,h1,⟨h2,h3⟩|h3⟩|⟨j,b,lvl,z,rows,ys,lvl',z',rows',res,h1,h2,h3,h4,h5,h6,h7,h8,h9,h10⟩|⟨cs,rest,ds,ys,res,h1,h2,h3,h4,h5,h6⟩
     ·exact .inl ⟨res,h1,.inl ⟨h2,hl _ _ h3⟩⟩
     ·exact .inl ⟨res,h1,.inr (hl _ _ h3)⟩
     ·exact .inr (.inl ⟨j,b,lvl,z,rows,ys,lvl',z',rows',res,h1,h2,h3,h4,h5,h6,h7,h8,h9,hl _ _ h10⟩)
     ·exact .inr (.inr ⟨cs,rest,ds,ys,res,h1,h2,h3,h4,h5,hl _ _ h6⟩)
    ·exact hq.elim
   ·exact hq.elim
  ·exact⟨h.1,runK_mono h.2 fun r hr=>hk _ hr⟩
 ·rename_i op t x y ty _
  rcases h with h|⟨h1,h2,h3,v,n,h4,h5,h6⟩
  ·exact .inl ⟨h.1,runK_mono h.2 fun r hr=>hk _ hr⟩
  ·refine .inr ⟨h1,h2,h3,v,n,h4,h5,fun b hb=> ?_⟩
   have:=h6 b hb
   cases op<;>simp only at this⊢ <;>first|exact hk _ this|exact this
 ·exact⟨h.1,runK_mono h.2 fun r hr=>hk _ hr⟩
theorem qj{ops:List Oper}{o:Oper}{st:St}{K K':St→Prop}(h:jH P T ops o st K)(hk: ∀s,K s→K' s):jH P T ops o st K':=by
 unfold jH at h⊢
 split at h
 ·exact qR h hk
 ·refine⟨h.1,?_⟩
  have h:=h.2
  unfold tz at h⊢
  split at h
  ·refine⟨fun hb=> ?_,fun hb=> ?_⟩
   ·have h:=h.1 hb
    split at h
    ·rename_i hw;rw[if_pos hw];exact qR h hk
    ·rename_i hw;rw[if_neg hw];exact hk _ h
   ·have h:=h.2 hb
    split at h
    ·rename_i hw;rw[if_pos hw];exact hk _ h
    ·rename_i hw;rw[if_neg hw];exact qR h hk
  ·exact hk _ h
  ·exact h.elim
 ·exact h.elim
theorem wQ{ts:Ts}{ms:Ms}{K:Ts→Ms→Prop}(k:Nat)(h:lu k ts ms K): ∃ts' ms',StL (St.ls n ts ms) (St.ls n ts' ms')∧K ts' ms':=by
 unfold lu at h
 split at h
 case h_2=>exact h.elim
 rename_i b off len hk
 split at h
 case h_2=>exact h.elim
 rename_i arr lvl z rows hb
 split at h
 case h_2=>exact h.elim
 obtain⟨hl,h⟩:=bB h
 refine⟨_,_,fun E a w ⟨loc,ob,r⟩=> ?_,h⟩
 have hrun:(dV (AV.ref b off len)).run (St.ls n ts ms)=some (.ro z (am rows off len)):=by
  have hm:(St.ls n ts ms).m b=.live ⟨true,lvl,z,rows⟩:=hb
  have hl2:decide (lvl≤1)=true:=decide_eq_true (Nat.le_of_ble_eq_true hl)
  show((jT ((St.ls n ts ms).m b)).bind fun blk=>RP.req (decide (blk.lvl≤1)) (RP.ret (match blk with|⟨_,_,z,rows⟩=>AV.ro z (am rows off len)))).run (St.ls n ts ms)=_
  rw[hm]
  show(RP.req (decide (lvl≤1)) (RP.ret (AV.ro z (am rows off len)))).run (St.ls n ts ms)=_
  show(if decide (lvl≤1)=true then some (AV.ro z (am rows off len))else none)=_
  rw[if_pos hl2]
 have hx:=r.tm k
 have hx':AR w (RS E w (ak ob ae)) loc (.ref b off len) (a.tmps.getD k undef) ae:=by
  have e:(St.ls n ts ms).t k=.ref b off len:=hk
  rw[e]at hx
  exact hx
 obtain⟨h1,h2⟩:=mh (bs:=[b]) r hx' hrun (fun b' hb'=>by simpa[AV.refs0]using hb')
 have r1:=r.kills [b] (fun b' hb'=>h2 b' (by simpa[AV.refs0]using hb'))
 have e1:(St.ls n ts ms).mws (mm [b])=St.ls n ts ((b,.dead)::ms):=jZ ts ms b .dead
 rw[e1]at r1
 refine⟨loc,_,⟨fun j=> ?_,r1.sz,r1.df,r1.ab,r1.dd,r1.lv,r1.db,r1.dx,r1.lt,r1.sub,r1.fr,r1.an⟩⟩
 show AR w _ loc (cT ((k,.ro z (am rows off len))::ts) j) _ ae
 unfold cT
 split
 ·rename_i hj
  obtain rfl:=Nat.eq_of_beq_eq_true hj
  exact h1.weak (fun _ _ k=>k) (fun b l hh=>by cases hh)
 ·exact r1.tm j
theorem nl: ∀{l:List Nat}{ts:Ts}{ms:Ms}{K:Ts→Ms→Prop},uJ l ts ms K→ ∃ts' ms',StL (St.ls n ts ms) (St.ls n ts' ms')∧K ts' ms'
 |[],ts,ms,K,h=>⟨ts,ms,StL.refl _,h⟩
 |k::l,ts,ms,K,h=>by
  unfold uJ at h
  split at h
  ·rename_i b off len hk1
   split at h
   case h_2=>exact h.elim
   rename_i arr lvl z rows hb
   split at h
   case h_2=>exact h.elim
   obtain⟨hl,h⟩:=bB h
   obtain⟨rows',he,h⟩:=h
   obtain⟨ts',ms',h1,h2⟩:=wQ (n:=n) (K:=fun ts ms=>uJ l ts ms K) k (by
    unfold lu
    rw[hk1]
    simp only
    rw[hb]
    simp only
    unfold okK
    rw[hl,he]
    exact h)
   obtain⟨ts2,ms2,h3,h4⟩:=nl h2
   exact⟨ts2,ms2,h1.trans h3,h4⟩
  ·exact nl h
theorem BC{o:Oper}{ts:Ts}{ms:Ms}{K:Ts→Ms→Prop}(h:rG n o ts ms K): ∃ts' ms',StL (St.ls n ts ms) (St.ls n ts' ms')∧K ts' ms':=by
 unfold rG at h
 split at h
 ·exact⟨ts,ms,StL.refl _,h⟩
 ·split at h
  ·split at h
   ·exact nl h
   ·exact⟨ts,ms,StL.refl _,h⟩
  ·exact⟨ts,ms,StL.refl _,h⟩
theorem xI{ops:List Oper}: ∀{rest:List Oper}{ts:Ts}{ms:Ms}{K:Ts→Ms→Prop},vy P T n ops rest ts ms K→uH P T ops rest (St.ls n ts ms) (KL n K)
 |[],ts,ms,K,h=>⟨ts,ms,rfl,h⟩
 |o::rest,ts,ms,K,h=>by
  unfold vy at h
  unfold uH
  have next: ∀s,KL n (fun ts ms=>rG n o ts ms fun ts ms=>vy P T n ops rest ts ms K) s→ ∃s',StL s s'∧uH P T ops rest s' (KL n K):=by
   rintro s ⟨ts',ms',rfl,h⟩
   obtain⟨_,_,h1,h2⟩:=BC h
   exact⟨_,h1,xI h2⟩
  refine qj ?_ next
  unfold jH
  split at h
  ·rename_i hg;rw[hg];exact qX h
  ·rename_i d want hg
   rw[hg]
   unfold Az at h
   split at h
   ·rename_i b hb
    have hb':(St.ls n ts ms).t d=.bool b:=hb
    simp only[hb']
    split at h
    ·refine⟨?_,?_⟩
     ·refine h.out (fun e h=> ?_) fun e h=> ?_
      ·have:=xJ (qX h)
       exact this
      ·exact(lA h).1
     ·refine⟨fun e=> ?_,fun e=> ?_⟩
      ·rw[if_pos rfl,iI]
       exact qX (h.1 e)
      ·rw[if_pos rfl,iI]
       exact(lA (h.2 e)).2
    ·refine⟨?_,?_⟩
     ·refine h.out (fun e h=> ?_) fun e h=> ?_
      ·exact(lA h).1
      ·have:=xJ (qX h)
       exact this
     ·refine⟨fun e=> ?_,fun e=> ?_⟩
      ·rw[if_neg (by simp),iI]
       exact(lA (h.1 e)).2
      ·rw[if_neg (by simp),iI]
       exact qX (h.2 e)
   ·rename_i vs hb
    split at h
    ·have hb':(St.ls n ts ms).t d=.tup []:=hb
     simp only[hb']
     exact⟨(lA h).1,(lA h).2⟩
    ·exact h.elim
   ·exact h.elim
  ·exact h.elim
end
end Go.Abs
