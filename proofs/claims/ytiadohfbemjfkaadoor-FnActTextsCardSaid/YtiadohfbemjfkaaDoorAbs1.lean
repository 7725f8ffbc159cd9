/- The abstract layer, 28: a quick walk. States are lists; every step is computed by the head. -/
import Derived.Test.YtiadohfbemjfkaaDoorAbs0
set_option linter.unusedVariables false
set_option linter.unusedSimpArgs false
noncomputable section
namespace Go.Abs
open Go
structure RqS(b:Bool)(X:Prop):Prop where
 l:b=true
 r:X
structure ChkS(b:Bool)(X:Prop):Prop where
 l:b=true
 r:X
structure BrS(b:Bool)(X Y:Prop):Prop where
 t:b=true→X
 f:b=false→Y
structure ShG(x y:AV):Prop where
 s:Sh x y
inductive CallG(P:Program)(f:FuncId)(as:List AV)(K:AV→Prop):Prop where
 |mk (res:AV) (h:Con P f as (undefs as) res) (k:K res):CallG P f as K
inductive RowG(row:List AV)(K:List AV→Prop):Prop where
 |mk (row':List AV) (h:row=row') (k:K row'):RowG row K
inductive RowsG(rows:List (List AV))(K:List (List AV)→Prop):Prop where
 |mk (rows':List (List AV)) (h:rows=rows') (k:K rows'):RowsG rows K
structure LoopG(P:Program)(c:Code)(Q:Ex→St→Prop)(st:St):Prop where
 wp:WP P (.loop c) Q st
structure FacG(F:Nat→Prop)(X:Prop):Prop where
 k:(∀d,F d)→X
abbrev Ts:=List (Nat × AV)
abbrev Ms:=List (Nat × MB)
def okK(b:Bool)(X:Prop):Prop:=match b with
 |true=>X
 |false=>False
def getT:Ts→Nat→AV
 |[],_=>.undef
 |p::l,k=>match Nat.beq k p.1 with
  |true=>p.2
  |false=>getT l k
def getM:Ms→Nat→MB
 |[],_=>.abs
 |p::l,k=>match Nat.beq k p.1 with
  |true=>p.2
  |false=>getM l k
structure Fx where
 n:Nat
 an:List Nat
 kp:List (Nat × List Nat)
def St.ls(n:Fx)(ts:Ts)(ms:Ms):St:=⟨n.n,getT ts,getM ms,n.an⟩
def isAbs:MB→Bool
 | .abs=>true
 |_=>false
def fc0(v:AV)(K:AV→Prop):Prop:=match v with
 | .undef=>K .undef
 | .int k n=>K (.int k n)
 | .bool b=>K (.bool b)
 | .str s=>K (.str s)
 | .nilp=>K .nilp
 | .ptr b i j=>K (.ptr b i j)
 | .rp row j=>K (.rp row j)
 | .fn f caps=>K (.fn f caps)
 | .nilfn=>K .nilfn
 | .nili=>K .nili
 | .ifc=>K .ifc
 | .emp=>K .emp
 | .ref b off len=>K (.ref b off len)
 | .ro z rows=>K (.ro z rows)
 | .own lvl z rows=>K (.own lvl z rows)
 | .obj cells=>K (.obj cells)
 | .agg cs=>K (.agg cs)
 | .tup vs=>K (.tup vs)
noncomputable def fcL(F:AV→(AV→Prop)→Prop)(l:List AV):(List AV→Prop)→Prop:=
 List.rec (motive:=fun _=>(List AV→Prop)→Prop) (fun K=>K []) (fun x _ ih K=>F x fun x=>ih fun l=>K (x::l)) l
def fc(v:AV)(K:AV→Prop):Prop:=match v with
 | .agg cs=>fcL fc0 cs fun cs=>K (.agg cs)
 | .tup cs=>fcL fc0 cs fun cs=>K (.tup cs)
 | .fn f cs=>fcL fc0 cs fun cs=>K (.fn f cs)
 | .obj cs=>fcL fc0 cs fun cs=>K (.obj cs)
 |v=>fc0 v K
def fg0(v:AV)(K:AV→Prop):Prop:=match v with
 | .ro z rows=>fcL fc0 z fun z=>RowsG rows fun rows=>K (.ro z rows)
 | .own lvl z rows=>fcL fc0 z fun z=>RowsG rows fun rows=>K (.own lvl z rows)
 |v=>fc v K
def fg1(v:AV)(K:AV→Prop):Prop:=match v with
 | .agg cs=>fcL fg0 cs fun cs=>K (.agg cs)
 |v=>fg0 v K
def fg(v:AV)(K:AV→Prop):Prop:=match v with
 | .tup cs=>fcL fg1 cs fun cs=>K (.tup cs)
 |v=>fg1 v K
noncomputable def fcR(l:List (List AV)):(List (List AV)→Prop)→Prop:=
 List.rec (motive:=fun _=>(List (List AV)→Prop)→Prop) (fun K=>K []) (fun x _ ih K=>fcL fc x fun x=>ih fun l=>K (x::l)) l
def lvlK(n:Nat)(K:Nat→Prop):Prop:=match Nat.beq n 0 with
 |true=>K 0
 |false=>match Nat.beq n 1 with
  |true=>K 1
  |false=>K n
def fcM(m:MB)(K:MB→Prop):Prop:=match m with
 | .abs=>K .abs
 | .dead=>K .dead
 | .live ⟨arr,lvl,z,rows⟩=>lvlK lvl fun lvl=>fcL fc0 z fun z=>match arr with
  |true=>K (.live ⟨true,lvl,z,rows⟩)
  |false=>fcR rows fun rows=>K (.live ⟨false,lvl,z,rows⟩)
def fmK:Ms→Ms→(Ms→Prop)→Prop
 |[],ms,K=>K ms
 |(b,m)::l,ms,K=>fcM m fun m=>fmK l ((b,m)::ms) K
def RP.go{α:Type}(p:RP α):Ts→Ms→(α→Prop)→Prop:=
 RP.rec (motive:=fun _=>Ts→Ms→(α→Prop)→Prop) (fun a _ _ K=>K a) (fun k _ ih ts ms K=>ih (getT ts k) ts ms K) (fun b _ ih ts ms K=>ih (getM ms b) ts ms K) (fun b _ ih ts ms K=>RqS b (ih ts ms K)) (fun _ _ _=>False) p
def RP.goL{α:Type}(p:RP α):Ts→Ms→(α→List Nat→List Nat→Prop)→Prop:=
 RP.rec (motive:=fun _=>Ts→Ms→(α→List Nat→List Nat→Prop)→Prop) (fun a _ _ K=>K a [] []) (fun k _ ih ts ms K=>ih (getT ts k) ts ms fun a s m=>K a (k::s) m) (fun b _ ih ts ms K=>ih (getM ms b) ts ms fun a s m=>K a s (b::m)) (fun b _ ih ts ms K=>RqS b (ih ts ms K)) (fun _ _ _=>False) p
def pickK(t:Bool)(x y:AV)(K:AV→Prop):Prop:=match x with
 | .int k n=>match y with
  | .int k' m=>if k=k' then K (.int k (if t=true then n else m))else BrS t (K (.int k n)) (K (.int k' m))
  |y=>BrS t (K (.int k n)) (K y)
 | .bool a=>match y with
  | .bool b=>K (.bool (if t=true then a else b))
  |y=>BrS t (K (.bool a)) (K y)
 | .str a=>match y with
  | .str b=>K (.str (if t=true then a else b))
  |y=>BrS t (K (.str a)) (K y)
 |x=>BrS t (K x) (K y)
def loadK(i:TI)(j:Nat)(K:AV→Prop)(row:List AV):Prop:=fcL fc0 ((row.drop j).take i.size) fun cs=>okK (cs.all AV.light&&cs.length==i.size)<|match isAggT i.ut with
 |true=>K (.agg cs)
 |false=>match cs with
  |[c]=>K c
  |_=>False
def rowK(blk:Blk)(r:Nat)(K:List AV→Prop):Prop:=match blk with
 |⟨arr,_,z,rows⟩=>match arr with
  |true=>RowG (rowA rows r z) K
  |false=>K (rowA rows r z)
def storeK(i:TI)(v:AV)(b r j:Nat)(blk:Blk)(K:MB→Prop):Prop:=match blk with
 |⟨arr,lvl,z,rows⟩=>fcL fc0 v.leaves fun vs=>match arr&&Nat.blt z.length i.size with
  |true=>okK (z.length==1&&j==0&&vs.length==i.size&&decide (r+i.size≤rows.length)&&vs.all AV.plain&&decide (lvl≤1)) (RowsG (setMany rows r vs) fun rows=>K (.live ⟨true,max lvl (lvlOf vs),z,rows⟩))
  |false=>okK (vs.length==i.size&&decide (j+i.size≤z.length))<|match arr with
   |true=>okK (vs.all AV.plain&&decide (lvl≤1)) (RowsG (setRow rows r j z vs) fun rows=>K (.live ⟨true,max lvl (lvlOf vs),z,rows⟩))
   |false=>okK (vs.all AV.light&&(((rowA rows r z).drop j).take i.size).all (fun c=> !c.isUndef)) (K (.live ⟨false,lvl,z,setRow rows r j z vs⟩))
def rowsK(r:Res)(K:Res→Prop):Prop:=match r with
 |(v,[(b,.live ⟨true,lvl,z,rows⟩)])=>fcR rows fun rows=>K (v,[(b,.live ⟨true,lvl,z,rows⟩)])
 |r=>K r
inductive AppG(lvl:Nat)(rows:List (List AV))(n:Nat)(K:Nat→List (List AV)→Nat→Prop):Prop where
 |mk (lvl':Nat) (rows':List (List AV)) (n':Nat) (h0:lvl=lvl') (h1:rows=rows') (h2:n=n') (k:K lvl' rows' n'):AppG lvl rows n K
def appK(r:Res)(K:Res→Prop):Prop:=match r with
 |(v,l)=>match v with
  | .ref b off n=>match l with
   |[(b1,m1),(b2,m2)]=>match m2 with
    | .live ⟨arr,lvl,z,rows⟩=>AppG lvl rows n fun lvl rows n=>K (.ref b off n,[(b1,m1),(b2,.live ⟨arr,lvl,z,rows⟩)])
    |m2=>K (.ref b off n,[(b1,m1),(b2,m2)])
   |[(b2,m2)]=>match m2 with
    | .live ⟨arr,lvl,z,rows⟩=>AppG lvl rows n fun lvl rows n=>K (.ref b off n,[(b2,.live ⟨arr,lvl,z,rows⟩)])
    |m2=>K (.ref b off n,[(b2,m2)])
   |l=>K (.ref b off n,l)
  | .int k n=>match l with
   |[(b2,m2)]=>match m2 with
    | .live ⟨arr,lvl,z,rows⟩=>RowsG rows fun rows=>K (.int k n,[(b2,.live ⟨arr,lvl,z,rows⟩)])
    |m2=>K (.int k n,[(b2,m2)])
   |l=>K (.int k n,l)
  |v=>K (v,l)
inductive BytG(rows:List (List AV))(K:List UInt8→Prop):Prop where
 |mk (b:List UInt8) (h:bytesOfRows rows=some b) (k:K b):BytG rows K
def convK(T:TT)(same:Bool)(i j:TI)(v:AV)(d:Nat)(ts:Ts)(ms:Ms)(K:Res→Prop):Prop:=match j.ut with
 | .str=>match v with
  | .str b=>K (.str b,[])
  |v=>match i.ut with
   | .slice e=>(TI.ofT T e).go ts ms fun je=>match je.ut with
    | .int .u8=>(rowsOf [.undef] v).go ts ms fun r=>BytG r.2 fun b=>K (.str b,[])
    |_=>False
   |_=>False
 |_=>(convA T same i j v d).go ts ms K
def convKL(T:TT)(same:Bool)(i j:TI)(v:AV)(d:Nat)(ts:Ts)(ms:Ms)(K:Res→List Nat→List Nat→Prop):Prop:=match j.ut with
 | .str=>match v with
  | .str b=>K (.str b,[]) [] []
  |v=>match i.ut with
   | .slice e=>(TI.ofT T e).goL ts ms fun je s m=>match je.ut with
    | .int .u8=>(rowsOf [.undef] v).goL ts ms fun r s' m'=>BytG r.2 fun b=>K (.str b,[]) (s++s') (m++m')
    |_=>False
   |_=>False
 |_=>(convA T same i j v d).goL ts ms K
def opE(T:TT)(o:Oper)(ts:Ts)(ms:Ms)(K:Res→Prop):Prop:=match o.op with
 | .pick c a b=>(opnd c).go ts ms fun c=>match c with
  | .bool t=>(opnd a).go ts ms fun x=>(opnd b).go ts ms fun y=>pickK t x y fun v=>K (v,[])
  |_=>False
 | .load t x=>(TI.ofT T t).go ts ms fun i=>(opnd x).go ts ms fun v=>match v with
  | .ptr b r j=>match getM ms b with
   | .live blk=>rowK blk r (loadK i j fun c=>K (c,[]))
   |_=>False
  | .rp row j=>RowG row (loadK i j fun c=>K (c,[]))
  |_=>False
 | .store t x y=>(TI.ofT T t).go ts ms fun i=>(opnd y).go ts ms fun v=>(opnd x).go ts ms fun a=>match a with
  | .ptr b r j=>match getM ms b with
   | .live blk=>fc v fun v=>storeK i v b r j blk fun m=>K (.undef,[(b,m)])
   |_=>False
  |_=>False
 | .convert s t x=>match o.dst with
  |some d=>(TI.ofT T s).go ts ms fun i=>(TI.ofT T t).go ts ms fun j=>(opnd x).go ts ms fun v=>convK T (Nat.beq s t) i j v d ts ms K
  |none=>False
 | .buildSlice _ _ _=>(evOp T o).go ts ms fun r=>rowsK r K
 | .call _=>(evOp T o).go ts ms fun r=>appK r K
 |_=>(evOp T o).go ts ms K
def opEL(T:TT)(o:Oper)(ts:Ts)(ms:Ms)(K:Res→List Nat→List Nat→Prop):Prop:=match o.op with
 | .pick c a b=>(opnd c).goL ts ms fun c s m=>match c with
  | .bool t=>(opnd a).goL ts ms fun x s' m'=>(opnd b).goL ts ms fun y s'' m''=>pickK t x y fun v=>K (v,[]) (s++(s'++s'')) (m++(m'++m''))
  |_=>False
 | .load t x=>(TI.ofT T t).goL ts ms fun i s0 m0=>(opnd x).goL ts ms fun v s m=>match v with
  | .ptr b r j=>match getM ms b with
   | .live blk=>rowK blk r (loadK i j fun c=>K (c,[]) (s0++s) (m0++(m++[b])))
   |_=>False
  | .rp row j=>RowG row (loadK i j fun c=>K (c,[]) (s0++s) (m0++m))
  |_=>False
 | .store t x y=>(TI.ofT T t).goL ts ms fun i s0 m0=>(opnd y).goL ts ms fun v s m=>(opnd x).goL ts ms fun a s' m'=>match a with
  | .ptr b r j=>match getM ms b with
   | .live blk=>fc v fun v=>storeK i v b r j blk fun mb=>K (.undef,[(b,mb)]) (s0++(s++s')) (m0++(m++(m'++[b])))
   |_=>False
  |_=>False
 | .convert s t x=>match o.dst with
  |some d=>(TI.ofT T s).goL ts ms fun i s0 m0=>(TI.ofT T t).goL ts ms fun j s1 m1=>(opnd x).goL ts ms fun v s2 m2=>convKL T (Nat.beq s t) i j v d ts ms fun r s3 m3=>K r (s0++(s1++(s2++s3))) (m0++(m1++(m2++m3)))
  |none=>False
 | .buildSlice _ _ _=>(evOp T o).goL ts ms fun r s m=>rowsK r fun r=>K r s m
 | .call _=>(evOp T o).goL ts ms fun r s m=>appK r fun r=>K r s m
 |_=>(evOp T o).goL ts ms K
def afterV(n:Fx)(o:Oper)(r:Res)(ts:Ts)(ms:Ms)(K:Ts→Ms→Prop):Prop:=match r with
 |(v,l)=>fmK l ms fun ms=>match o.dst with
  |none=>K ts ms
  |some d=>okK (Nat.blt d n.n) (fc v fun v=>K ((d,v)::ts) ms)
def landV(n:Fx)(o:Oper)(res:AV)(ts:Ts)(ms:Ms)(K:Ts→Ms→Prop):Prop:=match o.dst with
 |none=>K ts ms
 |some d=>okK (impResOk res)<|match impRes (cid d 0) res with
  |(v,l)=>okK (l.all fun p=>isAbs (getM ms p.1))<|okK (Nat.blt d n.n)<|fmK l ms fun ms=>fc v fun v=>K ((d,v)::ts) ms
inductive HandG(P:Program)(f:FuncId)(as os:List AV)(j:Nat)(rows:List (List AV))(z:List AV)(any:Bool)(K:MB→AV→Prop):Prop where
 |mk (lvl':Nat) (z':List AV) (rows':List (List AV)) (res:AV) (h:Con P f as (os.set j (.own lvl' z' rows')) res) (h1:rows'.length=rows.length) (h2:(Nat.beq z'.length z.length&&Nat.ble lvl' 1)=true)
   (h3:(!any||(res.nr&&lvl'==0))=true) (k:K (.live ⟨true,lvl',z',rows'⟩) res):HandG P f as os j rows z any K
def handV(P:Program)(n:Fx)(o:Oper)(ts:Ts)(ms:Ms)(K:Ts→Ms→Prop)(f:FuncId)(as:List AV)(j:Nat):Prop:=match as[j]? with
 |some x=>match x with
  | .ref b off m=>match off with
   |0=>match getM ms b with
    | .live ⟨arr,lvl,z,rows⟩=>match arr with
     |true=>okK (Nat.ble lvl 1)<|RqS (decide (m=rows.length))<|(lendVals (as.set j .undef)).go ts ((b,.dead)::ms) fun ys=>fcL fg1 (ys.set j (.own lvl z rows)) fun ys'=>
       HandG P f ys' (undefs as) j rows z ((as.set j .undef).any AV.hasRef) fun m' res=>fcM m' fun m'=>landV n o res ts ((b,m')::ms) K
     |false=>False
    |_=>False
   |_=>False
  |_=>False
 |none=>False
abbrev Gv:=List (Option (Nat × Nat × List AV × List (List AV)))
def idsG:Gv→List Nat
 |[]=>[]
 |some (b,_)::l=>b::idsG l
 |none::l=>idsG l
def giveG:Gv→List AV→List AV
 |none::l,x::cs=>x::giveG l cs
 |some (_,lvl,z,rows)::l,_::cs=>.own lvl z rows::giveG l cs
 |_,_=>[]
def szOk:Gv→List AV→Prop
 |[],[]=>True
 |none::l,o::os=>o=.undef∧szOk l os
 |some (_,_,z,rows)::l,o::os=>(match o with
  | .own _ z' rows'=>rows'.length=rows.length∧z'.length=z.length
  |_=>False)∧szOk l os
 |_,_=>False
def wrG:Gv→List AV→List (Nat × MB)
 |none::l,_::os=>wrG l os
 |some (b,_)::l,.own lvl' z' rows'::os=>(b,.live ⟨true,lvl',z',rows'⟩)::wrG l os
 |_,_=>[]
def gvK(ms:Ms):List AV→(Gv→Prop)→Prop
 |[],K=>K []
 |x::cs,K=>match x with
  | .ref b off n=>match off with
   |0=>match getM ms b with
    | .live ⟨arr,lvl,z,rows⟩=>match arr with
     |true=>okK (Nat.ble lvl 1)<|RqS (decide (n=rows.length))<|gvK ms cs fun l=>okK (!(idsG l).contains b) (K (some (b,lvl,z,rows)::l))
     |false=>False
    |_=>False
   |_=>False
  |x=>okK x.goes (gvK ms cs fun l=>K (none::l))
inductive HandAG(P:Program)(f:FuncId)(gv:Gv)(args ys os:List AV)(K:List AV→AV→Prop):Prop where
 |mk (os':List AV) (res:AV) (h:Con P f (.agg args::ys) (.agg os'::os) res) (h1:szOk gv os') (k:K os' res):HandAG P f gv args ys os K
def handAV(P:Program)(n:Fx)(o:Oper)(ts:Ts)(ms:Ms)(K:Ts→Ms→Prop)(f:FuncId)(as:List AV):Prop:=match as with
 | .agg cs::rest=>fcL fc0 cs fun cs=>okK (!(rest.any AV.hasRef))<|(lendVals rest).go [] [] fun ys=>fcL fg1 ys fun ys=>gvK ms cs fun gv=>fcL fg0 (giveG gv cs) fun args=>
   HandAG P f gv args ys (undefs rest) fun os' res=>fmK (wrG gv os') ms fun ms=>landV n o res ts ms K
 |_=>False
inductive CallX(f:FuncId)(L:Prop)(H:Nat→Prop)(A:Prop):Prop where
 |lend (h:L):CallX f L H A
 |hand (j:Nat) (h:H j):CallX f L H A
 |handA (h:A):CallX f L H A
def callV(P:Program)(n:Fx)(o:Oper)(ts:Ts)(ms:Ms)(K:Ts→Ms→Prop)(q:AV × List AV × List AV):Prop:=match q with
 |(fv,as,ys)=>match fv with
  | .fn f caps=>match caps with
   |[]=>CallX f (fcL fg1 ys fun ys=>match as.any AV.hasRef with
    |false=>CallG P f ys fun res=>landV n o res ts ms K
    |true=>CallG P f ys fun res=>match res.nr with
     |true=>landV n o res ts ms K
     |false=>fmK (deadsOf as) ms fun ms=>landV n o res ts ms K) (handV P n o ts ms K f as) (handAV P n o ts ms K f as)
   |_=>False
  |_=>False
def exLeafV(x:AV)(ms:Ms)(K:AV→Ms→Prop):Prop:=match x with
 | .ref b off n=>match getM ms b with
  | .live ⟨arr,lvl,z,rows⟩=>match arr with
   |true=>okK (Nat.ble lvl 1) (K (.own lvl z (subA rows off n)) ((b,.dead)::ms))
   |false=>False
  |_=>False
 |v=>okK v.goes (K v ms)
def exLeavesV:List AV→Ms→(List AV→Ms→Prop)→Prop
 |[],ms,K=>K [] ms
 |x::l,ms,K=>exLeafV x ms fun y ms=>exLeavesV l ms fun ys ms=>K (y::ys) ms
def giveV(x:AV)(n:Nat)(ms:Ms)(K:AV→Ms→Prop):Prop:=match x with
 | .ptr b i j=>match i with
  |0=>match getM ms b with
   | .live ⟨arr,lvl,z,rows⟩=>match arr with
    |false=>match rows with
     |[row]=>fcL fc0 ((row.drop j).take n) fun cs=>okK (Nat.ble (j+n) row.length&&cs.all fun c=>c.light&& !c.isUndef)<|
       fmK [(b,.live ⟨false,lvl,z,[setCells row j (List.replicate n .undef)]⟩)] ms fun ms=>
       exLeavesV cs ms fun ys ms=>okK (ys.all fun c=> !c.isUndef) (K (.obj ys) ms)
     |_=>False
    |true=>False
   |_=>False
  |_=>False
 |_=>False
def givesV:List (Option Nat)→List AV→Ms→(List AV→Ms→Prop)→Prop
 |[],[],ms,K=>K [] ms
 |none::fs,_::as,ms,K=>givesV fs as ms fun l ms=>K (.undef::l) ms
 |some n::fs,x::as,ms,K=>giveV x n ms fun y ms=>givesV fs as ms fun l ms=>K (y::l) ms
 |_,_,_,_=>False
def fbP(v:AV)(K:AV→Prop):Prop:=match v with
 | .obj cs=>fcL fc0 cs fun cs=>K (.obj cs)
 |v=>K v
def takeV(x o:AV)(b0:Nat)(ms:Ms)(K:Ms→Prop):Prop:=match x with
 | .ptr b _ j=>match o with
  | .obj cs=>match getM ms b with
   | .live ⟨arr,lvl,z,rows⟩=>match arr with
    |false=>match rows with
     |[row]=>okK (cs.all impLeafOk&&Nat.ble (j+cs.length) row.length&&((row.drop j).take cs.length).all AV.isUndef)<|
      match impLeaves b0 cs with
      |(vs,l)=>okK (l.all fun p=>isAbs (getM ms p.1))<|fmK l ms fun ms=>fmK [(b,.live ⟨false,lvl,z,[setCells row j vs]⟩)] ms K
     |_=>False
    |true=>False
   |_=>False
  |_=>False
 |_=>False
def takesV:List (Option Nat)→List AV→List AV→Nat→Ms→(Ms→Prop)→Prop
 |[],[],[],_,ms,K=>K ms
 |none::fs,_::as,o::os,b0,ms,K=>match o with
  | .undef=>takesV fs as os b0 ms K
  |_=>False
 |some _::fs,x::as,o::os,b0,ms,K=>takeV x o b0 ms fun ms=>takesV fs as os (Nat.add b0 100) ms K
 |_,_,_,_,_,_=>False
def freshM:Ms→Nat→Nat
 |[],n=>n
 |p::l,n=>match Nat.ble n p.1 with
  |true=>match Nat.ble 500000 p.1 with
   |true=>freshM l n
   |false=>freshM l (p.1+1)
  |false=>freshM l n
def baseK(n:Nat)(K:Nat→Prop):Prop:=match Nat.beq n 100000 with
 |true=>K 100000
 |false=>K n
inductive CallPG(P:Program)(f:FuncId)(as:List AV)(K:List AV→AV→Prop):Prop where
 |mk (as' os:List AV) (res:AV) (e:as=as') (h:Con P f as' os res) (k:K os res):CallPG P f as K
inductive HandPX(f:FuncId)(H:List (Option Nat)→Prop):Prop where
 |mk (fs:List (Option Nat)) (h:H fs):HandPX f H
def isPtrs(as:List AV)(fv:AV):Bool:=as.any (fun v=>match v with| .ptr _ _ _=>true| .rp _ _=>true| .fn _ (_::_)=>true|_=>false)||(match fv with| .fn _ (_::_)=>true|_=>false)
def callPV(P:Program)(n:Fx)(o:Oper)(ts:Ts)(ms:Ms)(K:Ts→Ms→Prop)(fv:AV)(as:List AV):Prop:=match fv with
 | .fn f caps=>fcL fc (as++caps) fun as=>HandPX f fun fs=>fcL fc (restP fs as) fun rs=>givesV fs as ms fun gs ms=>(lendXs rs).go ts ms fun ys=>fcL fc (mixP fs gs ys) fun xs=>
   CallPG P f xs fun os res=>okK (!(rs.any AV.leads)||(res.nr&&os.all AV.nrO))<|fcL fbP os fun os=>baseK (freshM ms 100000) fun b0=>takesV fs as os b0 ms fun ms=>landV n o res ts ms K
 |_=>False
structure NilG(n:Nat)(K:Bool→Prop):Prop where
 k: ∀b:Bool,(b=true→n=0)→K b
def nilV(T:TT)(n:Fx)(o:Oper)(op:BinOp)(t:TypeId)(x:Operand)(ts:Ts)(ms:Ms)(K:Ts→Ms→Prop):Prop:=okK (isSliceT T t)<|(opnd x).go ts ms fun v=>match lenN v with
 |some m=>match o.dst with
  |some d=>okK (Nat.blt d n.n)<|match op with
   | .eql=>NilG m fun b=>K ((d,.bool b)::ts) ms
   | .neq=>NilG m fun b=>K ((d,.bool (!b))::ts) ms
   |_=>False
  |none=>False
 |none=>False
def opV(P:Program)(T:TT)(n:Fx)(o:Oper)(ts:Ts)(ms:Ms)(K:Ts→Ms→Prop):Prop:=match o.op with
 | .call c=>match c.callee with
  | .value f=>(opnd f).go ts ms fun fv=>(opnds c.args.toList).go ts ms fun as=>match isPtrs as fv with
   |true=>callPV P n o ts ms K fv as
   |false=>(callA c f).go ts ms (callV P n o ts ms K)
  |_=>opE T o ts ms fun r=>afterV n o r ts ms K
 | .binOp op t x y _=>match isNilC y with
  |true=>nilV T n o op t x ts ms K
  |false=>opE T o ts ms fun r=>afterV n o r ts ms K
 |_=>opE T o ts ms fun r=>afterV n o r ts ms K
def skipV(n:Fx)(o:Oper)(ts:Ts)(ms:Ms)(K:Ts→Ms→Prop):Prop:=match o.dst with
 |none=>K ts ms
 |some d=>okK (Nat.blt d n.n) (K ((d,.tup [])::ts) ms)
def guardV(d:Nat)(want:Bool)(v:AV)(ts:Ts)(X:Ts→Prop)(Y:Ts→Prop):Prop:=match v with
 | .bool b=>match want with
  |true=>BrS b (X ((d,.bool true)::ts)) (Y ((d,.bool false)::ts))
  |false=>BrS b (Y ((d,.bool true)::ts)) (X ((d,.bool false)::ts))
 | .tup vs=>match vs with
  |[]=>Y ts
  |_=>False
 |_=>False
def lookK:List (Nat × List Nat)→Nat→Option (List Nat)
 |[],_=>none
 |p::l,k=>match Nat.beq k p.1 with
  |true=>some p.2
  |false=>lookK l k
def freezeV(k:Nat)(ts:Ts)(ms:Ms)(K:Ts→Ms→Prop):Prop:=match getT ts k with
 | .ref b off len=>match getM ms b with
  | .live ⟨arr,lvl,z,rows⟩=>match arr with
   |true=>okK (Nat.ble lvl 1) (K ((k,.ro z (subA rows off len))::ts) ((b,.dead)::ms))
   |false=>False
  |_=>False
 |_=>False
def frzK:List Nat→Ts→Ms→(Ts→Ms→Prop)→Prop
 |[],ts,ms,K=>K ts ms
 |k::l,ts,ms,K=>match getT ts k with
  | .ref b off len=>match getM ms b with
   | .live ⟨arr,lvl,z,rows⟩=>match arr with
    |true=>okK (Nat.ble lvl 1) (RowsG (subA rows off len) fun rows=>frzK l ((k,.ro z rows)::ts) ((b,.dead)::ms) K)
    |false=>False
   |_=>False
  |_=>frzK l ts ms K
def hookV(n:Fx)(o:Oper)(ts:Ts)(ms:Ms)(K:Ts→Ms→Prop):Prop:=match n.kp with
 |[]=>K ts ms
 |kp=>match o.dst with
  |some d=>match lookK kp (Nat.add 1000000 d)with
   |some ks=>frzK ks ts ms K
   |none=>K ts ms
  |none=>K ts ms
def regV(P:Program)(T:TT)(n:Fx)(ops:List Oper):List Oper→Ts→Ms→(Ts→Ms→Prop)→Prop
 |[],ts,ms,K=>K ts ms
 |o::rest,ts,ms,K=>match guardOf ops o with
  |some none=>opV P T n o ts ms fun ts ms=>hookV n o ts ms fun ts ms=>regV P T n ops rest ts ms K
  |some (some (d,want))=>guardV d want (getT ts d) ts (fun ts=>opV P T n o ts ms fun ts ms=>hookV n o ts ms fun ts ms=>regV P T n ops rest ts ms K) fun ts=>skipV n o ts ms fun ts ms=>hookV n o ts ms fun ts ms=>regV P T n ops rest ts ms K
  |none=>False
def callVL(P:Program)(o:Oper)(ms:Ms)(K:Res→List Nat→List Nat→Prop)(q:AV × List AV × List AV)(s m:List Nat):Prop:=match q with
 |(fv,as,ys)=>match fv with
  | .fn f caps=>match caps with
   |[]=>fcL fg1 ys fun ys=>CallG P f ys fun res=>okK (match o.dst with|none=>true|some _=>impResOk res)<|
     match callRes o res with
     |(v,l)=>okK (l.all fun p=>isAbs (getM ms p.1))<|match !(as.any AV.hasRef)||res.nr with
      |true=>K (v,l) s (m++l.map (·.1))
      |false=>okK (apartB (refsV as) (l.map (·.1))) (K (v,deadsOf as++l) s (m++l.map (·.1)))
   |_=>False
  |_=>False
def exLeafL(x:AV)(ms:Ms)(K:AV→Ms→Wr→Prop):Prop:=match x with
 | .ref b off n=>match getM ms b with
  | .live ⟨arr,lvl,z,rows⟩=>match arr with
   |true=>okK (Nat.ble lvl 1) (K (.own lvl z (subA rows off n)) ((b,.dead)::ms) [(b,.dead)])
   |false=>False
  |_=>False
 |v=>okK v.goes (K v ms [])
def exLeavesL:List AV→Ms→(List AV→Ms→Wr→List Nat→Prop)→Prop
 |[],ms,K=>K [] ms [] []
 |x::l,ms,K=>exLeafL x ms fun y ms W=>exLeavesL l ms fun ys ms W' L'=>K (y::ys) ms (W++W') (x.refs0++L')
def giveL(x:AV)(n:Nat)(ms:Ms)(K:AV→Ms→Wr→List Nat→Prop):Prop:=match x with
 | .ptr b i j=>match i with
  |0=>match getM ms b with
   | .live ⟨arr,lvl,z,rows⟩=>match arr with
    |false=>match rows with
     |[row]=>fcL fc0 ((row.drop j).take n) fun cs=>okK (Nat.ble (j+n) row.length&&cs.all fun c=>c.light&& !c.isUndef)<|
       fmK [(b,.live ⟨false,lvl,z,[setCells row j (List.replicate n .undef)]⟩)] ms fun ms=>
       exLeavesL cs ms fun ys ms W L=>okK (ys.all fun c=> !c.isUndef) (K (.obj ys) ms ((b,.live ⟨false,lvl,z,[setCells row j (List.replicate n .undef)]⟩)::W) (b::L))
     |_=>False
    |true=>False
   |_=>False
  |_=>False
 |_=>False
def givesL:List (Option Nat)→List AV→Ms→(List AV→Ms→Wr→List Nat→Prop)→Prop
 |[],[],ms,K=>K [] ms [] []
 |none::fs,_::as,ms,K=>givesL fs as ms fun l ms W L=>K (.undef::l) ms W L
 |some n::fs,x::as,ms,K=>giveL x n ms fun y ms W L=>givesL fs as ms fun l ms W' L'=>K (y::l) ms (W++W') (L++L')
 |_,_,_,_=>False
def takeL(x o:AV)(b0:Nat)(ms:Ms)(K:Ms→Wr→List Nat→Prop):Prop:=match x with
 | .ptr b _ j=>match o with
  | .obj cs=>match getM ms b with
   | .live ⟨arr,lvl,z,rows⟩=>match arr with
    |false=>match rows with
     |[row]=>okK (cs.all impLeafOk&&Nat.ble (j+cs.length) row.length&&((row.drop j).take cs.length).all AV.isUndef)<|
      match impLeaves b0 cs with
      |(vs,l)=>okK (l.all fun p=>isAbs (getM ms p.1))<|fmK l ms fun ms=>fmK [(b,.live ⟨false,lvl,z,[setCells row j vs]⟩)] ms fun ms=>
       K ms (l++[(b,.live ⟨false,lvl,z,[setCells row j vs]⟩)]) (b::l.map (·.1))
     |_=>False
    |true=>False
   |_=>False
  |_=>False
 |_=>False
def takesL:List (Option Nat)→List AV→List AV→Nat→Ms→(Ms→Wr→List Nat→Prop)→Prop
 |[],[],[],_,ms,K=>K ms [] []
 |none::fs,_::as,o::os,b0,ms,K=>match o with
  | .undef=>takesL fs as os b0 ms K
  |_=>False
 |some _::fs,x::as,o::os,b0,ms,K=>takeL x o b0 ms fun ms W L=>takesL fs as os (Nat.add b0 100) ms fun ms W' L'=>K ms (W++W') (L++L')
 |_,_,_,_,_,_=>False
def callPVL(P:Program)(n:Fx)(o:Oper)(ts:Ts)(ms:Ms)(K:Res→List Nat→List Nat→Prop)(fv:AV)(as:List AV)(s1 m1 s2 m2:List Nat):Prop:=match fv with
 | .fn f caps=>okK (match o.dst with|none=>true|some d=>Nat.blt d n.n)<|fcL fc (as++caps) fun as=>HandPX f fun fs=>fcL fc (restP fs as) fun rs=>givesL fs as ms fun gs ms1 W1 L1=>(lendXs rs).goL ts ms1 fun ys s3 m3=>fcL fc (mixP fs gs ys) fun xs=>
   CallPG P f xs fun os res=>okK (!(rs.any AV.leads)||(res.nr&&os.all AV.nrO))<|fcL fbP os fun os=>baseK (freshM ms1 100000) fun b0=>takesL fs as os b0 ms1 fun ms2 W2 L2=>
   okK (match o.dst with|none=>true|some _=>impResOk res)<|match callRes o res with
   |(v,l)=>okK (l.all fun p=>isAbs (getM ms2 p.1)) (K (v,W1++(W2++l)) (s1++(s2++s3)) (m1++(m2++(L1++(m3++(L2++l.map (·.1)))))))
 |_=>False
def opVL(P:Program)(T:TT)(n:Fx)(o:Oper)(ts:Ts)(ms:Ms)(K:Res→List Nat→List Nat→Prop):Prop:=match o.op with
 | .call c=>match c.callee with
  | .value f=>(opnd f).goL ts ms fun fv s1 m1=>(opnds c.args.toList).goL ts ms fun as s2 m2=>match isPtrs as fv with
   |true=>callPVL P n o ts ms K fv as s1 m1 s2 m2
   |false=>(callA c f).goL ts ms (callVL P o ms K)
  |_=>opEL T o ts ms K
 |_=>opEL T o ts ms K
def guardVL(d:Nat)(want:Bool)(v:AV)(X:(Res→List Nat→List Nat→Prop)→Prop)(K:Res→List Nat→List Nat→Prop):Prop:=match v with
 | .bool b=>match want with
  |true=>BrS b (X fun r s m=>K r (d::s) m) (K (.tup [],[]) [d] [])
  |false=>BrS b (K (.tup [],[]) [d] []) (X fun r s m=>K r (d::s) m)
 | .tup vs=>match vs with
  |[]=>K (.tup [],[]) [d] []
  |_=>False
 |_=>False
abbrev Sm:=Nat × List Nat × List Nat × List Nat × List Nat
def Item.sm(y:Item):Sm:=(y.i,y.ws,y.rs,y.rm,y.wm)
def inQ:List Nat→Nat→Bool
 |[],_=>false
 |x::l,b=>match Nat.beq b x with
  |true=>true
  |false=>inQ l b
def apartQ:List Nat→List Nat→Bool
 |[],_=>true
 |x::l,l'=>match inQ l' x with
  |true=>false
  |false=>apartQ l l'
def indepQ:Sm→Sm→Bool
 |(_,ws,rs,rm,wm),(_,ws',rs',rm',wm')=>apartQ ws rs'&&apartQ ws' rs&&apartQ ws ws'&&apartQ wm rm'&&apartQ wm' rm&&apartQ wm wm'
def pastQ(c:List Nat)(x:Sm):List Sm→Bool
 |[]=>true
 |y::l=>(inQ c y.1||indepQ y x)&&pastQ c x l
def fnL:List Nat→(List Nat→Prop)→Prop
 |[],K=>K []
 |x::l,K=>fnL l fun l=>K (x::l)
def fnLL:List (List Nat)→(List (List Nat)→Prop)→Prop
 |[],K=>K []
 |x::l,K=>fnL x fun x=>fnLL l fun l=>K (x::l)
def nthQ:List (List Nat)→List Nat × List (List Nat)
 |[]=>([],[])
 |x::l=>(x,l)
def regVL(P:Program)(T:TT)(n:Fx)(ops:List Oper):List (List Nat)→List Sm→Nat→List Oper→Ts→Ms→(Ts→Ms→Prop)→Prop
 |_,_,_,[],ts,ms,K=>K ts ms
 |cl,past,i,o::rest,ts,ms,K=>
  let F:Res→List Nat→List Nat→Prop:=fun r s m=>fnL s fun s=>fnL m fun m=>fnL o.dst.toList fun ws=>fnL (r.2.map (·.1)) fun wm=>
   ChkS (pastQ (nthQ cl).1 (i,ws,s,m,wm) past) (afterV n o r ts ms fun ts ms=>regVL P T n ops (nthQ cl).2 ((i,ws,s,m,wm)::past) (Nat.add i 1) rest ts ms K)
  match guardOf ops o with
  |some none=>opVL P T n o ts ms F
  |some (some (d,want))=>guardVL d want (getT ts d) (opVL P T n o ts ms) F
  |none=>False
def QL(n:Fx)(Q:Ex→Ts→Ms→Prop)(e:Ex)(st:St):Prop:= ∃ts ms,st=St.ls n ts ms∧Q e ts ms
def condT(c:Operand)(b:Bool)(ts:Ts):Ts:=match c with
 | .tmp k=>(k,.bool b)::ts
 |_=>ts
def condV(c:Operand)(b:Bool)(ts:Ts)(K:Ts→Prop):Prop:=match c with
 | .tmp k=>K ((k,.bool b)::ts)
 |_=>K ts
def seqV(X:Ts→Ms→Prop)(Q:Ex→Ts→Ms→Prop):Ex→Ts→Ms→Prop
 | .normal,ts,ms=>X ts ms
 | .exit i,ts,ms=>Q (.exit i) ts ms
 | .ret,ts,ms=>Q .ret ts ms
def blockV(id:Nat)(Q:Ex→Ts→Ms→Prop):Ex→Ts→Ms→Prop
 | .normal,ts,ms=>Q .normal ts ms
 | .exit i,ts,ms=>match Nat.beq i id with
  |true=>Q .normal ts ms
  |false=>Q (.exit i) ts ms
 | .ret,ts,ms=>Q .ret ts ms
def fac0(v:AV)(ms:Ms)(X:Prop):Prop:=match v with
 | .int k n=>FacG (fun d=>AV.facts d (.int k n)) X
 | .str s=>FacG (fun d=>AV.facts d (.str s)) X
 | .ro z rows=>FacG (fun d=>AV.facts d (.ro z rows)) X
 | .ref b _ _=>match getM ms b with
  | .live ⟨true,lvl,z,rows⟩=>FacG (fun d=>MB.facts d (.live ⟨true,lvl,z,rows⟩)) X
  |_=>X
 |_=>X
def facL:List AV→Ms→Prop→Prop
 |[],ms,X=>X
 |x::l,ms,X=>fac0 x ms (facL l ms X)
def fac1(v:AV)(ms:Ms)(X:Prop):Prop:=match v with
 | .agg cs=>facL cs ms X
 | .tup cs=>facL cs ms X
 |v=>fac0 v ms X
def callDst(o:Oper)(ts:Ts)(ms:Ms)(X:Prop):Prop:=match o.op with
 | .call c=>match c.callee with
  | .value _=>match o.dst with
   |some d=>fac1 (getT ts d) ms X
   |none=>X
  |_=>X
 |_=>X
def facV:List Oper→Ts→Ms→Prop→Prop
 |[],ts,ms,X=>X
 |o::l,ts,ms,X=>callDst o ts ms (facV l ts ms X)
def pickT(ks:List Nat)(ts:Ts):(Ts→Prop)→Prop:=
 List.rec (motive:=fun _=>(Ts→Prop)→Prop) (fun K=>K []) (fun k _ ih K=>fc (getT ts k) fun v=>ih fun l=>K ((k,v)::l)) ks
def nameK:List (Nat × Nat)→Nat→(Nat→Prop)→Prop
 |[],b,K=>K b
 |(a,o)::l,b,K=>match Nat.beq b o with
  |true=>K a
  |false=>nameK l b K
def ren0K(bs:List (Nat × Nat))(v:AV)(K:AV→Prop):Prop:=match v with
 | .ref b o n=>nameK bs b fun b=>K (.ref b o n)
 | .ptr b i j=>nameK bs b fun b=>K (.ptr b i j)
 |v=>K v
def renLK(F:AV→(AV→Prop)→Prop):List AV→(List AV→Prop)→Prop
 |[],K=>K []
 |x::l,K=>F x fun x=>renLK F l fun l=>K (x::l)
def ren1K(bs:List (Nat × Nat))(v:AV)(K:AV→Prop):Prop:=match v with
 | .fn g caps=>renLK (ren0K bs) caps fun caps=>K (.fn g caps)
 | .ref b o n=>nameK bs b fun b=>K (.ref b o n)
 | .ptr b i j=>nameK bs b fun b=>K (.ptr b i j)
 |v=>K v
def renBK(bs:List (Nat × Nat))(v:AV)(K:AV→Prop):Prop:=match v with
 | .agg cs=>renLK (ren1K bs) cs fun cs=>K (.agg cs)
 | .tup cs=>renLK (ren1K bs) cs fun cs=>K (.tup cs)
 |v=>ren1K bs v K
def renRK(bs:List (Nat × Nat)):List (List AV)→(List (List AV)→Prop)→Prop
 |[],K=>K []
 |x::l,K=>renLK (ren1K bs) x fun x=>renRK bs l fun l=>K (x::l)
def renMK(bs:List (Nat × Nat))(m:MB)(K:MB→Prop):Prop:=match m with
 | .live ⟨arr,lvl,z,rows⟩=>match arr with
  |true=>K (.live ⟨true,lvl,z,rows⟩)
  |false=>renRK bs rows fun rows=>K (.live ⟨false,lvl,z,rows⟩)
 |m=>K m
def keepT(bs:List (Nat × Nat))(ts:Ts):List Nat→(Ts→Prop)→Prop
 |[],K=>K []
 |k::ks,K=>fc (getT ts k) fun v=>renBK bs v fun v=>keepT bs ts ks fun l=>K ((k,v)::l)
def keepM(bs:List (Nat × Nat))(ms:Ms):List (Nat × Nat)→(Ms→Prop)→Prop
 |[],K=>K []
 |(a,o)::l,K=>fcM (getM ms o) fun m=>renMK bs m fun m=>keepM bs ms l fun l=>K ((a,m)::l)
def keepV(n:Fx)(ks:List Nat)(bs:List (Nat × Nat))(ts:Ts)(ms:Ms)(K:Ts→Ms→Prop):Prop:=
 okK (keepOk (St.ls n ts ms) ks bs) (keepT bs ts ks fun ts'=>keepM bs ms bs fun ms'=>K ts' ms')
def keepCV(n:Fx)(ks:List Nat)(bs:List (Nat × Nat))(ts:Ts)(ms:Ms)(K:Ts→Ms→Prop):Prop:=
 ChkS (keepOk (St.ls n ts ms) ks bs) (keepT bs ts ks fun ts'=>keepM bs ms bs fun ms'=>K ts' ms')
def memB:List (Nat × Nat)→Nat→Bool
 |[],_=>false
 |p::l,b=>match Nat.beq p.2 b with
  |true=>true
  |false=>memB l b
def inNat:List Nat→Nat→Bool
 |[],_=>false
 |x::l,b=>match Nat.beq x b with
  |true=>true
  |false=>inNat l b
def namesB:List Nat:=[1,2,3,4,5,6,7,8,9,10,11,12,13,14,15,16,17,18,19,20,21,22,23,24,25,26,27,28,29,30,31,32,33,34,35,36,37,38,39,40,41,42,43,44,45,46,47,48,49,50,51,52,53,54,55,56,57,58,59,60]
abbrev KB:=List Nat→List (Nat × Nat)→Prop
def autoB(an:List Nat)(nm:List Nat)(bs:List (Nat × Nat))(b:Nat)(K:KB):Prop:=match memB bs b with
 |true=>K nm bs
 |false=>match nm with
  |[]=>False
  |m::nm=>match inNat an b with
   |true=>K nm ((b,b)::bs)
   |false=>K nm ((m,b)::bs)
def auto0(an:List Nat)(nm:List Nat)(bs:List (Nat × Nat))(v:AV)(K:KB):Prop:=match v with
 | .ref b _ _=>autoB an nm bs b K
 | .ptr b _ _=>autoB an nm bs b K
 |_=>K nm bs
def autoL(F:List Nat→List (Nat × Nat)→AV→KB→Prop):List AV→List Nat→List (Nat × Nat)→KB→Prop
 |[],nm,bs,K=>K nm bs
 |x::l,nm,bs,K=>F nm bs x fun nm bs=>autoL F l nm bs K
def auto1(an:List Nat)(ms:Ms)(nm:List Nat)(bs:List (Nat × Nat))(v:AV)(K:KB):Prop:=match v with
 | .ref b _ _=>autoB an nm bs b K
 | .ptr b i j=>match memB bs b with
  |true=>K nm bs
  |false=>match getM ms b with
   | .live ⟨arr,_,_,rows⟩=>match arr with
    |true=>autoB an nm bs b K
    |false=>match rows with
     |[row]=>autoB an nm bs b fun nm bs=>autoL (auto0 an) row nm bs K
     |_=>autoB an nm bs b K
   |_=>autoB an nm bs b K
 | .fn _ caps=>autoL (auto0 an) caps nm bs K
 |_=>K nm bs
def auto2(an:List Nat)(ms:Ms)(nm:List Nat)(bs:List (Nat × Nat))(v:AV)(K:KB):Prop:=match v with
 | .agg cs=>autoL (auto1 an ms) cs nm bs K
 | .tup cs=>autoL (auto1 an ms) cs nm bs K
 | .fn _ caps=>autoL (auto1 an ms) caps nm bs K
 |v=>auto1 an ms nm bs v K
def autoA(an:List Nat)(ms:Ms):List Nat→List Nat→List (Nat × Nat)→KB→Prop
 |[],nm,bs,K=>K nm bs
 |b::l,nm,bs,K=>auto1 an ms nm bs (.ptr b 0 0) fun nm bs=>autoA an ms l nm bs K
def autoT(an:List Nat)(ts:Ts)(ms:Ms):List Nat→List Nat→List (Nat × Nat)→KB→Prop
 |[],nm,bs,K=>K nm bs
 |k::l,nm,bs,K=>auto2 an ms nm bs (getT ts k) fun nm bs=>autoT an ts ms l nm bs K
def fpK:List (Nat × Nat)→(List (Nat × Nat)→Prop)→Prop
 |[],K=>K []
 |(a,b)::l,K=>fpK l fun l=>K ((a,b)::l)
def keepAV(n:Fx)(ks:List Nat)(ts:Ts)(ms:Ms)(K:Ts→Ms→Prop):Prop:=
 autoA n.an ms n.an namesB [] fun nm bs=>autoT n.an ts ms ks nm bs fun _ bs=>fpK bs.reverse fun bs=>keepCV n ks bs ts ms K
def gcV(n:Fx)(ks:List Nat)(ts:Ts)(ms:Ms)(K:Ts→Ms→Prop):Prop:=
 autoA n.an ms n.an namesB [] fun nm bs=>autoT n.an ts ms ks nm bs fun _ bs=>fpK bs.reverse fun bs=>ChkS (keepOk (St.ls n ts ms) ks bs) (keepT bs ts ks fun ts'=>keepM bs ms bs fun ms'=>K ts' ms')
def dropK(n:Fx)(ks:List Nat)(ts:Ts)(ms:Ms)(K:Ts→Ms→Prop):Prop:=match ks with
 |[]=>K [] ms
 |k::l=>match Nat.beq k 999999 with
  |true=>gcV n l ts ms K
  |false=>match Nat.beq k 888888 with
   |true=>frzK l ts ms K
   |false=>pickT (k::l) ts fun ts=>K ts ms
def dropV(n:Fx)(a:Code)(ts:Ts)(ms:Ms)(K:Ts→Ms→Prop):Prop:=match a with
 | .region id _ _=>match lookK n.kp id with
  |some ks=>dropK n ks ts ms K
  |none=>K ts ms
 |_=>K ts ms
def ev(P:Program)(T:TT)(n:Fx):Code→(Ex→Ts→Ms→Prop)→Ts→Ms→Prop
 | .skip,Q,ts,ms=>Q .normal ts ms
 | .label _,Q,ts,ms=>Q .normal ts ms
 | .ret,Q,ts,ms=>Q .ret ts ms
 | .exit id,Q,ts,ms=>Q (.exit id) ts ms
 | .seq a b,Q,ts,ms=>ev P T n a (seqV (fun ts ms=>dropV n a ts ms fun ts ms=>ev P T n b Q ts ms) Q) ts ms
 | .block id c,Q,ts,ms=>ev P T n c (blockV id Q) ts ms
 | .cond c x y,Q,ts,ms=>(opnd c).go ts ms fun v=>match v with
  | .bool b=>BrS b (condV c true ts fun ts=>ev P T n x Q ts ms) (condV c false ts fun ts=>ev P T n y Q ts ms)
  |_=>False
 | .region _ ops draw,Q,ts,ms=>match draw with
  |false=>regV P T n ops.toList ops.toList ts ms fun ts ms=>facV ops.toList ts ms (Q .normal ts ms)
  |true=>ChkS (orderedB ops.toList (clOf ops.toList)) (fnLL (clOf ops.toList) fun cl=>regVL P T n ops.toList cl [] 0 ops.toList ts ms fun ts ms=>facV ops.toList ts ms (Q .normal ts ms))
 | .loop c,Q,ts,ms=>LoopG P c (QL n Q) (St.ls n ts ms)
 |_,_,_,_=>False
def expLeafV(x:AV)(ts:Ts)(ms:Ms)(K:AV→Ms→Prop):Prop:=(expLeaf x).go ts ms fun p=>match p with
 |(y,l)=>fmK l ms fun ms=>K y ms
def expLeavesV:List AV→Ts→Ms→(List AV→Ms→Prop)→Prop
 |[],ts,ms,K=>K [] ms
 |x::l,ts,ms,K=>expLeafV x ts ms fun y ms=>expLeavesV l ts ms fun ys ms=>K (y::ys) ms
def expValV(x:AV)(ts:Ts)(ms:Ms)(K:AV→Ms→Prop):Prop:=match x with
 | .agg cs=>expLeavesV cs ts ms fun ys ms=>K (.agg ys) ms
 | .ptr b i j=>match i with
  |0=>match j with
   |0=>match getM ms b with
    | .live ⟨arr,_,_,rows⟩=>match arr with
     |false=>match rows with
      |[row]=>okK (row.all fun c=>c.light&& !c.isUndef) (exLeavesV row ((b,.dead)::ms) fun ys ms=>okK (ys.all fun c=> !c.isUndef) (K (.obj ys) ms))
      |_=>False
     |true=>False
    |_=>False
   |_=>False
  |_=>False
 |v=>expLeafV v ts ms K
def expValsV:List AV→Ts→Ms→(List AV→Ms→Prop)→Prop
 |[],ts,ms,K=>K [] ms
 |x::l,ts,ms,K=>expValV x ts ms fun y ms=>expValsV l ts ms fun ys ms=>K (y::ys) ms
def retV(T:TT)(rs:List ResultVar)(res:AV)(ts:Ts)(ms:Ms):Prop:=(slotsP T rs).go ts ms fun xs=>match xs with
 |[x]=>expValV x ts ms fun y _=>fg y fun y=>ShG y res
 |xs=>expValsV xs ts ms fun ys _=>fg (.tup ys) fun y=>ShG y res
def retQV(T:TT)(rs:List ResultVar)(res:AV):Ex→Ts→Ms→Prop
 | .ret,ts,ms=>retV T rs res ts ms
 | .normal,ts,ms=>retV T rs res ts ms
 | .exit _,_,_=>False
def numK:List Nat→List AV→(Ts→Prop)→Prop
 |_,[],K=>K []
 |k::ks,x::l,K=>fc x fun x=>numK ks l fun ts=>K ((k,x)::ts)
 |[],_::_,_=>False
def numbers:List Nat:=[0,1,2,3,4,5,6,7,8,9,10,11,12,13,14,15,16,17,18,19]
def enterV(as:List AV)(K:Ts→Ms→Prop):Prop:=match impVals e0 as with
 |(vs,l)=>numK numbers vs fun ts=>fmK l [] fun ms=>K ts ms
structure AftG(x o y:AV)(n:Option Nat)(X:Prop):Prop where
 h1:x.rowsN=n
 h2:o=y
 k:X
def enterPV(as:List AV)(K:Ts→Ms→Prop):Prop:=match impArgs e0 as with
 |(vs,l)=>numK numbers vs fun ts=>fmK l [] fun ms=>K ts ms
structure AftPG(x y:AV)(X:Prop):Prop where
 s:Sh x y
 k:X
def aftPV:Nat→List AV→List AV→Ms→Prop
 |_,[],[],_=>True
 |b,x::as,o::os,ms=>match x with
  | .obj _=>match o with
   | .obj cs=>match getM ms b with
    | .live ⟨arr,_,_,rows⟩=>match arr with
     |false=>match rows with
      |[row]=>okK (row.all (fun c=>c.light&& !c.isUndef)&&cs.all fun c=> !c.isUndef) (exLeavesV row ((b,.dead)::ms) fun ys ms=>fcL fg0 ys fun ys=>AftPG (.agg ys) (.agg cs) (aftPV (Nat.add b 100) as os ms))
      |_=>False
     |true=>False
    |_=>False
   |_=>False
  |_=>match o with
   | .undef=>aftPV (Nat.add b 100) as os ms
   |_=>False
 |_,_,_,_=>False
def retVP(T:TT)(rs:List ResultVar)(res:AV)(b:Nat)(as os:List AV)(ts:Ts)(ms:Ms):Prop:=(slotsP T rs).go ts ms fun xs=>match xs with
 |[x]=>expValV x ts ms fun y ms=>fg y fun y=>AftPG y res (aftPV b as os ms)
 |xs=>expValsV xs ts ms fun ys ms=>fg (.tup ys) fun y=>AftPG y res (aftPV b as os ms)
def retQVP(T:TT)(rs:List ResultVar)(res:AV)(b:Nat)(as os:List AV):Ex→Ts→Ms→Prop
 | .ret,ts,ms=>retVP T rs res b as os ts ms
 | .normal,ts,ms=>retVP T rs res b as os ts ms
 | .exit _,_,_=>False
end Go.Abs
end
