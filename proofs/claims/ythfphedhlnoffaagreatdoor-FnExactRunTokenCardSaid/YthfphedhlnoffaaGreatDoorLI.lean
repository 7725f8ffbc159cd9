import Derived.Test.YthfphedhlnoffaaGreatDoorLH
/- The abstract layer, 28: a quick walk. States are lists; every step is computed by the head. -/
set_option linter.unusedVariables false
set_option linter.unusedSimpArgs false
noncomputable section
namespace Go.Abs
open Go
structure RqS(b:Bool)(X:Prop):Prop where
 l:b=true
 r:X
structure ChkS(b:Bool)(X:Prop):Prop where
 l:b=true
 r:X
structure BrS(b:Bool)(X Y:Prop):Prop where
 t:b=true→X
 f:b=false→Y
structure ShG(x y:AV):Prop where
 s:Sh x y
inductive CallG(P:Program)(f:FuncId)(as:List AV)(K:AV→Prop):Prop where
 |mk (res:AV) (h:Con P f as (aa as) res) (k:K res):CallG P f as K
inductive RowG(row:List AV)(K:List AV→Prop):Prop where
 |mk (row':List AV) (h:row=row') (k:K row'):RowG row K
inductive RowsG(rows:List (List AV))(K:List (List AV)→Prop):Prop where
 |mk (rows':List (List AV)) (h:rows=rows') (k:K rows'):RowsG rows K
structure LoopG(P:Program)(c:Code)(Q:Ex→St→Prop)(st:St):Prop where
 wp:WP P (.loop c) Q st
structure FacG(F:Nat→Prop)(X:Prop):Prop where
 k:(∀d,F d)→X
abbrev Ts:=List (Nat × AV)
abbrev Ms:=List (Nat × MB)
def okK(b:Bool)(X:Prop):Prop:=match b with
 |true=>X
 |false=>False
def cX:Ts→Nat→AV
 |[],_=>.undef
 |p::l,k=>match Nat.beq k p.1 with
  |true=>p.2
  |false=>cX l k
def cd:Ms→Nat→MB
 |[],_=>.abs
 |p::l,k=>match Nat.beq k p.1 with
  |true=>p.2
  |false=>cd l k
structure Fx where
 n:Nat
 an:List Nat
 kp:List (Nat × List Nat)
def St.ls(n:Fx)(ts:Ts)(ms:Ms):St:=⟨n.n,cX ts,cd ms,n.an⟩
def fN:MB→Bool
 | .abs=>true
 |_=>false
def vo(v:AV)(K:AV→Prop):Prop:=match v with
 | .undef=>K .undef
 | .int k n=>K (.int k n)
 | .bool b=>K (.bool b)
 | .str s=>K (.str s)
 | .nilp=>K .nilp
 | .ptr b i j=>K (.ptr b i j)
 | .rp row j=>K (.rp row j)
 | .fn f caps=>K (.fn f caps)
 | .nilfn=>K .nilfn
 | .emp=>K .emp
 | .ref b off len=>K (.ref b off len)
 | .ro z rows=>K (.ro z rows)
 | .own lvl z rows=>K (.own lvl z rows)
 | .obj cells=>K (.obj cells)
 | .agg cs=>K (.agg cs)
 | .tup vs=>K (.tup vs)
noncomputable def md(F:AV→(AV→Prop)→Prop)(l:List AV):(List AV→Prop)→Prop:=
 List.rec (motive:=fun _=>(List AV→Prop)→Prop) (fun K=>K []) (fun x _ ih K=>F x fun x=>ih fun l=>K (x::l)) l
def fc(v:AV)(K:AV→Prop):Prop:=match v with
 | .agg cs=>md vo cs fun cs=>K (.agg cs)
 | .tup cs=>md vo cs fun cs=>K (.tup cs)
 | .fn f cs=>md vo cs fun cs=>K (.fn f cs)
 | .obj cs=>md vo cs fun cs=>K (.obj cs)
 |v=>vo v K
def GW(v:AV)(K:AV→Prop):Prop:=match v with
 | .ro z rows=>md vo z fun z=>RowsG rows fun rows=>K (.ro z rows)
 | .own lvl z rows=>md vo z fun z=>RowsG rows fun rows=>K (.own lvl z rows)
 |v=>fc v K
def EH(v:AV)(K:AV→Prop):Prop:=match v with
 | .agg cs=>md GW cs fun cs=>K (.agg cs)
 |v=>GW v K
def fg(v:AV)(K:AV→Prop):Prop:=match v with
 | .tup cs=>md EH cs fun cs=>K (.tup cs)
 |v=>EH v K
noncomputable def I4(l:List (List AV)):(List (List AV)→Prop)→Prop:=
 List.rec (motive:=fun _=>(List (List AV)→Prop)→Prop) (fun K=>K []) (fun x _ ih K=>md fc x fun x=>ih fun l=>K (x::l)) l
def AN(n:Nat)(K:Nat→Prop):Prop:=match Nat.beq n 0 with
 |true=>K 0
 |false=>match Nat.beq n 1 with
  |true=>K 1
  |false=>K n
def Jm(m:MB)(K:MB→Prop):Prop:=match m with
 | .abs=>K .abs
 | .dead=>K .dead
 | .live ⟨arr,lvl,z,rows⟩=>AN lvl fun lvl=>md vo z fun z=>match arr with
  |true=>K (.live ⟨true,lvl,z,rows⟩)
  |false=>I4 rows fun rows=>K (.live ⟨false,lvl,z,rows⟩)
def vT:Ms→Ms→(Ms→Prop)→Prop
 |[],ms,K=>K ms
 |(b,m)::l,ms,K=>Jm m fun m=>vT l ((b,m)::ms) K
def RP.go{α:Type}(p:RP α):Ts→Ms→(α→Prop)→Prop:=
 RP.rec (motive:=fun _=>Ts→Ms→(α→Prop)→Prop) (fun a _ _ K=>K a) (fun k _ ih ts ms K=>ih (cX ts k) ts ms K) (fun b _ ih ts ms K=>ih (cd ms b) ts ms K) (fun b _ ih ts ms K=>RqS b (ih ts ms K)) (fun _ _ _=>False) p
def RP.goL{α:Type}(p:RP α):Ts→Ms→(α→List Nat→List Nat→Prop)→Prop:=
 RP.rec (motive:=fun _=>Ts→Ms→(α→List Nat→List Nat→Prop)→Prop) (fun a _ _ K=>K a [] []) (fun k _ ih ts ms K=>ih (cX ts k) ts ms fun a s m=>K a (k::s) m) (fun b _ ih ts ms K=>ih (cd ms b) ts ms fun a s m=>K a s (b::m)) (fun b _ ih ts ms K=>RqS b (ih ts ms K)) (fun _ _ _=>False) p
def yb(t:Bool)(x y:AV)(K:AV→Prop):Prop:=match x with
 | .int k n=>match y with
  | .int k' m=>if k=k' then K (.int k (if t=true then n else m))else BrS t (K (.int k n)) (K (.int k' m))
  |y=>BrS t (K (.int k n)) (K y)
 | .bool a=>match y with
  | .bool b=>K (.bool (if t=true then a else b))
  |y=>BrS t (K (.bool a)) (K y)
 | .str a=>match y with
  | .str b=>K (.str (if t=true then a else b))
  |y=>BrS t (K (.str a)) (K y)
 |x=>BrS t (K x) (K y)
def pg(i:TI)(j:Nat)(K:AV→Prop)(row:List AV):Prop:=md vo ((row.drop j).take i.size) fun cs=>okK (cs.all AV.light&&cs.length==i.size)<|match fI i.ut with
 |true=>K (.agg cs)
 |false=>match cs with
  |[c]=>K c
  |_=>False
def GC(blk:Blk)(r:Nat)(K:List AV→Prop):Prop:=match blk with
 |⟨arr,_,z,rows⟩=>match arr with
  |true=>RowG (dn rows r z) K
  |false=>K (dn rows r z)
def ot(i:TI)(v:AV)(b r j:Nat)(blk:Blk)(K:MB→Prop):Prop:=match blk with
 |⟨arr,lvl,z,rows⟩=>md vo v.leaves fun vs=>match arr&&Nat.blt z.length i.size with
  |true=>okK (z.length==1&&j==0&&vs.length==i.size&&decide (r+i.size≤rows.length)&&vs.all AV.plain&&decide (lvl≤1)) (RowsG (fL rows r vs) fun rows=>K (.live ⟨true,max lvl (gh vs),z,rows⟩))
  |false=>okK (vs.length==i.size&&decide (j+i.size≤z.length))<|match arr with
   |true=>okK (vs.all AV.plain&&decide (lvl≤1)) (RowsG (bl rows r j z vs) fun rows=>K (.live ⟨true,max lvl (gh vs),z,rows⟩))
   |false=>okK (vs.all AV.light&&(((dn rows r z).drop j).take i.size).all (fun c=> !c.isUndef)) (K (.live ⟨false,lvl,z,bl rows r j z vs⟩))
def ym(r:di)(K:di→Prop):Prop:=match r with
 |(v,[(b,.live ⟨true,lvl,z,rows⟩)])=>I4 rows fun rows=>K (v,[(b,.live ⟨true,lvl,z,rows⟩)])
 |r=>K r
inductive AppG(lvl:Nat)(rows:List (List AV))(n:Nat)(K:Nat→List (List AV)→Nat→Prop):Prop where
 |mk (lvl':Nat) (rows':List (List AV)) (n':Nat) (h0:lvl=lvl') (h1:rows=rows') (h2:n=n') (k:K lvl' rows' n'):AppG lvl rows n K
def C9(r:di)(K:di→Prop):Prop:=match r with
 |(v,l)=>match v with
  | .ref b off n=>match l with
   |[(b1,m1),(b2,m2)]=>match m2 with
    | .live ⟨arr,lvl,z,rows⟩=>AppG lvl rows n fun lvl rows n=>K (.ref b off n,[(b1,m1),(b2,.live ⟨arr,lvl,z,rows⟩)])
    |m2=>K (.ref b off n,[(b1,m1),(b2,m2)])
   |[(b2,m2)]=>match m2 with
    | .live ⟨arr,lvl,z,rows⟩=>AppG lvl rows n fun lvl rows n=>K (.ref b off n,[(b2,.live ⟨arr,lvl,z,rows⟩)])
    |m2=>K (.ref b off n,[(b2,m2)])
   |l=>K (.ref b off n,l)
  | .int k n=>match l with
   |[(b2,m2)]=>match m2 with
    | .live ⟨arr,lvl,z,rows⟩=>RowsG rows fun rows=>K (.int k n,[(b2,.live ⟨arr,lvl,z,rows⟩)])
    |m2=>K (.int k n,[(b2,m2)])
   |l=>K (.int k n,l)
  |v=>K (v,l)
inductive BytG(rows:List (List AV))(K:List UInt8→Prop):Prop where
 |mk (b:List UInt8) (h:cI rows=some b) (k:K b):BytG rows K
def A1(T:TT)(same:Bool)(i j:TI)(v:AV)(d:Nat)(ts:Ts)(ms:Ms)(K:di→Prop):Prop:=match j.ut with
 | .str=>match v with
  | .str b=>K (.str b,[])
  |v=>match i.ut with
   | .slice e=>(TI.ofT T e).go ts ms fun je=>match je.ut with
    | .int .u8=>(oB [.undef] v).go ts ms fun r=>BytG r.2 fun b=>K (.str b,[])
    |_=>False
   |_=>False
 |_=>(py T same i j v d).go ts ms K
def wJ(T:TT)(same:Bool)(i j:TI)(v:AV)(d:Nat)(ts:Ts)(ms:Ms)(K:di→List Nat→List Nat→Prop):Prop:=match j.ut with
 | .str=>match v with
  | .str b=>K (.str b,[]) [] []
  |v=>match i.ut with
   | .slice e=>(TI.ofT T e).goL ts ms fun je s m=>match je.ut with
    | .int .u8=>(oB [.undef] v).goL ts ms fun r s' m'=>BytG r.2 fun b=>K (.str b,[]) (s++s') (m++m')
    |_=>False
   |_=>False
 |_=>(py T same i j v d).goL ts ms K
def GX(T:TT)(o:Oper)(ts:Ts)(ms:Ms)(K:di→Prop):Prop:=match o.op with
 | .pick c a b=>(cK c).go ts ms fun c=>match c with
  | .bool t=>(cK a).go ts ms fun x=>(cK b).go ts ms fun y=>yb t x y fun v=>K (v,[])
  |_=>False
 | .load t x=>(TI.ofT T t).go ts ms fun i=>(cK x).go ts ms fun v=>match v with
  | .ptr b r j=>match cd ms b with
   | .live blk=>GC blk r (pg i j fun c=>K (c,[]))
   |_=>False
  | .rp row j=>RowG row (pg i j fun c=>K (c,[]))
  |_=>False
 | .store t x y=>(TI.ofT T t).go ts ms fun i=>(cK y).go ts ms fun v=>(cK x).go ts ms fun a=>match a with
  | .ptr b r j=>match cd ms b with
   | .live blk=>fc v fun v=>ot i v b r j blk fun m=>K (.undef,[(b,m)])
   |_=>False
  |_=>False
 | .convert s t x=>match o.dst with
  |some d=>(TI.ofT T s).go ts ms fun i=>(TI.ofT T t).go ts ms fun j=>(cK x).go ts ms fun v=>A1 T (Nat.beq s t) i j v d ts ms K
  |none=>False
 | .buildSlice _ _ _=>(io T o).go ts ms fun r=>ym r K
 | .call _=>(io T o).go ts ms fun r=>C9 r K
 |_=>(io T o).go ts ms K
def DT(T:TT)(o:Oper)(ts:Ts)(ms:Ms)(K:di→List Nat→List Nat→Prop):Prop:=match o.op with
 | .pick c a b=>(cK c).goL ts ms fun c s m=>match c with
  | .bool t=>(cK a).goL ts ms fun x s' m'=>(cK b).goL ts ms fun y s'' m''=>yb t x y fun v=>K (v,[]) (s++(s'++s'')) (m++(m'++m''))
  |_=>False
 | .load t x=>(TI.ofT T t).goL ts ms fun i s0 m0=>(cK x).goL ts ms fun v s m=>match v with
  | .ptr b r j=>match cd ms b with
   | .live blk=>GC blk r (pg i j fun c=>K (c,[]) (s0++s) (m0++(m++[b])))
   |_=>False
  | .rp row j=>RowG row (pg i j fun c=>K (c,[]) (s0++s) (m0++m))
  |_=>False
 | .store t x y=>(TI.ofT T t).goL ts ms fun i s0 m0=>(cK y).goL ts ms fun v s m=>(cK x).goL ts ms fun a s' m'=>match a with
  | .ptr b r j=>match cd ms b with
   | .live blk=>fc v fun v=>ot i v b r j blk fun mb=>K (.undef,[(b,mb)]) (s0++(s++s')) (m0++(m++(m'++[b])))
   |_=>False
  |_=>False
 | .convert s t x=>match o.dst with
  |some d=>(TI.ofT T s).goL ts ms fun i s0 m0=>(TI.ofT T t).goL ts ms fun j s1 m1=>(cK x).goL ts ms fun v s2 m2=>wJ T (Nat.beq s t) i j v d ts ms fun r s3 m3=>K r (s0++(s1++(s2++s3))) (m0++(m1++(m2++m3)))
  |none=>False
 | .buildSlice _ _ _=>(io T o).goL ts ms fun r s m=>ym r fun r=>K r s m
 | .call _=>(io T o).goL ts ms fun r s m=>C9 r fun r=>K r s m
 |_=>(io T o).goL ts ms K
def kv(n:Fx)(o:Oper)(r:di)(ts:Ts)(ms:Ms)(K:Ts→Ms→Prop):Prop:=match r with
 |(v,l)=>vT l ms fun ms=>match o.dst with
  |none=>K ts ms
  |some d=>okK (Nat.blt d n.n) (fc v fun v=>K ((d,v)::ts) ms)
def pB(n:Fx)(o:Oper)(res:AV)(ts:Ts)(ms:Ms)(K:Ts→Ms→Prop):Prop:=match o.dst with
 |none=>K ts ms
 |some d=>okK (gm res)<|match gP (EF d 0) res with
  |(v,l)=>okK (l.all fun p=>fN (cd ms p.1))<|okK (Nat.blt d n.n)<|vT l ms fun ms=>fc v fun v=>K ((d,v)::ts) ms
inductive HandG(P:Program)(f:FuncId)(as os:List AV)(j:Nat)(rows:List (List AV))(z:List AV)(any:Bool)(K:MB→AV→Prop):Prop where
 |mk (lvl':Nat) (z':List AV) (rows':List (List AV)) (res:AV) (h:Con P f as (os.set j (.own lvl' z' rows')) res) (h1:rows'.length=rows.length) (h2:(Nat.beq z'.length z.length&&Nat.ble lvl' 1)=true)
   (h3:(!any||(res.nr&&lvl'==0))=true) (k:K (.live ⟨true,lvl',z',rows'⟩) res):HandG P f as os j rows z any K
def Bk(P:Program)(n:Fx)(o:Oper)(ts:Ts)(ms:Ms)(K:Ts→Ms→Prop)(f:FuncId)(as:List AV)(j:Nat):Prop:=match as[j]? with
 |some x=>match x with
  | .ref b off m=>match off with
   |0=>match cd ms b with
    | .live ⟨arr,lvl,z,rows⟩=>match arr with
     |true=>okK (Nat.ble lvl 1)<|RqS (decide (m=rows.length))<|(ea (as.set j .undef)).go ts ((b,.dead)::ms) fun ys=>md EH (ys.set j (.own lvl z rows)) fun ys'=>
       HandG P f ys' (aa as) j rows z ((as.set j .undef).any AV.hasRef) fun m' res=>Jm m' fun m'=>pB n o res ts ((b,m')::ms) K
     |false=>False
    |_=>False
   |_=>False
  |_=>False
 |none=>False
abbrev Gv:=List (Option (Nat × Nat × List AV × List (List AV)))
def wZ:Gv→List Nat
 |[]=>[]
 |some (b,_)::l=>b::wZ l
 |none::l=>wZ l
def rY:Gv→List AV→List AV
 |none::l,x::cs=>x::rY l cs
 |some (_,lvl,z,rows)::l,_::cs=>.own lvl z rows::rY l cs
 |_,_=>[]
def ox:Gv→List AV→Prop
 |[],[]=>True
 |none::l,o::os=>o=.undef∧ox l os
 |some (_,_,z,rows)::l,o::os=>(match o with
  | .own _ z' rows'=>rows'.length=rows.length∧z'.length=z.length
  |_=>False)∧ox l os
 |_,_=>False
def GY:Gv→List AV→List (Nat × MB)
 |none::l,_::os=>GY l os
 |some (b,_)::l,.own lvl' z' rows'::os=>(b,.live ⟨true,lvl',z',rows'⟩)::GY l os
 |_,_=>[]
def G2(ms:Ms):List AV→(Gv→Prop)→Prop
 |[],K=>K []
 |x::cs,K=>match x with
  | .ref b off n=>match off with
   |0=>match cd ms b with
    | .live ⟨arr,lvl,z,rows⟩=>match arr with
     |true=>okK (Nat.ble lvl 1)<|RqS (decide (n=rows.length))<|G2 ms cs fun l=>okK (!(wZ l).contains b) (K (some (b,lvl,z,rows)::l))
     |false=>False
    |_=>False
   |_=>False
  |x=>okK x.goes (G2 ms cs fun l=>K (none::l))
inductive HandAG(P:Program)(f:FuncId)(gv:Gv)(args ys os:List AV)(K:List AV→AV→Prop):Prop where
 |mk (os':List AV) (res:AV) (h:Con P f (.agg args::ys) (.agg os'::os) res) (h1:ox gv os') (k:K os' res):HandAG P f gv args ys os K
def xe(P:Program)(n:Fx)(o:Oper)(ts:Ts)(ms:Ms)(K:Ts→Ms→Prop)(f:FuncId)(as:List AV):Prop:=match as with
 | .agg cs::rest=>md vo cs fun cs=>okK (!(rest.any AV.hasRef))<|(ea rest).go [] [] fun ys=>md EH ys fun ys=>G2 ms cs fun gv=>md GW (rY gv cs) fun args=>
   HandAG P f gv args ys (aa rest) fun os' res=>vT (GY gv os') ms fun ms=>pB n o res ts ms K
 |_=>False
inductive CallX(f:FuncId)(L:Prop)(H:Nat→Prop)(A:Prop):Prop where
 |lend (h:L):CallX f L H A
 |hand (j:Nat) (h:H j):CallX f L H A
 |handA (h:A):CallX f L H A
def yf(P:Program)(n:Fx)(o:Oper)(ts:Ts)(ms:Ms)(K:Ts→Ms→Prop)(q:AV × List AV × List AV):Prop:=match q with
 |(fv,as,ys)=>match fv with
  | .fn f caps=>match caps with
   |[]=>CallX f (md EH ys fun ys=>match as.any AV.hasRef with
    |false=>CallG P f ys fun res=>pB n o res ts ms K
    |true=>CallG P f ys fun res=>match res.nr with
     |true=>pB n o res ts ms K
     |false=>vT (jy as) ms fun ms=>pB n o res ts ms K) (Bk P n o ts ms K f as) (xe P n o ts ms K f as)
   |_=>False
  |_=>False
def sR(x:AV)(ms:Ms)(K:AV→Ms→Prop):Prop:=match x with
 | .ref b off n=>match cd ms b with
  | .live ⟨arr,lvl,z,rows⟩=>match arr with
   |true=>okK (Nat.ble lvl 1) (K (.own lvl z (am rows off n)) ((b,.dead)::ms))
   |false=>False
  |_=>False
 |v=>okK v.goes (K v ms)
def jf:List AV→Ms→(List AV→Ms→Prop)→Prop
 |[],ms,K=>K [] ms
 |x::l,ms,K=>sR x ms fun y ms=>jf l ms fun ys ms=>K (y::ys) ms
def AC(x:AV)(n:Nat)(ms:Ms)(K:AV→Ms→Prop):Prop:=match x with
 | .ptr b i j=>match i with
  |0=>match cd ms b with
   | .live ⟨arr,lvl,z,rows⟩=>match arr with
    |false=>match rows with
     |[row]=>md vo ((row.drop j).take n) fun cs=>okK (Nat.ble (j+n) row.length&&cs.all fun c=>c.light&& !c.isUndef)<|
       vT [(b,.live ⟨false,lvl,z,[setCells row j (List.replicate n .undef)]⟩)] ms fun ms=>
       jf cs ms fun ys ms=>okK (ys.all fun c=> !c.isUndef) (K (.obj ys) ms)
     |_=>False
    |true=>False
   |_=>False
  |_=>False
 |_=>False
def tX:List (Option Nat)→List AV→Ms→(List AV→Ms→Prop)→Prop
 |[],[],ms,K=>K [] ms
 |none::fs,_::as,ms,K=>tX fs as ms fun l ms=>K (.undef::l) ms
 |some n::fs,x::as,ms,K=>AC x n ms fun y ms=>tX fs as ms fun l ms=>K (y::l) ms
 |_,_,_,_=>False
def HM(v:AV)(K:AV→Prop):Prop:=match v with
 | .obj cs=>md vo cs fun cs=>K (.obj cs)
 |v=>K v
def BU(x o:AV)(b0:Nat)(ms:Ms)(K:Ms→Prop):Prop:=match x with
 | .ptr b _ j=>match o with
  | .obj cs=>match cd ms b with
   | .live ⟨arr,lvl,z,rows⟩=>match arr with
    |false=>match rows with
     |[row]=>okK (cs.all cG&&Nat.ble (j+cs.length) row.length&&((row.drop j).take cs.length).all AV.isUndef)<|
      match aD b0 cs with
      |(vs,l)=>okK (l.all fun p=>fN (cd ms p.1))<|vT l ms fun ms=>vT [(b,.live ⟨false,lvl,z,[setCells row j vs]⟩)] ms K
     |_=>False
    |true=>False
   |_=>False
  |_=>False
 |_=>False
def qG:List (Option Nat)→List AV→List AV→Nat→Ms→(Ms→Prop)→Prop
 |[],[],[],_,ms,K=>K ms
 |none::fs,_::as,o::os,b0,ms,K=>match o with
  | .undef=>qG fs as os b0 ms K
  |_=>False
 |some _::fs,x::as,o::os,b0,ms,K=>BU x o b0 ms fun ms=>qG fs as os (Nat.add b0 100) ms K
 |_,_,_,_,_,_=>False
def rB:Ms→Nat→Nat
 |[],n=>n
 |p::l,n=>match Nat.ble n p.1 with
  |true=>match Nat.ble 500000 p.1 with
   |true=>rB l n
   |false=>rB l (p.1+1)
  |false=>rB l n
def xR(n:Nat)(K:Nat→Prop):Prop:=List.rec (motive:=fun _=>Prop) (K n) (fun b _ ih=>match Nat.ble n b with|true=>K b|false=>ih) [100000,100300,100600,100900,101200,101500,101800,102100,102400,102700,103000,103300,103600,103900,104200]
inductive CallPG(P:Program)(f:FuncId)(as:List AV)(K:List AV→AV→Prop):Prop where
 |mk (as' os:List AV) (res:AV) (e:as=as') (h:Con P f as' os res) (k:K os res):CallPG P f as K
inductive HandPX(f:FuncId)(H:List (Option Nat)→Prop):Prop where
 |mk (fs:List (Option Nat)) (h:H fs):HandPX f H
def Bt(as:List AV)(fv:AV):Bool:=as.any (fun v=>match v with| .ptr _ _ _=>true| .rp _ _=>true| .fn _ (_::_)=>true|_=>false)||(match fv with| .fn _ (_::_)=>true|_=>false)
def ub(P:Program)(n:Fx)(o:Oper)(ts:Ts)(ms:Ms)(K:Ts→Ms→Prop)(fv:AV)(as:List AV):Prop:=match fv with
 | .fn f caps=>md fc (as++caps) fun as=>HandPX f fun fs=>md fc (eM fs as) fun rs=>tX fs as ms fun gs ms=>(oQ rs).go ts ms fun ys=>md fc (xg fs gs ys) fun xs=>
   CallPG P f xs fun os res=>okK (!(rs.any AV.leads)||(res.nr&&os.all AV.nrO))<|md HM os fun os=>xR (rB ms 100000) fun b0=>qG fs as os b0 ms fun ms=>pB n o res ts ms K
 |_=>False
structure NilG(n:Nat)(K:Bool→Prop):Prop where
 k: ∀b:Bool,(b=true→n=0)→K b
def Gn(T:TT)(n:Fx)(o:Oper)(op:BinOp)(t:TypeId)(x:Operand)(ts:Ts)(ms:Ms)(K:Ts→Ms→Prop):Prop:=okK (qR T t)<|(cK x).go ts ms fun v=>match Da v with
 |some m=>match o.dst with
  |some d=>okK (Nat.blt d n.n)<|match op with
   | .eql=>NilG m fun b=>K ((d,.bool b)::ts) ms
   | .neq=>NilG m fun b=>K ((d,.bool (!b))::ts) ms
   |_=>False
  |none=>False
 |none=>False
def Jn(P:Program)(T:TT)(n:Fx)(o:Oper)(ts:Ts)(ms:Ms)(K:Ts→Ms→Prop):Prop:=match o.op with
 | .call c=>match c.callee with
  | .value f=>(cK f).go ts ms fun fv=>(gk c.args.toList).go ts ms fun as=>match Bt as fv with
   |true=>ub P n o ts ms K fv as
   |false=>(rc c f).go ts ms (yf P n o ts ms K)
  |_=>GX T o ts ms fun r=>kv n o r ts ms K
 | .binOp op t x y _=>match tT y with
  |true=>Gn T n o op t x ts ms K
  |false=>GX T o ts ms fun r=>kv n o r ts ms K
 |_=>GX T o ts ms fun r=>kv n o r ts ms K
def Bl(n:Fx)(o:Oper)(ts:Ts)(ms:Ms)(K:Ts→Ms→Prop):Prop:=match o.dst with
 |none=>K ts ms
 |some d=>okK (Nat.blt d n.n) (K ((d,.tup [])::ts) ms)
def CG(d:Nat)(want:Bool)(v:AV)(ts:Ts)(X:Ts→Prop)(Y:Ts→Prop):Prop:=match v with
 | .bool b=>match want with
  |true=>BrS b (X ((d,.bool true)::ts)) (Y ((d,.bool false)::ts))
  |false=>BrS b (Y ((d,.bool true)::ts)) (X ((d,.bool false)::ts))
 | .tup vs=>match vs with
  |[]=>Y ts
  |_=>False
 |_=>False
def Bm:List (Nat × List Nat)→Nat→Option (List Nat)
 |[],_=>none
 |p::l,k=>match Nat.beq k p.1 with
  |true=>some p.2
  |false=>Bm l k
def lz(k:Nat)(ts:Ts)(ms:Ms)(K:Ts→Ms→Prop):Prop:=match cX ts k with
 | .ref b off len=>match cd ms b with
  | .live ⟨arr,lvl,z,rows⟩=>match arr with
   |true=>okK (Nat.ble lvl 1) (K ((k,.ro z (am rows off len))::ts) ((b,.dead)::ms))
   |false=>False
  |_=>False
 |_=>False
def uJ:List Nat→Ts→Ms→(Ts→Ms→Prop)→Prop
 |[],ts,ms,K=>K ts ms
 |k::l,ts,ms,K=>match cX ts k with
  | .ref b off len=>match cd ms b with
   | .live ⟨arr,lvl,z,rows⟩=>match arr with
    |true=>okK (Nat.ble lvl 1) (RowsG (am rows off len) fun rows=>uJ l ((k,.ro z rows)::ts) ((b,.dead)::ms) K)
    |false=>False
   |_=>False
  |_=>uJ l ts ms K
def rU(n:Fx)(o:Oper)(ts:Ts)(ms:Ms)(K:Ts→Ms→Prop):Prop:=match n.kp with
 |[]=>K ts ms
 |kp=>match o.dst with
  |some d=>match Bm kp (Nat.add 1000000 d)with
   |some ks=>uJ ks ts ms K
   |none=>K ts ms
  |none=>K ts ms
def wL(P:Program)(T:TT)(n:Fx)(ops:List Oper):List Oper→Ts→Ms→(Ts→Ms→Prop)→Prop
 |[],ts,ms,K=>K ts ms
 |o::rest,ts,ms,K=>match jE ops o with
  |some none=>Jn P T n o ts ms fun ts ms=>rU n o ts ms fun ts ms=>wL P T n ops rest ts ms K
  |some (some (d,want))=>CG d want (cX ts d) ts (fun ts=>Jn P T n o ts ms fun ts ms=>rU n o ts ms fun ts ms=>wL P T n ops rest ts ms K) fun ts=>Bl n o ts ms fun ts ms=>rU n o ts ms fun ts ms=>wL P T n ops rest ts ms K
  |none=>False
def BD(P:Program)(o:Oper)(ms:Ms)(K:di→List Nat→List Nat→Prop)(q:AV × List AV × List AV)(s m:List Nat):Prop:=match q with
 |(fv,as,ys)=>match fv with
  | .fn f caps=>match caps with
   |[]=>md EH ys fun ys=>CallG P f ys fun res=>okK (match o.dst with|none=>true|some _=>gm res)<|
     match bQ o res with
     |(v,l)=>okK (l.all fun p=>fN (cd ms p.1))<|match !(as.any AV.hasRef)||res.nr with
      |true=>K (v,l) s (m++l.map (·.1))
      |false=>okK (gN (hN as) (l.map (·.1))) (K (v,jy as++l) s (m++l.map (·.1)))
   |_=>False
  |_=>False
def tG(x:AV)(ms:Ms)(K:AV→Ms→Wr→Prop):Prop:=match x with
 | .ref b off n=>match cd ms b with
  | .live ⟨arr,lvl,z,rows⟩=>match arr with
   |true=>okK (Nat.ble lvl 1) (K (.own lvl z (am rows off n)) ((b,.dead)::ms) [(b,.dead)])
   |false=>False
  |_=>False
 |v=>okK v.goes (K v ms [])
def oC:List AV→Ms→(List AV→Ms→Wr→List Nat→Prop)→Prop
 |[],ms,K=>K [] ms [] []
 |x::l,ms,K=>tG x ms fun y ms W=>oC l ms fun ys ms W' L'=>K (y::ys) ms (W++W') (x.refs0++L')
def Cr(x:AV)(n:Nat)(ms:Ms)(K:AV→Ms→Wr→List Nat→Prop):Prop:=match x with
 | .ptr b i j=>match i with
  |0=>match cd ms b with
   | .live ⟨arr,lvl,z,rows⟩=>match arr with
    |false=>match rows with
     |[row]=>md vo ((row.drop j).take n) fun cs=>okK (Nat.ble (j+n) row.length&&cs.all fun c=>c.light&& !c.isUndef)<|
       vT [(b,.live ⟨false,lvl,z,[setCells row j (List.replicate n .undef)]⟩)] ms fun ms=>
       oC cs ms fun ys ms W L=>okK (ys.all fun c=> !c.isUndef) (K (.obj ys) ms ((b,.live ⟨false,lvl,z,[setCells row j (List.replicate n .undef)]⟩)::W) (b::L))
     |_=>False
    |true=>False
   |_=>False
  |_=>False
 |_=>False
def sW:List (Option Nat)→List AV→Ms→(List AV→Ms→Wr→List Nat→Prop)→Prop
 |[],[],ms,K=>K [] ms [] []
 |none::fs,_::as,ms,K=>sW fs as ms fun l ms W L=>K (.undef::l) ms W L
 |some n::fs,x::as,ms,K=>Cr x n ms fun y ms W L=>sW fs as ms fun l ms W' L'=>K (y::l) ms (W++W') (L++L')
 |_,_,_,_=>False
def Bu(x o:AV)(b0:Nat)(ms:Ms)(K:Ms→Wr→List Nat→Prop):Prop:=match x with
 | .ptr b _ j=>match o with
  | .obj cs=>match cd ms b with
   | .live ⟨arr,lvl,z,rows⟩=>match arr with
    |false=>match rows with
     |[row]=>okK (cs.all cG&&Nat.ble (j+cs.length) row.length&&((row.drop j).take cs.length).all AV.isUndef)<|
      match aD b0 cs with
      |(vs,l)=>okK (l.all fun p=>fN (cd ms p.1))<|vT l ms fun ms=>vT [(b,.live ⟨false,lvl,z,[setCells row j vs]⟩)] ms fun ms=>
       K ms (l++[(b,.live ⟨false,lvl,z,[setCells row j vs]⟩)]) (b::l.map (·.1))
     |_=>False
    |true=>False
   |_=>False
  |_=>False
 |_=>False
def rC:List (Option Nat)→List AV→List AV→Nat→Ms→(Ms→Wr→List Nat→Prop)→Prop
 |[],[],[],_,ms,K=>K ms [] []
 |none::fs,_::as,o::os,b0,ms,K=>match o with
  | .undef=>rC fs as os b0 ms K
  |_=>False
 |some _::fs,x::as,o::os,b0,ms,K=>Bu x o b0 ms fun ms W L=>rC fs as os (Nat.add b0 100) ms fun ms W' L'=>K ms (W++W') (L++L')
 |_,_,_,_,_,_=>False
def xr(P:Program)(n:Fx)(o:Oper)(ts:Ts)(ms:Ms)(K:di→List Nat→List Nat→Prop)(fv:AV)(as:List AV)(s1 m1 s2 m2:List Nat):Prop:=match fv with
 | .fn f caps=>okK (match o.dst with|none=>true|some d=>Nat.blt d n.n)<|md fc (as++caps) fun as=>HandPX f fun fs=>md fc (eM fs as) fun rs=>sW fs as ms fun gs ms1 W1 L1=>(oQ rs).goL ts ms1 fun ys s3 m3=>md fc (xg fs gs ys) fun xs=>
   CallPG P f xs fun os res=>okK (!(rs.any AV.leads)||(res.nr&&os.all AV.nrO))<|md HM os fun os=>xR (rB ms1 100000) fun b0=>rC fs as os b0 ms1 fun ms2 W2 L2=>
   okK (match o.dst with|none=>true|some _=>gm res)<|match bQ o res with
   |(v,l)=>okK (l.all fun p=>fN (cd ms2 p.1)) (K (v,W1++(W2++l)) (s1++(s2++s3)) (m1++(m2++(L1++(m3++(L2++l.map (·.1)))))))
 |_=>False
def DW(P:Program)(T:TT)(n:Fx)(o:Oper)(ts:Ts)(ms:Ms)(K:di→List Nat→List Nat→Prop):Prop:=match o.op with
 | .call c=>match c.callee with
  | .value f=>(cK f).goL ts ms fun fv s1 m1=>(gk c.args.toList).goL ts ms fun as s2 m2=>match Bt as fv with
   |true=>xr P n o ts ms K fv as s1 m1 s2 m2
   |false=>(rc c f).goL ts ms (BD P o ms K)
  |_=>DT T o ts ms K
 |_=>DT T o ts ms K
def yL(d:Nat)(want:Bool)(v:AV)(X:(di→List Nat→List Nat→Prop)→Prop)(K:di→List Nat→List Nat→Prop):Prop:=match v with
 | .bool b=>match want with
  |true=>BrS b (X fun r s m=>K r (d::s) m) (K (.tup [],[]) [d] [])
  |false=>BrS b (K (.tup [],[]) [d] []) (X fun r s m=>K r (d::s) m)
 | .tup vs=>match vs with
  |[]=>K (.tup [],[]) [d] []
  |_=>False
 |_=>False
abbrev Sm:=Nat × List Nat × List Nat × List Nat × List Nat
def Item.sm(y:Item):Sm:=(y.i,y.ws,y.rs,y.rm,y.wm)
def Hx:List Nat→Nat→Bool
 |[],_=>false
 |x::l,b=>match Nat.beq b x with
  |true=>true
  |false=>Hx l b
def jI:List Nat→List Nat→Bool
 |[],_=>true
 |x::l,l'=>match Hx l' x with
  |true=>false
  |false=>jI l l'
def wY:Sm→Sm→Bool
 |(_,ws,rs,rm,wm),(_,ws',rs',rm',wm')=>jI ws rs'&&jI ws' rs&&jI ws ws'&&jI wm rm'&&jI wm' rm&&jI wm wm'
def uV(c:List Nat)(x:Sm):List Sm→Bool
 |[]=>true
 |y::l=>(Hx c y.1||wY y x)&&uV c x l
def Aa:List Nat→(List Nat→Prop)→Prop
 |[],K=>K []
 |x::l,K=>Aa l fun l=>K (x::l)
def DE:List (List Nat)→(List (List Nat)→Prop)→Prop
 |[],K=>K []
 |x::l,K=>Aa x fun x=>DE l fun l=>K (x::l)
def zq:List (List Nat)→List Nat × List (List Nat)
 |[]=>([],[])
 |x::l=>(x,l)
def vN(P:Program)(T:TT)(n:Fx)(ops:List Oper):List (List Nat)→List Sm→Nat→List Oper→Ts→Ms→(Ts→Ms→Prop)→Prop
 |_,_,_,[],ts,ms,K=>K ts ms
 |cl,past,i,o::rest,ts,ms,K=>
  let F:di→List Nat→List Nat→Prop:=fun r s m=>Aa s fun s=>Aa m fun m=>Aa o.dst.toList fun ws=>Aa (r.2.map (·.1)) fun wm=>
   ChkS (uV (zq cl).1 (i,ws,s,m,wm) past) (kv n o r ts ms fun ts ms=>vN P T n ops (zq cl).2 ((i,ws,s,m,wm)::past) (Nat.add i 1) rest ts ms K)
  match jE ops o with
  |some none=>DW P T n o ts ms F
  |some (some (d,want))=>yL d want (cX ts d) (DW P T n o ts ms) F
  |none=>False
def QL(n:Fx)(Q:Ex→Ts→Ms→Prop)(e:Ex)(st:St):Prop:= ∃ts ms,st=St.ls n ts ms∧Q e ts ms
def Ey(c:Operand)(b:Bool)(ts:Ts):Ts:=match c with
 | .tmp k=>(k,.bool b)::ts
 |_=>ts
def Cq(c:Operand)(b:Bool)(ts:Ts)(K:Ts→Prop):Prop:=match c with
 | .tmp k=>K ((k,.bool b)::ts)
 |_=>K ts
def JQ(X:Ts→Ms→Prop)(Q:Ex→Ts→Ms→Prop):Ex→Ts→Ms→Prop
 | .normal,ts,ms=>X ts ms
 | .exit i,ts,ms=>Q (.exit i) ts ms
 | .ret,ts,ms=>Q .ret ts ms
def Bc(id:Nat)(Q:Ex→Ts→Ms→Prop):Ex→Ts→Ms→Prop
 | .normal,ts,ms=>Q .normal ts ms
 | .exit i,ts,ms=>match Nat.beq i id with
  |true=>Q .normal ts ms
  |false=>Q (.exit i) ts ms
 | .ret,ts,ms=>Q .ret ts ms
def CX(v:AV)(ms:Ms)(X:Prop):Prop:=match v with
 | .int k n=>FacG (fun d=>AV.facts d (.int k n)) X
 | .str s=>FacG (fun d=>AV.facts d (.str s)) X
 | .ro z rows=>FacG (fun d=>AV.facts d (.ro z rows)) X
 | .ref b _ _=>match cd ms b with
  | .live ⟨true,lvl,z,rows⟩=>FacG (fun d=>MB.facts d (.live ⟨true,lvl,z,rows⟩)) X
  |_=>X
 |_=>X
def C8:List AV→Ms→Prop→Prop
 |[],ms,X=>X
 |x::l,ms,X=>CX x ms (C8 l ms X)
def GO(v:AV)(ms:Ms)(X:Prop):Prop:=match v with
 | .agg cs=>C8 cs ms X
 | .tup cs=>C8 cs ms X
 |v=>CX v ms X
def yn(o:Oper)(ts:Ts)(ms:Ms)(X:Prop):Prop:=match o.op with
 | .call c=>match c.callee with
  | .value _=>match o.dst with
   |some d=>GO (cX ts d) ms X
   |none=>X
  |_=>X
 |_=>X
def xj:List Oper→Ts→Ms→Prop→Prop
 |[],ts,ms,X=>X
 |o::l,ts,ms,X=>yn o ts ms (xj l ts ms X)
def A8(ks:List Nat)(ts:Ts):(Ts→Prop)→Prop:=
 List.rec (motive:=fun _=>(Ts→Prop)→Prop) (fun K=>K []) (fun k _ ih K=>fc (cX ts k) fun v=>ih fun l=>K ((k,v)::l)) ks
def qN:List (Nat × Nat)→Nat→(Nat→Prop)→Prop
 |[],b,K=>K b
 |(a,o)::l,b,K=>match Nat.beq b o with
  |true=>K a
  |false=>qN l b K
def AA(bs:List (Nat × Nat))(v:AV)(K:AV→Prop):Prop:=match v with
 | .ref b o n=>qN bs b fun b=>K (.ref b o n)
 | .ptr b i j=>qN bs b fun b=>K (.ptr b i j)
 |v=>K v
def rA(F:AV→(AV→Prop)→Prop):List AV→(List AV→Prop)→Prop
 |[],K=>K []
 |x::l,K=>F x fun x=>rA F l fun l=>K (x::l)
def oX(bs:List (Nat × Nat))(v:AV)(K:AV→Prop):Prop:=match v with
 | .fn g caps=>rA (AA bs) caps fun caps=>K (.fn g caps)
 | .ref b o n=>qN bs b fun b=>K (.ref b o n)
 | .ptr b i j=>qN bs b fun b=>K (.ptr b i j)
 |v=>K v
def yh(bs:List (Nat × Nat))(v:AV)(K:AV→Prop):Prop:=match v with
 | .agg cs=>rA (oX bs) cs fun cs=>K (.agg cs)
 | .tup cs=>rA (oX bs) cs fun cs=>K (.tup cs)
 |v=>oX bs v K
def yp(bs:List (Nat × Nat)):List (List AV)→(List (List AV)→Prop)→Prop
 |[],K=>K []
 |x::l,K=>rA (oX bs) x fun x=>yp bs l fun l=>K (x::l)
def zX(bs:List (Nat × Nat))(m:MB)(K:MB→Prop):Prop:=match m with
 | .live ⟨arr,lvl,z,rows⟩=>match arr with
  |true=>K (.live ⟨true,lvl,z,rows⟩)
  |false=>yp bs rows fun rows=>K (.live ⟨false,lvl,z,rows⟩)
 |m=>K m
def qT(bs:List (Nat × Nat))(ts:Ts):List Nat→(Ts→Prop)→Prop
 |[],K=>K []
 |k::ks,K=>fc (cX ts k) fun v=>yh bs v fun v=>qT bs ts ks fun l=>K ((k,v)::l)
def ph(bs:List (Nat × Nat))(ms:Ms):List (Nat × Nat)→(Ms→Prop)→Prop
 |[],K=>K []
 |(a,o)::l,K=>Jm (cd ms o) fun m=>zX bs m fun m=>ph bs ms l fun l=>K ((a,m)::l)
def yI(n:Fx)(ks:List Nat)(bs:List (Nat × Nat))(ts:Ts)(ms:Ms)(K:Ts→Ms→Prop):Prop:=
 okK (fT (St.ls n ts ms) ks bs) (qT bs ts ks fun ts'=>ph bs ms bs fun ms'=>K ts' ms')
def BZ(n:Fx)(ks:List Nat)(bs:List (Nat × Nat))(ts:Ts)(ms:Ms)(K:Ts→Ms→Prop):Prop:=
 ChkS (fT (St.ls n ts ms) ks bs) (qT bs ts ks fun ts'=>ph bs ms bs fun ms'=>K ts' ms')
def Fh:List (Nat × Nat)→Nat→Bool
 |[],_=>false
 |p::l,b=>match Nat.beq p.2 b with
  |true=>true
  |false=>Fh l b
def EQ:List Nat→Nat→Bool
 |[],_=>false
 |x::l,b=>match Nat.beq x b with
  |true=>true
  |false=>EQ l b
def BT:List Nat:=[1,2,3,4,5,6,7,8,9,10,11,12,13,14,15,16,17,18,19,20,21,22,23,24,25,26,27,28,29,30,31,32,33,34,35,36,37,38,39,40,41,42,43,44,45,46,47,48,49,50,51,52,53,54,55,56,57,58,59,60]
abbrev KB:=List Nat→List (Nat × Nat)→Prop
def nt(an:List Nat)(nm:List Nat)(bs:List (Nat × Nat))(b:Nat)(K:KB):Prop:=match Fh bs b with
 |true=>K nm bs
 |false=>match nm with
  |[]=>False
  |m::nm=>match EQ an b with
   |true=>K nm ((b,b)::bs)
   |false=>K nm ((m,b)::bs)
def xH(an:List Nat)(nm:List Nat)(bs:List (Nat × Nat))(v:AV)(K:KB):Prop:=match v with
 | .ref b _ _=>nt an nm bs b K
 | .ptr b _ _=>nt an nm bs b K
 |_=>K nm bs
def qd(F:List Nat→List (Nat × Nat)→AV→KB→Prop):List AV→List Nat→List (Nat × Nat)→KB→Prop
 |[],nm,bs,K=>K nm bs
 |x::l,nm,bs,K=>F nm bs x fun nm bs=>qd F l nm bs K
def qS(an:List Nat)(ms:Ms)(nm:List Nat)(bs:List (Nat × Nat))(v:AV)(K:KB):Prop:=match v with
 | .ref b _ _=>nt an nm bs b K
 | .ptr b i j=>match Fh bs b with
  |true=>K nm bs
  |false=>match cd ms b with
   | .live ⟨arr,_,_,rows⟩=>match arr with
    |true=>nt an nm bs b K
    |false=>match rows with
     |[row]=>nt an nm bs b fun nm bs=>qd (xH an) row nm bs K
     |_=>nt an nm bs b K
   |_=>nt an nm bs b K
 | .fn _ caps=>qd (xH an) caps nm bs K
 |_=>K nm bs
def Cn(an:List Nat)(ms:Ms)(nm:List Nat)(bs:List (Nat × Nat))(v:AV)(K:KB):Prop:=match v with
 | .agg cs=>qd (qS an ms) cs nm bs K
 | .tup cs=>qd (qS an ms) cs nm bs K
 | .fn _ caps=>qd (qS an ms) caps nm bs K
 |v=>qS an ms nm bs v K
def xL(an:List Nat)(ms:Ms):List Nat→List Nat→List (Nat × Nat)→KB→Prop
 |[],nm,bs,K=>K nm bs
 |b::l,nm,bs,K=>qS an ms nm bs (.ptr b 0 0) fun nm bs=>xL an ms l nm bs K
def xA(an:List Nat)(ts:Ts)(ms:Ms):List Nat→List Nat→List (Nat × Nat)→KB→Prop
 |[],nm,bs,K=>K nm bs
 |k::l,nm,bs,K=>Cn an ms nm bs (cX ts k) fun nm bs=>xA an ts ms l nm bs K
def Jk:List (Nat × Nat)→(List (Nat × Nat)→Prop)→Prop
 |[],K=>K []
 |(a,b)::l,K=>Jk l fun l=>K ((a,b)::l)
def wg(n:Fx)(ks:List Nat)(ts:Ts)(ms:Ms)(K:Ts→Ms→Prop):Prop:=
 xL n.an ms n.an BT [] fun nm bs=>xA n.an ts ms ks nm bs fun _ bs=>Jk bs.reverse fun bs=>BZ n ks bs ts ms K
def Lk(n:Fx)(ks:List Nat)(ts:Ts)(ms:Ms)(K:Ts→Ms→Prop):Prop:=
 xL n.an ms n.an BT [] fun nm bs=>xA n.an ts ms ks nm bs fun _ bs=>Jk bs.reverse fun bs=>ChkS (fT (St.ls n ts ms) ks bs) (qT bs ts ks fun ts'=>ph bs ms bs fun ms'=>K ts' ms')
def EP(n:Fx)(ks:List Nat)(ts:Ts)(ms:Ms)(K:Ts→Ms→Prop):Prop:=match ks with
 |[]=>K [] ms
 |k::l=>match Nat.beq k 999999 with
  |true=>Lk n l ts ms K
  |false=>match Nat.beq k 888888 with
   |true=>uJ l ts ms K
   |false=>A8 (k::l) ts fun ts=>K ts ms
def Am(n:Fx)(a:Code)(ts:Ts)(ms:Ms)(K:Ts→Ms→Prop):Prop:=match a with
 | .region id _ _=>match Bm n.kp id with
  |some ks=>EP n ks ts ms K
  |none=>K ts ms
 |_=>K ts ms
def ev(P:Program)(T:TT)(n:Fx):Code→(Ex→Ts→Ms→Prop)→Ts→Ms→Prop
 | .skip,Q,ts,ms=>Q .normal ts ms
 | .label _,Q,ts,ms=>Q .normal ts ms
 | .ret,Q,ts,ms=>Q .ret ts ms
 | .exit id,Q,ts,ms=>Q (.exit id) ts ms
 | .seq a b,Q,ts,ms=>ev P T n a (JQ (fun ts ms=>Am n a ts ms fun ts ms=>ev P T n b Q ts ms) Q) ts ms
 | .block id c,Q,ts,ms=>ev P T n c (Bc id Q) ts ms
 | .cond c x y,Q,ts,ms=>(cK c).go ts ms fun v=>match v with
  | .bool b=>BrS b (Cq c true ts fun ts=>ev P T n x Q ts ms) (Cq c false ts fun ts=>ev P T n y Q ts ms)
  |_=>False
 | .region _ ops draw,Q,ts,ms=>match draw with
  |false=>wL P T n ops.toList ops.toList ts ms fun ts ms=>xj ops.toList ts ms (Q .normal ts ms)
  |true=>ChkS (nV ops.toList (Ht ops.toList)) (DE (Ht ops.toList) fun cl=>vN P T n ops.toList cl [] 0 ops.toList ts ms fun ts ms=>xj ops.toList ts ms (Q .normal ts ms))
 | .loop c,Q,ts,ms=>LoopG P c (QL n Q) (St.ls n ts ms)
 |_,_,_,_=>False
def mX(x:AV)(ts:Ts)(ms:Ms)(K:AV→Ms→Prop):Prop:=(dr x).go ts ms fun p=>match p with
 |(y,l)=>vT l ms fun ms=>K y ms
def mM:List AV→Ts→Ms→(List AV→Ms→Prop)→Prop
 |[],ts,ms,K=>K [] ms
 |x::l,ts,ms,K=>mX x ts ms fun y ms=>mM l ts ms fun ys ms=>K (y::ys) ms
def lH(x:AV)(ts:Ts)(ms:Ms)(K:AV→Ms→Prop):Prop:=match x with
 | .agg cs=>mM cs ts ms fun ys ms=>K (.agg ys) ms
 | .ptr b i j=>match i with
  |0=>match j with
   |0=>match cd ms b with
    | .live ⟨arr,_,_,rows⟩=>match arr with
     |false=>match rows with
      |[row]=>okK (row.all fun c=>c.light&& !c.isUndef) (jf row ((b,.dead)::ms) fun ys ms=>okK (ys.all fun c=> !c.isUndef) (K (.obj ys) ms))
      |_=>False
     |true=>False
    |_=>False
   |_=>False
  |_=>False
 |v=>mX v ts ms K
def kK:List AV→Ts→Ms→(List AV→Ms→Prop)→Prop
 |[],ts,ms,K=>K [] ms
 |x::l,ts,ms,K=>lH x ts ms fun y ms=>kK l ts ms fun ys ms=>K (y::ys) ms
def Ge(T:TT)(rs:List ResultVar)(res:AV)(ts:Ts)(ms:Ms):Prop:=(mA T rs).go ts ms fun xs=>match xs with
 |[x]=>lH x ts ms fun y _=>fg y fun y=>ShG y res
 |xs=>kK xs ts ms fun ys _=>fg (.tup ys) fun y=>ShG y res
def uU(T:TT)(rs:List ResultVar)(res:AV):Ex→Ts→Ms→Prop
 | .ret,ts,ms=>Ge T rs res ts ms
 | .normal,ts,ms=>Ge T rs res ts ms
 | .exit _,_,_=>False
def B6:List Nat→List AV→(Ts→Prop)→Prop
 |_,[],K=>K []
 |k::ks,x::l,K=>fc x fun x=>B6 ks l fun ts=>K ((k,x)::ts)
 |[],_::_,_=>False
def xE:List Nat:=[0,1,2,3,4,5,6,7,8,9,10,11,12,13,14,15,16,17,18,19]
def iM(as:List AV)(K:Ts→Ms→Prop):Prop:=match bV e0 as with
 |(vs,l)=>B6 xE vs fun ts=>vT l [] fun ms=>K ts ms
structure AftG(x o y:AV)(n:Option Nat)(X:Prop):Prop where
 h1:x.rowsN=n
 h2:o=y
 k:X
def xd(ms:Ms):List (Option Nat)→List AV→List AV→Prop→Prop
 |[],[],[],X=>X
 |none::hs,_::as,o::os,X=>okK o.isUndef (xd ms hs as os X)
 |some b::hs,x::as,o::os,X=>okK (!(ed hs).contains b)<|match cd ms b with
  | .live ⟨arr,lvl,z,rows⟩=>match arr with
   |true=>AftG x o (.own lvl z rows) (some rows.length) (xd ms hs as os X)
   |false=>False
  |_=>False
 |_,_,_,_=>False
def Ba(T:TT)(rs:List ResultVar)(res:AV)(hs:List (Option Nat))(as os:List AV)(ts:Ts)(ms:Ms):Prop:=(mA T rs).go ts ms fun xs=>match xs with
 |[x]=>lH x ts ms fun y ms=>fg y fun y=>xd ms hs as os (ShG y res)
 |xs=>kK xs ts ms fun ys ms=>fg (.tup ys) fun y=>xd ms hs as os (ShG y res)
def AL(T:TT)(rs:List ResultVar)(res:AV)(hs:List (Option Nat))(as os:List AV):Ex→Ts→Ms→Prop
 | .ret,ts,ms=>Ba T rs res hs as os ts ms
 | .normal,ts,ms=>Ba T rs res hs as os ts ms
 | .exit _,_,_=>False
def pP(as:List AV)(K:Ts→Ms→Prop):Prop:=match dP e0 as with
 |(vs,l)=>B6 xE vs fun ts=>vT l [] fun ms=>K ts ms
structure AftPG(x y:AV)(X:Prop):Prop where
 s:Sh x y
 k:X
def nz:Nat→List AV→List AV→Ms→Prop
 |_,[],[],_=>True
 |b,x::as,o::os,ms=>match x with
  | .obj _=>match o with
   | .obj cs=>match cd ms b with
    | .live ⟨arr,_,_,rows⟩=>match arr with
     |false=>match rows with
      |[row]=>okK (row.all (fun c=>c.light&& !c.isUndef)&&cs.all fun c=> !c.isUndef) (jf row ((b,.dead)::ms) fun ys ms=>md GW ys fun ys=>AftPG (.agg ys) (.agg cs) (nz (Nat.add b 100) as os ms))
      |_=>False
     |true=>False
    |_=>False
   |_=>False
  |_=>match o with
   | .undef=>nz (Nat.add b 100) as os ms
   |_=>False
 |_,_,_,_=>False
def BV(T:TT)(rs:List ResultVar)(res:AV)(b:Nat)(as os:List AV)(ts:Ts)(ms:Ms):Prop:=(mA T rs).go ts ms fun xs=>match xs with
 |[x]=>lH x ts ms fun y ms=>fg y fun y=>AftPG y res (nz b as os ms)
 |xs=>kK xs ts ms fun ys ms=>fg (.tup ys) fun y=>AftPG y res (nz b as os ms)
def wX(T:TT)(rs:List ResultVar)(res:AV)(b:Nat)(as os:List AV):Ex→Ts→Ms→Prop
 | .ret,ts,ms=>BV T rs res b as os ts ms
 | .normal,ts,ms=>BV T rs res b as os ts ms
 | .exit _,_,_=>False
end Go.Abs
end

/- The abstract layer, 29: the quick walk is sound. -/
noncomputable section
namespace Go.Abs
open Go
section
variable{P:Program}{T:TT}{n:Fx}
theorem jt{a b:Nat}(h:Nat.beq a b=true):a=b:=Nat.eq_of_beq_eq_true h
theorem xx{a b:Nat}(h:Nat.beq a b=false):a≠b:=Nat.ne_of_beq_eq_false h
theorem bD{b:Bool}{X:Prop}(h:okK b X):b=true∧X:=by
 cases b
 ·exact h.elim
 ·exact⟨rfl,h⟩
theorem iQ(ts:Ts)(ms:Ms)(d:Nat)(v:AV):(St.ls n ts ms).put (some d) v=St.ls n ((d,v)::ts) ms:=by
 simp only[St.put,St.ls,St.mk.injEq,true_and,and_true]
 funext k
 simp only[bi,cX]
 split
 ·rename_i h;subst h;simp
 ·rename_i h
  split
  ·rename_i h2;exact absurd (jt h2) h
  ·rfl
theorem kq(ts:Ts)(ms:Ms)(b:Nat)(m:MB):{St.ls n ts ms with m:=bi (St.ls n ts ms).m b m}=St.ls n ts ((b,m)::ms):=by
 simp only[St.ls,St.mk.injEq,true_and,and_true]
 funext k
 simp only[bi,cd]
 split
 ·rename_i h;subst h;simp
 ·rename_i h
  split
  ·rename_i h2;exact absurd (jt h2) h
  ·rfl
theorem gM{v:AV}{K:AV→Prop}(h:vo v K):K v:=by cases v<;>exact h
theorem cQ{F:AV→(AV→Prop)→Prop}(hF: ∀v K,F v K→K v): ∀{l:List AV}{K:List AV→Prop},md F l K→K l
 |[],K,h=>h
 |x::l,K,h=>cQ hF (l:=l) (hF _ _ h)
theorem ij{v:AV}{K:AV→Prop}(h:fc v K):K v:=by
 cases v<;>first|exact h|exact cQ (fun _ _=>gM) h
theorem nJ{rows:List (List AV)}{K:List (List AV)→Prop}(h:RowsG rows K):K rows:=by
 obtain⟨r,rfl,h⟩:=h
 exact h
theorem tR{v:AV}{K:AV→Prop}(h:GW v K):K v:=by
 unfold GW at h
 split at h
 ·rename_i z rows
  exact nJ (K:=fun rows=>K (.ro z rows)) (cQ (fun _ _=>gM) (K:=fun z=>RowsG rows fun rows=>K (.ro z rows)) h)
 ·rename_i lvl z rows
  exact nJ (K:=fun rows=>K (.own lvl z rows)) (cQ (fun _ _=>gM) (K:=fun z=>RowsG rows fun rows=>K (.own lvl z rows)) h)
 ·exact ij h
theorem oL{v:AV}{K:AV→Prop}(h:EH v K):K v:=by
 unfold EH at h
 split at h
 ·exact cQ (fun _ _=>tR) (K:=fun cs=>K (.agg cs)) h
 ·exact tR h
theorem so{v:AV}{K:AV→Prop}(h:fg v K):K v:=by
 unfold fg at h
 split at h
 ·exact cQ (fun _ _=>oL) (K:=fun cs=>K (.tup cs)) h
 ·exact oL h
theorem wP: ∀{l:List (List AV)}{K:List (List AV)→Prop},I4 l K→K l
 |[],K,h=>h
 |x::l,K,h=>wP (l:=l) (cQ (fun _ _=>ij) h)
theorem xT{n:Nat}{K:Nat→Prop}(h:AN n K):K n:=by
 unfold AN at h
 split at h
 ·rename_i e;rw[jt e];exact h
 ·split at h
  ·rename_i e;rw[jt e];exact h
  ·exact h
theorem tS{m:MB}{K:MB→Prop}(h:Jm m K):K m:=by
 cases m with
 |abs=>exact h
 |dead=>exact h
 |live b=>
  obtain⟨arr,lvl,z,rows⟩:=b
  cases arr with
  |true=>
   have h:AN lvl (fun lvl=>md vo z fun z=>K (.live ⟨true,lvl,z,rows⟩)):=h
   exact cQ (fun _ _=>gM) (K:=fun z=>K (.live ⟨true,lvl,z,rows⟩)) (xT h)
  |false=>
   have h:AN lvl (fun lvl=>md vo z fun z=>I4 rows fun rows=>K (.live ⟨false,lvl,z,rows⟩)):=h
   exact wP (K:=fun rows=>K (.live ⟨false,lvl,z,rows⟩)) (cQ (fun _ _=>gM) (K:=fun z=>I4 rows fun rows=>K (.live ⟨false,lvl,z,rows⟩)) (xT h))
theorem ia(ts:Ts): ∀{l ms:Ms}{K:Ms→Prop},vT l ms K→ ∃ms',(St.ls n ts ms).mws l=St.ls n ts ms'∧K ms'
 |[],ms,K,h=>⟨ms,rfl,h⟩
 |p::l,ms,K,h=>by
  have h:=tS h
  obtain⟨ms',h1,h2⟩:=ia ts (l:=l) h
  refine⟨ms',?_,h2⟩
  rw[←h1]
  show St.mws {St.ls n ts ms with m:=bi (St.ls n ts ms).m p.1 p.2} l=_
  rw[kq]
theorem dy{α:Type}{ts:Ts}{ms:Ms}: ∀{p:RP α}{K:α→Prop},p.go ts ms K→p.runK (St.ls n ts ms) K
 | .ret a,K,h=>h
 | .tmp k c,K,h=>dy (p:=c (cX ts k)) h
 | .mem b c,K,h=>dy (p:=c (cd ms b)) h
 | .req b c,K,h=>⟨h.1,dy h.2⟩
 | .fail,K,h=>h.elim
theorem dw{α:Type}{ts:Ts}{ms:Ms}: ∀{p:RP α}{K:α→List Nat→List Nat→Prop},p.goL ts ms K→p.runL (St.ls n ts ms) K
 | .ret a,K,h=>h
 | .tmp k c,K,h=>dw (p:=c (cX ts k)) h
 | .mem b c,K,h=>dw (p:=c (cd ms b)) h
 | .req b c,K,h=>⟨h.1,dw h.2⟩
 | .fail,K,h=>h.elim
theorem bM{α:Type}{st:St}: ∀{p:RP α}{K K':α→List Nat→List Nat→Prop},p.runL st K→(∀a s m,K a s m→K' a s m)→p.runL st K'
 | .ret a,K,K',h,hk=>hk _ _ _ h
 | .tmp k c,K,K',h,hk=>bM (p:=c (st.t k)) h fun a s m=>hk a _ _
 | .mem b c,K,K',h,hk=>bM (p:=c (st.m b)) h fun a s m=>hk a _ _
 | .req b c,K,K',h,hk=>⟨h.1,bM (p:=c) h.2 hk⟩
 | .fail,K,K',h,hk=>h.elim
theorem cz{α β:Type}{st:St}: ∀{p:RP α}{f:α→RP β}{K:β→List Nat→List Nat→Prop},(p.runL st fun a s m=>(f a).runL st fun b s' m'=>K b (s++s') (m++m'))→(p.bind f).runL st K
 | .ret a,f,K,h=>h
 | .tmp k c,f,K,h=>cz (p:=c (st.t k)) h
 | .mem b c,f,K,h=>cz (p:=c (st.m b)) h
 | .req b c,f,K,h=>⟨h.1,cz (p:=c) h.2⟩
 | .fail,f,K,h=>h.elim
theorem runK_mono{α:Type}{st:St}: ∀{p:RP α}{K K':α→Prop},p.runK st K→(∀a,K a→K' a)→p.runK st K'
 | .ret a,K,K',h,hk=>hk _ h
 | .tmp k c,K,K',h,hk=>runK_mono (p:=c (st.t k)) h hk
 | .mem b c,K,K',h,hk=>runK_mono (p:=c (st.m b)) h hk
 | .req b c,K,K',h,hk=>⟨h.1,runK_mono (p:=c) h.2 hk⟩
 | .fail,K,K',h,hk=>h.elim
theorem cy{α β:Type}{st:St}: ∀{p:RP α}{f:α→RP β}{K:β→Prop},(p.runK st fun a=>(f a).runK st K)→(p.bind f).runK st K
 | .ret a,f,K,h=>h
 | .tmp k c,f,K,h=>cy (p:=c (st.t k)) h
 | .mem b c,f,K,h=>cy (p:=c (st.m b)) h
 | .req b c,f,K,h=>⟨h.1,cy (p:=c) h.2⟩
 | .fail,f,K,h=>h.elim
theorem BrS.out{b:Bool}{X Y:Prop}(h:BrS b X Y){Z:Prop}(hx:b=true→X→Z)(hy:b=false→Y→Z):Z:=by
 cases b with
 |true=>exact hx rfl (h.1 rfl)
 |false=>exact hy rfl (h.2 rfl)
theorem yq{t:Bool}{x y:AV}{K:AV→Prop}(h:yb t x y K):K (if t=true then x else y):=by
 have br: ∀x y:AV,BrS t (K x) (K y)→K (if t=true then x else y):=fun x y h=>h.out (fun e k=>by subst e;exact k) fun e k=>by subst e;exact k
 unfold yb at h
 split at h
 ·split at h
  ·split at h
   ·rename_i e;subst e;cases t<;>exact h
   ·exact br _ _ h
  ·exact br _ _ h
 ·split at h
  ·cases t<;>exact h
  ·exact br _ _ h
 ·split at h
  ·cases t<;>exact h
  ·exact br _ _ h
 ·exact br _ _ h
theorem yu{i:TI}{j:Nat}{K:AV→Prop}{row:List AV}(h:pg i j K row): ∃c,((((row.drop j).take i.size).all AV.light&&((row.drop j).take i.size).length==i.size)=true∧
  (if fI i.ut then il (.agg ((row.drop j).take i.size))else match (row.drop j).take i.size with|[c]=>il c|_=>.fail)=il c∧K c):=by
 unfold pg at h
 have h:=cQ (fun _ _=>gM) h
 obtain⟨h1,h⟩:=bD h
 generalize (row.drop j).take i.size=cs at h h1
 split at h
 ·rename_i hi
  exact⟨_,h1,by rw[if_pos hi],h⟩
 ·rename_i hi
  split at h
  ·exact⟨_,h1,by simp[hi],h⟩
  ·exact h.elim
theorem wk{row:List AV}{K:List AV→Prop}(h:RowG row K):K row:=by
 obtain⟨r,rfl,h⟩:=h
 exact h
theorem xY{blk:Blk}{r:Nat}{K:List AV→Prop}(h:GC blk r K):K (dn blk.rows r blk.z):=by
 obtain⟨arr,lvl,z,rows⟩:=blk
 cases arr with
 |true=>exact wk h
 |false=>exact h
theorem va{i:TI}{v:AV}{b r j:Nat}{blk:Blk}{K:MB→Prop}(h:ot i v b r j blk K):
  (iL i.size blk=true∧(blk.z.length==1&&j==0&&v.leaves.length==i.size&&decide (r+i.size≤blk.rows.length)&&v.leaves.all AV.plain&&decide (blk.lvl≤1))=true∧
   K (.live {blk with lvl:=max blk.lvl (gh v.leaves),rows:=fL blk.rows r v.leaves}))∨
  (¬iL i.size blk=true∧(v.leaves.length==i.size&&decide (j+i.size≤blk.z.length))=true∧
  ((blk.arr=true∧(v.leaves.all AV.plain&&decide (blk.lvl≤1))=true∧K (.live {blk with lvl:=max blk.lvl (gh v.leaves),rows:=bl blk.rows r j blk.z v.leaves}))∨
   (blk.arr=false∧(v.leaves.all AV.light&&(((dn blk.rows r blk.z).drop j).take i.size).all (fun c=> !c.isUndef))=true∧K (.live {blk with rows:=bl blk.rows r j blk.z v.leaves})))):=by
 obtain⟨arr,lvl,z,rows⟩:=blk
 unfold ot at h
 have h:=cQ (fun _ _=>gM) h
 cases hm:(arr&&Nat.blt z.length i.size)with
 |true=>
  rw[hm]at h
  have ha:arr=true:=by
   simp only[Bool.and_eq_true]at hm
   exact hm.1
  subst ha
  have hh:=bD h
  exact .inl ⟨hm,hh.1,nJ (K:=fun rows=>K (.live ⟨true,max lvl (gh v.leaves),z,rows⟩)) hh.2⟩
 |false=>
  rw[hm]at h
  obtain⟨h1,h⟩:=bD h
  refine .inr ⟨by unfold iL;rw[hm];simp,h1,?_⟩
  cases arr with
  |true=>
   obtain⟨h2,h⟩:=bD h
   exact .inl ⟨rfl,h2,nJ (K:=fun rows=>K (.live ⟨true,max lvl (gh v.leaves),z,rows⟩)) h⟩
  |false=>
   obtain⟨h2,h⟩:=bD h
   exact .inr ⟨rfl,h2,h⟩
theorem Cu{lvl n:Nat}{rows:List (List AV)}{K:Nat→List (List AV)→Nat→Prop}(h:AppG lvl rows n K):K lvl rows n:=by
 obtain⟨_,_,_,rfl,rfl,rfl,h⟩:=h
 exact h
theorem xV{r:di}{K:di→Prop}(h:C9 r K):K r:=by
 obtain⟨v,l⟩:=r
 unfold C9 at h
 simp only at h
 split at h
 ·split at h
  ·split at h
   ·exact Cu h
   ·exact h
  ·split at h
   ·exact Cu h
   ·exact h
  ·exact h
 ·split at h
  ·split at h
   ·exact nJ h
   ·exact h
  ·exact h
 ·exact h
theorem vd{r:di}{K:di→Prop}(h:ym r K):K r:=by
 unfold ym at h
 split at h
 ·rename_i v b lvl z rows
  exact wP (K:=fun rows=>K (v,[(b,.live ⟨true,lvl,z,rows⟩)])) h
 ·exact h
theorem Dp{same:Bool}{i j:TI}{v:AV}{d:Nat}{ts:Ts}{ms:Ms}{K:di→Prop}(h:A1 T same i j v d ts ms K):(py T same i j v d).runK (St.ls n ts ms) K:=by
 unfold A1 at h
 split at h
 ·rename_i hj
  unfold py
  rw[hj]
  split at h
  ·exact h
  ·rename_i v' hns
   cases v with
   |str b=>exact absurd rfl (hns b)
   |_=>
    simp only
    split at h
    ·rename_i e hi
     rw[hi]
     simp only
     refine cy (runK_mono (dy h) fun je hje=> ?_)
     split at hje
     ·rename_i hu
      rw[hu]
      simp only
      refine cy (runK_mono (dy hje) fun r hr=> ?_)
      obtain⟨b,hb,hk⟩:=hr
      rw[hb]
      exact hk
     ·exact hje.elim
    ·exact h.elim
 ·exact dy h
theorem CI{same:Bool}{i j:TI}{v:AV}{d:Nat}{ts:Ts}{ms:Ms}{K:di→List Nat→List Nat→Prop}(h:wJ T same i j v d ts ms K):(py T same i j v d).runL (St.ls n ts ms) K:=by
 unfold wJ at h
 split at h
 ·rename_i hj
  unfold py
  rw[hj]
  split at h
  ·exact h
  ·rename_i v' hns
   cases v with
   |str b=>exact absurd rfl (hns b)
   |_=>
    simp only
    split at h
    ·rename_i e hi
     rw[hi]
     simp only
     refine cz (bM (dw h) fun je s m hje=> ?_)
     split at hje
     ·rename_i hu
      rw[hu]
      simp only
      refine cz (bM (dw hje) fun r s' m' hr=> ?_)
      obtain⟨b,hb,hk⟩:=hr
      rw[hb]
      show K _ _ _
      simpa using hk
     ·exact hje.elim
    ·exact h.elim
 ·exact dw h
theorem EX{o:Oper}{ts:Ts}{ms:Ms}{K:di→Prop}(h:GX T o ts ms K):(io T o).runK (St.ls n ts ms) K:=by
 unfold GX at h
 split at h
 ·rename_i c a b ho
  unfold io
  rw[ho]
  show(om c a b).runK _ K
  unfold om
  refine cy (runK_mono (dy h) fun v hv=> ?_)
  split at hv
  ·refine cy (runK_mono (dy hv) fun x hx=> ?_)
   refine cy (runK_mono (dy hx) fun y hy=> ?_)
   exact yq (K:=fun v=>K (v,[])) hy
  ·exact hv.elim
 ·rename_i t x ho
  unfold io
  rw[ho]
  show(kR T t x).runK _ K
  unfold kR
  refine cy (runK_mono (dy h) fun i hi=> ?_)
  refine cy (runK_mono (dy hi) fun v hv=> ?_)
  have fin: ∀{row:List AV}{j:Nat},pg i j (fun c=>K (c,[])) row→RP.runK (.req (((row.drop j).take i.size).all AV.light&&((row.drop j).take i.size).length==i.size)
    (if fI i.ut then il (.agg ((row.drop j).take i.size))else match (row.drop j).take i.size with|[c]=>il c|_=>.fail)) (St.ls n ts ms) K:=fun h=>by
   obtain⟨c,h1,h2,h3⟩:=yu h
   refine⟨h1,?_⟩
   rw[h2]
   exact h3
  split at hv
  ·rename_i b r j
   split at hv
   ·rename_i blk hm
    have hm:(St.ls n ts ms).m b=.live blk:=hm
    show RP.runK (RP.bind (gX ((St.ls n ts ms).m b) |>.bind fun blk=>.ret (((dn blk.rows r blk.z).drop j).take i.size)) _) _ _
    rw[hm]
    exact fin (xY hv)
   ·exact hv.elim
  ·exact fin (wk hv)
  ·exact hv.elim
 ·rename_i t x y ho
  unfold io
  rw[ho]
  show(lK T t x y).runK _ K
  unfold lK
  refine cy (runK_mono (dy h) fun i hi=> ?_)
  refine cy (runK_mono (dy hi) fun v hv=> ?_)
  refine cy (runK_mono (dy hv) fun a ha=> ?_)
  split at ha
  ·rename_i b r j
   split at ha
   ·rename_i blk hm
    have hm:(St.ls n ts ms).m b=.live blk:=hm
    have ha:=va (ij (K:=fun v=>ot i v b r j blk fun m=>K (.undef,[(b,m)])) ha)
    show RP.runK (RP.bind (gX ((St.ls n ts ms).m b)) _) _ _
    rw[hm]
    rcases ha with⟨hq,h2,h3⟩|⟨hq,ha⟩
    ·show RP.runK (if iL i.size blk=true then _ else _) _ _
     rw[if_pos hq];exact⟨h2,h3⟩
    show RP.runK (if iL i.size blk=true then _ else _) _ _
    rw[if_neg hq]
    refine⟨ha.1,?_⟩
    rcases ha.2 with⟨h1,h2,h3⟩|⟨h1,h2,h3⟩
    ·rw[if_pos h1];exact⟨h2,h3⟩
    ·rw[if_neg (by simp[h1])];exact⟨h2,h3⟩
   ·exact ha.elim
  ·exact ha.elim
 ·rename_i s t x ho
  split at h
  ·rename_i d hd
   unfold io
   rw[ho]
   show(jT o (fB T s t x)).runK _ K
   unfold jT
   rw[hd]
   show(fB T s t x d).runK _ K
   unfold fB
   refine cy (runK_mono (dy h) fun i hi=> ?_)
   refine cy (runK_mono (dy hi) fun j hj=> ?_)
   refine cy (runK_mono (dy hj) fun v hv=> ?_)
   exact Dp hv
  ·exact h.elim
 ·exact runK_mono (dy h) fun r hr=>vd hr
 ·exact runK_mono (dy h) fun r hr=>xV hr
 ·exact dy h
theorem xF{o:Oper}{ts:Ts}{ms:Ms}{K:di→List Nat→List Nat→Prop}(h:DT T o ts ms K):(io T o).runL (St.ls n ts ms) K:=by
 unfold DT at h
 split at h
 ·rename_i c a b ho
  unfold io
  rw[ho]
  show(om c a b).runL _ K
  unfold om
  refine cz (bM (dw h) fun v s m hv=> ?_)
  split at hv
  ·refine cz (bM (dw hv) fun x s' m' hx=> ?_)
   refine cz (bM (dw hx) fun y s'' m'' hy=> ?_)
   have:=yq (K:=fun v=>K (v,[]) (s++(s'++s'')) (m++(m'++m''))) hy
   show K _ _ _
   simpa using this
  ·exact hv.elim
 ·rename_i t x ho
  unfold io
  rw[ho]
  show(kR T t x).runL _ K
  unfold kR
  refine cz (bM (dw h) fun i s0 m0 hi=> ?_)
  refine cz (bM (dw hi) fun v s m hv=> ?_)
  have fin: ∀{row:List AV}{j:Nat}{K:di→List Nat→List Nat→Prop}{s m:List Nat},pg i j (fun c=>K (c,[]) s m) row→RP.runL (.req (((row.drop j).take i.size).all AV.light&&((row.drop j).take i.size).length==i.size)
    (if fI i.ut then il (.agg ((row.drop j).take i.size))else match (row.drop j).take i.size with|[c]=>il c|_=>.fail)) (St.ls n ts ms) (fun r s' m'=>K r (s++s') (m++m')):=fun h=>by
   obtain⟨c,h1,h2,h3⟩:=yu h
   refine⟨h1,?_⟩
   rw[h2]
   show _
   simpa[il,RP.runL]using h3
  split at hv
  ·rename_i b r j
   split at hv
   ·rename_i blk hm
    have hm:(St.ls n ts ms).m b=.live blk:=hm
    show RP.runL (RP.bind (gX ((St.ls n ts ms).m b) |>.bind fun blk=>.ret (((dn blk.rows r blk.z).drop j).take i.size)) _) _ _
    rw[hm]
    have:=fin (K:=K) (xY hv)
    exact bM this fun r s' m' h=>by simpa using h
   ·exact hv.elim
  ·have:=fin (K:=K) (wk hv)
   exact bM this fun r s' m' h=>by simpa using h
  ·exact hv.elim
 ·rename_i t x y ho
  unfold io
  rw[ho]
  show(lK T t x y).runL _ K
  unfold lK
  refine cz (bM (dw h) fun i s0 m0 hi=> ?_)
  refine cz (bM (dw hi) fun v s m hv=> ?_)
  refine cz (bM (dw hv) fun a s' m' ha=> ?_)
  split at ha
  ·rename_i b r j
   split at ha
   ·rename_i blk hm
    have hm:(St.ls n ts ms).m b=.live blk:=hm
    have ha:=va (ij (K:=fun v=>ot i v b r j blk fun mb=>K (.undef,[(b,mb)]) (s0++(s++s')) (m0++(m++(m'++[b])))) ha)
    show RP.runL (RP.bind (gX ((St.ls n ts ms).m b)) _) _ _
    rw[hm]
    rcases ha with⟨hq,h2,h3⟩|⟨hq,ha⟩
    ·show RP.runL (if iL i.size blk=true then _ else _) _ _
     rw[if_pos hq];refine⟨h2,?_⟩;simpa[RP.runL]using h3
    show RP.runL (if iL i.size blk=true then _ else _) _ _
    rw[if_neg hq]
    refine⟨ha.1,?_⟩
    rcases ha.2 with⟨h1,h2,h3⟩|⟨h1,h2,h3⟩
    ·rw[if_pos h1];refine⟨h2,?_⟩;simpa[RP.runL]using h3
    ·rw[if_neg (by simp[h1])];refine⟨h2,?_⟩;simpa[RP.runL]using h3
   ·exact ha.elim
  ·exact ha.elim
 ·rename_i s t x ho
  split at h
  ·rename_i d hd
   unfold io
   rw[ho]
   show(jT o (fB T s t x)).runL _ K
   unfold jT
   rw[hd]
   show(fB T s t x d).runL _ K
   unfold fB
   refine cz (bM (dw h) fun i s0 m0 hi=> ?_)
   refine cz (bM (dw hi) fun j s1 m1 hj=> ?_)
   refine cz (bM (dw hj) fun v s2 m2 hv=> ?_)
   exact bM (CI hv) fun r s3 m3 h=>by simpa using h
  ·exact h.elim
 ·exact bM (dw h) fun r s m hr=>vd (K:=fun r=>K r s m) hr
 ·exact bM (dw h) fun r s m hr=>xV (K:=fun r=>K r s m) hr
 ·exact dw h
def KL(n:Fx)(K:Ts→Ms→Prop)(st:St):Prop:= ∃ts ms,st=St.ls n ts ms∧K ts ms
theorem rf{a b:Nat}(h:Nat.blt a b=true):a<b:=by
 have:=Nat.le_of_ble_eq_true h
 omega
theorem ru{o:Oper}{r:di}{ts:Ts}{ms:Ms}{K:Ts→Ms→Prop}(h:kv n o r ts ms K):(St.ls n ts ms).dstOk o.dst=true∧KL n K ((St.ls n ts ms).after o r):=by
 obtain⟨v,l⟩:=r
 unfold kv at h
 obtain⟨ms',h1,h2⟩:=ia (n:=n) ts h
 unfold St.after
 simp only[h1]
 split at h2
 ·rename_i hd
  rw[hd]
  exact⟨rfl,ts,ms',rfl,h2⟩
 ·rename_i d hd
  rw[hd]
  obtain⟨h3,h4⟩:=bD h2
  refine⟨decide_eq_true (rf h3),_,_,iQ _ _ _ _,ij (K:=fun v=>K ((d,v)::ts) ms') h4⟩
theorem lR{o:Oper}{res:AV}{ts:Ts}{ms:Ms}{K:Ts→Ms→Prop}(h:pB n o res ts ms K):fh o (St.ls n ts ms) res (KL n K):=by
 unfold pB at h
 unfold fh
 split at h
 ·rename_i hd;rw[hd];exact⟨ts,ms,rfl,h⟩
 ·rename_i d hd
  rw[hd]
  obtain⟨h1,h⟩:=bD h
  split at h
  rename_i v l hvl
  obtain⟨h2,h⟩:=bD h
  obtain⟨h3,h⟩:=bD h
  obtain⟨ms',h4,h5⟩:=ia (n:=n) ts h
  simp only[hvl]
  refine⟨h1,?_,decide_eq_true (rf h3),?_⟩
  ·refine List.all_eq_true.2 fun p hp=> ?_
   have:=List.all_eq_true.1 h2 p hp
   show(match cd ms p.1 with| .abs=>true|_=>false)=true
   cases hm:cd ms p.1<;>rw[hm]at this<;>simp_all[fN]
  ·simp only[h4]
   exact⟨_,_,iQ _ _ _ _,ij (K:=fun v=>K ((d,v)::ts) ms') h5⟩
theorem Dt{o:Oper}{ts:Ts}{ms:Ms}{K:Ts→Ms→Prop}{f:FuncId}{as:List AV}{j:Nat}(h:Bk P n o ts ms K f as j):Aw P o (St.ls n ts ms) (KL n K) f as j:=by
 unfold Bk at h
 split at h
 ·rename_i x hx
  split at h
  ·rename_i b off m
   split at h
   ·split at h
    ·rename_i arr lvl z rows hm
     split at h
     ·obtain⟨h1,g1⟩:=bD h
      obtain⟨g2,g3⟩:=g1
      have h2:m=rows.length:=of_decide_eq_true g2
      obtain⟨ys,h3,h4⟩:=cO (dy (n:=n) g3)
      clear h g3 g2
      subst h2
      have h4:=cQ (fun _ _=>oL) h4
      obtain⟨lvl',z',rows',res,h5,h6,h7,h8,h9⟩:=h4
      have h9:=tS h9
      simp only[Bool.and_eq_true]at h7
      have hls:(St.ls n ts ms).mws [(b,.live ⟨true,lvl',z',rows'⟩)]=St.ls n ts ((b,.live ⟨true,lvl',z',rows'⟩)::ms):=kq ts ms b _
      have hld:(St.ls n ts ms).mws [(b,.dead)]=St.ls n ts ((b,.dead)::ms):=kq ts ms b _
      refine⟨b,lvl,z,rows,ys,lvl',z',rows',res,hx,hm,Nat.le_of_ble_eq_true h1,by rw[hld];exact h3,h5,h6,jt h7.1,Nat.le_of_ble_eq_true h7.2,h8,?_⟩
      rw[hls]
      exact lR h9
     ·exact h.elim
    ·exact h.elim
   ·exact h.elim
  ·exact h.elim
 ·exact h.elim
def Ab(st:St):Gv→List AV→Prop
 |[],[]=>True
 |none::gv,x::cs=>x.goes=true∧Ab st gv cs
 |some (b,lvl,z,rows)::gv,x::cs=>(x=.ref b 0 rows.length∧st.m b=.live ⟨true,lvl,z,rows⟩∧lvl≤1∧(wZ gv).contains b=false)∧Ab st gv cs
 |_,_=>False
theorem xq{ts:Ts}{ms:Ms}: ∀{cs:List AV}{K:Gv→Prop},G2 ms cs K→ ∃gv,Ab (St.ls n ts ms) gv cs∧K gv
 |[],K,h=>⟨[],trivial,h⟩
 |x::cs,K,h=>by
  have rest:okK x.goes (G2 ms cs fun l=>K (none::l))→ ∃gv,Ab (St.ls n ts ms) gv (x::cs)∧K gv:=fun h=>by
   obtain⟨h1,g1⟩:=bD h
   obtain⟨gv,h2,h3⟩:=xq (cs:=cs) g1
   exact⟨none::gv,⟨h1,h2⟩,h3⟩
  unfold G2 at h
  split at h
  ·rename_i b off m
   split at h
   ·split at h
    ·rename_i arr lvl z rows hm
     split at h
     ·obtain⟨h1,g1⟩:=bD h
      obtain⟨g2,g3⟩:=g1
      have g2:=of_decide_eq_true g2
      obtain⟨gv,h2,h3⟩:=xq (cs:=cs) g3
      obtain⟨h4,h5⟩:=bD h3
      exact⟨some (b,lvl,z,rows)::gv,⟨⟨by rw[g2],hm,Nat.le_of_ble_eq_true h1,by simpa using h4⟩,h2⟩,h5⟩
     ·exact h.elim
    ·exact h.elim
   ·exact h.elim
  ·exact rest h
def lW:Gv→List AV→List (Option HLf)
 |none::l,_::os=>none::lW l os
 |some (b,lvl,z,rows)::l,.own lvl' z' rows'::os=>some ⟨b,lvl,z,rows,lvl',z',rows'⟩::lW l os
 |_,_=>[]
theorem ui{st:St}: ∀{gv:Gv}{cs os:List AV},Ab st gv cs→ox gv os→DB st (lW gv os) cs∧iu (lW gv os) cs=rY gv cs∧(lW gv os).map sB=os∧lZ (lW gv os)=wZ gv∧zm (lW gv os)=GY gv os
 |[],[],[],_,_=>⟨trivial,rfl,rfl,rfl,rfl⟩
 |[],[],_::_,_,h=>h.elim
 |[],_::_,_,h,_=>h.elim
 |none::_,[],_,h,_=>h.elim
 |some _::_,[],_,h,_=>h.elim
 |none::_,_::_,[],_,h=>h.elim
 |some _::_,_::_,[],_,h=>h.elim
 |none::gv,x::cs,o::os,⟨h1,h2⟩,⟨h3,h4⟩=>by
  obtain⟨k1,k2,k3,k4,k5⟩:=ui h2 h4
  subst h3
  exact⟨⟨h1,k1⟩,by simp[lW,iu,rY,B3,k2],by simp[lW,sB,k3],by simp[lW,lZ,wZ,k4],by simp[lW,zm,GY,k5]⟩
 |some (b,lvl,z,rows)::gv,x::cs,o::os,⟨⟨h1,h2,h3,h5⟩,h6⟩,⟨h10,h4⟩=>by
  obtain⟨k1,k2,k3,k4,k5⟩:=ui h6 h4
  cases o<;>try exact h10.elim
  obtain⟨h8,h9⟩:=h10
  exact⟨⟨⟨h1,h2,h3,h8,h9,by rw[k4];exact h5⟩,k1⟩,by simp[lW,iu,rY,B3,k2],by simp[lW,sB,k3],by simp[lW,lZ,wZ,k4],by simp[lW,zm,GY,k5]⟩
theorem Cc{o:Oper}{ts:Ts}{ms:Ms}{K:Ts→Ms→Prop}{f:FuncId}{as:List AV}(h:xe P n o ts ms K f as):wB P o (St.ls n ts ms) (KL n K) f as:=by
 unfold xe at h
 split at h
 ·rename_i cs rest
  have h:=cQ (fun _ _=>gM) h
  obtain⟨h1,g1⟩:=bD h
  obtain⟨ys,h2,g2⟩:=cO (dy (n:=⟨0,[],[]⟩) g1)
  have g2:=cQ (fun _ _=>oL) g2
  obtain⟨gv,h3,g3⟩:=xq (n:=n) (ts:=ts) g2
  have g3:=cQ (fun _ _=>tR) g3
  obtain⟨os',res,h4,h5,h6⟩:=g3
  obtain⟨k1,k2,k3,k4,k5⟩:=ui h3 h5
  obtain⟨ms',h7,h8⟩:=ia (n:=n) ts h6
  refine⟨cs,rest,lW gv os',ys,res,rfl,k1,by simpa using h1,?_,by rw[k2,k3];exact h4,?_⟩
  ·exact iP (by simpa using h1) h2
  ·rw[k5,h7]
   exact lR h8
 ·exact h.elim
theorem DA{o:Oper}{ts:Ts}{ms:Ms}{K:Ts→Ms→Prop}{q:AV × List AV × List AV}(h:yf P n o ts ms K q):nq P o (St.ls n ts ms) (KL n K) q:=by
 obtain⟨fv,as,ys⟩:=q
 unfold yf at h
 simp only at h
 unfold nq
 split at h
 ·split at h
  ·rcases h with h|⟨j,h⟩|h
   ·left
    have h:=cQ (fun _ _=>oL) h
    split at h
    ·rename_i ha
     obtain⟨res,h1,h2⟩:=h
     exact⟨res,h1,.inl ⟨by simp[ha],lR h2⟩⟩
    ·rename_i ha
     obtain⟨res,h1,h2⟩:=h
     split at h2
     ·rename_i h3
      exact⟨res,h1,.inl ⟨by simp[h3],lR h2⟩⟩
     ·obtain⟨ms',h4,h5⟩:=ia (n:=n) ts h2
      exact⟨res,h1,.inr (by rw[h4];exact lR h5)⟩
   ·exact .inr (.inl ⟨j,Dt h⟩)
   ·exact .inr (.inr (Cc h))
  ·exact h.elim
 ·exact h.elim
theorem wI{x:AV}{ts:Ts}{ms:Ms}{K:AV→Ms→Prop}(h:sR x ms K):(dr x).runK (St.ls n ts ms) fun p=> ∃ms',(St.ls n ts ms).mws p.2=St.ls n ts ms'∧K p.1 ms':=by
 have rest: ∀x:AV,okK x.goes (K x ms)→(RP.req x.goes (.ret (x,[]))).runK (St.ls n ts ms) fun p:AV × List (Nat × MB)=> ∃ms',(St.ls n ts ms).mws p.2=St.ls n ts ms'∧K p.1 ms':=fun x h=>by
  obtain⟨h1,h2⟩:=bD h
  exact⟨h1,ms,rfl,h2⟩
 cases x with
 |ref b off m=>
  simp only[sR]at h
  split at h
  ·rename_i arr lvl z rows hm
   split at h
   ·obtain⟨h1,h2⟩:=bD h
    have hm':(St.ls n ts ms).m b=.live ⟨true,lvl,z,rows⟩:=hm
    simp only[dr,RP.runK,hm',kC,gX,RP.bind,mE]
    refine⟨rfl,decide_eq_true (Nat.le_of_ble_eq_true h1),_,?_,h2⟩
    show{St.ls n ts ms with m:=bi (St.ls n ts ms).m b .dead}=_
    rw[kq]
   ·exact h.elim
  ·exact h.elim
 |_=>exact rest _ h
theorem gy{ts:Ts}: ∀{l:List AV}{ms:Ms}{K:List AV→Ms→Prop}{K':List AV→St→Prop},jf l ms K→(∀ys ms,K ys ms→K' ys (St.ls n ts ms))→cD l (St.ls n ts ms) K'
 |[],ms,K,K',h,hk=>hk _ _ h
 |x::l,ms,K,K',h,hk=>runK_mono (wI h) fun p hp=>by
  obtain⟨ms',h1,h2⟩:=hp
  rw[h1]
  exact gy h2 fun ys ms h=>hk _ _ h
theorem AY{x:AV}{w:Nat}{ts:Ts}{ms:Ms}{K:AV→Ms→Prop}{K':AV→St→Prop}(h:AC x w ms K)(hk: ∀y ms,K y ms→K' y (St.ls n ts ms)):jp x w (St.ls n ts ms) K':=by
 unfold AC at h
 split at h
 case h_2=>exact h.elim
 split at h
 case h_2=>exact h.elim
 split at h
 case h_2=>exact h.elim
 rename_i b _ j _ arr lvl z rows hm
 split at h
 case h_2=>exact h.elim
 split at h
 case h_2=>exact h.elim
 rename_i row
 have h:=cQ (fun _ _=>gM) h
 obtain⟨h1,h⟩:=bD h
 obtain⟨ms',h2,h3⟩:=ia (n:=n) ts h
 have hm':(St.ls n ts ms).m b=.live ⟨false,lvl,z,[row]⟩:=hm
 unfold jp
 simp only[hm']
 simp only[Bool.and_eq_true]at h1
 refine⟨by simp only[Bool.and_eq_true];exact⟨decide_eq_true (Nat.le_of_ble_eq_true h1.1),h1.2⟩,?_⟩
 rw[h2]
 refine gy h3 fun ys ms h=> ?_
 obtain⟨h4,h5⟩:=bD h
 exact⟨h4,hk _ _ h5⟩
theorem oG{ts:Ts}: ∀{fs:List (Option Nat)}{as:List AV}{ms:Ms}{K:List AV→Ms→Prop}{K':List AV→St→Prop},tX fs as ms K→(∀ys ms,K ys ms→K' ys (St.ls n ts ms))→gU fs as (St.ls n ts ms) K'
 |[],[],ms,K,K',h,hk=>hk _ _ h
 |[],_::_,_,_,_,h,_=>h.elim
 |none::_,[],_,_,_,h,_=>h.elim
 |some _::_,[],_,_,_,h,_=>h.elim
 |none::fs,x::as,ms,K,K',h,hk=>oG (fs:=fs) (as:=as) h fun ys ms h=>hk _ _ h
 |some w::fs,x::as,ms,K,K',h,hk=>AY h fun y ms h=>oG (fs:=fs) (as:=as) h fun ys ms h=>hk _ _ h
theorem B0{x o:AV}{b0:Nat}{ts:Ts}{ms:Ms}{K:Ms→Prop}{K':St→Prop}(h:BU x o b0 ms K)(hk: ∀ms,K ms→K' (St.ls n ts ms)):mu x o b0 (St.ls n ts ms) K':=by
 unfold BU at h
 split at h
 case h_2=>exact h.elim
 rename_i b i j
 split at h
 case h_2=>exact h.elim
 rename_i cs
 split at h
 case h_2=>exact h.elim
 rename_i arr lvl z rows hm
 split at h
 case h_2=>exact h.elim
 split at h
 case h_2=>exact h.elim
 rename_i row
 obtain⟨h1,h⟩:=bD h
 split at h
 rename_i vs l hvl
 obtain⟨h2,h⟩:=bD h
 obtain⟨ms1,h3,h⟩:=ia (n:=n) ts h
 obtain⟨ms2,h4,h5⟩:=ia (n:=n) ts h
 have hm':(St.ls n ts ms).m b=.live ⟨false,lvl,z,[row]⟩:=hm
 unfold mu
 simp only[hm',hvl]
 simp only[Bool.and_eq_true]at h1
 refine⟨by simp only[Bool.and_eq_true];exact⟨⟨h1.1.1,decide_eq_true (Nat.le_of_ble_eq_true h1.1.2)⟩,h1.2⟩,?_,?_⟩
 ·refine List.all_eq_true.2 fun p hp=> ?_
  have:=List.all_eq_true.1 h2 p hp
  show(match cd ms p.1 with| .abs=>true|_=>false)=true
  cases hm:cd ms p.1<;>rw[hm]at this<;>simp_all[fN]
 ·rw[h3,h4]
  exact hk _ h5
theorem oT{ts:Ts}: ∀{fs:List (Option Nat)}{as os:List AV}{b0:Nat}{ms:Ms}{K:Ms→Prop}{K':St→Prop},qG fs as os b0 ms K→(∀ms,K ms→K' (St.ls n ts ms))→kE fs as os b0 (St.ls n ts ms) K'
 |[],[],[],b0,ms,K,K',h,hk=>hk _ h
 |[],[],_::_,_,_,_,_,h,_=>h.elim
 |[],_::_,[],_,_,_,_,h,_=>h.elim
 |[],_::_,_::_,_,_,_,_,h,_=>h.elim
 |none::_,[],os,_,_,_,_,h,_=>by cases os<;>exact h.elim
 |some _::_,[],os,_,_,_,_,h,_=>by cases os<;>exact h.elim
 |none::_,_::_,[],_,_,_,_,h,_=>h.elim
 |some _::_,_::_,[],_,_,_,_,h,_=>h.elim
 |none::fs,x::as,o::os,b0,ms,K,K',h,hk=>by
  unfold qG at h
  split at h
  ·exact⟨rfl,oT (fs:=fs) (as:=as) h hk⟩
  ·exact h.elim
 |some w::fs,x::as,o::os,b0,ms,K,K',h,hk=>B0 h fun ms h=>oT (fs:=fs) (as:=as) h hk
theorem Af{v:AV}{K:AV→Prop}(h:HM v K):K v:=by
 cases v with
 |obj cs=>exact cQ (fun _ _=>gM) (K:=fun cs=>K (.obj cs)) h
 |_=>exact h
theorem vu{n:Nat}{K:Nat→Prop}(h:xR n K): ∃b,K b:=by
 unfold xR at h
 revert h
 generalize [100000,100300,100600,100900,101200,101500,101800,102100,102400,102700,103000,103300,103600,103900,104200]=l
 intro h
 induction l with
 |nil=>exact⟨_,h⟩
 |cons b l ih=>
  simp only at h
  split at h
  ·exact⟨_,h⟩
  ·exact ih h
theorem A6{o:Oper}{c:Call}{fo:Operand}{ts:Ts}{ms:Ms}{K:Ts→Ms→Prop}(h:(cK fo).go ts ms fun fv=>(gk c.args.toList).go ts ms fun as=>ub P n o ts ms K fv as):kD P c fo o (St.ls n ts ms) (KL n K):=by
 unfold kD
 refine runK_mono (dy h) fun fv h=> ?_
 refine runK_mono (dy h) fun as h=> ?_
 unfold ub at h
 split at h
 case h_2=>exact h.elim
 rename_i f caps
 have h:=cQ (fun _ _=>ij) h
 obtain⟨fs,h⟩:=h
 refine⟨fs,?_⟩
 have h:=cQ (fun _ _=>ij) h
 refine oG h fun gs ms h=> ?_
 refine runK_mono (dy h) fun ys h=> ?_
 have h:=cQ (fun _ _=>ij) h
 obtain⟨_,os,res,rfl,h1,h⟩:=h
 obtain⟨h2,h⟩:=bD h
 obtain⟨_,h⟩:=vu (cQ (fun _ _=>Af) h)
 exact⟨os,res,_,h1,h2,oT h fun ms h=>lR h⟩
theorem F8{o:Oper}{op:BinOp}{t:TypeId}{x y:Operand}{ts:Ts}{ms:Ms}{K:Ts→Ms→Prop}(hy:tT y=true)(h:Gn T n o op t x ts ms K):FW T o op t x y (St.ls n ts ms) (KL n K):=by
 unfold Gn at h
 obtain⟨h1,g1⟩:=bD h
 obtain⟨v,h2,g2⟩:=cO (dy (n:=n) g1)
 split at g2
 ·rename_i m hm
  split at g2
  ·rename_i d hd
   obtain⟨h3,g3⟩:=bD g2
   refine⟨hy,h1,by rw[hd];exact decide_eq_true (rf h3),v,m,h2,hm,fun b hb=> ?_⟩
   split at g3
   ·simp only
    rw[hd]
    exact⟨_,_,iQ _ _ _ _,g3.k b hb⟩
   ·simp only
    rw[hd]
    exact⟨_,_,iQ _ _ _ _,g3.k b hb⟩
   ·exact g3.elim
  ·exact g2.elim
 ·exact g2.elim
theorem pX{o:Oper}{ts:Ts}{ms:Ms}{K:Ts→Ms→Prop}(h:Jn P T n o ts ms K):tY P T o (St.ls n ts ms) (KL n K):=by
 have base:GX T o ts ms (fun r=>kv n o r ts ms K)→GZ T o (St.ls n ts ms) (KL n K):=fun h=>by
  have h:=EX (n:=n) h
  obtain⟨r,h1,h2⟩:=cO h
  refine⟨(ru h2).1,runK_mono h fun r hr=>(ru hr).2⟩
 unfold Jn at h
 unfold tY
 split at h
 ·rename_i c ho
  simp only[ho]
  split at h
  ·rename_i f hc
   simp only[hc]
   have hb:((cK f).go ts ms fun fv=>(gk c.args.toList).go ts ms fun as=>ub P n o ts ms K fv as)∨(rc c f).go ts ms (yf P n o ts ms K):=by
    have run: ∀{α:Type}(p:RP α)(K1 K2:α→Prop)(Z:Prop),p.go ts ms K1→(∀a,K1 a→K2 a∨Z)→p.go ts ms K2∨Z:=by
     intro α p
     induction p with
     |ret a=>intro K1 K2 Z h hk;exact hk a h
     |tmp k c ih=>intro K1 K2 Z h hk;exact ih _ K1 K2 Z h hk
     |mem b c ih=>intro K1 K2 Z h hk;exact ih _ K1 K2 Z h hk
     |req b c ih=>intro K1 K2 Z h hk;exact(ih K1 K2 Z h.r hk).imp (fun k=>⟨h.l,k⟩) id
     |fail=>intro K1 K2 Z h hk;exact h.elim
    refine run _ _ _ _ h fun fv h=>run _ _ _ _ h fun as h=> ?_
    split at h
    ·exact .inl h
    ·exact .inr h
   rcases hb with h|h
   ·exact .inr (A6 h)
   ·exact .inl (runK_mono (dy h) fun q hq=>DA hq)
  ·rename_i hc
   split
   ·rename_i f hf;exact absurd hf (hc f)
   ·exact base h
 ·rename_i op t x y ty ho
  simp only[ho]
  split at h
  ·rename_i hy;exact .inr (F8 hy h)
  ·exact .inl (base h)
 ·rename_i hc hc2
  split
  ·rename_i c ho;exact absurd ho (hc c)
  ·exact .inl (base h)
  ·exact base h
theorem lN{o:Oper}{ts:Ts}{ms:Ms}{K:Ts→Ms→Prop}(h:Bl n o ts ms K):(St.ls n ts ms).dstOk o.dst=true∧KL n K ((St.ls n ts ms).put o.dst (.tup [])):=by
 unfold Bl at h
 split at h
 ·rename_i hd;rw[hd];exact⟨rfl,ts,ms,rfl,h⟩
 ·rename_i d hd
  obtain⟨h1,h⟩:=bD h
  rw[hd]
  exact⟨decide_eq_true (rf h1),_,_,iQ _ _ _ _,h⟩
theorem gW{α:Type}{st:St}{K:α→Prop}: ∀{r:RP α},r.runK st K→ ∃a,K a∧ ∀K':α→Prop,K' a→r.runK st K'
 | .ret a,h=>⟨a,h,fun _ h=>h⟩
 | .tmp k c,h=>gW (r:=c (st.t k)) h
 | .mem b c,h=>gW (r:=c (st.m b)) h
 | .req b c,h=>by
  obtain⟨a,h1,h2⟩:=gW (r:=c) h.2
  exact⟨a,h1,fun K' h'=>⟨h.1,h2 K' h'⟩⟩
 | .fail,h=>h.elim
theorem kx: ∀{l:List AV}{st:St}{K:List AV→St→Prop},cD l st K→ ∃ys st1,st1.n=st.n∧K ys st1∧ ∀K':List AV→St→Prop,K' ys st1→cD l st K'
 |[],st,K,h=>⟨[],st,rfl,h,fun _ h=>h⟩
 |x::l,st,K,h=>by
  obtain⟨p,h1,h2⟩:=gW h
  obtain⟨ys,st1,h3,h4,h5⟩:=kx h1
  exact⟨p.1::ys,st1,h3.trans (fE _ _),h4,fun K' h'=>h2 _ (h5 _ h')⟩
theorem zG{x:AV}{w:Nat}{st:St}{K:AV→St→Prop}(h:jp x w st K): ∃y st1,st1.n=st.n∧K y st1∧ ∀K':AV→St→Prop,K' y st1→jp x w st K':=by
 unfold jp at h⊢
 split at h
 case h_2=>exact h.elim
 split at h
 case h_2=>exact h.elim
 split at h
 case h_2=>exact h.elim
 split at h
 case h_2=>exact h.elim
 split at h
 case h_2=>exact h.elim
 obtain⟨ys,st1,h3,h4,h5⟩:=kx h.2
 exact⟨.obj ys,st1,h3.trans (fE _ _),h4.2,fun K' h'=>⟨h.1,h5 _ ⟨h4.1,h'⟩⟩⟩
theorem mw: ∀{fs:List (Option Nat)}{as:List AV}{st:St}{K:List AV→St→Prop},gU fs as st K→ ∃ys st1,st1.n=st.n∧K ys st1∧ ∀K':List AV→St→Prop,K' ys st1→gU fs as st K'
 |[],[],st,K,h=>⟨[],st,rfl,h,fun _ h=>h⟩
 |[],_::_,_,_,h=>h.elim
 |none::_,[],_,_,h=>h.elim
 |some _::_,[],_,_,h=>h.elim
 |none::fs,x::as,st,K,h=>by
  obtain⟨ys,st1,h3,h4,h5⟩:=mw (fs:=fs) (as:=as) h
  exact⟨_,st1,h3,h4,fun K' h'=>h5 _ h'⟩
 |some w::fs,x::as,st,K,h=>by
  obtain⟨y,st1,h1,h2,h3⟩:=zG h
  obtain⟨ys,st2,h4,h5,h6⟩:=mw (fs:=fs) (as:=as) h2
  exact⟨_,st2,h4.trans h1,h5,fun K' h'=>h3 _ (h6 _ h')⟩
theorem zc{x o:AV}{b0:Nat}{st:St}{K:St→Prop}(h:mu x o b0 st K): ∃st1,st1.n=st.n∧K st1∧ ∀K':St→Prop,K' st1→mu x o b0 st K':=by
 unfold mu at h⊢
 split at h
 case h_2=>exact h.elim
 split at h
 case h_2=>exact h.elim
 split at h
 case h_2=>exact h.elim
 split at h
 case h_2=>exact h.elim
 split at h
 case h_2=>exact h.elim
 exact⟨_,(fE _ _).trans (fE _ _),h.2.2,fun K' h'=>⟨h.1,h.2.1,h'⟩⟩
theorem mS: ∀{fs:List (Option Nat)}{as os:List AV}{b0:Nat}{st:St}{K:St→Prop},kE fs as os b0 st K→ ∃st1,st1.n=st.n∧K st1∧ ∀K':St→Prop,K' st1→kE fs as os b0 st K'
 |[],[],[],b0,st,K,h=>⟨st,rfl,h,fun _ h=>h⟩
 |[],[],_::_,_,_,_,h=>h.elim
 |[],_::_,[],_,_,_,h=>h.elim
 |[],_::_,_::_,_,_,_,h=>h.elim
 |none::_,[],os,_,_,_,h=>by cases os<;>exact h.elim
 |some _::_,[],os,_,_,_,h=>by cases os<;>exact h.elim
 |none::_,_::_,[],_,_,_,h=>h.elim
 |some _::_,_::_,[],_,_,_,h=>h.elim
 |none::fs,x::as,o::os,b0,st,K,h=>by
  obtain⟨st1,h3,h4,h5⟩:=mS (fs:=fs) (as:=as) h.2
  exact⟨st1,h3,h4,fun K' h'=>⟨h.1,h5 _ h'⟩⟩
 |some w::fs,x::as,o::os,b0,st,K,h=>by
  obtain⟨st1,h1,h2,h3⟩:=zc h
  obtain⟨st2,h4,h5,h6⟩:=mS (fs:=fs) (as:=as) h2
  exact⟨st2,h4.trans h1,h5,fun K' h'=>h3 _ (h6 _ h')⟩
theorem qQ{c:Call}{fo:Operand}{o:Oper}{st:St}{K:St→Prop}(h:kD P c fo o st K): ∃st1 res,st1.n=st.n∧fh o st1 res K∧ ∀K':St→Prop,fh o st1 res K'→kD P c fo o st K':=by
 unfold kD at h⊢
 obtain⟨fv,h,g1⟩:=gW h
 obtain⟨as,h,g2⟩:=gW h
 cases fv with
 |fn f caps=>
  obtain⟨fs,h⟩:=h
  obtain⟨gs,st1,e1,h,g3⟩:=mw h
  obtain⟨ys,h,g4⟩:=gW h
  obtain⟨os,res,b0,h1,h2,h⟩:=h
  obtain⟨st2,e2,h,g5⟩:=mS h
  exact⟨st2,res,e2.trans e1,h,fun K' h'=>g1 _ (g2 _ ⟨fs,g3 _ (g4 _ ⟨os,res,b0,h1,h2,g5 _ h'⟩)⟩)⟩
 |_=>exact h.elim
theorem yj{o:Oper}{st:St}{K:St→Prop}(h:tY P T o st K):st.dstOk o.dst=true:=by
 unfold tY at h
 split at h
 ·split at h
  ·have land0: ∀(s:St) res,s.n=st.n→fh o s res K→st.dstOk o.dst=true:=fun s res hs h3=>by
    unfold fh at h3
    split at h3
    ·rename_i hd;rw[hd];rfl
    ·rename_i d hd
     rw[hd]
     have:=h3.2.2.1
     rw[hs]at this
     exact this
   rcases h with h|h
   case inr=>
    obtain⟨st1,res,h1,h2,_⟩:=qQ h
    exact land0 st1 res h1 h2
   obtain⟨q,_,hq⟩:=cO h
   unfold nq at hq
   have land: ∀(s:St) res,s.n=st.n→fh o s res K→st.dstOk o.dst=true:=fun s res hs h3=>by
    unfold fh at h3
    split at h3
    ·rename_i hd;rw[hd];rfl
    ·rename_i d hd
     rw[hd]
     have:=h3.2.2.1
     rw[hs]at this
     exact this
   split at hq
   ·split at hq
    ·rcases hq with⟨res,h1,⟨h2,h3⟩|h3⟩|⟨j,b,lvl,z,rows,ys,lvl',z',rows',res,h1,h2,h3,h4,h5,h6,h7,h8,h9,h10⟩|⟨cs,rest,ds,ys,res,h1,h2,h3,h4,h5,h6⟩
     ·exact land st res rfl h3
     ·exact land (st.mws (jy q.2.1)) res (fE _ _) h3
     ·exact land (st.mws [(b,_)]) res (fE _ _) h10
     ·exact land (st.mws (zm ds)) res (fE _ _) h6
    ·exact hq.elim
   ·exact hq.elim
  ·exact h.1
 ·rcases h with h|h
  ·exact h.1
  ·exact h.2.2.1
 ·exact h.1
theorem qP{o:Oper}{st:St}{K K':St→Prop}(h:tY P T o st K)(hk: ∀s,K s→K' s):tY P T o st K':=by
 have hl: ∀(st:St) res,fh o st res K→fh o st res K':=fun st res h=>by
  unfold fh at h⊢
  split at h
  ·exact hk _ h
  ·exact⟨h.1,h.2.1,h.2.2.1,hk _ h.2.2.2⟩
 unfold tY at h⊢
 split at h
 ·split at h
  ·rcases h with h|h
   case inr=>
    obtain⟨st1,res,h1,h2,h3⟩:=qQ h
    exact .inr (h3 _ (hl _ _ h2))
   refine .inl (runK_mono h fun q hq=> ?_)
   unfold nq at hq⊢
   split at hq
   ·split at hq
    ·rcases hq with⟨res,h1,⟨h2,h3⟩|h3⟩|⟨j,b,lvl,z,rows,ys,lvl',z',rows',res,h1,h2,h3,h4,h5,h6,h7,h8,h9,h10⟩|⟨cs,rest,ds,ys,res,h1,h2,h3,h4,h5,h6⟩
     ·exact .inl ⟨res,h1,.inl ⟨h2,hl _ _ h3⟩⟩
     ·exact .inl ⟨res,h1,.inr (hl _ _ h3)⟩
     ·exact .inr (.inl ⟨j,b,lvl,z,rows,ys,lvl',z',rows',res,h1,h2,h3,h4,h5,h6,h7,h8,h9,hl _ _ h10⟩)
     ·exact .inr (.inr ⟨cs,rest,ds,ys,res,h1,h2,h3,h4,h5,hl _ _ h6⟩)
    ·exact hq.elim
   ·exact hq.elim
  ·exact⟨h.1,runK_mono h.2 fun r hr=>hk _ hr⟩
 ·rename_i op t x y ty _
  rcases h with h|⟨h1,h2,h3,v,n,h4,h5,h6⟩
  ·exact .inl ⟨h.1,runK_mono h.2 fun r hr=>hk _ hr⟩
  ·refine .inr ⟨h1,h2,h3,v,n,h4,h5,fun b hb=> ?_⟩
   have:=h6 b hb
   cases op<;>simp only at this⊢ <;>first|exact hk _ this|exact this
 ·exact⟨h.1,runK_mono h.2 fun r hr=>hk _ hr⟩
theorem ri{ops:List Oper}{o:Oper}{st:St}{K K':St→Prop}(h:jU P T ops o st K)(hk: ∀s,K s→K' s):jU P T ops o st K':=by
 unfold jU at h⊢
 split at h
 ·exact qP h hk
 ·refine⟨h.1,?_⟩
  have h:=h.2
  unfold tF at h⊢
  split at h
  ·refine⟨fun hb=> ?_,fun hb=> ?_⟩
   ·have h:=h.1 hb
    split at h
    ·rename_i hw;rw[if_pos hw];exact qP h hk
    ·rename_i hw;rw[if_neg hw];exact hk _ h
   ·have h:=h.2 hb
    split at h
    ·rename_i hw;rw[if_pos hw];exact hk _ h
    ·rename_i hw;rw[if_neg hw];exact qP h hk
  ·exact hk _ h
  ·exact h.elim
 ·exact h.elim
theorem yN{ts:Ts}{ms:Ms}{K:Ts→Ms→Prop}(k:Nat)(h:lz k ts ms K): ∃ts' ms',StL (St.ls n ts ms) (St.ls n ts' ms')∧K ts' ms':=by
 unfold lz at h
 split at h
 case h_2=>exact h.elim
 rename_i b off len hk
 split at h
 case h_2=>exact h.elim
 rename_i arr lvl z rows hb
 split at h
 case h_2=>exact h.elim
 obtain⟨hl,h⟩:=bD h
 refine⟨_,_,fun E a w ⟨loc,ob,r⟩=> ?_,h⟩
 have hrun:(ec (AV.ref b off len)).run (St.ls n ts ms)=some (.ro z (am rows off len)):=by
  have hm:(St.ls n ts ms).m b=.live ⟨true,lvl,z,rows⟩:=hb
  have hl2:decide (lvl≤1)=true:=decide_eq_true (Nat.le_of_ble_eq_true hl)
  show((kC ((St.ls n ts ms).m b)).bind fun blk=>RP.req (decide (blk.lvl≤1)) (RP.ret (match blk with|⟨_,_,z,rows⟩=>AV.ro z (am rows off len)))).run (St.ls n ts ms)=_
  rw[hm]
  show(RP.req (decide (lvl≤1)) (RP.ret (AV.ro z (am rows off len)))).run (St.ls n ts ms)=_
  show(if decide (lvl≤1)=true then some (AV.ro z (am rows off len))else none)=_
  rw[if_pos hl2]
 have hx:=r.tm k
 have hx':AR w (RS E w (al ob ae)) loc (.ref b off len) (a.tmps.getD k undef) ae:=by
  have e:(St.ls n ts ms).t k=.ref b off len:=hk
  rw[e]at hx
  exact hx
 obtain⟨h1,h2⟩:=mG (bs:=[b]) r hx' hrun (fun b' hb'=>by simpa[AV.refs0]using hb')
 have r1:=r.kills [b] (fun b' hb'=>h2 b' (by simpa[AV.refs0]using hb'))
 have e1:(St.ls n ts ms).mws (mK [b])=St.ls n ts ((b,.dead)::ms):=kq ts ms b .dead
 rw[e1]at r1
 refine⟨loc,_,⟨fun j=> ?_,r1.sz,r1.df,r1.ab,r1.dd,r1.lv,r1.db,r1.dx,r1.lt,r1.sub,r1.fr,r1.an⟩⟩
 show AR w _ loc (cX ((k,.ro z (am rows off len))::ts) j) _ ae
 unfold cX
 split
 ·rename_i hj
  obtain rfl:=Nat.eq_of_beq_eq_true hj
  exact h1.weak (fun _ _ k=>k) (fun b l hh=>by cases hh)
 ·exact r1.tm j
theorem nG: ∀{l:List Nat}{ts:Ts}{ms:Ms}{K:Ts→Ms→Prop},uJ l ts ms K→ ∃ts' ms',StL (St.ls n ts ms) (St.ls n ts' ms')∧K ts' ms'
 |[],ts,ms,K,h=>⟨ts,ms,StL.refl _,h⟩
 |k::l,ts,ms,K,h=>by
  unfold uJ at h
  split at h
  ·rename_i b off len hk1
   split at h
   case h_2=>exact h.elim
   rename_i arr lvl z rows hb
   split at h
   case h_2=>exact h.elim
   obtain⟨hl,h⟩:=bD h
   obtain⟨rows',he,h⟩:=h
   obtain⟨ts',ms',h1,h2⟩:=yN (n:=n) (K:=fun ts ms=>uJ l ts ms K) k (by
    unfold lz
    rw[hk1]
    simp only
    rw[hb]
    simp only
    unfold okK
    rw[hl,he]
    exact h)
   obtain⟨ts2,ms2,h3,h4⟩:=nG h2
   exact⟨ts2,ms2,h1.trans h3,h4⟩
  ·exact nG h
theorem AW{o:Oper}{ts:Ts}{ms:Ms}{K:Ts→Ms→Prop}(h:rU n o ts ms K): ∃ts' ms',StL (St.ls n ts ms) (St.ls n ts' ms')∧K ts' ms':=by
 unfold rU at h
 split at h
 ·exact⟨ts,ms,StL.refl _,h⟩
 ·split at h
  ·split at h
   ·exact nG h
   ·exact⟨ts,ms,StL.refl _,h⟩
  ·exact⟨ts,ms,StL.refl _,h⟩
theorem xZ{ops:List Oper}: ∀{rest:List Oper}{ts:Ts}{ms:Ms}{K:Ts→Ms→Prop},wL P T n ops rest ts ms K→vg P T ops rest (St.ls n ts ms) (KL n K)
 |[],ts,ms,K,h=>⟨ts,ms,rfl,h⟩
 |o::rest,ts,ms,K,h=>by
  unfold wL at h
  unfold vg
  have next: ∀s,KL n (fun ts ms=>rU n o ts ms fun ts ms=>wL P T n ops rest ts ms K) s→ ∃s',StL s s'∧vg P T ops rest s' (KL n K):=by
   rintro s ⟨ts',ms',rfl,h⟩
   obtain⟨_,_,h1,h2⟩:=AW h
   exact⟨_,h1,xZ h2⟩
  refine ri ?_ next
  unfold jU
  split at h
  ·rename_i hg;rw[hg];exact pX h
  ·rename_i d want hg
   rw[hg]
   unfold CG at h
   split at h
   ·rename_i b hb
    have hb':(St.ls n ts ms).t d=.bool b:=hb
    simp only[hb']
    split at h
    ·refine⟨?_,?_⟩
     ·refine h.out (fun e h=> ?_) fun e h=> ?_
      ·have:=yj (pX h)
       exact this
      ·exact(lN h).1
     ·refine⟨fun e=> ?_,fun e=> ?_⟩
      ·rw[if_pos rfl,iQ]
       exact pX (h.1 e)
      ·rw[if_pos rfl,iQ]
       exact(lN (h.2 e)).2
    ·refine⟨?_,?_⟩
     ·refine h.out (fun e h=> ?_) fun e h=> ?_
      ·exact(lN h).1
      ·have:=yj (pX h)
       exact this
     ·refine⟨fun e=> ?_,fun e=> ?_⟩
      ·rw[if_neg (by simp),iQ]
       exact(lN (h.1 e)).2
      ·rw[if_neg (by simp),iQ]
       exact pX (h.2 e)
   ·rename_i vs hb
    split at h
    ·have hb':(St.ls n ts ms).t d=.tup []:=hb
     simp only[hb']
     exact⟨(lN h).1,(lN h).2⟩
    ·exact h.elim
   ·exact h.elim
  ·exact h.elim
end
end Go.Abs
