/- Prims in plain Lean: sums of cells. No program in sight. -/
import Derived.Test.YtidkogijdlfjpaaGreatDoorAbsd
set_option linter.unusedVariables false
set_option linter.unusedSimpArgs false
namespace Go.Abs
open Go
def wc(n:Int):Int:=IntKind.i64.wrap (IntKind.i32.wrap n)
theorem i32_e(n:Int):IntKind.i32.wrap n=if n%4294967296<2147483648 then n%4294967296 else n%4294967296-4294967296:=by
 show(if(true&&decide (n%2 ^ 32≥2 ^ (32-1)))=true then n%2 ^ 32-2 ^ 32 else n%2 ^ 32)=_
 have e:(2:Int) ^ 32=4294967296:=by decide
 have e2:(2:Int) ^ (32-1)=2147483648:=by decide
 simp only[e,e2,Bool.true_and,decide_eq_true_eq]
 split<;>split<;>omega
theorem i32_cell(n:Int): -2147483648≤IntKind.i32.wrap n∧IntKind.i32.wrap n≤2147483647:=by
 rw[i32_e];split<;>omega
theorem wc_e(n:Int):wc n=IntKind.i32.wrap n:=by
 have:=i32_cell n
 exact wrap_fits (by simp[fitsK];omega)
theorem wc_cell(n:Int): -2147483648≤wc n∧wc n≤2147483647:=by rw[wc_e];exact i32_cell n
theorem wc_id{n:Int}(h1: -2147483648≤n)(h2:n≤2147483647):wc n=n:=by
 rw[wc_e,i32_e];split<;>omega
theorem wc_congr{a b:Int}(h:a%4294967296=b%4294967296):wc a=wc b:=by rw[wc_e,wc_e,i32_e,i32_e,h]
def floorQ(a b:Int):Int:=if a.tmod b≠0∧((a<0)≠(b<0))then a.tdiv b-1 else a.tdiv b
theorem tmod_sign{a b:Int}:(0≤a→0≤a.tmod b)∧(a<0→a.tmod b≤0):=by
 refine⟨fun h=>Int.tmod_nonneg _ h,fun h=> ?_⟩
 have h2:0≤(-a).tmod b:=Int.tmod_nonneg _ (by omega)
 rw[Int.neg_tmod]at h2
 omega
theorem floor_i{a b:Int}(h:a.tmod b≠0):((a.tmod b<0)≠(b<0))=((a<0)≠(b<0)):=by
 have:=tmod_sign (a:=a) (b:=b)
 have e:(a.tmod b<0)=(a<0):=by
  apply propext
  constructor
  ·intro k
   by_cases ha:a<0
   ·exact ha
   ·have:=this.1 (by omega);omega
  ·intro k
   have:=this.2 k
   omega
 rw[e]
theorem floor_r{a b:Int}(h:a.tmod b≠0∧((a<0)≠(b<0))):a.tmod b+b=a-floorQ a b*b:=by
 rw[floorQ,if_pos h,Int.sub_mul,Int.one_mul]
 have:=Int.mul_tdiv_add_tmod a b
 rw[Int.mul_comm]at this
 omega
theorem floor_r0{a b:Int}(h: ¬(a.tmod b≠0∧((a<0)≠(b<0)))):a.tmod b=a-floorQ a b*b:=by
 rw[floorQ,if_neg h]
 have:=Int.mul_tdiv_add_tmod a b
 rw[Int.mul_comm]at this
 omega
theorem tdiv_le(a b:Int):(0≤a→ -a≤a.tdiv b∧a.tdiv b≤a)∧(a<0→a≤a.tdiv b∧a.tdiv b≤ -a):=by
 have h:(a.tdiv b).natAbs≤a.natAbs:=by rw[Int.natAbs_tdiv];exact Nat.div_le_self _ _
 omega
theorem u32_e(n:Int):IntKind.u32.wrap n=n%4294967296:=rfl
theorem i64_mod(n:Int):IntKind.i64.wrap n%4294967296=n%4294967296:=by
 have e:IntKind.i64.wrap n=if(true&&decide (n%2 ^ 64≥2 ^ (64-1)))=true then n%2 ^ 64-2 ^ 64 else n%2 ^ 64:=rfl
 have e1:(2:Int) ^ 64=18446744073709551616:=by decide
 rw[e,e1]
 split<;>omega
theorem i32_mod(n:Int):IntKind.i32.wrap n%4294967296=n%4294967296:=by
 rw[i32_e];split<;>omega
theorem shl_same(a:Int)(b:Nat):wc (IntKind.i64.wrap (a*2 ^ b))=wc (IntKind.u32.wrap (IntKind.u32.wrap (IntKind.i32.wrap a)*2 ^ b)):=by
 apply wc_congr
 rw[i64_mod,u32_e,u32_e,Int.emod_emod_of_dvd _ (by decide),Int.mul_emod (a%4294967296|>fun _=>IntKind.i32.wrap a%4294967296),Int.emod_emod_of_dvd _ (by decide),i32_mod,←Int.mul_emod]
theorem u64_mod(n:Int):IntKind.u64.wrap n%4294967296=n%4294967296:=by
 have e:IntKind.u64.wrap n=n%18446744073709551616:=rfl
 rw[e];omega
theorem u32_mod(n:Int):IntKind.u32.wrap n%4294967296=n%4294967296:=by rw[u32_e];omega
theorem wc_u(n:Int):wc (IntKind.u32.wrap (IntKind.u64.wrap n))=wc n:=wc_congr (by rw[u32_mod,u64_mod])
def bitw(f:BitVec 64→BitVec 64→BitVec 64)(a b:Int):Int:=IntKind.i64.wrap ((f (BitVec.ofInt 64 a) (BitVec.ofInt 64 b)).toNat:Int)
def unsI(n:Int):Int:=IntKind.i64.wrap (IntKind.u32.wrap (IntKind.i32.wrap n))
def twoF(op:Nat)(a b:Int):Option Int:=match op with
 |1=>some (wc (a+b))
 |2=>some (wc (a-b))
 |3=>some (wc (a*b))
 |4=>if b=0 then none else some (wc (floorQ a b))
 |5=>if b=0 then none else some (a-floorQ a b*b)
 |6=>some (bitw (· &&& ·) a b)
 |7=>some (bitw (· ||| ·) a b)
 |8=>some (bitw (· ^^^ ·) a b)
 |9=>some (if inR b 0 31=true then wc (a*2 ^ b.toNat)else 0)
 |_=>some (if inR b 0 31=true then wc ((unsI a).fdiv (2 ^ b.toNat))else 0)
def flagF(b:Bool):Int:=if b=true then-1 else 0
def compF1(p:Nat)(b c:Int):Int:=match p with
 |25=>wc (-c)
 |26=>wc (max c (-c))
 |27=> -c-1
 |28=>wc (c+1)
 |29=>wc (c-1)
 |30=>min b c
 |31=>max b c
 |32=>flagF (decide (b=c))
 |33=>flagF (!decide (b=c))
 |34=>flagF (decide (b<c))
 |35=>flagF (decide (c<b))
 |36=>flagF (decide (unsI b<unsI c))
 |37=>flagF (decide (c=0))
 |_=>flagF (decide (c<0))
def takesN(p:Nat):Nat:=[1,1,2,2,3,2,2,1,2,2,0,1,0,0,2,2,2,2,2,2,2,2,2,2,1,1,1,1,1,2,2,2,2,2,2,2,1,1,1,2,2,0,1,1,1,1,0,0,0,0,0,0].getD (p-1) 0
def backN(p:Nat):Nat:=match p with
 |13=>1
 |14=>1
 |51=>1
 |52=>2
 |_=>0
def putR(d:Dat)(r l:List Int):Dat × Int:=if 32<r.length+l.length then({d with st:=r},-3)else({d with st:=r++l},0)
def cellAt(d:Dat)(a:Int):Option Nat:=if inR a 4096 (4096+4*d.he-1)=true∧a.tmod 4=0 then some ((a-4096).tdiv 4).toNat else none
def zeros(ce:List Int)(a b:Int):List Int:=ce.take a.toNat++List.replicate (b-a).toNat 0++ce.drop (max a.toNat b.toNat)
def allotF(d:Dat)(n:Int):Dat × Int:=if n.tmod 4≠0∨inR (d.he+n.tdiv 4) 0 32=false then(d,-8)else({d with ce:=zeros d.ce d.he (d.he+n.tdiv 4),he:=d.he+n.tdiv 4},0)
def sayF(d:Dat)(t:List UInt8):Dat × Int:=if 300<d.ou.length+t.length then(d,-17)else({d with ou:=d.ou++t},0)
def storeF(d:Dat)(a n:Int):Dat × Int:=match cellAt d a with
 |none=>(d,-9)
 |some k=>({d with ce:=d.ce.set k n},0)
def primR(txt:Int→Int→List UInt8)(p:Nat)(d:Dat)(r:List Int)(a b c:Int):Dat × Int:=match p with
 |1=>putR d r [c,c]
 |2=>({d with st:=r},0)
 |3=>putR d r [c,b]
 |4=>putR d r [b,c,b]
 |5=>putR d r [b,c,a]
 |6=>putR d r [c]
 |7=>putR d r [c,b,c]
 |8=>if c=0 then putR d r [0]else putR d r [c,c]
 |9=>putR d r [b,c,b,c]
 |10=>({d with st:=r},0)
 |11=>putR d r [(r.length:Int)]
 |12=>if d.bk.length=32 then({d with st:=r},-5)else({d with st:=r,bk:=d.bk++[c]},0)
 |13=>putR {d with bk:=d.bk.take (d.bk.length-1)} r [d.bk.getD (d.bk.length-1) 0]
 |14=>putR d r [d.bk.getD (d.bk.length-1) 0]
 |39=>match cellAt d c with
  |none=>({d with st:=r},-9)
  |some k=>putR d r [d.ce.getD k 0]
 |40=>storeF {d with st:=r} c b
 |41=>match cellAt d c with
  |none=>({d with st:=r},-9)
  |some k=>({d with st:=r,ce:=d.ce.set k (wc (d.ce.getD k 0+b))},0)
 |42=>putR d r [4096+4*d.he]
 |43=>allotF {d with st:=r} c
 |44=>match allotF {d with st:=r} 4 with
  |(x,th)=>if th≠0 then(x,th)else storeF x (4096+4*d.he) c
 |45=>sayF {d with st:=r} [UInt8.ofNat (c%256).toNat]
 |46=>sayF {d with st:=r} (txt c d.ba++[32])
 |47=>sayF {d with st:=r} [10]
 |48=>sayF {d with st:=r} [32]
 |49=>({d with st:=r,ba:=10},0)
 |50=>({d with st:=r,ba:=16},0)
 |51=>putR d r [d.bk.getD (d.bk.length-1) 0]
 |52=>({d with st:=r,bk:=d.bk.take (d.bk.length-2)},0)
 |p=>if p≤24 then(match twoF (p-14) b c with
  |none=>({d with st:=r},-10)
  |some v=>putR d r [v])else putR d r [compF1 p b c]
def primI(txt:Int→Int→List UInt8)(p:Nat)(fl:Int)(d:Dat):Dat × Int:=
 if d.st.length<takesN p then(d,-4)else if(d.bk.length:Int)-fl<backN p then(d,-6)
 else primR txt p d (d.st.take (d.st.length-takesN p)) (d.st.getD (d.st.length-3) 0) (d.st.getD (d.st.length-2) 0) (d.st.getD (d.st.length-1) 0)
def primF(txt:Int→Int→List UInt8)(p:Nat)(fl:Int)(d:Dat):Dat × Int:=if(primI txt p fl d).2=0 then primI txt p fl d else(d,(primI txt p fl d).2)
def twoV(op:Nat)(a b:Int):Int × Bool:=match twoF op a b with
 |none=>(0,false)
 |some v=>(v,true)
end Go.Abs
