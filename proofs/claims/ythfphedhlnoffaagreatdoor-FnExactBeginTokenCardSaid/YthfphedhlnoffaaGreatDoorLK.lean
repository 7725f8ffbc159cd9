import Derived.Test.YthfphedhlnoffaaGreatDoorLJ
import Derived.Shelf.Strconv.Itoa3
import Derived.Lib.LaidTab
import Derived.MakeChecks
import Derived.Lib.ItoaLen
import Derived.Shelf.Strings.Split
import Derived.Shelf.Strings.Fields
import Derived.Test.YthfphedhlnoffaaGreatDoorLG
import Derived.Below
/- The data of the program in plain Lean: their rows, sizes and marks. No program in sight. -/
set_option linter.unusedVariables false
set_option linter.unusedSimpArgs false
noncomputable section
namespace Go.Abs
open Go
section
variable{α:Type}(mks:Int→α)(c:Int)
def gW(n:Nat)(k:Int):List α:=(List.range n).map fun i:Nat=>mks (k+c*(i:Int))
theorem bg(n:Nat)(k:Int):(gW mks c n k).length=n:=by simp[gW]
theorem ul(n:Nat)(k:Int):gW mks c (n+1) k=gW mks c n k++[mks (k+c*n)]:=by simp[gW,List.range_succ]
theorem CV{n i:Nat}{k:Int}(h:i<n)(d:α):(gW mks c n k).getD i d=mks (k+c*i):=by simp[gW,h]
def mE(xs:List α)(k:Int)(i:Nat):List α:=gW mks c i k++xs.drop i
theorem kT{xs:List α}{k:Int}{i:Nat}(h:i≤xs.length):(mE mks c xs k i).length=xs.length:=by simp[mE,bg];omega
theorem iX(xs:List α)(k:Int):mE mks c xs k 0=xs:=by simp[mE,gW]
theorem kw(xs:List α)(k:Int):mE mks c xs k xs.length=gW mks c xs.length k:=by simp[mE]
theorem iU{xs:List α}{k:Int}{i:Nat}(h:i<xs.length):(mE mks c xs k i).set i (mks (k+c*i))=mE mks c xs k (i+1):=by
 unfold mE
 rw[List.set_append_right _ _ (by simp[bg]),bg,Nat.sub_self,List.drop_eq_getElem_cons h,List.set_cons_zero,ul]
 simp
def dC[DecidableEq α](xs:List α)(k:Int):Int:=if xs=gW mks c xs.length k then k+c*xs.length else-1
theorem dr[DecidableEq α]{xs:List α}{k:Int}{i:Nat}(d:α)(h:i<xs.length)(hne:xs.getD i d≠mks (k+c*i)):dC mks c xs k= -1:=by
 have:xs≠gW mks c xs.length k:=fun e=>hne (by
  have h3:xs.getD i d=(gW mks c xs.length k).getD i d:=by rw[←e]
  rw[h3,CV mks c h])
 rw[dC,if_neg this]
theorem gJ{xs:List α}{k:Int}{i:Nat}(d:α)(h:i<xs.length)(ht:xs.take i=gW mks c i k)(he:xs.getD i d=mks (k+c*i)):xs.take (i+1)=gW mks c (i+1) k:=by
 have h5:xs[i]=mks (k+c*i):=by simpa[h]using he
 rw[List.take_succ_eq_append_getElem h,ht,h5,ul]
theorem gU[DecidableEq α]{xs:List α}{k:Int}{i:Nat}(hi:xs.length≤i)(hi2:i≤xs.length)(ht:xs.take i=gW mks c i k):dC mks c xs k=k+c*xs.length:=by
 obtain rfl:i=xs.length:=by omega
 have:xs=gW mks c xs.length k:=by rw[←ht];simp
 rw[dC,if_pos this]
theorem jY[DecidableEq α](n:Nat)(k:Int):dC mks c (gW mks c n k) k=k+c*n:=by simp[dC,bg]
theorem gO[DecidableEq α](xs:List α)(k:Int):dC mks c xs k≤k+c*xs.length∨dC mks c xs k= -1:=by
 unfold dC
 split
 ·exact .inl (Int.le_refl _)
 ·exact .inr rfl
end
theorem aZ(rows:List (List AV))(i j:Nat)(z vs:List AV):(be rows i j z vs).length=rows.length:=by simp[be]
def jJ(x:Int)(f:Int→Int):Int:=if x<0 then-1 else f x
theorem dW{x:Int}{f:Int→Int}(e:0≤jJ x f):0≤x∧0≤f x∧jJ x f=f x:=by
 unfold jJ at e⊢
 by_cases h:x<0
 ·rw[if_pos h]at e;omega
 ·rw[if_neg h]at e⊢;exact⟨by omega,e,rfl⟩
def mc(n:Nat)(left:Int):Int:=if IntKind.i64.wrap (left-n)<0 then-1 else IntKind.i64.wrap (left-n)
theorem iJ{m:Nat}{l:Int}(h1:0≤l)(h2:l≤1048576)(hx:m≤9223372036854775807)(h:0≤mc m l):mc m l≤l∧m≤1048576:=by
 unfold mc at h⊢
 rw[wr h1 h2 hx]at h⊢
 by_cases h3:l-(m:Int)<0
 ·rw[if_pos h3]at h;omega
 ·rw[if_neg h3];omega
abbrev zI:List AV:=[.int .i64 0]
abbrev zB:List AV:=[.bool false]
abbrev zS:List AV:=[.str []]
def dQ(b:Bool):List AV:=[.bool b]
def pa(bs:List Bool):AV:=.ro zB (bs.map dQ)
def bn(bs:List Bool):AV:=.own 0 zB (bs.map dQ)
def lL(k:Int):Bool:=k.tmod 3==0
def eM(k:Int):Int:=k
structure Deal where
 c:Int
 a:Int
 b:Int
 r:Int
 deriving DecidableEq,Inhabited
def aV(d:Deal):List AV:=[.int .i64 d.c,.int .i64 d.a,.int .i64 d.b,.int .i64 d.r]
def iW(d:Deal):AV:=.agg (aV d)
abbrev zD:List AV:=[.int .i64 0,.int .i64 0,.int .i64 0,.int .i64 0]
def ll(ds:List Deal):AV:=.ro zD (ds.map aV)
def bm(ds:List Deal):AV:=.own 0 zD (ds.map aV)
def jM(k:Int):Deal:=⟨k,k+1,k+2,k+3⟩
structure Wd where
 nm:List UInt8
 k:Int
 v:Int
 deriving DecidableEq,Inhabited
def dc(x:Wd):List AV:=[.str x.nm,.int .i64 x.k,.int .i64 x.v]
def vI(x:Wd):AV:=.agg (dc x)
abbrev zW:List AV:=[.str [],.int .i64 0,.int .i64 0]
def fb(xs:List Wd):AV:=.ro zW (xs.map dc)
def dz(xs:List Wd):AV:=.own 0 zW (xs.map dc)
structure Itm where
 k:Int
 v:Int
 deriving DecidableEq,Inhabited
def K6(x:Itm):List AV:=[.int .i64 x.k,.int .i64 x.v]
abbrev zT:List AV:=[.int .i64 0,.int .i64 0]
def jL(xs:List Itm):AV:=.own 0 zT (xs.map K6)
structure Cal where
 ip:Int
 fl:Int
 dp:Int
 ca:Bool
 deriving DecidableEq,Inhabited
def bK(x:Cal):List AV:=[.int .i64 x.ip,.int .i64 x.fl,.int .i64 x.dp,.bool x.ca]
def rt(x:Cal):AV:=.agg (bK x)
abbrev zC:List AV:=[.int .i64 0,.int .i64 0,.int .i64 0,.bool false]
def nK(xs:List Cal):AV:=.ro zC (xs.map bK)
def dH(xs:List Cal):AV:=.own 0 zC (xs.map bK)
def kL(k:Int):Cal:=⟨k,k+1,k+2,(k+3).tmod 3==0⟩
structure Dat where
 st:List Int
 bk:List Int
 ce:List Int
 he:Int
 ba:Int
 ou:List UInt8
 deriving DecidableEq,Inhabited
def GZ(d:Dat):List AV:=[dE d.st,dE d.bk,dE d.ce,.int .i64 d.he,.int .i64 d.ba,.str d.ou]
def az(d:Dat):AV:=.agg (GZ d)
def aw(d:Dat):List AV:=[aU d.st,aU d.bk,aU d.ce,.int .i64 d.he,.int .i64 d.ba,.str d.ou]
def jK(d:Dat):AV:=.agg (aw d)
@[simp] theorem Dat.eta(d:Dat):(⟨d.st,d.bk,d.ce,d.he,d.ba,d.ou⟩:Dat)=d:=rfl
def Iz:Dat:=⟨[],[],[],0,0,[]⟩
structure Hst where
 gr:List Bool
 st:List Int
 q:List Int
 tk:Int
 ds:List Deal
 deriving DecidableEq,Inhabited
def C8(h:Hst):List AV:=[pa h.gr,dE h.st,dE h.q,.int .i64 h.tk,ll h.ds]
def cS(h:Hst):AV:=.agg (C8 h)
def bS(h:Hst):List AV:=[bn h.gr,aU h.st,aU h.q,.int .i64 h.tk,bm h.ds]
def fI(h:Hst):AV:=.agg (bS h)
@[simp] theorem Hst.eta(h:Hst):(⟨h.gr,h.st,h.q,h.tk,h.ds⟩:Hst)=h:=rfl
def Is:Hst:=⟨[],[],[],0,[]⟩
theorem bc:(∀{p:Prop}[Decidable p],(decide p=true)=p)∧(∀{α β:Type}{l:List α}(f:α→β),(l.map f).length=l.length)∧(∀{α:Type}(mks:Int→α)(c:Int)(n:Nat)(k:Int),(gW mks c n k).length=n)∧(∀(rows:List (List AV))(i j:Nat)(z vs:List AV),(be rows i j z vs).length=rows.length):=⟨decide_eq_true_eq,List.length_map,fun m c n k=>bg m c n k,aZ⟩
end Go.Abs

/- What the program computes, in plain Lean: cells, data, the host. -/
noncomputable section
namespace Go.Abs
open Go
def bh(n lo hi:Int):Bool:=decide (lo≤n)&&decide (n≤hi)
theorem aN{n lo hi:Int}(h:bh n lo hi=true):lo≤n∧n≤hi:=by simpa[bh]using h
def cell(n:Int):Bool:=bh n (-2147483648) 2147483647
theorem yk{n:Int}(h1: -9223372036854775808≤n)(h2:n≤9223372036854775807):(IntKind.i64.wrap (IntKind.i32.wrap n)==n)=cell n:=by
 have h3: -2147483648≤IntKind.i32.wrap n∧IntKind.i32.wrap n≤2147483647:=by
  simp[IntKind.wrap,IntKind.signed,IntKind.bits]
  omega
 rw[ai (by omega) (by omega)]
 by_cases h: -2147483648≤n∧n≤2147483647
 ·rw[D6 h.1 h.2]
  simp[cell,bh,h.1,h.2]
 ·have:IntKind.i32.wrap n≠n:=fun e=>by rw[e]at h3;exact h h3
  have h5:cell n=false:=by simp[cell,bh];omega
  rw[h5]
  simpa using this
theorem Cd{α:Type}[Inhabited α]{p:α→Bool}{xs:List α}{i:Nat}(h:i<xs.length)(hp:p (xs.getD i default)=true):xs.any p=true:=List.any_eq_true.2 ⟨xs[i],List.getElem_mem h,by simpa[h]using hp⟩
theorem zJ{α:Type}[Inhabited α]{p:α→Bool}{xs:List α}(h: ∀j,j<xs.length→p (xs.getD j default)=false):xs.any p=false:=by
 rw[List.any_eq_false]
 intro x hx
 obtain⟨j,hj,rfl⟩:=List.mem_iff_getElem.1 hx
 have:=h j hj
 simpa[hj]using this
theorem gb{α:Type}(p:α→Bool)(xs:List α):(!xs.any fun x=> !p x)=xs.all p:=by
 induction xs with
 |nil=>rfl
 |cons x xs ih=>simp only[List.any_cons,List.all_cons,Bool.not_or,Bool.not_not,ih]
theorem lw{α:Type}[Inhabited α]{p:α→Bool}{xs:List α}{i:Nat}(h:i<xs.length)(hp:p (xs.getD i default)=false):xs.all p=false:=by
 rw[←gb,Cd h (by rw[hp];rfl)]
 rfl
theorem jW{α:Type}[Inhabited α]{p:α→Bool}{xs:List α}(h: ∀j,j<xs.length→p (xs.getD j default)=true):xs.all p=true:=by
 rw[←gb,zJ fun j hj=>by rw[h j hj];rfl]
 rfl
def nu(n:Int):Bool:= !cell n
def aL(xs:List Int):Bool:=xs.all cell
theorem yB(xs:List Int):xs.any nu= !aL xs:=by
 have:=gb cell xs
 unfold aL
 rw[←this,Bool.not_not]
 rfl
def eN(d:Dat):Bool:=decide (d.st.length≤32)&&decide (d.bk.length≤32)&&decide (d.ce.length=32)&&aL d.st&&aL d.bk&&aL d.ce&&bh d.he 0 32&&bh d.ba 2 16&&decide (d.ou.length≤300)
structure DataOk(d:Dat):Prop where
 st:d.st.length≤32
 bk:d.bk.length≤32
 ce:d.ce.length=32
 cst:aL d.st=true
 cbk:aL d.bk=true
 cce:aL d.ce=true
 he:0≤d.he∧d.he≤32
 ba:2≤d.ba∧d.ba≤16
 ou:d.ou.length≤300
theorem gP(d:Dat):eN d=true↔DataOk d:=by
 constructor
 ·intro h
  simp only[eN,Bool.and_eq_true,decide_eq_true_eq]at h
  obtain⟨⟨⟨⟨⟨⟨⟨⟨h1,h2⟩,h3⟩,h4⟩,h5⟩,h6⟩,h7⟩,h8⟩,h9⟩:=h
  exact⟨h1,h2,h3,h4,h5,h6,aN h7,aN h8,h9⟩
 ·rintro ⟨h1,h2,h3,h4,h5,h6,h7,h8,h9⟩
  simp[eN,bh,h1,h2,h3,h4,h5,h6,h7,h8,h9]
def fp(d:Dat)(n:Int):Dat × Int:=if d.st.length=32 then(d,-3)else({d with st:=d.st++[n]},0)
theorem xu{d:Dat}{n:Int}(h:d.st.length=32):fp d n=(d,-3):=by rw[fp,if_pos h]
theorem sJ{d:Dat}{n:Int}(h: ¬d.st.length=32):fp d n=({d with st:=d.st++[n]},0):=by rw[fp,if_neg h]
def rk(d:Dat):Dat × Int × Int:=if d.st.length=0 then(d,0,-4)else({d with st:=d.st.take (d.st.length-1)},d.st.getD (d.st.length-1) 0,0)
theorem qU{d:Dat}(h:d.st.length=0):rk d=(d,0,-4):=by rw[rk,if_pos h]
theorem sR{d:Dat}(h: ¬d.st.length=0):rk d=({d with st:=d.st.take (d.st.length-1)},d.st.getD (d.st.length-1) 0,0):=by rw[rk,if_neg h]
def bo(d:Dat)(t:Nat)(l:List Int):Dat × Int:=if d.st.length-t+l.length>32 then(d,-3)else({d with st:=d.st.take (d.st.length-t)++l},0)
def eZ(d:Deal):Bool:=bh d.c 0 3&&cell d.a&&cell d.b&&cell d.r
def np(d:Deal):Bool:= !eZ d
def fA(xs:List Deal):Bool:=xs.all eZ
theorem zd(xs:List Deal):xs.any np= !fA xs:=by
 have:=gb eZ xs
 unfold fA
 rw[←this,Bool.not_not]
 rfl
def cP(h:Hst):Bool:=decide (h.gr.length=4)&&decide (h.st.length=8)&&aL h.st&&decide (h.q.length≤20)&&aL h.q&&bh h.tk 0 2147483647&&decide (h.ds.length≤40)&&fA h.ds
structure HostOk(h:Hst):Prop where
 gr:h.gr.length=4
 st:h.st.length=8
 cst:aL h.st=true
 q:h.q.length≤20
 cq:aL h.q=true
 tk:0≤h.tk∧h.tk≤2147483647
 ds:h.ds.length≤40
 cds:fA h.ds=true
theorem gV(h:Hst):cP h=true↔HostOk h:=by
 constructor
 ·intro h
  simp only[cP,Bool.and_eq_true,decide_eq_true_eq]at h
  obtain⟨⟨⟨⟨⟨⟨⟨h1,h2⟩,h3⟩,h4⟩,h5⟩,h6⟩,h7⟩,h8⟩:=h
  exact⟨h1,h2,h3,h4,h5,aN h6,h7,h8⟩
 ·rintro ⟨h1,h2,h3,h4,h5,h6,h7,h8⟩
  simp[cP,bh,h1,h2,h3,h4,h5,h6,h7,h8]
def bp(d:Dat):Int:=d.st.getD (d.st.length-1) 0
def ia(d:Dat):Int:=d.st.getD (d.st.length-2) 0
def lR(h:Hst)(d:Dat):Nat→Hst × Dat × Int
 |0=>if d.st.length<1 then(h,d,-4)else if bh (bp d) 0 7=false then(h,{d with st:=d.st.take (d.st.length-1)},-9)
  else({h with ds:=h.ds++[⟨0,bp d,0,h.st.getD (bp d).toNat 0⟩]},{d with st:=d.st.take (d.st.length-1)++[h.st.getD (bp d).toNat 0]},0)
 |1=>if d.st.length<2 then(h,d,-4)else if bh (bp d) 0 7=false then(h,{d with st:=d.st.take (d.st.length-1)},-9)
  else({h with st:=h.st.set (bp d).toNat (ia d),ds:=h.ds++[⟨1,bp d,ia d,0⟩]},{d with st:=d.st.take (d.st.length-2)},0)
 |2=>if d.st.length<1 then(h,d,-4)else({h with q:=h.q.drop 1,ds:=h.ds++[⟨2,bp d,0,h.q.getD 0 0⟩]},{d with st:=d.st.take (d.st.length-1)++[h.q.getD 0 0]},0)
 |_=>if d.st.length=32 then(h,d,-3)else({h with ds:=h.ds++[⟨3,0,0,h.tk⟩]},{d with st:=d.st++[h.tk]},0)
def cx(h:Hst)(d:Dat)(cap:Nat):Hst × Dat × Int:=
 if h.gr.getD cap false=false then(h,d,-100)else if h.ds.length=40 then(h,d,-8)else lR h d cap
def bA(h:Hst)(d:Dat)(cap:Nat):Hst × Dat × Int:=if(cx h d cap).2.2=0 then cx h d cap else(h,d,(cx h d cap).2.2)
theorem Bh{d:Dat}(h:2≤d.st.length):bp {d with st:=d.st.take (d.st.length-1)}=ia d:=by
 unfold bp ia
 simp only[List.length_take]
 rw[show min (d.st.length-1) d.st.length-1=d.st.length-2 by omega]
 simp only[List.getD_eq_getElem?_getD]
 rw[List.getElem?_take_of_lt (by omega)]
section
variable{h:Hst}{d:Dat}{c:Nat}
theorem fK(a:h.gr.getD c false=false):cx h d c=(h,d,-100):=by rw[cx,if_pos a]
theorem fQ(a:h.gr.getD c false=true)(b:h.ds.length=40):cx h d c=(h,d,-8):=by rw[cx,if_neg (by rw[a];simp),if_pos b]
theorem fW(a:h.gr.getD c false=true)(b: ¬h.ds.length=40):cx h d c=lR h d c:=by rw[cx,if_neg (by rw[a];simp),if_neg b]
theorem pg(a:h.gr.getD 0 false=true)(b: ¬h.ds.length=40)(e:d.st.length<1):cx h d 0=(h,d,-4):=by rw[fW a b];exact if_pos e
theorem pc(a:h.gr.getD 0 false=true)(b: ¬h.ds.length=40)(e: ¬d.st.length<1)(f:bh (bp d) 0 7=false):cx h d 0=(h,{d with st:=d.st.take (d.st.length-1)},-9):=by rw[fW a b];exact(if_neg e).trans (if_pos f)
theorem pv(a:h.gr.getD 0 false=true)(b: ¬h.ds.length=40)(e: ¬d.st.length<1)(f:bh (bp d) 0 7=true):cx h d 0=({h with ds:=h.ds++[⟨0,bp d,0,h.st.getD (bp d).toNat 0⟩]},{d with st:=d.st.take (d.st.length-1)++[h.st.getD (bp d).toNat 0]},0):=by rw[fW a b];exact(if_neg e).trans (if_neg (by rw[f];simp))
theorem pe(a:h.gr.getD 1 false=true)(b: ¬h.ds.length=40)(e:d.st.length<2):cx h d 1=(h,d,-4):=by rw[fW a b];exact if_pos e
theorem pA(a:h.gr.getD 1 false=true)(b: ¬h.ds.length=40)(e: ¬d.st.length<2)(f:bh (bp d) 0 7=false):cx h d 1=(h,{d with st:=d.st.take (d.st.length-1)},-9):=by rw[fW a b];exact(if_neg e).trans (if_pos f)
theorem pq(a:h.gr.getD 1 false=true)(b: ¬h.ds.length=40)(e: ¬d.st.length<2)(f:bh (bp d) 0 7=true):cx h d 1=({h with st:=h.st.set (bp d).toNat (ia d),ds:=h.ds++[⟨1,bp d,ia d,0⟩]},{d with st:=d.st.take (d.st.length-2)},0):=by rw[fW a b];exact(if_neg e).trans (if_neg (by rw[f];simp))
theorem py(a:h.gr.getD 2 false=true)(b: ¬h.ds.length=40)(e:d.st.length<1):cx h d 2=(h,d,-4):=by rw[fW a b];exact if_pos e
theorem mO(a:h.gr.getD 2 false=true)(b: ¬h.ds.length=40)(e: ¬d.st.length<1):cx h d 2=({h with q:=h.q.drop 1,ds:=h.ds++[⟨2,bp d,0,h.q.getD 0 0⟩]},{d with st:=d.st.take (d.st.length-1)++[h.q.getD 0 0]},0):=by rw[fW a b];exact if_neg e
theorem sl(a:h.gr.getD 2 false=true)(b: ¬h.ds.length=40)(e: ¬d.st.length<1)(q:(h.q.length:Int)≤0):cx h d 2=({h with ds:=h.ds++[⟨2,bp d,0,0⟩]},{d with st:=d.st.take (d.st.length-1)++[0]},0):=by
 have q0:h.q=[]:=List.length_eq_zero_iff.1 (by omega)
 rw[mO a b e,q0]
 simp only[List.drop_nil,List.getD_nil]
theorem ph(a:h.gr.getD 3 false=true)(b: ¬h.ds.length=40)(e:d.st.length=32):cx h d 3=(h,d,-3):=by rw[fW a b];exact if_pos e
theorem po(a:h.gr.getD 3 false=true)(b: ¬h.ds.length=40)(e: ¬d.st.length=32):cx h d 3=({h with ds:=h.ds++[⟨3,0,0,h.tk⟩]},{d with st:=d.st++[h.tk]},0):=by rw[fW a b];exact if_neg e
end
end Go.Abs

/- The abstract layer, 30: contracts of Go's library, from the kit's shelf. -/
noncomputable section
namespace Go.Abs
open Go Go.Sort
theorem mM{w:World}{os:Array Obj}{g:Nat}(h:g<w.heap.size):(grow w os).heap[g]? =w.heap[g]? :=by
 simp[grow,Array.getElem?_append,h]
theorem Frame.grow(w:World)(os:Array Obj)(O:Cells):Frame w (grow w os) O:=by
 refine⟨by simp[Go.Sort.grow],fun g n hb=> ?_,fun g off hg _=> ?_,fun g hg=> ?_,fun g hg _=>mM hg,fun g hg _=>mM hg,rfl,rfl,rfl⟩
 ·obtain⟨c,e,fz,h,k⟩:=hb
  exact⟨c,e,fz,(mM (Array.getElem?_eq_some_iff.1 h).1).trans h,k⟩
 ·simp only[World.cell?,mM hg]
 ·simp only[World.shape?,mM hg]
theorem Frame.lib(w:World)(k:Nat)(os:Array Obj):Frame w (Go.Sort.grow (w.drewN k) os) ae:=by
 refine(Frame.drew w (w.drawn+k) ae).trans (Frame.grow (w.drewN k) os ae) fun g o h=>h.elim
theorem Tabs.is{P:Program}{w:World}{O:Cells}(h:Tabs P w O){nm:String}{cs:Array Value}(hm:(nm,cs)∈yJ){g:Nat}(hg:P.globalNamed nm=some g):w.var? P nm=some cs:=by
 obtain⟨⟨e,fz,h1⟩,_⟩:=h _ hm g hg
 simp[World.var?,hg,h1]
theorem Con.scal{P:Program}{f:FuncId}{xs:List AV}{res:AV}(ok:vJ P f)
  (h: ∀(w:World)(vals:List Value),Parts w (fun _ _=>False) aB xs vals ae→Tabs P w ae→Calls P f vals.toArray w fun e w'=> ∃v,e=.returned v∧SR res v∧ ∃k os,w'=Go.Sort.grow (w.drewN k) os)
  (hs: ∀(w:World)(R O:Cells)(vals:List Value),Parts w R aB xs vals O→Parts w (fun _ _=>False) aB xs vals ae∧Emp O):Con P f xs (aa xs) res:=by
 refine⟨ok,fun w R O vals hp hR hO tb=> ?_⟩
 obtain⟨hp0,hemp⟩:=hs w R O vals hp
 refine(h w vals hp0 fun x hx g hg=>⟨(tb x hx g hg).1,fun _ k=>k⟩).mono fun e w' hb=> ?_
 obtain⟨v,rfl,hv,k,os,rfl⟩:=hb
 refine⟨ae,(Frame.lib w k os).weak fun _ _ k=>k.elim,fun _ _ k=>k.elim,ae,ae,fun g o=>by simp[ae],af.disj,.sc hv af,?_⟩
 have hl:=(aI _ _ _ hp).1
 have: ∀(l:List AV)(vs:List Value),vs.length=l.length→Parts (Go.Sort.grow (w.drewN k) os) (RS ⟨w,R,O,aB⟩ (Go.Sort.grow (w.drewN k) os) ae) aB (aa l) vs ae:=by
  intro l
  induction l with
  |nil=>intro vs hl;match vs,hl with|[],_=>exact af
  |cons x l ih=>
   intro vs hl
   match vs,hl with
   |v::vs,hl=>exact⟨ae,ae,fun g o=>by simp[ae],af.disj,.sc trivial af,ih vs (by simpa using hl)⟩
 exact this xs vals hl
end Go.Abs

/- The abstract layer, 31: rows that list laid variables. -/
noncomputable section
namespace Go.Abs
open Go
theorem iu{P:Program}{W:World}{name:String}{k:IntKind}{zs:List Int}{g:Nat}{t e:TypeId}{n:Nat}
  (hg:P.globalNamed name=some g)(hty:(P.globals[g]?).map (·.type)=some t)(ht:P.underlying t=some (.array n e))(he:P.underlying e=some (.int k))(hce:P.cellsOf e=1)(hct:P.cellsOf t=n):
  ∀{l:List (String × DataW Unit)}{ps:List MemPlace},DataW.LaidVars P W l ps→(name,Lib.tabData k zs)∈l→Lib.TabIs P W name k zs
 |[],_,_,hm=>by simp at hm
 |(nm,d)::l,ps,⟨g',t',cs,fuel,p,q,hg',ht',hvar,hd,hr,_⟩,hm=>by
  rcases List.mem_cons.1 hm with hm|hm
  ·simp only[Prod.mk.injEq]at hm
   obtain⟨rfl,rfl⟩:=hm
   obtain rfl:=Option.some.inj (hg.symm.trans hg')
   obtain rfl:=Option.some.inj (hty.symm.trans ht')
   unfold Lib.TabIs
   rw[hvar,←Lib.cells_of_tab ht he hce hct hd]
  ·exact iu hg hty ht he hce hct hr hm
theorem nU{P:Program}{W:World}{name:String}{k:IntKind}{zs:List Int}{g:Nat}(h:Lib.TabIs P W name k zs)(hg:P.globalNamed name=some g):
  ∃e fz,W.heap[g]? =some (.cells (zs.map fun z=>Value.int k z).toArray e fz):=by
 unfold Lib.TabIs World.var? at h
 rw[hg]at h
 simp only[Option.bind_some]at h
 split at h
 ·rename_i cs e fz hh
  injection h with h
  subst h
  exact⟨_,_,hh⟩
 ·cases h
end Go.Abs

/- What the program tells of actions, reports and hosts, in plain Lean. -/
noncomputable section
namespace Go.Abs
open Go Go.Proofs
structure Doing where
 k:Int
 n:Int
 l:List UInt8
 deriving DecidableEq,Inhabited
structure Rep where
 th:Int
 fu:Int
 sa:List UInt8
 st:List Int
 co:Bool
 deriving DecidableEq,Inhabited
@[simp] theorem Rep.eta(d:Rep):(⟨d.th,d.fu,d.sa,d.st,d.co⟩:Rep)=d:=rfl
end Go.Abs

/- What the program computes of items, in plain Lean: what fits, sizes, code. -/
noncomputable section
namespace Go.Abs
open Go
abbrev Mk:=Int × Int
structure Marks(at':Int)(n:Nat)(ks:List Int)(ms:List Mk):Prop where
 len:ks.length=ms.length
 hole: ∀m∈ms,0≤m.1∧m.1<n∨m.1=0
 back: ∀m∈ms,0≤m.2∧m.2≤at'+n
 kinds: ∀i,i<ms.length→(ks.getD i 0=3∨ks.getD i 0=4∨ks.getD i 0=8)→0<n
end Go.Abs

/- What the program computes of words, in plain Lean. -/
noncomputable section
namespace Go.Abs
open Go
def og(s:List UInt8):Bool:=bh s.length 1 12&&s.all fun c=>decide (33≤c.toNat)&&decide (c.toNat≤126)
def bt:List (List (List UInt8)):=[
 [[68,85,80],[68,82,79,80],[83,87,65,80],[79,86,69,82],[82,79,84],[78,73,80],[84,85,67,75],[63,68,85,80],[50,68,85,80],[50,68,82,79,80],[68,69,80,84,72],[62,82],[82,62],[82,64],[43],[45],[42],[47],[77,79,68],[65,78,68],[79,82],[88,79,82],[76,83,72,73,70,84],[82,83,72,73,70,84],[78,69,71,65,84,69],[65,66,83],[73,78,86,69,82,84],[49,43],[49,45],[77,73,78],[77,65,88],[61],[60,62],[60],[62],[85,60],[48,61],[48,60],[64],[33],[43,33],[72,69,82,69],[65,76,76,79,84],[44],[69,77,73,84],[46],[67,82],[83,80,65,67,69],[68,69,67,73,77,65,76],[72,69,88],[73],[85,78,76,79,79,80]],
 [[69,88,73,84],[69,88,69,67,85,84,69],[67,65,84,67,72],[84,72,82,79,87]],
 [[40,76,73,84,41],[40,66,82,65,78,67,72,41],[40,48,66,82,65,78,67,72,41],[40,68,79,41],[40,76,79,79,80,41],[40,43,76,79,79,80,41]],
 [[72,82,69,65,68],[72,87,82,73,84,69],[72,65,83,75],[72,84,73,77,69]],
 [[58],[59],[73,70],[69,76,83,69],[84,72,69,78],[66,69,71,73,78],[85,78,84,73,76],[87,72,73,76,69],[82,69,80,69,65,84],[68,79],[76,79,79,80],[43,76,79,79,80],[82,69,67,85,82,83,69],[86,65,82,73,65,66,76,69],[67,79,78,83,84,65,78,84],[39],[91,39,93]]]
def wJ:Nat→List (List (List UInt8))→List Wd
 |_,[]=>[]
 |k,g::l=>(g.zipIdx.map fun p=>⟨p.1,(k:Int)+1,(p.2:Int)+1⟩)++wJ (k+1) l
def dS:List Wd:=wJ 0 bt
theorem vj:dS.length=83:=by decide+kernel
def cr(x:Wd):Bool:=
 if x.k=6 then og x.nm&&bh x.v 0 399 else if x.k=7 then og x.nm&&(bh x.v 4096 4223&&decide (x.v.tmod 4=0))else decide (x.k=8)&&og x.nm&&cell x.v
def iQ(x:Wd):Bool:= !cr x
def ee(xs:List Wd):Bool:=decide (83≤xs.length)&&decide (xs.length≤4096)&&decide (xs.take 83=dS)
def fB(xs:List Wd):Bool:=decide (xs.length≤103)&&ee xs&&(xs.drop 83).all cr
end Go.Abs

/- The abstract layer: at a loop's head an array is given up, and read in place from there on. -/
noncomputable section
namespace Go.Abs
open Go
section
variable{P:Program}{n:Fx}
theorem LoopG.frz{c:Code}{Q:Ex→St→Prop}{ts:Ts}{ms:Ms}(k:Nat)(h:lu k ts ms fun ts ms=>LoopG P c Q (St.ls n ts ms)):LoopG P c Q (St.ls n ts ms):=by
 refine⟨WP.frz k ?_⟩
 unfold lu at h⊢
 split at h
 case h_2=>exact h.elim
 split at h
 case h_2=>exact h.elim
 split at h
 case h_2=>exact h.elim
 obtain⟨hl,h⟩:=bB h
 simp only
 unfold okK
 rw[hl]
 exact h.wp
theorem WP.emp{c:Code}{Q:Ex→St→Prop}{ts:Ts}{ms:Ms}(k:Nat)(z:List AV)(hk:cT ts k=.emp)(h:WP P c Q (St.ls n ((k,.ro z [])::ts) ms)):WP P c Q (St.ls n ts ms):=by
 refine WP.weak (fun E a w hr=> ?_) h
 obtain⟨loc,ob,r⟩:=hr
 refine⟨loc,ob,⟨fun j=> ?_,r.sz,r.df,r.ab,r.dd,r.lv,r.db,r.dx,r.lt,r.sub,r.fr,r.an⟩⟩
 show AR w _ loc (cT ((k,.ro z [])::ts) j) _ ae
 unfold cT
 split
 ·rename_i hj
  obtain rfl:=Nat.eq_of_beq_eq_true hj
  have hx:=r.tm j
  have e:(St.ls n ts ms).t j=.emp:=hk
  rw[e]at hx
  cases hx with
  |sc hs he=>
   obtain⟨ad,hv⟩:=hs
   rw[hv]
   exact .ro0 he
 ·exact r.tm j
theorem LoopG.emp{c:Code}{Q:Ex→St→Prop}{ts:Ts}{ms:Ms}(k:Nat)(z:List AV)(hk:cT ts k=.emp)(h:LoopG P c Q (St.ls n ((k,.ro z [])::ts) ms)):LoopG P c Q (St.ls n ts ms):=
 ⟨WP.emp k z hk h.wp⟩
theorem RelC.bear{E:Env}{st:St}{a:Act}{w:World}{loc:bD}{ob:Nat→Cells}(h:RelC E st a w ae loc ob){b:Nat}(hb:st.m b=.abs)(z:List AV)(lvl:Nat:=0):
  RelC E (st.mws [(b,.live ⟨true,lvl,z,[]⟩)]) a w ae (bb loc b (some ⟨0,0,z.length,0,false⟩)) (bb ob b ae):=by
 have hab:=h.ab b hb
 refine h.birth hb (l:=⟨0,0,z.length,0,false⟩) (Ob:=ae) (fun g o=> ?_) (.arr0 ⟨0,0,z.length,0,false⟩ (by simp[bb]) rfl rfl rfl af) (fun _ _ _ _ _ k=>k.elim) (fun _ _ _ _ _ k=>k.elim) (fun _ _ k _=>k.elim)
 constructor
 ·rintro (⟨b',k⟩|k)
  ·by_cases hbb:b'=b
   ·subst hbb;simp only[bb,if_true]at k;exact k.elim
   ·simp only[bb,hbb,if_false]at k;exact .inl ⟨b',k⟩
  ·exact k.elim
 ·rintro (⟨b',k⟩|k)
  ·by_cases hbb:b'=b
   ·subst hbb;exact(hab.2 g o k).elim
   ·exact .inl ⟨b',by simpa only[bb,hbb,if_false]using k⟩
  ·exact k.elim
theorem WP.bearL(lvl:Nat){c:Code}{Q:Ex→St→Prop}{ts:Ts}{ms:Ms}(k b:Nat)(z:List AV)(hk:cT ts k=.emp)(hb:bV ms b=.abs)(h:WP P c Q (St.ls n ((k,.ref b 0 0)::ts) ((b,.live ⟨true,lvl,z,[]⟩)::ms))):WP P c Q (St.ls n ts ms):=by
 refine WP.weak (fun E a w hr=> ?_) h
 obtain⟨loc,ob,r⟩:=hr
 have r1:=r.bear (b:=b) hb z lvl
 have e1:(St.ls n ts ms).mws [(b,.live ⟨true,lvl,z,[]⟩)]=St.ls n ts ((b,.live ⟨true,lvl,z,[]⟩)::ms):=jZ ts ms b _
 rw[e1]at r1
 refine⟨_,_,⟨fun j=> ?_,r1.sz,r1.df,r1.ab,r1.dd,r1.lv,r1.db,r1.dx,r1.lt,r1.sub,r1.fr,r1.an⟩⟩
 show AR w _ _ (cT ((k,.ref b 0 0)::ts) j) _ ae
 unfold cT
 split
 ·rename_i hj
  obtain rfl:=Nat.eq_of_beq_eq_true hj
  have hx:=r.tm j
  have e:(St.ls n ts ms).t j=.emp:=hk
  rw[e]at hx
  cases hx with
  |sc hs he=>
   obtain⟨ad,hv⟩:=hs
   rw[hv]
   exact .ref0 ⟨0,0,z.length,0,false⟩ he (by simp[bb]) (Nat.le_refl 0)
 ·exact r1.tm j
theorem WP.bearT{c:Code}{Q:Ex→St→Prop}{ts:Ts}{ms:Ms}(k b:Nat)(z:List AV)(hk:cT ts k=.emp)(hb:bV ms b=.abs)(h:WP P c Q (St.ls n ((k,.ref b 0 0)::ts) ((b,.live ⟨true,0,z,[]⟩)::ms))):WP P c Q (St.ls n ts ms):=
 WP.bearL 0 k b z hk hb h
theorem LoopG.bearT{c:Code}{Q:Ex→St→Prop}{ts:Ts}{ms:Ms}(k b:Nat)(z:List AV)(hk:cT ts k=.emp)(hb:bV ms b=.abs)(h:LoopG P c Q (St.ls n ((k,.ref b 0 0)::ts) ((b,.live ⟨true,0,z,[]⟩)::ms))):LoopG P c Q (St.ls n ts ms):=
 ⟨WP.bearT k b z hk hb h.wp⟩
theorem LoopG.bearL(lvl:Nat){c:Code}{Q:Ex→St→Prop}{ts:Ts}{ms:Ms}(k b:Nat)(z:List AV)(hk:cT ts k=.emp)(hb:bV ms b=.abs)(h:LoopG P c Q (St.ls n ((k,.ref b 0 0)::ts) ((b,.live ⟨true,lvl,z,[]⟩)::ms))):LoopG P c Q (St.ls n ts ms):=
 ⟨WP.bearL lvl k b z hk hb h.wp⟩
theorem WP.bearM{c:Code}{Q:Ex→St→Prop}{ts:Ts}{ms:Ms}(d j b:Nat)(z:List AV){lvl:Nat}{z0 row:List AV}(hd:bV ms d=.live ⟨false,lvl,z0,[row]⟩)(hj:row[j]? =some .emp)(hb:bV ms b=.abs)
  (h:WP P c Q (St.ls n ts ((d,.live ⟨false,lvl,z0,[row.set j (.ref b 0 0)]⟩)::(b,.live ⟨true,0,z,[]⟩)::ms))):WP P c Q (St.ls n ts ms):=by
 refine WP.weak (fun E a w hr=> ?_) h
 obtain⟨loc,ob,r⟩:=hr
 have r1:=r.bear (b:=b) hb z
 have e1:(St.ls n ts ms).mws [(b,.live ⟨true,0,z,[]⟩)]=St.ls n ts ((b,.live ⟨true,0,z,[]⟩)::ms):=jZ ts ms b _
 rw[e1]at r1
 have hne:d≠b:=fun e=>by rw[e,hb]at hd;cases hd
 have hd1:(St.ls n ts ((b,.live ⟨true,0,z,[]⟩)::ms)).m d=.live ⟨false,lvl,z0,[row]⟩:=by
  show bV ((b,.live ⟨true,0,z,[]⟩)::ms) d=_
  unfold bV
  split
  ·rename_i hh;exact absurd (Nat.eq_of_beq_eq_true hh) hne
  ·exact hd
 have hm: ∀x,(St.ls n ts ((d,.live ⟨false,lvl,z0,[row.set j (.ref b 0 0)]⟩)::(b,.live ⟨true,0,z,[]⟩)::ms)).m x=if x=d then .live ⟨false,lvl,z0,[row.set j (.ref b 0 0)]⟩else(St.ls n ts ((b,.live ⟨true,0,z,[]⟩)::ms)).m x:=by
  intro x
  show bV ((d,.live ⟨false,lvl,z0,[row.set j (.ref b 0 0)]⟩)::(b,.live ⟨true,0,z,[]⟩)::ms) x=_
  unfold bV
  split
  ·rename_i hh;rw[if_pos (Nat.eq_of_beq_eq_true hh)]
  ·rename_i hh;rw[if_neg (Nat.ne_of_beq_eq_false hh)];rfl
 have hjl:j<row.length:=(List.getElem?_eq_some_iff.1 hj).1
 have hget: ∀(k:Nat)(x:AV),(row.set j (.ref b 0 0))[k]? =some x→x.isUndef=false→ ∃y,row[k]? =some y∧y.isUndef=false∧(k=j∧x=.ref b 0 0∧y=.emp∨x=y):=by
  intro k x h1 h2
  rw[List.getElem?_set]at h1
  by_cases hkj:j=k
  ·subst hkj
   rw[if_pos rfl,if_pos hjl]at h1
   injection h1 with h1
   exact⟨.emp,hj,rfl,.inl ⟨rfl,h1.symm,rfl⟩⟩
  ·rw[if_neg hkj]at h1
   exact⟨x,h1,h2,.inr rfl⟩
 have hback: ∀(k:Nat)(y:AV),row[k]? =some y→y.isUndef=false→ ∃x,(row.set j (.ref b 0 0))[k]? =some x∧x.isUndef=false:=by
  intro k y h1 h2
  rw[List.getElem?_set]
  by_cases hkj:j=k
  ·subst hkj
   rw[if_pos rfl,if_pos hjl]
   exact⟨_,rfl,rfl⟩
  ·rw[if_neg hkj]
   exact⟨y,h1,h2⟩
 refine⟨_,_,⟨r1.tm,r1.sz,r1.df,fun x hx=> ?_,fun x hx=> ?_,fun x blk hx=> ?_,r1.db,r1.dx,r1.lt,r1.sub,r1.fr,r1.an⟩⟩
 ·rw[hm]at hx
  split at hx
  ·cases hx
  ·exact r1.ab x hx
 ·rw[hm]at hx
  split at hx
  ·cases hx
  ·exact r1.dd x hx
 ·rw[hm]at hx
  split at hx
  ·rename_i hxd
   subst hxd
   injection hx with hx
   subst hx
   have hbr:=r1.lv x _ hd1
   cases hbr with
   | @var _ _ _ _ l vs os hl hbd hs hn hz hbf hc hx2 hO hdo hdd=>
    refine .var l vs os hl hbd hs hn (by simpa using hz) hbf (fun k y h1 h2=> ?_) (fun k y h1 h2=> ?_) (fun g' o'=> ?_) (fun k y k' y' h1 h2 h3 h4=> ?_) (fun k y k' y' h1 h2 h3 h4=> ?_)
    ·obtain⟨y0,q1,q2,_⟩:=hget k y h1 h2
     exact hc k y0 q1 q2
    ·obtain⟨y0,q1,q2,q3⟩:=hget k y h1 h2
     have hh:=hx2 k y0 q1 q2
     rcases q3 with⟨rfl,rfl,rfl⟩|rfl
     ·cases hh with
      |sc hs he=>
       obtain⟨ad,hv⟩:=hs
       rw[hv]
       exact .ref0 ⟨0,0,z.length,0,false⟩ he (by simp[bb]) (Nat.le_refl 0)
     ·exact hh
    ·rw[hO]
     constructor
     ·rintro ⟨k,y0,q1,q2,q3⟩
      obtain⟨y,p1,p2⟩:=hback k y0 q1 q2
      exact⟨k,y,p1,p2,q3⟩
     ·rintro ⟨k,y,p1,p2,q3⟩
      obtain⟨y0,q1,q2,_⟩:=hget k y p1 p2
      exact⟨k,y0,q1,q2,q3⟩
    ·obtain⟨y0,q1,q2,_⟩:=hget k y h1 h2
     obtain⟨y1,q3,q4,_⟩:=hget k' y' h3 h4
     exact hdo k y0 k' y1 q1 q2 q3 q4
    ·obtain⟨y0,q1,q2,_⟩:=hget k y h1 h2
     obtain⟨y1,q3,q4,_⟩:=hget k' y' h3 h4
     exact hdd k y0 k' y1 q1 q2 q3 q4
  ·exact r1.lv x blk hx
theorem LoopG.bearM{c:Code}{Q:Ex→St→Prop}{ts:Ts}{ms:Ms}(d j b:Nat)(z:List AV){lvl:Nat}{z0 row:List AV}(hd:bV ms d=.live ⟨false,lvl,z0,[row]⟩)(hj:row[j]? =some .emp)(hb:bV ms b=.abs)
  (h:LoopG P c Q (St.ls n ts ((d,.live ⟨false,lvl,z0,[row.set j (.ref b 0 0)]⟩)::(b,.live ⟨true,0,z,[]⟩)::ms))):LoopG P c Q (St.ls n ts ms):=
 ⟨WP.bearM d j b z hd hj hb h.wp⟩
end
section
variable{K:Nat→List (List AV)→Nat→Prop}{lvl l:Nat}
theorem Bw{α:Type}(f:α→List AV){xs:List α}{y:α}{row:List AV}(hr:row=f y)(k:K lvl ((xs++[y]).map f) (xs++[y]).length):
  AppG lvl (am (xs.map f) 0 xs.length++(l,am [row] 0 1).snd) (xs.length+(l,am [row] 0 1).snd.length) K:=
 ⟨_,_,_,rfl,by simp[am,hr,List.take_of_length_le],by simp[am],k⟩
end
end Go.Abs

/- Numbers in decimal digits, marks of text: in plain Lean. -/
noncomputable section
namespace Go.Abs
open Go Go.Proofs
theorem AU{u:Nat}(h: ¬u<10):Lib.decDigits u=Lib.decDigits (u/10)++[UInt8.ofNat (48+u%10)]:=by rw[Lib.decDigits,dif_neg h]
theorem xx(u:Nat)(h:u<18446744073709551616):(Lib.decDigits u).length≤20:=by rw[Lib.decDigits_length];exact Lib.nDigits_le20 u h
theorem HY(u:Nat)(hu:u≤9223372036854775807):IntKind.i64.wrap ((u:Int).tdiv 10)=((u/10:Nat):Int):=by
 have h:(u:Int).tdiv 10=((u/10:Nat):Int):=rfl
 rw[h,ai (by omega) (by omega)]
theorem Hk(u:Nat):IntKind.i64.wrap (48+(u:Int).tmod 10)=((48+u%10:Nat):Int):=by
 have h:(u:Int).tmod 10=((u%10:Nat):Int):=rfl
 rw[h,ai (by omega) (by omega)]
 omega
theorem byteOf{k:Nat}(h:k<256):UInt8.ofNat (IntKind.u8.wrap (k:Int)).toNat=UInt8.ofNat k:=by
 have:IntKind.u8.wrap (k:Int)=k:=by simp[IntKind.wrap,IntKind.signed,IntKind.bits];omega
 rw[this]
 rfl
def HU(k:Int):List UInt8:=109::Lib.decDigits k.toNat
def DecInv(k u:Nat)(s:List UInt8):Prop:=u≤k∧s.length+(Lib.decDigits u).length≤22∧((u=0∧s=Lib.decDigits k)∨(0<u∧Lib.decDigits u++s=Lib.decDigits k))
theorem DecInv.next{k u:Nat}{s:List UInt8}(h:DecInv k u s)(hu:0<u)(hk:k≤9223372036854775807):DecInv k (u/10) ([UInt8.ofNat (48+u%10)]++s):=by
 obtain⟨h1,h2,h3⟩:=h
 rcases h3 with⟨h3,_⟩|⟨_,h3⟩
 ·omega
 by_cases h10:u<10
 ·have e:u/10=0:=by omega
  have e2:u%10=u:=by omega
  rw[Lib.decDigits_one h10]at h2 h3
  rw[e,e2]
  have d0:(Lib.decDigits 0).length=1:=by rw[Lib.decDigits_one (by omega)];rfl
  have hl:=xx k (by omega)
  rw[←h3]at hl
  refine⟨by omega,?_,.inl ⟨rfl,h3⟩⟩
  rw[d0]
  omega
 ·rw[AU h10]at h2 h3
  refine⟨by omega,by simp only[List.length_append,List.length_cons,List.length_nil]at h2⊢;omega,.inr ⟨by omega,by rw[←h3];simp⟩⟩
theorem Bs{n:Nat}{l:Int}(h:0≤IntKind.i64.wrap (l-n)):mc n l=IntKind.i64.wrap (l-n):=by rw[mc,if_neg (by omega)]
theorem gx{xs:List Int}(h:aL xs=true){i:Nat}(hi:i<xs.length)(d:Int): -2147483648≤xs.getD i d∧xs.getD i d≤2147483647:=by
 have e:xs.getD i d=xs[i]:=by simp[hi]
 rw[e]
 exact aN (List.all_eq_true.1 h _ (List.getElem_mem hi))
def lH(k:Int):Wd:=⟨HU k,k+1,k+2⟩
end Go.Abs

/- Calls of the host, in plain Lean: what they keep, what they record. -/
noncomputable section
namespace Go.Abs
open Go
theorem fe{xs:List Int}(h:aL xs=true)(i:Nat):cell (xs.getD i 0)=true:=by
 by_cases hi:i<xs.length
 ·unfold aL at h
  rw[List.all_eq_true]at h
  have e:xs.getD i 0=xs[i]:=by simp[hi]
  rw[e]
  exact h _ (List.getElem_mem hi)
 ·rw[List.getD_eq_getElem?_getD,List.getElem?_eq_none (by omega)]
  rfl
theorem gD{xs ys:List Int}(h1:aL xs=true)(h2:aL ys=true):aL (xs++ys)=true:=by
 unfold aL at*
 rw[List.all_append,h1,h2];rfl
theorem iV{n:Int}(h:cell n=true):aL [n]=true:=by simp[aL,h]
theorem fi{xs:List Int}(h:aL xs=true)(n:Nat):aL (xs.take n)=true:=by
 unfold aL at*
 rw[List.all_eq_true]at*
 exact fun x hx=>h x (List.mem_of_mem_take hx)
theorem qr{xs:List Int}(h:aL xs=true)(n:Nat):aL (xs.drop n)=true:=by
 unfold aL at*
 rw[List.all_eq_true]at*
 exact fun x hx=>h x (List.mem_of_mem_drop hx)
theorem rA{xs:List Int}{n:Int}(h:aL xs=true)(hn:cell n=true)(i:Nat):aL (xs.set i n)=true:=by
 unfold aL at*
 rw[List.all_eq_true]at*
 intro x hx
 rcases List.mem_or_eq_of_mem_set hx with hx|rfl
 ·exact h x hx
 ·exact hn
theorem ln{xs:List Deal}{y:Deal}(h1:fA xs=true)(h2:eZ y=true):fA (xs++[y])=true:=by
 unfold fA at*
 rw[List.all_append,h1];simp[h2]
theorem yi{n:Int}(h:0≤n∧n≤2147483647):cell n=true:=by simp[cell,bh];omega
structure CallOk(h:Hst)(d:Dat)(c:Nat)(r:Hst × Dat × Int):Prop where
 ho:HostOk r.1
 da:DataOk r.2.1
 no:r.2.2≠ -100
 yes:r.2.2=0→ ∃y:Deal,r.1.ds=h.ds++[y]∧y.c=c
theorem Ao{h:Hst}{d:Dat}{c:Nat}(hc:c<4)(hh:HostOk h)(hd:DataOk d)(hl:h.ds.length<40):CallOk h d c (lR h d c):=by
 have t1:cell (bp d)=true:=fe hd.cst _
 have t2:cell (ia d)=true:=fe hd.cst _
 have hs: ∀(l:List Int)(k:Nat),aL l=true→(d.st.take k).length+l.length≤32→DataOk {d with st:=d.st.take k++l}:=fun l k h1 h2=>
  ⟨by rw[List.length_append];exact h2,hd.bk,hd.ce,gD (fi hd.cst k) h1,hd.cbk,hd.cce,hd.he,hd.ba,hd.ou⟩
 have hs0: ∀(k:Nat),DataOk {d with st:=d.st.take k}:=fun k=>
  ⟨by have:=hd.st;simp only[List.length_take];omega,hd.bk,hd.ce,fi hd.cst k,hd.cbk,hd.cce,hd.he,hd.ba,hd.ou⟩
 have hst:=hd.st
 have hcv:c=0∨c=1∨c=2∨c=3:=by omega
 rcases hcv with rfl|rfl|rfl|rfl
 ·simp only[lR]
  split
  ·exact⟨hh,hd,by simp,fun h=>by simp at h⟩
  ·split
   ·exact⟨hh,hs0 _,by simp,fun h=>by simp at h⟩
   ·rename_i h1 h2
    refine⟨⟨hh.gr,hh.st,hh.cst,hh.q,hh.cq,hh.tk,by simp;omega,ln hh.cds ?_⟩,hs _ _ (iV (fe hh.cst _)) (by simp;omega),by simp,fun _=>⟨_,rfl,rfl⟩⟩
    have:=fe hh.cst (bp d).toNat
    simp only[eZ,t1,this]
    rfl
 ·simp only[lR]
  split
  ·exact⟨hh,hd,by simp,fun h=>by simp at h⟩
  ·split
   ·exact⟨hh,hs0 _,by simp,fun h=>by simp at h⟩
   ·rename_i h1 h2
    refine⟨⟨hh.gr,by simp[hh.st],rA hh.cst t2 _,hh.q,hh.cq,hh.tk,by simp;omega,ln hh.cds ?_⟩,hs0 _,by simp,fun _=>⟨_,rfl,rfl⟩⟩
    simp only[eZ,t1,t2]
    rfl
 ·simp only[lR]
  split
  ·exact⟨hh,hd,by simp,fun h=>by simp at h⟩
  ·rename_i h1
   have:=fe hh.cq 0
   refine⟨⟨hh.gr,hh.st,hh.cst,by have:=hh.q;simp;omega,qr hh.cq 1,hh.tk,by simp;omega,ln hh.cds ?_⟩,hs _ _ (iV this) (by simp;omega),by simp,fun _=>⟨_,rfl,rfl⟩⟩
   simp only[eZ,t1,this]
   rfl
 ·simp only[lR]
  split
  ·exact⟨hh,hd,by simp,fun h=>by simp at h⟩
  ·rename_i h1
   refine⟨⟨hh.gr,hh.st,hh.cst,hh.q,hh.cq,hh.tk,by simp;omega,ln hh.cds ?_⟩,⟨by simp;omega,hd.bk,hd.ce,gD hd.cst (iV (yi hh.tk)),hd.cbk,hd.cce,hd.he,hd.ba,hd.ou⟩,by simp,fun _=>⟨_,rfl,rfl⟩⟩
   simp only[eZ,yi hh.tk]
   rfl
theorem AJ{h:Hst}{d:Dat}{c:Nat}(hg:h.gr.getD c false=false):bA h d c=(h,d,-100):=by
 unfold bA cx
 rw[if_pos hg];rfl
theorem uD{h:Hst}{d:Dat}{c:Nat}(hc:c<4)(hh:HostOk h)(hd:DataOk d)(hg:h.gr.getD c false=true):CallOk h d c (bA h d c)∧((bA h d c).2.2≠0→(bA h d c).1=h):=by
 have hi:CallOk h d c (cx h d c):=by
  unfold cx
  rw[if_neg (by rw[hg];simp)]
  split
  ·exact⟨hh,hd,by simp,fun h=>by simp at h⟩
  ·have:=hh.ds
   exact Ao hc hh hd (by omega)
 unfold bA
 split
 ·rename_i h0
  exact⟨hi,fun h=>absurd h0 h⟩
 ·rename_i h0
  exact⟨⟨hh,hd,hi.no,fun h=>absurd h h0⟩,fun _=>rfl⟩
end Go.Abs

/- The abstract layer: contracts of Go's library whose result is a new slice of strings. -/
noncomputable section
namespace Go.Abs
open Go
theorem yx{w:World}{R:Cells}{ss:List (List UInt8)}{t:TypeId}(hl:ss.length≤bZ)(hs: ∀s∈ss,s.length≤bZ):
  AR (w.alloc (.cells (ss.map fun s=>Value.string ⟨s.toArray⟩).toArray t)) R aB (.own 0 zS (ss.map mv)) (.slice (some ⟨w.heap.size,0,none⟩) ss.length ss.length) (fun g _=>g=w.heap.size):=by
 have hat:(w.alloc (.cells (ss.map fun s=>Value.string ⟨s.toArray⟩).toArray t)).heap[w.heap.size]? =some (.cells (ss.map fun s=>Value.string ⟨s.toArray⟩).toArray t (0,0)):=by
  show(w.heap.push _)[w.heap.size]? =_
  exact Array.getElem?_push_size
 have e:(ss.map mv).length=ss.length:=List.length_map _
 have h:=AR.own (w:=w.alloc (.cells (ss.map fun s=>Value.string ⟨s.toArray⟩).toArray t)) (R:=R) (loc:=aB) (lvl:=0) (z:=zS) (rows:=ss.map mv) (g:=w.heap.size) (o:=0) (cap:=ss.length) (O:=fun g _=>g=w.heap.size)
  (fun i _=>.string ⟨(ss.getD i []).toArray⟩) (fun _ _=>ae) (by omega)
  ⟨_,t,(0,0),hat,by simp,fun i _ h=>by simp at h,Nat.le_refl _⟩
  ⟨fun row hr=>by obtain⟨s,_,rfl⟩:=List.mem_map.1 hr;rfl,fun row hr x hx=>by
   obtain⟨s,_,rfl⟩:=List.mem_map.1 hr
   simp only[mv,List.mem_singleton]at hx
   subst hx
   rfl⟩
  (fun i j hi hj=>by
   rw[e]at hi
   have hj0:j=0:=by simp at hj;omega
   subst hj0
   simp only[World.cell?,hat]
   simp[hi])
  (fun i j row x h1 h2=>by
   rw[List.getElem?_map]at h1
   obtain⟨s,hs1,rfl⟩:=Option.map_eq_some_iff.1 h1
   match j,h2 with
   |0,h2=>
    simp only[mv,List.getElem?_cons_zero,Option.some.injEq]at h2
    subst h2
    refine .sc ⟨?_,hs s (List.mem_of_getElem? hs1)⟩ af
    rw[List.getD_eq_getElem?_getD,hs1];rfl)
  (fun g' o'=>⟨fun h=>.inl h,fun h=>h.elim id fun⟨_,_,_,_,k⟩=>k.elim⟩)
  (fun _ _ _ _ _ h=>h) (fun _ _ _ _ _ _ _ _ _=>fun _ _ h=>h.elim)
  (fun _ row hr x hx=>by
   obtain⟨s,_,rfl⟩:=List.mem_map.1 hr
   simp only[mv,List.mem_singleton]at hx
   subst hx
   rfl)
  (fun _ row hr x hx=>by
   obtain⟨s,_,rfl⟩:=List.mem_map.1 hr
   simp only[mv,List.mem_singleton]at hx
   subst hx
   rfl) (by omega)
 rw[e]at h
 exact h
theorem Con.fresh{P:Program}{f:FuncId}{xs:List AV}(ss:List (List UInt8))(ok:vJ P f)(hl:ss.length≤bZ)(hsl: ∀s∈ss,s.length≤bZ)
  (h: ∀(w:World)(vals:List Value),Parts w (fun _ _=>False) aB xs vals ae→Tabs P w ae→Calls P f vals.toArray w fun e w'=>e=.returned (.slice (some ⟨w.heap.size,0,none⟩) ss.length ss.length)∧ ∃t,w'=w.alloc (.cells (ss.map fun s=>Value.string ⟨s.toArray⟩).toArray t))
  (hs: ∀(w:World)(R O:Cells)(vals:List Value),Parts w R aB xs vals O→Parts w (fun _ _=>False) aB xs vals ae∧Emp O):Con P f xs (aa xs) (gp ss):=by
 refine⟨ok,fun w R O vals hp hR hO tb=> ?_⟩
 obtain⟨hp0,hemp⟩:=hs w R O vals hp
 refine(h w vals hp0 fun x hx g hg=>⟨(tb x hx g hg).1,fun _ k=>k⟩).mono fun e w' hb=> ?_
 obtain⟨rfl,t,rfl⟩:=hb
 refine⟨fun g _=>g=w.heap.size,Frame.push w _ O,fun g o k=> ?_,(fun g _=>g=w.heap.size),ae,fun g o=> ?_,fun _ _ _ h=>h,yx hl hsl,?_⟩
 ·subst k
  exact⟨.inr (Nat.le_refl _),by show w.heap.size<(w.heap.push _).size;rw[Array.size_push];omega⟩
 ·simp[ae]
 ·have hl:=(aI _ _ _ hp).1
  have: ∀(l:List AV)(vs:List Value)(w':World)(R':Cells),vs.length=l.length→Parts w' R' aB (aa l) vs ae:=by
   intro l
   induction l with
   |nil=>intro vs w' R' hl;match vs,hl with|[],_=>exact af
   |cons x l ih=>
    intro vs w' R' hl
    match vs,hl with
    |v::vs,hl=>exact⟨ae,ae,fun g o=>by simp[ae],af.disj,.sc trivial af,ih vs w' R' (by simpa using hl)⟩
  exact this xs vals _ _ hl
end Go.Abs

/- Machines, definitions, whole Forths in plain Lean: their rows, sizes, what is valid. No program in sight. -/
noncomputable section
namespace Go.Abs
open Go
structure Mch where
 ws:List Wd
 co:List Int
 da:Dat
 ho:Hst
 ca:List Cal
 ip:Int
 fu:Int
 deriving DecidableEq,Inhabited
def gZ(m:Mch):List AV:=[fb m.ws,dE m.co,dE m.da.st,dE m.da.bk,dE m.da.ce,.int .i64 m.da.he,.int .i64 m.da.ba,.str m.da.ou,pa m.ho.gr,dE m.ho.st,dE m.ho.q,.int .i64 m.ho.tk,ll m.ho.ds,nK m.ca,.int .i64 m.ip,.int .i64 m.fu]
def aX(m:Mch):AV:=.agg (gZ m)
def aR(m:Mch):List AV:=[dz m.ws,aU m.co,aU m.da.st,aU m.da.bk,aU m.da.ce,.int .i64 m.da.he,.int .i64 m.da.ba,.str m.da.ou,bn m.ho.gr,aU m.ho.st,aU m.ho.q,.int .i64 m.ho.tk,bm m.ho.ds,dH m.ca,.int .i64 m.ip,.int .i64 m.fu]
def yD(m:Mch):AV:=.agg (aR m)
structure Df where
 w:Int
 its:List Itm
 deriving DecidableEq,Inhabited
structure Fth where
 m:Mch
 ds:List Df
 co:Bool
 nm:List UInt8
 its:List Itm
 deriving DecidableEq,Inhabited
structure MchLen(m:Mch):Prop where
 ws:m.ws.length≤9223372036854775807
 co:m.co.length≤9223372036854775807
 st:m.da.st.length≤9223372036854775807
 bk:m.da.bk.length≤9223372036854775807
 ce:m.da.ce.length≤9223372036854775807
 ou:m.da.ou.length≤9223372036854775807
 gr:m.ho.gr.length≤9223372036854775807
 hs:m.ho.st.length≤9223372036854775807
 q:m.ho.q.length≤9223372036854775807
 ds:m.ho.ds.length≤9223372036854775807
 ca:m.ca.length≤9223372036854775807
theorem yO{m:Mch}(h: ∀x∈gZ m,∀d,x.facts d):MchLen m:=
 ⟨facts_len (h (fb m.ws) (by simp[gZ])),facts_len (f:=aj) (z:=zI) (h (dE m.co) (by simp[gZ])),facts_len (f:=aj) (z:=zI) (h (dE m.da.st) (by simp[gZ])),facts_len (f:=aj) (z:=zI) (h (dE m.da.bk) (by simp[gZ])),
  facts_len (f:=aj) (z:=zI) (h (dE m.da.ce) (by simp[gZ])),h (.str m.da.ou) (by simp[gZ]) 0,facts_len (h (pa m.ho.gr) (by simp[gZ])),facts_len (f:=aj) (z:=zI) (h (dE m.ho.st) (by simp[gZ])),
  facts_len (f:=aj) (z:=zI) (h (dE m.ho.q) (by simp[gZ])),facts_len (h (ll m.ho.ds) (by simp[gZ])),facts_len (h (nK m.ca) (by simp[gZ]))⟩
theorem om{m:Mch}(h: ∀d,(aX m).facts d):MchLen m:=yO fun x hx d=>h (d+1) x hx
def vk(x:Wd)(l:Int):Int:=if l-x.nm.length<0 then-1 else l-x.nm.length
def ua:List Wd→Int→Int
 |[],l=>l
 |x::r,l=>if vk x l<0 then-1 else ua r (vk x l)
def vO(xs:List Wd)(l:Int):Int:=if l-xs.length<0 then-1 else ua xs (l-xs.length)
theorem yY{xs:List Wd}{i:Nat}{l:Int}(h:i<xs.length):ua (xs.drop i) l=if vk (xs.getD i default) l<0 then-1 else ua (xs.drop (i+1)) (vk (xs.getD i default) l):=by
 rw[List.drop_eq_getElem_cons h]
 have:xs.getD i default=xs[i]:=by simp[h]
 rw[this]
 rfl
theorem E6(x:Wd)(l:Int)(h:0≤l):vk x l≤l:=by unfold vk;split<;>omega
theorem xn: ∀(xs:List Wd)(l:Int),0≤l→ua xs l≤l
 |[],l,_=>Int.le_refl _
 |x::r,l,h=>by
  rw[ua]
  split
  ·omega
  ·have:=xn r (vk x l) (by omega)
   have:=E6 x l h
   omega
theorem CG{xs:List Wd}{l:Int}(h1:0≤l)(h2:l≤1048576)(h:0≤vO xs l):vO xs l≤l∧xs.length≤1048576:=by
 unfold vO at h⊢
 split at h
 ·omega
 ·rw[if_neg (by assumption)]
  have:=xn xs (l-xs.length) (by omega)
  omega
def kJ(fl:Int)(n:Nat)(c:Cal):Bool:=bh c.ip 0 2147483647&&bh c.fl fl n&&bh c.dp 0 31&&(c.ca||decide (c.dp=0))
def en(n:Nat):Int→List Cal→Bool
 |_,[]=>true
 |fl,c::r=>kJ fl n c&&en n c.fl r
theorem mF{n:Nat}{fl:Int}{cs:List Cal}{i:Nat}(h:i<cs.length):en n fl (cs.drop i)=(kJ fl n (cs.getD i default)&&en n (cs.getD i default).fl (cs.drop (i+1))):=by
 rw[List.drop_eq_getElem_cons h]
 have:cs.getD i default=cs[i]:=by simp[h]
 rw[this]
 rfl
def kx(cs:List Cal):Bool:=decide (cs.length=0)|| !(cs.getD (cs.length-1) default).ca
def cX(n:Nat)(cs:List Cal):Bool:=decide (cs.length≤16)&&en n 0 cs&&kx cs
def dK(m:Mch):Bool:=fB m.ws&&(decide (m.co.length≤400)&&aL m.co)&&eN m.da&&cP m.ho&&cX m.da.bk.length m.ca&&bh m.ip 0 2147483647&&bh m.fu 0 4000
def cQ(ws:List Wd)(n:Int):Wd:=ws.getD (n-1).toNat default
def cg(ws:List Wd)(n:Int):Bool:=bh n 1 ws.length&&decide ((cQ ws n).k≠3)&&decide ((cQ ws n).k≠5)
theorem bu{ws:List Wd}(h:fB ws=true):ws.take 83=dS∧83≤ws.length∧ws.length≤103:=by
 simp only[fB,ee,Bool.and_eq_true,decide_eq_true_eq]at h
 exact⟨h.1.2.2,h.1.2.1.1,h.1.1⟩
end Go.Abs

/- Prims in plain Lean: sums of cells. No program in sight. -/
namespace Go.Abs
open Go
def wc(n:Int):Int:=IntKind.i64.wrap (IntKind.i32.wrap n)
theorem xf(n:Int):IntKind.i32.wrap n=if n%4294967296<2147483648 then n%4294967296 else n%4294967296-4294967296:=by
 show(if(true&&decide (n%2 ^ 32≥2 ^ (32-1)))=true then n%2 ^ 32-2 ^ 32 else n%2 ^ 32)=_
 have e:(2:Int) ^ 32=4294967296:=by decide
 have e2:(2:Int) ^ (32-1)=2147483648:=by decide
 simp only[e,e2,Bool.true_and,decide_eq_true_eq]
 split<;>split<;>omega
theorem uA(n:Int): -2147483648≤IntKind.i32.wrap n∧IntKind.i32.wrap n≤2147483647:=by
 rw[xf];split<;>omega
theorem D2(n:Int):wc n=IntKind.i32.wrap n:=by
 have:=uA n
 exact jc (by simp[dw];omega)
theorem xj(n:Int): -2147483648≤wc n∧wc n≤2147483647:=by rw[D2];exact uA n
theorem kM{a b:Int}(h:a%4294967296=b%4294967296):wc a=wc b:=by rw[D2,D2,xf,xf,h]
def cn(a b:Int):Int:=if a.tmod b≠0∧((a<0)≠(b<0))then a.tdiv b-1 else a.tdiv b
theorem rJ{a b:Int}:(0≤a→0≤a.tmod b)∧(a<0→a.tmod b≤0):=by
 refine⟨fun h=>Int.tmod_nonneg _ h,fun h=> ?_⟩
 have h2:0≤(-a).tmod b:=Int.tmod_nonneg _ (by omega)
 rw[Int.neg_tmod]at h2
 omega
theorem xm{a b:Int}(h:a.tmod b≠0):((a.tmod b<0)≠(b<0))=((a<0)≠(b<0)):=by
 have:=rJ (a:=a) (b:=b)
 have e:(a.tmod b<0)=(a<0):=by
  apply propext
  constructor
  ·intro k
   by_cases ha:a<0
   ·exact ha
   ·have:=this.1 (by omega);omega
  ·intro k
   have:=this.2 k
   omega
 rw[e]
theorem tD{a b:Int}(h:a.tmod b≠0∧((a<0)≠(b<0))):a.tmod b+b=a-cn a b*b:=by
 rw[cn,if_pos h,Int.sub_mul,Int.one_mul]
 have:=Int.mul_tdiv_add_tmod a b
 rw[Int.mul_comm]at this
 omega
theorem nF{a b:Int}(h: ¬(a.tmod b≠0∧((a<0)≠(b<0)))):a.tmod b=a-cn a b*b:=by
 rw[cn,if_neg h]
 have:=Int.mul_tdiv_add_tmod a b
 rw[Int.mul_comm]at this
 omega
theorem nE(a b:Int):(0≤a→ -a≤a.tdiv b∧a.tdiv b≤a)∧(a<0→a≤a.tdiv b∧a.tdiv b≤ -a):=by
 have h:(a.tdiv b).natAbs≤a.natAbs:=by rw[Int.natAbs_tdiv];exact Nat.div_le_self _ _
 omega
theorem wL(n:Int):IntKind.u32.wrap n=n%4294967296:=rfl
theorem pn(n:Int):IntKind.i64.wrap n%4294967296=n%4294967296:=by
 have e:IntKind.i64.wrap n=if(true&&decide (n%2 ^ 64≥2 ^ (64-1)))=true then n%2 ^ 64-2 ^ 64 else n%2 ^ 64:=rfl
 have e1:(2:Int) ^ 64=18446744073709551616:=by decide
 rw[e,e1]
 split<;>omega
theorem Ds(n:Int):IntKind.i32.wrap n%4294967296=n%4294967296:=by
 rw[xf];split<;>omega
theorem Ae(a:Int)(b:Nat):wc (IntKind.i64.wrap (a*2 ^ b))=wc (IntKind.u32.wrap (IntKind.u32.wrap (IntKind.i32.wrap a)*2 ^ b)):=by
 apply kM
 rw[pn,wL,wL,Int.emod_emod_of_dvd _ (by decide),Int.mul_emod (a%4294967296|>fun _=>IntKind.i32.wrap a%4294967296),Int.emod_emod_of_dvd _ (by decide),Ds,←Int.mul_emod]
theorem CX(n:Int):IntKind.u64.wrap n%4294967296=n%4294967296:=by
 have e:IntKind.u64.wrap n=n%18446744073709551616:=rfl
 rw[e];omega
theorem Dl(n:Int):IntKind.u32.wrap n%4294967296=n%4294967296:=by rw[wL];omega
theorem Ip(n:Int):wc (IntKind.u32.wrap (IntKind.u64.wrap n))=wc n:=kM (by rw[Dl,CX])
def lF(f:BitVec 64→BitVec 64→BitVec 64)(a b:Int):Int:=IntKind.i64.wrap ((f (BitVec.ofInt 64 a) (BitVec.ofInt 64 b)).toNat:Int)
def vZ(n:Int):Int:=IntKind.i64.wrap (IntKind.u32.wrap (IntKind.i32.wrap n))
def gc(op:Nat)(a b:Int):Option Int:=match op with
 |1=>some (wc (a+b))
 |2=>some (wc (a-b))
 |3=>some (wc (a*b))
 |4=>if b=0 then none else some (wc (cn a b))
 |5=>if b=0 then none else some (a-cn a b*b)
 |6=>some (lF (· &&& ·) a b)
 |7=>some (lF (· ||| ·) a b)
 |8=>some (lF (· ^^^ ·) a b)
 |9=>some (if bh b 0 31=true then wc (a*2 ^ b.toNat)else 0)
 |_=>some (if bh b 0 31=true then wc ((vZ a).fdiv (2 ^ b.toNat))else 0)
def jP(b:Bool):Int:=if b=true then-1 else 0
def aM(p:Nat)(b c:Int):Int:=match p with
 |25=>wc (-c)
 |26=>wc (max c (-c))
 |27=> -c-1
 |28=>wc (c+1)
 |29=>wc (c-1)
 |30=>min b c
 |31=>max b c
 |32=>jP (decide (b=c))
 |33=>jP (!decide (b=c))
 |34=>jP (decide (b<c))
 |35=>jP (decide (c<b))
 |36=>jP (decide (vZ b<vZ c))
 |37=>jP (decide (c=0))
 |_=>jP (decide (c<0))
def bE(p:Nat):Nat:=[1,1,2,2,3,2,2,1,2,2,0,1,0,0,2,2,2,2,2,2,2,2,2,2,1,1,1,1,1,2,2,2,2,2,2,2,1,1,1,2,2,0,1,1,1,1,0,0,0,0,0,0].getD (p-1) 0
def dU(p:Nat):Nat:=match p with
 |13=>1
 |14=>1
 |51=>1
 |52=>2
 |_=>0
def ez(d:Dat)(r l:List Int):Dat × Int:=if 32<r.length+l.length then({d with st:=r},-3)else({d with st:=r++l},0)
def bQ(d:Dat)(a:Int):Option Nat:=if bh a 4096 (4096+4*d.he-1)=true∧a.tmod 4=0 then some ((a-4096).tdiv 4).toNat else none
def pN(ce:List Int)(a b:Int):List Int:=ce.take a.toNat++List.replicate (b-a).toNat 0++ce.drop (max a.toNat b.toNat)
def aJ(d:Dat)(n:Int):Dat × Int:=if n.tmod 4≠0∨bh (d.he+n.tdiv 4) 0 32=false then(d,-8)else({d with ce:=pN d.ce d.he (d.he+n.tdiv 4),he:=d.he+n.tdiv 4},0)
def cy(d:Dat)(t:List UInt8):Dat × Int:=if 300<d.ou.length+t.length then(d,-17)else({d with ou:=d.ou++t},0)
def bT(d:Dat)(a n:Int):Dat × Int:=match bQ d a with
 |none=>(d,-9)
 |some k=>({d with ce:=d.ce.set k n},0)
def ap(txt:Int→Int→List UInt8)(p:Nat)(d:Dat)(r:List Int)(a b c:Int):Dat × Int:=match p with
 |1=>ez d r [c,c]
 |2=>({d with st:=r},0)
 |3=>ez d r [c,b]
 |4=>ez d r [b,c,b]
 |5=>ez d r [b,c,a]
 |6=>ez d r [c]
 |7=>ez d r [c,b,c]
 |8=>if c=0 then ez d r [0]else ez d r [c,c]
 |9=>ez d r [b,c,b,c]
 |10=>({d with st:=r},0)
 |11=>ez d r [(r.length:Int)]
 |12=>if d.bk.length=32 then({d with st:=r},-5)else({d with st:=r,bk:=d.bk++[c]},0)
 |13=>ez {d with bk:=d.bk.take (d.bk.length-1)} r [d.bk.getD (d.bk.length-1) 0]
 |14=>ez d r [d.bk.getD (d.bk.length-1) 0]
 |39=>match bQ d c with
  |none=>({d with st:=r},-9)
  |some k=>ez d r [d.ce.getD k 0]
 |40=>bT {d with st:=r} c b
 |41=>match bQ d c with
  |none=>({d with st:=r},-9)
  |some k=>({d with st:=r,ce:=d.ce.set k (wc (d.ce.getD k 0+b))},0)
 |42=>ez d r [4096+4*d.he]
 |43=>aJ {d with st:=r} c
 |44=>match aJ {d with st:=r} 4 with
  |(x,th)=>if th≠0 then(x,th)else bT x (4096+4*d.he) c
 |45=>cy {d with st:=r} [UInt8.ofNat (c%256).toNat]
 |46=>cy {d with st:=r} (txt c d.ba++[32])
 |47=>cy {d with st:=r} [10]
 |48=>cy {d with st:=r} [32]
 |49=>({d with st:=r,ba:=10},0)
 |50=>({d with st:=r,ba:=16},0)
 |51=>ez d r [d.bk.getD (d.bk.length-1) 0]
 |52=>({d with st:=r,bk:=d.bk.take (d.bk.length-2)},0)
 |p=>if p≤24 then(match gc (p-14) b c with
  |none=>({d with st:=r},-10)
  |some v=>ez d r [v])else ez d r [aM p b c]
def ej(txt:Int→Int→List UInt8)(p:Nat)(fl:Int)(d:Dat):Dat × Int:=
 if d.st.length<bE p then(d,-4)else if(d.bk.length:Int)-fl<dU p then(d,-6)
 else ap txt p d (d.st.take (d.st.length-bE p)) (d.st.getD (d.st.length-3) 0) (d.st.getD (d.st.length-2) 0) (d.st.getD (d.st.length-1) 0)
def eo(txt:Int→Int→List UInt8)(p:Nat)(fl:Int)(d:Dat):Dat × Int:=if(ej txt p fl d).2=0 then ej txt p fl d else(d,(ej txt p fl d).2)
def bU(op:Nat)(a b:Int):Int × Bool:=match gc op a b with
 |none=>(0,false)
 |some v=>(v,true)
end Go.Abs

/- Contracts from calls that leave all as it was below the heap's end. -/
noncomputable section
namespace Go.Abs
open Go Go.RowKit
theorem Frame.of_below{w w':World}(h:Below w.heap.size w w'):Frame w w' ae:=by
 refine⟨h.size,fun g n hb=> ?_,fun g o hg _=> ?_,fun g hg=> ?_,fun g hg _=>h.block g hg,fun g hg _=>h.block g hg,h.os,h.tape,h.output⟩
 ·have hlt:=hb.lt
  obtain⟨c,e,fz,h1,r⟩:=hb
  exact⟨c,e,fz,(h.block g hlt).trans h1,r⟩
 ·simp only[World.cell?,h.block g hg]
 ·simp only[World.shape?,h.block g hg]
theorem Con.scalB{P:Program}{f:FuncId}{xs:List AV}{res:AV}(ok:vJ P f)
  (h: ∀(w:World)(vals:List Value),Parts w (fun _ _=>False) aB xs vals ae→Tabs P w ae→Calls P f vals.toArray w fun e w'=> ∃v,e=.returned v∧SR res v∧Below w.heap.size w w')
  (hs: ∀(w:World)(R O:Cells)(vals:List Value),Parts w R aB xs vals O→Parts w (fun _ _=>False) aB xs vals ae∧Emp O):Con P f xs (aa xs) res:=by
 refine⟨ok,fun w R O vals hp hR hO tb=> ?_⟩
 obtain⟨hp0,hemp⟩:=hs w R O vals hp
 refine(h w vals hp0 fun x hx g hg=>⟨(tb x hx g hg).1,fun _ k=>k⟩).mono fun e w' hb=> ?_
 obtain⟨v,rfl,hv,hw⟩:=hb
 refine⟨ae,(Frame.of_below hw).weak fun _ _ k=>k.elim,fun _ _ k=>k.elim,ae,ae,fun g o=>by simp[ae],af.disj,.sc hv af,?_⟩
 have hl:=(aI _ _ _ hp).1
 have: ∀(l:List AV)(vs:List Value)(w':World)(R':Cells),vs.length=l.length→Parts w' R' aB (aa l) vs ae:=by
  intro l
  induction l with
  |nil=>intro vs w' R' hl;match vs,hl with|[],_=>exact af
  |cons x l ih=>
   intro vs w' R' hl
   match vs,hl with
   |v::vs,hl=>exact⟨ae,ae,fun g o=>by simp[ae],af.disj,.sc trivial af,ih vs w' R' (by simpa using hl)⟩
 exact this xs vals _ _ hl
theorem tH{w w':World}{R R' O:Cells}{loc loc':bD}{x:AV}{v:Value}(hx:x.flat=true)(h:AR w R loc x v O):AR w' R' loc' x v ae∧Emp O:=by
 cases h with
 |sc h e=>exact⟨.sc h af,e⟩
 |_=>simp[AV.flat]at hx
theorem eE{w:World}{R R':Cells}: ∀(l:List AV)(vals:List Value)(O:Cells),l.all AV.flat=true→Parts w R aB l vals O→Parts w R' aB l vals ae∧Emp O
 |[],[],O,_,h=>⟨af,h⟩
 |[],_::_,_,_,h=>h.elim
 |_::_,[],_,_,h=>h.elim
 |x::l,v::vs,O,hf,h=>by
  simp only[List.all_cons,Bool.and_eq_true]at hf
  obtain⟨O1,O2,hO,hd,hx,hp⟩:=h
  obtain⟨h1,e1⟩:=tH (w':=w) (R':=R') (loc':=aB) hf.1 hx
  obtain⟨h2,e2⟩:=eE l vs O2 hf.2 hp
  exact⟨⟨ae,ae,fun g o=>by simp[ae],af.disj,h1,h2⟩,fun g o k=>((hO g o).1 k).elim (e1 g o) (e2 g o)⟩
end Go.Abs

/- Machines that run, in plain Lean. No program in sight. -/
noncomputable section
namespace Go.Abs
open Go
def cj(m:Mch):Cal:=m.ca.getD (m.ca.length-1) default
def bF(m:Mch):Int:=if m.ca.length=0 then 0 else(cj m).fl
def dP(m:Mch)(x:Int):Mch × Int:=if x<0 then(m,-24)else({m with ip:=x},0)
def dropC(m:Mch):Mch:={m with ip:=(cj m).ip,ca:=m.ca.take (m.ca.length-1)}
def cH(m:Mch):Mch:={m with da:={m.da with st:=m.da.st.take (m.da.st.length-1)}}
def nextM(m:Mch):Mch:={m with ip:=m.ip+1}
def bi(m:Mch)(n:Int):Mch × Int:=({m with da:=(fp m.da n).1},(fp m.da n).2)
def kO(s d e:Int):Bool:=(decide (0≤s)&&decide (d<0)&&decide (0≤e))||(decide (s<0)&&decide (0≤d)&&decide (e<0))
def pj(m:Mch):Int:=m.da.bk.getD (m.da.bk.length-2) 0
def kD(m:Mch):Int:=m.da.bk.getD (m.da.bk.length-1) 0
def dg(m:Mch)(s x:Int):Mch × Int:=
 if(m.da.bk.length:Int)-bF m<2 then(m,-6)
 else if kO s (wc (kD m-pj m)) (wc (wc (kD m-pj m)+s))=true then({m with da:={m.da with bk:=m.da.bk.take (m.da.bk.length-2)}},0)
 else dP {m with da:={m.da with bk:=m.da.bk.set (m.da.bk.length-1) (wc (kD m+s))}} x
def gl(m:Mch):Mch × Int:=
 if m.da.st.length<2 then(m,-4)else if 32<m.da.bk.length+2 then(m,-5)
 else({m with da:={m.da with st:=m.da.st.take (m.da.st.length-2),bk:=m.da.bk++m.da.st.drop (m.da.st.length-2)}},0)
def dl(m0 m:Mch)(x k:Int):Mch × Int:=
 if k=1 then bi m x else if k=2 then dP m x else if k=5 then dg m 1 x
 else if m.da.st.length=0 then(m0,-4)
 else if k=6 then dg (cH m) (bp m.da) x
 else if bp m.da≠0 then(cH m,0)else dP (cH m) x
def fR(b:Bool)(m:Mch)(k:Int):Mch × Int:=
 if k=4 then gl m else if(m.co.length:Int)≤m.ip then(m,-24)
 else dl (if b=true then nextM m else m) (nextM m) (m.co.getD m.ip.toNat 0) k
def sh(m:Mch):Mch × Int:=
 if m.ca.length=0 then(m,-14)else if(cj m).ca=true then(m,-14)else if(m.da.bk.length:Int)≠(cj m).fl then(m,-25)else(dropC m,0)
def gI(ex:Mch→Int→Mch × Int)(m:Mch)(v:Int):Mch × Int:=
 if v=1 then sh m
 else if m.da.st.length=0 then(m,-4)
 else if v=4 then(if bp m.da=0 then(cH m,0)else if bp m.da= -101 then(m,-24)else(m,bp m.da))
 else if cg m.ws (bp m.da)=false then(m,-24)
 else if v=3 then(if m.ca.length=16 then(cH m,-50)else ex {cH m with ca:=m.ca++[⟨m.ip,m.da.bk.length,(m.da.st.length:Int)-1,true⟩]} (bp m.da))
 else ex (cH m) (bp m.da)
def uy(m:Mch)(v:Int):Mch × Int:=if m.ca.length=16 then(m,-50)else({m with ca:=m.ca++[⟨m.ip,m.da.bk.length,0,false⟩],ip:=v},0)
def rL(m:Mch)(v:Int):Mch × Int:=
 ({m with ho:=(bA m.ho m.da (v-1).toNat).1,da:=(bA m.ho m.da (v-1).toNat).2.1},(bA m.ho m.da (v-1).toNat).2.2)
def rW(txt:Int→Int→List UInt8)(m:Mch)(v:Int):Mch × Int:=
 ({m with da:=(eo txt v.toNat (bF m) m.da).1},(eo txt v.toNat (bF m) m.da).2)
def oT(txt:Int→Int→List UInt8)(b:Bool)(ex:Mch→Int→Mch × Int)(m:Mch)(w:Wd):Mch × Int:=
 if w.k=5 then(m,-24)else if w.k=1 then rW txt m w.v else if w.k=4 then rL m w.v else if w.k=7∨w.k=8 then bi m w.v
 else if w.k=6 then uy m w.v else if w.k=2 then gI ex m w.v else fR b m w.v
def pJ(txt:Int→Int→List UInt8)(b:Bool)(ex:Mch→Int→Mch × Int)(m:Mch)(n:Int):Mch × Int:=
 if bh n 1 m.ws.length=false then(m,-24)else oT txt b ex m (cQ m.ws n)
def dX(txt:Int→Int→List UInt8)(b:Bool):Nat→Mch→Int→Mch × Int
 |0,m,_=>(m,-101)
 |f+1,m,n=>pJ txt b (dX txt b f) {m with fu:=m.fu-1} n
def eu(cs:List Cal):Nat→Int
 |0=> -1
 |n+1=>if(cs.getD n default).ca=true then n else eu cs n
def mJ(st:List Int)(n:Int):List Int:=st.take n.toNat++List.replicate (n.toNat-st.length) 0
def se(m:Mch):Cal:=m.ca.getD (eu m.ca m.ca.length).toNat default
def bR(m:Mch)(t:Int):Mch × Int:=
 if t= -101∨eu m.ca m.ca.length<0 then({m with ca:=[],ip:=0},t)
 else({m with ca:=m.ca.take (eu m.ca m.ca.length).toNat,ip:=(se m).ip,da:={m.da with st:=mJ m.da.st (se m).dp++[t],bk:=m.da.bk.take (se m).fl.toNat}},0)
def cd:Nat→Mch→Mch × Int
 |0,m=>(m,0)
 |k+1,m=>
  if m.ca.length=0 then(m,0)else if(cj m).ca=false then(m,0)
  else if(bi (dropC m) 0).2=0 then cd k (bi (dropC m) 0).1
  else if(bR (bi (dropC m) 0).1 (bi (dropC m) 0).2).2=0 then cd k (bR (bi (dropC m) 0).1 (bi (dropC m) 0).2).1
  else bR (bi (dropC m) 0).1 (bi (dropC m) 0).2
def fE(r:Mch × Int):Mch × Int:=
 if r.2=0 then cd r.1.ca.length r.1
 else if(bR r.1 r.2).2=0 then cd (bR r.1 r.2).1.ca.length (bR r.1 r.2).1 else bR r.1 r.2
def fG(txt:Int→Int→List UInt8)(b:Bool)(m:Mch)(n:Int):Mch × Int:=fE (dX txt b m.fu.toNat m n)
def DD(txt:Int→Int→List UInt8)(b:Bool)(m:Mch):Mch × Int:=
 if(m.co.length:Int)≤m.ip then fG txt b m 0 else fG txt b (nextM m) (m.co.getD m.ip.toNat 0)
def zY(r q:Mch × Int):Prop:=r=q∨(r.2=q.2∧r.2≠0∧ ∃i,r.1={q.1 with ip:=i})
theorem Bc(m:Mch)(t i:Int)(ht:t≠0):bR {m with ip:=i} t=bR m t:=by
 unfold bR se
 split<;>rfl
theorem yt{r q:Mch × Int}(h:zY r q):fE r=fE q:=by
 rcases h with rfl|⟨h1,h2,i,h3⟩
 ·rfl
 ·obtain⟨m1,t⟩:=r
  obtain⟨m2,u⟩:=q
  obtain rfl:t=u:=h1
  obtain rfl:m1={m2 with ip:=i}:=h3
  have e:=Bc m2 t i h2
  unfold fE
  simp only[e]
  rw[if_neg h2,if_neg h2]
theorem vp(m:Mch)(k:Int):zY (fR true m k) (fR false m k):=by
 unfold fR dl
 simp only[if_true,Bool.false_eq_true,if_false]
 repeat' split
 all_goals first
  |exact .inl rfl
  |exact .inr ⟨rfl,show(-4:Int)≠0 by decide,_,rfl⟩
theorem yK{e1 e2:Mch→Int→Mch × Int}(h: ∀m n,zY (e1 m n) (e2 m n))(m:Mch)(v:Int):zY (gI e1 m v) (gI e2 m v):=by
 unfold gI
 repeat' split
 all_goals first|exact .inl rfl|exact h _ _
theorem rQ(txt:Int→Int→List UInt8): ∀(f:Nat)(m:Mch)(n:Int),zY (dX txt true f m n) (dX txt false f m n)
 |0,m,n=>.inl rfl
 |f+1,m,n=>by
  simp only[dX,pJ]
  split
  ·exact .inl rfl
  ·unfold oT
   repeat' split
   all_goals first|exact .inl rfl|exact yK (rQ txt f) _ _|exact vp _ _
theorem yl(txt:Int→Int→List UInt8)(m:Mch)(n:Int):fG txt true m n=fG txt false m n:=yt (rQ txt _ m n)
end Go.Abs

/- What holds of a machine that runs: plain Lean. -/
noncomputable section
namespace Go.Abs
open Go
def lI(n:Int)(w:Wd):Bool:=
 (decide (w.k=1)&&bh w.v 1 52&&decide (n=w.v))||(decide (w.k=2)&&bh w.v 1 4&&decide (n=w.v+52))||(decide (w.k=3)&&bh w.v 1 6&&decide (n=w.v+56))||
 (decide (w.k=4)&&bh w.v 1 4)||decide (w.k=5)||(decide (w.k=6)&&bh w.v 0 399)||((decide (w.k=7)||decide (w.k=8))&&cell w.v)
theorem Cy: ∀i<83,lI ((i:Nat)+1) (dS.getD i default)=true:=by decide+kernel
theorem yL{x:Wd}(h:cr x=true)(n:Int):lI n x=true:=by
 unfold cr at h
 unfold lI
 split at h
 ·rename_i e
  simp only[Bool.and_eq_true]at h
  rw[e,h.2];simp
 ·split at h
  ·rename_i e
   simp only[bh,Bool.and_eq_true,decide_eq_true_eq]at h
   rw[e]
   simp[cell,bh];omega
  ·simp only[Bool.and_eq_true,decide_eq_true_eq]at h
   rw[h.1.1,h.2];simp
theorem sq{ws:List Wd}(h:fB ws=true){n:Int}(hn:bh n 1 ws.length=true):lI n (cQ ws n)=true:=by
 obtain⟨h1,h2,h3⟩:=bu h
 have hn2:1≤n∧n≤ws.length:=by simpa[bh]using hn
 unfold cQ
 by_cases hl:n≤83
 ·have e:ws.getD (n-1).toNat default=dS.getD (n-1).toNat default:=by
   rw[←h1,List.getD_eq_getElem?_getD,List.getD_eq_getElem?_getD,List.getElem?_take_of_lt (by omega)]
  rw[e]
  have:=Cy (n-1).toNat (by omega)
  rwa [show((n-1).toNat:Int)+1=n by omega]at this
 ·have hs:(ws.drop 83).all cr=true:=by
   simp only[fB,Bool.and_eq_true]at h;exact h.2
  rw[List.all_eq_true]at hs
  apply yL
  apply hs
  rw[List.mem_iff_getElem?]
  refine⟨(n-1).toNat-83,?_⟩
  rw[List.getElem?_drop,show 83+((n-1).toNat-83)=(n-1).toNat by omega,List.getD_eq_getElem?_getD]
  have:(n-1).toNat<ws.length:=by omega
  rw[List.getElem?_eq_getElem this];rfl
structure CallIn(n:Nat)(c:Cal):Prop where
 ip:0≤c.ip∧c.ip≤2147483647
 fl:0≤c.fl∧c.fl≤n
 dp:0≤c.dp∧c.dp≤31
 ca:c.ca=true∨c.dp=0
theorem vT{fl:Int}{n:Nat}{c:Cal}(h0:0≤fl):kJ fl n c=true↔CallIn n c∧fl≤c.fl:=by
 simp only[kJ,bh,Bool.and_eq_true,Bool.or_eq_true,decide_eq_true_eq]
 constructor
 ·rintro ⟨⟨⟨h1,h2⟩,h3⟩,h4⟩
  exact⟨⟨h1,⟨by omega,h2.2⟩,h3,h4⟩,h2.1⟩
 ·rintro ⟨⟨h1,h2,h3,h4⟩,h5⟩
  exact⟨⟨⟨h1,h5,h2.2⟩,h3⟩,h4⟩
theorem jV(n:Nat): ∀(fl:Int)(cs:List Cal),0≤fl→(en n fl cs=true↔(∀c∈cs,CallIn n c∧fl≤c.fl)∧cs.Pairwise fun a b=>a.fl≤b.fl)
 |fl,[],_=>by simp[en]
 |fl,c::r,h0=>by
  simp only[en,Bool.and_eq_true,vT h0,List.mem_cons,List.pairwise_cons]
  constructor
  ·rintro ⟨⟨h1,h2⟩,h3⟩
   have k:=(jV n c.fl r h1.fl.1).1 h3
   refine⟨?_,fun a ha=>(k.1 a ha).2,k.2⟩
   rintro a (rfl|ha)
   ·exact⟨h1,h2⟩
   ·exact⟨(k.1 a ha).1,Int.le_trans h2 (k.1 a ha).2⟩
  ·rintro ⟨h1,h2,h3⟩
   have k:=h1 c (.inl rfl)
   exact⟨k,(jV n c.fl r k.1.fl.1).2 ⟨fun a ha=>⟨(h1 a (.inr ha)).1,h2 a ha⟩,h3⟩⟩
structure MI(m:Mch):Prop where
 ws:fB m.ws=true
 co:m.co.length≤400
 cc:aL m.co=true
 da:DataOk m.da
 ho:HostOk m.ho
 cl:m.ca.length≤16
 ci: ∀c∈m.ca,CallIn m.da.bk.length c
 pw:m.ca.Pairwise fun a b=>a.fl≤b.fl
 ip:0≤m.ip∧m.ip≤2147483647
 fu:0≤m.fu∧m.fu≤4000
theorem od(m:Mch):dK m=true↔MI m∧kx m.ca=true:=by
 simp only[dK,cX,Bool.and_eq_true,decide_eq_true_eq,bh,gP,gV,jV _ 0 m.ca (Int.le_refl 0)]
 constructor
 ·rintro ⟨⟨⟨⟨⟨⟨h1,h2,h3⟩,h4⟩,h5⟩,⟨⟨h6,h7,h8⟩,h9⟩⟩,h10⟩,h11⟩
  exact⟨⟨h1,h2,h3,h4,h5,h6,fun c hc=>(h7 c hc).1,h8,h10,h11⟩,h9⟩
 ·rintro ⟨⟨h1,h2,h3,h4,h5,h6,h7,h8,h10,h11⟩,h9⟩
  exact⟨⟨⟨⟨⟨⟨h1,h2,h3⟩,h4⟩,h5⟩,⟨⟨h6,fun c hc=>⟨h7 c hc,(h7 c hc).fl.1⟩,h8⟩,h9⟩⟩,h10⟩,h11⟩
theorem uQ{m:Mch}(h:m.ca.length≠0):cj m∈m.ca:=by
 unfold cj
 have hl:m.ca.length-1<m.ca.length:=by omega
 rw[List.getD_eq_getElem?_getD,List.getElem?_eq_getElem hl]
 exact List.getElem_mem hl
theorem MI.le_floor{m:Mch}(h:MI m){c:Cal}(hc:c∈m.ca):c.fl≤bF m:=by
 have h0:m.ca.length≠0:=by intro h0;rw[List.length_eq_zero_iff]at h0;rw[h0]at hc;cases hc
 have hl:m.ca.length-1<m.ca.length:=by omega
 unfold bF
 rw[if_neg h0]
 obtain⟨i,hi,rfl⟩:=List.mem_iff_getElem.1 hc
 have e:cj m=m.ca[m.ca.length-1]:=by
  unfold cj
  rw[List.getD_eq_getElem?_getD,List.getElem?_eq_getElem hl];rfl
 rw[e]
 by_cases he:i=m.ca.length-1
 ·subst he;exact Int.le_refl _
 ·exact List.pairwise_iff_getElem.1 h.pw i (m.ca.length-1) hi hl (by omega)
theorem MI.floor{m:Mch}(h:MI m):0≤bF m∧bF m≤m.da.bk.length:=by
 by_cases h0:m.ca.length=0
 ·unfold bF
  rw[if_pos h0]
  exact⟨Int.le_refl 0,Int.natCast_nonneg _⟩
 ·have:=(h.ci _ (uQ h0)).fl
  unfold bF
  rw[if_neg h0]
  exact this
theorem MI.setD{m:Mch}(h:MI m){d:Dat}(hd:DataOk d)(hf:bF m≤d.bk.length):MI {m with da:=d}:=
 ⟨h.ws,h.co,h.cc,hd,h.ho,h.cl,fun c hc=>⟨(h.ci c hc).ip,⟨(h.ci c hc).fl.1,Int.le_trans (h.le_floor hc) hf⟩,(h.ci c hc).dp,(h.ci c hc).ca⟩,h.pw,h.ip,h.fu⟩
theorem MI.setIp{m:Mch}(h:MI m){i:Int}(hi:0≤i∧i≤2147483647):MI {m with ip:=i}:=⟨h.ws,h.co,h.cc,h.da,h.ho,h.cl,h.ci,h.pw,hi,h.fu⟩
theorem MI.setFu{m:Mch}(h:MI m){i:Int}(hi:0≤i∧i≤4000):MI {m with fu:=i}:=⟨h.ws,h.co,h.cc,h.da,h.ho,h.cl,h.ci,h.pw,h.ip,hi⟩
theorem MI.setH{m:Mch}(h:MI m){x:Hst}(hx:HostOk x):MI {m with ho:=x}:=⟨h.ws,h.co,h.cc,h.da,hx,h.cl,h.ci,h.pw,h.ip,h.fu⟩
theorem MI.takeC{m:Mch}(h:MI m)(k:Nat):MI {m with ca:=m.ca.take k}:=
 ⟨h.ws,h.co,h.cc,h.da,h.ho,by have:=h.cl;simp only[List.length_take];omega,fun c hc=>h.ci c (List.mem_of_mem_take hc),h.pw.sublist (List.take_sublist k m.ca),h.ip,h.fu⟩
theorem MI.addC{m:Mch}(h:MI m){c:Cal}(hl:m.ca.length<16)(hc:CallIn m.da.bk.length c)(hf:bF m≤c.fl):MI {m with ca:=m.ca++[c]}:=
 ⟨h.ws,h.co,h.cc,h.da,h.ho,by simp only[List.length_append,List.length_singleton];omega,fun x hx=>by
  rcases List.mem_append.1 hx with hx|hx
  ·exact h.ci x hx
  ·rw[List.mem_singleton.1 hx];exact hc,by
  rw[List.pairwise_append]
  exact⟨h.pw,List.pairwise_singleton _ _,fun a ha b hb=>by rw[List.mem_singleton.1 hb];exact Int.le_trans (h.le_floor ha) hf⟩,h.ip,h.fu⟩
theorem MI.dropC{m:Mch}(h:MI m)(h0:m.ca.length≠0):MI (dropC m):=(h.takeC _).setIp (h.ci _ (uQ h0)).ip
theorem KC(n:Int):cell (wc n)=true:=by
 have:=xj n
 simp[cell,bh];omega
theorem MI.nextM{m:Mch}(h:MI m)(hn:m.ip<m.co.length):MI (nextM m):=h.setIp ⟨by have:=h.ip;omega,by have:=h.co;omega⟩
end Go.Abs

noncomputable section
namespace Go.Abs
open Go
class CC(f:Nat) where
 p:Prop
 h:p
section
variable{P:Program}
theorem pK{f:FuncId}[c:CC f]{xs:List AV}{K:AV→Prop}{res:AV}(h:c.p→Con P f xs (aa xs) res)(k:K res):CallG P f xs K:=⟨res,h c.h,k⟩
theorem eH{f:FuncId}{xs ys os:List AV}{K:List AV→AV→Prop}{res:AV}(h:Con P f ys os res)(k:K os res)(e:xs=ys:=by
 repeat' (first
  |(refine al ?_;simp[bc];done)
  |exact aW _ _ _ _
  |apply aY|apply bO|apply bC|apply bz|apply cm|apply cB|apply bM|rfl)):CallPG P f xs K:=bx e h k
end
structure Kept(Q:Prop):Prop where
 x:Q
theorem aP{P Q:Prop}(q:Q)(h:Kept Q→P:=by
 intro q
 (first
  |(guard_target=~ RqS _ _;(first
   |refine ac rfl ?_
   |refine ac (by solve|simp only[bc]|fail) ?_
   |refine ac (by refine aO rfl ?_;simp only[cR];omega) ?_
   |refine ac (by simp only[Bool.and_eq_true,cR];omega) ?_
   |refine ac (by solve|simp|fail) ?_
   |refine ac (by simp;omega) ?_
   |refine ac (by simp[ao,AV.plain,am];omega) ?_
   |refine ac (by rw[w2];first|exact decide_eq_true (by omega)|(rw[List.length_map];first|exact decide_eq_true (by omega)|(simp;omega))) ?_);conv=>whnf)
  |(refine aG (fun hf=> ?_);conv=>whnf)
  |(apply aH;conv=>whnf)
  |(guard_target=~ BrS _ _ _;(first
   |refine bH rfl ?_|refine aK rfl ?_|refine bH (by assumption) ?_|refine aK (by assumption) ?_
   |refine bH (by refine decide_eq_true ?_;(try simp only[List.length_map]);omega) ?_
   |refine aK (by refine decide_eq_false ?_;(try simp only[List.length_map]);omega) ?_);conv=>whnf)
  |(guard_target=~ ChkS _ _;refine ChkS.mk (by kernel_rfl) ?_;conv=>whnf)
  |(guard_target=~ CallG _ _ _ _;(first
   |refine ah (k1 ..) ?_|refine ah (k2 ..) ?_|refine ah (k3 ..) ?_|refine ah (k4 ..) ?_|refine ah (k5 ..) ?_|refine ah (kt ..) ?_|refine ah (kk ..) ?_|refine ah (kc ..) ?_|refine ah (kf ..) ?_|refine ah (kp ..) ?_|refine ah (k ..) ?_
   |refine pK (fun h=>by apply h<;>first|assumption|omega) ?_);conv=>whnf)
  |(guard_target=~ RowsG _ _;(first
   |refine ag (GY hs w2) ?_|refine ag (zj hs w2) ?_|refine ag (Bn hs w2) ?_|refine ag (DQ hs w2) ?_|refine ag (show _=z3 from rfl) ?_
   |refine ag (al (by solve|simp[bc]|fail)) ?_
   |refine ag (aW _ _ _ _) ?_
   |refine ag rfl ?_);conv=>whnf)
  |(guard_target=~ RowG _ _;(first
   |refine aD (by(try simp only[Nat.zero_add,List.length_map]);exact ra _) ?_
   |refine aD (by(try simp only[Nat.zero_add,List.length_map]);exact rb _) ?_
   |refine aD rfl ?_);conv=>whnf)
  |(refine bW ?_;conv=>whnf))
 repeat (first
  |(guard_target=~ RqS _ _;(first
   |refine ac rfl ?_
   |refine ac (by solve|simp only[bc]|fail) ?_
   |refine ac (by refine aO rfl ?_;simp only[cR];omega) ?_
   |refine ac (by simp only[Bool.and_eq_true,cR];omega) ?_
   |refine ac (by solve|simp|fail) ?_
   |refine ac (by simp;omega) ?_
   |refine ac (by simp[ao,AV.plain,am];omega) ?_
   |refine ac (by rw[w2];first|exact decide_eq_true (by omega)|(rw[List.length_map];first|exact decide_eq_true (by omega)|(simp;omega))) ?_);conv=>whnf)
  |(refine aG (fun hf=> ?_);conv=>whnf)
  |(apply aH;conv=>whnf)
  |(guard_target=~ BrS _ _ _;(first
   |refine bH rfl ?_|refine aK rfl ?_|refine bH (by assumption) ?_|refine aK (by assumption) ?_
   |refine bH (by refine decide_eq_true ?_;(try simp only[List.length_map]);omega) ?_
   |refine aK (by refine decide_eq_false ?_;(try simp only[List.length_map]);omega) ?_);conv=>whnf)
  |(guard_target=~ ChkS _ _;refine ChkS.mk (by kernel_rfl) ?_;conv=>whnf)
  |(guard_target=~ CallG _ _ _ _;(first
   |refine ah (k1 ..) ?_|refine ah (k2 ..) ?_|refine ah (k3 ..) ?_|refine ah (k4 ..) ?_|refine ah (k5 ..) ?_|refine ah (kt ..) ?_|refine ah (kk ..) ?_|refine ah (kc ..) ?_|refine ah (kf ..) ?_|refine ah (kp ..) ?_|refine ah (k ..) ?_
   |refine pK (fun h=>by apply h<;>first|assumption|omega) ?_);conv=>whnf)
  |(guard_target=~ RowsG _ _;(first
   |refine ag (GY hs w2) ?_|refine ag (zj hs w2) ?_|refine ag (Bn hs w2) ?_|refine ag (DQ hs w2) ?_|refine ag (show _=z3 from rfl) ?_
   |refine ag (al (by solve|simp[bc]|fail)) ?_
   |refine ag (aW _ _ _ _) ?_
   |refine ag rfl ?_);conv=>whnf)
  |(guard_target=~ RowG _ _;(first
   |refine aD (by(try simp only[Nat.zero_add,List.length_map]);exact ra _) ?_
   |refine aD (by(try simp only[Nat.zero_add,List.length_map]);exact rb _) ?_
   |refine aD rfl ?_);conv=>whnf)
  |(refine bW ?_;conv=>whnf))
 exact q.x):P:=h ⟨q⟩
theorem bJ{P Q:Prop}(q:Q)(h:Kept Q→P:=by
 intro q
 (first
  |(guard_target=~ RqS _ _;(first
   |refine ac rfl ?_
   |refine ac (by solve|simp only[bc]|fail) ?_
   |refine ac (by refine aO rfl ?_;simp only[cR];omega) ?_
   |refine ac (by simp only[Bool.and_eq_true,cR];omega) ?_
   |refine ac (by solve|simp|fail) ?_
   |refine ac (by simp;omega) ?_
   |refine ac (by simp[ao,AV.plain,am];omega) ?_
   |refine ac (by rw[w2];first|exact decide_eq_true (by omega)|(rw[List.length_map];first|exact decide_eq_true (by omega)|(simp;omega))) ?_);conv=>whnf)
  |(refine aG (fun hf=> ?_);conv=>whnf)
  |(apply aH;conv=>whnf)
  |(guard_target=~ BrS _ _ _;(first
   |refine bH rfl ?_|refine aK rfl ?_|refine bH (by assumption) ?_|refine aK (by assumption) ?_
   |refine bH (by refine decide_eq_true ?_;(try simp only[List.length_map]);omega) ?_
   |refine aK (by refine decide_eq_false ?_;(try simp only[List.length_map]);omega) ?_);conv=>whnf)
  |(guard_target=~ ChkS _ _;refine ChkS.mk (by kernel_rfl) ?_;conv=>whnf)
  |(guard_target=~ CallG _ _ _ _;(first
   |refine ah (k1 ..) ?_|refine ah (k2 ..) ?_|refine ah (k3 ..) ?_|refine ah (k4 ..) ?_|refine ah (k5 ..) ?_|refine ah (kt ..) ?_|refine ah (kk ..) ?_|refine ah (kc ..) ?_|refine ah (kf ..) ?_|refine ah (kp ..) ?_|refine ah (k ..) ?_
   |refine pK (fun h=>by apply h<;>first|assumption|omega) ?_);conv=>whnf))
 repeat (first
  |(guard_target=~ RqS _ _;(first
   |refine ac rfl ?_
   |refine ac (by solve|simp only[bc]|fail) ?_
   |refine ac (by refine aO rfl ?_;simp only[cR];omega) ?_
   |refine ac (by simp only[Bool.and_eq_true,cR];omega) ?_
   |refine ac (by solve|simp|fail) ?_
   |refine ac (by simp;omega) ?_
   |refine ac (by simp[ao,AV.plain,am];omega) ?_
   |refine ac (by rw[w2];first|exact decide_eq_true (by omega)|(rw[List.length_map];first|exact decide_eq_true (by omega)|(simp;omega))) ?_);conv=>whnf)
  |(refine aG (fun hf=> ?_);conv=>whnf)
  |(apply aH;conv=>whnf)
  |(guard_target=~ BrS _ _ _;(first
   |refine bH rfl ?_|refine aK rfl ?_|refine bH (by assumption) ?_|refine aK (by assumption) ?_
   |refine bH (by refine decide_eq_true ?_;(try simp only[List.length_map]);omega) ?_
   |refine aK (by refine decide_eq_false ?_;(try simp only[List.length_map]);omega) ?_);conv=>whnf)
  |(guard_target=~ ChkS _ _;refine ChkS.mk (by kernel_rfl) ?_;conv=>whnf)
  |(guard_target=~ CallG _ _ _ _;(first
   |refine ah (k1 ..) ?_|refine ah (k2 ..) ?_|refine ah (k3 ..) ?_|refine ah (k4 ..) ?_|refine ah (k5 ..) ?_|refine ah (kt ..) ?_|refine ah (kk ..) ?_|refine ah (kc ..) ?_|refine ah (kf ..) ?_|refine ah (kp ..) ?_|refine ah (k ..) ?_
   |refine pK (fun h=>by apply h<;>first|assumption|omega) ?_);conv=>whnf))
 exact q.x):P:=h ⟨q⟩
theorem bN{P X Y:Prop}(x:X)(y:Y)(h:Kept X→Kept Y→P:=by
 intro x y
 refine ck ?_ ?_<;>intro hb<;>(try simp only[ew]at hb)<;>conv=>whnf
 ·revert hb;exact x.x
 ·revert hb;exact y.x):P:=h ⟨x⟩ ⟨y⟩
theorem ie{P Q:Prop}(q:Q)(h:Kept Q→P:=by
 intro q
 (first
  |(guard_target=~ RowsG _ _;(first
   |refine ag (GY hs w2) ?_|refine ag (zj hs w2) ?_|refine ag (Bn hs w2) ?_|refine ag (DQ hs w2) ?_|refine ag (show _=z3 from rfl) ?_
   |refine ag (al (by solve|simp[bc]|fail)) ?_
   |refine ag (aW _ _ _ _) ?_
   |refine ag rfl ?_);conv=>whnf)
  |(guard_target=~ RowG _ _;(first
   |refine aD (by(try simp only[Nat.zero_add,List.length_map]);exact ra _) ?_
   |refine aD (by(try simp only[Nat.zero_add,List.length_map]);exact rb _) ?_
   |refine aD rfl ?_);conv=>whnf)
  |(refine bW ?_;conv=>whnf))
 exact q.x):P:=h ⟨q⟩
theorem go{P:Prop}(h:P:=by
 conv=>whnf
 repeat' (first
  |(guard_target=~ RqS _ _;(first
   |refine ac rfl ?_
   |refine ac (by solve|simp only[bc]|fail) ?_
   |refine ac (by refine aO rfl ?_;simp only[cR];omega) ?_
   |refine ac (by simp only[Bool.and_eq_true,cR];omega) ?_
   |refine ac (by solve|simp|fail) ?_
   |refine ac (by simp;omega) ?_
   |refine ac (by simp[ao,AV.plain,am];omega) ?_
   |refine ac (by rw[w2];first|exact decide_eq_true (by omega)|(rw[List.length_map];first|exact decide_eq_true (by omega)|(simp;omega))) ?_);conv=>whnf)
  |(refine aG (fun hf=> ?_);conv=>whnf)
  |(apply aH;conv=>whnf)
  |(guard_target=~ BrS _ _ _;(first
   |refine bH rfl ?_|refine aK rfl ?_|refine bH (by assumption) ?_|refine aK (by assumption) ?_
   |refine bH (by refine decide_eq_true ?_;(try simp only[List.length_map]);omega) ?_
   |refine aK (by refine decide_eq_false ?_;(try simp only[List.length_map]);omega) ?_);conv=>whnf)
  |(guard_target=~ ChkS _ _;refine ChkS.mk (by kernel_rfl) ?_;conv=>whnf)
  |(guard_target=~ CallG _ _ _ _;(first
   |refine ah (k1 ..) ?_|refine ah (k2 ..) ?_|refine ah (k3 ..) ?_|refine ah (k4 ..) ?_|refine ah (k5 ..) ?_|refine ah (kt ..) ?_|refine ah (kk ..) ?_|refine ah (kc ..) ?_|refine ah (kf ..) ?_|refine ah (kp ..) ?_|refine ah (k ..) ?_
   |refine pK (fun h=>by apply h<;>first|assumption|omega) ?_);conv=>whnf)
  |(guard_target=~ RowsG _ _;(first
   |refine ag (GY hs w2) ?_|refine ag (zj hs w2) ?_|refine ag (Bn hs w2) ?_|refine ag (DQ hs w2) ?_|refine ag (show _=z3 from rfl) ?_
   |refine ag (al (by solve|simp[bc]|fail)) ?_
   |refine ag (aW _ _ _ _) ?_
   |refine ag rfl ?_);conv=>whnf)
  |(guard_target=~ RowG _ _;(first
   |refine aD (by(try simp only[Nat.zero_add,List.length_map]);exact ra _) ?_
   |refine aD (by(try simp only[Nat.zero_add,List.length_map]);exact rb _) ?_
   |refine aD rfl ?_);conv=>whnf)
  |(refine bW ?_;conv=>whnf)
  |(guard_target=~ BrS _ _ _;refine ck ?_ ?_<;>intro hb<;>(try simp only[ew]at hb)<;>conv=>whnf)
  |(guard_target=~ ShG _ _;refine aA ?_;rfl)
  |(guard_target=~ AftPG _ _ _;refine aq rfl ?_;conv=>whnf)
  |exact True.intro)):P:=h
end Go.Abs
