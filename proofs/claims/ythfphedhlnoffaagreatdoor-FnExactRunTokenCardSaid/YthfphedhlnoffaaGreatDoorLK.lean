import Derived.Test.YthfphedhlnoffaaGreatDoorLJ
import Derived.Shelf.Strconv.Itoa3
import Derived.Lib.LaidTab
import Derived.MakeChecks
import Derived.Lib.ItoaLen
import Derived.Shelf.Strings.Split
import Derived.Shelf.Strings.Fields
import Derived.Test.YthfphedhlnoffaaGreatDoorLG
import Derived.Below
/- The data of the program in plain Lean: their rows, sizes and marks. No program in sight. -/
set_option linter.unusedVariables false
set_option linter.unusedSimpArgs false
noncomputable section
namespace Go.Abs
open Go
section
variable{α:Type}(mks:Int→α)(c:Int)
def hH(n:Nat)(k:Int):List α:=(List.range n).map fun i:Nat=>mks (k+c*(i:Int))
theorem aF(n:Nat)(k:Int):(hH mks c n k).length=n:=by simp[hH]
theorem uq(n:Nat)(k:Int):hH mks c (n+1) k=hH mks c n k++[mks (k+c*n)]:=by simp[hH,List.range_succ]
theorem CP{n i:Nat}{k:Int}(h:i<n)(d:α):(hH mks c n k).getD i d=mks (k+c*i):=by simp[hH,h]
def nA(xs:List α)(k:Int)(i:Nat):List α:=hH mks c i k++xs.drop i
theorem kA{xs:List α}{k:Int}{i:Nat}(h:i≤xs.length):(nA mks c xs k i).length=xs.length:=by simp[nA,aF];omega
theorem ju(xs:List α)(k:Int):nA mks c xs k 0=xs:=by simp[nA,hH]
theorem kB(xs:List α)(k:Int):nA mks c xs k xs.length=hH mks c xs.length k:=by simp[nA]
theorem jq{xs:List α}{k:Int}{i:Nat}(h:i<xs.length):(nA mks c xs k i).set i (mks (k+c*i))=nA mks c xs k (i+1):=by
 unfold nA
 rw[List.set_append_right _ _ (by simp[aF]),aF,Nat.sub_self,List.drop_eq_getElem_cons h,List.set_cons_zero,uq]
 simp
def dG[DecidableEq α](xs:List α)(k:Int):Int:=if xs=hH mks c xs.length k then k+c*xs.length else-1
theorem dB[DecidableEq α]{xs:List α}{k:Int}{i:Nat}(d:α)(h:i<xs.length)(hne:xs.getD i d≠mks (k+c*i)):dG mks c xs k= -1:=by
 have:xs≠hH mks c xs.length k:=fun e=>hne (by
  have h3:xs.getD i d=(hH mks c xs.length k).getD i d:=by rw[←e]
  rw[h3,CP mks c h])
 rw[dG,if_neg this]
theorem hC{xs:List α}{k:Int}{i:Nat}(d:α)(h:i<xs.length)(ht:xs.take i=hH mks c i k)(he:xs.getD i d=mks (k+c*i)):xs.take (i+1)=hH mks c (i+1) k:=by
 have h5:xs[i]=mks (k+c*i):=by simpa[h]using he
 rw[List.take_succ_eq_append_getElem h,ht,h5,uq]
theorem ii[DecidableEq α]{xs:List α}{k:Int}{i:Nat}(hi:xs.length≤i)(hi2:i≤xs.length)(ht:xs.take i=hH mks c i k):dG mks c xs k=k+c*xs.length:=by
 obtain rfl:i=xs.length:=by omega
 have:xs=hH mks c xs.length k:=by rw[←ht];simp
 rw[dG,if_pos this]
theorem kX[DecidableEq α](n:Nat)(k:Int):dG mks c (hH mks c n k) k=k+c*n:=by simp[dG,aF]
theorem hZ[DecidableEq α](xs:List α)(k:Int):dG mks c xs k≤k+c*xs.length∨dG mks c xs k= -1:=by
 unfold dG
 split
 ·exact .inl (Int.le_refl _)
 ·exact .inr rfl
end
theorem bh(rows:List (List AV))(i j:Nat)(z vs:List AV):(bl rows i j z vs).length=rows.length:=by simp[bl]
def jX(x:Int)(f:Int→Int):Int:=if x<0 then-1 else f x
theorem dY{x:Int}{f:Int→Int}(e:0≤jX x f):0≤x∧0≤f x∧jX x f=f x:=by
 unfold jX at e⊢
 by_cases h:x<0
 ·rw[if_pos h]at e;omega
 ·rw[if_neg h]at e⊢;exact⟨by omega,e,rfl⟩
def mz(n:Nat)(left:Int):Int:=if IntKind.i64.wrap (left-n)<0 then-1 else IntKind.i64.wrap (left-n)
theorem ja{m:Nat}{l:Int}(h1:0≤l)(h2:l≤1048576)(hx:m≤9223372036854775807)(h:0≤mz m l):mz m l≤l∧m≤1048576:=by
 unfold mz at h⊢
 rw[wr h1 h2 hx]at h⊢
 by_cases h3:l-(m:Int)<0
 ·rw[if_pos h3]at h;omega
 ·rw[if_neg h3];omega
abbrev zI:List AV:=[.int .i64 0]
abbrev zB:List AV:=[.bool false]
abbrev zS:List AV:=[.str []]
def dT(b:Bool):List AV:=[.bool b]
def pE(bs:List Bool):AV:=.ro zB (bs.map dT)
def aX(bs:List Bool):AV:=.own 0 zB (bs.map dT)
def lX(k:Int):Bool:=k.tmod 3==0
def eY(k:Int):Int:=k
structure Deal where
 c:Int
 a:Int
 b:Int
 r:Int
 deriving DecidableEq,Inhabited
def bc(d:Deal):List AV:=[.int .i64 d.c,.int .i64 d.a,.int .i64 d.b,.int .i64 d.r]
def jn(d:Deal):AV:=.agg (bc d)
abbrev zD:List AV:=[.int .i64 0,.int .i64 0,.int .i64 0,.int .i64 0]
def lC(ds:List Deal):AV:=.ro zD (ds.map bc)
def aW(ds:List Deal):AV:=.own 0 zD (ds.map bc)
def jZ(k:Int):Deal:=⟨k,k+1,k+2,k+3⟩
structure Wd where
 nm:List UInt8
 k:Int
 v:Int
 deriving DecidableEq,Inhabited
def dl(x:Wd):List AV:=[.str x.nm,.int .i64 x.k,.int .i64 x.v]
def wu(x:Wd):AV:=.agg (dl x)
abbrev zW:List AV:=[.str [],.int .i64 0,.int .i64 0]
def fq(xs:List Wd):AV:=.ro zW (xs.map dl)
def bO(xs:List Wd):AV:=.own 0 zW (xs.map dl)
structure Itm where
 k:Int
 v:Int
 deriving DecidableEq,Inhabited
def LJ(x:Itm):List AV:=[.int .i64 x.k,.int .i64 x.v]
abbrev zT:List AV:=[.int .i64 0,.int .i64 0]
def kh(xs:List Itm):AV:=.own 0 zT (xs.map LJ)
structure Cal where
 ip:Int
 fl:Int
 dp:Int
 ca:Bool
 deriving DecidableEq,Inhabited
def bF(x:Cal):List AV:=[.int .i64 x.ip,.int .i64 x.fl,.int .i64 x.dp,.bool x.ca]
def rI(x:Cal):AV:=.agg (bF x)
abbrev zC:List AV:=[.int .i64 0,.int .i64 0,.int .i64 0,.bool false]
def od(xs:List Cal):AV:=.ro zC (xs.map bF)
def bR(xs:List Cal):AV:=.own 0 zC (xs.map bF)
def lm(k:Int):Cal:=⟨k,k+1,k+2,(k+3).tmod 3==0⟩
structure Dat where
 st:List Int
 bk:List Int
 ce:List Int
 he:Int
 ba:Int
 ou:List UInt8
 deriving DecidableEq,Inhabited
def G8(d:Dat):List AV:=[dL d.st,dL d.bk,dL d.ce,.int .i64 d.he,.int .i64 d.ba,.str d.ou]
def az(d:Dat):AV:=.agg (G8 d)
def aw(d:Dat):List AV:=[aK d.st,aK d.bk,aK d.ce,.int .i64 d.he,.int .i64 d.ba,.str d.ou]
def jY(d:Dat):AV:=.agg (aw d)
@[simp] theorem Dat.eta(d:Dat):(⟨d.st,d.bk,d.ce,d.he,d.ba,d.ou⟩:Dat)=d:=rfl
def KP:Dat:=⟨[],[],[],0,0,[]⟩
structure Hst where
 gr:List Bool
 st:List Int
 q:List Int
 tk:Int
 ds:List Deal
 deriving DecidableEq,Inhabited
def Ek(h:Hst):List AV:=[pE h.gr,dL h.st,dL h.q,.int .i64 h.tk,lC h.ds]
def cV(h:Hst):AV:=.agg (Ek h)
def cb(h:Hst):List AV:=[aX h.gr,aK h.st,aK h.q,.int .i64 h.tk,aW h.ds]
def fR(h:Hst):AV:=.agg (cb h)
@[simp] theorem Hst.eta(h:Hst):(⟨h.gr,h.st,h.q,h.tk,h.ds⟩:Hst)=h:=rfl
def Jy:Hst:=⟨[],[],[],0,[]⟩
theorem bj:(∀{p:Prop}[Decidable p],(decide p=true)=p)∧(∀{α β:Type}{l:List α}(f:α→β),(l.map f).length=l.length)∧(∀{α:Type}(mks:Int→α)(c:Int)(n:Nat)(k:Int),(hH mks c n k).length=n)∧(∀(rows:List (List AV))(i j:Nat)(z vs:List AV),(bl rows i j z vs).length=rows.length):=⟨decide_eq_true_eq,List.length_map,fun m c n k=>aF m c n k,bh⟩
end Go.Abs

/- What the program computes, in plain Lean: cells, data, the host. -/
noncomputable section
namespace Go.Abs
open Go
def bm(n lo hi:Int):Bool:=decide (lo≤n)&&decide (n≤hi)
theorem aQ{n lo hi:Int}(h:bm n lo hi=true):lo≤n∧n≤hi:=by simpa[bm]using h
def cell(n:Int):Bool:=bm n (-2147483648) 2147483647
theorem zQ{n:Int}(h1: -9223372036854775808≤n)(h2:n≤9223372036854775807):(IntKind.i64.wrap (IntKind.i32.wrap n)==n)=cell n:=by
 have h3: -2147483648≤IntKind.i32.wrap n∧IntKind.i32.wrap n≤2147483647:=by
  simp[IntKind.wrap,IntKind.signed,IntKind.bits]
  omega
 rw[ai (by omega) (by omega)]
 by_cases h: -2147483648≤n∧n≤2147483647
 ·rw[Gx h.1 h.2]
  simp[cell,bm,h.1,h.2]
 ·have:IntKind.i32.wrap n≠n:=fun e=>by rw[e]at h3;exact h h3
  have h5:cell n=false:=by simp[cell,bm];omega
  rw[h5]
  simpa using this
theorem En{α:Type}[Inhabited α]{p:α→Bool}{xs:List α}{i:Nat}(h:i<xs.length)(hp:p (xs.getD i default)=true):xs.any p=true:=List.any_eq_true.2 ⟨xs[i],List.getElem_mem h,by simpa[h]using hp⟩
theorem Bb{α:Type}[Inhabited α]{p:α→Bool}{xs:List α}(h: ∀j,j<xs.length→p (xs.getD j default)=false):xs.any p=false:=by
 rw[List.any_eq_false]
 intro x hx
 obtain⟨j,hj,rfl⟩:=List.mem_iff_getElem.1 hx
 have:=h j hj
 simpa[hj]using this
theorem gn{α:Type}(p:α→Bool)(xs:List α):(!xs.any fun x=> !p x)=xs.all p:=by
 induction xs with
 |nil=>rfl
 |cons x xs ih=>simp only[List.any_cons,List.all_cons,Bool.not_or,Bool.not_not,ih]
theorem lT{α:Type}[Inhabited α]{p:α→Bool}{xs:List α}{i:Nat}(h:i<xs.length)(hp:p (xs.getD i default)=false):xs.all p=false:=by
 rw[←gn,En h (by rw[hp];rfl)]
 rfl
theorem kW{α:Type}[Inhabited α]{p:α→Bool}{xs:List α}(h: ∀j,j<xs.length→p (xs.getD j default)=true):xs.all p=true:=by
 rw[←gn,Bb fun j hj=>by rw[h j hj];rfl]
 rfl
def nU(n:Int):Bool:= !cell n
def aN(xs:List Int):Bool:=xs.all cell
theorem zd(xs:List Int):xs.any nU= !aN xs:=by
 have:=gn cell xs
 unfold aN
 rw[←this,Bool.not_not]
 rfl
def eX(d:Dat):Bool:=decide (d.st.length≤32)&&decide (d.bk.length≤32)&&decide (d.ce.length=32)&&aN d.st&&aN d.bk&&aN d.ce&&bm d.he 0 32&&bm d.ba 2 16&&decide (d.ou.length≤300)
structure DataOk(d:Dat):Prop where
 st:d.st.length≤32
 bk:d.bk.length≤32
 ce:d.ce.length=32
 cst:aN d.st=true
 cbk:aN d.bk=true
 cce:aN d.ce=true
 he:0≤d.he∧d.he≤32
 ba:2≤d.ba∧d.ba≤16
 ou:d.ou.length≤300
theorem gQ(d:Dat):eX d=true↔DataOk d:=by
 constructor
 ·intro h
  simp only[eX,Bool.and_eq_true,decide_eq_true_eq]at h
  obtain⟨⟨⟨⟨⟨⟨⟨⟨h1,h2⟩,h3⟩,h4⟩,h5⟩,h6⟩,h7⟩,h8⟩,h9⟩:=h
  exact⟨h1,h2,h3,h4,h5,h6,aQ h7,aQ h8,h9⟩
 ·rintro ⟨h1,h2,h3,h4,h5,h6,h7,h8,h9⟩
  simp[eX,bm,h1,h2,h3,h4,h5,h6,h7,h8,h9]
def fD(d:Dat)(n:Int):Dat × Int:=if d.st.length=32 then(d,-3)else({d with st:=d.st++[n]},0)
theorem xy{d:Dat}{n:Int}(h:d.st.length=32):fD d n=(d,-3):=by rw[fD,if_pos h]
theorem sY{d:Dat}{n:Int}(h: ¬d.st.length=32):fD d n=({d with st:=d.st++[n]},0):=by rw[fD,if_neg h]
def rJ(d:Dat):Dat × Int × Int:=if d.st.length=0 then(d,0,-4)else({d with st:=d.st.take (d.st.length-1)},d.st.getD (d.st.length-1) 0,0)
theorem qw{d:Dat}(h:d.st.length=0):rJ d=(d,0,-4):=by rw[rJ,if_pos h]
theorem te{d:Dat}(h: ¬d.st.length=0):rJ d=({d with st:=d.st.take (d.st.length-1)},d.st.getD (d.st.length-1) 0,0):=by rw[rJ,if_neg h]
def bt(d:Dat)(t:Nat)(l:List Int):Dat × Int:=if d.st.length-t+l.length>32 then(d,-3)else({d with st:=d.st.take (d.st.length-t)++l},0)
def fw(d:Deal):Bool:=bm d.c 0 3&&cell d.a&&cell d.b&&cell d.r
def nj(d:Deal):Bool:= !fw d
def fH(xs:List Deal):Bool:=xs.all fw
theorem zy(xs:List Deal):xs.any nj= !fH xs:=by
 have:=gn fw xs
 unfold fH
 rw[←this,Bool.not_not]
 rfl
def cU(h:Hst):Bool:=decide (h.gr.length=4)&&decide (h.st.length=8)&&aN h.st&&decide (h.q.length≤20)&&aN h.q&&bm h.tk 0 2147483647&&decide (h.ds.length≤40)&&fH h.ds
structure HostOk(h:Hst):Prop where
 gr:h.gr.length=4
 st:h.st.length=8
 cst:aN h.st=true
 q:h.q.length≤20
 cq:aN h.q=true
 tk:0≤h.tk∧h.tk≤2147483647
 ds:h.ds.length≤40
 cds:fH h.ds=true
theorem gZ(h:Hst):cU h=true↔HostOk h:=by
 constructor
 ·intro h
  simp only[cU,Bool.and_eq_true,decide_eq_true_eq]at h
  obtain⟨⟨⟨⟨⟨⟨⟨h1,h2⟩,h3⟩,h4⟩,h5⟩,h6⟩,h7⟩,h8⟩:=h
  exact⟨h1,h2,h3,h4,h5,aQ h6,h7,h8⟩
 ·rintro ⟨h1,h2,h3,h4,h5,h6,h7,h8⟩
  simp[cU,bm,h1,h2,h3,h4,h5,h6,h7,h8]
def bu(d:Dat):Int:=d.st.getD (d.st.length-1) 0
def iq(d:Dat):Int:=d.st.getD (d.st.length-2) 0
def mm(h:Hst)(d:Dat):Nat→Hst × Dat × Int
 |0=>if d.st.length<1 then(h,d,-4)else if bm (bu d) 0 7=false then(h,{d with st:=d.st.take (d.st.length-1)},-9)
  else({h with ds:=h.ds++[⟨0,bu d,0,h.st.getD (bu d).toNat 0⟩]},{d with st:=d.st.take (d.st.length-1)++[h.st.getD (bu d).toNat 0]},0)
 |1=>if d.st.length<2 then(h,d,-4)else if bm (bu d) 0 7=false then(h,{d with st:=d.st.take (d.st.length-1)},-9)
  else({h with st:=h.st.set (bu d).toNat (iq d),ds:=h.ds++[⟨1,bu d,iq d,0⟩]},{d with st:=d.st.take (d.st.length-2)},0)
 |2=>if d.st.length<1 then(h,d,-4)else({h with q:=h.q.drop 1,ds:=h.ds++[⟨2,bu d,0,h.q.getD 0 0⟩]},{d with st:=d.st.take (d.st.length-1)++[h.q.getD 0 0]},0)
 |_=>if d.st.length=32 then(h,d,-3)else({h with ds:=h.ds++[⟨3,0,0,h.tk⟩]},{d with st:=d.st++[h.tk]},0)
def cA(h:Hst)(d:Dat)(cap:Nat):Hst × Dat × Int:=
 if h.gr.getD cap false=false then(h,d,-100)else if h.ds.length=40 then(h,d,-8)else mm h d cap
def bC(h:Hst)(d:Dat)(cap:Nat):Hst × Dat × Int:=if(cA h d cap).2.2=0 then cA h d cap else(h,d,(cA h d cap).2.2)
theorem BA{d:Dat}(h:2≤d.st.length):bu {d with st:=d.st.take (d.st.length-1)}=iq d:=by
 unfold bu iq
 simp only[List.length_take]
 rw[show min (d.st.length-1) d.st.length-1=d.st.length-2 by omega]
 simp only[List.getD_eq_getElem?_getD]
 rw[List.getElem?_take_of_lt (by omega)]
section
variable{h:Hst}{d:Dat}{c:Nat}
theorem fP(a:h.gr.getD c false=false):cA h d c=(h,d,-100):=by rw[cA,if_pos a]
theorem ga(a:h.gr.getD c false=true)(b:h.ds.length=40):cA h d c=(h,d,-8):=by rw[cA,if_neg (by rw[a];simp),if_pos b]
theorem gc(a:h.gr.getD c false=true)(b: ¬h.ds.length=40):cA h d c=mm h d c:=by rw[cA,if_neg (by rw[a];simp),if_neg b]
theorem pJ(a:h.gr.getD 0 false=true)(b: ¬h.ds.length=40)(e:d.st.length<1):cA h d 0=(h,d,-4):=by rw[gc a b];exact if_pos e
theorem pS(a:h.gr.getD 0 false=true)(b: ¬h.ds.length=40)(e: ¬d.st.length<1)(f:bm (bu d) 0 7=false):cA h d 0=(h,{d with st:=d.st.take (d.st.length-1)},-9):=by rw[gc a b];exact(if_neg e).trans (if_pos f)
theorem pL(a:h.gr.getD 0 false=true)(b: ¬h.ds.length=40)(e: ¬d.st.length<1)(f:bm (bu d) 0 7=true):cA h d 0=({h with ds:=h.ds++[⟨0,bu d,0,h.st.getD (bu d).toNat 0⟩]},{d with st:=d.st.take (d.st.length-1)++[h.st.getD (bu d).toNat 0]},0):=by rw[gc a b];exact(if_neg e).trans (if_neg (by rw[f];simp))
theorem pU(a:h.gr.getD 1 false=true)(b: ¬h.ds.length=40)(e:d.st.length<2):cA h d 1=(h,d,-4):=by rw[gc a b];exact if_pos e
theorem pM(a:h.gr.getD 1 false=true)(b: ¬h.ds.length=40)(e: ¬d.st.length<2)(f:bm (bu d) 0 7=false):cA h d 1=(h,{d with st:=d.st.take (d.st.length-1)},-9):=by rw[gc a b];exact(if_neg e).trans (if_pos f)
theorem pV(a:h.gr.getD 1 false=true)(b: ¬h.ds.length=40)(e: ¬d.st.length<2)(f:bm (bu d) 0 7=true):cA h d 1=({h with st:=h.st.set (bu d).toNat (iq d),ds:=h.ds++[⟨1,bu d,iq d,0⟩]},{d with st:=d.st.take (d.st.length-2)},0):=by rw[gc a b];exact(if_neg e).trans (if_neg (by rw[f];simp))
theorem pT(a:h.gr.getD 2 false=true)(b: ¬h.ds.length=40)(e:d.st.length<1):cA h d 2=(h,d,-4):=by rw[gc a b];exact if_pos e
theorem nu(a:h.gr.getD 2 false=true)(b: ¬h.ds.length=40)(e: ¬d.st.length<1):cA h d 2=({h with q:=h.q.drop 1,ds:=h.ds++[⟨2,bu d,0,h.q.getD 0 0⟩]},{d with st:=d.st.take (d.st.length-1)++[h.q.getD 0 0]},0):=by rw[gc a b];exact if_neg e
theorem ud(a:h.gr.getD 2 false=true)(b: ¬h.ds.length=40)(e: ¬d.st.length<1)(q:(h.q.length:Int)≤0):cA h d 2=({h with ds:=h.ds++[⟨2,bu d,0,0⟩]},{d with st:=d.st.take (d.st.length-1)++[0]},0):=by
 have q0:h.q=[]:=List.length_eq_zero_iff.1 (by omega)
 rw[nu a b e,q0]
 simp only[List.drop_nil,List.getD_nil]
theorem pW(a:h.gr.getD 3 false=true)(b: ¬h.ds.length=40)(e:d.st.length=32):cA h d 3=(h,d,-3):=by rw[gc a b];exact if_pos e
theorem pR(a:h.gr.getD 3 false=true)(b: ¬h.ds.length=40)(e: ¬d.st.length=32):cA h d 3=({h with ds:=h.ds++[⟨3,0,0,h.tk⟩]},{d with st:=d.st++[h.tk]},0):=by rw[gc a b];exact if_neg e
end
end Go.Abs

/- The abstract layer, 30: contracts of Go's library, from the kit's shelf. -/
noncomputable section
namespace Go.Abs
open Go Go.Sort
theorem nc{w:World}{os:Array Obj}{g:Nat}(h:g<w.heap.size):(grow w os).heap[g]? =w.heap[g]? :=by
 simp[grow,Array.getElem?_append,h]
theorem Frame.grow(w:World)(os:Array Obj)(O:Cells):Frame w (grow w os) O:=by
 refine⟨by simp[Go.Sort.grow],fun g n hb=> ?_,fun g off hg _=> ?_,fun g hg=> ?_,fun g hg _=>nc hg,fun g hg _=>nc hg,rfl,rfl,rfl⟩
 ·obtain⟨c,e,fz,h,k⟩:=hb
  exact⟨c,e,fz,(nc (Array.getElem?_eq_some_iff.1 h).1).trans h,k⟩
 ·simp only[World.cell?,nc hg]
 ·simp only[World.shape?,nc hg]
theorem Frame.lib(w:World)(k:Nat)(os:Array Obj):Frame w (Go.Sort.grow (w.drewN k) os) ae:=by
 refine(Frame.drew w (w.drawn+k) ae).trans (Frame.grow (w.drewN k) os ae) fun g o h=>h.elim
theorem Tabs.is{P:Program}{w:World}{O:Cells}(h:Tabs P w O){nm:String}{cs:Array Value}(hm:(nm,cs)∈uP){g:Nat}(hg:P.globalNamed nm=some g):w.var? P nm=some cs:=by
 obtain⟨⟨e,fz,h1⟩,_⟩:=h _ hm g hg
 simp[World.var?,hg,h1]
theorem Con.scal{P:Program}{f:FuncId}{xs:List AV}{res:AV}(ok:wE P f)
  (h: ∀(w:World)(vals:List Value),Parts w (fun _ _=>False) aC xs vals ae→Tabs P w ae→Calls P f vals.toArray w fun e w'=> ∃v,e=.returned v∧SR res v∧ ∃k os,w'=Go.Sort.grow (w.drewN k) os)
  (hs: ∀(w:World)(R O:Cells)(vals:List Value),Parts w R aC xs vals O→Parts w (fun _ _=>False) aC xs vals ae∧Emp O):Con P f xs (aa xs) res:=by
 refine⟨ok,fun w R O vals hp hR hO tb=> ?_⟩
 obtain⟨hp0,hemp⟩:=hs w R O vals hp
 refine(h w vals hp0 fun x hx g hg=>⟨(tb x hx g hg).1,fun _ k=>k⟩).mono fun e w' hb=> ?_
 obtain⟨v,rfl,hv,k,os,rfl⟩:=hb
 refine⟨ae,(Frame.lib w k os).weak fun _ _ k=>k.elim,fun _ _ k=>k.elim,ae,ae,fun g o=>by simp[ae],ah.disj,.sc hv ah,?_⟩
 have hl:=(aL _ _ _ hp).1
 have: ∀(l:List AV)(vs:List Value),vs.length=l.length→Parts (Go.Sort.grow (w.drewN k) os) (RS ⟨w,R,O,aC⟩ (Go.Sort.grow (w.drewN k) os) ae) aC (aa l) vs ae:=by
  intro l
  induction l with
  |nil=>intro vs hl;match vs,hl with|[],_=>exact ah
  |cons x l ih=>
   intro vs hl
   match vs,hl with
   |v::vs,hl=>exact⟨ae,ae,fun g o=>by simp[ae],ah.disj,.sc trivial ah,ih vs (by simpa using hl)⟩
 exact this xs vals hl
end Go.Abs

/- The abstract layer, 31: rows that list laid variables. -/
noncomputable section
namespace Go.Abs
open Go
theorem dz{P:Program}{W:World}{name:String}{k:IntKind}{zs:List Int}{g:Nat}{t e:TypeId}{n:Nat}
  (hg:P.globalNamed name=some g)(hty:(P.globals[g]?).map (·.type)=some t)(ht:P.underlying t=some (.array n e))(he:P.underlying e=some (.int k))(hce:P.cellsOf e=1)(hct:P.cellsOf t=n):
  ∀{l:List (String × DataW Unit)}{ps:List MemPlace},DataW.LaidVars P W l ps→(name,Lib.tabData k zs)∈l→Lib.TabIs P W name k zs
 |[],_,_,hm=>by simp at hm
 |(nm,d)::l,ps,⟨g',t',cs,fuel,p,q,hg',ht',hvar,hd,hr,_⟩,hm=>by
  rcases List.mem_cons.1 hm with hm|hm
  ·simp only[Prod.mk.injEq]at hm
   obtain⟨rfl,rfl⟩:=hm
   obtain rfl:=Option.some.inj (hg.symm.trans hg')
   obtain rfl:=Option.some.inj (hty.symm.trans ht')
   unfold Lib.TabIs
   rw[hvar,←Lib.cells_of_tab ht he hce hct hd]
  ·exact dz hg hty ht he hce hct hr hm
theorem eU{P:Program}{W:World}{name:String}{k:IntKind}{zs:List Int}{g:Nat}(h:Lib.TabIs P W name k zs)(hg:P.globalNamed name=some g):
  ∃e fz,W.heap[g]? =some (.cells (zs.map fun z=>Value.int k z).toArray e fz):=by
 unfold Lib.TabIs World.var? at h
 rw[hg]at h
 simp only[Option.bind_some]at h
 split at h
 ·rename_i cs e fz hh
  injection h with h
  subst h
  exact⟨_,_,hh⟩
 ·cases h
end Go.Abs

/- What the program tells of actions, reports and hosts, in plain Lean. -/
noncomputable section
namespace Go.Abs
open Go Go.Proofs
structure Doing where
 k:Int
 n:Int
 l:List UInt8
 deriving DecidableEq,Inhabited
structure Rep where
 th:Int
 fu:Int
 sa:List UInt8
 st:List Int
 co:Bool
 deriving DecidableEq,Inhabited
@[simp] theorem Rep.eta(d:Rep):(⟨d.th,d.fu,d.sa,d.st,d.co⟩:Rep)=d:=rfl
end Go.Abs

/- What the program computes of items, in plain Lean: what fits, sizes, code. -/
noncomputable section
namespace Go.Abs
open Go
abbrev Mk:=Int × Int
structure Marks(at':Int)(n:Nat)(ks:List Int)(ms:List Mk):Prop where
 len:ks.length=ms.length
 hole: ∀m∈ms,0≤m.1∧m.1<n∨m.1=0
 back: ∀m∈ms,0≤m.2∧m.2≤at'+n
 kinds: ∀i,i<ms.length→(ks.getD i 0=3∨ks.getD i 0=4∨ks.getD i 0=8)→0<n
end Go.Abs

/- What the program computes of words, in plain Lean. -/
noncomputable section
namespace Go.Abs
open Go
def oH(s:List UInt8):Bool:=bm s.length 1 12&&s.all fun c=>decide (33≤c.toNat)&&decide (c.toNat≤126)
def bw:List (List (List UInt8)):=[
 [[68,85,80],[68,82,79,80],[83,87,65,80],[79,86,69,82],[82,79,84],[78,73,80],[84,85,67,75],[63,68,85,80],[50,68,85,80],[50,68,82,79,80],[68,69,80,84,72],[62,82],[82,62],[82,64],[43],[45],[42],[47],[77,79,68],[65,78,68],[79,82],[88,79,82],[76,83,72,73,70,84],[82,83,72,73,70,84],[78,69,71,65,84,69],[65,66,83],[73,78,86,69,82,84],[49,43],[49,45],[77,73,78],[77,65,88],[61],[60,62],[60],[62],[85,60],[48,61],[48,60],[64],[33],[43,33],[72,69,82,69],[65,76,76,79,84],[44],[69,77,73,84],[46],[67,82],[83,80,65,67,69],[68,69,67,73,77,65,76],[72,69,88],[73],[85,78,76,79,79,80]],
 [[69,88,73,84],[69,88,69,67,85,84,69],[67,65,84,67,72],[84,72,82,79,87]],
 [[40,76,73,84,41],[40,66,82,65,78,67,72,41],[40,48,66,82,65,78,67,72,41],[40,68,79,41],[40,76,79,79,80,41],[40,43,76,79,79,80,41]],
 [[72,82,69,65,68],[72,87,82,73,84,69],[72,65,83,75],[72,84,73,77,69]],
 [[58],[59],[73,70],[69,76,83,69],[84,72,69,78],[66,69,71,73,78],[85,78,84,73,76],[87,72,73,76,69],[82,69,80,69,65,84],[68,79],[76,79,79,80],[43,76,79,79,80],[82,69,67,85,82,83,69],[86,65,82,73,65,66,76,69],[67,79,78,83,84,65,78,84],[39],[91,39,93]]]
def xX:Nat→List (List (List UInt8))→List Wd
 |_,[]=>[]
 |k,g::l=>(g.zipIdx.map fun p=>⟨p.1,(k:Int)+1,(p.2:Int)+1⟩)++xX (k+1) l
def dX:List Wd:=xX 0 bw
theorem vD:dX.length=83:=by decide+kernel
def cw(x:Wd):Bool:=
 if x.k=6 then oH x.nm&&bm x.v 0 399 else if x.k=7 then oH x.nm&&(bm x.v 4096 4223&&decide (x.v.tmod 4=0))else decide (x.k=8)&&oH x.nm&&cell x.v
def jh(x:Wd):Bool:= !cw x
def eh(xs:List Wd):Bool:=decide (83≤xs.length)&&decide (xs.length≤4096)&&decide (xs.take 83=dX)
def fJ(xs:List Wd):Bool:=decide (xs.length≤103)&&eh xs&&(xs.drop 83).all cw
end Go.Abs

/- The abstract layer: at a loop's head an array is given up, and read in place from there on. -/
noncomputable section
namespace Go.Abs
open Go
section
variable{P:Program}{n:Fx}
theorem LoopG.frz{c:Code}{Q:Ex→St→Prop}{ts:Ts}{ms:Ms}(k:Nat)(h:lz k ts ms fun ts ms=>LoopG P c Q (St.ls n ts ms)):LoopG P c Q (St.ls n ts ms):=by
 refine⟨WP.frz k ?_⟩
 unfold lz at h⊢
 split at h
 case h_2=>exact h.elim
 split at h
 case h_2=>exact h.elim
 split at h
 case h_2=>exact h.elim
 obtain⟨hl,h⟩:=bD h
 simp only
 unfold okK
 rw[hl]
 exact h.wp
theorem WP.emp{c:Code}{Q:Ex→St→Prop}{ts:Ts}{ms:Ms}(k:Nat)(z:List AV)(hk:cX ts k=.emp)(h:WP P c Q (St.ls n ((k,.ro z [])::ts) ms)):WP P c Q (St.ls n ts ms):=by
 refine WP.weak (fun E a w hr=> ?_) h
 obtain⟨loc,ob,r⟩:=hr
 refine⟨loc,ob,⟨fun j=> ?_,r.sz,r.df,r.ab,r.dd,r.lv,r.db,r.dx,r.lt,r.sub,r.fr,r.an⟩⟩
 show AR w _ loc (cX ((k,.ro z [])::ts) j) _ ae
 unfold cX
 split
 ·rename_i hj
  obtain rfl:=Nat.eq_of_beq_eq_true hj
  have hx:=r.tm j
  have e:(St.ls n ts ms).t j=.emp:=hk
  rw[e]at hx
  cases hx with
  |sc hs he=>
   obtain⟨ad,hv⟩:=hs
   rw[hv]
   exact .ro0 he
 ·exact r.tm j
theorem LoopG.emp{c:Code}{Q:Ex→St→Prop}{ts:Ts}{ms:Ms}(k:Nat)(z:List AV)(hk:cX ts k=.emp)(h:LoopG P c Q (St.ls n ((k,.ro z [])::ts) ms)):LoopG P c Q (St.ls n ts ms):=
 ⟨WP.emp k z hk h.wp⟩
theorem RelC.bear{E:Env}{st:St}{a:Act}{w:World}{loc:bG}{ob:Nat→Cells}(h:RelC E st a w ae loc ob){b:Nat}(hb:st.m b=.abs)(z:List AV)(lvl:Nat:=0):
  RelC E (st.mws [(b,.live ⟨true,lvl,z,[]⟩)]) a w ae (bi loc b (some ⟨0,0,z.length,0,false⟩)) (bi ob b ae):=by
 have hab:=h.ab b hb
 refine h.birth hb (l:=⟨0,0,z.length,0,false⟩) (Ob:=ae) (fun g o=> ?_) (.arr0 ⟨0,0,z.length,0,false⟩ (by simp[bi]) rfl rfl rfl ah) (fun _ _ _ _ _ k=>k.elim) (fun _ _ _ _ _ k=>k.elim) (fun _ _ k _=>k.elim)
 constructor
 ·rintro (⟨b',k⟩|k)
  ·by_cases hbb:b'=b
   ·subst hbb;simp only[bi,if_true]at k;exact k.elim
   ·simp only[bi,hbb,if_false]at k;exact .inl ⟨b',k⟩
  ·exact k.elim
 ·rintro (⟨b',k⟩|k)
  ·by_cases hbb:b'=b
   ·subst hbb;exact(hab.2 g o k).elim
   ·exact .inl ⟨b',by simpa only[bi,hbb,if_false]using k⟩
  ·exact k.elim
theorem WP.bearL(lvl:Nat){c:Code}{Q:Ex→St→Prop}{ts:Ts}{ms:Ms}(k b:Nat)(z:List AV)(hk:cX ts k=.emp)(hb:cd ms b=.abs)(h:WP P c Q (St.ls n ((k,.ref b 0 0)::ts) ((b,.live ⟨true,lvl,z,[]⟩)::ms))):WP P c Q (St.ls n ts ms):=by
 refine WP.weak (fun E a w hr=> ?_) h
 obtain⟨loc,ob,r⟩:=hr
 have r1:=r.bear (b:=b) hb z lvl
 have e1:(St.ls n ts ms).mws [(b,.live ⟨true,lvl,z,[]⟩)]=St.ls n ts ((b,.live ⟨true,lvl,z,[]⟩)::ms):=kq ts ms b _
 rw[e1]at r1
 refine⟨_,_,⟨fun j=> ?_,r1.sz,r1.df,r1.ab,r1.dd,r1.lv,r1.db,r1.dx,r1.lt,r1.sub,r1.fr,r1.an⟩⟩
 show AR w _ _ (cX ((k,.ref b 0 0)::ts) j) _ ae
 unfold cX
 split
 ·rename_i hj
  obtain rfl:=Nat.eq_of_beq_eq_true hj
  have hx:=r.tm j
  have e:(St.ls n ts ms).t j=.emp:=hk
  rw[e]at hx
  cases hx with
  |sc hs he=>
   obtain⟨ad,hv⟩:=hs
   rw[hv]
   exact .ref0 ⟨0,0,z.length,0,false⟩ he (by simp[bi]) (Nat.le_refl 0)
 ·exact r1.tm j
theorem WP.bearT{c:Code}{Q:Ex→St→Prop}{ts:Ts}{ms:Ms}(k b:Nat)(z:List AV)(hk:cX ts k=.emp)(hb:cd ms b=.abs)(h:WP P c Q (St.ls n ((k,.ref b 0 0)::ts) ((b,.live ⟨true,0,z,[]⟩)::ms))):WP P c Q (St.ls n ts ms):=
 WP.bearL 0 k b z hk hb h
theorem LoopG.bearT{c:Code}{Q:Ex→St→Prop}{ts:Ts}{ms:Ms}(k b:Nat)(z:List AV)(hk:cX ts k=.emp)(hb:cd ms b=.abs)(h:LoopG P c Q (St.ls n ((k,.ref b 0 0)::ts) ((b,.live ⟨true,0,z,[]⟩)::ms))):LoopG P c Q (St.ls n ts ms):=
 ⟨WP.bearT k b z hk hb h.wp⟩
theorem LoopG.bearL(lvl:Nat){c:Code}{Q:Ex→St→Prop}{ts:Ts}{ms:Ms}(k b:Nat)(z:List AV)(hk:cX ts k=.emp)(hb:cd ms b=.abs)(h:LoopG P c Q (St.ls n ((k,.ref b 0 0)::ts) ((b,.live ⟨true,lvl,z,[]⟩)::ms))):LoopG P c Q (St.ls n ts ms):=
 ⟨WP.bearL lvl k b z hk hb h.wp⟩
theorem WP.bearM{c:Code}{Q:Ex→St→Prop}{ts:Ts}{ms:Ms}(d j b:Nat)(z:List AV){lvl:Nat}{z0 row:List AV}(hd:cd ms d=.live ⟨false,lvl,z0,[row]⟩)(hj:row[j]? =some .emp)(hb:cd ms b=.abs)
  (h:WP P c Q (St.ls n ts ((d,.live ⟨false,lvl,z0,[row.set j (.ref b 0 0)]⟩)::(b,.live ⟨true,0,z,[]⟩)::ms))):WP P c Q (St.ls n ts ms):=by
 refine WP.weak (fun E a w hr=> ?_) h
 obtain⟨loc,ob,r⟩:=hr
 have r1:=r.bear (b:=b) hb z
 have e1:(St.ls n ts ms).mws [(b,.live ⟨true,0,z,[]⟩)]=St.ls n ts ((b,.live ⟨true,0,z,[]⟩)::ms):=kq ts ms b _
 rw[e1]at r1
 have hne:d≠b:=fun e=>by rw[e,hb]at hd;cases hd
 have hd1:(St.ls n ts ((b,.live ⟨true,0,z,[]⟩)::ms)).m d=.live ⟨false,lvl,z0,[row]⟩:=by
  show cd ((b,.live ⟨true,0,z,[]⟩)::ms) d=_
  unfold cd
  split
  ·rename_i hh;exact absurd (Nat.eq_of_beq_eq_true hh) hne
  ·exact hd
 have hm: ∀x,(St.ls n ts ((d,.live ⟨false,lvl,z0,[row.set j (.ref b 0 0)]⟩)::(b,.live ⟨true,0,z,[]⟩)::ms)).m x=if x=d then .live ⟨false,lvl,z0,[row.set j (.ref b 0 0)]⟩else(St.ls n ts ((b,.live ⟨true,0,z,[]⟩)::ms)).m x:=by
  intro x
  show cd ((d,.live ⟨false,lvl,z0,[row.set j (.ref b 0 0)]⟩)::(b,.live ⟨true,0,z,[]⟩)::ms) x=_
  unfold cd
  split
  ·rename_i hh;rw[if_pos (Nat.eq_of_beq_eq_true hh)]
  ·rename_i hh;rw[if_neg (Nat.ne_of_beq_eq_false hh)];rfl
 have hjl:j<row.length:=(List.getElem?_eq_some_iff.1 hj).1
 have hget: ∀(k:Nat)(x:AV),(row.set j (.ref b 0 0))[k]? =some x→x.isUndef=false→ ∃y,row[k]? =some y∧y.isUndef=false∧(k=j∧x=.ref b 0 0∧y=.emp∨x=y):=by
  intro k x h1 h2
  rw[List.getElem?_set]at h1
  by_cases hkj:j=k
  ·subst hkj
   rw[if_pos rfl,if_pos hjl]at h1
   injection h1 with h1
   exact⟨.emp,hj,rfl,.inl ⟨rfl,h1.symm,rfl⟩⟩
  ·rw[if_neg hkj]at h1
   exact⟨x,h1,h2,.inr rfl⟩
 have hback: ∀(k:Nat)(y:AV),row[k]? =some y→y.isUndef=false→ ∃x,(row.set j (.ref b 0 0))[k]? =some x∧x.isUndef=false:=by
  intro k y h1 h2
  rw[List.getElem?_set]
  by_cases hkj:j=k
  ·subst hkj
   rw[if_pos rfl,if_pos hjl]
   exact⟨_,rfl,rfl⟩
  ·rw[if_neg hkj]
   exact⟨y,h1,h2⟩
 refine⟨_,_,⟨r1.tm,r1.sz,r1.df,fun x hx=> ?_,fun x hx=> ?_,fun x blk hx=> ?_,r1.db,r1.dx,r1.lt,r1.sub,r1.fr,r1.an⟩⟩
 ·rw[hm]at hx
  split at hx
  ·cases hx
  ·exact r1.ab x hx
 ·rw[hm]at hx
  split at hx
  ·cases hx
  ·exact r1.dd x hx
 ·rw[hm]at hx
  split at hx
  ·rename_i hxd
   subst hxd
   injection hx with hx
   subst hx
   have hbr:=r1.lv x _ hd1
   cases hbr with
   | @var _ _ _ _ l vs os hl hbd hs hn hz hbf hc hx2 hO hdo hdd=>
    refine .var l vs os hl hbd hs hn (by simpa using hz) hbf (fun k y h1 h2=> ?_) (fun k y h1 h2=> ?_) (fun g' o'=> ?_) (fun k y k' y' h1 h2 h3 h4=> ?_) (fun k y k' y' h1 h2 h3 h4=> ?_)
    ·obtain⟨y0,q1,q2,_⟩:=hget k y h1 h2
     exact hc k y0 q1 q2
    ·obtain⟨y0,q1,q2,q3⟩:=hget k y h1 h2
     have hh:=hx2 k y0 q1 q2
     rcases q3 with⟨rfl,rfl,rfl⟩|rfl
     ·cases hh with
      |sc hs he=>
       obtain⟨ad,hv⟩:=hs
       rw[hv]
       exact .ref0 ⟨0,0,z.length,0,false⟩ he (by simp[bi]) (Nat.le_refl 0)
     ·exact hh
    ·rw[hO]
     constructor
     ·rintro ⟨k,y0,q1,q2,q3⟩
      obtain⟨y,p1,p2⟩:=hback k y0 q1 q2
      exact⟨k,y,p1,p2,q3⟩
     ·rintro ⟨k,y,p1,p2,q3⟩
      obtain⟨y0,q1,q2,_⟩:=hget k y p1 p2
      exact⟨k,y0,q1,q2,q3⟩
    ·obtain⟨y0,q1,q2,_⟩:=hget k y h1 h2
     obtain⟨y1,q3,q4,_⟩:=hget k' y' h3 h4
     exact hdo k y0 k' y1 q1 q2 q3 q4
    ·obtain⟨y0,q1,q2,_⟩:=hget k y h1 h2
     obtain⟨y1,q3,q4,_⟩:=hget k' y' h3 h4
     exact hdd k y0 k' y1 q1 q2 q3 q4
  ·exact r1.lv x blk hx
theorem LoopG.bearM{c:Code}{Q:Ex→St→Prop}{ts:Ts}{ms:Ms}(d j b:Nat)(z:List AV){lvl:Nat}{z0 row:List AV}(hd:cd ms d=.live ⟨false,lvl,z0,[row]⟩)(hj:row[j]? =some .emp)(hb:cd ms b=.abs)
  (h:LoopG P c Q (St.ls n ts ((d,.live ⟨false,lvl,z0,[row.set j (.ref b 0 0)]⟩)::(b,.live ⟨true,0,z,[]⟩)::ms))):LoopG P c Q (St.ls n ts ms):=
 ⟨WP.bearM d j b z hd hj hb h.wp⟩
end
section
variable{K:Nat→List (List AV)→Nat→Prop}{lvl l:Nat}
theorem BG{α:Type}(f:α→List AV){xs:List α}{y:α}{row:List AV}(hr:row=f y)(k:K lvl ((xs++[y]).map f) (xs++[y]).length):
  AppG lvl (am (xs.map f) 0 xs.length++(l,am [row] 0 1).snd) (xs.length+(l,am [row] 0 1).snd.length) K:=
 ⟨_,_,_,rfl,by simp[am,hr,List.take_of_length_le],by simp[am],k⟩
end
end Go.Abs

/- Numbers in decimal digits, marks of text: in plain Lean. -/
noncomputable section
namespace Go.Abs
open Go Go.Proofs
theorem zZ{u:Nat}(h: ¬u<10):Lib.decDigits u=Lib.decDigits (u/10)++[UInt8.ofNat (48+u%10)]:=by rw[Lib.decDigits,dif_neg h]
theorem yG(u:Nat)(h:u<18446744073709551616):(Lib.decDigits u).length≤20:=by rw[Lib.decDigits_length];exact Lib.nDigits_le20 u h
theorem IR(u:Nat)(hu:u≤9223372036854775807):IntKind.i64.wrap ((u:Int).tdiv 10)=((u/10:Nat):Int):=by
 have h:(u:Int).tdiv 10=((u/10:Nat):Int):=rfl
 rw[h,ai (by omega) (by omega)]
theorem Hp(u:Nat):IntKind.i64.wrap (48+(u:Int).tmod 10)=((48+u%10:Nat):Int):=by
 have h:(u:Int).tmod 10=((u%10:Nat):Int):=rfl
 rw[h,ai (by omega) (by omega)]
 omega
theorem byteOf{k:Nat}(h:k<256):UInt8.ofNat (IntKind.u8.wrap (k:Int)).toNat=UInt8.ofNat k:=by
 have:IntKind.u8.wrap (k:Int)=k:=by simp[IntKind.wrap,IntKind.signed,IntKind.bits];omega
 rw[this]
 rfl
def Hi(k:Int):List UInt8:=109::Lib.decDigits k.toNat
def DecInv(k u:Nat)(s:List UInt8):Prop:=u≤k∧s.length+(Lib.decDigits u).length≤22∧((u=0∧s=Lib.decDigits k)∨(0<u∧Lib.decDigits u++s=Lib.decDigits k))
theorem DecInv.next{k u:Nat}{s:List UInt8}(h:DecInv k u s)(hu:0<u)(hk:k≤9223372036854775807):DecInv k (u/10) ([UInt8.ofNat (48+u%10)]++s):=by
 obtain⟨h1,h2,h3⟩:=h
 rcases h3 with⟨h3,_⟩|⟨_,h3⟩
 ·omega
 by_cases h10:u<10
 ·have e:u/10=0:=by omega
  have e2:u%10=u:=by omega
  rw[Lib.decDigits_one h10]at h2 h3
  rw[e,e2]
  have d0:(Lib.decDigits 0).length=1:=by rw[Lib.decDigits_one (by omega)];rfl
  have hl:=yG k (by omega)
  rw[←h3]at hl
  refine⟨by omega,?_,.inl ⟨rfl,h3⟩⟩
  rw[d0]
  omega
 ·rw[zZ h10]at h2 h3
  refine⟨by omega,by simp only[List.length_append,List.length_cons,List.length_nil]at h2⊢;omega,.inr ⟨by omega,by rw[←h3];simp⟩⟩
theorem BC{n:Nat}{l:Int}(h:0≤IntKind.i64.wrap (l-n)):mz n l=IntKind.i64.wrap (l-n):=by rw[mz,if_neg (by omega)]
theorem gG{xs:List Int}(h:aN xs=true){i:Nat}(hi:i<xs.length)(d:Int): -2147483648≤xs.getD i d∧xs.getD i d≤2147483647:=by
 have e:xs.getD i d=xs[i]:=by simp[hi]
 rw[e]
 exact aQ (List.all_eq_true.1 h _ (List.getElem_mem hi))
def ma(k:Int):Wd:=⟨Hi k,k+1,k+2⟩
end Go.Abs

/- Calls of the host, in plain Lean: what they keep, what they record. -/
noncomputable section
namespace Go.Abs
open Go
theorem fm{xs:List Int}(h:aN xs=true)(i:Nat):cell (xs.getD i 0)=true:=by
 by_cases hi:i<xs.length
 ·unfold aN at h
  rw[List.all_eq_true]at h
  have e:xs.getD i 0=xs[i]:=by simp[hi]
  rw[e]
  exact h _ (List.getElem_mem hi)
 ·rw[List.getD_eq_getElem?_getD,List.getElem?_eq_none (by omega)]
  rfl
theorem gL{xs ys:List Int}(h1:aN xs=true)(h2:aN ys=true):aN (xs++ys)=true:=by
 unfold aN at*
 rw[List.all_append,h1,h2];rfl
theorem jg{n:Int}(h:cell n=true):aN [n]=true:=by simp[aN,h]
theorem fp{xs:List Int}(h:aN xs=true)(n:Nat):aN (xs.take n)=true:=by
 unfold aN at*
 rw[List.all_eq_true]at*
 exact fun x hx=>h x (List.mem_of_mem_take hx)
theorem qy{xs:List Int}(h:aN xs=true)(n:Nat):aN (xs.drop n)=true:=by
 unfold aN at*
 rw[List.all_eq_true]at*
 exact fun x hx=>h x (List.mem_of_mem_drop hx)
theorem rX{xs:List Int}{n:Int}(h:aN xs=true)(hn:cell n=true)(i:Nat):aN (xs.set i n)=true:=by
 unfold aN at*
 rw[List.all_eq_true]at*
 intro x hx
 rcases List.mem_or_eq_of_mem_set hx with hx|rfl
 ·exact h x hx
 ·exact hn
theorem lA{xs:List Deal}{y:Deal}(h1:fH xs=true)(h2:fw y=true):fH (xs++[y])=true:=by
 unfold fH at*
 rw[List.all_append,h1];simp[h2]
theorem xu{n:Int}(h:0≤n∧n≤2147483647):cell n=true:=by simp[cell,bm];omega
structure CallOk(h:Hst)(d:Dat)(c:Nat)(r:Hst × Dat × Int):Prop where
 ho:HostOk r.1
 da:DataOk r.2.1
 no:r.2.2≠ -100
 yes:r.2.2=0→ ∃y:Deal,r.1.ds=h.ds++[y]∧y.c=c
theorem Cl{h:Hst}{d:Dat}{c:Nat}(hc:c<4)(hh:HostOk h)(hd:DataOk d)(hl:h.ds.length<40):CallOk h d c (mm h d c):=by
 have t1:cell (bu d)=true:=fm hd.cst _
 have t2:cell (iq d)=true:=fm hd.cst _
 have hs: ∀(l:List Int)(k:Nat),aN l=true→(d.st.take k).length+l.length≤32→DataOk {d with st:=d.st.take k++l}:=fun l k h1 h2=>
  ⟨by rw[List.length_append];exact h2,hd.bk,hd.ce,gL (fp hd.cst k) h1,hd.cbk,hd.cce,hd.he,hd.ba,hd.ou⟩
 have hs0: ∀(k:Nat),DataOk {d with st:=d.st.take k}:=fun k=>
  ⟨by have:=hd.st;simp only[List.length_take];omega,hd.bk,hd.ce,fp hd.cst k,hd.cbk,hd.cce,hd.he,hd.ba,hd.ou⟩
 have hst:=hd.st
 have hcv:c=0∨c=1∨c=2∨c=3:=by omega
 rcases hcv with rfl|rfl|rfl|rfl
 ·simp only[mm]
  split
  ·exact⟨hh,hd,by simp,fun h=>by simp at h⟩
  ·split
   ·exact⟨hh,hs0 _,by simp,fun h=>by simp at h⟩
   ·rename_i h1 h2
    refine⟨⟨hh.gr,hh.st,hh.cst,hh.q,hh.cq,hh.tk,by simp;omega,lA hh.cds ?_⟩,hs _ _ (jg (fm hh.cst _)) (by simp;omega),by simp,fun _=>⟨_,rfl,rfl⟩⟩
    have:=fm hh.cst (bu d).toNat
    simp only[fw,t1,this]
    rfl
 ·simp only[mm]
  split
  ·exact⟨hh,hd,by simp,fun h=>by simp at h⟩
  ·split
   ·exact⟨hh,hs0 _,by simp,fun h=>by simp at h⟩
   ·rename_i h1 h2
    refine⟨⟨hh.gr,by simp[hh.st],rX hh.cst t2 _,hh.q,hh.cq,hh.tk,by simp;omega,lA hh.cds ?_⟩,hs0 _,by simp,fun _=>⟨_,rfl,rfl⟩⟩
    simp only[fw,t1,t2]
    rfl
 ·simp only[mm]
  split
  ·exact⟨hh,hd,by simp,fun h=>by simp at h⟩
  ·rename_i h1
   have:=fm hh.cq 0
   refine⟨⟨hh.gr,hh.st,hh.cst,by have:=hh.q;simp;omega,qy hh.cq 1,hh.tk,by simp;omega,lA hh.cds ?_⟩,hs _ _ (jg this) (by simp;omega),by simp,fun _=>⟨_,rfl,rfl⟩⟩
   simp only[fw,t1,this]
   rfl
 ·simp only[mm]
  split
  ·exact⟨hh,hd,by simp,fun h=>by simp at h⟩
  ·rename_i h1
   refine⟨⟨hh.gr,hh.st,hh.cst,hh.q,hh.cq,hh.tk,by simp;omega,lA hh.cds ?_⟩,⟨by simp;omega,hd.bk,hd.ce,gL hd.cst (jg (xu hh.tk)),hd.cbk,hd.cce,hd.he,hd.ba,hd.ou⟩,by simp,fun _=>⟨_,rfl,rfl⟩⟩
   simp only[fw,xu hh.tk]
   rfl
theorem Cw{h:Hst}{d:Dat}{c:Nat}(hg:h.gr.getD c false=false):bC h d c=(h,d,-100):=by
 unfold bC cA
 rw[if_pos hg];rfl
theorem uR{h:Hst}{d:Dat}{c:Nat}(hc:c<4)(hh:HostOk h)(hd:DataOk d)(hg:h.gr.getD c false=true):CallOk h d c (bC h d c)∧((bC h d c).2.2≠0→(bC h d c).1=h):=by
 have hi:CallOk h d c (cA h d c):=by
  unfold cA
  rw[if_neg (by rw[hg];simp)]
  split
  ·exact⟨hh,hd,by simp,fun h=>by simp at h⟩
  ·have:=hh.ds
   exact Cl hc hh hd (by omega)
 unfold bC
 split
 ·rename_i h0
  exact⟨hi,fun h=>absurd h0 h⟩
 ·rename_i h0
  exact⟨⟨hh,hd,hi.no,fun h=>absurd h h0⟩,fun _=>rfl⟩
end Go.Abs

/- The abstract layer: contracts of Go's library whose result is a new slice of strings. -/
noncomputable section
namespace Go.Abs
open Go
theorem zt{w:World}{R:Cells}{ss:List (List UInt8)}{t:TypeId}(hl:ss.length≤cj)(hs: ∀s∈ss,s.length≤cj):
  AR (w.alloc (.cells (ss.map fun s=>Value.string ⟨s.toArray⟩).toArray t)) R aC (.own 0 zS (ss.map mF)) (.slice (some ⟨w.heap.size,0,none⟩) ss.length ss.length) (fun g _=>g=w.heap.size):=by
 have hat:(w.alloc (.cells (ss.map fun s=>Value.string ⟨s.toArray⟩).toArray t)).heap[w.heap.size]? =some (.cells (ss.map fun s=>Value.string ⟨s.toArray⟩).toArray t (0,0)):=by
  show(w.heap.push _)[w.heap.size]? =_
  exact Array.getElem?_push_size
 have e:(ss.map mF).length=ss.length:=List.length_map _
 have h:=AR.own (w:=w.alloc (.cells (ss.map fun s=>Value.string ⟨s.toArray⟩).toArray t)) (R:=R) (loc:=aC) (lvl:=0) (z:=zS) (rows:=ss.map mF) (g:=w.heap.size) (o:=0) (cap:=ss.length) (O:=fun g _=>g=w.heap.size)
  (fun i _=>.string ⟨(ss.getD i []).toArray⟩) (fun _ _=>ae) (by omega)
  ⟨_,t,(0,0),hat,by simp,fun i _ h=>by simp at h,Nat.le_refl _⟩
  ⟨fun row hr=>by obtain⟨s,_,rfl⟩:=List.mem_map.1 hr;rfl,fun row hr x hx=>by
   obtain⟨s,_,rfl⟩:=List.mem_map.1 hr
   simp only[mF,List.mem_singleton]at hx
   subst hx
   rfl⟩
  (fun i j hi hj=>by
   rw[e]at hi
   have hj0:j=0:=by simp at hj;omega
   subst hj0
   simp only[World.cell?,hat]
   simp[hi])
  (fun i j row x h1 h2=>by
   rw[List.getElem?_map]at h1
   obtain⟨s,hs1,rfl⟩:=Option.map_eq_some_iff.1 h1
   match j,h2 with
   |0,h2=>
    simp only[mF,List.getElem?_cons_zero,Option.some.injEq]at h2
    subst h2
    refine .sc ⟨?_,hs s (List.mem_of_getElem? hs1)⟩ ah
    rw[List.getD_eq_getElem?_getD,hs1];rfl)
  (fun g' o'=>⟨fun h=>.inl h,fun h=>h.elim id fun⟨_,_,_,_,k⟩=>k.elim⟩)
  (fun _ _ _ _ _ h=>h) (fun _ _ _ _ _ _ _ _ _=>fun _ _ h=>h.elim)
  (fun _ row hr x hx=>by
   obtain⟨s,_,rfl⟩:=List.mem_map.1 hr
   simp only[mF,List.mem_singleton]at hx
   subst hx
   rfl)
  (fun _ row hr x hx=>by
   obtain⟨s,_,rfl⟩:=List.mem_map.1 hr
   simp only[mF,List.mem_singleton]at hx
   subst hx
   rfl) (by omega)
 rw[e]at h
 exact h
theorem Con.fresh{P:Program}{f:FuncId}{xs:List AV}(ss:List (List UInt8))(ok:wE P f)(hl:ss.length≤cj)(hsl: ∀s∈ss,s.length≤cj)
  (h: ∀(w:World)(vals:List Value),Parts w (fun _ _=>False) aC xs vals ae→Tabs P w ae→Calls P f vals.toArray w fun e w'=>e=.returned (.slice (some ⟨w.heap.size,0,none⟩) ss.length ss.length)∧ ∃t,w'=w.alloc (.cells (ss.map fun s=>Value.string ⟨s.toArray⟩).toArray t))
  (hs: ∀(w:World)(R O:Cells)(vals:List Value),Parts w R aC xs vals O→Parts w (fun _ _=>False) aC xs vals ae∧Emp O):Con P f xs (aa xs) (gA ss):=by
 refine⟨ok,fun w R O vals hp hR hO tb=> ?_⟩
 obtain⟨hp0,hemp⟩:=hs w R O vals hp
 refine(h w vals hp0 fun x hx g hg=>⟨(tb x hx g hg).1,fun _ k=>k⟩).mono fun e w' hb=> ?_
 obtain⟨rfl,t,rfl⟩:=hb
 refine⟨fun g _=>g=w.heap.size,Frame.push w _ O,fun g o k=> ?_,(fun g _=>g=w.heap.size),ae,fun g o=> ?_,fun _ _ _ h=>h,zt hl hsl,?_⟩
 ·subst k
  exact⟨.inr (Nat.le_refl _),by show w.heap.size<(w.heap.push _).size;rw[Array.size_push];omega⟩
 ·simp[ae]
 ·have hl:=(aL _ _ _ hp).1
  have: ∀(l:List AV)(vs:List Value)(w':World)(R':Cells),vs.length=l.length→Parts w' R' aC (aa l) vs ae:=by
   intro l
   induction l with
   |nil=>intro vs w' R' hl;match vs,hl with|[],_=>exact ah
   |cons x l ih=>
    intro vs w' R' hl
    match vs,hl with
    |v::vs,hl=>exact⟨ae,ae,fun g o=>by simp[ae],ah.disj,.sc trivial ah,ih vs w' R' (by simpa using hl)⟩
  exact this xs vals _ _ hl
end Go.Abs

/- Machines, definitions, whole Forths in plain Lean: their rows, sizes, what is valid. No program in sight. -/
noncomputable section
namespace Go.Abs
open Go
structure Mch where
 ws:List Wd
 co:List Int
 da:Dat
 ho:Hst
 ca:List Cal
 ip:Int
 fu:Int
 deriving DecidableEq,Inhabited
def gx(m:Mch):List AV:=[fq m.ws,dL m.co,dL m.da.st,dL m.da.bk,dL m.da.ce,.int .i64 m.da.he,.int .i64 m.da.ba,.str m.da.ou,pE m.ho.gr,dL m.ho.st,dL m.ho.q,.int .i64 m.ho.tk,lC m.ho.ds,od m.ca,.int .i64 m.ip,.int .i64 m.fu]
def aR(m:Mch):AV:=.agg (gx m)
def aY(m:Mch):List AV:=[bO m.ws,aK m.co,aK m.da.st,aK m.da.bk,aK m.da.ce,.int .i64 m.da.he,.int .i64 m.da.ba,.str m.da.ou,aX m.ho.gr,aK m.ho.st,aK m.ho.q,.int .i64 m.ho.tk,aW m.ho.ds,bR m.ca,.int .i64 m.ip,.int .i64 m.fu]
def wA(m:Mch):AV:=.agg (aY m)
structure Df where
 w:Int
 its:List Itm
 deriving DecidableEq,Inhabited
structure Fth where
 m:Mch
 ds:List Df
 co:Bool
 nm:List UInt8
 its:List Itm
 deriving DecidableEq,Inhabited
structure MchLen(m:Mch):Prop where
 ws:m.ws.length≤9223372036854775807
 co:m.co.length≤9223372036854775807
 st:m.da.st.length≤9223372036854775807
 bk:m.da.bk.length≤9223372036854775807
 ce:m.da.ce.length≤9223372036854775807
 ou:m.da.ou.length≤9223372036854775807
 gr:m.ho.gr.length≤9223372036854775807
 hs:m.ho.st.length≤9223372036854775807
 q:m.ho.q.length≤9223372036854775807
 ds:m.ho.ds.length≤9223372036854775807
 ca:m.ca.length≤9223372036854775807
theorem zl{m:Mch}(h: ∀x∈gx m,∀d,x.facts d):MchLen m:=
 ⟨facts_len (h (fq m.ws) (by simp[gx])),facts_len (f:=aj) (z:=zI) (h (dL m.co) (by simp[gx])),facts_len (f:=aj) (z:=zI) (h (dL m.da.st) (by simp[gx])),facts_len (f:=aj) (z:=zI) (h (dL m.da.bk) (by simp[gx])),
  facts_len (f:=aj) (z:=zI) (h (dL m.da.ce) (by simp[gx])),h (.str m.da.ou) (by simp[gx]) 0,facts_len (h (pE m.ho.gr) (by simp[gx])),facts_len (f:=aj) (z:=zI) (h (dL m.ho.st) (by simp[gx])),
  facts_len (f:=aj) (z:=zI) (h (dL m.ho.q) (by simp[gx])),facts_len (h (lC m.ho.ds) (by simp[gx])),facts_len (h (od m.ca) (by simp[gx]))⟩
theorem jm{m:Mch}(h: ∀d,(aR m).facts d):MchLen m:=zl fun x hx d=>h (d+1) x hx
def vU(x:Wd)(l:Int):Int:=if l-x.nm.length<0 then-1 else l-x.nm.length
def vc:List Wd→Int→Int
 |[],l=>l
 |x::r,l=>if vU x l<0 then-1 else vc r (vU x l)
def xf(xs:List Wd)(l:Int):Int:=if l-xs.length<0 then-1 else vc xs (l-xs.length)
theorem zK{xs:List Wd}{i:Nat}{l:Int}(h:i<xs.length):vc (xs.drop i) l=if vU (xs.getD i default) l<0 then-1 else vc (xs.drop (i+1)) (vU (xs.getD i default) l):=by
 rw[List.drop_eq_getElem_cons h]
 have:xs.getD i default=xs[i]:=by simp[h]
 rw[this]
 rfl
theorem Ft(x:Wd)(l:Int)(h:0≤l):vU x l≤l:=by unfold vU;split<;>omega
theorem yg: ∀(xs:List Wd)(l:Int),0≤l→vc xs l≤l
 |[],l,_=>Int.le_refl _
 |x::r,l,h=>by
  rw[vc]
  split
  ·omega
  ·have:=yg r (vU x l) (by omega)
   have:=Ft x l h
   omega
theorem Db{xs:List Wd}{l:Int}(h1:0≤l)(h2:l≤1048576)(h:0≤xf xs l):xf xs l≤l∧xs.length≤1048576:=by
 unfold xf at h⊢
 split at h
 ·omega
 ·rw[if_neg (by assumption)]
  have:=yg xs (l-xs.length) (by omega)
  omega
def kO(fl:Int)(n:Nat)(c:Cal):Bool:=bm c.ip 0 2147483647&&bm c.fl fl n&&bm c.dp 0 31&&(c.ca||decide (c.dp=0))
def ez(n:Nat):Int→List Cal→Bool
 |_,[]=>true
 |fl,c::r=>kO fl n c&&ez n c.fl r
theorem na{n:Nat}{fl:Int}{cs:List Cal}{i:Nat}(h:i<cs.length):ez n fl (cs.drop i)=(kO fl n (cs.getD i default)&&ez n (cs.getD i default).fl (cs.drop (i+1))):=by
 rw[List.drop_eq_getElem_cons h]
 have:cs.getD i default=cs[i]:=by simp[h]
 rw[this]
 rfl
def ly(cs:List Cal):Bool:=decide (cs.length=0)|| !(cs.getD (cs.length-1) default).ca
def dc(n:Nat)(cs:List Cal):Bool:=decide (cs.length≤16)&&ez n 0 cs&&ly cs
def cZ(m:Mch):Bool:=fJ m.ws&&(decide (m.co.length≤400)&&aN m.co)&&eX m.da&&cU m.ho&&dc m.da.bk.length m.ca&&bm m.ip 0 2147483647&&bm m.fu 0 4000
def cT(ws:List Wd)(n:Int):Wd:=ws.getD (n-1).toNat default
def ck(ws:List Wd)(n:Int):Bool:=bm n 1 ws.length&&decide ((cT ws n).k≠3)&&decide ((cT ws n).k≠5)
theorem bv{ws:List Wd}(h:fJ ws=true):ws.take 83=dX∧83≤ws.length∧ws.length≤103:=by
 simp only[fJ,eh,Bool.and_eq_true,decide_eq_true_eq]at h
 exact⟨h.1.2.2,h.1.2.1.1,h.1.1⟩
end Go.Abs

/- Prims in plain Lean: sums of cells. No program in sight. -/
namespace Go.Abs
open Go
def wc(n:Int):Int:=IntKind.i64.wrap (IntKind.i32.wrap n)
theorem yO(n:Int):IntKind.i32.wrap n=if n%4294967296<2147483648 then n%4294967296 else n%4294967296-4294967296:=by
 show(if(true&&decide (n%2 ^ 32≥2 ^ (32-1)))=true then n%2 ^ 32-2 ^ 32 else n%2 ^ 32)=_
 have e:(2:Int) ^ 32=4294967296:=by decide
 have e2:(2:Int) ^ (32-1)=2147483648:=by decide
 simp only[e,e2,Bool.true_and,decide_eq_true_eq]
 split<;>split<;>omega
theorem vA(n:Int): -2147483648≤IntKind.i32.wrap n∧IntKind.i32.wrap n≤2147483647:=by
 rw[yO];split<;>omega
theorem Fm(n:Int):wc n=IntKind.i32.wrap n:=by
 have:=vA n
 exact jo (by simp[dE];omega)
theorem xU(n:Int): -2147483648≤wc n∧wc n≤2147483647:=by rw[Fm];exact vA n
theorem li{a b:Int}(h:a%4294967296=b%4294967296):wc a=wc b:=by rw[Fm,Fm,yO,yO,h]
def ct(a b:Int):Int:=if a.tmod b≠0∧((a<0)≠(b<0))then a.tdiv b-1 else a.tdiv b
theorem sF{a b:Int}:(0≤a→0≤a.tmod b)∧(a<0→a.tmod b≤0):=by
 refine⟨fun h=>Int.tmod_nonneg _ h,fun h=> ?_⟩
 have h2:0≤(-a).tmod b:=Int.tmod_nonneg _ (by omega)
 rw[Int.neg_tmod]at h2
 omega
theorem yo{a b:Int}(h:a.tmod b≠0):((a.tmod b<0)≠(b<0))=((a<0)≠(b<0)):=by
 have:=sF (a:=a) (b:=b)
 have e:(a.tmod b<0)=(a<0):=by
  apply propext
  constructor
  ·intro k
   by_cases ha:a<0
   ·exact ha
   ·have:=this.1 (by omega);omega
  ·intro k
   have:=this.2 k
   omega
 rw[e]
theorem tP{a b:Int}(h:a.tmod b≠0∧((a<0)≠(b<0))):a.tmod b+b=a-ct a b*b:=by
 rw[ct,if_pos h,Int.sub_mul,Int.one_mul]
 have:=Int.mul_tdiv_add_tmod a b
 rw[Int.mul_comm]at this
 omega
theorem nb{a b:Int}(h: ¬(a.tmod b≠0∧((a<0)≠(b<0)))):a.tmod b=a-ct a b*b:=by
 rw[ct,if_neg h]
 have:=Int.mul_tdiv_add_tmod a b
 rw[Int.mul_comm]at this
 omega
theorem mW(a b:Int):(0≤a→ -a≤a.tdiv b∧a.tdiv b≤a)∧(a<0→a≤a.tdiv b∧a.tdiv b≤ -a):=by
 have h:(a.tdiv b).natAbs≤a.natAbs:=by rw[Int.natAbs_tdiv];exact Nat.div_le_self _ _
 omega
theorem yz(n:Int):IntKind.u32.wrap n=n%4294967296:=rfl
theorem pO(n:Int):IntKind.i64.wrap n%4294967296=n%4294967296:=by
 have e:IntKind.i64.wrap n=if(true&&decide (n%2 ^ 64≥2 ^ (64-1)))=true then n%2 ^ 64-2 ^ 64 else n%2 ^ 64:=rfl
 have e1:(2:Int) ^ 64=18446744073709551616:=by decide
 rw[e,e1]
 split<;>omega
theorem C5(n:Int):IntKind.i32.wrap n%4294967296=n%4294967296:=by
 rw[yO];split<;>omega
theorem BH(a:Int)(b:Nat):wc (IntKind.i64.wrap (a*2 ^ b))=wc (IntKind.u32.wrap (IntKind.u32.wrap (IntKind.i32.wrap a)*2 ^ b)):=by
 apply li
 rw[pO,yz,yz,Int.emod_emod_of_dvd _ (by decide),Int.mul_emod (a%4294967296|>fun _=>IntKind.i32.wrap a%4294967296),Int.emod_emod_of_dvd _ (by decide),C5,←Int.mul_emod]
theorem DM(n:Int):IntKind.u64.wrap n%4294967296=n%4294967296:=by
 have e:IntKind.u64.wrap n=n%18446744073709551616:=rfl
 rw[e];omega
theorem Eb(n:Int):IntKind.u32.wrap n%4294967296=n%4294967296:=by rw[yz];omega
theorem Kj(n:Int):wc (IntKind.u32.wrap (IntKind.u64.wrap n))=wc n:=li (by rw[Eb,DM])
def me(f:BitVec 64→BitVec 64→BitVec 64)(a b:Int):Int:=IntKind.i64.wrap ((f (BitVec.ofInt 64 a) (BitVec.ofInt 64 b)).toNat:Int)
def wH(n:Int):Int:=IntKind.i64.wrap (IntKind.u32.wrap (IntKind.i32.wrap n))
def gi(op:Nat)(a b:Int):Option Int:=match op with
 |1=>some (wc (a+b))
 |2=>some (wc (a-b))
 |3=>some (wc (a*b))
 |4=>if b=0 then none else some (wc (ct a b))
 |5=>if b=0 then none else some (a-ct a b*b)
 |6=>some (me (· &&& ·) a b)
 |7=>some (me (· ||| ·) a b)
 |8=>some (me (· ^^^ ·) a b)
 |9=>some (if bm b 0 31=true then wc (a*2 ^ b.toNat)else 0)
 |_=>some (if bm b 0 31=true then wc ((wH a).fdiv (2 ^ b.toNat))else 0)
def ku(b:Bool):Int:=if b=true then-1 else 0
def aP(p:Nat)(b c:Int):Int:=match p with
 |25=>wc (-c)
 |26=>wc (max c (-c))
 |27=> -c-1
 |28=>wc (c+1)
 |29=>wc (c-1)
 |30=>min b c
 |31=>max b c
 |32=>ku (decide (b=c))
 |33=>ku (!decide (b=c))
 |34=>ku (decide (b<c))
 |35=>ku (decide (c<b))
 |36=>ku (decide (wH b<wH c))
 |37=>ku (decide (c=0))
 |_=>ku (decide (c<0))
def bK(p:Nat):Nat:=[1,1,2,2,3,2,2,1,2,2,0,1,0,0,2,2,2,2,2,2,2,2,2,2,1,1,1,1,1,2,2,2,2,2,2,2,1,1,1,2,2,0,1,1,1,1,0,0,0,0,0,0].getD (p-1) 0
def dZ(p:Nat):Nat:=match p with
 |13=>1
 |14=>1
 |51=>1
 |52=>2
 |_=>0
def eK(d:Dat)(r l:List Int):Dat × Int:=if 32<r.length+l.length then({d with st:=r},-3)else({d with st:=r++l},0)
def bX(d:Dat)(a:Int):Option Nat:=if bm a 4096 (4096+4*d.he-1)=true∧a.tmod 4=0 then some ((a-4096).tdiv 4).toNat else none
def qX(ce:List Int)(a b:Int):List Int:=ce.take a.toNat++List.replicate (b-a).toNat 0++ce.drop (max a.toNat b.toNat)
def aM(d:Dat)(n:Int):Dat × Int:=if n.tmod 4≠0∨bm (d.he+n.tdiv 4) 0 32=false then(d,-8)else({d with ce:=qX d.ce d.he (d.he+n.tdiv 4),he:=d.he+n.tdiv 4},0)
def cC(d:Dat)(t:List UInt8):Dat × Int:=if 300<d.ou.length+t.length then(d,-17)else({d with ou:=d.ou++t},0)
def bZ(d:Dat)(a n:Int):Dat × Int:=match bX d a with
 |none=>(d,-9)
 |some k=>({d with ce:=d.ce.set k n},0)
def ap(txt:Int→Int→List UInt8)(p:Nat)(d:Dat)(r:List Int)(a b c:Int):Dat × Int:=match p with
 |1=>eK d r [c,c]
 |2=>({d with st:=r},0)
 |3=>eK d r [c,b]
 |4=>eK d r [b,c,b]
 |5=>eK d r [b,c,a]
 |6=>eK d r [c]
 |7=>eK d r [c,b,c]
 |8=>if c=0 then eK d r [0]else eK d r [c,c]
 |9=>eK d r [b,c,b,c]
 |10=>({d with st:=r},0)
 |11=>eK d r [(r.length:Int)]
 |12=>if d.bk.length=32 then({d with st:=r},-5)else({d with st:=r,bk:=d.bk++[c]},0)
 |13=>eK {d with bk:=d.bk.take (d.bk.length-1)} r [d.bk.getD (d.bk.length-1) 0]
 |14=>eK d r [d.bk.getD (d.bk.length-1) 0]
 |39=>match bX d c with
  |none=>({d with st:=r},-9)
  |some k=>eK d r [d.ce.getD k 0]
 |40=>bZ {d with st:=r} c b
 |41=>match bX d c with
  |none=>({d with st:=r},-9)
  |some k=>({d with st:=r,ce:=d.ce.set k (wc (d.ce.getD k 0+b))},0)
 |42=>eK d r [4096+4*d.he]
 |43=>aM {d with st:=r} c
 |44=>match aM {d with st:=r} 4 with
  |(x,th)=>if th≠0 then(x,th)else bZ x (4096+4*d.he) c
 |45=>cC {d with st:=r} [UInt8.ofNat (c%256).toNat]
 |46=>cC {d with st:=r} (txt c d.ba++[32])
 |47=>cC {d with st:=r} [10]
 |48=>cC {d with st:=r} [32]
 |49=>({d with st:=r,ba:=10},0)
 |50=>({d with st:=r,ba:=16},0)
 |51=>eK d r [d.bk.getD (d.bk.length-1) 0]
 |52=>({d with st:=r,bk:=d.bk.take (d.bk.length-2)},0)
 |p=>if p≤24 then(match gi (p-14) b c with
  |none=>({d with st:=r},-10)
  |some v=>eK d r [v])else eK d r [aP p b c]
def ew(txt:Int→Int→List UInt8)(p:Nat)(fl:Int)(d:Dat):Dat × Int:=
 if d.st.length<bK p then(d,-4)else if(d.bk.length:Int)-fl<dZ p then(d,-6)
 else ap txt p d (d.st.take (d.st.length-bK p)) (d.st.getD (d.st.length-3) 0) (d.st.getD (d.st.length-2) 0) (d.st.getD (d.st.length-1) 0)
def eE(txt:Int→Int→List UInt8)(p:Nat)(fl:Int)(d:Dat):Dat × Int:=if(ew txt p fl d).2=0 then ew txt p fl d else(d,(ew txt p fl d).2)
def cf(op:Nat)(a b:Int):Int × Bool:=match gi op a b with
 |none=>(0,false)
 |some v=>(v,true)
end Go.Abs

/- Contracts from calls that leave all as it was below the heap's end. -/
noncomputable section
namespace Go.Abs
open Go Go.RowKit
theorem Frame.of_below{w w':World}(h:Below w.heap.size w w'):Frame w w' ae:=by
 refine⟨h.size,fun g n hb=> ?_,fun g o hg _=> ?_,fun g hg=> ?_,fun g hg _=>h.block g hg,fun g hg _=>h.block g hg,h.os,h.tape,h.output⟩
 ·have hlt:=hb.lt
  obtain⟨c,e,fz,h1,r⟩:=hb
  exact⟨c,e,fz,(h.block g hlt).trans h1,r⟩
 ·simp only[World.cell?,h.block g hg]
 ·simp only[World.shape?,h.block g hg]
theorem Con.scalB{P:Program}{f:FuncId}{xs:List AV}{res:AV}(ok:wE P f)
  (h: ∀(w:World)(vals:List Value),Parts w (fun _ _=>False) aC xs vals ae→Tabs P w ae→Calls P f vals.toArray w fun e w'=> ∃v,e=.returned v∧SR res v∧Below w.heap.size w w')
  (hs: ∀(w:World)(R O:Cells)(vals:List Value),Parts w R aC xs vals O→Parts w (fun _ _=>False) aC xs vals ae∧Emp O):Con P f xs (aa xs) res:=by
 refine⟨ok,fun w R O vals hp hR hO tb=> ?_⟩
 obtain⟨hp0,hemp⟩:=hs w R O vals hp
 refine(h w vals hp0 fun x hx g hg=>⟨(tb x hx g hg).1,fun _ k=>k⟩).mono fun e w' hb=> ?_
 obtain⟨v,rfl,hv,hw⟩:=hb
 refine⟨ae,(Frame.of_below hw).weak fun _ _ k=>k.elim,fun _ _ k=>k.elim,ae,ae,fun g o=>by simp[ae],ah.disj,.sc hv ah,?_⟩
 have hl:=(aL _ _ _ hp).1
 have: ∀(l:List AV)(vs:List Value)(w':World)(R':Cells),vs.length=l.length→Parts w' R' aC (aa l) vs ae:=by
  intro l
  induction l with
  |nil=>intro vs w' R' hl;match vs,hl with|[],_=>exact ah
  |cons x l ih=>
   intro vs w' R' hl
   match vs,hl with
   |v::vs,hl=>exact⟨ae,ae,fun g o=>by simp[ae],ah.disj,.sc trivial ah,ih vs w' R' (by simpa using hl)⟩
 exact this xs vals _ _ hl
theorem tW{w w':World}{R R' O:Cells}{loc loc':bG}{x:AV}{v:Value}(hx:x.flat=true)(h:AR w R loc x v O):AR w' R' loc' x v ae∧Emp O:=by
 cases h with
 |sc h e=>exact⟨.sc h ah,e⟩
 |_=>simp[AV.flat]at hx
theorem eJ{w:World}{R R':Cells}: ∀(l:List AV)(vals:List Value)(O:Cells),l.all AV.flat=true→Parts w R aC l vals O→Parts w R' aC l vals ae∧Emp O
 |[],[],O,_,h=>⟨ah,h⟩
 |[],_::_,_,_,h=>h.elim
 |_::_,[],_,_,h=>h.elim
 |x::l,v::vs,O,hf,h=>by
  simp only[List.all_cons,Bool.and_eq_true]at hf
  obtain⟨O1,O2,hO,hd,hx,hp⟩:=h
  obtain⟨h1,e1⟩:=tW (w':=w) (R':=R') (loc':=aC) hf.1 hx
  obtain⟨h2,e2⟩:=eJ l vs O2 hf.2 hp
  exact⟨⟨ae,ae,fun g o=>by simp[ae],ah.disj,h1,h2⟩,fun g o k=>((hO g o).1 k).elim (e1 g o) (e2 g o)⟩
end Go.Abs

/- Machines that run, in plain Lean. No program in sight. -/
noncomputable section
namespace Go.Abs
open Go
def cp(m:Mch):Cal:=m.ca.getD (m.ca.length-1) default
def bJ(m:Mch):Int:=if m.ca.length=0 then 0 else(cp m).fl
def dV(m:Mch)(x:Int):Mch × Int:=if x<0 then(m,-24)else({m with ip:=x},0)
def dropC(m:Mch):Mch:={m with ip:=(cp m).ip,ca:=m.ca.take (m.ca.length-1)}
def cP(m:Mch):Mch:={m with da:={m.da with st:=m.da.st.take (m.da.st.length-1)}}
def nextM(m:Mch):Mch:={m with ip:=m.ip+1}
def bn(m:Mch)(n:Int):Mch × Int:=({m with da:=(fD m.da n).1},(fD m.da n).2)
def lu(s d e:Int):Bool:=(decide (0≤s)&&decide (d<0)&&decide (0≤e))||(decide (s<0)&&decide (0≤d)&&decide (e<0))
def pH(m:Mch):Int:=m.da.bk.getD (m.da.bk.length-2) 0
def kL(m:Mch):Int:=m.da.bk.getD (m.da.bk.length-1) 0
def dm(m:Mch)(s x:Int):Mch × Int:=
 if(m.da.bk.length:Int)-bJ m<2 then(m,-6)
 else if lu s (wc (kL m-pH m)) (wc (wc (kL m-pH m)+s))=true then({m with da:={m.da with bk:=m.da.bk.take (m.da.bk.length-2)}},0)
 else dV {m with da:={m.da with bk:=m.da.bk.set (m.da.bk.length-1) (wc (kL m+s))}} x
def we(m:Mch):Mch × Int:=
 if m.da.st.length<2 then(m,-4)else if 32<m.da.bk.length+2 then(m,-5)
 else({m with da:={m.da with st:=m.da.st.take (m.da.st.length-2),bk:=m.da.bk++m.da.st.drop (m.da.st.length-2)}},0)
def dv(m0 m:Mch)(x k:Int):Mch × Int:=
 if k=1 then bn m x else if k=2 then dV m x else if k=5 then dm m 1 x
 else if m.da.st.length=0 then(m0,-4)
 else if k=6 then dm (cP m) (bu m.da) x
 else if bu m.da≠0 then(cP m,0)else dV (cP m) x
def fO(b:Bool)(m:Mch)(k:Int):Mch × Int:=
 if k=4 then we m else if(m.co.length:Int)≤m.ip then(m,-24)
 else dv (if b=true then nextM m else m) (nextM m) (m.co.getD m.ip.toNat 0) k
def sf(m:Mch):Mch × Int:=
 if m.ca.length=0 then(m,-14)else if(cp m).ca=true then(m,-14)else if(m.da.bk.length:Int)≠(cp m).fl then(m,-25)else(dropC m,0)
def hJ(ex:Mch→Int→Mch × Int)(m:Mch)(v:Int):Mch × Int:=
 if v=1 then sf m
 else if m.da.st.length=0 then(m,-4)
 else if v=4 then(if bu m.da=0 then(cP m,0)else if bu m.da= -101 then(m,-24)else(m,bu m.da))
 else if ck m.ws (bu m.da)=false then(m,-24)
 else if v=3 then(if m.ca.length=16 then(cP m,-50)else ex {cP m with ca:=m.ca++[⟨m.ip,m.da.bk.length,(m.da.st.length:Int)-1,true⟩]} (bu m.da))
 else ex (cP m) (bu m.da)
def vp(m:Mch)(v:Int):Mch × Int:=if m.ca.length=16 then(m,-50)else({m with ca:=m.ca++[⟨m.ip,m.da.bk.length,0,false⟩],ip:=v},0)
def sn(m:Mch)(v:Int):Mch × Int:=
 ({m with ho:=(bC m.ho m.da (v-1).toNat).1,da:=(bC m.ho m.da (v-1).toNat).2.1},(bC m.ho m.da (v-1).toNat).2.2)
def sj(txt:Int→Int→List UInt8)(m:Mch)(v:Int):Mch × Int:=
 ({m with da:=(eE txt v.toNat (bJ m) m.da).1},(eE txt v.toNat (bJ m) m.da).2)
def oZ(txt:Int→Int→List UInt8)(b:Bool)(ex:Mch→Int→Mch × Int)(m:Mch)(w:Wd):Mch × Int:=
 if w.k=5 then(m,-24)else if w.k=1 then sj txt m w.v else if w.k=4 then sn m w.v else if w.k=7∨w.k=8 then bn m w.v
 else if w.k=6 then vp m w.v else if w.k=2 then hJ ex m w.v else fO b m w.v
def rg(txt:Int→Int→List UInt8)(b:Bool)(ex:Mch→Int→Mch × Int)(m:Mch)(n:Int):Mch × Int:=
 if bm n 1 m.ws.length=false then(m,-24)else oZ txt b ex m (cT m.ws n)
def dU(txt:Int→Int→List UInt8)(b:Bool):Nat→Mch→Int→Mch × Int
 |0,m,_=>(m,-101)
 |f+1,m,n=>rg txt b (dU txt b f) {m with fu:=m.fu-1} n
def eG(cs:List Cal):Nat→Int
 |0=> -1
 |n+1=>if(cs.getD n default).ca=true then n else eG cs n
def mU(st:List Int)(n:Int):List Int:=st.take n.toNat++List.replicate (n.toNat-st.length) 0
def sD(m:Mch):Cal:=m.ca.getD (eG m.ca m.ca.length).toNat default
def bP(m:Mch)(t:Int):Mch × Int:=
 if t= -101∨eG m.ca m.ca.length<0 then({m with ca:=[],ip:=0},t)
 else({m with ca:=m.ca.take (eG m.ca m.ca.length).toNat,ip:=(sD m).ip,da:={m.da with st:=mU m.da.st (sD m).dp++[t],bk:=m.da.bk.take (sD m).fl.toNat}},0)
def bW:Nat→Mch→Mch × Int
 |0,m=>(m,0)
 |k+1,m=>
  if m.ca.length=0 then(m,0)else if(cp m).ca=false then(m,0)
  else if(bn (dropC m) 0).2=0 then bW k (bn (dropC m) 0).1
  else if(bP (bn (dropC m) 0).1 (bn (dropC m) 0).2).2=0 then bW k (bP (bn (dropC m) 0).1 (bn (dropC m) 0).2).1
  else bP (bn (dropC m) 0).1 (bn (dropC m) 0).2
def eD(r:Mch × Int):Mch × Int:=
 if r.2=0 then bW r.1.ca.length r.1
 else if(bP r.1 r.2).2=0 then bW (bP r.1 r.2).1.ca.length (bP r.1 r.2).1 else bP r.1 r.2
def dj(txt:Int→Int→List UInt8)(b:Bool)(m:Mch)(n:Int):Mch × Int:=eD (dU txt b m.fu.toNat m n)
def dS(txt:Int→Int→List UInt8)(b:Bool)(m:Mch):Mch × Int:=
 if(m.co.length:Int)≤m.ip then dj txt b m 0 else dj txt b (nextM m) (m.co.getD m.ip.toNat 0)
def Ad(r q:Mch × Int):Prop:=r=q∨(r.2=q.2∧r.2≠0∧ ∃i,r.1={q.1 with ip:=i})
theorem Cs(m:Mch)(t i:Int)(ht:t≠0):bP {m with ip:=i} t=bP m t:=by
 unfold bP sD
 split<;>rfl
theorem zu{r q:Mch × Int}(h:Ad r q):eD r=eD q:=by
 rcases h with rfl|⟨h1,h2,i,h3⟩
 ·rfl
 ·obtain⟨m1,t⟩:=r
  obtain⟨m2,u⟩:=q
  obtain rfl:t=u:=h1
  obtain rfl:m1={m2 with ip:=i}:=h3
  have e:=Cs m2 t i h2
  unfold eD
  simp only[e]
  rw[if_neg h2,if_neg h2]
theorem wR(m:Mch)(k:Int):Ad (fO true m k) (fO false m k):=by
 unfold fO dv
 simp only[if_true,Bool.false_eq_true,if_false]
 repeat' split
 all_goals first
  |exact .inl rfl
  |exact .inr ⟨rfl,show(-4:Int)≠0 by decide,_,rfl⟩
theorem zn{e1 e2:Mch→Int→Mch × Int}(h: ∀m n,Ad (e1 m n) (e2 m n))(m:Mch)(v:Int):Ad (hJ e1 m v) (hJ e2 m v):=by
 unfold hJ
 repeat' split
 all_goals first|exact .inl rfl|exact h _ _
theorem sC(txt:Int→Int→List UInt8): ∀(f:Nat)(m:Mch)(n:Int),Ad (dU txt true f m n) (dU txt false f m n)
 |0,m,n=>.inl rfl
 |f+1,m,n=>by
  simp only[dU,rg]
  split
  ·exact .inl rfl
  ·unfold oZ
   repeat' split
   all_goals first|exact .inl rfl|exact zn (sC txt f) _ _|exact wR _ _
theorem oE(txt:Int→Int→List UInt8)(m:Mch)(n:Int):dj txt true m n=dj txt false m n:=zu (sC txt _ m n)
theorem rR(txt:Int→Int→List UInt8)(m:Mch):dS txt true m=dS txt false m:=by
 unfold dS
 split<;>exact oE ..
end Go.Abs

/- What holds of a machine that runs: plain Lean. -/
noncomputable section
namespace Go.Abs
open Go
def mf(n:Int)(w:Wd):Bool:=
 (decide (w.k=1)&&bm w.v 1 52&&decide (n=w.v))||(decide (w.k=2)&&bm w.v 1 4&&decide (n=w.v+52))||(decide (w.k=3)&&bm w.v 1 6&&decide (n=w.v+56))||
 (decide (w.k=4)&&bm w.v 1 4)||decide (w.k=5)||(decide (w.k=6)&&bm w.v 0 399)||((decide (w.k=7)||decide (w.k=8))&&cell w.v)
theorem C7: ∀i<83,mf ((i:Nat)+1) (dX.getD i default)=true:=by decide+kernel
theorem zN{x:Wd}(h:cw x=true)(n:Int):mf n x=true:=by
 unfold cw at h
 unfold mf
 split at h
 ·rename_i e
  simp only[Bool.and_eq_true]at h
  rw[e,h.2];simp
 ·split at h
  ·rename_i e
   simp only[bm,Bool.and_eq_true,decide_eq_true_eq]at h
   rw[e]
   simp[cell,bm];omega
  ·simp only[Bool.and_eq_true,decide_eq_true_eq]at h
   rw[h.1.1,h.2];simp
theorem sS{ws:List Wd}(h:fJ ws=true){n:Int}(hn:bm n 1 ws.length=true):mf n (cT ws n)=true:=by
 obtain⟨h1,h2,h3⟩:=bv h
 have hn2:1≤n∧n≤ws.length:=by simpa[bm]using hn
 unfold cT
 by_cases hl:n≤83
 ·have e:ws.getD (n-1).toNat default=dX.getD (n-1).toNat default:=by
   rw[←h1,List.getD_eq_getElem?_getD,List.getD_eq_getElem?_getD,List.getElem?_take_of_lt (by omega)]
  rw[e]
  have:=C7 (n-1).toNat (by omega)
  rwa [show((n-1).toNat:Int)+1=n by omega]at this
 ·have hs:(ws.drop 83).all cw=true:=by
   simp only[fJ,Bool.and_eq_true]at h;exact h.2
  rw[List.all_eq_true]at hs
  apply zN
  apply hs
  rw[List.mem_iff_getElem?]
  refine⟨(n-1).toNat-83,?_⟩
  rw[List.getElem?_drop,show 83+((n-1).toNat-83)=(n-1).toNat by omega,List.getD_eq_getElem?_getD]
  have:(n-1).toNat<ws.length:=by omega
  rw[List.getElem?_eq_getElem this];rfl
structure CallIn(n:Nat)(c:Cal):Prop where
 ip:0≤c.ip∧c.ip≤2147483647
 fl:0≤c.fl∧c.fl≤n
 dp:0≤c.dp∧c.dp≤31
 ca:c.ca=true∨c.dp=0
theorem ww{fl:Int}{n:Nat}{c:Cal}(h0:0≤fl):kO fl n c=true↔CallIn n c∧fl≤c.fl:=by
 simp only[kO,bm,Bool.and_eq_true,Bool.or_eq_true,decide_eq_true_eq]
 constructor
 ·rintro ⟨⟨⟨h1,h2⟩,h3⟩,h4⟩
  exact⟨⟨h1,⟨by omega,h2.2⟩,h3,h4⟩,h2.1⟩
 ·rintro ⟨⟨h1,h2,h3,h4⟩,h5⟩
  exact⟨⟨⟨h1,h5,h2.2⟩,h3⟩,h4⟩
theorem ky(n:Nat): ∀(fl:Int)(cs:List Cal),0≤fl→(ez n fl cs=true↔(∀c∈cs,CallIn n c∧fl≤c.fl)∧cs.Pairwise fun a b=>a.fl≤b.fl)
 |fl,[],_=>by simp[ez]
 |fl,c::r,h0=>by
  simp only[ez,Bool.and_eq_true,ww h0,List.mem_cons,List.pairwise_cons]
  constructor
  ·rintro ⟨⟨h1,h2⟩,h3⟩
   have k:=(ky n c.fl r h1.fl.1).1 h3
   refine⟨?_,fun a ha=>(k.1 a ha).2,k.2⟩
   rintro a (rfl|ha)
   ·exact⟨h1,h2⟩
   ·exact⟨(k.1 a ha).1,Int.le_trans h2 (k.1 a ha).2⟩
  ·rintro ⟨h1,h2,h3⟩
   have k:=h1 c (.inl rfl)
   exact⟨k,(ky n c.fl r k.1.fl.1).2 ⟨fun a ha=>⟨(h1 a (.inr ha)).1,h2 a ha⟩,h3⟩⟩
structure MI(m:Mch):Prop where
 ws:fJ m.ws=true
 co:m.co.length≤400
 cc:aN m.co=true
 da:DataOk m.da
 ho:HostOk m.ho
 cl:m.ca.length≤16
 ci: ∀c∈m.ca,CallIn m.da.bk.length c
 pw:m.ca.Pairwise fun a b=>a.fl≤b.fl
 ip:0≤m.ip∧m.ip≤2147483647
 fu:0≤m.fu∧m.fu≤4000
theorem fW(m:Mch):cZ m=true↔MI m∧ly m.ca=true:=by
 simp only[cZ,dc,Bool.and_eq_true,decide_eq_true_eq,bm,gQ,gZ,ky _ 0 m.ca (Int.le_refl 0)]
 constructor
 ·rintro ⟨⟨⟨⟨⟨⟨h1,h2,h3⟩,h4⟩,h5⟩,⟨⟨h6,h7,h8⟩,h9⟩⟩,h10⟩,h11⟩
  exact⟨⟨h1,h2,h3,h4,h5,h6,fun c hc=>(h7 c hc).1,h8,h10,h11⟩,h9⟩
 ·rintro ⟨⟨h1,h2,h3,h4,h5,h6,h7,h8,h10,h11⟩,h9⟩
  exact⟨⟨⟨⟨⟨⟨h1,h2,h3⟩,h4⟩,h5⟩,⟨⟨h6,fun c hc=>⟨h7 c hc,(h7 c hc).fl.1⟩,h8⟩,h9⟩⟩,h10⟩,h11⟩
theorem vB{m:Mch}(h:m.ca.length≠0):cp m∈m.ca:=by
 unfold cp
 have hl:m.ca.length-1<m.ca.length:=by omega
 rw[List.getD_eq_getElem?_getD,List.getElem?_eq_getElem hl]
 exact List.getElem_mem hl
theorem MI.le_floor{m:Mch}(h:MI m){c:Cal}(hc:c∈m.ca):c.fl≤bJ m:=by
 have h0:m.ca.length≠0:=by intro h0;rw[List.length_eq_zero_iff]at h0;rw[h0]at hc;cases hc
 have hl:m.ca.length-1<m.ca.length:=by omega
 unfold bJ
 rw[if_neg h0]
 obtain⟨i,hi,rfl⟩:=List.mem_iff_getElem.1 hc
 have e:cp m=m.ca[m.ca.length-1]:=by
  unfold cp
  rw[List.getD_eq_getElem?_getD,List.getElem?_eq_getElem hl];rfl
 rw[e]
 by_cases he:i=m.ca.length-1
 ·subst he;exact Int.le_refl _
 ·exact List.pairwise_iff_getElem.1 h.pw i (m.ca.length-1) hi hl (by omega)
theorem MI.floor{m:Mch}(h:MI m):0≤bJ m∧bJ m≤m.da.bk.length:=by
 by_cases h0:m.ca.length=0
 ·unfold bJ
  rw[if_pos h0]
  exact⟨Int.le_refl 0,Int.natCast_nonneg _⟩
 ·have:=(h.ci _ (vB h0)).fl
  unfold bJ
  rw[if_neg h0]
  exact this
theorem MI.setD{m:Mch}(h:MI m){d:Dat}(hd:DataOk d)(hf:bJ m≤d.bk.length):MI {m with da:=d}:=
 ⟨h.ws,h.co,h.cc,hd,h.ho,h.cl,fun c hc=>⟨(h.ci c hc).ip,⟨(h.ci c hc).fl.1,Int.le_trans (h.le_floor hc) hf⟩,(h.ci c hc).dp,(h.ci c hc).ca⟩,h.pw,h.ip,h.fu⟩
theorem MI.setIp{m:Mch}(h:MI m){i:Int}(hi:0≤i∧i≤2147483647):MI {m with ip:=i}:=⟨h.ws,h.co,h.cc,h.da,h.ho,h.cl,h.ci,h.pw,hi,h.fu⟩
theorem MI.setFu{m:Mch}(h:MI m){i:Int}(hi:0≤i∧i≤4000):MI {m with fu:=i}:=⟨h.ws,h.co,h.cc,h.da,h.ho,h.cl,h.ci,h.pw,h.ip,hi⟩
theorem MI.setH{m:Mch}(h:MI m){x:Hst}(hx:HostOk x):MI {m with ho:=x}:=⟨h.ws,h.co,h.cc,h.da,hx,h.cl,h.ci,h.pw,h.ip,h.fu⟩
theorem MI.takeC{m:Mch}(h:MI m)(k:Nat):MI {m with ca:=m.ca.take k}:=
 ⟨h.ws,h.co,h.cc,h.da,h.ho,by have:=h.cl;simp only[List.length_take];omega,fun c hc=>h.ci c (List.mem_of_mem_take hc),h.pw.sublist (List.take_sublist k m.ca),h.ip,h.fu⟩
theorem MI.addC{m:Mch}(h:MI m){c:Cal}(hl:m.ca.length<16)(hc:CallIn m.da.bk.length c)(hf:bJ m≤c.fl):MI {m with ca:=m.ca++[c]}:=
 ⟨h.ws,h.co,h.cc,h.da,h.ho,by simp only[List.length_append,List.length_singleton];omega,fun x hx=>by
  rcases List.mem_append.1 hx with hx|hx
  ·exact h.ci x hx
  ·rw[List.mem_singleton.1 hx];exact hc,by
  rw[List.pairwise_append]
  exact⟨h.pw,List.pairwise_singleton _ _,fun a ha b hb=>by rw[List.mem_singleton.1 hb];exact Int.le_trans (h.le_floor ha) hf⟩,h.ip,h.fu⟩
theorem MI.dropC{m:Mch}(h:MI m)(h0:m.ca.length≠0):MI (dropC m):=(h.takeC _).setIp (h.ci _ (vB h0)).ip
theorem Lm(n:Int):cell (wc n)=true:=by
 have:=xU n
 simp[cell,bm];omega
theorem MI.nextM{m:Mch}(h:MI m)(hn:m.ip<m.co.length):MI (nextM m):=h.setIp ⟨by have:=h.ip;omega,by have:=h.co;omega⟩
end Go.Abs

noncomputable section
namespace Go.Abs
open Go
class CC(f:Nat) where
 p:Prop
 h:p
section
variable{P:Program}
theorem qf{f:FuncId}[c:CC f]{xs:List AV}{K:AV→Prop}{res:AV}(h:c.p→Con P f xs (aa xs) res)(k:K res):CallG P f xs K:=⟨res,h c.h,k⟩
theorem eo{f:FuncId}{xs ys os:List AV}{K:List AV→AV→Prop}{res:AV}(h:Con P f ys os res)(k:K os res)(e:xs=ys:=by
 repeat' (first
  |(refine ak ?_;simp[bj];done)
  |exact be _ _ _ _
  |apply bg|apply bU|apply bE|apply bB|apply cr|apply cH|apply bT|rfl)):CallPG P f xs K:=bz e h k
end
structure Kept(Q:Prop):Prop where
 x:Q
theorem aO{P Q:Prop}(q:Q)(h:Kept Q→P:=by
 intro q
 (first
  |(guard_target=~ RqS _ _;(first
   |refine ac rfl ?_
   |refine ac (by solve|simp only[bj]|fail) ?_
   |refine ac (by refine aU rfl ?_;simp only[cB];omega) ?_
   |refine ac (by simp only[Bool.and_eq_true,cB];omega) ?_
   |refine ac (by solve|simp|fail) ?_
   |refine ac (by simp;omega) ?_
   |refine ac (by simp[ao,AV.plain,am];omega) ?_
   |refine ac (by rw[w2];first|exact decide_eq_true (by omega)|(rw[List.length_map];first|exact decide_eq_true (by omega)|(simp;omega))) ?_);conv=>whnf)
  |(refine aG (fun hf=> ?_);conv=>whnf)
  |(apply aB;conv=>whnf)
  |(guard_target=~ BrS _ _ _;(first
   |refine bL rfl ?_|refine aJ rfl ?_|refine bL (by assumption) ?_|refine aJ (by assumption) ?_
   |refine bL (by refine decide_eq_true ?_;(try simp only[List.length_map]);omega) ?_
   |refine aJ (by refine decide_eq_false ?_;(try simp only[List.length_map]);omega) ?_);conv=>whnf)
  |(guard_target=~ ChkS _ _;refine ChkS.mk (by kernel_rfl) ?_;conv=>whnf)
  |(guard_target=~ CallG _ _ _ _;(first
   |refine ag (k1 ..) ?_|refine ag (k2 ..) ?_|refine ag (k3 ..) ?_|refine ag (k4 ..) ?_|refine ag (k5 ..) ?_|refine ag (kt ..) ?_|refine ag (kk ..) ?_|refine ag (kc ..) ?_|refine ag (kf ..) ?_|refine ag (kp ..) ?_|refine ag (k ..) ?_
   |refine qf (fun h=>by apply h<;>first|assumption|omega) ?_);conv=>whnf)
  |(guard_target=~ RowsG _ _;(first
   |refine af (HS hs w2) ?_|refine af (AM hs w2) ?_|refine af (Bx hs w2) ?_|refine af (Ew hs w2) ?_|refine af (show _=z3 from rfl) ?_
   |refine af (ak (by solve|simp[bj]|fail)) ?_
   |refine af (be _ _ _ _) ?_
   |refine af rfl ?_);conv=>whnf)
  |(guard_target=~ RowG _ _;(first
   |refine aH (by(try simp only[Nat.zero_add,List.length_map]);exact ra _) ?_
   |refine aH (by(try simp only[Nat.zero_add,List.length_map]);exact rb _) ?_
   |refine aH rfl ?_);conv=>whnf)
  |(refine cg ?_;conv=>whnf))
 repeat (first
  |(guard_target=~ RqS _ _;(first
   |refine ac rfl ?_
   |refine ac (by solve|simp only[bj]|fail) ?_
   |refine ac (by refine aU rfl ?_;simp only[cB];omega) ?_
   |refine ac (by simp only[Bool.and_eq_true,cB];omega) ?_
   |refine ac (by solve|simp|fail) ?_
   |refine ac (by simp;omega) ?_
   |refine ac (by simp[ao,AV.plain,am];omega) ?_
   |refine ac (by rw[w2];first|exact decide_eq_true (by omega)|(rw[List.length_map];first|exact decide_eq_true (by omega)|(simp;omega))) ?_);conv=>whnf)
  |(refine aG (fun hf=> ?_);conv=>whnf)
  |(apply aB;conv=>whnf)
  |(guard_target=~ BrS _ _ _;(first
   |refine bL rfl ?_|refine aJ rfl ?_|refine bL (by assumption) ?_|refine aJ (by assumption) ?_
   |refine bL (by refine decide_eq_true ?_;(try simp only[List.length_map]);omega) ?_
   |refine aJ (by refine decide_eq_false ?_;(try simp only[List.length_map]);omega) ?_);conv=>whnf)
  |(guard_target=~ ChkS _ _;refine ChkS.mk (by kernel_rfl) ?_;conv=>whnf)
  |(guard_target=~ CallG _ _ _ _;(first
   |refine ag (k1 ..) ?_|refine ag (k2 ..) ?_|refine ag (k3 ..) ?_|refine ag (k4 ..) ?_|refine ag (k5 ..) ?_|refine ag (kt ..) ?_|refine ag (kk ..) ?_|refine ag (kc ..) ?_|refine ag (kf ..) ?_|refine ag (kp ..) ?_|refine ag (k ..) ?_
   |refine qf (fun h=>by apply h<;>first|assumption|omega) ?_);conv=>whnf)
  |(guard_target=~ RowsG _ _;(first
   |refine af (HS hs w2) ?_|refine af (AM hs w2) ?_|refine af (Bx hs w2) ?_|refine af (Ew hs w2) ?_|refine af (show _=z3 from rfl) ?_
   |refine af (ak (by solve|simp[bj]|fail)) ?_
   |refine af (be _ _ _ _) ?_
   |refine af rfl ?_);conv=>whnf)
  |(guard_target=~ RowG _ _;(first
   |refine aH (by(try simp only[Nat.zero_add,List.length_map]);exact ra _) ?_
   |refine aH (by(try simp only[Nat.zero_add,List.length_map]);exact rb _) ?_
   |refine aH rfl ?_);conv=>whnf)
  |(refine cg ?_;conv=>whnf))
 exact q.x):P:=h ⟨q⟩
theorem bN{P Q:Prop}(q:Q)(h:Kept Q→P:=by
 intro q
 (first
  |(guard_target=~ RqS _ _;(first
   |refine ac rfl ?_
   |refine ac (by solve|simp only[bj]|fail) ?_
   |refine ac (by refine aU rfl ?_;simp only[cB];omega) ?_
   |refine ac (by simp only[Bool.and_eq_true,cB];omega) ?_
   |refine ac (by solve|simp|fail) ?_
   |refine ac (by simp;omega) ?_
   |refine ac (by simp[ao,AV.plain,am];omega) ?_
   |refine ac (by rw[w2];first|exact decide_eq_true (by omega)|(rw[List.length_map];first|exact decide_eq_true (by omega)|(simp;omega))) ?_);conv=>whnf)
  |(refine aG (fun hf=> ?_);conv=>whnf)
  |(apply aB;conv=>whnf)
  |(guard_target=~ BrS _ _ _;(first
   |refine bL rfl ?_|refine aJ rfl ?_|refine bL (by assumption) ?_|refine aJ (by assumption) ?_
   |refine bL (by refine decide_eq_true ?_;(try simp only[List.length_map]);omega) ?_
   |refine aJ (by refine decide_eq_false ?_;(try simp only[List.length_map]);omega) ?_);conv=>whnf)
  |(guard_target=~ ChkS _ _;refine ChkS.mk (by kernel_rfl) ?_;conv=>whnf)
  |(guard_target=~ CallG _ _ _ _;(first
   |refine ag (k1 ..) ?_|refine ag (k2 ..) ?_|refine ag (k3 ..) ?_|refine ag (k4 ..) ?_|refine ag (k5 ..) ?_|refine ag (kt ..) ?_|refine ag (kk ..) ?_|refine ag (kc ..) ?_|refine ag (kf ..) ?_|refine ag (kp ..) ?_|refine ag (k ..) ?_
   |refine qf (fun h=>by apply h<;>first|assumption|omega) ?_);conv=>whnf))
 repeat (first
  |(guard_target=~ RqS _ _;(first
   |refine ac rfl ?_
   |refine ac (by solve|simp only[bj]|fail) ?_
   |refine ac (by refine aU rfl ?_;simp only[cB];omega) ?_
   |refine ac (by simp only[Bool.and_eq_true,cB];omega) ?_
   |refine ac (by solve|simp|fail) ?_
   |refine ac (by simp;omega) ?_
   |refine ac (by simp[ao,AV.plain,am];omega) ?_
   |refine ac (by rw[w2];first|exact decide_eq_true (by omega)|(rw[List.length_map];first|exact decide_eq_true (by omega)|(simp;omega))) ?_);conv=>whnf)
  |(refine aG (fun hf=> ?_);conv=>whnf)
  |(apply aB;conv=>whnf)
  |(guard_target=~ BrS _ _ _;(first
   |refine bL rfl ?_|refine aJ rfl ?_|refine bL (by assumption) ?_|refine aJ (by assumption) ?_
   |refine bL (by refine decide_eq_true ?_;(try simp only[List.length_map]);omega) ?_
   |refine aJ (by refine decide_eq_false ?_;(try simp only[List.length_map]);omega) ?_);conv=>whnf)
  |(guard_target=~ ChkS _ _;refine ChkS.mk (by kernel_rfl) ?_;conv=>whnf)
  |(guard_target=~ CallG _ _ _ _;(first
   |refine ag (k1 ..) ?_|refine ag (k2 ..) ?_|refine ag (k3 ..) ?_|refine ag (k4 ..) ?_|refine ag (k5 ..) ?_|refine ag (kt ..) ?_|refine ag (kk ..) ?_|refine ag (kc ..) ?_|refine ag (kf ..) ?_|refine ag (kp ..) ?_|refine ag (k ..) ?_
   |refine qf (fun h=>by apply h<;>first|assumption|omega) ?_);conv=>whnf))
 exact q.x):P:=h ⟨q⟩
theorem bS{P X Y:Prop}(x:X)(y:Y)(h:Kept X→Kept Y→P:=by
 intro x y
 refine cm ?_ ?_<;>intro hb<;>(try simp only[eH]at hb)<;>conv=>whnf
 ·revert hb;exact x.x
 ·revert hb;exact y.x):P:=h ⟨x⟩ ⟨y⟩
theorem im{P Q:Prop}(q:Q)(h:Kept Q→P:=by
 intro q
 (first
  |(guard_target=~ RowsG _ _;(first
   |refine af (HS hs w2) ?_|refine af (AM hs w2) ?_|refine af (Bx hs w2) ?_|refine af (Ew hs w2) ?_|refine af (show _=z3 from rfl) ?_
   |refine af (ak (by solve|simp[bj]|fail)) ?_
   |refine af (be _ _ _ _) ?_
   |refine af rfl ?_);conv=>whnf)
  |(guard_target=~ RowG _ _;(first
   |refine aH (by(try simp only[Nat.zero_add,List.length_map]);exact ra _) ?_
   |refine aH (by(try simp only[Nat.zero_add,List.length_map]);exact rb _) ?_
   |refine aH rfl ?_);conv=>whnf)
  |(refine cg ?_;conv=>whnf))
 exact q.x):P:=h ⟨q⟩
theorem go{P:Prop}(h:P:=by
 conv=>whnf
 repeat' (first
  |(guard_target=~ RqS _ _;(first
   |refine ac rfl ?_
   |refine ac (by solve|simp only[bj]|fail) ?_
   |refine ac (by refine aU rfl ?_;simp only[cB];omega) ?_
   |refine ac (by simp only[Bool.and_eq_true,cB];omega) ?_
   |refine ac (by solve|simp|fail) ?_
   |refine ac (by simp;omega) ?_
   |refine ac (by simp[ao,AV.plain,am];omega) ?_
   |refine ac (by rw[w2];first|exact decide_eq_true (by omega)|(rw[List.length_map];first|exact decide_eq_true (by omega)|(simp;omega))) ?_);conv=>whnf)
  |(refine aG (fun hf=> ?_);conv=>whnf)
  |(apply aB;conv=>whnf)
  |(guard_target=~ BrS _ _ _;(first
   |refine bL rfl ?_|refine aJ rfl ?_|refine bL (by assumption) ?_|refine aJ (by assumption) ?_
   |refine bL (by refine decide_eq_true ?_;(try simp only[List.length_map]);omega) ?_
   |refine aJ (by refine decide_eq_false ?_;(try simp only[List.length_map]);omega) ?_);conv=>whnf)
  |(guard_target=~ ChkS _ _;refine ChkS.mk (by kernel_rfl) ?_;conv=>whnf)
  |(guard_target=~ CallG _ _ _ _;(first
   |refine ag (k1 ..) ?_|refine ag (k2 ..) ?_|refine ag (k3 ..) ?_|refine ag (k4 ..) ?_|refine ag (k5 ..) ?_|refine ag (kt ..) ?_|refine ag (kk ..) ?_|refine ag (kc ..) ?_|refine ag (kf ..) ?_|refine ag (kp ..) ?_|refine ag (k ..) ?_
   |refine qf (fun h=>by apply h<;>first|assumption|omega) ?_);conv=>whnf)
  |(guard_target=~ RowsG _ _;(first
   |refine af (HS hs w2) ?_|refine af (AM hs w2) ?_|refine af (Bx hs w2) ?_|refine af (Ew hs w2) ?_|refine af (show _=z3 from rfl) ?_
   |refine af (ak (by solve|simp[bj]|fail)) ?_
   |refine af (be _ _ _ _) ?_
   |refine af rfl ?_);conv=>whnf)
  |(guard_target=~ RowG _ _;(first
   |refine aH (by(try simp only[Nat.zero_add,List.length_map]);exact ra _) ?_
   |refine aH (by(try simp only[Nat.zero_add,List.length_map]);exact rb _) ?_
   |refine aH rfl ?_);conv=>whnf)
  |(refine cg ?_;conv=>whnf)
  |(guard_target=~ BrS _ _ _;refine cm ?_ ?_<;>intro hb<;>(try simp only[eH]at hb)<;>conv=>whnf)
  |(guard_target=~ ShG _ _;refine aA ?_;rfl)
  |(guard_target=~ AftPG _ _ _;refine aq rfl ?_;conv=>whnf)
  |exact True.intro)):P:=h
end Go.Abs
