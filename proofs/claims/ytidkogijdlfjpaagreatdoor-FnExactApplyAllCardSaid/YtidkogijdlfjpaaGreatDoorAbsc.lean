/- The data of the program in plain Lean: their rows, sizes and marks. No program in sight. -/
import Derived.Test.YtidkogijdlfjpaaGreatDoorAbs6
set_option linter.unusedVariables false
set_option linter.unusedSimpArgs false
noncomputable section
namespace Go.Abs
open Go
section
variable{α:Type}(mks:Int→α)(c:Int)
def mkS(n:Nat)(k:Int):List α:=(List.range n).map fun i:Nat=>mks (k+c*(i:Int))
theorem mkS_len(n:Nat)(k:Int):(mkS mks c n k).length=n:=by simp[mkS]
theorem mkS_next(n:Nat)(k:Int):mkS mks c (n+1) k=mkS mks c n k++[mks (k+c*n)]:=by simp[mkS,List.range_succ]
theorem mkS_get{n i:Nat}{k:Int}(h:i<n)(d:α):(mkS mks c n k).getD i d=mks (k+c*i):=by simp[mkS,h]
def mixS(xs:List α)(k:Int)(i:Nat):List α:=mkS mks c i k++xs.drop i
theorem mixS_len{xs:List α}{k:Int}{i:Nat}(h:i≤xs.length):(mixS mks c xs k i).length=xs.length:=by simp[mixS,mkS_len];omega
theorem mixS_zero(xs:List α)(k:Int):mixS mks c xs k 0=xs:=by simp[mixS,mkS]
theorem mixS_all(xs:List α)(k:Int):mixS mks c xs k xs.length=mkS mks c xs.length k:=by simp[mixS]
theorem mixS_next{xs:List α}{k:Int}{i:Nat}(h:i<xs.length):(mixS mks c xs k i).set i (mks (k+c*i))=mixS mks c xs k (i+1):=by
 unfold mixS
 rw[List.set_append_right _ _ (by simp[mkS_len]),mkS_len,Nat.sub_self,List.drop_eq_getElem_cons h,List.set_cons_zero,mkS_next]
 simp
def heldS[DecidableEq α](xs:List α)(k:Int):Int:=if xs=mkS mks c xs.length k then k+c*xs.length else-1
theorem heldS_bad[DecidableEq α]{xs:List α}{k:Int}{i:Nat}(d:α)(h:i<xs.length)(hne:xs.getD i d≠mks (k+c*i)):heldS mks c xs k= -1:=by
 have:xs≠mkS mks c xs.length k:=fun e=>hne (by
  have h3:xs.getD i d=(mkS mks c xs.length k).getD i d:=by rw[←e]
  rw[h3,mkS_get mks c h])
 rw[heldS,if_neg this]
theorem heldS_next{xs:List α}{k:Int}{i:Nat}(d:α)(h:i<xs.length)(ht:xs.take i=mkS mks c i k)(he:xs.getD i d=mks (k+c*i)):xs.take (i+1)=mkS mks c (i+1) k:=by
 have h5:xs[i]=mks (k+c*i):=by simpa[h]using he
 rw[List.take_succ_eq_append_getElem h,ht,h5,mkS_next]
theorem heldS_done[DecidableEq α]{xs:List α}{k:Int}{i:Nat}(hi:xs.length≤i)(hi2:i≤xs.length)(ht:xs.take i=mkS mks c i k):heldS mks c xs k=k+c*xs.length:=by
 obtain rfl:i=xs.length:=by omega
 have:xs=mkS mks c xs.length k:=by rw[←ht];simp
 rw[heldS,if_pos this]
theorem heldS_mk[DecidableEq α](n:Nat)(k:Int):heldS mks c (mkS mks c n k) k=k+c*n:=by simp[heldS,mkS_len]
theorem heldS_le[DecidableEq α](xs:List α)(k:Int):heldS mks c xs k≤k+c*xs.length∨heldS mks c xs k= -1:=by
 unfold heldS
 split
 ·exact .inl (Int.le_refl _)
 ·exact .inr rfl
end
theorem setRow_len(rows:List (List AV))(i j:Nat)(z vs:List AV):(setRow rows i j z vs).length=rows.length:=by simp[setRow]
def szC(x:Int)(f:Int→Int):Int:=if x<0 then-1 else f x
theorem szC_step{x:Int}{f:Int→Int}(e:0≤szC x f):0≤x∧0≤f x∧szC x f=f x:=by
 unfold szC at e⊢
 by_cases h:x<0
 ·rw[if_pos h]at e;omega
 ·rw[if_neg h]at e⊢;exact⟨by omega,e,rfl⟩
def szN(n:Nat)(left:Int):Int:=if IntKind.i64.wrap (left-n)<0 then-1 else IntKind.i64.wrap (left-n)
theorem szN_le{m:Nat}{l:Int}(h1:0≤l)(h2:l≤1048576)(hx:m≤9223372036854775807)(h:0≤szN m l):szN m l≤l∧m≤1048576:=by
 unfold szN at h⊢
 rw[wr h1 h2 hx]at h⊢
 by_cases h3:l-(m:Int)<0
 ·rw[if_pos h3]at h;omega
 ·rw[if_neg h3];omega
abbrev zI:List AV:=[.int .i64 0]
abbrev zB:List AV:=[.bool false]
def boolR(b:Bool):List AV:=[.bool b]
def ownB(bs:List Bool):AV:=.own 0 zB (bs.map boolR)
def mksI(k:Int):Int:=k
structure Deal where
 c:Int
 a:Int
 b:Int
 r:Int
 deriving DecidableEq,Inhabited
def dealR(d:Deal):List AV:=[.int .i64 d.c,.int .i64 d.a,.int .i64 d.b,.int .i64 d.r]
abbrev zD:List AV:=[.int .i64 0,.int .i64 0,.int .i64 0,.int .i64 0]
def ownD(ds:List Deal):AV:=.own 0 zD (ds.map dealR)
structure Wd where
 nm:List UInt8
 k:Int
 v:Int
 deriving DecidableEq,Inhabited
def wdR(x:Wd):List AV:=[.str x.nm,.int .i64 x.k,.int .i64 x.v]
abbrev zW:List AV:=[.str [],.int .i64 0,.int .i64 0]
def ownW(xs:List Wd):AV:=.own 0 zW (xs.map wdR)
structure Itm where
 k:Int
 v:Int
 deriving DecidableEq,Inhabited
def itR(x:Itm):List AV:=[.int .i64 x.k,.int .i64 x.v]
abbrev zT:List AV:=[.int .i64 0,.int .i64 0]
def ownT(xs:List Itm):AV:=.own 0 zT (xs.map itR)
structure Cal where
 ip:Int
 fl:Int
 dp:Int
 ca:Bool
 deriving DecidableEq,Inhabited
def calR(x:Cal):List AV:=[.int .i64 x.ip,.int .i64 x.fl,.int .i64 x.dp,.bool x.ca]
abbrev zC:List AV:=[.int .i64 0,.int .i64 0,.int .i64 0,.bool false]
def ownC(xs:List Cal):AV:=.own 0 zC (xs.map calR)
structure Dat where
 st:List Int
 bk:List Int
 ce:List Int
 he:Int
 ba:Int
 ou:List UInt8
 deriving DecidableEq,Inhabited
def datR(d:Dat):List AV:=[roI d.st,roI d.bk,roI d.ce,.int .i64 d.he,.int .i64 d.ba,.str d.ou]
def datV(d:Dat):AV:=.agg (datR d)
def datC(d:Dat):List AV:=[ownI d.st,ownI d.bk,ownI d.ce,.int .i64 d.he,.int .i64 d.ba,.str d.ou]
def datO(d:Dat):AV:=.agg (datC d)
@[simp] theorem Dat.eta(d:Dat):(⟨d.st,d.bk,d.ce,d.he,d.ba,d.ou⟩:Dat)=d:=rfl
def dat0:Dat:=⟨[],[],[],0,0,[]⟩
structure Hst where
 gr:List Bool
 st:List Int
 q:List Int
 tk:Int
 ds:List Deal
 deriving DecidableEq,Inhabited
@[simp] theorem Hst.eta(h:Hst):(⟨h.gr,h.st,h.q,h.tk,h.ds⟩:Hst)=h:=rfl
theorem lms:(∀{p:Prop}[Decidable p],(decide p=true)=p)∧(∀{α β:Type}{as:List α}(f:α→β),(as.map f).length=as.length)∧(∀{α:Type}(mks:Int→α)(c:Int)(n:Nat)(k:Int),(mkS mks c n k).length=n)∧(∀(rows:List (List AV))(i j:Nat)(z vs:List AV),(setRow rows i j z vs).length=rows.length):=⟨decide_eq_true_eq,List.length_map,fun m c n k=>mkS_len m c n k,setRow_len⟩
end Go.Abs
