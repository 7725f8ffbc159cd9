/- The abstract layer, 32: what proofs of contracts use again and again: numbers in range, rows of slices. -/
import Derived.Test.YtiadohfbemjfkaaDoorAbs4
set_option linter.unusedVariables false
set_option linter.unusedSimpArgs false
noncomputable section
namespace Go.Abs
open Go
theorem wrap_fits{k:IntKind}{n:Int}(h:fitsK k n=true):k.wrap n=n:=by
 cases k<;>simp[fitsK]at h<;>simp[IntKind.wrap,IntKind.signed,IntKind.bits]<;>omega
theorem wrap64{n:Int}(h1: -9223372036854775808≤n)(h2:n≤9223372036854775807):IntKind.i64.wrap n=n:=wrap_fits (by simp[fitsK];omega)
theorem wrap32{n:Int}(h1: -2147483648≤n)(h2:n≤2147483647):IntKind.i32.wrap n=n:=wrap_fits (by simp[fitsK];omega)
theorem fits64{n:Int}(h:fitsK .i64 n=true): -9223372036854775808≤n∧n≤9223372036854775807:=by simpa[fitsK]using h
def intR(n:Int):List AV:=[.int .i64 n]
def strR(s:List UInt8):List AV:=[.str s]
def roI(xs:List Int):AV:=.ro [.int .i64 0] (xs.map intR)
def roS(xs:List (List UInt8)):AV:=.ro [.str []] (xs.map strR)
def ownS(xs:List (List UInt8)):AV:=.own 0 [.str []] (xs.map strR)
theorem row_map{α:Type}(f:α→List AV)(xs:List α)(i:Nat)(z:List AV)(d:α)(h:i<xs.length):rowA (xs.map f) i z=f (xs.getD i d):=by
 simp[rowA,h]
theorem sub_map{α:Type}(f:α→List AV)(xs:List α)(o n:Nat):subA (xs.map f) o n=((xs.drop o).take n).map f:=by simp[subA,List.map_take,List.map_drop]
theorem facts_int{n:Int}(h: ∀d,(AV.int .i64 n).facts d): -9223372036854775808≤n∧n≤9223372036854775807:=fits64 (h 0)
def findI{α:Type}(p:α→Bool)(xs:List α):Int:=match xs.findIdx? p with
 |some i=>i
 |none=> -1
theorem findI_hit{α:Type}{p:α→Bool}{xs:List α}{i:Nat}(d:α)(h:i<xs.length)(hp:p (xs.getD i d)=true)(hn: ∀j,j<i→p (xs.getD j d)=false):findI p xs=i:=by
 have:xs.findIdx? p=some i:=by
  rw[List.findIdx?_eq_some_iff_getElem]
  refine⟨h,by simpa[h]using hp,fun j hj=> ?_⟩
  have:=hn j hj
  have hj':j<xs.length:=by omega
  simpa[hj']using this
 simp[findI,this]
theorem findI_none{α:Type}{p:α→Bool}{xs:List α}(d:α)(hn: ∀j,j<xs.length→p (xs.getD j d)=false):findI p xs= -1:=by
 have:xs.findIdx? p=none:=by
  rw[List.findIdx?_eq_none_iff]
  intro x hx
  obtain⟨j,hj,rfl⟩:=List.mem_iff_getElem.1 hx
  have:=hn j hj
  simpa[hj]using this
 simp[findI,this]
theorem facts_len{α:Type}{f:α→List AV}{z:List AV}{xs:List α}(h: ∀d,(AV.ro z (xs.map f)).facts d):xs.length≤9223372036854775807:=by
 have:=(h 1).1
 simpa[maxLn]using this
theorem Sh.flat{z:List AV}{rows:List (List AV)}(hf: ∀row∈rows,∀x∈row,x.flat=true):Sh (.own 1 z rows) (.own 0 z rows):=fun w R O v h _=>by
 cases h with
 |sc h e=>exact h.elim
 |own0 e=>exact⟨O,fun _ _ k=>k,fun R' _ _=>.own0 e⟩
 |own vs os hcap hb hw hc hx hO hd hdd h0 h1 hm=>
  exact⟨O,fun _ _ k=>k,fun R' hR _=>.own vs os hcap hb hw hc (fun i j row x h1 h2=>(hx i j row x h1 h2).weak hR fun _ _ k=>k) hO hd hdd (fun _=>hf) (fun _=>h1 (by decide)) hm⟩
theorem cln:(∀{α:Type}[BEq α][LawfulBEq α]{a b:α},(a==b)=true↔a=b)∧(∀{α:Type}[BEq α][LawfulBEq α]{a b:α},(a != b)=true↔a≠b)∧(∀{α:Type}{a b:α},(a≠b)= ¬a=b)∧
  (∀{p:Prop}[Decidable p],(decide p=true)=p)∧(∀{p:Prop}[Decidable p],(decide p=false)= ¬p)∧(∀{a b:Int},¬a<b↔b≤a)∧(∀{a b:Int},¬a≤b↔b<a)∧((false=true)=False)∧
  (∀{α:Type}{a b:α}[h:Decidable False],(if False then a else b)=b)∧(∀{α:Type}{a b:α}[h:Decidable True],(if True then a else b)=a)∧
  (∀{α:Type}[BEq α][LawfulBEq α]{a b:α},(a==b)=false↔a≠b)∧(∀{α:Type}[BEq α][LawfulBEq α]{a b:α},(a != b)=false↔a=b)∧(∀(b:Bool),((!b)=true)=(b=false))∧(∀(b:Bool),((!b)=false)=(b=true))∧
  (∀{m n:Nat},(m:Int)<n↔m<n)∧(∀{m n:Nat},(m:Int)≤n↔m≤n)∧(∀{m n:Nat},(m:Int)=n↔m=n)∧(∀{α β:Type}{as:List α}(f:α→β),(as.map f).length=as.length)∧(∀{α:Type},([]:List α).length=0)∧(∀{α:Type}{a:α}{as:List α},(a::as).length=as.length+1):=
 ⟨beq_iff_eq,bne_iff_ne,ne_eq _ _,decide_eq_true_eq,propext decide_eq_false_iff_not,Int.not_lt,Int.not_le,Bool.false_eq_true,if_false _ _,if_true _ _,beq_eq_false_iff_ne,bne_eq_false_iff_eq,Bool.not_eq_true',Bool.not_eq_false',Int.ofNat_lt,Int.ofNat_le,Int.ofNat_inj,List.length_map,List.length_nil,List.length_cons⟩
theorem bbs:(∀{α:Type}{a b:α}[h:Decidable True],(if True then a else b)=a)∧(∀{α:Type}{a b:α}[h:Decidable False],(if False then a else b)=b)∧((false=true)=False)∧((!true)=false)∧((!false)=true):=⟨if_true _ _,if_false _ _,Bool.false_eq_true,Bool.not_true,Bool.not_false⟩
theorem lnm:(∀{p:Prop}[Decidable p],(decide p=true)=p)∧(∀{α β:Type}{as:List α}(f:α→β),(as.map f).length=as.length):=⟨decide_eq_true_eq,List.length_map⟩
end Go.Abs
