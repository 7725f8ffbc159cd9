/- Words and numbers of a text, in plain Lean. -/
import Derived.Test.YtiadohfbemjfkaaDoorAbsk
import Derived.Lib.AtoiAll
import Derived.Lib.Split
set_option linter.unusedVariables false
set_option linter.unusedSimpArgs false
noncomputable section
namespace Go.Abs
open Go
def digN:Nat→List UInt8→Option Nat
 |a,[]=>some a
 |a,c::r=>if 48≤c.toNat∧c.toNat≤57 then digN (a*10+(c.toNat-48)) r else none
def negT(t:List UInt8):Bool:=t.head?==some 45
def magT(t:List UInt8):List UInt8:=if negT t=true then t.drop 1 else t
def magOK(g:Bool)(u:List UInt8):Bool:=decide (u≠[])&&decide (u.length≤18)&& !(u.head?==some 48&&(decide (1<u.length)||g))
def numF(t:List UInt8):Int × Bool:=
 if magOK (negT t) (magT t)=true then(match digN 0 (magT t)with
  |some n=>(if negT t=true then-(n:Int)else n,true)
  |none=>(0,false))else(0,false)
def numI(t:List UInt8):Int × Bool:=match Lib.atoiAll t with
 | .ok v=>(v,decide (Lib.itoa v=t)&&decide ((magT t).length≤18))
 | .syntax=>(0,false)
 | .range=>(Lib.atoiSat t,false)
theorem dig_snoc: ∀(l:List UInt8)(a:Nat)(c:UInt8),digN a (l++[c])=(digN a l).bind fun n=>if 48≤c.toNat∧c.toNat≤57 then some (n*10+(c.toNat-48))else none
 |[],a,c=>by
  simp only[List.nil_append,digN,Option.bind]
 |x::l,a,c=>by
  simp only[List.cons_append,digN]
  split
  ·exact dig_snoc l _ c
  ·rfl
theorem dig_le: ∀(l:List UInt8)(a n:Nat),digN a l=some n→a≤n
 |[],a,n,h=>by simp only[digN,Option.some.injEq]at h;omega
 |c::l,a,n,h=>by
  simp only[digN]at h
  split at h
  ·have:=dig_le l _ n h
   omega
  ·cases h
theorem dig_lt: ∀(l:List UInt8)(a n:Nat),digN a l=some n→n<(a+1)*10 ^ l.length
 |[],a,n,h=>by simp only[digN,Option.some.injEq]at h;simp;omega
 |c::l,a,n,h=>by
  simp only[digN]at h
  split at h
  ·have:=dig_lt l _ n h
   rw[List.length_cons,Nat.pow_succ]
   have h2:(a*10+(c.toNat-48)+1)*10 ^ l.length≤(a+1)*10*10 ^ l.length:=Nat.mul_le_mul_right _ (by omega)
   rw[Nat.mul_assoc (a+1),Nat.mul_comm 10]at h2
   omega
  ·cases h
theorem dig_parse: ∀(l:List UInt8)(a n:Nat),digN a l=some n→n<1000000000000000000→Lib.parseUint10 a l=.ok n
 |[],a,n,h,_=>by simp only[digN,Option.some.injEq]at h;rw[h];rfl
 |c::l,a,n,h,hn=>by
  simp only[digN]at h
  split at h
  ·rename_i hc
   have:=dig_le l _ n h
   unfold Lib.parseUint10
   rw[if_pos hc,if_neg (by omega),if_neg (by omega)]
   exact dig_parse l _ n h hn
  ·cases h
theorem dec_snoc{n d:Nat}(hn:1≤n)(hd:d≤9):Lib.decDigits (n*10+d)=Lib.decDigits n++[UInt8.ofNat (48+d)]:=by
 have:=dec_step (u:=n*10+d) (by omega)
 rw[show(n*10+d)/10=n by omega,show(n*10+d)%10=d by omega]at this
 exact this
theorem byte_of{c:UInt8}(h:48≤c.toNat):UInt8.ofNat (48+(c.toNat-48))=c:=by
 rw[show 48+(c.toNat-48)=c.toNat by omega];simp
theorem dec_dig(u:List UInt8): ∀n,digN 0 u=some n→u≠[]→u.head?≠some 48∨u.length=1→Lib.decDigits n=u∧(u.head?≠some 48→1≤n):=by
 induction hk:u.length generalizing u with
 |zero=>intro n _ h;exact absurd (List.eq_nil_of_length_eq_zero hk) h
 |succ k ih=>
  intro n hn hu hz
  obtain⟨l,c,rfl⟩: ∃l c,u=l++[c]:=⟨u.dropLast,u.getLast hu,(List.dropLast_concat_getLast hu).symm⟩
  rw[dig_snoc]at hn
  cases hl:digN 0 l with
  |none=>rw[hl]at hn;cases hn
  |some m=>
   rw[hl]at hn
   simp only[Option.bind]at hn
   split at hn
   case isFalse=>cases hn
   rename_i hc
   injection hn with hn
   cases l with
   |nil=>
    simp only[digN,Option.some.injEq]at hl
    subst hl
    have hd:n=c.toNat-48:=by omega
    refine⟨?_,fun h=> ?_⟩
    ·rw[Lib.decDigits_one (by omega),hd,byte_of hc.1];rfl
    ·have:c≠48:=fun e=>h (by rw[e];rfl)
     have:c.toNat≠48:=fun e=>this (UInt8.toNat_inj.1 e)
     omega
   |cons x l=>
    have hx:x≠48:=by
     rcases hz with h|h
     ·intro e;exact h (by rw[e];rfl)
     ·exfalso;simp at hk;omega
    obtain⟨h1,h2⟩:=ih (x::l) (by simp at hk⊢;omega) m hl (by simp) (.inl (by simpa using hx))
    have h3:=h2 (by simpa using hx)
    refine⟨?_,fun _=>by omega⟩
    rw[←hn,dec_snoc h3 (by omega),h1,byte_of hc.1]
theorem dig_dec(n:Nat):digN 0 (Lib.decDigits n)=some n∧Lib.decDigits n≠[]∧((Lib.decDigits n).head?=some 48→n=0)∧(Lib.decDigits n).head?≠some 45:=by
 induction n using Nat.strongRecOn with
 |ind n ih=>
  by_cases h:n<10
  ·rw[Lib.decDigits_one h]
   have: ∀m,m<10→digN 0 [UInt8.ofNat (48+m)]=some m∧[UInt8.ofNat (48+m)]≠[]∧([UInt8.ofNat (48+m)].head?=some 48→m=0)∧[UInt8.ofNat (48+m)].head?≠some 45:=by decide
   exact this n h
  ·obtain⟨h1,h2,h3,h4⟩:=ih (n/10) (by omega)
   rw[dec_step h]
   have hb:(UInt8.ofNat (48+n%10)).toNat=48+n%10:=by simp;omega
   have hh:(Lib.decDigits (n/10)++[UInt8.ofNat (48+n%10)]).head?=(Lib.decDigits (n/10)).head?:=by
    cases hd:Lib.decDigits (n/10)with
    |nil=>exact absurd hd h2
    |cons x l=>rfl
   refine⟨?_,by simp,fun e=> ?_,?_⟩
   ·rw[dig_snoc,h1]
    simp only[Option.bind,hb]
    rw[if_pos (by omega)]
    congr 1;omega
   ·rw[hh]at e
    have:=h3 e
    omega
   ·rw[hh];exact h4
theorem num_ok{t:List UInt8}(h:(numF t).2=true):numI t=numF t:=by
 unfold numF at h⊢
 split at h
 case isFalse=>cases h
 rename_i hm
 have hmo:=hm
 cases hd:digN 0 (magT t)with
 |none=>rw[hd]at h;cases h
 |some n=>
  simp only[magOK,Bool.and_eq_true,decide_eq_true_eq,Bool.not_eq_true',Bool.and_eq_false_iff,Bool.or_eq_false_iff,decide_eq_false_iff_not]at hm
  obtain⟨⟨hu,hl⟩,hz⟩:=hm
  have hz':(magT t).head?≠some 48∨(magT t).length=1:=by
   rcases hz with hz|hz
   ·left;intro e;rw[e]at hz;cases hz
   ·right
    have:(magT t).length≠0:=fun e=>hu (List.eq_nil_of_length_eq_zero e)
    omega
  obtain⟨hdec,hpos⟩:=dec_dig _ n hd hu hz'
  have hn:n<1000000000000000000:=by
   have h1:=dig_lt _ _ _ hd
   have h2:10 ^ (magT t).length≤10 ^ 18:=Nat.pow_le_pow_right (by omega) hl
   simp at h1
   omega
  have hp:=dig_parse _ _ _ hd hn
  have hmag:Lib.parseMag (magT t)=.ok n:=by unfold Lib.parseMag;rw[if_neg hu];exact hp
  cases t with
  |nil=>exact absurd rfl hu
  |cons c r=>
   by_cases hneg:negT (c::r)=true
   ·have hc:c=45:=by simpa[negT]using hneg
    subst hc
    have hm2:magT (45::r)=r:=by simp[magT,hneg]
    rw[hm2]at hmag hdec hd hz hl hu hmo
    have hn1:1≤n:=by
     apply hpos
     rw[hm2]
     rcases hz with hz|hz
     ·intro e;rw[e]at hz;cases hz
     ·rw[hneg]at hz;cases hz.2
    have ha:Lib.atoiAll (45::r)=.ok (-(n:Int)):=by
     unfold Lib.atoiAll
     simp[hmag]
     omega
    have hi:Lib.itoa (-(n:Int))=45::r:=by
     unfold Lib.itoa
     rw[if_pos (by omega)]
     simp[hdec]
    unfold numI
    rw[ha]
    rw[hneg]at hmo
    simp[hneg,hi,hm2,hd,hl,hmo]
   ·have hm2:magT (c::r)=c::r:=by simp[magT,hneg]
    rw[hm2]at hmag hdec hd hz hl hu hmo
    have hcd:48≤c.toNat:=by
     simp only[digN]at hd
     split at hd
     ·rename_i h;exact h.1
     ·cases hd
    have h45: ¬c.toNat=45:=by
     intro e
     apply hneg
     have:c=45:=UInt8.toNat_inj.1 e
     simp[negT,this]
    have e:(if c.toNat=43∨c.toNat=45 then r else c::r)=c::r:=if_neg (fun h=>by rcases h with h|h<;>omega)
    have hmag':Lib.parseMag (if c.toNat=43∨c.toNat=45 then r else c::r)=.ok n:=by rw[e];exact hmag
    have ha:Lib.atoiAll (c::r)=.ok (n:Int):=by
     show(match Lib.parseMag (if c.toNat=43∨c.toNat=45 then r else c::r)with
      | .syntax=>Lib.NumEnd.syntax
      | .range=>.range
      | .ok u=>if ¬c.toNat=45∧9223372036854775808≤u then .range else if c.toNat=45∧9223372036854775808<u then .range else .ok (if c.toNat=45 then-(u:Int)else u))=_
     rw[hmag']
     show(if ¬c.toNat=45∧9223372036854775808≤n then Lib.NumEnd.range else if c.toNat=45∧9223372036854775808<n then .range else .ok (if c.toNat=45 then-(n:Int)else n))=_
     rw[if_neg (by omega),if_neg (by omega),if_neg h45]
    have hi:Lib.itoa (n:Int)=c::r:=by
     unfold Lib.itoa
     rw[if_neg (by omega)]
     simpa using hdec
    have hneg':negT (c::r)=false:=by simpa using hneg
    rw[hneg']at hmo
    have hl2:r.length≤17:=by simp at hl;omega
    unfold numI
    rw[ha]
    simp[hneg',hi,hm2,hd,hl2,hmo]
theorem num_no{t:List UInt8}(h:(numI t).2=true):(numF t).2=true:=by
 unfold numI at h
 split at h
 case h_2=>cases h
 case h_3=>cases h
 rename_i v hv
 simp only[Bool.and_eq_true,decide_eq_true_eq]at h
 obtain⟨hi,hl⟩:=h
 subst hi
 obtain⟨d1,d2,d3,d4⟩:=dig_dec v.natAbs
 by_cases hv0:v<0
 ·have e0:Lib.itoa v=45::Lib.decDigits v.natAbs:=by unfold Lib.itoa;rw[if_pos hv0]
  rw[e0]at hl⊢
  have e1:negT (45::Lib.decDigits v.natAbs)=true:=rfl
  have e2:magT (45::Lib.decDigits v.natAbs)=Lib.decDigits v.natAbs:=by simp[magT,e1]
  rw[e2]at hl
  unfold numF
  rw[e1,e2,if_pos,d1]
  simp only[magOK,Bool.and_eq_true,decide_eq_true_eq,Bool.not_eq_true',Bool.and_eq_false_iff]
  refine⟨⟨d2,hl⟩,.inl ?_⟩
  cases hh:(Lib.decDigits v.natAbs).head?==some 48 with
  |false=>rfl
  |true=>have:=d3 (by simpa using hh);omega
 ·have e0:Lib.itoa v=Lib.decDigits v.natAbs:=by unfold Lib.itoa;rw[if_neg hv0];congr 1;omega
  rw[e0]at hl⊢
  have e1:negT (Lib.decDigits v.natAbs)=false:=by
   unfold negT
   cases hh:(Lib.decDigits v.natAbs).head?==some 45 with
   |false=>rfl
   |true=>exact absurd (by simpa using hh) d4
  have e2:magT (Lib.decDigits v.natAbs)=Lib.decDigits v.natAbs:=by simp[magT,e1]
  rw[e2]at hl
  unfold numF
  rw[e1,e2,if_pos,d1]
  simp only[magOK,Bool.and_eq_true,decide_eq_true_eq,Bool.not_eq_true',Bool.and_eq_false_iff]
  refine⟨⟨d2,hl⟩,?_⟩
  cases hh:(Lib.decDigits v.natAbs).head?==some 48 with
  |false=>exact .inl rfl
  |true=>
   right
   have h0:=d3 (by simpa using hh)
   rw[h0,Lib.decDigits_one (by decide)];rfl
end Go.Abs
