/- Numbers in decimal digits, marks of text: in plain Lean. -/
import Derived.Test.YtiadohfbemjfkaaDoorAbsf
import Derived.Lib.ItoaLen
set_option linter.unusedVariables false
set_option linter.unusedSimpArgs false
noncomputable section
namespace Go.Abs
open Go Go.Proofs
theorem dec_step{u:Nat}(h: ¬u<10):Lib.decDigits u=Lib.decDigits (u/10)++[UInt8.ofNat (48+u%10)]:=by rw[Lib.decDigits,dif_neg h]
theorem dec_len(u:Nat)(h:u<18446744073709551616):(Lib.decDigits u).length≤20:=by rw[Lib.decDigits_length];exact Lib.nDigits_le20 u h
theorem quo10(u:Nat)(hu:u≤9223372036854775807):IntKind.i64.wrap ((u:Int).tdiv 10)=((u/10:Nat):Int):=by
 have h:(u:Int).tdiv 10=((u/10:Nat):Int):=rfl
 rw[h,wrap64 (by omega) (by omega)]
theorem rem10(u:Nat):IntKind.i64.wrap (48+(u:Int).tmod 10)=((48+u%10:Nat):Int):=by
 have h:(u:Int).tmod 10=((u%10:Nat):Int):=rfl
 rw[h,wrap64 (by omega) (by omega)]
 omega
theorem byteOf{k:Nat}(h:k<256):UInt8.ofNat (IntKind.u8.wrap (k:Int)).toNat=UInt8.ofNat k:=by
 have:IntKind.u8.wrap (k:Int)=k:=by simp[IntKind.wrap,IntKind.signed,IntKind.bits];omega
 rw[this]
 rfl
def DecInv(k u:Nat)(s:List UInt8):Prop:=u≤k∧s.length+(Lib.decDigits u).length≤22∧((u=0∧s=Lib.decDigits k)∨(0<u∧Lib.decDigits u++s=Lib.decDigits k))
theorem DecInv.next{k u:Nat}{s:List UInt8}(h:DecInv k u s)(hu:0<u)(hk:k≤9223372036854775807):DecInv k (u/10) ([UInt8.ofNat (48+u%10)]++s):=by
 obtain⟨h1,h2,h3⟩:=h
 rcases h3 with⟨h3,_⟩|⟨_,h3⟩
 ·omega
 by_cases h10:u<10
 ·have e:u/10=0:=by omega
  have e2:u%10=u:=by omega
  rw[Lib.decDigits_one h10]at h2 h3
  rw[e,e2]
  have d0:(Lib.decDigits 0).length=1:=by rw[Lib.decDigits_one (by omega)];rfl
  have hl:=dec_len k (by omega)
  rw[←h3]at hl
  refine⟨by omega,?_,.inl ⟨rfl,h3⟩⟩
  rw[d0]
  omega
 ·rw[dec_step h10]at h2 h3
  refine⟨by omega,by simp only[List.length_append,List.length_cons,List.length_nil]at h2⊢;omega,.inr ⟨by omega,by rw[←h3];simp⟩⟩
end Go.Abs
