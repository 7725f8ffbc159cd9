/- The abstract layer, 31: loops in the quick walk; tables. -/
import Derived.Test.YtiadohfbemjfkaaDoorAbs3
set_option linter.unusedVariables false
set_option linter.unusedSimpArgs false
noncomputable section
namespace Go.Abs
open Go
structure HeadG{α:Type}(S:α→Ts)(M:α→Ms)(J:α→Prop)(ts:Ts)(ms:Ms):Prop where
 ex: ∃a,J a∧ts=S a∧ms=M a
def roundV{α:Type}(n:Fx)(ks:List Nat)(bs:List (Nat × Nat))(S:α→Ts)(M:α→Ms)(J:α→Prop)(Q:Ex→Ts→Ms→Prop):Ex→Ts→Ms→Prop
 | .normal,ts,ms=>keepV n ks bs ts ms (HeadG S M J)
 | .exit i,ts,ms=>Q (.exit i) ts ms
 | .ret,ts,ms=>Q .ret ts ms
def roundAV{α:Type}(n:Fx)(ks:List Nat)(S:α→Ts)(M:α→Ms)(J:α→Prop)(Q:Ex→Ts→Ms→Prop):Ex→Ts→Ms→Prop
 | .normal,ts,ms=>keepAV n ks ts ms (HeadG S M J)
 | .exit i,ts,ms=>Q (.exit i) ts ms
 | .ret,ts,ms=>Q .ret ts ms
section
variable{P:Program}{T:TT}{n:Fx}
theorem LoopG.rounds{α:Type}(hT:T.ok P)(hm:P.follows .mixedOrders=true){c:Code}{Q:Ex→Ts→Ms→Prop}{ts:Ts}{ms:Ms}(ks:List Nat)(bs:List (Nat × Nat))(S:α→Ts)(M:α→Ms)(J:α→Prop)(μ:α→Nat)
  (h0:keepV n ks bs ts ms (HeadG S M J))(hs: ∀a,J a→(∀k d,(getT (S a) k).facts d)→(∀b d,(getM (M a) b).facts d)→ev P T n c (roundV n ks bs S M (fun b=>J b∧μ b<μ a) Q) (S a) (M a)):LoopG P c (QL n Q) (St.ls n ts ms):=by
 refine⟨?_⟩
 obtain⟨h1,ts',ms',h2,a,h3,rfl,rfl⟩:=keepV_mk (n:=n) h0
 refine WP.keepR ks bs ⟨h1,?_⟩
 rw[h2]
 refine WP.rounds ks bs (fun m st=> ∃a,J a∧μ a=m∧st=St.ls n (S a) (M a)) (μ a) ⟨a,h3,rfl,rfl⟩ ?_
 rintro m st ⟨a,ha,rfl,rfl⟩
 refine WP.preF fun hF=>(ev_mk hT hm (hs a ha hF.1 hF.2)).mono fun e st hq=> ?_
 obtain⟨ts,ms,rfl,hq⟩:=hq
 cases e with
 |normal=>
  obtain⟨h1,ts',ms',h2,b,⟨h3,h4⟩,rfl,rfl⟩:=keepV_mk (n:=n) hq
  refine⟨h1,μ b,h4,b,h3,rfl,h2⟩
 |exit i=>exact⟨_,_,rfl,hq⟩
 |ret=>exact⟨_,_,rfl,hq⟩
theorem LoopG.auto{α:Type}(hT:T.ok P)(hm:P.follows .mixedOrders=true){c:Code}{Q:Ex→Ts→Ms→Prop}{ts:Ts}{ms:Ms}(ks:List Nat)(S:α→Ts)(M:α→Ms)(J:α→Prop)(μ:α→Nat)
  (h0:keepAV n ks ts ms (HeadG S M J))(hs: ∀a,J a→(∀k d,(getT (S a) k).facts d)→(∀b d,(getM (M a) b).facts d)→ev P T n c (roundAV n ks S M (fun b=>J b∧μ b<μ a) Q) (S a) (M a)):LoopG P c (QL n Q) (St.ls n ts ms):=by
 refine⟨?_⟩
 obtain⟨bs,h1,ts',ms',h2,a,h3,rfl,rfl⟩:=keepAV_mk (n:=n) h0
 refine WP.loop (fun m st=> ∃bs,keepOk st ks bs=true∧ ∃a,J a∧μ a=m∧st.keepR ks bs=St.ls n (S a) (M a)) (μ a) ⟨bs,h1,a,h3,rfl,h2⟩ ?_
 rintro m st ⟨bs,h1,a,ha,rfl,h2⟩
 refine WP.keepR ks bs ⟨h1,?_⟩
 rw[h2]
 refine WP.preF fun hF=>(ev_mk hT hm (hs a ha hF.1 hF.2)).mono fun e st hq=> ?_
 obtain⟨ts,ms,rfl,hq⟩:=hq
 cases e with
 |normal=>
  obtain⟨bs,h1,ts',ms',h2,b,⟨h3,h4⟩,rfl,rfl⟩:=keepAV_mk (n:=n) hq
  exact⟨μ b,h4,bs,h1,b,h3,rfl,h2⟩
 |exit i=>exact⟨_,_,rfl,hq⟩
 |ret=>exact⟨_,_,rfl,hq⟩
theorem br_t{b:Bool}{X Y:Prop}(h:b=true)(x:X):BrS b X Y:=⟨fun _=>x,fun h'=>Bool.noConfusion (h.symm.trans h')⟩
theorem br_f{b:Bool}{X Y:Prop}(h:b=false)(y:Y):BrS b X Y:=⟨fun h'=>Bool.noConfusion (h.symm.trans h'),fun _=>y⟩
theorem br_s{b:Bool}{X Y:Prop}(x:b=true→X)(y:b=false→Y):BrS b X Y:=⟨x,y⟩
theorem and_s{a b:Bool}(h1:a=true)(h2:b=true):(a&&b)=true:=by rw[h1,h2];rfl
theorem rq_s{b:Bool}{X:Prop}(h:b=true)(x:X):RqS b X:=⟨h,x⟩
theorem sh_s{x y:AV}(h:x=y):ShG x y:=⟨h▸Sh.refl x⟩
theorem row_s{row row':List AV}{K:List AV→Prop}(h:row=row')(k:K row'):RowG row K:=⟨row',h,k⟩
theorem rows_s{rows rows':List (List AV)}{K:List (List AV)→Prop}(h:rows=rows')(k:K rows'):RowsG rows K:=⟨rows',h,k⟩
theorem sub_all{rows:List (List AV)}{n:Nat}(h:n=rows.length):subA rows 0 n=rows:=by subst h;simp[subA]
theorem byt_s{rows:List (List AV)}{b:List UInt8}{K:List UInt8→Prop}(h:bytesOfRows rows=some b)(k:K b):BytG rows K:=⟨b,h,k⟩
theorem app0_s{K:Nat→List (List AV)→Nat→Prop}{lvl:Nat}{rows:List (List AV)}{n:Nat}(k:K lvl rows n):AppG lvl rows n K:=⟨_,_,_,rfl,rfl,rfl,k⟩
theorem call_s{f:FuncId}{as:List AV}{K:AV→Prop}{res:AV}(h:Con P f as (undefs as) res)(k:K res):CallG P f as K:=⟨res,h,k⟩
theorem lend_s{f:FuncId}{L A:Prop}{H:Nat→Prop}(h:L):CallX f L H A:=.lend h
theorem handp_s(f:FuncId)(fs:List (Option Nat)){H:List (Option Nat)→Prop}(h:H fs):HandPX f H:=⟨fs,h⟩
theorem callp_s{f:FuncId}{as as':List AV}{K:List AV→AV→Prop}{os:List AV}{res:AV}(e:as=as')(h:Con P f as' os res)(k:K os res):CallPG P f as K:=⟨as',os,res,e,h,k⟩
theorem callpe_s{f:FuncId}{as as':List AV}{K:List AV→AV→Prop}(e:as=as')(h:CallPG P f as' K):CallPG P f as K:=e▸h
theorem cons_eq{x y:AV}{l l':List AV}(h:x=y)(h2:l=l'):x::l=y::l':=by rw[h,h2]
theorem obj_eq{l l':List AV}(h:l=l'):AV.obj l=AV.obj l':=by rw[h]
theorem agg_eq{l l':List AV}(h:l=l'):AV.agg l=AV.agg l':=by rw[h]
theorem own_eq{n:Nat}{z:List AV}{r r':List (List AV)}(h:r=r'):AV.own n z r=AV.own n z r':=by rw[h]
theorem ro_eq{z:List AV}{r r':List (List AV)}(h:r=r'):AV.ro z r=AV.ro z r':=by rw[h]
theorem rp_eq{l l':List AV}{j:Nat}(h:l=l'):AV.rp l j=AV.rp l' j:=by rw[h]
theorem fnc_eq{f:FuncId}{l l':List AV}(h:l=l'):AV.fn f l=AV.fn f l':=by rw[h]
theorem aftp_s{x y:AV}{X:Prop}(h:x=y)(k:X):AftPG x y X:=⟨h▸Sh.refl x,k⟩
theorem fac_s{F:Nat→Prop}{X:Prop}(h:(∀d,F d)→X):FacG F X:=⟨h⟩
theorem LoopG.facts{c:Code}{Q:Ex→St→Prop}{ts:Ts}{ms:Ms}(h:(∀k d,(getT ts k).facts d)→(∀b d,(getM ms b).facts d)→LoopG P c Q (St.ls n ts ms)):LoopG P c Q (St.ls n ts ms):=
 ⟨WP.preF fun hf=>(h hf.1 hf.2).wp⟩
def factsA:List AV→Prop
 |[]=>True
 |x::l=>(∀d,x.facts d)∧factsA l
theorem factsA_mk: ∀{l:List AV},(∀x∈l,∀d,x.facts d)→factsA l
 |[],_=>trivial
 |x::l,h=>⟨h x (by simp),factsA_mk fun y hy=>h y (by simp[hy])⟩
theorem Con.evF{f:FuncId}{fn:Func}{c:Code}{xs:List AV}{res:AV}(n:Nat)(hT:T.ok P)(hm:P.follows .mixedOrders=true)(hf:P.funcs[f]? =some fn)(hn:(fn.name== "runtime.NumGoroutine")=false)(hb:fn.body=some c)
  (hok:xs.all impValOk=true)(hnn:xs.length+(fn.ntmps-xs.length)=n)(rs:List ResultVar)(hrs:fn.results.toList=rs)
  (h:factsA xs→enterV xs fun ts ms=>Go.Abs.ev P T ⟨n,[],[]⟩ c (retQV T rs res) ts ms):Con P f xs (undefs xs) res:=
 Con.facts ⟨fn,hf,hn,by rw[hb];rfl⟩ fun hF=>Con.ev n hT hm hf hn hb hok hnn rs hrs (h (factsA_mk hF))
theorem head_s{α:Type}{S:α→Ts}{M:α→Ms}{J:α→Prop}{ts:Ts}{ms:Ms}(a:α)(h1:J a)(h2:ts=S a)(h3:ms=M a):HeadG S M J ts ms:=⟨a,h1,h2,h3⟩
theorem TT.ok_nil:TT.ok [] P:=fun t i h=>by cases h
theorem TT.ok_cons{t:Nat}{i:TI}(h:tiOf P t=some i)(hT:TT.ok T P):TT.ok ((t,i)::T) P:=fun t' i' h'=>by
 simp only[TT.get]at h'
 split at h'
 ·rename_i e;injection h' with h';subst h';rw[←beq_t e];exact h
 ·exact hT _ _ h'
end
end Go.Abs
