import Derived.Test.YtiadohfbemjfkaaDoorAtA
import Derived.WalkKit
/- The words of a text: contracts. -/
set_option linter.unusedVariables false
set_option linter.unusedSimpArgs false
set_option maxRecDepth 100000
open Go Go.Abs Go.Proofs V1 U2 U4 U5 U6 U7 U8
namespace U9
open Go.RowKit
theorem c32(t:List UInt8)(h:t.length≤900000):Con Tryd.prog 32 [.str t] (undefs [.str t]) (ownS ((splL t 32).filter keepE)):=by
 have hc:(splL t 32).length≤1000000:=by rw[splL_len];have:t.count 32≤t.length:=List.count_le_length;omega
 refine⟨⟨_,Tryd.func32,rfl,rfl⟩,fun w R O vals hp hR hO tb=> ?_⟩
 obtain⟨hp0,he⟩:=Abs.parts_flat (R':=R) _ _ _ rfl hp
 obtain⟨hl,os,h4,_⟩:=uni_of_parts _ _ _ hp0
 match vals,hl with
 |[v0],_=>
  obtain⟨rfl,hml⟩:=U5.one_str (h4 0 _ v0 rfl rfl)
  have kS0:=(c46 t 32 (by omega)).calls w R none2 [.string ⟨t.toArray⟩,.string ⟨#[32]⟩] ⟨none2,none2,fun g o=>by simp[none2],emp_none2.disj,.sc ⟨rfl,hml⟩ emp_none2,⟨none2,none2,fun g o=>by simp[none2],emp_none2.disj,.sc ⟨rfl,by decide⟩ emp_none2,emp_none2⟩⟩ (fun g o k=>⟨(hR g o k).1,fun k=>k⟩) (fun g o k=>k.elim) tb.nil
  have kS:Calls Tryd.prog 46 #[.string ⟨t.toArray⟩,.string ⟨#[32]⟩] w fun e w1=> ∃v O2,e=.returned v∧Frame w w1 none2∧(∀g o,O2 g o→w.heap.size≤g∧g<w1.heap.size)∧AR w1 (fun _ _=>False) noLoc (ownS (splL t 32)) v O2:=by
   refine kS0.mono fun e w1 hb=> ?_
   cases e with
   |returned v=>
    obtain⟨O1,hF,hO1,O2,O3,hU,hD,hv,_⟩:=hb
    exact⟨v,O2,rfl,hF,fun g o k=>⟨((hO1 g o ((hU g o).2 (.inl k))).1.resolve_left fun k=>k),(hO1 g o ((hU g o).2 (.inl k))).2⟩,hv.own_flat⟩
   |_=>exact hb.elim
  have kD: ∀(w1:World)(v:Value)(O2:Cells),Frame w w1 none2→(∀g o,O2 g o→w.heap.size≤g∧g<w1.heap.size)→AR w1 (fun _ _=>False) noLoc (ownS (splL t 32)) v O2→
    Calls Tryd.prog 45 #[v,.func (.func 47) #[] #[]] w1 fun e w2=> ∃v2,e=.returned v2∧Back w R O [.string ⟨t.toArray⟩] (undefs [.str t]) (ownS ((splL t 32).filter keepE)) (.returned v2) w2:=by
   intro w1 v O2 hF hO2 hv
   have tb1:Tabs Tryd.prog w1 O2:=by
    have key: ∀g B,w.heap[g]? =some B→w1.heap[g]? =some B∧ ∀o,¬O2 g o:=fun g B h1=>by
     have hlt:g<w.heap.size:=(Array.getElem?_eq_some_iff.1 h1).1
     exact⟨(hF.same g hlt fun o k=>k).trans h1,fun o k=>by have:=(hO2 g o k).1;omega⟩
    refine⟨fun x hx g hg=> ?_,fun x hx g hg=> ?_⟩
    ·obtain⟨⟨e,fz,h1⟩,_⟩:=tb.1 x hx g hg
     exact⟨⟨e,fz,(key g _ h1).1⟩,(key g _ h1).2⟩
    ·obtain⟨⟨a,p,e,fz,h1⟩,_⟩:=tb.2 x hx g hg
     exact⟨⟨a,p,e,fz,(key g _ h1).1⟩,(key g _ h1).2⟩
   have hfn:AR w1 (fun _ _=>False) noLoc (.fn 47 []) (.func (.func 47) #[] #[]) none2:=
    .fn (fun _=>none2) rfl (fun k x v h=>by simp at h) ⟨fun g o=>⟨fun k=>k.elim,fun⟨j,hj,_⟩=>by simp at hj⟩,fun j k hj=>by simp at hj⟩
   refine((c45 (splL t 32) hc).calls w1 (fun _ _=>False) O2 [v,.func (.func 47) #[] #[]] ⟨O2,none2,fun g o=>by simp[none2],emp_none2.disj.symm,hv,⟨none2,none2,fun g o=>by simp[none2],emp_none2.disj,hfn,emp_none2⟩⟩ (fun g o k=>k.elim) (fun g o k=>(hO2 g o k).2) tb1).mono fun e w2 hb=> ?_
   cases e with
   |returned v2=>
    obtain⟨O1,hF2,hO1,O4,O5,hU,hD,hv2,_⟩:=hb
    refine⟨v2,rfl,O4,?_,fun g o k=> ?_,O4,none2,fun g o=>by simp[none2],emp_none2.disj.symm,hv2.own_flat,⟨none2,none2,fun g o=>by simp[none2],emp_none2.disj,.sc trivial emp_none2,emp_none2⟩⟩
    ·exact(hF.trans hF2 fun g o k=>.inr (hO2 g o k).1).weak fun _ _ k=>k.elim
    ·have hk:=hO1 g o ((hU g o).2 (.inl k))
     refine⟨.inr ?_,hk.2⟩
     rcases hk.1 with k1|k1
     ·exact(hO2 g o k1).1
     ·exact Nat.le_trans hF.size k1
   |_=>exact hb.elim
  show Calls Tryd.prog 32 #[.string ⟨t.toArray⟩] w _
  go_enter Tryd.func32,Tryd.ntmps32
  go_wp2_with (first
   |(refine kS.mono ?_;rintro e w1 ⟨v,O2,rfl,hF,hO2,hv⟩)
   |(refine(kD _ _ _ hF hO2 hv).mono ?_;rintro e w2 ⟨v2,rfl,hB⟩))
  go_ret
  exact hB
end U9

/- The words of a text, by the reference. -/
open Go Go.Abs Go.Proofs V1 U2 U4 U5 U6 U7
namespace U10
def wFrom(t:List UInt8):Nat→Nat
 |0=>0
 |i+1=>if i=t.length∨t.getD i 0=32 then i+1 else wFrom t i
def wOut(t:List UInt8):Nat→List (List UInt8)
 |0=>[]
 |i+1=>if(i=t.length∨t.getD i 0=32)∧wFrom t i<i then wOut t i++[(t.drop (wFrom t i)).take (i-wFrom t i)]else wOut t i
theorem wFrom_le(t:List UInt8): ∀i,wFrom t i≤i
 |0=>Nat.le_refl 0
 |i+1=>by
  unfold wFrom
  split
  ·exact Nat.le_refl _
  ·have:=wFrom_le t i;omega
theorem wOut_len(t:List UInt8): ∀i,(wOut t i).length≤i
 |0=>Nat.le_refl 0
 |i+1=>by
  have:=wOut_len t i
  unfold wOut
  split
  ·simp;omega
  ·omega
theorem wOut_str(t:List UInt8): ∀i,∀s∈wOut t i,s.length≤t.length
 |0,s,h=>by simp[wOut]at h
 |i+1,s,h=>by
  unfold wOut at h
  split at h
  ·rcases List.mem_append.1 h with h|h
   ·exact wOut_str t i s h
   ·simp at h;subst h;simp;omega
  ·exact wOut_str t i s h
theorem w_app{t:List UInt8}{i:Nat}(h:i=t.length∨t.getD i 0=32)(hl:wFrom t i<i):wOut t (i+1)=wOut t i++[(t.drop (wFrom t i)).take (i-wFrom t i)]:=by
 rw[wOut,if_pos ⟨h,hl⟩]
theorem w_no{t:List UInt8}{i:Nat}(hl: ¬wFrom t i<i):wOut t (i+1)=wOut t i:=by
 rw[wOut,if_neg fun k=>hl k.2]
theorem w_not{t:List UInt8}{i:Nat}(h: ¬(i=t.length∨t.getD i 0=32)):wOut t (i+1)=wOut t i∧wFrom t (i+1)=wFrom t i:=by
 rw[wOut,wFrom,if_neg h,if_neg fun k=>h k.1]
 exact⟨rfl,rfl⟩
theorem w_from{t:List UInt8}{i:Nat}(h:i=t.length∨t.getD i 0=32):wFrom t (i+1)=i+1:=by
 rw[wFrom,if_pos h]
theorem c32{t:List UInt8}{i:Nat}:((t.getD (i:Int).toNat 0).toNat:Int)=32↔t.getD i 0=32:=by
 rw[Int.toNat_natCast]
 constructor
 ·intro h
  have:(t.getD i 0).toNat=32:=by omega
  exact UInt8.toNat_inj.1 this
 ·intro h
  rw[h];rfl
theorem sub_full(xs:List (List UInt8)):subA (xs.map strR) 0 xs.length=xs.map strR:=by
 simp only[subA,List.drop_zero]
 rw[show xs.length=(xs.map strR).length by simp,List.take_length]
theorem c26(t:List UInt8)(h:t.length≤900000):Con Tryd.prog 26 [.str t] (undefs [.str t]) (ownS (wOut t (t.length+1))):=by
 refine Con.ev 36 T_ok mix Tryd.func26 rfl rfl rfl rfl [.tmp 2] rfl ?_
 conv=>whnf
 (apply rq_s rfl;conv=>whnf)
 rotate_left
 refine LoopG.bearT 3 101 [.str []] rfl rfl ?_
 refine LoopG.auto (α:=Nat) T_ok mix [0,3,4,5] (fun i=>[(0,.str t),(3,.ref 1 0 (wOut t i).length),(4,.int .i64 (wFrom t i)),(5,.int .i64 i)]) (fun i=>[(1,.live ⟨true,0,[.str []],(wOut t i).map strR⟩)]) (fun i=>i≤t.length+1) (fun i=>t.length+1-i) ?_ ?_
 ·conv=>whnf
  (apply ChkS.mk (by kernel_rfl);conv=>whnf)
  rotate_left
  exact head_s 0 (by omega) rfl rfl
 ·intro i hi _ _
  have hf:=wFrom_le t i
  have ho:=wOut_len t i
  conv=>whnf
  (iterate 16 (first|(refine rq_s (by solve|simp only[lnm]|fail) ?_;(conv=>whnf))|(apply rq_s rfl;(conv=>whnf))|(refine rq_s (by simp only[Bool.and_eq_true,decide_eq_true_eq,List.length_map];omega) ?_;(conv=>whnf))|(apply br_t rfl;(conv=>whnf))|(refine br_s ?_ ?_<;>intro hb<;>(try simp only[cln]at hb)<;>conv=>whnf)));(apply rq_s (by(((first|(simp[maxBytes,subA];done)|(simp[maxBytes,subA];omega)))));conv=>whnf);(refine app0_s ?_;conv=>whnf);(apply ChkS.mk (by kernel_rfl);conv=>whnf)
  rotate_left
  (apply ChkS.mk (by kernel_rfl);conv=>whnf)
  rotate_left
  (iterate 15 (first|(refine rq_s (by solve|simp only[lnm]|fail) ?_;(conv=>whnf))|(apply rq_s rfl;(conv=>whnf))|(refine rq_s (by simp only[Bool.and_eq_true,decide_eq_true_eq,List.length_map];omega) ?_;(conv=>whnf))|(apply br_f rfl;(conv=>whnf))|(refine br_s ?_ ?_<;>intro hb<;>(try simp only[cln]at hb)<;>conv=>whnf)));(apply rq_s (by(((first|(simp[maxBytes,subA];done)|(simp[maxBytes,subA];omega)))));conv=>whnf);(refine app0_s ?_;conv=>whnf);(apply ChkS.mk (by kernel_rfl);conv=>whnf)
  rotate_left
  (apply ChkS.mk (by kernel_rfl);conv=>whnf)
  rotate_left
  (apply ChkS.mk (by kernel_rfl);conv=>whnf)
  rotate_left
  (apply rq_s (by simp only[lnm];done);conv=>whnf);(apply rq_s rfl;conv=>whnf);(refine rows_s (by((refine sub_all ?_;simp[List.length_map];done))) ?_;conv=>whnf)
  rotate_left
  ·have hc:i=t.length∨t.getD i 0=32:=.inl (by assumption)
   refine head_s (i+1) ⟨by omega,by omega⟩ ?_ (congrArg (fun r=>[(1,MB.live ⟨true,0,[.str []],r⟩)]) ?_)
   ·rw[w_app hc (by assumption),w_from hc,wrap64 (by omega) (by omega)]
    simp[subA]
   ·rw[w_app hc (by assumption),List.map_append]
    show subA _ 0 _++subA _ 0 1=_
    rw[sub_full]
    rfl
  ·have hc:i=t.length∨t.getD i 0=32:=.inl (by assumption)
   refine head_s (i+1) ⟨by omega,by omega⟩ ?_ ?_
   ·rw[w_no (by omega),w_from hc,wrap64 (by omega) (by omega)];rfl
   ·rw[w_no (by omega)]
  ·have hc:i=t.length∨t.getD i 0=32:=.inr (c32.1 (by assumption))
   refine head_s (i+1) ⟨by omega,by omega⟩ ?_ (congrArg (fun r=>[(1,MB.live ⟨true,0,[.str []],r⟩)]) ?_)
   ·rw[w_app hc (by assumption),w_from hc,wrap64 (by omega) (by omega)]
    simp[subA]
   ·rw[w_app hc (by assumption),List.map_append]
    show subA _ 0 _++subA _ 0 1=_
    rw[sub_full]
    rfl
  ·have hc:i=t.length∨t.getD i 0=32:=.inr (c32.1 (by assumption))
   refine head_s (i+1) ⟨by omega,by omega⟩ ?_ ?_
   ·rw[w_no (by omega),w_from hc,wrap64 (by omega) (by omega)];rfl
   ·rw[w_no (by omega)]
  ·have hc: ¬(i=t.length∨t.getD i 0=32):=fun k=>k.elim (by assumption) fun k=>hb (c32.2 k)
   obtain⟨e1,e2⟩:=w_not hc
   refine head_s (i+1) ⟨by omega,by omega⟩ ?_ ?_
   ·rw[e1,e2,wrap64 (by omega) (by omega)];rfl
   ·rw[e1]
  ·obtain rfl:i=t.length+1:=by omega
   exact sh_s rfl
end U10

/- The number that digits are, by the reference. -/
open Go Go.Abs Go.Proofs V1 U2 U5 U6
namespace U11
def numV(t:List UInt8):AV:=.tup [.int .i64 (numF t).1,.bool (numF t).2]
theorem num_bad{t:List UInt8}(h:magOK (negT t) (magT t)=false):AV.tup [.int .i64 0,.bool false]=numV t:=by
 unfold numV numF
 rw[if_neg (by rw[h];simp)]
theorem neg_of{t:List UInt8}(h0:(t.length:Int)>0)(h:((t.getD (Int.toNat 0) 0).toNat:Int)=45):negT t=true∧magT t=t.drop 1:=by
 cases t with
 |nil=>simp at h0
 |cons c r=>
  have e:c.toNat=45:=by
   have h:((c.toNat:Nat):Int)=45:=h
   omega
  have:c=45:=UInt8.toNat_inj.1 e
  subst this
  have:negT (45::r)=true:=rfl
  exact⟨this,by unfold magT;rw[if_pos this]⟩
theorem pos_of{t:List UInt8}(h: ¬((t.getD (Int.toNat 0) 0).toNat:Int)=45):negT t=false∧magT t=t:=by
 have hn:negT t=false:=by
  cases t with
  |nil=>rfl
  |cons c r=>
   unfold negT
   cases he:(List.head? (c::r)==some 45)with
   |false=>rfl
   |true=>
    have:c=45:=by simpa using he
    subst this
    exact absurd rfl h
 exact⟨hn,by unfold magT;rw[if_neg (by rw[hn];simp)]⟩
theorem cut1(t:List UInt8):List.take (t.length-Int.toNat 1) (List.drop (Int.toNat 1) t)=t.drop 1:=List.take_of_length_le (by simp)
theorem bad1{g:Bool}{u:List UInt8}(h:(u.length:Int)=0):magOK g u=false:=by
 have:u=[]:=List.eq_nil_of_length_eq_zero (by omega)
 subst this;rfl
theorem bad2{g:Bool}{u:List UInt8}(h:(u.length:Int)>18):magOK g u=false:=by
 have:decide (u.length≤18)=false:=decide_eq_false (by omega)
 unfold magOK
 rw[this];simp
theorem head48{u:List UInt8}(h:((u.getD (Int.toNat 0) 0).toNat:Int)=48):(u.head?==some 48)=true:=by
 cases u with
 |nil=>exact absurd h (by decide)
 |cons c r=>
  have:c.toNat=48:=by
   have h:((c.toNat:Nat):Int)=48:=h
   omega
  have:c=48:=UInt8.toNat_inj.1 this
  subst this;rfl
theorem nohead{u:List UInt8}(h: ¬((u.getD (Int.toNat 0) 0).toNat:Int)=48):(u.head?==some 48)=false:=by
 cases u with
 |nil=>rfl
 |cons c r=>
  cases he:(List.head? (c::r)==some 48)with
  |false=>rfl
  |true=>
   have:c=48:=by simpa using he
   subst this
   exact absurd rfl h
theorem bad3{g:Bool}{u:List UInt8}(h:((u.getD (Int.toNat 0) 0).toNat:Int)=48)(hl:(u.length:Int)>1):magOK g u=false:=by
 have:decide (1<u.length)=true:=decide_eq_true (by omega)
 unfold magOK
 rw[head48 h,this];simp
theorem bad4{u:List UInt8}(h:((u.getD (Int.toNat 0) 0).toNat:Int)=48):magOK true u=false:=by
 unfold magOK
 rw[head48 h];simp
theorem good{g:Bool}{u:List UInt8}(h0: ¬(u.length:Int)=0)(h:(u.length:Int)≤18)(hh:(u.head?==some 48)=false∨(¬1<u.length∧g=false)):magOK g u=true:=by
 have h1:decide (u≠[])=true:=decide_eq_true fun e=>h0 (by rw[e];rfl)
 have h2:decide (u.length≤18)=true:=decide_eq_true (by omega)
 unfold magOK
 rw[h1,h2]
 rcases hh with hh|⟨hh,rfl⟩
 ·rw[hh];simp
 ·simp[hh]
theorem dig_app: ∀(l m:List UInt8)(a:Nat),digN a (l++m)=(digN a l).bind fun n=>digN n m
 |[],m,a=>rfl
 |c::l,m,a=>by
  simp only[List.cons_append,digN]
  split
  ·exact dig_app l m _
  ·rfl
theorem dig_next{u:List UInt8}{i n:Nat}(h:i<u.length)(hn:digN 0 (u.take i)=some n)(h1:48≤(u.getD i 0).toNat)(h2:(u.getD i 0).toNat≤57):digN 0 (u.take (i+1))=some (n*10+((u.getD i 0).toNat-48)):=by
 have e:u.getD i 0=u[i]:=by rw[List.getD_eq_getElem?_getD,List.getElem?_eq_getElem h];rfl
 rw[List.take_succ_eq_append_getElem h,dig_snoc,hn]
 simp only[Option.bind]
 rw[e]at h1 h2⊢
 rw[if_pos ⟨h1,h2⟩]
theorem dig_none{u:List UInt8}{i n:Nat}(h:i<u.length)(hn:digN 0 (u.take i)=some n)(h1: ¬(48≤(u.getD i 0).toNat∧(u.getD i 0).toNat≤57)):digN 0 u=none:=by
 have e:u.getD i 0=u[i]:=by rw[List.getD_eq_getElem?_getD,List.getElem?_eq_getElem h];rfl
 have hd:u=u.take i++(u[i]::u.drop (i+1)):=by rw[←List.drop_eq_getElem_cons h,List.take_append_drop]
 rw[hd,dig_app,hn]
 simp only[Option.bind,digN]
 rw[e]at h1
 rw[if_neg h1]
theorem dig_big{u:List UInt8}{i n:Nat}(hu:u.length≤18)(hn:digN 0 (u.take i)=some n):n<1000000000000000000:=by
 have h1:=dig_lt _ _ _ hn
 have h2:10 ^ (u.take i).length≤10 ^ 18:=Nat.pow_le_pow_right (by omega) (by simp;omega)
 simp only[Nat.zero_add,Nat.one_mul]at h1
 have:(10:Nat) ^ 18=1000000000000000000:=by decide
 omega
theorem num_good{t:List UInt8}(hm:magOK (negT t) (magT t)=true){n:Nat}(hn:digN 0 (magT t)=some n):numV t=.tup [.int .i64 (if negT t=true then-(n:Int)else n),.bool true]:=by
 unfold numV numF
 rw[if_pos hm,hn]
theorem num_none{t:List UInt8}(hn:digN 0 (magT t)=none):AV.tup [.int .i64 0,.bool false]=numV t:=by
 unfold numV numF
 rw[hn]
 split<;>rfl
structure Rd where
 i:Nat
 n:Nat
theorem c30(t:List UInt8):Con Tryd.prog 30 [.str t] (undefs [.str t]) (numV t):=by
 refine Con.evF 66 T_ok mix Tryd.func30 rfl rfl rfl rfl [.tmp 2,.tmp 3] rfl fun⟨hx,_⟩=> ?_
 conv=>whnf
 iterate 21 (first|(apply rq_s rfl;(conv=>whnf))|(refine rq_s (by simp only[Bool.and_eq_true,decide_eq_true_eq,List.length_map];omega) ?_;(conv=>whnf))|(apply br_t rfl;(conv=>whnf))|(refine br_s ?_ ?_<;>intro hb<;>(try simp only[cln]at hb)<;>conv=>whnf))
 rotate_left
 iterate 11 (first|(apply rq_s rfl;(conv=>whnf))|(apply br_t rfl;(conv=>whnf))|(apply br_f rfl;(conv=>whnf))|(refine br_s ?_ ?_<;>intro hb<;>(try simp only[cln]at hb)<;>conv=>whnf))
 rotate_left
 iterate 17 (first|(apply rq_s rfl;(conv=>whnf))|(refine rq_s (by simp only[Bool.and_eq_true,decide_eq_true_eq,List.length_map];omega) ?_;(conv=>whnf))|(apply br_t rfl;(conv=>whnf))|(apply br_f rfl;(conv=>whnf))|(refine br_s ?_ ?_<;>intro hb<;>(try simp only[cln]at hb)<;>conv=>whnf))
 rotate_left
 iterate 6 ((first|apply rq_s rfl|apply br_t rfl|apply br_f rfl);conv=>whnf)
 rotate_left
 iterate 7 (apply br_f rfl;conv=>whnf)
 rotate_left
 iterate 13 (first|(apply rq_s rfl;(conv=>whnf))|(apply br_t rfl;(conv=>whnf))|(refine br_s ?_ ?_<;>intro hb<;>(try simp only[cln]at hb)<;>conv=>whnf))
 rotate_left
 iterate 11 (first|(apply rq_s rfl;(conv=>whnf))|(apply br_t rfl;(conv=>whnf))|(apply br_f rfl;(conv=>whnf))|(refine br_s ?_ ?_<;>intro hb<;>(try simp only[cln]at hb)<;>conv=>whnf))
 rotate_left
 iterate 17 (first|(apply rq_s rfl;(conv=>whnf))|(refine rq_s (by simp only[Bool.and_eq_true,decide_eq_true_eq,List.length_map];omega) ?_;(conv=>whnf))|(apply br_t rfl;(conv=>whnf))|(apply br_f rfl;(conv=>whnf))|(refine br_s ?_ ?_<;>intro hb<;>(try simp only[cln]at hb)<;>conv=>whnf))
 rotate_left
 iterate 4 ((first|apply br_t rfl|apply br_f rfl);conv=>whnf)
 rotate_left
 iterate 7 (apply br_f rfl;conv=>whnf)
 rotate_left
 iterate 17 (first|(apply rq_s rfl;(conv=>whnf))|(apply br_t rfl;(conv=>whnf))|(apply br_f rfl;(conv=>whnf))|(refine br_s ?_ ?_<;>intro hb<;>(try simp only[cln]at hb)<;>conv=>whnf))
 rotate_left
 iterate 11 (first|(apply rq_s rfl;(conv=>whnf))|(apply br_t rfl;(conv=>whnf))|(apply br_f rfl;(conv=>whnf))|(refine br_s ?_ ?_<;>intro hb<;>(try simp only[cln]at hb)<;>conv=>whnf))
 rotate_left
 iterate 17 (first|(apply rq_s rfl;(conv=>whnf))|(refine rq_s (by refine and_s rfl ?_;simp only[lnm];omega) ?_;(conv=>whnf))|(apply br_t rfl;(conv=>whnf))|(apply br_f rfl;(conv=>whnf))|(refine br_s ?_ ?_<;>intro hb<;>(try simp only[cln]at hb)<;>conv=>whnf))
 rotate_left
 iterate 4 ((first|apply br_t rfl|apply br_f rfl);conv=>whnf)
 rotate_left
 iterate 7 (apply br_f rfl;conv=>whnf)
 rotate_left
 ·obtain⟨n1,n2⟩:=neg_of (by assumption) (by assumption)
  simp only[cut1]at*
  exact sh_s (num_bad (by rw[n1,n2];exact bad1 (by assumption)))
 ·obtain⟨n1,n2⟩:=neg_of (by assumption) (by assumption)
  simp only[cut1]at*
  exact sh_s (num_bad (by rw[n1,n2];exact bad2 (by assumption)))
 ·obtain⟨n1,n2⟩:=neg_of (by assumption) (by assumption)
  simp only[cut1]at*
  exact sh_s (num_bad (by rw[n1,n2];exact bad3 (by assumption) (by assumption)))
 ·obtain⟨n1,n2⟩:=neg_of (by assumption) (by assumption)
  simp only[cut1]at*
  exact sh_s (num_bad (by rw[n1,n2];exact bad4 (by assumption)))
 ·obtain⟨n1,n2⟩:=neg_of (by assumption) (by assumption)
  try simp only[cut1]at*
  have hu:(t.drop 1).length≤18:=by omega
  have hm:magOK (negT t) (magT t)=true:=by rw[n1,n2];exact good (by assumption) (by assumption) (.inl (nohead (by assumption)))
  refine LoopG.auto (α:=Rd) T_ok mix [0,4,5,6] (fun s=>[(0,.str (t.drop 1)),(4,.int .i64 (-1)),(5,.int .i64 s.n),(6,.int .i64 s.i)]) (fun _=>[]) (fun s=>s.i≤(t.drop 1).length∧digN 0 ((t.drop 1).take s.i)=some s.n) (fun s=>(t.drop 1).length-s.i) ?_ ?_
  ·conv=>whnf
   (apply ChkS.mk (by kernel_rfl);conv=>whnf)
   rotate_left
   exact head_s ⟨0,0⟩ ⟨by simp,rfl⟩ (by rfl) rfl
  ·rintro ⟨i,n⟩ ⟨hi,hn⟩- -
   have hb18:=dig_big hu hn
   simp only at hi hn hb18
   conv=>whnf
   iterate 11 (first|(apply rq_s rfl;(conv=>whnf))|(refine rq_s (by simp only[Bool.and_eq_true,decide_eq_true_eq,List.length_map];omega) ?_;(conv=>whnf))|(apply br_t rfl;(conv=>whnf))|(refine br_s ?_ ?_<;>intro hb<;>(try simp only[cln]at hb)<;>conv=>whnf))
   rotate_left
   iterate 8 (first|(apply rq_s rfl;(conv=>whnf))|(refine rq_s (by simp only[Bool.and_eq_true,decide_eq_true_eq,List.length_map];omega) ?_;(conv=>whnf))|(apply br_f rfl;(conv=>whnf))|(refine br_s ?_ ?_<;>intro hb<;>(try simp only[cln]at hb)<;>conv=>whnf))
   rotate_left
   iterate 3 ((first|apply rq_s rfl|refine rq_s (by simp only[Bool.and_eq_true,decide_eq_true_eq,List.length_map];omega) ?_|refine ChkS.mk (by kernel_rfl) ?_);conv=>whnf)
   rotate_left
   iterate 2 (apply rq_s rfl;conv=>whnf)
   rotate_left
   ·refine sh_s (num_none ?_)
    rw[n2]
    exact dig_none (by omega) hn (by simp only[Int.toNat_natCast]at*;omega)
   ·refine sh_s (num_none ?_)
    rw[n2]
    exact dig_none (by omega) hn (by simp only[Int.toNat_natCast]at*;omega)
   ·simp only[Int.toNat_natCast]at*
    have hb':=dig_big hu (dig_next (u:=t.drop 1) (i:=i) (by omega) hn (by omega) (by omega))
    refine head_s ⟨i+1,n*10+(((t.drop 1).getD i 0).toNat-48)⟩ ⟨⟨by simp only;omega,dig_next (by omega) hn (by omega) (by omega)⟩,by simp only;omega⟩ ?_ rfl
    have hc:=((t.drop 1).getD i 0).toNat_lt
    rw[wrap64 (n:=(n:Int)*10) (by omega) (by omega),wrap64 (n:=(((t.drop 1).getD i 0).toNat:Int)) (by omega) (by omega),wrap64 (n:=(n:Int)*10+_) (by omega) (by omega),wrap64 (n:=(n:Int)*10+_-48) (by omega) (by omega),wrap64 (n:=(i:Int)+1) (by omega) (by omega)]
    simp only[List.cons.injEq,Prod.mk.injEq,AV.int.injEq,true_and,and_true]
    omega
   ·obtain rfl:i=(t.drop 1).length:=by omega
    rw[List.take_length]at hn
    refine sh_s ?_
    rw[num_good hm (n:=n) (by rw[n2];exact hn),n1]
    simp only
    rw[wrap64 (by omega) (by omega)]
    simp
 ·obtain⟨n1,n2⟩:=pos_of (by assumption)
  exact sh_s (num_bad (by rw[n1,n2];exact bad1 (by assumption)))
 ·obtain⟨n1,n2⟩:=pos_of (by assumption)
  exact sh_s (num_bad (by rw[n1,n2];exact bad2 (by assumption)))
 ·obtain⟨n1,n2⟩:=pos_of (by assumption)
  exact sh_s (num_bad (by rw[n1,n2];exact bad3 (by assumption) (by assumption)))
 ·obtain⟨n1,n2⟩:=pos_of (by assumption)
  have hu:(t).length≤18:=by omega
  have hm:magOK (negT t) (magT t)=true:=by rw[n1,n2];exact good (by assumption) (by assumption) (.inr ⟨by omega,rfl⟩)
  refine LoopG.auto (α:=Rd) T_ok mix [0,4,5,6] (fun s=>[(0,.str (t)),(4,.int .i64 (1)),(5,.int .i64 s.n),(6,.int .i64 s.i)]) (fun _=>[]) (fun s=>s.i≤(t).length∧digN 0 ((t).take s.i)=some s.n) (fun s=>(t).length-s.i) ?_ ?_
  ·conv=>whnf
   (apply ChkS.mk (by kernel_rfl);conv=>whnf)
   rotate_left
   exact head_s ⟨0,0⟩ ⟨by simp,rfl⟩ (by rfl) rfl
  ·rintro ⟨i,n⟩ ⟨hi,hn⟩- -
   have hb18:=dig_big hu hn
   simp only at hi hn hb18
   conv=>whnf
   iterate 11 (first|(apply rq_s rfl;(conv=>whnf))|(refine rq_s (by simp only[Bool.and_eq_true,decide_eq_true_eq,List.length_map];omega) ?_;(conv=>whnf))|(apply br_t rfl;(conv=>whnf))|(refine br_s ?_ ?_<;>intro hb<;>(try simp only[cln]at hb)<;>conv=>whnf))
   rotate_left
   iterate 8 (first|(apply rq_s rfl;(conv=>whnf))|(refine rq_s (by simp only[Bool.and_eq_true,decide_eq_true_eq,List.length_map];omega) ?_;(conv=>whnf))|(apply br_f rfl;(conv=>whnf))|(refine br_s ?_ ?_<;>intro hb<;>(try simp only[cln]at hb)<;>conv=>whnf))
   rotate_left
   iterate 3 ((first|apply rq_s rfl|refine rq_s (by simp only[Bool.and_eq_true,decide_eq_true_eq,List.length_map];omega) ?_|refine ChkS.mk (by kernel_rfl) ?_);conv=>whnf)
   rotate_left
   iterate 2 (apply rq_s rfl;conv=>whnf)
   rotate_left
   ·refine sh_s (num_none ?_)
    rw[n2]
    exact dig_none (by omega) hn (by simp only[Int.toNat_natCast]at*;omega)
   ·refine sh_s (num_none ?_)
    rw[n2]
    exact dig_none (by omega) hn (by simp only[Int.toNat_natCast]at*;omega)
   ·simp only[Int.toNat_natCast]at*
    have hb':=dig_big hu (dig_next (u:=t) (i:=i) (by omega) hn (by omega) (by omega))
    refine head_s ⟨i+1,n*10+(((t).getD i 0).toNat-48)⟩ ⟨⟨by simp only;omega,dig_next (by omega) hn (by omega) (by omega)⟩,by simp only;omega⟩ ?_ rfl
    have hc:=((t).getD i 0).toNat_lt
    rw[wrap64 (n:=(n:Int)*10) (by omega) (by omega),wrap64 (n:=(((t).getD i 0).toNat:Int)) (by omega) (by omega),wrap64 (n:=(n:Int)*10+_) (by omega) (by omega),wrap64 (n:=(n:Int)*10+_-48) (by omega) (by omega),wrap64 (n:=(i:Int)+1) (by omega) (by omega)]
    simp only[List.cons.injEq,Prod.mk.injEq,AV.int.injEq,true_and,and_true]
    omega
   ·obtain rfl:i=(t).length:=by omega
    rw[List.take_length]at hn
    refine sh_s ?_
    rw[num_good hm (n:=n) (by rw[n2];exact hn),n1]
    simp only
    rw[wrap64 (by omega) (by omega)]
    simp
 ·obtain⟨n1,n2⟩:=pos_of (by assumption)
  have hu:(t).length≤18:=by omega
  have hm:magOK (negT t) (magT t)=true:=by rw[n1,n2];exact good (by assumption) (by assumption) (.inl (nohead (by assumption)))
  refine LoopG.auto (α:=Rd) T_ok mix [0,4,5,6] (fun s=>[(0,.str (t)),(4,.int .i64 (1)),(5,.int .i64 s.n),(6,.int .i64 s.i)]) (fun _=>[]) (fun s=>s.i≤(t).length∧digN 0 ((t).take s.i)=some s.n) (fun s=>(t).length-s.i) ?_ ?_
  ·conv=>whnf
   (apply ChkS.mk (by kernel_rfl);conv=>whnf)
   rotate_left
   exact head_s ⟨0,0⟩ ⟨by simp,rfl⟩ (by rfl) rfl
  ·rintro ⟨i,n⟩ ⟨hi,hn⟩- -
   have hb18:=dig_big hu hn
   simp only at hi hn hb18
   conv=>whnf
   iterate 11 (first|(apply rq_s rfl;(conv=>whnf))|(refine rq_s (by simp only[Bool.and_eq_true,decide_eq_true_eq,List.length_map];omega) ?_;(conv=>whnf))|(apply br_t rfl;(conv=>whnf))|(refine br_s ?_ ?_<;>intro hb<;>(try simp only[cln]at hb)<;>conv=>whnf))
   rotate_left
   iterate 8 (first|(apply rq_s rfl;(conv=>whnf))|(refine rq_s (by simp only[Bool.and_eq_true,decide_eq_true_eq,List.length_map];omega) ?_;(conv=>whnf))|(apply br_f rfl;(conv=>whnf))|(refine br_s ?_ ?_<;>intro hb<;>(try simp only[cln]at hb)<;>conv=>whnf))
   rotate_left
   iterate 3 ((first|apply rq_s rfl|refine rq_s (by simp only[Bool.and_eq_true,decide_eq_true_eq,List.length_map];omega) ?_|refine ChkS.mk (by kernel_rfl) ?_);conv=>whnf)
   rotate_left
   iterate 2 (apply rq_s rfl;conv=>whnf)
   rotate_left
   ·refine sh_s (num_none ?_)
    rw[n2]
    exact dig_none (by omega) hn (by simp only[Int.toNat_natCast]at*;omega)
   ·refine sh_s (num_none ?_)
    rw[n2]
    exact dig_none (by omega) hn (by simp only[Int.toNat_natCast]at*;omega)
   ·simp only[Int.toNat_natCast]at*
    have hb':=dig_big hu (dig_next (u:=t) (i:=i) (by omega) hn (by omega) (by omega))
    refine head_s ⟨i+1,n*10+(((t).getD i 0).toNat-48)⟩ ⟨⟨by simp only;omega,dig_next (by omega) hn (by omega) (by omega)⟩,by simp only;omega⟩ ?_ rfl
    have hc:=((t).getD i 0).toNat_lt
    rw[wrap64 (n:=(n:Int)*10) (by omega) (by omega),wrap64 (n:=(((t).getD i 0).toNat:Int)) (by omega) (by omega),wrap64 (n:=(n:Int)*10+_) (by omega) (by omega),wrap64 (n:=(n:Int)*10+_-48) (by omega) (by omega),wrap64 (n:=(i:Int)+1) (by omega) (by omega)]
    simp only[List.cons.injEq,Prod.mk.injEq,AV.int.injEq,true_and,and_true]
    omega
   ·obtain rfl:i=(t).length:=by omega
    rw[List.take_length]at hn
    refine sh_s ?_
    rw[num_good hm (n:=n) (by rw[n2];exact hn),n1]
    simp only
    rw[wrap64 (by omega) (by omega)]
    simp
 ·have ht:t=[]:=List.eq_nil_of_length_eq_zero (by omega)
  subst ht
  exact sh_s rfl
 all_goals (exfalso;omega)
end U11

/- Words by both, plain. -/
open Go Go.Abs Go.Proofs V1 U2 U4 U5 U6 U7 U8 U10 U11
namespace U12
def consH(x:UInt8):List (List UInt8)→List (List UInt8)
 |[]=>[[x]]
 |h::l=>(x::h)::l
def spc:List UInt8→List (List UInt8)
 |[]=>[[]]
 |x::r=>if x=32 then[]::spc r else consH x (spc r)
theorem split_spc: ∀s:List UInt8,Lib.splitK [32] 0 (s.count 32) s=spc s
 |[]=>rfl
 |x::r=>by
  have ih:=split_spc r
  by_cases hx:x=32
  ·subst hx
   have hi:Lib.index (32::r) [32]=0:=by simp[Lib.index]
   rw[List.count_cons_self,Lib.splitK,if_neg (by rw[hi];decide),hi,spc,if_pos rfl,←ih]
   rfl
  ·have hc:(x::r).count 32=r.count 32:=List.count_cons_of_ne hx
   have hp:([32]:List UInt8).isPrefixOf (x::r)=false:=by
    show((32:UInt8)==x&&([]:List UInt8).isPrefixOf r)=false
    rw[beq_eq_false_iff_ne.2 (Ne.symm hx)];rfl
   rw[hc,spc,if_neg hx,←ih]
   cases hk:r.count 32 with
   |zero=>rfl
   |succ k=>
    rw[Lib.splitK,Lib.splitK]
    by_cases hr:(Lib.index r [32]== -1)=true
    ·have hi:Lib.index (x::r) [32]= -1:=by rw[Lib.index,hp];simp[beq_iff_eq.1 hr]
     rw[if_pos hr,if_pos (by rw[hi];rfl)]
     rfl
    ·have hge:=Lib.index_ge r [32]
     have hne:Lib.index r [32]≠ -1:=fun e=>hr (by rw[e];rfl)
     have hi:Lib.index (x::r) [32]=Lib.index r [32]+1:=by rw[Lib.index,hp];simp[hne]
     rw[if_neg hr,if_neg (by rw[hi];intro e;have:=beq_iff_eq.1 e;omega),hi]
     rw[show(Lib.index r [32]+1).toNat=(Lib.index r [32]).toNat+1 by omega]
     rfl
def wordsGo:List UInt8→List UInt8→List (List UInt8)
 |[],cur=>if cur=[]then[]else[cur]
 |x::r,cur=>if x=32 then(if cur=[]then wordsGo r []else cur::wordsGo r [])else wordsGo r (cur++[x])
def preH(cur:List UInt8):List (List UInt8)→List (List UInt8)
 |[]=>[cur]
 |h::l=>(cur++h)::l
theorem keep_iff(s:List UInt8):keepE s=true↔s≠[]:=by simp[keepE,isE]
theorem pre_nil{l:List (List UInt8)}(h:l≠[]):preH [] l=l:=by
 cases l with
 |nil=>exact absurd rfl h
 |cons a l=>rfl
theorem spc_ne: ∀s,spc s≠[]
 |[]=>by simp[spc]
 |x::r=>by
  unfold spc
  split
  ·simp
  ·cases spc r<;>simp[consH]
theorem filter_spc: ∀(r cur:List UInt8),(preH cur (spc r)).filter keepE=wordsGo r cur
 |[],cur=>by
  simp only[spc,preH,List.append_nil,wordsGo]
  by_cases h:cur=[]
  ·subst h;rfl
  ·rw[if_neg h,List.filter_cons_of_pos ((keep_iff cur).2 h)];rfl
 |x::r,cur=>by
  by_cases hx:x=32
  ·subst hx
   have h2:=filter_spc r []
   rw[pre_nil (spc_ne r)]at h2
   simp only[spc,if_true,preH,List.append_nil,wordsGo]
   by_cases h:cur=[]
   ·subst h
    rw[if_pos rfl,List.filter_cons_of_neg (by simp[keepE,isE]),h2]
   ·rw[if_neg h,List.filter_cons_of_pos ((keep_iff cur).2 h),h2]
  ·rw[spc,if_neg hx,wordsGo,if_neg hx,←filter_spc r (cur++[x])]
   cases hs:spc r with
   |nil=>exact absurd hs (spc_ne r)
   |cons a l=>simp[consH,preH]
theorem words_out(t:List UInt8): ∀i,i≤t.length→wOut t i++wordsGo (t.drop i) ((t.drop (wFrom t i)).take (i-wFrom t i))=wordsGo t []
 |0,_=>by simp[wOut,wFrom]
 |i+1,h=>by
  have ih:=words_out t i (by omega)
  have hf:=wFrom_le t i
  have hi:i<t.length:=by omega
  have hl:((t.drop (wFrom t i)).take (i-wFrom t i)).length=i-wFrom t i:=by simp;omega
  have eg:t.getD i 0=t[i]:=by rw[List.getD_eq_getElem?_getD,List.getElem?_eq_getElem hi];rfl
  rw[List.drop_eq_getElem_cons hi]at ih
  by_cases hx:t[i]=32
  ·have hc:i=t.length∨t.getD i 0=32:=.inr (eg.trans hx)
   rw[w_from hc,Nat.sub_self,List.take_zero]
   rw[wordsGo,if_pos hx]at ih
   by_cases hlt:wFrom t i<i
   ·rw[w_app hc hlt,List.append_assoc]
    rw[if_neg (fun e=>by rw[e]at hl;simp at hl;omega)]at ih
    exact ih
   ·rw[w_no hlt]
    rw[if_pos (List.eq_nil_of_length_eq_zero (by omega))]at ih
    exact ih
  ·have hc: ¬(i=t.length∨t.getD i 0=32):=fun k=>k.elim (by omega) fun k=>hx (eg.symm.trans k)
   obtain⟨e1,e2⟩:=w_not hc
   rw[e1,e2]
   rw[wordsGo,if_neg hx]at ih
   have ht:(t.drop (wFrom t i)).take (i+1-wFrom t i)=(t.drop (wFrom t i)).take (i-wFrom t i)++[t[i]]:=by
    rw[show i+1-wFrom t i=(i-wFrom t i)+1 by omega,List.take_succ_eq_append_getElem (by simp;omega)]
    simp only[List.getElem_drop]
    congr 2
    simp[show wFrom t i+(i-wFrom t i)=i by omega]
   rw[ht]
   exact ih
theorem words_same(t:List UInt8):wOut t (t.length+1)=(splL t 32).filter keepE:=by
 have h1:=words_out t t.length (Nat.le_refl _)
 have h2:=filter_spc t []
 rw[pre_nil (spc_ne t),←split_spc,←count_lib]at h2
 have h3:(splL t 32).filter keepE=wordsGo t []:=h2
 rw[h3,←h1,List.drop_length,wordsGo]
 have hf:=wFrom_le t t.length
 have hl:((t.drop (wFrom t t.length)).take (t.length-wFrom t t.length)).length=t.length-wFrom t t.length:=by simp
 by_cases hlt:wFrom t t.length<t.length
 ·rw[w_app (.inl rfl) hlt,if_neg (fun e=>by rw[e]at hl;simp at hl;omega)]
 ·rw[w_no hlt,if_pos (List.eq_nil_of_length_eq_zero (by omega)),List.append_nil]
def wordsW(t:List UInt8):List (List UInt8):=wOut t (t.length+1)
theorem words_i(t:List UInt8)(h:t.length≤900000):Con Tryd.prog 32 [.str t] (undefs [.str t]) (ownS (wordsW t)):=by
 rw[wordsW,words_same];exact U9.c32 t h
theorem words_s(t:List UInt8)(h:t.length≤900000):Con Tryd.prog 26 [.str t] (undefs [.str t]) (ownS (wordsW t)):=U10.c26 t h
theorem words_str(t:List UInt8): ∀s∈wordsW t,s.length≤t.length:=wOut_str t _
end U12

/- Actions read: contracts of the program's and the reference's. -/
open Go Go.Abs Go.Proofs V1 U2 U3 U4 U5 U6 U7 U8 U9 U10 U11 U12
namespace U13
def evalP:List UInt8:=[101,118,97,108,32]
def kI(w:List UInt8):Int:=findI (fun y=>w==y) actW
def kS(w:List UInt8):Int:=findI (fun y=>y==w) actX
def cI(w:List UInt8):Int:=findI (fun y=>w==y) capW
theorem find_range{α:Type}(p:α→Bool)(xs:List α): -1≤findI p xs∧findI p xs<xs.length:=by
 unfold findI
 cases h:xs.findIdx? p with
 |none=>exact⟨show-1≤(-1:Int) by decide,show(-1:Int)<xs.length by omega⟩
 |some i=>
  obtain⟨hi,_⟩:=List.findIdx?_eq_some_iff_getElem.1 h
  exact⟨show-1≤(i:Int) by omega,show(i:Int)<xs.length by omega⟩
theorem kI_range(w:List UInt8): -1≤kI w∧kI w≤4:=by
 have:=find_range (fun y=>w==y) actW
 have e:actW.length=5:=rfl
 unfold kI;omega
theorem kS_range(w:List UInt8): -1≤kS w∧kS w≤5:=by
 have:=find_range (fun y=>y==w) actX
 have e:actX.length=6:=rfl
 unfold kS;omega
def evA(t:List UInt8):Doing:=⟨6,0,t.drop 5⟩
def act0:Doing:=⟨0,0,[]⟩
def twoI(w0 w1:List UInt8):Doing × Bool:=
 if 1≤kI w0+1∧kI w0+1≤2 then(⟨kI w0+1,cI w1,[]⟩,actOK ⟨kI w0+1,cI w1,[]⟩)
 else(⟨kI w0+1,(numI w1).1,[]⟩,(decide (1≤kI w0+1)&&(numI w1).2)&&actOK ⟨kI w0+1,(numI w1).1,[]⟩)
def rdI(t:List UInt8):Doing × Bool:=if hasP t evalP=true then(evA t,actOK (evA t))else match wordsW t with
 |[w0,w1]=>twoI w0 w1
 |_=>(act0,false)
def rdV(r:Doing × Bool):AV:=.tup [actV r.1,.bool r.2]
theorem okI(k n:Int):Con Tryd.prog 12 [.agg [.int .i64 k,.int .i64 n,.str []]] (undefs [.agg [.int .i64 k,.int .i64 n,.str []]]) (.bool (actOK ⟨k,n,[]⟩)):=c12 ⟨k,n,[]⟩
theorem okS(k n:Int):Con Tryd.prog 21 [.agg [.int .i64 k,.int .i64 n,.str []]] (undefs [.agg [.int .i64 k,.int .i64 n,.str []]]) (.bool (actOK ⟨k,n,[]⟩)):=c21 ⟨k,n,[]⟩
theorem wv2:IntKind.i64.wrap 0=0∧IntKind.i64.wrap 1=1∧IntKind.i64.wrap 2=2∧IntKind.i64.wrap 3=3∧IntKind.i64.wrap 4=4∧IntKind.i64.wrap 5=5∧IntKind.i64.wrap 6=6:=by decide
set_option maxHeartbeats 4000000 in
theorem c14(t:List UInt8)(h:t.length≤900000):Con Tryd.prog 14 [.str t] (undefs [.str t]) (rdV (rdI t)):=by
 have kc:=c31 t evalP
 unfold cutV at kc
 have kw:=words_i t h
 unfold rdI
 cases hp:hasP t evalP with
 |true=>
  rw[hp]at kc
  rw[if_pos rfl]
  have ko:=c12 (evA t)
  refine Con.ev 70 T_ok mix Tryd.func14 rfl rfl rfl rfl [.cell 2 23,.tmp 3] rfl ?_
  conv=>whnf
  (iterate 22 ((first|apply rq_s rfl|refine fac_s (fun hf=> ?_)|refine ChkS.mk (by kernel_rfl) ?_|apply br_t rfl|apply lend_s|refine call_s (kc ..) ?_|refine call_s (ko ..) ?_);conv=>whnf));(refine sh_s ?_;(rfl))
 |false=>
  rw[hp]at kc
  rw[if_neg (by decide)]
  cases hw:wordsW t with
  |nil=>
   rw[hw]at kw
   refine Con.ev 70 T_ok mix Tryd.func14 rfl rfl rfl rfl [.cell 2 23,.tmp 3] rfl ?_
   conv=>whnf
   (iterate 17 ((first|apply rq_s rfl|refine fac_s (fun hf=> ?_)|apply br_t rfl|apply br_f rfl|apply lend_s|refine call_s (kc ..) ?_|refine call_s (kw ..) ?_);conv=>whnf));(refine sh_s ?_;(rfl))
  |cons w0 l=>cases l with
   |nil=>
    rw[hw]at kw
    refine Con.ev 70 T_ok mix Tryd.func14 rfl rfl rfl rfl [.cell 2 23,.tmp 3] rfl ?_
    conv=>whnf
    (iterate 17 ((first|apply rq_s rfl|refine fac_s (fun hf=> ?_)|apply br_t rfl|apply br_f rfl|apply lend_s|refine call_s (kc ..) ?_|refine call_s (kw ..) ?_);conv=>whnf));(refine sh_s ?_;(rfl))
   |cons w1 l=>cases l with
    |cons w2 l=>
     rw[hw]at kw
     have hl:(((w0::w1::w2::l).map strR).length:Int)≠2:=by simp;omega
     refine Con.ev 70 T_ok mix Tryd.func14 rfl rfl rfl rfl [.cell 2 23,.tmp 3] rfl ?_
     conv=>whnf
     (iterate 17 ((first|apply rq_s rfl|refine fac_s (fun hf=> ?_)|apply br_t rfl|apply br_f rfl|apply lend_s|refine call_s (kc ..) ?_|refine call_s (kw ..) ?_);conv=>whnf));(refine sh_s ?_;(rfl))
    |nil=>
     rw[hw]at kw
     have hk:=kI_range w0
     have hw1:w1.length≤1000000:=Nat.le_trans (words_str t w1 (by rw[hw];simp)) (by omega)
     have k1:Con Tryd.prog 33 [.ro [.str []] (actW.map strR),.str w0] (undefs [.ro [.str []] (actW.map strR),.str w0]) (.int .i64 (kI w0)):=c33 actW w0
     have k2:Con Tryd.prog 33 [.ro [.str []] (capW.map strR),.str w1] (undefs [.ro [.str []] (capW.map strR),.str w1]) (.int .i64 (cI w1)):=c33 capW w1
     have kr:=c34 w1 hw1
     have hv:kI w0= -1∨kI w0=0∨kI w0=1∨kI w0=2∨kI w0=3∨kI w0=4:=by omega
     cases hn:numI w1 with
     |mk n b=>
      rw[hn]at kr
      cases b<;>rcases hv with hv|hv|hv|hv|hv|hv<;>rw[hv]at k1<;>
      (refine Con.ev 70 T_ok mix Tryd.func14 rfl rfl rfl rfl [.cell 2 23,.tmp 3] rfl ?_
       conv=>whnf
       (iterate 24 ((first|refine rq_s (by solve|simp only[lnm]|fail) ?_|apply rq_s rfl|refine row_s (by(rfl)) ?_|refine fac_s (fun hf=> ?_)|refine ChkS.mk (by kernel_rfl) ?_|apply br_f rfl|apply lend_s|refine call_s (kc ..) ?_|refine call_s (kw ..) ?_|refine call_s (c18 ..) ?_);conv=>whnf));(refine rows_s (by((refine sub_all ?_;simp[List.length_map];done))) ?_;conv=>whnf);iterate 10 ((first|apply rq_s rfl|refine fac_s (fun hf=> ?_)|refine ChkS.mk (by kernel_rfl) ?_|refine call_s (k1 ..) ?_);conv=>whnf)
       first
        |(iterate 33 ((first|refine rq_s (by solve|simp only[lnm]|fail) ?_|apply rq_s rfl|refine row_s (by(rfl)) ?_|refine fac_s (fun hf=> ?_)|refine ChkS.mk (by kernel_rfl) ?_|apply br_f rfl|apply lend_s|refine call_s (kr ..) ?_);conv=>whnf)
          (focus (refine sh_s ?_;(first|(simp[rdV,twoI,hv,hn,actV,actR,wv2];done)|(simp[rdV,twoI,hv,hn,actV,actR,wv2];rfl)))))
        |(iterate 2 ((first|apply rq_s rfl|apply br_t rfl);conv=>whnf)
          first
           |(iterate 16 ((first|refine rq_s (by solve|simp only[lnm]|fail) ?_|apply rq_s rfl|refine row_s (by(rfl)) ?_|refine ChkS.mk (by kernel_rfl) ?_|apply br_t rfl|refine call_s (c19 ..) ?_);conv=>whnf)
             (refine rows_s (by((refine sub_all ?_;simp[List.length_map];done))) ?_;conv=>whnf);iterate 27 ((first|apply rq_s rfl|refine fac_s (fun hf=> ?_)|refine ChkS.mk (by kernel_rfl) ?_|apply br_t rfl|refine call_s (k2 ..) ?_|refine call_s (okI ..) ?_);conv=>whnf)
             (focus (refine sh_s ?_;(first|(simp[rdV,twoI,hv,hn,actV,actR,wv2];done)|(simp[rdV,twoI,hv,hn,actV,actR,wv2];rfl)))))
           |(iterate 17 ((first|refine rq_s (by solve|simp only[lnm]|fail) ?_|apply rq_s rfl|refine row_s (by(rfl)) ?_|refine fac_s (fun hf=> ?_)|refine ChkS.mk (by kernel_rfl) ?_|apply br_t rfl|apply br_f rfl|apply lend_s|refine call_s (kr ..) ?_);conv=>whnf)
             first
              |(iterate 13 ((first|apply rq_s rfl|refine ChkS.mk (by kernel_rfl) ?_|apply br_f rfl);conv=>whnf)
                (focus (refine sh_s ?_;(first|(simp[rdV,twoI,hv,hn,actV,actR,wv2];done)|(simp[rdV,twoI,hv,hn,actV,actR,wv2];rfl)))))
              |(iterate 16 ((first|apply rq_s rfl|refine ChkS.mk (by kernel_rfl) ?_|apply br_t rfl|refine call_s (okI ..) ?_);conv=>whnf)
                (focus (refine sh_s ?_;(first|(simp[rdV,twoI,hv,hn,actV,actR,wv2];done)|(simp[rdV,twoI,hv,hn,actV,actR,wv2];rfl))))))))
end U13

/- Actions read by the reference: contract. -/
open Go Go.Abs Go.Proofs V1 U2 U3 U4 U5 U6 U7 U8 U9 U10 U11 U12 U13
namespace U14
def cS(w:List UInt8):Int:=findI (fun y=>y==w) capW
def twoS(w0 w1:List UInt8):Doing × Bool:=
 if kS w0+1=0∨kS w0+1=6 then(act0,false)
 else if kS w0+1≤2 then(⟨kS w0+1,cS w1,[]⟩,actOK ⟨kS w0+1,cS w1,[]⟩)
 else(⟨kS w0+1,(numF w1).1,[]⟩,(numF w1).2&&actOK ⟨kS w0+1,(numF w1).1,[]⟩)
def rdS(t:List UInt8):Doing × Bool:=if hasP t evalP=true then(evA t,actOK (evA t))else match wordsW t with
 |[w0,w1]=>twoS w0 w1
 |_=>(act0,false)
theorem eval_split{t:List UInt8}(h:hasP t evalP=true): ∃r,t=101::118::97::108::32::r:=by
 have hl:=hasP_le h
 simp only[hasP,Bool.and_eq_true,beq_iff_eq]at h
 exact⟨t.drop 5,by have:=List.take_append_drop 5 t;rw[show t.take 5=evalP from h.2]at this;exact this.symm⟩
theorem eval_not{t:List UInt8}(h:hasP t evalP=false)(hl:(t.length:Int)≥5):List.take (Int.toNat 5-0) (List.drop 0 t)≠evalP:=by
 intro e
 have:hasP t evalP=true:=by
  simp only[hasP,Bool.and_eq_true,beq_iff_eq,decide_eq_true_eq]
  exact⟨by show 5≤t.length;omega,e⟩
 rw[this]at h;cases h
set_option maxHeartbeats 4000000 in
theorem c13(t:List UInt8)(h:t.length≤900000):Con Tryd.prog 13 [.str t] (undefs [.str t]) (rdV (rdS t)):=by
 have kw:=words_s t h
 unfold rdS
 cases hp:hasP t evalP with
 |true=>
  rw[if_pos rfl]
  obtain⟨r,rfl⟩:=eval_split hp
  have er:List.take ((101::118::97::108::32::r).length-Int.toNat 5) (List.drop (Int.toNat 5) (101::118::97::108::32::r))=r:=by
   show List.take (r.length+5-5) r=r
   simp
  have ko:Con Tryd.prog 21 [.agg [.int .i64 6,.int .i64 0,.str (List.take ((101::118::97::108::32::r).length-Int.toNat 5) (List.drop (Int.toNat 5) (101::118::97::108::32::r)))]] (undefs [.agg [.int .i64 6,.int .i64 0,.str (List.take ((101::118::97::108::32::r).length-Int.toNat 5) (List.drop (Int.toNat 5) (101::118::97::108::32::r)))]]) (.bool (actOK ⟨6,0,r⟩)):=by
   rw[er];exact c21 ⟨6,0,r⟩
  have ga:decide (((101::118::97::108::32::r).length:Int)≥5)=true:=decide_eq_true (by simp only[List.length_cons];omega)
  refine Con.ev 72 T_ok mix Tryd.func13 rfl rfl rfl rfl [.cell 2 23,.tmp 3] rfl ?_
  conv=>whnf
  (iterate 24 ((first|apply rq_s rfl|refine rq_s (by refine and_s rfl ?_;simp only[lnm];omega) ?_|refine ChkS.mk (by kernel_rfl) ?_|apply br_t rfl|refine br_t (by assumption) ?_|refine call_s (ko ..) ?_);conv=>whnf));(refine sh_s ?_;((rw[er];rfl)))
 |false=>
  rw[if_neg (by decide)]
  by_cases hl:(t.length:Int)≥5
  ·have g1:decide ((t.length:Int)≥5)=true:=decide_eq_true hl
   have g2:(List.take (Int.toNat 5-0) (List.drop 0 t)==[101,118,97,108,32])=false:=beq_eq_false_iff_ne.2 (eval_not hp hl)
   cases hw:wordsW t with
   |nil=>
    rw[hw]at kw
    refine Con.ev 72 T_ok mix Tryd.func13 rfl rfl rfl rfl [.cell 2 23,.tmp 3] rfl ?_
    conv=>whnf
    (iterate 17 ((first|apply rq_s rfl|refine rq_s (by refine and_s rfl ?_;simp only[lnm];omega) ?_|refine fac_s (fun hf=> ?_)|apply br_t rfl|refine br_t (by assumption) ?_|refine br_f (by assumption) ?_|apply lend_s|refine call_s (kw ..) ?_);conv=>whnf));(refine sh_s ?_;(rfl))
   |cons w0 l=>cases l with
    |nil=>
     rw[hw]at kw
     refine Con.ev 72 T_ok mix Tryd.func13 rfl rfl rfl rfl [.cell 2 23,.tmp 3] rfl ?_
     conv=>whnf
     (iterate 17 ((first|apply rq_s rfl|refine rq_s (by refine and_s rfl ?_;simp only[lnm];omega) ?_|refine fac_s (fun hf=> ?_)|apply br_t rfl|refine br_t (by assumption) ?_|refine br_f (by assumption) ?_|apply lend_s|refine call_s (kw ..) ?_);conv=>whnf));(refine sh_s ?_;(rfl))
    |cons w1 l=>cases l with
     |cons w2 l=>
      rw[hw]at kw
      have hl2:(((w0::w1::w2::l).map strR).length:Int)≠2:=by simp;omega
      refine Con.ev 72 T_ok mix Tryd.func13 rfl rfl rfl rfl [.cell 2 23,.tmp 3] rfl ?_
      conv=>whnf
      (iterate 17 ((first|apply rq_s rfl|refine rq_s (by refine and_s rfl ?_;simp only[lnm];omega) ?_|refine fac_s (fun hf=> ?_)|apply br_t rfl|refine br_t (by assumption) ?_|refine br_f (by assumption) ?_|apply lend_s|refine call_s (kw ..) ?_);conv=>whnf));(refine sh_s ?_;(rfl))
     |nil=>
      rw[hw]at kw
      have hk:=kS_range w0
      have k1:Con Tryd.prog 27 [.ro [.str []] (actX.map strR),.str w0] (undefs [.ro [.str []] (actX.map strR),.str w0]) (.int .i64 (kS w0)):=c27 actX w0
      have k2:Con Tryd.prog 27 [.ro [.str []] (capW.map strR),.str w1] (undefs [.ro [.str []] (capW.map strR),.str w1]) (.int .i64 (cS w1)):=c27 capW w1
      have kr:=c30 w1
      unfold numV at kr
      have hv:kS w0= -1∨kS w0=0∨kS w0=1∨kS w0=2∨kS w0=3∨kS w0=4∨kS w0=5:=by omega
      cases hn:numF w1 with
      |mk n b=>
       rw[hn]at kr
       cases b<;>rcases hv with hv|hv|hv|hv|hv|hv|hv<;>rw[hv]at k1<;>
       (refine Con.ev 72 T_ok mix Tryd.func13 rfl rfl rfl rfl [.cell 2 23,.tmp 3] rfl ?_
        conv=>whnf
        (apply br_t (by assumption);conv=>whnf);(iterate 23 ((first|refine rq_s (by solve|simp only[lnm]|fail) ?_|apply rq_s rfl|refine rq_s (by refine and_s rfl ?_;simp only[lnm];omega) ?_|refine row_s (by(rfl)) ?_|refine fac_s (fun hf=> ?_)|refine ChkS.mk (by kernel_rfl) ?_|apply br_t rfl|apply br_f rfl|refine br_f (by assumption) ?_|apply lend_s|refine call_s (kw ..) ?_|refine call_s (c28 ..) ?_);conv=>whnf));(refine rows_s (by((refine sub_all ?_;simp[List.length_map];done))) ?_;conv=>whnf);iterate 10 ((first|apply rq_s rfl|refine fac_s (fun hf=> ?_)|refine ChkS.mk (by kernel_rfl) ?_|refine call_s (k1 ..) ?_);conv=>whnf)
        first
         |(iterate 11 ((first|apply rq_s rfl|apply br_t rfl);conv=>whnf)
           (focus (refine sh_s ?_;(first|(simp[rdV,twoS,hv,hn,actV,actR,act0,wv2];done)|(simp[rdV,twoS,hv,hn,actV,actR,act0,wv2];rfl)))))
         |(iterate 2 ((first|apply rq_s rfl|apply br_f rfl);conv=>whnf)
           first
            |(iterate 4 ((first|apply rq_s rfl|apply br_f rfl);conv=>whnf)
              first
               |(iterate 14 ((first|refine rq_s (by solve|simp only[lnm]|fail) ?_|apply rq_s rfl|refine row_s (by(rfl)) ?_|refine ChkS.mk (by kernel_rfl) ?_|apply br_t rfl|refine call_s (c29 ..) ?_);conv=>whnf)
                 (refine rows_s (by((refine sub_all ?_;simp[List.length_map];done))) ?_;conv=>whnf);iterate 22 ((first|apply rq_s rfl|refine fac_s (fun hf=> ?_)|refine ChkS.mk (by kernel_rfl) ?_|refine call_s (k2 ..) ?_|refine call_s (okS ..) ?_);conv=>whnf)
                 (focus (refine sh_s ?_;(first|(simp[rdV,twoS,hv,hn,actV,actR,act0,wv2];done)|(simp[rdV,twoS,hv,hn,actV,actR,act0,wv2];rfl)))))
               |(iterate 14 ((first|refine rq_s (by solve|simp only[lnm]|fail) ?_|apply rq_s rfl|refine row_s (by(rfl)) ?_|refine fac_s (fun hf=> ?_)|refine ChkS.mk (by kernel_rfl) ?_|apply br_f rfl|apply lend_s|refine call_s (kr ..) ?_);conv=>whnf)
                 first
                  |(iterate 13 ((first|apply rq_s rfl|refine ChkS.mk (by kernel_rfl) ?_|apply br_f rfl);conv=>whnf)
                    (focus (refine sh_s ?_;(first|(simp[rdV,twoS,hv,hn,actV,actR,act0,wv2];done)|(simp[rdV,twoS,hv,hn,actV,actR,act0,wv2];rfl)))))
                  |(iterate 16 ((first|apply rq_s rfl|refine ChkS.mk (by kernel_rfl) ?_|apply br_t rfl|refine call_s (okS ..) ?_);conv=>whnf)
                    (focus (refine sh_s ?_;(first|(simp[rdV,twoS,hv,hn,actV,actR,act0,wv2];done)|(simp[rdV,twoS,hv,hn,actV,actR,act0,wv2];rfl)))))))
            |(iterate 9 ((first|apply rq_s rfl|apply br_t rfl|apply br_f rfl);conv=>whnf)
              (focus (refine sh_s ?_;(first|(simp[rdV,twoS,hv,hn,actV,actR,act0,wv2];done)|(simp[rdV,twoS,hv,hn,actV,actR,act0,wv2];rfl)))))))
  ·have g1:decide ((t.length:Int)≥5)=false:=decide_eq_false hl
   cases hw:wordsW t with
   |nil=>
    rw[hw]at kw
    refine Con.ev 72 T_ok mix Tryd.func13 rfl rfl rfl rfl [.cell 2 23,.tmp 3] rfl ?_
    conv=>whnf
    (iterate 16 ((first|apply rq_s rfl|refine fac_s (fun hf=> ?_)|apply br_t rfl|apply br_f rfl|refine br_f (by assumption) ?_|apply lend_s|refine call_s (kw ..) ?_);conv=>whnf));(refine sh_s ?_;(rfl))
   |cons w0 l=>cases l with
    |nil=>
     rw[hw]at kw
     refine Con.ev 72 T_ok mix Tryd.func13 rfl rfl rfl rfl [.cell 2 23,.tmp 3] rfl ?_
     conv=>whnf
     (iterate 16 ((first|apply rq_s rfl|refine fac_s (fun hf=> ?_)|apply br_t rfl|apply br_f rfl|refine br_f (by assumption) ?_|apply lend_s|refine call_s (kw ..) ?_);conv=>whnf));(refine sh_s ?_;(rfl))
    |cons w1 l=>cases l with
     |cons w2 l=>
      rw[hw]at kw
      have hl2:(((w0::w1::w2::l).map strR).length:Int)≠2:=by simp;omega
      refine Con.ev 72 T_ok mix Tryd.func13 rfl rfl rfl rfl [.cell 2 23,.tmp 3] rfl ?_
      conv=>whnf
      (iterate 16 ((first|apply rq_s rfl|refine fac_s (fun hf=> ?_)|apply br_t rfl|apply br_f rfl|refine br_f (by assumption) ?_|apply lend_s|refine call_s (kw ..) ?_);conv=>whnf));(refine sh_s ?_;(rfl))
     |nil=>
      rw[hw]at kw
      have hk:=kS_range w0
      have k1:Con Tryd.prog 27 [.ro [.str []] (actX.map strR),.str w0] (undefs [.ro [.str []] (actX.map strR),.str w0]) (.int .i64 (kS w0)):=c27 actX w0
      have k2:Con Tryd.prog 27 [.ro [.str []] (capW.map strR),.str w1] (undefs [.ro [.str []] (capW.map strR),.str w1]) (.int .i64 (cS w1)):=c27 capW w1
      have kr:=c30 w1
      unfold numV at kr
      have hv:kS w0= -1∨kS w0=0∨kS w0=1∨kS w0=2∨kS w0=3∨kS w0=4∨kS w0=5:=by omega
      cases hn:numF w1 with
      |mk n b=>
       rw[hn]at kr
       cases b<;>rcases hv with hv|hv|hv|hv|hv|hv|hv<;>rw[hv]at k1<;>
       (refine Con.ev 72 T_ok mix Tryd.func13 rfl rfl rfl rfl [.cell 2 23,.tmp 3] rfl ?_
        conv=>whnf
        (iterate 23 ((first|refine rq_s (by solve|simp only[lnm]|fail) ?_|apply rq_s rfl|refine row_s (by(rfl)) ?_|refine fac_s (fun hf=> ?_)|refine ChkS.mk (by kernel_rfl) ?_|apply br_f rfl|refine br_f (by assumption) ?_|apply lend_s|refine call_s (kw ..) ?_|refine call_s (c28 ..) ?_);conv=>whnf));(refine rows_s (by((refine sub_all ?_;simp[List.length_map];done))) ?_;conv=>whnf);iterate 10 ((first|apply rq_s rfl|refine fac_s (fun hf=> ?_)|refine ChkS.mk (by kernel_rfl) ?_|refine call_s (k1 ..) ?_);conv=>whnf)
        first
         |(iterate 11 ((first|apply rq_s rfl|apply br_t rfl);conv=>whnf)
           (focus (refine sh_s ?_;(first|(simp[rdV,twoS,hv,hn,actV,actR,act0,wv2];done)|(simp[rdV,twoS,hv,hn,actV,actR,act0,wv2];rfl)))))
         |(iterate 2 ((first|apply rq_s rfl|apply br_f rfl);conv=>whnf)
           first
            |(iterate 4 ((first|apply rq_s rfl|apply br_f rfl);conv=>whnf)
              first
               |(iterate 14 ((first|refine rq_s (by solve|simp only[lnm]|fail) ?_|apply rq_s rfl|refine row_s (by(rfl)) ?_|refine ChkS.mk (by kernel_rfl) ?_|apply br_t rfl|refine call_s (c29 ..) ?_);conv=>whnf)
                 (refine rows_s (by((refine sub_all ?_;simp[List.length_map];done))) ?_;conv=>whnf);iterate 22 ((first|apply rq_s rfl|refine fac_s (fun hf=> ?_)|refine ChkS.mk (by kernel_rfl) ?_|refine call_s (k2 ..) ?_|refine call_s (okS ..) ?_);conv=>whnf)
                 (focus (refine sh_s ?_;(first|(simp[rdV,twoS,hv,hn,actV,actR,act0,wv2];done)|(simp[rdV,twoS,hv,hn,actV,actR,act0,wv2];rfl)))))
               |(iterate 14 ((first|refine rq_s (by solve|simp only[lnm]|fail) ?_|apply rq_s rfl|refine row_s (by(rfl)) ?_|refine fac_s (fun hf=> ?_)|refine ChkS.mk (by kernel_rfl) ?_|apply br_f rfl|apply lend_s|refine call_s (kr ..) ?_);conv=>whnf)
                 first
                  |(iterate 13 ((first|apply rq_s rfl|refine ChkS.mk (by kernel_rfl) ?_|apply br_f rfl);conv=>whnf)
                    (focus (refine sh_s ?_;(first|(simp[rdV,twoS,hv,hn,actV,actR,act0,wv2];done)|(simp[rdV,twoS,hv,hn,actV,actR,act0,wv2];rfl)))))
                  |(iterate 16 ((first|apply rq_s rfl|refine ChkS.mk (by kernel_rfl) ?_|apply br_t rfl|refine call_s (okS ..) ?_);conv=>whnf)
                    (focus (refine sh_s ?_;(first|(simp[rdV,twoS,hv,hn,actV,actR,act0,wv2];done)|(simp[rdV,twoS,hv,hn,actV,actR,act0,wv2];rfl)))))))
            |(iterate 9 ((first|apply rq_s rfl|apply br_t rfl|apply br_f rfl);conv=>whnf)
              (focus (refine sh_s ?_;(first|(simp[rdV,twoS,hv,hn,actV,actR,act0,wv2];done)|(simp[rdV,twoS,hv,hn,actV,actR,act0,wv2];rfl)))))))
end U14
