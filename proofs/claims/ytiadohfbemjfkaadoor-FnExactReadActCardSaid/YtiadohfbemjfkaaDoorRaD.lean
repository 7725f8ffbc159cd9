import Derived.Test.YtiadohfbemjfkaaDoorRaC
import Derived.Test.YtiadohfbemjfkaaDoorRaA
/- Words by both, plain. -/
set_option linter.unusedVariables false
set_option linter.unusedSimpArgs false
set_option maxRecDepth 100000
open Go Go.Abs Go.Proofs V1 U2 U4 U5 U6 U7 U8 U10 U11
namespace U12
def consH(x:UInt8):List (List UInt8)→List (List UInt8)
 |[]=>[[x]]
 |h::l=>(x::h)::l
def spc:List UInt8→List (List UInt8)
 |[]=>[[]]
 |x::r=>if x=32 then[]::spc r else consH x (spc r)
theorem split_spc: ∀s:List UInt8,Lib.splitK [32] 0 (s.count 32) s=spc s
 |[]=>rfl
 |x::r=>by
  have ih:=split_spc r
  by_cases hx:x=32
  ·subst hx
   have hi:Lib.index (32::r) [32]=0:=by simp[Lib.index]
   rw[List.count_cons_self,Lib.splitK,if_neg (by rw[hi];decide),hi,spc,if_pos rfl,←ih]
   rfl
  ·have hc:(x::r).count 32=r.count 32:=List.count_cons_of_ne hx
   have hp:([32]:List UInt8).isPrefixOf (x::r)=false:=by
    show((32:UInt8)==x&&([]:List UInt8).isPrefixOf r)=false
    rw[beq_eq_false_iff_ne.2 (Ne.symm hx)];rfl
   rw[hc,spc,if_neg hx,←ih]
   cases hk:r.count 32 with
   |zero=>rfl
   |succ k=>
    rw[Lib.splitK,Lib.splitK]
    by_cases hr:(Lib.index r [32]== -1)=true
    ·have hi:Lib.index (x::r) [32]= -1:=by rw[Lib.index,hp];simp[beq_iff_eq.1 hr]
     rw[if_pos hr,if_pos (by rw[hi];rfl)]
     rfl
    ·have hge:=Lib.index_ge r [32]
     have hne:Lib.index r [32]≠ -1:=fun e=>hr (by rw[e];rfl)
     have hi:Lib.index (x::r) [32]=Lib.index r [32]+1:=by rw[Lib.index,hp];simp[hne]
     rw[if_neg hr,if_neg (by rw[hi];intro e;have:=beq_iff_eq.1 e;omega),hi]
     rw[show(Lib.index r [32]+1).toNat=(Lib.index r [32]).toNat+1 by omega]
     rfl
def wordsGo:List UInt8→List UInt8→List (List UInt8)
 |[],cur=>if cur=[]then[]else[cur]
 |x::r,cur=>if x=32 then(if cur=[]then wordsGo r []else cur::wordsGo r [])else wordsGo r (cur++[x])
def preH(cur:List UInt8):List (List UInt8)→List (List UInt8)
 |[]=>[cur]
 |h::l=>(cur++h)::l
theorem keep_iff(s:List UInt8):keepE s=true↔s≠[]:=by simp[keepE,isE]
theorem pre_nil{l:List (List UInt8)}(h:l≠[]):preH [] l=l:=by
 cases l with
 |nil=>exact absurd rfl h
 |cons a l=>rfl
theorem spc_ne: ∀s,spc s≠[]
 |[]=>by simp[spc]
 |x::r=>by
  unfold spc
  split
  ·simp
  ·cases spc r<;>simp[consH]
theorem filter_spc: ∀(r cur:List UInt8),(preH cur (spc r)).filter keepE=wordsGo r cur
 |[],cur=>by
  simp only[spc,preH,List.append_nil,wordsGo]
  by_cases h:cur=[]
  ·subst h;rfl
  ·rw[if_neg h,List.filter_cons_of_pos ((keep_iff cur).2 h)];rfl
 |x::r,cur=>by
  by_cases hx:x=32
  ·subst hx
   have h2:=filter_spc r []
   rw[pre_nil (spc_ne r)]at h2
   simp only[spc,if_true,preH,List.append_nil,wordsGo]
   by_cases h:cur=[]
   ·subst h
    rw[if_pos rfl,List.filter_cons_of_neg (by simp[keepE,isE]),h2]
   ·rw[if_neg h,List.filter_cons_of_pos ((keep_iff cur).2 h),h2]
  ·rw[spc,if_neg hx,wordsGo,if_neg hx,←filter_spc r (cur++[x])]
   cases hs:spc r with
   |nil=>exact absurd hs (spc_ne r)
   |cons a l=>simp[consH,preH]
theorem words_out(t:List UInt8): ∀i,i≤t.length→wOut t i++wordsGo (t.drop i) ((t.drop (wFrom t i)).take (i-wFrom t i))=wordsGo t []
 |0,_=>by simp[wOut,wFrom]
 |i+1,h=>by
  have ih:=words_out t i (by omega)
  have hf:=wFrom_le t i
  have hi:i<t.length:=by omega
  have hl:((t.drop (wFrom t i)).take (i-wFrom t i)).length=i-wFrom t i:=by simp;omega
  have eg:t.getD i 0=t[i]:=by rw[List.getD_eq_getElem?_getD,List.getElem?_eq_getElem hi];rfl
  rw[List.drop_eq_getElem_cons hi]at ih
  by_cases hx:t[i]=32
  ·have hc:i=t.length∨t.getD i 0=32:=.inr (eg.trans hx)
   rw[w_from hc,Nat.sub_self,List.take_zero]
   rw[wordsGo,if_pos hx]at ih
   by_cases hlt:wFrom t i<i
   ·rw[w_app hc hlt,List.append_assoc]
    rw[if_neg (fun e=>by rw[e]at hl;simp at hl;omega)]at ih
    exact ih
   ·rw[w_no hlt]
    rw[if_pos (List.eq_nil_of_length_eq_zero (by omega))]at ih
    exact ih
  ·have hc: ¬(i=t.length∨t.getD i 0=32):=fun k=>k.elim (by omega) fun k=>hx (eg.symm.trans k)
   obtain⟨e1,e2⟩:=w_not hc
   rw[e1,e2]
   rw[wordsGo,if_neg hx]at ih
   have ht:(t.drop (wFrom t i)).take (i+1-wFrom t i)=(t.drop (wFrom t i)).take (i-wFrom t i)++[t[i]]:=by
    rw[show i+1-wFrom t i=(i-wFrom t i)+1 by omega,List.take_succ_eq_append_getElem (by simp;omega)]
    simp only[List.getElem_drop]
    congr 2
    simp[show wFrom t i+(i-wFrom t i)=i by omega]
   rw[ht]
   exact ih
theorem words_same(t:List UInt8):wOut t (t.length+1)=(splL t 32).filter keepE:=by
 have h1:=words_out t t.length (Nat.le_refl _)
 have h2:=filter_spc t []
 rw[pre_nil (spc_ne t),←split_spc,←count_lib]at h2
 have h3:(splL t 32).filter keepE=wordsGo t []:=h2
 rw[h3,←h1,List.drop_length,wordsGo]
 have hf:=wFrom_le t t.length
 have hl:((t.drop (wFrom t t.length)).take (t.length-wFrom t t.length)).length=t.length-wFrom t t.length:=by simp
 by_cases hlt:wFrom t t.length<t.length
 ·rw[w_app (.inl rfl) hlt,if_neg (fun e=>by rw[e]at hl;simp at hl;omega)]
 ·rw[w_no hlt,if_pos (List.eq_nil_of_length_eq_zero (by omega)),List.append_nil]
def wordsW(t:List UInt8):List (List UInt8):=wOut t (t.length+1)
theorem words_i(t:List UInt8)(h:t.length≤900000):Con Tryd.prog 32 [.str t] (undefs [.str t]) (ownS (wordsW t)):=by
 rw[wordsW,words_same];exact U9.c32 t h
theorem words_s(t:List UInt8)(h:t.length≤900000):Con Tryd.prog 26 [.str t] (undefs [.str t]) (ownS (wordsW t)):=U10.c26 t h
theorem words_str(t:List UInt8): ∀s∈wordsW t,s.length≤t.length:=wOut_str t _
end U12

/- Actions read: contracts of the program's and the reference's. -/
open Go Go.Abs Go.Proofs V1 U2 U3 U4 U5 U6 U7 U8 U9 U10 U11 U12
namespace U13
def evalP:List UInt8:=[101,118,97,108,32]
def kI(w:List UInt8):Int:=findI (fun y=>w==y) actW
def kS(w:List UInt8):Int:=findI (fun y=>y==w) actX
def cI(w:List UInt8):Int:=findI (fun y=>w==y) capW
theorem find_range{α:Type}(p:α→Bool)(xs:List α): -1≤findI p xs∧findI p xs<xs.length:=by
 unfold findI
 cases h:xs.findIdx? p with
 |none=>exact⟨show-1≤(-1:Int) by decide,show(-1:Int)<xs.length by omega⟩
 |some i=>
  obtain⟨hi,_⟩:=List.findIdx?_eq_some_iff_getElem.1 h
  exact⟨show-1≤(i:Int) by omega,show(i:Int)<xs.length by omega⟩
theorem kI_range(w:List UInt8): -1≤kI w∧kI w≤4:=by
 have:=find_range (fun y=>w==y) actW
 have e:actW.length=5:=rfl
 unfold kI;omega
theorem kS_range(w:List UInt8): -1≤kS w∧kS w≤5:=by
 have:=find_range (fun y=>y==w) actX
 have e:actX.length=6:=rfl
 unfold kS;omega
def evA(t:List UInt8):Doing:=⟨6,0,t.drop 5⟩
def act0:Doing:=⟨0,0,[]⟩
def twoI(w0 w1:List UInt8):Doing × Bool:=
 if 1≤kI w0+1∧kI w0+1≤2 then(⟨kI w0+1,cI w1,[]⟩,actOK ⟨kI w0+1,cI w1,[]⟩)
 else(⟨kI w0+1,(numI w1).1,[]⟩,(decide (1≤kI w0+1)&&(numI w1).2)&&actOK ⟨kI w0+1,(numI w1).1,[]⟩)
def rdI(t:List UInt8):Doing × Bool:=if hasP t evalP=true then(evA t,actOK (evA t))else match wordsW t with
 |[w0,w1]=>twoI w0 w1
 |_=>(act0,false)
def rdV(r:Doing × Bool):AV:=.tup [actV r.1,.bool r.2]
theorem okI(k n:Int):Con Tryd.prog 12 [.agg [.int .i64 k,.int .i64 n,.str []]] (undefs [.agg [.int .i64 k,.int .i64 n,.str []]]) (.bool (actOK ⟨k,n,[]⟩)):=c12 ⟨k,n,[]⟩
theorem okS(k n:Int):Con Tryd.prog 21 [.agg [.int .i64 k,.int .i64 n,.str []]] (undefs [.agg [.int .i64 k,.int .i64 n,.str []]]) (.bool (actOK ⟨k,n,[]⟩)):=c21 ⟨k,n,[]⟩
theorem wv2:IntKind.i64.wrap 0=0∧IntKind.i64.wrap 1=1∧IntKind.i64.wrap 2=2∧IntKind.i64.wrap 3=3∧IntKind.i64.wrap 4=4∧IntKind.i64.wrap 5=5∧IntKind.i64.wrap 6=6:=by decide
theorem c14(t:List UInt8)(h:t.length≤900000):Con Tryd.prog 14 [.str t] (undefs [.str t]) (rdV (rdI t)):=by
 have kc:=c31 t evalP
 unfold cutV at kc
 have kw:=words_i t h
 unfold rdI
 cases hp:hasP t evalP with
 |true=>
  rw[hp]at kc
  rw[if_pos rfl]
  have ko:=c12 (evA t)
  refine Con.ev 70 T_ok mix Tryd.func14 rfl rfl rfl rfl [.cell 2 23,.tmp 3] rfl ?_
  conv=>whnf
  (iterate 22 ((first|apply rq_s rfl|refine fac_s (fun hf=> ?_)|refine ChkS.mk (by kernel_rfl) ?_|apply br_t rfl|apply lend_s|refine call_s (kc ..) ?_|refine call_s (ko ..) ?_);conv=>whnf));(refine sh_s ?_;(rfl))
 |false=>
  rw[hp]at kc
  rw[if_neg (by decide)]
  cases hw:wordsW t with
  |nil=>
   rw[hw]at kw
   refine Con.ev 70 T_ok mix Tryd.func14 rfl rfl rfl rfl [.cell 2 23,.tmp 3] rfl ?_
   conv=>whnf
   (iterate 17 ((first|apply rq_s rfl|refine fac_s (fun hf=> ?_)|apply br_t rfl|apply br_f rfl|apply lend_s|refine call_s (kc ..) ?_|refine call_s (kw ..) ?_);conv=>whnf));(refine sh_s ?_;(rfl))
  |cons w0 l=>cases l with
   |nil=>
    rw[hw]at kw
    refine Con.ev 70 T_ok mix Tryd.func14 rfl rfl rfl rfl [.cell 2 23,.tmp 3] rfl ?_
    conv=>whnf
    (iterate 17 ((first|apply rq_s rfl|refine fac_s (fun hf=> ?_)|apply br_t rfl|apply br_f rfl|apply lend_s|refine call_s (kc ..) ?_|refine call_s (kw ..) ?_);conv=>whnf));(refine sh_s ?_;(rfl))
   |cons w1 l=>cases l with
    |cons w2 l=>
     rw[hw]at kw
     have hl:(((w0::w1::w2::l).map strR).length:Int)≠2:=by simp;omega
     refine Con.ev 70 T_ok mix Tryd.func14 rfl rfl rfl rfl [.cell 2 23,.tmp 3] rfl ?_
     conv=>whnf
     (iterate 17 ((first|apply rq_s rfl|refine fac_s (fun hf=> ?_)|apply br_t rfl|apply br_f rfl|apply lend_s|refine call_s (kc ..) ?_|refine call_s (kw ..) ?_);conv=>whnf));(refine sh_s ?_;(rfl))
    |nil=>
     rw[hw]at kw
     have hk:=kI_range w0
     have hw1:w1.length≤1000000:=Nat.le_trans (words_str t w1 (by rw[hw];simp)) (by omega)
     have k1:Con Tryd.prog 33 [.ro [.str []] (actW.map strR),.str w0] (undefs [.ro [.str []] (actW.map strR),.str w0]) (.int .i64 (kI w0)):=c33 actW w0
     have k2:Con Tryd.prog 33 [.ro [.str []] (capW.map strR),.str w1] (undefs [.ro [.str []] (capW.map strR),.str w1]) (.int .i64 (cI w1)):=c33 capW w1
     have kr:=c34 w1 hw1
     have hv:kI w0= -1∨kI w0=0∨kI w0=1∨kI w0=2∨kI w0=3∨kI w0=4:=by omega
     cases hn:numI w1 with
     |mk n b=>
      rw[hn]at kr
      cases b<;>rcases hv with hv|hv|hv|hv|hv|hv<;>rw[hv]at k1<;>
      (refine Con.ev 70 T_ok mix Tryd.func14 rfl rfl rfl rfl [.cell 2 23,.tmp 3] rfl ?_
       conv=>whnf
       (iterate 24 ((first|refine rq_s (by solve|simp only[lnm]|fail) ?_|apply rq_s rfl|refine row_s (by(rfl)) ?_|refine fac_s (fun hf=> ?_)|refine ChkS.mk (by kernel_rfl) ?_|apply br_f rfl|apply lend_s|refine call_s (kc ..) ?_|refine call_s (kw ..) ?_|refine call_s (c18 ..) ?_);conv=>whnf));(refine rows_s (by((refine sub_all ?_;simp[List.length_map];done))) ?_;conv=>whnf);iterate 10 ((first|apply rq_s rfl|refine fac_s (fun hf=> ?_)|refine ChkS.mk (by kernel_rfl) ?_|refine call_s (k1 ..) ?_);conv=>whnf)
       first
        |(iterate 33 ((first|refine rq_s (by solve|simp only[lnm]|fail) ?_|apply rq_s rfl|refine row_s (by(rfl)) ?_|refine fac_s (fun hf=> ?_)|refine ChkS.mk (by kernel_rfl) ?_|apply br_f rfl|apply lend_s|refine call_s (kr ..) ?_);conv=>whnf)
          (focus (refine sh_s ?_;(first|(simp[rdV,twoI,hv,hn,actV,actR,wv2];done)|(simp[rdV,twoI,hv,hn,actV,actR,wv2];rfl)))))
        |(iterate 2 ((first|apply rq_s rfl|apply br_t rfl);conv=>whnf)
          first
           |(iterate 16 ((first|refine rq_s (by solve|simp only[lnm]|fail) ?_|apply rq_s rfl|refine row_s (by(rfl)) ?_|refine ChkS.mk (by kernel_rfl) ?_|apply br_t rfl|refine call_s (c19 ..) ?_);conv=>whnf)
             (refine rows_s (by((refine sub_all ?_;simp[List.length_map];done))) ?_;conv=>whnf);iterate 27 ((first|apply rq_s rfl|refine fac_s (fun hf=> ?_)|refine ChkS.mk (by kernel_rfl) ?_|apply br_t rfl|refine call_s (k2 ..) ?_|refine call_s (okI ..) ?_);conv=>whnf)
             (focus (refine sh_s ?_;(first|(simp[rdV,twoI,hv,hn,actV,actR,wv2];done)|(simp[rdV,twoI,hv,hn,actV,actR,wv2];rfl)))))
           |(iterate 17 ((first|refine rq_s (by solve|simp only[lnm]|fail) ?_|apply rq_s rfl|refine row_s (by(rfl)) ?_|refine fac_s (fun hf=> ?_)|refine ChkS.mk (by kernel_rfl) ?_|apply br_t rfl|apply br_f rfl|apply lend_s|refine call_s (kr ..) ?_);conv=>whnf)
             first
              |(iterate 13 ((first|apply rq_s rfl|refine ChkS.mk (by kernel_rfl) ?_|apply br_f rfl);conv=>whnf)
                (focus (refine sh_s ?_;(first|(simp[rdV,twoI,hv,hn,actV,actR,wv2];done)|(simp[rdV,twoI,hv,hn,actV,actR,wv2];rfl)))))
              |(iterate 16 ((first|apply rq_s rfl|refine ChkS.mk (by kernel_rfl) ?_|apply br_t rfl|refine call_s (okI ..) ?_);conv=>whnf)
                (focus (refine sh_s ?_;(first|(simp[rdV,twoI,hv,hn,actV,actR,wv2];done)|(simp[rdV,twoI,hv,hn,actV,actR,wv2];rfl))))))))
end U13
