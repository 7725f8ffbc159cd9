import Derived.Test.YtiadohfbemjfkaaDoorRaD
import Derived.Test.YtiadohfbemjfkaaDoorRaV
import Derived.Test.YtiadohfbemjfkaaDoorRows
import Derived.Test.YtiadohfbemjfkaaDoorTie
import Derived.Test.YtiadohfbemjfkaaDoorCards
import Derived.SevenTiedAt
import Derived.LaidMore
import Derived.LaidLaws
import Derived.Lay
import Derived.Test.YtiadohfbemjfkaaDoorAbs8
/- Actions read by the reference: contract. -/
set_option linter.unusedVariables false
set_option linter.unusedSimpArgs false
set_option maxRecDepth 100000
open Go Go.Abs Go.Proofs V1 U2 U3 U4 U5 U6 U7 U8 U9 U10 U11 U12 U13
namespace U14
def cS(w:List UInt8):Int:=findI (fun y=>y==w) capW
def twoS(w0 w1:List UInt8):Doing × Bool:=
 if kS w0+1=0∨kS w0+1=6 then(act0,false)
 else if kS w0+1≤2 then(⟨kS w0+1,cS w1,[]⟩,actOK ⟨kS w0+1,cS w1,[]⟩)
 else(⟨kS w0+1,(numF w1).1,[]⟩,(numF w1).2&&actOK ⟨kS w0+1,(numF w1).1,[]⟩)
def rdS(t:List UInt8):Doing × Bool:=if hasP t evalP=true then(evA t,actOK (evA t))else match wordsW t with
 |[w0,w1]=>twoS w0 w1
 |_=>(act0,false)
theorem eval_split{t:List UInt8}(h:hasP t evalP=true): ∃r,t=101::118::97::108::32::r:=by
 have hl:=hasP_le h
 simp only[hasP,Bool.and_eq_true,beq_iff_eq]at h
 exact⟨t.drop 5,by have:=List.take_append_drop 5 t;rw[show t.take 5=evalP from h.2]at this;exact this.symm⟩
theorem eval_not{t:List UInt8}(h:hasP t evalP=false)(hl:(t.length:Int)≥5):List.take (Int.toNat 5-0) (List.drop 0 t)≠evalP:=by
 intro e
 have:hasP t evalP=true:=by
  simp only[hasP,Bool.and_eq_true,beq_iff_eq,decide_eq_true_eq]
  exact⟨by show 5≤t.length;omega,e⟩
 rw[this]at h;cases h
theorem c13(t:List UInt8)(h:t.length≤900000):Con Tryd.prog 13 [.str t] (undefs [.str t]) (rdV (rdS t)):=by
 have kw:=words_s t h
 unfold rdS
 cases hp:hasP t evalP with
 |true=>
  rw[if_pos rfl]
  obtain⟨r,rfl⟩:=eval_split hp
  have er:List.take ((101::118::97::108::32::r).length-Int.toNat 5) (List.drop (Int.toNat 5) (101::118::97::108::32::r))=r:=by
   show List.take (r.length+5-5) r=r
   simp
  have ko:Con Tryd.prog 21 [.agg [.int .i64 6,.int .i64 0,.str (List.take ((101::118::97::108::32::r).length-Int.toNat 5) (List.drop (Int.toNat 5) (101::118::97::108::32::r)))]] (undefs [.agg [.int .i64 6,.int .i64 0,.str (List.take ((101::118::97::108::32::r).length-Int.toNat 5) (List.drop (Int.toNat 5) (101::118::97::108::32::r)))]]) (.bool (actOK ⟨6,0,r⟩)):=by
   rw[er];exact c21 ⟨6,0,r⟩
  have ga:decide (((101::118::97::108::32::r).length:Int)≥5)=true:=decide_eq_true (by simp only[List.length_cons];omega)
  refine Con.ev 72 T_ok mix Tryd.func13 rfl rfl rfl rfl [.cell 2 23,.tmp 3] rfl ?_
  conv=>whnf
  (iterate 24 ((first|apply rq_s rfl|refine rq_s (by refine and_s rfl ?_;simp only[lnm];omega) ?_|refine ChkS.mk (by kernel_rfl) ?_|apply br_t rfl|refine br_t (by assumption) ?_|refine call_s (ko ..) ?_);conv=>whnf));(refine sh_s ?_;((rw[er];rfl)))
 |false=>
  rw[if_neg (by decide)]
  by_cases hl:(t.length:Int)≥5
  ·have g1:decide ((t.length:Int)≥5)=true:=decide_eq_true hl
   have g2:(List.take (Int.toNat 5-0) (List.drop 0 t)==[101,118,97,108,32])=false:=beq_eq_false_iff_ne.2 (eval_not hp hl)
   cases hw:wordsW t with
   |nil=>
    rw[hw]at kw
    refine Con.ev 72 T_ok mix Tryd.func13 rfl rfl rfl rfl [.cell 2 23,.tmp 3] rfl ?_
    conv=>whnf
    (iterate 17 ((first|apply rq_s rfl|refine rq_s (by refine and_s rfl ?_;simp only[lnm];omega) ?_|refine fac_s (fun hf=> ?_)|apply br_t rfl|refine br_t (by assumption) ?_|refine br_f (by assumption) ?_|apply lend_s|refine call_s (kw ..) ?_);conv=>whnf));(refine sh_s ?_;(rfl))
   |cons w0 l=>cases l with
    |nil=>
     rw[hw]at kw
     refine Con.ev 72 T_ok mix Tryd.func13 rfl rfl rfl rfl [.cell 2 23,.tmp 3] rfl ?_
     conv=>whnf
     (iterate 17 ((first|apply rq_s rfl|refine rq_s (by refine and_s rfl ?_;simp only[lnm];omega) ?_|refine fac_s (fun hf=> ?_)|apply br_t rfl|refine br_t (by assumption) ?_|refine br_f (by assumption) ?_|apply lend_s|refine call_s (kw ..) ?_);conv=>whnf));(refine sh_s ?_;(rfl))
    |cons w1 l=>cases l with
     |cons w2 l=>
      rw[hw]at kw
      have hl2:(((w0::w1::w2::l).map strR).length:Int)≠2:=by simp;omega
      refine Con.ev 72 T_ok mix Tryd.func13 rfl rfl rfl rfl [.cell 2 23,.tmp 3] rfl ?_
      conv=>whnf
      (iterate 17 ((first|apply rq_s rfl|refine rq_s (by refine and_s rfl ?_;simp only[lnm];omega) ?_|refine fac_s (fun hf=> ?_)|apply br_t rfl|refine br_t (by assumption) ?_|refine br_f (by assumption) ?_|apply lend_s|refine call_s (kw ..) ?_);conv=>whnf));(refine sh_s ?_;(rfl))
     |nil=>
      rw[hw]at kw
      have hk:=kS_range w0
      have k1:Con Tryd.prog 27 [.ro [.str []] (actX.map strR),.str w0] (undefs [.ro [.str []] (actX.map strR),.str w0]) (.int .i64 (kS w0)):=c27 actX w0
      have k2:Con Tryd.prog 27 [.ro [.str []] (capW.map strR),.str w1] (undefs [.ro [.str []] (capW.map strR),.str w1]) (.int .i64 (cS w1)):=c27 capW w1
      have kr:=c30 w1
      unfold numV at kr
      have hv:kS w0= -1∨kS w0=0∨kS w0=1∨kS w0=2∨kS w0=3∨kS w0=4∨kS w0=5:=by omega
      cases hn:numF w1 with
      |mk n b=>
       rw[hn]at kr
       cases b<;>rcases hv with hv|hv|hv|hv|hv|hv|hv<;>rw[hv]at k1<;>
       (refine Con.ev 72 T_ok mix Tryd.func13 rfl rfl rfl rfl [.cell 2 23,.tmp 3] rfl ?_
        conv=>whnf
        (apply br_t (by assumption);conv=>whnf);(iterate 23 ((first|refine rq_s (by solve|simp only[lnm]|fail) ?_|apply rq_s rfl|refine rq_s (by refine and_s rfl ?_;simp only[lnm];omega) ?_|refine row_s (by(rfl)) ?_|refine fac_s (fun hf=> ?_)|refine ChkS.mk (by kernel_rfl) ?_|apply br_t rfl|apply br_f rfl|refine br_f (by assumption) ?_|apply lend_s|refine call_s (kw ..) ?_|refine call_s (c28 ..) ?_);conv=>whnf));(refine rows_s (by((refine sub_all ?_;simp[List.length_map];done))) ?_;conv=>whnf);iterate 10 ((first|apply rq_s rfl|refine fac_s (fun hf=> ?_)|refine ChkS.mk (by kernel_rfl) ?_|refine call_s (k1 ..) ?_);conv=>whnf)
        first
         |(iterate 11 ((first|apply rq_s rfl|apply br_t rfl);conv=>whnf)
           (focus (refine sh_s ?_;(first|(simp[rdV,twoS,hv,hn,actV,actR,act0,wv2];done)|(simp[rdV,twoS,hv,hn,actV,actR,act0,wv2];rfl)))))
         |(iterate 2 ((first|apply rq_s rfl|apply br_f rfl);conv=>whnf)
           first
            |(iterate 4 ((first|apply rq_s rfl|apply br_f rfl);conv=>whnf)
              first
               |(iterate 14 ((first|refine rq_s (by solve|simp only[lnm]|fail) ?_|apply rq_s rfl|refine row_s (by(rfl)) ?_|refine ChkS.mk (by kernel_rfl) ?_|apply br_t rfl|refine call_s (c29 ..) ?_);conv=>whnf)
                 (refine rows_s (by((refine sub_all ?_;simp[List.length_map];done))) ?_;conv=>whnf);iterate 22 ((first|apply rq_s rfl|refine fac_s (fun hf=> ?_)|refine ChkS.mk (by kernel_rfl) ?_|refine call_s (k2 ..) ?_|refine call_s (okS ..) ?_);conv=>whnf)
                 (focus (refine sh_s ?_;(first|(simp[rdV,twoS,hv,hn,actV,actR,act0,wv2];done)|(simp[rdV,twoS,hv,hn,actV,actR,act0,wv2];rfl)))))
               |(iterate 14 ((first|refine rq_s (by solve|simp only[lnm]|fail) ?_|apply rq_s rfl|refine row_s (by(rfl)) ?_|refine fac_s (fun hf=> ?_)|refine ChkS.mk (by kernel_rfl) ?_|apply br_f rfl|apply lend_s|refine call_s (kr ..) ?_);conv=>whnf)
                 first
                  |(iterate 13 ((first|apply rq_s rfl|refine ChkS.mk (by kernel_rfl) ?_|apply br_f rfl);conv=>whnf)
                    (focus (refine sh_s ?_;(first|(simp[rdV,twoS,hv,hn,actV,actR,act0,wv2];done)|(simp[rdV,twoS,hv,hn,actV,actR,act0,wv2];rfl)))))
                  |(iterate 16 ((first|apply rq_s rfl|refine ChkS.mk (by kernel_rfl) ?_|apply br_t rfl|refine call_s (okS ..) ?_);conv=>whnf)
                    (focus (refine sh_s ?_;(first|(simp[rdV,twoS,hv,hn,actV,actR,act0,wv2];done)|(simp[rdV,twoS,hv,hn,actV,actR,act0,wv2];rfl)))))))
            |(iterate 9 ((first|apply rq_s rfl|apply br_t rfl|apply br_f rfl);conv=>whnf)
              (focus (refine sh_s ?_;(first|(simp[rdV,twoS,hv,hn,actV,actR,act0,wv2];done)|(simp[rdV,twoS,hv,hn,actV,actR,act0,wv2];rfl)))))))
  ·have g1:decide ((t.length:Int)≥5)=false:=decide_eq_false hl
   cases hw:wordsW t with
   |nil=>
    rw[hw]at kw
    refine Con.ev 72 T_ok mix Tryd.func13 rfl rfl rfl rfl [.cell 2 23,.tmp 3] rfl ?_
    conv=>whnf
    (iterate 16 ((first|apply rq_s rfl|refine fac_s (fun hf=> ?_)|apply br_t rfl|apply br_f rfl|refine br_f (by assumption) ?_|apply lend_s|refine call_s (kw ..) ?_);conv=>whnf));(refine sh_s ?_;(rfl))
   |cons w0 l=>cases l with
    |nil=>
     rw[hw]at kw
     refine Con.ev 72 T_ok mix Tryd.func13 rfl rfl rfl rfl [.cell 2 23,.tmp 3] rfl ?_
     conv=>whnf
     (iterate 16 ((first|apply rq_s rfl|refine fac_s (fun hf=> ?_)|apply br_t rfl|apply br_f rfl|refine br_f (by assumption) ?_|apply lend_s|refine call_s (kw ..) ?_);conv=>whnf));(refine sh_s ?_;(rfl))
    |cons w1 l=>cases l with
     |cons w2 l=>
      rw[hw]at kw
      have hl2:(((w0::w1::w2::l).map strR).length:Int)≠2:=by simp;omega
      refine Con.ev 72 T_ok mix Tryd.func13 rfl rfl rfl rfl [.cell 2 23,.tmp 3] rfl ?_
      conv=>whnf
      (iterate 16 ((first|apply rq_s rfl|refine fac_s (fun hf=> ?_)|apply br_t rfl|apply br_f rfl|refine br_f (by assumption) ?_|apply lend_s|refine call_s (kw ..) ?_);conv=>whnf));(refine sh_s ?_;(rfl))
     |nil=>
      rw[hw]at kw
      have hk:=kS_range w0
      have k1:Con Tryd.prog 27 [.ro [.str []] (actX.map strR),.str w0] (undefs [.ro [.str []] (actX.map strR),.str w0]) (.int .i64 (kS w0)):=c27 actX w0
      have k2:Con Tryd.prog 27 [.ro [.str []] (capW.map strR),.str w1] (undefs [.ro [.str []] (capW.map strR),.str w1]) (.int .i64 (cS w1)):=c27 capW w1
      have kr:=c30 w1
      unfold numV at kr
      have hv:kS w0= -1∨kS w0=0∨kS w0=1∨kS w0=2∨kS w0=3∨kS w0=4∨kS w0=5:=by omega
      cases hn:numF w1 with
      |mk n b=>
       rw[hn]at kr
       cases b<;>rcases hv with hv|hv|hv|hv|hv|hv|hv<;>rw[hv]at k1<;>
       (refine Con.ev 72 T_ok mix Tryd.func13 rfl rfl rfl rfl [.cell 2 23,.tmp 3] rfl ?_
        conv=>whnf
        (iterate 23 ((first|refine rq_s (by solve|simp only[lnm]|fail) ?_|apply rq_s rfl|refine row_s (by(rfl)) ?_|refine fac_s (fun hf=> ?_)|refine ChkS.mk (by kernel_rfl) ?_|apply br_f rfl|refine br_f (by assumption) ?_|apply lend_s|refine call_s (kw ..) ?_|refine call_s (c28 ..) ?_);conv=>whnf));(refine rows_s (by((refine sub_all ?_;simp[List.length_map];done))) ?_;conv=>whnf);iterate 10 ((first|apply rq_s rfl|refine fac_s (fun hf=> ?_)|refine ChkS.mk (by kernel_rfl) ?_|refine call_s (k1 ..) ?_);conv=>whnf)
        first
         |(iterate 11 ((first|apply rq_s rfl|apply br_t rfl);conv=>whnf)
           (focus (refine sh_s ?_;(first|(simp[rdV,twoS,hv,hn,actV,actR,act0,wv2];done)|(simp[rdV,twoS,hv,hn,actV,actR,act0,wv2];rfl)))))
         |(iterate 2 ((first|apply rq_s rfl|apply br_f rfl);conv=>whnf)
           first
            |(iterate 4 ((first|apply rq_s rfl|apply br_f rfl);conv=>whnf)
              first
               |(iterate 14 ((first|refine rq_s (by solve|simp only[lnm]|fail) ?_|apply rq_s rfl|refine row_s (by(rfl)) ?_|refine ChkS.mk (by kernel_rfl) ?_|apply br_t rfl|refine call_s (c29 ..) ?_);conv=>whnf)
                 (refine rows_s (by((refine sub_all ?_;simp[List.length_map];done))) ?_;conv=>whnf);iterate 22 ((first|apply rq_s rfl|refine fac_s (fun hf=> ?_)|refine ChkS.mk (by kernel_rfl) ?_|refine call_s (k2 ..) ?_|refine call_s (okS ..) ?_);conv=>whnf)
                 (focus (refine sh_s ?_;(first|(simp[rdV,twoS,hv,hn,actV,actR,act0,wv2];done)|(simp[rdV,twoS,hv,hn,actV,actR,act0,wv2];rfl)))))
               |(iterate 14 ((first|refine rq_s (by solve|simp only[lnm]|fail) ?_|apply rq_s rfl|refine row_s (by(rfl)) ?_|refine fac_s (fun hf=> ?_)|refine ChkS.mk (by kernel_rfl) ?_|apply br_f rfl|apply lend_s|refine call_s (kr ..) ?_);conv=>whnf)
                 first
                  |(iterate 13 ((first|apply rq_s rfl|refine ChkS.mk (by kernel_rfl) ?_|apply br_f rfl);conv=>whnf)
                    (focus (refine sh_s ?_;(first|(simp[rdV,twoS,hv,hn,actV,actR,act0,wv2];done)|(simp[rdV,twoS,hv,hn,actV,actR,act0,wv2];rfl)))))
                  |(iterate 16 ((first|apply rq_s rfl|refine ChkS.mk (by kernel_rfl) ?_|apply br_t rfl|refine call_s (okS ..) ?_);conv=>whnf)
                    (focus (refine sh_s ?_;(first|(simp[rdV,twoS,hv,hn,actV,actR,act0,wv2];done)|(simp[rdV,twoS,hv,hn,actV,actR,act0,wv2];rfl)))))))
            |(iterate 9 ((first|apply rq_s rfl|apply br_t rfl|apply br_f rfl);conv=>whnf)
              (focus (refine sh_s ?_;(first|(simp[rdV,twoS,hv,hn,actV,actR,act0,wv2];done)|(simp[rdV,twoS,hv,hn,actV,actR,act0,wv2];rfl)))))))
end U14

/- ReadAct of both, and the law. -/
open Go Go.Abs Go.Proofs V1 U2 U3 U4 U5 U6 U7 U8 U9 U10 U11 U12 U13 U14
namespace U15
def finR(r:Doing × Bool):Doing × Int:=if r.2=true then(r.1,0)else(act0,3)
def rdF(t:List UInt8):Doing × Int:=if 65536<t.length then(act0,2)else finR (rdS t)
theorem beq_c(a b:List UInt8):(a==b)=(b==a):=by
 rw[Bool.eq_iff_iff,beq_iff_eq,beq_iff_eq];exact⟨Eq.symm,Eq.symm⟩
theorem cI_eq(w:List UInt8):cI w=cS w:=by
 unfold cI cS
 congr 1
 funext y
 exact beq_c _ _
theorem kS_eq(w:List UInt8):kS w=kI w∨(kI w= -1∧(kS w=5∨kS w= -1)):=by
 have e:(fun y:List UInt8=>y==w)=fun y=>w==y:=by
  funext y
  exact beq_c _ _
 have ex:actX=actW++[[101,118,97,108]]:=rfl
 unfold kS kI
 rw[e,ex]
 unfold findI
 rw[List.findIdx?_append]
 cases h:actW.findIdx? fun y=>w==y with
 |some i=>left;rfl
 |none=>
  right
  refine⟨rfl,?_⟩
  cases h2:List.findIdx? (fun y=>w==y) [[101,118,97,108]]with
  |none=>right;rfl
  |some i=>
   left
   have:=(List.findIdx?_eq_some_iff_getElem.1 h2).1
   have:i=0:=by simp at this;exact this
   subst this
   rfl
theorem two_same(w0 w1:List UInt8):finR (twoI w0 w1)=finR (twoS w0 w1):=by
 have hk:=kI_range w0
 unfold twoI twoS
 rcases kS_eq w0 with he|⟨h1,h2⟩
 ·rw[he]
  by_cases h0:kI w0= -1
  ·rw[h0,if_neg (by decide),if_pos (by decide)]
   rfl
  ·rw[if_neg (show ¬(kI w0+1=0∨kI w0+1=6) by omega)]
   by_cases hle:kI w0+1≤2
   ·rw[if_pos ⟨by omega,hle⟩,if_pos hle,cI_eq]
   ·rw[if_neg (fun k=>hle k.2),if_neg hle]
    cases hn:(numF w1).2 with
    |true=>
     rw[num_ok hn]
     have hd:decide (1≤kI w0+1)=true:=decide_eq_true (by omega)
     rw[hd,hn];rfl
    |false=>
     have hi:(numI w1).2=false:=by
      cases hc:(numI w1).2 with
      |false=>rfl
      |true=>rw[num_no hc]at hn;cases hn
     rw[hi]
     simp[finR]
 ·rw[h1,if_neg (by decide)]
  rw[if_pos (show kS w0+1=0∨kS w0+1=6 by omega)]
  simp[finR]
theorem rd_same(t:List UInt8):finR (rdI t)=finR (rdS t):=by
 unfold rdI rdS
 split
 ·rfl
 ·cases hw:wordsW t with
  |nil=>rfl
  |cons w0 l=>cases l with
   |nil=>rfl
   |cons w1 l=>cases l with
    |nil=>exact two_same w0 w1
    |cons w2 l=>rfl
def rdW(r:Doing × Int):AV:=.tup [actV r.1,.int .i64 r.2]
theorem c5(t:List UInt8):Con Tryd.prog 5 [.str t] (undefs [.str t]) (rdW (rdF t)):=by
 unfold rdF
 by_cases hl:(65536:Int)<t.length
 ·rw[if_pos (by omega)]
  have g1:decide ((t.length:Int)>65536)=true:=decide_eq_true hl
  refine Con.ev 19 T_ok mix Tryd.func5 rfl rfl rfl rfl [.cell 2 23,.tmp 3] rfl ?_
  conv=>whnf
  (iterate 7 ((first|apply rq_s rfl|refine br_t (by assumption) ?_);conv=>whnf));(refine sh_s ?_;(rfl))
 ·rw[if_neg (by omega)]
  have g1:decide ((t.length:Int)>65536)=false:=decide_eq_false hl
  have k:=c13 t (by omega)
  unfold rdV at k
  cases hr:rdS t with
  |mk a b=>
   rw[hr]at k
   cases b<;>
   (refine Con.ev 19 T_ok mix Tryd.func5 rfl rfl rfl rfl [.cell 2 23,.tmp 3] rfl ?_
    conv=>whnf
    iterate 4 ((first|apply rq_s rfl|refine br_f (by assumption) ?_|apply lend_s|refine call_s (k ..) ?_);conv=>whnf)
    first
     |(iterate 7 ((first|apply rq_s rfl|apply br_t rfl);conv=>whnf)
       (refine sh_s ?_;(rfl)))
     |(iterate 6 ((first|apply rq_s rfl|apply br_f rfl);conv=>whnf)
       (refine sh_s ?_;(rfl))))
theorem c6(t:List UInt8):Con Tryd.prog 6 [.str t] (undefs [.str t]) (rdW (rdF t)):=by
 unfold rdF
 by_cases hl:(65536:Int)<t.length
 ·rw[if_pos (by omega)]
  have g1:decide ((t.length:Int)>65536)=true:=decide_eq_true hl
  refine Con.ev 19 T_ok mix Tryd.func6 rfl rfl rfl rfl [.cell 2 23,.tmp 3] rfl ?_
  conv=>whnf
  (iterate 7 ((first|apply rq_s rfl|refine br_t (by assumption) ?_);conv=>whnf));(refine sh_s ?_;(rfl))
 ·rw[if_neg (by omega),←rd_same]
  have g1:decide ((t.length:Int)>65536)=false:=decide_eq_false hl
  have k:=c14 t (by omega)
  unfold rdV at k
  cases hr:rdI t with
  |mk a b=>
   rw[hr]at k
   cases b<;>
   (refine Con.ev 19 T_ok mix Tryd.func6 rfl rfl rfl rfl [.cell 2 23,.tmp 3] rfl ?_
    conv=>whnf
    iterate 4 ((first|apply rq_s rfl|refine br_f (by assumption) ?_|apply lend_s|refine call_s (k ..) ?_);conv=>whnf)
    first
     |(iterate 7 ((first|apply rq_s rfl|apply br_t rfl);conv=>whnf)
       (refine sh_s ?_;(rfl)))
     |(iterate 6 ((first|apply rq_s rfl|apply br_f rfl);conv=>whnf)
       (refine sh_s ?_;(rfl))))
theorem c7(a b:Doing):Con Tryd.prog 7 [actV a,actV b] (undefs [actV a,actV b]) (.bool (decide (a=b))):=by
 refine Con.ev 20 T_ok mix Tryd.func7 rfl rfl rfl rfl [.tmp 4] rfl ?_
 conv=>whnf
 iterate 6 (first|(apply rq_s rfl;(conv=>whnf))|(refine br_s ?_ ?_<;>intro hb<;>(try simp only[cln]at hb)<;>conv=>whnf))
 rotate_left
 iterate 4 (first|(apply rq_s rfl;(conv=>whnf))|(refine br_s ?_ ?_<;>intro hb<;>(try simp only[cln]at hb)<;>conv=>whnf))
 rotate_left
 iterate 4 (first|(apply rq_s rfl;(conv=>whnf))|(refine br_s ?_ ?_<;>intro hb<;>(try simp only[cln]at hb)<;>conv=>whnf))
 rotate_left
 (apply rq_s rfl;conv=>whnf)
 rotate_left
 ·exact sh_s (congrArg AV.bool (decide_eq_false fun e=>hb (by rw[e])).symm)
 ·exact sh_s (congrArg AV.bool (decide_eq_false fun e=>hb (by rw[e])).symm)
 ·exact sh_s (congrArg AV.bool (decide_eq_false fun e=>hb (by rw[e])).symm)
 ·have e:a=b:=by
   cases a
   cases b
   simp_all
  exact sh_s (congrArg AV.bool (decide_eq_true e).symm)
theorem law(t:List UInt8):Con Tryd.prog 3 [.str t] (undefs [.str t]) (.bool true):=by
 have k1:=c5 t
 have k2:=c6 t
 have k3:=c7 (rdF t).1 (rdF t).1
 rw[decide_eq_true rfl]at k3
 unfold rdW at k1 k2
 refine Con.ev 29 T_ok mix Tryd.func3 rfl rfl rfl rfl [.tmp 2] rfl ?_
 conv=>whnf
 (refine br_s ?_ ?_<;>intro hb<;>(try simp only[cln]at hb)<;>conv=>whnf);(apply rq_s rfl;conv=>whnf);(focus (refine sh_s ?_;(first|rfl|(simp_all;done))));(iterate 21 (first|(apply rq_s rfl;(conv=>whnf))|(refine fac_s (fun hf=> ?_);(conv=>whnf))|(apply br_f rfl;(conv=>whnf))|(focus (apply br_f (by solve|simp|fail);(conv=>whnf)))|(apply lend_s;(conv=>whnf))|(refine call_s (k1 ..) ?_;(conv=>whnf))|(refine call_s (k2 ..) ?_;(conv=>whnf))|(refine call_s (k3 ..) ?_;(conv=>whnf))));(focus (refine sh_s ?_;(first|rfl|(simp_all;done))))
end U15

/- Texts: what an argument is. -/
open Go Go.Abs Go.Proofs V1
namespace U16
theorem str_of{x:AV}(h:OfT T 10 9 [x]): ∃s:List UInt8,x=.str s:=by
 obtain⟨n,h1⟩:=h
 injection h1 with h1
 exact⟨n,h1⟩
end U16

/- FnExactReadAct: the law returns true at every input, and its arguments read behind the call as they did. -/
namespace Go.Proofs.YtiadohfbemjfkaaDoor.FnExactReadAct
open Go.ChangeShapes Go.WideShapes Go.ChangeAt Go.RowKit Go.Joins
open Go.Abs V1 U15 U16
theorem own:ownKnob Tryd.prog.godebug=none:=by kernel_rfl
theorem laidOut:laidOutB Tryd.prog=true:=by kernel_rfl
theorem tabs_met{W:World}(h:laidMetH Tryd.prog Rows.fnExactReadActRow.laid W):Tabs Tryd.prog W none2:=by
 rw[MakeChecks.laidMetH_plain _ _ _ (by kernel_rfl)]at h
 obtain⟨ps,hl,_⟩:=h
 have m0:("internal/strconv.uint64pow10",(Lib.tabData .u64 Lib.pow10Tab:DataW Unit))∈Rows.fnExactReadActRow.laid:=List.mem_of_getElem? (i:=2) (by kernel_rfl)
 have t0:=tab_of_laid (t:=99) (e:=72) (n:=20) (g:=2) (by kernel_rfl) (by kernel_rfl) Tryd.underlying99 Tryd.underlying72 (by kernel_rfl) (by kernel_rfl) hl m0
 have s0:("strconv.ErrSyntax",(Rows.laid_strconv_ErrSyntax:DataW Unit))∈Rows.fnExactReadActRow.laid:=List.mem_of_getElem? (i:=5) (by kernel_rfl)
 have x0:=err_of_laid (t:=63) (g:=0) (by kernel_rfl) (by kernel_rfl) Tryd.underlying63 hl s0
 have s1:("strconv.ErrRange",(Rows.laid_strconv_ErrRange:DataW Unit))∈Rows.fnExactReadActRow.laid:=List.mem_of_getElem? (i:=4) (by kernel_rfl)
 have x1:=err_of_laid (t:=63) (g:=1) (by kernel_rfl) (by kernel_rfl) Tryd.underlying63 hl s1
 refine⟨fun x hx g hg=> ?_,fun x hx g hg=> ?_⟩
 rotate_left
 ·simp only[errL,List.mem_cons,List.not_mem_nil,or_false]at hx
  rcases hx with rfl|rfl
  ·exact⟨err_cells x0 hg,fun _ k=>k⟩
  ·exact⟨err_cells x1 hg,fun _ k=>k⟩
 simp only[tabL,List.mem_cons,List.not_mem_nil,or_false]at hx
 subst hx
 exact⟨tab_cells t0 hg,fun _ k=>k⟩
set_option maxRecDepth 100000 in
theorem lifted(os:Os)(started:os.Started)(H:Type)(enc:TypeId × Value→H):
  ReturnsInHanded {} Tryd.checked os 3 .any (fun w args=>(Rows.fnExactReadActSpec.pre enc Tryd.prog Tryd.f3 [] false w args∧laidMetH Tryd.prog Rows.fnExactReadActRow.laid w)∧sizedMet enc Tryd.prog Tryd.f3 (OpenSpec.ofChange Rows.fnExactReadActSpec) false w args) (Rows.fnExactReadActSpec.post enc Tryd.prog Tryd.f3 false true false false):=by
 refine returnsInHanded_of_change_and (C:=Tryd.checked) (X:=fun w _=>laidMetH Tryd.prog Rows.fnExactReadActRow.laid w) (fun _ _ _ hh h=>h.of_heap hh) own started (by kernel_rfl) Tryd.func3
  (ChangeSpec.witness_shaped (enc:=enc) (C:=Tryd.checked) (os:=os) (X:=fun w _=>laidMetH Tryd.prog Rows.fnExactReadActRow.laid w) false (World.laidAll Tryd.prog os Rows.fnExactReadActRow.laid) #[.string ⟨#[]⟩] 8 (World.laidAll_os _ _ _) (World.shaped_of_ZipB (by kernel_rfl) (by kernel_rfl)) (by kernel_rfl) (by kernel_rfl) (by kernel_rfl) (by rw[MakeChecks.laidMetH_plain _ _ _ (by kernel_rfl)];exact laidMet_laidAll _ (by kernel_rfl) (by kernel_rfl))) ?_
 intro W base args ds gs before hval0 hW _ _ hL _
 have hval: ∀(j:Nat) t v,Tryd.f3.params[j]? =some t→args[j]? =some v→Value.okWide Tryd.prog W .any base t v:=hval0
 have hW':=hW
 obtain⟨p,q,hA0,hV,rfl,hfz,hnd⟩:=hW
 have hA:DataW.TrodAll enc Tryd.prog W 0 (fun _=>true) true Tryd.f3.params.toList args.toList ds p:=hA0
 rw[Tryd.params3]at hA hval
 obtain⟨v0,vs0,d0,ds0,p0,q0,hargs0,rfl,rfl,h0,r0⟩:=trodAll_cons hA
 obtain⟨hnil,rfl,rfl⟩:=trodAll_nil r0
 obtain rfl:args=#[v0]:=by
  cases args
  simp_all
 obtain⟨rfl,rfl⟩:=trodVars_none hV
 have k0:=h0
 have lt0: ∀x∈p0,x.block<W.heap.size:=by obtain⟨m,hm⟩:=k0;exact DataW.trod_lt m _ _ _ hm
 obtain⟨l0,o0,a0⟩:=bridge_leaf T_ok 9 (t:=9) (by kernel_rfl) rfl rfl (hval 0 9 v0 rfl rfl) h0
 obtain⟨t0,rfl⟩:=U16.str_of o0
 clear hA0 hval0
 have hcon:=(U15.law t0).law W (tabs_met hL) [v0] (parts_cons a0 (parts_nil _ _ _))
 refine hcon.mono fun e W' ⟨he,bel⟩=> ?_
 subst he
 exact⟨_,rfl,_,_,_,[],_,[],hW',trodAll_mk1 (shut_bool Tryd.underlying4 _),(trodAll_cons_mk (Below.trod laidOut (by kernel_rfl) (of_decide_eq_true (by kernel_rfl)) k0 bel lt0) trodAll_mk0),rfl,bel.frame _,fun h=>by cases h⟩
theorem kf0:(Rows.fnExactReadActRow.wf (OpenSpec.ofChange Rows.fnExactReadActSpec))=true:=by kernel_rfl
theorem kf1:(laidOutB Tryd.prog)=true:=by kernel_rfl
theorem kf2:(mapsRowed Tryd.prog)=true:=by kernel_rfl
theorem kf3:(Tryd.f3.params.all (Tryd.prog.readableRec ·))=true:=by kernel_rfl
theorem kf4:(namedTie Tryd.prog Rows.fnExactReadActRow.named Rows.fnExactReadActSpec.vars)=true:=by kernel_rfl
theorem kf5:((Rows.fnExactReadActRow.stops==[]))=true:=by kernel_rfl
theorem kf6:((Tryd.prog.stops==[]))=true:=by kernel_rfl
theorem kf7:((Rows.fnExactReadActRow.knobs==[]))=true:=by kernel_rfl
theorem kf8:((Tryd.prog.stopKnobs==[]))=true:=by kernel_rfl
theorem kf9:((Rows.fnExactReadActRow.inPlace==Tryd.prog.inPlace 3))=true:=by kernel_rfl
theorem kf10:((Rows.fnExactReadActRow.unfollowed==Tryd.prog.unfollowed 3))=true:=by kernel_rfl
theorem kf11:((Rows.fnExactReadActRow.recurses==Tryd.prog.recurses 3))=true:=by kernel_rfl
theorem kf12:((Rows.fnExactReadActRow.named==Tryd.prog.varsNamed 3))=true:=by kernel_rfl
theorem kf13:((Rows.fnExactReadActRow.maps==(Tryd.f3.params.toList++Rows.fnExactReadActSpec.plain.varTypes Tryd.prog).any (Tryd.prog.mapsRec ·)))=true:=by kernel_rfl
theorem kf14:((Rows.fnExactReadActRow.ifaces==(Tryd.f3.params.toList++Rows.fnExactReadActSpec.plain.varTypes Tryd.prog).any (Tryd.prog.ifacesRec ·)))=true:=by kernel_rfl
theorem kf15:((Rows.fnExactReadActRow.mapsOut==Tryd.prog.mapsAmong Tryd.f3.resultTypes.toList))=true:=by kernel_rfl
theorem kf16:((Rows.fnExactReadActRow.loops==(Tryd.f3.params.toList++Rows.fnExactReadActSpec.plain.varTypes Tryd.prog).any (Tryd.prog.loopsFrom ·)))=true:=by kernel_rfl
theorem kf17:((Rows.fnExactReadActRow.wideKeys==(Tryd.f3.params.toList++Rows.fnExactReadActSpec.plain.varTypes Tryd.prog++Tryd.f3.resultTypes.toList).any (Tryd.prog.wideKeysFrom ·)))=true:=by kernel_rfl
theorem kf18:(Rows.fnExactReadActSpec.vars.all (Tryd.prog.varReadable ·))=true:=by kernel_rfl
theorem kf19:(Tryd.f3.resultTypes.all (fun t=>Tryd.prog.readableRec t&&decide (t<Tryd.prog.types.size)))=true:=by kernel_rfl
theorem kf20:((Rows.fnExactReadActRow.ifacesOut==Tryd.f3.resultTypes.toList.any (Tryd.prog.ifacesRec ·)))=true:=by kernel_rfl
theorem kf21:((Rows.fnExactReadActRow.loopsOut==Tryd.f3.resultTypes.toList.any (Tryd.prog.loopsFrom ·)))=true:=by kernel_rfl
theorem kf22:((Rows.fnExactReadActRow.plainKeys==Tryd.prog.plainKeys))=true:=by kernel_rfl
theorem kf23:(Rows.fnExactReadActRow.shortTexts.isNone)=true:=by kernel_rfl
theorem kf24:(Tryd.prog.stopsHeard)=true:=by kernel_rfl
theorem kf25:(Tryd.prog.mayEnter)=true:=by kernel_rfl
theorem kf26:((Rows.fnExactReadActRow.lifted==Tryd.prog.liftsFinal))=true:=by kernel_rfl
theorem kf27:((Tryd.prog.make==some Rows.fnExactReadActRow.make))=true:=by kernel_rfl
theorem kf28:((Rows.fnExactReadActRow.kinds==(if Rows.fnExactReadActRow.domain.isEmpty then[]else Tryd.f3.params.toList.map fun t=>match Tryd.prog.underlying t with|some (.int k)=>some k|_=>none)))=true:=by kernel_rfl
theorem kf29:((Rows.fnExactReadActRow.pinned==Rows.fnExactReadActRow.pinnedBy))=true:=by kernel_rfl
theorem kf30:((Rows.fnExactReadActRow.veiled==(Tryd.f3.params.toList++Rows.fnExactReadActSpec.plain.varTypes Tryd.prog++Tryd.f3.resultTypes.toList).any (Tryd.prog.veiledRec ·)))=true:=by kernel_rfl
theorem kf31:(Rows.fnExactReadActRow.veiledFits Tryd.prog Tryd.f3.params.toList (Tryd.f3.params.toList++Rows.fnExactReadActSpec.plain.varTypes Tryd.prog++Tryd.f3.resultTypes.toList))=true:=by kernel_rfl
theorem and2{a b:Bool}(h:a=true)(k:b=true):(a&&b)=true:=by rw[h,k];rfl
theorem closed:joinedFacts Tryd.prog 3 Tryd.f3 Rows.fnExactReadActSpec Rows.fnExactReadActRow=true:=and2 (and2 (and2 (and2 (and2 (and2 (and2 (and2 (and2 (and2 (and2 (and2 (and2 (and2 (and2 (and2 (and2 (and2 (and2 (and2 (and2 (and2 (and2 (and2 (and2 (and2 (and2 (and2 (and2 (and2 (and2 kf0 kf1) kf2) kf3) kf4) kf5) kf6) kf7) kf8) kf9) kf10) kf11) kf12) kf13) kf14) kf15) kf16) kf17) kf18) kf19) kf20) kf21) kf22) kf23) kf24) kf25) kf26) kf27) kf28) kf29) kf30) kf31
theorem named:Tryd.prog.funcNamed "loop.example/g00787/laws.FnExactReadAct" =some 3:=by kernel_rfl
theorem said:Rows.FnExactReadActSaid:=
 OpenClaim.holds_of_wide 3 Tryd.f3 rfl rfl rfl rfl rfl rfl rfl ⟨rfl,rfl,rfl,rfl,rfl⟩ rfl rfl rfl rfl rfl named Tryd.func3 closed
  (of_decide_eq_true (by kernel_rfl)) (by unfold Func.isWrapper;first|(rw[if_pos (by decide+kernel)];kernel_rfl)|(rw[if_neg (by decide+kernel)];exact⟨rfl,rfl⟩))
  (fun os started H enc _=>lifted os started H enc)
theorem proved:Rows.FnExactReadActCardSaid:=
 Claim7.holds_tied_plain_at .later [] [.data,.data,.data,.data,.sentinel,.sentinel,.pinned] true (true, "e9f53b186dfdabf40ec3d05d02bdf8eaeafeb771df09b470ba1bb20675812bc2") true
  said (fun _ h=>by cases h) (by kernel_rfl) (fun _ h=>by cases h) fnExactReadAct_row_tie rfl ⟨rfl,rfl⟩ (by kernel_rfl) rfl
  (fun f fn hf hfn=>by
   obtain rfl:f=3:=Option.some.inj ((show Tryd.prog.funcNamed "loop.example/g00787/laws.FnExactReadAct" =some 3 by kernel_rfl).symm.trans hf) |>.symm
   obtain rfl:fn=Tryd.f3:=(Option.some.inj (Tryd.func3.symm.trans hfn)).symm
   exact⟨by kernel_rfl,fun j t ht=>by
    rw[Tryd.params3]at ht
    have hm:t∈[9]:=by simpa using Array.mem_of_getElem? ht
    have hall:([9].all fun u=> !Tryd.prog.wantsStandIn u)=true:=by kernel_rfl
    exact(show Tryd.prog.wantsStandIn t=false by simpa using List.all_eq_true.1 hall t hm)⟩)
  (by kernel_rfl)
#print axioms proved
end Go.Proofs.YtiadohfbemjfkaaDoor.FnExactReadAct
