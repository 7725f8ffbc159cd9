import Derived.Test.YtiadohfbemjfkaaDoorAtC
import Derived.Test.YtiadohfbemjfkaaDoorAtD
import Derived.Test.YtiadohfbemjfkaaDoorRows
import Derived.Test.YtiadohfbemjfkaaDoorTie
import Derived.Test.YtiadohfbemjfkaaDoorCards
import Derived.SevenTiedAt
import Derived.LaidMore
import Derived.LaidLaws
import Derived.Lay
import Derived.Test.YtiadohfbemjfkaaDoorAbs8
/- Actions are recovered from their texts: plain. -/
set_option linter.unusedVariables false
set_option linter.unusedSimpArgs false
set_option maxRecDepth 100000
open Go Go.Abs Go.Proofs V1 U2 U3 U4 U5 U6 U7 U8 U9 U10 U11 U12 U13 U14 U15
namespace W7
theorem words_go(t:List UInt8):wordsW t=wordsGo t []:=by
 unfold wordsW
 rw[words_same]
 have h2:=filter_spc t []
 rwa [pre_nil (spc_ne t),←split_spc,←count_lib]at h2
theorem go_end: ∀(u cur:List UInt8),(∀c∈u,c≠32)→cur++u≠[]→wordsGo u cur=[cur++u]
 |[],cur,_,hne=>by
  simp only[List.append_nil]at hne⊢
  rw[wordsGo,if_neg hne]
 |x::u,cur,h,_=>by
  rw[wordsGo,if_neg (h x (by simp)),go_end u (cur++[x]) (fun c hc=>h c (by simp[hc])) (by simp)]
  simp
theorem go_word: ∀(w u cur:List UInt8),(∀c∈w,c≠32)→cur++w≠[]→wordsGo (w++32::u) cur=(cur++w)::wordsGo u []
 |[],u,cur,_,hne=>by
  simp only[List.append_nil]at hne⊢
  rw[List.nil_append,wordsGo,if_pos rfl,if_neg hne]
 |x::w,u,cur,h,_=>by
  rw[List.cons_append,wordsGo,if_neg (h x (by simp)),go_word w u (cur++[x]) (fun c hc=>h c (by simp[hc])) (by simp)]
  simp
theorem two_words{w u:List UInt8}(h1: ∀c∈w,c≠32)(hw:w≠[])(h2: ∀c∈u,c≠32)(hu:u≠[]):wordsW (w++32::u)=[w,u]:=by
 rw[words_go,go_word w u [] h1 (by simpa using hw),go_end u [] h2 (by simpa using hu)]
 simp
theorem dec_dig9(n:Nat): ∀c∈Lib.decDigits n,48≤c.toNat∧c.toNat≤57:=by
 induction n using Nat.strongRecOn with
 |ind n ih=>
  by_cases h:n<10
  ·rw[Lib.decDigits_one h]
   have: ∀m,m<10→ ∀c∈[UInt8.ofNat (48+m)],48≤c.toNat∧c.toNat≤57:=by decide
   exact this n h
  ·rw[dec_step h]
   intro c hc
   rcases List.mem_append.1 hc with hc|hc
   ·exact ih (n/10) (by omega) c hc
   ·have hb:(UInt8.ofNat (48+n%10)).toNat=48+n%10:=by simp;omega
    rw[List.mem_singleton.1 hc,hb];omega
theorem dec_short: ∀(k n:Nat),1≤k→n<10 ^ k→(Lib.decDigits n).length≤k
 |0,n,h,_=>by omega
 |k+1,n,_,h=>by
  by_cases h10:n<10
  ·rw[Lib.decDigits_one h10];simp
  ·rw[dec_step h10,List.length_append]
   have hk:1≤k:=by
    rcases Nat.eq_zero_or_pos k with h0|h0
    ·subst h0;simp at h;omega
    ·exact h0
   have:=dec_short k (n/10) hk (by rw[Nat.pow_succ]at h;omega)
   simp;omega
theorem itoa_no{n:Int}:(∀c∈Lib.itoa n,c≠32)∧Lib.itoa n≠[]:=by
 have hd:=dec_dig9 n.natAbs
 have hd2:=dec_dig9 n.toNat
 have h32:(32:UInt8).toNat=32:=rfl
 unfold Lib.itoa
 split
 ·refine⟨fun c hc e=> ?_,by simp⟩
  rcases List.mem_cons.1 hc with hc|hc
  ·rw[hc]at e;cases e
  ·have:=hd c hc;rw[e]at this;omega
 ·exact⟨fun c hc e=>by have:=hd2 c hc;rw[e]at this;omega,(dig_dec _).2.1⟩
theorem num_itoa{v:Int}(h: -1000000000000000000<v∧v<1000000000000000000):numF (Lib.itoa v)=(v,true):=by
 obtain⟨d1,d2,d3,d4⟩:=dig_dec v.natAbs
 have h18:(10:Nat) ^ 18=1000000000000000000:=by decide
 have hl:=dec_short 18 v.natAbs (by omega) (by omega)
 by_cases hv0:v<0
 ·have e0:Lib.itoa v=45::Lib.decDigits v.natAbs:=by unfold Lib.itoa;rw[if_pos hv0]
  have e1:negT (45::Lib.decDigits v.natAbs)=true:=rfl
  have e2:magT (45::Lib.decDigits v.natAbs)=Lib.decDigits v.natAbs:=by simp[magT,e1]
  have hm:magOK true (Lib.decDigits v.natAbs)=true:=by
   simp only[magOK,Bool.and_eq_true,decide_eq_true_eq,Bool.not_eq_true',Bool.and_eq_false_iff]
   refine⟨⟨d2,hl⟩,.inl ?_⟩
   cases hh:(Lib.decDigits v.natAbs).head?==some 48 with
   |false=>rfl
   |true=>have:=d3 (by simpa using hh);omega
  unfold numF
  rw[e0,e1,e2,if_pos hm,d1]
  simp only[if_true,Prod.mk.injEq,and_true]
  omega
 ·have e0:Lib.itoa v=Lib.decDigits v.natAbs:=by unfold Lib.itoa;rw[if_neg hv0];congr 1;omega
  have e1:negT (Lib.decDigits v.natAbs)=false:=by
   unfold negT
   cases hh:(Lib.decDigits v.natAbs).head?==some 45 with
   |false=>rfl
   |true=>exact absurd (by simpa using hh) d4
  have e2:magT (Lib.decDigits v.natAbs)=Lib.decDigits v.natAbs:=by simp[magT,e1]
  have hm:magOK false (Lib.decDigits v.natAbs)=true:=by
   simp only[magOK,Bool.and_eq_true,decide_eq_true_eq,Bool.not_eq_true',Bool.and_eq_false_iff]
   refine⟨⟨d2,hl⟩,?_⟩
   cases hh:(Lib.decDigits v.natAbs).head?==some 48 with
   |false=>exact .inl rfl
   |true=>
    right
    have h0:=d3 (by simpa using hh)
    rw[h0,Lib.decDigits_one (by decide)];rfl
  unfold numF
  rw[e0,e1,e2,if_pos hm,d1]
  simp only[Bool.false_eq_true,if_false,Prod.mk.injEq,and_true]
  omega
theorem read_two{t w u:List UInt8}(hp:hasP t evalP=false)(hw:wordsW t=[w,u])(hl:t.length≤65536):rdF t=finR (twoS w u):=by
 unfold rdF rdS
 rw[if_neg (by omega),hp,if_neg (by decide),hw]
theorem back_ok{x:Doing}(h:actOK x=true):rdF (actT x)=(x,0):=by
 rcases act_cases h with⟨k,n,hk,hn,rfl⟩|⟨k,n,hk,hn,rfl⟩|⟨l,hl,rfl⟩
 ·rcases hk with rfl|rfl<;>rcases hn with rfl|rfl|rfl|rfl<;>decide+kernel
 ·have hil:=itoa_len (n:=n) (by omega) (by omega)
  obtain⟨n1,n2⟩:=itoa_no (n:=n)
  have hnum:=num_itoa (v:=n) (by omega)
  rcases hk with rfl|rfl|rfl
  ·have e:actT ⟨3,n,[]⟩=[114,101,102,117,101,108]++32::Lib.itoa n:=rfl
   rw[e,read_two rfl (two_words (by decide) (by decide) n1 n2) (by simp;omega)]
   have hk:kS [114,101,102,117,101,108]=2:=by decide+kernel
   unfold twoS
   rw[hk,if_neg (by decide),if_neg (by decide),hnum]
   simp only[finR]
   rw[show(2:Int)+1=3 from rfl,h];rfl
  ·have e:actT ⟨4,n,[]⟩=[97,110,115,119,101,114]++32::Lib.itoa n:=rfl
   rw[e,read_two rfl (two_words (by decide) (by decide) n1 n2) (by simp;omega)]
   have hk:kS [97,110,115,119,101,114]=3:=by decide+kernel
   unfold twoS
   rw[hk,if_neg (by decide),if_neg (by decide),hnum]
   simp only[finR]
   rw[show(3:Int)+1=4 from rfl,h];rfl
  ·have e:actT ⟨5,n,[]⟩=[116,105,99,107]++32::Lib.itoa n:=rfl
   rw[e,read_two rfl (two_words (by decide) (by decide) n1 n2) (by simp;omega)]
   have hk:kS [116,105,99,107]=4:=by decide+kernel
   unfold twoS
   rw[hk,if_neg (by decide),if_neg (by decide),hnum]
   simp only[finR]
   rw[show(4:Int)+1=5 from rfl,h];rfl
 ·have e:actT ⟨6,0,l⟩=101::118::97::108::32::l:=rfl
  have hp:hasP (101::118::97::108::32::l) evalP=true:=by
   simp[hasP,evalP]
  rw[e]
  unfold rdF rdS
  rw[if_neg (by simp;omega),if_pos hp]
  have ea:evA (101::118::97::108::32::l)=⟨6,0,l⟩:=rfl
  rw[ea,h];rfl
def evalW:List UInt8:=[101,118,97,108,117,97,116,101]
theorem no_ok(s:List UInt8)(hl:s.length≤60000):rdF ([101,118,97,108,117,97,116,101,32]++s)=(act0,3):=by
 have e:[101,118,97,108,117,97,116,101,32]++s=evalW++32::s:=rfl
 have hp:hasP (evalW++32::s) evalP=false:=by
  simp[hasP,evalP,evalW]
 have hw:wordsW (evalW++32::s)=evalW::wordsGo s []:=by
  rw[words_go,go_word evalW s [] (by decide) (by decide)]
  rfl
 rw[e]
 unfold rdF rdS
 rw[if_neg (by simp[evalW];omega),hp,if_neg (by decide),hw]
 have hk:kS evalW= -1:=by decide+kernel
 cases wordsGo s []with
 |nil=>rfl
 |cons a l=>cases l with
  |nil=>
   simp only[twoS]
   rw[hk,if_pos (.inl rfl)];rfl
  |cons b l=>rfl
end W7

/- The law of FnActTexts. -/
open Go Go.Abs Go.Proofs V1 U2 U3 U15 W1 W2 W3 W4 W5 W6 W7
namespace W8
theorem law(d0 d1:List UInt8):Con Tryd.prog 4 [roU d0,roU d1] (undefs [roU d0,roU d1]) (.bool true):=by
 obtain⟨t,kl⟩:=actLine d0
 obtain⟨x,kx,hx⟩:=actDrawn d1
 have kr1:=c6 t
 have kr2:=c5 t
 have kt1:=c10 x
 have kt2:=c11 x
 have et:textV x=.tup [.str (actT x),.int .i64 0]:=by simp[textV,tT,tC,hx]
 rw[et]at kt1 kt2
 have kb:=c6 (actT x)
 rw[back_ok hx]at kb
 have lx:=actT_len hx
 have kn:=c6 ([101,118,97,108,117,97,116,101,32]++actT x)
 rw[no_ok (actT x) (by omega)]at kn
 have ko:=c12 x
 rw[hx]at ko
 unfold rdW at kr1 kr2 kb kn
 have g1:((rdF t).2==(rdF t).2)=true:=by simp
 refine Con.evF 96 T_ok mix Tryd.func4 rfl rfl rfl rfl [.tmp 4] rfl fun⟨hf0,hf1,_⟩=> ?_
 conv=>whnf
 (iterate 6 (first|(apply rq_s rfl;(conv=>whnf))|(apply br_t rfl;(conv=>whnf))|(refine br_s ?_ ?_<;>intro hb<;>(try simp only[cln]at hb)<;>conv=>whnf)));(focus (refine sh_s ?_;(first|rfl|(simp_all;done))));(iterate 4 (first|(apply rq_s rfl;(conv=>whnf))|(apply br_f rfl;(conv=>whnf))|(refine br_s ?_ ?_<;>intro hb<;>(try simp only[cln]at hb)<;>conv=>whnf)));(focus (refine sh_s ?_;(first|rfl|(simp_all;done))));(iterate 41 ((first|apply rq_s rfl|refine rq_s (by(((simp[maxStr];omega)))) ?_|apply rows_s rfl|refine fac_s (fun hf=> ?_)|apply lend_s|refine call_s (kl ..) ?_|refine call_s (kx ..) ?_|refine call_s (kr1 ..) ?_|refine call_s (kr2 ..) ?_|refine call_s (kt1 ..) ?_|refine call_s (kt2 ..) ?_|refine call_s (kb ..) ?_);conv=>whnf));(iterate 27 (first|(refine rq_s (by solve|simp only[lnm]|fail) ?_;(conv=>whnf))|(apply rq_s rfl;(conv=>whnf))|(refine fac_s (fun hf=> ?_);(conv=>whnf))|(apply br_t rfl;(conv=>whnf))|(focus (apply br_t (by solve|simp|fail);(conv=>whnf)))|(apply lend_s;(conv=>whnf))|(refine call_s (kn ..) ?_;(conv=>whnf))|(refine call_s (ko ..) ?_;(conv=>whnf))));(focus (refine sh_s ?_;(first|rfl|(simp_all;done))))
end W8

/- Bytes: what an argument is. -/
open Go Go.Abs Go.Proofs V1 W1
namespace W9
theorem byte_of{l:List AV}(h:OfT T 9 5 l)(hf: ∀x∈l,x.facts 1): ∃c:UInt8,l=byteR c:=by
 obtain⟨n,rfl⟩:=h
 have h1:fitsK .u8 n=true:=hf _ (List.mem_singleton.2 rfl)
 have h2:0≤n∧n<256:=by
  simp[fitsK,IntKind.signed,IntKind.bits]at h1
  omega
 refine⟨UInt8.ofNat n.toNat,?_⟩
 have e:(UInt8.ofNat n.toNat).toNat=n.toNat:=by
  rw[UInt8.toNat_ofNat']
  omega
 show[AV.int .u8 n]=[.int .u8 ((UInt8.ofNat n.toNat).toNat:Int)]
 rw[e]
 congr 2
 omega
theorem bytes_of{w:World}{R O:Cells}{loc:Locs}{v:Value}{x:AV}(h:OfT T 10 28 [x])(ha:AR w R loc x v O): ∃d:List UInt8,x=roU d:=by
 obtain⟨rows,h1,h2⟩:=h
 injection h1 with h1
 have hf:=ha.facts 2
 rw[h1]at hf
 have hf2: ∀row∈rows,∀x∈row,x.facts 1:=hf.2
 have hm: ∃xs:List UInt8,rows=xs.map byteR:=by
  clear h1 hf
  induction rows with
  |nil=>exact⟨[],rfl⟩
  |cons r l ih=>
   obtain⟨c,rfl⟩:=byte_of (h2 r (by simp)) (hf2 r (by simp))
   obtain⟨xs,rfl⟩:=ih (fun row hr=>h2 row (by simp[hr])) (fun row hr=>hf2 row (by simp[hr]))
   exact⟨c::xs,rfl⟩
 obtain⟨xs,rfl⟩:=hm
 exact⟨xs,h1⟩
end W9

/- FnActTexts: the law returns true at every input, and its arguments read behind the call as they did. -/
namespace Go.Proofs.YtiadohfbemjfkaaDoor.FnActTexts
open Go.ChangeShapes Go.WideShapes Go.ChangeAt Go.RowKit Go.Joins
open Go.Abs V1 W8 W9
theorem own:ownKnob Tryd.prog.godebug=none:=by kernel_rfl
theorem laidOut:laidOutB Tryd.prog=true:=by kernel_rfl
theorem tabs_met{W:World}(h:laidMetH Tryd.prog Rows.fnActTextsRow.laid W):Tabs Tryd.prog W none2:=by
 rw[MakeChecks.laidMetH_plain _ _ _ (by kernel_rfl)]at h
 obtain⟨ps,hl,_⟩:=h
 have m0:("internal/strconv.uint64pow10",(Lib.tabData .u64 Lib.pow10Tab:DataW Unit))∈Rows.fnActTextsRow.laid:=List.mem_of_getElem? (i:=2) (by kernel_rfl)
 have t0:=tab_of_laid (t:=99) (e:=72) (n:=20) (g:=2) (by kernel_rfl) (by kernel_rfl) Tryd.underlying99 Tryd.underlying72 (by kernel_rfl) (by kernel_rfl) hl m0
 have s0:("strconv.ErrSyntax",(Rows.laid_strconv_ErrSyntax:DataW Unit))∈Rows.fnActTextsRow.laid:=List.mem_of_getElem? (i:=5) (by kernel_rfl)
 have x0:=err_of_laid (t:=63) (g:=0) (by kernel_rfl) (by kernel_rfl) Tryd.underlying63 hl s0
 have s1:("strconv.ErrRange",(Rows.laid_strconv_ErrRange:DataW Unit))∈Rows.fnActTextsRow.laid:=List.mem_of_getElem? (i:=4) (by kernel_rfl)
 have x1:=err_of_laid (t:=63) (g:=1) (by kernel_rfl) (by kernel_rfl) Tryd.underlying63 hl s1
 refine⟨fun x hx g hg=> ?_,fun x hx g hg=> ?_⟩
 rotate_left
 ·simp only[errL,List.mem_cons,List.not_mem_nil,or_false]at hx
  rcases hx with rfl|rfl
  ·exact⟨err_cells x0 hg,fun _ k=>k⟩
  ·exact⟨err_cells x1 hg,fun _ k=>k⟩
 simp only[tabL,List.mem_cons,List.not_mem_nil,or_false]at hx
 subst hx
 exact⟨tab_cells t0 hg,fun _ k=>k⟩
set_option maxRecDepth 100000 in
theorem lifted(os:Os)(started:os.Started)(H:Type)(enc:TypeId × Value→H):
  ReturnsInHanded {} Tryd.checked os 4 .any (fun w args=>(Rows.fnActTextsSpec.pre enc Tryd.prog Tryd.f4 [] false w args∧laidMetH Tryd.prog Rows.fnActTextsRow.laid w)∧sizedMet enc Tryd.prog Tryd.f4 (OpenSpec.ofChange Rows.fnActTextsSpec) false w args) (Rows.fnActTextsSpec.post enc Tryd.prog Tryd.f4 false true false false):=by
 refine returnsInHanded_of_change_and (C:=Tryd.checked) (X:=fun w _=>laidMetH Tryd.prog Rows.fnActTextsRow.laid w) (fun _ _ _ hh h=>h.of_heap hh) own started (by kernel_rfl) Tryd.func4
  (ChangeSpec.witness_shaped (enc:=enc) (C:=Tryd.checked) (os:=os) (X:=fun w _=>laidMetH Tryd.prog Rows.fnActTextsRow.laid w) false (World.laidAll Tryd.prog os Rows.fnActTextsRow.laid) #[.slice none 0 0,.slice none 0 0] 8 (World.laidAll_os _ _ _) (World.shaped_of_ZipB (by kernel_rfl) (by kernel_rfl)) (by kernel_rfl) (by kernel_rfl) (by kernel_rfl) (by rw[MakeChecks.laidMetH_plain _ _ _ (by kernel_rfl)];exact laidMet_laidAll _ (by kernel_rfl) (by kernel_rfl))) ?_
 intro W base args ds gs before hval0 hW _ _ hL _
 have hval: ∀(j:Nat) t v,Tryd.f4.params[j]? =some t→args[j]? =some v→Value.okWide Tryd.prog W .any base t v:=hval0
 have hW':=hW
 obtain⟨p,q,hA0,hV,rfl,hfz,hnd⟩:=hW
 have hA:DataW.TrodAll enc Tryd.prog W 0 (fun _=>true) true Tryd.f4.params.toList args.toList ds p:=hA0
 rw[Tryd.params4]at hA hval
 obtain⟨v0,vs0,d0,ds0,p0,q0,hargs0,rfl,rfl,h0,r0⟩:=trodAll_cons hA
 obtain⟨v1,vs1,d1,ds1,p1,q1,hargs1,rfl,rfl,h1,r1⟩:=trodAll_cons r0
 obtain⟨hnil,rfl,rfl⟩:=trodAll_nil r1
 obtain rfl:args=#[v0,v1]:=by
  cases args
  simp_all
 obtain⟨rfl,rfl⟩:=trodVars_none hV
 have k0:=h0
 have lt0: ∀x∈p0,x.block<W.heap.size:=by obtain⟨m,hm⟩:=k0;exact DataW.trod_lt m _ _ _ hm
 obtain⟨l0,o0,a0⟩:=bridge_leaf T_ok 9 (t:=28) (by kernel_rfl) rfl rfl (hval 0 28 v0 rfl rfl) h0
 obtain⟨d0,rfl⟩:=W9.bytes_of o0 a0
 have k1:=h1
 have lt1: ∀x∈p1,x.block<W.heap.size:=by obtain⟨m,hm⟩:=k1;exact DataW.trod_lt m _ _ _ hm
 obtain⟨l1,o1,a1⟩:=bridge_leaf T_ok 9 (t:=28) (by kernel_rfl) rfl rfl (hval 1 28 v1 rfl rfl) h1
 obtain⟨d1,rfl⟩:=W9.bytes_of o1 a1
 clear hA0 hval0
 have hcon:=(W8.law d0 d1).law W (tabs_met hL) [v0,v1] (parts_cons a0 (parts_cons a1 (parts_nil _ _ _)))
 refine hcon.mono fun e W' ⟨he,bel⟩=> ?_
 subst he
 exact⟨_,rfl,_,_,_,[],_,[],hW',trodAll_mk1 (shut_bool Tryd.underlying4 _),(trodAll_cons_mk (Below.trod laidOut (by kernel_rfl) (of_decide_eq_true (by kernel_rfl)) k0 bel lt0) (trodAll_cons_mk (Below.trod laidOut (by kernel_rfl) (of_decide_eq_true (by kernel_rfl)) k1 bel lt1) trodAll_mk0)),rfl,bel.frame _,fun h=>by cases h⟩
theorem kf0:(Rows.fnActTextsRow.wf (OpenSpec.ofChange Rows.fnActTextsSpec))=true:=by kernel_rfl
theorem kf1:(laidOutB Tryd.prog)=true:=by kernel_rfl
theorem kf2:(mapsRowed Tryd.prog)=true:=by kernel_rfl
theorem kf3:(Tryd.f4.params.all (Tryd.prog.readableRec ·))=true:=by kernel_rfl
theorem kf4:(namedTie Tryd.prog Rows.fnActTextsRow.named Rows.fnActTextsSpec.vars)=true:=by kernel_rfl
theorem kf5:((Rows.fnActTextsRow.stops==[]))=true:=by kernel_rfl
theorem kf6:((Tryd.prog.stops==[]))=true:=by kernel_rfl
theorem kf7:((Rows.fnActTextsRow.knobs==[]))=true:=by kernel_rfl
theorem kf8:((Tryd.prog.stopKnobs==[]))=true:=by kernel_rfl
theorem kf9:((Rows.fnActTextsRow.inPlace==Tryd.prog.inPlace 4))=true:=by kernel_rfl
theorem kf10:((Rows.fnActTextsRow.unfollowed==Tryd.prog.unfollowed 4))=true:=by kernel_rfl
theorem kf11:((Rows.fnActTextsRow.recurses==Tryd.prog.recurses 4))=true:=by kernel_rfl
theorem kf12:((Rows.fnActTextsRow.named==Tryd.prog.varsNamed 4))=true:=by kernel_rfl
theorem kf13:((Rows.fnActTextsRow.maps==(Tryd.f4.params.toList++Rows.fnActTextsSpec.plain.varTypes Tryd.prog).any (Tryd.prog.mapsRec ·)))=true:=by kernel_rfl
theorem kf14:((Rows.fnActTextsRow.ifaces==(Tryd.f4.params.toList++Rows.fnActTextsSpec.plain.varTypes Tryd.prog).any (Tryd.prog.ifacesRec ·)))=true:=by kernel_rfl
theorem kf15:((Rows.fnActTextsRow.mapsOut==Tryd.prog.mapsAmong Tryd.f4.resultTypes.toList))=true:=by kernel_rfl
theorem kf16:((Rows.fnActTextsRow.loops==(Tryd.f4.params.toList++Rows.fnActTextsSpec.plain.varTypes Tryd.prog).any (Tryd.prog.loopsFrom ·)))=true:=by kernel_rfl
theorem kf17:((Rows.fnActTextsRow.wideKeys==(Tryd.f4.params.toList++Rows.fnActTextsSpec.plain.varTypes Tryd.prog++Tryd.f4.resultTypes.toList).any (Tryd.prog.wideKeysFrom ·)))=true:=by kernel_rfl
theorem kf18:(Rows.fnActTextsSpec.vars.all (Tryd.prog.varReadable ·))=true:=by kernel_rfl
theorem kf19:(Tryd.f4.resultTypes.all (fun t=>Tryd.prog.readableRec t&&decide (t<Tryd.prog.types.size)))=true:=by kernel_rfl
theorem kf20:((Rows.fnActTextsRow.ifacesOut==Tryd.f4.resultTypes.toList.any (Tryd.prog.ifacesRec ·)))=true:=by kernel_rfl
theorem kf21:((Rows.fnActTextsRow.loopsOut==Tryd.f4.resultTypes.toList.any (Tryd.prog.loopsFrom ·)))=true:=by kernel_rfl
theorem kf22:((Rows.fnActTextsRow.plainKeys==Tryd.prog.plainKeys))=true:=by kernel_rfl
theorem kf23:(Rows.fnActTextsRow.shortTexts.isNone)=true:=by kernel_rfl
theorem kf24:(Tryd.prog.stopsHeard)=true:=by kernel_rfl
theorem kf25:(Tryd.prog.mayEnter)=true:=by kernel_rfl
theorem kf26:((Rows.fnActTextsRow.lifted==Tryd.prog.liftsFinal))=true:=by kernel_rfl
theorem kf27:((Tryd.prog.make==some Rows.fnActTextsRow.make))=true:=by kernel_rfl
theorem kf28:((Rows.fnActTextsRow.kinds==(if Rows.fnActTextsRow.domain.isEmpty then[]else Tryd.f4.params.toList.map fun t=>match Tryd.prog.underlying t with|some (.int k)=>some k|_=>none)))=true:=by kernel_rfl
theorem kf29:((Rows.fnActTextsRow.pinned==Rows.fnActTextsRow.pinnedBy))=true:=by kernel_rfl
theorem kf30:((Rows.fnActTextsRow.veiled==(Tryd.f4.params.toList++Rows.fnActTextsSpec.plain.varTypes Tryd.prog++Tryd.f4.resultTypes.toList).any (Tryd.prog.veiledRec ·)))=true:=by kernel_rfl
theorem kf31:(Rows.fnActTextsRow.veiledFits Tryd.prog Tryd.f4.params.toList (Tryd.f4.params.toList++Rows.fnActTextsSpec.plain.varTypes Tryd.prog++Tryd.f4.resultTypes.toList))=true:=by kernel_rfl
theorem and2{a b:Bool}(h:a=true)(k:b=true):(a&&b)=true:=by rw[h,k];rfl
theorem closed:joinedFacts Tryd.prog 4 Tryd.f4 Rows.fnActTextsSpec Rows.fnActTextsRow=true:=and2 (and2 (and2 (and2 (and2 (and2 (and2 (and2 (and2 (and2 (and2 (and2 (and2 (and2 (and2 (and2 (and2 (and2 (and2 (and2 (and2 (and2 (and2 (and2 (and2 (and2 (and2 (and2 (and2 (and2 (and2 kf0 kf1) kf2) kf3) kf4) kf5) kf6) kf7) kf8) kf9) kf10) kf11) kf12) kf13) kf14) kf15) kf16) kf17) kf18) kf19) kf20) kf21) kf22) kf23) kf24) kf25) kf26) kf27) kf28) kf29) kf30) kf31
theorem named:Tryd.prog.funcNamed "loop.example/g00787/laws.FnActTexts" =some 4:=by kernel_rfl
theorem said:Rows.FnActTextsSaid:=
 OpenClaim.holds_of_wide 4 Tryd.f4 rfl rfl rfl rfl rfl rfl rfl ⟨rfl,rfl,rfl,rfl,rfl⟩ rfl rfl rfl rfl rfl named Tryd.func4 closed
  (of_decide_eq_true (by kernel_rfl)) (by unfold Func.isWrapper;first|(rw[if_pos (by decide+kernel)];kernel_rfl)|(rw[if_neg (by decide+kernel)];exact⟨rfl,rfl⟩))
  (fun os started H enc _=>lifted os started H enc)
theorem proved:Rows.FnActTextsCardSaid:=
 Claim7.holds_tied_plain_at .later [] [.data,.data,.data,.data,.sentinel,.sentinel,.pinned] true (true, "e9f53b186dfdabf40ec3d05d02bdf8eaeafeb771df09b470ba1bb20675812bc2") true
  said (fun _ h=>by cases h) (by kernel_rfl) (fun _ h=>by cases h) fnActTexts_row_tie rfl ⟨rfl,rfl⟩ (by kernel_rfl) rfl
  (fun f fn hf hfn=>by
   obtain rfl:f=4:=Option.some.inj ((show Tryd.prog.funcNamed "loop.example/g00787/laws.FnActTexts" =some 4 by kernel_rfl).symm.trans hf) |>.symm
   obtain rfl:fn=Tryd.f4:=(Option.some.inj (Tryd.func4.symm.trans hfn)).symm
   exact⟨by kernel_rfl,fun j t ht=>by
    rw[Tryd.params4]at ht
    have hm:t∈[28,28]:=by simpa using Array.mem_of_getElem? ht
    have hall:([28,28].all fun u=> !Tryd.prog.wantsStandIn u)=true:=by kernel_rfl
    exact(show Tryd.prog.wantsStandIn t=false by simpa using List.all_eq_true.1 hall t hm)⟩)
  (by kernel_rfl)
#print axioms proved
end Go.Proofs.YtiadohfbemjfkaaDoor.FnActTexts
