import Derived.Test.YtidkogijdlfjpaaGreatDoorIdG
import Derived.Test.YtidkogijdlfjpaaGreatDoorIdF
import Derived.Test.YtidkogijdlfjpaaGreatDoorRows
import Derived.Test.YtidkogijdlfjpaaGreatDoorTie
import Derived.Test.YtidkogijdlfjpaaGreatDoorCards
import Derived.SevenTiedAt
import Derived.LaidMore
import Derived.LaidLaws
import Derived.Lay
import Derived.Test.YtidkogijdlfjpaaGreatDoorAbs8
/- FnPrims: the law. -/
set_option linter.unusedVariables false
set_option linter.unusedSimpArgs false
set_option maxRecDepth 100000
open Go Go.Abs Go.Proofs V1 H1 P1 P5 P9 P10 P12 P20 P21 Y1 Y2 Y3 Y4 Y5
namespace Y6
theorem dat_ov(d:Dat):Sh (datO d) (datV d):=Sh.agg ⟨Sh.own_ro (by omega) _ _,Sh.own_ro (by omega) _ _,Sh.own_ro (by omega) _ _,Sh.refl _,Sh.refl _,Sh.refl _,trivial⟩
def avV(x:Dat × Int):AV:=.tup [datV x.1,.int .i64 x.2,.int .i64 0]
theorem ap_go{d:Dat}{p:Nat}(hp:P52 p)(h:DataOk d):applyF d p 0=((primF TX p 0 d).1,(primF TX p 0 d).2,0):=by
 have h2:inR (p:Int) 1 52=true:=by unfold P52 at hp;simp[inR];omega
 have h3:inR 0 0 d.bk.length=true:=by simp[inR]
 rw[applyF,if_neg (by simp[(dataOK_iff d).2 h]),if_neg (by simp[h2]),if_neg (by simp[h3])]
 rfl
theorem apS{d:Dat}{p:Nat}(hp:P52 p)(h:DataOk d):Con Tryz.prog 8 [datV d,.int .i64 p,.int .i64 0] (undefs [datV d,.int .i64 p,.int .i64 0]) (avV (primF TX p 0 d)):=by
 have k:=c8 d p 0
 rw[ap_go hp h]at k
 exact Con.sh k (Sh.tup ⟨dat_ov _,Sh.refl _,Sh.refl _,trivial⟩)
structure St where
 d:Dat
 i:Nat
end Y6

/- FnIdentities: the law. -/
open Go Go.Abs Go.Proofs V1 H1 P1 P5 P9 P10 P12 P18 P20 P21 P23 P24 Y1 Y2 Y3 Y4 Y5 Y6
namespace Y7
def LS:List (List Int):=[[3,3],[5,5,5],[12,13],[25,25],[27,27],[1,2],[9,10],[4,2],[11,2],[28,29]]
theorem wc2{e:Int}(h:Ce e):wc (-wc (-e))=e:=by
 unfold Ce at h
 rw[show wc (-wc (-e))=wc (-(-e))from wc_congr (by
  rw[wc_e,i32_e]
  split<;>omega),show-(-e)=e by omega,wc_id h.1 h.2]
theorem wc3{e:Int}(h:Ce e):wc (wc (e+1)-1)=e:=by
 unfold Ce at h
 rw[show wc (wc (e+1)-1)=wc e from wc_congr (by
  rw[wc_e,i32_e]
  split<;>omega),wc_id h.1 h.2]
theorem run_step{q:Nat}{ps:List Int}{k:Nat}{d d':Dat}(h:primF TX q 0 d=(d',0)):runF ((q:Int)::ps) k d=runF ps (k+1) d':=by rw[run_on (by rw[Int.toNat_natCast,h];simp),Int.toNat_natCast,h]
theorem st_any{p:Nat}{d x:Dat}(ht:takesN p≤d.st.length)(hb:backN p≤d.bk.length)(e:primR TX p d (rr p d) (qa d) (qb d) (qc d)=(x,0)):primF TX p 0 d=(x,0):=by
 rw[prim_r (by omega) (by omega),e];rfl
def D(z:List Int)(st bk:List Int):Dat:=⟨st,bk,z,0,10,[]⟩
section
variable{z:List Int}{a b c e v:Int}
theorem s3:primF TX 3 0 (D z [a,b,c,e] [])=(D z [a,b,e,c] [],0):=st_any (by show 2≤4;omega) (by show 0≤0;omega) rfl
theorem s5:primF TX 5 0 (D z [a,b,c,e] [])=(D z [a,c,e,b] [],0):=st_any (by show 3≤4;omega) (by show 0≤0;omega) rfl
theorem s12:primF TX 12 0 (D z [a,b,c,e] [])=(D z [a,b,c] [e],0):=st_any (by show 1≤4;omega) (by show 0≤0;omega) rfl
theorem s13:primF TX 13 0 (D z [a,b,c] [e])=(D z [a,b,c,e] [],0):=st_any (by show 0≤3;omega) (by show 1≤1;omega) rfl
theorem s25:primF TX 25 0 (D z [a,b,c,e] [])=(D z [a,b,c,wc (-e)] [],0):=st_any (by show 1≤4;omega) (by show 0≤0;omega) rfl
theorem s27:primF TX 27 0 (D z [a,b,c,e] [])=(D z [a,b,c,-e-1] [],0):=st_any (by show 1≤4;omega) (by show 0≤0;omega) rfl
theorem s28:primF TX 28 0 (D z [a,b,c,e] [])=(D z [a,b,c,wc (e+1)] [],0):=st_any (by show 1≤4;omega) (by show 0≤0;omega) rfl
theorem s29:primF TX 29 0 (D z [a,b,c,e] [])=(D z [a,b,c,wc (e-1)] [],0):=st_any (by show 1≤4;omega) (by show 0≤0;omega) rfl
theorem s1:primF TX 1 0 (D z [a,b,c,e] [])=(D z [a,b,c,e,e] [],0):=st_any (by show 1≤4;omega) (by show 0≤0;omega) rfl
theorem s2:primF TX 2 0 (D z [a,b,c,e,v] [])=(D z [a,b,c,e] [],0):=st_any (by show 1≤5;omega) (by show 0≤0;omega) rfl
theorem s9:primF TX 9 0 (D z [a,b,c,e] [])=(D z [a,b,c,e,c,e] [],0):=st_any (by show 2≤4;omega) (by show 0≤0;omega) rfl
theorem s10:primF TX 10 0 (D z [a,b,c,e,c,e] [])=(D z [a,b,c,e] [],0):=st_any (by show 2≤6;omega) (by show 0≤0;omega) rfl
theorem s4:primF TX 4 0 (D z [a,b,c,e] [])=(D z [a,b,c,e,c] [],0):=st_any (by show 2≤4;omega) (by show 0≤0;omega) rfl
theorem s11:primF TX 11 0 (D z [a,b,c,e] [])=(D z [a,b,c,e,4] [],0):=st_any (by show 0≤4;omega) (by show 0≤0;omega) rfl
theorem t4:primF TX 2 0 (D z [a,b,c,e] [])=(D z [a,b,c] [],0):=st_any (by show 1≤4;omega) (by show 0≤0;omega) rfl
theorem t3:primF TX 2 0 (D z [a,b,c] [])=(D z [a,b] [],0):=st_any (by show 1≤3;omega) (by show 0≤0;omega) rfl
theorem t2:primF TX 2 0 (D z [a,b] [])=(D z [a] [],0):=st_any (by show 1≤2;omega) (by show 0≤0;omega) rfl
theorem t1:primF TX 2 0 (D z [a] [])=(D z [] [],0):=st_any (by show 1≤1;omega) (by show 0≤0;omega) rfl
theorem t0:primF TX 2 0 (D z [] [])=(D z [] [],-4):=prim_u (by show 0<1;omega)
theorem run_id(he:Ce e): ∀i,i<10→runF (LS.getD i []) 0 (D z [a,b,c,e] [])=(D z [a,b,c,e] [],(LS.getD i []).length,0):=by
 intro i hi
 rcases(by omega:i=0∨i=1∨i=2∨i=3∨i=4∨i=5∨i=6∨i=7∨i=8∨i=9)with rfl|rfl|rfl|rfl|rfl|rfl|rfl|rfl|rfl|rfl
 ·exact(run_step s3).trans ((run_step s3).trans (run_end ..))
 ·exact(run_step s5).trans ((run_step s5).trans ((run_step s5).trans (run_end ..)))
 ·exact(run_step s12).trans ((run_step s13).trans (run_end ..))
 ·refine(run_step s25).trans ((run_step s25).trans ((run_end ..).trans ?_))
  rw[wc2 he];rfl
 ·refine(run_step s27).trans ((run_step s27).trans ((run_end ..).trans ?_))
  rw[show-(-e-1)-1=e by omega];rfl
 ·exact(run_step s1).trans ((run_step s2).trans (run_end ..))
 ·exact(run_step s9).trans ((run_step s10).trans (run_end ..))
 ·exact(run_step s4).trans ((run_step s2).trans (run_end ..))
 ·exact(run_step s11).trans ((run_step s2).trans (run_end ..))
 ·refine(run_step s28).trans ((run_step s29).trans ((run_end ..).trans ?_))
  rw[wc3 he];rfl
theorem run_last:runF [2,2,2,2,2,1] 0 (D z [a,b,c,e] [])=(D z [] [],4,-4):=by
 refine(run_step t4).trans ((run_step t3).trans ((run_step t2).trans ((run_step t1).trans ?_)))
 have h:=t0 (z:=z)
 rw[run_stop (by rw[show(2:Int).toNat=2 from rfl,h];simp),show(2:Int).toNat=2 from rfl,h]
end
theorem all_go{d:Dat}{ps:List Int}(h1: ¬4096<ps.length)(h2:DataOk d)(h3:ps.any badPrim=false):allF d ps=((runF ps 0 d).1,((runF ps 0 d).2.1:Int),(runF ps 0 d).2.2,0):=by
 unfold allF
 rw[if_neg h1,if_neg (by simp[(dataOK_iff d).2 h2]),if_neg (by simp[h3])]
theorem d4_ok{a b c e:Int}(ha:Ce a)(hb:Ce b)(hc:Ce c)(he:Ce e):DataOk (D (List.replicate 32 0) [a,b,c,e] []):=
 ⟨by simp[D],by simp[D],by simp[D],cok_cons ha (cok_cons hb (cok_cons hc (cok1 he))),rfl,by show cellsOK (List.replicate 32 0)=true;decide,by simp[D],by simp[D],by simp[D]⟩
def av4(d:Dat)(n t:Int):AV:=.tup [datV d,.int .i64 n,.int .i64 t,.int .i64 0]
theorem alI{d x:Dat}{ps:List Int}{n:Nat}{t:Int}(h1: ¬4096<ps.length)(h2:DataOk d)(h3:ps.any badPrim=false)(h4:runF ps 0 d=(x,n,t)):Con Tryz.prog 16 [datV d,roI ps] (undefs [datV d,roI ps]) (av4 x n t):=by
 have k:=c16 d ps
 rw[all_go h1 h2 h3,h4]at k
 exact Con.sh k (Sh.tup ⟨dat_ov _,Sh.refl _,Sh.refl _,Sh.refl _,trivial⟩)
theorem alS{d x:Dat}{ps:List Int}{n:Nat}{t:Int}(h1: ¬4096<ps.length)(h2:DataOk d)(h3:ps.any badPrim=false)(h4:runF ps 0 d=(x,n,t)):Con Tryz.prog 14 [datV d,roI ps] (undefs [datV d,roI ps]) (av4 x n t):=by
 have k:=c14 d ps
 rw[all_go h1 h2 h3,h4]at k
 exact Con.sh k (Sh.tup ⟨dat_ov _,Sh.refl _,Sh.refl _,Sh.refl _,trivial⟩)
theorem ls_ok: ∀i,i<10→ ¬4096<(LS.getD i []).length∧(LS.getD i []).any badPrim=false:=by
 intro i hi
 rcases(by omega:i=0∨i=1∨i=2∨i=3∨i=4∨i=5∨i=6∨i=7∨i=8∨i=9)with rfl|rfl|rfl|rfl|rfl|rfl|rfl|rfl|rfl|rfl<;>exact⟨by decide,by decide⟩
theorem newD:Con Tryz.prog 25 [] (undefs []) (datV ⟨[],[],List.replicate 32 0,0,10,[]⟩):=
 Con.sh c25 (Sh.agg ⟨Sh.trans (Sh.emp_own 0 zI) (Sh.own_ro (by omega) _ _),Sh.trans (Sh.emp_own 0 zI) (Sh.own_ro (by omega) _ _),Sh.own_ro (by omega) _ _,Sh.refl _,Sh.refl _,Sh.refl _,trivial⟩)
set_option maxHeartbeats 40000000 in
theorem law(code more:List UInt8):Con Tryz.prog 6 [roU code,roU more] (undefs [roU code,roU more]) (.bool true):=by
 by_cases hc:code.length>1048576
 ·have hb1:decide (((code.map byteR).length:Int)>1048576)=true:=by simp;omega
  refine Con.ev 144 T_ok mix Tryz.func6 rfl rfl rfl rfl [.tmp 4] rfl ?_
  conv=>whnf
  (iterate 6 ((first|apply rq_s rfl|apply br_t rfl|refine br_t (by assumption) ?_);conv=>whnf));(refine sh_s ?_;(rfl))
 by_cases hm:more.length>1048576
 ·have hb1:decide (((code.map byteR).length:Int)>1048576)=false:=by simp;omega
  have hb2:decide (((more.map byteR).length:Int)>1048576)=true:=by simp;omega
  refine Con.ev 144 T_ok mix Tryz.func6 rfl rfl rfl rfl [.tmp 4] rfl ?_
  conv=>whnf
  (iterate 5 ((first|apply rq_s rfl|apply br_f rfl|refine br_t (by assumption) ?_|refine br_f (by assumption) ?_);conv=>whnf));(refine sh_s ?_;(rfl))
 have hb1:decide (((code.map byteR).length:Int)>1048576)=false:=by simp;omega
 have hb2:decide (((more.map byteR).length:Int)>1048576)=false:=by simp;omega
 obtain⟨a,ka,ha⟩:=cellDrawn code
 obtain⟨b,kb,hb⟩:=cellDrawn more
 obtain⟨c,kc,c0,c1⟩:=at_ex code 0 99 (by omega) (by omega) (by omega) (by omega)
 obtain⟨e,ke,e0,e1⟩:=at_ex more 0 99 (by omega) (by omega) (by omega) (by omega)
 have hce:Ce e:=by unfold Ce;omega
 have hd:DataOk (D (List.replicate 32 0) [a,b,c,e] []):=d4_ok (cell_ce.1 ha) (cell_ce.1 hb) (by unfold Ce;omega) hce
 refine Con.evK [(1000041,[41]),(1000043,[43]),(1000044,[44]),(1000045,[45]),(1000046,[46]),(1000047,[47]),(1000048,[48]),(1000049,[49]),(1000050,[50]),(1000051,[51]),(1000052,[52])] 144 T_ok mix Tryz.func6 rfl rfl rfl rfl [.tmp 4] rfl ?_
 conv=>whnf
 (iterate 33 ((first|apply rq_s rfl|apply rows_s rfl|refine fac_s (fun hf=> ?_)|apply br_f rfl|refine br_f (by assumption) ?_|apply lend_s|refine call_s (newD ..) ?_|refine call_s (ka ..) ?_|refine call_s (kb ..) ?_|refine call_s (kc ..) ?_|refine call_s (ke ..) ?_);conv=>whnf));(refine rows_s (by((refine sub_all ?_;simp[List.length_map];done))) ?_;conv=>whnf);(iterate 6 ((first|apply rq_s rfl|refine fac_s (fun hf=> ?_));conv=>whnf));(refine rows_s (by((refine sub_all ?_;simp[List.length_map];done))) ?_;conv=>whnf);(apply rq_s rfl;conv=>whnf);(refine rows_s (by((refine sub_all ?_;simp[List.length_map];done))) ?_;conv=>whnf);(apply rq_s rfl;conv=>whnf);(refine rows_s (by((refine sub_all ?_;simp[List.length_map];done))) ?_;conv=>whnf);(apply rq_s rfl;conv=>whnf);(refine rows_s (by((refine sub_all ?_;simp[List.length_map];done))) ?_;conv=>whnf);(apply rq_s rfl;conv=>whnf);(refine rows_s (by((refine sub_all ?_;simp[List.length_map];done))) ?_;conv=>whnf);(apply rq_s rfl;conv=>whnf);(refine rows_s (by((refine sub_all ?_;simp[List.length_map];done))) ?_;conv=>whnf);(apply rq_s rfl;conv=>whnf);(refine rows_s (by((refine sub_all ?_;simp[List.length_map];done))) ?_;conv=>whnf);(apply rq_s rfl;conv=>whnf);(refine rows_s (by((refine sub_all ?_;simp[List.length_map];done))) ?_;conv=>whnf);(apply rq_s rfl;conv=>whnf);(refine rows_s (by((refine sub_all ?_;simp[List.length_map];done))) ?_;conv=>whnf);(apply rq_s rfl;conv=>whnf);(refine rows_s (by((refine sub_all ?_;simp[List.length_map];done))) ?_;conv=>whnf);(apply rq_s rfl;conv=>whnf)
 rotate_left
 refine LoopG.auto (α:=Nat) T_ok mix [5,6,7] (fun i=>[(5,.ptr 1 0 0),(6,.ref 2 0 10),(7,.int .i64 i)]) (fun i=>[(1,.live ⟨false,0,[.emp,.emp,.emp,.int .i64 0,.int .i64 0,.str []],[[roI [a,b,c,e],roI [],roI (List.replicate 32 0),.int .i64 0,.int .i64 10,.str []]]⟩),(2,.live ⟨true,1,[.emp],LS.map rrI⟩)]) (fun i=>i≤10) (fun i=>10-i) ?_ ?_
 ·conv=>whnf
  (apply ChkS.mk (by kernel_rfl);conv=>whnf)
  rotate_left
  exact head_s 0 (by omega) rfl rfl
 ·rintro i hi- -
  by_cases hlt:i<10
  ·have hp:=ls_ok i hlt
   have hr:=run_id (z:=List.replicate 32 0) (a:=a) (b:=b) (c:=c) hce i hlt
   have kI:=alI hp.1 hd hp.2 hr
   have kS:=alS hp.1 hd hp.2 hr
   have kD:=sameD _ hd
   have gd:decide ((i:Int)<(((LS.map rrI).length:Nat):Int))=true:=decide_eq_true (by show(i:Int)<10;omega)
   conv=>whnf
   (iterate 9 ((first|refine rq_s (by solve|simp only[lnm]|fail) ?_|apply rq_s rfl|refine rq_s (by refine and_s rfl ?_;simp only[lnm];omega) ?_|refine ChkS.mk (by kernel_rfl) ?_|refine br_t (by assumption) ?_);conv=>whnf));(refine row_s (by((try simp only[Int.toNat_natCast]);(try rewrite[Nat.zero_add]);exact row_map rrI LS _ _ [] (by show _<10;omega))) ?_;conv=>whnf);(iterate 35 ((first|refine rq_s (by solve|simp only[lnm]|fail) ?_|apply rq_s rfl|refine rq_s (by refine and_s rfl ?_;simp only[lnm];omega) ?_|apply rows_s rfl|refine fac_s (fun hf=> ?_)|refine ChkS.mk (by kernel_rfl) ?_|refine call_s (kI ..) ?_);conv=>whnf));(refine row_s (by((try simp only[Int.toNat_natCast]);(try rewrite[Nat.zero_add]);exact row_map rrI LS _ _ [] (by show _<10;omega))) ?_;conv=>whnf);(iterate 35 ((first|refine rq_s (by solve|simp only[lnm]|fail) ?_|apply rq_s rfl|refine rq_s (by refine and_s rfl ?_;simp only[lnm];omega) ?_|apply rows_s rfl|refine fac_s (fun hf=> ?_)|refine ChkS.mk (by kernel_rfl) ?_|apply br_f rfl|refine call_s (kS ..) ?_);conv=>whnf));(refine row_s (by((try simp only[Int.toNat_natCast]);(try rewrite[Nat.zero_add]);exact row_map rrI LS _ _ [] (by show _<10;omega))) ?_;conv=>whnf);iterate 32 (first|(apply rq_s rfl;conv=>whnf)|(apply rows_s rfl;conv=>whnf)|(refine ChkS.mk (by kernel_rfl) ?_;conv=>whnf)|(apply br_f rfl;conv=>whnf)|(focus (apply br_f (by solve|simp|fail);conv=>whnf))|(apply lend_s;conv=>whnf)|(refine call_s (kD ..) ?_;conv=>whnf))
   rotate_left
   exact head_s (i+1) ⟨by omega,by omega⟩ (by rw[wrap64 (by omega) (by omega)];rfl) rfl
  ·obtain rfl:i=10:=by omega
   have hr:=run_last (z:=List.replicate 32 0) (a:=a) (b:=b) (c:=c) (e:=e)
   have kI:=alI (by decide) hd (by decide) hr
   have kS:=alS (by decide) hd (by decide) hr
   have kD:=sameD (D (List.replicate 32 0) [] []) ⟨by simp[D],by simp[D],by simp[D],rfl,rfl,by show cellsOK (List.replicate 32 0)=true;decide,by simp[D],by simp[D],by simp[D]⟩
   conv=>whnf
   (iterate 14 ((first|refine rq_s (by solve|simp only[lnm]|fail) ?_|apply rq_s rfl|apply rows_s rfl|apply br_f rfl|apply lend_s);conv=>whnf));(refine rows_s (by((refine sub_all ?_;simp[List.length_map];done))) ?_;conv=>whnf);(iterate 17 ((first|refine rq_s (by solve|simp only[lnm]|fail) ?_|apply rq_s rfl|apply rows_s rfl|refine fac_s (fun hf=> ?_)|apply lend_s|refine call_s (kI ..) ?_);conv=>whnf));(refine rows_s (by((refine sub_all ?_;simp[List.length_map];done))) ?_;conv=>whnf);(iterate 37 ((first|apply rq_s rfl|apply rows_s rfl|refine fac_s (fun hf=> ?_)|apply br_t rfl|apply lend_s|refine call_s (kS ..) ?_|refine call_s (kD ..) ?_);conv=>whnf));(refine sh_s ?_;(rfl))
   all_goals skip
end Y7

/- FnIdentities: the law returns true at every input, and its arguments read behind the call as they did. -/
namespace Go.Proofs.YtidkogijdlfjpaaGreatDoor.FnIdentities
open Go.ChangeShapes Go.WideShapes Go.ChangeAt Go.RowKit Go.Joins
open Go.Abs V1 Y5 Y7
theorem own:ownKnob Tryz.prog.godebug=none:=by kernel_rfl
theorem laidOut:laidOutB Tryz.prog=true:=by kernel_rfl
theorem tabs_met{W:World}(h:laidMetH Tryz.prog Rows.fnIdentitiesRow.laid W):Tabs Tryz.prog W none2:=by
 rw[MakeChecks.laidMetH_plain _ _ _ (by kernel_rfl)]at h
 obtain⟨ps,hl,_⟩:=h
 have m0:("internal/strconv.uint64pow10",(Lib.tabData .u64 Lib.pow10Tab:DataW Unit))∈Rows.fnIdentitiesRow.laid:=List.mem_of_getElem? (i:=2) (by kernel_rfl)
 have t0:=tab_of_laid (t:=127) (e:=93) (n:=20) (g:=1) (by kernel_rfl) (by kernel_rfl) Tryz.underlying127 Tryz.underlying93 (by kernel_rfl) (by kernel_rfl) hl m0
 have m1:("math/bits.deBruijn64tab",(Lib.tabData .u8 (Lib.deBruijn64tab.map fun z:Nat=>(z:Int)):DataW Unit))∈Rows.fnIdentitiesRow.laid:=List.mem_of_getElem? (i:=1) (by kernel_rfl)
 have t1:=tab_of_laid (t:=143) (e:=5) (n:=64) (g:=6) (by kernel_rfl) (by kernel_rfl) Tryz.underlying143 Tryz.underlying5 (by kernel_rfl) (by kernel_rfl) hl m1
 intro x hx g hg
 simp only[tabL,List.mem_cons,List.not_mem_nil,or_false]at hx
 rcases hx with rfl|rfl
 ·exact⟨tab_cells t0 hg,fun _ k=>k⟩
 ·exact⟨tab_cells t1 hg,fun _ k=>k⟩
set_option maxRecDepth 100000 in
theorem lifted(os:Os)(started:os.Started)(H:Type)(enc:TypeId × Value→H):
  ReturnsInHanded {} Tryz.checked os 6 .any (fun w args=>(Rows.fnIdentitiesSpec.pre enc Tryz.prog Tryz.f6 [] false w args∧laidMetH Tryz.prog Rows.fnIdentitiesRow.laid w)∧sizedMet enc Tryz.prog Tryz.f6 (OpenSpec.ofChange Rows.fnIdentitiesSpec) false w args) (Rows.fnIdentitiesSpec.post enc Tryz.prog Tryz.f6 false true false false):=by
 refine returnsInHanded_of_change_and (C:=Tryz.checked) (X:=fun w _=>laidMetH Tryz.prog Rows.fnIdentitiesRow.laid w) (fun _ _ _ hh h=>h.of_heap hh) own started (by kernel_rfl) Tryz.func6
  (ChangeSpec.witness_shaped (enc:=enc) (C:=Tryz.checked) (os:=os) (X:=fun w _=>laidMetH Tryz.prog Rows.fnIdentitiesRow.laid w) false (World.laidAll Tryz.prog os Rows.fnIdentitiesRow.laid) #[.slice none 0 0,.slice none 0 0] 8 (World.laidAll_os _ _ _) (World.shaped_of_ZipB (by kernel_rfl) (by kernel_rfl)) (by kernel_rfl) (by kernel_rfl) (by kernel_rfl) (by rw[MakeChecks.laidMetH_plain _ _ _ (by kernel_rfl)];exact laidMet_laidAll _ (by kernel_rfl) (by kernel_rfl))) ?_
 intro W base args ds gs before hval0 hW _ _ hL _
 have hval: ∀(j:Nat) t v,Tryz.f6.params[j]? =some t→args[j]? =some v→Value.okWide Tryz.prog W .any base t v:=hval0
 have hW':=hW
 obtain⟨p,q,hA0,hV,rfl,hfz,hnd⟩:=hW
 have hA:DataW.TrodAll enc Tryz.prog W 0 (fun _=>true) true Tryz.f6.params.toList args.toList ds p:=hA0
 rw[Tryz.params6]at hA hval
 obtain⟨v0,vs0,d0,ds0,p0,q0,hargs0,rfl,rfl,h0,r0⟩:=trodAll_cons hA
 obtain⟨v1,vs1,d1,ds1,p1,q1,hargs1,rfl,rfl,h1,r1⟩:=trodAll_cons r0
 obtain⟨hnil,rfl,rfl⟩:=trodAll_nil r1
 obtain rfl:args=#[v0,v1]:=by
  cases args
  simp_all
 obtain⟨rfl,rfl⟩:=trodVars_none hV
 have k0:=h0
 have lt0: ∀x∈p0,x.block<W.heap.size:=by obtain⟨m,hm⟩:=k0;exact DataW.trod_lt m _ _ _ hm
 obtain⟨l0,o0,a0⟩:=bridge_leaf T_ok 9 (t:=39) (by kernel_rfl) rfl rfl (hval 0 39 v0 rfl rfl) h0
 obtain⟨d0,rfl⟩:=Y5.bytes_of o0 a0
 have k1:=h1
 have lt1: ∀x∈p1,x.block<W.heap.size:=by obtain⟨m,hm⟩:=k1;exact DataW.trod_lt m _ _ _ hm
 obtain⟨l1,o1,a1⟩:=bridge_leaf T_ok 9 (t:=39) (by kernel_rfl) rfl rfl (hval 1 39 v1 rfl rfl) h1
 obtain⟨d1,rfl⟩:=Y5.bytes_of o1 a1
 clear hA0 hval0
 have hcon:=(Y7.law d0 d1).law W (tabs_met hL) [v0,v1] (parts_cons a0 (parts_cons a1 (parts_nil _ _ _)))
 refine hcon.mono fun e W' ⟨he,bel⟩=> ?_
 subst he
 exact⟨_,rfl,_,_,_,[],_,[],hW',trodAll_mk1 (shut_bool Tryz.underlying4 _),(trodAll_cons_mk (Below.trod laidOut (by kernel_rfl) (of_decide_eq_true (by kernel_rfl)) k0 bel lt0) (trodAll_cons_mk (Below.trod laidOut (by kernel_rfl) (of_decide_eq_true (by kernel_rfl)) k1 bel lt1) trodAll_mk0)),rfl,bel.frame _,fun h=>by cases h⟩
theorem kf0:(Rows.fnIdentitiesRow.wf (OpenSpec.ofChange Rows.fnIdentitiesSpec))=true:=by kernel_rfl
theorem kf1:(laidOutB Tryz.prog)=true:=by kernel_rfl
theorem kf2:(mapsRowed Tryz.prog)=true:=by kernel_rfl
theorem kf3:(Tryz.f6.params.all (Tryz.prog.readableRec ·))=true:=by kernel_rfl
theorem kf4:(namedTie Tryz.prog Rows.fnIdentitiesRow.named Rows.fnIdentitiesSpec.vars)=true:=by kernel_rfl
theorem kf5:((Rows.fnIdentitiesRow.stops==[]))=true:=by kernel_rfl
theorem kf6:((Tryz.prog.stops==[]))=true:=by kernel_rfl
theorem kf7:((Rows.fnIdentitiesRow.knobs==[]))=true:=by kernel_rfl
theorem kf8:((Tryz.prog.stopKnobs==[]))=true:=by kernel_rfl
theorem kf9:((Rows.fnIdentitiesRow.inPlace==Tryz.prog.inPlace 6))=true:=by kernel_rfl
theorem kf10:((Rows.fnIdentitiesRow.unfollowed==Tryz.prog.unfollowed 6))=true:=by kernel_rfl
theorem kf11:((Rows.fnIdentitiesRow.recurses==Tryz.prog.recurses 6))=true:=by kernel_rfl
theorem kf12:((Rows.fnIdentitiesRow.named==Tryz.prog.varsNamed 6))=true:=by kernel_rfl
theorem kf13:((Rows.fnIdentitiesRow.maps==(Tryz.f6.params.toList++Rows.fnIdentitiesSpec.plain.varTypes Tryz.prog).any (Tryz.prog.mapsRec ·)))=true:=by kernel_rfl
theorem kf14:((Rows.fnIdentitiesRow.ifaces==(Tryz.f6.params.toList++Rows.fnIdentitiesSpec.plain.varTypes Tryz.prog).any (Tryz.prog.ifacesRec ·)))=true:=by kernel_rfl
theorem kf15:((Rows.fnIdentitiesRow.mapsOut==Tryz.prog.mapsAmong Tryz.f6.resultTypes.toList))=true:=by kernel_rfl
theorem kf16:((Rows.fnIdentitiesRow.loops==(Tryz.f6.params.toList++Rows.fnIdentitiesSpec.plain.varTypes Tryz.prog).any (Tryz.prog.loopsFrom ·)))=true:=by kernel_rfl
theorem kf17:((Rows.fnIdentitiesRow.wideKeys==(Tryz.f6.params.toList++Rows.fnIdentitiesSpec.plain.varTypes Tryz.prog++Tryz.f6.resultTypes.toList).any (Tryz.prog.wideKeysFrom ·)))=true:=by kernel_rfl
theorem kf18:(Rows.fnIdentitiesSpec.vars.all (Tryz.prog.varReadable ·))=true:=by kernel_rfl
theorem kf19:(Tryz.f6.resultTypes.all (fun t=>Tryz.prog.readableRec t&&decide (t<Tryz.prog.types.size)))=true:=by kernel_rfl
theorem kf20:((Rows.fnIdentitiesRow.ifacesOut==Tryz.f6.resultTypes.toList.any (Tryz.prog.ifacesRec ·)))=true:=by kernel_rfl
theorem kf21:((Rows.fnIdentitiesRow.loopsOut==Tryz.f6.resultTypes.toList.any (Tryz.prog.loopsFrom ·)))=true:=by kernel_rfl
theorem kf22:((Rows.fnIdentitiesRow.plainKeys==Tryz.prog.plainKeys))=true:=by kernel_rfl
theorem kf23:(Rows.fnIdentitiesRow.shortTexts.isNone)=true:=by kernel_rfl
theorem kf24:(Tryz.prog.stopsHeard)=true:=by kernel_rfl
theorem kf25:(Tryz.prog.mayEnter)=true:=by kernel_rfl
theorem kf26:((Rows.fnIdentitiesRow.lifted==Tryz.prog.liftsFinal))=true:=by kernel_rfl
theorem kf27:((Tryz.prog.make==some Rows.fnIdentitiesRow.make))=true:=by kernel_rfl
theorem kf28:((Rows.fnIdentitiesRow.kinds==(if Rows.fnIdentitiesRow.domain.isEmpty then[]else Tryz.f6.params.toList.map fun t=>match Tryz.prog.underlying t with|some (.int k)=>some k|_=>none)))=true:=by kernel_rfl
theorem kf29:((Rows.fnIdentitiesRow.pinned==Rows.fnIdentitiesRow.pinnedBy))=true:=by kernel_rfl
theorem kf30:((Rows.fnIdentitiesRow.veiled==(Tryz.f6.params.toList++Rows.fnIdentitiesSpec.plain.varTypes Tryz.prog++Tryz.f6.resultTypes.toList).any (Tryz.prog.veiledRec ·)))=true:=by kernel_rfl
theorem kf31:(Rows.fnIdentitiesRow.veiledFits Tryz.prog Tryz.f6.params.toList (Tryz.f6.params.toList++Rows.fnIdentitiesSpec.plain.varTypes Tryz.prog++Tryz.f6.resultTypes.toList))=true:=by kernel_rfl
theorem and2{a b:Bool}(h:a=true)(k:b=true):(a&&b)=true:=by rw[h,k];rfl
theorem closed:joinedFacts Tryz.prog 6 Tryz.f6 Rows.fnIdentitiesSpec Rows.fnIdentitiesRow=true:=and2 (and2 (and2 (and2 (and2 (and2 (and2 (and2 (and2 (and2 (and2 (and2 (and2 (and2 (and2 (and2 (and2 (and2 (and2 (and2 (and2 (and2 (and2 (and2 (and2 (and2 (and2 (and2 (and2 (and2 (and2 kf0 kf1) kf2) kf3) kf4) kf5) kf6) kf7) kf8) kf9) kf10) kf11) kf12) kf13) kf14) kf15) kf16) kf17) kf18) kf19) kf20) kf21) kf22) kf23) kf24) kf25) kf26) kf27) kf28) kf29) kf30) kf31
theorem named:Tryz.prog.funcNamed "loop.example/g00787/laws.FnIdentities" =some 6:=by kernel_rfl
theorem said:Rows.FnIdentitiesSaid:=
 OpenClaim.holds_of_wide 6 Tryz.f6 rfl rfl rfl rfl rfl rfl rfl ⟨rfl,rfl,rfl,rfl,rfl⟩ rfl rfl rfl rfl rfl named Tryz.func6 closed
  (of_decide_eq_true (by kernel_rfl)) (by unfold Func.isWrapper;first|(rw[if_pos (by decide+kernel)];kernel_rfl)|(rw[if_neg (by decide+kernel)];exact⟨rfl,rfl⟩))
  (fun os started H enc _=>lifted os started H enc)
theorem proved:Rows.FnIdentitiesCardSaid:=
 Claim7.holds_tied_plain_at .later [] [.data,.data,.data,.data,.pinned,.pinned] true (true, "906d1e393f5158a7dc230c1ce1b67d1f33274a7a058bf2b176f0e1c9112ef19b") false
  said (fun _ h=>by cases h) (by kernel_rfl) (fun _ h=>by cases h) fnIdentities_row_tie rfl ⟨rfl,rfl⟩ (by kernel_rfl) rfl
  (fun f fn hf hfn=>by
   obtain rfl:f=6:=Option.some.inj ((show Tryz.prog.funcNamed "loop.example/g00787/laws.FnIdentities" =some 6 by kernel_rfl).symm.trans hf) |>.symm
   obtain rfl:fn=Tryz.f6:=(Option.some.inj (Tryz.func6.symm.trans hfn)).symm
   exact⟨by kernel_rfl,fun j t ht=>by
    rw[Tryz.params6]at ht
    have hm:t∈[39,39]:=by simpa using Array.mem_of_getElem? ht
    have hall:([39,39].all fun u=> !Tryz.prog.wantsStandIn u)=true:=by kernel_rfl
    exact(show Tryz.prog.wantsStandIn t=false by simpa using List.all_eq_true.1 hall t hm)⟩)
  (by kernel_rfl)
#print axioms proved
end Go.Proofs.YtidkogijdlfjpaaGreatDoor.FnIdentities
