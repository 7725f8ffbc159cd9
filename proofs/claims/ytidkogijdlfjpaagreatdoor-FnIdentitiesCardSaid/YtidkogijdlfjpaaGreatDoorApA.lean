import Derived.Test.YtidkogijdlfjpaaGreatDoorApV
import Derived.Test.YtidkogijdlfjpaaGreatDoorAbsd
import Derived.Test.YtidkogijdlfjpaaGreatDoorAbsq
import Derived.Lib.Case
import Derived.Shelf.Lays
import Derived.Shelf.Lays7
import Derived.Shelf.LaysM
import Derived.Shelf.Spec.TrailingZeros
import Derived.Shelf.Strconv.Itoa4
import Derived.Shelf.Strings.OnBuilder
import Derived.Test.YtidkogijdlfjpaaGreatDoorAbsp
/- Cells, ranges, valid hosts and data, copies of them: contracts. -/
set_option linter.unusedVariables false
set_option linter.unusedSimpArgs false
set_option maxRecDepth 100000
open Go Go.Abs Go.Proofs V1
namespace H1
theorem c33(n lo hi:Int):Con Tryz.prog 33 [.int .i64 n,.int .i64 lo,.int .i64 hi] (undefs [.int .i64 n,.int .i64 lo,.int .i64 hi]) (.bool (inR n lo hi)):=by
 refine Con.ev 15 T_ok mix Tryz.func33 rfl rfl rfl rfl [.tmp 6] rfl ?_
 conv=>whnf
 (iterate 4 (first|(apply rq_s rfl;conv=>whnf)|(apply br_t rfl;conv=>whnf)|(refine br_s ?_ ?_<;>intro hb<;>(try simp only[cln]at hb)<;>conv=>whnf)));(focus (refine sh_s ?_;(first|(simp_all[inR];done)|(simp_all[inR];omega))));(iterate 4 ((first|apply rq_s rfl|apply br_f rfl);conv=>whnf));(focus (refine sh_s ?_;(first|(simp_all[inR];done)|(simp_all[inR];omega))))
theorem c30(n lo hi:Int):Con Tryz.prog 30 [.int .i64 n,.int .i64 lo,.int .i64 hi] (undefs [.int .i64 n,.int .i64 lo,.int .i64 hi]) (.bool (inR n lo hi)):=by
 refine Con.ev 15 T_ok mix Tryz.func30 rfl rfl rfl rfl [.tmp 6] rfl ?_
 conv=>whnf
 (iterate 4 (first|(apply rq_s rfl;conv=>whnf)|(apply br_t rfl;conv=>whnf)|(refine br_s ?_ ?_<;>intro hb<;>(try simp only[cln]at hb)<;>conv=>whnf)));(focus (refine sh_s ?_;(first|(simp_all[inR];done)|(simp_all[inR];omega))));(iterate 4 ((first|apply rq_s rfl|apply br_f rfl);conv=>whnf));(focus (refine sh_s ?_;(first|(simp_all[inR];done)|(simp_all[inR];omega))))
theorem c48(n:Int):Con Tryz.prog 48 [.int .i64 n] (undefs [.int .i64 n]) (.bool (inR n 2 16)):=by
 refine Con.ev 5 T_ok mix Tryz.func48 rfl rfl rfl rfl [.tmp 2] rfl ?_
 conv=>whnf
 (iterate 6 ((first|apply rq_s rfl|apply lend_s|refine call_s (c33 ..) ?_);conv=>whnf));(refine sh_s ?_;(rfl))
theorem c52(n:Int):Con Tryz.prog 52 [.int .i64 n] (undefs [.int .i64 n]) (.bool (inR n 2 16)):=by
 refine Con.ev 5 T_ok mix Tryz.func52 rfl rfl rfl rfl [.tmp 2] rfl ?_
 conv=>whnf
 (iterate 6 ((first|apply rq_s rfl|apply lend_s|refine call_s (c30 ..) ?_);conv=>whnf));(refine sh_s ?_;(rfl))
theorem c77(n:Int):Con Tryz.prog 77 [.int .i64 n] (undefs [.int .i64 n]) (.bool (cell n)):=by
 refine Con.ev 5 T_ok mix Tryz.func77 rfl rfl rfl rfl [.tmp 2] rfl ?_
 conv=>whnf
 (iterate 6 ((first|apply rq_s rfl|apply lend_s|refine call_s (c30 ..) ?_);conv=>whnf));(refine sh_s ?_;(rfl))
theorem c87(n:Int):Con Tryz.prog 87 [.int .i64 n] (undefs [.int .i64 n]) (.int .i64 (IntKind.i64.wrap (IntKind.i32.wrap n))):=by
 refine Con.ev 6 T_ok mix Tryz.func87 rfl rfl rfl rfl [.tmp 2] rfl ?_
 conv=>whnf
 (apply rq_s rfl;conv=>whnf);(refine sh_s ?_;(rfl))
theorem c74(n:Int):Con Tryz.prog 74 [.int .i64 n] (undefs [.int .i64 n]) (.bool (cell n)):=by
 refine Con.evF 7 T_ok mix Tryz.func74 rfl rfl rfl rfl [.tmp 2] rfl fun⟨h,_⟩=> ?_
 have h:=facts_int h
 conv=>whnf
 (iterate 5 ((first|apply rq_s rfl|refine fac_s (fun hf=> ?_)|apply lend_s|refine call_s (c87 ..) ?_);conv=>whnf));(refine sh_s ?_;((rw[←wrap_cell h.1 h.2])))
theorem c73(n:Int):Con Tryz.prog 73 [.int .i64 n] (undefs [.int .i64 n]) (.bool (badCell n)):=by
 refine Con.ev 6 T_ok mix Tryz.func73 rfl rfl rfl rfl [.tmp 2] rfl ?_
 conv=>whnf
 (iterate 4 ((first|apply rq_s rfl|apply lend_s|refine call_s (c74 ..) ?_);conv=>whnf));(refine sh_s ?_;(rfl))
theorem c67(rs:List (Int)):Con Tryz.prog 67 [roI rs,.fn 73 []] (undefs [roI rs,.fn 73 []]) (.int .i64 (findI badCell rs)):=by
 refine Con.evF 19 T_ok mix Tryz.func67 rfl rfl rfl rfl [.tmp 4] rfl fun⟨hx,_⟩=> ?_
 have hx:=facts_len hx
 conv=>whnf
 rotate_left
 refine LoopG.rounds (α:=Nat) T_ok mix [0,1,7,8] [] (fun i=>[(0,roI rs),(1,.fn 73 []),(7,.int .i64 rs.length),(8,.int .i64 i)]) (fun _=>[]) (fun i=>i≤rs.length∧ ∀j,j<i→badCell (rs.getD j default)=false) (fun i=>rs.length-i) ?_ ?_
 ·conv=>whnf
  exact head_s 0 ⟨by simp,fun j hj=>by omega⟩ (by simp[roI]) rfl
 ·rintro i ⟨h1,h2⟩- -
  conv=>whnf
  (iterate 3 (first|(apply rq_s rfl;conv=>whnf)|(refine rq_s (by refine and_s rfl ?_;simp only[lnm];omega) ?_;conv=>whnf)|(refine br_s ?_ ?_<;>intro hb<;>(try simp only[cln]at hb)<;>conv=>whnf)));(refine row_s (by((try simp only[Int.toNat_natCast]);exact row_map intR _ _ _ default (by first|omega|(simp;omega)))) ?_;conv=>whnf);iterate 5 (first|(apply rq_s rfl;conv=>whnf)|(refine br_s ?_ ?_<;>intro hb<;>(try simp only[cln]at hb)<;>conv=>whnf)|(apply lend_s;conv=>whnf)|(refine call_s (c73 ..) ?_;conv=>whnf))
  iterate 2 (rotate_left)
  (apply rq_s rfl;conv=>whnf)
  rotate_left
  ·refine sh_s ?_
   rw[findI_hit default (by assumption) hb h2]
  ·refine head_s (i+1) ⟨⟨by omega,fun j hj=> ?_⟩,by omega⟩ (by rw[wrap64 (by omega) (by omega)];rfl) rfl
   by_cases hji:j=i
   ·subst hji;exact hb
   ·exact h2 j (by omega)
  ·refine sh_s ?_
   rw[findI_none default fun j hj=>h2 j (by omega)]
theorem c39(rs:List (Int)):Con Tryz.prog 39 [roI rs,.fn 73 []] (undefs [roI rs,.fn 73 []]) (.bool (rs.any badCell)):=by
 refine Con.ev 9 T_ok mix Tryz.func39 rfl rfl rfl rfl [.tmp 4] rfl ?_
 conv=>whnf
 (iterate 7 ((first|apply rq_s rfl|apply rows_s rfl|refine fac_s (fun hf=> ?_)|apply lend_s|refine call_s (c67 ..) ?_);conv=>whnf));(refine sh_s ?_;((rw[←findI_any])))
theorem cellsBad(xs:List Int):Con Tryz.prog 39 [roI xs,.fn 73 []] (undefs [roI xs,.fn 73 []]) (.bool (!cellsOK xs)):=cells_any xs▸c39 xs
theorem c47(xs:List Int)(n:Int):Con Tryz.prog 47 [roI xs,.int .i64 n] (undefs [roI xs,.int .i64 n]) (.bool (decide ((xs.length:Int)≤n)&&cellsOK xs)):=by
 refine Con.ev 14 T_ok mix Tryz.func47 rfl rfl rfl rfl [.tmp 4] rfl ?_
 conv=>whnf
 (iterate 9 (first|(apply rq_s rfl;conv=>whnf)|(apply rows_s rfl;conv=>whnf)|(apply br_t rfl;conv=>whnf)|(refine br_s ?_ ?_<;>intro hb<;>(try simp only[cln]at hb)<;>conv=>whnf)|(apply lend_s;conv=>whnf)|(refine call_s (cellsBad ..) ?_;conv=>whnf)));(focus (refine sh_s ?_;(first|(simp_all;done)|(simp_all;omega))));(iterate 4 ((first|apply rq_s rfl|apply br_f rfl);conv=>whnf));(focus (refine sh_s ?_;(first|(simp_all;done)|(simp_all;omega))))
theorem c51(xs:List Int):Con Tryz.prog 51 [roI xs] (undefs [roI xs]) (.bool (cellsOK xs)):=by
 refine Con.evF 16 T_ok mix Tryz.func51 rfl rfl rfl rfl [.tmp 2] rfl fun⟨hx,_⟩=> ?_
 have hx:=facts_len hx
 conv=>whnf
 rotate_left
 refine LoopG.rounds (α:=Nat) T_ok mix [0,3] [] (fun i=>[(0,roI xs),(3,.int .i64 i)]) (fun _=>[]) (fun i=>i≤xs.length∧ ∀j,j<i→cell (xs.getD j default)=true) (fun i=>xs.length-i) ?_ ?_
 ·conv=>whnf
  exact head_s 0 ⟨by simp,fun j hj=>by omega⟩ (by first|rfl|simp[roI]) rfl
 ·rintro i ⟨h1,h2⟩- -
  conv=>whnf
  (iterate 3 (first|(apply rq_s rfl;conv=>whnf)|(refine rq_s (by refine and_s rfl ?_;simp only[lnm];omega) ?_;conv=>whnf)|(refine br_s ?_ ?_<;>intro hb<;>(try simp only[cln]at hb)<;>conv=>whnf)));(refine row_s (by((try simp only[Int.toNat_natCast]);exact row_map intR _ _ _ default (by first|omega|(simp;omega)))) ?_;conv=>whnf);iterate 5 (first|(apply rq_s rfl;conv=>whnf)|(refine br_s ?_ ?_<;>intro hb<;>(try simp only[cln]at hb)<;>conv=>whnf)|(apply lend_s;conv=>whnf)|(refine call_s (c77 ..) ?_;conv=>whnf))
  iterate 2 (rotate_left)
  (apply rq_s rfl;conv=>whnf)
  rotate_left
  ·exact sh_s (by rw[cellsOK,all_bad (by assumption) hb])
  ·refine head_s (i+1) ⟨⟨by omega,fun j hj=> ?_⟩,by omega⟩ (by rw[wrap64 (by omega) (by omega)];rfl) rfl
   by_cases hji:j=i
   ·subst hji;exact hb
   ·exact h2 j (by omega)
  ·exact sh_s (by rw[cellsOK,all_good fun j hj=>h2 j (by omega)])
theorem c28(d:Dat):Con Tryz.prog 28 [datV d] (undefs [datV d]) (.bool (dataOK d)):=by
 refine Con.ev 50 T_ok mix Tryz.func28 rfl rfl rfl rfl [.tmp 2] rfl ?_
 conv=>whnf
 (iterate 58 (first|(apply rq_s rfl;conv=>whnf)|(apply rows_s rfl;conv=>whnf)|(apply br_t rfl;conv=>whnf)|(refine br_s ?_ ?_<;>intro hb<;>(try simp only[cln]at hb)<;>conv=>whnf)|(apply lend_s;conv=>whnf)|(refine call_s (c51 ..) ?_;conv=>whnf)|(refine call_s (c30 ..) ?_;conv=>whnf)|(refine call_s (c52 ..) ?_;conv=>whnf)));(focus (refine sh_s ?_;(first|(simp_all[dataOK];done)|(simp_all[dataOK];omega)|(congr 1;rw[Bool.eq_iff_iff];simp_all[dataOK];done)|(congr 1;rw[Bool.eq_iff_iff];simp_all[dataOK];omega))));(iterate 5 ((first|apply rq_s rfl|apply br_f rfl);conv=>whnf));(focus (refine sh_s ?_;(first|(simp_all[dataOK];done)|(simp_all[dataOK];omega)|(congr 1;rw[Bool.eq_iff_iff];simp_all[dataOK];done)|(congr 1;rw[Bool.eq_iff_iff];simp_all[dataOK];omega))));(iterate 9 ((first|apply rq_s rfl|apply br_f rfl);conv=>whnf));(focus (refine sh_s ?_;(first|(simp_all[dataOK];done)|(simp_all[dataOK];omega)|(congr 1;rw[Bool.eq_iff_iff];simp_all[dataOK];done)|(congr 1;rw[Bool.eq_iff_iff];simp_all[dataOK];omega))));(iterate 13 ((first|apply rq_s rfl|apply br_f rfl);conv=>whnf));(focus (refine sh_s ?_;(first|(simp_all[dataOK];done)|(simp_all[dataOK];omega)|(congr 1;rw[Bool.eq_iff_iff];simp_all[dataOK];done)|(congr 1;rw[Bool.eq_iff_iff];simp_all[dataOK];omega))));(iterate 17 ((first|apply rq_s rfl|apply br_f rfl);conv=>whnf));(focus (refine sh_s ?_;(first|(simp_all[dataOK];done)|(simp_all[dataOK];omega)|(congr 1;rw[Bool.eq_iff_iff];simp_all[dataOK];done)|(congr 1;rw[Bool.eq_iff_iff];simp_all[dataOK];omega))));(iterate 21 ((first|apply rq_s rfl|apply br_f rfl);conv=>whnf));(focus (refine sh_s ?_;(first|(simp_all[dataOK];done)|(simp_all[dataOK];omega)|(congr 1;rw[Bool.eq_iff_iff];simp_all[dataOK];done)|(congr 1;rw[Bool.eq_iff_iff];simp_all[dataOK];omega))));(iterate 25 ((first|apply rq_s rfl|apply br_f rfl);conv=>whnf));(focus (refine sh_s ?_;(first|(simp_all[dataOK];done)|(simp_all[dataOK];omega)|(congr 1;rw[Bool.eq_iff_iff];simp_all[dataOK];done)|(congr 1;rw[Bool.eq_iff_iff];simp_all[dataOK];omega))));(iterate 30 ((first|apply rq_s rfl|apply br_f rfl);conv=>whnf));(focus (refine sh_s ?_;(first|(simp_all[dataOK];done)|(simp_all[dataOK];omega)|(congr 1;rw[Bool.eq_iff_iff];simp_all[dataOK];done)|(congr 1;rw[Bool.eq_iff_iff];simp_all[dataOK];omega))));(iterate 35 ((first|apply rq_s rfl|apply br_f rfl);conv=>whnf));(focus (refine sh_s ?_;(first|(simp_all[dataOK];done)|(simp_all[dataOK];omega)|(congr 1;rw[Bool.eq_iff_iff];simp_all[dataOK];done)|(congr 1;rw[Bool.eq_iff_iff];simp_all[dataOK];omega))))
theorem c23(d:Dat):Con Tryz.prog 23 [datV d] (undefs [datV d]) (.bool (dataOK d)):=by
 have e1:((d.st.length:Int)≤32)=(d.st.length≤32):=propext ⟨fun _=>by omega,fun _=>by omega⟩
 have e2:((d.bk.length:Int)≤32)=(d.bk.length≤32):=propext ⟨fun _=>by omega,fun _=>by omega⟩
 have e3:((d.ce.length:Int)≤32)=(d.ce.length≤32):=propext ⟨fun _=>by omega,fun _=>by omega⟩
 refine Con.ev 38 T_ok mix Tryz.func23 rfl rfl rfl rfl [.tmp 2] rfl ?_
 conv=>whnf
 (iterate 52 (first|(apply rq_s rfl;conv=>whnf)|(apply rows_s rfl;conv=>whnf)|(apply br_t rfl;conv=>whnf)|(refine br_s ?_ ?_<;>intro hb<;>(try simp only[cln]at hb)<;>conv=>whnf)|(apply lend_s;conv=>whnf)|(refine call_s (c47 ..) ?_;conv=>whnf)|(refine call_s (c33 ..) ?_;conv=>whnf)|(refine call_s (c48 ..) ?_;conv=>whnf)));(focus (refine sh_s ?_;(first|(simp_all[dataOK];done)|(simp_all[dataOK];omega)|(congr 1;rw[Bool.eq_iff_iff];simp_all[dataOK];done)|(congr 1;rw[Bool.eq_iff_iff];simp_all[dataOK];omega))));(iterate 5 ((first|apply rq_s rfl|apply br_f rfl);conv=>whnf));(focus (refine sh_s ?_;(first|(simp_all[dataOK];done)|(simp_all[dataOK];omega)|(congr 1;rw[Bool.eq_iff_iff];simp_all[dataOK];done)|(congr 1;rw[Bool.eq_iff_iff];simp_all[dataOK];omega))));(iterate 9 ((first|apply rq_s rfl|apply br_f rfl);conv=>whnf));(focus (refine sh_s ?_;(first|(simp_all[dataOK];done)|(simp_all[dataOK];omega)|(congr 1;rw[Bool.eq_iff_iff];simp_all[dataOK];done)|(congr 1;rw[Bool.eq_iff_iff];simp_all[dataOK];omega))));(iterate 13 ((first|apply rq_s rfl|apply br_f rfl);conv=>whnf));(focus (refine sh_s ?_;(first|(simp_all[dataOK];done)|(simp_all[dataOK];omega)|(congr 1;rw[Bool.eq_iff_iff];simp_all[dataOK];done)|(congr 1;rw[Bool.eq_iff_iff];simp_all[dataOK];omega))));(iterate 18 ((first|apply rq_s rfl|apply br_f rfl);conv=>whnf));(focus (refine sh_s ?_;(first|(simp_all[dataOK];done)|(simp_all[dataOK];omega)|(congr 1;rw[Bool.eq_iff_iff];simp_all[dataOK];done)|(congr 1;rw[Bool.eq_iff_iff];simp_all[dataOK];omega))));(iterate 22 ((first|apply rq_s rfl|apply br_f rfl);conv=>whnf));(focus (refine sh_s ?_;(first|(simp_all[dataOK];done)|(simp_all[dataOK];omega)|(congr 1;rw[Bool.eq_iff_iff];simp_all[dataOK];done)|(congr 1;rw[Bool.eq_iff_iff];simp_all[dataOK];omega))));(iterate 26 ((first|apply rq_s rfl|apply br_f rfl);conv=>whnf));(focus (refine sh_s ?_;(first|(simp_all[dataOK];done)|(simp_all[dataOK];omega)|(congr 1;rw[Bool.eq_iff_iff];simp_all[dataOK];done)|(congr 1;rw[Bool.eq_iff_iff];simp_all[dataOK];omega))))
theorem own_sh{α:Type}{z:List AV}{f:α→List AV}{xs:List α}(h:xs.length=0):Sh .emp (.own 0 z (xs.map f)):=by
 have:xs=[]:=List.length_eq_zero_iff.1 h
 subst this
 exact Sh.emp_own 0 z
theorem c68(xs:List Int)(h:xs.length≤1048576):Con Tryz.prog 68 [roI xs] (undefs [roI xs]) (ownI xs):=by
 refine Con.ev 8 T_ok mix Tryz.func68 rfl rfl rfl rfl [.tmp 2] rfl ?_
 conv=>whnf
 iterate 3 (first|(apply rq_s rfl;conv=>whnf)|(refine nil_s (fun hz=> ?_) ?_<;>conv=>whnf)|(apply br_t rfl;conv=>whnf))
 rotate_left
 (iterate 8 ((first|refine rq_s (by solve|simp only[lnm,mkS_len]|fail) ?_|apply rq_s rfl|refine rq_s (by(((simp[maxBytes,AV.plain];omega)))) ?_|refine app0_s ?_|apply br_f rfl);conv=>whnf));(refine rows_s (by((refine sub_all ?_;simp[List.length_map,mkS_len];done))) ?_;conv=>whnf)
 rotate_left
 ·exact⟨own_sh (by simpa using hz)⟩
 ·exact⟨Sh.flat_map (fun _=>rfl) _⟩
theorem c41(d:Dat)(hs:smallData d):Con Tryz.prog 41 [datV d] (undefs [datV d]) (datO d):=by
 refine Con.ev 16 T_ok mix Tryz.func41 rfl rfl rfl rfl [.cell 2 26] rfl ?_
 conv=>whnf
 (iterate 45 ((first|refine rq_s (by solve|simp only[lnm,mkS_len]|fail) ?_|apply rq_s rfl|apply rows_s rfl|refine fac_s (fun hf=> ?_)|refine ChkS.mk (by kernel_rfl) ?_|refine call_s (c68 _ hs.1) ?_|refine call_s (c68 _ hs.2.1) ?_|refine call_s (c68 _ hs.2.2.1) ?_);conv=>whnf));(iterate 3 (refine rows_s (by((refine sub_all ?_;simp[List.length_map,mkS_len];done))) ?_;conv=>whnf));(refine sh_s ?_;(rfl))
theorem c32(d:Dat)(hs:smallData d):Con Tryz.prog 32 [datV d] (undefs [datV d]) (datO d):=by
 obtain⟨h1,h2,h3,h4⟩:=hs
 refine Con.ev 19 T_ok mix Tryz.func32 rfl rfl rfl rfl [.cell 2 26] rfl ?_
 conv=>whnf
 (iterate 32 ((first|refine rq_s (by solve|simp only[lnm,mkS_len]|fail) ?_|apply rq_s rfl|refine rq_s (by(((simp[maxBytes,AV.plain];omega)))) ?_|refine app0_s ?_);conv=>whnf));iterate 3 (refine rows_s (by((refine sub_all ?_;simp[List.length_map,mkS_len];done))) ?_;conv=>whnf)
 rotate_left
 exact⟨Sh.agg ⟨Sh.flat_map (fun _=>rfl) _,Sh.flat_map (fun _=>rfl) _,Sh.flat_map (fun _=>rfl) _,Sh.refl _,Sh.refl _,Sh.refl _,trivial⟩⟩
end H1

/- Numbers in bases 2 to 16: digits, plainly; strconv's formatBits, by walk. -/
open Go Go.Abs Go.Proofs V1
namespace F1
def digB(f:Nat→UInt8)(b v:Nat):List UInt8:=if h:b≤v∧2≤b then digB f b (v/b)++[f (v%b)]else[f v]
termination_by v
decreasing_by exact Nat.div_lt_self (by omega) (by omega)
theorem digB_step(f:Nat→UInt8){b v:Nat}(h:b≤v)(h2:2≤b):digB f b v=digB f b (v/b)++[f (v%b)]:=by rw[digB,dif_pos ⟨h,h2⟩]
theorem digB_end(f:Nat→UInt8){b v:Nat}(h:v<b):digB f b v=[f v]:=by rw[digB,dif_neg (by omega)]
theorem digB_map(f g:UInt8→UInt8)(d:Nat→UInt8)(b:Nat)(h2:2≤b): ∀v,(digB d b v).map f=digB (fun k=>f (d k)) b v:=by
 intro v
 induction v using Nat.strongRecOn with
 |ind v ih=>
  by_cases h:b≤v
  ·rw[digB_step _ h h2,digB_step _ h h2,List.map_append,ih _ (Nat.div_lt_self (by omega) (by omega))]
   rfl
  ·rw[digB_end _ (by omega),digB_end _ (by omega)]
   rfl
theorem digB_len(f:Nat→UInt8){b:Nat}(h2:2≤b): ∀(n v:Nat),v<2 ^ n→1≤n→(digB f b v).length≤n
 |0,v,_,h=>by omega
 |n+1,v,h,_=>by
  by_cases hb:b≤v
  ·rw[digB_step _ hb h2,List.length_append,List.length_singleton]
   have hn:1≤n:=by
    rcases n with _|n
    ·simp at h;omega
    ·omega
   have h3:v/b<2 ^ n:=by
    have:v/b≤v/2:=Nat.div_le_div_left h2 (by omega)
    have:v/2<2 ^ n:=by rw[Nat.pow_succ]at h;omega
    omega
   have:=digB_len f h2 n (v/b) h3 hn
   omega
  ·rw[digB_end _ (by omega)];simp
def low:List UInt8:=[48,49,50,51,52,53,54,55,56,57,97,98,99,100,101,102,103,104,105,106,107,108,109,110,111,112,113,114,115,116,117,118,119,120,121,122]
def dgl(k:Nat):UInt8:=low.getD k 0
def arr65(s:List UInt8):List (List AV):=List.replicate (65-s.length) [.int .u8 0]++u8rows s
theorem arr65_len{s:List UInt8}(h:s.length≤65):(arr65 s).length=65:=by simp[arr65,u8rows];omega
theorem arr65_put{s:List UInt8}{i:Nat}{c:UInt8}{n:Nat}(h:s.length<65)(hi:i=64-s.length)(hc:n=c.toNat):setRow (arr65 s) i 0 [.int .u8 0] [.int .u8 (n:Int)]=arr65 (c::s):=by
 subst hi hc
 have hr:rowA (arr65 s) (64-s.length) [.int .u8 0]=[.int .u8 0]:=by
  simp[rowA,arr65,List.getElem?_append,show 64-s.length<65-s.length by omega,List.getElem?_replicate]
 rw[setRow,hr]
 have e1:setCells [.int .u8 0] 0 [.int .u8 (c.toNat:Int)]=[.int .u8 (c.toNat:Int)]:=by simp[setCells]
 rw[e1]
 apply List.ext_getElem?
 intro j
 simp only[arr65,u8rows,List.length_cons,List.getElem?_set,List.getElem?_append,List.length_append,List.length_replicate,List.length_map,List.getElem?_replicate,List.getElem?_map]
 by_cases h1:64-s.length=j
 ·subst h1
  have e2:64-s.length-(65-(s.length+1))=0:=by omega
  have e3: ¬64-s.length<65-(s.length+1):=by omega
  simp[e2,e3]
  omega
 ·by_cases h2:j<64-s.length
  ·simp[h1,h2,show j<65-s.length by omega]
  ·have e2:j-(64-s.length)=(j-(65-s.length))+1:=by omega
   simp[h1,h2,show ¬j<65-s.length by omega,e2]
theorem arr65_sub{s:List UInt8}{i n:Nat}(h:s.length≤65)(hi:i=65-s.length)(hn:n=s.length):bytesOfRows (subA (arr65 s) i n)=some s:=by
 subst hi hn
 have:subA (arr65 s) (65-s.length) s.length=u8rows s:=by
  rw[subA,arr65,List.drop_append_of_le_length (by simp)]
  simp[u8rows,List.take_of_length_le]
 rw[this]
 clear this h
 induction s with
 |nil=>rfl
 |cons c s ih=>
  show(bytesOfRows (u8rows s)).map _=_
  rw[ih]
  simp
theorem band{b u:Nat}{k:Nat}(hb:b=2 ^ k)(hk:k≤4)(hu:u<18446744073709551616):(IntKind.u64.wrap (((BitVec.ofInt IntKind.u64.bits (u:Int)&&&BitVec.ofInt IntKind.u64.bits (IntKind.u64.wrap (IntKind.u64.wrap (b:Int)-1))).toNat:Nat):Int)).toNat=u%b:=by
 have e1:IntKind.u64.wrap (IntKind.u64.wrap (b:Int)-1)=((2 ^ k-1:Nat):Int):=by
  subst hb
  have:k=0∨k=1∨k=2∨k=3∨k=4:=by omega
  rcases this with rfl|rfl|rfl|rfl|rfl<;>decide
 rw[e1]
 have e2:(BitVec.ofInt IntKind.u64.bits (u:Int)).toNat=u:=by
  rw[BitVec.toNat_ofInt]
  show((u:Int)%((2 ^ 64:Nat):Int)).toNat=u
  omega
 have hk2:2 ^ k-1<2 ^ 64:=by
  have:k=0∨k=1∨k=2∨k=3∨k=4:=by omega
  rcases this with rfl|rfl|rfl|rfl|rfl<;>decide
 have e3:(BitVec.ofInt IntKind.u64.bits ((2 ^ k-1:Nat):Int)).toNat=2 ^ k-1:=by
  rw[BitVec.toNat_ofInt]
  show(((2 ^ k-1:Nat):Int)%((2 ^ 64:Nat):Int)).toNat=2 ^ k-1
  generalize 2 ^ k-1=q at hk2⊢
  omega
 rw[BitVec.toNat_and,e2,e3,Nat.and_two_pow_sub_one_eq_mod,←hb]
 have hlt:u%b≤u:=Nat.mod_le _ _
 rw[wrap_fits (by simp[fitsK];omega)]
 rfl
theorem bshr{b u k:Nat}(hb:b=2 ^ k)(hk:k≤4):(u:Int).fdiv (2 ^ (min (IntKind.u64.wrap (k:Int)).toNat IntKind.u64.bits))=((u/b:Nat):Int):=by
 have:k=0∨k=1∨k=2∨k=3∨k=4:=by omega
 subst hb
 rcases this with rfl|rfl|rfl|rfl|rfl<;>
 ·simp only[show(min (IntKind.u64.wrap ((0:Nat):Int)).toNat IntKind.u64.bits)=0 from by decide,show(min (IntKind.u64.wrap ((1:Nat):Int)).toNat IntKind.u64.bits)=1 from by decide,show(min (IntKind.u64.wrap ((2:Nat):Int)).toNat IntKind.u64.bits)=2 from by decide,show(min (IntKind.u64.wrap ((3:Nat):Int)).toNat IntKind.u64.bits)=3 from by decide,show(min (IntKind.u64.wrap ((4:Nat):Int)).toNat IntKind.u64.bits)=4 from by decide]
  rw[Int.fdiv_eq_ediv_of_nonneg _ (by decide)]
  norm_cast
theorem wrapu{n:Int}(h1:0≤n)(h2:n<18446744073709551616):IntKind.u64.wrap n=n:=wrap_fits (by simp[fitsK];omega)
theorem wrap_neg{v:Nat}(h1:1≤v)(h2:v<18446744073709551616):IntKind.u64.wrap (0-IntKind.u64.wrap (-(v:Int)))=v:=by
 have e: ∀n:Int,IntKind.u64.wrap n=n%18446744073709551616:=fun n=>rfl
 rw[e,e]
 omega
theorem dig_le{b u v n:Nat}(hb:2≤b)(h:u*2 ^ n≤v):u/b*2 ^ (n+1)≤v:=by
 have e1:u/b≤u/2:=Nat.div_le_div_left hb (by omega)
 have e2:u/2*2≤u:=Nat.div_mul_le_self u 2
 have e3:u/b*2 ^ (n+1)≤u/2*2 ^ (n+1):=Nat.mul_le_mul_right _ e1
 have e4:u/2*2 ^ (n+1)=u/2*2*2 ^ n:=by rw[Nat.pow_succ,Nat.mul_assoc,Nat.mul_comm 2]
 have e5:u/2*2*2 ^ n≤u*2 ^ n:=Nat.mul_le_mul_right _ e2
 omega
theorem dig_33{u v n:Nat}(hu:1≤u)(h:u*2 ^ n≤v)(hv:v<2 ^ 33)(h3:n≤33):n+1≤33:=by
 by_cases hq:n+1≤33
 ·exact hq
 ·have e3:n=33:=by omega
  rw[e3]at h
  have:1*2 ^ 33≤u*2 ^ 33:=Nat.mul_le_mul_right _ hu
  omega
theorem bquo{u b:Nat}(h1:1≤b)(h2:b<18446744073709551616)(hu:u<18446744073709551616):IntKind.u64.wrap ((u:Int).tdiv (IntKind.u64.wrap (b:Int)))=((u/b:Nat):Int):=by
 rw[wrapu (n:=(b:Int)) (by omega) (by omega),Int.tdiv_eq_ediv_of_nonneg (by omega)]
 have e:(u:Int)/(b:Int)=((u/b:Nat):Int):=by norm_cast
 have hq:=Nat.div_le_self u b
 rw[e]
 generalize u/b=q at hq
 exact wrapu (by omega) (by omega)
theorem bmod{u b:Nat}(h1:1≤b)(h2:b<18446744073709551616)(hu:u<18446744073709551616):(IntKind.u64.wrap ((u:Int)-IntKind.u64.wrap (IntKind.u64.wrap ((u:Int).tdiv (IntKind.u64.wrap (b:Int)))*IntKind.u64.wrap (b:Int)))).toNat=u%b:=by
 rw[bquo h1 h2 hu,wrapu (n:=(b:Int)) (by omega) (by omega)]
 have e1:((u/b:Nat):Int)*(b:Int)=((u/b*b:Nat):Int):=by norm_cast
 have e2:u/b*b≤u:=Nat.div_mul_le_self u b
 have e3:u%b=u-u/b*b:=by have:=Nat.div_add_mod u b;rw[Nat.mul_comm]at this;omega
 rw[e1,e3]
 generalize u/b*b=q at e2
 rw[wrapu (n:=(q:Int)) (by omega) (by omega),wrapu (by omega) (by omega)]
 omega
theorem wrapu0(n:Int):0≤IntKind.u64.wrap n:=by
 have e:IntKind.u64.wrap n=n%18446744073709551616:=rfl
 rw[e]
 omega
end F1

/- strconv's formatBits, by walk: contracts. -/
open Go Go.Abs Go.Proofs V1 F1
namespace F2
def isP(b:Nat):Bool:=b==2||b==4||b==8||b==16
theorem c126(b:Nat)(h:2≤b∧b≤16):Con Tryz.prog 126 [.int .i64 b] (undefs [.int .i64 b]) (.bool (isP b)):=by
 have:b=2∨b=3∨b=4∨b=5∨b=6∨b=7∨b=8∨b=9∨b=10∨b=11∨b=12∨b=13∨b=14∨b=15∨b=16:=by omega
 refine Con.ev 8 T_ok mix Tryz.func126 rfl rfl rfl rfl [.tmp 2] rfl ?_
 conv=>whnf
 (apply rq_s rfl;conv=>whnf)
 rotate_left
 refine sh_s (congrArg AV.bool ?_)
 rcases this with rfl|rfl|rfl|rfl|rfl|rfl|rfl|rfl|rfl|rfl|rfl|rfl|rfl|rfl|rfl<;>decide
theorem fbP(k:Nat)(b:Nat)(hb:b=2 ^ k)(hk:1≤k∧k≤4)(kt:Con Tryz.prog 127 [.int .u64 (IntKind.u64.wrap (b:Int))] (undefs [.int .u64 (IntKind.u64.wrap (b:Int))]) (.int .i64 k))(v:Nat)(hv:v<2 ^ 33):
  Con Tryz.prog 117 [.emp,.int .u64 v,.int .i64 b,.bool false,.bool false] (undefs [.emp,.int .u64 v,.int .i64 b,.bool false,.bool false]) (.tup [.emp,.str (digB dgl b v)]):=by
 have hb2:2≤b∧b≤16∧b≠10:=by
  subst hb
  have:k=1∨k=2∨k=3∨k=4:=by omega
  rcases this with rfl|rfl|rfl|rfl<;>decide
 have hp:isP b=true:=by
  subst hb
  have:k=1∨k=2∨k=3∨k=4:=by omega
  rcases this with rfl|rfl|rfl|rfl<;>decide
 have ki:=c126 b ⟨hb2.1,hb2.2.1⟩
 rw[hp]at ki
 have g0:decide ((b:Int)<2)=false:=decide_eq_false (by omega)
 have g1:((b:Int)==10)=false:=by simp;omega
 have g2:decide ((b:Int)>36)=false:=decide_eq_false (by omega)
 have wb:IntKind.u64.wrap (b:Int)=b:=wrapu (by omega) (by omega)
 refine Con.ev 102 T_ok mix Tryz.func117 rfl rfl rfl rfl [.tmp 10,.tmp 11] rfl ?_
 conv=>whnf
 iterate 15 ((first|apply rq_s rfl|refine fac_s (fun hf=> ?_)|apply br_t rfl|apply br_f rfl|refine br_f (by solve|simp only[g0,g1,g2,if_true,if_false,Bool.false_eq_true,reduceIte]|fail) ?_|apply lend_s|refine call_s (ki ..) ?_|refine call_s (kt ..) ?_);conv=>whnf)
 rotate_left
 refine LoopG.rounds (α:=Nat × List UInt8) T_ok mix [1,3,4,10,11,12,13,14,15,16] [(12,12)] (fun a=>[(1,.int .u64 a.1),(3,.bool false),(4,.bool false),(10,.emp),(11,.str []),(12,.ptr 12 0 0),(13,.int .i64 (65-(a.2.length:Int))),(14,.int .u64 (IntKind.u64.wrap (k:Int))),(15,.int .u64 (IntKind.u64.wrap (b:Int))),(16,.int .u64 (IntKind.u64.wrap (IntKind.u64.wrap (b:Int)-1)))]) (fun a=>[(12,.live ⟨true,0,[.int .u8 0],arr65 a.2⟩)]) (fun a=>digB dgl b a.1++a.2=digB dgl b v∧a.1*2 ^ a.2.length≤v∧a.2.length≤33) (fun a=>a.1) ?_ ?_
 ·conv=>whnf
  exact head_s (v,[]) ⟨by simp,by simp,by simp⟩ rfl rfl
 ·rintro ⟨u,s⟩ ⟨h1,h2,h3⟩- -
  simp only at h1 h2 h3⊢
  have la:=arr65_len (s:=s) (by omega)
  have w65:IntKind.i64.wrap (65-(s.length:Int)-1)=64-(s.length:Int):=by rw[wrap64 (by omega) (by omega)];omega
  have h2n:1≤2 ^ s.length:=Nat.one_le_two_pow
  have hu64:u<18446744073709551616:=by
   have:=Nat.le_mul_of_pos_right u h2n
   omega
  have pi:0+(IntKind.i64.wrap (65-(s.length:Int)-1)).toNat=64-s.length:=by rw[w65];omega
  by_cases hu:b≤u
  ·have gu:decide ((u:Int)≥IntKind.u64.wrap (b:Int))=true:=by rw[wb];exact decide_eq_true (by omega)
   have hm:u%b<b:=Nat.mod_lt _ (by omega)
   have bd:=band (u:=u) hb hk.2 hu64
   conv=>whnf
   iterate 10 ((first|refine rq_s (by solve|simp only[lnm,arr65_len,low]|fail) ?_|apply rq_s rfl|refine rq_s (by refine and_s rfl ?_;simp only[lnm];omega) ?_|refine rq_s (by simp only[Bool.and_eq_true,decide_eq_true_eq,List.length_map];omega) ?_|refine rq_s (by((simp;omega))) ?_|refine rq_s (by((first|(rw[bd];exact decide_eq_true (show u%b<36 by omega))|(rw[w65];exact decide_eq_true (by omega))|(rw[la];rfl)|(rw[w65,la];exact decide_eq_true (by omega))|(refine and_s rfl ?_;rw[w65,la];exact decide_eq_true (by omega))))) ?_|apply rows_s rfl|refine br_t (by assumption) ?_);conv=>whnf)
   rotate_left
   refine head_s (u/b,dgl (u%b)::s) ⟨⟨?_,?_,?_⟩,Nat.div_lt_self (by omega) (by omega)⟩ (by rw[bshr hb hk.2,w65,show 64-(s.length:Int)=65-((s.length+1:Nat):Int) by omega];rfl) ?_
   ·rw[←h1,digB_step _ hu (by omega)];simp
   ·simp only[List.length_cons]
    exact dig_le hb2.1 h2
   ·simp only[List.length_cons]
    exact dig_33 (by omega) h2 hv h3
   ·rw[arr65_put (c:=dgl (u%b)) (by omega) pi]
    rw[bd];rfl
  ·have gu:decide ((u:Int)≥IntKind.u64.wrap (b:Int))=false:=by rw[wb];exact decide_eq_false (by omega)
   conv=>whnf
   iterate 19 ((first|refine rq_s (by solve|simp only[lnm,arr65_len,low]|fail) ?_|apply rq_s rfl|refine rq_s (by refine and_s rfl ?_;simp only[lnm];omega) ?_|refine rq_s (by simp only[Bool.and_eq_true,decide_eq_true_eq,List.length_map];omega) ?_|refine rq_s (by((simp;omega))) ?_|refine rq_s (by((first|(rw[w65];exact decide_eq_true (by omega))|(rw[la];rfl)|(rw[w65,la];exact decide_eq_true (by omega))|(refine and_s rfl ?_;rw[w65,la];exact decide_eq_true (by omega))|(refine and_s rfl ?_;rw[setRow_len,la];rfl)|(rw[w65,setRow_len,la];exact decide_eq_true (by omega))|(rw[w65,setRow_len,la];simp;omega)))) ?_|apply rows_s rfl|apply br_f rfl|refine br_f (by assumption) ?_);conv=>whnf)
   rotate_left
   refine byt_s (b:=dgl u::s) ?_ ?_
   ·show bytesOfRows (subA (setRow (arr65 s) _ 0 _ _) _ ((setRow (arr65 s) _ 0 _ _).length-_))=_
    rw[setRow_len,la,w65,arr65_put (c:=dgl u) (by omega) (by omega)]
    ·exact arr65_sub (s:=dgl u::s) (by simp;omega) (by simp) (by simp;omega)
    ·rfl
   ·conv=>whnf
    iterate 2 (apply rq_s rfl;conv=>whnf)
    rotate_left
    refine sh_s ?_
    rw[←h1,digB_end _ (by omega)]
    rfl
theorem fbPn(k:Nat)(b:Nat)(hb:b=2 ^ k)(hk:1≤k∧k≤4)(kt:Con Tryz.prog 127 [.int .u64 (IntKind.u64.wrap (b:Int))] (undefs [.int .u64 (IntKind.u64.wrap (b:Int))]) (.int .i64 k))(v:Nat)(hv:v<2 ^ 33)(hv1:1≤v):
  Con Tryz.prog 117 [.emp,.int .u64 (IntKind.u64.wrap (-(v:Int))),.int .i64 b,.bool true,.bool false] (undefs [.emp,.int .u64 (IntKind.u64.wrap (-(v:Int))),.int .i64 b,.bool true,.bool false]) (.tup [.emp,.str (45::digB dgl b v)]):=by
 have hb2:2≤b∧b≤16∧b≠10:=by
  subst hb
  have:k=1∨k=2∨k=3∨k=4:=by omega
  rcases this with rfl|rfl|rfl|rfl<;>decide
 have hp:isP b=true:=by
  subst hb
  have:k=1∨k=2∨k=3∨k=4:=by omega
  rcases this with rfl|rfl|rfl|rfl<;>decide
 have ki:=c126 b ⟨hb2.1,hb2.2.1⟩
 rw[hp]at ki
 have g0:decide ((b:Int)<2)=false:=decide_eq_false (by omega)
 have g1:((b:Int)==10)=false:=by simp;omega
 have g2:decide ((b:Int)>36)=false:=decide_eq_false (by omega)
 have wb:IntKind.u64.wrap (b:Int)=b:=wrapu (by omega) (by omega)
 have wn:IntKind.u64.wrap (0-IntKind.u64.wrap (-(v:Int)))=v:=wrap_neg hv1 (by omega)
 refine Con.ev 102 T_ok mix Tryz.func117 rfl rfl rfl rfl [.tmp 10,.tmp 11] rfl ?_
 conv=>whnf
 iterate 15 ((first|apply rq_s rfl|refine fac_s (fun hf=> ?_)|apply br_t rfl|apply br_f rfl|refine br_f (by solve|simp only[g0,g1,g2,if_true,if_false,Bool.false_eq_true,reduceIte]|fail) ?_|apply lend_s|refine call_s (ki ..) ?_|refine call_s (kt ..) ?_);conv=>whnf)
 rotate_left
 refine LoopG.rounds (α:=Nat × List UInt8) T_ok mix [1,3,4,10,11,12,13,14,15,16] [(12,12)] (fun a=>[(1,.int .u64 a.1),(3,.bool true),(4,.bool false),(10,.emp),(11,.str []),(12,.ptr 12 0 0),(13,.int .i64 (65-(a.2.length:Int))),(14,.int .u64 (IntKind.u64.wrap (k:Int))),(15,.int .u64 (IntKind.u64.wrap (b:Int))),(16,.int .u64 (IntKind.u64.wrap (IntKind.u64.wrap (b:Int)-1)))]) (fun a=>[(12,.live ⟨true,0,[.int .u8 0],arr65 a.2⟩)]) (fun a=>digB dgl b a.1++a.2=digB dgl b v∧a.1*2 ^ a.2.length≤v∧a.2.length≤33) (fun a=>a.1) ?_ ?_
 ·conv=>whnf
  exact head_s (v,[]) ⟨by simp,by simp,by simp⟩ (by rw[wn];rfl) rfl
 ·rintro ⟨u,s⟩ ⟨h1,h2,h3⟩- -
  simp only at h1 h2 h3⊢
  have la:=arr65_len (s:=s) (by omega)
  have w65:IntKind.i64.wrap (65-(s.length:Int)-1)=64-(s.length:Int):=by rw[wrap64 (by omega) (by omega)];omega
  have w64:IntKind.i64.wrap (IntKind.i64.wrap (65-(s.length:Int)-1)-1)=63-(s.length:Int):=by rw[w65,wrap64 (by omega) (by omega)];omega
  have h2n:1≤2 ^ s.length:=Nat.one_le_two_pow
  have hu64:u<18446744073709551616:=by
   have:=Nat.le_mul_of_pos_right u h2n
   omega
  have pi:0+(IntKind.i64.wrap (65-(s.length:Int)-1)).toNat=64-s.length:=by rw[w65];omega
  by_cases hu:b≤u
  ·have gu:decide ((u:Int)≥IntKind.u64.wrap (b:Int))=true:=by rw[wb];exact decide_eq_true (by omega)
   have hm:u%b<b:=Nat.mod_lt _ (by omega)
   have bd:=band (u:=u) hb hk.2 hu64
   conv=>whnf
   iterate 10 ((first|refine rq_s (by solve|simp only[lnm,arr65_len,low]|fail) ?_|apply rq_s rfl|refine rq_s (by refine and_s rfl ?_;simp only[lnm];omega) ?_|refine rq_s (by simp only[Bool.and_eq_true,decide_eq_true_eq,List.length_map];omega) ?_|refine rq_s (by((simp;omega))) ?_|refine rq_s (by((first|(rw[bd];exact decide_eq_true (show u%b<36 by omega))|(rw[w65];exact decide_eq_true (by omega))|(rw[la];rfl)|(rw[w65,la];exact decide_eq_true (by omega))|(refine and_s rfl ?_;rw[w65,la];exact decide_eq_true (by omega))))) ?_|apply rows_s rfl|refine br_t (by assumption) ?_);conv=>whnf)
   rotate_left
   refine head_s (u/b,dgl (u%b)::s) ⟨⟨?_,?_,?_⟩,Nat.div_lt_self (by omega) (by omega)⟩ (by rw[bshr hb hk.2,w65,show 64-(s.length:Int)=65-((s.length+1:Nat):Int) by omega];rfl) ?_
   ·rw[←h1,digB_step _ hu (by omega)];simp
   ·simp only[List.length_cons]
    exact dig_le hb2.1 h2
   ·simp only[List.length_cons]
    exact dig_33 (by omega) h2 hv h3
   ·rw[arr65_put (c:=dgl (u%b)) (by omega) pi]
    rw[bd];rfl
  ·have gu:decide ((u:Int)≥IntKind.u64.wrap (b:Int))=false:=by rw[wb];exact decide_eq_false (by omega)
   conv=>whnf
   iterate 25 ((first|refine rq_s (by solve|simp only[lnm,arr65_len,low]|fail) ?_|apply rq_s rfl|refine rq_s (by refine and_s rfl ?_;simp only[lnm];omega) ?_|refine rq_s (by simp only[Bool.and_eq_true,decide_eq_true_eq,List.length_map];omega) ?_|refine rq_s (by((simp;omega))) ?_|refine rq_s (by((first|(rw[w64];exact decide_eq_true (by omega))|(refine and_s rfl ?_;rw[w64,setRow_len,la];exact decide_eq_true (by omega))|(refine and_s rfl ?_;rw[setRow_len,setRow_len,la];rfl)|(rw[w64,setRow_len,setRow_len,la];exact decide_eq_true (by omega))|(rw[w64,setRow_len,setRow_len,la];simp;omega)|(rw[w65];exact decide_eq_true (by omega))|(rw[la];rfl)|(rw[w65,la];exact decide_eq_true (by omega))|(refine and_s rfl ?_;rw[w65,la];exact decide_eq_true (by omega))|(refine and_s rfl ?_;rw[setRow_len,la];rfl)|(rw[w65,setRow_len,la];exact decide_eq_true (by omega))|(rw[w65,setRow_len,la];simp;omega)))) ?_|apply rows_s rfl|apply br_t rfl|apply br_f rfl|refine br_f (by assumption) ?_);conv=>whnf)
   rotate_left
   refine byt_s (b:=45::dgl u::s) ?_ ?_
   ·show bytesOfRows (subA (setRow (setRow (arr65 s) _ 0 _ _) _ 0 _ _) _ ((setRow (setRow (arr65 s) _ 0 _ _) _ 0 _ _).length-_))=_
    rw[setRow_len,setRow_len,la,w64,w65,arr65_put (c:=dgl u) (by omega) (by omega)]
    ·rw[show(AV.int .u8 45)=AV.int .u8 (((45:UInt8).toNat:Nat):Int)from rfl,arr65_put (s:=dgl u::s) (c:=45) (by simp;omega) (by simp) rfl]
     exact arr65_sub (s:=45::dgl u::s) (by simp;omega) (by simp) (by simp;omega)
    ·rfl
   ·conv=>whnf
    iterate 2 (apply rq_s rfl;conv=>whnf)
    rotate_left
    refine sh_s ?_
    rw[←h1,digB_end _ (by omega)]
    rfl
theorem fbG(b:Nat)(hb2:2≤b∧b≤16∧b≠10)(hp:isP b=false)(v:Nat)(hv:v<2 ^ 33):
  Con Tryz.prog 117 [.emp,.int .u64 v,.int .i64 b,.bool false,.bool false] (undefs [.emp,.int .u64 v,.int .i64 b,.bool false,.bool false]) (.tup [.emp,.str (digB dgl b v)]):=by
 have ki:=c126 b ⟨hb2.1,hb2.2.1⟩
 rw[hp]at ki
 have g0:decide ((b:Int)<2)=false:=decide_eq_false (by omega)
 have g1:((b:Int)==10)=false:=by simp;omega
 have g2:decide ((b:Int)>36)=false:=decide_eq_false (by omega)
 have wb:IntKind.u64.wrap (b:Int)=b:=wrapu (by omega) (by omega)
 refine Con.ev 102 T_ok mix Tryz.func117 rfl rfl rfl rfl [.tmp 10,.tmp 11] rfl ?_
 conv=>whnf
 iterate 11 ((first|apply rq_s rfl|apply br_f rfl|refine br_f (by solve|simp only[g0,g1,g2,if_true,if_false,Bool.false_eq_true,reduceIte]|fail) ?_|apply lend_s|refine call_s (ki ..) ?_);conv=>whnf)
 rotate_left
 refine LoopG.rounds (α:=Nat × List UInt8) T_ok mix [1,3,4,10,11,12,13,17] [(12,12)] (fun a=>[(1,.int .u64 a.1),(3,.bool false),(4,.bool false),(10,.emp),(11,.str []),(12,.ptr 12 0 0),(13,.int .i64 (65-(a.2.length:Int))),(17,.int .u64 (IntKind.u64.wrap (b:Int)))]) (fun a=>[(12,.live ⟨true,0,[.int .u8 0],arr65 a.2⟩)]) (fun a=>digB dgl b a.1++a.2=digB dgl b v∧a.1*2 ^ a.2.length≤v∧a.2.length≤33) (fun a=>a.1) ?_ ?_
 ·conv=>whnf
  exact head_s (v,[]) ⟨by simp,by simp,by simp⟩ rfl rfl
 ·rintro ⟨u,s⟩ ⟨h1,h2,h3⟩- -
  simp only at h1 h2 h3⊢
  have la:=arr65_len (s:=s) (by omega)
  have w65:IntKind.i64.wrap (65-(s.length:Int)-1)=64-(s.length:Int):=by rw[wrap64 (by omega) (by omega)];omega
  have h2n:1≤2 ^ s.length:=Nat.one_le_two_pow
  have hu64:u<18446744073709551616:=by
   have:=Nat.le_mul_of_pos_right u h2n
   omega
  have pi:0+(IntKind.i64.wrap (65-(s.length:Int)-1)).toNat=64-s.length:=by rw[w65];omega
  by_cases hu:b≤u
  ·have gu:decide ((u:Int)≥IntKind.u64.wrap (b:Int))=true:=by rw[wb];exact decide_eq_true (by omega)
   have hm:u%b<b:=Nat.mod_lt _ (by omega)
   have bq:=bquo (u:=u) (b:=b) (by omega) (by omega) hu64
   have bd:=bmod (u:=u) (b:=b) (by omega) (by omega) hu64
   have b0:(IntKind.u64.wrap (b:Int) != 0)=true:=by rw[wb];simp;omega
   conv=>whnf
   iterate 10 ((first|refine rq_s (by solve|simp only[lnm,arr65_len,low]|fail) ?_|refine rq_s (by refine and_s rfl ?_;simp only[lnm];omega) ?_|refine rq_s (by simp only[Bool.and_eq_true,decide_eq_true_eq,List.length_map];omega) ?_|refine rq_s (by((simp;omega))) ?_|refine rq_s (by((first|exact b0|exact decide_eq_true (wrapu0 _)|(rw[bd];exact decide_eq_true (show u%b<36 by omega))|(rw[w65];exact decide_eq_true (by omega))|(rw[la];rfl)|(rw[w65,la];exact decide_eq_true (by omega))|(refine and_s rfl ?_;rw[w65,la];exact decide_eq_true (by omega))))) ?_|apply rows_s rfl|refine br_t (by assumption) ?_);conv=>whnf)
   rotate_left
   refine head_s (u/b,dgl (u%b)::s) ⟨⟨?_,?_,?_⟩,Nat.div_lt_self (by omega) (by omega)⟩ (by rw[bq,w65,show 64-(s.length:Int)=65-((s.length+1:Nat):Int) by omega];rfl) ?_
   ·rw[←h1,digB_step _ hu (by omega)];simp
   ·simp only[List.length_cons]
    exact dig_le hb2.1 h2
   ·simp only[List.length_cons]
    exact dig_33 (by omega) h2 hv h3
   ·rw[arr65_put (c:=dgl (u%b)) (by omega) pi]
    rw[bd];rfl
  ·have gu:decide ((u:Int)≥IntKind.u64.wrap (b:Int))=false:=by rw[wb];exact decide_eq_false (by omega)
   conv=>whnf
   iterate 19 ((first|refine rq_s (by solve|simp only[lnm,arr65_len,low]|fail) ?_|apply rq_s rfl|refine rq_s (by refine and_s rfl ?_;simp only[lnm];omega) ?_|refine rq_s (by simp only[Bool.and_eq_true,decide_eq_true_eq,List.length_map];omega) ?_|refine rq_s (by((simp;omega))) ?_|refine rq_s (by((first|(rw[w65];exact decide_eq_true (by omega))|(rw[la];rfl)|(rw[w65,la];exact decide_eq_true (by omega))|(refine and_s rfl ?_;rw[w65,la];exact decide_eq_true (by omega))|(refine and_s rfl ?_;rw[setRow_len,la];rfl)|(rw[w65,setRow_len,la];exact decide_eq_true (by omega))|(rw[w65,setRow_len,la];simp;omega)))) ?_|apply rows_s rfl|apply br_f rfl|refine br_f (by assumption) ?_);conv=>whnf)
   rotate_left
   refine byt_s (b:=dgl u::s) ?_ ?_
   ·show bytesOfRows (subA (setRow (arr65 s) _ 0 _ _) _ ((setRow (arr65 s) _ 0 _ _).length-_))=_
    rw[setRow_len,la,w65,arr65_put (c:=dgl u) (by omega) (by omega)]
    ·exact arr65_sub (s:=dgl u::s) (by simp;omega) (by simp) (by simp;omega)
    ·rfl
   ·conv=>whnf
    iterate 2 (apply rq_s rfl;conv=>whnf)
    rotate_left
    refine sh_s ?_
    rw[←h1,digB_end _ (by omega)]
    rfl
theorem fbGn(b:Nat)(hb2:2≤b∧b≤16∧b≠10)(hp:isP b=false)(v:Nat)(hv:v<2 ^ 33)(hv1:1≤v):
  Con Tryz.prog 117 [.emp,.int .u64 (IntKind.u64.wrap (-(v:Int))),.int .i64 b,.bool true,.bool false] (undefs [.emp,.int .u64 (IntKind.u64.wrap (-(v:Int))),.int .i64 b,.bool true,.bool false]) (.tup [.emp,.str (45::digB dgl b v)]):=by
 have ki:=c126 b ⟨hb2.1,hb2.2.1⟩
 rw[hp]at ki
 have g0:decide ((b:Int)<2)=false:=decide_eq_false (by omega)
 have g1:((b:Int)==10)=false:=by simp;omega
 have g2:decide ((b:Int)>36)=false:=decide_eq_false (by omega)
 have wb:IntKind.u64.wrap (b:Int)=b:=wrapu (by omega) (by omega)
 have wn:IntKind.u64.wrap (0-IntKind.u64.wrap (-(v:Int)))=v:=wrap_neg hv1 (by omega)
 refine Con.ev 102 T_ok mix Tryz.func117 rfl rfl rfl rfl [.tmp 10,.tmp 11] rfl ?_
 conv=>whnf
 iterate 11 ((first|apply rq_s rfl|apply br_t rfl|apply br_f rfl|refine br_f (by solve|simp only[g0,g1,g2,if_true,if_false,Bool.false_eq_true,reduceIte]|fail) ?_|apply lend_s|refine call_s (ki ..) ?_);conv=>whnf)
 rotate_left
 refine LoopG.rounds (α:=Nat × List UInt8) T_ok mix [1,3,4,10,11,12,13,17] [(12,12)] (fun a=>[(1,.int .u64 a.1),(3,.bool true),(4,.bool false),(10,.emp),(11,.str []),(12,.ptr 12 0 0),(13,.int .i64 (65-(a.2.length:Int))),(17,.int .u64 (IntKind.u64.wrap (b:Int)))]) (fun a=>[(12,.live ⟨true,0,[.int .u8 0],arr65 a.2⟩)]) (fun a=>digB dgl b a.1++a.2=digB dgl b v∧a.1*2 ^ a.2.length≤v∧a.2.length≤33) (fun a=>a.1) ?_ ?_
 ·conv=>whnf
  exact head_s (v,[]) ⟨by simp,by simp,by simp⟩ (by rw[wn];rfl) rfl
 ·rintro ⟨u,s⟩ ⟨h1,h2,h3⟩- -
  simp only at h1 h2 h3⊢
  have la:=arr65_len (s:=s) (by omega)
  have w65:IntKind.i64.wrap (65-(s.length:Int)-1)=64-(s.length:Int):=by rw[wrap64 (by omega) (by omega)];omega
  have w64:IntKind.i64.wrap (IntKind.i64.wrap (65-(s.length:Int)-1)-1)=63-(s.length:Int):=by rw[w65,wrap64 (by omega) (by omega)];omega
  have h2n:1≤2 ^ s.length:=Nat.one_le_two_pow
  have hu64:u<18446744073709551616:=by
   have:=Nat.le_mul_of_pos_right u h2n
   omega
  have pi:0+(IntKind.i64.wrap (65-(s.length:Int)-1)).toNat=64-s.length:=by rw[w65];omega
  by_cases hu:b≤u
  ·have gu:decide ((u:Int)≥IntKind.u64.wrap (b:Int))=true:=by rw[wb];exact decide_eq_true (by omega)
   have hm:u%b<b:=Nat.mod_lt _ (by omega)
   have bq:=bquo (u:=u) (b:=b) (by omega) (by omega) hu64
   have bd:=bmod (u:=u) (b:=b) (by omega) (by omega) hu64
   have b0:(IntKind.u64.wrap (b:Int) != 0)=true:=by rw[wb];simp;omega
   conv=>whnf
   iterate 10 ((first|refine rq_s (by solve|simp only[lnm,arr65_len,low]|fail) ?_|refine rq_s (by refine and_s rfl ?_;simp only[lnm];omega) ?_|refine rq_s (by simp only[Bool.and_eq_true,decide_eq_true_eq,List.length_map];omega) ?_|refine rq_s (by((simp;omega))) ?_|refine rq_s (by((first|exact b0|exact decide_eq_true (wrapu0 _)|(rw[bd];exact decide_eq_true (show u%b<36 by omega))|(rw[w65];exact decide_eq_true (by omega))|(rw[la];rfl)|(rw[w65,la];exact decide_eq_true (by omega))|(refine and_s rfl ?_;rw[w65,la];exact decide_eq_true (by omega))))) ?_|apply rows_s rfl|refine br_t (by assumption) ?_);conv=>whnf)
   rotate_left
   refine head_s (u/b,dgl (u%b)::s) ⟨⟨?_,?_,?_⟩,Nat.div_lt_self (by omega) (by omega)⟩ (by rw[bq,w65,show 64-(s.length:Int)=65-((s.length+1:Nat):Int) by omega];rfl) ?_
   ·rw[←h1,digB_step _ hu (by omega)];simp
   ·simp only[List.length_cons]
    exact dig_le hb2.1 h2
   ·simp only[List.length_cons]
    exact dig_33 (by omega) h2 hv h3
   ·rw[arr65_put (c:=dgl (u%b)) (by omega) pi]
    rw[bd];rfl
  ·have gu:decide ((u:Int)≥IntKind.u64.wrap (b:Int))=false:=by rw[wb];exact decide_eq_false (by omega)
   conv=>whnf
   iterate 25 ((first|refine rq_s (by solve|simp only[lnm,arr65_len,low]|fail) ?_|apply rq_s rfl|refine rq_s (by refine and_s rfl ?_;simp only[lnm];omega) ?_|refine rq_s (by simp only[Bool.and_eq_true,decide_eq_true_eq,List.length_map];omega) ?_|refine rq_s (by((simp;omega))) ?_|refine rq_s (by((first|(rw[w64];exact decide_eq_true (by omega))|(refine and_s rfl ?_;rw[w64,setRow_len,la];exact decide_eq_true (by omega))|(refine and_s rfl ?_;rw[setRow_len,setRow_len,la];rfl)|(rw[w64,setRow_len,setRow_len,la];exact decide_eq_true (by omega))|(rw[w64,setRow_len,setRow_len,la];simp;omega)|(rw[w65];exact decide_eq_true (by omega))|(rw[la];rfl)|(rw[w65,la];exact decide_eq_true (by omega))|(refine and_s rfl ?_;rw[w65,la];exact decide_eq_true (by omega))|(refine and_s rfl ?_;rw[setRow_len,la];rfl)|(rw[w65,setRow_len,la];exact decide_eq_true (by omega))|(rw[w65,setRow_len,la];simp;omega)))) ?_|apply rows_s rfl|apply br_t rfl|apply br_f rfl|refine br_f (by assumption) ?_);conv=>whnf)
   rotate_left
   refine byt_s (b:=45::dgl u::s) ?_ ?_
   ·show bytesOfRows (subA (setRow (setRow (arr65 s) _ 0 _ _) _ 0 _ _) _ ((setRow (setRow (arr65 s) _ 0 _ _) _ 0 _ _).length-_))=_
    rw[setRow_len,setRow_len,la,w64,w65,arr65_put (c:=dgl u) (by omega) (by omega)]
    ·rw[show(AV.int .u8 45)=AV.int .u8 (((45:UInt8).toNat:Nat):Int)from rfl,arr65_put (s:=dgl u::s) (c:=45) (by simp;omega) (by simp) rfl]
     exact arr65_sub (s:=45::dgl u::s) (by simp;omega) (by simp) (by simp;omega)
    ·rfl
   ·conv=>whnf
    iterate 2 (apply rq_s rfl;conv=>whnf)
    rotate_left
    refine sh_s ?_
    rw[←h1,digB_end _ (by omega)]
    rfl
end F2

/- Numbers in text in bases 2 to 16: strconv.FormatInt, strings.ToUpper, cells in text; contracts. -/
open Go Go.Abs Go.Proofs Go.RowKit V1 F1 F2
def T1.lays27_ren:Go.Shelf.Ren:=⟨fun|27=>127|28=>131|29=>132|n=>n,fun|25=>94|3=>3|27=>92|22=>93|4=>4|53=>142|0=>0|5=>5|54=>143|n=>n,fun|0=>5|1=>6|n=>n⟩
theorem T1.lays27:Go.Proofs.Lays7.n27 Tryz.prog T1.lays27_ren where
 mixed:=by kernel_rfl
 f27:=Tryz.func127.trans (congrArg some (by kernel_rfl))
 f28:=Tryz.func131.trans (congrArg some (by kernel_rfl))
 f29:=Tryz.func132.trans (congrArg some (by kernel_rfl))
 t0:=Tryz.underlying0
 a0:=Tryz.isAgg0
 z0:=Tryz.sizeOf0
 v0:=Tryz.zeroValue0
 i0:=by kernel_rfl
 t3:=Tryz.underlying3
 a3:=Tryz.isAgg3
 z3:=Tryz.sizeOf3
 v3:=Tryz.zeroValue3
 i3:=by kernel_rfl
 t4:=Tryz.underlying4
 a4:=Tryz.isAgg4
 z4:=Tryz.sizeOf4
 v4:=Tryz.zeroValue4
 i4:=by kernel_rfl
 t5:=Tryz.underlying5
 a5:=Tryz.isAgg5
 z5:=Tryz.sizeOf5
 v5:=Tryz.zeroValue5
 i5:=by kernel_rfl
 t22:=Tryz.underlying93
 a22:=Tryz.isAgg93
 z22:=Tryz.sizeOf93
 v22:=Tryz.zeroValue93
 i22:=by kernel_rfl
 t25:=Tryz.underlying94
 a25:=Tryz.isAgg94
 z25:=Tryz.sizeOf94
 v25:=Tryz.zeroValue94
 i25:=by kernel_rfl
 t27:=Tryz.underlying92
 a27:=Tryz.isAgg92
 z27:=Tryz.sizeOf92
 v27:=Tryz.zeroValue92
 i27:=by kernel_rfl
 t53:=Tryz.underlying142
 a53:=Tryz.isAgg142
 z53:=Tryz.sizeOf142
 v53:=Tryz.zeroValue142
 i53:=by kernel_rfl
 t54:=Tryz.underlying143
 a54:=Tryz.isAgg143
 z54:=Tryz.sizeOf143
 g0:=by kernel_rfl
 g1:=by kernel_rfl
def T1.lays173_ren:Go.Shelf.Ren:=⟨fun|173=>99|246=>106|283=>114|284=>115|285=>116|286=>117|129=>124|317=>123|318=>125|319=>126|320=>127|337=>131|338=>132|n=>n,fun|2=>2|3=>3|9=>9|4=>4|171=>115|0=>0|53=>93|37=>39|5=>5|173=>118|212=>127|51=>92|20=>20|213=>128|46=>94|232=>142|233=>143|n=>n,fun|17=>1|18=>5|19=>6|n=>n⟩
theorem T1.lays173:Go.Proofs.LaysM.n173 Tryz.prog T1.lays173_ren where
 mixed:=by kernel_rfl
 f129:=Tryz.func124.trans (congrArg some (by kernel_rfl))
 f173:=Tryz.func99.trans (congrArg some (by kernel_rfl))
 f246:=Tryz.func106.trans (congrArg some (by kernel_rfl))
 f283:=Tryz.func114.trans (congrArg some (by kernel_rfl))
 f284:=Tryz.func115.trans (congrArg some (by kernel_rfl))
 f285:=Tryz.func116.trans (congrArg some (by kernel_rfl))
 f286:=Tryz.func117.trans (congrArg some (by kernel_rfl))
 f317:=Tryz.func123.trans (congrArg some (by kernel_rfl))
 f318:=Tryz.func125.trans (congrArg some (by kernel_rfl))
 f319:=Tryz.func126.trans (congrArg some (by kernel_rfl))
 f320:=Tryz.func127.trans (congrArg some (by kernel_rfl))
 f337:=Tryz.func131.trans (congrArg some (by kernel_rfl))
 f338:=Tryz.func132.trans (congrArg some (by kernel_rfl))
 t0:=Tryz.underlying0
 a0:=Tryz.isAgg0
 z0:=Tryz.sizeOf0
 v0:=Tryz.zeroValue0
 t2:=Tryz.underlying2
 a2:=Tryz.isAgg2
 z2:=Tryz.sizeOf2
 v2:=Tryz.zeroValue2
 t3:=Tryz.underlying3
 a3:=Tryz.isAgg3
 z3:=Tryz.sizeOf3
 v3:=Tryz.zeroValue3
 t4:=Tryz.underlying4
 a4:=Tryz.isAgg4
 z4:=Tryz.sizeOf4
 v4:=Tryz.zeroValue4
 t5:=Tryz.underlying5
 a5:=Tryz.isAgg5
 z5:=Tryz.sizeOf5
 v5:=Tryz.zeroValue5
 t9:=Tryz.underlying9
 a9:=Tryz.isAgg9
 z9:=Tryz.sizeOf9
 v9:=Tryz.zeroValue9
 t20:=Tryz.underlying20
 a20:=Tryz.isAgg20
 z20:=Tryz.sizeOf20
 v20:=Tryz.zeroValue20
 t37:=Tryz.underlying39
 a37:=Tryz.isAgg39
 z37:=Tryz.sizeOf39
 v37:=Tryz.zeroValue39
 t46:=Tryz.underlying94
 a46:=Tryz.isAgg94
 z46:=Tryz.sizeOf94
 v46:=Tryz.zeroValue94
 t51:=Tryz.underlying92
 a51:=Tryz.isAgg92
 z51:=Tryz.sizeOf92
 v51:=Tryz.zeroValue92
 t53:=Tryz.underlying93
 a53:=Tryz.isAgg93
 z53:=Tryz.sizeOf93
 v53:=Tryz.zeroValue93
 t171:=Tryz.underlying115
 a171:=Tryz.isAgg115
 z171:=Tryz.sizeOf115
 v171:=Tryz.zeroValue115
 t173:=Tryz.underlying118
 a173:=Tryz.isAgg118
 z173:=Tryz.sizeOf118
 v173:=Tryz.zeroValue118
 t212:=Tryz.underlying127
 a212:=Tryz.isAgg127
 z212:=Tryz.sizeOf127
 v212:=Tryz.zeroValue127
 t213:=Tryz.underlying128
 a213:=Tryz.isAgg128
 z213:=Tryz.sizeOf128
 t232:=Tryz.underlying142
 a232:=Tryz.isAgg142
 z232:=Tryz.sizeOf142
 v232:=Tryz.zeroValue142
 t233:=Tryz.underlying143
 a233:=Tryz.isAgg143
 z233:=Tryz.sizeOf143
 v233:=Tryz.zeroValue143
 g17:=by kernel_rfl
 g18:=by kernel_rfl
 g19:=by kernel_rfl
 i0:=by kernel_rfl
 i2:=by kernel_rfl
 i3:=by kernel_rfl
 i4:=by kernel_rfl
 i5:=by kernel_rfl
 i9:=by kernel_rfl
 i20:=by kernel_rfl
 i37:=by kernel_rfl
 i46:=by kernel_rfl
 i51:=by kernel_rfl
 i53:=by kernel_rfl
 i171:=by kernel_rfl
 i173:=by kernel_rfl
 i212:=by kernel_rfl
 i232:=by kernel_rfl
 i233:=by kernel_rfl
 m17:=by kernel_rfl
 m18:=by kernel_rfl
 m19:=by kernel_rfl
def T1.lays158_ren:Go.Shelf.Ren:=⟨fun|158=>98|165=>100|166=>101|167=>102|169=>103|230=>104|203=>105|240=>107|241=>108|197=>109|118=>110|168=>111|270=>112|262=>113|276=>118|277=>119|260=>120|242=>121|313=>122|278=>128|274=>129|275=>130|n=>n,fun|9=>9|4=>4|3=>3|5=>5|72=>99|0=>0|76=>102|75=>101|107=>107|70=>97|20=>20|37=>39|127=>108|21=>21|105=>109|164=>120|162=>126|203=>124|119=>130|46=>94|139=>133|138=>132|51=>92|160=>134|208=>141|206=>139|80=>105|n=>n,fun|13=>0|3=>3|4=>4|n=>n⟩
theorem T1.lays158:Go.Proofs.Lays.n158 Tryz.prog T1.lays158_ren where
 mixed:=by kernel_rfl
 f118:=Tryz.func110.trans (congrArg some (by kernel_rfl))
 f158:=Tryz.func98.trans (congrArg some (by kernel_rfl))
 f165:=Tryz.func100.trans (congrArg some (by kernel_rfl))
 f166:=Tryz.func101.trans (congrArg some (by kernel_rfl))
 f167:=Tryz.func102.trans (congrArg some (by kernel_rfl))
 f168:=Tryz.func111.trans (congrArg some (by kernel_rfl))
 f169:=Tryz.func103.trans (congrArg some (by kernel_rfl))
 f197:=Tryz.func109.trans (congrArg some (by kernel_rfl))
 f203:=Tryz.func105.trans (congrArg some (by kernel_rfl))
 f230:=Tryz.func104.trans (congrArg some (by kernel_rfl))
 f240:=Tryz.func107.trans (congrArg some (by kernel_rfl))
 f241:=Tryz.func108.trans (congrArg some (by kernel_rfl))
 f242:=Tryz.func121.trans (congrArg some (by kernel_rfl))
 f260:=Tryz.func120.trans (congrArg some (by kernel_rfl))
 f262:=Tryz.func113.trans (congrArg some (by kernel_rfl))
 f270:=Tryz.func112.trans (congrArg some (by kernel_rfl))
 f274:=Tryz.func129.trans (congrArg some (by kernel_rfl))
 f275:=Tryz.func130.trans (congrArg some (by kernel_rfl))
 f276:=Tryz.func118.trans (congrArg some (by kernel_rfl))
 f277:=Tryz.func119.trans (congrArg some (by kernel_rfl))
 f278:=Tryz.func128.trans (congrArg some (by kernel_rfl))
 f313:=Tryz.func122.trans (congrArg some (by kernel_rfl))
 t0:=Tryz.underlying0
 a0:=Tryz.isAgg0
 z0:=Tryz.sizeOf0
 v0:=Tryz.zeroValue0
 t3:=Tryz.underlying3
 a3:=Tryz.isAgg3
 z3:=Tryz.sizeOf3
 v3:=Tryz.zeroValue3
 t4:=Tryz.underlying4
 a4:=Tryz.isAgg4
 z4:=Tryz.sizeOf4
 v4:=Tryz.zeroValue4
 t5:=Tryz.underlying5
 a5:=Tryz.isAgg5
 z5:=Tryz.sizeOf5
 v5:=Tryz.zeroValue5
 t9:=Tryz.underlying9
 a9:=Tryz.isAgg9
 z9:=Tryz.sizeOf9
 v9:=Tryz.zeroValue9
 t20:=Tryz.underlying20
 a20:=Tryz.isAgg20
 z20:=Tryz.sizeOf20
 v20:=Tryz.zeroValue20
 t21:=Tryz.underlying21
 a21:=Tryz.isAgg21
 z21:=Tryz.sizeOf21
 v21:=Tryz.zeroValue21
 t37:=Tryz.underlying39
 a37:=Tryz.isAgg39
 z37:=Tryz.sizeOf39
 v37:=Tryz.zeroValue39
 t46:=Tryz.underlying94
 a46:=Tryz.isAgg94
 z46:=Tryz.sizeOf94
 v46:=Tryz.zeroValue94
 t51:=Tryz.underlying92
 a51:=Tryz.isAgg92
 z51:=Tryz.sizeOf92
 v51:=Tryz.zeroValue92
 t70:=Tryz.underlying97
 a70:=Tryz.isAgg97
 z70:=Tryz.sizeOf97
 v70:=Tryz.zeroValue97
 t72:=Tryz.underlying99
 a72:=Tryz.isAgg99
 z72:=Tryz.sizeOf99
 v72:=Tryz.zeroValue99
 t75:=Tryz.underlying101
 a75:=Tryz.isAgg101
 z75:=Tryz.sizeOf101
 v75:=Tryz.zeroValue101
 t76:=Tryz.underlying102
 a76:=Tryz.isAgg102
 z76:=Tryz.sizeOf102
 v76:=Tryz.zeroValue102
 t105:=Tryz.underlying109
 a105:=Tryz.isAgg109
 z105:=Tryz.sizeOf109
 v105:=Tryz.zeroValue109
 t107:=Tryz.underlying107
 a107:=Tryz.isAgg107
 z107:=Tryz.sizeOf107
 v107:=Tryz.zeroValue107
 t119:=Tryz.underlying130
 a119:=Tryz.isAgg130
 z119:=Tryz.sizeOf130
 t127:=Tryz.underlying108
 a127:=Tryz.isAgg108
 z127:=Tryz.sizeOf108
 v127:=Tryz.zeroValue108
 t138:=Tryz.underlying132
 a138:=Tryz.isAgg132
 z138:=Tryz.sizeOf132
 v138:=Tryz.zeroValue132
 t139:=Tryz.underlying133
 a139:=Tryz.isAgg133
 z139:=Tryz.sizeOf133
 v139:=Tryz.zeroValue133
 t160:=Tryz.underlying134
 a160:=Tryz.isAgg134
 z160:=Tryz.sizeOf134
 v160:=Tryz.zeroValue134
 t162:=Tryz.underlying126
 a162:=Tryz.isAgg126
 z162:=Tryz.sizeOf126
 v162:=Tryz.zeroValue126
 t164:=Tryz.underlying120
 a164:=Tryz.isAgg120
 z164:=Tryz.sizeOf120
 v164:=Tryz.zeroValue120
 t203:=Tryz.underlying124
 a203:=Tryz.isAgg124
 z203:=Tryz.sizeOf124
 v203:=Tryz.zeroValue124
 t206:=Tryz.underlying139
 a206:=Tryz.isAgg139
 z206:=Tryz.sizeOf139
 v206:=Tryz.zeroValue139
 t208:=Tryz.underlying141
 a208:=Tryz.isAgg141
 z208:=Tryz.sizeOf141
 v208:=Tryz.zeroValue141
 g3:=by kernel_rfl
 g4:=by kernel_rfl
 g13:=by kernel_rfl
theorem T1.extra:Builder.Extra Tryz.prog T1.lays158_ren where
 sizeBuilder:=by kernel_rfl
 liesBuilder:=by kernel_rfl
 t5:=T1.lays158.t5
 a5:=T1.lays158.a5
 z5:=T1.lays158.z5
 v5:=T1.lays158.v5
 infoByte:=by kernel_rfl
 cellsByte:=by kernel_rfl
 sizeByte:=by kernel_rfl
 neB5:=by decide
namespace T1
def upp:List UInt8:=[48,49,50,51,52,53,54,55,56,57,65,66,67,68,69,70]
def dgu(k:Nat):UInt8:=upp.getD k 0
theorem dg_up: ∀k,k<16→Lib.upperB (dgl k)=dgu k:=by decide
theorem dg_lt: ∀k,k<16→(dgl k).toNat<128:=by decide
theorem dg_10: ∀k,k<10→dgl k=UInt8.ofNat (48+k):=by decide
theorem digB_congr(f g:Nat→UInt8){b:Nat}(h2:2≤b)(h: ∀k,k<b→f k=g k): ∀v,digB f b v=digB g b v:=by
 intro v
 induction v using Nat.strongRecOn with
 |ind v ih=>
  by_cases hb:b≤v
  ·rw[digB_step _ hb h2,digB_step _ hb h2,ih _ (Nat.div_lt_self (by omega) (by omega)),h _ (Nat.mod_lt _ (by omega))]
  ·rw[digB_end _ (by omega),digB_end _ (by omega),h _ (by omega)]
theorem digB_all(P:UInt8→Prop)(f:Nat→UInt8){b:Nat}(h2:2≤b)(h: ∀k,k<b→P (f k)): ∀v,∀x∈digB f b v,P x:=by
 intro v
 induction v using Nat.strongRecOn with
 |ind v ih=>
  intro x hx
  by_cases hb:b≤v
  ·rw[digB_step _ hb h2]at hx
   rcases List.mem_append.1 hx with hx|hx
   ·exact ih _ (Nat.div_lt_self (by omega) (by omega)) x hx
   ·rw[List.mem_singleton.1 hx];exact h _ (Nat.mod_lt _ (by omega))
  ·rw[digB_end _ (by omega)]at hx
   rw[List.mem_singleton.1 hx];exact h _ (by omega)
theorem dec_dig: ∀v,Lib.decDigits v=digB dgl 10 v:=by
 intro v
 induction v using Nat.strongRecOn with
 |ind v ih=>
  by_cases h:v<10
  ·rw[Lib.decDigits,dif_pos h,digB_end _ h,dg_10 _ h]
  ·rw[Lib.decDigits,dif_neg h,digB_step _ (by omega) (by omega),ih _ (by omega),dg_10 _ (by omega)]
def fmtF(n:Int)(b:Nat):List UInt8:=if n<0 then 45::digB dgl b n.natAbs else digB dgl b n.natAbs
def txtF(n:Int)(b:Nat):List UInt8:=if n<0 then 45::digB dgu b n.natAbs else digB dgu b n.natAbs
theorem itoa_fmt(n:Int):Lib.itoa n=fmtF n 10:=by
 unfold Lib.itoa fmtF
 split
 ·rw[dec_dig]
 ·rw[dec_dig,show n.toNat=n.natAbs by omega]
theorem fmt_up(n:Int){b:Nat}(h:2≤b∧b≤16):Lib.toUpperA (fmtF n b)=txtF n b:=by
 have e:(digB dgl b n.natAbs).map Lib.upperB=digB dgu b n.natAbs:=by
  rw[digB_map _ id _ _ h.1]
  exact digB_congr _ _ h.1 (fun k hk=>dg_up k (by omega)) _
 unfold Lib.toUpperA fmtF txtF
 split
 ·rw[List.map_cons,e];rfl
 ·exact e
theorem fmt_len(n:Int){b:Nat}(h:2≤b)(hn:cell n=true):(fmtF n b).length≤34:=by
 have hq: -2147483648≤n∧n≤2147483647:=inR_t hn
 have:=digB_len dgl h 33 n.natAbs (by omega) (by omega)
 unfold fmtF
 split
 ·simp only[List.length_cons];omega
 ·omega
theorem txt_len(n:Int){b:Nat}(h:2≤b)(hn:cell n=true):(txtF n b).length≤34:=by
 have hq: -2147483648≤n∧n≤2147483647:=inR_t hn
 have:=digB_len dgu h 33 n.natAbs (by omega) (by omega)
 unfold txtF
 split
 ·simp only[List.length_cons];omega
 ·omega
theorem fmt_ascii(n:Int){b:Nat}(h:2≤b∧b≤16): ∀x∈fmtF n b,x.toNat<128:=by
 have:=digB_all (fun x=>x.toNat<128) dgl h.1 (fun k hk=>dg_lt k (by omega)) n.natAbs
 unfold fmtF
 split
 ·intro x hx
  rcases List.mem_cons.1 hx with rfl|hx
  ·decide
  ·exact this x hx
 ·exact this
theorem c127(k b:Nat)(hb:b=2 ^ k)(hk:1≤k∧k≤4):Con Tryz.prog 127 [.int .u64 (IntKind.u64.wrap (b:Int))] (undefs [.int .u64 (IntKind.u64.wrap (b:Int))]) (.int .i64 k):=by
 have hk4:k=1∨k=2∨k=3∨k=4:=by omega
 have hb16:b≤16:=by subst hb;rcases hk4 with rfl|rfl|rfl|rfl<;>decide
 have wb:IntKind.u64.wrap (b:Int)=b:=wrapu (by omega) (by omega)
 have hc:Lib.ctz 64 b=k:=by subst hb;rcases hk4 with rfl|rfl|rfl|rfl<;>decide
 rw[wb]
 refine Con.scalB ⟨_,Tryz.func127,rfl,rfl⟩ (fun w vals hp tb=> ?_) fun w R O vals hp=> ?_
 ·obtain⟨hl,os,h4,_⟩:=uni_of_parts _ _ _ hp
  match vals,hl with
  |[v],_=>
   have hv:=h4 0 _ v rfl rfl
   cases hv with
   |sc hv _=>
    obtain⟨rfl,hf⟩:=hv
    have ht:TabAt (T1.lays27_ren.g 1) Lib.deBruijn64tab w:=by
     intro j hj
     obtain⟨⟨e,fz,h1⟩,_⟩:=tb ("math/bits.deBruijn64tab",(Lib.deBruijn64tab.map fun z:Nat=>Value.int .u8 z).toArray) (by simp[tabL]) (T1.lays27_ren.g 1) (by kernel_rfl)
     simp[World.cell?,h1,hj]
    refine(Any7.bits_TrailingZeros T1.lays27 b (by omega) w fun _=>ht).mono ?_
    rintro e w' ⟨rfl,rfl⟩
    rw[hc]
    exact⟨_,rfl,⟨rfl,by simp[fitsK];omega⟩,Below.refl _ _⟩
 ·exact parts_flat _ _ _ rfl hp
theorem c98(s:List UInt8)(hs:s.length≤1000)(ha: ∀x∈s,x.toNat<128):Con Tryz.prog 98 [.str s] (undefs [.str s]) (.str (Lib.toUpperA s)):=by
 refine Con.scalB ⟨_,Tryz.func98,rfl,rfl⟩ (fun w vals hp tb=> ?_) fun w R O vals hp=> ?_
 ·obtain⟨hl,os,h4,_⟩:=uni_of_parts _ _ _ hp
  match vals,hl with
  |[v],_=>
   have hv:=h4 0 _ v rfl rfl
   cases hv with
   |sc hv _=>
    obtain⟨rfl,hf⟩:=hv
    refine(Any.strings_ToUpper_ascii T1.lays158 T1.extra ⟨s.toArray⟩ w (by show s.toArray.size≤_;simp;omega) (fun j x hx=>ha x (List.mem_of_getElem? (by simpa using hx)))).mono ?_
    rintro e w' ⟨rfl,hw⟩
    exact⟨_,rfl,⟨rfl,by simp[Lib.toUpperA,maxLn];omega⟩,hw⟩
 ·exact parts_flat _ _ _ rfl hp
end T1

/- Numbers in text: strconv.FormatInt, cells in text of both sides; contracts. -/
open Go Go.Abs Go.Proofs V1 H1 F1 F2 T1
namespace T2
theorem pw_of{b:Nat}(hp:isP b=true): ∃k,b=2 ^ k∧1≤k∧k≤4:=by
 have:b=2∨b=4∨b=8∨b=16:=by simpa[isP,or_assoc]using hp
 rcases this with rfl|rfl|rfl|rfl
 ·exact⟨1,rfl,by omega,by omega⟩
 ·exact⟨2,rfl,by omega,by omega⟩
 ·exact⟨3,rfl,by omega,by omega⟩
 ·exact⟨4,rfl,by omega,by omega⟩
theorem kb(n:Int)(b:Nat)(hn:cell n=true)(hb:2≤b∧b≤16∧b≠10):Con Tryz.prog 117 [.emp,.int .u64 (IntKind.u64.wrap n),.int .i64 b,.bool (decide (n<0)),.bool false] (undefs [.emp,.int .u64 (IntKind.u64.wrap n),.int .i64 b,.bool (decide (n<0)),.bool false]) (.tup [.emp,.str (fmtF n b)]):=by
 have hq: -2147483648≤n∧n≤2147483647:=inR_t hn
 have hv:n.natAbs<2 ^ 33:=by omega
 by_cases h0:n<0
 ·rw[decide_eq_true h0,fmtF,if_pos h0]
  have e: -((n.natAbs:Nat):Int)=n:=by omega
  cases hp:isP b with
  |true=>
   obtain⟨k,h1,h2⟩:=pw_of hp
   have:=fbPn k b h1 h2 (c127 k b h1 h2) n.natAbs hv (by omega)
   rw[e]at this;exact this
  |false=>
   have:=fbGn b hb hp n.natAbs hv (by omega)
   rw[e]at this;exact this
 ·rw[decide_eq_false h0,fmtF,if_neg h0]
  have e:IntKind.u64.wrap n=((n.natAbs:Nat):Int):=by rw[wrapu (by omega) (by omega)];omega
  rw[e]
  cases hp:isP b with
  |true=>
   obtain⟨k,h1,h2⟩:=pw_of hp
   exact fbP k b h1 h2 (c127 k b h1 h2) n.natAbs hv
  |false=>exact fbG b hb hp n.natAbs hv
theorem fiN(n:Int)(b:Nat)(hn:cell n=true)(hb:2≤b∧b≤16∧b≠10):Con Tryz.prog 106 [.int .i64 n,.int .i64 b] (undefs [.int .i64 n,.int .i64 b]) (.str (fmtF n b)):=by
 have g1:((b:Int)==10)=false:=by simp;omega
 refine Con.ev 54 T_ok mix Tryz.func106 rfl rfl rfl rfl [.tmp 4] rfl ?_
 conv=>whnf
 (iterate 10 ((first|apply rq_s rfl|refine fac_s (fun hf=> ?_)|refine br_f (by assumption) ?_|apply lend_s|refine call_s (kb n b hn hb ..) ?_);conv=>whnf));(refine sh_s ?_;(rfl))
theorem c99(n:Int)(b:Nat)(hn:cell n=true)(hb:2≤b∧b≤16):Con Tryz.prog 99 [.int .i64 n,.int .i64 b] (undefs [.int .i64 n,.int .i64 b]) (.str (fmtF n b)):=by
 by_cases h10:b=10
 rotate_left
 ·refine Con.ev 8 T_ok mix Tryz.func99 rfl rfl rfl rfl [.tmp 4] rfl ?_
  conv=>whnf
  (iterate 6 ((first|apply rq_s rfl|refine fac_s (fun hf=> ?_)|apply lend_s|refine call_s (fiN n b hn ⟨hb.1,hb.2,h10⟩ ..) ?_);conv=>whnf));(refine sh_s ?_;(rfl))
 subst h10
 have hq: -2147483648≤n∧n≤2147483647:=inR_t hn
 rw[←itoa_fmt]
 refine Con.scal ⟨_,Tryz.func99,rfl,rfl⟩ (fun w vals hp tb=> ?_) fun w R O vals hp=> ?_
 ·obtain⟨hl,os,h4,_⟩:=uni_of_parts _ _ _ hp
  match vals,hl with
  |[v,u],_=>
   have hv:=h4 0 _ v rfl rfl
   have hu:=h4 1 _ u rfl rfl
   cases hv with
   |sc hv _=>
    cases hu with
    |sc hu _=>
     obtain⟨rfl,hf⟩:=hv
     obtain⟨rfl,_⟩:=hu
     refine(Any.strconv_FormatInt_10 T1.lays173 n (by omega) (by omega) w (tb.is (g:=1) (by simp[tabL]) (by kernel_rfl))).mono ?_
     rintro e w' ⟨rfl,k,os,rfl⟩
     exact⟨_,rfl,⟨rfl,Nat.le_trans (Lib.itoa_length_le n (by omega) (by omega)) (by simp[maxLn])⟩,k,os,rfl⟩
 ·exact parts_flat _ _ _ rfl hp
end T2

/- Cells in text, by the program and by the reference; contracts. -/
open Go Go.Abs Go.Proofs V1 H1 F1 F2 T1 T2
namespace T3
theorem c95(n:Int)(b:Nat)(hn:cell n=true)(hb:2≤b∧b≤16):Con Tryz.prog 95 [.int .i64 n,.int .i64 b] (undefs [.int .i64 n,.int .i64 b]) (.tup [.str (txtF n b),.int .i64 0]):=by
 have k1:=c74 n
 have k2:=c48 b
 have hb2:inR (b:Int) 2 16=true:=by simp[inR];omega
 rw[hn]at k1
 rw[hb2]at k2
 have k3:=c99 n b hn hb
 have k4:=c98 (fmtF n b) (by have:=fmt_len n hb.1 hn;omega) (fmt_ascii n hb)
 rw[fmt_up n hb]at k4
 refine Con.ev 18 T_ok mix Tryz.func95 rfl rfl rfl rfl [.tmp 4,.tmp 5] rfl ?_
 conv=>whnf
 (iterate 21 ((first|apply rq_s rfl|refine fac_s (fun hf=> ?_)|apply br_f rfl|apply lend_s|refine call_s (k1 ..) ?_|refine call_s (k2 ..) ?_|refine call_s (k3 ..) ?_|refine call_s (k4 ..) ?_);conv=>whnf));(refine sh_s ?_;(rfl))
 all_goals skip
theorem txt1: ∀k,k<16→[UInt8.ofNat ((upp.getD k 0).toNat:Int).toNat]=[dgu k]:=by decide
theorem tx(b:Nat)(hb:2≤b∧b≤16): ∀v:Nat,v<2 ^ 33→Con Tryz.prog 85 [.int .i64 v,.int .i64 b] (undefs [.int .i64 v,.int .i64 b]) (.str (digB dgu b v)):=by
 intro v
 induction v using Nat.strongRecOn with
 |ind v ih=>
  intro hv
  have hm:v%b<b:=Nat.mod_lt _ (by omega)
  have e1:((v:Int).tmod (b:Int)).toNat=v%b:=by
   rw[show(v:Int).tmod (b:Int)=((v%b:Nat):Int)from rfl];rfl
  have g0:decide ((v:Int)<0)=false:=decide_eq_false (by omega)
  by_cases hs:b≤v
  ·have g1:decide ((v:Int)≥(b:Int))=true:=decide_eq_true (by omega)
   have e2:IntKind.i64.wrap ((v:Int).tdiv (b:Int))=((v/b:Nat):Int):=by
    rw[show(v:Int).tdiv (b:Int)=((v/b:Nat):Int)from rfl]
    have hq:=Nat.div_le_self v b
    generalize v/b=q at hq
    exact wrap64 (by omega) (by omega)
   have k1:=ih (v/b) (Nat.div_lt_self (by omega) (by omega)) (by have:=Nat.div_le_self v b;omega)
   rw[←e2]at k1
   have hl:=digB_len dgu hb.1 33 (v/b) (by have:=Nat.div_le_self v b;omega) (by omega)
   refine Con.ev 30 T_ok mix Tryz.func85 rfl rfl rfl rfl [.tmp 4] rfl ?_
   conv=>whnf
   iterate 17 ((first|refine rq_s (by solve|simp only[lnm]|fail) ?_|apply rq_s rfl|refine rq_s (by((simp;omega))) ?_|refine rq_s (by(((simp[maxStr];omega)))) ?_|refine byt_s rfl ?_|refine fac_s (fun hf=> ?_)|apply br_f rfl|refine br_t (by solve|simp only[g0,g1,if_true,if_false,Bool.false_eq_true,Bool.not_true,reduceIte]|fail) ?_|apply lend_s|refine call_s (k1 ..) ?_);conv=>whnf)
   rotate_left
   refine sh_s (congrArg AV.str ?_)
   show digB dgu b (v/b)++[UInt8.ofNat ((upp.getD ((v:Int).tmod (b:Int)).toNat 0).toNat:Int).toNat]=_
   rw[e1,txt1 _ (by omega),←digB_step _ hs hb.1]
  ·have g1:decide ((v:Int)≥(b:Int))=false:=decide_eq_false (by omega)
   refine Con.ev 30 T_ok mix Tryz.func85 rfl rfl rfl rfl [.tmp 4] rfl ?_
   conv=>whnf
   iterate 10 ((first|refine rq_s (by solve|simp only[lnm]|fail) ?_|apply rq_s rfl|refine rq_s (by((simp;omega))) ?_|refine byt_s rfl ?_|apply br_f rfl|refine br_f (by solve|simp only[g0,g1,if_true,if_false,Bool.false_eq_true,Bool.not_true,reduceIte]|fail) ?_);conv=>whnf)
   rotate_left
   refine sh_s (congrArg AV.str ?_)
   show[UInt8.ofNat ((upp.getD ((v:Int).tmod (b:Int)).toNat 0).toNat:Int).toNat]=_
   rw[e1,txt1 _ (by omega),digB_end _ (by omega),Nat.mod_eq_of_lt (by omega)]
theorem c85(n:Int)(b:Nat)(hn:cell n=true)(hb:2≤b∧b≤16):Con Tryz.prog 85 [.int .i64 n,.int .i64 b] (undefs [.int .i64 n,.int .i64 b]) (.str (txtF n b)):=by
 have hq: -2147483648≤n∧n≤2147483647:=inR_t hn
 have k1:=tx b hb n.natAbs (by omega)
 by_cases h0:n<0
 ·have g0:decide (n<0)=true:=decide_eq_true h0
  have e:((n.natAbs:Nat):Int)=IntKind.i64.wrap (0-n):=by rw[wrap64 (by omega) (by omega)];omega
  have hl:=digB_len dgu hb.1 33 n.natAbs (by omega) (by omega)
  rw[e]at k1
  rw[txtF,if_pos h0]
  refine Con.ev 30 T_ok mix Tryz.func85 rfl rfl rfl rfl [.tmp 4] rfl ?_
  conv=>whnf
  (iterate 8 ((first|apply rq_s rfl|refine rq_s (by(((simp[maxStr];omega)))) ?_|refine fac_s (fun hf=> ?_)|refine br_t (by assumption) ?_|apply lend_s|refine call_s (k1 ..) ?_);conv=>whnf));(refine sh_s ?_;(rfl))
 ·rw[txtF,if_neg h0]
  have e:((n.natAbs:Nat):Int)=n:=by omega
  rw[e]at k1
  exact k1
end T3

/- Sums of cells, by the program and by the reference; contracts. -/
open Go Go.Abs Go.Proofs V1 H1 F1 F2 T1 T2 T3
namespace P1
theorem c75(n:Int):Con Tryz.prog 75 [.int .i64 n] (undefs [.int .i64 n]) (.int .i64 (wc n)):=by
 rw[←wc_u n]
 refine Con.ev 8 T_ok mix Tryz.func75 rfl rfl rfl rfl [.tmp 2] rfl ?_
 conv=>whnf
 (apply rq_s rfl;conv=>whnf);(refine sh_s ?_;(rfl))
theorem c89(b:Bool):Con Tryz.prog 89 [.bool b] (undefs [.bool b]) (.int .i64 (flagF b)):=by
 cases b<;>
 ·refine Con.ev 4 T_ok mix Tryz.func89 rfl rfl rfl rfl [.tmp 2] rfl ?_
  conv=>whnf
  first
   |((apply br_f rfl;conv=>whnf)
     (apply rq_s rfl;conv=>whnf)
     (refine sh_s ?_;(rfl)))
   |((apply br_t rfl;conv=>whnf)
     (apply rq_s rfl;conv=>whnf)
     (refine sh_s ?_;(rfl)))
theorem c80(b:Bool):Con Tryz.prog 80 [.bool b] (undefs [.bool b]) (.int .i64 (flagF b)):=by
 cases b<;>
 ·refine Con.ev 4 T_ok mix Tryz.func80 rfl rfl rfl rfl [.tmp 2] rfl ?_
  conv=>whnf
  first
   |((apply br_f rfl;conv=>whnf)
     (apply rq_s rfl;conv=>whnf)
     (refine sh_s ?_;(rfl)))
   |((apply br_t rfl;conv=>whnf)
     (apply rq_s rfl;conv=>whnf)
     (refine sh_s ?_;(rfl)))
theorem c88(n:Int):Con Tryz.prog 88 [.int .i64 n] (undefs [.int .i64 n]) (.int .i64 (unsI n)):=by
 refine Con.ev 7 T_ok mix Tryz.func88 rfl rfl rfl rfl [.tmp 2] rfl ?_
 conv=>whnf
 (apply rq_s rfl;conv=>whnf);(refine sh_s ?_;(rfl))
theorem c81(n:Int):Con Tryz.prog 81 [.int .i64 n] (undefs [.int .i64 n]) (.int .i64 (unsI n)):=by
 refine Con.ev 7 T_ok mix Tryz.func81 rfl rfl rfl rfl [.tmp 2] rfl ?_
 conv=>whnf
 (apply rq_s rfl;conv=>whnf);(refine sh_s ?_;(rfl))
def P52(p:Nat):Prop:=1≤p∧p≤52
theorem c45(p:Nat)(h:P52 p):Con Tryz.prog 45 [.int .i64 p] (undefs [.int .i64 p]) (.int .i64 (takesN p)):=by
 have e: ∀i:Fin 52,IntKind.i64.wrap (IntKind.u8.wrap ((([49,49,50,50,51,50,50,49,50,50,48,49,48,48,50,50,50,50,50,50,50,50,50,50,49,49,49,49,49,50,50,50,50,50,50,50,49,49,49,50,50,48,49,49,49,49,48,48,48,48,48,48]:List UInt8).getD i.1 0).toNat-48:Int))=((takesN (i.1+1):Nat):Int):=by decide
 have w:IntKind.i64.wrap ((p:Int)-1)=((p-1:Nat):Int):=by unfold P52 at h;rw[wrap64 (by omega) (by omega)];omega
 refine Con.ev 8 T_ok mix Tryz.func45 rfl rfl rfl rfl [.tmp 2] rfl ?_
 conv=>whnf
 iterate 3 ((first|apply rq_s rfl|refine rq_s (by simp only[Bool.and_eq_true,decide_eq_true_eq,List.length_map];omega) ?_|refine rq_s (by(((rw[w];exact decide_eq_true (show p-1<52 by unfold P52 at h;omega))))) ?_);conv=>whnf)
 rotate_left
 refine sh_s (congrArg (AV.int .i64) ?_)
 rw[w]
 have:=e ⟨p-1,by unfold P52 at h;omega⟩
 rw[show(⟨p-1,by unfold P52 at h;omega⟩:Fin 52).1+1=p by unfold P52 at h;show p-1+1=p;omega]at this
 exact this
theorem all52{p:Nat}(h:P52 p):p=1∨p=2∨p=3∨p=4∨p=5∨p=6∨p=7∨p=8∨p=9∨p=10∨p=11∨p=12∨p=13∨p=14∨p=15∨p=16∨p=17∨p=18∨p=19∨p=20∨p=21∨p=22∨p=23∨p=24∨p=25∨p=26∨p=27∨p=28∨p=29∨p=30∨p=31∨p=32∨p=33∨p=34∨p=35∨p=36∨p=37∨p=38∨p=39∨p=40∨p=41∨p=42∨p=43∨p=44∨p=45∨p=46∨p=47∨p=48∨p=49∨p=50∨p=51∨p=52:=by
 unfold P52 at h;omega
theorem c53(p:Nat)(h:P52 p):Con Tryz.prog 53 [.int .i64 p] (undefs [.int .i64 p]) (.int .i64 (takesN p)):=by
 rcases all52 h with rfl|rfl|rfl|rfl|rfl|rfl|rfl|rfl|rfl|rfl|rfl|rfl|rfl|rfl|rfl|rfl|rfl|rfl|rfl|rfl|rfl|rfl|rfl|rfl|rfl|rfl|rfl|rfl|rfl|rfl|rfl|rfl|rfl|rfl|rfl|rfl|rfl|rfl|rfl|rfl|rfl|rfl|rfl|rfl|rfl|rfl|rfl|rfl|rfl|rfl|rfl|rfl
 all_goals
  refine Con.ev 8 T_ok mix Tryz.func53 rfl rfl rfl rfl [.tmp 2] rfl ?_
  conv=>whnf
  (iterate 6 ((first|refine rq_s (by solve|simp only[lnm]|fail) ?_|apply rq_s rfl|refine row_s (by(rfl)) ?_);conv=>whnf));(refine sh_s ?_;(rfl))
theorem c59(p:Nat)(h:P52 p):Con Tryz.prog 59 [.int .i64 p] (undefs [.int .i64 p]) (.int .i64 (backN p)):=by
 refine Con.ev 10 T_ok mix Tryz.func59 rfl rfl rfl rfl [.tmp 2] rfl ?_
 conv=>whnf
 iterate 3 (first|(apply rq_s rfl;conv=>whnf)|(apply br_t rfl;conv=>whnf)|(refine br_s ?_ ?_<;>intro hb<;>(try simp only[cln]at hb)<;>conv=>whnf))
 rotate_left
 iterate 3 (first|(apply rq_s rfl;conv=>whnf)|(apply br_t rfl;conv=>whnf)|(refine br_s ?_ ?_<;>intro hb<;>(try simp only[cln]at hb)<;>conv=>whnf))
 rotate_left
 (refine br_s ?_ ?_<;>intro hb<;>(try simp only[cln]at hb)<;>conv=>whnf);(apply rq_s rfl;conv=>whnf)
 rotate_left
 (refine br_s ?_ ?_<;>intro hb<;>(try simp only[cln]at hb)<;>conv=>whnf);(apply rq_s rfl;conv=>whnf)
 rotate_left
 (apply rq_s rfl;conv=>whnf)
 rotate_left
 ·obtain rfl:p=13:=by omega
  exact sh_s rfl
 ·obtain rfl:p=14:=by omega
  exact sh_s rfl
 ·obtain rfl:p=51:=by omega
  exact sh_s rfl
 ·obtain rfl:p=52:=by omega
  exact sh_s rfl
 ·refine sh_s (congrArg (AV.int .i64) ?_)
  unfold backN
  split<;>first|rfl|(exfalso;omega)
theorem c97(a b:Int)(ha:cell a=true)(hb:cell b=true)(h0:b≠0):Con Tryz.prog 97 [.int .i64 a,.int .i64 b] (undefs [.int .i64 a,.int .i64 b]) (.int .i64 (floorQ a b)):=by
 have qa: -2147483648≤a∧a≤2147483647:=inR_t ha
 have qb: -2147483648≤b∧b≤2147483647:=inR_t hb
 have hq:=tdiv_le a b
 have wq:IntKind.i64.wrap (a.tdiv b)=a.tdiv b:=wrap64 (by omega) (by omega)
 have wq1:IntKind.i64.wrap (a.tdiv b-1)=a.tdiv b-1:=wrap64 (by omega) (by omega)
 refine Con.ev 23 T_ok mix Tryz.func97 rfl rfl rfl rfl [.tmp 4] rfl ?_
 conv=>whnf
 iterate 9 (first|(apply rq_s rfl;conv=>whnf)|(refine rq_s (by((simp;omega))) ?_;conv=>whnf)|(apply br_t rfl;conv=>whnf)|(refine br_s ?_ ?_<;>intro hb<;>(try simp only[cln]at hb)<;>conv=>whnf))
 rotate_left
 (apply rq_s rfl;conv=>whnf)
 rotate_left
 iterate 7 ((first|apply rq_s rfl|apply br_f rfl);conv=>whnf)
 rotate_left
 ·exact sh_s (by rw[wq,wq1,floorQ,if_pos ⟨by assumption,fun e=>hb (by simp[e])⟩])
 ·exact sh_s (by rw[wq,floorQ,if_neg fun k=>k.2 (propext (decide_eq_decide.1 hb))])
 ·exact sh_s (by rw[wq,floorQ,if_neg fun k=>k.1 hb])
end P1

/- Two cells into one, by the program and by the reference; contracts. -/
open Go Go.Abs Go.Proofs V1 H1 F1 F2 T1 T2 T3 P1
namespace P2
theorem mul_b{a b:Int}(qa: -2147483648≤a∧a≤2147483647)(qb: -2147483648≤b∧b≤2147483647): -4611686018427387904≤a*b∧a*b≤4611686018427387904:=by
 have h1:(a*b).natAbs≤2147483648*2147483648:=by rw[Int.natAbs_mul];exact Nat.mul_le_mul (by omega) (by omega)
 omega
theorem tmod_le(a b:Int):(a.tmod b).natAbs≤a.natAbs:=by rw[Int.natAbs_tmod];exact Nat.mod_le _ _
theorem tv4{a b:Int}(h: ¬b=0):twoV 4 a b=(wc (floorQ a b),true):=by simp[twoV,twoF,h]
theorem tv5{a b:Int}(h: ¬b=0):twoV 5 a b=(a-floorQ a b*b,true):=by simp[twoV,twoF,h]
theorem tv0{a b:Int}(h:b=0):twoV 4 a b=(0,false)∧twoV 5 a b=(0,false):=by simp[twoV,twoF,h]
theorem tv9{a b:Int}(h:inR b 0 31=true):twoV 9 a b=(wc (a*2 ^ b.toNat),true):=by simp[twoV,twoF,h]
theorem tv10{a b:Int}(h:inR b 0 31=true):twoV 10 a b=(wc ((unsI a).fdiv (2 ^ b.toNat)),true):=by simp[twoV,twoF,h]
theorem tvf{a b:Int}(h:inR b 0 31=false):twoV 9 a b=(0,true)∧twoV 10 a b=(0,true):=by simp[twoV,twoF,h]
theorem fl_c{a b:Int}(h: ¬a.tmod b=0)(hb: ¬decide (a.tmod b<0)=decide (b<0)):a.tmod b≠0∧((a<0)≠(b<0)):=⟨h,by rw[←floor_i h];exact fun e=>hb (by simp[e])⟩
theorem fl_n{a b:Int}(h: ¬a.tmod b=0)(hb:decide (a.tmod b<0)=decide (b<0)): ¬(a.tmod b≠0∧((a<0)≠(b<0))):=by
 rintro ⟨_,k⟩
 rw[←floor_i h]at k
 exact k (propext (decide_eq_decide.1 hb))
theorem fl_0{a b:Int}(h:a.tmod b=0): ¬(a.tmod b≠0∧((a<0)≠(b<0))):=fun k=>k.1 h
theorem uns_e(a:Int):unsI a=IntKind.u32.wrap (IntKind.i32.wrap a):=by
 have:0≤IntKind.u32.wrap (IntKind.i32.wrap a)∧IntKind.u32.wrap (IntKind.i32.wrap a)<4294967296:=by rw[u32_e];omega
 exact wrap64 (by omega) (by omega)
theorem i2_1(a b:Int)(ha:cell a=true)(hb0:cell b=true):Con Tryz.prog 60 [.int .i64 1,.int .i64 a,.int .i64 b] (undefs [.int .i64 1,.int .i64 a,.int .i64 b]) (.tup [.int .i64 (twoV 1 a b).1,.bool (twoV 1 a b).2]):=by
 have qa: -2147483648≤a∧a≤2147483647:=inR_t ha
 have qb: -2147483648≤b∧b≤2147483647:=inR_t hb0
 have qm:=mul_b qa qb
 have w:IntKind.i64.wrap (a+b)=a+b:=wrap64 (by omega) (by omega)
 refine Con.ev 88 T_ok mix Tryz.func60 rfl rfl rfl rfl [.tmp 6,.tmp 7] rfl ?_
 conv=>whnf
 (iterate 7 ((first|apply rq_s rfl|refine fac_s (fun hf=> ?_)|apply br_t rfl|apply lend_s|refine call_s (c87 ..) ?_);conv=>whnf));(refine sh_s ?_;((rw[w];rfl)))
theorem i2_2(a b:Int)(ha:cell a=true)(hb0:cell b=true):Con Tryz.prog 60 [.int .i64 2,.int .i64 a,.int .i64 b] (undefs [.int .i64 2,.int .i64 a,.int .i64 b]) (.tup [.int .i64 (twoV 2 a b).1,.bool (twoV 2 a b).2]):=by
 have qa: -2147483648≤a∧a≤2147483647:=inR_t ha
 have qb: -2147483648≤b∧b≤2147483647:=inR_t hb0
 have qm:=mul_b qa qb
 have w:IntKind.i64.wrap (a-b)=a-b:=wrap64 (by omega) (by omega)
 refine Con.ev 88 T_ok mix Tryz.func60 rfl rfl rfl rfl [.tmp 6,.tmp 7] rfl ?_
 conv=>whnf
 (iterate 8 ((first|apply rq_s rfl|refine fac_s (fun hf=> ?_)|apply br_t rfl|apply br_f rfl|apply lend_s|refine call_s (c87 ..) ?_);conv=>whnf));(refine sh_s ?_;((rw[w];rfl)))
theorem i2_3(a b:Int)(ha:cell a=true)(hb0:cell b=true):Con Tryz.prog 60 [.int .i64 3,.int .i64 a,.int .i64 b] (undefs [.int .i64 3,.int .i64 a,.int .i64 b]) (.tup [.int .i64 (twoV 3 a b).1,.bool (twoV 3 a b).2]):=by
 have qa: -2147483648≤a∧a≤2147483647:=inR_t ha
 have qb: -2147483648≤b∧b≤2147483647:=inR_t hb0
 have qm:=mul_b qa qb
 have w:IntKind.i64.wrap (a*b)=a*b:=wrap64 (by omega) (by omega)
 refine Con.ev 88 T_ok mix Tryz.func60 rfl rfl rfl rfl [.tmp 6,.tmp 7] rfl ?_
 conv=>whnf
 (iterate 9 ((first|apply rq_s rfl|refine fac_s (fun hf=> ?_)|apply br_t rfl|apply br_f rfl|apply lend_s|refine call_s (c87 ..) ?_);conv=>whnf));(refine sh_s ?_;((rw[w];rfl)))
theorem i2_4(a b:Int)(ha:cell a=true)(hb0:cell b=true):Con Tryz.prog 60 [.int .i64 4,.int .i64 a,.int .i64 b] (undefs [.int .i64 4,.int .i64 a,.int .i64 b]) (.tup [.int .i64 (twoV 4 a b).1,.bool (twoV 4 a b).2]):=by
 have qa: -2147483648≤a∧a≤2147483647:=inR_t ha
 have qb: -2147483648≤b∧b≤2147483647:=inR_t hb0
 have qm:=mul_b qa qb
 have hq:=tdiv_le a b
 have hm:=tmod_le a b
 have wq:IntKind.i64.wrap (a.tdiv b)=a.tdiv b:=wrap64 (by omega) (by omega)
 have wq1:IntKind.i64.wrap (a.tdiv b-1)=a.tdiv b-1:=wrap64 (by omega) (by omega)
 have wm:IntKind.i64.wrap (a.tmod b+b)=a.tmod b+b:=wrap64 (by omega) (by omega)
 refine Con.ev 88 T_ok mix Tryz.func60 rfl rfl rfl rfl [.tmp 6,.tmp 7] rfl ?_
 conv=>whnf
 iterate 8 (first|(apply rq_s rfl;conv=>whnf)|(apply br_t rfl;conv=>whnf)|(apply br_f rfl;conv=>whnf)|(refine br_s ?_ ?_<;>intro hb<;>(try simp only[cln]at hb)<;>conv=>whnf))
 rotate_left
 iterate 24 (first|(apply rq_s rfl;conv=>whnf)|(refine rq_s (by((simp;omega))) ?_;conv=>whnf)|(refine fac_s (fun hf=> ?_);conv=>whnf)|(refine ChkS.mk (by kernel_rfl) ?_;conv=>whnf)|(apply br_t rfl;conv=>whnf)|(apply br_f rfl;conv=>whnf)|(refine br_s ?_ ?_<;>intro hb<;>(try simp only[cln]at hb)<;>conv=>whnf)|(apply lend_s;conv=>whnf)|(refine call_s (c87 ..) ?_;conv=>whnf))
 rotate_left
 iterate 7 ((first|apply rq_s rfl|refine fac_s (fun hf=> ?_)|apply br_f rfl|apply lend_s|refine call_s (c87 ..) ?_);conv=>whnf)
 rotate_left
 iterate 13 ((first|apply rq_s rfl|refine fac_s (fun hf=> ?_)|apply br_f rfl|apply lend_s|refine call_s (c87 ..) ?_);conv=>whnf)
 rotate_left
 ·exact sh_s (by rw[(tv0 hb).1])
 ·have hc:=fl_c (by assumption) hb
  exact sh_s (by rw[wq,wq1,tv4 (by assumption),floorQ,if_pos hc];rfl)
 ·have hc:=fl_n (by assumption) hb
  exact sh_s (by rw[wq,tv4 (by assumption),floorQ,if_neg hc];rfl)
 ·have hc:=fl_0 hb
  exact sh_s (by rw[wq,tv4 (by assumption),floorQ,if_neg hc];rfl)
theorem i2_5(a b:Int)(ha:cell a=true)(hb0:cell b=true):Con Tryz.prog 60 [.int .i64 5,.int .i64 a,.int .i64 b] (undefs [.int .i64 5,.int .i64 a,.int .i64 b]) (.tup [.int .i64 (twoV 5 a b).1,.bool (twoV 5 a b).2]):=by
 have qa: -2147483648≤a∧a≤2147483647:=inR_t ha
 have qb: -2147483648≤b∧b≤2147483647:=inR_t hb0
 have qm:=mul_b qa qb
 have hq:=tdiv_le a b
 have hm:=tmod_le a b
 have wq:IntKind.i64.wrap (a.tdiv b)=a.tdiv b:=wrap64 (by omega) (by omega)
 have wq1:IntKind.i64.wrap (a.tdiv b-1)=a.tdiv b-1:=wrap64 (by omega) (by omega)
 have wm:IntKind.i64.wrap (a.tmod b+b)=a.tmod b+b:=wrap64 (by omega) (by omega)
 refine Con.ev 88 T_ok mix Tryz.func60 rfl rfl rfl rfl [.tmp 6,.tmp 7] rfl ?_
 conv=>whnf
 iterate 8 (first|(apply rq_s rfl;conv=>whnf)|(apply br_t rfl;conv=>whnf)|(apply br_f rfl;conv=>whnf)|(refine br_s ?_ ?_<;>intro hb<;>(try simp only[cln]at hb)<;>conv=>whnf))
 rotate_left
 iterate 20 (first|(apply rq_s rfl;conv=>whnf)|(refine rq_s (by((simp;omega))) ?_;conv=>whnf)|(refine ChkS.mk (by kernel_rfl) ?_;conv=>whnf)|(apply br_t rfl;conv=>whnf)|(refine br_s ?_ ?_<;>intro hb<;>(try simp only[cln]at hb)<;>conv=>whnf))
 rotate_left
 iterate 3 ((first|apply rq_s rfl|apply br_t rfl);conv=>whnf)
 rotate_left
 iterate 9 ((first|apply rq_s rfl|apply br_t rfl|apply br_f rfl);conv=>whnf)
 rotate_left
 ·exact sh_s (by rw[(tv0 hb).2])
 ·have hc:=fl_c (by assumption) hb
  exact sh_s (by rw[wm,tv5 (by assumption),←floor_r hc])
 ·have hc:=fl_n (by assumption) hb
  exact sh_s (by rw[tv5 (by assumption),←floor_r0 hc])
 ·have hc:=fl_0 hb
  exact sh_s (by rw[tv5 (by assumption),←floor_r0 hc])
theorem i2_6(a b:Int)(ha:cell a=true)(hb0:cell b=true):Con Tryz.prog 60 [.int .i64 6,.int .i64 a,.int .i64 b] (undefs [.int .i64 6,.int .i64 a,.int .i64 b]) (.tup [.int .i64 (twoV 6 a b).1,.bool (twoV 6 a b).2]):=by
 have qa: -2147483648≤a∧a≤2147483647:=inR_t ha
 have qb: -2147483648≤b∧b≤2147483647:=inR_t hb0
 have qm:=mul_b qa qb
 refine Con.ev 88 T_ok mix Tryz.func60 rfl rfl rfl rfl [.tmp 6,.tmp 7] rfl ?_
 conv=>whnf
 (iterate 8 ((first|apply rq_s rfl|apply br_t rfl|apply br_f rfl);conv=>whnf));(refine sh_s ?_;(rfl))
theorem i2_7(a b:Int)(ha:cell a=true)(hb0:cell b=true):Con Tryz.prog 60 [.int .i64 7,.int .i64 a,.int .i64 b] (undefs [.int .i64 7,.int .i64 a,.int .i64 b]) (.tup [.int .i64 (twoV 7 a b).1,.bool (twoV 7 a b).2]):=by
 have qa: -2147483648≤a∧a≤2147483647:=inR_t ha
 have qb: -2147483648≤b∧b≤2147483647:=inR_t hb0
 have qm:=mul_b qa qb
 refine Con.ev 88 T_ok mix Tryz.func60 rfl rfl rfl rfl [.tmp 6,.tmp 7] rfl ?_
 conv=>whnf
 (iterate 9 ((first|apply rq_s rfl|apply br_t rfl|apply br_f rfl);conv=>whnf));(refine sh_s ?_;(rfl))
theorem i2_8(a b:Int)(ha:cell a=true)(hb0:cell b=true):Con Tryz.prog 60 [.int .i64 8,.int .i64 a,.int .i64 b] (undefs [.int .i64 8,.int .i64 a,.int .i64 b]) (.tup [.int .i64 (twoV 8 a b).1,.bool (twoV 8 a b).2]):=by
 have qa: -2147483648≤a∧a≤2147483647:=inR_t ha
 have qb: -2147483648≤b∧b≤2147483647:=inR_t hb0
 have qm:=mul_b qa qb
 refine Con.ev 88 T_ok mix Tryz.func60 rfl rfl rfl rfl [.tmp 6,.tmp 7] rfl ?_
 conv=>whnf
 (iterate 10 ((first|apply rq_s rfl|apply br_t rfl|apply br_f rfl);conv=>whnf));(refine sh_s ?_;(rfl))
theorem i2_9(a b:Int)(ha:cell a=true)(hb0:cell b=true):Con Tryz.prog 60 [.int .i64 9,.int .i64 a,.int .i64 b] (undefs [.int .i64 9,.int .i64 a,.int .i64 b]) (.tup [.int .i64 (twoV 9 a b).1,.bool (twoV 9 a b).2]):=by
 have qa: -2147483648≤a∧a≤2147483647:=inR_t ha
 have qb: -2147483648≤b∧b≤2147483647:=inR_t hb0
 have qm:=mul_b qa qb
 refine Con.ev 88 T_ok mix Tryz.func60 rfl rfl rfl rfl [.tmp 6,.tmp 7] rfl ?_
 conv=>whnf
 iterate 16 (first|(apply rq_s rfl;conv=>whnf)|(apply br_f rfl;conv=>whnf)|(refine br_s ?_ ?_<;>intro hb<;>(try simp only[cln]at hb)<;>conv=>whnf)|(apply lend_s;conv=>whnf)|(refine call_s (c33 ..) ?_;conv=>whnf))
 rotate_left
 iterate 8 ((first|apply rq_s rfl|refine rq_s (by(((have i1:=inR_t (show inR b 0 31=true by assumption);exact decide_eq_true (by omega))))) ?_|refine fac_s (fun hf=> ?_)|apply br_t rfl|apply lend_s|refine call_s (c87 ..) ?_);conv=>whnf)
 rotate_left
 ·exact sh_s (by rw[(tvf hb).1])
 ·have i1:=inR_t hb
  have e1:min b.toNat IntKind.i64.bits=b.toNat:=Nat.min_eq_left (show b.toNat≤64 by omega)
  exact sh_s (by rw[e1,tv9 hb];show AV.tup [.int .i64 (wc (IntKind.i64.wrap _)),_]=_;rw[wc_congr (i64_mod (a*2 ^ b.toNat))])
theorem i2_10(a b:Int)(ha:cell a=true)(hb0:cell b=true):Con Tryz.prog 60 [.int .i64 10,.int .i64 a,.int .i64 b] (undefs [.int .i64 10,.int .i64 a,.int .i64 b]) (.tup [.int .i64 (twoV 10 a b).1,.bool (twoV 10 a b).2]):=by
 have qa: -2147483648≤a∧a≤2147483647:=inR_t ha
 have qb: -2147483648≤b∧b≤2147483647:=inR_t hb0
 have qm:=mul_b qa qb
 refine Con.ev 88 T_ok mix Tryz.func60 rfl rfl rfl rfl [.tmp 6,.tmp 7] rfl ?_
 conv=>whnf
 iterate 16 (first|(apply rq_s rfl;conv=>whnf)|(apply br_f rfl;conv=>whnf)|(refine br_s ?_ ?_<;>intro hb<;>(try simp only[cln]at hb)<;>conv=>whnf)|(apply lend_s;conv=>whnf)|(refine call_s (c33 ..) ?_;conv=>whnf))
 rotate_left
 iterate 12 ((first|apply rq_s rfl|refine rq_s (by(((have i1:=inR_t (show inR b 0 31=true by assumption);exact decide_eq_true (by omega))))) ?_|refine fac_s (fun hf=> ?_)|apply br_f rfl|apply lend_s|refine call_s (c87 ..) ?_|refine call_s (c88 ..) ?_);conv=>whnf)
 rotate_left
 ·exact sh_s (by rw[(tvf hb).2])
 ·have i1:=inR_t hb
  have e1:min b.toNat IntKind.i64.bits=b.toNat:=Nat.min_eq_left (show b.toNat≤64 by omega)
  exact sh_s (by rw[e1,tv10 hb];rfl)
theorem s2_1(a b:Int)(ha:cell a=true)(hb0:cell b=true):Con Tryz.prog 79 [.int .i64 1,.int .i64 a,.int .i64 b] (undefs [.int .i64 1,.int .i64 a,.int .i64 b]) (.tup [.int .i64 (twoV 1 a b).1,.bool (twoV 1 a b).2]):=by
 have qa: -2147483648≤a∧a≤2147483647:=inR_t ha
 have qb: -2147483648≤b∧b≤2147483647:=inR_t hb0
 have qm:=mul_b qa qb
 have w:IntKind.i64.wrap (a+b)=a+b:=wrap64 (by omega) (by omega)
 refine Con.ev 84 T_ok mix Tryz.func79 rfl rfl rfl rfl [.tmp 6,.tmp 7] rfl ?_
 conv=>whnf
 (iterate 7 ((first|apply rq_s rfl|refine fac_s (fun hf=> ?_)|apply br_t rfl|apply lend_s|refine call_s (c75 ..) ?_);conv=>whnf));(refine sh_s ?_;((rw[w];rfl)))
theorem s2_2(a b:Int)(ha:cell a=true)(hb0:cell b=true):Con Tryz.prog 79 [.int .i64 2,.int .i64 a,.int .i64 b] (undefs [.int .i64 2,.int .i64 a,.int .i64 b]) (.tup [.int .i64 (twoV 2 a b).1,.bool (twoV 2 a b).2]):=by
 have qa: -2147483648≤a∧a≤2147483647:=inR_t ha
 have qb: -2147483648≤b∧b≤2147483647:=inR_t hb0
 have qm:=mul_b qa qb
 have w:IntKind.i64.wrap (a-b)=a-b:=wrap64 (by omega) (by omega)
 refine Con.ev 84 T_ok mix Tryz.func79 rfl rfl rfl rfl [.tmp 6,.tmp 7] rfl ?_
 conv=>whnf
 (iterate 8 ((first|apply rq_s rfl|refine fac_s (fun hf=> ?_)|apply br_t rfl|apply br_f rfl|apply lend_s|refine call_s (c75 ..) ?_);conv=>whnf));(refine sh_s ?_;((rw[w];rfl)))
theorem s2_3(a b:Int)(ha:cell a=true)(hb0:cell b=true):Con Tryz.prog 79 [.int .i64 3,.int .i64 a,.int .i64 b] (undefs [.int .i64 3,.int .i64 a,.int .i64 b]) (.tup [.int .i64 (twoV 3 a b).1,.bool (twoV 3 a b).2]):=by
 have qa: -2147483648≤a∧a≤2147483647:=inR_t ha
 have qb: -2147483648≤b∧b≤2147483647:=inR_t hb0
 have qm:=mul_b qa qb
 have w:IntKind.i64.wrap (a*b)=a*b:=wrap64 (by omega) (by omega)
 refine Con.ev 84 T_ok mix Tryz.func79 rfl rfl rfl rfl [.tmp 6,.tmp 7] rfl ?_
 conv=>whnf
 (iterate 9 ((first|apply rq_s rfl|refine fac_s (fun hf=> ?_)|apply br_t rfl|apply br_f rfl|apply lend_s|refine call_s (c75 ..) ?_);conv=>whnf));(refine sh_s ?_;((rw[w];rfl)))
theorem s2_4(a b:Int)(ha:cell a=true)(hb0:cell b=true):Con Tryz.prog 79 [.int .i64 4,.int .i64 a,.int .i64 b] (undefs [.int .i64 4,.int .i64 a,.int .i64 b]) (.tup [.int .i64 (twoV 4 a b).1,.bool (twoV 4 a b).2]):=by
 have qa: -2147483648≤a∧a≤2147483647:=inR_t ha
 have qb: -2147483648≤b∧b≤2147483647:=inR_t hb0
 have qm:=mul_b qa qb
 refine Con.ev 84 T_ok mix Tryz.func79 rfl rfl rfl rfl [.tmp 6,.tmp 7] rfl ?_
 conv=>whnf
 iterate 8 (first|(apply rq_s rfl;conv=>whnf)|(apply br_t rfl;conv=>whnf)|(apply br_f rfl;conv=>whnf)|(refine br_s ?_ ?_<;>intro hb<;>(try simp only[cln]at hb)<;>conv=>whnf))
 rotate_left
 iterate 12 ((first|apply rq_s rfl|refine fac_s (fun hf=> ?_)|apply br_t rfl|apply lend_s|refine call_s (c75 ..) ?_|refine call_s (c97 a b ha hb0 (by assumption) ..) ?_);conv=>whnf)
 rotate_left
 ·exact sh_s (by rw[(tv0 hb).1])
 ·exact sh_s (by rw[tv4 hb])
theorem s2_5(a b:Int)(ha:cell a=true)(hb0:cell b=true):Con Tryz.prog 79 [.int .i64 5,.int .i64 a,.int .i64 b] (undefs [.int .i64 5,.int .i64 a,.int .i64 b]) (.tup [.int .i64 (twoV 5 a b).1,.bool (twoV 5 a b).2]):=by
 have qa: -2147483648≤a∧a≤2147483647:=inR_t ha
 have qb: -2147483648≤b∧b≤2147483647:=inR_t hb0
 have qm:=mul_b qa qb
 refine Con.ev 84 T_ok mix Tryz.func79 rfl rfl rfl rfl [.tmp 6,.tmp 7] rfl ?_
 conv=>whnf
 iterate 8 (first|(apply rq_s rfl;conv=>whnf)|(apply br_t rfl;conv=>whnf)|(apply br_f rfl;conv=>whnf)|(refine br_s ?_ ?_<;>intro hb<;>(try simp only[cln]at hb)<;>conv=>whnf))
 rotate_left
 iterate 8 ((first|apply rq_s rfl|refine fac_s (fun hf=> ?_)|apply br_f rfl|apply lend_s|refine call_s (c97 a b ha hb0 (by assumption) ..) ?_);conv=>whnf)
 rotate_left
 ·exact sh_s (by rw[(tv0 hb).2])
 ·have e:a-floorQ a b*b=a.tmod b∨a-floorQ a b*b=a.tmod b+b:=by
   by_cases hc:a.tmod b≠0∧((a<0)≠(b<0))
   ·exact .inr (floor_r hc).symm
   ·exact .inl (floor_r0 hc).symm
  have hm:=tmod_le a b
  have w1:IntKind.i64.wrap (floorQ a b*b)=floorQ a b*b:=wrap64 (by omega) (by omega)
  have w2:IntKind.i64.wrap (a-floorQ a b*b)=a-floorQ a b*b:=wrap64 (by omega) (by omega)
  exact sh_s (by rw[w1,w2,tv5 hb])
theorem s2_6(a b:Int)(ha:cell a=true)(hb0:cell b=true):Con Tryz.prog 79 [.int .i64 6,.int .i64 a,.int .i64 b] (undefs [.int .i64 6,.int .i64 a,.int .i64 b]) (.tup [.int .i64 (twoV 6 a b).1,.bool (twoV 6 a b).2]):=by
 have qa: -2147483648≤a∧a≤2147483647:=inR_t ha
 have qb: -2147483648≤b∧b≤2147483647:=inR_t hb0
 have qm:=mul_b qa qb
 refine Con.ev 84 T_ok mix Tryz.func79 rfl rfl rfl rfl [.tmp 6,.tmp 7] rfl ?_
 conv=>whnf
 (iterate 8 ((first|apply rq_s rfl|apply br_t rfl|apply br_f rfl);conv=>whnf));(refine sh_s ?_;(rfl))
theorem s2_7(a b:Int)(ha:cell a=true)(hb0:cell b=true):Con Tryz.prog 79 [.int .i64 7,.int .i64 a,.int .i64 b] (undefs [.int .i64 7,.int .i64 a,.int .i64 b]) (.tup [.int .i64 (twoV 7 a b).1,.bool (twoV 7 a b).2]):=by
 have qa: -2147483648≤a∧a≤2147483647:=inR_t ha
 have qb: -2147483648≤b∧b≤2147483647:=inR_t hb0
 have qm:=mul_b qa qb
 refine Con.ev 84 T_ok mix Tryz.func79 rfl rfl rfl rfl [.tmp 6,.tmp 7] rfl ?_
 conv=>whnf
 (iterate 9 ((first|apply rq_s rfl|apply br_t rfl|apply br_f rfl);conv=>whnf));(refine sh_s ?_;(rfl))
theorem s2_8(a b:Int)(ha:cell a=true)(hb0:cell b=true):Con Tryz.prog 79 [.int .i64 8,.int .i64 a,.int .i64 b] (undefs [.int .i64 8,.int .i64 a,.int .i64 b]) (.tup [.int .i64 (twoV 8 a b).1,.bool (twoV 8 a b).2]):=by
 have qa: -2147483648≤a∧a≤2147483647:=inR_t ha
 have qb: -2147483648≤b∧b≤2147483647:=inR_t hb0
 have qm:=mul_b qa qb
 refine Con.ev 84 T_ok mix Tryz.func79 rfl rfl rfl rfl [.tmp 6,.tmp 7] rfl ?_
 conv=>whnf
 (iterate 10 ((first|apply rq_s rfl|apply br_t rfl|apply br_f rfl);conv=>whnf));(refine sh_s ?_;(rfl))
theorem s2_9(a b:Int)(ha:cell a=true)(hb0:cell b=true):Con Tryz.prog 79 [.int .i64 9,.int .i64 a,.int .i64 b] (undefs [.int .i64 9,.int .i64 a,.int .i64 b]) (.tup [.int .i64 (twoV 9 a b).1,.bool (twoV 9 a b).2]):=by
 have qa: -2147483648≤a∧a≤2147483647:=inR_t ha
 have qb: -2147483648≤b∧b≤2147483647:=inR_t hb0
 have qm:=mul_b qa qb
 refine Con.ev 84 T_ok mix Tryz.func79 rfl rfl rfl rfl [.tmp 6,.tmp 7] rfl ?_
 conv=>whnf
 iterate 17 (first|(apply rq_s rfl;conv=>whnf)|(apply br_t rfl;conv=>whnf)|(apply br_f rfl;conv=>whnf)|(refine br_s ?_ ?_<;>intro hb<;>(try simp only[cln]at hb)<;>conv=>whnf)|(apply lend_s;conv=>whnf)|(refine call_s (c30 ..) ?_;conv=>whnf))
 rotate_left
 iterate 3 ((first|apply rq_s rfl|refine rq_s (by(((have i1:=inR_t (show inR b 0 31=true by assumption);rw[wrapu (by omega) (by omega)];exact decide_eq_true (by omega))))) ?_);conv=>whnf)
 rotate_left
 ·exact sh_s (by rw[(tvf hb).1])
 ·have i1:=inR_t hb
  have e1:min (IntKind.u64.wrap b).toNat IntKind.u32.bits=b.toNat:=by rw[wrapu (by omega) (by omega)];exact Nat.min_eq_left (show b.toNat≤32 by omega)
  exact sh_s (by rw[e1,tv9 hb];show AV.tup [.int .i64 (wc (IntKind.u32.wrap (IntKind.u32.wrap (IntKind.i32.wrap a)*2 ^ b.toNat))),_]=_;rw[←shl_same,wc_congr (i64_mod (a*2 ^ b.toNat))])
theorem s2_10(a b:Int)(ha:cell a=true)(hb0:cell b=true):Con Tryz.prog 79 [.int .i64 10,.int .i64 a,.int .i64 b] (undefs [.int .i64 10,.int .i64 a,.int .i64 b]) (.tup [.int .i64 (twoV 10 a b).1,.bool (twoV 10 a b).2]):=by
 have qa: -2147483648≤a∧a≤2147483647:=inR_t ha
 have qb: -2147483648≤b∧b≤2147483647:=inR_t hb0
 have qm:=mul_b qa qb
 refine Con.ev 84 T_ok mix Tryz.func79 rfl rfl rfl rfl [.tmp 6,.tmp 7] rfl ?_
 conv=>whnf
 iterate 17 (first|(apply rq_s rfl;conv=>whnf)|(apply br_f rfl;conv=>whnf)|(refine br_s ?_ ?_<;>intro hb<;>(try simp only[cln]at hb)<;>conv=>whnf)|(apply lend_s;conv=>whnf)|(refine call_s (c30 ..) ?_;conv=>whnf))
 rotate_left
 iterate 3 ((first|apply rq_s rfl|refine rq_s (by(((have i1:=inR_t (show inR b 0 31=true by assumption);rw[wrapu (by omega) (by omega)];exact decide_eq_true (by omega))))) ?_);conv=>whnf)
 rotate_left
 ·exact sh_s (by rw[(tvf hb).2])
 ·have i1:=inR_t hb
  have e1:min (IntKind.u64.wrap b).toNat IntKind.u32.bits=b.toNat:=by rw[wrapu (by omega) (by omega)];exact Nat.min_eq_left (show b.toNat≤32 by omega)
  exact sh_s (by rw[e1,tv10 hb,uns_e];rfl)
end P2
