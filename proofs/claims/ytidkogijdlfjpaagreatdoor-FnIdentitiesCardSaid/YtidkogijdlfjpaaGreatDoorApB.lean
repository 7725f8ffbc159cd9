import Derived.Test.YtidkogijdlfjpaaGreatDoorApA
/- Prims' parts, by the program: pushes, cells, what is said; contracts. -/
set_option linter.unusedVariables false
set_option linter.unusedSimpArgs false
set_option maxRecDepth 100000
open Go Go.Abs Go.Proofs V1 H1 F1 F2 T1 T2 T3 P1 P2
namespace P3
theorem sh_eq{x y:AV}(h:x=y):Sh x y:=h▸Sh.refl x
def pushL(d:Dat)(l:List Int):Dat × Int:=if 32<d.st.length+l.length then(d,-3)else({d with st:=d.st++l},0)
theorem pushL_t{d:Dat}{l:List Int}(h:32<d.st.length+l.length):pushL d l=(d,-3):=by rw[pushL,if_pos h]
theorem pushL_f{d:Dat}{l:List Int}(h: ¬32<d.st.length+l.length):pushL d l=({d with st:=d.st++l},0):=by rw[pushL,if_neg h]
theorem c61(d:Dat)(l:List Int)(h:d.st.length≤32)(hl:l.length≤4):Con Tryz.prog 61 [.obj (datC d),roI l] [.obj (datC (pushL d l).1),.undef] (.int .i64 (pushL d l).2):=by
 have w1:IntKind.i64.wrap ((d.st.length:Int)+(l.length:Int))=((d.st.length+l.length:Nat):Int):=by rw[wrap64 (by omega) (by omega)];omega
 refine Con.evP 23 [500000] rfl T_ok mix Tryz.func61 rfl rfl rfl rfl [.tmp 4] rfl ?_
 conv=>whnf
 iterate 3 (first|(apply rq_s rfl;conv=>whnf)|(refine br_s ?_ ?_<;>intro hb<;>(try simp only[cln]at hb)<;>conv=>whnf))
 rotate_left
 iterate 8 ((first|refine rq_s (by solve|simp only[lms]|fail) ?_|apply rq_s rfl|refine rq_s (by(((simp[maxBytes,subA];omega)))) ?_|refine app0_s ?_);conv=>whnf)
 rotate_left
 ·rw[w1]at hb
  rw[pushL_t (by omega)]
  iterate 6 (first|(refine rows_s (sub_all (by solve|simp[lms]|fail)) ?_;conv=>whnf)|(refine aftp_s (by rfl) ?_;conv=>whnf)|(exact True.intro))
 ·rw[w1]at hb
  rw[pushL_f (by omega)]
  iterate 4 ((first|refine rows_s (sub_all (by solve|simp[lms]|fail)) ?_|apply rows_s rfl|refine aftp_s (by rfl) ?_);conv=>whnf)
  rotate_left
  refine aftps_s (Sh.agg ⟨Sh.trans (sh_eq ?_) (Sh.flat_map (f:=intR) (fun _=>rfl) (d.st++l)),Sh.refl _,Sh.refl _,Sh.refl _,Sh.refl _,Sh.refl _,trivial⟩) ?_
  ·simp[subA,List.take_of_length_le]
  ·conv=>whnf
   exact True.intro
theorem neg_w{c:Int}(qc: -2147483648≤c∧c≤2147483647):IntKind.i64.wrap (0-c)= -c:=by rw[wrap64 (by omega) (by omega)];omega
theorem comp25(b c:Int)(qb: -2147483648≤b∧b≤2147483647)(qc: -2147483648≤c∧c≤2147483647):Con Tryz.prog 63 [.int .i64 25,.int .i64 b,.int .i64 c] (undefs [.int .i64 25,.int .i64 b,.int .i64 c]) (.int .i64 (compF1 25 b c)):=by
 refine Con.ev 85 T_ok mix Tryz.func63 rfl rfl rfl rfl [.tmp 6] rfl ?_
 conv=>whnf
 (iterate 6 ((first|apply rq_s rfl|refine fac_s (fun hf=> ?_)|apply br_t rfl|apply lend_s|refine call_s (c87 ..) ?_);conv=>whnf));(refine sh_s ?_;((rw[neg_w qc];rfl)))
theorem comp26(b c:Int)(qb: -2147483648≤b∧b≤2147483647)(qc: -2147483648≤c∧c≤2147483647):Con Tryz.prog 63 [.int .i64 26,.int .i64 b,.int .i64 c] (undefs [.int .i64 26,.int .i64 b,.int .i64 c]) (.int .i64 (compF1 26 b c)):=by
 refine Con.ev 85 T_ok mix Tryz.func63 rfl rfl rfl rfl [.tmp 6] rfl ?_
 conv=>whnf
 (iterate 7 ((first|apply rq_s rfl|refine fac_s (fun hf=> ?_)|apply br_t rfl|apply br_f rfl|apply lend_s|refine call_s (c87 ..) ?_);conv=>whnf));(refine sh_s ?_;((have e:(if-c>c then-c else c)=max c (-c):=(by rw[Int.max_def];split<;>split<;>omega);rw[neg_w qc,e];rfl)))
theorem comp27(b c:Int)(qb: -2147483648≤b∧b≤2147483647)(qc: -2147483648≤c∧c≤2147483647):Con Tryz.prog 63 [.int .i64 27,.int .i64 b,.int .i64 c] (undefs [.int .i64 27,.int .i64 b,.int .i64 c]) (.int .i64 (compF1 27 b c)):=by
 refine Con.ev 85 T_ok mix Tryz.func63 rfl rfl rfl rfl [.tmp 6] rfl ?_
 conv=>whnf
 (iterate 4 ((first|apply rq_s rfl|apply br_t rfl|apply br_f rfl);conv=>whnf));(refine sh_s ?_;((rw[neg_w qc,wrap64 (by omega) (by omega)];rfl)))
theorem comp28(b c:Int)(qb: -2147483648≤b∧b≤2147483647)(qc: -2147483648≤c∧c≤2147483647):Con Tryz.prog 63 [.int .i64 28,.int .i64 b,.int .i64 c] (undefs [.int .i64 28,.int .i64 b,.int .i64 c]) (.int .i64 (compF1 28 b c)):=by
 refine Con.ev 85 T_ok mix Tryz.func63 rfl rfl rfl rfl [.tmp 6] rfl ?_
 conv=>whnf
 (iterate 9 ((first|apply rq_s rfl|refine fac_s (fun hf=> ?_)|apply br_t rfl|apply br_f rfl|apply lend_s|refine call_s (c87 ..) ?_);conv=>whnf));(refine sh_s ?_;((rw[wrap64 (n:=c+1) (by omega) (by omega)];rfl)))
theorem comp29(b c:Int)(qb: -2147483648≤b∧b≤2147483647)(qc: -2147483648≤c∧c≤2147483647):Con Tryz.prog 63 [.int .i64 29,.int .i64 b,.int .i64 c] (undefs [.int .i64 29,.int .i64 b,.int .i64 c]) (.int .i64 (compF1 29 b c)):=by
 refine Con.ev 85 T_ok mix Tryz.func63 rfl rfl rfl rfl [.tmp 6] rfl ?_
 conv=>whnf
 (iterate 10 ((first|apply rq_s rfl|refine fac_s (fun hf=> ?_)|apply br_t rfl|apply br_f rfl|apply lend_s|refine call_s (c87 ..) ?_);conv=>whnf));(refine sh_s ?_;((rw[wrap64 (n:=c-1) (by omega) (by omega)];rfl)))
theorem comp30(b c:Int)(qb: -2147483648≤b∧b≤2147483647)(qc: -2147483648≤c∧c≤2147483647):Con Tryz.prog 63 [.int .i64 30,.int .i64 b,.int .i64 c] (undefs [.int .i64 30,.int .i64 b,.int .i64 c]) (.int .i64 (compF1 30 b c)):=by
 refine Con.ev 85 T_ok mix Tryz.func63 rfl rfl rfl rfl [.tmp 6] rfl ?_
 conv=>whnf
 (iterate 7 ((first|apply rq_s rfl|apply br_t rfl|apply br_f rfl);conv=>whnf));(refine sh_s ?_;((have e:(if c<b then c else b)=min b c:=(by rw[Int.min_def];split<;>split<;>omega);rw[e];rfl)))
theorem comp31(b c:Int)(qb: -2147483648≤b∧b≤2147483647)(qc: -2147483648≤c∧c≤2147483647):Con Tryz.prog 63 [.int .i64 31,.int .i64 b,.int .i64 c] (undefs [.int .i64 31,.int .i64 b,.int .i64 c]) (.int .i64 (compF1 31 b c)):=by
 refine Con.ev 85 T_ok mix Tryz.func63 rfl rfl rfl rfl [.tmp 6] rfl ?_
 conv=>whnf
 (iterate 8 ((first|apply rq_s rfl|apply br_t rfl|apply br_f rfl);conv=>whnf));(refine sh_s ?_;((have e:(if c>b then c else b)=max b c:=(by rw[Int.max_def];split<;>split<;>omega);rw[e];rfl)))
theorem comp32(b c:Int)(qb: -2147483648≤b∧b≤2147483647)(qc: -2147483648≤c∧c≤2147483647):Con Tryz.prog 63 [.int .i64 32,.int .i64 b,.int .i64 c] (undefs [.int .i64 32,.int .i64 b,.int .i64 c]) (.int .i64 (compF1 32 b c)):=by
 refine Con.ev 85 T_ok mix Tryz.func63 rfl rfl rfl rfl [.tmp 6] rfl ?_
 conv=>whnf
 (iterate 13 ((first|apply rq_s rfl|refine fac_s (fun hf=> ?_)|apply br_t rfl|apply br_f rfl|apply lend_s|refine call_s (c89 ..) ?_);conv=>whnf));(refine sh_s ?_;((rfl)))
theorem comp33(b c:Int)(qb: -2147483648≤b∧b≤2147483647)(qc: -2147483648≤c∧c≤2147483647):Con Tryz.prog 63 [.int .i64 33,.int .i64 b,.int .i64 c] (undefs [.int .i64 33,.int .i64 b,.int .i64 c]) (.int .i64 (compF1 33 b c)):=by
 refine Con.ev 85 T_ok mix Tryz.func63 rfl rfl rfl rfl [.tmp 6] rfl ?_
 conv=>whnf
 (iterate 14 ((first|apply rq_s rfl|refine fac_s (fun hf=> ?_)|apply br_t rfl|apply br_f rfl|apply lend_s|refine call_s (c89 ..) ?_);conv=>whnf));(refine sh_s ?_;((rfl)))
theorem comp34(b c:Int)(qb: -2147483648≤b∧b≤2147483647)(qc: -2147483648≤c∧c≤2147483647):Con Tryz.prog 63 [.int .i64 34,.int .i64 b,.int .i64 c] (undefs [.int .i64 34,.int .i64 b,.int .i64 c]) (.int .i64 (compF1 34 b c)):=by
 refine Con.ev 85 T_ok mix Tryz.func63 rfl rfl rfl rfl [.tmp 6] rfl ?_
 conv=>whnf
 (iterate 15 ((first|apply rq_s rfl|refine fac_s (fun hf=> ?_)|apply br_t rfl|apply br_f rfl|apply lend_s|refine call_s (c89 ..) ?_);conv=>whnf));(refine sh_s ?_;((rfl)))
theorem comp35(b c:Int)(qb: -2147483648≤b∧b≤2147483647)(qc: -2147483648≤c∧c≤2147483647):Con Tryz.prog 63 [.int .i64 35,.int .i64 b,.int .i64 c] (undefs [.int .i64 35,.int .i64 b,.int .i64 c]) (.int .i64 (compF1 35 b c)):=by
 refine Con.ev 85 T_ok mix Tryz.func63 rfl rfl rfl rfl [.tmp 6] rfl ?_
 conv=>whnf
 (iterate 16 ((first|apply rq_s rfl|refine fac_s (fun hf=> ?_)|apply br_t rfl|apply br_f rfl|apply lend_s|refine call_s (c89 ..) ?_);conv=>whnf));(refine sh_s ?_;((rfl)))
theorem comp36(b c:Int)(qb: -2147483648≤b∧b≤2147483647)(qc: -2147483648≤c∧c≤2147483647):Con Tryz.prog 63 [.int .i64 36,.int .i64 b,.int .i64 c] (undefs [.int .i64 36,.int .i64 b,.int .i64 c]) (.int .i64 (compF1 36 b c)):=by
 refine Con.ev 85 T_ok mix Tryz.func63 rfl rfl rfl rfl [.tmp 6] rfl ?_
 conv=>whnf
 (iterate 25 ((first|apply rq_s rfl|refine fac_s (fun hf=> ?_)|apply br_t rfl|apply br_f rfl|apply lend_s|refine call_s (c89 ..) ?_|refine call_s (c88 ..) ?_);conv=>whnf));(refine sh_s ?_;((rfl)))
theorem comp37(b c:Int)(qb: -2147483648≤b∧b≤2147483647)(qc: -2147483648≤c∧c≤2147483647):Con Tryz.prog 63 [.int .i64 37,.int .i64 b,.int .i64 c] (undefs [.int .i64 37,.int .i64 b,.int .i64 c]) (.int .i64 (compF1 37 b c)):=by
 refine Con.ev 85 T_ok mix Tryz.func63 rfl rfl rfl rfl [.tmp 6] rfl ?_
 conv=>whnf
 (iterate 18 ((first|apply rq_s rfl|refine fac_s (fun hf=> ?_)|apply br_t rfl|apply br_f rfl|apply lend_s|refine call_s (c89 ..) ?_);conv=>whnf));(refine sh_s ?_;((rfl)))
theorem comp38(b c:Int)(qb: -2147483648≤b∧b≤2147483647)(qc: -2147483648≤c∧c≤2147483647):Con Tryz.prog 63 [.int .i64 38,.int .i64 b,.int .i64 c] (undefs [.int .i64 38,.int .i64 b,.int .i64 c]) (.int .i64 (compF1 38 b c)):=by
 refine Con.ev 85 T_ok mix Tryz.func63 rfl rfl rfl rfl [.tmp 6] rfl ?_
 conv=>whnf
 (iterate 18 ((first|apply rq_s rfl|refine fac_s (fun hf=> ?_)|apply br_f rfl|apply lend_s|refine call_s (c89 ..) ?_);conv=>whnf));(refine sh_s ?_;((rfl)))
theorem c92(d:Dat)(hd:0≤d.he∧d.he≤32):Con Tryz.prog 92 [.obj (datC d)] [.obj (datC d)] (.int .i64 (4096+4*d.he)):=by
 have w1:IntKind.i64.wrap (4*d.he)=4*d.he:=wrap64 (by omega) (by omega)
 have w2:IntKind.i64.wrap (4096+4*d.he)=4096+4*d.he:=wrap64 (by omega) (by omega)
 refine Con.evP 9 [500000] rfl T_ok mix Tryz.func92 rfl rfl rfl rfl [.tmp 2] rfl ?_
 conv=>whnf
 iterate 2 (apply rq_s rfl;conv=>whnf)
 rotate_left
 rw[w1,w2]
 iterate 6 (first|(refine rows_s (sub_all (by solve|simp[lms]|fail)) ?_;conv=>whnf)|(refine aftp_s (by rfl) ?_;conv=>whnf)|(exact True.intro))
theorem say_t{d:Dat}{t:List UInt8}(h:300<d.ou.length+t.length):sayF d t=(d,-17):=by rw[sayF,if_pos h]
theorem say_f{d:Dat}{t:List UInt8}(h: ¬300<d.ou.length+t.length):sayF d t=({d with ou:=d.ou++t},0):=by rw[sayF,if_neg h]
theorem c94(d:Dat)(t:List UInt8)(h:d.ou.length≤300)(ht:t.length≤1000):Con Tryz.prog 94 [.obj (datC d),.str t] [.obj (datC (sayF d t).1),.undef] (.int .i64 (sayF d t).2):=by
 have w1:IntKind.i64.wrap ((d.ou.length:Int)+(t.length:Int))=((d.ou.length+t.length:Nat):Int):=by rw[wrap64 (by omega) (by omega)];omega
 refine Con.evP 22 [500000] rfl T_ok mix Tryz.func94 rfl rfl rfl rfl [.tmp 4] rfl ?_
 conv=>whnf
 iterate 3 (first|(apply rq_s rfl;conv=>whnf)|(refine br_s ?_ ?_<;>intro hb<;>(try simp only[cln]at hb)<;>conv=>whnf))
 rotate_left
 (apply rq_s rfl;conv=>whnf)
 rotate_left
 ·rw[w1]at hb
  rw[say_t (by omega)]
  iterate 6 (first|(refine rows_s (sub_all (by solve|simp[lms]|fail)) ?_;conv=>whnf)|(refine aftp_s (by rfl) ?_;conv=>whnf)|(exact True.intro))
 ·rw[w1]at hb
  rw[say_f (by omega)]
  iterate 9 (first|(apply rq_s rfl;conv=>whnf)|(refine rq_s (by(((exact decide_eq_true (by unfold maxStr;omega))))) ?_;conv=>whnf)|(refine rows_s (sub_all (by solve|simp[lms]|fail)) ?_;conv=>whnf)|(refine aftp_s (by rfl) ?_;conv=>whnf)|(exact True.intro))
theorem cell_n{d:Dat}{a:Int}(h:inR a 4096 (4096+4*d.he-1)=false∨ ¬a.tmod 4=0):cellAt d a=none:=by
 rw[cellAt,if_neg]
 rintro ⟨h1,h2⟩
 rcases h with h|h
 ·rw[h]at h1;cases h1
 ·exact h h2
theorem cell_s{d:Dat}{a:Int}(h1:inR a 4096 (4096+4*d.he-1)=true)(h2:a.tmod 4=0):cellAt d a=some ((a-4096).tdiv 4).toNat:=by rw[cellAt,if_pos ⟨h1,h2⟩]
theorem cell_lt{d:Dat}{a:Int}{k:Nat}(h:cellAt d a=some k)(hd:0≤d.he∧d.he≤32):(k:Int)<d.he∧(a-4096).tdiv 4=k:=by
 unfold cellAt at h
 split at h
 ·rename_i hc
  have h1:=inR_t hc.1
  injection h with h
  have e:(a-4096).tdiv 4=(a-4096)/4:=Int.tdiv_eq_ediv_of_nonneg (by omega)
  rw[e]at h⊢
  omega
 ·cases h
theorem c90(d:Dat)(a:Int)(hd:0≤d.he∧d.he≤32)(qa: -2147483648≤a∧a≤2147483647):Con Tryz.prog 90 [.obj (datC d),.int .i64 a] [.obj (datC d),.undef] (.tup [.int .i64 (((cellAt d a).getD 0:Nat):Int),.bool (cellAt d a).isSome]):=by
 have w1:IntKind.i64.wrap (4*d.he)=4*d.he:=wrap64 (by omega) (by omega)
 have w2:IntKind.i64.wrap (4096+4*d.he)=4096+4*d.he:=wrap64 (by omega) (by omega)
 have w3:IntKind.i64.wrap (4096+4*d.he-1)=4096+4*d.he-1:=wrap64 (by omega) (by omega)
 have w4:IntKind.i64.wrap (a-4096)=a-4096:=wrap64 (by omega) (by omega)
 refine Con.evP 24 [500000] rfl T_ok mix Tryz.func90 rfl rfl rfl rfl [.tmp 4,.tmp 5] rfl ?_
 conv=>whnf
 iterate 13 (first|(apply rq_s rfl;conv=>whnf)|(apply br_t rfl;conv=>whnf)|(refine br_s ?_ ?_<;>intro hb<;>(try simp only[cln]at hb)<;>conv=>whnf)|(apply lend_s;conv=>whnf)|(refine call_s (c33 ..) ?_;conv=>whnf))
 rotate_left
 iterate 6 (first|(apply rq_s rfl;conv=>whnf)|(apply br_f rfl;conv=>whnf)|(refine br_s ?_ ?_<;>intro hb<;>(try simp only[cln]at hb)<;>conv=>whnf))
 rotate_left
 iterate 3 (apply rq_s rfl;conv=>whnf)
 rotate_left
 ·rw[w1,w2,w3]at hb
  rw[cell_n (.inl hb)]
  iterate 6 (first|(refine rows_s (sub_all (by solve|simp[lms]|fail)) ?_;conv=>whnf)|(refine aftp_s (by rfl) ?_;conv=>whnf)|(exact True.intro))
 ·rw[cell_n (.inr hb)]
  iterate 6 (first|(refine rows_s (sub_all (by solve|simp[lms]|fail)) ?_;conv=>whnf)|(refine aftp_s (by rfl) ?_;conv=>whnf)|(exact True.intro))
 ·have h1:inR a 4096 (4096+4*d.he-1)=true:=by rw[←w3,←w2,←w1];assumption
  have hk:=cell_lt (cell_s h1 hb) hd
  rw[cell_s h1 hb]
  generalize ((a-4096).tdiv 4).toNat=k at hk
  rw[w4,hk.2,wrap64 (by omega) (by omega)]
  iterate 6 (first|(refine rows_s (sub_all (by solve|simp[lms]|fail)) ?_;conv=>whnf)|(refine aftp_s (by rfl) ?_;conv=>whnf)|(exact True.intro))
theorem setRow_at{xs:List Int}{i j:Nat}{z:List AV}{v:Int}(h:j<xs.length)(e:i=j):setRow (xs.map intR) i 0 z [.int .i64 v]=(xs.set j v).map intR:=by subst e;exact setRow_int _ _ _ _ h
theorem store_n{d:Dat}{a n:Int}(h:cellAt d a=none):storeF d a n=(d,-9):=by rw[storeF,h]
theorem store_s{d:Dat}{a n:Int}{k:Nat}(h:cellAt d a=some k):storeF d a n=({d with ce:=d.ce.set k n},0):=by rw[storeF,h]
theorem c91(d:Dat)(a n:Int)(hd:0≤d.he∧d.he≤32)(hc:d.ce.length=32)(qa: -2147483648≤a∧a≤2147483647):Con Tryz.prog 91 [.obj (datC d),.int .i64 a,.int .i64 n] [.obj (datC (storeF d a n).1),.undef,.undef] (.int .i64 (storeF d a n).2):=by
 have k1:=c90 d a hd qa
 cases hk:cellAt d a with
 |none=>
  rw[hk]at k1
  have k2:Con Tryz.prog 90 [.obj (datC d),.int .i64 a] [.obj (datC d),.undef] (.tup [.int .i64 0,.bool false]):=k1
  rw[store_n hk]
  refine Con.evP 24 [500000] rfl T_ok mix Tryz.func91 rfl rfl rfl rfl [.tmp 6] rfl ?_
  conv=>whnf
  (iterate 3 ((first|apply rq_s rfl|refine handp_s 90 [some 6,none] ?_);conv=>whnf));(focus (apply callpe_s (f:=90);(· repeat' (first|(refine sub_all ?_;simp[lms];done)|exact sub_map _ _ _ _|apply cons_eq|apply obj_eq|apply agg_eq|apply own_eq|apply ro_eq|apply rp_eq|apply fnc_eq|rfl));refine callp_s (f:=90) rfl (k2 ..) ?_;conv=>whnf));iterate 9 (first|(apply rq_s rfl;conv=>whnf)|(refine rows_s (sub_all (by solve|simp[lms]|fail)) ?_;conv=>whnf)|(refine fac_s (fun hf=> ?_);conv=>whnf)|(apply br_t rfl;conv=>whnf)|(refine aftp_s (by rfl) ?_;conv=>whnf)|(exact True.intro))
  all_goals skip
 |some k=>
  rw[hk]at k1
  have k2:Con Tryz.prog 90 [.obj (datC d),.int .i64 a] [.obj (datC d),.undef] (.tup [.int .i64 k,.bool true]):=k1
  have hl:=cell_lt hk hd
  rw[store_s hk]
  refine Con.evP 24 [500000] rfl T_ok mix Tryz.func91 rfl rfl rfl rfl [.tmp 6] rfl ?_
  conv=>whnf
  (iterate 3 ((first|apply rq_s rfl|refine handp_s 90 [some 6,none] ?_);conv=>whnf));(focus (apply callpe_s (f:=90);(· repeat' (first|(refine sub_all ?_;simp[lms];done)|exact sub_map _ _ _ _|apply cons_eq|apply obj_eq|apply agg_eq|apply own_eq|apply ro_eq|apply rp_eq|apply fnc_eq|rfl));refine callp_s (f:=90) rfl (k2 ..) ?_;conv=>whnf));iterate 14 (first|(refine rq_s (by solve|simp only[lms]|fail) ?_;conv=>whnf)|(apply rq_s rfl;conv=>whnf)|(refine rq_s (by refine and_s rfl ?_;simp only[lnm];omega) ?_;conv=>whnf)|(refine rows_s (by(exact setRow_at (j:=k) (by omega) (by omega))) ?_;conv=>whnf)|(refine rows_s (sub_all (by solve|simp[lms]|fail)) ?_;conv=>whnf)|(refine fac_s (fun hf=> ?_);conv=>whnf)|(apply br_f rfl;conv=>whnf)|(refine aftp_s (by rfl) ?_;conv=>whnf)|(exact True.intro))
theorem allot_n{d:Dat}{n:Int}(h: ¬n.tmod 4=0∨inR (d.he+n.tdiv 4) 0 32=false):allotF d n=(d,-8):=by rw[allotF,if_pos h]
theorem allot_s{d:Dat}{n:Int}(h1:n.tmod 4=0)(h2:inR (d.he+n.tdiv 4) 0 32=true):allotF d n=({d with ce:=zeros d.ce d.he (d.he+n.tdiv 4),he:=d.he+n.tdiv 4},0):=by rw[allotF,if_neg (by simp[h1,h2])]
def zr(ce:List Int)(a j:Nat):List Int:=ce.take a++List.replicate j 0++ce.drop (a+j)
theorem zr_len{ce:List Int}{a j:Nat}(h:a+j≤ce.length):(zr ce a j).length=ce.length:=by simp[zr];omega
theorem zr_0(ce:List Int)(a:Nat):zr ce a 0=ce:=by simp[zr]
theorem zr_next{ce:List Int}{a j:Nat}(h:a+j<ce.length):(zr ce a j).set (a+j) 0=zr ce a (j+1):=by
 have hl:(zr ce a j).length=ce.length:=zr_len (by omega)
 apply List.ext_getElem?
 intro i
 rw[List.getElem?_set]
 simp only[hl]
 simp only[zr,List.getElem?_append,List.length_append,List.length_take,List.length_replicate,Nat.min_eq_left (show a≤ce.length by omega),List.getElem?_take,List.getElem?_replicate,List.getElem?_drop]
 by_cases h1:a+j=i
 ·subst h1
  simp[h,show ¬a+j<a by omega,show a+j<a+(j+1) by omega]
 ·by_cases h2:i<a
  ·simp[h1,h2,show i<a+j by omega,show i<a+(j+1) by omega]
  ·by_cases h3:i<a+j
   ·simp[h1,h2,h3,show i<a+(j+1) by omega,show i-a<j by omega,show i-a<j+1 by omega]
   ·have e:a+j+(i-(a+j))=a+(j+1)+(i-(a+(j+1))):=by omega
    simp only[h1,h2,h3,show ¬i<a+(j+1) by omega,if_false,e]
theorem zeros_zr{ce:List Int}{a q:Int}(h:0≤a)(h2:0≤a+q):zeros ce a (a+q)=zr ce a.toNat q.toNat:=by
 unfold zeros zr
 rw[show a+q-a=q by omega]
 by_cases hq:0≤q
 ·rw[show max a.toNat (a+q).toNat=a.toNat+q.toNat by omega]
 ·rw[show max a.toNat (a+q).toNat=a.toNat+q.toNat by omega]
theorem c93(d:Dat)(n:Int)(hd:0≤d.he∧d.he≤32)(hc:d.ce.length=32)(qn: -2147483648≤n∧n≤2147483647):Con Tryz.prog 93 [.obj (datC d),.int .i64 n] [.obj (datC (allotF d n).1),.undef] (.int .i64 (allotF d n).2):=by
 have hq:=tdiv_le n 4
 have wq:IntKind.i64.wrap (n.tdiv 4)=n.tdiv 4:=wrap64 (by omega) (by omega)
 have w1:IntKind.i64.wrap (d.he+n.tdiv 4)=d.he+n.tdiv 4:=wrap64 (by omega) (by omega)
 refine Con.evP 50 [500000] rfl T_ok mix Tryz.func93 rfl rfl rfl rfl [.tmp 4] rfl ?_
 conv=>whnf
 iterate 13 (first|(apply rq_s rfl;conv=>whnf)|(apply br_t rfl;conv=>whnf)|(refine br_s ?_ ?_<;>intro hb<;>(try simp only[cln]at hb)<;>conv=>whnf))
 rotate_left
 iterate 17 (first|(apply rq_s rfl;conv=>whnf)|(apply br_f rfl;conv=>whnf)|(refine br_s ?_ ?_<;>intro hb<;>(try simp only[cln]at hb)<;>conv=>whnf)|(apply lend_s;conv=>whnf)|(refine call_s (c33 ..) ?_;conv=>whnf))
 rotate_left
 (apply rq_s rfl;conv=>whnf)
 rotate_left
 ·rw[allot_n (.inl hb)]
  iterate 6 (first|(refine rows_s (sub_all (by solve|simp[lms]|fail)) ?_;conv=>whnf)|(refine aftp_s (by rfl) ?_;conv=>whnf)|(exact True.intro))
 ·rw[wq,w1]at hb
  rw[allot_n (.inr hb)]
  iterate 6 (first|(refine rows_s (sub_all (by solve|simp[lms]|fail)) ?_;conv=>whnf)|(refine aftp_s (by rfl) ?_;conv=>whnf)|(exact True.intro))
 rw[wq,w1]at hb
 have hi:=inR_t hb
 have h4:n.tmod 4=0:=by assumption
 rw[allot_s h4 hb,zeros_zr hd.1 hi.1]
 refine LoopG.auto (α:=Nat) T_ok mix [0,1,5] (fun j=>[(0,.ptr 500000 0 0),(1,.int .i64 n),(5,.int .i64 (d.he+j))]) (fun j=>[(500000,.live ⟨false,0,[.undef,.undef,.undef,.undef,.undef,.undef],[[.ref 2 0 d.st.length,.ref 3 0 d.bk.length,.ref 4 0 d.ce.length,.int .i64 d.he,.int .i64 d.ba,.str d.ou]]⟩),(2,.live ⟨true,0,zI,d.st.map intR⟩),(3,.live ⟨true,0,zI,d.bk.map intR⟩),(4,.live ⟨true,0,zI,(zr d.ce d.he.toNat j).map intR⟩)]) (fun j=>j≤(n.tdiv 4).toNat) (fun j=>(n.tdiv 4).toNat-j) ?_ ?_
 ·conv=>whnf
  (apply ChkS.mk (by kernel_rfl);conv=>whnf)
  rotate_left
  exact head_s 0 (by omega) (by simp) (by simp[zr_0])
 ·rintro j hj- -
  by_cases hlt:j<(n.tdiv 4).toNat
  ·have gd:decide (d.he+(j:Int)<IntKind.i64.wrap (d.he+IntKind.i64.wrap (n.tdiv 4)))=true:=by rw[wq,w1];exact decide_eq_true (by omega)
   have hz:=zr_len (ce:=d.ce) (a:=d.he.toNat) (j:=j) (by omega)
   conv=>whnf
   iterate 9 ((first|refine rq_s (by solve|simp only[lms]|fail) ?_|apply rq_s rfl|refine rq_s (by refine and_s rfl ?_;simp only[lnm];omega) ?_|refine rq_s (by simp only[Bool.and_eq_true,decide_eq_true_eq,List.length_map];omega) ?_|refine rows_s (by(exact setRow_at (j:=d.he.toNat+j) (by rw[hz];omega) (by omega))) ?_|refine ChkS.mk (by kernel_rfl) ?_|refine br_t (by assumption) ?_);conv=>whnf)
   rotate_left
   refine head_s (j+1) ⟨by omega,by omega⟩ (by rw[wrap64 (by omega) (by omega),show d.he+(j:Int)+1=d.he+((j+1:Nat):Int) by omega]) ?_
   rw[zr_next (by omega)]
  ·have gd:decide (d.he+(j:Int)<IntKind.i64.wrap (d.he+IntKind.i64.wrap (n.tdiv 4)))=false:=by rw[wq,w1];exact decide_eq_false (by omega)
   conv=>whnf
   iterate 11 ((first|apply rq_s rfl|refine rows_s (sub_all (by solve|simp[lms]|fail)) ?_|refine rows_s (by(exact sub_map _ _ _ _)) ?_|refine br_f (by assumption) ?_|refine aftp_s (by rfl) ?_);conv=>whnf)
   rotate_left
   obtain rfl:j=(n.tdiv 4).toNat:=by omega
   have hz:=zr_len (ce:=d.ce) (a:=d.he.toNat) (j:=(n.tdiv 4).toNat) (by omega)
   rw[wq,w1,List.drop_zero,List.take_of_length_le (by omega)]
   (refine aftp_s (by rfl) ?_;conv=>whnf)
   exact True.intro
end P3

/- Prims on cells and on the output, by the program; contracts. -/
open Go Go.Abs Go.Proofs V1 H1 F1 F2 T1 T2 T3 P1 P2 P3
namespace P4
def memR(p:Nat)(d:Dat)(b c:Int):Dat × Int:=match p with
 |39=>match cellAt d c with
  |none=>(d,-9)
  |some k=>pushL d [d.ce.getD k 0]
 |40=>storeF d c b
 |41=>match cellAt d c with
  |none=>(d,-9)
  |some k=>({d with ce:=d.ce.set k (wc (d.ce.getD k 0+b))},0)
 |42=>pushL d [4096+4*d.he]
 |43=>allotF d c
 |44=>if(allotF d 4).2≠0 then allotF d 4 else storeF (allotF d 4).1 (4096+4*d.he) c
 |45=>sayF d [UInt8.ofNat (c%256).toNat]
 |46=>sayF d (txtF c d.ba.toNat++[32])
 |47=>sayF d [10]
 |48=>sayF d [32]
 |49=>({d with ba:=10},0)
 |_=>({d with ba:=16},0)
structure Dk(d:Dat):Prop where
 he:0≤d.he∧d.he≤32
 ce:d.ce.length=32
 st:d.st.length≤32
 ou:d.ou.length≤300
 ba:2≤d.ba∧d.ba≤16
 cs: ∀n∈d.ce,-2147483648≤n∧n≤2147483647
theorem mem39(d:Dat)(b c:Int)(h:Dk d)(qc: -2147483648≤c∧c≤2147483647):Con Tryz.prog 64 [.obj (datC d),.int .i64 39,.int .i64 b,.int .i64 c] [.obj (datC (memR 39 d b c).1),.undef,.undef,.undef] (.int .i64 (memR 39 d b c).2):=by
 have k1:=c90 d c h.he qc
 cases hk:cellAt d c with
 |none=>
  rw[hk]at k1
  have k2:Con Tryz.prog 90 [.obj (datC d),.int .i64 c] [.obj (datC d),.undef] (.tup [.int .i64 0,.bool false]):=k1
  rw[show memR 39 d b c=(d,-9) by simp only[memR,hk]]
  refine Con.evP 127 [500000] rfl T_ok mix Tryz.func64 rfl rfl rfl rfl [.tmp 8] rfl ?_
  conv=>whnf
  (iterate 5 ((first|apply rq_s rfl|apply br_t rfl|refine handp_s 90 [some 6,none] ?_);conv=>whnf));(focus (apply callpe_s (f:=90);(· repeat' (first|(refine sub_all ?_;simp[lms];done)|exact sub_map _ _ _ _|apply cons_eq|apply obj_eq|apply agg_eq|apply own_eq|apply ro_eq|apply rp_eq|apply fnc_eq|rfl));refine callp_s (f:=90) rfl (k2 ..) ?_;conv=>whnf));iterate 9 (first|(apply rq_s rfl;conv=>whnf)|(refine rows_s (sub_all (by solve|simp[lms]|fail)) ?_;conv=>whnf)|(refine fac_s (fun hf=> ?_);conv=>whnf)|(apply br_t rfl;conv=>whnf)|(refine aftp_s (by rfl) ?_;conv=>whnf)|(exact True.intro))
  all_goals skip
 |some k=>
  rw[hk]at k1
  have k2:Con Tryz.prog 90 [.obj (datC d),.int .i64 c] [.obj (datC d),.undef] (.tup [.int .i64 k,.bool true]):=k1
  have hl:=cell_lt hk h.he
  have hc:=h.ce
  have hh:=h.he
  have k3:=c61 d [d.ce.getD k 0] h.st (by simp)
  rw[show memR 39 d b c=pushL d [d.ce.getD k 0] by simp only[memR,hk]]
  refine Con.evP 127 [500000] rfl T_ok mix Tryz.func64 rfl rfl rfl rfl [.tmp 8] rfl ?_
  conv=>whnf
  (iterate 5 ((first|apply rq_s rfl|apply br_t rfl|refine handp_s 90 [some 6,none] ?_);conv=>whnf));(focus (apply callpe_s (f:=90);(· repeat' (first|(refine sub_all ?_;simp[lms];done)|exact sub_map _ _ _ _|apply cons_eq|apply obj_eq|apply agg_eq|apply own_eq|apply ro_eq|apply rp_eq|apply fnc_eq|rfl));refine callp_s (f:=90) rfl (k2 ..) ?_;conv=>whnf));(iterate 7 ((first|refine rq_s (by solve|simp only[lms]|fail) ?_|apply rq_s rfl|refine rq_s (by refine and_s rfl ?_;simp only[lnm];omega) ?_|refine fac_s (fun hf=> ?_)|apply br_t rfl|apply br_f rfl);conv=>whnf));(refine row_s (by((try simp only[Nat.zero_add,Int.toNat_natCast]);exact row_map intR _ _ _ 0 (by omega))) ?_;conv=>whnf);(iterate 5 ((first|refine rq_s (by solve|simp only[lms]|fail) ?_|apply rq_s rfl|refine handp_s 61 [some 6,none] ?_);conv=>whnf));(focus (apply callpe_s (f:=61);(· repeat' (first|(refine sub_all ?_;simp[lms];done)|exact sub_map _ _ _ _|apply cons_eq|apply obj_eq|apply agg_eq|apply own_eq|apply ro_eq|apply rp_eq|apply fnc_eq|rfl));refine callp_s (f:=61) rfl (k3 ..) ?_;conv=>whnf));iterate 8 (first|(apply rq_s rfl;conv=>whnf)|(refine rows_s (sub_all (by solve|simp[lms]|fail)) ?_;conv=>whnf)|(refine fac_s (fun hf=> ?_);conv=>whnf)|(refine aftp_s (by rfl) ?_;conv=>whnf)|(exact True.intro))
  all_goals skip
theorem mem40(d:Dat)(b c:Int)(h:Dk d)(qb: -2147483648≤b∧b≤2147483647)(qc: -2147483648≤c∧c≤2147483647):Con Tryz.prog 64 [.obj (datC d),.int .i64 40,.int .i64 b,.int .i64 c] [.obj (datC (memR 40 d b c).1),.undef,.undef,.undef] (.int .i64 (memR 40 d b c).2):=by
 have hc:=h.ce
 have hh:=h.he
 have k1:=c91 d c b h.he h.ce qc
 rw[show memR 40 d b c=storeF d c b from rfl]
 refine Con.evP 127 [500000] rfl T_ok mix Tryz.func64 rfl rfl rfl rfl [.tmp 8] rfl ?_
 conv=>whnf
 (iterate 7 ((first|apply rq_s rfl|apply br_t rfl|apply br_f rfl|refine handp_s 91 [some 6,none,none] ?_);conv=>whnf));(focus (apply callpe_s (f:=91);(· repeat' (first|(refine sub_all ?_;simp[lms];done)|exact sub_map _ _ _ _|apply cons_eq|apply obj_eq|apply agg_eq|apply own_eq|apply ro_eq|apply rp_eq|apply fnc_eq|rfl));refine callp_s (f:=91) rfl (k1 ..) ?_;conv=>whnf));iterate 8 (first|(apply rq_s rfl;conv=>whnf)|(refine rows_s (sub_all (by solve|simp[lms]|fail)) ?_;conv=>whnf)|(refine fac_s (fun hf=> ?_);conv=>whnf)|(refine aftp_s (by rfl) ?_;conv=>whnf)|(exact True.intro))
theorem mem41(d:Dat)(b c:Int)(h:Dk d)(qb: -2147483648≤b∧b≤2147483647)(qc: -2147483648≤c∧c≤2147483647):Con Tryz.prog 64 [.obj (datC d),.int .i64 41,.int .i64 b,.int .i64 c] [.obj (datC (memR 41 d b c).1),.undef,.undef,.undef] (.int .i64 (memR 41 d b c).2):=by
 have hc:=h.ce
 have hh:=h.he
 have k1:=c90 d c h.he qc
 cases hk:cellAt d c with
 |none=>
  rw[hk]at k1
  have k2:Con Tryz.prog 90 [.obj (datC d),.int .i64 c] [.obj (datC d),.undef] (.tup [.int .i64 0,.bool false]):=k1
  rw[show memR 41 d b c=(d,-9) by simp only[memR,hk]]
  refine Con.evP 127 [500000] rfl T_ok mix Tryz.func64 rfl rfl rfl rfl [.tmp 8] rfl ?_
  conv=>whnf
  (iterate 5 ((first|apply rq_s rfl|apply br_t rfl|apply br_f rfl|refine handp_s 90 [some 6,none] ?_);conv=>whnf));(focus (apply callpe_s (f:=90);(· repeat' (first|(refine sub_all ?_;simp[lms];done)|exact sub_map _ _ _ _|apply cons_eq|apply obj_eq|apply agg_eq|apply own_eq|apply ro_eq|apply rp_eq|apply fnc_eq|rfl));refine callp_s (f:=90) rfl (k2 ..) ?_;conv=>whnf));iterate 9 (first|(apply rq_s rfl;conv=>whnf)|(refine rows_s (sub_all (by solve|simp[lms]|fail)) ?_;conv=>whnf)|(refine fac_s (fun hf=> ?_);conv=>whnf)|(apply br_t rfl;conv=>whnf)|(refine aftp_s (by rfl) ?_;conv=>whnf)|(exact True.intro))
 |some k=>
  rw[hk]at k1
  have k2:Con Tryz.prog 90 [.obj (datC d),.int .i64 c] [.obj (datC d),.undef] (.tup [.int .i64 k,.bool true]):=k1
  have hl:=cell_lt hk h.he
  have hq: -2147483648≤d.ce.getD k 0∧d.ce.getD k 0≤2147483647:=h.cs _ (by rw[List.getD_eq_getElem?_getD,List.getElem?_eq_getElem (by omega)];exact List.getElem_mem _)
  have w1:IntKind.i64.wrap (d.ce.getD k 0+b)=d.ce.getD k 0+b:=wrap64 (by omega) (by omega)
  rw[show memR 41 d b c=({d with ce:=d.ce.set k (wc (d.ce.getD k 0+b))},0) by simp only[memR,hk]]
  rw[←w1]
  refine Con.evP 127 [500000] rfl T_ok mix Tryz.func64 rfl rfl rfl rfl [.tmp 8] rfl ?_
  conv=>whnf
  (iterate 5 ((first|apply rq_s rfl|apply br_t rfl|apply br_f rfl|refine handp_s 90 [some 6,none] ?_);conv=>whnf));(focus (apply callpe_s (f:=90);(· repeat' (first|(refine sub_all ?_;simp[lms];done)|exact sub_map _ _ _ _|apply cons_eq|apply obj_eq|apply agg_eq|apply own_eq|apply ro_eq|apply rp_eq|apply fnc_eq|rfl));refine callp_s (f:=90) rfl (k2 ..) ?_;conv=>whnf));(iterate 20 ((first|refine rq_s (by solve|simp only[lms]|fail) ?_|apply rq_s rfl|refine rq_s (by refine and_s rfl ?_;simp only[lnm];omega) ?_|refine fac_s (fun hf=> ?_)|refine ChkS.mk (by kernel_rfl) ?_|apply br_f rfl);conv=>whnf));(refine row_s (by((try simp only[Nat.zero_add,Int.toNat_natCast]);exact row_map intR _ _ _ 0 (by omega))) ?_;conv=>whnf);iterate 20 (first|(refine rq_s (by solve|simp only[lms]|fail) ?_;conv=>whnf)|(apply rq_s rfl;conv=>whnf)|(refine rq_s (by refine and_s rfl ?_;simp only[lnm];omega) ?_;conv=>whnf)|(refine rows_s (by(exact setRow_at (j:=k) (by omega) (by omega))) ?_;conv=>whnf)|(refine rows_s (sub_all (by solve|simp[lms]|fail)) ?_;conv=>whnf)|(refine fac_s (fun hf=> ?_);conv=>whnf)|(refine ChkS.mk (by kernel_rfl) ?_;conv=>whnf)|(refine call_s (c87 ..) ?_;conv=>whnf)|(refine aftp_s (by rfl) ?_;conv=>whnf)|(exact True.intro))
  all_goals skip
theorem mem42(d:Dat)(b c:Int)(h:Dk d)(qb: -2147483648≤b∧b≤2147483647)(qc: -2147483648≤c∧c≤2147483647):Con Tryz.prog 64 [.obj (datC d),.int .i64 42,.int .i64 b,.int .i64 c] [.obj (datC (memR 42 d b c).1),.undef,.undef,.undef] (.int .i64 (memR 42 d b c).2):=by
 have hc:=h.ce
 have hh:=h.he
 have k1:=c92 d h.he
 have k2:=c61 d [4096+4*d.he] h.st (by simp)
 rw[show memR 42 d b c=pushL d [4096+4*d.he]from rfl]
 refine Con.evP 127 [500000] rfl T_ok mix Tryz.func64 rfl rfl rfl rfl [.tmp 8] rfl ?_
 conv=>whnf
 (iterate 6 ((first|apply rq_s rfl|apply br_t rfl|apply br_f rfl|refine handp_s 92 [some 6] ?_);conv=>whnf));(focus (apply callpe_s (f:=92);(· repeat' (first|(refine sub_all ?_;simp[lms];done)|exact sub_map _ _ _ _|apply cons_eq|apply obj_eq|apply agg_eq|apply own_eq|apply ro_eq|apply rp_eq|apply fnc_eq|rfl));refine callp_s (f:=92) rfl (k1 ..) ?_;conv=>whnf));(iterate 5 ((first|refine rq_s (by solve|simp only[lms]|fail) ?_|apply rq_s rfl|refine handp_s 61 [some 6,none] ?_);conv=>whnf));(focus (apply callpe_s (f:=61);(· repeat' (first|(refine sub_all ?_;simp[lms];done)|exact sub_map _ _ _ _|apply cons_eq|apply obj_eq|apply agg_eq|apply own_eq|apply ro_eq|apply rp_eq|apply fnc_eq|rfl));refine callp_s (f:=61) rfl (k2 ..) ?_;conv=>whnf));iterate 9 (first|(apply rq_s rfl;conv=>whnf)|(refine rows_s (sub_all (by solve|simp[lms]|fail)) ?_;conv=>whnf)|(refine fac_s (fun hf=> ?_);conv=>whnf)|(refine aftp_s (by rfl) ?_;conv=>whnf)|(exact True.intro))
theorem mem43(d:Dat)(b c:Int)(h:Dk d)(qb: -2147483648≤b∧b≤2147483647)(qc: -2147483648≤c∧c≤2147483647):Con Tryz.prog 64 [.obj (datC d),.int .i64 43,.int .i64 b,.int .i64 c] [.obj (datC (memR 43 d b c).1),.undef,.undef,.undef] (.int .i64 (memR 43 d b c).2):=by
 have hc:=h.ce
 have hh:=h.he
 have k1:=c93 d c h.he h.ce qc
 rw[show memR 43 d b c=allotF d c from rfl]
 refine Con.evP 127 [500000] rfl T_ok mix Tryz.func64 rfl rfl rfl rfl [.tmp 8] rfl ?_
 conv=>whnf
 (iterate 8 ((first|apply rq_s rfl|apply br_t rfl|apply br_f rfl|refine handp_s 93 [some 6,none] ?_);conv=>whnf));(focus (apply callpe_s (f:=93);(· repeat' (first|(refine sub_all ?_;simp[lms];done)|exact sub_map _ _ _ _|apply cons_eq|apply obj_eq|apply agg_eq|apply own_eq|apply ro_eq|apply rp_eq|apply fnc_eq|rfl));refine callp_s (f:=93) rfl (k1 ..) ?_;conv=>whnf));iterate 8 (first|(apply rq_s rfl;conv=>whnf)|(refine rows_s (sub_all (by solve|simp[lms]|fail)) ?_;conv=>whnf)|(refine fac_s (fun hf=> ?_);conv=>whnf)|(refine aftp_s (by rfl) ?_;conv=>whnf)|(exact True.intro))
theorem mem44(d:Dat)(b c:Int)(h:Dk d)(qb: -2147483648≤b∧b≤2147483647)(qc: -2147483648≤c∧c≤2147483647):Con Tryz.prog 64 [.obj (datC d),.int .i64 44,.int .i64 b,.int .i64 c] [.obj (datC (memR 44 d b c).1),.undef,.undef,.undef] (.int .i64 (memR 44 d b c).2):=by
 have hc:=h.ce
 have hh:=h.he
 have k0:=c92 d h.he
 have k1:=c93 d 4 h.he h.ce (by omega)
 have hx:(allotF d 4).2≠0∨((allotF d 4).2=0∧(0≤(allotF d 4).1.he∧(allotF d 4).1.he≤32)∧(allotF d 4).1.ce.length=32):=by
  by_cases hi:inR (d.he+(4:Int).tdiv 4) 0 32=true
  ·have h2:=inR_t hi
   rw[allot_s rfl hi]
   refine .inr ⟨rfl,h2,?_⟩
   rw[zeros_zr hh.1 h2.1,zr_len]
   ·exact hc
   ·have:(4:Int).tdiv 4=1:=rfl
    omega
  ·rw[allot_n (.inr (by simpa using hi))]
   exact .inl (by simp)
 rcases hx with hx|⟨hx,h2,h3⟩
 ·rw[show memR 44 d b c=allotF d 4 by simp only[memR];rw[if_pos hx]]
  have hx2:((allotF d 4).2 != 0)=true:=bne_iff_ne.2 hx
  generalize allotF d 4=x at k1 hx hx2
  refine Con.evP 127 [500000] rfl T_ok mix Tryz.func64 rfl rfl rfl rfl [.tmp 8] rfl ?_
  conv=>whnf
  (iterate 8 ((first|apply rq_s rfl|apply br_t rfl|apply br_f rfl|refine handp_s 92 [some 6] ?_);conv=>whnf));(focus (apply callpe_s (f:=92);(· repeat' (first|(refine sub_all ?_;simp[lms];done)|exact sub_map _ _ _ _|apply cons_eq|apply obj_eq|apply agg_eq|apply own_eq|apply ro_eq|apply rp_eq|apply fnc_eq|rfl));refine callp_s (f:=92) rfl (k0 ..) ?_;conv=>whnf));(iterate 4 ((first|apply rq_s rfl|refine fac_s (fun hf=> ?_)|refine handp_s 93 [some 6,none] ?_);conv=>whnf));(focus (apply callpe_s (f:=93);(· repeat' (first|(refine sub_all ?_;simp[lms];done)|exact sub_map _ _ _ _|apply cons_eq|apply obj_eq|apply agg_eq|apply own_eq|apply ro_eq|apply rp_eq|apply fnc_eq|rfl));refine callp_s (f:=93) rfl (k1 ..) ?_;conv=>whnf));iterate 9 (first|(apply rq_s rfl;conv=>whnf)|(refine rows_s (sub_all (by solve|simp[lms]|fail)) ?_;conv=>whnf)|(refine fac_s (fun hf=> ?_);conv=>whnf)|(refine br_t (by assumption) ?_;conv=>whnf)|(refine aftp_s (by rfl) ?_;conv=>whnf)|(exact True.intro))
  all_goals skip
 ·rw[show memR 44 d b c=storeF (allotF d 4).1 (4096+4*d.he) c by simp only[memR];rw[if_neg (by rw[hx];simp)]]
  have k2:=c91 (allotF d 4).1 (4096+4*d.he) c h2 h3 (by omega)
  have hx2:((allotF d 4).2 != 0)=false:=by rw[hx];rfl
  generalize allotF d 4=x at k1 k2 hx hx2
  refine Con.evP 127 [500000] rfl T_ok mix Tryz.func64 rfl rfl rfl rfl [.tmp 8] rfl ?_
  conv=>whnf
  (iterate 8 ((first|apply rq_s rfl|apply br_t rfl|apply br_f rfl|refine handp_s 92 [some 6] ?_);conv=>whnf));(focus (apply callpe_s (f:=92);(· repeat' (first|(refine sub_all ?_;simp[lms];done)|exact sub_map _ _ _ _|apply cons_eq|apply obj_eq|apply agg_eq|apply own_eq|apply ro_eq|apply rp_eq|apply fnc_eq|rfl));refine callp_s (f:=92) rfl (k0 ..) ?_;conv=>whnf));(iterate 4 ((first|apply rq_s rfl|refine fac_s (fun hf=> ?_)|refine handp_s 93 [some 6,none] ?_);conv=>whnf));(focus (apply callpe_s (f:=93);(· repeat' (first|(refine sub_all ?_;simp[lms];done)|exact sub_map _ _ _ _|apply cons_eq|apply obj_eq|apply agg_eq|apply own_eq|apply ro_eq|apply rp_eq|apply fnc_eq|rfl));refine callp_s (f:=93) rfl (k1 ..) ?_;conv=>whnf));(iterate 6 ((first|apply rq_s rfl|refine fac_s (fun hf=> ?_)|refine br_f (by assumption) ?_|refine handp_s 91 [some 6,none,none] ?_);conv=>whnf));(focus (apply callpe_s (f:=91);(· repeat' (first|(refine sub_all ?_;simp[lms];done)|exact sub_map _ _ _ _|apply cons_eq|apply obj_eq|apply agg_eq|apply own_eq|apply ro_eq|apply rp_eq|apply fnc_eq|rfl));refine callp_s (f:=91) rfl (k2 ..) ?_;conv=>whnf));iterate 8 (first|(apply rq_s rfl;conv=>whnf)|(refine rows_s (sub_all (by solve|simp[lms]|fail)) ?_;conv=>whnf)|(refine fac_s (fun hf=> ?_);conv=>whnf)|(refine aftp_s (by rfl) ?_;conv=>whnf)|(exact True.intro))
  all_goals skip
theorem mem45(d:Dat)(b c:Int)(h:Dk d)(qb: -2147483648≤b∧b≤2147483647)(qc: -2147483648≤c∧c≤2147483647):Con Tryz.prog 64 [.obj (datC d),.int .i64 45,.int .i64 b,.int .i64 c] [.obj (datC (memR 45 d b c).1),.undef,.undef,.undef] (.int .i64 (memR 45 d b c).2):=by
 have hc:=h.ce
 have hh:=h.he
 have e:UInt8.ofNat (IntKind.u8.wrap c).toNat=UInt8.ofNat (c%256).toNat:=rfl
 have k1:=c94 d [UInt8.ofNat (IntKind.u8.wrap c).toNat] h.ou (by simp)
 rw[show memR 45 d b c=sayF d [UInt8.ofNat (IntKind.u8.wrap c).toNat]from rfl]
 refine Con.evP 127 [500000] rfl T_ok mix Tryz.func64 rfl rfl rfl rfl [.tmp 8] rfl ?_
 conv=>whnf
 (iterate 14 ((first|refine rq_s (by solve|simp only[lms]|fail) ?_|apply rq_s rfl|refine byt_s rfl ?_|apply br_t rfl|apply br_f rfl|refine handp_s 94 [some 6,none] ?_);conv=>whnf));(focus (apply callpe_s (f:=94);(· repeat' (first|(refine sub_all ?_;simp[lms];done)|exact sub_map _ _ _ _|apply cons_eq|apply obj_eq|apply agg_eq|apply own_eq|apply ro_eq|apply rp_eq|apply fnc_eq|rfl));refine callp_s (f:=94) rfl (k1 ..) ?_;conv=>whnf));iterate 8 (first|(apply rq_s rfl;conv=>whnf)|(refine rows_s (sub_all (by solve|simp[lms]|fail)) ?_;conv=>whnf)|(refine fac_s (fun hf=> ?_);conv=>whnf)|(refine aftp_s (by rfl) ?_;conv=>whnf)|(exact True.intro))
 all_goals skip
theorem mem46(d:Dat)(b c:Int)(h:Dk d)(qb: -2147483648≤b∧b≤2147483647)(qc: -2147483648≤c∧c≤2147483647):Con Tryz.prog 64 [.obj (datC d),.int .i64 46,.int .i64 b,.int .i64 c] [.obj (datC (memR 46 d b c).1),.undef,.undef,.undef] (.int .i64 (memR 46 d b c).2):=by
 have hc:=h.ce
 have hh:=h.he
 have eb:((d.ba.toNat:Nat):Int)=d.ba:=by have:=h.ba;omega
 have hcell:cell c=true:=by simp[cell,inR];omega
 have hb16:2≤d.ba.toNat∧d.ba.toNat≤16:=by have:=h.ba;omega
 have k0:=c95 c d.ba.toNat hcell hb16
 have hl:=txt_len c hb16.1 hcell
 rw[eb]at k0
 have k1:=c94 d (txtF c d.ba.toNat++[32]) h.ou (by simp;omega)
 rw[show memR 46 d b c=sayF d (txtF c d.ba.toNat++[32])from rfl]
 refine Con.evP 127 [500000] rfl T_ok mix Tryz.func64 rfl rfl rfl rfl [.tmp 8] rfl ?_
 conv=>whnf
 (iterate 19 ((first|apply rq_s rfl|refine rq_s (by(((exact decide_eq_true (by unfold maxStr;simp;omega))))) ?_|refine fac_s (fun hf=> ?_)|apply br_t rfl|apply br_f rfl|refine handp_s 94 [some 6,none] ?_|apply lend_s|refine call_s (k0 ..) ?_);conv=>whnf));(focus (apply callpe_s (f:=94);(· repeat' (first|(refine sub_all ?_;simp[lms];done)|exact sub_map _ _ _ _|apply cons_eq|apply obj_eq|apply agg_eq|apply own_eq|apply ro_eq|apply rp_eq|apply fnc_eq|rfl));refine callp_s (f:=94) rfl (k1 ..) ?_;conv=>whnf));iterate 8 (first|(apply rq_s rfl;conv=>whnf)|(refine rows_s (sub_all (by solve|simp[lms]|fail)) ?_;conv=>whnf)|(refine fac_s (fun hf=> ?_);conv=>whnf)|(refine aftp_s (by rfl) ?_;conv=>whnf)|(exact True.intro))
 all_goals skip
theorem mem47(d:Dat)(b c:Int)(h:Dk d)(qb: -2147483648≤b∧b≤2147483647)(qc: -2147483648≤c∧c≤2147483647):Con Tryz.prog 64 [.obj (datC d),.int .i64 47,.int .i64 b,.int .i64 c] [.obj (datC (memR 47 d b c).1),.undef,.undef,.undef] (.int .i64 (memR 47 d b c).2):=by
 have hc:=h.ce
 have hh:=h.he
 have k1:=c94 d [10] h.ou (by simp)
 rw[show memR 47 d b c=sayF d [10]from rfl]
 refine Con.evP 127 [500000] rfl T_ok mix Tryz.func64 rfl rfl rfl rfl [.tmp 8] rfl ?_
 conv=>whnf
 (iterate 12 ((first|apply rq_s rfl|apply br_t rfl|apply br_f rfl|refine handp_s 94 [some 6,none] ?_);conv=>whnf));(focus (apply callpe_s (f:=94);(· repeat' (first|(refine sub_all ?_;simp[lms];done)|exact sub_map _ _ _ _|apply cons_eq|apply obj_eq|apply agg_eq|apply own_eq|apply ro_eq|apply rp_eq|apply fnc_eq|rfl));refine callp_s (f:=94) rfl (k1 ..) ?_;conv=>whnf));iterate 8 (first|(apply rq_s rfl;conv=>whnf)|(refine rows_s (sub_all (by solve|simp[lms]|fail)) ?_;conv=>whnf)|(refine fac_s (fun hf=> ?_);conv=>whnf)|(refine aftp_s (by rfl) ?_;conv=>whnf)|(exact True.intro))
theorem mem48(d:Dat)(b c:Int)(h:Dk d)(qb: -2147483648≤b∧b≤2147483647)(qc: -2147483648≤c∧c≤2147483647):Con Tryz.prog 64 [.obj (datC d),.int .i64 48,.int .i64 b,.int .i64 c] [.obj (datC (memR 48 d b c).1),.undef,.undef,.undef] (.int .i64 (memR 48 d b c).2):=by
 have hc:=h.ce
 have hh:=h.he
 have k1:=c94 d [32] h.ou (by simp)
 rw[show memR 48 d b c=sayF d [32]from rfl]
 refine Con.evP 127 [500000] rfl T_ok mix Tryz.func64 rfl rfl rfl rfl [.tmp 8] rfl ?_
 conv=>whnf
 (iterate 13 ((first|apply rq_s rfl|apply br_t rfl|apply br_f rfl|refine handp_s 94 [some 6,none] ?_);conv=>whnf));(focus (apply callpe_s (f:=94);(· repeat' (first|(refine sub_all ?_;simp[lms];done)|exact sub_map _ _ _ _|apply cons_eq|apply obj_eq|apply agg_eq|apply own_eq|apply ro_eq|apply rp_eq|apply fnc_eq|rfl));refine callp_s (f:=94) rfl (k1 ..) ?_;conv=>whnf));iterate 8 (first|(apply rq_s rfl;conv=>whnf)|(refine rows_s (sub_all (by solve|simp[lms]|fail)) ?_;conv=>whnf)|(refine fac_s (fun hf=> ?_);conv=>whnf)|(refine aftp_s (by rfl) ?_;conv=>whnf)|(exact True.intro))
theorem mem49(d:Dat)(b c:Int)(h:Dk d)(qb: -2147483648≤b∧b≤2147483647)(qc: -2147483648≤c∧c≤2147483647):Con Tryz.prog 64 [.obj (datC d),.int .i64 49,.int .i64 b,.int .i64 c] [.obj (datC (memR 49 d b c).1),.undef,.undef,.undef] (.int .i64 (memR 49 d b c).2):=by
 have hc:=h.ce
 have hh:=h.he
 refine Con.evP 127 [500000] rfl T_ok mix Tryz.func64 rfl rfl rfl rfl [.tmp 8] rfl ?_
 conv=>whnf
 iterate 19 (first|(apply rq_s rfl;conv=>whnf)|(refine rows_s (sub_all (by solve|simp[lms]|fail)) ?_;conv=>whnf)|(apply br_t rfl;conv=>whnf)|(apply br_f rfl;conv=>whnf)|(refine aftp_s (by rfl) ?_;conv=>whnf)|(exact True.intro))
theorem mem50(d:Dat)(b c:Int)(h:Dk d)(qb: -2147483648≤b∧b≤2147483647)(qc: -2147483648≤c∧c≤2147483647):Con Tryz.prog 64 [.obj (datC d),.int .i64 50,.int .i64 b,.int .i64 c] [.obj (datC (memR 50 d b c).1),.undef,.undef,.undef] (.int .i64 (memR 50 d b c).2):=by
 have hc:=h.ce
 have hh:=h.he
 refine Con.evP 127 [500000] rfl T_ok mix Tryz.func64 rfl rfl rfl rfl [.tmp 8] rfl ?_
 conv=>whnf
 iterate 20 (first|(apply rq_s rfl;conv=>whnf)|(refine rows_s (sub_all (by solve|simp[lms]|fail)) ?_;conv=>whnf)|(apply br_t rfl;conv=>whnf)|(apply br_f rfl;conv=>whnf)|(refine aftp_s (by rfl) ?_;conv=>whnf)|(exact True.intro))
end P4

/- Prims in place, by the program; contracts. -/
open Go Go.Abs Go.Proofs V1 H1 F1 F2 T1 T2 T3 P1 P2 P3 P4
namespace P5
theorem c62(d:Dat)(n:Nat)(h:d.bk.length≤32)(hn:n≤d.bk.length):Con Tryz.prog 62 [.obj (datC d),.int .i64 n] [.obj (datC {d with bk:=d.bk.take (d.bk.length-n)}),.undef] (.tup []):=by
 have w1:IntKind.i64.wrap ((d.bk.length:Int)-(n:Int))=((d.bk.length-n:Nat):Int):=by rw[wrap64 (by omega) (by omega)];omega
 refine Con.evP 19 [500000] rfl T_ok mix Tryz.func62 rfl rfl rfl rfl [] rfl ?_
 conv=>whnf
 iterate 28 ((first|refine rq_s (by solve|simp only[lms]|fail) ?_|apply rq_s rfl|refine rq_s (by refine and_s rfl ?_;simp only[lnm];omega) ?_|refine rq_s (by simp only[Bool.and_eq_true,decide_eq_true_eq,List.length_map];omega) ?_|refine rows_s (sub_all (by solve|simp[lms]|fail)) ?_|refine rows_s (by(exact sub_map _ _ _ _)) ?_|refine ChkS.mk (by kernel_rfl) ?_|refine aftp_s (by rfl) ?_);conv=>whnf)
 rotate_left
 refine aftps_s (Sh.agg ⟨Sh.refl _,sh_eq ?_,Sh.refl _,Sh.refl _,Sh.refl _,Sh.refl _,trivial⟩) ?_
 ·simp[w1,ownI]
 ·conv=>whnf
  exact True.intro
def TX(n ba:Int):List UInt8:=txtF n ba.toNat
def z3:List (List AV):=[[.int .i64 0],[.int .i64 0],[.int .i64 0]]
theorem sub_last{r l:List Int}{d:List Int}(hs:d=r++l){n m:Nat}(hn:n=r.length)(hm:m=l.length):subA (d.map intR) n m=l.map intR:=by
 subst hs hn hm
 simp[subA,List.take_of_length_le]
theorem cp0{r:List Int}{d:List Int}(hs:d=r++[])(w:IntKind.i64.wrap ((((d.map intR).length:Nat):Int)-0)=(r.length:Int)):
  List.take (0+(IntKind.i64.wrap (3-0)).toNat) z3++List.take (z3.length-(IntKind.i64.wrap (3-0)).toNat) (subA (d.map intR) (0+(IntKind.i64.wrap ((((d.map intR).length:Nat):Int)-0)).toNat) ((d.map intR).length-(IntKind.i64.wrap ((((d.map intR).length:Nat):Int)-0)).toNat))++
   List.drop (0+(IntKind.i64.wrap (3-0)).toNat+min (subA (d.map intR) (0+(IntKind.i64.wrap ((((d.map intR).length:Nat):Int)-0)).toNat) ((d.map intR).length-(IntKind.i64.wrap ((((d.map intR).length:Nat):Int)-0)).toNat)).length (z3.length-(IntKind.i64.wrap (3-0)).toNat)) z3=[[.int .i64 0],[.int .i64 0],[.int .i64 0]]:=by
 have hl:(d.map intR).length=r.length+0:=by rw[hs];simp
 rw[w,sub_last hs (by omega) (by rw[hl];simp)]
 rfl
theorem cp1{r:List Int}{c:Int}{d:List Int}(hs:d=r++[c])(w:IntKind.i64.wrap ((((d.map intR).length:Nat):Int)-1)=(r.length:Int)):
  List.take (0+(IntKind.i64.wrap (3-1)).toNat) z3++List.take (z3.length-(IntKind.i64.wrap (3-1)).toNat) (subA (d.map intR) (0+(IntKind.i64.wrap ((((d.map intR).length:Nat):Int)-1)).toNat) ((d.map intR).length-(IntKind.i64.wrap ((((d.map intR).length:Nat):Int)-1)).toNat))++
   List.drop (0+(IntKind.i64.wrap (3-1)).toNat+min (subA (d.map intR) (0+(IntKind.i64.wrap ((((d.map intR).length:Nat):Int)-1)).toNat) ((d.map intR).length-(IntKind.i64.wrap ((((d.map intR).length:Nat):Int)-1)).toNat)).length (z3.length-(IntKind.i64.wrap (3-1)).toNat)) z3=[[.int .i64 0],[.int .i64 0],[.int .i64 c]]:=by
 have hl:(d.map intR).length=r.length+1:=by rw[hs];simp
 rw[w,sub_last hs (by omega) (by rw[hl];simp)]
 rfl
theorem cp2{r:List Int}{b c:Int}{d:List Int}(hs:d=r++[b,c])(w:IntKind.i64.wrap ((((d.map intR).length:Nat):Int)-2)=(r.length:Int)):
  List.take (0+(IntKind.i64.wrap (3-2)).toNat) z3++List.take (z3.length-(IntKind.i64.wrap (3-2)).toNat) (subA (d.map intR) (0+(IntKind.i64.wrap ((((d.map intR).length:Nat):Int)-2)).toNat) ((d.map intR).length-(IntKind.i64.wrap ((((d.map intR).length:Nat):Int)-2)).toNat))++
   List.drop (0+(IntKind.i64.wrap (3-2)).toNat+min (subA (d.map intR) (0+(IntKind.i64.wrap ((((d.map intR).length:Nat):Int)-2)).toNat) ((d.map intR).length-(IntKind.i64.wrap ((((d.map intR).length:Nat):Int)-2)).toNat)).length (z3.length-(IntKind.i64.wrap (3-2)).toNat)) z3=[[.int .i64 0],[.int .i64 b],[.int .i64 c]]:=by
 have hl:(d.map intR).length=r.length+2:=by rw[hs];simp
 rw[w,sub_last hs (by omega) (by rw[hl];simp)]
 rfl
theorem cp3{r:List Int}{a b c:Int}{d:List Int}(hs:d=r++[a,b,c])(w:IntKind.i64.wrap ((((d.map intR).length:Nat):Int)-3)=(r.length:Int)):
  List.take (0+(IntKind.i64.wrap (3-3)).toNat) z3++List.take (z3.length-(IntKind.i64.wrap (3-3)).toNat) (subA (d.map intR) (0+(IntKind.i64.wrap ((((d.map intR).length:Nat):Int)-3)).toNat) ((d.map intR).length-(IntKind.i64.wrap ((((d.map intR).length:Nat):Int)-3)).toNat))++
   List.drop (0+(IntKind.i64.wrap (3-3)).toNat+min (subA (d.map intR) (0+(IntKind.i64.wrap ((((d.map intR).length:Nat):Int)-3)).toNat) ((d.map intR).length-(IntKind.i64.wrap ((((d.map intR).length:Nat):Int)-3)).toNat)).length (z3.length-(IntKind.i64.wrap (3-3)).toNat)) z3=[[.int .i64 a],[.int .i64 b],[.int .i64 c]]:=by
 have hl:(d.map intR).length=r.length+3:=by rw[hs];simp
 rw[w,sub_last hs (by omega) (by rw[hl];simp)]
 rfl
theorem prim2(d:Dat)(r:List Int)(a b c:Int)(fl:Int)(h:Dk d)(hs:d.st=r++[c])(hb0:d.bk.length≤32)(hf:0≤fl∧fl≤d.bk.length)(hk:0≤(d.bk.length:Int)-fl)(qb: -2147483648≤b∧b≤2147483647)(qc: -2147483648≤c∧c≤2147483647):Con Tryz.prog 36 [.obj (datC d),.int .i64 2,.int .i64 fl] [.obj (datC (primR TX 2 d r a b c).1),.undef,.undef] (.int .i64 (primR TX 2 d r a b c).2):=by
 have kt:Con Tryz.prog 45 [.int .i64 2] (undefs [.int .i64 2]) (.int .i64 1):=c45 2 (by unfold P52;omega)
 have kk:Con Tryz.prog 59 [.int .i64 2] (undefs [.int .i64 2]) (.int .i64 0):=c59 2 (by unfold P52;omega)
 have hst:=h.st
 have hl:d.st.length=r.length+1:=by rw[hs];simp
 have g0:decide ((((d.st.map intR).length:Nat):Int)<1)=false:=by rw[List.length_map];exact decide_eq_false (by omega)
 have wf:IntKind.i64.wrap ((((d.bk.map intR).length:Nat):Int)-fl)=(d.bk.length:Int)-fl:=by rw[List.length_map];exact wrap64 (by omega) (by omega)
 have g1:decide (IntKind.i64.wrap ((((d.bk.map intR).length:Nat):Int)-fl)<0)=false:=by rw[wf];exact decide_eq_false (by omega)
 have w2:IntKind.i64.wrap ((((d.st.map intR).length:Nat):Int)-1)=(r.length:Int):=by rw[List.length_map,wrap64 (by omega) (by omega)];omega
 have er:List.take ((IntKind.i64.wrap ((((d.st.map intR).length:Nat):Int)-1)).toNat-0) (List.drop (0+0) d.st)=r:=by rw[w2,hs];simp
 rw[←er]
 refine Con.evP 242 [500000] rfl T_ok mix Tryz.func36 rfl rfl rfl rfl [.tmp 6] rfl ?_
 conv=>whnf
 (iterate 115 ((first|refine rq_s (by solve|simp only[lms]|fail) ?_|apply rq_s rfl|refine rq_s (by rw[w2];first|exact decide_eq_true (by omega)|(rw[List.length_map];first|exact decide_eq_true (by omega)|(simp;omega))) ?_|refine row_s (by(rfl)) ?_|refine rows_s (by(exact(show _=z3 from rfl))) ?_|refine rows_s (by(exact cp1 hs w2)) ?_|refine fac_s (fun hf=> ?_)|refine ChkS.mk (by kernel_rfl) ?_|refine br_f (by assumption) ?_|apply lend_s|refine call_s (kt ..) ?_|refine call_s (kk ..) ?_);conv=>whnf));iterate 12 (first|(apply rq_s rfl;conv=>whnf)|(refine rows_s (sub_all (by solve|simp[lms]|fail)) ?_;conv=>whnf)|(refine rows_s (by(exact sub_map _ _ _ _)) ?_;conv=>whnf)|(apply br_t rfl;conv=>whnf)|(apply br_f rfl;conv=>whnf)|(refine call_s (c33 ..) ?_;conv=>whnf)|(refine aftp_s (by rfl) ?_;conv=>whnf)|(exact True.intro))
 all_goals skip
theorem prim1(d:Dat)(r:List Int)(a b c:Int)(fl:Int)(h:Dk d)(hs:d.st=r++[c])(hb0:d.bk.length≤32)(hf:0≤fl∧fl≤d.bk.length)(hk:0≤(d.bk.length:Int)-fl)(qb: -2147483648≤b∧b≤2147483647)(qc: -2147483648≤c∧c≤2147483647):Con Tryz.prog 36 [.obj (datC d),.int .i64 1,.int .i64 fl] [.obj (datC (primR TX 1 d r a b c).1),.undef,.undef] (.int .i64 (primR TX 1 d r a b c).2):=by
 have kt:Con Tryz.prog 45 [.int .i64 1] (undefs [.int .i64 1]) (.int .i64 1):=c45 1 (by unfold P52;omega)
 have kk:Con Tryz.prog 59 [.int .i64 1] (undefs [.int .i64 1]) (.int .i64 0):=c59 1 (by unfold P52;omega)
 have hst:=h.st
 have hl:d.st.length=r.length+1:=by rw[hs];simp
 have g0:decide ((((d.st.map intR).length:Nat):Int)<1)=false:=by rw[List.length_map];exact decide_eq_false (by omega)
 have wf:IntKind.i64.wrap ((((d.bk.map intR).length:Nat):Int)-fl)=(d.bk.length:Int)-fl:=by rw[List.length_map];exact wrap64 (by omega) (by omega)
 have g1:decide (IntKind.i64.wrap ((((d.bk.map intR).length:Nat):Int)-fl)<0)=false:=by rw[wf];exact decide_eq_false (by omega)
 have w2:IntKind.i64.wrap ((((d.st.map intR).length:Nat):Int)-1)=(r.length:Int):=by rw[List.length_map,wrap64 (by omega) (by omega)];omega
 have er:List.take ((IntKind.i64.wrap ((((d.st.map intR).length:Nat):Int)-1)).toNat-0) (List.drop (0+0) d.st)=r:=by rw[w2,hs];simp
 have k1:=c61 {d with st:=List.take ((IntKind.i64.wrap ((((d.st.map intR).length:Nat):Int)-1)).toNat-0) (List.drop (0+0) d.st)} [c,c] (by rw[er];simp only;omega) (by simp)
 rw[←er]
 rw[show primR TX 1 d (List.take ((IntKind.i64.wrap ((((d.st.map intR).length:Nat):Int)-1)).toNat-0) (List.drop (0+0) d.st)) a b c=pushL {d with st:=List.take ((IntKind.i64.wrap ((((d.st.map intR).length:Nat):Int)-1)).toNat-0) (List.drop (0+0) d.st)} [c,c]from rfl]
 refine Con.evP 242 [500000] rfl T_ok mix Tryz.func36 rfl rfl rfl rfl [.tmp 6] rfl ?_
 conv=>whnf
 (iterate 115 ((first|refine rq_s (by solve|simp only[lms]|fail) ?_|apply rq_s rfl|refine rq_s (by rw[w2];first|exact decide_eq_true (by omega)|(rw[List.length_map];first|exact decide_eq_true (by omega)|(simp;omega))) ?_|refine row_s (by(rfl)) ?_|refine rows_s (by(exact(show _=z3 from rfl))) ?_|refine rows_s (by(exact cp1 hs w2)) ?_|refine fac_s (fun hf=> ?_)|refine ChkS.mk (by kernel_rfl) ?_|refine br_f (by assumption) ?_|apply lend_s|refine call_s (kt ..) ?_|refine call_s (kk ..) ?_);conv=>whnf));(iterate 8 ((first|refine rq_s (by solve|simp only[lms]|fail) ?_|apply rq_s rfl|apply br_t rfl|apply br_f rfl|refine handp_s 61 [some 6,none] ?_|refine call_s (c33 ..) ?_);conv=>whnf));(focus (apply callpe_s (f:=61);(· repeat' (first|(refine sub_all ?_;simp[lms];done)|exact sub_map _ _ _ _|apply cons_eq|apply obj_eq|apply agg_eq|apply own_eq|apply ro_eq|apply rp_eq|apply fnc_eq|rfl));refine callp_s (f:=61) rfl (k1 ..) ?_;conv=>whnf));iterate 8 (first|(apply rq_s rfl;conv=>whnf)|(refine rows_s (sub_all (by solve|simp[lms]|fail)) ?_;conv=>whnf)|(refine fac_s (fun hf=> ?_);conv=>whnf)|(refine aftp_s (by rfl) ?_;conv=>whnf)|(exact True.intro))
 all_goals skip
theorem prim10(d:Dat)(r:List Int)(a b c:Int)(fl:Int)(h:Dk d)(hs:d.st=r++[b,c])(hb0:d.bk.length≤32)(hf:0≤fl∧fl≤d.bk.length)(hk:0≤(d.bk.length:Int)-fl)(qb: -2147483648≤b∧b≤2147483647)(qc: -2147483648≤c∧c≤2147483647):Con Tryz.prog 36 [.obj (datC d),.int .i64 10,.int .i64 fl] [.obj (datC (primR TX 10 d r a b c).1),.undef,.undef] (.int .i64 (primR TX 10 d r a b c).2):=by
 have kt:Con Tryz.prog 45 [.int .i64 10] (undefs [.int .i64 10]) (.int .i64 2):=c45 10 (by unfold P52;omega)
 have kk:Con Tryz.prog 59 [.int .i64 10] (undefs [.int .i64 10]) (.int .i64 0):=c59 10 (by unfold P52;omega)
 have hst:=h.st
 have hl:d.st.length=r.length+2:=by rw[hs];simp
 have g0:decide ((((d.st.map intR).length:Nat):Int)<2)=false:=by rw[List.length_map];exact decide_eq_false (by omega)
 have wf:IntKind.i64.wrap ((((d.bk.map intR).length:Nat):Int)-fl)=(d.bk.length:Int)-fl:=by rw[List.length_map];exact wrap64 (by omega) (by omega)
 have g1:decide (IntKind.i64.wrap ((((d.bk.map intR).length:Nat):Int)-fl)<0)=false:=by rw[wf];exact decide_eq_false (by omega)
 have w2:IntKind.i64.wrap ((((d.st.map intR).length:Nat):Int)-2)=(r.length:Int):=by rw[List.length_map,wrap64 (by omega) (by omega)];omega
 have er:List.take ((IntKind.i64.wrap ((((d.st.map intR).length:Nat):Int)-2)).toNat-0) (List.drop (0+0) d.st)=r:=by rw[w2,hs];simp
 rw[←er]
 refine Con.evP 242 [500000] rfl T_ok mix Tryz.func36 rfl rfl rfl rfl [.tmp 6] rfl ?_
 conv=>whnf
 (iterate 115 ((first|refine rq_s (by solve|simp only[lms]|fail) ?_|apply rq_s rfl|refine rq_s (by rw[w2];first|exact decide_eq_true (by omega)|(rw[List.length_map];first|exact decide_eq_true (by omega)|(simp;omega))) ?_|refine row_s (by(rfl)) ?_|refine rows_s (by(exact(show _=z3 from rfl))) ?_|refine rows_s (by(exact cp2 hs w2)) ?_|refine fac_s (fun hf=> ?_)|refine ChkS.mk (by kernel_rfl) ?_|refine br_f (by assumption) ?_|apply lend_s|refine call_s (kt ..) ?_|refine call_s (kk ..) ?_);conv=>whnf));iterate 12 (first|(apply rq_s rfl;conv=>whnf)|(refine rows_s (sub_all (by solve|simp[lms]|fail)) ?_;conv=>whnf)|(refine rows_s (by(exact sub_map _ _ _ _)) ?_;conv=>whnf)|(apply br_t rfl;conv=>whnf)|(apply br_f rfl;conv=>whnf)|(refine call_s (c33 ..) ?_;conv=>whnf)|(refine aftp_s (by rfl) ?_;conv=>whnf)|(exact True.intro))
 all_goals skip
theorem prim3(d:Dat)(r:List Int)(a b c:Int)(fl:Int)(h:Dk d)(hs:d.st=r++[b,c])(hb0:d.bk.length≤32)(hf:0≤fl∧fl≤d.bk.length)(hk:0≤(d.bk.length:Int)-fl)(qb: -2147483648≤b∧b≤2147483647)(qc: -2147483648≤c∧c≤2147483647):Con Tryz.prog 36 [.obj (datC d),.int .i64 3,.int .i64 fl] [.obj (datC (primR TX 3 d r a b c).1),.undef,.undef] (.int .i64 (primR TX 3 d r a b c).2):=by
 have kt:Con Tryz.prog 45 [.int .i64 3] (undefs [.int .i64 3]) (.int .i64 2):=c45 3 (by unfold P52;omega)
 have kk:Con Tryz.prog 59 [.int .i64 3] (undefs [.int .i64 3]) (.int .i64 0):=c59 3 (by unfold P52;omega)
 have hst:=h.st
 have hl:d.st.length=r.length+2:=by rw[hs];simp
 have g0:decide ((((d.st.map intR).length:Nat):Int)<2)=false:=by rw[List.length_map];exact decide_eq_false (by omega)
 have wf:IntKind.i64.wrap ((((d.bk.map intR).length:Nat):Int)-fl)=(d.bk.length:Int)-fl:=by rw[List.length_map];exact wrap64 (by omega) (by omega)
 have g1:decide (IntKind.i64.wrap ((((d.bk.map intR).length:Nat):Int)-fl)<0)=false:=by rw[wf];exact decide_eq_false (by omega)
 have w2:IntKind.i64.wrap ((((d.st.map intR).length:Nat):Int)-2)=(r.length:Int):=by rw[List.length_map,wrap64 (by omega) (by omega)];omega
 have er:List.take ((IntKind.i64.wrap ((((d.st.map intR).length:Nat):Int)-2)).toNat-0) (List.drop (0+0) d.st)=r:=by rw[w2,hs];simp
 have k1:=c61 {d with st:=List.take ((IntKind.i64.wrap ((((d.st.map intR).length:Nat):Int)-2)).toNat-0) (List.drop (0+0) d.st)} [c,b] (by rw[er];simp only;omega) (by simp)
 rw[←er]
 rw[show primR TX 3 d (List.take ((IntKind.i64.wrap ((((d.st.map intR).length:Nat):Int)-2)).toNat-0) (List.drop (0+0) d.st)) a b c=pushL {d with st:=List.take ((IntKind.i64.wrap ((((d.st.map intR).length:Nat):Int)-2)).toNat-0) (List.drop (0+0) d.st)} [c,b]from rfl]
 refine Con.evP 242 [500000] rfl T_ok mix Tryz.func36 rfl rfl rfl rfl [.tmp 6] rfl ?_
 conv=>whnf
 (iterate 115 ((first|refine rq_s (by solve|simp only[lms]|fail) ?_|apply rq_s rfl|refine rq_s (by rw[w2];first|exact decide_eq_true (by omega)|(rw[List.length_map];first|exact decide_eq_true (by omega)|(simp;omega))) ?_|refine row_s (by(rfl)) ?_|refine rows_s (by(exact(show _=z3 from rfl))) ?_|refine rows_s (by(exact cp2 hs w2)) ?_|refine fac_s (fun hf=> ?_)|refine ChkS.mk (by kernel_rfl) ?_|refine br_f (by assumption) ?_|apply lend_s|refine call_s (kt ..) ?_|refine call_s (kk ..) ?_);conv=>whnf));(iterate 11 ((first|refine rq_s (by solve|simp only[lms]|fail) ?_|apply rq_s rfl|apply br_t rfl|apply br_f rfl|refine handp_s 61 [some 6,none] ?_|refine call_s (c33 ..) ?_);conv=>whnf));(focus (apply callpe_s (f:=61);(· repeat' (first|(refine sub_all ?_;simp[lms];done)|exact sub_map _ _ _ _|apply cons_eq|apply obj_eq|apply agg_eq|apply own_eq|apply ro_eq|apply rp_eq|apply fnc_eq|rfl));refine callp_s (f:=61) rfl (k1 ..) ?_;conv=>whnf));iterate 8 (first|(apply rq_s rfl;conv=>whnf)|(refine rows_s (sub_all (by solve|simp[lms]|fail)) ?_;conv=>whnf)|(refine fac_s (fun hf=> ?_);conv=>whnf)|(refine aftp_s (by rfl) ?_;conv=>whnf)|(exact True.intro))
 all_goals skip
theorem prim4(d:Dat)(r:List Int)(a b c:Int)(fl:Int)(h:Dk d)(hs:d.st=r++[b,c])(hb0:d.bk.length≤32)(hf:0≤fl∧fl≤d.bk.length)(hk:0≤(d.bk.length:Int)-fl)(qb: -2147483648≤b∧b≤2147483647)(qc: -2147483648≤c∧c≤2147483647):Con Tryz.prog 36 [.obj (datC d),.int .i64 4,.int .i64 fl] [.obj (datC (primR TX 4 d r a b c).1),.undef,.undef] (.int .i64 (primR TX 4 d r a b c).2):=by
 have kt:Con Tryz.prog 45 [.int .i64 4] (undefs [.int .i64 4]) (.int .i64 2):=c45 4 (by unfold P52;omega)
 have kk:Con Tryz.prog 59 [.int .i64 4] (undefs [.int .i64 4]) (.int .i64 0):=c59 4 (by unfold P52;omega)
 have hst:=h.st
 have hl:d.st.length=r.length+2:=by rw[hs];simp
 have g0:decide ((((d.st.map intR).length:Nat):Int)<2)=false:=by rw[List.length_map];exact decide_eq_false (by omega)
 have wf:IntKind.i64.wrap ((((d.bk.map intR).length:Nat):Int)-fl)=(d.bk.length:Int)-fl:=by rw[List.length_map];exact wrap64 (by omega) (by omega)
 have g1:decide (IntKind.i64.wrap ((((d.bk.map intR).length:Nat):Int)-fl)<0)=false:=by rw[wf];exact decide_eq_false (by omega)
 have w2:IntKind.i64.wrap ((((d.st.map intR).length:Nat):Int)-2)=(r.length:Int):=by rw[List.length_map,wrap64 (by omega) (by omega)];omega
 have er:List.take ((IntKind.i64.wrap ((((d.st.map intR).length:Nat):Int)-2)).toNat-0) (List.drop (0+0) d.st)=r:=by rw[w2,hs];simp
 have k1:=c61 {d with st:=List.take ((IntKind.i64.wrap ((((d.st.map intR).length:Nat):Int)-2)).toNat-0) (List.drop (0+0) d.st)} [b,c,b] (by rw[er];simp only;omega) (by simp)
 rw[←er]
 rw[show primR TX 4 d (List.take ((IntKind.i64.wrap ((((d.st.map intR).length:Nat):Int)-2)).toNat-0) (List.drop (0+0) d.st)) a b c=pushL {d with st:=List.take ((IntKind.i64.wrap ((((d.st.map intR).length:Nat):Int)-2)).toNat-0) (List.drop (0+0) d.st)} [b,c,b]from rfl]
 refine Con.evP 242 [500000] rfl T_ok mix Tryz.func36 rfl rfl rfl rfl [.tmp 6] rfl ?_
 conv=>whnf
 (iterate 115 ((first|refine rq_s (by solve|simp only[lms]|fail) ?_|apply rq_s rfl|refine rq_s (by rw[w2];first|exact decide_eq_true (by omega)|(rw[List.length_map];first|exact decide_eq_true (by omega)|(simp;omega))) ?_|refine row_s (by(rfl)) ?_|refine rows_s (by(exact(show _=z3 from rfl))) ?_|refine rows_s (by(exact cp2 hs w2)) ?_|refine fac_s (fun hf=> ?_)|refine ChkS.mk (by kernel_rfl) ?_|refine br_f (by assumption) ?_|apply lend_s|refine call_s (kt ..) ?_|refine call_s (kk ..) ?_);conv=>whnf));(iterate 12 ((first|refine rq_s (by solve|simp only[lms]|fail) ?_|apply rq_s rfl|apply br_t rfl|apply br_f rfl|refine handp_s 61 [some 6,none] ?_|refine call_s (c33 ..) ?_);conv=>whnf));(focus (apply callpe_s (f:=61);(· repeat' (first|(refine sub_all ?_;simp[lms];done)|exact sub_map _ _ _ _|apply cons_eq|apply obj_eq|apply agg_eq|apply own_eq|apply ro_eq|apply rp_eq|apply fnc_eq|rfl));refine callp_s (f:=61) rfl (k1 ..) ?_;conv=>whnf));iterate 8 (first|(apply rq_s rfl;conv=>whnf)|(refine rows_s (sub_all (by solve|simp[lms]|fail)) ?_;conv=>whnf)|(refine fac_s (fun hf=> ?_);conv=>whnf)|(refine aftp_s (by rfl) ?_;conv=>whnf)|(exact True.intro))
 all_goals skip
theorem prim6(d:Dat)(r:List Int)(a b c:Int)(fl:Int)(h:Dk d)(hs:d.st=r++[b,c])(hb0:d.bk.length≤32)(hf:0≤fl∧fl≤d.bk.length)(hk:0≤(d.bk.length:Int)-fl)(qb: -2147483648≤b∧b≤2147483647)(qc: -2147483648≤c∧c≤2147483647):Con Tryz.prog 36 [.obj (datC d),.int .i64 6,.int .i64 fl] [.obj (datC (primR TX 6 d r a b c).1),.undef,.undef] (.int .i64 (primR TX 6 d r a b c).2):=by
 have kt:Con Tryz.prog 45 [.int .i64 6] (undefs [.int .i64 6]) (.int .i64 2):=c45 6 (by unfold P52;omega)
 have kk:Con Tryz.prog 59 [.int .i64 6] (undefs [.int .i64 6]) (.int .i64 0):=c59 6 (by unfold P52;omega)
 have hst:=h.st
 have hl:d.st.length=r.length+2:=by rw[hs];simp
 have g0:decide ((((d.st.map intR).length:Nat):Int)<2)=false:=by rw[List.length_map];exact decide_eq_false (by omega)
 have wf:IntKind.i64.wrap ((((d.bk.map intR).length:Nat):Int)-fl)=(d.bk.length:Int)-fl:=by rw[List.length_map];exact wrap64 (by omega) (by omega)
 have g1:decide (IntKind.i64.wrap ((((d.bk.map intR).length:Nat):Int)-fl)<0)=false:=by rw[wf];exact decide_eq_false (by omega)
 have w2:IntKind.i64.wrap ((((d.st.map intR).length:Nat):Int)-2)=(r.length:Int):=by rw[List.length_map,wrap64 (by omega) (by omega)];omega
 have er:List.take ((IntKind.i64.wrap ((((d.st.map intR).length:Nat):Int)-2)).toNat-0) (List.drop (0+0) d.st)=r:=by rw[w2,hs];simp
 have k1:=c61 {d with st:=List.take ((IntKind.i64.wrap ((((d.st.map intR).length:Nat):Int)-2)).toNat-0) (List.drop (0+0) d.st)} [c] (by rw[er];simp only;omega) (by simp)
 rw[←er]
 rw[show primR TX 6 d (List.take ((IntKind.i64.wrap ((((d.st.map intR).length:Nat):Int)-2)).toNat-0) (List.drop (0+0) d.st)) a b c=pushL {d with st:=List.take ((IntKind.i64.wrap ((((d.st.map intR).length:Nat):Int)-2)).toNat-0) (List.drop (0+0) d.st)} [c]from rfl]
 refine Con.evP 242 [500000] rfl T_ok mix Tryz.func36 rfl rfl rfl rfl [.tmp 6] rfl ?_
 conv=>whnf
 (iterate 115 ((first|refine rq_s (by solve|simp only[lms]|fail) ?_|apply rq_s rfl|refine rq_s (by rw[w2];first|exact decide_eq_true (by omega)|(rw[List.length_map];first|exact decide_eq_true (by omega)|(simp;omega))) ?_|refine row_s (by(rfl)) ?_|refine rows_s (by(exact(show _=z3 from rfl))) ?_|refine rows_s (by(exact cp2 hs w2)) ?_|refine fac_s (fun hf=> ?_)|refine ChkS.mk (by kernel_rfl) ?_|refine br_f (by assumption) ?_|apply lend_s|refine call_s (kt ..) ?_|refine call_s (kk ..) ?_);conv=>whnf));(iterate 14 ((first|refine rq_s (by solve|simp only[lms]|fail) ?_|apply rq_s rfl|apply br_t rfl|apply br_f rfl|refine handp_s 61 [some 6,none] ?_|refine call_s (c33 ..) ?_);conv=>whnf));(focus (apply callpe_s (f:=61);(· repeat' (first|(refine sub_all ?_;simp[lms];done)|exact sub_map _ _ _ _|apply cons_eq|apply obj_eq|apply agg_eq|apply own_eq|apply ro_eq|apply rp_eq|apply fnc_eq|rfl));refine callp_s (f:=61) rfl (k1 ..) ?_;conv=>whnf));iterate 8 (first|(apply rq_s rfl;conv=>whnf)|(refine rows_s (sub_all (by solve|simp[lms]|fail)) ?_;conv=>whnf)|(refine fac_s (fun hf=> ?_);conv=>whnf)|(refine aftp_s (by rfl) ?_;conv=>whnf)|(exact True.intro))
 all_goals skip
theorem prim7(d:Dat)(r:List Int)(a b c:Int)(fl:Int)(h:Dk d)(hs:d.st=r++[b,c])(hb0:d.bk.length≤32)(hf:0≤fl∧fl≤d.bk.length)(hk:0≤(d.bk.length:Int)-fl)(qb: -2147483648≤b∧b≤2147483647)(qc: -2147483648≤c∧c≤2147483647):Con Tryz.prog 36 [.obj (datC d),.int .i64 7,.int .i64 fl] [.obj (datC (primR TX 7 d r a b c).1),.undef,.undef] (.int .i64 (primR TX 7 d r a b c).2):=by
 have kt:Con Tryz.prog 45 [.int .i64 7] (undefs [.int .i64 7]) (.int .i64 2):=c45 7 (by unfold P52;omega)
 have kk:Con Tryz.prog 59 [.int .i64 7] (undefs [.int .i64 7]) (.int .i64 0):=c59 7 (by unfold P52;omega)
 have hst:=h.st
 have hl:d.st.length=r.length+2:=by rw[hs];simp
 have g0:decide ((((d.st.map intR).length:Nat):Int)<2)=false:=by rw[List.length_map];exact decide_eq_false (by omega)
 have wf:IntKind.i64.wrap ((((d.bk.map intR).length:Nat):Int)-fl)=(d.bk.length:Int)-fl:=by rw[List.length_map];exact wrap64 (by omega) (by omega)
 have g1:decide (IntKind.i64.wrap ((((d.bk.map intR).length:Nat):Int)-fl)<0)=false:=by rw[wf];exact decide_eq_false (by omega)
 have w2:IntKind.i64.wrap ((((d.st.map intR).length:Nat):Int)-2)=(r.length:Int):=by rw[List.length_map,wrap64 (by omega) (by omega)];omega
 have er:List.take ((IntKind.i64.wrap ((((d.st.map intR).length:Nat):Int)-2)).toNat-0) (List.drop (0+0) d.st)=r:=by rw[w2,hs];simp
 have k1:=c61 {d with st:=List.take ((IntKind.i64.wrap ((((d.st.map intR).length:Nat):Int)-2)).toNat-0) (List.drop (0+0) d.st)} [c,b,c] (by rw[er];simp only;omega) (by simp)
 rw[←er]
 rw[show primR TX 7 d (List.take ((IntKind.i64.wrap ((((d.st.map intR).length:Nat):Int)-2)).toNat-0) (List.drop (0+0) d.st)) a b c=pushL {d with st:=List.take ((IntKind.i64.wrap ((((d.st.map intR).length:Nat):Int)-2)).toNat-0) (List.drop (0+0) d.st)} [c,b,c]from rfl]
 refine Con.evP 242 [500000] rfl T_ok mix Tryz.func36 rfl rfl rfl rfl [.tmp 6] rfl ?_
 conv=>whnf
 (iterate 115 ((first|refine rq_s (by solve|simp only[lms]|fail) ?_|apply rq_s rfl|refine rq_s (by rw[w2];first|exact decide_eq_true (by omega)|(rw[List.length_map];first|exact decide_eq_true (by omega)|(simp;omega))) ?_|refine row_s (by(rfl)) ?_|refine rows_s (by(exact(show _=z3 from rfl))) ?_|refine rows_s (by(exact cp2 hs w2)) ?_|refine fac_s (fun hf=> ?_)|refine ChkS.mk (by kernel_rfl) ?_|refine br_f (by assumption) ?_|apply lend_s|refine call_s (kt ..) ?_|refine call_s (kk ..) ?_);conv=>whnf));(iterate 15 ((first|refine rq_s (by solve|simp only[lms]|fail) ?_|apply rq_s rfl|apply br_t rfl|apply br_f rfl|refine handp_s 61 [some 6,none] ?_|refine call_s (c33 ..) ?_);conv=>whnf));(focus (apply callpe_s (f:=61);(· repeat' (first|(refine sub_all ?_;simp[lms];done)|exact sub_map _ _ _ _|apply cons_eq|apply obj_eq|apply agg_eq|apply own_eq|apply ro_eq|apply rp_eq|apply fnc_eq|rfl));refine callp_s (f:=61) rfl (k1 ..) ?_;conv=>whnf));iterate 8 (first|(apply rq_s rfl;conv=>whnf)|(refine rows_s (sub_all (by solve|simp[lms]|fail)) ?_;conv=>whnf)|(refine fac_s (fun hf=> ?_);conv=>whnf)|(refine aftp_s (by rfl) ?_;conv=>whnf)|(exact True.intro))
 all_goals skip
theorem prim9(d:Dat)(r:List Int)(a b c:Int)(fl:Int)(h:Dk d)(hs:d.st=r++[b,c])(hb0:d.bk.length≤32)(hf:0≤fl∧fl≤d.bk.length)(hk:0≤(d.bk.length:Int)-fl)(qb: -2147483648≤b∧b≤2147483647)(qc: -2147483648≤c∧c≤2147483647):Con Tryz.prog 36 [.obj (datC d),.int .i64 9,.int .i64 fl] [.obj (datC (primR TX 9 d r a b c).1),.undef,.undef] (.int .i64 (primR TX 9 d r a b c).2):=by
 have kt:Con Tryz.prog 45 [.int .i64 9] (undefs [.int .i64 9]) (.int .i64 2):=c45 9 (by unfold P52;omega)
 have kk:Con Tryz.prog 59 [.int .i64 9] (undefs [.int .i64 9]) (.int .i64 0):=c59 9 (by unfold P52;omega)
 have hst:=h.st
 have hl:d.st.length=r.length+2:=by rw[hs];simp
 have g0:decide ((((d.st.map intR).length:Nat):Int)<2)=false:=by rw[List.length_map];exact decide_eq_false (by omega)
 have wf:IntKind.i64.wrap ((((d.bk.map intR).length:Nat):Int)-fl)=(d.bk.length:Int)-fl:=by rw[List.length_map];exact wrap64 (by omega) (by omega)
 have g1:decide (IntKind.i64.wrap ((((d.bk.map intR).length:Nat):Int)-fl)<0)=false:=by rw[wf];exact decide_eq_false (by omega)
 have w2:IntKind.i64.wrap ((((d.st.map intR).length:Nat):Int)-2)=(r.length:Int):=by rw[List.length_map,wrap64 (by omega) (by omega)];omega
 have er:List.take ((IntKind.i64.wrap ((((d.st.map intR).length:Nat):Int)-2)).toNat-0) (List.drop (0+0) d.st)=r:=by rw[w2,hs];simp
 have k1:=c61 {d with st:=List.take ((IntKind.i64.wrap ((((d.st.map intR).length:Nat):Int)-2)).toNat-0) (List.drop (0+0) d.st)} [b,c,b,c] (by rw[er];simp only;omega) (by simp)
 rw[←er]
 rw[show primR TX 9 d (List.take ((IntKind.i64.wrap ((((d.st.map intR).length:Nat):Int)-2)).toNat-0) (List.drop (0+0) d.st)) a b c=pushL {d with st:=List.take ((IntKind.i64.wrap ((((d.st.map intR).length:Nat):Int)-2)).toNat-0) (List.drop (0+0) d.st)} [b,c,b,c]from rfl]
 refine Con.evP 242 [500000] rfl T_ok mix Tryz.func36 rfl rfl rfl rfl [.tmp 6] rfl ?_
 conv=>whnf
 (iterate 115 ((first|refine rq_s (by solve|simp only[lms]|fail) ?_|apply rq_s rfl|refine rq_s (by rw[w2];first|exact decide_eq_true (by omega)|(rw[List.length_map];first|exact decide_eq_true (by omega)|(simp;omega))) ?_|refine row_s (by(rfl)) ?_|refine rows_s (by(exact(show _=z3 from rfl))) ?_|refine rows_s (by(exact cp2 hs w2)) ?_|refine fac_s (fun hf=> ?_)|refine ChkS.mk (by kernel_rfl) ?_|refine br_f (by assumption) ?_|apply lend_s|refine call_s (kt ..) ?_|refine call_s (kk ..) ?_);conv=>whnf));(iterate 17 ((first|refine rq_s (by solve|simp only[lms]|fail) ?_|apply rq_s rfl|apply br_t rfl|apply br_f rfl|refine handp_s 61 [some 6,none] ?_|refine call_s (c33 ..) ?_);conv=>whnf));(focus (apply callpe_s (f:=61);(· repeat' (first|(refine sub_all ?_;simp[lms];done)|exact sub_map _ _ _ _|apply cons_eq|apply obj_eq|apply agg_eq|apply own_eq|apply ro_eq|apply rp_eq|apply fnc_eq|rfl));refine callp_s (f:=61) rfl (k1 ..) ?_;conv=>whnf));iterate 8 (first|(apply rq_s rfl;conv=>whnf)|(refine rows_s (sub_all (by solve|simp[lms]|fail)) ?_;conv=>whnf)|(refine fac_s (fun hf=> ?_);conv=>whnf)|(refine aftp_s (by rfl) ?_;conv=>whnf)|(exact True.intro))
 all_goals skip
theorem prim5(d:Dat)(r:List Int)(a b c:Int)(fl:Int)(h:Dk d)(hs:d.st=r++[a,b,c])(hb0:d.bk.length≤32)(hf:0≤fl∧fl≤d.bk.length)(hk:0≤(d.bk.length:Int)-fl)(qb: -2147483648≤b∧b≤2147483647)(qc: -2147483648≤c∧c≤2147483647):Con Tryz.prog 36 [.obj (datC d),.int .i64 5,.int .i64 fl] [.obj (datC (primR TX 5 d r a b c).1),.undef,.undef] (.int .i64 (primR TX 5 d r a b c).2):=by
 have kt:Con Tryz.prog 45 [.int .i64 5] (undefs [.int .i64 5]) (.int .i64 3):=c45 5 (by unfold P52;omega)
 have kk:Con Tryz.prog 59 [.int .i64 5] (undefs [.int .i64 5]) (.int .i64 0):=c59 5 (by unfold P52;omega)
 have hst:=h.st
 have hl:d.st.length=r.length+3:=by rw[hs];simp
 have g0:decide ((((d.st.map intR).length:Nat):Int)<3)=false:=by rw[List.length_map];exact decide_eq_false (by omega)
 have wf:IntKind.i64.wrap ((((d.bk.map intR).length:Nat):Int)-fl)=(d.bk.length:Int)-fl:=by rw[List.length_map];exact wrap64 (by omega) (by omega)
 have g1:decide (IntKind.i64.wrap ((((d.bk.map intR).length:Nat):Int)-fl)<0)=false:=by rw[wf];exact decide_eq_false (by omega)
 have w2:IntKind.i64.wrap ((((d.st.map intR).length:Nat):Int)-3)=(r.length:Int):=by rw[List.length_map,wrap64 (by omega) (by omega)];omega
 have er:List.take ((IntKind.i64.wrap ((((d.st.map intR).length:Nat):Int)-3)).toNat-0) (List.drop (0+0) d.st)=r:=by rw[w2,hs];simp
 have k1:=c61 {d with st:=List.take ((IntKind.i64.wrap ((((d.st.map intR).length:Nat):Int)-3)).toNat-0) (List.drop (0+0) d.st)} [b,c,a] (by rw[er];simp only;omega) (by simp)
 rw[←er]
 rw[show primR TX 5 d (List.take ((IntKind.i64.wrap ((((d.st.map intR).length:Nat):Int)-3)).toNat-0) (List.drop (0+0) d.st)) a b c=pushL {d with st:=List.take ((IntKind.i64.wrap ((((d.st.map intR).length:Nat):Int)-3)).toNat-0) (List.drop (0+0) d.st)} [b,c,a]from rfl]
 refine Con.evP 242 [500000] rfl T_ok mix Tryz.func36 rfl rfl rfl rfl [.tmp 6] rfl ?_
 conv=>whnf
 (iterate 115 ((first|refine rq_s (by solve|simp only[lms]|fail) ?_|apply rq_s rfl|refine rq_s (by rw[w2];first|exact decide_eq_true (by omega)|(rw[List.length_map];first|exact decide_eq_true (by omega)|(simp;omega))) ?_|refine row_s (by(rfl)) ?_|refine rows_s (by(exact(show _=z3 from rfl))) ?_|refine rows_s (by(exact cp3 hs w2)) ?_|refine fac_s (fun hf=> ?_)|refine ChkS.mk (by kernel_rfl) ?_|refine br_f (by assumption) ?_|apply lend_s|refine call_s (kt ..) ?_|refine call_s (kk ..) ?_);conv=>whnf));(iterate 13 ((first|refine rq_s (by solve|simp only[lms]|fail) ?_|apply rq_s rfl|apply br_t rfl|apply br_f rfl|refine handp_s 61 [some 6,none] ?_|refine call_s (c33 ..) ?_);conv=>whnf));(focus (apply callpe_s (f:=61);(· repeat' (first|(refine sub_all ?_;simp[lms];done)|exact sub_map _ _ _ _|apply cons_eq|apply obj_eq|apply agg_eq|apply own_eq|apply ro_eq|apply rp_eq|apply fnc_eq|rfl));refine callp_s (f:=61) rfl (k1 ..) ?_;conv=>whnf));iterate 8 (first|(apply rq_s rfl;conv=>whnf)|(refine rows_s (sub_all (by solve|simp[lms]|fail)) ?_;conv=>whnf)|(refine fac_s (fun hf=> ?_);conv=>whnf)|(refine aftp_s (by rfl) ?_;conv=>whnf)|(exact True.intro))
 all_goals skip
theorem prim8z(d:Dat)(r:List Int)(a b c:Int)(fl:Int)(h:Dk d)(hs:d.st=r++[c])(hb0:d.bk.length≤32)(hf:0≤fl∧fl≤d.bk.length)(hk:0≤(d.bk.length:Int)-fl)(qb: -2147483648≤b∧b≤2147483647)(qc: -2147483648≤c∧c≤2147483647)(h0:c=0):Con Tryz.prog 36 [.obj (datC d),.int .i64 8,.int .i64 fl] [.obj (datC (primR TX 8 d r a b c).1),.undef,.undef] (.int .i64 (primR TX 8 d r a b c).2):=by
 have kt:Con Tryz.prog 45 [.int .i64 8] (undefs [.int .i64 8]) (.int .i64 1):=c45 8 (by unfold P52;omega)
 have kk:Con Tryz.prog 59 [.int .i64 8] (undefs [.int .i64 8]) (.int .i64 0):=c59 8 (by unfold P52;omega)
 have hst:=h.st
 have hl:d.st.length=r.length+1:=by rw[hs];simp
 have g0:decide ((((d.st.map intR).length:Nat):Int)<1)=false:=by rw[List.length_map];exact decide_eq_false (by omega)
 have wf:IntKind.i64.wrap ((((d.bk.map intR).length:Nat):Int)-fl)=(d.bk.length:Int)-fl:=by rw[List.length_map];exact wrap64 (by omega) (by omega)
 have g1:decide (IntKind.i64.wrap ((((d.bk.map intR).length:Nat):Int)-fl)<0)=false:=by rw[wf];exact decide_eq_false (by omega)
 have w2:IntKind.i64.wrap ((((d.st.map intR).length:Nat):Int)-1)=(r.length:Int):=by rw[List.length_map,wrap64 (by omega) (by omega)];omega
 have er:List.take ((IntKind.i64.wrap ((((d.st.map intR).length:Nat):Int)-1)).toNat-0) (List.drop (0+0) d.st)=r:=by rw[w2,hs];simp
 have g5:(c==0)=true:=by simp[h0]
 have k1:=c61 {d with st:=List.take ((IntKind.i64.wrap ((((d.st.map intR).length:Nat):Int)-1)).toNat-0) (List.drop (0+0) d.st)} [0] (by rw[er];simp only;omega) (by simp)
 rw[←er]
 rw[show primR TX 8 d (List.take ((IntKind.i64.wrap ((((d.st.map intR).length:Nat):Int)-1)).toNat-0) (List.drop (0+0) d.st)) a b c=pushL {d with st:=List.take ((IntKind.i64.wrap ((((d.st.map intR).length:Nat):Int)-1)).toNat-0) (List.drop (0+0) d.st)} [0]from by simp only[primR];rw[if_pos h0];rfl]
 refine Con.evP 242 [500000] rfl T_ok mix Tryz.func36 rfl rfl rfl rfl [.tmp 6] rfl ?_
 conv=>whnf
 (iterate 115 ((first|refine rq_s (by solve|simp only[lms]|fail) ?_|apply rq_s rfl|refine rq_s (by rw[w2];first|exact decide_eq_true (by omega)|(rw[List.length_map];first|exact decide_eq_true (by omega)|(simp;omega))) ?_|refine row_s (by(rfl)) ?_|refine rows_s (by(exact(show _=z3 from rfl))) ?_|refine rows_s (by(exact cp1 hs w2)) ?_|refine fac_s (fun hf=> ?_)|refine ChkS.mk (by kernel_rfl) ?_|refine br_f (by assumption) ?_|apply lend_s|refine call_s (kt ..) ?_|refine call_s (kk ..) ?_);conv=>whnf));(iterate 17 ((first|refine rq_s (by solve|simp only[lms]|fail) ?_|apply rq_s rfl|apply br_t rfl|apply br_f rfl|refine br_t (by assumption) ?_|refine handp_s 61 [some 6,none] ?_|refine call_s (c33 ..) ?_);conv=>whnf));(focus (apply callpe_s (f:=61);(· repeat' (first|(refine sub_all ?_;simp[lms];done)|exact sub_map _ _ _ _|apply cons_eq|apply obj_eq|apply agg_eq|apply own_eq|apply ro_eq|apply rp_eq|apply fnc_eq|rfl));refine callp_s (f:=61) rfl (k1 ..) ?_;conv=>whnf));iterate 8 (first|(apply rq_s rfl;conv=>whnf)|(refine rows_s (sub_all (by solve|simp[lms]|fail)) ?_;conv=>whnf)|(refine fac_s (fun hf=> ?_);conv=>whnf)|(refine aftp_s (by rfl) ?_;conv=>whnf)|(exact True.intro))
 all_goals skip
theorem prim8n(d:Dat)(r:List Int)(a b c:Int)(fl:Int)(h:Dk d)(hs:d.st=r++[c])(hb0:d.bk.length≤32)(hf:0≤fl∧fl≤d.bk.length)(hk:0≤(d.bk.length:Int)-fl)(qb: -2147483648≤b∧b≤2147483647)(qc: -2147483648≤c∧c≤2147483647)(h0: ¬c=0):Con Tryz.prog 36 [.obj (datC d),.int .i64 8,.int .i64 fl] [.obj (datC (primR TX 8 d r a b c).1),.undef,.undef] (.int .i64 (primR TX 8 d r a b c).2):=by
 have kt:Con Tryz.prog 45 [.int .i64 8] (undefs [.int .i64 8]) (.int .i64 1):=c45 8 (by unfold P52;omega)
 have kk:Con Tryz.prog 59 [.int .i64 8] (undefs [.int .i64 8]) (.int .i64 0):=c59 8 (by unfold P52;omega)
 have hst:=h.st
 have hl:d.st.length=r.length+1:=by rw[hs];simp
 have g0:decide ((((d.st.map intR).length:Nat):Int)<1)=false:=by rw[List.length_map];exact decide_eq_false (by omega)
 have wf:IntKind.i64.wrap ((((d.bk.map intR).length:Nat):Int)-fl)=(d.bk.length:Int)-fl:=by rw[List.length_map];exact wrap64 (by omega) (by omega)
 have g1:decide (IntKind.i64.wrap ((((d.bk.map intR).length:Nat):Int)-fl)<0)=false:=by rw[wf];exact decide_eq_false (by omega)
 have w2:IntKind.i64.wrap ((((d.st.map intR).length:Nat):Int)-1)=(r.length:Int):=by rw[List.length_map,wrap64 (by omega) (by omega)];omega
 have er:List.take ((IntKind.i64.wrap ((((d.st.map intR).length:Nat):Int)-1)).toNat-0) (List.drop (0+0) d.st)=r:=by rw[w2,hs];simp
 have g5:(c==0)=false:=by simp[h0]
 have k1:=c61 {d with st:=List.take ((IntKind.i64.wrap ((((d.st.map intR).length:Nat):Int)-1)).toNat-0) (List.drop (0+0) d.st)} [c,c] (by rw[er];simp only;omega) (by simp)
 rw[←er]
 rw[show primR TX 8 d (List.take ((IntKind.i64.wrap ((((d.st.map intR).length:Nat):Int)-1)).toNat-0) (List.drop (0+0) d.st)) a b c=pushL {d with st:=List.take ((IntKind.i64.wrap ((((d.st.map intR).length:Nat):Int)-1)).toNat-0) (List.drop (0+0) d.st)} [c,c]from by simp only[primR];rw[if_neg h0];rfl]
 refine Con.evP 242 [500000] rfl T_ok mix Tryz.func36 rfl rfl rfl rfl [.tmp 6] rfl ?_
 conv=>whnf
 (iterate 115 ((first|refine rq_s (by solve|simp only[lms]|fail) ?_|apply rq_s rfl|refine rq_s (by rw[w2];first|exact decide_eq_true (by omega)|(rw[List.length_map];first|exact decide_eq_true (by omega)|(simp;omega))) ?_|refine row_s (by(rfl)) ?_|refine rows_s (by(exact(show _=z3 from rfl))) ?_|refine rows_s (by(exact cp1 hs w2)) ?_|refine fac_s (fun hf=> ?_)|refine ChkS.mk (by kernel_rfl) ?_|refine br_f (by assumption) ?_|apply lend_s|refine call_s (kt ..) ?_|refine call_s (kk ..) ?_);conv=>whnf));(iterate 17 ((first|refine rq_s (by solve|simp only[lms]|fail) ?_|apply rq_s rfl|apply br_t rfl|apply br_f rfl|refine br_f (by assumption) ?_|refine handp_s 61 [some 6,none] ?_|refine call_s (c33 ..) ?_);conv=>whnf));(focus (apply callpe_s (f:=61);(· repeat' (first|(refine sub_all ?_;simp[lms];done)|exact sub_map _ _ _ _|apply cons_eq|apply obj_eq|apply agg_eq|apply own_eq|apply ro_eq|apply rp_eq|apply fnc_eq|rfl));refine callp_s (f:=61) rfl (k1 ..) ?_;conv=>whnf));iterate 8 (first|(apply rq_s rfl;conv=>whnf)|(refine rows_s (sub_all (by solve|simp[lms]|fail)) ?_;conv=>whnf)|(refine fac_s (fun hf=> ?_);conv=>whnf)|(refine aftp_s (by rfl) ?_;conv=>whnf)|(exact True.intro))
 all_goals skip
end P5
