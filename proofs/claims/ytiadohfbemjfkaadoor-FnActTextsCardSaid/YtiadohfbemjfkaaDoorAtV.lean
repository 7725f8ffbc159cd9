/- Actions and their validity: contracts. -/
import Derived.Test.YtiadohfbemjfkaaDoorProg
import Derived.KernelRfl
import Derived.Test.YtiadohfbemjfkaaDoorAbsf
import Derived.Test.YtiadohfbemjfkaaDoorAbs7
import Derived.Test.YtiadohfbemjfkaaDoorAbsk
import Derived.Test.YtiadohfbemjfkaaDoorAbsv
set_option linter.unusedVariables false
set_option linter.unusedSimpArgs false
set_option maxRecDepth 100000
open Go Go.Abs Go.Proofs
namespace V1
def T:TT:=[(2,TI.mk (UT.int IntKind.i64) 1 8 [AV.int IntKind.i64 0] false),
 (3,TI.mk (UT.int IntKind.i64) 1 8 [AV.int IntKind.i64 0] false),
 (4,TI.mk UT.bool 1 1 [AV.bool false] false),
 (5,TI.mk (UT.int IntKind.u8) 1 1 [AV.int IntKind.u8 0] false),
 (6,TI.mk (UT.int IntKind.u8) 1 1 [AV.int IntKind.u8 0] false),
 (7,TI.mk (UT.struct [(0,2),(1,3),(2,4),(3,6)]) 4 24 [AV.int IntKind.i64 0,AV.int IntKind.i64 0,AV.bool false,AV.int IntKind.u8 0] true),
 (8,TI.mk (UT.struct [(0,2),(1,3),(2,4),(3,6)]) 4 24 [AV.int IntKind.i64 0,AV.int IntKind.i64 0,AV.bool false,AV.int IntKind.u8 0] true),
 (9,TI.mk UT.str 1 16 [AV.str []] false),
 (10,TI.mk UT.str 1 16 [AV.str []] false),
 (11,TI.mk UT.str 1 16 [AV.str []] false),
 (12,TI.mk (UT.int IntKind.u64) 1 8 [AV.int IntKind.u64 0] false),
 (13,TI.mk (UT.struct [(0,9),(1,12)]) 2 24 [AV.str [],AV.int IntKind.u64 0] false),
 (14,TI.mk (UT.struct [(0,9),(1,12)]) 2 24 [AV.str [],AV.int IntKind.u64 0] false),
 (18,TI.mk (UT.struct [(0,17)]) 1 8 [AV.nilp] false),
 (19,TI.mk (UT.struct [(0,17)]) 1 8 [AV.nilp] false),
 (20,TI.mk UT.iface 1 16 [AV.nili] false),
 (21,TI.mk (UT.int IntKind.i32) 1 4 [AV.int IntKind.i32 0] false),
 (22,TI.mk (UT.struct [(0,3),(1,3),(2,9)]) 3 32 [AV.int IntKind.i64 0,AV.int IntKind.i64 0,AV.str []] true),
 (23,TI.mk (UT.struct [(0,3),(1,3),(2,9)]) 3 32 [AV.int IntKind.i64 0,AV.int IntKind.i64 0,AV.str []] true),
 (28,TI.mk (UT.slice 5) 1 24 [AV.emp] false),
 (41,TI.mk (UT.slice 9) 1 24 [AV.emp] false),
 (53,TI.mk (UT.struct [(0,28),(1,3),(2,3)]) 3 40 [AV.emp,AV.int IntKind.i64 0,AV.int IntKind.i64 0] true),
 (54,TI.mk (UT.struct [(0,28),(1,3),(2,3)]) 3 40 [AV.emp,AV.int IntKind.i64 0,AV.int IntKind.i64 0] true),
 (57,TI.mk (UT.slice 3) 1 24 [AV.emp] false),
 (62,TI.mk UT.iface 1 16 [AV.nili] false),
 (63,TI.mk UT.iface 1 16 [AV.nili] false),
 (71,TI.mk (UT.int IntKind.u32) 1 4 [AV.int IntKind.u32 0] false),
 (72,TI.mk (UT.int IntKind.u64) 1 8 [AV.int IntKind.u64 0] false),
 (76,TI.mk (UT.int IntKind.i64) 1 8 [AV.int IntKind.i64 0] false),
 (93,TI.mk (UT.int IntKind.u64) 1 8 [AV.int IntKind.u64 0] false),
 (95,TI.mk (UT.struct [(0,9),(1,9),(2,63)]) 3 48 [AV.str [],AV.str [],AV.nili] false),
 (96,TI.mk (UT.struct [(0,9),(1,9),(2,63)]) 3 48 [AV.str [],AV.str [],AV.nili] false),
 (100,TI.mk (UT.array 65 5) 65 65 [AV.int IntKind.u8 0,AV.int IntKind.u8 0,AV.int IntKind.u8 0,AV.int IntKind.u8 0,AV.int IntKind.u8 0,AV.int IntKind.u8 0,AV.int IntKind.u8 0,AV.int IntKind.u8 0,AV.int IntKind.u8 0,AV.int IntKind.u8 0,AV.int IntKind.u8 0,AV.int IntKind.u8 0,AV.int IntKind.u8 0,AV.int IntKind.u8 0,AV.int IntKind.u8 0,AV.int IntKind.u8 0,AV.int IntKind.u8 0,AV.int IntKind.u8 0,AV.int IntKind.u8 0,AV.int IntKind.u8 0,AV.int IntKind.u8 0,AV.int IntKind.u8 0,AV.int IntKind.u8 0,AV.int IntKind.u8 0,AV.int IntKind.u8 0,AV.int IntKind.u8 0,AV.int IntKind.u8 0,AV.int IntKind.u8 0,AV.int IntKind.u8 0,AV.int IntKind.u8 0,AV.int IntKind.u8 0,AV.int IntKind.u8 0,AV.int IntKind.u8 0,AV.int IntKind.u8 0,AV.int IntKind.u8 0,AV.int IntKind.u8 0,AV.int IntKind.u8 0,AV.int IntKind.u8 0,AV.int IntKind.u8 0,AV.int IntKind.u8 0,AV.int IntKind.u8 0,AV.int IntKind.u8 0,AV.int IntKind.u8 0,AV.int IntKind.u8 0,AV.int IntKind.u8 0,AV.int IntKind.u8 0,AV.int IntKind.u8 0,AV.int IntKind.u8 0,AV.int IntKind.u8 0,AV.int IntKind.u8 0,AV.int IntKind.u8 0,AV.int IntKind.u8 0,AV.int IntKind.u8 0,AV.int IntKind.u8 0,AV.int IntKind.u8 0,AV.int IntKind.u8 0,AV.int IntKind.u8 0,AV.int IntKind.u8 0,AV.int IntKind.u8 0,AV.int IntKind.u8 0,AV.int IntKind.u8 0,AV.int IntKind.u8 0,AV.int IntKind.u8 0,AV.int IntKind.u8 0,AV.int IntKind.u8 0] false),
 (105,TI.mk (UT.struct [(0,9)]) 1 16 [AV.str []] true),
 (106,TI.mk (UT.struct [(0,9)]) 1 16 [AV.str []] true),
 (109,TI.mk (UT.struct [(0,5),(1,5)]) 2 2 [AV.int IntKind.u8 0,AV.int IntKind.u8 0] true),
 (110,TI.mk (UT.struct [(0,5),(1,5)]) 2 2 [AV.int IntKind.u8 0,AV.int IntKind.u8 0] true),
 (116,TI.mk (UT.struct [(0,17),(1,17),(2,17),(3,9)]) 4 40 [AV.nilp,AV.nilp,AV.nilp,AV.str []] false),
 (117,TI.mk (UT.struct [(0,17),(1,17),(2,17),(3,9)]) 4 40 [AV.nilp,AV.nilp,AV.nilp,AV.str []] false),
 (119,TI.mk (UT.struct [(0,118)]) 0 0 [] false),
 (120,TI.mk (UT.struct [(0,118)]) 0 0 [] false),
 (121,TI.mk (UT.int IntKind.u8) 1 1 [AV.int IntKind.u8 0] false),
 (122,TI.mk (UT.int IntKind.u8) 1 1 [AV.int IntKind.u8 0] false),
 (124,TI.mk (UT.int IntKind.i32) 1 4 [AV.int IntKind.i32 0] false),
 (125,TI.mk (UT.int IntKind.i32) 1 4 [AV.int IntKind.i32 0] false),
 (126,TI.mk (UT.struct [(0,12),(1,12),(2,71),(3,121),(4,5),(5,5),(6,122),(7,123),(8,103),(9,124),(10,125)]) 11 48 [AV.int IntKind.u64 0,AV.int IntKind.u64 0,AV.int IntKind.u32 0,AV.int IntKind.u8 0,AV.int IntKind.u8 0,AV.int IntKind.u8 0,AV.int IntKind.u8 0,AV.nilfn,AV.nilp,AV.int IntKind.i32 0,AV.int IntKind.i32 0] false),
 (127,TI.mk (UT.struct [(0,12),(1,12),(2,71),(3,121),(4,5),(5,5),(6,122),(7,123),(8,103),(9,124),(10,125)]) 11 48 [AV.int IntKind.u64 0,AV.int IntKind.u64 0,AV.int IntKind.u32 0,AV.int IntKind.u8 0,AV.int IntKind.u8 0,AV.int IntKind.u8 0,AV.int IntKind.u8 0,AV.nilfn,AV.nilp,AV.int IntKind.i32 0,AV.int IntKind.i32 0] false)]
theorem T_ok:T.ok Tryd.prog:=by repeat' first|exact TT.ok_nil|refine TT.ok_cons (by kernel_rfl) ?_
theorem mix:Tryd.prog.follows .mixedOrders=true:=by kernel_rfl
theorem c24(n lo hi:Int):Con Tryd.prog 24 [.int .i64 n,.int .i64 lo,.int .i64 hi] (undefs [.int .i64 n,.int .i64 lo,.int .i64 hi]) (.bool (inR n lo hi)):=by
 refine Con.ev 15 T_ok mix Tryd.func24 rfl rfl rfl rfl [.tmp 6] rfl ?_
 conv=>whnf
 (iterate 4 (first|(apply rq_s rfl;(conv=>whnf))|(apply br_t rfl;(conv=>whnf))|(refine br_s ?_ ?_<;>intro hb<;>(try simp only[cln]at hb)<;>conv=>whnf)));(focus (refine sh_s ?_;(first|(simp_all[inR];done)|(simp_all[inR];omega))));(iterate 4 ((first|apply rq_s rfl|apply br_f rfl);conv=>whnf));(focus (refine sh_s ?_;(first|(simp_all[inR];done)|(simp_all[inR];omega))))
theorem c40(n lo hi:Int):Con Tryd.prog 40 [.int .i64 n,.int .i64 lo,.int .i64 hi] (undefs [.int .i64 n,.int .i64 lo,.int .i64 hi]) (.bool (inR n lo hi)):=by
 refine Con.ev 15 T_ok mix Tryd.func40 rfl rfl rfl rfl [.tmp 6] rfl ?_
 conv=>whnf
 (iterate 4 (first|(apply rq_s rfl;(conv=>whnf))|(apply br_t rfl;(conv=>whnf))|(refine br_s ?_ ?_<;>intro hb<;>(try simp only[cln]at hb)<;>conv=>whnf)));(focus (refine sh_s ?_;(first|(simp_all[inR];done)|(simp_all[inR];omega))));(iterate 4 ((first|apply rq_s rfl|apply br_f rfl);conv=>whnf));(focus (refine sh_s ?_;(first|(simp_all[inR];done)|(simp_all[inR];omega))))
theorem c23(n:Int):Con Tryd.prog 23 [.int .i64 n] (undefs [.int .i64 n]) (.bool (inR n 0 3)):=by
 refine Con.ev 5 T_ok mix Tryd.func23 rfl rfl rfl rfl [.tmp 2] rfl ?_
 conv=>whnf
 (iterate 6 ((first|apply rq_s rfl|apply lend_s|refine call_s (c24 ..) ?_);conv=>whnf));(refine sh_s ?_;(rfl))
theorem c41(n:Int):Con Tryd.prog 41 [.int .i64 n] (undefs [.int .i64 n]) (.bool (cell n)):=by
 refine Con.ev 5 T_ok mix Tryd.func41 rfl rfl rfl rfl [.tmp 2] rfl ?_
 conv=>whnf
 (iterate 6 ((first|apply rq_s rfl|apply lend_s|refine call_s (c40 ..) ?_);conv=>whnf));(refine sh_s ?_;(rfl))
theorem c43(n:Int):Con Tryd.prog 43 [.int .i64 n] (undefs [.int .i64 n]) (.int .i64 (IntKind.i64.wrap (IntKind.i32.wrap n))):=by
 refine Con.ev 6 T_ok mix Tryd.func43 rfl rfl rfl rfl [.tmp 2] rfl ?_
 conv=>whnf
 (apply rq_s rfl;conv=>whnf);(refine sh_s ?_;(rfl))
theorem c25(n:Int):Con Tryd.prog 25 [.int .i64 n] (undefs [.int .i64 n]) (.bool (cell n)):=by
 refine Con.evF 7 T_ok mix Tryd.func25 rfl rfl rfl rfl [.tmp 2] rfl fun⟨h,_⟩=> ?_
 have h:=facts_int h
 conv=>whnf
 (iterate 5 ((first|apply rq_s rfl|refine fac_s (fun hf=> ?_)|apply lend_s|refine call_s (c43 ..) ?_);conv=>whnf));(refine sh_s ?_;((rw[←wrap_cell h.1 h.2])))
set_option maxHeartbeats 4000000 in
theorem c21(a:Doing):Con Tryd.prog 21 [actV a] (undefs [actV a]) (.bool (actOK a)):=by
 refine Con.ev 48 T_ok mix Tryd.func21 rfl rfl rfl rfl [.tmp 2] rfl ?_
 conv=>whnf
 (iterate 13 (first|(apply rq_s rfl;(conv=>whnf))|(apply br_t rfl;(conv=>whnf))|(refine br_s ?_ ?_<;>intro hb<;>(try simp only[cln]at hb)<;>conv=>whnf)));(focus (refine sh_s ?_;(first|(simp_all[actOK];done)|(congr 1;rw[Bool.eq_iff_iff];simp_all[actOK];done)|(congr 1;rw[Bool.eq_iff_iff];simp_all[actOK];omega))));(iterate 6 (first|(apply rq_s rfl;(conv=>whnf))|(apply br_f rfl;(conv=>whnf))|(refine br_s ?_ ?_<;>intro hb<;>(try simp only[cln]at hb)<;>conv=>whnf)));(focus (refine sh_s ?_;(first|(simp_all[actOK];done)|(congr 1;rw[Bool.eq_iff_iff];simp_all[actOK];done)|(congr 1;rw[Bool.eq_iff_iff];simp_all[actOK];omega))));(iterate 10 (first|(apply rq_s rfl;(conv=>whnf))|(apply br_t rfl;(conv=>whnf))|(refine br_s ?_ ?_<;>intro hb<;>(try simp only[cln]at hb)<;>conv=>whnf)|(apply lend_s;(conv=>whnf))|(refine call_s (c40 ..) ?_;(conv=>whnf))));(focus (refine sh_s ?_;(first|(simp_all[actOK];done)|(congr 1;rw[Bool.eq_iff_iff];simp_all[actOK];done)|(congr 1;rw[Bool.eq_iff_iff];simp_all[actOK];omega))));(iterate 8 (first|(apply rq_s rfl;(conv=>whnf))|(refine br_s ?_ ?_<;>intro hb<;>(try simp only[cln]at hb)<;>conv=>whnf)|(apply lend_s;(conv=>whnf))|(refine call_s (c40 ..) ?_;(conv=>whnf))));(focus (refine sh_s ?_;(first|(simp_all[actOK];done)|(congr 1;rw[Bool.eq_iff_iff];simp_all[actOK];done)|(congr 1;rw[Bool.eq_iff_iff];simp_all[actOK];omega))));(iterate 8 (first|(apply rq_s rfl;(conv=>whnf))|(refine br_s ?_ ?_<;>intro hb<;>(try simp only[cln]at hb)<;>conv=>whnf)|(apply lend_s;(conv=>whnf))|(refine call_s (c40 ..) ?_;(conv=>whnf))));(focus (refine sh_s ?_;(first|(simp_all[actOK];done)|(congr 1;rw[Bool.eq_iff_iff];simp_all[actOK];done)|(congr 1;rw[Bool.eq_iff_iff];simp_all[actOK];omega))));(iterate 6 (first|(apply rq_s rfl;(conv=>whnf))|(refine br_s ?_ ?_<;>intro hb<;>(try simp only[cln]at hb)<;>conv=>whnf)|(apply lend_s;(conv=>whnf))|(refine call_s (c41 ..) ?_;(conv=>whnf))));(focus (refine sh_s ?_;(first|(simp_all[actOK];done)|(congr 1;rw[Bool.eq_iff_iff];simp_all[actOK];done)|(congr 1;rw[Bool.eq_iff_iff];simp_all[actOK];omega))));(iterate 8 (first|(apply rq_s rfl;(conv=>whnf))|(refine br_s ?_ ?_<;>intro hb<;>(try simp only[cln]at hb)<;>conv=>whnf)|(apply lend_s;(conv=>whnf))|(refine call_s (c40 ..) ?_;(conv=>whnf))));(focus (refine sh_s ?_;(first|(simp_all[actOK];done)|(congr 1;rw[Bool.eq_iff_iff];simp_all[actOK];done)|(congr 1;rw[Bool.eq_iff_iff];simp_all[actOK];omega))));(iterate 6 (first|(apply rq_s rfl;(conv=>whnf))|(apply br_t rfl;(conv=>whnf))|(refine br_s ?_ ?_<;>intro hb<;>(try simp only[cln]at hb)<;>conv=>whnf)));(focus (refine sh_s ?_;(first|(simp_all[actOK];done)|(congr 1;rw[Bool.eq_iff_iff];simp_all[actOK];done)|(congr 1;rw[Bool.eq_iff_iff];simp_all[actOK];omega))));(iterate 4 ((first|apply rq_s rfl|apply br_f rfl);conv=>whnf));(focus (refine sh_s ?_;(first|(simp_all[actOK];done)|(congr 1;rw[Bool.eq_iff_iff];simp_all[actOK];done)|(congr 1;rw[Bool.eq_iff_iff];simp_all[actOK];omega))));(iterate 10 (first|(apply rq_s rfl;(conv=>whnf))|(apply br_f rfl;(conv=>whnf))|(refine br_s ?_ ?_<;>intro hb<;>(try simp only[cln]at hb)<;>conv=>whnf)));(focus (refine sh_s ?_;(first|(simp_all[actOK];done)|(congr 1;rw[Bool.eq_iff_iff];simp_all[actOK];done)|(congr 1;rw[Bool.eq_iff_iff];simp_all[actOK];omega))));(iterate 10 (first|(apply rq_s rfl;(conv=>whnf))|(apply br_t rfl;(conv=>whnf))|(refine br_s ?_ ?_<;>intro hb<;>(try simp only[cln]at hb)<;>conv=>whnf)|(apply lend_s;(conv=>whnf))|(refine call_s (c40 ..) ?_;(conv=>whnf))));(focus (refine sh_s ?_;(first|(simp_all[actOK];done)|(congr 1;rw[Bool.eq_iff_iff];simp_all[actOK];done)|(congr 1;rw[Bool.eq_iff_iff];simp_all[actOK];omega))));(iterate 8 (first|(apply rq_s rfl;(conv=>whnf))|(refine br_s ?_ ?_<;>intro hb<;>(try simp only[cln]at hb)<;>conv=>whnf)|(apply lend_s;(conv=>whnf))|(refine call_s (c40 ..) ?_;(conv=>whnf))));(focus (refine sh_s ?_;(first|(simp_all[actOK];done)|(congr 1;rw[Bool.eq_iff_iff];simp_all[actOK];done)|(congr 1;rw[Bool.eq_iff_iff];simp_all[actOK];omega))));(iterate 8 (first|(apply rq_s rfl;(conv=>whnf))|(refine br_s ?_ ?_<;>intro hb<;>(try simp only[cln]at hb)<;>conv=>whnf)|(apply lend_s;(conv=>whnf))|(refine call_s (c40 ..) ?_;(conv=>whnf))));(focus (refine sh_s ?_;(first|(simp_all[actOK];done)|(congr 1;rw[Bool.eq_iff_iff];simp_all[actOK];done)|(congr 1;rw[Bool.eq_iff_iff];simp_all[actOK];omega))));(iterate 6 (first|(apply rq_s rfl;(conv=>whnf))|(refine br_s ?_ ?_<;>intro hb<;>(try simp only[cln]at hb)<;>conv=>whnf)|(apply lend_s;(conv=>whnf))|(refine call_s (c41 ..) ?_;(conv=>whnf))));(focus (refine sh_s ?_;(first|(simp_all[actOK];done)|(congr 1;rw[Bool.eq_iff_iff];simp_all[actOK];done)|(congr 1;rw[Bool.eq_iff_iff];simp_all[actOK];omega))));(iterate 8 (first|(apply rq_s rfl;(conv=>whnf))|(refine br_s ?_ ?_<;>intro hb<;>(try simp only[cln]at hb)<;>conv=>whnf)|(apply lend_s;(conv=>whnf))|(refine call_s (c40 ..) ?_;(conv=>whnf))));(focus (refine sh_s ?_;(first|(simp_all[actOK];done)|(congr 1;rw[Bool.eq_iff_iff];simp_all[actOK];done)|(congr 1;rw[Bool.eq_iff_iff];simp_all[actOK];omega))));(iterate 6 (first|(apply rq_s rfl;(conv=>whnf))|(apply br_t rfl;(conv=>whnf))|(refine br_s ?_ ?_<;>intro hb<;>(try simp only[cln]at hb)<;>conv=>whnf)));(focus (refine sh_s ?_;(first|(simp_all[actOK];done)|(congr 1;rw[Bool.eq_iff_iff];simp_all[actOK];done)|(congr 1;rw[Bool.eq_iff_iff];simp_all[actOK];omega))));(iterate 4 ((first|apply rq_s rfl|apply br_f rfl);conv=>whnf));(focus (refine sh_s ?_;(first|(simp_all[actOK];done)|(congr 1;rw[Bool.eq_iff_iff];simp_all[actOK];done)|(congr 1;rw[Bool.eq_iff_iff];simp_all[actOK];omega))))
set_option maxHeartbeats 4000000 in
theorem c12(a:Doing):Con Tryd.prog 12 [actV a] (undefs [actV a]) (.bool (actOK a)):=by
 refine Con.ev 60 T_ok mix Tryd.func12 rfl rfl rfl rfl [.tmp 2] rfl ?_
 conv=>whnf
 (iterate 13 (first|(apply rq_s rfl;(conv=>whnf))|(apply br_t rfl;(conv=>whnf))|(refine br_s ?_ ?_<;>intro hb<;>(try simp only[cln]at hb)<;>conv=>whnf)|(apply lend_s;(conv=>whnf))|(refine call_s (c23 ..) ?_;(conv=>whnf))));(focus (refine sh_s ?_;(first|(simp_all[actOK];done)|(congr 1;rw[Bool.eq_iff_iff];simp_all[actOK];done)|(congr 1;rw[Bool.eq_iff_iff];simp_all[actOK];omega))));(iterate 4 ((first|apply rq_s rfl|apply br_f rfl);conv=>whnf));(focus (refine sh_s ?_;(first|(simp_all[actOK];done)|(congr 1;rw[Bool.eq_iff_iff];simp_all[actOK];done)|(congr 1;rw[Bool.eq_iff_iff];simp_all[actOK];omega))));(iterate 10 (first|(apply rq_s rfl;(conv=>whnf))|(apply br_t rfl;(conv=>whnf))|(refine br_s ?_ ?_<;>intro hb<;>(try simp only[cln]at hb)<;>conv=>whnf)|(apply lend_s;(conv=>whnf))|(refine call_s (c23 ..) ?_;(conv=>whnf))));(focus (refine sh_s ?_;(first|(simp_all[actOK];done)|(congr 1;rw[Bool.eq_iff_iff];simp_all[actOK];done)|(congr 1;rw[Bool.eq_iff_iff];simp_all[actOK];omega))));(iterate 4 ((first|apply rq_s rfl|apply br_f rfl);conv=>whnf));(focus (refine sh_s ?_;(first|(simp_all[actOK];done)|(congr 1;rw[Bool.eq_iff_iff];simp_all[actOK];done)|(congr 1;rw[Bool.eq_iff_iff];simp_all[actOK];omega))));(iterate 12 (first|(apply rq_s rfl;(conv=>whnf))|(apply br_t rfl;(conv=>whnf))|(refine br_s ?_ ?_<;>intro hb<;>(try simp only[cln]at hb)<;>conv=>whnf)|(apply lend_s;(conv=>whnf))|(refine call_s (c24 ..) ?_;(conv=>whnf))));(focus (refine sh_s ?_;(first|(simp_all[actOK];done)|(congr 1;rw[Bool.eq_iff_iff];simp_all[actOK];done)|(congr 1;rw[Bool.eq_iff_iff];simp_all[actOK];omega))));(iterate 4 ((first|apply rq_s rfl|apply br_f rfl);conv=>whnf));(focus (refine sh_s ?_;(first|(simp_all[actOK];done)|(congr 1;rw[Bool.eq_iff_iff];simp_all[actOK];done)|(congr 1;rw[Bool.eq_iff_iff];simp_all[actOK];omega))));(iterate 10 (first|(apply rq_s rfl;(conv=>whnf))|(apply br_t rfl;(conv=>whnf))|(refine br_s ?_ ?_<;>intro hb<;>(try simp only[cln]at hb)<;>conv=>whnf)|(apply lend_s;(conv=>whnf))|(refine call_s (c25 ..) ?_;(conv=>whnf))));(focus (refine sh_s ?_;(first|(simp_all[actOK];done)|(congr 1;rw[Bool.eq_iff_iff];simp_all[actOK];done)|(congr 1;rw[Bool.eq_iff_iff];simp_all[actOK];omega))));(iterate 4 ((first|apply rq_s rfl|apply br_f rfl);conv=>whnf));(focus (refine sh_s ?_;(first|(simp_all[actOK];done)|(congr 1;rw[Bool.eq_iff_iff];simp_all[actOK];done)|(congr 1;rw[Bool.eq_iff_iff];simp_all[actOK];omega))));(iterate 12 (first|(apply rq_s rfl;(conv=>whnf))|(apply br_t rfl;(conv=>whnf))|(refine br_s ?_ ?_<;>intro hb<;>(try simp only[cln]at hb)<;>conv=>whnf)|(apply lend_s;(conv=>whnf))|(refine call_s (c24 ..) ?_;(conv=>whnf))));(focus (refine sh_s ?_;(first|(simp_all[actOK];done)|(congr 1;rw[Bool.eq_iff_iff];simp_all[actOK];done)|(congr 1;rw[Bool.eq_iff_iff];simp_all[actOK];omega))));(iterate 4 ((first|apply rq_s rfl|apply br_f rfl);conv=>whnf));(focus (refine sh_s ?_;(first|(simp_all[actOK];done)|(congr 1;rw[Bool.eq_iff_iff];simp_all[actOK];done)|(congr 1;rw[Bool.eq_iff_iff];simp_all[actOK];omega))));(iterate 11 (first|(apply rq_s rfl;(conv=>whnf))|(apply br_t rfl;(conv=>whnf))|(refine br_s ?_ ?_<;>intro hb<;>(try simp only[cln]at hb)<;>conv=>whnf)));(focus (refine sh_s ?_;(first|(simp_all[actOK];done)|(congr 1;rw[Bool.eq_iff_iff];simp_all[actOK];done)|(congr 1;rw[Bool.eq_iff_iff];simp_all[actOK];omega))));(iterate 5 ((first|apply rq_s rfl|apply br_f rfl);conv=>whnf));(focus (refine sh_s ?_;(first|(simp_all[actOK];done)|(congr 1;rw[Bool.eq_iff_iff];simp_all[actOK];done)|(congr 1;rw[Bool.eq_iff_iff];simp_all[actOK];omega))));(iterate 9 ((first|apply rq_s rfl|apply br_f rfl);conv=>whnf));(focus (refine sh_s ?_;(first|(simp_all[actOK];done)|(congr 1;rw[Bool.eq_iff_iff];simp_all[actOK];done)|(congr 1;rw[Bool.eq_iff_iff];simp_all[actOK];omega))))
end V1
