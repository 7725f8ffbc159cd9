import Derived.Test.YthfphedhlnoffaaGreatDoorBV
import Derived.Test.YthfphedhlnoffaaGreatDoorLK
import Derived.Lib.Case
import Derived.Shelf.Lays
import Derived.Shelf.Lays7
import Derived.Shelf.LaysM
import Derived.Shelf.Spec.TrailingZeros
import Derived.Shelf.Strconv.Itoa4
import Derived.Shelf.Strings.OnBuilder
/- Cells, ranges, valid hosts and data, copies of them: contracts. -/
set_option linter.unusedVariables false
set_option linter.unusedSimpArgs false
set_option maxRecDepth 100000
open Go Go.Abs Go.Proofs V1
namespace H1
theorem c95(n lo hi:Int):Con Tryz.prog 95 [.int .i64 n,.int .i64 lo,.int .i64 hi] (aa [.int .i64 n,.int .i64 lo,.int .i64 hi]) (.bool (bm n lo hi)):=by
 refine rn 15 Tryz.func95 [.tmp 6] (g:= ?_)
 conv=>whnf
 repeat' (first|(focus (refine aA ?_;(first|(simp_all[bm];done)|(simp_all[bm];omega))))|refine aO ?_|(refine bS ?_ ?_<;>intro hb))
instance:CC 95:=⟨_,@c95⟩
theorem c62(n lo hi:Int):Con Tryz.prog 62 [.int .i64 n,.int .i64 lo,.int .i64 hi] (aa [.int .i64 n,.int .i64 lo,.int .i64 hi]) (.bool (bm n lo hi)):=by
 refine rn 15 Tryz.func62 [.tmp 6] (g:= ?_)
 conv=>whnf
 repeat' (first|(focus (refine aA ?_;(first|(simp_all[bm];done)|(simp_all[bm];omega))))|refine aO ?_|(refine bS ?_ ?_<;>intro hb))
instance:CC 62:=⟨_,@c62⟩
theorem c167(n:Int):Con Tryz.prog 167 [.int .i64 n] (aa [.int .i64 n]) (.bool (bm n 0 3)):=
 rn 5 Tryz.func167 [.tmp 2] (g:=go)
instance:CC 167:=⟨_,@c167⟩
theorem c128(n:Int):Con Tryz.prog 128 [.int .i64 n] (aa [.int .i64 n]) (.bool (bm n 2 16)):=
 rn 5 Tryz.func128 [.tmp 2] (g:=go)
instance:CC 128:=⟨_,@c128⟩
theorem c99(n:Int):Con Tryz.prog 99 [.int .i64 n] (aa [.int .i64 n]) (.bool (bm n 2 16)):=
 rn 5 Tryz.func99 [.tmp 2] (g:=go)
instance:CC 99:=⟨_,@c99⟩
theorem c98(n:Int):Con Tryz.prog 98 [.int .i64 n] (aa [.int .i64 n]) (.bool (cell n)):=
 rn 5 Tryz.func98 [.tmp 2] (g:=go)
instance:CC 98:=⟨_,@c98⟩
theorem c165(n:Int):Con Tryz.prog 165 [.int .i64 n] (aa [.int .i64 n]) (.int .i64 (IntKind.i64.wrap (IntKind.i32.wrap n))):=
 rn 6 Tryz.func165 [.tmp 2] (g:=go)
instance:CC 165:=⟨_,@c165⟩
theorem c127(n:Int):Con Tryz.prog 127 [.int .i64 n] (aa [.int .i64 n]) (.bool (cell n)):=by
 refine Con.evF 7 bH dI Tryz.func127 rfl rfl rfl rfl [.tmp 2] rfl fun⟨h,_⟩=> ?_
 have h:=zH h
 conv=>whnf
 refine aO ?_
 (refine aA ?_;((rw[←zQ h.1 h.2])))
instance:CC 127:=⟨_,@c127⟩
theorem c100(d:Deal):Con Tryz.prog 100 [jn d] (aa [jn d]) (.bool (fw d)):=by
 refine rn 21 Tryz.func100 [.tmp 2] (g:= ?_)
 conv=>whnf
 repeat' (first|(focus (refine aA ?_;(first|(simp_all[fw];done)|(simp_all[fw];rfl))))|refine aO ?_|(refine bS ?_ ?_<;>intro hb))
instance:CC 100:=⟨_,@c100⟩
theorem c132(d:Deal):Con Tryz.prog 132 [jn d] (aa [jn d]) (.bool (fw d)):=by
 refine rn 21 Tryz.func132 [.tmp 2] (g:= ?_)
 conv=>whnf
 repeat' (first|(focus (refine aA ?_;(first|(simp_all[fw];done)|(simp_all[fw];rfl))))|refine aO ?_|(refine bS ?_ ?_<;>intro hb))
instance:CC 132:=⟨_,@c132⟩
theorem c131(d:Deal):Con Tryz.prog 131 [jn d] (aa [jn d]) (.bool (nj d)):=
 rn 6 Tryz.func131 [.tmp 2] (g:=go)
instance:CC 131:=⟨_,@c131⟩
theorem c126(n:Int):Con Tryz.prog 126 [.int .i64 n] (aa [.int .i64 n]) (.bool (nU n)):=
 rn 6 Tryz.func126 [.tmp 2] (g:=go)
instance:CC 126:=⟨_,@c126⟩
theorem c166(rs:List (Deal)):Con Tryz.prog 166 [lC rs,.fn 131 []] (aa [lC rs,.fn 131 []]) (.int .i64 (ml nj rs)):=by
 refine Con.evF 19 bH dI Tryz.func166 rfl rfl rfl rfl [.tmp 4] rfl fun⟨hx,_⟩=> ?_
 have hx:=facts_len hx
 conv=>whnf
 rotate_left
 refine LoopG.rounds (α:=Nat) bH dI [0,1,7,8] [] (fun i=>[(0,lC rs),(1,.fn 131 []),(7,.int .i64 rs.length),(8,.int .i64 i)]) (fun _=>[]) (fun i=>i≤rs.length∧ ∀j,j<i→nj (rs.getD j default)=false) (fun i=>rs.length-i) ?_ ?_
 ·conv=>whnf
  exact aE 0 ⟨by simp,fun j hj=>by omega⟩ (by simp[lC]) rfl
 ·rintro i ⟨h1,h2⟩- -
  conv=>whnf
  (refine bS ?_ ?_<;>intro hb)
  refine bN ?_
  (refine aH (by((try simp only[Int.toNat_natCast]);exact aI bc _ _ _ default (by first|omega|(simp;omega)))) ?_;conv=>whnf);iterate 3 (first|refine bN ?_|(refine bS ?_ ?_<;>intro hb))
  iterate 2 (rotate_left)
  refine bN ?_
  rotate_left
  ·refine aA ?_
   rw[lJ default (by assumption) hb h2]
  ·refine aE (i+1) ⟨⟨by omega,fun j hj=> ?_⟩,by omega⟩ (by rw[ai (by omega) (by omega)];rfl) rfl
   by_cases hji:j=i
   ·subst hji;exact hb
   ·exact h2 j (by omega)
  ·refine aA ?_
   rw[jA default fun j hj=>h2 j (by omega)]
instance:CC 166:=⟨_,@c166⟩
theorem c130(rs:List (Deal)):Con Tryz.prog 130 [lC rs,.fn 131 []] (aa [lC rs,.fn 131 []]) (.bool (rs.any nj)):=by
 refine rn 9 Tryz.func130 [.tmp 4] (g:= ?_)
 conv=>whnf
 refine aO ?_
 (refine aA ?_;((rw[←lS])))
instance:CC 130:=⟨_,@c130⟩
theorem c164(rs:List (Int)):Con Tryz.prog 164 [dL rs,.fn 126 []] (aa [dL rs,.fn 126 []]) (.int .i64 (ml nU rs)):=by
 refine Con.evF 19 bH dI Tryz.func164 rfl rfl rfl rfl [.tmp 4] rfl fun⟨hx,_⟩=> ?_
 have hx:=facts_len hx
 conv=>whnf
 rotate_left
 refine LoopG.rounds (α:=Nat) bH dI [0,1,7,8] [] (fun i=>[(0,dL rs),(1,.fn 126 []),(7,.int .i64 rs.length),(8,.int .i64 i)]) (fun _=>[]) (fun i=>i≤rs.length∧ ∀j,j<i→nU (rs.getD j default)=false) (fun i=>rs.length-i) ?_ ?_
 ·conv=>whnf
  exact aE 0 ⟨by simp,fun j hj=>by omega⟩ (by simp[dL]) rfl
 ·rintro i ⟨h1,h2⟩- -
  conv=>whnf
  (refine bS ?_ ?_<;>intro hb)
  refine bN ?_
  (refine aH (by((try simp only[Int.toNat_natCast]);exact aI aj _ _ _ default (by first|omega|(simp;omega)))) ?_;conv=>whnf);iterate 3 (first|refine bN ?_|(refine bS ?_ ?_<;>intro hb))
  iterate 2 (rotate_left)
  refine bN ?_
  rotate_left
  ·refine aA ?_
   rw[lJ default (by assumption) hb h2]
  ·refine aE (i+1) ⟨⟨by omega,fun j hj=> ?_⟩,by omega⟩ (by rw[ai (by omega) (by omega)];rfl) rfl
   by_cases hji:j=i
   ·subst hji;exact hb
   ·exact h2 j (by omega)
  ·refine aA ?_
   rw[jA default fun j hj=>h2 j (by omega)]
instance:CC 164:=⟨_,@c164⟩
theorem c125(rs:List (Int)):Con Tryz.prog 125 [dL rs,.fn 126 []] (aa [dL rs,.fn 126 []]) (.bool (rs.any nU)):=by
 refine rn 9 Tryz.func125 [.tmp 4] (g:= ?_)
 conv=>whnf
 refine aO ?_
 (refine aA ?_;((rw[←lS])))
instance:CC 125:=⟨_,@c125⟩
theorem CF(xs:List Int):Con Tryz.prog 125 [dL xs,.fn 126 []] (aa [dL xs,.fn 126 []]) (.bool (!aN xs)):=zd xs▸c125 xs
theorem Bs(xs:List Deal):Con Tryz.prog 130 [lC xs,.fn 131 []] (aa [lC xs,.fn 131 []]) (.bool (!fH xs)):=zy xs▸c130 xs
theorem c92(xs:List Int)(n:Int):Con Tryz.prog 92 [dL xs,.int .i64 n] (aa [dL xs,.int .i64 n]) (.bool (decide ((xs.length:Int)≤n)&&aN xs)):=by
 refine rn 14 Tryz.func92 [.tmp 4] (g:= ?_)
 conv=>whnf
 repeat' (first|(refine ag (CF ..) ?_;conv=>whnf)|(focus (refine aA ?_;(first|(simp_all;done)|(simp_all;omega))))|refine bN ?_|refine im ?_|(refine bS ?_ ?_<;>intro hb))
instance:CC 92:=⟨_,@c92⟩
theorem c129(xs:List Int):Con Tryz.prog 129 [dL xs] (aa [dL xs]) (.bool (decide (xs.length=8)&&aN xs)):=by
 refine rn 10 Tryz.func129 [.tmp 2] (g:= ?_)
 conv=>whnf
 repeat' (first|(focus (refine aA ?_;(first|(simp_all;done)|(simp_all;omega))))|refine aO ?_|(refine bS ?_ ?_<;>intro hb))
instance:CC 129:=⟨_,@c129⟩
theorem c58(xs:List Int):Con Tryz.prog 58 [dL xs] (aa [dL xs]) (.bool (aN xs)):=by
 refine Con.evF 16 bH dI Tryz.func58 rfl rfl rfl rfl [.tmp 2] rfl fun⟨hx,_⟩=> ?_
 have hx:=facts_len hx
 conv=>whnf
 rotate_left
 refine LoopG.rounds (α:=Nat) bH dI [0,3] [] (fun i=>[(0,dL xs),(3,.int .i64 i)]) (fun _=>[]) (fun i=>i≤xs.length∧ ∀j,j<i→cell (xs.getD j default)=true) (fun i=>xs.length-i) ?_ ?_
 ·conv=>whnf
  exact aE 0 ⟨by simp,fun j hj=>by omega⟩ (by first|rfl|simp[dL]) rfl
 ·rintro i ⟨h1,h2⟩- -
  conv=>whnf
  (refine bS ?_ ?_<;>intro hb)
  refine bN ?_
  (refine aH (by((try simp only[Int.toNat_natCast]);exact aI aj _ _ _ default (by first|omega|(simp;omega)))) ?_;conv=>whnf);iterate 3 (first|refine bN ?_|(refine bS ?_ ?_<;>intro hb))
  iterate 2 (rotate_left)
  refine bN ?_
  rotate_left
  ·exact aA (by rw[aN,lT (by assumption) hb])
  ·refine aE (i+1) ⟨⟨by omega,fun j hj=> ?_⟩,by omega⟩ (by rw[ai (by omega) (by omega)];rfl) rfl
   by_cases hji:j=i
   ·subst hji;exact hb
   ·exact h2 j (by omega)
  ·exact aA (by rw[aN,kW fun j hj=>h2 j (by omega)])
instance:CC 58:=⟨_,@c58⟩
theorem c94(h:Hst):Con Tryz.prog 94 [cV h] (aa [cV h]) (.bool (cU h)):=by
 have e:((h.q.length:Int)≤20)=(h.q.length≤20):=propext ⟨fun _=>by omega,fun _=>by omega⟩
 refine rn 34 Tryz.func94 [.tmp 2] (g:= ?_)
 conv=>whnf
 repeat' (first|(refine ag (Bs ..) ?_;conv=>whnf)|(focus (refine aA ?_;(first|(simp_all[cU];done)|(simp_all[cU];omega)|(congr 1;rw[Bool.eq_iff_iff];simp_all[cU];done)|(congr 1;rw[Bool.eq_iff_iff];simp_all[cU];omega))))|refine bN ?_|refine im ?_|(refine bS ?_ ?_<;>intro hb))
instance:CC 94:=⟨_,@c94⟩
theorem c60(h:Hst):Con Tryz.prog 60 [cV h] (aa [cV h]) (.bool (cU h)):=by
 refine Con.evF 58 bH dI Tryz.func60 rfl rfl rfl rfl [.tmp 2] rfl fun⟨hx,_⟩=> ?_
 have hx:=facts_len (fun d=>hx (d+1) (lC h.ds) (by simp[Ek]))
 conv=>whnf
 refine aO ?_
 (refine bS ?_ ?_<;>intro hb)
 refine aO ?_
 (focus (refine aA ?_;(first|(simp_all[cU];done)|(simp_all[cU];omega))))
 refine aO ?_
 (refine bS ?_ ?_<;>intro hb)
 refine aO ?_
 (focus (refine aA ?_;(first|(simp_all[cU];done)|(simp_all[cU];omega))))
 refine aO ?_
 (refine bS ?_ ?_<;>intro hb)
 refine aO ?_
 (focus (refine aA ?_;(first|(simp_all[cU];done)|(simp_all[cU];omega))))
 refine aO ?_
 (refine bS ?_ ?_<;>intro hb)
 refine aO ?_
 (focus (refine aA ?_;(first|(simp_all[cU];done)|(simp_all[cU];omega))))
 refine aO ?_
 (refine bS ?_ ?_<;>intro hb)
 refine aO ?_
 (focus (refine aA ?_;(first|(simp_all[cU];done)|(simp_all[cU];omega))))
 refine aO ?_
 (refine bS ?_ ?_<;>intro hb)
 refine aO ?_
 (focus (refine aA ?_;(first|(simp_all[cU];done)|(simp_all[cU];omega))))
 refine aO ?_
 (refine bS ?_ ?_<;>intro hb)
 refine aO ?_
 (focus (refine aA ?_;(first|(simp_all[cU];done)|(simp_all[cU];omega))))
 rotate_left
 have g1:h.gr.length=4:=by omega
 have g2:h.st.length=8:=by omega
 have g3:h.q.length≤20:=by omega
 have g4:h.ds.length≤40:=by omega
 have g5:aN h.st=true:=by assumption
 have g6:aN h.q=true:=by assumption
 have g7:bm h.tk 0 2147483647=true:=hb
 have fin:cU h=fH h.ds:=by simp[cU,g1,g2,g3,g4,g5,g6,g7]
 rw[fin]
 refine LoopG.rounds (α:=Nat) bH dI [3,1] [(1,1)] (fun i=>[(3,.int .i64 i),(1,.ptr 1 0 0)]) (fun _=>[(1,.live ⟨false,0,[pE h.gr,dL h.st,dL h.q,.int .i64 h.tk,lC h.ds],[[pE h.gr,dL h.st,dL h.q,.int .i64 h.tk,lC h.ds]]⟩)]) (fun i=>i≤h.ds.length∧ ∀j,j<i→fw (h.ds.getD j default)=true) (fun i=>h.ds.length-i) ?_ ?_
 ·conv=>whnf
  exact aE 0 ⟨by simp,fun j hj=>by omega⟩ rfl rfl
 ·rintro i ⟨h1,h2⟩- -
  conv=>whnf
  (iterate 3 (first|refine bN ?_|(refine bS ?_ ?_<;>intro hb)));(refine aH (by((try simp only[Int.toNat_natCast]);exact aI bc _ _ _ default (by first|omega|(simp;omega)))) ?_;conv=>whnf);iterate 3 (first|refine bN ?_|(refine bS ?_ ?_<;>intro hb))
  iterate 2 (rotate_left)
  refine bN ?_
  rotate_left
  ·exact aA (by rw[fH,lT (by assumption) hb])
  ·refine aE (i+1) ⟨⟨by omega,fun j hj=> ?_⟩,by omega⟩ (by rw[ai (by omega) (by omega)];rfl) rfl
   by_cases hji:j=i
   ·subst hji;exact hb
   ·exact h2 j (by omega)
  ·exact aA (by rw[fH,kW fun j hj=>h2 j (by omega)])
instance:CC 60:=⟨_,@c60⟩
theorem c59(d:Dat):Con Tryz.prog 59 [az d] (aa [az d]) (.bool (eX d)):=by
 refine rn 50 Tryz.func59 [.tmp 2] (g:= ?_)
 conv=>whnf
 repeat' (first|(focus (refine aA ?_;(first|(simp_all[eX];done)|(simp_all[eX];omega)|(congr 1;rw[Bool.eq_iff_iff];simp_all[eX];done)|(congr 1;rw[Bool.eq_iff_iff];simp_all[eX];omega))))|refine aO ?_|(refine bS ?_ ?_<;>intro hb))
instance:CC 59:=⟨_,@c59⟩
theorem c93(d:Dat):Con Tryz.prog 93 [az d] (aa [az d]) (.bool (eX d)):=by
 have e1:((d.st.length:Int)≤32)=(d.st.length≤32):=propext ⟨fun _=>by omega,fun _=>by omega⟩
 have e2:((d.bk.length:Int)≤32)=(d.bk.length≤32):=propext ⟨fun _=>by omega,fun _=>by omega⟩
 have e3:((d.ce.length:Int)≤32)=(d.ce.length≤32):=propext ⟨fun _=>by omega,fun _=>by omega⟩
 refine rn 38 Tryz.func93 [.tmp 2] (g:= ?_)
 conv=>whnf
 repeat' (first|(focus (refine aA ?_;(first|(simp_all[eX];done)|(simp_all[eX];omega)|(congr 1;rw[Bool.eq_iff_iff];simp_all[eX];done)|(congr 1;rw[Bool.eq_iff_iff];simp_all[eX];omega))))|refine aO ?_|(refine bS ?_ ?_<;>intro hb))
instance:CC 93:=⟨_,@c93⟩
theorem qs{α:Type}{z:List AV}{f:α→List AV}{xs:List α}(h:xs.length=0):Sh .emp (.own 0 z (xs.map f)):=by
 have:xs=[]:=List.length_eq_zero_iff.1 h
 subst this
 exact Sh.emp_own 0 z
theorem c110(xs:List Bool)(h:xs.length≤1048576):Con Tryz.prog 110 [pE xs] (aa [pE xs]) (aX xs):=by
 refine rn 8 Tryz.func110 [.tmp 2] (g:= ?_)
 conv=>whnf
 (refine vz (fun hz=> ?_) ?_<;>conv=>whnf)
 refine aO ?_
 rotate_left
 refine aO ?_
 rotate_left
 ·exact⟨qs (by simpa using hz)⟩
 ·exact⟨Sh.flat_map (fun _=>rfl) _⟩
instance:CC 110:=⟨_,@c110⟩
theorem c73(xs:List Int)(h:xs.length≤1048576):Con Tryz.prog 73 [dL xs] (aa [dL xs]) (aK xs):=by
 refine rn 8 Tryz.func73 [.tmp 2] (g:= ?_)
 conv=>whnf
 (refine vz (fun hz=> ?_) ?_<;>conv=>whnf)
 refine aO ?_
 rotate_left
 refine aO ?_
 rotate_left
 ·exact⟨qs (by simpa using hz)⟩
 ·exact⟨Sh.flat_map (fun _=>rfl) _⟩
instance:CC 73:=⟨_,@c73⟩
theorem c111(xs:List Deal)(h:xs.length≤1048576):Con Tryz.prog 111 [lC xs] (aa [lC xs]) (aW xs):=by
 refine rn 8 Tryz.func111 [.tmp 2] (g:= ?_)
 conv=>whnf
 (refine vz (fun hz=> ?_) ?_<;>conv=>whnf)
 refine aO ?_
 rotate_left
 refine aO ?_
 rotate_left
 ·exact⟨qs (by simpa using hz)⟩
 ·exact⟨Sh.flat_map (fun _=>rfl) _⟩
instance:CC 111:=⟨_,@c111⟩
theorem c76(h:Hst)(hs:dA h):Con Tryz.prog 76 [cV h] (aa [cV h]) (fR h):=by
 refine rn 20 Tryz.func76 [.cell 2 38] (g:= ?_)
 conv=>whnf
 (iterate 17 (first|refine im ?_|(refine ag (c111 _ hs.2.2.2) ?_;conv=>whnf)|(refine ag (c73 _ hs.2.2.1) ?_;conv=>whnf)|(refine ag (c73 _ hs.2.1) ?_;conv=>whnf)|(refine ag (c110 _ hs.1) ?_;conv=>whnf)|refine bN ?_));(refine aA ?_;(rfl))
instance:CC 76:=⟨_,@c76⟩
theorem c75(d:Dat)(hs:ep d):Con Tryz.prog 75 [az d] (aa [az d]) (jY d):=by
 refine rn 16 Tryz.func75 [.cell 2 35] (g:= ?_)
 conv=>whnf
 (iterate 13 (first|refine im ?_|(refine ag (c73 _ hs.2.2.1) ?_;conv=>whnf)|(refine ag (c73 _ hs.2.1) ?_;conv=>whnf)|(refine ag (c73 _ hs.1) ?_;conv=>whnf)|refine bN ?_));(refine aA ?_;(rfl))
instance:CC 75:=⟨_,@c75⟩
theorem c66(h:Hst)(hs:dA h):Con Tryz.prog 66 [cV h] (aa [cV h]) (fR h):=by
 obtain⟨h1,h2,h3,h4⟩:=hs
 refine rn 24 Tryz.func66 [.cell 2 38] (g:= ?_)
 conv=>whnf
 refine aO ?_
 rotate_left
 exact⟨Sh.agg ⟨Sh.flat_map (fun _=>rfl) _,Sh.flat_map (fun _=>rfl) _,Sh.flat_map (fun _=>rfl) _,Sh.refl _,Sh.flat_map (fun _=>rfl) _,trivial⟩⟩
instance:CC 66:=⟨_,@c66⟩
theorem c65(d:Dat)(hs:ep d):Con Tryz.prog 65 [az d] (aa [az d]) (jY d):=by
 obtain⟨h1,h2,h3,h4⟩:=hs
 refine rn 19 Tryz.func65 [.cell 2 35] (g:= ?_)
 conv=>whnf
 refine aO ?_
 rotate_left
 exact⟨Sh.agg ⟨Sh.flat_map (fun _=>rfl) _,Sh.flat_map (fun _=>rfl) _,Sh.flat_map (fun _=>rfl) _,Sh.refl _,Sh.refl _,Sh.refl _,trivial⟩⟩
instance:CC 65:=⟨_,@c65⟩
end H1

/- Numbers in bases 2 to 16: digits, plainly; strconv's formatBits, by walk. -/
open Go Go.Abs Go.Proofs V1
namespace F1
def eZ(f:Nat→UInt8)(b v:Nat):List UInt8:=if h:b≤v∧2≤b then eZ f b (v/b)++[f (v%b)]else[f v]
termination_by v
decreasing_by exact Nat.div_lt_self (by omega) (by omega)
theorem dM(f:Nat→UInt8){b v:Nat}(h:b≤v)(h2:2≤b):eZ f b v=eZ f b (v/b)++[f (v%b)]:=by rw[eZ,dif_pos ⟨h,h2⟩]
theorem ei(f:Nat→UInt8){b v:Nat}(h:v<b):eZ f b v=[f v]:=by rw[eZ,dif_neg (by omega)]
theorem Cy(f g:UInt8→UInt8)(d:Nat→UInt8)(b:Nat)(h2:2≤b): ∀v,(eZ d b v).map f=eZ (fun k=>f (d k)) b v:=by
 intro v
 induction v using Nat.strongRecOn with
 |ind v ih=>
  by_cases h:b≤v
  ·rw[dM _ h h2,dM _ h h2,List.map_append,ih _ (Nat.div_lt_self (by omega) (by omega))]
   rfl
  ·rw[ei _ (by omega),ei _ (by omega)]
   rfl
theorem kQ(f:Nat→UInt8){b:Nat}(h2:2≤b): ∀(n v:Nat),v<2 ^ n→1≤n→(eZ f b v).length≤n
 |0,v,_,h=>by omega
 |n+1,v,h,_=>by
  by_cases hb:b≤v
  ·rw[dM _ hb h2,List.length_append,List.length_singleton]
   have hn:1≤n:=by
    rcases n with _|n
    ·simp at h;omega
    ·omega
   have h3:v/b<2 ^ n:=by
    have:v/b≤v/2:=Nat.div_le_div_left h2 (by omega)
    have:v/2<2 ^ n:=by rw[Nat.pow_succ]at h;omega
    omega
   have:=kQ f h2 n (v/b) h3 hn
   omega
  ·rw[ei _ (by omega)];simp
def Ds:List UInt8:=[48,49,50,51,52,53,54,55,56,57,97,98,99,100,101,102,103,104,105,106,107,108,109,110,111,112,113,114,115,116,117,118,119,120,121,122]
def iX(k:Nat):UInt8:=Ds.getD k 0
def eV(s:List UInt8):List (List AV):=List.replicate (65-s.length) [.int .u8 0]++dq s
theorem dK{s:List UInt8}(h:s.length≤65):(eV s).length=65:=by simp[eV,dq];omega
theorem ej{s:List UInt8}{i:Nat}{c:UInt8}{n:Nat}(h:s.length<65)(hi:i=64-s.length)(hc:n=c.toNat):bl (eV s) i 0 [.int .u8 0] [.int .u8 (n:Int)]=eV (c::s):=by
 subst hi hc
 have hr:dn (eV s) (64-s.length) [.int .u8 0]=[.int .u8 0]:=by
  simp[dn,eV,List.getElem?_append,show 64-s.length<65-s.length by omega,List.getElem?_replicate]
 rw[bl,hr]
 have e1:setCells [.int .u8 0] 0 [.int .u8 (c.toNat:Int)]=[.int .u8 (c.toNat:Int)]:=by simp[setCells]
 rw[e1]
 apply List.ext_getElem?
 intro j
 simp only[eV,dq,List.length_cons,List.getElem?_set,List.getElem?_append,List.length_append,List.length_replicate,List.length_map,List.getElem?_replicate,List.getElem?_map]
 by_cases h1:64-s.length=j
 ·subst h1
  have e2:64-s.length-(65-(s.length+1))=0:=by omega
  have e3: ¬64-s.length<65-(s.length+1):=by omega
  simp[e2,e3]
  omega
 ·by_cases h2:j<64-s.length
  ·simp[h1,h2,show j<65-s.length by omega]
  ·have e2:j-(64-s.length)=(j-(65-s.length))+1:=by omega
   simp[h1,h2,show ¬j<65-s.length by omega,e2]
theorem lG{s:List UInt8}{i n:Nat}(h:s.length≤65)(hi:i=65-s.length)(hn:n=s.length):cI (am (eV s) i n)=some s:=by
 subst hi hn
 have:am (eV s) (65-s.length) s.length=dq s:=by
  rw[am,eV,List.drop_append_of_le_length (by simp)]
  simp[dq,List.take_of_length_le]
 rw[this]
 clear this h
 induction s with
 |nil=>rfl
 |cons c s ih=>
  show(cI (dq s)).map _=_
  rw[ih]
  simp
theorem IT{b u:Nat}{k:Nat}(hb:b=2 ^ k)(hk:k≤4)(hu:u<18446744073709551616):(IntKind.u64.wrap (((BitVec.ofInt IntKind.u64.bits (u:Int)&&&BitVec.ofInt IntKind.u64.bits (IntKind.u64.wrap (IntKind.u64.wrap (b:Int)-1))).toNat:Nat):Int)).toNat=u%b:=by
 have e1:IntKind.u64.wrap (IntKind.u64.wrap (b:Int)-1)=((2 ^ k-1:Nat):Int):=by
  subst hb
  have:k=0∨k=1∨k=2∨k=3∨k=4:=by omega
  rcases this with rfl|rfl|rfl|rfl|rfl<;>decide
 rw[e1]
 have e2:(BitVec.ofInt IntKind.u64.bits (u:Int)).toNat=u:=by
  rw[BitVec.toNat_ofInt]
  show((u:Int)%((2 ^ 64:Nat):Int)).toNat=u
  omega
 have hk2:2 ^ k-1<2 ^ 64:=by
  have:k=0∨k=1∨k=2∨k=3∨k=4:=by omega
  rcases this with rfl|rfl|rfl|rfl|rfl<;>decide
 have e3:(BitVec.ofInt IntKind.u64.bits ((2 ^ k-1:Nat):Int)).toNat=2 ^ k-1:=by
  rw[BitVec.toNat_ofInt]
  show(((2 ^ k-1:Nat):Int)%((2 ^ 64:Nat):Int)).toNat=2 ^ k-1
  generalize 2 ^ k-1=q at hk2⊢
  omega
 rw[BitVec.toNat_and,e2,e3,Nat.and_two_pow_sub_one_eq_mod,←hb]
 have hlt:u%b≤u:=Nat.mod_le _ _
 rw[jo (by simp[dE];omega)]
 rfl
theorem Ho{b u k:Nat}(hb:b=2 ^ k)(hk:k≤4):(u:Int).fdiv (2 ^ (min (IntKind.u64.wrap (k:Int)).toNat IntKind.u64.bits))=((u/b:Nat):Int):=by
 have:k=0∨k=1∨k=2∨k=3∨k=4:=by omega
 subst hb
 rcases this with rfl|rfl|rfl|rfl|rfl<;>
 ·simp only[show(min (IntKind.u64.wrap ((0:Nat):Int)).toNat IntKind.u64.bits)=0 from by decide,show(min (IntKind.u64.wrap ((1:Nat):Int)).toNat IntKind.u64.bits)=1 from by decide,show(min (IntKind.u64.wrap ((2:Nat):Int)).toNat IntKind.u64.bits)=2 from by decide,show(min (IntKind.u64.wrap ((3:Nat):Int)).toNat IntKind.u64.bits)=3 from by decide,show(min (IntKind.u64.wrap ((4:Nat):Int)).toNat IntKind.u64.bits)=4 from by decide]
  rw[Int.fdiv_eq_ediv_of_nonneg _ (by decide)]
  norm_cast
theorem hE{n:Int}(h1:0≤n)(h2:n<18446744073709551616):IntKind.u64.wrap n=n:=jo (by simp[dE];omega)
theorem uA{v:Nat}(h1:1≤v)(h2:v<18446744073709551616):IntKind.u64.wrap (0-IntKind.u64.wrap (-(v:Int)))=v:=by
 have e: ∀n:Int,IntKind.u64.wrap n=n%18446744073709551616:=fun n=>rfl
 rw[e,e]
 omega
theorem tp{b u v n:Nat}(hb:2≤b)(h:u*2 ^ n≤v):u/b*2 ^ (n+1)≤v:=by
 have e1:u/b≤u/2:=Nat.div_le_div_left hb (by omega)
 have e2:u/2*2≤u:=Nat.div_mul_le_self u 2
 have e3:u/b*2 ^ (n+1)≤u/2*2 ^ (n+1):=Nat.mul_le_mul_right _ e1
 have e4:u/2*2 ^ (n+1)=u/2*2*2 ^ n:=by rw[Nat.pow_succ,Nat.mul_assoc,Nat.mul_comm 2]
 have e5:u/2*2*2 ^ n≤u*2 ^ n:=Nat.mul_le_mul_right _ e2
 omega
theorem tv{u v n:Nat}(hu:1≤u)(h:u*2 ^ n≤v)(hv:v<2 ^ 33)(h3:n≤33):n+1≤33:=by
 by_cases hq:n+1≤33
 ·exact hq
 ·have e3:n=33:=by omega
  rw[e3]at h
  have:1*2 ^ 33≤u*2 ^ 33:=Nat.mul_le_mul_right _ hu
  omega
theorem FH{u b:Nat}(h1:1≤b)(h2:b<18446744073709551616)(hu:u<18446744073709551616):IntKind.u64.wrap ((u:Int).tdiv (IntKind.u64.wrap (b:Int)))=((u/b:Nat):Int):=by
 rw[hE (n:=(b:Int)) (by omega) (by omega),Int.tdiv_eq_ediv_of_nonneg (by omega)]
 have e:(u:Int)/(b:Int)=((u/b:Nat):Int):=by norm_cast
 have hq:=Nat.div_le_self u b
 rw[e]
 generalize u/b=q at hq
 exact hE (by omega) (by omega)
theorem Hg{u b:Nat}(h1:1≤b)(h2:b<18446744073709551616)(hu:u<18446744073709551616):(IntKind.u64.wrap ((u:Int)-IntKind.u64.wrap (IntKind.u64.wrap ((u:Int).tdiv (IntKind.u64.wrap (b:Int)))*IntKind.u64.wrap (b:Int)))).toNat=u%b:=by
 rw[FH h1 h2 hu,hE (n:=(b:Int)) (by omega) (by omega)]
 have e1:((u/b:Nat):Int)*(b:Int)=((u/b*b:Nat):Int):=by norm_cast
 have e2:u/b*b≤u:=Nat.div_mul_le_self u b
 have e3:u%b=u-u/b*b:=by have:=Nat.div_add_mod u b;rw[Nat.mul_comm]at this;omega
 rw[e1,e3]
 generalize u/b*b=q at e2
 rw[hE (n:=(q:Int)) (by omega) (by omega),hE (by omega) (by omega)]
 omega
theorem BX(n:Int):0≤IntKind.u64.wrap n:=by
 have e:IntKind.u64.wrap n=n%18446744073709551616:=rfl
 rw[e]
 omega
end F1

/- strconv's formatBits, by walk: contracts. -/
open Go Go.Abs Go.Proofs V1 F1
namespace F2
def Dr(b:Nat):Bool:=b==2||b==4||b==8||b==16
theorem c236(b:Nat)(h:2≤b∧b≤16):Con Tryz.prog 236 [.int .i64 b] (aa [.int .i64 b]) (.bool (Dr b)):=by
 have:b=2∨b=3∨b=4∨b=5∨b=6∨b=7∨b=8∨b=9∨b=10∨b=11∨b=12∨b=13∨b=14∨b=15∨b=16:=by omega
 refine rn 8 Tryz.func236 [.tmp 2] (g:= ?_)
 conv=>whnf
 refine aO ?_
 rotate_left
 refine aA (congrArg AV.bool ?_)
 rcases this with rfl|rfl|rfl|rfl|rfl|rfl|rfl|rfl|rfl|rfl|rfl|rfl|rfl|rfl|rfl<;>decide
theorem HM(k:Nat)(b:Nat)(hb:b=2 ^ k)(hk:1≤k∧k≤4)(kt:Con Tryz.prog 237 [.int .u64 (IntKind.u64.wrap (b:Int))] (aa [.int .u64 (IntKind.u64.wrap (b:Int))]) (.int .i64 k))(v:Nat)(hv:v<2 ^ 33):
  Con Tryz.prog 222 [.emp,.int .u64 v,.int .i64 b,.bool false,.bool false] (aa [.emp,.int .u64 v,.int .i64 b,.bool false,.bool false]) (.tup [.emp,.str (eZ iX b v)]):=by
 have hb2:2≤b∧b≤16∧b≠10:=by
  subst hb
  have:k=1∨k=2∨k=3∨k=4:=by omega
  rcases this with rfl|rfl|rfl|rfl<;>decide
 have hp:Dr b=true:=by
  subst hb
  have:k=1∨k=2∨k=3∨k=4:=by omega
  rcases this with rfl|rfl|rfl|rfl<;>decide
 have ki:=c236 b ⟨hb2.1,hb2.2.1⟩
 rw[hp]at ki
 have g0:decide ((b:Int)<2)=false:=decide_eq_false (by omega)
 have g1:((b:Int)==10)=false:=by simp;omega
 have g2:decide ((b:Int)>36)=false:=decide_eq_false (by omega)
 have wb:IntKind.u64.wrap (b:Int)=b:=hE (by omega) (by omega)
 refine rn 102 Tryz.func222 [.tmp 10,.tmp 11] (g:= ?_)
 conv=>whnf
 iterate 15 ((first|apply ac rfl|refine aG (fun hf=> ?_)|apply bL rfl|apply aJ rfl|refine aJ (by solve|simp only[g0,g1,g2,if_true,if_false,Bool.false_eq_true,reduceIte]|fail) ?_|apply aB|refine ag (ki ..) ?_|refine ag (kt ..) ?_);conv=>whnf)
 rotate_left
 refine LoopG.rounds (α:=Nat × List UInt8) bH dI [1,3,4,10,11,12,13,14,15,16] [(12,12)] (fun a=>[(1,.int .u64 a.1),(3,.bool false),(4,.bool false),(10,.emp),(11,.str []),(12,.ptr 12 0 0),(13,.int .i64 (65-(a.2.length:Int))),(14,.int .u64 (IntKind.u64.wrap (k:Int))),(15,.int .u64 (IntKind.u64.wrap (b:Int))),(16,.int .u64 (IntKind.u64.wrap (IntKind.u64.wrap (b:Int)-1)))]) (fun a=>[(12,.live ⟨true,0,[.int .u8 0],eV a.2⟩)]) (fun a=>eZ iX b a.1++a.2=eZ iX b v∧a.1*2 ^ a.2.length≤v∧a.2.length≤33) (fun a=>a.1) ?_ ?_
 ·conv=>whnf
  exact aE (v,[]) ⟨by simp,by simp,by simp⟩ rfl rfl
 ·rintro ⟨u,s⟩ ⟨h1,h2,h3⟩- -
  simp only at h1 h2 h3⊢
  have la:=dK (s:=s) (by omega)
  have w65:IntKind.i64.wrap (65-(s.length:Int)-1)=64-(s.length:Int):=by rw[ai (by omega) (by omega)];omega
  have h2n:1≤2 ^ s.length:=Nat.one_le_two_pow
  have hu64:u<18446744073709551616:=by
   have:=Nat.le_mul_of_pos_right u h2n
   omega
  have pi:0+(IntKind.i64.wrap (65-(s.length:Int)-1)).toNat=64-s.length:=by rw[w65];omega
  by_cases hu:b≤u
  ·have gu:decide ((u:Int)≥IntKind.u64.wrap (b:Int))=true:=by rw[wb];exact decide_eq_true (by omega)
   have hm:u%b<b:=Nat.mod_lt _ (by omega)
   have bd:=IT (u:=u) hb hk.2 hu64
   conv=>whnf
   iterate 10 ((first|refine ac (by solve|simp only[cB,dK,Ds]|fail) ?_|apply ac rfl|refine ac (by refine aU rfl ?_;simp only[cB];omega) ?_|refine ac (by simp only[Bool.and_eq_true,decide_eq_true_eq,List.length_map];omega) ?_|refine ac (by((simp;omega))) ?_|refine ac (by((first|(rw[bd];exact decide_eq_true (show u%b<36 by omega))|(rw[w65];exact decide_eq_true (by omega))|(rw[la];rfl)|(rw[w65,la];exact decide_eq_true (by omega))|(refine aU rfl ?_;rw[w65,la];exact decide_eq_true (by omega))))) ?_|apply af rfl|refine bL (by assumption) ?_);conv=>whnf)
   rotate_left
   refine aE (u/b,iX (u%b)::s) ⟨⟨?_,?_,?_⟩,Nat.div_lt_self (by omega) (by omega)⟩ (by rw[Ho hb hk.2,w65,show 64-(s.length:Int)=65-((s.length+1:Nat):Int) by omega];rfl) ?_
   ·rw[←h1,dM _ hu (by omega)];simp
   ·simp only[List.length_cons]
    exact tp hb2.1 h2
   ·simp only[List.length_cons]
    exact tv (by omega) h2 hv h3
   ·rw[ej (c:=iX (u%b)) (by omega) pi]
    rw[bd];rfl
  ·have gu:decide ((u:Int)≥IntKind.u64.wrap (b:Int))=false:=by rw[wb];exact decide_eq_false (by omega)
   conv=>whnf
   iterate 19 ((first|refine ac (by solve|simp only[cB,dK,Ds]|fail) ?_|apply ac rfl|refine ac (by refine aU rfl ?_;simp only[cB];omega) ?_|refine ac (by simp only[Bool.and_eq_true,decide_eq_true_eq,List.length_map];omega) ?_|refine ac (by((simp;omega))) ?_|refine ac (by((first|(rw[w65];exact decide_eq_true (by omega))|(rw[la];rfl)|(rw[w65,la];exact decide_eq_true (by omega))|(refine aU rfl ?_;rw[w65,la];exact decide_eq_true (by omega))|(refine aU rfl ?_;rw[bh,la];rfl)|(rw[w65,bh,la];exact decide_eq_true (by omega))|(rw[w65,bh,la];simp;omega)))) ?_|apply af rfl|apply aJ rfl|refine aJ (by assumption) ?_);conv=>whnf)
   rotate_left
   refine mj (b:=iX u::s) ?_ ?_
   ·show cI (am (bl (eV s) _ 0 _ _) _ ((bl (eV s) _ 0 _ _).length-_))=_
    rw[bh,la,w65,ej (c:=iX u) (by omega) (by omega)]
    ·exact lG (s:=iX u::s) (by simp;omega) (by simp) (by simp;omega)
    ·rfl
   ·conv=>whnf
    iterate 2 (apply ac rfl;conv=>whnf)
    rotate_left
    refine aA ?_
    rw[←h1,ei _ (by omega)]
    rfl
theorem KM(k:Nat)(b:Nat)(hb:b=2 ^ k)(hk:1≤k∧k≤4)(kt:Con Tryz.prog 237 [.int .u64 (IntKind.u64.wrap (b:Int))] (aa [.int .u64 (IntKind.u64.wrap (b:Int))]) (.int .i64 k))(v:Nat)(hv:v<2 ^ 33)(hv1:1≤v):
  Con Tryz.prog 222 [.emp,.int .u64 (IntKind.u64.wrap (-(v:Int))),.int .i64 b,.bool true,.bool false] (aa [.emp,.int .u64 (IntKind.u64.wrap (-(v:Int))),.int .i64 b,.bool true,.bool false]) (.tup [.emp,.str (45::eZ iX b v)]):=by
 have hb2:2≤b∧b≤16∧b≠10:=by
  subst hb
  have:k=1∨k=2∨k=3∨k=4:=by omega
  rcases this with rfl|rfl|rfl|rfl<;>decide
 have hp:Dr b=true:=by
  subst hb
  have:k=1∨k=2∨k=3∨k=4:=by omega
  rcases this with rfl|rfl|rfl|rfl<;>decide
 have ki:=c236 b ⟨hb2.1,hb2.2.1⟩
 rw[hp]at ki
 have g0:decide ((b:Int)<2)=false:=decide_eq_false (by omega)
 have g1:((b:Int)==10)=false:=by simp;omega
 have g2:decide ((b:Int)>36)=false:=decide_eq_false (by omega)
 have wb:IntKind.u64.wrap (b:Int)=b:=hE (by omega) (by omega)
 have wn:IntKind.u64.wrap (0-IntKind.u64.wrap (-(v:Int)))=v:=uA hv1 (by omega)
 refine rn 102 Tryz.func222 [.tmp 10,.tmp 11] (g:= ?_)
 conv=>whnf
 iterate 15 ((first|apply ac rfl|refine aG (fun hf=> ?_)|apply bL rfl|apply aJ rfl|refine aJ (by solve|simp only[g0,g1,g2,if_true,if_false,Bool.false_eq_true,reduceIte]|fail) ?_|apply aB|refine ag (ki ..) ?_|refine ag (kt ..) ?_);conv=>whnf)
 rotate_left
 refine LoopG.rounds (α:=Nat × List UInt8) bH dI [1,3,4,10,11,12,13,14,15,16] [(12,12)] (fun a=>[(1,.int .u64 a.1),(3,.bool true),(4,.bool false),(10,.emp),(11,.str []),(12,.ptr 12 0 0),(13,.int .i64 (65-(a.2.length:Int))),(14,.int .u64 (IntKind.u64.wrap (k:Int))),(15,.int .u64 (IntKind.u64.wrap (b:Int))),(16,.int .u64 (IntKind.u64.wrap (IntKind.u64.wrap (b:Int)-1)))]) (fun a=>[(12,.live ⟨true,0,[.int .u8 0],eV a.2⟩)]) (fun a=>eZ iX b a.1++a.2=eZ iX b v∧a.1*2 ^ a.2.length≤v∧a.2.length≤33) (fun a=>a.1) ?_ ?_
 ·conv=>whnf
  exact aE (v,[]) ⟨by simp,by simp,by simp⟩ (by rw[wn];rfl) rfl
 ·rintro ⟨u,s⟩ ⟨h1,h2,h3⟩- -
  simp only at h1 h2 h3⊢
  have la:=dK (s:=s) (by omega)
  have w65:IntKind.i64.wrap (65-(s.length:Int)-1)=64-(s.length:Int):=by rw[ai (by omega) (by omega)];omega
  have w64:IntKind.i64.wrap (IntKind.i64.wrap (65-(s.length:Int)-1)-1)=63-(s.length:Int):=by rw[w65,ai (by omega) (by omega)];omega
  have h2n:1≤2 ^ s.length:=Nat.one_le_two_pow
  have hu64:u<18446744073709551616:=by
   have:=Nat.le_mul_of_pos_right u h2n
   omega
  have pi:0+(IntKind.i64.wrap (65-(s.length:Int)-1)).toNat=64-s.length:=by rw[w65];omega
  by_cases hu:b≤u
  ·have gu:decide ((u:Int)≥IntKind.u64.wrap (b:Int))=true:=by rw[wb];exact decide_eq_true (by omega)
   have hm:u%b<b:=Nat.mod_lt _ (by omega)
   have bd:=IT (u:=u) hb hk.2 hu64
   conv=>whnf
   iterate 10 ((first|refine ac (by solve|simp only[cB,dK,Ds]|fail) ?_|apply ac rfl|refine ac (by refine aU rfl ?_;simp only[cB];omega) ?_|refine ac (by simp only[Bool.and_eq_true,decide_eq_true_eq,List.length_map];omega) ?_|refine ac (by((simp;omega))) ?_|refine ac (by((first|(rw[bd];exact decide_eq_true (show u%b<36 by omega))|(rw[w65];exact decide_eq_true (by omega))|(rw[la];rfl)|(rw[w65,la];exact decide_eq_true (by omega))|(refine aU rfl ?_;rw[w65,la];exact decide_eq_true (by omega))))) ?_|apply af rfl|refine bL (by assumption) ?_);conv=>whnf)
   rotate_left
   refine aE (u/b,iX (u%b)::s) ⟨⟨?_,?_,?_⟩,Nat.div_lt_self (by omega) (by omega)⟩ (by rw[Ho hb hk.2,w65,show 64-(s.length:Int)=65-((s.length+1:Nat):Int) by omega];rfl) ?_
   ·rw[←h1,dM _ hu (by omega)];simp
   ·simp only[List.length_cons]
    exact tp hb2.1 h2
   ·simp only[List.length_cons]
    exact tv (by omega) h2 hv h3
   ·rw[ej (c:=iX (u%b)) (by omega) pi]
    rw[bd];rfl
  ·have gu:decide ((u:Int)≥IntKind.u64.wrap (b:Int))=false:=by rw[wb];exact decide_eq_false (by omega)
   conv=>whnf
   iterate 25 ((first|refine ac (by solve|simp only[cB,dK,Ds]|fail) ?_|apply ac rfl|refine ac (by refine aU rfl ?_;simp only[cB];omega) ?_|refine ac (by simp only[Bool.and_eq_true,decide_eq_true_eq,List.length_map];omega) ?_|refine ac (by((simp;omega))) ?_|refine ac (by((first|(rw[w64];exact decide_eq_true (by omega))|(refine aU rfl ?_;rw[w64,bh,la];exact decide_eq_true (by omega))|(refine aU rfl ?_;rw[bh,bh,la];rfl)|(rw[w64,bh,bh,la];exact decide_eq_true (by omega))|(rw[w64,bh,bh,la];simp;omega)|(rw[w65];exact decide_eq_true (by omega))|(rw[la];rfl)|(rw[w65,la];exact decide_eq_true (by omega))|(refine aU rfl ?_;rw[w65,la];exact decide_eq_true (by omega))|(refine aU rfl ?_;rw[bh,la];rfl)|(rw[w65,bh,la];exact decide_eq_true (by omega))|(rw[w65,bh,la];simp;omega)))) ?_|apply af rfl|apply bL rfl|apply aJ rfl|refine aJ (by assumption) ?_);conv=>whnf)
   rotate_left
   refine mj (b:=45::iX u::s) ?_ ?_
   ·show cI (am (bl (bl (eV s) _ 0 _ _) _ 0 _ _) _ ((bl (bl (eV s) _ 0 _ _) _ 0 _ _).length-_))=_
    rw[bh,bh,la,w64,w65,ej (c:=iX u) (by omega) (by omega)]
    ·rw[show(AV.int .u8 45)=AV.int .u8 (((45:UInt8).toNat:Nat):Int)from rfl,ej (s:=iX u::s) (c:=45) (by simp;omega) (by simp) rfl]
     exact lG (s:=45::iX u::s) (by simp;omega) (by simp) (by simp;omega)
    ·rfl
   ·conv=>whnf
    iterate 2 (apply ac rfl;conv=>whnf)
    rotate_left
    refine aA ?_
    rw[←h1,ei _ (by omega)]
    rfl
theorem LD(b:Nat)(hb2:2≤b∧b≤16∧b≠10)(hp:Dr b=false)(v:Nat)(hv:v<2 ^ 33):
  Con Tryz.prog 222 [.emp,.int .u64 v,.int .i64 b,.bool false,.bool false] (aa [.emp,.int .u64 v,.int .i64 b,.bool false,.bool false]) (.tup [.emp,.str (eZ iX b v)]):=by
 have ki:=c236 b ⟨hb2.1,hb2.2.1⟩
 rw[hp]at ki
 have g0:decide ((b:Int)<2)=false:=decide_eq_false (by omega)
 have g1:((b:Int)==10)=false:=by simp;omega
 have g2:decide ((b:Int)>36)=false:=decide_eq_false (by omega)
 have wb:IntKind.u64.wrap (b:Int)=b:=hE (by omega) (by omega)
 refine rn 102 Tryz.func222 [.tmp 10,.tmp 11] (g:= ?_)
 conv=>whnf
 iterate 11 ((first|apply ac rfl|apply aJ rfl|refine aJ (by solve|simp only[g0,g1,g2,if_true,if_false,Bool.false_eq_true,reduceIte]|fail) ?_|apply aB|refine ag (ki ..) ?_);conv=>whnf)
 rotate_left
 refine LoopG.rounds (α:=Nat × List UInt8) bH dI [1,3,4,10,11,12,13,17] [(12,12)] (fun a=>[(1,.int .u64 a.1),(3,.bool false),(4,.bool false),(10,.emp),(11,.str []),(12,.ptr 12 0 0),(13,.int .i64 (65-(a.2.length:Int))),(17,.int .u64 (IntKind.u64.wrap (b:Int)))]) (fun a=>[(12,.live ⟨true,0,[.int .u8 0],eV a.2⟩)]) (fun a=>eZ iX b a.1++a.2=eZ iX b v∧a.1*2 ^ a.2.length≤v∧a.2.length≤33) (fun a=>a.1) ?_ ?_
 ·conv=>whnf
  exact aE (v,[]) ⟨by simp,by simp,by simp⟩ rfl rfl
 ·rintro ⟨u,s⟩ ⟨h1,h2,h3⟩- -
  simp only at h1 h2 h3⊢
  have la:=dK (s:=s) (by omega)
  have w65:IntKind.i64.wrap (65-(s.length:Int)-1)=64-(s.length:Int):=by rw[ai (by omega) (by omega)];omega
  have h2n:1≤2 ^ s.length:=Nat.one_le_two_pow
  have hu64:u<18446744073709551616:=by
   have:=Nat.le_mul_of_pos_right u h2n
   omega
  have pi:0+(IntKind.i64.wrap (65-(s.length:Int)-1)).toNat=64-s.length:=by rw[w65];omega
  by_cases hu:b≤u
  ·have gu:decide ((u:Int)≥IntKind.u64.wrap (b:Int))=true:=by rw[wb];exact decide_eq_true (by omega)
   have hm:u%b<b:=Nat.mod_lt _ (by omega)
   have bq:=FH (u:=u) (b:=b) (by omega) (by omega) hu64
   have bd:=Hg (u:=u) (b:=b) (by omega) (by omega) hu64
   have b0:(IntKind.u64.wrap (b:Int) != 0)=true:=by rw[wb];simp;omega
   conv=>whnf
   iterate 10 ((first|refine ac (by solve|simp only[cB,dK,Ds]|fail) ?_|refine ac (by refine aU rfl ?_;simp only[cB];omega) ?_|refine ac (by simp only[Bool.and_eq_true,decide_eq_true_eq,List.length_map];omega) ?_|refine ac (by((simp;omega))) ?_|refine ac (by((first|exact b0|exact decide_eq_true (BX _)|(rw[bd];exact decide_eq_true (show u%b<36 by omega))|(rw[w65];exact decide_eq_true (by omega))|(rw[la];rfl)|(rw[w65,la];exact decide_eq_true (by omega))|(refine aU rfl ?_;rw[w65,la];exact decide_eq_true (by omega))))) ?_|apply af rfl|refine bL (by assumption) ?_);conv=>whnf)
   rotate_left
   refine aE (u/b,iX (u%b)::s) ⟨⟨?_,?_,?_⟩,Nat.div_lt_self (by omega) (by omega)⟩ (by rw[bq,w65,show 64-(s.length:Int)=65-((s.length+1:Nat):Int) by omega];rfl) ?_
   ·rw[←h1,dM _ hu (by omega)];simp
   ·simp only[List.length_cons]
    exact tp hb2.1 h2
   ·simp only[List.length_cons]
    exact tv (by omega) h2 hv h3
   ·rw[ej (c:=iX (u%b)) (by omega) pi]
    rw[bd];rfl
  ·have gu:decide ((u:Int)≥IntKind.u64.wrap (b:Int))=false:=by rw[wb];exact decide_eq_false (by omega)
   conv=>whnf
   iterate 19 ((first|refine ac (by solve|simp only[cB,dK,Ds]|fail) ?_|apply ac rfl|refine ac (by refine aU rfl ?_;simp only[cB];omega) ?_|refine ac (by simp only[Bool.and_eq_true,decide_eq_true_eq,List.length_map];omega) ?_|refine ac (by((simp;omega))) ?_|refine ac (by((first|(rw[w65];exact decide_eq_true (by omega))|(rw[la];rfl)|(rw[w65,la];exact decide_eq_true (by omega))|(refine aU rfl ?_;rw[w65,la];exact decide_eq_true (by omega))|(refine aU rfl ?_;rw[bh,la];rfl)|(rw[w65,bh,la];exact decide_eq_true (by omega))|(rw[w65,bh,la];simp;omega)))) ?_|apply af rfl|apply aJ rfl|refine aJ (by assumption) ?_);conv=>whnf)
   rotate_left
   refine mj (b:=iX u::s) ?_ ?_
   ·show cI (am (bl (eV s) _ 0 _ _) _ ((bl (eV s) _ 0 _ _).length-_))=_
    rw[bh,la,w65,ej (c:=iX u) (by omega) (by omega)]
    ·exact lG (s:=iX u::s) (by simp;omega) (by simp) (by simp;omega)
    ·rfl
   ·conv=>whnf
    iterate 2 (apply ac rfl;conv=>whnf)
    rotate_left
    refine aA ?_
    rw[←h1,ei _ (by omega)]
    rfl
theorem JP(b:Nat)(hb2:2≤b∧b≤16∧b≠10)(hp:Dr b=false)(v:Nat)(hv:v<2 ^ 33)(hv1:1≤v):
  Con Tryz.prog 222 [.emp,.int .u64 (IntKind.u64.wrap (-(v:Int))),.int .i64 b,.bool true,.bool false] (aa [.emp,.int .u64 (IntKind.u64.wrap (-(v:Int))),.int .i64 b,.bool true,.bool false]) (.tup [.emp,.str (45::eZ iX b v)]):=by
 have ki:=c236 b ⟨hb2.1,hb2.2.1⟩
 rw[hp]at ki
 have g0:decide ((b:Int)<2)=false:=decide_eq_false (by omega)
 have g1:((b:Int)==10)=false:=by simp;omega
 have g2:decide ((b:Int)>36)=false:=decide_eq_false (by omega)
 have wb:IntKind.u64.wrap (b:Int)=b:=hE (by omega) (by omega)
 have wn:IntKind.u64.wrap (0-IntKind.u64.wrap (-(v:Int)))=v:=uA hv1 (by omega)
 refine rn 102 Tryz.func222 [.tmp 10,.tmp 11] (g:= ?_)
 conv=>whnf
 iterate 11 ((first|apply ac rfl|apply bL rfl|apply aJ rfl|refine aJ (by solve|simp only[g0,g1,g2,if_true,if_false,Bool.false_eq_true,reduceIte]|fail) ?_|apply aB|refine ag (ki ..) ?_);conv=>whnf)
 rotate_left
 refine LoopG.rounds (α:=Nat × List UInt8) bH dI [1,3,4,10,11,12,13,17] [(12,12)] (fun a=>[(1,.int .u64 a.1),(3,.bool true),(4,.bool false),(10,.emp),(11,.str []),(12,.ptr 12 0 0),(13,.int .i64 (65-(a.2.length:Int))),(17,.int .u64 (IntKind.u64.wrap (b:Int)))]) (fun a=>[(12,.live ⟨true,0,[.int .u8 0],eV a.2⟩)]) (fun a=>eZ iX b a.1++a.2=eZ iX b v∧a.1*2 ^ a.2.length≤v∧a.2.length≤33) (fun a=>a.1) ?_ ?_
 ·conv=>whnf
  exact aE (v,[]) ⟨by simp,by simp,by simp⟩ (by rw[wn];rfl) rfl
 ·rintro ⟨u,s⟩ ⟨h1,h2,h3⟩- -
  simp only at h1 h2 h3⊢
  have la:=dK (s:=s) (by omega)
  have w65:IntKind.i64.wrap (65-(s.length:Int)-1)=64-(s.length:Int):=by rw[ai (by omega) (by omega)];omega
  have w64:IntKind.i64.wrap (IntKind.i64.wrap (65-(s.length:Int)-1)-1)=63-(s.length:Int):=by rw[w65,ai (by omega) (by omega)];omega
  have h2n:1≤2 ^ s.length:=Nat.one_le_two_pow
  have hu64:u<18446744073709551616:=by
   have:=Nat.le_mul_of_pos_right u h2n
   omega
  have pi:0+(IntKind.i64.wrap (65-(s.length:Int)-1)).toNat=64-s.length:=by rw[w65];omega
  by_cases hu:b≤u
  ·have gu:decide ((u:Int)≥IntKind.u64.wrap (b:Int))=true:=by rw[wb];exact decide_eq_true (by omega)
   have hm:u%b<b:=Nat.mod_lt _ (by omega)
   have bq:=FH (u:=u) (b:=b) (by omega) (by omega) hu64
   have bd:=Hg (u:=u) (b:=b) (by omega) (by omega) hu64
   have b0:(IntKind.u64.wrap (b:Int) != 0)=true:=by rw[wb];simp;omega
   conv=>whnf
   iterate 10 ((first|refine ac (by solve|simp only[cB,dK,Ds]|fail) ?_|refine ac (by refine aU rfl ?_;simp only[cB];omega) ?_|refine ac (by simp only[Bool.and_eq_true,decide_eq_true_eq,List.length_map];omega) ?_|refine ac (by((simp;omega))) ?_|refine ac (by((first|exact b0|exact decide_eq_true (BX _)|(rw[bd];exact decide_eq_true (show u%b<36 by omega))|(rw[w65];exact decide_eq_true (by omega))|(rw[la];rfl)|(rw[w65,la];exact decide_eq_true (by omega))|(refine aU rfl ?_;rw[w65,la];exact decide_eq_true (by omega))))) ?_|apply af rfl|refine bL (by assumption) ?_);conv=>whnf)
   rotate_left
   refine aE (u/b,iX (u%b)::s) ⟨⟨?_,?_,?_⟩,Nat.div_lt_self (by omega) (by omega)⟩ (by rw[bq,w65,show 64-(s.length:Int)=65-((s.length+1:Nat):Int) by omega];rfl) ?_
   ·rw[←h1,dM _ hu (by omega)];simp
   ·simp only[List.length_cons]
    exact tp hb2.1 h2
   ·simp only[List.length_cons]
    exact tv (by omega) h2 hv h3
   ·rw[ej (c:=iX (u%b)) (by omega) pi]
    rw[bd];rfl
  ·have gu:decide ((u:Int)≥IntKind.u64.wrap (b:Int))=false:=by rw[wb];exact decide_eq_false (by omega)
   conv=>whnf
   iterate 25 ((first|refine ac (by solve|simp only[cB,dK,Ds]|fail) ?_|apply ac rfl|refine ac (by refine aU rfl ?_;simp only[cB];omega) ?_|refine ac (by simp only[Bool.and_eq_true,decide_eq_true_eq,List.length_map];omega) ?_|refine ac (by((simp;omega))) ?_|refine ac (by((first|(rw[w64];exact decide_eq_true (by omega))|(refine aU rfl ?_;rw[w64,bh,la];exact decide_eq_true (by omega))|(refine aU rfl ?_;rw[bh,bh,la];rfl)|(rw[w64,bh,bh,la];exact decide_eq_true (by omega))|(rw[w64,bh,bh,la];simp;omega)|(rw[w65];exact decide_eq_true (by omega))|(rw[la];rfl)|(rw[w65,la];exact decide_eq_true (by omega))|(refine aU rfl ?_;rw[w65,la];exact decide_eq_true (by omega))|(refine aU rfl ?_;rw[bh,la];rfl)|(rw[w65,bh,la];exact decide_eq_true (by omega))|(rw[w65,bh,la];simp;omega)))) ?_|apply af rfl|apply bL rfl|apply aJ rfl|refine aJ (by assumption) ?_);conv=>whnf)
   rotate_left
   refine mj (b:=45::iX u::s) ?_ ?_
   ·show cI (am (bl (bl (eV s) _ 0 _ _) _ 0 _ _) _ ((bl (bl (eV s) _ 0 _ _) _ 0 _ _).length-_))=_
    rw[bh,bh,la,w64,w65,ej (c:=iX u) (by omega) (by omega)]
    ·rw[show(AV.int .u8 45)=AV.int .u8 (((45:UInt8).toNat:Nat):Int)from rfl,ej (s:=iX u::s) (c:=45) (by simp;omega) (by simp) rfl]
     exact lG (s:=45::iX u::s) (by simp;omega) (by simp) (by simp;omega)
    ·rfl
   ·conv=>whnf
    iterate 2 (apply ac rfl;conv=>whnf)
    rotate_left
    refine aA ?_
    rw[←h1,ei _ (by omega)]
    rfl
end F2

/- Numbers in text in bases 2 to 16: strconv.FormatInt, strings.ToUpper, cells in text; contracts. -/
open Go Go.Abs Go.Proofs Go.RowKit V1 F1 F2
def T1.lays27_ren:Go.Shelf.Ren:=⟨fun|27=>237|28=>245|29=>246|n=>n,fun|25=>182|3=>3|27=>181|22=>183|4=>4|53=>257|0=>0|5=>5|54=>258|n=>n,fun|0=>7|1=>8|n=>n⟩
theorem T1.lays27:Go.Proofs.Lays7.n27 Tryz.prog T1.lays27_ren where
 mixed:=by kernel_rfl
 f27:=Tryz.func237.trans (congrArg some (by kernel_rfl))
 f28:=Tryz.func245.trans (congrArg some (by kernel_rfl))
 f29:=Tryz.func246.trans (congrArg some (by kernel_rfl))
 t0:=Tryz.underlying0
 a0:=Tryz.isAgg0
 z0:=Tryz.sizeOf0
 v0:=Tryz.zeroValue0
 i0:=by kernel_rfl
 t3:=Tryz.underlying3
 a3:=Tryz.isAgg3
 z3:=Tryz.sizeOf3
 v3:=Tryz.zeroValue3
 i3:=by kernel_rfl
 t4:=Tryz.underlying4
 a4:=Tryz.isAgg4
 z4:=Tryz.sizeOf4
 v4:=Tryz.zeroValue4
 i4:=by kernel_rfl
 t5:=Tryz.underlying5
 a5:=Tryz.isAgg5
 z5:=Tryz.sizeOf5
 v5:=Tryz.zeroValue5
 i5:=by kernel_rfl
 t22:=Tryz.underlying183
 a22:=Tryz.isAgg183
 z22:=Tryz.sizeOf183
 v22:=Tryz.zeroValue183
 i22:=by kernel_rfl
 t25:=Tryz.underlying182
 a25:=Tryz.isAgg182
 z25:=Tryz.sizeOf182
 v25:=Tryz.zeroValue182
 i25:=by kernel_rfl
 t27:=Tryz.underlying181
 a27:=Tryz.isAgg181
 z27:=Tryz.sizeOf181
 v27:=Tryz.zeroValue181
 i27:=by kernel_rfl
 t53:=Tryz.underlying257
 a53:=Tryz.isAgg257
 z53:=Tryz.sizeOf257
 v53:=Tryz.zeroValue257
 i53:=by kernel_rfl
 t54:=Tryz.underlying258
 a54:=Tryz.isAgg258
 z54:=Tryz.sizeOf258
 g0:=by kernel_rfl
 g1:=by kernel_rfl
def T1.lays173_ren:Go.Shelf.Ren:=⟨fun|173=>196|246=>207|283=>219|284=>220|285=>221|286=>222|129=>234|317=>233|318=>235|319=>236|320=>237|337=>245|338=>246|n=>n,fun|2=>2|3=>3|9=>9|4=>4|171=>215|0=>0|53=>183|37=>139|5=>5|173=>218|212=>239|51=>181|20=>20|213=>240|46=>182|232=>257|233=>258|n=>n,fun|17=>3|18=>7|19=>8|n=>n⟩
theorem T1.lays173:Go.Proofs.LaysM.n173 Tryz.prog T1.lays173_ren where
 mixed:=by kernel_rfl
 f129:=Tryz.func234.trans (congrArg some (by kernel_rfl))
 f173:=Tryz.func196.trans (congrArg some (by kernel_rfl))
 f246:=Tryz.func207.trans (congrArg some (by kernel_rfl))
 f283:=Tryz.func219.trans (congrArg some (by kernel_rfl))
 f284:=Tryz.func220.trans (congrArg some (by kernel_rfl))
 f285:=Tryz.func221.trans (congrArg some (by kernel_rfl))
 f286:=Tryz.func222.trans (congrArg some (by kernel_rfl))
 f317:=Tryz.func233.trans (congrArg some (by kernel_rfl))
 f318:=Tryz.func235.trans (congrArg some (by kernel_rfl))
 f319:=Tryz.func236.trans (congrArg some (by kernel_rfl))
 f320:=Tryz.func237.trans (congrArg some (by kernel_rfl))
 f337:=Tryz.func245.trans (congrArg some (by kernel_rfl))
 f338:=Tryz.func246.trans (congrArg some (by kernel_rfl))
 t0:=Tryz.underlying0
 a0:=Tryz.isAgg0
 z0:=Tryz.sizeOf0
 v0:=Tryz.zeroValue0
 t2:=Tryz.underlying2
 a2:=Tryz.isAgg2
 z2:=Tryz.sizeOf2
 v2:=Tryz.zeroValue2
 t3:=Tryz.underlying3
 a3:=Tryz.isAgg3
 z3:=Tryz.sizeOf3
 v3:=Tryz.zeroValue3
 t4:=Tryz.underlying4
 a4:=Tryz.isAgg4
 z4:=Tryz.sizeOf4
 v4:=Tryz.zeroValue4
 t5:=Tryz.underlying5
 a5:=Tryz.isAgg5
 z5:=Tryz.sizeOf5
 v5:=Tryz.zeroValue5
 t9:=Tryz.underlying9
 a9:=Tryz.isAgg9
 z9:=Tryz.sizeOf9
 v9:=Tryz.zeroValue9
 t20:=Tryz.underlying20
 a20:=Tryz.isAgg20
 z20:=Tryz.sizeOf20
 v20:=Tryz.zeroValue20
 t37:=Tryz.underlying139
 a37:=Tryz.isAgg139
 z37:=Tryz.sizeOf139
 v37:=Tryz.zeroValue139
 t46:=Tryz.underlying182
 a46:=Tryz.isAgg182
 z46:=Tryz.sizeOf182
 v46:=Tryz.zeroValue182
 t51:=Tryz.underlying181
 a51:=Tryz.isAgg181
 z51:=Tryz.sizeOf181
 v51:=Tryz.zeroValue181
 t53:=Tryz.underlying183
 a53:=Tryz.isAgg183
 z53:=Tryz.sizeOf183
 v53:=Tryz.zeroValue183
 t171:=Tryz.underlying215
 a171:=Tryz.isAgg215
 z171:=Tryz.sizeOf215
 v171:=Tryz.zeroValue215
 t173:=Tryz.underlying218
 a173:=Tryz.isAgg218
 z173:=Tryz.sizeOf218
 v173:=Tryz.zeroValue218
 t212:=Tryz.underlying239
 a212:=Tryz.isAgg239
 z212:=Tryz.sizeOf239
 v212:=Tryz.zeroValue239
 t213:=Tryz.underlying240
 a213:=Tryz.isAgg240
 z213:=Tryz.sizeOf240
 t232:=Tryz.underlying257
 a232:=Tryz.isAgg257
 z232:=Tryz.sizeOf257
 v232:=Tryz.zeroValue257
 t233:=Tryz.underlying258
 a233:=Tryz.isAgg258
 z233:=Tryz.sizeOf258
 v233:=Tryz.zeroValue258
 g17:=by kernel_rfl
 g18:=by kernel_rfl
 g19:=by kernel_rfl
 i0:=by kernel_rfl
 i2:=by kernel_rfl
 i3:=by kernel_rfl
 i4:=by kernel_rfl
 i5:=by kernel_rfl
 i9:=by kernel_rfl
 i20:=by kernel_rfl
 i37:=by kernel_rfl
 i46:=by kernel_rfl
 i51:=by kernel_rfl
 i53:=by kernel_rfl
 i171:=by kernel_rfl
 i173:=by kernel_rfl
 i212:=by kernel_rfl
 i232:=by kernel_rfl
 i233:=by kernel_rfl
 m17:=by kernel_rfl
 m18:=by kernel_rfl
 m19:=by kernel_rfl
def T1.lays158_ren:Go.Shelf.Ren:=⟨fun|158=>195|165=>201|166=>202|167=>203|169=>204|230=>205|203=>206|240=>212|241=>213|197=>214|118=>215|168=>216|270=>217|262=>218|276=>228|277=>229|260=>230|242=>231|313=>232|278=>242|274=>243|275=>244|n=>n,fun|9=>9|4=>4|3=>3|5=>5|72=>193|0=>0|76=>196|75=>195|107=>201|70=>191|20=>20|37=>139|127=>209|21=>21|105=>210|164=>232|162=>238|203=>236|119=>188|46=>182|139=>246|138=>245|51=>181|160=>247|208=>256|206=>254|80=>199|n=>n,fun|13=>2|3=>5|4=>6|n=>n⟩
theorem T1.lays158:Go.Proofs.Lays.n158 Tryz.prog T1.lays158_ren where
 mixed:=by kernel_rfl
 f118:=Tryz.func215.trans (congrArg some (by kernel_rfl))
 f158:=Tryz.func195.trans (congrArg some (by kernel_rfl))
 f165:=Tryz.func201.trans (congrArg some (by kernel_rfl))
 f166:=Tryz.func202.trans (congrArg some (by kernel_rfl))
 f167:=Tryz.func203.trans (congrArg some (by kernel_rfl))
 f168:=Tryz.func216.trans (congrArg some (by kernel_rfl))
 f169:=Tryz.func204.trans (congrArg some (by kernel_rfl))
 f197:=Tryz.func214.trans (congrArg some (by kernel_rfl))
 f203:=Tryz.func206.trans (congrArg some (by kernel_rfl))
 f230:=Tryz.func205.trans (congrArg some (by kernel_rfl))
 f240:=Tryz.func212.trans (congrArg some (by kernel_rfl))
 f241:=Tryz.func213.trans (congrArg some (by kernel_rfl))
 f242:=Tryz.func231.trans (congrArg some (by kernel_rfl))
 f260:=Tryz.func230.trans (congrArg some (by kernel_rfl))
 f262:=Tryz.func218.trans (congrArg some (by kernel_rfl))
 f270:=Tryz.func217.trans (congrArg some (by kernel_rfl))
 f274:=Tryz.func243.trans (congrArg some (by kernel_rfl))
 f275:=Tryz.func244.trans (congrArg some (by kernel_rfl))
 f276:=Tryz.func228.trans (congrArg some (by kernel_rfl))
 f277:=Tryz.func229.trans (congrArg some (by kernel_rfl))
 f278:=Tryz.func242.trans (congrArg some (by kernel_rfl))
 f313:=Tryz.func232.trans (congrArg some (by kernel_rfl))
 t0:=Tryz.underlying0
 a0:=Tryz.isAgg0
 z0:=Tryz.sizeOf0
 v0:=Tryz.zeroValue0
 t3:=Tryz.underlying3
 a3:=Tryz.isAgg3
 z3:=Tryz.sizeOf3
 v3:=Tryz.zeroValue3
 t4:=Tryz.underlying4
 a4:=Tryz.isAgg4
 z4:=Tryz.sizeOf4
 v4:=Tryz.zeroValue4
 t5:=Tryz.underlying5
 a5:=Tryz.isAgg5
 z5:=Tryz.sizeOf5
 v5:=Tryz.zeroValue5
 t9:=Tryz.underlying9
 a9:=Tryz.isAgg9
 z9:=Tryz.sizeOf9
 v9:=Tryz.zeroValue9
 t20:=Tryz.underlying20
 a20:=Tryz.isAgg20
 z20:=Tryz.sizeOf20
 v20:=Tryz.zeroValue20
 t21:=Tryz.underlying21
 a21:=Tryz.isAgg21
 z21:=Tryz.sizeOf21
 v21:=Tryz.zeroValue21
 t37:=Tryz.underlying139
 a37:=Tryz.isAgg139
 z37:=Tryz.sizeOf139
 v37:=Tryz.zeroValue139
 t46:=Tryz.underlying182
 a46:=Tryz.isAgg182
 z46:=Tryz.sizeOf182
 v46:=Tryz.zeroValue182
 t51:=Tryz.underlying181
 a51:=Tryz.isAgg181
 z51:=Tryz.sizeOf181
 v51:=Tryz.zeroValue181
 t70:=Tryz.underlying191
 a70:=Tryz.isAgg191
 z70:=Tryz.sizeOf191
 v70:=Tryz.zeroValue191
 t72:=Tryz.underlying193
 a72:=Tryz.isAgg193
 z72:=Tryz.sizeOf193
 v72:=Tryz.zeroValue193
 t75:=Tryz.underlying195
 a75:=Tryz.isAgg195
 z75:=Tryz.sizeOf195
 v75:=Tryz.zeroValue195
 t76:=Tryz.underlying196
 a76:=Tryz.isAgg196
 z76:=Tryz.sizeOf196
 v76:=Tryz.zeroValue196
 t105:=Tryz.underlying210
 a105:=Tryz.isAgg210
 z105:=Tryz.sizeOf210
 v105:=Tryz.zeroValue210
 t107:=Tryz.underlying201
 a107:=Tryz.isAgg201
 z107:=Tryz.sizeOf201
 v107:=Tryz.zeroValue201
 t119:=Tryz.underlying188
 a119:=Tryz.isAgg188
 z119:=Tryz.sizeOf188
 t127:=Tryz.underlying209
 a127:=Tryz.isAgg209
 z127:=Tryz.sizeOf209
 v127:=Tryz.zeroValue209
 t138:=Tryz.underlying245
 a138:=Tryz.isAgg245
 z138:=Tryz.sizeOf245
 v138:=Tryz.zeroValue245
 t139:=Tryz.underlying246
 a139:=Tryz.isAgg246
 z139:=Tryz.sizeOf246
 v139:=Tryz.zeroValue246
 t160:=Tryz.underlying247
 a160:=Tryz.isAgg247
 z160:=Tryz.sizeOf247
 v160:=Tryz.zeroValue247
 t162:=Tryz.underlying238
 a162:=Tryz.isAgg238
 z162:=Tryz.sizeOf238
 v162:=Tryz.zeroValue238
 t164:=Tryz.underlying232
 a164:=Tryz.isAgg232
 z164:=Tryz.sizeOf232
 v164:=Tryz.zeroValue232
 t203:=Tryz.underlying236
 a203:=Tryz.isAgg236
 z203:=Tryz.sizeOf236
 v203:=Tryz.zeroValue236
 t206:=Tryz.underlying254
 a206:=Tryz.isAgg254
 z206:=Tryz.sizeOf254
 v206:=Tryz.zeroValue254
 t208:=Tryz.underlying256
 a208:=Tryz.isAgg256
 z208:=Tryz.sizeOf256
 v208:=Tryz.zeroValue256
 g3:=by kernel_rfl
 g4:=by kernel_rfl
 g13:=by kernel_rfl
theorem T1.extra:Builder.Extra Tryz.prog T1.lays158_ren where
 sizeBuilder:=by kernel_rfl
 liesBuilder:=by kernel_rfl
 t5:=T1.lays158.t5
 a5:=T1.lays158.a5
 z5:=T1.lays158.z5
 v5:=T1.lays158.v5
 infoByte:=by kernel_rfl
 cellsByte:=by kernel_rfl
 sizeByte:=by kernel_rfl
 neB5:=by decide
namespace T1
def Jg:List UInt8:=[48,49,50,51,52,53,54,55,56,57,65,66,67,68,69,70]
def CM(k:Nat):UInt8:=Jg.getD k 0
theorem IV: ∀k,k<16→Lib.upperB (iX k)=CM k:=by decide
theorem I6: ∀k,k<16→(iX k).toNat<128:=by decide
theorem EK: ∀k,k<10→iX k=UInt8.ofNat (48+k):=by decide
theorem wQ(f g:Nat→UInt8){b:Nat}(h2:2≤b)(h: ∀k,k<b→f k=g k): ∀v,eZ f b v=eZ g b v:=by
 intro v
 induction v using Nat.strongRecOn with
 |ind v ih=>
  by_cases hb:b≤v
  ·rw[dM _ hb h2,dM _ hb h2,ih _ (Nat.div_lt_self (by omega) (by omega)),h _ (Nat.mod_lt _ (by omega))]
  ·rw[ei _ (by omega),ei _ (by omega),h _ (by omega)]
theorem Ct(P:UInt8→Prop)(f:Nat→UInt8){b:Nat}(h2:2≤b)(h: ∀k,k<b→P (f k)): ∀v,∀x∈eZ f b v,P x:=by
 intro v
 induction v using Nat.strongRecOn with
 |ind v ih=>
  intro x hx
  by_cases hb:b≤v
  ·rw[dM _ hb h2]at hx
   rcases List.mem_append.1 hx with hx|hx
   ·exact ih _ (Nat.div_lt_self (by omega) (by omega)) x hx
   ·rw[List.mem_singleton.1 hx];exact h _ (Nat.mod_lt _ (by omega))
  ·rw[ei _ (by omega)]at hx
   rw[List.mem_singleton.1 hx];exact h _ (by omega)
theorem yy: ∀v,Lib.decDigits v=eZ iX 10 v:=by
 intro v
 induction v using Nat.strongRecOn with
 |ind v ih=>
  by_cases h:v<10
  ·rw[Lib.decDigits,dif_pos h,ei _ h,EK _ h]
  ·rw[Lib.decDigits,dif_neg h,dM _ (by omega) (by omega),ih _ (by omega),EK _ (by omega)]
def nR(n:Int)(b:Nat):List UInt8:=if n<0 then 45::eZ iX b n.natAbs else eZ iX b n.natAbs
def my(n:Int)(b:Nat):List UInt8:=if n<0 then 45::eZ CM b n.natAbs else eZ CM b n.natAbs
theorem Cg(n:Int):Lib.itoa n=nR n 10:=by
 unfold Lib.itoa nR
 split
 ·rw[yy]
 ·rw[yy,show n.toNat=n.natAbs by omega]
theorem GQ(n:Int){b:Nat}(h:2≤b∧b≤16):Lib.toUpperA (nR n b)=my n b:=by
 have e:(eZ iX b n.natAbs).map Lib.upperB=eZ CM b n.natAbs:=by
  rw[Cy _ id _ _ h.1]
  exact wQ _ _ h.1 (fun k hk=>IV k (by omega)) _
 unfold Lib.toUpperA nR my
 split
 ·rw[List.map_cons,e];rfl
 ·exact e
theorem D6(n:Int){b:Nat}(h:2≤b)(hn:cell n=true):(nR n b).length≤34:=by
 have hq: -2147483648≤n∧n≤2147483647:=aQ hn
 have:=kQ iX h 33 n.natAbs (by omega) (by omega)
 unfold nR
 split
 ·simp only[List.length_cons];omega
 ·omega
theorem xJ(n:Int){b:Nat}(h:2≤b)(hn:cell n=true):(my n b).length≤34:=by
 have hq: -2147483648≤n∧n≤2147483647:=aQ hn
 have:=kQ CM h 33 n.natAbs (by omega) (by omega)
 unfold my
 split
 ·simp only[List.length_cons];omega
 ·omega
theorem yY(n:Int){b:Nat}(h:2≤b∧b≤16): ∀x∈nR n b,x.toNat<128:=by
 have:=Ct (fun x=>x.toNat<128) iX h.1 (fun k hk=>I6 k (by omega)) n.natAbs
 unfold nR
 split
 ·intro x hx
  rcases List.mem_cons.1 hx with rfl|hx
  ·decide
  ·exact this x hx
 ·exact this
theorem c237(k b:Nat)(hb:b=2 ^ k)(hk:1≤k∧k≤4):Con Tryz.prog 237 [.int .u64 (IntKind.u64.wrap (b:Int))] (aa [.int .u64 (IntKind.u64.wrap (b:Int))]) (.int .i64 k):=by
 have hk4:k=1∨k=2∨k=3∨k=4:=by omega
 have hb16:b≤16:=by subst hb;rcases hk4 with rfl|rfl|rfl|rfl<;>decide
 have wb:IntKind.u64.wrap (b:Int)=b:=hE (by omega) (by omega)
 have hc:Lib.ctz 64 b=k:=by subst hb;rcases hk4 with rfl|rfl|rfl|rfl<;>decide
 rw[wb]
 refine Con.scalB ⟨_,Tryz.func237,rfl,rfl⟩ (fun w vals hp tb=> ?_) fun w R O vals hp=> ?_
 ·obtain⟨hl,os,h4,_⟩:=aL _ _ _ hp
  match vals,hl with
  |[v],_=>
   have hv:=h4 0 _ v rfl rfl
   cases hv with
   |sc hv _=>
    obtain⟨rfl,hf⟩:=hv
    have ht:TabAt (T1.lays27_ren.g 1) Lib.deBruijn64tab w:=by
     intro j hj
     obtain⟨⟨e,fz,h1⟩,_⟩:=tb ("math/bits.deBruijn64tab",(Lib.deBruijn64tab.map fun z:Nat=>Value.int .u8 z).toArray) (by simp[uP]) (T1.lays27_ren.g 1) (by kernel_rfl)
     simp[World.cell?,h1,hj]
    refine(Any7.bits_TrailingZeros T1.lays27 b (by omega) w fun _=>ht).mono ?_
    rintro e w' ⟨rfl,rfl⟩
    rw[hc]
    exact⟨_,rfl,⟨rfl,by simp[dE];omega⟩,Below.refl _ _⟩
 ·exact eJ _ _ _ rfl hp
theorem c195(s:List UInt8)(hs:s.length≤1000)(ha: ∀x∈s,x.toNat<128):Con Tryz.prog 195 [.str s] (aa [.str s]) (.str (Lib.toUpperA s)):=by
 refine Con.scalB ⟨_,Tryz.func195,rfl,rfl⟩ (fun w vals hp tb=> ?_) fun w R O vals hp=> ?_
 ·obtain⟨hl,os,h4,_⟩:=aL _ _ _ hp
  match vals,hl with
  |[v],_=>
   have hv:=h4 0 _ v rfl rfl
   cases hv with
   |sc hv _=>
    obtain⟨rfl,hf⟩:=hv
    refine(Any.strings_ToUpper_ascii T1.lays158 T1.extra ⟨s.toArray⟩ w (by show s.toArray.size≤_;simp;omega) (fun j x hx=>ha x (List.mem_of_getElem? (by simpa using hx)))).mono ?_
    rintro e w' ⟨rfl,hw⟩
    exact⟨_,rfl,⟨rfl,by simp[Lib.toUpperA,cj];omega⟩,hw⟩
 ·exact eJ _ _ _ rfl hp
instance:CC 195:=⟨_,@c195⟩
end T1

/- Numbers in text: strconv.FormatInt, cells in text of both sides; contracts. -/
open Go Go.Abs Go.Proofs V1 H1 F1 F2 T1
namespace T2
theorem EO{b:Nat}(hp:Dr b=true): ∃k,b=2 ^ k∧1≤k∧k≤4:=by
 have:b=2∨b=4∨b=8∨b=16:=by simpa[Dr,or_assoc]using hp
 rcases this with rfl|rfl|rfl|rfl
 ·exact⟨1,rfl,by omega,by omega⟩
 ·exact⟨2,rfl,by omega,by omega⟩
 ·exact⟨3,rfl,by omega,by omega⟩
 ·exact⟨4,rfl,by omega,by omega⟩
theorem kb(n:Int)(b:Nat)(hn:cell n=true)(hb:2≤b∧b≤16∧b≠10):Con Tryz.prog 222 [.emp,.int .u64 (IntKind.u64.wrap n),.int .i64 b,.bool (decide (n<0)),.bool false] (aa [.emp,.int .u64 (IntKind.u64.wrap n),.int .i64 b,.bool (decide (n<0)),.bool false]) (.tup [.emp,.str (nR n b)]):=by
 have hq: -2147483648≤n∧n≤2147483647:=aQ hn
 have hv:n.natAbs<2 ^ 33:=by omega
 by_cases h0:n<0
 ·rw[decide_eq_true h0,nR,if_pos h0]
  have e: -((n.natAbs:Nat):Int)=n:=by omega
  cases hp:Dr b with
  |true=>
   obtain⟨k,h1,h2⟩:=EO hp
   have:=KM k b h1 h2 (c237 k b h1 h2) n.natAbs hv (by omega)
   rw[e]at this;exact this
  |false=>
   have:=JP b hb hp n.natAbs hv (by omega)
   rw[e]at this;exact this
 ·rw[decide_eq_false h0,nR,if_neg h0]
  have e:IntKind.u64.wrap n=((n.natAbs:Nat):Int):=by rw[hE (by omega) (by omega)];omega
  rw[e]
  cases hp:Dr b with
  |true=>
   obtain⟨k,h1,h2⟩:=EO hp
   exact HM k b h1 h2 (c237 k b h1 h2) n.natAbs hv
  |false=>exact LD b hb hp n.natAbs hv
theorem Ls(n:Int)(b:Nat)(hn:cell n=true)(hb:2≤b∧b≤16∧b≠10):Con Tryz.prog 207 [.int .i64 n,.int .i64 b] (aa [.int .i64 n,.int .i64 b]) (.str (nR n b)):=by
 have g1:((b:Int)==10)=false:=by simp;omega
 refine rn 54 Tryz.func207 [.tmp 4] (g:= ?_)
 conv=>whnf
 refine aO ?_
 (refine ag (kb n b hn hb ..) ?_;conv=>whnf)
 exact go
theorem c196(n:Int)(b:Nat)(hn:cell n=true)(hb:2≤b∧b≤16):Con Tryz.prog 196 [.int .i64 n,.int .i64 b] (aa [.int .i64 n,.int .i64 b]) (.str (nR n b)):=by
 by_cases h10:b=10
 rotate_left
 ·refine rn 8 Tryz.func196 [.tmp 4] (g:= ?_)
  conv=>whnf
  refine aO ?_
  (refine ag (Ls n b hn ⟨hb.1,hb.2,h10⟩ ..) ?_;conv=>whnf)
  exact go
 subst h10
 have hq: -2147483648≤n∧n≤2147483647:=aQ hn
 rw[←Cg]
 refine Con.scal ⟨_,Tryz.func196,rfl,rfl⟩ (fun w vals hp tb=> ?_) fun w R O vals hp=> ?_
 ·obtain⟨hl,os,h4,_⟩:=aL _ _ _ hp
  match vals,hl with
  |[v,u],_=>
   have hv:=h4 0 _ v rfl rfl
   have hu:=h4 1 _ u rfl rfl
   cases hv with
   |sc hv _=>
    cases hu with
    |sc hu _=>
     obtain⟨rfl,hf⟩:=hv
     obtain⟨rfl,_⟩:=hu
     refine(Any.strconv_FormatInt_10 T1.lays173 n (by omega) (by omega) w (tb.is (g:=3) (by simp[uP]) (by kernel_rfl))).mono ?_
     rintro e w' ⟨rfl,k,os,rfl⟩
     exact⟨_,rfl,⟨rfl,Nat.le_trans (Lib.itoa_length_le n (by omega) (by omega)) (by simp[cj])⟩,k,os,rfl⟩
 ·exact eJ _ _ _ rfl hp
instance:CC 196:=⟨_,@c196⟩
end T2

/- Cells in text, by the program and by the reference; contracts. -/
open Go Go.Abs Go.Proofs V1 H1 F1 F2 T1 T2
namespace T3
theorem c189(n:Int)(b:Nat)(hn:cell n=true)(hb:2≤b∧b≤16):Con Tryz.prog 189 [.int .i64 n,.int .i64 b] (aa [.int .i64 n,.int .i64 b]) (.tup [.str (my n b),.int .i64 0]):=by
 have k1:=c127 n
 have k2:=c128 b
 have hb2:bm (b:Int) 2 16=true:=by simp[bm];omega
 rw[hn]at k1
 rw[hb2]at k2
 have k3:=c196 n b hn hb
 have k4:=c195 (nR n b) (by have:=D6 n hb.1 hn;omega) (yY n hb)
 rw[GQ n hb]at k4
 exact rn 18 Tryz.func189 [.tmp 4,.tmp 5] (g:=go)
 all_goals skip
instance:CC 189:=⟨_,@c189⟩
theorem IB: ∀k,k<16→[UInt8.ofNat ((Jg.getD k 0).toNat:Int).toNat]=[CM k]:=by decide
theorem tx(b:Nat)(hb:2≤b∧b≤16): ∀v:Nat,v<2 ^ 33→Con Tryz.prog 180 [.int .i64 v,.int .i64 b] (aa [.int .i64 v,.int .i64 b]) (.str (eZ CM b v)):=by
 intro v
 induction v using Nat.strongRecOn with
 |ind v ih=>
  intro hv
  have hm:v%b<b:=Nat.mod_lt _ (by omega)
  have e1:((v:Int).tmod (b:Int)).toNat=v%b:=by
   rw[show(v:Int).tmod (b:Int)=((v%b:Nat):Int)from rfl];rfl
  have g0:decide ((v:Int)<0)=false:=decide_eq_false (by omega)
  by_cases hs:b≤v
  ·have g1:decide ((v:Int)≥(b:Int))=true:=decide_eq_true (by omega)
   have e2:IntKind.i64.wrap ((v:Int).tdiv (b:Int))=((v/b:Nat):Int):=by
    rw[show(v:Int).tdiv (b:Int)=((v/b:Nat):Int)from rfl]
    have hq:=Nat.div_le_self v b
    generalize v/b=q at hq
    exact ai (by omega) (by omega)
   have k1:=ih (v/b) (Nat.div_lt_self (by omega) (by omega)) (by have:=Nat.div_le_self v b;omega)
   rw[←e2]at k1
   have hl:=kQ CM hb.1 33 (v/b) (by have:=Nat.div_le_self v b;omega) (by omega)
   refine rn 30 Tryz.func180 [.tmp 4] (g:= ?_)
   conv=>whnf
   iterate 17 ((first|refine ac (by solve|simp only[cB]|fail) ?_|apply ac rfl|refine ac (by((simp;omega))) ?_|refine ac (by(((simp[gt];omega)))) ?_|refine mj rfl ?_|refine aG (fun hf=> ?_)|apply aJ rfl|refine bL (by solve|simp only[g0,g1,if_true,if_false,Bool.false_eq_true,Bool.not_true,reduceIte]|fail) ?_|apply aB|refine ag (k1 ..) ?_);conv=>whnf)
   rotate_left
   refine aA (congrArg AV.str ?_)
   show eZ CM b (v/b)++[UInt8.ofNat ((Jg.getD ((v:Int).tmod (b:Int)).toNat 0).toNat:Int).toNat]=_
   rw[e1,IB _ (by omega),←dM _ hs hb.1]
  ·have g1:decide ((v:Int)≥(b:Int))=false:=decide_eq_false (by omega)
   refine rn 30 Tryz.func180 [.tmp 4] (g:= ?_)
   conv=>whnf
   iterate 10 ((first|refine ac (by solve|simp only[cB]|fail) ?_|apply ac rfl|refine ac (by((simp;omega))) ?_|refine mj rfl ?_|apply aJ rfl|refine aJ (by solve|simp only[g0,g1,if_true,if_false,Bool.false_eq_true,Bool.not_true,reduceIte]|fail) ?_);conv=>whnf)
   rotate_left
   refine aA (congrArg AV.str ?_)
   show[UInt8.ofNat ((Jg.getD ((v:Int).tmod (b:Int)).toNat 0).toNat:Int).toNat]=_
   rw[e1,IB _ (by omega),ei _ (by omega),Nat.mod_eq_of_lt (by omega)]
theorem c180(n:Int)(b:Nat)(hn:cell n=true)(hb:2≤b∧b≤16):Con Tryz.prog 180 [.int .i64 n,.int .i64 b] (aa [.int .i64 n,.int .i64 b]) (.str (my n b)):=by
 have hq: -2147483648≤n∧n≤2147483647:=aQ hn
 have k1:=tx b hb n.natAbs (by omega)
 by_cases h0:n<0
 ·have g0:decide (n<0)=true:=decide_eq_true h0
  have e:((n.natAbs:Nat):Int)=IntKind.i64.wrap (0-n):=by rw[ai (by omega) (by omega)];omega
  have hl:=kQ CM hb.1 33 n.natAbs (by omega) (by omega)
  rw[e]at k1
  rw[my,if_pos h0]
  refine rn 30 Tryz.func180 [.tmp 4] (g:= ?_)
  conv=>whnf
  refine aO ?_
  (apply ac (by(((simp[gt];omega))));conv=>whnf)
  exact go
 ·rw[my,if_neg h0]
  have e:((n.natAbs:Nat):Int)=n:=by omega
  rw[e]at k1
  exact k1
instance:CC 180:=⟨_,@c180⟩
end T3

/- Sums of cells, by the program and by the reference; contracts. -/
open Go Go.Abs Go.Proofs V1 H1 F1 F2 T1 T2 T3
namespace P1
theorem c174(n:Int):Con Tryz.prog 174 [.int .i64 n] (aa [.int .i64 n]) (.int .i64 (wc n)):=by
 rw[←Kj n]
 exact rn 8 Tryz.func174 [.tmp 2] (g:=go)
instance:CC 174:=⟨_,@c174⟩
theorem c183(b:Bool):Con Tryz.prog 183 [.bool b] (aa [.bool b]) (.int .i64 (ku b)):=by
 cases b<;>
 ·refine rn 4 Tryz.func183 [.tmp 2] (g:= ?_)
  conv=>whnf
  first
   |((apply aJ rfl;conv=>whnf)
     (apply ac rfl;conv=>whnf)
     (refine aA ?_;(rfl)))
   |((apply bL rfl;conv=>whnf)
     (apply ac rfl;conv=>whnf)
     (refine aA ?_;(rfl)))
instance:CC 183:=⟨_,@c183⟩
theorem c175(b:Bool):Con Tryz.prog 175 [.bool b] (aa [.bool b]) (.int .i64 (ku b)):=by
 cases b<;>
 ·refine rn 4 Tryz.func175 [.tmp 2] (g:= ?_)
  conv=>whnf
  first
   |((apply aJ rfl;conv=>whnf)
     (apply ac rfl;conv=>whnf)
     (refine aA ?_;(rfl)))
   |((apply bL rfl;conv=>whnf)
     (apply ac rfl;conv=>whnf)
     (refine aA ?_;(rfl)))
instance:CC 175:=⟨_,@c175⟩
theorem c182(n:Int):Con Tryz.prog 182 [.int .i64 n] (aa [.int .i64 n]) (.int .i64 (wH n)):=
 rn 7 Tryz.func182 [.tmp 2] (g:=go)
instance:CC 182:=⟨_,@c182⟩
theorem c176(n:Int):Con Tryz.prog 176 [.int .i64 n] (aa [.int .i64 n]) (.int .i64 (wH n)):=
 rn 7 Tryz.func176 [.tmp 2] (g:=go)
instance:CC 176:=⟨_,@c176⟩
def cu(p:Nat):Prop:=1≤p∧p≤52
theorem c148(p:Nat)(h:cu p):Con Tryz.prog 148 [.int .i64 p] (aa [.int .i64 p]) (.int .i64 (bK p)):=by
 have e: ∀i:Fin 52,IntKind.i64.wrap (IntKind.u8.wrap ((([49,49,50,50,51,50,50,49,50,50,48,49,48,48,50,50,50,50,50,50,50,50,50,50,49,49,49,49,49,50,50,50,50,50,50,50,49,49,49,50,50,48,49,49,49,49,48,48,48,48,48,48]:List UInt8).getD i.1 0).toNat-48:Int))=((bK (i.1+1):Nat):Int):=by decide
 have w:IntKind.i64.wrap ((p:Int)-1)=((p-1:Nat):Int):=by unfold cu at h;rw[ai (by omega) (by omega)];omega
 refine rn 8 Tryz.func148 [.tmp 2] (g:= ?_)
 conv=>whnf
 refine aO ?_
 (apply ac (by(((rw[w];exact decide_eq_true (show p-1<52 by unfold cu at h;omega)))));conv=>whnf)
 refine aO ?_
 rotate_left
 refine aA (congrArg (AV.int .i64) ?_)
 rw[w]
 have:=e ⟨p-1,by unfold cu at h;omega⟩
 rw[show(⟨p-1,by unfold cu at h;omega⟩:Fin 52).1+1=p by unfold cu at h;show p-1+1=p;omega]at this
 exact this
instance:CC 148:=⟨_,@c148⟩
theorem A7{p:Nat}(h:cu p):p=1∨p=2∨p=3∨p=4∨p=5∨p=6∨p=7∨p=8∨p=9∨p=10∨p=11∨p=12∨p=13∨p=14∨p=15∨p=16∨p=17∨p=18∨p=19∨p=20∨p=21∨p=22∨p=23∨p=24∨p=25∨p=26∨p=27∨p=28∨p=29∨p=30∨p=31∨p=32∨p=33∨p=34∨p=35∨p=36∨p=37∨p=38∨p=39∨p=40∨p=41∨p=42∨p=43∨p=44∨p=45∨p=46∨p=47∨p=48∨p=49∨p=50∨p=51∨p=52:=by
 unfold cu at h;omega
theorem c135(p:Nat)(h:cu p):Con Tryz.prog 135 [.int .i64 p] (aa [.int .i64 p]) (.int .i64 (bK p)):=by
 rcases A7 h with rfl|rfl|rfl|rfl|rfl|rfl|rfl|rfl|rfl|rfl|rfl|rfl|rfl|rfl|rfl|rfl|rfl|rfl|rfl|rfl|rfl|rfl|rfl|rfl|rfl|rfl|rfl|rfl|rfl|rfl|rfl|rfl|rfl|rfl|rfl|rfl|rfl|rfl|rfl|rfl|rfl|rfl|rfl|rfl|rfl|rfl|rfl|rfl|rfl|rfl|rfl|rfl
 all_goals
  refine rn 8 Tryz.func135 [.tmp 2] (g:= ?_)
  conv=>whnf
  (iterate 6 ((first|refine ac (by solve|simp only[cB]|fail) ?_|apply ac rfl|refine aH (by(rfl)) ?_);conv=>whnf));(refine aA ?_;(rfl))
instance:CC 135:=⟨_,@c135⟩
theorem c149(p:Nat)(h:cu p):Con Tryz.prog 149 [.int .i64 p] (aa [.int .i64 p]) (.int .i64 (dZ p)):=by
 refine rn 10 Tryz.func149 [.tmp 2] (g:= ?_)
 conv=>whnf
 (refine bS ?_ ?_<;>intro hb)
 refine aO ?_
 rotate_left
 (refine bS ?_ ?_<;>intro hb)
 refine aO ?_
 rotate_left
 (refine bS ?_ ?_<;>intro hb)
 refine aO ?_
 rotate_left
 (refine bS ?_ ?_<;>intro hb)
 refine aO ?_
 rotate_left
 refine aO ?_
 rotate_left
 ·obtain rfl:p=13:=by omega
  exact aA rfl
 ·obtain rfl:p=14:=by omega
  exact aA rfl
 ·obtain rfl:p=51:=by omega
  exact aA rfl
 ·obtain rfl:p=52:=by omega
  exact aA rfl
 ·refine aA (congrArg (AV.int .i64) ?_)
  unfold dZ
  split<;>first|rfl|(exfalso;omega)
instance:CC 149:=⟨_,@c149⟩
theorem c194(a b:Int)(ha:cell a=true)(hb:cell b=true)(h0:b≠0):Con Tryz.prog 194 [.int .i64 a,.int .i64 b] (aa [.int .i64 a,.int .i64 b]) (.int .i64 (ct a b)):=by
 have qa: -2147483648≤a∧a≤2147483647:=aQ ha
 have qb: -2147483648≤b∧b≤2147483647:=aQ hb
 have hq:=mW a b
 have wq:IntKind.i64.wrap (a.tdiv b)=a.tdiv b:=ai (by omega) (by omega)
 have wq1:IntKind.i64.wrap (a.tdiv b-1)=a.tdiv b-1:=ai (by omega) (by omega)
 refine rn 23 Tryz.func194 [.tmp 4] (g:= ?_)
 conv=>whnf
 iterate 5 (first|refine aO ?_|(refine bS ?_ ?_<;>intro hb))
 rotate_left
 refine aO ?_
 rotate_left
 refine aO ?_
 rotate_left
 ·exact aA (by rw[wq,wq1,ct,if_pos ⟨by assumption,fun e=>hb (by simp[e])⟩])
 ·exact aA (by rw[wq,ct,if_neg fun k=>k.2 (propext (decide_eq_decide.1 hb))])
 ·exact aA (by rw[wq,ct,if_neg fun k=>k.1 hb])
instance:CC 194:=⟨_,@c194⟩
end P1

/- Two cells into one, by the program and by the reference; contracts. -/
open Go Go.Abs Go.Proofs V1 H1 F1 F2 T1 T2 T3 P1
namespace P2
theorem fF{a b:Int}(qa: -2147483648≤a∧a≤2147483647)(qb: -2147483648≤b∧b≤2147483647): -4611686018427387904≤a*b∧a*b≤4611686018427387904:=by
 have h1:(a*b).natAbs≤2147483648*2147483648:=by rw[Int.natAbs_mul];exact Nat.mul_le_mul (by omega) (by omega)
 omega
theorem tQ(a b:Int):(a.tmod b).natAbs≤a.natAbs:=by rw[Int.natAbs_tmod];exact Nat.mod_le _ _
theorem G0{a b:Int}(h: ¬b=0):cf 4 a b=(wc (ct a b),true):=by simp[cf,gi,h]
theorem GV{a b:Int}(h: ¬b=0):cf 5 a b=(a-ct a b*b,true):=by simp[cf,gi,h]
theorem EL{a b:Int}(h:b=0):cf 4 a b=(0,false)∧cf 5 a b=(0,false):=by simp[cf,gi,h]
theorem Lf{a b:Int}(h:bm b 0 31=true):cf 9 a b=(wc (a*2 ^ b.toNat),true):=by simp[cf,gi,h]
theorem HD{a b:Int}(h:bm b 0 31=true):cf 10 a b=(wc ((wH a).fdiv (2 ^ b.toNat)),true):=by simp[cf,gi,h]
theorem Jo{a b:Int}(h:bm b 0 31=false):cf 9 a b=(0,true)∧cf 10 a b=(0,true):=by simp[cf,gi,h]
theorem HY{a b:Int}(h: ¬a.tmod b=0)(hb: ¬decide (a.tmod b<0)=decide (b<0)):a.tmod b≠0∧((a<0)≠(b<0)):=⟨h,by rw[←yo h];exact fun e=>hb (by simp[e])⟩
theorem Iw{a b:Int}(h: ¬a.tmod b=0)(hb:decide (a.tmod b<0)=decide (b<0)): ¬(a.tmod b≠0∧((a<0)≠(b<0))):=by
 rintro ⟨_,k⟩
 rw[←yo h]at k
 exact k (propext (decide_eq_decide.1 hb))
theorem Ip{a b:Int}(h:a.tmod b=0): ¬(a.tmod b≠0∧((a<0)≠(b<0))):=fun k=>k.1 h
theorem Hj(a:Int):wH a=IntKind.u32.wrap (IntKind.i32.wrap a):=by
 have:0≤IntKind.u32.wrap (IntKind.i32.wrap a)∧IntKind.u32.wrap (IntKind.i32.wrap a)<4294967296:=by rw[yz];omega
 exact ai (by omega) (by omega)
theorem K6(a b:Int)(ha:cell a=true)(hb0:cell b=true):Con Tryz.prog 150 [.int .i64 1,.int .i64 a,.int .i64 b] (aa [.int .i64 1,.int .i64 a,.int .i64 b]) (.tup [.int .i64 (cf 1 a b).1,.bool (cf 1 a b).2]):=by
 have qa: -2147483648≤a∧a≤2147483647:=aQ ha
 have qb: -2147483648≤b∧b≤2147483647:=aQ hb0
 have qm:=fF qa qb
 have w:IntKind.i64.wrap (a+b)=a+b:=ai (by omega) (by omega)
 refine rn 88 Tryz.func150 [.tmp 6,.tmp 7] (g:= ?_)
 conv=>whnf
 refine aO ?_
 (refine aA ?_;((rw[w];rfl)))
theorem Ko(a b:Int)(ha:cell a=true)(hb0:cell b=true):Con Tryz.prog 150 [.int .i64 2,.int .i64 a,.int .i64 b] (aa [.int .i64 2,.int .i64 a,.int .i64 b]) (.tup [.int .i64 (cf 2 a b).1,.bool (cf 2 a b).2]):=by
 have qa: -2147483648≤a∧a≤2147483647:=aQ ha
 have qb: -2147483648≤b∧b≤2147483647:=aQ hb0
 have qm:=fF qa qb
 have w:IntKind.i64.wrap (a-b)=a-b:=ai (by omega) (by omega)
 refine rn 88 Tryz.func150 [.tmp 6,.tmp 7] (g:= ?_)
 conv=>whnf
 refine aO ?_
 (refine aA ?_;((rw[w];rfl)))
theorem Kv(a b:Int)(ha:cell a=true)(hb0:cell b=true):Con Tryz.prog 150 [.int .i64 3,.int .i64 a,.int .i64 b] (aa [.int .i64 3,.int .i64 a,.int .i64 b]) (.tup [.int .i64 (cf 3 a b).1,.bool (cf 3 a b).2]):=by
 have qa: -2147483648≤a∧a≤2147483647:=aQ ha
 have qb: -2147483648≤b∧b≤2147483647:=aQ hb0
 have qm:=fF qa qb
 have w:IntKind.i64.wrap (a*b)=a*b:=ai (by omega) (by omega)
 refine rn 88 Tryz.func150 [.tmp 6,.tmp 7] (g:= ?_)
 conv=>whnf
 refine aO ?_
 (refine aA ?_;((rw[w];rfl)))
theorem Id(a b:Int)(ha:cell a=true)(hb0:cell b=true):Con Tryz.prog 150 [.int .i64 4,.int .i64 a,.int .i64 b] (aa [.int .i64 4,.int .i64 a,.int .i64 b]) (.tup [.int .i64 (cf 4 a b).1,.bool (cf 4 a b).2]):=by
 have qa: -2147483648≤a∧a≤2147483647:=aQ ha
 have qb: -2147483648≤b∧b≤2147483647:=aQ hb0
 have qm:=fF qa qb
 have hq:=mW a b
 have hm:=tQ a b
 have wq:IntKind.i64.wrap (a.tdiv b)=a.tdiv b:=ai (by omega) (by omega)
 have wq1:IntKind.i64.wrap (a.tdiv b-1)=a.tdiv b-1:=ai (by omega) (by omega)
 have wm:IntKind.i64.wrap (a.tmod b+b)=a.tmod b+b:=ai (by omega) (by omega)
 refine rn 88 Tryz.func150 [.tmp 6,.tmp 7] (g:= ?_)
 conv=>whnf
 refine aO ?_
 (refine bS ?_ ?_<;>intro hb)
 refine aO ?_
 rotate_left
 iterate 5 (first|refine aO ?_|(refine bS ?_ ?_<;>intro hb))
 rotate_left
 refine aO ?_
 rotate_left
 refine aO ?_
 rotate_left
 ·exact aA (by rw[(EL hb).1])
 ·have hc:=HY (by assumption) hb
  exact aA (by rw[wq,wq1,G0 (by assumption),ct,if_pos hc];rfl)
 ·have hc:=Iw (by assumption) hb
  exact aA (by rw[wq,G0 (by assumption),ct,if_neg hc];rfl)
 ·have hc:=Ip hb
  exact aA (by rw[wq,G0 (by assumption),ct,if_neg hc];rfl)
theorem I3(a b:Int)(ha:cell a=true)(hb0:cell b=true):Con Tryz.prog 150 [.int .i64 5,.int .i64 a,.int .i64 b] (aa [.int .i64 5,.int .i64 a,.int .i64 b]) (.tup [.int .i64 (cf 5 a b).1,.bool (cf 5 a b).2]):=by
 have qa: -2147483648≤a∧a≤2147483647:=aQ ha
 have qb: -2147483648≤b∧b≤2147483647:=aQ hb0
 have qm:=fF qa qb
 have hq:=mW a b
 have hm:=tQ a b
 have wq:IntKind.i64.wrap (a.tdiv b)=a.tdiv b:=ai (by omega) (by omega)
 have wq1:IntKind.i64.wrap (a.tdiv b-1)=a.tdiv b-1:=ai (by omega) (by omega)
 have wm:IntKind.i64.wrap (a.tmod b+b)=a.tmod b+b:=ai (by omega) (by omega)
 refine rn 88 Tryz.func150 [.tmp 6,.tmp 7] (g:= ?_)
 conv=>whnf
 refine aO ?_
 (refine bS ?_ ?_<;>intro hb)
 refine aO ?_
 rotate_left
 iterate 5 (first|refine aO ?_|(refine bS ?_ ?_<;>intro hb))
 rotate_left
 refine aO ?_
 rotate_left
 refine aO ?_
 rotate_left
 ·exact aA (by rw[(EL hb).2])
 ·have hc:=HY (by assumption) hb
  exact aA (by rw[wm,GV (by assumption),←tP hc])
 ·have hc:=Iw (by assumption) hb
  exact aA (by rw[GV (by assumption),←nb hc])
 ·have hc:=Ip hb
  exact aA (by rw[GV (by assumption),←nb hc])
theorem JZ(a b:Int)(ha:cell a=true)(hb0:cell b=true):Con Tryz.prog 150 [.int .i64 6,.int .i64 a,.int .i64 b] (aa [.int .i64 6,.int .i64 a,.int .i64 b]) (.tup [.int .i64 (cf 6 a b).1,.bool (cf 6 a b).2]):=by
 have qa: -2147483648≤a∧a≤2147483647:=aQ ha
 have qb: -2147483648≤b∧b≤2147483647:=aQ hb0
 have qm:=fF qa qb
 exact rn 88 Tryz.func150 [.tmp 6,.tmp 7] (g:=go)
theorem J2(a b:Int)(ha:cell a=true)(hb0:cell b=true):Con Tryz.prog 150 [.int .i64 7,.int .i64 a,.int .i64 b] (aa [.int .i64 7,.int .i64 a,.int .i64 b]) (.tup [.int .i64 (cf 7 a b).1,.bool (cf 7 a b).2]):=by
 have qa: -2147483648≤a∧a≤2147483647:=aQ ha
 have qb: -2147483648≤b∧b≤2147483647:=aQ hb0
 have qm:=fF qa qb
 exact rn 88 Tryz.func150 [.tmp 6,.tmp 7] (g:=go)
theorem JN(a b:Int)(ha:cell a=true)(hb0:cell b=true):Con Tryz.prog 150 [.int .i64 8,.int .i64 a,.int .i64 b] (aa [.int .i64 8,.int .i64 a,.int .i64 b]) (.tup [.int .i64 (cf 8 a b).1,.bool (cf 8 a b).2]):=by
 have qa: -2147483648≤a∧a≤2147483647:=aQ ha
 have qb: -2147483648≤b∧b≤2147483647:=aQ hb0
 have qm:=fF qa qb
 exact rn 88 Tryz.func150 [.tmp 6,.tmp 7] (g:=go)
theorem KZ(a b:Int)(ha:cell a=true)(hb0:cell b=true):Con Tryz.prog 150 [.int .i64 9,.int .i64 a,.int .i64 b] (aa [.int .i64 9,.int .i64 a,.int .i64 b]) (.tup [.int .i64 (cf 9 a b).1,.bool (cf 9 a b).2]):=by
 have qa: -2147483648≤a∧a≤2147483647:=aQ ha
 have qb: -2147483648≤b∧b≤2147483647:=aQ hb0
 have qm:=fF qa qb
 refine rn 88 Tryz.func150 [.tmp 6,.tmp 7] (g:= ?_)
 conv=>whnf
 refine aO ?_
 (refine bS ?_ ?_<;>intro hb)
 refine aO ?_
 rotate_left
 refine aO ?_
 (apply ac (by(((have i1:=aQ (show bm b 0 31=true by assumption);exact decide_eq_true (by omega)))));conv=>whnf)
 refine aO ?_
 rotate_left
 ·exact aA (by rw[(Jo hb).1])
 ·have i1:=aQ hb
  have e1:min b.toNat IntKind.i64.bits=b.toNat:=Nat.min_eq_left (show b.toNat≤64 by omega)
  exact aA (by rw[e1,Lf hb];show AV.tup [.int .i64 (wc (IntKind.i64.wrap _)),_]=_;rw[li (pO (a*2 ^ b.toNat))])
theorem Iy(a b:Int)(ha:cell a=true)(hb0:cell b=true):Con Tryz.prog 150 [.int .i64 10,.int .i64 a,.int .i64 b] (aa [.int .i64 10,.int .i64 a,.int .i64 b]) (.tup [.int .i64 (cf 10 a b).1,.bool (cf 10 a b).2]):=by
 have qa: -2147483648≤a∧a≤2147483647:=aQ ha
 have qb: -2147483648≤b∧b≤2147483647:=aQ hb0
 have qm:=fF qa qb
 refine rn 88 Tryz.func150 [.tmp 6,.tmp 7] (g:= ?_)
 conv=>whnf
 refine aO ?_
 (refine bS ?_ ?_<;>intro hb)
 refine aO ?_
 rotate_left
 refine aO ?_
 (apply ac (by(((have i1:=aQ (show bm b 0 31=true by assumption);exact decide_eq_true (by omega)))));conv=>whnf)
 refine aO ?_
 rotate_left
 ·exact aA (by rw[(Jo hb).2])
 ·have i1:=aQ hb
  have e1:min b.toNat IntKind.i64.bits=b.toNat:=Nat.min_eq_left (show b.toNat≤64 by omega)
  exact aA (by rw[e1,HD hb];rfl)
theorem JD(a b:Int)(ha:cell a=true)(hb0:cell b=true):Con Tryz.prog 173 [.int .i64 1,.int .i64 a,.int .i64 b] (aa [.int .i64 1,.int .i64 a,.int .i64 b]) (.tup [.int .i64 (cf 1 a b).1,.bool (cf 1 a b).2]):=by
 have qa: -2147483648≤a∧a≤2147483647:=aQ ha
 have qb: -2147483648≤b∧b≤2147483647:=aQ hb0
 have qm:=fF qa qb
 have w:IntKind.i64.wrap (a+b)=a+b:=ai (by omega) (by omega)
 refine rn 84 Tryz.func173 [.tmp 6,.tmp 7] (g:= ?_)
 conv=>whnf
 refine aO ?_
 (refine aA ?_;((rw[w];rfl)))
theorem Js(a b:Int)(ha:cell a=true)(hb0:cell b=true):Con Tryz.prog 173 [.int .i64 2,.int .i64 a,.int .i64 b] (aa [.int .i64 2,.int .i64 a,.int .i64 b]) (.tup [.int .i64 (cf 2 a b).1,.bool (cf 2 a b).2]):=by
 have qa: -2147483648≤a∧a≤2147483647:=aQ ha
 have qb: -2147483648≤b∧b≤2147483647:=aQ hb0
 have qm:=fF qa qb
 have w:IntKind.i64.wrap (a-b)=a-b:=ai (by omega) (by omega)
 refine rn 84 Tryz.func173 [.tmp 6,.tmp 7] (g:= ?_)
 conv=>whnf
 refine aO ?_
 (refine aA ?_;((rw[w];rfl)))
theorem J8(a b:Int)(ha:cell a=true)(hb0:cell b=true):Con Tryz.prog 173 [.int .i64 3,.int .i64 a,.int .i64 b] (aa [.int .i64 3,.int .i64 a,.int .i64 b]) (.tup [.int .i64 (cf 3 a b).1,.bool (cf 3 a b).2]):=by
 have qa: -2147483648≤a∧a≤2147483647:=aQ ha
 have qb: -2147483648≤b∧b≤2147483647:=aQ hb0
 have qm:=fF qa qb
 have w:IntKind.i64.wrap (a*b)=a*b:=ai (by omega) (by omega)
 refine rn 84 Tryz.func173 [.tmp 6,.tmp 7] (g:= ?_)
 conv=>whnf
 refine aO ?_
 (refine aA ?_;((rw[w];rfl)))
theorem Hb(a b:Int)(ha:cell a=true)(hb0:cell b=true):Con Tryz.prog 173 [.int .i64 4,.int .i64 a,.int .i64 b] (aa [.int .i64 4,.int .i64 a,.int .i64 b]) (.tup [.int .i64 (cf 4 a b).1,.bool (cf 4 a b).2]):=by
 have qa: -2147483648≤a∧a≤2147483647:=aQ ha
 have qb: -2147483648≤b∧b≤2147483647:=aQ hb0
 have qm:=fF qa qb
 refine rn 84 Tryz.func173 [.tmp 6,.tmp 7] (g:= ?_)
 conv=>whnf
 iterate 8 (first|(apply ac rfl;(conv=>whnf))|(apply bL rfl;(conv=>whnf))|(apply aJ rfl;(conv=>whnf))|(refine cm ?_ ?_<;>intro hb<;>(try simp only[eH]at hb)<;>conv=>whnf))
 rotate_left
 iterate 12 ((first|apply ac rfl|refine aG (fun hf=> ?_)|apply bL rfl|apply aB|refine ag (c174 ..) ?_|refine ag (c194 a b ha hb0 (by assumption) ..) ?_);conv=>whnf)
 rotate_left
 ·exact aA (by rw[(EL hb).1])
 ·exact aA (by rw[G0 hb])
theorem Hz(a b:Int)(ha:cell a=true)(hb0:cell b=true):Con Tryz.prog 173 [.int .i64 5,.int .i64 a,.int .i64 b] (aa [.int .i64 5,.int .i64 a,.int .i64 b]) (.tup [.int .i64 (cf 5 a b).1,.bool (cf 5 a b).2]):=by
 have qa: -2147483648≤a∧a≤2147483647:=aQ ha
 have qb: -2147483648≤b∧b≤2147483647:=aQ hb0
 have qm:=fF qa qb
 refine rn 84 Tryz.func173 [.tmp 6,.tmp 7] (g:= ?_)
 conv=>whnf
 iterate 8 (first|(apply ac rfl;(conv=>whnf))|(apply bL rfl;(conv=>whnf))|(apply aJ rfl;(conv=>whnf))|(refine cm ?_ ?_<;>intro hb<;>(try simp only[eH]at hb)<;>conv=>whnf))
 rotate_left
 iterate 8 ((first|apply ac rfl|refine aG (fun hf=> ?_)|apply aJ rfl|apply aB|refine ag (c194 a b ha hb0 (by assumption) ..) ?_);conv=>whnf)
 rotate_left
 ·exact aA (by rw[(EL hb).2])
 ·have e:a-ct a b*b=a.tmod b∨a-ct a b*b=a.tmod b+b:=by
   by_cases hc:a.tmod b≠0∧((a<0)≠(b<0))
   ·exact .inr (tP hc).symm
   ·exact .inl (nb hc).symm
  have hm:=tQ a b
  have w1:IntKind.i64.wrap (ct a b*b)=ct a b*b:=ai (by omega) (by omega)
  have w2:IntKind.i64.wrap (a-ct a b*b)=a-ct a b*b:=ai (by omega) (by omega)
  exact aA (by rw[w1,w2,GV hb])
theorem K8(a b:Int)(ha:cell a=true)(hb0:cell b=true):Con Tryz.prog 173 [.int .i64 6,.int .i64 a,.int .i64 b] (aa [.int .i64 6,.int .i64 a,.int .i64 b]) (.tup [.int .i64 (cf 6 a b).1,.bool (cf 6 a b).2]):=by
 have qa: -2147483648≤a∧a≤2147483647:=aQ ha
 have qb: -2147483648≤b∧b≤2147483647:=aQ hb0
 have qm:=fF qa qb
 exact rn 84 Tryz.func173 [.tmp 6,.tmp 7] (g:=go)
theorem K5(a b:Int)(ha:cell a=true)(hb0:cell b=true):Con Tryz.prog 173 [.int .i64 7,.int .i64 a,.int .i64 b] (aa [.int .i64 7,.int .i64 a,.int .i64 b]) (.tup [.int .i64 (cf 7 a b).1,.bool (cf 7 a b).2]):=by
 have qa: -2147483648≤a∧a≤2147483647:=aQ ha
 have qb: -2147483648≤b∧b≤2147483647:=aQ hb0
 have qm:=fF qa qb
 exact rn 84 Tryz.func173 [.tmp 6,.tmp 7] (g:=go)
theorem KJ(a b:Int)(ha:cell a=true)(hb0:cell b=true):Con Tryz.prog 173 [.int .i64 8,.int .i64 a,.int .i64 b] (aa [.int .i64 8,.int .i64 a,.int .i64 b]) (.tup [.int .i64 (cf 8 a b).1,.bool (cf 8 a b).2]):=by
 have qa: -2147483648≤a∧a≤2147483647:=aQ ha
 have qb: -2147483648≤b∧b≤2147483647:=aQ hb0
 have qm:=fF qa qb
 exact rn 84 Tryz.func173 [.tmp 6,.tmp 7] (g:=go)
theorem Jp(a b:Int)(ha:cell a=true)(hb0:cell b=true):Con Tryz.prog 173 [.int .i64 9,.int .i64 a,.int .i64 b] (aa [.int .i64 9,.int .i64 a,.int .i64 b]) (.tup [.int .i64 (cf 9 a b).1,.bool (cf 9 a b).2]):=by
 have qa: -2147483648≤a∧a≤2147483647:=aQ ha
 have qb: -2147483648≤b∧b≤2147483647:=aQ hb0
 have qm:=fF qa qb
 refine rn 84 Tryz.func173 [.tmp 6,.tmp 7] (g:= ?_)
 conv=>whnf
 refine aO ?_
 (refine bS ?_ ?_<;>intro hb)
 refine aO ?_
 rotate_left
 (apply ac (by(((have i1:=aQ (show bm b 0 31=true by assumption);rw[hE (by omega) (by omega)];exact decide_eq_true (by omega)))));conv=>whnf)
 refine aO ?_
 rotate_left
 ·exact aA (by rw[(Jo hb).1])
 ·have i1:=aQ hb
  have e1:min (IntKind.u64.wrap b).toNat IntKind.u32.bits=b.toNat:=by rw[hE (by omega) (by omega)];exact Nat.min_eq_left (show b.toNat≤32 by omega)
  exact aA (by rw[e1,Lf hb];show AV.tup [.int .i64 (wc (IntKind.u32.wrap (IntKind.u32.wrap (IntKind.i32.wrap a)*2 ^ b.toNat))),_]=_;rw[←BH,li (pO (a*2 ^ b.toNat))])
theorem HX(a b:Int)(ha:cell a=true)(hb0:cell b=true):Con Tryz.prog 173 [.int .i64 10,.int .i64 a,.int .i64 b] (aa [.int .i64 10,.int .i64 a,.int .i64 b]) (.tup [.int .i64 (cf 10 a b).1,.bool (cf 10 a b).2]):=by
 have qa: -2147483648≤a∧a≤2147483647:=aQ ha
 have qb: -2147483648≤b∧b≤2147483647:=aQ hb0
 have qm:=fF qa qb
 refine rn 84 Tryz.func173 [.tmp 6,.tmp 7] (g:= ?_)
 conv=>whnf
 refine aO ?_
 (refine bS ?_ ?_<;>intro hb)
 refine aO ?_
 rotate_left
 (apply ac (by(((have i1:=aQ (show bm b 0 31=true by assumption);rw[hE (by omega) (by omega)];exact decide_eq_true (by omega)))));conv=>whnf)
 refine aO ?_
 rotate_left
 ·exact aA (by rw[(Jo hb).2])
 ·have i1:=aQ hb
  have e1:min (IntKind.u64.wrap b).toNat IntKind.u32.bits=b.toNat:=by rw[hE (by omega) (by omega)];exact Nat.min_eq_left (show b.toNat≤32 by omega)
  exact aA (by rw[e1,HD hb,Hj];rfl)
end P2

/- Prims' parts, by the program: pushes, cells, what is said; contracts. -/
open Go Go.Abs Go.Proofs V1 H1 F1 F2 T1 T2 T3 P1 P2
namespace P3
theorem mv{x y:AV}(h:x=y):Sh x y:=h▸Sh.refl x
def dD(d:Dat)(l:List Int):Dat × Int:=if 32<d.st.length+l.length then(d,-3)else({d with st:=d.st++l},0)
theorem El{d:Dat}{l:List Int}(h:32<d.st.length+l.length):dD d l=(d,-3):=by rw[dD,if_pos h]
theorem C3{d:Dat}{l:List Int}(h: ¬32<d.st.length+l.length):dD d l=({d with st:=d.st++l},0):=by rw[dD,if_neg h]
theorem c151(d:Dat)(l:List Int)(h:d.st.length≤32)(hl:l.length≤4):Con Tryz.prog 151 [.obj (aw d),dL l] [.obj (aw (dD d l).1),.undef] (.int .i64 (dD d l).2):=by
 have w1:IntKind.i64.wrap ((d.st.length:Int)+(l.length:Int))=((d.st.length+l.length:Nat):Int):=by rw[ai (by omega) (by omega)];omega
 refine rp 23 Tryz.func151 [.tmp 4] (g:= ?_)
 conv=>whnf
 refine aO ?_
 (refine bS ?_ ?_<;>intro hb)
 refine aO ?_
 rotate_left
 refine aO ?_
 rotate_left
 ·rw[w1]at hb
  rw[El (by omega)]
  exact go
 ·rw[w1]at hb
  rw[C3 (by omega)]
  (refine aq (by rfl) ?_;conv=>whnf)
  refine aO ?_
  rotate_left
  refine nS (Sh.agg ⟨Sh.trans (mv ?_) (Sh.flat_map (f:=aj) (fun _=>rfl) (d.st++l)),Sh.refl _,Sh.refl _,Sh.refl _,Sh.refl _,Sh.refl _,trivial⟩) ?_
  ·simp[am,List.take_of_length_le]
  ·conv=>whnf
   exact True.intro
instance:CC 151:=⟨_,@c151⟩
theorem sA{c:Int}(qc: -2147483648≤c∧c≤2147483647):IntKind.i64.wrap (0-c)= -c:=by rw[ai (by omega) (by omega)];omega
theorem Fq(b c:Int)(qb: -2147483648≤b∧b≤2147483647)(qc: -2147483648≤c∧c≤2147483647):Con Tryz.prog 153 [.int .i64 25,.int .i64 b,.int .i64 c] (aa [.int .i64 25,.int .i64 b,.int .i64 c]) (.int .i64 (aP 25 b c)):=by
 refine rn 85 Tryz.func153 [.tmp 6] (g:= ?_)
 conv=>whnf
 refine aO ?_
 (refine aA ?_;((rw[sA qc];rfl)))
theorem GB(b c:Int)(qb: -2147483648≤b∧b≤2147483647)(qc: -2147483648≤c∧c≤2147483647):Con Tryz.prog 153 [.int .i64 26,.int .i64 b,.int .i64 c] (aa [.int .i64 26,.int .i64 b,.int .i64 c]) (.int .i64 (aP 26 b c)):=by
 refine rn 85 Tryz.func153 [.tmp 6] (g:= ?_)
 conv=>whnf
 refine aO ?_
 (refine aA ?_;((have e:(if-c>c then-c else c)=max c (-c):=(by rw[Int.max_def];split<;>split<;>omega);rw[sA qc,e];rfl)))
theorem FE(b c:Int)(qb: -2147483648≤b∧b≤2147483647)(qc: -2147483648≤c∧c≤2147483647):Con Tryz.prog 153 [.int .i64 27,.int .i64 b,.int .i64 c] (aa [.int .i64 27,.int .i64 b,.int .i64 c]) (.int .i64 (aP 27 b c)):=by
 refine rn 85 Tryz.func153 [.tmp 6] (g:= ?_)
 conv=>whnf
 refine aO ?_
 (refine aA ?_;((rw[sA qc,ai (by omega) (by omega)];rfl)))
theorem EU(b c:Int)(qb: -2147483648≤b∧b≤2147483647)(qc: -2147483648≤c∧c≤2147483647):Con Tryz.prog 153 [.int .i64 28,.int .i64 b,.int .i64 c] (aa [.int .i64 28,.int .i64 b,.int .i64 c]) (.int .i64 (aP 28 b c)):=by
 refine rn 85 Tryz.func153 [.tmp 6] (g:= ?_)
 conv=>whnf
 refine aO ?_
 (refine aA ?_;((rw[ai (n:=c+1) (by omega) (by omega)];rfl)))
theorem E8(b c:Int)(qb: -2147483648≤b∧b≤2147483647)(qc: -2147483648≤c∧c≤2147483647):Con Tryz.prog 153 [.int .i64 29,.int .i64 b,.int .i64 c] (aa [.int .i64 29,.int .i64 b,.int .i64 c]) (.int .i64 (aP 29 b c)):=by
 refine rn 85 Tryz.func153 [.tmp 6] (g:= ?_)
 conv=>whnf
 refine aO ?_
 (refine aA ?_;((rw[ai (n:=c-1) (by omega) (by omega)];rfl)))
theorem Fa(b c:Int)(qb: -2147483648≤b∧b≤2147483647)(qc: -2147483648≤c∧c≤2147483647):Con Tryz.prog 153 [.int .i64 30,.int .i64 b,.int .i64 c] (aa [.int .i64 30,.int .i64 b,.int .i64 c]) (.int .i64 (aP 30 b c)):=by
 refine rn 85 Tryz.func153 [.tmp 6] (g:= ?_)
 conv=>whnf
 refine aO ?_
 (refine aA ?_;((have e:(if c<b then c else b)=min b c:=(by rw[Int.min_def];split<;>split<;>omega);rw[e];rfl)))
theorem Ff(b c:Int)(qb: -2147483648≤b∧b≤2147483647)(qc: -2147483648≤c∧c≤2147483647):Con Tryz.prog 153 [.int .i64 31,.int .i64 b,.int .i64 c] (aa [.int .i64 31,.int .i64 b,.int .i64 c]) (.int .i64 (aP 31 b c)):=by
 refine rn 85 Tryz.func153 [.tmp 6] (g:= ?_)
 conv=>whnf
 refine aO ?_
 (refine aA ?_;((have e:(if c>b then c else b)=max b c:=(by rw[Int.max_def];split<;>split<;>omega);rw[e];rfl)))
theorem F9(b c:Int)(qb: -2147483648≤b∧b≤2147483647)(qc: -2147483648≤c∧c≤2147483647):Con Tryz.prog 153 [.int .i64 32,.int .i64 b,.int .i64 c] (aa [.int .i64 32,.int .i64 b,.int .i64 c]) (.int .i64 (aP 32 b c)):=
 rn 85 Tryz.func153 [.tmp 6] (g:=go)
theorem Gh(b c:Int)(qb: -2147483648≤b∧b≤2147483647)(qc: -2147483648≤c∧c≤2147483647):Con Tryz.prog 153 [.int .i64 33,.int .i64 b,.int .i64 c] (aa [.int .i64 33,.int .i64 b,.int .i64 c]) (.int .i64 (aP 33 b c)):=
 rn 85 Tryz.func153 [.tmp 6] (g:=go)
theorem GE(b c:Int)(qb: -2147483648≤b∧b≤2147483647)(qc: -2147483648≤c∧c≤2147483647):Con Tryz.prog 153 [.int .i64 34,.int .i64 b,.int .i64 c] (aa [.int .i64 34,.int .i64 b,.int .i64 c]) (.int .i64 (aP 34 b c)):=
 rn 85 Tryz.func153 [.tmp 6] (g:=go)
theorem FC(b c:Int)(qb: -2147483648≤b∧b≤2147483647)(qc: -2147483648≤c∧c≤2147483647):Con Tryz.prog 153 [.int .i64 35,.int .i64 b,.int .i64 c] (aa [.int .i64 35,.int .i64 b,.int .i64 c]) (.int .i64 (aP 35 b c)):=
 rn 85 Tryz.func153 [.tmp 6] (g:=go)
theorem E4(b c:Int)(qb: -2147483648≤b∧b≤2147483647)(qc: -2147483648≤c∧c≤2147483647):Con Tryz.prog 153 [.int .i64 36,.int .i64 b,.int .i64 c] (aa [.int .i64 36,.int .i64 b,.int .i64 c]) (.int .i64 (aP 36 b c)):=
 rn 85 Tryz.func153 [.tmp 6] (g:=go)
theorem Fu(b c:Int)(qb: -2147483648≤b∧b≤2147483647)(qc: -2147483648≤c∧c≤2147483647):Con Tryz.prog 153 [.int .i64 37,.int .i64 b,.int .i64 c] (aa [.int .i64 37,.int .i64 b,.int .i64 c]) (.int .i64 (aP 37 b c)):=
 rn 85 Tryz.func153 [.tmp 6] (g:=go)
theorem Gq(b c:Int)(qb: -2147483648≤b∧b≤2147483647)(qc: -2147483648≤c∧c≤2147483647):Con Tryz.prog 153 [.int .i64 38,.int .i64 b,.int .i64 c] (aa [.int .i64 38,.int .i64 b,.int .i64 c]) (.int .i64 (aP 38 b c)):=
 rn 85 Tryz.func153 [.tmp 6] (g:=go)
theorem c186(d:Dat)(hd:0≤d.he∧d.he≤32):Con Tryz.prog 186 [.obj (aw d)] [.obj (aw d)] (.int .i64 (4096+4*d.he)):=by
 have w1:IntKind.i64.wrap (4*d.he)=4*d.he:=ai (by omega) (by omega)
 have w2:IntKind.i64.wrap (4096+4*d.he)=4096+4*d.he:=ai (by omega) (by omega)
 refine rp 9 Tryz.func186 [.tmp 2] (g:= ?_)
 conv=>whnf
 refine aO ?_
 rotate_left
 rw[w1,w2]
 exact go
instance:CC 186:=⟨_,@c186⟩
theorem EB{d:Dat}{t:List UInt8}(h:300<d.ou.length+t.length):cC d t=(d,-17):=by rw[cC,if_pos h]
theorem EJ{d:Dat}{t:List UInt8}(h: ¬300<d.ou.length+t.length):cC d t=({d with ou:=d.ou++t},0):=by rw[cC,if_neg h]
theorem c188(d:Dat)(t:List UInt8)(h:d.ou.length≤300)(ht:t.length≤1000):Con Tryz.prog 188 [.obj (aw d),.str t] [.obj (aw (cC d t).1),.undef] (.int .i64 (cC d t).2):=by
 have w1:IntKind.i64.wrap ((d.ou.length:Int)+(t.length:Int))=((d.ou.length+t.length:Nat):Int):=by rw[ai (by omega) (by omega)];omega
 refine rp 22 Tryz.func188 [.tmp 4] (g:= ?_)
 conv=>whnf
 refine bN ?_
 (refine bS ?_ ?_<;>intro hb)
 refine bN ?_
 rotate_left
 refine bN ?_
 rotate_left
 ·rw[w1]at hb
  rw[EB (by omega)]
  exact go
 ·rw[w1]at hb
  rw[EJ (by omega)]
  iterate 9 (first|(apply ac rfl;(conv=>whnf))|(refine ac (by(((exact decide_eq_true (by unfold gt;omega))))) ?_;(conv=>whnf))|(refine af (ak (by solve|simp[bj]|fail)) ?_;(conv=>whnf))|(refine aq (by rfl) ?_;(conv=>whnf))|(exact True.intro))
instance:CC 188:=⟨_,@c188⟩
theorem uc{d:Dat}{a:Int}(h:bm a 4096 (4096+4*d.he-1)=false∨ ¬a.tmod 4=0):bX d a=none:=by
 rw[bX,if_neg]
 rintro ⟨h1,h2⟩
 rcases h with h|h
 ·rw[h]at h1;cases h1
 ·exact h h2
theorem rt{d:Dat}{a:Int}(h1:bm a 4096 (4096+4*d.he-1)=true)(h2:a.tmod 4=0):bX d a=some ((a-4096).tdiv 4).toNat:=by rw[bX,if_pos ⟨h1,h2⟩]
theorem gB{d:Dat}{a:Int}{k:Nat}(h:bX d a=some k)(hd:0≤d.he∧d.he≤32):(k:Int)<d.he∧(a-4096).tdiv 4=k:=by
 unfold bX at h
 split at h
 ·rename_i hc
  have h1:=aQ hc.1
  injection h with h
  have e:(a-4096).tdiv 4=(a-4096)/4:=Int.tdiv_eq_ediv_of_nonneg (by omega)
  rw[e]at h⊢
  omega
 ·cases h
theorem c184(d:Dat)(a:Int)(hd:0≤d.he∧d.he≤32)(qa: -2147483648≤a∧a≤2147483647):Con Tryz.prog 184 [.obj (aw d),.int .i64 a] [.obj (aw d),.undef] (.tup [.int .i64 (((bX d a).getD 0:Nat):Int),.bool (bX d a).isSome]):=by
 have w1:IntKind.i64.wrap (4*d.he)=4*d.he:=ai (by omega) (by omega)
 have w2:IntKind.i64.wrap (4096+4*d.he)=4096+4*d.he:=ai (by omega) (by omega)
 have w3:IntKind.i64.wrap (4096+4*d.he-1)=4096+4*d.he-1:=ai (by omega) (by omega)
 have w4:IntKind.i64.wrap (a-4096)=a-4096:=ai (by omega) (by omega)
 refine rp 24 Tryz.func184 [.tmp 4,.tmp 5] (g:= ?_)
 conv=>whnf
 refine aO ?_
 (refine bS ?_ ?_<;>intro hb)
 refine aO ?_
 rotate_left
 refine aO ?_
 (refine bS ?_ ?_<;>intro hb)
 refine aO ?_
 rotate_left
 refine aO ?_
 rotate_left
 ·rw[w1,w2,w3]at hb
  rw[uc (.inl hb)]
  exact go
 ·rw[uc (.inr hb)]
  exact go
 ·have h1:bm a 4096 (4096+4*d.he-1)=true:=by rw[←w3,←w2,←w1];assumption
  have hk:=gB (rt h1 hb) hd
  rw[rt h1 hb]
  generalize ((a-4096).tdiv 4).toNat=k at hk
  rw[w4,hk.2,ai (by omega) (by omega)]
  exact go
instance:CC 184:=⟨_,@c184⟩
theorem jb{xs:List Int}{i j:Nat}{z:List AV}{v:Int}(h:j<xs.length)(e:i=j):bl (xs.map aj) i 0 z [.int .i64 v]=(xs.set j v).map aj:=by subst e;exact gS _ _ _ _ h
theorem xG{d:Dat}{a n:Int}(h:bX d a=none):bZ d a n=(d,-9):=by rw[bZ,h]
theorem nY{d:Dat}{a n:Int}{k:Nat}(h:bX d a=some k):bZ d a n=({d with ce:=d.ce.set k n},0):=by rw[bZ,h]
theorem c185(d:Dat)(a n:Int)(hd:0≤d.he∧d.he≤32)(hc:d.ce.length=32)(qa: -2147483648≤a∧a≤2147483647):Con Tryz.prog 185 [.obj (aw d),.int .i64 a,.int .i64 n] [.obj (aw (bZ d a n).1),.undef,.undef] (.int .i64 (bZ d a n).2):=by
 have k1:=c184 d a hd qa
 cases hk:bX d a with
 |none=>
  rw[hk]at k1
  have k2:Con Tryz.prog 184 [.obj (aw d),.int .i64 a] [.obj (aw d),.undef] (.tup [.int .i64 0,.bool false]):=k1
  rw[xG hk]
  refine rp 24 Tryz.func185 [.tmp 6] (g:= ?_)
  conv=>whnf
  repeat' (first|(refine ax 184 [some 6,none] ?_;conv=>whnf)|(refine eo (k2 ..) ?_;conv=>whnf)|(focus (refine aq (by rfl) ?_;conv=>whnf))|exact True.intro|refine aO ?_)
  all_goals skip
 |some k=>
  rw[hk]at k1
  have k2:Con Tryz.prog 184 [.obj (aw d),.int .i64 a] [.obj (aw d),.undef] (.tup [.int .i64 k,.bool true]):=k1
  have hl:=gB hk hd
  rw[nY hk]
  refine rp 24 Tryz.func185 [.tmp 6] (g:= ?_)
  conv=>whnf
  repeat' (first|(apply af (by(exact jb (j:=k) (by omega) (by omega)));conv=>whnf)|(refine ax 184 [some 6,none] ?_;conv=>whnf)|(refine eo (k2 ..) ?_;conv=>whnf)|(focus (refine aq (by rfl) ?_;conv=>whnf))|exact True.intro|refine bN ?_|refine im ?_)
instance:CC 185:=⟨_,@c185⟩
theorem it{d:Dat}{n:Int}(h: ¬n.tmod 4=0∨bm (d.he+n.tdiv 4) 0 32=false):aM d n=(d,-8):=by rw[aM,if_pos h]
theorem lE{d:Dat}{n:Int}(h1:n.tmod 4=0)(h2:bm (d.he+n.tdiv 4) 0 32=true):aM d n=({d with ce:=qX d.ce d.he (d.he+n.tdiv 4),he:=d.he+n.tdiv 4},0):=by rw[aM,if_neg (by simp[h1,h2])]
def zr(ce:List Int)(a j:Nat):List Int:=ce.take a++List.replicate j 0++ce.drop (a+j)
theorem kw{ce:List Int}{a j:Nat}(h:a+j≤ce.length):(zr ce a j).length=ce.length:=by simp[zr];omega
theorem Hr(ce:List Int)(a:Nat):zr ce a 0=ce:=by simp[zr]
theorem yc{ce:List Int}{a j:Nat}(h:a+j<ce.length):(zr ce a j).set (a+j) 0=zr ce a (j+1):=by
 have hl:(zr ce a j).length=ce.length:=kw (by omega)
 apply List.ext_getElem?
 intro i
 rw[List.getElem?_set]
 simp only[hl]
 simp only[zr,List.getElem?_append,List.length_append,List.length_take,List.length_replicate,Nat.min_eq_left (show a≤ce.length by omega),List.getElem?_take,List.getElem?_replicate,List.getElem?_drop]
 by_cases h1:a+j=i
 ·subst h1
  simp[h,show ¬a+j<a by omega,show a+j<a+(j+1) by omega]
 ·by_cases h2:i<a
  ·simp[h1,h2,show i<a+j by omega,show i<a+(j+1) by omega]
  ·by_cases h3:i<a+j
   ·simp[h1,h2,h3,show i<a+(j+1) by omega,show i-a<j by omega,show i-a<j+1 by omega]
   ·have e:a+j+(i-(a+j))=a+(j+1)+(i-(a+(j+1))):=by omega
    simp only[h1,h2,h3,show ¬i<a+(j+1) by omega,if_false,e]
theorem ll{ce:List Int}{a q:Int}(h:0≤a)(h2:0≤a+q):qX ce a (a+q)=zr ce a.toNat q.toNat:=by
 unfold qX zr
 rw[show a+q-a=q by omega]
 by_cases hq:0≤q
 ·rw[show max a.toNat (a+q).toNat=a.toNat+q.toNat by omega]
 ·rw[show max a.toNat (a+q).toNat=a.toNat+q.toNat by omega]
theorem c187(d:Dat)(n:Int)(hd:0≤d.he∧d.he≤32)(hc:d.ce.length=32)(qn: -2147483648≤n∧n≤2147483647):Con Tryz.prog 187 [.obj (aw d),.int .i64 n] [.obj (aw (aM d n).1),.undef] (.int .i64 (aM d n).2):=by
 have hq:=mW n 4
 have wq:IntKind.i64.wrap (n.tdiv 4)=n.tdiv 4:=ai (by omega) (by omega)
 have w1:IntKind.i64.wrap (d.he+n.tdiv 4)=d.he+n.tdiv 4:=ai (by omega) (by omega)
 refine rp 50 Tryz.func187 [.tmp 4] (g:= ?_)
 conv=>whnf
 refine bN ?_
 (refine bS ?_ ?_<;>intro hb)
 refine bN ?_
 rotate_left
 refine bN ?_
 (refine bS ?_ ?_<;>intro hb)
 refine bN ?_
 rotate_left
 refine bN ?_
 rotate_left
 ·rw[it (.inl hb)]
  exact go
 ·rw[wq,w1]at hb
  rw[it (.inr hb)]
  exact go
 rw[wq,w1]at hb
 have hi:=aQ hb
 have h4:n.tmod 4=0:=by assumption
 rw[lE h4 hb,ll hd.1 hi.1]
 refine LoopG.auto (α:=Nat) bH dI [0,1,5] (fun j=>[(0,.ptr 500000 0 0),(1,.int .i64 n),(5,.int .i64 (d.he+j))]) (fun j=>[(500000,.live ⟨false,0,[.undef,.undef,.undef,.undef,.undef,.undef],[[.ref 2 0 d.st.length,.ref 3 0 d.bk.length,.ref 4 0 d.ce.length,.int .i64 d.he,.int .i64 d.ba,.str d.ou]]⟩),(2,.live ⟨true,0,zI,d.st.map aj⟩),(3,.live ⟨true,0,zI,d.bk.map aj⟩),(4,.live ⟨true,0,zI,(zr d.ce d.he.toNat j).map aj⟩)]) (fun j=>j≤(n.tdiv 4).toNat) (fun j=>(n.tdiv 4).toNat-j) ?_ ?_
 ·conv=>whnf
  refine bN ?_
  rotate_left
  exact aE 0 (by omega) (by simp) (by simp[Hr])
 ·rintro j hj- -
  by_cases hlt:j<(n.tdiv 4).toNat
  ·have gd:decide (d.he+(j:Int)<IntKind.i64.wrap (d.he+IntKind.i64.wrap (n.tdiv 4)))=true:=by rw[wq,w1];exact decide_eq_true (by omega)
   have hz:=kw (ce:=d.ce) (a:=d.he.toNat) (j:=j) (by omega)
   conv=>whnf
   iterate 3 (first|(apply af (by(exact jb (j:=d.he.toNat+j) (by rw[hz];omega) (by omega)));conv=>whnf)|refine bN ?_)
   rotate_left
   refine aE (j+1) ⟨by omega,by omega⟩ (by rw[ai (by omega) (by omega),show d.he+(j:Int)+1=d.he+((j+1:Nat):Int) by omega]) ?_
   rw[yc (by omega)]
  ·have gd:decide (d.he+(j:Int)<IntKind.i64.wrap (d.he+IntKind.i64.wrap (n.tdiv 4)))=false:=by rw[wq,w1];exact decide_eq_false (by omega)
   conv=>whnf
   iterate 5 (first|refine im ?_|(refine aq (by rfl) ?_;conv=>whnf)|refine bN ?_)
   rotate_left
   obtain rfl:j=(n.tdiv 4).toNat:=by omega
   have hz:=kw (ce:=d.ce) (a:=d.he.toNat) (j:=(n.tdiv 4).toNat) (by omega)
   rw[wq,w1,List.drop_zero,List.take_of_length_le (by omega)]
   exact go
instance:CC 187:=⟨_,@c187⟩
end P3

/- Prims on cells and on the output, by the program; contracts. -/
open Go Go.Abs Go.Proofs V1 H1 F1 F2 T1 T2 T3 P1 P2 P3
namespace P4
def cY(p:Nat)(d:Dat)(b c:Int):Dat × Int:=match p with
 |39=>match bX d c with
  |none=>(d,-9)
  |some k=>dD d [d.ce.getD k 0]
 |40=>bZ d c b
 |41=>match bX d c with
  |none=>(d,-9)
  |some k=>({d with ce:=d.ce.set k (wc (d.ce.getD k 0+b))},0)
 |42=>dD d [4096+4*d.he]
 |43=>aM d c
 |44=>if(aM d 4).2≠0 then aM d 4 else bZ (aM d 4).1 (4096+4*d.he) c
 |45=>cC d [UInt8.ofNat (c%256).toNat]
 |46=>cC d (my c d.ba.toNat++[32])
 |47=>cC d [10]
 |48=>cC d [32]
 |49=>({d with ba:=10},0)
 |_=>({d with ba:=16},0)
structure Dk(d:Dat):Prop where
 he:0≤d.he∧d.he≤32
 ce:d.ce.length=32
 st:d.st.length≤32
 ou:d.ou.length≤300
 ba:2≤d.ba∧d.ba≤16
 cs: ∀n∈d.ce,-2147483648≤n∧n≤2147483647
theorem IK(d:Dat)(b c:Int)(h:Dk d)(qc: -2147483648≤c∧c≤2147483647):Con Tryz.prog 154 [.obj (aw d),.int .i64 39,.int .i64 b,.int .i64 c] [.obj (aw (cY 39 d b c).1),.undef,.undef,.undef] (.int .i64 (cY 39 d b c).2):=by
 have k1:=c184 d c h.he qc
 cases hk:bX d c with
 |none=>
  rw[hk]at k1
  have k2:Con Tryz.prog 184 [.obj (aw d),.int .i64 c] [.obj (aw d),.undef] (.tup [.int .i64 0,.bool false]):=k1
  rw[show cY 39 d b c=(d,-9) by simp only[cY,hk]]
  refine rp 127 Tryz.func154 [.tmp 8] (g:= ?_)
  conv=>whnf
  repeat' (first|(refine ax 184 [some 6,none] ?_;conv=>whnf)|(refine eo (k2 ..) ?_;conv=>whnf)|(focus (refine aq (by rfl) ?_;conv=>whnf))|exact True.intro|refine aO ?_)
  all_goals skip
 |some k=>
  rw[hk]at k1
  have k2:Con Tryz.prog 184 [.obj (aw d),.int .i64 c] [.obj (aw d),.undef] (.tup [.int .i64 k,.bool true]):=k1
  have hl:=gB hk h.he
  have hc:=h.ce
  have hh:=h.he
  have k3:=c151 d [d.ce.getD k 0] h.st (by simp)
  rw[show cY 39 d b c=dD d [d.ce.getD k 0] by simp only[cY,hk]]
  refine rp 127 Tryz.func154 [.tmp 8] (g:= ?_)
  conv=>whnf
  repeat' (first|(refine aH (by((try simp only[Nat.zero_add,Int.toNat_natCast]);exact aI aj _ _ _ 0 (by omega))) ?_;conv=>whnf)|(refine ax 184 [some 6,none] ?_;conv=>whnf)|(refine eo (k2 ..) ?_;conv=>whnf)|(refine ax 151 [some 6,none] ?_;conv=>whnf)|(refine eo (k3 ..) ?_;conv=>whnf)|(focus (refine aq (by rfl) ?_;conv=>whnf))|exact True.intro|refine bN ?_|refine im ?_)
  all_goals skip
theorem IU(d:Dat)(b c:Int)(h:Dk d)(qb: -2147483648≤b∧b≤2147483647)(qc: -2147483648≤c∧c≤2147483647):Con Tryz.prog 154 [.obj (aw d),.int .i64 40,.int .i64 b,.int .i64 c] [.obj (aw (cY 40 d b c).1),.undef,.undef,.undef] (.int .i64 (cY 40 d b c).2):=by
 have hc:=h.ce
 have hh:=h.he
 have k1:=c185 d c b h.he h.ce qc
 rw[show cY 40 d b c=bZ d c b from rfl]
 refine rp 127 Tryz.func154 [.tmp 8] (g:= ?_)
 conv=>whnf
 repeat' (first|(refine ax 185 [some 6,none,none] ?_;conv=>whnf)|(refine eo (k1 ..) ?_;conv=>whnf)|(focus (refine aq (by rfl) ?_;conv=>whnf))|exact True.intro|refine aO ?_)
theorem HT(d:Dat)(b c:Int)(h:Dk d)(qb: -2147483648≤b∧b≤2147483647)(qc: -2147483648≤c∧c≤2147483647):Con Tryz.prog 154 [.obj (aw d),.int .i64 41,.int .i64 b,.int .i64 c] [.obj (aw (cY 41 d b c).1),.undef,.undef,.undef] (.int .i64 (cY 41 d b c).2):=by
 have hc:=h.ce
 have hh:=h.he
 have k1:=c184 d c h.he qc
 cases hk:bX d c with
 |none=>
  rw[hk]at k1
  have k2:Con Tryz.prog 184 [.obj (aw d),.int .i64 c] [.obj (aw d),.undef] (.tup [.int .i64 0,.bool false]):=k1
  rw[show cY 41 d b c=(d,-9) by simp only[cY,hk]]
  refine rp 127 Tryz.func154 [.tmp 8] (g:= ?_)
  conv=>whnf
  repeat' (first|(refine ax 184 [some 6,none] ?_;conv=>whnf)|(refine eo (k2 ..) ?_;conv=>whnf)|(focus (refine aq (by rfl) ?_;conv=>whnf))|exact True.intro|refine aO ?_)
 |some k=>
  rw[hk]at k1
  have k2:Con Tryz.prog 184 [.obj (aw d),.int .i64 c] [.obj (aw d),.undef] (.tup [.int .i64 k,.bool true]):=k1
  have hl:=gB hk h.he
  have hq: -2147483648≤d.ce.getD k 0∧d.ce.getD k 0≤2147483647:=h.cs _ (by rw[List.getD_eq_getElem?_getD,List.getElem?_eq_getElem (by omega)];exact List.getElem_mem _)
  have w1:IntKind.i64.wrap (d.ce.getD k 0+b)=d.ce.getD k 0+b:=ai (by omega) (by omega)
  rw[show cY 41 d b c=({d with ce:=d.ce.set k (wc (d.ce.getD k 0+b))},0) by simp only[cY,hk]]
  rw[←w1]
  refine rp 127 Tryz.func154 [.tmp 8] (g:= ?_)
  conv=>whnf
  repeat' (first|(refine aH (by((try simp only[Nat.zero_add,Int.toNat_natCast]);exact aI aj _ _ _ 0 (by omega))) ?_;conv=>whnf)|(apply af (by(exact jb (j:=k) (by omega) (by omega)));conv=>whnf)|(refine ax 184 [some 6,none] ?_;conv=>whnf)|(refine eo (k2 ..) ?_;conv=>whnf)|(focus (refine aq (by rfl) ?_;conv=>whnf))|exact True.intro|refine bN ?_|refine im ?_)
  all_goals skip
theorem He(d:Dat)(b c:Int)(h:Dk d)(qb: -2147483648≤b∧b≤2147483647)(qc: -2147483648≤c∧c≤2147483647):Con Tryz.prog 154 [.obj (aw d),.int .i64 42,.int .i64 b,.int .i64 c] [.obj (aw (cY 42 d b c).1),.undef,.undef,.undef] (.int .i64 (cY 42 d b c).2):=by
 have hc:=h.ce
 have hh:=h.he
 have k1:=c186 d h.he
 have k2:=c151 d [4096+4*d.he] h.st (by simp)
 rw[show cY 42 d b c=dD d [4096+4*d.he]from rfl]
 refine rp 127 Tryz.func154 [.tmp 8] (g:= ?_)
 conv=>whnf
 repeat' (first|(refine ax 186 [some 6] ?_;conv=>whnf)|(refine eo (k1 ..) ?_;conv=>whnf)|(refine ax 151 [some 6,none] ?_;conv=>whnf)|(refine eo (k2 ..) ?_;conv=>whnf)|(focus (refine aq (by rfl) ?_;conv=>whnf))|exact True.intro|refine aO ?_)
theorem Hn(d:Dat)(b c:Int)(h:Dk d)(qb: -2147483648≤b∧b≤2147483647)(qc: -2147483648≤c∧c≤2147483647):Con Tryz.prog 154 [.obj (aw d),.int .i64 43,.int .i64 b,.int .i64 c] [.obj (aw (cY 43 d b c).1),.undef,.undef,.undef] (.int .i64 (cY 43 d b c).2):=by
 have hc:=h.ce
 have hh:=h.he
 have k1:=c187 d c h.he h.ce qc
 rw[show cY 43 d b c=aM d c from rfl]
 refine rp 127 Tryz.func154 [.tmp 8] (g:= ?_)
 conv=>whnf
 repeat' (first|(refine ax 187 [some 6,none] ?_;conv=>whnf)|(refine eo (k1 ..) ?_;conv=>whnf)|(focus (refine aq (by rfl) ?_;conv=>whnf))|exact True.intro|refine aO ?_)
theorem Hq(d:Dat)(b c:Int)(h:Dk d)(qb: -2147483648≤b∧b≤2147483647)(qc: -2147483648≤c∧c≤2147483647):Con Tryz.prog 154 [.obj (aw d),.int .i64 44,.int .i64 b,.int .i64 c] [.obj (aw (cY 44 d b c).1),.undef,.undef,.undef] (.int .i64 (cY 44 d b c).2):=by
 have hc:=h.ce
 have hh:=h.he
 have k0:=c186 d h.he
 have k1:=c187 d 4 h.he h.ce (by omega)
 have hx:(aM d 4).2≠0∨((aM d 4).2=0∧(0≤(aM d 4).1.he∧(aM d 4).1.he≤32)∧(aM d 4).1.ce.length=32):=by
  by_cases hi:bm (d.he+(4:Int).tdiv 4) 0 32=true
  ·have h2:=aQ hi
   rw[lE rfl hi]
   refine .inr ⟨rfl,h2,?_⟩
   rw[ll hh.1 h2.1,kw]
   ·exact hc
   ·have:(4:Int).tdiv 4=1:=rfl
    omega
  ·rw[it (.inr (by simpa using hi))]
   exact .inl (by simp)
 rcases hx with hx|⟨hx,h2,h3⟩
 ·rw[show cY 44 d b c=aM d 4 by simp only[cY];rw[if_pos hx]]
  have hx2:((aM d 4).2 != 0)=true:=bne_iff_ne.2 hx
  generalize aM d 4=x at k1 hx hx2
  refine rp 127 Tryz.func154 [.tmp 8] (g:= ?_)
  conv=>whnf
  repeat' (first|(refine ax 186 [some 6] ?_;conv=>whnf)|(refine eo (k0 ..) ?_;conv=>whnf)|(refine ax 187 [some 6,none] ?_;conv=>whnf)|(refine eo (k1 ..) ?_;conv=>whnf)|(focus (refine aq (by rfl) ?_;conv=>whnf))|exact True.intro|refine aO ?_)
  all_goals skip
 ·rw[show cY 44 d b c=bZ (aM d 4).1 (4096+4*d.he) c by simp only[cY];rw[if_neg (by rw[hx];simp)]]
  have k2:=c185 (aM d 4).1 (4096+4*d.he) c h2 h3 (by omega)
  have hx2:((aM d 4).2 != 0)=false:=by rw[hx];rfl
  generalize aM d 4=x at k1 k2 hx hx2
  refine rp 127 Tryz.func154 [.tmp 8] (g:= ?_)
  conv=>whnf
  repeat' (first|(refine ax 186 [some 6] ?_;conv=>whnf)|(refine eo (k0 ..) ?_;conv=>whnf)|(refine ax 187 [some 6,none] ?_;conv=>whnf)|(refine eo (k1 ..) ?_;conv=>whnf)|(refine ax 185 [some 6,none,none] ?_;conv=>whnf)|(refine eo (k2 ..) ?_;conv=>whnf)|(focus (refine aq (by rfl) ?_;conv=>whnf))|exact True.intro|refine aO ?_)
  all_goals skip
theorem IC(d:Dat)(b c:Int)(h:Dk d)(qb: -2147483648≤b∧b≤2147483647)(qc: -2147483648≤c∧c≤2147483647):Con Tryz.prog 154 [.obj (aw d),.int .i64 45,.int .i64 b,.int .i64 c] [.obj (aw (cY 45 d b c).1),.undef,.undef,.undef] (.int .i64 (cY 45 d b c).2):=by
 have hc:=h.ce
 have hh:=h.he
 have e:UInt8.ofNat (IntKind.u8.wrap c).toNat=UInt8.ofNat (c%256).toNat:=rfl
 have k1:=c188 d [UInt8.ofNat (IntKind.u8.wrap c).toNat] h.ou (by simp)
 rw[show cY 45 d b c=cC d [UInt8.ofNat (IntKind.u8.wrap c).toNat]from rfl]
 refine rp 127 Tryz.func154 [.tmp 8] (g:= ?_)
 conv=>whnf
 iterate 12 (first|exact True.intro|(refine aq (by rfl) ?_;conv=>whnf)|refine im ?_|(refine eo (k1 ..) ?_;conv=>whnf)|(refine ax 188 [some 6,none] ?_;conv=>whnf)|(refine mj rfl ?_;conv=>whnf)|refine bN ?_)
 all_goals skip
theorem IY(d:Dat)(b c:Int)(h:Dk d)(qb: -2147483648≤b∧b≤2147483647)(qc: -2147483648≤c∧c≤2147483647):Con Tryz.prog 154 [.obj (aw d),.int .i64 46,.int .i64 b,.int .i64 c] [.obj (aw (cY 46 d b c).1),.undef,.undef,.undef] (.int .i64 (cY 46 d b c).2):=by
 have hc:=h.ce
 have hh:=h.he
 have eb:((d.ba.toNat:Nat):Int)=d.ba:=by have:=h.ba;omega
 have hcell:cell c=true:=by simp[cell,bm];omega
 have hb16:2≤d.ba.toNat∧d.ba.toNat≤16:=by have:=h.ba;omega
 have k0:=c189 c d.ba.toNat hcell hb16
 have hl:=xJ c hb16.1 hcell
 rw[eb]at k0
 have k1:=c188 d (my c d.ba.toNat++[32]) h.ou (by simp;omega)
 rw[show cY 46 d b c=cC d (my c d.ba.toNat++[32])from rfl]
 refine rp 127 Tryz.func154 [.tmp 8] (g:= ?_)
 conv=>whnf
 repeat' (first|(apply ac (by(((exact decide_eq_true (by unfold gt;simp;omega)))));conv=>whnf)|(refine ax 188 [some 6,none] ?_;conv=>whnf)|(refine eo (k1 ..) ?_;conv=>whnf)|(refine ag (k0 ..) ?_;conv=>whnf)|(focus (refine aq (by rfl) ?_;conv=>whnf))|exact True.intro|refine aO ?_)
 all_goals skip
theorem HW(d:Dat)(b c:Int)(h:Dk d)(qb: -2147483648≤b∧b≤2147483647)(qc: -2147483648≤c∧c≤2147483647):Con Tryz.prog 154 [.obj (aw d),.int .i64 47,.int .i64 b,.int .i64 c] [.obj (aw (cY 47 d b c).1),.undef,.undef,.undef] (.int .i64 (cY 47 d b c).2):=by
 have hc:=h.ce
 have hh:=h.he
 have k1:=c188 d [10] h.ou (by simp)
 rw[show cY 47 d b c=cC d [10]from rfl]
 refine rp 127 Tryz.func154 [.tmp 8] (g:= ?_)
 conv=>whnf
 repeat' (first|(refine ax 188 [some 6,none] ?_;conv=>whnf)|(refine eo (k1 ..) ?_;conv=>whnf)|(focus (refine aq (by rfl) ?_;conv=>whnf))|exact True.intro|refine aO ?_)
theorem HU(d:Dat)(b c:Int)(h:Dk d)(qb: -2147483648≤b∧b≤2147483647)(qc: -2147483648≤c∧c≤2147483647):Con Tryz.prog 154 [.obj (aw d),.int .i64 48,.int .i64 b,.int .i64 c] [.obj (aw (cY 48 d b c).1),.undef,.undef,.undef] (.int .i64 (cY 48 d b c).2):=by
 have hc:=h.ce
 have hh:=h.he
 have k1:=c188 d [32] h.ou (by simp)
 rw[show cY 48 d b c=cC d [32]from rfl]
 refine rp 127 Tryz.func154 [.tmp 8] (g:= ?_)
 conv=>whnf
 repeat' (first|(refine ax 188 [some 6,none] ?_;conv=>whnf)|(refine eo (k1 ..) ?_;conv=>whnf)|(focus (refine aq (by rfl) ?_;conv=>whnf))|exact True.intro|refine aO ?_)
theorem HR(d:Dat)(b c:Int)(h:Dk d)(qb: -2147483648≤b∧b≤2147483647)(qc: -2147483648≤c∧c≤2147483647):Con Tryz.prog 154 [.obj (aw d),.int .i64 49,.int .i64 b,.int .i64 c] [.obj (aw (cY 49 d b c).1),.undef,.undef,.undef] (.int .i64 (cY 49 d b c).2):=by
 have hc:=h.ce
 have hh:=h.he
 exact rp 127 Tryz.func154 [.tmp 8] (g:=go)
theorem Ij(d:Dat)(b c:Int)(h:Dk d)(qb: -2147483648≤b∧b≤2147483647)(qc: -2147483648≤c∧c≤2147483647):Con Tryz.prog 154 [.obj (aw d),.int .i64 50,.int .i64 b,.int .i64 c] [.obj (aw (cY 50 d b c).1),.undef,.undef,.undef] (.int .i64 (cY 50 d b c).2):=by
 have hc:=h.ce
 have hh:=h.he
 exact rp 127 Tryz.func154 [.tmp 8] (g:=go)
end P4
