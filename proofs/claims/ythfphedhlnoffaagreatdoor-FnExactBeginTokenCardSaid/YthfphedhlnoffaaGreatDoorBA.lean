import Derived.Test.YthfphedhlnoffaaGreatDoorBV
import Derived.Test.YthfphedhlnoffaaGreatDoorLK
import Derived.Lib.Case
import Derived.Shelf.Lays
import Derived.Shelf.Lays7
import Derived.Shelf.LaysM
import Derived.Shelf.Spec.TrailingZeros
import Derived.Shelf.Strconv.Itoa4
import Derived.Shelf.Strings.OnBuilder
/- Cells, ranges, valid hosts and data, copies of them: contracts. -/
set_option linter.unusedVariables false
set_option linter.unusedSimpArgs false
set_option maxRecDepth 100000
open Go Go.Abs Go.Proofs V1
namespace H1
theorem c95(n lo hi:Int):Con Tryz.prog 95 [.int .i64 n,.int .i64 lo,.int .i64 hi] (aa [.int .i64 n,.int .i64 lo,.int .i64 hi]) (.bool (bh n lo hi)):=by
 refine rn 15 Tryz.func95 [.tmp 6] (g:= ?_)
 conv=>whnf
 repeat' (first|(focus (refine aA ?_;(first|(simp_all[bh];done)|(simp_all[bh];omega))))|refine aP ?_|(refine bN ?_ ?_<;>intro hb))
instance:CC 95:=⟨_,@c95⟩
theorem c62(n lo hi:Int):Con Tryz.prog 62 [.int .i64 n,.int .i64 lo,.int .i64 hi] (aa [.int .i64 n,.int .i64 lo,.int .i64 hi]) (.bool (bh n lo hi)):=by
 refine rn 15 Tryz.func62 [.tmp 6] (g:= ?_)
 conv=>whnf
 repeat' (first|(focus (refine aA ?_;(first|(simp_all[bh];done)|(simp_all[bh];omega))))|refine aP ?_|(refine bN ?_ ?_<;>intro hb))
instance:CC 62:=⟨_,@c62⟩
theorem c167(n:Int):Con Tryz.prog 167 [.int .i64 n] (aa [.int .i64 n]) (.bool (bh n 0 3)):=
 rn 5 Tryz.func167 [.tmp 2] (g:=go)
instance:CC 167:=⟨_,@c167⟩
theorem c128(n:Int):Con Tryz.prog 128 [.int .i64 n] (aa [.int .i64 n]) (.bool (bh n 2 16)):=
 rn 5 Tryz.func128 [.tmp 2] (g:=go)
instance:CC 128:=⟨_,@c128⟩
theorem c99(n:Int):Con Tryz.prog 99 [.int .i64 n] (aa [.int .i64 n]) (.bool (bh n 2 16)):=
 rn 5 Tryz.func99 [.tmp 2] (g:=go)
instance:CC 99:=⟨_,@c99⟩
theorem c98(n:Int):Con Tryz.prog 98 [.int .i64 n] (aa [.int .i64 n]) (.bool (cell n)):=
 rn 5 Tryz.func98 [.tmp 2] (g:=go)
instance:CC 98:=⟨_,@c98⟩
theorem c165(n:Int):Con Tryz.prog 165 [.int .i64 n] (aa [.int .i64 n]) (.int .i64 (IntKind.i64.wrap (IntKind.i32.wrap n))):=
 rn 6 Tryz.func165 [.tmp 2] (g:=go)
instance:CC 165:=⟨_,@c165⟩
theorem c127(n:Int):Con Tryz.prog 127 [.int .i64 n] (aa [.int .i64 n]) (.bool (cell n)):=by
 refine Con.evF 7 bI dN Tryz.func127 rfl rfl rfl rfl [.tmp 2] rfl fun⟨h,_⟩=> ?_
 have h:=yM h
 conv=>whnf
 refine aP ?_
 (refine aA ?_;((rw[←yk h.1 h.2])))
instance:CC 127:=⟨_,@c127⟩
theorem c100(d:Deal):Con Tryz.prog 100 [iW d] (aa [iW d]) (.bool (eZ d)):=by
 refine rn 21 Tryz.func100 [.tmp 2] (g:= ?_)
 conv=>whnf
 repeat' (first|(focus (refine aA ?_;(first|(simp_all[eZ];done)|(simp_all[eZ];rfl))))|refine aP ?_|(refine bN ?_ ?_<;>intro hb))
instance:CC 100:=⟨_,@c100⟩
theorem c132(d:Deal):Con Tryz.prog 132 [iW d] (aa [iW d]) (.bool (eZ d)):=by
 refine rn 21 Tryz.func132 [.tmp 2] (g:= ?_)
 conv=>whnf
 repeat' (first|(focus (refine aA ?_;(first|(simp_all[eZ];done)|(simp_all[eZ];rfl))))|refine aP ?_|(refine bN ?_ ?_<;>intro hb))
instance:CC 132:=⟨_,@c132⟩
theorem c131(d:Deal):Con Tryz.prog 131 [iW d] (aa [iW d]) (.bool (np d)):=
 rn 6 Tryz.func131 [.tmp 2] (g:=go)
instance:CC 131:=⟨_,@c131⟩
theorem c126(n:Int):Con Tryz.prog 126 [.int .i64 n] (aa [.int .i64 n]) (.bool (nu n)):=
 rn 6 Tryz.func126 [.tmp 2] (g:=go)
instance:CC 126:=⟨_,@c126⟩
theorem c166(rs:List (Deal)):Con Tryz.prog 166 [ll rs,.fn 131 []] (aa [ll rs,.fn 131 []]) (.int .i64 (lQ np rs)):=by
 refine Con.evF 19 bI dN Tryz.func166 rfl rfl rfl rfl [.tmp 4] rfl fun⟨hx,_⟩=> ?_
 have hx:=facts_len hx
 conv=>whnf
 rotate_left
 refine LoopG.rounds (α:=Nat) bI dN [0,1,7,8] [] (fun i=>[(0,ll rs),(1,.fn 131 []),(7,.int .i64 rs.length),(8,.int .i64 i)]) (fun _=>[]) (fun i=>i≤rs.length∧ ∀j,j<i→np (rs.getD j default)=false) (fun i=>rs.length-i) ?_ ?_
 ·conv=>whnf
  exact aE 0 ⟨by simp,fun j hj=>by omega⟩ (by simp[ll]) rfl
 ·rintro i ⟨h1,h2⟩- -
  conv=>whnf
  (refine bN ?_ ?_<;>intro hb)
  refine bJ ?_
  (refine aD (by((try simp only[Int.toNat_natCast]);exact aF aV _ _ _ default (by first|omega|(simp;omega)))) ?_;conv=>whnf);iterate 3 (first|refine bJ ?_|(refine bN ?_ ?_<;>intro hb))
  iterate 2 (rotate_left)
  refine bJ ?_
  rotate_left
  ·refine aA ?_
   rw[lm default (by assumption) hb h2]
  ·refine aE (i+1) ⟨⟨by omega,fun j hj=> ?_⟩,by omega⟩ (by rw[ai (by omega) (by omega)];rfl) rfl
   by_cases hji:j=i
   ·subst hji;exact hb
   ·exact h2 j (by omega)
  ·refine aA ?_
   rw[jA default fun j hj=>h2 j (by omega)]
instance:CC 166:=⟨_,@c166⟩
theorem c130(rs:List (Deal)):Con Tryz.prog 130 [ll rs,.fn 131 []] (aa [ll rs,.fn 131 []]) (.bool (rs.any np)):=by
 refine rn 9 Tryz.func130 [.tmp 4] (g:= ?_)
 conv=>whnf
 refine aP ?_
 (refine aA ?_;((rw[←kZ])))
instance:CC 130:=⟨_,@c130⟩
theorem c164(rs:List (Int)):Con Tryz.prog 164 [dE rs,.fn 126 []] (aa [dE rs,.fn 126 []]) (.int .i64 (lQ nu rs)):=by
 refine Con.evF 19 bI dN Tryz.func164 rfl rfl rfl rfl [.tmp 4] rfl fun⟨hx,_⟩=> ?_
 have hx:=facts_len hx
 conv=>whnf
 rotate_left
 refine LoopG.rounds (α:=Nat) bI dN [0,1,7,8] [] (fun i=>[(0,dE rs),(1,.fn 126 []),(7,.int .i64 rs.length),(8,.int .i64 i)]) (fun _=>[]) (fun i=>i≤rs.length∧ ∀j,j<i→nu (rs.getD j default)=false) (fun i=>rs.length-i) ?_ ?_
 ·conv=>whnf
  exact aE 0 ⟨by simp,fun j hj=>by omega⟩ (by simp[dE]) rfl
 ·rintro i ⟨h1,h2⟩- -
  conv=>whnf
  (refine bN ?_ ?_<;>intro hb)
  refine bJ ?_
  (refine aD (by((try simp only[Int.toNat_natCast]);exact aF aj _ _ _ default (by first|omega|(simp;omega)))) ?_;conv=>whnf);iterate 3 (first|refine bJ ?_|(refine bN ?_ ?_<;>intro hb))
  iterate 2 (rotate_left)
  refine bJ ?_
  rotate_left
  ·refine aA ?_
   rw[lm default (by assumption) hb h2]
  ·refine aE (i+1) ⟨⟨by omega,fun j hj=> ?_⟩,by omega⟩ (by rw[ai (by omega) (by omega)];rfl) rfl
   by_cases hji:j=i
   ·subst hji;exact hb
   ·exact h2 j (by omega)
  ·refine aA ?_
   rw[jA default fun j hj=>h2 j (by omega)]
instance:CC 164:=⟨_,@c164⟩
theorem c125(rs:List (Int)):Con Tryz.prog 125 [dE rs,.fn 126 []] (aa [dE rs,.fn 126 []]) (.bool (rs.any nu)):=by
 refine rn 9 Tryz.func125 [.tmp 4] (g:= ?_)
 conv=>whnf
 refine aP ?_
 (refine aA ?_;((rw[←kZ])))
instance:CC 125:=⟨_,@c125⟩
theorem Bu(xs:List Int):Con Tryz.prog 125 [dE xs,.fn 126 []] (aa [dE xs,.fn 126 []]) (.bool (!aL xs)):=yB xs▸c125 xs
theorem BN(xs:List Deal):Con Tryz.prog 130 [ll xs,.fn 131 []] (aa [ll xs,.fn 131 []]) (.bool (!fA xs)):=zd xs▸c130 xs
theorem c92(xs:List Int)(n:Int):Con Tryz.prog 92 [dE xs,.int .i64 n] (aa [dE xs,.int .i64 n]) (.bool (decide ((xs.length:Int)≤n)&&aL xs)):=by
 refine rn 14 Tryz.func92 [.tmp 4] (g:= ?_)
 conv=>whnf
 repeat' (first|(refine ah (Bu ..) ?_;conv=>whnf)|(focus (refine aA ?_;(first|(simp_all;done)|(simp_all;omega))))|refine bJ ?_|refine ie ?_|(refine bN ?_ ?_<;>intro hb))
instance:CC 92:=⟨_,@c92⟩
theorem c129(xs:List Int):Con Tryz.prog 129 [dE xs] (aa [dE xs]) (.bool (decide (xs.length=8)&&aL xs)):=by
 refine rn 10 Tryz.func129 [.tmp 2] (g:= ?_)
 conv=>whnf
 repeat' (first|(focus (refine aA ?_;(first|(simp_all;done)|(simp_all;omega))))|refine aP ?_|(refine bN ?_ ?_<;>intro hb))
instance:CC 129:=⟨_,@c129⟩
theorem c58(xs:List Int):Con Tryz.prog 58 [dE xs] (aa [dE xs]) (.bool (aL xs)):=by
 refine Con.evF 16 bI dN Tryz.func58 rfl rfl rfl rfl [.tmp 2] rfl fun⟨hx,_⟩=> ?_
 have hx:=facts_len hx
 conv=>whnf
 rotate_left
 refine LoopG.rounds (α:=Nat) bI dN [0,3] [] (fun i=>[(0,dE xs),(3,.int .i64 i)]) (fun _=>[]) (fun i=>i≤xs.length∧ ∀j,j<i→cell (xs.getD j default)=true) (fun i=>xs.length-i) ?_ ?_
 ·conv=>whnf
  exact aE 0 ⟨by simp,fun j hj=>by omega⟩ (by first|rfl|simp[dE]) rfl
 ·rintro i ⟨h1,h2⟩- -
  conv=>whnf
  (refine bN ?_ ?_<;>intro hb)
  refine bJ ?_
  (refine aD (by((try simp only[Int.toNat_natCast]);exact aF aj _ _ _ default (by first|omega|(simp;omega)))) ?_;conv=>whnf);iterate 3 (first|refine bJ ?_|(refine bN ?_ ?_<;>intro hb))
  iterate 2 (rotate_left)
  refine bJ ?_
  rotate_left
  ·exact aA (by rw[aL,lw (by assumption) hb])
  ·refine aE (i+1) ⟨⟨by omega,fun j hj=> ?_⟩,by omega⟩ (by rw[ai (by omega) (by omega)];rfl) rfl
   by_cases hji:j=i
   ·subst hji;exact hb
   ·exact h2 j (by omega)
  ·exact aA (by rw[aL,jW fun j hj=>h2 j (by omega)])
instance:CC 58:=⟨_,@c58⟩
theorem c94(h:Hst):Con Tryz.prog 94 [cS h] (aa [cS h]) (.bool (cP h)):=by
 have e:((h.q.length:Int)≤20)=(h.q.length≤20):=propext ⟨fun _=>by omega,fun _=>by omega⟩
 refine rn 34 Tryz.func94 [.tmp 2] (g:= ?_)
 conv=>whnf
 repeat' (first|(refine ah (BN ..) ?_;conv=>whnf)|(focus (refine aA ?_;(first|(simp_all[cP];done)|(simp_all[cP];omega)|(congr 1;rw[Bool.eq_iff_iff];simp_all[cP];done)|(congr 1;rw[Bool.eq_iff_iff];simp_all[cP];omega))))|refine bJ ?_|refine ie ?_|(refine bN ?_ ?_<;>intro hb))
instance:CC 94:=⟨_,@c94⟩
theorem c60(h:Hst):Con Tryz.prog 60 [cS h] (aa [cS h]) (.bool (cP h)):=by
 refine Con.evF 58 bI dN Tryz.func60 rfl rfl rfl rfl [.tmp 2] rfl fun⟨hx,_⟩=> ?_
 have hx:=facts_len (fun d=>hx (d+1) (ll h.ds) (by simp[C8]))
 conv=>whnf
 refine aP ?_
 (refine bN ?_ ?_<;>intro hb)
 refine aP ?_
 (focus (refine aA ?_;(first|(simp_all[cP];done)|(simp_all[cP];omega))))
 refine aP ?_
 (refine bN ?_ ?_<;>intro hb)
 refine aP ?_
 (focus (refine aA ?_;(first|(simp_all[cP];done)|(simp_all[cP];omega))))
 refine aP ?_
 (refine bN ?_ ?_<;>intro hb)
 refine aP ?_
 (focus (refine aA ?_;(first|(simp_all[cP];done)|(simp_all[cP];omega))))
 refine aP ?_
 (refine bN ?_ ?_<;>intro hb)
 refine aP ?_
 (focus (refine aA ?_;(first|(simp_all[cP];done)|(simp_all[cP];omega))))
 refine aP ?_
 (refine bN ?_ ?_<;>intro hb)
 refine aP ?_
 (focus (refine aA ?_;(first|(simp_all[cP];done)|(simp_all[cP];omega))))
 refine aP ?_
 (refine bN ?_ ?_<;>intro hb)
 refine aP ?_
 (focus (refine aA ?_;(first|(simp_all[cP];done)|(simp_all[cP];omega))))
 refine aP ?_
 (refine bN ?_ ?_<;>intro hb)
 refine aP ?_
 (focus (refine aA ?_;(first|(simp_all[cP];done)|(simp_all[cP];omega))))
 rotate_left
 have g1:h.gr.length=4:=by omega
 have g2:h.st.length=8:=by omega
 have g3:h.q.length≤20:=by omega
 have g4:h.ds.length≤40:=by omega
 have g5:aL h.st=true:=by assumption
 have g6:aL h.q=true:=by assumption
 have g7:bh h.tk 0 2147483647=true:=hb
 have fin:cP h=fA h.ds:=by simp[cP,g1,g2,g3,g4,g5,g6,g7]
 rw[fin]
 refine LoopG.rounds (α:=Nat) bI dN [3,1] [(1,1)] (fun i=>[(3,.int .i64 i),(1,.ptr 1 0 0)]) (fun _=>[(1,.live ⟨false,0,[pa h.gr,dE h.st,dE h.q,.int .i64 h.tk,ll h.ds],[[pa h.gr,dE h.st,dE h.q,.int .i64 h.tk,ll h.ds]]⟩)]) (fun i=>i≤h.ds.length∧ ∀j,j<i→eZ (h.ds.getD j default)=true) (fun i=>h.ds.length-i) ?_ ?_
 ·conv=>whnf
  exact aE 0 ⟨by simp,fun j hj=>by omega⟩ rfl rfl
 ·rintro i ⟨h1,h2⟩- -
  conv=>whnf
  (iterate 3 (first|refine bJ ?_|(refine bN ?_ ?_<;>intro hb)));(refine aD (by((try simp only[Int.toNat_natCast]);exact aF aV _ _ _ default (by first|omega|(simp;omega)))) ?_;conv=>whnf);iterate 3 (first|refine bJ ?_|(refine bN ?_ ?_<;>intro hb))
  iterate 2 (rotate_left)
  refine bJ ?_
  rotate_left
  ·exact aA (by rw[fA,lw (by assumption) hb])
  ·refine aE (i+1) ⟨⟨by omega,fun j hj=> ?_⟩,by omega⟩ (by rw[ai (by omega) (by omega)];rfl) rfl
   by_cases hji:j=i
   ·subst hji;exact hb
   ·exact h2 j (by omega)
  ·exact aA (by rw[fA,jW fun j hj=>h2 j (by omega)])
instance:CC 60:=⟨_,@c60⟩
theorem c59(d:Dat):Con Tryz.prog 59 [az d] (aa [az d]) (.bool (eN d)):=by
 refine rn 50 Tryz.func59 [.tmp 2] (g:= ?_)
 conv=>whnf
 repeat' (first|(focus (refine aA ?_;(first|(simp_all[eN];done)|(simp_all[eN];omega)|(congr 1;rw[Bool.eq_iff_iff];simp_all[eN];done)|(congr 1;rw[Bool.eq_iff_iff];simp_all[eN];omega))))|refine aP ?_|(refine bN ?_ ?_<;>intro hb))
instance:CC 59:=⟨_,@c59⟩
theorem c93(d:Dat):Con Tryz.prog 93 [az d] (aa [az d]) (.bool (eN d)):=by
 have e1:((d.st.length:Int)≤32)=(d.st.length≤32):=propext ⟨fun _=>by omega,fun _=>by omega⟩
 have e2:((d.bk.length:Int)≤32)=(d.bk.length≤32):=propext ⟨fun _=>by omega,fun _=>by omega⟩
 have e3:((d.ce.length:Int)≤32)=(d.ce.length≤32):=propext ⟨fun _=>by omega,fun _=>by omega⟩
 refine rn 38 Tryz.func93 [.tmp 2] (g:= ?_)
 conv=>whnf
 repeat' (first|(focus (refine aA ?_;(first|(simp_all[eN];done)|(simp_all[eN];omega)|(congr 1;rw[Bool.eq_iff_iff];simp_all[eN];done)|(congr 1;rw[Bool.eq_iff_iff];simp_all[eN];omega))))|refine aP ?_|(refine bN ?_ ?_<;>intro hb))
instance:CC 93:=⟨_,@c93⟩
theorem qO{α:Type}{z:List AV}{f:α→List AV}{xs:List α}(h:xs.length=0):Sh .emp (.own 0 z (xs.map f)):=by
 have:xs=[]:=List.length_eq_zero_iff.1 h
 subst this
 exact Sh.emp_own 0 z
theorem c110(xs:List Bool)(h:xs.length≤1048576):Con Tryz.prog 110 [pa xs] (aa [pa xs]) (bn xs):=by
 refine rn 8 Tryz.func110 [.tmp 2] (g:= ?_)
 conv=>whnf
 (refine ui (fun hz=> ?_) ?_<;>conv=>whnf)
 refine aP ?_
 rotate_left
 refine aP ?_
 rotate_left
 ·exact⟨qO (by simpa using hz)⟩
 ·exact⟨Sh.flat_map (fun _=>rfl) _⟩
instance:CC 110:=⟨_,@c110⟩
theorem c73(xs:List Int)(h:xs.length≤1048576):Con Tryz.prog 73 [dE xs] (aa [dE xs]) (aU xs):=by
 refine rn 8 Tryz.func73 [.tmp 2] (g:= ?_)
 conv=>whnf
 (refine ui (fun hz=> ?_) ?_<;>conv=>whnf)
 refine aP ?_
 rotate_left
 refine aP ?_
 rotate_left
 ·exact⟨qO (by simpa using hz)⟩
 ·exact⟨Sh.flat_map (fun _=>rfl) _⟩
instance:CC 73:=⟨_,@c73⟩
theorem c111(xs:List Deal)(h:xs.length≤1048576):Con Tryz.prog 111 [ll xs] (aa [ll xs]) (bm xs):=by
 refine rn 8 Tryz.func111 [.tmp 2] (g:= ?_)
 conv=>whnf
 (refine ui (fun hz=> ?_) ?_<;>conv=>whnf)
 refine aP ?_
 rotate_left
 refine aP ?_
 rotate_left
 ·exact⟨qO (by simpa using hz)⟩
 ·exact⟨Sh.flat_map (fun _=>rfl) _⟩
instance:CC 111:=⟨_,@c111⟩
theorem c76(h:Hst)(hs:dv h):Con Tryz.prog 76 [cS h] (aa [cS h]) (fI h):=by
 refine rn 20 Tryz.func76 [.cell 2 38] (g:= ?_)
 conv=>whnf
 (iterate 17 (first|refine ie ?_|(refine ah (c111 _ hs.2.2.2) ?_;conv=>whnf)|(refine ah (c73 _ hs.2.2.1) ?_;conv=>whnf)|(refine ah (c73 _ hs.2.1) ?_;conv=>whnf)|(refine ah (c110 _ hs.1) ?_;conv=>whnf)|refine bJ ?_));(refine aA ?_;(rfl))
instance:CC 76:=⟨_,@c76⟩
theorem c75(d:Dat)(hs:ef d):Con Tryz.prog 75 [az d] (aa [az d]) (jK d):=by
 refine rn 16 Tryz.func75 [.cell 2 35] (g:= ?_)
 conv=>whnf
 (iterate 13 (first|refine ie ?_|(refine ah (c73 _ hs.2.2.1) ?_;conv=>whnf)|(refine ah (c73 _ hs.2.1) ?_;conv=>whnf)|(refine ah (c73 _ hs.1) ?_;conv=>whnf)|refine bJ ?_));(refine aA ?_;(rfl))
instance:CC 75:=⟨_,@c75⟩
theorem c66(h:Hst)(hs:dv h):Con Tryz.prog 66 [cS h] (aa [cS h]) (fI h):=by
 obtain⟨h1,h2,h3,h4⟩:=hs
 refine rn 24 Tryz.func66 [.cell 2 38] (g:= ?_)
 conv=>whnf
 refine aP ?_
 rotate_left
 exact⟨Sh.agg ⟨Sh.flat_map (fun _=>rfl) _,Sh.flat_map (fun _=>rfl) _,Sh.flat_map (fun _=>rfl) _,Sh.refl _,Sh.flat_map (fun _=>rfl) _,trivial⟩⟩
instance:CC 66:=⟨_,@c66⟩
theorem c65(d:Dat)(hs:ef d):Con Tryz.prog 65 [az d] (aa [az d]) (jK d):=by
 obtain⟨h1,h2,h3,h4⟩:=hs
 refine rn 19 Tryz.func65 [.cell 2 35] (g:= ?_)
 conv=>whnf
 refine aP ?_
 rotate_left
 exact⟨Sh.agg ⟨Sh.flat_map (fun _=>rfl) _,Sh.flat_map (fun _=>rfl) _,Sh.flat_map (fun _=>rfl) _,Sh.refl _,Sh.refl _,Sh.refl _,trivial⟩⟩
instance:CC 65:=⟨_,@c65⟩
end H1

/- Numbers in bases 2 to 16: digits, plainly; strconv's formatBits, by walk. -/
open Go Go.Abs Go.Proofs V1
namespace F1
def eO(f:Nat→UInt8)(b v:Nat):List UInt8:=if h:b≤v∧2≤b then eO f b (v/b)++[f (v%b)]else[f v]
termination_by v
decreasing_by exact Nat.div_lt_self (by omega) (by omega)
theorem dD(f:Nat→UInt8){b v:Nat}(h:b≤v)(h2:2≤b):eO f b v=eO f b (v/b)++[f (v%b)]:=by rw[eO,dif_pos ⟨h,h2⟩]
theorem ec(f:Nat→UInt8){b v:Nat}(h:v<b):eO f b v=[f v]:=by rw[eO,dif_neg (by omega)]
theorem zG(f g:UInt8→UInt8)(d:Nat→UInt8)(b:Nat)(h2:2≤b): ∀v,(eO d b v).map f=eO (fun k=>f (d k)) b v:=by
 intro v
 induction v using Nat.strongRecOn with
 |ind v ih=>
  by_cases h:b≤v
  ·rw[dD _ h h2,dD _ h h2,List.map_append,ih _ (Nat.div_lt_self (by omega) (by omega))]
   rfl
  ·rw[ec _ (by omega),ec _ (by omega)]
   rfl
theorem jX(f:Nat→UInt8){b:Nat}(h2:2≤b): ∀(n v:Nat),v<2 ^ n→1≤n→(eO f b v).length≤n
 |0,v,_,h=>by omega
 |n+1,v,h,_=>by
  by_cases hb:b≤v
  ·rw[dD _ hb h2,List.length_append,List.length_singleton]
   have hn:1≤n:=by
    rcases n with _|n
    ·simp at h;omega
    ·omega
   have h3:v/b<2 ^ n:=by
    have:v/b≤v/2:=Nat.div_le_div_left h2 (by omega)
    have:v/2<2 ^ n:=by rw[Nat.pow_succ]at h;omega
    omega
   have:=jX f h2 n (v/b) h3 hn
   omega
  ·rw[ec _ (by omega)];simp
def C6:List UInt8:=[48,49,50,51,52,53,54,55,56,57,97,98,99,100,101,102,103,104,105,106,107,108,109,110,111,112,113,114,115,116,117,118,119,120,121,122]
def iL(k:Nat):UInt8:=C6.getD k 0
def eJ(s:List UInt8):List (List AV):=List.replicate (65-s.length) [.int .u8 0]++dh s
theorem dG{s:List UInt8}(h:s.length≤65):(eJ s).length=65:=by simp[eJ,dh];omega
theorem eh{s:List UInt8}{i:Nat}{c:UInt8}{n:Nat}(h:s.length<65)(hi:i=64-s.length)(hc:n=c.toNat):be (eJ s) i 0 [.int .u8 0] [.int .u8 (n:Int)]=eJ (c::s):=by
 subst hi hc
 have hr:dm (eJ s) (64-s.length) [.int .u8 0]=[.int .u8 0]:=by
  simp[dm,eJ,List.getElem?_append,show 64-s.length<65-s.length by omega,List.getElem?_replicate]
 rw[be,hr]
 have e1:setCells [.int .u8 0] 0 [.int .u8 (c.toNat:Int)]=[.int .u8 (c.toNat:Int)]:=by simp[setCells]
 rw[e1]
 apply List.ext_getElem?
 intro j
 simp only[eJ,dh,List.length_cons,List.getElem?_set,List.getElem?_append,List.length_append,List.length_replicate,List.length_map,List.getElem?_replicate,List.getElem?_map]
 by_cases h1:64-s.length=j
 ·subst h1
  have e2:64-s.length-(65-(s.length+1))=0:=by omega
  have e3: ¬64-s.length<65-(s.length+1):=by omega
  simp[e2,e3]
  omega
 ·by_cases h2:j<64-s.length
  ·simp[h1,h2,show j<65-s.length by omega]
  ·have e2:j-(64-s.length)=(j-(65-s.length))+1:=by omega
   simp[h1,h2,show ¬j<65-s.length by omega,e2]
theorem lp{s:List UInt8}{i n:Nat}(h:s.length≤65)(hi:i=65-s.length)(hn:n=s.length):cD (am (eJ s) i n)=some s:=by
 subst hi hn
 have:am (eJ s) (65-s.length) s.length=dh s:=by
  rw[am,eJ,List.drop_append_of_le_length (by simp)]
  simp[dh,List.take_of_length_le]
 rw[this]
 clear this h
 induction s with
 |nil=>rfl
 |cons c s ih=>
  show(cD (dh s)).map _=_
  rw[ih]
  simp
theorem GL{b u:Nat}{k:Nat}(hb:b=2 ^ k)(hk:k≤4)(hu:u<18446744073709551616):(IntKind.u64.wrap (((BitVec.ofInt IntKind.u64.bits (u:Int)&&&BitVec.ofInt IntKind.u64.bits (IntKind.u64.wrap (IntKind.u64.wrap (b:Int)-1))).toNat:Nat):Int)).toNat=u%b:=by
 have e1:IntKind.u64.wrap (IntKind.u64.wrap (b:Int)-1)=((2 ^ k-1:Nat):Int):=by
  subst hb
  have:k=0∨k=1∨k=2∨k=3∨k=4:=by omega
  rcases this with rfl|rfl|rfl|rfl|rfl<;>decide
 rw[e1]
 have e2:(BitVec.ofInt IntKind.u64.bits (u:Int)).toNat=u:=by
  rw[BitVec.toNat_ofInt]
  show((u:Int)%((2 ^ 64:Nat):Int)).toNat=u
  omega
 have hk2:2 ^ k-1<2 ^ 64:=by
  have:k=0∨k=1∨k=2∨k=3∨k=4:=by omega
  rcases this with rfl|rfl|rfl|rfl|rfl<;>decide
 have e3:(BitVec.ofInt IntKind.u64.bits ((2 ^ k-1:Nat):Int)).toNat=2 ^ k-1:=by
  rw[BitVec.toNat_ofInt]
  show(((2 ^ k-1:Nat):Int)%((2 ^ 64:Nat):Int)).toNat=2 ^ k-1
  generalize 2 ^ k-1=q at hk2⊢
  omega
 rw[BitVec.toNat_and,e2,e3,Nat.and_two_pow_sub_one_eq_mod,←hb]
 have hlt:u%b≤u:=Nat.mod_le _ _
 rw[jc (by simp[dw];omega)]
 rfl
theorem Hm{b u k:Nat}(hb:b=2 ^ k)(hk:k≤4):(u:Int).fdiv (2 ^ (min (IntKind.u64.wrap (k:Int)).toNat IntKind.u64.bits))=((u/b:Nat):Int):=by
 have:k=0∨k=1∨k=2∨k=3∨k=4:=by omega
 subst hb
 rcases this with rfl|rfl|rfl|rfl|rfl<;>
 ·simp only[show(min (IntKind.u64.wrap ((0:Nat):Int)).toNat IntKind.u64.bits)=0 from by decide,show(min (IntKind.u64.wrap ((1:Nat):Int)).toNat IntKind.u64.bits)=1 from by decide,show(min (IntKind.u64.wrap ((2:Nat):Int)).toNat IntKind.u64.bits)=2 from by decide,show(min (IntKind.u64.wrap ((3:Nat):Int)).toNat IntKind.u64.bits)=3 from by decide,show(min (IntKind.u64.wrap ((4:Nat):Int)).toNat IntKind.u64.bits)=4 from by decide]
  rw[Int.fdiv_eq_ediv_of_nonneg _ (by decide)]
  norm_cast
theorem hU{n:Int}(h1:0≤n)(h2:n<18446744073709551616):IntKind.u64.wrap n=n:=jc (by simp[dw];omega)
theorem uY{v:Nat}(h1:1≤v)(h2:v<18446744073709551616):IntKind.u64.wrap (0-IntKind.u64.wrap (-(v:Int)))=v:=by
 have e: ∀n:Int,IntKind.u64.wrap n=n%18446744073709551616:=fun n=>rfl
 rw[e,e]
 omega
theorem sr{b u v n:Nat}(hb:2≤b)(h:u*2 ^ n≤v):u/b*2 ^ (n+1)≤v:=by
 have e1:u/b≤u/2:=Nat.div_le_div_left hb (by omega)
 have e2:u/2*2≤u:=Nat.div_mul_le_self u 2
 have e3:u/b*2 ^ (n+1)≤u/2*2 ^ (n+1):=Nat.mul_le_mul_right _ e1
 have e4:u/2*2 ^ (n+1)=u/2*2*2 ^ n:=by rw[Nat.pow_succ,Nat.mul_assoc,Nat.mul_comm 2]
 have e5:u/2*2*2 ^ n≤u*2 ^ n:=Nat.mul_le_mul_right _ e2
 omega
theorem tw{u v n:Nat}(hu:1≤u)(h:u*2 ^ n≤v)(hv:v<2 ^ 33)(h3:n≤33):n+1≤33:=by
 by_cases hq:n+1≤33
 ·exact hq
 ·have e3:n=33:=by omega
  rw[e3]at h
  have:1*2 ^ 33≤u*2 ^ 33:=Nat.mul_le_mul_right _ hu
  omega
theorem EW{u b:Nat}(h1:1≤b)(h2:b<18446744073709551616)(hu:u<18446744073709551616):IntKind.u64.wrap ((u:Int).tdiv (IntKind.u64.wrap (b:Int)))=((u/b:Nat):Int):=by
 rw[hU (n:=(b:Int)) (by omega) (by omega),Int.tdiv_eq_ediv_of_nonneg (by omega)]
 have e:(u:Int)/(b:Int)=((u/b:Nat):Int):=by norm_cast
 have hq:=Nat.div_le_self u b
 rw[e]
 generalize u/b=q at hq
 exact hU (by omega) (by omega)
theorem H0{u b:Nat}(h1:1≤b)(h2:b<18446744073709551616)(hu:u<18446744073709551616):(IntKind.u64.wrap ((u:Int)-IntKind.u64.wrap (IntKind.u64.wrap ((u:Int).tdiv (IntKind.u64.wrap (b:Int)))*IntKind.u64.wrap (b:Int)))).toNat=u%b:=by
 rw[EW h1 h2 hu,hU (n:=(b:Int)) (by omega) (by omega)]
 have e1:((u/b:Nat):Int)*(b:Int)=((u/b*b:Nat):Int):=by norm_cast
 have e2:u/b*b≤u:=Nat.div_mul_le_self u b
 have e3:u%b=u-u/b*b:=by have:=Nat.div_add_mod u b;rw[Nat.mul_comm]at this;omega
 rw[e1,e3]
 generalize u/b*b=q at e2
 rw[hU (n:=(q:Int)) (by omega) (by omega),hU (by omega) (by omega)]
 omega
theorem A8(n:Int):0≤IntKind.u64.wrap n:=by
 have e:IntKind.u64.wrap n=n%18446744073709551616:=rfl
 rw[e]
 omega
end F1

/- strconv's formatBits, by walk: contracts. -/
open Go Go.Abs Go.Proofs V1 F1
namespace F2
def Dr(b:Nat):Bool:=b==2||b==4||b==8||b==16
theorem c236(b:Nat)(h:2≤b∧b≤16):Con Tryz.prog 236 [.int .i64 b] (aa [.int .i64 b]) (.bool (Dr b)):=by
 have:b=2∨b=3∨b=4∨b=5∨b=6∨b=7∨b=8∨b=9∨b=10∨b=11∨b=12∨b=13∨b=14∨b=15∨b=16:=by omega
 refine rn 8 Tryz.func236 [.tmp 2] (g:= ?_)
 conv=>whnf
 refine aP ?_
 rotate_left
 refine aA (congrArg AV.bool ?_)
 rcases this with rfl|rfl|rfl|rfl|rfl|rfl|rfl|rfl|rfl|rfl|rfl|rfl|rfl|rfl|rfl<;>decide
theorem G4(k:Nat)(b:Nat)(hb:b=2 ^ k)(hk:1≤k∧k≤4)(kt:Con Tryz.prog 237 [.int .u64 (IntKind.u64.wrap (b:Int))] (aa [.int .u64 (IntKind.u64.wrap (b:Int))]) (.int .i64 k))(v:Nat)(hv:v<2 ^ 33):
  Con Tryz.prog 222 [.emp,.int .u64 v,.int .i64 b,.bool false,.bool false] (aa [.emp,.int .u64 v,.int .i64 b,.bool false,.bool false]) (.tup [.emp,.str (eO iL b v)]):=by
 have hb2:2≤b∧b≤16∧b≠10:=by
  subst hb
  have:k=1∨k=2∨k=3∨k=4:=by omega
  rcases this with rfl|rfl|rfl|rfl<;>decide
 have hp:Dr b=true:=by
  subst hb
  have:k=1∨k=2∨k=3∨k=4:=by omega
  rcases this with rfl|rfl|rfl|rfl<;>decide
 have ki:=c236 b ⟨hb2.1,hb2.2.1⟩
 rw[hp]at ki
 have g0:decide ((b:Int)<2)=false:=decide_eq_false (by omega)
 have g1:((b:Int)==10)=false:=by simp;omega
 have g2:decide ((b:Int)>36)=false:=decide_eq_false (by omega)
 have wb:IntKind.u64.wrap (b:Int)=b:=hU (by omega) (by omega)
 refine rn 102 Tryz.func222 [.tmp 10,.tmp 11] (g:= ?_)
 conv=>whnf
 iterate 15 ((first|apply ac rfl|refine aG (fun hf=> ?_)|apply bH rfl|apply aK rfl|refine aK (by solve|simp only[g0,g1,g2,if_true,if_false,Bool.false_eq_true,reduceIte]|fail) ?_|apply aH|refine ah (ki ..) ?_|refine ah (kt ..) ?_);conv=>whnf)
 rotate_left
 refine LoopG.rounds (α:=Nat × List UInt8) bI dN [1,3,4,10,11,12,13,14,15,16] [(12,12)] (fun a=>[(1,.int .u64 a.1),(3,.bool false),(4,.bool false),(10,.emp),(11,.str []),(12,.ptr 12 0 0),(13,.int .i64 (65-(a.2.length:Int))),(14,.int .u64 (IntKind.u64.wrap (k:Int))),(15,.int .u64 (IntKind.u64.wrap (b:Int))),(16,.int .u64 (IntKind.u64.wrap (IntKind.u64.wrap (b:Int)-1)))]) (fun a=>[(12,.live ⟨true,0,[.int .u8 0],eJ a.2⟩)]) (fun a=>eO iL b a.1++a.2=eO iL b v∧a.1*2 ^ a.2.length≤v∧a.2.length≤33) (fun a=>a.1) ?_ ?_
 ·conv=>whnf
  exact aE (v,[]) ⟨by simp,by simp,by simp⟩ rfl rfl
 ·rintro ⟨u,s⟩ ⟨h1,h2,h3⟩- -
  simp only at h1 h2 h3⊢
  have la:=dG (s:=s) (by omega)
  have w65:IntKind.i64.wrap (65-(s.length:Int)-1)=64-(s.length:Int):=by rw[ai (by omega) (by omega)];omega
  have h2n:1≤2 ^ s.length:=Nat.one_le_two_pow
  have hu64:u<18446744073709551616:=by
   have:=Nat.le_mul_of_pos_right u h2n
   omega
  have pi:0+(IntKind.i64.wrap (65-(s.length:Int)-1)).toNat=64-s.length:=by rw[w65];omega
  by_cases hu:b≤u
  ·have gu:decide ((u:Int)≥IntKind.u64.wrap (b:Int))=true:=by rw[wb];exact decide_eq_true (by omega)
   have hm:u%b<b:=Nat.mod_lt _ (by omega)
   have bd:=GL (u:=u) hb hk.2 hu64
   conv=>whnf
   iterate 10 ((first|refine ac (by solve|simp only[cR,dG,C6]|fail) ?_|apply ac rfl|refine ac (by refine aO rfl ?_;simp only[cR];omega) ?_|refine ac (by simp only[Bool.and_eq_true,decide_eq_true_eq,List.length_map];omega) ?_|refine ac (by((simp;omega))) ?_|refine ac (by((first|(rw[bd];exact decide_eq_true (show u%b<36 by omega))|(rw[w65];exact decide_eq_true (by omega))|(rw[la];rfl)|(rw[w65,la];exact decide_eq_true (by omega))|(refine aO rfl ?_;rw[w65,la];exact decide_eq_true (by omega))))) ?_|apply ag rfl|refine bH (by assumption) ?_);conv=>whnf)
   rotate_left
   refine aE (u/b,iL (u%b)::s) ⟨⟨?_,?_,?_⟩,Nat.div_lt_self (by omega) (by omega)⟩ (by rw[Hm hb hk.2,w65,show 64-(s.length:Int)=65-((s.length+1:Nat):Int) by omega];rfl) ?_
   ·rw[←h1,dD _ hu (by omega)];simp
   ·simp only[List.length_cons]
    exact sr hb2.1 h2
   ·simp only[List.length_cons]
    exact tw (by omega) h2 hv h3
   ·rw[eh (c:=iL (u%b)) (by omega) pi]
    rw[bd];rfl
  ·have gu:decide ((u:Int)≥IntKind.u64.wrap (b:Int))=false:=by rw[wb];exact decide_eq_false (by omega)
   conv=>whnf
   iterate 19 ((first|refine ac (by solve|simp only[cR,dG,C6]|fail) ?_|apply ac rfl|refine ac (by refine aO rfl ?_;simp only[cR];omega) ?_|refine ac (by simp only[Bool.and_eq_true,decide_eq_true_eq,List.length_map];omega) ?_|refine ac (by((simp;omega))) ?_|refine ac (by((first|(rw[w65];exact decide_eq_true (by omega))|(rw[la];rfl)|(rw[w65,la];exact decide_eq_true (by omega))|(refine aO rfl ?_;rw[w65,la];exact decide_eq_true (by omega))|(refine aO rfl ?_;rw[aZ,la];rfl)|(rw[w65,aZ,la];exact decide_eq_true (by omega))|(rw[w65,aZ,la];simp;omega)))) ?_|apply ag rfl|apply aK rfl|refine aK (by assumption) ?_);conv=>whnf)
   rotate_left
   refine lZ (b:=iL u::s) ?_ ?_
   ·show cD (am (be (eJ s) _ 0 _ _) _ ((be (eJ s) _ 0 _ _).length-_))=_
    rw[aZ,la,w65,eh (c:=iL u) (by omega) (by omega)]
    ·exact lp (s:=iL u::s) (by simp;omega) (by simp) (by simp;omega)
    ·rfl
   ·conv=>whnf
    iterate 2 (apply ac rfl;conv=>whnf)
    rotate_left
    refine aA ?_
    rw[←h1,ec _ (by omega)]
    rfl
theorem JS(k:Nat)(b:Nat)(hb:b=2 ^ k)(hk:1≤k∧k≤4)(kt:Con Tryz.prog 237 [.int .u64 (IntKind.u64.wrap (b:Int))] (aa [.int .u64 (IntKind.u64.wrap (b:Int))]) (.int .i64 k))(v:Nat)(hv:v<2 ^ 33)(hv1:1≤v):
  Con Tryz.prog 222 [.emp,.int .u64 (IntKind.u64.wrap (-(v:Int))),.int .i64 b,.bool true,.bool false] (aa [.emp,.int .u64 (IntKind.u64.wrap (-(v:Int))),.int .i64 b,.bool true,.bool false]) (.tup [.emp,.str (45::eO iL b v)]):=by
 have hb2:2≤b∧b≤16∧b≠10:=by
  subst hb
  have:k=1∨k=2∨k=3∨k=4:=by omega
  rcases this with rfl|rfl|rfl|rfl<;>decide
 have hp:Dr b=true:=by
  subst hb
  have:k=1∨k=2∨k=3∨k=4:=by omega
  rcases this with rfl|rfl|rfl|rfl<;>decide
 have ki:=c236 b ⟨hb2.1,hb2.2.1⟩
 rw[hp]at ki
 have g0:decide ((b:Int)<2)=false:=decide_eq_false (by omega)
 have g1:((b:Int)==10)=false:=by simp;omega
 have g2:decide ((b:Int)>36)=false:=decide_eq_false (by omega)
 have wb:IntKind.u64.wrap (b:Int)=b:=hU (by omega) (by omega)
 have wn:IntKind.u64.wrap (0-IntKind.u64.wrap (-(v:Int)))=v:=uY hv1 (by omega)
 refine rn 102 Tryz.func222 [.tmp 10,.tmp 11] (g:= ?_)
 conv=>whnf
 iterate 15 ((first|apply ac rfl|refine aG (fun hf=> ?_)|apply bH rfl|apply aK rfl|refine aK (by solve|simp only[g0,g1,g2,if_true,if_false,Bool.false_eq_true,reduceIte]|fail) ?_|apply aH|refine ah (ki ..) ?_|refine ah (kt ..) ?_);conv=>whnf)
 rotate_left
 refine LoopG.rounds (α:=Nat × List UInt8) bI dN [1,3,4,10,11,12,13,14,15,16] [(12,12)] (fun a=>[(1,.int .u64 a.1),(3,.bool true),(4,.bool false),(10,.emp),(11,.str []),(12,.ptr 12 0 0),(13,.int .i64 (65-(a.2.length:Int))),(14,.int .u64 (IntKind.u64.wrap (k:Int))),(15,.int .u64 (IntKind.u64.wrap (b:Int))),(16,.int .u64 (IntKind.u64.wrap (IntKind.u64.wrap (b:Int)-1)))]) (fun a=>[(12,.live ⟨true,0,[.int .u8 0],eJ a.2⟩)]) (fun a=>eO iL b a.1++a.2=eO iL b v∧a.1*2 ^ a.2.length≤v∧a.2.length≤33) (fun a=>a.1) ?_ ?_
 ·conv=>whnf
  exact aE (v,[]) ⟨by simp,by simp,by simp⟩ (by rw[wn];rfl) rfl
 ·rintro ⟨u,s⟩ ⟨h1,h2,h3⟩- -
  simp only at h1 h2 h3⊢
  have la:=dG (s:=s) (by omega)
  have w65:IntKind.i64.wrap (65-(s.length:Int)-1)=64-(s.length:Int):=by rw[ai (by omega) (by omega)];omega
  have w64:IntKind.i64.wrap (IntKind.i64.wrap (65-(s.length:Int)-1)-1)=63-(s.length:Int):=by rw[w65,ai (by omega) (by omega)];omega
  have h2n:1≤2 ^ s.length:=Nat.one_le_two_pow
  have hu64:u<18446744073709551616:=by
   have:=Nat.le_mul_of_pos_right u h2n
   omega
  have pi:0+(IntKind.i64.wrap (65-(s.length:Int)-1)).toNat=64-s.length:=by rw[w65];omega
  by_cases hu:b≤u
  ·have gu:decide ((u:Int)≥IntKind.u64.wrap (b:Int))=true:=by rw[wb];exact decide_eq_true (by omega)
   have hm:u%b<b:=Nat.mod_lt _ (by omega)
   have bd:=GL (u:=u) hb hk.2 hu64
   conv=>whnf
   iterate 10 ((first|refine ac (by solve|simp only[cR,dG,C6]|fail) ?_|apply ac rfl|refine ac (by refine aO rfl ?_;simp only[cR];omega) ?_|refine ac (by simp only[Bool.and_eq_true,decide_eq_true_eq,List.length_map];omega) ?_|refine ac (by((simp;omega))) ?_|refine ac (by((first|(rw[bd];exact decide_eq_true (show u%b<36 by omega))|(rw[w65];exact decide_eq_true (by omega))|(rw[la];rfl)|(rw[w65,la];exact decide_eq_true (by omega))|(refine aO rfl ?_;rw[w65,la];exact decide_eq_true (by omega))))) ?_|apply ag rfl|refine bH (by assumption) ?_);conv=>whnf)
   rotate_left
   refine aE (u/b,iL (u%b)::s) ⟨⟨?_,?_,?_⟩,Nat.div_lt_self (by omega) (by omega)⟩ (by rw[Hm hb hk.2,w65,show 64-(s.length:Int)=65-((s.length+1:Nat):Int) by omega];rfl) ?_
   ·rw[←h1,dD _ hu (by omega)];simp
   ·simp only[List.length_cons]
    exact sr hb2.1 h2
   ·simp only[List.length_cons]
    exact tw (by omega) h2 hv h3
   ·rw[eh (c:=iL (u%b)) (by omega) pi]
    rw[bd];rfl
  ·have gu:decide ((u:Int)≥IntKind.u64.wrap (b:Int))=false:=by rw[wb];exact decide_eq_false (by omega)
   conv=>whnf
   iterate 25 ((first|refine ac (by solve|simp only[cR,dG,C6]|fail) ?_|apply ac rfl|refine ac (by refine aO rfl ?_;simp only[cR];omega) ?_|refine ac (by simp only[Bool.and_eq_true,decide_eq_true_eq,List.length_map];omega) ?_|refine ac (by((simp;omega))) ?_|refine ac (by((first|(rw[w64];exact decide_eq_true (by omega))|(refine aO rfl ?_;rw[w64,aZ,la];exact decide_eq_true (by omega))|(refine aO rfl ?_;rw[aZ,aZ,la];rfl)|(rw[w64,aZ,aZ,la];exact decide_eq_true (by omega))|(rw[w64,aZ,aZ,la];simp;omega)|(rw[w65];exact decide_eq_true (by omega))|(rw[la];rfl)|(rw[w65,la];exact decide_eq_true (by omega))|(refine aO rfl ?_;rw[w65,la];exact decide_eq_true (by omega))|(refine aO rfl ?_;rw[aZ,la];rfl)|(rw[w65,aZ,la];exact decide_eq_true (by omega))|(rw[w65,aZ,la];simp;omega)))) ?_|apply ag rfl|apply bH rfl|apply aK rfl|refine aK (by assumption) ?_);conv=>whnf)
   rotate_left
   refine lZ (b:=45::iL u::s) ?_ ?_
   ·show cD (am (be (be (eJ s) _ 0 _ _) _ 0 _ _) _ ((be (be (eJ s) _ 0 _ _) _ 0 _ _).length-_))=_
    rw[aZ,aZ,la,w64,w65,eh (c:=iL u) (by omega) (by omega)]
    ·rw[show(AV.int .u8 45)=AV.int .u8 (((45:UInt8).toNat:Nat):Int)from rfl,eh (s:=iL u::s) (c:=45) (by simp;omega) (by simp) rfl]
     exact lp (s:=45::iL u::s) (by simp;omega) (by simp) (by simp;omega)
    ·rfl
   ·conv=>whnf
    iterate 2 (apply ac rfl;conv=>whnf)
    rotate_left
    refine aA ?_
    rw[←h1,ec _ (by omega)]
    rfl
theorem Lg(b:Nat)(hb2:2≤b∧b≤16∧b≠10)(hp:Dr b=false)(v:Nat)(hv:v<2 ^ 33):
  Con Tryz.prog 222 [.emp,.int .u64 v,.int .i64 b,.bool false,.bool false] (aa [.emp,.int .u64 v,.int .i64 b,.bool false,.bool false]) (.tup [.emp,.str (eO iL b v)]):=by
 have ki:=c236 b ⟨hb2.1,hb2.2.1⟩
 rw[hp]at ki
 have g0:decide ((b:Int)<2)=false:=decide_eq_false (by omega)
 have g1:((b:Int)==10)=false:=by simp;omega
 have g2:decide ((b:Int)>36)=false:=decide_eq_false (by omega)
 have wb:IntKind.u64.wrap (b:Int)=b:=hU (by omega) (by omega)
 refine rn 102 Tryz.func222 [.tmp 10,.tmp 11] (g:= ?_)
 conv=>whnf
 iterate 11 ((first|apply ac rfl|apply aK rfl|refine aK (by solve|simp only[g0,g1,g2,if_true,if_false,Bool.false_eq_true,reduceIte]|fail) ?_|apply aH|refine ah (ki ..) ?_);conv=>whnf)
 rotate_left
 refine LoopG.rounds (α:=Nat × List UInt8) bI dN [1,3,4,10,11,12,13,17] [(12,12)] (fun a=>[(1,.int .u64 a.1),(3,.bool false),(4,.bool false),(10,.emp),(11,.str []),(12,.ptr 12 0 0),(13,.int .i64 (65-(a.2.length:Int))),(17,.int .u64 (IntKind.u64.wrap (b:Int)))]) (fun a=>[(12,.live ⟨true,0,[.int .u8 0],eJ a.2⟩)]) (fun a=>eO iL b a.1++a.2=eO iL b v∧a.1*2 ^ a.2.length≤v∧a.2.length≤33) (fun a=>a.1) ?_ ?_
 ·conv=>whnf
  exact aE (v,[]) ⟨by simp,by simp,by simp⟩ rfl rfl
 ·rintro ⟨u,s⟩ ⟨h1,h2,h3⟩- -
  simp only at h1 h2 h3⊢
  have la:=dG (s:=s) (by omega)
  have w65:IntKind.i64.wrap (65-(s.length:Int)-1)=64-(s.length:Int):=by rw[ai (by omega) (by omega)];omega
  have h2n:1≤2 ^ s.length:=Nat.one_le_two_pow
  have hu64:u<18446744073709551616:=by
   have:=Nat.le_mul_of_pos_right u h2n
   omega
  have pi:0+(IntKind.i64.wrap (65-(s.length:Int)-1)).toNat=64-s.length:=by rw[w65];omega
  by_cases hu:b≤u
  ·have gu:decide ((u:Int)≥IntKind.u64.wrap (b:Int))=true:=by rw[wb];exact decide_eq_true (by omega)
   have hm:u%b<b:=Nat.mod_lt _ (by omega)
   have bq:=EW (u:=u) (b:=b) (by omega) (by omega) hu64
   have bd:=H0 (u:=u) (b:=b) (by omega) (by omega) hu64
   have b0:(IntKind.u64.wrap (b:Int) != 0)=true:=by rw[wb];simp;omega
   conv=>whnf
   iterate 10 ((first|refine ac (by solve|simp only[cR,dG,C6]|fail) ?_|refine ac (by refine aO rfl ?_;simp only[cR];omega) ?_|refine ac (by simp only[Bool.and_eq_true,decide_eq_true_eq,List.length_map];omega) ?_|refine ac (by((simp;omega))) ?_|refine ac (by((first|exact b0|exact decide_eq_true (A8 _)|(rw[bd];exact decide_eq_true (show u%b<36 by omega))|(rw[w65];exact decide_eq_true (by omega))|(rw[la];rfl)|(rw[w65,la];exact decide_eq_true (by omega))|(refine aO rfl ?_;rw[w65,la];exact decide_eq_true (by omega))))) ?_|apply ag rfl|refine bH (by assumption) ?_);conv=>whnf)
   rotate_left
   refine aE (u/b,iL (u%b)::s) ⟨⟨?_,?_,?_⟩,Nat.div_lt_self (by omega) (by omega)⟩ (by rw[bq,w65,show 64-(s.length:Int)=65-((s.length+1:Nat):Int) by omega];rfl) ?_
   ·rw[←h1,dD _ hu (by omega)];simp
   ·simp only[List.length_cons]
    exact sr hb2.1 h2
   ·simp only[List.length_cons]
    exact tw (by omega) h2 hv h3
   ·rw[eh (c:=iL (u%b)) (by omega) pi]
    rw[bd];rfl
  ·have gu:decide ((u:Int)≥IntKind.u64.wrap (b:Int))=false:=by rw[wb];exact decide_eq_false (by omega)
   conv=>whnf
   iterate 19 ((first|refine ac (by solve|simp only[cR,dG,C6]|fail) ?_|apply ac rfl|refine ac (by refine aO rfl ?_;simp only[cR];omega) ?_|refine ac (by simp only[Bool.and_eq_true,decide_eq_true_eq,List.length_map];omega) ?_|refine ac (by((simp;omega))) ?_|refine ac (by((first|(rw[w65];exact decide_eq_true (by omega))|(rw[la];rfl)|(rw[w65,la];exact decide_eq_true (by omega))|(refine aO rfl ?_;rw[w65,la];exact decide_eq_true (by omega))|(refine aO rfl ?_;rw[aZ,la];rfl)|(rw[w65,aZ,la];exact decide_eq_true (by omega))|(rw[w65,aZ,la];simp;omega)))) ?_|apply ag rfl|apply aK rfl|refine aK (by assumption) ?_);conv=>whnf)
   rotate_left
   refine lZ (b:=iL u::s) ?_ ?_
   ·show cD (am (be (eJ s) _ 0 _ _) _ ((be (eJ s) _ 0 _ _).length-_))=_
    rw[aZ,la,w65,eh (c:=iL u) (by omega) (by omega)]
    ·exact lp (s:=iL u::s) (by simp;omega) (by simp) (by simp;omega)
    ·rfl
   ·conv=>whnf
    iterate 2 (apply ac rfl;conv=>whnf)
    rotate_left
    refine aA ?_
    rw[←h1,ec _ (by omega)]
    rfl
theorem Kg(b:Nat)(hb2:2≤b∧b≤16∧b≠10)(hp:Dr b=false)(v:Nat)(hv:v<2 ^ 33)(hv1:1≤v):
  Con Tryz.prog 222 [.emp,.int .u64 (IntKind.u64.wrap (-(v:Int))),.int .i64 b,.bool true,.bool false] (aa [.emp,.int .u64 (IntKind.u64.wrap (-(v:Int))),.int .i64 b,.bool true,.bool false]) (.tup [.emp,.str (45::eO iL b v)]):=by
 have ki:=c236 b ⟨hb2.1,hb2.2.1⟩
 rw[hp]at ki
 have g0:decide ((b:Int)<2)=false:=decide_eq_false (by omega)
 have g1:((b:Int)==10)=false:=by simp;omega
 have g2:decide ((b:Int)>36)=false:=decide_eq_false (by omega)
 have wb:IntKind.u64.wrap (b:Int)=b:=hU (by omega) (by omega)
 have wn:IntKind.u64.wrap (0-IntKind.u64.wrap (-(v:Int)))=v:=uY hv1 (by omega)
 refine rn 102 Tryz.func222 [.tmp 10,.tmp 11] (g:= ?_)
 conv=>whnf
 iterate 11 ((first|apply ac rfl|apply bH rfl|apply aK rfl|refine aK (by solve|simp only[g0,g1,g2,if_true,if_false,Bool.false_eq_true,reduceIte]|fail) ?_|apply aH|refine ah (ki ..) ?_);conv=>whnf)
 rotate_left
 refine LoopG.rounds (α:=Nat × List UInt8) bI dN [1,3,4,10,11,12,13,17] [(12,12)] (fun a=>[(1,.int .u64 a.1),(3,.bool true),(4,.bool false),(10,.emp),(11,.str []),(12,.ptr 12 0 0),(13,.int .i64 (65-(a.2.length:Int))),(17,.int .u64 (IntKind.u64.wrap (b:Int)))]) (fun a=>[(12,.live ⟨true,0,[.int .u8 0],eJ a.2⟩)]) (fun a=>eO iL b a.1++a.2=eO iL b v∧a.1*2 ^ a.2.length≤v∧a.2.length≤33) (fun a=>a.1) ?_ ?_
 ·conv=>whnf
  exact aE (v,[]) ⟨by simp,by simp,by simp⟩ (by rw[wn];rfl) rfl
 ·rintro ⟨u,s⟩ ⟨h1,h2,h3⟩- -
  simp only at h1 h2 h3⊢
  have la:=dG (s:=s) (by omega)
  have w65:IntKind.i64.wrap (65-(s.length:Int)-1)=64-(s.length:Int):=by rw[ai (by omega) (by omega)];omega
  have w64:IntKind.i64.wrap (IntKind.i64.wrap (65-(s.length:Int)-1)-1)=63-(s.length:Int):=by rw[w65,ai (by omega) (by omega)];omega
  have h2n:1≤2 ^ s.length:=Nat.one_le_two_pow
  have hu64:u<18446744073709551616:=by
   have:=Nat.le_mul_of_pos_right u h2n
   omega
  have pi:0+(IntKind.i64.wrap (65-(s.length:Int)-1)).toNat=64-s.length:=by rw[w65];omega
  by_cases hu:b≤u
  ·have gu:decide ((u:Int)≥IntKind.u64.wrap (b:Int))=true:=by rw[wb];exact decide_eq_true (by omega)
   have hm:u%b<b:=Nat.mod_lt _ (by omega)
   have bq:=EW (u:=u) (b:=b) (by omega) (by omega) hu64
   have bd:=H0 (u:=u) (b:=b) (by omega) (by omega) hu64
   have b0:(IntKind.u64.wrap (b:Int) != 0)=true:=by rw[wb];simp;omega
   conv=>whnf
   iterate 10 ((first|refine ac (by solve|simp only[cR,dG,C6]|fail) ?_|refine ac (by refine aO rfl ?_;simp only[cR];omega) ?_|refine ac (by simp only[Bool.and_eq_true,decide_eq_true_eq,List.length_map];omega) ?_|refine ac (by((simp;omega))) ?_|refine ac (by((first|exact b0|exact decide_eq_true (A8 _)|(rw[bd];exact decide_eq_true (show u%b<36 by omega))|(rw[w65];exact decide_eq_true (by omega))|(rw[la];rfl)|(rw[w65,la];exact decide_eq_true (by omega))|(refine aO rfl ?_;rw[w65,la];exact decide_eq_true (by omega))))) ?_|apply ag rfl|refine bH (by assumption) ?_);conv=>whnf)
   rotate_left
   refine aE (u/b,iL (u%b)::s) ⟨⟨?_,?_,?_⟩,Nat.div_lt_self (by omega) (by omega)⟩ (by rw[bq,w65,show 64-(s.length:Int)=65-((s.length+1:Nat):Int) by omega];rfl) ?_
   ·rw[←h1,dD _ hu (by omega)];simp
   ·simp only[List.length_cons]
    exact sr hb2.1 h2
   ·simp only[List.length_cons]
    exact tw (by omega) h2 hv h3
   ·rw[eh (c:=iL (u%b)) (by omega) pi]
    rw[bd];rfl
  ·have gu:decide ((u:Int)≥IntKind.u64.wrap (b:Int))=false:=by rw[wb];exact decide_eq_false (by omega)
   conv=>whnf
   iterate 25 ((first|refine ac (by solve|simp only[cR,dG,C6]|fail) ?_|apply ac rfl|refine ac (by refine aO rfl ?_;simp only[cR];omega) ?_|refine ac (by simp only[Bool.and_eq_true,decide_eq_true_eq,List.length_map];omega) ?_|refine ac (by((simp;omega))) ?_|refine ac (by((first|(rw[w64];exact decide_eq_true (by omega))|(refine aO rfl ?_;rw[w64,aZ,la];exact decide_eq_true (by omega))|(refine aO rfl ?_;rw[aZ,aZ,la];rfl)|(rw[w64,aZ,aZ,la];exact decide_eq_true (by omega))|(rw[w64,aZ,aZ,la];simp;omega)|(rw[w65];exact decide_eq_true (by omega))|(rw[la];rfl)|(rw[w65,la];exact decide_eq_true (by omega))|(refine aO rfl ?_;rw[w65,la];exact decide_eq_true (by omega))|(refine aO rfl ?_;rw[aZ,la];rfl)|(rw[w65,aZ,la];exact decide_eq_true (by omega))|(rw[w65,aZ,la];simp;omega)))) ?_|apply ag rfl|apply bH rfl|apply aK rfl|refine aK (by assumption) ?_);conv=>whnf)
   rotate_left
   refine lZ (b:=45::iL u::s) ?_ ?_
   ·show cD (am (be (be (eJ s) _ 0 _ _) _ 0 _ _) _ ((be (be (eJ s) _ 0 _ _) _ 0 _ _).length-_))=_
    rw[aZ,aZ,la,w64,w65,eh (c:=iL u) (by omega) (by omega)]
    ·rw[show(AV.int .u8 45)=AV.int .u8 (((45:UInt8).toNat:Nat):Int)from rfl,eh (s:=iL u::s) (c:=45) (by simp;omega) (by simp) rfl]
     exact lp (s:=45::iL u::s) (by simp;omega) (by simp) (by simp;omega)
    ·rfl
   ·conv=>whnf
    iterate 2 (apply ac rfl;conv=>whnf)
    rotate_left
    refine aA ?_
    rw[←h1,ec _ (by omega)]
    rfl
end F2

/- Numbers in text in bases 2 to 16: strconv.FormatInt, strings.ToUpper, cells in text; contracts. -/
open Go Go.Abs Go.Proofs Go.RowKit V1 F1 F2
def T1.lays27_ren:Go.Shelf.Ren:=⟨fun|27=>237|28=>245|29=>246|n=>n,fun|25=>182|3=>3|27=>181|22=>183|4=>4|53=>257|0=>0|5=>5|54=>258|n=>n,fun|0=>7|1=>8|n=>n⟩
theorem T1.lays27:Go.Proofs.Lays7.n27 Tryz.prog T1.lays27_ren where
 mixed:=by kernel_rfl
 f27:=Tryz.func237.trans (congrArg some (by kernel_rfl))
 f28:=Tryz.func245.trans (congrArg some (by kernel_rfl))
 f29:=Tryz.func246.trans (congrArg some (by kernel_rfl))
 t0:=Tryz.underlying0
 a0:=Tryz.isAgg0
 z0:=Tryz.sizeOf0
 v0:=Tryz.zeroValue0
 i0:=by kernel_rfl
 t3:=Tryz.underlying3
 a3:=Tryz.isAgg3
 z3:=Tryz.sizeOf3
 v3:=Tryz.zeroValue3
 i3:=by kernel_rfl
 t4:=Tryz.underlying4
 a4:=Tryz.isAgg4
 z4:=Tryz.sizeOf4
 v4:=Tryz.zeroValue4
 i4:=by kernel_rfl
 t5:=Tryz.underlying5
 a5:=Tryz.isAgg5
 z5:=Tryz.sizeOf5
 v5:=Tryz.zeroValue5
 i5:=by kernel_rfl
 t22:=Tryz.underlying183
 a22:=Tryz.isAgg183
 z22:=Tryz.sizeOf183
 v22:=Tryz.zeroValue183
 i22:=by kernel_rfl
 t25:=Tryz.underlying182
 a25:=Tryz.isAgg182
 z25:=Tryz.sizeOf182
 v25:=Tryz.zeroValue182
 i25:=by kernel_rfl
 t27:=Tryz.underlying181
 a27:=Tryz.isAgg181
 z27:=Tryz.sizeOf181
 v27:=Tryz.zeroValue181
 i27:=by kernel_rfl
 t53:=Tryz.underlying257
 a53:=Tryz.isAgg257
 z53:=Tryz.sizeOf257
 v53:=Tryz.zeroValue257
 i53:=by kernel_rfl
 t54:=Tryz.underlying258
 a54:=Tryz.isAgg258
 z54:=Tryz.sizeOf258
 g0:=by kernel_rfl
 g1:=by kernel_rfl
def T1.lays173_ren:Go.Shelf.Ren:=⟨fun|173=>196|246=>207|283=>219|284=>220|285=>221|286=>222|129=>234|317=>233|318=>235|319=>236|320=>237|337=>245|338=>246|n=>n,fun|2=>2|3=>3|9=>9|4=>4|171=>215|0=>0|53=>183|37=>139|5=>5|173=>218|212=>239|51=>181|20=>20|213=>240|46=>182|232=>257|233=>258|n=>n,fun|17=>3|18=>7|19=>8|n=>n⟩
theorem T1.lays173:Go.Proofs.LaysM.n173 Tryz.prog T1.lays173_ren where
 mixed:=by kernel_rfl
 f129:=Tryz.func234.trans (congrArg some (by kernel_rfl))
 f173:=Tryz.func196.trans (congrArg some (by kernel_rfl))
 f246:=Tryz.func207.trans (congrArg some (by kernel_rfl))
 f283:=Tryz.func219.trans (congrArg some (by kernel_rfl))
 f284:=Tryz.func220.trans (congrArg some (by kernel_rfl))
 f285:=Tryz.func221.trans (congrArg some (by kernel_rfl))
 f286:=Tryz.func222.trans (congrArg some (by kernel_rfl))
 f317:=Tryz.func233.trans (congrArg some (by kernel_rfl))
 f318:=Tryz.func235.trans (congrArg some (by kernel_rfl))
 f319:=Tryz.func236.trans (congrArg some (by kernel_rfl))
 f320:=Tryz.func237.trans (congrArg some (by kernel_rfl))
 f337:=Tryz.func245.trans (congrArg some (by kernel_rfl))
 f338:=Tryz.func246.trans (congrArg some (by kernel_rfl))
 t0:=Tryz.underlying0
 a0:=Tryz.isAgg0
 z0:=Tryz.sizeOf0
 v0:=Tryz.zeroValue0
 t2:=Tryz.underlying2
 a2:=Tryz.isAgg2
 z2:=Tryz.sizeOf2
 v2:=Tryz.zeroValue2
 t3:=Tryz.underlying3
 a3:=Tryz.isAgg3
 z3:=Tryz.sizeOf3
 v3:=Tryz.zeroValue3
 t4:=Tryz.underlying4
 a4:=Tryz.isAgg4
 z4:=Tryz.sizeOf4
 v4:=Tryz.zeroValue4
 t5:=Tryz.underlying5
 a5:=Tryz.isAgg5
 z5:=Tryz.sizeOf5
 v5:=Tryz.zeroValue5
 t9:=Tryz.underlying9
 a9:=Tryz.isAgg9
 z9:=Tryz.sizeOf9
 v9:=Tryz.zeroValue9
 t20:=Tryz.underlying20
 a20:=Tryz.isAgg20
 z20:=Tryz.sizeOf20
 v20:=Tryz.zeroValue20
 t37:=Tryz.underlying139
 a37:=Tryz.isAgg139
 z37:=Tryz.sizeOf139
 v37:=Tryz.zeroValue139
 t46:=Tryz.underlying182
 a46:=Tryz.isAgg182
 z46:=Tryz.sizeOf182
 v46:=Tryz.zeroValue182
 t51:=Tryz.underlying181
 a51:=Tryz.isAgg181
 z51:=Tryz.sizeOf181
 v51:=Tryz.zeroValue181
 t53:=Tryz.underlying183
 a53:=Tryz.isAgg183
 z53:=Tryz.sizeOf183
 v53:=Tryz.zeroValue183
 t171:=Tryz.underlying215
 a171:=Tryz.isAgg215
 z171:=Tryz.sizeOf215
 v171:=Tryz.zeroValue215
 t173:=Tryz.underlying218
 a173:=Tryz.isAgg218
 z173:=Tryz.sizeOf218
 v173:=Tryz.zeroValue218
 t212:=Tryz.underlying239
 a212:=Tryz.isAgg239
 z212:=Tryz.sizeOf239
 v212:=Tryz.zeroValue239
 t213:=Tryz.underlying240
 a213:=Tryz.isAgg240
 z213:=Tryz.sizeOf240
 t232:=Tryz.underlying257
 a232:=Tryz.isAgg257
 z232:=Tryz.sizeOf257
 v232:=Tryz.zeroValue257
 t233:=Tryz.underlying258
 a233:=Tryz.isAgg258
 z233:=Tryz.sizeOf258
 v233:=Tryz.zeroValue258
 g17:=by kernel_rfl
 g18:=by kernel_rfl
 g19:=by kernel_rfl
 i0:=by kernel_rfl
 i2:=by kernel_rfl
 i3:=by kernel_rfl
 i4:=by kernel_rfl
 i5:=by kernel_rfl
 i9:=by kernel_rfl
 i20:=by kernel_rfl
 i37:=by kernel_rfl
 i46:=by kernel_rfl
 i51:=by kernel_rfl
 i53:=by kernel_rfl
 i171:=by kernel_rfl
 i173:=by kernel_rfl
 i212:=by kernel_rfl
 i232:=by kernel_rfl
 i233:=by kernel_rfl
 m17:=by kernel_rfl
 m18:=by kernel_rfl
 m19:=by kernel_rfl
def T1.lays158_ren:Go.Shelf.Ren:=⟨fun|158=>195|165=>201|166=>202|167=>203|169=>204|230=>205|203=>206|240=>212|241=>213|197=>214|118=>215|168=>216|270=>217|262=>218|276=>228|277=>229|260=>230|242=>231|313=>232|278=>242|274=>243|275=>244|n=>n,fun|9=>9|4=>4|3=>3|5=>5|72=>193|0=>0|76=>196|75=>195|107=>201|70=>191|20=>20|37=>139|127=>209|21=>21|105=>210|164=>232|162=>238|203=>236|119=>188|46=>182|139=>246|138=>245|51=>181|160=>247|208=>256|206=>254|80=>199|n=>n,fun|13=>2|3=>5|4=>6|n=>n⟩
theorem T1.lays158:Go.Proofs.Lays.n158 Tryz.prog T1.lays158_ren where
 mixed:=by kernel_rfl
 f118:=Tryz.func215.trans (congrArg some (by kernel_rfl))
 f158:=Tryz.func195.trans (congrArg some (by kernel_rfl))
 f165:=Tryz.func201.trans (congrArg some (by kernel_rfl))
 f166:=Tryz.func202.trans (congrArg some (by kernel_rfl))
 f167:=Tryz.func203.trans (congrArg some (by kernel_rfl))
 f168:=Tryz.func216.trans (congrArg some (by kernel_rfl))
 f169:=Tryz.func204.trans (congrArg some (by kernel_rfl))
 f197:=Tryz.func214.trans (congrArg some (by kernel_rfl))
 f203:=Tryz.func206.trans (congrArg some (by kernel_rfl))
 f230:=Tryz.func205.trans (congrArg some (by kernel_rfl))
 f240:=Tryz.func212.trans (congrArg some (by kernel_rfl))
 f241:=Tryz.func213.trans (congrArg some (by kernel_rfl))
 f242:=Tryz.func231.trans (congrArg some (by kernel_rfl))
 f260:=Tryz.func230.trans (congrArg some (by kernel_rfl))
 f262:=Tryz.func218.trans (congrArg some (by kernel_rfl))
 f270:=Tryz.func217.trans (congrArg some (by kernel_rfl))
 f274:=Tryz.func243.trans (congrArg some (by kernel_rfl))
 f275:=Tryz.func244.trans (congrArg some (by kernel_rfl))
 f276:=Tryz.func228.trans (congrArg some (by kernel_rfl))
 f277:=Tryz.func229.trans (congrArg some (by kernel_rfl))
 f278:=Tryz.func242.trans (congrArg some (by kernel_rfl))
 f313:=Tryz.func232.trans (congrArg some (by kernel_rfl))
 t0:=Tryz.underlying0
 a0:=Tryz.isAgg0
 z0:=Tryz.sizeOf0
 v0:=Tryz.zeroValue0
 t3:=Tryz.underlying3
 a3:=Tryz.isAgg3
 z3:=Tryz.sizeOf3
 v3:=Tryz.zeroValue3
 t4:=Tryz.underlying4
 a4:=Tryz.isAgg4
 z4:=Tryz.sizeOf4
 v4:=Tryz.zeroValue4
 t5:=Tryz.underlying5
 a5:=Tryz.isAgg5
 z5:=Tryz.sizeOf5
 v5:=Tryz.zeroValue5
 t9:=Tryz.underlying9
 a9:=Tryz.isAgg9
 z9:=Tryz.sizeOf9
 v9:=Tryz.zeroValue9
 t20:=Tryz.underlying20
 a20:=Tryz.isAgg20
 z20:=Tryz.sizeOf20
 v20:=Tryz.zeroValue20
 t21:=Tryz.underlying21
 a21:=Tryz.isAgg21
 z21:=Tryz.sizeOf21
 v21:=Tryz.zeroValue21
 t37:=Tryz.underlying139
 a37:=Tryz.isAgg139
 z37:=Tryz.sizeOf139
 v37:=Tryz.zeroValue139
 t46:=Tryz.underlying182
 a46:=Tryz.isAgg182
 z46:=Tryz.sizeOf182
 v46:=Tryz.zeroValue182
 t51:=Tryz.underlying181
 a51:=Tryz.isAgg181
 z51:=Tryz.sizeOf181
 v51:=Tryz.zeroValue181
 t70:=Tryz.underlying191
 a70:=Tryz.isAgg191
 z70:=Tryz.sizeOf191
 v70:=Tryz.zeroValue191
 t72:=Tryz.underlying193
 a72:=Tryz.isAgg193
 z72:=Tryz.sizeOf193
 v72:=Tryz.zeroValue193
 t75:=Tryz.underlying195
 a75:=Tryz.isAgg195
 z75:=Tryz.sizeOf195
 v75:=Tryz.zeroValue195
 t76:=Tryz.underlying196
 a76:=Tryz.isAgg196
 z76:=Tryz.sizeOf196
 v76:=Tryz.zeroValue196
 t105:=Tryz.underlying210
 a105:=Tryz.isAgg210
 z105:=Tryz.sizeOf210
 v105:=Tryz.zeroValue210
 t107:=Tryz.underlying201
 a107:=Tryz.isAgg201
 z107:=Tryz.sizeOf201
 v107:=Tryz.zeroValue201
 t119:=Tryz.underlying188
 a119:=Tryz.isAgg188
 z119:=Tryz.sizeOf188
 t127:=Tryz.underlying209
 a127:=Tryz.isAgg209
 z127:=Tryz.sizeOf209
 v127:=Tryz.zeroValue209
 t138:=Tryz.underlying245
 a138:=Tryz.isAgg245
 z138:=Tryz.sizeOf245
 v138:=Tryz.zeroValue245
 t139:=Tryz.underlying246
 a139:=Tryz.isAgg246
 z139:=Tryz.sizeOf246
 v139:=Tryz.zeroValue246
 t160:=Tryz.underlying247
 a160:=Tryz.isAgg247
 z160:=Tryz.sizeOf247
 v160:=Tryz.zeroValue247
 t162:=Tryz.underlying238
 a162:=Tryz.isAgg238
 z162:=Tryz.sizeOf238
 v162:=Tryz.zeroValue238
 t164:=Tryz.underlying232
 a164:=Tryz.isAgg232
 z164:=Tryz.sizeOf232
 v164:=Tryz.zeroValue232
 t203:=Tryz.underlying236
 a203:=Tryz.isAgg236
 z203:=Tryz.sizeOf236
 v203:=Tryz.zeroValue236
 t206:=Tryz.underlying254
 a206:=Tryz.isAgg254
 z206:=Tryz.sizeOf254
 v206:=Tryz.zeroValue254
 t208:=Tryz.underlying256
 a208:=Tryz.isAgg256
 z208:=Tryz.sizeOf256
 v208:=Tryz.zeroValue256
 g3:=by kernel_rfl
 g4:=by kernel_rfl
 g13:=by kernel_rfl
theorem T1.extra:Builder.Extra Tryz.prog T1.lays158_ren where
 sizeBuilder:=by kernel_rfl
 liesBuilder:=by kernel_rfl
 t5:=T1.lays158.t5
 a5:=T1.lays158.a5
 z5:=T1.lays158.z5
 v5:=T1.lays158.v5
 infoByte:=by kernel_rfl
 cellsByte:=by kernel_rfl
 sizeByte:=by kernel_rfl
 neB5:=by decide
namespace T1
def Ih:List UInt8:=[48,49,50,51,52,53,54,55,56,57,65,66,67,68,69,70]
def BS(k:Nat):UInt8:=Ih.getD k 0
theorem G9: ∀k,k<16→Lib.upperB (iL k)=BS k:=by decide
theorem G5: ∀k,k<16→(iL k).toNat<128:=by decide
theorem DP: ∀k,k<10→iL k=UInt8.ofNat (48+k):=by decide
theorem vH(f g:Nat→UInt8){b:Nat}(h2:2≤b)(h: ∀k,k<b→f k=g k): ∀v,eO f b v=eO g b v:=by
 intro v
 induction v using Nat.strongRecOn with
 |ind v ih=>
  by_cases hb:b≤v
  ·rw[dD _ hb h2,dD _ hb h2,ih _ (Nat.div_lt_self (by omega) (by omega)),h _ (Nat.mod_lt _ (by omega))]
  ·rw[ec _ (by omega),ec _ (by omega),h _ (by omega)]
theorem Bt(P:UInt8→Prop)(f:Nat→UInt8){b:Nat}(h2:2≤b)(h: ∀k,k<b→P (f k)): ∀v,∀x∈eO f b v,P x:=by
 intro v
 induction v using Nat.strongRecOn with
 |ind v ih=>
  intro x hx
  by_cases hb:b≤v
  ·rw[dD _ hb h2]at hx
   rcases List.mem_append.1 hx with hx|hx
   ·exact ih _ (Nat.div_lt_self (by omega) (by omega)) x hx
   ·rw[List.mem_singleton.1 hx];exact h _ (Nat.mod_lt _ (by omega))
  ·rw[ec _ (by omega)]at hx
   rw[List.mem_singleton.1 hx];exact h _ (by omega)
theorem xc: ∀v,Lib.decDigits v=eO iL 10 v:=by
 intro v
 induction v using Nat.strongRecOn with
 |ind v ih=>
  by_cases h:v<10
  ·rw[Lib.decDigits,dif_pos h,ec _ h,DP _ h]
  ·rw[Lib.decDigits,dif_neg h,dD _ (by omega) (by omega),ih _ (by omega),DP _ (by omega)]
def nH(n:Int)(b:Nat):List UInt8:=if n<0 then 45::eO iL b n.natAbs else eO iL b n.natAbs
def md(n:Int)(b:Nat):List UInt8:=if n<0 then 45::eO BS b n.natAbs else eO BS b n.natAbs
theorem BG(n:Int):Lib.itoa n=nH n 10:=by
 unfold Lib.itoa nH
 split
 ·rw[xc]
 ·rw[xc,show n.toNat=n.natAbs by omega]
theorem E4(n:Int){b:Nat}(h:2≤b∧b≤16):Lib.toUpperA (nH n b)=md n b:=by
 have e:(eO iL b n.natAbs).map Lib.upperB=eO BS b n.natAbs:=by
  rw[zG _ id _ _ h.1]
  exact vH _ _ h.1 (fun k hk=>G9 k (by omega)) _
 unfold Lib.toUpperA nH md
 split
 ·rw[List.map_cons,e];rfl
 ·exact e
theorem B7(n:Int){b:Nat}(h:2≤b)(hn:cell n=true):(nH n b).length≤34:=by
 have hq: -2147483648≤n∧n≤2147483647:=aN hn
 have:=jX iL h 33 n.natAbs (by omega) (by omega)
 unfold nH
 split
 ·simp only[List.length_cons];omega
 ·omega
theorem xp(n:Int){b:Nat}(h:2≤b)(hn:cell n=true):(md n b).length≤34:=by
 have hq: -2147483648≤n∧n≤2147483647:=aN hn
 have:=jX BS h 33 n.natAbs (by omega) (by omega)
 unfold md
 split
 ·simp only[List.length_cons];omega
 ·omega
theorem ze(n:Int){b:Nat}(h:2≤b∧b≤16): ∀x∈nH n b,x.toNat<128:=by
 have:=Bt (fun x=>x.toNat<128) iL h.1 (fun k hk=>G5 k (by omega)) n.natAbs
 unfold nH
 split
 ·intro x hx
  rcases List.mem_cons.1 hx with rfl|hx
  ·decide
  ·exact this x hx
 ·exact this
theorem c237(k b:Nat)(hb:b=2 ^ k)(hk:1≤k∧k≤4):Con Tryz.prog 237 [.int .u64 (IntKind.u64.wrap (b:Int))] (aa [.int .u64 (IntKind.u64.wrap (b:Int))]) (.int .i64 k):=by
 have hk4:k=1∨k=2∨k=3∨k=4:=by omega
 have hb16:b≤16:=by subst hb;rcases hk4 with rfl|rfl|rfl|rfl<;>decide
 have wb:IntKind.u64.wrap (b:Int)=b:=hU (by omega) (by omega)
 have hc:Lib.ctz 64 b=k:=by subst hb;rcases hk4 with rfl|rfl|rfl|rfl<;>decide
 rw[wb]
 refine Con.scalB ⟨_,Tryz.func237,rfl,rfl⟩ (fun w vals hp tb=> ?_) fun w R O vals hp=> ?_
 ·obtain⟨hl,os,h4,_⟩:=aI _ _ _ hp
  match vals,hl with
  |[v],_=>
   have hv:=h4 0 _ v rfl rfl
   cases hv with
   |sc hv _=>
    obtain⟨rfl,hf⟩:=hv
    have ht:TabAt (T1.lays27_ren.g 1) Lib.deBruijn64tab w:=by
     intro j hj
     obtain⟨⟨e,fz,h1⟩,_⟩:=tb ("math/bits.deBruijn64tab",(Lib.deBruijn64tab.map fun z:Nat=>Value.int .u8 z).toArray) (by simp[yJ]) (T1.lays27_ren.g 1) (by kernel_rfl)
     simp[World.cell?,h1,hj]
    refine(Any7.bits_TrailingZeros T1.lays27 b (by omega) w fun _=>ht).mono ?_
    rintro e w' ⟨rfl,rfl⟩
    rw[hc]
    exact⟨_,rfl,⟨rfl,by simp[dw];omega⟩,Below.refl _ _⟩
 ·exact eE _ _ _ rfl hp
theorem c195(s:List UInt8)(hs:s.length≤1000)(ha: ∀x∈s,x.toNat<128):Con Tryz.prog 195 [.str s] (aa [.str s]) (.str (Lib.toUpperA s)):=by
 refine Con.scalB ⟨_,Tryz.func195,rfl,rfl⟩ (fun w vals hp tb=> ?_) fun w R O vals hp=> ?_
 ·obtain⟨hl,os,h4,_⟩:=aI _ _ _ hp
  match vals,hl with
  |[v],_=>
   have hv:=h4 0 _ v rfl rfl
   cases hv with
   |sc hv _=>
    obtain⟨rfl,hf⟩:=hv
    refine(Any.strings_ToUpper_ascii T1.lays158 T1.extra ⟨s.toArray⟩ w (by show s.toArray.size≤_;simp;omega) (fun j x hx=>ha x (List.mem_of_getElem? (by simpa using hx)))).mono ?_
    rintro e w' ⟨rfl,hw⟩
    exact⟨_,rfl,⟨rfl,by simp[Lib.toUpperA,bZ];omega⟩,hw⟩
 ·exact eE _ _ _ rfl hp
instance:CC 195:=⟨_,@c195⟩
end T1

/- Numbers in text: strconv.FormatInt, cells in text of both sides; contracts. -/
open Go Go.Abs Go.Proofs V1 H1 F1 F2 T1
namespace T2
theorem DN{b:Nat}(hp:Dr b=true): ∃k,b=2 ^ k∧1≤k∧k≤4:=by
 have:b=2∨b=4∨b=8∨b=16:=by simpa[Dr,or_assoc]using hp
 rcases this with rfl|rfl|rfl|rfl
 ·exact⟨1,rfl,by omega,by omega⟩
 ·exact⟨2,rfl,by omega,by omega⟩
 ·exact⟨3,rfl,by omega,by omega⟩
 ·exact⟨4,rfl,by omega,by omega⟩
theorem kb(n:Int)(b:Nat)(hn:cell n=true)(hb:2≤b∧b≤16∧b≠10):Con Tryz.prog 222 [.emp,.int .u64 (IntKind.u64.wrap n),.int .i64 b,.bool (decide (n<0)),.bool false] (aa [.emp,.int .u64 (IntKind.u64.wrap n),.int .i64 b,.bool (decide (n<0)),.bool false]) (.tup [.emp,.str (nH n b)]):=by
 have hq: -2147483648≤n∧n≤2147483647:=aN hn
 have hv:n.natAbs<2 ^ 33:=by omega
 by_cases h0:n<0
 ·rw[decide_eq_true h0,nH,if_pos h0]
  have e: -((n.natAbs:Nat):Int)=n:=by omega
  cases hp:Dr b with
  |true=>
   obtain⟨k,h1,h2⟩:=DN hp
   have:=JS k b h1 h2 (c237 k b h1 h2) n.natAbs hv (by omega)
   rw[e]at this;exact this
  |false=>
   have:=Kg b hb hp n.natAbs hv (by omega)
   rw[e]at this;exact this
 ·rw[decide_eq_false h0,nH,if_neg h0]
  have e:IntKind.u64.wrap n=((n.natAbs:Nat):Int):=by rw[hU (by omega) (by omega)];omega
  rw[e]
  cases hp:Dr b with
  |true=>
   obtain⟨k,h1,h2⟩:=DN hp
   exact G4 k b h1 h2 (c237 k b h1 h2) n.natAbs hv
  |false=>exact Lg b hb hp n.natAbs hv
theorem KH(n:Int)(b:Nat)(hn:cell n=true)(hb:2≤b∧b≤16∧b≠10):Con Tryz.prog 207 [.int .i64 n,.int .i64 b] (aa [.int .i64 n,.int .i64 b]) (.str (nH n b)):=by
 have g1:((b:Int)==10)=false:=by simp;omega
 refine rn 54 Tryz.func207 [.tmp 4] (g:= ?_)
 conv=>whnf
 refine aP ?_
 (refine ah (kb n b hn hb ..) ?_;conv=>whnf)
 exact go
theorem c196(n:Int)(b:Nat)(hn:cell n=true)(hb:2≤b∧b≤16):Con Tryz.prog 196 [.int .i64 n,.int .i64 b] (aa [.int .i64 n,.int .i64 b]) (.str (nH n b)):=by
 by_cases h10:b=10
 rotate_left
 ·refine rn 8 Tryz.func196 [.tmp 4] (g:= ?_)
  conv=>whnf
  refine aP ?_
  (refine ah (KH n b hn ⟨hb.1,hb.2,h10⟩ ..) ?_;conv=>whnf)
  exact go
 subst h10
 have hq: -2147483648≤n∧n≤2147483647:=aN hn
 rw[←BG]
 refine Con.scal ⟨_,Tryz.func196,rfl,rfl⟩ (fun w vals hp tb=> ?_) fun w R O vals hp=> ?_
 ·obtain⟨hl,os,h4,_⟩:=aI _ _ _ hp
  match vals,hl with
  |[v,u],_=>
   have hv:=h4 0 _ v rfl rfl
   have hu:=h4 1 _ u rfl rfl
   cases hv with
   |sc hv _=>
    cases hu with
    |sc hu _=>
     obtain⟨rfl,hf⟩:=hv
     obtain⟨rfl,_⟩:=hu
     refine(Any.strconv_FormatInt_10 T1.lays173 n (by omega) (by omega) w (tb.is (g:=3) (by simp[yJ]) (by kernel_rfl))).mono ?_
     rintro e w' ⟨rfl,k,os,rfl⟩
     exact⟨_,rfl,⟨rfl,Nat.le_trans (Lib.itoa_length_le n (by omega) (by omega)) (by simp[bZ])⟩,k,os,rfl⟩
 ·exact eE _ _ _ rfl hp
instance:CC 196:=⟨_,@c196⟩
end T2

/- Cells in text, by the program and by the reference; contracts. -/
open Go Go.Abs Go.Proofs V1 H1 F1 F2 T1 T2
namespace T3
theorem c189(n:Int)(b:Nat)(hn:cell n=true)(hb:2≤b∧b≤16):Con Tryz.prog 189 [.int .i64 n,.int .i64 b] (aa [.int .i64 n,.int .i64 b]) (.tup [.str (md n b),.int .i64 0]):=by
 have k1:=c127 n
 have k2:=c128 b
 have hb2:bh (b:Int) 2 16=true:=by simp[bh];omega
 rw[hn]at k1
 rw[hb2]at k2
 have k3:=c196 n b hn hb
 have k4:=c195 (nH n b) (by have:=B7 n hb.1 hn;omega) (ze n hb)
 rw[E4 n hb]at k4
 exact rn 18 Tryz.func189 [.tmp 4,.tmp 5] (g:=go)
 all_goals skip
instance:CC 189:=⟨_,@c189⟩
theorem HE: ∀k,k<16→[UInt8.ofNat ((Ih.getD k 0).toNat:Int).toNat]=[BS k]:=by decide
theorem tx(b:Nat)(hb:2≤b∧b≤16): ∀v:Nat,v<2 ^ 33→Con Tryz.prog 180 [.int .i64 v,.int .i64 b] (aa [.int .i64 v,.int .i64 b]) (.str (eO BS b v)):=by
 intro v
 induction v using Nat.strongRecOn with
 |ind v ih=>
  intro hv
  have hm:v%b<b:=Nat.mod_lt _ (by omega)
  have e1:((v:Int).tmod (b:Int)).toNat=v%b:=by
   rw[show(v:Int).tmod (b:Int)=((v%b:Nat):Int)from rfl];rfl
  have g0:decide ((v:Int)<0)=false:=decide_eq_false (by omega)
  by_cases hs:b≤v
  ·have g1:decide ((v:Int)≥(b:Int))=true:=decide_eq_true (by omega)
   have e2:IntKind.i64.wrap ((v:Int).tdiv (b:Int))=((v/b:Nat):Int):=by
    rw[show(v:Int).tdiv (b:Int)=((v/b:Nat):Int)from rfl]
    have hq:=Nat.div_le_self v b
    generalize v/b=q at hq
    exact ai (by omega) (by omega)
   have k1:=ih (v/b) (Nat.div_lt_self (by omega) (by omega)) (by have:=Nat.div_le_self v b;omega)
   rw[←e2]at k1
   have hl:=jX BS hb.1 33 (v/b) (by have:=Nat.div_le_self v b;omega) (by omega)
   refine rn 30 Tryz.func180 [.tmp 4] (g:= ?_)
   conv=>whnf
   iterate 17 ((first|refine ac (by solve|simp only[cR]|fail) ?_|apply ac rfl|refine ac (by((simp;omega))) ?_|refine ac (by(((simp[gj];omega)))) ?_|refine lZ rfl ?_|refine aG (fun hf=> ?_)|apply aK rfl|refine bH (by solve|simp only[g0,g1,if_true,if_false,Bool.false_eq_true,Bool.not_true,reduceIte]|fail) ?_|apply aH|refine ah (k1 ..) ?_);conv=>whnf)
   rotate_left
   refine aA (congrArg AV.str ?_)
   show eO BS b (v/b)++[UInt8.ofNat ((Ih.getD ((v:Int).tmod (b:Int)).toNat 0).toNat:Int).toNat]=_
   rw[e1,HE _ (by omega),←dD _ hs hb.1]
  ·have g1:decide ((v:Int)≥(b:Int))=false:=decide_eq_false (by omega)
   refine rn 30 Tryz.func180 [.tmp 4] (g:= ?_)
   conv=>whnf
   iterate 10 ((first|refine ac (by solve|simp only[cR]|fail) ?_|apply ac rfl|refine ac (by((simp;omega))) ?_|refine lZ rfl ?_|apply aK rfl|refine aK (by solve|simp only[g0,g1,if_true,if_false,Bool.false_eq_true,Bool.not_true,reduceIte]|fail) ?_);conv=>whnf)
   rotate_left
   refine aA (congrArg AV.str ?_)
   show[UInt8.ofNat ((Ih.getD ((v:Int).tmod (b:Int)).toNat 0).toNat:Int).toNat]=_
   rw[e1,HE _ (by omega),ec _ (by omega),Nat.mod_eq_of_lt (by omega)]
theorem c180(n:Int)(b:Nat)(hn:cell n=true)(hb:2≤b∧b≤16):Con Tryz.prog 180 [.int .i64 n,.int .i64 b] (aa [.int .i64 n,.int .i64 b]) (.str (md n b)):=by
 have hq: -2147483648≤n∧n≤2147483647:=aN hn
 have k1:=tx b hb n.natAbs (by omega)
 by_cases h0:n<0
 ·have g0:decide (n<0)=true:=decide_eq_true h0
  have e:((n.natAbs:Nat):Int)=IntKind.i64.wrap (0-n):=by rw[ai (by omega) (by omega)];omega
  have hl:=jX BS hb.1 33 n.natAbs (by omega) (by omega)
  rw[e]at k1
  rw[md,if_pos h0]
  refine rn 30 Tryz.func180 [.tmp 4] (g:= ?_)
  conv=>whnf
  refine aP ?_
  (apply ac (by(((simp[gj];omega))));conv=>whnf)
  exact go
 ·rw[md,if_neg h0]
  have e:((n.natAbs:Nat):Int)=n:=by omega
  rw[e]at k1
  exact k1
instance:CC 180:=⟨_,@c180⟩
end T3

/- Sums of cells, by the program and by the reference; contracts. -/
open Go Go.Abs Go.Proofs V1 H1 F1 F2 T1 T2 T3
namespace P1
theorem c174(n:Int):Con Tryz.prog 174 [.int .i64 n] (aa [.int .i64 n]) (.int .i64 (wc n)):=by
 rw[←Ip n]
 exact rn 8 Tryz.func174 [.tmp 2] (g:=go)
instance:CC 174:=⟨_,@c174⟩
theorem c183(b:Bool):Con Tryz.prog 183 [.bool b] (aa [.bool b]) (.int .i64 (jP b)):=by
 cases b<;>
 ·refine rn 4 Tryz.func183 [.tmp 2] (g:= ?_)
  conv=>whnf
  first
   |((apply aK rfl;conv=>whnf)
     (apply ac rfl;conv=>whnf)
     (refine aA ?_;(rfl)))
   |((apply bH rfl;conv=>whnf)
     (apply ac rfl;conv=>whnf)
     (refine aA ?_;(rfl)))
instance:CC 183:=⟨_,@c183⟩
theorem c175(b:Bool):Con Tryz.prog 175 [.bool b] (aa [.bool b]) (.int .i64 (jP b)):=by
 cases b<;>
 ·refine rn 4 Tryz.func175 [.tmp 2] (g:= ?_)
  conv=>whnf
  first
   |((apply aK rfl;conv=>whnf)
     (apply ac rfl;conv=>whnf)
     (refine aA ?_;(rfl)))
   |((apply bH rfl;conv=>whnf)
     (apply ac rfl;conv=>whnf)
     (refine aA ?_;(rfl)))
instance:CC 175:=⟨_,@c175⟩
theorem c182(n:Int):Con Tryz.prog 182 [.int .i64 n] (aa [.int .i64 n]) (.int .i64 (vZ n)):=
 rn 7 Tryz.func182 [.tmp 2] (g:=go)
instance:CC 182:=⟨_,@c182⟩
theorem c176(n:Int):Con Tryz.prog 176 [.int .i64 n] (aa [.int .i64 n]) (.int .i64 (vZ n)):=
 rn 7 Tryz.func176 [.tmp 2] (g:=go)
instance:CC 176:=⟨_,@c176⟩
def cp(p:Nat):Prop:=1≤p∧p≤52
theorem c148(p:Nat)(h:cp p):Con Tryz.prog 148 [.int .i64 p] (aa [.int .i64 p]) (.int .i64 (bE p)):=by
 have e: ∀i:Fin 52,IntKind.i64.wrap (IntKind.u8.wrap ((([49,49,50,50,51,50,50,49,50,50,48,49,48,48,50,50,50,50,50,50,50,50,50,50,49,49,49,49,49,50,50,50,50,50,50,50,49,49,49,50,50,48,49,49,49,49,48,48,48,48,48,48]:List UInt8).getD i.1 0).toNat-48:Int))=((bE (i.1+1):Nat):Int):=by decide
 have w:IntKind.i64.wrap ((p:Int)-1)=((p-1:Nat):Int):=by unfold cp at h;rw[ai (by omega) (by omega)];omega
 refine rn 8 Tryz.func148 [.tmp 2] (g:= ?_)
 conv=>whnf
 refine aP ?_
 (apply ac (by(((rw[w];exact decide_eq_true (show p-1<52 by unfold cp at h;omega)))));conv=>whnf)
 refine aP ?_
 rotate_left
 refine aA (congrArg (AV.int .i64) ?_)
 rw[w]
 have:=e ⟨p-1,by unfold cp at h;omega⟩
 rw[show(⟨p-1,by unfold cp at h;omega⟩:Fin 52).1+1=p by unfold cp at h;show p-1+1=p;omega]at this
 exact this
instance:CC 148:=⟨_,@c148⟩
theorem zi{p:Nat}(h:cp p):p=1∨p=2∨p=3∨p=4∨p=5∨p=6∨p=7∨p=8∨p=9∨p=10∨p=11∨p=12∨p=13∨p=14∨p=15∨p=16∨p=17∨p=18∨p=19∨p=20∨p=21∨p=22∨p=23∨p=24∨p=25∨p=26∨p=27∨p=28∨p=29∨p=30∨p=31∨p=32∨p=33∨p=34∨p=35∨p=36∨p=37∨p=38∨p=39∨p=40∨p=41∨p=42∨p=43∨p=44∨p=45∨p=46∨p=47∨p=48∨p=49∨p=50∨p=51∨p=52:=by
 unfold cp at h;omega
theorem c135(p:Nat)(h:cp p):Con Tryz.prog 135 [.int .i64 p] (aa [.int .i64 p]) (.int .i64 (bE p)):=by
 rcases zi h with rfl|rfl|rfl|rfl|rfl|rfl|rfl|rfl|rfl|rfl|rfl|rfl|rfl|rfl|rfl|rfl|rfl|rfl|rfl|rfl|rfl|rfl|rfl|rfl|rfl|rfl|rfl|rfl|rfl|rfl|rfl|rfl|rfl|rfl|rfl|rfl|rfl|rfl|rfl|rfl|rfl|rfl|rfl|rfl|rfl|rfl|rfl|rfl|rfl|rfl|rfl|rfl
 all_goals
  refine rn 8 Tryz.func135 [.tmp 2] (g:= ?_)
  conv=>whnf
  (iterate 6 ((first|refine ac (by solve|simp only[cR]|fail) ?_|apply ac rfl|refine aD (by(rfl)) ?_);conv=>whnf));(refine aA ?_;(rfl))
instance:CC 135:=⟨_,@c135⟩
theorem c149(p:Nat)(h:cp p):Con Tryz.prog 149 [.int .i64 p] (aa [.int .i64 p]) (.int .i64 (dU p)):=by
 refine rn 10 Tryz.func149 [.tmp 2] (g:= ?_)
 conv=>whnf
 (refine bN ?_ ?_<;>intro hb)
 refine aP ?_
 rotate_left
 (refine bN ?_ ?_<;>intro hb)
 refine aP ?_
 rotate_left
 (refine bN ?_ ?_<;>intro hb)
 refine aP ?_
 rotate_left
 (refine bN ?_ ?_<;>intro hb)
 refine aP ?_
 rotate_left
 refine aP ?_
 rotate_left
 ·obtain rfl:p=13:=by omega
  exact aA rfl
 ·obtain rfl:p=14:=by omega
  exact aA rfl
 ·obtain rfl:p=51:=by omega
  exact aA rfl
 ·obtain rfl:p=52:=by omega
  exact aA rfl
 ·refine aA (congrArg (AV.int .i64) ?_)
  unfold dU
  split<;>first|rfl|(exfalso;omega)
instance:CC 149:=⟨_,@c149⟩
theorem c194(a b:Int)(ha:cell a=true)(hb:cell b=true)(h0:b≠0):Con Tryz.prog 194 [.int .i64 a,.int .i64 b] (aa [.int .i64 a,.int .i64 b]) (.int .i64 (cn a b)):=by
 have qa: -2147483648≤a∧a≤2147483647:=aN ha
 have qb: -2147483648≤b∧b≤2147483647:=aN hb
 have hq:=nE a b
 have wq:IntKind.i64.wrap (a.tdiv b)=a.tdiv b:=ai (by omega) (by omega)
 have wq1:IntKind.i64.wrap (a.tdiv b-1)=a.tdiv b-1:=ai (by omega) (by omega)
 refine rn 23 Tryz.func194 [.tmp 4] (g:= ?_)
 conv=>whnf
 iterate 5 (first|refine aP ?_|(refine bN ?_ ?_<;>intro hb))
 rotate_left
 refine aP ?_
 rotate_left
 refine aP ?_
 rotate_left
 ·exact aA (by rw[wq,wq1,cn,if_pos ⟨by assumption,fun e=>hb (by simp[e])⟩])
 ·exact aA (by rw[wq,cn,if_neg fun k=>k.2 (propext (decide_eq_decide.1 hb))])
 ·exact aA (by rw[wq,cn,if_neg fun k=>k.1 hb])
instance:CC 194:=⟨_,@c194⟩
end P1

/- Two cells into one, by the program and by the reference; contracts. -/
open Go Go.Abs Go.Proofs V1 H1 F1 F2 T1 T2 T3 P1
namespace P2
theorem fq{a b:Int}(qa: -2147483648≤a∧a≤2147483647)(qb: -2147483648≤b∧b≤2147483647): -4611686018427387904≤a*b∧a*b≤4611686018427387904:=by
 have h1:(a*b).natAbs≤2147483648*2147483648:=by rw[Int.natAbs_mul];exact Nat.mul_le_mul (by omega) (by omega)
 omega
theorem tG(a b:Int):(a.tmod b).natAbs≤a.natAbs:=by rw[Int.natAbs_tmod];exact Nat.mod_le _ _
theorem F4{a b:Int}(h: ¬b=0):bU 4 a b=(wc (cn a b),true):=by simp[bU,gc,h]
theorem FY{a b:Int}(h: ¬b=0):bU 5 a b=(a-cn a b*b,true):=by simp[bU,gc,h]
theorem DG{a b:Int}(h:b=0):bU 4 a b=(0,false)∧bU 5 a b=(0,false):=by simp[bU,gc,h]
theorem Ku{a b:Int}(h:bh b 0 31=true):bU 9 a b=(wc (a*2 ^ b.toNat),true):=by simp[bU,gc,h]
theorem Gh{a b:Int}(h:bh b 0 31=true):bU 10 a b=(wc ((vZ a).fdiv (2 ^ b.toNat)),true):=by simp[bU,gc,h]
theorem Ic{a b:Int}(h:bh b 0 31=false):bU 9 a b=(0,true)∧bU 10 a b=(0,true):=by simp[bU,gc,h]
theorem GM{a b:Int}(h: ¬a.tmod b=0)(hb: ¬decide (a.tmod b<0)=decide (b<0)):a.tmod b≠0∧((a<0)≠(b<0)):=⟨h,by rw[←xm h];exact fun e=>hb (by simp[e])⟩
theorem HD{a b:Int}(h: ¬a.tmod b=0)(hb:decide (a.tmod b<0)=decide (b<0)): ¬(a.tmod b≠0∧((a<0)≠(b<0))):=by
 rintro ⟨_,k⟩
 rw[←xm h]at k
 exact k (propext (decide_eq_decide.1 hb))
theorem HT{a b:Int}(h:a.tmod b=0): ¬(a.tmod b≠0∧((a<0)≠(b<0))):=fun k=>k.1 h
theorem GT(a:Int):vZ a=IntKind.u32.wrap (IntKind.i32.wrap a):=by
 have:0≤IntKind.u32.wrap (IntKind.i32.wrap a)∧IntKind.u32.wrap (IntKind.i32.wrap a)<4294967296:=by rw[wL];omega
 exact ai (by omega) (by omega)
theorem Ji(a b:Int)(ha:cell a=true)(hb0:cell b=true):Con Tryz.prog 150 [.int .i64 1,.int .i64 a,.int .i64 b] (aa [.int .i64 1,.int .i64 a,.int .i64 b]) (.tup [.int .i64 (bU 1 a b).1,.bool (bU 1 a b).2]):=by
 have qa: -2147483648≤a∧a≤2147483647:=aN ha
 have qb: -2147483648≤b∧b≤2147483647:=aN hb0
 have qm:=fq qa qb
 have w:IntKind.i64.wrap (a+b)=a+b:=ai (by omega) (by omega)
 refine rn 88 Tryz.func150 [.tmp 6,.tmp 7] (g:= ?_)
 conv=>whnf
 refine aP ?_
 (refine aA ?_;((rw[w];rfl)))
theorem I0(a b:Int)(ha:cell a=true)(hb0:cell b=true):Con Tryz.prog 150 [.int .i64 2,.int .i64 a,.int .i64 b] (aa [.int .i64 2,.int .i64 a,.int .i64 b]) (.tup [.int .i64 (bU 2 a b).1,.bool (bU 2 a b).2]):=by
 have qa: -2147483648≤a∧a≤2147483647:=aN ha
 have qb: -2147483648≤b∧b≤2147483647:=aN hb0
 have qm:=fq qa qb
 have w:IntKind.i64.wrap (a-b)=a-b:=ai (by omega) (by omega)
 refine rn 88 Tryz.func150 [.tmp 6,.tmp 7] (g:= ?_)
 conv=>whnf
 refine aP ?_
 (refine aA ?_;((rw[w];rfl)))
theorem II(a b:Int)(ha:cell a=true)(hb0:cell b=true):Con Tryz.prog 150 [.int .i64 3,.int .i64 a,.int .i64 b] (aa [.int .i64 3,.int .i64 a,.int .i64 b]) (.tup [.int .i64 (bU 3 a b).1,.bool (bU 3 a b).2]):=by
 have qa: -2147483648≤a∧a≤2147483647:=aN ha
 have qb: -2147483648≤b∧b≤2147483647:=aN hb0
 have qm:=fq qa qb
 have w:IntKind.i64.wrap (a*b)=a*b:=ai (by omega) (by omega)
 refine rn 88 Tryz.func150 [.tmp 6,.tmp 7] (g:= ?_)
 conv=>whnf
 refine aP ?_
 (refine aA ?_;((rw[w];rfl)))
theorem F9(a b:Int)(ha:cell a=true)(hb0:cell b=true):Con Tryz.prog 150 [.int .i64 4,.int .i64 a,.int .i64 b] (aa [.int .i64 4,.int .i64 a,.int .i64 b]) (.tup [.int .i64 (bU 4 a b).1,.bool (bU 4 a b).2]):=by
 have qa: -2147483648≤a∧a≤2147483647:=aN ha
 have qb: -2147483648≤b∧b≤2147483647:=aN hb0
 have qm:=fq qa qb
 have hq:=nE a b
 have hm:=tG a b
 have wq:IntKind.i64.wrap (a.tdiv b)=a.tdiv b:=ai (by omega) (by omega)
 have wq1:IntKind.i64.wrap (a.tdiv b-1)=a.tdiv b-1:=ai (by omega) (by omega)
 have wm:IntKind.i64.wrap (a.tmod b+b)=a.tmod b+b:=ai (by omega) (by omega)
 refine rn 88 Tryz.func150 [.tmp 6,.tmp 7] (g:= ?_)
 conv=>whnf
 refine aP ?_
 (refine bN ?_ ?_<;>intro hb)
 refine aP ?_
 rotate_left
 iterate 5 (first|refine aP ?_|(refine bN ?_ ?_<;>intro hb))
 rotate_left
 refine aP ?_
 rotate_left
 refine aP ?_
 rotate_left
 ·exact aA (by rw[(DG hb).1])
 ·have hc:=GM (by assumption) hb
  exact aA (by rw[wq,wq1,F4 (by assumption),cn,if_pos hc];rfl)
 ·have hc:=HD (by assumption) hb
  exact aA (by rw[wq,F4 (by assumption),cn,if_neg hc];rfl)
 ·have hc:=HT hb
  exact aA (by rw[wq,F4 (by assumption),cn,if_neg hc];rfl)
theorem Gc(a b:Int)(ha:cell a=true)(hb0:cell b=true):Con Tryz.prog 150 [.int .i64 5,.int .i64 a,.int .i64 b] (aa [.int .i64 5,.int .i64 a,.int .i64 b]) (.tup [.int .i64 (bU 5 a b).1,.bool (bU 5 a b).2]):=by
 have qa: -2147483648≤a∧a≤2147483647:=aN ha
 have qb: -2147483648≤b∧b≤2147483647:=aN hb0
 have qm:=fq qa qb
 have hq:=nE a b
 have hm:=tG a b
 have wq:IntKind.i64.wrap (a.tdiv b)=a.tdiv b:=ai (by omega) (by omega)
 have wq1:IntKind.i64.wrap (a.tdiv b-1)=a.tdiv b-1:=ai (by omega) (by omega)
 have wm:IntKind.i64.wrap (a.tmod b+b)=a.tmod b+b:=ai (by omega) (by omega)
 refine rn 88 Tryz.func150 [.tmp 6,.tmp 7] (g:= ?_)
 conv=>whnf
 refine aP ?_
 (refine bN ?_ ?_<;>intro hb)
 refine aP ?_
 rotate_left
 iterate 5 (first|refine aP ?_|(refine bN ?_ ?_<;>intro hb))
 rotate_left
 refine aP ?_
 rotate_left
 refine aP ?_
 rotate_left
 ·exact aA (by rw[(DG hb).2])
 ·have hc:=GM (by assumption) hb
  exact aA (by rw[wm,FY (by assumption),←tD hc])
 ·have hc:=HD (by assumption) hb
  exact aA (by rw[FY (by assumption),←nF hc])
 ·have hc:=HT hb
  exact aA (by rw[FY (by assumption),←nF hc])
theorem JJ(a b:Int)(ha:cell a=true)(hb0:cell b=true):Con Tryz.prog 150 [.int .i64 6,.int .i64 a,.int .i64 b] (aa [.int .i64 6,.int .i64 a,.int .i64 b]) (.tup [.int .i64 (bU 6 a b).1,.bool (bU 6 a b).2]):=by
 have qa: -2147483648≤a∧a≤2147483647:=aN ha
 have qb: -2147483648≤b∧b≤2147483647:=aN hb0
 have qm:=fq qa qb
 exact rn 88 Tryz.func150 [.tmp 6,.tmp 7] (g:=go)
theorem Jo(a b:Int)(ha:cell a=true)(hb0:cell b=true):Con Tryz.prog 150 [.int .i64 7,.int .i64 a,.int .i64 b] (aa [.int .i64 7,.int .i64 a,.int .i64 b]) (.tup [.int .i64 (bU 7 a b).1,.bool (bU 7 a b).2]):=by
 have qa: -2147483648≤a∧a≤2147483647:=aN ha
 have qb: -2147483648≤b∧b≤2147483647:=aN hb0
 have qm:=fq qa qb
 exact rn 88 Tryz.func150 [.tmp 6,.tmp 7] (g:=go)
theorem Ju(a b:Int)(ha:cell a=true)(hb0:cell b=true):Con Tryz.prog 150 [.int .i64 8,.int .i64 a,.int .i64 b] (aa [.int .i64 8,.int .i64 a,.int .i64 b]) (.tup [.int .i64 (bU 8 a b).1,.bool (bU 8 a b).2]):=by
 have qa: -2147483648≤a∧a≤2147483647:=aN ha
 have qb: -2147483648≤b∧b≤2147483647:=aN hb0
 have qm:=fq qa qb
 exact rn 88 Tryz.func150 [.tmp 6,.tmp 7] (g:=go)
theorem Js(a b:Int)(ha:cell a=true)(hb0:cell b=true):Con Tryz.prog 150 [.int .i64 9,.int .i64 a,.int .i64 b] (aa [.int .i64 9,.int .i64 a,.int .i64 b]) (.tup [.int .i64 (bU 9 a b).1,.bool (bU 9 a b).2]):=by
 have qa: -2147483648≤a∧a≤2147483647:=aN ha
 have qb: -2147483648≤b∧b≤2147483647:=aN hb0
 have qm:=fq qa qb
 refine rn 88 Tryz.func150 [.tmp 6,.tmp 7] (g:= ?_)
 conv=>whnf
 refine aP ?_
 (refine bN ?_ ?_<;>intro hb)
 refine aP ?_
 rotate_left
 refine aP ?_
 (apply ac (by(((have i1:=aN (show bh b 0 31=true by assumption);exact decide_eq_true (by omega)))));conv=>whnf)
 refine aP ?_
 rotate_left
 ·exact aA (by rw[(Ic hb).1])
 ·have i1:=aN hb
  have e1:min b.toNat IntKind.i64.bits=b.toNat:=Nat.min_eq_left (show b.toNat≤64 by omega)
  exact aA (by rw[e1,Ku hb];show AV.tup [.int .i64 (wc (IntKind.i64.wrap _)),_]=_;rw[kM (pn (a*2 ^ b.toNat))])
theorem HP(a b:Int)(ha:cell a=true)(hb0:cell b=true):Con Tryz.prog 150 [.int .i64 10,.int .i64 a,.int .i64 b] (aa [.int .i64 10,.int .i64 a,.int .i64 b]) (.tup [.int .i64 (bU 10 a b).1,.bool (bU 10 a b).2]):=by
 have qa: -2147483648≤a∧a≤2147483647:=aN ha
 have qb: -2147483648≤b∧b≤2147483647:=aN hb0
 have qm:=fq qa qb
 refine rn 88 Tryz.func150 [.tmp 6,.tmp 7] (g:= ?_)
 conv=>whnf
 refine aP ?_
 (refine bN ?_ ?_<;>intro hb)
 refine aP ?_
 rotate_left
 refine aP ?_
 (apply ac (by(((have i1:=aN (show bh b 0 31=true by assumption);exact decide_eq_true (by omega)))));conv=>whnf)
 refine aP ?_
 rotate_left
 ·exact aA (by rw[(Ic hb).2])
 ·have i1:=aN hb
  have e1:min b.toNat IntKind.i64.bits=b.toNat:=Nat.min_eq_left (show b.toNat≤64 by omega)
  exact aA (by rw[e1,Gh hb];rfl)
theorem IU(a b:Int)(ha:cell a=true)(hb0:cell b=true):Con Tryz.prog 173 [.int .i64 1,.int .i64 a,.int .i64 b] (aa [.int .i64 1,.int .i64 a,.int .i64 b]) (.tup [.int .i64 (bU 1 a b).1,.bool (bU 1 a b).2]):=by
 have qa: -2147483648≤a∧a≤2147483647:=aN ha
 have qb: -2147483648≤b∧b≤2147483647:=aN hb0
 have qm:=fq qa qb
 have w:IntKind.i64.wrap (a+b)=a+b:=ai (by omega) (by omega)
 refine rn 84 Tryz.func173 [.tmp 6,.tmp 7] (g:= ?_)
 conv=>whnf
 refine aP ?_
 (refine aA ?_;((rw[w];rfl)))
theorem JL(a b:Int)(ha:cell a=true)(hb0:cell b=true):Con Tryz.prog 173 [.int .i64 2,.int .i64 a,.int .i64 b] (aa [.int .i64 2,.int .i64 a,.int .i64 b]) (.tup [.int .i64 (bU 2 a b).1,.bool (bU 2 a b).2]):=by
 have qa: -2147483648≤a∧a≤2147483647:=aN ha
 have qb: -2147483648≤b∧b≤2147483647:=aN hb0
 have qm:=fq qa qb
 have w:IntKind.i64.wrap (a-b)=a-b:=ai (by omega) (by omega)
 refine rn 84 Tryz.func173 [.tmp 6,.tmp 7] (g:= ?_)
 conv=>whnf
 refine aP ?_
 (refine aA ?_;((rw[w];rfl)))
theorem I9(a b:Int)(ha:cell a=true)(hb0:cell b=true):Con Tryz.prog 173 [.int .i64 3,.int .i64 a,.int .i64 b] (aa [.int .i64 3,.int .i64 a,.int .i64 b]) (.tup [.int .i64 (bU 3 a b).1,.bool (bU 3 a b).2]):=by
 have qa: -2147483648≤a∧a≤2147483647:=aN ha
 have qb: -2147483648≤b∧b≤2147483647:=aN hb0
 have qm:=fq qa qb
 have w:IntKind.i64.wrap (a*b)=a*b:=ai (by omega) (by omega)
 refine rn 84 Tryz.func173 [.tmp 6,.tmp 7] (g:= ?_)
 conv=>whnf
 refine aP ?_
 (refine aA ?_;((rw[w];rfl)))
theorem HI(a b:Int)(ha:cell a=true)(hb0:cell b=true):Con Tryz.prog 173 [.int .i64 4,.int .i64 a,.int .i64 b] (aa [.int .i64 4,.int .i64 a,.int .i64 b]) (.tup [.int .i64 (bU 4 a b).1,.bool (bU 4 a b).2]):=by
 have qa: -2147483648≤a∧a≤2147483647:=aN ha
 have qb: -2147483648≤b∧b≤2147483647:=aN hb0
 have qm:=fq qa qb
 refine rn 84 Tryz.func173 [.tmp 6,.tmp 7] (g:= ?_)
 conv=>whnf
 iterate 8 (first|(apply ac rfl;(conv=>whnf))|(apply bH rfl;(conv=>whnf))|(apply aK rfl;(conv=>whnf))|(refine ck ?_ ?_<;>intro hb<;>(try simp only[ew]at hb)<;>conv=>whnf))
 rotate_left
 iterate 12 ((first|apply ac rfl|refine aG (fun hf=> ?_)|apply bH rfl|apply aH|refine ah (c174 ..) ?_|refine ah (c194 a b ha hb0 (by assumption) ..) ?_);conv=>whnf)
 rotate_left
 ·exact aA (by rw[(DG hb).1])
 ·exact aA (by rw[F4 hb])
theorem G8(a b:Int)(ha:cell a=true)(hb0:cell b=true):Con Tryz.prog 173 [.int .i64 5,.int .i64 a,.int .i64 b] (aa [.int .i64 5,.int .i64 a,.int .i64 b]) (.tup [.int .i64 (bU 5 a b).1,.bool (bU 5 a b).2]):=by
 have qa: -2147483648≤a∧a≤2147483647:=aN ha
 have qb: -2147483648≤b∧b≤2147483647:=aN hb0
 have qm:=fq qa qb
 refine rn 84 Tryz.func173 [.tmp 6,.tmp 7] (g:= ?_)
 conv=>whnf
 iterate 8 (first|(apply ac rfl;(conv=>whnf))|(apply bH rfl;(conv=>whnf))|(apply aK rfl;(conv=>whnf))|(refine ck ?_ ?_<;>intro hb<;>(try simp only[ew]at hb)<;>conv=>whnf))
 rotate_left
 iterate 8 ((first|apply ac rfl|refine aG (fun hf=> ?_)|apply aK rfl|apply aH|refine ah (c194 a b ha hb0 (by assumption) ..) ?_);conv=>whnf)
 rotate_left
 ·exact aA (by rw[(DG hb).2])
 ·have e:a-cn a b*b=a.tmod b∨a-cn a b*b=a.tmod b+b:=by
   by_cases hc:a.tmod b≠0∧((a<0)≠(b<0))
   ·exact .inr (tD hc).symm
   ·exact .inl (nF hc).symm
  have hm:=tG a b
  have w1:IntKind.i64.wrap (cn a b*b)=cn a b*b:=ai (by omega) (by omega)
  have w2:IntKind.i64.wrap (a-cn a b*b)=a-cn a b*b:=ai (by omega) (by omega)
  exact aA (by rw[w1,w2,FY hb])
theorem JP(a b:Int)(ha:cell a=true)(hb0:cell b=true):Con Tryz.prog 173 [.int .i64 6,.int .i64 a,.int .i64 b] (aa [.int .i64 6,.int .i64 a,.int .i64 b]) (.tup [.int .i64 (bU 6 a b).1,.bool (bU 6 a b).2]):=by
 have qa: -2147483648≤a∧a≤2147483647:=aN ha
 have qb: -2147483648≤b∧b≤2147483647:=aN hb0
 have qm:=fq qa qb
 exact rn 84 Tryz.func173 [.tmp 6,.tmp 7] (g:=go)
theorem JV(a b:Int)(ha:cell a=true)(hb0:cell b=true):Con Tryz.prog 173 [.int .i64 7,.int .i64 a,.int .i64 b] (aa [.int .i64 7,.int .i64 a,.int .i64 b]) (.tup [.int .i64 (bU 7 a b).1,.bool (bU 7 a b).2]):=by
 have qa: -2147483648≤a∧a≤2147483647:=aN ha
 have qb: -2147483648≤b∧b≤2147483647:=aN hb0
 have qm:=fq qa qb
 exact rn 84 Tryz.func173 [.tmp 6,.tmp 7] (g:=go)
theorem Jv(a b:Int)(ha:cell a=true)(hb0:cell b=true):Con Tryz.prog 173 [.int .i64 8,.int .i64 a,.int .i64 b] (aa [.int .i64 8,.int .i64 a,.int .i64 b]) (.tup [.int .i64 (bU 8 a b).1,.bool (bU 8 a b).2]):=by
 have qa: -2147483648≤a∧a≤2147483647:=aN ha
 have qb: -2147483648≤b∧b≤2147483647:=aN hb0
 have qm:=fq qa qb
 exact rn 84 Tryz.func173 [.tmp 6,.tmp 7] (g:=go)
theorem IS(a b:Int)(ha:cell a=true)(hb0:cell b=true):Con Tryz.prog 173 [.int .i64 9,.int .i64 a,.int .i64 b] (aa [.int .i64 9,.int .i64 a,.int .i64 b]) (.tup [.int .i64 (bU 9 a b).1,.bool (bU 9 a b).2]):=by
 have qa: -2147483648≤a∧a≤2147483647:=aN ha
 have qb: -2147483648≤b∧b≤2147483647:=aN hb0
 have qm:=fq qa qb
 refine rn 84 Tryz.func173 [.tmp 6,.tmp 7] (g:= ?_)
 conv=>whnf
 refine aP ?_
 (refine bN ?_ ?_<;>intro hb)
 refine aP ?_
 rotate_left
 (apply ac (by(((have i1:=aN (show bh b 0 31=true by assumption);rw[hU (by omega) (by omega)];exact decide_eq_true (by omega)))));conv=>whnf)
 refine aP ?_
 rotate_left
 ·exact aA (by rw[(Ic hb).1])
 ·have i1:=aN hb
  have e1:min (IntKind.u64.wrap b).toNat IntKind.u32.bits=b.toNat:=by rw[hU (by omega) (by omega)];exact Nat.min_eq_left (show b.toNat≤32 by omega)
  exact aA (by rw[e1,Ku hb];show AV.tup [.int .i64 (wc (IntKind.u32.wrap (IntKind.u32.wrap (IntKind.i32.wrap a)*2 ^ b.toNat))),_]=_;rw[←Ae,kM (pn (a*2 ^ b.toNat))])
theorem GP(a b:Int)(ha:cell a=true)(hb0:cell b=true):Con Tryz.prog 173 [.int .i64 10,.int .i64 a,.int .i64 b] (aa [.int .i64 10,.int .i64 a,.int .i64 b]) (.tup [.int .i64 (bU 10 a b).1,.bool (bU 10 a b).2]):=by
 have qa: -2147483648≤a∧a≤2147483647:=aN ha
 have qb: -2147483648≤b∧b≤2147483647:=aN hb0
 have qm:=fq qa qb
 refine rn 84 Tryz.func173 [.tmp 6,.tmp 7] (g:= ?_)
 conv=>whnf
 refine aP ?_
 (refine bN ?_ ?_<;>intro hb)
 refine aP ?_
 rotate_left
 (apply ac (by(((have i1:=aN (show bh b 0 31=true by assumption);rw[hU (by omega) (by omega)];exact decide_eq_true (by omega)))));conv=>whnf)
 refine aP ?_
 rotate_left
 ·exact aA (by rw[(Ic hb).2])
 ·have i1:=aN hb
  have e1:min (IntKind.u64.wrap b).toNat IntKind.u32.bits=b.toNat:=by rw[hU (by omega) (by omega)];exact Nat.min_eq_left (show b.toNat≤32 by omega)
  exact aA (by rw[e1,Gh hb,GT];rfl)
end P2

/- Prims' parts, by the program: pushes, cells, what is said; contracts. -/
open Go Go.Abs Go.Proofs V1 H1 F1 F2 T1 T2 T3 P1 P2
namespace P3
theorem lO{x y:AV}(h:x=y):Sh x y:=h▸Sh.refl x
def dA(d:Dat)(l:List Int):Dat × Int:=if 32<d.st.length+l.length then(d,-3)else({d with st:=d.st++l},0)
theorem CO{d:Dat}{l:List Int}(h:32<d.st.length+l.length):dA d l=(d,-3):=by rw[dA,if_pos h]
theorem BV{d:Dat}{l:List Int}(h: ¬32<d.st.length+l.length):dA d l=({d with st:=d.st++l},0):=by rw[dA,if_neg h]
theorem c151(d:Dat)(l:List Int)(h:d.st.length≤32)(hl:l.length≤4):Con Tryz.prog 151 [.obj (aw d),dE l] [.obj (aw (dA d l).1),.undef] (.int .i64 (dA d l).2):=by
 have w1:IntKind.i64.wrap ((d.st.length:Int)+(l.length:Int))=((d.st.length+l.length:Nat):Int):=by rw[ai (by omega) (by omega)];omega
 refine rp 23 Tryz.func151 [.tmp 4] (g:= ?_)
 conv=>whnf
 refine aP ?_
 (refine bN ?_ ?_<;>intro hb)
 refine aP ?_
 rotate_left
 refine aP ?_
 rotate_left
 ·rw[w1]at hb
  rw[CO (by omega)]
  exact go
 ·rw[w1]at hb
  rw[BV (by omega)]
  (refine aq (by rfl) ?_;conv=>whnf)
  refine aP ?_
  rotate_left
  refine na (Sh.agg ⟨Sh.trans (lO ?_) (Sh.flat_map (f:=aj) (fun _=>rfl) (d.st++l)),Sh.refl _,Sh.refl _,Sh.refl _,Sh.refl _,Sh.refl _,trivial⟩) ?_
  ·simp[am,List.take_of_length_le]
  ·conv=>whnf
   exact True.intro
instance:CC 151:=⟨_,@c151⟩
theorem rS{c:Int}(qc: -2147483648≤c∧c≤2147483647):IntKind.i64.wrap (0-c)= -c:=by rw[ai (by omega) (by omega)];omega
theorem EZ(b c:Int)(qb: -2147483648≤b∧b≤2147483647)(qc: -2147483648≤c∧c≤2147483647):Con Tryz.prog 153 [.int .i64 25,.int .i64 b,.int .i64 c] (aa [.int .i64 25,.int .i64 b,.int .i64 c]) (.int .i64 (aM 25 b c)):=by
 refine rn 85 Tryz.func153 [.tmp 6] (g:= ?_)
 conv=>whnf
 refine aP ?_
 (refine aA ?_;((rw[rS qc];rfl)))
theorem Fm(b c:Int)(qb: -2147483648≤b∧b≤2147483647)(qc: -2147483648≤c∧c≤2147483647):Con Tryz.prog 153 [.int .i64 26,.int .i64 b,.int .i64 c] (aa [.int .i64 26,.int .i64 b,.int .i64 c]) (.int .i64 (aM 26 b c)):=by
 refine rn 85 Tryz.func153 [.tmp 6] (g:= ?_)
 conv=>whnf
 refine aP ?_
 (refine aA ?_;((have e:(if-c>c then-c else c)=max c (-c):=(by rw[Int.max_def];split<;>split<;>omega);rw[rS qc,e];rfl)))
theorem EF(b c:Int)(qb: -2147483648≤b∧b≤2147483647)(qc: -2147483648≤c∧c≤2147483647):Con Tryz.prog 153 [.int .i64 27,.int .i64 b,.int .i64 c] (aa [.int .i64 27,.int .i64 b,.int .i64 c]) (.int .i64 (aM 27 b c)):=by
 refine rn 85 Tryz.func153 [.tmp 6] (g:= ?_)
 conv=>whnf
 refine aP ?_
 (refine aA ?_;((rw[rS qc,ai (by omega) (by omega)];rfl)))
theorem EH(b c:Int)(qb: -2147483648≤b∧b≤2147483647)(qc: -2147483648≤c∧c≤2147483647):Con Tryz.prog 153 [.int .i64 28,.int .i64 b,.int .i64 c] (aa [.int .i64 28,.int .i64 b,.int .i64 c]) (.int .i64 (aM 28 b c)):=by
 refine rn 85 Tryz.func153 [.tmp 6] (g:= ?_)
 conv=>whnf
 refine aP ?_
 (refine aA ?_;((rw[ai (n:=c+1) (by omega) (by omega)];rfl)))
theorem FG(b c:Int)(qb: -2147483648≤b∧b≤2147483647)(qc: -2147483648≤c∧c≤2147483647):Con Tryz.prog 153 [.int .i64 29,.int .i64 b,.int .i64 c] (aa [.int .i64 29,.int .i64 b,.int .i64 c]) (.int .i64 (aM 29 b c)):=by
 refine rn 85 Tryz.func153 [.tmp 6] (g:= ?_)
 conv=>whnf
 refine aP ?_
 (refine aA ?_;((rw[ai (n:=c-1) (by omega) (by omega)];rfl)))
theorem D5(b c:Int)(qb: -2147483648≤b∧b≤2147483647)(qc: -2147483648≤c∧c≤2147483647):Con Tryz.prog 153 [.int .i64 30,.int .i64 b,.int .i64 c] (aa [.int .i64 30,.int .i64 b,.int .i64 c]) (.int .i64 (aM 30 b c)):=by
 refine rn 85 Tryz.func153 [.tmp 6] (g:= ?_)
 conv=>whnf
 refine aP ?_
 (refine aA ?_;((have e:(if c<b then c else b)=min b c:=(by rw[Int.min_def];split<;>split<;>omega);rw[e];rfl)))
theorem EB(b c:Int)(qb: -2147483648≤b∧b≤2147483647)(qc: -2147483648≤c∧c≤2147483647):Con Tryz.prog 153 [.int .i64 31,.int .i64 b,.int .i64 c] (aa [.int .i64 31,.int .i64 b,.int .i64 c]) (.int .i64 (aM 31 b c)):=by
 refine rn 85 Tryz.func153 [.tmp 6] (g:= ?_)
 conv=>whnf
 refine aP ?_
 (refine aA ?_;((have e:(if c>b then c else b)=max b c:=(by rw[Int.max_def];split<;>split<;>omega);rw[e];rfl)))
theorem D9(b c:Int)(qb: -2147483648≤b∧b≤2147483647)(qc: -2147483648≤c∧c≤2147483647):Con Tryz.prog 153 [.int .i64 32,.int .i64 b,.int .i64 c] (aa [.int .i64 32,.int .i64 b,.int .i64 c]) (.int .i64 (aM 32 b c)):=
 rn 85 Tryz.func153 [.tmp 6] (g:=go)
theorem EP(b c:Int)(qb: -2147483648≤b∧b≤2147483647)(qc: -2147483648≤c∧c≤2147483647):Con Tryz.prog 153 [.int .i64 33,.int .i64 b,.int .i64 c] (aa [.int .i64 33,.int .i64 b,.int .i64 c]) (.int .i64 (aM 33 b c)):=
 rn 85 Tryz.func153 [.tmp 6] (g:=go)
theorem E1(b c:Int)(qb: -2147483648≤b∧b≤2147483647)(qc: -2147483648≤c∧c≤2147483647):Con Tryz.prog 153 [.int .i64 34,.int .i64 b,.int .i64 c] (aa [.int .i64 34,.int .i64 b,.int .i64 c]) (.int .i64 (aM 34 b c)):=
 rn 85 Tryz.func153 [.tmp 6] (g:=go)
theorem ER(b c:Int)(qb: -2147483648≤b∧b≤2147483647)(qc: -2147483648≤c∧c≤2147483647):Con Tryz.prog 153 [.int .i64 35,.int .i64 b,.int .i64 c] (aa [.int .i64 35,.int .i64 b,.int .i64 c]) (.int .i64 (aM 35 b c)):=
 rn 85 Tryz.func153 [.tmp 6] (g:=go)
theorem FV(b c:Int)(qb: -2147483648≤b∧b≤2147483647)(qc: -2147483648≤c∧c≤2147483647):Con Tryz.prog 153 [.int .i64 36,.int .i64 b,.int .i64 c] (aa [.int .i64 36,.int .i64 b,.int .i64 c]) (.int .i64 (aM 36 b c)):=
 rn 85 Tryz.func153 [.tmp 6] (g:=go)
theorem FJ(b c:Int)(qb: -2147483648≤b∧b≤2147483647)(qc: -2147483648≤c∧c≤2147483647):Con Tryz.prog 153 [.int .i64 37,.int .i64 b,.int .i64 c] (aa [.int .i64 37,.int .i64 b,.int .i64 c]) (.int .i64 (aM 37 b c)):=
 rn 85 Tryz.func153 [.tmp 6] (g:=go)
theorem EI(b c:Int)(qb: -2147483648≤b∧b≤2147483647)(qc: -2147483648≤c∧c≤2147483647):Con Tryz.prog 153 [.int .i64 38,.int .i64 b,.int .i64 c] (aa [.int .i64 38,.int .i64 b,.int .i64 c]) (.int .i64 (aM 38 b c)):=
 rn 85 Tryz.func153 [.tmp 6] (g:=go)
theorem c186(d:Dat)(hd:0≤d.he∧d.he≤32):Con Tryz.prog 186 [.obj (aw d)] [.obj (aw d)] (.int .i64 (4096+4*d.he)):=by
 have w1:IntKind.i64.wrap (4*d.he)=4*d.he:=ai (by omega) (by omega)
 have w2:IntKind.i64.wrap (4096+4*d.he)=4096+4*d.he:=ai (by omega) (by omega)
 refine rp 9 Tryz.func186 [.tmp 2] (g:= ?_)
 conv=>whnf
 refine aP ?_
 rotate_left
 rw[w1,w2]
 exact go
instance:CC 186:=⟨_,@c186⟩
theorem DJ{d:Dat}{t:List UInt8}(h:300<d.ou.length+t.length):cy d t=(d,-17):=by rw[cy,if_pos h]
theorem DI{d:Dat}{t:List UInt8}(h: ¬300<d.ou.length+t.length):cy d t=({d with ou:=d.ou++t},0):=by rw[cy,if_neg h]
theorem c188(d:Dat)(t:List UInt8)(h:d.ou.length≤300)(ht:t.length≤1000):Con Tryz.prog 188 [.obj (aw d),.str t] [.obj (aw (cy d t).1),.undef] (.int .i64 (cy d t).2):=by
 have w1:IntKind.i64.wrap ((d.ou.length:Int)+(t.length:Int))=((d.ou.length+t.length:Nat):Int):=by rw[ai (by omega) (by omega)];omega
 refine rp 22 Tryz.func188 [.tmp 4] (g:= ?_)
 conv=>whnf
 refine bJ ?_
 (refine bN ?_ ?_<;>intro hb)
 refine bJ ?_
 rotate_left
 refine bJ ?_
 rotate_left
 ·rw[w1]at hb
  rw[DJ (by omega)]
  exact go
 ·rw[w1]at hb
  rw[DI (by omega)]
  iterate 9 (first|(apply ac rfl;(conv=>whnf))|(refine ac (by(((exact decide_eq_true (by unfold gj;omega))))) ?_;(conv=>whnf))|(refine ag (al (by solve|simp[bc]|fail)) ?_;(conv=>whnf))|(refine aq (by rfl) ?_;(conv=>whnf))|(exact True.intro))
instance:CC 188:=⟨_,@c188⟩
theorem tF{d:Dat}{a:Int}(h:bh a 4096 (4096+4*d.he-1)=false∨ ¬a.tmod 4=0):bQ d a=none:=by
 rw[bQ,if_neg]
 rintro ⟨h1,h2⟩
 rcases h with h|h
 ·rw[h]at h1;cases h1
 ·exact h h2
theorem qT{d:Dat}{a:Int}(h1:bh a 4096 (4096+4*d.he-1)=true)(h2:a.tmod 4=0):bQ d a=some ((a-4096).tdiv 4).toNat:=by rw[bQ,if_pos ⟨h1,h2⟩]
theorem gn{d:Dat}{a:Int}{k:Nat}(h:bQ d a=some k)(hd:0≤d.he∧d.he≤32):(k:Int)<d.he∧(a-4096).tdiv 4=k:=by
 unfold bQ at h
 split at h
 ·rename_i hc
  have h1:=aN hc.1
  injection h with h
  have e:(a-4096).tdiv 4=(a-4096)/4:=Int.tdiv_eq_ediv_of_nonneg (by omega)
  rw[e]at h⊢
  omega
 ·cases h
theorem c184(d:Dat)(a:Int)(hd:0≤d.he∧d.he≤32)(qa: -2147483648≤a∧a≤2147483647):Con Tryz.prog 184 [.obj (aw d),.int .i64 a] [.obj (aw d),.undef] (.tup [.int .i64 (((bQ d a).getD 0:Nat):Int),.bool (bQ d a).isSome]):=by
 have w1:IntKind.i64.wrap (4*d.he)=4*d.he:=ai (by omega) (by omega)
 have w2:IntKind.i64.wrap (4096+4*d.he)=4096+4*d.he:=ai (by omega) (by omega)
 have w3:IntKind.i64.wrap (4096+4*d.he-1)=4096+4*d.he-1:=ai (by omega) (by omega)
 have w4:IntKind.i64.wrap (a-4096)=a-4096:=ai (by omega) (by omega)
 refine rp 24 Tryz.func184 [.tmp 4,.tmp 5] (g:= ?_)
 conv=>whnf
 refine aP ?_
 (refine bN ?_ ?_<;>intro hb)
 refine aP ?_
 rotate_left
 refine aP ?_
 (refine bN ?_ ?_<;>intro hb)
 refine aP ?_
 rotate_left
 refine aP ?_
 rotate_left
 ·rw[w1,w2,w3]at hb
  rw[tF (.inl hb)]
  exact go
 ·rw[tF (.inr hb)]
  exact go
 ·have h1:bh a 4096 (4096+4*d.he-1)=true:=by rw[←w3,←w2,←w1];assumption
  have hk:=gn (qT h1 hb) hd
  rw[qT h1 hb]
  generalize ((a-4096).tdiv 4).toNat=k at hk
  rw[w4,hk.2,ai (by omega) (by omega)]
  exact go
instance:CC 184:=⟨_,@c184⟩
theorem jb{xs:List Int}{i j:Nat}{z:List AV}{v:Int}(h:j<xs.length)(e:i=j):be (xs.map aj) i 0 z [.int .i64 v]=(xs.set j v).map aj:=by subst e;exact gL _ _ _ _ h
theorem xM{d:Dat}{a n:Int}(h:bQ d a=none):bT d a n=(d,-9):=by rw[bT,h]
theorem nC{d:Dat}{a n:Int}{k:Nat}(h:bQ d a=some k):bT d a n=({d with ce:=d.ce.set k n},0):=by rw[bT,h]
theorem c185(d:Dat)(a n:Int)(hd:0≤d.he∧d.he≤32)(hc:d.ce.length=32)(qa: -2147483648≤a∧a≤2147483647):Con Tryz.prog 185 [.obj (aw d),.int .i64 a,.int .i64 n] [.obj (aw (bT d a n).1),.undef,.undef] (.int .i64 (bT d a n).2):=by
 have k1:=c184 d a hd qa
 cases hk:bQ d a with
 |none=>
  rw[hk]at k1
  have k2:Con Tryz.prog 184 [.obj (aw d),.int .i64 a] [.obj (aw d),.undef] (.tup [.int .i64 0,.bool false]):=k1
  rw[xM hk]
  refine rp 24 Tryz.func185 [.tmp 6] (g:= ?_)
  conv=>whnf
  repeat' (first|(refine ay 184 [some 6,none] ?_;conv=>whnf)|(refine eH (k2 ..) ?_;conv=>whnf)|(focus (refine aq (by rfl) ?_;conv=>whnf))|exact True.intro|refine aP ?_)
  all_goals skip
 |some k=>
  rw[hk]at k1
  have k2:Con Tryz.prog 184 [.obj (aw d),.int .i64 a] [.obj (aw d),.undef] (.tup [.int .i64 k,.bool true]):=k1
  have hl:=gn hk hd
  rw[nC hk]
  refine rp 24 Tryz.func185 [.tmp 6] (g:= ?_)
  conv=>whnf
  repeat' (first|(apply ag (by(exact jb (j:=k) (by omega) (by omega)));conv=>whnf)|(refine ay 184 [some 6,none] ?_;conv=>whnf)|(refine eH (k2 ..) ?_;conv=>whnf)|(focus (refine aq (by rfl) ?_;conv=>whnf))|exact True.intro|refine bJ ?_|refine ie ?_)
instance:CC 185:=⟨_,@c185⟩
theorem iq{d:Dat}{n:Int}(h: ¬n.tmod 4=0∨bh (d.he+n.tdiv 4) 0 32=false):aJ d n=(d,-8):=by rw[aJ,if_pos h]
theorem lq{d:Dat}{n:Int}(h1:n.tmod 4=0)(h2:bh (d.he+n.tdiv 4) 0 32=true):aJ d n=({d with ce:=pN d.ce d.he (d.he+n.tdiv 4),he:=d.he+n.tdiv 4},0):=by rw[aJ,if_neg (by simp[h1,h2])]
def zr(ce:List Int)(a j:Nat):List Int:=ce.take a++List.replicate j 0++ce.drop (a+j)
theorem kR{ce:List Int}{a j:Nat}(h:a+j≤ce.length):(zr ce a j).length=ce.length:=by simp[zr];omega
theorem G0(ce:List Int)(a:Nat):zr ce a 0=ce:=by simp[zr]
theorem xg{ce:List Int}{a j:Nat}(h:a+j<ce.length):(zr ce a j).set (a+j) 0=zr ce a (j+1):=by
 have hl:(zr ce a j).length=ce.length:=kR (by omega)
 apply List.ext_getElem?
 intro i
 rw[List.getElem?_set]
 simp only[hl]
 simp only[zr,List.getElem?_append,List.length_append,List.length_take,List.length_replicate,Nat.min_eq_left (show a≤ce.length by omega),List.getElem?_take,List.getElem?_replicate,List.getElem?_drop]
 by_cases h1:a+j=i
 ·subst h1
  simp[h,show ¬a+j<a by omega,show a+j<a+(j+1) by omega]
 ·by_cases h2:i<a
  ·simp[h1,h2,show i<a+j by omega,show i<a+(j+1) by omega]
  ·by_cases h3:i<a+j
   ·simp[h1,h2,h3,show i<a+(j+1) by omega,show i-a<j by omega,show i-a<j+1 by omega]
   ·have e:a+j+(i-(a+j))=a+(j+1)+(i-(a+(j+1))):=by omega
    simp only[h1,h2,h3,show ¬i<a+(j+1) by omega,if_false,e]
theorem kQ{ce:List Int}{a q:Int}(h:0≤a)(h2:0≤a+q):pN ce a (a+q)=zr ce a.toNat q.toNat:=by
 unfold pN zr
 rw[show a+q-a=q by omega]
 by_cases hq:0≤q
 ·rw[show max a.toNat (a+q).toNat=a.toNat+q.toNat by omega]
 ·rw[show max a.toNat (a+q).toNat=a.toNat+q.toNat by omega]
theorem c187(d:Dat)(n:Int)(hd:0≤d.he∧d.he≤32)(hc:d.ce.length=32)(qn: -2147483648≤n∧n≤2147483647):Con Tryz.prog 187 [.obj (aw d),.int .i64 n] [.obj (aw (aJ d n).1),.undef] (.int .i64 (aJ d n).2):=by
 have hq:=nE n 4
 have wq:IntKind.i64.wrap (n.tdiv 4)=n.tdiv 4:=ai (by omega) (by omega)
 have w1:IntKind.i64.wrap (d.he+n.tdiv 4)=d.he+n.tdiv 4:=ai (by omega) (by omega)
 refine rp 50 Tryz.func187 [.tmp 4] (g:= ?_)
 conv=>whnf
 refine bJ ?_
 (refine bN ?_ ?_<;>intro hb)
 refine bJ ?_
 rotate_left
 refine bJ ?_
 (refine bN ?_ ?_<;>intro hb)
 refine bJ ?_
 rotate_left
 refine bJ ?_
 rotate_left
 ·rw[iq (.inl hb)]
  exact go
 ·rw[wq,w1]at hb
  rw[iq (.inr hb)]
  exact go
 rw[wq,w1]at hb
 have hi:=aN hb
 have h4:n.tmod 4=0:=by assumption
 rw[lq h4 hb,kQ hd.1 hi.1]
 refine LoopG.auto (α:=Nat) bI dN [0,1,5] (fun j=>[(0,.ptr 500000 0 0),(1,.int .i64 n),(5,.int .i64 (d.he+j))]) (fun j=>[(500000,.live ⟨false,0,[.undef,.undef,.undef,.undef,.undef,.undef],[[.ref 2 0 d.st.length,.ref 3 0 d.bk.length,.ref 4 0 d.ce.length,.int .i64 d.he,.int .i64 d.ba,.str d.ou]]⟩),(2,.live ⟨true,0,zI,d.st.map aj⟩),(3,.live ⟨true,0,zI,d.bk.map aj⟩),(4,.live ⟨true,0,zI,(zr d.ce d.he.toNat j).map aj⟩)]) (fun j=>j≤(n.tdiv 4).toNat) (fun j=>(n.tdiv 4).toNat-j) ?_ ?_
 ·conv=>whnf
  refine bJ ?_
  rotate_left
  exact aE 0 (by omega) (by simp) (by simp[G0])
 ·rintro j hj- -
  by_cases hlt:j<(n.tdiv 4).toNat
  ·have gd:decide (d.he+(j:Int)<IntKind.i64.wrap (d.he+IntKind.i64.wrap (n.tdiv 4)))=true:=by rw[wq,w1];exact decide_eq_true (by omega)
   have hz:=kR (ce:=d.ce) (a:=d.he.toNat) (j:=j) (by omega)
   conv=>whnf
   iterate 3 (first|(apply ag (by(exact jb (j:=d.he.toNat+j) (by rw[hz];omega) (by omega)));conv=>whnf)|refine bJ ?_)
   rotate_left
   refine aE (j+1) ⟨by omega,by omega⟩ (by rw[ai (by omega) (by omega),show d.he+(j:Int)+1=d.he+((j+1:Nat):Int) by omega]) ?_
   rw[xg (by omega)]
  ·have gd:decide (d.he+(j:Int)<IntKind.i64.wrap (d.he+IntKind.i64.wrap (n.tdiv 4)))=false:=by rw[wq,w1];exact decide_eq_false (by omega)
   conv=>whnf
   iterate 5 (first|refine ie ?_|(refine aq (by rfl) ?_;conv=>whnf)|refine bJ ?_)
   rotate_left
   obtain rfl:j=(n.tdiv 4).toNat:=by omega
   have hz:=kR (ce:=d.ce) (a:=d.he.toNat) (j:=(n.tdiv 4).toNat) (by omega)
   rw[wq,w1,List.drop_zero,List.take_of_length_le (by omega)]
   exact go
instance:CC 187:=⟨_,@c187⟩
end P3

/- Prims on cells and on the output, by the program; contracts. -/
open Go Go.Abs Go.Proofs V1 H1 F1 F2 T1 T2 T3 P1 P2 P3
namespace P4
def cV(p:Nat)(d:Dat)(b c:Int):Dat × Int:=match p with
 |39=>match bQ d c with
  |none=>(d,-9)
  |some k=>dA d [d.ce.getD k 0]
 |40=>bT d c b
 |41=>match bQ d c with
  |none=>(d,-9)
  |some k=>({d with ce:=d.ce.set k (wc (d.ce.getD k 0+b))},0)
 |42=>dA d [4096+4*d.he]
 |43=>aJ d c
 |44=>if(aJ d 4).2≠0 then aJ d 4 else bT (aJ d 4).1 (4096+4*d.he) c
 |45=>cy d [UInt8.ofNat (c%256).toNat]
 |46=>cy d (md c d.ba.toNat++[32])
 |47=>cy d [10]
 |48=>cy d [32]
 |49=>({d with ba:=10},0)
 |_=>({d with ba:=16},0)
structure Dk(d:Dat):Prop where
 he:0≤d.he∧d.he≤32
 ce:d.ce.length=32
 st:d.st.length≤32
 ou:d.ou.length≤300
 ba:2≤d.ba∧d.ba≤16
 cs: ∀n∈d.ce,-2147483648≤n∧n≤2147483647
theorem Ge(d:Dat)(b c:Int)(h:Dk d)(qc: -2147483648≤c∧c≤2147483647):Con Tryz.prog 154 [.obj (aw d),.int .i64 39,.int .i64 b,.int .i64 c] [.obj (aw (cV 39 d b c).1),.undef,.undef,.undef] (.int .i64 (cV 39 d b c).2):=by
 have k1:=c184 d c h.he qc
 cases hk:bQ d c with
 |none=>
  rw[hk]at k1
  have k2:Con Tryz.prog 184 [.obj (aw d),.int .i64 c] [.obj (aw d),.undef] (.tup [.int .i64 0,.bool false]):=k1
  rw[show cV 39 d b c=(d,-9) by simp only[cV,hk]]
  refine rp 127 Tryz.func154 [.tmp 8] (g:= ?_)
  conv=>whnf
  repeat' (first|(refine ay 184 [some 6,none] ?_;conv=>whnf)|(refine eH (k2 ..) ?_;conv=>whnf)|(focus (refine aq (by rfl) ?_;conv=>whnf))|exact True.intro|refine aP ?_)
  all_goals skip
 |some k=>
  rw[hk]at k1
  have k2:Con Tryz.prog 184 [.obj (aw d),.int .i64 c] [.obj (aw d),.undef] (.tup [.int .i64 k,.bool true]):=k1
  have hl:=gn hk h.he
  have hc:=h.ce
  have hh:=h.he
  have k3:=c151 d [d.ce.getD k 0] h.st (by simp)
  rw[show cV 39 d b c=dA d [d.ce.getD k 0] by simp only[cV,hk]]
  refine rp 127 Tryz.func154 [.tmp 8] (g:= ?_)
  conv=>whnf
  repeat' (first|(refine aD (by((try simp only[Nat.zero_add,Int.toNat_natCast]);exact aF aj _ _ _ 0 (by omega))) ?_;conv=>whnf)|(refine ay 184 [some 6,none] ?_;conv=>whnf)|(refine eH (k2 ..) ?_;conv=>whnf)|(refine ay 151 [some 6,none] ?_;conv=>whnf)|(refine eH (k3 ..) ?_;conv=>whnf)|(focus (refine aq (by rfl) ?_;conv=>whnf))|exact True.intro|refine bJ ?_|refine ie ?_)
  all_goals skip
theorem GW(d:Dat)(b c:Int)(h:Dk d)(qb: -2147483648≤b∧b≤2147483647)(qc: -2147483648≤c∧c≤2147483647):Con Tryz.prog 154 [.obj (aw d),.int .i64 40,.int .i64 b,.int .i64 c] [.obj (aw (cV 40 d b c).1),.undef,.undef,.undef] (.int .i64 (cV 40 d b c).2):=by
 have hc:=h.ce
 have hh:=h.he
 have k1:=c185 d c b h.he h.ce qc
 rw[show cV 40 d b c=bT d c b from rfl]
 refine rp 127 Tryz.func154 [.tmp 8] (g:= ?_)
 conv=>whnf
 repeat' (first|(refine ay 185 [some 6,none,none] ?_;conv=>whnf)|(refine eH (k1 ..) ?_;conv=>whnf)|(focus (refine aq (by rfl) ?_;conv=>whnf))|exact True.intro|refine aP ?_)
theorem HR(d:Dat)(b c:Int)(h:Dk d)(qb: -2147483648≤b∧b≤2147483647)(qc: -2147483648≤c∧c≤2147483647):Con Tryz.prog 154 [.obj (aw d),.int .i64 41,.int .i64 b,.int .i64 c] [.obj (aw (cV 41 d b c).1),.undef,.undef,.undef] (.int .i64 (cV 41 d b c).2):=by
 have hc:=h.ce
 have hh:=h.he
 have k1:=c184 d c h.he qc
 cases hk:bQ d c with
 |none=>
  rw[hk]at k1
  have k2:Con Tryz.prog 184 [.obj (aw d),.int .i64 c] [.obj (aw d),.undef] (.tup [.int .i64 0,.bool false]):=k1
  rw[show cV 41 d b c=(d,-9) by simp only[cV,hk]]
  refine rp 127 Tryz.func154 [.tmp 8] (g:= ?_)
  conv=>whnf
  repeat' (first|(refine ay 184 [some 6,none] ?_;conv=>whnf)|(refine eH (k2 ..) ?_;conv=>whnf)|(focus (refine aq (by rfl) ?_;conv=>whnf))|exact True.intro|refine aP ?_)
 |some k=>
  rw[hk]at k1
  have k2:Con Tryz.prog 184 [.obj (aw d),.int .i64 c] [.obj (aw d),.undef] (.tup [.int .i64 k,.bool true]):=k1
  have hl:=gn hk h.he
  have hq: -2147483648≤d.ce.getD k 0∧d.ce.getD k 0≤2147483647:=h.cs _ (by rw[List.getD_eq_getElem?_getD,List.getElem?_eq_getElem (by omega)];exact List.getElem_mem _)
  have w1:IntKind.i64.wrap (d.ce.getD k 0+b)=d.ce.getD k 0+b:=ai (by omega) (by omega)
  rw[show cV 41 d b c=({d with ce:=d.ce.set k (wc (d.ce.getD k 0+b))},0) by simp only[cV,hk]]
  rw[←w1]
  refine rp 127 Tryz.func154 [.tmp 8] (g:= ?_)
  conv=>whnf
  repeat' (first|(refine aD (by((try simp only[Nat.zero_add,Int.toNat_natCast]);exact aF aj _ _ _ 0 (by omega))) ?_;conv=>whnf)|(apply ag (by(exact jb (j:=k) (by omega) (by omega)));conv=>whnf)|(refine ay 184 [some 6,none] ?_;conv=>whnf)|(refine eH (k2 ..) ?_;conv=>whnf)|(focus (refine aq (by rfl) ?_;conv=>whnf))|exact True.intro|refine bJ ?_|refine ie ?_)
  all_goals skip
theorem HZ(d:Dat)(b c:Int)(h:Dk d)(qb: -2147483648≤b∧b≤2147483647)(qc: -2147483648≤c∧c≤2147483647):Con Tryz.prog 154 [.obj (aw d),.int .i64 42,.int .i64 b,.int .i64 c] [.obj (aw (cV 42 d b c).1),.undef,.undef,.undef] (.int .i64 (cV 42 d b c).2):=by
 have hc:=h.ce
 have hh:=h.he
 have k1:=c186 d h.he
 have k2:=c151 d [4096+4*d.he] h.st (by simp)
 rw[show cV 42 d b c=dA d [4096+4*d.he]from rfl]
 refine rp 127 Tryz.func154 [.tmp 8] (g:= ?_)
 conv=>whnf
 repeat' (first|(refine ay 186 [some 6] ?_;conv=>whnf)|(refine eH (k1 ..) ?_;conv=>whnf)|(refine ay 151 [some 6,none] ?_;conv=>whnf)|(refine eH (k2 ..) ?_;conv=>whnf)|(focus (refine aq (by rfl) ?_;conv=>whnf))|exact True.intro|refine aP ?_)
theorem GU(d:Dat)(b c:Int)(h:Dk d)(qb: -2147483648≤b∧b≤2147483647)(qc: -2147483648≤c∧c≤2147483647):Con Tryz.prog 154 [.obj (aw d),.int .i64 43,.int .i64 b,.int .i64 c] [.obj (aw (cV 43 d b c).1),.undef,.undef,.undef] (.int .i64 (cV 43 d b c).2):=by
 have hc:=h.ce
 have hh:=h.he
 have k1:=c187 d c h.he h.ce qc
 rw[show cV 43 d b c=aJ d c from rfl]
 refine rp 127 Tryz.func154 [.tmp 8] (g:= ?_)
 conv=>whnf
 repeat' (first|(refine ay 187 [some 6,none] ?_;conv=>whnf)|(refine eH (k1 ..) ?_;conv=>whnf)|(focus (refine aq (by rfl) ?_;conv=>whnf))|exact True.intro|refine aP ?_)
theorem Hp(d:Dat)(b c:Int)(h:Dk d)(qb: -2147483648≤b∧b≤2147483647)(qc: -2147483648≤c∧c≤2147483647):Con Tryz.prog 154 [.obj (aw d),.int .i64 44,.int .i64 b,.int .i64 c] [.obj (aw (cV 44 d b c).1),.undef,.undef,.undef] (.int .i64 (cV 44 d b c).2):=by
 have hc:=h.ce
 have hh:=h.he
 have k0:=c186 d h.he
 have k1:=c187 d 4 h.he h.ce (by omega)
 have hx:(aJ d 4).2≠0∨((aJ d 4).2=0∧(0≤(aJ d 4).1.he∧(aJ d 4).1.he≤32)∧(aJ d 4).1.ce.length=32):=by
  by_cases hi:bh (d.he+(4:Int).tdiv 4) 0 32=true
  ·have h2:=aN hi
   rw[lq rfl hi]
   refine .inr ⟨rfl,h2,?_⟩
   rw[kQ hh.1 h2.1,kR]
   ·exact hc
   ·have:(4:Int).tdiv 4=1:=rfl
    omega
  ·rw[iq (.inr (by simpa using hi))]
   exact .inl (by simp)
 rcases hx with hx|⟨hx,h2,h3⟩
 ·rw[show cV 44 d b c=aJ d 4 by simp only[cV];rw[if_pos hx]]
  have hx2:((aJ d 4).2 != 0)=true:=bne_iff_ne.2 hx
  generalize aJ d 4=x at k1 hx hx2
  refine rp 127 Tryz.func154 [.tmp 8] (g:= ?_)
  conv=>whnf
  repeat' (first|(refine ay 186 [some 6] ?_;conv=>whnf)|(refine eH (k0 ..) ?_;conv=>whnf)|(refine ay 187 [some 6,none] ?_;conv=>whnf)|(refine eH (k1 ..) ?_;conv=>whnf)|(focus (refine aq (by rfl) ?_;conv=>whnf))|exact True.intro|refine aP ?_)
  all_goals skip
 ·rw[show cV 44 d b c=bT (aJ d 4).1 (4096+4*d.he) c by simp only[cV];rw[if_neg (by rw[hx];simp)]]
  have k2:=c185 (aJ d 4).1 (4096+4*d.he) c h2 h3 (by omega)
  have hx2:((aJ d 4).2 != 0)=false:=by rw[hx];rfl
  generalize aJ d 4=x at k1 k2 hx hx2
  refine rp 127 Tryz.func154 [.tmp 8] (g:= ?_)
  conv=>whnf
  repeat' (first|(refine ay 186 [some 6] ?_;conv=>whnf)|(refine eH (k0 ..) ?_;conv=>whnf)|(refine ay 187 [some 6,none] ?_;conv=>whnf)|(refine eH (k1 ..) ?_;conv=>whnf)|(refine ay 185 [some 6,none,none] ?_;conv=>whnf)|(refine eH (k2 ..) ?_;conv=>whnf)|(focus (refine aq (by rfl) ?_;conv=>whnf))|exact True.intro|refine aP ?_)
  all_goals skip
theorem HB(d:Dat)(b c:Int)(h:Dk d)(qb: -2147483648≤b∧b≤2147483647)(qc: -2147483648≤c∧c≤2147483647):Con Tryz.prog 154 [.obj (aw d),.int .i64 45,.int .i64 b,.int .i64 c] [.obj (aw (cV 45 d b c).1),.undef,.undef,.undef] (.int .i64 (cV 45 d b c).2):=by
 have hc:=h.ce
 have hh:=h.he
 have e:UInt8.ofNat (IntKind.u8.wrap c).toNat=UInt8.ofNat (c%256).toNat:=rfl
 have k1:=c188 d [UInt8.ofNat (IntKind.u8.wrap c).toNat] h.ou (by simp)
 rw[show cV 45 d b c=cy d [UInt8.ofNat (IntKind.u8.wrap c).toNat]from rfl]
 refine rp 127 Tryz.func154 [.tmp 8] (g:= ?_)
 conv=>whnf
 iterate 12 (first|exact True.intro|(refine aq (by rfl) ?_;conv=>whnf)|refine ie ?_|(refine eH (k1 ..) ?_;conv=>whnf)|(refine ay 188 [some 6,none] ?_;conv=>whnf)|(refine lZ rfl ?_;conv=>whnf)|refine bJ ?_)
 all_goals skip
theorem GV(d:Dat)(b c:Int)(h:Dk d)(qb: -2147483648≤b∧b≤2147483647)(qc: -2147483648≤c∧c≤2147483647):Con Tryz.prog 154 [.obj (aw d),.int .i64 46,.int .i64 b,.int .i64 c] [.obj (aw (cV 46 d b c).1),.undef,.undef,.undef] (.int .i64 (cV 46 d b c).2):=by
 have hc:=h.ce
 have hh:=h.he
 have eb:((d.ba.toNat:Nat):Int)=d.ba:=by have:=h.ba;omega
 have hcell:cell c=true:=by simp[cell,bh];omega
 have hb16:2≤d.ba.toNat∧d.ba.toNat≤16:=by have:=h.ba;omega
 have k0:=c189 c d.ba.toNat hcell hb16
 have hl:=xp c hb16.1 hcell
 rw[eb]at k0
 have k1:=c188 d (md c d.ba.toNat++[32]) h.ou (by simp;omega)
 rw[show cV 46 d b c=cy d (md c d.ba.toNat++[32])from rfl]
 refine rp 127 Tryz.func154 [.tmp 8] (g:= ?_)
 conv=>whnf
 repeat' (first|(apply ac (by(((exact decide_eq_true (by unfold gj;simp;omega)))));conv=>whnf)|(refine ay 188 [some 6,none] ?_;conv=>whnf)|(refine eH (k1 ..) ?_;conv=>whnf)|(refine ah (k0 ..) ?_;conv=>whnf)|(focus (refine aq (by rfl) ?_;conv=>whnf))|exact True.intro|refine aP ?_)
 all_goals skip
theorem GI(d:Dat)(b c:Int)(h:Dk d)(qb: -2147483648≤b∧b≤2147483647)(qc: -2147483648≤c∧c≤2147483647):Con Tryz.prog 154 [.obj (aw d),.int .i64 47,.int .i64 b,.int .i64 c] [.obj (aw (cV 47 d b c).1),.undef,.undef,.undef] (.int .i64 (cV 47 d b c).2):=by
 have hc:=h.ce
 have hh:=h.he
 have k1:=c188 d [10] h.ou (by simp)
 rw[show cV 47 d b c=cy d [10]from rfl]
 refine rp 127 Tryz.func154 [.tmp 8] (g:= ?_)
 conv=>whnf
 repeat' (first|(refine ay 188 [some 6,none] ?_;conv=>whnf)|(refine eH (k1 ..) ?_;conv=>whnf)|(focus (refine aq (by rfl) ?_;conv=>whnf))|exact True.intro|refine aP ?_)
theorem Hq(d:Dat)(b c:Int)(h:Dk d)(qb: -2147483648≤b∧b≤2147483647)(qc: -2147483648≤c∧c≤2147483647):Con Tryz.prog 154 [.obj (aw d),.int .i64 48,.int .i64 b,.int .i64 c] [.obj (aw (cV 48 d b c).1),.undef,.undef,.undef] (.int .i64 (cV 48 d b c).2):=by
 have hc:=h.ce
 have hh:=h.he
 have k1:=c188 d [32] h.ou (by simp)
 rw[show cV 48 d b c=cy d [32]from rfl]
 refine rp 127 Tryz.func154 [.tmp 8] (g:= ?_)
 conv=>whnf
 repeat' (first|(refine ay 188 [some 6,none] ?_;conv=>whnf)|(refine eH (k1 ..) ?_;conv=>whnf)|(focus (refine aq (by rfl) ?_;conv=>whnf))|exact True.intro|refine aP ?_)
theorem GA(d:Dat)(b c:Int)(h:Dk d)(qb: -2147483648≤b∧b≤2147483647)(qc: -2147483648≤c∧c≤2147483647):Con Tryz.prog 154 [.obj (aw d),.int .i64 49,.int .i64 b,.int .i64 c] [.obj (aw (cV 49 d b c).1),.undef,.undef,.undef] (.int .i64 (cV 49 d b c).2):=by
 have hc:=h.ce
 have hh:=h.he
 exact rp 127 Tryz.func154 [.tmp 8] (g:=go)
theorem GO(d:Dat)(b c:Int)(h:Dk d)(qb: -2147483648≤b∧b≤2147483647)(qc: -2147483648≤c∧c≤2147483647):Con Tryz.prog 154 [.obj (aw d),.int .i64 50,.int .i64 b,.int .i64 c] [.obj (aw (cV 50 d b c).1),.undef,.undef,.undef] (.int .i64 (cV 50 d b c).2):=by
 have hc:=h.ce
 have hh:=h.he
 exact rp 127 Tryz.func154 [.tmp 8] (g:=go)
end P4
