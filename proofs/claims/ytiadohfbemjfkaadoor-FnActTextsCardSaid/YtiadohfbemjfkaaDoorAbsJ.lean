/- The abstract layer, 21: what the simplifier is told. -/
import Derived.Test.YtiadohfbemjfkaaDoorAbsI
set_option linter.unusedVariables false
set_option linter.unusedSimpArgs false
noncomputable section
namespace Go.Abs
open Go
def lookT:List (Nat × AV)→Nat→AV
 |[],_=>.undef
 |p::l,k=>if k=p.1 then p.2 else lookT l k
def lookM:List (Nat × MB)→MB→Nat→MB
 |[],d,_=>d
 |p::l,d,k=>lookM l (if k=p.1 then p.2 else d) k
def St.of(n:Nat)(ts:List (Nat × AV))(ms:List (Nat × MB)):St:=⟨n,lookT ts,lookM ms .abs,[]⟩
def number(k:Nat):List AV→List (Nat × AV)
 |[]=>[]
 |x::l=>(k,x)::number (k+1) l
def AV.in0(bs:List Nat):AV→Bool
 | .ref b _ _=>bs.contains b
 | .ptr b _ _=>bs.contains b
 |_=>true
def AV.in1(bs:List Nat):AV→Bool
 | .fn _ caps=>caps.all fun c=>c.isPtr&&c.in0 bs
 | .ref b _ _=>bs.contains b
 | .ptr b _ _=>bs.contains b
 | .agg _=>false
 | .tup _=>false
 | .obj _=>false
 |_=>true
def AV.inB(bs:List Nat):AV→Bool
 | .agg cs=>cs.all (AV.in1 bs)
 | .tup cs=>cs.all (AV.in1 bs)
 |v=>v.in1 bs
def inBlk(bs:List Nat):MB→Bool
 | .live b=>b.arr||b.rows.all fun row=>row.all (AV.in1 bs)
 |_=>true
def St.keep(st:St)(ks bs:List Nat):St:=St.of st.n (ks.map fun k=>(k,st.t k)) (bs.map fun b=>(b,st.m b))
section
variable{P:Program}{T:TT}{st:St}
theorem mws_look: ∀(l:List (Nat × MB))(st:St)(k:Nat),(st.mws l).m k=lookM l (st.m k) k
 |[],_,_=>rfl
 |p::l,st,k=>mws_look l _ k
theorem number_look: ∀(l:List AV)(j k:Nat),lookT (number j l) k=if j≤k then l.getD (k-j) .undef else .undef
 |[],j,k=>by simp[number,lookT]
 |x::l,j,k=>by
  simp only[number,lookT]
  rw[number_look l (j+1) k]
  by_cases h:k=j
  ·subst h;simp
  ·rw[if_neg h]
   by_cases h2:j+1≤k
   ·rw[if_pos h2,if_pos (by omega)]
    obtain⟨m,rfl⟩: ∃m,k=j+1+m:=⟨k-(j+1),by omega⟩
    rw[show j+1+m-(j+1)=m by omega,show j+1+m-j=m+1 by omega]
    rfl
   ·rw[if_neg h2,if_neg (by omega)]
theorem enter_of(n:Nat)(as:List AV):enter n as=St.of n (number 0 (impVals e0 as).1) (impVals e0 as).2:=by
 unfold enter St.of
 have h1:(fun k=>(impVals e0 as).1.getD k .undef)=lookT (number 0 (impVals e0 as).1):=by
  funext k;rw[number_look];simp
 have h2:(St.mws ⟨n,fun _=>.undef,fun _=>.abs,[]⟩ (impVals e0 as).2).m=lookM (impVals e0 as).2 .abs:=by
  funext k;rw[mws_look]
 rw[h1,←h2]
 simp only[mws_n,mws_an]
theorem Con.of{f:FuncId}{fn:Func}{c:Code}{as:List AV}{res:AV}(n:Nat)(hT:T.ok P)(hf:P.funcs[f]? =some fn)(hn:(fn.name== "runtime.NumGoroutine")=false)(hb:fn.body=some c)(hok:as.all impValOk=true)
  (hnn:as.length+(fn.ntmps-as.length)=n)(rs:List ResultVar)(hrs:fn.results.toList=rs)
  (h:WP P c (retQ T rs res) (St.of n (number 0 (impVals e0 as).1) (impVals e0 as).2)):Con P f as (undefs as) res:=by
 refine Con.of_WP hT hf hn hb hok ?_
 rw[enter_of,hnn,hrs]
 exact h
variable{w:World}{R:Cells}{E:Env}{a:Act}{X:Cells}
def cut(loc:Locs)(bs:List Nat):Locs:=fun b=>if bs.contains b=true then loc b else none
theorem cut_in{loc:Locs}{bs:List Nat}{b:Nat}(h:bs.contains b=true):cut loc bs b=loc b:=if_pos h
theorem AR.in0{loc:Locs}{x:AV}{v:Value}{O:Cells}{bs:List Nat}(h:AR w R loc x v O)(hx:x.isPtr=true)(hb:x.in0 bs=true):AR w R (cut loc bs) x v O:=by
 cases h with
 |ptr l e hl hbd hi=>exact .ptr l e ((cut_in hb).trans hl) hbd hi
 |rp vs e h1 h2 h3 h4=>exact .rp vs e h1 h2 h3 h4
 |sc h e=>cases x<;>first|exact h.elim|simp[AV.isPtr]at hx
 |_=>simp[AV.isPtr]at hx
theorem AR.in1{loc:Locs}{x:AV}{v:Value}{O:Cells}{bs:List Nat}(h:AR w R loc x v O)(hb:x.in1 bs=true):AR w R (cut loc bs) x v O:=by
 cases h with
 |sc h e=>exact .sc h e
 |ro0 e=>exact .ro0 e
 |ro vs e h1 h2 h3 h4 h5 h6 h7 hm=>exact .ro vs e h1 h2 h3 h4 h5 h6 h7 hm
 |own0 e=>exact .own0 e
 |own vs os h1 h2 h3 h4 h5 h6 h7 h8 h9 h10 hm=>exact .own vs os h1 h2 h3 h4 h5 h6 h7 h8 h9 h10 hm
 |ref0 l e hl hn=>exact .ref0 l e ((cut_in hb).trans hl) hn
 |ref l e hl hbd hn hcap hbf hm=>exact .ref l e ((cut_in hb).trans hl) hbd hn hcap hbf hm
 |ptr l e hl hbd hi=>exact .ptr l e ((cut_in hb).trans hl) hbd hi
 |rp vs e h1 h2 h3 h4=>exact .rp vs e h1 h2 h3 h4
 | @fn _ f caps vs _ os hn hxx hu=>
  simp only[AV.in1,List.all_eq_true,Bool.and_eq_true]at hb
  exact .fn os hn (fun k x v h1 h2=>(hxx k x v h1 h2).in0 (hb x (List.mem_of_getElem? h1)).1 (hb x (List.mem_of_getElem? h1)).2) hu
 |obj _ _ _ _ _ _ _ _ _=>simp[AV.in1]at hb
 |agg _ _ _ _=>simp[AV.in1]at hb
 |tup _ _ _ _=>simp[AV.in1]at hb
theorem AR.inB{loc:Locs}{x:AV}{v:Value}{O:Cells}{bs:List Nat}(h:AR w R loc x v O)(hb:x.inB bs=true):AR w R (cut loc bs) x v O:=by
 cases x with
 |agg cs=>
  cases h with
  |sc h e=>exact h.elim
  |agg os hn hxx hu=>
   simp only[AV.inB,List.all_eq_true]at hb
   exact .agg os hn (fun k x v h1 h2=>(hxx k x v h1 h2).in1 (hb x (List.mem_of_getElem? h1))) hu
 |tup cs=>
  cases h with
  |sc h e=>exact h.elim
  |tup os hn hxx hu=>
   simp only[AV.inB,List.all_eq_true]at hb
   exact .tup os hn (fun k x v h1 h2=>(hxx k x v h1 h2).in1 (hb x (List.mem_of_getElem? h1))) hu
 |_=>exact h.in1 hb
end
end Go.Abs
