/- The abstract layer, 27: what a value of the model obeys of itself: ranges and lengths. -/
import Derived.Test.YtiadohfbemjfkaaDoorAbsb
set_option linter.unusedVariables false
set_option linter.unusedSimpArgs false
noncomputable section
namespace Go.Abs
open Go
def AV.facts:Nat→AV→Prop
 |_,.int k n=>fitsK k n=true
 |_,.str s=>s.length≤maxLn
 |d+1,.ro _ rows=>rows.length≤maxLn∧ ∀row∈rows,∀x∈row,x.facts d
 |d+1,.own _ _ rows=>rows.length≤maxLn∧ ∀row∈rows,∀x∈row,x.facts d
 |d+1,.agg cs=> ∀x∈cs,x.facts d
 |d+1,.tup cs=> ∀x∈cs,x.facts d
 |d+1,.obj cs=> ∀x∈cs,x.facts d
 |d+1,.rp cs _=> ∀x∈cs,x.facts d
 |_,.ref _ _ n=>n≤maxLn
 |_,_=>True
def MB.facts(d:Nat):MB→Prop
 | .live b=>(b.arr=true→b.rows.length≤maxLn)∧ ∀row∈b.rows,∀x∈row,x.facts d
 |_=>True
section
variable{P:Program}{E:Env}{st:St}{a:Act}{w:World}{X:Cells}{loc:Locs}{ob:Nat→Cells}{R:Cells}
theorem mem_rows{rows:List (List AV)}{row:List AV}{x:AV}(h1:row∈rows)(h2:x∈row): ∃i j:Nat,rows[i]? =some row∧row[j]? =some x:=by
 obtain⟨i,hi⟩:=List.mem_iff_getElem?.1 h1
 obtain⟨j,hj⟩:=List.mem_iff_getElem?.1 h2
 exact⟨i,j,hi,hj⟩
theorem AR.facts: ∀(d:Nat){R:Cells}{loc:Locs}{x:AV}{v:Value}{O:Cells},AR w R loc x v O→x.facts d
 |d,R,loc,x,v,O,h=>by
  cases h with
  |sc h e=>cases x<;>first|exact h.elim|trivial|(cases d<;>first|exact h.2|trivial)
  |ro0 e=>cases d<;>first|trivial|exact⟨Nat.zero_le _,fun row h=>by simp at h⟩
  |ro vs e h1 h2 h3 h4 h5 h6 h7 hm=>
   cases d with
   |zero=>trivial
   |succ d=>
    refine⟨hm,fun row k1 x k2=> ?_⟩
    obtain⟨i,j,k3,k4⟩:=mem_rows k1 k2
    exact AR.facts d (h6 i j row x k3 k4)
  |own0 e=>cases d<;>first|trivial|exact⟨Nat.zero_le _,fun row h=>by simp at h⟩
  |own vs os hcap hb hw hc hx hO hd hdd h0 h1 hm=>
   cases d with
   |zero=>trivial
   |succ d=>
    refine⟨hm,fun row k1 x k2=> ?_⟩
    obtain⟨i,j,k3,k4⟩:=mem_rows k1 k2
    exact AR.facts d (hx i j row x k3 k4)
  |ref0 l e hl hn=>cases d<;>exact Nat.zero_le _
  |ref l e hl hbd hn hcap hbf hm=>cases d<;>exact hm
  |ptr l e hl hbd hi=>cases d<;>trivial
  |rp vs e h1 h2 h3 h4=>
   cases d with
   |zero=>trivial
   |succ d=>
    intro x k2
    obtain⟨j,k4⟩:=List.mem_iff_getElem?.1 k2
    exact AR.facts d (h4 j x k4)
  |fn os hn hxx hu=>cases d<;>trivial
  |obj vs os hb hk hc hx hO hd hdd=>
   cases d with
   |zero=>trivial
   |succ d=>
    intro x k2
    obtain⟨j,k4⟩:=List.mem_iff_getElem?.1 k2
    exact AR.facts d (hx j x k4)
  |agg os hn hxx hu=>
   cases d with
   |zero=>trivial
   |succ d=>
    intro x k2
    obtain⟨j,k4⟩:=List.mem_iff_getElem?.1 k2
    have hj:=(List.getElem?_eq_some_iff.1 k4).1
    exact AR.facts d (hxx j x _ k4 (Array.getElem?_eq_getElem (by omega)))
  |tup os hn hxx hu=>
   cases d with
   |zero=>trivial
   |succ d=>
    intro x k2
    obtain⟨j,k4⟩:=List.mem_iff_getElem?.1 k2
    have hj:=(List.getElem?_eq_some_iff.1 k4).1
    exact AR.facts d (hxx j x _ k4 (Array.getElem?_eq_getElem (by omega)))
theorem BR.facts(d:Nat){R:Cells}{b:Nat}{blk:Blk}{O:Cells}(h:BR w R loc b blk O):(MB.live blk).facts d:=by
 cases h with
 |arr0 l hl hn hs hbd e=>exact⟨fun _=>Nat.zero_le _,fun row h=>by simp at h⟩
 |arr l vs os hl hbd hs hn hb hw hc hx hO hd hdd h0 h1 hm=>
  refine⟨fun _=>hm,fun row k1 x k2=> ?_⟩
  obtain⟨i,j,k3,k4⟩:=mem_rows k1 k2
  exact(hx i j row x k3 k4).facts d
 | @var _ _ row _ l vs os hl hbd hs hn hz hb hc hx hO hd hdd=>
  refine⟨nofun,fun r k1 x k2=> ?_⟩
  simp only[List.mem_singleton]at k1
  subst k1
  obtain⟨j,k4⟩:=List.mem_iff_getElem?.1 k2
  by_cases hu:x.isUndef=true
  ·cases x<;>first|(cases d<;>trivial)|simp[AV.isUndef]at hu
  ·exact(hx j x k4 (by simpa using hu)).facts d
def St.Facts(st:St):Prop:=(∀k d,(st.t k).facts d)∧ ∀b d,(st.m b).facts d
theorem Rel.facts{X:Cells}(hr:Rel E st a w X):st.Facts:=by
 obtain⟨loc,ob,hrel⟩:=hr
 refine⟨fun k d=>(hrel.tm k).facts d,fun b d=> ?_⟩
 cases hm:st.m b with
 |live blk=>exact(hrel.lv b blk hm).facts d
 |_=>trivial
theorem WP.preF{c:Code}{Q:Ex→St→Prop}(h:st.Facts→WP P c Q st):WP P c Q st:=fun E tb a w hr=>h hr.facts E tb a w hr
theorem WP.postF{c:Code}{Q:Ex→St→Prop}(h:WP P c (fun e st=>st.Facts→Q e st) st):WP P c Q st:=fun E tb a w hr=>
 wp_mono (h E tb a w hr) fun e a w hl=>by
  cases e with
  |normal=>obtain⟨s,h1,h2⟩:=hl;exact⟨s,h1 h2.facts,h2⟩
  |exit id=>obtain⟨s,h1,h2⟩:=hl;exact⟨s,h1 h2.facts,h2⟩
  |ret=>obtain⟨s,h1,h2⟩:=hl;exact⟨s,h1 h2.facts,h2⟩
  |_=>exact hl.elim
theorem parts_facts: ∀{xs:List AV}{vs:List Value}{O:Cells},Parts w R loc xs vs O→ ∀x∈xs,∀d,x.facts d
 |xs,vs,O,hp,x,hx,d=>by
  obtain⟨h1,os,h2,h3⟩:=uni_of_parts _ _ _ hp
  obtain⟨j,k4⟩:=List.mem_iff_getElem?.1 hx
  have hj:=(List.getElem?_eq_some_iff.1 k4).1
  exact(h2 j x _ k4 (List.getElem?_eq_getElem (by omega))).facts d
theorem Con.facts{f:FuncId}{xs os:List AV}{res:AV}(hok:FnOk P f)(h:(∀x∈xs,∀d,x.facts d)→Con P f xs os res):Con P f xs os res:=
 ⟨hok,fun w R O vals hp hR hO tb=>(h (parts_facts hp)).calls w R O vals hp hR hO tb⟩
end
end Go.Abs
