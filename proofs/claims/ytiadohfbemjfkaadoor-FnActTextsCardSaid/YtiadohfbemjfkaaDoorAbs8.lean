/- The abstract layer, 31: rows that list laid variables. -/
import Derived.Test.YtiadohfbemjfkaaDoorAbs7
import Derived.Lib.LaidTab
import Derived.MakeChecks
import Derived.LaidLaws
set_option linter.unusedVariables false
set_option linter.unusedSimpArgs false
noncomputable section
namespace Go.Abs
open Go
theorem tab_of_laid{P:Program}{W:World}{name:String}{k:IntKind}{zs:List Int}{g:Nat}{t e:TypeId}{n:Nat}
  (hg:P.globalNamed name=some g)(hty:(P.globals[g]?).map (·.type)=some t)(ht:P.underlying t=some (.array n e))(he:P.underlying e=some (.int k))(hce:P.cellsOf e=1)(hct:P.cellsOf t=n):
  ∀{l:List (String × DataW Unit)}{ps:List MemPlace},DataW.LaidVars P W l ps→(name,Lib.tabData k zs)∈l→Lib.TabIs P W name k zs
 |[],_,_,hm=>by simp at hm
 |(nm,d)::l,ps,⟨g',t',cs,fuel,p,q,hg',ht',hvar,hd,hr,_⟩,hm=>by
  rcases List.mem_cons.1 hm with hm|hm
  ·simp only[Prod.mk.injEq]at hm
   obtain⟨rfl,rfl⟩:=hm
   obtain rfl:=Option.some.inj (hg.symm.trans hg')
   obtain rfl:=Option.some.inj (hty.symm.trans ht')
   unfold Lib.TabIs
   rw[hvar,←Lib.cells_of_tab ht he hce hct hd]
  ·exact tab_of_laid hg hty ht he hce hct hr hm
theorem tab_cells{P:Program}{W:World}{name:String}{k:IntKind}{zs:List Int}{g:Nat}(h:Lib.TabIs P W name k zs)(hg:P.globalNamed name=some g):
  ∃e fz,W.heap[g]? =some (.cells (zs.map fun z=>Value.int k z).toArray e fz):=by
 unfold Lib.TabIs World.var? at h
 rw[hg]at h
 simp only[Option.bind_some]at h
 split at h
 ·rename_i cs e fz hh
  injection h with h
  subst h
  exact⟨_,_,hh⟩
 ·cases h
theorem err_of_laid{P:Program}{W:World}{name nm:String}{d:DataW Unit}{g:Nat}{t:TypeId}{ms:Array (String × TypeId)}
  (hg:P.globalNamed name=some g)(hty:(P.globals[g]?).map (·.type)=some t)(ht:P.underlying t=some (.interface ms)):
  ∀{l:List (String × DataW Unit)}{ps:List MemPlace},DataW.LaidVars P W l ps→(name,DataW.iface nm d)∈l→ ∃u v,W.var? P name=some #[.iface u v]
 |[],_,_,hm=>by simp at hm
 |(nm',d')::l,ps,⟨g',t',cs,fuel,p,q,hg',ht',hvar,hd,hr,_⟩,hm=>by
  rcases List.mem_cons.1 hm with hm|hm
  ·simp only[Prod.mk.injEq]at hm
   obtain⟨rfl,rfl⟩:=hm
   obtain rfl:=Option.some.inj (hg.symm.trans hg')
   obtain rfl:=Option.some.inj (hty.symm.trans ht')
   obtain⟨_,u,v,hcs,_⟩:=iface_of_trod ht hd
   refine⟨u,v,?_⟩
   rw[hvar]
   congr 1
   exact Array.toList_inj.1 hcs
  ·exact err_of_laid hg hty ht hr hm
theorem err_cells{P:Program}{W:World}{name:String}{g:Nat}(h: ∃u v,W.var? P name=some #[.iface u v])(hg:P.globalNamed name=some g):
  ∃t p e fz,W.heap[g]? =some (.cells #[.iface t p] e fz):=by
 obtain⟨u,v,h⟩:=h
 unfold World.var? at h
 rw[hg]at h
 simp only[Option.bind_some]at h
 split at h
 ·rename_i cs e fz hh
  injection h with h
  subst h
  exact⟨_,_,_,_,hh⟩
 ·cases h
end Go.Abs
