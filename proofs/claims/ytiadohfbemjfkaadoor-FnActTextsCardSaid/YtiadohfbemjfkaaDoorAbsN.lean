/- The abstract layer, 25: the rule for a region that draws its order. -/
import Derived.Test.YtiadohfbemjfkaaDoorAbsM
set_option linter.unusedVariables false
set_option linter.unusedSimpArgs false
noncomputable section
namespace Go.Abs
open Go
section
variable{P:Program}{T:TT}{E:Env}{st st':St}{a:Act}{w:World}
def Pair(cl:List (List Nat))(y x:Item):Prop:=y.i<x.i∧((cl.getD x.i []).contains y.i=true∨indepB y x=true)
theorem dep_mem{o:Oper}{e:Edge}(h1:e∈o.after)(h2:Region.binds .any e=true):e.on∈depsOf o:=by
 unfold depsOf
 exact List.mem_map.2 ⟨e,List.mem_filter.2 ⟨by simpa using h1,h2⟩,rfl⟩
theorem mem_dep{o:Oper}{d:Nat}(h:d∈depsOf o): ∃e∈o.after,Region.binds .any e=true∧e.on=d:=by
 unfold depsOf at h
 obtain⟨e,he,rfl⟩:=List.mem_map.1 h
 obtain⟨h1,h2⟩:=List.mem_filter.1 he
 exact⟨e,by simpa using h1,h2,rfl⟩
theorem ordered_at{ops:List Oper}{cl:List (List Nat)}(h:orderedB ops cl=true){i:Nat}{o:Oper}(ho:ops[i]? =some o):(∀d∈depsOf o,d<i)∧ ∀k∈cl.getD i [],∃d∈depsOf o,d=k∨k∈cl.getD d []:=by
 have hi:i<ops.length:=(List.getElem?_eq_some_iff.1 ho).1
 have:=List.all_eq_true.1 h i (by simpa using hi)
 rw[ho]at this
 simp only[Bool.and_eq_true,List.all_eq_true,decide_eq_true_eq,List.any_eq_true,Bool.or_eq_true,beq_iff_eq]at this
 refine⟨this.1,fun k hk=> ?_⟩
 obtain⟨d,hd,h1⟩:=this.2 k hk
 exact⟨d,hd,h1.imp id fun h=>by simpa using h⟩
theorem any_ok(hT:T.ok P)(tb:Tabs P E.w0 E.O0){ops:Array Oper}{cl:List (List Nat)}{Q:Exit→Act→World→Prop}{L0:List Item}(hit: ∀x∈L0,ops[x.i]? =some x.o)(hpair:L0.Pairwise (Pair cl))(hord:orderedB ops.toList cl=true)
  (hQ: ∀a w,Rel E st' a w none2→Q .normal a w): ∀(fuel:Nat)(listed:Array Bool)(L:List Item)(st:St)(a:Act)(w:World),L.Sublist L0→listed.size=ops.size→
   (∀i,i<ops.size→(listed.getD i true=false↔ ∃x∈L,x.i=i))→(∀j,listed.getD j false=true→ ∀k∈cl.getD j [],listed.getD k false=true)→L.length=fuel→Exec P T ops.toList L st st'→
   Rel E st a w none2→wpAny P .any ops Q fuel listed a w:=by
 intro fuel
 induction fuel with
 |zero=>
  intro listed L st a w hsub hsz hiff hdc hlen hex hrel
  have hL:L=[]:=List.eq_nil_of_length_eq_zero hlen
  subst hL
  refine⟨?_,hQ _ _ (by rw[show st'=st from hex];exact hrel)⟩
  rw[List.eq_nil_iff_forall_not_mem]
  intro i hi
  obtain⟨h1,o,h2,_⟩:=mem_ready.1 hi
  have hi':i<ops.size:=(Array.getElem?_eq_some_iff.1 h2).1
  obtain⟨x,hx,_⟩:=(hiff i hi').1 h1
  simp at hx
 |succ fuel ih=>
  intro listed L st a w hsub hsz hiff hdc hlen hex hrel
  have hp:L.Pairwise (Pair cl):=hpair.sublist hsub
  have hlt: ∀x∈L,x.i<ops.size:=fun x hx=>(Array.getElem?_eq_some_iff.1 (hit x (hsub.subset hx))).1
  have hlisted: ∀d,d<ops.size→(¬ ∃x∈L,x.i=d)→listed.getD d false=true:=by
   intro d hd hno
   have h1: ¬listed.getD d true=false:=fun h=>hno ((hiff d hd).1 h)
   have hd':d<listed.size:=by omega
   simp[hd']at h1⊢
   exact h1
  refine⟨fun hnil=> ?_,fun i hi=> ?_⟩
  ·match L,hlen with
   |x0::L,_=>
    exfalso
    have hx0:=hit x0 (hsub.subset (by simp))
    have hmem:x0.i∈Region.ready .any ops listed:=by
     refine mem_ready.2 ⟨(hiff x0.i (hlt x0 (by simp))).2 ⟨x0,by simp,rfl⟩,x0.o,hx0,fun e he hb=> ?_⟩
     have hd:=(ordered_at hord (by simpa using hx0)).1 _ (dep_mem he hb)
     refine hlisted _ (Nat.lt_trans hd (hlt x0 (by simp))) ?_
     rintro ⟨y,hy,hye⟩
     simp only[List.mem_cons]at hy
     rcases hy with rfl|hy
     ·omega
     ·have:=(List.pairwise_cons.1 hp).1 y hy
      have:=this.1
      omega
    rw[hnil]at hmem
    simp at hmem
  ·obtain⟨h1,o,h2,h3⟩:=mem_ready.1 hi
   have hi':i<ops.size:=(Array.getElem?_eq_some_iff.1 h2).1
   obtain⟨x,hx,rfl⟩:=(hiff i hi').1 h1
   have hxo:o=x.o:=by
    have:=hit x (hsub.subset hx)
    rw[h2]at this
    injection this
   subst hxo
   obtain⟨pre,post,rfl⟩:=List.append_of_mem hx
   have hcl: ∀k∈cl.getD x.i [],listed.getD k false=true:=by
    intro k hk
    obtain⟨d,hd,hdk⟩:=(ordered_at hord (by simpa using h2)).2 k hk
    obtain⟨e,he,hb,rfl⟩:=mem_dep hd
    have hl:=h3 e he hb
    rcases hdk with rfl|hdk
    ·exact hl
    ·exact hdc _ hl k hdk
   have hpx: ∀y∈pre,Pair cl y x:=by
    intro y hy
    exact(List.pairwise_append.1 hp).2.2 y hy x (by simp)
   have hind: ∀y∈pre,indepB y x=true:=by
    intro y hy
    have hpy:=hpx y hy
    rcases hpy.2 with hc|hc
    ·have hl:=hcl y.i (by simpa using hc)
     have hun:=(hiff y.i (hlt y (by simp[hy]))).2 ⟨y,by simp[hy],rfl⟩
     have hd':y.i<listed.size:=by rw[hsz];exact hlt y (by simp[hy])
     simp[hd']at hl hun
     rw[hun]at hl
     cases hl
    ·exact hc
   obtain⟨hstp,hrest⟩:=Exec.front pre st st' hex hind
   unfold wpOp
   simp only[h2]
   refine hstp.wp hT tb hrel fun a' w' hrel'=> ?_
   have hpost: ∀y∈post,Pair cl x y:=fun y hy=>(List.pairwise_cons.1 (List.pairwise_append.1 hp).2.1).1 y hy
   refine ih (listed.setIfInBounds x.i true) (pre++post) _ a' w' ?_ (by simpa using hsz) (fun j hj=> ?_) (fun j hj k hk=> ?_) (by simp at hlen⊢;omega) hrest hrel'
   ·refine List.Sublist.trans ?_ hsub
    exact List.Sublist.append (List.Sublist.refl _) (List.sublist_cons_self _ _)
   ·by_cases hji:x.i=j
    ·subst hji
     have hd':x.i<listed.size:=by omega
     constructor
     ·intro h;simp[hd']at h
     ·rintro ⟨y,hy,hye⟩
      rw[List.mem_append]at hy
      rcases hy with hy|hy
      ·have:=(hpx y hy).1;omega
      ·have:=(hpost y hy).1;omega
    ·rw[getD_set_ne true hji,hiff j hj]
     constructor
     ·rintro ⟨y,hy,hye⟩
      rw[List.mem_append,List.mem_cons]at hy
      rcases hy with hy|rfl|hy
      ·exact⟨y,by simp[hy],hye⟩
      ·exact absurd hye hji
      ·exact⟨y,by simp[hy],hye⟩
     ·rintro ⟨y,hy,hye⟩
      rw[List.mem_append]at hy
      exact⟨y,by rw[List.mem_append,List.mem_cons];rcases hy with hy|hy<;>simp[hy],hye⟩
   ·by_cases hji:x.i=j
    ·subst hji
     exact getD_set_true (hcl k hk)
    ·rw[getD_set_ne false hji]at hj
     exact getD_set_true (hdc j hj k hk)
theorem regL_exec{ops:List Oper}{cl:List (List Nat)}{K:St→Prop}: ∀(rest:List Oper)(past:List Item)(i:Nat)(st:St),(∀j,rest[j]? =ops[i+j]?)→regL P T ops cl past i rest st K→
  ∃L st',Exec P T ops L st st'∧K st'∧L.length=rest.length∧(∀x∈L,i≤x.i∧ops[x.i]? =some x.o)∧(∀j,i≤j→j<i+rest.length→ ∃x∈L,x.i=j)∧L.Pairwise (Pair cl)∧
   ∀y∈past,∀x∈L,(cl.getD x.i []).contains y.i=true∨indepB y x=true
 |[],past,i,st,hl,h=>⟨[],st,rfl,h,rfl,fun x hx=>by simp at hx,fun j h1 h2=>by simp at h2;omega,List.Pairwise.nil,fun y _ x hx=>by simp at hx⟩
 |o::rest,past,i,st,hl,h=>by
  have hst: ∀(K':Res→List Nat→List Nat→Prop),stepL P T ops o st (fun r s m=>Rq (st.dstOk o.dst) (K' r s m))→ ∃r s m,StpL P T ops o st r s m∧K' r s m:=by
   intro K' h
   have hd:st.dstOk o.dst=true:=by
    have weak: ∀{α:Type}(p:RP α)(K1:α→List Nat→List Nat→Prop),(∀a s m,K1 a s m→st.dstOk o.dst=true)→p.runL st K1→st.dstOk o.dst=true:=by
     intro α p K1 hK hp
     obtain⟨a,s,m,_,hk⟩:=runL_logged hp
     exact hK a s m hk
    have wop: ∀(K1:Res→List Nat→List Nat→Prop),(∀a s m,K1 a s m→st.dstOk o.dst=true)→opL P T o st K1→st.dstOk o.dst=true:=by
     intro K1 hK hp
     obtain⟨r,s,m,hk⟩:=opL_K hp
     exact hK _ _ _ hk
    unfold stepL at h
    split at h
    ·exact wop _ (fun a s m hk=>hk.1) h
    ·rename_i q hg
     unfold guardL at h
     split at h
     ·rename_i b hb
      obtain⟨h1,h2⟩:=h
      cases b with
      |true=>
       have h1:=h1 rfl
       split at h1
       ·exact wop _ (fun a s m hk=>hk.1) h1
       ·exact h1.1
      |false=>
       have h2:=h2 rfl
       split at h2
       ·exact h2.1
       ·exact wop _ (fun a s m hk=>hk.1) h2
     ·exact h.1
     ·exact h.elim
    ·exact h.elim
   obtain⟨r,s,m,h1,h2⟩:=stepL_stp h hd
   exact⟨r,s,m,h1,h2.2⟩
  obtain⟨r,s,m,hstp,hq,hrec⟩:=hst _ h
  have h0:ops[i]? =some o:=by simpa using(hl 0).symm
  obtain⟨L,st',h1,h2,h3,h4,h5,h6,h7⟩:=regL_exec rest (⟨i,o,r,s,m⟩::past) (i+1) _ (fun j=>by have:=hl (j+1);simpa[Nat.add_assoc,Nat.add_comm 1 j]using this) hrec
  refine⟨⟨i,o,r,s,m⟩::L,st',⟨hstp,h1⟩,h2,by simp[h3],fun x hx=> ?_,fun j hj1 hj2=> ?_,List.pairwise_cons.2 ⟨fun x hx=> ?_,h6⟩,fun y hy x hx=> ?_⟩
  ·simp only[List.mem_cons]at hx
   rcases hx with rfl|hx
   ·exact⟨Nat.le_refl _,h0⟩
   ·have:=h4 x hx
    exact⟨by omega,this.2⟩
  ·by_cases hji:j=i
   ·subst hji;exact⟨⟨j,o,r,s,m⟩,by simp,rfl⟩
   ·obtain⟨x,hx,hxe⟩:=h5 j (by omega) (by simp at hj2;omega)
    exact⟨x,by simp[hx],hxe⟩
  ·exact⟨by have:=(h4 x hx).1;simp only;omega,h7 _ (by simp) x hx⟩
  ·simp only[List.mem_cons]at hx
   rcases hx with rfl|hx
   ·have:=List.all_eq_true.1 hq y hy
    simpa[Bool.or_eq_true]using this
   ·exact h7 y (by simp[hy]) x hx
theorem WP.draw(hT:T.ok P)(hm:P.follows .mixedOrders=true){id:Nat}{ops:Array Oper}{l:List Oper}(hl:ops.toList=l){Q:Ex→St→Prop}(cl:List (List Nat))(hord:orderedB l cl=true)
  (h:regL P T l cl [] 0 l st (Q .normal)):WP P (.region id ops true) Q st:=fun E tb a w hr=>by
 subst hl
 refine wp_region_any hm ?_
 obtain⟨L,st',h1,h2,h3,h4,h5,h6,_⟩:=regL_exec ops.toList [] 0 st (fun j=>by simp) h
 have hr':Rel E st a {w with drawn:=w.drawn+1} none2:=by
  obtain⟨loc,ob,hr⟩:=hr
  exact⟨loc,ob,(hr.world (Frame.drew w _ none2)).1⟩
 refine any_ok hT tb (L0:=L) (fun x hx=>by have:=(h4 x hx).2;simpa using this) h6 hord (fun a w hrel=>⟨st',h2,hrel⟩) ops.size _ L st a _ (List.Sublist.refl _) (by simp) (fun i hi=> ?_) (fun j hj=> ?_) (by simpa using h3) h1 hr'
 ·constructor
  ·intro _
   exact h5 i (Nat.zero_le _) (by simpa using hi)
  ·intro _
   simp[hi]
 ·simp at hj
  by_cases hlt:j<ops.size<;>simp[hlt]at hj
end
end Go.Abs
