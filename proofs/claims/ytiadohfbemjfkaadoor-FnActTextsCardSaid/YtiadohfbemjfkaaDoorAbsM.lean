/- The abstract layer, 24: a region that draws its order may be walked in its text's order. -/
import Derived.Test.YtiadohfbemjfkaaDoorAbsL
set_option linter.unusedVariables false
set_option linter.unusedSimpArgs false
noncomputable section
namespace Go.Abs
open Go
section
variable{P:Program}{T:TT}{E:Env}{o:Oper}{st st':St}{a:Act}{w:World}{X:Cells}{loc:Locs}{ob:Nat→Cells}{r:Res}
theorem after_t(o:Oper)(r:Res)(st:St)(k:Nat)(hk: ∀d,o.dst=some d→k≠d):(st.after o r).t k=st.t k:=by
 unfold St.after
 cases hd:o.dst with
 |none=>simp[St.put,mws_t]
 |some d=>simp[St.put,upd,hk d hd,mws_t]
theorem after_m(o:Oper)(r:Res)(st:St)(b:Nat)(hb:b∉r.2.map (·.1)):(st.after o r).m b=st.m b:=by
 unfold St.after
 have: ∀(d:Option Nat)(v:AV)(s:St),(s.put d v).m=s.m:=by intro d v s;cases d<;>rfl
 rw[this]
 exact mws_other _ _ fun p hp e=>hb (List.mem_map.2 ⟨p,hp,e⟩)
theorem after_n(o:Oper)(r:Res)(st:St):(st.after o r).n=st.n:=by
 unfold St.after
 have: ∀(d:Option Nat)(v:AV)(s:St),(s.put d v).n=s.n:=by intro d v s;cases d<;>rfl
 rw[this,mws_n]
theorem after_t_dst(o:Oper)(r:Res)(st:St)(d:Nat)(hd:o.dst=some d):(st.after o r).t d=r.1:=by
 unfold St.after
 rw[hd]
 simp[St.put,upd]
theorem mws_m_in(l:List (Nat × MB)): ∀(s s':St)(b:Nat),b∈l.map (·.1)→(s.mws l).m b=(s'.mws l).m b:=by
 induction l with
 |nil=>intro s s' b hb;simp at hb
 |cons p l ih=>
  intro s s' b hb
  by_cases h:b∈l.map (·.1)
  ·exact ih _ _ b h
  ·have hne: ∀q∈l,q.1≠b:=fun q hq e=>h (List.mem_map.2 ⟨q,hq,e⟩)
   simp only[St.mws]
   rw[mws_other l _ hne,mws_other l _ hne]
   simp only[List.map_cons,List.mem_cons,h,or_false]at hb
   subst hb
   simp[upd]
theorem after_m_in(o:Oper)(r:Res)(s s':St)(b:Nat)(hb:b∈r.2.map (·.1)):(s.after o r).m b=(s'.after o r).m b:=by
 unfold St.after
 have: ∀(d:Option Nat)(v:AV)(s:St),(s.put d v).m=s.m:=by intro d v s;cases d<;>rfl
 rw[this,this]
 exact mws_m_in _ _ _ b hb
theorem apartB_spec{l l':List Nat}(h:apartB l l'=true){k:Nat}(h1:k∈l)(h2:k∈l'):False:=by
 have:=List.all_eq_true.1 h k h1
 simp[h2]at this
theorem put_an(s:St)(d:Option Nat)(v:AV):(s.put d v).an=s.an:=by cases d<;>rfl
theorem after_an(s:St)(o:Oper)(r:Res):(s.after o r).an=s.an:=by
 unfold St.after
 rw[put_an,mws_an]
theorem indep_swap{ops:List Oper}{y x:Item}{st:St}(hy:StpL P T ops y.o st y.r y.rs y.rm)(hx:StpL P T ops x.o (st.after y.o y.r) x.r x.rs x.rm)(hi:indepB y x=true):
  StpL P T ops x.o st x.r x.rs x.rm∧StpL P T ops y.o (st.after x.o x.r) y.r y.rs y.rm∧(st.after y.o y.r).after x.o x.r=(st.after x.o x.r).after y.o y.r:=by
 simp only[indepB,Bool.and_eq_true]at hi
 obtain⟨⟨⟨⟨⟨h1,h2⟩,h3⟩,h4⟩,h5⟩,h6⟩:=hi
 have dst: ∀(z:Item) d,z.o.dst=some d→d∈z.ws:=fun z d hd=>by simp[Item.ws,hd]
 have hx':StpL P T ops x.o st x.r x.rs x.rm:=hx.agree (fun k hk=>(after_t _ _ _ _ fun d hd e=>apartB_spec h1 (dst y d hd) (e▸hk)).symm) (fun b hb=>(after_m _ _ _ _ fun hm=>apartB_spec h4 hm hb).symm) (after_n _ _ _).symm
 have hy':StpL P T ops y.o (st.after x.o x.r) y.r y.rs y.rm:=hy.agree (fun k hk=>after_t _ _ _ _ fun d hd e=>apartB_spec h2 (dst x d hd) (e▸hk)) (fun b hb=>after_m _ _ _ _ fun hm=>apartB_spec h5 hm hb) (after_n _ _ _)
 refine⟨hx',hy',?_⟩
 have ext: ∀s s':St,s.n=s'.n→s.an=s'.an→(∀k,s.t k=s'.t k)→(∀b,s.m b=s'.m b)→s=s':=by
  intro s s' e1 e4 e2 e3
  cases s;cases s'
  simp only[St.mk.injEq]
  exact⟨e1,funext e2,funext e3,e4⟩
 refine ext _ _ (by simp only[after_n]) (by simp only[after_an]) (fun k=> ?_) (fun b=> ?_)
 ·by_cases hkx:x.o.dst=some k
  ·rw[after_t_dst _ _ _ _ hkx,after_t y.o _ _ _ fun d hd e=>apartB_spec h3 (dst y d hd) (e▸dst x k hkx),after_t_dst _ _ _ _ hkx]
  ·have nx: ∀d,x.o.dst=some d→k≠d:=fun d hd e=>hkx (e▸hd)
   rw[after_t x.o _ _ _ nx]
   by_cases hky:y.o.dst=some k
   ·rw[after_t_dst _ _ _ _ hky,after_t_dst _ _ _ _ hky]
   ·have ny: ∀d,y.o.dst=some d→k≠d:=fun d hd e=>hky (e▸hd)
    rw[after_t y.o _ _ _ ny,after_t y.o _ _ _ ny,after_t x.o _ _ _ nx]
 ·by_cases hbx:b∈x.r.2.map (·.1)
  ·rw[after_m y.o _ _ _ fun hm=>apartB_spec h6 hm hbx]
   exact after_m_in _ _ _ _ b hbx
  ·rw[after_m x.o _ _ _ hbx]
   by_cases hby:b∈y.r.2.map (·.1)
   ·exact after_m_in _ _ _ _ b hby
   ·rw[after_m y.o _ _ _ hby,after_m y.o _ _ _ hby,after_m x.o _ _ _ hbx]
theorem Exec.front{ops:List Oper}{x:Item}{post:List Item}: ∀(pre:List Item)(st st':St),Exec P T ops (pre++x::post) st st'→(∀y∈pre,indepB y x=true)→StpL P T ops x.o st x.r x.rs x.rm∧Exec P T ops (pre++post) (st.after x.o x.r) st'
 |[],st,st',h,_=>h
 |y::pre,st,st',⟨hy,h⟩,hi=>by
  obtain⟨hx,hrest⟩:=Exec.front pre _ _ h fun z hz=>hi z (by simp[hz])
  obtain⟨h1,h2,h3⟩:=indep_swap hy hx (hi y (by simp))
  exact⟨h1,h2,by rw[←h3];exact hrest⟩
theorem StpL.wp(hT:T.ok P)(tb:Tabs P E.w0 E.O0){ops:Array Oper}{rs rm:List Nat}(h:StpL P T ops.toList o st r rs rm)(hr:Rel E st a w none2){next:Act→World→Prop}{Q:Exit→Act→World→Prop}
  (hn: ∀a' w',Rel E (st.after o r) a' w' none2→next a' w'):
  if Region.wanted o (yielded ops a.tmps)then o.wp P a w next Q∨(o.asks P a w∧LetsOut Q)else next (a.put o.dst undef) w:=by
 exact stepW_ok (T:=T) (K:=fun s=>s=st.after o r) hT tb hr (h.2 st ⟨rfl,fun _ _=>rfl,fun _ _=>rfl⟩) fun s a' w' hs h'=>hn a' w' (hs▸h')
end
end Go.Abs
