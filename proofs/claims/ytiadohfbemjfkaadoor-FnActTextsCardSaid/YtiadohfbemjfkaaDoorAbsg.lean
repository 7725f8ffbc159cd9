/- The abstract layer: calls with pointers, in regions that draw: what they read and what they write. -/
import Derived.Test.YtiadohfbemjfkaaDoorAbsN
set_option linter.unusedVariables false
set_option linter.unusedSimpArgs false
noncomputable section
namespace Go.Abs
open Go
abbrev Wr:=List (Nat × MB)
def expO:List AV→St→Option (List AV × Wr × List Nat)
 |[],st=>some ([],[],[])
 |x::l,st=>match (expLeaf x).run st with
  |some p=>match expO l (st.mws p.2)with
   |some (ys,W,L)=>some (p.1::ys,p.2++W,x.refs0++L)
   |none=>none
  |none=>none
def giveO(x:AV)(n:Nat)(st:St):Option (AV × Wr × List Nat):=match x with
 | .ptr b i j=>match i with
  |0=>match st.m b with
   | .live ⟨arr,lvl,z,rows⟩=>match arr with
    |false=>match rows with
     |[row]=>if(decide (j+n≤row.length)&&((row.drop j).take n).all fun c=>c.light&& !c.isUndef)=true then
       match expO ((row.drop j).take n) (st.mws [(b,.live ⟨false,lvl,z,[setCells row j (List.replicate n .undef)]⟩)])with
       |some (ys,W,L)=>if(ys.all fun c=> !c.isUndef)=true then some (.obj ys,(b,.live ⟨false,lvl,z,[setCells row j (List.replicate n .undef)]⟩)::W,b::L)else none
       |none=>none
      else none
     |_=>none
    |true=>none
   |_=>none
  |_=>none
 |_=>none
def givesO:List (Option Nat)→List AV→St→Option (List AV × Wr × List Nat)
 |[],[],st=>some ([],[],[])
 |none::fs,_::as,st=>match givesO fs as st with
  |some (l,W,L)=>some (.undef::l,W,L)
  |none=>none
 |some n::fs,x::as,st=>match giveO x n st with
  |some (y,W,L)=>match givesO fs as (st.mws W)with
   |some (l,W',L')=>some (y::l,W++W',L++L')
   |none=>none
  |none=>none
 |_,_,_=>none
def takeO(x o:AV)(b0:Nat)(st:St):Option (Wr × List Nat):=match x with
 | .ptr b _ j=>match o with
  | .obj cs=>match st.m b with
   | .live ⟨arr,lvl,z,rows⟩=>match arr with
    |false=>match rows with
     |[row]=>if(cs.all impLeafOk&&decide (j+cs.length≤row.length)&&((row.drop j).take cs.length).all AV.isUndef)=true then
       if((impLeaves b0 cs).2.all fun p=>match st.m p.1 with| .abs=>true|_=>false)=true then
        some ((impLeaves b0 cs).2++[(b,.live ⟨false,lvl,z,[setCells row j (impLeaves b0 cs).1]⟩)],b::(impLeaves b0 cs).2.map (·.1))
       else none
      else none
     |_=>none
    |true=>none
   |_=>none
  |_=>none
 |_=>none
def takesO:List (Option Nat)→List AV→List AV→Nat→St→Option (Wr × List Nat)
 |[],[],[],_,st=>some ([],[])
 |none::fs,_::as,o::os,b0,st=>match o with
  | .undef=>takesO fs as os b0 st
  |_=>none
 |some _::fs,x::as,o::os,b0,st=>match takeO x o b0 st with
  |some (W,L)=>match takesO fs as os (b0+100) (st.mws W)with
   |some (W',L')=>some (W++W',L++L')
   |none=>none
  |none=>none
 |_,_,_,_,_=>none
section
variable{P:Program}{T:TT}{E:Env}{o:Oper}{st st':St}{a:Act}{w:World}{X:Cells}{loc:Locs}{ob:Nat→Cells}{r:Res}
def AgB(st st':St)(L:List Nat):Prop:= ∀b∈L,st'.m b=st.m b
theorem AgB.mws{L:List Nat}(h:AgB st st' L)(W:Wr):AgB (st.mws W) (st'.mws W) L:=fun b hb=>by
 by_cases hw:b∈W.map (·.1)
 ·exact mws_m_in W st' st b hw
 ·rw[mws_other W st' fun p hp e=>hw (List.mem_map.2 ⟨p,hp,e⟩),mws_other W st fun p hp e=>hw (List.mem_map.2 ⟨p,hp,e⟩)]
  exact h b hb
theorem AgB.sub{L L':List Nat}(h:AgB st st' L)(hs: ∀b∈L',b∈L):AgB st st' L':=fun b hb=>h b (hs b hb)
theorem expLeaf_ag{x:AV}(h:AgB st st' x.refs0):(expLeaf x).run st'=(expLeaf x).run st:=by
 cases x with
 |ref b off n=>
  have:=h b (by simp[AV.refs0])
  simp only[expLeaf,RP.run]
  rw[this]
  cases st.m b with
  |live blk=>
   simp only[arrB,liveA,RP.bind,guardP,RP.run]
  |_=>rfl
 |_=>simp only[expLeaf,RP.run]
theorem expO_ag: ∀{l:List AV}{st st':St}{r:List AV × Wr × List Nat},expO l st=some r→AgB st st' r.2.2→expO l st'=some r
 |[],st,st',r,h,_=>h
 |x::l,st,st',r,h,ha=>by
  unfold expO at h⊢
  split at h
  case h_2=>cases h
  rename_i p hp
  split at h
  case h_2=>cases h
  rename_i ys W L hl
  injection h with h
  subst h
  simp only at ha
  rw[expLeaf_ag (ha.sub fun b hb=>by simp[hb]),hp]
  simp only
  rw[expO_ag hl ((ha.sub fun b hb=>by simp[hb]).mws p.2)]
theorem expO_K: ∀{l:List AV}{st:St}{r:List AV × Wr × List Nat}{K:List AV→St→Prop},expO l st=some r→K r.1 (st.mws r.2.1)→expLeavesK l st K
 |[],st,r,K,h,hk=>by
  injection h with h;subst h;exact hk
 |x::l,st,r,K,h,hk=>by
  unfold expO at h
  split at h
  case h_2=>cases h
  rename_i p hp
  split at h
  case h_2=>cases h
  rename_i ys W L hl
  injection h with h
  subst h
  refine run_runK hp ?_
  refine expO_K hl ?_
  simp only at hk⊢
  rw[←mws_append]
  exact hk
theorem giveO_ag{x:AV}{n:Nat}{r:AV × Wr × List Nat}(h:giveO x n st=some r)(ha:AgB st st' r.2.2):giveO x n st'=some r:=by
 unfold giveO at h
 split at h
 case h_2=>cases h
 rename_i b i j
 split at h
 case h_2=>cases h
 split at h
 case h_2=>cases h
 rename_i arr lvl z rows hm
 split at h
 case h_2=>cases h
 split at h
 case h_2=>cases h
 rename_i row
 split at h
 case isFalse=>cases h
 rename_i hq
 split at h
 case h_2=>cases h
 rename_i ys W L hl
 split at h
 case isFalse=>cases h
 rename_i hq2
 injection h with h
 subst h
 simp only at ha
 have hm':=(ha b (by simp)).trans hm
 unfold giveO
 simp only[hm',hq,if_true]
 rw[expO_ag hl ((ha.sub fun b hb=>by simp[hb]).mws _)]
 simp only[hq2,if_true]
theorem giveO_K{x:AV}{n:Nat}{r:AV × Wr × List Nat}{K:AV→St→Prop}(h:giveO x n st=some r)(hk:K r.1 (st.mws r.2.1)):giveP x n st K:=by
 unfold giveO at h
 split at h
 case h_2=>cases h
 rename_i b i j
 split at h
 case h_2=>cases h
 split at h
 case h_2=>cases h
 rename_i arr lvl z rows hm
 split at h
 case h_2=>cases h
 split at h
 case h_2=>cases h
 rename_i row
 split at h
 case isFalse=>cases h
 rename_i hq
 split at h
 case h_2=>cases h
 rename_i ys W L hl
 split at h
 case isFalse=>cases h
 rename_i hq2
 injection h with h
 subst h
 unfold giveP
 simp only[hm]
 exact⟨hq,expO_K hl ⟨hq2,hk⟩⟩
theorem givesO_ag: ∀{fs:List (Option Nat)}{as:List AV}{st st':St}{r:List AV × Wr × List Nat},givesO fs as st=some r→AgB st st' r.2.2→givesO fs as st'=some r
 |[],[],st,st',r,h,_=>h
 |[],_::_,_,_,_,h,_=>by cases h
 |none::_,[],_,_,_,h,_=>by cases h
 |some _::_,[],_,_,_,h,_=>by cases h
 |none::fs,x::as,st,st',r,h,ha=>by
  unfold givesO at h⊢
  split at h
  case h_2=>cases h
  rename_i l W L hl
  injection h with h
  subst h
  rw[givesO_ag hl ha]
 |some n::fs,x::as,st,st',r,h,ha=>by
  unfold givesO at h⊢
  split at h
  case h_2=>cases h
  rename_i y W L hy
  split at h
  case h_2=>cases h
  rename_i l W' L' hl
  injection h with h
  subst h
  simp only at ha
  rw[giveO_ag hy (ha.sub fun b hb=>by simp[hb])]
  simp only
  rw[givesO_ag hl ((ha.sub fun b hb=>by simp[hb]).mws W)]
theorem givesO_K: ∀{fs:List (Option Nat)}{as:List AV}{st:St}{r:List AV × Wr × List Nat}{K:List AV→St→Prop},givesO fs as st=some r→K r.1 (st.mws r.2.1)→givePs fs as st K
 |[],[],st,r,K,h,hk=>by injection h with h;subst h;exact hk
 |[],_::_,_,_,_,h,_=>by cases h
 |none::_,[],_,_,_,h,_=>by cases h
 |some _::_,[],_,_,_,h,_=>by cases h
 |none::fs,x::as,st,r,K,h,hk=>by
  unfold givesO at h
  split at h
  case h_2=>cases h
  rename_i l W L hl
  injection h with h
  subst h
  exact givesO_K (fs:=fs) (as:=as) hl hk
 |some n::fs,x::as,st,r,K,h,hk=>by
  unfold givesO at h
  split at h
  case h_2=>cases h
  rename_i y W L hy
  split at h
  case h_2=>cases h
  rename_i l W' L' hl
  injection h with h
  subst h
  refine giveO_K hy (givesO_K (fs:=fs) (as:=as) hl ?_)
  simp only at hk⊢
  rw[←mws_append]
  exact hk
theorem takeO_ag{x p:AV}{b0:Nat}{r:Wr × List Nat}(h:takeO x p b0 st=some r)(ha:AgB st st' r.2):takeO x p b0 st'=some r:=by
 unfold takeO at h
 split at h
 case h_2=>cases h
 rename_i b i j
 split at h
 case h_2=>cases h
 rename_i cs
 split at h
 case h_2=>cases h
 rename_i arr lvl z rows hm
 split at h
 case h_2=>cases h
 split at h
 case h_2=>cases h
 rename_i row
 split at h
 case isFalse=>cases h
 rename_i hq
 split at h
 case isFalse=>cases h
 rename_i hq2
 injection h with h
 subst h
 simp only at ha
 have hm':=(ha b (by simp)).trans hm
 unfold takeO
 simp only[hm',hq,if_true]
 rw[if_pos]
 rw[List.all_eq_true]at hq2⊢
 intro q hqm
 have:=hq2 q hqm
 rw[ha q.1 (by simp only[List.mem_cons];exact .inr (List.mem_map.2 ⟨q,hqm,rfl⟩))]
 exact this
theorem takeO_K{x p:AV}{b0:Nat}{r:Wr × List Nat}{K:St→Prop}(h:takeO x p b0 st=some r)(hk:K (st.mws r.1)):takeP x p b0 st K:=by
 unfold takeO at h
 split at h
 case h_2=>cases h
 rename_i b i j
 split at h
 case h_2=>cases h
 rename_i cs
 split at h
 case h_2=>cases h
 rename_i arr lvl z rows hm
 split at h
 case h_2=>cases h
 split at h
 case h_2=>cases h
 rename_i row
 split at h
 case isFalse=>cases h
 rename_i hq
 split at h
 case isFalse=>cases h
 rename_i hq2
 injection h with h
 subst h
 unfold takeP
 simp only[hm]
 refine⟨hq,hq2,?_⟩
 simp only at hk
 rw[←mws_append]
 exact hk
theorem takesO_ag: ∀{fs:List (Option Nat)}{as os:List AV}{b0:Nat}{st st':St}{r:Wr × List Nat},takesO fs as os b0 st=some r→AgB st st' r.2→takesO fs as os b0 st'=some r
 |[],[],[],_,st,st',r,h,_=>h
 |[],[],_::_,_,_,_,_,h,_=>by cases h
 |[],_::_,[],_,_,_,_,h,_=>by cases h
 |[],_::_,_::_,_,_,_,_,h,_=>by cases h
 |none::_,[],os,_,_,_,_,h,_=>by cases os<;>cases h
 |some _::_,[],os,_,_,_,_,h,_=>by cases os<;>cases h
 |none::_,_::_,[],_,_,_,_,h,_=>by cases h
 |some _::_,_::_,[],_,_,_,_,h,_=>by cases h
 |none::fs,x::as,p::os,b0,st,st',r,h,ha=>by
  unfold takesO at h⊢
  split at h
  ·exact takesO_ag h ha
  ·cases h
 |some n::fs,x::as,p::os,b0,st,st',r,h,ha=>by
  unfold takesO at h⊢
  split at h
  case h_2=>cases h
  rename_i W L hy
  split at h
  case h_2=>cases h
  rename_i W' L' hl
  injection h with h
  subst h
  simp only at ha
  rw[takeO_ag hy (ha.sub fun b hb=>by simp[hb])]
  simp only
  rw[takesO_ag hl ((ha.sub fun b hb=>by simp[hb]).mws W)]
theorem takesO_K: ∀{fs:List (Option Nat)}{as os:List AV}{b0:Nat}{st:St}{r:Wr × List Nat}{K:St→Prop},takesO fs as os b0 st=some r→K (st.mws r.1)→takePs fs as os b0 st K
 |[],[],[],_,st,r,K,h,hk=>by injection h with h;subst h;exact hk
 |[],[],_::_,_,_,_,_,h,_=>by cases h
 |[],_::_,[],_,_,_,_,h,_=>by cases h
 |[],_::_,_::_,_,_,_,_,h,_=>by cases h
 |none::_,[],os,_,_,_,_,h,_=>by cases os<;>cases h
 |some _::_,[],os,_,_,_,_,h,_=>by cases os<;>cases h
 |none::_,_::_,[],_,_,_,_,h,_=>by cases h
 |some _::_,_::_,[],_,_,_,_,h,_=>by cases h
 |none::fs,x::as,p::os,b0,st,r,K,h,hk=>by
  unfold takesO at h
  split at h
  ·exact⟨rfl,takesO_K (fs:=fs) (as:=as) h hk⟩
  ·cases h
 |some n::fs,x::as,p::os,b0,st,r,K,h,hk=>by
  unfold takesO at h
  split at h
  case h_2=>cases h
  rename_i W L hy
  split at h
  case h_2=>cases h
  rename_i W' L' hl
  injection h with h
  subst h
  refine takeO_K hy (takesO_K (fs:=fs) (as:=as) hl ?_)
  simp only at hk⊢
  rw[←mws_append]
  exact hk
theorem callP_opx{c:Call}{fo:Operand}(ho:o.op=.call c)(hc:c.callee=.value fo){f:FuncId}{caps as:List AV}{s1 m1 s2 m2:List Nat}(hf:(opnd fo).logged st=some (.fn f caps,s1,m1))(has:(opnds c.args.toList).logged st=some (as,s2,m2))
  {fs:List (Option Nat)}{g:List AV × Wr × List Nat}(hg:givesO fs (as++caps) st=some g){ys:List AV}{s3 m3:List Nat}(hy:(lendXs (restP fs (as++caps))).logged (st.mws g.2.1)=some (ys,s3,m3))
  {os:List AV}{res:AV}{b0:Nat}(hcon:Con P f (mixP fs g.1 ys) os res)(hq:(!((restP fs (as++caps)).any AV.leads)||(res.nr&&os.all AV.nrO))=true){t:Wr × List Nat}(ht:takesO fs (as++caps) os b0 (st.mws g.2.1)=some t)
  (hd:st.dstOk o.dst=true)(hok:(match o.dst with|none=>true|some _=>impResOk res)=true)(hnew:(callRes o res).2.all (fun p=>match ((st.mws g.2.1).mws t.1).m p.1 with| .abs=>true|_=>false)=true):
  OpX P T o st ((callRes o res).1,g.2.1++(t.1++(callRes o res).2)) (s1++(s2++s3)) (m1++(m2++(g.2.2++(m3++(t.2++(callRes o res).2.map (·.1)))))):=by
 intro st' ha
 have hB:AgB st st' (m1++(m2++(g.2.2++(m3++(t.2++(callRes o res).2.map (·.1)))))):=ha.2.2
 unfold opW
 simp only[ho,hc]
 refine .inr ?_
 unfold callPW
 refine run_runK (logged_run (logged_agree hf (fun k hk=>ha.2.1 k (by simp[hk])) fun b hb=>hB b (by simp[hb]))) ?_
 refine run_runK (logged_run (logged_agree has (fun k hk=>ha.2.1 k (by simp[hk])) fun b hb=>hB b (by simp[hb]))) ?_
 refine⟨fs,givesO_K (givesO_ag hg (hB.sub fun b hb=>by simp[hb])) ?_⟩
 refine run_runK (logged_run (logged_agree hy (fun k hk=> ?_) fun b hb=>((hB.sub (L':=m3) fun b hb=>by simp[hb]).mws g.2.1) b hb)) ?_
 ·rw[mws_t,mws_t]
  exact ha.2.1 k (by simp[hk])
 refine⟨os,res,b0,hcon,hq,takesO_K (takesO_ag ht ((hB.sub fun b hb=>by simp[hb]).mws g.2.1)) ?_⟩
 unfold landW
 cases hdd:o.dst with
 |none=>
  simp only[callRes,hdd]
  unfold St.after
  rw[hdd]
  simp only[mws_append,List.append_nil]
  rfl
 |some d=>
  rw[hdd]at hok
  refine⟨hok,?_,?_,?_⟩
  ·rw[List.all_eq_true]
   intro p hp
   have hp':p.1∈(callRes o res).2.map (·.1):=by simp only[callRes,hdd];exact List.mem_map.2 ⟨p,hp,rfl⟩
   have h3:=List.all_eq_true.1 hnew p (by simp only[callRes,hdd];exact hp)
   have h4:=(((hB.sub (L':=(callRes o res).2.map (·.1)) fun b hb=>by simp only[List.mem_append];exact .inr (.inr (.inr (.inr (.inr hb))))).mws g.2.1).mws t.1) p.1 hp'
   rw[h4]
   exact h3
  ·have:=(ha.dst (some d)).trans (hdd▸hd)
   unfold St.dstOk at this
   simp only at this
   rw[mws_n,mws_n]
   exact this
  ·simp only[callRes,hdd]
   unfold St.after
   rw[hdd]
   simp only[mws_append]
end
end Go.Abs
