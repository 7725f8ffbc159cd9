import Derived.Test.YthfphedhlnoffaaGreatDoorLG
/- The abstract layer: calls with pointers, in regions that draw: what they read and what they write. -/
set_option linter.unusedVariables false
set_option linter.unusedSimpArgs false
noncomputable section
namespace Go.Abs
open Go
abbrev Wr:=List (Nat × MB)
def un:List AV→St→Option (List AV × Wr × List Nat)
 |[],st=>some ([],[],[])
 |x::l,st=>match (dr x).run st with
  |some p=>match un l (st.mws p.2)with
   |some (ys,W,L)=>some (p.1::ys,p.2++W,x.refs0++L)
   |none=>none
  |none=>none
def nf(x:AV)(n:Nat)(st:St):Option (AV × Wr × List Nat):=match x with
 | .ptr b i j=>match i with
  |0=>match st.m b with
   | .live ⟨arr,lvl,z,rows⟩=>match arr with
    |false=>match rows with
     |[row]=>if(decide (j+n≤row.length)&&((row.drop j).take n).all fun c=>c.light&& !c.isUndef)=true then
       match un ((row.drop j).take n) (st.mws [(b,.live ⟨false,lvl,z,[setCells row j (List.replicate n .undef)]⟩)])with
       |some (ys,W,L)=>if(ys.all fun c=> !c.isUndef)=true then some (.obj ys,(b,.live ⟨false,lvl,z,[setCells row j (List.replicate n .undef)]⟩)::W,b::L)else none
       |none=>none
      else none
     |_=>none
    |true=>none
   |_=>none
  |_=>none
 |_=>none
def fY:List (Option Nat)→List AV→St→Option (List AV × Wr × List Nat)
 |[],[],st=>some ([],[],[])
 |none::fs,_::as,st=>match fY fs as st with
  |some (l,W,L)=>some (.undef::l,W,L)
  |none=>none
 |some n::fs,x::as,st=>match nf x n st with
  |some (y,W,L)=>match fY fs as (st.mws W)with
   |some (l,W',L')=>some (y::l,W++W',L++L')
   |none=>none
  |none=>none
 |_,_,_=>none
def nQ(x o:AV)(b0:Nat)(st:St):Option (Wr × List Nat):=match x with
 | .ptr b _ j=>match o with
  | .obj cs=>match st.m b with
   | .live ⟨arr,lvl,z,rows⟩=>match arr with
    |false=>match rows with
     |[row]=>if(cs.all cG&&decide (j+cs.length≤row.length)&&((row.drop j).take cs.length).all AV.isUndef)=true then
       if((aD b0 cs).2.all fun p=>match st.m p.1 with| .abs=>true|_=>false)=true then
        some ((aD b0 cs).2++[(b,.live ⟨false,lvl,z,[setCells row j (aD b0 cs).1]⟩)],b::(aD b0 cs).2.map (·.1))
       else none
      else none
     |_=>none
    |true=>none
   |_=>none
  |_=>none
 |_=>none
def fS:List (Option Nat)→List AV→List AV→Nat→St→Option (Wr × List Nat)
 |[],[],[],_,st=>some ([],[])
 |none::fs,_::as,o::os,b0,st=>match o with
  | .undef=>fS fs as os b0 st
  |_=>none
 |some _::fs,x::as,o::os,b0,st=>match nQ x o b0 st with
  |some (W,L)=>match fS fs as os (b0+100) (st.mws W)with
   |some (W',L')=>some (W++W',L++L')
   |none=>none
  |none=>none
 |_,_,_,_,_=>none
section
variable{P:Program}{T:TT}{E:Env}{o:Oper}{st st':St}{a:Act}{w:World}{X:Cells}{loc:bG}{ob:Nat→Cells}{r:di}
def AgB(st st':St)(L:List Nat):Prop:= ∀b∈L,st'.m b=st.m b
theorem AgB.mws{L:List Nat}(h:AgB st st' L)(W:Wr):AgB (st.mws W) (st'.mws W) L:=fun b hb=>by
 by_cases hw:b∈W.map (·.1)
 ·exact uK W st' st b hw
 ·rw[dJ W st' fun p hp e=>hw (List.mem_map.2 ⟨p,hp,e⟩),dJ W st fun p hp e=>hw (List.mem_map.2 ⟨p,hp,e⟩)]
  exact h b hb
theorem AgB.sub{L L':List Nat}(h:AgB st st' L)(hs: ∀b∈L',b∈L):AgB st st' L':=fun b hb=>h b (hs b hb)
theorem wU{x:AV}(h:AgB st st' x.refs0):(dr x).run st'=(dr x).run st:=by
 cases x with
 |ref b off n=>
  have:=h b (by simp[AV.refs0])
  simp only[dr,RP.run]
  rw[this]
  cases st.m b with
  |live blk=>
   simp only[kC,gX,RP.bind,mE,RP.run]
  |_=>rfl
 |_=>simp only[dr,RP.run]
theorem yF: ∀{l:List AV}{st st':St}{r:List AV × Wr × List Nat},un l st=some r→AgB st st' r.2.2→un l st'=some r
 |[],st,st',r,h,_=>h
 |x::l,st,st',r,h,ha=>by
  unfold un at h⊢
  split at h
  case h_2=>cases h
  rename_i p hp
  split at h
  case h_2=>cases h
  rename_i ys W L hl
  injection h with h
  subst h
  simp only at ha
  rw[wU (ha.sub fun b hb=>by simp[hb]),hp]
  simp only
  rw[yF hl ((ha.sub fun b hb=>by simp[hb]).mws p.2)]
theorem CD: ∀{l:List AV}{st:St}{r:List AV × Wr × List Nat}{K:List AV→St→Prop},un l st=some r→K r.1 (st.mws r.2.1)→cD l st K
 |[],st,r,K,h,hk=>by
  injection h with h;subst h;exact hk
 |x::l,st,r,K,h,hk=>by
  unfold un at h
  split at h
  case h_2=>cases h
  rename_i p hp
  split at h
  case h_2=>cases h
  rename_i ys W L hl
  injection h with h
  subst h
  refine fi hp ?_
  refine CD hl ?_
  simp only at hk⊢
  rw[←cx]
  exact hk
theorem Cz{x:AV}{n:Nat}{r:AV × Wr × List Nat}(h:nf x n st=some r)(ha:AgB st st' r.2.2):nf x n st'=some r:=by
 unfold nf at h
 split at h
 case h_2=>cases h
 rename_i b i j
 split at h
 case h_2=>cases h
 split at h
 case h_2=>cases h
 rename_i arr lvl z rows hm
 split at h
 case h_2=>cases h
 split at h
 case h_2=>cases h
 rename_i row
 split at h
 case isFalse=>cases h
 rename_i hq
 split at h
 case h_2=>cases h
 rename_i ys W L hl
 split at h
 case isFalse=>cases h
 rename_i hq2
 injection h with h
 subst h
 simp only at ha
 have hm':=(ha b (by simp)).trans hm
 unfold nf
 simp only[hm',hq,if_true]
 rw[yF hl ((ha.sub fun b hb=>by simp[hb]).mws _)]
 simp only[hq2,if_true]
theorem Dj{x:AV}{n:Nat}{r:AV × Wr × List Nat}{K:AV→St→Prop}(h:nf x n st=some r)(hk:K r.1 (st.mws r.2.1)):jp x n st K:=by
 unfold nf at h
 split at h
 case h_2=>cases h
 rename_i b i j
 split at h
 case h_2=>cases h
 split at h
 case h_2=>cases h
 rename_i arr lvl z rows hm
 split at h
 case h_2=>cases h
 split at h
 case h_2=>cases h
 rename_i row
 split at h
 case isFalse=>cases h
 rename_i hq
 split at h
 case h_2=>cases h
 rename_i ys W L hl
 split at h
 case isFalse=>cases h
 rename_i hq2
 injection h with h
 subst h
 unfold jp
 simp only[hm]
 exact⟨hq,CD hl ⟨hq2,hk⟩⟩
theorem ol: ∀{fs:List (Option Nat)}{as:List AV}{st st':St}{r:List AV × Wr × List Nat},fY fs as st=some r→AgB st st' r.2.2→fY fs as st'=some r
 |[],[],st,st',r,h,_=>h
 |[],_::_,_,_,_,h,_=>by cases h
 |none::_,[],_,_,_,h,_=>by cases h
 |some _::_,[],_,_,_,h,_=>by cases h
 |none::fs,x::as,st,st',r,h,ha=>by
  unfold fY at h⊢
  split at h
  case h_2=>cases h
  rename_i l W L hl
  injection h with h
  subst h
  rw[ol hl ha]
 |some n::fs,x::as,st,st',r,h,ha=>by
  unfold fY at h⊢
  split at h
  case h_2=>cases h
  rename_i y W L hy
  split at h
  case h_2=>cases h
  rename_i l W' L' hl
  injection h with h
  subst h
  simp only at ha
  rw[Cz hy (ha.sub fun b hb=>by simp[hb])]
  simp only
  rw[ol hl ((ha.sub fun b hb=>by simp[hb]).mws W)]
theorem rE: ∀{fs:List (Option Nat)}{as:List AV}{st:St}{r:List AV × Wr × List Nat}{K:List AV→St→Prop},fY fs as st=some r→K r.1 (st.mws r.2.1)→gU fs as st K
 |[],[],st,r,K,h,hk=>by injection h with h;subst h;exact hk
 |[],_::_,_,_,_,h,_=>by cases h
 |none::_,[],_,_,_,h,_=>by cases h
 |some _::_,[],_,_,_,h,_=>by cases h
 |none::fs,x::as,st,r,K,h,hk=>by
  unfold fY at h
  split at h
  case h_2=>cases h
  rename_i l W L hl
  injection h with h
  subst h
  exact rE (fs:=fs) (as:=as) hl hk
 |some n::fs,x::as,st,r,K,h,hk=>by
  unfold fY at h
  split at h
  case h_2=>cases h
  rename_i y W L hy
  split at h
  case h_2=>cases h
  rename_i l W' L' hl
  injection h with h
  subst h
  refine Dj hy (rE (fs:=fs) (as:=as) hl ?_)
  simp only at hk⊢
  rw[←cx]
  exact hk
theorem Cm{x p:AV}{b0:Nat}{r:Wr × List Nat}(h:nQ x p b0 st=some r)(ha:AgB st st' r.2):nQ x p b0 st'=some r:=by
 unfold nQ at h
 split at h
 case h_2=>cases h
 rename_i b i j
 split at h
 case h_2=>cases h
 rename_i cs
 split at h
 case h_2=>cases h
 rename_i arr lvl z rows hm
 split at h
 case h_2=>cases h
 split at h
 case h_2=>cases h
 rename_i row
 split at h
 case isFalse=>cases h
 rename_i hq
 split at h
 case isFalse=>cases h
 rename_i hq2
 injection h with h
 subst h
 simp only at ha
 have hm':=(ha b (by simp)).trans hm
 unfold nQ
 simp only[hm',hq,if_true]
 rw[if_pos]
 rw[List.all_eq_true]at hq2⊢
 intro q hqm
 have:=hq2 q hqm
 rw[ha q.1 (by simp only[List.mem_cons];exact .inr (List.mem_map.2 ⟨q,hqm,rfl⟩))]
 exact this
theorem DL{x p:AV}{b0:Nat}{r:Wr × List Nat}{K:St→Prop}(h:nQ x p b0 st=some r)(hk:K (st.mws r.1)):mu x p b0 st K:=by
 unfold nQ at h
 split at h
 case h_2=>cases h
 rename_i b i j
 split at h
 case h_2=>cases h
 rename_i cs
 split at h
 case h_2=>cases h
 rename_i arr lvl z rows hm
 split at h
 case h_2=>cases h
 split at h
 case h_2=>cases h
 rename_i row
 split at h
 case isFalse=>cases h
 rename_i hq
 split at h
 case isFalse=>cases h
 rename_i hq2
 injection h with h
 subst h
 unfold mu
 simp only[hm]
 refine⟨hq,hq2,?_⟩
 simp only at hk
 rw[←cx]
 exact hk
theorem oO: ∀{fs:List (Option Nat)}{as os:List AV}{b0:Nat}{st st':St}{r:Wr × List Nat},fS fs as os b0 st=some r→AgB st st' r.2→fS fs as os b0 st'=some r
 |[],[],[],_,st,st',r,h,_=>h
 |[],[],_::_,_,_,_,_,h,_=>by cases h
 |[],_::_,[],_,_,_,_,h,_=>by cases h
 |[],_::_,_::_,_,_,_,_,h,_=>by cases h
 |none::_,[],os,_,_,_,_,h,_=>by cases os<;>cases h
 |some _::_,[],os,_,_,_,_,h,_=>by cases os<;>cases h
 |none::_,_::_,[],_,_,_,_,h,_=>by cases h
 |some _::_,_::_,[],_,_,_,_,h,_=>by cases h
 |none::fs,x::as,p::os,b0,st,st',r,h,ha=>by
  unfold fS at h⊢
  split at h
  ·exact oO h ha
  ·cases h
 |some n::fs,x::as,p::os,b0,st,st',r,h,ha=>by
  unfold fS at h⊢
  split at h
  case h_2=>cases h
  rename_i W L hy
  split at h
  case h_2=>cases h
  rename_i W' L' hl
  injection h with h
  subst h
  simp only at ha
  rw[Cm hy (ha.sub fun b hb=>by simp[hb])]
  simp only
  rw[oO hl ((ha.sub fun b hb=>by simp[hb]).mws W)]
theorem pZ: ∀{fs:List (Option Nat)}{as os:List AV}{b0:Nat}{st:St}{r:Wr × List Nat}{K:St→Prop},fS fs as os b0 st=some r→K (st.mws r.1)→kE fs as os b0 st K
 |[],[],[],_,st,r,K,h,hk=>by injection h with h;subst h;exact hk
 |[],[],_::_,_,_,_,_,h,_=>by cases h
 |[],_::_,[],_,_,_,_,h,_=>by cases h
 |[],_::_,_::_,_,_,_,_,h,_=>by cases h
 |none::_,[],os,_,_,_,_,h,_=>by cases os<;>cases h
 |some _::_,[],os,_,_,_,_,h,_=>by cases os<;>cases h
 |none::_,_::_,[],_,_,_,_,h,_=>by cases h
 |some _::_,_::_,[],_,_,_,_,h,_=>by cases h
 |none::fs,x::as,p::os,b0,st,r,K,h,hk=>by
  unfold fS at h
  split at h
  ·exact⟨rfl,pZ (fs:=fs) (as:=as) h hk⟩
  ·cases h
 |some n::fs,x::as,p::os,b0,st,r,K,h,hk=>by
  unfold fS at h
  split at h
  case h_2=>cases h
  rename_i W L hy
  split at h
  case h_2=>cases h
  rename_i W' L' hl
  injection h with h
  subst h
  refine DL hy (pZ (fs:=fs) (as:=as) hl ?_)
  simp only at hk⊢
  rw[←cx]
  exact hk
theorem zp{c:Call}{fo:Operand}(ho:o.op=.call c)(hc:c.callee=.value fo){f:FuncId}{caps as:List AV}{s1 m1 s2 m2:List Nat}(hf:(cK fo).logged st=some (.fn f caps,s1,m1))(has:(gk c.args.toList).logged st=some (as,s2,m2))
  {fs:List (Option Nat)}{g:List AV × Wr × List Nat}(hg:fY fs (as++caps) st=some g){ys:List AV}{s3 m3:List Nat}(hy:(oQ (eM fs (as++caps))).logged (st.mws g.2.1)=some (ys,s3,m3))
  {os:List AV}{res:AV}{b0:Nat}(hcon:Con P f (xg fs g.1 ys) os res)(hq:(!((eM fs (as++caps)).any AV.leads)||(res.nr&&os.all AV.nrO))=true){t:Wr × List Nat}(ht:fS fs (as++caps) os b0 (st.mws g.2.1)=some t)
  (hd:st.dstOk o.dst=true)(hok:(match o.dst with|none=>true|some _=>gm res)=true)(hnew:(bQ o res).2.all (fun p=>match ((st.mws g.2.1).mws t.1).m p.1 with| .abs=>true|_=>false)=true):
  Jh P T o st ((bQ o res).1,g.2.1++(t.1++(bQ o res).2)) (s1++(s2++s3)) (m1++(m2++(g.2.2++(m3++(t.2++(bQ o res).2.map (·.1)))))):=by
 intro st' ha
 have hB:AgB st st' (m1++(m2++(g.2.2++(m3++(t.2++(bQ o res).2.map (·.1)))))):=ha.2.2
 unfold tY
 simp only[ho,hc]
 refine .inr ?_
 unfold kD
 refine fi (logged_run (dQ hf (fun k hk=>ha.2.1 k (by simp[hk])) fun b hb=>hB b (by simp[hb]))) ?_
 refine fi (logged_run (dQ has (fun k hk=>ha.2.1 k (by simp[hk])) fun b hb=>hB b (by simp[hb]))) ?_
 refine⟨fs,rE (ol hg (hB.sub fun b hb=>by simp[hb])) ?_⟩
 refine fi (logged_run (dQ hy (fun k hk=> ?_) fun b hb=>((hB.sub (L':=m3) fun b hb=>by simp[hb]).mws g.2.1) b hb)) ?_
 ·rw[vw,vw]
  exact ha.2.1 k (by simp[hk])
 refine⟨os,res,b0,hcon,hq,pZ (oO ht ((hB.sub fun b hb=>by simp[hb]).mws g.2.1)) ?_⟩
 unfold fh
 cases hdd:o.dst with
 |none=>
  simp only[bQ,hdd]
  unfold St.after
  rw[hdd]
  simp only[cx,List.append_nil]
  rfl
 |some d=>
  rw[hdd]at hok
  refine⟨hok,?_,?_,?_⟩
  ·rw[List.all_eq_true]
   intro p hp
   have hp':p.1∈(bQ o res).2.map (·.1):=by simp only[bQ,hdd];exact List.mem_map.2 ⟨p,hp,rfl⟩
   have h3:=List.all_eq_true.1 hnew p (by simp only[bQ,hdd];exact hp)
   have h4:=(((hB.sub (L':=(bQ o res).2.map (·.1)) fun b hb=>by simp only[List.mem_append];exact .inr (.inr (.inr (.inr (.inr hb))))).mws g.2.1).mws t.1) p.1 hp'
   rw[h4]
   exact h3
  ·have:=(ha.dst (some d)).trans (hdd▸hd)
   unfold St.dstOk at this
   simp only at this
   rw[fE,fE]
   exact this
  ·simp only[bQ,hdd]
   unfold St.after
   rw[hdd]
   simp only[cx]
end
end Go.Abs

/- The abstract layer, 26: blocks under other names; loops. -/
noncomputable section
namespace Go.Abs
open Go
def cE:List (Nat × Nat)→Nat→Nat
 |[],b=>b
 |p::l,b=>if b=p.2 then p.1 else cE l b
def AV.ren0(f:Nat→Nat):AV→AV
 | .ref b o n=>.ref (f b) o n
 | .ptr b i j=>.ptr (f b) i j
 |v=>v
def AV.ren1(f:Nat→Nat):AV→AV
 | .fn g caps=>.fn g (caps.map (AV.ren0 f))
 | .ref b o n=>.ref (f b) o n
 | .ptr b i j=>.ptr (f b) i j
 |v=>v
def AV.renB(f:Nat→Nat):AV→AV
 | .agg cs=>.agg (cs.map (AV.ren1 f))
 | .tup cs=>.tup (cs.map (AV.ren1 f))
 |v=>v.ren1 f
def rL(f:Nat→Nat):MB→MB
 | .live b=>if b.arr then .live b else .live {b with rows:=b.rows.map (List.map (AV.ren1 f))}
 |m=>m
def St.keepR(st:St)(ks:List Nat)(bs:List (Nat × Nat)):St:={St.of st.n (ks.map fun k=>(k,(st.t k).renB (cE bs))) (bs.map fun p=>(p.1,rL (cE bs) (st.m p.2)))with an:=st.an}
def distinctB:List Nat→Bool
 |[]=>true
 |a::l=> !(l.contains a)&&distinctB l
def fT(st:St)(ks:List Nat)(bs:List (Nat × Nat)):Bool:=
 distinctB (bs.map (·.1))&&distinctB (bs.map (·.2))&&ks.all (fun k=>(st.t k).inB (bs.map (·.2)))&&(bs.all fun p=>EE (bs.map (·.2)) (st.m p.2))&&st.an.all fun b=>bs.contains (b,b)
section
variable{P:Program}{T:TT}{E:Env}{st st':St}{a:Act}{w:World}{X:Cells}{loc:bG}{ob:Nat→Cells}{R:Cells}
theorem jw: ∀(bs:List (Nat × Nat))(p:Nat × Nat),distinctB (bs.map (·.2))=true→p∈bs→cE bs p.2=p.1
 |[],p,_,h=>by simp at h
 |q::bs,p,hd,h=>by
  simp only[List.map_cons,distinctB,Bool.and_eq_true,Bool.not_eq_true',List.contains_eq_mem,decide_eq_false_iff_not]at hd
  simp only[cE]
  simp only[List.mem_cons]at h
  rcases h with rfl|h
  ·simp
  ·rw[if_neg fun(e:p.2=q.2)=>hd.1 (List.mem_map.2 ⟨p,h,e⟩)]
   exact jw bs p hd.2 h
def vt(loc:bG)(bs:List (Nat × Nat)):bG:=fun b=>match bs.find? (fun p=>p.1==b)with
 |some p=>loc p.2
 |none=>none
theorem uN: ∀(bs:List (Nat × Nat))(p:Nat × Nat),distinctB (bs.map (·.1))=true→p∈bs→bs.find? (fun q=>q.1==p.1)=some p
 |[],p,_,h=>by simp at h
 |q::bs,p,hd,h=>by
  simp only[List.map_cons,distinctB,Bool.and_eq_true,Bool.not_eq_true',List.contains_eq_mem,decide_eq_false_iff_not]at hd
  simp only[List.mem_cons]at h
  rcases h with rfl|h
  ·simp
  ·have hne: ¬q.1=p.1:=fun e=>hd.1 (e▸List.mem_map.2 ⟨p,h,rfl⟩)
   simp only[List.find?_cons]
   have:(q.1==p.1)=false:=by simpa using hne
   rw[this]
   exact uN bs p hd.2 h
theorem lj{bs:List (Nat × Nat)}(h1:distinctB (bs.map (·.1))=true){p:Nat × Nat}(hp:p∈bs):vt loc bs p.1=loc p.2:=by
 unfold vt
 rw[uN bs p h1 hp]
theorem lL{bs:List (Nat × Nat)}(h1:distinctB (bs.map (·.1))=true)(h2:distinctB (bs.map (·.2))=true){b:Nat}(hb:(bs.map (·.2)).contains b=true):vt loc bs (cE bs b)=loc b:=by
 have:b∈bs.map (·.2):=by simpa using hb
 obtain⟨p,hp,rfl⟩:=List.mem_map.1 this
 rw[jw bs p h2 hp,lj h1 hp]
theorem AR.ren0{bs:List (Nat × Nat)}(h1:distinctB (bs.map (·.1))=true)(h2:distinctB (bs.map (·.2))=true){x:AV}{v:Value}{O:Cells}(h:AR w R loc x v O)(hx:x.isPtr=true)(hb:x.in0 (bs.map (·.2))=true):
  AR w R (vt loc bs) (x.ren0 (cE bs)) v O:=by
 cases h with
 |ptr l e hl hbd hi=>exact .ptr l e ((lL h1 h2 hb).trans hl) hbd hi
 |rp vs e k1 k2 k3 k4=>exact .rp vs e k1 k2 k3 k4
 |sc h e=>cases x<;>first|exact h.elim|simp[AV.isPtr]at hx
 |_=>simp[AV.isPtr]at hx
theorem AR.ren1{bs:List (Nat × Nat)}(h1:distinctB (bs.map (·.1))=true)(h2:distinctB (bs.map (·.2))=true){x:AV}{v:Value}{O:Cells}(h:AR w R loc x v O)(hb:x.in1 (bs.map (·.2))=true):
  AR w R (vt loc bs) (x.ren1 (cE bs)) v O:=by
 cases h with
 |sc h e=>cases x<;>first|exact h.elim|exact .sc h e
 |ro0 e=>exact .ro0 e
 |ro vs e k1 k2 k3 k4 k5 k6 k7 hm=>exact .ro vs e k1 k2 k3 k4 k5 k6 k7 hm
 |own0 e=>exact .own0 e
 |own vs os k1 k2 k3 k4 k5 k6 k7 k8 k9 k10 hm=>exact .own vs os k1 k2 k3 k4 k5 k6 k7 k8 k9 k10 hm
 |ref0 l e hl hn=>exact .ref0 l e ((lL h1 h2 hb).trans hl) hn
 |ref l e hl hbd hn hcap hbf hm=>exact .ref l e ((lL h1 h2 hb).trans hl) hbd hn hcap hbf hm
 |ptr l e hl hbd hi=>exact .ptr l e ((lL h1 h2 hb).trans hl) hbd hi
 |rp vs e k1 k2 k3 k4=>exact .rp vs e k1 k2 k3 k4
 | @fn _ f caps vs _ os hn hxx hu=>
  simp only[AV.in1,List.all_eq_true,Bool.and_eq_true]at hb
  refine .fn os (by simpa using hn) (fun k x v k1 k2=> ?_) (by simpa using hu)
  simp only[List.getElem?_map,Option.map_eq_some_iff]at k1
  obtain⟨y,k1,rfl⟩:=k1
  exact(hxx k y v k1 k2).ren0 h1 h2 (hb y (List.mem_of_getElem? k1)).1 (hb y (List.mem_of_getElem? k1)).2
 |obj _ _ _ _ _ _ _ _ _=>simp[AV.in1]at hb
 |agg _ _ _ _=>simp[AV.in1]at hb
 |tup _ _ _ _=>simp[AV.in1]at hb
theorem AR.renB{bs:List (Nat × Nat)}(h1:distinctB (bs.map (·.1))=true)(h2:distinctB (bs.map (·.2))=true){x:AV}{v:Value}{O:Cells}(h:AR w R loc x v O)(hb:x.inB (bs.map (·.2))=true):
  AR w R (vt loc bs) (x.renB (cE bs)) v O:=by
 cases x with
 |agg cs=>
  cases h with
  |sc h e=>exact h.elim
  |agg os hn hxx hu=>
   simp only[AV.inB,List.all_eq_true]at hb
   refine .agg os (by simpa using hn) (fun k x v k1 k2=> ?_) (by simpa using hu)
   simp only[List.getElem?_map,Option.map_eq_some_iff]at k1
   obtain⟨y,k1,rfl⟩:=k1
   exact(hxx k y v k1 k2).ren1 h1 h2 (hb y (List.mem_of_getElem? k1))
 |tup cs=>
  cases h with
  |sc h e=>exact h.elim
  |tup os hn hxx hu=>
   simp only[AV.inB,List.all_eq_true]at hb
   refine .tup os (by simpa using hn) (fun k x v k1 k2=> ?_) (by simpa using hu)
   simp only[List.getElem?_map,Option.map_eq_some_iff]at k1
   obtain⟨y,k1,rfl⟩:=k1
   exact(hxx k y v k1 k2).ren1 h1 h2 (hb y (List.mem_of_getElem? k1))
 |_=>exact h.ren1 h1 h2 hb
theorem ry(f:Nat→Nat)(x:AV):(x.ren1 f).isUndef=x.isUndef:=by cases x<;>rfl
theorem yt(g:Nat→MB): ∀(bs:List (Nat × Nat))(d:MB)(b:Nat),distinctB (bs.map (·.1))=true→
  lookM (bs.map fun p=>(p.1,g p.2)) d b=match bs.find? (fun p=>p.1==b)with|some p=>g p.2|none=>d
 |[],d,b,_=>rfl
 |q::bs,d,b,hd=>by
  simp only[List.map_cons,distinctB,Bool.and_eq_true,Bool.not_eq_true',List.contains_eq_mem,decide_eq_false_iff_not]at hd
  simp only[List.map_cons,lookM,List.find?_cons]
  rw[yt g bs _ b hd.2]
  by_cases h:q.1=b
  ·subst h
   have:bs.find? (fun p=>p.1==q.1)=none:=by
    rw[List.find?_eq_none]
    intro p hp
    simp only[beq_iff_eq]
    exact fun e=>hd.1 (e▸List.mem_map.2 ⟨p,hp,rfl⟩)
   simp[this]
  ·have h':(q.1==b)=false:=by simpa using h
   rw[h',if_neg fun e=>h e.symm]
theorem xI(g:Nat→AV): ∀(ks:List Nat)(k:Nat),lw (ks.map fun k=>(k,g k)) k=if ks.contains k=true then g k else .undef
 |[],k=>by simp[lw]
 |j::ks,k=>by
  simp only[List.map_cons,lw,xI g ks k]
  by_cases h:k=j
  ·subst h;simp
  ·simp[h]
def Ll(ob:Nat→Cells)(bs:List (Nat × Nat)):Nat→Cells:=fun b=>match bs.find? (fun p=>p.1==b)with
 |some p=>ob p.2
 |none=>ae
theorem RelC.keepR(h:RelC E st a w X loc ob)(ks:List Nat)(bs:List (Nat × Nat))(hk:fT st ks bs=true):Rel E (st.keepR ks bs) a w X:=by
 simp only[fT,Bool.and_eq_true]at hk
 obtain⟨⟨⟨⟨d1,d2⟩,hks⟩,hbs⟩,hans⟩:=hk
 have hobe: ∀b,Ll ob bs b=match bs.find? (fun p=>p.1==b)with|some p=>ob p.2|none=>ae:=fun _=>rfl
 generalize Ll ob bs=ob' at hobe
 have fnd: ∀b p,bs.find? (fun p=>p.1==b)=some p→p∈bs∧p.1=b:=fun b p hf=>⟨List.mem_of_find?_eq_some hf,by simpa using List.find?_some hf⟩
 have hob': ∀b g o,ob' b g o→ ∃p∈bs,p.1=b∧ob p.2 g o:=by
  intro b g o k
  rw[hobe]at k
  cases hf:bs.find? (fun p=>p.1==b)with
  |none=>rw[hf]at k;exact k.elim
  |some p=>
   rw[hf]at k
   obtain⟨m1,m2⟩:=fnd b p hf
   exact⟨p,m1,m2,k⟩
 have hown: ∀g o,al ob' X g o→al ob X g o:=by
  rintro g o (⟨b,k⟩|k)
  ·obtain⟨p,_,_,k⟩:=hob' b g o k
   exact .inl ⟨p.2,k⟩
  ·exact .inr k
 have hRS: ∀g o,RS E w (al ob X) g o→RS E w (al ob' X) g o:=fun g o k=>⟨k.1,k.2.1,fun n=>k.2.2 (hown g o n)⟩
 have hm: ∀b,(st.keepR ks bs).m b=match bs.find? (fun p=>p.1==b)with|some p=>rL (cE bs) (st.m p.2)|none=>.abs:=
  fun b=>yt (fun b=>rL (cE bs) (st.m b)) bs .abs b d1
 have inj: ∀p q,p∈bs→q∈bs→p.1≠q.1→p.2≠q.2:=by
  intro p q hp hq hne e
  have:=jw bs p d2 hp
  rw[e,jw bs q d2 hq]at this
  exact hne this.symm
 have dd: ∀b b',b≠b'→Disj (ob' b) (ob' b'):=by
  intro b b' hne g o k1 k2
  obtain⟨p,hp,e1,k3⟩:=hob' b g o k1
  obtain⟨q,hq,e2,k4⟩:=hob' b' g o k2
  exact h.db p.2 q.2 (inj p q hp hq fun e=>hne (e1.symm.trans (e.trans e2))) g o k3 k4
 refine⟨vt loc bs,ob',fun k=> ?_,h.sz,h.df,fun b hb'=> ?_,fun b hb'=> ?_,fun b blk hb'=> ?_,dd,fun b g o k1 k2=> ?_,fun g o k=>h.lt g o (hown g o k),fun g o k=>h.sub g o (hown g o k),h.fr,fun b hb=> ?_⟩
 ·have:(st.keepR ks bs).t k=if ks.contains k=true then(st.t k).renB (cE bs)else .undef:=xI (fun k=>(st.t k).renB (cE bs)) ks k
  rw[this]
  split
  ·rename_i hc
   exact((h.tm k).renB d1 d2 (List.all_eq_true.1 hks k (by simpa using hc))).weak hRS fun _ _ k=>k
  ·exact .sc trivial ah
 ·rw[hm]at hb'
  cases hf:bs.find? (fun p=>p.1==b)with
  |none=>exact⟨by unfold vt;rw[hf],fun g o k=>by rw[hobe,hf]at k;exact k⟩
  |some p=>
   rw[hf]at hb'
   simp only at hb'
   obtain⟨m1,rfl⟩:=fnd b p hf
   have hab:st.m p.2=.abs:=by
    cases hm2:st.m p.2 with
    |abs=>rfl
    |dead=>rw[hm2]at hb';cases hb'
    |live blk=>rw[hm2]at hb';simp only[rL]at hb';split at hb'<;>cases hb'
   have:=h.ab p.2 hab
   exact⟨by rw[lj d1 m1];exact this.1,fun g o k=>this.2 g o (by rw[hobe,hf]at k;exact k)⟩
 ·rw[hm]at hb'
  cases hf:bs.find? (fun p=>p.1==b)with
  |none=>rw[hf]at hb';cases hb'
  |some p=>
   rw[hf]at hb'
   simp only at hb'
   obtain⟨m1,rfl⟩:=fnd b p hf
   have hab:st.m p.2=.dead:=by
    cases hm2:st.m p.2 with
    |abs=>rw[hm2]at hb';cases hb'
    |dead=>rfl
    |live blk=>rw[hm2]at hb';simp only[rL]at hb';split at hb'<;>cases hb'
   have:=h.dd p.2 hab
   exact⟨by rw[lj d1 m1];exact this.1,fun g o k=>this.2 g o (by rw[hobe,hf]at k;exact k)⟩
 ·rw[hm]at hb'
  cases hf:bs.find? (fun p=>p.1==b)with
  |none=>rw[hf]at hb';cases hb'
  |some p=>
   rw[hf]at hb'
   simp only at hb'
   obtain⟨m1,rfl⟩:=fnd b p hf
   cases hm2:st.m p.2 with
   |abs=>rw[hm2]at hb';cases hb'
   |dead=>rw[hm2]at hb';cases hb'
   |live blk0=>
    rw[hm2]at hb'
    have hat:=h.lv p.2 blk0 hm2
    have hin:=List.all_eq_true.1 hbs p m1
    rw[hm2]at hin
    have hobp:ob' p.1=ob p.2:=by rw[hobe,hf]
    rw[hobp]
    have hlm:=lj (loc:=loc) d1 m1
    generalize ob p.2=O at hat
    cases hat with
    |arr0 l hl hn hs hbd e=>
     simp only[rL,if_true]at hb'
     injection hb' with hb'
     subst hb'
     exact .arr0 l (hlm.trans hl) hn hs hbd e
    |arr l vs os hl hbd hs hn hbf hw hcc hx hO hd hdd h0 h1 hm=>
     simp only[rL,if_true]at hb'
     injection hb' with hb'
     subst hb'
     exact .arr l vs os (hlm.trans hl) hbd hs hn hbf hw hcc (fun i j row x k1 k2=>(hx i j row x k1 k2).weak hRS fun _ _ k=>k) hO hd hdd h0 h1 hm
    | @var _ _ row _ l vs os hl hbd hs hn hz hbf hcc hx hO hd hdd=>
     simp only[rL,Bool.false_eq_true,if_false,List.map_cons,List.map_nil]at hb'
     injection hb' with hb'
     subst hb'
     simp only[EE,Bool.false_or,List.all_cons,List.all_nil,Bool.and_true]at hin
     have back: ∀(k:Nat)(x:AV),(row.map (AV.ren1 (cE bs)))[k]? =some x→x.isUndef=false→ ∃y:AV,row[k]? =some y∧y.isUndef=false∧x=y.ren1 (cE bs):=by
      intro k x k1 k2
      simp only[List.getElem?_map,Option.map_eq_some_iff]at k1
      obtain⟨y,k1,rfl⟩:=k1
      exact⟨y,k1,by rw[←ry (cE bs) y];exact k2,rfl⟩
     refine .var l vs os (hlm.trans hl) hbd hs hn (by simpa using hz) hbf (fun k x k1 k2=> ?_) (fun k x k1 k2=> ?_) (fun g o=> ?_) (fun k x k' x' k1 k2 k3 k4=> ?_) (fun k x k' x' k1 k2 k3 k4=> ?_)
     ·obtain⟨y,k5,k6,rfl⟩:=back k x k1 k2
      exact hcc k y k5 k6
     ·obtain⟨y,k5,k6,rfl⟩:=back k x k1 k2
      exact((hx k y k5 k6).ren1 d1 d2 (List.all_eq_true.1 hin y (List.mem_of_getElem? k5))).weak hRS fun _ _ k=>k
     ·rw[hO]
      constructor
      ·rintro ⟨k,x,k1,k2,k3⟩
       exact⟨k,x.ren1 (cE bs),by simp[k1],by rw[ry];exact k2,k3⟩
      ·rintro ⟨k,x,k1,k2,k3⟩
       obtain⟨y,k5,k6,rfl⟩:=back k x k1 k2
       exact⟨k,y,k5,k6,k3⟩
     ·obtain⟨y,k5,k6,rfl⟩:=back k x k1 k2
      obtain⟨y',k7,k8,rfl⟩:=back k' x' k3 k4
      exact hd k y k' y' k5 k6 k7 k8
     ·obtain⟨y,k5,k6,rfl⟩:=back k x k1 k2
      obtain⟨y',k7,k8,rfl⟩:=back k' x' k3 k4
      exact hdd k y k' y' k5 k6 k7 k8
 ·obtain⟨p,_,_,k3⟩:=hob' b g o k1
  exact h.dx p.2 g o k3 k2
 ·obtain⟨k1,k2⟩:=h.an b hb
  have hmem:(b,b)∈bs:=by simpa using List.all_eq_true.1 hans b hb
  rw[lj d1 (p:=(b,b)) hmem]
  exact⟨k1,k2⟩
theorem WP.keepR{c:Code}{Q:Ex→St→Prop}(ks:List Nat)(bs:List (Nat × Nat))(hk:Rq (fT st ks bs) (WP P c Q (st.keepR ks bs))):WP P c Q st:=
 WP.weak (fun E a w ⟨loc,ob,h⟩=>h.keepR ks bs hk.1) hk.2
def Fe(ks:List Nat)(bs:List (Nat × Nat))(n:Nat)(I:Nat→St→Prop)(Q:Ex→St→Prop):Ex→St→Prop
 | .normal,st=>Rq (fT st ks bs) (∃m,m<n∧I m (st.keepR ks bs))
 |e,st=>Q e st
theorem WP.rounds{c:Code}{Q:Ex→St→Prop}(ks:List Nat)(bs:List (Nat × Nat))(I:Nat→St→Prop)(n:Nat)(h0:I n st)(hs: ∀n st,I n st→WP P c (Fe ks bs n I Q) st):WP P (.loop c) Q st:=fun E tb a w hr=>
 wp_loop_ghost (fun n a w=> ∃st,I n st∧Rel E st a w ae) n ⟨st,h0,hr⟩ fun n a w ⟨s,h1,h2⟩=>wp_mono (hs n s h1 E tb a w h2) fun e a' w' hl=>by
  cases e with
  |normal=>
   obtain⟨s',⟨hk,m,h3,h4⟩,loc,ob,h5⟩:=hl
   exact⟨m,h3,_,h4,h5.keepR ks bs hk⟩
  |exit id=>exact hl
  |ret=>exact hl
  |_=>exact hl.elim
end
end Go.Abs

/- The abstract layer: functions that are handed pointers. -/
noncomputable section
namespace Go.Abs
open Go
def lk(b:Nat):AV→AV × List (Nat × MB)
 | .obj cs=>(.ptr b 0 0,(aD (b+1) cs).2++[(b,.live ⟨false,0,List.replicate cs.length .undef,[(aD (b+1) cs).1]⟩)])
 |v=>fU b v
def fe:AV→Bool
 | .obj cs=>cs.all cG&&decide (cs.length<90)
 |v=>cN v&&decide (v.leaves.length<90)
def dP(b:Nat):List AV→List AV × List (Nat × MB)
 |[]=>([],[])
 |x::l=>((lk b x).1::(dP (b+100) l).1,(lk b x).2++(dP (b+100) l).2)
def eq(b:Nat):List AV→List Nat
 |[]=>[]
 |x::l=>(match x with| .obj _=>[b]|_=>[])++eq (b+100) l
def kr(n:Nat)(as:List AV)(an:List Nat):St:={St.mws ⟨n,fun _=>.undef,fun _=>.abs,[]⟩ (dP e0 as).2 with t:=fun k=>(dP e0 as).1.getD k .undef,an:=an}
def mn:Nat→List AV→List AV→St→Prop
 |_,[],[],_=>True
 |b,x::as,o::os,st=>match x with
  | .obj _=>match o with
   | .obj cs=>match st.m b with
    | .live ⟨arr,_,_,rows⟩=>match arr with
     |false=>match rows with
      |[row]=>Rq (row.all (fun c=>c.light&& !c.isUndef)&&cs.all fun c=> !c.isUndef) (cD row (st.mws [(b,.dead)]) fun ys st=>Sh (.agg ys) (.agg cs)∧mn (b+100) as os st)
      |_=>False
     |true=>False
    |_=>False
   |_=>False
  |_=>o=.undef∧mn (b+100) as os st
 |_,_,_,_=>False
def FB(E:Env):Nat→List AV→List Value→Prop
 |_,[],[]=>True
 |b,x::as,v::vs=>(match x with
  | .obj _=> ∃l,E.A b=some l∧v=.pointer (some ⟨l.g,l.base,none⟩)
  |_=>True)∧FB E (b+100) as vs
 |_,_,_=>False
section
variable{P:Program}{T:TT}{E:Env}{o:Oper}{st:St}{a:Act}{w:World}{X:Cells}{loc:bG}{ob:Nat→Cells}{r:di}
theorem Dg(h:RelC E st a w X loc ob){x:AV}{v:Value}{O Y:Cells}(hX: ∀g o,X g o↔O g o∨Y g o)(hd:Disj O Y)(hx:AR w (RS E w (al ob X)) aC x v O)(hok:fe x=true){b:Nat}
  (hb: ∀p∈(lk b x).2,st.m p.1=.abs):
  ∃loc' ob',Landed E st a w X loc ob (st.mws (lk b x).2) Y loc' ob'∧AR w (RS E w (al ob' Y)) loc' (lk b x).1 v ae:=by
 have rest: ∀x:AV,AR w (RS E w (al ob X)) aC x v O→(cN x&&decide (x.leaves.length<90))=true→(∀p∈(fU b x).2,st.m p.1=.abs)→
   ∃loc' ob',Landed E st a w X loc ob (st.mws (fU b x).2) Y loc' ob'∧AR w (RS E w (al ob' Y)) loc' (fU b x).1 v ae:=fun x hx hok hb=>by
  simp only[Bool.and_eq_true]at hok
  exact tn h hX hd hx hok.1 hb
 cases x with
 |obj cs=>
  simp only[fe,Bool.and_eq_true,decide_eq_true_eq]at hok
  simp only[lk]at hb⊢
  have hbb:st.m b=.abs:=hb (b,.live ⟨false,0,List.replicate cs.length .undef,[(aD (b+1) cs).1]⟩) (by simp)
  cases hx with
  |sc h _=>exact h.elim
  | @obj _ _ g oo _ vs os hbf hkn hc hxx hO hdo hdd=>
   let n:=cs.length
   let C:Cells:=fun g' o'=>g'=g∧oo≤o'∧o'<oo+cs.length
   let O2:Cells:=fun g o=> ∃k,k<cs.length∧os k g o
   have hO': ∀g o,O g o↔C g o∨O2 g o:=hO
   have hCO2:Disj C O2:=fun g o ⟨e1,e2,e3⟩⟨k,k1,k2⟩=>by subst e1;exact hdo k k1 o e2 e3 k2
   let vl:List Value:=(List.range n).map vs
   have hpl:Parts w (RS E w (al ob X)) aC cs vl O2:=dh cs vl os O2 (by simp[vl,n]) (fun k x v h1 h2=>by
    have hk:k<n:=(List.getElem?_eq_some_iff.1 h1).1
    have:v=vs k:=by simpa[vl,hk]using h2.symm
    subst this
    exact hxx k x h1) ⟨fun g o=>Iff.rfl,hdd⟩
   let Y1:Cells:=fun g o=>C g o∨Y g o
   obtain⟨loc',ob',hL,hpi⟩:=ib cs vl st X O2 Y1 loc ob (b+1) h (fun g o=>by
    rw[hX,hO']
    exact⟨fun k=>k.elim (fun k=>k.elim (fun k=>.inr (.inl k)) .inl) fun k=>.inr (.inr k),fun k=>k.elim (fun k=>.inl (.inr k)) fun k=>k.elim (fun k=>.inl (.inl k)) .inr⟩)
    (fun g o k1 k2=>k2.elim (fun k2=>hCO2 g o k2 k1) fun k2=>hd g o ((hO' g o).2 (.inr k1)) k2) hpl hok.1 (fun p hp=>hb p (by simp[hp]))
   have hmb:(st.mws (aD (b+1) cs).2).m b=.abs:=by
    rw[dJ _ _ fun p hp e=>by have:=en cs (b+1) p hp;omega]
    exact hbb
   obtain⟨hil,os1,hi1,hi2⟩:=aL _ _ _ hpi
   have hin:=iU cs (b+1)
   have hlk:=gp cs (b+1) hok.1
   have habs:=hL.rel.ab b hmb
   let l:Loc:=⟨g,oo,n,1,true⟩
   have hext: ∀b' l',loc' b'=some l'→bi loc' b (some l) b'=some l':=fun b' l' hl=>by
    have hne:b'≠b:=fun e=>by rw[e,habs.1]at hl;cases hl
    simp[bi,hne,hl]
   have hbr:pf E w (al ob' Y1) (bi loc' b (some l)) b (.live ⟨false,0,List.replicate cs.length .undef,[(aD (b+1) cs).1]⟩) C:=by
    refine BR.var l vs (fun _=>ae) (by simp[bi]) rfl (by simp[l,n]) rfl (by simp[hin]) (by simpa using hbf) (fun k c h1 h2=> ?_) (fun k c h1 h2=> ?_) (fun g' o'=> ?_) (fun _ _ _ _ _ _ _ _ k=>k) (fun _ _ _ _ _ _ _ _ _ _ _ k=>k.elim)
    ·have hk:k<cs.length:=by rw[←hin];exact(List.getElem?_eq_some_iff.1 h1).1
     exact hc k hk
    ·have hk:k<(aD (b+1) cs).1.length:=(List.getElem?_eq_some_iff.1 h1).1
     refine((hi1 k c (vs k) h1 (by simp only[vl,List.getElem?_map];rw[List.getElem?_range (by rw[hin]at hk;exact hk)];rfl)).emp_weak (fun g o m=>(hi2.iff g o).2 ⟨k,hk,m⟩) ah).weak (fun _ _ k=>k) hext
    ·constructor
     ·rintro ⟨rfl,k1,k2⟩
      have hk:o'-oo<(aD (b+1) cs).1.length:=by omega
      exact⟨o'-oo,_,List.getElem?_eq_getElem hk,hlk _ (List.getElem_mem _),.inl ⟨rfl,by show o'=oo+(o'-oo);omega⟩⟩
     ·rintro ⟨k,c,e1,e2,⟨rfl,rfl⟩|e3⟩
      ·have hk:k<cs.length:=by rw[←hin];exact(List.getElem?_eq_some_iff.1 e1).1
       exact⟨rfl,by show oo≤oo+k;omega,by show oo+k<oo+cs.length;omega⟩
      ·exact e3.elim
   have hown: ∀g o,al (bi ob' b C) Y g o↔al ob' Y1 g o:=by
    intro g o
    constructor
    ·rintro (⟨b',k⟩|k)
     ·by_cases hbb:b'=b
      ·subst hbb;simp only[bi,if_true]at k;exact .inr (.inl k)
      ·simp only[bi,hbb,if_false]at k;exact .inl ⟨b',k⟩
     ·exact .inr (.inr k)
    ·rintro (⟨b',k⟩|k|k)
     ·by_cases hbb:b'=b
      ·subst hbb;exact(habs.2 g o k).elim
      ·exact .inl ⟨b',by simpa only[bi,hbb,if_false]using k⟩
     ·exact .inl ⟨b,by simp only[bi,if_true];exact k⟩
     ·exact .inr k
   have hfin:=hL.rel.birth hmb hown hbr (fun b' hne g o k1 k2=>hL.rel.dx b' g o k1 (.inl k2)) (fun b' hne g o k1 k2=>hL.rel.dx b' g o k1 (.inr k2)) (fun g o k1 k2=>hd g o ((hO' g o).2 (.inl k1)) k2)
   rw[←cx]at hfin
   have hfo:al (bi ob' b C) Y=al ob X:=by rw[←hL.own];funext g o;exact propext (hown g o)
   refine⟨_,_,⟨hfin,hfo,fun b' l' hl=>hext _ _ (hL.ext _ _ hl)⟩,?_⟩
   have:=AR.ptr (w:=w) (R:=RS E w (al (bi ob' b C) Y)) (loc:=bi loc' b (some l)) (b:=b) (i:=0) (j:=0) (O:=ae) l ah (by simp[bi]) rfl (by simp[l])
   simpa[l]using this
 |_=>exact rest _ hx hok hb
theorem qK(b:Nat)(x:AV)(hok:fe x=true): ∀p∈(lk b x).2,b≤p.1∧p.1<b+100:=by
 have rest: ∀x:AV,(cN x&&decide (x.leaves.length<90))=true→ ∀p∈(fU b x).2,b≤p.1∧p.1<b+100:=fun x hok p hp=>by
  simp only[Bool.and_eq_true,decide_eq_true_eq]at hok
  have:=mO b x p hp
  omega
 cases x with
 |obj cs=>
  intro p hp
  simp only[fe,Bool.and_eq_true,decide_eq_true_eq]at hok
  simp only[lk,List.mem_append,List.mem_singleton]at hp
  rcases hp with hp|rfl
  ·have:=en cs (b+1) p hp
   omega
  ·exact⟨Nat.le_refl _,by show b<b+100;omega⟩
 |_=>exact rest _ hok
theorem pn: ∀(l:List AV)(b:Nat),l.all fe=true→ ∀p∈(dP b l).2,b≤p.1
 |[],b,_,p,hp=>by simp[dP]at hp
 |x::l,b,hok,p,hp=>by
  simp only[List.all_cons,Bool.and_eq_true]at hok
  simp only[dP,List.mem_append]at hp
  rcases hp with hp|hp
  ·exact(qK b x hok.1 p hp).1
  ·have:=pn l (b+100) hok.2 p hp
   omega
theorem ux: ∀(l:List AV)(vs:List Value)(st:St)(X O Y:Cells)(loc:bG)(ob:Nat→Cells)(b:Nat),RelC E st a w X loc ob→(∀g o,X g o↔O g o∨Y g o)→Disj O Y→
  Parts w (RS E w (al ob X)) aC l vs O→l.all fe=true→(∀p∈(dP b l).2,st.m p.1=.abs)→
  ∃loc' ob',Landed E st a w X loc ob (st.mws (dP b l).2) Y loc' ob'∧Parts w (RS E w (al ob' Y)) loc' (dP b l).1 vs ae
 |[],[],st,X,O,Y,loc,ob,b,h,hX,hd,hp,hok,hb=>by
  have hL:=Landed.refl h (Y:=Y) fun g o=>by rw[hX];exact⟨fun k=>k.resolve_left (hp g o),.inr⟩
  exact⟨loc,ob,hL,ah⟩
 |[],_::_,_,_,_,_,_,_,_,_,_,_,h,_,_=>h.elim
 |_::_,[],_,_,_,_,_,_,_,_,_,_,h,_,_=>h.elim
 |x::l,v::vs,st,X,O,Y,loc,ob,b,h,hX,hd,hp,hok,hb=>by
  obtain⟨O1,O2,hO,hdd,hx,hrest⟩:=hp
  simp only[List.all_cons,Bool.and_eq_true]at hok
  let Y1:Cells:=fun g o=>O2 g o∨Y g o
  obtain⟨loc1,ob1,hL1,hy1⟩:=Dg h (O:=O1) (Y:=Y1) (fun g o=>by rw[hX,hO];simp only[Y1];rw[or_assoc]) (fun g o k1 k2=>by
   rcases k2 with k2|k2
   ·exact hdd g o k1 k2
   ·exact hd g o ((hO g o).2 (.inl k1)) k2) hx hok.1 (b:=b) (fun p hp=>hb p (by simp[dP,hp]))
  have hRS:RS E w (al ob1 Y1)=RS E w (al ob X):=by rw[hL1.own]
  obtain⟨loc2,ob2,hL2,hy2⟩:=ux l vs _ Y1 O2 Y loc1 ob1 (b+100) hL1.rel (fun g o=>Iff.rfl) (fun g o k1 k2=>hd g o ((hO g o).2 (.inr k1)) k2) (by rw[hRS];exact hrest) hok.2
   (fun p hp=>by
    rw[dJ _ _ fun q hq=>by
     have h1:=qK b x hok.1 q hq
     have h2:=pn l _ hok.2 p hp
     omega]
    exact hb p (by simp[dP,hp]))
  refine⟨loc2,ob2,?_,ae,ae,fun g o=>by simp[ae],ah.disj,?_,hy2⟩
  ·have:=hL1.trans hL2
   rw[←cx]at this
   exact this
  ·refine hy1.weak (fun g o k=> ?_) hL2.ext
   rw[hL2.own]
   exact k
theorem Ci{R:Cells}: ∀(as:List AV)(vs:List Value)(b:Nat)(O:Cells),Parts w R E.A (dP b as).1 vs O→FB E b as vs
 |[],[],b,O,_=>trivial
 |[],_::_,b,O,h=>h.elim
 |x::as,[],b,O,h=>h.elim
 |x::as,v::vs,b,O,⟨O1,O2,_,_,h1,h2⟩=>by
  refine⟨?_,Ci as vs (b+100) O2 h2⟩
  cases x with
  |obj cs=>
   obtain⟨l,hl,_,_,rfl⟩:=AR.inv_ptr (b:=b) (i:=0) (j:=0) h1
   exact⟨l,hl,by simp⟩
  |_=>trivial
theorem rQ: ∀(l:List AV)(s:St)(K:List AV→St→Prop),cD l s K→cD l s (fun ys s'=>K ys s'∧s'.an=s.an):=by
 intro l
 induction l with
 |nil=>intro s K h;exact⟨h,rfl⟩
 |cons x l ih=>
  intro s K h
  have mono: ∀{α:Type}(p:RP α)(K1 K2:α→Prop)(s:St),p.runK s K1→(∀a,K1 a→K2 a)→p.runK s K2:=by
   intro α p
   induction p with
   |ret a=>intro K1 K2 s h hk;exact hk a h
   |tmp k c ih=>intro K1 K2 s h hk;exact ih _ K1 K2 s h hk
   |mem b c ih=>intro K1 K2 s h hk;exact ih _ K1 K2 s h hk
   |req b c ih=>intro K1 K2 s h hk;exact⟨h.1,ih K1 K2 s h.2 hk⟩
   |fail=>intro K1 K2 s h hk;exact h.elim
  refine mono _ _ _ _ h fun p hp=> ?_
  have:=ih _ _ hp
  have e:(s.mws p.2).an=s.an:=oq _ _
  rw[e]at this
  exact this
theorem qj: ∀(as os:List AV)(vs:List Value)(b:Nat)(st:St)(X:Cells)(ob:Nat→Cells),RelC E st a w X loc ob→mn b as os st→FB E b as vs→(∀i∈eq b as,i∈st.an)→
  ∃st' X' ob' O2 O3,Left E a w X loc ob st' X' ob' O2∧(∀g o,O3 g o→O2 g o)∧ ∀R':Cells,(∀g o,RS E w (al ob' X') g o→R' g o)→(∀g o,O2 g o→ ¬O3 g o→R' g o)→Parts w R' aC os vs O3
 |[],[],[],b,st,X,ob,h,_,_,_=>⟨st,X,ob,ae,ae,Left.refl h,fun _ _ k=>k,fun _ _ _=>ah⟩
 |[],[],_::_,_,_,_,_,_,_,h,_=>h.elim
 |[],_::_,_,_,_,_,_,_,h,_,_=>h.elim
 |_::_,[],_,_,_,_,_,_,h,_,_=>h.elim
 |_::_,_::_,[],_,_,_,_,_,_,h,_=>h.elim
 |x::as,o::os,v::vs,b,st,X,ob,h,hk,⟨hv,ha⟩,hi=>by
  have rest:(o=.undef∧mn (b+100) as os st)→(∀i∈eq (b+100) as,i∈st.an)→ ∃st' X' ob' O2 O3,Left E a w X loc ob st' X' ob' O2∧(∀g o,O3 g o→O2 g o)∧ ∀R':Cells,(∀g o,RS E w (al ob' X') g o→R' g o)→(∀g o,O2 g o→ ¬O3 g o→R' g o)→Parts w R' aC (o::os) (v::vs) O3:=by
   rintro ⟨rfl,hk'⟩ hi
   obtain⟨st',X',ob',O2,O3,h1,h2,h3⟩:=qj as os vs (b+100) st X ob h hk' ha hi
   exact⟨st',X',ob',O2,O3,h1,h2,fun R' hR hR'=>⟨ae,O3,fun g o=>by simp[ae],ah.disj,.sc trivial ah,h3 R' hR hR'⟩⟩
  cases x with
  |obj cs0=>
   unfold mn at hk
   simp only at hk
   split at hk
   case h_2=>exact hk.elim
   rename_i cs
   split at hk
   case h_2=>exact hk.elim
   rename_i arr lvl z rows hm
   split at hk
   case h_2=>exact hk.elim
   split at hk
   case h_2=>exact hk.elim
   rename_i row
   obtain⟨hq,hk⟩:=hk
   simp only[Bool.and_eq_true]at hq
   obtain⟨hrow,hcs⟩:=hq
   obtain⟨l,hA,rfl⟩:=hv
   have hloc:=(h.an b (hi b (by simp[eq]))).1
   rw[hA]at hloc
   have hat:=h.lv b _ hm
   generalize hob:ob b=Ob at hat
   cases hat with
   |var l' vs0 os0 hl' hbd hs hn hz hbf hc hxx hO hd hdd=>
    rw[hloc]at hl';injection hl' with hl';subst hl'
    have hall: ∀(k:Nat) c,row[k]? =some c→c.light=true∧c.isUndef=false:=fun k c h1=>by
     have:=List.all_eq_true.1 hrow c (List.mem_of_getElem? h1)
     simpa using this
    have hemp: ∀(k:Nat) c,row[k]? =some c→Emp (os0 k):=fun k c h1=>(hxx k c h1 (hall k c h1).2).light_emp (hall k c h1).1
    have hspan: ∀g o,Ob g o↔iO l 0 row.length g o:=by
     intro g o
     rw[hO]
     constructor
     ·rintro ⟨k,c,e1,e2,⟨rfl,rfl⟩|e3⟩
      ·have:k<row.length:=(List.getElem?_eq_some_iff.1 e1).1
       exact⟨rfl,by omega,by omega⟩
      ·exact(hemp k c e1 g o e3).elim
     ·rintro ⟨rfl,e1,e2⟩
      have hlt:o-l.base<row.length:=by omega
      have e:=List.getElem?_eq_getElem hlt
      exact⟨o-l.base,_,e,(hall _ _ e).2,.inl ⟨rfl,by omega⟩⟩
    have hown: ∀g o,al (bi ob b ae) (fun g o=>X g o∨Ob g o) g o↔al ob X g o:=by
     intro g o
     constructor
     ·rintro (⟨b',k⟩|k|k)
      ·by_cases hbb:b'=b
       ·subst hbb;simp only[bi,if_true]at k;exact k.elim
       ·simp only[bi,hbb,if_false]at k;exact .inl ⟨b',k⟩
      ·exact .inr k
      ·exact .inl ⟨b,by rw[hob];exact k⟩
     ·rintro (⟨b',k⟩|k)
      ·by_cases hbb:b'=b
       ·subst hbb;rw[hob]at k;exact .inr (.inr k)
       ·exact .inl ⟨b',by simpa only[bi,hbb,if_false]using k⟩
      ·exact .inr (.inl k)
    have hrel1:=h.part (b:=b) (m:=.dead) (Ob:=ae) (X':=fun g o=>X g o∨Ob g o) hown ⟨by rw[hloc];rfl,ah⟩ (fun b' hne g o k1 k2=>k2.elim) (fun b' hne g o k1 k2=>by
     rcases k2 with k2|k2
     ·exact h.dx b' g o k1 k2
     ·exact h.db b' b hne g o k1 (hob▸k2)) (fun g o k1=>k1.elim)
    have hL1:Left E a w X loc ob _ (fun g o=>X g o∨Ob g o) _ Ob:=⟨hrel1,fun g o=>Iff.rfl,fun g o k1 k2=>h.dx b g o (hob▸k2) k1,fun g o k=>(hown g o).1 k⟩
    let vl:List Value:=(List.range row.length).map vs0
    obtain⟨ys,st2,X2,ob2,O2,⟨⟨hsh,hk2⟩,han⟩,hL2,hp⟩:=fd row vl _ _ _ _ hrel1 (by simp[vl]) (fun k c u h1 h2=>by
     have hkn:k<row.length:=(List.getElem?_eq_some_iff.1 h1).1
     have:u=vs0 k:=by simpa[vl,hkn]using h2.symm
     subst this
     exact((hxx k c h1 (hall k c h1).2).emp_weak (hemp k c h1) ah).weak hL1.RS fun _ _ k=>k) (rQ _ _ _ hk)
    obtain⟨hL12,hd12⟩:=hL1.trans hL2
    have han2: ∀i∈eq (b+100) as,i∈st2.an:=fun i hi'=>by rw[han];exact hi i (by simp[eq,hi'])
    obtain⟨hyl,os2,hy,hu⟩:=aL _ _ _ hp
    have hagg:AR w (RS E w (al ob2 X2)) aC (.agg ys) (.agg vl.toArray) O2:=.agg os2 (by simpa using hyl) (fun k x v k1 k2=>hy k x v k1 (by simpa using k2)) hu
    obtain⟨O1,hO1,hA1⟩:=hsh w _ O2 _ hagg fun g o k=>hL2.rel.lt g o (.inr ((hL2.iff g o).2 (.inr k)))
    obtain⟨st',X',ob',O4,O5,g1,g2,g3⟩:=qj as os vs (b+100) st2 X2 ob2 hL2.rel hk2 ha han2
    obtain⟨hL,hdis⟩:=hL12.trans g1
    refine⟨st',X',ob',_,fun g o=>(Ob g o∨O1 g o)∨O5 g o,hL,fun g o k=> ?_,fun R' hR hR'=> ?_⟩
    ·rcases k with(k|k)|k
     ·exact .inl (.inl k)
     ·exact .inl (.inr (hO1 g o k))
     ·exact .inr (g2 g o k)
    ·have hd5: ∀g o,(Ob g o∨O2 g o)→O5 g o→False:=fun g o k1 k2=>hdis g o k1 (g2 g o k2)
     have hp1:=hA1 R' (fun g o k=>hR g o (g1.RS g o k)) (fun g o k1 k2=>hR' g o (.inl (.inr k1)) fun m=>by
      rcases m with(m|m)|m
      ·exact hd12 g o m k1
      ·exact k2 m
      ·exact hd5 g o (.inr k1) m)
     refine⟨fun g o=>Ob g o∨O1 g o,O5,fun g o=>Iff.rfl,fun g o k1 k2=>hd5 g o (k1.imp id (hO1 g o)) k2,?_,g3 R' hR fun g o k1 k2=>hR' g o (.inr k1) fun m=>by
      rcases m with(m|m)|m
      ·exact hdis g o (.inl m) k1
      ·exact hdis g o (.inr (hO1 g o m)) k1
      ·exact k2 m⟩
     cases hp1 with
     |sc h _=>exact h.elim
     |agg os3 hn3 hx3 hu3=>
      have hcl:cs.length=row.length:=by simpa[vl]using hn3.symm
      refine AR.obj vs0 os3 (hbf.mono (by rw[←hz];omega)) (fun c hc=>by simpa using List.all_eq_true.1 hcs c hc) (fun k hk=> ?_) (fun k c k1=> ?_) (fun g o=> ?_) (fun k hk o k1 k2 k3=> ?_) (fun k k' hk hk' hne=>hu3.dis k k' hk hk' hne)
      ·have e:=List.getElem?_eq_getElem (l:=row) (i:=k) (by omega)
       exact hc k _ e (hall _ _ e).2
      ·have hk:k<row.length:=by rw[←hcl];exact(List.getElem?_eq_some_iff.1 k1).1
       exact hx3 k c _ k1 (by simp[vl,hk])
      ·rw[hu3.iff,hspan,hcl]
       exact Iff.rfl
      ·refine hd12 l.g o ((hspan _ _).2 ⟨rfl,by omega,by omega⟩) (hO1 _ _ ((hu3.iff _ _).2 ⟨k,hk,k3⟩))
  |_=>exact rest hk hi
theorem Con.of_coreP(hT:T.ok P){f:FuncId}{fn:Func}{c:Code}{as os:List AV}{res:AV}(hf:P.funcs[f]? =some fn)(hn:(fn.name== "runtime.NumGoroutine")=false)(hb:fn.body=some c)(hok:as.all fe=true)
  (hids: ∀b∈eq e0 as,(kr (as.length+(fn.ntmps-as.length)) as (eq e0 as)).m b≠.abs)
  (h:WP P c (xz T fn.results.toList res fun st=>mn e0 as os st∧st.an=eq e0 as) (kr (as.length+(fn.ntmps-as.length)) as (eq e0 as))):Con P f as os res:=by
 refine⟨⟨fn,hf,hn,by rw[hb];rfl⟩,fun w R O vals hp hR hO tb=> ?_⟩
 refine calls_of_wp hf hb ?_
 let E0:Env:=⟨w,R,O,aC⟩
 have hvl:=(aL _ _ _ hp).1
 let a:Act:={tmps:=vals.toArray++Array.replicate (fn.ntmps-vals.toArray.size) undef,defers:=[]}
 let st0:St:=⟨as.length+(fn.ntmps-as.length),fun _=>.undef,fun _=>.abs,[]⟩
 have hrel0:RelC E0 st0 a w O aC (fun _=>ae):=by
  refine⟨fun k=>.sc trivial ah,?_,rfl,fun b _=>⟨rfl,ah⟩,fun b hb=>MB.noConfusion hb,fun b blk hb=>MB.noConfusion hb,fun _ _ _=>ah.disj,fun _=>ah.disj,fun g o k=> ?_,fun g o k=> ?_,Frame.refl w _,fun b hb=>by simp[st0]at hb⟩
  ·simp[st0,a,hvl]
  ·rcases k with⟨_,k⟩|k
   ·exact k.elim
   ·exact hO g o k
  ·rcases k with⟨_,k⟩|k
   ·exact k.elim
   ·exact .inl k
 have hRS: ∀g o,R g o→RS E0 w (al (fun _=>ae) O) g o:=fun g o k=>⟨.inl k,(hR g o k).1,fun n=>by
  rcases n with⟨_,n⟩|n
  ·exact n.elim
  ·exact(hR g o k).2 n⟩
 obtain⟨loc',ob',hL,hp'⟩:=ux as vals st0 O O ae aC (fun _=>ae) e0 hrel0 (fun g o=>by simp[ae]) ah.disj' (Parts.mono hRS (fun _ _ k=>k) _ _ _ hp) hok (fun p _=>rfl)
 obtain⟨hl',os',h4,h5⟩:=aL _ _ _ hp'
 let E:Env:=⟨w,R,O,loc'⟩
 have hrel:Rel E (kr (as.length+(fn.ntmps-as.length)) as (eq e0 as)) a w ae:=by
  have hr:=hL.rel
  refine⟨loc',ob',fun k=> ?_,?_,hr.df,hr.ab,hr.dd,hr.lv,hr.db,hr.dx,hr.lt,hr.sub,hr.fr,fun b hb=>⟨rfl,?_⟩⟩
  ·simp only[kr]
   by_cases hk:k<vals.length
   ·have hx:(dP e0 as).1[k]? =some ((dP e0 as).1[k]'(by omega)):=by simp
    have hv:vals[k]? =some vals[k]:=by simp
    have ht:a.tmps.getD k undef=vals[k]:=by
     simp only[a]
     rw[Array.getD_eq_getD_getElem?,Array.getElem?_append_left (by simpa using hk)]
     simp[hk]
    rw[ht,List.getD_eq_getElem?_getD,hx]
    exact(h4 k _ _ hx hv).emp_weak (fun g o n=>(h5.iff g o).2 ⟨k,by omega,n⟩) ah
   ·rw[List.getD_eq_getElem?_getD,List.getElem?_eq_none (by omega)]
    exact .sc trivial ah
  ·have:(kr (as.length+(fn.ntmps-as.length)) as (eq e0 as)).n=st0.n:=fE _ _
   rw[this]
   simp[st0,a,hvl]
  ·have hne:=hids b hb
   cases hm:(kr (as.length+(fn.ntmps-as.length)) as (eq e0 as)).m b with
   |abs=>exact absurd hm hne
   |dead=>exact(hr.dd b hm).1
   |live blk=>obtain⟨l,hl⟩:=(hr.lv b blk hm).loc_some;rw[hl];rfl
 have ret: ∀st a' w',Rel E st a' w' ae→qH T fn.results.toList res (fun st=>mn e0 as os st∧st.an=eq e0 as) st→a'.defers=[]∧ ∃v,(results fn a'.tmps).run P w'=.ok v w'∧DU w R O vals os res (.returned v) w':=by
  intro st a' w' h1 h2
  obtain⟨loc,ob,h1⟩:=h1
  obtain⟨v,O3,O1,X',ob2,st',h3,hL2,⟨hG,han⟩,h6,h7⟩:=uX hT h1 h2
  obtain⟨st'',X'',ob3,O4,O5,hL3,h8,h9⟩:=qj as os vals e0 st' X' ob2 hL2.rel hG (Ci as vals e0 ae hp') (fun b hb=>by rw[han];exact hb)
  have hX: ∀g o,O3 g o→X'' g o:=fun g o k=>(hL3.iff g o).2 (.inl ((hL2.iff g o).2 (.inr k)))
  have hX4: ∀g o,O4 g o→X'' g o:=fun g o k=>(hL3.iff g o).2 (.inr k)
  have hd34: ∀g o,O3 g o→O4 g o→False:=fun g o k1 k2=>hL3.dis g o ((hL2.iff g o).2 (.inr k1)) k2
  have sub1: ∀g o,(O1 g o∨O5 g o)→al ob3 X'' g o:=fun g o k=>k.elim (fun k=>.inr (hX g o (h6 g o k))) fun k=>.inr (hX4 g o (h8 g o k))
  have hRS3: ∀g o,RS E w' (al ob3 X'') g o→RS ⟨w,R,O,aC⟩ w' (fun g o=>O1 g o∨O5 g o) g o:=fun g o k=>⟨k.1,k.2.1,fun n=>k.2.2 (sub1 g o n)⟩
  have hex: ∀g o,X'' g o→(E.R0 g o∨E.O0 g o∨E.w0.heap.size≤g)∧g<w'.heap.size:=fun g o k=>⟨(hL3.rel.sub g o (.inr k)).elim (fun k=>.inr (.inl k)) fun k=>.inr (.inr k),hL3.rel.lt g o (.inr k)⟩
  refine⟨h1.df,v,h3,fun g o=>O1 g o∨O5 g o,h1.fr,fun g o k=>⟨hL3.rel.sub g o (sub1 g o k),hL3.rel.lt g o (sub1 g o k)⟩,O1,O5,fun g o=>Iff.rfl,fun g o k1 k2=>hd34 g o (h6 g o k1) (h8 g o k2),?_,?_⟩
  ·refine h7 _ (fun g o k=>hRS3 g o (hL3.RS g o k)) fun g o k n=>⟨(hex g o (hX g o k)).1,(hex g o (hX g o k)).2,fun m=>m.elim n fun m=>hd34 g o k (h8 g o m)⟩
  ·refine h9 _ hRS3 fun g o k n=>⟨(hex g o (hX4 g o k)).1,(hex g o (hX4 g o k)).2,fun m=>m.elim (fun m=>hd34 g o (h6 g o m) k) n⟩
 refine wp_mono (h E tb a w hrel) fun e a' w' hl=> ?_
 cases e with
 |normal=>obtain⟨st,h1,h2⟩:=hl;exact ret st a' w' h2 h1
 |ret=>obtain⟨st,h1,h2⟩:=hl;exact ret st a' w' h2 h1
 |exit id=>obtain⟨st,h1,h2⟩:=hl;exact h1.elim
 |_=>exact hl.elim
end
end Go.Abs

/- The abstract layer, 27: what a value of the model obeys of itself: ranges and lengths. -/
noncomputable section
namespace Go.Abs
open Go
def AV.facts:Nat→AV→Prop
 |_,.int k n=>dE k n=true
 |_,.str s=>s.length≤cj
 |d+1,.ro _ rows=>rows.length≤cj∧ ∀row∈rows,∀x∈row,x.facts d
 |d+1,.own _ _ rows=>rows.length≤cj∧ ∀row∈rows,∀x∈row,x.facts d
 |d+1,.agg cs=> ∀x∈cs,x.facts d
 |d+1,.tup cs=> ∀x∈cs,x.facts d
 |d+1,.obj cs=> ∀x∈cs,x.facts d
 |d+1,.rp cs _=> ∀x∈cs,x.facts d
 |_,.ref _ _ n=>n≤cj
 |_,_=>True
def MB.facts(d:Nat):MB→Prop
 | .live b=>(b.arr=true→b.rows.length≤cj)∧ ∀row∈b.rows,∀x∈row,x.facts d
 |_=>True
section
variable{P:Program}{E:Env}{st:St}{a:Act}{w:World}{X:Cells}{loc:bG}{ob:Nat→Cells}{R:Cells}
theorem qE{rows:List (List AV)}{row:List AV}{x:AV}(h1:row∈rows)(h2:x∈row): ∃i j:Nat,rows[i]? =some row∧row[j]? =some x:=by
 obtain⟨i,hi⟩:=List.mem_iff_getElem?.1 h1
 obtain⟨j,hj⟩:=List.mem_iff_getElem?.1 h2
 exact⟨i,j,hi,hj⟩
theorem AR.facts: ∀(d:Nat){R:Cells}{loc:bG}{x:AV}{v:Value}{O:Cells},AR w R loc x v O→x.facts d
 |d,R,loc,x,v,O,h=>by
  cases h with
  |sc h e=>cases x<;>first|exact h.elim|trivial|(cases d<;>first|exact h.2|trivial)
  |ro0 e=>cases d<;>first|trivial|exact⟨Nat.zero_le _,fun row h=>by simp at h⟩
  |ro vs e h1 h2 h3 h4 h5 h6 h7 hm=>
   cases d with
   |zero=>trivial
   |succ d=>
    refine⟨hm,fun row k1 x k2=> ?_⟩
    obtain⟨i,j,k3,k4⟩:=qE k1 k2
    exact AR.facts d (h6 i j row x k3 k4)
  |own0 e=>cases d<;>first|trivial|exact⟨Nat.zero_le _,fun row h=>by simp at h⟩
  |own vs os hcap hb hw hc hx hO hd hdd h0 h1 hm=>
   cases d with
   |zero=>trivial
   |succ d=>
    refine⟨hm,fun row k1 x k2=> ?_⟩
    obtain⟨i,j,k3,k4⟩:=qE k1 k2
    exact AR.facts d (hx i j row x k3 k4)
  |ref0 l e hl hn=>cases d<;>exact Nat.zero_le _
  |ref l e hl hbd hn hcap hbf hm=>cases d<;>exact hm
  |ptr l e hl hbd hi=>cases d<;>trivial
  |rp vs e h1 h2 h3 h4=>
   cases d with
   |zero=>trivial
   |succ d=>
    intro x k2
    obtain⟨j,k4⟩:=List.mem_iff_getElem?.1 k2
    exact AR.facts d (h4 j x k4)
  |fn os hn hxx hu=>cases d<;>trivial
  |obj vs os hb hk hc hx hO hd hdd=>
   cases d with
   |zero=>trivial
   |succ d=>
    intro x k2
    obtain⟨j,k4⟩:=List.mem_iff_getElem?.1 k2
    exact AR.facts d (hx j x k4)
  |agg os hn hxx hu=>
   cases d with
   |zero=>trivial
   |succ d=>
    intro x k2
    obtain⟨j,k4⟩:=List.mem_iff_getElem?.1 k2
    have hj:=(List.getElem?_eq_some_iff.1 k4).1
    exact AR.facts d (hxx j x _ k4 (Array.getElem?_eq_getElem (by omega)))
  |tup os hn hxx hu=>
   cases d with
   |zero=>trivial
   |succ d=>
    intro x k2
    obtain⟨j,k4⟩:=List.mem_iff_getElem?.1 k2
    have hj:=(List.getElem?_eq_some_iff.1 k4).1
    exact AR.facts d (hxx j x _ k4 (Array.getElem?_eq_getElem (by omega)))
theorem BR.facts(d:Nat){R:Cells}{b:Nat}{blk:Blk}{O:Cells}(h:BR w R loc b blk O):(MB.live blk).facts d:=by
 cases h with
 |arr0 l hl hn hs hbd e=>exact⟨fun _=>Nat.zero_le _,fun row h=>by simp at h⟩
 |arr l vs os hl hbd hs hn hb hw hc hx hO hd hdd h0 h1 hm=>
  refine⟨fun _=>hm,fun row k1 x k2=> ?_⟩
  obtain⟨i,j,k3,k4⟩:=qE k1 k2
  exact(hx i j row x k3 k4).facts d
 | @var _ _ row _ l vs os hl hbd hs hn hz hb hc hx hO hd hdd=>
  refine⟨nofun,fun r k1 x k2=> ?_⟩
  simp only[List.mem_singleton]at k1
  subst k1
  obtain⟨j,k4⟩:=List.mem_iff_getElem?.1 k2
  by_cases hu:x.isUndef=true
  ·cases x<;>first|(cases d<;>trivial)|simp[AV.isUndef]at hu
  ·exact(hx j x k4 (by simpa using hu)).facts d
def St.Facts(st:St):Prop:=(∀k d,(st.t k).facts d)∧ ∀b d,(st.m b).facts d
theorem Rel.facts{X:Cells}(hr:Rel E st a w X):st.Facts:=by
 obtain⟨loc,ob,hrel⟩:=hr
 refine⟨fun k d=>(hrel.tm k).facts d,fun b d=> ?_⟩
 cases hm:st.m b with
 |live blk=>exact(hrel.lv b blk hm).facts d
 |_=>trivial
theorem WP.preF{c:Code}{Q:Ex→St→Prop}(h:st.Facts→WP P c Q st):WP P c Q st:=fun E tb a w hr=>h hr.facts E tb a w hr
theorem WP.postF{c:Code}{Q:Ex→St→Prop}(h:WP P c (fun e st=>st.Facts→Q e st) st):WP P c Q st:=fun E tb a w hr=>
 wp_mono (h E tb a w hr) fun e a w hl=>by
  cases e with
  |normal=>obtain⟨s,h1,h2⟩:=hl;exact⟨s,h1 h2.facts,h2⟩
  |exit id=>obtain⟨s,h1,h2⟩:=hl;exact⟨s,h1 h2.facts,h2⟩
  |ret=>obtain⟨s,h1,h2⟩:=hl;exact⟨s,h1 h2.facts,h2⟩
  |_=>exact hl.elim
theorem uy: ∀{xs:List AV}{vs:List Value}{O:Cells},Parts w R loc xs vs O→ ∀x∈xs,∀d,x.facts d
 |xs,vs,O,hp,x,hx,d=>by
  obtain⟨h1,os,h2,h3⟩:=aL _ _ _ hp
  obtain⟨j,k4⟩:=List.mem_iff_getElem?.1 hx
  have hj:=(List.getElem?_eq_some_iff.1 k4).1
  exact(h2 j x _ k4 (List.getElem?_eq_getElem (by omega))).facts d
theorem Con.facts{f:FuncId}{xs os:List AV}{res:AV}(hok:wE P f)(h:(∀x∈xs,∀d,x.facts d)→Con P f xs os res):Con P f xs os res:=
 ⟨hok,fun w R O vals hp hR hO tb=>(h (uy hp)).calls w R O vals hp hR hO tb⟩
end
end Go.Abs
