import Derived.Test.YthfphedhlnoffaaGreatDoorBK
import Derived.Test.YthfphedhlnoffaaGreatDoorBV
import Derived.Test.YthfphedhlnoffaaGreatDoorLK
import Derived.Test.YthfphedhlnoffaaGreatDoorLJ
import Derived.Test.YthfphedhlnoffaaGreatDoorRows
import Derived.Test.YthfphedhlnoffaaGreatDoorTie
import Derived.Test.YthfphedhlnoffaaGreatDoorCards
import Derived.SevenTiedAt
import Derived.LaidMore
import Derived.LaidLaws
import Derived.Lay
/- The laws of BeginToken, StepMachine, RunToken. -/
set_option linter.unusedVariables false
set_option maxHeartbeats 4000000
set_option linter.unusedSimpArgs false
set_option maxRecDepth 100000
open Go Go.Abs Go.Proofs V1 H1 M1 N1 N2 X10 X17
namespace X18
theorem wd(m:Mch)(n:Int):ol true m n=ol false m n:=by unfold ol;rw[yl]
theorem sm{m:Mch}(h:X10.smallM m):M1.smallM m:=⟨h.ws,h.co,h.da,h.ho,h.ca⟩
theorem K8:M1.smallM Cr:=⟨Nat.zero_le _,Nat.zero_le _,⟨Nat.zero_le _,Nat.zero_le _,Nat.zero_le _,Nat.zero_le _⟩,⟨Nat.zero_le _,Nat.zero_le _,Nat.zero_le _,Nat.zero_le _⟩,Nat.zero_le _⟩
theorem Lb(m:Mch)(n:Int):M1.smallM (ol false m n).1:=by
 unfold ol
 split
 ·rename_i h;exact sm (tu (xD (ya h).1 n).1)
 ·exact K8
theorem Hg{m:Mch}(h:M1.smallM m):0≤cF m.da∧0≤cW m.ho∧0≤lG m∧lG m≤50000000:=by
 have a:=vE h.2.2.1
 have b:=vz h.2.2.2.1
 obtain⟨h1,h2,_,_,h5⟩:=h
 unfold lG
 refine⟨?_,?_,?_,?_⟩<;>omega
theorem law1(m:Mch)(n:Int):Con Tryz.prog 3 [aX m,.int .i64 n] (aa [aX m,.int .i64 n]) (.bool true):=by
 have k1:=c9 m n
 have k2:=c7 m n
 rw[wd]at k1
 have k3:=Lb m n
 generalize ol false m n=r at k1 k2 k3
 obtain⟨m2,t,e⟩:=r
 dsimp only[Ij]at k1 k2 k3
 obtain⟨d1,d2,d3,d4⟩:=Hg k3
 have q2:=HL m2 1 (by omega) (by omega) d1 d2
 refine Con.evFK [(0,[1,2,4]),(1,[1,2,4,5]),(2,[1,2,4,5]),(3,[1,2,4,23]),(4,[1,2,4]),(5,[1,2,4,6,7,8]),(6,[1,2,4,6,7,8,9]),(7,[1,2,4,6,7,8,9,10,11,12]),(8,[1,2,4,6,7,8,9,10,11,12,54]),(9,[1,2,4,6,7,8,9,10,11,12]),(10,[1,2,4,6,7,8,9,10,11,12,59]),(11,[1,2,4,6,7,8,9,10,11,12]),(12,[1,2,4,6,7,8,9,10,11,12,13]),(13,[1,2,4,6,7,8,10,11,12,13]),(14,[1,2,4,6,7,8,10,80]),(15,[1,2,4,6,7,8,10]),(16,[1,2,4,6,7,8,10,14]),(17,[1,2,4,6,7,8,10,14]),(18,[1,2,4,6,7,8,10,14,15]),(19,[1,2,4,6,7,8,10,14,15]),(20,[1,2,4,6,7,8,10,14,15,88]),(21,[1,2,4,6,7,8,10,14,15]),(22,[1,2,4,6,7,8,10,14,15,91]),(23,[1,2,4,6,7,8,10,14,15]),(24,[4,6,7,8,10,14,15,16,17,18]),(25,[4,10,14,15,113]),(26,[4,10,14,15]),(27,[4,10,14,15]),(28,[4,14,15]),(29,[4,14,15,118]),(30,[4,14,15]),(31,[4,121]),(32,[4]),(33,[4])] 122 bI dN Tryz.func3 rfl rfl rfl rfl [.tmp 4] rfl fun⟨hy,_⟩=> ?_
 have y:=om hy
 clear hy
 conv=>whnf
 (iterate 33 (first|(apply ac rfl;(conv=>whnf))|(apply ag rfl;(conv=>whnf))|(refine aG (fun hf=> ?_);(conv=>whnf))|(refine ck ?_ ?_<;>intro hb<;>(try simp only[ew]at hb)<;>conv=>whnf)|(apply aH;(conv=>whnf))|(refine ah (c6 m _ (by omega) (by omega)) ?_;(conv=>whnf))));(refine aA ?_;(rfl));iterate 27 ((first|apply ac rfl|apply ag rfl|apply aH);conv=>whnf)
 rotate_left
 have a3:0≤pT m 1048576:=by omega
 obtain⟨_,s2⟩:=yV (by omega) (by omega) y a3
 obtain⟨e1,e2,e3,e4⟩:=Hg s2
 (iterate 29 ((first|refine ac (by solve|simp only[cR,bg,cb,bX,lX,aU,bn,bm,dz,dH]|fail) ?_|apply ac rfl|apply aH|refine ah (c8 _ s2) ?_);conv=>whnf));(iterate 10 (refine ag (by((refine al ?_;simp[List.length_map,bg,cb,bX,lX,aU,bn,bm,dz,dH];done))) ?_;conv=>whnf));(iterate 91 ((first|refine ac (by solve|simp only[cR,bg,cb,bX,lX,aU,bn,bm,dz,dH]|fail) ?_|apply ac rfl|apply ag rfl|refine aG (fun hf=> ?_)|apply aH|refine ah (c8 _ s2) ?_|refine ah (k2 ..) ?_);conv=>whnf));(iterate 10 (refine ag (by((refine al ?_;simp[List.length_map,bg,cb,bX,lX,aU,bn,bm,dz,dH];done))) ?_;conv=>whnf));(iterate 56 ((first|refine ac (by solve|simp only[cR,bg,cb,bX,lX,aU,bn,bm,dz,dH]|fail) ?_|apply ac rfl|refine aG (fun hf=> ?_)|apply aH|refine ah (k1 ..) ?_);conv=>whnf));(iterate 20 (refine ag (by((refine al ?_;simp[List.length_map,bg,cb,bX,lX,aU,bn,bm,dz,dH];done))) ?_;conv=>whnf));(iterate 91 (first|(refine ac (by solve|simp only[cR,bg,cb,bX,lX,aU,bn,bm,dz,dH]|fail) ?_;(conv=>whnf))|(apply ac rfl;(conv=>whnf))|(apply ag rfl;(conv=>whnf))|(refine ChkS.mk (by kernel_rfl) ?_;(conv=>whnf))|(apply aK rfl;(conv=>whnf))|(focus (apply aK (by solve|simp|fail);(conv=>whnf)))|(refine ah (c8 _ s2) ?_;(conv=>whnf))|(refine ah (Ia m2 ..) ?_;(conv=>whnf))));(iterate 20 (refine ag (by((refine al ?_;simp[List.length_map,bg,cb,bX,lX,aU,bn,bm,dz,dH];done))) ?_;conv=>whnf));(iterate 127 ((first|refine ac (by solve|simp only[cR,bg,cb,bX,lX,aU,bn,bm,dz,dH]|fail) ?_|apply ac rfl|apply ag rfl|refine aG (fun hf=> ?_)|refine ChkS.mk (by kernel_rfl) ?_|apply aK rfl|refine pz 11 ?_|refine mI (f:=11) (DU m 1 (by omega) (by omega) e1 e2 ..) (by solve|simp[te,List.length_map,bg,cb,bX,lX,aU,bn,bm,dz,dH]|fail) ?_|apply aH|refine ah (Ia m ..) ?_);conv=>whnf));(iterate 20 (refine ag (by((refine al ?_;simp[List.length_map,bg,cb,bX,lX,aU,bn,bm,dz,dH];done))) ?_;conv=>whnf));(iterate 88 (first|(refine ac (by solve|simp only[cR,bg,cb,bX,lX,aU,bn,bm,dz,dH]|fail) ?_;(conv=>whnf))|(apply ac rfl;(conv=>whnf))|(apply ag rfl;(conv=>whnf))|(refine aG (fun hf=> ?_);(conv=>whnf))|(apply aK rfl;(conv=>whnf))|(focus (apply aK (by solve|simp|fail);(conv=>whnf)))|(refine pz 11 ?_;(conv=>whnf))|(refine mI (f:=11) (DU m2 1 (by omega) (by omega) d1 d2 ..) (by solve|simp[te,List.length_map,bg,cb,bX,lX,aU,bn,bm,dz,dH]|fail) ?_;(conv=>whnf))|(apply aH;(conv=>whnf))|(refine ah (Ia m2 ..) ?_;(conv=>whnf))));(iterate 10 (refine ag (by((refine al ?_;simp[List.length_map,bg,cb,bX,lX,aU,bn,bm,dz,dH];done))) ?_;conv=>whnf));(iterate 60 (first|(refine ac (by solve|simp only[cR,bg,cb,bX,lX,aU,bn,bm,dz,dH]|fail) ?_;(conv=>whnf))|(apply ac rfl;(conv=>whnf))|(apply ag rfl;(conv=>whnf))|(refine aG (fun hf=> ?_);(conv=>whnf))|(apply aK rfl;(conv=>whnf))|(focus (apply aK (by solve|simp|fail);(conv=>whnf)))|(apply aH;(conv=>whnf))|(refine ah (c8 _ s2) ?_;(conv=>whnf))|(refine ah (q2 ..) ?_;(conv=>whnf))));(iterate 10 (refine ag (by((refine al ?_;simp[List.length_map,bg,cb,bX,lX,aU,bn,bm,dz,dH];done))) ?_;conv=>whnf));(iterate 72 ((first|refine ac (by solve|simp only[cR,bg,cb,bX,lX,aU,bn,bm,dz,dH]|fail) ?_|apply ac rfl|refine aG (fun hf=> ?_)|apply aH|refine ah (k1 ..) ?_);conv=>whnf));(iterate 20 (refine ag (by((refine al ?_;simp[List.length_map,bg,cb,bX,lX,aU,bn,bm,dz,dH];done))) ?_;conv=>whnf));(iterate 36 (first|(refine ac (by solve|simp only[cR,bg,cb,bX,lX,aU,bn,bm,dz,dH]|fail) ?_;(conv=>whnf))|(apply ac rfl;(conv=>whnf))|(apply aK rfl;(conv=>whnf))|(focus (apply aK (by solve|simp|fail);(conv=>whnf)))|(apply aH;(conv=>whnf))|(refine ah (Ia m2 ..) ?_;(conv=>whnf))));(iterate 10 (refine ag (by((refine al ?_;simp[List.length_map,bg,cb,bX,lX,aU,bn,bm,dz,dH];done))) ?_;conv=>whnf));(iterate 5 (first|(apply ac rfl;(conv=>whnf))|(refine aG (fun hf=> ?_);(conv=>whnf))|(apply aK rfl;(conv=>whnf))|(focus (apply aK (by solve|simp|fail);(conv=>whnf)))|(refine ah (q2 ..) ?_;(conv=>whnf))));(refine aA ?_;(first|rfl|(exfalso;omega)))
end X18

/- Machines: what the arguments are. -/
open Go Go.Abs Go.Proofs V1
namespace X19
theorem B8{d:Nat}{l:List AV}(h:uS T (d+2) 84 l): ∃r:Wd,l=dc r:=by
 obtain⟨_,_,rfl,⟨s,rfl⟩,_,_,rfl,⟨k,rfl⟩,_,_,rfl,⟨n,rfl⟩,rfl⟩:=h
 exact⟨⟨s,k,n⟩,rfl⟩
theorem CZ{d:Nat}{l:List AV}(h:uS T (d+2) 101 l): ∃r:Cal,l=bK r:=by
 obtain⟨_,_,rfl,⟨k,rfl⟩,_,_,rfl,⟨n,rfl⟩,_,_,rfl,⟨s,rfl⟩,_,_,rfl,⟨t,rfl⟩,rfl⟩:=h
 exact⟨⟨k,n,s,t⟩,rfl⟩
theorem Dn{d:Nat}{l:List AV}(h:uS T (d+2) 131 l): ∃r:Deal,l=aV r:=by
 obtain⟨_,_,rfl,⟨k,rfl⟩,_,_,rfl,⟨n,rfl⟩,_,_,rfl,⟨s,rfl⟩,_,_,rfl,⟨t,rfl⟩,rfl⟩:=h
 exact⟨⟨k,n,s,t⟩,rfl⟩
theorem B1{d:Nat}{l:List AV}(h:uS T (d+4) 29 l): ∃h:Hst,l=C8 h:=by
 obtain⟨_,_,rfl,⟨r1,rfl,h1⟩,_,_,rfl,⟨r2,rfl,h2⟩,_,_,rfl,⟨r3,rfl,h3⟩,_,_,rfl,⟨tk,rfl⟩,_,_,rfl,⟨r5,rfl,h5⟩,rfl⟩:=h
 obtain⟨gr,rfl⟩:=eX dQ h1
 obtain⟨st,rfl⟩:=eX aj h2
 obtain⟨q,rfl⟩:=eX aj h3
 obtain⟨ds,rfl⟩:=eX aV fun row hr=>Dn (d:=d) (h5 row hr)
 exact⟨⟨gr,st,q,tk,ds⟩,rfl⟩
theorem Cu{d:Nat}{l:List AV}(h:uS T (d+4) 25 l): ∃x:Dat,l=GZ x:=by
 obtain⟨_,_,rfl,⟨r1,rfl,h1⟩,_,_,rfl,⟨r2,rfl,h2⟩,_,_,rfl,⟨r3,rfl,h3⟩,_,_,rfl,⟨he,rfl⟩,_,_,rfl,⟨ba,rfl⟩,_,_,rfl,⟨ou,rfl⟩,rfl⟩:=h
 obtain⟨st,rfl⟩:=eX aj h1
 obtain⟨bk,rfl⟩:=eX aj h2
 obtain⟨ce,rfl⟩:=eX aj h3
 exact⟨⟨st,bk,ce,he,ba,ou⟩,rfl⟩
theorem Cn{d:Nat}{l:List AV}(h:uS T (d+5) 32 l): ∃m:Mch,l=gZ m:=by
 obtain⟨_,_,rfl,⟨r1,rfl,h1⟩,_,_,rfl,⟨r2,rfl,h2⟩,p3,_,rfl,h3,p4,_,rfl,h4,_,_,rfl,⟨r5,rfl,h5⟩,_,_,rfl,⟨ip,rfl⟩,_,_,rfl,⟨fu,rfl⟩,rfl⟩:=h
 obtain⟨da,rfl⟩:=Cu (d:=d) h3
 obtain⟨ho,rfl⟩:=B1 (d:=d) h4
 obtain⟨ws,rfl⟩:=eX dc fun row hr=>B8 (d:=d+1) (h1 row hr)
 obtain⟨co,rfl⟩:=eX aj h2
 obtain⟨ca,rfl⟩:=eX bK fun row hr=>CZ (d:=d+1) (h5 row hr)
 exact⟨⟨ws,co,da,ho,ca,ip,fu⟩,rfl⟩
theorem mch_of{l:List AV}(h:uS T 10 32 l): ∃m:Mch,l=gZ m:=Cn (d:=5) h
theorem int_of{x:AV}(h:uS T 10 3 [x]): ∃n,x=.int .i64 n:=by
 obtain⟨n,h1⟩:=h
 injection h1 with h1
 exact⟨n,h1⟩
end X19

/- FnExactBeginToken: the law returns true at every input, and its arguments read behind the call as they did. -/
namespace Go.Proofs.YthfphedhlnoffaaGreatDoor.FnExactBeginToken
open Go.ChangeShapes Go.WideShapes Go.ChangeAt Go.RowKit Go.Joins
open Go.Abs V1 X18 X19
theorem own:ownKnob Tryz.prog.godebug=none:=by kernel_rfl
theorem ye:laidOutB Tryz.prog=true:=by kernel_rfl
theorem Ag{W:World}(h:laidMetH Tryz.prog Rows.fnExactBeginTokenRow.laid W):Tabs Tryz.prog W ae:=by
 rw[MakeChecks.laidMetH_plain _ _ _ (by kernel_rfl)]at h
 obtain⟨ps,hl,_⟩:=h
 have m0:("strings.asciiSpace",(Lib.tabData .u8 Lib.asciiSpaceTab:DataW Unit))∈Rows.fnExactBeginTokenRow.laid:=List.mem_of_getElem? (i:=5) (by kernel_rfl)
 have t0:=iu (t:=188) (e:=5) (n:=256) (g:=0) (by kernel_rfl) (by kernel_rfl) Tryz.underlying188 Tryz.underlying5 (by kernel_rfl) (by kernel_rfl) hl m0
 have m1:("internal/strconv.uint64pow10",(Lib.tabData .u64 Lib.pow10Tab:DataW Unit))∈Rows.fnExactBeginTokenRow.laid:=List.mem_of_getElem? (i:=2) (by kernel_rfl)
 have t1:=iu (t:=239) (e:=183) (n:=20) (g:=3) (by kernel_rfl) (by kernel_rfl) Tryz.underlying239 Tryz.underlying183 (by kernel_rfl) (by kernel_rfl) hl m1
 have m2:("math/bits.deBruijn64tab",(Lib.tabData .u8 (Lib.deBruijn64tab.map fun z:Nat=>(z:Int)):DataW Unit))∈Rows.fnExactBeginTokenRow.laid:=List.mem_of_getElem? (i:=1) (by kernel_rfl)
 have t2:=iu (t:=258) (e:=5) (n:=64) (g:=8) (by kernel_rfl) (by kernel_rfl) Tryz.underlying258 Tryz.underlying5 (by kernel_rfl) (by kernel_rfl) hl m2
 intro x hx g hg
 simp only[yJ,List.mem_cons,List.not_mem_nil,or_false]at hx
 rcases hx with rfl|rfl|rfl
 ·exact⟨nU t0 hg,fun _ k=>k⟩
 ·exact⟨nU t1 hg,fun _ k=>k⟩
 ·exact⟨nU t2 hg,fun _ k=>k⟩
set_option maxRecDepth 100000 in
theorem lifted(os:Os)(started:os.Started)(H:Type)(enc:TypeId × Value→H):
  ReturnsInHanded {} Tryz.checked os 3 .any (fun w args=>(Rows.fnExactBeginTokenSpec.pre enc Tryz.prog Tryz.f3 [] false w args∧laidMetH Tryz.prog Rows.fnExactBeginTokenRow.laid w)∧sizedMet enc Tryz.prog Tryz.f3 (OpenSpec.ofChange Rows.fnExactBeginTokenSpec) false w args) (Rows.fnExactBeginTokenSpec.post enc Tryz.prog Tryz.f3 false true false false):=by
 refine returnsInHanded_of_change_and (C:=Tryz.checked) (X:=fun w _=>laidMetH Tryz.prog Rows.fnExactBeginTokenRow.laid w) (fun _ _ _ hh h=>h.of_heap hh) own started (by kernel_rfl) Tryz.func3
  (ChangeSpec.witness_shaped (enc:=enc) (C:=Tryz.checked) (os:=os) (X:=fun w _=>laidMetH Tryz.prog Rows.fnExactBeginTokenRow.laid w) false (World.laidAll Tryz.prog os Rows.fnExactBeginTokenRow.laid) #[.agg #[.slice none 0 0,.slice none 0 0,.slice none 0 0,.slice none 0 0,.slice none 0 0,.int .i64 0,.int .i64 0,.string ⟨#[]⟩,.slice none 0 0,.slice none 0 0,.slice none 0 0,.int .i64 0,.slice none 0 0,.slice none 0 0,.int .i64 0,.int .i64 0],.int .i64 0] 8 (World.laidAll_os _ _ _) (World.shaped_of_ZipB (by kernel_rfl) (by kernel_rfl)) (by kernel_rfl) (by kernel_rfl) (by kernel_rfl) (by rw[MakeChecks.laidMetH_plain _ _ _ (by kernel_rfl)];exact laidMet_laidAll _ (by kernel_rfl) (by kernel_rfl))) ?_
 intro W base args ds gs before hval0 hW _ _ hL _
 have hval: ∀(j:Nat) t v,Tryz.f3.params[j]? =some t→args[j]? =some v→Value.okWide Tryz.prog W .any base t v:=hval0
 have hW':=hW
 obtain⟨p,q,hA0,hV,rfl,hfz,hnd⟩:=hW
 have hA:DataW.TrodAll enc Tryz.prog W 0 (fun _=>true) true Tryz.f3.params.toList args.toList ds p:=hA0
 rw[Tryz.params3]at hA hval
 obtain⟨v0,vs0,d0,ds0,p0,q0,hargs0,rfl,rfl,h0,r0⟩:=trodAll_cons hA
 obtain⟨v1,vs1,d1,ds1,p1,q1,hargs1,rfl,rfl,h1,r1⟩:=trodAll_cons r0
 obtain⟨hnil,rfl,rfl⟩:=trodAll_nil r1
 obtain rfl:args=#[v0,v1]:=by
  cases args
  simp_all
 obtain⟨rfl,rfl⟩:=trodVars_none hV
 have k0:=h0
 have lt0: ∀x∈p0,x.block<W.heap.size:=by obtain⟨m,hm⟩:=k0;exact DataW.trod_lt m _ _ _ hm
 obtain⟨l0,o0,a0⟩:=vB bI 9 (t:=32) (by kernel_rfl) rfl rfl (hval 0 32 v0 rfl rfl) h0
 obtain⟨m0,rfl⟩:=X19.mch_of o0
 have k1:=h1
 have lt1: ∀x∈p1,x.block<W.heap.size:=by obtain⟨m,hm⟩:=k1;exact DataW.trod_lt m _ _ _ hm
 obtain⟨l1,o1,a1⟩:=uq bI 9 (t:=3) (by kernel_rfl) rfl rfl (hval 1 3 v1 rfl rfl) h1
 obtain⟨n1,rfl⟩:=X19.int_of o1
 clear hA0 hval0
 have hcon:=(X18.law1 m0 n1).law W (Ag hL) [v0,v1] (qz a0 (qz a1 (yU _ _ _)))
 refine hcon.mono fun e W' ⟨he,bel⟩=> ?_
 subst he
 exact⟨_,rfl,_,_,_,[],_,[],hW',trodAll_mk1 (shut_bool Tryz.underlying4 _),(trodAll_cons_mk (Below.trod ye (by kernel_rfl) (of_decide_eq_true (by kernel_rfl)) k0 bel lt0) (trodAll_cons_mk (Below.trod ye (by kernel_rfl) (of_decide_eq_true (by kernel_rfl)) k1 bel lt1) trodAll_mk0)),rfl,bel.frame _,fun h=>by cases h⟩
theorem La:(Rows.fnExactBeginTokenRow.wf (OpenSpec.ofChange Rows.fnExactBeginTokenSpec))=true:=by kernel_rfl
theorem KD:(laidOutB Tryz.prog)=true:=by kernel_rfl
theorem Ld:(mapsRowed Tryz.prog)=true:=by kernel_rfl
theorem KT:(Tryz.f3.params.all (Tryz.prog.readableRec ·))=true:=by kernel_rfl
theorem Le:(namedTie Tryz.prog Rows.fnExactBeginTokenRow.named Rows.fnExactBeginTokenSpec.vars)=true:=by kernel_rfl
theorem KN:((Rows.fnExactBeginTokenRow.stops==[]))=true:=by kernel_rfl
theorem KZ:((Tryz.prog.stops==[]))=true:=by kernel_rfl
theorem Lc:((Rows.fnExactBeginTokenRow.knobs==[]))=true:=by kernel_rfl
theorem K0:((Tryz.prog.stopKnobs==[]))=true:=by kernel_rfl
theorem Lf:((Rows.fnExactBeginTokenRow.inPlace==Tryz.prog.inPlace 3))=true:=by kernel_rfl
theorem Ir:((Rows.fnExactBeginTokenRow.unfollowed==Tryz.prog.unfollowed 3))=true:=by kernel_rfl
theorem Jz:((Rows.fnExactBeginTokenRow.recurses==Tryz.prog.recurses 3))=true:=by kernel_rfl
theorem J1:((Rows.fnExactBeginTokenRow.named==Tryz.prog.varsNamed 3))=true:=by kernel_rfl
theorem JA:((Rows.fnExactBeginTokenRow.maps==(Tryz.f3.params.toList++Rows.fnExactBeginTokenSpec.plain.varTypes Tryz.prog).any (Tryz.prog.mapsRec ·)))=true:=by kernel_rfl
theorem Jb:((Rows.fnExactBeginTokenRow.ifaces==(Tryz.f3.params.toList++Rows.fnExactBeginTokenSpec.plain.varTypes Tryz.prog).any (Tryz.prog.ifacesRec ·)))=true:=by kernel_rfl
theorem J7:((Rows.fnExactBeginTokenRow.mapsOut==Tryz.prog.mapsAmong Tryz.f3.resultTypes.toList))=true:=by kernel_rfl
theorem J0:((Rows.fnExactBeginTokenRow.loops==(Tryz.f3.params.toList++Rows.fnExactBeginTokenSpec.plain.varTypes Tryz.prog).any (Tryz.prog.loopsFrom ·)))=true:=by kernel_rfl
theorem Jr:((Rows.fnExactBeginTokenRow.wideKeys==(Tryz.f3.params.toList++Rows.fnExactBeginTokenSpec.plain.varTypes Tryz.prog++Tryz.f3.resultTypes.toList).any (Tryz.prog.wideKeysFrom ·)))=true:=by kernel_rfl
theorem Ko:(Rows.fnExactBeginTokenSpec.vars.all (Tryz.prog.varReadable ·))=true:=by kernel_rfl
theorem JZ:(Tryz.f3.resultTypes.all (fun t=>Tryz.prog.readableRec t&&decide (t<Tryz.prog.types.size)))=true:=by kernel_rfl
theorem Kf:((Rows.fnExactBeginTokenRow.ifacesOut==Tryz.f3.resultTypes.toList.any (Tryz.prog.ifacesRec ·)))=true:=by kernel_rfl
theorem I5:((Rows.fnExactBeginTokenRow.loopsOut==Tryz.f3.resultTypes.toList.any (Tryz.prog.loopsFrom ·)))=true:=by kernel_rfl
theorem JO:((Rows.fnExactBeginTokenRow.plainKeys==Tryz.prog.plainKeys))=true:=by kernel_rfl
theorem I2:(Rows.fnExactBeginTokenRow.shortTexts.isNone)=true:=by kernel_rfl
theorem Jj:(Tryz.prog.stopsHeard)=true:=by kernel_rfl
theorem IC:(Tryz.prog.mayEnter)=true:=by kernel_rfl
theorem JH:((Rows.fnExactBeginTokenRow.lifted==Tryz.prog.liftsFinal))=true:=by kernel_rfl
theorem JM:((Tryz.prog.make==some Rows.fnExactBeginTokenRow.make))=true:=by kernel_rfl
theorem IJ:((Rows.fnExactBeginTokenRow.kinds==(if Rows.fnExactBeginTokenRow.domain.isEmpty then[]else Tryz.f3.params.toList.map fun t=>match Tryz.prog.underlying t with|some (.int k)=>some k|_=>none)))=true:=by kernel_rfl
theorem Kh:((Rows.fnExactBeginTokenRow.pinned==Rows.fnExactBeginTokenRow.pinnedBy))=true:=by kernel_rfl
theorem JE:((Rows.fnExactBeginTokenRow.veiled==(Tryz.f3.params.toList++Rows.fnExactBeginTokenSpec.plain.varTypes Tryz.prog++Tryz.f3.resultTypes.toList).any (Tryz.prog.veiledRec ·)))=true:=by kernel_rfl
theorem Jw:(Rows.fnExactBeginTokenRow.veiledFits Tryz.prog Tryz.f3.params.toList (Tryz.f3.params.toList++Rows.fnExactBeginTokenSpec.plain.varTypes Tryz.prog++Tryz.f3.resultTypes.toList))=true:=by kernel_rfl
theorem ff{a b:Bool}(h:a=true)(k:b=true):(a&&b)=true:=by rw[h,k];rfl
set_option maxRecDepth 100000 in
theorem FM:joinedFacts Tryz.prog 3 Tryz.f3 Rows.fnExactBeginTokenSpec Rows.fnExactBeginTokenRow=true:=ff (ff (ff (ff (ff (ff (ff (ff (ff (ff (ff (ff (ff (ff (ff (ff (ff (ff (ff (ff (ff (ff (ff (ff (ff (ff (ff (ff (ff (ff (ff La KD) Ld) KT) Le) KN) KZ) Lc) K0) Lf) Ir) Jz) J1) JA) Jb) J7) J0) Jr) Ko) JZ) Kf) I5) JO) I2) Jj) IC) JH) JM) IJ) Kh) JE) Jw
theorem named:Tryz.prog.funcNamed "loop.example/g00787/laws.FnExactBeginToken" =some 3:=by kernel_rfl
theorem said:Rows.FnExactBeginTokenSaid:=
 OpenClaim.holds_of_wide 3 Tryz.f3 rfl rfl rfl rfl rfl rfl rfl ⟨rfl,rfl,rfl,rfl,rfl⟩ rfl rfl rfl rfl rfl named Tryz.func3 FM
  (of_decide_eq_true (by kernel_rfl)) (by unfold Func.isWrapper;first|(rw[if_pos (by decide+kernel)];kernel_rfl)|(rw[if_neg (by decide+kernel)];exact⟨rfl,rfl⟩))
  (fun os started H enc _=>lifted os started H enc)
theorem proved:Rows.FnExactBeginTokenCardSaid:=
 Claim7.holds_tied_plain_at .later [] [.data,.data,.data,.data,.listed,.data,.pinned,.pinned] true (true, "0ff0c9ad374d67b7daec8f09df26a15cf85ed3c952dab27119820ee645253f41") false
  said (fun _ h=>by cases h) (by kernel_rfl) (fun _ h=>by cases h) fnExactBeginToken_row_tie rfl ⟨rfl,rfl⟩ (by kernel_rfl) rfl
  (fun f fn hf hfn=>by
   obtain rfl:f=3:=Option.some.inj ((show Tryz.prog.funcNamed "loop.example/g00787/laws.FnExactBeginToken" =some 3 by kernel_rfl).symm.trans hf) |>.symm
   obtain rfl:fn=Tryz.f3:=(Option.some.inj (Tryz.func3.symm.trans hfn)).symm
   exact⟨by kernel_rfl,fun j t ht=>by
    rw[Tryz.params3]at ht
    have hm:t∈[32,3]:=by simpa using Array.mem_of_getElem? ht
    have hall:([32,3].all fun u=> !Tryz.prog.wantsStandIn u)=true:=by kernel_rfl
    exact(show Tryz.prog.wantsStandIn t=false by simpa using List.all_eq_true.1 hall t hm)⟩)
  (by kernel_rfl)
#print axioms proved
end Go.Proofs.YthfphedhlnoffaaGreatDoor.FnExactBeginToken
