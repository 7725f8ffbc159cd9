/- The abstract layer, 28: a quick walk. States are lists; every step is computed by the head. -/
import Derived.Test.YtbngkaiocdpliaaDoorAbs0
set_option linter.unusedVariables false
set_option linter.unusedSimpArgs false
namespace Go.Abs
open Go

/-! ### Definitions -/
structure RqS (b : Bool) (X : Prop) : Prop where
  l : b = true
  r : X
structure ChkS (b : Bool) (X : Prop) : Prop where
  l : b = true
  r : X
structure BrS (b : Bool) (X Y : Prop) : Prop where
  t : b = true → X
  f : b = false → Y
structure ShG (x y : AV) : Prop where
  s : Sh x y
inductive CallG (P : Program) (f : FuncId) (as : List AV) (K : AV → Prop) : Prop where
  | mk (res : AV) (h : Con P f as (undefs as) res) (k : K res) : CallG P f as K
/-- A row, to be told in other words. -/
inductive RowG (row : List AV) (K : List AV → Prop) : Prop where
  | mk (row' : List AV) (h : row = row') (k : K row') : RowG row K
/-- Rows, to be told in other words. -/
inductive RowsG (rows : List (List AV)) (K : List (List AV) → Prop) : Prop where
  | mk (rows' : List (List AV)) (h : rows = rows') (k : K rows') : RowsG rows K
structure LoopG (P : Program) (c : Code) (Q : Ex → St → Prop) (st : St) : Prop where
  wp : WP P (.loop c) Q st
structure FacG (F : Nat → Prop) (X : Prop) : Prop where
  k : (∀ d, F d) → X
abbrev Ts := List (Nat × AV)
abbrev Ms := List (Nat × MB)
def okK (b : Bool) (X : Prop) : Prop := match b with
  | true => X
  | false => False
def getT : Ts → Nat → AV
  | [], _ => .undef
  | p :: l, k => match Nat.beq k p.1 with
    | true => p.2
    | false => getT l k
def getM : Ms → Nat → MB
  | [], _ => .abs
  | p :: l, k => match Nat.beq k p.1 with
    | true => p.2
    | false => getM l k
/-- What stays through a function: how many slots, which blocks are watched. -/
structure Fx where
  n : Nat
  an : List Nat
def St.ls (n : Fx) (ts : Ts) (ms : Ms) : St := ⟨n.n, getT ts, getM ms, n.an⟩
def isAbs : MB → Bool
  | .abs => true
  | _ => false

/-- Values by their heads. -/
def fc0 (v : AV) (K : AV → Prop) : Prop := match v with
  | .undef => K .undef
  | .int k n => K (.int k n)
  | .bool b => K (.bool b)
  | .str s => K (.str s)
  | .nilp => K .nilp
  | .ptr b i j => K (.ptr b i j)
  | .rp row j => K (.rp row j)
  | .fn f caps => K (.fn f caps)
  | .nilfn => K .nilfn
  | .emp => K .emp
  | .ref b off len => K (.ref b off len)
  | .ro z rows => K (.ro z rows)
  | .own lvl z rows => K (.own lvl z rows)
  | .obj cells => K (.obj cells)
  | .agg cs => K (.agg cs)
  | .tup vs => K (.tup vs)
def fcL (F : AV → (AV → Prop) → Prop) : List AV → (List AV → Prop) → Prop
  | [], K => K []
  | x :: l, K => F x fun x => fcL F l fun l => K (x :: l)
def fc (v : AV) (K : AV → Prop) : Prop := match v with
  | .agg cs => fcL fc0 cs fun cs => K (.agg cs)
  | .tup cs => fcL fc0 cs fun cs => K (.tup cs)
  | .fn f cs => fcL fc0 cs fun cs => K (.fn f cs)
  | .obj cs => fcL fc0 cs fun cs => K (.obj cs)
  | v => fc0 v K
/-- Values that go out. -/
def fg0 (v : AV) (K : AV → Prop) : Prop := match v with
  | .ro z rows => fcL fc0 z fun z => RowsG rows fun rows => K (.ro z rows)
  | .own lvl z rows => fcL fc0 z fun z => RowsG rows fun rows => K (.own lvl z rows)
  | v => fc v K
def fg1 (v : AV) (K : AV → Prop) : Prop := match v with
  | .agg cs => fcL fg0 cs fun cs => K (.agg cs)
  | v => fg0 v K
def fg (v : AV) (K : AV → Prop) : Prop := match v with
  | .tup cs => fcL fg1 cs fun cs => K (.tup cs)
  | v => fg1 v K
def fcR : List (List AV) → (List (List AV) → Prop) → Prop
  | [], K => K []
  | x :: l, K => fcL fc x fun x => fcR l fun l => K (x :: l)
def lvlK (n : Nat) (K : Nat → Prop) : Prop := match Nat.beq n 0 with
  | true => K 0
  | false => match Nat.beq n 1 with
    | true => K 1
    | false => K n
def fcM (m : MB) (K : MB → Prop) : Prop := match m with
  | .abs => K .abs
  | .dead => K .dead
  | .live ⟨arr, lvl, z, rows⟩ => lvlK lvl fun lvl => fcL fc0 z fun z => match arr with
    | true => K (.live ⟨true, lvl, z, rows⟩)
    | false => fcR rows fun rows => K (.live ⟨false, lvl, z, rows⟩)
def fmK : Ms → Ms → (Ms → Prop) → Prop
  | [], ms, K => K ms
  | (b, m) :: l, ms, K => fcM m fun m => fmK l ((b, m) :: ms) K

def RP.go {α : Type} : RP α → Ts → Ms → (α → Prop) → Prop
  | .ret a, _, _, K => K a
  | .tmp k c, ts, ms, K => (c (getT ts k)).go ts ms K
  | .mem b c, ts, ms, K => (c (getM ms b)).go ts ms K
  | .req b c, ts, ms, K => RqS b (c.go ts ms K)
  | .fail, _, _, _ => False
def RP.goL {α : Type} : RP α → Ts → Ms → (α → List Nat → List Nat → Prop) → Prop
  | .ret a, _, _, K => K a [] []
  | .tmp k c, ts, ms, K => (c (getT ts k)).goL ts ms fun a s m => K a (k :: s) m
  | .mem b c, ts, ms, K => (c (getM ms b)).goL ts ms fun a s m => K a s (b :: m)
  | .req b c, ts, ms, K => RqS b (c.goL ts ms K)
  | .fail, _, _, _ => False

/-- One of two values. -/
def pickK (t : Bool) (x y : AV) (K : AV → Prop) : Prop := match x with
  | .int k n => match y with
    | .int k' m => if k = k' then K (.int k (if t = true then n else m)) else BrS t (K (.int k n)) (K (.int k' m))
    | y => BrS t (K (.int k n)) (K y)
  | .bool a => match y with
    | .bool b => K (.bool (if t = true then a else b))
    | y => BrS t (K (.bool a)) (K y)
  | .str a => match y with
    | .str b => K (.str (if t = true then a else b))
    | y => BrS t (K (.str a)) (K y)
  | x => BrS t (K x) (K y)
def loadK (i : TI) (j : Nat) (K : AV → Prop) (row : List AV) : Prop := fcL fc0 ((row.drop j).take i.size) fun cs => okK (cs.all AV.light && cs.length == i.size) <| match isAggT i.ut with
  | true => K (.agg cs)
  | false => match cs with
    | [c] => K c
    | _ => False
def rowK (blk : Blk) (r : Nat) (K : List AV → Prop) : Prop := match blk with
  | ⟨arr, _, z, rows⟩ => match arr with
    | true => RowG (rowA rows r z) K
    | false => K (rowA rows r z)
def storeK (i : TI) (v : AV) (b r j : Nat) (blk : Blk) (K : MB → Prop) : Prop := match blk with
  | ⟨arr, lvl, z, rows⟩ => fcL fc0 v.leaves fun vs => okK (vs.length == i.size && decide (j + i.size ≤ z.length)) <| match arr with
    | true => okK (vs.all AV.plain && decide (lvl ≤ 1)) (K (.live ⟨true, max lvl (lvlOf vs), z, setRow rows r j z vs⟩))
    | false => okK (vs.all AV.light && (((rowA rows r z).drop j).take i.size).all (fun c => !c.isUndef)) (K (.live ⟨false, lvl, z, setRow rows r j z vs⟩))
/-- Rows that are told one by one. -/
def rowsK (r : Res) (K : Res → Prop) : Prop := match r with
  | (v, [(b, .live ⟨true, lvl, z, rows⟩)]) => fcR rows fun rows => K (v, [(b, .live ⟨true, lvl, z, rows⟩)])
  | r => K r
def opE (T : TT) (o : Oper) (ts : Ts) (ms : Ms) (K : Res → Prop) : Prop := match o.op with
  | .pick c a b => (opnd c).go ts ms fun c => match c with
    | .bool t => (opnd a).go ts ms fun x => (opnd b).go ts ms fun y => pickK t x y fun v => K (v, [])
    | _ => False
  | .load t x => (TI.ofT T t).go ts ms fun i => (opnd x).go ts ms fun v => match v with
    | .ptr b r j => match getM ms b with
      | .live blk => rowK blk r (loadK i j fun c => K (c, []))
      | _ => False
    | .rp row j => RowG row (loadK i j fun c => K (c, []))
    | _ => False
  | .store t x y => (TI.ofT T t).go ts ms fun i => (opnd y).go ts ms fun v => (opnd x).go ts ms fun a => match a with
    | .ptr b r j => match getM ms b with
      | .live blk => fc v fun v => storeK i v b r j blk fun m => K (.undef, [(b, m)])
      | _ => False
    | _ => False
  | .buildSlice _ _ _ => (evOp T o).go ts ms fun r => rowsK r K
  | _ => (evOp T o).go ts ms K
def opEL (T : TT) (o : Oper) (ts : Ts) (ms : Ms) (K : Res → List Nat → List Nat → Prop) : Prop := match o.op with
  | .pick c a b => (opnd c).goL ts ms fun c s m => match c with
    | .bool t => (opnd a).goL ts ms fun x s' m' => (opnd b).goL ts ms fun y s'' m'' => pickK t x y fun v => K (v, []) (s ++ (s' ++ s'')) (m ++ (m' ++ m''))
    | _ => False
  | .load t x => (TI.ofT T t).goL ts ms fun i s0 m0 => (opnd x).goL ts ms fun v s m => match v with
    | .ptr b r j => match getM ms b with
      | .live blk => rowK blk r (loadK i j fun c => K (c, []) (s0 ++ s) (m0 ++ (m ++ [b])))
      | _ => False
    | .rp row j => RowG row (loadK i j fun c => K (c, []) (s0 ++ s) (m0 ++ m))
    | _ => False
  | .store t x y => (TI.ofT T t).goL ts ms fun i s0 m0 => (opnd y).goL ts ms fun v s m => (opnd x).goL ts ms fun a s' m' => match a with
    | .ptr b r j => match getM ms b with
      | .live blk => fc v fun v => storeK i v b r j blk fun mb => K (.undef, [(b, mb)]) (s0 ++ (s ++ s')) (m0 ++ (m ++ (m' ++ [b])))
      | _ => False
    | _ => False
  | .buildSlice _ _ _ => (evOp T o).goL ts ms fun r s m => rowsK r fun r => K r s m
  | _ => (evOp T o).goL ts ms K
def afterV (n : Fx) (o : Oper) (r : Res) (ts : Ts) (ms : Ms) (K : Ts → Ms → Prop) : Prop := match r with
  | (v, l) => fmK l ms fun ms => match o.dst with
    | none => K ts ms
    | some d => okK (Nat.blt d n.n) (fc v fun v => K ((d, v) :: ts) ms)
def landV (n : Fx) (o : Oper) (res : AV) (ts : Ts) (ms : Ms) (K : Ts → Ms → Prop) : Prop := match o.dst with
  | none => K ts ms
  | some d => okK (impResOk res) <| match impRes (cid d 0) res with
    | (v, l) => okK (l.all fun p => isAbs (getM ms p.1)) <| okK (Nat.blt d n.n) <| fmK l ms fun ms => fc v fun v => K ((d, v) :: ts) ms
/-- A call that hands a slice over. -/
inductive HandG (P : Program) (f : FuncId) (as os : List AV) (j : Nat) (rows : List (List AV)) (z : List AV) (any : Bool) (K : MB → AV → Prop) : Prop where
  | mk (lvl' : Nat) (z' : List AV) (rows' : List (List AV)) (res : AV) (h : Con P f as (os.set j (.own lvl' z' rows')) res) (h1 : rows'.length = rows.length) (h2 : (Nat.beq z'.length z.length && Nat.ble lvl' 1) = true)
      (h3 : (!any || (res.nr && lvl' == 0)) = true) (k : K (.live ⟨true, lvl', z', rows'⟩) res) : HandG P f as os j rows z any K
def handV (P : Program) (n : Fx) (o : Oper) (ts : Ts) (ms : Ms) (K : Ts → Ms → Prop) (f : FuncId) (as : List AV) (j : Nat) : Prop := match as[j]? with
  | some x => match x with
    | .ref b off m => match off with
      | 0 => match getM ms b with
        | .live ⟨arr, lvl, z, rows⟩ => match arr with
          | true => okK (Nat.ble lvl 1) <| RqS (decide (m = rows.length)) <| (lendVals (as.set j .undef)).go ts ((b, .dead) :: ms) fun ys => fcL fg1 (ys.set j (.own lvl z rows)) fun ys' =>
              HandG P f ys' (undefs as) j rows z ((as.set j .undef).any AV.hasRef) fun m' res => fcM m' fun m' => landV n o res ts ((b, m') :: ms) K
          | false => False
        | _ => False
      | _ => False
    | _ => False
  | none => False
/-- What is known of the leaves of a struct that is handed over. -/
abbrev Gv := List (Option (Nat × Nat × List AV × List (List AV)))
def idsG : Gv → List Nat
  | [] => []
  | some (b, _) :: l => b :: idsG l
  | none :: l => idsG l
def giveG : Gv → List AV → List AV
  | none :: l, x :: cs => x :: giveG l cs
  | some (_, lvl, z, rows) :: l, _ :: cs => .own lvl z rows :: giveG l cs
  | _, _ => []
/-- What has come back fits. -/
def szOk : Gv → List AV → Prop
  | [], [] => True
  | none :: l, o :: os => o = .undef ∧ szOk l os
  | some (_, _, z, rows) :: l, o :: os => (match o with
    | .own _ z' rows' => rows'.length = rows.length ∧ z'.length = z.length
    | _ => False) ∧ szOk l os
  | _, _ => False
def wrG : Gv → List AV → List (Nat × MB)
  | none :: l, _ :: os => wrG l os
  | some (b, _) :: l, .own lvl' z' rows' :: os => (b, .live ⟨true, lvl', z', rows'⟩) :: wrG l os
  | _, _ => []
def gvK (ms : Ms) : List AV → (Gv → Prop) → Prop
  | [], K => K []
  | x :: cs, K => match x with
    | .ref b off n => match off with
      | 0 => match getM ms b with
        | .live ⟨arr, lvl, z, rows⟩ => match arr with
          | true => okK (Nat.ble lvl 1) <| RqS (decide (n = rows.length)) <| gvK ms cs fun l => okK (!(idsG l).contains b) (K (some (b, lvl, z, rows) :: l))
          | false => False
        | _ => False
      | _ => False
    | x => okK x.goes (gvK ms cs fun l => K (none :: l))
inductive HandAG (P : Program) (f : FuncId) (gv : Gv) (args ys os : List AV) (K : List AV → AV → Prop) : Prop where
  | mk (os' : List AV) (res : AV) (h : Con P f (.agg args :: ys) (.agg os' :: os) res) (h1 : szOk gv os') (k : K os' res) : HandAG P f gv args ys os K
def handAV (P : Program) (n : Fx) (o : Oper) (ts : Ts) (ms : Ms) (K : Ts → Ms → Prop) (f : FuncId) (as : List AV) : Prop := match as with
  | .agg cs :: rest => okK (!(rest.any AV.hasRef)) <| (lendVals rest).go [] [] fun ys => fcL fg1 ys fun ys => gvK ms cs fun gv => fcL fg0 (giveG gv cs) fun args =>
      HandAG P f gv args ys (undefs rest) fun os' res => fmK (wrG gv os') ms fun ms => landV n o res ts ms K
  | _ => False
inductive CallX (f : FuncId) (L : Prop) (H : Nat → Prop) (A : Prop) : Prop where
  | lend (h : L) : CallX f L H A
  | hand (j : Nat) (h : H j) : CallX f L H A
  | handA (h : A) : CallX f L H A
def callV (P : Program) (n : Fx) (o : Oper) (ts : Ts) (ms : Ms) (K : Ts → Ms → Prop) (q : AV × List AV × List AV) : Prop := match q with
  | (fv, as, ys) => match fv with
    | .fn f caps => match caps with
      | [] => CallX f (fcL fg1 ys fun ys => match as.any AV.hasRef with
        | false => CallG P f ys fun res => landV n o res ts ms K
        | true => CallG P f ys fun res => okK res.nr (landV n o res ts ms K)) (handV P n o ts ms K f as) (handAV P n o ts ms K f as)
      | _ => False
    | _ => False
/-- A slice held against nil. -/
structure NilG (n : Nat) (K : Bool → Prop) : Prop where
  k : ∀ b : Bool, (b = true → n = 0) → K b
def nilV (T : TT) (n : Fx) (o : Oper) (op : BinOp) (t : TypeId) (x : Operand) (ts : Ts) (ms : Ms) (K : Ts → Ms → Prop) : Prop := okK (isSliceT T t) <| (opnd x).go ts ms fun v => match lenN v with
  | some m => match o.dst with
    | some d => okK (Nat.blt d n.n) <| match op with
      | .eql => NilG m fun b => K ((d, .bool b) :: ts) ms
      | .neq => NilG m fun b => K ((d, .bool (!b)) :: ts) ms
      | _ => False
    | none => False
  | none => False
def opV (P : Program) (T : TT) (n : Fx) (o : Oper) (ts : Ts) (ms : Ms) (K : Ts → Ms → Prop) : Prop := match o.op with
  | .call c => match c.callee with
    | .value f => (callA c f).go ts ms (callV P n o ts ms K)
    | _ => opE T o ts ms fun r => afterV n o r ts ms K
  | .binOp op t x y _ => match isNilC y with
    | true => nilV T n o op t x ts ms K
    | false => opE T o ts ms fun r => afterV n o r ts ms K
  | _ => opE T o ts ms fun r => afterV n o r ts ms K
def skipV (n : Fx) (o : Oper) (ts : Ts) (ms : Ms) (K : Ts → Ms → Prop) : Prop := match o.dst with
  | none => K ts ms
  | some d => okK (Nat.blt d n.n) (K ((d, .undef) :: ts) ms)
def guardV (d : Nat) (want : Bool) (v : AV) (ts : Ts) (X : Ts → Prop) (Y : Ts → Prop) : Prop := match v with
  | .bool b => match want with
    | true => BrS b (X ((d, .bool true) :: ts)) (Y ((d, .bool false) :: ts))
    | false => BrS b (Y ((d, .bool true) :: ts)) (X ((d, .bool false) :: ts))
  | _ => False
def regV (P : Program) (T : TT) (n : Fx) (ops : List Oper) : List Oper → Ts → Ms → (Ts → Ms → Prop) → Prop
  | [], ts, ms, K => K ts ms
  | o :: rest, ts, ms, K => match guardOf ops o with
    | some none => opV P T n o ts ms fun ts ms => regV P T n ops rest ts ms K
    | some (some (d, want)) => guardV d want (getT ts d) ts (fun ts => opV P T n o ts ms fun ts ms => regV P T n ops rest ts ms K) fun ts => skipV n o ts ms fun ts ms => regV P T n ops rest ts ms K
    | none => False
/-- In a region that draws. -/
def callVL (P : Program) (o : Oper) (ms : Ms) (K : Res → List Nat → List Nat → Prop) (q : AV × List AV × List AV) (s m : List Nat) : Prop := match q with
  | (fv, as, ys) => match fv with
    | .fn f caps => match caps with
      | [] => fcL fg1 ys fun ys => CallG P f ys fun res => okK (!(as.any AV.hasRef) || res.nr) <| okK (match o.dst with | none => true | some _ => impResOk res) <|
          match callRes o res with
          | (v, l) => okK (l.all fun p => isAbs (getM ms p.1)) (K (v, l) s (m ++ l.map (·.1)))
      | _ => False
    | _ => False
def opVL (P : Program) (T : TT) (o : Oper) (ts : Ts) (ms : Ms) (K : Res → List Nat → List Nat → Prop) : Prop := match o.op with
  | .call c => match c.callee with
    | .value f => (callA c f).goL ts ms (callVL P o ms K)
    | _ => opEL T o ts ms K
  | _ => opEL T o ts ms K
def guardVL (d : Nat) (want : Bool) (v : AV) (X : (Res → List Nat → List Nat → Prop) → Prop) (K : Res → List Nat → List Nat → Prop) : Prop := match v with
  | .bool b => match want with
    | true => BrS b (X fun r s m => K r (d :: s) m) (K (.undef, []) [d] [])
    | false => BrS b (K (.undef, []) [d] []) (X fun r s m => K r (d :: s) m)
  | _ => False
def regVL (P : Program) (T : TT) (n : Fx) (ops : List Oper) (cl : List (List Nat)) : List Item → Nat → List Oper → Ts → Ms → (Ts → Ms → Prop) → Prop
  | _, _, [], ts, ms, K => K ts ms
  | past, i, o :: rest, ts, ms, K =>
    let F : Res → List Nat → List Nat → Prop := fun r s m => ChkS (past.all fun y => (cl.getD i []).contains y.i || indepB y ⟨i, o, r, s, m⟩) (afterV n o r ts ms fun ts ms => regVL P T n ops cl (⟨i, o, r, s, m⟩ :: past) (i + 1) rest ts ms K)
    match guardOf ops o with
    | some none => opVL P T o ts ms F
    | some (some (d, want)) => guardVL d want (getT ts d) (opVL P T o ts ms) F
    | none => False
def QL (n : Fx) (Q : Ex → Ts → Ms → Prop) (e : Ex) (st : St) : Prop := ∃ ts ms, st = St.ls n ts ms ∧ Q e ts ms
def condT (c : Operand) (b : Bool) (ts : Ts) : Ts := match c with
  | .tmp k => (k, .bool b) :: ts
  | _ => ts
def condV (c : Operand) (b : Bool) (ts : Ts) (K : Ts → Prop) : Prop := match c with
  | .tmp k => K ((k, .bool b) :: ts)
  | _ => K ts
def seqV (X : Ts → Ms → Prop) (Q : Ex → Ts → Ms → Prop) : Ex → Ts → Ms → Prop
  | .normal, ts, ms => X ts ms
  | .exit i, ts, ms => Q (.exit i) ts ms
  | .ret, ts, ms => Q .ret ts ms
def blockV (id : Nat) (Q : Ex → Ts → Ms → Prop) : Ex → Ts → Ms → Prop
  | .normal, ts, ms => Q .normal ts ms
  | .exit i, ts, ms => match Nat.beq i id with
    | true => Q .normal ts ms
    | false => Q (.exit i) ts ms
  | .ret, ts, ms => Q .ret ts ms
/-- What the results of calls obey. -/
def fac0 (v : AV) (ms : Ms) (X : Prop) : Prop := match v with
  | .int k n => FacG (fun d => AV.facts d (.int k n)) X
  | .str s => FacG (fun d => AV.facts d (.str s)) X
  | .ro z rows => FacG (fun d => AV.facts d (.ro z rows)) X
  | .ref b _ _ => match getM ms b with
    | .live ⟨true, lvl, z, rows⟩ => FacG (fun d => MB.facts d (.live ⟨true, lvl, z, rows⟩)) X
    | _ => X
  | _ => X
def facL : List AV → Ms → Prop → Prop
  | [], ms, X => X
  | x :: l, ms, X => fac0 x ms (facL l ms X)
def fac1 (v : AV) (ms : Ms) (X : Prop) : Prop := match v with
  | .agg cs => facL cs ms X
  | .tup cs => facL cs ms X
  | v => fac0 v ms X
def callDst (o : Oper) (ts : Ts) (ms : Ms) (X : Prop) : Prop := match o.op with
  | .call c => match c.callee with
    | .value _ => match o.dst with
      | some d => fac1 (getT ts d) ms X
      | none => X
    | _ => X
  | _ => X
def facV : List Oper → Ts → Ms → Prop → Prop
  | [], ts, ms, X => X
  | o :: l, ts, ms, X => callDst o ts ms (facV l ts ms X)
def ev (P : Program) (T : TT) (n : Fx) : Code → (Ex → Ts → Ms → Prop) → Ts → Ms → Prop
  | .skip, Q, ts, ms => Q .normal ts ms
  | .label _, Q, ts, ms => Q .normal ts ms
  | .ret, Q, ts, ms => Q .ret ts ms
  | .exit id, Q, ts, ms => Q (.exit id) ts ms
  | .seq a b, Q, ts, ms => ev P T n a (seqV (ev P T n b Q) Q) ts ms
  | .block id c, Q, ts, ms => ev P T n c (blockV id Q) ts ms
  | .cond c x y, Q, ts, ms => (opnd c).go ts ms fun v => match v with
    | .bool b => BrS b (condV c true ts fun ts => ev P T n x Q ts ms) (condV c false ts fun ts => ev P T n y Q ts ms)
    | _ => False
  | .region _ ops draw, Q, ts, ms => match draw with
    | false => regV P T n ops.toList ops.toList ts ms fun ts ms => facV ops.toList ts ms (Q .normal ts ms)
    | true => ChkS (orderedB ops.toList (clOf ops.toList)) (regVL P T n ops.toList (clOf ops.toList) [] 0 ops.toList ts ms fun ts ms => facV ops.toList ts ms (Q .normal ts ms))
  | .loop c, Q, ts, ms => LoopG P c (QL n Q) (St.ls n ts ms)
  | _, _, _, _ => False
/-- What is returned. -/
def expLeafV (x : AV) (ts : Ts) (ms : Ms) (K : AV → Ms → Prop) : Prop := (expLeaf x).go ts ms fun p => match p with
  | (y, l) => fmK l ms fun ms => K y ms
def expLeavesV : List AV → Ts → Ms → (List AV → Ms → Prop) → Prop
  | [], ts, ms, K => K [] ms
  | x :: l, ts, ms, K => expLeafV x ts ms fun y ms => expLeavesV l ts ms fun ys ms => K (y :: ys) ms
def expValV (x : AV) (ts : Ts) (ms : Ms) (K : AV → Ms → Prop) : Prop := match x with
  | .agg cs => expLeavesV cs ts ms fun ys ms => K (.agg ys) ms
  | v => expLeafV v ts ms K
def expValsV : List AV → Ts → Ms → (List AV → Ms → Prop) → Prop
  | [], ts, ms, K => K [] ms
  | x :: l, ts, ms, K => expValV x ts ms fun y ms => expValsV l ts ms fun ys ms => K (y :: ys) ms
def retV (T : TT) (rs : List ResultVar) (res : AV) (ts : Ts) (ms : Ms) : Prop := (slotsP T rs).go ts ms fun xs => match xs with
  | [x] => expValV x ts ms fun y _ => fg y fun y => ShG y res
  | xs => expValsV xs ts ms fun ys _ => fg (.tup ys) fun y => ShG y res
def retQV (T : TT) (rs : List ResultVar) (res : AV) : Ex → Ts → Ms → Prop
  | .ret, ts, ms => retV T rs res ts ms
  | .normal, ts, ms => retV T rs res ts ms
  | .exit _, _, _ => False
def numK : List Nat → List AV → (Ts → Prop) → Prop
  | _, [], K => K []
  | k :: ks, x :: l, K => fc x fun x => numK ks l fun ts => K ((k, x) :: ts)
  | [], _ :: _, _ => False
def numbers : List Nat := [0, 1, 2, 3, 4, 5, 6, 7, 8, 9, 10, 11, 12, 13, 14, 15, 16, 17, 18, 19]
def enterV (as : List AV) (K : Ts → Ms → Prop) : Prop := match impVals e0 as with
  | (vs, l) => numK numbers vs fun ts => fmK l [] fun ms => K ts ms
/-- The after-images of what was handed over. -/
structure AftG (x o y : AV) (n : Option Nat) (X : Prop) : Prop where
  h1 : x.rowsN = n
  h2 : o = y
  k : X
def aftK (ms : Ms) : List (Option Nat) → List AV → List AV → Prop → Prop
  | [], [], [], X => X
  | none :: hs, _ :: as, o :: os, X => okK o.isUndef (aftK ms hs as os X)
  | some b :: hs, x :: as, o :: os, X => okK (!(idsOf hs).contains b) <| match getM ms b with
    | .live ⟨arr, lvl, z, rows⟩ => match arr with
      | true => AftG x o (.own lvl z rows) (some rows.length) (aftK ms hs as os X)
      | false => False
    | _ => False
  | _, _, _, _ => False
def retVA (T : TT) (rs : List ResultVar) (res : AV) (hs : List (Option Nat)) (as os : List AV) (ts : Ts) (ms : Ms) : Prop := (slotsP T rs).go ts ms fun xs => match xs with
  | [x] => expValV x ts ms fun y ms => fg y fun y => aftK ms hs as os (ShG y res)
  | xs => expValsV xs ts ms fun ys ms => fg (.tup ys) fun y => aftK ms hs as os (ShG y res)
def retQVA (T : TT) (rs : List ResultVar) (res : AV) (hs : List (Option Nat)) (as os : List AV) : Ex → Ts → Ms → Prop
  | .ret, ts, ms => retVA T rs res hs as os ts ms
  | .normal, ts, ms => retVA T rs res hs as os ts ms
  | .exit _, _, _ => False
end Go.Abs
