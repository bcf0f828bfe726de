/- A machine that runs closed calls of the program by the kernel: the machine, its states, regions that draw their order. No condition. -/
import Derived.Calls
import Derived.RangeFuncRecord
import Derived.Test.YthcadcdfoenclaaGreatDoorSimD
namespace Go.Proofs.YthcadcdfoenclaaGreatDoor.Sim
open Go Go.RowKit

section
inductive AItem where
  | code (c : Code)
  | inBlock (id : Nat)
  | inLoop (body : Code)
  | inScope (body : Code)
  | inRegion (ops : Array Oper) (rest : List Oper)
  | inDraw (ops : Array Oper) (t : Nat) (V : List (Nat × Value)) (base : Nat)
  | inRangeFunc (l : Nat)
  | endRangeFunc (l : Nat)
  | beginRound

inductive AMode where
  | run
  | returning
  | panicking (chain : List PanicEntry)

structure AFrame where
  fn : FuncId
  nt : Nat
  vars : List (Option Value)
  over : List (Nat × Value)
  todo : List AItem
  defers : List Deferred
  mode : AMode
  kind : CallKind
  roundOf : Option Nat

structure ASt where
  fr : AFrame
  cs : List AFrame
  A : AMem

inductive AOut where
  | next (s : ASt)
  | branch (l : List ASt)
  | done (f : FuncId) (v : Value)
  | stuck

noncomputable def AFrame.put (fr : AFrame) (d : Option Tmp) (v : Value) : Option AFrame :=
  match d with
  | none => some fr
  | some t =>
    match Nat.blt t fr.nt, tset fr.vars fr.over t v with
    | true, (vs, ov) => some { fr with vars := vs, over := ov }
    | false, _ => none

noncomputable def AFrame.finish (fr : AFrame) (v : Value) : Option AFrame :=
  match fr.todo with
  | .inRegion ops (o :: rest) :: k => ({ fr with todo := .inRegion ops rest :: k }).put o.dst v
  | .inRangeFunc l :: k => some { fr with todo := .endRangeFunc l :: k }
  | .beginRound :: k => some { fr with todo := k }
  | _ => none

def isQuiet : Op → Bool
  | .move _ | .assign _ | .pick .. | .load .. | .nilCheck _ | .binOp .. | .unOp .. | .convert .. | .makeInterface .. | .makeFunc .. | .slice .. | .fieldAddr .. | .field .. | .indexAddr .. | .index .. | .lookup .. | .build .. | .extract .. | .typeAssert .. | .entry _ => true
  | .call { callee := .builtin .len, .. } | .call { callee := .builtin .min, .. } | .call { callee := .builtin .max, .. } => true
  | _ => false

def isAl : Op → Bool
  | .alloc _ | .box .. | .buildSlice .. | .makeMap .. | .makeSlice .. => true
  | _ => false
def isChain (o : Op) : Bool := match isQuiet o, isAl o with | false, false => true | _, _ => false

def chainOf (ops : List Oper) (i : Nat) : List Nat :=
  match ops with
  | [] => []
  | o :: r => (match isChain o.op with | false => chainOf r (Nat.succ i) | true => i :: chainOf r (Nat.succ i))
def alsOf (ops : List Oper) (i : Nat) : List Nat :=
  match ops with
  | [] => []
  | o :: r => (match isAl o.op with | false => alsOf r (Nat.succ i) | true => i :: alsOf r (Nat.succ i))
noncomputable def AFrame.drawFinish (fr : AFrame) (v : Value) : Option AFrame :=
  match fr.mode, fr.todo with
  | .run, .inDraw ops t V base :: k =>
    (match t with
      | 0 => none
      | t' + 1 => (match nth (chainOf ops.toList 0) t' with | some c => (match alook V c with | none => some { fr with todo := .inDraw ops t ((c, v) :: V) base :: k } | some _ => none) | none => none))
  | .run, _ => fr.finish v
  | _, _ => none

def aExitTo (id : Nat) : List AItem → Option (List AItem)
  | .inBlock id' :: k => (match Nat.beq id' id with | true => some k | false => aExitTo id k)
  | _ :: k => aExitTo id k
  | [] => none

def aYielded (v : Option Value) (want : Bool) : Option Bool :=
  match v, want with
  | some (.bool true), true => some true
  | some (.bool false), false => some true
  | some (.bool true), false => some false
  | some (.bool false), true => some false
  | some (.tuple _), _ => some false
  | _, _ => none

noncomputable def aWanted (fr : AFrame) (ops : List Oper) (o : Oper) : Option Bool :=
  match o.guard with
  | none => some true
  | some (j, want) =>
    match nth ops j with
    | some g => (match g.dst with | some t => aYielded (tget fr.vars fr.over t) want | none => none)
    | none => none

def rais (m : AMode) (vs : List PanicEntry) : AMode :=
  match m with
  | .panicking chain => .panicking (vs ++ chain)
  | _ => .panicking vs

noncomputable def aEnter (T : Tab) (f : FuncId) (args : List Value) (kind : CallKind) : Option AFrame :=
  match T.fn.get f with
  | some a => some { fn := f, nt := a.ntmps, vars := app (List.rec (motive := fun _ => List (Option Value)) [] (fun v _ r => some v :: r) args) (Nat.rec (motive := fun _ => List (Option Value)) [] (fun _ r => none :: r) (Nat.sub a.nvars (len args))), over := [], todo := [.code a.body], defers := [], mode := .run, kind := kind, roundOf := none }
  | none => none

noncomputable def aBranch (s : ASt) (rs : List (Value × AMem)) : Option (List ASt) :=
  match rs with
  | [] => some []
  | r :: rest => (match s.fr.finish r.1, aBranch s rest with | some fr, some l => some ({ s with fr := fr, A := r.2 } :: l) | _, _ => none)

noncomputable def apVal (s : ASt) (v : Value) (A : AMem) : AOut := (match s.fr.finish v with | some fr => .next { s with fr := fr, A := A } | none => .stuck)
noncomputable def retFrame (f nt : Nat) (over : List (Nat × Value)) : AFrame := { fn := f, nt := nt, vars := [], over := over, todo := [], defers := [], mode := .returning, kind := .normal, roundOf := none }
noncomputable def inM (T : Tab) (f : FuncId) (args : List Value) (fr : AFrame) (cs : List AFrame) (A : AMem) : ASt :=
  match mTry T f args A with
  | some (nt, ov, A') => { fr := retFrame f nt ov, cs := cs, A := A' }
  | none => { fr := fr, cs := cs, A := A }
noncomputable def apEnter (T : Tab) (s : ASt) (f : FuncId) (args : List Value) : AOut := (match aEnter T f args .normal with | some fr => .next (inM T f args fr (s.fr :: s.cs) s.A) | none => .stuck)
noncomputable def apDefer (s : ASt) (d : Deferred) : AOut := (match s.fr.roundOf, ({ s.fr with defers := d :: s.fr.defers } : AFrame).finish undef with | none, some fr => .next { s with fr := fr } | _, _ => .stuck)
noncomputable def apRecover (s : ASt) : AOut :=
    (match s.fr.roundOf, s.fr.kind, s.cs with
      | none, .deferred, c :: rest =>
        (match c.mode with
          | .panicking ({ v := v, recovered := false, goexit := false } :: older) =>
            (match s.fr.finish v with | some fr => .next { s with fr := fr, cs := { c with mode := .panicking ({ v := v, recovered := true } :: older) } :: rest } | none => .stuck)
          | .run => .stuck
          | .returning => (match s.fr.finish .nilIface with | some fr => .next { s with fr := fr } | none => .stuck)
          | _ => .stuck)
      | _, _, _ => .stuck)
noncomputable def apPanic (s : ASt) (v : Value) : AOut := .next { s with fr := { s.fr with mode := rais s.fr.mode [{ v := v, recovered := false }] } }
noncomputable def apRound (s : ASt) (l : Nat) (L : ALoop) (vs : List (Option Value)) (ov : List (Nat × Value)) : AOut :=
    .next { s with fr := { fn := L.fn, nt := L.nt, vars := vs, over := ov, todo := [.code L.assign, .beginRound, .code L.body], defers := [], mode := .run, kind := .normal, roundOf := some l }, cs := s.fr :: s.cs }
noncomputable def apBranch (s : ASt) (rs : List (Value × AMem)) : AOut := (match aBranch s rs with | some l => .branch l | none => .stuck)
noncomputable def aApply (T : Tab) (s : ASt) (r : ARes) : AOut :=
  match r with
  | .val v A => apVal s v A
  | .skip A => apVal s undef A
  | .enter f args => apEnter T s f args
  | .defer d => apDefer s d
  | .recover => apRecover s
  | .panic v => apPanic s v
  | .round l L vs ov => apRound s l L vs ov
  | .branch rs => apBranch s rs

def mem (x : Nat) (l : List Nat) : Bool := match l with | [] => false | y :: r => (match Nat.beq y x with | true => true | false => mem x r)
def uni (a b : List Nat) : List Nat := match a with | [] => b | x :: r => (match mem x b with | true => uni r b | false => x :: uni r b)
noncomputable def befOf (acc : List (List Nat)) (es : List Edge) : List Nat :=
  match es with
  | [] => []
  | e :: r => (match Region.binds .any e with | true => uni (e.on :: (match nth acc e.on with | some l => l | none => [])) (befOf acc r) | false => befOf acc r)
noncomputable def befs (acc : List (List Nat)) (ops : List Oper) : List (List Nat) :=
  match ops with
  | [] => acc
  | o :: r => befs (app acc [befOf acc o.after.toList]) r

structure DI where
  bef : List (List Nat)
  chain : List Nat
  als : List Nat
  dsts : List (Nat × Nat)

def dstsOf (ops : List Oper) (i : Nat) : List (Nat × Nat) :=
  match ops with
  | [] => []
  | o :: r => (match o.dst with | some d => (d, i) :: dstsOf r (Nat.succ i) | none => dstsOf r (Nat.succ i))
noncomputable def dinfo (ops : List Oper) : DI := { bef := befs [] ops, chain := chainOf ops 0, als := alsOf ops 0, dsts := dstsOf ops 0 }

noncomputable def before (D : DI) (i j : Nat) : Bool := match nth D.bef j with | some l => mem i l | none => false
noncomputable def openBef (D : DI) (j : Nat) (pending : List Nat) : Bool := match pending with | [] => true | c :: r => (match before D c j with | true => false | false => openBef D j r)
noncomputable def openAft (D : DI) (j : Nat) (done : List Nat) : Bool := match done with | [] => true | c :: r => (match before D j c with | true => false | false => openAft D j r)

noncomputable def dtmp (D : DI) (V : List (Nat × Value)) (vars : List (Option Value)) (over : List (Nat × Value)) (j t : Nat) : Option Value :=
  match alook D.dsts t with
  | some k => (match before D k j with | true => alook V k | false => (match Nat.beq k j with | true => tget vars over t | false => (match before D j k with | true => tget vars over t | false => none)))
  | none => tget vars over t
noncomputable def dev (N : Nat) (D : DI) (V : List (Nat × Value)) (vars : List (Option Value)) (over : List (Nat × Value)) (j : Nat) (x : Operand) : Option Value :=
  match x with
  | .tmp t => dtmp D V vars over j t
  | x => aeval N vars over x
noncomputable def dWanted (D : DI) (V : List (Nat × Value)) (o : Oper) (j : Nat) : Option Bool :=
  match o.guard with
  | none => some true
  | some (g, want) => (match before D g j with | true => aYielded (alook V g) want | false => none)

noncomputable def qop (T : Tab) (A : AMem) (ev : Operand → Option Value) (o : Op) : Option Value :=
  match isQuiet o with
  | false => none
  | true =>
    match aop T A ev o with
    | some (.val v _) =>
      (match o with
        | .convert _ _ _ => (match v with | .slice _ _ _ => none | v => some v)
        | _ => some v)
    | _ => none

def notGrownB : AObj → Bool
  | .cells _ (.grown _) => false
  | _ => true

noncomputable def needAl (D : DI) (V : List (Nat × Value)) (done pending : List Nat) (js : List Nat) : Bool :=
  match js with
  | [] => false
  | j :: r =>
    match alook V j with
    | some _ => needAl D V done pending r
    | none => (match openBef D j pending, openAft D j done with | true, true => true | _, _ => needAl D V done pending r)

noncomputable def dpre (T : Tab) (D : DI) (vars : List (Option Value)) (over : List (Nat × Value)) (done pending : List Nat) (base : Nat) (ops : List Oper) (j : Nat) (A : AMem) (V : List (Nat × Value)) : Option (AMem × List (Nat × Value)) :=
  match ops with
  | [] => some (A, V)
  | o :: r =>
    match isChain o.op with
    | true => dpre T D vars over done pending base r (Nat.succ j) A V
    | false =>
      match alook V j with
      | some _ => dpre T D vars over done pending base r (Nat.succ j) A V
      | none =>
        match openBef D j pending, openAft D j done with
        | true, true =>
          (match dWanted D V o j with
            | some true =>
              (match isAl o.op with
                | true =>
                  (match alop T (dev T.nglob D V vars over j) o.op with
                    | some (ob, mk) => (match notGrownB ob, Nat.blt (Nat.add base j) 16000000 with | true, true => dpre T D vars over done pending base r (Nat.succ j) (aset A (Nat.add base j) ob) ((j, mk (Nat.add base j)) :: V) | _, _ => none)
                    | none => none)
                | false =>
                  (match qop T A (dev T.nglob D V vars over j) o.op with
                    | some v => dpre T D vars over done pending base r (Nat.succ j) A ((j, v) :: V)
                    | none => dpre T D vars over done pending base r (Nat.succ j) A V))
            | some false => dpre T D vars over done pending base r (Nat.succ j) A ((j, undef) :: V)
            | none => dpre T D vars over done pending base r (Nat.succ j) A V)
        | _, _ => dpre T D vars over done pending base r (Nat.succ j) A V

noncomputable def dpass (T : Tab) (D : DI) (A : AMem) (vars : List (Option Value)) (over : List (Nat × Value)) (done pending : List Nat) (ops : List Oper) (j : Nat) (V : List (Nat × Value)) : Option (List (Nat × Value)) :=
  match ops with
  | [] => some V
  | o :: r =>
    match isQuiet o.op with
    | false =>
      (match isAl o.op, openBef D j pending, openAft D j done, alook V j with
        | true, true, true, none => none
        | _, _, _, _ => dpass T D A vars over done pending r (Nat.succ j) V)
    | true =>
      match openBef D j pending, openAft D j done with
      | true, true =>
        (match (match dWanted D V o j with
            | some true => qop T A (dev T.nglob D V vars over j) o.op
            | some false => some undef
            | none => none) with
          | some v =>
            (match alook V j with
              | none => dpass T D A vars over done pending r (Nat.succ j) ((j, v) :: V)
              | some u => (match vEq u v with | true => dpass T D A vars over done pending r (Nat.succ j) V | false => none))
          | none => none)
      | _, _ => dpass T D A vars over done pending r (Nat.succ j) V

def memL (x : Nat) (l : List Nat) : Bool := mem x l
def okEdges (es : List Edge) (j : Nat) : Bool :=
  match es with
  | [] => true
  | e :: r => (match Region.binds .any e, Nat.blt e.on j with | true, false => false | _, _ => okEdges r j)
def hasD (l : List (Nat × Nat)) (g : Nat) : Bool := match l with | [] => false | p :: r => (match Nat.beq p.2 g with | true => true | false => hasD r g)
noncomputable def okOps (D : DI) (ops : List Oper) (j : Nat) : Bool :=
  match ops with
  | [] => true
  | o :: r =>
    match okEdges o.after.toList j, (match o.guard with | none => true | some (g, _) => (match before D g j with | true => hasD D.dsts g | false => false)) with
    | true, true => okOps D r (Nat.succ j)
    | _, _ => false
noncomputable def okChain (D : DI) (c : List Nat) : Bool :=
  match c with
  | a :: b :: r => (match before D a b with | true => okChain D (b :: r) | false => false)
  | _ => true
def lookD (l : List (Nat × Nat)) (k : Nat) : Option Nat := match l with | [] => none | (a, b) :: r => (match Nat.beq a k with | true => some b | false => lookD r k)
def nodupD (l : List (Nat × Nat)) : Bool :=
  match l with
  | [] => true
  | p :: r => (match lookD r p.1 with | none => nodupD r | some _ => false)
def okDst (nt : Nat) (l : List (Nat × Nat)) : Bool :=
  match l with
  | [] => true
  | p :: r => (match Nat.blt p.1 nt with | true => okDst nt r | false => false)
noncomputable def okDraw (ops : List Oper) (nt : Nat) : Bool :=
  match okOps (dinfo ops) ops 0, okChain (dinfo ops) (dinfo ops).chain, nodupD (dinfo ops).dsts, okDst nt (dinfo ops).dsts with
  | true, true, true, true => true
  | _, _, _, _ => false

noncomputable def takeL (l : List Nat) (n : Nat) : List Nat := match n, l with | 0, _ => [] | n + 1, x :: r => x :: takeL r n | _, [] => []

noncomputable def dflush (V : List (Nat × Value)) (ds : List (Nat × Nat)) (fr : AFrame) : Option AFrame :=
  match ds with
  | [] => some fr
  | (d, j) :: r => (match alook V j with | some v => (match fr.put (some d) v with | some fr' => dflush V r fr' | none => none) | none => none)

noncomputable def aLeave (s : ASt) (jump : Option Code) : AOut :=
  match s.fr.roundOf with
  | none =>
    (match jump with
      | none => .next { s with fr := { s.fr with mode := .returning } }
      | some .ret => .next { s with fr := { s.fr with mode := .returning } }
      | _ => .stuck)
  | some l =>
    match s.A.heap.get l, s.cs, s.fr.kind with
    | some (.loop L), c :: rest, .normal =>
      (match c.drawFinish (.bool jump.isNone) with
        | some c' => .next { fr := c', cs := rest, A := aset s.A l (.loop { L with st := if jump.isNone then .ready else .done, pending := jump }) }
        | none => .stuck)
    | _, _, _ => .stuck

noncomputable def trimOver (over : List (Nat × Value)) : List (Nat × Value) := match over with | a :: b :: c :: d :: _ => [a, b, c, d] | l => l

noncomputable def toS (s : ASt) (todo : List AItem) : AOut := .next { s with fr := { s.fr with todo := todo } }
noncomputable def aCond (T : Tab) (s : ASt) (c : Operand) (a b : Code) (k : List AItem) : AOut := (match aeval T.nglob s.fr.vars s.fr.over c with | some (.bool true) => toS s (.code a :: k) | some (.bool false) => toS s (.code b :: k) | _ => .stuck)
noncomputable def aExit (s : ASt) (id : Nat) (k : List AItem) : AOut := (match aExitTo id k with | some k' => toS s k' | none => aLeave s (some (.exit id)))
noncomputable def aReg (s : ASt) (ops : Array Oper) (k : List AItem) : AOut := .next { s with fr := { s.fr with over := trimOver s.fr.over, todo := .inRegion ops ops.toList :: k } }
noncomputable def aRegD (s : ASt) (ops : Array Oper) (k : List AItem) : AOut := (match okDraw ops.toList s.fr.nt with | true => .next { s with fr := { s.fr with over := trimOver s.fr.over, todo := .inDraw ops 0 [] s.A.next :: k }, A := { s.A with next := Nat.add s.A.next (len ops.toList) } } | false => .stuck)
noncomputable def aRF (T : Tab) (s : ASt) (f : Operand) (params : Array Tmp) (assign body : Code) (k : List AItem) : AOut :=
    (match aeval T.nglob s.fr.vars s.fr.over f with
      | some fv =>
        match s.fr.roundOf with
        | none =>
          (let A1 := aalloc s.A (.deferred (some []))
           let L : ALoop := { st := .ready, pending := none, fn := s.fr.fn, vars := s.fr.vars, over := s.fr.over, nt := s.fr.nt, params := params.toList, assign := assign, body := body, defers := s.A.next }
           let A2 := aalloc A1 (.loop L)
           match rFunc T A2 fv [.func (.yield A1.next) #[] #[]] with
           | some r => aApply T { fr := { s.fr with todo := .inRangeFunc A1.next :: k, defers := { target := .collected s.A.next, args := #[] } :: s.fr.defers }, cs := s.cs, A := A2 } r
           | none => .stuck)
        | some l =>
          (match s.A.heap.get l with
            | some (.loop L0) =>
              (let L : ALoop := { st := .ready, pending := none, fn := s.fr.fn, vars := s.fr.vars, over := s.fr.over, nt := s.fr.nt, params := params.toList, assign := assign, body := body, defers := L0.defers }
               let A2 := aalloc s.A (.loop L)
               match rFunc T A2 fv [.func (.yield s.A.next) #[] #[]] with
               | some r => aApply T { fr := { s.fr with todo := .inRangeFunc s.A.next :: k }, cs := s.cs, A := A2 } r
               | none => .stuck)
            | _ => .stuck)
      | none => .stuck)
noncomputable def aCode (T : Tab) (s : ASt) (c : Code) (k : List AItem) : AOut :=
  match c with
  | .skip | .label _ => toS s k
  | .seq a b => toS s (.code a :: .code b :: k)
  | .cond c a b => aCond T s c a b k
  | .block id b => toS s (.code b :: .inBlock id :: k)
  | .loop b => toS s (.code b :: .inLoop b :: k)
  | .scope b => toS s (.code b :: .inScope b :: k)
  | .exit id => aExit s id k
  | .ret => aLeave s (some .ret)
  | .region _ ops false => aReg s ops k
  | .region _ ops true => aRegD s ops k
  | .rangeFunc f params assign body => aRF T s f params assign body k
  | _ => .stuck

noncomputable def dslot (T : Tab) (D : DI) (A : AMem) (vars : List (Option Value)) (over : List (Nat × Value)) (done pending : List Nat) (base : Nat) (ops : List Oper) (V : List (Nat × Value)) : Option (AMem × List (Nat × Value)) :=
  match needAl D V done pending D.als with
  | false => (match dpass T D A vars over done pending ops 0 V with | some V1 => some (A, V1) | none => none)
  | true =>
    match dpre T D vars over done pending base ops 0 A V with
    | some (A1, V1) => (match dpass T D A1 vars over done pending ops 0 V1 with | some V2 => some (A1, V2) | none => none)
    | none => none

noncomputable def aDraw (T : Tab) (s : ASt) (ops : Array Oper) (t : Nat) (V : List (Nat × Value)) (base : Nat) (k : List AItem) : AOut :=
  match dslot T (dinfo ops.toList) s.A s.fr.vars s.fr.over (takeL (dinfo ops.toList).chain t) (dropN (dinfo ops.toList).chain t) base ops.toList V with
  | some (A1, V1) =>
    (match nth (dinfo ops.toList).chain t with
      | none => (match dflush V1 (dinfo ops.toList).dsts { s.fr with todo := k } with | some fr => .next { s with fr := fr, A := A1 } | none => .stuck)
      | some c =>
        match nth ops.toList c with
        | some o =>
          (match dWanted (dinfo ops.toList) V1 o c, alook V1 c with
            | some false, none => .next { s with fr := { s.fr with todo := .inDraw ops (Nat.succ t) ((c, undef) :: V1) base :: k }, A := A1 }
            | some true, none =>
              (match aop T A1 (dev T.nglob (dinfo ops.toList) V1 s.fr.vars s.fr.over c) o.op with
                | some (.val v A) => .next { s with fr := { s.fr with todo := .inDraw ops (Nat.succ t) ((c, v) :: V1) base :: k }, A := A }
                | some (.skip A) => .next { s with fr := { s.fr with todo := .inDraw ops (Nat.succ t) ((c, undef) :: V1) base :: k }, A := A }
                | some (.enter f args) => (match aEnter T f args .normal with | some fr => .next (inM T f args fr ({ s.fr with todo := .inDraw ops (Nat.succ t) V1 base :: k } :: s.cs) A1) | none => .stuck)
                | _ => .stuck)
            | _, _ => .stuck)
        | none => .stuck)
  | none => .stuck

noncomputable def aOper (T : Tab) (s : ASt) (ops : Array Oper) (o : Oper) : AOut :=
    (match aWanted s.fr ops.toList o with
      | some true => (match aop T s.A (aeval T.nglob s.fr.vars s.fr.over) o.op with | some r => aApply T s r | none => .stuck)
      | some false => (match s.fr.finish undef with | some fr => .next { s with fr := fr } | none => .stuck)
      | none => .stuck)
noncomputable def aBegin (s : ASt) (k : List AItem) : AOut :=
    (match s.fr.roundOf with
      | some l => (match s.A.heap.get l with
        | some (.loop L) => (match L.st with | .ready => .next { s with fr := { s.fr with todo := k }, A := aset s.A l (.loop { L with st := .busy }) } | _ => .stuck)
        | _ => .stuck)
      | none => .stuck)
noncomputable def aEndRF (s : ASt) (l : Nat) (k : List AItem) : AOut :=
    (match s.A.heap.get l with
      | some (.loop L) => (match L.st with
        | .busy => .stuck
        | _ => .next { s with fr := { s.fr with todo := (match L.pending with | some c => .code c :: k | none => k) }, A := aset s.A l (.loop { L with st := .exhausted }) })
      | _ => .stuck)
noncomputable def aReg1 (T : Tab) (s : ASt) (ops : Array Oper) (rest : List Oper) (k : List AItem) : AOut := match rest with | [] => toS s k | o :: _ => aOper T s ops o
noncomputable def aItem (T : Tab) (s : ASt) (i : AItem) (k : List AItem) : AOut :=
  match i with
  | .code c => aCode T s c k
  | .inBlock _ => toS s k
  | .inScope _ => toS s k
  | .inLoop b => toS s (.code b :: .inLoop b :: k)
  | .inRegion ops rest => aReg1 T s ops rest k
  | .inDraw ops t V base => aDraw T s ops t V base k
  | .beginRound => aBegin s k
  | .endRangeFunc l => aEndRF s l k
  | .inRangeFunc _ => .stuck
noncomputable def aExec (T : Tab) (s : ASt) : AOut :=
  match s.fr.todo with
  | [] => aLeave s none
  | i :: k => aItem T s i k

noncomputable def aResults (T : Tab) (A : AMem) (fr : AFrame) (rs : List ResultVar) : Option (List Value) :=
  match rs with
  | [] => some []
  | .tmp t :: r => (match tget fr.vars fr.over t, aResults T A fr r with | some v, some l => some (v :: l) | _, _ => none)
  | .cell a t :: r => (match tget fr.vars fr.over a with
    | some p => (match opLoad T A t p, aResults T A fr r with | some (v, _), some l => some (v :: l) | _, _ => none)
    | none => none)

def tup (vs : List Value) : Value := match vs with | [v] => v | vs => .tuple ⟨vs⟩
def dropRec (l : List PanicEntry) : List PanicEntry := l.dropWhile (!·.goexit)

noncomputable def forgetD (ds : List (Nat × Nat)) (vars : List (Option Value)) : List (Option Value) :=
  match ds with
  | [] => vars
  | (d, _) :: r => forgetD r (lset none vars d)
noncomputable def aUnwind (T : Tab) (s : ASt) : AOut :=
  match s.fr.defers with
  | { target := .collected b, .. } :: ds =>
    (match s.A.heap.get b with
      | some (.deferred (some calls)) => .next { s with fr := { s.fr with defers := app calls ds }, A := aset s.A b (.deferred none) }
      | _ => .stuck)
  | { target := .fn (.func f) captured, args := args } :: ds =>
    (match aEnter T f (app args.toList captured.toList) .deferred with
      | some fr => .next { fr := fr, cs := { s.fr with defers := ds } :: s.cs, A := s.A }
      | none => .stuck)
  | _ :: _ => .stuck
  | [] =>
    match s.fr.mode with
    | .run => .stuck
    | .panicking chain => (match s.cs, T.fn.get s.fr.fn with | c :: rest, some _ => (match c.todo with
      | .inDraw ops _ _ _ :: _ => .next { s with fr := { c with mode := rais c.mode chain, vars := forgetD (dinfo ops.toList).dsts c.vars, over := [], todo := [] }, cs := rest }
      | _ => .next { s with fr := { c with mode := rais c.mode chain }, cs := rest }) | _, _ => .stuck)
    | .returning =>
      match T.fn.get s.fr.fn with
      | none => .stuck
      | some a =>
        match aResults T s.A s.fr a.results with
        | none => .stuck
        | some vs =>
          match s.cs, s.fr.kind, s.fr.roundOf with
          | [], .normal, none => .done s.fr.fn (tup vs)
          | c :: rest, .normal, none => (match c.drawFinish (tup vs) with | some c' => .next { s with fr := c', cs := rest } | none => .stuck)
          | c :: rest, .deferred, none =>
            (match c.mode with
              | .panicking ({ recovered := true, .. } :: older) =>
                (match dropRec older with
                  | [] => .next { s with fr := { c with mode := .returning }, cs := rest }
                  | r => .next { s with fr := { c with mode := .panicking r }, cs := rest })
              | .run => .stuck
              | _ => .next { s with fr := c, cs := rest })
          | _, _, _ => .stuck

noncomputable def astep (T : Tab) (s : ASt) : AOut :=
  match s.fr.mode with
  | .run => aExec T s
  | _ => aUnwind T s
end

section
def PERel (μ : Mu) (a b : PanicEntry) : Prop := VRel μ a.v b.v ∧ a.recovered = b.recovered ∧ a.goexit = b.goexit
theorem PERel.mono {μ μ' : Mu} (h : Mu.Le μ μ') {a b : PanicEntry} (k : PERel μ a b) : PERel μ' a b := ⟨k.1.mono h, k.2⟩

inductive ModeRel (μ : Mu) : AMode → FrameMode → Prop
  | run : ModeRel μ .run .run
  | returning : ModeRel μ .returning .returning
  | panicking {a b : List PanicEntry} (h : LRel (PERel μ) a b) : ModeRel μ (.panicking a) (.panicking b)
theorem ModeRel.mono {μ μ' : Mu} (h : Mu.Le μ μ') {a : AMode} {b : FrameMode} (k : ModeRel μ a b) : ModeRel μ' a b := by
  cases k with
  | run => exact .run
  | returning => exact .returning
  | panicking hl => exact .panicking (hl.mono fun _ _ => PERel.mono h)

inductive ItemRel (μ : Mu) : AItem → Item → Prop
  | code (c : Code) : ItemRel μ (.code c) (.code c)
  | inBlock (id : Nat) : ItemRel μ (.inBlock id) (.inBlock id)
  | inLoop (c : Code) : ItemRel μ (.inLoop c) (.inLoop c)
  | inScope (c : Code) : ItemRel μ (.inScope c) (.inScope c)
  | inRegion {ops : Array Oper} {i : Nat} (h : i ≤ ops.size) : ItemRel μ (.inRegion ops (ops.toList.drop i)) (.inRegion ops (List.range' i (ops.size - i)))
  | inRangeFunc {l : Nat} {e : Ent} (h : μ l = some e) : ItemRel μ (.inRangeFunc l) (.inRangeFunc e.blk)
  | endRangeFunc {l : Nat} {e : Ent} (h : μ l = some e) : ItemRel μ (.endRangeFunc l) (.endRangeFunc e.blk)
  | beginRound : ItemRel μ .beginRound .beginRound
theorem ItemRel.mono {μ μ' : Mu} (h : Mu.Le μ μ') {a : AItem} {b : Item} (k : ItemRel μ a b) : ItemRel μ' a b := by
  cases k with
  | code c => exact .code c
  | inBlock id => exact .inBlock id
  | inLoop c => exact .inLoop c
  | inScope c => exact .inScope c
  | inRegion hi => exact .inRegion hi
  | inRangeFunc hl => exact .inRangeFunc (h _ _ hl)
  | endRangeFunc hl => exact .endRangeFunc (h _ _ hl)
  | beginRound => exact .beginRound

inductive RoundRel (μ : Mu) : Option Nat → Option Nat → Prop
  | none : RoundRel μ none none
  | some {l : Nat} {e : Ent} (h : μ l = some e) : RoundRel μ (some l) (some e.blk)
theorem RoundRel.mono {μ μ' : Mu} (h : Mu.Le μ μ') {a b : Option Nat} (k : RoundRel μ a b) : RoundRel μ' a b := by
  cases k with
  | none => exact .none
  | some hl => exact .some (h _ _ hl)

structure Core (μ : Mu) (fr : AFrame) (fr' : Frame) : Prop where
  fn : fr'.fn = fr.fn
  kind : fr'.kind = fr.kind
  round : RoundRel μ fr.roundOf fr'.roundOf
  defers : LRel (DefRel μ) fr.defers fr'.defers
  mode : ModeRel μ fr.mode fr'.mode
theorem Core.mono {μ μ' : Mu} (h : Mu.Le μ μ') {a : AFrame} {b : Frame} (k : Core μ a b) : Core μ' a b :=
  ⟨k.fn, k.kind, k.round.mono h, k.defers.mono fun _ _ => DefRel.mono h, k.mode.mono h⟩

abbrev TodoRel (μ : Mu) : List AItem → List Item → Prop := LRel (ItemRel μ)
theorem TodoRel.mono {μ μ' : Mu} (h : Mu.Le μ μ') {a : List AItem} {b : List Item} (k : TodoRel μ a b) : TodoRel μ' a b := LRel.mono (fun _ _ => ItemRel.mono h) k

structure Plain (μ : Mu) (fr : AFrame) (fr' : Frame) : Prop where
  core : Core μ fr fr'
  tm : TRel μ fr.nt fr.vars fr.over fr'.tmps
  todo : fr.mode = .run → TodoRel μ fr.todo fr'.todo
theorem Plain.mono {μ μ' : Mu} (h : Mu.Le μ μ') {a : AFrame} {b : Frame} (k : Plain μ a b) : Plain μ' a b :=
  ⟨k.core.mono h, k.tm.mono h, fun hm => (k.todo hm).mono h⟩

def PendOk (T : Tab) (A : AMem) (D : DI) (V : List (Nat × Value)) (vars : List (Option Value)) (over : List (Nat × Value)) (base j : Nat) (o : Oper) (v : Value) : Prop :=
  ∃ Vi : List (Nat × Value), (∀ k u, alook Vi k = some u → alook V k = some u) ∧
    ((dWanted D Vi o j = some false ∧ v = undef) ∨
     (dWanted D Vi o j = some true ∧ ∃ ob mk, alop T (dev T.nglob D Vi vars over j) o.op = some (ob, mk) ∧ v = mk (base + j) ∧ A.heap.get (base + j) = some ob ∧ notGrownB ob = true))

structure DInv (T : Tab) (μ : Mu) (A : AMem) (lo hi : Nat) (nt : Nat) (vars : List (Option Value)) (over : List (Nat × Value)) (ops : Array Oper) (t : Nat) (V : List (Nat × Value)) (base : Nat) (rest : List Nat) (tm : Array Value) : Prop where
  ok : okDraw ops.toList nt = true
  nt : nt ≤ tm.size
  lo : lo ≤ base
  hi : base + ops.size ≤ hi
  ord : ∃ S : List Nat, (S ++ rest).Pairwise (fun a b => before (dinfo ops.toList) b a = false) ∧ (S ++ rest).Nodup ∧ ∀ i, i ∈ S ++ rest ↔ i < ops.size
  chain : rest.filter (fun i => mem i (dinfo ops.toList).chain) = (dinfo ops.toList).chain.drop t
  done : ∀ i o, i ∉ rest → ops[i]? = some o → ∃ v, alook V i = some v ∧ ∀ d, o.dst = some d → ∃ v', tm[d]? = some v' ∧ VRel μ v v'
  old : ∀ u v, tget vars over u = some v → (∀ k, alook (dinfo ops.toList).dsts u = some k → k ∈ rest) → ∃ v', tm[u]? = some v' ∧ VRel μ v v'
  pend : ∀ j o, j ∈ rest → ops[j]? = some o → isAl o.op = true → μ (base + j) = none ∧ ∀ v, alook V j = some v → PendOk T A (dinfo ops.toList) V vars over base j o v

def Kept (n : Nat) (μ : Mu) (A A' : AMem) : Prop := ∀ b o, b < n → μ b = none → A.heap.get b = some o → notGrownB o = true → A'.heap.get b = some o

theorem notGrown_of {o : AObj} (h : notGrownB o = true) : o.notGrown := by
  cases o with
  | cells xs k => cases k with
    | fixed ro => trivial
    | seen => trivial
    | grown g => cases h
  | _ => trivial
theorem Keep.kept {μ : Mu} {A A' : AMem} (h : Keep μ A A') (n : Nat) : Kept n μ A A' := fun b o _ h1 h2 h3 => h.2 b o h1 h2 (notGrown_of h3)

theorem PendOk.mono {T : Tab} {A A' : AMem} {D : DI} {V V' : List (Nat × Value)} {vars : List (Option Value)} {over : List (Nat × Value)} {base j : Nat} {o : Oper} {v : Value}
    (h : PendOk T A D V vars over base j o v) (hV : ∀ k u, alook V k = some u → alook V' k = some u)
    (hA : ∀ ob, A.heap.get (base + j) = some ob → notGrownB ob = true → A'.heap.get (base + j) = some ob) : PendOk T A' D V' vars over base j o v := by
  obtain ⟨Vi, h1, h2⟩ := h
  refine ⟨Vi, fun k u hk => hV k u (h1 k u hk), ?_⟩
  rcases h2 with h2 | ⟨h2, ob, mk, h3, h4, h5, h6⟩
  · exact .inl h2
  · exact .inr ⟨h2, ob, mk, h3, h4, hA ob h5 h6, h6⟩

theorem DInv.mono {T : Tab} {μ μ' : Mu} {A A' : AMem} {lo hi hi' nt : Nat} {vars : List (Option Value)} {over : List (Nat × Value)} {ops : Array Oper} {t : Nat} {V : List (Nat × Value)} {base : Nat} {rest : List Nat} {tm : Array Value}
    (h : DInv T μ A lo hi nt vars over ops t V base rest tm) (hm : Mu.Ext hi μ μ') (hA : Kept hi μ A A') (hhi : hi ≤ hi') : DInv T μ' A' lo hi' nt vars over ops t V base rest tm where
  ok := h.ok
  nt := h.nt
  lo := h.lo
  hi := Nat.le_trans h.hi hhi
  ord := h.ord
  chain := h.chain
  done := fun i o h1 h2 => let ⟨v, a, b⟩ := h.done i o h1 h2; ⟨v, a, fun d hd => let ⟨v', c, e⟩ := b d hd; ⟨v', c, e.mono hm.1⟩⟩
  old := fun u v h1 h2 => let ⟨v', a, b⟩ := h.old u v h1 h2; ⟨v', a, b.mono hm.1⟩
  pend := fun j o h1 h2 h3 => by
    obtain ⟨a, b⟩ := h.pend j o h1 h2 h3
    have hj : base + j < hi := by
      have := (Array.getElem?_eq_some_iff.1 h2).1
      have := h.hi
      omega
    exact ⟨hm.2 _ hj a, fun v hv => (b v hv).mono (fun _ _ h => h) fun ob h5 h6 => hA _ _ hj a h5 h6⟩

inductive FRel (T : Tab) (μ : Mu) (A : AMem) (lo hi : Nat) (fr : AFrame) (fr' : Frame) : Prop
  | plain (h : Plain μ fr fr')
  | draw {ops : Array Oper} {t : Nat} {V : List (Nat × Value)} {base : Nat} {k : List AItem} {rest : List Nat} {k' : List Item} (core : Core μ fr fr') (run : fr.mode = .run)
      (h1 : fr.todo = .inDraw ops t V base :: k) (h2 : fr'.todo = .inRegion ops rest :: k') (h3 : TodoRel μ k k')
      (h4 : DInv T μ A lo hi fr.nt fr.vars fr.over ops t V base rest fr'.tmps)
inductive CRel (T : Tab) (μ : Mu) (A : AMem) (lo hi : Nat) (fr : AFrame) (fr' : Frame) : Prop
  | plain (h : Plain μ fr fr')
  | wait {ops : Array Oper} {t c : Nat} {V : List (Nat × Value)} {base : Nat} {k : List AItem} {rest : List Nat} {k' : List Item} (core : Core μ fr fr') (run : fr.mode = .run)
      (h1 : fr.todo = .inDraw ops (Nat.succ t) V base :: k) (h2 : fr'.todo = .inRegion ops (c :: rest) :: k') (h3 : TodoRel μ k k') (hc : nth (dinfo ops.toList).chain t = some c)
      (h4 : DInv T μ A lo hi fr.nt fr.vars fr.over ops t V base (c :: rest) fr'.tmps)

theorem CRel.mono {T : Tab} {μ μ' : Mu} {A A' : AMem} {lo hi hi' : Nat} {fr : AFrame} {fr' : Frame} (h : CRel T μ A lo hi fr fr') (hm : Mu.Ext hi μ μ') (hA : Kept hi μ A A') (hhi : hi ≤ hi') : CRel T μ' A' lo hi' fr fr' := by
  cases h with
  | plain h => exact .plain (h.mono hm.1)
  | wait core run h1 h2 h3 hc h4 => exact .wait (core.mono hm.1) run h1 h2 (h3.mono hm.1) hc (h4.mono hm hA hhi)

inductive Stack (T : Tab) (μ : Mu) (A : AMem) : Nat → List AFrame → List Frame → Prop
  | nil (hi : Nat) : Stack T μ A hi [] []
  | cons {lo hi : Nat} {c : AFrame} {c' : Frame} {cs : List AFrame} {cs' : List Frame} (h : CRel T μ A lo hi c c') (hl : lo ≤ hi) (t : Stack T μ A lo cs cs') : Stack T μ A hi (c :: cs) (c' :: cs')

theorem Mu.Ext.le {n m : Nat} (h : n ≤ m) {μ μ' : Mu} (k : Mu.Ext m μ μ') : Mu.Ext n μ μ' := ⟨k.1, fun b hb => k.2 b (by omega)⟩
theorem Kept.le {n m : Nat} (h : n ≤ m) {μ : Mu} {A A' : AMem} (k : Kept m μ A A') : Kept n μ A A' := fun b o hb => k b o (by omega)

theorem Stack.mono {T : Tab} {μ μ' : Mu} {A A' : AMem} {hi hi' : Nat} {cs : List AFrame} {cs' : List Frame} (h : Stack T μ A hi cs cs') (hm : Mu.Ext hi μ μ') (hA : Kept hi μ A A') (hhi : hi ≤ hi') : Stack T μ' A' hi' cs cs' := by
  induction h generalizing hi' with
  | nil hi => exact .nil _
  | cons h hl t ih => exact .cons (h.mono hm hA hhi) (Nat.le_trans hl hhi) (ih (hm.le hl) (hA.le hl) (Nat.le_refl _))

structure SRel (T : Tab) (B : Nat) (μ : Mu) (s : ASt) (fr' : Frame) (cs' : List Frame) (w : World) : Prop where
  mem : MRel μ B s.A w.heap
  glob : GRel μ T.nglob T.anc
  fr : ∃ lo, lo ≤ s.A.next ∧ FRel T μ s.A lo s.A.next s.fr fr' ∧ Stack T μ s.A lo s.cs cs'

def Goes (P : Program) (T : Tab) (B : Nat) (cs0 : List Frame) (m : Machine) (w : World) (s' : ASt) : Prop :=
  ∃ μ fr' cs' w', SRel T B μ s' fr' cs' w' ∧ Steps P m (lone fr' (cs' ++ cs0) w') ∧ Below B w w'
end

section
variable {P : Program} {T : Tab} {B : Nat} {cs0 : List Frame}

def Out (P : Program) (T : Tab) (B : Nat) (cs0 : List Frame) (fr' : Frame) (cs' : List Frame) (w : World) : AOut → Prop
  | .next s' => Goes P T B cs0 (lone fr' (cs' ++ cs0) w) w s'
  | .branch l => ∃ s' ∈ l, Goes P T B cs0 (lone fr' (cs' ++ cs0) w) w s'
  | .done f v => ∃ μ v', fr'.leaving P w (.returned v') ∧ VRel μ v v' ∧ fr'.fn = f ∧ cs' = []
  | .stuck => True

theorem GRel.mono {μ μ' : Mu} {N : Nat} {ν : Mu} (h : GRel μ N ν) (hm : Mu.Le μ μ') : GRel μ' N ν := ⟨fun g hg => hm _ _ (h.1 g hg), h.2.trans hm⟩

def putC (tm : Array Value) (d : Option Tmp) (v : Value) : Array Value := match d with | some d => tm.setIfInBounds d v | none => tm
theorem put_ok {μ : Mu} {fr fr1 : AFrame} {tm : Array Value} (h : TRel μ fr.nt fr.vars fr.over tm) {d : Option Tmp} {v v' : Value} (hv : VRel μ v v') (hp : fr.put d v = some fr1) :
    TRel μ fr.nt fr1.vars fr1.over (putC tm d v') ∧ fr1 = { fr with vars := fr1.vars, over := fr1.over } := by
  cases d with
  | none => injection hp with hp; subst hp; exact ⟨h, rfl⟩
  | some t =>
    have hp : (match Nat.blt t fr.nt, tset fr.vars fr.over t v with | true, (vs, ov) => some { fr with vars := vs, over := ov } | false, _ => none) = some fr1 := hp
    split at hp
    · rename_i vs ov ht he
      injection hp with hp; subst hp
      have := h.set (t := t) (v := v) (v' := v') (by simpa using ht) hv
      rw [he] at this
      exact ⟨this, rfl⟩
    · cases hp

theorem item_region {μ : Mu} {ops : Array Oper} {o : Oper} {rest : List Oper} {y : Item} (h : ItemRel μ (.inRegion ops (o :: rest)) y) :
    ∃ i, i < ops.size ∧ ops[i]? = some o ∧ rest = ops.toList.drop (i + 1) ∧ y = .inRegion ops (i :: List.range' (i + 1) (ops.size - (i + 1))) := by
  generalize hx : AItem.inRegion ops (o :: rest) = x at h
  cases h with
  | @inRegion ops' i hi =>
    injection hx with h1 h2
    subst h1
    have hlt : i < ops.size := by
      rcases Nat.lt_or_ge i ops.size with h | h
      · exact h
      · rw [List.drop_eq_nil_of_le (by simpa using h)] at h2; cases h2
    have hd := List.drop_eq_getElem_cons (l := ops.toList) (i := i) (by simpa using hlt)
    rw [hd] at h2
    injection h2 with h2 h3
    refine ⟨i, hlt, ?_, h3, ?_⟩
    · rw [h2]; simp [hlt]
    · have : ops.size - i = (ops.size - (i + 1)) + 1 := by omega
      rw [this, List.range'_succ]
  | _ => cases hx

theorem finish_ok {μ : Mu} {fr fr1 : AFrame} {fr' : Frame} (h : Plain μ fr fr') (hr : fr.mode = .run) {v v' : Value} (hv : VRel μ v v') (hf : fr.finish v = some fr1) : Plain μ fr1 (fr'.finish v') := by
  unfold AFrame.finish at hf
  split at hf
  · rename_i ops o rest k ht
    have htd := h.todo hr
    rw [ht] at htd
    obtain ⟨y, k', hk, hy, hk'⟩ := htd.cons_left
    obtain ⟨i, hi, ho, hrr, rfl⟩ := item_region hy
    obtain ⟨p1, p2⟩ := put_ok (fr := { fr with todo := .inRegion ops rest :: k }) (tm := fr'.tmps) h.tm hv hf
    have hc := h.core
    have hfin : fr'.finish v' = { fr' with tmps := putC fr'.tmps o.dst v', todo := .inRegion ops (List.range' (i + 1) (ops.size - (i + 1))) :: k' } := by
      simp only [Frame.finish, hk, ho, Option.bind_some]
      cases o.dst <;> rfl
    rw [hfin]
    rw [p2]
    exact ⟨⟨hc.fn, hc.kind, hc.round, hc.defers, hc.mode⟩, p1, fun _ => .cons (hrr ▸ .inRegion (by omega)) hk'⟩
  · rename_i l k ht
    injection hf with hf; subst hf
    have htd := h.todo hr
    rw [ht] at htd
    obtain ⟨y, k', hk, hy, hk'⟩ := htd.cons_left
    cases hy with
    | @inRangeFunc _ e hl =>
      have hc := h.core
      have hfin : fr'.finish v' = { fr' with todo := .endRangeFunc e.blk :: k' } := by simp only [Frame.finish, hk]
      rw [hfin]
      exact ⟨⟨hc.fn, hc.kind, hc.round, hc.defers, hc.mode⟩, h.tm, fun _ => .cons (.endRangeFunc hl) hk'⟩
  · rename_i k ht
    injection hf with hf; subst hf
    have htd := h.todo hr
    rw [ht] at htd
    obtain ⟨y, k', hk, hy, hk'⟩ := htd.cons_left
    cases hy
    have hc := h.core
    have hfin : fr'.finish v' = { fr' with todo := k' } := by simp only [Frame.finish, hk]
    rw [hfin]
    exact ⟨⟨hc.fn, hc.kind, hc.round, hc.defers, hc.mode⟩, h.tm, fun _ => hk'⟩
  · cases hf

theorem todo_kind {μ : Mu} {fr : AFrame} {fr' : Frame} (h : Plain μ fr fr') (hr : fr.mode = .run) : (match fr'.todo with | .call _ true _ _ :: _ => CallKind.wrapped | _ => .normal) = .normal := by
  have ht := h.todo hr
  generalize hx : fr.todo = x at ht
  generalize hy : fr'.todo = y at ht
  cases x with
  | nil => rw [ht.nil_left]
  | cons a x =>
    obtain ⟨b, y', rfl, hab, _⟩ := ht.cons_left
    cases hab <;> rfl

theorem nones_get (n t : Nat) : (Nat.rec (motive := fun _ => List (Option Value)) [] (fun _ r => none :: r) n)[t]? = some none ∨ (Nat.rec (motive := fun _ => List (Option Value)) [] (fun _ r => none :: r) n : List (Option Value))[t]? = none := by
  induction n generalizing t with
  | zero => exact .inr rfl
  | succ n ih =>
    cases t with
    | zero => exact .inl rfl
    | succ t => simpa using ih t
theorem somes_eq (xs : List Value) : (List.rec (motive := fun _ => List (Option Value)) [] (fun v _ r => some v :: r) xs) = xs.map some := by
  induction xs with
  | nil => rfl
  | cons x xs ih => exact congrArg (some x :: ·) ih

theorem enter_ok (C : Cert P T) {μ : Mu} {f : FuncId} {args : List Value} {args' : Array Value} (ha : VsRel μ args args'.toList) {kind : CallKind} {fr1 : AFrame} (h : aEnter T f args kind = some fr1) :
    Plain μ fr1 (Frame.enter P f args' kind) := by
  unfold aEnter at h
  split at h
  case h_2 => cases h
  rename_i a hf
  injection h with h; subst h
  obtain ⟨fn, h1, h2, h3, h4⟩ := C.fn f a hf
  have he : Frame.enter P f args' kind = { fn := f, tmps := args' ++ Array.replicate (a.ntmps - args'.size) undef, todo := [.code a.body], defers := [], mode := .run, kind := kind } := by
    simp [Frame.enter, h1, h2, h3]
  rw [he]
  refine ⟨⟨rfl, rfl, .none, .nil, .run⟩, ⟨?_, ?_⟩, fun _ => .cons (.code _) .nil⟩
  · simp; omega
  · intro t v hv
    unfold tget at hv
    rw [nth_eq, app_eq, somes_eq] at hv
    rcases Nat.lt_or_ge t args.length with hlt | hge
    · rw [List.getElem?_append_left (by simpa using hlt)] at hv
      simp only [List.getElem?_map, List.getElem?_eq_getElem hlt, Option.map_some] at hv
      injection hv with hv; subst hv
      obtain ⟨y, hy, hr⟩ := ha.get (List.getElem?_eq_getElem hlt)
      refine ⟨y, ?_, hr⟩
      have hlt' : t < args'.size := by have := ha.1; simp at this; omega
      rw [Array.getElem?_append_left hlt']; simpa using hy
    · rw [List.getElem?_append_right (by simpa using hge)] at hv
      rcases nones_get (Nat.sub a.nvars (len args)) (t - (args.map some).length) with h0 | h0
      · rw [h0] at hv; cases hv
      · rw [h0] at hv; cases hv


theorem aBranch_mem {s : ASt} : ∀ {rs : List (Value × AMem)} {l : List ASt}, aBranch s rs = some l → ∀ r ∈ rs, ∃ fr, s.fr.finish r.1 = some fr ∧ { s with fr := fr, A := r.2 } ∈ l := by
  intro rs
  induction rs with
  | nil => intro l _ r hr; cases hr
  | cons r0 rs ih =>
    intro l h r hr
    unfold aBranch at h
    split at h
    case h_2 => cases h
    rename_i fr l' hf hl
    injection h with h; subst h
    rcases List.mem_cons.1 hr with rfl | hr
    · exact ⟨fr, hf, by simp⟩
    · obtain ⟨fr2, a, b⟩ := ih hl r hr
      exact ⟨fr2, a, by simp [b]⟩

theorem rais_ok {μ : Mu} {m : AMode} {fr' : Frame} (h : ModeRel μ m fr'.mode) {vs vs' : List PanicEntry} (hv : LRel (PERel μ) vs vs') : ModeRel μ (rais m vs) (fr'.raise vs').mode := by
  generalize hm : fr'.mode = m' at h
  cases h with
  | run => simp only [Frame.raise, hm]; exact .panicking hv
  | returning => simp only [Frame.raise, hm]; exact .panicking hv
  | panicking hl => simp only [Frame.raise, hm]; exact .panicking (hv.app hl)
theorem raise_core {μ : Mu} {fr : AFrame} {fr' : Frame} (h : Core μ fr fr') {vs vs' : List PanicEntry} (hv : LRel (PERel μ) vs vs') : Core μ { fr with mode := rais fr.mode vs } (fr'.raise vs') := by
  have hm := rais_ok h.mode hv
  refine ⟨?_, ?_, ?_, ?_, hm⟩
  · rw [← h.fn]; unfold Frame.raise; split <;> rfl
  · rw [← h.kind]; unfold Frame.raise; split <;> rfl
  · have := h.round; unfold Frame.raise; split <;> exact this
  · have := h.defers; unfold Frame.raise; split <;> exact this
theorem raise_plain {μ : Mu} {fr : AFrame} {fr' : Frame} (h : Plain μ fr fr') {vs vs' : List PanicEntry} (hv : LRel (PERel μ) vs vs') : Plain μ { fr with mode := rais fr.mode vs } (fr'.raise vs') := by
  refine ⟨raise_core h.core hv, ?_, ?_⟩
  · have := h.tm; unfold Frame.raise; split <;> exact this
  · intro hm
    exfalso
    have hm : rais fr.mode vs = .run := hm
    unfold rais at hm
    split at hm <;> cases hm

theorem inM_ok (C : Cert P T) {μ : Mu} {f : FuncId} {args : List Value} {args' : Array Value} {A : AMem} {w : World} {fr : AFrame} {cs : List AFrame} {cs' : List Frame} (R : MRel μ B A w.heap) (G : GRel μ T.nglob T.anc) (ha : VsRel μ args args'.toList)
    (he : aEnter T f args .normal = some fr) (hs : Stack T μ A A.next cs cs') : Goes P T B cs0 (lone (Frame.enter P f args' .normal) (cs' ++ cs0) w) w (inM T f args fr cs A) := by
  unfold inM
  split
  · rename_i nt ov A' hg
    obtain ⟨μ', fr2, w2, ext, R', hn, hA, ⟨f1, f2, f3, f4, f5⟩, htm, hst, hb⟩ := mTry_ok C R G ha hg (cs' ++ cs0)
    refine ⟨μ', fr2, cs', w2, ⟨R', G.mono ext.1, A.next, hn, .plain ⟨⟨f1, f2, by rw [f3]; exact .none, by rw [f4]; exact .nil, by rw [f5]; exact .returning⟩, htm, fun h => by cases h⟩, ?_⟩, hst, hb⟩
    exact hs.mono ext (fun b o hb _ h _ => by rw [hA b hb]; exact h) (Nat.le_refl _)
  · exact ⟨μ, _, cs', w, ⟨R, G, A.next, Nat.le_refl _, .plain (enter_ok C ha he), hs⟩, Steps.refl _ _, Below.refl _ _⟩

theorem apply_ok (C : Cert P T) {μ : Mu} {s : ASt} {fr' : Frame} {cs' : List Frame} {w w0 : World} {m : Machine} {lo : Nat}
    (R : MRel μ B s.A w.heap) (G : GRel μ T.nglob T.anc) (hlo : lo ≤ s.A.next) (hp : Plain μ s.fr fr') (hrn : s.fr.mode = .run) (hs : Stack T μ s.A lo s.cs cs')
    {sem : Sem Next} (hstep : ∀ fr2 cs2 w2, (stepG.apply P true fr' (cs' ++ cs0) none sem w).bare = .go { frame := fr2, callers := cs2, status := .running, dying := none } w2 → Steps P m (lone fr2 cs2 w2))
    (hw : Below B w0 w) {r : ARes} (hr : ResOk P T μ B s.A w sem r) :
    (∀ s', aApply T s r = .next s' → Goes P T B cs0 m w0 s') ∧ (∀ l, aApply T s r = .branch l → ∃ s' ∈ l, Goes P T B cs0 m w0 s') ∧ (∀ f v, aApply T s r ≠ .done f v) := by
  have hval : ∀ {v : Value} {A' : AMem} {fr1 : AFrame}, NextVal P μ B s.A w sem v A' → s.fr.finish v = some fr1 → Goes P T B cs0 m w0 { s with fr := fr1, A := A' } := by
    intro v A' fr1 ⟨v', w', μ', h1, h2, h3, h4, h5, h6⟩ hf
    refine ⟨μ', fr'.finish v', cs', w', ⟨h3, G.mono h2.1, lo, Nat.le_trans hlo h6.1, .plain (finish_ok (hp.mono h2.1) hrn h4 hf), hs.mono (h2.le hlo) (h6.kept _) (Nat.le_refl _)⟩, ?_, hw.trans h5⟩
    refine hstep _ _ _ ?_
    simp [stepG.apply, h1]
  cases r with
  | val v A' =>
    have hr : NextVal P μ B s.A w sem v A' := hr
    simp only [aApply, apVal]
    split
    · rename_i fr1 hf
      refine ⟨?_, nofun, nofun⟩
      intro s' e; injection e with e; subst e
      exact hval hr hf
    · exact ⟨nofun, nofun, nofun⟩
  | skip A' =>
    obtain ⟨w', h1, h3, h5, h6⟩ := hr
    simp only [aApply, apVal]
    split
    · rename_i fr1 hf
      refine ⟨?_, nofun, nofun⟩
      intro s' e; injection e with e; subst e
      refine ⟨μ, fr'.finish undef, cs', w', ⟨h3, G, lo, Nat.le_trans hlo h6.1, .plain (finish_ok hp hrn (VsRel.tuple .nil) hf), hs.mono (Mu.Ext.refl _ _) (h6.kept _) (Nat.le_refl _)⟩, ?_, hw.trans h5⟩
      refine hstep _ _ _ ?_
      simp [stepG.apply, h1]
    · exact ⟨nofun, nofun, nofun⟩
  | enter f args =>
    obtain ⟨args', h1, h2, a, ha⟩ := hr
    simp only [aApply, apEnter]
    split
    · rename_i fr1 hf
      refine ⟨?_, nofun, nofun⟩
      intro s' e; injection e with e; subst e
      obtain ⟨μ', fr2, cs2, w2, k1, k2, k3⟩ := inM_ok (cs0 := cs0) C R G h2 hf (.cons (.plain hp) hlo hs)
      refine ⟨μ', fr2, cs2, w2, k1, Steps.trans ?_ k2, hw.trans k3⟩
      refine hstep _ _ _ ?_
      have hk := todo_kind hp hrn
      simp only [stepG.apply, Sem.runT_eq, h1, if_true, GStep.bare_after, GStep.bare_go]
      exact congrArg (fun kd => GStep.go { frame := Frame.enter P f args' kd, callers := fr' :: (cs' ++ cs0), status := .running, dying := none } w) hk
    · exact ⟨nofun, nofun, nofun⟩
  | defer d =>
    obtain ⟨d', h1, h2⟩ := hr
    simp only [aApply, apDefer]
    split
    · rename_i fr1 hro hf
      refine ⟨?_, nofun, nofun⟩
      intro s' e; injection e with e; subst e
      have hp1 : Plain μ { s.fr with defers := d :: s.fr.defers } { fr' with defers := d' :: fr'.defers } := ⟨⟨hp.core.fn, hp.core.kind, hp.core.round, .cons h2 hp.core.defers, hp.core.mode⟩, hp.tm, hp.todo⟩
      refine ⟨μ, ({ fr' with defers := d' :: fr'.defers } : Frame).finish undef, cs', w, ⟨R, G, lo, hlo, .plain (finish_ok hp1 hrn (VsRel.tuple .nil) hf), hs⟩, ?_, hw⟩
      refine hstep _ _ _ ?_
      simp only [stepG.apply, Sem.runT_eq, h1, if_true, GStep.bare_after, GStep.bare_go]
    · exact ⟨nofun, nofun, nofun⟩
  | panic v =>
    obtain ⟨v', h1, h2⟩ := hr
    simp only [aApply, apPanic]
    refine ⟨?_, nofun, nofun⟩
    intro s' e; injection e with e; subst e
    refine ⟨μ, fr'.raise [{ v := v', recovered := false }], cs', w, ⟨R, G, lo, hlo, .plain (raise_plain hp (.cons ⟨h2, rfl, rfl⟩ .nil)), hs⟩, ?_, hw⟩
    refine hstep _ _ _ ?_
    simp [stepG.apply, h1]
  | round l L vs ov =>
    obtain ⟨e, tm, h1, h2, h3, h4⟩ := hr
    simp only [aApply, apRound]
    refine ⟨?_, nofun, nofun⟩
    intro s' e; injection e with e; subst e
    refine ⟨μ, Frame.round e.blk L.fn tm L.assign L.body .normal, fr' :: cs', w, ⟨R, G, s.A.next, Nat.le_refl _, .plain ⟨⟨rfl, rfl, .some h1, .nil, .run⟩, h4, fun _ => .cons (.code _) (.cons .beginRound (.cons (.code _) .nil))⟩, .cons (.plain hp) hlo hs⟩, ?_, hw⟩
    refine hstep _ _ _ ?_
    simp only [stepG.apply, Sem.runT_eq, h3, if_true, GStep.bare_after, GStep.bare_go]
    rfl
  | branch rs =>
    obtain ⟨r, hr1, hr2⟩ := hr
    simp only [aApply, apBranch]
    split
    · rename_i l hl
      refine ⟨nofun, ?_, nofun⟩
      intro l' e; injection e with e; subst e
      obtain ⟨fr1, hf, hm⟩ := aBranch_mem hl r hr1
      exact ⟨_, hm, hval hr2 hf⟩
    · exact ⟨nofun, nofun, nofun⟩
  | recover =>
    have h1 : sem.run P w = .ok .recover w := hr
    simp only [aApply, apRecover]
    split
    case h_2 => exact ⟨nofun, nofun, nofun⟩
    rename_i c rest hro hkd hcs
    have hro' : fr'.roundOf = none := by
      have := hp.core.round
      rw [hro] at this
      generalize fr'.roundOf = ro at this
      cases this; rfl
    have hkd' : fr'.kind = .deferred := by rw [hp.core.kind, hkd]
    rw [hcs] at hs
    generalize hcs' : cs' = cs2 at hs
    cases hs with
    | @cons lo2 _ _ c' _ cs2' hc hl ht =>
    subst hcs'
    split
    · rename_i v older hmode
      split
      case h_2 => exact ⟨nofun, nofun, nofun⟩
      rename_i fr1 hf
      refine ⟨?_, nofun, nofun⟩
      intro s' e; injection e with e; subst e
      cases hc with
      | wait core run => rw [hmode] at run; cases run
      | plain hc =>
      have hm := hc.core.mode
      rw [hmode] at hm
      generalize hm' : c'.mode = mm at hm
      cases hm with
      | panicking hl2 =>
      obtain ⟨y, older', rfl, hy, ho⟩ := hl2.cons_left
      obtain ⟨v', rc, gx⟩ := y
      obtain ⟨hv, rfl, rfl⟩ := hy
      refine ⟨μ, fr'.finish v', { c' with mode := .panicking ({ v := v', recovered := true } :: older') } :: cs2', w, ⟨R, G, lo, hlo, .plain (finish_ok hp hrn hv hf), .cons (.plain ⟨⟨hc.core.fn, hc.core.kind, hc.core.round, hc.core.defers, .panicking (.cons ⟨hv, rfl, rfl⟩ ho)⟩, hc.tm, fun h => by cases h⟩) hl ht⟩, ?_, hw⟩
      refine hstep _ _ _ ?_
      simp [stepG.apply, h1, hro', tryRecover, hkd', hm']
    · exact ⟨nofun, nofun, nofun⟩
    · rename_i hmode
      split
      case h_2 => exact ⟨nofun, nofun, nofun⟩
      rename_i fr1 hf
      refine ⟨?_, nofun, nofun⟩
      intro s' e; injection e with e; subst e
      have hm' : c'.mode = .returning := by
        have hm : ModeRel μ c.mode c'.mode := by cases hc with
          | plain hc => exact hc.core.mode
          | wait core => exact core.mode
        rw [hmode] at hm
        generalize c'.mode = mm at hm
        cases hm; rfl
      refine ⟨μ, fr'.finish .nilIface, c' :: cs2', w, ⟨R, G, lo, hlo, .plain (finish_ok hp hrn .nilIface hf), by rw [hcs]; exact .cons hc hl ht⟩, ?_, hw⟩
      refine hstep _ _ _ ?_
      simp [stepG.apply, h1, hro', tryRecover, hkd', hm']
    · exact ⟨nofun, nofun, nofun⟩
end

section
variable {P : Program} {T : Tab} {B : Nat} {cs0 : List Frame}

theorem rho_plain {μ : Mu} {fr : AFrame} {fr' : Frame} (G : GRel μ T.nglob T.anc) (h : TRel μ fr.nt fr.vars fr.over fr'.tmps) : RhoRel μ (aeval T.nglob fr.vars fr.over) fr'.eval := by
  intro x v hx
  cases x with
  | tmp t =>
    have hx : tget fr.vars fr.over t = some v := hx
    obtain ⟨v', h1, h2⟩ := h.2 t v hx
    simp only [Frame.eval, Array.getD_eq_getD_getElem?, h1]
    exact h2
  | const c =>
    have hx : (match closedB c with | true => some c | false => none) = some v := hx
    split at hx
    · rename_i hc; injection hx with hx; subst hx; exact closedB_rel hc μ
    · cases hx
  | global g =>
    have hx : (match Nat.blt g T.nglob with | true => some (Value.pointer (some ⟨g, 0, none⟩)) | false => none) = some v := hx
    split at hx
    · rename_i hc; injection hx with hx; subst hx
      exact .ptr (e := ⟨g, 0, none, 0⟩) (G.1 g (by simpa using hc))
    · cases hx
  | func f =>
    injection hx with hx; subst hx
    exact VsRel.func (fun l h => by cases h) .nil .nil

theorem goes_frame {μ : Mu} {s : ASt} {fr' : Frame} {cs' : List Frame} {w : World} {lo : Nat} (R : MRel μ B s.A w.heap) (G : GRel μ T.nglob T.anc) (hlo : lo ≤ s.A.next) (hs : Stack T μ s.A lo s.cs cs')
    {fr1 : AFrame} {fr1' : Frame} (hp : Plain μ fr1 fr1')
    (hstep : (stepG P true { frame := fr', callers := cs' ++ cs0, status := .running, dying := none } w).bare = .go { frame := fr1', callers := cs' ++ cs0, status := .running, dying := none } w) :
    Goes P T B cs0 (lone fr' (cs' ++ cs0) w) w { s with fr := fr1 } :=
  ⟨μ, fr1', cs', w, ⟨R, G, lo, hlo, .plain hp, hs⟩, .one (step_lone_go hstep), Below.refl _ _⟩

theorem exit_ok {μ : Mu} {id : Nat} : ∀ {k : List AItem} {k' : List Item}, TodoRel μ k k' →
    (∀ r, aExitTo id k = some r → ∃ r', exitTo id k' = some r' ∧ TodoRel μ r r') ∧ (aExitTo id k = none → exitTo id k' = none) := by
  intro k
  induction k with
  | nil => intro k' h; rw [h.nil_left]; exact ⟨nofun, fun _ => rfl⟩
  | cons x k ih =>
    intro k' h
    obtain ⟨y, k2, rfl, hxy, ht⟩ := h.cons_left
    cases hxy with
    | inBlock id' =>
      simp only [aExitTo, exitTo]
      by_cases e : id' = id
      · subst e
        simp
        exact ht
      · have h1 : Nat.beq id' id = false := by cases h : Nat.beq id' id with | false => rfl | true => exact absurd (Nat.eq_of_beq_eq_true h) e
        have h2 : (id' == id) = false := by simpa using e
        rw [h1]
        simp only [h2]
        exact ih ht
    | _ => simpa [aExitTo, exitTo] using ih ht
end

section
theorem mem_eq {x : Nat} {l : List Nat} : mem x l = true ↔ x ∈ l := by
  induction l with
  | nil => simp [mem]
  | cons y l ih =>
    unfold mem
    split
    · rename_i h; have := Nat.eq_of_beq_eq_true h; subst this; simp
    · rename_i h; rw [ih]
      have hne : x ≠ y := fun e => by subst e; rw [Nat.beq_refl] at h; cases h
      simp [hne]
theorem mem_false {x : Nat} {l : List Nat} : mem x l = false ↔ x ∉ l := by
  rw [← mem_eq]; simp

theorem mem_uni {x : Nat} {a b : List Nat} : x ∈ uni a b ↔ x ∈ a ∨ x ∈ b := by
  induction a with
  | nil => simp [uni]
  | cons y a ih =>
    unfold uni
    split
    · rename_i h; rw [mem_eq] at h; rw [ih]; simp; grind
    · rw [List.mem_cons, ih]; simp; grind

theorem mem_befOf {acc : List (List Nat)} {x : Nat} : ∀ {es : List Edge}, x ∈ befOf acc es ↔ ∃ e ∈ es, Region.binds .any e = true ∧ (x = e.on ∨ ∃ l, acc[e.on]? = some l ∧ x ∈ l) := by
  intro es
  induction es with
  | nil => simp [befOf]
  | cons e es ih =>
    unfold befOf
    split
    · rename_i h
      rw [mem_uni, ih, List.mem_cons, nth_eq]
      constructor
      · rintro ((rfl | hx) | ⟨e', a, b⟩)
        · exact ⟨e, by simp, h, .inl rfl⟩
        · split at hx
          · rename_i l hl; exact ⟨e, by simp, h, .inr ⟨l, hl, hx⟩⟩
          · cases hx
        · exact ⟨e', by simp [a], b⟩
      · rintro ⟨e', a, b, c⟩
        rcases List.mem_cons.1 a with rfl | a
        · rcases c with rfl | ⟨l, hl, hx⟩
          · exact .inl (.inl rfl)
          · refine .inl (.inr ?_); rw [hl]; exact hx
        · exact .inr ⟨e', a, b, c⟩
    · rename_i h
      rw [ih]
      constructor
      · rintro ⟨e', a, b⟩; exact ⟨e', by simp [a], b⟩
      · rintro ⟨e', a, b, c⟩
        rcases List.mem_cons.1 a with rfl | a
        · rw [h] at b; cases b
        · exact ⟨e', a, b, c⟩

theorem befs_len : ∀ (ops : List Oper) (acc : List (List Nat)), (befs acc ops).length = acc.length + ops.length := by
  intro ops
  induction ops with
  | nil => intro acc; simp [befs]
  | cons o ops ih => intro acc; unfold befs; rw [ih, app_eq]; simp; omega
theorem befs_pre : ∀ (ops : List Oper) (acc : List (List Nat)) (i : Nat), i < acc.length → (befs acc ops)[i]? = acc[i]? := by
  intro ops
  induction ops with
  | nil => intro acc i _; rfl
  | cons o ops ih =>
    intro acc i hi
    unfold befs
    rw [ih _ _ (by rw [app_eq]; simp; omega), app_eq, List.getElem?_append_left hi]
theorem befs_get : ∀ (ops : List Oper) (acc : List (List Nat)) (j : Nat) (o : Oper), ops[j]? = some o →
    (befs acc ops)[acc.length + j]? = some (befOf ((befs acc ops).take (acc.length + j)) o.after.toList) := by
  intro ops
  induction ops with
  | nil => intro acc j o h; simp at h
  | cons o' ops ih =>
    intro acc j o h
    cases j with
    | zero =>
      simp at h; subst h
      unfold befs
      rw [befs_pre _ _ _ (by rw [app_eq]; simp), app_eq]
      simp only [Nat.add_zero, List.getElem?_append_right (Nat.le_refl _), Nat.sub_self, List.getElem?_cons_zero]
      congr 2
      have : ∀ (ops : List Oper) (acc acc2 : List (List Nat)), (befs (acc ++ acc2) ops).take acc.length = acc := by
        intro ops
        induction ops with
        | nil => intro acc acc2; simp [befs]
        | cons o ops ih => intro acc acc2; unfold befs; rw [app_eq, List.append_assoc]; exact ih _ _
      exact (this _ _ _).symm
    | succ j =>
      simp at h
      have := ih (app acc [befOf acc o'.after.toList]) j o h
      unfold befs
      rw [app_eq] at this ⊢
      simp only [List.length_append, List.length_singleton] at this
      have e : acc.length + (j + 1) = acc.length + 1 + j := by omega
      rw [e]
      exact this

theorem before_of {ops : List Oper} {k j : Nat} {o : Oper} (ho : ops[j]? = some o) (h : before (dinfo ops) k j = true) :
    ∃ e ∈ o.after.toList, Region.binds .any e = true ∧ (k = e.on ∨ before (dinfo ops) k e.on = true) := by
  have hg := befs_get ops [] j o ho
  simp at hg
  unfold before at h
  rw [nth_eq] at h
  have h : (match (befs [] ops)[j]? with | some l => mem k l | none => false) = true := h
  rw [hg] at h
  rw [mem_eq, mem_befOf] at h
  obtain ⟨e, a, b, c⟩ := h
  refine ⟨e, a, b, ?_⟩
  rcases c with c | ⟨l, hl, hx⟩
  · exact .inl c
  · right
    unfold before
    rw [nth_eq]
    show (match (befs [] ops)[e.on]? with | some l => mem k l | none => false) = true
    have hlt : (befs [] ops)[e.on]? = some l := by
      rw [List.getElem?_take] at hl
      split at hl
      · exact hl
      · cases hl
    rw [hlt, mem_eq]; exact hx

theorem mem_chainOf {ops : List Oper} : ∀ {n x : Nat}, x ∈ chainOf ops n ↔ ∃ o, n ≤ x ∧ ops[x - n]? = some o ∧ isChain o.op = true := by
  induction ops with
  | nil => intro n x; simp [chainOf]
  | cons o ops ih =>
    intro n x
    have hs : ∀ (o' : Oper), (n ≤ x ∧ (o :: ops)[x - n]? = some o') ↔ (x = n ∧ o = o') ∨ (Nat.succ n ≤ x ∧ ops[x - Nat.succ n]? = some o') := by
      intro o'
      constructor
      · rintro ⟨a, b⟩
        rcases Nat.eq_or_lt_of_le a with e | h
        · subst e; simp at b; exact .inl ⟨rfl, b⟩
        · refine .inr ⟨h, ?_⟩
          have : x - n = (x - Nat.succ n) + 1 := by omega
          rw [this] at b; simpa using b
      · rintro (⟨rfl, rfl⟩ | ⟨a, b⟩)
        · simp
        · refine ⟨by omega, ?_⟩
          have : x - n = (x - Nat.succ n) + 1 := by omega
          rw [this]; simpa using b
    have hs2 : (∃ o', n ≤ x ∧ (o :: ops)[x - n]? = some o' ∧ isChain o'.op = true) ↔ (x = n ∧ isChain o.op = true) ∨ ∃ o', Nat.succ n ≤ x ∧ ops[x - Nat.succ n]? = some o' ∧ isChain o'.op = true := by
      constructor
      · rintro ⟨o', a, b, c⟩
        rcases (hs o').1 ⟨a, b⟩ with ⟨h1, rfl⟩ | ⟨h1, h2⟩
        · exact .inl ⟨h1, c⟩
        · exact .inr ⟨o', h1, h2, c⟩
      · rintro (⟨h1, c⟩ | ⟨o', h1, h2, c⟩)
        · obtain ⟨a, b⟩ := (hs o).2 (.inl ⟨h1, rfl⟩); exact ⟨o, a, b, c⟩
        · obtain ⟨a, b⟩ := (hs o').2 (.inr ⟨h1, h2⟩); exact ⟨o', a, b, c⟩
    rw [hs2]
    unfold chainOf
    split
    · rename_i h; rw [ih]; simp [h]
    · rename_i h; rw [List.mem_cons, ih]; simp [h]
end

section
theorem okEdges_spec {j : Nat} : ∀ {es : List Edge}, okEdges es j = true → ∀ e ∈ es, Region.binds .any e = true → e.on < j := by
  intro es
  induction es with
  | nil => intro _ e he; cases he
  | cons e0 es ih =>
    intro h e he hb
    unfold okEdges at h
    split at h
    · cases h
    · rename_i hne
      rcases List.mem_cons.1 he with rfl | he
      · cases hlt : Nat.blt e.on j with
        | true => simpa using hlt
        | false => exact absurd hlt (hne hb)
      · exact ih h e he hb

theorem hasD_spec {l : List (Nat × Nat)} {g : Nat} (h : hasD l g = true) : ∃ d, (d, g) ∈ l := by
  induction l with
  | nil => cases h
  | cons p l ih =>
    unfold hasD at h
    split at h
    · rename_i hb; exact ⟨p.1, by rw [← Nat.eq_of_beq_eq_true hb]; exact List.mem_cons_self⟩
    · obtain ⟨d, hd⟩ := ih h; exact ⟨d, List.mem_cons_of_mem _ hd⟩

structure OkOp (D : DI) (o : Oper) (j : Nat) : Prop where
  edges : okEdges o.after.toList j = true
  guard : ∀ g want, o.guard = some (g, want) → before D g j = true ∧ ∃ d, (d, g) ∈ D.dsts
theorem okOps_spec {D : DI} : ∀ {ops : List Oper} {n : Nat}, okOps D ops n = true → ∀ j o, ops[j]? = some o → OkOp D o (n + j) := by
  intro ops
  induction ops with
  | nil => intro n _ j o h; simp at h
  | cons o0 ops ih =>
    intro n h j o ho
    unfold okOps at h
    split at h
    case h_2 => cases h
    rename_i h2 h3
    cases j with
    | zero =>
      simp at ho; subst ho
      refine ⟨h2, ?_⟩
      intro g want hg
      rw [hg] at h3
      have h3 : (match before D g (n + 0) with | true => hasD D.dsts g | false => false) = true := h3
      split at h3
      · rename_i hb; exact ⟨hb, hasD_spec h3⟩
      · cases h3
    | succ j =>
      simp at ho
      have := ih h j o ho
      have e : n + (j + 1) = Nat.succ n + j := by omega
      rw [e]; exact this

theorem mem_dstsOf {ops : List Oper} : ∀ {n d i : Nat}, (d, i) ∈ dstsOf ops n ↔ ∃ o, n ≤ i ∧ ops[i - n]? = some o ∧ o.dst = some d := by
  induction ops with
  | nil => intro n d i; simp [dstsOf]
  | cons o ops ih =>
    intro n d i
    have hs2 : (∃ o', n ≤ i ∧ (o :: ops)[i - n]? = some o' ∧ o'.dst = some d) ↔ (i = n ∧ o.dst = some d) ∨ ∃ o', Nat.succ n ≤ i ∧ ops[i - Nat.succ n]? = some o' ∧ o'.dst = some d := by
      constructor
      · rintro ⟨o', a, b, c⟩
        rcases Nat.eq_or_lt_of_le a with e | h
        · subst e; simp at b; subst b; exact .inl ⟨rfl, c⟩
        · refine .inr ⟨o', h, ?_, c⟩
          have : i - n = (i - Nat.succ n) + 1 := by omega
          rw [this] at b; simpa using b
      · rintro (⟨rfl, c⟩ | ⟨o', a, b, c⟩)
        · exact ⟨o, by omega, by simp, c⟩
        · refine ⟨o', by omega, ?_, c⟩
          have : i - n = (i - Nat.succ n) + 1 := by omega
          rw [this]; simpa using b
    rw [hs2]
    unfold dstsOf
    split
    · rename_i d0 h
      rw [List.mem_cons, ih, h]
      constructor
      · rintro (h1 | h1)
        · injection h1 with a b; subst a; subst b; exact .inl ⟨rfl, rfl⟩
        · exact .inr h1
      · rintro (⟨rfl, c⟩ | h1)
        · injection c with c; subst c; exact .inl rfl
        · exact .inr h1
    · rename_i h; rw [ih, h]; simp

theorem lookD_none {l : List (Nat × Nat)} {k : Nat} : lookD l k = none → ∀ i, (k, i) ∉ l := by
  induction l with
  | nil => intro _ i h; cases h
  | cons p l ih =>
    obtain ⟨a, b⟩ := p
    intro h i hm
    unfold lookD at h
    split at h
    · cases h
    · rename_i hne
      rcases List.mem_cons.1 hm with e | hm
      · injection e with e1 e2; subst e1; rw [Nat.beq_refl] at hne; cases hne
      · exact ih h i hm
theorem nodupD_look {l : List (Nat × Nat)} (h : nodupD l = true) : ∀ {d i : Nat}, (d, i) ∈ l ↔ alook l d = some i := by
  induction l with
  | nil => intro d i; simp [alook_nil]
  | cons p l ih =>
    intro d i
    unfold nodupD at h
    split at h
    case h_2 => cases h
    rename_i hn
    have hn := lookD_none hn
    obtain ⟨a, b⟩ := p
    rw [alook_cons, List.mem_cons]
    by_cases e : a = d
    · subst e
      simp
      constructor
      · rintro (rfl | h1)
        · rfl
        · exact absurd h1 (hn i)
      · intro h1; exact .inl h1.symm
    · simp [e, Ne.symm e]
      exact ih h

theorem okDst_spec {nt : Nat} {l : List (Nat × Nat)} (h : okDst nt l = true) : ∀ p ∈ l, p.1 < nt := by
  induction l with
  | nil => intro p hp; cases hp
  | cons q l ih =>
    intro p hp
    unfold okDst at h
    split at h
    case h_2 => cases h
    rename_i hq
    rcases List.mem_cons.1 hp with rfl | hp
    · simpa using hq
    · exact ih h p hp
end

section
theorem linearise_go_acc' (md : Region.Mode) (ops : Array Oper) : ∀ (fuel t : Nat) (listed : Array Bool) (acc : List Nat),
    Region.linearise.go md ops fuel t listed acc = acc.reverse ++ Region.linearise.go md ops fuel t listed [] := by
  intro fuel
  induction fuel with
  | zero => intro t listed acc; simp [Region.linearise.go]
  | succ fuel ih =>
    intro t listed acc
    simp only [Region.linearise.go]
    split
    · rename_i i hi
      rw [ih _ _ (i :: acc), ih _ _ [i]]; simp
    · simp

def Shut (D : DI) (listed : Array Bool) : Prop := ∀ j, listed.getD j false = true → ∀ k, before D k j = true → listed.getD k false = true

theorem listed_set {listed : Array Bool} {i j : Nat} (hi : i < listed.size) : (listed.setIfInBounds i true).getD j false = true ↔ j = i ∨ listed.getD j false = true := by
  simp only [Array.getD_eq_getD_getElem?, Array.getElem?_setIfInBounds]
  by_cases e : i = j
  · subst e; simp [hi]
  · simp [e, Ne.symm e]

theorem linearise_ok {ops : Array Oper} (hok : ∀ j o, ops[j]? = some o → okEdges o.after.toList j = true) : ∀ (fuel t : Nat) (listed : Array Bool), listed.size = ops.size → Shut (dinfo ops.toList) listed →
    ((List.range ops.size).filter fun i => !listed.getD i false).length ≤ fuel →
    (Region.linearise.go .any ops fuel t listed []).Nodup ∧ (∀ i, i ∈ Region.linearise.go .any ops fuel t listed [] ↔ i < ops.size ∧ listed.getD i false = false) ∧
    (Region.linearise.go .any ops fuel t listed []).Pairwise (fun a b => before (dinfo ops.toList) b a = false) := by
  intro fuel
  induction fuel with
  | zero =>
    intro t listed hsz _ hf
    simp only [Region.linearise.go, List.reverse_nil]
    refine ⟨List.nodup_nil, fun i => ⟨fun h => (by cases h), fun ⟨h1, h2⟩ => ?_⟩, List.Pairwise.nil⟩
    have : i ∈ ((List.range ops.size).filter fun i => !listed.getD i false) := by
      rw [List.mem_filter]; exact ⟨by simpa using h1, by rw [h2]; rfl⟩
    have h0 := List.eq_nil_of_length_eq_zero (Nat.le_zero.1 hf)
    rw [h0] at this; cases this
  | succ fuel ih =>
    intro t listed hsz hsh hf
    simp only [Region.linearise.go]
    generalize hrs : ((List.range ops.size).filter fun i => !listed.getD i true && ((ops[i]?).map (·.after.all fun e => !Region.binds .any e || listed.getD e.on false)).getD false) = rs
    have hready : ∀ i, i ∈ rs ↔ ∃ o, ops[i]? = some o ∧ listed.getD i false = false ∧ ∀ e ∈ o.after, Region.binds .any e = true → listed.getD e.on false = true := by
      intro i
      rw [← hrs, List.mem_filter]
      constructor
      · rintro ⟨h1, h2⟩
        have hlt : i < ops.size := by simpa using h1
        rw [Array.getElem?_eq_getElem hlt] at h2 ⊢
        simp only [Option.map_some, Option.getD_some, Bool.and_eq_true, Bool.not_eq_true', Array.all_eq_true'] at h2
        refine ⟨_, rfl, ?_, ?_⟩
        · have := h2.1
          simp only [Array.getD_eq_getD_getElem?, Array.getElem?_eq_getElem (show i < listed.size by omega)] at this ⊢
          exact this
        · intro e he hb
          have := h2.2 e he
          rw [hb] at this
          simpa using this
      · rintro ⟨o, ho, h1, h2⟩
        have hlt := (Array.getElem?_eq_some_iff.1 ho).1
        refine ⟨by simpa using hlt, ?_⟩
        rw [ho]
        simp only [Option.map_some, Option.getD_some, Bool.and_eq_true, Bool.not_eq_true', Array.all_eq_true']
        refine ⟨?_, ?_⟩
        · simp only [Array.getD_eq_getD_getElem?, Array.getElem?_eq_getElem (show i < listed.size by omega)] at h1 ⊢
          exact h1
        · intro e he
          cases hb : Region.binds .any e with
          | false => rfl
          | true => simpa using h2 e he hb
    have hnext : ∀ i, i ∈ rs → (i < ops.size ∧ listed.getD i false = false ∧ Shut (dinfo ops.toList) (listed.setIfInBounds i true)) := by
      intro i hi
      obtain ⟨o, ho, h1, h2⟩ := (hready i).1 hi
      have hlt := (Array.getElem?_eq_some_iff.1 ho).1
      refine ⟨hlt, h1, ?_⟩
      intro j hj k hk
      rw [listed_set (by omega)] at hj ⊢
      rcases hj with rfl | hj
      · obtain ⟨e, he, hb, hc⟩ := before_of (ops := ops.toList) (by simpa using ho) hk
        have hl := h2 e (by simpa using he) hb
        rcases hc with rfl | hc
        · exact .inr hl
        · exact .inr (hsh _ hl _ hc)
      · exact .inr (hsh _ hj _ hk)
    split
    · rename_i i hi
      have him : i ∈ rs := List.mem_of_getElem? hi
      obtain ⟨hlt, h1, hsh'⟩ := hnext i him
      rw [linearise_go_acc']
      simp only [List.reverse_cons, List.reverse_nil, List.nil_append, List.singleton_append]
      have hcnt : ((List.range ops.size).filter fun j => !(listed.setIfInBounds i true).getD j false).length ≤ fuel := by
        have hsub : ((List.range ops.size).filter fun j => !(listed.setIfInBounds i true).getD j false) = ((List.range ops.size).filter fun j => !listed.getD j false).erase i := by
          rw [List.Nodup.erase_eq_filter (List.nodup_range.filter _), List.filter_filter]
          apply List.filter_congr
          intro j _
          have := listed_set (listed := listed) (i := i) (j := j) (by omega)
          cases hj : (listed.setIfInBounds i true).getD j false with
          | true =>
            rcases this.1 hj with rfl | h
            · simp
            · rw [h]; simp
          | false =>
            have hn : ¬(j = i ∨ listed.getD j false = true) := fun h => by rw [this.2 h] at hj; cases hj
            have hn1 : j ≠ i := fun e => hn (.inl e)
            have hn2 : listed.getD j false = false := by cases h : listed.getD j false with
              | false => rfl
              | true => exact absurd (.inr h) hn
            rw [hn2]; simp [hn1]
        have hmem : i ∈ ((List.range ops.size).filter fun j => !listed.getD j false) := by
          rw [List.mem_filter]; exact ⟨by simpa using hlt, by rw [h1]; rfl⟩
        rw [hsub, List.length_erase_of_mem hmem]
        omega
      obtain ⟨a, b, c⟩ := ih (t / rs.length) (listed.setIfInBounds i true) (by simpa using hsz) hsh' hcnt
      have hnot : ∀ j, j ∈ Region.linearise.go .any ops fuel (t / rs.length) (listed.setIfInBounds i true) [] → j ≠ i ∧ (listed.setIfInBounds i true).getD j false = false := by
        intro j hj
        have h2 := ((b j).1 hj).2
        refine ⟨?_, h2⟩
        rintro rfl
        rw [(listed_set (by omega)).2 (.inl rfl)] at h2; cases h2
      refine ⟨?_, ?_, ?_⟩
      · exact List.nodup_cons.2 ⟨fun hm => (hnot i hm).1 rfl, a⟩
      · intro j
        rw [List.mem_cons, b]
        constructor
        · rintro (rfl | ⟨h2, h3⟩)
          · exact ⟨hlt, h1⟩
          · refine ⟨h2, ?_⟩
            cases h : listed.getD j false with
            | false => rfl
            | true => rw [(listed_set (by omega)).2 (.inr h)] at h3; cases h3
        · rintro ⟨h2, h3⟩
          by_cases e : j = i
          · exact .inl e
          · refine .inr ⟨h2, ?_⟩
            cases h : (listed.setIfInBounds i true).getD j false with
            | false => rfl
            | true =>
              rcases (listed_set (by omega)).1 h with h | h
              · exact absurd h e
              · rw [h3] at h; cases h
      · refine List.pairwise_cons.2 ⟨?_, c⟩
        intro j hj
        obtain ⟨hne, hjl⟩ := hnot j hj
        cases hb : before (dinfo ops.toList) j i with
        | false => rfl
        | true =>
          have := hsh' i ((listed_set (by omega)).2 (.inl rfl)) j hb
          rw [this] at hjl; cases hjl
    · rename_i hnone
      have hrs0 : rs = [] := by
        cases rs with
        | nil => rfl
        | cons x xs =>
          have hlt : t % (x :: xs).length < (x :: xs).length := Nat.mod_lt _ (by simp)
          rw [List.getElem?_eq_getElem hlt] at hnone; cases hnone
      simp only [List.reverse_nil]
      refine ⟨List.nodup_nil, fun i => ⟨fun h => (by cases h), fun ⟨h1, h2⟩ => ?_⟩, List.Pairwise.nil⟩
      exfalso
      have hall : ∀ m, m < ops.size → listed.getD m false = true := by
        intro m
        induction m using Nat.strongRecOn with
        | _ m ihm =>
          intro hm
          cases hlm : listed.getD m false with
          | true => rfl
          | false =>
            have ho := Array.getElem?_eq_getElem hm
            have : m ∈ rs := (hready m).2 ⟨_, ho, hlm, fun e he hb => by
              have := okEdges_spec (hok m _ ho) e (by simpa using he) hb
              exact ihm e.on this (by omega)⟩
            rw [hrs0] at this; cases this
      rw [hall i h1] at h2; cases h2

theorem schedule_ok {ops : Array Oper} (hok : ∀ j o, ops[j]? = some o → okEdges o.after.toList j = true) (t : Nat) :
    (Region.schedule true ops t).Nodup ∧ (∀ i, i ∈ Region.schedule true ops t ↔ i < ops.size) ∧ (Region.schedule true ops t).Pairwise (fun a b => before (dinfo ops.toList) b a = false) := by
  have hz : ∀ j, (Array.replicate ops.size false).getD j false = false := by
    intro j
    simp only [Array.getD_eq_getD_getElem?, Array.getElem?_replicate]
    split <;> rfl
  have := linearise_ok hok ops.size t (Array.replicate ops.size false) (by simp) (fun j hj => by rw [hz] at hj; cases hj)
    (by refine Nat.le_trans (List.length_filter_le _ _) (by simp))
  simp only [Region.schedule, Bool.true_or, if_true, Region.linearise]
  refine ⟨this.1, fun i => ?_, this.2.2⟩
  rw [this.2.1]; simp [hz]
end

section
theorem okDraw_spec {ops : List Oper} {nt : Nat} (h : okDraw ops nt = true) :
    okOps (dinfo ops) ops 0 = true ∧ okChain (dinfo ops) (dinfo ops).chain = true ∧ nodupD (dinfo ops).dsts = true ∧ okDst nt (dinfo ops).dsts = true := by
  unfold okDraw at h
  split at h
  · rename_i a b c d; exact ⟨a, b, c, d⟩
  · cases h

theorem before_lt {ops : Array Oper} {nt : Nat} (h : okDraw ops.toList nt = true) : ∀ {j k : Nat} {o : Oper}, ops[j]? = some o → before (dinfo ops.toList) k j = true → k < j := by
  intro j
  induction j using Nat.strongRecOn with
  | _ j ih =>
    intro k o ho hb
    obtain ⟨e, he, hbe, hc⟩ := before_of (ops := ops.toList) (by simpa using ho) hb
    have hok := (okOps_spec (okDraw_spec h).1 j o (by simpa using ho)).edges
    rw [Nat.zero_add] at hok
    have hlt := okEdges_spec hok e he hbe
    rcases hc with rfl | hc
    · exact hlt
    · have hj := (Array.getElem?_eq_some_iff.1 ho).1
      have := ih e.on hlt (Array.getElem?_eq_getElem (show e.on < ops.size by omega)) hc
      omega

theorem dst_look {ops : Array Oper} {nt : Nat} (h : okDraw ops.toList nt = true) {i : Nat} {o : Oper} (ho : ops[i]? = some o) {d : Tmp} (hd : o.dst = some d) :
    alook (dinfo ops.toList).dsts d = some i ∧ d < nt := by
  obtain ⟨_, _, h3, h4⟩ := okDraw_spec h
  have hm : (d, i) ∈ (dinfo ops.toList).dsts := mem_dstsOf.2 ⟨o, Nat.zero_le _, by simpa using ho, hd⟩
  exact ⟨(nodupD_look h3).1 hm, okDst_spec h4 _ hm⟩

theorem putC_size (tm : Array Value) (d : Option Tmp) (v : Value) : (putC tm d v).size = tm.size := by cases d <;> simp [putC]
theorem putC_other {tm : Array Value} {d : Option Tmp} {v : Value} {u : Nat} (h : d ≠ some u) : (putC tm d v)[u]? = tm[u]? := by
  cases d with
  | none => rfl
  | some x =>
    simp only [putC, Array.getElem?_setIfInBounds]
    have : x ≠ u := fun e => h (by rw [e])
    simp [this]
theorem putC_same {tm : Array Value} {d : Tmp} {v : Value} (h : d < tm.size) : (putC tm (some d) v)[d]? = some v := by
  simp [putC, h]

variable {P : Program} {T : Tab} {B : Nat}

theorem DInv.exec' {μ μ' : Mu} {A : AMem} {lo hi nt : Nat} {vars : List (Option Value)} {over : List (Nat × Value)} {ops : Array Oper} {t t' : Nat} {V V' : List (Nat × Value)} {base i : Nat} {rest : List Nat} {tm : Array Value}
    (h : DInv T μ A lo hi nt vars over ops t V base (i :: rest) tm) {o : Oper} (ho : ops[i]? = some o) {v v' : Value} (hv : VRel μ' v v')
    (hm : Mu.Le μ μ') (hpd : ∀ j, j ∈ rest → μ (base + j) = none → μ' (base + j) = none)
    (ht : (mem i (dinfo ops.toList).chain = true ∧ t' = t + 1) ∨ (mem i (dinfo ops.toList).chain = false ∧ t' = t))
    (hV : (V' = V ∧ alook V i = some v) ∨ (V' = (i, v) :: V ∧ alook V i = none)) : DInv T μ' A lo hi nt vars over ops t' V' base rest (putC tm o.dst v') := by
  obtain ⟨S, h1, h2, h3⟩ := h.ord
  have hnd : (i :: rest).Nodup := h2.sublist (List.sublist_append_right _ _)
  have hi : i ∉ rest := (List.nodup_cons.1 hnd).1
  have hVi : alook V' i = some v := by
    rcases hV with ⟨rfl, h⟩ | ⟨rfl, _⟩
    · exact h
    · simp [alook_cons]
  have hVo : ∀ j, j ≠ i → alook V' j = alook V j := by
    intro j hj
    rcases hV with ⟨rfl, _⟩ | ⟨rfl, _⟩
    · rfl
    · simp [alook_cons, Ne.symm hj]
  have hVs : ∀ k u, alook V k = some u → alook V' k = some u := by
    intro k u hk
    by_cases e : k = i
    · subst e
      rcases hV with ⟨rfl, _⟩ | ⟨rfl, hn⟩
      · exact hk
      · rw [hn] at hk; cases hk
    · rw [hVo k e]; exact hk
  refine ⟨h.ok, by rw [putC_size]; exact h.nt, h.lo, h.hi, ⟨S ++ [i], by simpa using h1, by simpa using h2, fun j => by rw [← h3 j]; simp⟩, ?_, ?_, ?_, ?_⟩
  · have hc := h.chain
    rw [List.filter_cons] at hc
    rcases ht with ⟨ht, rfl⟩ | ⟨ht, rfl⟩
    · rw [ht, if_pos rfl] at hc
      have : (dinfo ops.toList).chain.drop (t + 1) = ((dinfo ops.toList).chain.drop t).drop 1 := by rw [List.drop_drop]
      rw [this, ← hc]; rfl
    · rw [ht] at hc; simpa using hc
  · intro j o' hj ho'
    by_cases e : j = i
    · subst e
      rw [ho] at ho'; injection ho' with ho'; subst ho'
      refine ⟨v, hVi, fun d hd => ⟨v', ?_, hv⟩⟩
      rw [hd]
      exact putC_same (Nat.lt_of_lt_of_le (dst_look h.ok ho hd).2 h.nt)
    · obtain ⟨u, a, b⟩ := h.done j o' (fun hm => (List.mem_cons.1 hm).elim e hj) ho'
      refine ⟨u, by rw [hVo j e]; exact a, fun d hd => ?_⟩
      obtain ⟨u', c, f⟩ := b d hd
      refine ⟨u', ?_, f.mono hm⟩
      rw [putC_other]
      · exact c
      · intro hd2
        have x1 := (dst_look h.ok ho' hd).1
        have x2 := (dst_look h.ok ho hd2).1
        rw [x1] at x2; injection x2 with x2; exact e x2
  · intro u w hu hk
    obtain ⟨w', a, b⟩ := h.old u w hu (fun k hk' => List.mem_cons_of_mem _ (hk k hk'))
    refine ⟨w', ?_, b.mono hm⟩
    rw [putC_other]
    · exact a
    · intro hd2
      exact hi (hk i (dst_look h.ok ho hd2).1)
  · intro j o' hj ho' hal
    obtain ⟨a, b⟩ := h.pend j o' (List.mem_cons_of_mem _ hj) ho' hal
    refine ⟨hpd j hj a, fun u hu => ?_⟩
    have hne : j ≠ i := fun e => hi (e ▸ hj)
    rw [hVo j hne] at hu
    exact (b u hu).mono hVs fun _ h _ => h

theorem DInv.exec {μ : Mu} {A : AMem} {lo hi nt : Nat} {vars : List (Option Value)} {over : List (Nat × Value)} {ops : Array Oper} {t t' : Nat} {V V' : List (Nat × Value)} {base i : Nat} {rest : List Nat} {tm : Array Value}
    (h : DInv T μ A lo hi nt vars over ops t V base (i :: rest) tm) {o : Oper} (ho : ops[i]? = some o) {v v' : Value} (hv : VRel μ v v')
    (ht : (mem i (dinfo ops.toList).chain = true ∧ t' = t + 1) ∨ (mem i (dinfo ops.toList).chain = false ∧ t' = t))
    (hV : (V' = V ∧ alook V i = some v) ∨ (V' = (i, v) :: V ∧ alook V i = none)) : DInv T μ A lo hi nt vars over ops t' V' base rest (putC tm o.dst v') :=
  h.exec' ho hv (Mu.Le.refl _) (fun _ _ h => h) ht hV

theorem rho_draw {μ : Mu} {A : AMem} {lo hi : Nat} {fr : AFrame} {fr' : Frame} {ops : Array Oper} {t : Nat} {V Vi : List (Nat × Value)} {base i : Nat} {rest : List Nat} (G : GRel μ T.nglob T.anc)
    (h : DInv T μ A lo hi fr.nt fr.vars fr.over ops t V base (i :: rest) fr'.tmps) (hVi : ∀ k u, alook Vi k = some u → alook V k = some u) :
    RhoRel μ (dev T.nglob (dinfo ops.toList) Vi fr.vars fr.over i) fr'.eval := by
  obtain ⟨S, h1, h2, h3⟩ := h.ord
  have hlt : ∀ k, k ∈ S ++ i :: rest → k < ops.size := fun k => (h3 k).1
  have hpw := List.pairwise_append.1 h1
  intro x v hx
  cases x with
  | tmp u =>
    have hx : dtmp (dinfo ops.toList) Vi fr.vars fr.over i u = some v := hx
    have hgo : (∃ v', fr'.tmps[u]? = some v' ∧ VRel μ v v') → VRel μ v (fr'.eval (.tmp u)) := by
      rintro ⟨v', a, b⟩
      simp only [Frame.eval, Array.getD_eq_getD_getElem?, a]
      exact b
    refine hgo ?_
    unfold dtmp at hx
    have hkd : ∀ k, alook (dinfo ops.toList).dsts u = some k → ∃ o, ops[k]? = some o ∧ o.dst = some u := by
      intro k hk
      have hm := (nodupD_look (okDraw_spec h.ok).2.2.1).2 hk
      obtain ⟨o, _, a, b⟩ := mem_dstsOf.1 hm
      exact ⟨o, by simpa using a, b⟩
    split at hx
    · rename_i k hk
      obtain ⟨o, ho, hd⟩ := hkd k hk
      have hks : k ∈ S ++ i :: rest := (h3 k).2 (Array.getElem?_eq_some_iff.1 ho).1
      split at hx
      · rename_i hb
        -- done
        have hnr : k ∉ i :: rest := by
          intro hm
          rcases List.mem_cons.1 hm with rfl | hm
          · have := before_lt h.ok ho hb; omega
          · have := (List.pairwise_cons.1 hpw.2.1).1 k hm
            rw [hb] at this; cases this
        obtain ⟨w, a, b⟩ := h.done k o hnr ho
        rw [hVi k v hx] at a; injection a with a; subst a
        exact b u hd
      · have hin : k ∈ i :: rest → ∃ v', fr'.tmps[u]? = some v' ∧ VRel μ v v' := by
          intro hm
          refine h.old u v ?_ (fun k2 hk2 => by rw [hk] at hk2; injection hk2 with hk2; subst hk2; exact hm)
          split at hx
          · exact hx
          · split at hx
            · exact hx
            · cases hx
        apply hin
        split at hx
        · rename_i he; rw [Nat.eq_of_beq_eq_true he]; exact List.mem_cons_self
        · split at hx
          · rename_i hb
            rcases List.mem_append.1 hks with hm | hm
            · have := hpw.2.2 k hm i List.mem_cons_self
              rw [hb] at this; cases this
            · exact hm
          · cases hx
    · rename_i hn
      exact h.old u v hx (fun k hk => by rw [hn] at hk; cases hk)
  | const c =>
    have hx : (match closedB c with | true => some c | false => none) = some v := hx
    split at hx
    · rename_i hc; injection hx with hx; subst hx; exact closedB_rel hc μ
    · cases hx
  | global g =>
    have hx : (match Nat.blt g T.nglob with | true => some (Value.pointer (some ⟨g, 0, none⟩)) | false => none) = some v := hx
    split at hx
    · rename_i hc; injection hx with hx; subst hx
      exact .ptr (e := ⟨g, 0, none, 0⟩) (G.1 g (by simpa using hc))
    · cases hx
  | func f =>
    injection hx with hx; subst hx
    exact VsRel.func (fun l h => by cases h) .nil .nil
end

section
variable {P : Program} {T : Tab} {B : Nat}

theorem yield_ok {μ : Mu} {ops : Array Oper} {tm : Array Value} {g : Nat} {og : Oper} (hg : ops[g]? = some og) {u u' : Value} {d : Tmp} (hd : og.dst = some d) (ht : tm[d]? = some u') (hu : VRel μ u u') {want b : Bool}
    (h : aYielded (some u) want = some b) : (yielded ops tm g == some want) = b := by
  have hy : yielded ops tm g = (match u' with | .bool b => some b | _ => none) := by
    unfold yielded
    simp only [hg, Option.bind_some, hd, ht]
    cases u' <;> rfl
  rw [hy]
  cases hu with
  | bool x => cases x <;> cases want <;> injection h with h <;> subst h <;> rfl
  | tuple hn hx => cases want <;> injection h with h <;> subst h <;> rfl
  | _ => cases want <;> cases h

theorem wanted_draw {μ : Mu} {A : AMem} {lo hi nt : Nat} {vars : List (Option Value)} {over : List (Nat × Value)} {ops : Array Oper} {t : Nat} {V Vi : List (Nat × Value)} {base i : Nat} {rest : List Nat} {tm : Array Value}
    (h : DInv T μ A lo hi nt vars over ops t V base (i :: rest) tm) (hVi : ∀ k u, alook Vi k = some u → alook V k = some u) {o : Oper} (ho : ops[i]? = some o) {b : Bool}
    (hw : dWanted (dinfo ops.toList) Vi o i = some b) : Region.wanted o (yielded ops tm) = b := by
  unfold dWanted at hw
  unfold Region.wanted
  split at hw
  · rename_i hg; injection hw with hw; subst hw; simp [hg]
  · rename_i g want hg
    rw [hg]
    split at hw
    case h_2 => cases hw
    rename_i hb
    obtain ⟨S, h1, h2, h3⟩ := h.ord
    have hpw := List.pairwise_append.1 h1
    have hlt := before_lt h.ok ho hb
    have hgs : g < ops.size := by have := (Array.getElem?_eq_some_iff.1 ho).1; omega
    obtain ⟨og, hog⟩ : ∃ og, ops[g]? = some og := ⟨_, Array.getElem?_eq_getElem hgs⟩
    have hnr : g ∉ i :: rest := by
      intro hm
      rcases List.mem_cons.1 hm with rfl | hm
      · omega
      · have := (List.pairwise_cons.1 hpw.2.1).1 g hm
        rw [hb] at this; cases this
    obtain ⟨u, a, c⟩ := h.done g og hnr hog
    cases hVg : alook Vi g with
    | none => rw [hVg] at hw; cases want <;> cases hw
    | some u0 =>
    have := hVi g u0 hVg
    rw [a] at this; injection this with this; subst this
    rw [hVg] at hw
    cases hd : og.dst with
    | none =>
      have hok := (okOps_spec (okDraw_spec h.ok).1 i o (by simpa using ho)).guard g want hg
      obtain ⟨d, hdm⟩ := hok.2
      obtain ⟨o2, _, x1, x2⟩ := mem_dstsOf.1 hdm
      have x1 : ops[g]? = some o2 := by simpa using x1
      rw [hog] at x1; injection x1 with x1; subst x1
      rw [hd] at x2; cases x2
    | some d =>
      obtain ⟨u', e, f⟩ := c d hd
      exact yield_ok hog hd e f hw
end

section

end

end Go.Proofs.YthcadcdfoenclaaGreatDoor.Sim
