/-
  A symbolic executor of the model's code: it reckons all outcomes of a call over values and memory that are known in part.
-/
import GoSem.Step
set_option linter.unusedVariables false
set_option linter.unusedSimpArgs false
set_option linter.unusedSectionVars false

namespace Go.SX
noncomputable section

/-! ### Trees that are indexed by numbers -/
inductive T (α : Type) where
  | nil
  | node (v : α) (l r : T α)
  deriving Inhabited

noncomputable def T.get {α : Type} (t : T α) : Nat → Option α :=
  T.rec (motive := fun _ => Nat → Option α) (fun _ => none) (fun v _ _ gl gr n =>
    Nat.rec (some v) (fun n _ => Bool.rec (gr (Nat.div n 2)) (gl (Nat.div n 2)) (Nat.beq (Nat.mod n 2) 0)) n) t
/-- an element that is there gets another value -/
noncomputable def T.set {α : Type} (t : T α) : Nat → α → T α :=
  T.rec (motive := fun _ => Nat → α → T α) (fun _ _ => T.nil) (fun v l r sl sr n x =>
    Nat.rec (T.node x l r) (fun n _ => Bool.rec (T.node v l (sr (Nat.div n 2) x)) (T.node v (sl (Nat.div n 2) x) r) (Nat.beq (Nat.mod n 2) 0)) n) t
noncomputable def T.setK {α β : Type} (t : T α) : Nat → α → (T α → β) → β :=
  T.rec (motive := fun _ => Nat → α → (T α → β) → β) (fun _ _ k => k T.nil) (fun v l r sl sr n x k =>
    Nat.rec (k (T.node x l r)) (fun n _ => Bool.rec (sr (Nat.div n 2) x fun r' => k (T.node v l r')) (sl (Nat.div n 2) x fun l' => k (T.node v l' r)) (Nat.beq (Nat.mod n 2) 0)) n) t
/-- the same, or one more at the end -/
noncomputable def T.ins {α : Type} (t : T α) : Nat → α → T α :=
  T.rec (motive := fun _ => Nat → α → T α) (fun n x => Nat.rec (T.node x T.nil T.nil) (fun _ _ => T.nil) n) (fun v l r sl sr n x =>
    Nat.rec (T.node x l r) (fun n _ => Bool.rec (T.node v l (sr (Nat.div n 2) x)) (T.node v (sl (Nat.div n 2) x) r) (Nat.beq (Nat.mod n 2) 0)) n) t
noncomputable def T.insK {α β : Type} (t : T α) : Nat → α → (T α → β) → β :=
  T.rec (motive := fun _ => Nat → α → (T α → β) → β) (fun n x k => Nat.rec (k (T.node x T.nil T.nil)) (fun _ _ => k T.nil) n) (fun v l r sl sr n x k =>
    Nat.rec (k (T.node x l r)) (fun n _ => Bool.rec (sr (Nat.div n 2) x fun r' => k (T.node v l r')) (sl (Nat.div n 2) x fun l' => k (T.node v l' r)) (Nat.beq (Nat.mod n 2) 0)) n) t
noncomputable def T.all {α : Type} (p : α → Bool) (t : T α) : Bool :=
  T.rec (motive := fun _ => Bool) true (fun v _ _ a b => Bool.rec false (Bool.rec false b a) (p v)) t
/-- n times the same value; d: more than the number's binary digits -/
noncomputable def T.fill {α : Type} (v : α) (d : Nat) : Nat → T α :=
  Nat.rec (motive := fun _ => Nat → T α) (fun _ => T.nil) (fun _ ih n => Nat.rec T.nil (fun m _ => T.node v (ih (Nat.div (Nat.succ m) 2)) (ih (Nat.div m 2))) n) d
noncomputable def T.putsK {α β : Type} (l : List α) : Nat → T α → (T α → β) → β :=
  List.rec (motive := fun _ => Nat → T α → (T α → β) → β) (fun _ t k => k t) (fun x _ ih n t k => T.setK t n x fun t' => ih (Nat.succ n) t' k) l
noncomputable def T.addsK {α β : Type} (l : List α) : Nat → T α → (T α → β) → β :=
  List.rec (motive := fun _ => Nat → T α → (T α → β) → β) (fun _ t k => k t) (fun x _ ih n t k => T.insK t n x fun t' => ih (Nat.succ n) t' k) l

/-! ### Expressions -/
inductive U where
  | int (n : Int) | bool (b : Bool) | str (s : ByteArray)

def U.toI : U → Int | .int n => n | _ => 0
def U.toB : U → Bool | .bool b => b | _ => false
def U.toS : U → ByteArray | .str s => s | _ => ByteArray.empty

inductive E where
  | int (n : Int) | bool (b : Bool) | str (s : ByteArray) | var (i : Nat)
  | ar (o : BinOp) (k : IntKind) (a b : E)
  | cmp (o : BinOp) (a b : E)
  | mn (a b : E) | mx (a b : E)
  | wr (k : IntKind) (a : E)
  | not (a : E) | and (a b : E) | seq (a b : E) | iff (a b : E) | imp (a b : E)
  deriving Inhabited

/-- Integer arithmetic, as the model has it. -/
def arI (o : BinOp) (k : IntKind) (x y : Int) : Int :=
  match o with
  | .add => k.wrap (x + y)
  | .sub => k.wrap (x - y)
  | .mul => k.wrap (x * y)
  | .quo => k.wrap (x.tdiv y)
  | .rem => x.tmod y
  | .and => k.wrap (BitVec.ofInt k.bits x &&& BitVec.ofInt k.bits y).toNat
  | .or => k.wrap (BitVec.ofInt k.bits x ||| BitVec.ofInt k.bits y).toNat
  | .xor => k.wrap (BitVec.ofInt k.bits x ^^^ BitVec.ofInt k.bits y).toNat
  | .andNot => k.wrap (BitVec.ofInt k.bits x &&& ~~~BitVec.ofInt k.bits y).toNat
  | .shl => k.wrap (x * 2 ^ (min y.toNat k.bits))
  | .shr => x.fdiv (2 ^ (min y.toNat k.bits))
  | _ => 0

def cmpI (o : BinOp) (x y : Int) : Bool :=
  match o with
  | .eql => x == y
  | .neq => x != y
  | .lss => decide (x < y)
  | .leq => decide (x ≤ y)
  | .gtr => decide (x > y)
  | .geq => decide (x ≥ y)
  | _ => false

/-- a string is held byte by byte -/
def bytesB : List UInt8 → List UInt8 → Bool
  | [], [] => true
  | x :: xs, y :: ys => match Nat.beq x.toNat y.toNat with | true => bytesB xs ys | false => false
  | _, _ => false
def eqS (a b : ByteArray) : Bool := bytesB a.data.toList b.data.toList

def minI (x y : Int) : Int := if y < x then y else x
def maxI (x y : Int) : Int := if y > x then y else x

structure Env where
  vs : List U
  bs : List Nat

def E.den (ρ : Env) : E → U
  | .int n => .int n
  | .bool b => .bool b
  | .str s => .str s
  | .var i => ρ.vs.getD i (.int 0)
  | .ar o k a b => .int (arI o k (a.den ρ).toI (b.den ρ).toI)
  | .cmp o a b => .bool (cmpI o (a.den ρ).toI (b.den ρ).toI)
  | .mn a b => .int (minI (a.den ρ).toI (b.den ρ).toI)
  | .mx a b => .int (maxI (a.den ρ).toI (b.den ρ).toI)
  | .wr k a => .int (k.wrap (a.den ρ).toI)
  | .not a => .bool (!(a.den ρ).toB)
  | .and a b => .bool ((a.den ρ).toB && (b.den ρ).toB)
  | .seq a b => .bool (eqS (a.den ρ).toS (b.den ρ).toS)
  | .iff a b => .bool ((a.den ρ).toB == (b.den ρ).toB)
  | .imp a b => .bool (!(a.den ρ).toB || (b.den ρ).toB)

/-- what an expression is as a number, a truth value, a string -/
def E.I (ρ : Env) (e : E) : Int := (e.den ρ).toI
def E.B (ρ : Env) (e : E) : Bool := (e.den ρ).toB
def E.S (ρ : Env) (e : E) : ByteArray := (e.den ρ).toS

def ikB : IntKind → IntKind → Bool
  | .i8, .i8 | .i16, .i16 | .i32, .i32 | .i64, .i64 | .u8, .u8 | .u16, .u16 | .u32, .u32 | .u64, .u64 => true
  | _, _ => false
def opNo : BinOp → Nat
  | .add => 0 | .sub => 1 | .mul => 2 | .quo => 3 | .rem => 4 | .and => 5 | .or => 6 | .xor => 7 | .shl => 8 | .shr => 9 | .andNot => 10
  | .eql => 11 | .neq => 12 | .lss => 13 | .leq => 14 | .gtr => 15 | .geq => 16
def opB (a b : BinOp) : Bool := Nat.beq (opNo a) (opNo b)
def intB : Int → Int → Bool
  | .ofNat a, .ofNat b => Nat.beq a b
  | .negSucc a, .negSucc b => Nat.beq a b
  | _, _ => false
def boolB : Bool → Bool → Bool
  | true, true => true
  | false, false => true
  | _, _ => false

def E.beq : E → E → Bool
  | .int a, .int b => intB a b
  | .bool a, .bool b => boolB a b
  | .var i, .var j => Nat.beq i j
  | .ar o k a b, .ar o' k' a' b' => opB o o' && ikB k k' && a.beq a' && b.beq b'
  | .cmp o a b, .cmp o' a' b' => opB o o' && a.beq a' && b.beq b'
  | .mn a b, .mn a' b' => a.beq a' && b.beq b'
  | .mx a b, .mx a' b' => a.beq a' && b.beq b'
  | .wr k a, .wr k' a' => ikB k k' && a.beq a'
  | .not a, .not a' => a.beq a'
  | .and a b, .and a' b' => a.beq a' && b.beq b'
  | .seq a b, .seq a' b' => a.beq a' && b.beq b'
  | .iff a b, .iff a' b' => a.beq a' && b.beq b'
  | .imp a b, .imp a' b' => a.beq a' && b.beq b'
  | _, _ => false

def mkAr (o : BinOp) (k : IntKind) (a b : E) : E :=
  match a, b with
  | .int x, .int y => .int (arI o k x y)
  | _, _ => .ar o k a b
def mkNot (a : E) : E :=
  match a with
  | .bool b => .bool (!b)
  | .not x => x
  | _ => .not a
/-- comparisons are brought to '=' and '<' -/
def mkCmp (o : BinOp) (a b : E) : E :=
  match a, b with
  | .int x, .int y => .bool (cmpI o x y)
  | _, _ => match a.beq b with
    | true => .bool (cmpI o 0 0)
    | false => match o with
      | .neq => .not (.cmp .eql a b)
      | .gtr => .cmp .lss b a
      | .leq => .not (.cmp .lss b a)
      | .geq => .not (.cmp .lss a b)
      | _ => .cmp o a b
def mkMn (a b : E) : E :=
  match a, b with
  | .int x, .int y => .int (minI x y)
  | _, _ => .mn a b
def mkMx (a b : E) : E :=
  match a, b with
  | .int x, .int y => .int (maxI x y)
  | _, _ => .mx a b
def mkWr (k : IntKind) (a : E) : E :=
  match a with
  | .int x => .int (k.wrap x)
  | _ => .wr k a
def mkAnd (a b : E) : E :=
  match a with
  | .bool true => match b with
    | .bool y => .bool y
    | _ => .and a b
  | .bool false => .bool false
  | _ => .and a b
def mkSeq (a b : E) : E :=
  match a, b with
  | .str x, .str y => .bool (eqS x y)
  | _, _ => .seq a b

structure Off where
  base : Nat
  scale : Nat := 0
  idx : E := .int 0
  deriving Inhabited

def Off.den (ρ : Env) (o : Off) : Nat := o.base + o.scale * (o.idx.I ρ).toNat

/-! ### Values -/
inductive SV where
  | int (k : IntKind) (e : E) | bool (e : E) | str (e : E)
  | nilp | ptr (b : Nat) (o : Off)
  | nils | slice (b : Nat) (o : Off) (len cap : E)
  | nilm | map (b : Nat)
  | nili | nilf | func (fn : Fn) (fi ca : List SV)
  | agg (cs : List SV) | tup (cs : List SV)
  deriving Inhabited

def Env.blk (ρ : Env) (b : Nat) : Nat := ρ.bs.getD b 0

mutual
def SV.den (ρ : Env) : SV → Value
  | .int k e => .int k (e.I ρ)
  | .bool e => .bool (e.B ρ)
  | .str e => .string (e.S ρ)
  | .nilp => .pointer none
  | .ptr b o => .pointer (some ⟨ρ.blk b, o.den ρ, none⟩)
  | .nils => .slice none 0 0
  | .slice b o l c => .slice (some ⟨ρ.blk b, o.den ρ, none⟩) (l.I ρ).toNat (c.I ρ).toNat
  | .nilm => .map none
  | .map b => .map (some (ρ.blk b))
  | .nili => .nilIface
  | .nilf => .nilFunc
  | .func fn fi ca => .func fn (SV.dens ρ fi).toArray (SV.dens ρ ca).toArray
  | .agg cs => .agg (SV.dens ρ cs).toArray
  | .tup cs => .tuple (SV.dens ρ cs).toArray
def SV.dens (ρ : Env) : List SV → List Value
  | [] => []
  | v :: vs => v.den ρ :: SV.dens ρ vs
end

def SV.undef : SV := .tup []

inductive SObj where
  | gone
  | cells (cs : List SV) (tot : E) (elem : TypeId)
  deriving Inhabited

structure Blk where
  own : Bool
  obj : SObj
  deriving Inhabited

structure St where
  nv : Nat
  nb : Nat
  heap : T Blk
  pc : List E
  deriving Inhabited

inductive Ex where
  | normal | exit (id : Nat) | ret
  deriving Inhabited

abbrev Tm := T SV

structure Out where
  ex : Ex
  tmps : Tm
  st : St
  deriving Inhabited

/-! ### Scope -/
noncomputable def E.scp (nv : Nat) (e : E) : Bool :=
  E.rec (motive := fun _ => Bool) (fun _ => true) (fun _ => true) (fun _ => true) (fun i => Nat.blt i nv)
    (fun _ _ _ _ a b => Bool.rec false b a) (fun _ _ _ a b => Bool.rec false b a) (fun _ _ a b => Bool.rec false b a) (fun _ _ a b => Bool.rec false b a)
    (fun _ _ a => a) (fun _ a => a) (fun _ _ a b => Bool.rec false b a) (fun _ _ a b => Bool.rec false b a) (fun _ _ a b => Bool.rec false b a) (fun _ _ a b => Bool.rec false b a) e
noncomputable def SV.scp (nv nb : Nat) (v : SV) : Bool :=
  SV.rec (motive_1 := fun _ => Bool) (motive_2 := fun _ => Bool)
    (fun _ e => e.scp nv) (fun e => e.scp nv) (fun e => e.scp nv) true (fun b o => Bool.rec false (o.idx.scp nv) (Nat.blt b nb))
    true (fun b o l c => Bool.rec false (Bool.rec false (Bool.rec false (c.scp nv) (l.scp nv)) (o.idx.scp nv)) (Nat.blt b nb))
    true (fun b => Nat.blt b nb) true true (fun _ _ _ a b => Bool.rec false b a) (fun _ a => a) (fun _ a => a)
    true (fun _ _ a b => Bool.rec false b a) v
noncomputable def SV.scps (nv nb : Nat) (l : List SV) : Bool :=
  List.rec (motive := fun _ => Bool) true (fun v _ b => Bool.rec false b (v.scp nv nb)) l
def SObj.scp (nv nb : Nat) : SObj → Bool
  | .gone => true
  | .cells cs tot _ => tot.scp nv && SV.scps nv nb cs
def pcScoped (nv : Nat) : List E → Bool
  | [] => true
  | e :: es => e.scp nv && pcScoped nv es
def Blk.scp (nv nb : Nat) (b : Blk) : Bool := b.obj.scp nv nb
def St.scp (st : St) : Bool := pcScoped st.nv st.pc && T.all (Blk.scp st.nv st.nb) st.heap
def tmScoped (nv nb : Nat) (t : Tm) : Bool := T.all (SV.scp nv nb) t

/-! ### Lists -/
noncomputable def getI {α : Type} (l : List α) : Nat → Option α :=
  List.rec (motive := fun _ => Nat → Option α) (fun _ => none) (fun x _ g n => Nat.rec (some x) (fun n _ => g n) n) l
noncomputable def takeI {α : Type} (l : List α) : Nat → Option (List α) :=
  List.rec (motive := fun _ => Nat → Option (List α)) (fun n => Nat.rec (some []) (fun _ _ => none) n)
    (fun x _ g n => Nat.rec (some []) (fun n _ => Option.rec none (fun l => some (x :: l)) (g n)) n) l
noncomputable def dropI {α : Type} (l : List α) : Nat → List α :=
  List.rec (motive := fun _ => Nat → List α) (fun _ => []) (fun x xs g n => Nat.rec (x :: xs) (fun n _ => g n) n) l
/-- vs laid over cs from the head on -/
noncomputable def overI {α : Type} (cs : List α) : List α → Option (List α) :=
  List.rec (motive := fun _ => List α → Option (List α)) (fun vs => List.rec (some []) (fun _ _ _ => none) vs)
    (fun c cs g vs => List.rec (some (c :: cs)) (fun v vs _ => Option.rec none (fun l => some (v :: l)) (g vs)) vs) cs
noncomputable def overAt {α : Type} (cs : List α) : Nat → List α → Option (List α) :=
  List.rec (motive := fun _ => Nat → List α → Option (List α)) (fun n vs => Nat.rec (overI [] vs) (fun _ _ => none) n)
    (fun c cs g n vs => Nat.rec (overI (c :: cs) vs) (fun n _ => Option.rec none (fun l => some (c :: l)) (g n vs)) n) cs

def SV.cells : SV → List SV
  | .agg cs => cs
  | v => [v]
/-- the value of one cell -/
def SV.one : SV → Bool
  | .agg _ | .tup _ => false
  | _ => true
def allOne : List SV → Bool
  | [] => true
  | v :: vs => v.one && allOne vs

mutual
def ofVal : Value → Option SV
  | .bool b => some (.bool (.bool b))
  | .int k n => some (.int k (.int n))
  | .string s => some (.str (.str s))
  | .pointer none => some .nilp
  | .slice none n c => if Nat.beq n 0 && Nat.beq c 0 then some .nils else none
  | .map none => some .nilm
  | .nilFunc => some .nilf
  | .nilIface => some .nili
  | .agg cs => match ofVals cs.toList with | some l => some (.agg l) | none => none
  | _ => none
def ofVals : List Value → Option (List SV)
  | [] => some []
  | v :: vs => match ofVal v, ofVals vs with | some x, some l => some (x :: l) | _, _ => none
end

end
end Go.SX

namespace Go.SX
noncomputable section

/-- the program's types and functions, as trees -/
structure Tab where
  ty : T TypeInfo
  fn : T Func

def Tab.und (tb : Tab) (t : TypeId) : Option TypeDesc :=
  match tb.ty.get t with
  | some i => match i.desc with
    | .named _ u => match tb.ty.get u with
      | some j => some j.desc
      | none => none
    | d => some d
  | none => none

/-! ### Operations that look at no memory -/
def addOff (o : Off) (n : Nat) : Off := ⟨Nat.add o.base n, o.scale, o.idx⟩

def structFields (tb : Tab) (t : TypeId) : Option (List Field) :=
  match tb.und t with
  | some (.struct fs) => some fs.toList
  | _ => none

def sizeS (tb : Tab) (t : TypeId) : Option Nat :=
  match tb.ty.get t with
  | some i => some i.size
  | none => none

def isAggS (tb : Tab) (t : TypeId) : Option Bool :=
  match tb.und t with
  | some (.struct _) => some true
  | some (.array _ _) => some true
  | some _ => some false
  | none => none

def zeroS (tb : Tab) (t : TypeId) : Option SV :=
  match tb.ty.get t with
  | some i => match i.zero with
    | some v => ofVal v
    | none => none
  | none => none

def partS (tb : Tab) (t : TypeId) (cs : List SV) (off : Nat) : Option SV :=
  match isAggS tb t with
  | some true => match sizeS tb t with
    | some n => match takeI (dropI cs off) n with
      | some l => some (.agg l)
      | none => none
    | none => none
  | some false => getI cs off
  | none => none

/-- equality of values that hold only scalars -/
def eqParts (f : TypeId → SV → SV → Option E) (tb : Tab) (xs ys : List SV) : List Field → Option E
  | [] => some (.bool true)
  | fd :: fds =>
    if fd.name == "_" then none else
    match partS tb fd.type xs fd.offset, partS tb fd.type ys fd.offset with
    | some x, some y => match f fd.type x y, eqParts f tb xs ys fds with
      | some a, some b => some (mkAnd a b)
      | _, _ => none
    | _, _ => none
def eqElems (f : SV → SV → Option E) (tb : Tab) (elem : TypeId) (n : Nat) (xs ys : List SV) : Nat → Nat → Option E
  | 0, _ => some (.bool true)
  | k + 1, i =>
    match partS tb elem xs (Nat.mul i n), partS tb elem ys (Nat.mul i n) with
    | some x, some y => match f x y, eqElems f tb elem n xs ys k (Nat.succ i) with
      | some a, some b => some (mkAnd a b)
      | _, _ => none
    | _, _ => none

def mkBeq (a b : E) : Option E :=
  match a, b with
  | .bool true, .bool y => some (.bool y)
  | .bool false, .bool y => some (.bool (!y))
  | .bool true, b => some b
  | .bool false, b => some (mkNot b)
  | a, .bool true => some a
  | a, .bool false => some (mkNot a)
  | a, b => some (.iff a b)

def eqS1 (P : Program) (tb : Tab) : Nat → TypeId → SV → SV → Option E
  | 0, _, _, _ => none
  | d + 1, t, x, y =>
    match tb.und t, x, y with
    | some .bool, .bool a, .bool b => mkBeq a b
    | some (.int _), .int k a, .int k' b => if ikB k k' then some (mkCmp .eql a b) else none
    | some .string, .str a, .str b => some (mkSeq a b)
    | some (.pointer _), .nilp, .nilp => some (.bool true)
    | some (.pointer _), .nilp, .ptr _ _ => some (.bool false)
    | some (.pointer _), .ptr _ _, .nilp => some (.bool false)
    | some (.slice _), .nils, .nils => some (.bool true)
    | some (.slice _), .nils, .slice _ _ _ _ => some (.bool false)
    | some (.slice _), .slice _ _ _ _, .nils => some (.bool false)
    | some (.map _ _), .nilm, .nilm => some (.bool true)
    | some (.map _ _), .nilm, .map _ => some (.bool false)
    | some (.map _ _), .map _, .nilm => some (.bool false)
    | some (.func _ _ _), .nilf, .nilf => some (.bool true)
    | some (.func _ _ _), .nilf, .func _ _ _ => some (.bool false)
    | some (.func _ _ _), .func _ _ _, .nilf => some (.bool false)
    | some (.struct fs), .agg xs, .agg ys =>
      if P.stoodInHeld t then none else eqParts (eqS1 P tb d) tb xs ys fs.toList
    | some (.array len elem), .agg xs, .agg ys =>
      match sizeS tb elem with
      | some n => eqElems (eqS1 P tb d elem) tb elem n xs ys len 0
      | none => none
    | _, _, _ => none

def isAggV : SV → Bool
  | .agg _ => true
  | _ => false

def eqTop (P : Program) (tb : Tab) (t : TypeId) (x y : SV) : Option E :=
  if isAggV x then (if P.eqGuardType P.depth t then none else eqS1 P tb 40 t x y) else eqS1 P tb 40 t x y

def nonzero : E → Bool
  | .int n => !(intB n 0)
  | _ => false

def binS (P : Program) (tb : Tab) (op : BinOp) (t : TypeId) (x y : SV) : Option SV :=
  match x, y with
  | .int k a, .int k' b =>
    match op with
    | .shl | .shr => match b with
      | .int (.ofNat _) => some (.int k (mkAr op k a b))
      | _ => none
    | .add | .sub | .mul | .and | .or | .xor | .andNot => if ikB k k' then some (.int k (mkAr op k a b)) else none
    | .quo | .rem => if ikB k k' && nonzero b then some (.int k (mkAr op k a b)) else none
    | _ => if ikB k k' then some (.bool (mkCmp op a b)) else none
  | .str a, .str b =>
    match op with
    | .eql => some (.bool (mkSeq a b))
    | .neq => some (.bool (mkNot (mkSeq a b)))
    | _ => none
  | x, y =>
    match op with
    | .eql => match eqTop P tb t x y with | some e => some (.bool e) | none => none
    | .neq => match eqTop P tb t x y with | some e => some (.bool (mkNot e)) | none => none
    | _ => none

def unS (op : UnOp) (x : SV) : Option SV :=
  match op, x with
  | .neg, .int k a => some (.int k (mkAr .sub k (.int 0) a))
  | .not, .bool a => some (.bool (mkNot a))
  | _, _ => none

def convS (tb : Tab) (src dst : TypeId) (x : SV) : Option SV :=
  match tb.und src, tb.und dst, x with
  | some _, some (.int k), .int _ a => some (.int k (mkWr k a))
  | some .string, some .string, .str e => some (.str e)
  | _, _, _ => none

def litNat : E → Option Nat
  | .int (.ofNat n) => some n
  | _ => none

def fieldAtS (tb : Tab) (s : TypeId) (x : SV) (f : Nat) : Option SV :=
  match structFields tb s, x with
  | some fs, .ptr b o => match getI fs f with
    | some fd => match sizeS tb fd.type with
      | some n => if Nat.beq n 0 then none else some (.ptr b (addOff o fd.offset))
      | none => none
    | none => none
  | _, _ => none

def fieldS (tb : Tab) (s : TypeId) (x : SV) (f : Nat) : Option SV :=
  match structFields tb s, x with
  | some fs, .agg cs => match getI fs f with
    | some fd => partS tb fd.type cs fd.offset
    | none => none
  | _, _ => none

def indexAtS (tb : Tab) (t : TypeId) (x i : SV) : Option SV :=
  match i with
  | .int _ (.int (.ofNat n)) =>
    match tb.und t, x with
    | some (.array len elem), .ptr b o =>
      if Nat.blt n len then match sizeS tb elem with
        | some sz => some (.ptr b (addOff o (Nat.mul n sz)))
        | none => none
      else none
    | some (.slice elem), .slice b o (.int (.ofNat l)) _ =>
      if Nat.blt n l then match sizeS tb elem with
        | some sz => some (.ptr b (addOff o (Nat.mul n sz)))
        | none => none
      else none
    | _, _ => none
  | _ => none

def indexS (tb : Tab) (t : TypeId) (x i : SV) : Option SV :=
  match i with
  | .int _ (.int (.ofNat n)) =>
    match tb.und t, x with
    | some (.array len elem), .agg cs =>
      if Nat.blt n len then match sizeS tb elem with
        | some sz => partS tb elem cs (Nat.mul n sz)
        | none => none
      else none
    | some .string, .str (.str s) =>
      match s[n]? with
      | some b => some (.int .u8 (.int b.toNat))
      | none => none
    | _, _ => none
  | _ => none

def extractS (x : SV) (i : Nat) : Option SV :=
  match x with
  | .tup vs => getI vs i
  | _ => none

def fillS (place : Nat → Option (Nat × Nat)) (cells : List SV) : List (Nat × SV) → Option (List SV)
  | [] => some cells
  | (i, v) :: rest =>
    match place i with
    | none => none
    | some (off, size) =>
      if Nat.beq v.cells.length size then
        match overAt cells off v.cells with
        | some cs => fillS place cs rest
        | none => none
      else none

def evParts (ev : Operand → Option SV) : List (Nat × Operand) → Option (List (Nat × SV))
  | [] => some []
  | (i, x) :: rest => match ev x, evParts ev rest with
    | some v, some l => some ((i, v) :: l)
    | _, _ => none

def evList (ev : Operand → Option SV) : List Operand → Option (List SV)
  | [] => some []
  | x :: rest => match ev x, evList ev rest with
    | some v, some l => some (v :: l)
    | _, _ => none

def placesS (tb : Tab) : List Field → Option (List (Nat × Nat))
  | [] => some []
  | f :: fs => match sizeS tb f.type, placesS tb fs with
    | some n, some l => some ((f.offset, n) :: l)
    | _, _ => none

def buildS (tb : Tab) (t : TypeId) (parts : List (Nat × SV)) : Option SV :=
  match zeroS tb t with
  | some z =>
    match tb.und t with
    | some (.struct fs) => match placesS tb fs.toList with
      | some ps => match fillS (getI ps) z.cells parts with
        | some cs => some (.agg cs)
        | none => none
      | none => none
    | some (.array _ elem) => match sizeS tb elem with
      | some sz => match fillS (fun i => some (Nat.mul i sz, sz)) z.cells parts with
        | some cs => some (.agg cs)
        | none => none
      | none => none
    | _ => none
  | none => none

def lenS (tb : Tab) (t : TypeId) (x : SV) : Option SV :=
  match tb.und t, x with
  | some .string, .str (.str s) => some (.int .i64 (.int s.size))
  | some (.array n _), _ => some (.int .i64 (.int n))
  | some (.slice _), .nils => some (.int .i64 (.int 0))
  | some (.slice _), .slice _ _ l _ => match litNat l with | some n => some (.int .i64 (.int n)) | none => none
  | some (.map _ _), .nilm => some (.int .i64 (.int 0))
  | _, _ => none

def capS (tb : Tab) (t : TypeId) (x : SV) : Option SV :=
  match tb.und t, x with
  | some (.array n _), _ => some (.int .i64 (.int n))
  | some (.slice _), .nils => some (.int .i64 (.int 0))
  | some (.slice _), .slice _ _ _ c => match litNat c with | some n => some (.int .i64 (.int n)) | none => none
  | _, _ => none

def minmaxS (mx : Bool) : List SV → Option SV
  | [.int k a, .int k' b] =>
    if ikB k k' then some (.int k (match mx with | true => mkMx a b | false => mkMn a b)) else none
  | _ => none

def boundS (x : Option SV) (dflt y : Nat) : Option Nat :=
  match x with
  | none => some dflt
  | some (.int _ (.int (.ofNat n))) => if Nat.ble n y then some n else none
  | some _ => none

/-- the bounds of a slice expression with known numbers -/
def boundsS (len cap : Nat) (lo hi mx : Option SV) : Option (Nat × Nat × Nat) :=
  match mx, hi with
  | some _, none => none
  | _, _ =>
    match boundS mx cap cap with
    | some m => match boundS hi len m with
      | some h => match boundS lo 0 h with
        | some l => if Nat.ble h m then some (l, h, m) else none
        | none => none
      | none => none
    | none => none

def pickOff (o : Off) (m l sz : Nat) : Off := match Nat.beq m l with | true => o | false => addOff o (Nat.mul l sz)

def sliceS (tb : Tab) (t : TypeId) (x : SV) (lo hi mx : Option SV) : Option SV :=
  match tb.und t, x with
  | some (.slice elem), .slice b o (.int (.ofNat len)) (.int (.ofNat cap)) =>
    match boundsS len cap lo hi mx, sizeS tb elem with
    | some (l, h, m), some sz => some (.slice b (pickOff o m l sz) (.int (.ofNat (Nat.sub h l))) (.int (.ofNat (Nat.sub m l))))
    | _, _ => none
  | some (.slice elem), .nils =>
    match boundsS 0 0 lo hi mx, sizeS tb elem with
    | some _, some _ => some .nils
    | _, _ => none
  | some (.array n elem), .ptr b o =>
    match boundsS n n lo hi mx, sizeS tb elem with
    | some (l, h, m), some sz => some (.slice b (pickOff o m l sz) (.int (.ofNat (Nat.sub h l))) (.int (.ofNat (Nat.sub m l))))
    | _, _ => none
  | _, _ => none

def evOpt (ev : Operand → Option SV) : Option Operand → Option (Option SV)
  | none => some none
  | some x => match ev x with | some v => some (some v) | none => none

def pureOp (P : Program) (tb : Tab) (ev : Operand → Option SV) (o : Op) : Option SV :=
  match o with
  | .move x => ev x
  | .assign x => ev x
  | .pick c a b => match ev c with
    | some (.bool (.bool true)) => ev a
    | some (.bool (.bool false)) => ev b
    | _ => none
  | .nilCheck x => match ev x with
    | some (.ptr b o) => some (.ptr b o)
    | _ => none
  | .binOp op t x y _ => match ev x, ev y with
    | some vx, some vy => binS P tb op t vx vy
    | _, _ => none
  | .unOp op _ x => match ev x with
    | some v => unS op v
    | none => none
  | .convert src dst x => match ev x with
    | some v => convS tb src dst v
    | none => none
  | .fieldAddr s x f => match ev x with
    | some v => fieldAtS tb s v f
    | none => none
  | .field s x f => match ev x with
    | some v => fieldS tb s v f
    | none => none
  | .indexAddr t x i => match ev x, ev i with
    | some v, some w => indexAtS tb t v w
    | _, _ => none
  | .index t x i => match ev x, ev i with
    | some v, some w => indexS tb t v w
    | _, _ => none
  | .extract x i => match ev x with
    | some v => extractS v i
    | none => none
  | .build t parts => match evParts ev parts.toList with
    | some ps => buildS tb t ps
    | none => none
  | .makeFunc fn fi ca => match evList ev fi.toList, evList ev ca.toList with
    | some a, some b => some (.func fn a b)
    | _, _ => none
  | .slice t x lo hi mx => match ev x, evOpt ev lo, evOpt ev hi, evOpt ev mx with
    | some v, some l, some h, some m => sliceS tb t v l h m
    | _, _, _, _ => none
  | .call c => match c.callee with
    | .builtin b => match evList ev c.args.toList with
      | some vs => match b with
        | .len => match getI c.argTypes.toList 0, getI vs 0 with
          | some t, some v => lenS tb t v
          | _, _ => none
        | .cap => match getI c.argTypes.toList 0, getI vs 0 with
          | some t, some v => capS tb t v
          | _, _ => none
        | .min => minmaxS false vs
        | .max => minmaxS true vs
        | _ => none
      | none => none
    | _ => none
  | _ => none

/-! ### Memory -/
def litOff (o : Off) : Option Nat := match o.scale with | 0 => some o.base | _ => none

def loadS (tb : Tab) (st : St) (t : TypeId) (x : SV) : Option SV :=
  match x with
  | .ptr b o => match st.heap.get b with
    | some ⟨_, .cells cs _ _⟩ => match litOff o with
      | some n => match isAggS tb t with
        | some true => match sizeS tb t with
          | some sz => match takeI (dropI cs n) sz with
            | some l => some (.agg l)
            | none => none
          | none => none
        | some false => getI cs n
        | none => none
      | none => none
    | _ => none
  | _ => none

def storeS (tb : Tab) (st : St) (t : TypeId) (x v : SV) : Option St :=
  match x with
  | .ptr b o => match st.heap.get b with
    | some ⟨true, .cells cs tot elem⟩ => match litOff o with
      | some n => match sizeS tb t with
        | some sz => if Nat.beq v.cells.length sz && allOne v.cells then
            match overAt cs n v.cells with
            | some cs' => T.setK st.heap b ⟨true, .cells cs' tot elem⟩ fun h => some { st with heap := h }
            | none => none
          else none
        | none => none
      | none => none
    | _ => none
  | _ => none

/-- a new row of cells; the caller's temporaries are asked for their scope, too -/
def newS (tmps : Tm) (st : St) (elem : TypeId) (cs : List SV) : Option (SV × St) :=
  if st.scp && tmScoped st.nv st.nb tmps && SV.scps st.nv st.nb cs then
    T.insK st.heap st.nb ⟨true, .cells cs (.int (.ofNat cs.length)) elem⟩ fun h => some (.ptr st.nb ⟨0, 0, .int 0⟩, { st with nb := Nat.succ st.nb, heap := h })
  else none

def repeatCells (z : List SV) : Nat → List SV
  | 0 => []
  | n + 1 => z ++ repeatCells z n

inductive EffR where
  | val (v : SV) (st : St)
  | skip (st : St)
  | bad

def EffR.ofVal : Option SV → St → EffR
  | some v, st => .val v st
  | none, _ => .bad
def EffR.ofPair : Option (SV × St) → EffR
  | some (v, st) => .val v st
  | none => .bad

def evalS (tmps : Tm) : Operand → Option SV
  | .tmp t => match tmps.get t with | some v => some v | none => some .undef
  | .const v => ofVal v
  | .global _ => none
  | .func f => some (.func (.func f) [] [])

def effOp (tb : Tab) (tmps : Tm) (st : St) (o : Op) : EffR :=
  match o with
  | .load t x => match evalS tmps x with
    | some v => .ofVal (loadS tb st t v) st
    | none => .bad
  | .store t x y => match evalS tmps x, evalS tmps y with
    | some v, some w => match storeS tb st t v w with | some st' => .skip st' | none => .bad
    | _, _ => .bad
  | .box elem x => match evalS tmps x with
    | some v => .ofPair (newS tmps st elem v.cells)
    | none => .bad
  | .alloc elem => match zeroS tb elem with
    | some v => .ofPair (newS tmps st elem v.cells)
    | none => .bad
  | .buildSlice t len parts => match tb.und t, evParts (evalS tmps) parts.toList with
    | some (.slice elem), some ps => match sizeS tb elem, zeroS tb elem with
      | some sz, some z => if Nat.ble (Nat.mul len sz) 16777216 && Nat.beq z.cells.length sz then match fillS (fun i => some (Nat.mul i sz, sz)) (repeatCells z.cells len) ps with
        | some cs => match newS tmps st elem cs with
          | some (.ptr b o, st') => .val (.slice b o (.int (.ofNat len)) (.int (.ofNat len))) st'
          | _ => .bad
        | none => .bad
        else .bad
      | _, _ => .bad
    | _, _ => .bad
  | .binOp op t x y _ => match evalS tmps x, evalS tmps y with
    | some (.ptr a i), some (.ptr b j) =>
      match tb.und t with
      | some (.pointer elem) => match sizeS tb elem with
        | some (Nat.succ _) => match st.heap.get a, st.heap.get b, litOff i, litOff j with
          | some ⟨_, .cells (_ :: _) _ _⟩, some ⟨_, .cells (_ :: _) _ _⟩, some m, some n =>
            match op with
            | .eql => .val (.bool (.bool (Nat.beq a b && Nat.beq m n))) st
            | .neq => .val (.bool (.bool (!(Nat.beq a b && Nat.beq m n)))) st
            | _ => .bad
          | _, _, _, _ => .bad
        | _ => .bad
      | _ => .bad
    | _, _ => .bad
  | _ => .bad

/-! ### Conditions -/
def isIn (e : E) : List E → Bool
  | [] => false
  | x :: xs => match x.beq e with | true => true | false => isIn e xs
/-- every part of a conjunction is known -/
def allIn (pc : List E) : E → Bool
  | .and a b => match allIn pc a with | true => allIn pc b | false => false
  | e => isIn e pc
/-- known, or it follows at once -/
def hasE (pc : List E) (e : E) : List E → Bool
  | [] => false
  | x :: xs => match x with
    | .imp p c => match c.beq e with
      | true => match allIn pc p with
        | true => true
        | false => hasE pc e xs
      | false => hasE pc e xs
    | _ => match x.beq e with
      | true => true
      | false => hasE pc e xs
/-- what is known of a condition -/
def knownE (pc : List E) (e : E) : Option Bool :=
  match e with
  | .bool b => some b
  | _ => match hasE pc e pc with
    | true => some true
    | false => match hasE pc (mkNot e) pc with
      | true => some false
      | false => none

/-! ### Tasks -/
structure Node where
  listed : Nat
  left : Nat
  tmps : Tm
  st : St
  deriving Inhabited

abbrev Res := Option (List Out)
abbrev Cont := Tm → St → Res

/-- of an operation: what it waits for, what it reads, what it writes, as sets -/
structure Info where
  wait : Nat
  reads : Nat
  dst : Nat

inductive Task where
  | code (c : Code)
  | rounds (c : Code)
  | call (f : FuncId) (args : List SV)
  | draw (all : List Oper) (n : Nat)
  | layer (all : List Oper) (infos : List Info) (l : List Node)

def join (a b : Res) : Res :=
  match a with
  | some l => match b with
    | some m => some (l ++ m)
    | none => none
  | none => none

def waitsOf : List Edge → Nat
  | [] => 0
  | e :: es => match Region.binds .any e with
    | true => Nat.lor (Nat.pow 2 e.on) (waitsOf es)
    | false => waitsOf es
def readsOf : List Operand → Nat
  | [] => 0
  | x :: xs => match x with
    | .tmp t => Nat.lor (Nat.pow 2 t) (readsOf xs)
    | _ => readsOf xs
def slotOf (all : List Oper) (j : Nat) : Option Tmp := match getI all j with | some o => o.dst | none => none
def bitOf : Option Tmp → Nat
  | some t => Nat.pow 2 t
  | none => 0
def guardOf (all : List Oper) (o : Oper) : Nat :=
  match o.guard with
  | some (j, _) => bitOf (slotOf all j)
  | none => 0
def infoK (all : List Oper) (o : Oper) : Info :=
  ⟨waitsOf o.after.toList, Nat.lor (guardOf all o) (readsOf o.op.operands.toList), bitOf o.dst⟩
def forceK {β : Type} (n : Nat) (k : Nat → β) : β :=
  match n with
  | 0 => k 0
  | m + 1 => k (m + 1)
def infosOf (all : List Oper) : List Oper → List Info
  | [] => []
  | o :: os => infoK all o :: infosOf all os

/-- those that may come up now -/
def readyFrom (listed : Nat) : List Oper → List Info → Nat → List (Nat × Oper × Info)
  | o :: os, m :: ms, i => match Nat.testBit listed i with
    | true => readyFrom listed os ms (Nat.succ i)
    | false => match Nat.beq (Nat.land m.wait listed) m.wait with
      | true => (i, o, m) :: readyFrom listed os ms (Nat.succ i)
      | false => readyFrom listed os ms (Nat.succ i)
  | _, _, _ => []

/-- may number i be taken first: what is still to come waits for it or has nothing to do with it -/
def freeFrom (listed i : Nat) (x : Info) : List Info → Nat → Bool
  | [], _ => true
  | m :: ms, j => match Nat.testBit listed j with
    | true => freeFrom listed i x ms (Nat.succ j)
    | false => match Nat.beq i j with
      | true => freeFrom listed i x ms (Nat.succ j)
      | false => match Nat.testBit m.wait i with
        | true => freeFrom listed i x ms (Nat.succ j)
        | false => match Nat.beq (Nat.land x.dst m.reads) 0 with
          | true => match Nat.beq (Nat.land x.dst m.dst) 0 with
            | true => match Nat.beq (Nat.land m.dst x.reads) 0 with
              | true => freeFrom listed i x ms (Nat.succ j)
              | false => false
            | false => false
          | false => false

def callS (tb : Tab) (tmps : Tm) (c : Call) : Option (FuncId × List SV) :=
  match c.callee with
  | .value f => match evalS tmps f, evList (evalS tmps) c.args.toList with
    | some (.func (.func f) fi ca), some vs => match tb.fn.get f with
      | some fn => match fn.body with
        | some _ => some (f, fi ++ (vs ++ ca))
        | none => none
      | none => none
    | _, _ => none
  | _ => none

/-- is an operation wanted: yes, no, or it hangs on a condition in a slot -/
inductive Want where
  | yes | no | ask (slot : Tmp) (e : E) (want : Bool)

def wantS (all : List Oper) (tmps : Tm) (o : Oper) : Want :=
  match o.guard with
  | none => .yes
  | some (j, want) => match slotOf all j with
    | some t => match tmps.get t with
      | some (.bool e) => match e with
        | .bool b => match boolB b want with | true => .yes | false => .no
        | _ => .ask t e want
      | _ => .no
    | none => .no

def putK {β : Type} (tmps : Tm) (d : Option Tmp) (v : SV) (k : Tm → β) : β :=
  match d with
  | none => k tmps
  | some t => T.setK tmps t v k

def resOf (tb : Tab) (st : St) (tmps : Tm) : List ResultVar → Option (List SV)
  | [] => some []
  | .tmp t :: rs => match resOf tb st tmps rs with
    | some l => some ((match tmps.get t with | some v => v | none => .undef) :: l)
    | none => none
  | .cell a t :: rs => match tmps.get a with
    | some x => match loadS tb st t x, resOf tb st tmps rs with
      | some v, some l => some (v :: l)
      | _, _ => none
    | none => none

def tupOf : List SV → SV
  | [v] => v
  | vs => .tup vs

mutual
def SV.beq : SV → SV → Bool
  | .int k e, .int k' e' => ikB k k' && e.beq e'
  | .bool e, .bool e' => e.beq e'
  | .str e, .str e' => e.beq e'
  | .nilp, .nilp | .nils, .nils | .nilm, .nilm | .nili, .nili | .nilf, .nilf => true
  | .ptr b o, .ptr b' o' => Nat.beq b b' && Nat.beq o.base o'.base && Nat.beq o.scale o'.scale && o.idx.beq o'.idx
  | .slice b o l c, .slice b' o' l' c' => Nat.beq b b' && Nat.beq o.base o'.base && Nat.beq o.scale o'.scale && o.idx.beq o'.idx && l.beq l' && c.beq c'
  | .map b, .map b' => Nat.beq b b'
  | .agg cs, .agg cs' => SV.beqs cs cs'
  | .tup cs, .tup cs' => SV.beqs cs cs'
  | _, _ => false
def SV.beqs : List SV → List SV → Bool
  | [], [] => true
  | x :: xs, y :: ys => x.beq y && SV.beqs xs ys
  | _, _ => false
end
def SObj.beq : SObj → SObj → Bool
  | .gone, .gone => true
  | .cells cs t e, .cells cs' t' e' => Nat.beq e e' && t.beq t' && SV.beqs cs cs'
  | _, _ => false
def T.beq {α : Type} (f : α → α → Bool) : T α → T α → Bool
  | .nil, .nil => true
  | .node v l r, .node v' l' r' => f v v' && T.beq f l l' && T.beq f r r'
  | _, _ => false
def Blk.beq (x y : Blk) : Bool := boolB x.own y.own && x.obj.beq y.obj
def pcB : List E → List E → Bool
  | [], [] => true
  | x :: xs, y :: ys => x.beq y && pcB xs ys
  | _, _ => false
def St.beq (a b : St) : Bool := Nat.beq a.nv b.nv && Nat.beq a.nb b.nb && pcB a.pc b.pc && T.beq Blk.beq a.heap b.heap
def Node.beq (a b : Node) : Bool :=
  Nat.beq a.listed b.listed && Nat.beq a.left b.left && T.beq SV.beq a.tmps b.tmps && a.st.beq b.st
def hasNode : List Node → Node → Bool
  | [], _ => false
  | x :: xs, n => match x.beq n with | true => true | false => hasNode xs n

/-- whatever needs no memory, may come up and may be taken first, is taken -/
def pureScan {β : Type} (P : Program) (tb : Tab) (all : List Oper) (infos : List Info) : List Oper → List Info → Nat → Nat → Nat → Tm → (Nat → Nat → Tm → β) → β
  | o :: os, m :: ms, i, listed, left, tmps, k =>
    match Nat.testBit listed i with
    | true => pureScan P tb all infos os ms (Nat.succ i) listed left tmps k
    | false => match Nat.beq (Nat.land m.wait listed) m.wait with
      | true => match left with
        | 0 => k listed left tmps
        | left' + 1 => match wantS all tmps o with
          | .yes => match pureOp P tb (evalS tmps) o.op with
            | some v => match freeFrom listed i m infos 0 with
              | true => putK tmps o.dst v fun tmps => forceK (Nat.lor (Nat.pow 2 i) listed) fun listed => pureScan P tb all infos os ms (Nat.succ i) listed left' tmps k
              | false => pureScan P tb all infos os ms (Nat.succ i) listed left tmps k
            | none => pureScan P tb all infos os ms (Nat.succ i) listed left tmps k
          | .no => match freeFrom listed i m infos 0 with
            | true => putK tmps o.dst .undef fun tmps => forceK (Nat.lor (Nat.pow 2 i) listed) fun listed => pureScan P tb all infos os ms (Nat.succ i) listed left' tmps k
            | false => pureScan P tb all infos os ms (Nat.succ i) listed left tmps k
          | .ask .. => pureScan P tb all infos os ms (Nat.succ i) listed left tmps k
      | false => pureScan P tb all infos os ms (Nat.succ i) listed left tmps k
  | _, _, _, listed, left, tmps, k => k listed left tmps

def putNode (acc : List Node) (x : Node) : List Node := match hasNode acc x with | true => acc | false => x :: acc

def toNodes (P : Program) (tb : Tab) (all : List Oper) (infos : List Info) (listed left : Nat) : List Out → List Node → List Node
  | [], acc => acc
  | o :: os, acc => pureScan P tb all infos all infos 0 listed left o.tmps fun listed' left' tmps =>
    toNodes P tb all infos listed left os (putNode acc ⟨listed', left', tmps, o.st⟩)

def failAt (_ : String) : Res := none

abbrev Runner := Task → Tm → St → (Out → Res) → Res

def stepGo (P : Program) (tb : Tab) (rec : Runner) (o : Oper) (tmps : Tm) (st : St) (k : Cont) : Res :=
  match pureOp P tb (evalS tmps) o.op with
  | some v => putK tmps o.dst v fun tmps => k tmps st
  | none => match effOp tb tmps st o.op with
    | .val v st => putK tmps o.dst v fun tmps => k tmps st
    | .skip st => putK tmps o.dst .undef fun tmps => k tmps st
    | .bad => match o.op with
      | .call c => match callS tb tmps c with
        | some (g, args) => match tmScoped st.nv st.nb tmps with
          | true => rec (.call g args) .nil st fun r => match r.tmps with
              | .node v _ _ => putK tmps o.dst v fun tmps => k tmps r.st
              | _ => none
          | false => failAt o.pos
        | none => failAt o.pos
      | _ => failAt o.pos

def stepOper (P : Program) (tb : Tab) (rec : Runner) (all : List Oper) (o : Oper) (tmps : Tm) (st : St) (k : Cont) : Res :=
  match wantS all tmps o with
  | .yes => stepGo P tb rec o tmps st k
  | .no => putK tmps o.dst .undef fun tmps => k tmps st
  | .ask t e want => match knownE st.pc e with
    | some b => T.setK tmps t (.bool (.bool b)) fun tmps => match boolB b want with
      | true => stepGo P tb rec o tmps st k
      | false => putK tmps o.dst .undef fun tmps => k tmps st
    | none =>
      join (T.setK tmps t (.bool (.bool want)) fun tmps => stepGo P tb rec o tmps { st with pc := (match want with | true => e | false => mkNot e) :: st.pc } k)
        (T.setK tmps t (.bool (.bool (!want))) fun tmps => putK tmps o.dst .undef fun tmps => k tmps { st with pc := (match want with | true => mkNot e | false => e) :: st.pc })

def stepOps (P : Program) (tb : Tab) (rec : Runner) (all : List Oper) (l : List Oper) : Tm → St → Cont → Res :=
  List.rec (motive := fun _ => Tm → St → Cont → Res) (fun tmps st k => k tmps st)
    (fun o _ ih tmps st k => stepOper P tb rec all o tmps st fun tmps st => ih tmps st k) l

/-- every operation, taken in the order of the text, may be taken first -/
def lexRest (k : Nat) (x : Info) : List Info → Bool
  | [] => true
  | m :: ms => match Nat.testBit m.wait k with
    | true => lexRest k x ms
    | false => match Nat.beq (Nat.land x.dst m.reads) 0 with
      | true => match Nat.beq (Nat.land x.dst m.dst) 0 with
        | true => match Nat.beq (Nat.land m.dst x.reads) 0 with
          | true => lexRest k x ms
          | false => false
        | false => false
      | false => false
def lexAll : List Info → Nat → Bool
  | [], _ => true
  | m :: ms, k => match Nat.blt m.wait (Nat.pow 2 k) with
    | true => match lexRest k m ms with
      | true => lexAll ms (Nat.succ k)
      | false => false
    | false => false

/-- the blocks of a heap are those of another one, which may have more -/
def heapIn : T Blk → T Blk → Bool
  | .nil, _ => true
  | .node v l r, .node v' l' r' => match Blk.beq v v' with
    | true => match heapIn l l' with
      | true => heapIn r r'
      | false => false
    | false => false
  | _, _ => false

inductive QR where
  | done (v : SV)
  | split (e : E)
  | bad

/-- the value of a call that leaves what is known of the memory as it is -/
def quietCall (st : St) (r : Res) : QR :=
  match r with
  | some os => match os with
    | [o] => match o.tmps with
      | .node v _ _ => match v.scp st.nv st.nb && st.scp && heapIn st.heap o.st.heap with
        | true => .done v
        | false => .bad
      | .nil => .bad
    | _ => .bad
  | none => .bad

/-- an operation that leaves what is known of the memory as it is -/
def quietOp (P : Program) (tb : Tab) (rec : Runner) (o : Oper) (tmps : Tm) (st : St) : QR :=
  match pureOp P tb (evalS tmps) o.op with
  | some v => .done v
  | none => match o.op with
    | .load _ _ => match effOp tb tmps st o.op with
      | .val v _ => .done v
      | _ => .bad
    | .binOp _ _ _ _ _ => match effOp tb tmps st o.op with
      | .val v _ => .done v
      | _ => .bad
    | .call c => match callS tb tmps c with
      | some (g, args) => quietCall st (rec (.call g args) .nil st fun o => some [o])
      | none => .bad
    | _ => .bad

inductive QE where
  | done (tmps : Tm)
  | split (e : E)
  | bad

def quietOps (P : Program) (tb : Tab) (rec : Runner) (all : List Oper) (st : St) : List Oper → Tm → QE
  | [], tmps => .done tmps
  | o :: os, tmps => match wantS all tmps o with
    | .yes => match quietOp P tb rec o tmps st with
      | .done v => putK tmps o.dst v fun tmps => quietOps P tb rec all st os tmps
      | .split e => .split e
      | .bad => .bad
    | .no => putK tmps o.dst .undef fun tmps => quietOps P tb rec all st os tmps
    | .ask t e want => match knownE st.pc e with
      | some b => T.setK tmps t (.bool (.bool b)) fun tmps => match boolB b want with
        | true => match quietOp P tb rec o tmps st with
          | .done v => putK tmps o.dst v fun tmps => quietOps P tb rec all st os tmps
          | .split e => .split e
          | .bad => .bad
        | false => putK tmps o.dst .undef fun tmps => quietOps P tb rec all st os tmps
      | none => .split e

def noSel : List Oper → Bool
  | [] => true
  | o :: os => match o.op with
    | .select _ _ => false
    | _ => noSel os

def stepDraw (P : Program) (tb : Tab) (rec : Runner) (all : List Oper) (n : Nat) (tmps : Tm) (st : St) (k : Out → Res) : Res :=
  match noSel all with
  | true => match lexAll (infosOf all all) 0 with
    | true => match quietOps P tb rec all st all tmps with
      | .done tmps => k ⟨.normal, tmps, st⟩
      | .split e => join (rec (.draw all n) tmps { st with pc := e :: st.pc } k) (rec (.draw all n) tmps { st with pc := mkNot e :: st.pc } k)
      | .bad => rec (.layer all (infosOf all all) (toNodes P tb all (infosOf all all) 0 n [⟨.normal, tmps, st⟩] [])) tmps st k
    | false => rec (.layer all (infosOf all all) (toNodes P tb all (infosOf all all) 0 n [⟨.normal, tmps, st⟩] [])) tmps st k
  | false => none

def stepCode (P : Program) (tb : Tab) (rec : Runner) (c : Code) (tmps : Tm) (st : St) (k : Out → Res) : Res :=
  match c with
  | .skip => k ⟨.normal, tmps, st⟩
  | .label _ => k ⟨.normal, tmps, st⟩
  | .ret => k ⟨.ret, tmps, st⟩
  | .exit id => k ⟨.exit id, tmps, st⟩
  | .seq a b => rec (.code a) tmps st fun o => match o.ex with
      | .normal => rec (.code b) o.tmps o.st k
      | _ => k o
  | .block id b => rec (.code b) tmps st fun o => match o.ex with
      | .exit i => match Nat.beq i id with
        | true => k ⟨.normal, o.tmps, o.st⟩
        | false => k o
      | _ => k o
  | .loop b => rec (.rounds b) tmps st k
  | .cond c x y => match evalS tmps c with
    | some (.bool e) => match knownE st.pc e with
      | some true => rec (.code x) tmps st k
      | some false => rec (.code y) tmps st k
      | none => join (rec (.code x) tmps { st with pc := e :: st.pc } k) (rec (.code y) tmps { st with pc := mkNot e :: st.pc } k)
    | _ => none
  | .region _ ops d => match d with
    | false => stepOps P tb rec ops.toList ops.toList tmps st fun tmps st => k ⟨.normal, tmps, st⟩
    | true => rec (.draw ops.toList ops.size) tmps st k
  | _ => none

def stepCall (tb : Tab) (rec : Runner) (g : FuncId) (args : List SV) (st : St) (k : Out → Res) : Res :=
  match tb.fn.get g with
  | some fn => match fn.body with
    | some c => match Nat.ble args.length fn.ntmps && Nat.ble fn.ntmps 1048575 with
      | true => T.putsK args 0 (T.fill SV.undef 20 fn.ntmps) fun tmps => rec (.code c) tmps st fun o => match o.ex with
          | .exit _ => none
          | _ => match resOf tb o.st o.tmps fn.results.toList with
            | some vs => k ⟨.ret, .node (tupOf vs) .nil .nil, o.st⟩
            | none => none
      | false => none
    | none => none
  | none => none

def collect (tmps : Tm) (st : St) : Res := some [⟨.normal, tmps, st⟩]

/-- each operation that may come up now -/
def each (P : Program) (tb : Tab) (rec : Runner) (all : List Oper) (infos : List Info) (x : Node) (left : Nat) : List (Nat × Oper × Info) → List Node → Option (List Node)
  | [], acc => some acc
  | (i, o, _) :: rs, acc => match stepOper P tb rec all o x.tmps x.st collect with
    | some os => forceK (Nat.lor (Nat.pow 2 i) x.listed) fun listed => each P tb rec all infos x left rs (toNodes P tb all infos listed left os acc)
    | none => none

/-- one step of each node; those that are through are handed on -/
def stepNodes (P : Program) (tb : Tab) (rec : Runner) (all : List Oper) (infos : List Info) (k : Cont) : List Node → List Node → Option (List Node × List Out)
  | [], acc => some (acc, [])
  | x :: xs, acc => match readyFrom x.listed all infos 0 with
    | [] => match k x.tmps x.st with
      | some os => match stepNodes P tb rec all infos k xs acc with
        | some (acc, more) => some (acc, os ++ more)
        | none => none
      | none => none
    | rs => match x.left with
      | 0 => none
      | left + 1 => match each P tb rec all infos x left rs acc with
        | some acc => stepNodes P tb rec all infos k xs acc
        | none => none

def stepLayer (P : Program) (tb : Tab) (rec : Runner) (all : List Oper) (infos : List Info) (l : List Node) (tmps : Tm) (st : St) (k : Out → Res) : Res :=
  match stepNodes P tb rec all infos (fun tmps st => k ⟨.normal, tmps, st⟩) l [] with
  | some (next, os) => match next with
    | [] => some os
    | _ => match rec (.layer all infos next) tmps st k with
      | some more => some (os ++ more)
      | none => none
  | none => none

def stepRounds (rec : Runner) (b : Code) (tmps : Tm) (st : St) (k : Out → Res) : Res :=
  rec (.code b) tmps st fun o => match o.ex with
    | .normal => rec (.rounds b) o.tmps o.st k
    | _ => k o

def stepAll (P : Program) (tb : Tab) (rec : Runner) (task : Task) (tmps : Tm) (st : St) (k : Out → Res) : Res :=
  match task with
  | .code c => stepCode P tb rec c tmps st k
  | .rounds c => stepRounds rec c tmps st k
  | .call g args => stepCall tb rec g args st k
  | .draw all n => stepDraw P tb rec all n tmps st k
  | .layer all infos l => stepLayer P tb rec all infos l tmps st k

def run (P : Program) (tb : Tab) (n : Nat) : Runner :=
  Nat.rec (motive := fun _ => Runner) (fun _ _ _ _ => none) (fun _ ih => stepAll P tb ih) n

/-- the program's tables laid out, and then .. -/
def withTab {β : Type} (P : Program) (k : Tab → β) : β :=
  T.addsK P.types.toList 0 T.nil fun ty => T.addsK P.funcs.toList 0 T.nil fun fn => k ⟨ty, fn⟩

end
end Go.SX
