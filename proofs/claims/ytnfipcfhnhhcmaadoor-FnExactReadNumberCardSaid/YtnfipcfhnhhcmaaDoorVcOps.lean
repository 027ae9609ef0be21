/- The operations: what each does to the environment and to the known blocks; that the model's operation does so. -/
import Derived.Test.YtnfipcfhnhhcmaaDoorVcAny
import Derived.Laws.MakeOwn
import Derived.Laws.StructEq
set_option linter.all false
namespace Go.Vc
open Go Go.Fl

inductive VO where
  | mov (x : Operand)
  | pick (c a b : Operand)
  | box (T : Nat) (x : Operand)
  | alloc (T : Nat) (z : Value)
  | load (n : Option Nat) (x : Operand)
  | store (n : Nat) (x y : Operand)
  | addr (x : Operand) (off : Nat)
  | idxA (len esz : Nat) (x i : Operand)
  | idxS (esz : Nat) (x i : Operand)
  | ixA (len esz : Nat) (n : Option Nat) (x i : Operand)
  | ixStr (x i : Operand)
  | fld (n : Option Nat) (off : Nat) (x : Operand)
  | bin (op : BinOp) (x y : Operand)
  | fbin (op : BinOp) (x y : Operand)
  | beq (ne : Bool) (x y : Operand)
  | un (op : UnOp) (x : Operand)
  | convI (k : IntKind) (x : Operand)
  | convF (k : FloatKind) (x : Operand)
  | ext (x : Operand) (i : Nat)
  | nilc (x : Operand)
  | lenS (x : Operand)
  | lenL (x : Operand)
  | call (f : Nat) (args : List Operand)
  | callv (x : Operand) (args : List Operand)
  | f32bits (x : Operand)
  | build (pl : List (Nat × Nat)) (z : Array Value) (parts : List (Nat × Operand))
  | buildA (esz : Nat) (z : Array Value) (parts : List (Nat × Operand))
  | bslice (elem esz len : Nat) (z : Array Value) (parts : List (Nat × Operand))
  | app (elem esz : Nat) (s x : Operand)
  | mkfn (f : Nat) (first captured : List Operand)
  | slcL (esz : Nat) (x : Operand) (lo hi : Option Operand)
  | f64bits (x : Operand)
  | f64from (x : Operand)
  | aeq (ne : Bool) (x y : Operand)
  | snil (x : Operand)
  | mks (elem esz : Nat) (z : Array Value) (n c : Operand)
  | fmax (x y : Operand)
  | integ (way : Ieee.Toward) (x : Operand)
  | dead
  | ifc (T : Nat) (x : Operand)
  | inil (ne : Bool) (x : Operand)
  | bstr (x : Operand)
  | strb (x : Operand)
  | slcA (len esz : Nat) (x lo : Operand)
  | f32from (x : Operand)

/-- operations whose value hangs on the operands and the known blocks alone, and that leave the world as it is -/
def VO.exact : VO → Bool
  | .mov .. | .pick .. | .load .. | .addr .. | .idxA .. | .idxS .. | .ixA .. | .ixStr .. | .fld .. | .bin .. | .beq .. | .un .. | .ext .. | .nilc .. | .lenS .. | .lenL ..
  | .f32bits .. | .f64bits .. | .f64from .. | .aeq .. | .snil .. | .build .. | .buildA .. | .mkfn .. | .slcL .. => true
  | _ => false

/-- a type's number of cells where it is a struct or an array -/
def aggN (P : Program) (t : Nat) : Option (Option Nat) :=
  match P.underlying t, P.info? t with
  | some (.struct _), some i => some (some i.size)
  | some (.array _ _), some i => some (some i.size)
  | some _, some _ => some none
  | _, _ => none

def sizeN (P : Program) (t : Nat) : Option Nat := (P.info? t).map (·.size)

/-- a type of whole numbers -/
def isIntT (P : Program) (t : Nat) : Bool :=
  match P.underlying t, P.info? t with
  | some (.int _), some _ => true
  | _, _ => false

/-- a struct of two whole numbers -/
def eq2 (P : Program) (t : Nat) (fs : List Field) : Bool :=
  match fs with
  | [f, f'] => f.name != "_" && f'.name != "_" && f.offset == 0 && f'.offset == 1 && isIntT P f.type && isIntT P f'.type && !P.stoodInHeld t && !P.eqGuardType P.depth t
  | _ => false

def isNilSlice : Operand → Bool
  | .const (.slice none _ _) => true
  | _ => false

/-- a Go function with a body -/
def callable (P : Program) (f : Nat) : Bool :=
  match P.funcs[f]? with
  | some fn => !(fn.name == "runtime.NumGoroutine") && fn.body.isSome
  | none => false

/-- a function without a body, by its name -/
def isExt (P : Program) (f : Nat) (name : String) : Bool :=
  match P.funcs[f]? with
  | some fn => fn.name == name && fn.origin == "" && fn.body.isNone
  | none => false

def cmpCall (P : Program) (c : Call) : Option VO :=
  match c.callee with
  | .builtin .len =>
    match c.args.toList, (c.argTypes[0]?).bind P.underlying with
    | [x], some .string => some (.lenS x)
    | [x], some (.slice _) => some (.lenL x)
    | _, _ => none
  | .value (.func f) =>
    if callable P f then some (.call f c.args.toList)
    else match c.args.toList with
      | [x] =>
        if isExt P f "math.Float32bits" then some (.f32bits x)
        else if isExt P f "math.Float64bits" then some (.f64bits x)
        else if isExt P f "math.Float64frombits" then some (.f64from x)
        else if isExt P f "math.archFloor" then some (.integ .down x)
        else if isExt P f "math.archCeil" then some (.integ .up x)
        else if isExt P f "math.archTrunc" then some (.integ .zero x)
        else none
      | _ => none
  | .value (.tmp t) => some (.callv (.tmp t) c.args.toList)
  | .builtin .append =>
    match c.args.toList, c.argTypes.toList with
    | [s, x], [t, t'] =>
      if t = t' then
        match P.underlying t with
        | some (.slice e) =>
          match P.info? e with
          | some i =>
            match i.zero with
            | some z => if z.cells.size = i.size ∧ 0 < i.size ∧ i.bytes ≤ 64 then some (.app e i.size s x) else none
            | none => none
          | none => none
        | _ => none
      else none
    | _, _ => none
  | .builtin .max =>
    match c.args.toList, (c.argTypes[0]?).bind P.underlying with
    | [x, y], some (.float _) => some (.fmax x y)
    | _, _ => none
  | _ => none

def places (P : Program) (fs : List Field) : Option (List (Nat × Nat)) := fs.mapM (fun f => (P.info? f.type).map fun i => (f.offset, i.size))

def cmpOp (P : Program) (o : Oper) : Option VO :=
  match o.op with
  | .move x => some (.mov x)
  | .assign x => some (.mov x)
  | .pick c a b => some (.pick c a b)
  | .box T x => some (.box T x)
  | .alloc T => ((P.info? T).bind (·.zero)).map (.alloc T)
  | .load t x => (aggN P t).map fun n => .load n x
  | .store t x y => (sizeN P t).map fun n => .store n x y
  | .fieldAddr s x f =>
    match P.underlying s with
    | some (.struct fs) =>
      match fs[f]? with
      | some fd => (match sizeN P fd.type with | some (_ + 1) => some (.addr x fd.offset) | _ => none)
      | none => none
    | _ => none
  | .indexAddr t x i =>
    match P.underlying t with
    | some (.array len e) => (sizeN P e).map fun n => .idxA len n x i
    | some (.slice e) => (sizeN P e).map fun n => .idxS n x i
    | _ => none
  | .index t x i =>
    match P.underlying t with
    | some (.array len e) => (match aggN P e, sizeN P e with | some n, some s => some (.ixA len s n x i) | _, _ => none)
    | some .string => some (.ixStr x i)
    | _ => none
  | .field t x f =>
    match P.underlying t with
    | some (.struct fs) =>
      match fs[f]? with
      | some fd => (aggN P fd.type).map fun n => .fld n fd.offset x
      | none => none
    | _ => none
  | .binOp op t x y _ =>
    match P.underlying t with
    | some (.int _) | some .string => some (.bin op x y)
    | some (.float _) => some (.fbin op x y)
    | some .bool => (match op with | .eql => some (.beq false x y) | .neq => some (.beq true x y) | _ => none)
    | some (.struct fs) => if eq2 P t fs.toList then (match op with | .eql => some (.aeq false x y) | .neq => some (.aeq true x y) | _ => none) else none
    | some (.slice _) => if isNilSlice y then (match op with | .eql => some (.snil x) | _ => none) else none
    | _ => none
  | .unOp op _ x => some (.un op x)
  | .convert src dst x =>
    match (P.underlying src).isSome, P.underlying dst with
    | true, some (.int k) => some (.convI k x)
    | true, some (.float k) => some (.convF k x)
    | _, _ => none
  | .extract t i => some (.ext t i)
  | .nilCheck x => some (.nilc x)
  | .call c => cmpCall P c
  | .build t parts =>
    match P.info? t, P.underlying t with
    | some it, some (.struct fs) =>
      match it.zero, places P fs.toList with
      | some z, some pl => some (.build pl z.cells parts.toList)
      | _, _ => none
    | some it, some (.array _ e) =>
      match it.zero, sizeN P e with
      | some z, some n => some (.buildA n z.cells parts.toList)
      | _, _ => none
    | _, _ => none
  | .buildSlice t len parts =>
    match P.underlying t with
    | some (.slice e) =>
      match P.info? e with
      | some i =>
        match i.zero with
        | some z => if len * i.size ≤ 1024 then some (.bslice e i.size len z.cells parts.toList) else none
        | none => none
      | none => none
    | _ => none
  | .makeFunc (.func f) first captured => some (.mkfn f first.toList captured.toList)
  | .makeSlice t l c =>
    match P.underlying t with
    | some (.slice e) =>
      match P.info? e with
      | some i =>
        match i.zero with
        | some z => if z.cells.size = i.size ∧ 0 < i.size ∧ i.bytes ≤ 64 then some (.mks e i.size z.cells l c) else none
        | none => none
      | none => none
    | _ => none
  | .slice t x lo hi none =>
    match P.underlying t with
    | some (.slice e) => (sizeN P e).map fun n => .slcL n x lo hi
    | _ => none
  | _ => none

/-! ### what they do -/

def vpick (c a b : Value) (k : Value → Prop) : Prop :=
  match c with
  | .bool t => k (if t then a else b)
  | _ => False

def getN (n : Option Nat) (cs : Array Value) (off : Nat) (k : Value → Prop) : Prop :=
  match n with
  | some m => off + m ≤ cs.size ∧ k (.agg (cs.extract off (off + m)))
  | none => match cs[off]? with | some v => k v | none => False

def vloadAt (n : Option Nat) (off : Nat) (k : Value → Prop) : Option Blk → Prop
  | some x => getN n x.cells off k
  | none => False

def vload (n : Option Nat) (p : Value) (h : Hp) (k : Value → Prop) : Prop :=
  match p with
  | .pointer (some ⟨b, off, none⟩) => vloadAt n off k (look h b)
  | _ => False

def vaddr (p : Value) (d : Nat) (k : Value → Prop) : Prop :=
  match p with
  | .pointer (some ⟨b, off, none⟩) => k (.pointer (some ⟨b, off + d, none⟩))
  | _ => False

def vidxA (len esz : Nat) (p i : Value) (k : Value → Prop) : Prop :=
  match p, i with
  | .pointer (some ⟨b, off, none⟩), .int _ n => (0 ≤ n ∧ n < len) ∧ k (.pointer (some ⟨b, off + n.toNat * esz, none⟩))
  | _, _ => False

def vidxS (esz : Nat) (p i : Value) (k : Value → Prop) : Prop :=
  match p, i with
  | .slice (some ⟨b, off, none⟩) len _, .int _ n => (0 ≤ n ∧ n < len) ∧ k (.pointer (some ⟨b, off + n.toNat * esz, none⟩))
  | _, _ => False

def vixA (len esz : Nat) (m : Option Nat) (x i : Value) (k : Value → Prop) : Prop :=
  match x, i with
  | .agg cs, .int _ n => (0 ≤ n ∧ n < len) ∧ getN m cs (n.toNat * esz) k
  | _, _ => False

def vixStr (x i : Value) (k : Value → Prop) : Prop :=
  match x, i with
  | .string s, .int _ n => 0 ≤ n ∧ (match s[n.toNat]? with | some b => k (.int .u8 b.toNat) | none => False)
  | _, _ => False

def vfld (m : Option Nat) (off : Nat) (x : Value) (k : Value → Prop) : Prop :=
  match x with
  | .agg cs => getN m cs off k
  | _ => False

def ibits (op : BinOp) (k : IntKind) (x y : Int) : Int :=
  let a := BitVec.ofInt k.bits x
  let b := BitVec.ofInt k.bits y
  k.wrap (match op with
    | .and => (a &&& b).toNat
    | .or => (a ||| b).toNat
    | .xor => (a ^^^ b).toNat
    | _ => (a &&& ~~~b).toNat)

def vint (op : BinOp) (kd : IntKind) (a b : Int) (k : Value → Prop) : Prop :=
  match op with
  | .add => k (.int kd (kd.wrap (a + b)))
  | .sub => k (.int kd (kd.wrap (a - b)))
  | .mul => k (.int kd (kd.wrap (a * b)))
  | .quo => b ≠ 0 ∧ k (.int kd (kd.wrap (a.tdiv b)))
  | .rem => b ≠ 0 ∧ k (.int kd (a.tmod b))
  | .and => k (.int kd (ibits .and kd a b))
  | .or => k (.int kd (ibits .or kd a b))
  | .xor => k (.int kd (ibits .xor kd a b))
  | .andNot => k (.int kd (ibits .andNot kd a b))
  | .eql => k (.bool (a == b))
  | .neq => k (.bool (a != b))
  | .lss => k (.bool (decide (a < b)))
  | .leq => k (.bool (decide (a ≤ b)))
  | .gtr => k (.bool (decide (b < a)))
  | .geq => k (.bool (decide (b ≤ a)))
  | _ => False

def fcmp (op : BinOp) (kd : FloatKind) (a b : Nat) : Bool :=
  match op with
  | .eql => kd.format.order a b == some .eq
  | .neq => kd.format.order a b != some .eq
  | .lss => kd.format.order a b == some .lt
  | .leq => kd.format.order a b == some .lt || kd.format.order a b == some .eq
  | .gtr => kd.format.order a b == some .gt
  | _ => kd.format.order a b == some .gt || kd.format.order a b == some .eq

theorem fcmp_cn (op : BinOp) (kd : FloatKind) (a b : Nat) : fcmp op kd (cn kd a) (cn kd b) = fcmp op kd a b := by
  cases op <;> simp only [fcmp, order_cn]

def vflo (op : BinOp) (kd : FloatKind) (a b : Nat) (k : Value → Prop) : Prop :=
  match op with
  | .add => ∀ r, cn kd r = fop .add kd (cn kd a) (cn kd b) → k (.float kd r)
  | .sub => ∀ r, cn kd r = fop .sub kd (cn kd a) (cn kd b) → k (.float kd r)
  | .mul => ∀ r, cn kd r = fop .mul kd (cn kd a) (cn kd b) → k (.float kd r)
  | .quo => ∀ r, cn kd r = fop .quo kd (cn kd a) (cn kd b) → k (.float kd r)
  | .eql => k (.bool (fcmp .eql kd (cn kd a) (cn kd b)))
  | .neq => k (.bool (fcmp .neq kd (cn kd a) (cn kd b)))
  | .lss => k (.bool (fcmp .lss kd (cn kd a) (cn kd b)))
  | .leq => k (.bool (fcmp .leq kd (cn kd a) (cn kd b)))
  | .gtr => k (.bool (fcmp .gtr kd (cn kd a) (cn kd b)))
  | .geq => k (.bool (fcmp .geq kd (cn kd a) (cn kd b)))
  | _ => False

def vstr (op : BinOp) (a b : ByteArray) (k : Value → Prop) : Prop :=
  match op with
  | .add => a.size + b.size ≤ 9223372036854775807 ∧ k (.string (a ++ b))
  | .eql => k (.bool (a.toList == b.toList))
  | .neq => k (.bool (!(a.toList == b.toList)))
  | _ => False

def vbin (op : BinOp) (x y : Value) (k : Value → Prop) : Prop :=
  match x, y with
  | .int kx a, .int ky b =>
    match op with
    | .shl => 0 ≤ b ∧ k (.int kx (kx.wrap (a * 2 ^ (min b.toNat kx.bits))))
    | .shr => 0 ≤ b ∧ k (.int kx (a.fdiv (2 ^ (min b.toNat kx.bits))))
    | _ => kx = ky ∧ vint op kx a b k
  | .string a, .string b => vstr op a b k
  | _, _ => False

def vfbin (op : BinOp) (x y : Value) (k : Value → Prop) : Prop :=
  match x, y with
  | .float kx a, .float ky b => kx = ky ∧ vflo op kx a b k
  | _, _ => False

def vbeq (ne : Bool) (x y : Value) (k : Value → Prop) : Prop :=
  match x, y with
  | .bool a, .bool b => k (.bool (if ne then !(a == b) else a == b))
  | _, _ => False

def vun (op : UnOp) (x : Value) (k : Value → Prop) : Prop :=
  match op, x with
  | .not, .bool b => k (.bool !b)
  | .neg, .int kd n => k (.int kd (kd.wrap (0 - n)))
  | .neg, .float kd b => k (.float kd (Op.negFloat kd b))
  | _, _ => False

def vconvI (kd : IntKind) (x : Value) (k : Value → Prop) : Prop :=
  match x with
  | .int _ n => k (.int kd (kd.wrap n))
  | .float s b => (match floatToIntVal s b kd with | some n => k (.int kd n) | none => False)
  | _ => False

def fconv (s d : FloatKind) (b : Nat) : Nat := (floatToFloatBits s b d).getD (qn d)

def vconvF (kd : FloatKind) (x : Value) (k : Value → Prop) : Prop :=
  match x with
  | .int _ n => k (.float kd (floatOfInt kd n))
  | .float s b => (nan s b = true ∨ floatToFloatBits s b kd ≠ none) ∧ ∀ r, cn kd r = cn kd (fconv s kd (cn s b)) → k (.float kd r)
  | _ => False

def vext (x : Value) (i : Nat) (k : Value → Prop) : Prop :=
  match x with
  | .tuple vs => (match vs[i]? with | some v => k v | none => False)
  | _ => False

def vnilc (x : Value) (k : Value → Prop) : Prop :=
  match x with
  | .pointer (some a) => k (.pointer (some a))
  | .func (.func f) a b => k (.func (.func f) a b)
  | _ => False

def vlenS (x : Value) (k : Value → Prop) : Prop :=
  match x with
  | .string s => k (.int .i64 s.size)
  | _ => False

def vlenL (x : Value) (k : Value → Prop) : Prop :=
  match x with
  | .slice _ n _ => k (.int .i64 n)
  | _ => False

def vf32bits (x : Value) (k : Value → Prop) : Prop :=
  match x with
  | .float .f32 b => k (.int .u32 b)
  | _ => False

def vf64bits (x : Value) (k : Value → Prop) : Prop :=
  match x with
  | .float .f64 b => k (.int .u64 b)
  | _ => False

def vf64from (x : Value) (k : Value → Prop) : Prop :=
  match x with
  | .int .u64 n => k (.float .f64 n.toNat)
  | _ => False

/-- the greater one of two canonical words -/
def fmaxF (kd : FloatKind) (x y : Nat) : Nat :=
  match kd.format.order x y with
  | none => qn kd
  | some .lt => y
  | some .gt => x
  | some .eq => if (kd.decode x).neg then y else x

def vfmax (x y : Value) (k : Value → Prop) : Prop :=
  match x, y with
  | .float kx a, .float ky b => kx = ky ∧ ∀ r, cn kx r = fmaxF kx (cn kx a) (cn kx b) → k (.float kx r)
  | _, _ => False

/-- a canonical word of double precision, made whole -/
def integF (way : Ieee.Toward) (x : Nat) : Nat := if nan .f64 x then qn .f64 else FloatKind.f64.encode ((FloatKind.f64.decode x).integral way)

def vinteg (way : Ieee.Toward) (x : Value) (k : Value → Prop) : Prop :=
  match x with
  | .float .f64 b => ∀ r, cn .f64 r = integF way (cn .f64 b) → k (.float .f64 r)
  | _ => False

def vaeq (ne : Bool) (x y : Value) (k : Value → Prop) : Prop :=
  match x, y with
  | .agg cs, .agg ds =>
    match cs.toList, ds.toList with
    | [.int p a, .int q b], [.int p' a', .int q' b'] => (p = p' ∧ q = q') ∧ k (.bool (if ne then !(a == a' && b == b') else (a == a' && b == b')))
    | _, _ => False
  | _, _ => False

def vsnil (x : Value) (k : Value → Prop) : Prop :=
  match x with
  | .slice p _ _ => k (.bool p.isNone)
  | _ => False

def vbuild (pl : List (Nat × Nat)) (z : Array Value) (parts : List (Nat × Value)) (k : Value → Prop) : Prop :=
  match Instr.fill (pl.toArray[·]?) z parts with
  | some cs => k (.agg cs)
  | none => False

def vbuildA (esz : Nat) (z : Array Value) (parts : List (Nat × Value)) (k : Value → Prop) : Prop :=
  match Instr.fill (fun i => some (i * esz, esz)) z parts with
  | some cs => k (.agg cs)
  | none => False

def vslcL (esz : Nat) (x : Value) (lo hi : Option Value) (k : Value → Prop) : Prop :=
  match x, lo, hi with
  | .slice (some ⟨b, off, none⟩) len cap, some (.int _ l), none =>
    (0 ≤ l ∧ l ≤ len ∧ len ≤ cap) ∧ k (.slice (some ⟨b, if (cap : Int) = l then off else off + l.toNat * esz, none⟩) (len - l.toNat) (cap - l.toNat))
  | _, _, _ => False

/-- a call that keeps what is known of the heap; its results lie in the callee's own set -/
def callQ (P : Program) (Rf : Nat → Array Value → Value → Prop) (f : Nat) (args : Array Value) (h : Hp) (k : Value → Prop) : Prop :=
  (∀ M w0 w, Holds M w0 h w → Calls P f args w (fun e w' => ∃ v, e = .returned v ∧ Holds M w0 h w' ∧ Rf f args v)) ∧ ∀ v, Rf f args v → k v

/-- any call -/
def callG (P : Program) (f : Nat) (args : Array Value) (h : Hp) (k : Value → Hp → Prop) : Prop :=
  ∀ M w0 w, Holds M w0 h w → Calls P f args w (fun e w' => ∃ v h', e = .returned v ∧ Holds M w0 h' w' ∧ k v h')

def vcallv (P : Program) (x : Value) (args : Array Value) (h : Hp) (k : Value → Hp → Prop) : Prop :=
  match x with
  | .func (.func f) first captured => callable P f = true ∧ callG P f (first ++ args ++ captured) h k
  | _ => False

def stepQ (P : Program) (Rf : Nat → Array Value → Value → Prop) (op : VO) (ρ : Env) (h : Hp) (k : Value → Prop) : Prop :=
  match op with
  | .mov x => k (Env.ev ρ x)
  | .pick c a b => vpick (Env.ev ρ c) (Env.ev ρ a) (Env.ev ρ b) k
  | .load n x => vload n (Env.ev ρ x) h k
  | .addr x d => vaddr (Env.ev ρ x) d k
  | .idxA len esz x i => vidxA len esz (Env.ev ρ x) (Env.ev ρ i) k
  | .idxS esz x i => vidxS esz (Env.ev ρ x) (Env.ev ρ i) k
  | .ixA len esz n x i => vixA len esz n (Env.ev ρ x) (Env.ev ρ i) k
  | .ixStr x i => vixStr (Env.ev ρ x) (Env.ev ρ i) k
  | .fld n off x => vfld n off (Env.ev ρ x) k
  | .bin op x y => vbin op (Env.ev ρ x) (Env.ev ρ y) k
  | .fbin op x y => vfbin op (Env.ev ρ x) (Env.ev ρ y) k
  | .beq ne x y => vbeq ne (Env.ev ρ x) (Env.ev ρ y) k
  | .un op x => vun op (Env.ev ρ x) k
  | .convI kd x => vconvI kd (Env.ev ρ x) k
  | .convF kd x => vconvF kd (Env.ev ρ x) k
  | .ext x i => vext (Env.ev ρ x) i k
  | .nilc x => vnilc (Env.ev ρ x) k
  | .lenS x => vlenS (Env.ev ρ x) k
  | .lenL x => vlenL (Env.ev ρ x) k
  | .f32bits x => vf32bits (Env.ev ρ x) k
  | .call f args => callQ P Rf f (args.map (Env.ev ρ)).toArray h k
  | .f64bits x => vf64bits (Env.ev ρ x) k
  | .f64from x => vf64from (Env.ev ρ x) k
  | .build pl z parts => vbuild pl z (parts.map fun p => (p.1, Env.ev ρ p.2)) k
  | .buildA esz z parts => vbuildA esz z (parts.map fun p => (p.1, Env.ev ρ p.2)) k
  | .mkfn f first captured => k (.func (.func f) (first.map (Env.ev ρ)).toArray (captured.map (Env.ev ρ)).toArray)
  | .slcL esz x lo hi => vslcL esz (Env.ev ρ x) (lo.map (Env.ev ρ)) (hi.map (Env.ev ρ)) k
  | .aeq ne x y => vaeq ne (Env.ev ρ x) (Env.ev ρ y) k
  | .snil x => vsnil (Env.ev ρ x) k
  | .fmax x y => vfmax (Env.ev ρ x) (Env.ev ρ y) k
  | .integ way x => vinteg way (Env.ev ρ x) k
  | _ => False

def splice (cs : Array Value) (off : Nat) (vs : Array Value) : Array Value := cs.extract 0 off ++ vs ++ cs.extract (off + vs.size) cs.size

/-- the cells with a value stored from a place on -/
def stored (cs : Array Value) (off : Nat) (v : Value) : Array Value :=
  match v with
  | .agg vs => splice cs off vs
  | v => cs.setIfInBounds off v

def vstoreAt (n : Nat) (b off : Nat) (v : Value) (h : Hp) (k : Value → Hp → Prop) : Option Blk → Prop
  | some x => x.own = true ∧ v.cells.size = n ∧ off + n ≤ x.cells.size ∧ v.cells.all (·.oneCell') = true ∧
      k undef (upd h b (stored x.cells off v))
  | none => False

def vstore (n : Nat) (p v : Value) (h : Hp) (k : Value → Hp → Prop) : Prop :=
  match p with
  | .pointer (some ⟨b, off, none⟩) => vstoreAt n b off v h k (look h b)
  | _ => False

/-- the block 'b' is forgotten -/
def drop : Hp → Nat → Hp
  | [], _ => []
  | x :: h, b => if b = x.base then h else x :: drop h b

def vappAt (elem esz n cap off2 m b : Nat) (h : Hp) (k : Value → Hp → Prop) : Option Blk → Option Blk → Prop
  | some x, some y =>
    (x.own = true ∧ x.elem = elem ∧ x.cells.size = cap * esz ∧ n ≤ cap ∧ off2 + m * esz ≤ y.cells.size ∧ (y.cells.extract off2 (off2 + m * esz)).all (·.oneCell') = true ∧ n + m ≤ 4294967296) ∧
    ∀ b' cap' rest, Fresh b' (drop h b) → n + m ≤ cap' → rest.size = (cap' - (n + m)) * esz →
      k (.slice (some ⟨b', 0, none⟩) (n + m) cap') (⟨b', x.cells.extract 0 (n * esz) ++ y.cells.extract off2 (off2 + m * esz) ++ rest, elem, true⟩ :: drop h b)
  | _, _ => False

def vapp (elem esz : Nat) (s x : Value) (h : Hp) (k : Value → Hp → Prop) : Prop :=
  match s, x with
  | .slice (some ⟨b, 0, none⟩) n cap, .slice (some ⟨b2, off2, none⟩) m _ => vappAt elem esz n cap off2 m b h k (look h b) (look h b2)
  | _, _ => False

def bcells (esz len : Nat) (z : Array Value) (parts : List (Nat × Value)) : Option (Array Value) :=
  Instr.fill (fun i => some (i * esz, esz)) ((Array.range (len * esz)).map ((if len * esz = 0 then #[] else z)[· % (if len * esz = 0 then #[] else z).size]!)) parts

def vbslice (elem esz len : Nat) (z : Array Value) (parts : List (Nat × Value)) (h : Hp) (k : Value → Hp → Prop) : Prop :=
  match bcells esz len z parts with
  | some cs => ∀ b, Fresh b h → k (.slice (some ⟨b, 0, none⟩) len len) (⟨b, cs, elem, true⟩ :: h)
  | none => False

/-- a new slice -/
def vmks (elem esz : Nat) (z : Array Value) (n c : Value) (h : Hp) (k : Value → Hp → Prop) : Prop :=
  match n, c with
  | .int _ l, .int _ m => (l = m ∧ 0 ≤ l ∧ l ≤ 4294967296) ∧ ∀ b, Fresh b h → k (.slice (some ⟨b, 0, none⟩) l.toNat l.toNat) (⟨b, madeCells z (l.toNat * esz), elem, true⟩ :: h)
  | _, _ => False

def kh (k : Value → Hp → Prop) (h : Hp) (v : Value) : Prop := k v h

def noRf : Nat → Array Value → Value → Prop := fun _ _ _ => False

/-- is an interface's value nil -/
def vinil (ne : Bool) (x : Value) (k : Value → Prop) : Prop :=
  match x with
  | .nilIface => k (.bool (!ne))
  | .iface _ _ => k (.bool ne)
  | _ => False

/-- a slice's bytes as a string -/
def vbstr (x : Value) (h : Hp) (k : Value → Prop) : Prop :=
  match x with
  | .slice (some ⟨b, off, none⟩) n _ => ∃ (l : List UInt8) (y : Blk), look h b = some y ∧ l.length = n ∧ (∀ j (hj : j < l.length), y.cells[off + j]? = some (.int .u8 (l[j].toNat : Int))) ∧ k (.string ⟨l.toArray⟩)
  | _ => False

/-- a string's bytes in a new block -/
def vstrb (x : Value) (h : Hp) (k : Value → Hp → Prop) : Prop :=
  match x with
  | .string s => ∀ b cs cap, Fresh b h → (∀ j, j < s.size → cs[j]? = some (.int .u8 (s.data.toList.getD j 0).toNat)) → k (.slice (some ⟨b, 0, none⟩) s.size cap) (⟨b, cs, anyT, false⟩ :: h)
  | _ => False

/-- the slice of an array from a place on -/
def vslcA (len esz : Nat) (x lo : Value) (k : Value → Prop) : Prop :=
  match x, lo with
  | .pointer (some ⟨b, off, none⟩), .int _ l => (0 ≤ l ∧ l ≤ len) ∧ k (.slice (some ⟨b, if (len : Int) = l then off else off + l.toNat * esz, none⟩) (len - l.toNat) (len - l.toNat))
  | _, _ => False

def vf32from (x : Value) (k : Value → Prop) : Prop :=
  match x with
  | .int .u32 n => k (.float .f32 n.toNat)
  | _ => False

def stepV (P : Program) (op : VO) (ρ : Env) (h : Hp) (k : Value → Hp → Prop) : Prop :=
  match op with
  | .box T x => ∀ b, Fresh b h → k (.pointer (some ⟨b, 0, none⟩)) (⟨b, (Env.ev ρ x).cells, T, true⟩ :: h)
  | .alloc T z => ∀ b, Fresh b h → k (.pointer (some ⟨b, 0, none⟩)) (⟨b, z.cells, T, true⟩ :: h)
  | .store n x y => vstore n (Env.ev ρ x) (Env.ev ρ y) h k
  | .call f args => callG P f (args.map (Env.ev ρ)).toArray h k
  | .callv x args => vcallv P (Env.ev ρ x) (args.map (Env.ev ρ)).toArray h k
  | .app elem esz s x => vapp elem esz (Env.ev ρ s) (Env.ev ρ x) h k
  | .bslice elem esz len z parts => vbslice elem esz len z (parts.map fun p => (p.1, Env.ev ρ p.2)) h k
  | .mks elem esz z n c => vmks elem esz z (Env.ev ρ n) (Env.ev ρ c) h k
  | .dead => False
  | .ifc T x => k (.iface T (Env.ev ρ x)) h
  | .inil ne x => vinil ne (Env.ev ρ x) (kh k h)
  | .bstr x => vbstr (Env.ev ρ x) h (kh k h)
  | .strb x => vstrb (Env.ev ρ x) h k
  | .slcA len esz x lo => vslcA len esz (Env.ev ρ x) (Env.ev ρ lo) (kh k h)
  | .f32from x => vf32from (Env.ev ρ x) (kh k h)
  | op => stepQ P noRf op ρ h (kh k h)

end Go.Vc
