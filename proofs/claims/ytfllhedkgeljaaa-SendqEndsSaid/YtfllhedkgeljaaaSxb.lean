/-
What one operation does, on abstract values: a function that the kernel can run. No condition.
-/
import Derived.Test.YtfllhedkgeljaaaSxa
set_option linter.unusedSimpArgs false
set_option linter.unusedVariables false
namespace Go.Proofs.Ytfllhedkgeljaaa
namespace Sx
open Go.RowKit

/-- What an operation answers: its value, the objects that it writes, what it takes for granted. -/
structure Eff where
  val : AV
  wr : List (Nat × Ob)
  obs : List Prop

/-- A hint for one operation. -/
inductive OH where
  | n
  | el (e : D)
  | byte (c : UInt8)
  | str (s : List UInt8)
  | arr
  | val (d : D)
  | call (who : List Nat) (rv : AV) (outs : List Ob)
  | callN (who : List Nat) (rv : AV) (outs : List Ob)
  | fn (g : List D → Option (AV × List Ob))

def OH.who : OH → List Nat
  | .call who _ _ => who
  | .callN who _ _ => who
  | _ => []

mutual
def AV.names : AV → List Nat
  | .ptr o _ => [o]
  | .rptr o _ _ _ => [o]
  | .own o _ => [o]
  | .sub o _ _ _ => [o]
  | .agg cs => AV.namesL cs
  | .tup cs => AV.namesL cs
  | .fn _ cs => AV.namesL cs
  | .meth _ cs => AV.namesL cs
  | _ => []
def AV.namesL : List AV → List Nat
  | [] => []
  | c :: r => c.names ++ AV.namesL r
end

def constAV : Value → AV
  | .int k n => .d (.int k n)
  | .bool b => .d (.bool b)
  | .string s => .d (.str s.data.toList)
  | v => .raw v

def AS.ev (S : AS) : Operand → AV
  | .tmp t => S.E t
  | .const v => constAV v
  | .func f => .fn f []
  | .global _ => .dead

/-- The cells of a value. -/
def AV.cells : AV → Option (List AV)
  | .d (.agg cs) => some (cs.map .d)
  | .d (.int k n) => some [.d (.int k n)]
  | .d (.bool b) => some [.d (.bool b)]
  | .d (.str s) => some [.d (.str s)]
  | .d (.sl s) => some [.d (.sl s)]
  | .agg cs => some cs
  | .raw (.agg _) => none
  | .raw (.tuple _) => none
  | .raw v => some [.raw v]
  | .dead => none
  | .tup _ => none
  | x => some [x]
def AV.one : AV → Bool
  | .d x => x.one
  | .raw v => v.oneCell'
  | .agg _ => false
  | .tup _ => false
  | .dead => false
  | _ => true

def allD : List AV → Option (List D)
  | [] => some []
  | AV.d x :: r => match allD r with | some l => some (x :: l) | none => none
  | _ :: _ => none
def mkAgg (cs : List AV) : AV :=
  match allD cs with
  | some ds => if ds.all D.one then .d (.agg ds) else .agg cs
  | none => .agg cs

def szT (P : Program) (t : TypeId) : Option Nat := match P.info? t with | some i => some i.size | none => none
def aggT (P : Program) (t : TypeId) : Option Bool :=
  match P.underlying t with
  | some (.struct _) => some true
  | some (.array _ _) => some true
  | some _ => some false
  | none => none
def zeroC (P : Program) (t : TypeId) : Option (List AV) :=
  match P.info? t with
  | some i => match i.zero with | some v => some (v.cells.toList.map constAV) | none => none
  | none => none

def setAt {α : Type} (old : List α) (off : Nat) (cs : List α) : List α := old.take off ++ cs ++ old.drop (off + cs.length)

/-- An object of one call is named by the slot that the operation writes. -/
def newName (dst j : Nat) : Nat := 1000 + 8 * dst + j

def pureE (v : AV) : Option Eff := some ⟨v, [], []⟩

def partD (ag : Bool) (n : Nat) (cs : List D) (off : Nat) : Option D :=
  if ag then (if off + n ≤ cs.length then some (.agg ((cs.drop off).take n)) else none) else cs[off]?

def actLoad (P : Program) (T : TypeId) (x : AV) (h : OH) (look : Nat → Ob) : Option Eff :=
  match aggT P T, szT P T with
  | some ag, some n =>
    match x with
    | .ptr o off =>
      match look o with
      | .box cs =>
        if ag then (if off + n ≤ cs.length then pureE (mkAgg ((cs.drop off).take n)) else none)
        else match cs[off]? with | some c => pureE c | none => none
      | _ => none
    | .eptr e off => match partD ag n e.cells off with | some d => pureE (.d d) | none => none
    | .rptr o sz i off =>
      match look o with
      | .row sz' es =>
        match h with
        | .el e => if e.cells.length = sz then (match partD ag n e.cells off with | some d => some ⟨.d d, [], [sz' = sz, es[i]? = some e]⟩ | none => none) else none
        | .arr => if ag = true ∧ sz = 1 then some ⟨.d (.agg (es.flatMap D.cells)), [], [sz' = sz, i = 0, off = 0, es.length = n, es ≠ []]⟩ else none
        | _ => none
      | _ => none
    | _ => none
  | _, _ => none

def D.setCells (e : D) (off : Nat) (ds : List D) : D :=
  match e with
  | .agg cs => .agg (setAt cs off ds)
  | d => match ds with | [x] => x | _ => d

def actStore (P : Program) (T : TypeId) (x v : AV) (h : OH) (look : Nat → Ob) : Option Eff :=
  match szT P T, v.cells with
  | some n, some cs =>
    match x with
    | .ptr o off =>
      match look o with
      | .box old => if cs.length = n ∧ off + n ≤ old.length ∧ cs.all AV.one = true then some ⟨.dead, [(o, .box (setAt old off cs))], []⟩ else none
      | _ => none
    | .rptr o sz i off =>
      match look o, h, allD cs with
      | .row sz' es, .el e, some ds =>
        if cs.length = n ∧ off + n ≤ e.cells.length ∧ e.cells.length = sz ∧ 0 < n ∧ ds.all D.one = true then
          some ⟨.dead, [(o, .row sz (es.set i (e.setCells off ds)))], [sz' = sz, es[i]? = some e]⟩ else none
      | .row sz' es, .arr, some ds =>
        if cs.length = n ∧ sz = 1 ∧ 0 < n ∧ ds.all D.one = true then some ⟨.dead, [(o, .row 1 ds)], [sz' = 1, i = 0, off = 0, es.length = n]⟩ else none
      | _, _, _ => none
    | _ => none
  | _, _ => none

def actFieldAddr (P : Program) (T : TypeId) (x : AV) (f : Nat) (look : Nat → Ob) : Option Eff :=
  match P.underlying T with
  | some (.struct fs) =>
    match fs[f]? with
    | some fd =>
      match szT P fd.type with
      | some (_ + 1) =>
        match x with
        | .ptr o off => match look o with | .box _ => pureE (.ptr o (off + fd.offset)) | _ => none
        | .rptr o sz i off => match look o with | .row _ es => some ⟨.rptr o sz i (off + fd.offset), [], [i < es.length]⟩ | _ => none
        | .eptr e off => pureE (.eptr e (off + fd.offset))
        | _ => none
      | _ => none
    | none => none
  | _ => none

def idxOf : AV → Option (IntKind × Int)
  | .d (.int k i) => some (k, i)
  | _ => none

def actIndexAddr (P : Program) (T : TypeId) (x idx : AV) (h : OH) (look : Nat → Ob) : Option Eff :=
  match idxOf idx with
  | some (_, i) =>
    match P.underlying T with
    | some (.slice elem) =>
      match szT P elem with
      | some sz =>
        match x with
        | .d (.sl es) =>
          match h with
          | .el e => if e.cells.length = sz then some ⟨.eptr e 0, [], [0 ≤ i, es[i.toNat]? = some e]⟩ else none
          | _ => none
        | .own o sz' =>
          match look o with
          | .row _ es => if sz' = sz then some ⟨.rptr o sz i.toNat 0, [], [0 ≤ i ∧ i < es.length]⟩ else none
          | _ => none
        | .sub o sz' lo n =>
          match look o with
          | .row _ _ => if sz' = sz then some ⟨.rptr o sz (lo + i.toNat) 0, [], [0 ≤ i ∧ i < n]⟩ else none
          | _ => none
        | _ => none
      | none => none
    | some (.array len elem) =>
      match szT P elem with
      | some sz =>
        match x with
        | .ptr o off =>
          match look o with
          | .box _ => some ⟨.ptr o (off + i.toNat * sz), [], [0 ≤ i ∧ i < len]⟩
          | _ => none
        | .rptr o sz' j off =>
          match look o with
          | .row _ es => if sz' = sz then some ⟨.rptr o sz i.toNat 0, [], [j = 0, off = 0, 0 ≤ i ∧ i < len, i < es.length]⟩ else none
          | _ => none
        | .eptr e off => some ⟨.eptr e (off + i.toNat * sz), [], [0 ≤ i ∧ i < len]⟩
        | _ => none
      | none => none
    | _ => none
  | none => none

def actIndex (P : Program) (T : TypeId) (x idx : AV) (h : OH) : Option Eff :=
  match idxOf idx with
  | some (_, i) =>
    match P.underlying T with
    | some (.array len elem) =>
      match szT P elem, aggT P elem with
      | some sz, some ag =>
        match x with
        | .d (.agg cs) =>
          match h with
          | .el (.agg l) => if ag = true ∧ l.length = sz then some ⟨.d (.agg l), [], [0 ≤ i ∧ i < len, (cs.drop (i.toNat * sz)).take sz = l]⟩ else none
          | .el e => if ag then none else some ⟨.d e, [], [0 ≤ i ∧ i < len, cs[i.toNat * sz]? = some e]⟩
          | _ => none
        | _ => none
      | _, _ => none
    | some .string =>
      match x, h with
      | .d (.str s), .byte c => some ⟨.d (.int .u8 c.toNat), [], [0 ≤ i, s[i.toNat]? = some c]⟩
      | _, _ => none
    | _ => none
  | none => none

def actField (P : Program) (T : TypeId) (x : AV) (f : Nat) : Option Eff :=
  match P.underlying T with
  | some (.struct fs) =>
    match fs[f]? with
    | some fd =>
      match szT P fd.type, aggT P fd.type with
      | some n, some ag =>
        match x with
        | .d (.agg cs) => match partD ag n cs fd.offset with | some d => pureE (.d d) | none => none
        | .agg cs =>
          if ag then (if fd.offset + n ≤ cs.length then pureE (mkAgg ((cs.drop fd.offset).take n)) else none)
          else match cs[fd.offset]? with | some c => pureE c | none => none
        | _ => none
      | _, _ => none
    | none => none
  | _ => none

def bitsI (op : BinOp) (k : IntKind) (x y : Int) : Int :=
  match op with
  | .and => k.wrap (BitVec.ofInt k.bits x &&& BitVec.ofInt k.bits y).toNat
  | .or => k.wrap (BitVec.ofInt k.bits x ||| BitVec.ofInt k.bits y).toNat
  | .xor => k.wrap (BitVec.ofInt k.bits x ^^^ BitVec.ofInt k.bits y).toNat
  | _ => k.wrap (BitVec.ofInt k.bits x &&& ~~~BitVec.ofInt k.bits y).toNat

def intBin (op : BinOp) (k : IntKind) (a b : Int) : Option (D × List Prop) :=
  match op with
  | .add => some (.int k (k.wrap (a + b)), [])
  | .sub => some (.int k (k.wrap (a - b)), [])
  | .mul => some (.int k (k.wrap (a * b)), [])
  | .quo => some (.int k (k.wrap (a.tdiv b)), [b ≠ 0])
  | .rem => some (.int k (a.tmod b), [b ≠ 0])
  | .and => some (.int k (bitsI .and k a b), [])
  | .or => some (.int k (bitsI .or k a b), [])
  | .xor => some (.int k (bitsI .xor k a b), [])
  | .andNot => some (.int k (bitsI .andNot k a b), [])
  | .eql => some (.bool (a == b), [])
  | .neq => some (.bool (a != b), [])
  | .lss => some (.bool (decide (a < b)), [])
  | .leq => some (.bool (decide (a ≤ b)), [])
  | .gtr => some (.bool (decide (a > b)), [])
  | .geq => some (.bool (decide (a ≥ b)), [])
  | _ => none

def strBin (op : BinOp) (a b : List UInt8) : Option (D × List Prop) :=
  match op with
  | .add => some (.str (a ++ b), [((a.length + b.length : Nat) : Int) ≤ IntKind.i64.max])
  | .eql => some (.bool (a == b), [])
  | .neq => some (.bool (!(a == b)), [])
  | .lss => some (.bool (Op.bytesLess a b), [])
  | .leq => some (.bool (Op.bytesLess a b || a == b), [])
  | .gtr => some (.bool (!(Op.bytesLess a b || a == b)), [])
  | .geq => some (.bool (!Op.bytesLess a b), [])
  | _ => none

/-- Equality of two scalars of one type; none: not of one plain type. -/
def scalEq (P : Program) (T : TypeId) (x y : D) : Option Bool :=
  match P.underlying T, x, y with
  | some .bool, .bool a, .bool b => some (a == b)
  | some (.int _), .int k a, .int k' b => if k = k' then some (a == b) else none
  | some .string, .str a, .str b => some (a == b)
  | _, _, _ => none
/-- Equality of two structs all of whose fields are scalars. -/
def fieldsEq (P : Program) (cs ds : List D) : List Field → Option Bool
  | [] => some true
  | f :: r =>
    if f.name = "_" then fieldsEq P cs ds r else
    match aggT P f.type, cs[f.offset]?, ds[f.offset]? with
    | some false, some c, some d =>
      match scalEq P f.type c d, fieldsEq P cs ds r with
      | some b, some b' => some (b && b')
      | _, _ => none
    | _, _, _ => none

def rawNil : Value → Bool
  | .slice none 0 0 => true
  | .pointer none => true
  | .nilFunc => true
  | _ => false

/-- Is a value nil? -/
def isNil (P : Program) (T : TypeId) (x : AV) (look : Nat → Ob) : Option (Bool × List Prop) :=
  match P.underlying T with
  | some (.slice _) =>
    match x with
    | .raw (.slice a _ _) => some (a.isNone, [])
    | .d (.sl es) => some (false, [es ≠ []])
    | .own o _ => match look o with | .row _ es => some (false, [es ≠ []]) | _ => none
    | _ => none
  | some (.func _ _ _) =>
    match x with
    | .raw .nilFunc => some (true, [])
    | .fn _ _ => some (false, [])
    | _ => none
  | some (.pointer _) =>
    match x with
    | .raw (.pointer none) => some (true, [])
    | .ptr o _ => match look o with | .box _ => some (false, []) | _ => none
    | _ => none
  | _ => none

def nilConst (P : Program) (T : TypeId) (y : AV) : Bool :=
  match P.underlying T, y with
  | some (.slice _), .raw (.slice none 0 0) => true
  | some (.func _ _ _), .raw .nilFunc => true
  | some (.pointer _), .raw (.pointer none) => true
  | _, _ => false

def actBin (P : Program) (op : BinOp) (T : TypeId) (x y : AV) (look : Nat → Ob) : Option Eff :=
  match x, y with
  | .d (.int k a), .d (.int k' b) =>
    match op with
    | .shl => some ⟨.d (.int k (k.wrap (a * 2 ^ (min b.toNat k.bits)))), [], [0 ≤ b]⟩
    | .shr => some ⟨.d (.int k (a.fdiv (2 ^ (min b.toNat k.bits)))), [], [0 ≤ b]⟩
    | _ => if k = k' then (match intBin op k a b with | some (d, obs) => some ⟨.d d, [], obs⟩ | none => none) else none
  | .d (.str a), .d (.str b) => match strBin op a b with | some (d, obs) => some ⟨.d d, [], obs⟩ | none => none
  | .d (.bool a), .d (.bool b) =>
    match P.underlying T, op with
    | some .bool, .eql => pureE (.d (.bool (a == b)))
    | some .bool, .neq => pureE (.d (.bool (!(a == b))))
    | _, _ => none
  | .d (.agg cs), .d (.agg ds) =>
    match P.underlying T, op with
    | some (.struct fs), .eql => if P.eqGuardType P.depth T = false ∧ P.stoodInHeld T = false then (match fieldsEq P cs ds fs.toList with | some b => pureE (.d (.bool b)) | none => none) else none
    | some (.struct fs), .neq => if P.eqGuardType P.depth T = false ∧ P.stoodInHeld T = false then (match fieldsEq P cs ds fs.toList with | some b => pureE (.d (.bool (!b))) | none => none) else none
    | _, _ => none
  | .ptr o 0, .ptr o' 0 =>
    match P.underlying T, look o, look o', op with
    | some (.pointer el), .box _, .box _, .eql => match szT P el with | some (_ + 1) => pureE (.d (.bool (o == o'))) | _ => none
    | _, _, _, _ => none
  | x, y =>
    if nilConst P T y then
      match op, isNil P T x look with
      | .eql, some (b, obs) => some ⟨.d (.bool b), [], obs⟩
      | .neq, some (b, obs) => some ⟨.d (.bool (!b)), [], obs⟩
      | _, _ => none
    else none

def actUn (op : UnOp) (x : AV) : Option Eff :=
  match op, x with
  | .neg, .d (.int k n) => pureE (.d (.int k (k.wrap (0 - n))))
  | .xor, .d (.int k n) => pureE (.d (.int k (bitsI .xor k (if k.signed then -1 else k.max) n)))
  | .not, .d (.bool b) => pureE (.d (.bool (!b)))
  | _, _ => none

def byteD (c : UInt8) : D := .int .u8 c.toNat

def rowOf (x : AV) (look : Nat → Ob) : Option (List D) :=
  match x with
  | .d (.sl es) => some es
  | .own o _ => match look o with | .row _ es => some es | _ => none
  | .sub o _ lo n => match look o with | .row _ es => some ((es.drop lo).take n) | _ => none
  | .raw (.slice _ 0 _) => some []
  | _ => none

def actConvert (P : Program) (dst : Nat) (s t : TypeId) (x : AV) (h : OH) (look : Nat → Ob) : Option Eff :=
  match P.underlying s, P.underlying t with
  | some (.int _), some (.int k) => match x with | .d (.int _ n) => pureE (.d (.int k (k.wrap n))) | _ => none
  | some .string, some .string => match x with | .d (.str s) => pureE (.d (.str s)) | _ => none
  | some .string, some (.slice e) =>
    match P.underlying e, x, look (newName dst 0) with
    | some (.int .u8), .d (.str s), .none => some ⟨.own (newName dst 0) 1, [(newName dst 0, .row 1 (s.map byteD))], []⟩
    | _, _, _ => none
  | some (.slice e), some .string =>
    match P.underlying e, rowOf x look, h with
    | some (.int .u8), some es, .str s => some ⟨.d (.str s), [], [es = s.map byteD]⟩
    | _, _, _ => none
  | some (.slice e), some (.slice _) =>
    match P.underlying e, x with
    | some (.int .u8), .own o sz => match look o with | .row sz' es => if s = t then some ⟨.own o sz, [(o, .row sz' es)], [es ≠ []]⟩ else none | _ => none
    | _, _ => none
  | _, _ => none

def bound (x : Option AV) (dflt : Int) : Option Int :=
  match x with
  | none => some dflt
  | some (.d (.int _ i)) => some i
  | some _ => none

def actSlice (P : Program) (T : TypeId) (x : AV) (lo hi mx : Option AV) (look : Nat → Ob) : Option Eff :=
  match mx with
  | some m =>
    match P.underlying T, x with
    | some (.slice elem), .d (.sl es) =>
      match hi with
      | some ah => match szT P elem, bound lo 0, bound (some ah) 0, bound (some m) 0 with
        | some sz, some l, some h, some k => some ⟨.d (.sl ((es.take h.toNat).drop l.toNat)), [], [0 ≤ l ∧ l ≤ h ∧ h ≤ k ∧ k ≤ es.length, ∀ e ∈ es, e.cells.length = sz]⟩
        | _, _, _, _ => none
      | none => none
    | some (.slice elem), .own o _ =>
      match look o, szT P elem with
      | .row _ es, some _ =>
        match hi with
        | some ah => match bound lo 0, bound (some ah) 0, bound (some m) 0 with
          | some l, some h, some k => some ⟨.dead, [], [0 ≤ l ∧ l ≤ h ∧ h ≤ k ∧ k ≤ es.length]⟩
          | _, _, _ => none
        | none => none
      | _, _ => none
    | _, _ => none
  | none =>
    match P.underlying T, x with
    | some .string, .d (.str s) =>
      match bound lo 0, bound hi s.length with
      | some l, some h => some ⟨.d (.str ((s.take h.toNat).drop l.toNat)), [], [0 ≤ l ∧ l ≤ h ∧ h ≤ s.length]⟩
      | _, _ => none
    | some (.slice elem), .d (.sl es) =>
      match szT P elem, bound lo 0, bound hi es.length with
      | some sz, some l, some h => some ⟨.d (.sl ((es.take h.toNat).drop l.toNat)), [], [0 ≤ l ∧ l ≤ h ∧ h ≤ es.length, ∀ e ∈ es, e.cells.length = sz]⟩
      | _, _, _ => none
    | some (.slice elem), .own o sz =>
      match look o, szT P elem with
      | .row _ es, some sz' =>
        match bound lo 0, bound hi es.length with
        | some l, some h => if sz = sz' then some ⟨.sub o sz l.toNat (h - l).toNat, [], [0 ≤ l ∧ l ≤ h ∧ h ≤ es.length]⟩ else none
        | _, _ => none
      | _, _ => none
    | some (.slice elem), .sub o sz l0 n =>
      match look o, szT P elem with
      | .row _ es, some sz' =>
        match bound lo 0, bound hi n with
        | some l, some h => if sz = sz' then some ⟨.sub o sz (l0 + l.toNat) (h - l).toNat, [], [0 ≤ l ∧ l ≤ h ∧ (h ≤ n ∨ l0 + h ≤ es.length)]⟩ else none
        | _, _ => none
      | _, _ => none
    | some (.slice elem), .raw (.slice none 0 0) =>
      match szT P elem, bound lo 0, bound hi 0 with
      | some _, some l, some h => some ⟨.raw (.slice none 0 0), [], [l = 0, h = 0]⟩
      | _, _, _ => none
    | some (.array n elem), .rptr o sz i off =>
      match look o, szT P elem with
      | .row _ es, some sz' =>
        match bound lo 0, bound hi n with
        | some l, some h => if sz = sz' then some ⟨.sub o sz l.toNat (h - l).toNat, [], [i = 0, off = 0, es.length = n, 0 < n, 0 ≤ l ∧ l ≤ h ∧ h ≤ n]⟩ else none
        | _, _ => none
      | _, _ => none
    | _, _ => none

def chunk (sz : Nat) : Nat → List D → List D
  | 0, _ => []
  | n + 1, l => D.agg (l.take sz) :: chunk sz n (l.drop sz)

/-- The same scalar. -/
def D.same : D → D → Bool
  | .int k n, .int k' n' => k == k' && n == n'
  | .bool b, .bool b' => b == b'
  | .str [], .str [] => true
  | _, _ => false
def sameAV (z : D) : AV → Bool
  | .d x => D.same x z
  | _ => false

/-- The cells of an array's zero value as a row. -/
def actAlloc (P : Program) (dst : Nat) (T : TypeId) (h : OH) (look : Nat → Ob) : Option Eff :=
  match look (newName dst 0), zeroC P T with
  | .none, some cs =>
    match h with
    | .arr =>
      match P.underlying T with
      | some (.array n elem) =>
        match zeroC P elem, szT P elem with
        | some [.d z], some 1 => if z.one = true ∧ cs.length = n ∧ cs.all (sameAV z) = true then some ⟨.rptr (newName dst 0) 1 0 0, [(newName dst 0, .row 1 (List.replicate n z))], []⟩ else none
        | _, _ => none
      | _ => none
    | _ => some ⟨.ptr (newName dst 0) 0, [(newName dst 0, .box cs)], []⟩
  | _, _ => none

def actBox (dst : Nat) (x : AV) (look : Nat → Ob) : Option Eff :=
  match look (newName dst 0), x.cells with
  | .none, some cs => some ⟨.ptr (newName dst 0) 0, [(newName dst 0, .box cs)], []⟩
  | _, _ => none

/-- The parts of a struct or an array laid over its zero cells. -/
def fillAV (place : Nat → Option (Nat × Nat)) (cells : List AV) : List (Nat × AV) → Option (List AV)
  | [] => some cells
  | (i, v) :: rest =>
    match place i, v.cells with
    | some (off, size), some cs => if cs.length = size ∧ off + size ≤ cells.length then fillAV place (setAt cells off cs) rest else none
    | _, _ => none

def placeF (P : Program) (fs : Array Field) (i : Nat) : Option (Nat × Nat) :=
  match fs[i]? with
  | some f => match szT P f.type with | some n => some (f.offset, n) | none => none
  | none => none

def actBuild (P : Program) (T : TypeId) (parts : List (Nat × AV)) : Option Eff :=
  match P.underlying T, zeroC P T with
  | some (.struct fs), some z => if fs.toList.all (fun f => (szT P f.type).isSome) then (match fillAV (placeF P fs) z parts with | some cs => pureE (mkAgg cs) | none => none) else none
  | some (.array _ elem), some z =>
    match szT P elem with
    | some sz => match fillAV (fun i => some (i * sz, sz)) z parts with | some cs => pureE (mkAgg cs) | none => none
    | none => none
  | _, _ => none

def repl (n : Nat) (z : List AV) : List AV := match n with | 0 => [] | n + 1 => z ++ repl n z

/-- Cells as elements. -/
def elemsOf (sz : Nat) (n : Nat) (cs : List AV) : Option (List D) :=
  match allD cs with
  | some ds => if ds.all D.one = true ∧ ds.length = n * sz then some (chunk sz n ds) else none
  | none => none

def actBuildSlice (P : Program) (dst : Nat) (T : TypeId) (len : Nat) (parts : List (Nat × AV)) (look : Nat → Ob) : Option Eff :=
  match look (newName dst 0), P.underlying T with
  | .none, some (.slice elem) =>
    match szT P elem, zeroC P elem, aggT P elem with
    | some sz, some z, some ag =>
      if z.length = sz ∧ 0 < sz ∧ len * sz ≤ 16777216 ∧ (ag = true ∨ sz = 1) then
        match fillAV (fun i => some (i * sz, sz)) (repl len z) parts with
        | some cs => match (if ag then elemsOf sz len cs else allD cs) with
          | some es => if ag = true ∨ es.all D.one = true then some ⟨.own (newName dst 0) sz, [(newName dst 0, .row sz es)], []⟩ else none
          | none => none
        | none => none
      else none
    | _, _, _ => none
  | _, _ => none

def minFrom (a : Int) : List AV → Option Int
  | [] => some a
  | AV.d (.int _ b) :: r => minFrom (min a b) r
  | _ => none
def maxFrom (a : Int) : List AV → Option Int
  | [] => some a
  | AV.d (.int _ b) :: r => maxFrom (max a b) r
  | _ => none
def minI : List AV → Option (IntKind × Int)
  | AV.d (.int k a) :: r => match minFrom a r with | some n => some (k, n) | none => none
  | _ => none
def maxI : List AV → Option (IntKind × Int)
  | AV.d (.int k a) :: r => match maxFrom a r with | some n => some (k, n) | none => none
  | _ => none

def lenOf (P : Program) (T : TypeId) (x : AV) (look : Nat → Ob) : Option Nat :=
  match P.underlying T with
  | some .string => match x with | .d (.str s) => some s.length | _ => none
  | some (.slice _) =>
    match x with
    | .d (.sl es) => some es.length
    | .own o _ => match look o with | .row _ es => some es.length | _ => none
    | .sub o _ _ n => match look o with | .row _ _ => some n | _ => none
    | .raw (.slice _ n _) => some n
    | _ => none
  | some (.array n _) => some n
  | _ => none

/-- The elements that are appended. -/
def newsOf (P : Program) (T : TypeId) (x : AV) (look : Nat → Ob) : Option (List D) :=
  match P.underlying T with
  | some .string => match x with | .d (.str s) => some (s.map byteD) | _ => none
  | some (.slice _) => rowOf x look
  | _ => none

def bytesT (P : Program) (t : TypeId) : Nat := match P.info? t with | some i => i.bytes | none => 0

/-- The zero element of a type, as plain data. -/
def zeroD (P : Program) (elem : TypeId) : Option D :=
  match aggT P elem, zeroC P elem with
  | some true, some z => match allD z with | some ds => if ds.all D.one = true then some (.agg ds) else none | none => none
  | some false, some [.d d] => if d.one = true then some d else none
  | _, _ => none
/-- The elements that are appended, or a count of zeros. -/
def newsA (P : Program) (U elem : TypeId) (x : AV) (look : Nat → Ob) : Option (List D × List Prop) :=
  match P.underlying U with
  | some (.int _) => match x, zeroD P elem with | .d (.int _ n), some z => some (List.replicate n.toNat z, [0 ≤ n]) | _, _ => none
  | _ => match newsOf P U x look with | some l => some (l, []) | none => none

/-- A row of so many zeros. -/
def actMake (P : Program) (dst : Nat) (T : TypeId) (l c : AV) (look : Nat → Ob) : Option Eff :=
  match look (newName dst 0), P.underlying T, l, c with
  | .none, some (.slice elem), .d (.int _ n), .d (.int _ m) =>
    match zeroC P elem, szT P elem, zeroD P elem with
    | some zc, some (s + 1), some d =>
      if zc.length = s + 1 then
        some ⟨.own (newName dst 0) (s + 1), [(newName dst 0, .row (s + 1) (List.replicate n.toNat d))], [n = m, 0 ≤ n ∧ n ≤ 9223372036854775807, (bytesT P elem : Int) * n ≤ 281474976710656]⟩
      else none
    | _, _, _ => none
  | _, _, _, _ => none

/-- What is appended to: the object (if it is one of the call's own), and the elements that stay. -/
def baseOf (x : AV) (look : Nat → Ob) : Option (Option Nat × Nat × List D) :=
  match x with
  | .own o sz => match look o with | .row _ es => some (some o, sz, es) | _ => none
  | .sub o sz lo n => match look o with | .row _ es => if lo = 0 then some (some o, sz, es.take n) else none | _ => none
  | .raw (.slice none 0 0) => some (none, 0, [])
  | _ => none

def actAppend (P : Program) (dst : Nat) (T U : TypeId) (s x : AV) (look : Nat → Ob) : Option Eff :=
  match look (newName dst 0), P.underlying T with
  | .none, some (.slice elem) =>
    match szT P elem, zeroC P elem, baseOf s look, newsA P U elem x look with
    | some sz, some z, some (o, sz', es), some (news, more) =>
      if 0 < sz ∧ z.length = sz ∧ (o = none ∨ sz' = sz) ∧ 0 < bytesT P elem then
        some ⟨.own (newName dst 0) sz, (match o with | some o => [(o, .gone)] | none => []) ++ [(newName dst 0, .row sz (es ++ news))],
          [(es.length + news.length) * bytesT P elem ≤ 140737488355328, ∀ e ∈ news, e.cells.length = sz] ++ more⟩
      else none
    | _, _, _, _ => none
  | _, _ => none

/-- Appending a stretch of a row to its own first elements: in place, for the room is there. -/
def actAppendIn (P : Program) (T U : TypeId) (s x : AV) (look : Nat → Ob) : Option Eff :=
  match s, x with
  | .sub o sz' lo m, .sub o' _ _ _ =>
    match look o, P.underlying T, P.underlying U with
    | .row _ es, some (.slice elem), some (.slice _) =>
      match szT P elem, zeroC P elem, rowOf x look with
      | some sz, some z, some news =>
        if o = o' ∧ lo = 0 ∧ sz' = sz ∧ 0 < sz ∧ z.length = sz ∧ 0 < bytesT P elem then
          some ⟨.sub o sz 0 (m + news.length), [(o, .row sz (es.take m ++ news ++ es.drop (m + news.length)))],
            [es ≠ [], m + news.length ≤ es.length, (m + news.length) * bytesT P elem ≤ 140737488355328, ∀ e ∈ news, e.cells.length = sz]⟩
        else none
      | _, _, _ => none
    | _, _, _ => none
  | _, _ => none

/-- A stretch of a row of the call's own is set to zero. -/
def actClear (P : Program) (T : TypeId) (x : AV) (look : Nat → Ob) : Option Eff :=
  match x with
  | .sub o sz' lo n =>
    match look o, P.underlying T with
    | .row _ es, some (.slice elem) =>
      match szT P elem, zeroC P elem, zeroD P elem with
      | some sz, some z, some zd =>
        if sz' = sz ∧ 0 < sz ∧ z.length = sz then
          some ⟨.dead, [(o, .row sz (es.take lo ++ List.replicate n zd ++ es.drop (lo + n)))], [es ≠ [], 0 < n, lo + n ≤ es.length]⟩
        else none
      | _, _, _ => none
    | _, _ => none
  | _ => none

def actBuiltin (P : Program) (dst : Nat) (b : Builtin) (ts : List TypeId) (args : List AV) (look : Nat → Ob) : Option Eff :=
  match b, ts, args with
  | .len, T :: _, [x] => match lenOf P T x look with | some n => pureE (.d (.int .i64 n)) | none => none
  | .min, _, l => match minI l with | some (k, n) => pureE (.d (.int k n)) | none => none
  | .max, _, l => match maxI l with | some (k, n) => pureE (.d (.int k n)) | none => none
  | .append, [T, U], [s, x] => match actAppendIn P T U s x look with | some e => some e | none => actAppend P dst T U s x look
  | .clear, [T], [x] => actClear P T x look
  | .cap, T :: _, [.raw (.slice _ _ c)] => match P.underlying T with | some (.slice _) => pureE (.d (.int .i64 c)) | _ => none
  | _, _, _ => none

/-- A contract: the function, called with these arguments (over these objects), answers this, and leaves the objects so. Given below; here any relation. -/
abbrev FnRel := FuncId → List AV → List Ob → AV → List Ob → Prop

mutual
def AV.ren (ρ : Nat → Nat) : AV → AV
  | .ptr o off => .ptr (ρ o) off
  | .rptr o sz i off => .rptr (ρ o) sz i off
  | .own o sz => .own (ρ o) sz
  | .sub o sz lo n => .sub (ρ o) sz lo n
  | .agg cs => .agg (AV.renL ρ cs)
  | .tup cs => .tup (AV.renL ρ cs)
  | .fn f cs => .fn f (AV.renL ρ cs)
  | .meth f cs => .meth f (AV.renL ρ cs)
  | .d x => .d x
  | .raw v => .raw v
  | .eptr e off => .eptr e off
  | .dead => .dead
def AV.renL (ρ : Nat → Nat) : List AV → List AV
  | [] => []
  | c :: r => c.ren ρ :: AV.renL ρ r
end
def Ob.ren (ρ : Nat → Nat) : Ob → Ob
  | .box cs => .box (AV.renL ρ cs)
  | x => x
def Ob.names : Ob → List Nat
  | .box cs => AV.namesL cs
  | _ => []

mutual
/-- A value as a callee sees it: what is not handed over (`who`) is plain data. The second part: was a row of one's own lent? -/
def AV.view (look : Nat → Ob) (kn : Bool) (who : List Nat) : AV → Option (AV × Bool)
  | .d x => some (.d x, false)
  | .raw (.slice none 0 0) => some (if kn then .raw (.slice none 0 0) else .d (.sl []), false)
  | .raw v => some (.raw v, false)
  | .ptr o off => if who.contains o then some (.ptr o off, false) else none
  | .rptr o sz i off => if who.contains o then some (.rptr o sz i off, false) else none
  | .own o sz => if who.contains o then some (.own o sz, false) else match look o with | .row _ es => some (.d (.sl es), true) | _ => none
  | .sub o sz lo n => if who.contains o then some (.sub o sz lo n, false) else match look o with | .row _ es => some (.d (.sl ((es.drop lo).take n)), true) | _ => none
  | .agg cs => match AV.viewL look kn who cs with | some (l, b) => some (mkAgg l, b) | none => none
  | .fn f cs => match AV.viewL look kn who cs with | some (l, b) => some (.fn f l, b) | none => none
  | .meth f cs => match AV.viewL look kn who cs with | some (l, b) => some (.meth f l, b) | none => none
  | _ => none
def AV.viewL (look : Nat → Ob) (kn : Bool) (who : List Nat) : List AV → Option (List AV × Bool)
  | [] => some ([], false)
  | c :: r => match c.view look kn who, AV.viewL look kn who r with | some (x, b), some (l, b') => some (x :: l, b || b') | _, _ => none
end

mutual
/-- Nothing in it leads to memory. -/
def AV.flat : AV → Bool
  | AV.d (.int _ _) => true
  | AV.d (.bool _) => true
  | AV.d (.str _) => true
  | AV.d (.agg cs) => D.flatL cs
  | .raw v => rawNil v
  | .tup cs => AV.flatL cs
  | .agg cs => AV.flatL cs
  | _ => false
def AV.flatL : List AV → Bool
  | [] => true
  | c :: r => c.flat && AV.flatL r
def D.flatL : List D → Bool
  | [] => true
  | .int _ _ :: r => D.flatL r
  | .bool _ :: r => D.flatL r
  | .str _ :: r => D.flatL r
  | _ :: _ => false
end

def idxIn (who : List Nat) (n : Nat) : Nat := who.idxOf n
def outName (who : List Nat) (dst : Nat) (i : Nat) : Nat := if i < who.length then who.getD i 0 else newName dst (i - who.length)

def zipFrom (f : Nat → Nat) : Nat → List Ob → List (Nat × Ob)
  | _, [] => []
  | i, x :: r => (f i, x) :: zipFrom f (i + 1) r

def actCallK (F : FnRel) (dst : Nat) (f : FuncId) (args : List AV) (kn : Bool) (who : List Nat) (rv : AV) (outs : List Ob) (look : Nat → Ob) : Option Eff :=
    match AV.viewL look kn who args with
    | some (l, lent) =>
      if who.Nodup ∧ (lent = false ∨ (rv.flat = true ∧ who = [] ∧ outs = [])) ∧ who.length ≤ outs.length ∧ outs.length ≤ who.length + 8 ∧
          (AV.namesL l).all who.contains = true ∧ who.all (fun n => (look n).names.all who.contains) = true ∧
          (List.range (outs.length - who.length)).all (fun j => match look (newName dst j) with | .none => true | _ => false) = true ∧
          who.all (fun n => match look n with | .box _ => true | .row _ _ => true | _ => false) = true ∧
          rv.names.all (· < outs.length) = true ∧ outs.all (fun x => x.names.all (· < outs.length)) = true
      then
        some ⟨rv.ren (outName who dst), (zipFrom (outName who dst) 0 (outs.map (Ob.ren (outName who dst)))),
          [F f (AV.renL (idxIn who) l) (who.map fun n => (look n).ren (idxIn who)) rv outs]⟩
      else none
    | none => none
def actCallH (F : FnRel) (dst : Nat) (f : FuncId) (args : List AV) (h : OH) (look : Nat → Ob) : Option Eff :=
  match h with
  | .call who rv outs => actCallK F dst f args false who rv outs look
  | .callN who rv outs => actCallK F dst f args true who rv outs look
  | _ => none

def dsOf : List AV → Option (List D)
  | [] => some []
  | .d x :: r => match dsOf r with | some l => some (x :: l) | none => none
  | _ :: _ => none
/-- A call: by the hint's own words, or (`.fn`) by a function that computes the answer from plain data. -/
def actCall (F : FnRel) (dst : Nat) (f : FuncId) (args : List AV) (h : OH) (look : Nat → Ob) : Option Eff :=
  match h with
  | .fn g =>
    match AV.viewL look false [] args with
    | some (l, _) => match dsOf l with
      | some ds => match g ds with
        | some (rv, outs) => actCallH F dst f args (.call [] rv outs) look
        | none => none
      | none => none
    | none => none
  | h => actCallH F dst f args h look

def calleeOf : AV → Option (FuncId × List AV × List AV)
  | .fn f cap => some (f, [], cap)
  | .meth f fs => some (f, fs, [])
  | _ => none

def optE (E : Operand → AV) : Option Operand → Option AV
  | none => none
  | some x => some (E x)

def actOp (P : Program) (F : FnRel) (h : OH) (o : Oper) (E : Operand → AV) (look : Nat → Ob) : Option Eff :=
  let dst := match o.dst with | some d => d | none => 0
  match o.op with
  | .move x => pureE (E x)
  | .assign x => pureE (E x)
  | .pick c a b => match E c with | .d (.bool true) => pureE (E a) | .d (.bool false) => pureE (E b) | _ => none
  | .alloc T => actAlloc P dst T h look
  | .box _ x => actBox dst (E x) look
  | .build T ps => actBuild P T (ps.toList.map fun p => (p.1, E p.2))
  | .buildSlice T n ps => actBuildSlice P dst T n (ps.toList.map fun p => (p.1, E p.2)) look
  | .load T x => actLoad P T (E x) h look
  | .store T a v => actStore P T (E a) (E v) h look
  | .nilCheck x => match E x with | .ptr o off => (match look o with | .box _ => pureE (.ptr o off) | _ => none) | .rptr o sz i off => (match look o with | .row _ es => some ⟨.rptr o sz i off, [], [es ≠ []]⟩ | _ => none) | .fn f cap => pureE (.fn f cap) | _ => none
  | .makeSlice T l c => actMake P dst T (E l) (E c) look
  | .binOp op T x y _ => actBin P op T (E x) (E y) look
  | .unOp op _ x => actUn op (E x)
  | .convert s t x => actConvert P dst s t (E x) h look
  | .makeFunc (.func f) first cap => if first.isEmpty then pureE (.fn f (cap.toList.map E)) else if cap.isEmpty then pureE (.meth f (first.toList.map E)) else none
  | .slice T x lo hi mx => actSlice P T (E x) (optE E lo) (optE E hi) (optE E mx) look
  | .fieldAddr T x f => actFieldAddr P T (E x) f look
  | .field T x f => actField P T (E x) f
  | .indexAddr T x i => actIndexAddr P T (E x) (E i) h look
  | .index T x i => actIndex P T (E x) (E i) h
  | .extract x i => match E x with | .tup vs => (match vs[i]? with | some v => pureE v | none => none) | _ => none
  | .call c =>
    match c.callee with
    | .builtin b => actBuiltin P dst b c.argTypes.toList (c.args.toList.map E) look
    | .value f => match calleeOf (E f) with | some (g, fs, cap) => actCall F dst g (fs ++ (c.args.toList.map E ++ cap)) h look | none => none
    | .invoke _ _ => none
  | _ => none

/-- A value that is told anew, in other words. -/
def retell (h : OH) (e : Eff) : Option Eff :=
  match h with
  | .val d' => match e.val with | .d d => some ⟨.d d', e.wr, (d = d') :: e.obs⟩ | _ => none
  | _ => some e

def argNames (o : Oper) (E : Operand → AV) : List Nat := AV.namesL (o.op.operands.toList.map E)
/-- The objects that an operation may look at. -/
def opNames (h : OH) (o : Oper) (E : Operand → AV) : List Nat :=
  let dst := match o.dst with | some d => d | none => 0
  h.who ++ argNames o E ++ (List.range 8).map (newName dst)
def narrow (names : List Nat) (O : Nat → Ob) (n : Nat) : Ob := if names.contains n then O n else .gone

def act (P : Program) (F : FnRel) (h : OH) (o : Oper) (E : Operand → AV) (O : Nat → Ob) : Option Eff :=
  match actOp P F h o E (narrow (opNames h o E) O) with
  | some e => retell h e
  | none => none
end Sx
end Go.Proofs.Ytfllhedkgeljaaa
