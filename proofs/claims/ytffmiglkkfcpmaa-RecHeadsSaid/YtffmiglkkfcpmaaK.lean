/- A small evaluator of the code that functions of the translated program consist of, proved sound against the model: what it answers on what is known of the memory, the model answers. -/
import Derived.WalkKit
import Derived.Defers
import Derived.ChangeKeysEq
import Derived.Laws.StructEq
import Derived.Orders
import Derived.ProofKit
import Derived.OpenShut
import Derived.Deep.DeepHandedRow
import Derived.Lib.LaidTab
set_option linter.unusedSimpArgs false
set_option linter.unusedVariables false
namespace Go.Proofs.Ytffmiglkkfcpmaa.K

/-- What is known of a block: its first cells, and how many it has; or some of its cells, which are not written; or a map. -/
inductive KB where
  | cells (cs : List Value) (n : Nat)
  | ro (f : Nat → Option Value)
  | map (es : Array MapEntry) (clock : Nat)

abbrev OH := Nat → Option KB
abbrev HL := List (Nat × KB)

def lk : HL → Nat → Option KB
  | [], _ => none
  | (x, k) :: H, r => bif r == x then some k else lk H r
def den (H : HL) (B : OH) : OH := fun r => match B r with | some k => some k | none => lk H r

def KB.is : KB → Option Obj → Prop
  | .cells cs n, o => ∃ arr e, o = some (.cells arr e (0, 0)) ∧ arr.size = n ∧ cs.length ≤ n ∧ ∀ (i : Nat) v, cs[i]? = some v → arr[i]? = some v
  | .ro f, o => ∃ arr e fr, o = some (.cells arr e fr) ∧ ∀ i v, f i = some v → arr[i]? = some v
  | .map es c, o => o = some (.map es c)

structure Knows (w0 : World) (O : OH) (w : World) : Prop where
  os : w.os = w0.os
  tape : w.tape = w0.tape
  output : w.output = w0.output
  size : w0.heap.size ≤ w.heap.size
  old : ∀ b, b < w0.heap.size → w.heap[b]? = w0.heap[b]?
  own : ∀ r k, O r = some k → r < w.heap.size ∧ k.is w.heap[r]?
  fz : ∀ a : Addr, w0.heap.size ≤ a.block → w.frozen? a = false
  mine : ∀ r, (∃ cs n, O r = some (.cells cs n)) ∨ (∃ es c, O r = some (.map es c)) → w0.heap.size ≤ r

variable {w0 w : World} {O O' : OH}

theorem Knows.drew (h : Knows w0 O w) : Knows w0 O w.drew := ⟨h.os, h.tape, h.output, h.size, h.old, h.own, h.fz, h.mine⟩
theorem Knows.drawn (h : Knows w0 O w) (n : Nat) : Knows w0 O { w with drawn := n } := ⟨h.os, h.tape, h.output, h.size, h.old, h.own, h.fz, h.mine⟩
theorem Knows.mono (h : Knows w0 O w) (hle : ∀ r k, O' r = some k → O r = some k) : Knows w0 O' w :=
  ⟨h.os, h.tape, h.output, h.size, h.old, fun r k hk => h.own r k (hle r k hk), h.fz, fun r hr => h.mine r (by
    rcases hr with ⟨cs, n, hk⟩ | ⟨es, c, hk⟩
    · exact .inl ⟨cs, n, hle _ _ hk⟩
    · exact .inr ⟨es, c, hle _ _ hk⟩)⟩

theorem Knows.below (h : Knows w0 O w) : RowKit.Below w0.heap.size w0 w := ⟨h.os, h.tape, h.output, h.size, h.old⟩

/-- Cells of a block, from one on, so many. -/
def tk : List Value → Nat → Nat → Option (List Value)
  | _, 0, 0 => some []
  | [], _, _ => none
  | v :: l, 0, n + 1 => match tk l 0 n with | some r => some (v :: r) | none => none
  | _ :: l, o + 1, n => tk l o n
def tkC (v : Value) : Option (List Value) → Option (List Value)
  | some r => some (v :: r)
  | none => none
def rof (f : Nat → Option Value) (o : Nat) : Nat → Option (List Value)
  | 0 => some []
  | n + 1 => match f o, rof f (o + 1) n with | some v, some r => some (v :: r) | _, _ => none
def KB.rd : KB → Nat → Nat → Option (List Value)
  | .cells cs _, o, n => tk cs o n
  | .ro f, o, n => rof f o n
  | .map .., _, _ => none
def rdB (B : OH) (b o n : Nat) : Option (List Value) := match B b with | some k => k.rd o n | none => none
def rdL (o n : Nat) : Option KB → Option (List Value)
  | some k => k.rd o n
  | none => none
def rdN (H : HL) (b o n : Nat) : Option KB → Option (List Value)
  | some _ => none
  | none => rdL o n (lk H b)
def rdO (H : HL) (B : OH) (b o n : Nat) : Option (List Value) → Option (List Value)
  | some r => some r
  | none => rdN H b o n (B b)
def rdH (H : HL) (B : OH) (b o n : Nat) : Option (List Value) := rdO H B b o n (rdB B b o n)

theorem tk_spec : ∀ (l : List Value) (o n : Nat) (r : List Value), tk l o n = some r → r.length = n ∧ ∀ i v, r[i]? = some v → l[o + i]? = some v
  | _, 0, 0, r, h => by simp only [tk, Option.some.injEq] at h; subst h; simp
  | [], o + 1, n, r, h => by simp [tk] at h
  | [], 0, n + 1, r, h => by simp [tk] at h
  | v :: l, 0, n + 1, r, h => by
    simp only [tk] at h
    split at h
    · rename_i r' hr
      simp only [Option.some.injEq] at h
      subst h
      obtain ⟨h1, h2⟩ := tk_spec l 0 n r' hr
      refine ⟨by simp [h1], fun i u hi => ?_⟩
      cases i with
      | zero => simpa using hi
      | succ i => simpa [Nat.add_comm] using h2 i u (by simpa using hi)
    · cases h
  | _ :: l, o + 1, n, r, h => by
    simp only [tk] at h
    obtain ⟨h1, h2⟩ := tk_spec l o n r h
    exact ⟨h1, fun i u hi => by rw [show o + 1 + i = (o + i) + 1 by omega]; simpa using h2 i u hi⟩
theorem rof_spec (f : Nat → Option Value) : ∀ (n o : Nat) (r : List Value), rof f o n = some r → r.length = n ∧ ∀ i v, r[i]? = some v → f (o + i) = some v
  | 0, o, r, h => by simp only [rof, Option.some.injEq] at h; subst h; simp
  | n + 1, o, r, h => by
    simp only [rof] at h
    split at h
    · rename_i v r' hv hr
      simp only [Option.some.injEq] at h
      subst h
      obtain ⟨h1, h2⟩ := rof_spec f n (o + 1) r' hr
      refine ⟨by simp [h1], fun i u hi => ?_⟩
      cases i with
      | zero => simp at hi; subst hi; exact hv
      | succ i => rw [show o + (i + 1) = o + 1 + i by omega]; exact h2 i u (by simpa using hi)
    · cases h
theorem KB.rd_is {k : KB} {x : Option Obj} (h : k.is x) {o n : Nat} {r : List Value} (hr : k.rd o n = some r) :
    r.length = n ∧ (n = 0 ∨ ∃ arr e fr, x = some (.cells arr e fr) ∧ ∀ i v, r[i]? = some v → arr[o + i]? = some v) := by
  cases k with
  | cells cs m =>
    obtain ⟨arr, e, rfl, _, _, hc⟩ := h
    obtain ⟨h1, h2⟩ := tk_spec cs o n r hr
    exact ⟨h1, .inr ⟨arr, e, _, rfl, fun i v hi => hc _ _ (h2 i v hi)⟩⟩
  | ro f =>
    obtain ⟨arr, e, fr, rfl, hc⟩ := h
    obtain ⟨h1, h2⟩ := rof_spec f n o r hr
    exact ⟨h1, .inr ⟨arr, e, fr, rfl, fun i v hi => hc _ _ (h2 i v hi)⟩⟩
  | map es c => simp [KB.rd] at hr

theorem rdH_spec {H : HL} {B : OH} (hk : Knows w0 (den H B) w) {b o n : Nat} {r : List Value} (hr : rdH H B b o n = some r) :
    r.length = n ∧ ∀ i v, r[i]? = some v → w.cell? ⟨b, o + i, none⟩ = some v := by
  have key : ∃ k, den H B b = some k ∧ k.rd o n = some r := by
    unfold rdH at hr
    unfold den
    cases hB : B b with
    | some k =>
      simp only [rdB, hB] at hr
      cases hx : k.rd o n with
      | some r' => rw [hx] at hr; exact ⟨k, rfl, by rw [hx]; exact hr⟩
      | none => rw [hx] at hr; simp [rdO, rdN, hB] at hr
    | none =>
      simp only [rdB, hB, rdO, rdN] at hr
      cases hl : lk H b with
      | some k => rw [hl] at hr; exact ⟨k, rfl, hr⟩
      | none => rw [hl] at hr; simp [rdL] at hr
  obtain ⟨k, hd, hrd⟩ := key
  obtain ⟨_, his⟩ := hk.own b k hd
  obtain ⟨h1, h2⟩ := KB.rd_is his hrd
  refine ⟨h1, fun i v hi => ?_⟩
  rcases h2 with h2 | ⟨arr, e, fr, hx, hc⟩
  · subst h2
    have : r = [] := List.length_eq_zero_iff.1 h1
    subst this; simp at hi
  · simp only [World.cell?, hx]
    simpa using hc i v hi
end Go.Proofs.Ytffmiglkkfcpmaa.K
namespace Go.Proofs.Ytffmiglkkfcpmaa.K

abbrev St := Nat → Nat
def sh (N : St) : St := fun i => N (i + 1)

inductive Leaf where
  | int | bool | str
  deriving DecidableEq

/-- An operation, with what its types say. -/
inductive LO where
  | mv (x : Operand)
  | pick (c a b : Operand)
  | alloc (z : List Value)
  | box (x : Operand)
  | build (z : List Value) (ps : List (Nat × Nat × Operand))
  | buildS (z : List Value) (len : Nat) (ps : List (Nat × Nat × Operand))
  | load (g : Bool) (n : Nat) (x : Operand)
  | store (n : Nat) (a x : Operand)
  | nilck (x : Operand)
  | bin (op : BinOp) (x y : Operand)
  | eqb (neg : Bool) (x y : Operand)
  | eqA (neg : Bool) (ls : List Leaf) (x y : Operand)
  | eqp (neg : Bool) (x y : Operand)
  | un (op : UnOp) (x : Operand)
  | conv (k : IntKind) (x : Operand)
  | field (g : Bool) (off n : Nat) (x : Operand)
  | idxA (g : Bool) (es len : Nat) (x i : Operand)
  | faddr (off : Nat) (x : Operand)
  | iaddrS (es : Nat) (x i : Operand)
  | iaddrA (es len : Nat) (x i : Operand)
  | slc (es : Nat) (x : Operand) (lo hi mx : Option Operand)
  | ext (x : Operand) (i : Nat)
  | mks (z : List Value) (bytes : Nat) (len cap : Operand)
  | len (str : Bool) (x : Operand)
  | mm (mx : Bool) (xs : List Operand)
  | app (z : List Value) (bytes : Nat) (s x : Operand)
  | call (f : Operand) (args : List Operand)
  | ifc (t : TypeId) (x : Operand)
  | fn (f : Fn) (first cap : List Operand)
  | bad

structure LOp where
  dst : Option Tmp
  op : LO
  g : Option (Tmp × Bool)

structure DOp where
  op : LOp
  watch : List LOp

inductive LC where
  | skip
  | ops (l : List LOp)
  | draw (l : List DOp)
  | seq (a b : LC)
  | cond (c : Operand) (a b : LC)
  | block (id : Nat) (b : LC)
  | loop (b : LC)
  | exit (id : Nat)
  | ret
  | bad

/-! ### From the program's operations -/
def zeroOf (P : Program) (e : TypeId) : Option (List Value) := ((P.info? e).bind (·.zero)).map (·.cells.toList)
def aggB (P : Program) (t : TypeId) : Option Bool :=
  match P.underlying t with
  | some (.struct _) | some (.array _ _) => some true
  | some _ => some false
  | none => none
def sizeO (P : Program) (t : TypeId) : Option Nat := (P.info? t).map (·.size)
mutual
def leaves (P : Program) : Nat → TypeId → Option (List Leaf)
  | 0, _ => none
  | d + 1, t =>
    match P.underlying t with
    | some .bool => some [.bool]
    | some (.int _) => some [.int]
    | some .string => some [.str]
    | some (.struct fs) => if P.stoodInHeld t then none else leavesF P d fs.toList 0
    | some (.array n e) => match leaves P d e with | some l => if sizeO P e = some l.length then some ((List.replicate n l).flatten) else none | none => none
    | _ => none
def leavesF (P : Program) : Nat → List Field → Nat → Option (List Leaf)
  | _, [], _ => some []
  | 0, _ :: _, _ => none
  | d + 1, f :: r, o =>
    match leaves P d f.type with
    | some l => if f.offset = o ∧ sizeO P f.type = some l.length ∧ f.name ≠ "_" then (match leavesF P d r (o + l.length) with | some m => some (l ++ m) | none => none) else none
    | none => none
end

def lowerBin (P : Program) (op : BinOp) (t : TypeId) (x y : Operand) : LO :=
  match op with
  | .eql | .neq =>
    let neg := match op with | .neq => true | _ => false
    match P.underlying t with
    | some (.int _) | some .string => .bin op x y
    | some .bool => .eqb neg x y
    | some (.pointer _) => .eqp neg x y
    | some (.struct _) | some (.array _ _) =>
      if P.eqGuardType P.depth t then .bad else
      (match leaves P 20 t with | some ls => .eqA neg ls x y | none => .bad)
    | _ => .bad
  | _ => .bin op x y

def lowerOp (P : Program) (o : Oper) : LO :=
  match o.op with
  | .move x | .assign x => .mv x
  | .pick c a b => .pick c a b
  | .alloc e => match zeroOf P e with | some z => .alloc z | none => .bad
  | .box _ x => .box x
  | .build t ps =>
    match P.underlying t, zeroOf P t with
    | some (.struct fs), some z =>
      match ps.toList.mapM (fun (i, x) => (fs[i]?).bind fun f => (sizeO P f.type).map fun s => (f.offset, s, x)) with
      | some l => if fs.all (fun f => (sizeO P f.type).isSome) then .build z l else .bad
      | none => .bad
    | some (.array _ e), some z => match sizeO P e with | some s => .build z (ps.toList.map fun (i, x) => (i * s, s, x)) | none => .bad
    | _, _ => .bad
  | .buildSlice t len ps =>
    match P.underlying t with
    | some (.slice e) =>
      match sizeO P e, zeroOf P e with
      | some s, some z => if 0 < s ∧ z.length = s ∧ len * s ≤ 2 ^ 24 then .buildS ((List.replicate len z).flatten) len (ps.toList.map fun (i, x) => (i * s, s, x)) else .bad
      | _, _ => .bad
    | _ => .bad
  | .load t x => match aggB P t, sizeO P t with | some g, some n => .load g (bif g then n else 1) x | _, _ => .bad
  | .store t a x => match sizeO P t with | some n => .store n a x | none => .bad
  | .nilCheck x => .nilck x
  | .binOp op t x y _ => lowerBin P op t x y
  | .unOp op _ x => .un op x
  | .convert a b x => match P.underlying a, P.underlying b with | some (.int _), some (.int k) => .conv k x | _, _ => .bad
  | .field t x i =>
    match P.underlying t with
    | some (.struct fs) => match fs[i]? with
      | some f => match aggB P f.type, sizeO P f.type with | some g, some n => .field g f.offset (bif g then n else 1) x | _, _ => .bad
      | none => .bad
    | _ => .bad
  | .index t x i =>
    match P.underlying t with
    | some (.array len e) => match aggB P e, sizeO P e with | some g, some n => .idxA g n len x i | _, _ => .bad
    | _ => .bad
  | .fieldAddr t x i =>
    match P.underlying t with
    | some (.struct fs) => match fs[i]? with
      | some f => match sizeO P f.type with | some (n + 1) => .faddr f.offset x | _ => .bad
      | none => .bad
    | _ => .bad
  | .indexAddr t x i =>
    match P.underlying t with
    | some (.slice e) => match sizeO P e with | some s => .iaddrS s x i | none => .bad
    | some (.array len e) => match sizeO P e with | some s => .iaddrA s len x i | none => .bad
    | _ => .bad
  | .extract x i => .ext x i
  | .makeInterface t x => match P.underlying t with | some (.interface _) => .bad | some _ => .ifc t x | none => .bad
  | .makeFunc f a b => .fn f a.toList b.toList
  | .call c =>
    match c.callee with
    | .value f => .call f c.args.toList
    | .builtin .len =>
      match (c.argTypes[0]?).bind P.underlying, c.args.toList with
      | some (.slice _), [x] => .len false x
      | some .string, [x] => .len true x
      | _, _ => .bad
    | .builtin .max => .mm true c.args.toList
    | .builtin .min => .mm false c.args.toList
    | _ => .bad
  | _ => .bad

def guardOf (ops : List Oper) (g : Option (Nat × Bool)) : Option (Option (Tmp × Bool)) :=
  match g with
  | none => some none
  | some (j, b) => match (ops[j]?).bind (·.dst) with | some d => some (some (d, b)) | none => none
def lowerOps (P : Program) (all : List Oper) : List Oper → Option (List LOp)
  | [] => some []
  | o :: l =>
    match guardOf all o.guard, lowerOps P all l with
    | some g, some r => some (⟨o.dst, lowerOp P o, g⟩ :: r)
    | _, _ => none
/-! ### What they do -/
def gt : List Value → Nat → Value
  | [], _ => undef
  | v :: _, 0 => v
  | _ :: l, n + 1 => gt l n
def st : List Value → Nat → Value → List Value
  | [], _, _ => []
  | _ :: l, 0, v => v :: l
  | x :: l, n + 1, v => x :: st l n v
def ev (t : List Value) : Operand → Value
  | .tmp i => gt t i
  | .const v => v
  | .global g => .pointer (some ⟨g, 0, none⟩)
  | .func f => .func (.func f) #[] #[]
def evs (t : List Value) : List Operand → List Value
  | [] => []
  | x :: l => ev t x :: evs t l

def arith (op : BinOp) (k : IntKind) (a b : Int) : Option Value :=
  match op with
  | .add => some (.int k (k.wrap (a + b)))
  | .sub => some (.int k (k.wrap (a - b)))
  | .mul => some (.int k (k.wrap (a * b)))
  | .quo => if b = 0 then none else some (.int k (k.wrap (a.tdiv b)))
  | .rem => if b = 0 then none else some (.int k (a.tmod b))
  | .and => some (.int k (k.wrap (BitVec.ofInt k.bits a &&& BitVec.ofInt k.bits b).toNat))
  | .or => some (.int k (k.wrap (BitVec.ofInt k.bits a ||| BitVec.ofInt k.bits b).toNat))
  | .xor => some (.int k (k.wrap (BitVec.ofInt k.bits a ^^^ BitVec.ofInt k.bits b).toNat))
  | .andNot => some (.int k (k.wrap (BitVec.ofInt k.bits a &&& ~~~ BitVec.ofInt k.bits b).toNat))
  | .shl => if b < 0 then none else some (.int k (k.wrap (a * 2 ^ min b.toNat k.bits)))
  | .shr => if b < 0 then none else some (.int k (a.fdiv (2 ^ min b.toNat k.bits)))
  | .eql => some (.bool (a == b))
  | .neq => some (.bool (a != b))
  | .lss => some (.bool (decide (a < b)))
  | .leq => some (.bool (decide (a ≤ b)))
  | .gtr => some (.bool (decide (a > b)))
  | .geq => some (.bool (decide (a ≥ b)))
def isSh : BinOp → Bool | .shl | .shr => true | _ => false
def binV (op : BinOp) : Value → Value → Option Value
  | .int k a, .int k' b => bif isSh op || k == k' then arith op k a b else none
  | .string a, .string b => match op with
    | .eql => some (.bool (a.toList == b.toList))
    | .neq => some (.bool (!(a.toList == b.toList)))
    | _ => none
  | _, _ => none
def eqbV (neg : Bool) : Value → Value → Option Value
  | .bool a, .bool b => some (.bool (bif neg then !(a == b) else a == b))
  | _, _ => none
def leafEq : Leaf → Value → Value → Option Bool
  | .int, .int k a, .int k' b => if k = k' then some (a == b) else none
  | .bool, .bool a, .bool b => some (a == b)
  | .str, .string a, .string b => some (a.toList == b.toList)
  | _, _, _ => none
def andO : Option Bool → Option Bool → Option Bool
  | some a, some b => some (a && b)
  | _, _ => none
def eqL : List Leaf → List Value → List Value → Option Bool
  | [], [], [] => some true
  | a :: ls, x :: xs, y :: ys => andO (leafEq a x y) (eqL ls xs ys)
  | _, _, _ => none
def eqAV (neg : Bool) (ls : List Leaf) : Value → Value → Option Value
  | .agg xs, .agg ys => match eqL ls xs.toList ys.toList with | some r => some (.bool (bif neg then !r else r)) | none => none
  | _, _ => none
def eqpV (neg : Bool) : Value → Value → Option Value
  | .pointer a, .pointer none => some (.bool (bif neg then !a.isNone else a.isNone))
  | .pointer none, .pointer b => some (.bool (bif neg then !b.isNone else b.isNone))
  | _, _ => none
def unV : UnOp → Value → Option Value
  | .not, .bool b => some (.bool (!b))
  | .neg, .int k n => some (.int k (k.wrap (0 - n)))
  | _, _ => none
def convV (k : IntKind) : Value → Option Value
  | .int _ n => some (.int k (k.wrap n))
  | _ => none
def one : List Value → Option Value | [v] => some v | _ => none
def mkV (g : Bool) (r : Option (List Value)) : Option Value :=
  match r with | some l => (bif g then some (.agg l.toArray) else one l) | none => none
def fieldV (g : Bool) (off n : Nat) : Value → Option Value
  | .agg cs => mkV g (tk cs.toList off n)
  | _ => none
def idxAV (g : Bool) (es len : Nat) : Value → Value → Option Value
  | .agg cs, .int _ i => if 0 ≤ i ∧ i.toNat < len then mkV g (tk cs.toList (i.toNat * es) (bif g then es else 1)) else none
  | _, _ => none
def faddrV (off : Nat) : Value → Option Value
  | .pointer (some ⟨b, o, none⟩) => some (.pointer (some ⟨b, o + off, none⟩))
  | _ => none
def iaddrSV (es : Nat) : Value → Value → Option Value
  | .slice (some ⟨b, o, none⟩) n _, .int _ i => if 0 ≤ i ∧ i.toNat < n then some (.pointer (some ⟨b, o + i.toNat * es, none⟩)) else none
  | _, _ => none
def iaddrAV (es len : Nat) : Value → Value → Option Value
  | .pointer (some ⟨b, o, none⟩), .int _ i => if 0 ≤ i ∧ i.toNat < len then some (.pointer (some ⟨b, o + i.toNat * es, none⟩)) else none
  | _, _ => none
def extV (i : Nat) : Value → Option Value
  | .tuple vs => vs[i]?
  | _ => none
def lenV : Bool → Value → Option Value
  | false, .slice _ n _ => some (.int .i64 n)
  | true, .string s => some (.int .i64 s.size)
  | _, _ => none
def mm2 (mx : Bool) : Value → Value → Option Value
  | .int k x, .int _ y => some (.int k (bif mx then (if y > x then y else x) else (if y < x then y else x)))
  | _, _ => none
def mmV (mx : Bool) : List Value → Option Value
  | [x, y] => mm2 mx x y
  | _ => none
def pickV : Value → Value → Value → Option Value
  | .bool true, a, _ => some a
  | .bool false, _, b => some b
  | _, _, _ => none
def wr : List Value → Nat → List Value → Option (List Value)
  | l, 0, [] => some l
  | [], _, _ => none
  | _ :: l, 0, v :: vs => tkC v (wr l 0 vs)
  | x :: l, o + 1, vs => tkC x (wr l o vs)
def fillV (t : List Value) : List (Nat × Nat × Operand) → Option (List Value) → Option (List Value)
  | [], r => r
  | _, none => none
  | (o, n, x) :: ps, some z => fillV t ps (if (ev t x).cells.size = n then wr z o (ev t x).cells.toList else none)

abbrev Res := Option (Value × HL × St)
def pv (v : Option Value) (H : HL) (N : St) : Res := match v with | some v => some (v, H, N) | none => none
def newB (H : HL) (N : St) (cs : List Value) (mk : Nat → Value) : Res := some (mk (N 0), (N 0, .cells cs cs.length) :: H, sh N)
def ptrTo (r : Nat) : Value := .pointer (some ⟨r, 0, none⟩)
def loadV (g : Bool) (n : Nat) (H : HL) (B : OH) : Value → Option Value
  | .pointer (some ⟨b, o, none⟩) => mkV g (rdH H B b o n)
  | _ => none
def wrC (x n : Nat) (H : HL) : Option (List Value) → Option HL
  | some cs => some ((x, .cells cs n) :: H)
  | none => none
def wrK (x : Nat) (H : HL) (o : Nat) (vs : List Value) : KB → Option HL
  | .cells cs n => wrC x n H (wr cs o vs)
  | _ => none
def consH (x : Nat × KB) : Option HL → Option HL
  | some H => some (x :: H)
  | none => none
def wrH : HL → Nat → Nat → List Value → Option HL
  | [], _, _, _ => none
  | (x, k) :: H, r, o, vs => bif r == x then wrK x H o vs k else consH (x, k) (wrH H r o vs)
def all1 : List Value → Bool
  | [] => true
  | .agg _ :: _ => false
  | .tuple _ :: _ => false
  | _ :: l => all1 l
def wrB (H : HL) (b o : Nat) (vs : List Value) : Option KB → Option HL
  | some _ => none
  | none => wrH H b o vs
def unitR (N : St) : Option HL → Res
  | some H => some (undef, H, N)
  | none => none
def storeV (n : Nat) (B : OH) (H : HL) (N : St) : Value → Value → Res
  | .pointer (some ⟨b, o, none⟩), v => if v.cells.size = n ∧ all1 v.cells.toList = true then unitR N (wrB H b o v.cells.toList (B b)) else none
  | _, _ => none
def nilckV : Value → Option Value
  | .pointer (some a) => some (.pointer (some a))
  | .slice a n c => some (.slice a n c)
  | .func (.func f) a b => some (.func (.func f) a b)
  | _ => none
def buildSV (H : HL) (N : St) (len : Nat) : Option (List Value) → Res
  | some cs => some (.slice (some ⟨N 0, 0, none⟩) len len, (N 0, .cells cs cs.length) :: H, sh N)
  | none => none
abbrev Cs := List Value → HL → St → Res
def callV (G : Nat → Cs) (H : HL) (N : St) : Value → List Value → Res
  | .func (.func k) first cap, args => G k (first.toList ++ args ++ cap.toList) H N
  | _, _ => none

structure S where
  t : List Value
  H : HL
  N : St

def stepOp (B : OH) (G : Nat → Cs) (s : S) : LO → Res
  | .mv x => pv (some (ev s.t x)) s.H s.N
  | .pick c a b => pv (pickV (ev s.t c) (ev s.t a) (ev s.t b)) s.H s.N
  | .alloc z => newB s.H s.N z ptrTo
  | .box x => newB s.H s.N (ev s.t x).cells.toList ptrTo
  | .build z ps => pv (mkV true (fillV s.t ps (some z))) s.H s.N
  | .buildS z len ps => buildSV s.H s.N len (fillV s.t ps (some z))
  | .load g n x => pv (loadV g n s.H B (ev s.t x)) s.H s.N
  | .store n a x => storeV n B s.H s.N (ev s.t a) (ev s.t x)
  | .nilck x => pv (nilckV (ev s.t x)) s.H s.N
  | .bin op x y => pv (binV op (ev s.t x) (ev s.t y)) s.H s.N
  | .eqb neg x y => pv (eqbV neg (ev s.t x) (ev s.t y)) s.H s.N
  | .eqA neg ls x y => pv (eqAV neg ls (ev s.t x) (ev s.t y)) s.H s.N
  | .eqp neg x y => pv (eqpV neg (ev s.t x) (ev s.t y)) s.H s.N
  | .un op x => pv (unV op (ev s.t x)) s.H s.N
  | .conv k x => pv (convV k (ev s.t x)) s.H s.N
  | .field g off n x => pv (fieldV g off n (ev s.t x)) s.H s.N
  | .idxA g es len x i => pv (idxAV g es len (ev s.t x) (ev s.t i)) s.H s.N
  | .faddr off x => pv (faddrV off (ev s.t x)) s.H s.N
  | .iaddrS es x i => pv (iaddrSV es (ev s.t x) (ev s.t i)) s.H s.N
  | .iaddrA es len x i => pv (iaddrAV es len (ev s.t x) (ev s.t i)) s.H s.N
  | .ext x i => pv (extV i (ev s.t x)) s.H s.N
  | .len str x => pv (lenV str (ev s.t x)) s.H s.N
  | .mm mx xs => pv (mmV mx (evs s.t xs)) s.H s.N
  | .call f args => callV G s.H s.N (ev s.t f) (evs s.t args)
  | .ifc t x => pv (some (.iface t (ev s.t x))) s.H s.N
  | .fn f a b => pv (some (.func f (evs s.t a).toArray (evs s.t b).toArray)) s.H s.N
  | _ => none

def isB : Value → Bool → Bool
  | .bool c, b => c == b
  | _, _ => false
def wantG (t : List Value) : Option (Tmp × Bool) → Bool
  | none => true
  | some (j, b) => isB (gt t j) b
def putT (t : List Value) : Option Tmp → Value → List Value
  | some d, v => st t d v
  | none, _ => t
def putS (t : List Value) (d : Option Tmp) : Res → Option S
  | some (v, H, N) => some ⟨putT t d v, H, N⟩
  | none => none
def stepS (B : OH) (G : Nat → Cs) : LOp → S → Option S
  | ⟨d, op, g⟩, s => putS s.t d (bif wantG s.t g then stepOp B G s op else some (undef, s.H, s.N))
def exOps (B : OH) (G : Nat → Cs) : List LOp → Option S → Option S
  | _, none => none
  | [], some s => some s
  | o :: l, some s => exOps B G l (stepS B G o s)

def oT : Operand → List Tmp
  | .tmp i => [i]
  | _ => []
def oTs : List Operand → List Tmp
  | [] => []
  | x :: l => oT x ++ oTs l
def pTs : List (Nat × Nat × Operand) → List Tmp
  | [] => []
  | (_, _, x) :: l => oT x ++ pTs l
def gT : Option (Tmp × Bool) → List Tmp
  | none => []
  | some (j, _) => [j]
def qT : Option Operand → List Tmp
  | none => []
  | some x => oT x
/-- What an operation reads. -/
def LO.tmps : LO → List Tmp
  | .mv x | .box x | .load _ _ x | .nilck x | .un _ x | .conv _ x | .field _ _ _ x | .faddr _ x | .ext x _ | .len _ x | .ifc _ x => oT x
  | .pick c a b => oT c ++ (oT a ++ oT b)
  | .build _ ps | .buildS _ _ ps => pTs ps
  | .store _ a x | .bin _ a x | .eqb _ a x | .eqA _ _ a x | .eqp _ a x | .idxA _ _ _ a x | .iaddrS _ a x | .iaddrA _ _ a x | .mks _ _ a x | .app _ _ a x => oT a ++ oT x
  | .slc _ x lo hi mx => oT x ++ (qT lo ++ (qT hi ++ qT mx))
  | .mm _ xs => oTs xs
  | .call f args => oT f ++ oTs args
  | .fn _ a b => oTs a ++ oTs b
  | .alloc _ | .bad => []
def LOp.tmps (o : LOp) : List Tmp := o.op.tmps ++ gT o.g
/-- Operations that change nothing: what they answer. -/
def isLight : LO → Bool
  | .mv _ | .pick .. | .build .. | .load .. | .nilck _ | .bin .. | .eqb .. | .eqA .. | .eqp .. | .un .. | .conv .. | .field .. | .idxA .. | .faddr .. | .iaddrS .. | .iaddrA .. | .ext .. | .len .. | .mm .. | .ifc .. | .fn .. => true
  | _ => false
def isRead : LO → Bool
  | .load .. => true
  | _ => false
/-- The reads that may come later than an operation though they are done before it here. -/
def watchesOf (ll : List LOp) (hv : Nat → Bool) (A : Nat → Nat → Bool) (h : Nat) : List Nat → List LOp
  | [] => []
  | r :: l => match ll[r]? with
    | some o => if hv r = false ∧ isRead o.op = true ∧ A h r = false then o :: watchesOf ll hv A h l else watchesOf ll hv A h l
    | none => watchesOf ll hv A h l
def mkDs (ll : List LOp) (hv : Nat → Bool) (A : Nat → Nat → Bool) : List Nat → List Nat → List DOp
  | _, [] => []
  | done, i :: rest => ⟨(match ll[i]? with | some o => o | none => ⟨none, .bad, none⟩), if hv i = true then watchesOf ll hv A i done else []⟩ :: mkDs ll hv A (done ++ [i]) rest
def predsOf (ops : List Oper) (i : Nat) : List Nat := match ops[i]? with | some o => (o.after.toList.filter (Region.binds .any)).map (·.on) | none => []
/-! ### The order in which a region that draws its order is done here, and what is checked of it -/
def masksOf (ops : List Oper) : Nat → List Nat → List Nat
  | 0, acc => acc
  | n + 1, acc => masksOf ops n (acc ++ [(predsOf ops acc.length).foldl (fun s e => s ||| 2 ^ e ||| acc.getD e 0) 0])
def ancB (n : Nat) (ms : List Nat) (i j : Nat) : Bool := decide (i < n) && decide (j < n) && (ms.getD i 0).testBit j
def heavyB (ops : List Oper) (ll : List LOp) (i : Nat) : Bool :=
  match ll[i]? with
  | some o => !(isLight o.op) || (match o.dst with
    | some d => (List.range ll.length).any fun k => match ll[k]? with | some q => q.tmps.contains d && !((predsOf ops k).contains i) | none => false
    | none => true)
  | none => true
def pickOf (ops : List Oper) (hs : List Bool) (done : List Nat) (heavy : Bool) (n : Nat) : Option Nat :=
  (List.range n).find? fun i => !done.contains i && (hs.getD i true == heavy) && (predsOf ops i).all done.contains
def orderOf (ops : List Oper) (hs : List Bool) : Nat → List Nat → List Nat
  | 0, done => done
  | n + 1, done => match pickOf ops hs done false ops.length with
    | some i => orderOf ops hs n (done ++ [i])
    | none => match pickOf ops hs done true ops.length with
      | some i => orderOf ops hs n (done ++ [i])
      | none => done
def topoB (ops : List Oper) : List Nat → List Nat → Bool
  | _, [] => true
  | done, i :: r => !done.contains i && (predsOf ops i).all done.contains && topoB ops (done ++ [i]) r
def afterB (A : Nat → Nat → Bool) (hv : Nat → Bool) : List Nat → Bool
  | [] => true
  | h :: v => (!hv h || v.all (A · h)) && afterB A hv v
def fitsB (ops : List Oper) (ll : List LOp) (A : Nat → Nat → Bool) (hv : Nat → Bool) (c : List Nat) : Bool :=
  let R := List.range ops.length
  R.all c.contains && c.all (decide <| · < ops.length) && topoB ops [] c && afterB A hv c &&
  R.all (fun i => R.all fun j => !A i j || (predsOf ops i).any fun e => e == j || (decide (e < i) && A e j)) &&
  R.all (fun i => match ll[i]? with
    | some o => (hv i || (isLight o.op && o.dst.isSome)) && R.all (fun j => match ll[j]? with
      | some o' => match o'.dst with
        | some x => (!o.tmps.contains x || (if hv i then j == i || (predsOf ops i).contains j || hv j || A j i else j != i && ((predsOf ops i).contains j || (hv j && (A i j || A j i))))) &&
          (o.dst != some x || i == j)
        | none => true
      | none => true)
    | none => true)
def lowerDraw (P : Program) (ops : List Oper) : Option (List DOp) :=
  match lowerOps P ops ops with
  | none => none
  | some ll =>
    let ms := masksOf ops ops.length []
    let hs := (List.range ops.length).map (heavyB ops ll)
    let c := orderOf ops hs ops.length []
    if fitsB ops ll (ancB ops.length ms) (fun i => hs.getD i true) c = true then some (mkDs ll (fun i => hs.getD i true) (ancB ops.length ms) [] c) else none

def lower (P : Program) : Code → LC
  | .skip => .skip
  | .region _ ops false => match lowerOps P ops.toList ops.toList with | some l => .ops l | none => .bad
  | .region _ ops true => match lowerDraw P ops.toList with | some l => .draw l | none => .bad
  | .seq a b => .seq (lower P a) (lower P b)
  | .cond c a b => .cond c (lower P a) (lower P b)
  | .block id b => .block id (lower P b)
  | .loop b => .loop (lower P b)
  | .exit id => .exit id
  | .ret => .ret
  | _ => .bad

def lightV (B : OH) (t : List Value) (H : HL) : LO → Option Value
  | .mv x => some (ev t x)
  | .pick c a b => pickV (ev t c) (ev t a) (ev t b)
  | .build z ps => mkV true (fillV t ps (some z))
  | .load g n x => loadV g n H B (ev t x)
  | .nilck x => nilckV (ev t x)
  | .bin op x y => binV op (ev t x) (ev t y)
  | .eqb neg x y => eqbV neg (ev t x) (ev t y)
  | .eqA neg ls x y => eqAV neg ls (ev t x) (ev t y)
  | .eqp neg x y => eqpV neg (ev t x) (ev t y)
  | .un op x => unV op (ev t x)
  | .conv k x => convV k (ev t x)
  | .field g off n x => fieldV g off n (ev t x)
  | .idxA g es len x i => idxAV g es len (ev t x) (ev t i)
  | .faddr off x => faddrV off (ev t x)
  | .iaddrS es x i => iaddrSV es (ev t x) (ev t i)
  | .iaddrA es len x i => iaddrAV es len (ev t x) (ev t i)
  | .ext x i => extV i (ev t x)
  | .len str x => lenV str (ev t x)
  | .mm mx xs => mmV mx (evs t xs)
  | .ifc ty x => some (.iface ty (ev t x))
  | .fn f a b => some (.func f (evs t a).toArray (evs t b).toArray)
  | _ => none
open Classical in
noncomputable def eqS (a b : Option Value) (s : S) : Option S := if a = b then some s else none
/-- What was read before, and may be read later: it must be the same still. -/
noncomputable def watchS (B : OH) : List LOp → Option S → Option S
  | _, none => none
  | [], some s => some s
  | ⟨none, _, _⟩ :: _, some _ => none
  | ⟨some d, op, g⟩ :: l, some s => watchS B l (bif wantG s.t g then (eqS (lightV B s.t s.H op) (some (gt s.t d)) s) else some s)
noncomputable def exDraw (B : OH) (G : Nat → Cs) : List DOp → Option S → Option S
  | _, none => none
  | [], some s => some s
  | o :: l, some s => exDraw B G l (watchS B o.watch (stepS B G o.op s))

inductive X where
  | normal | ret
  | exit (id : Nat)
abbrev Out := Option (X × S)
def oOut : Option S → Out
  | some s => some (.normal, s)
  | none => none
def seqO (k : S → Out) : Out → Out
  | some (.normal, s) => k s
  | some (.ret, s) => some (.ret, s)
  | some (.exit i, s) => some (.exit i, s)
  | none => none
def blkO (id : Nat) : Out → Out
  | some (.exit i, s) => if i = id then some (.normal, s) else some (.exit i, s)
  | some (.normal, s) => some (.normal, s)
  | some (.ret, s) => some (.ret, s)
  | none => none
def condO (v : Value) (a b : S → Out) (s : S) : Out :=
  match v with
  | .bool c => if c = true then a s else b s
  | _ => none
noncomputable def exec (B : OH) (G : Nat → Cs) : Nat → LC → S → Out
  | 0, _, _ => none
  | _ + 1, .skip, s => some (.normal, s)
  | _ + 1, .ops l, s => oOut (exOps B G l (some s))
  | _ + 1, .draw l, s => oOut (exDraw B G l (some s))
  | n + 1, .seq a b, s => seqO (exec B G n b) (exec B G n a s)
  | n + 1, .cond c a b, s => condO (ev s.t c) (exec B G n a) (exec B G n b) s
  | n + 1, .block id b, s => blkO id (exec B G n b s)
  | n + 1, .loop b, s => seqO (exec B G n (.loop b)) (exec B G n b s)
  | _ + 1, .exit id, s => some (.exit id, s)
  | _ + 1, .ret, s => some (.ret, s)
  | _ + 1, .bad, _ => none

/-! ### A function, whole -/
inductive LR where
  | tmp (t : Tmp)
  | cell (a : Tmp) (g : Bool) (n : Nat)
  | bad
def lowerRes (P : Program) : ResultVar → LR
  | .tmp t => .tmp t
  | .cell a ty => match aggB P ty, sizeO P ty with | some g, some n => .cell a g (bif g then n else 1) | _, _ => .bad
structure FnL where
  code : LC
  ntmps : Nat
  res : List LR
def lowerFn (P : Program) (f : Func) : Option FnL := f.body.map fun c => ⟨lower P c, f.ntmps, f.results.toList.map (lowerRes P)⟩
def res1 (B : OH) (s : S) : LR → Option Value
  | .tmp t => some (gt s.t t)
  | .cell a g n => loadV g n s.H B (gt s.t a)
  | .bad => none
def consO : Option Value → Option (List Value) → Option (List Value)
  | some v, some l => some (v :: l)
  | _, _ => none
def ress (B : OH) (s : S) : List LR → Option (List Value)
  | [] => some []
  | r :: l => consO (res1 B s r) (ress B s l)
def retV : List Value → Value
  | [v] => v
  | l => .tuple l.toArray
def retR (s : S) : Option (List Value) → Res
  | some l => some (retV l, s.H, s.N)
  | none => none
def finO (B : OH) (rs : List LR) : Out → Res
  | some (.normal, s) => retR s (ress B s rs)
  | some (.ret, s) => retR s (ress B s rs)
  | _ => none
def pad : List Value → Nat → List Value
  | l, 0 => l
  | [], n + 1 => undef :: pad [] n
  | v :: l, n + 1 => v :: pad l n
noncomputable def callF (B : OH) (G : Nat → Cs) (n : Nat) (f : FnL) : Cs := fun args H N => finO B f.res (exec B G n f.code ⟨pad args f.ntmps, H, N⟩)
end Go.Proofs.Ytffmiglkkfcpmaa.K
namespace Go.Proofs.Ytffmiglkkfcpmaa.K
variable {P : Program} {w0 w : World} {B : OH} {H : HL} {t : List Value} {G : Nat → Cs}

def good (B : OH) (H : HL) (N : St) : Prop := (∀ i j, N i = N j → i = j) ∧ ∀ i, den H B (N i) = none

theorem good_of (hk : Knows w0 (den H B) w) : good B H (fun i => w.heap.size + i) :=
  ⟨fun i j h => by simp at h; exact h, fun i => by
    cases hd : den H B (w.heap.size + i) with
    | none => rfl
    | some k => have := (hk.own _ _ hd).1; omega⟩

theorem pv_elim (hk : Knows w0 (den H B) w) {x : Option Value} {Q : Res → Prop} (h0 : ¬ Q none) (h : ∀ N, good B H N → Q (pv x H N)) :
    ∃ v, x = some v ∧ ∀ N, good B H N → Q (some (v, H, N)) := by
  cases x with
  | none => exact (h0 (h _ (good_of hk))).elim
  | some v => exact ⟨v, rfl, h⟩

theorem res_elim (hk : Knows w0 (den H B) w) {f : St → Res} {Q : Res → Prop} (h0 : ¬ Q none) (h : ∀ N, good B H N → Q (f N)) :
    f (fun i => w.heap.size + i) ≠ none := fun e => h0 (e ▸ h _ (good_of hk))

def consN (r : Nat) (N : St) : St := fun i => match i with | 0 => r | i + 1 => N i
theorem sh_consN (r : Nat) (N : St) : sh (consN r N) = N := rfl
theorem den_cons {r : Nat} (hr : den H B r = none) (k : KB) (x : Nat) : den ((r, k) :: H) B x = if x = r then some k else den H B x := by
  unfold den at hr ⊢
  simp only [lk]
  by_cases h : x = r
  · subst h
    cases hB : B x with
    | some k' => simp [hB] at hr
    | none => simp
  · have : (x == r) = false := by simpa using h
    simp [h, this]
theorem den_fresh (hk : Knows w0 (den H B) w) : den H B w.heap.size = none := by
  cases hd : den H B w.heap.size with
  | none => rfl
  | some k => have := (hk.own _ _ hd).1; omega
theorem good_cons {r : Nat} {k : KB} {N : St} (hr : den H B r = none) (hN : good B ((r, k) :: H) N) : good B H (consN r N) := by
  have hne : ∀ i, N i ≠ r := fun i e => by have := hN.2 i; rw [e, den_cons hr] at this; simp at this
  have hd : ∀ i, den H B (N i) = none := fun i => by have := hN.2 i; rw [den_cons hr, if_neg (hne i)] at this; exact this
  refine ⟨fun i j h => ?_, fun i => ?_⟩
  · cases i with
    | zero => cases j with
      | zero => rfl
      | succ j => exact (hne j h.symm).elim
    | succ i => cases j with
      | zero => exact (hne i h).elim
      | succ j => rw [hN.1 i j h]
  · cases i with
    | zero => exact hr
    | succ i => exact hd i

/-- A new block. -/
theorem Knows.new (hk : Knows w0 (den H B) w) (cs : List Value) (e : TypeId) :
    Knows w0 (den ((w.heap.size, .cells cs cs.length) :: H) B) (w.alloc (.cells cs.toArray e)) := by
  refine ⟨hk.os, hk.tape, hk.output, by have := hk.size; simp; omega, fun b hb => ?_, fun r k hr => ?_, fun a ha => ?_, fun r hr => ?_⟩
  · show (w.heap.push _)[b]? = _
    rw [Array.getElem?_push, if_neg (by have := hk.size; omega)]; exact hk.old b hb
  · rw [den_cons (den_fresh hk)] at hr
    by_cases h : r = w.heap.size
    · subst h
      simp only [if_true, Option.some.injEq] at hr
      subst hr
      refine ⟨by simp, cs.toArray, e, ?_, by simp, Nat.le_refl _, fun i v hv => by simpa using hv⟩
      show (w.heap.push _)[w.heap.size]? = _
      simp
    · rw [if_neg h] at hr
      obtain ⟨h1, h2⟩ := hk.own r k hr
      refine ⟨by simp; omega, ?_⟩
      show k.is (w.heap.push _)[r]?
      rw [Array.getElem?_push, if_neg h]; exact h2
  · by_cases h : a.block = w.heap.size
    · cases a with
      | mk b o s => simp only at h; subst h; show (match (w.heap.push (Obj.cells cs.toArray e (0, 0)))[w.heap.size]? with | some (.cells _ _ (lo, hi)) => decide (lo ≤ o) && decide (o < hi) | _ => false) = false; simp
    · rw [World.frozen?_alloc_old _ _ _ h]; exact hk.fz a ha
  · by_cases h : r = w.heap.size
    · subst h; exact hk.size
    · refine hk.mine r ?_
      simpa [den_cons (den_fresh hk), h] using hr

theorem newB_elim {cs : List Value} {mk : Nat → Value} {Q : Res → Prop} (hk : Knows w0 (den H B) w) (h : ∀ N, good B H N → Q (newB H N cs mk)) (e : TypeId) :
    Knows w0 (den ((w.heap.size, .cells cs cs.length) :: H) B) (w.alloc (.cells cs.toArray e)) ∧
    ∀ N', good B ((w.heap.size, .cells cs cs.length) :: H) N' → Q (some (mk w.heap.size, (w.heap.size, .cells cs cs.length) :: H, N')) :=
  ⟨hk.new cs e, fun N' hN' => by have := h (consN w.heap.size N') (good_cons (den_fresh hk) hN'); simpa [newB, consN, sh_consN] using this⟩

def Does (P : Program) (ρ : Operand → Value) (o : Oper) (w : World) (v : Value) (w' : World) : Prop :=
  (execOp ρ o).run P w = .ok (.value v) w' ∨ ((execOp ρ o).run P w = .ok .skip w' ∧ v = undef)

/-- What an operation that is no call does, in the words of 'stepOp'. -/
def Sound (P : Program) (o : Oper) (lo : LO) : Prop :=
  ∀ (w0 w : World) (B : OH) (H : HL) (t : List Value) (G : Nat → Cs) (ρ : Operand → Value) (Q : Res → Prop), (∀ x, ρ x = ev t x) → Knows w0 (den H B) w → ¬ Q none →
    (∀ N, good B H N → Q (stepOp B G ⟨t, H, N⟩ lo)) →
    ∃ v w' H', Does P ρ o w v w' ∧ Knows w0 (den H' B) w' ∧ ∀ N', good B H' N' → Q (some (v, H', N'))

/-- An operation that only reckons. -/
theorem sound_pure {o : Oper} {lo : LO} (f : List Value → HL → OH → Option Value) (hs : ∀ (B : OH) (G : Nat → Cs) (s : S), stepOp B G s lo = pv (f s.t s.H B) s.H s.N)
    (hr : ∀ (w0 w : World) (B : OH) (H : HL) (t : List Value) (ρ : Operand → Value) (v : Value), (∀ x, ρ x = ev t x) → Knows w0 (den H B) w → f t H B = some v → Does P ρ o w v w) : Sound P o lo := by
  intro w0 w B H t G ρ Q hρ hk h0 h
  obtain ⟨v, hv, hQ⟩ := pv_elim (x := f t H B) hk h0 (fun N hN => by have := h N hN; rw [hs] at this; exact this)
  exact ⟨v, w, H, hr w0 w B H t ρ v hρ hk hv, hk, hQ⟩

theorem sound_mv {o : Oper} {x : Operand} (h : o.op = .move x ∨ o.op = .assign x) : Sound P o (.mv x) :=
  sound_pure (fun t _ _ => some (ev t x)) (fun _ _ _ => rfl) fun w0 w B H t ρ v hρ _ hv => by
    simp only [Option.some.injEq] at hv
    subst hv
    left
    rcases h with h | h <;> simp [execOp, h, hρ]
theorem sound_pick {o : Oper} {c a b : Operand} (h : o.op = .pick c a b) : Sound P o (.pick c a b) :=
  sound_pure (fun t _ _ => pickV (ev t c) (ev t a) (ev t b)) (fun _ _ _ => rfl) fun w0 w B H t ρ v hρ _ hv => by
    left
    simp only [execOp, h, hρ]
    unfold pickV at hv
    split at hv <;> simp_all [asBool]
theorem sound_alloc {o : Oper} {e : TypeId} {z : List Value} (h : o.op = .alloc e) (hz : zeroOf P e = some z) : Sound P o (.alloc z) := by
  intro w0 w B H t G ρ Q hρ hk h0 hQ
  obtain ⟨h1, h2⟩ := newB_elim (cs := z) (mk := ptrTo) hk hQ e
  refine ⟨ptrTo w.heap.size, w.alloc (.cells z.toArray e), _, .inl ?_, h1, h2⟩
  unfold zeroOf at hz
  cases hi : P.info? e with
  | none => simp [hi] at hz
  | some i =>
    cases hv : i.zero with
    | none => simp [hi, hv] at hz
    | some v =>
      simp only [hi, Option.bind_some, hv, Option.map_some, Option.some.injEq] at hz
      subst hz
      simp [execOp, h, Instr.alloc, zeroValue, typeInfo, hi, hv, newVar, newRow, ptrTo]
theorem sound_box {o : Oper} {e : TypeId} {x : Operand} (h : o.op = .box e x) : Sound P o (.box x) := by
  intro w0 w B H t G ρ Q hρ hk h0 hQ
  obtain ⟨h1, h2⟩ := newB_elim (cs := (ev t x).cells.toList) (mk := ptrTo) hk hQ e
  refine ⟨ptrTo w.heap.size, _, _, .inl ?_, h1, h2⟩
  simp [execOp, h, Instr.box, newVar, newRow, ptrTo, hρ]
end Go.Proofs.Ytffmiglkkfcpmaa.K
namespace Go.Proofs.Ytffmiglkkfcpmaa.K
variable {P : Program} {w0 w : World} {B : OH} {H : HL} {t : List Value} {G : Nat → Cs}

theorem info_of_underlying {t : TypeId} {d : TypeDesc} (h : P.underlying t = some d) : ∃ i, P.info? t = some i := by
  unfold Program.underlying at h
  cases hi : P.info? t with
  | none => simp [hi] at h
  | some i => exact ⟨i, rfl⟩
theorem run_underlying {t : TypeId} {d : TypeDesc} (h : P.underlying t = some d) (w : World) : (underlying t).run P w = .ok d w := by
  simp [underlying, h]
theorem run_sizeOf {t : TypeId} {n : Nat} (h : sizeO P t = some n) (w : World) : (sizeOf t).run P w = .ok n w := by
  unfold sizeO at h
  cases hi : P.info? t with
  | none => simp [hi] at h
  | some i => simp [hi] at h; subst h; simp [sizeOf, typeInfo, hi]
theorem run_zero {t : TypeId} {z : List Value} (h : zeroOf P t = some z) (w : World) : ∃ v, (zeroValue t).run P w = .ok v w ∧ v.cells.toList = z := by
  unfold zeroOf at h
  cases hi : P.info? t with
  | none => simp [hi] at h
  | some i =>
    cases hv : i.zero with
    | none => simp [hi, hv] at h
    | some v => simp [hi, hv] at h; exact ⟨v, by simp [zeroValue, typeInfo, hi, hv], h⟩
theorem run_isAgg {t : TypeId} {g : Bool} (h : aggB P t = some g) (w : World) : (isAgg t).run P w = .ok g w := by
  unfold aggB at h
  cases hd : P.underlying t with
  | none => simp [hd] at h
  | some d => cases d <;> simp [hd] at h <;> subst h <;> simp [isAgg, run_underlying hd]

theorem addr_add (b o n : Nat) : (Addr.add ⟨b, o, none⟩ n) = ⟨b, o + n, none⟩ := by
  unfold Addr.add; split
  · subst_vars; rfl
  · rfl

theorem run_loadVar {H : HL} {B : OH} (hk : Knows w0 (den H B) w) {ty : TypeId} {g : Bool} {n m b o : Nat} {v : Value} (hg : aggB P ty = some g) (hn : sizeO P ty = some n) (hm : m = bif g then n else 1)
    (hv : mkV g (rdH H B b o m) = some v) : (loadVar ty ⟨b, o, none⟩).run P w = .ok v w := by
  cases hr : rdH H B b o m with
  | none => simp [mkV, hr] at hv
  | some r =>
    obtain ⟨hl, hc⟩ := rdH_spec hk hr
    simp only [mkV, hr] at hv
    cases g with
    | true =>
      simp only [cond_true, Option.some.injEq] at hv hm
      subst hv hm
      simp only [loadVar, Sem.run_bind, run_isAgg hg, Result.andThen_ok, if_true, run_sizeOf hn]
      rw [show m = r.length from hl.symm, run_loadCells_list w ⟨b, o, none⟩ r (fun j v hj => by rw [addr_add]; exact hc j v hj)]
      simp
    | false =>
      simp only [cond_false] at hv hm
      subst hm
      unfold one at hv
      split at hv
      · rename_i u
        simp only [Option.some.injEq] at hv
        subst hv
        have := hc 0 u (by simp)
        simp only [loadVar, Sem.run_bind, run_isAgg hg, Result.andThen_ok, Bool.false_eq_true, if_false]
        rw [run_load]
        simp at this
        simp [this]
      · cases hv

theorem sound_load {o : Oper} {ty : TypeId} {x : Operand} {g : Bool} {n m : Nat} (h : o.op = .load ty x) (hg : aggB P ty = some g) (hn : sizeO P ty = some n) (hm : m = bif g then n else 1) : Sound P o (.load g m x) :=
  sound_pure (fun t H B => loadV g m H B (ev t x)) (fun _ _ _ => rfl) fun w0 w B H t ρ v hρ hk hv => by
    left
    unfold loadV at hv
    split at hv
    · rename_i b off he
      have hv' : mkV g (rdH H B b off m) = some v := hv
      simp only [execOp, h, hρ, he, Instr.loadAt, Instr.sureAddr]
      simp [run_loadVar hk hg hn hm hv']
    · cases hv

theorem wr_length : ∀ (l : List Value) (o : Nat) (vs r : List Value), wr l o vs = some r → r.length = l.length
  | l, 0, [], r, h => by simp [wr] at h; rw [h]
  | [], 0, _ :: _, r, h => by simp [wr] at h
  | [], _ + 1, _, r, h => by simp [wr] at h
  | _ :: l, 0, v :: vs, r, h => by
    simp only [wr, tkC] at h
    split at h
    · rename_i r' hr; simp only [Option.some.injEq] at h; subst h; simp [wr_length l 0 vs r' hr]
    · cases h
  | x :: l, o + 1, vs, r, h => by
    simp only [wr, tkC] at h
    split at h
    · rename_i r' hr; simp only [Option.some.injEq] at h; subst h; simp [wr_length l o vs r' hr]
    · cases h
/-- A cell of what was written. -/
theorem wr_get : ∀ (l : List Value) (o : Nat) (vs r : List Value), wr l o vs = some r → ∀ i, r[i]? = if o ≤ i ∧ i < o + vs.length then vs[i - o]? else l[i]?
  | l, 0, [], r, h, i => by simp [wr] at h; subst h; simp
  | [], 0, _ :: _, r, h, i => by simp [wr] at h
  | [], _ + 1, _, r, h, i => by simp [wr] at h
  | x :: l, 0, v :: vs, r, h, i => by
    simp only [wr, tkC] at h
    split at h
    · rename_i r' hr
      simp only [Option.some.injEq] at h
      subst h
      cases i with
      | zero => simp
      | succ i =>
        have := wr_get l 0 vs r' hr i
        simp only [List.getElem?_cons_succ, this, List.length_cons]
        simp
    · cases h
  | x :: l, o + 1, vs, r, h, i => by
    simp only [wr, tkC] at h
    split at h
    · rename_i r' hr
      simp only [Option.some.injEq] at h
      subst h
      cases i with
      | zero => simp
      | succ i =>
        have := wr_get l o vs r' hr i
        simp only [List.getElem?_cons_succ, this]
        by_cases hc : o ≤ i ∧ i < o + vs.length
        · rw [if_pos hc, if_pos (by omega)]; congr 1; omega
        · rw [if_neg hc, if_neg (by omega)]
    · cases h
theorem wr_fits : ∀ (l : List Value) (o : Nat) (vs r : List Value), wr l o vs = some r → o + vs.length ≤ l.length
  | l, 0, [], r, h => by simp
  | [], 0, _ :: _, r, h => by simp [wr] at h
  | [], _ + 1, _, r, h => by simp [wr] at h
  | x :: l, 0, v :: vs, r, h => by
    simp only [wr, tkC] at h
    split at h
    · rename_i r' hr
      have := wr_fits l 0 vs r' hr
      simp; omega
    · cases h
  | x :: l, o + 1, vs, r, h => by
    simp only [wr, tkC] at h
    split at h
    · rename_i r' hr
      have := wr_fits l o vs r' hr
      simp; omega
    · cases h

/-- The block that is written. -/
theorem wrH_spec : ∀ {H : HL} {b o : Nat} {vs : List Value} {H' : HL}, wrH H b o vs = some H' →
    ∃ cs n cs', lk H b = some (.cells cs n) ∧ wr cs o vs = some cs' ∧ ∀ x, lk H' x = if x = b then some (.cells cs' n) else lk H x
  | [], _, _, _, _, h => by simp [wrH] at h
  | (x, k) :: H, b, o, vs, H', h => by
    simp only [wrH] at h
    by_cases hb : b = x
    · subst hb
      simp only [beq_self_eq_true, cond_true, wrK] at h
      split at h
      · rename_i cs n
        simp only [wrC] at h
        split at h
        · rename_i cs' hw
          simp only [Option.some.injEq] at h
          subst h
          refine ⟨cs, n, cs', by simp [lk], hw, fun y => ?_⟩
          by_cases hy : y = b
          · subst hy; simp [lk]
          · have : (y == b) = false := by simpa using hy
            simp [lk, this, hy]
        · cases h
      · cases h
    · have hne : (b == x) = false := by simpa using hb
      simp only [hne, cond_false, consH] at h
      split at h
      · rename_i H1 hw
        simp only [Option.some.injEq] at h
        subst h
        obtain ⟨cs, n, cs', h1, h2, h3⟩ := wrH_spec hw
        refine ⟨cs, n, cs', by simp [lk, hne, h1], h2, fun y => ?_⟩
        by_cases hy : y = x
        · subst hy; simp [lk]; intro h; exact (hb h.symm).elim
        · have : (y == x) = false := by simpa using hy
          simp [lk, this, h3]
      · cases h

/-- Cells of one's own block, stored one by one. -/
theorem run_storeCells (P : Program) (b : Nat) : ∀ (vs : List Value) (i o : Nat) (w : World) (arr : Array Value) (e : TypeId), w.heap[b]? = some (.cells arr e (0, 0)) → o + i + vs.length ≤ arr.size → (∀ v ∈ vs, v.oneCell' = true) →
    ∃ w', (storeCells ⟨b, o, none⟩ vs i).run P w = .ok () w' ∧ w'.os = w.os ∧ w'.tape = w.tape ∧ w'.output = w.output ∧ w'.heap.size = w.heap.size ∧ (∀ x, x ≠ b → w'.heap[x]? = w.heap[x]?) ∧
      ∃ arr', w'.heap[b]? = some (.cells arr' e (0, 0)) ∧ arr'.size = arr.size ∧ ∀ j, arr'[j]? = if o + i ≤ j ∧ j < o + i + vs.length then vs[j - (o + i)]? else arr[j]?
  | [], i, o, w, arr, e, hb, hl, _ => ⟨w, by simp [storeCells], rfl, rfl, rfl, rfl, fun _ _ => rfl, arr, hb, rfl, fun j => by rw [if_neg (by simp)]⟩
  | v :: vs, i, o, w, arr, e, hb, hl, hone => by
    simp only [List.length_cons] at hl
    have hlt : o + i < arr.size := by omega
    have hc : w.cell? ⟨b, o + i, none⟩ = some arr[o + i] := by simp [World.cell?, hb, hlt]
    have hf : w.frozen? ⟨b, o + i, none⟩ = false := by simp [World.frozen?, hb]
    have hb1 : (w.setCell ⟨b, o + i, none⟩ v).heap[b]? = some (.cells (arr.setIfInBounds (o + i) v) e (0, 0)) := by
      simp only [World.setCell, Array.getElem?_modify, if_true, hb, Option.map_some]
      rfl
    obtain ⟨w', h1, h2, h3, h4, h5, h6, arr', h7, h8, h9⟩ := run_storeCells P b vs (i + 1) o (w.setCell ⟨b, o + i, none⟩ v) _ e hb1 (by simp; omega) (fun u hu => hone u (List.mem_cons_of_mem _ hu))
    refine ⟨w', ?_, h2, h3, h4, by rw [h5]; simp, fun x hx => ?_, arr', h7, by rw [h8]; simp, fun j => ?_⟩
    · simp only [storeCells, Sem.run_bind, addr_add]
      rw [run_store P w _ v .plain (hone v List.mem_cons_self)]
      simp [hc, hf, h1]
    · rw [h6 x hx]; exact RowKit.Below.heap_setCell _ _ _ _ hx
    · rw [h9 j]
      by_cases hj : o + i = j
      · subst hj
        rw [if_neg (by omega), if_pos (by simp)]
        simp [hlt]
      · by_cases hj2 : o + (i + 1) ≤ j ∧ j < o + (i + 1) + vs.length
        · rw [if_pos hj2, if_pos (by simp; omega)]
          rw [show j - (o + i) = (j - (o + (i + 1))) + 1 by omega]
          simp
        · rw [if_neg hj2, if_neg (by simp; omega)]
          simp [hj]
theorem all1_spec : ∀ {l : List Value}, all1 l = true → ∀ v ∈ l, v.oneCell' = true
  | [], _, v, h => by cases h
  | x :: l, h, v, hv => by
    have h1 : x.oneCell' = true ∧ all1 l = true := by cases x <;> simp_all [all1, Value.oneCell']
    rcases List.mem_cons.1 hv with rfl | hv
    · exact h1.1
    · exact all1_spec h1.2 v hv

/-- Cells of a block that is known are written. -/
theorem Knows.write {H' : HL} (hk : Knows w0 (den H B) w) {b o : Nat} {vs : List Value} (hB : B b = none) (hw : wrH H b o vs = some H') (h1 : all1 vs = true) :
    ∃ w', (storeCells ⟨b, o, none⟩ vs).run P w = .ok () w' ∧ Knows w0 (den H' B) w' := by
  obtain ⟨cs, n, cs', hl, hwr, hlk⟩ := wrH_spec hw
  have hd : den H B b = some (.cells cs n) := by simp [den, hl, hB]
  obtain ⟨hlt, arr, e, harr, hsz, hle, hcs⟩ := hk.own b _ hd
  have hfit := wr_fits _ _ _ _ hwr
  obtain ⟨w', r1, r2, r3, r4, r5, r6, arr', r7, r8, r9⟩ := run_storeCells P b vs 0 o w arr e harr (by omega) (all1_spec h1)
  have hd' : ∀ x, den H' B x = if x = b then some (.cells cs' n) else den H B x := fun x => by
    unfold den
    rw [hlk x]
    by_cases hx : x = b
    · subst hx; simp [hB]
    · simp [hx]
  have hb0 := hk.mine b (.inl ⟨cs, n, hd⟩)
  refine ⟨w', r1, ⟨r2.trans hk.os, r3.trans hk.tape, r4.trans hk.output, by rw [r5]; exact hk.size, fun x hx => by rw [r6 x (by omega)]; exact hk.old x hx, fun r k hr => ?_, fun a ha => ?_, fun r hr => ?_⟩⟩
  · rw [hd'] at hr
    by_cases hx : r = b
    · subst hx
      rw [if_pos rfl, Option.some.injEq] at hr
      subst hr
      refine ⟨by rw [r5]; exact hlt, arr', e, r7, by rw [r8, hsz], by rw [wr_length _ _ _ _ hwr]; exact hle, fun i v hi => ?_⟩
      rw [wr_get _ _ _ _ hwr] at hi
      rw [r9 i]
      simp only [Nat.add_zero]
      by_cases hc : o ≤ i ∧ i < o + vs.length
      · rw [if_pos hc] at hi; rw [if_pos hc]; exact hi
      · rw [if_neg hc] at hi; rw [if_neg hc]; exact hcs i v hi
    · rw [if_neg hx] at hr
      obtain ⟨q1, q2⟩ := hk.own r k hr
      exact ⟨by rw [r5]; exact q1, by rw [r6 r hx]; exact q2⟩
  · by_cases hx : a.block = b
    · simp [World.frozen?, hx, r7]
    · have := hk.fz a ha
      unfold World.frozen? at this ⊢
      rw [r6 _ hx]; exact this
  · by_cases hx : r = b
    · subst hx; exact hb0
    · refine hk.mine r ?_
      simpa [hd', hx] using hr

theorem sound_store {o : Oper} {ty : TypeId} {a x : Operand} {n : Nat} (h : o.op = .store ty a x) (hn : sizeO P ty = some n) : Sound P o (.store n a x) := by
  intro w0 w B H t G ρ Q hρ hk h0 hQ
  have hne := res_elim (f := fun N => storeV n B H N (ev t a) (ev t x)) hk h0 hQ
  unfold storeV at hne
  split at hne
  · rename_i b off he
    split at hne
    · rename_i hc
      cases hB : B b with
      | some k => rw [hB] at hne; exact (hne rfl).elim
      | none =>
        cases hw : wrH H b off (ev t x).cells.toList with
        | none => rw [hB] at hne; simp only [wrB, hw, unitR] at hne; exact (hne rfl).elim
        | some H' =>
          obtain ⟨w', r1, r2⟩ := hk.write (P := P) hB hw hc.2
          refine ⟨undef, w', H', .inr ⟨?_, rfl⟩, r2, fun N' hN' => ?_⟩
          · simp [execOp, h, hρ, Instr.storeAt, Instr.sureAddr, he, storeVar, run_sizeOf hn, hc.1, r1]
          · have hgood : good B H N' := ⟨hN'.1, fun i => by
              have := hN'.2 i
              unfold den at this ⊢
              obtain ⟨cs, n, cs', hl, hwr, hlk⟩ := wrH_spec hw
              rw [hlk] at this
              by_cases hx : N' i = b
              · rw [hx] at this; simp [hB] at this
              · simpa [hx] using this⟩
            have := hQ N' hgood
            simpa [stepOp, storeV, he, hc, hB, wrB, hw, unitR] using this
    · exact (hne rfl).elim
  · exact (hne rfl).elim
end Go.Proofs.Ytffmiglkkfcpmaa.K
namespace Go.Proofs.Ytffmiglkkfcpmaa.K
variable {P : Program} {w0 w : World} {B : OH} {H : HL} {t : List Value} {G : Nat → Cs}

theorem sound_nilck {o : Oper} {x : Operand} (h : o.op = .nilCheck x) : Sound P o (.nilck x) :=
  sound_pure (fun t _ _ => nilckV (ev t x)) (fun _ _ _ => rfl) fun w0 w B H t ρ v hρ _ hv => by
    left
    unfold nilckV at hv
    split at hv <;> first | (cases hv; done) | (rename_i he; simp only [Option.some.injEq] at hv; subst hv; simp [execOp, h, hρ, he])

theorem run_arith {op : BinOp} {k k' : IntKind} {a b : Int} {v : Value} (hs : (isSh op || k == k') = true) (hv : arith op k a b = some v) (ty : TypeId) (w : World) : (binOp op ty (.int k a) (.int k' b)).run P w = .ok v w := by
  cases op <;> simp only [arith] at hv <;> (try simp only [isSh, Bool.false_or, beq_iff_eq] at hs) <;> (try subst hs)
  case quo | rem | shl | shr =>
    split at hv
    · cases hv
    · rename_i hc
      simp only [Option.some.injEq] at hv
      subst hv
      simp [binOp, Op.intDiv, Op.shift, hc]
  all_goals
    simp only [Option.some.injEq] at hv
    subst hv
    simp [binOp, Op.intArith, Op.intBits, Op.intCmp]

theorem sound_bin {o : Oper} {op : BinOp} {ty u : TypeId} {x y : Operand} (h : o.op = .binOp op ty x y u) (hty : (op = .eql ∨ op = .neq) → P.underlying ty = some .string ∨ ∃ k, P.underlying ty = some (.int k)) : Sound P o (.bin op x y) :=
  sound_pure (fun t _ _ => binV op (ev t x) (ev t y)) (fun _ _ _ => rfl) fun w0 w B H t ρ v hρ _ hv => by
    left
    unfold binV at hv
    split at hv
    · rename_i k a k' b ha hb
      have hg : (eqGuard op ty x y (Value.int k a) (Value.int k' b)).run P w = .ok () w := by
        unfold eqGuard; cases op <;> simp
      simp only [execOp, h, hρ, ha, hb, Sem.run_bind, hg, Result.andThen_ok]
      cases hs : (isSh op || k == k') with
      | false => simp [hs] at hv
      | true =>
        simp only [hs, cond_true] at hv
        simp [run_arith hs hv]
    · rename_i a b ha hb
      have hg : (eqGuard op ty x y (Value.string a) (Value.string b)).run P w = .ok () w := by
        unfold eqGuard; cases op <;> simp
      simp only [execOp, h, hρ, ha, hb, Sem.run_bind, hg, Result.andThen_ok]
      cases op <;> simp only [Option.some.injEq] at hv <;> first | (cases hv; done) | (subst hv; simp [binOp, Op.stringOp])
    · cases hv

theorem sound_eqb {o : Oper} {op : BinOp} {ty u : TypeId} {x y : Operand} {neg : Bool} (h : o.op = .binOp op ty x y u) (hop : op = if neg then .neq else .eql) (hty : P.underlying ty = some .bool) : Sound P o (.eqb neg x y) :=
  sound_pure (fun t _ _ => eqbV neg (ev t x) (ev t y)) (fun _ _ _ => rfl) fun w0 w B H t ρ v hρ _ hv => by
    left
    unfold eqbV at hv
    split at hv
    · rename_i a b ha hb
      simp only [Option.some.injEq] at hv
      subst hv
      have hg : (eqGuard op ty x y (Value.bool a) (Value.bool b)).run P w = .ok () w := by
        unfold eqGuard; cases op <;> simp
      simp only [execOp, h, hρ, ha, hb, Sem.run_bind, hg, Result.andThen_ok]
      cases neg <;> simp at hop <;> subst hop
      · simp [run_eql_bool w ty a b hty]
      · simp [run_neq_bool w ty a b hty]
    · cases hv

theorem sound_eqp {o : Oper} {op : BinOp} {ty u : TypeId} {x y : Operand} {neg : Bool} {e : TypeId} (h : o.op = .binOp op ty x y u) (hop : op = if neg then .neq else .eql) (hty : P.underlying ty = some (.pointer e)) : Sound P o (.eqp neg x y) :=
  sound_pure (fun t _ _ => eqpV neg (ev t x) (ev t y)) (fun _ _ _ => rfl) fun w0 w B H t ρ v hρ _ hv => by
    left
    unfold eqpV at hv
    split at hv
    · rename_i a ha hb
      simp only [Option.some.injEq] at hv
      subst hv
      have hg : (eqGuard op ty x y (Value.pointer a) (Value.pointer none)).run P w = .ok () w := by
        unfold eqGuard; cases op <;> simp
      have he : (Op.equal ty (.pointer a) (.pointer none)).run P w = .ok a.isNone w := by
        unfold Op.equal Op.maxDepth Op.equalIn
        cases a <;> simp [run_underlying hty]
      simp only [execOp, h, hρ, ha, hb, Sem.run_bind, hg, Result.andThen_ok]
      cases neg <;> simp at hop <;> subst hop <;> cases a <;> simp [binOp, he]
    · rename_i b hno ha hb
      simp only [Option.some.injEq] at hv
      subst hv
      have hg : (eqGuard op ty x y (Value.pointer none) (Value.pointer b)).run P w = .ok () w := by
        unfold eqGuard; cases op <;> simp
      have he : (Op.equal ty (.pointer none) (.pointer b)).run P w = .ok b.isNone w := by
        unfold Op.equal Op.maxDepth Op.equalIn
        cases b <;> simp [run_underlying hty]
      simp only [execOp, h, hρ, ha, hb, Sem.run_bind, hg, Result.andThen_ok]
      cases neg <;> simp at hop <;> subst hop <;> cases b <;> simp [binOp, he]
    · cases hv

theorem sound_un {o : Oper} {op : UnOp} {ty : TypeId} {x : Operand} (h : o.op = .unOp op ty x) : Sound P o (.un op x) :=
  sound_pure (fun t _ _ => unV op (ev t x)) (fun _ _ _ => rfl) fun w0 w B H t ρ v hρ _ hv => by
    left
    unfold unV at hv
    split at hv
    · rename_i b he
      simp only [Option.some.injEq] at hv; subst hv
      simp [execOp, h, hρ, he, Op.unary]
    · rename_i k n he
      simp only [Option.some.injEq] at hv; subst hv
      simp [execOp, h, hρ, he, Op.unary, Op.intArith]
    · cases hv

theorem sound_conv {o : Oper} {a b : TypeId} {x : Operand} {k j : IntKind} (h : o.op = .convert a b x) (ha : P.underlying a = some (.int j)) (hb : P.underlying b = some (.int k)) : Sound P o (.conv k x) :=
  sound_pure (fun t _ _ => convV k (ev t x)) (fun _ _ _ => rfl) fun w0 w B H t ρ v hρ _ hv => by
    left
    unfold convV at hv
    split at hv
    · rename_i k' n he
      simp only [Option.some.injEq] at hv; subst hv
      simp [execOp, h, hρ, he, convert, run_underlying ha, run_underlying hb, Conv.intToInt]
    · cases hv

theorem run_part {ty : TypeId} {g : Bool} {n m off : Nat} {cs : Array Value} {v : Value} (hg : aggB P ty = some g) (hn : sizeO P ty = some n) (hm : m = bif g then n else 1) (hv : mkV g (tk cs.toList off m) = some v) (w : World) :
    (part ty cs off).run P w = .ok v w := by
  cases hr : tk cs.toList off m with
  | none => simp [mkV, hr] at hv
  | some r =>
    obtain ⟨hl, hc⟩ := tk_spec _ _ _ _ hr
    simp only [mkV, hr] at hv
    cases g with
    | true =>
      simp only [cond_true, Option.some.injEq] at hv hm
      subst hv hm
      simp only [part, Sem.run_bind, run_isAgg hg, Result.andThen_ok, if_true, run_sizeOf hn]
      have : cs.extract off (off + m) = r.toArray := by
        apply Array.ext'
        simp only [Array.toList_extract, List.extract]
        apply List.ext_getElem?
        intro i
        by_cases hi : i < m
        · have h1 : i < r.length := by omega
          have := hc i r[i] (by simp [h1])
          rw [List.getElem?_take, if_pos (by omega), List.getElem?_drop, this]
          simp [h1]
        · rw [List.getElem?_take, if_neg (by omega)]
          have : r.length ≤ i := by omega
          simp [this]
      simp [this]
    | false =>
      simp only [cond_false] at hv hm
      subst hm
      unfold one at hv
      split at hv
      · rename_i u
        simp only [Option.some.injEq] at hv
        subst hv
        have := hc 0 u (by simp)
        simp only [part, Sem.run_bind, run_isAgg hg, Result.andThen_ok, Bool.false_eq_true, if_false]
        simp only [Nat.add_zero, Array.getElem?_toList] at this
        simp [this]
      · cases hv

theorem sound_field {o : Oper} {ty : TypeId} {x : Operand} {i : Nat} {fs : Array Field} {f : Field} {g : Bool} {n m : Nat} (h : o.op = .field ty x i) (hty : P.underlying ty = some (.struct fs)) (hf : fs[i]? = some f)
    (hg : aggB P f.type = some g) (hn : sizeO P f.type = some n) (hm : m = bif g then n else 1) : Sound P o (.field g f.offset m x) :=
  sound_pure (fun t _ _ => fieldV g f.offset m (ev t x)) (fun _ _ _ => rfl) fun w0 w B H t ρ v hρ _ hv => by
    left
    unfold fieldV at hv
    split at hv
    · rename_i cs he
      simp [execOp, h, hρ, he, Instr.field, run_underlying hty, hf, asAgg, run_part hg hn hm hv]
    · cases hv

theorem sound_idxA {o : Oper} {ty e : TypeId} {x i : Operand} {len : Nat} {g : Bool} {n : Nat} (h : o.op = .index ty x i) (hty : P.underlying ty = some (.array len e))
    (hg : aggB P e = some g) (hn : sizeO P e = some n) : Sound P o (.idxA g n len x i) :=
  sound_pure (fun t _ _ => idxAV g n len (ev t x) (ev t i)) (fun _ _ _ => rfl) fun w0 w B H t ρ v hρ _ hv => by
    left
    unfold idxAV at hv
    split at hv
    · rename_i cs k j he hi
      split at hv
      · rename_i hb
        have hb2 : j < (len : Int) := by omega
        simp [execOp, h, hρ, he, hi, Instr.index, asIntOf, run_underlying hty, hb.1, hb2, run_sizeOf hn, run_part hg hn rfl hv]
      · cases hv
    · cases hv

theorem sound_faddr {o : Oper} {ty : TypeId} {x : Operand} {i : Nat} {fs : Array Field} {f : Field} {n : Nat} (h : o.op = .fieldAddr ty x i) (hty : P.underlying ty = some (.struct fs)) (hf : fs[i]? = some f)
    (hn : sizeO P f.type = some (n + 1)) : Sound P o (.faddr f.offset x) :=
  sound_pure (fun t _ _ => faddrV f.offset (ev t x)) (fun _ _ _ => rfl) fun w0 w B H t ρ v hρ _ hv => by
    left
    unfold faddrV at hv
    split at hv
    · rename_i b off he
      simp only [Option.some.injEq] at hv; subst hv
      simp [execOp, h, hρ, he, Instr.fieldAt, run_underlying hty, hf, Instr.sureAddr, fieldPlace, run_sizeOf hn, addr_add]
    · cases hv

theorem sound_iaddrS {o : Oper} {ty e : TypeId} {x i : Operand} {n : Nat} (h : o.op = .indexAddr ty x i) (hty : P.underlying ty = some (.slice e)) (hn : sizeO P e = some n) : Sound P o (.iaddrS n x i) :=
  sound_pure (fun t _ _ => iaddrSV n (ev t x) (ev t i)) (fun _ _ _ => rfl) fun w0 w B H t ρ v hρ _ hv => by
    left
    unfold iaddrSV at hv
    split at hv
    · rename_i b off len cap k j he hi
      split at hv
      · rename_i hb
        simp only [Option.some.injEq] at hv; subst hv
        have hb2 : j < (len : Int) := by omega
        simp [execOp, h, hρ, he, hi, Instr.indexAt, asIntOf, run_underlying hty, hb.1, hb2, run_sizeOf hn, addr_add]
      · cases hv
    · cases hv

theorem sound_iaddrA {o : Oper} {ty e : TypeId} {x i : Operand} {len n : Nat} (h : o.op = .indexAddr ty x i) (hty : P.underlying ty = some (.array len e)) (hn : sizeO P e = some n) : Sound P o (.iaddrA n len x i) :=
  sound_pure (fun t _ _ => iaddrAV n len (ev t x) (ev t i)) (fun _ _ _ => rfl) fun w0 w B H t ρ v hρ _ hv => by
    left
    unfold iaddrAV at hv
    split at hv
    · rename_i b off k j he hi
      split at hv
      · rename_i hb
        simp only [Option.some.injEq] at hv; subst hv
        have hb2 : j < (len : Int) := by omega
        simp [execOp, h, hρ, he, hi, Instr.indexAt, asIntOf, run_underlying hty, hb.1, hb2, run_sizeOf hn, addr_add, Instr.sureAddr]
      · cases hv
    · cases hv

theorem sound_ext {o : Oper} {x : Operand} {i : Nat} (h : o.op = .extract x i) : Sound P o (.ext x i) :=
  sound_pure (fun t _ _ => extV i (ev t x)) (fun _ _ _ => rfl) fun w0 w B H t ρ v hρ _ hv => by
    left
    unfold extV at hv
    split at hv
    · rename_i vs he
      simp [execOp, h, hρ, he, Instr.extract, hv]
    · cases hv

theorem sound_ifc {o : Oper} {ty : TypeId} {x : Operand} {d : TypeDesc} (h : o.op = .makeInterface ty x) (hd : P.underlying ty = some d) (hi : ∀ m, d ≠ .interface m) : Sound P o (.ifc ty x) :=
  sound_pure (fun t _ _ => some (.iface ty (ev t x))) (fun _ _ _ => rfl) fun w0 w B H t ρ v hρ _ hv => by
    left
    simp only [Option.some.injEq] at hv; subst hv
    simp only [execOp, h, hρ, Instr.makeInterface, Sem.run_bind, run_underlying hd, Result.andThen_ok]
    cases d <;> first | (exact absurd rfl (hi _)) | simp

theorem evs_map (t : List Value) (l : List Operand) : evs t l = l.map (ev t) := by
  induction l with
  | nil => rfl
  | cons x l ih => simp [evs, ih]
theorem sound_fn {o : Oper} {f : Fn} {a b : Array Operand} (h : o.op = .makeFunc f a b) : Sound P o (.fn f a.toList b.toList) :=
  sound_pure (fun t _ _ => some (.func f (evs t a.toList).toArray (evs t b.toList).toArray)) (fun _ _ _ => rfl) fun w0 w B H t ρ v hρ _ hv => by
    left
    simp only [Option.some.injEq] at hv; subst hv
    have : ρ = ev t := funext hρ
    subst this
    simp only [execOp, h, Instr.makeFunc, evs_map]
    simp
    constructor <;> (apply Array.ext'; simp)

theorem resolve_builtin {b : Builtin} {args : Array Operand} {ts : Array TypeId} {ρ : Operand → Value} {ty : TypeId} : (resolve ρ { callee := .builtin b, args, argTypes := ts } ty) = pure { target := .builtin b ts ty (args.map fun | .const _ => true | _ => false), args := args.map ρ } := rfl

theorem sound_len {o : Oper} {c : Call} {x : Operand} {ty : TypeId} {str : Bool} (h : o.op = .call c) (hc : c.callee = .builtin .len) (ha : c.args.toList = [x]) (ht : c.argTypes[0]? = some ty)
    (hty : (str = true ∧ P.underlying ty = some .string) ∨ (str = false ∧ ∃ e, P.underlying ty = some (.slice e))) : Sound P o (.len str x) :=
  sound_pure (fun t _ _ => lenV str (ev t x)) (fun _ _ _ => rfl) fun w0 w B H t ρ v hρ _ hv => by
    left
    obtain ⟨callee, args, ts⟩ := c
    have hargs : args = #[x] := by apply Array.ext'; simpa using ha
    simp only at hc ht
    subst hc hargs
    rcases hty with ⟨rfl, hty⟩ | ⟨rfl, e, hty⟩
    · unfold lenV at hv
      split at hv
      · rename_i hq _; cases hq
      · rename_i s he
        simp only [Option.some.injEq] at hv; subst hv
        simp [execOp, h, resolve_builtin, hρ, he, invoke, builtin, Builtin.len_, ht, run_underlying hty, goInt]
      · cases hv
    · unfold lenV at hv
      split at hv
      · rename_i a n cap he
        simp only [Option.some.injEq] at hv; subst hv
        simp [execOp, h, resolve_builtin, hρ, he, invoke, builtin, Builtin.len_, ht, run_underlying hty, goInt]
      · rename_i hq _; cases hq
      · cases hv

theorem sound_mm {o : Oper} {c : Call} {mx : Bool} (h : o.op = .call c) (hc : c.callee = .builtin (if mx then .max else .min)) : Sound P o (.mm mx c.args.toList) :=
  sound_pure (fun t _ _ => mmV mx (evs t c.args.toList)) (fun _ _ _ => rfl) fun w0 w B H t ρ v hρ _ hv => by
    left
    obtain ⟨callee, args, ts⟩ := c
    simp only at hc hv
    subst hc
    have : ρ = ev t := funext hρ
    subst this
    unfold mmV at hv
    split at hv
    · rename_i a b he
      rw [evs_map] at he
      have hmap : args.map (ev t) = #[a, b] := by apply Array.ext'; simpa using he
      unfold mm2 at hv
      split at hv
      · rename_i k p k' q
        simp only [Option.some.injEq] at hv; subst hv
        cases mx
        · simp [execOp, h, resolve_builtin, hmap, invoke, builtin, run_min_int2]
        · simp [execOp, h, resolve_builtin, hmap, invoke, builtin, run_max_int2]
      · cases hv
    · cases hv
end Go.Proofs.Ytffmiglkkfcpmaa.K
namespace Go.Proofs.Ytffmiglkkfcpmaa.K
variable {P : Program} {w0 w : World} {B : OH} {H : HL} {t : List Value} {G : Nat → Cs}

/-! ### Structs and arrays are compared -/
theorem andO_some {x y : Option Bool} {r : Bool} (h : andO x y = some r) : ∃ a b, x = some a ∧ y = some b ∧ r = (a && b) := by
  unfold andO at h
  split at h
  · rename_i a b
    simp only [Option.some.injEq] at h
    exact ⟨a, b, rfl, rfl, h.symm⟩
  · cases h
theorem eqL_cons {a : Leaf} {l : List Leaf} {X Y : List Value} {r : Bool} (h : eqL (a :: l) X Y = some r) : ∃ x xs y ys r0 r', X = x :: xs ∧ Y = y :: ys ∧ leafEq a x y = some r0 ∧ eqL l xs ys = some r' ∧ r = (r0 && r') := by
  cases X with
  | nil => simp [eqL] at h
  | cons x xs =>
    cases Y with
    | nil => simp [eqL] at h
    | cons y ys =>
      simp only [eqL] at h
      obtain ⟨r0, r', h1, h2, h3⟩ := andO_some h
      exact ⟨x, xs, y, ys, r0, r', rfl, rfl, h1, h2, h3⟩
theorem eqL_nil {X Y : List Value} {r : Bool} (h : eqL [] X Y = some r) : X = [] ∧ Y = [] ∧ r = true := by
  cases X <;> cases Y <;> simp_all [eqL]
theorem eqL_one {a : Leaf} {X Y : List Value} {r : Bool} (h : eqL [a] X Y = some r) : ∃ x y, X = [x] ∧ Y = [y] ∧ leafEq a x y = some r := by
  obtain ⟨x, xs, y, ys, r0, r', rfl, rfl, h1, h2, rfl⟩ := eqL_cons h
  obtain ⟨rfl, rfl, rfl⟩ := eqL_nil h2
  exact ⟨x, y, rfl, rfl, by simpa using h1⟩
theorem eqL_len : ∀ {l : List Leaf} {xs ys : List Value} {r : Bool}, eqL l xs ys = some r → xs.length = l.length ∧ ys.length = l.length
  | [], _, _, _, h => by obtain ⟨rfl, rfl, _⟩ := eqL_nil h; exact ⟨rfl, rfl⟩
  | a :: l, _, _, _, h => by
    obtain ⟨x, xs, y, ys, r0, r', rfl, rfl, h1, h2, rfl⟩ := eqL_cons h
    obtain ⟨h3, h4⟩ := eqL_len h2
    simp [h3, h4]
theorem eqL_split : ∀ {l m : List Leaf} {xs ys : List Value} {r : Bool}, eqL (l ++ m) xs ys = some r → ∃ x1 x2 y1 y2 r1 r2, xs = x1 ++ x2 ∧ ys = y1 ++ y2 ∧ eqL l x1 y1 = some r1 ∧ eqL m x2 y2 = some r2 ∧ r = (r1 && r2)
  | [], m, xs, ys, r, h => ⟨[], xs, [], ys, true, r, rfl, rfl, rfl, h, by simp⟩
  | a :: l, m, _, _, r, h => by
    rw [List.cons_append] at h
    obtain ⟨x, xs, y, ys, r0, r', rfl, rfl, h1, h2, rfl⟩ := eqL_cons h
    obtain ⟨x1, x2, y1, y2, r1, r2, rfl, rfl, q1, q2, rfl⟩ := eqL_split h2
    exact ⟨x :: x1, x2, y :: y1, y2, r0 && r1, r2, rfl, rfl, by simp [eqL, h1, q1, andO], q2, by rw [Bool.and_assoc]⟩
theorem tk_mid : ∀ (A xs C : List Value), tk (A ++ (xs ++ C)) A.length xs.length = some xs
  | [], [], C => by cases C <;> rfl
  | [], x :: xs, C => by
    have := tk_mid [] xs C
    simp only [List.nil_append, List.length_nil] at this
    simp [tk, this]
  | a :: A, xs, C => by
    have := tk_mid A xs C
    simpa [tk] using this
theorem leaves_agg {d : Nat} {ty : TypeId} {l : List Leaf} (h : leaves P d ty = some l) : ∃ g, aggB P ty = some g ∧ (g = false → l.length = 1) := by
  cases d with
  | zero => simp [leaves] at h
  | succ d =>
    simp only [leaves] at h
    unfold aggB
    split at h <;> rename_i hu <;> (try rw [hu])
    · simp only [Option.some.injEq] at h; subst h; exact ⟨false, rfl, fun _ => rfl⟩
    · simp only [Option.some.injEq] at h; subst h; exact ⟨false, rfl, fun _ => rfl⟩
    · simp only [Option.some.injEq] at h; subst h; exact ⟨false, rfl, fun _ => rfl⟩
    · exact ⟨true, rfl, fun h => by cases h⟩
    · exact ⟨true, rfl, fun h => by cases h⟩
    · cases h
def EqOk (P : Program) (D : Nat) (ty : TypeId) (l : List Leaf) : Prop :=
  ∀ (w : World) (g : Bool) (x y : Value) (xs ys : List Value) (r : Bool), aggB P ty = some g → mkV g (some xs) = some x → mkV g (some ys) = some y → eqL l xs ys = some r → (Op.equalIn D ty x y).run P w = .ok r w
theorem part_mid {ty : TypeId} {g : Bool} {A xs C : List Value} {n : Nat} (hg : aggB P ty = some g) (hn : sizeO P ty = some n) (hl : xs.length = n) (h1 : g = false → n = 1) (w : World) :
    ∃ v, mkV g (some xs) = some v ∧ (part ty (A ++ (xs ++ C)).toArray A.length).run P w = .ok v w := by
  have hm : (bif g then n else 1) = xs.length := by
    cases g with
    | true => simp [hl]
    | false => simp [hl, h1 rfl]
  have ht := tk_mid A xs C
  cases g with
  | true => exact ⟨.agg xs.toArray, rfl, run_part hg hn rfl (by rw [hm]; simp [mkV, ht]) w⟩
  | false =>
    have hx : xs.length = 1 := by rw [hl, h1 rfl]
    match xs, hx with
    | [v], _ => exact ⟨v, rfl, run_part hg hn rfl (by rw [hm, show ([v] : List Value).length = 1 from rfl, show (A ++ ([v] ++ C)).toArray.toList = A ++ ([v] ++ C) from rfl]; rw [show ([v] : List Value).length = 1 from rfl] at ht; rw [ht]; rfl) w⟩
theorem items_ok {D : Nat} {e : TypeId} {l : List Leaf} {g : Bool} (hE : EqOk P D e l) (hg : aggB P e = some g) (h1 : g = false → l.length = 1) (hn : sizeO P e = some l.length) : ∀ (n k : Nat) (w : World) (A xs C A' ys C' : List Value) (r : Bool),
    A.length = k * l.length → A'.length = k * l.length → eqL ((List.replicate n l).flatten) xs ys = some r →
    (Op.eqItems D e l.length (A ++ (xs ++ C)).toArray (A' ++ (ys ++ C')).toArray (List.range' k n)).run P w = .ok r w
  | 0, k, w, A, xs, C, A', ys, C', r, ha, ha', h => by
    simp only [List.replicate_zero, List.flatten_nil] at h
    obtain ⟨hx, hy⟩ := eqL_len h
    have e1 := List.length_eq_zero_iff.1 hx
    have e2 := List.length_eq_zero_iff.1 hy
    subst e1 e2
    simp only [eqL, Option.some.injEq] at h
    subst h
    simp [Op.eqItems]
  | n + 1, k, w, A, xs, C, A', ys, C', r, ha, ha', h => by
    rw [List.replicate_succ, List.flatten_cons] at h
    obtain ⟨x1, x2, y1, y2, r1, r2, rfl, rfl, q1, q2, rfl⟩ := eqL_split h
    obtain ⟨l1, l2⟩ := eqL_len q1
    obtain ⟨v, hv, pv⟩ := part_mid (A := A) (xs := x1) (C := x2 ++ C) hg hn l1 h1 w
    obtain ⟨u, hu, pu⟩ := part_mid (A := A') (xs := y1) (C := y2 ++ C') hg hn l2 h1 w
    have ih := items_ok hE hg h1 hn n (k + 1) w (A ++ x1) x2 C (A' ++ y1) y2 C' r2 (by simp [ha, l1, Nat.add_mul]) (by simp [ha', l2, Nat.add_mul]) q2
    rw [ha] at pv
    rw [ha'] at pu
    simp only [List.range'_succ, Op.eqItems, Sem.run_bind, List.append_assoc, pv, pu, Result.andThen_ok, hE w g v u x1 y1 r1 hg hv hu q1]
    cases r1
    · simp
    · simpa [List.append_assoc] using ih
theorem eq_leaves : ∀ (d : Nat), (∀ ty l, leaves P d ty = some l → ∀ D, d ≤ D → EqOk P D ty l) ∧
    (∀ fs o l, leavesF P d fs o = some l → ∀ D, d ≤ D → ∀ (w : World) (A xs C A' ys C' : List Value) (r : Bool), A.length = o → A'.length = o → eqL l xs ys = some r → (Op.eqFields D (A ++ (xs ++ C)).toArray (A' ++ (ys ++ C')).toArray fs).run P w = .ok r w) := by
  intro d
  induction d with
  | zero =>
    refine ⟨fun ty l h => by simp [leaves] at h, fun fs o l h D hD w A xs C A' ys C' r ha ha' hr => ?_⟩
    cases fs with
    | nil =>
      simp only [leavesF, Option.some.injEq] at h
      subst h
      cases xs <;> cases ys <;> simp [eqL] at hr
      subst hr; simp [Op.eqFields]
    | cons f fs => simp [leavesF] at h
  | succ d ih =>
    obtain ⟨ihP, ihQ⟩ := ih
    refine ⟨fun ty l h D hD w g x y xs ys r hg hx hy hr => ?_, fun fs o l h D hD w A xs C A' ys C' r ha ha' hr => ?_⟩
    · obtain ⟨D, rfl⟩ : ∃ D', D = D' + 1 := ⟨D - 1, by omega⟩
      have hD' : d ≤ D := by omega
      simp only [leaves] at h
      split at h <;> rename_i hu
      · simp only [Option.some.injEq] at h; subst h
        obtain rfl : g = false := by simpa [aggB, hu] using hg.symm
        obtain ⟨a, b, rfl, rfl, hl⟩ := eqL_one hr
        clear hr
        simp only [mkV, cond_false, one, Option.some.injEq] at hx hy
        subst hx hy
        unfold leafEq at hl
        split at hl <;> simp_all
        subst hl
        simp [Op.equalIn, run_underlying hu]
      · simp only [Option.some.injEq] at h; subst h
        obtain rfl : g = false := by simpa [aggB, hu] using hg.symm
        obtain ⟨a, b, rfl, rfl, hl⟩ := eqL_one hr
        clear hr
        simp only [mkV, cond_false, one, Option.some.injEq] at hx hy
        subst hx hy
        unfold leafEq at hl
        split at hl <;> simp_all
        obtain ⟨rfl, rfl⟩ := hl
        simp [Op.equalIn, run_underlying hu]
      · simp only [Option.some.injEq] at h; subst h
        obtain rfl : g = false := by simpa [aggB, hu] using hg.symm
        obtain ⟨a, b, rfl, rfl, hl⟩ := eqL_one hr
        clear hr
        simp only [mkV, cond_false, one, Option.some.injEq] at hx hy
        subst hx hy
        unfold leafEq at hl
        split at hl <;> simp_all
        subst hl
        simp [Op.equalIn, run_underlying hu, beq_toListBytes]
      · rename_i fs
        split at h
        · cases h
        · rename_i hs
          obtain rfl : g = true := by simpa [aggB, hu] using hg.symm
          simp only [mkV, cond_true, Option.some.injEq] at hx hy
          subst hx hy
          have hfs : P.fieldsOf ty = fs := by simp [Program.fieldsOf, hu]
          rw [run_equalIn_struct w D ty _ _ (by rw [hfs]; exact hu) (by simpa using hs), hfs]
          have := ihQ fs.toList 0 l h D hD' w [] xs [] [] ys [] r rfl rfl hr
          simpa using this
      · rename_i n e
        split at h
        · rename_i le hle
          split at h
          · rename_i hn
            simp only [Option.some.injEq] at h; subst h
            obtain rfl : g = true := by simpa [aggB, hu] using hg.symm
            simp only [mkV, cond_true, Option.some.injEq] at hx hy
            subst hx hy
            obtain ⟨ge, hge, hg1⟩ := leaves_agg hle
            have hsz : P.cellsOf e = le.length := by
              unfold sizeO at hn
              simp [Program.cellsOf, hn]
            obtain ⟨i, hi⟩ : ∃ i, P.info? e = some i := by
              unfold sizeO at hn
              cases hi : P.info? e with
              | none => simp [hi] at hn
              | some i => exact ⟨i, rfl⟩
            rw [run_equalIn_array w D _ _ hu hi, hsz, List.range_eq_range']
            have := items_ok (ihP e le hle D hD') hge hg1 hn n 0 w [] xs [] [] ys [] r (by simp) (by simp) hr
            simpa using this
          · cases h
        · cases h
      · cases h
    · cases fs with
      | nil =>
        simp only [leavesF, Option.some.injEq] at h
        subst h
        cases xs <;> cases ys <;> simp [eqL] at hr
        subst hr; simp [Op.eqFields]
      | cons f fs =>
        simp only [leavesF] at h
        split at h
        · rename_i lf hlf
          split at h
          · rename_i hc
            split at h
            · rename_i m hm
              simp only [Option.some.injEq] at h; subst h
              obtain ⟨g, hg, h1⟩ := leaves_agg hlf
              obtain ⟨x1, x2, y1, y2, r1, r2, rfl, rfl, q1, q2, rfl⟩ := eqL_split hr
              obtain ⟨l1, l2⟩ := eqL_len q1
              obtain ⟨v, hv, pv⟩ := part_mid (A := A) (xs := x1) (C := x2 ++ C) hg hc.2.1 l1 h1 w
              obtain ⟨u, hu, pu⟩ := part_mid (A := A') (xs := y1) (C := y2 ++ C') hg hc.2.1 l2 h1 w
              have ih := ihQ fs (o + lf.length) m hm D (by omega) w (A ++ x1) x2 C (A' ++ y1) y2 C' r2 (by simp [ha, l1]) (by simp [ha', l2]) q2
              rw [ha] at pv
              rw [ha'] at pu
              rw [← hc.1] at pv pu
              simp only [Op.eqFields, hc.2.2, ne_eq, not_false_eq_true, if_true, Sem.run_bind, List.append_assoc, pv, pu, Result.andThen_ok, ihP f.type lf hlf D (by omega) w g v u x1 y1 r1 hg hv hu q1]
              cases r1
              · simp
              · simpa [List.append_assoc] using ih
            · cases h
          · cases h
        · cases h

theorem sound_eqA {o : Oper} {op : BinOp} {ty u : TypeId} {x y : Operand} {neg : Bool} {ls : List Leaf} (h : o.op = .binOp op ty x y u) (hop : op = if neg then .neq else .eql) (hty : aggB P ty = some true) (hg : P.eqGuardType P.depth ty = false) (hl : leaves P 20 ty = some ls) : Sound P o (.eqA neg ls x y) :=
  sound_pure (fun t _ _ => eqAV neg ls (ev t x) (ev t y)) (fun _ _ _ => rfl) fun w0 w B H t ρ v hρ _ hv => by
    left
    unfold eqAV at hv
    split at hv
    · rename_i xs ys ha hb
      split at hv
      · rename_i r hr
        simp only [Option.some.injEq] at hv
        subst hv
        have hgd : (eqGuard op ty x y (Value.agg xs) (Value.agg ys)).run P w = .ok () w := by
          unfold eqGuard
          cases neg <;> simp at hop <;> subst hop <;> simp [hg]
        have he : (Op.equal ty (.agg xs) (.agg ys)).run P w = .ok r w := (eq_leaves 20).1 ty ls hl 10000 (by decide) w true _ _ xs.toList ys.toList r hty (by simp [mkV]) (by simp [mkV]) hr
        simp only [execOp, h, hρ, ha, hb, Sem.run_bind, hgd, Result.andThen_ok]
        cases neg <;> simp at hop <;> subst hop
        · simp [binOp, he]
        · simp [binOp, he]
      · cases hv
    · cases hv
end Go.Proofs.Ytffmiglkkfcpmaa.K
namespace Go.Proofs.Ytffmiglkkfcpmaa.K
variable {P : Program} {w0 w : World} {B : OH} {H : HL} {t : List Value} {G : Nat → Cs}

theorem sound_bad {o : Oper} : Sound P o .bad := by
  intro w0 w B H t G ρ Q hρ hk h0 hQ
  exact (h0 (hQ _ (good_of hk))).elim

/-! ### Structs, arrays and slices are made -/
theorem setAll (off : Nat) : ∀ (vs : List Value) (j : Nat) (A : Array Value), off + j + vs.length ≤ A.size →
    ((vs.zipIdx j).foldl (fun cs (x : Value × Nat) => cs.setIfInBounds (off + x.2) x.1) A).size = A.size ∧
    ∀ i, ((vs.zipIdx j).foldl (fun cs (x : Value × Nat) => cs.setIfInBounds (off + x.2) x.1) A)[i]? = if off + j ≤ i ∧ i < off + j + vs.length then vs[i - (off + j)]? else A[i]?
  | [], j, A, _ => ⟨rfl, fun i => by rw [if_neg (by simp)]; rfl⟩
  | v :: vs, j, A, h => by
    simp only [List.length_cons] at h
    obtain ⟨h1, h2⟩ := setAll off vs (j + 1) (A.setIfInBounds (off + j) v) (by simp; omega)
    simp only [List.zipIdx_cons, List.foldl_cons]
    refine ⟨by rw [h1]; simp, fun i => ?_⟩
    rw [h2 i]
    by_cases hi : off + j = i
    · subst hi
      rw [if_neg (by omega), if_pos (by simp)]
      simp [show off + j < A.size by omega]
    · by_cases hc : off + (j + 1) ≤ i ∧ i < off + (j + 1) + vs.length
      · rw [if_pos hc, if_pos (by simp; omega), show i - (off + j) = (i - (off + (j + 1))) + 1 by omega]
        simp
      · rw [if_neg hc, if_neg (by simp; omega)]
        simp [hi]
theorem setAll_wr {A : Array Value} {off : Nat} {vs r : List Value} (h : wr A.toList off vs = some r) : (vs.toArray.zipIdx.foldl (fun cs (x : Value × Nat) => cs.setIfInBounds (off + x.2) x.1) A) = r.toArray := by
  have hf := wr_fits _ _ _ _ h
  have hl := wr_length _ _ _ _ h
  obtain ⟨h1, h2⟩ := setAll off vs 0 A (by simpa using hf)
  rw [← Array.foldl_toList, Array.toList_zipIdx]
  apply Array.ext_getElem?
  intro i
  rw [h2 i]
  simp only [Nat.add_zero, List.getElem?_toArray, wr_get _ _ _ _ h, Array.getElem?_toList]
theorem fill_ok (place : Nat → Option (Nat × Nat)) {t : List Value} : ∀ (parts : List (Nat × Operand)) (ps : List (Nat × Nat × Operand)) (A : Array Value) (z : List Value),
    (∀ i, i < parts.length → ∃ k x off n, parts[i]? = some (k, x) ∧ ps[i]? = some (off, n, x) ∧ place k = some (off, n)) → ps.length = parts.length → fillV t ps (some A.toList) = some z →
    Instr.fill place A (parts.map fun x => (x.1, ev t x.2)) = some z.toArray
  | [], [], A, z, _, _, h => by
    simp only [fillV, Option.some.injEq] at h
    subst h
    simp [Instr.fill]
  | [], _ :: _, _, _, _, hl, _ => by cases hl
  | _ :: _, [], _, _, _, hl, _ => by cases hl
  | (k, x) :: parts, (off, n, x') :: ps, A, z, hp, hl, h => by
    obtain ⟨k', x1, off', n', e1, e2, e3⟩ := hp 0 (by simp)
    simp only [List.getElem?_cons_zero, Option.some.injEq, Prod.mk.injEq] at e1 e2
    obtain ⟨rfl, rfl⟩ := e1
    obtain ⟨rfl, rfl, rfl⟩ := e2
    simp only [fillV] at h
    split at h
    · rename_i hs
      cases hw : wr A.toList off (ev t x').cells.toList with
      | none => rw [hw] at h; cases ps <;> simp [fillV] at h
      | some r =>
        rw [hw] at h
        have hf := wr_fits _ _ _ _ hw
        have ih := fill_ok place parts ps r.toArray z (fun i hi => by simpa using hp (i + 1) (by simpa using hi)) (by simpa using hl) (by simpa using h)
        have hsz : ¬ (decide ((ev t x').cells.size ≠ n) || decide (off + (ev t x').cells.size > A.size)) = true := by
          simp [hs] at hf ⊢; omega
        simp only [List.map_cons, Instr.fill, e3]
        have h2 := setAll_wr hw
        rw [Array.toArray_toList] at h2
        simp only [ne_eq, gt_iff_lt] at hsz
        rw [if_neg (by simpa using hsz), h2]
        exact ih
    · cases ps <;> simp [fillV] at h
theorem fill_arr {t : List Value} (s : Nat) {parts : List (Nat × Operand)} {A : Array Value} {z : List Value} (h : fillV t (parts.map fun (i, x) => (i * s, s, x)) (some A.toList) = some z) :
    Instr.fill (fun i => some (i * s, s)) A (parts.map fun x => (x.1, ev t x.2)) = some z.toArray :=
  fill_ok _ parts _ A z (fun i hi => by
    have e : parts[i]? = some parts[i] := List.getElem?_eq_getElem hi
    exact ⟨parts[i].1, parts[i].2, _, _, e, by rw [List.getElem?_map, e]; rfl, rfl⟩) (by simp) h
theorem run_mapA {α β : Type} {f : α → Sem β} {g : α → β} {P : Program} {w : World} : ∀ (l : List α), (∀ x ∈ l, (f x).run P w = .ok (g x) w) → (l.mapM f).run P w = .ok (l.map g) w
  | [], _ => by simp
  | x :: l, h => by
    rw [List.mapM_cons]
    simp only [Sem.run_bind, h x List.mem_cons_self, Result.andThen_ok, run_mapA l (fun y hy => h y (List.mem_cons_of_mem _ hy))]
    simp
theorem run_mapArr {α β : Type} {f : α → Sem β} {g : α → β} {P : Program} {w : World} (l : Array α) (h : ∀ x ∈ l, (f x).run P w = .ok (g x) w) : (l.mapM f).run P w = .ok (l.map g) w := by
  rw [Array.mapM_eq_mapM_toList]
  have := run_mapA (f := f) (g := g) (P := P) (w := w) l.toList (fun x hx => h x (by simpa using hx))
  rw [map_eq_pure_bind, Sem.run_bind, this]
  simp only [Result.andThen_ok, Sem.run_pure]
  congr 1
  apply Array.ext'
  simp
theorem mapM_some {α β : Type} {f : α → Option β} : ∀ {l : List α} {r : List β}, l.mapM f = some r → r.length = l.length ∧ ∀ i, i < l.length → ∃ a b, l[i]? = some a ∧ r[i]? = some b ∧ f a = some b
  | [], r, h => by simp at h; subst h; simp
  | a :: l, r, h => by
    rw [List.mapM_cons] at h
    simp only [bind, Option.bind_eq_some_iff, pure, Option.some.injEq] at h
    obtain ⟨b, hb, r', hr, rfl⟩ := h
    obtain ⟨h1, h2⟩ := mapM_some hr
    refine ⟨by simp [h1], fun i hi => ?_⟩
    cases i with
    | zero => exact ⟨a, b, rfl, rfl, hb⟩
    | succ i => simpa using h2 i (by simpa using hi)

theorem map_parts {ps : Array (Nat × Operand)} {ρ : Operand → Value} (hρ : ∀ x, ρ x = ev t x) : (ps.map fun x => (x.1, ρ x.2)).toList = ps.toList.map fun x => (x.1, ev t x.2) := by
  have : ρ = ev t := funext hρ
  subst this
  simp
theorem sound_build {o : Oper} {ty : TypeId} {ps : Array (Nat × Operand)} (h : o.op = .build ty ps) : Sound P o (lowerOp P o) := by
  simp only [lowerOp, h]
  split
  · rename_i fs z hty hz
    split
    · rename_i l hl
      split
      · rename_i hall
        refine sound_pure (fun t _ _ => mkV true (fillV t l (some z))) (fun _ _ _ => rfl) fun w0 w B H t ρ v hρ _ hv => ?_
        left
        cases hf : fillV t l (some z) with
        | none => simp [hf, mkV] at hv
        | some cs =>
          simp only [hf, mkV, cond_true, Option.some.injEq] at hv
          subst hv
          obtain ⟨zv, hzv, hzc⟩ := run_zero hz w
          obtain ⟨hl1, hl2⟩ := mapM_some hl
          have hpl : (fs.mapM fun (f : Field) => do pure (f.offset, ← sizeOf f.type)).run P w = .ok (fs.map fun (f : Field) => (f.offset, (sizeO P f.type).getD 0)) w := run_mapArr fs fun f hf => by
            have := Array.all_eq_true_iff_forall_mem.1 hall f hf
            obtain ⟨n, hn⟩ := Option.isSome_iff_exists.1 this
            simp [run_sizeOf hn, hn]
          have hfill := fill_ok (t := t) ((fs.map fun (f : Field) => (f.offset, (sizeO P f.type).getD 0))[·]?) ps.toList l zv.cells cs (fun i hi => by
            obtain ⟨⟨k, x⟩, ⟨off, n, x'⟩, e1, e2, e3⟩ := hl2 i hi
            simp only [Option.bind_eq_some_iff, Option.map_eq_some_iff, Prod.mk.injEq] at e3
            obtain ⟨f, hk, s, hs, rfl, rfl, rfl⟩ := e3
            exact ⟨k, x, f.offset, s, e1, e2, by simp [hk, hs]⟩) hl1 (by rw [hzc]; exact hf)
          simp only [execOp, h, Instr.build, Sem.run_bind, hzv, Result.andThen_ok, run_underlying hty, hpl, map_parts hρ, hfill]
          simp
      · exact sound_bad
    · exact sound_bad
  · rename_i len e z hty hz
    split
    · rename_i s hs
      refine sound_pure (fun t _ _ => mkV true (fillV t (ps.toList.map fun (i, x) => (i * s, s, x)) (some z))) (fun _ _ _ => rfl) fun w0 w B H t ρ v hρ _ hv => ?_
      left
      cases hf : fillV t (ps.toList.map fun (i, x) => (i * s, s, x)) (some z) with
      | none => simp [hf, mkV] at hv
      | some cs =>
        simp only [hf, mkV, cond_true, Option.some.injEq] at hv
        subst hv
        obtain ⟨zv, hzv, hzc⟩ := run_zero hz w
        have hfill := fill_arr (t := t) s (parts := ps.toList) (A := zv.cells) (z := cs) (by rw [hzc]; exact hf)
        simp only [execOp, h, Instr.build, Sem.run_bind, hzv, Result.andThen_ok, run_underlying hty, run_sizeOf hs, map_parts hρ, hfill]
        simp
    · exact sound_bad
  · exact sound_bad

theorem flat_get {z : List Value} (hz : 0 < z.length) : ∀ (n i : Nat), ((List.replicate n z).flatten)[i]? = if i < n * z.length then z[i % z.length]? else none
  | 0, i => by simp
  | n + 1, i => by
    rw [List.replicate_succ, List.flatten_cons, List.getElem?_append]
    by_cases h : i < z.length
    · rw [if_pos h, if_pos (by rw [Nat.add_mul]; omega), Nat.mod_eq_of_lt h]
    · rw [if_neg h, flat_get hz n (i - z.length)]
      have hmod : (i - z.length) % z.length = i % z.length := by
        rw [← Nat.mod_eq_sub_mod (by omega)]
      have : i - z.length < n * z.length ↔ i < (n + 1) * z.length := by rw [Nat.add_mul]; omega
      simp only [this, hmod]
theorem zeros {zv : Value} {z : List Value} {n s : Nat} (hzc : zv.cells.toList = z) (hs : 0 < s) (hl : z.length = s) : ((Array.range (n * s)).map (zv.cells[· % zv.cells.size]!)).toList = (List.replicate n z).flatten := by
  subst hzc
  have hsz : zv.cells.size = s := by simpa using hl
  apply List.ext_getElem?
  intro i
  rw [flat_get (by omega) n i]
  rw [Array.getElem?_toList, Array.getElem?_map, hl]
  by_cases h : i < n * s
  · rw [if_pos h]
    have hm : i % s < zv.cells.size := by rw [hsz]; exact Nat.mod_lt _ hs
    have hr : (Array.range (n * s))[i]? = some i := by simp [h]
    rw [hr]
    simp only [Option.map_some, hsz, Array.getElem?_toList]
    rw [getElem!_pos zv.cells (i % s) hm, Array.getElem?_eq_getElem hm]
  · rw [if_neg h]
    have hr : (Array.range (n * s))[i]? = none := by simp [h]
    rw [hr]; rfl
theorem newS_elim {r : Option (List Value)} {mk : Nat → List Value → Value} {Q : Res → Prop} {f : St → Res} (hk : Knows w0 (den H B) w) (h0 : ¬ Q none) (hf : ∀ N, f N = match r with | some cs => some (mk (N 0) cs, (N 0, .cells cs cs.length) :: H, sh N) | none => none)
    (h : ∀ N, good B H N → Q (f N)) : ∃ cs, r = some cs ∧ ∀ e : TypeId, Knows w0 (den ((w.heap.size, .cells cs cs.length) :: H) B) (w.alloc (.cells cs.toArray e)) ∧
    ∀ N', good B ((w.heap.size, .cells cs cs.length) :: H) N' → Q (some (mk w.heap.size cs, (w.heap.size, .cells cs cs.length) :: H, N')) := by
  cases r with
  | none => exact (h0 (by have := h _ (good_of hk); rwa [hf] at this)).elim
  | some cs => exact ⟨cs, rfl, fun e => ⟨hk.new cs e, fun N' hN' => by have := h (consN w.heap.size N') (good_cons (den_fresh hk) hN'); rw [hf] at this; simpa [consN, sh_consN] using this⟩⟩
theorem sound_buildS {o : Oper} {ty : TypeId} {n : Nat} {ps : Array (Nat × Operand)} (h : o.op = .buildSlice ty n ps) : Sound P o (lowerOp P o) := by
  simp only [lowerOp, h]
  split
  · rename_i e hty
    split
    · rename_i s z hs hz
      split
      · rename_i hc
        intro w0 w B H t G ρ Q hρ hk h0 hQ
        obtain ⟨cs, hcs, hnew⟩ := newS_elim (r := fillV t (ps.toList.map fun (i, x) => (i * s, s, x)) (some (List.replicate n z).flatten)) (mk := fun r _ => .slice (some ⟨r, 0, none⟩) n n) hk h0 (f := fun N => stepOp B G ⟨t, H, N⟩ (.buildS (List.replicate n z).flatten n (ps.toList.map fun (i, x) => (i * s, s, x))))
          (fun N => by simp only [stepOp, buildSV] <;> rfl) hQ
        obtain ⟨h1, h2⟩ := hnew e
        refine ⟨_, _, _, .inl ?_, h1, h2⟩
        obtain ⟨zv, hzv, hzc⟩ := run_zero hz w
        have hzs := zeros (n := n) hzc hc.1 hc.2.1
        have hfill := fill_arr (t := t) s (parts := ps.toList) (A := (Array.range (n * s)).map (zv.cells[· % zv.cells.size]!)) (z := cs) (by rw [hzs]; exact hcs)
        have hbig : ¬ n * s > 2 ^ 24 := by omega
        simp only [execOp, h, Instr.buildSlice, Sem.run_bind, run_underlying hty, Result.andThen_ok, run_sizeOf hs, if_neg hbig, map_parts hρ]
        by_cases h00 : n * s = 0
        · have e0 : ∀ f : Nat → Value, (Array.range (n * s)).map f = #[] := fun f => by rw [h00]; simp
          rw [e0] at hfill
          simp only [if_pos h00, Sem.run_pure, Result.andThen_ok, e0, hfill]
          simp [newRow]
        · simp only [if_neg h00, Sem.run_bind, hzv, Result.andThen_ok, Sem.run_pure, hfill]
          simp [newRow]
      · exact sound_bad
    · exact sound_bad
  · exact sound_bad
end Go.Proofs.Ytffmiglkkfcpmaa.K
namespace Go.Proofs.Ytffmiglkkfcpmaa.K
variable {P : Program} {w0 w : World} {B : OH} {H : HL} {t : List Value} {G : Nat → Cs}

theorem sound_slc {o : Oper} {ty : TypeId} {x : Operand} {a b c : Option Operand} (h : o.op = .slice ty x a b c) : Sound P o (lowerOp P o) := by simp only [lowerOp, h]; exact sound_bad
theorem sound_mks {o : Oper} {ty : TypeId} {a b : Operand} (h : o.op = .makeSlice ty a b) : Sound P o (lowerOp P o) := by simp only [lowerOp, h]; exact sound_bad
theorem sound_app {o : Oper} {c : Call} (h : o.op = .call c) (hc : c.callee = .builtin .append) : Sound P o (lowerOp P o) := by simp only [lowerOp, h, hc]; exact sound_bad

theorem isCall_or (P : Program) (o : Oper) : Sound P o (lowerOp P o) ∨ ∃ c f, o.op = .call c ∧ c.callee = .value f ∧ lowerOp P o = .call f c.args.toList := by
  cases ho : o.op with
  | call c =>
    cases hc : c.callee with
    | value f => exact .inr ⟨c, f, rfl, hc, by simp [lowerOp, ho, hc]⟩
    | invoke r m => left; simp only [lowerOp, ho, hc]; exact sound_bad
    | builtin b =>
      left
      by_cases hb : b = .append
      · subst hb; exact sound_app ho hc
      · simp only [lowerOp, ho, hc]
        cases b <;> first | (exact sound_bad) | (exact (hb rfl).elim) | skip
        · -- len
          simp only
          cases ht : c.argTypes[0]? with
          | none => simp only [Option.bind_none]; exact sound_bad
          | some ty =>
            simp only [Option.bind_some]
            split
            · rename_i e x hu ha; exact sound_len ho hc ha ht (.inr ⟨rfl, e, hu⟩)
            · rename_i x hu ha; exact sound_len ho hc ha ht (.inl ⟨rfl, hu⟩)
            · exact sound_bad
        · exact sound_mm (mx := true) ho hc
        · exact sound_mm (mx := false) ho hc
  | move x => left; simp only [lowerOp, ho]; exact sound_mv (.inl ho)
  | assign x => left; simp only [lowerOp, ho]; exact sound_mv (.inr ho)
  | pick c a b => left; simp only [lowerOp, ho]; exact sound_pick ho
  | alloc e =>
    left; simp only [lowerOp, ho]
    split
    · rename_i z hz; exact sound_alloc ho hz
    · exact sound_bad
  | box e x => left; simp only [lowerOp, ho]; exact sound_box ho
  | build ty ps => exact .inl (sound_build ho)
  | buildSlice ty n ps => exact .inl (sound_buildS ho)
  | load ty x =>
    left; simp only [lowerOp, ho]
    split
    · rename_i g n hg hn; exact sound_load ho hg hn rfl
    · exact sound_bad
  | store ty a x =>
    left; simp only [lowerOp, ho]
    split
    · rename_i n hn; exact sound_store ho hn
    · exact sound_bad
  | nilCheck x => left; simp only [lowerOp, ho]; exact sound_nilck ho
  | binOp op ty x y u =>
    left
    simp only [lowerOp, ho, lowerBin]
    cases op <;> simp only <;> first
      | (refine sound_bin ho ?_; intro h; rcases h with h | h <;> cases h; done)
      | (split
         · rename_i k hk; exact sound_bin ho (fun _ => .inr ⟨k, hk⟩)
         · rename_i hk; exact sound_bin ho (fun _ => .inl hk)
         · rename_i hk; exact sound_eqb ho rfl hk
         · rename_i e hk; exact sound_eqp ho rfl hk
         all_goals first
           | (exact sound_bad)
           | (rename_i hk; split
              · exact sound_bad
              · rename_i hg
                split
                · rename_i ls hl; exact sound_eqA ho rfl (by simp [aggB, hk]) (by simpa using hg) hl
                · exact sound_bad))
  | unOp op ty x => left; simp only [lowerOp, ho]; exact sound_un ho
  | convert a b x =>
    left; simp only [lowerOp, ho]
    split
    · rename_i k j h1 h2; exact sound_conv ho h1 h2
    · exact sound_bad
  | field ty x i =>
    left; simp only [lowerOp, ho]
    split
    · rename_i fs hty
      split
      · rename_i f hf
        split
        · rename_i g n hg hn; exact sound_field ho hty hf hg hn rfl
        · exact sound_bad
      · exact sound_bad
    · exact sound_bad
  | index ty x i =>
    left; simp only [lowerOp, ho]
    split
    · rename_i len e hty
      split
      · rename_i g n hg hn; exact sound_idxA ho hty hg hn
      · exact sound_bad
    · exact sound_bad
  | fieldAddr ty x i =>
    left; simp only [lowerOp, ho]
    split
    · rename_i fs hty
      split
      · rename_i f hf
        split
        · rename_i n hn; exact sound_faddr ho hty hf hn
        · exact sound_bad
      · exact sound_bad
    · exact sound_bad
  | indexAddr ty x i =>
    left; simp only [lowerOp, ho]
    split
    · rename_i e hty
      split
      · rename_i n hn; exact sound_iaddrS ho hty hn
      · exact sound_bad
    · rename_i len e hty
      split
      · rename_i n hn; exact sound_iaddrA ho hty hn
      · exact sound_bad
    · exact sound_bad
  | slice ty x a b c => exact .inl (sound_slc ho)
  | extract x i => left; simp only [lowerOp, ho]; exact sound_ext ho
  | makeSlice ty a b => exact .inl (sound_mks ho)
  | makeInterface ty x =>
    left; simp only [lowerOp, ho]
    split
    · exact sound_bad
    · rename_i d hn hd; exact sound_ifc ho hd (fun m e => hn m (by rw [← e]))
    · exact sound_bad
  | makeFunc f a b => left; simp only [lowerOp, ho]; exact sound_fn ho
  | _ => left; simp only [lowerOp, ho]; exact sound_bad
end Go.Proofs.Ytffmiglkkfcpmaa.K
namespace Go.Proofs.Ytffmiglkkfcpmaa.K
variable {P : Program} {w0 w : World} {B : OH} {H : HL} {t : List Value} {G : Nat → Cs}

theorem gt_eq (t : List Value) (i : Nat) : gt t i = t.toArray.getD i undef := by
  induction t generalizing i with
  | nil => simp [gt]
  | cons x l ih => cases i with
    | zero => simp [gt]
    | succ i => simp only [gt, ih]; simp [Array.getD_eq_getD_getElem?]
theorem st_eq (t : List Value) (i : Nat) (v : Value) : (st t i v).toArray = t.toArray.setIfInBounds i v := by
  have : ∀ (t : List Value) (i : Nat), st t i v = t.set i v := by
    intro t
    induction t with
    | nil => intro i; simp [st]
    | cons x l ih => intro i; cases i with
      | zero => simp [st]
      | succ i => simp [st, ih]
  rw [this]; simp
theorem eval_eq (t : List Value) (ds : List Deferred) (x : Operand) : (Act.mk t.toArray ds).eval x = ev t x := by
  cases x <;> simp only [Act.eval, ev]
  rw [gt_eq]
theorem put_eq (t : List Value) (ds : List Deferred) (d : Option Tmp) (v : Value) : (Act.mk t.toArray ds).put d v = Act.mk (putT t d v).toArray ds := by
  cases d with
  | none => rfl
  | some d => simp only [Act.put, putT, st_eq]

def Enter (P : Program) (k : Nat) : Prop := ∀ args w, (callFunc k args).run P w = .ok (.enter k args) w
def SoundC (P : Program) (w0 : World) (B : OH) (k : Nat) (g : Cs) : Prop :=
  ∀ (H : HL) (args : List Value) (Q : Res → Prop) (w : World), ¬ Q none → (∀ N, good B H N → Q (g args H N)) → Knows w0 (den H B) w →
    Calls P k args.toArray w fun e w' => ∃ v H', e = .returned v ∧ Knows w0 (den H' B) w' ∧ ∀ N', good B H' N' → Q (some (v, H', N'))
def SoundG (P : Program) (w0 : World) (B : OH) (G : Nat → Cs) : Prop := ∀ k, (∀ args H N, G k args H N = none) ∨ (Enter P k ∧ SoundC P w0 B k (G k))

theorem Enter.of {k : Nat} {fn : Func} (hf : P.funcs[k]? = some fn) (hb : fn.body.isSome = true) (hn : (fn.name == "runtime.NumGoroutine") = false) : Enter P k := by
  intro args w
  have hb' : fn.body.isNone = false := by cases h : fn.body <;> simp_all
  simp only [callFunc, Sem.run_bind, run_program, Result.andThen_ok, hf, hn, hb']
  rfl

theorem wanted_eq {all : List Oper} {o : Oper} {g : Option (Tmp × Bool)} (h : guardOf all o.guard = some g) (t : List Value) : Region.wanted o (yielded all.toArray t.toArray) = wantG t g := by
  unfold guardOf at h
  unfold Region.wanted
  cases ho : o.guard with
  | none => simp [ho] at h; subst h; rfl
  | some x =>
    obtain ⟨j, b⟩ := x
    simp only [ho] at h
    cases hd : (all[j]?).bind (·.dst) with
    | none => simp [hd] at h
    | some d =>
      simp only [hd, Option.some.injEq] at h
      subst h
      simp only [wantG, yielded, List.getElem?_toArray, hd, Option.bind_some, gt_eq]
      cases hv : t[d]? with
      | none => simp [hv, isB, undef, Array.getD_eq_getD_getElem?]
      | some v => cases v <;> simp [hv, isB, Array.getD_eq_getD_getElem?]
      
theorem upon_does {o : Oper} {a : Act} {next : Act → World → Prop} {Q : Exit → Act → World → Prop} {v : Value} {w' : World} (hd : Does P a.eval o w v w') (h : next (a.put o.dst v) w') : o.wp P a w next Q := by
  unfold Oper.wp
  rcases hd with hd | ⟨hd, rfl⟩
  · rw [hd]; exact h
  · rw [hd]; exact h

/-- One operation, a call too. -/
theorem op_sound (hG : SoundG P w0 B G) {o : Oper} {lo : LO} (hlo : lowerOp P o = lo) {ds : List Deferred} {Q : Res → Prop} (h0 : ¬ Q none) (hk : Knows w0 (den H B) w) (hQ : ∀ N, good B H N → Q (stepOp B G ⟨t, H, N⟩ lo))
    {next : Act → World → Prop} {Qx : Exit → Act → World → Prop} (hn : ∀ v H' w', Knows w0 (den H' B) w' → (∀ N', good B H' N' → Q (some (v, H', N'))) → next (Act.mk (putT t o.dst v).toArray ds) w') :
    o.wp P (Act.mk t.toArray ds) w next Qx := by
  rcases isCall_or P o with hs | ⟨c, f, ho, hc, hl⟩
  · rw [hlo] at hs
    obtain ⟨v, w', H', hd, hk', hq⟩ := hs w0 w B H t G (Act.mk t.toArray ds).eval Q (eval_eq t ds) hk h0 hQ
    exact upon_does hd (by rw [put_eq]; exact hn v H' w' hk' hq)
  · rw [hl] at hlo
    subst hlo
    have hne := res_elim (f := fun N => callV G H N (ev t f) (evs t c.args.toList)) hk h0 hQ
    unfold callV at hne
    split at hne
    · rename_i k first cap hf
      rcases hG k with hnone | ⟨hent, hsound⟩
      · exact (hne (hnone _ _ _)).elim
      · have hq : ∀ N, good B H N → Q (G k (first.toList ++ evs t c.args.toList ++ cap.toList) H N) := fun N hN => by
          have := hQ N hN
          simpa only [stepOp, callV, hf] using this
        have hcall := hsound H _ Q w h0 hq hk
        unfold Oper.wp
        have hrun : (execOp (Act.mk t.toArray ds).eval o).run P w = .ok (.enter k (first ++ c.args.map (Act.mk t.toArray ds).eval ++ cap)) w := by
          obtain ⟨callee, cargs, ts⟩ := c
          simp only at hc
          subst hc
          simp only [execOp, ho, resolve, eval_eq, hf, Deferred.ofValue, Sem.run_bind, Sem.run_pure, Result.andThen_ok, invoke]
          exact hent _ _
        rw [hrun, Oper.upon_enter]
        have hargs : first ++ c.args.map (Act.mk t.toArray ds).eval ++ cap = (first.toList ++ evs t c.args.toList ++ cap.toList).toArray := by
          apply Array.ext'
          have : (Act.mk t.toArray ds).eval = ev t := funext (eval_eq t ds)
          simp [this, evs_map]
        rw [hargs]
        refine hcall.mono fun e w' ⟨v, H', he, hk', hq'⟩ => ?_
        subst he
        show next _ w'
        rw [put_eq]
        exact hn v H' w' hk' hq'
    · exact (hne rfl).elim

theorem exOps_sound (hG : SoundG P w0 B G) {all : List Oper} {ds : List Deferred} {Q : Option S → Prop} (h0 : ¬ Q none) {Qx : Exit → Act → World → Prop}
    (hQx : ∀ t' H' w', Knows w0 (den H' B) w' → (∀ N', good B H' N' → Q (some ⟨t', H', N'⟩)) → Qx .normal (Act.mk t'.toArray ds) w') :
    ∀ (l : List Oper) (ll : List LOp) (t : List Value) (H : HL) (w : World), lowerOps P all l = some ll → Knows w0 (den H B) w → (∀ N, good B H N → Q (exOps B G ll (some ⟨t, H, N⟩))) →
      wpList P all.toArray Qx l (Act.mk t.toArray ds) w
  | [], ll, t, H, w, hl, hk, hQ => by
    simp only [lowerOps, Option.some.injEq] at hl
    subst hl
    exact hQx t H w hk hQ
  | o :: l, ll, t, H, w, hl, hk, hQ => by
    simp only [lowerOps] at hl
    split at hl
    · rename_i g r hg hr
      simp only [Option.some.injEq] at hl
      subst hl
      unfold wpList
      rw [wanted_eq hg t]
      cases hw : wantG t g with
      | true =>
        rw [if_pos rfl]
        left
        refine op_sound hG (lo := lowerOp P o) rfl (Q := fun res => Q (exOps B G r (putS t o.dst res))) ?_ hk ?_ ?_
        · simpa [putS, exOps] using h0
        · intro N hN
          have := hQ N hN
          simpa [exOps, stepS, hw] using this
        · intro v H' w' hk' hq
          exact exOps_sound hG h0 hQx l r _ H' w' hr hk' hq
      | false =>
        rw [if_neg (by simp), put_eq]
        refine exOps_sound hG h0 hQx l r _ H w hr hk fun N hN => ?_
        have := hQ N hN
        simpa [exOps, stepS, hw, putS] using this
    · cases hl

end Go.Proofs.Ytffmiglkkfcpmaa.K
namespace Go.Proofs.Ytffmiglkkfcpmaa.K
variable {P : Program} {w0 w : World} {B : OH} {H : HL} {t : List Value} {G : Nat → Cs}

/-! ### Regions that draw their order -/
theorem gt_st (l : List Value) (i j : Nat) (v : Value) : gt (st l i v) j = if i = j then (if i < l.length then v else undef) else gt l j := by
  induction l generalizing i j with
  | nil => simp [st, gt]
  | cons x l ih => cases i with
    | zero => cases j <;> simp [st, gt]
    | succ i => cases j with
      | zero => simp [st, gt]
      | succ j => simp only [st, gt, ih, Nat.add_right_cancel_iff, List.length_cons, Nat.add_lt_add_iff_right]
theorem length_st (l : List Value) (i : Nat) (v : Value) : (st l i v).length = l.length := by
  induction l generalizing i with
  | nil => rfl
  | cons x l ih => cases i <;> simp [st, ih]
theorem ext_gt : ∀ {l m : List Value}, l.length = m.length → (∀ i, gt l i = gt m i) → l = m
  | [], [], _, _ => rfl
  | [], _ :: _, h, _ => by cases h
  | _ :: _, [], h, _ => by cases h
  | x :: l, y :: m, h, hg => by
    have h0 := hg 0
    simp only [gt] at h0
    have h1 : l = m := ext_gt (by simpa using h) (fun i => by simpa only [gt] using hg (i + 1))
    rw [h0, h1]

theorem oT_congr {t t' : List Value} {x : Operand} (h : ∀ i ∈ oT x, gt t i = gt t' i) : ev t x = ev t' x := by
  cases x <;> simp_all [oT, ev]
theorem evs_congr {t t' : List Value} : ∀ {l : List Operand}, (∀ i ∈ oTs l, gt t i = gt t' i) → evs t l = evs t' l
  | [], _ => rfl
  | x :: l, h => by
    simp only [oTs, List.mem_append] at h
    have e1 : ev t x = ev t' x := oT_congr fun i hi => h i (.inl hi)
    have e2 : evs t l = evs t' l := evs_congr fun i hi => h i (.inr hi)
    simp only [evs, e1, e2]
theorem fillV_congr {t t' : List Value} : ∀ {l : List (Nat × Nat × Operand)} {z : Option (List Value)}, (∀ i ∈ pTs l, gt t i = gt t' i) → fillV t l z = fillV t' l z
  | [], _, _ => rfl
  | (o, n, x) :: l, z, h => by
    simp only [pTs, List.mem_append] at h
    cases z with
    | none => rfl
    | some z =>
      have e1 : ev t x = ev t' x := oT_congr (fun i hi => h i (.inl hi))
      have e2 : ∀ z, fillV t l z = fillV t' l z := fun z => fillV_congr (fun i hi => h i (.inr hi))
      simp only [fillV, e1, e2]
theorem wantG_congr {t t' : List Value} {g : Option (Tmp × Bool)} (h : ∀ i ∈ gT g, gt t i = gt t' i) : wantG t g = wantG t' g := by
  cases g with
  | none => rfl
  | some x => obtain ⟨j, b⟩ := x; simp [wantG, h j (by simp [gT])]
theorem stepOp_congr {t t' : List Value} {H : HL} {N : St} {lo : LO} (h : ∀ i ∈ lo.tmps, gt t i = gt t' i) : stepOp B G ⟨t, H, N⟩ lo = stepOp B G ⟨t', H, N⟩ lo := by
  cases lo <;> simp only [LO.tmps, List.mem_append] at h <;> simp only [stepOp]
  case mv x => rw [oT_congr h]
  case pick c a b => rw [oT_congr fun i hi => h i (.inl hi), oT_congr fun i hi => h i (.inr (.inl hi)), oT_congr fun i hi => h i (.inr (.inr hi))]
  case box x => rw [oT_congr h]
  case build z ps => rw [fillV_congr h]
  case buildS z n ps => rw [fillV_congr h]
  case load g n x => rw [oT_congr h]
  case store n a x => rw [oT_congr fun i hi => h i (.inl hi), oT_congr fun i hi => h i (.inr hi)]
  case nilck x => rw [oT_congr h]
  case bin op x y => rw [oT_congr fun i hi => h i (.inl hi), oT_congr fun i hi => h i (.inr hi)]
  case eqb n x y => rw [oT_congr fun i hi => h i (.inl hi), oT_congr fun i hi => h i (.inr hi)]
  case eqA n ls x y => rw [oT_congr fun i hi => h i (.inl hi), oT_congr fun i hi => h i (.inr hi)]
  case eqp n x y => rw [oT_congr fun i hi => h i (.inl hi), oT_congr fun i hi => h i (.inr hi)]
  case un op x => rw [oT_congr h]
  case conv k x => rw [oT_congr h]
  case field g off n x => rw [oT_congr h]
  case idxA g es len x i => rw [oT_congr fun i hi => h i (.inl hi), oT_congr fun i hi => h i (.inr hi)]
  case faddr off x => rw [oT_congr h]
  case iaddrS es x i => rw [oT_congr fun i hi => h i (.inl hi), oT_congr fun i hi => h i (.inr hi)]
  case iaddrA es len x i => rw [oT_congr fun i hi => h i (.inl hi), oT_congr fun i hi => h i (.inr hi)]
  case ext x i => rw [oT_congr h]
  case len s x => rw [oT_congr h]
  case mm mx xs => rw [evs_congr h]
  case call f args => rw [oT_congr fun i hi => h i (.inl hi), evs_congr fun i hi => h i (.inr hi)]
  case ifc ty x => rw [oT_congr h]
  case fn f a b => rw [evs_congr fun i hi => h i (.inl hi), evs_congr fun i hi => h i (.inr hi)]

theorem light_step {s : S} {lo : LO} (h : isLight lo = true) : stepOp B G s lo = pv (lightV B s.t s.H lo) s.H s.N := by
  cases lo <;> first | rfl | (simp [isLight] at h)
theorem light_congr {t t' : List Value} {H : HL} {lo : LO} (hl : isLight lo = true) (h : ∀ i ∈ lo.tmps, gt t i = gt t' i) : lightV B t H lo = lightV B t' H lo := by
  have h1 := light_step (B := B) (G := fun _ _ _ _ => none) (s := ⟨t, H, fun i => i⟩) hl
  have h2 := light_step (B := B) (G := fun _ _ _ _ => none) (s := ⟨t', H, fun i => i⟩) hl
  rw [stepOp_congr h, h2] at h1
  cases e1 : lightV B t H lo <;> cases e2 : lightV B t' H lo <;> simp_all [pv]
theorem light_pure {t : List Value} {H H' : HL} {lo : LO} (hr : isRead lo = false) : lightV B t H lo = lightV B t H' lo := by
  cases lo <;> first | rfl | (simp [isRead] at hr)

/-- A light operation, at what is known. -/
theorem light_sound (hG : SoundG P w0 B G) {o : Oper} {lo : LO} (hlo : lowerOp P o = lo) {ds : List Deferred} {v : Value} (hl : isLight lo = true) (hk : Knows w0 (den H B) w) (hv : lightV B t H lo = some v)
    {next : Act → World → Prop} {Qx : Exit → Act → World → Prop} (hn : ∀ w', Knows w0 (den H B) w' → next (Act.mk (putT t o.dst v).toArray ds) w') : o.wp P (Act.mk t.toArray ds) w next Qx := by
  refine op_sound hG hlo (Q := fun r => ∃ N, r = some (v, H, N)) (by simp) hk (fun N hN => ⟨N, by rw [light_step hl, hv]; rfl⟩) ?_
  intro v' H' w' hk' hq
  obtain ⟨N, hN⟩ := hq _ (good_of hk')
  simp only [Option.some.injEq, Prod.mk.injEq] at hN
  obtain ⟨rfl, rfl, _⟩ := hN
  exact hn w' hk'


theorem watch_none {ws : List LOp} : watchS B ws none = none := by cases ws <;> rfl
theorem watch_spec : ∀ {ws : List LOp} {s s' : S}, watchS B ws (some s) = some s' → s' = s ∧ ∀ d op g, ⟨some d, op, g⟩ ∈ ws → wantG s.t g = true → lightV B s.t s.H op = some (gt s.t d)
  | [], s, s', h => by simp only [watchS, Option.some.injEq] at h; exact ⟨h.symm, fun _ _ _ hm => by cases hm⟩
  | ⟨none, op, g⟩ :: ws, s, s', h => by simp [watchS] at h
  | ⟨some d, op, g⟩ :: ws, s, s', h => by
    simp only [watchS] at h
    cases hw : wantG s.t g with
    | false =>
      simp only [hw, cond_false] at h
      obtain ⟨h1, h2⟩ := watch_spec h
      refine ⟨h1, fun d' op' g' hm hw' => ?_⟩
      rcases List.mem_cons.1 hm with e | hm
      · cases e; rw [hw] at hw'; cases hw'
      · exact h2 _ _ _ hm hw'
    | true =>
      simp only [hw, cond_true, eqS] at h
      split at h
      · rename_i hv
        obtain ⟨h1, h2⟩ := watch_spec h
        refine ⟨h1, fun d' op' g' hm hw' => ?_⟩
        rcases List.mem_cons.1 hm with e | hm
        · cases e; exact hv
        · exact h2 _ _ _ hm hw'
      · rw [watch_none] at h; cases h
theorem exDraw_none : ∀ {l : List DOp}, exDraw B G l none = none
  | [] => rfl
  | _ :: _ => rfl

/-- What is checked of a region. -/
structure Fits (ops : List Oper) (ll : List LOp) (A : Nat → Nat → Bool) (hv : Nat → Bool) (c : List Nat) : Prop where
  len : ll.length = ops.length
  all : ∀ i, i < ops.length → i ∈ c
  lt : ∀ i ∈ c, i < ops.length
  topo : ∀ u i v, c = u ++ i :: v → i ∉ u ∧ ∀ j ∈ predsOf ops i, j ∈ u
  anc : ∀ i j, A i j = true → ∃ e ∈ predsOf ops i, e = j ∨ (e < i ∧ A e j = true)
  light : ∀ (i : Nat) (o : LOp), hv i = false → ll[i]? = some o → isLight o.op = true ∧ ∃ x, o.dst = some x
  after : ∀ u h v, c = u ++ h :: v → hv h = true → ∀ j ∈ v, A j h = true
  readL : ∀ (i : Nat) (o : LOp) (j : Nat) (o' : LOp) (x : Tmp), hv i = false → ll[i]? = some o → ll[j]? = some o' → o'.dst = some x → x ∈ o.tmps → j ≠ i ∧ (j ∈ predsOf ops i ∨ (hv j = true ∧ (A i j = true ∨ A j i = true)))
  readH : ∀ (i : Nat) (o : LOp) (j : Nat) (o' : LOp) (x : Tmp), hv i = true → ll[i]? = some o → ll[j]? = some o' → o'.dst = some x → x ∈ o.tmps → j = i ∨ j ∈ predsOf ops i ∨ hv j = true ∨ A j i = true
  once : ∀ (i : Nat) (o : LOp) (j : Nat) (o' : LOp) (x : Tmp), ll[i]? = some o → ll[j]? = some o' → o.dst = some x → o'.dst = some x → i = j

def On (listed : Array Bool) (i : Nat) : Prop := listed.getD i false = true
theorem on_set {listed : Array Bool} {i j : Nat} (hi : i < listed.size) : On (listed.setIfInBounds i true) j ↔ j = i ∨ On listed j := by
  unfold On
  rw [Array.getD_eq_getD_getElem?, Array.getD_eq_getD_getElem?, Array.getElem?_setIfInBounds]
  by_cases h : i = j
  · subst h; simp [hi]
  · simp [h, Ne.symm h]
theorem anc_on {ops : List Oper} {ll A hv c} (F : Fits ops ll A hv c) {listed : Array Bool} (hcl : ∀ i, On listed i → ∀ j ∈ predsOf ops i, On listed j) : ∀ (i : Nat), (∀ j ∈ predsOf ops i, On listed j) → ∀ j, A i j = true → On listed j := by
  intro i
  induction i using Nat.strongRecOn with
  | _ i ih =>
    intro hp j hj
    obtain ⟨e, he, hej⟩ := F.anc i j hj
    rcases hej with rfl | ⟨hlt, hej⟩
    · exact hp _ he
    · exact ih e hlt (hcl e (hp e he)) j hej
theorem mem_ready {ops : List Oper} {listed : Array Bool} (hs : listed.size = ops.length) {i : Nat} : i ∈ Region.ready .any ops.toArray listed ↔ i < ops.length ∧ ¬ On listed i ∧ ∀ j ∈ predsOf ops i, On listed j := by
  unfold Region.ready
  simp only [List.mem_filter, List.mem_range, List.size_toArray]
  constructor
  · rintro ⟨h1, h2⟩
    simp only [Bool.and_eq_true, Bool.not_eq_true', List.getElem?_toArray] at h2
    refine ⟨h1, ?_, ?_⟩
    · unfold On
      have : i < listed.size := by omega
      simp [Array.getD, this] at h2 ⊢
      exact h2.1
    · intro j hj
      unfold predsOf at hj
      have ho : ops[i]? = some ops[i] := List.getElem?_eq_getElem h1
      simp only [ho] at hj h2
      simp only [Option.map_some, Option.getD_some] at h2
      obtain ⟨e, he, rfl⟩ := List.mem_map.1 hj
      obtain ⟨he1, he2⟩ := List.mem_filter.1 he
      have := Array.all_eq_true_iff_forall_mem.1 h2.2 e (by simpa using he1)
      rw [he2] at this
      exact (show listed.getD e.on false = true by simpa using this)
  · rintro ⟨h1, h2, h3⟩
    refine ⟨h1, ?_⟩
    have ho : ops[i]? = some ops[i] := List.getElem?_eq_getElem h1
    simp only [Bool.and_eq_true, Bool.not_eq_true', List.getElem?_toArray, ho, Option.map_some, Option.getD_some]
    constructor
    · have : i < listed.size := by omega
      unfold On at h2
      simpa [Array.getD, this] using h2
    · rw [Array.all_eq_true_iff_forall_mem]
      intro e he
      cases hb : Region.binds .any e with
      | false => rfl
      | true =>
        have : On listed e.on := h3 e.on (by
          unfold predsOf
          simp only [ho]
          exact List.mem_map.2 ⟨e, List.mem_filter.2 ⟨by simpa using he, hb⟩, rfl⟩)
        unfold On at this
        rw [this]; rfl

/-- How many are still to come. -/
def left (n : Nat) (listed : Array Bool) : Nat := ((List.range n).filter fun i => !listed.getD i false).length
theorem left_set {n : Nat} {listed : Array Bool} {i : Nat} (hs : listed.size = n) (hi : i < n) (hn : ¬ On listed i) : left n (listed.setIfInBounds i true) + 1 = left n listed := by
  unfold left
  have key : ∀ (l : List Nat), l.Nodup → (i ∈ l → (l.filter fun j => !(listed.setIfInBounds i true).getD j false).length + 1 = (l.filter fun j => !listed.getD j false).length) ∧
      (i ∉ l → (l.filter fun j => !(listed.setIfInBounds i true).getD j false).length = (l.filter fun j => !listed.getD j false).length) := by
    intro l
    induction l with
    | nil => exact fun _ => ⟨fun h => absurd h (by simp), fun _ => rfl⟩
    | cons x l ih =>
      intro hnd
      have hx := (List.nodup_cons.1 hnd).1
      have hnd' := (List.nodup_cons.1 hnd).2
      obtain ⟨ih1, ih2⟩ := ih hnd'
      by_cases hxi : x = i
      · subst hxi
        refine ⟨fun _ => ?_, fun h => by simp at h⟩
        have e1 : (listed.setIfInBounds x true).getD x false = true := (on_set (by omega)).2 (.inl rfl)
        have e2 : listed.getD x false = false := by simpa [On] using hn
        rw [List.filter_cons_of_neg (by rw [e1]; simp), List.filter_cons_of_pos (by rw [e2]; rfl), List.length_cons, ih2 hx]
      · have e1 : (listed.setIfInBounds i true).getD x false = listed.getD x false := by
          rw [Array.getD_eq_getD_getElem?, Array.getD_eq_getD_getElem?, Array.getElem?_setIfInBounds, if_neg (Ne.symm hxi)]
        constructor
        · intro hm
          have hm' : i ∈ l := by
            rcases List.mem_cons.1 hm with e | h
            · exact absurd e.symm hxi
            · exact h
          simp only [List.filter_cons, e1]
          split
          · simp only [List.length_cons]; rw [← ih1 hm']
          · exact ih1 hm'
        · intro hm
          have hm' : i ∉ l := fun h => hm (List.mem_cons_of_mem _ h)
          simp only [List.filter_cons, e1]
          split
          · simp only [List.length_cons, ih2 hm']
          · exact ih2 hm'
  exact (key (List.range n) List.nodup_range).1 (List.mem_range.2 hi)
theorem left_zero {n : Nat} {listed : Array Bool} (h : left n listed = 0) : ∀ i, i < n → On listed i := by
  intro i hi
  unfold left at h
  have h0 := List.length_eq_zero_iff.1 h
  have h1 := List.filter_eq_nil_iff.1 h0 i (List.mem_range.2 hi)
  simpa [On] using h1
theorem first_off {p : Nat → Prop} [DecidablePred p] : ∀ (c : List Nat), (∃ i ∈ c, ¬ p i) → ∃ u i v, c = u ++ i :: v ∧ ¬ p i ∧ ∀ j ∈ u, p j
  | [], ⟨_, h, _⟩ => by cases h
  | x :: c, ⟨i, hi, hp⟩ => by
    by_cases hx : p x
    · have : ∃ i ∈ c, ¬ p i := by
        rcases List.mem_cons.1 hi with rfl | h
        · exact (hp hx).elim
        · exact ⟨i, h, hp⟩
      obtain ⟨u, j, v, rfl, h1, h2⟩ := first_off c this
      exact ⟨x :: u, j, v, rfl, h1, fun k hk => by
        rcases List.mem_cons.1 hk with rfl | h
        · exact hx
        · exact h2 k h⟩
    · exact ⟨[], x, c, rfl, hx, fun _ h => by cases h⟩

/-- A light operation that is still to come, though it is done in thought. -/
def Pend (B : OH) (t : List Value) (H : HL) (o : LOp) : Prop :=
  ∃ d, o.dst = some d ∧ if wantG t o.g = true then ∃ v, lightV B t H o.op = some v ∧ gt t d = (if d < t.length then v else undef) else gt t d = undef
theorem Pend.congr {t t' : List Value} {H : HL} {o : LOp} (h : Pend B t H o) (hl : isLight o.op = true) (ht : ∀ x ∈ o.tmps, gt t x = gt t' x) (hd : ∀ d, o.dst = some d → gt t d = gt t' d) (hlen : t.length = t'.length) : Pend B t' H o := by
  obtain ⟨d, h1, h2⟩ := h
  have hw : wantG t o.g = wantG t' o.g := wantG_congr fun i hi => ht i (List.mem_append_right _ hi)
  have hv : lightV B t H o.op = lightV B t' H o.op := light_congr hl fun i hi => ht i (List.mem_append_left _ hi)
  exact ⟨d, h1, by rw [hw, hv, hlen, hd d h1] at h2; exact h2⟩

theorem low_get {all : List Oper} : ∀ {ops : List Oper} {ll : List LOp}, lowerOps P all ops = some ll → ll.length = ops.length ∧ ∀ (i : Nat) o, ops[i]? = some o → ∃ g, ll[i]? = some ⟨o.dst, lowerOp P o, g⟩ ∧ guardOf all o.guard = some g
  | [], ll, h => by simp only [lowerOps, Option.some.injEq] at h; subst h; simp
  | o :: ops, ll, h => by
    simp only [lowerOps] at h
    split at h
    · rename_i g r hg hr
      simp only [Option.some.injEq] at h
      subst h
      obtain ⟨h1, h2⟩ := low_get hr
      refine ⟨by simp [h1], fun i o' hi => ?_⟩
      cases i with
      | zero => simp at hi; subst hi; exact ⟨g, rfl, hg⟩
      | succ i => simpa using h2 i o' (by simpa using hi)
    · cases h

theorem idx_unique {u u' v v' : List Nat} {i : Nat} (h : u ++ i :: v = u' ++ i :: v') (hn : i ∉ u) (hn' : i ∉ u') : u = u' ∧ v = v' := by
  induction u generalizing u' with
  | nil =>
    cases u' with
    | nil => simp at h; exact ⟨rfl, h⟩
    | cons x u' => simp at h; exact absurd (by simp [h.1]) hn'
  | cons y u ih =>
    cases u' with
    | nil => simp at h; exact absurd (by simp [h.1]) hn
    | cons x u' =>
      simp only [List.cons_append, List.cons.injEq] at h
      obtain ⟨rfl, h⟩ := h
      obtain ⟨rfl, rfl⟩ := ih h (fun hh => hn (List.mem_cons_of_mem _ hh)) (fun hh => hn' (List.mem_cons_of_mem _ hh))
      exact ⟨rfl, rfl⟩

section
variable {ops : List Oper} {ll : List LOp} {A : Nat → Nat → Bool} {hv : Nat → Bool} {c : List Nat}

/-- What is kept up while a region runs. -/
structure Inv (w0 : World) (B : OH) (G : Nat → Cs) (ops : List Oper) (ll : List LOp) (A : Nat → Nat → Bool) (hv : Nat → Bool) (c : List Nat) (Q : Option S → Prop)
    (listed : Array Bool) (ta : List Value) (w : World) (done rest : List Nat) (t : List Value) (H : HL) : Prop where
  size : listed.size = ops.length
  split : c = done ++ rest
  inDone : ∀ i, On listed i → i ∈ done
  closed : ∀ i, On listed i → ∀ j ∈ predsOf ops i, On listed j
  heavy : ∀ i ∈ done, hv i = true → On listed i
  len : ta.length = t.length
  agree : ∀ x, (∀ i ∈ done, ¬ On listed i → ∀ o, ll[i]? = some o → o.dst ≠ some x) → gt ta x = gt t x
  pend : ∀ i ∈ done, ¬ On listed i → ∀ o, ll[i]? = some o → Pend B t H o
  knows : Knows w0 (den H B) w
  goal : ∀ N, good B H N → Q (exDraw B G (mkDs ll hv A done rest) (some ⟨t, H, N⟩))

theorem step_light {o : LOp} {s : S} (hl : isLight o.op = true) (hd : ∃ x, o.dst = some x) : stepS B G o s = if wantG s.t o.g = true then (match lightV B s.t s.H o.op with | some v => some ⟨putT s.t o.dst v, s.H, s.N⟩ | none => none) else some ⟨putT s.t o.dst undef, s.H, s.N⟩ := by
  obtain ⟨d, op, g⟩ := o
  obtain ⟨t, H, N⟩ := s
  simp only [stepS]
  cases hw : wantG t g with
  | false => simp [putS]
  | true =>
    simp only [cond_true, if_true]
    rw [light_step hl]
    cases lightV B t H op <;> rfl

/-- A light operation is done in thought. -/
theorem Inv.advance {Q : Option S → Prop} (F : Fits ops ll A hv c) (h0 : ¬ Q none) {listed : Array Bool} {ta : List Value} {done : List Nat} {i : Nat} {rest : List Nat} (I : Inv w0 B G ops ll A hv c Q listed ta w done (i :: rest) t H) (hi : hv i = false) :
    ∃ t', Inv w0 B G ops ll A hv c Q listed ta w (done ++ [i]) rest t' H := by
  have hlt := F.lt i (by rw [I.split]; simp)
  obtain ⟨o, ho⟩ : ∃ o, ll[i]? = some o := ⟨ll[i]'(by rw [F.len]; exact hlt), List.getElem?_eq_getElem _⟩
  obtain ⟨hl, x, hx⟩ := F.light i o hi ho
  obtain ⟨hnd, htopo⟩ := F.topo done i rest I.split
  have hoff : ¬ On listed i := fun h => hnd (I.inDone i h)
  have hgoal : ∀ N, good B H N → Q (exDraw B G (mkDs ll hv A (done ++ [i]) rest) (stepS B G o ⟨t, H, N⟩)) := fun N hN => by
    have := I.goal N hN
    simp only [mkDs, ho, hi, exDraw] at this
    cases hs : stepS B G o ⟨t, H, N⟩ with
    | none => simpa [hs, watch_none, exDraw_none] using this
    | some s => simpa [hs, watchS] using this
  -- its value
  have hval : ∃ v, (wantG t o.g = true → lightV B t H o.op = some v) ∧ (wantG t o.g = false → v = undef) ∧ ∀ N, stepS B G o ⟨t, H, N⟩ = some ⟨st t x v, H, N⟩ := by
    cases hw : wantG t o.g with
    | false => exact ⟨undef, by simp, fun _ => rfl, fun N => by rw [step_light hl ⟨x, hx⟩]; simp [hw, hx, putT]⟩
    | true =>
      cases hlv : lightV B t H o.op with
      | none =>
        refine (h0 ?_).elim
        have := hgoal _ (good_of I.knows)
        rw [step_light hl ⟨x, hx⟩] at this
        simp only [hw, if_true, hlv] at this
        rwa [exDraw_none] at this
      | some v => exact ⟨v, fun _ => rfl, by simp, fun N => by rw [step_light hl ⟨x, hx⟩]; simp [hw, hlv, hx, putT]⟩
  obtain ⟨v, hv1, hv2, hstep⟩ := hval
  have hread : ∀ y ∈ o.tmps, x ≠ y := fun y hy e => by
    subst e
    exact (F.readL i o i o x hi ho ho hx hy).1 rfl
  refine ⟨st t x v, ⟨I.size, by rw [I.split]; simp, fun j hj => List.mem_append_left _ (I.inDone j hj), I.closed, fun j hj hh => ?_, by rw [length_st]; exact I.len, fun y hy => ?_, fun j hj hoffj o' ho' => ?_, I.knows, fun N hN => ?_⟩⟩
  · rcases List.mem_append.1 hj with hj | hj
    · exact I.heavy j hj hh
    · simp at hj; subst hj; rw [hi] at hh; cases hh
  · have hne : x ≠ y := fun e => by
      subst e
      exact hy i (by simp) hoff o ho hx
    rw [gt_st, if_neg hne]
    exact I.agree y (fun j hj => hy j (List.mem_append_left _ hj))
  · rcases List.mem_append.1 hj with hj | hj
    · have hhj : hv j = false := by
        cases h : hv j with
        | false => rfl
        | true => exact absurd (I.heavy j hj h) hoffj
      have hl' := (F.light j o' hhj ho').1
      refine (I.pend j hj hoffj o' ho').congr hl' (fun y hy => ?_) (fun d hd => ?_) (by rw [length_st])
      · rw [gt_st, if_neg]
        intro e
        subst e
        have := (F.readL j o' i o x hhj ho' ho hx hy).2
        rcases this with h | ⟨h, _⟩
        · obtain ⟨u, v', huv⟩ := List.append_of_mem hj
          have := (F.topo u j (v' ++ i :: rest) (by rw [I.split, huv]; simp)).2 i h
          exact hnd (by rw [huv]; exact List.mem_append_left _ this)
        · rw [hi] at h; cases h
      · rw [gt_st, if_neg]
        intro e
        subst e
        have := F.once i o j o' x ho ho' hx hd
        subst this
        exact hnd hj
    · simp at hj
      subst hj
      rw [ho] at ho'
      cases ho'
      have hcg : ∀ y ∈ o.tmps, gt t y = gt (st t x v) y := fun y hy => by rw [gt_st, if_neg (hread y hy)]
      have hw' : wantG (st t x v) o.g = wantG t o.g := (wantG_congr fun y hy => hcg y (List.mem_append_right _ hy)).symm
      have hl' : lightV B (st t x v) H o.op = lightV B t H o.op := (light_congr hl fun y hy => hcg y (List.mem_append_left _ hy)).symm
      refine ⟨x, hx, ?_⟩
      rw [hw', hl']
      cases hw : wantG t o.g with
      | true => simp only [if_true]; exact ⟨v, hv1 hw, by rw [gt_st, if_pos rfl, length_st]⟩
      | false => simp only [Bool.false_eq_true, if_false]; rw [gt_st, if_pos rfl, hv2 hw]; split <;> rfl
  · have := hgoal N hN
    rwa [hstep] at this

theorem anc_before (F : Fits ops ll A hv c) {h : Nat} : ∀ (j : Nat) (u v : List Nat), c = u ++ j :: v → A j h = true → h ∈ u := by
  intro j
  induction j using Nat.strongRecOn with
  | _ j ih =>
    intro u v hc hA
    obtain ⟨e, he, hej⟩ := F.anc j h hA
    have heu := (F.topo u j v hc).2 e he
    rcases hej with rfl | ⟨hlt, hA'⟩
    · exact heu
    · obtain ⟨u1, u2, rfl⟩ := List.append_of_mem heu
      exact List.mem_append_left _ (ih e hlt u1 (u2 ++ j :: v) (by rw [hc]; simp) hA')
theorem gt_ge : ∀ {l : List Value} {i : Nat}, l.length ≤ i → gt l i = undef
  | [], _, _ => rfl
  | x :: l, 0, h => by simp at h
  | x :: l, i + 1, h => by simp only [gt]; exact gt_ge (by simpa using h)
theorem watchesOf_mem {h j : Nat} {o : LOp} (ho : ll[j]? = some o) (h1 : hv j = false) (h2 : isRead o.op = true) (h3 : A h j = false) : ∀ {done : List Nat}, j ∈ done → o ∈ watchesOf ll hv A h done
  | r :: done, hm => by
    unfold watchesOf
    rcases List.mem_cons.1 hm with rfl | hm
    · simp [ho, h1, h2, h3]
    · have ih := watchesOf_mem ho h1 h2 h3 hm
      split
      · split
        · exact List.mem_cons_of_mem _ ih
        · exact ih
      · exact ih

/-- What a pending operation reads, and what else, is as in thought. -/
theorem Inv.agreeL {Q : Option S → Prop} (F : Fits ops ll A hv c) {listed : Array Bool} {ta : List Value} {done rest : List Nat} (I : Inv w0 B G ops ll A hv c Q listed ta w done rest t H) {i : Nat} (hi : hv i = false) {o : LOp} (ho : ll[i]? = some o) (hp : ∀ j ∈ predsOf ops i, On listed j) :
    ∀ x ∈ o.tmps, gt ta x = gt t x := by
  intro x hx
  refine I.agree x fun j hj hoff o' ho' he => ?_
  rcases (F.readL i o j o' x hi ho ho' he hx).2 with h | ⟨h, _⟩
  · exact hoff (hp j h)
  · exact hoff (I.heavy j hj h)
theorem Inv.agreeH {Q : Option S → Prop} (F : Fits ops ll A hv c) {listed : Array Bool} {ta : List Value} {done rest : List Nat} {i : Nat} (I : Inv w0 B G ops ll A hv c Q listed ta w done (i :: rest) t H) (hi : hv i = true) {o : LOp} (ho : ll[i]? = some o) (hp : ∀ j ∈ predsOf ops i, On listed j) :
    ∀ x ∈ o.tmps, gt ta x = gt t x := by
  intro x hx
  have hnd := (F.topo done i rest I.split).1
  refine I.agree x fun j hj hoff o' ho' he => ?_
  rcases F.readH i o j o' x hi ho ho' he hx with h | h | h | h
  · subst h; exact hnd hj
  · exact hoff (hp j h)
  · exact hoff (I.heavy j hj h)
  · obtain ⟨u, v, huv⟩ := List.append_of_mem hj
    have := anc_before F j u (v ++ i :: rest) (by rw [I.split, huv]; simp) h
    exact hnd (by rw [huv]; exact List.mem_append_left _ this)

/-- A pending operation is done. -/
theorem Inv.lightStep {Q : Option S → Prop} (F : Fits ops ll A hv c) {listed : Array Bool} {ta : List Value} {done rest : List Nat} (I : Inv w0 B G ops ll A hv c Q listed ta w done rest t H) {i : Nat} (hlt : i < ops.length) (hd : i ∈ done) (hoff : ¬ On listed i) (hp : ∀ j ∈ predsOf ops i, On listed j) {o : LOp} (ho : ll[i]? = some o) {x : Tmp} (hx : o.dst = some x) {v : Value}
    (hv' : gt t x = if x < t.length then v else undef) {w' : World} (hk : Knows w0 (den H B) w') : Inv w0 B G ops ll A hv c Q (listed.setIfInBounds i true) (st ta x v) w' done rest t H := by
  have hset : ∀ j, On (listed.setIfInBounds i true) j ↔ j = i ∨ On listed j := fun j => on_set (by rw [I.size]; exact hlt)
  refine ⟨by simpa using I.size, I.split, fun j hj => ?_, fun j hj k hk' => ?_, fun j hj hh => (hset j).2 (.inr (I.heavy j hj hh)), by rw [length_st]; exact I.len, fun y hy => ?_, fun j hj hoffj o' ho' => I.pend j hj (fun h => hoffj ((hset j).2 (.inr h))) o' ho', hk, I.goal⟩
  · rcases (hset j).1 hj with rfl | h
    · exact hd
    · exact I.inDone j h
  · rcases (hset j).1 hj with rfl | h
    · exact (hset k).2 (.inr (hp k hk'))
    · exact (hset k).2 (.inr (I.closed j h k hk'))
  · rw [gt_st]
    by_cases hxy : x = y
    · subst hxy
      rw [if_pos rfl, I.len, hv']
    · rw [if_neg hxy]
      refine I.agree y fun j hj hoffj o' ho' he => ?_
      by_cases hji : j = i
      · subst hji
        rw [ho] at ho'
        cases ho'
        rw [hx] at he
        exact hxy (by simpa using he)
      · exact hy j hj (fun h => by rcases (hset j).1 h with h | h; exact hji h; exact hoffj h) o' ho' he

/-- A heavy operation is done. -/
theorem Inv.heavyStep {Q : Option S → Prop} (F : Fits ops ll A hv c) (h0 : ¬ Q none) {listed : Array Bool} {ta : List Value} {done rest : List Nat} {i : Nat} (I : Inv w0 B G ops ll A hv c Q listed ta w done (i :: rest) t H) (hi : hv i = true) (hp : ∀ j ∈ predsOf ops i, On listed j) {o : LOp} (ho : ll[i]? = some o)
    {v : Value} {H' : HL} {w' : World} (hk : Knows w0 (den H' B) w') (hq : ∀ N, good B H' N → Q (exDraw B G (mkDs ll hv A (done ++ [i]) rest) (watchS B (watchesOf ll hv A i done) (some ⟨putT t o.dst v, H', N⟩)))) :
    Inv w0 B G ops ll A hv c Q (listed.setIfInBounds i true) (putT ta o.dst v) w' (done ++ [i]) rest (putT t o.dst v) H' := by
  have hlt := F.lt i (by rw [I.split]; simp)
  have hset : ∀ j, On (listed.setIfInBounds i true) j ↔ j = i ∨ On listed j := fun j => on_set (by rw [I.size]; exact hlt)
  obtain ⟨hnd, htopo⟩ := F.topo done i rest I.split
  have hw : ∀ N, good B H' N → watchS B (watchesOf ll hv A i done) (some ⟨putT t o.dst v, H', N⟩) = some ⟨putT t o.dst v, H', N⟩ := fun N hN => by
    have := hq N hN
    cases hs : watchS B (watchesOf ll hv A i done) (some ⟨putT t o.dst v, H', N⟩) with
    | none => rw [hs, exDraw_none] at this; exact (h0 this).elim
    | some s' => rw [(watch_spec hs).1]
  have hfacts := (watch_spec (hw _ (good_of hk))).2
  have hlenp : ∀ (l : List Value), (putT l o.dst v).length = l.length := fun l => by cases o.dst <;> simp [putT, length_st]
  have hgt : ∀ (l : List Value) (y : Tmp), o.dst ≠ some y → gt (putT l o.dst v) y = gt l y := fun l y hy => by
    cases hd : o.dst with
    | none => rfl
    | some d => simp only [putT]; rw [gt_st, if_neg (fun e => hy (by rw [hd, e]))]
  refine ⟨by simpa using I.size, by rw [I.split]; simp, fun j hj => ?_, fun j hj k hk' => ?_, fun j hj hh => ?_, by rw [hlenp, hlenp]; exact I.len, fun y hy => ?_, fun j hj hoffj o' ho' => ?_, hk, fun N hN => ?_⟩
  · rcases (hset j).1 hj with rfl | h
    · simp
    · exact List.mem_append_left _ (I.inDone j h)
  · rcases (hset j).1 hj with rfl | h
    · exact (hset k).2 (.inr (hp k hk'))
    · exact (hset k).2 (.inr (I.closed j h k hk'))
  · rcases List.mem_append.1 hj with hj | hj
    · exact (hset j).2 (.inr (I.heavy j hj hh))
    · simp at hj; exact (hset j).2 (.inl hj)
  · by_cases hd : o.dst = some y
    · simp only [hd, putT]
      rw [gt_st, gt_st, if_pos rfl, if_pos rfl, I.len]
    · rw [hgt ta y hd, hgt t y hd]
      refine I.agree y fun j hj hoffj o' ho' => hy j (List.mem_append_left _ hj) (fun h => ?_) o' ho'
      rcases (hset j).1 h with rfl | h
      · exact hnd hj
      · exact hoffj h
  · have hji : j ≠ i := fun e => hoffj ((hset j).2 (.inl e))
    have hj : j ∈ done := by
      rcases List.mem_append.1 hj with hj | hj
      · exact hj
      · simp at hj; exact (hji hj).elim
    have hoff' : ¬ On listed j := fun h => hoffj ((hset j).2 (.inr h))
    have hhj : hv j = false := by
      cases h : hv j with
      | false => rfl
      | true => exact absurd (I.heavy j hj h) hoff'
    have hl' := (F.light j o' hhj ho').1
    have hnot : A i j = false := by
      cases h : A i j with
      | false => rfl
      | true => exact absurd (anc_on F I.closed i hp j h) hoff'
    have hP : Pend B (putT t o.dst v) H o' := (I.pend j hj hoff' o' ho').congr hl' (fun y hy => by
        rw [hgt]
        intro e
        rcases (F.readL j o' i o y hhj ho' ho e hy).2 with h | ⟨_, h | h⟩
        · obtain ⟨u, v', huv⟩ := List.append_of_mem hj
          have := (F.topo u j (v' ++ i :: rest) (by rw [I.split, huv]; simp)).2 i h
          exact hnd (by rw [huv]; exact List.mem_append_left _ this)
        · obtain ⟨u, v', huv⟩ := List.append_of_mem hj
          have := anc_before F j u (v' ++ i :: rest) (by rw [I.split, huv]; simp) h
          exact hnd (by rw [huv]; exact List.mem_append_left _ this)
        · rw [hnot] at h; cases h) (fun d hd => by
        rw [hgt]
        intro e
        exact hji (F.once j o' i o d ho' ho hd e)) (by rw [hlenp])
    obtain ⟨d, hd, hP⟩ := hP
    refine ⟨d, hd, ?_⟩
    by_cases hwant : wantG (putT t o.dst v) o'.g = true
    · rw [if_pos hwant] at hP ⊢
      obtain ⟨u, hu1, hu2⟩ := hP
      cases hr : isRead o'.op with
      | false => exact ⟨u, by rw [← hu1]; exact light_pure hr, hu2⟩
      | true =>
        have hmem := watchesOf_mem (hv := hv) (A := A) (h := i) ho' hhj hr hnot hj
        obtain ⟨d', op', g'⟩ := o'
        simp only at hd
        subst hd
        have := hfacts d op' g' hmem hwant
        refine ⟨_, this, ?_⟩
        by_cases hlen : d < (putT t o.dst v).length
        · rw [if_pos hlen]
        · rw [if_neg hlen]; exact gt_ge (Nat.le_of_not_lt hlen)
    · rw [if_neg hwant] at hP ⊢
      exact hP
  · have := hq N hN
    rwa [hw N hN] at this

theorem any_sound (hG : SoundG P w0 B G) (F : Fits ops ll A hv c) (hlow : lowerOps P ops ops = some ll) {ds : List Deferred} {Q : Option S → Prop} (h0 : ¬ Q none) {Qx : Exit → Act → World → Prop}
    (hQx : ∀ t' H' w', Knows w0 (den H' B) w' → (∀ N', good B H' N' → Q (some ⟨t', H', N'⟩)) → Qx .normal (Act.mk t'.toArray ds) w') :
    ∀ (m fuel : Nat) (listed : Array Bool) (ta : List Value) (w : World) (done rest : List Nat) (t : List Value) (H : HL), fuel + rest.length ≤ m → left ops.length listed ≤ fuel → Inv w0 B G ops ll A hv c Q listed ta w done rest t H →
      wpAny P .any ops.toArray Qx fuel listed (Act.mk ta.toArray ds) w := by
  intro m
  induction m with
  | zero =>
    intro fuel listed ta w done rest t H hm hf I
    obtain rfl : fuel = 0 := by omega
    obtain rfl : rest = [] := List.length_eq_zero_iff.1 (by omega)
    have hall := left_zero (by omega : left ops.length listed = 0)
    refine ⟨?_, ?_⟩
    · apply List.eq_nil_iff_forall_not_mem.2
      intro i hi
      obtain ⟨h1, h2, _⟩ := (mem_ready I.size).1 hi
      exact h2 (hall i h1)
    · obtain rfl : ta = t := ext_gt I.len fun x => I.agree x fun i hi hoff => absurd (hall i (F.lt i (by rw [I.split]; simpa using hi))) hoff
      exact hQx _ _ _ I.knows fun N hN => by have := I.goal N hN; simpa [mkDs, exDraw] using this
  | succ m ih =>
    intro fuel listed ta w done rest t H hm hf I
    by_cases hlight : ∃ i r, rest = i :: r ∧ hv i = false
    · obtain ⟨i, r, rfl, hi⟩ := hlight
      obtain ⟨t', I'⟩ := I.advance F h0 hi
      exact ih fuel listed ta w _ r t' H (by simp at hm ⊢; omega) hf I'
    · have hhead : ∀ i r, rest = i :: r → hv i = true := fun i r h => by
        cases hh : hv i with
        | true => rfl
        | false => exact absurd ⟨i, r, h, hh⟩ hlight
      have hend : (∀ i, i < ops.length → On listed i) → Qx .normal (Act.mk ta.toArray ds) w := fun hall => by
        obtain rfl : rest = [] := by
          cases rest with
          | nil => rfl
          | cons h r =>
            have hin := I.inDone h (hall h (F.lt h (by rw [I.split]; simp)))
            exact absurd hin (F.topo done h r I.split).1
        obtain rfl : ta = t := ext_gt I.len fun x => I.agree x fun i hi hoff => absurd (hall i (F.lt i (by rw [I.split]; simpa using hi))) hoff
        exact hQx _ _ _ I.knows fun N hN => by have := I.goal N hN; simpa [mkDs, exDraw] using this
      have hready : Region.ready .any ops.toArray listed = [] → ∀ i, i < ops.length → On listed i := fun hr i hi => by
        apply Classical.byContradiction
        intro hoff
        haveI : DecidablePred (On listed) := fun _ => Classical.propDecidable _
        obtain ⟨u, j, v, hc, hj, hu⟩ := first_off (p := On listed) c ⟨i, F.all i hi, hoff⟩
        have hmem : j ∈ Region.ready .any ops.toArray listed := (mem_ready I.size).2 ⟨F.lt j (by rw [hc]; simp), hj, fun k hk => hu k ((F.topo u j v hc).2 k hk)⟩
        rw [hr] at hmem
        cases hmem
      cases fuel with
      | zero =>
        have hall := left_zero (by omega : left ops.length listed = 0)
        refine ⟨?_, hend hall⟩
        apply List.eq_nil_iff_forall_not_mem.2
        intro i hi
        obtain ⟨h1, h2, _⟩ := (mem_ready I.size).1 hi
        exact h2 (hall i h1)
      | succ fuel =>
        refine ⟨fun hr => hend (hready hr), fun i hi => ?_⟩
        obtain ⟨hlt, hoff, hp⟩ := (mem_ready I.size).1 hi
        have hleft := left_set I.size hlt hoff
        obtain ⟨oo, hoo⟩ : ∃ oo, ops[i]? = some oo := ⟨ops[i], List.getElem?_eq_getElem hlt⟩
        obtain ⟨g, ho, hg⟩ := (low_get hlow).2 i oo hoo
        unfold wpOp
        rw [List.getElem?_toArray, hoo]
        simp only
        rw [wanted_eq hg ta]
        by_cases hd : i ∈ done
        · have hhi : hv i = false := by
            cases h : hv i with
            | false => rfl
            | true => exact absurd (I.heavy i hd h) hoff
          have hag := I.agreeL F hhi ho hp
          obtain ⟨hl, _⟩ := F.light i _ hhi ho
          obtain ⟨x, hx, hP⟩ := I.pend i hd hoff _ ho
          have hwg : wantG ta g = wantG t g := wantG_congr fun y hy => hag y (List.mem_append_right _ hy)
          rw [hwg]
          simp only at hx hP
          by_cases hw : wantG t g = true
          · rw [if_pos hw] at hP ⊢
            obtain ⟨v, hv1, hv2⟩ := hP
            left
            refine light_sound hG (lo := lowerOp P oo) rfl (v := v) hl I.knows (by rw [← hv1]; exact light_congr hl fun y hy => hag y (List.mem_append_left _ hy)) fun w' hk' => ?_
            rw [hx]
            exact ih fuel _ (st ta x v) w' done rest t H (by omega) (by omega) (I.lightStep F hlt hd hoff hp ho hx hv2 hk')
          · rw [if_neg hw] at hP ⊢
            rw [put_eq, hx]
            exact ih fuel _ (st ta x undef) w done rest t H (by omega) (by omega) (I.lightStep F hlt hd hoff hp ho hx (by rw [hP]; split <;> rfl) I.knows)
        · have hc : i ∈ rest := by
            have := F.all i hlt
            rw [I.split] at this
            rcases List.mem_append.1 this with h | h
            · exact absurd h hd
            · exact h
          cases rest with
          | nil => cases hc
          | cons h r =>
            have hh := hhead h r rfl
            obtain rfl : i = h := by
              rcases List.mem_cons.1 hc with e | hr
              · exact e
              · have hA := F.after done h r I.split hh i hr
                have := anc_on F I.closed i hp h hA
                exact absurd (I.inDone h this) (F.topo done h r I.split).1
            have hag := I.agreeH F hh ho hp
            have hwg : wantG ta g = wantG t g := wantG_congr fun y hy => hag y (List.mem_append_right _ hy)
            rw [hwg]
            have hgoal : ∀ N, good B H N → Q (exDraw B G (mkDs ll hv A (done ++ [i]) r) (watchS B (watchesOf ll hv A i done) (stepS B G ⟨oo.dst, lowerOp P oo, g⟩ ⟨t, H, N⟩))) := fun N hN => by
              have := I.goal N hN
              simpa only [mkDs, ho, hh, if_true, exDraw] using this
            by_cases hw : wantG t g = true
            · rw [if_pos hw]
              left
              refine op_sound hG (lo := lowerOp P oo) rfl (Q := fun res => Q (exDraw B G (mkDs ll hv A (done ++ [i]) r) (watchS B (watchesOf ll hv A i done) (putS t oo.dst res)))) ?_ I.knows ?_ ?_
              · simpa [putS, watch_none, exDraw_none] using h0
              · intro N hN
                have := hgoal N hN
                rw [stepOp_congr (t' := t) fun y hy => hag y (List.mem_append_left _ hy)]
                simpa [stepS, hw] using this
              · intro v H' w' hk' hq
                have := I.heavyStep F h0 hh hp ho (v := v) hk' hq
                exact ih fuel _ _ w' _ r _ H' (by simp at hm ⊢; omega) (by omega) this
            · rw [if_neg hw, put_eq]
              have := I.heavyStep F h0 hh hp ho (v := undef) I.knows fun N hN => by
                have := hgoal N hN
                have hw' : wantG t g = false := by simpa using hw
                simpa [stepS, hw', putS] using this
              exact ih fuel _ _ w _ r _ H (by simp at hm ⊢; omega) (by omega) this

theorem draw_sound (hm : P.follows .mixedOrders = true) (hG : SoundG P w0 B G) (F : Fits ops ll A hv c) (hlow : lowerOps P ops ops = some ll) {ds : List Deferred} {Q : Option S → Prop} (h0 : ¬ Q none) {Qx : Exit → Act → World → Prop}
    (hQx : ∀ t' H' w', Knows w0 (den H' B) w' → (∀ N', good B H' N' → Q (some ⟨t', H', N'⟩)) → Qx .normal (Act.mk t'.toArray ds) w') (hk : Knows w0 (den H B) w) (hQ : ∀ N, good B H N → Q (exDraw B G (mkDs ll hv A [] c) (some ⟨t, H, N⟩))) {id : Nat} :
    (Code.region id ops.toArray true).wp P Qx (Act.mk t.toArray ds) w := by
  refine wp_region_any hm ?_
  refine any_sound hG F hlow h0 hQx (ops.toArray.size + c.length) _ _ t _ [] c t H (Nat.le_refl _) ?_ ⟨by simp, rfl, fun i hi => ?_, fun i hi => ?_, fun i hi => (by cases hi), rfl, fun _ _ => rfl, fun i hi => (by cases hi), hk.drawn _, hQ⟩
  · unfold left
    exact Nat.le_trans (List.length_filter_le _ _) (by simp)
  · exfalso
    unfold On at hi
    rw [Array.getD_eq_getD_getElem?, Array.getElem?_replicate] at hi
    split at hi <;> simp at hi
  · exfalso
    unfold On at hi
    rw [Array.getD_eq_getD_getElem?, Array.getElem?_replicate] at hi
    split at hi <;> simp at hi
end
end Go.Proofs.Ytffmiglkkfcpmaa.K
namespace Go.Proofs.Ytffmiglkkfcpmaa.K
variable {P : Program} {ops : List Oper} {ll : List LOp} {A : Nat → Nat → Bool} {hv : Nat → Bool}

theorem topoB_spec : ∀ {c done : List Nat}, topoB ops done c = true → ∀ u i v, c = u ++ i :: v → i ∉ done ++ u ∧ ∀ j ∈ predsOf ops i, j ∈ done ++ u
  | [], _, _, u, i, v, h => by cases u <;> cases h
  | x :: c, done, h, u, i, v, hc => by
    simp only [topoB, Bool.and_eq_true, Bool.not_eq_true', List.all_eq_true] at h
    obtain ⟨⟨h1, h2⟩, h3⟩ := h
    cases u with
    | nil =>
      simp only [List.nil_append, List.cons.injEq] at hc
      obtain ⟨rfl, rfl⟩ := hc
      exact ⟨by simpa using h1, fun j hj => by simpa using h2 j hj⟩
    | cons y u =>
      simp only [List.cons_append, List.cons.injEq] at hc
      obtain ⟨rfl, hc⟩ := hc
      have := topoB_spec h3 u i v hc
      simpa using this
theorem afterB_spec : ∀ {c : List Nat}, afterB A hv c = true → ∀ u h v, c = u ++ h :: v → hv h = true → ∀ j ∈ v, A j h = true
  | [], _, u, h, v, hc, _, _, _ => by cases u <;> cases hc
  | x :: c, hB, u, h, v, hc, hh, j, hj => by
    simp only [afterB, Bool.and_eq_true, Bool.or_eq_true, Bool.not_eq_true', List.all_eq_true] at hB
    cases u with
    | nil =>
      simp only [List.nil_append, List.cons.injEq] at hc
      obtain ⟨rfl, rfl⟩ := hc
      rcases hB.1 with h1 | h1
      · rw [hh] at h1; cases h1
      · exact h1 j hj
    | cons y u =>
      simp only [List.cons_append, List.cons.injEq] at hc
      exact afterB_spec hB.2 u h v hc.2 hh j hj
theorem fits_of {c : List Nat} {n : Nat} {ms : List Nat} (hn : n = ops.length) (hlen : ll.length = ops.length) (h : fitsB ops ll (ancB n ms) hv c = true) : Fits ops ll (ancB n ms) hv c := by
  subst hn
  simp only [fitsB, Bool.and_eq_true] at h
  obtain ⟨⟨⟨⟨⟨h1, h2⟩, h3⟩, h4⟩, h5⟩, h6⟩ := h
  have hlt : ∀ i (o : LOp), ll[i]? = some o → i ∈ List.range ops.length := fun i o ho => by
    rw [List.mem_range, ← hlen]
    exact (List.getElem?_eq_some_iff.1 ho).1
  have h6' := fun i (o : LOp) (ho : ll[i]? = some o) => (by
    have := List.all_eq_true.1 h6 i (hlt i o ho)
    simpa only [ho, Bool.and_eq_true] using this)
  have h7 := fun i (o : LOp) (ho : ll[i]? = some o) j (o' : LOp) (ho' : ll[j]? = some o') (x : Tmp) (hx : o'.dst = some x) => (by
    have := List.all_eq_true.1 (h6' i o ho).2 j (hlt j o' ho')
    simpa only [ho', hx, Bool.and_eq_true] using this)
  refine ⟨hlen, fun i hi => by simpa using List.all_eq_true.1 h1 i (List.mem_range.2 hi), fun i hi => by simpa using List.all_eq_true.1 h2 i hi, fun u i v hc => by simpa using topoB_spec h3 u i v hc, fun i j hA => ?_, fun i o hi ho => ?_, afterB_spec h4, ?_, ?_, ?_⟩
  · have hi : i < ops.length ∧ j < ops.length := by
      unfold ancB at hA
      simp only [Bool.and_eq_true, decide_eq_true_eq] at hA
      exact hA.1
    have := List.all_eq_true.1 (List.all_eq_true.1 h5 i (List.mem_range.2 hi.1)) j (List.mem_range.2 hi.2)
    simp only [hA, Bool.not_true, Bool.false_or, List.any_eq_true, Bool.or_eq_true, beq_iff_eq, Bool.and_eq_true, decide_eq_true_eq] at this
    exact this
  · have := (h6' i o ho).1
    simp only [hi, Bool.false_or, Bool.and_eq_true] at this
    exact ⟨this.1, Option.isSome_iff_exists.1 this.2⟩
  · intro i o j o' x hi ho ho' hx hm
    have := (h7 i o ho j o' ho' x hx).1
    have hm' : o.tmps.contains x = true := by simpa using hm
    simp only [hm', Bool.not_true, Bool.false_or, hi, Bool.false_eq_true, if_false, Bool.and_eq_true, Bool.or_eq_true, bne_iff_ne, List.contains_iff_mem] at this
    exact this
  · intro i o j o' x hi ho ho' hx hm
    have := (h7 i o ho j o' ho' x hx).1
    have hm' : o.tmps.contains x = true := by simpa using hm
    simp only [hm', Bool.not_true, Bool.false_or, hi, if_true, Bool.or_eq_true, beq_iff_eq, List.contains_iff_mem] at this
    rcases this with ((h | h) | h) | h
    · exact .inl h
    · exact .inr (.inl h)
    · exact .inr (.inr (.inl h))
    · exact .inr (.inr (.inr h))
  · intro i o j o' x ho ho' hx hx'
    have := (h7 i o ho j o' ho' x hx').2
    simpa [hx] using this
theorem lowerDraw_fits {l : List DOp} (h : lowerDraw P ops = some l) : ∃ ll A hv c, lowerOps P ops ops = some ll ∧ Fits ops ll A hv c ∧ l = mkDs ll hv A [] c := by
  unfold lowerDraw at h
  cases hl : lowerOps P ops ops with
  | none => simp [hl] at h
  | some ll =>
    simp only [hl] at h
    split at h
    · rename_i hf
      simp only [Option.some.injEq] at h
      exact ⟨ll, _, _, _, rfl, fits_of rfl (low_get hl).1 hf, h.symm⟩
    · cases h
end Go.Proofs.Ytffmiglkkfcpmaa.K
namespace Go.Proofs.Ytffmiglkkfcpmaa.K
variable {P : Program} {w0 w : World} {B : OH} {H : HL} {t : List Value} {G : Nat → Cs}

def X.exit' : X → Exit
  | .normal => .normal
  | .ret => .ret
  | .exit id => .exit id

def LoopWp (P : Program) (c : Code) (Q : Exit → Act → World → Prop) (a : Act) (w : World) : Prop :=
  ∀ (b : Frame) (k : List Item) (cs : List Frame), ∃ e a' w', Q e a' w' ∧ Arrives P (lone (b.at a (.code c :: .inLoop c :: k)) cs w) b k cs e a' w'
theorem wp_of_loopWp {c : Code} {Q : Exit → Act → World → Prop} {a : Act} {w : World} (h : LoopWp P c Q a w) : (Code.loop c).wp P Q a w :=
  fun b k cs => let ⟨e, a', w', q, r⟩ := h b k cs; ⟨e, a', w', q, .of_steps (.one step_loop) r⟩
theorem loopWp_step {c : Code} {Q : Exit → Act → World → Prop} {a : Act} {w : World} (h : c.wp P (Exit.then (LoopWp P c Q) Q) a w) : LoopWp P c Q a w := by
  intro b k cs
  obtain ⟨e, a₁, w₁, hq, harr⟩ := h b (.inLoop c :: k) cs
  cases e with
  | normal =>
    obtain ⟨e₂, a₂, w₂, hq₂, harr₂⟩ := hq b k cs
    exact ⟨e₂, a₂, w₂, hq₂, .of_steps (Steps.trans harr (.one step_inLoop)) harr₂⟩
  | exit id => exact ⟨_, a₁, w₁, hq, .pass (x := .inLoop c) rfl (fun _ _ => .inl (by simp)) harr⟩
  | goto l => exact ⟨_, a₁, w₁, hq, .pass (x := .inLoop c) rfl (fun _ _ => .inl (by simp)) harr⟩
  | ret => exact ⟨_, a₁, w₁, hq, .pass (x := .inLoop c) rfl (fun _ _ => .inl (by simp)) harr⟩
  | panic ch => exact ⟨_, a₁, w₁, hq, .pass (x := .inLoop c) rfl (fun _ _ => .inl (by simp)) harr⟩
  | outgrown => exact ⟨_, a₁, w₁, hq, .pass (x := .inLoop c) rfl (fun _ _ => .inl (by simp)) harr⟩

def Post (w0 : World) (B : OH) (ds : List Deferred) (Q : Out → Prop) : Exit → Act → World → Prop :=
  fun e a w => ∃ x t H, e = X.exit' x ∧ a = Act.mk t.toArray ds ∧ Knows w0 (den H B) w ∧ ∀ N, good B H N → Q (some (x, ⟨t, H, N⟩))

theorem exec_sound (hm : P.follows .mixedOrders = true) (hG : SoundG P w0 B G) (ds : List Deferred) : ∀ (n : Nat) (c : Code) (t : List Value) (H : HL) (w : World) (Q : Out → Prop), ¬ Q none → Knows w0 (den H B) w →
    (∀ N, good B H N → Q (exec B G n (lower P c) ⟨t, H, N⟩)) → c.wp P (Post w0 B ds Q) (Act.mk t.toArray ds) w ∧ ∀ b, c = .loop b → LoopWp P b (Post w0 B ds Q) (Act.mk t.toArray ds) w := by
  intro n
  induction n with
  | zero => intro c t H w Q h0 hk hQ; exact (h0 (hQ _ (good_of hk))).elim
  | succ n ih =>
    intro c t H w Q h0 hk hQ
    have hbad : lower P c = .bad → False := fun e => h0 (by have := hQ _ (good_of hk); rw [e] at this; exact this)
    cases c with
    | skip => exact ⟨wp_skip ⟨.normal, t, H, rfl, rfl, hk, hQ⟩, fun b hb => by cases hb⟩
    | region id ops draw =>
      refine ⟨?_, fun b hb => by cases hb⟩
      cases draw with
      | true =>
        cases hl : lowerDraw P ops.toList with
        | none => exact (hbad (by simp [lower, hl])).elim
        | some l =>
          obtain ⟨ll, A, hv, c, h1, h2, rfl⟩ := lowerDraw_fits hl
          refine draw_sound (ops := ops.toList) (Q := fun s => Q (oOut s)) hm hG h2 h1 h0 (fun t' H' w' hk' hq => ⟨.normal, t', H', rfl, rfl, hk', hq⟩) hk fun N hN => ?_
          have := hQ N hN
          simpa [lower, hl, exec] using this
      | false =>
        cases hl : lowerOps P ops.toList ops.toList with
        | none => exact (hbad (by simp [lower, hl])).elim
        | some l =>
          refine wp_region_list ?_
          refine exOps_sound (Q := fun s => Q (oOut s)) hG h0 (fun t' H' w' hk' hq => ⟨.normal, t', H', rfl, rfl, hk', hq⟩) _ l t H w hl hk fun N hN => ?_
          have := hQ N hN
          simpa [lower, hl, exec] using this
    | seq a b =>
      refine ⟨?_, fun b hb => by cases hb⟩
      refine wp_seq ?_
      refine wp_mono (ih a t H w (fun out => Q (seqO (exec B G n (lower P b)) out)) h0 hk (fun N hN => ?_)).1 ?_
      · have := hQ N hN
        simpa only [lower, exec] using this
      · rintro e a' w' ⟨x, t', H', rfl, rfl, hk', hq⟩
        cases x with
        | normal => exact (ih b t' H' w' Q h0 hk' hq).1
        | ret => exact ⟨.ret, t', H', rfl, rfl, hk', hq⟩
        | exit id => exact ⟨.exit id, t', H', rfl, rfl, hk', hq⟩
    | cond c a b =>
      refine ⟨?_, fun b hb => by cases hb⟩
      cases hc : ev t c with
      | bool v =>
        refine wp_cond (t := v) (by rw [eval_eq]; exact hc) ?_
        cases v with
        | true =>
          rw [if_pos rfl]
          refine (ih a t H w Q h0 hk fun N hN => ?_).1
          have := hQ N hN
          simpa only [lower, exec, hc, condO, if_true] using this
        | false =>
          rw [if_neg (by simp)]
          refine (ih b t H w Q h0 hk fun N hN => ?_).1
          have := hQ N hN
          simpa [lower, exec, hc, condO] using this
      | _ => exact (h0 (by have h1 := hQ _ (good_of hk); simp only [lower, exec, hc] at h1; exact h1)).elim
    | block id b =>
      refine ⟨?_, fun b hb => by cases hb⟩
      refine wp_block ?_
      refine wp_mono (ih b t H w (fun out => Q (blkO id out)) h0 hk (fun N hN => ?_)).1 ?_
      · have := hQ N hN
        simpa only [lower, exec] using this
      · rintro e a' w' ⟨x, t', H', rfl, rfl, hk', hq⟩
        cases x with
        | normal => exact ⟨.normal, t', H', rfl, rfl, hk', hq⟩
        | ret => exact ⟨.ret, t', H', rfl, rfl, hk', hq⟩
        | exit i =>
          simp only [X.exit', Exit.inBlock]
          by_cases hi : i = id
          · rw [if_pos hi]; exact ⟨.normal, t', H', rfl, rfl, hk', fun N hN => by simpa [hi, blkO] using hq N hN⟩
          · rw [if_neg hi]; exact ⟨.exit i, t', H', rfl, rfl, hk', fun N hN => by simpa [hi, blkO] using hq N hN⟩
    | loop b =>
      have key : LoopWp P b (Post w0 B ds Q) (Act.mk t.toArray ds) w := by
        refine loopWp_step ?_
        refine wp_mono (ih b t H w (fun out => Q (seqO (exec B G n (.loop (lower P b))) out)) h0 hk (fun N hN => ?_)).1 ?_
        · have := hQ N hN
          simpa only [lower, exec] using this
        · rintro e a' w' ⟨x, t', H', rfl, rfl, hk', hq⟩
          cases x with
          | normal => exact (ih (.loop b) t' H' w' Q h0 hk' hq).2 b rfl
          | ret => exact ⟨.ret, t', H', rfl, rfl, hk', hq⟩
          | exit id => exact ⟨.exit id, t', H', rfl, rfl, hk', hq⟩
      exact ⟨wp_of_loopWp key, fun b' hb => by cases hb; exact key⟩
    | exit id => exact ⟨wp_exit ⟨.exit id, t, H, rfl, rfl, hk, hQ⟩, fun b hb => by cases hb⟩
    | ret => exact ⟨wp_ret ⟨.ret, t, H, rfl, rfl, hk, hQ⟩, fun b hb => by cases hb⟩
    | _ => exact (hbad rfl).elim

instance : LawfulMonad Sem := LawfulMonad.mk' (m := Sem)
  (id_map := fun x => Sem.bind_pure' x)
  (pure_bind := fun _ _ => rfl)
  (bind_assoc := fun x f g => Sem.bind_assoc' x f g)

def rvS (tm : Array Value) : ResultVar → Sem Value
  | .tmp i => pure (tm.getD i undef)
  | .cell a ty => do loadVar ty (← asAddr (tm.getD a undef))
theorem ress_run {rs : List ResultVar} {vs : List Value} {N : St} (hk : Knows w0 (den H B) w) (h : ress B ⟨t, H, N⟩ (rs.map (lowerRes P)) = some vs) :
    (rs.mapM (rvS t.toArray)).run P w = .ok vs w := by
  induction rs generalizing vs with
  | nil => simp only [List.map_nil, ress, Option.some.injEq] at h; subst h; rfl
  | cons r rs ih =>
    simp only [List.map_cons, ress, consO] at h
    split at h
    · rename_i v l hv hl
      simp only [Option.some.injEq] at h
      subst h
      have h1 : (rvS t.toArray r).run P w = .ok v w := by
        cases r with
        | tmp i => simp only [lowerRes, res1, Option.some.injEq] at hv; subst hv; rw [gt_eq]; rfl
        | cell a ty =>
          simp only [lowerRes] at hv
          split at hv
          · rename_i g n hg hn
            simp only [res1] at hv
            unfold loadV at hv
            split at hv
            · rename_i b o he
              rw [gt_eq] at he
              simp only [rvS, he, asAddr, Sem.run_bind, Sem.run_pure, Result.andThen_ok]
              exact run_loadVar hk hg hn rfl hv
            · cases hv
          · simp [res1] at hv
      rw [List.mapM_cons]
      simp only [Sem.run_bind, h1, Result.andThen_ok, ih hl, Sem.run_pure]
    · cases h

theorem results_run {fn : Func} {vs : List Value} {N : St} (hk : Knows w0 (den H B) w) (h : ress B ⟨t, H, N⟩ (fn.results.toList.map (lowerRes P)) = some vs) :
    (results fn t.toArray).run P w = .ok (retV vs) w := by
  have h1 := ress_run (P := P) hk h
  have h2 : results fn t.toArray = (do let vs ← fn.results.mapM (rvS t.toArray); pure (if h : vs.size = 1 then vs[0] else .tuple vs)) := by
    unfold results
    congr 1
  rw [h2, ← Array.toArray_toList (xs := fn.results), List.mapM_toArray]
  simp only [Sem.run_bind, Sem.run_map]
  rw [h1]
  simp only [Result.andThen_ok, Sem.run_pure]
  match vs with
  | [] => rfl
  | [v] => rfl
  | v :: u :: l => simp [retV]

theorem pad_eq : ∀ (l : List Value) (n : Nat), (pad l n).toArray = l.toArray ++ Array.replicate (n - l.length) undef := by
  have : ∀ (l : List Value) (n : Nat), pad l n = l ++ List.replicate (n - l.length) undef := by
    intro l n
    induction n generalizing l with
    | zero => simp [pad]
    | succ n ih => cases l with
      | nil => simp [pad, ih, List.replicate_succ]
      | cons v l => simp [pad, ih]
  intro l n; rw [this]; simp

/-- A function, by its own text. -/
theorem callF_sound (hm : P.follows .mixedOrders = true) (hG : SoundG P w0 B G) {k : Nat} {fn : Func} {f : FnL} (n : Nat) (hf : P.funcs[k]? = some fn) (hl : lowerFn P fn = some f) : SoundC P w0 B k (callF B G n f) := by
  intro H args Q w h0 hQ hk
  unfold lowerFn at hl
  cases hb : fn.body with
  | none => simp [hb] at hl
  | some c =>
    simp only [hb, Option.map_some, Option.some.injEq] at hl
    subst hl
    refine calls_of_wp hf hb ?_
    have := (exec_sound hm hG [] n c (pad args fn.ntmps) H w (fun out => Q (finO B (fn.results.toList.map (lowerRes P)) out)) h0 hk (fun N hN => hQ N hN)).1
    rw [pad_eq] at this
    refine wp_mono (by simpa using this) ?_
    rintro e a w' ⟨x, t', H', rfl, rfl, hk', hq⟩
    have hfin : ∀ s, (∃ vs, ress B ⟨t', H', s⟩ (fn.results.toList.map (lowerRes P)) = some vs) → (∀ N, good B H' N → Q (retR ⟨t', H', N⟩ (ress B ⟨t', H', N⟩ (fn.results.toList.map (lowerRes P))))) →
        ∃ v, (results fn t'.toArray).run P w' = .ok v w' ∧ ∃ v' H'', Ending.returned v = .returned v' ∧ Knows w0 (den H'' B) w' ∧ ∀ N', good B H'' N' → Q (some (v', H'', N')) := by
      intro s ⟨vs, hvs⟩ hq'
      have hindep : ∀ N, ress B ⟨t', H', N⟩ (fn.results.toList.map (lowerRes P)) = some vs := by
        intro N
        have : ∀ (rs : List LR), ress B ⟨t', H', N⟩ rs = ress B ⟨t', H', s⟩ rs := by
          intro rs
          induction rs with
          | nil => rfl
          | cons r rs ih => simp only [ress, ih]; cases r <;> rfl
        rw [this]; exact hvs
      refine ⟨retV vs, results_run (N := s) hk' hvs, retV vs, H', rfl, hk', fun N hN => ?_⟩
      have := hq' N hN
      rw [hindep N] at this
      exact this
    cases x with
    | normal =>
      refine ⟨rfl, ?_⟩
      refine hfin (fun i => w'.heap.size + i) ?_ (fun N hN => hq N hN)
      cases hr : ress B ⟨t', H', fun i => w'.heap.size + i⟩ (fn.results.toList.map (lowerRes P)) with
      | none => exact (h0 (by have := hq _ (good_of hk'); simp only [finO, hr, retR] at this; exact this)).elim
      | some vs => exact ⟨vs, rfl⟩
    | ret =>
      refine ⟨rfl, ?_⟩
      refine hfin (fun i => w'.heap.size + i) ?_ (fun N hN => hq N hN)
      cases hr : ress B ⟨t', H', fun i => w'.heap.size + i⟩ (fn.results.toList.map (lowerRes P)) with
      | none => exact (h0 (by have := hq _ (good_of hk'); simp only [finO, hr, retR] at this; exact this)).elim
      | some vs => exact ⟨vs, rfl⟩
    | exit id => exact (h0 (hq _ (good_of hk'))).elim
end Go.Proofs.Ytffmiglkkfcpmaa.K
namespace Go.Proofs.Ytffmiglkkfcpmaa.K
/-! ### The evaluator's steps, as equations -/
variable {B : OH} {G : Nat → Cs}
theorem e_skip {n s} : exec B G (n + 1) .skip s = some (.normal, s) := rfl
theorem e_ops {n l s} : exec B G (n + 1) (.ops l) s = oOut (exOps B G l (some s)) := rfl
theorem e_draw {n l s} : exec B G (n + 1) (.draw l) s = oOut (exDraw B G l (some s)) := rfl
theorem d_none {l} : exDraw B G l none = none := by cases l <;> rfl
theorem d_nil {s} : exDraw B G [] (some s) = some s := rfl
theorem d_cons {d op g ws l t H N} : exDraw B G (⟨⟨d, op, g⟩, ws⟩ :: l) (some ⟨t, H, N⟩) = exDraw B G l (watchS B ws (putS t d (bif wantG t g then stepOp B G ⟨t, H, N⟩ op else some (undef, H, N)))) := rfl
theorem d_ite {l c} [Decidable c] {a b} : exDraw B G l (if c then a else b) = if c then exDraw B G l a else exDraw B G l b := by split <;> rfl
theorem h_none {ws} : watchS B ws none = none := by cases ws <;> rfl
theorem h_nil {s} : watchS B [] (some s) = some s := rfl
theorem h_cons {d op g l t H N} : watchS B (⟨some d, op, g⟩ :: l) (some ⟨t, H, N⟩) = watchS B l (bif wantG t g then eqS (lightV B t H op) (some (gt t d)) ⟨t, H, N⟩ else some ⟨t, H, N⟩) := rfl
theorem eqS_same {v s} : eqS (some v) (some v) s = some s := by simp [eqS]
theorem h_ite {ws c} [Decidable c] {a b} : watchS B ws (if c then a else b) = if c then watchS B ws a else watchS B ws b := by split <;> rfl
theorem e_seq {n a b s} : exec B G (n + 1) (.seq a b) s = seqO (exec B G n b) (exec B G n a s) := rfl
theorem e_cond {n c a b t H N} : exec B G (n + 1) (.cond c a b) ⟨t, H, N⟩ = condO (ev t c) (exec B G n a) (exec B G n b) ⟨t, H, N⟩ := rfl
theorem e_block {n id b s} : exec B G (n + 1) (.block id b) s = blkO id (exec B G n b s) := rfl
theorem e_loop {n b s} : exec B G (n + 1) (.loop b) s = seqO (exec B G n (.loop b)) (exec B G n b s) := rfl
theorem e_exit {n id s} : exec B G (n + 1) (.exit id) s = some (.exit id, s) := rfl
theorem e_ret {n s} : exec B G (n + 1) .ret s = some (.ret, s) := rfl
theorem s_normal {k s} : seqO k (some (.normal, s)) = k s := rfl
theorem s_ret {k s} : seqO k (some (.ret, s)) = some (.ret, s) := rfl
theorem s_exit {k i s} : seqO k (some (.exit i, s)) = some (.exit i, s) := rfl
theorem s_none {k} : seqO k none = none := rfl
theorem s_ite {k c} [Decidable c] {a b} : seqO k (if c then a else b) = if c then seqO k a else seqO k b := by split <;> rfl
theorem b_normal {i s} : blkO i (some (.normal, s)) = some (.normal, s) := rfl
theorem b_ret {i s} : blkO i (some (.ret, s)) = some (.ret, s) := rfl
theorem b_exit {i j s} : blkO i (some (.exit j, s)) = if j = i then some (.normal, s) else some (.exit j, s) := rfl
theorem b_none {i} : blkO i none = none := rfl
theorem b_ite {i c} [Decidable c] {a b} : blkO i (if c then a else b) = if c then blkO i a else blkO i b := by split <;> rfl
theorem c_bool {c : Bool} {a b : S → Out} {s} : condO (.bool c) a b s = if c = true then a s else b s := rfl
theorem o_some {s} : oOut (some s) = some (.normal, s) := rfl
theorem o_none : oOut none = none := rfl
theorem o_ite {c} [Decidable c] {a b} : oOut (if c then a else b) = if c then oOut a else oOut b := by split <;> rfl
theorem x_none {l} : exOps B G l none = none := by cases l <;> rfl
theorem x_nil {s} : exOps B G [] (some s) = some s := rfl
theorem x_cons {d op g l t H N} : exOps B G (⟨d, op, g⟩ :: l) (some ⟨t, H, N⟩) = exOps B G l (putS t d (bif wantG t g then stepOp B G ⟨t, H, N⟩ op else some (undef, H, N))) := rfl
theorem x_ite {l c} [Decidable c] {a b} : exOps B G l (if c then a else b) = if c then exOps B G l a else exOps B G l b := by split <;> rfl
theorem p_some {t d v H N} : putS t d (some (v, H, N)) = some ⟨putT t d v, H, N⟩ := rfl
theorem p_none {t d} : putS t d none = none := rfl
theorem p_ite {t d c} [Decidable c] {a b} : putS t d (if c then a else b) = if c then putS t d a else putS t d b := by split <;> rfl
theorem pt_some {t d v} : putT t (some d) v = st t d v := rfl
theorem pt_none {t v} : putT t none v = t := rfl
theorem pv_some {v H N} : pv (some v) H N = some (v, H, N) := rfl
theorem pv_none {H N} : pv none H N = none := rfl
theorem pv_ite {c} [Decidable c] {a b H N} : pv (if c then a else b) H N = if c then pv a H N else pv b H N := by split <;> rfl
theorem w_none {t} : wantG t none = true := rfl
theorem w_some {t j b} : wantG t (some (j, b)) = isB (gt t j) b := rfl
theorem i_bool {c b} : isB (.bool c) b = (c == b) := rfl
theorem i_undef {b} : isB undef b = false := rfl
theorem v_tmp {t i} : ev t (.tmp i) = gt t i := rfl
theorem v_const {t v} : ev t (.const v) = v := rfl
theorem v_global {t g} : ev t (.global g) = .pointer (some ⟨g, 0, none⟩) := rfl
theorem v_func {t f} : ev t (.func f) = .func (.func f) #[] #[] := rfl
theorem f_normal {rs t H N} : finO B rs (some (.normal, ⟨t, H, N⟩)) = retR ⟨t, H, N⟩ (ress B ⟨t, H, N⟩ rs) := rfl
theorem f_ret {rs t H N} : finO B rs (some (.ret, ⟨t, H, N⟩)) = retR ⟨t, H, N⟩ (ress B ⟨t, H, N⟩ rs) := rfl
theorem f_none {rs} : finO B rs none = none := rfl
theorem f_ite {rs c} [Decidable c] {a b} : finO B rs (if c then a else b) = if c then finO B rs a else finO B rs b := by split <;> rfl
theorem r_some {l t H N} : retR ⟨t, H, N⟩ (some l) = some (retV l, H, N) := rfl
theorem co_some {v l} : consO (some v) (some l) = some (v :: l) := rfl
theorem l_ptr {g n H b o} : loadV g n H B (.pointer (some ⟨b, o, none⟩)) = mkV g (rdH H B b o n) := rfl
theorem m_agg {l} : mkV true (some l) = some (.agg l.toArray) := rfl
theorem m_one {v} : mkV false (some [v]) = some v := rfl
theorem sh_app {N : St} {i} : sh N i = N (i + 1) := rfl
theorem lk_nil {r} : lk [] r = none := rfl
theorem lk_cons {x k H r} : lk ((x, k) :: H) r = bif r == x then some k else lk H r := rfl
theorem rd_eq {H b o n} : rdH H B b o n = rdO H B b o n (rdB B b o n) := rfl
theorem rdO_some {H b o n r} : rdO H B b o n (some r) = some r := rfl
theorem rdO_none {H b o n} : rdO H B b o n none = rdN H b o n (B b) := rfl
theorem rdN_none {H b o n} : rdN H b o n none = rdL o n (lk H b) := rfl
theorem rdL_some {o n k} : rdL o n (some k) = k.rd o n := rfl
theorem rdL_none {o n} : rdL o n none = none := rfl
theorem wrB_none {H b o vs} : wrB H b o vs none = wrH H b o vs := rfl
theorem unitR_some {N H} : unitR N (some H) = some (undef, H, N) := rfl
theorem wrC_some {x n H cs} : wrC x n H (some cs) = some ((x, .cells cs n) :: H) := rfl
theorem wrK_cells {x H o vs cs n} : wrK x H o vs (.cells cs n) = wrC x n H (wr cs o vs) := rfl
theorem consH_some {x H} : consH x (some H) = some (x :: H) := rfl
theorem wr_nil {l} : wr l 0 [] = some l := by cases l <;> rfl
theorem wr_here {x l v vs} : wr (x :: l) 0 (v :: vs) = tkC v (wr l 0 vs) := rfl
theorem wr_skip {x l o vs} : wr (x :: l) (o + 1) vs = tkC x (wr l o vs) := rfl
theorem wrH_cons {x k H r o vs} : wrH ((x, k) :: H) r o vs = bif r == x then wrK x H o vs k else consH (x, k) (wrH H r o vs) := rfl
theorem k_cells {cs m o n} : (KB.cells cs m).rd o n = tk cs o n := rfl
theorem tk_zero {l} : tk l 0 0 = some [] := by cases l <;> rfl
theorem tk_take {v l n} : tk (v :: l) 0 (n + 1) = tkC v (tk l 0 n) := by cases h : tk l 0 n <;> simp [tk, tkC, h]
theorem tk_skip {v l o n} : tk (v :: l) (o + 1) n = tk l o n := rfl
theorem tkC_some {v l} : tkC v (some l) = some (v :: l) := rfl
theorem call_func {H N k f c args} : callV G H N (.func (.func k) f c) args = G k (f.toList ++ args ++ c.toList) H N := rfl
theorem bt (b : Bool) : (b == true) = b := by cases b <;> rfl
theorem bf (b : Bool) : (b == false) = !b := by cases b <;> rfl
theorem beqN {N : St} (h : ∀ i j, N i = N j → i = j) (i j : Nat) : (N i == N j) = (i == j) := by
  rw [Bool.eq_iff_iff, beq_iff_eq, beq_iff_eq]
  exact ⟨h i j, fun e => e ▸ rfl⟩
theorem st_len (l : List Value) (i : Nat) (v : Value) : (st l i v).length = l.length := by
  induction l generalizing i with
  | nil => rfl
  | cons x l ih => cases i <;> simp [st, ih]
theorem gt_st_same (l : List Value) (i : Nat) (v : Value) (h : i < l.length) : gt (st l i v) i = v := by
  induction l generalizing i with
  | nil => simp at h
  | cons x l ih => cases i with
    | zero => rfl
    | succ i => simp only [st, gt]; exact ih i (by simpa using h)
theorem gt_st_ne (l : List Value) (i j : Nat) (v : Value) (h : i ≠ j) : gt (st l i v) j = gt l j := by
  induction l generalizing i j with
  | nil => rfl
  | cons x l ih => cases i with
    | zero => cases j with
      | zero => exact absurd rfl h
      | succ j => rfl
    | succ i => cases j with
      | zero => rfl
      | succ j => simp only [st, gt]; exact ih i j (by omega)
/-! ### Long lists of temporaries, sixteen at a time -/
def c16 (x0 x1 x2 x3 x4 x5 x6 x7 x8 x9 x10 x11 x12 x13 x14 x15 : Value) (l : List Value) : List Value := x0 :: x1 :: x2 :: x3 :: x4 :: x5 :: x6 :: x7 :: x8 :: x9 :: x10 :: x11 :: x12 :: x13 :: x14 :: x15 :: l
section
variable {x0 x1 x2 x3 x4 x5 x6 x7 x8 x9 x10 x11 x12 x13 x14 x15 v : Value} {l : List Value} {n : Nat}
theorem gc0 : gt (c16 x0 x1 x2 x3 x4 x5 x6 x7 x8 x9 x10 x11 x12 x13 x14 x15 l) 0 = x0 := rfl
theorem gc1 : gt (c16 x0 x1 x2 x3 x4 x5 x6 x7 x8 x9 x10 x11 x12 x13 x14 x15 l) 1 = x1 := rfl
theorem gc2 : gt (c16 x0 x1 x2 x3 x4 x5 x6 x7 x8 x9 x10 x11 x12 x13 x14 x15 l) 2 = x2 := rfl
theorem gc3 : gt (c16 x0 x1 x2 x3 x4 x5 x6 x7 x8 x9 x10 x11 x12 x13 x14 x15 l) 3 = x3 := rfl
theorem gc4 : gt (c16 x0 x1 x2 x3 x4 x5 x6 x7 x8 x9 x10 x11 x12 x13 x14 x15 l) 4 = x4 := rfl
theorem gc5 : gt (c16 x0 x1 x2 x3 x4 x5 x6 x7 x8 x9 x10 x11 x12 x13 x14 x15 l) 5 = x5 := rfl
theorem gc6 : gt (c16 x0 x1 x2 x3 x4 x5 x6 x7 x8 x9 x10 x11 x12 x13 x14 x15 l) 6 = x6 := rfl
theorem gc7 : gt (c16 x0 x1 x2 x3 x4 x5 x6 x7 x8 x9 x10 x11 x12 x13 x14 x15 l) 7 = x7 := rfl
theorem gc8 : gt (c16 x0 x1 x2 x3 x4 x5 x6 x7 x8 x9 x10 x11 x12 x13 x14 x15 l) 8 = x8 := rfl
theorem gc9 : gt (c16 x0 x1 x2 x3 x4 x5 x6 x7 x8 x9 x10 x11 x12 x13 x14 x15 l) 9 = x9 := rfl
theorem gc10 : gt (c16 x0 x1 x2 x3 x4 x5 x6 x7 x8 x9 x10 x11 x12 x13 x14 x15 l) 10 = x10 := rfl
theorem gc11 : gt (c16 x0 x1 x2 x3 x4 x5 x6 x7 x8 x9 x10 x11 x12 x13 x14 x15 l) 11 = x11 := rfl
theorem gc12 : gt (c16 x0 x1 x2 x3 x4 x5 x6 x7 x8 x9 x10 x11 x12 x13 x14 x15 l) 12 = x12 := rfl
theorem gc13 : gt (c16 x0 x1 x2 x3 x4 x5 x6 x7 x8 x9 x10 x11 x12 x13 x14 x15 l) 13 = x13 := rfl
theorem gc14 : gt (c16 x0 x1 x2 x3 x4 x5 x6 x7 x8 x9 x10 x11 x12 x13 x14 x15 l) 14 = x14 := rfl
theorem gc15 : gt (c16 x0 x1 x2 x3 x4 x5 x6 x7 x8 x9 x10 x11 x12 x13 x14 x15 l) 15 = x15 := rfl
theorem gcS : gt (c16 x0 x1 x2 x3 x4 x5 x6 x7 x8 x9 x10 x11 x12 x13 x14 x15 l) (n + 16) = gt l n := rfl
theorem sc0 : st (c16 x0 x1 x2 x3 x4 x5 x6 x7 x8 x9 x10 x11 x12 x13 x14 x15 l) 0 v = c16 v x1 x2 x3 x4 x5 x6 x7 x8 x9 x10 x11 x12 x13 x14 x15 l := rfl
theorem sc1 : st (c16 x0 x1 x2 x3 x4 x5 x6 x7 x8 x9 x10 x11 x12 x13 x14 x15 l) 1 v = c16 x0 v x2 x3 x4 x5 x6 x7 x8 x9 x10 x11 x12 x13 x14 x15 l := rfl
theorem sc2 : st (c16 x0 x1 x2 x3 x4 x5 x6 x7 x8 x9 x10 x11 x12 x13 x14 x15 l) 2 v = c16 x0 x1 v x3 x4 x5 x6 x7 x8 x9 x10 x11 x12 x13 x14 x15 l := rfl
theorem sc3 : st (c16 x0 x1 x2 x3 x4 x5 x6 x7 x8 x9 x10 x11 x12 x13 x14 x15 l) 3 v = c16 x0 x1 x2 v x4 x5 x6 x7 x8 x9 x10 x11 x12 x13 x14 x15 l := rfl
theorem sc4 : st (c16 x0 x1 x2 x3 x4 x5 x6 x7 x8 x9 x10 x11 x12 x13 x14 x15 l) 4 v = c16 x0 x1 x2 x3 v x5 x6 x7 x8 x9 x10 x11 x12 x13 x14 x15 l := rfl
theorem sc5 : st (c16 x0 x1 x2 x3 x4 x5 x6 x7 x8 x9 x10 x11 x12 x13 x14 x15 l) 5 v = c16 x0 x1 x2 x3 x4 v x6 x7 x8 x9 x10 x11 x12 x13 x14 x15 l := rfl
theorem sc6 : st (c16 x0 x1 x2 x3 x4 x5 x6 x7 x8 x9 x10 x11 x12 x13 x14 x15 l) 6 v = c16 x0 x1 x2 x3 x4 x5 v x7 x8 x9 x10 x11 x12 x13 x14 x15 l := rfl
theorem sc7 : st (c16 x0 x1 x2 x3 x4 x5 x6 x7 x8 x9 x10 x11 x12 x13 x14 x15 l) 7 v = c16 x0 x1 x2 x3 x4 x5 x6 v x8 x9 x10 x11 x12 x13 x14 x15 l := rfl
theorem sc8 : st (c16 x0 x1 x2 x3 x4 x5 x6 x7 x8 x9 x10 x11 x12 x13 x14 x15 l) 8 v = c16 x0 x1 x2 x3 x4 x5 x6 x7 v x9 x10 x11 x12 x13 x14 x15 l := rfl
theorem sc9 : st (c16 x0 x1 x2 x3 x4 x5 x6 x7 x8 x9 x10 x11 x12 x13 x14 x15 l) 9 v = c16 x0 x1 x2 x3 x4 x5 x6 x7 x8 v x10 x11 x12 x13 x14 x15 l := rfl
theorem sc10 : st (c16 x0 x1 x2 x3 x4 x5 x6 x7 x8 x9 x10 x11 x12 x13 x14 x15 l) 10 v = c16 x0 x1 x2 x3 x4 x5 x6 x7 x8 x9 v x11 x12 x13 x14 x15 l := rfl
theorem sc11 : st (c16 x0 x1 x2 x3 x4 x5 x6 x7 x8 x9 x10 x11 x12 x13 x14 x15 l) 11 v = c16 x0 x1 x2 x3 x4 x5 x6 x7 x8 x9 x10 v x12 x13 x14 x15 l := rfl
theorem sc12 : st (c16 x0 x1 x2 x3 x4 x5 x6 x7 x8 x9 x10 x11 x12 x13 x14 x15 l) 12 v = c16 x0 x1 x2 x3 x4 x5 x6 x7 x8 x9 x10 x11 v x13 x14 x15 l := rfl
theorem sc13 : st (c16 x0 x1 x2 x3 x4 x5 x6 x7 x8 x9 x10 x11 x12 x13 x14 x15 l) 13 v = c16 x0 x1 x2 x3 x4 x5 x6 x7 x8 x9 x10 x11 x12 v x14 x15 l := rfl
theorem sc14 : st (c16 x0 x1 x2 x3 x4 x5 x6 x7 x8 x9 x10 x11 x12 x13 x14 x15 l) 14 v = c16 x0 x1 x2 x3 x4 x5 x6 x7 x8 x9 x10 x11 x12 x13 v x15 l := rfl
theorem sc15 : st (c16 x0 x1 x2 x3 x4 x5 x6 x7 x8 x9 x10 x11 x12 x13 x14 x15 l) 15 v = c16 x0 x1 x2 x3 x4 x5 x6 x7 x8 x9 x10 x11 x12 x13 x14 v l := rfl
theorem scS : st (c16 x0 x1 x2 x3 x4 x5 x6 x7 x8 x9 x10 x11 x12 x13 x14 x15 l) (n + 16) v = c16 x0 x1 x2 x3 x4 x5 x6 x7 x8 x9 x10 x11 x12 x13 x14 x15 (st l n v) := rfl
end
def pad1 (l : List Value) (n : Nat) : List Value := pad l n
theorem callF1 {n f args H N} : callF B G n f args H N = finO B f.res (exec B G n f.code ⟨pad1 args f.ntmps, H, N⟩) := rfl
theorem pad_nil_succ (n : Nat) : pad [] (n + 1) = undef :: pad [] n := rfl
theorem pad_step (l : List Value) (n : Nat) : pad l (n + 1) = gt l 0 :: pad (l.drop 1) n := by cases l <;> simp [pad, gt]
theorem gt_drop (l : List Value) (k i : Nat) : gt (l.drop k) i = gt l (k + i) := by
  induction k generalizing l with
  | zero => simp
  | succ k ih => cases l with
    | nil => simp [gt]
    | cons x l => simp only [List.drop_succ_cons, ih]; rw [show k + 1 + i = (k + i) + 1 by omega]; rfl
theorem pad16 (l : List Value) (n : Nat) : pad1 l (n + 16) = c16 (gt l 0) (gt l 1) (gt l 2) (gt l 3) (gt l 4) (gt l 5) (gt l 6) (gt l 7) (gt l 8) (gt l 9) (gt l 10) (gt l 11) (gt l 12) (gt l 13) (gt l 14) (gt l 15) (pad1 (l.drop 16) n) := by
  unfold pad1 c16
  simp only [show n + 16 = n + 15 + 1 from rfl, pad_step, List.drop_drop, gt_drop]
theorem pad_0 (l : List Value) : pad1 l 0 = pad l 0 := rfl
theorem pad_1 (l : List Value) : pad1 l 1 = pad l 1 := rfl
theorem pad_2 (l : List Value) : pad1 l 2 = pad l 2 := rfl
theorem pad_3 (l : List Value) : pad1 l 3 = pad l 3 := rfl
theorem pad_4 (l : List Value) : pad1 l 4 = pad l 4 := rfl
theorem pad_5 (l : List Value) : pad1 l 5 = pad l 5 := rfl
theorem pad_6 (l : List Value) : pad1 l 6 = pad l 6 := rfl
theorem pad_7 (l : List Value) : pad1 l 7 = pad l 7 := rfl
theorem pad_8 (l : List Value) : pad1 l 8 = pad l 8 := rfl
theorem pad_9 (l : List Value) : pad1 l 9 = pad l 9 := rfl
theorem pad_10 (l : List Value) : pad1 l 10 = pad l 10 := rfl
theorem pad_11 (l : List Value) : pad1 l 11 = pad l 11 := rfl
theorem pad_12 (l : List Value) : pad1 l 12 = pad l 12 := rfl
theorem pad_13 (l : List Value) : pad1 l 13 = pad l 13 := rfl
theorem pad_14 (l : List Value) : pad1 l 14 = pad l 14 := rfl
theorem pad_15 (l : List Value) : pad1 l 15 = pad l 15 := rfl
end Go.Proofs.Ytffmiglkkfcpmaa.K
namespace Go.Proofs.Ytffmiglkkfcpmaa.K
open Go.ChangeShapes Go.WideShapes Go.ChangeAt Go.RowKit
variable {P : Program} {W : World} {B : OH} {G : Nat → Cs}

/-- What is known as the law is called: all cells that there are; none of them will be written. -/
def startB (W : World) : OH := fun b => match W.heap[b]? with | some (.cells arr _ _) => some (.ro fun i => arr[i]?) | _ => none
theorem knows_start (W : World) (hf : ∀ a : Addr, W.heap.size ≤ a.block → W.frozen? a = false) : Knows W (den [] (startB W)) W := by
  have hd : ∀ r k, den [] (startB W) r = some k → ∃ arr e fr, W.heap[r]? = some (.cells arr e fr) ∧ k = .ro fun i => arr[i]? := by
    intro r k h
    unfold den startB at h
    cases hb : W.heap[r]? with
    | none => simp [hb, lk] at h
    | some o => cases o <;> simp [hb, lk] at h; exact ⟨_, _, _, rfl, h.symm⟩
  refine ⟨rfl, rfl, rfl, Nat.le_refl _, fun _ _ => rfl, fun r k h => ?_, hf, fun r h => ?_⟩
  · obtain ⟨arr, e, fr, h1, rfl⟩ := hd r k h
    refine ⟨?_, arr, e, fr, h1, fun i v hi => hi⟩
    rcases Nat.lt_or_ge r W.heap.size with h' | h'
    · exact h'
    · simp [Array.getElem?_eq_none h'] at h1
  · rcases h with ⟨cs, n, h⟩ | ⟨es, c, h⟩
    · obtain ⟨_, _, _, _, h2⟩ := hd r _ h; cases h2
    · obtain ⟨_, _, _, _, h2⟩ := hd r _ h; cases h2
theorem frozen_past (W : World) (a : Addr) (h : W.heap.size ≤ a.block) : W.frozen? a = false := by
  simp [World.frozen?, Array.getElem?_eq_none h]

/-- A law that answers true. -/
theorem law_calls {k : Nat} {g : Cs} (hs : SoundC P W (startB W) k g) {args : List Value} (h : ∀ N, good (startB W) [] N → ∃ H' N', g args [] N = some (.bool true, H', N')) :
    Calls P k args.toArray W fun e w' => e = .returned (.bool true) ∧ Below W.heap.size W w' ∧ ∀ a, w'.frozen? a = W.frozen? a := by
  refine (hs [] args (fun r => ∃ H N, r = some (.bool true, H, N)) W (by simp) (fun N hN => ?_) (knows_start W (frozen_past W))).mono ?_
  · obtain ⟨H', N', e⟩ := h N hN
    exact ⟨H', N', e⟩
  · rintro e w' ⟨v, H', rfl, hk, hq⟩
    obtain ⟨H2, N2, hv⟩ := hq _ (good_of hk)
    simp only [Option.some.injEq, Prod.mk.injEq] at hv
    refine ⟨by rw [hv.1], hk.below, fun a => ?_⟩
    rcases Nat.lt_or_ge a.block W.heap.size with h' | h'
    · exact hk.below.frozen h'
    · rw [hk.fz a h', frozen_past W a h']

/-- A summary that makes nothing that lasts. -/
theorem SoundC.val {k : Nat} {g : Cs} {f : List Value → Option Value} (hs : SoundC P W B k g)
    (h : ∀ args v H N, f args = some v → good B H N → ∃ H' N', g args H N = some (v, H', N') ∧ ∀ r x, den H B r = some x → den H' B r = some x) : SoundC P W B k (fun args H N => pv (f args) H N) := by
  intro H args Q w h0 hQ hk
  obtain ⟨v, hv, hq⟩ := pv_elim hk h0 hQ
  refine (hs H args (fun r => ∃ H' N', r = some (v, H', N') ∧ ∀ r x, den H B r = some x → den H' B r = some x) w (by simp) (fun N hN => h args v H N hv hN) hk).mono ?_
  rintro e w' ⟨v', H', rfl, hk', hq'⟩
  obtain ⟨H2, N2, e2, hle⟩ := hq' _ (good_of hk')
  simp only [Option.some.injEq, Prod.mk.injEq] at e2
  obtain ⟨rfl, rfl, _⟩ := e2
  exact ⟨v', H, rfl, hk'.mono hle, hq⟩

/-- A summary that is what the function answers, by itself: where it answers the same whatever is known, and makes nothing that lasts. -/
def Ev (B : OH) (g : Cs) (args : List Value) (v : Value) : Prop := ∀ H N, good B H N → ∃ H' N', g args H N = some (v, H', N') ∧ ∀ r x, den H B r = some x → den H' B r = some x
open Classical in
noncomputable def kval (B : OH) (g : Cs) (args : List Value) : Option Value := if h : (∃ H N, good B H N) ∧ ∃ v, Ev B g args v then some (Classical.choose h.2) else none
noncomputable def kvalC (B : OH) (g : Cs) : Cs := fun a H N => pv (kval B g a) H N
theorem kval_eq {g : Cs} {args : List Value} {v : Value} (hN : ∃ H N, good B H N) (h : Ev B g args v) : kval B g args = some v := by
  have hh : (∃ H N, good B H N) ∧ ∃ v, Ev B g args v := ⟨hN, v, h⟩
  unfold kval
  rw [dif_pos hh]
  obtain ⟨H, N, hg⟩ := hN
  obtain ⟨_, _, e1, _⟩ := Classical.choose_spec hh.2 H N hg
  obtain ⟨_, _, e2, _⟩ := h H N hg
  rw [e2] at e1
  simp only [Option.some.injEq, Prod.mk.injEq] at e1
  rw [e1.1]
theorem SoundC.ofVal {k : Nat} {g : Cs} (hs : SoundC P W B k g) : SoundC P W B k (kvalC B g) :=
  hs.val fun args v H N hf hN => by
    unfold kval at hf
    split at hf
    · rename_i h
      simp only [Option.some.injEq] at hf
      subst hf
      exact Classical.choose_spec h.2 H N hN
    · cases hf
theorem done1 {v : Value} {H : HL} {N : St} : ∃ H' N', some (v, H, N) = some (v, H', N') := ⟨_, _, rfl⟩
theorem done2 {v : Value} {H H1 : HL} {N : St} (h : ∀ r x, den H B r = some x → den H1 B r = some x) : ∃ H' N', some (v, H1, N) = some (v, H', N') ∧ ∀ r x, den H B r = some x → den H' B r = some x := ⟨_, _, rfl, h⟩
theorem ext_refl {H : HL} : ∀ r x, den H B r = some x → den H B r = some x := fun _ _ h => h
theorem ext_new {H H' : HL} {N : St} {i : Nat} {k : KB} (hN : good B H N) (h : ∀ r x, den H B r = some x → den H' B r = some x) : ∀ r x, den H B r = some x → den ((N i, k) :: H') B r = some x := by
  intro r x hr
  have hne : r ≠ N i := fun e => by rw [e, hN.2 i] at hr; cases hr
  have hx := h r x hr
  unfold den at hx ⊢
  simp only [lk]
  have : (r == N i) = false := by simpa using hne
  simpa [this] using hx
theorem good_B {H : HL} {N : St} (hN : good B H N) (i : Nat) : B (N i) = none := by
  have := hN.2 i
  unfold den at this
  cases h : B (N i) with
  | none => rfl
  | some k => simp [h] at this
theorem good_rdB {H : HL} {N : St} (hN : good B H N) (i o n : Nat) : rdB B (N i) o n = none := by simp [rdB, good_B hN i]

theorem args_stay {H : Type} {enc : TypeId × Value → H} (hl : laidOutB P = true) {W W' : World} (hb : Below W.heap.size W W') {sp : Nat → Bool} : ∀ {ts : List TypeId} {vs : List Value} {ds : List (DataW H)} {ps : List MemPlace},
    (∀ t ∈ ts, P.readableRec t = true ∧ t < P.types.size) → DataW.TrodAll enc P W 0 (fun _ => true) true ts vs ds ps → (∀ x ∈ ps, x.block < W.heap.size) → (∀ x ∈ ps, sp x.block = true) → DataW.TrodAll enc P W' 0 sp true ts vs ds ps
  | [], vs, ds, ps, _, h, _, _ => by
    obtain ⟨rfl, rfl, rfl⟩ := trodAll_nil h
    exact trodAll_mk0
  | t :: ts, vs, ds, ps, ht, h, hlt, hsp => by
    obtain ⟨v, vs', d, ds', p, q, rfl, rfl, rfl, h1, h2⟩ := trodAll_cons h
    obtain ⟨r1, r2⟩ := ht t List.mem_cons_self
    refine trodAll_cons_mk ?_ (args_stay hl hb (fun t h => ht t (List.mem_cons_of_mem _ h)) h2 (fun x h => hlt x (List.mem_append_right _ h)) (fun x h => hsp x (List.mem_append_right _ h)))
    exact WideElems.Trod_stays hl r1 r2 h1 (fun x hx => hb.same (hlt x (List.mem_append_left _ hx))) (fun x hx => hsp x (List.mem_append_left _ hx))

/-- The row's end: it answered true, and left all as it was. -/
theorem law_post {H : Type} {enc : TypeId × Value → H} {f : Func} {s : ChangeSpec} {tb : TypeId} (hl : laidOutB P = true) (hts : ∀ t ∈ f.params.toList, P.readableRec t = true ∧ t < P.types.size) (hv : s.vars = []) (hr : f.resultTypes = #[tb]) (hb : P.underlying tb = some .bool)
    {W : World} {args : Array Value} {ds gs : List (DataW H)} {before : List MemPlace} {apart fresh handsOn again : Bool} {k : Nat}
    (hW : DataW.Whole enc P f.params.toList s.vars apart W args.toList ds gs before) (hs : (s.fn H (ds ++ gs)).results = [.lit (.bool true)]) (ha : (s.fn H (ds ++ gs)).args = ds) (hvs : (s.fn H (ds ++ gs)).vars = [])
    (walk : Calls P k args W fun e w' => e = .returned (.bool true) ∧ Below W.heap.size W w' ∧ ∀ a, w'.frozen? a = W.frozen? a) :
    Calls P k args W fun e W' => ∃ v, e = .returned v ∧ s.post enc P f apart fresh handsOn again W args v W' := by
  refine walk.mono fun e W' ⟨he, hbel, hfz⟩ => ⟨_, he, ?_⟩
  have hW0 := hW
  obtain ⟨p, q, hA, hV, rfl, hz, hnd⟩ := hW
  rw [hv] at hV
  obtain ⟨rfl, rfl⟩ := trodVars_none hV
  have hlt : ∀ x ∈ p, x.block < W.heap.size := fun x hx => by
    have := hW0.lt x (by simpa using hx)
    exact this
  refine post_of_same (pa := p) (pv := []) hW0 (fun _ _ _ => ?_) (fun sp hsp => ?_) (fun _ _ => ?_) rfl (hbel.frame _) hfz ?_
  · rw [hs, hr]
    exact trodAll_cons_mk (shut_bool hb _) trodAll_mk0
  · rw [ha]
    exact args_stay hl hbel hts hA hlt (fun x hx => hsp x (by simpa using hx))
  · rw [hv, hvs]; rfl
  · exact ok_one hr rfl (okWide_bool_mk hb _)
end Go.Proofs.Ytffmiglkkfcpmaa.K
namespace Go.Proofs.Ytffmiglkkfcpmaa.K
open Go.ChangeShapes
variable {P : Program} {w : World} {H : Type} {enc : TypeId × Value → H} {base : Nat} {sp : Nat → Bool} {held : Bool}

inductive LK where
  | int (k : IntKind) | bool | str
  deriving DecidableEq
mutual
def leafs (P : Program) : Nat → TypeId → Option (List LK)
  | 0, _ => none
  | d + 1, t =>
    match P.underlying t with
    | some .bool => some [.bool]
    | some (.int k) => some [.int k]
    | some .string => some [.str]
    | some (.struct fs) => match leafsF P d fs.toList 0 with | some l => if P.cellsOf t = l.length then some l else none | none => none
    | some (.array n e) => match leafs P d e with | some l => if P.cellsOf e = l.length ∧ P.cellsOf t = n * l.length then some ((List.replicate n l).flatten) else none | none => none
    | _ => none
def leafsF (P : Program) : Nat → List Field → Nat → Option (List LK)
  | _, [], _ => some []
  | 0, _ :: _, _ => none
  | d + 1, f :: r, o =>
    match leafs P d f.type with
    | some l => if f.offset = o ∧ P.cellsOf f.type = l.length then (match leafsF P d r (o + l.length) with | some m => some (l ++ m) | none => none) else none
    | none => none
end
def flatL : DataW H → List Lit
  | .lit l => [l]
  | .agg ps => flatLs ps
  | _ => []
  where flatLs : List (DataW H) → List Lit
    | [] => []
    | d :: r => flatL d ++ flatLs r
def litV : Lit → Value
  | .bool b => .bool b
  | .int k n => .int k n
  | .string bs => .string ⟨bs.toArray⟩
  | .float k b => .float k b
  | .nil => .pointer none
def okL : LK → Lit → Prop
  | .int k, .int k' n => k' = k ∧ (Lit.int k n).wf = true
  | .bool, .bool _ => True
  | .str, .string bs => bs.length ≤ maxLen
  | _, _ => False
inductive OKs : List LK → List Lit → Prop
  | nil : OKs [] []
  | cons {a b l m} : okL a b → OKs l m → OKs (a :: l) (b :: m)
theorem OKs.append {a c : List LK} {b d : List Lit} (h : OKs a b) (h' : OKs c d) : OKs (a ++ c) (b ++ d) := by
  induction h with
  | nil => exact h'
  | cons h1 _ ih => exact .cons h1 ih
theorem OKs.length {a : List LK} {b : List Lit} (h : OKs a b) : a.length = b.length := by
  induction h with
  | nil => rfl
  | cons _ _ ih => simp [ih]
theorem flatLs_map (xs : List (DataW H × List MemPlace)) : flatL.flatLs (xs.map (·.1)) = xs.flatMap fun x => flatL x.1 := by
  induction xs with
  | nil => rfl
  | cons x xs ih => simp [flatL.flatLs, ih]
theorem array_tile {es : Nat} {cs : List Value} {lk : List LK} (hes : es = lk.length) : ∀ (n o : Nat) (xs : List (DataW H × List MemPlace)), xs.length = n → o + n * es ≤ cs.length →
    (∀ i, i < n → ∃ x, xs[i]? = some x ∧ (cs.drop (o + i * es)).take es = (flatL x.1).map litV ∧ OKs lk (flatL x.1) ∧ x.2 = []) →
    (cs.drop o).take (n * es) = (xs.flatMap fun x => flatL x.1).map litV ∧ OKs (List.replicate n lk).flatten (xs.flatMap fun x => flatL x.1) ∧ xs.flatMap (·.2) = []
  | 0, o, xs, hx, _, _ => by
    have : xs = [] := List.length_eq_zero_iff.1 hx
    subst this
    simp
    exact .nil
  | n + 1, o, [], hx, _, _ => by cases hx
  | n + 1, o, x :: xs, hx, hlen, h => by
    obtain ⟨x', e1, h1, h2, h3⟩ := h 0 (by omega)
    simp only [List.getElem?_cons_zero, Option.some.injEq] at e1
    subst e1
    have hn : (n + 1) * es = n * es + es := by rw [Nat.add_mul, Nat.one_mul]
    obtain ⟨i1, i2, i3⟩ := array_tile (cs := cs) (lk := lk) hes n (o + es) xs (by simpa using hx) (by omega) (fun i hi => by
      obtain ⟨y, e, g1, g2, g3⟩ := h (i + 1) (by omega)
      refine ⟨y, by simpa using e, ?_, g2, g3⟩
      have : o + (i + 1) * es = o + es + i * es := by rw [Nat.add_mul, Nat.one_mul]; omega
      rw [← this]; exact g1)
    refine ⟨?_, ?_, ?_⟩
    · rw [show (n + 1) * es = es + n * es by rw [hn]; omega, List.take_add, List.drop_drop]
      simp only [Nat.zero_mul, Nat.add_zero] at h1
      rw [h1, show o + es = o + es from rfl, i1]
      simp
    · rw [List.replicate_succ, List.flatten_cons, List.flatMap_cons]
      exact h2.append i2
    · simp [h3, i3]
theorem trod_flat : ∀ (d : Nat), (∀ (t : TypeId) (ls : List LK) (fuel : Nat) (cs : List Value) (x : DataW H × List MemPlace), leafs P d t = some ls → DataW.trod enc P w base sp held fuel t cs = some x →
      cs = (flatL x.1).map litV ∧ OKs ls (flatL x.1) ∧ x.2 = []) ∧
    (∀ (fs : List Field) (o : Nat) (ls : List LK) (n : Nat) (cs : List Value) (xs : List (DataW H × List MemPlace)), leafsF P d fs o = some ls → xs.length = fs.length → o + ls.length ≤ cs.length →
      (∀ (i : Nat) (f : Field), fs[i]? = some f → DataW.trod enc P w base sp held n f.type ((cs.drop f.offset).take (P.cellsOf f.type)) = xs[i]?) →
      (cs.drop o).take ls.length = (xs.flatMap fun x => flatL x.1).map litV ∧ OKs ls (xs.flatMap fun x => flatL x.1) ∧ xs.flatMap (·.2) = []) := by
  intro d
  induction d with
  | zero =>
    refine ⟨fun t ls fuel cs x h => by simp [leafs] at h, fun fs o ls n cs xs h hx hlen hf => ?_⟩
    cases fs with
    | nil =>
      simp only [leafsF, Option.some.injEq] at h
      subst h
      have : xs = [] := List.length_eq_zero_iff.1 hx
      subst this
      simp; exact .nil
    | cons f fs => simp [leafsF] at h
  | succ d ih =>
    obtain ⟨ihP, ihQ⟩ := ih
    refine ⟨fun t ls fuel cs x h hx => ?_, fun fs o ls n cs xs h hx hlen hf => ?_⟩
    · simp only [leafs] at h
      split at h
      · rename_i ht
        simp only [Option.some.injEq] at h; subst h
        obtain ⟨b, rfl, rfl⟩ := DataW.trod_bool ht hx
        exact ⟨rfl, .cons trivial .nil, rfl⟩
      · rename_i k ht
        simp only [Option.some.injEq] at h; subst h
        obtain ⟨n, rfl, rfl, hw⟩ := DataW.trod_int ht hx
        exact ⟨rfl, .cons ⟨rfl, hw⟩ .nil, rfl⟩
      · rename_i ht
        simp only [Option.some.injEq] at h; subst h
        obtain ⟨s, rfl, rfl, hs⟩ := DataW.trod_string ht hx
        refine ⟨by simp [flatL, litV], .cons ?_ .nil, rfl⟩
        simpa [okL] using hs
      · rename_i fs ht
        split at h
        · rename_i l hl
          split at h
          · rename_i hc
            simp only [Option.some.injEq] at h; subst h
            obtain ⟨xs, n, _, rfl, hlen, hxl, hf⟩ := DataW.trod_struct ht hx
            obtain ⟨h1, h2, h3⟩ := ihQ fs.toList 0 l n cs xs hl (by simpa using hxl) (by omega) (fun i f hi => hf i f (by simpa using hi))
            refine ⟨?_, ?_, h3⟩
            · simp only [flatL, flatLs_map]
              rw [← h1, List.drop_zero, List.take_of_length_le (by omega)]
            · simp only [flatL, flatLs_map]; exact h2
          · cases h
        · cases h
      · rename_i n e ht
        split at h
        · rename_i l hl
          split at h
          · rename_i hc
            simp only [Option.some.injEq] at h; subst h
            obtain ⟨xs, m, _, rfl, hlen, hxl, hf⟩ := DataW.trod_array ht hx
            obtain ⟨h1, h2, h3⟩ := array_tile (es := P.cellsOf e) (cs := cs) hc.1 n 0 xs hxl (by rw [hc.1]; omega) (fun i hi => by
              have h0 := hf i hi
              have hget : xs[i]? = some xs[i] := by simp [hxl, hi]
              rw [hget] at h0
              obtain ⟨g1, g2, g3⟩ := ihP e l m _ _ hl h0
              exact ⟨xs[i], hget, by rw [Nat.zero_add]; exact g1, g2, g3⟩)
            refine ⟨?_, ?_, h3⟩
            · simp only [flatL, flatLs_map]
              rw [← h1, List.drop_zero, List.take_of_length_le (by rw [hc.1]; omega)]
            · simp only [flatL, flatLs_map]; exact h2
          · cases h
        · cases h
      · cases h
    · cases fs with
      | nil =>
        simp only [leafsF, Option.some.injEq] at h
        subst h
        have : xs = [] := List.length_eq_zero_iff.1 hx
        subst this
        simp; exact .nil
      | cons f fs =>
        simp only [leafsF] at h
        split at h
        · rename_i l hl
          split at h
          · rename_i hc
            split at h
            · rename_i m hm
              simp only [Option.some.injEq] at h; subst h
              cases xs with
              | nil => cases hx
              | cons x xs =>
                have h0 := hf 0 f rfl
                simp only [List.getElem?_cons_zero] at h0
                obtain ⟨g1, g2, g3⟩ := ihP f.type l n _ _ hl h0
                rw [List.length_append] at hlen
                obtain ⟨i1, i2, i3⟩ := ihQ fs (o + l.length) m n cs xs hm (by simpa using hx) (by omega) (fun i f' hi => by
                  have := hf (i + 1) f' (by simpa using hi)
                  simpa using this)
                refine ⟨?_, ?_, ?_⟩
                · rw [List.length_append, List.take_add, List.drop_drop, i1]
                  rw [hc.1, hc.2] at g1
                  rw [g1]
                  simp
                · rw [List.flatMap_cons]; exact g2.append i2
                · simp [g3, i3]
            · cases h
          · cases h
        · cases h
theorem laid_cells {W : World} : ∀ {laid : List (String × DataW Unit)} {ps : List MemPlace}, DataW.LaidVars P W laid ps → ∀ {n : String} {x : DataW Unit}, (n, x) ∈ laid → ∀ {g : Nat} {t : TypeId} {ls : List LK} (d : Nat), P.globalNamed n = some g → (P.globals[g]?).map (·.type) = some t → leafs P d t = some ls →
    ∃ arr e fr, W.heap[g]? = some (.cells arr e fr) ∧ arr.toList = (flatL x).map litV
  | [], _, _, _, _, hm, _, _, _, _, _, _, _ => by cases hm
  | (n', x') :: laid, ps, h, n, x, hm, g, t, ls, d, hg, ht, hl => by
    obtain ⟨g', t', cs, fuel, p, q, h1, h2, h3, h4, h5, _⟩ := h
    rcases List.mem_cons.1 hm with e | hm
    · simp only [Prod.mk.injEq] at e
      obtain ⟨rfl, rfl⟩ := e
      obtain rfl := Option.some.inj (hg.symm.trans h1)
      obtain rfl := Option.some.inj (ht.symm.trans h2)
      obtain ⟨e1, _, _⟩ := (trod_flat d).1 _ _ _ _ _ hl h4
      unfold World.var? at h3
      rw [hg] at h3
      simp only [Option.bind_some] at h3
      split at h3
      · rename_i arr e fr hw
        simp only [Option.some.injEq] at h3
        subst h3
        exact ⟨arr, e, fr, hw, e1⟩
      · cases h3
    · exact laid_cells h5 hm d hg ht hl
theorem rof_list {f : Nat → Option Value} : ∀ (l : List Value) (o : Nat), (∀ i : Nat, i < l.length → f (o + i) = l[i]?) → rof f o l.length = some l
  | [], _, _ => rfl
  | v :: l, o, h => by
    have h0 := h 0 (by simp)
    simp only [Nat.add_zero, List.getElem?_cons_zero] at h0
    have hr := rof_list l (o + 1) (fun i hi => by
      have := h (i + 1) (by simp; omega)
      rw [show o + 1 + i = o + (i + 1) by omega]
      simpa using this)
    simp only [List.length_cons, rof, h0, hr]
theorem rdB_start {W : World} {b : Nat} {arr : Array Value} {e : TypeId} {fr : Nat × Nat} (h : W.heap[b]? = some (.cells arr e fr)) (o n : Nat) : rdB (startB W) b o n = rof (fun i => arr[i]?) o n := by
  simp [rdB, startB, h, KB.rd]
theorem rdB_whole {W : World} {b : Nat} {arr : Array Value} {e : TypeId} {fr : Nat × Nat} (h : W.heap[b]? = some (.cells arr e fr)) {l : List Value} (hl : arr.toList = l) {n : Nat} (hn : l.length = n) : rdB (startB W) b 0 n = some l := by
  rw [rdB_start h]
  subst hn hl
  exact rof_list _ 0 (fun i _ => by simp)
theorem laidMet_of_H {laid : List (String × DataW Unit)} {W : World} (hn : (laid.filter fun x => x.2.handleName?.isSome) = []) (h : laidMetH P laid W) : laidMet P laid W := by
  unfold laidMetH at h
  rw [hn] at h
  exact h
end Go.Proofs.Ytffmiglkkfcpmaa.K
namespace Go.Proofs.Ytffmiglkkfcpmaa.K
open Go.ChangeShapes Go.WideShapes Go.ChangeAt Go.RowKit

theorem u64_wf {n : Int} (h : (Lit.int .u64 n).wf = true) : ∃ x : BitVec 64, n = (x.toNat : Int) := by
  have h1 : IntKind.u64.min = 0 := by rfl
  have h2 : IntKind.u64.max = 18446744073709551615 := by rfl
  simp only [Lit.wf, h1, h2, Bool.and_eq_true, decide_eq_true_eq] at h
  refine ⟨BitVec.ofInt 64 n, ?_⟩
  simp only [BitVec.toNat_ofInt]
  omega
theorem i64_wf {n : Int} (h : (Lit.int .i64 n).wf = true) : -9223372036854775808 ≤ n ∧ n ≤ 9223372036854775807 := by
  have h1 : IntKind.i64.min = -9223372036854775808 := by rfl
  have h2 : IntKind.i64.max = 9223372036854775807 := by rfl
  simpa only [Lit.wf, h1, h2, Bool.and_eq_true, decide_eq_true_eq] using h

/-- The settled world with the listed variables' blocks holding what the row lists. -/
noncomputable def laidW (P : Program) (os : Os) (l : List (Nat × List Value)) : World :=
  let w := World.holding P os ⟨#[], #[], []⟩
  { w with heap := l.foldl (fun h x => h.modify x.1 fun
      | .cells _ t frozen => .cells x.2.toArray t frozen
      | o => o) w.heap }
variable {P : Program} {W : World} {H : Type} {enc : TypeId × Value → H} {base : Nat} {sp : Nat → Bool} {held : Bool}
theorem open_flat {r : Reach} {b0 : Nat} {t : TypeId} {v : Value} {d : DataW H} {ps : List MemPlace} {ls : List LK} (n : Nat) (ht : aggB P t = some true) (hl : leafs P n t = some ls) (hval : Value.okWide P W r b0 t v) (hd : DataW.Trod enc P W base sp held t v d ps) :
    ∃ m : List Lit, v = .agg (m.map litV).toArray ∧ OKs ls m := by
  obtain ⟨cs, rfl⟩ : ∃ cs, v = .agg cs := by
    unfold aggB at ht
    unfold Value.okWide at hval
    split at ht
    · rename_i fs hu
      rw [hu] at hval
      obtain ⟨cs, h, _⟩ := hval
      exact ⟨cs, h⟩
    · rename_i k e hu
      rw [hu] at hval
      obtain ⟨cs, h, _⟩ := hval
      exact ⟨cs, h⟩
    · cases ht
    · cases ht
  obtain ⟨fuel, hf⟩ := hd
  obtain ⟨h1, h2, _⟩ := (trod_flat n).1 _ _ _ _ _ hl hf
  refine ⟨flatL d, ?_, h2⟩
  congr 1
  apply Array.ext'
  simpa [Value.cells] using h1
theorem OKs.int {k : IntKind} {l : List LK} {m : List Lit} (h : OKs (.int k :: l) m) : ∃ n r, m = .int k n :: r ∧ (Lit.int k n).wf = true ∧ OKs l r := by
  cases h with
  | cons h1 h2 =>
    rename_i b r
    cases b <;> simp only [okL] at h1
    obtain ⟨rfl, hw⟩ := h1
    exact ⟨_, _, rfl, hw, h2⟩
theorem OKs.bool {l : List LK} {m : List Lit} (h : OKs (.bool :: l) m) : ∃ b r, m = .bool b :: r ∧ OKs l r := by
  cases h with
  | cons h1 h2 =>
    rename_i b r
    cases b <;> simp only [okL] at h1
    exact ⟨_, _, rfl, h2⟩
theorem OKs.none {m : List Lit} (h : OKs [] m) : m = [] := by cases h; rfl
theorem u64_wf' {n : Int} (h : (Lit.int .u64 n).wf = true) : 0 ≤ n ∧ n < 18446744073709551616 := by
  have h1 : IntKind.u64.min = 0 := by rfl
  have h2 : IntKind.u64.max = 18446744073709551615 := by rfl
  simp only [Lit.wf, h1, h2, Bool.and_eq_true, decide_eq_true_eq] at h
  omega
end Go.Proofs.Ytffmiglkkfcpmaa.K
