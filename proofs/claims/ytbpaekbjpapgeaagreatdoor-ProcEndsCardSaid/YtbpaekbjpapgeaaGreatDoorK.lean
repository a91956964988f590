/- A small evaluator of the code that functions of the translated program consist of, proved sound against the model: what it answers on what is known of the memory, the model answers. First part: the operations. -/
import Derived.WalkKit
import Derived.Defers
import Derived.MapKept
import Derived.ChangeKeysEq
import Derived.Laws.StructEq
import Derived.Laws.MakeOwn
import Derived.Laws.AppendOwn
import Derived.Lib.AppendZerosOnto
import Derived.ChangeMaps4
set_option linter.unusedSimpArgs false
set_option linter.unusedVariables false
namespace Go.Proofs.YtbpaekbjpapgeaaGreatDoor.K

inductive LSt where
  | ready | busy | over
  | done (j : Option Nat)
inductive KB where
  | cells (cs : List Value) (n : Nat)
  | ro (f : Nat → Option Value)
  | map (kd : IntKind) (f : Int → Option Value)
  | loop (r : Loop) (st : LSt)
  | dfr
def LSt.ok : LSt → Loop → Prop
  | .ready, r => r.state = .ready ∧ r.pending = none
  | .busy, r => r.state = .busy
  | .over, _ => True
  | .done none, r => r.state = .done ∧ r.pending = some .ret
  | .done (some i), r => r.state = .done ∧ r.pending = some (.exit i)
def Loop.like (r r0 : Loop) : Prop := r.fn = r0.fn ∧ r.tmps = r0.tmps ∧ r.params = r0.params ∧ r.assign = r0.assign ∧ r.body = r0.body

abbrev OH := Nat → Option KB
abbrev HL := List (Nat × KB)

def lk : HL → Nat → Option KB
  | [], _ => none
  | (x, k) :: H, r => bif r == x then some k else lk H r
def den (H : HL) (B : OH) : OH := fun r => match B r with | some k => some k | none => lk H r

def KB.is : KB → Option Obj → Prop
  | .cells cs n, o => ∃ arr e, o = some (.cells arr e (0, 0)) ∧ arr.size = n ∧ cs.length ≤ n ∧ ∀ (i : Nat) v, cs[i]? = some v → arr[i]? = some v
  | .ro f, o => ∃ arr e fr, o = some (.cells arr e fr) ∧ ∀ i v, f i = some v → arr[i]? = some v
  | .map kd f, o => ∃ es c, o = some (.map es c) ∧ MapKept.Stamped es c ∧ (∀ x ∈ es.toList, MapKept.IsKey (.int kd) x.key) ∧ ∀ n v, f n = some v ↔ ∃ x ∈ es.toList, x.key = .int kd n ∧ x.val = v
  | .loop r0 st, o => ∃ r, o = some (.loop r) ∧ Loop.like r r0 ∧ st.ok r
  | .dfr, o => ∃ ds, o = some (.deferred ds)

structure Knows (w0 : World) (O : OH) (w : World) : Prop where
  os : w.os = w0.os
  tape : w.tape = w0.tape
  output : w.output = w0.output
  size : w0.heap.size ≤ w.heap.size
  old : ∀ b, b < w0.heap.size → w.heap[b]? = w0.heap[b]?
  own : ∀ r k, O r = some k → r < w.heap.size ∧ k.is w.heap[r]?
  fz : ∀ a : Addr, w0.heap.size ≤ a.block → w.frozen? a = false
  mine : ∀ r, (∃ cs n, O r = some (.cells cs n)) ∨ (∃ es c, O r = some (.map es c)) → w0.heap.size ≤ r
  mineL : ∀ r, (∃ r0 st, O r = some (.loop r0 st)) → w0.heap.size ≤ r
def KeepD (w w' : World) : Prop := w.heap.size ≤ w'.heap.size ∧ ∀ (b : Nat) ds, w.heap[b]? = some (.deferred ds) → w'.heap[b]? = some (.deferred ds)
theorem KeepD.refl (w : World) : KeepD w w := ⟨Nat.le_refl _, fun _ _ h => h⟩
theorem KeepD.trans {a b c : World} (h : KeepD a b) (h' : KeepD b c) : KeepD a c := ⟨Nat.le_trans h.1 h'.1, fun x ds hx => h'.2 x ds (h.2 x ds hx)⟩
theorem KeepD.alloc (w : World) (o : Obj) : KeepD w (w.alloc o) := ⟨by simp, fun b ds h => by
  have hb : b < w.heap.size := by
    rcases Nat.lt_or_ge b w.heap.size with h' | h'
    · exact h'
    · rw [Array.getElem?_eq_none h'] at h; cases h
  show (w.heap.push o)[b]? = _
  rw [Array.getElem?_push, if_neg (by omega)]; exact h⟩

variable {w0 w : World} {O O' : OH}

theorem Knows.drew (h : Knows w0 O w) : Knows w0 O w.drew := ⟨h.os, h.tape, h.output, h.size, h.old, h.own, h.fz, h.mine, h.mineL⟩
theorem Knows.drawn (h : Knows w0 O w) (n : Nat) : Knows w0 O { w with drawn := n } := ⟨h.os, h.tape, h.output, h.size, h.old, h.own, h.fz, h.mine, h.mineL⟩
theorem Knows.mono (h : Knows w0 O w) (hle : ∀ r k, O' r = some k → O r = some k) : Knows w0 O' w :=
  ⟨h.os, h.tape, h.output, h.size, h.old, fun r k hk => h.own r k (hle r k hk), h.fz, fun r hr => h.mine r (by
    rcases hr with ⟨cs, n, hk⟩ | ⟨es, c, hk⟩
    · exact .inl ⟨cs, n, hle _ _ hk⟩
    · exact .inr ⟨es, c, hle _ _ hk⟩), fun r ⟨r0, st, hk⟩ => h.mineL r ⟨r0, st, hle _ _ hk⟩⟩

theorem Knows.below (h : Knows w0 O w) : RowKit.Below w0.heap.size w0 w := ⟨h.os, h.tape, h.output, h.size, h.old⟩

def tk : List Value → Nat → Nat → Option (List Value)
  | _, 0, 0 => some []
  | [], _, _ => none
  | v :: l, 0, n + 1 => match tk l 0 n with | some r => some (v :: r) | none => none
  | _ :: l, o + 1, n => tk l o n
def tkC (v : Value) : Option (List Value) → Option (List Value)
  | some r => some (v :: r)
  | none => none
def rof (f : Nat → Option Value) (o : Nat) : Nat → Option (List Value)
  | 0 => some []
  | n + 1 => match f o, rof f (o + 1) n with | some v, some r => some (v :: r) | _, _ => none
def KB.rd : KB → Nat → Nat → Option (List Value)
  | .cells cs _, o, n => tk cs o n
  | .ro f, o, n => rof f o n
  | .map .., _, _ => none
  | .loop .., _, _ => none
  | .dfr, _, _ => none
def rdB (B : OH) (b o n : Nat) : Option (List Value) := match B b with | some k => k.rd o n | none => none
def rdL (o n : Nat) : Option KB → Option (List Value)
  | some k => k.rd o n
  | none => none
def rdN (H : HL) (b o n : Nat) : Option KB → Option (List Value)
  | some _ => none
  | none => rdL o n (lk H b)
def rdO (H : HL) (B : OH) (b o n : Nat) : Option (List Value) → Option (List Value)
  | some r => some r
  | none => rdN H b o n (B b)
def rdH (H : HL) (B : OH) (b o n : Nat) : Option (List Value) := rdO H B b o n (rdB B b o n)

theorem tk_spec : ∀ (l : List Value) (o n : Nat) (r : List Value), tk l o n = some r → r.length = n ∧ ∀ i v, r[i]? = some v → l[o + i]? = some v
  | _, 0, 0, r, h => by simp only [tk, Option.some.injEq] at h; subst h; simp
  | [], o + 1, n, r, h => by simp [tk] at h
  | [], 0, n + 1, r, h => by simp [tk] at h
  | v :: l, 0, n + 1, r, h => by
    simp only [tk] at h
    split at h
    · rename_i r' hr
      simp only [Option.some.injEq] at h
      subst h
      obtain ⟨h1, h2⟩ := tk_spec l 0 n r' hr
      refine ⟨by simp [h1], fun i u hi => ?_⟩
      cases i with
      | zero => simpa using hi
      | succ i => simpa [Nat.add_comm] using h2 i u (by simpa using hi)
    · cases h
  | _ :: l, o + 1, n, r, h => by
    simp only [tk] at h
    obtain ⟨h1, h2⟩ := tk_spec l o n r h
    exact ⟨h1, fun i u hi => by rw [show o + 1 + i = (o + i) + 1 by omega]; simpa using h2 i u hi⟩
theorem rof_spec (f : Nat → Option Value) : ∀ (n o : Nat) (r : List Value), rof f o n = some r → r.length = n ∧ ∀ i v, r[i]? = some v → f (o + i) = some v
  | 0, o, r, h => by simp only [rof, Option.some.injEq] at h; subst h; simp
  | n + 1, o, r, h => by
    simp only [rof] at h
    split at h
    · rename_i v r' hv hr
      simp only [Option.some.injEq] at h
      subst h
      obtain ⟨h1, h2⟩ := rof_spec f n (o + 1) r' hr
      refine ⟨by simp [h1], fun i u hi => ?_⟩
      cases i with
      | zero => simp at hi; subst hi; exact hv
      | succ i => rw [show o + (i + 1) = o + 1 + i by omega]; exact h2 i u (by simpa using hi)
    · cases h
theorem KB.rd_is {k : KB} {x : Option Obj} (h : k.is x) {o n : Nat} {r : List Value} (hr : k.rd o n = some r) :
    r.length = n ∧ (n = 0 ∨ ∃ arr e fr, x = some (.cells arr e fr) ∧ ∀ i v, r[i]? = some v → arr[o + i]? = some v) := by
  cases k with
  | cells cs m =>
    obtain ⟨arr, e, rfl, _, _, hc⟩ := h
    obtain ⟨h1, h2⟩ := tk_spec cs o n r hr
    exact ⟨h1, .inr ⟨arr, e, _, rfl, fun i v hi => hc _ _ (h2 i v hi)⟩⟩
  | ro f =>
    obtain ⟨arr, e, fr, rfl, hc⟩ := h
    obtain ⟨h1, h2⟩ := rof_spec f n o r hr
    exact ⟨h1, .inr ⟨arr, e, fr, rfl, fun i v hi => hc _ _ (h2 i v hi)⟩⟩
  | map es c => simp [KB.rd] at hr
  | loop r0 st => simp [KB.rd] at hr
  | dfr => simp [KB.rd] at hr

theorem rdH_spec {H : HL} {B : OH} (hk : Knows w0 (den H B) w) {b o n : Nat} {r : List Value} (hr : rdH H B b o n = some r) :
    r.length = n ∧ ∀ i v, r[i]? = some v → w.cell? ⟨b, o + i, none⟩ = some v := by
  have key : ∃ k, den H B b = some k ∧ k.rd o n = some r := by
    unfold rdH at hr
    unfold den
    cases hB : B b with
    | some k =>
      simp only [rdB, hB] at hr
      cases hx : k.rd o n with
      | some r' => rw [hx] at hr; exact ⟨k, rfl, by rw [hx]; exact hr⟩
      | none => rw [hx] at hr; simp [rdO, rdN, hB] at hr
    | none =>
      simp only [rdB, hB, rdO, rdN] at hr
      cases hl : lk H b with
      | some k => rw [hl] at hr; exact ⟨k, rfl, hr⟩
      | none => rw [hl] at hr; simp [rdL] at hr
  obtain ⟨k, hd, hrd⟩ := key
  obtain ⟨_, his⟩ := hk.own b k hd
  obtain ⟨h1, h2⟩ := KB.rd_is his hrd
  refine ⟨h1, fun i v hi => ?_⟩
  rcases h2 with h2 | ⟨arr, e, fr, hx, hc⟩
  · subst h2
    have : r = [] := List.length_eq_zero_iff.1 h1
    subst this; simp at hi
  · simp only [World.cell?, hx]
    simpa using hc i v hi
end Go.Proofs.YtbpaekbjpapgeaaGreatDoor.K
namespace Go.Proofs.YtbpaekbjpapgeaaGreatDoor.K

structure St where
  n : Nat → Nat
  c : Nat → Nat
  g : Nat → Bool
  r : Nat → Loop
instance : CoeFun St (fun _ => Nat → Nat) := ⟨St.n⟩
def shg (N : St) : St := ⟨N.n, N.c, fun i => N.g (i + 1), N.r⟩
def sh (N : St) : St := ⟨fun i => N.n (i + 1), fun i => N.c (i + 1), fun i => N.g (i + 1), fun i => N.r (i + 1)⟩

inductive Leaf where
  | int | bool | str
  deriving DecidableEq

inductive LO where
  | mv (x : Operand)
  | pick (c a b : Operand)
  | alloc (z : List Value)
  | box (x : Operand)
  | build (z : List Value) (ps : List (Nat × Nat × Operand))
  | buildS (z : List Value) (len : Nat) (ps : List (Nat × Nat × Operand))
  | load (g : Bool) (n : Nat) (x : Operand)
  | store (n : Nat) (a x : Operand)
  | nilck (x : Operand)
  | bin (op : BinOp) (x y : Operand)
  | eqb (neg : Bool) (x y : Operand)
  | eqA (neg : Bool) (ls : List Leaf) (x y : Operand)
  | eqp (neg : Bool) (x y : Operand)
  | eqs (neg : Bool) (x y : Operand)
  | eqf (neg : Bool) (x y : Operand)
  | feq (neg : Bool) (x y : Operand)
  | cap (x : Operand)
  | fbits (from_ : Bool) (x : Operand)
  | un (op : UnOp) (x : Operand)
  | conv (k : IntKind) (x : Operand)
  | field (g : Bool) (off n : Nat) (x : Operand)
  | idxA (g : Bool) (es len : Nat) (x i : Operand)
  | faddr (off : Nat) (x : Operand)
  | iaddrS (es : Nat) (x i : Operand)
  | iaddrA (es len : Nat) (x i : Operand)
  | slc (es : Nat) (x : Operand) (lo hi mx : Option Operand)
  | slcA (es len : Nat) (x : Operand) (lo hi mx : Option Operand)
  | slcT (x : Operand) (lo hi : Option Operand)
  | tass (t : TypeId) (z : Value) (x : Operand)
  | isn (neg : Bool) (x : Operand)
  | pan (x : Operand)
  | ext (x : Operand) (i : Nat)
  | mks (z : List Value) (bytes : Nat) (len cap : Operand)
  | len (str : Bool) (x : Operand)
  | mm (mx : Bool) (xs : List Operand)
  | app (z : List Value) (bytes : Nat) (s x : Operand)
  | appZ (z : List Value) (bytes : Nat) (s x : Operand)
  | cpy (es : Nat) (d x : Operand)
  | call (f : Operand) (args : List Operand)
  | ifc (t : TypeId) (x : Operand)
  | fn (f : Fn) (first cap : List Operand)
  | mkmap (kd : IntKind)
  | mlook (kd : IntKind) (z : Value) (ok : Bool) (m i : Operand)
  | mupd (kd : IntKind) (m i x : Operand)
  | mdel (kd : IntKind) (m i : Operand)
  | bad

structure LOp where
  dst : Option Tmp
  op : LO
  g : Option (Tmp × Bool)

structure DOp where
  op : LOp
  watch : List LOp

inductive LC where
  | skip
  | ops (l : List LOp)
  | draw (l : List DOp)
  | seq (a b : LC)
  | cond (c : Operand) (a b : LC)
  | block (id : Nat) (b : LC)
  | loop (b : LC)
  | exit (id : Nat)
  | ret
  | range (g : Operand) (ps : List Tmp) (a b : LC)
  | fork (a b : LC)
  | bad

def zeroOf (P : Program) (e : TypeId) : Option (List Value) := ((P.info? e).bind (·.zero)).map (·.cells.toList)
def aggB (P : Program) (t : TypeId) : Option Bool :=
  match P.underlying t with
  | some (.struct _) | some (.array _ _) => some true
  | some _ => some false
  | none => none
def zeroV (P : Program) (e : TypeId) : Option Value := (P.info? e).bind (·.zero)
def bytesO (P : Program) (e : TypeId) : Nat := ((P.info? e).map (·.bytes)).getD 0
def sizeO (P : Program) (t : TypeId) : Option Nat := (P.info? t).map (·.size)
mutual
def leaves (P : Program) : Nat → TypeId → Option (List Leaf)
  | 0, _ => none
  | d + 1, t =>
    match P.underlying t with
    | some .bool => some [.bool]
    | some (.int _) => some [.int]
    | some .string => some [.str]
    | some (.struct fs) => if P.stoodInHeld t then none else leavesF P d fs.toList 0
    | some (.array n e) => match leaves P d e with | some l => if sizeO P e = some l.length then some ((List.replicate n l).flatten) else none | none => none
    | _ => none
def leavesF (P : Program) : Nat → List Field → Nat → Option (List Leaf)
  | _, [], _ => some []
  | 0, _ :: _, _ => none
  | d + 1, f :: r, o =>
    match leaves P d f.type with
    | some l => if f.offset = o ∧ sizeO P f.type = some l.length ∧ f.name ≠ "_" then (match leavesF P d r (o + l.length) with | some m => some (l ++ m) | none => none) else none
    | none => none
end

def lowerBin (P : Program) (op : BinOp) (t : TypeId) (x y : Operand) : LO :=
  match op with
  | .eql | .neq =>
    let neg := match op with | .neq => true | _ => false
    match P.underlying t with
    | some (.int _) | some .string => .bin op x y
    | some .bool => .eqb neg x y
    | some (.pointer _) => .eqp neg x y
    | some (.slice _) => .eqs neg x y
    | some (.func _ _ _) => .eqf neg x y
    | some (.float _) => .feq neg x y
    | some (.interface _) => (match y with | .const .nilIface => .isn neg x | _ => .bad)
    | some (.struct _) | some (.array _ _) =>
      if P.eqGuardType P.depth t then .bad else
      (match leaves P 20 t with | some ls => .eqA neg ls x y | none => .bad)
    | _ => .bad
  | _ => .bin op x y

def mapT (P : Program) (t : TypeId) : Option (IntKind × TypeId) :=
  match P.underlying t with
  | some (.map k e) => (match P.underlying k with | some (.int kd) => some (kd, e) | _ => none)
  | _ => none
def lowerBI (P : Program) (c : Call) : Builtin → LO
  | .len =>
      match (c.argTypes[0]?).bind P.underlying, c.args.toList with
      | some (.slice _), [x] => .len false x
      | some .string, [x] => .len true x
      | _, _ => .bad
  | .cap =>
      match (c.argTypes[0]?).bind P.underlying, c.args.toList with
      | some (.slice _), [x] => .cap x
      | _, _ => .bad
  | .append =>
      match c.argTypes.toList, c.args.toList with
      | [t, t'], [s, x] =>
        if t = t' then (match P.underlying t with
        | some (.slice e) => (match sizeO P e, zeroOf P e with
          | some n, some z => if 0 < n ∧ z.length = n then .app z (bytesO P e) s x else .bad
          | _, _ => .bad)
        | _ => .bad) else (match P.underlying t, P.underlying t' with
        | some (.slice e), some (.int _) => (match sizeO P e, zeroOf P e with
          | some n, some z => if 0 < n ∧ z.length = n then .appZ z (bytesO P e) s x else .bad
          | _, _ => .bad)
        | _, _ => .bad)
      | _, _ => .bad
  | .copy =>
      match (c.argTypes[0]?).bind P.underlying, c.args.toList with
      | some (.slice e), [d, x] => (match sizeO P e with | some s => .cpy s d x | none => .bad)
      | _, _ => .bad
  | .delete =>
      match (c.argTypes[0]?).bind (mapT P), c.args.toList with
      | some (kd, _), [m, i] => .mdel kd m i
      | _, _ => .bad
  | .max => .mm true c.args.toList
  | .min => .mm false c.args.toList
  | _ => .bad
def extOf (P : Program) : Operand → Option Bool
  | .func k => match P.funcs[k]? with
    | some fn => if fn.body.isNone then (if fn.name = "math.Float64frombits" ∧ fn.origin = "" then some true else if fn.name = "math.Float64bits" ∧ fn.origin = "" then some false else none) else none
    | none => none
  | _ => none
def mrowM (P : Program) (t : TypeId) (m : Method) : List Value :=
  match m.func with
  | some (k, true) => (match m.path.toList with
    | [] => (match P.underlying t with | some (.pointer _) => [.pointer (some ⟨t, k, none⟩), .bool true] | _ => [])
    | [s] => if s.deref = true then (match P.underlying s.struct with
      | some (.struct fields) => (match fields[s.index]? with
        | some f => (match P.underlying f.type, sizeO P f.type with
          | some (.pointer _), _ => []
          | some _, some (_ + 1) => [.pointer (some ⟨t, k, none⟩), .map (some f.offset)]
          | _, _ => [])
        | none => [])
      | _ => []) else []
    | _ => [])
  | _ => []
def mrow (P : Program) (name : String) (t : TypeId) : List Value :=
  match P.info? t with
  | some info => (match info.methods.toList.find? (·.name == name) with
    | some m => mrowM P t m
    | none => [])
  | none => []
def mrows (P : Program) (name : String) : List Value := (List.range P.types.size).flatMap (mrow P name)
def lowerOp (P : Program) (o : Oper) : LO :=
  match o.op with
  | .move x | .assign x => .mv x
  | .pick c a b => .pick c a b
  | .alloc e => match zeroOf P e with | some z => .alloc z | none => .bad
  | .box _ x => .box x
  | .build t ps =>
    match P.underlying t, zeroOf P t with
    | some (.struct fs), some z =>
      match ps.toList.mapM (fun (i, x) => (fs[i]?).bind fun f => (sizeO P f.type).map fun s => (f.offset, s, x)) with
      | some l => if fs.all (fun f => (sizeO P f.type).isSome) then .build z l else .bad
      | none => .bad
    | some (.array _ e), some z => match sizeO P e with | some s => .build z (ps.toList.map fun (i, x) => (i * s, s, x)) | none => .bad
    | _, _ => .bad
  | .buildSlice t len ps =>
    match P.underlying t with
    | some (.slice e) =>
      match sizeO P e, zeroOf P e with
      | some s, some z => if 0 < s ∧ z.length = s ∧ len * s ≤ 2 ^ 24 then .buildS ((List.replicate len z).flatten) len (ps.toList.map fun (i, x) => (i * s, s, x)) else .bad
      | _, _ => .bad
    | _ => .bad
  | .load t x => match aggB P t, sizeO P t with | some g, some n => .load g (bif g then n else 1) x | _, _ => .bad
  | .store t a x => match sizeO P t with | some n => .store n a x | none => .bad
  | .nilCheck x => .nilck x
  | .binOp op t x y _ => lowerBin P op t x y
  | .unOp op _ x => .un op x
  | .convert a b x => match P.underlying a, P.underlying b with | some (.int _), some (.int k) => .conv k x | _, _ => .bad
  | .field t x i =>
    match P.underlying t with
    | some (.struct fs) => match fs[i]? with
      | some f => match aggB P f.type, sizeO P f.type with | some g, some n => .field g f.offset (bif g then n else 1) x | _, _ => .bad
      | none => .bad
    | _ => .bad
  | .index t x i =>
    match P.underlying t with
    | some (.array len e) => match aggB P e, sizeO P e with | some g, some n => .idxA g n len x i | _, _ => .bad
    | _ => .bad
  | .fieldAddr t x i =>
    match P.underlying t with
    | some (.struct fs) => match fs[i]? with
      | some f => match sizeO P f.type with | some (n + 1) => .faddr f.offset x | _ => .bad
      | none => .bad
    | _ => .bad
  | .indexAddr t x i =>
    match P.underlying t with
    | some (.slice e) => match sizeO P e with | some s => .iaddrS s x i | none => .bad
    | some (.array len e) => match sizeO P e with | some s => .iaddrA s len x i | none => .bad
    | _ => .bad
  | .extract x i => .ext x i
  | .makeInterface t x => match P.underlying t with | some (.interface _) => .bad | some _ => .ifc t x | none => .bad
  | .makeFunc f a b => .fn f a.toList b.toList
  | .slice t x lo hi mx =>
    if mx.isSome ∧ hi.isNone then .bad else
    match P.underlying t with
    | some (.slice e) => (match sizeO P e with | some s => .slc s x lo hi mx | none => .bad)
    | some .string => if mx.isSome then .bad else .slcT x lo hi
    | some (.pointer a) => (match P.underlying a with
      | some (.array n e) => (match sizeO P e with | some s => .slcA s n x lo hi mx | none => .bad)
      | _ => .bad)
    | some (.array n e) => (match sizeO P e with | some s => .slcA s n x lo hi mx | none => .bad)
    | _ => .bad
  | .makeSlice t a b =>
    match P.underlying t with
    | some (.slice e) => (match sizeO P e, zeroOf P e with
      | some s, some z => if 0 < s ∧ z.length = s then .mks z (bytesO P e) a b else .bad
      | _, _ => .bad)
    | _ => .bad
  | .typeAssert x _ t true =>
    match P.underlying t with
    | some (.interface _) => .bad
    | some _ => (match zeroV P t with | some z => .tass t z x | none => .bad)
    | none => .bad
  | .panic x => .pan x
  | .call c =>
    match c.callee with
    | .value (.const _) => .bad
    | .value f => (match extOf P f with
      | none => .call f c.args.toList
      | some b => (match c.args.toList with | [x] => .fbits b x | _ => .bad))
    | .builtin b => lowerBI P c b
    | .invoke r m => .call (.const (.tuple (mrows P m).toArray)) (r :: c.args.toList)
  | .makeMap t none => match mapT P t with | some (kd, _) => .mkmap kd | none => .bad
  | .lookup t m i ok => match mapT P t with | some (kd, e) => (match zeroV P e with | some z => .mlook kd z ok m i | none => .bad) | none => .bad
  | .mapUpdate t m i x => match mapT P t with | some (kd, _) => .mupd kd m i x | none => .bad
  | _ => .bad

def guardOf (ops : List Oper) (g : Option (Nat × Bool)) : Option (Option (Tmp × Bool)) :=
  match g with
  | none => some none
  | some (j, b) => match (ops[j]?).bind (·.dst) with | some d => some (some (d, b)) | none => none
def lowerOps (P : Program) (all : List Oper) : List Oper → Option (List LOp)
  | [] => some []
  | o :: l =>
    match guardOf all o.guard, lowerOps P all l with
    | some g, some r => some (⟨o.dst, lowerOp P o, g⟩ :: r)
    | _, _ => none
def gt : List Value → Nat → Value
  | [], _ => undef
  | v :: _, 0 => v
  | _ :: l, n + 1 => gt l n
def st : List Value → Nat → Value → List Value
  | [], _, _ => []
  | _ :: l, 0, v => v :: l
  | x :: l, n + 1, v => x :: st l n v
def ev (t : List Value) : Operand → Value
  | .tmp i => gt t i
  | .const v => v
  | .global g => .pointer (some ⟨g, 0, none⟩)
  | .func f => .func (.func f) #[] #[]
def evs (t : List Value) : List Operand → List Value
  | [] => []
  | x :: l => ev t x :: evs t l

def arith (op : BinOp) (k : IntKind) (a b : Int) : Option Value :=
  match op with
  | .add => some (.int k (k.wrap (a + b)))
  | .sub => some (.int k (k.wrap (a - b)))
  | .mul => some (.int k (k.wrap (a * b)))
  | .quo => if b = 0 then none else some (.int k (k.wrap (a.tdiv b)))
  | .rem => if b = 0 then none else some (.int k (a.tmod b))
  | .and => some (.int k (k.wrap (BitVec.ofInt k.bits a &&& BitVec.ofInt k.bits b).toNat))
  | .or => some (.int k (k.wrap (BitVec.ofInt k.bits a ||| BitVec.ofInt k.bits b).toNat))
  | .xor => some (.int k (k.wrap (BitVec.ofInt k.bits a ^^^ BitVec.ofInt k.bits b).toNat))
  | .andNot => some (.int k (k.wrap (BitVec.ofInt k.bits a &&& ~~~ BitVec.ofInt k.bits b).toNat))
  | .shl => if b < 0 then none else some (.int k (k.wrap (a * 2 ^ min b.toNat k.bits)))
  | .shr => if b < 0 then none else some (.int k (a.fdiv (2 ^ min b.toNat k.bits)))
  | .eql => some (.bool (a == b))
  | .neq => some (.bool (a != b))
  | .lss => some (.bool (decide (a < b)))
  | .leq => some (.bool (decide (a ≤ b)))
  | .gtr => some (.bool (decide (a > b)))
  | .geq => some (.bool (decide (a ≥ b)))
def isSh : BinOp → Bool | .shl | .shr => true | _ => false
def binV (op : BinOp) : Value → Value → Option Value
  | .int k a, .int k' b => bif isSh op || k == k' then arith op k a b else none
  | .string a, .string b => match op with
    | .eql => some (.bool (a.toList == b.toList))
    | .neq => some (.bool (!(a.toList == b.toList)))
    | _ => none
  | _, _ => none
def eqbV (neg : Bool) : Value → Value → Option Value
  | .bool a, .bool b => some (.bool (bif neg then !(a == b) else a == b))
  | _, _ => none
def leafEq : Leaf → Value → Value → Option Bool
  | .int, .int k a, .int k' b => if k = k' then some (a == b) else none
  | .bool, .bool a, .bool b => some (a == b)
  | .str, .string a, .string b => some (a.toList == b.toList)
  | _, _, _ => none
def andO : Option Bool → Option Bool → Option Bool
  | some a, some b => some (a && b)
  | _, _ => none
def eqL : List Leaf → List Value → List Value → Option Bool
  | [], [], [] => some true
  | a :: ls, x :: xs, y :: ys => andO (leafEq a x y) (eqL ls xs ys)
  | _, _, _ => none
def eqAV (neg : Bool) (ls : List Leaf) : Value → Value → Option Value
  | .agg xs, .agg ys => match eqL ls xs.toList ys.toList with | some r => some (.bool (bif neg then !r else r)) | none => none
  | _, _ => none
def eqpV (neg : Bool) : Value → Value → Option Value
  | .pointer a, .pointer none => some (.bool (bif neg then !a.isNone else a.isNone))
  | .pointer none, .pointer b => some (.bool (bif neg then !b.isNone else b.isNone))
  | _, _ => none
def eqsV (neg : Bool) : Value → Value → Option Value
  | .slice a _ _, .slice none _ _ => some (.bool (bif neg then !a.isNone else a.isNone))
  | _, _ => none
def eqfV (neg : Bool) : Value → Value → Option Value
  | .func _ _ _, .nilFunc => some (.bool neg)
  | .nilFunc, .nilFunc => some (.bool (!neg))
  | .nilFunc, .func _ _ _ => some (.bool neg)
  | _, _ => none
def fEq (a b : Nat) : Bool := FloatKind.f64.format.order a b == some .eq
def feqV (neg : Bool) : Value → Value → Option Value
  | .float .f64 a, .float .f64 b => some (.bool (bif neg then !(fEq a b) else fEq a b))
  | _, _ => none
def capV : Value → Option Value
  | .slice _ _ c => some (.int .i64 c)
  | _ => none
def fbV : Bool → Value → Option Value
  | true, .int .u64 n => some (.float .f64 n.toNat)
  | false, .float .f64 b => some (.int .u64 b)
  | _, _ => none
def recvT (k : Nat) : Value → Value → Option (Nat × Value)
  | .bool true, v => some (k, v)
  | .map (some off), .pointer (some ⟨b, o, none⟩) => some (k, .pointer (some ⟨b, o + off, none⟩))
  | _, _ => none
def invT (t : TypeId) : List Value → Value → Option (Nat × Value)
  | .pointer (some ⟨t', k, none⟩) :: d :: l, v => bif t' == t then recvT k d v else invT t l v
  | _, _ => none
def unV : UnOp → Value → Option Value
  | .not, .bool b => some (.bool (!b))
  | .neg, .int k n => some (.int k (k.wrap (0 - n)))
  | .xor, .int .u64 n => some (.int .u64 (IntKind.u64.wrap (BitVec.ofInt 64 18446744073709551615 ^^^ BitVec.ofInt 64 n).toNat))
  | _, _ => none
def convV (k : IntKind) : Value → Option Value
  | .int _ n => some (.int k (k.wrap n))
  | _ => none
def one : List Value → Option Value | [v] => some v | _ => none
def mkV (g : Bool) (r : Option (List Value)) : Option Value :=
  match r with | some l => (bif g then some (.agg l.toArray) else one l) | none => none
def fieldV (g : Bool) (off n : Nat) : Value → Option Value
  | .agg cs => mkV g (tk cs.toList off n)
  | _ => none
def idxAV (g : Bool) (es len : Nat) : Value → Value → Option Value
  | .agg cs, .int _ i => if 0 ≤ i ∧ i.toNat < len then mkV g (tk cs.toList (i.toNat * es) (bif g then es else 1)) else none
  | _, _ => none
def faddrV (off : Nat) : Value → Option Value
  | .pointer (some ⟨b, o, none⟩) => some (.pointer (some ⟨b, o + off, none⟩))
  | _ => none
def iaddrSV (es : Nat) : Value → Value → Option Value
  | .slice (some ⟨b, o, none⟩) n _, .int _ i => if 0 ≤ i ∧ i.toNat < n then some (.pointer (some ⟨b, o + i.toNat * es, none⟩)) else none
  | _, _ => none
def iaddrAV (es len : Nat) : Value → Value → Option Value
  | .pointer (some ⟨b, o, none⟩), .int _ i => if 0 ≤ i ∧ i.toNat < len then some (.pointer (some ⟨b, o + i.toNat * es, none⟩)) else none
  | _, _ => none
def extV (i : Nat) : Value → Option Value
  | .tuple vs => vs[i]?
  | _ => none
def lenV : Bool → Value → Option Value
  | false, .slice _ n _ => some (.int .i64 n)
  | true, .string s => some (.int .i64 s.size)
  | _, _ => none
def mm2 (mx : Bool) : Value → Value → Option Value
  | .int k x, .int _ y => some (.int k (bif mx then (if y > x then y else x) else (if y < x then y else x)))
  | _, _ => none
def mmV (mx : Bool) : List Value → Option Value
  | [x, y] => mm2 mx x y
  | _ => none
def pickV : Value → Value → Value → Option Value
  | .bool true, a, _ => some a
  | .bool false, _, b => some b
  | _, _, _ => none
def wr : List Value → Nat → List Value → Option (List Value)
  | l, 0, [] => some l
  | [], _, _ => none
  | _ :: l, 0, v :: vs => tkC v (wr l 0 vs)
  | x :: l, o + 1, vs => tkC x (wr l o vs)
def fillV (t : List Value) : List (Nat × Nat × Operand) → Option (List Value) → Option (List Value)
  | [], r => r
  | _, none => none
  | (o, n, x) :: ps, some z => fillV t ps (if (ev t x).cells.size = n then wr z o (ev t x).cells.toList else none)

abbrev Res := Option (Value × HL × St)
def pv (v : Option Value) (H : HL) (N : St) : Res := match v with | some v => some (v, H, N) | none => none
def newB (H : HL) (N : St) (cs : List Value) (mk : Nat → Value) : Res := some (mk (N 0), (N 0, .cells cs cs.length) :: H, sh N)
def ptrTo (r : Nat) : Value := .pointer (some ⟨r, 0, none⟩)
def loadV (g : Bool) (n : Nat) (H : HL) (B : OH) : Value → Option Value
  | .pointer (some ⟨b, o, none⟩) => mkV g (rdH H B b o n)
  | _ => none
def wrC (x n : Nat) (H : HL) : Option (List Value) → Option HL
  | some cs => some ((x, .cells cs n) :: H)
  | none => none
def wrK (x : Nat) (H : HL) (o : Nat) (vs : List Value) : KB → Option HL
  | .cells cs n => wrC x n H (wr cs o vs)
  | _ => none
def consH (x : Nat × KB) : Option HL → Option HL
  | some H => some (x :: H)
  | none => none
def wrH : HL → Nat → Nat → List Value → Option HL
  | [], _, _, _ => none
  | (x, k) :: H, r, o, vs => bif r == x then wrK x H o vs k else consH (x, k) (wrH H r o vs)
def all1 : List Value → Bool
  | [] => true
  | .agg _ :: _ => false
  | .tuple _ :: _ => false
  | _ :: l => all1 l
def wrB (H : HL) (b o : Nat) (vs : List Value) : Option KB → Option HL
  | some _ => none
  | none => wrH H b o vs
def unitR (N : St) : Option HL → Res
  | some H => some (undef, H, N)
  | none => none
def storeV (n : Nat) (B : OH) (H : HL) (N : St) : Value → Value → Res
  | .pointer (some ⟨b, o, none⟩), v => if v.cells.size = n ∧ all1 v.cells.toList = true then unitR N (wrB H b o v.cells.toList (B b)) else none
  | _, _ => none
def nilckV : Value → Option Value
  | .pointer (some a) => some (.pointer (some a))
  | .slice a n c => some (.slice a n c)
  | .func (.func f) a b => some (.func (.func f) a b)
  | _ => none
def buildSV (H : HL) (N : St) (len : Nat) : Option (List Value) → Res
  | some cs => some (.slice (some ⟨N 0, 0, none⟩) len len, (N 0, .cells cs cs.length) :: H, sh N)
  | none => none
inductive E where
  | ret (v : Value)
  | pan (v : Value)
abbrev ResE := Option (E × HL × St)
def rv : Res → ResE
  | some (v, H, N) => some (.ret v, H, N)
  | none => none
def onlyR : ResE → Res
  | some (.ret v, H, N) => some (v, H, N)
  | _ => none
abbrev Cs := List Value → HL → St → ResE
structure Env where
  f : Nat → Cs
  y : Nat → Cs := fun _ _ _ _ => none
  it : Nat → (Nat → Cs) → Cs := fun _ _ _ _ _ => none
instance : Coe (Nat → Cs) Env := ⟨fun g => { f := g }⟩
def invC (G : Env) (H : HL) (N : St) (args : List Value) : Option (Nat × Value) → ResE
  | some (k, r) => G.f k (r :: args) H N
  | none => none
def callV (G : Env) (H : HL) (N : St) : Value → List Value → ResE
  | .func (.func k) first cap, args => G.f k (first.toList ++ args ++ cap.toList) H N
  | .func (.yield l) first _, args => G.y l (first.toList ++ args) H N
  | _, _ => none
def invV (G : Env) (H : HL) (N : St) (tbl : List Value) : Value → List Value → ResE
  | .iface t v, args => invC G H N args (invT t tbl v)
  | _, _ => none
def callO (G : Env) (t : List Value) (H : HL) (N : St) : Operand → List Operand → ResE
  | .const (.tuple tbl), r :: args => invV G H N tbl.toList (ev t r) (evs t args)
  | .const _, _ => none
  | f, args => callV G H N (ev t f) (evs t args)

def bnd : Option Value → Nat → Nat → Option Nat
  | none, d, _ => some d
  | some (.int _ i), _, y => if 0 ≤ i ∧ i ≤ (y : Int) then some i.toNat else none
  | some _, _, _ => none
def slA : Option Addr → Nat → Option (Option Addr)
  | none, _ => some none
  | some a, 0 => some (some a)
  | some ⟨b, o, none⟩, k => some (some ⟨b, o + k, none⟩)
  | _, _ => none
def slcB (a : Option Addr) (es n c : Nat) (lo hi mx : Option Value) : Option Value :=
  (bnd mx c c).bind fun m => (bnd hi n m).bind fun h => (bnd lo 0 h).bind fun l => (slA a (if m = l then 0 else l * es)).bind fun a' => some (.slice a' (h - l) (m - l))
def slcV (es : Nat) (lo hi mx : Option Value) : Value → Option Value
  | .slice a n c => slcB a es n c lo hi mx
  | _ => none
def slcAV (es len : Nat) (lo hi mx : Option Value) : Value → Option Value
  | .pointer (some a) => slcB (some a) es len len lo hi mx
  | _ => none
def slcTV (lo hi : Option Value) : Value → Option Value
  | .string s => (bnd hi s.size s.size).bind fun h => (bnd lo 0 h).bind fun l => some (.string (s.extract l h))
  | _ => none
def tassV (t : TypeId) (z : Value) : Value → Option Value
  | .nilIface => some (.tuple #[z, .bool false])
  | .iface t' v => if t' = t then some (.tuple #[v, .bool true]) else some (.tuple #[z, .bool false])
  | _ => none
def isnV (neg : Bool) : Value → Option Value
  | .nilIface => some (.bool (!neg))
  | .iface _ _ => some (.bool neg)
  | _ => none
def mksV (z : List Value) (bytes : Nat) (H : HL) (N : St) : Value → Value → Res
  | .int _ l, .int _ c => if 0 ≤ l ∧ l ≤ c ∧ c ≤ 140737488355328 ∧ (bytes : Int) * c ≤ 140737488355328 then some (.slice (some ⟨N 0, 0, none⟩) l.toNat c.toNat, (N 0, .cells ((List.replicate c.toNat z).flatten) (c.toNat * z.length)) :: H, sh N) else none
  | _, _ => none
def newsV (sz : Nat) (H : HL) (B : OH) : Value → Option (List Value)
  | .slice _ 0 _ => some []
  | .slice (some ⟨b, o, none⟩) m _ => rdH H B b o (m * sz)
  | _ => none
def lenS : Value → Nat
  | .slice _ m _ => m
  | _ => 0
def appNew (b sz need : Nat) (H : HL) (N : St) (cs : List Value) : Res := some (.slice (some ⟨b, 0, none⟩) need (need + N.c 0), (b, .cells cs ((need + N.c 0) * sz)) :: H, sh N)
def appOld (sz m sLen sCap b : Nat) (B : OH) (H : HL) (N : St) (news : List Value) : Option KB → Res
  | some (.cells cs k) => (if (B b).isNone = true ∧ k = sCap * sz ∧ sLen ≤ sCap ∧ all1 news = true then tk cs 0 (sLen * sz) else none).bind fun olds => appNew (bif N.g 0 && Nat.ble (sLen + m) sCap then b else N 0) sz (sLen + m) H N (olds ++ news)
  | _ => none
def appV (sz bytes : Nat) (B : OH) (H : HL) (N : St) (s : Value) (m : Nat) (news : List Value) : Res :=
  match s with
  | .slice none 0 0 => if m = 0 then some (.slice none 0 0, H, N) else if m * bytes ≤ 140737488355328 ∧ m ≤ 4611686018427387904 then appNew (N 0) sz m H N news else none
  | .slice (some ⟨b, 0, none⟩) sLen sCap =>
    if m = 0 then (if sLen ≤ sCap then some (.slice (some ⟨b, 0, none⟩) sLen sCap, H, N) else none)
    else if (sLen + m) * bytes ≤ 140737488355328 ∧ sLen + m ≤ 4611686018427387904 then appOld sz m sLen sCap b B H N news (lk H b) else none
  | _ => none
def appCo (sz need : Nat) (H : HL) (N : St) (news : List Value) : Option (List Value) → Res
  | some olds => appNew (N 0) sz need H N (olds ++ news)
  | none => none
def appC (sz bytes : Nat) (B : OH) (H : HL) (N : St) (s : Value) (m : Nat) (news : List Value) : Res :=
  match s with
  | .slice (some ⟨b, o, none⟩) sLen sCap => if m ≠ 0 ∧ sLen ≤ sCap ∧ sCap < sLen + m ∧ (sLen + m) * bytes ≤ 140737488355328 ∧ sLen + m ≤ 4611686018427387904 then appCo sz (sLen + m) H N news (newsV sz H B (.slice (some ⟨b, o, none⟩) sLen sCap)) else none
  | _ => none
def orC (sz bytes : Nat) (B : OH) (H : HL) (N : St) (s : Value) (m : Nat) (news : List Value) : Res → Res
  | some r => some r
  | none => appC sz bytes B H N s m news
def appR (sz bytes : Nat) (B : OH) (H : HL) (N : St) (s x : Value) : Option (List Value) → Res
  | some news => orC sz bytes B H N s (lenS x) news (appV sz bytes B H N s (lenS x) news)
  | none => none
def appZR (z : List Value) (bytes : Nat) (B : OH) (H : HL) (N : St) (s : Value) : Value → Res
  | .int _ l => if 0 ≤ l then appV z.length bytes B H N s l.toNat (List.replicate l.toNat z).flatten else none
  | _ => none
def intR (n : Nat) (N : St) : Option HL → Res
  | some H => some (.int .i64 n, H, N)
  | none => none
def cpyW (n : Nat) (B : OH) (H : HL) (N : St) : Option Addr → Option (List Value) → Res
  | some ⟨b, o, none⟩, some cs => if all1 cs = true then intR n N (wrB H b o cs (B b)) else none
  | _, _ => none
def cpyV (es : Nat) (B : OH) (H : HL) (N : St) : Value → Value → Res
  | .slice a dl _, .slice a2 m c => if min m dl = 0 then some (.int .i64 0, H, N) else cpyW (min m dl) B H N a (newsV es H B (.slice a2 (min m dl) c))
  | _, _ => none
def mapF (kd : IntKind) : Option KB → Option KB → Option (Int → Option Value)
  | none, some (.map k f) => if k = kd then some f else none
  | _, _ => none
def lookR (ok : Bool) (z : Value) : Option Value → Value
  | some v => bif ok then .tuple #[v, .bool true] else v
  | none => bif ok then .tuple #[z, .bool false] else z
def lookF (ok : Bool) (z : Value) (n : Int) : Option (Int → Option Value) → Option Value
  | some f => some (lookR ok z (f n))
  | none => none
def lookV (kd : IntKind) (z : Value) (ok : Bool) (H : HL) (B : OH) : Value → Value → Option Value
  | .map (some r), .int k n => if k = kd then lookF ok z n (mapF kd (B r) (lk H r)) else none
  | _, _ => none
def updF (f : Int → Option Value) (n : Int) (v : Option Value) : Int → Option Value := fun m => if m = n then v else f m
def setM (kd : IntKind) (H : HL) (N : St) (r : Nat) (n : Int) (v : Option Value) (u : Value) : Option (Int → Option Value) → Res
  | some f => some (u, (r, .map kd (updF f n v)) :: H, N)
  | none => none
def mupdV (kd : IntKind) (B : OH) (H : HL) (N : St) : Value → Value → Value → Res
  | .map (some r), .int k n, v => if k = kd then setM kd H N r n (some v) undef (mapF kd (B r) (lk H r)) else none
  | _, _, _ => none
def mdelV (kd : IntKind) (B : OH) (H : HL) (N : St) : Value → Value → Res
  | .map (some r), .int k n => if k = kd then setM kd H N r n none (.tuple #[]) (mapF kd (B r) (lk H r)) else none
  | _, _ => none
def mkM (kd : IntKind) (H : HL) (N : St) : Res := some (.map (some (N 0)), (N 0, .map kd fun _ => none) :: H, sh N)
def optE (t : List Value) : Option Operand → Option Value
  | none => none
  | some x => some (ev t x)
structure S where
  t : List Value
  H : HL
  N : St

def stepOp (B : OH) (G : Env) (s : S) : LO → Res
  | .mv x => pv (some (ev s.t x)) s.H s.N
  | .pick c a b => pv (pickV (ev s.t c) (ev s.t a) (ev s.t b)) s.H s.N
  | .alloc z => newB s.H s.N z ptrTo
  | .box x => newB s.H s.N (ev s.t x).cells.toList ptrTo
  | .build z ps => pv (mkV true (fillV s.t ps (some z))) s.H s.N
  | .buildS z len ps => buildSV s.H s.N len (fillV s.t ps (some z))
  | .load g n x => pv (loadV g n s.H B (ev s.t x)) s.H s.N
  | .store n a x => storeV n B s.H s.N (ev s.t a) (ev s.t x)
  | .nilck x => pv (nilckV (ev s.t x)) s.H s.N
  | .bin op x y => pv (binV op (ev s.t x) (ev s.t y)) s.H s.N
  | .eqb neg x y => pv (eqbV neg (ev s.t x) (ev s.t y)) s.H s.N
  | .eqA neg ls x y => pv (eqAV neg ls (ev s.t x) (ev s.t y)) s.H s.N
  | .eqp neg x y => pv (eqpV neg (ev s.t x) (ev s.t y)) s.H s.N
  | .eqs neg x y => pv (eqsV neg (ev s.t x) (ev s.t y)) s.H s.N
  | .eqf neg x y => pv (eqfV neg (ev s.t x) (ev s.t y)) s.H s.N
  | .feq neg x y => pv (feqV neg (ev s.t x) (ev s.t y)) s.H s.N
  | .cap x => pv (capV (ev s.t x)) s.H s.N
  | .fbits b x => pv (fbV b (ev s.t x)) s.H s.N
  | .un op x => pv (unV op (ev s.t x)) s.H s.N
  | .conv k x => pv (convV k (ev s.t x)) s.H s.N
  | .field g off n x => pv (fieldV g off n (ev s.t x)) s.H s.N
  | .idxA g es len x i => pv (idxAV g es len (ev s.t x) (ev s.t i)) s.H s.N
  | .faddr off x => pv (faddrV off (ev s.t x)) s.H s.N
  | .iaddrS es x i => pv (iaddrSV es (ev s.t x) (ev s.t i)) s.H s.N
  | .iaddrA es len x i => pv (iaddrAV es len (ev s.t x) (ev s.t i)) s.H s.N
  | .ext x i => pv (extV i (ev s.t x)) s.H s.N
  | .len str x => pv (lenV str (ev s.t x)) s.H s.N
  | .mm mx xs => pv (mmV mx (evs s.t xs)) s.H s.N
  | .call f args => onlyR (callO G s.t s.H s.N f args)
  | .ifc t x => pv (some (.iface t (ev s.t x))) s.H s.N
  | .fn f a b => pv (some (.func f (evs s.t a).toArray (evs s.t b).toArray)) s.H s.N
  | .slc es x lo hi mx => pv (slcV es (optE s.t lo) (optE s.t hi) (optE s.t mx) (ev s.t x)) s.H s.N
  | .slcA es n x lo hi mx => pv (slcAV es n (optE s.t lo) (optE s.t hi) (optE s.t mx) (ev s.t x)) s.H s.N
  | .slcT x lo hi => pv (slcTV (optE s.t lo) (optE s.t hi) (ev s.t x)) s.H s.N
  | .tass t z x => pv (tassV t z (ev s.t x)) s.H s.N
  | .isn neg x => pv (isnV neg (ev s.t x)) s.H s.N
  | .mks z bytes l c => mksV z bytes s.H s.N (ev s.t l) (ev s.t c)
  | .app z bytes a x => appR z.length bytes B s.H s.N (ev s.t a) (ev s.t x) (newsV z.length s.H B (ev s.t x))
  | .appZ z bytes a x => appZR z bytes B s.H s.N (ev s.t a) (ev s.t x)
  | .cpy es d x => cpyV es B s.H s.N (ev s.t d) (ev s.t x)
  | .mkmap kd => mkM kd s.H s.N
  | .mlook kd z ok m i => pv (lookV kd z ok s.H B (ev s.t m) (ev s.t i)) s.H s.N
  | .mupd kd m i x => mupdV kd B s.H s.N (ev s.t m) (ev s.t i) (ev s.t x)
  | .mdel kd m i => mdelV kd B s.H s.N (ev s.t m) (ev s.t i)
  | .pan _ => none
  | .bad => none

def isB : Value → Bool → Bool
  | .bool c, b => c == b
  | _, _ => false
def wantG (t : List Value) : Option (Tmp × Bool) → Bool
  | none => true
  | some (j, b) => isB (gt t j) b
def putT (t : List Value) : Option Tmp → Value → List Value
  | some d, v => st t d v
  | none, _ => t
def putS (t : List Value) (d : Option Tmp) : Res → Option S
  | some (v, H, N) => some ⟨putT t d v, H, N⟩
  | none => none
inductive X where
  | normal | ret
  | exit (id : Nat)
  | pan (v : Value)
abbrev Out := Option (X × S)
def panE (H : HL) (N : St) : Value → ResE
  | .iface t v => some (.pan (.iface t v), H, N)
  | _ => none
def stepE (B : OH) (G : Env) (s : S) : LO → ResE
  | .call f args => callO G s.t s.H s.N f args
  | .pan x => panE s.H s.N (ev s.t x)
  | op => rv (stepOp B G s op)
def putE (t : List Value) (d : Option Tmp) : ResE → Out
  | some (.ret v, H, N) => some (.normal, ⟨putT t d v, H, N⟩)
  | some (.pan v, H, N) => some (.pan v, ⟨t, H, N⟩)
  | none => none
def stepX (B : OH) (G : Env) : LOp → S → Out
  | ⟨d, op, g⟩, s => putE s.t d (bif wantG s.t g then stepE B G s op else some (.ret undef, s.H, s.N))
def exOps (B : OH) (G : Env) : List LOp → Out → Out
  | [], o => o
  | o :: l, some (.normal, s) => exOps B G l (stepX B G o s)
  | _ :: _, some (.ret, s) => some (.ret, s)
  | _ :: _, some (.exit i, s) => some (.exit i, s)
  | _ :: _, some (.pan v, s) => some (.pan v, s)
  | _ :: _, none => none

def oT : Operand → List Tmp
  | .tmp i => [i]
  | _ => []
def oTs : List Operand → List Tmp
  | [] => []
  | x :: l => oT x ++ oTs l
def pTs : List (Nat × Nat × Operand) → List Tmp
  | [] => []
  | (_, _, x) :: l => oT x ++ pTs l
def gT : Option (Tmp × Bool) → List Tmp
  | none => []
  | some (j, _) => [j]
def qT : Option Operand → List Tmp
  | none => []
  | some x => oT x
def LO.tmps : LO → List Tmp
  | .mv x | .box x | .load _ _ x | .nilck x | .un _ x | .conv _ x | .field _ _ _ x | .faddr _ x | .ext x _ | .len _ x | .cap x | .fbits _ x | .ifc _ x | .tass _ _ x | .isn _ x | .pan x => oT x
  | .pick c a b => oT c ++ (oT a ++ oT b)
  | .build _ ps | .buildS _ _ ps => pTs ps
  | .store _ a x | .bin _ a x | .eqb _ a x | .eqA _ _ a x | .eqp _ a x | .eqs _ a x | .eqf _ a x | .feq _ a x | .appZ _ _ a x | .cpy _ a x | .idxA _ _ _ a x | .iaddrS _ a x | .iaddrA _ _ a x | .mks _ _ a x | .app _ _ a x => oT a ++ oT x
  | .slc _ x lo hi mx | .slcA _ _ x lo hi mx => oT x ++ (qT lo ++ (qT hi ++ qT mx))
  | .slcT x lo hi => oT x ++ (qT lo ++ qT hi)
  | .mm _ xs => oTs xs
  | .mlook _ _ _ m i | .mdel _ m i => oT m ++ oT i
  | .mupd _ m i x => oT m ++ (oT i ++ oT x)
  | .call f args => oT f ++ oTs args
  | .fn _ a b => oTs a ++ oTs b
  | .alloc _ | .mkmap _ | .bad => []
def LOp.tmps (o : LOp) : List Tmp := o.op.tmps ++ gT o.g
def isLight : LO → Bool
  | .mv _ | .pick .. | .build .. | .load .. | .nilck _ | .bin .. | .eqb .. | .eqA .. | .eqp .. | .eqs .. | .eqf .. | .feq .. | .cap .. | .fbits .. | .un .. | .conv .. | .field .. | .idxA .. | .faddr .. | .iaddrS .. | .iaddrA .. | .ext .. | .len .. | .mm .. | .ifc .. | .fn .. | .slc .. | .slcA .. | .slcT .. | .tass .. | .isn .. => true
  | _ => false
def isRead : LO → Bool
  | .load .. => true
  | _ => false
def watchesOf (ll : List LOp) (hv : Nat → Bool) (A : Nat → Nat → Bool) (h : Nat) : List Nat → List LOp
  | [] => []
  | r :: l => match ll[r]? with
    | some o => if hv r = false ∧ isRead o.op = true ∧ A h r = false then o :: watchesOf ll hv A h l else watchesOf ll hv A h l
    | none => watchesOf ll hv A h l
def mkDs (ll : List LOp) (hv : Nat → Bool) (A : Nat → Nat → Bool) : List Nat → List Nat → List DOp
  | _, [] => []
  | done, i :: rest => ⟨(match ll[i]? with | some o => o | none => ⟨none, .bad, none⟩), if hv i = true then watchesOf ll hv A i done else []⟩ :: mkDs ll hv A (done ++ [i]) rest
def predsOf (ops : List Oper) (i : Nat) : List Nat := match ops[i]? with | some o => (o.after.toList.filter (Region.binds .any)).map (·.on) | none => []
def masksOf (ops : List Oper) : Nat → List Nat → List Nat
  | 0, acc => acc
  | n + 1, acc => masksOf ops n (acc ++ [(predsOf ops acc.length).foldl (fun s e => s ||| 2 ^ e ||| acc.getD e 0) 0])
def ancB (n : Nat) (ms : List Nat) (i j : Nat) : Bool := decide (i < n) && decide (j < n) && (ms.getD i 0).testBit j
def heavyB (ops : List Oper) (ll : List LOp) (i : Nat) : Bool :=
  match ll[i]? with
  | some o => !(isLight o.op) || (match o.dst with
    | some d => (List.range ll.length).any fun k => match ll[k]? with | some q => q.tmps.contains d && !((predsOf ops k).contains i) | none => false
    | none => true)
  | none => true
def pickOf (ops : List Oper) (hs : List Bool) (done : List Nat) (heavy : Bool) (n : Nat) : Option Nat :=
  (List.range n).find? fun i => !done.contains i && (hs.getD i true == heavy) && (predsOf ops i).all done.contains
def orderOf (ops : List Oper) (hs : List Bool) : Nat → List Nat → List Nat
  | 0, done => done
  | n + 1, done => match pickOf ops hs done false ops.length with
    | some i => orderOf ops hs n (done ++ [i])
    | none => match pickOf ops hs done true ops.length with
      | some i => orderOf ops hs n (done ++ [i])
      | none => done
def topoB (ops : List Oper) : List Nat → List Nat → Bool
  | _, [] => true
  | done, i :: r => !done.contains i && (predsOf ops i).all done.contains && topoB ops (done ++ [i]) r
def afterB (A : Nat → Nat → Bool) (hv : Nat → Bool) : List Nat → Bool
  | [] => true
  | h :: v => (!hv h || v.all (A · h)) && afterB A hv v
def fitsB (ops : List Oper) (ll : List LOp) (A : Nat → Nat → Bool) (hv : Nat → Bool) (c : List Nat) : Bool :=
  let R := List.range ops.length
  R.all c.contains && c.all (decide <| · < ops.length) && topoB ops [] c && afterB A hv c &&
  R.all (fun i => R.all fun j => !A i j || (predsOf ops i).any fun e => e == j || (decide (e < i) && A e j)) &&
  R.all (fun i => match ll[i]? with
    | some o => (hv i || (isLight o.op && o.dst.isSome)) && R.all (fun j => match ll[j]? with
      | some o' => match o'.dst with
        | some x => (!o.tmps.contains x || (if hv i then j == i || (predsOf ops i).contains j || hv j || A j i else j != i && ((predsOf ops i).contains j || (hv j && (A i j || A j i))))) &&
          (o.dst != some x || i == j)
        | none => true
      | none => true)
    | none => true)
def lowerDraw (P : Program) (ops : List Oper) : Option (List DOp) :=
  match lowerOps P ops ops with
  | none => none
  | some ll =>
    let ms := masksOf ops ops.length []
    let hs := (List.range ops.length).map (heavyB ops ll)
    let c := orderOf ops hs ops.length []
    if fitsB ops ll (ancB ops.length ms) (fun i => hs.getD i true) c = true then some (mkDs ll (fun i => hs.getD i true) (ancB ops.length ms) [] c) else none

def firstOf (ops : List Oper) (is : List Nat) (i : Nat) : List Oper :=
  ops.mapIdx fun j o => if is.contains j && j != i then { o with after := o.after.push ⟨i, .data⟩ } else o
def readyOf (ops : List Oper) (hs : List Bool) (done : List Nat) (heavy : Bool) : List Nat :=
  (List.range ops.length).filter fun i => !done.contains i && (hs.getD i true == heavy) && (predsOf ops i).all done.contains
def walkOf (ops : List Oper) (hs : List Bool) : Nat → List Nat → List Nat × List Nat
  | 0, done => (done, [])
  | n + 1, done => match readyOf ops hs done false with
    | i :: _ => walkOf ops hs n (done ++ [i])
    | [] => match readyOf ops hs done true with
      | [] => (done, [])
      | [i] => walkOf ops hs n (done ++ [i])
      | is => (done, is)
def afterP (n : Nat) (A : Nat → Nat → Bool) (hv : Nat → Bool) : List Nat → List Nat → Bool
  | _, [] => true
  | done, h :: v => (!hv h || (List.range n).all fun j => done.contains j || j == h || A j h) && afterP n A hv (done ++ [h]) v
def fitsP (ops : List Oper) (ll : List LOp) (A : Nat → Nat → Bool) (hv : Nat → Bool) (c : List Nat) : Bool :=
  let R := List.range ops.length
  c.all (decide <| · < ops.length) && topoB ops [] c && afterP ops.length A hv [] c &&
  R.all (fun i => R.all fun j => !A i j || (predsOf ops i).any fun e => e == j || (decide (e < i) && A e j)) &&
  R.all (fun i => match ll[i]? with
    | some o => (hv i || (isLight o.op && o.dst.isSome)) && R.all (fun j => match ll[j]? with
      | some o' => match o'.dst with
        | some x => (!o.tmps.contains x || (if hv i then j == i || (predsOf ops i).contains j || hv j || A j i else j != i && ((predsOf ops i).contains j || (hv j && (A i j || A j i))))) &&
          (o.dst != some x || i == j)
        | none => true
      | none => true)
    | none => true)
def altsLC : List LC → LC
  | [] => .bad
  | [a] => a
  | a :: l => .fork a (altsLC l)
def allSome : List (Option LC) → Option (List LC)
  | [] => some []
  | some a :: l => match allSome l with | some r => some (a :: r) | none => none
  | none :: _ => none
def lowerT (ll : List LOp) (hs : List Bool) : Nat → List Oper → List Nat → Option LC
  | 0, _, _ => none
  | f + 1, ops, done =>
    let A := ancB ops.length (masksOf ops ops.length [])
    let hv := fun i => hs.getD i true
    let r := walkOf ops hs ops.length done
    let rest := r.1.drop done.length
    if r.1 = done ++ rest ∧ fitsP ops ll A hv r.1 = true then
      match r.2 with
      | [] => if (List.range ops.length).all r.1.contains = true then some (.draw (mkDs ll hv A done rest)) else none
      | is =>
        if is.all (fun i => !r.1.contains i && decide (i < ops.length)) && (List.range ops.length).all (fun j => r.1.contains j || is.contains j || (predsOf ops j).any fun p => !r.1.contains p) = true then
          (allSome (is.map fun i => lowerT ll hs f (firstOf ops is i) r.1)).map fun as => .seq (.draw (mkDs ll hv A done rest)) (altsLC as)
        else none
    else none
def lowerTree (P : Program) (ops : List Oper) : Option LC :=
  match lowerOps P ops ops with
  | none => none
  | some ll =>
    let hs := (List.range ops.length).map (heavyB ops ll)
    match lowerT ll hs 6 ops [] with
    | some (.seq a (.fork b c)) => some (.seq a (.fork b c))
    | _ => none

def flatB : LC → Bool
  | .range .. => false
  | .seq a b => flatB a && flatB b
  | .cond _ a b => flatB a && flatB b
  | .block _ b => flatB b
  | .loop b => flatB b
  | .fork a b => flatB a && flatB b
  | _ => true
def lower (P : Program) : Code → LC
  | .skip => .skip
  | .region _ ops false => match lowerOps P ops.toList ops.toList with | some l => .ops l | none => .bad
  | .region _ ops true => match lowerDraw P ops.toList with | some l => .draw l | none => (match lowerTree P ops.toList with | some c => c | none => .bad)
  | .seq a b => .seq (lower P a) (lower P b)
  | .cond c a b => .cond c (lower P a) (lower P b)
  | .block id b => .block id (lower P b)
  | .loop b => .loop (lower P b)
  | .exit id => .exit id
  | .ret => .ret
  | .rangeFunc g ps a b => if flatB (lower P a) && flatB (lower P b) = true then .range g ps.toList (lower P a) (lower P b) else .bad
  | _ => .bad

def lightV (B : OH) (t : List Value) (H : HL) : LO → Option Value
  | .mv x => some (ev t x)
  | .pick c a b => pickV (ev t c) (ev t a) (ev t b)
  | .build z ps => mkV true (fillV t ps (some z))
  | .load g n x => loadV g n H B (ev t x)
  | .nilck x => nilckV (ev t x)
  | .bin op x y => binV op (ev t x) (ev t y)
  | .eqb neg x y => eqbV neg (ev t x) (ev t y)
  | .eqA neg ls x y => eqAV neg ls (ev t x) (ev t y)
  | .eqp neg x y => eqpV neg (ev t x) (ev t y)
  | .eqs neg x y => eqsV neg (ev t x) (ev t y)
  | .eqf neg x y => eqfV neg (ev t x) (ev t y)
  | .feq neg x y => feqV neg (ev t x) (ev t y)
  | .cap x => capV (ev t x)
  | .fbits b x => fbV b (ev t x)
  | .un op x => unV op (ev t x)
  | .conv k x => convV k (ev t x)
  | .field g off n x => fieldV g off n (ev t x)
  | .idxA g es len x i => idxAV g es len (ev t x) (ev t i)
  | .faddr off x => faddrV off (ev t x)
  | .iaddrS es x i => iaddrSV es (ev t x) (ev t i)
  | .iaddrA es len x i => iaddrAV es len (ev t x) (ev t i)
  | .ext x i => extV i (ev t x)
  | .len str x => lenV str (ev t x)
  | .mm mx xs => mmV mx (evs t xs)
  | .ifc ty x => some (.iface ty (ev t x))
  | .fn f a b => some (.func f (evs t a).toArray (evs t b).toArray)
  | .slc es x lo hi mx => slcV es (optE t lo) (optE t hi) (optE t mx) (ev t x)
  | .slcA es n x lo hi mx => slcAV es n (optE t lo) (optE t hi) (optE t mx) (ev t x)
  | .slcT x lo hi => slcTV (optE t lo) (optE t hi) (ev t x)
  | .tass ty z x => tassV ty z (ev t x)
  | .isn neg x => isnV neg (ev t x)
  | _ => none
open Classical in
noncomputable def eqS (a b : Option Value) (s : S) : Out := if a = b then some (.normal, s) else none
noncomputable def watchS (B : OH) : List LOp → Out → Out
  | [], o => o
  | _ :: _, none => none
  | ⟨none, _, _⟩ :: _, some (.normal, _) => none
  | ⟨some d, op, g⟩ :: l, some (.normal, s) => watchS B l (bif wantG s.t g then (eqS (lightV B s.t s.H op) (some (gt s.t d)) s) else some (.normal, s))
  | _ :: _, some (.ret, s) => some (.ret, s)
  | _ :: _, some (.exit i, s) => some (.exit i, s)
  | _ :: _, some (.pan v, s) => some (.pan v, s)
noncomputable def exDraw (B : OH) (G : Env) : List DOp → Out → Out
  | [], o => o
  | _ :: _, none => none
  | o :: l, some (.normal, s) => exDraw B G l (watchS B o.watch (stepX B G o.op s))
  | _ :: _, some (.ret, s) => some (.ret, s)
  | _ :: _, some (.exit i, s) => some (.exit i, s)
  | _ :: _, some (.pan v, s) => some (.pan v, s)

def seqO (k : S → Out) : Out → Out
  | some (.normal, s) => k s
  | some (.ret, s) => some (.ret, s)
  | some (.exit i, s) => some (.exit i, s)
  | some (.pan v, s) => some (.pan v, s)
  | none => none
def blkO (id : Nat) : Out → Out
  | some (.exit i, s) => if i = id then some (.normal, s) else some (.exit i, s)
  | some (.normal, s) => some (.normal, s)
  | some (.ret, s) => some (.ret, s)
  | some (.pan v, s) => some (.pan v, s)
  | none => none
def condO (v : Value) (a b : S → Out) (s : S) : Out :=
  match v with
  | .bool c => if c = true then a s else b s
  | _ => none
def setP : List Value → List Tmp → List Value → List Value
  | t, p :: ps, v :: vs => setP (st t p v) ps vs
  | t, _, _ => t
open Classical in
noncomputable def isLp (r0 : Loop) (st : LSt) (k : Option KB) : Bool := decide (k = some (.loop r0 st))
def lkU (H : HL) (l : Nat) (r0 : Loop) (st : LSt) : HL := (l, .loop r0 st) :: H
noncomputable def endRnd (l : Nat) (r0 : Loop) : Out → ResE
  | some (.normal, s) => bif isLp r0 .busy (lk s.H l) then some (.ret (.bool true), lkU s.H l r0 .ready, s.N) else none
  | some (.ret, s) => bif isLp r0 .busy (lk s.H l) then some (.ret (.bool false), lkU s.H l r0 (.done none), s.N) else none
  | some (.exit i, s) => bif isLp r0 .busy (lk s.H l) then some (.ret (.bool false), lkU s.H l r0 (.done (some i)), s.N) else none
  | _ => none
noncomputable def begRnd (b : S → Out) (l : Nat) (r0 : Loop) : Out → ResE
  | some (.normal, s) => bif isLp r0 .ready (lk s.H l) then endRnd l r0 (b ⟨s.t, lkU s.H l r0 .busy, s.N⟩) else none
  | _ => none
noncomputable def yieldC (a b : S → Out) (l : Nat) (r0 : Loop) (ps : List Tmp) (t : List Value) : Cs := fun vs H N => bif isLp r0 .ready (lk H l) && decide (vs.length = ps.length) then begRnd b l r0 (a ⟨setP t ps vs, H, N⟩) else none
noncomputable def withY (y : Nat → Cs) (l : Nat) (c : Cs) : Nat → Cs := fun x => bif x == l then c else y x
def callIt (it : Nat → (Nat → Cs) → Cs) (l : Nat) (Y : Nat → Cs) (H : HL) (N : St) : Value → ResE
  | .func (.func k) first cap => it k Y (first.toList ++ [.func (.yield l) #[] #[]] ++ cap.toList) H N
  | _ => none
noncomputable def aftR (l : Nat) (r0 : Loop) (t : List Value) (H : HL) (N : St) : Option KB → Out
  | some (.loop r st) => bif isLp r0 st (some (.loop r st)) then (match st with
      | .ready => some (.normal, ⟨t, lkU H l r0 .over, N⟩)
      | .done none => some (.ret, ⟨t, lkU H l r0 .over, N⟩)
      | .done (some i) => some (.exit i, ⟨t, lkU H l r0 .over, N⟩)
      | _ => none) else none
  | _ => none
noncomputable def afterR (l : Nat) (r0 : Loop) (t : List Value) : ResE → Out
  | some (.ret _, H, N) => aftR l r0 t H N (lk H l)
  | _ => none
noncomputable def rangeO (G : Env) (g : Value) (ps : List Tmp) (a b : S → Out) (s : S) : Out :=
  afterR (s.N 1) (s.N.r 1) s.t (callIt G.it (s.N 1) (withY G.y (s.N 1) (yieldC a b (s.N 1) (s.N.r 1) ps s.t)) (lkU ((s.N 0, .dfr) :: s.H) (s.N 1) (s.N.r 1) .ready) (sh (sh s.N)) g)
noncomputable def exec (B : OH) (G : Env) : Nat → LC → S → Out
  | 0, _, _ => none
  | _ + 1, .skip, s => some (.normal, s)
  | _ + 1, .ops l, s => exOps B G l (some (.normal, s))
  | _ + 1, .draw l, s => exDraw B G l (some (.normal, s))
  | n + 1, .seq a b, s => seqO (exec B G n b) (exec B G n a s)
  | n + 1, .cond c a b, s => condO (ev s.t c) (exec B G n a) (exec B G n b) s
  | n + 1, .block id b, s => blkO id (exec B G n b s)
  | n + 1, .loop b, s => seqO (exec B G n (.loop b)) (exec B G n b s)
  | _ + 1, .exit id, s => some (.exit id, s)
  | _ + 1, .ret, s => some (.ret, s)
  | n + 1, .fork a b, s => bif s.N.g 0 then exec B G n a ⟨s.t, s.H, shg s.N⟩ else exec B G n b ⟨s.t, s.H, shg s.N⟩
  | n + 1, .range g ps a b, s => rangeO G (ev s.t g) ps (exec B G n a) (exec B G n b) s
  | _ + 1, .bad, _ => none

inductive LR where
  | tmp (t : Tmp)
  | cell (a : Tmp) (g : Bool) (n : Nat)
  | bad
def lowerRes (P : Program) : ResultVar → LR
  | .tmp t => .tmp t
  | .cell a ty => match aggB P ty, sizeO P ty with | some g, some n => .cell a g (bif g then n else 1) | _, _ => .bad
structure FnL where
  code : LC
  ntmps : Nat
  res : List LR
def lowerFn (P : Program) (f : Func) : Option FnL := f.body.map fun c => ⟨lower P c, f.ntmps, f.results.toList.map (lowerRes P)⟩
def res1 (B : OH) (s : S) : LR → Option Value
  | .tmp t => some (gt s.t t)
  | .cell a g n => loadV g n s.H B (gt s.t a)
  | .bad => none
def consO : Option Value → Option (List Value) → Option (List Value)
  | some v, some l => some (v :: l)
  | _, _ => none
def ress (B : OH) (s : S) : List LR → Option (List Value)
  | [] => some []
  | r :: l => consO (res1 B s r) (ress B s l)
def retV : List Value → Value
  | [v] => v
  | l => .tuple l.toArray
def retR (s : S) : Option (List Value) → Res
  | some l => some (retV l, s.H, s.N)
  | none => none
def finO (B : OH) (rs : List LR) : Out → ResE
  | some (.normal, s) => rv (retR s (ress B s rs))
  | some (.ret, s) => rv (retR s (ress B s rs))
  | some (.pan v, s) => some (.pan v, s.H, s.N)
  | _ => none
def pad : List Value → Nat → List Value
  | l, 0 => l
  | [], n + 1 => undef :: pad [] n
  | v :: l, n + 1 => v :: pad l n
noncomputable def callF (B : OH) (G : Env) (n : Nat) (f : FnL) : Cs := fun args H N => finO B f.res (exec B G n f.code ⟨pad args f.ntmps, H, N⟩)

def lrT : LR → List Tmp
  | .tmp t => [t]
  | .cell a _ _ => [a]
  | .bad => []
def keepT : List LR → List Tmp
  | [] => []
  | r :: l => lrT r ++ keepT l
def keepsB (keep : List Tmp) : LC → Bool
  | .draw l => l.all fun o => match o.op.dst with | some d => !keep.contains d | none => true
  | .seq a b => keepsB keep a && keepsB keep b
  | .cond _ a b => keepsB keep a && keepsB keep b
  | .block _ b => keepsB keep b
  | .loop b => keepsB keep b
  | .range _ _ a b => keepsB keep a && keepsB keep b
  | .fork _ _ => keep.isEmpty
  | _ => true

structure FnD where
  pre : LC
  k : Nat
  dargs : List Operand
  code : LC
  ntmps : Nat
  res : List LR
def lowerDfr (P : Program) (f : Func) : Option FnD :=
  match f.body with
  | some (.seq a (.seq (.region _ ops false) c)) =>
    match ops.toList with
    | [o] => if o.guard.isSome || o.dst.isSome then none else (match o.op with
      | .defer c' => (match c'.callee with
        | .value (.func k) => if keepsB (keepT (f.results.toList.map (lowerRes P))) (lower P c) = false then none else some ⟨lower P a, k, c'.args.toList, lower P c, f.ntmps, f.results.toList.map (lowerRes P)⟩
        | _ => none)
      | _ => none)
    | _ => none
  | _ => none
abbrev Ds := Value → Cs
def endD (B : OH) (rs : List LR) (t : List Value) : ResE → ResE
  | some (.ret _, H, N) => rv (retR ⟨t, H, N⟩ (ress B ⟨t, H, N⟩ rs))
  | _ => none
def dfrO (B : OH) (D : Ds) (dargs : List Value) (rs : List LR) : Out → ResE
  | some (.normal, s) => endD B rs s.t (D .nilIface dargs s.H s.N)
  | some (.ret, s) => endD B rs s.t (D .nilIface dargs s.H s.N)
  | some (.pan v, s) => endD B rs s.t (D v dargs s.H s.N)
  | _ => none
noncomputable def restD (B : OH) (G : Env) (D : Ds) (n : Nat) (f : FnD) : Out → ResE
  | some (.normal, s) => dfrO B D (evs s.t f.dargs) f.res (exec B G n f.code s)
  | _ => none
noncomputable def callD (B : OH) (G : Env) (D : Nat → Ds) (n : Nat) (f : FnD) : Cs := fun args H N => restD B G (D f.k) n f (exec B G n f.pre ⟨pad args f.ntmps, H, N⟩)
structure FnC where
  d : Option Tmp
  code : LC
  ntmps : Nat
  res : List LR
def lowerCaught (P : Program) (f : Func) : Option FnC :=
  match f.body with
  | some (.seq (.region _ ops false) c) =>
    match ops.toList with
    | [o] => if o.guard.isSome then none else (match o.op with
      | .call c' => (match c'.callee with
        | .builtin .recover => if flatB (lower P c) = false then none else some ⟨o.dst, lower P c, f.ntmps, f.results.toList.map (lowerRes P)⟩
        | _ => none)
      | _ => none)
    | _ => none
  | _ => none
noncomputable def callC (B : OH) (G : Env) (n : Nat) (f : FnC) : Ds := fun r args H N => finO B f.res (exec B G n f.code ⟨putT (pad args f.ntmps) f.d r, H, N⟩)
end Go.Proofs.YtbpaekbjpapgeaaGreatDoor.K
namespace Go.Proofs.YtbpaekbjpapgeaaGreatDoor.K
variable {P : Program} {w0 w : World} {B : OH} {H : HL} {t : List Value} {G : Env}

def Spare (B : OH) (H : HL) (N : St) : Prop := ∃ f : Nat → Nat, (∀ i j, f i = f j → i = j) ∧ (∀ i, den H B (f i) = none) ∧ ∀ i j, f i ≠ N j
def good (B : OH) (H : HL) (N : St) : Prop := ((∀ i j, N i = N j → i = j) ∧ Spare B H N) ∧ ∀ i, den H B (N i) = none
theorem good_less {B : OH} {H H' : HL} {N : St} (h : ∀ x, den H' B x = none → den H B x = none) (hN : good B H' N) : good B H N := by
  obtain ⟨⟨h1, f, f1, f2, f3⟩, h2⟩ := hN
  exact ⟨⟨h1, f, f1, fun i => h _ (f2 i), f3⟩, fun i => h _ (h2 i)⟩

def stW (w : World) : St := ⟨fun i => w.heap.size + 2 * i, fun _ => 0, fun _ => false, fun _ => default⟩
theorem good_of (hk : Knows w0 (den H B) w) : good B H (stW w) :=
  have key : ∀ i, den H B (w.heap.size + i) = none := fun i => by
    cases hd : den H B (w.heap.size + i) with
    | none => rfl
    | some k => have := (hk.own _ _ hd).1; omega
  ⟨⟨fun i j h => by simp only [stW] at h; omega, fun i => w.heap.size + (2 * i + 1), fun i j h => by simp only at h; omega, fun i => key _, fun i j h => by simp only [stW] at h; omega⟩, fun i => key _⟩

theorem pv_elim (hk : Knows w0 (den H B) w) {x : Option Value} {Q : Res → Prop} (h0 : ¬ Q none) (h : ∀ N, good B H N → Q (pv x H N)) :
    ∃ v, x = some v ∧ ∀ N, good B H N → Q (some (v, H, N)) := by
  cases x with
  | none => exact (h0 (h _ (good_of hk))).elim
  | some v => exact ⟨v, rfl, h⟩

theorem res_elim (hk : Knows w0 (den H B) w) {f : St → Res} {Q : Res → Prop} (h0 : ¬ Q none) (h : ∀ N, good B H N → Q (f N)) :
    f (stW w) ≠ none := fun e => h0 (e ▸ h _ (good_of hk))

def consA (r e : Nat) (b : Bool) (N : St) : St := ⟨fun i => match i with | 0 => r | i + 1 => N i, fun i => match i with | 0 => e | i + 1 => N.c i, fun i => match i with | 0 => b | i + 1 => N.g i, fun i => match i with | 0 => default | i + 1 => N.r i⟩
def consL (r : Nat) (lp : Loop) (N : St) : St := ⟨fun i => match i with | 0 => r | i + 1 => N i, fun i => match i with | 0 => 0 | i + 1 => N.c i, fun i => match i with | 0 => false | i + 1 => N.g i, fun i => match i with | 0 => lp | i + 1 => N.r i⟩
def consN (r : Nat) (N : St) : St := consA r 0 false N
theorem sh_consA (r e : Nat) (b : Bool) (N : St) : sh (consA r e b N) = N := rfl
theorem sh_consN (r : Nat) (N : St) : sh (consN r N) = N := rfl
theorem den_cons {r : Nat} (hr : den H B r = none) (k : KB) (x : Nat) : den ((r, k) :: H) B x = if x = r then some k else den H B x := by
  unfold den at hr ⊢
  simp only [lk]
  by_cases h : x = r
  · subst h
    cases hB : B x with
    | some k' => simp [hB] at hr
    | none => simp
  · have : (x == r) = false := by simpa using h
    simp [h, this]
theorem den_fresh (hk : Knows w0 (den H B) w) : den H B w.heap.size = none := by
  cases hd : den H B w.heap.size with
  | none => rfl
  | some k => have := (hk.own _ _ hd).1; omega
theorem good_consA {r e : Nat} {b : Bool} {k : KB} {N : St} (hr : den H B r = none) (hN : good B ((r, k) :: H) N) : good B H (consA r e b N) := by
  have hne : ∀ i, N i ≠ r := fun i e => by have := hN.2 i; rw [e, den_cons hr] at this; simp at this
  have hd : ∀ i, den H B (N i) = none := fun i => by have := hN.2 i; rw [den_cons hr, if_neg (hne i)] at this; exact this
  obtain ⟨⟨h1, f, f1, f2, f3⟩, _⟩ := hN
  refine ⟨⟨fun i j h => ?_, f, f1, fun i => ?_, fun i j h => ?_⟩, fun i => ?_⟩
  · cases i with
    | zero => cases j with
      | zero => rfl
      | succ j => exact (hne j h.symm).elim
    | succ i => cases j with
      | zero => exact (hne i h).elim
      | succ j => rw [h1 i j h]
  · have := f2 i
    rw [den_cons hr] at this
    split at this
    · cases this
    · exact this
  · cases j with
    | zero =>
      have hh : f i = r := h
      have := f2 i
      rw [den_cons hr, if_pos hh] at this
      cases this
    | succ j => exact f3 i j h
  · cases i with
    | zero => exact hr
    | succ i => exact hd i
theorem good_spare {e : Nat} {b : Bool} {N : St} (hN : good B H N) : ∃ r, good B H (consA r e b N) := by
  obtain ⟨⟨h1, f, f1, f2, f3⟩, h2⟩ := hN
  refine ⟨f 0, ⟨⟨fun i j h => ?_, fun i => f (i + 1), fun i j h => by have := f1 _ _ h; omega, fun i => f2 _, fun i j h => ?_⟩, fun i => ?_⟩⟩
  · cases i with
    | zero => cases j with
      | zero => rfl
      | succ j => exact (f3 0 j h).elim
    | succ i => cases j with
      | zero => exact (f3 0 i h.symm).elim
      | succ j => rw [h1 i j h]
  · cases j with
    | zero => have := f1 _ _ h; omega
    | succ j => exact f3 _ j h
  · cases i with
    | zero => exact f2 0
    | succ i => exact h2 i
theorem good_n {N N' : St} (h : N.n = N'.n) (hN : good B H N) : good B H N' := by
  unfold good Spare at *
  rw [← h]; exact hN
theorem good_consL {r : Nat} {lp : Loop} {k : KB} {N : St} (hr : den H B r = none) (hN : good B ((r, k) :: H) N) : good B H (consL r lp N) := good_n (N := consA r 0 false N) rfl (good_consA hr hN)
theorem good_cons {r : Nat} {k : KB} {N : St} (hr : den H B r = none) (hN : good B ((r, k) :: H) N) : good B H (consN r N) := good_consA hr hN

theorem Knows.new (hk : Knows w0 (den H B) w) (cs : List Value) (e : TypeId) :
    Knows w0 (den ((w.heap.size, .cells cs cs.length) :: H) B) (w.alloc (.cells cs.toArray e)) := by
  refine ⟨hk.os, hk.tape, hk.output, by have := hk.size; simp; omega, fun b hb => ?_, fun r k hr => ?_, fun a ha => ?_, fun r hr => ?_, fun r hr => ?_⟩
  · show (w.heap.push _)[b]? = _
    rw [Array.getElem?_push, if_neg (by have := hk.size; omega)]; exact hk.old b hb
  · rw [den_cons (den_fresh hk)] at hr
    by_cases h : r = w.heap.size
    · subst h
      simp only [if_true, Option.some.injEq] at hr
      subst hr
      refine ⟨by simp, cs.toArray, e, ?_, by simp, Nat.le_refl _, fun i v hv => by simpa using hv⟩
      show (w.heap.push _)[w.heap.size]? = _
      simp
    · rw [if_neg h] at hr
      obtain ⟨h1, h2⟩ := hk.own r k hr
      refine ⟨by simp; omega, ?_⟩
      show k.is (w.heap.push _)[r]?
      rw [Array.getElem?_push, if_neg h]; exact h2
  · by_cases h : a.block = w.heap.size
    · cases a with
      | mk b o s => simp only at h; subst h; show (match (w.heap.push (Obj.cells cs.toArray e (0, 0)))[w.heap.size]? with | some (.cells _ _ (lo, hi)) => decide (lo ≤ o) && decide (o < hi) | _ => false) = false; simp
    · rw [World.frozen?_alloc_old _ _ _ h]; exact hk.fz a ha
  · by_cases h : r = w.heap.size
    · subst h; exact hk.size
    · refine hk.mine r ?_
      simpa [den_cons (den_fresh hk), h] using hr
  · by_cases h : r = w.heap.size
    · subst h; exact hk.size
    · refine hk.mineL r ?_
      simpa [den_cons (den_fresh hk), h] using hr

theorem newB_elim {cs : List Value} {mk : Nat → Value} {Q : Res → Prop} (hk : Knows w0 (den H B) w) (h : ∀ N, good B H N → Q (newB H N cs mk)) (e : TypeId) :
    Knows w0 (den ((w.heap.size, .cells cs cs.length) :: H) B) (w.alloc (.cells cs.toArray e)) ∧
    ∀ N', good B ((w.heap.size, .cells cs cs.length) :: H) N' → Q (some (mk w.heap.size, (w.heap.size, .cells cs cs.length) :: H, N')) :=
  ⟨hk.new cs e, fun N' hN' => by have := h (consN w.heap.size N') (good_cons (den_fresh hk) hN'); simpa [newB, consN, consA, sh_consN, sh] using this⟩

def Does (P : Program) (ρ : Operand → Value) (o : Oper) (w : World) (v : Value) (w' : World) : Prop :=
  (execOp ρ o).run P w = .ok (.value v) w' ∨ ((execOp ρ o).run P w = .ok .skip w' ∧ v = undef)

def Sound (P : Program) (o : Oper) (lo : LO) : Prop :=
  ∀ (w0 w : World) (B : OH) (H : HL) (t : List Value) (G : Env) (ρ : Operand → Value) (Q : Res → Prop), (∀ x, ρ x = ev t x) → Knows w0 (den H B) w → ¬ Q none →
    (∀ N, good B H N → Q (stepOp B G ⟨t, H, N⟩ lo)) →
    ∃ v w' H', Does P ρ o w v w' ∧ KeepD w w' ∧ Knows w0 (den H' B) w' ∧ ∀ N', good B H' N' → Q (some (v, H', N'))

theorem sound_pure {o : Oper} {lo : LO} (f : List Value → HL → OH → Option Value) (hs : ∀ (B : OH) (G : Env) (s : S), stepOp B G s lo = pv (f s.t s.H B) s.H s.N)
    (hr : ∀ (w0 w : World) (B : OH) (H : HL) (t : List Value) (ρ : Operand → Value) (v : Value), (∀ x, ρ x = ev t x) → Knows w0 (den H B) w → f t H B = some v → Does P ρ o w v w) : Sound P o lo := by
  intro w0 w B H t G ρ Q hρ hk h0 h
  obtain ⟨v, hv, hQ⟩ := pv_elim (x := f t H B) hk h0 (fun N hN => by have := h N hN; rw [hs] at this; exact this)
  exact ⟨v, w, H, hr w0 w B H t ρ v hρ hk hv, .refl w, hk, hQ⟩

theorem sound_mv {o : Oper} {x : Operand} (h : o.op = .move x ∨ o.op = .assign x) : Sound P o (.mv x) :=
  sound_pure (fun t _ _ => some (ev t x)) (fun _ _ _ => rfl) fun w0 w B H t ρ v hρ _ hv => by
    simp only [Option.some.injEq] at hv
    subst hv
    left
    rcases h with h | h <;> simp [execOp, h, hρ]
theorem sound_pick {o : Oper} {c a b : Operand} (h : o.op = .pick c a b) : Sound P o (.pick c a b) :=
  sound_pure (fun t _ _ => pickV (ev t c) (ev t a) (ev t b)) (fun _ _ _ => rfl) fun w0 w B H t ρ v hρ _ hv => by
    left
    simp only [execOp, h, hρ]
    unfold pickV at hv
    split at hv <;> simp_all [asBool]
theorem sound_alloc {o : Oper} {e : TypeId} {z : List Value} (h : o.op = .alloc e) (hz : zeroOf P e = some z) : Sound P o (.alloc z) := by
  intro w0 w B H t G ρ Q hρ hk h0 hQ
  obtain ⟨h1, h2⟩ := newB_elim (cs := z) (mk := ptrTo) hk hQ e
  refine ⟨ptrTo w.heap.size, w.alloc (.cells z.toArray e), _, .inl ?_, .alloc _ _, h1, h2⟩
  unfold zeroOf at hz
  cases hi : P.info? e with
  | none => simp [hi] at hz
  | some i =>
    cases hv : i.zero with
    | none => simp [hi, hv] at hz
    | some v =>
      simp only [hi, Option.bind_some, hv, Option.map_some, Option.some.injEq] at hz
      subst hz
      simp [execOp, h, Instr.alloc, zeroValue, typeInfo, hi, hv, newVar, newRow, ptrTo]
theorem sound_box {o : Oper} {e : TypeId} {x : Operand} (h : o.op = .box e x) : Sound P o (.box x) := by
  intro w0 w B H t G ρ Q hρ hk h0 hQ
  obtain ⟨h1, h2⟩ := newB_elim (cs := (ev t x).cells.toList) (mk := ptrTo) hk hQ e
  refine ⟨ptrTo w.heap.size, _, _, .inl ?_, .alloc _ _, h1, h2⟩
  simp [execOp, h, Instr.box, newVar, newRow, ptrTo, hρ]
end Go.Proofs.YtbpaekbjpapgeaaGreatDoor.K
namespace Go.Proofs.YtbpaekbjpapgeaaGreatDoor.K
variable {P : Program} {w0 w : World} {B : OH} {H : HL} {t : List Value} {G : Env}

theorem run_underlying {t : TypeId} {d : TypeDesc} (h : P.underlying t = some d) (w : World) : (underlying t).run P w = .ok d w := by
  simp [underlying, h]
theorem run_sizeOf {t : TypeId} {n : Nat} (h : sizeO P t = some n) (w : World) : (sizeOf t).run P w = .ok n w := by
  unfold sizeO at h
  cases hi : P.info? t with
  | none => simp [hi] at h
  | some i => simp [hi] at h; subst h; simp [sizeOf, typeInfo, hi]
theorem run_zero {t : TypeId} {z : List Value} (h : zeroOf P t = some z) (w : World) : ∃ v, (zeroValue t).run P w = .ok v w ∧ v.cells.toList = z := by
  unfold zeroOf at h
  cases hi : P.info? t with
  | none => simp [hi] at h
  | some i =>
    cases hv : i.zero with
    | none => simp [hi, hv] at h
    | some v => simp [hi, hv] at h; exact ⟨v, by simp [zeroValue, typeInfo, hi, hv], h⟩
theorem run_isAgg {t : TypeId} {g : Bool} (h : aggB P t = some g) (w : World) : (isAgg t).run P w = .ok g w := by
  unfold aggB at h
  cases hd : P.underlying t with
  | none => simp [hd] at h
  | some d => cases d <;> simp [hd] at h <;> subst h <;> simp [isAgg, run_underlying hd]

theorem addr_add (b o n : Nat) : (Addr.add ⟨b, o, none⟩ n) = ⟨b, o + n, none⟩ := by
  unfold Addr.add; split
  · subst_vars; rfl
  · rfl

theorem run_loadVar {H : HL} {B : OH} (hk : Knows w0 (den H B) w) {ty : TypeId} {g : Bool} {n m b o : Nat} {v : Value} (hg : aggB P ty = some g) (hn : sizeO P ty = some n) (hm : m = bif g then n else 1)
    (hv : mkV g (rdH H B b o m) = some v) : (loadVar ty ⟨b, o, none⟩).run P w = .ok v w := by
  cases hr : rdH H B b o m with
  | none => simp [mkV, hr] at hv
  | some r =>
    obtain ⟨hl, hc⟩ := rdH_spec hk hr
    simp only [mkV, hr] at hv
    cases g with
    | true =>
      simp only [cond_true, Option.some.injEq] at hv hm
      subst hv hm
      simp only [loadVar, Sem.run_bind, run_isAgg hg, Result.andThen_ok, if_true, run_sizeOf hn]
      rw [show m = r.length from hl.symm, run_loadCells_list w ⟨b, o, none⟩ r (fun j v hj => by rw [addr_add]; exact hc j v hj)]
      simp
    | false =>
      simp only [cond_false] at hv hm
      subst hm
      unfold one at hv
      split at hv
      · rename_i u
        simp only [Option.some.injEq] at hv
        subst hv
        have := hc 0 u (by simp)
        simp only [loadVar, Sem.run_bind, run_isAgg hg, Result.andThen_ok, Bool.false_eq_true, if_false]
        rw [run_load]
        simp at this
        simp [this]
      · cases hv

theorem sound_load {o : Oper} {ty : TypeId} {x : Operand} {g : Bool} {n m : Nat} (h : o.op = .load ty x) (hg : aggB P ty = some g) (hn : sizeO P ty = some n) (hm : m = bif g then n else 1) : Sound P o (.load g m x) :=
  sound_pure (fun t H B => loadV g m H B (ev t x)) (fun _ _ _ => rfl) fun w0 w B H t ρ v hρ hk hv => by
    left
    unfold loadV at hv
    split at hv
    · rename_i b off he
      have hv' : mkV g (rdH H B b off m) = some v := hv
      simp only [execOp, h, hρ, he, Instr.loadAt, Instr.sureAddr]
      simp [run_loadVar hk hg hn hm hv']
    · cases hv

theorem wr_length : ∀ (l : List Value) (o : Nat) (vs r : List Value), wr l o vs = some r → r.length = l.length
  | l, 0, [], r, h => by simp [wr] at h; rw [h]
  | [], 0, _ :: _, r, h => by simp [wr] at h
  | [], _ + 1, _, r, h => by simp [wr] at h
  | _ :: l, 0, v :: vs, r, h => by
    simp only [wr, tkC] at h
    split at h
    · rename_i r' hr; simp only [Option.some.injEq] at h; subst h; simp [wr_length l 0 vs r' hr]
    · cases h
  | x :: l, o + 1, vs, r, h => by
    simp only [wr, tkC] at h
    split at h
    · rename_i r' hr; simp only [Option.some.injEq] at h; subst h; simp [wr_length l o vs r' hr]
    · cases h
theorem wr_get : ∀ (l : List Value) (o : Nat) (vs r : List Value), wr l o vs = some r → ∀ i, r[i]? = if o ≤ i ∧ i < o + vs.length then vs[i - o]? else l[i]?
  | l, 0, [], r, h, i => by simp [wr] at h; subst h; simp
  | [], 0, _ :: _, r, h, i => by simp [wr] at h
  | [], _ + 1, _, r, h, i => by simp [wr] at h
  | x :: l, 0, v :: vs, r, h, i => by
    simp only [wr, tkC] at h
    split at h
    · rename_i r' hr
      simp only [Option.some.injEq] at h
      subst h
      cases i with
      | zero => simp
      | succ i =>
        have := wr_get l 0 vs r' hr i
        simp only [List.getElem?_cons_succ, this, List.length_cons]
        simp
    · cases h
  | x :: l, o + 1, vs, r, h, i => by
    simp only [wr, tkC] at h
    split at h
    · rename_i r' hr
      simp only [Option.some.injEq] at h
      subst h
      cases i with
      | zero => simp
      | succ i =>
        have := wr_get l o vs r' hr i
        simp only [List.getElem?_cons_succ, this]
        by_cases hc : o ≤ i ∧ i < o + vs.length
        · rw [if_pos hc, if_pos (by omega)]; congr 1; omega
        · rw [if_neg hc, if_neg (by omega)]
    · cases h
theorem wr_fits : ∀ (l : List Value) (o : Nat) (vs r : List Value), wr l o vs = some r → o + vs.length ≤ l.length
  | l, 0, [], r, h => by simp
  | [], 0, _ :: _, r, h => by simp [wr] at h
  | [], _ + 1, _, r, h => by simp [wr] at h
  | x :: l, 0, v :: vs, r, h => by
    simp only [wr, tkC] at h
    split at h
    · rename_i r' hr
      have := wr_fits l 0 vs r' hr
      simp; omega
    · cases h
  | x :: l, o + 1, vs, r, h => by
    simp only [wr, tkC] at h
    split at h
    · rename_i r' hr
      have := wr_fits l o vs r' hr
      simp; omega
    · cases h

theorem wrH_spec : ∀ {H : HL} {b o : Nat} {vs : List Value} {H' : HL}, wrH H b o vs = some H' →
    ∃ cs n cs', lk H b = some (.cells cs n) ∧ wr cs o vs = some cs' ∧ ∀ x, lk H' x = if x = b then some (.cells cs' n) else lk H x
  | [], _, _, _, _, h => by simp [wrH] at h
  | (x, k) :: H, b, o, vs, H', h => by
    simp only [wrH] at h
    by_cases hb : b = x
    · subst hb
      simp only [beq_self_eq_true, cond_true, wrK] at h
      split at h
      · rename_i cs n
        simp only [wrC] at h
        split at h
        · rename_i cs' hw
          simp only [Option.some.injEq] at h
          subst h
          refine ⟨cs, n, cs', by simp [lk], hw, fun y => ?_⟩
          by_cases hy : y = b
          · subst hy; simp [lk]
          · have : (y == b) = false := by simpa using hy
            simp [lk, this, hy]
        · cases h
      · cases h
    · have hne : (b == x) = false := by simpa using hb
      simp only [hne, cond_false, consH] at h
      split at h
      · rename_i H1 hw
        simp only [Option.some.injEq] at h
        subst h
        obtain ⟨cs, n, cs', h1, h2, h3⟩ := wrH_spec hw
        refine ⟨cs, n, cs', by simp [lk, hne, h1], h2, fun y => ?_⟩
        by_cases hy : y = x
        · subst hy; simp [lk]; intro h; exact (hb h.symm).elim
        · have : (y == x) = false := by simpa using hy
          simp [lk, this, h3]
      · cases h

theorem run_storeCells (P : Program) (b : Nat) : ∀ (vs : List Value) (i o : Nat) (w : World) (arr : Array Value) (e : TypeId), w.heap[b]? = some (.cells arr e (0, 0)) → o + i + vs.length ≤ arr.size → (∀ v ∈ vs, v.oneCell' = true) →
    ∃ w', (storeCells ⟨b, o, none⟩ vs i).run P w = .ok () w' ∧ w'.os = w.os ∧ w'.tape = w.tape ∧ w'.output = w.output ∧ w'.heap.size = w.heap.size ∧ (∀ x, x ≠ b → w'.heap[x]? = w.heap[x]?) ∧
      ∃ arr', w'.heap[b]? = some (.cells arr' e (0, 0)) ∧ arr'.size = arr.size ∧ ∀ j, arr'[j]? = if o + i ≤ j ∧ j < o + i + vs.length then vs[j - (o + i)]? else arr[j]?
  | [], i, o, w, arr, e, hb, hl, _ => ⟨w, by simp [storeCells], rfl, rfl, rfl, rfl, fun _ _ => rfl, arr, hb, rfl, fun j => by rw [if_neg (by simp)]⟩
  | v :: vs, i, o, w, arr, e, hb, hl, hone => by
    simp only [List.length_cons] at hl
    have hlt : o + i < arr.size := by omega
    have hc : w.cell? ⟨b, o + i, none⟩ = some arr[o + i] := by simp [World.cell?, hb, hlt]
    have hf : w.frozen? ⟨b, o + i, none⟩ = false := by simp [World.frozen?, hb]
    have hb1 : (w.setCell ⟨b, o + i, none⟩ v).heap[b]? = some (.cells (arr.setIfInBounds (o + i) v) e (0, 0)) := by
      simp only [World.setCell, Array.getElem?_modify, if_true, hb, Option.map_some]
      rfl
    obtain ⟨w', h1, h2, h3, h4, h5, h6, arr', h7, h8, h9⟩ := run_storeCells P b vs (i + 1) o (w.setCell ⟨b, o + i, none⟩ v) _ e hb1 (by simp; omega) (fun u hu => hone u (List.mem_cons_of_mem _ hu))
    refine ⟨w', ?_, h2, h3, h4, by rw [h5]; simp, fun x hx => ?_, arr', h7, by rw [h8]; simp, fun j => ?_⟩
    · simp only [storeCells, Sem.run_bind, addr_add]
      rw [run_store P w _ v .plain (hone v List.mem_cons_self)]
      simp [hc, hf, h1]
    · rw [h6 x hx]; exact RowKit.Below.heap_setCell _ _ _ _ hx
    · rw [h9 j]
      by_cases hj : o + i = j
      · subst hj
        rw [if_neg (by omega), if_pos (by simp)]
        simp [hlt]
      · by_cases hj2 : o + (i + 1) ≤ j ∧ j < o + (i + 1) + vs.length
        · rw [if_pos hj2, if_pos (by simp; omega)]
          rw [show j - (o + i) = (j - (o + (i + 1))) + 1 by omega]
          simp
        · rw [if_neg hj2, if_neg (by simp; omega)]
          simp [hj]
theorem all1_spec : ∀ {l : List Value}, all1 l = true → ∀ v ∈ l, v.oneCell' = true
  | [], _, v, h => by cases h
  | x :: l, h, v, hv => by
    have h1 : x.oneCell' = true ∧ all1 l = true := by cases x <;> simp_all [all1, Value.oneCell']
    rcases List.mem_cons.1 hv with rfl | hv
    · exact h1.1
    · exact all1_spec h1.2 v hv

theorem Knows.write {H' : HL} (hk : Knows w0 (den H B) w) {b o : Nat} {vs : List Value} (hB : B b = none) (hw : wrH H b o vs = some H') (h1 : all1 vs = true) :
    ∃ w', (storeCells ⟨b, o, none⟩ vs).run P w = .ok () w' ∧ Knows w0 (den H' B) w' ∧ KeepD w w' := by
  obtain ⟨cs, n, cs', hl, hwr, hlk⟩ := wrH_spec hw
  have hd : den H B b = some (.cells cs n) := by simp [den, hl, hB]
  obtain ⟨hlt, arr, e, harr, hsz, hle, hcs⟩ := hk.own b _ hd
  have hfit := wr_fits _ _ _ _ hwr
  obtain ⟨w', r1, r2, r3, r4, r5, r6, arr', r7, r8, r9⟩ := run_storeCells P b vs 0 o w arr e harr (by omega) (all1_spec h1)
  have hd' : ∀ x, den H' B x = if x = b then some (.cells cs' n) else den H B x := fun x => by
    unfold den
    rw [hlk x]
    by_cases hx : x = b
    · subst hx; simp [hB]
    · simp [hx]
  have hb0 := hk.mine b (.inl ⟨cs, n, hd⟩)
  refine ⟨w', r1, ⟨r2.trans hk.os, r3.trans hk.tape, r4.trans hk.output, by rw [r5]; exact hk.size, fun x hx => by rw [r6 x (by omega)]; exact hk.old x hx, fun r k hr => ?_, fun a ha => ?_, fun r hr => ?_, fun r hr => ?_⟩, ⟨by rw [r5]; exact Nat.le_refl _, fun x ds hx => by
      have hne : x ≠ b := fun e => by subst e; rw [harr] at hx; cases hx
      rw [r6 x hne]; exact hx⟩⟩
  · rw [hd'] at hr
    by_cases hx : r = b
    · subst hx
      rw [if_pos rfl, Option.some.injEq] at hr
      subst hr
      refine ⟨by rw [r5]; exact hlt, arr', e, r7, by rw [r8, hsz], by rw [wr_length _ _ _ _ hwr]; exact hle, fun i v hi => ?_⟩
      rw [wr_get _ _ _ _ hwr] at hi
      rw [r9 i]
      simp only [Nat.add_zero]
      by_cases hc : o ≤ i ∧ i < o + vs.length
      · rw [if_pos hc] at hi; rw [if_pos hc]; exact hi
      · rw [if_neg hc] at hi; rw [if_neg hc]; exact hcs i v hi
    · rw [if_neg hx] at hr
      obtain ⟨q1, q2⟩ := hk.own r k hr
      exact ⟨by rw [r5]; exact q1, by rw [r6 r hx]; exact q2⟩
  · by_cases hx : a.block = b
    · simp [World.frozen?, hx, r7]
    · have := hk.fz a ha
      unfold World.frozen? at this ⊢
      rw [r6 _ hx]; exact this
  · by_cases hx : r = b
    · subst hx; exact hb0
    · refine hk.mine r ?_
      simpa [hd', hx] using hr
  · by_cases hx : r = b
    · subst hx; exact hb0
    · refine hk.mineL r ?_
      simpa [hd', hx] using hr

theorem sound_store {o : Oper} {ty : TypeId} {a x : Operand} {n : Nat} (h : o.op = .store ty a x) (hn : sizeO P ty = some n) : Sound P o (.store n a x) := by
  intro w0 w B H t G ρ Q hρ hk h0 hQ
  have hne := res_elim (f := fun N => storeV n B H N (ev t a) (ev t x)) hk h0 hQ
  unfold storeV at hne
  split at hne
  · rename_i b off he
    split at hne
    · rename_i hc
      cases hB : B b with
      | some k => rw [hB] at hne; exact (hne rfl).elim
      | none =>
        cases hw : wrH H b off (ev t x).cells.toList with
        | none => rw [hB] at hne; simp only [wrB, hw, unitR] at hne; exact (hne rfl).elim
        | some H' =>
          obtain ⟨w', r1, r2, r3⟩ := hk.write (P := P) hB hw hc.2
          refine ⟨undef, w', H', .inr ⟨?_, rfl⟩, r3, r2, fun N' hN' => ?_⟩
          · simp [execOp, h, hρ, Instr.storeAt, Instr.sureAddr, he, storeVar, run_sizeOf hn, hc.1, r1]
          · have hgood : good B H N' := good_less (fun y hy => by
              unfold den at hy ⊢
              obtain ⟨cs, n, cs', hl, hwr, hlk⟩ := wrH_spec hw
              rw [hlk] at hy
              by_cases hx : y = b
              · rw [hx] at hy; simp [hB] at hy
              · simpa [hx] using hy) hN'
            have := hQ N' hgood
            simpa [stepOp, storeV, he, hc, hB, wrB, hw, unitR] using this
    · exact (hne rfl).elim
  · exact (hne rfl).elim
end Go.Proofs.YtbpaekbjpapgeaaGreatDoor.K
namespace Go.Proofs.YtbpaekbjpapgeaaGreatDoor.K
variable {P : Program} {w0 w : World} {B : OH} {H : HL} {t : List Value} {G : Env}

theorem sound_nilck {o : Oper} {x : Operand} (h : o.op = .nilCheck x) : Sound P o (.nilck x) :=
  sound_pure (fun t _ _ => nilckV (ev t x)) (fun _ _ _ => rfl) fun w0 w B H t ρ v hρ _ hv => by
    left
    unfold nilckV at hv
    split at hv <;> first | (cases hv; done) | (rename_i he; simp only [Option.some.injEq] at hv; subst hv; simp [execOp, h, hρ, he])

theorem run_arith {op : BinOp} {k k' : IntKind} {a b : Int} {v : Value} (hs : (isSh op || k == k') = true) (hv : arith op k a b = some v) (ty : TypeId) (w : World) : (binOp op ty (.int k a) (.int k' b)).run P w = .ok v w := by
  cases op <;> simp only [arith] at hv <;> (try simp only [isSh, Bool.false_or, beq_iff_eq] at hs) <;> (try subst hs)
  case quo | rem | shl | shr =>
    split at hv
    · cases hv
    · rename_i hc
      simp only [Option.some.injEq] at hv
      subst hv
      simp [binOp, Op.intDiv, Op.shift, hc]
  all_goals
    simp only [Option.some.injEq] at hv
    subst hv
    simp [binOp, Op.intArith, Op.intBits, Op.intCmp]

theorem sound_bin {o : Oper} {op : BinOp} {ty u : TypeId} {x y : Operand} (h : o.op = .binOp op ty x y u) (hty : (op = .eql ∨ op = .neq) → P.underlying ty = some .string ∨ ∃ k, P.underlying ty = some (.int k)) : Sound P o (.bin op x y) :=
  sound_pure (fun t _ _ => binV op (ev t x) (ev t y)) (fun _ _ _ => rfl) fun w0 w B H t ρ v hρ _ hv => by
    left
    unfold binV at hv
    split at hv
    · rename_i k a k' b ha hb
      have hg : (eqGuard op ty x y (Value.int k a) (Value.int k' b)).run P w = .ok () w := by
        unfold eqGuard; cases op <;> simp
      simp only [execOp, h, hρ, ha, hb, Sem.run_bind, hg, Result.andThen_ok]
      cases hs : (isSh op || k == k') with
      | false => simp [hs] at hv
      | true =>
        simp only [hs, cond_true] at hv
        simp [run_arith hs hv]
    · rename_i a b ha hb
      have hg : (eqGuard op ty x y (Value.string a) (Value.string b)).run P w = .ok () w := by
        unfold eqGuard; cases op <;> simp
      simp only [execOp, h, hρ, ha, hb, Sem.run_bind, hg, Result.andThen_ok]
      cases op <;> simp only [Option.some.injEq] at hv <;> first | (cases hv; done) | (subst hv; simp [binOp, Op.stringOp])
    · cases hv

theorem sound_eqb {o : Oper} {op : BinOp} {ty u : TypeId} {x y : Operand} {neg : Bool} (h : o.op = .binOp op ty x y u) (hop : op = if neg then .neq else .eql) (hty : P.underlying ty = some .bool) : Sound P o (.eqb neg x y) :=
  sound_pure (fun t _ _ => eqbV neg (ev t x) (ev t y)) (fun _ _ _ => rfl) fun w0 w B H t ρ v hρ _ hv => by
    left
    unfold eqbV at hv
    split at hv
    · rename_i a b ha hb
      simp only [Option.some.injEq] at hv
      subst hv
      have hg : (eqGuard op ty x y (Value.bool a) (Value.bool b)).run P w = .ok () w := by
        unfold eqGuard; cases op <;> simp
      simp only [execOp, h, hρ, ha, hb, Sem.run_bind, hg, Result.andThen_ok]
      cases neg <;> simp at hop <;> subst hop
      · simp [run_eql_bool w ty a b hty]
      · simp [run_neq_bool w ty a b hty]
    · cases hv

theorem sound_eqp {o : Oper} {op : BinOp} {ty u : TypeId} {x y : Operand} {neg : Bool} {e : TypeId} (h : o.op = .binOp op ty x y u) (hop : op = if neg then .neq else .eql) (hty : P.underlying ty = some (.pointer e)) : Sound P o (.eqp neg x y) :=
  sound_pure (fun t _ _ => eqpV neg (ev t x) (ev t y)) (fun _ _ _ => rfl) fun w0 w B H t ρ v hρ _ hv => by
    left
    unfold eqpV at hv
    split at hv
    · rename_i a ha hb
      simp only [Option.some.injEq] at hv
      subst hv
      have hg : (eqGuard op ty x y (Value.pointer a) (Value.pointer none)).run P w = .ok () w := by
        unfold eqGuard; cases op <;> simp
      have he : (Op.equal ty (.pointer a) (.pointer none)).run P w = .ok a.isNone w := by
        unfold Op.equal Op.maxDepth Op.equalIn
        cases a <;> simp [run_underlying hty]
      simp only [execOp, h, hρ, ha, hb, Sem.run_bind, hg, Result.andThen_ok]
      cases neg <;> simp at hop <;> subst hop <;> cases a <;> simp [binOp, he]
    · rename_i b hno ha hb
      simp only [Option.some.injEq] at hv
      subst hv
      have hg : (eqGuard op ty x y (Value.pointer none) (Value.pointer b)).run P w = .ok () w := by
        unfold eqGuard; cases op <;> simp
      have he : (Op.equal ty (.pointer none) (.pointer b)).run P w = .ok b.isNone w := by
        unfold Op.equal Op.maxDepth Op.equalIn
        cases b <;> simp [run_underlying hty]
      simp only [execOp, h, hρ, ha, hb, Sem.run_bind, hg, Result.andThen_ok]
      cases neg <;> simp at hop <;> subst hop <;> cases b <;> simp [binOp, he]
    · cases hv

theorem sound_eqf {o : Oper} {op : BinOp} {ty u : TypeId} {x y : Operand} {neg : Bool} {ps rs : Array TypeId} {vr : Bool} (h : o.op = .binOp op ty x y u) (hop : op = if neg then .neq else .eql) (hty : P.underlying ty = some (.func ps rs vr)) : Sound P o (.eqf neg x y) :=
  sound_pure (fun t _ _ => eqfV neg (ev t x) (ev t y)) (fun _ _ _ => rfl) fun w0 w B H t ρ v hρ _ hv => by
    left
    unfold eqfV at hv
    split at hv
    · rename_i f a b ha hb
      simp only [Option.some.injEq] at hv
      subst hv
      have hg : (eqGuard op ty x y (Value.func f a b) Value.nilFunc).run P w = .ok () w := by
        unfold eqGuard; cases op <;> simp
      have he : (Op.equal ty (.func f a b) .nilFunc).run P w = .ok false w := by
        unfold Op.equal Op.maxDepth Op.equalIn
        simp [run_underlying hty]
      simp only [execOp, h, hρ, ha, hb, Sem.run_bind, hg, Result.andThen_ok]
      cases neg <;> simp at hop <;> subst hop <;> simp [binOp, he]
    · rename_i ha hb
      simp only [Option.some.injEq] at hv
      subst hv
      have hg : (eqGuard op ty x y Value.nilFunc Value.nilFunc).run P w = .ok () w := by
        unfold eqGuard; cases op <;> simp
      have he : (Op.equal ty .nilFunc .nilFunc).run P w = .ok true w := by
        unfold Op.equal Op.maxDepth Op.equalIn
        simp [run_underlying hty]
      simp only [execOp, h, hρ, ha, hb, Sem.run_bind, hg, Result.andThen_ok]
      cases neg <;> simp at hop <;> subst hop <;> simp [binOp, he]
    · rename_i f a b ha hb
      simp only [Option.some.injEq] at hv
      subst hv
      have hg : (eqGuard op ty x y Value.nilFunc (Value.func f a b)).run P w = .ok () w := by
        unfold eqGuard; cases op <;> simp
      have he : (Op.equal ty .nilFunc (.func f a b)).run P w = .ok false w := by
        unfold Op.equal Op.maxDepth Op.equalIn
        simp [run_underlying hty]
      simp only [execOp, h, hρ, ha, hb, Sem.run_bind, hg, Result.andThen_ok]
      cases neg <;> simp at hop <;> subst hop <;> simp [binOp, he]
    · cases hv

theorem sound_feq {o : Oper} {op : BinOp} {ty u : TypeId} {x y : Operand} {neg : Bool} (h : o.op = .binOp op ty x y u) (hop : op = if neg then .neq else .eql) : Sound P o (.feq neg x y) :=
  sound_pure (fun t _ _ => feqV neg (ev t x) (ev t y)) (fun _ _ _ => rfl) fun w0 w B H t ρ v hρ _ hv => by
    left
    unfold feqV at hv
    split at hv
    · rename_i a b ha hb
      simp only [Option.some.injEq] at hv
      subst hv
      have hg : (eqGuard op ty x y (Value.float .f64 a) (Value.float .f64 b)).run P w = .ok () w := by
        unfold eqGuard; cases op <;> simp
      simp only [execOp, h, hρ, ha, hb, Sem.run_bind, hg, Result.andThen_ok]
      cases neg <;> simp at hop <;> subst hop <;> simp [binOp, Op.floatCmp, fEq] <;> rfl
    · cases hv

theorem sound_eqs {o : Oper} {op : BinOp} {ty u : TypeId} {x y : Operand} {neg : Bool} {e : TypeId} (h : o.op = .binOp op ty x y u) (hop : op = if neg then .neq else .eql) (hty : P.underlying ty = some (.slice e)) : Sound P o (.eqs neg x y) :=
  sound_pure (fun t _ _ => eqsV neg (ev t x) (ev t y)) (fun _ _ _ => rfl) fun w0 w B H t ρ v hρ _ hv => by
    left
    unfold eqsV at hv
    split at hv
    · rename_i a n c n' c' ha hb
      simp only [Option.some.injEq] at hv
      subst hv
      have hg : (eqGuard op ty x y (Value.slice a n c) (Value.slice none n' c')).run P w = .ok () w := by
        unfold eqGuard; cases op <;> simp
      have he : (Op.equal ty (.slice a n c) (.slice none n' c')).run P w = .ok a.isNone w := by
        unfold Op.equal Op.maxDepth Op.equalIn
        cases a <;> simp [run_underlying hty]
      simp only [execOp, h, hρ, ha, hb, Sem.run_bind, hg, Result.andThen_ok]
      cases neg <;> simp at hop <;> subst hop <;> cases a <;> simp [binOp, he]
    · cases hv

theorem sound_un {o : Oper} {op : UnOp} {ty : TypeId} {x : Operand} (h : o.op = .unOp op ty x) : Sound P o (.un op x) :=
  sound_pure (fun t _ _ => unV op (ev t x)) (fun _ _ _ => rfl) fun w0 w B H t ρ v hρ _ hv => by
    left
    unfold unV at hv
    split at hv
    · rename_i b he
      simp only [Option.some.injEq] at hv; subst hv
      simp [execOp, h, hρ, he, Op.unary]
    · rename_i k n he
      simp only [Option.some.injEq] at hv; subst hv
      simp [execOp, h, hρ, he, Op.unary, Op.intArith]
    · rename_i n he
      simp only [Option.some.injEq] at hv; subst hv
      simp [execOp, h, hρ, he, Op.unary, Op.intBits, IntKind.signed, IntKind.max, IntKind.bits]
      show IntKind.u64.wrap (((18446744073709551615#64 ^^^ BitVec.ofInt 64 n : BitVec 64).toNat : Nat) : Int) = _
      rw [BitVec.toNat_xor, BitVec.toNat_ofInt]; rfl
    · cases hv

theorem sound_conv {o : Oper} {a b : TypeId} {x : Operand} {k j : IntKind} (h : o.op = .convert a b x) (ha : P.underlying a = some (.int j)) (hb : P.underlying b = some (.int k)) : Sound P o (.conv k x) :=
  sound_pure (fun t _ _ => convV k (ev t x)) (fun _ _ _ => rfl) fun w0 w B H t ρ v hρ _ hv => by
    left
    unfold convV at hv
    split at hv
    · rename_i k' n he
      simp only [Option.some.injEq] at hv; subst hv
      simp [execOp, h, hρ, he, convert, run_underlying ha, run_underlying hb, Conv.intToInt]
    · cases hv

theorem run_part {ty : TypeId} {g : Bool} {n m off : Nat} {cs : Array Value} {v : Value} (hg : aggB P ty = some g) (hn : sizeO P ty = some n) (hm : m = bif g then n else 1) (hv : mkV g (tk cs.toList off m) = some v) (w : World) :
    (part ty cs off).run P w = .ok v w := by
  cases hr : tk cs.toList off m with
  | none => simp [mkV, hr] at hv
  | some r =>
    obtain ⟨hl, hc⟩ := tk_spec _ _ _ _ hr
    simp only [mkV, hr] at hv
    cases g with
    | true =>
      simp only [cond_true, Option.some.injEq] at hv hm
      subst hv hm
      simp only [part, Sem.run_bind, run_isAgg hg, Result.andThen_ok, if_true, run_sizeOf hn]
      have : cs.extract off (off + m) = r.toArray := by
        apply Array.ext'
        simp only [Array.toList_extract, List.extract]
        apply List.ext_getElem?
        intro i
        by_cases hi : i < m
        · have h1 : i < r.length := by omega
          have := hc i r[i] (by simp [h1])
          rw [List.getElem?_take, if_pos (by omega), List.getElem?_drop, this]
          simp [h1]
        · rw [List.getElem?_take, if_neg (by omega)]
          have : r.length ≤ i := by omega
          simp [this]
      simp [this]
    | false =>
      simp only [cond_false] at hv hm
      subst hm
      unfold one at hv
      split at hv
      · rename_i u
        simp only [Option.some.injEq] at hv
        subst hv
        have := hc 0 u (by simp)
        simp only [part, Sem.run_bind, run_isAgg hg, Result.andThen_ok, Bool.false_eq_true, if_false]
        simp only [Nat.add_zero, Array.getElem?_toList] at this
        simp [this]
      · cases hv

theorem sound_field {o : Oper} {ty : TypeId} {x : Operand} {i : Nat} {fs : Array Field} {f : Field} {g : Bool} {n m : Nat} (h : o.op = .field ty x i) (hty : P.underlying ty = some (.struct fs)) (hf : fs[i]? = some f)
    (hg : aggB P f.type = some g) (hn : sizeO P f.type = some n) (hm : m = bif g then n else 1) : Sound P o (.field g f.offset m x) :=
  sound_pure (fun t _ _ => fieldV g f.offset m (ev t x)) (fun _ _ _ => rfl) fun w0 w B H t ρ v hρ _ hv => by
    left
    unfold fieldV at hv
    split at hv
    · rename_i cs he
      simp [execOp, h, hρ, he, Instr.field, run_underlying hty, hf, asAgg, run_part hg hn hm hv]
    · cases hv

theorem sound_idxA {o : Oper} {ty e : TypeId} {x i : Operand} {len : Nat} {g : Bool} {n : Nat} (h : o.op = .index ty x i) (hty : P.underlying ty = some (.array len e))
    (hg : aggB P e = some g) (hn : sizeO P e = some n) : Sound P o (.idxA g n len x i) :=
  sound_pure (fun t _ _ => idxAV g n len (ev t x) (ev t i)) (fun _ _ _ => rfl) fun w0 w B H t ρ v hρ _ hv => by
    left
    unfold idxAV at hv
    split at hv
    · rename_i cs k j he hi
      split at hv
      · rename_i hb
        have hb2 : j < (len : Int) := by omega
        simp [execOp, h, hρ, he, hi, Instr.index, asIntOf, run_underlying hty, hb.1, hb2, run_sizeOf hn, run_part hg hn rfl hv]
      · cases hv
    · cases hv

theorem sound_faddr {o : Oper} {ty : TypeId} {x : Operand} {i : Nat} {fs : Array Field} {f : Field} {n : Nat} (h : o.op = .fieldAddr ty x i) (hty : P.underlying ty = some (.struct fs)) (hf : fs[i]? = some f)
    (hn : sizeO P f.type = some (n + 1)) : Sound P o (.faddr f.offset x) :=
  sound_pure (fun t _ _ => faddrV f.offset (ev t x)) (fun _ _ _ => rfl) fun w0 w B H t ρ v hρ _ hv => by
    left
    unfold faddrV at hv
    split at hv
    · rename_i b off he
      simp only [Option.some.injEq] at hv; subst hv
      simp [execOp, h, hρ, he, Instr.fieldAt, run_underlying hty, hf, Instr.sureAddr, fieldPlace, run_sizeOf hn, addr_add]
    · cases hv

theorem sound_iaddrS {o : Oper} {ty e : TypeId} {x i : Operand} {n : Nat} (h : o.op = .indexAddr ty x i) (hty : P.underlying ty = some (.slice e)) (hn : sizeO P e = some n) : Sound P o (.iaddrS n x i) :=
  sound_pure (fun t _ _ => iaddrSV n (ev t x) (ev t i)) (fun _ _ _ => rfl) fun w0 w B H t ρ v hρ _ hv => by
    left
    unfold iaddrSV at hv
    split at hv
    · rename_i b off len cap k j he hi
      split at hv
      · rename_i hb
        simp only [Option.some.injEq] at hv; subst hv
        have hb2 : j < (len : Int) := by omega
        simp [execOp, h, hρ, he, hi, Instr.indexAt, asIntOf, run_underlying hty, hb.1, hb2, run_sizeOf hn, addr_add]
      · cases hv
    · cases hv

theorem sound_iaddrA {o : Oper} {ty e : TypeId} {x i : Operand} {len n : Nat} (h : o.op = .indexAddr ty x i) (hty : P.underlying ty = some (.array len e)) (hn : sizeO P e = some n) : Sound P o (.iaddrA n len x i) :=
  sound_pure (fun t _ _ => iaddrAV n len (ev t x) (ev t i)) (fun _ _ _ => rfl) fun w0 w B H t ρ v hρ _ hv => by
    left
    unfold iaddrAV at hv
    split at hv
    · rename_i b off k j he hi
      split at hv
      · rename_i hb
        simp only [Option.some.injEq] at hv; subst hv
        have hb2 : j < (len : Int) := by omega
        simp [execOp, h, hρ, he, hi, Instr.indexAt, asIntOf, run_underlying hty, hb.1, hb2, run_sizeOf hn, addr_add, Instr.sureAddr]
      · cases hv
    · cases hv

theorem sound_ext {o : Oper} {x : Operand} {i : Nat} (h : o.op = .extract x i) : Sound P o (.ext x i) :=
  sound_pure (fun t _ _ => extV i (ev t x)) (fun _ _ _ => rfl) fun w0 w B H t ρ v hρ _ hv => by
    left
    unfold extV at hv
    split at hv
    · rename_i vs he
      simp [execOp, h, hρ, he, Instr.extract, hv]
    · cases hv

theorem sound_ifc {o : Oper} {ty : TypeId} {x : Operand} {d : TypeDesc} (h : o.op = .makeInterface ty x) (hd : P.underlying ty = some d) (hi : ∀ m, d ≠ .interface m) : Sound P o (.ifc ty x) :=
  sound_pure (fun t _ _ => some (.iface ty (ev t x))) (fun _ _ _ => rfl) fun w0 w B H t ρ v hρ _ hv => by
    left
    simp only [Option.some.injEq] at hv; subst hv
    simp only [execOp, h, hρ, Instr.makeInterface, Sem.run_bind, run_underlying hd, Result.andThen_ok]
    cases d <;> first | (exact absurd rfl (hi _)) | simp

theorem evs_map (t : List Value) (l : List Operand) : evs t l = l.map (ev t) := by
  induction l with
  | nil => rfl
  | cons x l ih => simp [evs, ih]
theorem sound_fn {o : Oper} {f : Fn} {a b : Array Operand} (h : o.op = .makeFunc f a b) : Sound P o (.fn f a.toList b.toList) :=
  sound_pure (fun t _ _ => some (.func f (evs t a.toList).toArray (evs t b.toList).toArray)) (fun _ _ _ => rfl) fun w0 w B H t ρ v hρ _ hv => by
    left
    simp only [Option.some.injEq] at hv; subst hv
    have : ρ = ev t := funext hρ
    subst this
    simp only [execOp, h, Instr.makeFunc, evs_map]
    simp
    constructor <;> (apply Array.ext'; simp)

theorem resolve_builtin {b : Builtin} {args : Array Operand} {ts : Array TypeId} {ρ : Operand → Value} {ty : TypeId} : (resolve ρ { callee := .builtin b, args, argTypes := ts } ty) = pure { target := .builtin b ts ty (args.map fun | .const _ => true | _ => false), args := args.map ρ } := rfl

theorem sound_len {o : Oper} {c : Call} {x : Operand} {ty : TypeId} {str : Bool} (h : o.op = .call c) (hc : c.callee = .builtin .len) (ha : c.args.toList = [x]) (ht : c.argTypes[0]? = some ty)
    (hty : (str = true ∧ P.underlying ty = some .string) ∨ (str = false ∧ ∃ e, P.underlying ty = some (.slice e))) : Sound P o (.len str x) :=
  sound_pure (fun t _ _ => lenV str (ev t x)) (fun _ _ _ => rfl) fun w0 w B H t ρ v hρ _ hv => by
    left
    obtain ⟨callee, args, ts⟩ := c
    have hargs : args = #[x] := by apply Array.ext'; simpa using ha
    simp only at hc ht
    subst hc hargs
    rcases hty with ⟨rfl, hty⟩ | ⟨rfl, e, hty⟩
    · unfold lenV at hv
      split at hv
      · rename_i hq _; cases hq
      · rename_i s he
        simp only [Option.some.injEq] at hv; subst hv
        simp [execOp, h, resolve_builtin, hρ, he, invoke, builtin, Builtin.len_, ht, run_underlying hty, goInt]
      · cases hv
    · unfold lenV at hv
      split at hv
      · rename_i a n cap he
        simp only [Option.some.injEq] at hv; subst hv
        simp [execOp, h, resolve_builtin, hρ, he, invoke, builtin, Builtin.len_, ht, run_underlying hty, goInt]
      · rename_i hq _; cases hq
      · cases hv

theorem sound_cap {o : Oper} {c : Call} {x : Operand} {ty e : TypeId} (h : o.op = .call c) (hc : c.callee = .builtin .cap) (ha : c.args.toList = [x]) (ht : c.argTypes[0]? = some ty)
    (hty : P.underlying ty = some (.slice e)) : Sound P o (.cap x) :=
  sound_pure (fun t _ _ => capV (ev t x)) (fun _ _ _ => rfl) fun w0 w B H t ρ v hρ _ hv => by
    left
    obtain ⟨callee, args, ts⟩ := c
    have hargs : args = #[x] := by apply Array.ext'; simpa using ha
    simp only at hc ht
    subst hc hargs
    unfold capV at hv
    split at hv
    · rename_i a n cap he
      simp only [Option.some.injEq] at hv; subst hv
      simp [execOp, h, resolve_builtin, hρ, he, invoke, builtin, Builtin.cap_, ht, run_underlying hty, goInt]
    · cases hv

theorem x_empty : Extern.allNextRows.lookup "" = none := by kernel_rfl
theorem ext_none {fn : Func} {s : String} (hn : fn.name = s) (ho : fn.origin = "") (h : Extern.allNextRows.lookup s = none) : Extern.findNext fn = none := by
  unfold Extern.findNext
  simp only [hn, ho, h, x_empty]
  rfl
theorem ext_row {fn : Func} {s : String} {f : Array Value → Sem Value} (hn : fn.name = s) (h1 : Extern.allGenericRows.lookup s = none) (h2 : Extern.allTypedRows.lookup s = none) (h3 : Extern.allRows.lookup s = some f) : Extern.find fn = some f := by
  unfold Extern.find
  simp only [hn, h1, h2, h3]
  rfl
theorem x_from : Extern.allNextRows.lookup "math.Float64frombits" = none ∧ Extern.allGenericRows.lookup "math.Float64frombits" = none ∧ Extern.allTypedRows.lookup "math.Float64frombits" = none := by
  refine ⟨?_, ?_, ?_⟩ <;> kernel_rfl
theorem x_from' : Extern.allRows.lookup "math.Float64frombits" = some Extern.MathFloatBits.float64frombits := by kernel_rfl
theorem x_bits : Extern.allNextRows.lookup "math.Float64bits" = none ∧ Extern.allGenericRows.lookup "math.Float64bits" = none ∧ Extern.allTypedRows.lookup "math.Float64bits" = none := by
  refine ⟨?_, ?_, ?_⟩ <;> kernel_rfl
theorem x_bits' : Extern.allRows.lookup "math.Float64bits" = some Extern.MathFloatBits.float64bits := by kernel_rfl
theorem callFunc_ext {k : FuncId} {fn : Func} {f : Array Value → Sem Value} {args : Array Value} (hf : P.funcs[k]? = some fn) (hname : (fn.name == "runtime.NumGoroutine") = false) (hb : fn.body.isNone = true) (hn : Extern.findNext fn = none) (he : Extern.find fn = some f) {v : Value} (hr : (f args).run P w = .ok v w) :
    (callFunc k args).run P w = .ok (.value v) w := by
  have h1 : ¬ fn.name = "runtime.NumGoroutine" := by simpa using hname
  have h2 : fn.body = none := by simpa using hb
  simp [callFunc, hf, h1, h2, hn, he, hr]
theorem sound_fbits {o : Oper} {c : Call} {f x : Operand} {b : Bool} (h : o.op = .call c) (hc : c.callee = .value f) (ha : c.args.toList = [x]) (hx : extOf P f = some b) : Sound P o (.fbits b x) :=
  sound_pure (fun t _ _ => fbV b (ev t x)) (fun _ _ _ => rfl) fun w0 w B H t ρ v hρ _ hv => by
    left
    obtain ⟨callee, args, ts⟩ := c
    have hargs : args = #[x] := by apply Array.ext'; simpa using ha
    simp only at hc
    subst hc hargs
    unfold extOf at hx
    split at hx
    · rename_i k
      split at hx
      · rename_i fn hf
        split at hx
        · rename_i hb
          have hrun : (execOp ρ o).run P w = (callFunc k #[ev t x]).run P w := by
            have hfn : ρ (.func k) = .func (.func k) #[] #[] := hρ _
            simp only [execOp, h, resolve, hfn, Deferred.ofValue, Sem.run_bind, Sem.run_pure, Result.andThen_ok, invoke]
            simp [hρ x]
          rw [hrun]
          split at hx
          · rename_i hn
            simp only [Option.some.injEq] at hx; subst hx
            unfold fbV at hv
            split at hv
            · rename_i n he
              simp only [Option.some.injEq] at hv; subst hv
              exact callFunc_ext hf (by rw [hn.1]; decide) hb (ext_none hn.1 hn.2 x_from.1) (ext_row hn.1 x_from.2.1 x_from.2.2 x_from') (by rw [he]; rfl)
            · rename_i hq _; cases hq
            · cases hv
          · split at hx
            · rename_i hn
              simp only [Option.some.injEq] at hx; subst hx
              unfold fbV at hv
              split at hv
              · rename_i hq _; cases hq
              · rename_i n he
                simp only [Option.some.injEq] at hv; subst hv
                exact callFunc_ext hf (by rw [hn.1]; decide) hb (ext_none hn.1 hn.2 x_bits.1) (ext_row hn.1 x_bits.2.1 x_bits.2.2 x_bits') (by rw [he]; rfl)
              · cases hv
            · cases hx
        · cases hx
      · cases hx
    · cases hx

theorem sound_mm {o : Oper} {c : Call} {mx : Bool} (h : o.op = .call c) (hc : c.callee = .builtin (if mx then .max else .min)) : Sound P o (.mm mx c.args.toList) :=
  sound_pure (fun t _ _ => mmV mx (evs t c.args.toList)) (fun _ _ _ => rfl) fun w0 w B H t ρ v hρ _ hv => by
    left
    obtain ⟨callee, args, ts⟩ := c
    simp only at hc hv
    subst hc
    have : ρ = ev t := funext hρ
    subst this
    unfold mmV at hv
    split at hv
    · rename_i a b he
      rw [evs_map] at he
      have hmap : args.map (ev t) = #[a, b] := by apply Array.ext'; simpa using he
      unfold mm2 at hv
      split at hv
      · rename_i k p k' q
        simp only [Option.some.injEq] at hv; subst hv
        cases mx
        · simp [execOp, h, resolve_builtin, hmap, invoke, builtin, run_min_int2]
        · simp [execOp, h, resolve_builtin, hmap, invoke, builtin, run_max_int2]
      · cases hv
    · cases hv
end Go.Proofs.YtbpaekbjpapgeaaGreatDoor.K
namespace Go.Proofs.YtbpaekbjpapgeaaGreatDoor.K
variable {P : Program} {w0 w : World} {B : OH} {H : HL} {t : List Value} {G : Env}

theorem andO_some {x y : Option Bool} {r : Bool} (h : andO x y = some r) : ∃ a b, x = some a ∧ y = some b ∧ r = (a && b) := by
  unfold andO at h
  split at h
  · rename_i a b
    simp only [Option.some.injEq] at h
    exact ⟨a, b, rfl, rfl, h.symm⟩
  · cases h
theorem eqL_cons {a : Leaf} {l : List Leaf} {X Y : List Value} {r : Bool} (h : eqL (a :: l) X Y = some r) : ∃ x xs y ys r0 r', X = x :: xs ∧ Y = y :: ys ∧ leafEq a x y = some r0 ∧ eqL l xs ys = some r' ∧ r = (r0 && r') := by
  cases X with
  | nil => simp [eqL] at h
  | cons x xs =>
    cases Y with
    | nil => simp [eqL] at h
    | cons y ys =>
      simp only [eqL] at h
      obtain ⟨r0, r', h1, h2, h3⟩ := andO_some h
      exact ⟨x, xs, y, ys, r0, r', rfl, rfl, h1, h2, h3⟩
theorem eqL_nil {X Y : List Value} {r : Bool} (h : eqL [] X Y = some r) : X = [] ∧ Y = [] ∧ r = true := by
  cases X <;> cases Y <;> simp_all [eqL]
theorem eqL_one {a : Leaf} {X Y : List Value} {r : Bool} (h : eqL [a] X Y = some r) : ∃ x y, X = [x] ∧ Y = [y] ∧ leafEq a x y = some r := by
  obtain ⟨x, xs, y, ys, r0, r', rfl, rfl, h1, h2, rfl⟩ := eqL_cons h
  obtain ⟨rfl, rfl, rfl⟩ := eqL_nil h2
  exact ⟨x, y, rfl, rfl, by simpa using h1⟩
theorem eqL_len : ∀ {l : List Leaf} {xs ys : List Value} {r : Bool}, eqL l xs ys = some r → xs.length = l.length ∧ ys.length = l.length
  | [], _, _, _, h => by obtain ⟨rfl, rfl, _⟩ := eqL_nil h; exact ⟨rfl, rfl⟩
  | a :: l, _, _, _, h => by
    obtain ⟨x, xs, y, ys, r0, r', rfl, rfl, h1, h2, rfl⟩ := eqL_cons h
    obtain ⟨h3, h4⟩ := eqL_len h2
    simp [h3, h4]
theorem eqL_split : ∀ {l m : List Leaf} {xs ys : List Value} {r : Bool}, eqL (l ++ m) xs ys = some r → ∃ x1 x2 y1 y2 r1 r2, xs = x1 ++ x2 ∧ ys = y1 ++ y2 ∧ eqL l x1 y1 = some r1 ∧ eqL m x2 y2 = some r2 ∧ r = (r1 && r2)
  | [], m, xs, ys, r, h => ⟨[], xs, [], ys, true, r, rfl, rfl, rfl, h, by simp⟩
  | a :: l, m, _, _, r, h => by
    rw [List.cons_append] at h
    obtain ⟨x, xs, y, ys, r0, r', rfl, rfl, h1, h2, rfl⟩ := eqL_cons h
    obtain ⟨x1, x2, y1, y2, r1, r2, rfl, rfl, q1, q2, rfl⟩ := eqL_split h2
    exact ⟨x :: x1, x2, y :: y1, y2, r0 && r1, r2, rfl, rfl, by simp [eqL, h1, q1, andO], q2, by rw [Bool.and_assoc]⟩
theorem tk_mid : ∀ (A xs C : List Value), tk (A ++ (xs ++ C)) A.length xs.length = some xs
  | [], [], C => by cases C <;> rfl
  | [], x :: xs, C => by
    have := tk_mid [] xs C
    simp only [List.nil_append, List.length_nil] at this
    simp [tk, this]
  | a :: A, xs, C => by
    have := tk_mid A xs C
    simpa [tk] using this
theorem leaves_agg {d : Nat} {ty : TypeId} {l : List Leaf} (h : leaves P d ty = some l) : ∃ g, aggB P ty = some g ∧ (g = false → l.length = 1) := by
  cases d with
  | zero => simp [leaves] at h
  | succ d =>
    simp only [leaves] at h
    unfold aggB
    split at h <;> rename_i hu <;> (try rw [hu])
    · simp only [Option.some.injEq] at h; subst h; exact ⟨false, rfl, fun _ => rfl⟩
    · simp only [Option.some.injEq] at h; subst h; exact ⟨false, rfl, fun _ => rfl⟩
    · simp only [Option.some.injEq] at h; subst h; exact ⟨false, rfl, fun _ => rfl⟩
    · exact ⟨true, rfl, fun h => by cases h⟩
    · exact ⟨true, rfl, fun h => by cases h⟩
    · cases h
def EqOk (P : Program) (D : Nat) (ty : TypeId) (l : List Leaf) : Prop :=
  ∀ (w : World) (g : Bool) (x y : Value) (xs ys : List Value) (r : Bool), aggB P ty = some g → mkV g (some xs) = some x → mkV g (some ys) = some y → eqL l xs ys = some r → (Op.equalIn D ty x y).run P w = .ok r w
theorem part_mid {ty : TypeId} {g : Bool} {A xs C : List Value} {n : Nat} (hg : aggB P ty = some g) (hn : sizeO P ty = some n) (hl : xs.length = n) (h1 : g = false → n = 1) (w : World) :
    ∃ v, mkV g (some xs) = some v ∧ (part ty (A ++ (xs ++ C)).toArray A.length).run P w = .ok v w := by
  have hm : (bif g then n else 1) = xs.length := by
    cases g with
    | true => simp [hl]
    | false => simp [hl, h1 rfl]
  have ht := tk_mid A xs C
  cases g with
  | true => exact ⟨.agg xs.toArray, rfl, run_part hg hn rfl (by rw [hm]; simp [mkV, ht]) w⟩
  | false =>
    have hx : xs.length = 1 := by rw [hl, h1 rfl]
    match xs, hx with
    | [v], _ => exact ⟨v, rfl, run_part hg hn rfl (by rw [hm, show ([v] : List Value).length = 1 from rfl, show (A ++ ([v] ++ C)).toArray.toList = A ++ ([v] ++ C) from rfl]; rw [show ([v] : List Value).length = 1 from rfl] at ht; rw [ht]; rfl) w⟩
theorem items_ok {D : Nat} {e : TypeId} {l : List Leaf} {g : Bool} (hE : EqOk P D e l) (hg : aggB P e = some g) (h1 : g = false → l.length = 1) (hn : sizeO P e = some l.length) : ∀ (n k : Nat) (w : World) (A xs C A' ys C' : List Value) (r : Bool),
    A.length = k * l.length → A'.length = k * l.length → eqL ((List.replicate n l).flatten) xs ys = some r →
    (Op.eqItems D e l.length (A ++ (xs ++ C)).toArray (A' ++ (ys ++ C')).toArray (List.range' k n)).run P w = .ok r w
  | 0, k, w, A, xs, C, A', ys, C', r, ha, ha', h => by
    simp only [List.replicate_zero, List.flatten_nil] at h
    obtain ⟨hx, hy⟩ := eqL_len h
    have e1 := List.length_eq_zero_iff.1 hx
    have e2 := List.length_eq_zero_iff.1 hy
    subst e1 e2
    simp only [eqL, Option.some.injEq] at h
    subst h
    simp [Op.eqItems]
  | n + 1, k, w, A, xs, C, A', ys, C', r, ha, ha', h => by
    rw [List.replicate_succ, List.flatten_cons] at h
    obtain ⟨x1, x2, y1, y2, r1, r2, rfl, rfl, q1, q2, rfl⟩ := eqL_split h
    obtain ⟨l1, l2⟩ := eqL_len q1
    obtain ⟨v, hv, pv⟩ := part_mid (A := A) (xs := x1) (C := x2 ++ C) hg hn l1 h1 w
    obtain ⟨u, hu, pu⟩ := part_mid (A := A') (xs := y1) (C := y2 ++ C') hg hn l2 h1 w
    have ih := items_ok hE hg h1 hn n (k + 1) w (A ++ x1) x2 C (A' ++ y1) y2 C' r2 (by simp [ha, l1, Nat.add_mul]) (by simp [ha', l2, Nat.add_mul]) q2
    rw [ha] at pv
    rw [ha'] at pu
    simp only [List.range'_succ, Op.eqItems, Sem.run_bind, List.append_assoc, pv, pu, Result.andThen_ok, hE w g v u x1 y1 r1 hg hv hu q1]
    cases r1
    · simp
    · simpa [List.append_assoc] using ih
theorem eq_leaves : ∀ (d : Nat), (∀ ty l, leaves P d ty = some l → ∀ D, d ≤ D → EqOk P D ty l) ∧
    (∀ fs o l, leavesF P d fs o = some l → ∀ D, d ≤ D → ∀ (w : World) (A xs C A' ys C' : List Value) (r : Bool), A.length = o → A'.length = o → eqL l xs ys = some r → (Op.eqFields D (A ++ (xs ++ C)).toArray (A' ++ (ys ++ C')).toArray fs).run P w = .ok r w) := by
  intro d
  induction d with
  | zero =>
    refine ⟨fun ty l h => by simp [leaves] at h, fun fs o l h D hD w A xs C A' ys C' r ha ha' hr => ?_⟩
    cases fs with
    | nil =>
      simp only [leavesF, Option.some.injEq] at h
      subst h
      cases xs <;> cases ys <;> simp [eqL] at hr
      subst hr; simp [Op.eqFields]
    | cons f fs => simp [leavesF] at h
  | succ d ih =>
    obtain ⟨ihP, ihQ⟩ := ih
    refine ⟨fun ty l h D hD w g x y xs ys r hg hx hy hr => ?_, fun fs o l h D hD w A xs C A' ys C' r ha ha' hr => ?_⟩
    · obtain ⟨D, rfl⟩ : ∃ D', D = D' + 1 := ⟨D - 1, by omega⟩
      have hD' : d ≤ D := by omega
      simp only [leaves] at h
      split at h <;> rename_i hu
      · simp only [Option.some.injEq] at h; subst h
        obtain rfl : g = false := by simpa [aggB, hu] using hg.symm
        obtain ⟨a, b, rfl, rfl, hl⟩ := eqL_one hr
        clear hr
        simp only [mkV, cond_false, one, Option.some.injEq] at hx hy
        subst hx hy
        unfold leafEq at hl
        split at hl <;> simp_all
        subst hl
        simp [Op.equalIn, run_underlying hu]
      · simp only [Option.some.injEq] at h; subst h
        obtain rfl : g = false := by simpa [aggB, hu] using hg.symm
        obtain ⟨a, b, rfl, rfl, hl⟩ := eqL_one hr
        clear hr
        simp only [mkV, cond_false, one, Option.some.injEq] at hx hy
        subst hx hy
        unfold leafEq at hl
        split at hl <;> simp_all
        obtain ⟨rfl, rfl⟩ := hl
        simp [Op.equalIn, run_underlying hu]
      · simp only [Option.some.injEq] at h; subst h
        obtain rfl : g = false := by simpa [aggB, hu] using hg.symm
        obtain ⟨a, b, rfl, rfl, hl⟩ := eqL_one hr
        clear hr
        simp only [mkV, cond_false, one, Option.some.injEq] at hx hy
        subst hx hy
        unfold leafEq at hl
        split at hl <;> simp_all
        subst hl
        simp [Op.equalIn, run_underlying hu, beq_toListBytes]
      · rename_i fs
        split at h
        · cases h
        · rename_i hs
          obtain rfl : g = true := by simpa [aggB, hu] using hg.symm
          simp only [mkV, cond_true, Option.some.injEq] at hx hy
          subst hx hy
          have hfs : P.fieldsOf ty = fs := by simp [Program.fieldsOf, hu]
          rw [run_equalIn_struct w D ty _ _ (by rw [hfs]; exact hu) (by simpa using hs), hfs]
          have := ihQ fs.toList 0 l h D hD' w [] xs [] [] ys [] r rfl rfl hr
          simpa using this
      · rename_i n e
        split at h
        · rename_i le hle
          split at h
          · rename_i hn
            simp only [Option.some.injEq] at h; subst h
            obtain rfl : g = true := by simpa [aggB, hu] using hg.symm
            simp only [mkV, cond_true, Option.some.injEq] at hx hy
            subst hx hy
            obtain ⟨ge, hge, hg1⟩ := leaves_agg hle
            have hsz : P.cellsOf e = le.length := by
              unfold sizeO at hn
              simp [Program.cellsOf, hn]
            obtain ⟨i, hi⟩ : ∃ i, P.info? e = some i := by
              unfold sizeO at hn
              cases hi : P.info? e with
              | none => simp [hi] at hn
              | some i => exact ⟨i, rfl⟩
            rw [run_equalIn_array w D _ _ hu hi, hsz, List.range_eq_range']
            have := items_ok (ihP e le hle D hD') hge hg1 hn n 0 w [] xs [] [] ys [] r (by simp) (by simp) hr
            simpa using this
          · cases h
        · cases h
      · cases h
    · cases fs with
      | nil =>
        simp only [leavesF, Option.some.injEq] at h
        subst h
        cases xs <;> cases ys <;> simp [eqL] at hr
        subst hr; simp [Op.eqFields]
      | cons f fs =>
        simp only [leavesF] at h
        split at h
        · rename_i lf hlf
          split at h
          · rename_i hc
            split at h
            · rename_i m hm
              simp only [Option.some.injEq] at h; subst h
              obtain ⟨g, hg, h1⟩ := leaves_agg hlf
              obtain ⟨x1, x2, y1, y2, r1, r2, rfl, rfl, q1, q2, rfl⟩ := eqL_split hr
              obtain ⟨l1, l2⟩ := eqL_len q1
              obtain ⟨v, hv, pv⟩ := part_mid (A := A) (xs := x1) (C := x2 ++ C) hg hc.2.1 l1 h1 w
              obtain ⟨u, hu, pu⟩ := part_mid (A := A') (xs := y1) (C := y2 ++ C') hg hc.2.1 l2 h1 w
              have ih := ihQ fs (o + lf.length) m hm D (by omega) w (A ++ x1) x2 C (A' ++ y1) y2 C' r2 (by simp [ha, l1]) (by simp [ha', l2]) q2
              rw [ha] at pv
              rw [ha'] at pu
              rw [← hc.1] at pv pu
              simp only [Op.eqFields, hc.2.2, ne_eq, not_false_eq_true, if_true, Sem.run_bind, List.append_assoc, pv, pu, Result.andThen_ok, ihP f.type lf hlf D (by omega) w g v u x1 y1 r1 hg hv hu q1]
              cases r1
              · simp
              · simpa [List.append_assoc] using ih
            · cases h
          · cases h
        · cases h

theorem sound_eqA {o : Oper} {op : BinOp} {ty u : TypeId} {x y : Operand} {neg : Bool} {ls : List Leaf} (h : o.op = .binOp op ty x y u) (hop : op = if neg then .neq else .eql) (hty : aggB P ty = some true) (hg : P.eqGuardType P.depth ty = false) (hl : leaves P 20 ty = some ls) : Sound P o (.eqA neg ls x y) :=
  sound_pure (fun t _ _ => eqAV neg ls (ev t x) (ev t y)) (fun _ _ _ => rfl) fun w0 w B H t ρ v hρ _ hv => by
    left
    unfold eqAV at hv
    split at hv
    · rename_i xs ys ha hb
      split at hv
      · rename_i r hr
        simp only [Option.some.injEq] at hv
        subst hv
        have hgd : (eqGuard op ty x y (Value.agg xs) (Value.agg ys)).run P w = .ok () w := by
          unfold eqGuard
          cases neg <;> simp at hop <;> subst hop <;> simp [hg]
        have he : (Op.equal ty (.agg xs) (.agg ys)).run P w = .ok r w := (eq_leaves 20).1 ty ls hl 10000 (by decide) w true _ _ xs.toList ys.toList r hty (by simp [mkV]) (by simp [mkV]) hr
        simp only [execOp, h, hρ, ha, hb, Sem.run_bind, hgd, Result.andThen_ok]
        cases neg <;> simp at hop <;> subst hop
        · simp [binOp, he]
        · simp [binOp, he]
      · cases hv
    · cases hv
end Go.Proofs.YtbpaekbjpapgeaaGreatDoor.K
namespace Go.Proofs.YtbpaekbjpapgeaaGreatDoor.K
variable {P : Program} {w0 w : World} {B : OH} {H : HL} {t : List Value} {G : Env}

theorem sound_bad {o : Oper} : Sound P o .bad := by
  intro w0 w B H t G ρ Q hρ hk h0 hQ
  exact (h0 (hQ _ (good_of hk))).elim

theorem setAll (off : Nat) : ∀ (vs : List Value) (j : Nat) (A : Array Value), off + j + vs.length ≤ A.size →
    ((vs.zipIdx j).foldl (fun cs (x : Value × Nat) => cs.setIfInBounds (off + x.2) x.1) A).size = A.size ∧
    ∀ i, ((vs.zipIdx j).foldl (fun cs (x : Value × Nat) => cs.setIfInBounds (off + x.2) x.1) A)[i]? = if off + j ≤ i ∧ i < off + j + vs.length then vs[i - (off + j)]? else A[i]?
  | [], j, A, _ => ⟨rfl, fun i => by rw [if_neg (by simp)]; rfl⟩
  | v :: vs, j, A, h => by
    simp only [List.length_cons] at h
    obtain ⟨h1, h2⟩ := setAll off vs (j + 1) (A.setIfInBounds (off + j) v) (by simp; omega)
    simp only [List.zipIdx_cons, List.foldl_cons]
    refine ⟨by rw [h1]; simp, fun i => ?_⟩
    rw [h2 i]
    by_cases hi : off + j = i
    · subst hi
      rw [if_neg (by omega), if_pos (by simp)]
      simp [show off + j < A.size by omega]
    · by_cases hc : off + (j + 1) ≤ i ∧ i < off + (j + 1) + vs.length
      · rw [if_pos hc, if_pos (by simp; omega), show i - (off + j) = (i - (off + (j + 1))) + 1 by omega]
        simp
      · rw [if_neg hc, if_neg (by simp; omega)]
        simp [hi]
theorem setAll_wr {A : Array Value} {off : Nat} {vs r : List Value} (h : wr A.toList off vs = some r) : (vs.toArray.zipIdx.foldl (fun cs (x : Value × Nat) => cs.setIfInBounds (off + x.2) x.1) A) = r.toArray := by
  have hf := wr_fits _ _ _ _ h
  have hl := wr_length _ _ _ _ h
  obtain ⟨h1, h2⟩ := setAll off vs 0 A (by simpa using hf)
  rw [← Array.foldl_toList, Array.toList_zipIdx]
  apply Array.ext_getElem?
  intro i
  rw [h2 i]
  simp only [Nat.add_zero, List.getElem?_toArray, wr_get _ _ _ _ h, Array.getElem?_toList]
theorem fill_ok (place : Nat → Option (Nat × Nat)) {t : List Value} : ∀ (parts : List (Nat × Operand)) (ps : List (Nat × Nat × Operand)) (A : Array Value) (z : List Value),
    (∀ i, i < parts.length → ∃ k x off n, parts[i]? = some (k, x) ∧ ps[i]? = some (off, n, x) ∧ place k = some (off, n)) → ps.length = parts.length → fillV t ps (some A.toList) = some z →
    Instr.fill place A (parts.map fun x => (x.1, ev t x.2)) = some z.toArray
  | [], [], A, z, _, _, h => by
    simp only [fillV, Option.some.injEq] at h
    subst h
    simp [Instr.fill]
  | [], _ :: _, _, _, _, hl, _ => by cases hl
  | _ :: _, [], _, _, _, hl, _ => by cases hl
  | (k, x) :: parts, (off, n, x') :: ps, A, z, hp, hl, h => by
    obtain ⟨k', x1, off', n', e1, e2, e3⟩ := hp 0 (by simp)
    simp only [List.getElem?_cons_zero, Option.some.injEq, Prod.mk.injEq] at e1 e2
    obtain ⟨rfl, rfl⟩ := e1
    obtain ⟨rfl, rfl, rfl⟩ := e2
    simp only [fillV] at h
    split at h
    · rename_i hs
      cases hw : wr A.toList off (ev t x').cells.toList with
      | none => rw [hw] at h; cases ps <;> simp [fillV] at h
      | some r =>
        rw [hw] at h
        have hf := wr_fits _ _ _ _ hw
        have ih := fill_ok place parts ps r.toArray z (fun i hi => by simpa using hp (i + 1) (by simpa using hi)) (by simpa using hl) (by simpa using h)
        have hsz : ¬ (decide ((ev t x').cells.size ≠ n) || decide (off + (ev t x').cells.size > A.size)) = true := by
          simp [hs] at hf ⊢; omega
        simp only [List.map_cons, Instr.fill, e3]
        have h2 := setAll_wr hw
        rw [Array.toArray_toList] at h2
        simp only [ne_eq, gt_iff_lt] at hsz
        rw [if_neg (by simpa using hsz), h2]
        exact ih
    · cases ps <;> simp [fillV] at h
theorem fill_arr {t : List Value} (s : Nat) {parts : List (Nat × Operand)} {A : Array Value} {z : List Value} (h : fillV t (parts.map fun (i, x) => (i * s, s, x)) (some A.toList) = some z) :
    Instr.fill (fun i => some (i * s, s)) A (parts.map fun x => (x.1, ev t x.2)) = some z.toArray :=
  fill_ok _ parts _ A z (fun i hi => by
    have e : parts[i]? = some parts[i] := List.getElem?_eq_getElem hi
    exact ⟨parts[i].1, parts[i].2, _, _, e, by rw [List.getElem?_map, e]; rfl, rfl⟩) (by simp) h
theorem run_mapA {α β : Type} {f : α → Sem β} {g : α → β} {P : Program} {w : World} : ∀ (l : List α), (∀ x ∈ l, (f x).run P w = .ok (g x) w) → (l.mapM f).run P w = .ok (l.map g) w
  | [], _ => by simp
  | x :: l, h => by
    rw [List.mapM_cons]
    simp only [Sem.run_bind, h x List.mem_cons_self, Result.andThen_ok, run_mapA l (fun y hy => h y (List.mem_cons_of_mem _ hy))]
    simp
theorem run_mapArr {α β : Type} {f : α → Sem β} {g : α → β} {P : Program} {w : World} (l : Array α) (h : ∀ x ∈ l, (f x).run P w = .ok (g x) w) : (l.mapM f).run P w = .ok (l.map g) w := by
  rw [Array.mapM_eq_mapM_toList]
  have := run_mapA (f := f) (g := g) (P := P) (w := w) l.toList (fun x hx => h x (by simpa using hx))
  rw [map_eq_pure_bind, Sem.run_bind, this]
  simp only [Result.andThen_ok, Sem.run_pure]
  congr 1
  apply Array.ext'
  simp
theorem mapM_some {α β : Type} {f : α → Option β} : ∀ {l : List α} {r : List β}, l.mapM f = some r → r.length = l.length ∧ ∀ i, i < l.length → ∃ a b, l[i]? = some a ∧ r[i]? = some b ∧ f a = some b
  | [], r, h => by simp at h; subst h; simp
  | a :: l, r, h => by
    rw [List.mapM_cons] at h
    simp only [bind, Option.bind_eq_some_iff, pure, Option.some.injEq] at h
    obtain ⟨b, hb, r', hr, rfl⟩ := h
    obtain ⟨h1, h2⟩ := mapM_some hr
    refine ⟨by simp [h1], fun i hi => ?_⟩
    cases i with
    | zero => exact ⟨a, b, rfl, rfl, hb⟩
    | succ i => simpa using h2 i (by simpa using hi)

theorem map_parts {ps : Array (Nat × Operand)} {ρ : Operand → Value} (hρ : ∀ x, ρ x = ev t x) : (ps.map fun x => (x.1, ρ x.2)).toList = ps.toList.map fun x => (x.1, ev t x.2) := by
  have : ρ = ev t := funext hρ
  subst this
  simp
theorem sound_build {o : Oper} {ty : TypeId} {ps : Array (Nat × Operand)} (h : o.op = .build ty ps) : Sound P o (lowerOp P o) := by
  simp only [lowerOp, h]
  split
  · rename_i fs z hty hz
    split
    · rename_i l hl
      split
      · rename_i hall
        refine sound_pure (fun t _ _ => mkV true (fillV t l (some z))) (fun _ _ _ => rfl) fun w0 w B H t ρ v hρ _ hv => ?_
        left
        cases hf : fillV t l (some z) with
        | none => simp [hf, mkV] at hv
        | some cs =>
          simp only [hf, mkV, cond_true, Option.some.injEq] at hv
          subst hv
          obtain ⟨zv, hzv, hzc⟩ := run_zero hz w
          obtain ⟨hl1, hl2⟩ := mapM_some hl
          have hpl : (fs.mapM fun (f : Field) => do pure (f.offset, ← sizeOf f.type)).run P w = .ok (fs.map fun (f : Field) => (f.offset, (sizeO P f.type).getD 0)) w := run_mapArr fs fun f hf => by
            have := Array.all_eq_true_iff_forall_mem.1 hall f hf
            obtain ⟨n, hn⟩ := Option.isSome_iff_exists.1 this
            simp [run_sizeOf hn, hn]
          have hfill := fill_ok (t := t) ((fs.map fun (f : Field) => (f.offset, (sizeO P f.type).getD 0))[·]?) ps.toList l zv.cells cs (fun i hi => by
            obtain ⟨⟨k, x⟩, ⟨off, n, x'⟩, e1, e2, e3⟩ := hl2 i hi
            simp only [Option.bind_eq_some_iff, Option.map_eq_some_iff, Prod.mk.injEq] at e3
            obtain ⟨f, hk, s, hs, rfl, rfl, rfl⟩ := e3
            exact ⟨k, x, f.offset, s, e1, e2, by simp [hk, hs]⟩) hl1 (by rw [hzc]; exact hf)
          simp only [execOp, h, Instr.build, Sem.run_bind, hzv, Result.andThen_ok, run_underlying hty, hpl, map_parts hρ, hfill]
          simp
      · exact sound_bad
    · exact sound_bad
  · rename_i len e z hty hz
    split
    · rename_i s hs
      refine sound_pure (fun t _ _ => mkV true (fillV t (ps.toList.map fun (i, x) => (i * s, s, x)) (some z))) (fun _ _ _ => rfl) fun w0 w B H t ρ v hρ _ hv => ?_
      left
      cases hf : fillV t (ps.toList.map fun (i, x) => (i * s, s, x)) (some z) with
      | none => simp [hf, mkV] at hv
      | some cs =>
        simp only [hf, mkV, cond_true, Option.some.injEq] at hv
        subst hv
        obtain ⟨zv, hzv, hzc⟩ := run_zero hz w
        have hfill := fill_arr (t := t) s (parts := ps.toList) (A := zv.cells) (z := cs) (by rw [hzc]; exact hf)
        simp only [execOp, h, Instr.build, Sem.run_bind, hzv, Result.andThen_ok, run_underlying hty, run_sizeOf hs, map_parts hρ, hfill]
        simp
    · exact sound_bad
  · exact sound_bad

theorem flat_get {z : List Value} (hz : 0 < z.length) : ∀ (n i : Nat), ((List.replicate n z).flatten)[i]? = if i < n * z.length then z[i % z.length]? else none
  | 0, i => by simp
  | n + 1, i => by
    rw [List.replicate_succ, List.flatten_cons, List.getElem?_append]
    by_cases h : i < z.length
    · rw [if_pos h, if_pos (by rw [Nat.add_mul]; omega), Nat.mod_eq_of_lt h]
    · rw [if_neg h, flat_get hz n (i - z.length)]
      have hmod : (i - z.length) % z.length = i % z.length := by
        rw [← Nat.mod_eq_sub_mod (by omega)]
      have : i - z.length < n * z.length ↔ i < (n + 1) * z.length := by rw [Nat.add_mul]; omega
      simp only [this, hmod]
theorem zeros {zv : Value} {z : List Value} {n s : Nat} (hzc : zv.cells.toList = z) (hs : 0 < s) (hl : z.length = s) : ((Array.range (n * s)).map (zv.cells[· % zv.cells.size]!)).toList = (List.replicate n z).flatten := by
  subst hzc
  have hsz : zv.cells.size = s := by simpa using hl
  apply List.ext_getElem?
  intro i
  rw [flat_get (by omega) n i]
  rw [Array.getElem?_toList, Array.getElem?_map, hl]
  by_cases h : i < n * s
  · rw [if_pos h]
    have hm : i % s < zv.cells.size := by rw [hsz]; exact Nat.mod_lt _ hs
    have hr : (Array.range (n * s))[i]? = some i := by simp [h]
    rw [hr]
    simp only [Option.map_some, hsz, Array.getElem?_toList]
    rw [getElem!_pos zv.cells (i % s) hm, Array.getElem?_eq_getElem hm]
  · rw [if_neg h]
    have hr : (Array.range (n * s))[i]? = none := by simp [h]
    rw [hr]; rfl
theorem newS_elim {r : Option (List Value)} {mk : Nat → List Value → Value} {Q : Res → Prop} {f : St → Res} (hk : Knows w0 (den H B) w) (h0 : ¬ Q none) (hf : ∀ N, f N = match r with | some cs => some (mk (N 0) cs, (N 0, .cells cs cs.length) :: H, sh N) | none => none)
    (h : ∀ N, good B H N → Q (f N)) : ∃ cs, r = some cs ∧ ∀ e : TypeId, Knows w0 (den ((w.heap.size, .cells cs cs.length) :: H) B) (w.alloc (.cells cs.toArray e)) ∧
    ∀ N', good B ((w.heap.size, .cells cs cs.length) :: H) N' → Q (some (mk w.heap.size cs, (w.heap.size, .cells cs cs.length) :: H, N')) := by
  cases r with
  | none => exact (h0 (by have := h _ (good_of hk); rwa [hf] at this)).elim
  | some cs => exact ⟨cs, rfl, fun e => ⟨hk.new cs e, fun N' hN' => by have := h (consN w.heap.size N') (good_cons (den_fresh hk) hN'); rw [hf] at this; simpa [consN, consA, sh_consN, sh] using this⟩⟩
theorem sound_buildS {o : Oper} {ty : TypeId} {n : Nat} {ps : Array (Nat × Operand)} (h : o.op = .buildSlice ty n ps) : Sound P o (lowerOp P o) := by
  simp only [lowerOp, h]
  split
  · rename_i e hty
    split
    · rename_i s z hs hz
      split
      · rename_i hc
        intro w0 w B H t G ρ Q hρ hk h0 hQ
        obtain ⟨cs, hcs, hnew⟩ := newS_elim (r := fillV t (ps.toList.map fun (i, x) => (i * s, s, x)) (some (List.replicate n z).flatten)) (mk := fun r _ => .slice (some ⟨r, 0, none⟩) n n) hk h0 (f := fun N => stepOp B G ⟨t, H, N⟩ (.buildS (List.replicate n z).flatten n (ps.toList.map fun (i, x) => (i * s, s, x))))
          (fun N => by simp only [stepOp, buildSV] <;> rfl) hQ
        obtain ⟨h1, h2⟩ := hnew e
        refine ⟨_, _, _, .inl ?_, .alloc _ _, h1, h2⟩
        obtain ⟨zv, hzv, hzc⟩ := run_zero hz w
        have hzs := zeros (n := n) hzc hc.1 hc.2.1
        have hfill := fill_arr (t := t) s (parts := ps.toList) (A := (Array.range (n * s)).map (zv.cells[· % zv.cells.size]!)) (z := cs) (by rw [hzs]; exact hcs)
        have hbig : ¬ n * s > 2 ^ 24 := by omega
        simp only [execOp, h, Instr.buildSlice, Sem.run_bind, run_underlying hty, Result.andThen_ok, run_sizeOf hs, if_neg hbig, map_parts hρ]
        by_cases h00 : n * s = 0
        · have e0 : ∀ f : Nat → Value, (Array.range (n * s)).map f = #[] := fun f => by rw [h00]; simp
          rw [e0] at hfill
          simp only [if_pos h00, Sem.run_pure, Result.andThen_ok, e0, hfill]
          simp [newRow]
        · simp only [if_neg h00, Sem.run_bind, hzv, Result.andThen_ok, Sem.run_pure, hfill]
          simp [newRow]
      · exact sound_bad
    · exact sound_bad
  · exact sound_bad
end Go.Proofs.YtbpaekbjpapgeaaGreatDoor.K
namespace Go.Proofs.YtbpaekbjpapgeaaGreatDoor.K
variable {P : Program} {w0 w : World} {B : OH} {H : HL} {t : List Value} {G : Env}

theorem run_bound {x : Value} {y d n : Nat} {code : BoundsCode} (h : bnd (some x) d y = some n) (w : World) : (Instr.sliceBound x y code).run P w = .ok n w := by
  unfold bnd at h
  split at h
  · rename_i e; cases e
  · rename_i e
    cases e
    split at h
    · rename_i hc
      simp only [Option.some.injEq] at h
      subst h
      simp [Instr.sliceBound, asIntOf, hc]
    · cases h
  · cases h
theorem run_bounds {isS : Bool} {n c m h l : Nat} {lo hi mx : Option Value} (hx : ¬ (mx.isSome = true ∧ hi.isNone = true)) (h1 : bnd mx c c = some m) (h2 : bnd hi n m = some h) (h3 : bnd lo 0 h = some l) (w : World) :
    (Instr.sliceBounds isS n c lo hi mx).run P w = .ok (l, h, m) w := by
  unfold Instr.sliceBounds
  cases mx with
  | none =>
    simp only [bnd, Option.some.injEq] at h1
    subst h1
    cases hi with
    | none =>
      simp only [bnd, Option.some.injEq] at h2
      subst h2
      cases lo with
      | none => simp only [bnd, Option.some.injEq] at h3; subst h3; simp
      | some x => simp [run_bound h3]
    | some y =>
      cases lo with
      | none => simp only [bnd, Option.some.injEq] at h3; subst h3; simp [run_bound h2]
      | some x => simp [run_bound h2, run_bound h3]
  | some z =>
    cases hi with
    | none => simp at hx
    | some y =>
      cases lo with
      | none => simp only [bnd, Option.some.injEq] at h3; subst h3; simp [run_bound h1, run_bound h2]
      | some x => simp [run_bound h1, run_bound h2, run_bound h3]
theorem slA_eq {a r : Option Addr} {m l es : Nat} (h : slA a (if m = l then 0 else l * es) = some r) : (if m = l then a else a.map (·.add (l * es))) = r := by
  unfold slA at h
  split at h
  · simp only [Option.some.injEq] at h; subst h; simp
  · rename_i a k0 hk0
    simp only [Option.some.injEq] at h
    subst h
    by_cases hm : m = l
    · simp [hm]
    · rw [if_neg hm] at hk0
      simp [hm, hk0, Addr.add]
  · rename_i b o k
    simp only [Option.some.injEq] at h
    subst h
    by_cases hm : m = l
    · simp [hm]
    · simp [hm, addr_add]
  · cases h
theorem slcB_inv {a : Option Addr} {es n c : Nat} {lo hi mx : Option Value} {v : Value} (h : slcB a es n c lo hi mx = some v) :
    ∃ m hh l, bnd mx c c = some m ∧ bnd hi n m = some hh ∧ bnd lo 0 hh = some l ∧ v = .slice (if m = l then a else a.map (·.add (l * es))) (hh - l) (m - l) := by
  unfold slcB at h
  simp only [Option.bind_eq_some_iff] at h
  obtain ⟨m, h1, hh, h2, l, h3, r, h4, h5⟩ := h
  refine ⟨m, hh, l, h1, h2, h3, ?_⟩
  rw [slA_eq h4]
  simpa using h5.symm
theorem optE_map (t : List Value) (ρ : Operand → Value) (hρ : ∀ x, ρ x = ev t x) (x : Option Operand) : x.map ρ = optE t x := by
  cases x with
  | none => rfl
  | some x => simp [optE, hρ]
theorem optE_isSome (t : List Value) (x : Option Operand) : (optE t x).isSome = x.isSome := by cases x <;> rfl
theorem optE_isNone (t : List Value) (x : Option Operand) : (optE t x).isNone = x.isNone := by cases x <;> rfl
theorem sound_slc {o : Oper} {ty : TypeId} {x : Operand} {a b c : Option Operand} (h : o.op = .slice ty x a b c) : Sound P o (lowerOp P o) := by
  simp only [lowerOp, h]
  split
  · exact sound_bad
  rename_i hx
  split
  · rename_i e hu
    split
    · rename_i s hs
      refine sound_pure (fun t _ _ => slcV s (optE t a) (optE t b) (optE t c) (ev t x)) (fun _ _ _ => rfl) fun w0 w B H t ρ v hρ hk hv => ?_
      left
      unfold slcV at hv
      split at hv
      · rename_i ad n cap he
        obtain ⟨m, hh, l, h1, h2, h3, rfl⟩ := slcB_inv hv
        have hb := run_bounds (P := P) (isS := true) (by rw [optE_isSome, optE_isNone]; exact hx) h1 h2 h3 w
        simp only [execOp, h, Instr.sliceAt, hρ, he, optE_map t ρ hρ]
        simp [Instr.slice, run_underlying hu, hb, run_sizeOf hs]
      · cases hv
    · exact sound_bad
  · rename_i hu
    split
    · exact sound_bad
    · rename_i hm
      have hc : c = none := by cases c <;> simp_all
      subst hc
      refine sound_pure (fun t _ _ => slcTV (optE t a) (optE t b) (ev t x)) (fun _ _ _ => rfl) fun w0 w B H t ρ v hρ hk hv => ?_
      left
      unfold slcTV at hv
      split at hv
      · rename_i s he
        simp only [Option.bind_eq_some_iff] at hv
        obtain ⟨hh, h2, l, h3, h4⟩ := hv
        have hb := run_bounds (P := P) (isS := false) (mx := none) (m := s.size) (n := s.size) (c := s.size) (by simp) rfl h2 h3 w
        simp only [execOp, h, Instr.sliceAt, hρ, he, optE_map t ρ hρ]
        have e0 : optE t (none : Option Operand) = none := rfl
        simp [Instr.slice, run_underlying hu, e0, hb]
        simpa using h4
      · cases hv
  · rename_i e hu
    split
    · rename_i n el hu2
      split
      · rename_i s hs
        refine sound_pure (fun t _ _ => slcAV s n (optE t a) (optE t b) (optE t c) (ev t x)) (fun _ _ _ => rfl) fun w0 w B H t ρ v hρ hk hv => ?_
        left
        unfold slcAV at hv
        split at hv
        · rename_i ad he
          obtain ⟨m, hh, l, h1, h2, h3, rfl⟩ := slcB_inv hv
          have hb' := run_bounds (P := P) (isS := false) (by rw [optE_isSome, optE_isNone]; exact hx) h1 h2 h3 w
          simp only [execOp, h, Instr.sliceAt, hρ, he, optE_map t ρ hρ]
          simp [Instr.slice, run_underlying hu, run_underlying hu2, asAddr, hb', run_sizeOf hs, Instr.sureAddr]
          all_goals (try split) <;> simp
        · cases hv
      · exact sound_bad
    · exact sound_bad
  · rename_i n el hu2
    split
    · rename_i s hs
      refine sound_pure (fun t _ _ => slcAV s n (optE t a) (optE t b) (optE t c) (ev t x)) (fun _ _ _ => rfl) fun w0 w B H t ρ v hρ hk hv => ?_
      left
      unfold slcAV at hv
      split at hv
      · rename_i ad he
        obtain ⟨m, hh, l, h1, h2, h3, rfl⟩ := slcB_inv hv
        have hb' := run_bounds (P := P) (isS := false) (by rw [optE_isSome, optE_isNone]; exact hx) h1 h2 h3 w
        simp only [execOp, h, Instr.sliceAt, hρ, he, optE_map t ρ hρ]
        simp [run_underlying hu2, Instr.sureAddr, hb', run_sizeOf hs]
        all_goals (try split) <;> simp
      · cases hv
    · exact sound_bad
  · exact sound_bad

theorem flat_len (z : List Value) : ∀ n, ((List.replicate n z).flatten).length = n * z.length
  | 0 => by simp
  | n + 1 => by simp [List.replicate_succ, flat_len z n, Nat.succ_mul, Nat.add_comm]
theorem flat_rep (z : List Value) (hz : 0 < z.length) : ∀ (n i : Nat), i < n * z.length → ((List.replicate n z).flatten)[i]? = z[i % z.length]?
  | 0, i, h => by simp at h
  | n + 1, i, h => by
    rw [List.replicate_succ, List.flatten_cons, List.getElem?_append]
    by_cases hi : i < z.length
    · rw [if_pos hi, Nat.mod_eq_of_lt hi]
    · rw [if_neg hi, flat_rep z hz n (i - z.length) (by rw [Nat.succ_mul] at h; omega), ← Nat.mod_eq_sub_mod (by omega)]
theorem made_eq (v : Value) (n : Nat) (hz : 0 < v.cells.size) : (madeCells v.cells (n * v.cells.size)) = ((List.replicate n v.cells.toList).flatten).toArray := by
  apply Array.ext_getElem?
  intro i
  have hz' : 0 < v.cells.toList.length := by simpa using hz
  unfold madeCells
  by_cases hi : i < n * v.cells.size
  · have h1 := flat_rep v.cells.toList hz' n i (by simpa using hi)
    have hm : i % v.cells.size < v.cells.size := Nat.mod_lt _ hz
    simp only [List.getElem?_toArray]
    rw [h1]
    simp [hi, hm]
  · have h1 : ((List.replicate n v.cells.toList).flatten).length ≤ i := by rw [flat_len]; simp; omega
    simp only [List.getElem?_toArray]
    rw [List.getElem?_eq_none h1]
    simp; omega
theorem zero_inv {e : TypeId} {z : List Value} (h : zeroOf P e = some z) : ∃ i v, P.info? e = some i ∧ i.zero = some v ∧ v.cells.toList = z := by
  unfold zeroOf at h
  cases hi : P.info? e with
  | none => simp [hi] at h
  | some i =>
    cases hv : i.zero with
    | none => simp [hi, hv] at h
    | some v => simp [hi, hv] at h; exact ⟨i, v, rfl, hv, h⟩
theorem size_inv {e : TypeId} {n : Nat} {i : TypeInfo} (h : sizeO P e = some n) (hi : P.info? e = some i) : i.size = n := by
  unfold sizeO at h; simpa [hi] using h
theorem bytes_inv {e : TypeId} {i : TypeInfo} (hi : P.info? e = some i) : bytesO P e = i.bytes := by simp [bytesO, hi]
theorem sound_mks {o : Oper} {ty : TypeId} {a b : Operand} (h : o.op = .makeSlice ty a b) : Sound P o (lowerOp P o) := by
  simp only [lowerOp, h]
  split
  · rename_i e hu
    split
    · rename_i s z hs hz
      split
      · rename_i hc
        intro w0 w B H t G ρ Q hρ hk h0 hQ
        have hne := res_elim (f := fun N => mksV z (bytesO P e) H N (ev t a) (ev t b)) hk h0 hQ
        unfold mksV at hne
        split at hne
        · rename_i kl l kc c ha hb
          split at hne
          · rename_i hcond
            obtain ⟨i, v, hi, hv, rfl⟩ := zero_inv hz
            have hsz := size_inv hs hi
            have hvs : v.cells.size = s := by simpa using hc.2
            have hr := run_make (P := P) w ty e i v hu hi hv kl kc l c hcond.1 hcond.2.1 (by rw [bytes_inv hi] at hcond; omega) (by omega)
            rw [hsz, ← hvs, made_eq v c.toNat (by omega)] at hr
            have hnew := hk.new ((List.replicate c.toNat v.cells.toList).flatten) e
            rw [flat_len] at hnew
            refine ⟨.slice (some ⟨w.heap.size, 0, none⟩) l.toNat c.toNat, _, _, .inl ?_, .alloc _ _, hnew, fun N' hN' => ?_⟩
            · simp only [execOp, h, hρ, ha, hb]
              simp [hr]
            · have := hQ (consN w.heap.size N') (good_cons (den_fresh hk) hN')
              simp only [stepOp, ha, hb, mksV, if_pos hcond] at this
              exact this
          · exact (hne rfl).elim
        · exact (hne rfl).elim
      · exact sound_bad
    · exact sound_bad
  · exact sound_bad

theorem Knows.extend (hk : Knows w0 (den H B) w) {b o k : Nat} {cs vs : List Value} (hB : B b = none) (hl : lk H b = some (.cells cs k)) (ho : o ≤ cs.length) (hfit : o + vs.length ≤ k) (h1 : all1 vs = true) :
    ∃ w', (storeCells ⟨b, o, none⟩ vs).run P w = .ok () w' ∧ Knows w0 (den ((b, .cells (cs.take o ++ vs) k) :: H) B) w' ∧ KeepD w w' := by
  have hd : den H B b = some (.cells cs k) := by simp [den, hl, hB]
  obtain ⟨hlt, arr, e, harr, hsz, hle, hcs⟩ := hk.own b _ hd
  obtain ⟨w', r1, r2, r3, r4, r5, r6, arr', r7, r8, r9⟩ := run_storeCells P b vs 0 o w arr e harr (by omega) (all1_spec h1)
  have hd' : ∀ x, den ((b, .cells (cs.take o ++ vs) k) :: H) B x = if x = b then some (.cells (cs.take o ++ vs) k) else den H B x := fun x => by
    unfold den
    simp only [lk]
    by_cases hx : x = b
    · subst hx; simp [hB]
    · have : (x == b) = false := by simpa using hx
      simp [hx, this]
  have hb0 := hk.mine b (.inl ⟨cs, k, hd⟩)
  refine ⟨w', r1, ⟨r2.trans hk.os, r3.trans hk.tape, r4.trans hk.output, by rw [r5]; exact hk.size, fun x hx => by rw [r6 x (by omega)]; exact hk.old x hx, fun r k' hr => ?_, fun a ha => ?_, fun r hr => ?_, fun r hr => ?_⟩, ⟨by rw [r5]; exact Nat.le_refl _, fun x ds hx => by
      have hne : x ≠ b := fun e => by subst e; rw [harr] at hx; cases hx
      rw [r6 x hne]; exact hx⟩⟩
  · rw [hd'] at hr
    by_cases hx : r = b
    · subst hx
      rw [if_pos rfl, Option.some.injEq] at hr
      subst hr
      have htl : (cs.take o).length = o := by simp; omega
      refine ⟨by rw [r5]; exact hlt, arr', e, r7, by rw [r8, hsz], by simp only [List.length_append, htl]; exact hfit, fun i v hi => ?_⟩
      rw [r9 i]
      simp only [Nat.add_zero]
      rw [List.getElem?_append, htl] at hi
      by_cases hc : o ≤ i ∧ i < o + vs.length
      · rw [if_pos hc]; rw [if_neg (by omega)] at hi; exact hi
      · rw [if_neg hc]
        by_cases hio : i < o
        · rw [if_pos hio, List.getElem?_take_of_lt hio] at hi; exact hcs i v hi
        · rw [if_neg hio] at hi
          have := (List.getElem?_eq_some_iff.1 hi).1
          omega
    · rw [if_neg hx] at hr
      obtain ⟨q1, q2⟩ := hk.own r k' hr
      exact ⟨by rw [r5]; exact q1, by rw [r6 r hx]; exact q2⟩
  · by_cases hx : a.block = b
    · simp [World.frozen?, hx, r7]
    · have := hk.fz a ha
      unfold World.frozen? at this ⊢
      rw [r6 _ hx]; exact this
  · by_cases hx : r = b
    · subst hx; exact hb0
    · refine hk.mine r ?_
      simpa [hd', hx] using hr
  · by_cases hx : r = b
    · subst hx; exact hb0
    · refine hk.mineL r ?_
      simpa [hd', hx] using hr
theorem Knows.newD (hk : Knows w0 (den H B) w) (cs rest : List Value) (e : TypeId) (k : Nat) (hl : (cs ++ rest).length = k) :
    Knows w0 (den ((w.heap.size, .cells cs k) :: H) B) (w.drew.alloc (.cells (cs ++ rest).toArray e)) := by
  have h := (hk.drew).new (cs ++ rest) e
  rw [hl] at h
  have hs : w.drew.heap.size = w.heap.size := rfl
  rw [hs] at h
  have hd := fun k' x => den_cons (B := B) (den_fresh hk) k' x
  refine ⟨h.os, h.tape, h.output, h.size, h.old, fun r k' hr => ?_, h.fz, fun r hr => ?_, fun r hr => ?_⟩
  · rw [hd] at hr
    by_cases hx : r = w.heap.size
    · rw [if_pos hx, Option.some.injEq] at hr
      subst hr
      obtain ⟨q1, q2⟩ := h.own r (.cells (cs ++ rest) k) (by rw [hd, if_pos hx])
      refine ⟨q1, ?_⟩
      obtain ⟨arr, e', p1, p2, p3, p4⟩ := q2
      refine ⟨arr, e', p1, p2, by simp at p3; omega, fun i v hi => p4 i v ?_⟩
      rw [List.getElem?_append_left (List.getElem?_eq_some_iff.1 hi).1]; exact hi
    · rw [if_neg hx] at hr
      exact h.own r k' (by rw [hd, if_neg hx]; exact hr)
  · by_cases hx : r = w.heap.size
    · subst hx; exact hk.size
    · refine hk.mine r ?_
      simpa [hd, hx] using hr
  · by_cases hx : r = w.heap.size
    · subst hx; exact hk.size
    · refine hk.mineL r ?_
      simpa [hd, hx] using hr
theorem tk_takeL : ∀ (cs : List Value) (n : Nat) (r : List Value), tk cs 0 n = some r → r = cs.take n ∧ n ≤ cs.length
  | _, 0, r, h => by simp [tk] at h; simp [h]
  | [], n + 1, r, h => by simp [tk] at h
  | v :: cs, n + 1, r, h => by
    simp only [tk] at h
    split at h
    · rename_i r' hr
      simp only [Option.some.injEq] at h
      subst h
      obtain ⟨h1, h2⟩ := tk_takeL cs n r' hr
      subst h1
      simp; omega
    · cases h
theorem zeroCells_len (z : Array Value) (n : Nat) : (Builtin.zeroCells z n).toList.length = n * z.size := by simp [Builtin.zeroCells]
theorem arr_app (a b : Array Value) : a ++ b = (a.toList ++ b.toList).toArray := by
  apply Array.ext'
  simp

end Go.Proofs.YtbpaekbjpapgeaaGreatDoor.K
namespace Go.Proofs.YtbpaekbjpapgeaaGreatDoor.K
variable {P : Program} {w0 w : World} {B : OH} {H : HL} {t : List Value} {G : Env}

theorem news_inv {sz : Nat} {x : Value} {news : List Value} (hk : Knows w0 (den H B) w) (h : newsV sz H B x = some news) :
    (∃ b o m c, x = .slice (some ⟨b, o, none⟩) m c ∧ news.length = m * sz ∧ ∀ j v, news[j]? = some v → w.cell? ⟨b, o + j, none⟩ = some v) ∨ (∃ ad c, x = .slice ad 0 c ∧ news = []) := by
  unfold newsV at h
  split at h
  · rename_i ad c
    simp only [Option.some.injEq] at h
    exact .inr ⟨ad, c, rfl, h.symm⟩
  · rename_i b o m c _
    obtain ⟨h1, h2⟩ := rdH_spec hk h
    exact .inl ⟨b, o, m, c, rfl, h1, h2⟩
  · cases h
theorem run_append_none {ty e : TypeId} {i : TypeInfo} {t' : TypeId} (hu : P.underlying ty = some (.slice e)) (hi : P.info? e = some i) (w : World) (base : Option Addr) (n c : Nat) (hnc : n ≤ c) (ad : Option Addr) (c' : Nat) :
    (Builtin.append_ #[ty, ty] t' #[.slice base n c, .slice ad 0 c']).run P w = .ok (.slice base n c) w := by
  cases ad with
  | none =>
    cases base <;> simp [Builtin.append_, run_underlying hu, sizeOf, typeInfo, hi, Builtin.lenOf, hnc, Builtin.firstCells, storeCells]
  | some ad =>
    have hl : (loadCells ad 0).run P w = .ok #[] w := by simpa using run_loadCells_list (P := P) w ad [] (by simp)
    cases base <;> simp [Builtin.append_, run_underlying hu, sizeOf, typeInfo, hi, Builtin.lenOf, hnc, Builtin.firstCells, storeCells, hl]

theorem run_append_room_zeros {ty tn e : TypeId} {i : TypeInfo} {t' : TypeId} {k kn : IntKind} {z : Value} (hu : P.underlying ty = some (.slice e)) (htn : P.underlying tn = some (.int kn)) (hi : P.info? e = some i) (hz : i.zero = some z) (w w' : World) (b : Addr) (n c m : Nat) (h63 : (m : Int) ≤ 9223372036854775807) (h48 : m * i.bytes ≤ 281474976710656) (hnc : n + m ≤ c) (hs : (storeCells (b.add (n * i.size)) (if m * i.size = 0 then #[] else Builtin.zeroCells z.cells m).toList).run P w = .ok () w') :
    (Builtin.append_ #[ty, tn] t' #[.slice (some b) n c, .int k m]).run P w = .ok (.slice (some b) (n + m) c) w' := by
  have hw : IntKind.i64.wrap (m : Int) = m := by rw [IntKind.wrap_i64]; omega
  have h48i : ¬ (281474976710656 < (m : Int) * (i.bytes : Int)) := by
    rw [← Int.natCast_mul]
    omega
  have hneg : ¬ ((m : Int) < 0) := by omega
  by_cases hns : m * i.size = 0
  · rw [if_pos hns] at hs
    simp [Builtin.append_, run_underlying hu, run_underlying htn, sizeOf, typeInfo, zeroValue, hi, hz, asInt, asIntOf, hw, hneg, hns, h48i, hnc, hs]
  · rw [if_neg hns] at hs
    simp [Builtin.append_, run_underlying hu, run_underlying htn, sizeOf, typeInfo, zeroValue, hi, hz, asInt, asIntOf, hw, hneg, hns, h48i, hnc, hs]
theorem run_append_nil_zeros0 {ty tn e : TypeId} {i : TypeInfo} {t' : TypeId} {k kn : IntKind} (hu : P.underlying ty = some (.slice e)) (htn : P.underlying tn = some (.int kn)) (hi : P.info? e = some i) (w : World) (base : Option Addr) (n c : Nat) (hb : base = none ∨ ∃ b, base = some b) (hnc : n ≤ c) :
    (Builtin.append_ #[ty, tn] t' #[.slice base n c, .int k 0]).run P w = .ok (.slice base n c) w := by
  have hw : IntKind.i64.wrap (0 : Int) = 0 := by rw [IntKind.wrap_i64]; omega
  cases base with
  | none => simp [Builtin.append_, run_underlying hu, run_underlying htn, sizeOf, typeInfo, hi, asInt, asIntOf, hw, hnc, storeCells]
  | some b => simp [Builtin.append_, run_underlying hu, run_underlying htn, sizeOf, typeInfo, hi, asInt, asIntOf, hw, hnc, storeCells]
theorem zeros_flat {v : Value} {n m : Nat} (hs : v.cells.size = n) (hn : 0 < n) : (Builtin.zeroCells v.cells m).toList = (List.replicate m v.cells.toList).flatten := by
  have h := made_eq v m (by omega)
  refine List.ext_getElem? fun i => ?_
  by_cases hi : i < m * v.cells.size
  · rw [flat_rep v.cells.toList (by simpa using (by omega : 0 < v.cells.size)) m i (by simpa using hi)]
    have h2 : i % v.cells.size < v.cells.size := Nat.mod_lt _ (by omega)
    simp [Builtin.zeroCells, hi]
    rw [Array.getElem?_eq_getElem h2, getElem!_pos v.cells _ h2]
  · rw [List.getElem?_eq_none (by simp [Builtin.zeroCells]; omega), List.getElem?_eq_none (by rw [flat_len]; simp; omega)]
theorem appOld_un {sz m sLen sCap b : Nat} {news : List Value} {k : Option KB} {N N' : St} (h : appOld sz m sLen sCap b B H N news k = none) : appOld sz m sLen sCap b B H N' news k = none := by
  unfold appOld at h ⊢
  split
  · rw [Option.bind_eq_none_iff] at h ⊢
    intro a ha
    have := h a ha
    simp [appNew] at this
  · rfl
theorem appV_un {sz by' m : Nat} {s : Value} {news : List Value} {N N' : St} (h : appV sz by' B H N s m news = none) : appV sz by' B H N' s m news = none := by
  unfold appV at h ⊢
  split
  · simp only at h
    split at h
    · cases h
    · rename_i h1
      split at h
      · simp [appNew] at h
      · rename_i h2; rw [if_neg h1, if_neg h2]
  · simp only at h
    split at h
    · rename_i h1
      split at h
      · cases h
      · rename_i h2; rw [if_pos h1, if_neg h2]
    · rename_i h1
      split at h
      · rename_i h2; rw [if_neg h1, if_pos h2]; exact appOld_un h
      · rename_i h2; rw [if_neg h1, if_neg h2]
  · rfl
theorem sound_appZ {o : Oper} {c : Call} {ty ty' e : TypeId} {s x : Operand} {n : Nat} {z : List Value} {kn : IntKind} (h : o.op = .call c) (hc : c.callee = .builtin .append) (hts : c.argTypes.toList = [ty, ty']) (has : c.args.toList = [s, x]) (hu : P.underlying ty = some (.slice e)) (htn : P.underlying ty' = some (.int kn)) (hn : sizeO P e = some n) (hz : zeroOf P e = some z) (hpos : 0 < n ∧ z.length = n) : Sound P o (.appZ z (bytesO P e) s x) := by
  intro w0 w B H t G ρ Q hρ hk h0 hQ
  obtain ⟨i, v, hi, hv, rfl⟩ := zero_inv hz
  have hsz := size_inv hn hi
  have hvs : v.cells.size = n := by simpa using hpos.2
  have hby := bytes_inv (P := P) hi
  have hrun : ∀ (vs vx r : Value) (w' : World), ev t s = vs → ev t x = vx → (Builtin.append_ #[ty, ty'] o.type #[vs, vx]).run P w = .ok r w' → Does P ρ o w r w' := by
    intro vs vx r w' e1 e2 hr
    left
    obtain ⟨callee, cargs, cts⟩ := c
    simp only at hc hts has
    subst hc
    have ha : cargs = #[s, x] := by apply Array.ext'; simpa using has
    have ht : cts = #[ty, ty'] := by apply Array.ext'; simpa using hts
    subst ha ht
    simp only [execOp, h, resolve, Sem.run_bind, Sem.run_pure, Result.andThen_ok, invoke, builtin]
    simp [hρ, e1, e2, hr]
  have hne := res_elim (f := fun N => stepOp B G ⟨t, H, N⟩ (.appZ v.cells.toList (bytesO P e) s x)) hk h0 hQ
  have hQ' : ∀ N, good B H N → Q (appZR v.cells.toList (bytesO P e) B H N (ev t s) (ev t x)) := hQ
  have hne' : appZR v.cells.toList (bytesO P e) B H (stW w) (ev t s) (ev t x) ≠ none := hne
  clear hne hQ
  unfold appZR at hne' hQ'
  split at hne'
  rotate_left
  · exact (hne' rfl).elim
  rename_i kx l ex
  split at hne'
  rotate_left
  · exact (hne' rfl).elim
  rename_i hl
  obtain ⟨m, rfl⟩ : ∃ m : Nat, l = (m : Int) := ⟨l.toNat, by omega⟩
  simp only [ex, if_pos hl, Int.toNat_natCast, Array.length_toList] at hne' hQ'
  rw [hvs] at hne' hQ'
  have hzf := zeros_flat (m := m) hvs hpos.1
  rw [← hzf] at hne' hQ'
  by_cases hm : m = 0
  · subst hm
    unfold appV at hne' hQ'
    split at hne'
    · rename_i es
      rw [es] at hQ'
      simp only [if_true] at hQ'
      exact ⟨_, w, H, hrun _ _ _ _ es ex (run_append_nil_zeros0 hu htn hi w _ _ _ (.inl rfl) (Nat.le_refl _)), .refl w, hk, hQ'⟩
    · rename_i b sLen sCap es
      rw [es] at hQ'
      simp only [if_true] at hQ' hne'
      split at hne'
      · rename_i hle
        simp only [if_pos hle] at hQ'
        exact ⟨_, w, H, hrun _ _ _ _ es ex (run_append_nil_zeros0 hu htn hi w _ _ _ (.inr ⟨_, rfl⟩) hle), .refl w, hk, hQ'⟩
      · exact (hne' rfl).elim
    · exact (hne' rfl).elim
  · have hzl : (Builtin.zeroCells v.cells m).toList.length = m * n := by rw [zeroCells_len, hvs]
    unfold appV at hne' hQ'
    split at hne'
    · rename_i es
      rw [es] at hQ'
      simp only [if_neg hm] at hQ' hne'
      split at hne'
      · rename_i hcond
        simp only [if_pos hcond] at hQ'
        rw [hby] at hcond
        have hr := Lib.run_append_nil_zeros (P := P) w ty ty' o.type e i v kx kn hu htn hi hv m (by omega) (by omega) (by omega) (by omega)
        have hge := grownCap_ge w m 0 e
        rw [arr_app] at hr
        have hk' := hk.newD (e := e) (Builtin.zeroCells v.cells m).toList (Builtin.zeroCells v.cells (grownCap w m 0 e - m)).toList (grownCap w m 0 e * n) (by
          rw [List.length_append, hzl, zeroCells_len, hvs, ← Nat.add_mul]; congr 1; omega)
        refine ⟨_, _, _, hrun _ _ _ _ es ex hr, .alloc w.drew _, hk', fun N' hN' => ?_⟩
        have := hQ' (consA w.heap.size (grownCap w m 0 e - m) false N') (good_consA (den_fresh hk) hN')
        simp only [appNew, sh_consA] at this
        simp only [consA] at this
        rw [show m + (grownCap w m 0 e - m) = grownCap w m 0 e by omega] at this
        exact this
      · exact (hne' rfl).elim
    · rename_i b sLen sCap es
      rw [es] at hQ'
      simp only [if_neg hm] at hQ' hne'
      split at hne'
      · rename_i hcond
        simp only [if_pos hcond] at hQ'
        rw [hby] at hcond
        cases hlk : lk H b with
        | none => rw [hlk] at hne'; exact (hne' rfl).elim
        | some kb =>
          rw [hlk] at hne' hQ'
          cases kb with
          | ro f => exact (hne' rfl).elim
          | map es' clk => exact (hne' rfl).elim
          | loop r0 st => exact (hne' rfl).elim
          | dfr => exact (hne' rfl).elim
          | cells cs k =>
            simp only [appOld] at hne' hQ'
            split at hne'
            · rename_i hc2
              simp only [if_pos hc2] at hQ'
              obtain ⟨hB, hkc, hle, hone⟩ := hc2
              have hB' : B b = none := by cases hb : B b <;> simp_all
              cases htk : tk cs 0 (sLen * n) with
              | none => rw [htk] at hne'; exact (hne' rfl).elim
              | some olds =>
                rw [htk] at hQ'
                simp only [Option.bind_some] at hQ'
                obtain ⟨hol, hlen⟩ := tk_takeL cs _ _ htk
                have hd : den H B b = some (.cells cs k) := by simp [den, hlk, hB']
                obtain ⟨hlt, arr, e', harr, hsz', hle', hcs⟩ := hk.own b _ hd
                have hmb : m * i.bytes ≤ 281474976710656 := Nat.le_trans (Nat.mul_le_mul_right _ (by omega : m ≤ sLen + m)) (by omega)
                by_cases hroom : sLen + m ≤ sCap
                · obtain ⟨w', r1, r2, r3⟩ := hk.extend (P := P) (o := sLen * n) (vs := (Builtin.zeroCells v.cells m).toList) hB' hlk hlen (by rw [hzl, hkc, ← Nat.add_mul]; exact Nat.mul_le_mul_right _ hroom) hone
                  have hmn : ¬ m * i.size = 0 := Nat.mul_ne_zero hm (by omega)
                  have hr := run_append_room_zeros (P := P) (t' := o.type) (k := kx) hu htn hi hv w w' ⟨b, 0, none⟩ sLen sCap m (by omega) hmb hroom (by rw [if_neg hmn, addr_add, hsz]; simpa using r1)
                  rw [← hol] at r2
                  refine ⟨_, w', _, hrun _ _ _ _ es ex hr, r3, r2, fun N' hN' => ?_⟩
                  have hdn : ∀ y, den ((b, .cells (olds ++ (Builtin.zeroCells v.cells m).toList) k) :: H) B y = none → den H B y = none := by
                    intro y hy
                    unfold den at hy ⊢
                    cases hBy : B y with
                    | some _ => simp [hBy] at hy
                    | none =>
                      simp only [hBy, lk] at hy ⊢
                      by_cases hyb : y = b
                      · subst hyb; simp at hy
                      · have : (y == b) = false := by simpa using hyb
                        simpa only [this, cond_false] using hy
                  obtain ⟨r, hgood⟩ := good_spare (e := sCap - (sLen + m)) (b := true) (good_less hdn hN')
                  have := hQ' _ hgood
                  simp only [appNew, sh_consA] at this
                  have hbr : Nat.ble (sLen + m) sCap = true := by rw [Nat.ble_eq]; exact hroom
                  simp only [consA, hbr, Bool.and_self, cond_true] at this
                  rw [show sLen + m + (sCap - (sLen + m)) = sCap by omega, ← hkc] at this
                  exact this
                · have holl := (tk_spec _ _ _ _ htk).1
                  have hfo := run_firstCells_some (P := P) w.drew i.size sLen ⟨b, 0, none⟩ sLen sCap olds (by rw [holl, hsz]) (fun j v hj => by
                    rw [addr_add]
                    have := hcs _ _ (by have := (tk_spec _ _ _ _ htk).2 j v hj; simpa using this)
                    have hcell : w.cell? ⟨b, 0 + j, none⟩ = some v := by simp [World.cell?, harr, this]
                    simpa using hcell)
                  have hr := Lib.run_append_grow_zeros (P := P) w ty ty' o.type e i v kx kn hu htn hi hv (some ⟨b, 0, none⟩) sLen sCap olds hfo m (by omega) (by omega) (by omega) (by omega) hmb (growslice_fits (by omega) hcond.1)
                  have hge := grownCap_ge w (sLen + m) sCap e
                  rw [show olds.toArray ++ Builtin.zeroCells v.cells m = (olds ++ (Builtin.zeroCells v.cells m).toList).toArray by (apply Array.ext'; simp), arr_app] at hr
                  have hk' := hk.newD (e := e) (olds ++ (Builtin.zeroCells v.cells m).toList) (Builtin.zeroCells v.cells (grownCap w (sLen + m) sCap e - (sLen + m))).toList (grownCap w (sLen + m) sCap e * n) (by
                    rw [List.length_append, zeroCells_len, List.length_append, holl, hzl, hvs, show sLen * n + m * n = (sLen + m) * n from (Nat.add_mul _ _ _).symm, ← Nat.add_mul]; congr 1; omega)
                  refine ⟨_, _, _, hrun _ _ _ _ es ex hr, .alloc w.drew _, hk', fun N' hN' => ?_⟩
                  have := hQ' (consA w.heap.size (grownCap w (sLen + m) sCap e - (sLen + m)) false N') (good_consA (den_fresh hk) hN')
                  simp only [appNew, sh_consA] at this
                  simp only [consA, Bool.false_and, cond_false] at this
                  rw [show sLen + m + (grownCap w (sLen + m) sCap e - (sLen + m)) = grownCap w (sLen + m) sCap e by omega] at this
                  exact this
            · exact (hne' rfl).elim
      · exact (hne' rfl).elim
    · exact (hne' rfl).elim
theorem sound_cpy {o : Oper} {c : Call} {ty e : TypeId} {d x : Operand} {n : Nat} (h : o.op = .call c) (hc : c.callee = .builtin .copy) (hty : c.argTypes[0]? = some ty) (hu : (some ty).bind P.underlying = some (.slice e)) (has : c.args.toList = [d, x]) (hn : sizeO P e = some n) : Sound P o (.cpy n d x) := by
  intro w0 w B H t G ρ Q hρ hk h0 hQ
  simp only [Option.bind_some] at hu
  have hrun : ∀ (vs vx r : Value) (w' : World), ev t d = vs → ev t x = vx → (Builtin.copy_ c.argTypes o.type #[vs, vx]).run P w = .ok r w' → Does P ρ o w r w' := by
    intro vs vx r w' e1 e2 hr
    left
    obtain ⟨callee, cargs, cts⟩ := c
    simp only at hc hty has hr
    subst hc
    have ha : cargs = #[d, x] := by apply Array.ext'; simpa using has
    subst ha
    simp only [execOp, h, resolve, Sem.run_bind, Sem.run_pure, Result.andThen_ok, invoke, builtin]
    simp [hρ, e1, e2, hr]
  have hne := res_elim (f := fun N => stepOp B G ⟨t, H, N⟩ (.cpy n d x)) hk h0 hQ
  have hQ' : ∀ N, good B H N → Q (cpyV n B H N (ev t d) (ev t x)) := hQ
  have hne' : cpyV n B H (stW w) (ev t d) (ev t x) ≠ none := hne
  clear hne hQ
  unfold cpyV at hne' hQ'
  split at hne'
  rotate_left
  · exact (hne' rfl).elim
  rename_i a dl dc a2 m mc ed ex
  simp only [ed, ex] at hQ'
  have hst0 : ∀ a : Addr, (storeCells a []).run P w = .ok () w := fun a => by simp [storeCells]
  by_cases hm : min m dl = 0
  · simp only [if_pos hm] at hQ'
    have hl : ∀ ad : Addr, (loadCells ad 0).run P w = .ok #[] w := fun ad => by simpa using run_loadCells_list (P := P) w ad [] (by simp)
    have hm' : Nat.min m dl = 0 := hm
    refine ⟨_, w, H, hrun _ _ _ _ ed ex ?_, .refl w, hk, hQ'⟩
    cases a <;> cases a2 <;> simp [Builtin.copy_, hty, run_underlying hu, Builtin.lenOf, hm', Builtin.firstCells, run_sizeOf hn, hl, hst0, goInt]
  · simp only [if_neg hm] at hQ' hne'
    cases hnews : newsV n H B (.slice a2 (min m dl) mc) with
    | none =>
      rw [hnews] at hne'
      unfold cpyW at hne'
      split at hne'
      · rename_i hh; cases hh
      · exact (hne' rfl).elim
    | some news =>
      rw [hnews] at hne' hQ'
      rcases news_inv hk hnews with ⟨b2, o2, m', c', ex', hnl, hnc⟩ | ⟨ad, c', ex', _⟩
      rotate_left
      · injection ex' with _ h2 _; exact (hm h2).elim
      injection ex' with h1 h2 h3
      subst h1 h2
      unfold cpyW at hne' hQ'
      split at hne'
      rotate_left
      · exact (hne' rfl).elim
      rename_i b off cs hcs
      injection hcs with hcs
      subst hcs
      split at hne'
      rotate_left
      · exact (hne' rfl).elim
      rename_i h1
      simp only [if_pos h1] at hQ'
      cases hB : B b with
      | some k => rw [hB] at hne'; exact (hne' rfl).elim
      | none =>
        rw [hB] at hne' hQ'
        simp only [wrB] at hne' hQ'
        cases hw : wrH H b off news with
        | none => rw [hw] at hne'; exact (hne' rfl).elim
        | some H' =>
          rw [hw] at hQ'
          simp only [intR] at hQ'
          obtain ⟨w', r1, r2, r3⟩ := hk.write (P := P) hB hw h1
          have hfc := run_firstCells_some (P := P) w n (min m dl) ⟨b2, o2, none⟩ m mc news hnl (fun j v hj => by rw [addr_add]; exact hnc j v hj)
          refine ⟨.int .i64 (min m dl : Nat), w', H', hrun _ _ _ _ ed ex ?_, r3, r2, fun N' hN' => ?_⟩
          · have hmm : Nat.min m dl = min m dl := rfl
            simp [Builtin.copy_, hty, run_underlying hu, Builtin.lenOf, hmm, run_sizeOf hn, hfc, r1, goInt]
          · refine hQ' N' (good_less (fun y hy => ?_) hN')
            unfold den at hy ⊢
            obtain ⟨cs, n, cs', hl, hwr, hlk⟩ := wrH_spec hw
            rw [hlk] at hy
            by_cases hx : y = b
            · rw [hx] at hy; simp [hB] at hy
            · simpa [hx] using hy
theorem sound_app {o : Oper} {c : Call} (h : o.op = .call c) (hc : c.callee = .builtin .append) : Sound P o (lowerOp P o) := by
  simp only [lowerOp, lowerBI, h, hc]
  split
  rotate_left
  · exact sound_bad
  rename_i ty ty' s x hts has
  split
  rotate_left
  · split
    rotate_left
    · exact sound_bad
    rename_i e kn hu htn
    split
    rotate_left
    · exact sound_bad
    rename_i n z hn hz
    split
    · rename_i hpos; exact sound_appZ h hc hts has hu htn hn hz hpos
    · exact sound_bad
  rename_i heq
  subst heq
  split
  rotate_left
  · exact sound_bad
  rename_i e hu
  split
  rotate_left
  · exact sound_bad
  rename_i n z hn hz
  split
  rotate_left
  · exact sound_bad
  rename_i hpos
  intro w0 w B H t G ρ Q hρ hk h0 hQ
  obtain ⟨i, v, hi, hv, rfl⟩ := zero_inv hz
  have hsz := size_inv hn hi
  have hvs : v.cells.size = n := by simpa using hpos.2
  have hby := bytes_inv (P := P) hi
  have hrun : ∀ (vs vx r : Value) (w' : World), ev t s = vs → ev t x = vx → (Builtin.append_ #[ty, ty] o.type #[vs, vx]).run P w = .ok r w' → Does P ρ o w r w' := by
    intro vs vx r w' e1 e2 hr
    left
    obtain ⟨callee, cargs, cts⟩ := c
    simp only at hc hts has
    subst hc
    have ha : cargs = #[s, x] := by apply Array.ext'; simpa using has
    have ht : cts = #[ty, ty] := by apply Array.ext'; simpa using hts
    subst ha ht
    simp only [execOp, h, resolve, Sem.run_bind, Sem.run_pure, Result.andThen_ok, invoke, builtin]
    simp [hρ, e1, e2, hr]
  have hne := res_elim (f := fun N => stepOp B G ⟨t, H, N⟩ (.app v.cells.toList (bytesO P e) s x)) hk h0 hQ
  have hQ' : ∀ N, good B H N → Q (appR v.cells.toList.length (bytesO P e) B H N (ev t s) (ev t x) (newsV v.cells.toList.length H B (ev t x))) := hQ
  have hzl : v.cells.toList.length = n := by simpa using hpos.2
  rw [hzl] at hQ'
  have hne' : appR n (bytesO P e) B H (stW w) (ev t s) (ev t x) (newsV n H B (ev t x)) ≠ none := by rw [← hzl]; exact hne
  clear hne hQ
  cases hnews : newsV n H B (ev t x) with
  | none => rw [hnews] at hne'; exact (hne' rfl).elim
  | some news =>
    rw [hnews] at hne' hQ'
    simp only [appR] at hne' hQ'
    have hx := news_inv hk hnews
    cases hav : appV n (bytesO P e) B H (stW w) (ev t s) (lenS (ev t x)) news with
    | none =>
      have hQ1 : ∀ N, good B H N → Q (appC n (bytesO P e) B H N (ev t s) (lenS (ev t x)) news) := fun N hN => by
        have := hQ' N hN
        rw [appV_un (N' := N) hav] at this
        exact this
      have hne1 : appC n (bytesO P e) B H (stW w) (ev t s) (lenS (ev t x)) news ≠ none := fun hc => by rw [hav] at hne'; exact hne' hc
      unfold appC at hne1 hQ1
      split at hne1
      rotate_left
      · exact (hne1 rfl).elim
      rename_i b oo sLen sCap es
      split at hne1
      rotate_left
      · exact (hne1 rfl).elim
      rename_i hc1
      rw [es] at hQ1
      simp only [if_pos hc1] at hQ1
      obtain ⟨hm, hle, hroom, hb1, hb2⟩ := hc1
      rw [hby] at hb1
      cases hol : newsV n H B (.slice (some ⟨b, oo, none⟩) sLen sCap) with
      | none => rw [hol] at hne1; exact (hne1 rfl).elim
      | some olds =>
        rw [hol] at hQ1
        have hs := news_inv hk hol
        obtain ⟨hol1, hol2⟩ : olds.length = sLen * n ∧ ∀ j v, olds[j]? = some v → w.cell? (Addr.add ⟨b, oo, none⟩ j) = some v := by
          rcases hs with ⟨b', o', m', c', e1, h1, h2⟩ | ⟨ad, c', e1, h1⟩
          · cases e1; exact ⟨h1, fun j v hj => by rw [addr_add]; exact h2 j v hj⟩
          · cases e1; subst h1; simp
        obtain ⟨b2, o2, m, c2, ex, hnl, hnc⟩ : ∃ b o m c, ev t x = .slice (some ⟨b, o, none⟩) m c ∧ news.length = m * n ∧ ∀ j v, news[j]? = some v → w.cell? ⟨b, o + j, none⟩ = some v := by
          rcases hx with hx | ⟨ad, c', ex, _⟩
          · exact hx
          · rw [ex] at hm; exact (hm rfl).elim
        have hmv : lenS (ev t x) = m := by rw [ex]; rfl
        rw [hmv] at hm hroom hb1 hb2 hQ1
        have hnc' : ∀ j v, news[j]? = some v → w.cell? (Addr.add ⟨b2, o2, none⟩ j) = some v := fun j v hj => by rw [addr_add]; exact hnc j v hj
        have hr := run_append_grow (P := P) w ty o.type e i v hu hi hv ⟨b, oo, none⟩ sLen sCap olds (by rw [hol1, hsz]) hol2 ⟨b2, o2, none⟩ m c2 news (by rw [hsz]; exact hnl) hnc' (by omega) (by omega) (growslice_fits (by omega) hb1)
        have hge := grownCap_ge w (sLen + m) sCap e
        rw [show olds.toArray ++ news.toArray = (olds ++ news).toArray by simp, arr_app] at hr
        have hk' := hk.newD (e := e) (olds ++ news) (Builtin.zeroCells v.cells (grownCap w (sLen + m) sCap e - (sLen + m))).toList (grownCap w (sLen + m) sCap e * n) (by
          rw [List.length_append, zeroCells_len, List.length_append, hol1, hnl, hvs, show sLen * n + m * n = (sLen + m) * n from (Nat.add_mul _ _ _).symm, ← Nat.add_mul]; congr 1; omega)
        refine ⟨_, _, _, hrun _ _ _ _ es ex hr, .alloc w.drew _, hk', fun N' hN' => ?_⟩
        have := hQ1 (consA w.heap.size (grownCap w (sLen + m) sCap e - (sLen + m)) false N') (good_consA (den_fresh hk) hN')
        simp only [appCo, appNew, sh_consA] at this
        simp only [consA] at this
        rw [show sLen + m + (grownCap w (sLen + m) sCap e - (sLen + m)) = grownCap w (sLen + m) sCap e by omega] at this
        exact this
    | some r0 =>
    replace hQ' : ∀ N, good B H N → Q (appV n (bytesO P e) B H N (ev t s) (lenS (ev t x)) news) := fun N hN => by
      have := hQ' N hN
      cases h2 : appV n (bytesO P e) B H N (ev t s) (lenS (ev t x)) news with
      | none => have h3 := appV_un (N' := stW w) h2; rw [hav] at h3; cases h3
      | some r => rw [h2] at this; exact this
    replace hne' : appV n (bytesO P e) B H (stW w) (ev t s) (lenS (ev t x)) news ≠ none := by rw [hav]; simp
    clear hav
    -- nothing is appended
    by_cases hm : lenS (ev t x) = 0
    · obtain ⟨ad, c', ex⟩ : ∃ ad c', ev t x = .slice ad 0 c' := by
        rcases hx with ⟨b, o', m, c', ex, _, _⟩ | ⟨ad, c', ex, _⟩
        · rw [ex] at hm; simp only [lenS] at hm; subst hm; exact ⟨_, _, ex⟩
        · exact ⟨_, _, ex⟩
      unfold appV at hne' hQ'
      split at hne'
      · rename_i es
        rw [es] at hQ'
        simp only [hm, if_true] at hQ'
        exact ⟨_, w, H, hrun _ _ _ _ es ex (run_append_none hu hi w _ _ _ (Nat.le_refl _) _ _), .refl w, hk, hQ'⟩
      · rename_i b sLen sCap es
        rw [es] at hQ'
        simp only [hm, if_true] at hQ' hne'
        split at hne'
        · rename_i hle
          simp only [if_pos hle] at hQ'
          exact ⟨_, w, H, hrun _ _ _ _ es ex (run_append_none hu hi w _ _ _ hle _ _), .refl w, hk, hQ'⟩
        · exact (hne' rfl).elim
      · exact (hne' rfl).elim
    · obtain ⟨b2, o2, m, c2, ex, hnl, hnc⟩ : ∃ b o m c, ev t x = .slice (some ⟨b, o, none⟩) m c ∧ news.length = m * n ∧ ∀ j v, news[j]? = some v → w.cell? ⟨b, o + j, none⟩ = some v := by
        rcases hx with hx | ⟨ad, c', ex, _⟩
        · exact hx
        · rw [ex] at hm; exact (hm rfl).elim
      have hmv : lenS (ev t x) = m := by rw [ex]; rfl
      rw [hmv] at hm hQ' hne'
      have hnc' : ∀ j v, news[j]? = some v → w.cell? (Addr.add ⟨b2, o2, none⟩ j) = some v := fun j v hj => by rw [addr_add]; exact hnc j v hj
      unfold appV at hne' hQ'
      split at hne'
      · -- onto nil
        rename_i es
        rw [es] at hQ'
        simp only [if_neg hm] at hQ' hne'
        split at hne'
        · rename_i hcond
          simp only [if_pos hcond] at hQ'
          rw [hby] at hcond
          have hr := run_append_nil (P := P) w ty o.type e i v hu hi hv ⟨b2, o2, none⟩ m c2 news (by rw [hsz]; exact hnl) hnc' (by omega) (by omega) (by omega)
          have hge := grownCap_ge w m 0 e
          rw [arr_app] at hr
          have hk' := hk.newD (e := e) news (Builtin.zeroCells v.cells (grownCap w m 0 e - m)).toList (grownCap w m 0 e * n) (by
            rw [List.length_append, zeroCells_len, hnl, hvs, ← Nat.add_mul]; congr 1; omega)
          refine ⟨_, _, _, hrun _ _ _ _ es ex hr, .alloc w.drew _, hk', fun N' hN' => ?_⟩
          have := hQ' (consA w.heap.size (grownCap w m 0 e - m) false N') (good_consA (den_fresh hk) hN')
          simp only [appNew, sh_consA] at this
          simp only [consA] at this
          rw [show m + (grownCap w m 0 e - m) = grownCap w m 0 e by omega] at this
          exact this
        · exact (hne' rfl).elim
      · -- onto a slice of one's own
        rename_i b sLen sCap es
        rw [es] at hQ'
        simp only [if_neg hm] at hQ' hne'
        split at hne'
        · rename_i hcond
          simp only [if_pos hcond] at hQ'
          rw [hby] at hcond
          cases hlk : lk H b with
          | none => rw [hlk] at hne'; exact (hne' rfl).elim
          | some kb =>
            rw [hlk] at hne' hQ'
            cases kb with
            | ro f => exact (hne' rfl).elim
            | map es' clk => exact (hne' rfl).elim
            | loop r0 st => exact (hne' rfl).elim
            | dfr => exact (hne' rfl).elim
            | cells cs k =>
              simp only [appOld] at hne' hQ'
              split at hne'
              · rename_i hc2
                simp only [if_pos hc2] at hQ'
                obtain ⟨hB, hkc, hle, hone⟩ := hc2
                have hB' : B b = none := by cases hb : B b <;> simp_all
                cases htk : tk cs 0 (sLen * n) with
                | none => rw [htk] at hne'; exact (hne' rfl).elim
                | some olds =>
                  rw [htk] at hQ'
                  simp only [Option.bind_some] at hQ'
                  obtain ⟨hol, hlen⟩ := tk_takeL cs _ _ htk
                  have hd : den H B b = some (.cells cs k) := by simp [den, hlk, hB']
                  obtain ⟨hlt, arr, e', harr, hsz', hle', hcs⟩ := hk.own b _ hd
                  by_cases hroom : sLen + m ≤ sCap
                  · obtain ⟨w', r1, r2, r3⟩ := hk.extend (P := P) (o := sLen * n) (vs := news) hB' hlk hlen (by rw [hnl, hkc, ← Nat.add_mul]; exact Nat.mul_le_mul_right _ hroom) hone
                    have hfc := run_firstCells_some (P := P) w i.size m ⟨b2, o2, none⟩ m c2 news (by rw [hsz]; exact hnl) hnc'
                    rw [hsz] at hfc
                    have hr : (Builtin.append_ #[ty, ty] o.type #[.slice (some ⟨b, 0, none⟩) sLen sCap, .slice (some ⟨b2, o2, none⟩) m c2]).run P w = .ok (.slice (some ⟨b, 0, none⟩) (sLen + m) sCap) w' := by
                      simp [Builtin.append_, run_underlying hu, sizeOf, typeInfo, hi, Builtin.lenOf, hroom, hfc, addr_add, hsz, r1]
                    rw [← hol] at r2
                    refine ⟨_, w', _, hrun _ _ _ _ es ex hr, r3, r2, fun N' hN' => ?_⟩
                    have hdn : ∀ y, den ((b, .cells (olds ++ news) k) :: H) B y = none → den H B y = none := by
                      intro y hy
                      unfold den at hy ⊢
                      cases hBy : B y with
                      | some _ => simp [hBy] at hy
                      | none =>
                        simp only [hBy, lk] at hy ⊢
                        by_cases hyb : y = b
                        · subst hyb; simp at hy
                        · have : (y == b) = false := by simpa using hyb
                          simpa only [this, cond_false] using hy
                    obtain ⟨r, hgood⟩ := good_spare (e := sCap - (sLen + m)) (b := true) (good_less hdn hN')
                    have := hQ' _ hgood
                    simp only [appNew, sh_consA] at this
                    have hbr : Nat.ble (sLen + m) sCap = true := by rw [Nat.ble_eq]; exact hroom
                    simp only [consA, hbr, Bool.and_self, cond_true] at this
                    rw [show sLen + m + (sCap - (sLen + m)) = sCap by omega, ← hkc] at this
                    exact this
                  · have hr := run_append_grow (P := P) w ty o.type e i v hu hi hv ⟨b, 0, none⟩ sLen sCap olds (by rw [(tk_spec _ _ _ _ htk).1, hsz]) (fun j v hj => by
                        rw [addr_add]
                        have := hcs _ _ (by have := (tk_spec _ _ _ _ htk).2 j v hj; simpa using this)
                        simp [World.cell?, harr, this]) ⟨b2, o2, none⟩ m c2 news (by rw [hsz]; exact hnl) hnc' (by omega) (by omega) (growslice_fits (by omega) hcond.1)
                    have hge := grownCap_ge w (sLen + m) sCap e
                    rw [show olds.toArray ++ news.toArray = (olds ++ news).toArray by simp, arr_app] at hr
                    have hol' := (tk_spec _ _ _ _ htk).1
                    have hk' := hk.newD (e := e) (olds ++ news) (Builtin.zeroCells v.cells (grownCap w (sLen + m) sCap e - (sLen + m))).toList (grownCap w (sLen + m) sCap e * n) (by
                      rw [List.length_append, zeroCells_len, List.length_append, hol', hnl, hvs, show sLen * n + m * n = (sLen + m) * n from (Nat.add_mul _ _ _).symm, ← Nat.add_mul]; congr 1; omega)
                    refine ⟨_, _, _, hrun _ _ _ _ es ex hr, .alloc w.drew _, hk', fun N' hN' => ?_⟩
                    have := hQ' (consA w.heap.size (grownCap w (sLen + m) sCap e - (sLen + m)) false N') (good_consA (den_fresh hk) hN')
                    simp only [appNew, sh_consA] at this
                    simp only [consA, Bool.false_and, cond_false] at this
                    rw [show sLen + m + (grownCap w (sLen + m) sCap e - (sLen + m)) = grownCap w (sLen + m) sCap e by omega] at this
                    exact this
              · exact (hne' rfl).elim
        · exact (hne' rfl).elim
      · exact (hne' rfl).elim

theorem sound_tass {o : Oper} {x : Operand} {a ty : TypeId} {b : Bool} (h : o.op = .typeAssert x a ty b) : Sound P o (lowerOp P o) := by
  cases b with
  | false => simp only [lowerOp, h]; exact sound_bad
  | true =>
    simp only [lowerOp, h]
    split
    · exact sound_bad
    · rename_i d hd hn
      split
      · rename_i z hz
        refine sound_pure (fun t _ _ => tassV ty z (ev t x)) (fun _ _ _ => rfl) fun w0 w B H t ρ v hρ hk hv => ?_
        left
        have hz' : ∀ w, (zeroValue ty).run P w = .ok z w := by
          intro w
          unfold zeroV at hz
          cases hi : P.info? ty with
          | none => simp [hi] at hz
          | some i => simp [hi] at hz; simp [zeroValue, typeInfo, hi, hz]
        simp only [execOp, h, hρ]
        unfold tassV at hv
        split at hv
        · rename_i e
          simp only [Option.some.injEq] at hv
          subst hv
          rw [e]
          simp only [Instr.typeAssert, Sem.run_bind, run_underlying hn, Result.andThen_ok]
          cases d <;> first | (exact (hd _ rfl).elim) | simp [hz']
        · rename_i t' u e
          rw [e]
          simp only [Instr.typeAssert, Sem.run_bind, run_underlying hn, Result.andThen_ok]
          split at hv
          · rename_i ht
            simp only [Option.some.injEq] at hv
            subst hv
            cases d <;> first | (exact (hd _ rfl).elim) | simp [ht]
          · rename_i ht
            simp only [Option.some.injEq] at hv
            subst hv
            cases d <;> first | (exact (hd _ rfl).elim) | simp [ht, hz']
        · cases hv
      · exact sound_bad
    · exact sound_bad
theorem sound_isn {o : Oper} {op : BinOp} {ty u : TypeId} {x y : Operand} {neg : Bool} (h : o.op = .binOp op ty x y u) (hop : (op = .eql ∧ neg = false) ∨ (op = .neq ∧ neg = true)) (hy : y = .const .nilIface) {m : Array (String × TypeId)} (hu : P.underlying ty = some (.interface m)) :
    Sound P o (.isn neg x) := by
  subst hy
  refine sound_pure (fun t _ _ => isnV neg (ev t x)) (fun _ _ _ => rfl) fun w0 w B H t ρ v hρ hk hv => ?_
  left
  have hcn : ev t (.const .nilIface) = .nilIface := rfl
  obtain ⟨d1, hd1⟩ : ∃ d, Op.maxDepth = d + 1 := ⟨_, rfl⟩
  simp only [execOp, h, hρ]
  unfold isnV at hv
  split at hv
  · rename_i e
    simp only [Option.some.injEq] at hv
    subst hv
    rcases hop with ⟨rfl, rfl⟩ | ⟨rfl, rfl⟩ <;> simp [e, hcn, eqGuard, binOp, Op.equal, hd1, Op.equalIn, run_underlying hu]
  · rename_i t' u' e
    simp only [Option.some.injEq] at hv
    subst hv
    rcases hop with ⟨rfl, rfl⟩ | ⟨rfl, rfl⟩ <;> simp [e, hcn, eqGuard, binOp, Op.equal, hd1, Op.equalIn, run_underlying hu]
  · cases hv
end Go.Proofs.YtbpaekbjpapgeaaGreatDoor.K
namespace Go.Proofs.YtbpaekbjpapgeaaGreatDoor.K
variable {P : Program} {w0 w : World} {B : OH} {H : HL} {t : List Value} {G : Env}
open MapKept

theorem mapT_inv {t : TypeId} {kd : IntKind} {e : TypeId} (h : mapT P t = some (kd, e)) : ∃ k, P.underlying t = some (.map k e) ∧ P.underlying k = some (.int kd) := by
  unfold mapT at h
  split at h
  · rename_i k e' hu
    split at h
    · rename_i kd' hk
      simp only [Option.some.injEq, Prod.mk.injEq] at h
      obtain ⟨rfl, rfl⟩ := h
      exact ⟨k, hu, hk⟩
    · cases h
  · cases h
theorem run_zeroV {e : TypeId} {z : Value} (h : zeroV P e = some z) (w : World) : (zeroValue e).run P w = .ok z w := by
  unfold zeroV at h
  cases hi : P.info? e with
  | none => simp [hi] at h
  | some i =>
    simp only [hi, Option.bind_some] at h
    simp [zeroValue, typeInfo, hi, h]
theorem mapF_inv (hk : Knows w0 (den H B) w) {kd : IntKind} {r : Nat} {f : Int → Option Value} (h : mapF kd (B r) (lk H r) = some f) :
    B r = none ∧ lk H r = some (.map kd f) ∧ w0.heap.size ≤ r ∧ r < w.heap.size ∧ ∃ es c, w.heap[r]? = some (.map es c) ∧ Stamped es c ∧ (∀ x ∈ es.toList, IsKey (.int kd) x.key) ∧ ∀ n v, f n = some v ↔ ∃ x ∈ es.toList, x.key = .int kd n ∧ x.val = v := by
  cases hB : B r with
  | some k => simp [mapF, hB] at h
  | none =>
    rw [hB] at h
    cases hl : lk H r with
    | none => simp [mapF, hl] at h
    | some k =>
      rw [hl] at h
      cases k with
      | map k' f' =>
        simp only [mapF] at h
        split at h
        · rename_i hkk
          subst hkk
          simp only [Option.some.injEq] at h
          subst h
          have hd : den H B r = some (.map k' f') := by simp [den, hB, hl]
          obtain ⟨h1, h2⟩ := hk.own r _ hd
          exact ⟨rfl, rfl, hk.mine r (.inr ⟨_, _, hd⟩), h1, h2⟩
        · cases h
      | _ => simp [mapF] at h
theorem den_set {r : Nat} {k : KB} (hB : B r = none) (x : Nat) : den ((r, k) :: H) B x = if x = r then some k else den H B x := by
  unfold den
  simp only [lk]
  by_cases hx : x = r
  · subst hx; simp [hB]
  · have : (x == r) = false := by simpa using hx
    simp [hx, this]
theorem Knows.setMap (hk : Knows w0 (den H B) w) {r : Nat} {kd : IntKind} {f f' : Int → Option Value} {es es' : Array MapEntry} {c c' : Nat} (hB : B r = none) (hl : lk H r = some (.map kd f)) (hw : w.heap[r]? = some (.map es c))
    (hs : Stamped es' c') (hi : ∀ x ∈ es'.toList, IsKey (.int kd) x.key) (hf : ∀ n v, f' n = some v ↔ ∃ x ∈ es'.toList, x.key = .int kd n ∧ x.val = v) :
    Knows w0 (den ((r, .map kd f') :: H) B) { w with heap := w.heap.setIfInBounds r (.map es' c') } ∧ KeepD w { w with heap := w.heap.setIfInBounds r (.map es' c') } := by
  have hd : den H B r = some (.map kd f) := by simp [den, hB, hl]
  have h0 := hk.mine r (.inr ⟨_, _, hd⟩)
  obtain ⟨g1, g2⟩ := MapKept.heap_set (o' := .map es' c') hw
  have hlt := (hk.own r _ hd).1
  refine ⟨⟨hk.os, hk.tape, hk.output, by simpa using hk.size, fun b hb => ?_, fun x k hx => ?_, fun a ha => ?_, fun x hx => ?_, fun x hx => ?_⟩, by simp, fun b ds hb => ?_⟩
  · show (w.heap.setIfInBounds r _)[b]? = _
    rw [g2 b (by omega)]; exact hk.old b hb
  · rw [den_set hB] at hx
    by_cases h : x = r
    · subst h
      rw [if_pos rfl, Option.some.injEq] at hx
      subst hx
      exact ⟨by simpa using hlt, es', c', g1, hs, hi, hf⟩
    · rw [if_neg h] at hx
      obtain ⟨q1, q2⟩ := hk.own x k hx
      refine ⟨by simpa using q1, ?_⟩
      show k.is (w.heap.setIfInBounds r _)[x]?
      rw [g2 x h]; exact q2
  · by_cases h : a.block = r
    · have : (w.heap.setIfInBounds r (Obj.map es' c'))[a.block]? = some (.map es' c') := by rw [h]; exact g1
      unfold World.frozen?
      simp only [this]
    · have := hk.fz a ha
      unfold World.frozen? at this ⊢
      simp only [g2 _ h]; exact this
  · by_cases h : x = r
    · subst h; exact h0
    · refine hk.mine x ?_
      simpa [den_set hB, h] using hx
  · by_cases h : x = r
    · subst h; exact h0
    · refine hk.mineL x ?_
      simpa [den_set hB, h] using hx
  · have : b ≠ r := fun e => by subst e; rw [hw] at hb; cases hb
    show (w.heap.setIfInBounds r _)[b]? = _
    rw [g2 b this]; exact hb
theorem Knows.newMap (hk : Knows w0 (den H B) w) (kd : IntKind) :
    Knows w0 (den ((w.heap.size, .map kd fun _ => none) :: H) B) (w.alloc (.map #[] 0)) := by
  refine ⟨hk.os, hk.tape, hk.output, by have := hk.size; simp; omega, fun b hb => ?_, fun r k hr => ?_, fun a ha => ?_, fun r hr => ?_, fun r hr => ?_⟩
  · show (w.heap.push _)[b]? = _
    rw [Array.getElem?_push, if_neg (by have := hk.size; omega)]; exact hk.old b hb
  · rw [den_cons (den_fresh hk)] at hr
    by_cases h : r = w.heap.size
    · subst h
      simp only [if_true, Option.some.injEq] at hr
      subst hr
      refine ⟨by simp, #[], 0, ?_, stamped_empty 0, by simp, by simp⟩
      show (w.heap.push _)[w.heap.size]? = _
      simp
    · rw [if_neg h] at hr
      obtain ⟨h1, h2⟩ := hk.own r k hr
      refine ⟨by simp; omega, ?_⟩
      show k.is (w.heap.push _)[r]?
      rw [Array.getElem?_push, if_neg h]; exact h2
  · by_cases h : a.block = w.heap.size
    · cases a with
      | mk b o s => simp only at h; subst h; show (match (w.heap.push (Obj.map #[] 0))[w.heap.size]? with | some (.cells _ _ (lo, hi)) => decide (lo ≤ o) && decide (o < hi) | _ => false) = false; simp
    · rw [World.frozen?_alloc_old _ _ _ h]; exact hk.fz a ha
  · by_cases h : r = w.heap.size
    · subst h; exact hk.size
    · refine hk.mine r ?_
      simpa [den_cons (den_fresh hk), h] using hr
  · by_cases h : r = w.heap.size
    · subst h; exact hk.size
    · refine hk.mineL r ?_
      simpa [den_cons (den_fresh hk), h] using hr

theorem sound_mkmap {o : Oper} {ty e : TypeId} {kd : IntKind} (h : o.op = .makeMap ty none) (hm : mapT P ty = some (kd, e)) : Sound P o (.mkmap kd) := by
  intro w0 w B H t G ρ Q hρ hk h0 hQ
  refine ⟨.map (some w.heap.size), w.alloc (.map #[] 0), _, .inl ?_, .alloc _ _, hk.newMap kd, fun N' hN' => ?_⟩
  · simp [execOp, h, Instr.makeMap]
  · have := hQ (consN w.heap.size N') (good_cons (den_fresh hk) hN')
    simpa [stepOp, mkM, consN, consA, sh_consN, sh] using this
theorem found {es : Array MapEntry} {kd : IntKind} {f : Int → Option Value} (hi : ∀ x ∈ es.toList, IsKey (.int kd) x.key) (hf : ∀ n v, f n = some v ↔ ∃ x ∈ es.toList, x.key = .int kd n ∧ x.val = v) (n : Int) :
    (Instr.findNow (.int kd) (.int kd n) es.toList 0 = some none ∧ f n = none ∧ ∀ x ∈ es.toList, x.key ≠ .int kd n) ∨ ∃ j e, Instr.findNow (.int kd) (.int kd n) es.toList 0 = some (some (j, e.val)) ∧ es.toList[j]? = some e ∧ e.key = .int kd n ∧ f n = some e.val := by
  rcases findNow_spec (show IsKey (.int kd) (.int kd n) from rfl) es.toList 0 hi with ⟨h1, h2⟩ | ⟨j, e, h1, h2, h3⟩
  · left
    refine ⟨h1, ?_, h2⟩
    cases hv : f n with
    | none => rfl
    | some v => obtain ⟨x, hx, hk, _⟩ := (hf n v).1 hv; exact (h2 x hx hk).elim
  · right
    have h2' : es.toList[j]? = some e := by simpa using h2
    exact ⟨j, e, by simpa using h1, h2', h3, (hf n e.val).2 ⟨e, List.mem_of_getElem? h2', h3, rfl⟩⟩
theorem sound_mlook {o : Oper} {ty e : TypeId} {kd : IntKind} {z : Value} {m i : Operand} {ok : Bool} (h : o.op = .lookup ty m i ok) (hm : mapT P ty = some (kd, e)) (hz : zeroV P e = some z) : Sound P o (.mlook kd z ok m i) :=
  sound_pure (fun t H B => lookV kd z ok H B (ev t m) (ev t i)) (fun _ _ _ => rfl) fun w0 w B H t ρ v hρ hk hv => by
    obtain ⟨k, hu, hkk⟩ := mapT_inv hm
    unfold lookV at hv
    split at hv
    · rename_i r k' n em en
      split at hv
      · rename_i hkd
        subst hkd
        cases hF : mapF k' (B r) (lk H r) with
        | none => rw [hF] at hv; cases hv
        | some f =>
          rw [hF] at hv
          simp only [lookF, Option.some.injEq] at hv
          obtain ⟨_, _, _, _, es, c, hw, hs, hi, hf⟩ := mapF_inv hk hF
          left
          have hkey : IsKey (.int k') (.int k' n) := rfl
          rcases found hi hf n with ⟨h1, h2, _⟩ | ⟨j, e', h1, _, _, h2⟩
          · subst hv
            rw [h2]
            cases ok <;> simp [execOp, h, hρ, em, en, Instr.lookup, run_underlying hu, MapKept.run_getObj_map hw, run_checkKey hkk hkey, run_findKey hkk h1, run_zeroV hz, Result.andThen, lookR]
          · subst hv
            rw [h2]
            cases ok <;> simp [execOp, h, hρ, em, en, Instr.lookup, run_underlying hu, MapKept.run_getObj_map hw, run_checkKey hkk hkey, run_findKey hkk h1, Result.andThen, lookR]
      · cases hv
    · cases hv

theorem upd_push {es : Array MapEntry} {kd : IntKind} {f : Int → Option Value} (hf : ∀ n v, f n = some v ↔ ∃ x ∈ es.toList, x.key = .int kd n ∧ x.val = v) {n : Int} {v : Value} {c : Nat} (hno : f n = none) :
    ∀ m u, updF f n (some v) m = some u ↔ ∃ x ∈ (es.push ⟨.int kd n, v, c⟩).toList, x.key = .int kd m ∧ x.val = u := fun m u => by
  simp only [updF, Array.toList_push, List.mem_append, List.mem_singleton]
  constructor
  · intro h
    split at h
    · rename_i hm
      subst hm
      exact ⟨_, .inr rfl, rfl, by simpa using h⟩
    · obtain ⟨x, hx, h1⟩ := (hf m u).1 h
      exact ⟨x, .inl hx, h1⟩
  · rintro ⟨x, hx | rfl, h1, h2⟩
    · have := (hf m u).2 ⟨x, hx, h1, h2⟩
      split
      · rename_i hm; subst hm; rw [hno] at this; cases this
      · exact this
    · simp only [Value.int.injEq, true_and] at h1
      simp only at h2
      rw [if_pos h1.symm, h2]
theorem uniq {es : Array MapEntry} {c : Nat} (hs : Stamped es c) {i j : Nat} {x y : MapEntry} (hx : es.toList[i]? = some x) (hy : es.toList[j]? = some y) (h : x.key = y.key) : i = j := by
  have h3 := hs.2.2
  have hi : i < (es.toList.map (·.key)).length := by simpa using (List.getElem?_eq_some_iff.1 hx).1
  exact (List.getElem?_inj hi h3).1 (by simp [hx, hy, h])
theorem upd_mod {es : Array MapEntry} {c : Nat} (hs : Stamped es c) {kd : IntKind} {f : Int → Option Value} (hf : ∀ n v, f n = some v ↔ ∃ x ∈ es.toList, x.key = .int kd n ∧ x.val = v) {n : Int} {v : Value} {j : Nat} {e : MapEntry} (hj : es.toList[j]? = some e) (he : e.key = .int kd n) :
    ∀ m u, updF f n (some v) m = some u ↔ ∃ x ∈ (es.modify j fun e => { e with key := .int kd n, val := v }).toList, x.key = .int kd m ∧ x.val = u := fun m u => by
  have hmem : ∀ x, x ∈ (es.modify j fun e => { e with key := .int kd n, val := v }).toList ↔ ∃ i, (if j = i then (es.toList[i]?).map (fun e => { e with key := .int kd n, val := v }) else es.toList[i]?) = some x := fun x => by
    rw [List.mem_iff_getElem?]
    simp only [Array.getElem?_toList, Array.getElem?_modify]
  constructor
  · intro h
    unfold updF at h
    split at h
    · rename_i hm
      subst hm
      exact ⟨{ e with key := .int kd m, val := v }, (hmem _).2 ⟨j, by rw [if_pos rfl, hj]; rfl⟩, rfl, by simpa using h⟩
    · rename_i hm
      obtain ⟨x, hx, h1, h2⟩ := (hf m u).1 h
      obtain ⟨i, hi⟩ := List.mem_iff_getElem?.1 hx
      refine ⟨x, (hmem _).2 ⟨i, ?_⟩, h1, h2⟩
      have : ¬ j = i := fun e' => by
        subst e'
        rw [hj] at hi
        obtain rfl : e = x := Option.some.inj hi
        rw [he] at h1
        exact hm (by simpa using h1.symm)
      rw [if_neg this, hi]
  · rintro ⟨x, hx, h1, h2⟩
    obtain ⟨i, hi⟩ := (hmem x).1 hx
    unfold updF
    by_cases hji : j = i
    · subst hji
      rw [if_pos rfl, hj] at hi
      simp only [Option.map_some, Option.some.injEq] at hi
      subst hi
      simp only [Value.int.injEq, true_and] at h1
      rw [if_pos h1.symm]
      simpa using h2
    · rw [if_neg hji] at hi
      have hm : ¬ m = n := fun e' => hji (by subst e'; exact uniq hs hj hi (by rw [he, h1]))
      rw [if_neg hm]
      exact (hf m u).2 ⟨x, List.mem_of_getElem? hi, h1, h2⟩
theorem upd_erase {es : Array MapEntry} {c : Nat} (hs : Stamped es c) {kd : IntKind} {f : Int → Option Value} (hf : ∀ n v, f n = some v ↔ ∃ x ∈ es.toList, x.key = .int kd n ∧ x.val = v) {n : Int} {j : Nat} {e : MapEntry} (hj : es.toList[j]? = some e) (he : e.key = .int kd n) :
    ∀ m u, updF f n none m = some u ↔ ∃ x ∈ (es.eraseIdxIfInBounds j).toList, x.key = .int kd m ∧ x.val = u := fun m u => by
  have hlt := (List.getElem?_eq_some_iff.1 hj).1
  have hel : (es.eraseIdxIfInBounds j).toList = es.toList.eraseIdx j := by
    unfold Array.eraseIdxIfInBounds
    rw [dif_pos (by simpa using hlt)]
    simp
  have hmem : ∀ x, x ∈ es.toList.eraseIdx j ↔ ∃ i, i ≠ j ∧ es.toList[i]? = some x := fun x => List.mem_eraseIdx_iff_getElem?
  rw [hel]
  constructor
  · intro h
    unfold updF at h
    split at h
    · cases h
    · rename_i hm
      obtain ⟨x, hx, h1, h2⟩ := (hf m u).1 h
      obtain ⟨i, hi⟩ := List.mem_iff_getElem?.1 hx
      refine ⟨x, (hmem _).2 ⟨i, fun e' => ?_, hi⟩, h1, h2⟩
      subst e'
      rw [hj] at hi
      obtain rfl : e = x := Option.some.inj hi
      rw [he] at h1
      exact hm (by simpa using h1.symm)
  · rintro ⟨x, hx, h1, h2⟩
    obtain ⟨i, hij, hi⟩ := (hmem x).1 hx
    have hm : ¬ m = n := fun e' => hij (by subst e'; exact uniq hs hi hj (by rw [he, h1]))
    unfold updF
    rw [if_neg hm]
    exact (hf m u).2 ⟨x, List.mem_of_getElem? hi, h1, h2⟩
theorem good_setM {r : Nat} {k k' : KB} {N : St} (hB : B r = none) (hl : lk H r = some k') (hN : good B ((r, k) :: H) N) : good B H N :=
  good_less (fun y hy => by
    rw [den_set hB] at hy
    split at hy
    · cases hy
    · exact hy) hN
theorem sound_mupd {o : Oper} {ty e : TypeId} {kd : IntKind} {m i x : Operand} (h : o.op = .mapUpdate ty m i x) (hm : mapT P ty = some (kd, e)) : Sound P o (.mupd kd m i x) := by
  intro w0 w B H t G ρ Q hρ hk h0 hQ
  obtain ⟨kt, hu, hkk⟩ := mapT_inv hm
  have hne := res_elim (f := fun N => mupdV kd B H N (ev t m) (ev t i) (ev t x)) hk h0 hQ
  unfold mupdV at hne
  split at hne
  · rename_i r k' n em en
    split at hne
    · rename_i hkd
      subst hkd
      cases hF : mapF k' (B r) (lk H r) with
      | none => rw [hF] at hne; exact (hne rfl).elim
      | some f =>
        obtain ⟨hB, hl, h00, hlt, es, c, hw, hs, hi, hf⟩ := mapF_inv hk hF
        have hkey : IsKey (.int k') (.int k' n) := rfl
        have fin : ∀ es' c', Stamped es' c' → (∀ y ∈ es'.toList, IsKey (.int k') y.key) → (∀ m u, updF f n (some (ev t x)) m = some u ↔ ∃ y ∈ es'.toList, y.key = .int k' m ∧ y.val = u) → Does P ρ o w undef { w with heap := w.heap.setIfInBounds r (.map es' c') } →
            ∃ v w' H', Does P ρ o w v w' ∧ KeepD w w' ∧ Knows w0 (den H' B) w' ∧ ∀ N', good B H' N' → Q (some (v, H', N')) := fun es' c' a1 a2 a3 a4 => by
          obtain ⟨q1, q2⟩ := hk.setMap hB hl hw a1 a2 a3
          refine ⟨undef, _, _, a4, q2, q1, fun N' hN' => ?_⟩
          have := hQ N' (good_setM hB hl hN')
          simpa [stepOp, mupdV, em, en, hF, setM] using this
        rcases found hi hf n with ⟨h1, h2, h3⟩ | ⟨j, e', h1, hj, he, h2⟩
        · refine fin (es.push ⟨.int k' n, ev t x, c⟩) (c + 1) (stamped_push hs h3) ?_ (upd_push hf h2) (.inr ⟨?_, rfl⟩)
          · intro y hy
            simp only [Array.toList_push, List.mem_append, List.mem_singleton] at hy
            rcases hy with hy | rfl
            · exact hi y hy
            · exact hkey
          · simp [execOp, h, hρ, em, en, Instr.mapUpdate, run_underlying hu, MapKept.run_getObj_map hw, run_checkKey hkk hkey, run_findKey hkk h1, MapKept.run_setObj_map _ hw, Result.andThen]
        · have hj' : es[j]? = some e' := by simpa using hj
          have hkeyf : ∀ e'', es[j]? = some e'' → ({ e'' with key := .int k' n, val := ev t x } : MapEntry).key = e''.key := fun e'' he'' => by rw [hj'] at he''; cases he''; exact he.symm
          refine fin (es.modify j fun e => { e with key := .int k' n, val := ev t x }) c (stamped_modify hs j _ (fun _ _ => rfl) (fun e'' _ he'' => hkeyf e'' he'')) (isKey_modify hi j _ hkeyf) (upd_mod hs hf hj he) (.inr ⟨?_, rfl⟩)
          simp [execOp, h, hρ, em, en, Instr.mapUpdate, run_underlying hu, MapKept.run_getObj_map hw, run_checkKey hkk hkey, run_findKey hkk h1, hj', he, run_keyThatStays hkey, MapKept.run_setObj_map _ hw, Result.andThen]
    · exact (hne rfl).elim
  · exact (hne rfl).elim
theorem sound_mdel {o : Oper} {c : Call} {ty e : TypeId} {kd : IntKind} {m i : Operand} (h : o.op = .call c) (hc : c.callee = .builtin .delete) (ht : c.argTypes[0]? = some ty) (ha : c.args.toList = [m, i]) (hm : mapT P ty = some (kd, e)) : Sound P o (.mdel kd m i) := by
  intro w0 w B H t G ρ Q hρ hk h0 hQ
  obtain ⟨kt, hu, hkk⟩ := mapT_inv hm
  obtain ⟨cc, args, ats⟩ := c
  simp only at hc ht ha
  subst hc
  have hne := res_elim (f := fun N => mdelV kd B H N (ev t m) (ev t i)) hk h0 hQ
  unfold mdelV at hne
  split at hne
  · rename_i r k' n em en
    split at hne
    · rename_i hkd
      subst hkd
      cases hF : mapF k' (B r) (lk H r) with
      | none => rw [hF] at hne; exact (hne rfl).elim
      | some f =>
        obtain ⟨hB, hl, h00, hlt, es, c, hw, hs, hi, hf⟩ := mapF_inv hk hF
        have hkey : IsKey (.int k') (.int k' n) := rfl
        have hargs : args.map ρ = #[.map (some r), .int k' n] := by
          apply Array.ext'
          simp [ha, hρ, em, en]
        have fin : ∀ es' c', Stamped es' c' → (∀ y ∈ es'.toList, IsKey (.int k') y.key) → (∀ m u, updF f n none m = some u ↔ ∃ y ∈ es'.toList, y.key = .int k' m ∧ y.val = u) → Does P ρ o w (.tuple #[]) { w with heap := w.heap.setIfInBounds r (.map es' c') } →
            ∃ v w' H', Does P ρ o w v w' ∧ KeepD w w' ∧ Knows w0 (den H' B) w' ∧ ∀ N', good B H' N' → Q (some (v, H', N')) := fun es' c' a1 a2 a3 a4 => by
          obtain ⟨q1, q2⟩ := hk.setMap hB hl hw a1 a2 a3
          refine ⟨.tuple #[], _, _, a4, q2, q1, fun N' hN' => ?_⟩
          have := hQ N' (good_setM hB hl hN')
          simpa [stepOp, mdelV, em, en, hF, setM] using this
        rcases found hi hf n with ⟨h1, h2, h3⟩ | ⟨j, e', h1, hj, he, h2⟩
        · refine fin es c hs hi (fun m u => ?_) (.inl ?_)
          · unfold updF
            split
            · rename_i hmn
              subst hmn
              rw [← hf, h2]
            · exact hf m u
          · simp [execOp, h, resolve_builtin, hargs, invoke, builtin, Builtin.delete_, ht, run_underlying hu, MapKept.run_getObj_map hw, run_checkKey hkk hkey, run_findKey hkk h1, MapKept.run_setObj_map _ hw, Result.andThen]
        · refine fin (es.eraseIdxIfInBounds j) c (stamped_erase hs j) ?_ (upd_erase hs hf hj he) (.inl ?_)
          · intro y hy
            have hss : (es.eraseIdxIfInBounds j).toList.Sublist es.toList := by
              unfold Array.eraseIdxIfInBounds
              split
              · simp only [Array.toList_eraseIdx]; exact List.eraseIdx_sublist _ _
              · exact List.Sublist.refl _
            exact hi y (hss.subset hy)
          · simp [execOp, h, resolve_builtin, hargs, invoke, builtin, Builtin.delete_, ht, run_underlying hu, MapKept.run_getObj_map hw, run_checkKey hkk hkey, run_findKey hkk h1, MapKept.run_setObj_map _ hw, Result.andThen]
    · exact (hne rfl).elim
  · exact (hne rfl).elim
end Go.Proofs.YtbpaekbjpapgeaaGreatDoor.K
namespace Go.Proofs.YtbpaekbjpapgeaaGreatDoor.K
variable {P : Program} {w0 w : World} {B : OH} {H : HL} {t : List Value} {G : Env}

theorem isCall_or (P : Program) (o : Oper) : Sound P o (lowerOp P o) ∨ (∃ x, o.op = .panic x ∧ lowerOp P o = .pan x) ∨ (∃ c f, o.op = .call c ∧ c.callee = .value f ∧ (∀ v, f ≠ .const v) ∧ lowerOp P o = .call f c.args.toList) ∨ ∃ c r m, o.op = .call c ∧ c.callee = .invoke r m ∧ lowerOp P o = .call (.const (.tuple (mrows P m).toArray)) (r :: c.args.toList) := by
  cases ho : o.op with
  | call c =>
    cases hc : c.callee with
    | value f =>
      by_cases hk : ∃ v, f = .const v
      · obtain ⟨v, rfl⟩ := hk
        left; simp only [lowerOp, ho, hc]; exact sound_bad
      · have hk' : ∀ v, f ≠ .const v := fun v e => hk ⟨v, e⟩
        have hl : lowerOp P o = (match extOf P f with
          | none => .call f c.args.toList
          | some b => (match c.args.toList with | [x] => .fbits b x | _ => .bad)) := by
          simp only [lowerOp, ho, hc] <;> (cases f <;> first | rfl | exact (hk' _ rfl).elim)
        cases hx : extOf P f with
        | none => exact .inr (.inr (.inl ⟨c, f, rfl, hc, hk', by rw [hl, hx]⟩))
        | some b =>
          left
          rw [hl, hx]
          simp only
          split
          · rename_i x ha; exact sound_fbits ho hc ha hx
          · exact sound_bad
    | invoke r m => exact .inr (.inr (.inr ⟨c, r, m, rfl, hc, by simp only [lowerOp, ho, hc]⟩))
    | builtin b =>
      left
      by_cases hb : b = .append
      · subst hb; exact sound_app ho hc
      · simp only [lowerOp, ho, hc]
        cases b <;> simp only [lowerBI] <;> first | (exact sound_bad) | (exact (hb rfl).elim) | skip
        · -- cap
          cases ht : c.argTypes[0]? with
          | none => simp only [Option.bind_none]; exact sound_bad
          | some ty =>
            simp only [Option.bind_some]
            split
            · rename_i e x hu ha; exact sound_cap ho hc ha ht hu
            · exact sound_bad
        · -- copy
          split
          · rename_i e d x ht ha
            cases hty : c.argTypes[0]? with
            | none => rw [hty] at ht; simp at ht
            | some ty =>
              rw [hty] at ht
              split
              · rename_i n hn; exact sound_cpy ho hc hty ht ha hn
              · exact sound_bad
          · exact sound_bad
        · -- delete
          split
          · rename_i kd e m i ht ha
            cases hty : c.argTypes[0]? with
            | none => rw [hty] at ht; simp at ht
            | some ty => rw [hty] at ht; exact sound_mdel ho hc hty ha ht
          · exact sound_bad
        · -- len
          cases ht : c.argTypes[0]? with
          | none => simp only [Option.bind_none]; exact sound_bad
          | some ty =>
            simp only [Option.bind_some]
            split
            · rename_i e x hu ha; exact sound_len ho hc ha ht (.inr ⟨rfl, e, hu⟩)
            · rename_i x hu ha; exact sound_len ho hc ha ht (.inl ⟨rfl, hu⟩)
            · exact sound_bad
        · exact sound_mm (mx := true) ho hc
        · exact sound_mm (mx := false) ho hc
  | move x => left; simp only [lowerOp, ho]; exact sound_mv (.inl ho)
  | assign x => left; simp only [lowerOp, ho]; exact sound_mv (.inr ho)
  | pick c a b => left; simp only [lowerOp, ho]; exact sound_pick ho
  | alloc e =>
    left; simp only [lowerOp, ho]
    split
    · rename_i z hz; exact sound_alloc ho hz
    · exact sound_bad
  | box e x => left; simp only [lowerOp, ho]; exact sound_box ho
  | build ty ps => exact .inl (sound_build ho)
  | buildSlice ty n ps => exact .inl (sound_buildS ho)
  | load ty x =>
    left; simp only [lowerOp, ho]
    split
    · rename_i g n hg hn; exact sound_load ho hg hn rfl
    · exact sound_bad
  | store ty a x =>
    left; simp only [lowerOp, ho]
    split
    · rename_i n hn; exact sound_store ho hn
    · exact sound_bad
  | nilCheck x => left; simp only [lowerOp, ho]; exact sound_nilck ho
  | binOp op ty x y u =>
    left
    simp only [lowerOp, ho, lowerBin]
    cases op <;> simp only <;> first
      | (refine sound_bin ho ?_; intro h; rcases h with h | h <;> cases h; done)
      | (split
         · rename_i k hk; exact sound_bin ho (fun _ => .inr ⟨k, hk⟩)
         · rename_i hk; exact sound_bin ho (fun _ => .inl hk)
         · rename_i hk; exact sound_eqb ho rfl hk
         · rename_i e hk; exact sound_eqp ho rfl hk
         · rename_i e hk; exact sound_eqs ho rfl hk
         · rename_i e1 e2 e3 hk; exact sound_eqf ho rfl hk
         · exact sound_feq ho rfl
         · rename_i m hk
           split
           · exact sound_isn ho (by first | exact .inl ⟨rfl, rfl⟩ | exact .inr ⟨rfl, rfl⟩) rfl hk
           · exact sound_bad
         all_goals first
           | (exact sound_bad)
           | (rename_i hk; split
              · exact sound_bad
              · rename_i hg
                split
                · rename_i ls hl; exact sound_eqA ho rfl (by simp [aggB, hk]) (by simpa using hg) hl
                · exact sound_bad))
  | unOp op ty x => left; simp only [lowerOp, ho]; exact sound_un ho
  | convert a b x =>
    left; simp only [lowerOp, ho]
    split
    · rename_i k j h1 h2; exact sound_conv ho h1 h2
    · exact sound_bad
  | field ty x i =>
    left; simp only [lowerOp, ho]
    split
    · rename_i fs hty
      split
      · rename_i f hf
        split
        · rename_i g n hg hn; exact sound_field ho hty hf hg hn rfl
        · exact sound_bad
      · exact sound_bad
    · exact sound_bad
  | index ty x i =>
    left; simp only [lowerOp, ho]
    split
    · rename_i len e hty
      split
      · rename_i g n hg hn; exact sound_idxA ho hty hg hn
      · exact sound_bad
    · exact sound_bad
  | fieldAddr ty x i =>
    left; simp only [lowerOp, ho]
    split
    · rename_i fs hty
      split
      · rename_i f hf
        split
        · rename_i n hn; exact sound_faddr ho hty hf hn
        · exact sound_bad
      · exact sound_bad
    · exact sound_bad
  | indexAddr ty x i =>
    left; simp only [lowerOp, ho]
    split
    · rename_i e hty
      split
      · rename_i n hn; exact sound_iaddrS ho hty hn
      · exact sound_bad
    · rename_i len e hty
      split
      · rename_i n hn; exact sound_iaddrA ho hty hn
      · exact sound_bad
    · exact sound_bad
  | slice ty x a b c => exact .inl (sound_slc ho)
  | extract x i => left; simp only [lowerOp, ho]; exact sound_ext ho
  | makeSlice ty a b => exact .inl (sound_mks ho)
  | makeMap ty r =>
    left
    cases r with
    | some x => simp only [lowerOp, ho]; exact sound_bad
    | none =>
      simp only [lowerOp, ho]
      split
      · rename_i kd e hm; exact sound_mkmap ho hm
      · exact sound_bad
  | lookup ty m i ok =>
    left
    simp only [lowerOp, ho]
    split
    · rename_i kd e hm
      split
      · rename_i z hz; exact sound_mlook ho hm hz
      · exact sound_bad
    · exact sound_bad
  | mapUpdate ty m i x =>
    left
    simp only [lowerOp, ho]
    split
    · rename_i kd e hm; exact sound_mupd ho hm
    · exact sound_bad
  | makeInterface ty x =>
    left; simp only [lowerOp, ho]
    split
    · exact sound_bad
    · rename_i d hn hd; exact sound_ifc ho hd (fun m e => hn m (by rw [← e]))
    · exact sound_bad
  | makeFunc f a b => left; simp only [lowerOp, ho]; exact sound_fn ho
  | typeAssert x a b c => exact .inl (sound_tass ho)
  | panic x => exact .inr (.inl ⟨x, rfl, by simp [lowerOp, ho]⟩)
  | _ => left; simp only [lowerOp, ho]; exact sound_bad
end Go.Proofs.YtbpaekbjpapgeaaGreatDoor.K
