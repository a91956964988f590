/- A second evaluator, on closed values, that the kernel runs; what it answers, the first one answers. -/
import Derived.Test.YtbpaekbjpapgeaaGreatDoorKb
set_option linter.unusedSimpArgs false
set_option linter.unusedVariables false
namespace Go.Proofs.YtbpaekbjpapgeaaGreatDoor.K
abbrev top : Value := .complex .f64 0 0
abbrev big : Nat := 1125899906842624
inductive CK where
  | cells (cs : List Value) (n : Nat)
  | grown (cs : List Value) (sz : Nat)
  | map (kd : IntKind) (l : List (Int × Value))
  | loop (st : LSt)
  | dfr
abbrev CH := List (Nat × CK)
def clk : CH → Nat → Option CK
  | [], _ => none
  | (x, k) :: C, b => bif Nat.beq b x then some k else clk C b
def cup : CH → Nat → CK → CH
  | [], _, _ => []
  | (x, k) :: C, b, k' => bif Nat.beq b x then (x, k') :: C else (x, k) :: cup C b k'
def cdel : CH → Nat → CH
  | [], _ => []
  | (x, k) :: C, b => bif Nat.beq b x then cdel C b else (x, k) :: cdel C b
def ccut (n : Nat) : CH → CH
  | [] => []
  | (x, k) :: C => bif Nat.blt x n then (x, k) :: ccut n C else ccut n C
inductive CX where
  | normal | ret
  | exit (id : Nat)
structure CS where
  t : List Value
  H : CH
  n : Nat
abbrev COut := Option (CX × CS)
abbrev CRes := Option (Value × CH × Nat)
abbrev CCs := List Value → CH → Nat → CRes
structure CEnv where
  f : Nat → CCs
  y : Nat → CCs
  it : Nat → (Nat → CCs) → CCs
  dd : Nat → List Nat
def flat : Nat → Value → Bool
  | 0, _ => false
  | _ + 1, .bool _ => true
  | _ + 1, .int _ _ => true
  | _ + 1, .float _ _ => true
  | _ + 1, .string _ => true
  | _ + 1, .pointer none => true
  | _ + 1, .slice none _ _ => true
  | _ + 1, .nilFunc => true
  | _ + 1, .nilIface => true
  | d + 1, .agg ⟨l⟩ => l.all (flat d)
  | d + 1, .tuple ⟨l⟩ => l.all (flat d)
  | d + 1, .iface _ v => flat d v
  | _ + 1, _ => false
def flats (l : List Value) : Bool := l.all (flat 4)
def cev (t : List Value) : Operand → Value
  | .tmp i => gt t i
  | .const v => bif flat 5 v then v else top
  | .global _ => top
  | .func f => .func (.func f) #[] #[]
def cevs (t : List Value) : List Operand → List Value
  | [] => []
  | x :: l => cev t x :: cevs t l
def copt (t : List Value) : Option Operand → Option Value
  | none => none
  | some x => some (cev t x)
def ccells : Value → Option (List Value)
  | .agg ⟨l⟩ => some l
  | .complex _ _ _ => none
  | v => some [v]
def call1 : List Value → Bool
  | [] => true
  | .agg _ :: _ => false
  | .tuple _ :: _ => false
  | .complex _ _ _ :: _ => false
  | _ :: l => call1 l
def crd (o n : Nat) : Option CK → Option (List Value)
  | some (.cells cs _) => tk cs o n
  | some (.grown cs _) => tk cs o n
  | _ => none
def cload (g : Bool) (n : Nat) (C : CH) : Value → Option Value
  | .pointer (some ⟨b, o, none⟩) => mkV g (crd o n (clk C b))
  | _ => none
def cwr (o : Nat) (vs : List Value) : Option CK → Option CK
  | some (.cells cs m) => match wr cs o vs with | some r => some (.cells r m) | none => none
  | some (.grown cs m) => match wr cs o vs with | some r => some (.grown r m) | none => none
  | _ => none
def cput (C : CH) (b : Nat) : Option CK → Option CH
  | some k => some (cup C b k)
  | none => none
def cwrite (C : CH) (b o : Nat) (vs : List Value) : Option CH := cput C b (cwr o vs (clk C b))
def cfillC (z : List Value) (o n : Nat) : Option (List Value) → Option (List Value)
  | some l => bif Nat.beq l.length n then wr z o l else none
  | none => none
def cfill (t : List Value) : List (Nat × Nat × Operand) → Option (List Value) → Option (List Value)
  | [], r => r
  | _, none => none
  | (o, n, x) :: ps, some z => cfill t ps (cfillC z o n (ccells (cev t x)))
def cpv (C : CH) (n : Nat) : Option Value → CRes
  | some v => some (v, C, n)
  | none => none
def cunit (n : Nat) : Option CH → CRes
  | some C => some (undef, C, n)
  | none => none
def cstore (m : Nat) (C : CH) (n : Nat) : Value → Option (List Value) → CRes
  | .pointer (some ⟨b, o, none⟩), some l => bif Nat.beq l.length m && call1 l then cunit n (cwrite C b o l) else none
  | _, _ => none
def cnewB (C : CH) (n : Nat) : Option (List Value) → CRes
  | some cs => some (.pointer (some ⟨n, 0, none⟩), (n, .cells cs cs.length) :: C, n + 1)
  | none => none
def cnewS (C : CH) (n len : Nat) : Option (List Value) → CRes
  | some cs => bif Nat.blt len big then some (.slice (some ⟨n, 0, none⟩) len len, (n, .cells cs cs.length) :: C, n + 1) else none
  | none => none
def cnews (sz : Nat) (C : CH) : Value → Option (List Value)
  | .slice _ 0 _ => some []
  | .slice (some ⟨b, o, none⟩) m _ => crd o (m * sz) (clk C b)
  | _ => none
def cgrow (C : CH) (n need sz : Nat) (cs : List Value) : CRes := some (.slice (some ⟨n, 0, none⟩) need (2 * big), (n, .grown cs sz) :: C, n + 1)
def cown (sz sCap : Nat) : Option CK → Option (List Value)
  | some (.cells cs k) => bif Nat.blt sCap big && Nat.beq k (sCap * sz) then some cs else none
  | some (.grown cs s) => bif Nat.beq sCap (2 * big) && Nat.beq s sz then some cs else none
  | _ => none
def cappO (sz m sLen : Nat) (b : Nat) (C : CH) (n : Nat) (news : List Value) : Option (List Value) → CRes
  | some cs => (match tk cs 0 (sLen * sz) with | some olds => cgrow (cdel C b) n (sLen + m) sz (olds ++ news) | none => none)
  | none => none
def cappN (sz m sLen : Nat) (C : CH) (n : Nat) (news : List Value) : Option (List Value) → CRes
  | some olds => cgrow C n (sLen + m) sz (olds ++ news)
  | none => none
def cappV (sz bytes : Nat) (C : CH) (n : Nat) (s : Value) (m : Nat) (news : List Value) : CRes :=
  match s with
  | .slice none 0 0 => bif Nat.beq m 0 then some (.slice none 0 0, C, n) else bif Nat.ble (m * bytes) 140737488355328 && Nat.ble m 4611686018427387904 then cgrow C n m sz news else none
  | .slice (some ⟨b, o, none⟩) sLen sCap =>
    bif Nat.beq m 0 then (bif Nat.beq o 0 && Nat.ble sLen sCap then some (.slice (some ⟨b, o, none⟩) sLen sCap, C, n) else none)
    else bif Nat.ble ((sLen + m) * bytes) 140737488355328 && Nat.ble (sLen + m) 4611686018427387904 && call1 news then
      (bif Nat.blt sCap big && Nat.blt sCap (sLen + m) && Nat.ble sLen sCap then cappN sz m sLen C n news (cnews sz C (.slice (some ⟨b, o, none⟩) sLen sCap))
       else bif Nat.beq o 0 && Nat.ble sLen sCap then cappO sz m sLen b C n news (cown sz sCap (clk C b)) else none)
    else none
  | _ => none
def cappR (sz bytes : Nat) (C : CH) (n : Nat) (s x : Value) : Option (List Value) → CRes
  | some news => cappV sz bytes C n s (lenS x) news
  | none => none
def cappZ (z : List Value) (bytes : Nat) (C : CH) (n : Nat) : Value → Value → CRes
  | .slice none 0 0, .int _ l => bif decide (0 ≤ l) && flats z then cappV z.length bytes C n (.slice none 0 0) l.toNat (List.replicate l.toNat z).flatten else none
  | _, _ => none
def cmks (z : List Value) (bytes : Nat) (C : CH) (n : Nat) : Value → Value → CRes
  | .int _ l, .int _ c => bif decide (0 ≤ l) && decide (l ≤ c) && decide (c ≤ 140737488355328) && decide ((bytes : Int) * c ≤ 140737488355328) && flats z then some (.slice (some ⟨n, 0, none⟩) l.toNat c.toNat, (n, .cells (List.replicate c.toNat z).flatten (c.toNat * z.length)) :: C, n + 1) else none
  | _, _ => none
def cint (m : Nat) (n : Nat) : Option CH → CRes
  | some C => some (.int .i64 m, C, n)
  | none => none
def ccpyW (m : Nat) (C : CH) (n : Nat) : Option Addr → Option (List Value) → CRes
  | some ⟨b, o, none⟩, some cs => bif call1 cs then cint m n (cwrite C b o cs) else none
  | _, _ => none
def ccpy (es : Nat) (C : CH) (n : Nat) : Value → Value → CRes
  | .slice a dl _, .slice a2 m c => bif Nat.beq (min m dl) 0 then some (.int .i64 0, C, n) else ccpyW (min m dl) C n a (cnews es C (.slice a2 (min m dl) c))
  | _, _ => none
def cslB (a : Option Addr) (es n c : Nat) (lo hi mx : Option Value) : Option Value :=
  bif Nat.blt c big then slcB a es n c lo hi mx
  else match mx with
    | some v => (bnd (some v) n n).bind fun m => (bnd hi n m).bind fun h => (bnd lo 0 h).bind fun l => bif Nat.blt m big then (slA a (if m = l then 0 else l * es)).bind fun a' => some (.slice a' (h - l) (m - l)) else none
    | none => (bnd hi n n).bind fun h => (bnd lo 0 h).bind fun l => bif (Nat.beq l 0 || Nat.blt l n) && Nat.ble (big + l) c then (slA a (l * es)).bind fun a' => some (.slice a' (h - l) (c - l)) else none
def cslc (es : Nat) (lo hi mx : Option Value) : Value → Option Value
  | .slice (some ⟨b, o, none⟩) n c => cslB (some ⟨b, o, none⟩) es n c lo hi mx
  | .slice none n c => slcB none es n c lo hi mx
  | _ => none
def cslA (es len : Nat) (lo hi mx : Option Value) : Value → Option Value
  | .pointer (some ⟨b, o, none⟩) => bif Nat.blt len big then slcB (some ⟨b, o, none⟩) es len len lo hi mx else none
  | _ => none
def ccap : Value → Option Value
  | .slice none _ c => some (.int .i64 c)
  | .slice (some _) _ c => bif Nat.blt c big then some (.int .i64 c) else none
  | _ => none
def ctass (t : TypeId) (z : Value) (v : Value) : Option Value := bif flat 5 z then tassV t z v else none
def clight (t : List Value) (C : CH) : LO → Option Value
  | .mv x => some (cev t x)
  | .pick c a b => pickV (cev t c) (cev t a) (cev t b)
  | .build z ps => bif flats z then mkV true (cfill t ps (some z)) else none
  | .load g n x => cload g n C (cev t x)
  | .nilck x => nilckV (cev t x)
  | .bin op x y => binV op (cev t x) (cev t y)
  | .eqb neg x y => eqbV neg (cev t x) (cev t y)
  | .eqA neg ls x y => eqAV neg ls (cev t x) (cev t y)
  | .eqp neg x y => eqpV neg (cev t x) (cev t y)
  | .eqs neg x y => eqsV neg (cev t x) (cev t y)
  | .eqf neg x y => eqfV neg (cev t x) (cev t y)
  | .feq neg x y => feqV neg (cev t x) (cev t y)
  | .cap x => ccap (cev t x)
  | .fbits b x => fbV b (cev t x)
  | .un op x => unV op (cev t x)
  | .conv k x => convV k (cev t x)
  | .field g off n x => fieldV g off n (cev t x)
  | .idxA g es len x i => idxAV g es len (cev t x) (cev t i)
  | .faddr off x => faddrV off (cev t x)
  | .iaddrS es x i => iaddrSV es (cev t x) (cev t i)
  | .iaddrA es len x i => iaddrAV es len (cev t x) (cev t i)
  | .ext x i => extV i (cev t x)
  | .len str x => lenV str (cev t x)
  | .mm mx xs => mmV mx (cevs t xs)
  | .ifc ty x => some (.iface ty (cev t x))
  | .fn f a b => (match f with | .func k => some (.func (.func k) ⟨cevs t a⟩ ⟨cevs t b⟩) | _ => none)
  | .slc es x lo hi mx => cslc es (copt t lo) (copt t hi) (copt t mx) (cev t x)
  | .slcA es n x lo hi mx => cslA es n (copt t lo) (copt t hi) (copt t mx) (cev t x)
  | .tass ty z x => ctass ty z (cev t x)
  | .isn neg x => isnV neg (cev t x)
  | _ => none
def clkI : List (Int × Value) → Int → Option Value
  | [], _ => none
  | (i, v) :: l, j => bif i == j then some v else clkI l j
def cmapF (kd : IntKind) : Option CK → Option (List (Int × Value))
  | some (.map k l) => bif k == kd then some l else none
  | _ => none
def cmlookF (C : CH) (m : Nat) (ok : Bool) (z : Value) (n : Int) : Option (List (Int × Value)) → CRes
  | some l => some (lookR ok z (clkI l n), C, m)
  | none => none
def cmlook (kd : IntKind) (z : Value) (ok : Bool) (C : CH) (m : Nat) : Value → Value → CRes
  | .map (some r), .int k n => bif k == kd && flat 4 z then cmlookF C m ok z n (cmapF kd (clk C r)) else none
  | _, _ => none
def cmupdF (kd : IntKind) (C : CH) (m r : Nat) (n : Int) (v : Value) : Option (List (Int × Value)) → CRes
  | some l => some (undef, cup C r (.map kd ((n, v) :: l)), m)
  | none => none
def cmupd (kd : IntKind) (C : CH) (m : Nat) : Value → Value → Value → CRes
  | .map (some r), .int k n, v => bif k == kd && flat 4 v then cmupdF kd C m r n v (cmapF kd (clk C r)) else none
  | _, _, _ => none
def ccallV (G : CEnv) (C : CH) (n : Nat) : Value → List Value → CRes
  | .func (.func k) ⟨first⟩ ⟨cap⟩, args => G.f k (first ++ args ++ cap) C n
  | .func (.yield l) ⟨first⟩ _, args => G.y l (first ++ args) C n
  | _, _ => none
def cinvC (G : CEnv) (C : CH) (n : Nat) (args : List Value) : Option (Nat × Value) → CRes
  | some (k, r) => G.f k (r :: args) C n
  | none => none
def cinvV (G : CEnv) (C : CH) (n : Nat) (tbl : List Value) : Value → List Value → CRes
  | .iface t v, args => cinvC G C n args (invT t tbl v)
  | _, _ => none
def ccallO (G : CEnv) (t : List Value) (C : CH) (n : Nat) : Operand → List Operand → CRes
  | .const (.tuple ⟨tbl⟩), r :: args => cinvV G C n tbl (cev t r) (cevs t args)
  | .const _, _ => none
  | f, args => ccallV G C n (cev t f) (cevs t args)
def cop (G : CEnv) (s : CS) : LO → CRes
  | .alloc z => bif flats z then cnewB s.H s.n (some z) else none
  | .box x => cnewB s.H s.n (ccells (cev s.t x))
  | .buildS z len ps => bif flats z then cnewS s.H s.n len (cfill s.t ps (some z)) else none
  | .store n a x => cstore n s.H s.n (cev s.t a) (ccells (cev s.t x))
  | .call f args => ccallO G s.t s.H s.n f args
  | .mks z bytes l c => cmks z bytes s.H s.n (cev s.t l) (cev s.t c)
  | .app z bytes a x => cappR z.length bytes s.H s.n (cev s.t a) (cev s.t x) (cnews z.length s.H (cev s.t x))
  | .appZ z bytes a x => cappZ z bytes s.H s.n (cev s.t a) (cev s.t x)
  | .cpy es d x => ccpy es s.H s.n (cev s.t d) (cev s.t x)
  | .mkmap kd => some (.map (some s.n), (s.n, .map kd []) :: s.H, s.n + 1)
  | .mlook kd z ok m i => cmlook kd z ok s.H s.n (cev s.t m) (cev s.t i)
  | .mupd kd m i x => cmupd kd s.H s.n (cev s.t m) (cev s.t i) (cev s.t x)
  | op => cpv s.H s.n (clight s.t s.H op)
def cwantV (b : Bool) : Value → Option Bool
  | .complex _ _ _ => none
  | v => some (isB v b)
def cwant (t : List Value) : Option (Tmp × Bool) → Option Bool
  | none => some true
  | some (j, b) => cwantV b (gt t j)
def cputE (t : List Value) (d : Option Tmp) : CRes → COut
  | some (v, C, n) => some (.normal, ⟨putT t d v, C, n⟩)
  | none => none
def cstep (G : CEnv) : LOp → CS → COut
  | ⟨d, op, g⟩, s => match cwant s.t g with
    | some true => cputE s.t d (cop G s op)
    | some false => cputE s.t d (some (undef, s.H, s.n))
    | none => none
def cops (G : CEnv) : List LOp → COut → COut
  | [], o => o
  | o :: l, some (.normal, s) => cops G l (cstep G o s)
  | _ :: _, _ => none
def vall (f : Value → Value → Bool) : List Value → List Value → Bool
  | [], [] => true
  | x :: l, y :: l' => f x y && vall f l l'
  | _, _ => false
def vbeq : Nat → Value → Value → Bool
  | 0, _, _ => false
  | d + 1, u, w => match u with
    | .bool a => (match w with | .bool b => a == b | _ => false)
    | .int k a => (match w with | .int k' b => k == k' && a == b | _ => false)
    | .pointer none => (match w with | .pointer none => true | _ => false)
    | .pointer (some ⟨b, o, none⟩) => (match w with | .pointer (some ⟨b', o', none⟩) => Nat.beq b b' && Nat.beq o o' | _ => false)
    | .slice none n c => (match w with | .slice none n' c' => Nat.beq n n' && Nat.beq c c' | _ => false)
    | .slice (some ⟨b, o, none⟩) n c => (match w with | .slice (some ⟨b', o', none⟩) n' c' => Nat.beq b b' && Nat.beq o o' && Nat.beq n n' && Nat.beq c c' | _ => false)
    | .nilFunc => (match w with | .nilFunc => true | _ => false)
    | .nilIface => (match w with | .nilIface => true | _ => false)
    | .agg ⟨l⟩ => (match w with | .agg ⟨l'⟩ => vall (vbeq d) l l' | _ => false)
    | _ => false
def cwatch1 (s : CS) (d : Nat) (op : LO) : COut := match clight s.t s.H op with
  | some v => bif vbeq 4 v (gt s.t d) then some (.normal, s) else none
  | none => none
def cwatch : List LOp → COut → COut
  | [], o => o
  | ⟨some d, op, g⟩ :: l, some (.normal, s) => cwatch l (match cwant s.t g with
    | some true => cwatch1 s d op
    | some false => some (.normal, s)
    | none => none)
  | _ :: _, _ => none
def cdraw (G : CEnv) : List DOp → COut → COut
  | [], o => o
  | o :: l, some (.normal, s) => cdraw G l (cwatch o.watch (cstep G o.op s))
  | _ :: _, _ => none
def cseq (k : CS → COut) : COut → COut
  | some (.normal, s) => k s
  | o => o
def cblk (id : Nat) : COut → COut
  | some (.exit i, s) => bif Nat.beq i id then some (.normal, s) else some (.exit i, s)
  | o => o
def ccond (v : Value) (a b : CS → COut) (s : CS) : COut :=
  match v with
  | .bool true => a s
  | .bool false => b s
  | _ => none
def swp (n0 p q y : Nat) : Option Nat := bif Nat.blt y n0 then some y else bif Nat.blt y (n0 + p) then some (y + q) else bif Nat.blt y (n0 + p + q) then some (y - p) else none
def isN (b : Nat) : Option Nat → Bool
  | some x => Nat.beq x b
  | none => false
def veq (F : Nat → Option Nat) : Nat → Value → Value → Bool
  | 0, _, _ => false
  | d + 1, u, w => match u with
    | .bool a => (match w with | .bool b => a == b | _ => false)
    | .int k a => (match w with | .int k' b => k == k' && a == b | _ => false)
    | .float k a => (match w with | .float k' b => k == k' && Nat.beq a b | _ => false)
    | .pointer none => (match w with | .pointer none => true | _ => false)
    | .pointer (some ⟨b, o, none⟩) => (match w with | .pointer (some ⟨b', o', none⟩) => isN b' (F b) && Nat.beq o o' | _ => false)
    | .slice none n c => (match w with | .slice none n' c' => Nat.beq n n' && Nat.beq c c' | _ => false)
    | .slice (some ⟨b, o, none⟩) n c => (match w with | .slice (some ⟨b', o', none⟩) n' c' => isN b' (F b) && Nat.beq o o' && Nat.beq n n' && Nat.beq c c' | _ => false)
    | .nilFunc => (match w with | .nilFunc => true | _ => false)
    | .nilIface => (match w with | .nilIface => true | _ => false)
    | .agg ⟨l⟩ => (match w with | .agg ⟨l'⟩ => vall (veq F d) l l' | _ => false)
    | .tuple ⟨l⟩ => (match w with | .tuple ⟨l'⟩ => vall (veq F d) l l' | _ => false)
    | .iface t v => (match w with | .iface t' v' => Nat.beq t t' && veq F d v v' | _ => false)
    | .func (.func k) ⟨l⟩ ⟨a⟩ => (match w with | .func (.func k') ⟨l'⟩ ⟨a'⟩ => Nat.beq k k' && vall (veq F d) l l' && vall (veq F d) a a' | _ => false)
    | _ => false
def keq (F : Nat → Option Nat) : CK → Option CK → Bool
  | .cells cs n, some (.cells cs' n') => vall (veq F 6) cs cs' && Nat.beq n n'
  | .grown cs n, some (.grown cs' n') => vall (veq F 6) cs cs' && Nat.beq n n'
  | .loop .ready, some (.loop .ready) => true
  | .loop .busy, some (.loop .busy) => true
  | .dfr, some .dfr => true
  | _, _ => false
def clkO (C : CH) : Option Nat → Option CK
  | some b => clk C b
  | none => none
def csubH (F : Nat → Option Nat) (C' : CH) : CH → Bool
  | [] => true
  | (b, k) :: C => keq F k (clkO C' (F b)) && csubH F C' C
def csub (F : Nat → Option Nat) (s s' : CS) : Bool := vall (veq F 6) s.t s'.t && csubH F s'.H s.H
def xeq : CX → CX → Bool
  | .normal, .normal => true
  | .ret, .ret => true
  | .exit i, .exit j => Nat.beq i j
  | _, _ => false
def cswaps (n0 : Nat) (s s' : CS) : Nat → Bool
  | 0 => csub (swp n0 0 (s.n - n0)) s s'
  | p + 1 => cswaps n0 s s' p || (Nat.ble (n0 + p + 1) s.n && csub (swp n0 (p + 1) (s.n - n0 - p - 1)) s s')
def cjoin (n0 : Nat) : COut → COut → COut
  | some (x, s), some (x', s') => bif xeq x x' && Nat.ble n0 s.n && cswaps n0 s s' 8 then some (x, s) else none
  | _, _ => none
def cready : Option CK → Bool
  | some (.loop .ready) => true
  | _ => false
def cbusy : Option CK → Bool
  | some (.loop .busy) => true
  | _ => false
def cend (l : Nat) : COut → CRes
  | some (.normal, s) => bif cbusy (clk s.H l) then some (.bool true, cup s.H l (.loop .ready), s.n) else none
  | some (.ret, s) => bif cbusy (clk s.H l) then some (.bool false, cup s.H l (.loop (.done none)), s.n) else none
  | some (.exit i, s) => bif cbusy (clk s.H l) then some (.bool false, cup s.H l (.loop (.done (some i))), s.n) else none
  | none => none
def cbeg (b : CS → COut) (l : Nat) : COut → CRes
  | some (.normal, s) => bif cready (clk s.H l) then cend l (b ⟨s.t, cup s.H l (.loop .busy), s.n⟩) else none
  | _ => none
def cyield (a b : CS → COut) (l : Nat) (ps : List Tmp) (t : List Value) : CCs := fun vs C n => bif cready (clk C l) && Nat.beq vs.length ps.length then cbeg b l (a ⟨setP t ps vs, C, n⟩) else none
def cwith (y : Nat → CCs) (l : Nat) (c : CCs) : Nat → CCs := fun x => bif Nat.beq x l then c else y x
def caft (l : Nat) (t : List Value) (C : CH) (n : Nat) : Option CK → COut
  | some (.loop .ready) => some (.normal, ⟨t, cdel (cup C l (.loop .over)) l, n⟩)
  | some (.loop (.done none)) => some (.ret, ⟨t, cdel (cup C l (.loop .over)) l, n⟩)
  | some (.loop (.done (some i))) => some (.exit i, ⟨t, cdel (cup C l (.loop .over)) l, n⟩)
  | _ => none
def cafter (l : Nat) (t : List Value) : CRes → COut
  | some (_, C, n) => caft l t C n (clk C l)
  | none => none
def ccallIt (it : Nat → (Nat → CCs) → CCs) (l : Nat) (Y : Nat → CCs) (C : CH) (n : Nat) : Value → CRes
  | .func (.func k) ⟨first⟩ ⟨cap⟩ => it k Y (first ++ [.func (.yield l) #[] #[]] ++ cap) C n
  | _ => none
def crange (G : CEnv) (g : Value) (ps : List Tmp) (a b : CS → COut) (s : CS) : COut :=
  cafter (s.n + 1) s.t (ccallIt G.it (s.n + 1) (cwith G.y (s.n + 1) (cyield a b (s.n + 1) ps s.t)) ((s.n + 1, .loop .ready) :: (s.n, .dfr) :: s.H) (s.n + 2) g)
def ids : Nat → Value → List Nat → List Nat
  | 0, _, r => r
  | _ + 1, .pointer (some a), r => a.block :: r
  | _ + 1, .slice (some a) _ _, r => a.block :: r
  | _ + 1, .map (some b), r => b :: r
  | d + 1, .agg ⟨l⟩, r => idss (ids d) l r
  | d + 1, .tuple ⟨l⟩, r => idss (ids d) l r
  | d + 1, .iface _ v, r => ids d v r
  | d + 1, .func (.yield k) ⟨l⟩ ⟨a⟩, r => k :: idss (ids d) l (idss (ids d) a r)
  | d + 1, .func _ ⟨l⟩ ⟨a⟩, r => idss (ids d) l (idss (ids d) a r)
  | _ + 1, _, r => r
  where idss (f : Value → List Nat → List Nat) : List Value → List Nat → List Nat
  | [], r => r
  | x :: l, r => f x (idss f l r)
def kids : Option CK → List Nat → List Nat
  | some (.cells cs _), r => ids.idss (ids 6) cs r
  | some (.grown cs _), r => ids.idss (ids 6) cs r
  | _, r => r
def memN (b : Nat) : List Nat → Bool
  | [] => false
  | x :: l => Nat.beq b x || memN b l
def mark (n0 : Nat) (C : CH) : Nat → List Nat → List Nat → List Nat
  | 0, _, seen => seen
  | _ + 1, [], seen => seen
  | f + 1, b :: l, seen => bif Nat.blt b n0 || memN b seen then mark n0 C f l seen else mark n0 C f (kids (clk C b) l) (b :: seen)
def oldIds (n0 : Nat) : CH → List Nat → List Nat
  | [], r => r
  | (b, k) :: C, r => bif Nat.blt b n0 || (match k with | .loop _ => true | _ => false) then b :: kids (some k) (oldIds n0 C r) else oldIds n0 C r
def ckeep (n0 : Nat) (seen : List Nat) : CH → CH
  | [] => []
  | (b, k) :: C => bif Nat.blt b n0 || memN b seen then (b, k) :: ckeep n0 seen C else ckeep n0 seen C
def topT (D : List Nat) : Nat → List Value → List Value
  | _, [] => []
  | i, v :: l => (bif memN i D then top else v) :: topT D (i + 1) l
def topD (t : List Value) : List Nat → List Value
  | [] => t
  | i :: D => topT (i :: D) 0 t
def cgcH (n0 : Nat) (t : List Value) (C : CH) (n : Nat) : CS := ⟨t, ckeep n0 (mark n0 C 5000 (ids.idss (ids 6) t (oldIds n0 C [])) []) C, n⟩
def cgc (dd : Nat → List Nat) (n0 : Nat) (s : CS) : CS := cgcH n0 (topD s.t (dd s.t.length)) s.H s.n
def cgcO (dd : Nat → List Nat) (n0 : Nat) : COut → COut
  | some (x, s) => some (x, cgc dd n0 s)
  | none => none
def cexec (G : CEnv) (n0 : Nat) : Nat → LC → CS → COut
  | 0, _, _ => none
  | _ + 1, .skip, s => some (.normal, s)
  | _ + 1, .ops l, s => cops G l (some (.normal, s))
  | _ + 1, .draw l, s => cdraw G l (some (.normal, s))
  | n + 1, .seq a b, s => cseq (cexec G n0 n b) (cexec G n0 n a s)
  | n + 1, .cond c a b, s => ccond (cev s.t c) (cexec G n0 n a) (cexec G n0 n b) s
  | n + 1, .block id b, s => cblk id (cexec G n0 n b s)
  | n + 1, .loop b, s => cseq (cexec G n0 n (.loop b)) (cgcO G.dd n0 (cexec G n0 n b s))
  | _ + 1, .exit id, s => some (.exit id, s)
  | _ + 1, .ret, s => some (.ret, s)
  | n + 1, .fork a b, s => cjoin s.n (cexec G n0 n a s) (cexec G n0 n b s)
  | n + 1, .range g ps a b, s => crange G (cev s.t g) ps (cexec G n0 n a) (cexec G n0 n b) s
  | _ + 1, .bad, _ => none
def cres1 (s : CS) : LR → Option Value
  | .tmp t => some (gt s.t t)
  | .cell a g n => cload g n s.H (gt s.t a)
  | .bad => none
def cress (s : CS) : List LR → Option (List Value)
  | [] => some []
  | r :: l => consO (cres1 s r) (cress s l)
def cretR (s : CS) : Option (List Value) → CRes
  | some l => some (retV l, s.H, s.n)
  | none => none
def cfin (rs : List LR) : COut → CRes
  | some (.normal, s) => cretR s (cress s rs)
  | some (.ret, s) => cretR s (cress s rs)
  | _ => none
def ccallF (G : CEnv) (n0 F : Nat) (f : FnL) : CCs := fun args C n => cfin f.res (cexec G n0 F f.code ⟨pad args f.ntmps, C, n⟩)
def ccallC (G : CEnv) (n0 F : Nat) (f : FnC) (r : Value) : CCs := fun args C n => cfin f.res (cexec G n0 F f.code ⟨putT (pad args f.ntmps) f.d r, C, n⟩)
def cendD (rs : List LR) (t : List Value) : CRes → CRes
  | some (_, C, n) => cretR ⟨t, C, n⟩ (cress ⟨t, C, n⟩ rs)
  | none => none
def cdfr (D : CCs) (da : List Value) (rs : List LR) : COut → CRes
  | some (.normal, s) => cendD rs s.t (D da s.H s.n)
  | some (.ret, s) => cendD rs s.t (D da s.H s.n)
  | _ => none
def crestD (G : CEnv) (D : CCs) (n0 F : Nat) (f : FnD) : COut → CRes
  | some (.normal, s) => cdfr D (cevs s.t f.dargs) f.res (cexec G n0 F f.code s)
  | _ => none
def ccallD (G : CEnv) (D : CCs) (n0 F : Nat) (f : FnD) : CCs := fun args C n => crestD G D n0 F f (cexec G n0 F f.pre ⟨pad args f.ntmps, C, n⟩)
inductive Fn3 where
  | l (f : FnL)
  | d (f : FnD) (c : FnC)
  | g (t : List (List Value × Value))
def vbeqs : List Value → List Value → Bool := vall (vbeq 4)
def cgiv (args : List Value) (C : CH) (n : Nat) : List (List Value × Value) → CRes
  | [] => none
  | (a, v) :: l => bif vbeqs a args && a.all (flat 4) && flat 4 v then some (v, C, n) else cgiv args C n l
def ccutR (n0 : Nat) : CRes → CRes
  | some (v, C, n) => bif flat 4 v then some (v, ccut n0 C, n) else some (v, C, n)
  | none => none
def ccutK (k : Bool) (n0 : Nat) (r : CRes) : CRes := bif k then r else ccutR n0 r
def cenv (T : Nat → Option Fn3) (K : Nat → Bool) (DD : Nat → List Nat) (F : Nat) : Nat → (Nat → CCs) → Nat → CCs
  | 0, _, _ => fun _ _ _ => none
  | d + 1, Y, k => fun args C n => match T k with
    | some (.l f) => ccutK (K k) n (ccallF ⟨cenv T K DD F d Y, Y, fun k Y' => cenv T K DD F d Y' k, DD⟩ n F f args C n)
    | some (.d f c) => ccutK (K k) n (ccallD ⟨cenv T K DD F d Y, Y, fun k Y' => cenv T K DD F d Y' k, DD⟩ (ccallC ⟨cenv T K DD F d Y, Y, fun k Y' => cenv T K DD F d Y' k, DD⟩ n F c .nilIface) n F f args C n)
    | some (.g t) => cgiv args C n t
    | none => none
def noY : Nat → CCs := fun _ _ _ _ => none
end Go.Proofs.YtbpaekbjpapgeaaGreatDoor.K
namespace Go.Proofs.YtbpaekbjpapgeaaGreatDoor.K
structure Ent where
  a : Nat
  k : Nat
  lp : Loop
abbrev Rho := Nat → Option Ent
def Le (ρ ρ' : Rho) : Prop := ∀ b x, ρ b = some x → ρ' b = some x
theorem Le.refl {ρ : Rho} : Le ρ ρ := fun _ _ h => h
theorem Le.trans {a b c : Rho} (h : Le a b) (h' : Le b c) : Le a c := fun x e g => h' x e (h x e g)
def capR (κ n c c' : Nat) : Prop := (c < big ∧ c' = c) ∨ (big ≤ c ∧ c' + 2 * big = κ + c ∧ n ≤ c')
mutual
inductive VR (ρ : Rho) : Value → Value → Prop
  | top (v) : VR ρ (.complex .f64 0 0) v
  | bool (b) : VR ρ (.bool b) (.bool b)
  | int (k n) : VR ρ (.int k n) (.int k n)
  | float (k n) : VR ρ (.float k n) (.float k n)
  | string (s) : VR ρ (.string s) (.string s)
  | ptr0 : VR ρ (.pointer none) (.pointer none)
  | ptr (b o : Nat) (x : Ent) (h : ρ b = some x) : VR ρ (.pointer (some ⟨b, o, none⟩)) (.pointer (some ⟨x.a, o, none⟩))
  | slc0 (n c) : VR ρ (.slice none n c) (.slice none n c)
  | slc (b o n c c' : Nat) (x : Ent) (h : ρ b = some x) (hc : capR x.k n c c') : VR ρ (.slice (some ⟨b, o, none⟩) n c) (.slice (some ⟨x.a, o, none⟩) n c')
  | mp (b : Nat) (x : Ent) (h : ρ b = some x) : VR ρ (.map (some b)) (.map (some x.a))
  | fn0 : VR ρ .nilFunc .nilFunc
  | fn (f : Nat) (xs ys xs' ys' : List Value) (h1 : VRs ρ xs xs') (h2 : VRs ρ ys ys') : VR ρ (.func (.func f) ⟨xs⟩ ⟨ys⟩) (.func (.func f) ⟨xs'⟩ ⟨ys'⟩)
  | yld (l : Nat) (x : Ent) (xs ys xs' ys' : List Value) (h : ρ l = some x) (h1 : VRs ρ xs xs') (h2 : VRs ρ ys ys') : VR ρ (.func (.yield l) ⟨xs⟩ ⟨ys⟩) (.func (.yield x.a) ⟨xs'⟩ ⟨ys'⟩)
  | if0 : VR ρ .nilIface .nilIface
  | ifc (t : TypeId) (v v' : Value) (h : VR ρ v v') : VR ρ (.iface t v) (.iface t v')
  | agg (xs xs' : List Value) (h : VRs ρ xs xs') : VR ρ (.agg ⟨xs⟩) (.agg ⟨xs'⟩)
  | tup (xs xs' : List Value) (h : VRs ρ xs xs') : VR ρ (.tuple ⟨xs⟩) (.tuple ⟨xs'⟩)
inductive VRs (ρ : Rho) : List Value → List Value → Prop
  | nil : VRs ρ [] []
  | cons (v v' : Value) (l l' : List Value) (h : VR ρ v v') (hs : VRs ρ l l') : VRs ρ (v :: l) (v' :: l')
end
section
variable {ρ ρ' : Rho}
theorem VR.mono (hl : Le ρ ρ') {u v : Value} (h : VR ρ u v) : VR ρ' u v := by
  induction h using VR.rec (motive_2 := fun us vs _ => VRs ρ' us vs) with
  | top v => exact .top v
  | bool => exact .bool _
  | int => exact .int _ _
  | float => exact .float _ _
  | string => exact .string _
  | ptr0 => exact .ptr0
  | ptr b o x h => exact .ptr b o x (hl _ _ h)
  | slc0 => exact .slc0 _ _
  | slc b o n c c' x h hc => exact .slc b o n c c' x (hl _ _ h) hc
  | mp b x h => exact .mp b x (hl _ _ h)
  | fn0 => exact .fn0
  | fn f xs ys xs' ys' _ _ i1 i2 => exact .fn f xs ys xs' ys' i1 i2
  | yld l x xs ys xs' ys' h _ _ i1 i2 => exact .yld l x xs ys xs' ys' (hl _ _ h) i1 i2
  | if0 => exact .if0
  | ifc t v v' _ i => exact .ifc t v v' i
  | agg xs xs' _ i => exact .agg xs xs' i
  | tup xs xs' _ i => exact .tup xs xs' i
  | nil => exact .nil
  | cons v v' l l' _ _ i1 i2 => exact .cons v v' l l' i1 i2
theorem VRs.mono (hl : Le ρ ρ') : ∀ {us vs : List Value}, VRs ρ us vs → VRs ρ' us vs
  | _, _, .nil => .nil
  | _, _, .cons v v' l l' h hs => .cons v v' l l' (h.mono hl) (VRs.mono hl hs)
theorem VRs.len : ∀ {us vs : List Value}, VRs ρ us vs → us.length = vs.length
  | _, _, .nil => rfl
  | _, _, .cons _ _ _ _ _ hs => by simp [VRs.len hs]
theorem VRs.app : ∀ {us vs us' vs' : List Value}, VRs ρ us vs → VRs ρ us' vs' → VRs ρ (us ++ us') (vs ++ vs')
  | _, _, _, _, .nil, h => h
  | _, _, _, _, .cons v v' l l' h hs, h' => .cons v v' _ _ h (VRs.app hs h')
theorem VRs.one {u v : Value} (h : VR ρ u v) : VRs ρ [u] [v] := .cons _ _ _ _ h .nil
theorem VRs.same {l : List Value} (h : ∀ v ∈ l, VR ρ v v) : VRs ρ l l := by
  induction l with
  | nil => exact .nil
  | cons x l ih => exact .cons _ _ _ _ (h x (by simp)) (ih fun v hv => h v (by simp [hv]))
theorem flat_VR : ∀ (d : Nat) {v : Value}, flat d v = true → VR ρ v v
  | 0, _, h => by simp [flat] at h
  | d + 1, v, h => by
    have hl : ∀ l : List Value, l.all (flat d) = true → VRs ρ l l := fun l hl => .same fun v hv => flat_VR d (List.all_eq_true.1 hl v hv)
    cases v with
    | bool b => exact .bool b
    | int k n => exact .int k n
    | float k n => exact .float k n
    | string s => exact .string s
    | complex => simp [flat] at h
    | pointer a => cases a with
      | none => exact .ptr0
      | some a => simp [flat] at h
    | slice a n c => cases a with
      | none => exact .slc0 n c
      | some a => simp [flat] at h
    | map => simp [flat] at h
    | chan => simp [flat] at h
    | func => simp [flat] at h
    | nilFunc => exact .fn0
    | nilIface => exact .if0
    | iface t v => exact .ifc t v v (flat_VR d (by simpa [flat] using h))
    | agg cs => obtain ⟨l⟩ := cs; exact .agg l l (hl l (by simpa [flat] using h))
    | tuple cs => obtain ⟨l⟩ := cs; exact .tup l l (hl l (by simpa [flat] using h))
theorem flats_VRs {l : List Value} (h : flats l = true) : VRs ρ l l := .same fun v hv => flat_VR 4 (List.all_eq_true.1 h v hv)
theorem flat_eq : ∀ (d : Nat) {v v' : Value}, flat d v = true → VR ρ v v' → v' = v
  | 0, _, _, h, _ => by simp [flat] at h
  | d + 1, v, v', h, hv => by
    have hl : ∀ l l' : List Value, l.all (flat d) = true → VRs ρ l l' → l' = l := by
      intro l
      induction l with
      | nil => intro l' _ hs; cases hs; rfl
      | cons x l ih =>
        intro l' ha hs
        cases hs with
        | cons _ v' _ l' h1 h2 =>
          simp only [List.all_cons, Bool.and_eq_true] at ha
          rw [flat_eq d ha.1 h1, ih l' ha.2 h2]
    cases hv with
    | top => simp [flat] at h
    | ptr => simp [flat] at h
    | slc => simp [flat] at h
    | mp => simp [flat] at h
    | fn => simp [flat] at h
    | yld => simp [flat] at h
    | ifc t v v' hv => rw [flat_eq d (by simpa [flat] using h) hv]
    | agg xs xs' hs => rw [hl xs xs' (by simpa [flat] using h) hs]
    | tup xs xs' hs => rw [hl xs xs' (by simpa [flat] using h) hs]
    | _ => rfl
theorem gt_sim : ∀ {t t' : List Value} (i : Nat), VRs ρ t t' → VR ρ (gt t i) (gt t' i)
  | _, _, _, .nil => .tup [] [] .nil
  | _, _, 0, .cons _ _ _ _ h _ => h
  | _, _, i + 1, .cons _ _ _ _ _ hs => gt_sim i hs
theorem st_sim : ∀ {t t' : List Value} (i : Nat) {v v' : Value}, VRs ρ t t' → VR ρ v v' → VRs ρ (st t i v) (st t' i v')
  | _, _, _, _, _, .nil, _ => .nil
  | _, _, 0, _, _, .cons _ _ _ _ _ hs, h => .cons _ _ _ _ h hs
  | _, _, i + 1, _, _, .cons _ _ _ _ h1 hs, h => .cons _ _ _ _ h1 (st_sim i hs h)
variable {t t' : List Value} {x x' y y' z z' v : Value}
theorem cev_sim (ht : VRs ρ t t') (o : Operand) : VR ρ (cev t o) (ev t' o) := by
  cases o with
  | tmp i => exact gt_sim i ht
  | const v =>
    simp only [cev, ev]
    cases h : flat 5 v with
    | true => exact flat_VR 5 h
    | false => exact .top _
  | global g => exact .top _
  | func f => exact .fn f [] [] [] [] .nil .nil
theorem cevs_sim (ht : VRs ρ t t') : ∀ l : List Operand, VRs ρ (cevs t l) (evs t' l)
  | [] => .nil
  | x :: l => .cons _ _ _ _ (cev_sim ht x) (cevs_sim ht l)
def Sm (ρ : Rho) (a b : Option Value) : Prop := ∀ v, a = some v → ∃ v', b = some v' ∧ VR ρ v v'
theorem Sm.none {b : Option Value} : Sm ρ none b := fun _ h => by cases h
theorem Sm.some (h : VR ρ x y) : Sm ρ (some x) (some y) := fun v e => ⟨y, rfl, by cases e; exact h⟩
theorem pick_sim (hx : VR ρ x x') (hy : VR ρ y y') (hz : VR ρ z z') : Sm ρ (pickV x y z) (pickV x' y' z') := by
  cases hx <;> first | (intro _ h; simp [pickV] at h; done) | skip
  rename_i b
  cases b
  · exact .some hz
  · exact .some hy
theorem arith_flat {op : BinOp} {k : IntKind} {a b : Int} (h : arith op k a b = some v) : VR ρ v v := by
  unfold arith at h
  split at h <;> first
    | (simp only [Option.some.injEq] at h; subst h; first | exact .int _ _ | exact .bool _)
    | (split at h
       · cases h
       · simp only [Option.some.injEq] at h; subst h; exact .int _ _)
theorem bin_sim {op : BinOp} (hx : VR ρ x x') (hy : VR ρ y y') : Sm ρ (binV op x y) (binV op x' y') := by
  intro v h
  cases hx <;> cases hy <;> first | (simp [binV] at h; done) | skip
  · rename_i k a k' b
    refine ⟨v, h, ?_⟩
    simp only [binV] at h
    cases hc : (isSh op || k == k') with
    | true => rw [hc] at h; exact arith_flat h
    | false => rw [hc] at h; cases h
  · refine ⟨v, h, ?_⟩
    simp only [binV] at h
    split at h
    · simp only [Option.some.injEq] at h; subst h; exact .bool _
    · simp only [Option.some.injEq] at h; subst h; exact .bool _
    · cases h
theorem eqb_sim {neg : Bool} (hx : VR ρ x x') (hy : VR ρ y y') : Sm ρ (eqbV neg x y) (eqbV neg x' y') := by
  intro v h
  cases hx <;> cases hy <;> first | (simp [eqbV] at h; done) | skip
  refine ⟨v, h, ?_⟩
  simp only [eqbV, Option.some.injEq] at h; subst h; exact .bool _
theorem leaf_sim {l : Leaf} {r : Bool} (hx : VR ρ x x') (hy : VR ρ y y') (h : leafEq l x y = some r) : leafEq l x' y' = some r := by
  cases hx <;> cases hy <;> first | exact h | (cases l <;> simp [leafEq] at h; done)
theorem eqL_sim : ∀ {ls : List Leaf} {xs ys xs' ys' : List Value} {r : Bool}, VRs ρ xs xs' → VRs ρ ys ys' → eqL ls xs ys = some r → eqL ls xs' ys' = some r
  | [], _, _, _, _, _, .nil, .nil, h => h
  | [], _, _, _, _, _, .nil, .cons .., h => by simp [eqL] at h
  | [], _, _, _, _, _, .cons .., .nil, h => by simp [eqL] at h
  | [], _, _, _, _, _, .cons .., .cons .., h => by simp [eqL] at h
  | _ :: _, _, _, _, _, _, .nil, .nil, h => by simp [eqL] at h
  | _ :: _, _, _, _, _, _, .nil, .cons .., h => by simp [eqL] at h
  | _ :: _, _, _, _, _, _, .cons .., .nil, h => by simp [eqL] at h
  | a :: ls, _, _, _, _, r, .cons x x' xs xs' h1 h2, .cons y y' ys ys' h3 h4, h => by
    simp only [eqL] at h ⊢
    cases e1 : leafEq a x y with
    | none => rw [e1] at h; simp [andO] at h
    | some r1 =>
      cases e2 : eqL ls xs ys with
      | none => rw [e1, e2] at h; simp [andO] at h
      | some r2 => rw [leaf_sim h1 h3 e1, eqL_sim h2 h4 e2]; rw [e1, e2] at h; exact h
theorem eqA_sim {neg : Bool} {ls : List Leaf} (hx : VR ρ x x') (hy : VR ρ y y') : Sm ρ (eqAV neg ls x y) (eqAV neg ls x' y') := by
  intro v h
  cases hx <;> cases hy <;> first | (simp [eqAV] at h; done) | skip
  rename_i xs xs' h1 ys ys' h2
  simp only [eqAV] at h ⊢
  cases e : eqL ls xs ys with
  | none => rw [e] at h; cases h
  | some r =>
    rw [e] at h
    rw [eqL_sim h1 h2 e]
    simp only [Option.some.injEq] at h; subst h
    exact ⟨_, rfl, .bool _⟩
theorem eqp_sim {neg : Bool} (hx : VR ρ x x') (hy : VR ρ y y') : Sm ρ (eqpV neg x y) (eqpV neg x' y') := by
  intro v h
  cases hx <;> cases hy <;> first | (simp [eqpV] at h; done) | skip
  all_goals (simp [eqpV] at h ⊢; subst h; exact .bool _)
theorem eqs_sim {neg : Bool} (hx : VR ρ x x') (hy : VR ρ y y') : Sm ρ (eqsV neg x y) (eqsV neg x' y') := by
  intro v h
  cases hx <;> cases hy <;> first | (simp [eqsV] at h; done) | skip
  all_goals (simp [eqsV] at h ⊢; subst h; exact .bool _)
theorem eqf_sim {neg : Bool} (hx : VR ρ x x') (hy : VR ρ y y') : Sm ρ (eqfV neg x y) (eqfV neg x' y') := by
  intro v h
  cases hx <;> cases hy <;> first | (simp [eqfV] at h; done) | skip
  all_goals (simp [eqfV] at h ⊢; subst h; exact .bool _)
theorem feq_sim {neg : Bool} (hx : VR ρ x x') (hy : VR ρ y y') : Sm ρ (feqV neg x y) (feqV neg x' y') := by
  intro v h
  cases hx <;> cases hy <;> first | (simp [feqV] at h; done) | skip
  refine ⟨v, h, ?_⟩
  unfold feqV at h
  split at h
  · simp only [Option.some.injEq] at h; subst h; exact .bool _
  · cases h
theorem cap_sim (hx : VR ρ x x') : Sm ρ (ccap x) (capV x') := by
  intro v h
  cases hx <;> first | (simp [ccap] at h; done) | skip
  · simp only [ccap, Option.some.injEq] at h; subst h; exact ⟨_, rfl, .int _ _⟩
  · rename_i b o n c c' e he hc
    simp only [ccap] at h
    cases hb : Nat.blt c big with
    | false => rw [hb] at h; cases h
    | true =>
      rw [hb] at h
      have hlt : c < big := by simpa [Nat.blt_eq] using hb
      rcases hc with ⟨_, rfl⟩ | ⟨h1, _⟩
      · simp only [cond_true, Option.some.injEq] at h; subst h; exact ⟨_, rfl, .int _ _⟩
      · omega
theorem fb_sim {b : Bool} (hx : VR ρ x x') : Sm ρ (fbV b x) (fbV b x') := by
  intro v h
  cases hx <;> first | (cases b <;> simp [fbV] at h; done) | skip
  all_goals
    refine ⟨v, h, ?_⟩
    unfold fbV at h
    split at h <;> first
      | (cases h; done)
      | (simp only [Option.some.injEq] at h; subst h; first | exact .float _ _ | exact .int _ _)
theorem un_sim {op : UnOp} (hx : VR ρ x x') : Sm ρ (unV op x) (unV op x') := by
  intro v h
  cases hx <;> first | (cases op <;> simp [unV] at h; done) | skip
  all_goals
    refine ⟨v, h, ?_⟩
    unfold unV at h
    split at h <;> first | cases h; done | (simp only [Option.some.injEq] at h; subst h; first | exact .int _ _ | exact .bool _)
theorem conv_sim {k : IntKind} (hx : VR ρ x x') : Sm ρ (convV k x) (convV k x') := by
  intro v h
  cases hx <;> first | (simp [convV] at h; done) | skip
  refine ⟨v, h, ?_⟩
  simp only [convV, Option.some.injEq] at h; subst h; exact .int _ _
theorem tk_sim : ∀ {l l' : List Value} (o n : Nat) {r : List Value}, VRs ρ l l' → tk l o n = some r → ∃ r', tk l' o n = some r' ∧ VRs ρ r r'
  | _, _, 0, 0, r, h, e => by
    have : r = [] := by cases h <;> (simp [tk] at e; exact e.symm ▸ rfl)
    subst this
    exact ⟨[], by cases h <;> rfl, .nil⟩
  | _, _, o + 1, n, r, .nil, e => by simp [tk] at e
  | _, _, 0, n + 1, r, .nil, e => by simp [tk] at e
  | _, _, 0, n + 1, r, .cons v v' l l' h hs, e => by
    simp only [tk] at e ⊢
    split at e
    · rename_i r1 e1
      obtain ⟨r2, e2, h2⟩ := tk_sim 0 n hs e1
      simp only [Option.some.injEq] at e; subst e
      rw [e2]
      exact ⟨_, rfl, .cons _ _ _ _ h h2⟩
    · cases e
  | _, _, o + 1, n, r, .cons v v' l l' h hs, e => by
    simp only [tk] at e ⊢
    exact tk_sim o n hs e
theorem mk_sim {g : Bool} {r r' : List Value} (h : VRs ρ r r') : Sm ρ (mkV g (some r)) (mkV g (some r')) := by
  cases g with
  | true => exact .some (.agg _ _ h)
  | false =>
    intro v e
    cases h with
    | nil => simp [mkV, one] at e
    | cons _ _ _ _ h hs =>
      cases hs with
      | nil => simp [mkV, one] at e ⊢; subst e; exact h
      | cons => simp [mkV, one] at e
theorem mkO_sim {g : Bool} {r r' : Option (List Value)} (h : ∀ l, r = some l → ∃ l', r' = some l' ∧ VRs ρ l l') : Sm ρ (mkV g r) (mkV g r') := by
  cases r with
  | none => intro v e; simp [mkV] at e
  | some l => obtain ⟨l', rfl, h'⟩ := h l rfl; exact mk_sim h'
theorem field_sim {g : Bool} {off n : Nat} (hx : VR ρ x x') : Sm ρ (fieldV g off n x) (fieldV g off n x') := by
  cases hx <;> first | (intro _ h; simp [fieldV] at h; done) | skip
  rename_i xs xs' h
  exact mkO_sim fun l e => tk_sim off n h e
theorem idxA_sim {g : Bool} {es len : Nat} (hx : VR ρ x x') (hy : VR ρ y y') : Sm ρ (idxAV g es len x y) (idxAV g es len x' y') := by
  intro v h
  cases hx <;> cases hy <;> first | (simp [idxAV] at h; done) | skip
  rename_i xs xs' h1 k i
  simp only [idxAV] at h ⊢
  split at h
  · rename_i hc
    rw [if_pos hc]
    exact mkO_sim (fun l e => tk_sim _ _ h1 e) v h
  · cases h
theorem faddr_sim {off : Nat} (hx : VR ρ x x') : Sm ρ (faddrV off x) (faddrV off x') := by
  cases hx <;> first | (intro _ h; simp [faddrV] at h; done) | skip
  rename_i b o e he
  exact .some (.ptr b (o + off) e he)
theorem iaddrS_sim {es : Nat} (hx : VR ρ x x') (hy : VR ρ y y') : Sm ρ (iaddrSV es x y) (iaddrSV es x' y') := by
  intro v h
  cases hx <;> cases hy <;> first | (simp [iaddrSV] at h; done) | skip
  rename_i b o n c c' e he hc k i
  simp only [iaddrSV] at h ⊢
  split at h
  · rename_i hc
    rw [if_pos hc]
    simp only [Option.some.injEq] at h; subst h
    exact ⟨_, rfl, .ptr b _ e he⟩
  · cases h
theorem iaddrA_sim {es len : Nat} (hx : VR ρ x x') (hy : VR ρ y y') : Sm ρ (iaddrAV es len x y) (iaddrAV es len x' y') := by
  intro v h
  cases hx <;> cases hy <;> first | (simp [iaddrAV] at h; done) | skip
  rename_i b o e he k i
  simp only [iaddrAV] at h ⊢
  split at h
  · rename_i hc
    rw [if_pos hc]
    simp only [Option.some.injEq] at h; subst h
    exact ⟨_, rfl, .ptr b _ e he⟩
  · cases h
theorem get_sim : ∀ {l l' : List Value} (i : Nat), VRs ρ l l' → Sm ρ l[i]? l'[i]?
  | _, _, _, .nil => fun _ h => by simp at h
  | _, _, 0, .cons _ _ _ _ h _ => .some h
  | _, _, i + 1, .cons _ _ _ _ _ hs => by simpa using get_sim i hs
theorem ext_sim {i : Nat} (hx : VR ρ x x') : Sm ρ (extV i x) (extV i x') := by
  cases hx <;> first | (intro _ h; simp [extV] at h; done) | skip
  rename_i xs xs' h
  have := get_sim i h
  simpa [extV] using this
theorem len_sim {s : Bool} (hx : VR ρ x x') : Sm ρ (lenV s x) (lenV s x') := by
  intro v h
  cases hx <;> first | (cases s <;> simp [lenV] at h; done) | skip
  all_goals
    cases s
    all_goals first | (simp [lenV] at h; done) | (simp only [lenV, Option.some.injEq] at h ⊢; subst h; exact ⟨_, rfl, .int _ _⟩)
theorem mm_sim {mx : Bool} {xs xs' : List Value} (hx : VRs ρ xs xs') : Sm ρ (mmV mx xs) (mmV mx xs') := by
  intro v h
  cases hx with
  | nil => simp [mmV] at h
  | cons a a' l l' h1 hs =>
    cases hs with
    | nil => simp [mmV] at h
    | cons b b' l l' h2 hs =>
      cases hs with
      | cons => simp [mmV] at h
      | nil =>
        simp only [mmV] at h ⊢
        cases h1 <;> cases h2 <;> first | (simp [mm2] at h; done) | skip
        refine ⟨v, h, ?_⟩
        simp only [mm2, Option.some.injEq] at h; subst h; exact .int _ _
theorem nilck_sim (hx : VR ρ x x') : Sm ρ (nilckV x) (nilckV x') := by
  intro v h
  cases hx <;> first | (simp [nilckV] at h; done) | skip
  all_goals
    simp only [nilckV, Option.some.injEq] at h ⊢
    subst h
    refine ⟨_, rfl, ?_⟩
    first | exact .ptr _ _ _ ‹_› | exact .slc0 _ _ | exact .slc _ _ _ _ _ _ ‹_› ‹_› | exact .fn _ _ _ _ _ ‹_› ‹_›
theorem tass_sim {ty : TypeId} {u : Value} (hx : VR ρ x x') : Sm ρ (ctass ty u x) (tassV ty u x') := by
  intro v h
  unfold ctass at h
  cases hf : flat 5 u with
  | false => rw [hf] at h; cases h
  | true =>
    rw [hf] at h
    have hu : VR ρ u u := flat_VR 5 hf
    simp only [cond_true] at h
    cases hx <;> first | (simp [tassV] at h; done) | skip
    · simp only [tassV, Option.some.injEq] at h ⊢; subst h
      exact ⟨_, rfl, .tup _ _ (.cons _ _ _ _ hu (.one (.bool _)))⟩
    · rename_i t1 v1 v1' h1
      simp only [tassV] at h ⊢
      split at h
      · rename_i e; rw [if_pos e]
        simp only [Option.some.injEq] at h; subst h
        exact ⟨_, rfl, .tup _ _ (.cons _ _ _ _ h1 (.one (.bool _)))⟩
      · rename_i e; rw [if_neg e]
        simp only [Option.some.injEq] at h; subst h
        exact ⟨_, rfl, .tup _ _ (.cons _ _ _ _ hu (.one (.bool _)))⟩
theorem isn_sim {neg : Bool} (hx : VR ρ x x') : Sm ρ (isnV neg x) (isnV neg x') := by
  intro v h
  cases hx <;> first | (simp [isnV] at h; done) | skip
  all_goals (simp only [isnV, Option.some.injEq] at h ⊢; subst h; exact ⟨_, rfl, .bool _⟩)
theorem bnd_sim {d n r : Nat} {a a' : Option Value} (h : a = none ∧ a' = none ∨ ∃ v v', a = some v ∧ a' = some v' ∧ VR ρ v v') (e : bnd a d n = some r) : bnd a' d n = some r := by
  rcases h with ⟨rfl, rfl⟩ | ⟨v, v', rfl, rfl, hv⟩
  · exact e
  · cases hv <;> first | exact e | (simp [bnd] at e; done)
theorem copt_sim (ht : VRs ρ t t') (o : Option Operand) : copt t o = none ∧ optE t' o = none ∨ ∃ v v', copt t o = some v ∧ optE t' o = some v' ∧ VR ρ v v' := by
  cases o with
  | none => exact .inl ⟨rfl, rfl⟩
  | some x => exact .inr ⟨_, _, rfl, rfl, cev_sim ht x⟩
def Bs (ρ : Rho) (a a' : Option Value) : Prop := a = none ∧ a' = none ∨ ∃ v v', a = some v ∧ a' = some v' ∧ VR ρ v v'
theorem bnd_le {a : Option Value} {d n r : Nat} (hd : d ≤ n) (e : bnd a d n = some r) : r ≤ n := by
  unfold bnd at e
  split at e
  · simp only [Option.some.injEq] at e; omega
  · split at e
    · simp only [Option.some.injEq] at e; omega
    · cases e
  · cases e
theorem bnd_up {v : Value} {d d' n n' r : Nat} (hn : n ≤ n') (e : bnd (some v) d n = some r) : bnd (some v) d' n' = some r := by
  unfold bnd at e ⊢
  split at e
  · rename_i h; cases h
  · rename_i k i h
    simp only [Option.some.injEq] at h
    subst h
    simp only
    split at e
    · rw [if_pos (by omega)]; exact e
    · cases e
  · cases e
end
end Go.Proofs.YtbpaekbjpapgeaaGreatDoor.K
namespace Go.Proofs.YtbpaekbjpapgeaaGreatDoor.K
section
variable {ρ ρ' : Rho} {t t' : List Value} {x x' y y' z z' v : Value}
theorem slA_at {b o k : Nat} : slA (some ⟨b, o, none⟩) k = some (some ⟨b, o + k, none⟩) := by cases k <;> rfl
theorem slA_nil {k : Nat} : slA none k = some none := rfl
theorem cslcB_inv {a : Option Addr} {es n c : Nat} {lo hi mx : Option Value} (e : slcB a es n c lo hi mx = some v) : ∃ m h l a1, bnd mx c c = some m ∧ bnd hi n m = some h ∧ bnd lo 0 h = some l ∧ slA a (if m = l then 0 else l * es) = some a1 ∧ v = .slice a1 (h - l) (m - l) := by
  unfold slcB at e
  simp only [Option.bind_eq_some_iff] at e
  obtain ⟨m, h1, h, h2, l, h3, a1, h4, h5⟩ := e
  cases h5
  exact ⟨m, h, l, a1, h1, h2, h3, h4, rfl⟩
theorem slcB_mk {a a1 : Option Addr} {es n c m h l : Nat} {lo hi mx : Option Value} (h1 : bnd mx c c = some m) (h2 : bnd hi n m = some h) (h3 : bnd lo 0 h = some l) (h4 : slA a (if m = l then 0 else l * es) = some a1) : slcB a es n c lo hi mx = some (.slice a1 (h - l) (m - l)) := by
  simp only [slcB, h1, h2, h3, h4, Option.bind_some]
theorem slc_known {b o n c es : Nat} {e : Ent} {lo hi mx lo' hi' mx' : Option Value} (he : ρ b = some e) (hl : Bs ρ lo lo') (hh : Bs ρ hi hi') (hm : Bs ρ mx mx') (hc : c < big) : Sm ρ (slcB (some ⟨b, o, none⟩) es n c lo hi mx) (slcB (some ⟨e.a, o, none⟩) es n c lo' hi' mx') := by
  intro v h
  obtain ⟨m, hi1, l, a1, h1, h2, h3, h4, rfl⟩ := cslcB_inv h
  have hmc := bnd_le (Nat.le_refl c) h1
  rw [slA_at] at h4
  simp only [Option.some.injEq] at h4; subst h4
  refine ⟨_, slcB_mk (bnd_sim hm h1) (bnd_sim hh h2) (bnd_sim hl h3) slA_at, ?_⟩
  exact .slc b _ _ _ _ e he (.inl ⟨by omega, rfl⟩)
theorem slc_nil {n c es : Nat} {lo hi mx lo' hi' mx' : Option Value} (hl : Bs ρ lo lo') (hh : Bs ρ hi hi') (hm : Bs ρ mx mx') : Sm ρ (slcB none es n c lo hi mx) (slcB none es n c lo' hi' mx') := by
  intro v h
  obtain ⟨m, hi1, l, a1, h1, h2, h3, h4, rfl⟩ := cslcB_inv h
  rw [slA_nil] at h4
  simp only [Option.some.injEq] at h4; subst h4
  exact ⟨_, slcB_mk (bnd_sim hm h1) (bnd_sim hh h2) (bnd_sim hl h3) slA_nil, .slc0 _ _⟩
theorem Bs.some_inv {a' : Option Value} {v : Value} (h : Bs ρ (some v) a') : ∃ v', a' = some v' ∧ VR ρ v v' := by
  rcases h with ⟨h, _⟩ | ⟨u, u', h, h', hv⟩
  · cases h
  · simp only [Option.some.injEq] at h; subst h; exact ⟨u', h', hv⟩
theorem Bs.none_inv {a' : Option Value} (h : Bs ρ none a') : a' = none := by
  rcases h with ⟨_, h⟩ | ⟨u, u', h, _⟩
  · exact h
  · cases h
theorem slc_sim {es : Nat} {lo hi mx lo' hi' mx' : Option Value} (hx : VR ρ x x') (hl : Bs ρ lo lo') (hh : Bs ρ hi hi') (hm : Bs ρ mx mx') : Sm ρ (cslc es lo hi mx x) (slcV es lo' hi' mx' x') := by
  intro v h
  cases hx <;> first | (simp [cslc] at h; done) | skip
  · exact slc_nil hl hh hm v h
  · rename_i b o n c c' e he hc
    simp only [cslc, cslB] at h
    simp only [slcV]
    cases hb : Nat.blt c big with
    | true =>
      have hlt : c < big := by simpa [Nat.blt_eq] using hb
      rw [hb] at h
      rcases hc with ⟨_, rfl⟩ | ⟨h1, _⟩
      · exact slc_known he hl hh hm hlt v h
      · omega
    | false =>
      rw [hb] at h
      simp only [cond_false] at h
      have hge : big ≤ c := by
        rcases Nat.lt_or_ge c big with h' | h'
        · have : Nat.blt c big = true := by simpa [Nat.blt_eq] using h'
          rw [hb] at this; cases this
        · exact h'
      obtain ⟨hc1, hc2⟩ : c' + 2 * big = e.k + c ∧ n ≤ c' := by
        rcases hc with ⟨h1, _⟩ | ⟨_, h2, h3⟩
        · omega
        · exact ⟨h2, h3⟩
      cases mx with
      | some u =>
        simp only [Option.bind_eq_some_iff] at h
        obtain ⟨m, h1, h0, h2, l, h3, h4⟩ := h
        cases hmb : Nat.blt m big with
        | false => rw [hmb] at h4; cases h4
        | true =>
          rw [hmb] at h4
          have hm' : m < big := by simpa [Nat.blt_eq] using hmb
          simp only [cond_true, slA_at, Option.bind_some, Option.some.injEq] at h4
          subst h4
          obtain ⟨u', rfl, hu⟩ := hm.some_inv
          have k1 := bnd_sim (ρ := ρ) (.inr ⟨u, u', rfl, rfl, hu⟩) h1
          exact ⟨_, slcB_mk (bnd_up hc2 k1) (bnd_sim hh h2) (bnd_sim hl h3) slA_at, .slc b _ _ _ _ e he (.inl ⟨by omega, rfl⟩)⟩
      | none =>
        have hmn := hm.none_inv
        subst hmn
        simp only [Option.bind_eq_some_iff] at h
        obtain ⟨h0, h2, l, h3, h4⟩ := h
        cases hcond : ((Nat.beq l 0 || Nat.blt l n) && Nat.ble (big + l) c) with
        | false => rw [hcond] at h4; cases h4
        | true =>
          rw [hcond] at h4
          simp only [Bool.and_eq_true, Bool.or_eq_true, Nat.beq_eq, Nat.blt_eq, Nat.ble_eq] at hcond
          obtain ⟨hz, hble⟩ := hcond
          simp only [cond_true, slA_at, Option.bind_some, Option.some.injEq] at h4
          subst h4
          have hh0 := bnd_le (Nat.le_refl n) h2
          have hl0 := bnd_le (Nat.zero_le _) h3
          have k2 := bnd_sim hh h2
          have k2' : bnd hi' n c' = some h0 := by
            cases hi' with
            | none => exact k2
            | some u => exact bnd_up hc2 k2
          refine ⟨_, slcB_mk (m := c') rfl k2' (bnd_sim hl h3) slA_at, ?_⟩
          have hoff : (if c' = l then 0 else l * es) = l * es := by
            split
            · rename_i e'
              rcases hz with rfl | hz
              · simp
              · omega
            · rfl
          rw [hoff]
          exact .slc b _ _ _ _ e he (.inr ⟨by omega, by omega, by omega⟩)
theorem slcA_sim {es len : Nat} {lo hi mx lo' hi' mx' : Option Value} (hx : VR ρ x x') (hl : Bs ρ lo lo') (hh : Bs ρ hi hi') (hm : Bs ρ mx mx') : Sm ρ (cslA es len lo hi mx x) (slcAV es len lo' hi' mx' x') := by
  intro v h
  cases hx <;> first | (simp [cslA] at h; done) | skip
  rename_i b o e he
  simp only [cslA] at h
  cases hb : Nat.blt len big with
  | false => rw [hb] at h; cases h
  | true =>
    rw [hb] at h
    exact slc_known he hl hh hm (by simpa [Nat.blt_eq] using hb) v h
inductive KR (ρ : Rho) (e : Ent) : CK → KB → Prop
  | cells (cs cs' : List Value) (n : Nat) (h : VRs ρ cs cs') : KR ρ e (.cells cs n) (.cells cs' n)
  | grown (cs cs' : List Value) (sz : Nat) (h : VRs ρ cs cs') : KR ρ e (.grown cs sz) (.cells cs' (e.k * sz))
  | map (kd : IntKind) (l : List (Int × Value)) (f : Int → Option Value) (h : ∀ i, f i = clkI l i) (hv : ∀ i v, clkI l i = some v → flat 4 v = true) : KR ρ e (.map kd l) (.map kd f)
  | loop (st : LSt) : KR ρ e (.loop st) (.loop e.lp st)
  | dfr : KR ρ e .dfr .dfr
theorem KR.mono {e : Ent} {k : CK} {k' : KB} (hl : Le ρ ρ') (h : KR ρ e k k') : KR ρ' e k k' := by
  cases h with
  | cells cs cs' n h => exact .cells _ _ _ (h.mono hl)
  | grown cs cs' sz h => exact .grown _ _ _ (h.mono hl)
  | map kd l f h hv => exact .map kd l f h hv
  | loop st => exact .loop st
  | dfr => exact .dfr
structure Sim (B : OH) (H0 : HL) (ρ : Rho) (C : CH) (n : Nat) (H : HL) (N : St) : Prop where
  new : ∀ b, n ≤ b → ρ b = none
  dom : ∀ b x, ρ b = some x → lk H x.a ≠ none
  heap : ∀ b k, clk C b = some k → ∃ x k', ρ b = some x ∧ lk H x.a = some k' ∧ KR ρ x k k' ∧ B x.a = none ∧ lk H0 x.a = none
  inj : ∀ b1 b2 x1 x2 k1 k2, clk C b1 = some k1 → clk C b2 = some k2 → ρ b1 = some x1 → ρ b2 = some x2 → x1.a = x2.a → b1 = b2
  gd : good B H N
  fr : Fr H0 H
variable {B : OH} {H0 H H' : HL} {C C' : CH} {n n' : Nat} {N N' : St}
theorem Sim.drop (h : Sim B H0 ρ C n H N) (hc : ∀ b k, clk C' b = some k → clk C b = some k) : Sim B H0 ρ C' n H N :=
  ⟨h.new, h.dom, fun b k e => h.heap b k (hc b k e), fun b1 b2 x1 x2 k1 k2 e1 e2 => h.inj b1 b2 x1 x2 k1 k2 (hc _ _ e1) (hc _ _ e2), h.gd, h.fr⟩
theorem clk_cdel : ∀ {C : CH} {b y : Nat} {k : CK}, clk (cdel C b) y = some k → y ≠ b ∧ clk C y = some k
  | [], _, _, _, h => by simp [cdel, clk] at h
  | (x, k0) :: C, b, y, k, h => by
    simp only [cdel] at h
    cases hb : Nat.beq b x with
    | true =>
      rw [hb] at h
      obtain ⟨h1, h2⟩ := clk_cdel h
      have hbx : b = x := by simpa using hb
      refine ⟨h1, ?_⟩
      have : Nat.beq y x = false := by
        cases hy : Nat.beq y x with
        | false => rfl
        | true => exact (h1 (by rw [hbx]; simpa using hy)).elim
      simp only [clk, this, cond_false]
      exact h2
    | false =>
      rw [hb] at h
      simp only [cond_false, clk] at h ⊢
      cases hy : Nat.beq y x with
      | true =>
        rw [hy] at h
        refine ⟨?_, h⟩
        intro e
        have : y = x := by simpa using hy
        rw [← this, e] at hb
        simp at hb
      | false =>
        rw [hy] at h
        exact clk_cdel h
theorem clk_ccut : ∀ {C : CH} {m y : Nat} {k : CK}, clk (ccut m C) y = some k → y < m ∧ clk C y = some k
  | [], _, _, _, h => by simp [ccut, clk] at h
  | (x, k0) :: C, m, y, k, h => by
    simp only [ccut] at h
    cases hb : Nat.blt x m with
    | false =>
      rw [hb] at h
      obtain ⟨h1, h2⟩ := clk_ccut h
      refine ⟨h1, ?_⟩
      have : Nat.beq y x = false := by
        cases hy : Nat.beq y x with
        | false => rfl
        | true =>
          have e : y = x := by simpa using hy
          subst e
          have : Nat.blt y m = true := by simpa [Nat.blt_eq] using h1
          rw [hb] at this; cases this
      simp only [clk, this, cond_false]
      exact h2
    | true =>
      rw [hb] at h
      simp only [cond_true, clk] at h ⊢
      cases hy : Nat.beq y x with
      | true =>
        rw [hy] at h
        have e : y = x := by simpa using hy
        subst e
        exact ⟨by simpa [Nat.blt_eq] using hb, h⟩
      | false =>
        rw [hy] at h
        exact clk_ccut h
theorem clk_ckeep {n0 : Nat} {seen : List Nat} : ∀ {C : CH} {y : Nat} {k : CK}, clk (ckeep n0 seen C) y = some k → (Nat.blt y n0 || memN y seen) = true ∧ clk C y = some k
  | [], _, _, h => by simp [ckeep, clk] at h
  | (x, k0) :: C, y, k, h => by
    simp only [ckeep] at h
    cases hb : (Nat.blt x n0 || memN x seen) with
    | false =>
      rw [hb] at h
      obtain ⟨h1, h2⟩ := clk_ckeep h
      refine ⟨h1, ?_⟩
      have : Nat.beq y x = false := by
        cases hy : Nat.beq y x with
        | false => rfl
        | true =>
          have e : y = x := by simpa using hy
          subst e
          rw [hb] at h1; cases h1
      simp only [clk, this, cond_false]
      exact h2
    | true =>
      rw [hb] at h
      simp only [cond_true, clk] at h ⊢
      cases hy : Nat.beq y x with
      | true =>
        rw [hy] at h
        have e : y = x := by simpa using hy
        subst e
        exact ⟨hb, h⟩
      | false =>
        rw [hy] at h
        exact clk_ckeep h
theorem clk_cup : ∀ {C : CH} {b y : Nat} {k k0 : CK}, clk C b = some k0 → clk (cup C b k) y = bif Nat.beq y b then some k else clk C y
  | [], _, _, _, _, h => by simp [clk] at h
  | (x, k1) :: C, b, y, k, k0, h => by
    simp only [cup]
    cases hb : Nat.beq b x with
    | true =>
      have e : b = x := by simpa using hb
      subst e
      simp only [cond_true, clk]
      cases Nat.beq y b <;> rfl
    | false =>
      simp only [clk, hb, cond_false] at h
      simp only [cond_false, clk]
      cases hy : Nat.beq y x with
      | true =>
        have e : y = x := by simpa using hy
        subst e
        have : Nat.beq y b = false := by
          cases h' : Nat.beq y b with
          | false => rfl
          | true =>
            have : y = b := by simpa using h'
            subst this; simp at hb
        rw [this]; rfl
      | false => simp only [cond_false]; exact clk_cup h
theorem Sim.put (h : Sim B H0 ρ C n H N) {b : Nat} {x : Ent} {k0 kn : CK} {k1' : KB} (hb : clk C b = some k0) (hx : ρ b = some x) (hk : KR ρ x kn k1') (hl : ∀ y, lk H' y = if y = x.a then some k1' else lk H y) (hg : good B H' N') : Sim B H0 ρ (cup C b kn) n H' N' := by
  obtain ⟨x0, k0', hx0, _, _, hB0, hL0⟩ := h.heap b k0 hb
  rw [hx] at hx0
  simp only [Option.some.injEq] at hx0; subst hx0
  refine ⟨h.new, fun b' x' e => ?_, fun b' k e => ?_, fun b1 b2 x1 x2 k1 k2 e1 e2 => ?_, hg, fun y c e => ?_⟩
  · rw [hl]; split
    · simp
    · exact h.dom b' x' e
  · rw [clk_cup hb] at e
    cases hbb : Nat.beq b' b with
    | true =>
      have e' : b' = b := by simpa using hbb
      subst e'
      rw [hbb] at e
      simp only [cond_true, Option.some.injEq] at e; subst e
      exact ⟨x, k1', hx, by rw [hl, if_pos rfl], hk, hB0, hL0⟩
    | false =>
      rw [hbb] at e
      simp only [cond_false] at e
      obtain ⟨x', k', a1, a2, a3, a4, a5⟩ := h.heap b' k e
      refine ⟨x', k', a1, ?_, a3, a4, a5⟩
      rw [hl, if_neg]
      · exact a2
      · intro e'
        have := h.inj b' b x' x k k0 e hb a1 hx e'
        subst this; simp at hbb
  · have key : ∀ b' k', clk (cup C b kn) b' = some k' → ∃ k'', clk C b' = some k'' := fun b' k' e => by
      rw [clk_cup hb] at e
      cases hbb : Nat.beq b' b with
      | true =>
        have e' : b' = b := by simpa using hbb
        subst e'; exact ⟨_, hb⟩
      | false => rw [hbb] at e; exact ⟨_, e⟩
    obtain ⟨k1'', e1'⟩ := key _ _ e1
    obtain ⟨k2'', e2'⟩ := key _ _ e2
    exact h.inj b1 b2 x1 x2 _ _ e1' e2'
  · have := h.fr y c e
    rw [hl, if_neg]
    · exact this
    · intro e'; subst e'; rw [hL0] at e; cases e
def setR (ρ : Rho) (n : Nat) (e : Ent) : Rho := fun b => if b = n then some e else ρ b
theorem le_setR {e : Ent} (h : ρ n = none) : Le ρ (setR ρ n e) := fun b x hb => by
  unfold setR
  split
  · rename_i e'; subst e'; rw [h] at hb; cases hb
  · exact hb
theorem setR_at {e : Ent} : setR ρ n e n = some e := by simp [setR]
theorem Sim.fresh (h : Sim B H0 ρ C n H N) {a : Nat} {e : Ent} {k : CK} {k' : KB} (hea : e.a = a) (hk : KR (setR ρ n e) e k k') (hB : B a = none) (hl0 : lk H0 a = none) (hne : ∀ b x k, clk C b = some k → ρ b = some x → x.a ≠ a) (hg : good B ((a, k') :: H) N') : Sim B H0 (setR ρ n e) ((n, k) :: C) (n + 1) ((a, k') :: H) N' := by
  have hle : Le ρ (setR ρ n e) := le_setR (h.new n (Nat.le_refl _))
  have hnC : ∀ k0, clk C n ≠ some k0 := fun k0 e0 => by
    obtain ⟨x, _, hx, _⟩ := h.heap n k0 e0
    rw [h.new n (Nat.le_refl _)] at hx; cases hx
  have hlk : ∀ y, lk ((a, k') :: H) y = bif y == a then some k' else lk H y := fun y => rfl
  refine ⟨fun b hb => ?_, fun b x hb => ?_, fun b k0 e0 => ?_, fun b1 b2 x1 x2 k1 k2 e1 e2 h1 h2 hx => ?_, hg, fun y c ec => ?_⟩
  · unfold setR; rw [if_neg (by omega)]; exact h.new b (by omega)
  · rw [hlk]
    cases hy : x.a == a with
    | true => simp
    | false =>
      simp only [cond_false]
      unfold setR at hb
      split at hb
      · simp only [Option.some.injEq] at hb; subst hb; rw [hea] at hy; simp at hy
      · exact h.dom b x hb
  · simp only [clk] at e0
    cases hb : Nat.beq b n with
    | true =>
      have e' : b = n := by simpa using hb
      subst e'
      rw [hb] at e0
      simp only [cond_true, Option.some.injEq] at e0; subst e0
      exact ⟨e, k', setR_at, by rw [hlk, hea]; simp, hk, by rw [hea]; exact hB, by rw [hea]; exact hl0⟩
    | false =>
      rw [hb] at e0
      simp only [cond_false] at e0
      obtain ⟨x, k1, a1, a2, a3, a4, a5⟩ := h.heap b k0 e0
      refine ⟨x, k1, hle b x a1, ?_, a3.mono hle, a4, a5⟩
      have : (x.a == a) = false := by simpa using hne b x k0 e0 a1
      rw [hlk, this]; exact a2
  · have old : ∀ b x k0, clk ((n, k) :: C) b = some k0 → setR ρ n e b = some x → b ≠ n → clk C b = some k0 ∧ ρ b = some x := fun b x k0 e1 e2 hbn => by
      have hb : Nat.beq b n = false := by
        cases h' : Nat.beq b n with
        | false => rfl
        | true => exact (hbn (by simpa using h')).elim
      simp only [clk, hb, cond_false] at e1
      unfold setR at e2
      rw [if_neg hbn] at e2
      exact ⟨e1, e2⟩
    by_cases n1 : b1 = n
    · by_cases n2 : b2 = n
      · rw [n1, n2]
      · obtain ⟨c2, r2⟩ := old b2 x2 k2 e2 h2 n2
        rw [n1, setR_at] at h1
        simp only [Option.some.injEq] at h1; subst h1
        exact (hne b2 x2 k2 c2 r2 (by rw [← hx, hea])).elim
    · obtain ⟨c1, r1⟩ := old b1 x1 k1 e1 h1 n1
      by_cases n2 : b2 = n
      · rw [n2, setR_at] at h2
        simp only [Option.some.injEq] at h2; subst h2
        exact (hne b1 x1 k1 c1 r1 (by rw [hx, hea])).elim
      · obtain ⟨c2, r2⟩ := old b2 x2 k2 e2 h2 n2
        exact h.inj b1 b2 x1 x2 k1 k2 c1 c2 r1 r2 hx
  · rw [hlk]
    have : (y == a) = false := by
      cases hy : y == a with
      | false => rfl
      | true =>
        have e' : y = a := by simpa using hy
        subst e'; rw [hl0] at ec; cases ec
    rw [this]; exact h.fr y c ec
theorem Sim.newN (h : Sim B H0 ρ C n H N) {e : Ent} {k : CK} {k' : KB} (i : Nat) (hea : e.a = N i) (hk : KR (setR ρ n e) e k k') (hg : good B ((N i, k') :: H) N') : Sim B H0 (setR ρ n e) ((n, k) :: C) (n + 1) ((N i, k') :: H) N' := by
  have hl := lk_N h.gd i
  refine h.fresh hea hk (good_B h.gd i) ?_ (fun b x k0 e0 hx => ?_) hg
  · cases h0 : lk H0 (N i) with
    | none => rfl
    | some c => rw [h.fr _ _ h0] at hl; cases hl
  · obtain ⟨x', k1, a1, a2, _⟩ := h.heap b k0 e0
    rw [hx] at a1
    simp only [Option.some.injEq] at a1; subst a1
    intro e'
    rw [e', hl] at a2; cases a2
end
end Go.Proofs.YtbpaekbjpapgeaaGreatDoor.K
namespace Go.Proofs.YtbpaekbjpapgeaaGreatDoor.K
section
variable {ρ ρ' : Rho} {t t' : List Value} {x x' y y' z z' v : Value} {B : OH} {H0 H H' : HL} {C C' : CH} {n n' : Nat} {N N' : St}
theorem crd_sim (h : Sim B H0 ρ C n H N) {b o m : Nat} {e : Ent} (he : ρ b = some e) {r : List Value} (hr : crd o m (clk C b) = some r) : ∃ r', rdH H B e.a o m = some r' ∧ VRs ρ r r' := by
  cases hc : clk C b with
  | none => rw [hc] at hr; cases hr
  | some k =>
    obtain ⟨x, k', h1, h2, h3, h4, _⟩ := h.heap b k hc
    rw [he] at h1
    simp only [Option.some.injEq] at h1; subst h1
    rw [hc] at hr
    have key : rdH H B e.a o m = k'.rd o m := by
      simp only [rdH, rdB, h4, rdO, rdN, h2, rdL]
    rw [key]
    cases h3 with
    | cells cs cs' n hs => exact tk_sim o m hs hr
    | grown cs cs' sz hs => exact tk_sim o m hs hr
    | map => cases hr
    | loop => cases hr
    | dfr => cases hr
theorem load_sim (h : Sim B H0 ρ C n H N) {g : Bool} {m : Nat} (hx : VR ρ x x') : Sm ρ (cload g m C x) (loadV g m H B x') := by
  cases hx <;> first | (intro _ h; simp [cload] at h; done) | skip
  rename_i b o e he
  exact mkO_sim fun l hl => crd_sim h he hl
theorem wr_sim : ∀ {l l' : List Value} (o : Nat) {vs vs' : List Value} {r : List Value}, VRs ρ l l' → VRs ρ vs vs' → wr l o vs = some r → ∃ r', wr l' o vs' = some r' ∧ VRs ρ r r'
  | _, _, 0, _, _, r, .nil, .nil, e => by simp [wr] at e; subst e; exact ⟨[], rfl, .nil⟩
  | _, _, 0, _, _, r, .cons v v' l l' h hs, .nil, e => by simp [wr] at e; subst e; exact ⟨_, rfl, .cons _ _ _ _ h hs⟩
  | _, _, 0, _, _, r, .nil, .cons .., e => by simp [wr] at e
  | _, _, o + 1, _, _, r, .nil, _, e => by simp [wr] at e
  | _, _, 0, _, _, r, .cons v v' l l' h hs, .cons u u' us us' hu hus, e => by
    simp only [wr] at e ⊢
    cases e1 : wr l 0 us with
    | none => rw [e1] at e; cases e
    | some r1 =>
      obtain ⟨r2, e2, h2⟩ := wr_sim 0 hs hus e1
      rw [e1] at e; rw [e2]
      simp only [tkC, Option.some.injEq] at e ⊢; subst e
      exact ⟨_, rfl, .cons _ _ _ _ hu h2⟩
  | _, _, o + 1, vs, vs', r, .cons v v' l l' h hs, hv, e => by
    simp only [wr] at e ⊢
    cases e1 : wr l o vs with
    | none => rw [e1] at e; cases e
    | some r1 =>
      obtain ⟨r2, e2, h2⟩ := wr_sim o hs hv e1
      rw [e1] at e; rw [e2]
      simp only [tkC, Option.some.injEq] at e ⊢; subst e
      exact ⟨_, rfl, .cons _ _ _ _ h h2⟩
theorem write_sim (h : Sim B H0 ρ C n H N) {b o : Nat} {e : Ent} (he : ρ b = some e) {vs vs' : List Value} (hv : VRs ρ vs vs') (hw : cwrite C b o vs = some C') : ∃ H', wrB H e.a o vs' (B e.a) = some H' ∧ Sim B H0 ρ C' n H' N := by
  unfold cwrite at hw
  cases hc : clk C b with
  | none => rw [hc] at hw; cases hw
  | some k =>
    obtain ⟨x, k', h1, h2, h3, h4, _⟩ := h.heap b k hc
    rw [he] at h1
    simp only [Option.some.injEq] at h1; subst h1
    rw [hc] at hw
    have fin : ∀ (cs' r' : List Value) (m' : Nat) (k1 : CK), k' = .cells cs' m' → wr cs' o vs' = some r' → KR ρ e k1 (.cells r' m') → some (cup C b k1) = some C' → ∃ H', wrB H e.a o vs' (B e.a) = some H' ∧ Sim B H0 ρ C' n H' N := fun cs' r' m' k1 hk hr hk1 hC => by
      subst hk
      simp only [Option.some.injEq] at hC; subst hC
      refine ⟨upH H e.a (.cells r' m'), by rw [h4]; simp only [wrB]; rw [wrH_eq, h2, wrX_cells, hr, wrU_some], h.put hc he hk1 (fun y => ?_) (good_up h.gd h4 h2)⟩
      rw [lk_upH]
      by_cases hy : y = e.a
      · subst hy; simp
      · have : (y == e.a) = false := by simpa using hy
        rw [this, if_neg hy]; rfl
    cases h3 with
    | cells cs cs' m hs =>
      simp only [cwr] at hw
      cases hr : wr cs o vs with
      | none => rw [hr] at hw; cases hw
      | some r =>
        obtain ⟨r', e1, e2⟩ := wr_sim o hs hv hr
        rw [hr] at hw
        exact fin cs' r' m _ rfl e1 (.cells _ _ _ e2) hw
    | grown cs cs' sz hs =>
      simp only [cwr] at hw
      cases hr : wr cs o vs with
      | none => rw [hr] at hw; cases hw
      | some r =>
        obtain ⟨r', e1, e2⟩ := wr_sim o hs hv hr
        rw [hr] at hw
        exact fin cs' r' _ _ rfl e1 (.grown _ _ _ e2) hw
    | map => cases hw
    | loop => cases hw
    | dfr => cases hw
theorem ccells_sim (hx : VR ρ x x') {l : List Value} (h : ccells x = some l) : VRs ρ l x'.cells.toList := by
  cases hx <;> first | (simp [ccells] at h; done) | skip
  case agg xs xs' hs => simp only [ccells, Option.some.injEq] at h; subst h; exact hs
  all_goals
    simp only [ccells, Option.some.injEq] at h
    subst h
    refine VRs.one ?_
    first
      | exact .bool _ | exact .int _ _ | exact .float _ _ | exact .string _ | exact .ptr0 | exact .ptr _ _ _ ‹_› | exact .slc0 _ _ | exact .slc _ _ _ _ _ _ ‹_› ‹_›
      | exact .mp _ _ ‹_› | exact .fn0 | exact .fn _ _ _ _ _ ‹_› ‹_› | exact .yld _ _ _ _ _ _ ‹_› ‹_› ‹_› | exact .if0 | exact .ifc _ _ _ ‹_› | exact .tup _ _ ‹_›
theorem call1_sim : ∀ {l l' : List Value}, VRs ρ l l' → call1 l = true → all1 l' = true
  | _, _, .nil, _ => rfl
  | _, _, .cons v v' l l' h hs, e => by
    cases h <;> first | (simp [call1] at e; done) | (simp only [call1] at e; simp only [all1]; exact call1_sim hs e)
def Rs (B : OH) (H0 : HL) (ρ : Rho) (a : CRes) (b : Res) : Prop := ∀ v C n, a = some (v, C, n) → ∃ ρ' v' H N, Le ρ ρ' ∧ b = some (v', H, N) ∧ VR ρ' v v' ∧ Sim B H0 ρ' C n H N
theorem Rs.none {b : Res} : Rs B H0 ρ none b := fun _ _ _ h => by cases h
theorem Rs.pv (h : Sim B H0 ρ C n H N) {a b : Option Value} (hs : Sm ρ a b) : Rs B H0 ρ (cpv C n a) (Go.Proofs.YtbpaekbjpapgeaaGreatDoor.K.pv b H N) := fun v C1 n1 e => by
  cases a with
  | none => cases e
  | some u =>
    obtain ⟨v', rfl, hv⟩ := hs u rfl
    simp only [cpv, Option.some.injEq, Prod.mk.injEq] at e
    obtain ⟨rfl, rfl, rfl⟩ := e
    exact ⟨ρ, v', H, N, .refl, rfl, hv, h⟩
theorem VR.undef : VR ρ undef undef := .tup [] [] .nil
theorem store_sim (h : Sim B H0 ρ C n H N) {m : Nat} (hx : VR ρ x x') (hy : VR ρ y y') : Rs B H0 ρ (cstore m C n x (ccells y)) (storeV m B H N x' y') := by
  intro v C1 n1 e
  cases hl : ccells y with
  | none => rw [hl] at e; cases hx <;> simp [cstore] at e
  | some l =>
    rw [hl] at e
    have hs := ccells_sim hy hl
    cases hx <;> first | (simp [cstore] at e; done) | skip
    rename_i b o ee he
    simp only [cstore] at e
    cases hc : (Nat.beq l.length m && call1 l) with
    | false => rw [hc] at e; cases e
    | true =>
      rw [hc] at e
      simp only [Bool.and_eq_true, Nat.beq_eq] at hc
      simp only [cond_true] at e
      cases hw : cwrite C b o l with
      | none => rw [hw] at e; cases e
      | some C' =>
        rw [hw] at e
        simp only [cunit, Option.some.injEq, Prod.mk.injEq] at e
        obtain ⟨rfl, rfl, rfl⟩ := e
        obtain ⟨H', e1, e2⟩ := write_sim h he hs hw
        have hsz : y'.cells.size = m := by have := hs.len; simp only [Array.length_toList] at this; omega
        refine ⟨ρ, Go.undef, H', N, .refl, ?_, .undef, e2⟩
        simp only [storeV, hsz, call1_sim hs hc.2, and_self, if_true, e1, unitR]
theorem fill_sim (ht : VRs ρ t t') : ∀ {ps : List (Nat × Nat × Operand)} {z z' : List Value} {r : List Value}, VRs ρ z z' → cfill t ps (some z) = some r → ∃ r', fillV t' ps (some z') = some r' ∧ VRs ρ r r'
  | [], z, z', r, hz, e => by simp only [cfill, Option.some.injEq] at e; subst e; exact ⟨z', rfl, hz⟩
  | (o, m, x) :: ps, z, z', r, hz, e => by
    simp only [cfill] at e
    simp only [fillV]
    cases hl : ccells (cev t x) with
    | none => rw [hl] at e; simp only [cfillC] at e; cases ps <;> simp [cfill] at e
    | some l =>
      have hs := ccells_sim (cev_sim ht x) hl
      rw [hl] at e
      simp only [cfillC] at e
      cases hc : Nat.beq l.length m with
      | false => rw [hc] at e; cases ps <;> simp [cfill] at e
      | true =>
        rw [hc] at e
        have hm : l.length = m := by simpa using hc
        have hsz : (ev t' x).cells.size = m := by have := hs.len; simp only [Array.length_toList] at this; omega
        rw [if_pos hsz]
        simp only [cond_true] at e
        cases hw : wr z o l with
        | none => rw [hw] at e; cases ps <;> simp [cfill] at e
        | some z1 =>
          obtain ⟨z2, e1, e2⟩ := wr_sim o hz hs hw
          rw [hw] at e; rw [e1]
          exact fill_sim ht e2 e
theorem kr_new {e : Ent} {cs cs' : List Value} (hn : ρ n = none) (h : VRs ρ cs cs') : KR (setR ρ n e) e (.cells cs cs.length) (.cells cs' cs'.length) := by
  rw [h.len]; exact .cells _ _ _ (h.mono (le_setR hn))
theorem newB_sim (h : Sim B H0 ρ C n H N) {cs : Option (List Value)} {cs' : List Value} (hs : ∀ l, cs = some l → VRs ρ l cs') : Rs B H0 ρ (cnewB C n cs) (newB H N cs' ptrTo) := by
  intro v C1 n1 e
  cases cs with
  | none => cases e
  | some l =>
    simp only [cnewB, Option.some.injEq, Prod.mk.injEq] at e
    obtain ⟨rfl, rfl, rfl⟩ := e
    have hn := h.new n (Nat.le_refl _)
    exact ⟨setR ρ n ⟨N 0, 0, default⟩, _, _, _, le_setR hn, rfl, .ptr n 0 ⟨N 0, 0, default⟩ setR_at, h.newN 0 rfl (kr_new hn (hs l rfl)) (good_new h.gd)⟩
theorem newS_sim (h : Sim B H0 ρ C n H N) {len : Nat} {cs cs' : Option (List Value)} (hs : ∀ l, cs = some l → ∃ l', cs' = some l' ∧ VRs ρ l l') : Rs B H0 ρ (cnewS C n len cs) (buildSV H N len cs') := by
  intro v C1 n1 e
  cases cs with
  | none => cases e
  | some l =>
    obtain ⟨l', rfl, hl⟩ := hs l rfl
    simp only [cnewS] at e
    cases hb : Nat.blt len big with
    | false => rw [hb] at e; cases e
    | true =>
      rw [hb] at e
      simp only [cond_true, Option.some.injEq, Prod.mk.injEq] at e
      obtain ⟨rfl, rfl, rfl⟩ := e
      have hn := h.new n (Nat.le_refl _)
      exact ⟨setR ρ n ⟨N 0, 0, default⟩, _, _, _, le_setR hn, rfl, .slc n 0 _ _ _ ⟨N 0, 0, default⟩ setR_at (.inl ⟨by simpa [Nat.blt_eq] using hb, rfl⟩), h.newN 0 rfl (kr_new hn hl) (good_new h.gd)⟩
theorem rep_sim {z : List Value} (hz : VRs ρ z z) : ∀ k : Nat, VRs ρ (List.replicate k z).flatten (List.replicate k z).flatten
  | 0 => .nil
  | k + 1 => by simp only [List.replicate_succ, List.flatten_cons]; exact hz.app (rep_sim hz k)
theorem mks_sim (h : Sim B H0 ρ C n H N) {u : List Value} {bytes : Nat} (hx : VR ρ x x') (hy : VR ρ y y') : Rs B H0 ρ (cmks u bytes C n x y) (mksV u bytes H N x' y') := by
  intro v C1 n1 e
  cases hx <;> cases hy <;> first | (simp [cmks] at e; done) | skip
  rename_i k l k2 c
  simp only [cmks] at e
  cases hc : (decide (0 ≤ l) && decide (l ≤ c) && decide (c ≤ 140737488355328) && decide ((bytes : Int) * c ≤ 140737488355328) && flats u) with
  | false => rw [hc] at e; cases e
  | true =>
    rw [hc] at e
    simp only [Bool.and_eq_true, decide_eq_true_eq] at hc
    obtain ⟨⟨⟨⟨h1, h2⟩, h3⟩, h4⟩, h5⟩ := hc
    simp only [cond_true, Option.some.injEq, Prod.mk.injEq] at e
    obtain ⟨rfl, rfl, rfl⟩ := e
    have hn := h.new n (Nat.le_refl _)
    have hle := le_setR (e := (⟨N 0, 0, default⟩ : Ent)) hn
    refine ⟨setR ρ n ⟨N 0, 0, default⟩, _, _, _, hle, by simp only [mksV]; rw [if_pos ⟨h1, h2, h3, h4⟩], .slc n 0 _ _ _ ⟨N 0, 0, default⟩ setR_at (.inl ⟨by have hbig : big = 1125899906842624 := rfl; omega, rfl⟩), h.newN 0 rfl (.cells _ _ _ ((rep_sim (flats_VRs h5) _).mono hle)) (good_new h.gd)⟩
theorem news_sim (h : Sim B H0 ρ C n H N) {sz : Nat} (hx : VR ρ x x') {r : List Value} (e : cnews sz C x = some r) : ∃ r', newsV sz H B x' = some r' ∧ VRs ρ r r' := by
  cases hx <;> first | (simp [cnews] at e; done) | skip
  · rename_i m c
    cases m with
    | zero => simp only [cnews, Option.some.injEq] at e; subst e; exact ⟨[], rfl, .nil⟩
    | succ m => simp [cnews] at e
  · rename_i b o m c c' ee he hc
    cases m with
    | zero => simp only [cnews, Option.some.injEq] at e; subst e; exact ⟨[], rfl, .nil⟩
    | succ m =>
      simp only [cnews] at e
      simp only [newsV]
      exact crd_sim h he e
theorem lenS_sim (hx : VR ρ x x') {sz : Nat} {r : List Value} (e : cnews sz C x = some r) : lenS x' = lenS x := by
  cases hx <;> first | rfl | (simp [cnews] at e; done)
theorem grow_sim (h : Sim B H0 ρ C n H N) {need sz a : Nat} {cs cs' : List Value} (hs : VRs ρ cs cs') (hB : B a = none) (hl0 : lk H0 a = none) (hne : ∀ b x k, clk C b = some k → ρ b = some x → x.a ≠ a) (hg : good B ((a, .cells cs' ((need + N.c 0) * sz)) :: H) (sh N)) : Rs B H0 ρ (cgrow C n need sz cs) (appNew a sz need H N cs') := by
  intro v C1 n1 e
  simp only [cgrow, Option.some.injEq, Prod.mk.injEq] at e
  obtain ⟨rfl, rfl, rfl⟩ := e
  have hn := h.new n (Nat.le_refl _)
  have hle := le_setR (e := (⟨a, need + N.c 0, default⟩ : Ent)) hn
  exact ⟨setR ρ n ⟨a, need + N.c 0, default⟩, _, _, _, hle, rfl, .slc n 0 _ _ _ ⟨a, need + N.c 0, default⟩ setR_at (.inr ⟨by omega, rfl, Nat.le_add_right _ _⟩), h.fresh rfl (.grown _ _ _ (hs.mono hle)) hB hl0 hne hg⟩
theorem growN_sim (h : Sim B H0 ρ C n H N) {need sz : Nat} {cs cs' : List Value} (hs : VRs ρ cs cs') : Rs B H0 ρ (cgrow C n need sz cs) (appNew (N 0) sz need H N cs') := by
  have hl := lk_N h.gd 0
  refine grow_sim h hs (good_B h.gd 0) ?_ (fun b x k0 e0 hx => ?_) (good_new h.gd)
  · cases h0 : lk H0 (N 0) with
    | none => rfl
    | some c => rw [h.fr _ _ h0] at hl; cases hl
  · obtain ⟨x', k1, a1, a2, _⟩ := h.heap b k0 e0
    rw [hx] at a1
    simp only [Option.some.injEq] at a1; subst a1
    intro e'
    rw [e', hl] at a2; cases a2
theorem own_sim (h : Sim B H0 ρ C n H N) {b sz sCap cap' m : Nat} {e : Ent} (he : ρ b = some e) {cs : List Value} (hc : cown sz sCap (clk C b) = some cs) (hcap : capR e.k m sCap cap') : ∃ cs', lk H e.a = some (.cells cs' (cap' * sz)) ∧ VRs ρ cs cs' ∧ B e.a = none ∧ lk H0 e.a = none ∧ ∃ k, clk C b = some k := by
  cases hk : clk C b with
  | none => rw [hk] at hc; cases hc
  | some k =>
    obtain ⟨x, k', h1, h2, h3, h4, h5⟩ := h.heap b k hk
    rw [he] at h1
    simp only [Option.some.injEq] at h1; subst h1
    rw [hk] at hc
    cases h3 with
    | cells cs1 cs' n1 hs =>
      simp only [cown] at hc
      cases hb : (Nat.blt sCap big && Nat.beq n1 (sCap * sz)) with
      | false => rw [hb] at hc; cases hc
      | true =>
        rw [hb] at hc
        simp only [Bool.and_eq_true, Nat.blt_eq, Nat.beq_eq] at hb
        simp only [cond_true, Option.some.injEq] at hc; subst hc
        rcases hcap with ⟨_, rfl⟩ | ⟨hbig, _⟩
        · exact ⟨cs', by rw [h2, hb.2], hs, h4, h5, _, rfl⟩
        · omega
    | grown cs1 cs' s1 hs =>
      simp only [cown] at hc
      cases hb : (Nat.beq sCap (2 * big) && Nat.beq s1 sz) with
      | false => rw [hb] at hc; cases hc
      | true =>
        rw [hb] at hc
        simp only [Bool.and_eq_true, Nat.beq_eq] at hb
        simp only [cond_true, Option.some.injEq] at hc; subst hc
        obtain ⟨hb1, hb2⟩ := hb
        rcases hcap with ⟨hbig, _⟩ | ⟨_, hq, _⟩
        · omega
        · have : cap' = e.k := by omega
          exact ⟨cs', by rw [h2, hb2, this], hs, h4, h5, _, rfl⟩
    | map => cases hc
    | loop => cases hc
    | dfr => cases hc
theorem gcons {b : Nat} {k k' : KB} (hN : good B H N) (hB : B b = none) (hl : lk H b = some k') : good B ((b, k) :: H) (sh N) := good_sh (good_set hN hB hl)
theorem mkmap_sim (h : Sim B H0 ρ C n H N) {kd : IntKind} : Rs B H0 ρ (some (.map (some n), (n, .map kd []) :: C, n + 1)) (mkM kd H N) := by
  intro v C1 n1 e
  simp only [Option.some.injEq, Prod.mk.injEq] at e
  obtain ⟨rfl, rfl, rfl⟩ := e
  have hn := h.new n (Nat.le_refl _)
  exact ⟨setR ρ n ⟨N 0, 0, default⟩, _, _, _, le_setR hn, rfl, .mp n ⟨N 0, 0, default⟩ setR_at, h.newN 0 rfl (.map kd [] _ (fun _ => rfl) (fun _ _ h => by cases h)) (good_new h.gd)⟩
theorem map_at (h : Sim B H0 ρ C n H N) {b : Nat} {e : Ent} {kd : IntKind} {l : List (Int × Value)} (he : ρ b = some e) (hc : cmapF kd (clk C b) = some l) : ∃ f, lk H e.a = some (.map kd f) ∧ B e.a = none ∧ (∀ i, f i = clkI l i) ∧ (∀ i v, clkI l i = some v → flat 4 v = true) ∧ ∃ k, clk C b = some k := by
  cases hk : clk C b with
  | none => rw [hk] at hc; cases hc
  | some k =>
    obtain ⟨x, k', h1, h2, h3, h4, _⟩ := h.heap b k hk
    rw [he] at h1
    simp only [Option.some.injEq] at h1; subst h1
    rw [hk] at hc
    cases h3 with
    | map kd' l' f hf hv =>
      simp only [cmapF] at hc
      cases hq : kd' == kd with
      | false => rw [hq] at hc; cases hc
      | true =>
        rw [hq] at hc
        have : kd' = kd := by simpa using hq
        subst this
        simp only [cond_true, Option.some.injEq] at hc; subst hc
        exact ⟨f, h2, h4, hf, hv, _, rfl⟩
    | cells => cases hc
    | grown => cases hc
    | loop => cases hc
    | dfr => cases hc
theorem mlook_sim (h : Sim B H0 ρ C n H N) {kd : IntKind} {u : Value} {ok : Bool} (hx : VR ρ x x') (hy : VR ρ y y') : Rs B H0 ρ (cmlook kd u ok C n x y) (pv (lookV kd u ok H B x' y') H N) := by
  intro v C1 n1 e
  cases hx <;> first | (simp [cmlook] at e; done) | skip
  rename_i b ee he
  cases hy <;> first | (simp [cmlook] at e; done) | skip
  rename_i k i
  simp only [cmlook] at e
  cases hc : (k == kd && flat 4 u) with
  | false => rw [hc] at e; cases e
  | true =>
    rw [hc] at e
    simp only [Bool.and_eq_true, beq_iff_eq] at hc
    obtain ⟨rfl, hz⟩ := hc
    simp only [cond_true] at e
    cases hm : cmapF k (clk C b) with
    | none => rw [hm] at e; cases e
    | some l =>
      obtain ⟨f, m1, m2, m3, m4, _⟩ := map_at h he hm
      rw [hm] at e
      simp only [cmlookF, Option.some.injEq, Prod.mk.injEq] at e
      obtain ⟨rfl, rfl, rfl⟩ := e
      have hreal : lookV k u ok H B (.map (some ee.a)) (.int k i) = some (lookR ok u (clkI l i)) := by
        simp only [lookV, if_true, m2, m1, mapF, lookF, m3]
      rw [hreal]
      refine ⟨ρ, _, H, N, .refl, rfl, ?_, h⟩
      have hu := flat_VR (ρ := ρ) 4 hz
      cases hq : clkI l i with
      | none => cases ok with
        | true => exact .tup _ _ (.cons _ _ _ _ hu (.one (.bool _)))
        | false => exact hu
      | some w =>
        have hw := flat_VR (ρ := ρ) 4 (m4 i w hq)
        cases ok with
        | true => exact .tup _ _ (.cons _ _ _ _ hw (.one (.bool _)))
        | false => exact hw
theorem mupd_sim (h : Sim B H0 ρ C n H N) {kd : IntKind} (hx : VR ρ x x') (hy : VR ρ y y') (hz : VR ρ z z') : Rs B H0 ρ (cmupd kd C n x y z) (mupdV kd B H N x' y' z') := by
  intro v C1 n1 e
  cases hx <;> first | (simp [cmupd] at e; done) | skip
  rename_i b ee he
  cases hy <;> first | (simp [cmupd] at e; done) | skip
  rename_i k i
  simp only [cmupd] at e
  cases hc : (k == kd && flat 4 z) with
  | false => rw [hc] at e; cases e
  | true =>
    rw [hc] at e
    simp only [Bool.and_eq_true, beq_iff_eq] at hc
    obtain ⟨rfl, hfz⟩ := hc
    have := flat_eq 4 hfz hz
    subst this
    simp only [cond_true] at e
    cases hm : cmapF k (clk C b) with
    | none => rw [hm] at e; cases e
    | some l =>
      obtain ⟨f, m1, m2, m3, m4, kk, m5⟩ := map_at h he hm
      rw [hm] at e
      simp only [cmupdF, Option.some.injEq, Prod.mk.injEq] at e
      obtain ⟨rfl, rfl, rfl⟩ := e
      refine ⟨ρ, Go.undef, (ee.a, .map k (updF f i (some z'))) :: H, N, .refl, by simp only [mupdV, if_true, m2, m1, mapF, setM], .undef, ?_⟩
      refine h.put m5 he (.map k _ (updF f i (some z')) (fun j => ?_) (fun j w hj => ?_)) (fun y => ?_) (good_set h.gd m2 m1)
      · simp only [updF, clkI]
        by_cases hj : j = i
        · subst hj; simp
        · have : (i == j) = false := by simpa using fun h => hj h.symm
          rw [if_neg hj, this]; exact m3 j
      · simp only [clkI] at hj
        cases hq : i == j with
        | true => rw [hq] at hj; simp only [cond_true, Option.some.injEq] at hj; subst hj; exact hfz
        | false => rw [hq] at hj; exact m4 j w hj
      · simp only [lk]
        by_cases hy : y = ee.a
        · subst hy; simp
        · have : (y == ee.a) = false := by simpa using hy
          rw [this, if_neg hy]; rfl
end
end Go.Proofs.YtbpaekbjpapgeaaGreatDoor.K
namespace Go.Proofs.YtbpaekbjpapgeaaGreatDoor.K
section
variable {ρ ρ' : Rho} {t t' : List Value} {x x' y y' z z' v : Value} {B : OH} {H0 H H' : HL} {C C' : CH} {n n' : Nat} {N N' : St}
theorem orC_ok {sz by' m : Nat} {s : Value} {news : List Value} {r : Value × HL × St} : orC sz by' B H N s m news (some r) = some r := rfl
theorem appV_sim (h : Sim B H0 ρ C n H N) {sz bytes m : Nat} {news news' : List Value} (hx : VR ρ x x') (hn : VRs ρ news news') : Rs B H0 ρ (cappV sz bytes C n x m news) (orC sz bytes B H N x' m news' (appV sz bytes B H N x' m news')) := by
  intro v C1 n1 e
  cases hx <;> first | (simp [cappV] at e; done) | skip
  · -- onto nil
    rename_i l c
    unfold cappV at e
    split at e
    · rename_i heq
      cases heq
      simp only [appV]
      cases hm : Nat.beq m 0 with
      | true =>
        rw [hm] at e
        have : m = 0 := by simpa using hm
        subst this
        simp only [cond_true, Option.some.injEq, Prod.mk.injEq] at e
        obtain ⟨rfl, rfl, rfl⟩ := e
        exact ⟨ρ, _, H, N, .refl, by simp only [if_true]; rfl, .slc0 0 0, h⟩
      | false =>
        rw [hm] at e
        have hm0 : m ≠ 0 := by intro e'; subst e'; simp at hm
        simp only [cond_false] at e
        cases hc : (Nat.ble (m * bytes) 140737488355328 && Nat.ble m 4611686018427387904) with
        | false => rw [hc] at e; cases e
        | true =>
          rw [hc] at e
          simp only [Bool.and_eq_true, Nat.ble_eq] at hc
          simp only [cond_true] at e
          obtain ⟨ρ', v', H', N', h1, h2, h3, h4⟩ := growN_sim h (sz := sz) (need := m) hn v C1 n1 e
          rw [if_neg hm0, if_pos hc]
          exact ⟨ρ', v', H', N', h1, by rw [h2, orC_ok], h3, h4⟩
    · rename_i heq; cases heq
    · cases e
  · rename_i b o sLen sCap cap' ee he hcap
    unfold cappV at e
    split at e
    · rename_i heq; cases heq
    · rename_i b1 o1 sLen1 sCap1 heq
      cases heq
      cases hm : Nat.beq m 0 with
      | true =>
        rw [hm] at e
        have : m = 0 := by simpa using hm
        subst this
        simp only [cond_true] at e
        cases hc : (Nat.beq o 0 && Nat.ble sLen sCap) with
        | false => rw [hc] at e; cases e
        | true =>
          rw [hc] at e
          simp only [Bool.and_eq_true, Nat.beq_eq, Nat.ble_eq] at hc
          obtain ⟨rfl, hle⟩ := hc
          simp only [cond_true, Option.some.injEq, Prod.mk.injEq] at e
          obtain ⟨rfl, rfl, rfl⟩ := e
          have hle' : sLen ≤ cap' := by
            rcases hcap with ⟨_, rfl⟩ | ⟨_, _, h3⟩ <;> omega
          exact ⟨ρ, _, H, N, .refl, by simp only [appV, if_true, if_pos hle']; rfl, .slc b 0 sLen sCap cap' ee he hcap, h⟩
      | false =>
        rw [hm] at e
        have hm0 : m ≠ 0 := by intro e'; subst e'; simp at hm
        simp only [cond_false] at e
        cases hc : (Nat.ble ((sLen + m) * bytes) 140737488355328 && Nat.ble (sLen + m) 4611686018427387904 && call1 news) with
        | false => rw [hc] at e; cases e
        | true =>
          rw [hc] at e
          simp only [Bool.and_eq_true, Nat.ble_eq] at hc
          obtain ⟨⟨hb1, hb2⟩, hone⟩ := hc
          have hone' := call1_sim hn hone
          simp only [cond_true] at e
          cases hk : (Nat.blt sCap big && Nat.blt sCap (sLen + m) && Nat.ble sLen sCap) with
          | true =>
            rw [hk] at e
            simp only [Bool.and_eq_true, Nat.blt_eq, Nat.ble_eq] at hk
            obtain ⟨⟨hk1, hk2⟩, hk3⟩ := hk
            have hce : cap' = sCap := by
              rcases hcap with ⟨_, rfl⟩ | ⟨h1, _⟩
              · rfl
              · omega
            subst hce
            simp only [cond_true] at e
            cases hol : cnews sz C (.slice (some ⟨b, o, none⟩) sLen cap') with
            | none => rw [hol] at e; cases e
            | some olds =>
              rw [hol] at e
              simp only [cappN] at e
              obtain ⟨olds', ho1, ho2⟩ := news_sim h (.slc b o sLen cap' cap' ee he (.inl ⟨hk1, rfl⟩)) hol
              obtain ⟨ρ', v', H', N', h1, h2, h3, h4⟩ := growN_sim h (sz := sz) (need := sLen + m) (ho2.app hn) v C1 n1 e
              refine ⟨ρ', v', H', N', h1, ?_, h3, h4⟩
              have hC : appC sz bytes B H N (.slice (some ⟨ee.a, o, none⟩) sLen cap') m news' = appNew (N 0) sz (sLen + m) H N (olds' ++ news') := by
                simp only [appC]
                rw [if_pos ⟨hm0, hk3, hk2, hb1, hb2⟩, ho1]; rfl
              cases hav : appV sz bytes B H N (.slice (some ⟨ee.a, o, none⟩) sLen cap') m news' with
              | none => simp only [orC]; rw [hC, h2]
              | some r =>
                rw [orC_ok, ← hav]
                cases o with
                | succ o => simp [appV] at hav
                | zero =>
                  simp only [appV] at hav ⊢
                  rw [if_neg hm0, if_pos ⟨hb1, hb2⟩] at hav ⊢
                  cases hl : lk H ee.a with
                  | none => rw [hl] at hav; cases hav
                  | some kb =>
                    rw [hl] at hav
                    cases kb with
                    | ro => cases hav
                    | map => cases hav
                    | loop => cases hav
                    | dfr => cases hav
                    | cells cs k =>
                      simp only [appOld] at hav ⊢
                      split at hav
                      · rename_i hcond
                        rw [if_pos hcond]
                        have hble : Nat.ble (sLen + m) cap' = false := by
                          cases hq : Nat.ble (sLen + m) cap' with
                          | false => rfl
                          | true => rw [Nat.ble_eq] at hq; omega
                        have hBn : B ee.a = none := by cases hb : B ee.a <;> simp_all
                        have holds : tk cs 0 (sLen * sz) = some olds' := by
                          cases hsl : sLen with
                          | zero =>
                            subst hsl
                            simp only [newsV, Option.some.injEq] at ho1
                            subst ho1
                            simp only [Nat.zero_mul]
                            cases cs <;> rfl
                          | succ q =>
                            subst hsl
                            simp only [newsV, rdH, rdB, hBn, rdO, rdN, hl, rdL, KB.rd] at ho1
                            exact ho1
                        rw [holds, Option.bind_some, hble, Bool.and_false, cond_false, h2]
                      · cases hav
          | false =>
            rw [hk] at e
            simp only [cond_false] at e
            cases hz : (Nat.beq o 0 && Nat.ble sLen sCap) with
            | false => rw [hz] at e; cases e
            | true =>
              rw [hz] at e
              simp only [Bool.and_eq_true, Nat.beq_eq, Nat.ble_eq] at hz
              obtain ⟨rfl, hle⟩ := hz
              simp only [cond_true] at e
              cases hown : cown sz sCap (clk C b) with
              | none => rw [hown] at e; cases e
              | some cs =>
                rw [hown] at e
                simp only [cappO] at e
                obtain ⟨cs', o1, o2, o3, o4, kk, o5⟩ := own_sim h he hown hcap
                cases htk : tk cs 0 (sLen * sz) with
                | none => rw [htk] at e; cases e
                | some olds =>
                  rw [htk] at e
                  simp only at e
                  obtain ⟨olds', t1, t2⟩ := tk_sim 0 (sLen * sz) o2 htk
                  have hle' : sLen ≤ cap' := by
                    rcases hcap with ⟨_, rfl⟩ | ⟨_, _, h3⟩ <;> omega
                  have hd := h.drop (C' := cdel C b) fun y k hy => (clk_cdel hy).2
                  have hreal : appV sz bytes B H N (.slice (some ⟨ee.a, 0, none⟩) sLen cap') m news' = appNew (bif N.g 0 && Nat.ble (sLen + m) cap' then ee.a else N 0) sz (sLen + m) H N (olds' ++ news') := by
                    simp only [appV]
                    rw [if_neg hm0, if_pos ⟨hb1, hb2⟩, o1]
                    simp only [appOld]
                    rw [if_pos ⟨by rw [o3]; rfl, trivial, hle', hone'⟩, t1]; rfl
                  have key : Rs B H0 ρ (cgrow (cdel C b) n (sLen + m) sz (olds ++ news)) (appNew (bif N.g 0 && Nat.ble (sLen + m) cap' then ee.a else N 0) sz (sLen + m) H N (olds' ++ news')) := by
                    cases hg : (N.g 0 && Nat.ble (sLen + m) cap') with
                    | false => exact growN_sim hd (t2.app hn)
                    | true =>
                      refine grow_sim hd (t2.app hn) o3 o4 (fun y x1 k1 hy hx1 hxa => ?_) (gcons h.gd o3 o1)
                      obtain ⟨y1, y2⟩ := clk_cdel hy
                      exact y1 (h.inj y b x1 ee k1 kk y2 o5 hx1 he hxa)
                  obtain ⟨ρ', v', H', N', h1, h2, h3, h4⟩ := key v C1 n1 e
                  exact ⟨ρ', v', H', N', h1, by rw [hreal, h2, orC_ok], h3, h4⟩
    · rename_i h1 h2; exact (h2 _ _ _ _ rfl).elim
theorem appR_sim (h : Sim B H0 ρ C n H N) {sz bytes : Nat} (hx : VR ρ x x') (hy : VR ρ y y') : Rs B H0 ρ (cappR sz bytes C n x y (cnews sz C y)) (appR sz bytes B H N x' y' (newsV sz H B y')) := by
  intro v C1 n1 e
  cases hn : cnews sz C y with
  | none => rw [hn] at e; cases e
  | some news =>
    obtain ⟨news', h1, h2⟩ := news_sim h hy hn
    rw [hn] at e
    rw [h1]
    simp only [cappR] at e
    simp only [appR]
    rw [lenS_sim hy hn]
    exact appV_sim h hx h2 v C1 n1 e
theorem appZ_sim (h : Sim B H0 ρ C n H N) {u : List Value} {bytes : Nat} (hx : VR ρ x x') (hy : VR ρ y y') : Rs B H0 ρ (cappZ u bytes C n x y) (appZR u bytes B H N x' y') := by
  intro v C1 n1 e
  cases hx <;> first | (simp [cappZ] at e; done) | skip
  rename_i l c
  unfold cappZ at e
  split at e
  · rename_i kk i heq
    cases heq
    cases hy
    cases hc : (decide (0 ≤ i) && flats u) with
    | false => rw [hc] at e; cases e
    | true =>
      rw [hc] at e
      simp only [Bool.and_eq_true, decide_eq_true_eq] at hc
      simp only [cond_true] at e
      simp only [appZR]
      rw [if_pos hc.1]
      obtain ⟨ρ', v', H', N', h1, h2, h3, h4⟩ := appV_sim h (.slc0 0 0) (rep_sim (flats_VRs hc.2) i.toNat) v C1 n1 e
      refine ⟨ρ', v', H', N', h1, ?_, h3, h4⟩
      cases hav : appV u.length bytes B H N (.slice none 0 0) i.toNat (List.replicate i.toNat u).flatten with
      | none => rw [hav] at h2; simp [orC, appC] at h2
      | some r => rw [hav] at h2; exact h2
  · cases e
theorem cpy_sim (h : Sim B H0 ρ C n H N) {es : Nat} (hx : VR ρ x x') (hy : VR ρ y y') : Rs B H0 ρ (ccpy es C n x y) (cpyV es B H N x' y') := by
  intro v C1 n1 e
  have key : ∀ (a a2 : Option Addr) (dl cap dcap m c : Nat) (x' y' : Value), VR ρ (.slice a dl dcap) x' → VR ρ (.slice a2 m c) y' → ccpy es C n (.slice a dl dcap) (.slice a2 m c) = some (v, C1, n1) → ∃ ρ' v' H' N', Le ρ ρ' ∧ cpyV es B H N x' y' = some (v', H', N') ∧ VR ρ' v v' ∧ Sim B H0 ρ' C1 n1 H' N' := by
    intro a a2 dl cap dcap m c x' y' hx hy e
    simp only [ccpy] at e
    obtain ⟨a', dcap', rfl⟩ : ∃ a' c', x' = .slice a' dl c' := by cases hx <;> exact ⟨_, _, rfl⟩
    obtain ⟨a2', c', rfl⟩ : ∃ a' c', y' = .slice a' m c' := by cases hy <;> exact ⟨_, _, rfl⟩
    simp only [cpyV]
    cases hz : Nat.beq (min m dl) 0 with
    | true =>
      rw [hz] at e
      rw [if_pos (by simpa using hz)]
      simp only [cond_true, Option.some.injEq, Prod.mk.injEq] at e
      obtain ⟨rfl, rfl, rfl⟩ := e
      exact ⟨ρ, _, H, N, .refl, rfl, .int _ _, h⟩
    | false =>
      rw [hz] at e
      rw [if_neg (by intro e'; rw [e'] at hz; cases hz)]
      simp only [cond_false] at e
      cases hn : cnews es C (.slice a2 (min m dl) c) with
      | none => rw [hn] at e; cases a with
        | none => cases e
        | some a => obtain ⟨b, o, r⟩ := a; cases r <;> cases e
      | some cs =>
        have hy2 : VR ρ (.slice a2 (min m dl) c) (.slice a2' (min m dl) c') := by
          cases hy with
          | slc0 => exact .slc0 _ _
          | slc b o n c c' x he hc => 
            refine .slc b o _ c c' x he ?_
            rcases hc with hc | ⟨h1, h2, h3⟩
            · exact .inl hc
            · exact .inr ⟨h1, h2, by omega⟩
        obtain ⟨cs', e1, e2⟩ := news_sim h hy2 hn
        rw [hn] at e
        rw [e1]
        cases hx with
        | slc0 => cases e
        | slc b o n c c' x he hc =>
          simp only [ccpyW] at e
          simp only [cpyW]
          cases ho : call1 cs with
          | false => rw [ho] at e; cases e
          | true =>
            rw [ho] at e
            rw [if_pos (call1_sim e2 ho)]
            simp only [cond_true] at e
            cases hw : cwrite C b o cs with
            | none => rw [hw] at e; cases e
            | some C' =>
              rw [hw] at e
              simp only [cint, Option.some.injEq, Prod.mk.injEq] at e
              obtain ⟨rfl, rfl, rfl⟩ := e
              obtain ⟨H', w1, w2⟩ := write_sim h he e2 hw
              rw [w1]
              exact ⟨ρ, _, H', N, .refl, rfl, .int _ _, w2⟩
  cases hx <;> first | (simp [ccpy] at e; done) | skip
  all_goals
    cases hy <;> first | (simp [ccpy] at e; done) | skip
    all_goals first
      | exact key _ _ _ 0 _ _ _ _ _ (.slc0 _ _) (.slc0 _ _) e
      | exact key _ _ _ 0 _ _ _ _ _ (.slc0 _ _) (.slc _ _ _ _ _ _ ‹_› ‹_›) e
      | exact key _ _ _ 0 _ _ _ _ _ (.slc _ _ _ _ _ _ ‹_› ‹_›) (.slc0 _ _) e
      | (rename_i h1 h2 _ _ _ _ _ _ h3 h4; exact key _ _ _ 0 _ _ _ _ _ (.slc _ _ _ _ _ _ h1 h2) (.slc _ _ _ _ _ _ h3 h4) e)
theorem light_sim (h : Sim B H0 ρ C n H N) (ht : VRs ρ t t') (op : LO) : Sm ρ (clight t C op) (lightV B t' H op) := by
  cases op <;> simp only [clight, lightV] <;> first | exact Sm.none | skip
  case mv x => exact .some (cev_sim ht x)
  case pick c a b => exact pick_sim (cev_sim ht c) (cev_sim ht a) (cev_sim ht b)
  case build z ps =>
    cases hf : flats z with
    | false => exact Sm.none
    | true => exact mkO_sim fun l e => fill_sim ht (flats_VRs hf) e
  case load g n x => exact load_sim h (cev_sim ht x)
  case nilck x => exact nilck_sim (cev_sim ht x)
  case bin op x y => exact bin_sim (cev_sim ht x) (cev_sim ht y)
  case eqb neg x y => exact eqb_sim (cev_sim ht x) (cev_sim ht y)
  case eqA neg ls x y => exact eqA_sim (cev_sim ht x) (cev_sim ht y)
  case eqp neg x y => exact eqp_sim (cev_sim ht x) (cev_sim ht y)
  case eqs neg x y => exact eqs_sim (cev_sim ht x) (cev_sim ht y)
  case eqf neg x y => exact eqf_sim (cev_sim ht x) (cev_sim ht y)
  case feq neg x y => exact feq_sim (cev_sim ht x) (cev_sim ht y)
  case cap x => exact cap_sim (cev_sim ht x)
  case fbits b x => exact fb_sim (cev_sim ht x)
  case un op x => exact un_sim (cev_sim ht x)
  case conv k x => exact conv_sim (cev_sim ht x)
  case field g off n x => exact field_sim (cev_sim ht x)
  case idxA g es len x i => exact idxA_sim (cev_sim ht x) (cev_sim ht i)
  case faddr off x => exact faddr_sim (cev_sim ht x)
  case iaddrS es x i => exact iaddrS_sim (cev_sim ht x) (cev_sim ht i)
  case iaddrA es len x i => exact iaddrA_sim (cev_sim ht x) (cev_sim ht i)
  case ext x i => exact ext_sim (cev_sim ht x)
  case len s x => exact len_sim (cev_sim ht x)
  case mm mx xs => exact mm_sim (cevs_sim ht xs)
  case ifc ty x => exact .some (.ifc _ _ _ (cev_sim ht x))
  case fn f a b =>
    cases f <;> first | exact Sm.none | skip
    exact .some (.fn _ _ _ _ _ (cevs_sim ht a) (cevs_sim ht b))
  case slc es x lo hi mx => exact slc_sim (cev_sim ht x) (copt_sim ht lo) (copt_sim ht hi) (copt_sim ht mx)
  case slcA es n x lo hi mx => exact slcA_sim (cev_sim ht x) (copt_sim ht lo) (copt_sim ht hi) (copt_sim ht mx)
  case tass ty z x => exact tass_sim (cev_sim ht x)
  case isn neg x => exact isn_sim (cev_sim ht x)
end
end Go.Proofs.YtbpaekbjpapgeaaGreatDoor.K
namespace Go.Proofs.YtbpaekbjpapgeaaGreatDoor.K
section
variable {ρ ρ' : Rho} {t t' : List Value} {x x' y y' z z' v : Value} {B : OH} {H0 H H' : HL} {C C' : CH} {n n' : Nat} {N N' : St}
def CSim (B : OH) (H0 : HL) (ρ0 : Rho) (c : CCs) (g : Cs) : Prop :=
  ∀ ρ, Le ρ0 ρ → ∀ as as' C n H N v C1 n1, VRs ρ as as' → Sim B H0 ρ C n H N → c as C n = some (v, C1, n1) → ∃ ρ' v' H1 N1, Le ρ ρ' ∧ g as' H N = some (.ret v', H1, N1) ∧ VR ρ' v v' ∧ Sim B H0 ρ' C1 n1 H1 N1
theorem CSim.mono {c : CCs} {g : Cs} (h : CSim B H0 ρ c g) (hl : Le ρ ρ') : CSim B H0 ρ' c g := fun r hr => h r (hl.trans hr)
theorem CSim.none {g : Cs} : CSim B H0 ρ (fun _ _ _ => none) g := fun _ _ _ _ _ _ _ _ _ _ _ _ _ e => by cases e
def YSim (B : OH) (H0 : HL) (ρ : Rho) (Yc : Nat → CCs) (Y : Nat → Cs) : Prop := ∀ l, (∀ as C n, Yc l as C n = none) ∨ ∃ x, ρ l = some x ∧ CSim B H0 ρ (Yc l) (Y x.a)
theorem YSim.mono {Yc : Nat → CCs} {Y : Nat → Cs} (h : YSim B H0 ρ Yc Y) (hl : Le ρ ρ') : YSim B H0 ρ' Yc Y := fun l => by
  rcases h l with h | ⟨x, h1, h2⟩
  · exact .inl h
  · exact .inr ⟨x, hl _ _ h1, h2.mono hl⟩
structure ESim (B : OH) (H0 : HL) (ρ : Rho) (Gc : CEnv) (G : Env) : Prop where
  f : ∀ k, CSim B H0 ρ (Gc.f k) (G.f k)
  y : YSim B H0 ρ Gc.y G.y
  it : ∀ ρ1, Le ρ ρ1 → ∀ Yc Y, YSim B H0 ρ1 Yc Y → ∀ k, CSim B H0 ρ1 (Gc.it k Yc) (G.it k Y)
variable {Gc : CEnv} {G : Env}
theorem ESim.mono (h : ESim B H0 ρ Gc G) (hl : Le ρ ρ') : ESim B H0 ρ' Gc G := ⟨fun k => (h.f k).mono hl, h.y.mono hl, fun r hr => h.it r (hl.trans hr)⟩
def RsE (B : OH) (H0 : HL) (ρ : Rho) (a : CRes) (b : ResE) : Prop := ∀ v C n, a = some (v, C, n) → ∃ ρ' v' H N, Le ρ ρ' ∧ b = some (.ret v', H, N) ∧ VR ρ' v v' ∧ Sim B H0 ρ' C n H N
theorem RsE.none {b : ResE} : RsE B H0 ρ none b := fun _ _ _ h => by cases h
theorem Rs.rv {a : CRes} {b : Res} (h : Rs B H0 ρ a b) : RsE B H0 ρ a (Go.Proofs.YtbpaekbjpapgeaaGreatDoor.K.rv b) := fun v C n e => by
  obtain ⟨ρ', v', H, N, h1, rfl, h3, h4⟩ := h v C n e
  exact ⟨ρ', v', H, N, h1, rfl, h3, h4⟩
theorem CSim.run {c : CCs} {g : Cs} (h : CSim B H0 ρ c g) {as as' : List Value} (ha : VRs ρ as as') (hs : Sim B H0 ρ C n H N) : RsE B H0 ρ (c as C n) (g as' H N) := fun v C1 n1 e => h ρ .refl as as' C n H N v C1 n1 ha hs e
theorem callV_sim (hE : ESim B H0 ρ Gc G) (h : Sim B H0 ρ C n H N) {as as' : List Value} (hx : VR ρ x x') (ha : VRs ρ as as') : RsE B H0 ρ (ccallV Gc C n x as) (callV G H N x' as') := by
  cases hx <;> first | (intro _ _ _ e; simp [ccallV] at e; done) | skip
  case fn f xs ys xs' ys' h1 h2 => exact (hE.f f).run ((h1.app ha).app h2) h
  case yld l e xs ys xs' ys' he h1 h2 =>
    rcases hE.y l with h0 | ⟨e', h3, h4⟩
    · intro v C1 n1 ee
      simp only [ccallV] at ee
      rw [h0] at ee; cases ee
    · rw [he] at h3
      simp only [Option.some.injEq] at h3; subst h3
      exact h4.run (h1.app ha) h
theorem recvT_sim {k k' : Nat} {d r : Value} (hx : VR ρ x x') (e : recvT k d x = some (k', r)) : ∃ r', recvT k d x' = some (k', r') ∧ VR ρ r r' := by
  unfold recvT at e
  split at e
  · simp only [Option.some.injEq, Prod.mk.injEq] at e
    obtain ⟨rfl, rfl⟩ := e
    exact ⟨x', rfl, hx⟩
  · simp only [Option.some.injEq, Prod.mk.injEq] at e
    obtain ⟨rfl, rfl⟩ := e
    cases hx with
    | ptr b o e he => exact ⟨_, rfl, .ptr _ _ e he⟩
  · cases e
theorem invT_sim {ty : TypeId} {k : Nat} {r : Value} (hx : VR ρ x x') : ∀ (m : Nat) {tbl : List Value}, tbl.length ≤ m → invT ty tbl x = some (k, r) → ∃ r', invT ty tbl x' = some (k, r') ∧ VR ρ r r'
  | 0, tbl, hm, e => by
    cases tbl with
    | nil => simp [invT] at e
    | cons => simp at hm
  | m + 1, tbl, hm, e => by
    unfold invT at e ⊢
    split at e
    · rename_i _ _ t' k' d l
      cases hc : (t' == ty) with
      | true => rw [hc] at e; simp only [cond_true] at e ⊢; exact recvT_sim hx e
      | false => rw [hc] at e; simp only [cond_false] at e ⊢; exact invT_sim hx m (by simp at hm; omega) e
    · cases e
theorem invV_sim (hE : ESim B H0 ρ Gc G) (h : Sim B H0 ρ C n H N) {tbl : List Value} {as as' : List Value} (hx : VR ρ x x') (ha : VRs ρ as as') : RsE B H0 ρ (cinvV Gc C n tbl x as) (invV G H N tbl x' as') := by
  cases hx <;> first | (intro _ _ _ e; simp [cinvV] at e; done) | skip
  rename_i ty u u' hu
  intro v C1 n1 e
  simp only [cinvV] at e
  simp only [invV]
  cases hi : invT ty tbl u with
  | none => rw [hi] at e; cases e
  | some q =>
    obtain ⟨k, r⟩ := q
    obtain ⟨r', e1, e2⟩ := invT_sim hu _ (Nat.le_refl _) hi
    rw [hi] at e; rw [e1]
    exact (hE.f k).run (.cons _ _ _ _ e2 ha) h v C1 n1 e
theorem callO_sim (hE : ESim B H0 ρ Gc G) (h : Sim B H0 ρ C n H N) (ht : VRs ρ t t') (f : Operand) (args : List Operand) : RsE B H0 ρ (ccallO Gc t C n f args) (callO G t' H N f args) := by
  cases f with
  | tmp i => exact callV_sim hE h (cev_sim ht (.tmp i)) (cevs_sim ht args)
  | global i => exact callV_sim hE h (cev_sim ht (.global i)) (cevs_sim ht args)
  | func i => exact callV_sim hE h (cev_sim ht (.func i)) (cevs_sim ht args)
  | const v =>
    cases v with
    | tuple tbl =>
      obtain ⟨tbl⟩ := tbl
      cases args with
      | nil => exact RsE.none
      | cons r args => exact invV_sim hE h (cev_sim ht _) (cevs_sim ht _)
    | _ => exact RsE.none
theorem op_sim (hE : ESim B H0 ρ Gc G) (ht : VRs ρ t t') (h : Sim B H0 ρ C n H N) (op : LO) : RsE B H0 ρ (cop Gc ⟨t, C, n⟩ op) (stepE B G ⟨t', H, N⟩ op) := by
  cases op
  case call f args => exact callO_sim hE h ht f args
  case alloc z =>
    simp only [cop]
    cases hf : flats z with
    | false => exact RsE.none
    | true => exact (newB_sim h (cs := some z) (fun l e => by cases e; exact flats_VRs hf)).rv
  case box x => exact (newB_sim h fun l e => ccells_sim (cev_sim ht x) e).rv
  case buildS z len ps =>
    simp only [cop]
    cases hf : flats z with
    | false => exact RsE.none
    | true => exact (newS_sim h fun l e => fill_sim ht (flats_VRs hf) e).rv
  case store m a x => exact (store_sim h (cev_sim ht a) (cev_sim ht x)).rv
  case mks z bytes l c => exact (mks_sim h (cev_sim ht l) (cev_sim ht c)).rv
  case app z bytes a x => exact (appR_sim h (cev_sim ht a) (cev_sim ht x)).rv
  case appZ z bytes a x => exact (appZ_sim h (cev_sim ht a) (cev_sim ht x)).rv
  case cpy es d x => exact (cpy_sim h (cev_sim ht d) (cev_sim ht x)).rv
  case pan x => exact RsE.none
  case mkmap kd => exact (mkmap_sim h).rv
  case mlook kd z ok m i => exact (mlook_sim h (cev_sim ht m) (cev_sim ht i)).rv
  case mupd kd m i x => exact (mupd_sim h (cev_sim ht m) (cev_sim ht i) (cev_sim ht x)).rv
  case mdel => exact RsE.none
  case slcT => exact RsE.none
  case bad => exact RsE.none
  case mv x => exact (Rs.pv h (light_sim h ht (.mv x))).rv
  case pick c a b => exact (Rs.pv h (light_sim h ht (.pick c a b))).rv
  case build z ps => exact (Rs.pv h (light_sim h ht (.build z ps))).rv
  case load g m x => exact (Rs.pv h (light_sim h ht (.load g m x))).rv
  case nilck x => exact (Rs.pv h (light_sim h ht (.nilck x))).rv
  case bin o x y => exact (Rs.pv h (light_sim h ht (.bin o x y))).rv
  case eqb ng x y => exact (Rs.pv h (light_sim h ht (.eqb ng x y))).rv
  case eqA ng ls x y => exact (Rs.pv h (light_sim h ht (.eqA ng ls x y))).rv
  case eqp ng x y => exact (Rs.pv h (light_sim h ht (.eqp ng x y))).rv
  case eqs ng x y => exact (Rs.pv h (light_sim h ht (.eqs ng x y))).rv
  case eqf ng x y => exact (Rs.pv h (light_sim h ht (.eqf ng x y))).rv
  case feq ng x y => exact (Rs.pv h (light_sim h ht (.feq ng x y))).rv
  case cap x => exact (Rs.pv h (light_sim h ht (.cap x))).rv
  case fbits b x => exact (Rs.pv h (light_sim h ht (.fbits b x))).rv
  case un o x => exact (Rs.pv h (light_sim h ht (.un o x))).rv
  case conv k x => exact (Rs.pv h (light_sim h ht (.conv k x))).rv
  case field g o m x => exact (Rs.pv h (light_sim h ht (.field g o m x))).rv
  case idxA g e l x i => exact (Rs.pv h (light_sim h ht (.idxA g e l x i))).rv
  case faddr o x => exact (Rs.pv h (light_sim h ht (.faddr o x))).rv
  case iaddrS e x i => exact (Rs.pv h (light_sim h ht (.iaddrS e x i))).rv
  case iaddrA e l x i => exact (Rs.pv h (light_sim h ht (.iaddrA e l x i))).rv
  case ext x i => exact (Rs.pv h (light_sim h ht (.ext x i))).rv
  case len s x => exact (Rs.pv h (light_sim h ht (.len s x))).rv
  case mm m xs => exact (Rs.pv h (light_sim h ht (.mm m xs))).rv
  case ifc ty x => exact (Rs.pv h (light_sim h ht (.ifc ty x))).rv
  case fn f a b => exact (Rs.pv h (light_sim h ht (.fn f a b))).rv
  case slc e x lo hi mx => exact (Rs.pv h (light_sim h ht (.slc e x lo hi mx))).rv
  case slcA e l x lo hi mx => exact (Rs.pv h (light_sim h ht (.slcA e l x lo hi mx))).rv
  case tass ty z x => exact (Rs.pv h (light_sim h ht (.tass ty z x))).rv
  case isn ng x => exact (Rs.pv h (light_sim h ht (.isn ng x))).rv
def SS (B : OH) (H0 : HL) (ρ : Rho) (s : CS) (S : S) : Prop := VRs ρ s.t S.t ∧ Sim B H0 ρ s.H s.n S.H S.N
def xOf : CX → X
  | .normal => .normal
  | .ret => .ret
  | .exit i => .exit i
def OSim (B : OH) (H0 : HL) (ρ : Rho) (a : COut) (b : Out) : Prop := ∀ x s, a = some (x, s) → ∃ ρ' S, Le ρ ρ' ∧ b = some (xOf x, S) ∧ SS B H0 ρ' s S
theorem OSim.none {b : Out} : OSim B H0 ρ none b := fun _ _ h => by cases h
theorem OSim.some {s : CS} {S : S} (x : CX) (h : SS B H0 ρ s S) : OSim B H0 ρ (some (x, s)) (some (xOf x, S)) := fun x' s' e => by
  simp only [Option.some.injEq, Prod.mk.injEq] at e
  obtain ⟨rfl, rfl⟩ := e
  exact ⟨ρ, S, .refl, rfl, h⟩
theorem OSim.back {a : COut} {b : Out} (h : OSim B H0 ρ' a b) (hl : Le ρ ρ') : OSim B H0 ρ a b := fun x s e => by
  obtain ⟨r, S, h1, h2, h3⟩ := h x s e
  exact ⟨r, S, hl.trans h1, h2, h3⟩
theorem put_sim {a : CRes} {b : ResE} (ht : VRs ρ t t') (h : RsE B H0 ρ a b) (d : Option Tmp) : OSim B H0 ρ (cputE t d a) (putE t' d b) := by
  intro x s e
  cases a with
  | none => cases e
  | some q =>
    obtain ⟨v, C, n⟩ := q
    obtain ⟨ρ', v', H, N, h1, rfl, h3, h4⟩ := h v C n rfl
    simp only [cputE, Option.some.injEq, Prod.mk.injEq] at e
    obtain ⟨rfl, rfl⟩ := e
    refine ⟨ρ', ⟨putT t' d v', H, N⟩, h1, rfl, ?_, h4⟩
    cases d with
    | none => exact ht.mono h1
    | some d => exact st_sim d (ht.mono h1) h3
theorem want_sim (ht : VRs ρ t t') {g : Option (Tmp × Bool)} {b : Bool} (e : cwant t g = some b) : wantG t' g = b := by
  cases g with
  | none => simp only [cwant, Option.some.injEq] at e; subst e; rfl
  | some q =>
    obtain ⟨j, c⟩ := q
    simp only [cwant] at e
    simp only [wantG]
    have := gt_sim j ht
    revert this e
    generalize gt t j = u
    generalize gt t' j = u'
    intro e hu
    cases hu <;> first | (simp [cwantV] at e; done) | (simp only [cwantV, Option.some.injEq] at e; subst e; rfl)
theorem step_sim (hE : ESim B H0 ρ Gc G) {s : CS} {S : S} (h : SS B H0 ρ s S) (o : LOp) : OSim B H0 ρ (cstep Gc o s) (stepX B G o S) := by
  obtain ⟨d, op, g⟩ := o
  obtain ⟨t, C, n⟩ := s
  obtain ⟨t', H, N⟩ := S
  obtain ⟨ht, hs⟩ := h
  simp only [cstep, stepX]
  cases hw : cwant t g with
  | none => exact OSim.none
  | some b =>
    rw [want_sim ht hw]
    cases b with
    | true => exact put_sim ht (op_sim hE ht hs op) d
    | false => exact put_sim ht (fun v C' n' e => by
        simp only [Option.some.injEq, Prod.mk.injEq] at e
        obtain ⟨rfl, rfl, rfl⟩ := e
        exact ⟨ρ, _, H, N, .refl, rfl, .undef, hs⟩) d
theorem ops_sim : ∀ (l : List LOp) {ρ : Rho} {a : COut} {b : Out}, ESim B H0 ρ Gc G → OSim B H0 ρ a b → OSim B H0 ρ (cops Gc l a) (exOps B G l b)
  | [], _, _, _, _, h => h
  | o :: l, ρ, a, b, hE, h => by
    cases a with
    | none => exact OSim.none
    | some q =>
      obtain ⟨x, s⟩ := q
      cases x with
      | ret => exact OSim.none
      | exit => exact OSim.none
      | normal =>
        obtain ⟨ρ', S, h1, rfl, h3⟩ := h _ _ rfl
        exact (ops_sim l (hE.mono h1) (step_sim (hE.mono h1) h3 o)).back h1
theorem vbeq_eq : ∀ (d : Nat) {u w : Value}, vbeq d u w = true → ∀ {u' w' : Value}, VR ρ u u' → VR ρ w w' → u' = w'
  | 0, _, _, e, _, _, _, _ => by simp [vbeq] at e
  | d + 1, u, w, e, u', w', hu, hw => by
    have hl : ∀ (l m l' m' : List Value), vall (vbeq d) l m = true → VRs ρ l l' → VRs ρ m m' → l' = m' := by
      intro l
      induction l with
      | nil => intro m l' m' e h1 h2; cases m with
        | nil => cases h1; cases h2; rfl
        | cons => simp [vall] at e
      | cons x l ih => intro m l' m' e h1 h2; cases m with
        | nil => simp [vall] at e
        | cons y m =>
          simp only [vall, Bool.and_eq_true] at e
          cases h1 with
          | cons _ x' _ l' a1 a2 => cases h2 with
            | cons _ y' _ m' b1 b2 => rw [vbeq_eq d e.1 a1 b1, ih m l' m' e.2 a2 b2]
    cases hu <;> cases hw <;> first | (simp [vbeq] at e; done) | skip
    all_goals simp only [vbeq, Bool.and_eq_true, beq_iff_eq, Nat.beq_eq] at e
    · rw [e]
    · rw [e.1, e.2]
    · rfl
    · rename_i b o x hx b2 o2 x2 hx2
      obtain ⟨rfl, rfl⟩ := e
      rw [hx] at hx2
      simp only [Option.some.injEq] at hx2; subst hx2; rfl
    · rw [e.1, e.2]
    · rename_i b o n c c' x hx hc b2 o2 n2 c2 c2' x2 hx2 hc2
      obtain ⟨⟨⟨rfl, rfl⟩, rfl⟩, rfl⟩ := e
      rw [hx] at hx2
      simp only [Option.some.injEq] at hx2; subst hx2
      have : c' = c2' := by
        rcases hc with ⟨h1, rfl⟩ | ⟨h1, h2, _⟩ <;> rcases hc2 with ⟨h3, rfl⟩ | ⟨h3, h4, _⟩
        · rfl
        · omega
        · omega
        · omega
      rw [this]
    · rfl
    · rfl
    · rename_i xs xs' h1 ys ys' h2
      rw [hl xs ys xs' ys' e h1 h2]
theorem watch_sim : ∀ (l : List LOp) {ρ : Rho} {a : COut} {b : Out}, OSim B H0 ρ a b → OSim B H0 ρ (cwatch l a) (watchS B l b)
  | [], _, _, _, h => h
  | ⟨d, op, g⟩ :: l, ρ, a, b, h => by
    cases a with
    | none => cases d <;> exact OSim.none
    | some q =>
      obtain ⟨x, s⟩ := q
      cases d with
      | none => exact OSim.none
      | some d =>
        cases x with
        | ret => exact OSim.none
        | exit => exact OSim.none
        | normal =>
          obtain ⟨ρ', S, h1, rfl, h3⟩ := h _ _ rfl
          obtain ⟨ht, hs⟩ := h3
          simp only [cwatch, watchS, xOf]
          refine (watch_sim l (ρ := ρ') ?_).back h1
          cases hw : cwant s.t g with
          | none => exact OSim.none
          | some c =>
            rw [want_sim ht hw]
            cases c with
            | false => exact OSim.some .normal ⟨ht, hs⟩
            | true =>
              simp only [cwatch1, cond_true]
              cases hv : clight s.t s.H op with
              | none => exact OSim.none
              | some v =>
                obtain ⟨v', e1, e2⟩ := light_sim hs ht op v hv
                simp only
                cases hb : vbeq 4 v (gt s.t d) with
                | false => exact OSim.none
                | true =>
                  have := vbeq_eq 4 hb e2 (gt_sim d ht)
                  rw [e1, this]
                  simp only [cond_true, eqS, if_true]
                  exact OSim.some .normal ⟨ht, hs⟩
theorem draw_sim : ∀ (l : List DOp) {ρ : Rho} {a : COut} {b : Out}, ESim B H0 ρ Gc G → OSim B H0 ρ a b → OSim B H0 ρ (cdraw Gc l a) (exDraw B G l b)
  | [], _, _, _, _, h => h
  | o :: l, ρ, a, b, hE, h => by
    cases a with
    | none => exact OSim.none
    | some q =>
      obtain ⟨x, s⟩ := q
      cases x with
      | ret => exact OSim.none
      | exit => exact OSim.none
      | normal =>
        obtain ⟨ρ', S, h1, rfl, h3⟩ := h _ _ rfl
        exact (draw_sim l (hE.mono h1) (watch_sim o.watch (step_sim (hE.mono h1) h3 o.op))).back h1
theorem veq_sim {F : Nat → Option Nat} {ρ2 : Rho} (hF : ∀ b b' x, F b = some b' → ρ b' = some x → ρ2 b = some x) : ∀ (d : Nat) {u w v : Value}, veq F d u w = true → VR ρ w v → VR ρ2 u v
  | 0, _, _, _, e, _ => by simp [veq] at e
  | d + 1, u, w, v, e, hw => by
    have hl : ∀ (l m m' : List Value), vall (veq F d) l m = true → VRs ρ m m' → VRs ρ2 l m' := by
      intro l
      induction l with
      | nil => intro m m' e h; cases m with
        | nil => cases h; exact .nil
        | cons => simp [vall] at e
      | cons x l ih => intro m m' e h; cases m with
        | nil => simp [vall] at e
        | cons y m =>
          simp only [vall, Bool.and_eq_true] at e
          cases h with
          | cons _ y' _ m' h1 h2 => exact .cons _ _ _ _ (veq_sim hF d e.1 h1) (ih m m' e.2 h2)
    have hN : ∀ b b', isN b' (F b) = true → F b = some b' := fun b b' h => by
      unfold isN at h
      split at h
      · rename_i q hq; rw [hq]; simpa using h
      · cases h
    cases u with
    | bool a => cases hw <;> first | (simp [veq] at e; done) | (simp only [veq, beq_iff_eq] at e; subst e; exact .bool _)
    | int k a => cases hw <;> first | (simp [veq] at e; done) | (simp only [veq, Bool.and_eq_true, beq_iff_eq] at e; obtain ⟨rfl, rfl⟩ := e; exact .int _ _)
    | float k a => cases hw <;> first | (simp [veq] at e; done) | (simp only [veq, Bool.and_eq_true, beq_iff_eq, Nat.beq_eq] at e; obtain ⟨rfl, rfl⟩ := e; exact .float _ _)
    | complex => simp [veq] at e
    | string => simp [veq] at e
    | pointer a =>
      cases a with
      | none => cases hw <;> first | (simp [veq] at e; done) | exact .ptr0
      | some a =>
        obtain ⟨b, o, r⟩ := a
        cases r with
        | some => simp [veq] at e
        | none =>
          cases hw <;> first | (simp [veq] at e; done) | skip
          rename_i b' o' x hx
          simp only [veq, Bool.and_eq_true, Nat.beq_eq] at e
          obtain ⟨e1, rfl⟩ := e
          exact .ptr b o x (hF _ _ _ (hN _ _ e1) hx)
    | slice a n c =>
      cases a with
      | none => cases hw <;> first | (simp [veq] at e; done) | (simp only [veq, Bool.and_eq_true, Nat.beq_eq] at e; obtain ⟨rfl, rfl⟩ := e; exact .slc0 _ _)
      | some a =>
        obtain ⟨b, o, r⟩ := a
        cases r with
        | some => simp [veq] at e
        | none =>
          cases hw <;> first | (simp [veq] at e; done) | skip
          rename_i b' o' n' c' c2 x hx hc
          simp only [veq, Bool.and_eq_true, Nat.beq_eq] at e
          obtain ⟨⟨⟨e1, rfl⟩, rfl⟩, rfl⟩ := e
          exact .slc b o n c c2 x (hF _ _ _ (hN _ _ e1) hx) hc
    | map => simp [veq] at e
    | chan => simp [veq] at e
    | nilFunc => cases hw <;> first | (simp [veq] at e; done) | exact .fn0
    | nilIface => cases hw <;> first | (simp [veq] at e; done) | exact .if0
    | agg l =>
      obtain ⟨l⟩ := l
      cases hw <;> first | (simp [veq] at e; done) | skip
      rename_i m m' h
      exact .agg _ _ (hl l m m' (by simpa [veq] using e) h)
    | tuple l =>
      obtain ⟨l⟩ := l
      cases hw <;> first | (simp [veq] at e; done) | skip
      rename_i m m' h
      exact .tup _ _ (hl l m m' (by simpa [veq] using e) h)
    | iface t v0 =>
      cases hw <;> first | (simp [veq] at e; done) | skip
      rename_i t' v1 v1' h
      simp only [veq, Bool.and_eq_true, Nat.beq_eq] at e
      obtain ⟨rfl, e2⟩ := e
      exact .ifc _ _ _ (veq_sim hF d e2 h)
    | func f l a =>
      obtain ⟨l⟩ := l
      obtain ⟨a⟩ := a
      cases f with
      | func k =>
        cases hw <;> first | (simp [veq] at e; done) | skip
        rename_i k' xs ys xs' ys' h1 h2
        simp only [veq, Bool.and_eq_true, Nat.beq_eq] at e
        obtain ⟨⟨rfl, e1⟩, e2⟩ := e
        exact .fn _ _ _ _ _ (hl _ _ _ e1 h1) (hl _ _ _ e2 h2)
      | _ => simp [veq] at e
theorem vall_sim {F : Nat → Option Nat} {ρ2 : Rho} {d : Nat} (hF : ∀ b b' x, F b = some b' → ρ b' = some x → ρ2 b = some x) : ∀ {l m m' : List Value}, vall (veq F d) l m = true → VRs ρ m m' → VRs ρ2 l m'
  | [], [], _, _, .nil => .nil
  | [], _ :: _, _, e, _ => by simp [vall] at e
  | _ :: _, [], _, e, _ => by simp [vall] at e
  | x :: l, y :: m, _, e, .cons _ y' _ m' h1 h2 => by
    simp only [vall, Bool.and_eq_true] at e
    exact .cons _ _ _ _ (veq_sim hF d e.1 h1) (vall_sim hF e.2 h2)
theorem csubH_at {F : Nat → Option Nat} {C' : CH} : ∀ {C : CH} {b : Nat} {k : CK}, csubH F C' C = true → clk C b = some k → keq F k (clkO C' (F b)) = true
  | [], _, _, _, h => by simp [clk] at h
  | (x, k0) :: C, b, k, e, h => by
    simp only [csubH, Bool.and_eq_true] at e
    simp only [clk] at h
    cases hb : Nat.beq b x with
    | true =>
      have : b = x := by simpa using hb
      subst this
      rw [hb] at h
      simp only [cond_true, Option.some.injEq] at h; subst h
      exact e.1
    | false => rw [hb] at h; exact csubH_at e.2 h
theorem keq_sim {F : Nat → Option Nat} {ρ2 : Rho} (hF : ∀ b b' x, F b = some b' → ρ b' = some x → ρ2 b = some x) {e : Ent} {k k1 : CK} {k' : KB} (h : keq F k (some k1) = true) (hk : KR ρ e k1 k') : KR ρ2 e k k' := by
  unfold keq at h
  split at h
  · rename_i heq
    simp only [Option.some.injEq] at heq; subst heq
    simp only [Bool.and_eq_true, Nat.beq_eq] at h
    obtain ⟨h1, rfl⟩ := h
    cases hk with
    | cells cs cs' n hs => exact .cells _ _ _ (vall_sim hF h1 hs)
  · rename_i heq
    simp only [Option.some.injEq] at heq; subst heq
    simp only [Bool.and_eq_true, Nat.beq_eq] at h
    obtain ⟨h1, rfl⟩ := h
    cases hk with
    | grown cs cs' sz hs => exact .grown _ _ _ (vall_sim hF h1 hs)
  · rename_i heq
    simp only [Option.some.injEq] at heq; subst heq
    cases hk; exact .loop _
  · rename_i heq
    simp only [Option.some.injEq] at heq; subst heq
    cases hk; exact .loop _
  · rename_i heq
    simp only [Option.some.injEq] at heq; subst heq
    cases hk; exact .dfr
  · cases h
theorem csub_sim {n0 p q : Nat} {ρ0 : Rho} {s s' : CS} {S : S} (hn : ∀ b, n0 ≤ b → ρ0 b = none) (hl : Le ρ0 ρ) (hsn : n0 + p + q = s.n) (e : csub (swp n0 p q) s s' = true) (h : SS B H0 ρ s' S) : ∃ ρ2, Le ρ0 ρ2 ∧ SS B H0 ρ2 s S := by
  obtain ⟨ht, hs⟩ := h
  simp only [csub, Bool.and_eq_true] at e
  let ρ2 : Rho := fun b => (swp n0 p q b).bind ρ
  have hF : ∀ b b' x, swp n0 p q b = some b' → ρ b' = some x → ρ2 b = some x := fun b b' x h1 h2 => by
    show (swp n0 p q b).bind ρ = some x
    rw [h1]; exact h2
  have hback : ∀ b x, ρ2 b = some x → ∃ b', swp n0 p q b = some b' ∧ ρ b' = some x := fun b x h1 => Option.bind_eq_some_iff.1 h1
  have hsw : ∀ b b', swp n0 p q b = some b' → (b < n0 ∧ b' = b) ∨ (n0 ≤ b ∧ b < n0 + p ∧ b' = b + q) ∨ (n0 + p ≤ b ∧ b < n0 + p + q ∧ b' = b - p) := fun b b' h1 => by
    unfold swp at h1
    cases c1 : Nat.blt b n0 with
    | true => rw [c1] at h1; simp only [cond_true, Option.some.injEq] at h1; rw [Nat.blt_eq] at c1; exact .inl ⟨c1, h1.symm⟩
    | false =>
      have c1' : ¬ b < n0 := fun h => by rw [← Nat.blt_eq, c1] at h; cases h
      rw [c1] at h1
      simp only [cond_false] at h1
      cases c2 : Nat.blt b (n0 + p) with
      | true => rw [c2] at h1; simp only [cond_true, Option.some.injEq] at h1; rw [Nat.blt_eq] at c2; exact .inr (.inl ⟨by omega, c2, h1.symm⟩)
      | false =>
        have c2' : ¬ b < n0 + p := fun h => by rw [← Nat.blt_eq, c2] at h; cases h
        rw [c2] at h1
        simp only [cond_false] at h1
        cases c3 : Nat.blt b (n0 + p + q) with
        | true => rw [c3] at h1; simp only [cond_true, Option.some.injEq] at h1; rw [Nat.blt_eq] at c3; exact .inr (.inr ⟨by omega, c3, h1.symm⟩)
        | false => rw [c3] at h1; cases h1
  refine ⟨ρ2, fun b x hb => ?_, vall_sim hF e.1 ht, ?_, ?_, ?_, ?_, hs.gd, hs.fr⟩
  · have : b < n0 := by
      rcases Nat.lt_or_ge b n0 with h | h
      · exact h
      · rw [hn b h] at hb; cases hb
    refine hF b b x ?_ (hl _ _ hb)
    unfold swp
    rw [show Nat.blt b n0 = true from by rw [Nat.blt_eq]; exact this]; rfl
  · intro b hb
    cases h2 : ρ2 b with
    | none => rfl
    | some x =>
      obtain ⟨b', h3, _⟩ := hback b x h2
      rcases hsw b b' h3 with h | h | h <;> omega
  · intro b x hb
    obtain ⟨b', _, h4⟩ := hback b x hb
    exact hs.dom b' x h4
  · intro b k hb
    have hk := csubH_at e.2 hb
    cases hf : swp n0 p q b with
    | none => rw [hf] at hk; cases k <;> first | (simp [clkO, keq] at hk; done) | (rename_i st; cases st <;> simp [clkO, keq] at hk)
    | some b' =>
      rw [hf] at hk
      simp only [clkO] at hk
      cases hc : clk s'.H b' with
      | none => rw [hc] at hk; cases k <;> first | (simp [keq] at hk; done) | (rename_i st; cases st <;> simp [keq] at hk)
      | some k1 =>
        rw [hc] at hk
        obtain ⟨x, k', a1, a2, a3, a4, a5⟩ := hs.heap b' k1 hc
        exact ⟨x, k', hF b b' x hf a1, a2, keq_sim hF hk a3, a4, a5⟩
  · intro b1 b2 x1 x2 k1 k2 c1 c2 r1 r2 hx
    have key : ∀ b k, clk s.H b = some k → ∀ b', swp n0 p q b = some b' → ∃ k', clk s'.H b' = some k' := fun b k hb b' hf => by
      have hk := csubH_at e.2 hb
      rw [hf] at hk
      simp only [clkO] at hk
      cases hc : clk s'.H b' with
      | none => rw [hc] at hk; cases k <;> first | (simp [keq] at hk; done) | (rename_i st; cases st <;> simp [keq] at hk)
      | some k1 => exact ⟨k1, rfl⟩
    obtain ⟨b1', f1, g1⟩ := hback b1 x1 r1
    obtain ⟨b2', f2, g2⟩ := hback b2 x2 r2
    obtain ⟨k1', d1⟩ := key b1 k1 c1 b1' f1
    obtain ⟨k2', d2⟩ := key b2 k2 c2 b2' f2
    have := hs.inj b1' b2' x1 x2 k1' k2' d1 d2 g1 g2 hx
    rcases hsw b1 b1' f1 with h1 | h1 | h1 <;> rcases hsw b2 b2' f2 with h2 | h2 | h2 <;> omega
theorem swaps_inv {n0 : Nat} {s s' : CS} : ∀ {m : Nat}, cswaps n0 s s' m = true → n0 ≤ s.n → ∃ p q, n0 + p + q = s.n ∧ csub (swp n0 p q) s s' = true
  | 0, h, hn => ⟨0, s.n - n0, by omega, h⟩
  | m + 1, h, hn => by
    simp only [cswaps, Bool.or_eq_true, Bool.and_eq_true, Nat.ble_eq] at h
    rcases h with h | ⟨h1, h2⟩
    · exact swaps_inv h hn
    · exact ⟨m + 1, s.n - n0 - m - 1, by omega, h2⟩
theorem join_sim {a b : COut} {o1 o2 : Out} {n0 : Nat} (hn : ∀ b, n0 ≤ b → ρ b = none) (h1 : OSim B H0 ρ a o1) (h2 : OSim B H0 ρ b o2) : OSim B H0 ρ (cjoin n0 a b) o1 ∧ OSim B H0 ρ (cjoin n0 a b) o2 := by
  cases a with
  | none => exact ⟨OSim.none, OSim.none⟩
  | some qa =>
    cases b with
    | none => exact ⟨OSim.none, OSim.none⟩
    | some qb =>
      obtain ⟨xa, sa⟩ := qa
      obtain ⟨xb, sb⟩ := qb
      simp only [cjoin]
      cases hc : (xeq xa xb && Nat.ble n0 sa.n && cswaps n0 sa sb 8) with
      | false => exact ⟨OSim.none, OSim.none⟩
      | true =>
        simp only [Bool.and_eq_true, Nat.ble_eq] at hc
        obtain ⟨⟨c1, c2⟩, c3⟩ := hc
        have hx : xa = xb := by
          cases xa <;> cases xb <;> first | rfl | (simp [xeq] at c1; done) | (simp only [xeq, Nat.beq_eq] at c1; rw [c1])
        subst hx
        refine ⟨h1, fun x s e => ?_⟩
        simp only [cond_true, Option.some.injEq, Prod.mk.injEq] at e
        obtain ⟨rfl, rfl⟩ := e
        obtain ⟨ρ', S, l1, l2, l3⟩ := h2 _ _ rfl
        obtain ⟨p, q, e1, e2⟩ := swaps_inv c3 c2
        obtain ⟨ρ2, m1, m2⟩ := csub_sim hn l1 e1 e2 l3
        exact ⟨ρ2, S, m1, l2, m2⟩
end
end Go.Proofs.YtbpaekbjpapgeaaGreatDoor.K
namespace Go.Proofs.YtbpaekbjpapgeaaGreatDoor.K
section
variable {ρ ρ' : Rho} {t t' : List Value} {x x' y y' z z' v : Value} {B : OH} {H0 H H' : HL} {C C' : CH} {n n' : Nat} {N N' : St} {Gc : CEnv} {G : Env}
theorem seq_sim {a : COut} {b : Out} {kc : CS → COut} {k : S → Out} (h : OSim B H0 ρ a b) (hk : ∀ ρ' s S, Le ρ ρ' → SS B H0 ρ' s S → OSim B H0 ρ' (kc s) (k S)) : OSim B H0 ρ (cseq kc a) (seqO k b) := by
  cases a with
  | none => exact OSim.none
  | some q =>
    obtain ⟨x, s⟩ := q
    obtain ⟨ρ', S, h1, rfl, h3⟩ := h _ _ rfl
    cases x with
    | normal => exact (hk ρ' s S h1 h3).back h1
    | ret => exact (OSim.some .ret h3).back h1
    | exit i => exact (OSim.some (.exit i) h3).back h1
theorem blk_sim {a : COut} {b : Out} {id : Nat} (h : OSim B H0 ρ a b) : OSim B H0 ρ (cblk id a) (blkO id b) := by
  cases a with
  | none => exact OSim.none
  | some q =>
    obtain ⟨x, s⟩ := q
    obtain ⟨ρ', S, h1, rfl, h3⟩ := h _ _ rfl
    cases x with
    | normal => exact (OSim.some .normal h3).back h1
    | ret => exact (OSim.some .ret h3).back h1
    | exit i =>
      simp only [cblk, blkO, xOf]
      cases hc : Nat.beq i id with
      | true => rw [if_pos (by simpa using hc)]; exact (OSim.some .normal h3).back h1
      | false =>
        rw [if_neg (by intro e; subst e; simp at hc)]
        exact (OSim.some (.exit i) h3).back h1
theorem cond_sim (hx : VR ρ x x') {a b : CS → COut} {a' b' : S → Out} {s : CS} {S : S} (h1 : OSim B H0 ρ (a s) (a' S)) (h2 : OSim B H0 ρ (b s) (b' S)) : OSim B H0 ρ (ccond x a b s) (condO x' a' b' S) := by
  cases hx <;> first | (intro _ _ e; simp [ccond] at e; done) | skip
  rename_i c
  cases c with
  | true => exact h1
  | false => exact h2
theorem topT_sim (D : List Nat) : ∀ (i : Nat) {t t' : List Value}, VRs ρ t t' → VRs ρ (topT D i t) t'
  | _, _, _, .nil => .nil
  | i, _, _, .cons v v' l l' h hs => by
    simp only [topT]
    cases memN i D with
    | true => exact .cons _ _ _ _ (.top _) (topT_sim D (i + 1) hs)
    | false => exact .cons _ _ _ _ h (topT_sim D (i + 1) hs)
theorem topD_sim (D : List Nat) {t t' : List Value} (h : VRs ρ t t') : VRs ρ (topD t D) t' := by
  cases D with
  | nil => exact h
  | cons i D => exact topT_sim _ 0 h
theorem gc_sim {a : COut} {b : Out} {n0 : Nat} {dd : Nat → List Nat} (h : OSim B H0 ρ a b) : OSim B H0 ρ (cgcO dd n0 a) b := by
  cases a with
  | none => exact OSim.none
  | some q =>
    obtain ⟨x, s⟩ := q
    obtain ⟨ρ', S, h1, rfl, h3, h4⟩ := h _ _ rfl
    refine (OSim.some (s := cgc dd n0 s) x ⟨topD_sim _ h3, ?_⟩).back h1
    exact h4.drop fun b k e => (clk_ckeep e).2
theorem setP_sim : ∀ (ps : List Tmp) {t t' vs vs' : List Value}, VRs ρ t t' → VRs ρ vs vs' → VRs ρ (setP t ps vs) (setP t' ps vs')
  | [], _, _, _, _, ht, _ => by simpa [setP] using ht
  | p :: ps, _, _, _, _, ht, .nil => by simpa [setP] using ht
  | p :: ps, _, _, _, _, ht, .cons _ _ _ _ h hs => by simp only [setP]; exact setP_sim ps (st_sim p ht h) hs
theorem loop_at {b : Nat} {e : Ent} {st : LSt} (h : Sim B H0 ρ C n H N) (he : ρ b = some e) (hc : clk C b = some (.loop st)) : lk H e.a = some (.loop e.lp st) ∧ B e.a = none := by
  obtain ⟨x, k', a1, a2, a3, a4, _⟩ := h.heap b _ hc
  rw [he] at a1
  simp only [Option.some.injEq] at a1; subst a1
  cases a3
  exact ⟨a2, a4⟩
theorem loop_put {b : Nat} {e : Ent} {st st' : LSt} (h : Sim B H0 ρ C n H N) (he : ρ b = some e) (hc : clk C b = some (.loop st)) : Sim B H0 ρ (cup C b (.loop st')) n (lkU H e.a e.lp st') N := by
  obtain ⟨h1, h2⟩ := loop_at h he hc
  refine h.put hc he (.loop st') (fun y => ?_) (good_set h.gd h2 h1)
  simp only [lkU, lk]
  by_cases hy : y = e.a
  · subst hy; simp
  · have : (y == e.a) = false := by simpa using hy
    rw [this, if_neg hy]; rfl
theorem isLp_same {r : Loop} {st : LSt} : isLp r st (some (.loop r st)) = true := by simp [isLp]
theorem ready_inv {k : Option CK} (h : cready k = true) : k = some (.loop .ready) := by
  unfold cready at h
  split at h
  · rfl
  · cases h
theorem busy_inv {k : Option CK} (h : cbusy k = true) : k = some (.loop .busy) := by
  unfold cbusy at h
  split at h
  · rfl
  · cases h
theorem end_sim {l : Nat} {e : Ent} (he : ρ l = some e) {a : COut} {b : Out} (h : OSim B H0 ρ a b) : RsE B H0 ρ (cend l a) (endRnd e.a e.lp b) := by
  intro v C1 n1 ee
  cases a with
  | none => cases ee
  | some q =>
    obtain ⟨x, s⟩ := q
    obtain ⟨ρ', S, h1, rfl, h3, h4⟩ := h _ _ rfl
    have he' := h1 _ _ he
    cases x with
    | normal =>
      simp only [cend] at ee
      simp only [endRnd, xOf]
      cases hb : cbusy (clk s.H l) with
      | false => rw [hb] at ee; cases ee
      | true =>
        rw [hb] at ee
        have hc := busy_inv hb
        simp only [cond_true, Option.some.injEq, Prod.mk.injEq] at ee
        obtain ⟨rfl, rfl, rfl⟩ := ee
        rw [(loop_at h4 he' hc).1, isLp_same]
        exact ⟨ρ', _, _, _, h1, rfl, .bool true, loop_put h4 he' hc⟩
    | ret =>
      simp only [cend] at ee
      simp only [endRnd, xOf]
      cases hb : cbusy (clk s.H l) with
      | false => rw [hb] at ee; cases ee
      | true =>
        rw [hb] at ee
        have hc := busy_inv hb
        simp only [cond_true, Option.some.injEq, Prod.mk.injEq] at ee
        obtain ⟨rfl, rfl, rfl⟩ := ee
        rw [(loop_at h4 he' hc).1, isLp_same]
        exact ⟨ρ', _, _, _, h1, rfl, .bool false, loop_put h4 he' hc⟩
    | exit i =>
      simp only [cend] at ee
      simp only [endRnd, xOf]
      cases hb : cbusy (clk s.H l) with
      | false => rw [hb] at ee; cases ee
      | true =>
        rw [hb] at ee
        have hc := busy_inv hb
        simp only [cond_true, Option.some.injEq, Prod.mk.injEq] at ee
        obtain ⟨rfl, rfl, rfl⟩ := ee
        rw [(loop_at h4 he' hc).1, isLp_same]
        exact ⟨ρ', _, _, _, h1, rfl, .bool false, loop_put h4 he' hc⟩
theorem yield_sim {l : Nat} {e : Ent} (he : ρ l = some e) (ht : VRs ρ t t') {ps : List Tmp} {ca cb : CS → COut} {ea eb : S → Out}
    (hA : ∀ ρ1, Le ρ ρ1 → ∀ s S, SS B H0 ρ1 s S → OSim B H0 ρ1 (ca s) (ea S)) (hB : ∀ ρ1, Le ρ ρ1 → ∀ s S, SS B H0 ρ1 s S → OSim B H0 ρ1 (cb s) (eb S)) :
    CSim B H0 ρ (cyield ca cb l ps t) (yieldC ea eb e.a e.lp ps t') := by
  intro ρ1 hl as as' C n H N v C1 n1 has hs ee
  simp only [cyield] at ee
  cases hc : (cready (clk C l) && Nat.beq as.length ps.length) with
  | false => rw [hc] at ee; cases ee
  | true =>
    rw [hc] at ee
    simp only [Bool.and_eq_true, Nat.beq_eq] at hc
    obtain ⟨c1, c2⟩ := hc
    have hr := ready_inv c1
    have he1 := hl _ _ he
    have hlk := (loop_at hs he1 hr).1
    simp only [cond_true] at ee
    have hlen : as'.length = ps.length := by rw [← has.len, c2]
    have hreal : yieldC ea eb e.a e.lp ps t' as' H N = begRnd eb e.a e.lp (ea ⟨setP t' ps as', H, N⟩) := by
      simp only [yieldC, hlk, isLp_same, hlen, decide_true, Bool.and_self, cond_true]
    rw [hreal]
    have hss : SS B H0 ρ1 ⟨setP t ps as, C, n⟩ ⟨setP t' ps as', H, N⟩ := ⟨setP_sim ps (ht.mono hl) has, hs⟩
    have ha := hA ρ1 hl _ _ hss
    revert ha ee
    generalize ca ⟨setP t ps as, C, n⟩ = oa
    generalize ea ⟨setP t' ps as', H, N⟩ = ob
    intro ee ha
    cases oa with
    | none => cases ee
    | some q =>
      obtain ⟨x, s⟩ := q
      obtain ⟨ρ2, S, h1, rfl, h3, h4⟩ := ha _ _ rfl
      cases x with
      | ret => cases ee
      | exit => cases ee
      | normal =>
        simp only [cbeg] at ee
        simp only [begRnd, xOf]
        cases hb : cready (clk s.H l) with
        | false => rw [hb] at ee; cases ee
        | true =>
          rw [hb] at ee
          have hc2 := ready_inv hb
          have he2 := h1 _ _ he1
          simp only [cond_true] at ee
          rw [(loop_at h4 he2 hc2).1, isLp_same]
          simp only [cond_true]
          obtain ⟨ρ3, v', H3, N3, k1, k2, k3, k4⟩ := end_sim he2 (hB ρ2 (hl.trans h1) ⟨s.t, cup s.H l (.loop .busy), s.n⟩ ⟨S.t, lkU S.H e.a e.lp .busy, S.N⟩ ⟨h3, loop_put h4 he2 hc2⟩) v C1 n1 ee
          exact ⟨ρ3, v', H3, N3, h1.trans k1, k2, k3, k4⟩
theorem after_sim {l : Nat} {e : Ent} (he : ρ l = some e) (ht : VRs ρ t t') {a : CRes} {b : ResE} (h : RsE B H0 ρ a b) : OSim B H0 ρ (cafter l t a) (afterR e.a e.lp t' b) := by
  cases a with
  | none => exact OSim.none
  | some q =>
    obtain ⟨v, C, n⟩ := q
    obtain ⟨ρ', v', H, N, h1, rfl, h3, h4⟩ := h v C n rfl
    have he' := h1 _ _ he
    simp only [cafter, afterR]
    have go : ∀ (st : LSt) (x : CX), clk C l = some (.loop st) → caft l t C n (some (.loop st)) = some (x, ⟨t, cdel (cup C l (.loop .over)) l, n⟩) → aftR e.a e.lp t' H N (some (.loop e.lp st)) = some (xOf x, ⟨t', lkU H e.a e.lp .over, N⟩) → OSim B H0 ρ (caft l t C n (clk C l)) (aftR e.a e.lp t' H N (lk H e.a)) := fun st x hc e1 e2 => by
      rw [(loop_at h4 he' hc).1, hc, e1, e2]
      exact (OSim.some (s := ⟨t, cdel (cup C l (.loop .over)) l, n⟩) (S := ⟨t', lkU H e.a e.lp .over, N⟩) x ⟨ht.mono h1, (loop_put h4 he' hc).drop fun b k e => (clk_cdel e).2⟩).back h1
    cases hc : clk C l with
    | none => exact OSim.none
    | some k =>
      rw [← hc]
      cases k with
      | loop st =>
        cases st with
        | ready => exact go .ready .normal hc rfl (by simp only [aftR, isLp_same, cond_true, xOf])
        | busy => rw [hc]; exact OSim.none
        | over => rw [hc]; exact OSim.none
        | done j =>
          cases j with
          | none => exact go (.done none) .ret hc rfl (by simp only [aftR, isLp_same, cond_true, xOf])
          | some i => exact go (.done (some i)) (.exit i) hc rfl (by simp only [aftR, isLp_same, cond_true, xOf])
      | cells => rw [hc]; exact OSim.none
      | map => rw [hc]; exact OSim.none
      | grown => rw [hc]; exact OSim.none
      | dfr => rw [hc]; exact OSim.none
theorem range_sim (hE : ESim B H0 ρ Gc G) {s : CS} {S : S} (h : SS B H0 ρ s S) (hx : VR ρ x x') {ps : List Tmp} {ca cb : CS → COut} {ea eb : Go.Proofs.YtbpaekbjpapgeaaGreatDoor.K.S → Out}
    (hA : ∀ ρ1, Le ρ ρ1 → ∀ s S, SS B H0 ρ1 s S → OSim B H0 ρ1 (ca s) (ea S)) (hB : ∀ ρ1, Le ρ ρ1 → ∀ s S, SS B H0 ρ1 s S → OSim B H0 ρ1 (cb s) (eb S)) :
    OSim B H0 ρ (crange Gc x ps ca cb s) (rangeO G x' ps ea eb S) := by
  obtain ⟨t, C, n⟩ := s
  obtain ⟨t', H, N⟩ := S
  obtain ⟨ht, hs⟩ := h
  simp only [crange, rangeO]
  have hn := hs.new n (Nat.le_refl _)
  have s1 := hs.newN (e := ⟨N 0, 0, default⟩) (k := .dfr) (k' := .dfr) 0 rfl .dfr (good_new hs.gd)
  have l1 : Le ρ (setR ρ n ⟨N 0, 0, default⟩) := le_setR hn
  have s2 := s1.newN (e := ⟨N 1, 0, N.r 1⟩) (k := .loop .ready) (k' := .loop (N.r 1) .ready) 0 rfl (.loop (e := ⟨N 1, 0, N.r 1⟩) .ready) (good_new s1.gd)
  have l2 := le_setR (e := (⟨N 1, 0, N.r 1⟩ : Ent)) (s1.new (n + 1) (Nat.le_refl _))
  generalize hρ2 : setR (setR ρ n ⟨N 0, 0, default⟩) (n + 1) ⟨N 1, 0, N.r 1⟩ = ρ2 at s2 l2
  have l12 : Le ρ ρ2 := l1.trans l2
  have hat : ρ2 (n + 1) = some ⟨N 1, 0, N.r 1⟩ := by rw [← hρ2]; exact setR_at
  have hY : YSim B H0 ρ2 (cwith Gc.y (n + 1) (cyield ca cb (n + 1) ps t)) (withY G.y (N 1) (yieldC ea eb (N 1) (N.r 1) ps t')) := by
    intro l
    cases hb : Nat.beq l (n + 1) with
    | true =>
      have e : l = n + 1 := by simpa using hb
      subst e
      refine .inr ⟨⟨N 1, 0, N.r 1⟩, hat, ?_⟩
      have e1 : cwith Gc.y (n + 1) (cyield ca cb (n + 1) ps t) (n + 1) = cyield ca cb (n + 1) ps t := by simp only [cwith, hb, cond_true]
      have e2 : withY G.y (N 1) (yieldC ea eb (N 1) (N.r 1) ps t') (N 1) = yieldC ea eb (N 1) (N.r 1) ps t' := by simp [withY]
      rw [e1]
      show CSim B H0 ρ2 _ (withY G.y (N 1) (yieldC ea eb (N 1) (N.r 1) ps t') (N 1))
      rw [e2]
      exact yield_sim hat (ht.mono l12) (fun r hr => hA r (l12.trans hr)) (fun r hr => hB r (l12.trans hr))
    | false =>
      have e1 : cwith Gc.y (n + 1) (cyield ca cb (n + 1) ps t) l = Gc.y l := by simp only [cwith, hb, cond_false]
      rw [e1]
      rcases hE.y l with h0 | ⟨x, h1, h2⟩
      · exact .inl h0
      · refine .inr ⟨x, l12 _ _ h1, ?_⟩
        have hne : (x.a == N 1) = false := by
          cases hq : x.a == N 1 with
          | false => rfl
          | true =>
            have e' : x.a = N 1 := by simpa using hq
            exact (hs.dom l x h1 (by rw [e']; exact lk_N hs.gd 1)).elim
        have e2 : withY G.y (N 1) (yieldC ea eb (N 1) (N.r 1) ps t') x.a = G.y x.a := by simp only [withY, hne, cond_false]
        rw [e2]
        exact h2.mono l12
  refine (after_sim (e := ⟨N 1, 0, N.r 1⟩) hat (ht.mono l12) ?_).back l12
  cases hx <;> first | (intro _ _ _ e; simp [ccallIt] at e; done) | skip
  rename_i f xs ys xs' ys' h1 h2
  simp only [ccallIt, callIt]
  refine ((hE.it ρ2 l12 _ _ hY f).run ?_ s2)
  exact ((h1.mono l12).app (.one (.yld (n + 1) ⟨N 1, 0, N.r 1⟩ [] [] [] [] hat .nil .nil))).app (h2.mono l12)
theorem exec_sim {n0 : Nat} : ∀ (m : Nat) (c : LC) (ρ : Rho) (s : CS) (S : S), ESim B H0 ρ Gc G → SS B H0 ρ s S → OSim B H0 ρ (cexec Gc n0 m c s) (exec B G m c S)
  | 0, _, _, _, _, _, _ => OSim.none
  | m + 1, c, ρ, s, S, hE, h => by
    cases c with
    | skip => exact OSim.some .normal h
    | ops l => exact ops_sim l hE (OSim.some .normal h)
    | draw l => exact draw_sim l hE (OSim.some .normal h)
    | seq a b => exact seq_sim (exec_sim m a ρ s S hE h) fun r s S hr hs => exec_sim m b r s S (hE.mono hr) hs
    | cond c a b => exact cond_sim (cev_sim h.1 c) (exec_sim m a ρ s S hE h) (exec_sim m b ρ s S hE h)
    | block id b => exact blk_sim (exec_sim m b ρ s S hE h)
    | loop b => exact seq_sim (gc_sim (exec_sim m b ρ s S hE h)) fun r s S hr hs => exec_sim m (.loop b) r s S (hE.mono hr) hs
    | exit id => exact OSim.some (.exit id) h
    | ret => exact OSim.some .ret h
    | fork a b =>
      obtain ⟨t', H, N⟩ := S
      have h' : SS B H0 ρ s ⟨t', H, shg N⟩ := ⟨h.1, h.2.new, h.2.dom, h.2.heap, h.2.inj, h.2.gd, h.2.fr⟩
      have hj := join_sim (n0 := s.n) h.2.new (exec_sim (n0 := n0) m a ρ s _ hE h') (exec_sim (n0 := n0) m b ρ s _ hE h')
      simp only [cexec, exec]
      cases N.g 0 with
      | true => exact hj.1
      | false => exact hj.2
    | range g ps a b => exact range_sim hE h (cev_sim h.1 g) (fun r hr s S hs => exec_sim m a r s S (hE.mono hr) hs) (fun r hr s S hs => exec_sim m b r s S (hE.mono hr) hs)
    | bad => exact OSim.none
theorem res1_sim {s : CS} {S : S} (h : SS B H0 ρ s S) (r : LR) : Sm ρ (cres1 s r) (res1 B S r) := by
  cases r with
  | tmp t => exact .some (gt_sim t h.1)
  | cell a g n => exact load_sim h.2 (gt_sim a h.1)
  | bad => exact Sm.none
theorem ress_sim {s : CS} {S : S} (h : SS B H0 ρ s S) : ∀ (rs : List LR) {l : List Value}, cress s rs = some l → ∃ l', ress B S rs = some l' ∧ VRs ρ l l'
  | [], l, e => by simp only [cress, Option.some.injEq] at e; subst e; exact ⟨[], rfl, .nil⟩
  | r :: rs, l, e => by
    simp only [cress] at e
    simp only [ress]
    cases e1 : cres1 s r with
    | none => rw [e1] at e; cases e
    | some v =>
      cases e2 : cress s rs with
      | none => rw [e1, e2] at e; cases e
      | some l2 =>
        obtain ⟨v', f1, f2⟩ := res1_sim h r v e1
        obtain ⟨l2', g1, g2⟩ := ress_sim h rs e2
        rw [e1, e2] at e; rw [f1, g1]
        simp only [consO, Option.some.injEq] at e; subst e
        exact ⟨_, rfl, .cons _ _ _ _ f2 g2⟩
theorem retV_sim {l l' : List Value} (h : VRs ρ l l') : VR ρ (retV l) (retV l') := by
  cases h with
  | nil => exact .tup _ _ .nil
  | cons v v' l l' h hs =>
    cases hs with
    | nil => exact h
    | cons w w' m m' h2 hs2 => exact .tup _ _ (.cons _ _ _ _ h (.cons _ _ _ _ h2 hs2))
theorem retR_sim {s : CS} {S : S} (h : SS B H0 ρ s S) (rs : List LR) : RsE B H0 ρ (cretR s (cress s rs)) (rv (retR S (ress B S rs))) := by
  intro v C n e
  cases hc : cress s rs with
  | none => rw [hc] at e; cases e
  | some l =>
    obtain ⟨l', h1, h2⟩ := ress_sim h rs hc
    rw [hc] at e; rw [h1]
    simp only [cretR, Option.some.injEq, Prod.mk.injEq] at e
    obtain ⟨rfl, rfl, rfl⟩ := e
    exact ⟨ρ, _, _, _, .refl, rfl, retV_sim h2, h.2⟩
theorem RsE.back {a : CRes} {b : ResE} (h : RsE B H0 ρ' a b) (hl : Le ρ ρ') : RsE B H0 ρ a b := fun v C n e => by
  obtain ⟨r, v', H, N, h1, h2, h3, h4⟩ := h v C n e
  exact ⟨r, v', H, N, hl.trans h1, h2, h3, h4⟩
theorem fin_sim {a : COut} {b : Out} (h : OSim B H0 ρ a b) (rs : List LR) : RsE B H0 ρ (cfin rs a) (finO B rs b) := by
  cases a with
  | none => exact RsE.none
  | some q =>
    obtain ⟨x, s⟩ := q
    obtain ⟨ρ', S, h1, rfl, h3⟩ := h _ _ rfl
    cases x with
    | normal => exact (retR_sim h3 rs).back h1
    | ret => exact (retR_sim h3 rs).back h1
    | exit => exact RsE.none
theorem pad_sim : ∀ (n : Nat) {as as' : List Value}, VRs ρ as as' → VRs ρ (pad as n) (pad as' n)
  | 0, _, _, h => by cases h <;> (simp only [pad]; first | exact .nil | exact .cons _ _ _ _ ‹_› ‹_›)
  | n + 1, _, _, .nil => by simp only [pad]; exact .cons _ _ _ _ .undef (pad_sim n .nil)
  | n + 1, _, _, .cons _ _ _ _ h hs => by simp only [pad]; exact .cons _ _ _ _ h (pad_sim n hs)
theorem callF_sim (hE : ESim B H0 ρ Gc G) {n0 F : Nat} (f : FnL) : CSim B H0 ρ (ccallF Gc n0 F f) (callF B G F f) := by
  intro ρ1 hl as as' C n H N v C1 n1 ha hs e
  exact fin_sim (exec_sim F f.code ρ1 ⟨pad as f.ntmps, C, n⟩ ⟨pad as' f.ntmps, H, N⟩ (hE.mono hl) ⟨pad_sim _ ha, hs⟩) f.res v C1 n1 e
theorem callC_sim (hE : ESim B H0 ρ Gc G) {n0 F : Nat} (f : FnC) : CSim B H0 ρ (ccallC Gc n0 F f .nilIface) (callC B G F f .nilIface) := by
  intro ρ1 hl as as' C n H N v C1 n1 ha hs e
  refine fin_sim (exec_sim F f.code ρ1 ⟨putT (pad as f.ntmps) f.d .nilIface, C, n⟩ ⟨putT (pad as' f.ntmps) f.d .nilIface, H, N⟩ (hE.mono hl) ⟨?_, hs⟩) f.res v C1 n1 e
  cases f.d with
  | none => exact pad_sim _ ha
  | some d => exact st_sim d (pad_sim _ ha) .if0
theorem endD_sim (ht : VRs ρ t t') (rs : List LR) {a : CRes} {b : ResE} (h : RsE B H0 ρ a b) : RsE B H0 ρ (cendD rs t a) (endD B rs t' b) := by
  cases a with
  | none => exact RsE.none
  | some q =>
    obtain ⟨v, C, n⟩ := q
    obtain ⟨ρ', v', H, N, h1, rfl, h3, h4⟩ := h v C n rfl
    exact (retR_sim (s := ⟨t, C, n⟩) (S := ⟨t', H, N⟩) ⟨ht.mono h1, h4⟩ rs).back h1
theorem callD_sim (hE : ESim B H0 ρ Gc G) {n0 F : Nat} (f : FnD) {Dc : CCs} {D : Nat → Ds} (hD : CSim B H0 ρ Dc (D f.k .nilIface)) : CSim B H0 ρ (ccallD Gc Dc n0 F f) (callD B G D F f) := by
  intro ρ1 hl as as' C n H N v C1 n1 ha hs e
  have h1 := exec_sim (n0 := n0) F f.pre ρ1 ⟨pad as f.ntmps, C, n⟩ ⟨pad as' f.ntmps, H, N⟩ (hE.mono hl) ⟨pad_sim _ ha, hs⟩
  simp only [ccallD] at e
  simp only [callD]
  revert h1 e
  generalize cexec Gc n0 F f.pre ⟨pad as f.ntmps, C, n⟩ = oa
  generalize exec B G F f.pre ⟨pad as' f.ntmps, H, N⟩ = ob
  intro e h1
  cases oa with
  | none => cases e
  | some q =>
    obtain ⟨x, s⟩ := q
    obtain ⟨ρ2, S, l2, rfl, h3⟩ := h1 _ _ rfl
    cases x with
    | ret => cases e
    | exit => cases e
    | normal =>
      simp only [crestD] at e
      simp only [restD, xOf]
      have h4 := exec_sim (n0 := n0) F f.code ρ2 s S (hE.mono (hl.trans l2)) h3
      have hda := cevs_sim h3.1 f.dargs
      revert h4 e
      generalize cexec Gc n0 F f.code s = oc
      generalize exec B G F f.code S = od
      intro e h4
      cases oc with
      | none => cases e
      | some q =>
        obtain ⟨x, s'⟩ := q
        obtain ⟨ρ3, S', l3, rfl, h5⟩ := h4 _ _ rfl
        have hcall := (hD.mono (hl.trans (l2.trans l3))).run (hda.mono l3) h5.2
        cases x with
        | exit => cases e
        | normal =>
          obtain ⟨r, v', H1, N1, k1, k2, k3, k4⟩ := endD_sim h5.1 f.res hcall v C1 n1 e
          exact ⟨r, v', H1, N1, l2.trans (l3.trans k1), k2, k3, k4⟩
        | ret =>
          obtain ⟨r, v', H1, N1, k1, k2, k3, k4⟩ := endD_sim h5.1 f.res hcall v C1 n1 e
          exact ⟨r, v', H1, N1, l2.trans (l3.trans k1), k2, k3, k4⟩
theorem cut_sim {a : CRes} {b : ResE} {k : Bool} {n0 : Nat} (h : RsE B H0 ρ a b) : RsE B H0 ρ (ccutK k n0 a) b := by
  cases k with
  | true => exact h
  | false =>
    cases a with
    | none => exact h
    | some q =>
      obtain ⟨v, C, n⟩ := q
      simp only [ccutK, ccutR, cond_false]
      cases flat 4 v with
      | false => exact h
      | true =>
        intro v2 C2 n2 e
        simp only [cond_true, Option.some.injEq, Prod.mk.injEq] at e
        obtain ⟨rfl, rfl, rfl⟩ := e
        obtain ⟨r, v', H, N, h1, h2, h3, h4⟩ := h _ _ _ rfl
        exact ⟨r, v', H, N, h1, h2, h3, h4.drop fun b k e => (clk_ccut e).2⟩
noncomputable def renv (B : OH) (T : Nat → Option Fn3) (R : Nat → Cs) (F : Nat) : Nat → (Nat → Cs) → Nat → Cs
  | 0, _, _ => fun _ _ _ => none
  | d + 1, Y, k => match T k with
    | some (.l f) => callF B ⟨renv B T R F d Y, Y, fun k Y' => renv B T R F d Y' k⟩ F f
    | some (.d f c) => callD B ⟨renv B T R F d Y, Y, fun k Y' => renv B T R F d Y' k⟩ (fun _ => callC B ⟨renv B T R F d Y, Y, fun k Y' => renv B T R F d Y' k⟩ F c) F f
    | some (.g _) => R k
    | none => fun _ _ _ => none
theorem vall_flat : ∀ {a as as' : List Value}, vbeqs a as = true → a.all (flat 4) = true → VRs ρ as as' → as' = a
  | [], [], _, _, _, .nil => rfl
  | [], _ :: _, _, e, _, _ => by simp [vbeqs, vall] at e
  | _ :: _, [], _, e, _, _ => by simp [vbeqs, vall] at e
  | x :: a, y :: as, _, e, hf, .cons _ y' _ as' h hs => by
    simp only [vbeqs, vall, Bool.and_eq_true] at e
    simp only [List.all_cons, Bool.and_eq_true] at hf
    rw [vbeq_eq 4 e.1 (flat_VR 4 hf.1) h, vall_flat (a := a) e.2 hf.2 hs]
theorem giv_sim {g : Cs} (tbl : List (List Value × Value)) (hR : ∀ q ∈ tbl, ∀ H N, good B H N → g q.1 H N = some (.ret q.2, H, N)) : ∀ {as as' : List Value}, VRs ρ as as' → Sim B H0 ρ C n H N → RsE B H0 ρ (cgiv as C n tbl) (g as' H N) := by
  induction tbl with
  | nil => exact fun _ _ => RsE.none
  | cons q l ih =>
    intro as as' ha hs v C1 n1 e
    obtain ⟨a, r⟩ := q
    simp only [cgiv] at e
    cases hc : (vbeqs a as && a.all (flat 4) && flat 4 r) with
    | false => rw [hc] at e; exact ih (fun q hq => hR q (by simp [hq])) ha hs v C1 n1 e
    | true =>
      rw [hc] at e
      simp only [Bool.and_eq_true] at hc
      simp only [cond_true, Option.some.injEq, Prod.mk.injEq] at e
      obtain ⟨rfl, rfl, rfl⟩ := e
      have := vall_flat hc.1.1 hc.1.2 ha
      exact ⟨ρ, _, H, N, .refl, by rw [this]; exact hR (a, r) (by simp) H N hs.gd, flat_VR 4 hc.2, hs⟩
theorem env_sim {T : Nat → Option Fn3} {R : Nat → Cs} {K : Nat → Bool} {DD : Nat → List Nat} {F : Nat} (hR : ∀ k tbl, T k = some (.g tbl) → ∀ q ∈ tbl, ∀ H N, good B H N → R k q.1 H N = some (.ret q.2, H, N)) :
    ∀ (d : Nat) (ρ : Rho) (Yc : Nat → CCs) (Y : Nat → Cs), YSim B H0 ρ Yc Y → ∀ k, CSim B H0 ρ (cenv T K DD F d Yc k) (renv B T R F d Y k)
  | 0, _, _, _, _, _ => fun _ _ _ _ _ _ _ _ _ _ _ _ _ e => by cases e
  | d + 1, ρ, Yc, Y, hY, k => by
    intro ρ1 hl as as' C n H N v C1 n1 ha hs e
    have hE : ESim B H0 ρ1 ⟨cenv T K DD F d Yc, Yc, fun k Y' => cenv T K DD F d Y' k, DD⟩ ⟨renv B T R F d Y, Y, fun k Y' => renv B T R F d Y' k⟩ :=
      ⟨env_sim hR d ρ1 Yc Y (hY.mono hl), hY.mono hl, fun r _ Yc' Y' hY' k => env_sim hR d r Yc' Y' hY' k⟩
    simp only [cenv] at e
    simp only [renv]
    cases hT : T k with
    | none => rw [hT] at e; cases e
    | some f3 =>
      rw [hT] at e
      cases f3 with
      | l f => exact cut_sim ((callF_sim hE f).run ha hs) v C1 n1 e
      | d f c => exact cut_sim ((callD_sim hE f (D := fun _ => callC B ⟨renv B T R F d Y, Y, fun k Y' => renv B T R F d Y' k⟩ F c) (callC_sim hE c)).run ha hs) v C1 n1 e
      | g tbl => exact giv_sim tbl (hR k tbl hT) ha hs v C1 n1 e
end
def FactF (P : Program) (R : OH → Nat → Cs) (k : Nat) : Fn3 → Prop
  | .l f => Enter P k ∧ ∃ fn, P.funcs[k]? = some fn ∧ lowerFn P fn = some f
  | .d f c => (Enter P k ∧ ∃ fn, P.funcs[k]? = some fn ∧ lowerDfr P fn = some f) ∧ Enter P f.k ∧ ∃ fn, P.funcs[f.k]? = some fn ∧ lowerCaught P fn = some c
  | .g _ => Enter P k ∧ ∀ w0 B, SoundC P w0 B k (R B k)
theorem renv_sound {P : Program} {w0 : World} {B : OH} {T : Nat → Option Fn3} {R : OH → Nat → Cs} {F : Nat} (hm : P.follows .mixedOrders = true) (hT : ∀ k f, T k = some f → FactF P R k f) :
    ∀ (d : Nat) (Y : Nat → Cs), SoundY P w0 B Y → ∀ k, (∀ args H N, renv B T (R B) F d Y k args H N = none) ∨ (Enter P k ∧ SoundC P w0 B k (renv B T (R B) F d Y k))
  | 0, _, _, _ => .inl fun _ _ _ => rfl
  | d + 1, Y, hY, k => by
    have hG : SoundG P w0 B ⟨renv B T (R B) F d Y, Y, fun k Y' => renv B T (R B) F d Y' k⟩ := by
      refine ⟨renv_sound hm hT d Y hY, hY, fun k => ?_⟩
      cases d with
      | zero => exact .inl fun _ _ _ _ => rfl
      | succ d =>
        cases hk : T k with
        | none => exact .inl fun _ _ _ _ => by simp only [renv, hk]
        | some f3 =>
          refine .inr ⟨?_, fun Y' hY' => ?_⟩
          · have := hT k f3 hk
            cases f3 with
            | l f => exact this.1
            | d f c => exact this.1.1
            | g t => exact this.1
          · rcases renv_sound (F := F) hm hT (d + 1) Y' hY' k with h | h
            · intro H args Q w h0 hQ hk'
              exact (h0 (by have hq : Q (renv B T (R B) F (d + 1) Y' k args H (stW w)) := hQ _ (good_of hk'); rw [h] at hq; exact hq)).elim
            · exact h.2
    cases hk : T k with
    | none => exact .inl fun _ _ _ => by simp only [renv, hk]
    | some f3 =>
      have hf := hT k f3 hk
      have he : renv B T (R B) F (d + 1) Y k = (match (some f3 : Option Fn3) with
        | some (.l f) => callF B ⟨renv B T (R B) F d Y, Y, fun k Y' => renv B T (R B) F d Y' k⟩ F f
        | some (.d f c) => callD B ⟨renv B T (R B) F d Y, Y, fun k Y' => renv B T (R B) F d Y' k⟩ (fun _ => callC B ⟨renv B T (R B) F d Y, Y, fun k Y' => renv B T (R B) F d Y' k⟩ F c) F f
        | some (.g _) => R B k
        | none => fun _ _ _ => none) := by simp only [renv, hk]
      refine .inr ?_
      rw [he]
      cases f3 with
      | l f =>
        obtain ⟨h1, fn, h2, h3⟩ := hf
        exact ⟨h1, callF_sound hm hG F h2 h3⟩
      | d f c =>
        obtain ⟨⟨h1, fn, h2, h3⟩, h4, fn', h5, h6⟩ := hf
        exact ⟨h1, callD_sound hm hG F h2 h3 h4 (callC_sound hm hG F h5 h6)⟩
      | g t => exact ⟨hf.1, hf.2 w0 B⟩
theorem crun {B : OH} {T : Nat → Option Fn3} {R : Nat → Cs} {K : Nat → Bool} {DD : Nat → List Nat} {F d k n : Nat} {v : Value} {C : CH} (hR : ∀ k tbl, T k = some (.g tbl) → ∀ q ∈ tbl, ∀ H N, good B H N → R k q.1 H N = some (.ret q.2, H, N))
    (h : cenv T K DD F d noY k [] [] 0 = some (v, C, n)) (hv : flat 4 v = true) {H : HL} {N : St} (hN : good B H N) : ∃ H' N', renv B T R F d (fun _ _ _ _ => none) k [] H N = some (.ret v, H', N') ∧ good B H' N' ∧ Fr H H' := by
  have hs : Sim B H (fun _ => none) [] 0 H N := ⟨fun _ _ => rfl, fun _ _ h => (by cases h), fun _ _ h => (by simp [clk] at h), fun _ _ _ _ _ _ h => (by simp [clk] at h), hN, Fr.refl⟩
  obtain ⟨ρ', v', H1, N1, _, h2, h3, h4⟩ := env_sim (H0 := H) hR d (fun _ => none) noY (fun _ _ _ _ => none) (fun l => .inl fun _ _ _ => rfl) k (fun _ => none) .refl [] [] [] 0 H N v C n .nil hs h
  rw [flat_eq 4 hv h3] at h2
  exact ⟨H1, N1, h2, h4.gd, h4.fr⟩
end Go.Proofs.YtbpaekbjpapgeaaGreatDoor.K
