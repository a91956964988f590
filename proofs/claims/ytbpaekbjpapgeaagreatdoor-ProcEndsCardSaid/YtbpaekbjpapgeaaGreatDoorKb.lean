/- Second part of the evaluator: whole functions, panics, deferred calls, the equations by which it is rewritten, the reading of flat types. -/
import Derived.Test.YtbpaekbjpapgeaaGreatDoorK
import Derived.OrdersIn
import Derived.TacticsIn
import Derived.RangeFuncRecord
import Derived.RangeFuncCalls
import Derived.Orders
import Derived.RecoverIn
import Derived.ProofKit
import Derived.OpenShut
import Derived.Deep.DeepHandedRow
import Derived.Lib.LaidTab
import Derived.Deep.Slices
set_option linter.unusedSimpArgs false
set_option linter.unusedVariables false
namespace Go.Proofs.YtbpaekbjpapgeaaGreatDoor.K
variable {P : Program} {w0 w : World} {B : OH} {H : HL} {t : List Value} {G : Env}

theorem gt_eq (t : List Value) (i : Nat) : gt t i = t.toArray.getD i undef := by
  induction t generalizing i with
  | nil => simp [gt]
  | cons x l ih => cases i with
    | zero => simp [gt]
    | succ i => simp only [gt, ih]; simp [Array.getD_eq_getD_getElem?]
theorem st_eq (t : List Value) (i : Nat) (v : Value) : (st t i v).toArray = t.toArray.setIfInBounds i v := by
  have : ∀ (t : List Value) (i : Nat), st t i v = t.set i v := by
    intro t
    induction t with
    | nil => intro i; simp [st]
    | cons x l ih => intro i; cases i with
      | zero => simp [st]
      | succ i => simp [st, ih]
  rw [this]; simp
theorem eval_eq (t : List Value) (ds : List Deferred) (x : Operand) : (Act.mk t.toArray ds).eval x = ev t x := by
  cases x <;> simp only [Act.eval, ev]
  rw [gt_eq]
theorem put_eq (t : List Value) (ds : List Deferred) (d : Option Tmp) (v : Value) : (Act.mk t.toArray ds).put d v = Act.mk (putT t d v).toArray ds := by
  cases d with
  | none => rfl
  | some d => simp only [Act.put, putT, st_eq]

def Enter (P : Program) (k : Nat) : Prop := ∀ args w, (callFunc k args).run P w = .ok (.enter k args) w
def endOf : E → Ending
  | .ret v => .returned v
  | .pan v => .panicked [{ v, recovered := false }]
def SoundC (P : Program) (w0 : World) (B : OH) (k : Nat) (g : Cs) : Prop :=
  ∀ (H : HL) (args : List Value) (Q : ResE → Prop) (w : World), ¬ Q none → (∀ N, good B H N → Q (g args H N)) → Knows w0 (den H B) w →
    Calls P k args.toArray w fun e w' => ∃ x H', e = endOf x ∧ KeepD w w' ∧ Knows w0 (den H' B) w' ∧ ∀ N', good B H' N' → Q (some (x, H', N'))
def SoundR (P : Program) (w0 : World) (B : OH) (l : Nat) (c : Cs) : Prop :=
  ∀ (H : HL) (args : List Value) (Q : ResE → Prop) (w : World), ¬ Q none → (∀ N, good B H N → Q (c args H N)) → Knows w0 (den H B) w →
    ∃ f tmps assign body, (Instr.yield l args.toArray).run P w = .ok (.round l f tmps assign body) w ∧
      RoundIn Fence.wide 0 P l f tmps assign body w fun e w' => ∃ x H', e = endOf x ∧ KeepD w w' ∧ Knows w0 (den H' B) w' ∧ ∀ N', good B H' N' → Q (some (x, H', N'))
def SoundY (P : Program) (w0 : World) (B : OH) (Y : Nat → Cs) : Prop := ∀ l, (∀ args H N, Y l args H N = none) ∨ SoundR P w0 B l (Y l)
structure SoundG (P : Program) (w0 : World) (B : OH) (G : Env) : Prop where
  f : ∀ k, (∀ args H N, G.f k args H N = none) ∨ (Enter P k ∧ SoundC P w0 B k (G.f k))
  y : SoundY P w0 B G.y
  it : ∀ k, (∀ Y args H N, G.it k Y args H N = none) ∨ (Enter P k ∧ ∀ Y, SoundY P w0 B Y → SoundC P w0 B k (G.it k Y))
theorem SoundG.of {g : Nat → Cs} (h : ∀ k, (∀ args H N, g k args H N = none) ∨ (Enter P k ∧ SoundC P w0 B k (g k))) : SoundG P w0 B { f := g } :=
  ⟨h, fun _ => .inl fun _ _ _ => rfl, fun _ => .inl fun _ _ _ _ => rfl⟩
def Fw (r : Option Nat) : Fence := { Fence.wide with round := r }
theorem callsIn_Fw {r : Option Nat} {n : Nat} {f : FuncId} {args : Array Value} {R : Ending → World → Prop} (h : Calls P f args w R) : CallsIn (Fw r) n P f args w R := by
  cases r with
  | none => exact callsIn_wide.2 h
  | some l => exact CallsIn.inRound l (callsIn_wide.2 h)
theorem roundIn_Fw {r : Option Nat} {n l : Nat} {f : FuncId} {tmps : Array Value} {a b : Code} {R : Ending → World → Prop} (h : RoundIn Fence.wide n P l f tmps a b w R) : RoundIn (Fw r) n P l f tmps a b w R := by
  cases r <;> exact h
theorem noDepth {r : Option Nat} {n : Nat} : (Fw r).depth.isSome = true → 1 ≤ n := fun h => by cases h

theorem Enter.of {k : Nat} {fn : Func} (hf : P.funcs[k]? = some fn) (hb : fn.body.isSome = true) (hn : (fn.name == "runtime.NumGoroutine") = false) : Enter P k := by
  intro args w
  have hb' : fn.body.isNone = false := by cases h : fn.body <;> simp_all
  simp only [callFunc, Sem.run_bind, run_program, Result.andThen_ok, hf, hn, hb']
  rfl

theorem wanted_eq {all : List Oper} {o : Oper} {g : Option (Tmp × Bool)} (h : guardOf all o.guard = some g) (t : List Value) : Region.wanted o (yielded all.toArray t.toArray) = wantG t g := by
  unfold guardOf at h
  unfold Region.wanted
  cases ho : o.guard with
  | none => simp [ho] at h; subst h; rfl
  | some x =>
    obtain ⟨j, b⟩ := x
    simp only [ho] at h
    cases hd : (all[j]?).bind (·.dst) with
    | none => simp [hd] at h
    | some d =>
      simp only [hd, Option.some.injEq] at h
      subst h
      simp only [wantG, yielded, List.getElem?_toArray, hd, Option.bind_some, gt_eq]
      cases hv : t[d]? with
      | none => simp [hv, isB, undef, Array.getD_eq_getD_getElem?]
      | some v => cases v <;> simp [hv, isB, Array.getD_eq_getD_getElem?]
      
theorem does_run {o : Oper} {ρ : Operand → Value} {v : Value} {w' : World} (hd : Does P ρ o w v w') : ∀ c, o.op ≠ .defer c := by
  intro c hc
  have : ∀ r, (execOp ρ o).run P w = r → (∃ x w', r = .ok (.defer x) w') ∨ ∃ x w', r = .halt x w' := by
    intro r hr
    simp only [execOp, hc, Sem.run_bind] at hr
    cases h : (resolve ρ c o.type).run P w with
    | ok d w1 => rw [h] at hr; simp only [Result.andThen_ok, Sem.run_pure] at hr; exact .inl ⟨_, _, hr.symm⟩
    | halt x w1 => rw [h] at hr; exact .inr ⟨_, _, hr.symm⟩
  rcases hd with hd | ⟨hd, _⟩ <;> rcases this _ hd with ⟨x, y, e⟩ | ⟨x, y, e⟩ <;> cases e
variable {rd : Option Nat}
theorem upon_does {o : Oper} {a : Act} {next : Act → World → Prop} {Q : Exit → Act → World → Prop} {v : Value} {w' : World} (hd : Does P a.eval o w v w') (h : next (a.put o.dst v) w') : o.wpIn (Fw rd) 0 P a w next Q := by
  unfold Oper.wpIn
  refine ⟨fun _ _ => trivial, ?_⟩
  rw [Oper.semAt_eq _ _ _ (does_run hd)]
  rcases hd with hd | ⟨hd, rfl⟩
  · rw [hd]; exact h
  · rw [hd]; exact h

theorem resE_elim (hk : Knows w0 (den H B) w) {f : St → ResE} {Q : ResE → Prop} (h0 : ¬ Q none) (h : ∀ N, good B H N → Q (f N)) :
    f (stW w) ≠ none := fun e => h0 (e ▸ h _ (good_of hk))
theorem call_sound (hG : SoundG P w0 B G) {o : Oper} {c : Call} {f : Operand} (ho : o.op = .call c) (hc : c.callee = .value f) {ds : List Deferred} {Q : ResE → Prop} (h0 : ¬ Q none) (hk : Knows w0 (den H B) w)
    (hQ : ∀ N, good B H N → Q (callV G H N (ev t f) (evs t c.args.toList)))
    {next : Act → World → Prop} {Qx : Exit → Act → World → Prop} (hn : ∀ v H' w', KeepD w w' → Knows w0 (den H' B) w' → (∀ N', good B H' N' → Q (some (.ret v, H', N'))) → next (Act.mk (putT t o.dst v).toArray ds) w')
    (hp : ∀ v H' w', KeepD w w' → Knows w0 (den H' B) w' → (∀ N', good B H' N' → Q (some (.pan v, H', N'))) → Qx (.panic [{ v, recovered := false }]) (Act.mk t.toArray ds) w') :
    o.wpIn (Fw rd) 0 P (Act.mk t.toArray ds) w next Qx := by
  have hne := resE_elim (f := fun N => callV G H N (ev t f) (evs t c.args.toList)) hk h0 hQ
  have hnd : ∀ c', o.op ≠ .defer c' := fun c' h => by rw [ho] at h; cases h
  unfold Oper.wpIn
  refine ⟨fun _ _ => trivial, ?_⟩
  rw [Oper.semAt_eq _ _ _ hnd]
  have hev : (Act.mk t.toArray ds).eval = ev t := funext (eval_eq t ds)
  unfold callV at hne
  split at hne
  · rename_i k first cap hf
    rcases hG.f k with hnone | ⟨hent, hsound⟩
    · exact (hne (hnone _ _ _)).elim
    · have hq : ∀ N, good B H N → Q (G.f k (first.toList ++ evs t c.args.toList ++ cap.toList) H N) := fun N hN => by
        have := hQ N hN
        simpa only [callV, hf] using this
      have hcall := hsound H _ Q w h0 hq hk
      have hrun : (execOp (Act.mk t.toArray ds).eval o).run P w = .ok (.enter k (first ++ c.args.map (Act.mk t.toArray ds).eval ++ cap)) w := by
        obtain ⟨callee, cargs, ts⟩ := c
        simp only at hc
        subst hc
        simp only [execOp, ho, resolve, eval_eq, hf, Deferred.ofValue, Sem.run_bind, Sem.run_pure, Result.andThen_ok, invoke]
        exact hent _ _
      rw [hrun, Oper.uponIn_enter]
      have hargs : first ++ c.args.map (Act.mk t.toArray ds).eval ++ cap = (first.toList ++ evs t c.args.toList ++ cap.toList).toArray := by
        apply Array.ext'
        simp [hev, evs_map]
      rw [hargs]
      refine ⟨noDepth, (callsIn_Fw hcall).mono fun e w' ⟨x, H', he, hd, hk', hq'⟩ => ?_⟩
      subst he
      cases x with
      | ret v =>
        show next _ w'
        rw [put_eq]
        exact hn v H' w' hd hk' hq'
      | pan v => exact hp v H' w' hd hk' hq'
  · rename_i l first cap hf
    rcases hG.y l with hnone | hsound
    · exact (hne (hnone _ _ _)).elim
    · have hq : ∀ N, good B H N → Q (G.y l (first.toList ++ evs t c.args.toList) H N) := fun N hN => by
        have := hQ N hN
        simpa only [callV, hf] using this
      obtain ⟨f', tmps, as, bd, hyr, hround⟩ := hsound H _ Q w h0 hq hk
      have hargs : first ++ c.args.map (Act.mk t.toArray ds).eval = (first.toList ++ evs t c.args.toList).toArray := by
        apply Array.ext'
        simp [hev, evs_map]
      have hrun : (execOp (Act.mk t.toArray ds).eval o).run P w = .ok (.round l f' tmps as bd) w := by
        obtain ⟨callee, cargs, ts⟩ := c
        simp only at hc
        subst hc
        simp only at hargs
        simp only [execOp, ho, resolve, eval_eq, hf, Deferred.ofValue, Sem.run_bind, Sem.run_pure, Result.andThen_ok, invoke, hargs]
        exact hyr
      rw [hrun, Oper.uponIn_round]
      refine ⟨noDepth, (roundIn_Fw hround).mono fun e w' ⟨x, H', he, hd, hk', hq'⟩ => ?_⟩
      subst he
      cases x with
      | ret v =>
        show next _ w'
        rw [put_eq]
        exact hn v H' w' hd hk' hq'
      | pan v => exact hp v H' w' hd hk' hq'
  · exact (hne rfl).elim

theorem callO_call {f : Operand} {args : List Operand} {N : St} (hk : ∀ v, f ≠ .const v) : callO G t H N f args = callV G H N (ev t f) (evs t args) := by
  cases f <;> first | rfl | exact (hk _ rfl).elim
theorem mrowM_shape (P : Program) (t : TypeId) (m : Method) : mrowM P t m = [] ∨ ∃ k d, mrowM P t m = [.pointer (some ⟨t, k, none⟩), d] := by
  unfold mrowM
  repeat' split
  all_goals first | exact .inl rfl | exact .inr ⟨_, _, rfl⟩
theorem mrow_shape (P : Program) (m : String) (t : TypeId) : mrow P m t = [] ∨ ∃ k d, mrow P m t = [.pointer (some ⟨t, k, none⟩), d] := by
  unfold mrow
  split
  · split
    · exact mrowM_shape ..
    · exact .inl rfl
  · exact .inl rfl
theorem invT_rows {m : String} {t : TypeId} {v r : Value} {k : Nat} : ∀ {ts : List Nat}, invT t (ts.flatMap (mrow P m)) v = some (k, r) → ∃ k' d, mrow P m t = [.pointer (some ⟨t, k', none⟩), d] ∧ recvT k' d v = some (k, r)
  | [], h => by simp [invT] at h
  | a :: ts, h => by
    simp only [List.flatMap_cons] at h
    rcases mrow_shape P m a with e | ⟨k', d, e⟩
    · rw [e] at h; exact invT_rows h
    · rw [e] at h
      simp only [List.cons_append, List.nil_append, invT] at h
      by_cases ht : a = t
      · subst ht
        simp only [beq_self_eq_true, cond_true] at h
        exact ⟨k', d, e, h⟩
      · have : (a == t) = false := by simpa using ht
        simp only [this, cond_false] at h
        exact invT_rows h
theorem method_run {m : String} {t : TypeId} {v r d : Value} {k k' n : Nat} (he : mrow P m t = [.pointer (some ⟨t, k', none⟩), d]) (hr : recvT k' d v = some (k, r)) : (method (n + 1) t v m).run P w = .ok (k, r) w := by
  unfold mrow at he
  split at he
  · rename_i info hi
    have hti : (typeInfo t).run P w = .ok info w := by simp [typeInfo, hi]
    split at he
    · rename_i mm hm
      have hm' : info.methods.find? (·.name == m) = some mm := by rw [← hm]; simp
      unfold mrowM at he
      split at he
      · rename_i k0 hf
        split at he
        · rename_i hp
          split at he
          · rename_i e hu
            simp only [List.cons.injEq, Value.pointer.injEq, Option.some.injEq, Addr.mk.injEq, and_true, true_and] at he
            obtain ⟨rfl, rfl⟩ := he
            simp only [recvT, Option.some.injEq, Prod.mk.injEq] at hr
            obtain ⟨rfl, rfl⟩ := hr
            have hpe : mm.path = #[] := by apply Array.ext'; simpa using hp
            simp [method, hti, hm', hpe, follow, hf, receiverAt, run_underlying hu, Place.get]
          · cases he
        · rename_i s hp
          split at he
          · rename_i hd
            split at he
            · rename_i fields hu
              split at he
              · rename_i f hfi
                split at he
                · cases he
                · rename_i ud sz hnp hud hsz
                  simp only [List.cons.injEq, Value.pointer.injEq, Option.some.injEq, Addr.mk.injEq, and_true, true_and] at he
                  obtain ⟨rfl, rfl⟩ := he
                  unfold recvT at hr
                  split at hr
                  · rename_i hq; cases hq
                  · rename_i off b o hq
                    cases hq
                    simp only [Option.some.injEq, Prod.mk.injEq] at hr
                    obtain ⟨rfl, rfl⟩ := hr
                    have hrc : ∀ wr, (receiverAt f.type (.var ⟨b, o + f.offset, none⟩) true wr).run P w = .ok (.pointer (some ⟨b, o + f.offset, none⟩)) w := by
                      intro wr
                      unfold receiverAt
                      simp only [Sem.run_bind, run_underlying hud, Result.andThen_ok]
                      cases ud <;> first | rfl | exact (hnp _ hud).elim
                    have hof : (if f.offset = 0 then (⟨b, o, none⟩ : Addr) else ⟨b, o + f.offset, none⟩) = ⟨b, o + f.offset, none⟩ := by
                      split
                      · rename_i h; rw [h]; rfl
                      · rfl
                    simp [hof, method, hti, hm', hp, follow, hd, run_underlying hu, hfi, Place.get, asAddr, fieldPlace, run_sizeOf hsz, Addr.add, hf, hrc]
                  · cases hr
                · cases he
              · cases he
            · cases he
          · cases he
        · cases he
      · cases he
    · cases he
  · cases he
theorem mrow_lt {m : String} {t : TypeId} {x : Value} {l : List Value} (h : mrow P m t = x :: l) : ∃ n, P.types.size + Made.depth = n + 1 := by
  exact ⟨P.types.size + Made.depth - 1, by have : 0 < Made.depth := by decide
                                           omega⟩
theorem inv_sound (hG : SoundG P w0 B G) {o : Oper} {c : Call} {rc : Operand} {m : String} (ho : o.op = .call c) (hc : c.callee = .invoke rc m) {ds : List Deferred} {Q : ResE → Prop} (h0 : ¬ Q none) (hk : Knows w0 (den H B) w)
    (hQ : ∀ N, good B H N → Q (invV G H N (mrows P m) (ev t rc) (evs t c.args.toList)))
    {next : Act → World → Prop} {Qx : Exit → Act → World → Prop} (hn : ∀ v H' w', KeepD w w' → Knows w0 (den H' B) w' → (∀ N', good B H' N' → Q (some (.ret v, H', N'))) → next (Act.mk (putT t o.dst v).toArray ds) w')
    (hp : ∀ v H' w', KeepD w w' → Knows w0 (den H' B) w' → (∀ N', good B H' N' → Q (some (.pan v, H', N'))) → Qx (.panic [{ v, recovered := false }]) (Act.mk t.toArray ds) w') :
    o.wpIn (Fw rd) 0 P (Act.mk t.toArray ds) w next Qx := by
  have hne := resE_elim (f := fun N => invV G H N (mrows P m) (ev t rc) (evs t c.args.toList)) hk h0 hQ
  have hnd : ∀ c', o.op ≠ .defer c' := fun c' h => by rw [ho] at h; cases h
  unfold Oper.wpIn
  refine ⟨fun _ _ => trivial, ?_⟩
  rw [Oper.semAt_eq _ _ _ hnd]
  have hev : (Act.mk t.toArray ds).eval = ev t := funext (eval_eq t ds)
  unfold invV at hne
  split at hne
  · rename_i ty u hf
    unfold invC at hne
    split at hne
    · rename_i k r hinv
      rcases hG.f k with hnone | ⟨hent, hsound⟩
      · exact (hne (hnone _ _ _)).elim
      · have hq : ∀ N, good B H N → Q (G.f k (r :: evs t c.args.toList) H N) := fun N hN => by
          have := hQ N hN
          simpa only [invV, hf, invC, hinv] using this
        have hcall := hsound H _ Q w h0 hq hk
        obtain ⟨k', d, he, hr⟩ := invT_rows hinv
        obtain ⟨n, hn'⟩ := mrow_lt he
        have hrun : (execOp (Act.mk t.toArray ds).eval o).run P w = .ok (.enter k (#[r] ++ c.args.map (Act.mk t.toArray ds).eval)) w := by
          obtain ⟨callee, cargs, ts⟩ := c
          simp only at hc
          subst hc
          have hmr : (method (P.types.size + Made.depth) ty u m).run P w = .ok (k, r) w := by rw [hn']; exact method_run he hr
          have hex : ∀ as : Array Value, (#[Value.iface ty u] ++ as).extract 1 (#[Value.iface ty u] ++ as).size = as := by
            intro as
            apply Array.ext'
            simp
          simp only [execOp, ho, resolve, eval_eq, hf, Sem.run_bind, Sem.run_pure, Result.andThen_ok, invoke]
          have h0' : (#[Value.iface ty u] ++ cargs.map (Act.mk t.toArray ds).eval)[0]? = some (Value.iface ty u) := by rw [Array.getElem?_append_left (by simp)]; rfl
          simp only [h0', hex, callMethod, Sem.run_bind, run_program, Result.andThen_ok, hmr]
          exact hent _ _
        rw [hrun, Oper.uponIn_enter]
        have hargs : #[r] ++ c.args.map (Act.mk t.toArray ds).eval = (r :: evs t c.args.toList).toArray := by
          apply Array.ext'
          simp [hev, evs_map]
        rw [hargs]
        refine ⟨noDepth, (callsIn_Fw hcall).mono fun e w' ⟨x, H', he, hd, hk', hq'⟩ => ?_⟩
        subst he
        cases x with
        | ret v =>
          show next _ w'
          rw [put_eq]
          exact hn v H' w' hd hk' hq'
        | pan v => exact hp v H' w' hd hk' hq'
    · exact (hne rfl).elim
  · exact (hne rfl).elim

theorem op_sound (hG : SoundG P w0 B G) {o : Oper} {lo : LO} (hlo : lowerOp P o = lo) {ds : List Deferred} {Q : Res → Prop} (h0 : ¬ Q none) (hk : Knows w0 (den H B) w) (hQ : ∀ N, good B H N → Q (stepOp B G ⟨t, H, N⟩ lo))
    {next : Act → World → Prop} {Qx : Exit → Act → World → Prop} (hn : ∀ v H' w', KeepD w w' → Knows w0 (den H' B) w' → (∀ N', good B H' N' → Q (some (v, H', N'))) → next (Act.mk (putT t o.dst v).toArray ds) w') :
    o.wpIn (Fw rd) 0 P (Act.mk t.toArray ds) w next Qx := by
  rcases isCall_or P o with hs | ⟨x, _, hl⟩ | ⟨c, f, ho, hc, hkf, hl⟩ | ⟨c, r, m, ho, hc, hl⟩
  · rw [hlo] at hs
    obtain ⟨v, w', H', hd, hkd, hk', hq⟩ := hs w0 w B H t G (Act.mk t.toArray ds).eval Q (eval_eq t ds) hk h0 hQ
    exact upon_does hd (by rw [put_eq]; exact hn v H' w' hkd hk' hq)
  · rw [hl] at hlo
    subst hlo
    exact (h0 (hQ _ (good_of hk))).elim
  · rw [hl] at hlo
    subst hlo
    refine call_sound hG ho hc (Q := fun r => Q (onlyR r)) h0 hk (fun N hN => by have := hQ N hN; simpa only [stepOp, callO_call hkf] using this) hn ?_
    intro v H' w' _ hk' hq
    exact (h0 (hq _ (good_of hk'))).elim
  · rw [hl] at hlo
    subst hlo
    refine inv_sound hG ho hc (Q := fun r => Q (onlyR r)) h0 hk hQ hn ?_
    intro v H' w' _ hk' hq
    exact (h0 (hq _ (good_of hk'))).elim
def LO.plain : LO → Prop
  | .call _ _ => False
  | .pan _ => False
  | _ => True
theorem lowerBin_plain (op : BinOp) (ty : TypeId) (x y : Operand) : (lowerBin P op ty x y).plain := by
  cases op <;> simp only [lowerBin] <;> first | trivial | (split <;> first | trivial | (split <;> first | trivial | (split <;> trivial)))
theorem lower_kind (P : Program) (o : Oper) : (lowerOp P o).plain ∨ (∃ x, o.op = .panic x ∧ lowerOp P o = .pan x) ∨ (∃ c f, o.op = .call c ∧ c.callee = .value f ∧ (∀ v, f ≠ .const v) ∧ lowerOp P o = .call f c.args.toList) ∨ ∃ c r m, o.op = .call c ∧ c.callee = .invoke r m ∧ lowerOp P o = .call (.const (.tuple (mrows P m).toArray)) (r :: c.args.toList) := by
  cases ho : o.op with
  | call c =>
    cases hc : c.callee with
    | value f =>
      by_cases hk : ∃ v, f = .const v
      · obtain ⟨v, rfl⟩ := hk
        left; simp only [lowerOp, ho, hc]; trivial
      · have hk' : ∀ v, f ≠ .const v := fun v e => hk ⟨v, e⟩
        have hl : lowerOp P o = (match extOf P f with
          | none => .call f c.args.toList
          | some b => (match c.args.toList with | [x] => .fbits b x | _ => .bad)) := by
          simp only [lowerOp, ho, hc]
          cases f <;> first | rfl | exact (hk' _ rfl).elim
        cases hx : extOf P f with
        | none => exact .inr (.inr (.inl ⟨c, f, rfl, hc, hk', by rw [hl, hx]⟩))
        | some b =>
          left
          rw [hl, hx]
          simp only
          split <;> trivial
    | invoke r m => exact .inr (.inr (.inr ⟨c, r, m, rfl, hc, by simp only [lowerOp, ho, hc]⟩))
    | builtin b =>
      left
      simp only [lowerOp, ho, hc]
      cases b <;> simp only [lowerBI] <;> first | trivial | (repeat' (first | trivial | split))
  | panic x => exact .inr (.inl ⟨x, rfl, by simp [lowerOp, ho]⟩)
  | binOp op ty x y u => left; simp only [lowerOp, ho]; exact lowerBin_plain op ty x y
  | typeAssert x a b c =>
    left
    cases c with
    | false => simp only [lowerOp, ho]; trivial
    | true => simp only [lowerOp, ho]; repeat' (first | trivial | split)
  | _ => left; simp only [lowerOp, ho]; first | trivial | (repeat' (first | trivial | split))
theorem opE_sound (hG : SoundG P w0 B G) {o : Oper} {lo : LO} (hlo : lowerOp P o = lo) {ds : List Deferred} {Q : ResE → Prop} (h0 : ¬ Q none) (hk : Knows w0 (den H B) w) (hQ : ∀ N, good B H N → Q (stepE B G ⟨t, H, N⟩ lo))
    {next : Act → World → Prop} {Qx : Exit → Act → World → Prop} (hn : ∀ v H' w', KeepD w w' → Knows w0 (den H' B) w' → (∀ N', good B H' N' → Q (some (.ret v, H', N'))) → next (Act.mk (putT t o.dst v).toArray ds) w')
    (hp : ∀ v H' w', KeepD w w' → Knows w0 (den H' B) w' → (∀ N', good B H' N' → Q (some (.pan v, H', N'))) → Qx (.panic [{ v, recovered := false }]) (Act.mk t.toArray ds) w') :
    o.wpIn (Fw rd) 0 P (Act.mk t.toArray ds) w next Qx := by
  rcases lower_kind P o with hpl | ⟨x, ho, hl⟩ | ⟨c, f, ho, hc, hkf, hl⟩ | ⟨c, r, m, ho, hc, hl⟩
  · rw [hlo] at hpl
    have hs : Sound P o lo := by
      rcases isCall_or P o with hs | ⟨x, ho, hl⟩ | ⟨c, f, ho, hc, hkf, hl⟩ | ⟨c, r, m, ho, hc, hl⟩
      · rw [hlo] at hs; exact hs
      · rw [hl] at hlo; subst hlo; exact hpl.elim
      · rw [hl] at hlo; subst hlo; exact hpl.elim
      · rw [hl] at hlo; subst hlo; exact hpl.elim
    have hst : ∀ s, stepE B G s lo = rv (stepOp B G s lo) := by
      intro s
      cases lo <;> first | rfl | exact hpl.elim
    obtain ⟨v, w', H', hd, hkd, hk', hq⟩ := hs w0 w B H t G (Act.mk t.toArray ds).eval (fun r => Q (rv r)) (eval_eq t ds) hk h0 (fun N hN => by have := hQ N hN; rw [hst] at this; exact this)
    exact upon_does hd (by rw [put_eq]; exact hn v H' w' hkd hk' hq)
  · rw [hl] at hlo
    subst hlo
    have hne := resE_elim (f := fun N => panE H N (ev t x)) hk h0 hQ
    unfold panE at hne
    split at hne
    · rename_i ty u he
      have hrun : (execOp (Act.mk t.toArray ds).eval o).run P w = .halt (.panic (.iface ty u)) w := by
        simp only [execOp, ho, eval_eq, he]
        rfl
      unfold Oper.wpIn
      refine ⟨fun _ _ => trivial, ?_⟩
      rw [Oper.semAt_eq _ _ _ (fun c' h => by rw [ho] at h; cases h), hrun]
      exact hp _ H w (.refl w) hk fun N hN => by have := hQ N hN; simpa only [stepE, panE, he] using this
    · exact (hne rfl).elim
  · rw [hl] at hlo
    subst hlo
    exact call_sound hG ho hc h0 hk (fun N hN => by have := hQ N hN; simpa only [stepE, callO_call hkf] using this) hn hp
  · rw [hl] at hlo
    subst hlo
    exact inv_sound hG ho hc h0 hk hQ hn hp

def X.exit' : X → Exit
  | .normal => .normal
  | .ret => .ret
  | .exit id => .exit id
  | .pan v => .panic [{ v, recovered := false }]
def marksD (ms : List Nat) (ds : List Deferred) : List Deferred := ms.map (fun r => { target := .collected r, args := #[] }) ++ ds
def MarksOk (w wn : World) (ms : List Nat) : Prop := ms.Nodup ∧ ∀ r ∈ ms, w.heap.size ≤ r ∧ wn.heap[r]? = some (.deferred (some []))
theorem MarksOk.keep {w w1 w2 : World} {ms : List Nat} (h : MarksOk w w1 ms) (hk : KeepD w1 w2) : MarksOk w w2 ms := ⟨h.1, fun r hr => ⟨(h.2 r hr).1, hk.2 _ _ (h.2 r hr).2⟩⟩
theorem MarksOk.app {w w1 w2 : World} {ms ms' : List Nat} (h : MarksOk w w1 ms) (h' : MarksOk w1 w2 ms') (hk : KeepD w w1) (hk2 : KeepD w1 w2) : MarksOk w w2 (ms' ++ ms) := by
  refine ⟨List.nodup_append.2 ⟨h'.1, h.1, fun a ha b hb e => ?_⟩, fun r hr => ?_⟩
  · subst e
    have h1 := (h'.2 a ha).1
    have h2 := (h.2 a hb).2
    rw [Array.getElem?_eq_none h1] at h2
    cases h2
  · rcases List.mem_append.1 hr with hr | hr
    · exact ⟨Nat.le_trans hk.1 (h'.2 r hr).1, (h'.2 r hr).2⟩
    · exact (h.keep hk2).2 r hr
theorem MarksOk.nil (w wn : World) : MarksOk w wn [] := ⟨List.nodup_nil, fun _ h => by cases h⟩
def Post (w0 : World) (B : OH) (keep : List Tmp) (ds : List Deferred) (Q : Out → Prop) (wb : World) (fb : Bool) : Exit → Act → World → Prop :=
  fun e a w => ∃ x t ta H ms, e = X.exit' x ∧ a = Act.mk ta.toArray (marksD ms ds) ∧ ((∀ v, x ≠ .pan v) → ta = t) ∧ (∀ i ∈ keep, gt ta i = gt t i) ∧ KeepD wb w ∧ MarksOk wb w ms ∧ (fb = true → ms = []) ∧ Knows w0 (den H B) w ∧ ∀ N, good B H N → Q (some (x, ⟨t, H, N⟩))
theorem Post.mk {wb : World} {fb : Bool} {keep : List Tmp} {ds : List Deferred} {Q : Out → Prop} (x : X) (hd : KeepD wb w) (hk : Knows w0 (den H B) w) (hq : ∀ N, good B H N → Q (some (x, ⟨t, H, N⟩))) : Post w0 B keep ds Q wb fb (X.exit' x) (Act.mk t.toArray ds) w :=
  ⟨x, t, t, H, [], rfl, rfl, fun _ => rfl, fun _ _ => rfl, hd, .nil _ _, fun _ => rfl, hk, hq⟩
theorem exOps_sound {keep : List Tmp} (hG : SoundG P w0 B G) {all : List Oper} {ds : List Deferred} {Q : Out → Prop} (h0 : ¬ Q none) {wb : World} {fb : Bool} :
    ∀ (l : List Oper) (ll : List LOp) (t : List Value) (H : HL) (w : World), lowerOps P all l = some ll → KeepD wb w → Knows w0 (den H B) w → (∀ N, good B H N → Q (exOps B G ll (some (.normal, ⟨t, H, N⟩)))) →
      wpListIn (Fw rd) 0 P all.toArray (Post w0 B keep ds Q wb fb) l (Act.mk t.toArray ds) w
  | [], ll, t, H, w, hl, hd, hk, hQ => by
    simp only [lowerOps, Option.some.injEq] at hl
    subst hl
    exact Post.mk .normal hd hk hQ
  | o :: l, ll, t, H, w, hl, hd, hk, hQ => by
    simp only [lowerOps] at hl
    split at hl
    · rename_i g r hg hr
      simp only [Option.some.injEq] at hl
      subst hl
      unfold wpListIn
      rw [wanted_eq hg t]
      cases hw : wantG t g with
      | true =>
        rw [if_pos rfl]
        refine opE_sound hG (lo := lowerOp P o) rfl (Q := fun res => Q (exOps B G r (putE t o.dst res))) ?_ hk ?_ ?_ ?_
        · have : exOps B G r (putE t o.dst none) = none := by cases r <;> rfl
          rw [this]; exact h0
        · intro N hN
          have := hQ N hN
          simpa [exOps, stepX, hw] using this
        · intro v H' w' hd' hk' hq
          exact exOps_sound (keep := keep) hG h0 l r _ H' w' hr (hd.trans hd') hk' hq
        · intro v H' w' hd' hk' hq
          refine Post.mk (.pan v) (hd.trans hd') hk' fun N hN => ?_
          have := hq N hN
          have he : exOps B G r (putE t o.dst (some (.pan v, H', N))) = some (.pan v, ⟨t, H', N⟩) := by cases r <;> rfl
          rw [he] at this
          exact this
      | false =>
        rw [if_neg (by simp), put_eq]
        refine ⟨fun _ _ => trivial, exOps_sound (keep := keep) hG h0 l r _ H w hr hd hk fun N hN => ?_⟩
        have := hQ N hN
        simpa [exOps, stepX, hw, putE] using this
    · cases hl

end Go.Proofs.YtbpaekbjpapgeaaGreatDoor.K
namespace Go.Proofs.YtbpaekbjpapgeaaGreatDoor.K
variable {P : Program} {w0 w : World} {B : OH} {H : HL} {t : List Value} {G : Env}

theorem gt_st (l : List Value) (i j : Nat) (v : Value) : gt (st l i v) j = if i = j then (if i < l.length then v else undef) else gt l j := by
  induction l generalizing i j with
  | nil => simp [st, gt]
  | cons x l ih => cases i with
    | zero => cases j <;> simp [st, gt]
    | succ i => cases j with
      | zero => simp [st, gt]
      | succ j => simp only [st, gt, ih, Nat.add_right_cancel_iff, List.length_cons, Nat.add_lt_add_iff_right]
theorem length_st (l : List Value) (i : Nat) (v : Value) : (st l i v).length = l.length := by
  induction l generalizing i with
  | nil => rfl
  | cons x l ih => cases i <;> simp [st, ih]
theorem ext_gt : ∀ {l m : List Value}, l.length = m.length → (∀ i, gt l i = gt m i) → l = m
  | [], [], _, _ => rfl
  | [], _ :: _, h, _ => by cases h
  | _ :: _, [], h, _ => by cases h
  | x :: l, y :: m, h, hg => by
    have h0 := hg 0
    simp only [gt] at h0
    have h1 : l = m := ext_gt (by simpa using h) (fun i => by simpa only [gt] using hg (i + 1))
    rw [h0, h1]

theorem oT_congr {t t' : List Value} {x : Operand} (h : ∀ i ∈ oT x, gt t i = gt t' i) : ev t x = ev t' x := by
  cases x <;> simp_all [oT, ev]
theorem evs_congr {t t' : List Value} : ∀ {l : List Operand}, (∀ i ∈ oTs l, gt t i = gt t' i) → evs t l = evs t' l
  | [], _ => rfl
  | x :: l, h => by
    simp only [oTs, List.mem_append] at h
    have e1 : ev t x = ev t' x := oT_congr fun i hi => h i (.inl hi)
    have e2 : evs t l = evs t' l := evs_congr fun i hi => h i (.inr hi)
    simp only [evs, e1, e2]
theorem fillV_congr {t t' : List Value} : ∀ {l : List (Nat × Nat × Operand)} {z : Option (List Value)}, (∀ i ∈ pTs l, gt t i = gt t' i) → fillV t l z = fillV t' l z
  | [], _, _ => rfl
  | (o, n, x) :: l, z, h => by
    simp only [pTs, List.mem_append] at h
    cases z with
    | none => rfl
    | some z =>
      have e1 : ev t x = ev t' x := oT_congr (fun i hi => h i (.inl hi))
      have e2 : ∀ z, fillV t l z = fillV t' l z := fun z => fillV_congr (fun i hi => h i (.inr hi))
      simp only [fillV, e1, e2]
theorem wantG_congr {t t' : List Value} {g : Option (Tmp × Bool)} (h : ∀ i ∈ gT g, gt t i = gt t' i) : wantG t g = wantG t' g := by
  cases g with
  | none => rfl
  | some x => obtain ⟨j, b⟩ := x; simp [wantG, h j (by simp [gT])]
theorem qT_congr {t t' : List Value} {x : Option Operand} (h : ∀ i ∈ qT x, gt t i = gt t' i) : optE t x = optE t' x := by
  cases x with
  | none => rfl
  | some x => simp only [optE, oT_congr (x := x) h]
theorem callO_congr {t t' : List Value} {H : HL} {N : St} {f : Operand} {args : List Operand} (h : ∀ i, i ∈ oT f ∨ i ∈ oTs args → gt t i = gt t' i) : callO G t H N f args = callO G t' H N f args := by
  have e1 : ev t f = ev t' f := oT_congr fun i hi => h i (.inl hi)
  have e2 : evs t args = evs t' args := evs_congr fun i hi => h i (.inr hi)
  cases f with
  | const v =>
    cases args with
    | nil => cases v <;> rfl
    | cons r args =>
      simp only [evs, List.cons.injEq] at e2
      cases v <;> first | rfl | (simp only [callO, e2.1, e2.2])
  | _ => simp only [callO, e1, e2]
theorem stepOp_congr {t t' : List Value} {H : HL} {N : St} {lo : LO} (h : ∀ i ∈ lo.tmps, gt t i = gt t' i) : stepOp B G ⟨t, H, N⟩ lo = stepOp B G ⟨t', H, N⟩ lo := by
  cases lo <;> simp only [LO.tmps, List.mem_append] at h <;> simp only [stepOp]
  case mv x => rw [oT_congr h]
  case pick c a b => rw [oT_congr fun i hi => h i (.inl hi), oT_congr fun i hi => h i (.inr (.inl hi)), oT_congr fun i hi => h i (.inr (.inr hi))]
  case box x => rw [oT_congr h]
  case build z ps => rw [fillV_congr h]
  case buildS z n ps => rw [fillV_congr h]
  case load g n x => rw [oT_congr h]
  case store n a x => rw [oT_congr fun i hi => h i (.inl hi), oT_congr fun i hi => h i (.inr hi)]
  case nilck x => rw [oT_congr h]
  case bin op x y => rw [oT_congr fun i hi => h i (.inl hi), oT_congr fun i hi => h i (.inr hi)]
  case eqb n x y => rw [oT_congr fun i hi => h i (.inl hi), oT_congr fun i hi => h i (.inr hi)]
  case eqA n ls x y => rw [oT_congr fun i hi => h i (.inl hi), oT_congr fun i hi => h i (.inr hi)]
  case eqp n x y => rw [oT_congr fun i hi => h i (.inl hi), oT_congr fun i hi => h i (.inr hi)]
  case eqs n x y => rw [oT_congr fun i hi => h i (.inl hi), oT_congr fun i hi => h i (.inr hi)]
  case appZ z n x y => rw [oT_congr fun i hi => h i (.inl hi), oT_congr fun i hi => h i (.inr hi)]
  case cpy n x y => rw [oT_congr fun i hi => h i (.inl hi), oT_congr fun i hi => h i (.inr hi)]
  case eqf n x y => rw [oT_congr fun i hi => h i (.inl hi), oT_congr fun i hi => h i (.inr hi)]
  case feq n x y => rw [oT_congr fun i hi => h i (.inl hi), oT_congr fun i hi => h i (.inr hi)]
  case cap x => rw [oT_congr h]
  case fbits b x => rw [oT_congr h]
  case un op x => rw [oT_congr h]
  case conv k x => rw [oT_congr h]
  case field g off n x => rw [oT_congr h]
  case idxA g es len x i => rw [oT_congr fun i hi => h i (.inl hi), oT_congr fun i hi => h i (.inr hi)]
  case faddr off x => rw [oT_congr h]
  case mlook kd z ok m i => rw [oT_congr fun i hi => h i (.inl hi), oT_congr fun i hi => h i (.inr hi)]
  case mdel kd m i => rw [oT_congr fun i hi => h i (.inl hi), oT_congr fun i hi => h i (.inr hi)]
  case mupd kd m i x => rw [oT_congr fun i hi => h i (.inl hi), oT_congr fun i hi => h i (.inr (.inl hi)), oT_congr fun i hi => h i (.inr (.inr hi))]
  case iaddrS es x i => rw [oT_congr fun i hi => h i (.inl hi), oT_congr fun i hi => h i (.inr hi)]
  case iaddrA es len x i => rw [oT_congr fun i hi => h i (.inl hi), oT_congr fun i hi => h i (.inr hi)]
  case ext x i => rw [oT_congr h]
  case len s x => rw [oT_congr h]
  case mm mx xs => rw [evs_congr h]
  case call f args => rw [callO_congr h]
  case ifc ty x => rw [oT_congr h]
  case fn f a b => rw [evs_congr fun i hi => h i (.inl hi), evs_congr fun i hi => h i (.inr hi)]
  case slc es x lo hi mx => rw [oT_congr fun i hi => h i (.inl hi), qT_congr fun i hi => h i (.inr (.inl hi)), qT_congr fun i hi => h i (.inr (.inr (.inl hi))), qT_congr fun i hi => h i (.inr (.inr (.inr hi)))]
  case slcA es n x lo hi mx => rw [oT_congr fun i hi => h i (.inl hi), qT_congr fun i hi => h i (.inr (.inl hi)), qT_congr fun i hi => h i (.inr (.inr (.inl hi))), qT_congr fun i hi => h i (.inr (.inr (.inr hi)))]
  case slcT x lo hi => rw [oT_congr fun i hi => h i (.inl hi), qT_congr fun i hi => h i (.inr (.inl hi)), qT_congr fun i hi => h i (.inr (.inr hi))]
  case tass ty z x => rw [oT_congr h]
  case isn n x => rw [oT_congr h]
  case mks z b x y => rw [oT_congr fun i hi => h i (.inl hi), oT_congr fun i hi => h i (.inr hi)]
  case app z b x y => rw [oT_congr fun i hi => h i (.inl hi), oT_congr fun i hi => h i (.inr hi)]

theorem stepE_congr {t t' : List Value} {H : HL} {N : St} {lo : LO} (h : ∀ i ∈ lo.tmps, gt t i = gt t' i) : stepE B G ⟨t, H, N⟩ lo = stepE B G ⟨t', H, N⟩ lo := by
  by_cases hc : (∃ f args, lo = .call f args) ∨ ∃ x, lo = .pan x
  · rcases hc with ⟨f, args, rfl⟩ | ⟨x, rfl⟩
    · simp only [LO.tmps, List.mem_append] at h
      simp only [stepE]
      exact callO_congr h
    · simp only [LO.tmps] at h
      simp only [stepE]
      rw [oT_congr h]
  · have hp : ∀ s, stepE B G s lo = rv (stepOp B G s lo) := by
      intro s
      cases lo <;> first | rfl | exact (hc (.inl ⟨_, _, rfl⟩)).elim | exact (hc (.inr ⟨_, rfl⟩)).elim
    rw [hp, hp, stepOp_congr h]
theorem light_step {s : S} {lo : LO} (h : isLight lo = true) : stepOp B G s lo = pv (lightV B s.t s.H lo) s.H s.N := by
  cases lo <;> first | rfl | (simp [isLight] at h)
theorem light_congr {t t' : List Value} {H : HL} {lo : LO} (hl : isLight lo = true) (h : ∀ i ∈ lo.tmps, gt t i = gt t' i) : lightV B t H lo = lightV B t' H lo := by
  have h1 := light_step (B := B) (G := { f := fun _ _ _ _ => none }) (s := ⟨t, H, ⟨fun i => i, fun i => i, fun _ => true, fun _ => default⟩⟩) hl
  have h2 := light_step (B := B) (G := { f := fun _ _ _ _ => none }) (s := ⟨t', H, ⟨fun i => i, fun i => i, fun _ => true, fun _ => default⟩⟩) hl
  rw [stepOp_congr h, h2] at h1
  cases e1 : lightV B t H lo <;> cases e2 : lightV B t' H lo <;> simp_all [pv]
theorem light_pure {t : List Value} {H H' : HL} {lo : LO} (hr : isRead lo = false) : lightV B t H lo = lightV B t H' lo := by
  cases lo <;> first | rfl | (simp [isRead] at hr)

theorem light_sound {rd : Option Nat} (hG : SoundG P w0 B G) {o : Oper} {lo : LO} (hlo : lowerOp P o = lo) {ds : List Deferred} {v : Value} (hl : isLight lo = true) (hk : Knows w0 (den H B) w) (hv : lightV B t H lo = some v)
    {next : Act → World → Prop} {Qx : Exit → Act → World → Prop} (hn : ∀ w', KeepD w w' → Knows w0 (den H B) w' → next (Act.mk (putT t o.dst v).toArray ds) w') : o.wpIn (Fw rd) 0 P (Act.mk t.toArray ds) w next Qx := by
  refine op_sound hG hlo (Q := fun r => ∃ N, r = some (v, H, N)) (by simp) hk (fun N hN => ⟨N, by rw [light_step hl, hv]; rfl⟩) ?_
  intro v' H' w' hd' hk' hq
  obtain ⟨N, hN⟩ := hq _ (good_of hk')
  simp only [Option.some.injEq, Prod.mk.injEq] at hN
  obtain ⟨rfl, rfl, _⟩ := hN
  exact hn w' hd' hk'


theorem watch_none {ws : List LOp} : watchS B ws none = none := by cases ws <;> rfl
theorem watch_pan {ws : List LOp} {v : Value} {s : S} : watchS B ws (some (.pan v, s)) = some (.pan v, s) := by cases ws <;> rfl
theorem watch_spec : ∀ {ws : List LOp} {s : S} {s' : X × S}, watchS B ws (some (.normal, s)) = some s' → s' = (.normal, s) ∧ ∀ d op g, ⟨some d, op, g⟩ ∈ ws → wantG s.t g = true → lightV B s.t s.H op = some (gt s.t d)
  | [], s, s', h => by simp only [watchS, Option.some.injEq] at h; exact ⟨h.symm, fun _ _ _ hm => by cases hm⟩
  | ⟨none, op, g⟩ :: ws, s, s', h => by simp [watchS] at h
  | ⟨some d, op, g⟩ :: ws, s, s', h => by
    simp only [watchS] at h
    cases hw : wantG s.t g with
    | false =>
      simp only [hw, cond_false] at h
      obtain ⟨h1, h2⟩ := watch_spec h
      refine ⟨h1, fun d' op' g' hm hw' => ?_⟩
      rcases List.mem_cons.1 hm with e | hm
      · cases e; rw [hw] at hw'; cases hw'
      · exact h2 _ _ _ hm hw'
    | true =>
      simp only [hw, cond_true, eqS] at h
      split at h
      · rename_i hv
        obtain ⟨h1, h2⟩ := watch_spec h
        refine ⟨h1, fun d' op' g' hm hw' => ?_⟩
        rcases List.mem_cons.1 hm with e | hm
        · cases e; exact hv
        · exact h2 _ _ _ hm hw'
      · rw [watch_none] at h; cases h
theorem exDraw_none : ∀ {l : List DOp}, exDraw B G l none = none
  | [] => rfl
  | _ :: _ => rfl
theorem exDraw_pan {v : Value} {s : S} : ∀ {l : List DOp}, exDraw B G l (some (.pan v, s)) = some (.pan v, s)
  | [] => rfl
  | _ :: _ => rfl

structure FitsP (ops : List Oper) (ll : List LOp) (A : Nat → Nat → Bool) (hv : Nat → Bool) (c : List Nat) : Prop where
  len : ll.length = ops.length
  lt : ∀ i ∈ c, i < ops.length
  topo : ∀ u i v, c = u ++ i :: v → i ∉ u ∧ ∀ j ∈ predsOf ops i, j ∈ u
  anc : ∀ i j, A i j = true → ∃ e ∈ predsOf ops i, e = j ∨ (e < i ∧ A e j = true)
  light : ∀ (i : Nat) (o : LOp), hv i = false → ll[i]? = some o → isLight o.op = true ∧ ∃ x, o.dst = some x
  readL : ∀ (i : Nat) (o : LOp) (j : Nat) (o' : LOp) (x : Tmp), hv i = false → ll[i]? = some o → ll[j]? = some o' → o'.dst = some x → x ∈ o.tmps → j ≠ i ∧ (j ∈ predsOf ops i ∨ (hv j = true ∧ (A i j = true ∨ A j i = true)))
  readH : ∀ (i : Nat) (o : LOp) (j : Nat) (o' : LOp) (x : Tmp), hv i = true → ll[i]? = some o → ll[j]? = some o' → o'.dst = some x → x ∈ o.tmps → j = i ∨ j ∈ predsOf ops i ∨ hv j = true ∨ A j i = true
  once : ∀ (i : Nat) (o : LOp) (j : Nat) (o' : LOp) (x : Tmp), ll[i]? = some o → ll[j]? = some o' → o.dst = some x → o'.dst = some x → i = j
structure Fits (ops : List Oper) (ll : List LOp) (A : Nat → Nat → Bool) (hv : Nat → Bool) (c : List Nat) : Prop extends FitsP ops ll A hv c where
  all : ∀ i, i < ops.length → i ∈ c
  after : ∀ u h v, c = u ++ h :: v → hv h = true → ∀ j ∈ v, A j h = true

def On (listed : Array Bool) (i : Nat) : Prop := listed.getD i false = true
theorem on_set {listed : Array Bool} {i j : Nat} (hi : i < listed.size) : On (listed.setIfInBounds i true) j ↔ j = i ∨ On listed j := by
  unfold On
  rw [Array.getD_eq_getD_getElem?, Array.getD_eq_getD_getElem?, Array.getElem?_setIfInBounds]
  by_cases h : i = j
  · subst h; simp [hi]
  · simp [h, Ne.symm h]
theorem anc_on {ops : List Oper} {ll A hv c} (F : FitsP ops ll A hv c) {listed : Array Bool} (hcl : ∀ i, On listed i → ∀ j ∈ predsOf ops i, On listed j) : ∀ (i : Nat), (∀ j ∈ predsOf ops i, On listed j) → ∀ j, A i j = true → On listed j := by
  intro i
  induction i using Nat.strongRecOn with
  | _ i ih =>
    intro hp j hj
    obtain ⟨e, he, hej⟩ := F.anc i j hj
    rcases hej with rfl | ⟨hlt, hej⟩
    · exact hp _ he
    · exact ih e hlt (hcl e (hp e he)) j hej
theorem mem_ready {ops : List Oper} {listed : Array Bool} (hs : listed.size = ops.length) {i : Nat} : i ∈ Region.ready .any ops.toArray listed ↔ i < ops.length ∧ ¬ On listed i ∧ ∀ j ∈ predsOf ops i, On listed j := by
  unfold Region.ready
  simp only [List.mem_filter, List.mem_range, List.size_toArray]
  constructor
  · rintro ⟨h1, h2⟩
    simp only [Bool.and_eq_true, Bool.not_eq_true', List.getElem?_toArray] at h2
    refine ⟨h1, ?_, ?_⟩
    · unfold On
      have : i < listed.size := by omega
      simp [Array.getD, this] at h2 ⊢
      exact h2.1
    · intro j hj
      unfold predsOf at hj
      have ho : ops[i]? = some ops[i] := List.getElem?_eq_getElem h1
      simp only [ho] at hj h2
      simp only [Option.map_some, Option.getD_some] at h2
      obtain ⟨e, he, rfl⟩ := List.mem_map.1 hj
      obtain ⟨he1, he2⟩ := List.mem_filter.1 he
      have := Array.all_eq_true_iff_forall_mem.1 h2.2 e (by simpa using he1)
      rw [he2] at this
      exact (show listed.getD e.on false = true by simpa using this)
  · rintro ⟨h1, h2, h3⟩
    refine ⟨h1, ?_⟩
    have ho : ops[i]? = some ops[i] := List.getElem?_eq_getElem h1
    simp only [Bool.and_eq_true, Bool.not_eq_true', List.getElem?_toArray, ho, Option.map_some, Option.getD_some]
    constructor
    · have : i < listed.size := by omega
      unfold On at h2
      simpa [Array.getD, this] using h2
    · rw [Array.all_eq_true_iff_forall_mem]
      intro e he
      cases hb : Region.binds .any e with
      | false => rfl
      | true =>
        have : On listed e.on := h3 e.on (by
          unfold predsOf
          simp only [ho]
          exact List.mem_map.2 ⟨e, List.mem_filter.2 ⟨by simpa using he, hb⟩, rfl⟩)
        unfold On at this
        rw [this]; rfl

def left (n : Nat) (listed : Array Bool) : Nat := ((List.range n).filter fun i => !listed.getD i false).length
theorem left_set {n : Nat} {listed : Array Bool} {i : Nat} (hs : listed.size = n) (hi : i < n) (hn : ¬ On listed i) : left n (listed.setIfInBounds i true) + 1 = left n listed := by
  unfold left
  have key : ∀ (l : List Nat), l.Nodup → (i ∈ l → (l.filter fun j => !(listed.setIfInBounds i true).getD j false).length + 1 = (l.filter fun j => !listed.getD j false).length) ∧
      (i ∉ l → (l.filter fun j => !(listed.setIfInBounds i true).getD j false).length = (l.filter fun j => !listed.getD j false).length) := by
    intro l
    induction l with
    | nil => exact fun _ => ⟨fun h => absurd h (by simp), fun _ => rfl⟩
    | cons x l ih =>
      intro hnd
      have hx := (List.nodup_cons.1 hnd).1
      have hnd' := (List.nodup_cons.1 hnd).2
      obtain ⟨ih1, ih2⟩ := ih hnd'
      by_cases hxi : x = i
      · subst hxi
        refine ⟨fun _ => ?_, fun h => by simp at h⟩
        have e1 : (listed.setIfInBounds x true).getD x false = true := (on_set (by omega)).2 (.inl rfl)
        have e2 : listed.getD x false = false := by simpa [On] using hn
        rw [List.filter_cons_of_neg (by rw [e1]; simp), List.filter_cons_of_pos (by rw [e2]; rfl), List.length_cons, ih2 hx]
      · have e1 : (listed.setIfInBounds i true).getD x false = listed.getD x false := by
          rw [Array.getD_eq_getD_getElem?, Array.getD_eq_getD_getElem?, Array.getElem?_setIfInBounds, if_neg (Ne.symm hxi)]
        constructor
        · intro hm
          have hm' : i ∈ l := by
            rcases List.mem_cons.1 hm with e | h
            · exact absurd e.symm hxi
            · exact h
          simp only [List.filter_cons, e1]
          split
          · simp only [List.length_cons]; rw [← ih1 hm']
          · exact ih1 hm'
        · intro hm
          have hm' : i ∉ l := fun h => hm (List.mem_cons_of_mem _ h)
          simp only [List.filter_cons, e1]
          split
          · simp only [List.length_cons, ih2 hm']
          · exact ih2 hm'
  exact (key (List.range n) List.nodup_range).1 (List.mem_range.2 hi)
theorem left_zero {n : Nat} {listed : Array Bool} (h : left n listed = 0) : ∀ i, i < n → On listed i := by
  intro i hi
  unfold left at h
  have h0 := List.length_eq_zero_iff.1 h
  have h1 := List.filter_eq_nil_iff.1 h0 i (List.mem_range.2 hi)
  simpa [On] using h1
theorem first_off {p : Nat → Prop} [DecidablePred p] : ∀ (c : List Nat), (∃ i ∈ c, ¬ p i) → ∃ u i v, c = u ++ i :: v ∧ ¬ p i ∧ ∀ j ∈ u, p j
  | [], ⟨_, h, _⟩ => by cases h
  | x :: c, ⟨i, hi, hp⟩ => by
    by_cases hx : p x
    · have : ∃ i ∈ c, ¬ p i := by
        rcases List.mem_cons.1 hi with rfl | h
        · exact (hp hx).elim
        · exact ⟨i, h, hp⟩
      obtain ⟨u, j, v, rfl, h1, h2⟩ := first_off c this
      exact ⟨x :: u, j, v, rfl, h1, fun k hk => by
        rcases List.mem_cons.1 hk with rfl | h
        · exact hx
        · exact h2 k h⟩
    · exact ⟨[], x, c, rfl, hx, fun _ h => by cases h⟩

def Pend (B : OH) (t : List Value) (H : HL) (o : LOp) : Prop :=
  ∃ d, o.dst = some d ∧ if wantG t o.g = true then ∃ v, lightV B t H o.op = some v ∧ gt t d = (if d < t.length then v else undef) else gt t d = undef
theorem Pend.congr {t t' : List Value} {H : HL} {o : LOp} (h : Pend B t H o) (hl : isLight o.op = true) (ht : ∀ x ∈ o.tmps, gt t x = gt t' x) (hd : ∀ d, o.dst = some d → gt t d = gt t' d) (hlen : t.length = t'.length) : Pend B t' H o := by
  obtain ⟨d, h1, h2⟩ := h
  have hw : wantG t o.g = wantG t' o.g := wantG_congr fun i hi => ht i (List.mem_append_right _ hi)
  have hv : lightV B t H o.op = lightV B t' H o.op := light_congr hl fun i hi => ht i (List.mem_append_left _ hi)
  exact ⟨d, h1, by rw [hw, hv, hlen, hd d h1] at h2; exact h2⟩

theorem low_get {all : List Oper} : ∀ {ops : List Oper} {ll : List LOp}, lowerOps P all ops = some ll → ll.length = ops.length ∧ ∀ (i : Nat) o, ops[i]? = some o → ∃ g, ll[i]? = some ⟨o.dst, lowerOp P o, g⟩ ∧ guardOf all o.guard = some g
  | [], ll, h => by simp only [lowerOps, Option.some.injEq] at h; subst h; simp
  | o :: ops, ll, h => by
    simp only [lowerOps] at h
    split at h
    · rename_i g r hg hr
      simp only [Option.some.injEq] at h
      subst h
      obtain ⟨h1, h2⟩ := low_get hr
      refine ⟨by simp [h1], fun i o' hi => ?_⟩
      cases i with
      | zero => simp at hi; subst hi; exact ⟨g, rfl, hg⟩
      | succ i => simpa using h2 i o' (by simpa using hi)
    · cases h

section
variable {ops : List Oper} {ll : List LOp} {A : Nat → Nat → Bool} {hv : Nat → Bool} {c : List Nat} {wb : World} {rd : Option Nat}

structure Inv (w0 : World) (B : OH) (G : Env) (ops : List Oper) (ll : List LOp) (A : Nat → Nat → Bool) (hv : Nat → Bool) (c : List Nat) (Q : Out → Prop)
    (wb : World) (listed : Array Bool) (ta : List Value) (w : World) (done rest : List Nat) (t : List Value) (H : HL) : Prop where
  size : listed.size = ops.length
  split : c = done ++ rest
  inDone : ∀ i, On listed i → i ∈ done
  closed : ∀ i, On listed i → ∀ j ∈ predsOf ops i, On listed j
  heavy : ∀ i ∈ done, hv i = true → On listed i
  len : ta.length = t.length
  agree : ∀ x, (∀ i ∈ done, ¬ On listed i → ∀ o, ll[i]? = some o → o.dst ≠ some x) → gt ta x = gt t x
  pend : ∀ i ∈ done, ¬ On listed i → ∀ o, ll[i]? = some o → Pend B t H o
  knows : Knows w0 (den H B) w
  goal : ∀ N, good B H N → Q (exDraw B G (mkDs ll hv A done rest) (some (.normal, ⟨t, H, N⟩)))
  kd : KeepD wb w

theorem light_plain {s : S} {lo : LO} (h : isLight lo = true) : stepE B G s lo = rv (stepOp B G s lo) := by
  cases lo <;> first | rfl | (simp [isLight] at h)
theorem step_light {o : LOp} {s : S} (hl : isLight o.op = true) (hd : ∃ x, o.dst = some x) : stepX B G o s = if wantG s.t o.g = true then (match lightV B s.t s.H o.op with | some v => some (.normal, ⟨putT s.t o.dst v, s.H, s.N⟩) | none => none) else some (.normal, ⟨putT s.t o.dst undef, s.H, s.N⟩) := by
  obtain ⟨d, op, g⟩ := o
  obtain ⟨t, H, N⟩ := s
  simp only [stepX]
  cases hw : wantG t g with
  | false => simp [putE]
  | true =>
    simp only [cond_true, if_true]
    rw [light_plain hl, light_step hl]
    cases lightV B t H op <;> rfl

theorem Inv.advance {Q : Out → Prop} (F : FitsP ops ll A hv c) (h0 : ¬ Q none) {listed : Array Bool} {ta : List Value} {done : List Nat} {i : Nat} {rest : List Nat} (I : Inv w0 B G ops ll A hv c Q wb listed ta w done (i :: rest) t H) (hi : hv i = false) :
    ∃ t', Inv w0 B G ops ll A hv c Q wb listed ta w (done ++ [i]) rest t' H := by
  have hlt := F.lt i (by rw [I.split]; simp)
  obtain ⟨o, ho⟩ : ∃ o, ll[i]? = some o := ⟨ll[i]'(by rw [F.len]; exact hlt), List.getElem?_eq_getElem _⟩
  obtain ⟨hl, x, hx⟩ := F.light i o hi ho
  obtain ⟨hnd, htopo⟩ := F.topo done i rest I.split
  have hoff : ¬ On listed i := fun h => hnd (I.inDone i h)
  have hgoal : ∀ N, good B H N → Q (exDraw B G (mkDs ll hv A (done ++ [i]) rest) (stepX B G o ⟨t, H, N⟩)) := fun N hN => by
    have := I.goal N hN
    simp only [mkDs, ho, hi, exDraw] at this
    cases hs : stepX B G o ⟨t, H, N⟩ with
    | none => simpa [hs, watch_none, exDraw_none] using this
    | some s => simpa [hs, watchS] using this
  -- its value
  have hval : ∃ v, (wantG t o.g = true → lightV B t H o.op = some v) ∧ (wantG t o.g = false → v = undef) ∧ ∀ N, stepX B G o ⟨t, H, N⟩ = some (.normal, ⟨st t x v, H, N⟩) := by
    cases hw : wantG t o.g with
    | false => exact ⟨undef, by simp, fun _ => rfl, fun N => by rw [step_light hl ⟨x, hx⟩]; simp [hw, hx, putT]⟩
    | true =>
      cases hlv : lightV B t H o.op with
      | none =>
        refine (h0 ?_).elim
        have := hgoal _ (good_of I.knows)
        rw [step_light hl ⟨x, hx⟩] at this
        simp only [hw, if_true, hlv] at this
        rwa [exDraw_none] at this
      | some v => exact ⟨v, fun _ => rfl, by simp, fun N => by rw [step_light hl ⟨x, hx⟩]; simp [hw, hlv, hx, putT]⟩
  obtain ⟨v, hv1, hv2, hstep⟩ := hval
  have hread : ∀ y ∈ o.tmps, x ≠ y := fun y hy e => by
    subst e
    exact (F.readL i o i o x hi ho ho hx hy).1 rfl
  refine ⟨st t x v, ⟨I.size, by rw [I.split]; simp, fun j hj => List.mem_append_left _ (I.inDone j hj), I.closed, fun j hj hh => ?_, by rw [length_st]; exact I.len, fun y hy => ?_, fun j hj hoffj o' ho' => ?_, I.knows, fun N hN => ?_, I.kd⟩⟩
  · rcases List.mem_append.1 hj with hj | hj
    · exact I.heavy j hj hh
    · simp at hj; subst hj; rw [hi] at hh; cases hh
  · have hne : x ≠ y := fun e => by
      subst e
      exact hy i (by simp) hoff o ho hx
    rw [gt_st, if_neg hne]
    exact I.agree y (fun j hj => hy j (List.mem_append_left _ hj))
  · rcases List.mem_append.1 hj with hj | hj
    · have hhj : hv j = false := by
        cases h : hv j with
        | false => rfl
        | true => exact absurd (I.heavy j hj h) hoffj
      have hl' := (F.light j o' hhj ho').1
      refine (I.pend j hj hoffj o' ho').congr hl' (fun y hy => ?_) (fun d hd => ?_) (by rw [length_st])
      · rw [gt_st, if_neg]
        intro e
        subst e
        have := (F.readL j o' i o x hhj ho' ho hx hy).2
        rcases this with h | ⟨h, _⟩
        · obtain ⟨u, v', huv⟩ := List.append_of_mem hj
          have := (F.topo u j (v' ++ i :: rest) (by rw [I.split, huv]; simp)).2 i h
          exact hnd (by rw [huv]; exact List.mem_append_left _ this)
        · rw [hi] at h; cases h
      · rw [gt_st, if_neg]
        intro e
        subst e
        have := F.once i o j o' x ho ho' hx hd
        subst this
        exact hnd hj
    · simp at hj
      subst hj
      rw [ho] at ho'
      cases ho'
      have hcg : ∀ y ∈ o.tmps, gt t y = gt (st t x v) y := fun y hy => by rw [gt_st, if_neg (hread y hy)]
      have hw' : wantG (st t x v) o.g = wantG t o.g := (wantG_congr fun y hy => hcg y (List.mem_append_right _ hy)).symm
      have hl' : lightV B (st t x v) H o.op = lightV B t H o.op := (light_congr hl fun y hy => hcg y (List.mem_append_left _ hy)).symm
      refine ⟨x, hx, ?_⟩
      rw [hw', hl']
      cases hw : wantG t o.g with
      | true => simp only [if_true]; exact ⟨v, hv1 hw, by rw [gt_st, if_pos rfl, length_st]⟩
      | false => simp only [Bool.false_eq_true, if_false]; rw [gt_st, if_pos rfl, hv2 hw]; split <;> rfl
  · have := hgoal N hN
    rwa [hstep] at this

theorem anc_before (F : FitsP ops ll A hv c) {h : Nat} : ∀ (j : Nat) (u v : List Nat), c = u ++ j :: v → A j h = true → h ∈ u := by
  intro j
  induction j using Nat.strongRecOn with
  | _ j ih =>
    intro u v hc hA
    obtain ⟨e, he, hej⟩ := F.anc j h hA
    have heu := (F.topo u j v hc).2 e he
    rcases hej with rfl | ⟨hlt, hA'⟩
    · exact heu
    · obtain ⟨u1, u2, rfl⟩ := List.append_of_mem heu
      exact List.mem_append_left _ (ih e hlt u1 (u2 ++ j :: v) (by rw [hc]; simp) hA')
theorem gt_ge : ∀ {l : List Value} {i : Nat}, l.length ≤ i → gt l i = undef
  | [], _, _ => rfl
  | x :: l, 0, h => by simp at h
  | x :: l, i + 1, h => by simp only [gt]; exact gt_ge (by simpa using h)
theorem watchesOf_mem {h j : Nat} {o : LOp} (ho : ll[j]? = some o) (h1 : hv j = false) (h2 : isRead o.op = true) (h3 : A h j = false) : ∀ {done : List Nat}, j ∈ done → o ∈ watchesOf ll hv A h done
  | r :: done, hm => by
    unfold watchesOf
    rcases List.mem_cons.1 hm with rfl | hm
    · simp [ho, h1, h2, h3]
    · have ih := watchesOf_mem ho h1 h2 h3 hm
      split
      · split
        · exact List.mem_cons_of_mem _ ih
        · exact ih
      · exact ih

theorem Inv.agreeL {Q : Out → Prop} (F : FitsP ops ll A hv c) {listed : Array Bool} {ta : List Value} {done rest : List Nat} (I : Inv w0 B G ops ll A hv c Q wb listed ta w done rest t H) {i : Nat} (hi : hv i = false) {o : LOp} (ho : ll[i]? = some o) (hp : ∀ j ∈ predsOf ops i, On listed j) :
    ∀ x ∈ o.tmps, gt ta x = gt t x := by
  intro x hx
  refine I.agree x fun j hj hoff o' ho' he => ?_
  rcases (F.readL i o j o' x hi ho ho' he hx).2 with h | ⟨h, _⟩
  · exact hoff (hp j h)
  · exact hoff (I.heavy j hj h)
theorem Inv.agreeH {Q : Out → Prop} (F : FitsP ops ll A hv c) {listed : Array Bool} {ta : List Value} {done rest : List Nat} {i : Nat} (I : Inv w0 B G ops ll A hv c Q wb listed ta w done (i :: rest) t H) (hi : hv i = true) {o : LOp} (ho : ll[i]? = some o) (hp : ∀ j ∈ predsOf ops i, On listed j) :
    ∀ x ∈ o.tmps, gt ta x = gt t x := by
  intro x hx
  have hnd := (F.topo done i rest I.split).1
  refine I.agree x fun j hj hoff o' ho' he => ?_
  rcases F.readH i o j o' x hi ho ho' he hx with h | h | h | h
  · subst h; exact hnd hj
  · exact hoff (hp j h)
  · exact hoff (I.heavy j hj h)
  · obtain ⟨u, v, huv⟩ := List.append_of_mem hj
    have := anc_before F j u (v ++ i :: rest) (by rw [I.split, huv]; simp) h
    exact hnd (by rw [huv]; exact List.mem_append_left _ this)

theorem Inv.lightStep {Q : Out → Prop} (F : FitsP ops ll A hv c) {listed : Array Bool} {ta : List Value} {done rest : List Nat} (I : Inv w0 B G ops ll A hv c Q wb listed ta w done rest t H) {i : Nat} (hlt : i < ops.length) (hd : i ∈ done) (hoff : ¬ On listed i) (hp : ∀ j ∈ predsOf ops i, On listed j) {o : LOp} (ho : ll[i]? = some o) {x : Tmp} (hx : o.dst = some x) {v : Value}
    (hv' : gt t x = if x < t.length then v else undef) {w' : World} (hd0 : KeepD w w') (hk : Knows w0 (den H B) w') : Inv w0 B G ops ll A hv c Q wb (listed.setIfInBounds i true) (st ta x v) w' done rest t H := by
  have hset : ∀ j, On (listed.setIfInBounds i true) j ↔ j = i ∨ On listed j := fun j => on_set (by rw [I.size]; exact hlt)
  refine ⟨by simpa using I.size, I.split, fun j hj => ?_, fun j hj k hk' => ?_, fun j hj hh => (hset j).2 (.inr (I.heavy j hj hh)), by rw [length_st]; exact I.len, fun y hy => ?_, fun j hj hoffj o' ho' => I.pend j hj (fun h => hoffj ((hset j).2 (.inr h))) o' ho', hk, I.goal, I.kd.trans hd0⟩
  · rcases (hset j).1 hj with rfl | h
    · exact hd
    · exact I.inDone j h
  · rcases (hset j).1 hj with rfl | h
    · exact (hset k).2 (.inr (hp k hk'))
    · exact (hset k).2 (.inr (I.closed j h k hk'))
  · rw [gt_st]
    by_cases hxy : x = y
    · subst hxy
      rw [if_pos rfl, I.len, hv']
    · rw [if_neg hxy]
      refine I.agree y fun j hj hoffj o' ho' he => ?_
      by_cases hji : j = i
      · subst hji
        rw [ho] at ho'
        cases ho'
        rw [hx] at he
        exact hxy (by simpa using he)
      · exact hy j hj (fun h => by rcases (hset j).1 h with h | h; exact hji h; exact hoffj h) o' ho' he

theorem Inv.heavyStep {Q : Out → Prop} (F : FitsP ops ll A hv c) (h0 : ¬ Q none) {listed : Array Bool} {ta : List Value} {done rest : List Nat} {i : Nat} (I : Inv w0 B G ops ll A hv c Q wb listed ta w done (i :: rest) t H) (hi : hv i = true) (hp : ∀ j ∈ predsOf ops i, On listed j) {o : LOp} (ho : ll[i]? = some o)
    {v : Value} {H' : HL} {w' : World} (hd0 : KeepD w w') (hk : Knows w0 (den H' B) w') (hq : ∀ N, good B H' N → Q (exDraw B G (mkDs ll hv A (done ++ [i]) rest) (watchS B (watchesOf ll hv A i done) (some (.normal, ⟨putT t o.dst v, H', N⟩))))) :
    Inv w0 B G ops ll A hv c Q wb (listed.setIfInBounds i true) (putT ta o.dst v) w' (done ++ [i]) rest (putT t o.dst v) H' := by
  have hlt := F.lt i (by rw [I.split]; simp)
  have hset : ∀ j, On (listed.setIfInBounds i true) j ↔ j = i ∨ On listed j := fun j => on_set (by rw [I.size]; exact hlt)
  obtain ⟨hnd, htopo⟩ := F.topo done i rest I.split
  have hw : ∀ N, good B H' N → watchS B (watchesOf ll hv A i done) (some (.normal, ⟨putT t o.dst v, H', N⟩)) = some (.normal, ⟨putT t o.dst v, H', N⟩) := fun N hN => by
    have := hq N hN
    cases hs : watchS B (watchesOf ll hv A i done) (some (.normal, ⟨putT t o.dst v, H', N⟩)) with
    | none => rw [hs, exDraw_none] at this; exact (h0 this).elim
    | some s' => rw [(watch_spec hs).1]
  have hfacts := (watch_spec (hw _ (good_of hk))).2
  have hlenp : ∀ (l : List Value), (putT l o.dst v).length = l.length := fun l => by cases o.dst <;> simp [putT, length_st]
  have hgt : ∀ (l : List Value) (y : Tmp), o.dst ≠ some y → gt (putT l o.dst v) y = gt l y := fun l y hy => by
    cases hd : o.dst with
    | none => rfl
    | some d => simp only [putT]; rw [gt_st, if_neg (fun e => hy (by rw [hd, e]))]
  refine ⟨by simpa using I.size, by rw [I.split]; simp, fun j hj => ?_, fun j hj k hk' => ?_, fun j hj hh => ?_, by rw [hlenp, hlenp]; exact I.len, fun y hy => ?_, fun j hj hoffj o' ho' => ?_, hk, fun N hN => ?_, I.kd.trans hd0⟩
  · rcases (hset j).1 hj with rfl | h
    · simp
    · exact List.mem_append_left _ (I.inDone j h)
  · rcases (hset j).1 hj with rfl | h
    · exact (hset k).2 (.inr (hp k hk'))
    · exact (hset k).2 (.inr (I.closed j h k hk'))
  · rcases List.mem_append.1 hj with hj | hj
    · exact (hset j).2 (.inr (I.heavy j hj hh))
    · simp at hj; exact (hset j).2 (.inl hj)
  · by_cases hd : o.dst = some y
    · simp only [hd, putT]
      rw [gt_st, gt_st, if_pos rfl, if_pos rfl, I.len]
    · rw [hgt ta y hd, hgt t y hd]
      refine I.agree y fun j hj hoffj o' ho' => hy j (List.mem_append_left _ hj) (fun h => ?_) o' ho'
      rcases (hset j).1 h with rfl | h
      · exact hnd hj
      · exact hoffj h
  · have hji : j ≠ i := fun e => hoffj ((hset j).2 (.inl e))
    have hj : j ∈ done := by
      rcases List.mem_append.1 hj with hj | hj
      · exact hj
      · simp at hj; exact (hji hj).elim
    have hoff' : ¬ On listed j := fun h => hoffj ((hset j).2 (.inr h))
    have hhj : hv j = false := by
      cases h : hv j with
      | false => rfl
      | true => exact absurd (I.heavy j hj h) hoff'
    have hl' := (F.light j o' hhj ho').1
    have hnot : A i j = false := by
      cases h : A i j with
      | false => rfl
      | true => exact absurd (anc_on F I.closed i hp j h) hoff'
    have hP : Pend B (putT t o.dst v) H o' := (I.pend j hj hoff' o' ho').congr hl' (fun y hy => by
        rw [hgt]
        intro e
        rcases (F.readL j o' i o y hhj ho' ho e hy).2 with h | ⟨_, h | h⟩
        · obtain ⟨u, v', huv⟩ := List.append_of_mem hj
          have := (F.topo u j (v' ++ i :: rest) (by rw [I.split, huv]; simp)).2 i h
          exact hnd (by rw [huv]; exact List.mem_append_left _ this)
        · obtain ⟨u, v', huv⟩ := List.append_of_mem hj
          have := anc_before F j u (v' ++ i :: rest) (by rw [I.split, huv]; simp) h
          exact hnd (by rw [huv]; exact List.mem_append_left _ this)
        · rw [hnot] at h; cases h) (fun d hd => by
        rw [hgt]
        intro e
        exact hji (F.once j o' i o d ho' ho hd e)) (by rw [hlenp])
    obtain ⟨d, hd, hP⟩ := hP
    refine ⟨d, hd, ?_⟩
    by_cases hwant : wantG (putT t o.dst v) o'.g = true
    · rw [if_pos hwant] at hP ⊢
      obtain ⟨u, hu1, hu2⟩ := hP
      cases hr : isRead o'.op with
      | false => exact ⟨u, by rw [← hu1]; exact light_pure hr, hu2⟩
      | true =>
        have hmem := watchesOf_mem (hv := hv) (A := A) (h := i) ho' hhj hr hnot hj
        obtain ⟨d', op', g'⟩ := o'
        simp only at hd
        subst hd
        have := hfacts d op' g' hmem hwant
        refine ⟨_, this, ?_⟩
        by_cases hlen : d < (putT t o.dst v).length
        · rw [if_pos hlen]
        · rw [if_neg hlen]; exact gt_ge (Nat.le_of_not_lt hlen)
    · rw [if_neg hwant] at hP ⊢
      exact hP
  · have := hq N hN
    rwa [hw N hN] at this

theorem any_sound (hG : SoundG P w0 B G) (F : Fits ops ll A hv c) (hlow : lowerOps P ops ops = some ll) {ds : List Deferred} {Q : Out → Prop} (h0 : ¬ Q none) {Qx : Exit → Act → World → Prop}
    {keep : List Tmp} (hkeep : ∀ (i : Nat) (o : LOp) (x : Tmp), ll[i]? = some o → o.dst = some x → x ∉ keep)
    (hQx : ∀ t' H' w', KeepD wb w' → Knows w0 (den H' B) w' → (∀ N', good B H' N' → Q (some (.normal, ⟨t', H', N'⟩))) → Qx .normal (Act.mk t'.toArray ds) w')
    (hPx : ∀ ta t' H' w' v, (∀ x ∈ keep, gt ta x = gt t' x) → KeepD wb w' → Knows w0 (den H' B) w' → (∀ N', good B H' N' → Q (some (.pan v, ⟨t', H', N'⟩))) → Qx (.panic [{ v, recovered := false }]) (Act.mk ta.toArray ds) w') :
    ∀ (m fuel : Nat) (listed : Array Bool) (ta : List Value) (w : World) (done rest : List Nat) (t : List Value) (H : HL), fuel + rest.length ≤ m → left ops.length listed ≤ fuel → Inv w0 B G ops ll A hv c Q wb listed ta w done rest t H →
      wpAnyIn (Fw rd) 0 P .any ops.toArray Qx fuel listed (Act.mk ta.toArray ds) w := by
  intro m
  induction m with
  | zero =>
    intro fuel listed ta w done rest t H hm hf I
    obtain rfl : fuel = 0 := by omega
    obtain rfl : rest = [] := List.length_eq_zero_iff.1 (by omega)
    have hall := left_zero (by omega : left ops.length listed = 0)
    refine ⟨?_, ?_⟩
    · apply List.eq_nil_iff_forall_not_mem.2
      intro i hi
      obtain ⟨h1, h2, _⟩ := (mem_ready I.size).1 hi
      exact h2 (hall i h1)
    · obtain rfl : ta = t := ext_gt I.len fun x => I.agree x fun i hi hoff => absurd (hall i (F.lt i (by rw [I.split]; simpa using hi))) hoff
      exact hQx _ _ _ I.kd I.knows fun N hN => by have := I.goal N hN; simpa [mkDs, exDraw] using this
  | succ m ih =>
    intro fuel listed ta w done rest t H hm hf I
    by_cases hlight : ∃ i r, rest = i :: r ∧ hv i = false
    · obtain ⟨i, r, rfl, hi⟩ := hlight
      obtain ⟨t', I'⟩ := I.advance F.toFitsP h0 hi
      exact ih fuel listed ta w _ r t' H (by simp at hm ⊢; omega) hf I'
    · have hhead : ∀ i r, rest = i :: r → hv i = true := fun i r h => by
        cases hh : hv i with
        | true => rfl
        | false => exact absurd ⟨i, r, h, hh⟩ hlight
      have hend : (∀ i, i < ops.length → On listed i) → Qx .normal (Act.mk ta.toArray ds) w := fun hall => by
        obtain rfl : rest = [] := by
          cases rest with
          | nil => rfl
          | cons h r =>
            have hin := I.inDone h (hall h (F.lt h (by rw [I.split]; simp)))
            exact absurd hin (F.topo done h r I.split).1
        obtain rfl : ta = t := ext_gt I.len fun x => I.agree x fun i hi hoff => absurd (hall i (F.lt i (by rw [I.split]; simpa using hi))) hoff
        exact hQx _ _ _ I.kd I.knows fun N hN => by have := I.goal N hN; simpa [mkDs, exDraw] using this
      have hready : Region.ready .any ops.toArray listed = [] → ∀ i, i < ops.length → On listed i := fun hr i hi => by
        apply Classical.byContradiction
        intro hoff
        haveI : DecidablePred (On listed) := fun _ => Classical.propDecidable _
        obtain ⟨u, j, v, hc, hj, hu⟩ := first_off (p := On listed) c ⟨i, F.all i hi, hoff⟩
        have hmem : j ∈ Region.ready .any ops.toArray listed := (mem_ready I.size).2 ⟨F.lt j (by rw [hc]; simp), hj, fun k hk => hu k ((F.topo u j v hc).2 k hk)⟩
        rw [hr] at hmem
        cases hmem
      cases fuel with
      | zero =>
        have hall := left_zero (by omega : left ops.length listed = 0)
        refine ⟨?_, hend hall⟩
        apply List.eq_nil_iff_forall_not_mem.2
        intro i hi
        obtain ⟨h1, h2, _⟩ := (mem_ready I.size).1 hi
        exact h2 (hall i h1)
      | succ fuel =>
        refine ⟨fun hr => hend (hready hr), fun i hi => ?_⟩
        obtain ⟨hlt, hoff, hp⟩ := (mem_ready I.size).1 hi
        have hleft := left_set I.size hlt hoff
        obtain ⟨oo, hoo⟩ : ∃ oo, ops[i]? = some oo := ⟨ops[i], List.getElem?_eq_getElem hlt⟩
        obtain ⟨g, ho, hg⟩ := (low_get hlow).2 i oo hoo
        unfold wpOpIn
        rw [List.getElem?_toArray, hoo]
        simp only
        rw [wanted_eq hg ta]
        by_cases hd : i ∈ done
        · have hhi : hv i = false := by
            cases h : hv i with
            | false => rfl
            | true => exact absurd (I.heavy i hd h) hoff
          have hag := I.agreeL F.toFitsP hhi ho hp
          obtain ⟨hl, _⟩ := F.light i _ hhi ho
          obtain ⟨x, hx, hP⟩ := I.pend i hd hoff _ ho
          have hwg : wantG ta g = wantG t g := wantG_congr fun y hy => hag y (List.mem_append_right _ hy)
          rw [hwg]
          simp only at hx hP
          by_cases hw : wantG t g = true
          · rw [if_pos hw] at hP ⊢
            obtain ⟨v, hv1, hv2⟩ := hP
            refine light_sound hG (lo := lowerOp P oo) rfl (v := v) hl I.knows (by rw [← hv1]; exact light_congr hl fun y hy => hag y (List.mem_append_left _ hy)) fun w' hkd hk' => ?_
            rw [hx]
            exact ih fuel _ (st ta x v) w' done rest t H (by omega) (by omega) (I.lightStep F.toFitsP hlt hd hoff hp ho hx hv2 hkd hk')
          · rw [if_neg hw] at hP ⊢
            rw [put_eq, hx]
            exact ⟨fun _ _ => trivial, ih fuel _ (st ta x undef) w done rest t H (by omega) (by omega) (I.lightStep F.toFitsP hlt hd hoff hp ho hx (by rw [hP]; split <;> rfl) (.refl w) I.knows)⟩
        · have hc : i ∈ rest := by
            have := F.all i hlt
            rw [I.split] at this
            rcases List.mem_append.1 this with h | h
            · exact absurd h hd
            · exact h
          cases rest with
          | nil => cases hc
          | cons h r =>
            have hh := hhead h r rfl
            obtain rfl : i = h := by
              rcases List.mem_cons.1 hc with e | hr
              · exact e
              · have hA := F.after done h r I.split hh i hr
                have := anc_on F.toFitsP I.closed i hp h hA
                exact absurd (I.inDone h this) (F.topo done h r I.split).1
            have hag := I.agreeH F.toFitsP hh ho hp
            have hwg : wantG ta g = wantG t g := wantG_congr fun y hy => hag y (List.mem_append_right _ hy)
            rw [hwg]
            have hgoal : ∀ N, good B H N → Q (exDraw B G (mkDs ll hv A (done ++ [i]) r) (watchS B (watchesOf ll hv A i done) (stepX B G ⟨oo.dst, lowerOp P oo, g⟩ ⟨t, H, N⟩))) := fun N hN => by
              have := I.goal N hN
              simpa only [mkDs, ho, hh, if_true, exDraw] using this
            by_cases hw : wantG t g = true
            · rw [if_pos hw]
              refine opE_sound hG (lo := lowerOp P oo) rfl (Q := fun res => Q (exDraw B G (mkDs ll hv A (done ++ [i]) r) (watchS B (watchesOf ll hv A i done) (putE t oo.dst res)))) ?_ I.knows ?_ ?_ ?_
              · simpa [putE, watch_none, exDraw_none] using h0
              · intro N hN
                have := hgoal N hN
                rw [stepE_congr (t' := t) fun y hy => hag y (List.mem_append_left _ hy)]
                simpa [stepX, hw] using this
              · intro v H' w' hkd hk' hq
                have := I.heavyStep F.toFitsP h0 hh hp ho (v := v) hkd hk' hq
                exact ih fuel _ _ w' _ r _ H' (by simp at hm ⊢; omega) (by omega) this
              · intro v H' w' hkd hk' hq
                refine hPx ta t H' w' v (fun x hx => I.agree x fun j _ _ o' ho' he => hkeep j o' x ho' he hx) (I.kd.trans hkd) hk' fun N hN => ?_
                have := hq N hN
                simpa [putE, watch_pan, exDraw_pan] using this
            · rw [if_neg hw, put_eq]
              have := I.heavyStep F.toFitsP h0 hh hp ho (v := undef) (.refl w) I.knows fun N hN => by
                have := hgoal N hN
                have hw' : wantG t g = false := by simpa using hw
                simpa [stepX, hw', putE] using this
              exact ⟨fun _ _ => trivial, ih fuel _ _ w _ r _ H (by simp at hm ⊢; omega) (by omega) this⟩

theorem draw_sound (hm : P.follows .mixedOrders = true) (hG : SoundG P w0 B G) (F : Fits ops ll A hv c) (hlow : lowerOps P ops ops = some ll) {ds : List Deferred} {Q : Out → Prop} (h0 : ¬ Q none) {Qx : Exit → Act → World → Prop}
    {keep : List Tmp} (hkeep : ∀ (i : Nat) (o : LOp) (x : Tmp), ll[i]? = some o → o.dst = some x → x ∉ keep)
    (hQx : ∀ t' H' w', KeepD wb w' → Knows w0 (den H' B) w' → (∀ N', good B H' N' → Q (some (.normal, ⟨t', H', N'⟩))) → Qx .normal (Act.mk t'.toArray ds) w')
    (hPx : ∀ ta t' H' w' v, (∀ x ∈ keep, gt ta x = gt t' x) → KeepD wb w' → Knows w0 (den H' B) w' → (∀ N', good B H' N' → Q (some (.pan v, ⟨t', H', N'⟩))) → Qx (.panic [{ v, recovered := false }]) (Act.mk ta.toArray ds) w') (hkd : KeepD wb w) (hk : Knows w0 (den H B) w) (hQ : ∀ N, good B H N → Q (exDraw B G (mkDs ll hv A [] c) (some (.normal, ⟨t, H, N⟩)))) {id : Nat} :
    (Code.region id ops.toArray true).wpIn (Fw rd) 0 P Qx (Act.mk t.toArray ds) w := by
  refine wpIn_region_any hm ?_
  refine any_sound hG F hlow h0 hkeep hQx hPx (ops.toArray.size + c.length) _ _ t _ [] c t H (Nat.le_refl _) ?_ ⟨by simp, rfl, fun i hi => ?_, fun i hi => ?_, fun i hi => (by cases hi), rfl, fun _ _ => rfl, fun i hi => (by cases hi), hk.drawn _, hQ, hkd.trans ⟨Nat.le_refl _, fun _ _ h => h⟩⟩
  · unfold left
    exact Nat.le_trans (List.length_filter_le _ _) (by simp)
  · exfalso
    unfold On at hi
    rw [Array.getD_eq_getD_getElem?, Array.getElem?_replicate] at hi
    split at hi <;> simp at hi
  · exfalso
    unfold On at hi
    rw [Array.getD_eq_getD_getElem?, Array.getElem?_replicate] at hi
    split at hi <;> simp at hi
end
end Go.Proofs.YtbpaekbjpapgeaaGreatDoor.K
namespace Go.Proofs.YtbpaekbjpapgeaaGreatDoor.K
variable {P : Program} {ops : List Oper} {ll : List LOp} {A : Nat → Nat → Bool} {hv : Nat → Bool}

theorem topoB_spec : ∀ {c done : List Nat}, topoB ops done c = true → ∀ u i v, c = u ++ i :: v → i ∉ done ++ u ∧ ∀ j ∈ predsOf ops i, j ∈ done ++ u
  | [], _, _, u, i, v, h => by cases u <;> cases h
  | x :: c, done, h, u, i, v, hc => by
    simp only [topoB, Bool.and_eq_true, Bool.not_eq_true', List.all_eq_true] at h
    obtain ⟨⟨h1, h2⟩, h3⟩ := h
    cases u with
    | nil =>
      simp only [List.nil_append, List.cons.injEq] at hc
      obtain ⟨rfl, rfl⟩ := hc
      exact ⟨by simpa using h1, fun j hj => by simpa using h2 j hj⟩
    | cons y u =>
      simp only [List.cons_append, List.cons.injEq] at hc
      obtain ⟨rfl, hc⟩ := hc
      have := topoB_spec h3 u i v hc
      simpa using this
theorem afterB_spec : ∀ {c : List Nat}, afterB A hv c = true → ∀ u h v, c = u ++ h :: v → hv h = true → ∀ j ∈ v, A j h = true
  | [], _, u, h, v, hc, _, _, _ => by cases u <;> cases hc
  | x :: c, hB, u, h, v, hc, hh, j, hj => by
    simp only [afterB, Bool.and_eq_true, Bool.or_eq_true, Bool.not_eq_true', List.all_eq_true] at hB
    cases u with
    | nil =>
      simp only [List.nil_append, List.cons.injEq] at hc
      obtain ⟨rfl, rfl⟩ := hc
      rcases hB.1 with h1 | h1
      · rw [hh] at h1; cases h1
      · exact h1 j hj
    | cons y u =>
      simp only [List.cons_append, List.cons.injEq] at hc
      exact afterB_spec hB.2 u h v hc.2 hh j hj
theorem fits_of {c : List Nat} {n : Nat} {ms : List Nat} (hn : n = ops.length) (hlen : ll.length = ops.length) (h : fitsB ops ll (ancB n ms) hv c = true) : Fits ops ll (ancB n ms) hv c := by
  subst hn
  simp only [fitsB, Bool.and_eq_true] at h
  obtain ⟨⟨⟨⟨⟨h1, h2⟩, h3⟩, h4⟩, h5⟩, h6⟩ := h
  have hlt : ∀ i (o : LOp), ll[i]? = some o → i ∈ List.range ops.length := fun i o ho => by
    rw [List.mem_range, ← hlen]
    exact (List.getElem?_eq_some_iff.1 ho).1
  have h6' := fun i (o : LOp) (ho : ll[i]? = some o) => (by
    have := List.all_eq_true.1 h6 i (hlt i o ho)
    simpa only [ho, Bool.and_eq_true] using this)
  have h7 := fun i (o : LOp) (ho : ll[i]? = some o) j (o' : LOp) (ho' : ll[j]? = some o') (x : Tmp) (hx : o'.dst = some x) => (by
    have := List.all_eq_true.1 (h6' i o ho).2 j (hlt j o' ho')
    simpa only [ho', hx, Bool.and_eq_true] using this)
  refine ⟨⟨hlen, fun i hi => by simpa using List.all_eq_true.1 h2 i hi, fun u i v hc => by simpa using topoB_spec h3 u i v hc, fun i j hA => ?_, fun i o hi ho => ?_, ?_, ?_, ?_⟩, fun i hi => by simpa using List.all_eq_true.1 h1 i (List.mem_range.2 hi), afterB_spec h4⟩
  · have hi : i < ops.length ∧ j < ops.length := by
      unfold ancB at hA
      simp only [Bool.and_eq_true, decide_eq_true_eq] at hA
      exact hA.1
    have := List.all_eq_true.1 (List.all_eq_true.1 h5 i (List.mem_range.2 hi.1)) j (List.mem_range.2 hi.2)
    simp only [hA, Bool.not_true, Bool.false_or, List.any_eq_true, Bool.or_eq_true, beq_iff_eq, Bool.and_eq_true, decide_eq_true_eq] at this
    exact this
  · have := (h6' i o ho).1
    simp only [hi, Bool.false_or, Bool.and_eq_true] at this
    exact ⟨this.1, Option.isSome_iff_exists.1 this.2⟩
  · intro i o j o' x hi ho ho' hx hm
    have := (h7 i o ho j o' ho' x hx).1
    have hm' : o.tmps.contains x = true := by simpa using hm
    simp only [hm', Bool.not_true, Bool.false_or, hi, Bool.false_eq_true, if_false, Bool.and_eq_true, Bool.or_eq_true, bne_iff_ne, List.contains_iff_mem] at this
    exact this
  · intro i o j o' x hi ho ho' hx hm
    have := (h7 i o ho j o' ho' x hx).1
    have hm' : o.tmps.contains x = true := by simpa using hm
    simp only [hm', Bool.not_true, Bool.false_or, hi, if_true, Bool.or_eq_true, beq_iff_eq, List.contains_iff_mem] at this
    rcases this with ((h | h) | h) | h
    · exact .inl h
    · exact .inr (.inl h)
    · exact .inr (.inr (.inl h))
    · exact .inr (.inr (.inr h))
  · intro i o j o' x ho ho' hx hx'
    have := (h7 i o ho j o' ho' x hx').2
    simpa [hx] using this
theorem lowerDraw_fits {l : List DOp} (h : lowerDraw P ops = some l) : ∃ ll A hv c, lowerOps P ops ops = some ll ∧ Fits ops ll A hv c ∧ l = mkDs ll hv A [] c := by
  unfold lowerDraw at h
  cases hl : lowerOps P ops ops with
  | none => simp [hl] at h
  | some ll =>
    simp only [hl] at h
    split at h
    · rename_i hf
      simp only [Option.some.injEq] at h
      exact ⟨ll, _, _, _, rfl, fits_of rfl (low_get hl).1 hf, h.symm⟩
    · cases h
end Go.Proofs.YtbpaekbjpapgeaaGreatDoor.K
namespace Go.Proofs.YtbpaekbjpapgeaaGreatDoor.K
section
variable {P : Program} {w0 w wb : World} {B : OH} {G : Env} {rd : Option Nat} {ll : List LOp} {hv : Nat → Bool} {ops : List Oper} {is : List Nat} {i : Nat}

theorem firstOf_len : (firstOf ops is i).length = ops.length := by simp [firstOf]
theorem firstOf_get {j : Nat} {o : Oper} (h : ops[j]? = some o) : (firstOf ops is i)[j]? = some (if is.contains j && j != i then { o with after := o.after.push ⟨i, .data⟩ } else o) := by
  simp [firstOf, List.getElem?_mapIdx, h]
theorem firstOf_none {j : Nat} (h : ops[j]? = none) : (firstOf ops is i)[j]? = none := by
  rw [List.getElem?_eq_none_iff] at h ⊢; rw [firstOf_len]; exact h
theorem preds_firstOf (j : Nat) : predsOf (firstOf ops is i) j = if (is.contains j && j != i) = true ∧ j < ops.length then predsOf ops j ++ [i] else predsOf ops j := by
  unfold predsOf
  by_cases hj : j < ops.length
  · rw [firstOf_get (List.getElem?_eq_getElem hj), List.getElem?_eq_getElem hj]
    by_cases h : (is.contains j && j != i) = true
    · rw [if_pos h, if_pos ⟨h, hj⟩]
      simp [List.filter_append]
      exact ⟨_, rfl, rfl⟩
    · rw [if_neg h, if_neg (fun x => h x.1)]
  · rw [firstOf_none (List.getElem?_eq_none (by omega)), List.getElem?_eq_none (by omega), if_neg (fun x => hj x.2)]
theorem preds_sub {j p : Nat} (h : p ∈ predsOf ops j) : p ∈ predsOf (firstOf ops is i) j := by
  rw [preds_firstOf]; split
  · exact List.mem_append_left _ h
  · exact h
theorem preds_self : predsOf (firstOf ops is i) i = predsOf ops i := by
  rw [preds_firstOf, if_neg (by simp)]
theorem preds_or {j p : Nat} (h : p ∈ predsOf (firstOf ops is i) j) : p ∈ predsOf ops j ∨ (p = i ∧ j ∈ is) := by
  rw [preds_firstOf] at h
  split at h
  · rename_i hc
    rcases List.mem_append.1 h with h | h
    · exact .inl h
    · have := hc.1
      simp only [Bool.and_eq_true, List.contains_iff_mem] at this
      exact .inr ⟨by simpa using h, this.1⟩
  · exact .inl h
theorem ready_first {listed : Array Bool} (hs : listed.size = ops.length) (hi : On listed i) (k : Nat) : k ∈ Region.ready .any (firstOf ops is i).toArray listed ↔ k ∈ Region.ready .any ops.toArray listed := by
  rw [mem_ready (by rw [firstOf_len]; exact hs), mem_ready hs, firstOf_len]
  constructor
  · rintro ⟨h1, h2, h3⟩; exact ⟨h1, h2, fun j hj => h3 j (preds_sub hj)⟩
  · rintro ⟨h1, h2, h3⟩
    refine ⟨h1, h2, fun j hj => ?_⟩
    rcases preds_or hj with h | ⟨rfl, _⟩
    · exact h3 j h
    · exact hi
theorem ready_sub {listed : Array Bool} (hs : listed.size = ops.length) {k : Nat} (h : k ∈ Region.ready .any (firstOf ops is i).toArray listed) : k ∈ Region.ready .any ops.toArray listed := by
  rw [mem_ready (by rw [firstOf_len]; exact hs), firstOf_len] at h
  exact (mem_ready hs).2 ⟨h.1, h.2.1, fun j hj => h.2.2 j (preds_sub hj)⟩
theorem yielded_first (tmps : Array Value) : yielded (firstOf ops is i).toArray tmps = yielded ops.toArray tmps := by
  funext j
  unfold yielded
  have : ((firstOf ops is i).toArray[j]?).bind (·.dst) = (ops.toArray[j]?).bind (·.dst) := by
    rw [List.getElem?_toArray, List.getElem?_toArray]
    cases h : ops[j]? with
    | none => rw [firstOf_none h]
    | some o => rw [firstOf_get h]; split <;> rfl
  rw [this]
theorem wpOp_first {F : Fence} {n : Nat} {Q : Exit → Act → World → Prop} {k : Nat} {K : Act → World → Prop} {a : Act} {w : World} (h : wpOpIn F n P (firstOf ops is i).toArray Q k K a w) : wpOpIn F n P ops.toArray Q k K a w := by
  unfold wpOpIn at h ⊢
  rw [List.getElem?_toArray] at h ⊢
  cases ho : ops[k]? with
  | none => rw [firstOf_none ho] at h; exact h
  | some o =>
    rw [firstOf_get ho, yielded_first] at h
    simp only at h ⊢
    split at h
    · exact h
    · exact h
theorem any_first {F : Fence} {n : Nat} {Q : Exit → Act → World → Prop} : ∀ (fuel : Nat) (listed : Array Bool) (a : Act) (w : World), listed.size = ops.length → On listed i → wpAnyIn F n P .any (firstOf ops is i).toArray Q fuel listed a w → wpAnyIn F n P .any ops.toArray Q fuel listed a w
  | 0, listed, a, w, hs, hi, h => by
    refine ⟨?_, h.2⟩
    apply List.eq_nil_iff_forall_not_mem.2
    intro k hk
    have := (ready_first (is := is) hs hi k).2 hk
    rw [h.1] at this; cases this
  | fuel + 1, listed, a, w, hs, hi, h => by
    refine ⟨fun hr => h.1 ?_, fun k hk => ?_⟩
    · apply List.eq_nil_iff_forall_not_mem.2
      intro k hk
      have := (ready_first (is := is) hs hi k).1 hk
      rw [hr] at this; cases this
    · have hk' := (ready_first (is := is) hs hi k).2 hk
      have hlt := ((mem_ready hs).1 hk).1
      refine wpOpIn_mono (fun a w h => ?_) (wpOp_first (h.2 k hk'))
      exact any_first fuel _ a w (by simpa using hs) ((on_set (by omega)).2 (.inr hi)) h
theorem lowerOps_first {all : List Oper} : ∀ (l l' : List Oper), (∀ j : Nat, (l'[j]?).map (fun o => (o.dst, o.op, o.type, o.guard)) = (l[j]?).map (fun o => (o.dst, o.op, o.type, o.guard))) → lowerOps P (firstOf all is i) l' = lowerOps P all l
  | [], [], _ => rfl
  | [], o :: l', h => by have := h 0; simp at this
  | o :: l, [], h => by have := h 0; simp at this
  | o :: l, o' :: l', h => by
    have h0 := h 0
    simp only [List.getElem?_cons_zero, Option.map_some, Option.some.injEq, Prod.mk.injEq] at h0
    obtain ⟨e1, e2, e3, e4⟩ := h0
    have ih := lowerOps_first (all := all) l l' fun j => by simpa using h (j + 1)
    have hg : guardOf (firstOf all is i) o'.guard = guardOf all o.guard := by
      rw [e4]
      unfold guardOf
      cases o.guard with
      | none => rfl
      | some jb =>
        obtain ⟨j, b⟩ := jb
        have : ((firstOf all is i)[j]?).bind (·.dst) = (all[j]?).bind (·.dst) := by
          cases hj : all[j]? with
          | none => rw [firstOf_none hj]
          | some o => rw [firstOf_get hj]; split <;> rfl
        simp only [this]
    have ho : lowerOp P o' = lowerOp P o := by
      cases o; cases o'
      simp only at e1 e2 e3 e4
      subst e1 e2 e3 e4
      rfl
    simp only [lowerOps, ih, hg, ho, e1]
theorem low_first (h : lowerOps P ops ops = some ll) : lowerOps P (firstOf ops is i) (firstOf ops is i) = some ll := by
  rw [lowerOps_first ops (firstOf ops is i) fun j => ?_, h]
  cases hj : ops[j]? with
  | none => rw [firstOf_none hj]
  | some o => rw [firstOf_get hj]; split <;> rfl

structure InvB (w0 : World) (B : OH) (ops : List Oper) (ll : List LOp) (hv : Nat → Bool) (wb : World) (listed : Array Bool) (ta : List Value) (w : World) (done : List Nat) (t : List Value) (H : HL) : Prop where
  size : listed.size = ops.length
  inDone : ∀ i, On listed i → i ∈ done
  closed : ∀ i, On listed i → ∀ j ∈ predsOf ops i, On listed j
  heavy : ∀ i ∈ done, hv i = true → On listed i
  len : ta.length = t.length
  agree : ∀ x, (∀ i ∈ done, ¬ On listed i → ∀ o, ll[i]? = some o → o.dst ≠ some x) → gt ta x = gt t x
  pend : ∀ i ∈ done, ¬ On listed i → ∀ o, ll[i]? = some o → Pend B t H o
  knows : Knows w0 (den H B) w
  kd : KeepD wb w
theorem Inv.toB {A : Nat → Nat → Bool} {c : List Nat} {Q : Out → Prop} {listed : Array Bool} {ta : List Value} {done rest : List Nat} {t : List Value} {H : HL} (I : Inv w0 B G ops ll A hv c Q wb listed ta w done rest t H) : InvB w0 B ops ll hv wb listed ta w done t H :=
  ⟨I.size, I.inDone, I.closed, I.heavy, I.len, I.agree, I.pend, I.knows, I.kd⟩
theorem InvB.inv {A : Nat → Nat → Bool} {Q : Out → Prop} {listed : Array Bool} {ta : List Value} {done rest : List Nat} {t : List Value} {H : HL} (I : InvB w0 B ops ll hv wb listed ta w done t H)
    (hg : ∀ N, good B H N → Q (exDraw B G (mkDs ll hv A done rest) (some (.normal, ⟨t, H, N⟩)))) : Inv w0 B G ops ll A hv (done ++ rest) Q wb listed ta w done rest t H :=
  ⟨I.size, rfl, I.inDone, I.closed, I.heavy, I.len, I.agree, I.pend, I.knows, hg, I.kd⟩
theorem InvB.first {listed : Array Bool} {ta : List Value} {done : List Nat} {t : List Value} {H : HL} (I : InvB w0 B ops ll hv wb listed ta w done t H) (hin : ∀ j ∈ is, j ∉ done) : InvB w0 B (firstOf ops is i) ll hv wb listed ta w done t H :=
  ⟨by rw [firstOf_len]; exact I.size, I.inDone, fun k hk j hj => (preds_or hj).elim (I.closed k hk j) fun h => (hin k h.2 (I.inDone k hk)).elim, I.heavy, I.len, I.agree, I.pend, I.knows, I.kd⟩

inductive Tr (ll : List LOp) (hv : Nat → Bool) : List Oper → List Nat → LC → Prop
  | leaf {ops : List Oper} {A : Nat → Nat → Bool} {done rest : List Nat} (F : Fits ops ll A hv (done ++ rest)) : Tr ll hv ops done (.draw (mkDs ll hv A done rest))
  | node {ops : List Oper} {A : Nat → Nat → Bool} {done rest : List Nat} (is : List Nat) (as : List LC) (F : FitsP ops ll A hv (done ++ rest))
      (ha : ∀ u h v, done ++ rest = u ++ h :: v → hv h = true → ∀ j, j < ops.length → j ∉ u → j ≠ h → A j h = true)
      (his : ∀ j, j < ops.length → j ∉ done ++ rest → (∀ p ∈ predsOf ops j, p ∈ done ++ rest) → j ∈ is)
      (hin : ∀ j ∈ is, j ∉ done ++ rest ∧ j < ops.length) (hne : is ≠ [])
      (alt : Nat → LC) (hidx : ∀ j ∈ is, ∃ k : Nat, as[k]? = some (alt j)) (hT : ∀ j, j ∈ is → Tr ll hv (firstOf ops is j) (done ++ rest) (alt j)) : Tr ll hv ops done (.seq (.draw (mkDs ll hv A done rest)) (altsLC as))

theorem alts_goal {Q : Out → Prop} (h0 : ¬ Q none) {t : List Value} {H : HL} : ∀ (as : List LC) (F k : Nat) (a : LC), as[k]? = some a → (∀ N, good B H N → Q (exec B G F (altsLC as) ⟨t, H, N⟩)) → ∃ F', ∀ N, good B H N → Q (exec B G F' a ⟨t, H, N⟩)
  | [], F, k, a, ha, _ => by cases ha
  | [b], F, 0, a, ha, h => by
    obtain rfl : b = a := by simpa using ha
    exact ⟨F, h⟩
  | [b], F, k + 1, a, ha, _ => by simp at ha
  | b :: c :: l, 0, k, a, ha, h => ⟨0, fun N hN => (h0 (by simpa [exec] using h N hN)).elim⟩
  | b :: c :: l, F + 1, 0, a, ha, h => by
    obtain rfl : b = a := by simpa using ha
    refine ⟨F, fun N hN => ?_⟩
    exact h ⟨N.n, N.c, fun i => match i with | 0 => true | i + 1 => N.g i, N.r⟩ hN
  | b :: c :: l, F + 1, k + 1, a, ha, h => by
    refine alts_goal h0 (c :: l) F k a (by simpa using ha) fun N hN => ?_
    exact h ⟨N.n, N.c, fun i => match i with | 0 => false | i + 1 => N.g i, N.r⟩ hN

theorem any_pre {A : Nat → Nat → Bool} {c : List Nat} (hG : SoundG P w0 B G) (F : FitsP ops ll A hv c) (hlow : lowerOps P ops ops = some ll) {ds : List Deferred} {Q : Out → Prop} (h0 : ¬ Q none) {Qx : Exit → Act → World → Prop}
    (ha : ∀ u h v, c = u ++ h :: v → hv h = true → ∀ j, j < ops.length → j ∉ u → j ≠ h → A j h = true)
    (his : ∀ j, j < ops.length → j ∉ c → (∀ p ∈ predsOf ops j, p ∈ c) → j ∈ is)
    (hin : ∀ j ∈ is, j ∉ c ∧ j < ops.length) (hne : is ≠ [])
    (hPx : ∀ (ta t' : List Value) H' w' v, KeepD wb w' → Knows w0 (den H' B) w' → (∀ N', good B H' N' → Q (some (.pan v, ⟨t', H', N'⟩))) → Qx (.panic [{ v, recovered := false }]) (Act.mk ta.toArray ds) w')
    (hBr : ∀ (fuel : Nat) (listed : Array Bool) (ta : List Value) (w : World) (t : List Value) (H : HL), left ops.length listed ≤ fuel → InvB w0 B ops ll hv wb listed ta w c t H → (∀ N, good B H N → Q (some (.normal, ⟨t, H, N⟩))) → ∀ j ∈ is, wpAnyIn (Fw rd) 0 P .any (firstOf ops is j).toArray Qx fuel listed (Act.mk ta.toArray ds) w) :
    ∀ (m fuel : Nat) (listed : Array Bool) (ta : List Value) (w : World) (done rest : List Nat) (t : List Value) (H : HL), fuel + rest.length ≤ m → left ops.length listed ≤ fuel → Inv w0 B G ops ll A hv c Q wb listed ta w done rest t H →
      wpAnyIn (Fw rd) 0 P .any ops.toArray Qx fuel listed (Act.mk ta.toArray ds) w := by
  obtain ⟨i0, hi0⟩ : ∃ i0, i0 ∈ is := by
    cases is with
    | nil => exact (hne rfl).elim
    | cons i l => exact ⟨i, List.mem_cons_self⟩
  have hoff0 : ∀ {listed : Array Bool} {ta : List Value} {w : World} {done rest : List Nat} {t : List Value} {H : HL}, Inv w0 B G ops ll A hv c Q wb listed ta w done rest t H → ¬ On listed i0 := fun I h => by
    have := I.inDone i0 h
    exact (hin i0 hi0).1 (by rw [I.split]; exact List.mem_append_left _ this)
  intro m
  induction m with
  | zero =>
    intro fuel listed ta w done rest t H hm hf I
    exact absurd (left_zero (by omega : left ops.length listed = 0) i0 (hin i0 hi0).2) (hoff0 I)
  | succ m ih =>
    intro fuel listed ta w done rest t H hm hf I
    by_cases hlight : ∃ i r, rest = i :: r ∧ hv i = false
    · obtain ⟨i, r, rfl, hi⟩ := hlight
      obtain ⟨t', I'⟩ := I.advance F h0 hi
      exact ih fuel listed ta w _ r t' H (by simp at hm ⊢; omega) hf I'
    · have hhead : ∀ i r, rest = i :: r → hv i = true := fun i r h => by
        cases hh : hv i with
        | true => rfl
        | false => exact absurd ⟨i, r, h, hh⟩ hlight
      cases fuel with
      | zero => exact absurd (left_zero (by omega : left ops.length listed = 0) i0 (hin i0 hi0).2) (hoff0 I)
      | succ fuel =>
        refine ⟨fun hr => ?_, fun i hi => ?_⟩
        · cases rest with
          | nil =>
            have hc : c = done := by rw [I.split, List.append_nil]
            subst hc
            have hb := hBr (fuel + 1) listed ta w t H hf I.toB (fun N hN => by have := I.goal N hN; simpa [mkDs, exDraw] using this) i0 hi0
            refine hb.1 ?_
            apply List.eq_nil_iff_forall_not_mem.2
            intro k hk
            have := ready_sub (is := is) I.size hk
            rw [hr] at this; cases this
          | cons h r =>
            have hoff : ¬ On listed h := fun hon => (F.topo done h r I.split).1 (I.inDone h hon)
            haveI : DecidablePred (On listed) := fun _ => Classical.propDecidable _
            obtain ⟨u, j, v, hc, hj, hu⟩ := first_off (p := On listed) c ⟨h, by rw [I.split]; simp, hoff⟩
            have hmem : j ∈ Region.ready .any ops.toArray listed := (mem_ready I.size).2 ⟨F.lt j (by rw [hc]; simp), hj, fun k hk => hu k ((F.topo u j v hc).2 k hk)⟩
            rw [hr] at hmem
            cases hmem
        obtain ⟨hlt, hoff, hp⟩ := (mem_ready I.size).1 hi
        have hleft := left_set I.size hlt hoff
        obtain ⟨oo, hoo⟩ : ∃ oo, ops[i]? = some oo := ⟨ops[i], List.getElem?_eq_getElem hlt⟩
        obtain ⟨g, ho, hg⟩ := (low_get hlow).2 i oo hoo
        by_cases hd : i ∈ done
        · unfold wpOpIn
          rw [List.getElem?_toArray, hoo]
          simp only
          rw [wanted_eq hg ta]
          have hhi : hv i = false := by
            cases h : hv i with
            | false => rfl
            | true => exact absurd (I.heavy i hd h) hoff
          have hag := I.agreeL F hhi ho hp
          obtain ⟨hl, _⟩ := F.light i _ hhi ho
          obtain ⟨x, hx, hP⟩ := I.pend i hd hoff _ ho
          have hwg : wantG ta g = wantG t g := wantG_congr fun y hy => hag y (List.mem_append_right _ hy)
          rw [hwg]
          simp only at hx hP
          by_cases hw : wantG t g = true
          · rw [if_pos hw] at hP ⊢
            obtain ⟨v, hv1, hv2⟩ := hP
            refine light_sound hG (lo := lowerOp P oo) rfl (v := v) hl I.knows (by rw [← hv1]; exact light_congr hl fun y hy => hag y (List.mem_append_left _ hy)) fun w' hkd hk' => ?_
            rw [hx]
            exact ih fuel _ (st ta x v) w' done rest t H (by omega) (by omega) (I.lightStep F hlt hd hoff hp ho hx hv2 hkd hk')
          · rw [if_neg hw] at hP ⊢
            rw [put_eq, hx]
            exact ⟨fun _ _ => trivial, ih fuel _ (st ta x undef) w done rest t H (by omega) (by omega) (I.lightStep F hlt hd hoff hp ho hx (by rw [hP]; split <;> rfl) (.refl w) I.knows)⟩
        · cases rest with
          | nil =>
            have hc : c = done := by rw [I.split, List.append_nil]
            subst hc
            have hii : i ∈ is := his i hlt hd fun p hpp => I.inDone p (hp p hpp)
            have hb := hBr (fuel + 1) listed ta w t H hf I.toB (fun N hN => by have := I.goal N hN; simpa [mkDs, exDraw] using this) i hii
            have hr1 : i ∈ Region.ready .any (firstOf ops is i).toArray listed := (mem_ready (by rw [firstOf_len]; exact I.size)).2 ⟨by rw [firstOf_len]; exact hlt, hoff, by rw [preds_self]; exact hp⟩
            refine wpOpIn_mono (fun a w h => ?_) (wpOp_first (hb.2 i hr1))
            exact any_first fuel _ a w (by simpa using I.size) ((on_set (by rw [I.size]; exact hlt)).2 (.inl rfl)) h
          | cons h r =>
            have hh := hhead h r rfl
            obtain rfl : i = h := by
              apply Classical.byContradiction
              intro hne'
              have hA := ha done h r I.split hh i hlt hd hne'
              have := anc_on F I.closed i hp h hA
              exact absurd (I.inDone h this) (F.topo done h r I.split).1
            unfold wpOpIn
            rw [List.getElem?_toArray, hoo]
            simp only
            rw [wanted_eq hg ta]
            have hag := I.agreeH F hh ho hp
            have hwg : wantG ta g = wantG t g := wantG_congr fun y hy => hag y (List.mem_append_right _ hy)
            rw [hwg]
            have hgoal : ∀ N, good B H N → Q (exDraw B G (mkDs ll hv A (done ++ [i]) r) (watchS B (watchesOf ll hv A i done) (stepX B G ⟨oo.dst, lowerOp P oo, g⟩ ⟨t, H, N⟩))) := fun N hN => by
              have := I.goal N hN
              simpa only [mkDs, ho, hh, if_true, exDraw] using this
            by_cases hw : wantG t g = true
            · rw [if_pos hw]
              refine opE_sound hG (lo := lowerOp P oo) rfl (Q := fun res => Q (exDraw B G (mkDs ll hv A (done ++ [i]) r) (watchS B (watchesOf ll hv A i done) (putE t oo.dst res)))) ?_ I.knows ?_ ?_ ?_
              · simpa [putE, watch_none, exDraw_none] using h0
              · intro N hN
                have := hgoal N hN
                rw [stepE_congr (t' := t) fun y hy => hag y (List.mem_append_left _ hy)]
                simpa [stepX, hw] using this
              · intro v H' w' hkd hk' hq
                have := I.heavyStep F h0 hh hp ho (v := v) hkd hk' hq
                exact ih fuel _ _ w' _ r _ H' (by simp at hm ⊢; omega) (by omega) this
              · intro v H' w' hkd hk' hq
                refine hPx ta t H' w' v (I.kd.trans hkd) hk' fun N hN => ?_
                have := hq N hN
                simpa [putE, watch_pan, exDraw_pan] using this
            · rw [if_neg hw, put_eq]
              have := I.heavyStep F h0 hh hp ho (v := undef) (.refl w) I.knows fun N hN => by
                have := hgoal N hN
                have hw' : wantG t g = false := by simpa using hw
                simpa [stepX, hw', putE] using this
              exact ⟨fun _ _ => trivial, ih fuel _ _ w _ r _ H (by simp at hm ⊢; omega) (by omega) this⟩

theorem any_tree (hG : SoundG P w0 B G) {ds : List Deferred} {Qx : Exit → Act → World → Prop} {done : List Nat} {lc : LC} (T : Tr ll hv ops done lc) : ∀ {Q : Out → Prop} (_ : ¬ Q none) (_ : lowerOps P ops ops = some ll)
    (_ : ∀ t' H' w', KeepD wb w' → Knows w0 (den H' B) w' → (∀ N', good B H' N' → Q (some (.normal, ⟨t', H', N'⟩))) → Qx .normal (Act.mk t'.toArray ds) w')
    (_ : ∀ (ta t' : List Value) H' w' v, KeepD wb w' → Knows w0 (den H' B) w' → (∀ N', good B H' N' → Q (some (.pan v, ⟨t', H', N'⟩))) → Qx (.panic [{ v, recovered := false }]) (Act.mk ta.toArray ds) w')
    (F fuel : Nat) (listed : Array Bool) (ta : List Value) (w : World) (t : List Value) (H : HL), left ops.length listed ≤ fuel → InvB w0 B ops ll hv wb listed ta w done t H → (∀ N, good B H N → Q (exec B G F lc ⟨t, H, N⟩)) →
      wpAnyIn (Fw rd) 0 P .any ops.toArray Qx fuel listed (Act.mk ta.toArray ds) w := by
  induction T with
  | @leaf ops A done rest Ft =>
    intro Q h0 hlow hQx hPx F fuel listed ta w t H hf I hQ
    cases F with
    | zero => exact (h0 (hQ _ (good_of I.knows))).elim
    | succ F =>
      exact any_sound hG Ft hlow h0 (keep := []) (fun _ _ _ _ _ h => by cases h) hQx (fun ta t' H' w' v _ => hPx ta t' H' w' v) (fuel + rest.length) fuel listed ta w done rest t H (Nat.le_refl _) hf (I.inv fun N hN => hQ N hN)
  | @node ops A done rest is as Fp ha his hin hne alt hidx hT ih =>
    intro Q h0 hlow hQx hPx F fuel listed ta w t H hf I hQ
    cases F with
    | zero => exact (h0 (hQ _ (good_of I.knows))).elim
    | succ F =>
      cases F with
      | zero => exact (h0 (by simpa [exec, seqO] using hQ _ (good_of I.knows))).elim
      | succ F =>
        refine any_pre (Q := fun o => Q (seqO (exec B G (F + 1) (altsLC as)) o)) hG Fp hlow (by simpa [seqO] using h0) ha his hin hne (fun ta t' H' w' v h1 h2 h3 => hPx ta t' H' w' v h1 h2 fun N hN => by simpa [seqO] using h3 N hN) ?_ (fuel + rest.length) fuel listed ta w done rest t H (Nat.le_refl _) hf (I.inv fun N hN => hQ N hN)
        intro fuel listed ta w t H hf I hQ j hj
        obtain ⟨k, hk⟩ := hidx j hj
        obtain ⟨F', hF'⟩ := alts_goal h0 as (F + 1) k (alt j) hk (fun N hN => by simpa [seqO] using hQ N hN)
        exact ih j hj h0 (low_first hlow) hQx hPx F' fuel listed ta w t H (by rw [firstOf_len]; exact hf) (I.first fun j hj => (hin j hj).1) hF'
theorem tree_sound (hm : P.follows .mixedOrders = true) (hG : SoundG P w0 B G) {lc : LC} (T : Tr ll hv ops [] lc) (hlow : lowerOps P ops ops = some ll) {ds : List Deferred} {Q : Out → Prop} (h0 : ¬ Q none) {Qx : Exit → Act → World → Prop}
    (hQx : ∀ t' H' w', KeepD wb w' → Knows w0 (den H' B) w' → (∀ N', good B H' N' → Q (some (.normal, ⟨t', H', N'⟩))) → Qx .normal (Act.mk t'.toArray ds) w')
    (hPx : ∀ (ta t' : List Value) H' w' v, KeepD wb w' → Knows w0 (den H' B) w' → (∀ N', good B H' N' → Q (some (.pan v, ⟨t', H', N'⟩))) → Qx (.panic [{ v, recovered := false }]) (Act.mk ta.toArray ds) w') {t : List Value} {H : HL} (hkd : KeepD wb w) (hk : Knows w0 (den H B) w) {F : Nat} (hQ : ∀ N, good B H N → Q (exec B G F lc ⟨t, H, N⟩)) {id : Nat} :
    (Code.region id ops.toArray true).wpIn (Fw rd) 0 P Qx (Act.mk t.toArray ds) w := by
  refine wpIn_region_any hm ?_
  have hno : ∀ i, ¬ On (Array.replicate ops.toArray.size false) i := fun i hi => by
    unfold On at hi
    rw [Array.getD_eq_getD_getElem?, Array.getElem?_replicate] at hi
    split at hi <;> simp at hi
  refine any_tree hG T h0 hlow hQx hPx F _ _ t _ t H ?_ ⟨by simp, fun i hi => (hno i hi).elim, fun i hi => (hno i hi).elim, fun i hi => (by cases hi), rfl, fun _ _ => rfl, fun i hi => (by cases hi), hk.drawn _, hkd.trans ⟨Nat.le_refl _, fun _ _ h => h⟩⟩ hQ
  unfold left
  exact Nat.le_trans (List.length_filter_le _ _) (by simp)

theorem afterP_spec {n : Nat} {A : Nat → Nat → Bool} : ∀ {c done : List Nat}, afterP n A hv done c = true → ∀ u h v, c = u ++ h :: v → hv h = true → ∀ j, j < n → j ∉ done ++ u → j ≠ h → A j h = true
  | [], _, _, u, h, v, hc, _, _, _, _, _ => by cases u <;> cases hc
  | x :: c, done, hB, u, h, v, hc, hh, j, hj, hnu, hjh => by
    simp only [afterP, Bool.and_eq_true, Bool.or_eq_true, Bool.not_eq_true', List.all_eq_true] at hB
    cases u with
    | nil =>
      simp only [List.nil_append, List.cons.injEq] at hc
      obtain ⟨rfl, rfl⟩ := hc
      rcases hB.1 with h1 | h1
      · rw [hh] at h1; cases h1
      · have := h1 j (List.mem_range.2 hj)
        rcases this with (h2 | h2) | h2
        · exact (hnu (by simpa using h2)).elim
        · exact (hjh (by simpa using h2)).elim
        · exact h2
    | cons y u =>
      simp only [List.cons_append, List.cons.injEq] at hc
      obtain ⟨rfl, hc⟩ := hc
      exact afterP_spec hB.2 u h v hc hh j hj (by simpa using hnu) hjh
theorem fitsP_spec {c : List Nat} {n : Nat} {ms : List Nat} (hn : n = ops.length) (hlen : ll.length = ops.length) (h : fitsP ops ll (ancB n ms) hv c = true) : FitsP ops ll (ancB n ms) hv c ∧ ∀ u h v, c = u ++ h :: v → hv h = true → ∀ j, j < ops.length → j ∉ u → j ≠ h → ancB n ms j h = true := by
  subst hn
  simp only [fitsP, Bool.and_eq_true] at h
  obtain ⟨⟨⟨⟨h2, h3⟩, h4⟩, h5⟩, h6⟩ := h
  have hlt : ∀ i (o : LOp), ll[i]? = some o → i ∈ List.range ops.length := fun i o ho => by
    rw [List.mem_range, ← hlen]
    exact (List.getElem?_eq_some_iff.1 ho).1
  have h6' := fun i (o : LOp) (ho : ll[i]? = some o) => (by
    have := List.all_eq_true.1 h6 i (hlt i o ho)
    simpa only [ho, Bool.and_eq_true] using this)
  have h7 := fun i (o : LOp) (ho : ll[i]? = some o) j (o' : LOp) (ho' : ll[j]? = some o') (x : Tmp) (hx : o'.dst = some x) => (by
    have := List.all_eq_true.1 (h6' i o ho).2 j (hlt j o' ho')
    simpa only [ho', hx, Bool.and_eq_true] using this)
  refine ⟨⟨hlen, fun i hi => by simpa using List.all_eq_true.1 h2 i hi, fun u i v hc => by simpa using topoB_spec h3 u i v hc, fun i j hA => ?_, fun i o hi ho => ?_, ?_, ?_, ?_⟩, fun u h v hc hh j hj hnu hjh => afterP_spec h4 u h v hc hh j hj (by simpa using hnu) hjh⟩
  · have hi : i < ops.length ∧ j < ops.length := by
      unfold ancB at hA
      simp only [Bool.and_eq_true, decide_eq_true_eq] at hA
      exact hA.1
    have := List.all_eq_true.1 (List.all_eq_true.1 h5 i (List.mem_range.2 hi.1)) j (List.mem_range.2 hi.2)
    simp only [hA, Bool.not_true, Bool.false_or, List.any_eq_true, Bool.or_eq_true, beq_iff_eq, Bool.and_eq_true, decide_eq_true_eq] at this
    exact this
  · have := (h6' i o ho).1
    simp only [hi, Bool.false_or, Bool.and_eq_true] at this
    exact ⟨this.1, Option.isSome_iff_exists.1 this.2⟩
  · intro i o j o' x hi ho ho' hx hm
    have := (h7 i o ho j o' ho' x hx).1
    have hm' : o.tmps.contains x = true := by simpa using hm
    simp only [hm', Bool.not_true, Bool.false_or, hi, Bool.false_eq_true, if_false, Bool.and_eq_true, Bool.or_eq_true, bne_iff_ne, List.contains_iff_mem] at this
    exact this
  · intro i o j o' x hi ho ho' hx hm
    have := (h7 i o ho j o' ho' x hx).1
    have hm' : o.tmps.contains x = true := by simpa using hm
    simp only [hm', Bool.not_true, Bool.false_or, hi, if_true, Bool.or_eq_true, beq_iff_eq, List.contains_iff_mem] at this
    rcases this with ((h | h) | h) | h
    · exact .inl h
    · exact .inr (.inl h)
    · exact .inr (.inr (.inl h))
    · exact .inr (.inr (.inr h))
  · intro i o j o' x ho ho' hx hx'
    have := (h7 i o ho j o' ho' x hx').2
    simpa [hx] using this
theorem allSome_spec {g : Nat → Option LC} : ∀ {is : List Nat} {as : List LC}, allSome (is.map g) = some as → ∀ j ∈ is, ∃ (k : Nat) (a : LC), as[k]? = some a ∧ g j = some a
  | [], as, _, j, hj => by cases hj
  | i :: is, as, h, j, hj => by
    simp only [List.map_cons] at h
    cases hg : g i with
    | none => simp [hg, allSome] at h
    | some a =>
      simp only [hg, allSome] at h
      cases hr : allSome (is.map g) with
      | none => simp [hr] at h
      | some r =>
        simp only [hr, Option.some.injEq] at h
        subst h
        rcases List.mem_cons.1 hj with rfl | hj
        · exact ⟨0, a, rfl, hg⟩
        · obtain ⟨k, b, h1, h2⟩ := allSome_spec hr j hj
          exact ⟨k + 1, b, by simpa using h1, h2⟩
theorem lowerT_tr {hs : List Bool} : ∀ (f : Nat) (ops : List Oper) (done : List Nat) (lc : LC), ll.length = ops.length → lowerT ll hs f ops done = some lc → Tr ll (fun i => hs.getD i true) ops done lc
  | 0, _, _, _, _, h => by cases h
  | f + 1, ops, done, lc, hlen, h => by
    simp only [lowerT] at h
    generalize hr : walkOf ops hs ops.length done = r at h
    obtain ⟨c, is⟩ := r
    simp only at h
    split at h
    · rename_i hc
      obtain ⟨hc1, hc2⟩ := hc
      obtain ⟨hF, ha⟩ := fitsP_spec rfl hlen hc2
      generalize c.drop done.length = rest at hc1 h
      subst hc1
      cases is with
      | nil =>
        simp only at h
        split at h
        · rename_i hall
          simp only [Option.some.injEq] at h
          subst h
          refine .leaf ⟨hF, fun i hi => by simpa using List.all_eq_true.1 hall i (List.mem_range.2 hi), fun u h v hc hh j hj => ?_⟩
          obtain ⟨v1, v2, rfl⟩ := List.append_of_mem hj
          have ht := hF.topo (u ++ h :: v1) j v2 (by rw [hc]; simp)
          have hjl := hF.lt j (by rw [hc]; simp)
          exact ha u h _ hc hh j hjl (fun hm => ht.1 (by simp [hm])) (fun e => ht.1 (by simp [e]))
        · cases h
      | cons i0 is' =>
        simp only at h
        split at h
        · rename_i hck
          simp only [Bool.and_eq_true, List.all_eq_true, decide_eq_true_eq] at hck
          obtain ⟨hk1, hk2⟩ := hck
          cases has : allSome ((i0 :: is').map fun i => lowerT ll hs f (firstOf ops (i0 :: is') i) (done ++ rest)) with
          | none => simp only [has, Option.map_none] at h; cases h
          | some as =>
            simp only [has, Option.map_some, Option.some.injEq] at h
            subst h
            have hsp := allSome_spec has
            refine .node (i0 :: is') as hF ha (fun j hj hn hp => ?_) (fun j hj => ?_) (by simp) (fun j => (lowerT ll hs f (firstOf ops (i0 :: is') j) (done ++ rest)).getD .bad) (fun j hj => ?_) (fun j hj => ?_)
            · have := hk2 j (List.mem_range.2 hj)
              rcases Bool.or_eq_true_iff.1 this with h1 | h1
              · rcases Bool.or_eq_true_iff.1 h1 with h1 | h1
                · exact (hn (by simpa using h1)).elim
                · simpa using h1
              · obtain ⟨p, hp1, hp2⟩ := List.any_eq_true.1 h1
                have := hp p hp1
                simp at hp2
                exact (by simp at this; rcases this with h | h <;> simp_all)
            · have := hk1 j hj
              constructor
              · simpa using this.1
              · simpa using this.2
            · obtain ⟨k, a, h1, h2⟩ := hsp j hj
              exact ⟨k, by rw [h1, h2]; rfl⟩
            · obtain ⟨k, a, h1, h2⟩ := hsp j hj
              rw [h2]
              exact lowerT_tr f _ _ a (by rw [firstOf_len]; exact hlen) h2
        · cases h
    · cases h
theorem lowerTree_tr {lc : LC} (h : lowerTree P ops = some lc) : ∃ ll hs, lowerOps P ops ops = some ll ∧ Tr ll hs ops [] lc ∧ ∃ a b c, lc = .seq a (.fork b c) := by
  unfold lowerTree at h
  cases hl : lowerOps P ops ops with
  | none => simp [hl] at h
  | some ll =>
    simp only [hl] at h
    split at h
    · rename_i a b c ht
      simp only [Option.some.injEq] at h
      exact ⟨ll, _, rfl, h ▸ lowerT_tr 6 ops [] _ (low_get hl).1 ht, a, b, c, h.symm⟩
    · cases h
end
end Go.Proofs.YtbpaekbjpapgeaaGreatDoor.K
namespace Go.Proofs.YtbpaekbjpapgeaaGreatDoor.K
variable {P : Program} {w0 w : World} {B : OH} {H : HL} {t : List Value} {G : Env}

def LoopWp (F : Fence) (P : Program) (c : Code) (Q : Exit → Act → World → Prop) (a : Act) (w : World) : Prop :=
  ∀ (b : Frame) (k : List Item) (cs : List Frame), b.roundOf = F.round → F.fn b.fn → F.room (cs.length + 1 + 0) → ∃ e a' w', Q e a' w' ∧ ArrivesIn (Machine.fenced P F) P (lone (b.atR a (.code c :: .inLoop c :: k)) cs w) b k cs e a' w'
theorem wp_of_loopWp {F : Fence} {c : Code} {Q : Exit → Act → World → Prop} {a : Act} {w : World} (h : LoopWp F P c Q a w) : (Code.loop c).wpIn F 0 P Q a w :=
  fun b k cs hro hb hr => let ⟨e, a', w', q, r⟩ := h b k cs hro hb hr; ⟨e, a', w', q, .of_steps (.one (fenced_calm hb hr rfl) stepR_loop) r⟩
theorem loopWp_step {F : Fence} {c : Code} {Q : Exit → Act → World → Prop} {a : Act} {w : World} (h : c.wpIn F 0 P (Exit.then (LoopWp F P c Q) Q) a w) : LoopWp F P c Q a w := by
  intro b k cs hro hb hr
  obtain ⟨e, a₁, w₁, hq, harr⟩ := h b (.inLoop c :: k) cs hro hb hr
  cases e with
  | normal =>
    obtain ⟨e₂, a₂, w₂, hq₂, harr₂⟩ := hq b k cs hro hb hr
    exact ⟨e₂, a₂, w₂, hq₂, .of_steps (StepsIn.trans harr (.one (fenced_calm hb hr rfl) stepR_inLoop)) harr₂⟩
  | exit id => exact ⟨_, a₁, w₁, hq, .pass (x := .inLoop c) rfl (fun _ _ => .inl (by simp)) harr⟩
  | goto l => exact ⟨_, a₁, w₁, hq, .pass (x := .inLoop c) rfl (fun _ _ => .inl (by simp)) harr⟩
  | ret => exact ⟨_, a₁, w₁, hq, .pass (x := .inLoop c) rfl (fun _ _ => .inl (by simp)) harr⟩
  | panic ch => exact ⟨_, a₁, w₁, hq, .pass (x := .inLoop c) rfl (fun _ _ => .inl (by simp)) harr⟩
  | outgrown => exact ⟨_, a₁, w₁, hq, .pass (x := .inLoop c) rfl (fun _ _ => .inl (by simp)) harr⟩
theorem LoopWp.mono {F : Fence} {c : Code} {Q Q' : Exit → Act → World → Prop} {a : Act} {w : World} (h : LoopWp F P c Q a w) (hq : ∀ e a w, Q e a w → Q' e a w) : LoopWp F P c Q' a w :=
  fun b k cs h1 h2 h3 => let ⟨e, a', w', q, r⟩ := h b k cs h1 h2 h3; ⟨e, a', w', hq _ _ _ q, r⟩

theorem marksD_app (ms ms' : List Nat) (ds : List Deferred) : marksD ms' (marksD ms ds) = marksD (ms' ++ ms) ds := by simp [marksD]
theorem Post.lift {wb w1 : World} {keep : List Tmp} {ds : List Deferred} {Q : Out → Prop} {ms : List Nat} (hd : KeepD wb w1) (hm : MarksOk wb w1 ms) {e : Exit} {a : Act} {w2 : World} {fb fb2 : Bool} (hf : fb = true → ms = []) (hf2 : fb = true → fb2 = true) (h : Post w0 B keep (marksD ms ds) Q w1 fb2 e a w2) : Post w0 B keep ds Q wb fb e a w2 := by
  obtain ⟨x, t, ta, H, ms', rfl, rfl, h1, h2, h3, h4, hf3, h5, h6⟩ := h
  exact ⟨x, t, ta, H, ms' ++ ms, rfl, by rw [marksD_app], h1, h2, hd.trans h3, hm.app h4 hd h3, fun h => by rw [hf h, hf3 (hf2 h)]; rfl, h5, h6⟩
theorem Knows.putLoop (hk : Knows w0 (den H B) w) {l : Nat} {r0 r1 r2 : Loop} {st st' : LSt} (hB : B l = none) (hl : lk H l = some (.loop r0 st)) (hw : w.heap[l]? = some (.loop r1)) (hlike : Loop.like r2 r0) (hst : st'.ok r2) :
    Knows w0 (den ((l, .loop r0 st') :: H) B) (w.putObj l (.loop r2)) ∧ KeepD w (w.putObj l (.loop r2)) := by
  have hd : den H B l = some (.loop r0 st) := by simp [den, hB, hl]
  have hlt := (hk.own l _ hd).1
  have hge := hk.mineL l ⟨r0, st, hd⟩
  have hd' : ∀ x, den ((l, .loop r0 st') :: H) B x = if x = l then some (.loop r0 st') else den H B x := fun x => by
    unfold den
    simp only [lk]
    by_cases hx : x = l
    · subst hx; simp [hB]
    · have : (x == l) = false := by simpa using hx
      simp [hx, this]
  refine ⟨⟨hk.os, hk.tape, hk.output, by rw [World.putObj_size]; exact hk.size, fun b hb => by rw [World.putObj_heap_other (by omega)]; exact hk.old b hb, fun r k hr => ?_, fun a ha => ?_, fun r hr => ?_, fun r hr => ?_⟩, ⟨by rw [World.putObj_size]; exact Nat.le_refl _, fun b ds hb => ?_⟩⟩
  · rw [hd'] at hr
    by_cases hx : r = l
    · rw [if_pos hx, Option.some.injEq] at hr
      subst hr
      subst hx
      exact ⟨by rw [World.putObj_size]; exact hlt, r2, World.putObj_heap_same hlt, hlike, hst⟩
    · rw [if_neg hx] at hr
      obtain ⟨q1, q2⟩ := hk.own r k hr
      exact ⟨by rw [World.putObj_size]; exact q1, by rw [World.putObj_heap_other hx]; exact q2⟩
  · by_cases hx : a.block = l
    · unfold World.frozen?
      rw [hx, World.putObj_heap_same hlt]
    · have := hk.fz a ha
      unfold World.frozen? at this ⊢
      rw [World.putObj_heap_other hx]; exact this
  · by_cases hx : r = l
    · subst hx; exact hge
    · refine hk.mine r ?_
      simpa [hd', hx] using hr
  · by_cases hx : r = l
    · subst hx; exact hge
    · refine hk.mineL r ?_
      simpa [hd', hx] using hr
  · have hne : b ≠ l := fun e => by subst e; rw [hw] at hb; cases hb
    rw [World.putObj_heap_other hne]; exact hb

theorem mkDs_mem {ll : List LOp} {hv : Nat → Bool} {A : Nat → Nat → Bool} {i : Nat} {o : LOp} (ho : ll[i]? = some o) : ∀ (c done : List Nat), i ∈ c → ∃ d ∈ mkDs ll hv A done c, d.op = o := by
  intro c
  induction c with
  | nil => intro done hi; cases hi
  | cons x c ih =>
    intro done hi
    simp only [mkDs]
    by_cases hx : i = x
    · subst hx
      refine ⟨_, List.mem_cons_self, ?_⟩
      simp only [ho]
    · obtain ⟨d, h1, h2⟩ := ih (done ++ [x]) (by
        rcases List.mem_cons.1 hi with h | h
        · exact absurd h hx
        · exact h)
      exact ⟨d, List.mem_cons_of_mem _ h1, h2⟩
theorem keeps_nil : ∀ c : LC, keepsB [] c = true
  | .draw l => by simp only [keepsB, List.all_eq_true]; intro o _; cases o.op.dst <;> rfl
  | .seq a b => by simp [keepsB, keeps_nil a, keeps_nil b]
  | .cond _ a b => by simp [keepsB, keeps_nil a, keeps_nil b]
  | .block _ b => by simp [keepsB, keeps_nil b]
  | .loop b => by simp [keepsB, keeps_nil b]
  | .range _ _ a b => by simp [keepsB, keeps_nil a, keeps_nil b]
  | .fork _ _ => rfl
  | .skip => rfl
  | .ops _ => rfl
  | .exit _ => rfl
  | .ret => rfl
  | .bad => rfl
theorem Knows.newObj (hk : Knows w0 (den H B) w) {o : Obj} {k : KB} (hko : k.is (some o)) (hfz : ∀ c e f, o ≠ .cells c e f) : Knows w0 (den ((w.heap.size, k) :: H) B) (w.alloc o) := by
  have hd := fun k' x => den_cons (B := B) (den_fresh hk) k' x
  refine ⟨hk.os, hk.tape, hk.output, by have := hk.size; simp; omega, fun b hb => ?_, fun r k' hr => ?_, fun a ha => ?_, fun r hr => ?_, fun r hr => ?_⟩
  · show (w.heap.push _)[b]? = _
    rw [Array.getElem?_push, if_neg (by have := hk.size; omega)]; exact hk.old b hb
  · rw [hd] at hr
    by_cases h : r = w.heap.size
    · subst h
      simp only [if_true, Option.some.injEq] at hr
      subst hr
      refine ⟨by simp, ?_⟩
      show k.is (w.heap.push _)[w.heap.size]?
      simpa using hko
    · rw [if_neg h] at hr
      obtain ⟨h1, h2⟩ := hk.own r k' hr
      refine ⟨by simp; omega, ?_⟩
      show k'.is (w.heap.push _)[r]?
      rw [Array.getElem?_push, if_neg h]; exact h2
  · by_cases h : a.block = w.heap.size
    · unfold World.frozen?
      rw [h, World.alloc_heap_new]
      cases o <;> first | rfl | exact (hfz _ _ _ rfl).elim
    · rw [World.frozen?_alloc_old _ _ _ h]; exact hk.fz a ha
  · by_cases h : r = w.heap.size
    · subst h; exact hk.size
    · refine hk.mine r ?_
      simpa [hd, h] using hr
  · by_cases h : r = w.heap.size
    · subst h; exact hk.size
    · refine hk.mineL r ?_
      simpa [hd, h] using hr
theorem den_B {x : Nat} (h : den H B x = none) : B x = none := by
  unfold den at h
  cases hB : B x with
  | none => rfl
  | some k => simp [hB] at h
theorem setP_fold : ∀ (ps : List Tmp) (vs t : List Value), ((ps.zip vs).foldl (fun (tm : Array Value) (x : Tmp × Value) => tm.setIfInBounds x.1 x.2) t.toArray) = (setP t ps vs).toArray
  | [], vs, t => by simp [setP]
  | p :: ps, [], t => by simp [setP]
  | p :: ps, v :: vs, t => by
    simp only [List.zip_cons_cons, List.foldl_cons, setP]
    rw [← st_eq, setP_fold ps vs (st t p v)]
theorem isLp_inv {r0 : Loop} {st : LSt} {k : Option KB} (h : isLp r0 st k = true) : k = some (.loop r0 st) := by simpa [isLp] using h
theorem round_sound {keep : List Tmp} {l : Nat} {as bd : Code} {exA exB : S → Out} {rec : Loop} {ps : Array Tmp} {t : List Value} (hBl : B l = none) (h1 : rec.assign = as) (h2 : rec.body = bd) (h3 : rec.params = ps) (h4 : rec.tmps = t.toArray)
    (hA : ∀ (t : List Value) (H : HL) (w : World) (Q : Out → Prop), ¬ Q none → Knows w0 (den H B) w → (∀ N, good B H N → Q (exA ⟨t, H, N⟩)) → ∃ fb, as.wpIn (Fw (some l)) 0 P (Post w0 B keep [] Q w fb) (Act.mk t.toArray []) w)
    (hBd : ∀ (ds : List Deferred) (t : List Value) (H : HL) (w : World) (Q : Out → Prop), ¬ Q none → Knows w0 (den H B) w → (∀ N, good B H N → Q (exB ⟨t, H, N⟩)) → ∃ fb, bd.wpIn (Fw (some l)) 0 P (Post w0 B keep ds Q w fb) (Act.mk t.toArray ds) w) :
    SoundR P w0 B l (yieldC exA exB l rec ps.toList t) := by
  intro H args Q w h0 hQ hk
  have hne := resE_elim (f := fun N => yieldC exA exB l rec ps.toList t args H N) hk h0 hQ
  have hc : isLp rec .ready (lk H l) = true ∧ args.length = ps.toList.length := by
    unfold yieldC at hne
    cases h : (isLp rec .ready (lk H l) && decide (args.length = ps.toList.length)) with
    | false => rw [h] at hne; exact (hne rfl).elim
    | true => simpa using h
  have hl := isLp_inv hc.1
  have hd : den H B l = some (.loop rec .ready) := by simp [den, hBl, hl]
  obtain ⟨_, r1, hw1, hlike, _⟩ := hk.own l _ hd
  have hargs : args.toArray.size = r1.params.size := by rw [hlike.2.2.1, h3]; simpa using hc.2
  have hy := run_yield (P := P) (args := args.toArray) hw1 hargs
  refine ⟨_, _, _, _, hy, ?_⟩
  rw [hlike.2.1, hlike.2.2.1, hlike.2.2.2.1, hlike.2.2.2.2, h1, h2, h3, h4]
  have hfold : ((ps.zip args.toArray).foldl (fun tmps (x : Tmp × Value) => tmps.setIfInBounds x.1 x.2) t.toArray) = (setP t ps.toList args).toArray := by
    rw [← setP_fold, ← Array.foldl_toList]
    simp
  have hQ' : ∀ N, good B H N → Q (begRnd exB l rec (exA ⟨setP t ps.toList args, H, N⟩)) := fun N hN => by
    have := hQ N hN
    unfold yieldC at this
    simpa [hc.1, hc.2] using this
  refine roundIn_of_wpIn trivial ?_
  have hfold' := hfold
  rw [show (fun (tmps : Array Value) (x : Tmp × Value) => match x with | (t, a) => tmps.setIfInBounds t a) = fun tmps x => tmps.setIfInBounds x.1 x.2 from rfl, hfold]
  obtain ⟨fb1, hA1⟩ := hA _ H w (fun out => Q (begRnd exB l rec out)) h0 hk hQ'
  refine wpIn_mono hA1 ?_
  rintro e a1 w1 ⟨x, t1, ta1, H1, ms1, rfl, rfl, ht1, _, hd1, _, _, hk1, hq1⟩
  have hx : x = .normal := by
    cases x with
    | normal => rfl
    | _ => exact (h0 (hq1 _ (good_of hk1))).elim
  subst hx
  obtain rfl := ht1 (by simp)
  show ∃ w₂, _
  have hc1 : isLp rec .ready (lk H1 l) = true := by
    cases h : isLp rec .ready (lk H1 l) with
    | true => rfl
    | false => exact (h0 (by have := hq1 _ (good_of hk1); simpa [begRnd, h] using this)).elim
  have hl1 := isLp_inv hc1
  have hd1' : den H1 B l = some (.loop rec .ready) := by simp [den, hBl, hl1]
  obtain ⟨_, r2, hw2, hlike2, hst2⟩ := hk1.own l _ hd1'
  refine ⟨_, run_beginRound hw2 hst2.1, ?_⟩
  obtain ⟨hk2, hkd2⟩ := hk1.putLoop (r2 := { r2 with state := .busy }) (st' := .busy) hBl hl1 hw2 hlike2 rfl
  obtain ⟨fb2, hB1⟩ := hBd (marksD ms1 []) _ _ _ (fun out => Q (endRnd l rec out)) h0 hk2 (fun N hN => by
    have := hq1 N (good_less (fun y hy => by
      unfold den at hy ⊢
      cases hBy : B y with
      | some _ => simp [hBy] at hy
      | none =>
        simp only [hBy, lk] at hy ⊢
        by_cases hyl : y = l
        · subst hyl; simp at hy
        · have : (y == l) = false := by simpa using hyl
          simpa [this] using hy) hN)
    simpa [begRnd, hc1, lkU] using this)
  refine wpIn_mono hB1 ?_
  rintro e a3 w3 ⟨x, t3, ta3, H3, ms3, rfl, rfl, ht3, _, hd3, _, _, hk3, hq3⟩
  have fin : ∀ (jump : Option Code) (b : Bool) (st' : LSt), (∀ N, good B H3 N → Q (bif isLp rec .busy (lk H3 l) then some (.ret (.bool b), lkU H3 l rec st', N) else none)) → b = jump.isNone → (∀ r : Loop, st'.ok { r with state := if jump.isNone then .ready else .done, pending := jump }) →
      ∃ v w', (Instr.endRound l jump).run P w3 = .ok v w' ∧ ∃ x H', Ending.returned v = endOf x ∧ KeepD w w' ∧ Knows w0 (den H' B) w' ∧ ∀ N', good B H' N' → Q (some (x, H', N')) := by
    intro jump b st' hq hb hst
    have hc3 : isLp rec .busy (lk H3 l) = true := by
      cases h : isLp rec .busy (lk H3 l) with
      | true => rfl
      | false => exact (h0 (by have := hq _ (good_of hk3); simpa [h] using this)).elim
    have hl3 := isLp_inv hc3
    have hd3' : den H3 B l = some (.loop rec .busy) := by simp [den, hBl, hl3]
    obtain ⟨_, r4, hw4, hlike4, _⟩ := hk3.own l _ hd3'
    obtain ⟨hk4, hkd4⟩ := hk3.putLoop (r2 := { r4 with state := if jump.isNone then .ready else .done, pending := jump }) (st' := st') hBl hl3 hw4 hlike4 (hst r4)
    refine ⟨_, _, run_endRound jump hw4, .ret (.bool b), _, by rw [hb]; rfl, ((hd1.trans hkd2).trans hd3).trans hkd4, hk4, fun N hN => ?_⟩
    have := hq N (good_less (fun y hy => by
      unfold den at hy ⊢
      cases hBy : B y with
      | some _ => simp [hBy] at hy
      | none =>
        simp only [hBy, lk] at hy ⊢
        by_cases hyl : y = l
        · subst hyl; simp at hy
        · have : (y == l) = false := by simpa using hyl
          simpa [this] using hy) hN)
    simpa [hc3, lkU] using this
  cases x with
  | normal => exact fin none true .ready (fun N hN => hq3 N hN) rfl fun r => ⟨rfl, rfl⟩
  | ret => exact fin (some .ret) false (.done none) (fun N hN => hq3 N hN) rfl fun r => ⟨rfl, rfl⟩
  | exit i => exact fin (some (.exit i)) false (.done (some i)) (fun N hN => hq3 N hN) rfl fun r => ⟨rfl, rfl⟩
  | pan v => exact (h0 (hq3 _ (good_of hk3))).elim

theorem exec_sound {keep : List Tmp} (hm : P.follows .mixedOrders = true) (hG : SoundG P w0 B G) : ∀ (n : Nat) (c : Code) (rd : Option Nat) (ds : List Deferred) (t : List Value) (H : HL) (w : World) (Q : Out → Prop), (rd = none ∨ flatB (lower P c) = true) → keepsB keep (lower P c) = true → ¬ Q none → Knows w0 (den H B) w →
    (∀ N, good B H N → Q (exec B G n (lower P c) ⟨t, H, N⟩)) → c.wpIn (Fw rd) 0 P (Post w0 B keep ds Q w (flatB (lower P c))) (Act.mk t.toArray ds) w ∧ ∀ b, c = .loop b → LoopWp (Fw rd) P b (Post w0 B keep ds Q w (flatB (lower P c))) (Act.mk t.toArray ds) w := by
  intro n
  induction n with
  | zero => intro c rd ds t H w Q hfl hkp h0 hk hQ; exact (h0 (hQ _ (good_of hk))).elim
  | succ n ih =>
    intro c rd ds t H w Q hfl hkp h0 hk hQ
    have hbad : lower P c = .bad → False := fun e => h0 (by have := hQ _ (good_of hk); rw [e] at this; exact this)
    cases c with
    | skip => exact ⟨wpIn_skip (Post.mk .normal (.refl w) hk hQ), fun b hb => by cases hb⟩
    | region id ops draw =>
      refine ⟨?_, fun b hb => by cases hb⟩
      cases draw with
      | true =>
        cases hl : lowerDraw P ops.toList with
        | none =>
          cases hl2 : lowerTree P ops.toList with
          | none => exact (hbad (by simp [lower, hl, hl2])).elim
          | some lc =>
            obtain ⟨ll, hs, h1, h2, a, b, c, rfl⟩ := lowerTree_tr hl2
            have hk0 : keep = [] := by
              simp only [lower, hl, hl2, keepsB, Bool.and_eq_true, List.isEmpty_iff] at hkp
              exact hkp.2
            subst hk0
            exact tree_sound (ops := ops.toList) (Q := Q) hm hG h2 h1 h0 (fun t' H' w' hd hk' hq => Post.mk .normal hd hk' hq) (fun ta t' H' w' v hd hk' hq => ⟨.pan v, t', ta, H', [], rfl, rfl, fun h => (h v rfl).elim, (fun x hx => by cases hx), hd, .nil _ _, fun _ => rfl, hk', hq⟩) (.refl w) hk (F := n + 1) fun N hN => by
              have := hQ N hN
              simpa only [lower, hl, hl2] using this
        | some l =>
          obtain ⟨ll, A, hv, c, h1, h2, rfl⟩ := lowerDraw_fits hl
          refine draw_sound (ops := ops.toList) (Q := Q) hm hG h2 h1 h0 (keep := keep) (fun i o x hi hx hmem => ?_) (fun t' H' w' hd hk' hq => Post.mk .normal hd hk' hq) (fun ta t' H' w' v hta hd hk' hq => ⟨.pan v, t', ta, H', [], rfl, rfl, fun h => (h v rfl).elim, hta, hd, .nil _ _, fun _ => rfl, hk', hq⟩) (.refl w) hk fun N hN => ?_
          · simp only [lower, hl, keepsB, List.all_eq_true] at hkp
            obtain ⟨d, hd1, hd2⟩ := mkDs_mem (hv := hv) (A := A) hi c [] (h2.all i (by rw [← h2.len]; exact (List.getElem?_eq_some_iff.1 hi).1))
            have := hkp d hd1
            simp [hd2, hx, hmem] at this
          have := hQ N hN
          simpa [lower, hl, exec] using this
      | false =>
        cases hl : lowerOps P ops.toList ops.toList with
        | none => exact (hbad (by simp [lower, hl])).elim
        | some l =>
          refine wpIn_region_list ?_
          refine exOps_sound (Q := Q) hG h0 _ l t H w hl (.refl w) hk fun N hN => ?_
          have := hQ N hN
          simpa [lower, hl, exec] using this
    | seq a b =>
      refine ⟨?_, fun b hb => by cases hb⟩
      refine wpIn_seq ?_
      simp only [lower, keepsB, Bool.and_eq_true] at hkp
      simp only [lower, flatB, Bool.and_eq_true] at hfl
      refine wpIn_mono (ih a rd ds t H w (fun out => Q (seqO (exec B G n (lower P b)) out)) (hfl.imp_right (·.1)) hkp.1 h0 hk (fun N hN => ?_)).1 ?_
      · have := hQ N hN
        simpa only [lower, exec] using this
      · rintro e a' w' ⟨x, t', ta, H', ms, rfl, rfl, ht, hta, hd, hms, hfm, hk', hq⟩
        have hfm' : flatB (lower P (.seq a b)) = true → ms = [] := fun h => hfm (by simp only [lower, flatB, Bool.and_eq_true] at h; exact h.1)
        cases x with
        | normal => obtain rfl := ht (by simp); exact wpIn_mono (ih b rd (marksD ms ds) ta H' w' Q (hfl.imp_right (·.2)) hkp.2 h0 hk' hq).1 fun _ _ _ hp => hp.lift hd hms hfm' (fun h => by simp only [lower, flatB, Bool.and_eq_true] at h; exact h.2)
        | ret => exact ⟨.ret, t', ta, H', ms, rfl, rfl, ht, hta, hd, hms, hfm', hk', hq⟩
        | exit id => exact ⟨.exit id, t', ta, H', ms, rfl, rfl, ht, hta, hd, hms, hfm', hk', hq⟩
        | pan v => exact ⟨.pan v, t', ta, H', ms, rfl, rfl, ht, hta, hd, hms, hfm', hk', hq⟩
    | cond c a b =>
      refine ⟨?_, fun b hb => by cases hb⟩
      cases hc : ev t c with
      | bool v =>
        simp only [lower, flatB, Bool.and_eq_true] at hfl
        refine wpIn_cond (t := v) (by rw [eval_eq]; exact hc) ?_
        cases v with
        | true =>
          rw [if_pos rfl]
          refine wpIn_mono (ih a rd ds t H w Q (hfl.imp_right (·.1)) (by simp only [lower, keepsB, Bool.and_eq_true] at hkp; exact hkp.1) h0 hk (fun N hN => ?_)).1 (fun _ _ _ hp => Post.lift (ms := []) (.refl w) (.nil _ _) (fun _ => rfl) (fun h => by simp only [lower, flatB, Bool.and_eq_true] at h; exact h.1) hp)
          have := hQ N hN
          simpa only [lower, exec, hc, condO, if_true] using this
        | false =>
          rw [if_neg (by simp)]
          refine wpIn_mono (ih b rd ds t H w Q (hfl.imp_right (·.2)) (by simp only [lower, keepsB, Bool.and_eq_true] at hkp; exact hkp.2) h0 hk (fun N hN => ?_)).1 (fun _ _ _ hp => Post.lift (ms := []) (.refl w) (.nil _ _) (fun _ => rfl) (fun h => by simp only [lower, flatB, Bool.and_eq_true] at h; exact h.2) hp)
          have := hQ N hN
          simpa [lower, exec, hc, condO] using this
      | _ => exact (h0 (by have h1 := hQ _ (good_of hk); simp only [lower, exec, hc] at h1; exact h1)).elim
    | block id b =>
      refine ⟨?_, fun b hb => by cases hb⟩
      refine wpIn_block ?_
      simp only [lower, flatB] at hfl
      refine wpIn_mono (ih b rd ds t H w (fun out => Q (blkO id out)) hfl (by simpa only [lower, keepsB] using hkp) h0 hk (fun N hN => ?_)).1 ?_
      · have := hQ N hN
        simpa only [lower, exec] using this
      · rintro e a' w' ⟨x, t', ta, H', ms, rfl, rfl, ht, hta, hd, hms, hfm, hk', hq⟩
        have hfm' : flatB (lower P (.block id b)) = true → ms = [] := hfm
        cases x with
        | normal => exact ⟨.normal, t', ta, H', ms, rfl, rfl, ht, hta, hd, hms, hfm', hk', hq⟩
        | ret => exact ⟨.ret, t', ta, H', ms, rfl, rfl, ht, hta, hd, hms, hfm', hk', hq⟩
        | pan v => exact ⟨.pan v, t', ta, H', ms, rfl, rfl, ht, hta, hd, hms, hfm', hk', hq⟩
        | exit i =>
          simp only [X.exit', Exit.inBlock]
          by_cases hi : i = id
          · rw [if_pos hi]; exact ⟨.normal, t', ta, H', ms, rfl, rfl, fun _ => ht (by simp), hta, hd, hms, hfm', hk', fun N hN => by simpa [hi, blkO] using hq N hN⟩
          · rw [if_neg hi]; exact ⟨.exit i, t', ta, H', ms, rfl, rfl, ht, hta, hd, hms, hfm', hk', fun N hN => by simpa [hi, blkO] using hq N hN⟩
    | loop b =>
      have hfl' := hfl
      simp only [lower, flatB] at hfl'
      have key : LoopWp (Fw rd) P b (Post w0 B keep ds Q w (flatB (lower P b))) (Act.mk t.toArray ds) w := by
        refine loopWp_step ?_
        refine wpIn_mono (ih b rd ds t H w (fun out => Q (seqO (exec B G n (.loop (lower P b))) out)) hfl' (by simpa only [lower, keepsB] using hkp) h0 hk (fun N hN => ?_)).1 ?_
        · have := hQ N hN
          simpa only [lower, exec] using this
        · rintro e a' w' ⟨x, t', ta, H', ms, rfl, rfl, ht, hta, hd, hms, hfm, hk', hq⟩
          cases x with
          | normal => obtain rfl := ht (by simp); exact ((ih (.loop b) rd (marksD ms ds) ta H' w' Q hfl hkp h0 hk' hq).2 b rfl).mono fun _ _ _ hp => hp.lift hd hms hfm (fun h => h)
          | ret => exact ⟨.ret, t', ta, H', ms, rfl, rfl, ht, hta, hd, hms, hfm, hk', hq⟩
          | exit id => exact ⟨.exit id, t', ta, H', ms, rfl, rfl, ht, hta, hd, hms, hfm, hk', hq⟩
          | pan v => exact ⟨.pan v, t', ta, H', ms, rfl, rfl, ht, hta, hd, hms, hfm, hk', hq⟩
      exact ⟨wp_of_loopWp key, fun b' hb => by cases hb; exact key⟩
    | exit id => exact ⟨wpIn_exit (Post.mk (.exit id) (.refl w) hk hQ), fun b hb => by cases hb⟩
    | ret => exact ⟨wpIn_ret (Post.mk .ret (.refl w) hk hQ), fun b hb => by cases hb⟩
    | rangeFunc g ps a b =>
      refine ⟨?_, fun b hb => by cases hb⟩
      have hflat : (flatB (lower P a) && flatB (lower P b)) = true := by
        cases h : (flatB (lower P a) && flatB (lower P b)) with
        | true => rfl
        | false => exact (hbad (by simp [lower, h])).elim
      have hlow : lower P (.rangeFunc g ps a b) = .range g ps.toList (lower P a) (lower P b) := by
        have h2 := hflat
        simp only [Bool.and_eq_true] at h2
        simp [lower, h2.1, h2.2]
      have hrd : rd = none := hfl.resolve_right (by rw [hlow]; simp [flatB])
      subst hrd
      rw [hlow] at hkp hQ
      simp only [keepsB, Bool.and_eq_true] at hkp hflat
      refine wpIn_rangeFunc (F := Fw none) fun fn _ => ?_
      generalize hrec : ({ state := .ready, pending := none, fn, tmps := t.toArray, params := ps, assign := a, body := b, defers := w.heap.size } : Loop) = rec0
      have hfr := den_fresh hk
      have hkd := hk.newObj (o := .deferred (some [])) (k := .dfr) ⟨_, rfl⟩ (fun _ _ _ h => by cases h)
      have hfr1 := den_fresh hkd
      have hsz : (w.alloc (.deferred (some []))).heap.size = w.heap.size + 1 := by simp
      have hk1 := hkd.newObj (o := .loop rec0) (k := .loop rec0 .ready) ⟨rec0, rfl, ⟨rfl, rfl, rfl, rfl, rfl⟩, by subst hrec; exact ⟨rfl, rfl⟩⟩ (fun _ _ _ h => by cases h)
      rw [hsz] at hfr1 hk1
      have hBl : B (w.heap.size + 1) = none := den_B hfr1
      have hkd1 : KeepD w ((w.alloc (.deferred (some []))).alloc (.loop rec0)) := (KeepD.alloc _ _).trans (.alloc _ _)
      have hQ1 : ∀ N', good B ((w.heap.size + 1, .loop rec0 .ready) :: (w.heap.size, .dfr) :: H) N' → Q (afterR (w.heap.size + 1) rec0 t (callIt G.it (w.heap.size + 1) (withY G.y (w.heap.size + 1) (yieldC (exec B G n (lower P a)) (exec B G n (lower P b)) (w.heap.size + 1) rec0 ps.toList t)) ((w.heap.size + 1, .loop rec0 .ready) :: (w.heap.size, .dfr) :: H) N' (ev t g))) := fun N' hN' =>
        hQ (consA w.heap.size 0 false (consL (w.heap.size + 1) rec0 N')) (good_consA (k := .dfr) hfr (good_consL hfr1 hN'))
      have hne := resE_elim (f := fun N' => callIt G.it (w.heap.size + 1) (withY G.y (w.heap.size + 1) (yieldC (exec B G n (lower P a)) (exec B G n (lower P b)) (w.heap.size + 1) rec0 ps.toList t)) ((w.heap.size + 1, .loop rec0 .ready) :: (w.heap.size, .dfr) :: H) N' (ev t g)) (Q := fun r => Q (afterR (w.heap.size + 1) rec0 t r)) hk1 h0 hQ1
      have hY : SoundY P w0 B (withY G.y (w.heap.size + 1) (yieldC (exec B G n (lower P a)) (exec B G n (lower P b)) (w.heap.size + 1) rec0 ps.toList t)) := by
        intro x
        unfold withY
        by_cases hx : x = w.heap.size + 1
        · subst hx
          right
          simp only [beq_self_eq_true, cond_true]
          exact round_sound (keep := keep) hBl (by subst hrec; rfl) (by subst hrec; rfl) (by subst hrec; rfl) (by subst hrec; rfl)
            (fun t H w Q h0 hk hQ => ⟨_, (ih a (some _) [] t H w Q (.inr hflat.1) hkp.1 h0 hk hQ).1⟩)
            (fun ds t H w Q h0 hk hQ => ⟨_, (ih b (some _) ds t H w Q (.inr hflat.2) hkp.2 h0 hk hQ).1⟩)
        · have : (x == w.heap.size + 1) = false := by simpa using hx
          simp only [this, cond_false]
          exact hG.y x
      generalize hYg : withY G.y (w.heap.size + 1) (yieldC (exec B G n (lower P a)) (exec B G n (lower P b)) (w.heap.size + 1) rec0 ps.toList t) = Y at hY hQ1 hne
      unfold callIt at hne
      split at hne
      rotate_left
      · exact (hne rfl).elim
      rename_i k first cap hv
      rcases hG.it k with hnone | ⟨hent, hs⟩
      · exact (hne (hnone _ _ _ _)).elim
      have hcall := hs Y hY _ (first.toList ++ [Value.func (.yield (w.heap.size + 1)) #[] #[]] ++ cap.toList) (fun r => Q (afterR (w.heap.size + 1) rec0 t r)) _ h0 (fun N' hN' => by
        have := hQ1 N' hN'
        simpa only [callIt, hv] using this) hk1
      have hargs : first ++ #[Value.func (.yield (w.heap.size + 1)) #[] #[]] ++ cap = (first.toList ++ [Value.func (.yield (w.heap.size + 1)) #[] #[]] ++ cap.toList).toArray := by
        apply Array.ext'; simp
      refine ⟨w.heap.size + 1, [{ target := .collected w.heap.size, args := #[] }], ((w.alloc (.deferred (some []))).alloc (.loop rec0)), { target := .fn (.func k) cap, args := first ++ #[Value.func (.yield (w.heap.size + 1)) #[] #[]] }, ((w.alloc (.deferred (some []))).alloc (.loop rec0)), k, _, ((w.alloc (.deferred (some []))).alloc (.loop rec0)), by subst hrec; exact run_enterLoop_outer _ _ _ _ _, ?_, fun _ _ => trivial, ?_, noDepth, (callsIn_Fw hcall).mono ?_⟩
      · have hev : (Act.mk t.toArray ds).eval g = .func (.func k) first cap := by rw [eval_eq]; exact hv
        have hevc : (Act.mk t.toArray ds).eval (.const (.func (.yield (w.heap.size + 1)) #[] #[])) = .func (.yield (w.heap.size + 1)) #[] #[] := rfl
        simp [resolve, rangeCall, hev, hevc, Deferred.ofValue]
      · simp only [invoke]
        rw [hargs]
        exact hent _ _
      · rintro e w3 ⟨x, H3, rfl, hd3, hk3, hq3⟩
        cases x with
        | pan v => exact (h0 (hq3 _ (good_of hk3))).elim
        | ret v =>
          have hlk : ∃ st, lk H3 (w.heap.size + 1) = some (.loop rec0 st) ∧ ∀ N', good B H3 N' → Q (aftR (w.heap.size + 1) rec0 t H3 N' (some (.loop rec0 st))) := by
            have h3 := hq3 _ (good_of hk3)
            simp only [afterR] at h3
            unfold aftR at h3
            split at h3
            · rename_i r st hl3
              cases hi : isLp rec0 st (some (.loop r st)) with
              | false => rw [hi] at h3; exact (h0 h3).elim
              | true =>
                have := isLp_inv hi
                simp only [Option.some.injEq, KB.loop.injEq] at this
                obtain ⟨rfl, _⟩ := this
                refine ⟨st, hl3, fun N' hN' => ?_⟩
                have := hq3 N' hN'
                simp only [afterR, hl3] at this
                exact this
            · exact (h0 h3).elim
          obtain ⟨st, hl3, hq4⟩ := hlk
          have hd3' : den H3 B (w.heap.size + 1) = some (.loop rec0 st) := by simp [den, hBl, hl3]
          obtain ⟨_, r4, hw4, hlike4, hst4⟩ := hk3.own _ _ hd3'
          have hself : isLp rec0 st (some (.loop rec0 st)) = true := by simp [isLp]
          have hnb : r4.state ≠ .busy := by
            have hq5 := hq4 _ (good_of hk3)
            cases st with
            | ready => rw [hst4.1]; simp
            | done j => cases j <;> rw [hst4.1] <;> simp
            | busy => exact (h0 (by simpa [aftR, hself] using hq5)).elim
            | over => exact (h0 (by simpa [aftR, hself] using hq5)).elim
          obtain ⟨hk4, hkd4⟩ := hk3.putLoop (r2 := { r4 with state := .exhausted }) (st' := .over) hBl hl3 hw4 hlike4 trivial
          have hKD := (hkd1.trans hd3).trans hkd4
          have hmark : ((w.alloc (.deferred (some []))).alloc (.loop rec0)).heap[w.heap.size]? = some (.deferred (some [])) := by
            show ((w.heap.push _).push _)[w.heap.size]? = _
            rw [Array.getElem?_push, if_neg (by simp)]
            simp
          have hms : MarksOk w ((w3.putObj (w.heap.size + 1) (.loop { r4 with state := .exhausted }))) [w.heap.size] := ⟨by simp, fun r hr => by
            simp only [List.mem_singleton] at hr
            subst hr
            exact ⟨Nat.le_refl _, (hd3.trans hkd4).2 _ _ hmark⟩⟩
          have post : ∀ x, (∀ v, x ≠ .pan v) → (∀ N', good B H3 N' → Q (some (x, ⟨t, lkU H3 (w.heap.size + 1) rec0 .over, N'⟩))) → Post w0 B keep ds Q w (flatB (lower P (.rangeFunc g ps a b))) (X.exit' x) (Act.mk t.toArray ([{ target := .collected w.heap.size, args := #[] }] ++ ds)) (w3.putObj (w.heap.size + 1) (.loop { r4 with state := .exhausted })) := fun x hx hqx =>
            ⟨x, t, t, _, [w.heap.size], rfl, rfl, fun _ => rfl, fun _ _ => rfl, hKD, hms, (fun h => by rw [hlow] at h; simp [flatB] at h), hk4, fun N hN => hqx N (good_less (fun y hy => by
              unfold den at hy ⊢
              cases hBy : B y with
              | some _ => simp [hBy] at hy
              | none =>
                simp only [hBy, lk] at hy ⊢
                by_cases hyl : y = w.heap.size + 1
                · subst hyl; simp at hy
                · have : (y == w.heap.size + 1) = false := by simpa using hyl
                  simpa [this] using hy) hN)⟩
          have he := run_endLoop (P := P) hw4 hnb
          generalize w3.putObj (w.heap.size + 1) (.loop { r4 with state := .exhausted }) = W4 at he post
          refine ⟨r4.pending, W4, he, ?_⟩
          cases st with
          | ready =>
            rw [hst4.2]
            exact post .normal (by simp) fun N' hN' => by simpa [aftR, hself] using hq4 N' hN'
          | done j =>
            cases j with
            | none =>
              rw [hst4.2]
              exact wpIn_ret (post .ret (by simp) fun N' hN' => by simpa [aftR, hself] using hq4 N' hN')
            | some i =>
              rw [hst4.2]
              exact wpIn_exit (post (.exit i) (by simp) fun N' hN' => by simpa [aftR, hself] using hq4 N' hN')
          | busy => exact (h0 (by simpa [aftR, hself] using hq4 _ (good_of hk3))).elim
          | over => exact (h0 (by simpa [aftR, hself] using hq4 _ (good_of hk3))).elim
    | _ => exact (hbad rfl).elim

instance : LawfulMonad Sem := LawfulMonad.mk' (m := Sem)
  (id_map := fun x => Sem.bind_pure' x)
  (pure_bind := fun _ _ => rfl)
  (bind_assoc := fun x f g => Sem.bind_assoc' x f g)

def rvS (tm : Array Value) : ResultVar → Sem Value
  | .tmp i => pure (tm.getD i undef)
  | .cell a ty => do loadVar ty (← asAddr (tm.getD a undef))
theorem ress_run {rs : List ResultVar} {vs : List Value} {N : St} (hk : Knows w0 (den H B) w) (h : ress B ⟨t, H, N⟩ (rs.map (lowerRes P)) = some vs) :
    (rs.mapM (rvS t.toArray)).run P w = .ok vs w := by
  induction rs generalizing vs with
  | nil => simp only [List.map_nil, ress, Option.some.injEq] at h; subst h; rfl
  | cons r rs ih =>
    simp only [List.map_cons, ress, consO] at h
    split at h
    · rename_i v l hv hl
      simp only [Option.some.injEq] at h
      subst h
      have h1 : (rvS t.toArray r).run P w = .ok v w := by
        cases r with
        | tmp i => simp only [lowerRes, res1, Option.some.injEq] at hv; subst hv; rw [gt_eq]; rfl
        | cell a ty =>
          simp only [lowerRes] at hv
          split at hv
          · rename_i g n hg hn
            simp only [res1] at hv
            unfold loadV at hv
            split at hv
            · rename_i b o he
              rw [gt_eq] at he
              simp only [rvS, he, asAddr, Sem.run_bind, Sem.run_pure, Result.andThen_ok]
              exact run_loadVar hk hg hn rfl hv
            · cases hv
          · simp [res1] at hv
      rw [List.mapM_cons]
      simp only [Sem.run_bind, h1, Result.andThen_ok, ih hl, Sem.run_pure]
    · cases h

theorem results_run {fn : Func} {vs : List Value} {N : St} (hk : Knows w0 (den H B) w) (h : ress B ⟨t, H, N⟩ (fn.results.toList.map (lowerRes P)) = some vs) :
    (results fn t.toArray).run P w = .ok (retV vs) w := by
  have h1 := ress_run (P := P) hk h
  have h2 : results fn t.toArray = (do let vs ← fn.results.mapM (rvS t.toArray); pure (if h : vs.size = 1 then vs[0] else .tuple vs)) := by
    unfold results
    congr 1
  rw [h2, ← Array.toArray_toList (xs := fn.results), List.mapM_toArray]
  simp only [Sem.run_bind, Sem.run_map]
  rw [h1]
  simp only [Result.andThen_ok, Sem.run_pure]
  match vs with
  | [] => rfl
  | [v] => rfl
  | v :: u :: l => simp [retV]

theorem pad_eq : ∀ (l : List Value) (n : Nat), (pad l n).toArray = l.toArray ++ Array.replicate (n - l.length) undef := by
  have : ∀ (l : List Value) (n : Nat), pad l n = l ++ List.replicate (n - l.length) undef := by
    intro l n
    induction n generalizing l with
    | zero => simp [pad]
    | succ n ih => cases l with
      | nil => simp [pad, ih, List.replicate_succ]
      | cons v l => simp [pad, ih]
  intro l n; rw [this]; simp

theorem ress_indep (t : List Value) (H : HL) (N N' : St) : ∀ rs : List LR, ress B ⟨t, H, N⟩ rs = ress B ⟨t, H, N'⟩ rs
  | [] => rfl
  | r :: rs => by simp only [ress, ress_indep t H N N' rs]; cases r <;> rfl
theorem fin_run {fn : Func} {Q : ResE → Prop} (h0 : ¬ Q none) (hk : Knows w0 (den H B) w) (hq : ∀ N, good B H N → Q (rv (retR ⟨t, H, N⟩ (ress B ⟨t, H, N⟩ (fn.results.toList.map (lowerRes P)))))) :
    ∃ vs, (results fn t.toArray).run P w = .ok (retV vs) w ∧ ∀ N, good B H N → Q (some (.ret (retV vs), H, N)) := by
  cases hr : ress B ⟨t, H, stW w⟩ (fn.results.toList.map (lowerRes P)) with
  | none => exact (h0 (by have := hq _ (good_of hk); simp only [hr, retR, rv] at this; exact this)).elim
  | some vs =>
    refine ⟨vs, results_run (N := stW w) hk hr, fun N hN => ?_⟩
    have := hq N hN
    rw [ress_indep t H N (stW w), hr] at this
    exact this
theorem Knows.shut {O : OH} (hk : Knows w0 O w) {r : Nat} (hr : w0.heap.size ≤ r) (hw : w.heap[r]? = some (.deferred (some []))) : Knows w0 O (w.putObj r (.deferred none)) := by
  refine ⟨hk.os, hk.tape, hk.output, by rw [World.putObj_size]; exact hk.size, fun b hb => by rw [World.putObj_heap_other (by omega)]; exact hk.old b hb, fun x k hx => ?_, fun a ha => ?_, hk.mine, hk.mineL⟩
  · obtain ⟨q1, q2⟩ := hk.own x k hx
    refine ⟨by rw [World.putObj_size]; exact q1, ?_⟩
    by_cases h : x = r
    · subst h
      rw [World.putObj_heap_same q1]
      rw [hw] at q2
      cases k with
      | dfr => exact ⟨none, rfl⟩
      | cells cs n => obtain ⟨_, _, e, _⟩ := q2; cases e
      | ro f => obtain ⟨_, _, _, e, _⟩ := q2; cases e
      | map es c => obtain ⟨_, _, e, _⟩ := q2; cases e
      | loop r0 st => obtain ⟨_, e, _⟩ := q2; cases e
    · rw [World.putObj_heap_other h]; exact q2
  · by_cases h : a.block = r
    · unfold World.frozen?
      have hlt : r < w.heap.size := by
        rcases Nat.lt_or_ge r w.heap.size with h' | h'
        · exact h'
        · rw [Array.getElem?_eq_none h'] at hw; cases hw
      rw [h, World.putObj_heap_same hlt]
    · have := hk.fz a ha
      unfold World.frozen? at this ⊢
      rw [World.putObj_heap_other h]; exact this
theorem leave_marks {fn : Func} {tmps : Array Value} {R : Ending → World → Prop} {wb : World} {ds : List Deferred} {u : FrameMode} (hu : u ≠ .run) (hwb : w0.heap.size ≤ wb.heap.size) : ∀ (ms : List Nat) (w : World), ms.Nodup → (∀ r ∈ ms, wb.heap.size ≤ r ∧ w.heap[r]? = some (.deferred (some []))) → KeepD wb w → Knows w0 (den H B) w →
    (∀ w', KeepD wb w' → Knows w0 (den H B) w' → LeavesInM (Fw none) 0 P fn tmps R ds u w') → LeavesInM (Fw none) 0 P fn tmps R (marksD ms ds) u w
  | [], w, _, _, hd, hk, h => h w hd hk
  | r :: ms, w, hn, hm, hd, hk, h => by
    obtain ⟨h1, h2⟩ := hm r List.mem_cons_self
    obtain ⟨hr, hn'⟩ := List.nodup_cons.1 hn
    refine ⟨hu, .inl ⟨r, w.putObj r (.deferred none), rfl, run_takeDeferred h2, ?_⟩⟩
    refine leave_marks hu hwb ms _ hn' (fun x hx => ⟨(hm x (List.mem_cons_of_mem _ hx)).1, ?_⟩) ⟨by rw [World.putObj_size]; exact hd.1, fun b d hb => ?_⟩ (hk.shut (by omega) h2) h
    · have hne : x ≠ r := fun e => hr (e ▸ hx)
      rw [World.putObj_heap_other hne]; exact (hm x (List.mem_cons_of_mem _ hx)).2
    · have hlt : b < wb.heap.size := by
        rcases Nat.lt_or_ge b wb.heap.size with h' | h'
        · exact h'
        · rw [Array.getElem?_eq_none h'] at hb; cases hb
      rw [World.putObj_heap_other (by omega)]; exact hd.2 b d hb
theorem callF_sound (hm : P.follows .mixedOrders = true) (hG : SoundG P w0 B G) {k : Nat} {fn : Func} {f : FnL} (n : Nat) (hf : P.funcs[k]? = some fn) (hl : lowerFn P fn = some f) : SoundC P w0 B k (callF B G n f) := by
  intro H args Q w h0 hQ hk
  unfold lowerFn at hl
  cases hb : fn.body with
  | none => simp [hb] at hl
  | some c =>
    simp only [hb, Option.map_some, Option.some.injEq] at hl
    subst hl
    refine (callsIn_wide (n := 0)).1 (callsIn_of_wp_marks (F := Fw none) hf hb trivial ?_)
    rw [show (args.toArray ++ Array.replicate (fn.ntmps - args.toArray.size) undef) = (pad args fn.ntmps).toArray by rw [pad_eq]; simp]
    refine wpIn_mono (exec_sound (keep := []) hm hG n c none [] (pad args fn.ntmps) H w (fun out => Q (finO B (fn.results.toList.map (lowerRes P)) out)) (.inl rfl) (keeps_nil _) h0 hk (fun N hN => hQ N hN)).1 ?_
    rintro e a w' ⟨x, t', ta, H', ms, rfl, rfl, ht, _, hd, hms, _, hk', hq⟩
    cases x with
    | normal =>
      obtain rfl := ht (by simp)
      refine leave_marks (by simp) hk.size ms w' hms.1 hms.2 hd hk' fun w'' hd'' hk'' => ?_
      obtain ⟨vs, h1, h2⟩ := fin_run (Q := Q) h0 hk'' hq
      exact ⟨retV vs, h1, .ret (retV vs), H', rfl, hd'', hk'', h2⟩
    | ret =>
      obtain rfl := ht (by simp)
      refine leave_marks (by simp) hk.size ms w' hms.1 hms.2 hd hk' fun w'' hd'' hk'' => ?_
      obtain ⟨vs, h1, h2⟩ := fin_run (Q := Q) h0 hk'' hq
      exact ⟨retV vs, h1, .ret (retV vs), H', rfl, hd'', hk'', h2⟩
    | pan v =>
      refine leave_marks (by simp) hk.size ms w' hms.1 hms.2 hd hk' fun w'' hd'' hk'' => ?_
      exact ⟨.pan v, H', rfl, hd'', hk'', fun N hN => hq N hN⟩
    | exit id => exact (h0 (hq _ (good_of hk'))).elim
end Go.Proofs.YtbpaekbjpapgeaaGreatDoor.K
namespace Go.Proofs.YtbpaekbjpapgeaaGreatDoor.K
variable {P : Program} {w0 w : World} {B : OH} {H : HL} {t : List Value} {G : Env}

def SoundD (P : Program) (w0 : World) (B : OH) (k : Nat) (g : Ds) : Prop :=
  ∀ (r : Value) (u u' : FrameMode), (r = .nilIface ∧ u = .returning ∧ u' = .returning) ∨ (u = .panicking [{ v := r, recovered := false }] ∧ u' = .panicking [{ v := r, recovered := true }]) →
    ∀ (H : HL) (args : List Value) (Q : ResE → Prop) (w : World), ¬ Q none → (∀ N, good B H N → Q (g r args H N)) → Knows w0 (den H B) w →
      CallsDIn (Fw none) 0 P k args.toArray u w fun e u'' w' => ∃ x H', e = endOf x ∧ u'' = u' ∧ KeepD w w' ∧ Knows w0 (den H' B) w' ∧ ∀ N', good B H' N' → Q (some (x, H', N'))

theorem callC_sound (hm : P.follows .mixedOrders = true) (hG : SoundG P w0 B G) {k : Nat} {fn : Func} {f : FnC} (n : Nat) (hf : P.funcs[k]? = some fn) (hl : lowerCaught P fn = some f) : SoundD P w0 B k (callC B G n f) := by
  intro r u u' hu H args Q w h0 hQ hk
  unfold lowerCaught at hl
  split at hl
  rotate_left
  · cases hl
  rename_i id ops c hb
  split at hl
  rotate_left
  · cases hl
  rename_i o hops
  split at hl
  · cases hl
  rename_i hg
  split at hl
  rotate_left
  · cases hl
  rename_i c' ho
  split at hl
  rotate_left
  · cases hl
  rename_i hcal
  split at hl
  · cases hl
  rename_i hflat
  simp only [Bool.not_eq_false] at hflat
  simp only [Option.some.injEq] at hl
  subst hl
  have hops' : ops = #[o] := by apply Array.ext'; simpa using hops
  subst hops'
  have hg' : o.guard = none := by cases h : o.guard <;> simp_all
  have hrun : ∀ ρ w, (execOp ρ o).run P w = .ok .recover w := by
    intro ρ w
    obtain ⟨callee, ca, ct⟩ := c'
    simp only at hcal
    subst hcal
    simp only [execOp, ho, resolve, Sem.run_bind, Sem.run_pure, Result.andThen_ok, invoke, builtin]
  refine callsDIn_of_wpSIn hf hb trivial fun c₀ cs hmode => ?_
  refine wpSIn_seq (wpSIn_region ?_)
  rw [show (args.toArray ++ Array.replicate (fn.ntmps - args.toArray.size) undef) = (pad args fn.ntmps).toArray by rw [pad_eq]; simp]
  have rest : ∀ (t : List Value), t = putT (pad args fn.ntmps) o.dst r → c.wpSIn (Fw none) 0 P (bodyPostS P fn c₀ cs fun e u'' w' => ∃ x H', e = endOf x ∧ u'' = u' ∧ KeepD w w' ∧ Knows w0 (den H' B) w' ∧ ∀ N', good B H' N' → Q (some (x, H', N'))) (Act.mk t.toArray []) ({ c₀ with mode := u' } :: cs) w := by
    rintro t rfl
    refine wpSIn_of_wpIn rfl (wpIn_mono ((exec_sound (keep := []) hm hG n c none [] _ H w (fun out => Q (finO B (fn.results.toList.map (lowerRes P)) out)) (.inl rfl) (keeps_nil _) h0 hk (fun N hN => hQ N hN)).1) ?_)
    rintro e a w' ⟨x, t', ta, H', ms, rfl, rfl, ht, _, hd, _, hfm, hk', hq⟩
    obtain rfl := hfm hflat
    cases x with
    | normal =>
      obtain rfl := ht (by simp)
      obtain ⟨vs, h1, h2⟩ := fin_run (Q := Q) h0 hk' hq
      exact ⟨rfl, u', rfl, retV vs, h1, .ret (retV vs), H', rfl, rfl, hd, hk', h2⟩
    | ret =>
      obtain rfl := ht (by simp)
      obtain ⟨vs, h1, h2⟩ := fin_run (Q := Q) h0 hk' hq
      exact ⟨rfl, u', rfl, retV vs, h1, .ret (retV vs), H', rfl, rfl, hd, hk', h2⟩
    | pan v => exact ⟨rfl, u', rfl, .pan v, H', rfl, rfl, hd, hk', fun N hN => hq N hN⟩
    | exit id => exact (h0 (hq _ (good_of hk'))).elim
  have hw : Region.wanted o (yielded #[o] (pad args fn.ntmps).toArray) = true := by simp [Region.wanted, hg']
  simp only [List.size_toArray, List.length_cons, List.length_nil, Nat.zero_add, List.range_one, wpOpsSIn, List.getElem?_toArray, List.getElem?_cons_zero, hw, if_true, hrun]
  rcases hu with ⟨rfl, rfl, rfl⟩ | ⟨rfl, rfl⟩
  · have hrec : recoverD (c₀ :: cs) = none := by simp [recoverD, hmode]
    rw [hrec]
    simp only [wpOpsSIn, put_eq, Exit.thenS]
    have := rest _ rfl
    rw [show ({ c₀ with mode := .returning } : Frame) = c₀ by rw [← hmode]] at this
    exact ⟨fun _ _ => trivial, this⟩
  · have hrec : recoverD (c₀ :: cs) = some (r, { c₀ with mode := .panicking [{ v := r, recovered := true }] } :: cs) := by simp [recoverD, hmode]
    rw [hrec]
    simp only [wpOpsSIn, put_eq, Exit.thenS]
    exact ⟨fun _ _ => trivial, rest _ rfl⟩

theorem ress_congr {t t' : List Value} : ∀ {rs : List LR} {H : HL} {N : St}, (∀ i ∈ keepT rs, gt t i = gt t' i) → ress B ⟨t, H, N⟩ rs = ress B ⟨t', H, N⟩ rs
  | [], _, _, _ => rfl
  | r :: rs, H, N, h => by
    simp only [keepT, List.mem_append] at h
    have h2 : ress B ⟨t, H, N⟩ rs = ress B ⟨t', H, N⟩ rs := ress_congr fun i hi => h i (.inr hi)
    have h1 : res1 B ⟨t, H, N⟩ r = res1 B ⟨t', H, N⟩ r := by
      cases r with
      | tmp i => simp only [res1]; rw [h i (.inl (by simp [lrT]))]
      | cell i g n => simp only [res1]; rw [h i (.inl (by simp [lrT]))]
      | bad => rfl
    simp only [ress, h1, h2]
theorem retR_t {t t' : List Value} {H : HL} {N : St} {l : Option (List Value)} : retR ⟨t, H, N⟩ l = retR ⟨t', H, N⟩ l := by cases l <;> rfl
theorem endD_congr {t t' : List Value} {rs : List LR} {r : ResE} (h : ∀ i ∈ keepT rs, gt t i = gt t' i) : endD B rs t r = endD B rs t' r := by
  match r with
  | none => rfl
  | some (.pan _, _, _) => rfl
  | some (.ret _, H, N) => simp only [endD]; rw [ress_congr h, retR_t]
theorem callD_sound (hm : P.follows .mixedOrders = true) (hG : SoundG P w0 B G) {D : Nat → Ds} {k : Nat} {fn : Func} {f : FnD} (n : Nat) (hf : P.funcs[k]? = some fn) (hl : lowerDfr P fn = some f)
    (hent : Enter P f.k) (hD : SoundD P w0 B f.k (D f.k)) : SoundC P w0 B k (callD B G D n f) := by
  intro H args Q w h0 hQ hk
  unfold lowerDfr at hl
  split at hl
  rotate_left
  · cases hl
  rename_i a id ops c hb
  split at hl
  rotate_left
  · cases hl
  rename_i o hops
  split at hl
  · cases hl
  rename_i hg
  split at hl
  rotate_left
  · cases hl
  rename_i c' ho
  split at hl
  rotate_left
  · cases hl
  rename_i kd hcal
  split at hl
  · cases hl
  rename_i hkeep
  simp only [Option.some.injEq] at hl
  subst hl
  simp only at hent hD
  have hops' : ops = #[o] := by apply Array.ext'; simpa using hops
  subst hops'
  have hg' : o.guard = none := by cases h : o.guard <;> simp_all
  have hdst : o.dst = none := by cases h : o.dst <;> simp_all
  have hrun : ∀ (t : List Value) ds w, (execOp (Act.mk t.toArray ds).eval o).run P w = .ok (.defer { target := .fn (.func kd) #[], args := (evs t c'.args.toList).toArray }) w := by
    intro t ds w
    obtain ⟨callee, ca, ct⟩ := c'
    simp only at hcal
    subst hcal
    have : (Act.mk t.toArray ds).eval = ev t := funext (eval_eq t ds)
    have harg : #[] ++ ca.map (ev t) = (evs t ca.toList).toArray := by apply Array.ext'; simp [evs_map]
    simp only [execOp, ho, resolve, this, ev, Deferred.ofValue, Sem.run_bind, Sem.run_pure, Result.andThen_ok, harg]
  refine (callsIn_wide (n := 0)).1 (callsIn_of_wp_marks (F := Fw none) hf hb trivial ?_)
  rw [show (args.toArray ++ Array.replicate (fn.ntmps - args.toArray.size) undef) = (pad args fn.ntmps).toArray by rw [pad_eq]; simp]
  refine wpIn_seq ?_
  refine wpIn_mono (exec_sound (keep := []) hm hG n a none [] _ H w (fun out => Q (restD B G (D kd) n ⟨lower P a, kd, c'.args.toList, lower P c, fn.ntmps, fn.results.toList.map (lowerRes P)⟩ out)) (.inl rfl) (keeps_nil _) h0 hk (fun N hN => hQ N hN)).1 ?_
  rintro e a1 w1 ⟨x, t1, ta1, H1, ms1, rfl, rfl, ht1, _, hd1, hms1, _, hk1, hq1⟩
  cases x with
  | ret => exact (h0 (hq1 _ (good_of hk1))).elim
  | exit id => exact (h0 (hq1 _ (good_of hk1))).elim
  | pan v => exact (h0 (hq1 _ (good_of hk1))).elim
  | normal =>
    obtain rfl := ht1 (by simp)
    rename List Value => t1
    show Code.wpIn _ _ _ _ _ _ _
    refine wpIn_seq ?_
    refine wpIn_region_list ?_
    unfold wpListIn
    have hw : Region.wanted o (yielded #[o] t1.toArray) = true := by simp [Region.wanted, hg']
    simp only [hw, if_true]
    unfold Oper.wpIn
    refine ⟨fun _ _ => trivial, ?_⟩
    show Oper.uponIn _ _ _ _ _ _ _ ((execOp _ o).run P w1)
    rw [hrun]
    simp only [Oper.uponIn]
    unfold wpListIn
    simp only [put_eq, Exit.then]
    -- the results, once the deferred call has returned
    have hend : ∀ (t2 : List Value) (r : Value) (u u' : FrameMode) (H2 : HL) (w2 : World),
        ((r = .nilIface ∧ u = .returning ∧ u' = .returning) ∨ (u = .panicking [{ v := r, recovered := false }] ∧ u' = .panicking [{ v := r, recovered := true }])) → KeepD w w2 → MarksOk w w2 ms1 → Knows w0 (den H2 B) w2 →
        (∀ N, good B H2 N → Q (endD B (fn.results.toList.map (lowerRes P)) t2 (D kd r (evs t1 c'.args.toList) H2 N))) →
        LeavesInM (Fw none) 0 P fn t2.toArray (fun e w' => ∃ x H', e = endOf x ∧ KeepD w w' ∧ Knows w0 (den H' B) w' ∧ ∀ N', good B H' N' → Q (some (x, H', N'))) ({ target := .fn (.func kd) #[], args := (evs t1 c'.args.toList).toArray } :: marksD ms1 []) u w2 := by
      intro t2 r u u' H2 w2 hu hkd2 hms2 hk2 hq2
      have hset : settle u' = .returning := by
        rcases hu with ⟨_, _, rfl⟩ | ⟨_, rfl⟩ <;> rfl
      have hur : u ≠ .run := by rcases hu with ⟨_, rfl, _⟩ | ⟨rfl, _⟩ <;> simp
      refine ⟨hur, .inr ⟨noDepth, .func kd, #[], kd, (evs t1 c'.args.toList).toArray, rfl, by simp only [invoke, Array.append_empty]; exact hent _ _, fun _ _ => trivial, ?_⟩⟩
      have hc := (hD r u u' hu H2 _ (fun r => Q (endD B (fn.results.toList.map (lowerRes P)) t2 r)) w2 h0 hq2 hk2)
      refine hc.mono ?_
      rintro e u'' w' ⟨x, H', rfl, rfl, hkd', hk', hq'⟩
      cases x with
      | pan v => exact (h0 (hq' _ (good_of hk'))).elim
      | ret v =>
        show LeavesInM _ _ P fn t2.toArray _ (marksD ms1 []) (settle u'') w'
        rw [hset]
        have hms3 := hms2.keep hkd'
        refine leave_marks (by simp) hk.size ms1 w' hms3.1 hms3.2 (hkd2.trans hkd') hk' fun w'' hd'' hk'' => ?_
        obtain ⟨vs, h1, h2⟩ := fin_run (Q := Q) h0 hk'' hq'
        exact ⟨retV vs, h1, .ret (retV vs), H', rfl, hd'', hk'', h2⟩
    refine wpIn_mono (exec_sound (keep := keepT (fn.results.toList.map (lowerRes P))) hm hG n c none _ _ H1 w1 (fun out => Q (dfrO B (D kd) (evs t1 c'.args.toList) (fn.results.toList.map (lowerRes P)) out)) (.inl rfl) (by simpa using hkeep) h0 hk1 (fun N hN => ?_)).1 ?_
    · have := hq1 N hN
      simpa only [hdst, putT, restD] using this
    · rintro e a2 w2 ⟨x, t2, ta2, H2, ms2, rfl, rfl, ht2, hta2, hd2, hms2, _, hk2, hq2⟩
      have hmsA := hms1.app hms2 hd1 hd2
      have hwb : w0.heap.size ≤ w1.heap.size := hk1.size
      cases x with
      | normal =>
        obtain rfl := ht2 (by simp)
        exact leave_marks (by simp) hwb ms2 w2 hms2.1 hms2.2 hd2 hk2 fun w3 hd3 hk3 => hend _ .nilIface .returning .returning H2 w3 (.inl ⟨rfl, rfl, rfl⟩) (hd1.trans hd3) (hms1.keep hd3) hk3 hq2
      | ret =>
        obtain rfl := ht2 (by simp)
        exact leave_marks (by simp) hwb ms2 w2 hms2.1 hms2.2 hd2 hk2 fun w3 hd3 hk3 => hend _ .nilIface .returning .returning H2 w3 (.inl ⟨rfl, rfl, rfl⟩) (hd1.trans hd3) (hms1.keep hd3) hk3 hq2
      | pan v =>
        refine leave_marks (by simp) hwb ms2 w2 hms2.1 hms2.2 hd2 hk2 fun w3 hd3 hk3 => hend ta2 v _ _ H2 w3 (.inr ⟨rfl, rfl⟩) (hd1.trans hd3) (hms1.keep hd3) hk3 fun N hN => ?_
        rw [endD_congr (t' := t2) hta2]
        exact hq2 N hN
      | exit id => exact (h0 (hq2 _ (good_of hk2))).elim
end Go.Proofs.YtbpaekbjpapgeaaGreatDoor.K
namespace Go.Proofs.YtbpaekbjpapgeaaGreatDoor.K
variable {B : OH} {G : Env}
theorem e_skip {n s} : exec B G (n + 1) .skip s = some (.normal, s) := rfl
theorem e_ops {n l s} : exec B G (n + 1) (.ops l) s = exOps B G l (some (.normal, s)) := rfl
theorem e_fork {n a b t H N} : exec B G (n + 1) (.fork a b) ⟨t, H, N⟩ = bif N.g 0 then exec B G n a ⟨t, H, shg N⟩ else exec B G n b ⟨t, H, shg N⟩ := rfl
theorem shg_n {N : St} {i} : (shg N).n i = N.n i := rfl
theorem shg_c {N : St} {i} : (shg N).c i = N.c i := rfl
theorem shg_g {N : St} {i} : (shg N).g i = N.g (i + 1) := rfl
theorem shg_r {N : St} {i} : (shg N).r i = N.r i := rfl
theorem e_draw {n l s} : exec B G (n + 1) (.draw l) s = exDraw B G l (some (.normal, s)) := rfl
theorem d_none {l} : exDraw B G l none = none := by cases l <;> rfl
theorem d_nil {o} : exDraw B G [] o = o := rfl
theorem d_pan {l v s} : exDraw B G l (some (.pan v, s)) = some (.pan v, s) := by cases l <;> rfl
theorem d_cons {d op g ws l t H N} : exDraw B G (⟨⟨d, op, g⟩, ws⟩ :: l) (some (.normal, ⟨t, H, N⟩)) = exDraw B G l (watchS B ws (putE t d (bif wantG t g then stepE B G ⟨t, H, N⟩ op else some (.ret undef, H, N)))) := rfl
theorem d_ite {l c} [Decidable c] {a b} : exDraw B G l (if c then a else b) = if c then exDraw B G l a else exDraw B G l b := by split <;> rfl
theorem h_none {ws} : watchS B ws none = none := by cases ws <;> rfl
theorem h_nil {o} : watchS B [] o = o := rfl
theorem h_pan {ws v s} : watchS B ws (some (.pan v, s)) = some (.pan v, s) := by cases ws <;> rfl
theorem h_cons {d op g l t H N} : watchS B (⟨some d, op, g⟩ :: l) (some (.normal, ⟨t, H, N⟩)) = watchS B l (bif wantG t g then eqS (lightV B t H op) (some (gt t d)) ⟨t, H, N⟩ else some (.normal, ⟨t, H, N⟩)) := rfl
theorem eqS_same {v s} : eqS (some v) (some v) s = some (.normal, s) := by simp [eqS]
theorem h_ite {ws c} [Decidable c] {a b} : watchS B ws (if c then a else b) = if c then watchS B ws a else watchS B ws b := by split <;> rfl
theorem e_seq {n a b s} : exec B G (n + 1) (.seq a b) s = seqO (exec B G n b) (exec B G n a s) := rfl
theorem e_cond {n c a b t H N} : exec B G (n + 1) (.cond c a b) ⟨t, H, N⟩ = condO (ev t c) (exec B G n a) (exec B G n b) ⟨t, H, N⟩ := rfl
theorem e_block {n id b s} : exec B G (n + 1) (.block id b) s = blkO id (exec B G n b s) := rfl
theorem e_loop {n b s} : exec B G (n + 1) (.loop b) s = seqO (exec B G n (.loop b)) (exec B G n b s) := rfl
theorem e_exit {n id s} : exec B G (n + 1) (.exit id) s = some (.exit id, s) := rfl
theorem e_ret {n s} : exec B G (n + 1) .ret s = some (.ret, s) := rfl
theorem s_normal {k s} : seqO k (some (.normal, s)) = k s := rfl
theorem s_ret {k s} : seqO k (some (.ret, s)) = some (.ret, s) := rfl
theorem s_exit {k i s} : seqO k (some (.exit i, s)) = some (.exit i, s) := rfl
theorem s_none {k} : seqO k none = none := rfl
theorem s_ite {k c} [Decidable c] {a b} : seqO k (if c then a else b) = if c then seqO k a else seqO k b := by split <;> rfl
theorem b_normal {i s} : blkO i (some (.normal, s)) = some (.normal, s) := rfl
theorem b_ret {i s} : blkO i (some (.ret, s)) = some (.ret, s) := rfl
theorem b_exit {i j s} : blkO i (some (.exit j, s)) = if j = i then some (.normal, s) else some (.exit j, s) := rfl
theorem b_none {i} : blkO i none = none := rfl
theorem b_ite {i c} [Decidable c] {a b} : blkO i (if c then a else b) = if c then blkO i a else blkO i b := by split <;> rfl
theorem c_bool {c : Bool} {a b : S → Out} {s} : condO (.bool c) a b s = if c = true then a s else b s := rfl
theorem x_none {l} : exOps B G l none = none := by cases l <;> rfl
theorem x_nil {o} : exOps B G [] o = o := rfl
theorem x_pan {l v s} : exOps B G l (some (.pan v, s)) = some (.pan v, s) := by cases l <;> rfl
theorem x_cons {d op g l t H N} : exOps B G (⟨d, op, g⟩ :: l) (some (.normal, ⟨t, H, N⟩)) = exOps B G l (putE t d (bif wantG t g then stepE B G ⟨t, H, N⟩ op else some (.ret undef, H, N))) := rfl
theorem x_ite {l c} [Decidable c] {a b} : exOps B G l (if c then a else b) = if c then exOps B G l a else exOps B G l b := by split <;> rfl
theorem s_pan {k v s} : seqO k (some (.pan v, s)) = some (.pan v, s) := rfl
theorem b_pan {i v s} : blkO i (some (.pan v, s)) = some (.pan v, s) := rfl
theorem pE_ret {t d v H N} : putE t d (some (.ret v, H, N)) = some (.normal, ⟨putT t d v, H, N⟩) := rfl
theorem pE_pan {t d v H N} : putE t d (some (.pan v, H, N)) = some (.pan v, ⟨t, H, N⟩) := rfl
theorem pE_none {t d} : putE t d none = none := rfl
theorem pE_ite {t d c} [Decidable c] {a b} : putE t d (if c then a else b) = if c then putE t d a else putE t d b := by split <;> rfl
def pvE (v : Option Value) (H : HL) (N : St) : ResE := rv (pv v H N)
theorem pvE_some {v H N} : pvE (some v) H N = some (.ret v, H, N) := rfl
theorem pvE_none {H N} : pvE none H N = none := rfl
theorem pvE_ite {c} [Decidable c] {a b H N} : pvE (if c then a else b) H N = if c then pvE a H N else pvE b H N := by split <;> rfl
theorem rv_some {v H N} : rv (some (v, H, N)) = some (.ret v, H, N) := rfl
theorem rv_none : rv none = none := rfl
theorem rv_ite {c} [Decidable c] {a b} : rv (if c then a else b) = if c then rv a else rv b := by split <;> rfl
theorem oR_ret {v H N} : onlyR (some (.ret v, H, N)) = some (v, H, N) := rfl
section
variable {t : List Value} {H : HL} {N : St} {x y a b c : Operand} {lo hi mx : Option Operand} {n m k : Nat} {g : Bool} {z : List Value}
theorem t_mv : stepE B G ⟨t, H, N⟩ (.mv x) = some (.ret (ev t x), H, N) := rfl
theorem t_pick : stepE B G ⟨t, H, N⟩ (.pick c a b) = pvE (pickV (ev t c) (ev t a) (ev t b)) H N := rfl
theorem t_alloc : stepE B G ⟨t, H, N⟩ (.alloc z) = some (.ret (.pointer (some ⟨N 0, 0, none⟩)), (N 0, .cells z z.length) :: H, sh N) := rfl
theorem t_box : stepE B G ⟨t, H, N⟩ (.box x) = some (.ret (.pointer (some ⟨N 0, 0, none⟩)), (N 0, .cells (ev t x).cells.toList (ev t x).cells.toList.length) :: H, sh N) := rfl
theorem t_build {ps} : stepE B G ⟨t, H, N⟩ (.build z ps) = pvE (mkV true (fillV t ps (some z))) H N := rfl
theorem t_buildS {ps} : stepE B G ⟨t, H, N⟩ (.buildS z n ps) = rv (buildSV H N n (fillV t ps (some z))) := rfl
theorem t_load : stepE B G ⟨t, H, N⟩ (.load g n x) = pvE (loadV g n H B (ev t x)) H N := rfl
theorem t_store : stepE B G ⟨t, H, N⟩ (.store n a x) = rv (storeV n B H N (ev t a) (ev t x)) := rfl
theorem t_nilck : stepE B G ⟨t, H, N⟩ (.nilck x) = pvE (nilckV (ev t x)) H N := rfl
theorem t_bin {op} : stepE B G ⟨t, H, N⟩ (.bin op x y) = pvE (binV op (ev t x) (ev t y)) H N := rfl
theorem t_eqb : stepE B G ⟨t, H, N⟩ (.eqb g x y) = pvE (eqbV g (ev t x) (ev t y)) H N := rfl
theorem t_eqA {ls} : stepE B G ⟨t, H, N⟩ (.eqA g ls x y) = pvE (eqAV g ls (ev t x) (ev t y)) H N := rfl
theorem t_eqs {g x y} : stepE B G ⟨t, H, N⟩ (.eqs g x y) = pvE (eqsV g (ev t x) (ev t y)) H N := rfl
theorem t_appZ {z k x y} : stepE B G ⟨t, H, N⟩ (.appZ z k x y) = rv (appZR z k B H N (ev t x) (ev t y)) := rfl
theorem t_cpy {k x y} : stepE B G ⟨t, H, N⟩ (.cpy k x y) = rv (cpyV k B H N (ev t x) (ev t y)) := rfl
theorem t_eqp : stepE B G ⟨t, H, N⟩ (.eqp g x y) = pvE (eqpV g (ev t x) (ev t y)) H N := rfl
theorem t_un {op} : stepE B G ⟨t, H, N⟩ (.un op x) = pvE (unV op (ev t x)) H N := rfl
theorem t_conv {k} : stepE B G ⟨t, H, N⟩ (.conv k x) = pvE (convV k (ev t x)) H N := rfl
theorem t_field : stepE B G ⟨t, H, N⟩ (.field g n m x) = pvE (fieldV g n m (ev t x)) H N := rfl
theorem t_idxA : stepE B G ⟨t, H, N⟩ (.idxA g n m x y) = pvE (idxAV g n m (ev t x) (ev t y)) H N := rfl
theorem t_faddr : stepE B G ⟨t, H, N⟩ (.faddr n x) = pvE (faddrV n (ev t x)) H N := rfl
theorem t_iaddrS : stepE B G ⟨t, H, N⟩ (.iaddrS n x y) = pvE (iaddrSV n (ev t x) (ev t y)) H N := rfl
theorem t_iaddrA : stepE B G ⟨t, H, N⟩ (.iaddrA n m x y) = pvE (iaddrAV n m (ev t x) (ev t y)) H N := rfl
theorem t_ext : stepE B G ⟨t, H, N⟩ (.ext x n) = pvE (extV n (ev t x)) H N := rfl
theorem t_len : stepE B G ⟨t, H, N⟩ (.len g x) = pvE (lenV g (ev t x)) H N := rfl
theorem t_mm {xs} : stepE B G ⟨t, H, N⟩ (.mm g xs) = pvE (mmV g (evs t xs)) H N := rfl
theorem t_call {f xs} : stepE B G ⟨t, H, N⟩ (.call (.func f) xs) = callV G H N (ev t (.func f)) (evs t xs) := rfl
theorem t_callT {i xs} : stepE B G ⟨t, H, N⟩ (.call (.tmp i) xs) = callV G H N (gt t i) (evs t xs) := rfl
theorem t_callI {r xs} {tbl : Array Value} : stepE B G ⟨t, H, N⟩ (.call (.const (.tuple tbl)) (r :: xs)) = invV G H N tbl.toList (ev t r) (evs t xs) := rfl
theorem t_eqf {g x y} : stepE B G ⟨t, H, N⟩ (.eqf g x y) = pvE (eqfV g (ev t x) (ev t y)) H N := rfl
theorem t_feq {g x y} : stepE B G ⟨t, H, N⟩ (.feq g x y) = pvE (feqV g (ev t x) (ev t y)) H N := rfl
theorem t_cap {x} : stepE B G ⟨t, H, N⟩ (.cap x) = pvE (capV (ev t x)) H N := rfl
theorem t_fbits {b x} : stepE B G ⟨t, H, N⟩ (.fbits b x) = pvE (fbV b (ev t x)) H N := rfl
theorem inv_if {H N tbl ty v args} : invV G H N tbl (.iface ty v) args = invC G H N args (invT ty tbl v) := rfl
theorem inv_c {H N k r args} : invC G H N args (some (k, r)) = G.f k (r :: args) H N := rfl
theorem inv_t {t t' k d l v} : invT t (.pointer (some ⟨t', k, none⟩) :: d :: l) v = (bif t' == t then recvT k d v else invT t l v) := rfl
theorem rec_v {k v} : recvT k (.bool true) v = some (k, v) := by cases v <;> rfl
theorem rec_p {k off b o} : recvT k (.map (some off)) (.pointer (some ⟨b, o, none⟩)) = some (k, .pointer (some ⟨b, o + off, none⟩)) := rfl
theorem t_ifc : stepE B G ⟨t, H, N⟩ (.ifc n x) = some (.ret (.iface n (ev t x)), H, N) := rfl
theorem t_fn {f xs ys} : stepE B G ⟨t, H, N⟩ (.fn f xs ys) = some (.ret (.func f (evs t xs).toArray (evs t ys).toArray), H, N) := rfl
theorem t_slc : stepE B G ⟨t, H, N⟩ (.slc n x lo hi mx) = pvE (slcV n (optE t lo) (optE t hi) (optE t mx) (ev t x)) H N := rfl
theorem t_slcA : stepE B G ⟨t, H, N⟩ (.slcA n m x lo hi mx) = pvE (slcAV n m (optE t lo) (optE t hi) (optE t mx) (ev t x)) H N := rfl
theorem t_slcT : stepE B G ⟨t, H, N⟩ (.slcT x lo hi) = pvE (slcTV (optE t lo) (optE t hi) (ev t x)) H N := rfl
theorem t_tass {v} : stepE B G ⟨t, H, N⟩ (.tass n v x) = pvE (tassV n v (ev t x)) H N := rfl
theorem t_isn : stepE B G ⟨t, H, N⟩ (.isn g x) = pvE (isnV g (ev t x)) H N := rfl
theorem t_mks : stepE B G ⟨t, H, N⟩ (.mks z n x y) = rv (mksV z n H N (ev t x) (ev t y)) := rfl
theorem t_app : stepE B G ⟨t, H, N⟩ (.app z n x y) = rv (appR z.length n B H N (ev t x) (ev t y) (newsV z.length H B (ev t y))) := rfl
theorem t_pan : stepE B G ⟨t, H, N⟩ (.pan x) = panE H N (ev t x) := rfl
theorem panE_i {n v} : panE H N (.iface n v) = some (.pan (.iface n v), H, N) := rfl
theorem optE_none : optE t none = none := rfl
theorem optE_some : optE t (some x) = some (ev t x) := rfl
theorem bnd_none {d y} : bnd none d y = some d := rfl
theorem bnd_int {k i d y} : bnd (some (.int k i)) d y = if 0 ≤ i ∧ i ≤ (y : Int) then some i.toNat else none := rfl
theorem slA_none {k} : slA none k = some none := rfl
theorem slA_some {b o k} : slA (some ⟨b, o, none⟩) k = some (some ⟨b, o + k, none⟩) := by cases k <;> rfl
theorem slA_zero {a} : slA (some a) 0 = some (some a) := by cases a; rfl
theorem t_mkmap {k} : stepE B G ⟨t, H, N⟩ (.mkmap k) = rv (mkM k H N) := rfl
theorem t_mlook {k z ok m i} : stepE B G ⟨t, H, N⟩ (.mlook k z ok m i) = rv (pv (lookV k z ok H B (ev t m) (ev t i)) H N) := rfl
theorem t_mupd {k m i x} : stepE B G ⟨t, H, N⟩ (.mupd k m i x) = rv (mupdV k B H N (ev t m) (ev t i) (ev t x)) := rfl
theorem t_mdel {k m i} : stepE B G ⟨t, H, N⟩ (.mdel k m i) = rv (mdelV k B H N (ev t m) (ev t i)) := rfl
theorem mapF_some {kd k f} : mapF kd none (some (.map k f)) = if k = kd then some f else none := rfl
theorem lookF_some {ok z n f} : lookF ok z n (some f) = some (lookR ok z (f n)) := rfl
theorem setM_some {kd H N r n v u f} : setM kd H N r n v u (some f) = some (u, (r, .map kd (updF f n v)) :: H, N) := rfl
theorem lookR_t {z v} : lookR true z (some v) = .tuple #[v, .bool true] := rfl
theorem lookR_n {z} : lookR true z none = .tuple #[z, .bool false] := rfl
theorem lookR_f {z v} : lookR false z (some v) = v := rfl
theorem lookR_fn {z} : lookR false z none = z := rfl
theorem appR_some {sz by' s v news} : appR sz by' B H N s v (some news) = orC sz by' B H N s (lenS v) news (appV sz by' B H N s (lenS v) news) := rfl
theorem orC_some {sz by' s m news r} : orC sz by' B H N s m news (some r) = some r := rfl
theorem orC_none {sz by' s m news} : orC sz by' B H N s m news none = appC sz by' B H N s m news := rfl
theorem orC_ite {sz by' s m news} {c} [Decidable c] {a b : Res} : orC sz by' B H N s m news (if c then a else b) = if c then orC sz by' B H N s m news a else orC sz by' B H N s m news b := by split <;> rfl
theorem appOld_cells {sz m sLen sCap b news cs k} : appOld sz m sLen sCap b B H N news (some (.cells cs k)) = (if (B b).isNone = true ∧ k = sCap * sz ∧ sLen ≤ sCap ∧ all1 news = true then tk cs 0 (sLen * sz) else none).bind fun olds => appNew (bif N.g 0 && Nat.ble (sLen + m) sCap then b else N 0) sz (sLen + m) H N (olds ++ news) := rfl
theorem newsV_s {sz b o m c} (hm : m ≠ 0) : newsV sz H B (.slice (some ⟨b, o, none⟩) m c) = rdH H B b o (m * sz) := by
  cases m with
  | zero => exact (hm rfl).elim
  | succ m => rfl
theorem newsV_n {sz a c} : newsV sz H B (.slice a 0 c) = some [] := rfl
theorem lenS_s {a m c} : lenS (.slice a m c) = m := rfl
theorem appV_nil {sz by' m news} : appV sz by' B H N (.slice none 0 0) m news = if m = 0 then some (.slice none 0 0, H, N) else if m * by' ≤ 140737488355328 ∧ m ≤ 4611686018427387904 then appNew (N 0) sz m H N news else none := rfl
theorem appV_some {sz by' b sLen sCap m news} : appV sz by' B H N (.slice (some ⟨b, 0, none⟩) sLen sCap) m news = if m = 0 then (if sLen ≤ sCap then some (.slice (some ⟨b, 0, none⟩) sLen sCap, H, N) else none)
    else if (sLen + m) * by' ≤ 140737488355328 ∧ sLen + m ≤ 4611686018427387904 then appOld sz m sLen sCap b B H N news (lk H b) else none := rfl
theorem mksV_i {kl kc l c by'} : mksV z by' H N (.int kl l) (.int kc c) = if 0 ≤ l ∧ l ≤ c ∧ c ≤ 140737488355328 ∧ (by' : Int) * c ≤ 140737488355328 then some (.slice (some ⟨N 0, 0, none⟩) l.toNat c.toNat, (N 0, .cells ((List.replicate c.toNat z).flatten) (c.toNat * z.length)) :: H, sh N) else none := rfl
theorem sh_c {i} : (sh N).c i = N.c (i + 1) := rfl
theorem sh_g {i} : (sh N).g i = N.g (i + 1) := rfl
theorem sh_r {i} : (sh N).r i = N.r (i + 1) := rfl
end
theorem p_some {t d v H N} : putS t d (some (v, H, N)) = some ⟨putT t d v, H, N⟩ := rfl
theorem p_none {t d} : putS t d none = none := rfl
theorem p_ite {t d c} [Decidable c] {a b} : putS t d (if c then a else b) = if c then putS t d a else putS t d b := by split <;> rfl
theorem pt_some {t d v} : putT t (some d) v = st t d v := rfl
theorem pt_none {t v} : putT t none v = t := rfl
theorem pv_some {v H N} : pv (some v) H N = some (v, H, N) := rfl
theorem pv_none {H N} : pv none H N = none := rfl
theorem pv_ite {c} [Decidable c] {a b H N} : pv (if c then a else b) H N = if c then pv a H N else pv b H N := by split <;> rfl
theorem w_none {t} : wantG t none = true := rfl
theorem w_some {t j b} : wantG t (some (j, b)) = isB (gt t j) b := rfl
theorem i_bool {c b} : isB (.bool c) b = (c == b) := rfl
theorem i_undef {b} : isB undef b = false := rfl
theorem v_tmp {t i} : ev t (.tmp i) = gt t i := rfl
theorem v_const {t v} : ev t (.const v) = v := rfl
theorem v_global {t g} : ev t (.global g) = .pointer (some ⟨g, 0, none⟩) := rfl
theorem v_func {t f} : ev t (.func f) = .func (.func f) #[] #[] := rfl
theorem f_normal {rs t H N} : finO B rs (some (.normal, ⟨t, H, N⟩)) = rv (retR ⟨t, H, N⟩ (ress B ⟨t, H, N⟩ rs)) := rfl
theorem f_ret {rs t H N} : finO B rs (some (.ret, ⟨t, H, N⟩)) = rv (retR ⟨t, H, N⟩ (ress B ⟨t, H, N⟩ rs)) := rfl
theorem f_pan {rs v t H N} : finO B rs (some (.pan v, ⟨t, H, N⟩)) = some (.pan v, H, N) := rfl
theorem f_none {rs} : finO B rs none = none := rfl
theorem f_ite {rs c} [Decidable c] {a b} : finO B rs (if c then a else b) = if c then finO B rs a else finO B rs b := by split <;> rfl
theorem endD_ret {rs t v H N} : endD B rs t (some (.ret v, H, N)) = rv (retR ⟨t, H, N⟩ (ress B ⟨t, H, N⟩ rs)) := rfl
theorem dfr_normal {D : Ds} {a rs t H N} : dfrO B D a rs (some (.normal, ⟨t, H, N⟩)) = endD B rs t (D .nilIface a H N) := rfl
theorem dfr_ret {D : Ds} {a rs t H N} : dfrO B D a rs (some (.ret, ⟨t, H, N⟩)) = endD B rs t (D .nilIface a H N) := rfl
theorem dfr_pan {D : Ds} {a rs v t H N} : dfrO B D a rs (some (.pan v, ⟨t, H, N⟩)) = endD B rs t (D v a H N) := rfl
theorem restD_normal {D : Ds} {n f t H N} : restD B G D n f (some (.normal, ⟨t, H, N⟩)) = dfrO B D (evs t f.dargs) f.res (exec B G n f.code ⟨t, H, N⟩) := rfl
theorem r_some {l t H N} : retR ⟨t, H, N⟩ (some l) = some (retV l, H, N) := rfl
theorem co_some {v l} : consO (some v) (some l) = some (v :: l) := rfl
theorem l_ptr {g n H b o} : loadV g n H B (.pointer (some ⟨b, o, none⟩)) = mkV g (rdH H B b o n) := rfl
theorem m_agg {l} : mkV true (some l) = some (.agg l.toArray) := rfl
theorem m_one {v} : mkV false (some [v]) = some v := rfl
theorem sh_app {N : St} {i} : (sh N).n i = N.n (i + 1) := rfl
theorem lk_nil {r} : lk [] r = none := rfl
theorem lk_cons {x k H r} : lk ((x, k) :: H) r = bif r == x then some k else lk H r := rfl
theorem rd_eq {H b o n} : rdH H B b o n = rdO H B b o n (rdB B b o n) := rfl
theorem rdO_some {H b o n r} : rdO H B b o n (some r) = some r := rfl
theorem rdO_none {H b o n} : rdO H B b o n none = rdN H b o n (B b) := rfl
theorem rdN_none {H b o n} : rdN H b o n none = rdL o n (lk H b) := rfl
theorem rdL_some {o n k} : rdL o n (some k) = k.rd o n := rfl
theorem rdL_none {o n} : rdL o n none = none := rfl
theorem wrB_none {H b o vs} : wrB H b o vs none = wrH H b o vs := rfl
theorem unitR_some {N H} : unitR N (some H) = some (undef, H, N) := rfl
theorem wr_nil {l} : wr l 0 [] = some l := by cases l <;> rfl
theorem wr_here {x l v vs} : wr (x :: l) 0 (v :: vs) = tkC v (wr l 0 vs) := rfl
theorem wr_skip {x l o vs} : wr (x :: l) (o + 1) vs = tkC x (wr l o vs) := rfl
theorem k_cells {cs m o n} : (KB.cells cs m).rd o n = tk cs o n := rfl
theorem tk_zero {l} : tk l 0 0 = some [] := by cases l <;> rfl
theorem tk_take {v l n} : tk (v :: l) 0 (n + 1) = tkC v (tk l 0 n) := by cases h : tk l 0 n <;> simp [tk, tkC, h]
theorem tk_skip {v l o n} : tk (v :: l) (o + 1) n = tk l o n := rfl
theorem tkC_some {v l} : tkC v (some l) = some (v :: l) := rfl
theorem call_func {H N k f c args} : callV G H N (.func (.func k) f c) args = G.f k (f.toList ++ args ++ c.toList) H N := rfl
theorem call_yield {H N l f c args} : callV G H N (.func (.yield l) f c) args = G.y l (f.toList ++ args) H N := rfl
theorem e_range {n g ps a b t H N} : exec B G (n + 1) (.range g ps a b) ⟨t, H, N⟩ = afterR (N 1) (N.r 1) t (callIt G.it (N 1) (withY G.y (N 1) (yieldC (exec B G n a) (exec B G n b) (N 1) (N.r 1) ps t)) ((N 1, .loop (N.r 1) .ready) :: (N 0, .dfr) :: H) (sh (sh N)) (ev t g)) := rfl
theorem it_func {it : Nat → (Nat → Cs) → Cs} {l Y H N k f c} : callIt it l Y H N (.func (.func k) f c) = it k Y (f.toList ++ [.func (.yield l) #[] #[]] ++ c.toList) H N := rfl
theorem wy_same {y : Nat → Cs} {l c} : withY y l c l = c := by simp [withY]
theorem y_call {a b : S → Out} {l r0 ps t vs H N} : yieldC a b l r0 ps t vs H N = bif isLp r0 .ready (lk H l) && decide (vs.length = ps.length) then begRnd b l r0 (a ⟨setP t ps vs, H, N⟩) else none := rfl
theorem isLp_self {r0 st} : isLp r0 st (some (.loop r0 st)) = true := by simp [isLp]
theorem beg_normal {b : S → Out} {l r0 t H N} : begRnd b l r0 (some (.normal, ⟨t, H, N⟩)) = bif isLp r0 .ready (lk H l) then endRnd l r0 (b ⟨t, (l, .loop r0 .busy) :: H, N⟩) else none := rfl
theorem end_normal {l r0 t H N} : endRnd l r0 (some (.normal, ⟨t, H, N⟩)) = bif isLp r0 .busy (lk H l) then some (.ret (.bool true), (l, .loop r0 .ready) :: H, N) else none := rfl
theorem end_ret {l r0 t H N} : endRnd l r0 (some (.ret, ⟨t, H, N⟩)) = bif isLp r0 .busy (lk H l) then some (.ret (.bool false), (l, .loop r0 (.done none)) :: H, N) else none := rfl
theorem end_exit {l r0 i t H N} : endRnd l r0 (some (.exit i, ⟨t, H, N⟩)) = bif isLp r0 .busy (lk H l) then some (.ret (.bool false), (l, .loop r0 (.done (some i))) :: H, N) else none := rfl
theorem end_ite {l r0 c} [Decidable c] {a b} : endRnd l r0 (if c then a else b) = if c then endRnd l r0 a else endRnd l r0 b := by split <;> rfl
theorem aft_ret {l r0 t v H N} : afterR l r0 t (some (.ret v, H, N)) = aftR l r0 t H N (lk H l) := rfl
theorem aft_ready {l r0 t H N} : aftR l r0 t H N (some (.loop r0 .ready)) = some (.normal, ⟨t, (l, .loop r0 .over) :: H, N⟩) := by simp [aftR, isLp_self, lkU]
theorem aft_done {l r0 t H N} : aftR l r0 t H N (some (.loop r0 (.done none))) = some (.ret, ⟨t, (l, .loop r0 .over) :: H, N⟩) := by simp [aftR, isLp_self, lkU]
theorem aft_exit {l r0 i t H N} : aftR l r0 t H N (some (.loop r0 (.done (some i)))) = some (.exit i, ⟨t, (l, .loop r0 .over) :: H, N⟩) := by simp [aftR, isLp_self, lkU]
theorem setP_cons {t p ps v vs} : setP t (p :: ps) (v :: vs) = setP (st t p v) ps vs := rfl
theorem setP_nil {t vs} : setP t [] vs = t := by cases vs <;> rfl
theorem bt (b : Bool) : (b == true) = b := by cases b <;> rfl
theorem bf (b : Bool) : (b == false) = !b := by cases b <;> rfl
theorem beqN {N : St} (h : ∀ i j, N i = N j → i = j) (i j : Nat) : (N i == N j) = (i == j) := by
  rw [Bool.eq_iff_iff, beq_iff_eq, beq_iff_eq]
  exact ⟨h i j, fun e => e ▸ rfl⟩
theorem st_len (l : List Value) (i : Nat) (v : Value) : (st l i v).length = l.length := by
  induction l generalizing i with
  | nil => rfl
  | cons x l ih => cases i <;> simp [st, ih]
theorem gt_st_same (l : List Value) (i : Nat) (v : Value) (h : i < l.length) : gt (st l i v) i = v := by
  induction l generalizing i with
  | nil => simp at h
  | cons x l ih => cases i with
    | zero => rfl
    | succ i => simp only [st, gt]; exact ih i (by simpa using h)
theorem gt_st_ne (l : List Value) (i j : Nat) (v : Value) (h : i ≠ j) : gt (st l i v) j = gt l j := by
  induction l generalizing i j with
  | nil => rfl
  | cons x l ih => cases i with
    | zero => cases j with
      | zero => exact absurd rfl h
      | succ j => rfl
    | succ i => cases j with
      | zero => rfl
      | succ j => simp only [st, gt]; exact ih i j (by omega)
def c16 (x0 x1 x2 x3 x4 x5 x6 x7 x8 x9 x10 x11 x12 x13 x14 x15 : Value) (l : List Value) : List Value := x0 :: x1 :: x2 :: x3 :: x4 :: x5 :: x6 :: x7 :: x8 :: x9 :: x10 :: x11 :: x12 :: x13 :: x14 :: x15 :: l
section
variable {x0 x1 x2 x3 x4 x5 x6 x7 x8 x9 x10 x11 x12 x13 x14 x15 v : Value} {l : List Value} {n : Nat}
theorem gc0 : gt (c16 x0 x1 x2 x3 x4 x5 x6 x7 x8 x9 x10 x11 x12 x13 x14 x15 l) 0 = x0 := rfl
theorem gc1 : gt (c16 x0 x1 x2 x3 x4 x5 x6 x7 x8 x9 x10 x11 x12 x13 x14 x15 l) 1 = x1 := rfl
theorem gc2 : gt (c16 x0 x1 x2 x3 x4 x5 x6 x7 x8 x9 x10 x11 x12 x13 x14 x15 l) 2 = x2 := rfl
theorem gc3 : gt (c16 x0 x1 x2 x3 x4 x5 x6 x7 x8 x9 x10 x11 x12 x13 x14 x15 l) 3 = x3 := rfl
theorem gc4 : gt (c16 x0 x1 x2 x3 x4 x5 x6 x7 x8 x9 x10 x11 x12 x13 x14 x15 l) 4 = x4 := rfl
theorem gc5 : gt (c16 x0 x1 x2 x3 x4 x5 x6 x7 x8 x9 x10 x11 x12 x13 x14 x15 l) 5 = x5 := rfl
theorem gc6 : gt (c16 x0 x1 x2 x3 x4 x5 x6 x7 x8 x9 x10 x11 x12 x13 x14 x15 l) 6 = x6 := rfl
theorem gc7 : gt (c16 x0 x1 x2 x3 x4 x5 x6 x7 x8 x9 x10 x11 x12 x13 x14 x15 l) 7 = x7 := rfl
theorem gc8 : gt (c16 x0 x1 x2 x3 x4 x5 x6 x7 x8 x9 x10 x11 x12 x13 x14 x15 l) 8 = x8 := rfl
theorem gc9 : gt (c16 x0 x1 x2 x3 x4 x5 x6 x7 x8 x9 x10 x11 x12 x13 x14 x15 l) 9 = x9 := rfl
theorem gc10 : gt (c16 x0 x1 x2 x3 x4 x5 x6 x7 x8 x9 x10 x11 x12 x13 x14 x15 l) 10 = x10 := rfl
theorem gc11 : gt (c16 x0 x1 x2 x3 x4 x5 x6 x7 x8 x9 x10 x11 x12 x13 x14 x15 l) 11 = x11 := rfl
theorem gc12 : gt (c16 x0 x1 x2 x3 x4 x5 x6 x7 x8 x9 x10 x11 x12 x13 x14 x15 l) 12 = x12 := rfl
theorem gc13 : gt (c16 x0 x1 x2 x3 x4 x5 x6 x7 x8 x9 x10 x11 x12 x13 x14 x15 l) 13 = x13 := rfl
theorem gc14 : gt (c16 x0 x1 x2 x3 x4 x5 x6 x7 x8 x9 x10 x11 x12 x13 x14 x15 l) 14 = x14 := rfl
theorem gc15 : gt (c16 x0 x1 x2 x3 x4 x5 x6 x7 x8 x9 x10 x11 x12 x13 x14 x15 l) 15 = x15 := rfl
theorem gcS : gt (c16 x0 x1 x2 x3 x4 x5 x6 x7 x8 x9 x10 x11 x12 x13 x14 x15 l) (n + 16) = gt l n := rfl
theorem sc0 : st (c16 x0 x1 x2 x3 x4 x5 x6 x7 x8 x9 x10 x11 x12 x13 x14 x15 l) 0 v = c16 v x1 x2 x3 x4 x5 x6 x7 x8 x9 x10 x11 x12 x13 x14 x15 l := rfl
theorem sc1 : st (c16 x0 x1 x2 x3 x4 x5 x6 x7 x8 x9 x10 x11 x12 x13 x14 x15 l) 1 v = c16 x0 v x2 x3 x4 x5 x6 x7 x8 x9 x10 x11 x12 x13 x14 x15 l := rfl
theorem sc2 : st (c16 x0 x1 x2 x3 x4 x5 x6 x7 x8 x9 x10 x11 x12 x13 x14 x15 l) 2 v = c16 x0 x1 v x3 x4 x5 x6 x7 x8 x9 x10 x11 x12 x13 x14 x15 l := rfl
theorem sc3 : st (c16 x0 x1 x2 x3 x4 x5 x6 x7 x8 x9 x10 x11 x12 x13 x14 x15 l) 3 v = c16 x0 x1 x2 v x4 x5 x6 x7 x8 x9 x10 x11 x12 x13 x14 x15 l := rfl
theorem sc4 : st (c16 x0 x1 x2 x3 x4 x5 x6 x7 x8 x9 x10 x11 x12 x13 x14 x15 l) 4 v = c16 x0 x1 x2 x3 v x5 x6 x7 x8 x9 x10 x11 x12 x13 x14 x15 l := rfl
theorem sc5 : st (c16 x0 x1 x2 x3 x4 x5 x6 x7 x8 x9 x10 x11 x12 x13 x14 x15 l) 5 v = c16 x0 x1 x2 x3 x4 v x6 x7 x8 x9 x10 x11 x12 x13 x14 x15 l := rfl
theorem sc6 : st (c16 x0 x1 x2 x3 x4 x5 x6 x7 x8 x9 x10 x11 x12 x13 x14 x15 l) 6 v = c16 x0 x1 x2 x3 x4 x5 v x7 x8 x9 x10 x11 x12 x13 x14 x15 l := rfl
theorem sc7 : st (c16 x0 x1 x2 x3 x4 x5 x6 x7 x8 x9 x10 x11 x12 x13 x14 x15 l) 7 v = c16 x0 x1 x2 x3 x4 x5 x6 v x8 x9 x10 x11 x12 x13 x14 x15 l := rfl
theorem sc8 : st (c16 x0 x1 x2 x3 x4 x5 x6 x7 x8 x9 x10 x11 x12 x13 x14 x15 l) 8 v = c16 x0 x1 x2 x3 x4 x5 x6 x7 v x9 x10 x11 x12 x13 x14 x15 l := rfl
theorem sc9 : st (c16 x0 x1 x2 x3 x4 x5 x6 x7 x8 x9 x10 x11 x12 x13 x14 x15 l) 9 v = c16 x0 x1 x2 x3 x4 x5 x6 x7 x8 v x10 x11 x12 x13 x14 x15 l := rfl
theorem sc10 : st (c16 x0 x1 x2 x3 x4 x5 x6 x7 x8 x9 x10 x11 x12 x13 x14 x15 l) 10 v = c16 x0 x1 x2 x3 x4 x5 x6 x7 x8 x9 v x11 x12 x13 x14 x15 l := rfl
theorem sc11 : st (c16 x0 x1 x2 x3 x4 x5 x6 x7 x8 x9 x10 x11 x12 x13 x14 x15 l) 11 v = c16 x0 x1 x2 x3 x4 x5 x6 x7 x8 x9 x10 v x12 x13 x14 x15 l := rfl
theorem sc12 : st (c16 x0 x1 x2 x3 x4 x5 x6 x7 x8 x9 x10 x11 x12 x13 x14 x15 l) 12 v = c16 x0 x1 x2 x3 x4 x5 x6 x7 x8 x9 x10 x11 v x13 x14 x15 l := rfl
theorem sc13 : st (c16 x0 x1 x2 x3 x4 x5 x6 x7 x8 x9 x10 x11 x12 x13 x14 x15 l) 13 v = c16 x0 x1 x2 x3 x4 x5 x6 x7 x8 x9 x10 x11 x12 v x14 x15 l := rfl
theorem sc14 : st (c16 x0 x1 x2 x3 x4 x5 x6 x7 x8 x9 x10 x11 x12 x13 x14 x15 l) 14 v = c16 x0 x1 x2 x3 x4 x5 x6 x7 x8 x9 x10 x11 x12 x13 v x15 l := rfl
theorem sc15 : st (c16 x0 x1 x2 x3 x4 x5 x6 x7 x8 x9 x10 x11 x12 x13 x14 x15 l) 15 v = c16 x0 x1 x2 x3 x4 x5 x6 x7 x8 x9 x10 x11 x12 x13 x14 v l := rfl
theorem scS : st (c16 x0 x1 x2 x3 x4 x5 x6 x7 x8 x9 x10 x11 x12 x13 x14 x15 l) (n + 16) v = c16 x0 x1 x2 x3 x4 x5 x6 x7 x8 x9 x10 x11 x12 x13 x14 x15 (st l n v) := rfl
end
def pad1 (l : List Value) (n : Nat) : List Value := pad l n
theorem callF1 {n f args H N} : callF B G n f args H N = finO B f.res (exec B G n f.code ⟨pad1 args f.ntmps, H, N⟩) := rfl
theorem callD1 {D : Nat → Ds} {n f args H N} : callD B G D n f args H N = restD B G (D f.k) n f (exec B G n f.pre ⟨pad1 args f.ntmps, H, N⟩) := rfl
theorem callC1 {n f r args H N} : callC B G n f r args H N = finO B f.res (exec B G n f.code ⟨putT (pad1 args f.ntmps) f.d r, H, N⟩) := rfl
theorem pad_step (l : List Value) (n : Nat) : pad l (n + 1) = gt l 0 :: pad (l.drop 1) n := by cases l <;> simp [pad, gt]
theorem gt_drop (l : List Value) (k i : Nat) : gt (l.drop k) i = gt l (k + i) := by
  induction k generalizing l with
  | zero => simp
  | succ k ih => cases l with
    | nil => simp [gt]
    | cons x l => simp only [List.drop_succ_cons, ih]; rw [show k + 1 + i = (k + i) + 1 by omega]; rfl
theorem pad16 (l : List Value) (n : Nat) : pad1 l (n + 16) = c16 (gt l 0) (gt l 1) (gt l 2) (gt l 3) (gt l 4) (gt l 5) (gt l 6) (gt l 7) (gt l 8) (gt l 9) (gt l 10) (gt l 11) (gt l 12) (gt l 13) (gt l 14) (gt l 15) (pad1 (l.drop 16) n) := by
  unfold pad1 c16
  simp only [show n + 16 = n + 15 + 1 from rfl, pad_step, List.drop_drop, gt_drop]
theorem pad_0 (l : List Value) : pad1 l 0 = pad l 0 := rfl
theorem pad_1 (l : List Value) : pad1 l 1 = pad l 1 := rfl
theorem pad_2 (l : List Value) : pad1 l 2 = pad l 2 := rfl
theorem pad_3 (l : List Value) : pad1 l 3 = pad l 3 := rfl
theorem pad_4 (l : List Value) : pad1 l 4 = pad l 4 := rfl
theorem pad_5 (l : List Value) : pad1 l 5 = pad l 5 := rfl
theorem pad_6 (l : List Value) : pad1 l 6 = pad l 6 := rfl
theorem pad_7 (l : List Value) : pad1 l 7 = pad l 7 := rfl
theorem pad_8 (l : List Value) : pad1 l 8 = pad l 8 := rfl
theorem pad_9 (l : List Value) : pad1 l 9 = pad l 9 := rfl
theorem pad_10 (l : List Value) : pad1 l 10 = pad l 10 := rfl
theorem pad_11 (l : List Value) : pad1 l 11 = pad l 11 := rfl
theorem pad_12 (l : List Value) : pad1 l 12 = pad l 12 := rfl
theorem pad_13 (l : List Value) : pad1 l 13 = pad l 13 := rfl
theorem pad_14 (l : List Value) : pad1 l 14 = pad l 14 := rfl
theorem pad_15 (l : List Value) : pad1 l 15 = pad l 15 := rfl
end Go.Proofs.YtbpaekbjpapgeaaGreatDoor.K
namespace Go.Proofs.YtbpaekbjpapgeaaGreatDoor.K
open Go.ChangeShapes Go.WideShapes Go.ChangeAt Go.RowKit
variable {P : Program} {W : World} {B : OH} {G : Env}

def startB (W : World) : OH := fun b => match W.heap[b]? with | some (.cells arr _ _) => some (.ro fun i => arr[i]?) | _ => none
theorem knows_start (W : World) (hf : ∀ a : Addr, W.heap.size ≤ a.block → W.frozen? a = false) : Knows W (den [] (startB W)) W := by
  have hd : ∀ r k, den [] (startB W) r = some k → ∃ arr e fr, W.heap[r]? = some (.cells arr e fr) ∧ k = .ro fun i => arr[i]? := by
    intro r k h
    unfold den startB at h
    cases hb : W.heap[r]? with
    | none => simp [hb, lk] at h
    | some o => cases o <;> simp [hb, lk] at h; exact ⟨_, _, _, rfl, h.symm⟩
  refine ⟨rfl, rfl, rfl, Nat.le_refl _, fun _ _ => rfl, fun r k h => ?_, hf, fun r h => ?_, fun r ⟨r0, st, h⟩ => by obtain ⟨_, _, _, _, h2⟩ := hd r _ h; cases h2⟩
  · obtain ⟨arr, e, fr, h1, rfl⟩ := hd r k h
    refine ⟨?_, arr, e, fr, h1, fun i v hi => hi⟩
    rcases Nat.lt_or_ge r W.heap.size with h' | h'
    · exact h'
    · simp [Array.getElem?_eq_none h'] at h1
  · rcases h with ⟨cs, n, h⟩ | ⟨es, c, h⟩
    · obtain ⟨_, _, _, _, h2⟩ := hd r _ h; cases h2
    · obtain ⟨_, _, _, _, h2⟩ := hd r _ h; cases h2
theorem frozen_past (W : World) (a : Addr) (h : W.heap.size ≤ a.block) : W.frozen? a = false := by
  simp [World.frozen?, Array.getElem?_eq_none h]

theorem law_calls {k : Nat} {g : Cs} (hs : SoundC P W (startB W) k g) {args : List Value} (h : ∀ N, good (startB W) [] N → ∃ H' N', g args [] N = some (.ret (.bool true), H', N')) :
    Calls P k args.toArray W fun e w' => e = .returned (.bool true) ∧ Below W.heap.size W w' ∧ ∀ a, w'.frozen? a = W.frozen? a := by
  refine (hs [] args (fun r => ∃ H N, r = some (.ret (.bool true), H, N)) W (by simp) (fun N hN => ?_) (knows_start W (frozen_past W))).mono ?_
  · obtain ⟨H', N', e⟩ := h N hN
    exact ⟨H', N', e⟩
  · rintro e w' ⟨v, H', rfl, _, hk, hq⟩
    obtain ⟨H2, N2, hv⟩ := hq _ (good_of hk)
    simp only [Option.some.injEq, Prod.mk.injEq] at hv
    refine ⟨by rw [hv.1]; rfl, hk.below, fun a => ?_⟩
    rcases Nat.lt_or_ge a.block W.heap.size with h' | h'
    · exact hk.below.frozen h'
    · rw [hk.fz a h', frozen_past W a h']

theorem SoundC.eff {k : Nat} {g : Cs} {f : List Value → HL → Option (E × HL)} (hs : SoundC P W B k g)
    (h : ∀ args x H H1 N, f args H = some (x, H1) → good B H N → (∀ r, den H1 B r = none → den H B r = none) ∧ ∃ H' N', g args H N = some (x, H', N') ∧ ∀ r k, den H1 B r = some k → den H' B r = some k) :
    SoundC P W B k (fun args H N => match f args H with | some (x, H1) => some (x, H1, N) | none => none) := by
  intro H args Q w h0 hQ hk
  cases hf : f args H with
  | none => exact (h0 (by have := hQ _ (good_of hk); simp only [hf] at this; exact this)).elim
  | some xh =>
    obtain ⟨x, H1⟩ := xh
    simp only [hf] at hQ
    have hless := (h args x H H1 _ hf (good_of hk)).1
    refine (hs H args (fun r => ∃ H' N', r = some (x, H', N') ∧ ∀ r k, den H1 B r = some k → den H' B r = some k) w (by simp) (fun N hN => (h args x H H1 N hf hN).2) hk).mono ?_
    rintro e w' ⟨x', H', rfl, hkd, hk', hq'⟩
    obtain ⟨H2, N2, e2, hle⟩ := hq' _ (good_of hk')
    simp only [Option.some.injEq, Prod.mk.injEq] at e2
    obtain ⟨rfl, rfl, _⟩ := e2
    exact ⟨x', H1, rfl, hkd, hk'.mono hle, fun N' hN' => hQ N' (good_less hless hN')⟩
theorem SoundC.val {k : Nat} {g : Cs} {f : List Value → Option Value} (hs : SoundC P W B k g)
    (h : ∀ args v H N, f args = some v → good B H N → ∃ H' N', g args H N = some (.ret v, H', N') ∧ ∀ r x, den H B r = some x → den H' B r = some x) : SoundC P W B k (fun args H N => pvE (f args) H N) := by
  have := SoundC.eff (f := fun args H => (f args).map fun v => (E.ret v, H)) hs (fun args x H H1 N hf hN => by
    cases hv : f args with
    | none => simp [hv] at hf
    | some v =>
      simp only [hv, Option.map_some, Option.some.injEq, Prod.mk.injEq] at hf
      obtain ⟨rfl, rfl⟩ := hf
      exact ⟨fun _ h => h, h args v H N hv hN⟩)
  intro H args Q w h0 hQ hk
  refine this H args Q w h0 (fun N hN => ?_) hk
  have h := hQ N hN
  cases hv : f args with
  | none => simpa [hv, pvE, rv, pv] using h
  | some v => simpa [hv, pvE, rv, pv] using h

def Ev (B : OH) (g : Cs) (args : List Value) (v : Value) : Prop := ∀ H N, good B H N → ∃ H' N', g args H N = some (.ret v, H', N') ∧ ∀ r x, den H B r = some x → den H' B r = some x
open Classical in
noncomputable def kval (B : OH) (g : Cs) (args : List Value) : Option Value := if h : (∃ H N, good B H N) ∧ ∃ v, Ev B g args v then some (Classical.choose h.2) else none
noncomputable def kvalC (B : OH) (g : Cs) : Cs := fun a H N => pvE (kval B g a) H N
theorem kval_eq {g : Cs} {args : List Value} {v : Value} (hN : ∃ H N, good B H N) (h : Ev B g args v) : kval B g args = some v := by
  have hh : (∃ H N, good B H N) ∧ ∃ v, Ev B g args v := ⟨hN, v, h⟩
  unfold kval
  rw [dif_pos hh]
  obtain ⟨H, N, hg⟩ := hN
  obtain ⟨_, _, e1, _⟩ := Classical.choose_spec hh.2 H N hg
  obtain ⟨_, _, e2, _⟩ := h H N hg
  rw [e2] at e1
  simp only [Option.some.injEq, Prod.mk.injEq, E.ret.injEq] at e1
  rw [e1.1]
theorem SoundC.ofVal {k : Nat} {g : Cs} (hs : SoundC P W B k g) : SoundC P W B k (kvalC B g) :=
  hs.val fun args v H N hf hN => by
    unfold kval at hf
    split at hf
    · rename_i h
      simp only [Option.some.injEq] at hf
      subst hf
      exact Classical.choose_spec h.2 H N hN
    · cases hf
theorem done2 {v : E} {H H1 : HL} {N : St} (h : ∀ r x, den H B r = some x → den H1 B r = some x) : ∃ H' N', some (v, H1, N) = some (v, H', N') ∧ ∀ r x, den H B r = some x → den H' B r = some x := ⟨_, _, rfl, h⟩
theorem ext_new {H H' : HL} {N : St} {i : Nat} {k : KB} (hN : good B H N) (h : ∀ r x, den H B r = some x → den H' B r = some x) : ∀ r x, den H B r = some x → den ((N i, k) :: H') B r = some x := by
  intro r x hr
  have hne : r ≠ N i := fun e => by rw [e, hN.2 i] at hr; cases hr
  have hx := h r x hr
  unfold den at hx ⊢
  simp only [lk]
  have : (r == N i) = false := by simpa using hne
  simpa [this] using hx
theorem good_B {H : HL} {N : St} (hN : good B H N) (i : Nat) : B (N i) = none := by
  have := hN.2 i
  unfold den at this
  cases h : B (N i) with
  | none => rfl
  | some k => simp [h] at this
theorem good_rdB {H : HL} {N : St} (hN : good B H N) (i o n : Nat) : rdB B (N i) o n = none := by simp [rdB, good_B hN i]

theorem args_stay {H : Type} {enc : TypeId × Value → H} (hl : laidOutB P = true) {W W' : World} (hb : Below W.heap.size W W') {sp : Nat → Bool} : ∀ {ts : List TypeId} {vs : List Value} {ds : List (DataW H)} {ps : List MemPlace},
    (∀ t ∈ ts, P.readableRec t = true ∧ t < P.types.size) → DataW.TrodAll enc P W 0 (fun _ => true) true ts vs ds ps → (∀ x ∈ ps, x.block < W.heap.size) → (∀ x ∈ ps, sp x.block = true) → DataW.TrodAll enc P W' 0 sp true ts vs ds ps
  | [], vs, ds, ps, _, h, _, _ => by
    obtain ⟨rfl, rfl, rfl⟩ := trodAll_nil h
    exact trodAll_mk0
  | t :: ts, vs, ds, ps, ht, h, hlt, hsp => by
    obtain ⟨v, vs', d, ds', p, q, rfl, rfl, rfl, h1, h2⟩ := trodAll_cons h
    obtain ⟨r1, r2⟩ := ht t List.mem_cons_self
    refine trodAll_cons_mk ?_ (args_stay hl hb (fun t h => ht t (List.mem_cons_of_mem _ h)) h2 (fun x h => hlt x (List.mem_append_right _ h)) (fun x h => hsp x (List.mem_append_right _ h)))
    exact WideElems.Trod_stays hl r1 r2 h1 (fun x hx => hb.same (hlt x (List.mem_append_left _ hx))) (fun x hx => hsp x (List.mem_append_left _ hx))

theorem law_post {H : Type} {enc : TypeId × Value → H} {f : Func} {s : ChangeSpec} {tb : TypeId} (hl : laidOutB P = true) (hts : ∀ t ∈ f.params.toList, P.readableRec t = true ∧ t < P.types.size) (hv : s.vars = []) (hr : f.resultTypes = #[tb]) (hb : P.underlying tb = some .bool)
    {W : World} {args : Array Value} {ds gs : List (DataW H)} {before : List MemPlace} {apart fresh handsOn again : Bool} {k : Nat}
    (hW : DataW.Whole enc P f.params.toList s.vars apart W args.toList ds gs before) (hs : (s.fn H (ds ++ gs)).results = [.lit (.bool true)]) (ha : (s.fn H (ds ++ gs)).args = ds) (hvs : (s.fn H (ds ++ gs)).vars = [])
    (walk : Calls P k args W fun e w' => e = .returned (.bool true) ∧ Below W.heap.size W w' ∧ ∀ a, w'.frozen? a = W.frozen? a) :
    Calls P k args W fun e W' => ∃ v, e = .returned v ∧ s.post enc P f apart fresh handsOn again W args v W' := by
  refine walk.mono fun e W' ⟨he, hbel, hfz⟩ => ⟨_, he, ?_⟩
  have hW0 := hW
  obtain ⟨p, q, hA, hV, rfl, hz, hnd⟩ := hW
  rw [hv] at hV
  obtain ⟨rfl, rfl⟩ := trodVars_none hV
  have hlt : ∀ x ∈ p, x.block < W.heap.size := fun x hx => by
    have := hW0.lt x (by simpa using hx)
    exact this
  refine post_of_same (pa := p) (pv := []) hW0 (fun _ _ _ => ?_) (fun sp hsp => ?_) (fun _ _ => ?_) rfl (hbel.frame _) hfz ?_
  · rw [hs, hr]
    exact trodAll_cons_mk (shut_bool hb _) trodAll_mk0
  · rw [ha]
    exact args_stay hl hbel hts hA hlt (fun x hx => hsp x (by simpa using hx))
  · rw [hv, hvs]; rfl
  · exact ok_one hr rfl (okWide_bool_mk hb _)
end Go.Proofs.YtbpaekbjpapgeaaGreatDoor.K
namespace Go.Proofs.YtbpaekbjpapgeaaGreatDoor.K
open Go.ChangeShapes
variable {P : Program} {w : World} {H : Type} {enc : TypeId × Value → H} {base : Nat} {sp : Nat → Bool} {held : Bool}

inductive LK where
  | int (k : IntKind) | bool | str
  deriving DecidableEq
mutual
def leafs (P : Program) : Nat → TypeId → Option (List LK)
  | 0, _ => none
  | d + 1, t =>
    match P.underlying t with
    | some .bool => some [.bool]
    | some (.int k) => some [.int k]
    | some .string => some [.str]
    | some (.struct fs) => match leafsF P d fs.toList 0 with | some l => if P.cellsOf t = l.length then some l else none | none => none
    | some (.array n e) => match leafs P d e with | some l => if P.cellsOf e = l.length ∧ P.cellsOf t = n * l.length then some ((List.replicate n l).flatten) else none | none => none
    | _ => none
def leafsF (P : Program) : Nat → List Field → Nat → Option (List LK)
  | _, [], _ => some []
  | 0, _ :: _, _ => none
  | d + 1, f :: r, o =>
    match leafs P d f.type with
    | some l => if f.offset = o ∧ P.cellsOf f.type = l.length then (match leafsF P d r (o + l.length) with | some m => some (l ++ m) | none => none) else none
    | none => none
end
def flatL : DataW H → List Lit
  | .lit l => [l]
  | .agg ps => flatLs ps
  | _ => []
  where flatLs : List (DataW H) → List Lit
    | [] => []
    | d :: r => flatL d ++ flatLs r
def litV : Lit → Value
  | .bool b => .bool b
  | .int k n => .int k n
  | .string bs => .string ⟨bs.toArray⟩
  | .float k b => .float k b
  | .nil => .pointer none
def okL : LK → Lit → Prop
  | .int k, .int k' n => k' = k ∧ (Lit.int k n).wf = true
  | .bool, .bool _ => True
  | .str, .string bs => bs.length ≤ maxLen
  | _, _ => False
inductive OKs : List LK → List Lit → Prop
  | nil : OKs [] []
  | cons {a b l m} : okL a b → OKs l m → OKs (a :: l) (b :: m)
theorem OKs.append {a c : List LK} {b d : List Lit} (h : OKs a b) (h' : OKs c d) : OKs (a ++ c) (b ++ d) := by
  induction h with
  | nil => exact h'
  | cons h1 _ ih => exact .cons h1 ih
theorem OKs.length {a : List LK} {b : List Lit} (h : OKs a b) : a.length = b.length := by
  induction h with
  | nil => rfl
  | cons _ _ ih => simp [ih]
theorem flatLs_map (xs : List (DataW H × List MemPlace)) : flatL.flatLs (xs.map (·.1)) = xs.flatMap fun x => flatL x.1 := by
  induction xs with
  | nil => rfl
  | cons x xs ih => simp [flatL.flatLs, ih]
theorem array_tile {es : Nat} {cs : List Value} {lk : List LK} (hes : es = lk.length) : ∀ (n o : Nat) (xs : List (DataW H × List MemPlace)), xs.length = n → o + n * es ≤ cs.length →
    (∀ i, i < n → ∃ x, xs[i]? = some x ∧ (cs.drop (o + i * es)).take es = (flatL x.1).map litV ∧ OKs lk (flatL x.1) ∧ x.2 = []) →
    (cs.drop o).take (n * es) = (xs.flatMap fun x => flatL x.1).map litV ∧ OKs (List.replicate n lk).flatten (xs.flatMap fun x => flatL x.1) ∧ xs.flatMap (·.2) = []
  | 0, o, xs, hx, _, _ => by
    have : xs = [] := List.length_eq_zero_iff.1 hx
    subst this
    simp
    exact .nil
  | n + 1, o, [], hx, _, _ => by cases hx
  | n + 1, o, x :: xs, hx, hlen, h => by
    obtain ⟨x', e1, h1, h2, h3⟩ := h 0 (by omega)
    simp only [List.getElem?_cons_zero, Option.some.injEq] at e1
    subst e1
    have hn : (n + 1) * es = n * es + es := by rw [Nat.add_mul, Nat.one_mul]
    obtain ⟨i1, i2, i3⟩ := array_tile (cs := cs) (lk := lk) hes n (o + es) xs (by simpa using hx) (by omega) (fun i hi => by
      obtain ⟨y, e, g1, g2, g3⟩ := h (i + 1) (by omega)
      refine ⟨y, by simpa using e, ?_, g2, g3⟩
      have : o + (i + 1) * es = o + es + i * es := by rw [Nat.add_mul, Nat.one_mul]; omega
      rw [← this]; exact g1)
    refine ⟨?_, ?_, ?_⟩
    · rw [show (n + 1) * es = es + n * es by rw [hn]; omega, List.take_add, List.drop_drop]
      simp only [Nat.zero_mul, Nat.add_zero] at h1
      rw [h1, show o + es = o + es from rfl, i1]
      simp
    · rw [List.replicate_succ, List.flatten_cons, List.flatMap_cons]
      exact h2.append i2
    · simp [h3, i3]
theorem trod_flat : ∀ (d : Nat), (∀ (t : TypeId) (ls : List LK) (fuel : Nat) (cs : List Value) (x : DataW H × List MemPlace), leafs P d t = some ls → DataW.trod enc P w base sp held fuel t cs = some x →
      cs = (flatL x.1).map litV ∧ OKs ls (flatL x.1) ∧ x.2 = []) ∧
    (∀ (fs : List Field) (o : Nat) (ls : List LK) (n : Nat) (cs : List Value) (xs : List (DataW H × List MemPlace)), leafsF P d fs o = some ls → xs.length = fs.length → o + ls.length ≤ cs.length →
      (∀ (i : Nat) (f : Field), fs[i]? = some f → DataW.trod enc P w base sp held n f.type ((cs.drop f.offset).take (P.cellsOf f.type)) = xs[i]?) →
      (cs.drop o).take ls.length = (xs.flatMap fun x => flatL x.1).map litV ∧ OKs ls (xs.flatMap fun x => flatL x.1) ∧ xs.flatMap (·.2) = []) := by
  intro d
  induction d with
  | zero =>
    refine ⟨fun t ls fuel cs x h => by simp [leafs] at h, fun fs o ls n cs xs h hx hlen hf => ?_⟩
    cases fs with
    | nil =>
      simp only [leafsF, Option.some.injEq] at h
      subst h
      have : xs = [] := List.length_eq_zero_iff.1 hx
      subst this
      simp; exact .nil
    | cons f fs => simp [leafsF] at h
  | succ d ih =>
    obtain ⟨ihP, ihQ⟩ := ih
    refine ⟨fun t ls fuel cs x h hx => ?_, fun fs o ls n cs xs h hx hlen hf => ?_⟩
    · simp only [leafs] at h
      split at h
      · rename_i ht
        simp only [Option.some.injEq] at h; subst h
        obtain ⟨b, rfl, rfl⟩ := DataW.trod_bool ht hx
        exact ⟨rfl, .cons trivial .nil, rfl⟩
      · rename_i k ht
        simp only [Option.some.injEq] at h; subst h
        obtain ⟨n, rfl, rfl, hw⟩ := DataW.trod_int ht hx
        exact ⟨rfl, .cons ⟨rfl, hw⟩ .nil, rfl⟩
      · rename_i ht
        simp only [Option.some.injEq] at h; subst h
        obtain ⟨s, rfl, rfl, hs⟩ := DataW.trod_string ht hx
        refine ⟨by simp [flatL, litV], .cons ?_ .nil, rfl⟩
        simpa [okL] using hs
      · rename_i fs ht
        split at h
        · rename_i l hl
          split at h
          · rename_i hc
            simp only [Option.some.injEq] at h; subst h
            obtain ⟨xs, n, _, rfl, hlen, hxl, hf⟩ := DataW.trod_struct ht hx
            obtain ⟨h1, h2, h3⟩ := ihQ fs.toList 0 l n cs xs hl (by simpa using hxl) (by omega) (fun i f hi => hf i f (by simpa using hi))
            refine ⟨?_, ?_, h3⟩
            · simp only [flatL, flatLs_map]
              rw [← h1, List.drop_zero, List.take_of_length_le (by omega)]
            · simp only [flatL, flatLs_map]; exact h2
          · cases h
        · cases h
      · rename_i n e ht
        split at h
        · rename_i l hl
          split at h
          · rename_i hc
            simp only [Option.some.injEq] at h; subst h
            obtain ⟨xs, m, _, rfl, hlen, hxl, hf⟩ := DataW.trod_array ht hx
            obtain ⟨h1, h2, h3⟩ := array_tile (es := P.cellsOf e) (cs := cs) hc.1 n 0 xs hxl (by rw [hc.1]; omega) (fun i hi => by
              have h0 := hf i hi
              have hget : xs[i]? = some xs[i] := by simp [hxl, hi]
              rw [hget] at h0
              obtain ⟨g1, g2, g3⟩ := ihP e l m _ _ hl h0
              exact ⟨xs[i], hget, by rw [Nat.zero_add]; exact g1, g2, g3⟩)
            refine ⟨?_, ?_, h3⟩
            · simp only [flatL, flatLs_map]
              rw [← h1, List.drop_zero, List.take_of_length_le (by rw [hc.1]; omega)]
            · simp only [flatL, flatLs_map]; exact h2
          · cases h
        · cases h
      · cases h
    · cases fs with
      | nil =>
        simp only [leafsF, Option.some.injEq] at h
        subst h
        have : xs = [] := List.length_eq_zero_iff.1 hx
        subst this
        simp; exact .nil
      | cons f fs =>
        simp only [leafsF] at h
        split at h
        · rename_i l hl
          split at h
          · rename_i hc
            split at h
            · rename_i m hm
              simp only [Option.some.injEq] at h; subst h
              cases xs with
              | nil => cases hx
              | cons x xs =>
                have h0 := hf 0 f rfl
                simp only [List.getElem?_cons_zero] at h0
                obtain ⟨g1, g2, g3⟩ := ihP f.type l n _ _ hl h0
                rw [List.length_append] at hlen
                obtain ⟨i1, i2, i3⟩ := ihQ fs (o + l.length) m n cs xs hm (by simpa using hx) (by omega) (fun i f' hi => by
                  have := hf (i + 1) f' (by simpa using hi)
                  simpa using this)
                refine ⟨?_, ?_, ?_⟩
                · rw [List.length_append, List.take_add, List.drop_drop, i1]
                  rw [hc.1, hc.2] at g1
                  rw [g1]
                  simp
                · rw [List.flatMap_cons]; exact g2.append i2
                · simp [g3, i3]
            · cases h
          · cases h
        · cases h
theorem laid_cells {W : World} : ∀ {laid : List (String × DataW Unit)} {ps : List MemPlace}, DataW.LaidVars P W laid ps → ∀ {n : String} {x : DataW Unit}, (n, x) ∈ laid → ∀ {g : Nat} {t : TypeId} {ls : List LK} (d : Nat), P.globalNamed n = some g → (P.globals[g]?).map (·.type) = some t → leafs P d t = some ls →
    ∃ arr e fr, W.heap[g]? = some (.cells arr e fr) ∧ arr.toList = (flatL x).map litV
  | [], _, _, _, _, hm, _, _, _, _, _, _, _ => by cases hm
  | (n', x') :: laid, ps, h, n, x, hm, g, t, ls, d, hg, ht, hl => by
    obtain ⟨g', t', cs, fuel, p, q, h1, h2, h3, h4, h5, _⟩ := h
    rcases List.mem_cons.1 hm with e | hm
    · simp only [Prod.mk.injEq] at e
      obtain ⟨rfl, rfl⟩ := e
      obtain rfl := Option.some.inj (hg.symm.trans h1)
      obtain rfl := Option.some.inj (ht.symm.trans h2)
      obtain ⟨e1, _, _⟩ := (trod_flat d).1 _ _ _ _ _ hl h4
      unfold World.var? at h3
      rw [hg] at h3
      simp only [Option.bind_some] at h3
      split at h3
      · rename_i arr e fr hw
        simp only [Option.some.injEq] at h3
        subst h3
        exact ⟨arr, e, fr, hw, e1⟩
      · cases h3
    · exact laid_cells h5 hm d hg ht hl
theorem rof_list {f : Nat → Option Value} : ∀ (l : List Value) (o : Nat), (∀ i : Nat, i < l.length → f (o + i) = l[i]?) → rof f o l.length = some l
  | [], _, _ => rfl
  | v :: l, o, h => by
    have h0 := h 0 (by simp)
    simp only [Nat.add_zero, List.getElem?_cons_zero] at h0
    have hr := rof_list l (o + 1) (fun i hi => by
      have := h (i + 1) (by simp; omega)
      rw [show o + 1 + i = o + (i + 1) by omega]
      simpa using this)
    simp only [List.length_cons, rof, h0, hr]
theorem rdB_start {W : World} {b : Nat} {arr : Array Value} {e : TypeId} {fr : Nat × Nat} (h : W.heap[b]? = some (.cells arr e fr)) (o n : Nat) : rdB (startB W) b o n = rof (fun i => arr[i]?) o n := by
  simp [rdB, startB, h, KB.rd]
theorem rdB_whole {W : World} {b : Nat} {arr : Array Value} {e : TypeId} {fr : Nat × Nat} (h : W.heap[b]? = some (.cells arr e fr)) {l : List Value} (hl : arr.toList = l) {n : Nat} (hn : l.length = n) : rdB (startB W) b 0 n = some l := by
  rw [rdB_start h]
  subst hn hl
  exact rof_list _ 0 (fun i _ => by simp)
theorem laidMet_of_H {laid : List (String × DataW Unit)} {W : World} (hn : (laid.filter fun x => x.2.handleName?.isSome) = []) (h : laidMetH P laid W) : laidMet P laid W := by
  unfold laidMetH at h
  rw [hn] at h
  exact h
end Go.Proofs.YtbpaekbjpapgeaaGreatDoor.K
namespace Go.Proofs.YtbpaekbjpapgeaaGreatDoor.K
open Go.ChangeShapes Go.WideShapes Go.ChangeAt Go.RowKit

theorem i64_wf {n : Int} (h : (Lit.int .i64 n).wf = true) : -9223372036854775808 ≤ n ∧ n ≤ 9223372036854775807 := by
  have h1 : IntKind.i64.min = -9223372036854775808 := by rfl
  have h2 : IntKind.i64.max = 9223372036854775807 := by rfl
  simpa only [Lit.wf, h1, h2, Bool.and_eq_true, decide_eq_true_eq] using h

noncomputable def laidW (P : Program) (os : Os) (l : List (Nat × List Value)) : World :=
  let w := World.holding P os ⟨#[], #[], []⟩
  { w with heap := l.foldl (fun h x => h.modify x.1 fun
      | .cells _ t frozen => .cells x.2.toArray t frozen
      | o => o) w.heap }
variable {P : Program} {W : World} {H : Type} {enc : TypeId × Value → H} {base : Nat} {sp : Nat → Bool} {held : Bool}
theorem open_flat {r : Reach} {b0 : Nat} {t : TypeId} {v : Value} {d : DataW H} {ps : List MemPlace} {ls : List LK} (n : Nat) (ht : aggB P t = some true) (hl : leafs P n t = some ls) (hval : Value.okWide P W r b0 t v) (hd : DataW.Trod enc P W base sp held t v d ps) :
    ∃ m : List Lit, v = .agg (m.map litV).toArray ∧ OKs ls m := by
  obtain ⟨cs, rfl⟩ : ∃ cs, v = .agg cs := by
    unfold aggB at ht
    unfold Value.okWide at hval
    split at ht
    · rename_i fs hu
      rw [hu] at hval
      obtain ⟨cs, h, _⟩ := hval
      exact ⟨cs, h⟩
    · rename_i k e hu
      rw [hu] at hval
      obtain ⟨cs, h, _⟩ := hval
      exact ⟨cs, h⟩
    · cases ht
    · cases ht
  obtain ⟨fuel, hf⟩ := hd
  obtain ⟨h1, h2, _⟩ := (trod_flat n).1 _ _ _ _ _ hl hf
  refine ⟨flatL d, ?_, h2⟩
  congr 1
  apply Array.ext'
  simpa [Value.cells] using h1
theorem OKs.int {k : IntKind} {l : List LK} {m : List Lit} (h : OKs (.int k :: l) m) : ∃ n r, m = .int k n :: r ∧ (Lit.int k n).wf = true ∧ OKs l r := by
  cases h with
  | cons h1 h2 =>
    rename_i b r
    cases b <;> simp only [okL] at h1
    obtain ⟨rfl, hw⟩ := h1
    exact ⟨_, _, rfl, hw, h2⟩
theorem OKs.bool {l : List LK} {m : List Lit} (h : OKs (.bool :: l) m) : ∃ b r, m = .bool b :: r ∧ OKs l r := by
  cases h with
  | cons h1 h2 =>
    rename_i b r
    cases b <;> simp only [okL] at h1
    exact ⟨_, _, rfl, h2⟩
theorem OKs.none {m : List Lit} (h : OKs [] m) : m = [] := by cases h; rfl
theorem u64_wf' {n : Int} (h : (Lit.int .u64 n).wf = true) : 0 ≤ n ∧ n < 18446744073709551616 := by
  have h1 : IntKind.u64.min = 0 := by rfl
  have h2 : IntKind.u64.max = 18446744073709551615 := by rfl
  simp only [Lit.wf, h1, h2, Bool.and_eq_true, decide_eq_true_eq] at h
  omega
end Go.Proofs.YtbpaekbjpapgeaaGreatDoor.K
namespace Go.Proofs.YtbpaekbjpapgeaaGreatDoor.K
variable {B : OH} {G : Env}

def upH : HL → Nat → KB → HL
  | [], b, k => [(b, k)]
  | (x, k0) :: H, b, k => bif b == x then (x, k) :: H else (x, k0) :: upH H b k
def wrU (H : HL) (b n : Nat) : Option (List Value) → Option HL
  | some cs => some (upH H b (.cells cs n))
  | none => none
def wrX (H : HL) (b o : Nat) (vs : List Value) : Option KB → Option HL
  | some (.cells cs n) => wrU H b n (wr cs o vs)
  | _ => none
theorem upH_nil {b k} : upH [] b k = [(b, k)] := rfl
theorem upH_cons {x k0 H b k} : upH ((x, k0) :: H) b k = bif b == x then (x, k) :: H else (x, k0) :: upH H b k := rfl
theorem wrX_cells {H b o vs cs n} : wrX H b o vs (some (.cells cs n)) = wrU H b n (wr cs o vs) := rfl
theorem wrU_some {H b n cs} : wrU H b n (some cs) = some (upH H b (.cells cs n)) := rfl
theorem wrH_eq : ∀ {H : HL} {b o : Nat} {vs : List Value}, wrH H b o vs = wrX H b o vs (lk H b)
  | [], b, o, vs => rfl
  | (x, k) :: H, b, o, vs => by
    simp only [wrH, lk]
    by_cases h : b = x
    · subst h
      simp only [beq_self_eq_true, cond_true, wrK, wrX]
      cases k with
      | cells cs n => simp only [wrC, wrU, upH, beq_self_eq_true, cond_true]; cases wr cs o vs <;> rfl
      | _ => rfl
    · have hx : (b == x) = false := by simpa using h
      simp only [hx, cond_false, consH, wrH_eq (H := H)]
      cases lk H b with
      | none => rfl
      | some k' =>
        cases k' with
        | cells cs n =>
          simp only [wrX, wrU]
          cases wr cs o vs with
          | none => rfl
          | some r => simp [upH, hx]
        | _ => rfl
theorem lk_upH : ∀ {H : HL} {b : Nat} {k : KB} {x : Nat}, lk (upH H b k) x = bif x == b then some k else lk H x
  | [], b, k, x => rfl
  | (y, k0) :: H, b, k, x => by
    simp only [upH]
    by_cases h : b = y
    · subst h
      simp only [beq_self_eq_true, cond_true, lk]
      cases x == b <;> rfl
    · have hb : (b == y) = false := by simpa using h
      simp only [hb, cond_false, lk, lk_upH (H := H)]
      by_cases hx : x = y
      · subst hx
        have : (x == b) = false := by simpa using Ne.symm h
        simp [this]
      · have : (x == y) = false := by simpa using hx
        simp [this]
theorem den_upH {H : HL} {b : Nat} {k : KB} (hB : B b = none) (x : Nat) : den (upH H b k) B x = if x = b then some k else den H B x := by
  unfold den
  rw [lk_upH]
  by_cases h : x = b
  · subst h; simp [hB]
  · have : (x == b) = false := by simpa using h
    simp [this, h]
theorem good_up {H : HL} {N : St} {b : Nat} {k k' : KB} (hN : good B H N) (hB : B b = none) (hl : lk H b = some k') : good B (upH H b k) N := by
  have hd : ∀ r, den H B r = none → den (upH H b k) B r = none := fun r hr => by
    rw [den_upH hB]
    split
    · rename_i h; subst h; simp [den, hB, hl] at hr
    · exact hr
  obtain ⟨⟨h1, f, f1, f2, f3⟩, h2⟩ := hN
  exact ⟨⟨h1, f, f1, fun i => hd _ (f2 i), f3⟩, fun i => hd _ (h2 i)⟩
theorem good_new {H : HL} {N : St} {k : KB} (hN : good B H N) : good B ((N 0, k) :: H) (sh N) := by
  obtain ⟨⟨h1, f, f1, f2, f3⟩, h2⟩ := hN
  refine ⟨⟨fun i j h => by have := h1 _ _ h; omega, f, f1, fun i => ?_, fun i j => f3 i (j + 1)⟩, fun i => ?_⟩
  · rw [den_cons (h2 0), if_neg (f3 i 0)]; exact f2 i
  · rw [den_cons (h2 0), if_neg (fun h => by have := h1 (i + 1) 0 h; omega)]; exact h2 (i + 1)
theorem ne_good {H : HL} {N : St} {b : Nat} {k : KB} (hN : good B H N) (hB : B b = none) (hl : lk H b = some k) (i : Nat) : (b == N i) = false := by
  have := hN.2 i
  cases h : b == N i with
  | false => rfl
  | true =>
    have e : b = N i := by simpa using h
    rw [← e] at this
    simp [den, hB, hl] at this
theorem ne_good' {H : HL} {N : St} {b : Nat} {k : KB} (hN : good B H N) (hB : B b = none) (hl : lk H b = some k) (i : Nat) : (N i == b) = false := by
  have := ne_good hN hB hl i
  cases h : N i == b with
  | false => rfl
  | true => have e : N i = b := by simpa using h
            rw [e] at this; simp at this
def fl {α : Type} (f : α → List Value) : List α → List Value
  | [] => []
  | a :: l => f a ++ fl f l
variable {α : Type} {f : α → List Value} {sz : Nat}
theorem fl_length (hf : ∀ a, (f a).length = sz) : ∀ L : List α, (fl f L).length = L.length * sz
  | [] => by simp [fl]
  | a :: L => by simp [fl, fl_length hf L, hf, Nat.succ_mul]; omega
theorem tk_append_right (l m : List Value) (o n : Nat) : tk (l ++ m) (l.length + o) n = tk m o n := by
  induction l with
  | nil => simp
  | cons x l ih => rw [show (x :: l).length + o = (l.length + o) + 1 by simp; omega]; exact ih
theorem tk_append_left : ∀ (l m : List Value) (o n : Nat), o + n ≤ l.length → tk (l ++ m) o n = tk l o n
  | l, m, 0, 0, _ => by cases l <;> cases m <;> simp [tk]
  | [], m, o, n + 1, h => by simp at h
  | [], m, o + 1, n, h => by simp at h
  | x :: l, m, 0, n + 1, h => by
    simp only [List.cons_append, tk]
    rw [tk_append_left l m 0 n (by simp at h; omega)]
  | x :: l, m, o + 1, n, h => by
    simp only [List.cons_append, tk]
    exact tk_append_left l m o n (by simp at h; omega)
theorem wr_append_right (l m : List Value) (o : Nat) (vs : List Value) : wr (l ++ m) (l.length + o) vs = (wr m o vs).map fun r => l ++ r := by
  induction l with
  | nil => simp
  | cons x l ih =>
    rw [show (x :: l).length + o = (l.length + o) + 1 by simp; omega]
    simp only [List.cons_append, wr, ih]
    cases wr m o vs <;> rfl
theorem wr_append_left : ∀ (l m : List Value) (o : Nat) (vs : List Value), o + vs.length ≤ l.length → wr (l ++ m) o vs = (wr l o vs).map fun r => r ++ m
  | l, m, 0, [], _ => by cases l <;> cases m <;> simp [wr]
  | [], m, o, _ :: _, h => by simp at h
  | [], m, o + 1, _, h => by simp at h
  | x :: l, m, 0, v :: vs, h => by
    simp only [List.cons_append, wr]
    rw [wr_append_left l m 0 vs (by simp at h; omega)]
    cases wr l 0 vs <;> rfl
  | x :: l, m, o + 1, vs, h => by
    simp only [List.cons_append, wr]
    rw [wr_append_left l m o vs (by simp at h; omega)]
    cases wr l o vs <;> rfl
theorem tk_fl (hf : ∀ a, (f a).length = sz) : ∀ (L : List α) (i j n : Nat) (d : α), i < L.length → j + n ≤ sz → tk (fl f L) (i * sz + j) n = tk (f (L.getD i d)) j n
  | [], i, j, n, d, h, _ => by simp at h
  | a :: L, 0, j, n, d, h, hj => by
    simp only [Nat.zero_mul, Nat.zero_add, fl]
    rw [tk_append_left _ _ _ _ (by rw [hf]; exact hj)]
    rfl
  | a :: L, i + 1, j, n, d, h, hj => by
    simp only [fl]
    rw [show (i + 1) * sz + j = (f a).length + (i * sz + j) by rw [hf, Nat.succ_mul]; omega, tk_append_right, tk_fl hf L i j n d (by simpa using h) hj]
    rfl
theorem wr_fl (hf : ∀ a, (f a).length = sz) : ∀ (L : List α) (i j : Nat) (vs : List Value) (d a' : α), i < L.length → j + vs.length ≤ sz → wr (f (L.getD i d)) j vs = some (f a') → wr (fl f L) (i * sz + j) vs = some (fl f (L.set i a'))
  | [], i, j, vs, d, a', h, _, _ => by simp at h
  | a :: L, 0, j, vs, d, a', h, hj, hw => by
    simp only [Nat.zero_mul, Nat.zero_add, fl]
    have hw' : wr (f a) j vs = some (f a') := hw
    rw [wr_append_left _ _ _ _ (by rw [hf]; exact hj), hw']
    rfl
  | a :: L, i + 1, j, vs, d, a', h, hj, hw => by
    simp only [fl]
    rw [show (i + 1) * sz + j = (f a).length + (i * sz + j) by rw [hf, Nat.succ_mul]; omega, wr_append_right, wr_fl hf L i j vs d a' (by simpa using h) hj hw]
    rfl
theorem tk_all : ∀ (l : List Value) (n : Nat), n = l.length → tk l 0 n = some l
  | [], n, h => by subst h; rfl
  | x :: l, n, h => by subst h; simp [tk, tk_all l l.length rfl]
theorem fl_append (L M : List α) : fl f (L ++ M) = fl f L ++ fl f M := by
  induction L with
  | nil => rfl
  | cons a L ih => simp [fl, ih]

theorem gtst (l : List Value) (i j : Nat) (v : Value) : gt (st l i v) j = bif i == j then (bif decide (i < l.length) then v else undef) else gt l j := by
  by_cases h : i = j
  · subst h
    by_cases hl : i < l.length
    · simp [gt_st_same l i v hl, hl]
    · have : ∀ (l : List Value) (i : Nat), ¬ i < l.length → gt (st l i v) i = undef := by
        intro l
        induction l with
        | nil => intro i _; rfl
        | cons x l ih => intro i hi; cases i with
          | zero => simp at hi
          | succ i => simp only [st, gt]; exact ih i (by simpa using hi)
      simp [this l i hl, hl]
  · have : (i == j) = false := by simpa using h
    simp [gt_st_ne l i j v h, this]

def Ok (o : Out) (R : X → S → Prop) : Prop := ∃ x s, o = some (x, s) ∧ R x s
theorem Ok.mono {o : Out} {R R' : X → S → Prop} (h : Ok o R) (hr : ∀ x s, R x s → R' x s) : Ok o R' := let ⟨x, s, e, r⟩ := h; ⟨x, s, e, hr x s r⟩
theorem loop_rule {n0 : Nat} {b : LC} (I : Nat → S → Prop) (R : X → S → Prop)
    (body : ∀ n k s, I k s → Ok (exec B G (n + n0) b s) fun x s' => (x = .normal ∧ ∃ k', k' < k ∧ I k' s') ∨ (x ≠ .normal ∧ R x s')) :
    ∀ k s, I k s → ∀ F, n0 + k + 1 ≤ F → Ok (exec B G F (.loop b) s) R := by
  intro k
  induction k using Nat.strongRecOn with
  | ind k ih =>
    intro s hI F hF
    obtain ⟨F, rfl⟩ : ∃ F', F = F' + 1 := ⟨F - 1, by omega⟩
    obtain ⟨x, s', e, h⟩ := body (F - n0) k s hI
    rw [show F - n0 + n0 = F by omega] at e
    rcases h with ⟨rfl, k', hk, hI'⟩ | ⟨hx, hR⟩
    · obtain ⟨x2, s2, e2, r2⟩ := ih k' hk s' hI' F (by omega)
      exact ⟨x2, s2, by show seqO _ _ = _; rw [e]; exact e2, r2⟩
    · refine ⟨x, s', ?_, hR⟩
      show seqO _ _ = _
      rw [e]
      cases x <;> first | exact (hx rfl).elim | rfl
end Go.Proofs.YtbpaekbjpapgeaaGreatDoor.K
namespace Go.Proofs.YtbpaekbjpapgeaaGreatDoor.K
variable {P : Program} {W : World} {B : OH} {G : Env}
def effR (r : Option (E × HL)) (N : St) : ResE := match r with | some (x, H1) => some (x, H1, N) | none => none
theorem effR_some {x H1 N} : effR (some (x, H1)) N = some (x, H1, N) := rfl
theorem effR_none {N} : effR none N = none := rfl
theorem effR_ite {c} [Decidable c] {a b : Option (E × HL)} {N} : effR (if c then a else b) N = if c then effR a N else effR b N := by split <;> rfl
end Go.Proofs.YtbpaekbjpapgeaaGreatDoor.K
namespace Go.Proofs.YtbpaekbjpapgeaaGreatDoor.K
open Go.ChangeShapes Go.WideShapes Go.ChangeAt Go.RowKit
variable {P : Program} {W : World} {H : Type} {enc : TypeId × Value → H} {sp : Nat → Bool} {held : Bool}

theorem rof_split {f : Nat → Option Value} : ∀ (n o m : Nat) {a b : List Value}, rof f o n = some a → rof f (o + n) m = some b → rof f o (n + m) = some (a ++ b)
  | 0, o, m, a, b, h, h' => by simp only [rof, Option.some.injEq] at h; subst h; simpa using h'
  | n + 1, o, m, a, b, h, h' => by
    simp only [rof] at h
    split at h
    · rename_i v r hv hr
      simp only [Option.some.injEq] at h
      subst h
      have := rof_split n (o + 1) m hr (by rw [show o + 1 + n = o + (n + 1) by omega]; exact h')
      rw [show n + 1 + m = (n + m) + 1 by omega]
      simp only [rof, hv, this, List.cons_append]
    · cases h
theorem fl_take {α : Type} {f : α → List Value} {sz : Nat} (hf : ∀ a, (f a).length = sz) : ∀ (L : List α) (m : Nat), fl f (L.take m) = (fl f L).take (m * sz)
  | [], m => by simp [fl]
  | a :: L, 0 => by simp [fl]
  | a :: L, m + 1 => by
    simp only [List.take_succ_cons, fl, fl_take hf L m]
    rw [show (m + 1) * sz = (f a).length + m * sz by rw [hf, Nat.succ_mul]; omega, List.take_length_add_append]
theorem open_flats {r : Reach} {b0 : Nat} {t e : TypeId} {v : Value} {d : DataW H} {ps : List MemPlace} {ls : List LK} (n : Nat) (ht : P.underlying t = some (.slice e)) (hl : leafs P n e = some ls) (hc : P.cellsOf e = ls.length) (hpos : 0 < ls.length)
    (hval : Value.okWide P W r b0 t v) (hd : DataW.Trod enc P W 0 sp held t v d ps) :
    v = .slice none 0 0 ∨ (∃ a cap, v = .slice (some a) 0 cap) ∨ ∃ (b o cap : Nat) (L : List (List Lit)), v = .slice (some ⟨b, o, none⟩) L.length cap ∧ 0 < L.length ∧ L.length ≤ cap ∧ cap ≤ maxLen ∧ (∀ m ∈ L, OKs ls m) ∧
      ∀ m, m ≤ L.length → rdB (startB W) b o (m * ls.length) = some (fl (fun m => m.map litV) (L.take m)) := by
  obtain ⟨fuel, hf⟩ := hd
  have hone : v.cells.toList = [v] := by
    unfold Value.okWide Cell.okWide Cell.ok at hval
    simp only [ht] at hval
    cases v <;> first | rfl | (exact hval.elim)
  rw [hone] at hf
  rcases Deep.open_slice ht hf with ⟨h, _⟩ | ⟨a, len, cap, m, n', D, Pl, h, _, hle, hcap, hm, _, hx⟩
  · left; simpa using h
  · right
    have hv : v = .slice (some a) len cap := by simpa using h
    by_cases h0 : len = 0
    · left; subst h0; exact ⟨a, cap, hv⟩
    · right
      have hlm : len ≤ m := by rw [hm]; split <;> omega
      have hall : ∀ i, i < len → ∃ l : List Lit, OKs ls l ∧ ∀ j, j < ls.length → W.cell? (a.add (i * ls.length + j)) = (l.map litV)[j]? := by
        intro i hi
        obtain ⟨cs', h1, h2⟩ := hx i (by omega)
        obtain ⟨g1, g2, _⟩ := (trod_flat n).1 _ _ _ _ _ hl h2
        obtain ⟨_, _, hcell⟩ := World.cells?_some h1
        refine ⟨flatL (D i), g2, fun j hj => ?_⟩
        rw [← Deep.add_add, ← hc, hcell j (by omega), g1]
      haveI : Inhabited (List Lit) := ⟨[]⟩
      obtain ⟨f, hfam⟩ := Deep.choose_lt hall
      obtain ⟨b, o, s⟩ := a
      have hcell0 := (hfam 0 (by omega)).2 0 hpos
      have hlen0 : ((f 0).map litV).length = ls.length := by rw [List.length_map]; exact ((hfam 0 (by omega)).1.length).symm
      obtain ⟨v0, hv0⟩ : ∃ v0, ((f 0).map litV)[0]? = some v0 := ⟨_, List.getElem?_eq_getElem (by omega)⟩
      rw [hv0] at hcell0
      simp only [Nat.zero_mul, Nat.add_zero] at hcell0
      rw [Addr.add_zero'] at hcell0
      have hs : s = none := by
        cases s with
        | none => rfl
        | some x =>
          unfold World.cell? at hcell0
          simp only at hcell0
          split at hcell0 <;> simp at hcell0
      subst hs
      obtain ⟨arr, ety, fr, hb⟩ : ∃ arr ety fr, W.heap[b]? = some (.cells arr ety fr) := by
        unfold World.cell? at hcell0
        simp only at hcell0
        split at hcell0
        · rename_i c e' fr' hh; exact ⟨c, e', fr', hh⟩
        · cases hcell0
      have hget : ∀ i, i < len → ∀ j, j < ls.length → arr[o + (i * ls.length + j)]? = ((f i).map litV)[j]? := by
        intro i hi j hj
        have := (hfam i hi).2 j hj
        rw [addr_add] at this
        simpa [World.cell?, hb] using this
      have hmaplen : ∀ k, ((List.range k).map f).length = k := fun k => by simp
      refine ⟨b, o, cap, (List.range len).map f, by rw [hv]; simp, by simp; omega, by simpa using hle, hcap, fun l hl' => ?_, fun k hk => ?_⟩
      · obtain ⟨i, hi, rfl⟩ := List.mem_map.1 hl'
        exact (hfam i (List.mem_range.1 hi)).1
      · rw [hmaplen] at hk
        rw [rdB_start hb]
        have htake : ((List.range len).map f).take k = (List.range k).map f := by
          rw [← List.map_take, List.take_range, Nat.min_eq_left hk]
        rw [htake]
        clear htake
        induction k with
        | zero => simp [rof, fl]
        | succ k ih =>
          have h1 := ih (by omega)
          have h2 : rof (fun i => arr[i]?) (o + k * ls.length) ls.length = some ((f k).map litV) := by
            have hlk : ((f k).map litV).length = ls.length := by rw [List.length_map]; exact ((hfam k (by omega)).1.length).symm
            have := rof_list (f := fun i => arr[i]?) ((f k).map litV) (o + k * ls.length) (fun j hj => by
              rw [Nat.add_assoc]; exact hget k (by omega) j (by omega))
            rw [hlk] at this
            exact this
          have := rof_split _ _ _ h1 h2
          rw [Nat.succ_mul, this, List.range_succ, List.map_append, fl_append]
          simp [fl]
theorem rof_tk {f : Nat → Option Value} : ∀ (n o : Nat) {l : List Value} (i k : Nat), rof f o n = some l → i + k ≤ n → rof f (o + i) k = tk l i k
  | 0, o, l, i, k, h, hk => by
    simp only [rof, Option.some.injEq] at h
    subst h
    obtain rfl : i = 0 := by omega
    obtain rfl : k = 0 := by omega
    rfl
  | n + 1, o, l, i, k, h, hk => by
    simp only [rof] at h
    split at h
    · rename_i v r hv hr
      simp only [Option.some.injEq] at h
      subst h
      cases i with
      | zero =>
        cases k with
        | zero => rfl
        | succ k =>
          have := rof_tk n (o + 1) 0 k hr (by omega)
          simp only [Nat.add_zero] at this ⊢
          simp only [rof, tk, hv, this]
          cases tk r 0 k <;> rfl
      | succ i =>
        have := rof_tk n (o + 1) i k hr (by omega)
        rw [show o + (i + 1) = o + 1 + i by omega, this]
        rfl
    · cases h
theorem rdB_sub {W : World} {b o n i k : Nat} {l : List Value} (h : rdB (startB W) b o n = some l) (hk : i + k ≤ n) : rdB (startB W) b (o + i) k = tk l i k := by
  unfold rdB startB at h ⊢
  cases hb : W.heap[b]? with
  | none => simp [hb] at h
  | some x => cases x with
    | cells arr e fr => simp only [hb, KB.rd] at h ⊢; exact rof_tk n o i k h hk
    | _ => simp [hb] at h
end Go.Proofs.YtbpaekbjpapgeaaGreatDoor.K
namespace Go.Proofs.YtbpaekbjpapgeaaGreatDoor.K
def slB : Value → Option Nat
  | .slice (some a) _ _ => some a.block
  | _ => none
def SlN {α : Type} (f : α → List Value) (sz : Nat) (B : OH) (H0 H : HL) (v : Value) (L : List α) : Prop :=
  (L = [] ∧ v = .slice none 0 0) ∨ ∃ b cap, v = .slice (some ⟨b, 0, none⟩) L.length cap ∧ B b = none ∧ lk H0 b = none ∧ L.length ≤ cap ∧ lk H b = some (.cells (fl f L) (cap * sz))
def Fr (H H' : HL) : Prop := ∀ y c, lk H y = some c → lk H' y = some c
def Dm (H H' : HL) : Prop := ∀ y, lk H' y = none → lk H y = none
def SlR {α : Type} (f : α → List Value) (sz : Nat) (B : OH) (H : HL) (v : Value) (L : List α) : Prop :=
  ∃ a cap, v = .slice a L.length cap ∧ (L = [] ∨ ∃ b o, a = some ⟨b, o, none⟩ ∧ (den H B b).isSome = true ∧ ∀ H', Fr H H' → ∀ i j n d, i < L.length → j + n ≤ sz → rdO H' B b (o + i * sz + j) n (rdB B b (o + i * sz + j) n) = tk (f (L.getD i d)) j n)
theorem Fr.refl {H : HL} : Fr H H := fun _ _ h => h
theorem Fr.trans {H H' H'' : HL} (h : Fr H H') (h' : Fr H' H'') : Fr H H'' := fun y c e => h' y c (h y c e)
theorem Fr.dm {H H' : HL} (h : Fr H H') : Dm H H' := fun y e => by
  cases e' : lk H y with
  | none => rfl
  | some c => rw [h y c e'] at e; cases e
theorem Dm.refl {H : HL} : Dm H H := fun _ h => h
theorem Dm.trans {H H' H'' : HL} (h : Dm H H') (h' : Dm H' H'') : Dm H H'' := fun y e => h y (h' y e)
section
variable {α : Type} {f : α → List Value} {sz : Nat} {B : OH} {H0 H H' : HL} {N : St} {v : Value} {L : List α}
theorem SlN.ne {y : Nat} {c : KB} (h : SlN f sz B H0 H v L) (hy : lk H0 y = some c) : slB v ≠ some y := by
  rcases h with ⟨_, rfl⟩ | ⟨b, cap, rfl, _, h3, _, _⟩
  · simp [slB]
  · intro e
    simp only [slB, Option.some.injEq] at e
    subst e
    rw [h3] at hy; cases hy
theorem SlN.len (h : SlN f sz B H0 H v L) : lenV false v = some (.int .i64 (L.length : Int)) := by
  rcases h with ⟨rfl, rfl⟩ | ⟨b, cap, rfl, _⟩ <;> rfl
theorem SlN.mono (h : SlN f sz B H0 H v L) (hF : ∀ y c, slB v = some y → lk H y = some c → lk H' y = some c) : SlN f sz B H0 H' v L := by
  rcases h with h | ⟨b, cap, rfl, h2, h3, h4, h5⟩
  · exact .inl h
  · exact .inr ⟨b, cap, rfl, h2, h3, h4, hF _ _ rfl h5⟩
theorem fl_read (hf : ∀ a, (f a).length = sz) (L : List α) (rest : List Value) (i j n : Nat) (d : α) (hi : i < L.length) (hj : j + n ≤ sz) : tk (fl f L ++ rest) (i * sz + j) n = tk (f (L.getD i d)) j n := by
  rw [tk_append_left _ _ _ _ (by rw [fl_length hf]; have := Nat.mul_le_mul_right sz (show i + 1 ≤ L.length by omega); rw [Nat.succ_mul] at this; omega)]
  exact tk_fl hf L i j n d hi hj
theorem SlR.len (h : SlR f sz B H v L) : lenV false v = some (.int .i64 (L.length : Int)) := by
  obtain ⟨a, cap, rfl, _⟩ := h; rfl
theorem SlR.mono (h : SlR f sz B H v L) (hF : Fr H H') : SlR f sz B H' v L := by
  obtain ⟨a, cap, h1, h2⟩ := h
  refine ⟨a, cap, h1, h2.imp id ?_⟩
  rintro ⟨b, o, h3, h4, h5⟩
  refine ⟨b, o, h3, ?_, fun H'' hF' => h5 H'' (hF.trans hF')⟩
  unfold den at h4 ⊢
  cases hb : B b with
  | some k => rfl
  | none =>
    rw [hb] at h4
    obtain ⟨k, hk⟩ := Option.isSome_iff_exists.1 h4
    simp [hF _ _ hk]
theorem SlN.rd (hf : ∀ a, (f a).length = sz) (h : SlN f sz B H0 H v L) : SlR f sz B H v L := by
  rcases h with ⟨rfl, rfl⟩ | ⟨b, cap, rfl, h2, _, _, h4⟩
  · exact ⟨_, _, rfl, .inl rfl⟩
  · refine ⟨_, _, rfl, .inr ⟨b, 0, rfl, by simp [den, h2, h4], fun H' hF i j n d hi hj => ?_⟩⟩
    have hr : rdB B b (0 + i * sz + j) n = none := by simp [rdB, h2]
    rw [hr, rdO_none, h2, rdN_none, hF _ _ h4, rdL_some, k_cells, Nat.zero_add]
    exact tk_fl hf L i j n d hi hj
theorem SlR.at (h : SlR f sz B H v L) (hL : 0 < L.length) : ∃ b o cap, v = .slice (some ⟨b, o, none⟩) L.length cap ∧ (den H B b).isSome = true ∧ ∀ H', Fr H H' → ∀ i j n d, i < L.length → j + n ≤ sz → rdO H' B b (o + i * sz + j) n (rdB B b (o + i * sz + j) n) = tk (f (L.getD i d)) j n := by
  obtain ⟨a, cap, rfl, h2⟩ := h
  rcases h2 with rfl | ⟨b, o, rfl, h3, h4⟩
  · simp at hL
  · exact ⟨b, o, cap, rfl, h3, h4⟩
theorem lk_N (hN : good B H N) (i : Nat) : lk H (N i) = none := by
  have := hN.2 i
  simpa [den, good_B hN i] using this
theorem ne_N {y : Nat} {c : KB} (hN : good B H N) (hy : lk H y = some c) (i : Nat) : (y == N i) = false := by
  cases e : y == N i with
  | false => rfl
  | true => rw [show y = N i by simpa using e, lk_N hN i] at hy; cases hy
theorem good_set {b : Nat} {k k' : KB} (hN : good B H N) (hB : B b = none) (hl : lk H b = some k') : good B ((b, k) :: H) N := by
  have hd : ∀ r, den H B r = none → den ((b, k) :: H) B r = none := fun r hr => by
    unfold den
    cases hr' : B r with
    | some x => simp [den, hr'] at hr
    | none =>
      have h1 : lk H r = none := by simpa [den, hr'] using hr
      have h2 : (r == b) = false := by
        cases e : r == b with
        | false => rfl
        | true => rw [show r = b by simpa using e, hl] at h1; cases h1
      simp [lk, h2, h1]
  obtain ⟨⟨h1, f, f1, f2, f3⟩, h2⟩ := hN
  exact ⟨⟨h1, f, f1, fun i => hd _ (f2 i), f3⟩, fun i => hd _ (h2 i)⟩
theorem good_sh (hN : good B H N) : good B H (sh N) :=
  good_less (fun y hy => by
    rw [den_cons (hN.2 0)] at hy
    split at hy
    · cases hy
    · exact hy) (good_new (k := .dfr) hN)
theorem eqb {a b : Nat} (h : ¬ a = b) : (a == b) = false := by simpa using h
theorem SlN.low {H1 : HL} (h : SlN f sz B H1 H v L) (hD : Dm H0 H1) : SlN f sz B H0 H v L := by
  rcases h with h | ⟨b, cap, h1, h2, h3, h4, h5⟩
  · exact .inl h
  · exact .inr ⟨b, cap, h1, h2, hD _ h3, h4, h5⟩
def SlM {α : Type} (f : α → List Value) (sz : Nat) (B : OH) (H0 H : HL) (v : Value) (L : List α) : Prop :=
  (L = [] ∧ v = .slice none 0 0) ∨ ∃ b cap rest, v = .slice (some ⟨b, 0, none⟩) L.length cap ∧ B b = none ∧ lk H0 b = none ∧ L.length ≤ cap ∧ lk H b = some (.cells (fl f L ++ rest) (cap * sz))
theorem SlN.toM (h : SlN f sz B H0 H v L) : SlM f sz B H0 H v L := by
  rcases h with h | ⟨b, cap, h1, h2, h3, h4, h5⟩
  · exact .inl h
  · exact .inr ⟨b, cap, [], h1, h2, h3, h4, by rw [List.append_nil]; exact h5⟩
theorem SlM.len (h : SlM f sz B H0 H v L) : lenV false v = some (.int .i64 (L.length : Int)) := by
  rcases h with ⟨rfl, rfl⟩ | ⟨b, cap, rest, rfl, _⟩ <;> rfl
theorem SlM.ne {y : Nat} {c : KB} (h : SlM f sz B H0 H v L) (hy : lk H0 y = some c) : slB v ≠ some y := by
  rcases h with ⟨_, rfl⟩ | ⟨b, cap, rest, rfl, _, h3, _, _⟩
  · simp [slB]
  · intro e
    simp only [slB, Option.some.injEq] at e
    subst e
    rw [h3] at hy; cases hy
theorem SlM.mono (h : SlM f sz B H0 H v L) (hF : ∀ y c, slB v = some y → lk H y = some c → lk H' y = some c) : SlM f sz B H0 H' v L := by
  rcases h with h | ⟨b, cap, rest, rfl, h2, h3, h4, h5⟩
  · exact .inl h
  · exact .inr ⟨b, cap, rest, rfl, h2, h3, h4, hF _ _ rfl h5⟩
theorem SlM.low {H1 : HL} (h : SlM f sz B H1 H v L) (hD : Dm H0 H1) : SlM f sz B H0 H v L := by
  rcases h with h | ⟨b, cap, rest, h1, h2, h3, h4, h5⟩
  · exact .inl h
  · exact .inr ⟨b, cap, rest, h1, h2, hD _ h3, h4, h5⟩
theorem SlM.rd (hf : ∀ a, (f a).length = sz) (h : SlM f sz B H0 H v L) : SlR f sz B H v L := by
  rcases h with ⟨rfl, rfl⟩ | ⟨b, cap, rest, rfl, h2, _, _, h4⟩
  · exact ⟨_, _, rfl, .inl rfl⟩
  · refine ⟨_, _, rfl, .inr ⟨b, 0, rfl, by simp [den, h2, h4], fun H' hF i j n d hi hj => ?_⟩⟩
    have hr : rdB B b (0 + i * sz + j) n = none := by simp [rdB, h2]
    rw [hr, rdO_none, h2, rdN_none, hF _ _ h4, rdL_some, k_cells, Nat.zero_add]
    exact fl_read hf L rest i j n d hi hj
end
theorem lenV_sl {a n c} : lenV false (.slice a n c) = some (.int .i64 (n : Int)) := rfl
theorem bft : (false == true) = false := rfl
theorem btf : (true == false) = false := rfl
theorem beqI {a b : Int} (h : ¬ a = b) : (a == b) = false := by simpa using h
theorem rdB_none {B : OH} {b o n : Nat} (h : B b = none) : rdB B b o n = none := by simp [rdB, h]
theorem ok_some {x : X} {s : S} {R : X → S → Prop} (h : R x s) : Ok (some (x, s)) R := ⟨x, s, rfl, h⟩
theorem ne_N' {B : OH} {H : HL} {N : St} {y : Nat} {c : KB} (hN : good B H N) (hy : lk H y = some c) (i : Nat) : (N i == y) = false := by
  have := ne_N hN hy i
  cases e : N i == y with
  | false => rfl
  | true => rw [show N i = y by simpa using e] at this; simp at this
theorem fr_new {B : OH} {H0 H : HL} {N : St} {k : KB} (hN : good B H N) (hF : Fr H0 H) (i : Nat) : Fr H0 ((N i, k) :: H) := fun y c e => by
  rw [lk_cons, ne_N hN (hF _ _ e) i, cond_false]; exact hF _ _ e
theorem fr_up {H0 H : HL} {b : Nat} {k : KB} (hF : Fr H0 H) (h0 : lk H0 b = none) : Fr H0 (upH H b k) := fun y c e => by
  rw [lk_upH]
  cases h : y == b with
  | false => exact hF _ _ e
  | true => rw [show y = b by simpa using h, h0] at e; cases e
theorem fr_set {H0 H : HL} {b : Nat} {k : KB} (hF : Fr H0 H) (h0 : lk H0 b = none) : Fr H0 ((b, k) :: H) := fun y c e => by
  rw [lk_cons]
  cases h : y == b with
  | false => exact hF _ _ e
  | true => rw [show y = b by simpa using h, h0] at e; cases e
theorem lk_top {x : Nat} {k : KB} {H : HL} : lk ((x, k) :: H) x = some k := by rw [lk_cons, beq_self_eq_true, cond_true]
def SlC {α : Type} (f : α → List Value) (sz : Nat) (B : OH) (v : Value) (L : List α) : Prop :=
  ∃ a cap, v = .slice a L.length cap ∧ L.length ≤ cap ∧ (L = [] ∨ ∃ b o, a = some ⟨b, o, none⟩ ∧ rdB B b o (L.length * sz) = some (fl f L))
theorem tk_ex : ∀ (l : List Value) (o n : Nat), o + n ≤ l.length → ∃ r, tk l o n = some r
  | l, 0, 0, _ => ⟨[], by cases l <;> rfl⟩
  | [], o + 1, n, h => by simp at h
  | [], 0, n + 1, h => by simp at h
  | v :: l, 0, n + 1, h => by
    obtain ⟨r, hr⟩ := tk_ex l 0 n (by simpa using h)
    exact ⟨v :: r, by simp [tk, hr]⟩
  | _ :: l, o + 1, n, h => by
    obtain ⟨r, hr⟩ := tk_ex l o n (by simp at h; omega)
    exact ⟨r, by simpa [tk] using hr⟩
theorem SlC.rd {α : Type} {f : α → List Value} {sz : Nat} {W : World} {v : Value} {L : List α} (hf : ∀ a, (f a).length = sz) (h : SlC f sz (startB W) v L) : SlR f sz (startB W) [] v L := by
  obtain ⟨a, cap, rfl, h1, h3⟩ := h
  refine ⟨a, cap, rfl, h3.imp id ?_⟩
  rintro ⟨b, o, rfl, h4⟩
  refine ⟨b, o, rfl, ?_, fun H' _ i j n d hi hj => ?_⟩
  · unfold den
    cases hb : startB W b with
    | some k => rfl
    | none => simp [rdB, hb] at h4
  · have hm := Nat.mul_le_mul_right sz (show i + 1 ≤ L.length by omega)
    rw [Nat.succ_mul] at hm
    have h5 := rdB_sub (i := i * sz + j) (k := n) h4 (by omega)
    rw [tk_fl hf L i j n d hi hj, ← Nat.add_assoc] at h5
    obtain ⟨r, hr⟩ := tk_ex (f (L.getD i d)) j n (by rw [hf]; exact hj)
    rw [h5, hr, rdO_some]
def u64R (x : Int) : Prop := 0 ≤ x ∧ x < 18446744073709551616
def i64R (x : Int) : Prop := -9223372036854775808 ≤ x ∧ x ≤ 9223372036854775807
theorem SlR.take {α : Type} {f : α → List Value} {sz : Nat} {B : OH} {H : HL} {a : Option Addr} {n cap k : Nat} {L : List α} (h : SlR f sz B H (.slice a n cap) L) (hk : k ≤ L.length) : SlR f sz B H (.slice a k cap) (L.take k) := by
  obtain ⟨a', cap', e, h2⟩ := h
  injection e with e1 e2 e3
  subst e1 e2 e3
  have hl : (L.take k).length = k := by rw [List.length_take]; omega
  refine ⟨a, cap, by rw [hl], h2.imp (fun h => by subst h; simp) ?_⟩
  rintro ⟨b, o, h3, h4, h5⟩
  refine ⟨b, o, h3, h4, fun H' hF i j n d hi hj => ?_⟩
  rw [h5 H' hF i j n d (by omega) hj]
  have : (L.take k).getD i d = L.getD i d := by
    rw [List.getD_eq_getElem?_getD, List.getD_eq_getElem?_getD, List.getElem?_take, if_pos (by omega)]
  rw [this]
def f1 (x : Int) : List Value := [.int .i64 x]
theorem bxx (b : Bool) : (b == b) = true := by cases b <;> rfl
theorem getD_some {α : Type} {l : List α} {i : Nat} {d x : α} (h : l[i]? = some x) : l.getD i d = x := by
  simp [List.getD_eq_getElem?_getD, h]
theorem some_getD {α : Type} {l : List α} {i : Nat} {d : α} (h : i < l.length) : l[i]? = some (l.getD i d) := by
  simp [List.getD_eq_getElem?_getD, h]
theorem getD_set {α : Type} (l : List α) (i j : Nat) (x d : α) (hi : i < l.length) : (l.set i x).getD j d = if i = j then x else l.getD j d := by
  simp only [List.getD_eq_getElem?_getD, List.getElem?_set]
  split
  · rename_i h; subst h; simp [hi]
  · rfl
theorem tk_sub : ∀ (l : List Value) (o n : Nat) (r : List Value) (i k : Nat), tk l o n = some r → i + k ≤ n → tk l (o + i) k = tk r i k
  | l, 0, 0, r, i, k, h, hk => by
    obtain rfl : i = 0 := by omega
    obtain rfl : k = 0 := by omega
    have : r = [] := by cases l <;> simp [tk] at h <;> first | exact h | exact h.symm
    subst this
    cases l <;> rfl
  | [], o + 1, n, r, i, k, h, _ => by simp [tk] at h
  | [], 0, n + 1, r, i, k, h, _ => by simp [tk] at h
  | x :: l, o + 1, n, r, i, k, h, hk => by
    rw [show o + 1 + i = (o + i) + 1 by omega]
    exact tk_sub l o n r i k h hk
  | x :: l, 0, n + 1, r, i, k, h, hk => by
    simp only [tk] at h
    cases hr : tk l 0 n with
    | none => simp [hr] at h
    | some r' =>
      simp only [hr, Option.some.injEq] at h
      subst h
      cases i with
      | zero =>
        cases k with
        | zero => rfl
        | succ k =>
          have := tk_sub l 0 n r' 0 k hr (by omega)
          simp only [Nat.zero_add] at this ⊢
          simp only [tk, this]
      | succ i =>
        have := tk_sub l 0 n r' i k hr (by omega)
        rw [show 0 + (i + 1) = (0 + i) + 1 by omega]
        exact this
theorem rd_sub {kb : KB} {o n i k : Nat} {l : List Value} (h : kb.rd o n = some l) (hk : i + k ≤ n) : kb.rd (o + i) k = tk l i k := by
  cases kb with
  | cells cs m => exact tk_sub cs o n l i k h hk
  | ro f => exact rof_tk n o i k h hk
  | map kd f => cases h
  | loop r s => cases h
  | dfr => cases h
theorem rdH_sub {H : HL} {B : OH} {b o n i k : Nat} {l : List Value} (h : rdH H B b o n = some l) (hk : i + k ≤ n) (hs : ∃ r, tk l i k = some r) : rdH H B b (o + i) k = tk l i k := by
  obtain ⟨r, hr⟩ := hs
  unfold rdH rdB at h ⊢
  cases hb : B b with
  | some kb =>
    simp only [hb] at h ⊢
    cases hrd : kb.rd o n with
    | some l' =>
      rw [hrd, rdO_some] at h
      obtain rfl := Option.some.inj h
      rw [rd_sub hrd hk, hr, rdO_some]
    | none => rw [hrd] at h; simp [rdO, rdN, hb] at h
  | none =>
    simp only [hb, rdO, rdN] at h ⊢
    cases hl : lk H b with
    | none => simp [hl, rdL] at h
    | some kb =>
      simp only [hl, rdL] at h ⊢
      exact rd_sub h hk
def SlW {α : Type} (f : α → List Value) (sz : Nat) (B : OH) (H : HL) (v : Value) (L : List α) : Prop :=
  ∃ a cap, v = .slice a L.length cap ∧ L.length ≤ cap ∧ (L = [] ∨ ∃ b o, a = some ⟨b, o, none⟩ ∧ (den H B b).isSome = true ∧ ∀ H', Fr H H' → rdH H' B b o (L.length * sz) = some (fl f L))
section
variable {α : Type} {f : α → List Value} {sz : Nat} {B : OH} {H0 H H' : HL} {N : St} {v : Value} {L M : List α}
theorem den_fr {b : Nat} (hF : Fr H H') (h : (den H B b).isSome = true) : (den H' B b).isSome = true := by
  unfold den at h ⊢
  cases hb : B b with
  | some k => rfl
  | none =>
    rw [hb] at h
    obtain ⟨k, hk⟩ := Option.isSome_iff_exists.1 h
    simp [hF _ _ hk]
theorem SlW.mono (h : SlW f sz B H v L) (hF : Fr H H') : SlW f sz B H' v L := by
  obtain ⟨a, cap, h1, h2, h3⟩ := h
  refine ⟨a, cap, h1, h2, h3.imp id ?_⟩
  rintro ⟨b, o, h4, h5, h6⟩
  exact ⟨b, o, h4, den_fr hF h5, fun H'' hF' => h6 H'' (hF.trans hF')⟩
theorem SlW.len (h : SlW f sz B H v L) : lenV false v = some (.int .i64 (L.length : Int)) := by
  obtain ⟨a, cap, rfl, _⟩ := h; rfl
theorem SlW.rd (hf : ∀ a, (f a).length = sz) (h : SlW f sz B H v L) : SlR f sz B H v L := by
  obtain ⟨a, cap, rfl, h2, h3⟩ := h
  refine ⟨a, cap, rfl, h3.imp id ?_⟩
  rintro ⟨b, o, rfl, h5, h6⟩
  refine ⟨b, o, rfl, h5, fun H' hF i j n d hi hj => ?_⟩
  have hm := Nat.mul_le_mul_right sz (show i + 1 ≤ L.length by omega)
  rw [Nat.succ_mul] at hm
  have ht := tk_fl hf L i j n d hi hj
  have h7 := rdH_sub (i := i * sz + j) (k := n) (h6 H' hF) (by omega) (by rw [ht]; exact tk_ex _ _ _ (by rw [hf]; exact hj))
  rw [ht, ← Nat.add_assoc] at h7
  exact h7
theorem SlM.wh (hf : ∀ a, (f a).length = sz) (h : SlM f sz B H0 H v L) : SlW f sz B H v L := by
  rcases h with ⟨rfl, rfl⟩ | ⟨b, cap, rest, rfl, h2, _, h3, h4⟩
  · exact ⟨_, _, rfl, Nat.le_refl _, .inl rfl⟩
  · refine ⟨_, _, rfl, h3, .inr ⟨b, 0, rfl, by simp [den, h2, h4], fun H' hF => ?_⟩⟩
    rw [rd_eq, rdB_none h2, rdO_none, h2, rdN_none, hF _ _ h4, rdL_some, k_cells, tk_append_left _ _ _ _ (by rw [fl_length hf]; omega)]
    exact tk_all _ _ (by rw [fl_length hf])
theorem SlC.wh {W : World} (hf : ∀ a, (f a).length = sz) (h : SlC f sz (startB W) v L) : SlW f sz (startB W) [] v L := by
  obtain ⟨a, cap, rfl, h1, h3⟩ := h
  refine ⟨a, cap, rfl, h1, h3.imp id ?_⟩
  rintro ⟨b, o, rfl, h4⟩
  refine ⟨b, o, rfl, ?_, fun H' _ => by rw [rd_eq, h4, rdO_some]⟩
  unfold den
  cases hb : startB W b with
  | some k => rfl
  | none => simp [rdB, hb] at h4
theorem fl_drop (hf : ∀ a, (f a).length = sz) (L : List α) (k : Nat) : fl f (L.drop k) = (fl f L).drop (k * sz) := by
  induction L generalizing k with
  | nil => simp [fl]
  | cons a L ih =>
    cases k with
    | zero => simp
    | succ k =>
      simp only [List.drop_succ_cons, fl, ih]
      rw [show (k + 1) * sz = (f a).length + k * sz by rw [hf, Nat.succ_mul]; omega, List.drop_length_add_append]
theorem tk_midL : ∀ (l : List Value) (o n : Nat), o + n ≤ l.length → tk l o n = some ((l.drop o).take n)
  | l, 0, 0, _ => by cases l <;> rfl
  | [], o + 1, n, h => by simp at h
  | [], 0, n + 1, h => by simp at h
  | x :: l, 0, n + 1, h => by
    have := tk_midL l 0 n (by simpa using h)
    simp only [List.drop_zero] at this
    simp [tk, this]
  | x :: l, o + 1, n, h => by
    have := tk_midL l o n (by simp at h; omega)
    simpa [tk] using this
theorem SlW.part (hf : ∀ a, (f a).length = sz) {a : Option Addr} {n cap i k : Nat} (h : SlW f sz B H (.slice a n cap) L) (hi : i + k ≤ L.length) :
    ∃ a', slA a (if cap = i then 0 else i * sz) = some a' ∧ ∀ cap', k ≤ cap' → SlW f sz B H (.slice a' k cap') ((L.drop i).take k) := by
  obtain ⟨a0, cap0, e, h2, h3⟩ := h
  injection e with e1 e2 e3
  subst e1 e2 e3
  have hl : ((L.drop i).take k).length = k := by rw [List.length_take, List.length_drop]; omega
  rcases h3 with rfl | ⟨b, o, rfl, h5, h6⟩
  · simp at hi
    obtain ⟨rfl, rfl⟩ := hi
    refine ⟨a, ?_, fun cap' _ => ⟨a, cap', by simp, by simp, .inl (by simp)⟩⟩
    have : (if cap = 0 then 0 else 0 * sz) = 0 := by split <;> simp
    rw [this]; cases a <;> rfl
  · by_cases hk : k = 0
    · subst hk
      cases hx : (if cap = i then 0 else i * sz) with
      | zero => exact ⟨some ⟨b, o, none⟩, rfl, fun cap' _ => ⟨some ⟨b, o, none⟩, cap', by simp, by simp, .inl (by simp)⟩⟩
      | succ x => exact ⟨some ⟨b, o + (x + 1), none⟩, rfl, fun cap' _ => ⟨some ⟨b, o + (x + 1), none⟩, cap', by simp, by simp, .inl (by simp)⟩⟩
    · have hx : (if cap = i then 0 else i * sz) = i * sz := if_neg (by omega)
      rw [hx]
      have hsl : slA (some ⟨b, o, none⟩) (i * sz) = some (some ⟨b, o + i * sz, none⟩) := by
        cases i * sz <;> rfl
      refine ⟨_, hsl, fun cap' hc => ⟨_, cap', by rw [hl], by rw [hl]; exact hc, .inr ⟨b, o + i * sz, rfl, h5, fun H' hF => ?_⟩⟩⟩
      have hm := Nat.mul_le_mul_right sz hi
      rw [Nat.add_mul] at hm
      have ht := tk_midL (fl f L) (i * sz) (k * sz) (by rw [fl_length hf]; exact hm)
      have h7 := rdH_sub (i := i * sz) (k := k * sz) (h6 H' hF) hm ⟨_, ht⟩
      rw [hl, h7, ht, fl_take hf, fl_drop hf]
theorem app_many (hf : ∀ a, (f a).length = sz) (hz : 0 < sz) {bytes : Nat} {u : Value} (hN : good B H N) (hF : Fr H0 H) (hS : SlM f sz B H0 H v L) (hW : SlW f sz B H u M) (h1 : all1 (fl f M) = true) (hb : (L.length + M.length) * bytes ≤ 140737488355328) (hb2 : L.length + M.length ≤ 4611686018427387904) :
    ∃ v' H' N', appR sz bytes B H N v u (newsV sz H B u) = some (v', H', N') ∧ good B H' N' ∧ Fr H0 H' ∧ (∀ y c, slB v ≠ some y → lk H y = some c → lk H' y = some c) ∧ SlM f sz B H0 H' v' (L ++ M) ∧ (slB v' = slB v ∨ slB v' = some (N.n 0)) := by
  obtain ⟨a, cap, rfl, hc, hr⟩ := hW
  by_cases hM : M.length = 0
  · obtain rfl := List.length_eq_zero_iff.1 hM
    rw [List.append_nil]
    refine ⟨v, H, N, ?_, hN, hF, fun _ _ _ e => e, hS, .inl rfl⟩
    rcases hS with ⟨rfl, rfl⟩ | ⟨b, cap', rest, rfl, _, _, hle, _⟩
    · rfl
    · simp only [newsV, List.length_nil, appR, appV, lenS, if_true, hle]; rfl
  · rcases hr with rfl | ⟨b2, o2, rfl, _, h6⟩
    · simp at hM
    have hrd := h6 H Fr.refl
    have hnv : newsV sz H B (.slice (some ⟨b2, o2, none⟩) M.length cap) = some (fl f M) := by rw [newsV_s (by omega)]; exact hrd
    rw [hnv]
    have hBN := good_B hN
    have hl0 := lk_N hN 0
    have hD : Dm H0 H := hF.dm
    have hne : M.length ≠ 0 := by omega
    have hnew : ∀ (b : Nat) (cs : List Value), b = N.n 0 → cs = fl f (L ++ M) → SlM f sz B H0 ((b, .cells cs ((L.length + M.length + N.c 0) * sz)) :: H) (.slice (some ⟨b, 0, none⟩) (L.length + M.length) (L.length + M.length + N.c 0)) (L ++ M) := fun b cs hb hcs => by
      subst hb hcs
      exact .inr ⟨N.n 0, L.length + M.length + N.c 0, [], by simp, hBN 0, hD _ hl0, by rw [List.length_append]; omega, by rw [lk_cons, beq_self_eq_true, cond_true, List.append_nil]⟩
    have hfr : Fr H0 ((N.n 0, .cells (fl f (L ++ M)) ((L.length + M.length + N.c 0) * sz)) :: H) := fr_new hN hF 0
    rcases hS with ⟨rfl, rfl⟩ | ⟨b, cap', rest, rfl, hB, h0, hle, hlk⟩
    · have hgen : ∀ m : Nat, m ≠ 0 → m * bytes ≤ 140737488355328 ∧ m ≤ 4611686018427387904 → ∀ news, appV sz bytes B H N (.slice none 0 0) m news = appNew (N.n 0) sz m H N news := fun m h1 h2 news => by
        simp only [appV]
        rw [if_neg h1, if_pos h2]
      simp only [List.length_nil, Nat.zero_add, List.nil_append] at *
      refine ⟨_, _, _, (congrArg (orC sz bytes B H N (.slice none 0 0) M.length (fl f M)) (hgen M.length hne ⟨hb, hb2⟩ _)).trans rfl, good_new hN, hfr, fun y c _ e => ?_, hnew (N.n 0) _ rfl rfl, .inr rfl⟩
      rw [lk_cons, ne_N hN e 0, cond_false]; exact e
    · have htk : tk (fl f L ++ rest) 0 (L.length * sz) = some (fl f L) := by
        rw [tk_append_left _ _ _ _ (by rw [fl_length hf]; omega)]
        exact tk_all _ _ (by rw [fl_length hf])
      have hold : appR sz bytes B H N (.slice (some ⟨b, 0, none⟩) L.length cap') (.slice (some ⟨b2, o2, none⟩) M.length cap) (some (fl f M)) = appNew (bif N.g 0 && Nat.ble (L.length + M.length) cap' then b else N.n 0) sz (L.length + M.length) H N (fl f L ++ fl f M) := by
        have hgen : ∀ m : Nat, m ≠ 0 → (L.length + m) * bytes ≤ 140737488355328 ∧ L.length + m ≤ 4611686018427387904 → ∀ news, appV sz bytes B H N (.slice (some ⟨b, 0, none⟩) L.length cap') m news = appOld sz m L.length cap' b B H N news (lk H b) := fun m h1 h2 news => by
          simp only [appV]
          rw [if_neg h1, if_pos h2]
        refine (congrArg (orC sz bytes B H N (.slice (some ⟨b, 0, none⟩) L.length cap') M.length (fl f M)) ((hgen M.length hne ⟨hb, hb2⟩ _).trans ?_)).trans (b := orC sz bytes B H N (.slice (some ⟨b, 0, none⟩) L.length cap') M.length (fl f M) (appNew (bif N.g 0 && Nat.ble (L.length + M.length) cap' then b else N.n 0) sz (L.length + M.length) H N (fl f L ++ fl f M))) rfl
        rw [hlk]
        simp only [appOld, hB, Option.isNone_none, h1, hle, and_self, if_true, htk, Option.bind_some]
      rw [hold, ← fl_append]
      cases hg : (N.g 0 && Nat.ble (L.length + M.length) cap') with
      | false =>
        refine ⟨_, _, _, rfl, good_new hN, hfr, fun y c _ e => ?_, hnew (N.n 0) _ rfl rfl, .inr rfl⟩
        rw [cond_false, lk_cons, ne_N hN e 0, cond_false]; exact e
      | true =>
        refine ⟨_, _, _, rfl, good_sh (good_set (k := .cells (fl f (L ++ M)) ((L.length + M.length + N.c 0) * sz)) hN hB hlk), fr_set hF h0, fun y c hne e => ?_, ?_, .inl rfl⟩
        · rw [cond_true, lk_cons, eqb (fun h => hne (by rw [h]; rfl)), cond_false]; exact e
        · exact .inr ⟨b, L.length + M.length + N.c 0, [], by simp, hB, h0, by rw [List.length_append]; omega, by rw [cond_true, lk_cons, beq_self_eq_true, cond_true, List.append_nil]⟩
end
end Go.Proofs.YtbpaekbjpapgeaaGreatDoor.K
namespace Go.Proofs.YtbpaekbjpapgeaaGreatDoor.K
set_option maxRecDepth 100000
open Go.ChangeShapes Go.WideShapes Go.ChangeAt Go.RowKit
abbrev oi (n : Int) : Operand := .const (.int .i64 n)
abbrev ou (n : Int) : Operand := .const (.int .u64 n)
abbrev ot (n : Nat) : Operand := .tmp n
abbrev oa (d : Nat) (o : LO) : LOp := ⟨some d, o, none⟩
abbrev ob (d : Nat) (o : LO) (t : Nat) (b : Bool) : LOp := ⟨some d, o, some (t, b)⟩
abbrev oc (o : LO) : LOp := ⟨none, o, none⟩
abbrev oe (d : Nat) (o : LO) : DOp := ⟨⟨some d, o, none⟩, []⟩
abbrev om (d n : Nat) : LOp := ⟨some d, .mv (.tmp n), none⟩
abbrev pm (d n : Nat) : DOp := ⟨⟨some d, .mv (.tmp n), none⟩, []⟩
abbrev ol (d n : Nat) : LOp := ⟨some d, .load false 1 (.tmp n), none⟩
abbrev pl (d n : Nat) : DOp := ⟨⟨some d, .load false 1 (.tmp n), none⟩, []⟩
abbrev og (d k n : Nat) : LOp := ⟨some d, .faddr k (.tmp n), none⟩
abbrev pg (d k n : Nat) : DOp := ⟨⟨some d, .faddr k (.tmp n), none⟩, []⟩
abbrev Said {p : Prop} (_ : p) : Prop := p
theorem an {a b : Prop} (x : a) (y : b) : a ∧ b := ⟨x, y⟩
theorem said_ok {p : Prop} (h : p) : Said h := h
theorem rN {B : OH} {b : Nat} (h : B b = none) (o n : Nat) : rdB B b o n = none := rdB_none h
theorem gX {B : OH} {H : HL} {N : St} (g : good B H N) : (∀ i, B (N i) = none) ∧ (∀ i o n, rdB B (N i) o n = none) ∧ ∀ i j, (N i == N j) = (i == j) := ⟨good_B g, good_rdB g, beqN g.1.1⟩
theorem ev2 : Said (an @cond_true.{1} <| an @cond_false.{1} <| an @beq_self_eq_true.{0} <| an @if_true.{1} <| an @if_false.{1} <| an @ite_true.{1} <| an @ite_false.{1} <| an @List.size_toArray.{0} <| an @List.length_cons.{0} <| an @List.length_nil.{0} <| an @List.append_nil.{0} <| an @List.nil_append.{0} <| an @List.getElem?_toArray.{0} <| an @List.getElem?_cons_zero.{0} <| an @List.getElem?_cons_succ.{0} <| an @List.getElem?_nil.{0} <| an @List.drop_succ_cons.{0} <| an @List.drop_nil.{0} <| an @Option.isNone_none.{0} <| an @Option.isNone_some.{0} <| trivial) := said_ok _
theorem ev5 : Said (an @lenV_sl <| an @Int.toNat_natCast <| an @bft <| an @btf <| an @gtst <| an @st_len <| trivial) := said_ok _
theorem eV : Said (an @e_skip <| an @e_ops <| an @e_draw <| an @shg_n <| an @shg_c <| an @shg_g <| an @shg_r <| an @d_none <| an @d_nil <| an @d_cons <| an @d_ite <| an @h_none <| an @h_nil <| an @h_cons <| an @h_ite <| an @eqS_same <| an @e_seq <| an @e_cond <| an @e_block <| an @e_exit <| an @e_ret <| an @s_normal <| an @s_ret <| an @s_exit <| an @s_none <| an @s_ite <| an @b_normal <| an @b_ret <| an @b_exit <| an @b_none <| an @b_ite <| an @c_bool <| an @x_none <| an @x_nil <| an @x_cons <| an @x_ite <| an @p_some <| an @p_none <| an @p_ite <| an @pt_some <| an @pt_none <| an @pv_some <| an @pv_none <| an @pv_ite <| an @w_none <| an @w_some <| an @i_bool <| an @i_undef <| an @bt <| an @bf <| an @v_tmp <| an @v_const <| an @v_global <| an @v_func <| an @f_normal <| an @f_ret <| an @f_none <| an @f_ite <| an @r_some <| an @co_some <| an @l_ptr <| an @m_agg <| an @m_one <| an @sh_app <| an @lk_nil <| an @lk_cons <| an @rd_eq <| an @rdO_some <| an @rdO_none <| an @rdN_none <| an @rdL_some <| an @rdL_none <| an @wrB_none <| an @unitR_some <| an @wr_nil <| an @wr_here <| an @wr_skip <| an @k_cells <| an @tk_zero <| an @tk_take <| an @tk_skip <| an @tkC_some <| an @call_func <| an @Bool.true_or <| an @Bool.false_or <| an @Bool.or_true <| an @Bool.or_false <| an @decide_true <| an @decide_false <| an @decide_eq_true_eq <| an @Nat.zero_add <| an @Nat.add_zero <| an @and_self <| an @true_and <| an @and_true <| an @Int.toNat_zero <| an @Bool.not_false <| an @Bool.not_true <| an @Bool.not_not <| an @Bool.false_eq_true <| an @Bool.true_eq_false <| an @Bool.true_and <| an @Bool.and_true <| an @Bool.false_and <| an @Bool.and_false <| an @Bool.and_self <| an @Int.cast_ofNat_Int <| an @callF1 <| an @pad16 <| an @pad_0 <| an @pad_1 <| an @pad_2 <| an @pad_3 <| an @pad_4 <| an @pad_5 <| an @pad_6 <| an @pad_7 <| an @pad_8 <| an @pad_9 <| an @pad_10 <| an @pad_11 <| an @pad_12 <| an @pad_13 <| an @pad_14 <| an @pad_15 <| an @gc0 <| an @gc1 <| an @gc2 <| an @gc3 <| an @gc4 <| an @gc5 <| an @gc6 <| an @gc7 <| an @gc8 <| an @gc9 <| an @gc10 <| an @gc11 <| an @gc12 <| an @gc13 <| an @gc14 <| an @gc15 <| an @gcS <| an @sc0 <| an @sc1 <| an @sc2 <| an @sc3 <| an @sc4 <| an @sc5 <| an @sc6 <| an @sc7 <| an @sc8 <| an @sc9 <| an @sc10 <| an @sc11 <| an @sc12 <| an @sc13 <| an @sc14 <| an @sc15 <| an @scS <| an @x_pan <| an @s_pan <| an @b_pan <| an @pE_ret <| an @pE_pan <| an @pE_none <| an @pE_ite <| an @pvE_some <| an @pvE_none <| an @pvE_ite <| an @rv_some <| an @rv_none <| an @rv_ite <| an @oR_ret <| an @t_mv <| an @t_pick <| an @t_alloc <| an @t_box <| an @t_build <| an @t_buildS <| an @t_load <| an @t_store <| an @t_nilck <| an @t_bin <| an @t_eqb <| an @t_eqA <| an @t_eqp <| an @t_un <| an @t_conv <| an @t_field <| an @t_idxA <| an @t_faddr <| an @t_iaddrS <| an @t_iaddrA <| an @t_ext <| an @t_len <| an @t_mm <| an @t_call <| an @t_ifc <| an @t_fn <| an @t_slc <| an @t_slcA <| an @t_slcT <| an @t_tass <| an @t_isn <| an @t_mks <| an @t_app <| an @t_pan <| an @panE_i <| an @optE_none <| an @optE_some <| an @bnd_none <| an @bnd_int <| an @slA_none <| an @slA_some <| an @appR_some <| an @appOld_cells <| an @newsV_n <| an @lenS_s <| an @appV_nil <| an @appV_some <| an @mksV_i <| an @sh_c <| an @sh_g <| an @f_pan <| an @endD_ret <| an @dfr_normal <| an @dfr_ret <| an @dfr_pan <| an @restD_normal <| an @callD1 <| an @callC1 <| an @d_pan <| an @h_pan <| an @wrH_eq <| an @wrX_cells <| an @wrU_some <| an @upH_nil <| an @upH_cons <| an @lk_upH <| an @effR_some <| an @effR_none <| an @effR_ite <| an @slA_zero <| an @call_yield <| an @e_range <| an @it_func <| an @wy_same <| an @y_call <| an @isLp_self <| an @beg_normal <| an @end_normal <| an @end_ret <| an @end_exit <| an @end_ite <| an @aft_ret <| an @aft_ready <| an @aft_done <| an @aft_exit <| an @setP_cons <| an @setP_nil <| an @sh_r <| an @t_mkmap <| an @t_mlook <| an @t_mupd <| an @t_mdel <| an @t_eqs <| an @t_appZ <| an @t_cpy <| an @mapF_some <| an @lookF_some <| an @setM_some <| an @lookR_t <| an @lookR_n <| an @lookR_f <| an @lookR_fn <| an @cond_true.{1} <| an @cond_false.{1} <| an @beq_self_eq_true.{0} <| an @if_true.{1} <| an @if_false.{1} <| an @ite_true.{1} <| an @ite_false.{1} <| an @List.size_toArray.{0} <| an @List.length_cons.{0} <| an @List.length_nil.{0} <| an @List.append_nil.{0} <| an @List.nil_append.{0} <| an @List.getElem?_toArray.{0} <| an @List.getElem?_cons_zero.{0} <| an @List.getElem?_cons_succ.{0} <| an @List.getElem?_nil.{0} <| an @List.drop_succ_cons.{0} <| an @List.drop_nil.{0} <| an @Option.isNone_none.{0} <| an @Option.isNone_some.{0} <| an @pad.eq_1 <| an @pad.eq_2 <| an @pad.eq_3 <| an @evs.eq_1 <| an @evs.eq_2 <| an @gt.eq_1 <| an @gt.eq_2 <| an @gt.eq_3 <| an @st.eq_1 <| an @st.eq_2 <| an @st.eq_3 <| an @binV.eq_1 <| an @binV.eq_2 <| an @binV.eq_3 <| an @binV.eq_4 <| an @binV.eq_5 <| an @arith.eq_1 <| an @arith.eq_2 <| an @arith.eq_3 <| an @arith.eq_4 <| an @arith.eq_5 <| an @arith.eq_6 <| an @arith.eq_7 <| an @arith.eq_8 <| an @arith.eq_9 <| an @arith.eq_10 <| an @arith.eq_11 <| an @arith.eq_12 <| an @arith.eq_13 <| an @arith.eq_14 <| an @arith.eq_15 <| an @arith.eq_16 <| an @arith.eq_17 <| an @isSh.eq_1 <| an @isSh.eq_2 <| an @isSh.eq_3 <| an @storeV.eq_1 <| an @storeV.eq_2 <| an @idxAV.eq_1 <| an @idxAV.eq_2 <| an @fieldV.eq_1 <| an @fieldV.eq_2 <| an @faddrV.eq_1 <| an @faddrV.eq_2 <| an @iaddrSV.eq_1 <| an @iaddrSV.eq_2 <| an @iaddrAV.eq_1 <| an @iaddrAV.eq_2 <| an @pickV.eq_1 <| an @pickV.eq_2 <| an @pickV.eq_3 <| an @convV.eq_1 <| an @convV.eq_2 <| an @unV.eq_1 <| an @unV.eq_2 <| an @unV.eq_3 <| an @eqbV.eq_1 <| an @eqbV.eq_2 <| an @eqpV.eq_1 <| an @eqpV.eq_2 <| an @eqpV.eq_3 <| an @extV.eq_1 <| an @extV.eq_2 <| an @mm2.eq_1 <| an @mm2.eq_2 <| an @mmV.eq_1 <| an @mmV.eq_2 <| an @nilckV.eq_1 <| an @nilckV.eq_2 <| an @nilckV.eq_3 <| an @nilckV.eq_4 <| an @eqAV.eq_1 <| an @eqAV.eq_2 <| an @eqL.eq_1 <| an @eqL.eq_2 <| an @eqL.eq_3 <| an @leafEq.eq_1 <| an @leafEq.eq_2 <| an @leafEq.eq_3 <| an @leafEq.eq_4 <| an @andO.eq_1 <| an @andO.eq_2 <| an @fillV.eq_1 <| an @fillV.eq_2 <| an @fillV.eq_3 <| an @buildSV.eq_1 <| an @buildSV.eq_2 <| an @tassV.eq_1 <| an @tassV.eq_2 <| an @tassV.eq_3 <| an @isnV.eq_1 <| an @isnV.eq_2 <| an @isnV.eq_3 <| an @slcAV.eq_1 <| an @slcAV.eq_2 <| an @slcTV.eq_1 <| an @slcTV.eq_2 <| an @slcB.eq_1 <| an @appNew.eq_1 <| an @eqsV.eq_1 <| an @eqsV.eq_2 <| an @lookV.eq_1 <| an @lookV.eq_2 <| an @mupdV.eq_1 <| an @mupdV.eq_2 <| an @mdelV.eq_1 <| an @mdelV.eq_2 <| an @mkM.eq_1 <| an @IntKind.bits.eq_1 <| an @IntKind.bits.eq_2 <| an @IntKind.bits.eq_3 <| an @IntKind.bits.eq_4 <| an @IntKind.bits.eq_5 <| an @IntKind.bits.eq_6 <| an @IntKind.bits.eq_7 <| an @IntKind.bits.eq_8 <| an @IntWalk.i64_in <| an @IntWalk.u64_in <| an @lenV_sl <| an @Int.toNat_natCast <| an @bft <| an @btf <| an @gtst <| an @st_len <| an @Option.bind_some.{0,0} <| an @Option.bind_none.{0,0} <| an @lightV.eq_1 <| an @lightV.eq_2 <| an @lightV.eq_3 <| an @lightV.eq_4 <| an @lightV.eq_5 <| an @lightV.eq_6 <| an @lightV.eq_7 <| an @lightV.eq_8 <| an @lightV.eq_9 <| an @lightV.eq_10 <| an @lightV.eq_11 <| an @lightV.eq_12 <| an @lightV.eq_13 <| an @lightV.eq_14 <| an @lightV.eq_15 <| an @lightV.eq_16 <| an @lightV.eq_17 <| an @lightV.eq_18 <| an @lightV.eq_19 <| an @lightV.eq_20 <| an @lightV.eq_21 <| an @lightV.eq_22 <| an @lightV.eq_23 <| an @lightV.eq_24 <| an @lightV.eq_25 <| an @lightV.eq_26 <| an @lightV.eq_27 <| an @lightV.eq_28 <| an @lightV.eq_29 <| an @lightV.eq_30 <| an @lightV.eq_31 <| an @lightV.eq_32 <| an @orC_some <| an @orC_none <| an @orC_ite <| an @t_callT <| an @t_callI <| an @t_eqf <| an @t_feq <| an @t_cap <| an @t_fbits <| an @inv_if <| an @inv_c <| an @inv_t <| an @rec_v <| an @rec_p <| an @eqfV.eq_1 <| an @eqfV.eq_2 <| an @eqfV.eq_3 <| an @feqV.eq_1 <| an @capV.eq_1 <| an @fbV.eq_1 <| an @fbV.eq_2 <| trivial) := said_ok _
end Go.Proofs.YtbpaekbjpapgeaaGreatDoor.K
