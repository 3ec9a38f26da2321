/- The evaluator is sound at code, calls and regions that draw their order. -/
import Derived.Test.YthkkjgokfihpnaaGreatDoorEc
import Derived.RangeFuncLeaves
import Derived.DefersIn
import Derived.Recover
set_option linter.all false
namespace Go.Ev
open Go.RowKit (Below)

/-- The heap, the globals in it. -/
structure St (E : Env) (w0 : World) (B : Nat) (ρ : Rho) (H : Hp) (w : World) : Prop where
  rel : Rel w0 B ρ H w
  glob : ∀ g, g < E.nglob → ∃ L, ρ g = some (.at g 0 L)
  le : E.nglob ≤ H.next
/-- from one state to a later one -/
structure To (ρ : Rho) (H : Hp) (ρ' : Rho) (H' : Hp) : Prop where
  le : H.next ≤ H'.next
  ext : Ext H.next ρ ρ'
theorem To.refl (ρ : Rho) (H : Hp) : To ρ H ρ H := ⟨Nat.le_refl _, Ext.refl _ _⟩
theorem To.trans {ρ ρ' ρ'' : Rho} {H H' H'' : Hp} (h : To ρ H ρ' H') (g : To ρ' H' ρ'' H'') : To ρ H ρ'' H'' := ⟨Nat.le_trans h.le g.le, h.ext.trans g.ext h.le⟩
section
variable {P : Program} {E : Env} {w0 : World} {B : Nat} {ρ ρ' : Rho} {H H' : Hp} {w w' : World}
theorem St.to (h : St E w0 B ρ H w) (hr : Rel w0 B ρ' H' w') (ht : To ρ H ρ' H') : St E w0 B ρ' H' w' :=
  ⟨hr, fun g hg => by obtain ⟨L, hL⟩ := h.glob g hg; exact ⟨L, by rw [ht.ext g (Nat.lt_of_lt_of_le hg h.le)]; exact hL⟩, Nat.le_trans h.le ht.le⟩
theorem St.sub (h : St E w0 B ρ H w) (ht : To ρ H ρ' H') : Sub ρ ρ' := h.rel.sub ht.ext

/-- A fence as it is asked. -/
structure FenceOk (F : Fence) (rd : Bool) : Prop where
  fn : ∀ f, F.fn f
  depth : F.depth = none
  round : rd = false → F.round = none
  alive : F.alive = false
theorem FenceOk.wide : FenceOk Fence.wide false := ⟨fun _ => trivial, rfl, fun _ => rfl, rfl⟩
/-- such a fence lets everything by -/
theorem FenceOk.fenced {F : Fence} {rd : Bool} (h : FenceOk F rd) (P : Program) (m : Machine) : m.fenced P F :=
  fun g _ => ⟨fun e => (by rw [h.alive] at e; cases e), .inl (h.fn _), fun f _ => h.fn f, fun d hd => (by rw [h.depth] at hd; cases hd)⟩
theorem FenceOk.steps {F : Fence} {rd : Bool} (h : FenceOk F rd) {P : Program} {m m' : Machine} (hs : Steps P m m') : StepsIn (Machine.fenced P F) P m m' := (StepsIn.of_steps hs).mono fun m _ => h.fenced P m
theorem FenceOk.comes {F : Fence} {rd : Bool} (h : FenceOk F rd) {P : Program} {m m' : Machine} {e : Ending} (hs : Comes P m m' e) : ComesIn (Machine.fenced P F) P m m' e := by
  cases e with
  | returned v => exact h.steps hs
  | panicked chain => exact h.steps hs
  | outgrown => exact hs
theorem FenceOk.calls {F : Fence} {rd : Bool} (h : FenceOk F rd) {n : Nat} {P : Program} {f : FuncId} {args : Array Value} {w : World} {R : Ending → World → Prop} (hc : Calls P f args w R) : CallsIn F n P f args w R :=
  ⟨h.fn f, fun cs _ => let ⟨e, w', fr, r, s, x⟩ := hc cs; ⟨e, w', fr, r, h.comes s, x⟩⟩
/-- a deferred function that may recover, inside such a fence -/
theorem FenceOk.callsD {F : Fence} {rd : Bool} (hF : FenceOk F rd) {n : Nat} {P : Program} {f : FuncId} {fn : Func} {c : Code} {args : Array Value} {u : FrameMode} {w : World} {R : Ending → FrameMode → World → Prop}
    (hf : P.funcs[f]? = some fn) (hb : fn.body = some c)
    (h : ∀ (c₀ : Frame) (cs : List Frame), c₀.mode = u → c.wpS P (bodyPostS P fn c₀ cs R) { tmps := args ++ Array.replicate (fn.ntmps - args.size) undef, defers := [] } (c₀ :: cs) w) : CallsDIn F n P f args u w R := by
  refine ⟨hF.fn f, fun c₀ cs hu _ => ?_⟩
  let b : Frame := { (default : Frame) with fn := f, kind := .deferred }
  have henter : Frame.enter P f args .deferred = b.at { tmps := args ++ Array.replicate (fn.ntmps - args.size) undef, defers := [] } [.code c] := by
    simp [Frame.enter, Frame.at, hf, hb, b]
  obtain ⟨e, a', cs', w', hq, harr⟩ := h c₀ cs hu b [] rfl rfl
  rw [← henter] at harr
  cases e with
  | normal =>
    obtain ⟨hd, u', rfl, v, hr, hR⟩ := hq
    exact ⟨.returned v, u', w', _, hR, hF.comes (e := .returned v) (Steps.trans harr (.one step_end)), rfl, rfl, rfl, hd, fn, hf, hr⟩
  | ret =>
    obtain ⟨hd, u', rfl, v, hr, hR⟩ := hq
    obtain ⟨todo, hs⟩ := harr
    exact ⟨.returned v, u', w', _, hR, hF.comes (e := .returned v) hs, rfl, rfl, rfl, hd, fn, hf, hr⟩
  | panic chain =>
    obtain ⟨hd, u', rfl, hR⟩ := hq
    obtain ⟨todo, hs⟩ := harr
    exact ⟨.panicked chain, u', w', _, hR, hF.comes (e := .panicked chain) hs, rfl, rfl, rfl, hd, fn, hf⟩
  | exit id => exact hq.elim
  | goto l => exact hq.elim
  | outgrown =>
    obtain ⟨u', hR⟩ := hq
    exact ⟨.outgrown, u', w', b, hR, harr.resolve_left (by simp [b]), rfl, rfl, trivial⟩
theorem FenceOk.inRound {F : Fence} {rd : Bool} (h : FenceOk F rd) (l : Nat) : FenceOk (F.inRound l) true := ⟨h.fn, h.depth, fun e => (by cases e), h.alive⟩
theorem FenceOk.room {F : Fence} {rd : Bool} (h : FenceOk F rd) (n : Nat) : F.depth.isSome = true → 1 ≤ n := by rw [h.depth]; intro e; cases e

/-- Deferred calls. -/
def DRel (ρ : Rho) : ADef → Deferred → Prop
  | .mark b, d => ∃ Bb O L, ρ b = some (.at Bb O L) ∧ d.target = .collected Bb
  | .call f _, d => ∃ cap, d.target = .fn (.func f) cap
theorem DRel.mono {d : ADef} {x : Deferred} (hs : Sub ρ ρ') (h : DRel ρ d x) : DRel ρ' d x := by
  cases d with
  | mark b => obtain ⟨Bb, O, L, h1, h2⟩ := h; exact ⟨Bb, O, L, hs _ _ h1, h2⟩
  | call f a => exact h

/-- The frame. -/
structure FrOk (ρ : Rho) (c : Ctx) (T : Tr AV) (ds : List ADef) (a : Act) : Prop where
  size : a.tmps.size = c.N
  tmps : RT ρ T a.tmps
  ds : All2 (DRel ρ) ds a.defers
theorem FrOk.mono {c : Ctx} {T : Tr AV} {ds : List ADef} {a : Act} (hs : Sub ρ ρ') (h : FrOk ρ c T ds a) : FrOk ρ' c T ds a := ⟨h.size, h.tmps.mono hs, h.ds.imp fun _ _ => DRel.mono hs⟩

theorem FrOk.opd {c : Ctx} {T : Tr AV} {ds : List ADef} {a : Act} (h : FrOk ρ c T ds a) (hst : St E w0 B ρ H w) (x : Operand) : OpdOk E ρ T a.eval x := by
  intro v hv
  cases x with
  | tmp t =>
    cases hv
    exact h.tmps t
  | const c => exact constF_rv hv
  | global g =>
    simp only [avalF] at hv
    split at hv
    · rename_i hg
      cases hv
      obtain ⟨L, hL⟩ := hst.glob g hg
      exact ⟨g, 0, L, hL, rfl⟩
    · cases hv
  | func f => cases hv; rfl
theorem RT.put {T : Tr AV} {tmps : Array Value} (h : RT ρ T tmps) {d : Nat} {v : AV} {u : Value} (hd : d < tmps.size) (hv : RV ρ v u) : RT ρ (T.set d v) (tmps.setIfInBounds d u) := by
  intro i
  rw [Tr.get_set]
  by_cases hi : i = d
  · subst hi
    rw [if_pos rfl]
    simp [Array.getD_eq_getD_getElem?, Array.getElem?_setIfInBounds_self_of_lt hd]
    exact hv
  · rw [if_neg hi]
    have := h i
    rw [Array.getD_eq_getD_getElem?] at this ⊢
    rw [Array.getElem?_setIfInBounds_ne (Ne.symm hi)]
    exact this
theorem cPut_some {R : Type} {dst : Option Tmp} {N : Nat} {T : Tr AV} {v : AV} {k : Tr AV → Option R} {r : R} (h : (cPut dst).f N T v k = some r) :
    match dst with | none => k T = some r | some d => d < N ∧ k (T.set d v) = some r := by
  cases dst with
  | none => exact h
  | some d =>
    simp only [cPut, boolsK_eq, putSome] at h
    obtain ⟨h1, h2⟩ := cond_some h
    rw [nblt_iff, decide_eq_true_eq] at h1
    rw [Tr.setP_eq] at h2
    exact ⟨h1, h2⟩
theorem FrOk.put {R : Type} {c : Ctx} {T : Tr AV} {ds : List ADef} {a : Act} (h : FrOk ρ c T ds a) {dst : Option Tmp} {v : AV} {u : Value} (hv : RV ρ v u) {k : Tr AV → Option R} {r : R} (hk : (cPut dst).f c.N T v k = some r) :
    ∃ T', k T' = some r ∧ FrOk ρ c T' ds (a.put dst u) := by
  have := cPut_some hk
  cases dst with
  | none => exact ⟨T, this, h⟩
  | some d => exact ⟨T.set d v, this.2, ⟨by simp [Act.put, h.size], h.tmps.put (by rw [h.size]; exact this.1) hv, h.ds⟩⟩
theorem FrOk.putD {c : Ctx} {T : Tr AV} {ds ds' : List ADef} {a : Act} {defers : List Deferred} (h : FrOk ρ c T ds a) (hd : All2 (DRel ρ) ds' defers) : FrOk ρ c T ds' { a with defers := defers } := ⟨h.size, h.tmps, hd⟩

/-- is an operation wanted? -/
theorem rv_bool {v : AV} {b : Bool} (h : RV ρ v (.bool b)) : v = .b b := by
  cases v with
  | cv c =>
    cases c with
    | bool b' => cases h; rfl
    | int k n => cases h
    | ptr b o => obtain ⟨_, _, _, _, h⟩ := h; cases h
    | slice _ _ _ _ _ => obtain ⟨_, _, h, _⟩ := h; cases h
    | oth o =>
      cases o with
      | map _ => obtain ⟨_, _, _, _, h⟩ := h; cases h
      | clo _ => obtain ⟨_, _, _, _, h⟩ := h; cases h
      | yield _ => obtain ⟨_, _, _, _, h⟩ := h; cases h
      | _ => cases h
  | agg cs => obtain ⟨_, h, _⟩ := h; cases h
  | tup vs => obtain ⟨_, h, _⟩ := h; cases h
def wantT (ops : List Oper) (T : Tr AV) (o : Oper) : Bool :=
  match o.guard with
  | none => true
  | some (j, want) => match (ops[j]?).bind (·.dst) with
    | none => false
    | some d => match T.get d with
      | some (.cv (.bool t)) => t == want
      | _ => false
theorem cWant_some {R : Type} {ops : List Oper} {o : Oper} {T : Tr AV} {x y : Option R} {r : R} (h : (cWant ops o.guard).f T x y = some r) : (wantT ops T o = true ∧ x = some r) ∨ (wantT ops T o = false ∧ y = some r) := by
  unfold cWant at h
  unfold wantT
  split at h
  · rename_i hg; rw [hg]; exact .inl ⟨by trivial, h⟩
  · rename_i j want hg
    rw [hg]
    simp only []
    split at h
    · rename_i o' ho'
      simp only [ho', Option.bind_some]
      split at h
      · rename_i d hd
        simp only [boolsK_eq, forceB_eq, wantTmp, Tr.getP_eq] at h
        simp only [hd]
        split at h
        · rename_i t ht
          rw [ht]
          cases t <;> cases want <;> first | exact .inl ⟨by simp, h⟩ | exact .inr ⟨by simp, h⟩
        · rename_i hne
          right
          refine ⟨?_, h⟩
          split
          · rename_i t ht; exact absurd ht (hne t)
          · rfl
      · rename_i hd
        exact .inr ⟨by simp [hd], h⟩
    · rename_i ho'
      exact .inr ⟨by simp [ho'], h⟩
theorem wanted_eq {ops : Array Oper} {T : Tr AV} {o : Oper} {tmps : Array Value} (h : ∀ t ∈ o.looksAt ops, RV ρ ((T.get t).getD .und) (tmps.getD t undef)) : Region.wanted o (yielded ops tmps) = wantT ops.toList T o := by
  unfold Region.wanted wantT
  cases hg : o.guard with
  | none => rfl
  | some p =>
    obtain ⟨j, want⟩ := p
    simp only [yielded, Array.getElem?_toList]
    cases hd : (ops[j]?).bind (·.dst) with
    | none => simp
    | some d =>
      have hm : d ∈ o.looksAt ops := by simp [Oper.looksAt, hg, hd]
      have hv := h d hm
      simp only [Option.bind_some]
      rw [Array.getD_eq_getD_getElem?] at hv
      cases ht : tmps[d]? with
      | none =>
        rw [ht] at hv
        simp only [Option.getD_none] at hv
        cases hT : T.get d with
        | none => simp
        | some v =>
          rw [hT] at hv
          simp only [Option.getD_some] at hv
          cases v with
          | cv c =>
            cases c with
            | bool b => cases hv
            | _ => simp
          | _ => simp
      | some u =>
        rw [ht] at hv
        simp only [Option.getD_some] at hv
        cases hT : T.get d with
        | none =>
          rw [hT] at hv
          obtain ⟨a, rfl, _⟩ := hv
          simp
        | some v =>
          rw [hT] at hv
          simp only [Option.getD_some] at hv
          cases u with
          | bool b =>
            have := rv_bool hv
            subst this
            cases b <;> cases want <;> simp
          | _ =>
            cases v with
            | cv c =>
              cases c with
              | bool b => cases hv
              | _ => simp
            | _ => simp
end
end Go.Ev

namespace Go.Ev
open Go.RowKit (Below)
section
variable {P : Program} {E : Env}
/-- what a call leaves -/
def CallPost (E : Env) (w0 : World) (B : Nat) (ρ : Rho) (H : Hp) (k : KV Unit) (e : Ending) (w' : World) : Prop :=
  ∃ u v H' ρ', e = .returned u ∧ k v H' = some () ∧ St E w0 B ρ' H' w' ∧ To ρ H ρ' H' ∧ RV ρ' v u
/-- a function that is entered -/
def EnterOk (P : Program) (E : Env) (w0 : World) (B : Nat) (ρ : Rho) (H : Hp) (k : KV Unit) (g : FuncId) (args : Array Value) (w : World) : Prop :=
  ∀ (F : Fence) (rd : Bool) (n : Nat), FenceOk F rd → CallsIn F n P g args w (CallPost E w0 B ρ H k)
/-- a function's value that is called -/
def InvOk (P : Program) (E : Env) (w0 : World) (B : Nat) (ρ : Rho) (H : Hp) (k : KV Unit) (fv : Value) (args : Array Value) (w : World) : Prop :=
  ∃ d, (Deferred.ofValue fv args).run P w = .ok d w ∧
    ((∃ g as, (invoke d.target d.args).run P w = .ok (.enter g as) w ∧ EnterOk P E w0 B ρ H k g as w) ∨
     (∃ l f tmps assign body, fv = .func (.yield l) #[] #[] ∧ (invoke d.target d.args).run P w = .ok (.round l f tmps assign body) w ∧ ∀ (F : Fence) (rd : Bool) (n : Nat), FenceOk F rd → RoundIn F n P l f tmps assign body w (CallPost E w0 B ρ H k)))
def CallOk (P : Program) (E : Env) (S : SemR Unit) : Prop :=
  ∀ f args H k, S.callv f args H k = some () → ∀ (w0 : World) (B : Nat) (ρ : Rho) (fv : Value) (as : Array Value) (w : World), St E w0 B ρ H w → RV ρ f fv → All2 (RV ρ) args as.toList → InvOk P E w0 B ρ H k fv as w
/-- what is asked of the next act -/
def Next1 (E : Env) (w0 : World) (B : Nat) (ρ : Rho) (H : Hp) (c : Ctx) (k : KF Unit) (K : Act → World → Prop) : Prop :=
  ∀ T' ds' H' ρ' a' w', k T' ds' H' = some () → St E w0 B ρ' H' w' → To ρ H ρ' H' → FrOk ρ' c T' ds' a' → K a' w'

theorem operands_looks {ops : Array Oper} {o : Oper} {t : Tmp} (h : Operand.tmp t ∈ o.op.operands.toList) : t ∈ o.looksAt ops := by
  unfold Oper.looksAt
  exact List.mem_append_left _ (List.mem_filterMap.2 ⟨.tmp t, h, rfl⟩)
theorem about_wide {F : Fence} {rd : Bool} (hF : FenceOk F rd) (o : Oper) (w : World) (e : Operand → Value) : ∀ f, o.about P w e = some f → F.fn f := fun f _ => hF.fn f

/-- AN OPERATION, RUN WITHIN A FRAME. What is known of the temporaries: what the operation looks at. -/
theorem run_ok (hE : EnvOk P E) {S : SemR Unit} (hS : CallOk P E S) (o : Oper) {T : Tr AV} {ds : List ADef} {H : Hp} {k : AV → List ADef → Hp → Option Unit} (h : (cRun E o.op).f S T ds H k = some ())
    {w0 : World} {B : Nat} {ρ : Rho} {a : Act} {w : World} {F : Fence} {rd : Bool} {n : Nat} {K : Act → World → Prop} {Q : Exit → Act → World → Prop} (hF : FenceOk F rd) (hdef : isDefer o.op = true → rd = false) (hst : St E w0 B ρ H w)
    (hx : ∀ x ∈ o.op.operands.toList, OpdOk E ρ T a.eval x) (hds : All2 (DRel ρ) ds a.defers)
    (hK : ∀ v u ds' defers H' ρ' w', k v ds' H' = some () → St E w0 B ρ' H' w' → To ρ H ρ' H' → RV ρ' v u → All2 (DRel ρ') ds' defers → K ({ a with defers := defers }.put o.dst u) w') :
    o.wpIn F n P a w K Q := by
  have plain : ∀ {f : OpF Unit}, OpOk P E o.op f → f T H (fun v H => k v ds H) = some () → (∀ c, o.op ≠ .defer c) → o.wpIn F n P a w K Q := by
    intro f hf hr hnd
    obtain ⟨u, w', v, H', ρ', h1, h2, h3, h4, h5, h6⟩ := hf T H _ hr w0 B ρ a.eval o w rfl hst.rel hx
    have hto : To ρ H ρ' H' := ⟨h4, h5⟩
    have hk := hK v u ds a.defers H' ρ' w' h2 (hst.to h3 hto) hto h6 (hds.imp fun _ _ => DRel.mono (hst.sub hto))
    refine ⟨about_wide hF o w _, ?_⟩
    rw [Oper.semAt_eq _ _ _ hnd]
    rcases h1 with h1 | ⟨h1, rfl⟩ <;> rw [h1]
    · exact hk
    · exact hk
  cases hop : o.op with
  | call c =>
    rw [hop] at h
    simp only [cRun] at h
    cases hc : c.callee with
    | value f =>
      rw [hc] at h
      obtain ⟨fv, h1, h2⟩ := cOpd_some (show (cOpd E f).f T (fun f => (cOpds E c.args.toList).f T fun args => S.callv f args H fun v H => k v ds H) = some () from h)
      obtain ⟨args, h3, h4⟩ := cOpds_some h2
      have hfv : RV ρ fv (a.eval f) := hx f (by simp [hop, Op.operands, Call.operands, hc]) _ h1
      have hargs := OpdOk.all (fun x hxm => hx x (by simp [hop, Op.operands, Call.operands, hc]; exact .inr (by simpa using hxm))) h3
      obtain ⟨d, h5, h6⟩ := hS fv args H _ h4 w0 B ρ (a.eval f) (c.args.map a.eval) w hst hfv (by rw [Array.toList_map]; exact hargs)
      refine ⟨about_wide hF o w _, ?_⟩
      rw [Oper.semAt_eq _ _ _ (by rw [hop]; intro c hc; cases hc)]
      have hrun : (execOp a.eval o).run P w = (invoke d.target d.args).run P w := by
        simp only [execOp, hop, resolve, hc]
        rw [Sem.run_bind, h5]
        rfl
      have hpost : ∀ e w', CallPost E w0 B ρ H (fun v H => k v ds H) e w' → (match e with | .returned v => K (a.put o.dst v) w' | .panicked chain => Q (.panic chain) a w' | .outgrown => LetsOut Q) := by
        rintro e w' ⟨u, v, H', ρ', rfl, g1, g2, g3, g4⟩
        exact hK v u ds a.defers H' ρ' w' g1 g2 g3 g4 (hds.imp fun _ _ => DRel.mono (hst.sub g3))
      rcases h6 with ⟨g, as, h7, h8⟩ | ⟨l, f', tmps, assign, body, _, h7, h8⟩
      · rw [hrun, h7, Oper.uponIn_enter]
        refine ⟨hF.room n, (h8 F rd (n - 1) hF).mono fun e w' he => ?_⟩
        have := hpost e w' he
        cases e <;> exact this
      · rw [hrun, h7, Oper.uponIn_round]
        refine ⟨hF.room n, (h8 F rd (n - 1) hF).mono fun e w' he => ?_⟩
        have := hpost e w' he
        cases e <;> exact this
    | builtin b =>
      rw [hc] at h
      obtain ⟨args, h3, h4⟩ := cOpds_some (show (cOpds E c.args.toList).f T (fun args => (cBop E b c.argTypes.toList).f args H fun v H => k v ds H) = some () from h)
      have hargs := OpdOk.all (fun x hxm => hx x (by simp [hop, Op.operands, Call.operands, hc]; simpa using hxm)) h3
      obtain ⟨cs, hrun⟩ := run_callB (e := a.eval) (q := o) (P := P) hop hc w
      obtain ⟨u, w', v, H', ρ', g1, g2, g3, g4, g5, g6⟩ := cBop_ok hE b c.argTypes args H _ h4 w0 B ρ _ o.type cs w hst.rel hargs
      have hto : To ρ H ρ' H' := ⟨g4, g5⟩
      refine ⟨about_wide hF o w _, ?_⟩
      rw [Oper.semAt_eq _ _ _ (by rw [hop]; intro c hc; cases hc), hrun, g1]
      exact hK v u ds a.defers H' ρ' w' g2 (hst.to g3 hto) hto g6 (hds.imp fun _ _ => DRel.mono (hst.sub hto))
    | invoke r nm => rw [hc] at h; cases h
  | defer c =>
    rw [hop] at h
    simp only [cRun] at h
    cases hc : c.callee with
    | value f =>
      rw [hc] at h
      obtain ⟨fv, h1, h2⟩ := cOpd_some (show (cOpd E f).f T (fun f => (cOpds E c.args.toList).f T fun args => funcK H f fun f fs cs => k .und (.call f (fs ++ args ++ cs) :: ds) H) = some () from h)
      obtain ⟨args, h3, h4⟩ := cOpds_some h2
      have hfv : RV ρ fv (a.eval f) := hx f (by simp [hop, Op.operands, Call.operands, hc]) _ h1
      unfold funcK at h4
      obtain ⟨co, rfl, h5⟩ := othK_some h4
      have hfn : ∃ g fs cs first cap, k .und (.call g (fs ++ args ++ cs) :: ds) H = some () ∧ a.eval f = .func (.func g) first cap := by
        split at h5
        · exact ⟨_, _, _, _, _, h5, hfv⟩
        · rename_i b
          unfold cloK at h5
          split at h5
          · rename_i g fs cs hb
            obtain ⟨f', a', c', e1, e2⟩ := hfv
            obtain ⟨e3, e4, e5⟩ := hst.rel.ok b _ _ hb e1
            subst e3
            exact ⟨_, _, _, _, _, h5, e2⟩
          · cases h5
        · cases h5
      obtain ⟨g, fs, cs, first, cap, h6, h7⟩ := hfn
      refine ⟨about_wide hF o w _, ?_⟩
      have hro : F.round = none := hF.round (hdef (by rw [hop]; rfl))
      have hrun : (o.semAt F.round a.eval).run P w = .ok (.defer { target := .fn (.func g) cap, args := first ++ c.args.map a.eval }) w := by
        rw [hro, Oper.semAt_none]
        simp only [execOp, hop, resolve, hc, h7, Deferred.ofValue]
        rfl
      rw [hrun]
      exact hK .und undef _ ({ target := .fn (.func g) cap, args := first ++ c.args.map a.eval } :: a.defers) H ρ w h6 hst (To.refl _ _) (RV.und _) ⟨⟨cap, rfl⟩, hds⟩
    | builtin b => rw [hc] at h; cases h
    | invoke r nm => rw [hc] at h; cases h
  | _ =>
    refine plain (f := (cOp E o.op).f) (cOp_ok hE o.op).op ?_ (by rw [hop]; intro c hc; cases hc)
    rw [hop] at h ⊢
    exact h
/-- one operation, with its guard and its place -/
theorem step_ok (hE : EnvOk P E) {S : SemR Unit} (hS : CallOk P E S) {ops : Array Oper} {i : Nat} {o : Oper} (ho : ops[i]? = some o) {c : Ctx} {T : Tr AV} {ds : List ADef} {H : Hp} {k : KF Unit} (h : (cStep E ops.toList o).f S c T ds H k = some ())
    {w0 : World} {B : Nat} {ρ : Rho} {a : Act} {w : World} {F : Fence} {n : Nat} {K : Act → World → Prop} {Q : Exit → Act → World → Prop} (hF : FenceOk F c.rd) (hst : St E w0 B ρ H w) (hfr : FrOk ρ c T ds a) (hK : Next1 E w0 B ρ H c k K) :
    wpOpIn F n P ops Q i K a w := by
  unfold wpOpIn
  rw [ho]
  simp only []
  have h' : (stepF (cWant ops.toList o.guard) (cRun E o.op) (cPut o.dst)) S c T ds H k = some () ∧ (isDefer o.op = true → c.rd = false) := by
    unfold cStep at h
    cases hd : isDefer o.op with
    | true =>
      rw [hd] at h
      obtain ⟨h1, h2⟩ := ncond_some (show (bif c.rd then none else _) = some () from h)
      exact ⟨h2, fun _ => h1⟩
    | false =>
      rw [hd] at h
      exact ⟨h, fun e => by cases e⟩
  obtain ⟨h1, hdef⟩ := h'
  rw [wanted_eq (fun t _ => hfr.tmps t)]
  rcases cWant_some h1 with ⟨hw, h2⟩ | ⟨hw, h2⟩
  · rw [if_pos hw]
    refine run_ok hE hS o h2 hF hdef hst (fun x _ => hfr.opd hst x) hfr.ds fun v u ds' defers H' ρ' w' g1 g2 g3 g4 g5 => ?_
    obtain ⟨T', k1, k2⟩ := ((hfr.mono (hst.sub g3)).putD g5).put g4 g1
    exact hK T' ds' H' ρ' _ w' k1 g2 g3 k2
  · rw [if_neg (by rw [hw]; simp)]
    refine ⟨about_wide hF o w _, ?_⟩
    obtain ⟨T', k1, k2⟩ := hfr.put (RV.und ρ) h2
    exact hK T' ds H ρ _ w k1 hst (To.refl _ _) k2
/-- a region in the text's order -/
theorem seq_ok (hE : EnvOk P E) {S : SemR Unit} (hS : CallOk P E S) {ops : Array Oper} {c : Ctx} {w0 : World} {B : Nat} {F : Fence} {n : Nat} {Q : Exit → Act → World → Prop} (hF : FenceOk F c.rd) :
    ∀ (m j : Nat), j + m = ops.size → ∀ {T : Tr AV} {ds : List ADef} {H : Hp} {k : KF Unit}, (cSeqRun E ops.toList (ops.toList.drop j)).f S c T ds H k = some () →
      ∀ {ρ : Rho} {a : Act} {w : World}, St E w0 B ρ H w → FrOk ρ c T ds a → Next1 E w0 B ρ H c k (Q .normal) → wpOpsIn F n P ops Q (List.range' j m) a w
  | 0, j, hj, T, ds, H, k, h, ρ, a, w, hst, hfr, hK => by
    have hd : ops.toList.drop j = [] := List.drop_eq_nil_of_le (by simp; omega)
    rw [hd] at h
    exact hK T ds H ρ a w h hst (To.refl _ _) hfr
  | m + 1, j, hj, T, ds, H, k, h, ρ, a, w, hst, hfr, hK => by
    have hlt : j < ops.toList.length := by simp; omega
    rw [List.drop_eq_getElem_cons hlt] at h
    have ho : ops[j]? = some (ops.toList[j]) := by rw [← Array.getElem?_toList]; simp [hlt]
    rw [List.range'_succ, wpOpsIn_cons]
    refine step_ok hE hS ho (k := fun T ds H => (cSeqRun E ops.toList (ops.toList.drop (j + 1))).f S c T ds H k) h hF hst hfr fun T' ds' H' ρ' a' w' g1 g2 g3 g4 => ?_
    exact seq_ok hE hS hF m (j + 1) (by omega) g1 g2 g4 fun T'' ds'' H'' ρ'' a'' w'' k1 k2 k3 k4 => hK T'' ds'' H'' ρ'' a'' w'' k1 k2 (g3.trans k3) k4
end
end Go.Ev

namespace Go.Ev
open Go.RowKit (Below)
section
variable {P : Program} {E : Env}
def exitOf : AExit → Exit
  | .normal => .normal
  | .exit id => .exit id
  | .ret => .ret
def NextX (E : Env) (w0 : World) (B : Nat) (ρ : Rho) (H : Hp) (c : Ctx) (k : KX Unit) (Q : Exit → Act → World → Prop) : Prop :=
  ∀ e T' ds' H' ρ' a' w', k e T' ds' H' = some () → St E w0 B ρ' H' w' → To ρ H ρ' H' → FrOk ρ' c T' ds' a' → Q (exitOf e) a' w'
def CodeOk (P : Program) (E : Env) (f : Ctx → Tr AV → List ADef → Hp → KX Unit → Option Unit) (x : Code) : Prop :=
  ∀ c T ds H k, f c T ds H k = some () → ∀ (F : Fence) (n : Nat) (w0 : World) (B : Nat) (ρ : Rho) (a : Act) (w : World) (Q : Exit → Act → World → Prop), FenceOk F c.rd → St E w0 B ρ H w → FrOk ρ c T ds a → NextX E w0 B ρ H c k Q → x.wpIn F n P Q a w
structure SemOk (P : Program) (E : Env) (S : SemR Unit) : Prop where
  code : ∀ x, CodeOk P E (fun c T ds H k => S.code c x T ds H k) x
  call : CallOk P E S
/-- a region that draws its order -/
def DrawOk (P : Program) (E : Env) (S : SemR Unit) : Prop :=
  ∀ (id : Nat) (ops : Array Oper), CodeOk P E (codeRegion (cDraw E ops.toList (mkPlan E ops.toList)) S) (.region id ops true)
theorem NextX.trans {w0 : World} {B : Nat} {ρ ρ' : Rho} {H H' : Hp} {c : Ctx} {k : KX Unit} {Q : Exit → Act → World → Prop} (h : NextX E w0 B ρ H c k Q) (ht : To ρ H ρ' H') : NextX E w0 B ρ' H' c k Q :=
  fun e T' ds' H'' ρ'' a' w' g1 g2 g3 g4 => h e T' ds' H'' ρ'' a' w' g1 g2 (ht.trans g3) g4
theorem bad_code {S : SemR Unit} {x : Code} : CodeOk P E (codeBad S) x := fun _ _ _ _ _ h => by cases h
theorem thenK_some {e : AExit} {n : Option Unit} {k : AExit → Option Unit} (h : thenK e n k = some ()) : (e = .normal ∧ n = some ()) ∨ (e ≠ .normal ∧ k e = some ()) := by
  cases e with
  | normal => exact .inl ⟨rfl, h⟩
  | exit id => exact .inr ⟨by simp, h⟩
  | ret => exact .inr ⟨by simp, h⟩
theorem seq_code {S : SemR Unit} {x y : Code} {a b : Bx (CodeF Unit)} (ha : CodeOk P E (a.f S) x) (hb : CodeOk P E (b.f S) y) : CodeOk P E (codeSeq a b S) (.seq x y) := by
  intro c T ds H k h F n w0 B ρ act w Q hF hst hfr hK
  refine wpIn_seq (ha c T ds H _ h F n w0 B ρ act w _ hF hst hfr fun e T' ds' H' ρ' a' w' g1 g2 g3 g4 => ?_)
  rcases thenK_some g1 with ⟨rfl, g5⟩ | ⟨hne, g5⟩
  · exact hb c T' ds' H' k g5 F n w0 B ρ' a' w' Q hF g2 g4 (hK.trans g3)
  · have := hK e T' ds' H' ρ' a' w' g5 g2 g3 g4
    cases e with
    | normal => exact absurd rfl hne
    | exit id => exact this
    | ret => exact this
theorem cond_code {S : SemR Unit} {o : Operand} {x y : Code} {a b : Bx (CodeF Unit)} (ha : CodeOk P E (a.f S) x) (hb : CodeOk P E (b.f S) y) : CodeOk P E (codeCond (cOpd E o) a b S) (.cond o x y) := by
  intro c T ds H k h F n w0 B ρ act w Q hF hst hfr hK
  obtain ⟨v, h1, h2⟩ := cOpd_some (show (cOpd E o).f T (fun v => boolK v (a.f S c T ds H k) (b.f S c T ds H k)) = some () from h)
  have hv := hfr.opd hst o v h1
  rcases boolK_some h2 with ⟨rfl, h3⟩ | ⟨rfl, h3⟩
  · exact wpIn_cond_true hv (ha c T ds H k h3 F n w0 B ρ act w Q hF hst hfr hK)
  · exact wpIn_cond_false hv (hb c T ds H k h3 F n w0 B ρ act w Q hF hst hfr hK)
theorem block_code {S : SemR Unit} {id : Nat} {x : Code} {a : Bx (CodeF Unit)} (ha : CodeOk P E (a.f S) x) : CodeOk P E (codeBlock id a S) (.block id x) := by
  intro c T ds H k h F n w0 B ρ act w Q hF hst hfr hK
  refine wpIn_block (ha c T ds H _ h F n w0 B ρ act w _ hF hst hfr fun e T' ds' H' ρ' a' w' g1 g2 g3 g4 => ?_)
  have := hK _ T' ds' H' ρ' a' w' g1 g2 g3 g4
  cases e with
  | normal => exact this
  | ret => exact this
  | exit j =>
    simp only [exitOf, Exit.inBlock]
    simp only [blockX, nbeq_eq] at this
    by_cases hj : j = id
    · rw [if_pos hj]; rw [decide_eq_true hj] at this; exact this
    · rw [if_neg hj]; rw [decide_eq_false hj] at this; exact this
theorem region_code (hE : EnvOk P E) {S : SemR Unit} (hS : CallOk P E S) (id : Nat) (ops : Array Oper) : CodeOk P E (codeRegion (cSeqRun E ops.toList ops.toList) S) (.region id ops false) := by
  intro c T ds H k h F n w0 B ρ act w Q hF hst hfr hK
  refine wpIn_region ?_
  rw [List.range_eq_range']
  exact seq_ok hE hS hF ops.size 0 (by omega) (k := fun T ds H => k .normal T ds H) h hst hfr fun T' ds' H' ρ' a' w' g1 g2 g3 g4 => hK .normal T' ds' H' ρ' a' w' g1 g2 g3 g4
theorem sem_succ (n : Nat) : sem E Unit (n + 1) = ⟨codeF E (sem E Unit n), callF E (sem E Unit n)⟩ := rfl
theorem exists_min {p : Nat → Prop} (h : ∃ n, p n) : ∃ n, p n ∧ ∀ m, p m → n ≤ m := by
  obtain ⟨n, hn⟩ := h
  induction n using Nat.strongRecOn with
  | _ n ih =>
    by_cases g : ∃ m, m < n ∧ p m
    · obtain ⟨m, h1, h2⟩ := g; exact ih m h1 h2
    · refine ⟨n, hn, fun m hm => ?_⟩
      rcases Nat.lt_or_ge m n with h1 | h1
      · exact absurd ⟨m, h1, hm⟩ g
      · exact h1
open Classical in
noncomputable def minOf (p : Nat → Prop) : Nat := if h : ∃ n, p n then Classical.choose (exists_min h) else 0
theorem minOf_spec {p : Nat → Prop} (h : ∃ n, p n) : p (minOf p) ∧ ∀ m, p m → minOf p ≤ m := by
  unfold minOf
  rw [dif_pos h]
  exact Classical.choose_spec (exists_min h)
theorem loop_code {N : Nat} {x : Code} (hx : ∀ m, m ≤ N → CodeOk P E ((cCode E x).f (sem E Unit m)) x) : ∀ m, m ≤ N → CodeOk P E (codeLoop x (cCode E x) (sem E Unit m)) (.loop x) := by
  intro m0 hm0 c T ds H k h F n w0 B ρ act w Q hF hst hfr hK
  let J : Nat → Act → World → Prop := fun m a w => m ≤ N ∧ ∃ T ds H' ρ', codeLoop x (cCode E x) (sem E Unit m) c T ds H' k = some () ∧ St E w0 B ρ' H' w ∧ FrOk ρ' c T ds a ∧ To ρ H ρ' H'
  let I : Act → World → Prop := fun a w => ∃ m, J m a w
  refine wpIn_loop I (fun a w => minOf fun m => J m a w) ⟨m0, hm0, T, ds, H, ρ, h, hst, hfr, To.refl _ _⟩ fun a w hI => ?_
  obtain ⟨⟨hmN, T1, ds1, H1, ρ1, h1, h2, h3, h4⟩, _⟩ := minOf_spec hI
  refine hx (minOf fun m => J m a w) hmN c T1 ds1 H1 _ h1 F n w0 B ρ1 a w _ hF h2 h3 fun e T' ds' H' ρ' a' w' g1 g2 g3 g4 => ?_
  rcases thenK_some g1 with ⟨rfl, g5⟩ | ⟨hne, g5⟩
  · show I a' w' ∧ (minOf fun m => J m a' w') < minOf fun m => J m a w
    generalize (minOf fun m => J m a w) = m at hmN g5 ⊢
    cases m with
    | zero => cases g5
    | succ m =>
      have hJ : J m a' w' := ⟨by omega, T', ds', H', ρ', g5, g2, g4, h4.trans g3⟩
      have := (minOf_spec (p := fun m => J m a' w') ⟨m, hJ⟩).2 m hJ
      exact ⟨⟨m, hJ⟩, by omega⟩
  · have := hK e T' ds' H' ρ' a' w' g5 g2 (h4.trans g3) g4
    cases e with
    | normal => exact absurd rfl hne
    | exit id => exact this
    | ret => exact this
end
end Go.Ev

namespace Go.Ev
open Go.RowKit (Below)
section
variable {P : Program} {E : Env}
theorem notYield_some {f : AV} {k : Option Unit} (h : notYield f k = some ()) : k = some () ∧ ∀ l, f ≠ .o (.yield l) := by
  unfold notYield at h
  split at h
  · cases h
  · rename_i hn
    exact ⟨h, fun l e => hn l e⟩
theorem rv_yield {ρ : Rho} {v : AV} {l : Nat} (h : RV ρ v (.func (.yield l) #[] #[])) : ∃ b, v = .o (.yield b) := by
  cases v with
  | cv c =>
    cases c with
    | bool b' => cases h
    | int k n => cases h
    | ptr b o => obtain ⟨_, _, _, _, h⟩ := h; cases h
    | slice _ _ _ _ _ => obtain ⟨_, _, h, _⟩ := h; cases h
    | oth o =>
      cases o with
      | yield b => exact ⟨b, rfl⟩
      | map _ => obtain ⟨_, _, _, _, h⟩ := h; cases h
      | clo _ => obtain ⟨_, _, _, _, h⟩ := h; cases h
      | _ => cases h
  | agg cs => obtain ⟨_, h, _⟩ := h; cases h
  | tup vs => obtain ⟨_, h, _⟩ := h; cases h
theorem loop_inv {w : World} {B : Nat} {r : Loop} (h : w.heap[B]? = some (.loop r)) : (Instr.getLoop B).run P w = .ok r w := by
  unfold Instr.getLoop
  rw [Sem.run_bind, run_getObj' h (by simp)]
  rfl
theorem range_code (hE : EnvOk P E) {S : SemR Unit} (hS : SemOk P E S) (g : Operand) (ps : Array Tmp) (assign body : Code) : CodeOk P E (codeRange (cOpd E g) ps.toList assign body S) (.rangeFunc g ps assign body) := by
  intro c T ds H k h F n w0 B ρ act w Q hF hst hfr hK
  obtain ⟨hrd, h1⟩ := ncond_some (show (bif c.rd then none else _) = some () from h)
  obtain ⟨f, h2, h3⟩ := cOpd_some h1
  obtain ⟨h3, hny⟩ := notYield_some h3
  rw [Hp.newK_eq, Hp.newK_eq] at h3
  have hround := hF.round hrd
  refine wpIn_rangeFunc fun fn _ => ?_
  have hfv := hfr.opd hst g f h2
  -- the two blocks
  have r1 := hst.rel.alloc (.deferred (some [])) (.dfr false) 0 0 (heap_alloc_at _ _)
  have t1 : To ρ H (upd ρ H.next (.at w.heap.size 0 0)) (H.new (.dfr false)) := ⟨by simp, upd_ext _ _ _⟩
  have s1 := hst.to r1 t1
  have hfr1 := hfr.mono (hst.sub t1)
  let rec_ : Loop := { state := .ready, pending := none, fn := fn, tmps := act.tmps, params := ps, assign := assign, body := body, defers := w.heap.size }
  have r2 := r1.alloc (.loop rec_) (.loop .ready none c.fn T c.N ps.toList assign body H.next) 0 0 (by
    have hsub := s1.rel.sub (upd_ext (upd ρ H.next (.at w.heap.size 0 0)) (H.new (.dfr false)).next (.at (w.alloc (.deferred (some []))).heap.size 0 0))
    exact ⟨fn, act.tmps, ps, w.heap.size, 0, 0, heap_alloc_at _ _, rfl, hfr.size, (hfr1.tmps).mono hsub, hsub _ _ (upd_self _ _ _)⟩)
  have t2 : To (upd ρ H.next (.at w.heap.size 0 0)) (H.new (.dfr false)) _ ((H.new (.dfr false)).new (.loop .ready none c.fn T c.N ps.toList assign body H.next)) := ⟨by simp, upd_ext _ _ (.at (w.alloc (.deferred (some []))).heap.size 0 0)⟩
  have s2 := s1.to r2 t2
  have hsub2 := s1.sub t2
  have t02 := t1.trans t2
  have henter : (Instr.enterLoop fn act.tmps ps assign body F.round).run P w = .ok ((w.alloc (.deferred (some []))).heap.size, [{ target := .collected w.heap.size, args := #[] }]) ((w.alloc (.deferred (some []))).alloc (.loop rec_)) := by
    rw [hround]
    rfl
  have hfv2 : RV _ f (act.eval g) := hfv.mono (hst.sub t02)
  obtain ⟨d, hd, hinv⟩ := hS.call f [.o (.yield (H.new (.dfr false)).next)] _ _ h3 w0 B _ (act.eval g) #[.func (.yield (w.alloc (.deferred (some []))).heap.size) #[] #[]] _ s2 hfv2 ⟨⟨_, 0, 0, upd_self _ _ _, rfl⟩, trivial⟩
  have hinv := hinv.resolve_right fun ⟨l, f', tmps, as', bd', hi, _⟩ => by
    rw [hi] at hfv
    obtain ⟨b, hb⟩ := rv_yield hfv
    exact hny b hb
  obtain ⟨g', as, hi, hent⟩ := hinv
  refine ⟨_, _, _, d, _, g', as, _, henter, ?_, fun f' _ => hF.fn f', hi, hF.room n, (hent F c.rd (n - 1) hF).mono fun e w3 he => ?_⟩
  · simp only [resolve, rangeCall, Array.map_singleton, List.map_toArray, List.map_cons, List.map_nil]
    exact hd
  · obtain ⟨u, v, H3, ρ3, rfl, k1, k2, k3, k4⟩ := he
    show rangePost F n P _ Q _ (.returned u) w3
    unfold rangeEnd at k1
    dsimp only at k1
    split at k1
    case h_2 => cases k1
    rename_i st pend fn' T' N' ps' as' bd' D' hL
    have hρL := k3.ext (H.new (.dfr false)).next (by simp)
    rw [upd_self] at hρL
    obtain ⟨fn2, tmps2, pa2, Db2, Do2, Dl2, e1, e2, e3, e4, e5⟩ := k2.rel.ok _ _ _ hL hρL
    have hgl := loop_inv (P := P) e1
    have hres : st ≠ .busy ∧ (match pend with
        | none => k .normal T (.mark H.next :: ds) (H3.set (H.new (.dfr false)).next (.loop .exhausted pend fn' T' N' ps' as' bd' D'))
        | some c' => S.code c c' T (.mark H.next :: ds) (H3.set (H.new (.dfr false)).next (.loop .exhausted pend fn' T' N' ps' as' bd' D')) k) = some () := by
      cases st with
      | busy => cases k1
      | ready => rw [Hp.setK_eq] at k1; refine ⟨by simp, ?_⟩; cases pend <;> exact k1
      | done => rw [Hp.setK_eq] at k1; refine ⟨by simp, ?_⟩; cases pend <;> exact k1
      | exhausted => rw [Hp.setK_eq] at k1; refine ⟨by simp, ?_⟩; cases pend <;> exact k1
    obtain ⟨hnb, hk1⟩ := hres
    let o2 : Obj := .loop { state := .exhausted, pending := pend, fn := fn2, tmps := tmps2, params := pa2, assign := as', body := bd', defers := Db2 }
    have hset := run_setObj (P := P) (w := w3) (o := o2) e1 (by simp)
    have hrel := k2.rel.setMap (y := .loop .exhausted pend fn' T' N' ps' as' bd' D') hL hρL rfl o2 fun w' hw' => ⟨fn2, tmps2, pa2, Db2, Do2, Dl2, hw', e2, e3, e4, e5⟩
    have t3 : To ρ3 H3 ρ3 (H3.set (H.new (.dfr false)).next (.loop .exhausted pend fn' T' N' ps' as' bd' D')) := ⟨Nat.le_refl _, Ext.refl _ _⟩
    have s3 := k2.to hrel t3
    have t03 := (t02.trans k3).trans t3
    have hρD : ρ3 H.next = some (.at w.heap.size 0 0) := by
      rw [k3.ext H.next (by simp; omega)]
      exact s1.rel.sub (upd_ext _ _ _) _ _ (upd_self _ _ _)
    have hfr3 : FrOk ρ3 c T (.mark H.next :: ds) { act with defers := [{ target := .collected w.heap.size, args := #[] }] ++ act.defers } :=
      (hfr.mono (hst.sub t03)).putD ⟨⟨w.heap.size, 0, 0, hρD, rfl⟩, (hfr.mono (hst.sub t03)).ds⟩
    refine ⟨pend, { w3 with heap := w3.heap.setIfInBounds (w.alloc (.deferred (some []))).heap.size o2 }, ?_, ?_⟩
    · unfold Instr.endLoop
      rw [Sem.run_bind, hgl]
      simp only [Result.andThen_ok]
      have hb : (st == LoopState.busy) = false := by cases st <;> first | rfl | exact absurd rfl hnb
      simp only [hb]
      simp only [Bool.false_eq_true, if_false]
      rw [Sem.run_bind]
      rw [hset]
      rfl
    · cases pend with
      | none => exact hK .normal T _ _ ρ3 _ _ hk1 s3 t03 hfr3
      | some c' => exact hS.code c' c T _ _ k hk1 F n w0 B ρ3 _ _ Q hF s3 hfr3 (hK.trans t03)
end
end Go.Ev

namespace Go.Ev
open Go.RowKit (Below)
/-- what is asked of the functions -/
structure EnvOk2 (P : Program) (E : Env) : Prop where
  fn : ∀ f fn, E.fn f = some fn → P.funcs[f]? = some fn ∧ fn.name ≠ "runtime.NumGoroutine"
  intr : ∀ f g, E.intr f = some g → ∀ args H v H', g args H = some (v, H') → ∀ (w0 : World) (B : Nat) (ρ : Rho) (as : Array Value) (w : World), St E w0 B ρ H w → All2 (RV ρ) args as.toList →
    (callFunc f as).run P w = .ok (.enter f as) w ∧ ∀ k : KV Unit, k v H' = some () → EnterOk P E w0 B ρ H k f as w
  dfr : ∀ f, E.dfr f = true → ∀ (args : Array Value) (F : Fence) (rd : Bool) (n : Nat) (w : World), FenceOk F rd → (callFunc f args).run P w = .ok (.enter f args) w ∧ CallsDIn F n P f args .returning w fun e u' w' => (∃ v, e = .returned v) ∧ u' = .returning ∧ Below w.heap.size w w'
section
variable {P : Program} {E : Env}
theorem argTree_some : ∀ {vs : List AV} {i : Nat} {T : Tr AV} {k : Tr AV → Option Unit}, argTree vs i T k = some () → ∃ T', k T' = some () ∧ ∀ j, T'.get j = if i ≤ j ∧ j < i + vs.length then vs[j - i]? else T.get j
  | [], i, T, k, h => ⟨T, h, fun j => by rw [if_neg (by simp)]⟩
  | v :: vs, i, T, k, h => by
    simp only [argTree, Tr.setP_eq] at h
    obtain ⟨T', h1, h2⟩ := argTree_some h
    refine ⟨T', h1, fun j => ?_⟩
    rw [h2]
    by_cases hj : i + 1 ≤ j ∧ j < i + 1 + vs.length
    · rw [if_pos hj, if_pos (by simp; omega), show j - i = (j - (i + 1)) + 1 by omega]; simp
    · rw [if_neg hj, Tr.get_set]
      by_cases hij : j = i
      · subst hij; rw [if_pos rfl, if_pos (by simp)]; simp
      · rw [if_neg hij, if_neg (by simp; omega)]
theorem rt_enter {ρ : Rho} {vs : List AV} {as : Array Value} {T : Tr AV} (ha : All2 (RV ρ) vs as.toList) (hT : ∀ j, T.get j = if 0 ≤ j ∧ j < 0 + vs.length then vs[j - 0]? else none) (N : Nat) : RT ρ T (as ++ Array.replicate N undef) := by
  intro i
  rw [hT]
  have hl : vs.length = as.size := by have := ha.length; simpa using this
  by_cases hi : i < vs.length
  · rw [if_pos (by omega)]
    obtain ⟨y, h1, h2⟩ := ha.get (i := i) (x := vs[i]) (by simp [hi])
    rw [Nat.sub_zero, List.getElem?_eq_getElem hi, Option.getD_some]
    rw [Array.getD_eq_getD_getElem?, Array.getElem?_append_left (by omega)]
    rw [Array.getElem?_toList] at h1
    rw [h1]
    exact h2
  · rw [if_neg (by omega), Option.getD_none]
    rw [Array.getD_eq_getD_getElem?, Array.getElem?_append_right (by omega), Array.getElem?_replicate]
    split
    · exact RV.und ρ
    · exact RV.und ρ

/-! Results. -/
theorem load_cell (hE : EnvOk P E) {t : Nat} {a : Tmp} {T : Tr AV} {H : Hp} {k : AV → Hp → Option Unit} (h : (cOp E (.load t (.tmp a))).f T H k = some ()) :
    ∃ v, k v H = some () ∧ ∀ {w0 : World} {B : Nat} {ρ : Rho} {w : World} {x : Value}, Rel w0 B ρ H w → RV ρ ((T.get a).getD .und) x → ∃ u, (do loadVar t (← asAddr x) : Sem Value).run P w = .ok u w ∧ RV ρ v u := by
  simp only [cOp, tyB] at h
  split at h
  case h_2 => cases h
  rename_i i hi
  rw [forceB_eq, forceN_eq] at h
  obtain ⟨p, h1, h2⟩ := cOpd_some (show (cOpd E (.tmp a)).f T (fun p => ptrK p fun b o => rowK H b fun cs _ _ => partK i.agg i.size cs o fun v => k v H) = some () from h)
  obtain ⟨b, o, rfl, h3⟩ := ptrK_some h2
  obtain ⟨cs, wr, opn, h4, h5⟩ := rowK_some h3
  obtain ⟨v, h6, h7⟩ := partK_some h5
  refine ⟨v, h7, fun {w0 B ρ w x} hr hx => ?_⟩
  simp only [avalF, Option.some.injEq] at h1
  rw [h1] at hx
  obtain ⟨B', O, L, h8, rfl⟩ := hx
  obtain ⟨u, h10, h11⟩ := (show RowAt ρ w cs _ B' O L from hr.ok b _ _ h4 h8).loadVar (P := P) (hE.ty t i hi) h6
  refine ⟨u, ?_, h11⟩
  have ha : (asAddr (.pointer (some ⟨B', O + o, none⟩))).run P w = .ok ⟨B', O + o, none⟩ w := rfl
  rw [Sem.run_bind, ha]
  exact h10
theorem cRes_some (hE : EnvOk P E) {tmps : Array Value} (f : ResultVar → Sem Value) (hf1 : ∀ t, f (.tmp t) = pure (tmps.getD t undef)) (hf2 : ∀ a t, f (.cell a t) = (do loadVar t (← asAddr (tmps.getD a undef)))) : ∀ {rs : List ResultVar} {T : Tr AV} {H : Hp} {k : List AV → Option Unit}, (cRes E rs).f T H k = some () →
    ∃ vs, k vs = some () ∧ ∀ {w0 : World} {B : Nat} {ρ : Rho} {w : World}, Rel w0 B ρ H w → RT ρ T tmps →
      ∃ us : List Value, (rs.mapM f).run P w = .ok us w ∧ All2 (RV ρ) vs us
  | [], T, H, k, h => ⟨[], h, fun _ _ => ⟨[], by simp, trivial⟩⟩
  | .tmp t :: rs, T, H, k, h => by
    obtain ⟨v, h1, h2⟩ := cOpd_some (show (cOpd E (.tmp t)).f T (fun v => (cRes E rs).f T H fun vs => k (v :: vs)) = some () from h)
    obtain ⟨vs, h3, h4⟩ := cRes_some hE f hf1 hf2 h2
    refine ⟨v :: vs, h3, fun {w0 B ρ w} hr ht => ?_⟩
    obtain ⟨us, h5, h6⟩ := h4 hr ht
    cases h1
    refine ⟨tmps.getD t undef :: us, ?_, ht t, h6⟩
    rw [List.mapM_cons, Sem.run_bind, hf1, Sem.run_pure]
    simp only [Result.andThen_ok]
    rw [Sem.run_bind, h5]
    rfl
  | .cell a t :: rs, T, H, k, h => by
    obtain ⟨v, h1, h2⟩ := load_cell hE (show (cOp E (.load t (.tmp a))).f T H (fun v _ => (cRes E rs).f T H fun vs => k (v :: vs)) = some () from h)
    obtain ⟨vs, h3, h4⟩ := cRes_some hE f hf1 hf2 h1
    refine ⟨v :: vs, h3, fun {w0 B ρ w} hr ht => ?_⟩
    obtain ⟨us, h5, h6⟩ := h4 hr ht
    obtain ⟨u, h7, h8⟩ := h2 hr (ht a)
    refine ⟨u :: us, ?_, h8, h6⟩
    rw [List.mapM_cons, Sem.run_bind, hf2, h7]
    simp only [Result.andThen_ok]
    rw [Sem.run_bind, h5]
    rfl
theorem ptsK_some : ∀ {vs : List AV} {k : List (Bool × List CV) → Option Unit}, ptsK vs k = some () → ∃ ps, k ps = some () ∧ ∀ {ρ : Rho} {us : List Value}, All2 (RV ρ) vs us → All2 (RP ρ) ps us
  | [], k, h => ⟨[], h, fun ha => by rw [ha.nil_left]; trivial⟩
  | v :: vs, k, h => by
    obtain ⟨p, h1, h2⟩ := ptK_some (show ptK v (fun p => ptsK vs fun ps => k (p :: ps)) = some () from h)
    obtain ⟨ps, h3, h4⟩ := ptsK_some h1
    refine ⟨p :: ps, h3, fun ha => ?_⟩
    obtain ⟨y, ys, rfl, g1, g2⟩ := ha.cons_left
    exact ⟨h2 g1, h4 g2⟩
theorem resK_some {vs : List AV} {k : AV → Option Unit} (h : resK vs k = some ()) : ∃ v, k v = some () ∧ ∀ {ρ : Rho} {us : Array Value}, All2 (RV ρ) vs us.toList → RV ρ v (if h : us.size = 1 then us[0] else .tuple us) := by
  unfold resK at h
  split at h
  · rename_i v
    refine ⟨v, h, fun {ρ us} ha => ?_⟩
    obtain ⟨y, hy, g1⟩ := ha.one
    have : us = #[y] := by rw [← Array.toList_inj, hy]
    subst this
    exact g1
  · rename_i hn
    obtain ⟨ps, h1, h2⟩ := ptsK_some h
    refine ⟨_, h1, fun {ρ us} ha => ?_⟩
    have hl : us.size ≠ 1 := by
      have := ha.length
      simp only [Array.length_toList] at this
      intro e
      rw [e] at this
      match vs, this with
      | [v], _ => exact hn v rfl
    rw [dif_neg hl]
    exact ⟨us, rfl, h2 ha⟩
theorem Rel.more {w0 : World} {B : Nat} {ρ : Rho} {H : Hp} {w w' : World} (h : Rel w0 B ρ H w) (hb : Below w.heap.size w w') : Rel w0 B ρ H w' :=
  ⟨h.fresh, h.gone, fun b x p h1 h2 => (h.ok b x p h1 h2).world fun c hc => hb.block c (h.lt b p c h2 hc), h.inj, h.own, h.below.trans (hb.mono h.size), Nat.le_trans h.size hb.size, fun b p c h1 h2 => Nat.lt_of_lt_of_le (h.lt b p c h1 h2) hb.size⟩
/-- a function leaves -/
theorem leave_ok (hE : EnvOk P E) (hE2 : EnvOk2 P E) {F : Fence} {rd : Bool} {n : Nat} (hF : FenceOk F rd) {fn : Func} {tmps : Array Value} {w0 : World} {B : Nat} {R : Ending → World → Prop} {T : Tr AV} {k : KV Unit} :
    ∀ {ds : List ADef} {defers : List Deferred} {H : Hp} {ρ : Rho} {w : World}, leaveK E (cRes E fn.results.toList) T ds H k = some () → St E w0 B ρ H w → RT ρ T tmps → All2 (DRel ρ) ds defers →
      (∀ u v H' w', k v H' = some () → St E w0 B ρ H' w' → To ρ H ρ H' → RV ρ v u → R (.returned u) w') → LeavesInM F n P fn tmps R defers .returning w
  | [], defers, H, ρ, w, h, hst, hT, hd, hR => by
    rw [hd.nil_left]
    obtain ⟨vs, h1, h2⟩ := cRes_some hE (tmps := tmps) (fun | .tmp t => pure (tmps.getD t undef) | .cell a t => do loadVar t (← asAddr (tmps.getD a undef))) (fun _ => rfl) (fun _ _ => rfl) (show (cRes E fn.results.toList).f T H (fun vs => resK vs fun v => k v H) = some () from h)
    obtain ⟨v, h3, h4⟩ := resK_some h1
    obtain ⟨us, h5, h6⟩ := h2 hst.rel hT
    refine ⟨_, ?_, hR _ v H w h3 hst (To.refl _ _) (h4 (us := us.toArray) (by simpa using h6))⟩
    have h5' : ∀ f : ResultVar → Sem Value, f = (fun | .tmp t => pure (tmps.getD t undef) | .cell a t => do loadVar t (← asAddr (tmps.getD a undef))) → (fn.results.mapM f).run P w = .ok us.toArray w := by
      rintro f rfl
      rw [Array.mapM_eq_mapM_toList, map_eq_pure_bind, Sem.run_bind, h5]
      rfl
    unfold results
    rw [Sem.run_bind, h5' _ (funext fun r => by cases r <;> rfl)]
    rfl
  | .mark b :: ds, defers, H, ρ, w, h, hst, hT, hd, hR => by
    obtain ⟨d, ds', rfl, h1, h2⟩ := hd.cons_left
    obtain ⟨Bb, O, L, h3, h4⟩ := h1
    simp only [leaveK] at h
    split at h
    · rename_i hb
      rw [Hp.setK_eq] at h
      have h5 : w.heap[Bb]? = some (.deferred (some [])) := hst.rel.ok b _ _ hb h3
      have hset := run_setObj (P := P) (w := w) (o := .deferred none) h5 (by simp)
      have hrel := hst.rel.setMap (y := .dfr true) hb h3 rfl (.deferred none) fun w' hw' => hw'
      have t1 : To ρ H ρ (H.set b (.dfr true)) := ⟨Nat.le_refl _, Ext.refl _ _⟩
      have s1 := hst.to hrel t1
      refine ⟨by simp, .inl ⟨Bb, _, h4, ?_, leave_ok hE hE2 hF h s1 hT h2 fun u v H' w' g1 g2 g3 g4 => hR u v H' w' g1 g2 (t1.trans g3) g4⟩⟩
      unfold Instr.takeDeferred
      rw [Sem.run_bind, run_getObj' h5 (by simp)]
      simp only [Result.andThen_ok]
      rw [Sem.run_bind, hset]
      rfl
    · cases h
  | .call f a :: ds, defers, H, ρ, w, h, hst, hT, hd, hR => by
    obtain ⟨d, ds', rfl, h1, h2⟩ := hd.cons_left
    obtain ⟨cap, h3⟩ := h1
    simp only [leaveK] at h
    obtain ⟨h4, h5⟩ := cond_some h
    have hcf := hE2.dfr f h4 (d.args ++ cap) F rd
    refine ⟨by simp, .inr ⟨hF.room n, .func f, cap, f, d.args ++ cap, h3, ?_, fun g _ => hF.fn g, ((hcf (n - 1) w hF).2).mono fun e u' w' he => ?_⟩⟩
    · rw [h3]
      exact (hcf (n - 1) w hF).1
    · obtain ⟨⟨v, rfl⟩, rfl, hb⟩ := he
      show LeavesInM F n P fn tmps R ds' (settle .returning) w'
      exact leave_ok hE hE2 hF h5 ⟨hst.rel.more hb, hst.glob, hst.le⟩ hT h2 hR
theorem callsIn_round {F : Fence} {n : Nat} {g : FuncId} {as : Array Value} {w : World} {R : Ending → World → Prop} (h : CallsIn { F with round := none } n P g as w R) : CallsIn F n P g as w R := h
/-- a function of the program -/
theorem fun_ok (hE : EnvOk P E) (hE2 : EnvOk2 P E) {S : SemR Unit} (hS : ∀ x, CodeOk P E ((cCode E x).f S) x) {g : Nat} {args : List AV} {H : Hp} {k : KV Unit} (h : (cFun E g).f S args H k = some ())
    {w0 : World} {B : Nat} {ρ : Rho} {as : Array Value} {w : World} (hst : St E w0 B ρ H w) (ha : All2 (RV ρ) args as.toList) : (callFunc g as).run P w = .ok (.enter g as) w ∧ EnterOk P E w0 B ρ H k g as w := by
  unfold cFun at h
  split at h
  · rename_i gi hgi
    simp only [funIntr] at h
    split at h
    · rename_i v H' hv
      obtain ⟨g1, g2⟩ := hE2.intr g gi hgi args H v H' hv w0 B ρ as w hst ha
      exact ⟨g1, g2 k h⟩
    · cases h
  · split at h
    case h_2 => cases h
    rename_i fn hfn
    obtain ⟨hP, hname⟩ := hE2.fn g fn hfn
    split at h
    case h_2 => cases h
    rename_i body hbody
    rw [forceN_eq] at h
    simp only [funRun, lenK_eq] at h
    obtain ⟨h1, h2⟩ := cond_some h
    have h1 := Nat.le_of_ble_eq_true h1
    obtain ⟨T, h3, h4⟩ := argTree_some h2
    have hl : args.length = as.size := by have := ha.length; simpa using this
    refine ⟨?_, fun F rd n hF => ?_⟩
    · unfold callFunc
      rw [Sem.run_bind, run_program]
      simp only [Result.andThen_ok, hP]
      have : (fn.name == "runtime.NumGoroutine") = false := beq_eq_false_iff_ne.2 hname
      simp [this, hbody]
    · refine callsIn_round (F := F) ?_
      have hF' : FenceOk { F with round := none } false := ⟨hF.fn, hF.depth, fun _ => rfl, hF.alive⟩
      refine callsIn_of_wp_marks hP hbody (hF.fn g) ?_ rfl
      refine hS body ⟨g, fn.ntmps, false⟩ T [] H _ h3 _ n w0 B ρ _ w _ hF' hst ⟨by simp; omega, rt_enter ha (fun j => by rw [h4]; split <;> rfl) _, trivial⟩ fun e T' ds' H' ρ' a' w' g1 g2 g3 g4 => ?_
      have hlv : ∀ {h : leaveK E (cRes E fn.results.toList) T' ds' H' k = some ()}, LeavesInM { F with round := none } n P fn a'.tmps (CallPost E w0 B ρ H k) a'.defers .returning w' := fun {h} =>
        leave_ok hE hE2 hF' h g2 g4.tmps g4.ds fun u v H'' w'' k1 k2 k3 k4 => ⟨u, v, H'', ρ', rfl, k1, k2, g3.trans k3, k4⟩
      cases e with
      | normal => exact hlv (h := g1)
      | ret => exact hlv (h := g1)
      | exit id => cases g1
end
end Go.Ev

namespace Go.Ev
open Go.RowKit (Below)
section
variable {P : Program} {E : Env}
theorem setsT_some {N : Nat} : ∀ {ps : List Tmp} {vs : List AV} {T : Tr AV} {k : Tr AV → Option Unit}, setsT N ps vs T k = some () → ∃ T', k T' = some () ∧ ps.length = vs.length ∧
    ∀ {ρ : Rho} {tmps : Array Value} {us : List Value}, All2 (RV ρ) vs us → RT ρ T tmps → tmps.size = N → RT ρ T' ((ps.zip us).foldl (fun tmps p => tmps.setIfInBounds p.1 p.2) tmps) ∧ ((ps.zip us).foldl (fun tmps p => tmps.setIfInBounds p.1 p.2) tmps).size = N
  | [], [], T, k, h => ⟨T, h, rfl, fun ha ht hn => by rw [ha.nil_left]; exact ⟨ht, hn⟩⟩
  | t :: ts, v :: vs, T, k, h => by
    simp only [setsT] at h
    obtain ⟨h1, h2⟩ := cond_some h
    rw [nblt_iff, decide_eq_true_eq] at h1
    rw [Tr.setP_eq] at h2
    obtain ⟨T', h3, h4, h5⟩ := setsT_some h2
    refine ⟨T', h3, by simp [h4], fun {ρ tmps us} ha ht hn => ?_⟩
    obtain ⟨y, ys, rfl, g1, g2⟩ := ha.cons_left
    rw [List.zip_cons_cons, List.foldl_cons]
    exact h5 g2 (ht.put (by omega) g1) (by simp [hn])
  | [], _ :: _, _, _, h => by cases h
  | _ :: _, [], _, _, h => by cases h
theorem normK_some {e : AExit} {k : Option Unit} (h : normK e k = some ()) : e = .normal ∧ k = some () := by
  cases e with
  | normal => exact ⟨rfl, h⟩
  | exit id => cases h
  | ret => cases h
theorem endRound_run {w : World} {l : Nat} {r : Loop} (h : w.heap[l]? = some (.loop r)) (j : Option Code) : (Instr.endRound l j).run P w = .ok (.bool j.isNone) { w with heap := w.heap.setIfInBounds l (.loop { r with state := if j.isNone then .ready else .done, pending := j }) } := by
  unfold Instr.endRound
  rw [Sem.run_bind, loop_inv h]
  simp only [Result.andThen_ok]
  rw [Sem.run_bind, run_setObj h (by simp)]
  rfl
theorem roundEnd_ok {w0 : World} {B : Nat} {ρ0 : Rho} {H0 : Hp} {l : Nat} {Bl Ol Ll : Nat} {e : AExit} {H : Hp} {k : KV Unit} (h : roundEnd l e H k = some ()) {ρ : Rho} {w : World} {a : Act} (hst : St E w0 B ρ H w) (ht : To ρ0 H0 ρ H) (hl : ρ l = some (.at Bl Ol Ll)) :
    roundPost P Bl (CallPost E w0 B ρ0 H0 k) (exitOf e) a w := by
  unfold roundEnd at h
  split at h
  case h_2 => cases h
  rename_i st pd fn3 T3 N3 ps3 as3 bd3 D3 hL
  obtain ⟨fn2, tmps2, pa2, Db2, Do2, Dl2, e1, e2, e3, e4, e5⟩ := hst.rel.ok _ _ _ hL hl
  have fin : ∀ (j : Option Code) (y : LoopState), (if j.isNone then LoopState.ready else .done) = y → k (.b j.isNone) (H.set l (.loop y j fn3 T3 N3 ps3 as3 bd3 D3)) = some () →
      ∃ v w', (Instr.endRound Bl j).run P w = .ok v w' ∧ CallPost E w0 B ρ0 H0 k (.returned v) w' := by
    intro j y hy hk
    have hrel := hst.rel.setMap (y := .loop y j fn3 T3 N3 ps3 as3 bd3 D3) hL hl rfl (.loop { state := y, pending := j, fn := fn2, tmps := tmps2, params := pa2, assign := as3, body := bd3, defers := Db2 }) fun w' hw' => ⟨fn2, tmps2, pa2, Db2, Do2, Dl2, hw', e2, e3, e4, e5⟩
    have t1 : To ρ H ρ (H.set l (.loop y j fn3 T3 N3 ps3 as3 bd3 D3)) := ⟨Nat.le_refl _, Ext.refl _ _⟩
    refine ⟨.bool j.isNone, _, ?_, .bool j.isNone, _, _, ρ, rfl, hk, hst.to hrel t1, ht.trans t1, rfl⟩
    rw [endRound_run e1, hy]
  cases e with
  | normal =>
    rw [Hp.setK_eq] at h
    exact fin none .ready rfl h
  | exit id =>
    simp only [] at h
    rw [Hp.setK_eq] at h
    exact fin (some (.exit id)) .done rfl h
  | ret =>
    simp only [] at h
    rw [Hp.setK_eq] at h
    exact fin (some .ret) .done rfl h
theorem yield_ok {S : SemR Unit} (hS : SemOk P E S) {l : Nat} {args : List AV} {H : Hp} {k : KV Unit} (h : callYield S l args H k = some ()) {w0 : World} {B : Nat} {ρ : Rho} {as : Array Value} {w : World} (hst : St E w0 B ρ H w) (ha : All2 (RV ρ) args as.toList)
    {Bl Ol Ll : Nat} (hl : ρ l = some (.at Bl Ol Ll)) : InvOk P E w0 B ρ H k (.func (.yield Bl) #[] #[]) as w := by
  unfold callYield at h
  split at h
  case h_2 => cases h
  rename_i pd fn T N ps assign body D hL
  obtain ⟨fn2, tmps2, pa2, Db2, Do2, Dl2, e1, rfl, e3, e4, e5⟩ := hst.rel.ok _ _ _ hL hl
  obtain ⟨T', h1, h2, h3⟩ := setsT_some h
  obtain ⟨g1, g2⟩ := h3 ha e4 e3
  have hlen : as.size = pa2.size := by
    have h4 := ha.length
    simp only [Array.length_toList] at h2 h4
    omega
  have hfold : (pa2.zip as).foldl (fun tmps (t, a) => tmps.setIfInBounds t a) tmps2 = (pa2.toList.zip as.toList).foldl (fun tmps p => tmps.setIfInBounds p.1 p.2) tmps2 := by
    rw [← Array.foldl_toList, Array.toList_zip]
  refine ⟨{ target := .fn (.yield Bl) #[], args := #[] ++ as }, rfl, .inr ⟨Bl, fn2, (pa2.zip as).foldl (fun tmps (t, a) => tmps.setIfInBounds t a) tmps2, assign, body, rfl, ?_, fun F rd n hF => ?_⟩⟩
  · show (Instr.yield Bl (#[] ++ as)).run P w = _
    unfold Instr.yield
    rw [Sem.run_bind, loop_inv e1]
    simp only [Result.andThen_ok, Array.empty_append]
    rw [if_neg (by simp [hlen])]
    rfl
  · rw [hfold]
    refine roundIn_of_wpIn (hF.fn fn2) ?_
    have hF' := hF.inRound Bl
    refine hS.code assign ⟨fn, N, true⟩ T' [] H _ h1 _ n w0 B ρ _ w _ hF' hst ⟨g2, g1, trivial⟩ fun e T1 ds1 H1 ρ1 a1 w1 k1 k2 k3 k4 => ?_
    have k1 : normK e (roundBody S l fn N body T1 ds1 H1 k) = some () := k1
    obtain ⟨rfl, k1⟩ := normK_some k1
    unfold roundBody at k1
    split at k1
    case h_2 => cases k1
    rename_i pd' fn1 T2 N2 ps2 as2 bd2 D2 hL1
    rw [Hp.setK_eq] at k1
    have hl1 : ρ1 l = some (.at Bl Ol Ll) := hst.sub k3 _ _ hl
    obtain ⟨fn3, tmps3, pa3, Db3, Do3, Dl3, f1, f2, f3, f4, f5⟩ := k2.rel.ok _ _ _ hL1 hl1
    have hrel := k2.rel.setMap (y := .loop .busy pd' fn1 T2 N2 ps2 as2 bd2 D2) hL1 hl1 rfl (.loop { state := .busy, pending := pd', fn := fn3, tmps := tmps3, params := pa3, assign := as2, body := bd2, defers := Db3 }) fun w' hw' => ⟨fn3, tmps3, pa3, Db3, Do3, Dl3, hw', f2, f3, f4, f5⟩
    have t2 : To ρ1 H1 ρ1 (H1.set l (.loop .busy pd' fn1 T2 N2 ps2 as2 bd2 D2)) := ⟨Nat.le_refl _, Ext.refl _ _⟩
    have s2 := k2.to hrel t2
    refine ⟨_, ?_, hS.code body ⟨fn, N, true⟩ T1 ds1 _ _ k1 _ n w0 B ρ1 a1 _ _ hF' s2 ⟨k4.size, k4.tmps, k4.ds⟩ fun e T4 ds4 H4 ρ4 a4 w4 q1 q2 q3 q4 => ?_⟩
    · unfold Instr.beginRound
      rw [Sem.run_bind, loop_inv f1]
      simp only [Result.andThen_ok]
      rw [Sem.run_bind, run_setObj f1 (by simp)]
      rfl
    · have hl4 : ρ4 l = some (.at Bl Ol Ll) := s2.sub q3 _ _ hl1
      exact roundEnd_ok q1 q2 ((k3.trans t2).trans q3) hl4
/-- calls -/
theorem call_ok (hE : EnvOk P E) (hE2 : EnvOk2 P E) {S : SemR Unit} (hS : SemOk P E S) (hC : ∀ x, CodeOk P E ((cCode E x).f S) x) : CallOk P E ⟨codeF E S, callF E S⟩ := by
  intro f args H k h w0 B ρ fv as w hst hf ha
  replace h : callF E S f args H k = some () := h
  unfold callF at h
  obtain ⟨o, rfl, h1⟩ := othK_some h
  split at h1
  · rename_i g
    have hfv : fv = .func (.func g) #[] #[] := hf
    obtain ⟨g1, g2⟩ := fun_ok hE hE2 hC h1 hst ha
    refine ⟨{ target := .fn (.func g) #[], args := #[] ++ as }, by rw [hfv]; rfl, .inl ⟨g, as, ?_, g2⟩⟩
    show (callFunc g ((#[] ++ as) ++ #[])).run P w = _
    rw [Array.empty_append, Array.append_empty]
    exact g1
  · rename_i b
    unfold callClo cloK at h1
    split at h1
    · rename_i g fs cs hb
      dsimp only at h1
      rw [appK_eq, appK_eq] at h1
      obtain ⟨f', a', c', e1, hfv⟩ := hf
      obtain ⟨rfl, e3, e4⟩ := hst.rel.ok b _ _ hb e1
      obtain ⟨g1, g2⟩ := fun_ok (as := a' ++ as ++ c') hE hE2 hC h1 hst (by
        rw [Array.toList_append, Array.toList_append]
        exact (e3.append ha).append e4)
      exact ⟨{ target := .fn (.func g) c', args := a' ++ as }, by rw [hfv]; rfl, .inl ⟨g, _, g1, g2⟩⟩
    · cases h1
  · rename_i l
    obtain ⟨Bl, Ol, Ll, hl, rfl⟩ := hf
    exact yield_ok hS h1 hst ha hl
  · cases h1
theorem code_all (hE : EnvOk P E) {N : Nat} (hS : ∀ m, m ≤ N → SemOk P E (sem E Unit m)) (hD : ∀ m, m ≤ N → DrawOk P E (sem E Unit m)) (x : Code) : ∀ m, m ≤ N → CodeOk P E ((cCode E x).f (sem E Unit m)) x := by
  induction x with
  | skip =>
    intro m _ c T ds H k h F n w0 B ρ a w Q hF hst hfr hK
    exact wpIn_skip (hK .normal T ds H ρ a w h hst (To.refl _ _) hfr)
  | region id ops draw =>
    intro m hm
    cases draw with
    | false => exact region_code hE (hS m hm).call id ops
    | true => exact hD m hm id ops
  | seq x y ihx ihy => exact fun m hm => seq_code (ihx m hm) (ihy m hm)
  | cond o x y ihx ihy => exact fun m hm => cond_code (ihx m hm) (ihy m hm)
  | block id x ih => exact fun m hm => block_code (ih m hm)
  | loop x ih => exact loop_code ih
  | rangeFunc g ps as bd _ _ => exact fun m hm => range_code hE (hS m hm) g ps as bd
  | exit id =>
    intro m _ c T ds H k h F n w0 B ρ a w Q hF hst hfr hK
    exact wpIn_exit (hK (.exit id) T ds H ρ a w h hst (To.refl _ _) hfr)
  | ret =>
    intro m _ c T ds H k h F n w0 B ρ a w Q hF hst hfr hK
    exact wpIn_ret (hK .ret T ds H ρ a w h hst (To.refl _ _) hfr)
  | _ => exact fun m _ => bad_code (S := sem E Unit m)
theorem sem_ok (hE : EnvOk P E) (hE2 : EnvOk2 P E) (hD : ∀ S, CallOk P E S → DrawOk P E S) : ∀ n m, m ≤ n → SemOk P E (sem E Unit m) := by
  intro n
  induction n with
  | zero =>
    intro m hm
    have : m = 0 := by omega
    subst this
    refine ⟨?_, ?_⟩
    · intro x c T ds H k h; cases h
    · intro f args H k h; cases h
  | succ n ih =>
    intro m hm
    rcases Nat.lt_or_ge m (n + 1) with h1 | h1
    · exact ih m (by omega)
    · have : m = n + 1 := by omega
      subst this
      have hc := code_all hE ih (fun m hm => hD _ (ih m hm).call)
      exact ⟨fun x => hc x n (Nat.le_refl _), call_ok hE hE2 (ih n (Nat.le_refl _)) fun x => hc x n (Nat.le_refl _)⟩
end
end Go.Ev

namespace Go.Ev
open Go.RowKit (Below)
/-! The plan's facts. -/
/-- operation j comes before operation i, whatever the order -/
inductive Before (ops : Array Oper) : Nat → Nat → Prop
  | one {i : Nat} {o : Oper} {e : Edge} (h : ops[i]? = some o) (he : e ∈ o.after) (hb : Region.binds .any e = true) : Before ops i e.on
  | more {i j : Nat} {o : Oper} {e : Edge} (h : ops[i]? = some o) (he : e ∈ o.after) (hb : Region.binds .any e = true) (hj : Before ops e.on j) : Before ops i j
theorem Before.trans {ops : Array Oper} {i j k : Nat} (h : Before ops i j) (g : Before ops j k) : Before ops i k := by
  induction h with
  | one h he hb => exact .more h he hb g
  | more h he hb _ ih => exact .more h he hb (ih g)
def Lst (listed : Array Bool) (i : Nat) : Prop := listed.getD i false = true
def Closed (ops : Array Oper) (listed : Array Bool) : Prop := ∀ i o, ops[i]? = some o → Lst listed i → ∀ e ∈ o.after, Region.binds .any e = true → Lst listed e.on
theorem Closed.before {ops : Array Oper} {listed : Array Bool} (hc : Closed ops listed) {i j : Nat} (h : Before ops i j) (hi : Lst listed i) : Lst listed j := by
  induction h with
  | one h he hb => exact hc _ _ h hi _ he hb
  | more h he hb _ ih => exact ih (hc _ _ h hi _ he hb)
theorem ready_before {ops : Array Oper} {listed : Array Bool} (hc : Closed ops listed) {i j : Nat} (h : Before ops i j) (hr : i ∈ Region.ready .any ops listed) : Lst listed j := by
  obtain ⟨_, o, ho, hall⟩ := mem_ready.1 hr
  cases h with
  | one h he hb => rw [ho] at h; cases h; exact hall _ he hb
  | more h he hb hj => rw [ho] at h; cases h; exact hc.before hj (hall _ he hb)

theorem befStep_bit (acc : List Nat) (o : Oper) (j : Nat) (h : (befStep acc o).testBit j = true) : ∃ e ∈ o.after, Region.binds .any e = true ∧ (e.on = j ∨ (acc.getD e.on 0).testBit j = true) := by
  unfold befStep at h
  have key : ∀ (l : List Edge) (s : Nat), (l.foldl (fun s e => bif Region.binds .any e then Nat.lor (Nat.lor s (Nat.pow 2 e.on)) (acc.getD e.on 0) else s) s).testBit j = true →
      s.testBit j = true ∨ ∃ e ∈ l, Region.binds .any e = true ∧ (e.on = j ∨ (acc.getD e.on 0).testBit j = true) := by
    intro l
    induction l with
    | nil => intro s h; exact .inl h
    | cons e l ih =>
      intro s h
      rw [List.foldl_cons] at h
      rcases ih _ h with h1 | ⟨e', h1, h2, h3⟩
      · cases hb : Region.binds .any e with
        | false => rw [hb] at h1; exact .inl h1
        | true =>
          rw [hb] at h1
          have h1 : ((s ||| 2 ^ e.on) ||| acc.getD e.on 0).testBit j = true := h1
          rw [Nat.testBit_or, Nat.testBit_or, Nat.testBit_two_pow, Bool.or_eq_true, Bool.or_eq_true, decide_eq_true_eq] at h1
          rcases h1 with (h1 | h1) | h1
          · exact .inl h1
          · exact .inr ⟨e, by simp, hb, .inl h1⟩
          · exact .inr ⟨e, by simp, hb, .inr h1⟩
      · exact .inr ⟨e', by simp [h1], h2, h3⟩
  rcases key _ _ h with h1 | ⟨e, h1, h2⟩
  · simp at h1
  · exact ⟨e, by simpa using h1, h2⟩
theorem befs_ok (ops : Array Oper) : ∀ (rest : List Oper) (acc : List Nat), ops.toList.drop acc.length = rest → (∀ i j, (acc.getD i 0).testBit j = true → Before ops i j) → ∀ i j, ((befs acc rest).getD i 0).testBit j = true → Before ops i j
  | [], acc, _, h, i, j, hij => h i j hij
  | o :: rest, acc, hd, h, i, j, hij => by
    have ho : ops[acc.length]? = some o := by
      rw [← Array.getElem?_toList]
      have := congrArg (fun l => l[0]?) hd
      simpa using this
    refine befs_ok ops rest (acc ++ [befStep acc o]) (by rw [List.length_append]; simp only [List.length_cons, List.length_nil]; rw [← List.drop_drop, hd]; rfl) (fun i j hij => ?_) i j hij
    rw [List.getD_eq_getElem?_getD, List.getElem?_append] at hij
    split at hij
    · exact h i j (by rw [List.getD_eq_getElem?_getD]; exact hij)
    · rename_i hge
      by_cases he : i - acc.length = 0
      · rw [he] at hij
        obtain ⟨e, h1, h2, h3⟩ := befStep_bit acc o j (by simpa using hij)
        have : i = acc.length := by omega
        subst this
        rcases h3 with h3 | h3
        · subst h3; exact .one ho h1 h2
        · exact .more ho h1 h2 (h _ _ h3)
      · have : [befStep acc o][i - acc.length]? = none := by simp; omega
        rw [this] at hij
        simp at hij
theorem bef_ok {ops : Array Oper} {i j : Nat} (h : bef (befs [] ops.toList) i j = true) : Before ops i j :=
  befs_ok ops ops.toList [] (by simp) (fun i j h => by simp at h) i j h

/-- who writes a temporary -/
def Wr (ops : Array Oper) (t j : Nat) : Prop := ∃ o, ops[j]? = some o ∧ o.dst = some t
theorem wrOf_some {t : Nat} : ∀ {l : List Oper} {i j : Nat}, wrOf t i l = some j → i ≤ j ∧ ∃ o, l[j - i]? = some o ∧ o.dst = some t
  | [], _, _, h => by cases h
  | o :: l, i, j, h => by
    simp only [wrOf] at h
    have rest : wrOf t (Nat.succ i) l = some j → i ≤ j ∧ ∃ o', (o :: l)[j - i]? = some o' ∧ o'.dst = some t := fun h => by
      obtain ⟨h1, o', h2, h3⟩ := wrOf_some h
      exact ⟨by omega, o', by rw [show j - i = (j - (i + 1)) + 1 by omega]; simpa using h2, h3⟩
    split at h
    · rename_i d hd
      cases hb : Nat.beq d t with
      | true =>
        rw [hb] at h
        cases h
        exact ⟨Nat.le_refl _, o, by simp, by rw [hd, Nat.eq_of_beq_eq_true hb]⟩
      | false => rw [hb] at h; exact rest h
    · exact rest h
theorem wrOf_none {t : Nat} : ∀ {l : List Oper} {i : Nat}, wrOf t i l = none → ∀ o ∈ l, o.dst ≠ some t
  | [], _, _, _, h => by cases h
  | o :: l, i, h, o', ho' => by
    simp only [wrOf] at h
    split at h
    · rename_i d hd
      cases hb : Nat.beq d t with
      | true => rw [hb] at h; cases h
      | false =>
        rw [hb] at h
        rcases List.mem_cons.1 ho' with rfl | ho'
        · rw [hd]; intro e; cases e; simp at hb
        · exact wrOf_none h o' ho'
    · rename_i hd
      rcases List.mem_cons.1 ho' with rfl | ho'
      · rw [hd]; simp
      · exact wrOf_none h o' ho'
theorem inL_iff (n : Nat) : ∀ l : List Nat, inL n l = true ↔ n ∈ l
  | [] => by simp [inL]
  | m :: l => by
    simp only [inL, List.mem_cons]
    rw [nbeq_eq]
    by_cases h : m = n
    · subst h; simp
    · rw [decide_eq_false h]; simp only [cond_false, inL_iff n l]
      constructor
      · exact .inr
      · rintro (e | e)
        · exact absurd e.symm h
        · exact e
theorem uniq_ok : ∀ {l : List Oper} {seen : List Nat}, uniqOk seen l = true → (∀ o ∈ l, ∀ d : Tmp, o.dst = some d → d ∉ seen) ∧ ∀ (i j : Nat) (o o' : Oper) (d : Tmp), l[i]? = some o → l[j]? = some o' → o.dst = some d → o'.dst = some d → i = j
  | [], seen, _ => ⟨fun o h => (by cases h), fun i j o o' d h => by simp at h⟩
  | x :: l, seen, h => by
    simp only [uniqOk] at h
    split at h
    · rename_i d hd
      rw [Bool.and_eq_true, Bool.not_eq_true'] at h
      have h1 : d ∉ seen := fun hm => (by rw [(inL_iff d seen).2 hm] at h; cases h.1)
      obtain ⟨h2, h3⟩ := uniq_ok h.2
      refine ⟨fun o ho d' hd' => ?_, fun i j o o' d' hi hj ho ho' => ?_⟩
      · rcases List.mem_cons.1 ho with rfl | ho
        · rw [hd] at hd'; cases hd'; exact h1
        · exact fun hm => h2 o ho d' hd' (by simp [hm])
      · cases i with
        | zero =>
          cases j with
          | zero => rfl
          | succ j =>
            simp at hi hj; subst hi
            rw [hd] at ho; cases ho
            exact absurd (by simp) (h2 o' (List.mem_of_getElem? hj) _ ho')
        | succ i =>
          cases j with
          | zero =>
            simp at hi hj; subst hj
            rw [hd] at ho'; cases ho'
            exact absurd (by simp) (h2 o (List.mem_of_getElem? hi) _ ho)
          | succ j => rw [h3 i j o o' d' (by simpa using hi) (by simpa using hj) ho ho']
    · rename_i hd
      obtain ⟨h2, h3⟩ := uniq_ok h
      refine ⟨fun o ho d' hd' => ?_, fun i j o o' d' hi hj ho ho' => ?_⟩
      · rcases List.mem_cons.1 ho with rfl | ho
        · rw [hd] at hd'; cases hd'
        · exact h2 o ho d' hd'
      · cases i with
        | zero => simp at hi; subst hi; rw [hd] at ho; cases ho
        | succ i =>
          cases j with
          | zero => simp at hj; subst hj; rw [hd] at ho'; cases ho'
          | succ j => rw [h3 i j o o' d' (by simpa using hi) (by simpa using hj) ho ho']
theorem back_ok : ∀ {l : List Oper} {i : Nat}, backOk i l = true → ∀ j o, l[j]? = some o → ∀ e ∈ o.after, Region.binds .any e = true → e.on < i + j
  | [], i, _, j, o, h, _, _, _ => by simp at h
  | x :: l, i, h, j, o, hj, e, he, hb => by
    simp only [backOk, Bool.and_eq_true] at h
    cases j with
    | zero =>
      simp at hj; subst hj
      have := List.all_eq_true.1 h.1 e (by simpa using he)
      rw [hb] at this
      simp only [cond_true, nblt_iff, decide_eq_true_eq] at this
      omega
    | succ j =>
      have := back_ok h.2 j o (by simpa using hj) e he hb
      omega
section
variable {ops : Array Oper} (hu : uniqOk [] ops.toList = true)
include hu
theorem wr_uniq {t i j : Nat} (hi : Wr ops t i) (hj : Wr ops t j) : i = j := by
  obtain ⟨o, h1, h2⟩ := hi
  obtain ⟨o', h3, h4⟩ := hj
  exact (uniq_ok hu).2 i j o o' t (by rw [Array.getElem?_toList]; exact h1) (by rw [Array.getElem?_toList]; exact h3) h2 h4
theorem wrOf_iff {t j : Nat} (hj : Wr ops t j) : wrOf t 0 ops.toList = some j := by
  cases h : wrOf t 0 ops.toList with
  | none =>
    obtain ⟨o, h1, h2⟩ := hj
    exact absurd h2 (wrOf_none h o (by rw [← Array.getElem?_toList] at h1; exact List.mem_of_getElem? h1))
  | some k =>
    obtain ⟨_, o, h1, h2⟩ := wrOf_some h
    rw [wr_uniq hu (i := k) ⟨o, by rw [← Array.getElem?_toList]; simpa using h1, h2⟩ hj]
theorem looks_ok {done : List Nat} {i : Nat} {o : Oper} (h : looksOk ops.toList (befs [] ops.toList) done i o = true) : ∀ t ∈ o.looksAt ops, ∀ j, Wr ops t j → (j ∈ done ∧ Before ops i j) ∨ (j ∉ done ∧ (Before ops j i ∨ j = i)) := by
  intro t ht j hj
  have := List.all_eq_true.1 h t (by simpa using ht)
  rw [wrOf_iff hu hj] at this
  simp only at this
  cases hd : inL j done with
  | true => rw [hd] at this; exact .inl ⟨(inL_iff j done).1 hd, bef_ok this⟩
  | false =>
    rw [hd] at this
    simp only [cond_false, Bool.or_eq_true] at this
    refine .inr ⟨fun hm => (by rw [(inL_iff j done).2 hm] at hd; cases hd), ?_⟩
    rcases this with this | this
    · exact .inl (bef_ok this)
    · exact .inr (Nat.eq_of_beq_eq_true this)
theorem strict_ok {i : Nat} {o : Oper} (h : strictOk ops.toList (befs [] ops.toList) i o = true) : ∀ t ∈ o.looksAt ops, ∀ j, Wr ops t j → Before ops i j := by
  intro t ht j hj
  have := List.all_eq_true.1 h t (by simpa using ht)
  rw [wrOf_iff hu hj] at this
  exact bef_ok this
end
end Go.Ev

namespace Go.Ev
open Go.RowKit (Below)
section
variable {P : Program} {E : Env}
def Opds (E : Env) (ρ : Rho) (T : Tr AV) (e : Operand → Value) (o : Oper) : Prop := ∀ x ∈ o.op.operands.toList, OpdOk E ρ T e x
def PureSem (P : Program) (E : Env) (o : Oper) (T : Tr AV) (v : AV) : Prop :=
  ∀ (ρ : Rho) (e : Operand → Value) (w : World), Opds E ρ T e o → ∃ u, (execOp e o).run P w = .ok (.value u) w ∧ RV ρ v u
def ReadSem (P : Program) (E : Env) (o : Oper) (T : Tr AV) (H : Hp) (v : AV) : Prop :=
  ∀ (w0 : World) (B : Nat) (ρ : Rho) (e : Operand → Value) (w : World), Rel w0 B ρ H w → Opds E ρ T e o → ∃ u, (execOp e o).run P w = .ok (.value u) w ∧ RV ρ v u
def AllocSem (P : Program) (E : Env) (o : Oper) (T : Tr AV) (blk : Blk) (mk : Mk) : Prop :=
  ∀ (w0 : World) (B : Nat) (ρ : Rho) (H : Hp) (b : Nat) (e : Operand → Value) (w : World), Rel w0 B ρ H w → H.get b = some blk → ρ b = none → Opds E ρ T e o →
    ∃ u w' p, (execOp e o).run P w = .ok (.value u) w' ∧ Rel w0 B (upd ρ b p) H w' ∧ RV (upd ρ b p) (mk.v b) u
theorem callB_sem {o : Oper} {c : Call} {b : Builtin} (ho : o.op = .call c) (hc : c.callee = .builtin b) {T : Tr AV} {args : List AV} (ha : avalsF E T c.args.toList = some args) {ρ : Rho} {e : Operand → Value} (hx : Opds E ρ T e o) :
    All2 (RV ρ) args (c.args.toList.map e) :=
  OpdOk.all (fun x hxm => hx x (by simp [ho, Op.operands, Call.operands, hc]; simpa using hxm)) ha
theorem kind_call {c : Call} {k : OpK} (h : opKind E (.call c) = k) (hl : k ≠ .loud) : ∃ b, c.callee = .builtin b ∧ ((k = .read ∧ b = .len) ∨ (k = .pure ∧ isPureB b = true)) := by
  unfold opKind at h
  split at h <;> try (cases h; done)
  all_goals first
    | (rename_i heq; cases heq; done)
    | (rename_i heq; injection heq with heq; subst heq; exact ⟨_, rfl, .inl ⟨h.symm, rfl⟩⟩)
    | (rename_i heq; injection heq with heq; subst heq; exact ⟨_, rfl, .inr ⟨h.symm, rfl⟩⟩)
    | exact absurd h.symm hl
theorem run_pureK (hE : EnvOk P E) {o : Oper} (hk : opKind E o.op = .pure) {S : SemR Unit} {T : Tr AV} {ds : List ADef} {H : Hp} {k : AV → List ADef → Hp → Option Unit} (h : (cRun E o.op).f S T ds H k = some ()) :
    ∃ v, k v ds H = some () ∧ PureSem P E o T v := by
  have plain : (cOp E o.op).f T H (fun v H => k v ds H) = some () → ∃ v, k v ds H = some () ∧ PureSem P E o T v := fun hr => by
    have h1 := cOp_ok hE o.op
    rw [hk] at h1
    obtain ⟨v, h2, h3⟩ := h1 T H _ () hr
    exact ⟨v, h2, fun ρ e w hx => h3 ρ e o w rfl hx⟩
  cases hop : o.op with
  | call c =>
    rw [hop] at hk h
    obtain ⟨b, hc, hb⟩ := kind_call hk (by simp)
    rcases hb with ⟨hb, _⟩ | ⟨_, hb⟩
    · cases hb
    · simp only [cRun, hc] at h
      obtain ⟨args, h3, h4⟩ := cOpds_some (show (cOpds E c.args.toList).f T (fun args => (cBop E b c.argTypes.toList).f args H fun v H => k v ds H) = some () from h)
      obtain ⟨v, h5, h6⟩ := cBop_pure hE hb c.argTypes args H _ () h4
      refine ⟨v, h5, fun ρ e w hx => ?_⟩
      obtain ⟨cs, hrun⟩ := run_callB (e := e) (q := o) (P := P) hop hc w
      rw [hrun]
      exact h6 ρ _ o.type cs w (callB_sem hop hc h3 hx)
  | defer c => rw [hop] at hk; cases hk
  | _ => rw [hop] at h plain; exact plain h
theorem run_readK (hE : EnvOk P E) {o : Oper} (hk : opKind E o.op = .read) {S : SemR Unit} {T : Tr AV} {ds : List ADef} {H : Hp} {k : AV → List ADef → Hp → Option Unit} (h : (cRun E o.op).f S T ds H k = some ()) :
    ∃ v, k v ds H = some () ∧ ReadSem P E o T H v := by
  have plain : (cOp E o.op).f T H (fun v H => k v ds H) = some () → ∃ v, k v ds H = some () ∧ ReadSem P E o T H v := fun hr => by
    have h1 := cOp_ok hE o.op
    rw [hk] at h1
    obtain ⟨v, h2, h3⟩ := h1 T H _ () hr
    exact ⟨v, h2, fun w0 B ρ e w hrel hx => h3 w0 B ρ e o w rfl hrel hx⟩
  cases hop : o.op with
  | call c =>
    rw [hop] at hk h
    obtain ⟨b, hc, hb⟩ := kind_call hk (by simp)
    rcases hb with ⟨_, rfl⟩ | ⟨hb, _⟩
    · simp only [cRun, hc] at h
      obtain ⟨args, h3, h4⟩ := cOpds_some (show (cOpds E c.args.toList).f T (fun args => (cBop E .len c.argTypes.toList).f args H fun v H => k v ds H) = some () from h)
      obtain ⟨v, h5, h6⟩ := cBop_read hE c.argTypes args H _ () h4
      refine ⟨v, h5, fun w0 B ρ e w hrel hx => ?_⟩
      obtain ⟨cs, hrun⟩ := run_callB (e := e) (q := o) (P := P) hop hc w
      rw [hrun]
      exact h6 w0 B ρ _ o.type cs w hrel (callB_sem hop hc h3 hx)
    · cases hb
  | defer c => rw [hop] at hk; cases hk
  | _ => rw [hop] at h plain; exact plain h
theorem run_allocK (hE : EnvOk P E) {o : Oper} (hk : opKind E o.op = .alloc) {S : SemR Unit} {T : Tr AV} {ds : List ADef} {H : Hp} {k : AV → List ADef → Hp → Option Unit} (h : (cRun E o.op).f S T ds H k = some ()) :
    ∃ blk mk, k (Mk.v mk H.next) ds (H.new blk) = some () ∧ AllocSem P E o T blk mk := by
  have plain : (cOp E o.op).f T H (fun v H => k v ds H) = some () → ∃ blk mk, k (Mk.v mk H.next) ds (H.new blk) = some () ∧ AllocSem P E o T blk mk := fun hr => by
    have h1 := cOp_ok hE o.op
    rw [hk] at h1
    obtain ⟨blk, mk, h2, h3⟩ := h1 T H _ () hr
    exact ⟨blk, mk, h2, fun w0 B ρ H b e w hrel hb hn hx => h3 w0 B ρ H b e o w rfl hrel hb hn hx⟩
  cases hop : o.op with
  | call c =>
    rw [hop] at hk
    obtain ⟨b, hc, hb⟩ := kind_call hk (by simp)
    rcases hb with ⟨hb, _⟩ | ⟨hb, _⟩ <;> cases hb
  | defer c => rw [hop] at hk; cases hk
  | _ => rw [hop] at h plain; exact plain h
/-- what a float leaves -/
def FloatRes (P : Program) (E : Env) (ops : Array Oper) (o : Oper) (T : Tr AV) (H : Hp) (v : AV) (H' : Hp) : Prop :=
  (wantT ops.toList T o = false ∧ v = .und ∧ H' = H) ∨
  (wantT ops.toList T o = true ∧ ((opKind E o.op = .pure ∧ H' = H ∧ PureSem P E o T v) ∨ (opKind E o.op = .read ∧ H' = H) ∨ (opKind E o.op = .alloc ∧ ∃ blk mk, v = Mk.v mk H.next ∧ H' = H.new blk)))
def putT (T : Tr AV) (d : Option Tmp) (v : AV) : Tr AV := match d with | none => T | some d => T.set d v
theorem cPut_putT {dst : Option Tmp} {N : Nat} {T : Tr AV} {v : AV} {k : Tr AV → Option Unit} (h : (cPut dst).f N T v k = some ()) : k (putT T dst v) = some () ∧ ∀ d, dst = some d → d < N := by
  have := cPut_some h
  cases dst with
  | none => exact ⟨this, fun d e => by cases e⟩
  | some d => exact ⟨this.2, fun d' e => by cases e; exact this.1⟩
theorem isLoud_not {o : Op} (h : isLoud E o = false) : opKind E o ≠ .loud := by intro e; unfold isLoud at h; rw [e] at h; cases h
theorem float_some (hE : EnvOk P E) {ops : Array Oper} {o : Oper} (hl : isLoud E o.op = false) {S : SemR Unit} {c : Ctx} {T : Tr AV} {ds : List ADef} {H : Hp} {k : KF Unit} (h : (cStep E ops.toList o).f S c T ds H k = some ()) :
    ∃ v H', k (putT T o.dst v) ds H' = some () ∧ FloatRes P E ops o T H v H' ∧ (∀ d, o.dst = some d → d < c.N) := by
  have hnd : isDefer o.op = false := by
    cases hop : o.op <;> first | rfl | (rw [hop] at hl; cases hl)
  unfold cStep at h
  rw [hnd] at h
  have h : (stepF (cWant ops.toList o.guard) (cRun E o.op) (cPut o.dst)) S c T ds H k = some () := h
  have put : ∀ {v : AV} {H' : Hp}, (cPut o.dst).f c.N T v (fun T => k T ds H') = some () → k (putT T o.dst v) ds H' = some () ∧ ∀ d, o.dst = some d → d < c.N := fun hp => cPut_putT hp
  rcases cWant_some h with ⟨hw, h2⟩ | ⟨hw, h2⟩
  · cases hk : opKind E o.op with
    | loud => exact absurd hk (isLoud_not hl)
    | pure =>
      obtain ⟨v, h3, h4⟩ := run_pureK hE hk h2
      exact ⟨v, H, (put h3).1, .inr ⟨hw, .inl ⟨hk, rfl, h4⟩⟩, (put h3).2⟩
    | read =>
      obtain ⟨v, h3, h4⟩ := run_readK hE hk h2
      exact ⟨v, H, (put h3).1, .inr ⟨hw, .inr (.inl ⟨hk, rfl⟩)⟩, (put h3).2⟩
    | alloc =>
      obtain ⟨blk, mk, h3, h4⟩ := run_allocK hE hk h2
      exact ⟨_, _, (put h3).1, .inr ⟨hw, .inr (.inr ⟨hk, blk, mk, rfl, rfl⟩)⟩, (put h3).2⟩
  · exact ⟨.und, H, (put h2).1, .inl ⟨hw, rfl, rfl⟩, (put h2).2⟩
/-- what carrying it out once more shows -/
def AgSem (P : Program) (E : Env) (ops : Array Oper) (o : Oper) (T : Tr AV) (H : Hp) : Prop :=
  wantT ops.toList T o = true → ∃ d v, o.dst = some d ∧ T.get d = some v ∧
    ((opKind E o.op = .read ∧ ReadSem P E o T H v) ∨ (opKind E o.op = .alloc ∧ ∃ blk mk b, v = Mk.v mk b ∧ H.get b = some blk ∧ AllocSem P E o T blk mk))
theorem sameRow_some {H H' : Hp} {b b' : Nat} {k : Option Unit} (h : sameRow H b H' b' k = some ()) : k = some () ∧ ∃ x, H.get b = some x ∧ H'.get b' = some x := by
  unfold sameRow at h
  split at h
  · rename_i cs wr opn cs' wr' opn' h1 h2
    obtain ⟨h3, h4⟩ := cond_some h
    simp only [Bool.and_eq_true, beq_iff_eq] at h3
    rw [CV.eq_of_beqs h3.1.1, h3.1.2, h3.2] at h1
    exact ⟨h4, _, h1, h2⟩
  · cases h
theorem sameNew_some {H : Hp} {v : AV} {mk : Mk} {n : Nat} {H' : Hp} {x : Blk} {k : Option Unit} (h : sameNew H v (Mk.v mk n) H' k = some ()) (hx : H'.get n = some x) : k = some () ∧ ∃ b, v = Mk.v mk b ∧ H.get b = some x := by
  unfold sameNew at h
  split at h
  · rename_i b b' e
    cases mk <;> simp only [Mk.v, AV.p, AV.s, AV.o, AV.cv.injEq, CV.ptr.injEq, reduceCtorEq] at e
    obtain ⟨e1, _⟩ := e
    subst e1
    obtain ⟨h1, y, h2, h3⟩ := sameRow_some h
    rw [hx] at h3; cases h3
    exact ⟨h1, b, rfl, h2⟩
  · rename_i b sz len cap b' sz' len' cap' e
    cases mk <;> simp only [Mk.v, AV.p, AV.s, AV.o, AV.cv.injEq, CV.slice.injEq, reduceCtorEq] at e
    obtain ⟨e1, _, e3, e4, e5⟩ := e
    subst e1 e3 e4 e5
    obtain ⟨h4, h5⟩ := cond_some h
    simp only [Bool.and_eq_true] at h4
    obtain ⟨h1, y, h2, h3⟩ := sameRow_some h5
    rw [hx] at h3; cases h3
    rw [Nat.eq_of_beq_eq_true h4.1.1, Nat.eq_of_beq_eq_true h4.1.2, obeq_eq h4.2]
    exact ⟨h1, b, rfl, h2⟩
  · rename_i b b' e
    cases mk <;> simp only [Mk.v, AV.p, AV.s, AV.o, AV.cv.injEq, CV.oth.injEq, reduceCtorEq] at e
    simp only [CO.map.injEq] at e
    subst e
    unfold sameMap at h
    split at h
    · rename_i h1 h2
      rw [hx] at h2; cases h2
      exact ⟨h, b, rfl, h1⟩
    · cases h
  · rename_i b b' e
    cases mk <;> simp only [Mk.v, AV.p, AV.s, AV.o, AV.cv.injEq, CV.oth.injEq, CO.clo.injEq, reduceCtorEq] at e
    subst e
    unfold sameClo at h
    split at h
    · rename_i f fs cs f' fs' cs' h1 h2
      obtain ⟨h3, h4⟩ := cond_some h
      simp only [Bool.and_eq_true] at h3
      rw [Nat.eq_of_beq_eq_true h3.1.1, AV.eq_of_beqs h3.1.2, AV.eq_of_beqs h3.2] at h1
      rw [hx] at h2; cases h2
      exact ⟨h4, b, rfl, h1⟩
    · cases h
  · cases h
theorem callee_eq {c : Call} {b : Builtin} (h : c.callee = .builtin b) {β : Type} (f : Builtin → β) (d : β) : (match c.callee with | .builtin b => f b | _ => d) = f b := by rw [h]
theorem again_some (hE : EnvOk P E) {ops : Array Oper} {i : Nat} {o : Oper} (ho : ops[i]? = some o) (hk : (isRead E o.op || isAlloc E o.op) = true) {T : Tr AV} {H : Hp} {k : Option Unit} (h : (cAgain E ops.toList i).f T H k = some ()) :
    k = some () ∧ AgSem P E ops o T H := by
  unfold cAgain at h
  rw [Array.getElem?_toList, ho] at h
  simp only [hk, cond_true] at h
  split at h
  case h_1 => cases h
  rename_i d hd
  rw [boolsK_eq] at h
  cases ha : isAlloc E o.op with
  | true =>
    rw [ha] at h
    have hkind : opKind E o.op = .alloc := by
      unfold isAlloc at ha
      split at ha
      · assumption
      · cases ha
    rcases cWant_some (show (cWant ops.toList o.guard).f T (match T.getP (path d) with | some v => (cOp E o.op).f T H fun v' H' => sameNew H v v' H' k | none => none) k = some () from h) with ⟨hw, h2⟩ | ⟨hw, h2⟩
    · rw [Tr.getP_eq] at h2
      split at h2
      · rename_i v hv
        have hok := cOp_ok hE o.op
        rw [hkind] at hok
        obtain ⟨blk, mk, h3, h4⟩ := hok T H _ () h2
        obtain ⟨h5, b, rfl, h6⟩ := sameNew_some h3 (by rw [Hp.get_new, if_pos rfl])
        exact ⟨h5, fun _ => ⟨d, _, hd, hv, .inr ⟨hkind, blk, mk, b, rfl, h6, fun w0 B ρ H b e w hrel hb hn hx => h4 w0 B ρ H b e o w rfl hrel hb hn hx⟩⟩⟩
      · cases h2
    · exact ⟨h2, fun hw' => by rw [hw] at hw'; cases hw'⟩
  | false =>
    rw [ha] at h hk
    rw [Bool.or_false] at hk
    have hkind : opKind E o.op = .read := by
      unfold isRead at hk
      split at hk
      · assumption
      · cases hk
    simp only [cond_false] at h
    have plain : (⟨againRead (cWant ops.toList o.guard) (cOp E o.op) (path d)⟩ : Bx (AgainF Unit)).f T H k = some () → k = some () ∧ AgSem P E ops o T H := fun h => by
      rcases cWant_some (show (cWant ops.toList o.guard).f T (match T.getP (path d) with | some v => (cOp E o.op).f T H fun v' _ => bif AV.beq v v' then k else none | none => none) k = some () from h) with ⟨hw, h2⟩ | ⟨hw, h2⟩
      · rw [Tr.getP_eq] at h2
        split at h2
        · rename_i v hv
          have hok := cOp_ok hE o.op
          rw [hkind] at hok
          obtain ⟨v', h3, h4⟩ := hok T H _ () h2
          obtain ⟨h5, h6⟩ := cond_some h3
          rw [← AV.eq_of_beq h5] at h4
          exact ⟨h6, fun _ => ⟨d, v, hd, hv, .inl ⟨hkind, fun w0 B ρ e w hrel hx => h4 w0 B ρ e o w rfl hrel hx⟩⟩⟩
        · cases h2
      · exact ⟨h2, fun hw' => by rw [hw] at hw'; cases hw'⟩
    split at h
    · rename_i c hop
      rw [hop] at hkind
      obtain ⟨b, hc, hb⟩ := kind_call hkind (by simp)
      rcases hb with ⟨_, rfl⟩ | ⟨hb, _⟩
      · rw [hc] at h
        rcases cWant_some (show (cWant ops.toList o.guard).f T (match T.getP (path d) with | some v => (cOpds E c.args.toList).f T fun args => (cBop E .len c.argTypes.toList).f args H fun v' _ => bif AV.beq v v' then k else none | none => none) k = some () from h) with ⟨hw, h2⟩ | ⟨hw, h2⟩
        · rw [Tr.getP_eq] at h2
          split at h2
          · rename_i v hv
            obtain ⟨args, h3, h4⟩ := cOpds_some h2
            obtain ⟨v', h5, h6⟩ := cBop_read hE c.argTypes args H _ () h4
            obtain ⟨h7, h8⟩ := cond_some h5
            rw [← AV.eq_of_beq h7] at h6
            refine ⟨h8, fun _ => ⟨d, v, hd, hv, .inl ⟨by rw [hop]; exact hkind, fun w0 B ρ e w hrel hx => ?_⟩⟩⟩
            obtain ⟨cs, hrun⟩ := run_callB (e := e) (q := o) (P := P) hop hc w
            rw [hrun]
            exact h6 w0 B ρ _ o.type cs w hrel (callB_sem hop hc h3 hx)
          · cases h2
        · exact ⟨h2, fun hw' => by rw [hw] at hw'; cases hw'⟩
      · cases hb
    · exact plain h
theorem agains_some (hE : EnvOk P E) {ops : Array Oper} {T : Tr AV} {H : Hp} {k : Option Unit} : ∀ {l : List Nat}, (cAgains E ops.toList l).f T H k = some () → k = some () ∧ ∀ i ∈ l, ∀ o, ops[i]? = some o → (isRead E o.op || isAlloc E o.op) = true → AgSem P E ops o T H
  | [], h => ⟨h, fun i hi => by cases hi⟩
  | i :: l, h => by
    have h : (cAgain E ops.toList i).f T H ((cAgains E ops.toList l).f T H k) = some () := h
    cases ho : ops[i]? with
    | none =>
      unfold cAgain at h
      rw [Array.getElem?_toList, ho] at h
      cases h
    | some o =>
      cases hk : isRead E o.op || isAlloc E o.op with
      | false =>
        unfold cAgain at h
        rw [Array.getElem?_toList, ho] at h
        simp only [hk, cond_false] at h
        cases h
      | true =>
        obtain ⟨h1, h2⟩ := again_some hE ho hk h
        obtain ⟨h3, h4⟩ := agains_some hE h1
        refine ⟨h3, fun j hj o' ho' hk' => ?_⟩
        rcases List.mem_cons.1 hj with rfl | hj
        · rw [ho] at ho'; cases ho'; exact h2
        · exact h4 j hj o' ho' hk'
end
end Go.Ev

namespace Go.Ev
open Go.RowKit (Below)
section
variable {P : Program} {E : Env}
/-- what is known of a float that has been reckoned -/
def Pers (P : Program) (E : Env) (ops : Array Oper) (N : Nat) (T0 T : Tr AV) (done : List Nat) (own : Nat → Option Nat) (i : Nat) (o : Oper) : Prop :=
  ∃ Ti vi, (∀ t ∈ o.looksAt ops, (∃ j, Wr ops t j ∧ Before ops i j ∧ j ∈ done ∧ Ti.get t = T.get t) ∨ ((∀ j, Wr ops t j → Before ops j i ∨ j = i) ∧ Ti.get t = T0.get t)) ∧
    (∀ d, o.dst = some d → T.get d = some vi ∧ d < N) ∧
    ((wantT ops.toList Ti o = false ∧ vi = .und ∧ own i = none) ∨
     (wantT ops.toList Ti o = true ∧ ((opKind E o.op = .pure ∧ PureSem P E o Ti vi ∧ own i = none) ∨ (opKind E o.op = .read ∧ own i = none) ∨ (opKind E o.op = .alloc ∧ ∃ mk b, own i = some b ∧ vi = Mk.v mk b))))
structure AInv (P : Program) (E : Env) (ops : Array Oper) (N : Nat) (T0 : Tr AV) (own : Nat → Option Nat) (done : List Nat) (T : Tr AV) (H : Hp) : Prop where
  pers : ∀ i ∈ done, ∀ o, ops[i]? = some o → isLoud E o.op = false → Pers P E ops N T0 T done own i o
  tfin : ∀ t, (∀ j ∈ done, ¬ Wr ops t j) → T.get t = T0.get t
  ownlt : ∀ i b, own i = some b → i ∈ done ∧ b < H.next
  inj : ∀ i j b, own i = some b → own j = some b → i = j
theorem putT_get {T : Tr AV} {dst : Option Tmp} {v : AV} {t : Nat} (h : dst ≠ some t) : (putT T dst v).get t = T.get t := by
  cases dst with
  | none => rfl
  | some d => unfold putT; rw [Tr.get_set, if_neg (fun e => h (by rw [e]))]
/-- one operation more -/
theorem Pers.put {ops : Array Oper} (hu : uniqOk [] ops.toList = true) {N : Nat} {T0 T : Tr AV} {done : List Nat} {own own' : Nat → Option Nat} {i : Nat} {o : Oper} (h : Pers P E ops N T0 T done own i o) (hi : i ∈ done) (ho : ops[i]? = some o) {j : Nat} {oj : Oper} (hj : ops[j]? = some oj) (hjd : j ∉ done) (v : AV)
    (hown : own' i = own i) : Pers P E ops N T0 (putT T oj.dst v) (j :: done) own' i o := by
  obtain ⟨Ti, vi, h1, h2, h3⟩ := h
  refine ⟨Ti, vi, fun t ht => ?_, fun d hd => ?_, by rw [hown]; exact h3⟩
  · rcases h1 t ht with ⟨k, g1, g2, g3, g4⟩ | h
    · refine .inl ⟨k, g1, g2, by simp [g3], ?_⟩
      rw [putT_get, g4]
      intro e
      have := wr_uniq hu g1 (⟨oj, hj, e⟩ : Wr ops t j)
      subst this
      exact hjd g3
    · exact .inr h
  · have := h2 d hd
    rw [putT_get]
    · exact this
    · intro e
      have := wr_uniq hu (⟨o, ho, hd⟩ : Wr ops d i) (⟨oj, hj, e⟩ : Wr ops d j)
      subst this
      exact hjd hi
theorem AInv.loud {ops : Array Oper} (hu : uniqOk [] ops.toList = true) {N : Nat} {T0 T : Tr AV} {done : List Nat} {own : Nat → Option Nat} {H H' : Hp} (h : AInv P E ops N T0 own done T H) {j : Nat} {oj : Oper} (hj : ops[j]? = some oj) (hjd : j ∉ done) (v : AV) (hl : isLoud E oj.op = true) (hH : H.next ≤ H'.next) :
    AInv P E ops N T0 own (j :: done) (putT T oj.dst v) H' := by
  refine ⟨fun i hi o ho hli => ?_, fun t ht => ?_, fun i b hb => ?_, h.inj⟩
  · rcases List.mem_cons.1 hi with rfl | hi
    · rw [hj] at ho; cases ho; rw [hl] at hli; cases hli
    · exact (h.pers i hi o ho hli).put hu hi ho hj hjd v rfl
  · rw [putT_get]
    · exact h.tfin t fun k hk => ht k (by simp [hk])
    · intro e; exact ht j (by simp) ⟨oj, hj, e⟩
  · obtain ⟨h1, h2⟩ := h.ownlt i b hb
    exact ⟨by simp [h1], by omega⟩
theorem AInv.float {ops : Array Oper} (hu : uniqOk [] ops.toList = true) {N : Nat} {T0 T : Tr AV} {done : List Nat} {own : Nat → Option Nat} {H H' : Hp} (h : AInv P E ops N T0 own done T H) {j : Nat} {oj : Oper} (hj : ops[j]? = some oj) (hjd : j ∉ done) {v : AV} (hl : isLoud E oj.op = false)
    (hlooks : looksOk ops.toList (befs [] ops.toList) done j oj = true) (hr : FloatRes P E ops oj T H v H') (hN : ∀ d, oj.dst = some d → d < N) :
    ∃ own', AInv P E ops N T0 own' (j :: done) (putT T oj.dst v) H' ∧ (∀ i ∈ done, own' i = own i) ∧ (∀ b, own' j = some b → b = H.next) ∧ H.next ≤ H'.next ∧ (∀ b, b < H.next → H'.get b = H.get b) ∧ (H' = H ∨ ∃ blk, H' = H.new blk) := by
  have hoj : own j = none := by
    cases e : own j with
    | none => rfl
    | some b => exact absurd (h.ownlt j b e).1 hjd
  have hself : ∀ t ∈ oj.looksAt ops, (∃ k, Wr ops t k ∧ Before ops j k ∧ k ∈ j :: done ∧ T.get t = (putT T oj.dst v).get t) ∨ ((∀ k, Wr ops t k → Before ops k j ∨ k = j) ∧ T.get t = T0.get t) := by
    intro t ht
    by_cases hw : ∃ k, Wr ops t k ∧ k ∈ done
    · obtain ⟨k, hk1, hk2⟩ := hw
      rcases looks_ok hu hlooks t ht k hk1 with ⟨_, h2⟩ | ⟨h1, _⟩
      · refine .inl ⟨k, hk1, h2, by simp [hk2], ?_⟩
        rw [putT_get]
        intro e
        have := wr_uniq hu hk1 (⟨oj, hj, e⟩ : Wr ops t j)
        subst this
        exact hjd hk2
      · exact absurd hk2 h1
    · refine .inr ⟨fun k hk => ?_, h.tfin t fun k hk hk' => hw ⟨k, hk', hk⟩⟩
      rcases looks_ok hu hlooks t ht k hk with ⟨h1, _⟩ | ⟨_, h2⟩
      · exact absurd ⟨k, hk, h1⟩ hw
      · exact h2
  have hdst : ∀ d, oj.dst = some d → (putT T oj.dst v).get d = some v ∧ d < N := by
    intro d hd
    refine ⟨?_, hN d hd⟩
    rw [hd]
    show (T.set d v).get d = _
    rw [Tr.get_set, if_pos rfl]
  have tfin' : ∀ t, (∀ k ∈ j :: done, ¬ Wr ops t k) → (putT T oj.dst v).get t = T0.get t := fun t ht => by
    rw [putT_get]
    · exact h.tfin t fun k hk => ht k (by simp [hk])
    · intro e; exact ht j (by simp) ⟨oj, hj, e⟩
  have mk : ∀ own' : Nat → Option Nat, (∀ i ∈ done, own' i = own i) → Pers P E ops N T0 (putT T oj.dst v) (j :: done) own' j oj → ∀ i ∈ j :: done, ∀ o, ops[i]? = some o → isLoud E o.op = false → Pers P E ops N T0 (putT T oj.dst v) (j :: done) own' i o := by
    intro own' hown hp i hi o ho hli
    rcases List.mem_cons.1 hi with rfl | hi
    · rw [hj] at ho; cases ho; exact hp
    · exact (h.pers i hi o ho hli).put hu hi ho hj hjd v (hown i hi)
  have same : H' = H → Pers P E ops N T0 (putT T oj.dst v) (j :: done) own j oj → ∃ own', AInv P E ops N T0 own' (j :: done) (putT T oj.dst v) H' ∧ (∀ i ∈ done, own' i = own i) ∧ (∀ b, own' j = some b → b = H.next) ∧ H.next ≤ H'.next ∧ (∀ b, b < H.next → H'.get b = H.get b) ∧ (H' = H ∨ ∃ blk, H' = H.new blk) := by
    rintro rfl hp
    exact ⟨own, ⟨mk own (fun _ _ => rfl) hp, tfin', fun i b hb => ⟨by simp [(h.ownlt i b hb).1], (h.ownlt i b hb).2⟩, h.inj⟩, fun _ _ => rfl, fun b hb => (by rw [hoj] at hb; cases hb), Nat.le_refl _, fun _ _ => rfl, .inl rfl⟩
  rcases hr with ⟨h1, h2, h3⟩ | ⟨h1, ⟨h2, h3, h4⟩ | ⟨h2, h3⟩ | ⟨h2, blk, mkk, h3, h4⟩⟩
  · exact same h3 ⟨T, v, hself, hdst, .inl ⟨h1, h2, hoj⟩⟩
  · exact same h3 ⟨T, v, hself, hdst, .inr ⟨h1, .inl ⟨h2, h4, hoj⟩⟩⟩
  · exact same h3 ⟨T, v, hself, hdst, .inr ⟨h1, .inr (.inl ⟨h2, hoj⟩)⟩⟩
  · let own' : Nat → Option Nat := fun i => if i = j then some H.next else own i
    have ho1 : ∀ i ∈ done, own' i = own i := fun i hi => if_neg (fun (e : i = j) => hjd (by rw [← e]; exact hi))
    have ho2 : own' j = some H.next := if_pos rfl
    refine ⟨own', ⟨mk own' ho1 ⟨T, v, hself, hdst, .inr ⟨h1, .inr (.inr ⟨h2, mkk, H.next, ho2, h3⟩)⟩⟩, tfin', fun i b hb => ?_, fun i k b hi hk => ?_⟩, ho1, fun b hb => by rw [ho2] at hb; cases hb; rfl, by rw [h4]; simp, fun b hb => by rw [h4, Hp.get_new, if_neg (by omega)], .inr ⟨blk, h4⟩⟩
    · by_cases e : i = j
      · subst e; rw [ho2] at hb; cases hb; exact ⟨by simp, by rw [h4]; simp⟩
      · have : own' i = own i := if_neg e
        rw [this] at hb
        obtain ⟨g1, g2⟩ := h.ownlt i b hb
        exact ⟨by simp [g1], by rw [h4]; simp; omega⟩
    · by_cases e : i = j
      · by_cases e' : k = j
        · rw [e, e']
        · subst e
          rw [ho2] at hi; cases hi
          have : own' k = own k := if_neg e'
          rw [this] at hk
          exact absurd (h.ownlt k _ hk).2 (by omega)
      · have h5 : own' i = own i := if_neg e
        rw [h5] at hi
        by_cases e' : k = j
        · subst e'
          rw [ho2] at hk; cases hk
          exact absurd (h.ownlt i _ hi).2 (by omega)
        · have : own' k = own k := if_neg e'
          rw [this] at hk
          exact h.inj i k b hi hk
/-- growing abstract heaps -/
def Grows (H H' : Hp) : Prop := H.next ≤ H'.next ∧ ∀ {w0 B ρ w}, Rel w0 B ρ H w → Rel w0 B ρ H' w
theorem Grows.refl (H : Hp) : Grows H H := ⟨Nat.le_refl _, fun h => h⟩
theorem Grows.trans {H H' H'' : Hp} (h : Grows H H') (g : Grows H' H'') : Grows H H'' := ⟨Nat.le_trans h.1 g.1, fun r => g.2 (h.2 r)⟩
theorem floats_some (hE : EnvOk P E) {ops : Array Oper} (hu : uniqOk [] ops.toList = true) {S : SemR Unit} {c : Ctx} {ds : List ADef} {k : KF Unit} {prev : Option Nat} {T0 : Tr AV} :
    ∀ {fl done done' : List Nat} {T : Tr AV} {H : Hp} {own : Nat → Option Nat}, floatsOk E ops.toList (befs [] ops.toList) prev done fl = some done' → (cFloats E ops.toList fl).f S c T ds H k = some () → AInv P E ops c.N T0 own done T H →
      ∃ T' H' own', k T' ds H' = some () ∧ AInv P E ops c.N T0 own' done' T' H' ∧ Grows H H' ∧ (∀ i ∈ done, i ∈ done') ∧ (∀ i ∈ done, own' i = own i) ∧ (∀ i ∈ done', i ∉ done → ∃ o, ops[i]? = some o ∧ isLoud E o.op = false ∧ ∀ l, prev = some l → Before ops i l) ∧ (∀ i b, i ∉ done → own' i = some b → H.next ≤ b) ∧
        (∀ t, (∃ j ∈ done, Wr ops t j) → T'.get t = T.get t)
  | [], done, done', T, H, own, hf, h, hinv => by
    cases hf
    exact ⟨T, H, own, h, hinv, Grows.refl _, fun _ h => h, fun _ _ => rfl, fun i hi hn => absurd hi hn, fun i b hi hb => absurd (hinv.ownlt i b hb).1 hi, fun _ _ => rfl⟩
  | i :: fl, done, done', T, H, own, hf, h, hinv => by
    simp only [floatsOk] at hf
    unfold cFloats at h
    rw [Array.getElem?_toList] at h hf
    cases ho : ops[i]? with
    | none => rw [ho] at hf; cases hf
    | some o =>
      rw [ho] at h hf
      simp only [] at h hf
      obtain ⟨h1, h2⟩ := cond_some hf
      simp only [Bool.and_eq_true, Bool.not_eq_true'] at h1
      obtain ⟨⟨⟨hl, hid⟩, hlk⟩, hap⟩ := h1
      have hid' : i ∉ done := fun hm => by rw [(inL_iff i done).2 hm] at hid; cases hid
      obtain ⟨v, H1, h3, h4, h5⟩ := float_some (P := P) hE hl (show (cStep E ops.toList o).f S c T ds H (fun T ds H => (cFloats E ops.toList fl).f S c T ds H k) = some () from h)
      obtain ⟨own1, g1, g2, g3, g4, g5, g6⟩ := hinv.float hu ho hid' hl hlk h4 h5
      obtain ⟨T', H', own', k1, k2, k3, k4, k5, k6, k7, k8⟩ := floats_some hE hu h2 h3 g1
      have hg : Grows H H1 := by
        rcases g6 with rfl | ⟨blk, rfl⟩
        · exact Grows.refl _
        · exact ⟨by simp, fun r => r.grow blk⟩
      refine ⟨T', H', own', k1, k2, hg.trans k3, fun j hj => k4 j (by simp [hj]), fun j hj => by rw [k5 j (by simp [hj]), g2 j hj], fun j hj hn => ?_, fun j b hj hb => ?_, fun t ht => ?_⟩
      · by_cases e : j = i
        · subst e
          refine ⟨o, ho, hl, fun l hl' => ?_⟩
          subst hl'
          exact bef_ok hap
        · exact k6 j hj (by simp [e, hn])
      · by_cases e : j = i
        · subst e
          rw [k5 j (by simp)] at hb
          exact Nat.le_of_eq (g3 b hb).symm
        · exact Nat.le_trans g4 (k7 j b (by simp [e, hj]) hb)
      · obtain ⟨j, hj, hw⟩ := ht
        rw [k8 t ⟨j, by simp [hj], hw⟩, putT_get]
        intro e
        have := wr_uniq hu hw (⟨o, ho, e⟩ : Wr ops t i)
        subst this
        exact hid' hj
end
end Go.Ev

namespace Go.Ev
open Go.RowKit (Below)
section
variable {P : Program} {E : Env}
theorem Mk.v_inj {m m' : Mk} {b b' : Nat} (h : m.v b = m'.v b') : b = b' := by
  cases m <;> cases m' <;> simp only [Mk.v, AV.p, AV.s, AV.o, AV.cv.injEq, CV.ptr.injEq, CV.slice.injEq, CV.oth.injEq, CO.map.injEq, CO.clo.injEq, reduceCtorEq] at h
  · exact h.1
  · exact h.1
  · exact h
  · exact h
structure CInv (P : Program) (E : Env) (ops : Array Oper) (N : Nat) (w0 : World) (B : Nat) (ρs : Rho) (Hs : Hp) (T0 : Tr AV) (own : Nat → Option Nat) (done : List Nat) (T : Tr AV) (ds : List ADef) (H : Hp) (ρ : Rho) (listed : Array Bool) (a : Act) (w : World) : Prop where
  closed : Closed ops listed
  lsize : listed.size = ops.size
  sub : ∀ i, Lst listed i → i ∈ done
  loud : ∀ i ∈ done, ∀ o, ops[i]? = some o → isLoud E o.op = true → Lst listed i
  st : St E w0 B ρ H w
  to : To ρs Hs ρ H
  lo : ∀ i b, own i = some b → Hs.next ≤ b
  size : a.tmps.size = N
  tl : ∀ t j, Wr ops t j → Lst listed j → RV ρ ((T.get t).getD .und) (a.tmps.getD t undef)
  tu : ∀ t, (∀ j, Wr ops t j → ¬ Lst listed j) → RV ρ ((T0.get t).getD .und) (a.tmps.getD t undef)
  ds : All2 (DRel ρ) ds a.defers
  own : ∀ i b, own i = some b → ¬ Lst listed i → ρ b = none
theorem opd_of {ρ : Rho} {T : Tr AV} {a : Act} {w0 : World} {B : Nat} {H : Hp} {w : World} (hst : St E w0 B ρ H w) {x : Operand} (h : ∀ t, x = .tmp t → RV ρ ((T.get t).getD .und) (a.tmps.getD t undef)) : OpdOk E ρ T a.eval x := by
  intro v hv
  cases x with
  | tmp t =>
    cases hv
    exact h t rfl
  | const c => exact constF_rv hv
  | global g =>
    simp only [avalF] at hv
    split at hv
    · rename_i hg
      cases hv
      obtain ⟨L, hL⟩ := hst.glob g hg
      exact ⟨g, 0, L, hL, rfl⟩
    · cases hv
  | func f => cases hv; rfl
theorem getD_set_self {l : Array Bool} {i : Nat} (h : i < l.size) (d : Bool) : (l.setIfInBounds i true).getD i d = true := by
  rw [Array.getD_eq_getD_getElem?, Array.getElem?_setIfInBounds_self_of_lt h]; rfl
theorem lst_set {l : Array Bool} {i j : Nat} (hi : i < l.size) : Lst (l.setIfInBounds i true) j ↔ j = i ∨ Lst l j := by
  unfold Lst
  by_cases h : j = i
  · subst h; simp [getD_set_self hi]
  · rw [Array.getD_eq_getD_getElem?, Array.getElem?_setIfInBounds_ne (Ne.symm h), ← Array.getD_eq_getD_getElem?]
    simp [h]
theorem tmps_put {a : Act} {dst : Option Tmp} {u : Value} {t : Nat} (h : dst ≠ some t) : (a.put dst u).tmps.getD t undef = a.tmps.getD t undef := by
  cases dst with
  | none => rfl
  | some d =>
    show (a.tmps.setIfInBounds d u).getD t undef = _
    rw [Array.getD_eq_getD_getElem?, Array.getElem?_setIfInBounds_ne (fun e => h (by rw [e])), ← Array.getD_eq_getD_getElem?]
theorem tmps_put_self {a : Act} {u : Value} {d : Nat} (h : d < a.tmps.size) : (a.put (some d) u).tmps.getD d undef = u := by
  show (a.tmps.setIfInBounds d u).getD d undef = _
  rw [Array.getD_eq_getD_getElem?, Array.getElem?_setIfInBounds_self_of_lt h]; rfl
theorem put_size {a : Act} {dst : Option Tmp} {u : Value} : (a.put dst u).tmps.size = a.tmps.size := by
  cases dst with
  | none => rfl
  | some d => show (a.tmps.setIfInBounds d u).size = _; simp
theorem put_defers {a : Act} {dst : Option Tmp} {u : Value} : (a.put dst u).defers = a.defers := by
  cases dst <;> rfl
theorem ready_lt {ops : Array Oper} {listed : Array Bool} {i : Nat} (hr : i ∈ Region.ready .any ops listed) : i < ops.size := by
  obtain ⟨_, o, ho, _⟩ := mem_ready.1 hr
  exact (Array.getElem?_eq_some_iff.1 ho).1
theorem ready_unl {ops : Array Oper} {listed : Array Bool} {i : Nat} (hs : listed.size = ops.size) (hr : i ∈ Region.ready .any ops listed) : ¬ Lst listed i := by
  have hlt := ready_lt hr
  obtain ⟨h, _⟩ := mem_ready.1 hr
  unfold Lst
  rw [Array.getD_eq_getD_getElem?] at h ⊢
  rw [Array.getElem?_eq_getElem (by omega)] at h ⊢
  simp only [Option.getD_some] at h ⊢
  rw [h]; simp
theorem closed_set {ops : Array Oper} {listed : Array Bool} {i : Nat} (hs : listed.size = ops.size) (hc : Closed ops listed) (hr : i ∈ Region.ready .any ops listed) : Closed ops (listed.setIfInBounds i true) := by
  have hlt := ready_lt hr
  obtain ⟨_, oi, hoi, hall⟩ := mem_ready.1 hr
  intro j o ho hj e he hb
  rw [lst_set (by omega)] at hj ⊢
  rcases hj with rfl | hj
  · rw [hoi] at ho; cases ho
    exact .inr (hall e he hb)
  · exact .inr (hc j o ho hj e he hb)
/-- a float is carried out -/
theorem exec_float {ops : Array Oper} (hu : uniqOk [] ops.toList = true) {N : Nat} {w0 : World} {B : Nat} {ρs : Rho} {Hs : Hp} {T0 T : Tr AV} {own : Nat → Option Nat} {done : List Nat} {ds : List ADef} {H : Hp} {ρ : Rho} {listed : Array Bool} {a : Act} {w : World}
    (hA : AInv P E ops N T0 own done T H) (hC : CInv P E ops N w0 B ρs Hs T0 own done T ds H ρ listed a w) {i : Nat} (hr : i ∈ Region.ready .any ops listed) (hi : i ∈ done) {o : Oper} (ho : ops[i]? = some o) (hl : isLoud E o.op = false)
    (hag : (isRead E o.op || isAlloc E o.op) = true → AgSem P E ops o T H ∧ ∀ t ∈ o.looksAt ops, ∀ j, Wr ops t j → Before ops i j) {F : Fence} {rd : Bool} {n : Nat} (hF : FenceOk F rd) {Q : Exit → Act → World → Prop} {K : Act → World → Prop}
    (hK : ∀ ρ' a' w', CInv P E ops N w0 B ρs Hs T0 own done T ds H ρ' (listed.setIfInBounds i true) a' w' → K a' w') : wpOpIn F n P ops Q i K a w := by
  obtain ⟨Ti, vi, p1, p2, p3⟩ := hA.pers i hi o ho hl
  have hlt := ready_lt hr
  have hunl := ready_unl hC.lsize hr
  have hnd : isDefer o.op = false := by
    cases hop : o.op <;> first | rfl | (rw [hop] at hl; cases hl)
  have hlk : ∀ t ∈ o.looksAt ops, RV ρ ((Ti.get t).getD .und) (a.tmps.getD t undef) := by
    intro t ht
    rcases p1 t ht with ⟨j, g1, g2, g3, g4⟩ | ⟨g1, g2⟩
    · rw [g4]
      exact hC.tl t j g1 (ready_before hC.closed g2 hr)
    · rw [g2]
      refine hC.tu t fun j hj hlj => ?_
      rcases g1 j hj with g | rfl
      · exact hunl (hC.closed.before g hlj)
      · exact hunl hlj
  have hops : Opds E ρ Ti a.eval o := fun x hx => opd_of hC.st fun t e => hlk t (by subst e; exact operands_looks hx)
  -- the new state
  have fin : ∀ (u : Value) (w' : World) (ρ' : Rho), RV ρ' vi u → Rel w0 B ρ' H w' → Sub ρ ρ' → (∀ b, ρ' b = ρ b ∨ own i = some b) → K (a.put o.dst u) w' := by
    intro u w' ρ' hv hrel hsub hown
    refine hK ρ' _ w' ⟨closed_set hC.lsize hC.closed hr, by simp [hC.lsize], fun j hj => ?_, fun j hj oj hoj hlj => ?_, ⟨hrel, fun g hg => ?_, hC.st.le⟩, ⟨hC.to.le, fun b hb => ?_⟩, hC.lo, by rw [put_size]; exact hC.size, fun t j hw hj => ?_, fun t ht => ?_, by rw [put_defers]; exact hC.ds.imp fun _ _ => DRel.mono hsub, fun j b hb hj => ?_⟩
    · rw [lst_set (by rw [hC.lsize]; exact hlt)] at hj
      rcases hj with rfl | hj
      · exact hi
      · exact hC.sub j hj
    · rw [lst_set (by rw [hC.lsize]; exact hlt)]
      exact .inr (hC.loud j hj oj hoj hlj)
    · obtain ⟨L, hL⟩ := hC.st.glob g hg
      exact ⟨L, hsub _ _ hL⟩
    · rcases hown b with h | h
      · rw [h]; exact hC.to.ext b hb
      · exact absurd (hC.lo i b h) (by omega)
    · rw [lst_set (by rw [hC.lsize]; exact hlt)] at hj
      by_cases hd : o.dst = some t
      · have hp := p2 t hd
        rw [hp.1, hd, tmps_put_self (by rw [hC.size]; exact hp.2)]
        exact hv
      · rw [tmps_put hd]
        rcases hj with rfl | hj
        · obtain ⟨o', ho', hd'⟩ := hw
          rw [ho] at ho'; cases ho'
          exact absurd hd' hd
        · exact (hC.tl t j hw hj).mono hsub
    · have hd : o.dst ≠ some t := fun e => ht i ⟨o, ho, e⟩ ((lst_set (by rw [hC.lsize]; exact hlt)).2 (.inl rfl))
      rw [tmps_put hd]
      exact (hC.tu t fun j hj hlj => ht j hj ((lst_set (by rw [hC.lsize]; exact hlt)).2 (.inr hlj))).mono hsub
    · rw [lst_set (by rw [hC.lsize]; exact hlt)] at hj
      rcases hown b with h | h
      · rw [h]; exact hC.own j b hb fun e => hj (.inr e)
      · exact absurd (.inl (hA.inj j i b hb h)) hj
  unfold wpOpIn
  rw [ho]
  simp only []
  rw [wanted_eq hlk]
  have run : ∀ (u : Value) (w' : World), (execOp a.eval o).run P w = .ok (.value u) w' → K (a.put o.dst u) w' → o.wpIn F n P a w K Q := by
    intro u w' hrun hk
    refine ⟨about_wide hF o w _, ?_⟩
    rw [Oper.semAt_eq _ _ _ (fun c hc => by rw [hc] at hnd; cases hnd), hrun]
    exact hk
  rcases p3 with ⟨hw, hv, _⟩ | ⟨hw, p3⟩
  · rw [if_neg (by rw [hw]; simp)]
    exact ⟨about_wide hF o w _, fin undef w ρ (by rw [hv]; exact RV.und ρ) hC.st.rel (Sub.refl _) fun b => .inl rfl⟩
  · rw [if_pos hw]
    have ag : (isRead E o.op || isAlloc E o.op) = true → Opds E ρ T a.eval o ∧ ∃ d v, o.dst = some d ∧ T.get d = some v ∧
        ((opKind E o.op = .read ∧ ReadSem P E o T H v) ∨ (opKind E o.op = .alloc ∧ ∃ blk mk b, v = Mk.v mk b ∧ H.get b = some blk ∧ AllocSem P E o T blk mk)) := by
      intro hra
      obtain ⟨h1, h2⟩ := hag hra
      have heq : ∀ t ∈ o.looksAt ops, Ti.get t = T.get t := by
        intro t ht
        rcases p1 t ht with ⟨j, g1, g2, g3, g4⟩ | ⟨g1, g2⟩
        · exact g4
        · rw [g2]
          refine (hA.tfin t fun j hj hw => ?_).symm
          have hb := h2 t ht j hw
          rcases g1 j hw with g | rfl
          · exact hunl (hC.closed.before g (ready_before hC.closed hb hr))
          · exact hunl (ready_before hC.closed hb hr)
      refine ⟨fun x hx => opd_of hC.st fun t e => by rw [← heq t (by subst e; exact operands_looks hx)]; exact hlk t (by subst e; exact operands_looks hx), h1 ?_⟩
      rw [← hw]
      have e1 := wanted_eq (ops := ops) (o := o) (T := Ti) hlk
      have e2 := wanted_eq (ops := ops) (o := o) (T := T) (ρ := ρ) (tmps := a.tmps) (fun t ht => by rw [← heq t ht]; exact hlk t ht)
      rw [← e1, ← e2]
    rcases p3 with ⟨hk, hp, _⟩ | ⟨hk, _⟩ | ⟨hk, mk', b', hb', hv'⟩
    · obtain ⟨u, g1, g2⟩ := hp ρ a.eval w hops
      exact run u w g1 (fin u w ρ g2 hC.st.rel (Sub.refl _) fun b => .inl rfl)
    · obtain ⟨hopT, d, v, hd, hv, h⟩ := ag (by unfold isRead; rw [hk]; rfl)
      have hvv : v = vi := by have := (p2 d hd).1; rw [hv] at this; cases this; rfl
      subst hvv
      rcases h with ⟨_, h⟩ | ⟨hk', _⟩
      · obtain ⟨u, g1, g2⟩ := h w0 B ρ a.eval w hC.st.rel hopT
        exact run u w g1 (fin u w ρ g2 hC.st.rel (Sub.refl _) fun b => .inl rfl)
      · rw [hk] at hk'; cases hk'
    · obtain ⟨hopT, d, v, hd, hv, h⟩ := ag (by unfold isAlloc; rw [hk]; simp)
      have hvv : v = vi := by have := (p2 d hd).1; rw [hv] at this; cases this; rfl
      rcases h with ⟨hk', _⟩ | ⟨_, blk, mk, b, hvb, hblk, h⟩
      · rw [hk] at hk'; cases hk'
      · have hbb : b = b' := Mk.v_inj (hvb.symm.trans (hvv.trans hv'))
        subst hbb
        have hn := hC.own i b hb' hunl
        obtain ⟨u, w', p, g1, g2, g3⟩ := h w0 B ρ H b a.eval w hC.st.rel hblk hn hopT
        refine run u w' g1 (fin u w' _ (by rw [← hvv, hvb]; exact g3) g2 (upd_sub hn p) fun c => ?_)
        by_cases hc : c = b
        · subst hc; exact .inr hb'
        · exact .inl (if_neg hc)
end
end Go.Ev

namespace Go.Ev
open Go.RowKit (Below)
theorem countP_lt {l : List Nat} {p q : Nat → Bool} (hpq : ∀ x, q x = true → p x = true) {i : Nat} (hi : i ∈ l) (hp : p i = true) (hq : q i = false) : l.countP q < l.countP p := by
  induction l with
  | nil => cases hi
  | cons x l ih =>
    have hle : l.countP q ≤ l.countP p := List.countP_mono_left fun x _ => hpq x
    rcases List.mem_cons.1 hi with rfl | hi
    · rw [List.countP_cons_of_neg (by rw [hq]; simp), List.countP_cons_of_pos hp]; omega
    · have := ih hi
      by_cases hx : q x = true
      · rw [List.countP_cons_of_pos hx, List.countP_cons_of_pos (hpq x hx)]; omega
      · rw [List.countP_cons_of_neg hx]
        by_cases hx' : p x = true
        · rw [List.countP_cons_of_pos hx']; omega
        · rw [List.countP_cons_of_neg hx']; omega
def unl (n : Nat) (listed : Array Bool) : Nat := (List.range n).countP fun i => !listed.getD i false
theorem unl_set {n : Nat} {listed : Array Bool} {i : Nat} (hi : i < n) (hs : listed.size = n) (hl : ¬ Lst listed i) : unl n (listed.setIfInBounds i true) < unl n listed := by
  refine countP_lt (fun x hx => ?_) (List.mem_range.2 hi) ?_ ?_
  · by_cases h : Lst listed x
    · have : Lst (listed.setIfInBounds i true) x := (lst_set (by omega)).2 (.inr h)
      unfold Lst at this
      rw [this] at hx; cases hx
    · unfold Lst at h
      simpa using h
  · unfold Lst at hl
    simpa using hl
  · have : Lst (listed.setIfInBounds i true) i := (lst_set (by omega)).2 (.inl rfl)
    unfold Lst at this
    rw [this]; rfl
theorem unl_zero {n : Nat} {listed : Array Bool} (h : unl n listed = 0) : ∀ i, i < n → Lst listed i := by
  intro i hi
  unfold unl at h
  rw [List.countP_eq_zero] at h
  have := h i (List.mem_range.2 hi)
  unfold Lst
  simpa using this
section
variable {P : Program} {E : Env}
theorem allIn_ok : ∀ {n : Nat} {l : List Nat}, allIn n l = true → ∀ i, i < n → i ∈ l
  | 0, _, _, i, hi => by omega
  | n + 1, l, h, i, hi => by
    simp only [allIn, Bool.and_eq_true] at h
    by_cases e : i = n
    · subst e; exact (inL_iff _ _).1 h.1
    · exact allIn_ok h.2 i (by omega)
theorem floatsOk_new {ops : Array Oper} {prev : Option Nat} : ∀ {fl done done' : List Nat}, floatsOk E ops.toList (befs [] ops.toList) prev done fl = some done' → ∀ i ∈ done', i ∈ done ∨ ∀ l, prev = some l → Before ops i l
  | [], done, done', h, i, hi => by cases h; exact .inl hi
  | j :: fl, done, done', h, i, hi => by
    simp only [floatsOk] at h
    split at h
    · obtain ⟨h1, h2⟩ := cond_some h
      simp only [Bool.and_eq_true] at h1
      rcases floatsOk_new h2 i hi with g | g
      · rcases List.mem_cons.1 g with rfl | g
        · refine .inr fun l hl => ?_
          subst hl
          exact bef_ok h1.2
        · exact .inl g
      · exact .inr g
    · cases h
theorem segs_before {ops : Array Oper} : ∀ {segs : List Seg} {done : List Nat} {l : Nat}, segsOk E ops.toList (befs [] ops.toList) done (some l) segs = true → ∀ i, i < ops.size → i ∈ done ∨ Before ops i l
  | [], _, _, h, _, _ => by cases h
  | s :: rest, done, l, h, i, hi => by
    simp only [segsOk] at h
    split at h
    · cases h
    · rename_i done1 hf
      rw [Bool.and_eq_true] at h
      have hnew : i ∈ done1 → i ∈ done ∨ Before ops i l := fun hm => by
        rcases floatsOk_new hf i hm with g | g
        · exact .inl g
        · exact .inr (g l rfl)
      split at h
      · exact hnew (allIn_ok h.2 i (by simpa using hi))
      · rename_i l2 _
        split at h
        · have h2 := h.2
          simp only [Bool.and_eq_true] at h2
          have hb : Before ops l2 l := bef_ok h2.1.2
          rcases segs_before h2.2 i hi with g | g
          · rcases List.mem_cons.1 g with rfl | g
            · exact .inr hb
            · exact hnew g
          · exact .inr (g.trans hb)
        · simp at h
theorem all_listed {ops : Array Oper} (hback : backOk 0 ops.toList = true) {listed : Array Bool} (hs : listed.size = ops.size) (hr : Region.ready .any ops listed = []) : ∀ i, i < ops.size → Lst listed i := by
  intro i
  induction i using Nat.strongRecOn with
  | _ i ih =>
    intro hi
    by_cases hl : Lst listed i
    · exact hl
    · exfalso
      have : i ∈ Region.ready .any ops listed := by
        rw [mem_ready]
        refine ⟨?_, ops[i], by simp [hi], fun e he hb => ?_⟩
        · unfold Lst at hl
          rw [Array.getD_eq_getD_getElem?, Array.getElem?_eq_getElem (by omega)] at hl ⊢
          simpa using hl
        · have := back_ok hback i ops[i] (by simp [hi]) e he hb
          exact ih e.on (by omega) (by omega)
      rw [hr] at this
      cases this
theorem stage_inner {ops : Array Oper} (hu : uniqOk [] ops.toList = true) (hback : backOk 0 ops.toList = true) {c : Ctx} {w0 : World} {B : Nat} {ρs : Rho} {Hs : Hp} {T0 T : Tr AV} {own : Nat → Option Nat} {done : List Nat} {ds : List ADef} {H : Hp}
    (hA : AInv P E ops c.N T0 own done T H) {F : Fence} {n : Nat} (hF : FenceOk F c.rd) {Q : Exit → Act → World → Prop}
    (hag : ∀ i ∈ done, ∀ o, ops[i]? = some o → (isRead E o.op || isAlloc E o.op) = true → (∃ l ol, l ∈ done ∧ ops[l]? = some ol ∧ isLoud E ol.op = true ∧ Before ops l i) ∨ (AgSem P E ops o T H ∧ ∀ t ∈ o.looksAt ops, ∀ j, Wr ops t j → Before ops i j))
    (next : Option Nat) (hnone : next = none → (∀ i, i < ops.size → i ∈ done) ∧ ∀ ρ a w, St E w0 B ρ H w → To ρs Hs ρ H → FrOk ρ c T ds a → Q .normal a w)
    (hsome : ∀ l, next = some l → l ∉ done ∧ l < ops.size ∧ (∀ i, i < ops.size → i ∈ done ∨ i = l ∨ Before ops i l) ∧ ∀ fuel listed ρ a w, CInv P E ops c.N w0 B ρs Hs T0 own done T ds H ρ listed a w → l ∈ Region.ready .any ops listed → unl ops.size listed ≤ fuel + 1 →
      wpOpIn F n P ops Q l (wpAnyIn F n P .any ops Q fuel (listed.setIfInBounds l true)) a w) :
    ∀ fuel listed ρ a w, CInv P E ops c.N w0 B ρs Hs T0 own done T ds H ρ listed a w → unl ops.size listed ≤ fuel → wpAnyIn F n P .any ops Q fuel listed a w := by
  have hdone : ∀ listed ρ a w, CInv P E ops c.N w0 B ρs Hs T0 own done T ds H ρ listed a w → (∀ i, i < ops.size → Lst listed i) → Q .normal a w := by
    intro listed ρ a w hC hall
    cases hn : next with
    | some l =>
      obtain ⟨h1, h2, _⟩ := hsome l hn
      exact absurd (hC.sub l (hall l h2)) h1
    | none =>
      refine (hnone hn).2 ρ a w hC.st hC.to ⟨hC.size, fun t => ?_, hC.ds⟩
      by_cases hw : ∃ j, Wr ops t j
      · obtain ⟨j, hj⟩ := hw
        exact hC.tl t j hj (hall j (by obtain ⟨o, h, _⟩ := hj; exact (Array.getElem?_eq_some_iff.1 h).1))
      · rw [hA.tfin t fun j _ hj => hw ⟨j, hj⟩]
        exact hC.tu t fun j hj => absurd ⟨j, hj⟩ hw
  intro fuel
  induction fuel with
  | zero =>
    intro listed ρ a w hC hfu
    have hall := unl_zero (by omega : unl ops.size listed = 0)
    refine ⟨?_, hdone listed ρ a w hC hall⟩
    cases hr : Region.ready .any ops listed with
    | nil => rfl
    | cons i r =>
      have hm : i ∈ Region.ready .any ops listed := by rw [hr]; simp
      exact absurd (hall i (ready_lt hm)) (ready_unl hC.lsize hm)
  | succ fuel ih =>
    intro listed ρ a w hC hfu
    refine ⟨fun hr => hdone listed ρ a w hC (all_listed hback hC.lsize hr), fun i hi => ?_⟩
    have hlt := ready_lt hi
    have hunl := ready_unl hC.lsize hi
    have hdec := unl_set hlt hC.lsize hunl
    have ho : ops[i]? = some ops[i] := by simp [hlt]
    by_cases hid : i ∈ done
    · have hl : isLoud E ops[i].op = false := by
        cases h : isLoud E ops[i].op with
        | false => rfl
        | true => exact absurd (hC.loud i hid _ ho h) hunl
      refine exec_float hu hA hC hi hid ho hl (fun hra => ?_) hF fun ρ' a' w' hC' => ih _ ρ' a' w' hC' (by omega)
      rcases hag i hid _ ho hra with ⟨l, ol, h1, h2, h3, h4⟩ | h
      · exact absurd (hC.closed.before h4 (hC.loud l h1 ol h2 h3)) hunl
      · exact h
    · cases hn : next with
      | none => exact absurd ((hnone hn).1 i hlt) hid
      | some l =>
        obtain ⟨h1, h2, h3, h4⟩ := hsome l hn
        rcases h3 i hlt with g | rfl | g
        · exact absurd g hid
        · exact h4 fuel listed ρ a w hC hi hfu
        · exact absurd (hC.sub l (ready_before hC.closed g hi)) h1
end
end Go.Ev

namespace Go.Ev
open Go.RowKit (Below)
section
variable {P : Program} {E : Env}
theorem step_ok2 (hE : EnvOk P E) {S : SemR Unit} (hS : CallOk P E S) {ops : Array Oper} {i : Nat} {o : Oper} (ho : ops[i]? = some o) {c : Ctx} {T : Tr AV} {ds : List ADef} {H : Hp} {k : KF Unit} (h : (cStep E ops.toList o).f S c T ds H k = some ())
    {w0 : World} {B : Nat} {ρ : Rho} {a : Act} {w : World} {F : Fence} {n : Nat} {K : Act → World → Prop} {Q : Exit → Act → World → Prop} (hF : FenceOk F c.rd) (hst : St E w0 B ρ H w) (hlk : ∀ t ∈ o.looksAt ops, RV ρ ((T.get t).getD .und) (a.tmps.getD t undef)) (hds : All2 (DRel ρ) ds a.defers)
    (hK : ∀ v u ds' defers H' ρ' w', k (putT T o.dst v) ds' H' = some () → (∀ d, o.dst = some d → d < c.N) → St E w0 B ρ' H' w' → To ρ H ρ' H' → RV ρ' v u → All2 (DRel ρ') ds' defers → K ({ a with defers := defers }.put o.dst u) w') :
    wpOpIn F n P ops Q i K a w := by
  unfold wpOpIn
  rw [ho]
  simp only []
  have h' : (stepF (cWant ops.toList o.guard) (cRun E o.op) (cPut o.dst)) S c T ds H k = some () ∧ (isDefer o.op = true → c.rd = false) := by
    unfold cStep at h
    cases hd : isDefer o.op with
    | true =>
      rw [hd] at h
      obtain ⟨h1, h2⟩ := ncond_some (show (bif c.rd then none else _) = some () from h)
      exact ⟨h2, fun _ => h1⟩
    | false =>
      rw [hd] at h
      exact ⟨h, fun e => by cases e⟩
  obtain ⟨h1, hdef⟩ := h'
  rw [wanted_eq hlk]
  rcases cWant_some h1 with ⟨hw, h2⟩ | ⟨hw, h2⟩
  · rw [if_pos hw]
    refine run_ok hE hS o h2 hF hdef hst (fun x hx => opd_of hst fun t e => hlk t (by subst e; exact operands_looks hx)) hds fun v u ds' defers H' ρ' w' g1 g2 g3 g4 g5 => ?_
    obtain ⟨k1, k2⟩ := cPut_putT g1
    exact hK v u ds' defers H' ρ' w' k1 k2 g2 g3 g4 g5
  · rw [if_neg (by rw [hw]; simp)]
    refine ⟨about_wide hF o w _, ?_⟩
    obtain ⟨k1, k2⟩ := cPut_putT h2
    exact hK .und undef ds a.defers H ρ w k1 k2 hst (To.refl _ _) (RV.und ρ) hds
theorem stage_ok (hE : EnvOk P E) {S : SemR Unit} (hS : CallOk P E S) {ops : Array Oper} (hu : uniqOk [] ops.toList = true) (hback : backOk 0 ops.toList = true) {c : Ctx} {w0 : World} {B : Nat} {ρs : Rho} {Hs : Hp} {T0 : Tr AV} {k : KF Unit} {F : Fence} {n : Nat} (hF : FenceOk F c.rd) {Q : Exit → Act → World → Prop}
    (hK : ∀ T' ds' H' ρ' a' w', k T' ds' H' = some () → St E w0 B ρ' H' w' → To ρs Hs ρ' H' → FrOk ρ' c T' ds' a' → Q .normal a' w') :
    ∀ {segs : List Seg} {done : List Nat} {prev : Option Nat} {T : Tr AV} {ds : List ADef} {H : Hp} {own : Nat → Option Nat}, segsOk E ops.toList (befs [] ops.toList) done prev segs = true → (cSegs E ops.toList segs).f S c T ds H k = some () → AInv P E ops c.N T0 own done T H →
      (∀ l, prev = some l → l ∈ done ∧ ∃ ol, ops[l]? = some ol ∧ isLoud E ol.op = true) →
      ∀ fuel listed ρ a w, CInv P E ops c.N w0 B ρs Hs T0 own done T ds H ρ listed a w → unl ops.size listed ≤ fuel → wpAnyIn F n P .any ops Q fuel listed a w
  | [], done, prev, T, ds, H, own, h, _, _, _ => by cases h
  | s :: rest, done, prev, T, ds, H, own, h, hrun, hA, hprev => by
    simp only [segsOk] at h
    split at h
    · cases h
    rename_i done1 hf
    rw [Bool.and_eq_true] at h
    obtain ⟨hagl, h⟩ := h
    -- the floats, the operations that are carried out once more
    have hsplit : (cFloats E ops.toList s.floats).f S c T ds H (fun T ds H => (cAgains E ops.toList s.again).f T H (match s.loud with
        | none => k T ds H
        | some l => match ops[l]? with
          | some o => (cStep E ops.toList o).f S c T ds H fun T ds H => (cSegs E ops.toList rest).f S c T ds H k
          | none => none)) = some () := by
      unfold cSegs at hrun
      cases hl : s.loud with
      | none => rw [hl] at hrun; exact hrun
      | some l =>
        rw [hl] at hrun
        simp only [Array.getElem?_toList] at hrun
        cases ho : ops[l]? with
        | none => rw [ho] at hrun; cases hrun
        | some o => rw [ho] at hrun; simp only []; rw [ho] ; exact hrun
    obtain ⟨T1, H1, own1, k1, hA1, hg, hin, hown, hnew, hown2, hT1⟩ := floats_some hE hu hf hsplit hA
    obtain ⟨k2, hags⟩ := agains_some hE k1
    have conv : ∀ {listed ρ a w}, CInv P E ops c.N w0 B ρs Hs T0 own done T ds H ρ listed a w → CInv P E ops c.N w0 B ρs Hs T0 own1 done1 T1 ds H1 ρ listed a w := by
      intro listed ρ a w hC
      refine ⟨hC.closed, hC.lsize, fun i hi => hin i (hC.sub i hi), fun i hi o ho hl => ?_, ⟨hg.2 hC.st.rel, hC.st.glob, Nat.le_trans hC.st.le hg.1⟩, ⟨Nat.le_trans hC.to.le hg.1, hC.to.ext⟩, fun i b hb => ?_, hC.size, fun t j hw hj => ?_, hC.tu, hC.ds, fun i b hb hi => ?_⟩
      · by_cases hd : i ∈ done
        · exact hC.loud i hd o ho hl
        · obtain ⟨o', ho', hl', _⟩ := hnew i hi hd
          rw [ho] at ho'; cases ho'
          rw [hl] at hl'; cases hl'
      · by_cases hd : i ∈ done
        · rw [hown i hd] at hb; exact hC.lo i b hb
        · exact Nat.le_trans hC.to.le (hown2 i b hd hb)
      · rw [hT1 t ⟨j, hC.sub j hj, hw⟩]
        exact hC.tl t j hw hj
      · by_cases hd : i ∈ done
        · rw [hown i hd] at hb; exact hC.own i b hb hi
        · exact hC.st.rel.fresh b (hown2 i b hd hb)
    have hag : ∀ i ∈ done1, ∀ o, ops[i]? = some o → (isRead E o.op || isAlloc E o.op) = true → (∃ l ol, l ∈ done1 ∧ ops[l]? = some ol ∧ isLoud E ol.op = true ∧ Before ops l i) ∨ (AgSem P E ops o T1 H1 ∧ ∀ t ∈ o.looksAt ops, ∀ j, Wr ops t j → Before ops i j) := by
      intro i hi o ho hra
      have h1 := List.all_eq_true.1 hagl i hi
      unfold agOk at h1
      rw [Array.getElem?_toList, ho] at h1
      simp only [hra, cond_true, Bool.or_eq_true, Bool.and_eq_true] at h1
      rcases h1 with h1 | ⟨h1, h2⟩
      · cases hp : prev with
        | none => rw [hp] at h1; cases h1
        | some l =>
          rw [hp] at h1
          obtain ⟨g1, ol, g2, g3⟩ := hprev l hp
          exact .inl ⟨l, ol, hin l g1, g2, g3, bef_ok h1⟩
      · exact .inr ⟨hags i ((inL_iff _ _).1 h1) o ho hra, strict_ok hu h2⟩
    intro fuel listed ρ a w hC hfu
    refine stage_inner hu hback hA1 hF hag s.loud (fun hl => ?_) (fun l hl => ?_) fuel listed ρ a w (conv hC) hfu
    · rw [hl] at h k2
      exact ⟨fun i hi => allIn_ok h i (by simpa using hi), fun ρ a w g1 g2 g3 => hK T1 ds H1 ρ a w k2 g1 g2 g3⟩
    · rw [hl] at h k2
      simp only [Array.getElem?_toList] at h k2
      cases ho : ops[l]? with
      | none => rw [ho] at h; cases h
      | some o =>
        rw [ho] at h k2
        simp only [Bool.and_eq_true, Bool.not_eq_true'] at h k2
        obtain ⟨⟨⟨⟨h0, h1⟩, h2⟩, h3⟩, h4⟩ := h
        have hld : l ∉ done1 := fun hm => by rw [(inL_iff l done1).2 hm] at h1; cases h1
        have hlt : l < ops.size := (Array.getElem?_eq_some_iff.1 ho).1
        refine ⟨hld, hlt, fun i hi => ?_, fun fuel listed ρ a w hC1 hr hfu => ?_⟩
        · rcases segs_before h4 i hi with g | g
          · rcases List.mem_cons.1 g with rfl | g
            · exact .inr (.inl rfl)
            · exact .inl g
          · exact .inr (.inr g)
        · have hunl := ready_unl hC1.lsize hr
          have hdec := unl_set hlt hC1.lsize hunl
          have hlk : ∀ t ∈ o.looksAt ops, RV ρ ((T1.get t).getD .und) (a.tmps.getD t undef) := by
            intro t ht
            by_cases hw : ∃ j, Wr ops t j ∧ j ∈ done1
            · obtain ⟨j, hj1, hj2⟩ := hw
              rcases looks_ok hu h2 t ht j hj1 with ⟨_, g⟩ | ⟨g, _⟩
              · exact hC1.tl t j hj1 (ready_before hC1.closed g hr)
              · exact absurd hj2 g
            · rw [hA1.tfin t fun j hj hj' => hw ⟨j, hj', hj⟩]
              exact hC1.tu t fun j hj hlj => hw ⟨j, hj, hC1.sub j hlj⟩
          refine step_ok2 hE hS ho (k := fun T ds H => (cSegs E ops.toList rest).f S c T ds H k) k2 hF hC1.st hlk hC1.ds fun v u ds' defers H' ρ' w' g1 g2 g3 g4 g5 g6 => ?_
          have hsub := hC1.st.sub g4
          refine stage_ok hE hS hu hback hF hK h4 g1 (hA1.loud hu ho hld v h0 g4.le) (fun l' hl' => by cases hl'; exact ⟨by simp, o, ho, h0⟩) fuel _ ρ' _ w' ?_ (by omega)
          have hls : ∀ j, Lst (listed.setIfInBounds l true) j ↔ j = l ∨ Lst listed j := fun j => lst_set (by rw [hC1.lsize]; exact hlt)
          refine ⟨closed_set hC1.lsize hC1.closed hr, by simp [hC1.lsize], fun j hj => ?_, fun j hj oj hoj hlj => ?_, g3, hC1.to.trans g4, hC1.lo, by rw [put_size]; exact hC1.size, fun t j hw hj => ?_, fun t ht => ?_, by rw [put_defers]; exact g6, fun j b hb hj => ?_⟩
          · rcases (hls j).1 hj with rfl | hj
            · simp
            · simp [hC1.sub j hj]
          · rw [hls]
            rcases List.mem_cons.1 hj with rfl | hj
            · exact .inl rfl
            · exact .inr (hC1.loud j hj oj hoj hlj)
          · by_cases hd : o.dst = some t
            · rw [hd]
              rw [tmps_put_self (by show t < a.tmps.size; rw [hC1.size]; exact g2 t hd)]
              show RV ρ' (((T1.set t v).get t).getD .und) u
              rw [Tr.get_set, if_pos rfl]
              exact g5
            · rw [putT_get hd, tmps_put hd]
              rcases (hls j).1 hj with rfl | hj
              · obtain ⟨o', ho', hd'⟩ := hw
                rw [ho] at ho'; cases ho'
                exact absurd hd' hd
              · exact (hC1.tl t j hw hj).mono hsub
          · have hd : o.dst ≠ some t := fun e => ht l ⟨o, ho, e⟩ ((hls l).2 (.inl rfl))
            rw [tmps_put hd]
            exact (hC1.tu t fun j hj hlj => ht j hj ((hls j).2 (.inr hlj))).mono hsub
          · rw [g4.ext b (hA1.ownlt j b hb).2]
            exact hC1.own j b hb fun e => hj ((hls j).2 (.inr e))
theorem draw_ok (hE : EnvOk P E) (hm : P.follows .mixedOrders = true) (S : SemR Unit) (hS : CallOk P E S) : DrawOk P E S := by
  intro id ops c T ds H k h F n w0 B ρ a w Q hF hst hfr hK
  refine wpIn_region_any hm ?_
  have h : (cDraw E ops.toList (mkPlan E ops.toList)).f S c T ds H (fun T ds H => k .normal T ds H) = some () := h
  unfold cDraw at h
  cases hp : planOk E ops.toList (mkPlan E ops.toList) with
  | false => rw [hp] at h; cases h
  | true =>
    rw [hp] at h
    unfold planOk at hp
    rw [Bool.and_eq_true, Bool.and_eq_true] at hp
    obtain ⟨⟨hu, hback⟩, hsegs⟩ := hp
    have hnl : ∀ i, ¬ Lst (Array.replicate ops.size false) i := by
      intro i
      unfold Lst
      rw [Array.getD_eq_getD_getElem?, Array.getElem?_replicate]
      split <;> simp
    refine stage_ok hE hS hu hback hF (ρs := ρ) (Hs := H) (T0 := T) (fun T' ds' H' ρ' a' w' g1 g2 g3 g4 => hK .normal T' ds' H' ρ' a' w' g1 g2 g3 g4) hsegs h (own := fun _ => none) ⟨fun i hi => (by cases hi), fun t _ => rfl, fun i b hb => (by cases hb), fun i j b hb => (by cases hb)⟩ (fun l hl => (by cases hl))
      ops.size _ ρ a w.drew ?_ (Nat.le_trans List.countP_le_length (by simp))
    exact ⟨fun i o _ hi => absurd hi (hnl i), by simp, fun i hi => absurd hi (hnl i), fun i hi => (by cases hi), ⟨hst.rel.drew, hst.glob, hst.le⟩, To.refl _ _, fun i b hb => (by cases hb), hfr.size, fun t j _ hj => absurd hj (hnl j), fun t _ => hfr.tmps t, hfr.ds, fun i b hb => (by cases hb)⟩
end
end Go.Ev
