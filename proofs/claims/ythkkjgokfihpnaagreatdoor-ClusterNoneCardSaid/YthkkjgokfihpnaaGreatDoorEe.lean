/- Checks of the evaluator's tables; checkpoints; closed calls; calls that write nothing old. -/
import Derived.Test.YthkkjgokfihpnaaGreatDoorEd
import Derived.Laws.StructEq
set_option linter.all false
namespace Go.Ev
/-! A check of the tables. -/
def rcB : CV → Value → Bool
  | .int k n, .int k' n' => keqb k k' && ieqb n n'
  | .bool b, .bool b' => b == b'
  | .oth (.str s), .string s' => decide (s.data.toList = s'.data.toList)
  | .oth .nilP, .pointer none => true
  | .oth .nilS, .slice none 0 0 => true
  | .oth .nilM, .map none => true
  | .oth .nilF, .nilFunc => true
  | .oth .nilI, .nilIface => true
  | _, _ => false
def rcsB : List CV → List Value → Bool
  | [], [] => true
  | x :: xs, y :: ys => rcB x y && rcsB xs ys
  | _, _ => false
def rvB : AV → Value → Bool
  | .cv c, v => rcB c v
  | .agg cs, .agg a => rcsB cs a.toList
  | _, _ => false
theorem rcB_ok {c : CV} {v : Value} (h : rcB c v = true) (ρ : Rho) : RC ρ c v := by
  unfold rcB at h
  split at h
  · rw [Bool.and_eq_true, ieqb_iff, decide_eq_true_eq] at h; rw [keqb_eq h.1, h.2]; rfl
  · rw [beq_iff_eq] at h; rw [h]; rfl
  · rw [decide_eq_true_eq] at h; rw [WideShapes.bytes_inj h]; rfl
  · rfl
  · rfl
  · rfl
  · rfl
  · rfl
  · cases h
theorem rcsB_ok : ∀ {cs : List CV} {vs : List Value}, rcsB cs vs = true → ∀ ρ, All2 (RC ρ) cs vs
  | [], [], _, _ => trivial
  | x :: xs, y :: ys, h, ρ => by
    simp only [rcsB, Bool.and_eq_true] at h
    exact ⟨rcB_ok h.1 ρ, rcsB_ok h.2 ρ⟩
  | [], _ :: _, h, _ => by cases h
  | _ :: _, [], h, _ => by cases h
theorem rvB_ok {v : AV} {u : Value} (h : rvB v u = true) (ρ : Rho) : RV ρ v u := by
  unfold rvB at h
  split at h
  · exact rcB_ok h ρ
  · exact ⟨_, rfl, rcsB_ok h ρ⟩
  · cases h
def infoChk (P : Program) (t : Nat) (i : TI) : Bool :=
  match P.info? t with
  | some inf => inf.size == i.size && inf.bytes == i.bytes && (match inf.zero with | some z => rvB (zeroV i) z | none => false)
  | none => false
def shapeChk (i : TI) : Bool := i.agg == isAggDesc i.desc && (i.agg || (i.zero.length == 1 && i.size == 1)) && i.zero.length == i.size
/-- a type that is not compared cell by cell -/
theorem tyOk_plain {P : Program} {t : Nat} {i : TI} (hu : P.underlying t = some i.desc) (h1 : infoChk P t i = true) (h2 : shapeChk i = true) (hf : i.flat = none) : TyOk P t i := by
  unfold infoChk at h1
  split at h1
  case h_2 => cases h1
  rename_i inf hinf
  simp only [Bool.and_eq_true, beq_iff_eq] at h1
  obtain ⟨⟨g1, g2⟩, g3⟩ := h1
  split at g3
  case h_2 => cases g3
  rename_i z hz
  simp only [shapeChk, Bool.and_eq_true, Bool.or_eq_true, beq_iff_eq] at h2
  obtain ⟨⟨s1, s2⟩, s3⟩ := h2
  refine ⟨hu, ⟨inf, hinf, g1, g2, z, hz, rvB_ok g3⟩, s1, fun ha => ?_, s3, fun ks hk => (by rw [hf] at hk; cases hk), fun x hx ρ v w e hv => ?_⟩
  · rcases s2 with s2 | s2
    · rw [ha] at s2; cases s2
    · exact s2
  · have hrun : (underlying t).run P w = .ok i.desc w := run_underlying hu w
    rcases keyKind_inv i with ⟨ks, hk, _⟩ | ⟨_, ⟨kd, hd, _⟩ | ⟨hd, _⟩ | hk⟩
    · rw [hf] at hk; cases hk
    · show (Instr.checkKey e (9999 + 1) t v).run P w = _
      generalize 9999 = m
      simp only [Instr.checkKey]
      rw [Sem.run_bind, hrun, hd]
      rfl
    · show (Instr.checkKey e (9999 + 1) t v).run P w = _
      generalize 9999 = m
      simp only [Instr.checkKey]
      rw [Sem.run_bind, hrun, hd]
      rfl
    · unfold keyOk keyEq at hx
      rw [hk] at hx
      cases hx
end Go.Ev

namespace Go.Ev
def isIntK (P : Program) (t : Nat) (k : IntKind) : Bool := match P.underlying t with | some (.int k') => keqb k' k | _ => false
theorem isIntK_ok {P : Program} {t : Nat} {k : IntKind} (h : isIntK P t k = true) : P.underlying t = some (.int k) := by
  unfold isIntK at h
  split at h
  · rename_i k' hk; rw [hk, keqb_eq h]
  · cases h
def flatChk (P : Program) : List IntKind → List Field → Nat → Bool
  | [], [], _ => true
  | k :: ks, f :: fs, n => (f.name != "_") && (f.offset == n) && isIntK P f.type k && flatChk P ks fs (n + 1)
  | _, _, _ => false
theorem run_part_int {P : Program} {t : Nat} {k : IntKind} (h : P.underlying t = some (.int k)) {a : Array Value} {n : Nat} {v : Value} (hv : a[n]? = some v) (w : World) : (part t a n).run P w = .ok v w := by
  simp [part, isAgg, run_underlying h, hv]
theorem flat_eq {P : Program} (d : Nat) : ∀ {ks : List IntKind} {fs : List Field} {n : Nat} {xs ys : List CV} {r : Bool}, flatChk P ks fs n = true → aggEq ks xs ys = some r → ∀ (ρ ρ' : Rho) (a b : Array Value) (w : World), All2 (RC ρ) xs (a.toList.drop n) → All2 (RC ρ') ys (b.toList.drop n) →
    (Op.eqFields (d + 1) a b fs).run P w = .ok r w
  | [], [], n, [], [], r, h, he, ρ, ρ', a, b, w, ha, hb => by cases he; rfl
  | k :: ks, f :: fs, n, .int j x :: xs, .int j' y :: ys, r, h, he, ρ, ρ', a, b, w, ha, hb => by
    simp only [flatChk, Bool.and_eq_true, bne_iff_ne, ne_eq, beq_iff_eq] at h
    obtain ⟨⟨⟨h1, h2⟩, h3⟩, h4⟩ := h
    have hk := isIntK_ok h3
    simp only [aggEq] at he
    obtain ⟨e1, e2⟩ := cond_some he
    rw [Bool.and_eq_true] at e1
    have q1 := keqb_eq e1.1
    have q2 := keqb_eq e1.2
    subst q1 q2
    split at e2
    case h_2 => cases e2
    rename_i r' hr'
    cases e2
    obtain ⟨u, us, hu, g1, g2⟩ := ha.cons_left
    obtain ⟨v, vs, hv, g3, g4⟩ := hb.cons_left
    cases g1; cases g3
    have ga : a[n]? = some (.int j' x) := by
      have := congrArg (fun l => l[0]?) hu
      simpa using this
    have gb : b[n]? = some (.int j' y) := by
      have := congrArg (fun l => l[0]?) hv
      simpa using this
    have da : a.toList.drop (n + 1) = us := by rw [← List.drop_drop, hu]; rfl
    have db : b.toList.drop (n + 1) = vs := by rw [← List.drop_drop, hv]; rfl
    have ih := flat_eq d h4 hr' ρ ρ' a b w (by rw [da]; exact g2) (by rw [db]; exact g4)
    simp only [Op.eqFields, h1, ne_eq, not_false_eq_true, if_true]
    rw [Sem.run_bind, h2, run_part_int hk ga]
    simp only [Result.andThen_ok]
    rw [Sem.run_bind, run_part_int hk gb]
    simp only [Result.andThen_ok]
    rw [Sem.run_bind, run_equalIn_int w d f.type j' j' x y hk]
    simp only [Result.andThen_ok]
    rw [ieqb_iff]
    by_cases hxy : x = y
    · subst hxy; simpa using ih
    · simp [hxy]
  | [], [], _, _ :: _, _, _, _, he, _, _, _, _, _, _, _ => by simp [aggEq] at he
  | [], [], _, [], _ :: _, _, _, he, _, _, _, _, _, _, _ => by simp [aggEq] at he
  | [], _ :: _, _, _, _, _, h, _, _, _, _, _, _, _, _ => by cases h
  | _ :: _, [], _, _, _, _, h, _, _, _, _, _, _, _, _ => by cases h
  | _ :: _, _ :: _, _, [], _, _, _, he, _, _, _, _, _, _, _ => by simp [aggEq] at he
  | _ :: _, _ :: _, _, .int _ _ :: _, [], _, _, he, _, _, _, _, _, _, _ => by simp [aggEq] at he
  | _ :: _, _ :: _, _, .int _ _ :: _, .bool _ :: _, _, _, he, _, _, _, _, _, _, _ => by simp [aggEq] at he
  | _ :: _, _ :: _, _, .int _ _ :: _, .ptr _ _ :: _, _, _, he, _, _, _, _, _, _, _ => by simp [aggEq] at he
  | _ :: _, _ :: _, _, .int _ _ :: _, .slice .. :: _, _, _, he, _, _, _, _, _, _, _ => by simp [aggEq] at he
  | _ :: _, _ :: _, _, .int _ _ :: _, .oth _ :: _, _, _, he, _, _, _, _, _, _, _ => by simp [aggEq] at he
  | _ :: _, _ :: _, _, .bool _ :: _, _, _, _, he, _, _, _, _, _, _, _ => by simp [aggEq] at he
  | _ :: _, _ :: _, _, .ptr _ _ :: _, _, _, _, he, _, _, _, _, _, _, _ => by simp [aggEq] at he
  | _ :: _, _ :: _, _, .slice .. :: _, _, _, _, he, _, _, _, _, _, _, _ => by simp [aggEq] at he
  | _ :: _, _ :: _, _, .oth _ :: _, _, _, _, he, _, _, _, _, _, _, _ => by simp [aggEq] at he
end Go.Ev

namespace Go.Ev
theorem run_checkKey_struct {P : Program} {e : Bool} {m : Nat} {t : Nat} {fs : Array Field} (hu : P.underlying t = some (.struct fs)) {cs : Array Value} {w : World}
    (h : ∀ f ∈ fs.toList, ∃ v, (part f.type cs f.offset).run P w = .ok v w ∧ (Instr.checkKey e m f.type v).run P w = .ok () w) : (Instr.checkKey e (m + 1) t (.agg cs)).run P w = .ok () w := by
  simp only [Instr.checkKey]
  rw [Sem.run_bind, run_underlying hu]
  simp only [Result.andThen_ok]
  rw [← Array.forIn_toList]
  generalize fs.toList = l at h
  induction l with
  | nil => simp
  | cons f l ih =>
    obtain ⟨v, h1, h2⟩ := h f (by simp)
    have ih := ih fun g hg => h g (by simp [hg])
    simp only [List.forIn_cons, Sem.run_bind, Sem.run_ite]
    by_cases hn : f.name = "_"
    · simp [hn] at ih ⊢
      rw [ih]; rfl
    · simp [hn, h1, h2] at ih ⊢
      rw [ih]; rfl
end Go.Ev
namespace Go.Ev
theorem flat_fields {P : Program} : ∀ {ks : List IntKind} {fs : List Field} {n : Nat}, flatChk P ks fs n = true → ∀ {xs : List CV} {r : Bool}, aggEq ks xs xs = some r → ∀ {ρ : Rho} {a : Array Value} {w : World} {e : Bool} {m : Nat}, All2 (RC ρ) xs (a.toList.drop n) →
    ∀ f ∈ fs, ∃ v, (part f.type a f.offset).run P w = .ok v w ∧ (Instr.checkKey e (m + 1) f.type v).run P w = .ok () w
  | k :: ks, f :: fs, n, h, .int j x :: xs, r, he, ρ, a, w, e, m, ha, g, hg => by
    simp only [flatChk, Bool.and_eq_true, bne_iff_ne, ne_eq, beq_iff_eq] at h
    obtain ⟨⟨⟨h1, h2⟩, h3⟩, h4⟩ := h
    have hk := isIntK_ok h3
    simp only [aggEq] at he
    obtain ⟨e1, e2⟩ := cond_some he
    split at e2
    case h_2 => cases e2
    rename_i r' hr'
    obtain ⟨u, us, hu, g1, g2⟩ := ha.cons_left
    have ga : a[n]? = some u := by
      have := congrArg (fun l => l[0]?) hu
      simpa using this
    have da : a.toList.drop (n + 1) = us := by rw [← List.drop_drop, hu]; rfl
    rcases List.mem_cons.1 hg with rfl | hg
    · refine ⟨u, by rw [h2]; exact run_part_int hk ga w, ?_⟩
      simp only [Instr.checkKey]
      rw [Sem.run_bind, run_underlying hk]
      rfl
    · exact flat_fields h4 hr' (by rw [da]; exact g2) g hg
  | [], [], _, _, _, _, _, _, _, _, _, _, _, g, hg => by cases hg
  | [], _ :: _, _, h, _, _, _, _, _, _, _, _, _, _, _ => by cases h
  | _ :: _, [], _, h, _, _, _, _, _, _, _, _, _, _, _ => by cases h
  | _ :: _, _ :: _, _, _, [], _, he, _, _, _, _, _, _, _, _ => by simp [aggEq] at he
  | _ :: _, _ :: _, _, _, .bool _ :: _, _, he, _, _, _, _, _, _, _, _ => by simp [aggEq] at he
  | _ :: _, _ :: _, _, _, .ptr _ _ :: _, _, he, _, _, _, _, _, _, _, _ => by simp [aggEq] at he
  | _ :: _, _ :: _, _, _, .slice .. :: _, _, he, _, _, _, _, _, _, _, _ => by simp [aggEq] at he
  | _ :: _, _ :: _, _, _, .oth _ :: _, _, he, _, _, _, _, _, _, _, _ => by simp [aggEq] at he
/-- a struct of integers -/
theorem tyOk_flat {P : Program} {t : Nat} {i : TI} {fs : Array Field} {ks : List IntKind} (hu : P.underlying t = some i.desc) (hd : i.desc = .struct fs) (h1 : infoChk P t i = true) (h2 : shapeChk i = true) (hf : i.flat = some ks) (hc : flatChk P ks fs.toList 0 = true) (hs : P.stoodInHeld t = false) (hg : P.eqGuardType P.depth t = false) : TyOk P t i := by
  unfold infoChk at h1
  split at h1
  case h_2 => cases h1
  rename_i inf hinf
  simp only [Bool.and_eq_true, beq_iff_eq] at h1
  obtain ⟨⟨g1, g2⟩, g3⟩ := h1
  split at g3
  case h_2 => cases g3
  rename_i z hz
  simp only [shapeChk, Bool.and_eq_true, Bool.or_eq_true, beq_iff_eq] at h2
  obtain ⟨⟨s1, s2⟩, s3⟩ := h2
  have hfo : P.fieldsOf t = fs := by unfold Program.fieldsOf; rw [hu, hd]
  refine ⟨hu, ⟨inf, hinf, g1, g2, z, hz, rvB_ok g3⟩, s1, fun ha => ?_, s3, fun ks' hk => ?_, fun x hx ρ v w e hv => ?_⟩
  · rcases s2 with s2 | s2
    · rw [ha] at s2; cases s2
    · exact s2
  · rw [hf] at hk; cases hk
    refine ⟨hg, fun xs ys r he ρ ρ' a b w ha hb => ?_⟩
    show (Op.equalIn (9998 + 1 + 1) t (.agg a) (.agg b)).run P w = _
    rw [run_equalIn_struct w (9998 + 1) t a b (by rw [hfo, hu, hd]) hs, hfo]
    exact flat_eq 9998 hc he ρ ρ' a b w (by simpa using ha) (by simpa using hb)
  · unfold keyOk at hx
    split at hx
    case h_2 => cases hx
    rename_i r hr
    unfold keyKind at hr
    rw [hf] at hr
    simp only [keyEq] at hr
    split at hr
    case h_2 => cases hr
    rename_i xs ys
    obtain ⟨a, rfl, ha⟩ := hv
    show (Instr.checkKey e (9998 + 1 + 1) t (.agg a)).run P w = _
    exact run_checkKey_struct (by rw [hu, hd]) (flat_fields hc hr (by simpa using ha))
end Go.Ev

namespace Go.Ev
/-! Structs of integers and of such structs. -/
def leafL (P : Program) (f : Nat → Option (List IntKind)) : List Field → Nat → Option (List IntKind)
  | [], _ => some []
  | fd :: fs, n => bif (fd.name != "_") && (fd.offset == n) then
      (match f fd.type with
      | some ks => match P.info? fd.type with
        | some inf => bif inf.size == ks.length then (match leafL P f fs (n + ks.length) with | some r => some (ks ++ r) | none => none) else none
        | none => none
      | none => none) else none
def leaf (P : Program) : Nat → Nat → Option (List IntKind)
  | 0, _ => none
  | d+1, t => match P.underlying t with
    | some (.int k) => some [k]
    | some (.struct fs) => bif P.stoodInHeld t then none else leafL P (leaf P d) fs.toList 0
    | _ => none
theorem aggEq_app : ∀ {ks1 ks2 : List IntKind} {xs ys : List CV} {r : Bool}, aggEq (ks1 ++ ks2) xs ys = some r → ∃ x1 x2 y1 y2 r1 r2, xs = x1 ++ x2 ∧ ys = y1 ++ y2 ∧ x1.length = ks1.length ∧ y1.length = ks1.length ∧ aggEq ks1 x1 y1 = some r1 ∧ aggEq ks2 x2 y2 = some r2 ∧ r = (r1 && r2)
  | [], ks2, xs, ys, r, h => ⟨[], xs, [], ys, true, r, rfl, rfl, rfl, rfl, rfl, h, by simp⟩
  | k :: ks1, ks2, xs, ys, r, h => by
    cases xs with
    | nil => simp [aggEq] at h
    | cons x xs =>
      cases ys with
      | nil => cases x <;> simp [aggEq] at h
      | cons y ys =>
        cases x <;> cases y <;> simp only [List.cons_append, aggEq, reduceCtorEq] at h
        obtain ⟨h1, h2⟩ := cond_some h
        split at h2
        case h_2 => cases h2
        rename_i r' hr'
        obtain ⟨x1, x2, y1, y2, r1, r2, rfl, rfl, g1, g2, g3, g4, rfl⟩ := aggEq_app hr'
        cases h2
        refine ⟨_ :: x1, x2, _ :: y1, y2, _ && r1, r2, rfl, rfl, by simp [g1], by simp [g2], ?_, g4, (Bool.and_assoc _ _ _).symm⟩
        simp only [aggEq, h1, cond_true, g3]
/-- a value that reads as so many integers -/
def TV (P : Program) (ρ : Rho) (t : Nat) (xs : List CV) (v : Value) : Prop :=
  (∃ k, P.underlying t = some (.int k) ∧ ∃ x, xs = [x] ∧ RC ρ x v) ∨ (∃ fs, P.underlying t = some (.struct fs) ∧ ∃ a : Array Value, v = .agg a ∧ All2 (RC ρ) xs a.toList)
theorem run_part_tv {P : Program} {ρ : Rho} {t : Nat} {a : Array Value} {n : Nat} {xs zs : List CV} {d : Nat} {ks : List IntKind} (hl : leaf P d t = some ks) {inf : TypeInfo} (hi : P.info? t = some inf) (hs : inf.size = ks.length) (hx : xs.length = ks.length)
    (h : All2 (RC ρ) (xs ++ zs) (a.toList.drop n)) (w : World) : ∃ v, (part t a n).run P w = .ok v w ∧ TV P ρ t xs v := by
  cases d with
  | zero => cases hl
  | succ d =>
    simp only [leaf] at hl
    split at hl
    · rename_i k hu
      cases hl
      match xs, hx with
      | [x], _ =>
        obtain ⟨u, us, hd, g1, g2⟩ := h.cons_left
        have ga : a[n]? = some u := by
          have := congrArg (fun l => l[0]?) hd
          simpa using this
        exact ⟨u, run_part_int hu ga w, .inl ⟨k, hu, x, rfl, g1⟩⟩
    · rename_i fs hu
      refine ⟨.agg (a.extract n (n + ks.length)), ?_, .inr ⟨fs, hu, _, rfl, ?_⟩⟩
      · simp [part, isAgg, run_underlying hu, sizeOf, typeInfo, hi, hs]
      · have hle : (a.extract n (n + ks.length)).toList = (a.toList.drop n).take xs.length := by
          rw [Array.toList_extract, List.extract_eq_take_drop, hx]; congr 1; omega
        rw [hle]
        have hlen := h.length
        revert h
        generalize a.toList.drop n = l
        clear hlen hle hx
        induction xs generalizing l with
        | nil => intro _; exact trivial
        | cons x xs ih =>
          intro h
          obtain ⟨u, us, rfl, g1, g2⟩ := h.cons_left
          exact ⟨g1, ih us g2⟩
    · cases hl
theorem all2_drop_app {α β : Type} {r : α → β → Prop} : ∀ {xs zs : List α} {l : List β}, All2 r (xs ++ zs) l → All2 r zs (l.drop xs.length)
  | [], _, _, h => h
  | _ :: xs, _, _, h => by obtain ⟨u, us, rfl, _, g2⟩ := h.cons_left; exact all2_drop_app (xs := xs) g2
theorem leafL_eq {P : Program} {d e : Nat} (ih : ∀ {t ks}, leaf P d t = some ks → ∀ {xs ys r}, aggEq ks xs ys = some r → ∀ (ρ ρ' : Rho) (u v : Value) (w : World), TV P ρ t xs u → TV P ρ' t ys v → (Op.equalIn (d + e) t u v).run P w = .ok r w) :
    ∀ {fs : List Field} {n : Nat} {ks : List IntKind}, leafL P (leaf P d) fs n = some ks → ∀ {xs ys r}, aggEq ks xs ys = some r → ∀ (ρ ρ' : Rho) (a b : Array Value) (w : World), All2 (RC ρ) xs (a.toList.drop n) → All2 (RC ρ') ys (b.toList.drop n) →
      (Op.eqFields (d + e) a b fs).run P w = .ok r w
  | [], n, ks, h, xs, ys, r, he, ρ, ρ', a, b, w, ha, hb => by
    cases h
    cases xs <;> cases ys <;> simp [aggEq] at he
    subst he
    simp [Op.eqFields]
  | fd :: fs, n, ks, h, xs, ys, r, he, ρ, ρ', a, b, w, ha, hb => by
    simp only [leafL] at h
    obtain ⟨h1, h2⟩ := cond_some h
    simp only [Bool.and_eq_true, bne_iff_ne, ne_eq, beq_iff_eq] at h1
    split at h2
    case h_2 => cases h2
    rename_i ks1 hk1
    split at h2
    case h_2 => cases h2
    rename_i inf hinf
    obtain ⟨h3, h4⟩ := cond_some h2
    rw [beq_iff_eq] at h3
    split at h4
    case h_2 => cases h4
    rename_i ks2 hk2
    cases h4
    obtain ⟨x1, x2, y1, y2, r1, r2, rfl, rfl, g1, g2, g3, g4, rfl⟩ := aggEq_app he
    obtain ⟨u, p1, p2⟩ := run_part_tv hk1 hinf h3 g1 ha w
    obtain ⟨v, q1, q2⟩ := run_part_tv hk1 hinf h3 g2 hb w
    have e1 := ih hk1 g3 ρ ρ' u v w p2 q2
    have e2 := leafL_eq ih hk2 g4 ρ ρ' a b w (by rw [← g1, ← List.drop_drop]; exact all2_drop_app ha) (by rw [← g2, ← List.drop_drop]; exact all2_drop_app hb)
    simp only [Op.eqFields, h1.1, ne_eq, not_false_eq_true, if_true]
    rw [Sem.run_bind, h1.2, p1]
    simp only [Result.andThen_ok]
    rw [Sem.run_bind, q1]
    simp only [Result.andThen_ok]
    rw [Sem.run_bind, e1]
    simp only [Result.andThen_ok]
    cases r1
    · simp
    · simpa using e2
theorem leaf_eq {P : Program} (e : Nat) : ∀ {d t : Nat} {ks : List IntKind}, leaf P d t = some ks → ∀ {xs ys : List CV} {r : Bool}, aggEq ks xs ys = some r → ∀ (ρ ρ' : Rho) (u v : Value) (w : World), TV P ρ t xs u → TV P ρ' t ys v → (Op.equalIn (d + e) t u v).run P w = .ok r w
  | 0, _, _, h, _, _, _, _, _, _, _, _, _, _, _ => by cases h
  | d+1, t, ks, h, xs, ys, r, he, ρ, ρ', u, v, w, hu, hv => by
    simp only [leaf] at h
    split at h
    · rename_i k hk
      cases h
      rcases hu with ⟨k1, e1, x, rfl, hx⟩ | ⟨fs, e1, _⟩
      · rcases hv with ⟨k2, e2, y, rfl, hy⟩ | ⟨fs, e2, _⟩
        · cases x <;> cases y <;> simp only [aggEq, reduceCtorEq] at he
          obtain ⟨h1, h2⟩ := cond_some he
          rw [Bool.and_eq_true] at h1
          have q1 := keqb_eq h1.1
          have q2 := keqb_eq h1.2
          subst q1 q2
          cases hx; cases hy; cases h2
          rw [show d + 1 + e = (d + e) + 1 by omega, run_equalIn_int w (d + e) t _ _ _ _ hk, ieqb_iff, Bool.and_true]
          congr 1
        · rw [hk] at e2; cases e2
      · rw [hk] at e1; cases e1
    · rename_i fs hk
      obtain ⟨h1, h2⟩ : P.stoodInHeld t = false ∧ leafL P (leaf P d) fs.toList 0 = some ks := by
        cases hs : P.stoodInHeld t with
        | true => rw [hs] at h; cases h
        | false => rw [hs] at h; exact ⟨rfl, h⟩
      rcases hu with ⟨k1, e1, _⟩ | ⟨fs1, e1, a, rfl, ha⟩
      · rw [hk] at e1; cases e1
      · rcases hv with ⟨k1, e2, _⟩ | ⟨fs2, e2, b, rfl, hb⟩
        · rw [hk] at e2; cases e2
        · have hfo : P.fieldsOf t = fs := by unfold Program.fieldsOf; rw [hk]
          rw [show d + 1 + e = (d + e) + 1 by omega, run_equalIn_struct w (d + e) t a b (by rw [hfo, hk]) h1, hfo]
          exact leafL_eq (fun {_ _} hk {_ _ _} he ρ ρ' u v w h1 h2 => leaf_eq e hk he ρ ρ' u v w h1 h2) h2 he ρ ρ' a b w (by simpa using ha) (by simpa using hb)
    · cases h
theorem leafL_key {P : Program} {d e : Nat} {b : Bool} (ih : ∀ {t ks}, leaf P d t = some ks → ∀ {xs r}, aggEq ks xs xs = some r → ∀ (ρ : Rho) (u : Value) (w : World), TV P ρ t xs u → (Instr.checkKey b (d + e) t u).run P w = .ok () w) :
    ∀ {fs : List Field} {n : Nat} {ks : List IntKind}, leafL P (leaf P d) fs n = some ks → ∀ {xs r}, aggEq ks xs xs = some r → ∀ (ρ : Rho) (a : Array Value) (w : World), All2 (RC ρ) xs (a.toList.drop n) →
      ∀ f ∈ fs, ∃ v, (part f.type a f.offset).run P w = .ok v w ∧ (Instr.checkKey b (d + e) f.type v).run P w = .ok () w
  | [], n, ks, h, xs, r, he, ρ, a, w, ha, f, hf => by cases hf
  | fd :: fs, n, ks, h, xs, r, he, ρ, a, w, ha, f, hf => by
    simp only [leafL] at h
    obtain ⟨h1, h2⟩ := cond_some h
    simp only [Bool.and_eq_true, bne_iff_ne, ne_eq, beq_iff_eq] at h1
    split at h2
    case h_2 => cases h2
    rename_i ks1 hk1
    split at h2
    case h_2 => cases h2
    rename_i inf hinf
    obtain ⟨h3, h4⟩ := cond_some h2
    rw [beq_iff_eq] at h3
    split at h4
    case h_2 => cases h4
    rename_i ks2 hk2
    cases h4
    obtain ⟨x1, x2, y1, y2, r1, r2, rfl, hxy, g1, g2, g3, g4, rfl⟩ := aggEq_app he
    obtain ⟨rfl, rfl⟩ := List.append_inj hxy (by rw [g1, g2])
    rcases List.mem_cons.1 hf with rfl | hf
    · obtain ⟨u, p1, p2⟩ := run_part_tv hk1 hinf h3 g1 ha w
      exact ⟨u, by rw [h1.2]; exact p1, ih hk1 g3 ρ u w p2⟩
    · exact leafL_key ih hk2 g4 ρ a w (by rw [← g1, ← List.drop_drop]; exact all2_drop_app ha) f hf
theorem leaf_key {P : Program} (e : Nat) {b : Bool} : ∀ {d t : Nat} {ks : List IntKind}, leaf P d t = some ks → ∀ {xs : List CV} {r : Bool}, aggEq ks xs xs = some r → ∀ (ρ : Rho) (u : Value) (w : World), TV P ρ t xs u → (Instr.checkKey b (d + e) t u).run P w = .ok () w
  | 0, _, _, h, _, _, _, _, _, _, _ => by cases h
  | d+1, t, ks, h, xs, r, he, ρ, u, w, hu => by
    simp only [leaf] at h
    split at h
    · rename_i k hk
      rw [show d + 1 + e = (d + e) + 1 by omega]
      generalize d + e = m
      simp only [Instr.checkKey]
      rw [Sem.run_bind, run_underlying hk]
      rfl
    · rename_i fs hk
      obtain ⟨h1, h2⟩ : P.stoodInHeld t = false ∧ leafL P (leaf P d) fs.toList 0 = some ks := by
        cases hs : P.stoodInHeld t with
        | true => rw [hs] at h; cases h
        | false => rw [hs] at h; exact ⟨rfl, h⟩
      rcases hu with ⟨k1, e1, _⟩ | ⟨fs1, e1, a, rfl, ha⟩
      · rw [hk] at e1; cases e1
      · rw [show d + 1 + e = (d + e) + 1 by omega]
        exact run_checkKey_struct hk (leafL_key (e := e) (fun {_ _} hk {_ _} he ρ u w h1 => leaf_key e hk he ρ u w h1) h2 he ρ a w (by simpa using ha))
    · cases h
/-- a struct of integers, or of such structs -/
theorem tyOk_leaf {P : Program} {t : Nat} {i : TI} {fs : Array Field} {ks : List IntKind} (hu : P.underlying t = some i.desc) (hd : i.desc = .struct fs) (h1 : infoChk P t i = true) (h2 : shapeChk i = true) (hf : i.flat = some ks) (hc : leaf P 10 t = some ks) (hg : P.eqGuardType P.depth t = false) : TyOk P t i := by
  unfold infoChk at h1
  split at h1
  case h_2 => cases h1
  rename_i inf hinf
  simp only [Bool.and_eq_true, beq_iff_eq] at h1
  obtain ⟨⟨g1, g2⟩, g3⟩ := h1
  split at g3
  case h_2 => cases g3
  rename_i z hz
  simp only [shapeChk, Bool.and_eq_true, Bool.or_eq_true, beq_iff_eq] at h2
  obtain ⟨⟨s1, s2⟩, s3⟩ := h2
  have hu' : P.underlying t = some (.struct fs) := by rw [hu, hd]
  refine ⟨hu, ⟨inf, hinf, g1, g2, z, hz, rvB_ok g3⟩, s1, fun ha => ?_, s3, fun ks' hk => ?_, fun x hx ρ v w e hv => ?_⟩
  · rcases s2 with s2 | s2
    · rw [ha] at s2; cases s2
    · exact s2
  · rw [hf] at hk; cases hk
    refine ⟨hg, fun xs ys r he ρ ρ' a b w ha hb => ?_⟩
    exact leaf_eq (d := 10) 9990 hc he ρ ρ' _ _ w (.inr ⟨fs, hu', a, rfl, ha⟩) (.inr ⟨fs, hu', b, rfl, hb⟩)
  · unfold keyOk at hx
    split at hx
    case h_2 => cases hx
    rename_i r hr
    unfold keyKind at hr
    rw [hf] at hr
    simp only [keyEq] at hr
    split at hr
    case h_2 => cases hr
    rename_i xs ys
    obtain ⟨a, rfl, ha⟩ := hv
    exact leaf_key (d := 10) 9990 hc hr ρ _ w (.inr ⟨fs, hu', a, rfl, ha⟩)
end Go.Ev

namespace Go.Ev
open Go.RowKit (Below)

/-! Cutting a run: checkpoints. -/
section rel
variable {w0 : World} {B : Nat} {ρ : Rho} {H H' : Hp} {w : World}
/-- a heap of which less is known -/
def Covers (H' H : Hp) : Prop := H'.next = H.next ∧ ∀ b x, H'.get b = some x → H.get b = some x
theorem Rel.weaken (h : Rel w0 B ρ H w) (hc : Covers H' H) : Rel w0 B ρ H' w := by
  obtain ⟨hn, hg⟩ := hc
  refine ⟨fun b hb => h.fresh b (by omega), fun b hb => ?_, fun b x p h1 h2 => h.ok b x p (hg b x h1) h2,
    fun b b' x x' p p' c h1 h1' h2 h2' => h.inj b b' x x' p p' c (hg b x h1) (hg b' x' h1') h2 h2', fun b x p c h1 h2 => h.own b x p c (hg b x h1) h2, h.below, h.size, h.lt⟩
  cases hx : H'.get b with
  | none => rfl
  | some x =>
    have := hg b x hx
    rw [h.gone b (by omega)] at this
    cases this
theorem St.weaken {E : Env} (h : St E w0 B ρ H w) (hc : Covers H' H) : St E w0 B ρ H' w := ⟨h.rel.weaken hc, h.glob, by rw [hc.1]; exact h.le⟩
theorem St.env {E E' : Env} (h : St E w0 B ρ H w) (he : E'.nglob = E.nglob) : St E' w0 B ρ H w := ⟨h.rel, fun g hg => h.glob g (by omega), by rw [he]; exact h.le⟩
end rel

def ebeqs : List (AV × AV × Nat) → List (AV × AV × Nat) → Bool
  | [], [] => true
  | x :: xs, y :: ys => x.1.beq y.1 && x.2.1.beq y.2.1 && Nat.beq x.2.2 y.2.2 && ebeqs xs ys
  | _, _ => false
theorem ebeqs_eq : ∀ {x y : List (AV × AV × Nat)}, ebeqs x y = true → x = y
  | [], [], _ => rfl
  | [], _ :: _, h => by simp [ebeqs] at h
  | _ :: _, [], h => by simp [ebeqs] at h
  | (a, b, c) :: xs, (a', b', c') :: ys, h => by
    simp only [ebeqs, Bool.and_eq_true] at h
    rw [AV.eq_of_beq h.1.1.1, AV.eq_of_beq h.1.1.2, Nat.eq_of_beq_eq_true h.1.2, ebeqs_eq h.2]
def Blk.beq : Blk → Blk → Bool
  | .row cs wr opn, .row cs' wr' opn' => CV.beqs cs cs' && wr == wr' && opn == opn'
  | .map es c, .map es' c' => ebeqs es es' && Nat.beq c c'
  | .clo f fs cs, .clo f' fs' cs' => Nat.beq f f' && AV.beqs fs fs' && AV.beqs cs cs'
  | _, _ => false
theorem Blk.eq_of_beq {x y : Blk} (h : x.beq y = true) : x = y := by
  cases x <;> cases y <;> simp only [Blk.beq, Bool.and_eq_true, Bool.false_eq_true, beq_iff_eq] at h
  case row.row => rw [CV.eq_of_beqs h.1.1, h.1.2, h.2]
  case map.map => rw [ebeqs_eq h.1, Nat.eq_of_beq_eq_true h.2]
  case clo.clo => rw [Nat.eq_of_beq_eq_true h.1.1, AV.eq_of_beqs h.1.2, AV.eq_of_beqs h.2]
/-- is all of the first tree in the second? -/
def covVal (a b : Option Blk) : Bool :=
  match a with
  | none => true
  | some x => match b with
    | some y => x.beq y
    | none => false
def covT : Tr Blk → Tr Blk → Bool
  | .e, _ => true
  | .n l v r, .n l' v' r' => covVal v v' && covT l l' && covT r r'
  | .n _ _ _, .e => false
theorem covVal_ok {a b : Option Blk} (h : covVal a b = true) {x : Blk} (ha : a = some x) : b = some x := by
  subst ha
  unfold covVal at h
  cases b with
  | none => cases h
  | some y => rw [Blk.eq_of_beq h]
theorem covT_ok : ∀ {t t' : Tr Blk}, covT t t' = true → ∀ b x, t.get b = some x → t'.get b = some x
  | .e, _, _, b, x, hx => by cases hx
  | .n l v r, .n l' v' r', h, b, x, hx => by
    simp only [covT, Bool.and_eq_true] at h
    rw [Tr.get_n] at hx ⊢
    split at hx
    · rename_i hb; rw [if_pos hb]; exact covVal_ok h.1.1 hx
    · rename_i hb
      rw [if_neg hb]
      split at hx
      · rename_i h1; rw [if_pos h1]; exact covT_ok h.1.2 _ x hx
      · rename_i h1; rw [if_neg h1]; exact covT_ok h.2 _ x hx
  | .n _ _ _, .e, h, _, _, _ => by cases h
def covers (H' H : Hp) : Bool := Nat.beq H'.next H.next && covT H'.t H.t
theorem covers_ok {H' H : Hp} (h : covers H' H = true) : Covers H' H := by
  unfold covers at h
  rw [Bool.and_eq_true] at h
  exact ⟨Nat.eq_of_beq_eq_true h.1, covT_ok h.2⟩

/-- A checkpoint: a call, what it gives. -/
structure Cp where
  f : Nat
  args : List AV
  H : Hp
  v : AV
  H' : Hp
/-- the run ends as the checkpoint says -/
def chk (v : AV) (H' : Hp) : KV Unit := fun v2 H2 => bif AV.beq v v2 && covers H' H2 then some () else none
theorem chk_some {v : AV} {H' : Hp} {v2 : AV} {H2 : Hp} (h : chk v H' v2 H2 = some ()) : v = v2 ∧ Covers H' H2 := by
  unfold chk at h
  obtain ⟨h1, _⟩ := cond_some h
  rw [Bool.and_eq_true] at h1
  exact ⟨AV.eq_of_beq h1.1, covers_ok h1.2⟩
def cpFind (f : Nat) (args : List AV) (H : Hp) : List Cp → Option (AV × Hp)
  | [] => none
  | c :: cs => bif Nat.beq c.H.next H.next && Nat.beq c.f f then (bif AV.beqs c.args args && covers c.H H then some (c.v, c.H') else none) else cpFind f args H cs
def CpOk (P : Program) (E : Env) (c : Cp) : Prop :=
  ∀ (w0 : World) (B : Nat) (ρ : Rho) (as : Array Value) (w : World), St E w0 B ρ c.H w → All2 (RV ρ) c.args as.toList →
    (callFunc c.f as).run P w = .ok (.enter c.f as) w ∧ ∀ k : KV Unit, k c.v c.H' = some () → EnterOk P E w0 B ρ c.H k c.f as w
theorem CallPost.env {E E' : Env} (he : E'.nglob = E.nglob) {w0 : World} {B : Nat} {ρ : Rho} {H : Hp} {k : KV Unit} {e : Ending} {w' : World} (h : CallPost E w0 B ρ H k e w') : CallPost E' w0 B ρ H k e w' := by
  obtain ⟨u, v, H2, ρ', h1, h2, h3, h4, h5⟩ := h
  exact ⟨u, v, H2, ρ', h1, h2, h3.env he, h4, h5⟩
theorem EnterOk.env {P : Program} {E E' : Env} (he : E'.nglob = E.nglob) {w0 : World} {B : Nat} {ρ : Rho} {H : Hp} {k : KV Unit} {g : FuncId} {as : Array Value} {w : World} (h : EnterOk P E w0 B ρ H k g as w) : EnterOk P E' w0 B ρ H k g as w :=
  fun F rd n hF => (h F rd n hF).mono fun _ _ hp => hp.env he
/-- a call that was run -/
theorem run_enter {P : Program} {E : Env} (hE : EnvOk P E) (hE2 : EnvOk2 P E) (hm : P.follows .mixedOrders = true) {n f : Nat} {args : List AV} {H : Hp} {k : KV Unit}
    (h : (sem E Unit (n + 1)).callv (.o (.fn f)) args H k = some ()) {w0 : World} {B : Nat} {ρ : Rho} {as : Array Value} {w : World} (hst : St E w0 B ρ H w) (ha : All2 (RV ρ) args as.toList) :
    (callFunc f as).run P w = .ok (.enter f as) w ∧ EnterOk P E w0 B ρ H k f as w := by
  have hD : ∀ S, CallOk P E S → DrawOk P E S := fun S hS => draw_ok hE hm S hS
  have hs := sem_ok hE hE2 hD n
  exact fun_ok hE hE2 (S := sem E Unit n) (fun x => code_all hE hs (fun m hm' => hD _ (hs m hm').call) x n (Nat.le_refl _)) h hst ha
theorem cp_ok {P : Program} {E : Env} (hE : EnvOk P E) (hE2 : EnvOk2 P E) (hm : P.follows .mixedOrders = true) {n : Nat} {c : Cp} (h : (sem E Unit (n + 1)).callv (.o (.fn c.f)) c.args c.H (chk c.v c.H') = some ()) : CpOk P E c := by
  intro w0 B ρ as w hst ha
  obtain ⟨h1, h2⟩ := run_enter hE hE2 hm h hst ha
  refine ⟨h1, fun k hk F rd n hF => (h2 F rd n hF).mono fun e w' hp => ?_⟩
  obtain ⟨u, v, H2, ρ', g1, g2, g3, g4, g5⟩ := hp
  obtain ⟨rfl, hc⟩ := chk_some g2
  exact ⟨u, c.v, c.H', ρ', g1, hk, g3.weaken hc, ⟨by rw [hc.1]; exact g4.le, g4.ext⟩, g5⟩
/-- the same program with checkpoints -/
def Env.cut (E : Env) (cs : List Cp) : Env := { E with intr := fun f => match E.intr f with | some g => some g | none => bif cs.any (fun c => Nat.beq c.f f) then some (fun args H => cpFind f args H cs) else none }
theorem cpFind_some {f : Nat} {args : List AV} {H : Hp} {v : AV} {H' : Hp} : ∀ {cs : List Cp}, cpFind f args H cs = some (v, H') → ∃ c ∈ cs, c.f = f ∧ c.args = args ∧ Covers c.H H ∧ v = c.v ∧ H' = c.H'
  | [], h => by cases h
  | c :: cs, h => by
    unfold cpFind at h
    cases hb : Nat.beq c.H.next H.next && Nat.beq c.f f with
    | false =>
      rw [hb] at h
      obtain ⟨c', h1, h2⟩ := cpFind_some (cs := cs) h
      exact ⟨c', List.mem_cons_of_mem _ h1, h2⟩
    | true =>
      rw [hb] at h
      obtain ⟨h1, h2⟩ := cond_some h
      rw [Bool.and_eq_true] at hb h1
      cases h2
      exact ⟨c, List.mem_cons_self, Nat.eq_of_beq_eq_true hb.2, AV.eq_of_beqs h1.1, covers_ok h1.2, rfl, rfl⟩
theorem cut_ok {P : Program} {E : Env} (hE2 : EnvOk2 P E) {cs : List Cp} (hc : ∀ c ∈ cs, CpOk P E c) : EnvOk2 P (E.cut cs) := by
  have intr : ∀ f g, (E.cut cs).intr f = some g → ∀ args H v H', g args H = some (v, H') → ∀ (w0 : World) (B : Nat) (ρ : Rho) (as : Array Value) (w : World), St E w0 B ρ H w → All2 (RV ρ) args as.toList →
      (callFunc f as).run P w = .ok (.enter f as) w ∧ ∀ k : KV Unit, k v H' = some () → EnterOk P E w0 B ρ H k f as w := by
    intro f g hg args H v H' hv w0 B ρ as w hst ha
    simp only [Env.cut] at hg
    split at hg
    · rename_i g' hg'
      cases hg
      exact hE2.intr f _ hg' args H v H' hv w0 B ρ as w hst ha
    · obtain ⟨_, h2⟩ := cond_some hg
      cases h2
      obtain ⟨c, h1, rfl, rfl, h4, rfl, rfl⟩ := cpFind_some hv
      obtain ⟨g1, g2⟩ := hc c h1 w0 B ρ as w (hst.weaken h4) ha
      refine ⟨g1, fun k hk F rd n hF => (g2 k hk F rd n hF).mono fun e w' hp => ?_⟩
      obtain ⟨u, v, H2, ρ', q1, q2, q3, q4, q5⟩ := hp
      exact ⟨u, v, H2, ρ', q1, q2, q3, ⟨by rw [← h4.1]; exact q4.le, fun b hb => q4.ext b (by rw [h4.1]; exact hb)⟩, q5⟩
  refine ⟨hE2.fn, fun f g hg args H v H' hv w0 B ρ as w hst ha => ?_, hE2.dfr⟩
  obtain ⟨g1, g2⟩ := intr f g hg args H v H' hv w0 B ρ as w (hst.env rfl) ha
  exact ⟨g1, fun k hk => EnterOk.env (E := E) (E' := E.cut cs) rfl (g2 k hk)⟩
theorem EnvOk.cut {P : Program} {E : Env} (h : EnvOk P E) (cs : List Cp) : EnvOk P (E.cut cs) := ⟨h.ty, h.fields⟩
end Go.Ev

namespace Go.Ev
open Go.RowKit (Below)

/-! A call that looks at nothing but the globals, and gives a value without addresses. -/
def closedC : CV → Bool
  | .int _ _ | .bool _ => true
  | .oth (.str _) | .oth .nilP | .oth .nilS | .oth .nilM | .oth .nilF | .oth .nilI | .oth (.fn _) => true
  | _ => false
theorem closedC_ok {c : CV} (h : closedC c = true) {ρ ρ' : Rho} {v : Value} (hv : RC ρ c v) : RC ρ' c v := by
  unfold closedC at h
  split at h <;> first | exact hv | cases h
theorem closedCs_ok : ∀ {cs : List CV}, cs.all closedC = true → ∀ {ρ ρ' : Rho} {vs : List Value}, All2 (RC ρ) cs vs → All2 (RC ρ') cs vs
  | [], _, _, _, [], _ => trivial
  | [], _, _, _, _ :: _, h => by cases h
  | _ :: _, _, _, _, [], h => by cases h
  | c :: cs, hc, _, _, v :: vs, h => by
    rw [List.all_cons, Bool.and_eq_true] at hc
    exact ⟨closedC_ok hc.1 h.1, closedCs_ok hc.2 h.2⟩
def closedV : AV → Bool
  | .cv c => closedC c
  | .agg cs => cs.all closedC
  | .tup _ => false
theorem closedV_ok {x : AV} (h : closedV x = true) {ρ ρ' : Rho} {v : Value} (hv : RV ρ x v) : RV ρ' x v := by
  cases x with
  | cv c => exact closedC_ok h hv
  | agg cs => obtain ⟨a, h1, h2⟩ := hv; exact ⟨a, h1, closedCs_ok h h2⟩
  | tup vs => cases h
theorem closedVs_ok : ∀ {cs : List AV}, cs.all closedV = true → ∀ {ρ ρ' : Rho} {vs : List Value}, All2 (RV ρ) cs vs → All2 (RV ρ') cs vs
  | [], _, _, _, [], _ => trivial
  | [], _, _, _, _ :: _, h => by cases h
  | _ :: _, _, _, _, [], h => by cases h
  | c :: cs, hc, _, _, v :: vs, h => by
    rw [List.all_cons, Bool.and_eq_true] at hc
    exact ⟨closedV_ok hc.1 h.1, closedVs_ok hc.2 h.2⟩
/-- a heap of rows of plain values that are not written -/
structure Plain (n : Nat) (H : Hp) : Prop where
  next : H.next = n
  gone : ∀ b, n ≤ b → H.get b = none
  row : ∀ b x, H.get b = some x → ∃ cs, x = .row cs false false ∧ cs.all closedC = true
theorem Plain.rel {w0 : World} {B n : Nat} {ρ : Rho} {H0 H : Hp} {w : World} (hp : Plain n H0) (h : Rel w0 B ρ H w) (hc : ∀ b x, H0.get b = some x → H.get b = some x) :
    Rel w w.heap.size (fun b => if b < n then ρ b else none) H0 w := by
  refine ⟨fun b hb => if_neg (by rw [hp.next] at hb; omega), fun b hb => hp.gone b (by rw [hp.next] at hb; omega), fun b x p h1 h2 => ?_, fun b b' x x' p p' c h1 h1' h2 h2' hne hw => ?_,
    fun b x p c h1 h2 hw => ?_, Below.refl _ _, Nat.le_refl _, fun b p c h1 h2 => ?_⟩
  · obtain ⟨cs, rfl, hcl⟩ := hp.row b x h1
    have h2' : ρ b = some p := by
      by_cases hb : b < n
      · rwa [if_pos hb] at h2
      · rw [if_neg hb] at h2; cases h2
    have := h.ok b _ p (hc b _ h1) h2'
    cases p with
    | val f a c => exact this
    | «at» Bb O L =>
      obtain ⟨arr, el, fz, g1, g2, g3, g4, g5⟩ := this
      refine ⟨arr, el, fz, g1, g2, g3, g4, fun i c hi => ?_⟩
      obtain ⟨u, g6, g7⟩ := g5 i c hi
      refine ⟨u, g6, closedC_ok (List.all_eq_true.1 hcl c ?_) g7⟩
      exact List.mem_of_getElem? hi
  · obtain ⟨cs, rfl, _⟩ := hp.row b x h1; cases hw
  · obtain ⟨cs, rfl, _⟩ := hp.row b x h1; cases hw
  · by_cases hb : b < n
    · rw [if_pos hb] at h1; exact h.lt b p c h1 h2
    · rw [if_neg hb] at h1; cases h1
def giveF (v : AV) : KV Unit := fun v2 _ => bif AV.beq v v2 then some () else none
/-- the intrinsic -/
def closedF (args : List AV) (H0 : Hp) (v : AV) (a : List AV) (H : Hp) : Option (AV × Hp) := bif AV.beqs args a && covT H0.t H.t then some (v, H) else none
def IntrOk (P : Program) (E : Env) (f : Nat) (g : List AV → Hp → Option (AV × Hp)) : Prop :=
  ∀ args H v H', g args H = some (v, H') → ∀ (w0 : World) (B : Nat) (ρ : Rho) (as : Array Value) (w : World), St E w0 B ρ H w → All2 (RV ρ) args as.toList →
    (callFunc f as).run P w = .ok (.enter f as) w ∧ ∀ k : KV Unit, k v H' = some () → EnterOk P E w0 B ρ H k f as w
theorem IntrOk.env {P : Program} {E E' : Env} (he : E'.nglob = E.nglob) {f : Nat} {g : List AV → Hp → Option (AV × Hp)} (h : IntrOk P E f g) : IntrOk P E' f g := by
  intro args H v H' hg w0 B ρ as w hst ha
  obtain ⟨h1, h2⟩ := h args H v H' hg w0 B ρ as w (hst.env he.symm) ha
  exact ⟨h1, fun k hk => EnterOk.env (E := E) (E' := E') he (h2 k hk)⟩
theorem closed_ok {P : Program} {E : Env} (hE : EnvOk P E) (hE2 : EnvOk2 P E) (hm : P.follows .mixedOrders = true) {n f : Nat} {args : List AV} {H0 : Hp} {v : AV} (hp : Plain E.nglob H0)
    (ha : args.all closedV = true) (hv : closedV v = true) (h : (sem E Unit (n + 1)).callv (.o (.fn f)) args H0 (giveF v) = some ()) : IntrOk P E f (closedF args H0 v) := by
  intro a H v' H' hg w0 B ρ as w hst has
  unfold closedF at hg
  obtain ⟨h1, h2⟩ := cond_some hg
  cases h2
  rw [Bool.and_eq_true] at h1
  have := AV.eq_of_beqs h1.1
  subst this
  have hr := hp.rel hst.rel (covT_ok h1.2)
  have hst0 : St E w w.heap.size (fun b => if b < E.nglob then ρ b else none) H0 w := ⟨hr, fun g hg => by obtain ⟨L, hL⟩ := hst.glob g hg; exact ⟨L, by simp only [if_pos hg]; exact hL⟩, by rw [hp.next]; exact Nat.le_refl _⟩
  obtain ⟨e1, e2⟩ := run_enter hE hE2 hm h hst0 (closedVs_ok ha has)
  refine ⟨e1, fun k hk F rd m hF => (e2 F rd m hF).mono fun e w' hpost => ?_⟩
  obtain ⟨u, v2, H2, ρ', g1, g2, g3, g4, g5⟩ := hpost
  unfold giveF at g2
  obtain ⟨g6, _⟩ := cond_some g2
  have := AV.eq_of_beq g6
  subst this
  exact ⟨u, _, _, ρ, g1, hk, ⟨hst.rel.more g3.rel.below, hst.glob, hst.le⟩, To.refl _ _, closedV_ok hv g5⟩
/-- one more intrinsic -/
def Env.with (E : Env) (f : Nat) (g : List AV → Hp → Option (AV × Hp)) : Env := { E with intr := fun f' => bif Nat.beq f' f then some g else E.intr f' }
theorem EnvOk.with {P : Program} {E : Env} (h : EnvOk P E) (f : Nat) (g : List AV → Hp → Option (AV × Hp)) : EnvOk P (E.with f g) := ⟨h.ty, h.fields⟩
theorem with_ok {P : Program} {E : Env} (hE2 : EnvOk2 P E) {f : Nat} {g : List AV → Hp → Option (AV × Hp)} (hg : IntrOk P E f g) : EnvOk2 P (E.with f g) := by
  refine ⟨hE2.fn, fun f' g' h => ?_, hE2.dfr⟩
  simp only [Env.with] at h
  cases hb : Nat.beq f' f with
  | true =>
    rw [hb] at h
    have := Nat.eq_of_beq_eq_true hb
    subst this
    cases h
    exact IntrOk.env (E := E) (E' := E.with f' g) rfl hg
  | false =>
    rw [hb] at h
    exact IntrOk.env (E := E) (E' := E.with f g) rfl (hE2.intr f' g' h)
end Go.Ev

namespace Go.Ev
/-! The tables, checked. -/
namespace Tr
variable {α : Type}
/-- all that is in a tree; g: the numbers of its places -/
def listF (g : Nat → Nat) : Tr α → List (Nat × α) → List (Nat × α)
  | .e, acc => acc
  | .n l v r, acc => (match v with | some a => fun t => (g 0, a) :: t | none => fun t => t) (listF (fun i => g (2 * i + 1)) l (listF (fun i => g (2 * i + 2)) r acc))
theorem listF_acc : ∀ (t : Tr α) (g : Nat → Nat) (acc : List (Nat × α)) (x : Nat × α), x ∈ acc → x ∈ listF g t acc
  | .e, _, _, _, h => h
  | .n l v r, g, acc, x, h => by
    have h1 := listF_acc l (fun i => g (2 * i + 1)) _ x (listF_acc r (fun i => g (2 * i + 2)) acc x h)
    cases v with
    | none => exact h1
    | some a => exact List.mem_cons_of_mem _ h1
theorem mem_listF : ∀ (t : Tr α) (g : Nat → Nat) (acc : List (Nat × α)) (i : Nat) (a : α), t.get i = some a → (g i, a) ∈ listF g t acc
  | .e, _, _, _, _, h => by cases h
  | .n l v r, g, acc, i, a, h => by
    rw [get_n] at h
    have hm : ∀ x, x ∈ listF (fun i => g (2 * i + 1)) l (listF (fun i => g (2 * i + 2)) r acc) → x ∈ listF g (.n l v r) acc := by
      intro x hx
      cases v with
      | none => exact hx
      | some a => exact List.mem_cons_of_mem _ hx
    by_cases h0 : i = 0
    · subst h0
      rw [if_pos rfl] at h
      subst h
      exact List.mem_cons_self
    · rw [if_neg h0] at h
      by_cases h1 : i % 2 = 1
      · rw [if_pos h1] at h
        have := mem_listF l (fun i => g (2 * i + 1)) (listF (fun i => g (2 * i + 2)) r acc) _ a h
        rw [show 2 * (i / 2) + 1 = i by omega] at this
        exact hm _ this
      · rw [if_neg h1] at h
        have := mem_listF r (fun i => g (2 * i + 2)) acc _ a h
        rw [show 2 * (i / 2 - 1) + 2 = i by omega] at this
        exact hm _ (listF_acc l _ _ _ this)
def toL (t : Tr α) : List (Nat × α) := listF (fun i => i) t []
theorem mem_toL {t : Tr α} {i : Nat} {a : α} (h : t.get i = some a) : (i, a) ∈ t.toL := mem_listF t (fun i => i) [] i a h
end Tr
def kindsB : List IntKind → List IntKind → Bool
  | [], [] => true
  | x :: xs, y :: ys => keqb x y && kindsB xs ys
  | _, _ => false
theorem kindsB_eq : ∀ {x y : List IntKind}, kindsB x y = true → x = y
  | [], [], _ => rfl
  | [], _ :: _, h => by cases h
  | _ :: _, [], h => by cases h
  | x :: xs, y :: ys, h => by
    simp only [kindsB, Bool.and_eq_true] at h
    rw [keqb_eq h.1, kindsB_eq h.2]
def flatOkB (P : Program) (t : Nat) (i : TI) : Bool :=
  match i.flat with
  | none => true
  | some ks => match i.desc with
    | .struct _ => (match leaf P 10 t with | some ks' => kindsB ks' ks | none => false) && !P.eqGuardType P.depth t
    | _ => false
def fieldsB (P : Program) (i : TI) : Bool :=
  match i.desc with
  | .struct fs => fs.toList.all fun f => (P.info? f.type).isSome
  | _ => true
def tyB1 (P : Program) (x : Nat × TI) : Bool := infoChk P x.1 x.2 && shapeChk x.2 && flatOkB P x.1 x.2 && fieldsB P x.2
theorem tyOk_of {P : Program} {t : Nat} {i : TI} (hu : P.underlying t = some i.desc) (h : tyB1 P (t, i) = true) : TyOk P t i := by
  simp only [tyB1, Bool.and_eq_true] at h
  obtain ⟨⟨⟨h1, h2⟩, h3⟩, h4⟩ := h
  cases hf : i.flat with
  | none => exact tyOk_plain hu h1 h2 hf
  | some ks =>
    unfold flatOkB at h3
    rw [hf] at h3
    dsimp only at h3
    split at h3
    · rename_i fs hd
      rw [Bool.and_eq_true, Bool.not_eq_true'] at h3
      obtain ⟨h5, h6⟩ := h3
      split at h5
      · rename_i ks' hl
        have := kindsB_eq h5
        subst this
        exact tyOk_leaf hu hd h1 h2 hf hl h6
      · cases h5
    · cases h3
theorem zip_all {α β : Type} {f g : α → β} : ∀ {l : List α}, l.map f = l.map g → ∀ x ∈ l, f x = g x
  | [], _, x, hx => by cases hx
  | a :: l, h, x, hx => by
    simp only [List.map_cons, List.cons.injEq] at h
    rcases List.mem_cons.1 hx with rfl | hx
    · exact h.1
    · exact zip_all h.2 x hx
theorem envOk_of {P : Program} {E : Env} {T : Tr TI} (hT : E.ty = T.get) (hu : T.toL.map (fun x => P.underlying x.1) = T.toL.map (fun x => some x.2.desc)) (hb : T.toL.all (tyB1 P) = true) : EnvOk P E := by
  have key : ∀ t i, E.ty t = some i → P.underlying t = some i.desc ∧ tyB1 P (t, i) = true := by
    intro t i h
    rw [hT] at h
    have hm := Tr.mem_toL h
    exact ⟨zip_all hu _ hm, List.all_eq_true.1 hb _ hm⟩
  refine ⟨fun t i h => tyOk_of (key t i h).1 (key t i h).2, fun t i fs h hd f hf => ?_⟩
  have := (key t i h).2
  simp only [tyB1, Bool.and_eq_true] at this
  have h4 := this.2
  unfold fieldsB at h4
  rw [hd] at h4
  have := List.all_eq_true.1 h4 f hf
  exact Option.isSome_iff_exists.1 this
end Go.Ev

namespace Go.Ev
open Go.RowKit (Below)
/-! A call that writes nothing that was there: what it leaves is laid beside what was there. -/
structure Fp where
  f : Nat
  args : List AV
  /-- what is looked at: rows that are not written -/
  pre : List (Nat × List CV)
  at' : Nat
  v : AV
  /-- what is new -/
  new : List (Nat × Blk)
  next : Nat
def preT : List (Nat × List CV) → Tr Blk
  | [] => .e
  | (b, cs) :: l => (preT l).set b (.row cs false false)
def Fp.H (c : Fp) : Hp := ⟨c.at', preT c.pre⟩
def addT (t : Tr Blk) : List (Nat × Blk) → Tr Blk
  | [] => t
  | (b, x) :: l => (addT t l).set b x
def addK {β : Type} : Tr Blk → List (Nat × Blk) → (Tr Blk → β) → β
  | t, [], k => k t
  | t, (b, x) :: l, k => addK t l fun t => t.setK b x k
theorem addK_eq {β : Type} : ∀ (t : Tr Blk) (l : List (Nat × Blk)) (k : Tr Blk → β), addK t l k = k (addT t l)
  | t, [], k => rfl
  | t, (b, x) :: l, k => by simp only [addK, addK_eq t l, Tr.setK_eq]; rfl
/-- the rows are there, whether they may be written or not -/
def preOk (H : Hp) : List (Nat × List CV) → Bool
  | [] => true
  | (b, cs) :: l => (match H.get b with | some (.row cs' _ _) => CV.beqs cs cs' | _ => false) && preOk H l
/-- the new blocks are new, and may be written -/
def newOk (lo : Nat) (hi : Nat) : List (Nat × Blk) → Bool
  | [] => true
  | (b, x) :: l => Nat.ble lo b && Nat.blt b hi && x.wr && newOk lo hi l
def fpGive (c : Fp) (t : Tr Blk) : Option (AV × Hp) := addK t c.new fun t => some (c.v, ⟨c.next, t⟩)
def fpF (c : Fp) (args : List AV) (H : Hp) : Option (AV × Hp) :=
  bif Nat.beq c.at' H.next && AV.beqs c.args args && preOk H c.pre then fpGive c H.t else none
/-- the run ends as it is said -/
def newIn (H : Hp) : List (Nat × Blk) → Bool
  | [] => true
  | (b, x) :: l => (match H.get b with | some y => x.beq y | none => false) && newIn H l
def fpChk (c : Fp) : KV Unit := fun v H => bif AV.beq c.v v && Nat.beq c.next H.next && newIn H c.new then some () else none
theorem preT_get {b : Nat} {x : Blk} : ∀ {l : List (Nat × List CV)}, (preT l).get b = some x → ∃ cs, (b, cs) ∈ l ∧ x = .row cs false false
  | [], h => by cases h
  | (a, cs) :: l, h => by
    rw [preT, Tr.get_set] at h
    split at h
    · rename_i e; subst e; cases h; exact ⟨cs, List.mem_cons_self, rfl⟩
    · obtain ⟨cs', h1, h2⟩ := preT_get h; exact ⟨cs', List.mem_cons_of_mem _ h1, h2⟩
theorem preOk_row {H : Hp} {b : Nat} {cs : List CV} : ∀ {l : List (Nat × List CV)}, preOk H l = true → (b, cs) ∈ l → ∃ wr opn, H.get b = some (.row cs wr opn)
  | [], _, h => by cases h
  | (a, ds) :: l, h, hm => by
    rw [preOk, Bool.and_eq_true] at h
    rcases List.mem_cons.1 hm with e | hm
    · cases e
      have h1 := h.1
      split at h1
      · rename_i cs' wr opn hg
        exact ⟨wr, opn, by rw [hg, CV.eq_of_beqs h1]⟩
      · cases h1
    · exact preOk_row h.2 hm
theorem addT_get {t : Tr Blk} {b : Nat} {x : Blk} : ∀ {l : List (Nat × Blk)}, (addT t l).get b = some x → (b, x) ∈ l ∨ t.get b = some x
  | [], h => .inr h
  | (a, y) :: l, h => by
    rw [addT, Tr.get_set] at h
    split at h
    · rename_i e; subst e; cases h; exact .inl List.mem_cons_self
    · rcases addT_get h with h | h
      · exact .inl (List.mem_cons_of_mem _ h)
      · exact .inr h
theorem newOk_mem {lo hi b : Nat} {x : Blk} : ∀ {l : List (Nat × Blk)}, newOk lo hi l = true → (b, x) ∈ l → lo ≤ b ∧ b < hi ∧ x.wr = true
  | [], _, h => by cases h
  | (a, y) :: l, h, hm => by
    simp only [newOk, Bool.and_eq_true] at h
    rcases List.mem_cons.1 hm with e | hm
    · cases e; exact ⟨Nat.le_of_ble_eq_true h.1.1.1, Nat.le_of_ble_eq_true h.1.1.2, h.1.2⟩
    · exact newOk_mem h.2 hm
theorem newIn_mem {H : Hp} {b : Nat} {x : Blk} : ∀ {l : List (Nat × Blk)}, newIn H l = true → (b, x) ∈ l → H.get b = some x
  | [], _, h => by cases h
  | (a, y) :: l, h, hm => by
    rw [newIn, Bool.and_eq_true] at h
    rcases List.mem_cons.1 hm with e | hm
    · cases e
      have h1 := h.1
      split at h1
      · rename_i z hz; rw [hz, Blk.eq_of_beq h1]
      · cases h1
    · exact newIn_mem h.2 hm
theorem live_of_wr {x : Blk} (h : x.wr = true) : x.live = true := by cases x <;> first | rfl | cases h
theorem fp_ok {P : Program} {E : Env} (hE : EnvOk P E) (hE2 : EnvOk2 P E) (hm : P.follows .mixedOrders = true) {n : Nat} {c : Fp} (hnew : newOk c.at' c.next c.new = true)
    (h : (sem E Unit (n + 1)).callv (.o (.fn c.f)) c.args c.H (fpChk c) = some ()) : IntrOk P E c.f (fpF c) := by
  intro a H v' H' hg w0 B ρ xs w hst has
  unfold fpF at hg
  obtain ⟨h1, h2⟩ := cond_some hg
  simp only [Bool.and_eq_true] at h1
  obtain ⟨⟨q1, q2⟩, q3⟩ := h1
  have q1 := Nat.eq_of_beq_eq_true q1
  have := AV.eq_of_beqs q2
  subst this
  rw [fpGive, addK_eq] at h2
  cases h2
  have hpre : ∀ b x, c.H.get b = some x → ∃ cs wr opn, x = .row cs false false ∧ H.get b = some (.row cs wr opn) := by
    intro b x hx
    obtain ⟨cs, hmem, rfl⟩ := preT_get hx
    obtain ⟨wr, opn, hg⟩ := preOk_row q3 hmem
    exact ⟨cs, wr, opn, rfl, hg⟩
  have hr : Rel w w.heap.size ρ c.H w := by
    refine ⟨fun b hb => hst.rel.fresh b (by rw [← q1]; exact hb), fun b hb => ?_, fun b x p g1 g2 => ?_, fun b b' x x' p p' d g1 _ _ _ _ hw => ?_, fun b x p d g1 _ hw => ?_, Below.refl _ _, Nat.le_refl _, hst.rel.lt⟩
    · cases hx : c.H.get b with
      | none => rfl
      | some x =>
        obtain ⟨cs, wr, opn, _, hg⟩ := hpre b x hx
        rw [hst.rel.gone b (by rw [← q1]; exact hb)] at hg
        cases hg
    · obtain ⟨cs, wr, opn, rfl, hg⟩ := hpre b x g1
      have := hst.rel.ok b _ p hg g2
      cases p with
      | val f a c => exact this
      | «at» Bb O L => obtain ⟨arr, el, fz, a1, a2, a3⟩ := this; exact ⟨arr, el, fz, a1, (fun e => by cases e), a3⟩
    · obtain ⟨cs, wr, opn, rfl, hg⟩ := hpre b x g1; cases hw
    · obtain ⟨cs, wr, opn, rfl, hg⟩ := hpre b x g1; cases hw
  have hst0 : St E w w.heap.size ρ c.H w := ⟨hr, hst.glob, by have := hst.le; rw [← q1] at this; exact this⟩
  obtain ⟨e1, e2⟩ := run_enter hE hE2 hm h hst0 has
  refine ⟨e1, fun k hk F rd m hF => (e2 F rd m hF).mono fun e w' hpost => ?_⟩
  obtain ⟨u, v2, H2, ρ', g1, g2, g3, g4, g5⟩ := hpost
  unfold fpChk at g2
  obtain ⟨g6, _⟩ := cond_some g2
  simp only [Bool.and_eq_true] at g6
  obtain ⟨⟨p1, p2⟩, p3⟩ := g6
  have := AV.eq_of_beq p1
  subst this
  have p2 := Nat.eq_of_beq_eq_true p2
  have hnx : c.H.next = H.next := q1
  have hle : H.next ≤ c.next := by have := g4.le; rw [hnx] at this; omega
  have hsub : Sub ρ ρ' := hst.rel.sub (by have := g4.ext; rw [hnx] at this; exact this)
  have hext : ∀ b, b < H.next → ρ' b = ρ b := fun b hb => g4.ext b (by rw [hnx]; exact hb)
  have hb := g3.rel.below
  have hold : ∀ b x, H.get b = some x → b < H.next := by
    intro b x hx
    rcases Nat.lt_or_ge b H.next with hl | hl
    · exact hl
    · rw [hst.rel.gone b hl] at hx; cases hx
  have split : ∀ b x, (⟨c.next, addT H.t c.new⟩ : Hp).get b = some x → (b < H.next ∧ H.get b = some x) ∨ (H.next ≤ b ∧ H2.get b = some x ∧ x.wr = true) := by
    intro b x hx
    rcases addT_get hx with hx | hx
    · obtain ⟨r1, r2, r3⟩ := newOk_mem hnew hx
      exact .inr ⟨by rw [← hnx]; exact r1, newIn_mem p3 hx, r3⟩
    · exact .inl ⟨hold b x hx, hx⟩
  have hrel : Rel w0 B ρ' ⟨c.next, addT H.t c.new⟩ w' := by
    refine ⟨fun b hb' => g3.rel.fresh b (by rw [← p2]; exact hb'), fun b hb' => ?_, fun b x p r1 r2 => ?_, fun b b' x x' p p' d r1 r1' r2 r2' hne hw hl hd hd' => ?_, fun b x p d r1 r2 hw hd => ?_,
      hst.rel.below.trans (hb.mono hst.rel.size), by have := hst.rel.size; have := hb.size; omega, g3.rel.lt⟩
    · cases hx : (⟨c.next, addT H.t c.new⟩ : Hp).get b with
      | none => rfl
      | some x =>
        have hb2 : c.next ≤ b := hb'
        rcases addT_get hx with hx | hx
        · have := (newOk_mem hnew hx).2.1; omega
        · have := hold b x hx; omega
    · rcases split b x r1 with ⟨s1, s2⟩ | ⟨s1, s2, s3⟩
      · rw [hext b s1] at r2
        refine ((hst.rel.ok b x p s2 r2).mono hsub).world fun cc hc => ?_
        exact hb.block cc (hst.rel.lt b p cc r2 hc)
      · exact g3.rel.ok b x p s2 r2
    · rcases split b x r1 with ⟨s1, s2⟩ | ⟨s1, s2, s3⟩
      · rw [hext b s1] at r2
        rcases split b' x' r1' with ⟨t1, t2⟩ | ⟨t1, t2, t3⟩
        · rw [hext b' t1] at r2'
          exact hst.rel.inj b b' x x' p p' d s2 t2 r2 r2' hne hw hl hd hd'
        · have := g3.rel.own b' x' p' d t2 r2' t3 hd'
          have := hst.rel.lt b p d r2 hd
          omega
      · rcases split b' x' r1' with ⟨t1, t2⟩ | ⟨t1, t2, t3⟩
        · rw [hext b' t1] at r2'
          have := g3.rel.own b x p d s2 r2 s3 hd
          have := hst.rel.lt b' p' d r2' hd'
          omega
        · exact g3.rel.inj b b' x x' p p' d s2 t2 r2 r2' hne hw hl hd hd'
    · rcases split b x r1 with ⟨s1, s2⟩ | ⟨s1, s2, s3⟩
      · rw [hext b s1] at r2
        exact hst.rel.own b x p d s2 r2 hw hd
      · have := g3.rel.own b x p d s2 r2 s3 hd
        have := hst.rel.size
        omega
  have hto : To ρ H ρ' ⟨c.next, addT H.t c.new⟩ := ⟨hle, by have := g4.ext; rw [hnx] at this; exact this⟩
  exact ⟨u, _, _, ρ', g1, hk, hst.to hrel hto, hto, g5⟩
end Go.Ev
