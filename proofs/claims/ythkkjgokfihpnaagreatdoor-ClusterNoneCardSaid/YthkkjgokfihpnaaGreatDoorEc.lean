/- The evaluator is sound at the operations, second part. -/
import Derived.Test.YthkkjgokfihpnaaGreatDoorEb
import Derived.Laws.BytesString
import Derived.Laws.Cover4
set_option linter.all false
namespace Go.Ev
section
variable {P : Program} {E : Env} {R : Type}
theorem ptK_some {v : AV} {k : Bool × List CV → Option R} {r : R} (h : ptK v k = some r) : ∃ p, k p = some r ∧ ∀ {ρ : Rho} {u : Value}, RV ρ v u → RP ρ p u := by
  unfold ptK at h
  split at h
  · exact ⟨_, h, fun hu => ⟨_, rfl, hu⟩⟩
  · exact ⟨_, h, fun hu => hu⟩
  · cases h
theorem okK_some {ok : Bool} {v : AV} {b : Bool} {k : AV → Option R} {r : R} (h : okK ok v b k = some r) :
    ∃ v', k v' = some r ∧ ∀ {ρ : Rho} {u : Value}, RV ρ v u → RV ρ v' (if ok = true then .tuple #[u, .bool b] else u) := by
  unfold okK at h
  cases ok with
  | true =>
    obtain ⟨p, h1, h2⟩ := ptK_some (show ptK v (fun p => k (.tup [p, (false, [.bool b])])) = some r from h)
    refine ⟨_, h1, fun {ρ u} hu => ?_⟩
    rw [if_pos rfl]
    exact ⟨_, rfl, h2 hu, ⟨_, rfl, rfl⟩, trivial⟩
  | false => exact ⟨_, h, fun hu => hu⟩
theorem lookIn_some {kt et : Nat} {ki ei : TI} (hk : TyOk P kt ki) (he : TyOk P et ei) {H : Hp} {ok : Bool} {x : AV} {es : List (AV × AV × Nat)} {k : AV → Hp → Option R} {r : R} (h : lookIn H (keyKind ki) ei ok x es k = some r) :
    ∃ v, k v H = some r ∧ ∀ {ρ : Rho} {X : Value} {ms : Array MapEntry} (w : World), RV ρ x X → All2 (REnt ρ) es ms.toList →
      ∃ fd, (Instr.findKey kt X ms.toList).run P w = .ok fd w ∧ (match fd with
        | some p => RV ρ v (if ok = true then .tuple #[p.2, .bool true] else p.2)
        | none => ∃ z, (zeroValue et).run P w = .ok z w ∧ RV ρ v (if ok = true then .tuple #[z, .bool false] else z)) := by
  unfold lookIn at h
  split at h
  · rename_i v hf
    obtain ⟨v', h1, h2⟩ := okK_some h
    refine ⟨v', h1, fun {ρ X ms} w hX hm => ?_⟩
    obtain ⟨fd, h3, h4⟩ := run_findKey hk hX w hf hm
    cases fd with
    | none => exact h3.elim
    | some p =>
      obtain ⟨e, m, k1, k2, k3, k4, k5, k6, k7⟩ := h3
      exact ⟨_, h4, h2 k6⟩
  · rename_i hf
    obtain ⟨v', h1, h2⟩ := okK_some h
    refine ⟨v', h1, fun {ρ X ms} w hX hm => ?_⟩
    obtain ⟨fd, h3, h4⟩ := run_findKey hk hX w hf hm
    cases fd with
    | some p => exact h3.elim
    | none =>
      obtain ⟨z, hz, hzr⟩ := he.run_zero w
      exact ⟨_, h4, z, hz, h2 (hzr ρ)⟩
  · cases h
theorem read_lookup (hE : EnvOk P E) {t kt et : Nat} {i ki ei : TI} (hi : E.ty t = some i) (hd : i.desc = .map kt et) (hki : E.ty kt = some ki) (hei : E.ty et = some ei) (m ix : Operand) (ok : Bool) :
    ReadOk P E (R := R) (.lookup t m ix ok) (oLookup (keyKind ki) ei ok (cOpd E m) (cOpd E ix)) := by
  intro T H k r h
  obtain ⟨mv, h1, h2⟩ := cOpd_some h
  obtain ⟨xv, h3, h4⟩ := cOpd_some h2
  obtain ⟨h5, h6⟩ := cond_some h4
  have hu := fun w => (hE.ty t i hi).run_und w
  have hkt := hE.ty kt ki hki
  have het := hE.ty et ei hei
  obtain ⟨o, rfl, h7⟩ := othK_some h6
  split at h7
  · obtain ⟨v, h8, h9⟩ := lookIn_some hkt het h7
    refine ⟨v, h8, fun w0 B ρ e q w hq hr hx => ?_⟩
    have hm : e m = .map none := hx m (by simp [Op.operands]) _ h1
    have hX := hx ix (by simp [Op.operands]) _ h3
    obtain ⟨fd, h10, h11⟩ := h9 (ms := #[]) w hX trivial
    have hck := hkt.key xv h5 ρ _ w true hX
    cases fd with
    | none =>
      obtain ⟨z, hz, h11⟩ := h11
      refine ⟨_, ?_, h11⟩
      simp [execOp, hq, Instr.lookup, hm, hu, hd, hck, h10, hz]
    | some p =>
      refine ⟨_, ?_, h11⟩
      simp [execOp, hq, Instr.lookup, hm, hu, hd, hck, h10]
  · rename_i b
    obtain ⟨es, cl, h12, h13⟩ := mapK_some h7
    obtain ⟨v, h8, h9⟩ := lookIn_some hkt het h13
    refine ⟨v, h8, fun w0 B ρ e q w hq hr hx => ?_⟩
    obtain ⟨B', O, L, h14, hm⟩ := hx m (by simp [Op.operands]) _ h1
    have hX := hx ix (by simp [Op.operands]) _ h3
    obtain ⟨arr, h15, h16⟩ := hr.ok b _ _ h12 h14
    have h17 : (getObj B').run P w = .ok (.map arr cl) w := run_getObj' h15 (by simp)
    obtain ⟨fd, h10, h11⟩ := h9 w hX h16
    have hck := hkt.key xv h5 ρ _ w arr.isEmpty hX
    cases fd with
    | none =>
      obtain ⟨z, hz, h11⟩ := h11
      refine ⟨_, ?_, h11⟩
      simp [execOp, hq, Instr.lookup, hm, hu, hd, h17, hck, h10, hz]
    | some p =>
      refine ⟨_, ?_, h11⟩
      simp [execOp, hq, Instr.lookup, hm, hu, hd, h17, hck, h10]
  · cases h7
end
end Go.Ev

namespace Go.Ev
section
variable {P : Program} {E : Env} {R : Type}
/-- where a slice that has elements lies -/
theorem rs_at {ρ : Rho} {b o sz len : Nat} {cap : Option Nat} {a : Addr} {c : Nat} (h : RS ρ b o sz len cap a c) (hle : len ≤ c) (hl : len ≠ 0) : ∃ B O L, ρ b = some (.at B O L) ∧ a = ⟨B, O + o, none⟩ := by
  cases cap with
  | none =>
    obtain ⟨B, O, L, g1, g2⟩ := h
    rcases g2 with g2 | g2
    · exact ⟨B, O, L, g1, g2.1⟩
    · exact absurd g2.1 hl
  | some c' =>
    obtain ⟨g1, g2⟩ := h
    rcases g2 with g2 | g2
    · omega
    · exact g2
theorem elemsK_some {H : Hp} {b o sz n : Nat} {k : List CV → Option R} {r : R} (h : elemsK H b o sz n k = some r) :
    ∃ cs, k cs = some r ∧ ∀ {w0 : World} {B : Nat} {ρ : Rho} {w : World} {len c : Nat} {cap : Option Nat} {a : Addr}, Rel w0 B ρ H w → len ≤ c → RS ρ b o sz len cap a c → n ≤ len →
      ∃ vs : List Value, (loadCells a (n * sz)).run P w = .ok vs.toArray w ∧ All2 (RC ρ) cs vs := by
  unfold elemsK at h
  cases hn : Nat.beq n 0 with
  | true =>
    rw [hn] at h
    have hn := Nat.eq_of_beq_eq_true hn
    subst hn
    refine ⟨[], h, fun {w0 B ρ w len c cap a} hr hle hs hnl => ⟨[], ?_, trivial⟩⟩
    rw [Nat.zero_mul]
    rfl
  | false =>
    rw [hn] at h
    obtain ⟨cs, wr, opn, h1, h2⟩ := rowK_some h
    obtain ⟨h3, h4⟩ := cutK_some h2
    refine ⟨_, h4, fun {w0 B ρ w len c cap a} hr hle hs hnl => ?_⟩
    have hn0 : n ≠ 0 := by intro e; subst e; cases hn
    obtain ⟨B', O, L, g1, rfl⟩ := rs_at hs hle (by omega)
    exact (show RowAt ρ w cs _ B' O L from hr.ok b _ _ h1 g1).load (P := P) h3
theorem bytesOf_some {ρ : Rho} : ∀ {cs : List CV} {vs : List Value} {l : List UInt8}, bytesOf cs = some l → All2 (RC ρ) cs vs → ∃ ns : List Int, vs = ns.map (Value.int .u8) ∧ l = ns.map fun n => UInt8.ofNat n.toNat
  | [], vs, l, h, ha => by cases h; exact ⟨[], ha.nil_left, rfl⟩
  | .int .u8 n :: cs, vs, l, h, ha => by
    obtain ⟨y, ys, rfl, h1, h2⟩ := ha.cons_left
    cases h1
    simp only [bytesOf] at h
    split at h
    · rename_i r hr
      cases h
      obtain ⟨ns, rfl, rfl⟩ := bytesOf_some hr h2
      exact ⟨n :: ns, rfl, rfl⟩
    · cases h
  | .int .i8 _ :: _, _, _, h, _ | .int .i16 _ :: _, _, _, h, _ | .int .i32 _ :: _, _, _, h, _ | .int .i64 _ :: _, _, _, h, _ | .int .u16 _ :: _, _, _, h, _ | .int .u32 _ :: _, _, _, h, _ | .int .u64 _ :: _, _, _, h, _
  | .bool _ :: _, _, _, h, _ | .ptr _ _ :: _, _, _, h, _ | .slice .. :: _, _, _, h, _ | .oth _ :: _, _, _, h, _ => by simp [bytesOf] at h
theorem push_bytes : ∀ (ns : List Int) (s : ByteArray), ns.foldl (fun r n => r.push (UInt8.ofNat n.toNat)) s = ⟨(s.data.toList ++ ns.map fun n => UInt8.ofNat n.toNat).toArray⟩
  | [], s => by simp
  | n :: ns, s => by
    rw [List.foldl_cons, push_bytes ns]
    simp [ByteArray.push]
theorem utf8Of_some {ρ : Rho} : ∀ {cs : List CV} {vs : List Value} {l : List UInt8}, utf8Of cs = some l → All2 (RC ρ) cs vs → ∃ ns : List Int, vs = ns.map (Value.int .i32) ∧ l = (ns.map fun n => (Utf8.encode n).data.toList).flatten
  | [], vs, l, h, ha => by cases h; exact ⟨[], ha.nil_left, rfl⟩
  | .int .i32 n :: cs, vs, l, h, ha => by
    obtain ⟨y, ys, rfl, h1, h2⟩ := ha.cons_left
    cases h1
    simp only [utf8Of] at h
    split at h
    · rename_i r hr
      cases h
      obtain ⟨ns, rfl, rfl⟩ := utf8Of_some hr h2
      exact ⟨n :: ns, rfl, rfl⟩
    · cases h
  | .int .i8 _ :: _, _, _, h, _ | .int .i16 _ :: _, _, _, h, _ | .int .u8 _ :: _, _, _, h, _ | .int .i64 _ :: _, _, _, h, _ | .int .u16 _ :: _, _, _, h, _ | .int .u32 _ :: _, _, _, h, _ | .int .u64 _ :: _, _, _, h, _
  | .bool _ :: _, _, _, h, _ | .ptr _ _ :: _, _, _, h, _ | .slice .. :: _, _, _, h, _ | .oth _ :: _, _, _, h, _ => by simp [utf8Of] at h
theorem push_runes : ∀ (ns : List Int) (s : ByteArray), ns.foldl (fun r n => r ++ Utf8.encode n) s = ⟨(s.data.toList ++ (ns.map fun n => (Utf8.encode n).data.toList).flatten).toArray⟩
  | [], s => by simp
  | n :: ns, s => by
    rw [List.foldl_cons, push_runes ns]
    simp
theorem read_convStr (hE : EnvOk P E) {src dst el : Nat} {s d ei : TI} (hs : E.ty src = some s) (hd : E.ty dst = some d) (hk : d.desc = .string) (hsd : s.desc = .slice el) (hei : E.ty el = some ei) (x : Operand) {kd : IntKind} {g : List CV → Option (List UInt8)}
    (hkd : (kd = .u8 ∧ g = bytesOf) ∨ (kd = .i32 ∧ g = utf8Of)) (hed : ei.desc = .int kd) : ReadOk P E (R := R) (.convert src dst x) (oConvStr g (cOpd E x)) := by
  intro T H k r h
  have hus := fun w => (hE.ty _ _ hs).run_und w
  have hud := fun w => (hE.ty _ _ hd).run_und w
  have hue := fun w => (hE.ty _ _ hei).run_und w
  obtain ⟨v, h1, h2⟩ := cOpd_some h
  rcases slK_some h2 with ⟨rfl, h3⟩ | ⟨b, o, sz, len, cap, rfl, h3⟩
  · refine ⟨_, h3, fun w0 B ρ e q w hq hr hx => ?_⟩
    have hX : e x = .slice none 0 0 := hx x (by simp [Op.operands]) _ h1
    refine ⟨.string .empty, ?_, rfl⟩
    rcases hkd with ⟨rfl, rfl⟩ | ⟨rfl, rfl⟩ <;> simp [execOp, hq, hX, convert, hus, hud, hue, hsd, hk, hed, Conv.bytesToString, Conv.runesToString]
  · obtain ⟨h4, h5⟩ := cond_some h3
    have h4 := Nat.eq_of_beq_eq_true h4
    subst h4
    obtain ⟨cs, h6, h7⟩ := elemsK_some (P := P) h5
    split at h6
    · rename_i l hl
      refine ⟨_, h6, fun w0 B ρ e q w hq hr hx => ?_⟩
      obtain ⟨a, c, hX, hle, hsl⟩ := hx x (by simp [Op.operands]) _ h1
      obtain ⟨vs, h8, h9⟩ := h7 hr hle hsl (Nat.le_refl _)
      rw [Nat.mul_one] at h8
      rcases hkd with ⟨rfl, rfl⟩ | ⟨rfl, rfl⟩
      · obtain ⟨ns, rfl, rfl⟩ := bytesOf_some hl h9
        have g1 := run_bytesToString w a len c ns h8
        rw [push_bytes] at g1
        refine ⟨_, by simp [execOp, hq, hX, convert, hus, hud, hue, hsd, hk, hed, g1]; rfl, ?_⟩
        rfl
      · obtain ⟨ns, rfl, rfl⟩ := utf8Of_some hl h9
        have g1 := run_runesToString w a len c ns h8
        unfold runesBytes at g1
        rw [push_runes] at g1
        refine ⟨_, by simp [execOp, hq, hX, convert, hus, hud, hue, hsd, hk, hed, g1]; rfl, ?_⟩
        rfl
    · cases h6
theorem freeze_row {w : World} {b n m : Nat} {arr : Array Value} {el : TypeId} (h : w.heap[b]? = some (.cells arr el (0, 0))) (hm : m ≠ 0) : (w.freeze ⟨b, n, none⟩ m).heap[b]? = some (.cells arr el (n, n + m)) := by
  unfold World.freeze
  rw [if_neg hm]
  obtain ⟨hb, he⟩ := Array.getElem?_eq_some_iff.1 h
  simp [Array.getElem?_modify, h]
theorem freeze_other {w : World} {b n m i : Nat} (hi : i ≠ b) : (w.freeze ⟨b, n, none⟩ m).heap[i]? = w.heap[i]? := by
  unfold World.freeze
  split
  · rfl
  · simp [Array.getElem?_modify, Ne.symm hi]
end
end Go.Ev

namespace Go.Ev
open Go.RowKit (Below)
section
variable {P : Program} {E : Env} {R : Type}
theorem Rel.congr {w0 : World} {B : Nat} {ρ : Rho} {H H' : Hp} {w : World} (h : Rel w0 B ρ H w) (hn : H'.next = H.next) (hg : ∀ b, H'.get b = H.get b) : Rel w0 B ρ H' w :=
  ⟨fun b hb => h.fresh b (by omega), fun b hb => by rw [hg]; exact h.gone b (by omega), fun b x p h1 h2 => h.ok b x p (by rw [← hg]; exact h1) h2,
    fun b b' x x' p p' c h1 h1' => h.inj b b' x x' p p' c (by rw [← hg]; exact h1) (by rw [← hg]; exact h1'), fun b x p c h1 => h.own b x p c (by rw [← hg]; exact h1), h.below, h.size, h.lt⟩
/-- the world changes at one block, which says the same as before -/
theorem Rel.touch {w0 : World} {B : Nat} {ρ : Rho} {H : Hp} {w : World} (h : Rel w0 B ρ H w) {b : Nat} {x : Blk} {p : Pl} {c : Nat} (hb : H.get b = some x) (hp : ρ b = some p) (hc : p.blk? = some c) (hw : x.wr = true) {w' : World}
    (hs : w'.heap.size = w.heap.size) (hh : ∀ i, i ≠ c → w'.heap[i]? = w.heap[i]?) (ho : w'.os = w.os) (ht : w'.tape = w.tape) (hu : w'.output = w.output) (hy : BlkOk ρ w' x p) : Rel w0 B ρ H w' :=
  (h.write hb hp hc hw hs hh ho ht hu hy).congr rfl fun d => by
    rw [Hp.get_set]
    split
    · rename_i e; subst e; exact hb
    · rfl
theorem run_cap {s : Nat} (el : TypeId) (w : World) : ∃ c, (choose (.appendCap s 0 el)).run P w = .ok c w.drew ∧ s ≤ c := by
  refine ⟨_, by rw [run_choose_drew]; simp [Question.forced]; rfl, ?_⟩
  simp [Question.cut]
theorem run_capOf {s o : Nat} (el : TypeId) (w : World) : ∃ c, (choose (.appendCap s o el)).run P w = .ok c w.drew ∧ s ≤ c := by
  refine ⟨_, by rw [run_choose_drew]; simp [Question.forced]; rfl, ?_⟩
  simp [Question.cut]
theorem byteCells_ok {ρ : Rho} : ∀ (l : List UInt8), All2 (RC ρ) (byteCells l) (l.map fun b => Value.int .u8 b.toNat)
  | [] => trivial
  | _ :: l => ⟨rfl, byteCells_ok l⟩
theorem freeze_same (w : World) (a : Addr) (n : Nat) : (w.freeze a n).heap.size = w.heap.size ∧ (w.freeze a n).os = w.os ∧ (w.freeze a n).tape = w.tape ∧ (w.freeze a n).output = w.output := by
  unfold World.freeze
  split <;> simp
theorem heap_alloc_at (w : World) (o : Obj) : (w.alloc o).heap[w.heap.size]? = some o := by
  show (w.heap.push _)[w.heap.size]? = _; rw [Array.getElem?_push, if_pos rfl]
theorem Rel.layFrozen {w0 : World} {B : Nat} {ρ : Rho} {H : Hp} {w : World} (h : Rel w0 B ρ H w) {b : Nat} {cs : List CV} {opn : Bool} (arr : Array Value) (hb : H.get b = some (.row cs true opn)) (hn : ρ b = none) (el : TypeId)
    (vs : List Value) (rest : Array Value) (he : arr = vs.toArray ++ rest) (hv : All2 (RC ρ) cs vs) : Rel w0 B (upd ρ b (.at w.heap.size 0 arr.size)) H ((w.alloc (.cells arr el)).freeze ⟨w.heap.size, arr.size, none⟩ 1) := by
  subst he
  have hlay := h.layRow hb hn el rest hv
  have hsz : (vs.toArray ++ rest).size = vs.length + rest.size := by simp
  rw [← hsz] at hlay
  obtain ⟨f1, f2, f3, f4⟩ := freeze_same (w.alloc (.cells (vs.toArray ++ rest) el)) ⟨w.heap.size, (vs.toArray ++ rest).size, none⟩ 1
  refine hlay.touch hb (upd_self _ _ _) rfl rfl f1 (fun i hi => freeze_other hi) f2 f3 f4 ?_
  obtain ⟨arr', el', fz, g1, g2, g3, g4, g5⟩ := hlay.ok b _ _ hb (upd_self _ _ _)
  have hat := heap_alloc_at w (.cells (vs.toArray ++ rest) el)
  have hall := g1.symm.trans hat
  simp only [Option.some.injEq, Obj.cells.injEq] at hall
  obtain ⟨rfl, rfl, rfl⟩ := hall
  exact ⟨_, _, _, freeze_row hat (by decide), fun i hi => by omega, g3, g4, g5⟩
theorem run_markStringish {w : World} {b : Nat} {arr : Array Value} {el : TypeId} (h : w.heap[b]? = some (.cells arr el)) : (markStringish ⟨b, 0, none⟩).run P w = .ok () (w.freeze ⟨b, arr.size, none⟩ 1) := by
  have hsh : w.shape? b = some (el, arr.size) := by simp [World.shape?, h]
  simp only [markStringish]
  rw [Sem.run_bind, run_shape, hsh]
  rfl
theorem run_stringToBytes (el : TypeId) (t : ByteArray) (w : World) : ∃ (c : Nat) (rest : Array Value), t.size ≤ c ∧ rest.size = c - t.size ∧
    (Conv.stringToBytes el t).run P w = .ok (.slice (some ⟨w.heap.size, 0, none⟩) t.size c)
      ((w.drew.alloc (.cells ((t.data.toList.map fun b => Value.int .u8 b.toNat).toArray ++ rest) el)).freeze ⟨w.heap.size, ((t.data.toList.map fun b => Value.int .u8 b.toNat).toArray ++ rest).size, none⟩ 1) := by
  obtain ⟨c, hc, hle⟩ := run_cap (P := P) (s := t.size) el w
  refine ⟨c, Array.replicate (c - t.size) (.int .u8 0), hle, by simp, ?_⟩
  have harr : (t.data.map fun b => Value.int .u8 b.toNat) = (t.data.toList.map fun b => Value.int .u8 b.toNat).toArray := by rw [← Array.toList_map]
  unfold Conv.stringToBytes
  rw [Sem.run_bind, hc]
  simp only [Result.andThen_ok]
  rw [harr]
  generalize (t.data.toList.map fun b => Value.int .u8 b.toNat).toArray ++ Array.replicate (c - t.size) (.int .u8 0) = arr
  have hn : (newRow el arr).run P w.drew = .ok ⟨w.heap.size, 0, none⟩ (w.drew.alloc (.cells arr el)) := rfl
  have hm := run_markStringish (P := P) (heap_alloc_at w.drew (.cells arr el))
  have hm' : (markStringish ⟨w.heap.size, 0, none⟩).run P (w.drew.alloc (.cells arr el)) = .ok () ((w.drew.alloc (.cells arr el)).freeze ⟨w.heap.size, arr.size, none⟩ 1) := hm
  rw [Sem.run_bind, hn]
  simp only [Result.andThen_ok]
  rw [Sem.run_bind, hm']
  rfl
theorem alloc_convBytes (hE : EnvOk P E) {src dst el : Nat} {s d ei : TI} (hs : E.ty src = some s) (hd : E.ty dst = some d) (hsd : s.desc = .string) (hk : d.desc = .slice el) (hei : E.ty el = some ei) (hed : ei.desc = .int .u8) (x : Operand) :
    AllocOk P E (R := R) (.convert src dst x) (oConvBytes (cOpd E x)) := by
  intro T H k r h
  have hus := fun w => (hE.ty _ _ hs).run_und w
  have hud := fun w => (hE.ty _ _ hd).run_und w
  have hue := fun w => (hE.ty _ _ hei).run_und w
  obtain ⟨v, h1, h2⟩ := cOpd_some h
  obtain ⟨t, rfl, h3⟩ := strK_some h2
  obtain ⟨h4, h5⟩ := cond_some h3
  have h6 := newRowK_some h5
  rw [forceN_eq] at h6
  refine ⟨.row (byteCells t.data.toList) true true, .slice 1 t.size none, h6, fun w0 B ρ H' b e q w hq hr hb hn hx => ?_⟩
  have hX : e x = .string t := hx x (by simp [Op.operands]) _ h1
  obtain ⟨c, rest, hle, hre, hrun⟩ := run_stringToBytes (P := P) el t w
  have hlen : ((t.data.toList.map fun b => Value.int .u8 b.toNat).toArray ++ rest).size = c := by
    have : t.size = t.data.toList.length := by show t.data.size = _; rw [Array.length_toList]
    rw [Array.size_append, List.size_toArray, List.length_map]; omega
  refine ⟨.slice (some ⟨w.heap.size, 0, none⟩) t.size c, _, _, ?_, hr.drew.layFrozen _ hb hn el _ rest rfl (byteCells_ok t.data.toList), ?_⟩
  · simp only [execOp, hq, hX, convert]
    rw [Sem.run_bind, Sem.run_bind, hus, hsd]
    simp only [Result.andThen_ok]
    rw [Sem.run_bind, hud, hk]
    simp only [Result.andThen_ok]
    rw [Sem.run_bind, hue, hed]
    simp only [Result.andThen_ok]
    rw [hrun]
    rfl
  · exact ⟨_, _, rfl, hle, w.drew.heap.size, 0, _, upd_self _ _ _, .inl ⟨rfl, by omega⟩⟩
theorem runesK_some {ρ : Rho} : ∀ {l : List Value} {k : List CV → Option R} {r : R}, runesK l k = some r → ∃ cs, k cs = some r ∧ cs.length = l.length ∧ ∀ ρ, All2 (RC ρ) cs l
  | [], k, r, h => ⟨[], h, rfl, fun _ => trivial⟩
  | .int .i32 n :: l, k, r, h => by
    simp only [runesK, forceI_eq] at h
    obtain ⟨cs, h1, h2, h3⟩ := runesK_some (ρ := ρ) h
    exact ⟨_, h1, by simp [h2], fun ρ => ⟨rfl, h3 ρ⟩⟩
  | .int .i8 _ :: _, _, _, h | .int .i16 _ :: _, _, _, h | .int .u8 _ :: _, _, _, h | .int .i64 _ :: _, _, _, h | .int .u16 _ :: _, _, _, h | .int .u32 _ :: _, _, _, h | .int .u64 _ :: _, _, _, h
  | .bool _ :: _, _, _, h | .float .. :: _, _, _, h | .complex .. :: _, _, _, h | .string _ :: _, _, _, h | .pointer _ :: _, _, _, h | .slice .. :: _, _, _, h | .map _ :: _, _, _, h | .chan _ :: _, _, _, h
  | .nilFunc :: _, _, _, h | .func .. :: _, _, _, h | .nilIface :: _, _, _, h | .iface .. :: _, _, _, h | .agg _ :: _, _, _, h | .tuple _ :: _, _, _, h => by simp [runesK] at h
theorem run_stringToRunes (el : TypeId) (t : ByteArray) (w : World) : ∃ (c : Nat) (rest : Array Value), (Conv.runesFrom t t.size 0 #[]).size ≤ c ∧ rest.size = c - (Conv.runesFrom t t.size 0 #[]).size ∧
    (Conv.stringToRunes el t).run P w = .ok (.slice (some ⟨w.heap.size, 0, none⟩) (Conv.runesFrom t t.size 0 #[]).size c) (w.drew.alloc (.cells ((Conv.runesFrom t t.size 0 #[]) ++ rest) el)) := by
  unfold Conv.stringToRunes
  generalize Conv.runesFrom t t.size 0 #[] = arr
  obtain ⟨c, hc, hle⟩ := run_cap (P := P) (s := arr.size) el w
  refine ⟨c, Array.replicate (c - arr.size) (.int .i32 0), hle, by simp, ?_⟩
  simp only []
  rw [Sem.run_bind, hc]
  rfl
theorem alloc_convRunes (hE : EnvOk P E) {src dst el : Nat} {s d ei : TI} (hs : E.ty src = some s) (hd : E.ty dst = some d) (hsd : s.desc = .string) (hk : d.desc = .slice el) (hei : E.ty el = some ei) (hed : ei.desc = .int .i32) (x : Operand) :
    AllocOk P E (R := R) (.convert src dst x) (oConvRunes (cOpd E x)) := by
  intro T H k r h
  have hus := fun w => (hE.ty _ _ hs).run_und w
  have hud := fun w => (hE.ty _ _ hd).run_und w
  have hue := fun w => (hE.ty _ _ hei).run_und w
  obtain ⟨v, h1, h2⟩ := cOpd_some h
  obtain ⟨t, rfl, h3⟩ := strK_some h2
  obtain ⟨cs, h4, h5, h6⟩ := runesK_some (ρ := fun _ => none) h3
  rw [lenK_eq] at h4
  have h7 := newRowK_some h4
  refine ⟨.row cs true true, .slice 1 cs.length none, h7, fun w0 B ρ H' b e q w hq hr hb hn hx => ?_⟩
  have hX : e x = .string t := hx x (by simp [Op.operands]) _ h1
  obtain ⟨c, rest, hle, hre, hrun⟩ := run_stringToRunes (P := P) el t w
  have hlay := hr.drew.layRow hb hn el rest (h6 ρ)
  have hl : cs.length = (Conv.runesFrom t t.size 0 #[]).size := by rw [h5]; simp
  refine ⟨.slice (some ⟨w.heap.size, 0, none⟩) (Conv.runesFrom t t.size 0 #[]).size c, _, _, ?_, hlay, ?_⟩
  · simp only [execOp, hq, hX, convert]
    rw [Sem.run_bind, Sem.run_bind, hus, hsd]
    simp only [Result.andThen_ok]
    rw [Sem.run_bind, hud, hk]
    simp only [Result.andThen_ok]
    rw [Sem.run_bind, hue, hed]
    simp only [Result.andThen_ok]
    rw [hrun]
    rfl
  · show RC _ (.slice b 0 1 cs.length none) _
    rw [hl]
    exact ⟨_, _, rfl, hle, w.drew.heap.size, 0, _, upd_self _ _ _, .inl ⟨rfl, by simp; omega⟩⟩
end
end Go.Ev

namespace Go.Ev
open Go.RowKit (Below)
section
variable {P : Program} {E : Env} {R : Type}
theorem findB_some {ρ : Rho} {n : Nat} : ∀ {es : List (AV × AV × Nat)} {ms : List MapEntry} {x v : AV}, findB n es = some (x, v) → All2 (REnt ρ) es ms → ∃ m, ms.find? (·.born == n) = some m ∧ RV ρ x m.key ∧ RV ρ v m.val
  | [], ms, x, v, h, hm => by cases h
  | e :: es, ms, x, v, h, hm => by
    obtain ⟨m, ms', rfl, h1, h2⟩ := hm.cons_left
    simp only [findB] at h
    cases hb : Nat.beq e.2.2 n with
    | true =>
      rw [hb] at h
      cases h
      have hb := Nat.eq_of_beq_eq_true hb
      exact ⟨m, by simp [h1.2.2, hb], h1.1, h1.2.1⟩
    | false =>
      rw [hb] at h
      obtain ⟨m', h3, h4⟩ := findB_some h h2
      have hne : ¬ e.2.2 = n := by intro e'; rw [e'] at hb; simp at hb
      refine ⟨m', ?_, h4⟩
      rw [List.find?_cons_of_neg]
      · exact h3
      · simp [h1.2.2, hne]
theorem read_entry (x : Operand) : ReadOk P E (R := R) (.entry x) (oEntry (cOpd E x)) := by
  intro T H k r h
  obtain ⟨v, h1, h2⟩ := cOpd_some h
  obtain ⟨b, o, rfl, h3⟩ := ptrK_some h2
  obtain ⟨h4, h5⟩ := cond_some h3
  have h4 := Nat.eq_of_beq_eq_true h4
  subst h4
  split at h5
  · rename_i m since n seen last hb
    obtain ⟨es, clock, h6, h7⟩ := mapK_some h5
    obtain ⟨h8, h9⟩ := cond_some h7
    have h8 := Nat.eq_of_beq_eq_true h8
    subst h8
    split at h9
    · rename_i xk xv hf
      obtain ⟨p1, h10, h11⟩ := ptK_some h9
      obtain ⟨p2, h12, h13⟩ := ptK_some h10
      refine ⟨_, h12, fun w0 B ρ e q w hq hr hx => ?_⟩
      obtain ⟨B', O, L, h14, hX⟩ := hx x (by simp [Op.operands]) _ h1
      obtain ⟨hO, Bm, Om, Lm, h15, h16⟩ := hr.ok b _ _ hb h14
      subst hO
      obtain ⟨arr, h17, h18⟩ := hr.ok m _ _ h6 h15
      obtain ⟨me, g1, g2, g3⟩ := findB_some hf h18
      have k1 : (getObj B').run P w = .ok _ w := run_getObj' h16 (by simp)
      have k2 : (getObj Bm).run P w = .ok _ w := run_getObj' h17 (by simp)
      have k3 : ((n :: seen).reverse.toArray).back? = some n := by simp
      have k4 : arr.find? (·.born == n) = some me := by rw [← Array.find?_toList]; exact g1
      refine ⟨.tuple #[me.key, me.val], ?_, _, rfl, h11 g2, h13 g3, trivial⟩
      simp only [execOp, hq, hX, Instr.entry]
      rw [Sem.run_bind, Sem.run_bind, k1]
      simp only [Result.andThen_ok, k3]
      rw [Sem.run_bind, k2]
      simp [k4]
    · cases h9
  · cases h5
theorem op_store (hE : EnvOk P E) {t : Nat} {i : TI} (hi : E.ty t = some i) (a x : Operand) : OpOk P E (.store t a x) (oStore i.size (cOpd E a) (cOpd E x)) := by
  intro T H k h w0 B ρ e q w hq hr hx
  obtain ⟨p, h1, h2⟩ := cOpd_some h
  obtain ⟨b, o, rfl, h3⟩ := ptrK_some h2
  obtain ⟨v, h4, h5⟩ := cOpd_some h3
  obtain ⟨new, h6, h7⟩ := cellsK_some h5
  rw [lenK_eq] at h6
  obtain ⟨h8, h9⟩ := cond_some h6
  have h8 := Nat.eq_of_beq_eq_true h8
  obtain ⟨cs, opn, h10, h11, h12⟩ := writeK_some h9
  obtain ⟨B', O, L, h13, hA⟩ := hx a (by simp [Op.operands]) _ h1
  have hv := h7 (hx x (by simp [Op.operands]) _ h4)
  obtain ⟨w', h14, h15⟩ := hr.store (P := P) h10 h13 h11 hv
  refine ⟨undef, w', .und, _, ρ, .inr ⟨?_, rfl⟩, h12, h15, Nat.le_refl _, Ext.refl _ _, RV.und _⟩
  have hs := (hE.ty t i hi).run_size w
  have hl : (e x).cells.size = i.size := by rw [← Array.length_toList, ← hv.length, h8]
  simp [execOp, hq, Instr.storeAt, hA, run_sureAddr, storeVar, hs, hl, h14]

/-! Maps. -/
theorem putF_some {ki : KK} {x v : AV} {clock : Nat} : ∀ {es : List (AV × AV × Nat)} {k : List (AV × AV × Nat) → Bool → Option R} {r : R}, putF ki x v clock es k = some r →
    (findF ki x es = some none ∧ k (es ++ [(x, v, clock)]) true = some r) ∨ ∃ j e, es[j]? = some e ∧ keyEq ki x e.1 = some true ∧ (∀ (j' : Nat) (e' : AV × AV × Nat), j' < j → es[j']? = some e' → keyEq ki x e'.1 = some false) ∧ findF ki x es = some (some e.2.1) ∧ k (es.set j (x, v, e.2.2)) false = some r
  | [], k, r, h => .inl ⟨rfl, h⟩
  | e :: es, k, r, h => by
    simp only [putF] at h
    simp only [findF]
    split at h
    · rename_i hk
      exact .inr ⟨0, e, rfl, hk, fun j' e' hj => by omega, rfl, h⟩
    · rename_i hk
      rcases putF_some h with ⟨h1, h2⟩ | ⟨j, e', h1, h2, h3, h4, h5⟩
      · exact .inl ⟨h1, h2⟩
      · refine .inr ⟨j + 1, e', by simpa using h1, h2, fun j' e'' hj he => ?_, h4, h5⟩
        cases j' with
        | zero => simp at he; subst he; exact hk
        | succ j' => exact h3 j' e'' (by omega) (by simpa using he)
    · cases h
theorem all2_set {α β : Type} {r : α → β → Prop} : ∀ {xs : List α} {ys : List β} {j : Nat} {x : α} {y : β}, All2 r xs ys → r x y → All2 r (xs.set j x) (ys.set j y)
  | [], [], _, _, _, _, _ => trivial
  | [], _ :: _, _, _, _, h, _ => h.elim
  | _ :: _, [], _, _, _, h, _ => h.elim
  | _ :: _, _ :: _, 0, _, _, h, g => ⟨g, h.2⟩
  | _ :: _, _ :: _, j + 1, _, _, h, g => ⟨h.1, all2_set h.2 g⟩
theorem refK_some {v : AV} {k : Nat → Option R} {r : R} (h : refK v k = some r) : ∃ b, v = .o (.map b) ∧ k b = some r := by
  obtain ⟨o, rfl, h2⟩ := othK_some h
  split at h2
  · exact ⟨_, rfl, h2⟩
  · cases h2
theorem run_setObj {w : World} {r : Nat} {o o0 : Obj} (h : w.heap[r]? = some o0) (hc : ∀ a el fz, o0 ≠ .cells a el fz) : (setObj r o).run P w = .ok () { w with heap := w.heap.setIfInBounds r o } := by
  simp only [setObj, Sem.run, h]
  try (cases o0 <;> first | rfl | exact absurd rfl (hc _ _ _))
theorem Rel.setMap {w0 : World} {B : Nat} {ρ : Rho} {H : Hp} {w : World} (h : Rel w0 B ρ H w) {b : Nat} {x y : Blk} {Bb O L : Nat} (hb : H.get b = some x) (hp : ρ b = some (.at Bb O L)) (hw : x.wr = true) (o : Obj)
    (hy : ∀ w' : World, w'.heap[Bb]? = some o → BlkOk ρ w' y (.at Bb O L)) : Rel w0 B ρ (H.set b y) { w with heap := w.heap.setIfInBounds Bb o } := by
  have hlt := h.lt b _ _ hp rfl
  refine h.write hb hp rfl hw (by simp) (fun i hi => ?_) rfl rfl rfl (hy _ ?_)
  · show (w.heap.setIfInBounds Bb o)[i]? = _
    rw [Array.getElem?_setIfInBounds_ne (Ne.symm hi)]
  · show (w.heap.setIfInBounds Bb o)[Bb]? = _
    rw [Array.getElem?_setIfInBounds_self_of_lt hlt]
theorem op_mapUpdate (hE : EnvOk P E) {t kt et : Nat} {i ki : TI} (hi : E.ty t = some i) (hd : i.desc = .map kt et) (hki : E.ty kt = some ki) (m ix v : Operand) :
    OpOk P E (.mapUpdate t m ix v) (oMapUpdate (keyKind ki) (cOpd E m) (cOpd E ix) (cOpd E v)) := by
  intro T H k h w0 B ρ e q w hq hr hx
  obtain ⟨mv, h1, h2⟩ := cOpd_some h
  obtain ⟨xv, h3, h4⟩ := cOpd_some h2
  obtain ⟨vv, h5, h6⟩ := cOpd_some h4
  obtain ⟨b, rfl, h7⟩ := refK_some h6
  obtain ⟨h8, h9⟩ := cond_some h7
  obtain ⟨es, clock, h10, h11⟩ := mapK_some h9
  have hkt := hE.ty kt ki hki
  have hu := fun w => (hE.ty t i hi).run_und w
  obtain ⟨B', O, L, h12, hM⟩ := hx m (by simp [Op.operands]) _ h1
  have hX := hx ix (by simp [Op.operands]) _ h3
  have hV := hx v (by simp [Op.operands]) _ h5
  obtain ⟨arr, h13, h14⟩ := hr.ok b _ _ h10 h12
  have k1 : (getObj B').run P w = .ok _ w := run_getObj' h13 (by simp)
  have k2 := hkt.key xv h8 ρ _ w false hX
  rcases putF_some h11 with ⟨h15, h16⟩ | ⟨j, e', h15, h16, h17, h18, h19⟩
  · rw [Hp.setK_eq] at h16
    obtain ⟨fd, h17, h18⟩ := run_findKey hkt hX w h15 h14
    cases fd with
    | some p => exact h17.elim
    | none =>
      refine ⟨undef, _, .und, _, ρ, .inr ⟨?_, rfl⟩, h16, hr.setMap h10 h12 rfl (.map (arr.push { key := e ix, val := e v, born := clock }) (clock + 1)) fun w' hw' => ⟨_, hw', ?_⟩, Nat.le_refl _, Ext.refl _ _, RV.und _⟩
      · simp [execOp, hq, Instr.mapUpdate, hu, hd, hM, k1, k2, h18, run_setObj h13 (by simp)]
      · rw [Array.toList_push]
        exact h14.append ⟨⟨hX, hV, rfl⟩, trivial⟩
  · rw [Hp.setK_eq] at h19
    obtain ⟨fd, h20, h21⟩ := run_findKey hkt hX w h18 h14
    cases fd with
    | none => exact h20.elim
    | some p =>
      obtain ⟨j2, V⟩ := p
      obtain ⟨e2, m2, g1, g2, g3, g4, g5, g6, g7⟩ := h20
      have hj : j2 = j := by
        rcases Nat.lt_trichotomy j2 j with hlt | heq | hgt
        · have := h17 j2 e2 hlt g1
          rw [this] at g3; cases g3
        · exact heq
        · have := g7 j e' hgt h15
          rw [this] at h16; cases h16
      subst hj
      have hee : e2 = e' := by rw [g1] at h15; cases h15; rfl
      subst hee
      obtain ⟨m3, g8, g9⟩ := h14.get g1
      have hmm : m3 = m2 := by rw [g8] at g2; cases g2; rfl
      subst hmm
      have hkey := (keyEq_ok hkt g3 hX g9.1).bits rfl
      have hel : arr[j2]? = some m3 := by rw [← Array.getElem?_toList]; exact g8
      have hst : (Instr.keyThatStays m3.key (e ix)).run P w = .ok (e ix) w := by
        simp [Instr.keyThatStays, hkey.2]
      refine ⟨undef, _, .und, _, ρ, .inr ⟨?_, rfl⟩, h19, hr.setMap h10 h12 rfl (.map (arr.modify j2 fun e0 => { e0 with key := e ix, val := e v }) clock) fun w' hw' => ⟨_, hw', ?_⟩, Nat.le_refl _, Ext.refl _ _, RV.und _⟩
      · simp [execOp, hq, Instr.mapUpdate, hu, hd, hM, k1, k2, h21, run_setObj h13 (by simp), hel, hst]
      · have : (arr.modify j2 fun e0 => { e0 with key := e ix, val := e v }).toList = arr.toList.set j2 { m3 with key := e ix, val := e v } := by
          apply List.ext_getElem?
          intro i
          rw [Array.getElem?_toList, Array.getElem?_modify, List.getElem?_set]
          by_cases hij : j2 = i
          · subst hij
            obtain ⟨hlt, _⟩ := Array.getElem?_eq_some_iff.1 hel
            rw [if_pos rfl, if_pos rfl, hel, if_pos (by simpa using hlt)]
            rfl
          · rw [if_neg hij, if_neg hij, Array.getElem?_toList]
        rw [this]
        exact all2_set h14 ⟨hX, hV, g9.2.2⟩
end
end Go.Ev

namespace Go.Ev
open Go.RowKit (Below)
section
variable {P : Program} {E : Env} {R : Type}
theorem op_range (hE : EnvOk P E) {t : Nat} {i : TI} (hi : E.ty t = some i) (hd : i.desc = .string) (x : Operand) : OpOk P E (.range t x) (oRange (cOpd E x)) := by
  intro T H k h w0 B ρ e q w hq hr hx
  obtain ⟨v, h1, h2⟩ := cOpd_some h
  obtain ⟨s, rfl, h3⟩ := strK_some h2
  rw [Hp.newK_eq] at h3
  have hX : e x = .string s := hx x (by simp [Op.operands]) _ h1
  have hrel := hr.alloc (.stringIter s 0) (.iter s 0) 0 0 ⟨rfl, heap_alloc_at _ _⟩
  refine ⟨.pointer (some ⟨w.heap.size, 0, none⟩), _, _, _, _, .inl ?_, h3, hrel, by simp, upd_ext _ _ _, w.heap.size, 0, 0, upd_self _ _ _, rfl⟩
  simp [execOp, hq, Instr.range, (hE.ty t i hi).run_und, hd, hX]
theorem op_rangeMap (hE : EnvOk P E) {t kt et : Nat} {i : TI} (hi : E.ty t = some i) (hd : i.desc = .map kt et) (x : Operand) : OpOk P E (.range t x) (oRangeMap (cOpd E x)) := by
  intro T H k h w0 B ρ e q w hq hr hx
  obtain ⟨v, h1, h2⟩ := cOpd_some h
  obtain ⟨o, rfl, h3⟩ := othK_some h2
  split at h3
  · rw [Hp.newK_eq] at h3
    have hX : e x = .map none := hx x (by simp [Op.operands]) _ h1
    have hrel := hr.alloc (.mapIter none 0 #[] 0) (.miter none 0 [] 0) 0 0 ⟨rfl, 0, #[], 0, heap_alloc_at _ _⟩
    refine ⟨.pointer (some ⟨w.heap.size, 0, none⟩), _, _, _, _, .inl ?_, h3, hrel, by simp, upd_ext _ _ _, w.heap.size, 0, 0, upd_self _ _ _, rfl⟩
    simp [execOp, hq, Instr.range, (hE.ty t i hi).run_und, hd, hX]
  · rename_i m
    obtain ⟨es, clock, h4, h5⟩ := mapK_some h3
    rw [Hp.newK_eq] at h5
    obtain ⟨B', O, L, h6, hX⟩ := hx x (by simp [Op.operands]) _ h1
    obtain ⟨arr, h7, h8⟩ := hr.ok m _ _ h4 h6
    have k1 : (getObj B').run P w = .ok _ w := run_getObj' h7 (by simp)
    have hm : m < H.next := by
      rcases Nat.lt_or_ge m H.next with h' | h'
      · exact h'
      · rw [hr.gone m h'] at h4; cases h4
    have hrel := hr.alloc (.mapIter (some B') clock #[] clock) (.miter (some m) clock [] clock) 0 0 ⟨rfl, B', O, L, by rw [upd_ext _ _ _ m hm]; exact h6, heap_alloc_at _ _⟩
    refine ⟨.pointer (some ⟨w.heap.size, 0, none⟩), _, _, _, _, .inl ?_, h5, hrel, by simp, upd_ext _ _ _, w.heap.size, 0, 0, upd_self _ _ _, rfl⟩
    simp [execOp, hq, Instr.range, (hE.ty t i hi).run_und, hd, hX, k1]
  · cases h3
theorem op_next (x : Operand) : OpOk P E (.next x true) (oNext (cOpd E x)) := by
  intro T H k h w0 B ρ e q w hq hr hx
  obtain ⟨v, h1, h2⟩ := cOpd_some h
  unfold iterK at h2
  obtain ⟨b, o, rfl, h3⟩ := ptrK_some h2
  obtain ⟨h4, h5⟩ := cond_some h3
  have h4 := Nat.eq_of_beq_eq_true h4
  subst h4
  split at h5
  · rename_i s pos hb
    obtain ⟨B', O, L, h6, hX⟩ := hx x (by simp [Op.operands]) _ h1
    obtain ⟨hO, h7⟩ := hr.ok b _ _ hb h6
    subst hO
    have k1 : (getObj B').run P w = .ok _ w := run_getObj' h7 (by simp)
    simp only [nblt_iff] at h5
    by_cases hp : pos < s.size
    · rw [decide_eq_true hp] at h5
      simp only [cond_true, forceN_eq] at h5
      rw [Hp.setK_eq] at h5
      have hrel := hr.setMap hb h6 rfl (.stringIter s (pos + (Utf8.decode s pos).2)) (y := .iter s (pos + (Utf8.decode s pos).2)) fun w' hw' => ⟨rfl, hw'⟩
      refine ⟨.tuple #[.bool true, goInt pos, .int .i32 (Utf8.decode s pos).1], _, _, _, ρ, .inl ?_, h5, hrel, Nat.le_refl _, Ext.refl _ _, _, rfl, ⟨_, rfl, rfl⟩, ⟨_, rfl, rfl⟩, ⟨_, rfl, rfl⟩, trivial⟩
      simp only [execOp, hq, hX, Instr.next, Nat.add_zero]
      rw [Sem.run_bind, Sem.run_bind, k1]
      simp [hp, run_setObj h7 (by simp)]
    · rw [decide_eq_false hp] at h5
      refine ⟨.tuple #[.bool false], w, _, H, ρ, .inl ?_, h5, hr, Nat.le_refl _, Ext.refl _ _, _, rfl, ⟨_, rfl, rfl⟩, trivial⟩
      simp only [execOp, hq, hX, Instr.next, Nat.add_zero]
      rw [Sem.run_bind, Sem.run_bind, k1]
      simp [hp]
  · cases h5
theorem memN_eq (n : Nat) : ∀ l : List Nat, memN n l = l.contains n
  | [] => rfl
  | m :: l => by
    simp only [memN, List.contains_cons, memN_eq n l, nbeq_eq]
    by_cases h : m = n
    · subst h; simp
    · have h' : ¬ n = m := fun e => h e.symm
      simp [h, h']
theorem leftF_some {ρ : Rho} {seen : List Nat} {since : Nat} : ∀ {es l : List (AV × AV × Nat)} {ms : List MapEntry}, leftF seen since es = some l → All2 (REnt ρ) es ms →
    All2 (REnt ρ) l (ms.filter fun m => !seen.contains m.born) ∧ ∀ m ∈ ms.filter (fun m => !seen.contains m.born), m.born < since
  | [], l, ms, h, hm => by cases h; rw [hm.nil_left]; exact ⟨trivial, by simp⟩
  | e :: es, l, ms, h, hm => by
    obtain ⟨m, ms', rfl, h1, h2⟩ := hm.cons_left
    simp only [leftF, memN_eq] at h
    cases hc : seen.contains e.2.2 with
    | true =>
      rw [hc] at h
      obtain ⟨g1, g2⟩ := leftF_some h h2
      rw [List.filter_cons_of_neg (by rw [h1.2.2, hc]; simp)]
      exact ⟨g1, g2⟩
    | false =>
      rw [hc] at h
      simp only [cond_false] at h
      obtain ⟨h3, h4⟩ := cond_some h
      rw [nblt_iff, decide_eq_true_eq] at h3
      split at h4
      · rename_i l' hl
        cases h4
        obtain ⟨g1, g2⟩ := leftF_some hl h2
        rw [List.filter_cons_of_pos (by rw [h1.2.2, hc]; simp)]
        refine ⟨⟨h1, g1⟩, fun m' hm' => ?_⟩
        rcases List.mem_cons.1 hm' with rfl | hm'
        · rw [h1.2.2]; exact h3
        · exact g2 m' hm'
      · cases h4
theorem anyOld_some {ρ : Rho} {last : Nat} : ∀ {es : List (AV × AV × Nat)} {ms : List MapEntry}, anyOld last es = true → All2 (REnt ρ) es ms → ms.all (fun m => decide (m.born ≥ last)) = false
  | [], ms, h, hm => by cases h
  | e :: es, ms, h, hm => by
    obtain ⟨m, ms', rfl, h1, h2⟩ := hm.cons_left
    simp only [anyOld, nblt_iff] at h
    by_cases hb : e.2.2 < last
    · rw [List.all_cons, h1.2.2, decide_eq_false (by omega)]; rfl
    · rw [decide_eq_false hb] at h
      rw [List.all_cons, anyOld_some h h2, Bool.and_false]
theorem allK_some {f : AV × AV × Nat → Option Unit} : ∀ {l : List (AV × AV × Nat)} {d : Option Unit}, allK f l d = some () → ∀ e ∈ l, f e = some ()
  | [], d, _, e, he => by cases he
  | x :: l, d, h, e, he => by
    simp only [allK] at h
    split at h
    · cases h
    · rename_i r hr
      rcases List.mem_cons.1 he with rfl | he
      · exact hr
      · exact allK_some h e he
theorem run_chooseMap (n : Nat) (hn : 0 < n) (w : World) : ∃ c w', (choose (.mapNext n)).run P w = .ok c w' ∧ c < n ∧ (w' = w ∨ w' = w.drew) := by
  rw [run_choose_drew]
  by_cases hf : n ≤ 1
  · exact ⟨0, w, by simp [Question.forced, hf], hn, .inl rfl⟩
  · refine ⟨w.tape w.drawn (.mapNext n) % n, w.drew, by simp [Question.forced, hf, Question.cut], Nat.mod_lt _ hn, .inr rfl⟩
theorem op_nextMap (x : Operand) : OpOk P E (.next x false) (oNextMap (cOpd E x)) := by
  intro T H k h w0 B ρ e q w hq hr hx
  obtain ⟨v, h1, h2⟩ := cOpd_some h
  obtain ⟨b, o, rfl, h3⟩ := ptrK_some h2
  obtain ⟨h4, h5⟩ := cond_some h3
  have h4 := Nat.eq_of_beq_eq_true h4
  subst h4
  obtain ⟨B', O, L, h6, hX⟩ := hx x (by simp [Op.operands]) _ h1
  split at h5
  · rename_i hb
    obtain ⟨hO, a', b', c', h7⟩ := hr.ok b _ _ hb h6
    subst hO
    have k1 : (getObj B').run P w = .ok _ w := run_getObj' h7 (by simp)
    refine ⟨.tuple #[.bool false], w, _, H, ρ, .inl ?_, h5, hr, Nat.le_refl _, Ext.refl _ _, _, rfl, ⟨_, rfl, rfl⟩, trivial⟩
    simp only [execOp, hq, hX, Instr.next, Nat.add_zero]
    rw [Sem.run_bind, Sem.run_bind, k1]
    simp
  · rename_i m since seen last hb
    obtain ⟨es, clock, h8, h9⟩ := mapK_some h5
    obtain ⟨h10, h11⟩ := cond_some h9
    obtain ⟨hO, Bm, Om, Lm, h12, h7⟩ := hr.ok b _ _ hb h6
    subst hO
    obtain ⟨arr, h13, h14⟩ := hr.ok m _ _ h8 h12
    have k1 : (getObj B').run P w = .ok _ w := run_getObj' h7 (by simp)
    have k2 : (getObj Bm).run P w = .ok _ w := run_getObj' h13 (by simp)
    have hguard : (!(seen.reverse.toArray).isEmpty && !arr.isEmpty && arr.all (fun m => decide (m.born ≥ last))) = false := by
      rw [Bool.or_eq_true, Bool.or_eq_true] at h10
      rcases h10 with (h10 | h10) | h10
      · cases seen with
        | nil => simp
        | cons => cases h10
      · cases es with
        | nil =>
          have : arr = #[] := by
            have := h14.nil_left
            simpa using this
          subst this
          simp
        | cons => cases h10
      · have := anyOld_some h10 h14
        rw [Array.all_toList] at this
        rw [this, Bool.and_false]
    have hfil : (arr.filter fun e => !(seen.reverse.toArray).contains e.born).toList = arr.toList.filter fun m => !seen.contains m.born := by
      rw [Array.toList_filter]
      congr 1
      funext m
      simp
    cases hl : leftF seen since es with
    | none => rw [hl] at h11; cases h11
    | some l =>
      rw [hl] at h11
      obtain ⟨g1, g2⟩ := leftF_some hl h14
      rw [← hfil] at g1 g2
      generalize hleft : (arr.filter fun e => !(seen.reverse.toArray).contains e.born) = left at g1 g2
      have hold : left.filter (fun e => decide (e.born < since)) = left := by
        rw [Array.filter_eq_self]
        intro a ha
        exact decide_eq_true (g2 a (by simpa using ha))
      have hnew : left.filter (fun e => decide (e.born ≥ since)) = #[] := by
        rw [Array.filter_eq_empty_iff]
        intro a ha
        have := g2 a (by simpa using ha)
        simp; omega
      cases l with
      | nil =>
        have hle : left = #[] := by
          have := g1.nil_left
          simpa using this
        subst hle
        refine ⟨.tuple #[.bool false], w, _, H, ρ, .inl ?_, h11, hr, Nat.le_refl _, Ext.refl _ _, _, rfl, ⟨_, rfl, rfl⟩, trivial⟩
        simp only [execOp, hq, hX, Instr.next, Nat.add_zero]
        rw [Sem.run_bind, Sem.run_bind, k1]
        simp only [Result.andThen_ok]
        rw [Sem.run_bind, k2]
        simp only [Result.andThen_ok, hguard, hleft, hold, hnew]
        simp [Question.forced]
      | cons e0 l' =>
        have hall := allK_some (show allK (fun e => ptK e.1 fun x => ptK e.2.1 fun v => H.setK b (.miter (some m) since (e.2.2 :: seen) clock) fun H => k (.tup [(false, [.bool true]), x, v]) H) (e0 :: l') none = some () from h11)
        have hne : left.isEmpty = false := by
          obtain ⟨y, ys, hy, _⟩ := g1.cons_left
          cases left with
          | mk ll => simp at hy; subst hy; rfl
        have hpos : 0 < left.size := by
          rcases Nat.eq_zero_or_pos left.size with h0 | h0
          · have := Array.eq_empty_of_size_eq_zero h0; subst this; simp at hne
          · exact h0
        obtain ⟨c, w', hc, hlt, hw'⟩ := run_chooseMap (P := P) left.size hpos w
        have hr' : Rel w0 B ρ H w' := by
          rcases hw' with rfl | rfl
          · exact hr
          · exact hr.drew
        have hheap : w'.heap = w.heap := by rcases hw' with rfl | rfl <;> rfl
        have hlen := g1.length
        have hcl : c < (e0 :: l').length := by rw [hlen]; simpa using hlt
        obtain ⟨me, k3, k4⟩ := g1.get (i := c) (x := (e0 :: l')[c]) (by simp [hcl])
        have h15 := hall _ (List.getElem_mem hcl)
        obtain ⟨p1, h16, h17⟩ := ptK_some h15
        obtain ⟨p2, h18, h19⟩ := ptK_some h16
        rw [Hp.setK_eq] at h18
        have h7' := h7
        rw [← hheap] at h7'
        have hrel := hr'.setMap hb h6 rfl (.mapIter (some Bm) since (seen.reverse.toArray.push me.born) clock) (y := .miter (some m) since ((e0 :: l')[c].2.2 :: seen) clock) fun w'' hw'' => ⟨rfl, Bm, Om, Lm, h12, by
          rw [hw'', k4.2.2]; simp⟩
        refine ⟨.tuple #[.bool true, me.key, me.val], _, _, _, ρ, .inl ?_, h18, hrel, Nat.le_refl _, Ext.refl _ _, _, rfl, ⟨_, rfl, rfl⟩, h17 k4.1, h19 k4.2.1, trivial⟩
        have k5 : left[c]? = some me := by
          rw [Array.getElem?_toList] at k3
          exact k3
        simp only [execOp, hq, hX, Instr.next, Nat.add_zero]
        rw [Sem.run_bind, Sem.run_bind, k1]
        simp only [Result.andThen_ok]
        rw [Sem.run_bind, k2]
        simp only [Result.andThen_ok, hguard, hleft, hold, hnew, hne]
        simp [-run_choose, -run_choose_drew, hc, k5, run_setObj h7' (by simp)]
  · cases h5
end
end Go.Ev

namespace Go.Ev
open Go.RowKit (Below)
section
variable {P : Program} {E : Env} {R : Type}
/-! Writing at any place of a row. -/
theorem run_write {w : World} {B p : Nat} {arr : Array Value} {el : TypeId} {fz : Nat × Nat} {vs : List Value} (h : w.heap[B]? = some (.cells arr el fz)) (hf : Frz arr fz) (hl : p + vs.length ≤ arr.size) (ho : ∀ v ∈ vs, v.oneCell' = true) :
    ∃ w' arr', (storeCells ⟨B, p, none⟩ vs).run P w = .ok () w' ∧ w'.heap[B]? = some (.cells arr' el fz) ∧ arr'.size = arr.size ∧ (∀ i, arr'[i]? = if p ≤ i ∧ i < p + vs.length then vs[i - p]? else arr[i]?) ∧
      (∀ i, i ≠ B → w'.heap[i]? = w.heap[i]?) ∧ w'.heap.size = w.heap.size ∧ w'.os = w.os ∧ w'.tape = w.tape ∧ w'.output = w.output := by
  obtain ⟨lo, hi⟩ := fz
  obtain ⟨g1, g2, g3, g4, g5⟩ := setCells_heap B vs (p + 0) w
  obtain ⟨arr', k1, k2, k3⟩ := setCells_row B el (lo, hi) vs (p + 0) w arr h (by omega)
  refine ⟨w.setCells B (p + 0) vs, arr', run_storeCells_cells B p vs 0 w ?_ ?_ ho, k1, k2, k3, g1, g2, g3, g4, g5⟩
  · intro j hj
    have : p + j < arr.size := by omega
    simp [World.cell?, h, this]
  · intro j hj
    simp only [World.frozen?, h]
    have := hf (p + j) (by omega)
    simp only [not_and, Nat.not_lt] at this
    simp only [Nat.add_zero, Bool.and_eq_false_iff, decide_eq_false_iff_not]
    rcases Nat.lt_or_ge (p + j) lo with h6 | h6
    · left; omega
    · right; have := this h6; omega
/-- a row dies, and lies anew as another block -/
theorem Rel.regrow {w0 : World} {B0 : Nat} {ρ : Rho} {H : Hp} {w : World} (h : Rel w0 B0 ρ H w) {b B O L O' L' : Nat} {x y : Blk} (hb : H.get b = some x) (hp : ρ b = some (.at B O L)) (hw : x.wr = true) {w' : World}
    (hs : w'.heap.size = w.heap.size) (hh : ∀ i, i ≠ B → w'.heap[i]? = w.heap[i]?) (ho : w'.os = w.os) (ht : w'.tape = w.tape) (hu : w'.output = w.output)
    (hy : BlkOk (upd ρ H.next (.at B O' L')) w' y (.at B O' L')) : Rel w0 B0 (upd ρ H.next (.at B O' L')) ((H.set b .dead).new y) w' := by
  have hB : B0 ≤ B := h.own b x _ B hb hp hw rfl
  have hlt : b < H.next := by
    rcases Nat.lt_or_ge b H.next with h1 | h1
    · exact h1
    · rw [h.gone b h1] at hb; cases hb
  have hne : ∀ c, c ≠ H.next → upd ρ H.next (.at B O' L') c = ρ c := fun c hc => if_neg hc
  have hg : ∀ c, ((H.set b .dead).new y).get c = if c = H.next then some y else if c = b then some .dead else H.get c := fun c => by
    rw [Hp.get_new, Hp.get_set]; rfl
  have old : ∀ {c z}, ((H.set b .dead).new y).get c = some z → c ≠ H.next → z.live = true → c ≠ b ∧ H.get c = some z := by
    intro c z h1 h2 h3
    rw [hg, if_neg h2] at h1
    split at h1
    · cases h1; cases h3
    · exact ⟨by assumption, h1⟩
  have wl : ∀ {z : Blk}, z.wr = true → z.live = true := fun {z} hz => by cases z <;> first | rfl | (cases hz)
  refine ⟨?_, ?_, ?_, ?_, ?_, ?_, by rw [hs]; exact h.size, ?_⟩
  · intro c hc
    simp at hc
    rw [hne c (by omega)]
    exact h.fresh c (by omega)
  · intro c hc
    simp at hc
    rw [hg, if_neg (by omega), if_neg (by omega)]
    exact h.gone c (by omega)
  · intro c z p h1 h2
    by_cases hc : c = H.next
    · subst hc
      rw [upd_self] at h2
      rw [hg, if_pos rfl] at h1
      cases h1; cases h2
      exact hy
    · rw [hne c hc] at h2
      cases hl : z.live with
      | false => cases z <;> first | (cases hl; done) | (cases p <;> trivial)
      | true =>
        obtain ⟨h3, h4⟩ := old h1 hc hl
        refine ((h.ok c z p h4 h2).mono (h.sub (upd_ext _ _ _))).world fun d hd => hh d fun e => ?_
        subst e
        exact h.inj b c x z _ p d hb h4 hp h2 (Ne.symm h3) hw hl rfl hd
  · intro c c' z z' p p' d h1 h1' h2 h2' hcc hwz hlz hd hd'
    by_cases hc : c = H.next
    · subst hc
      rw [upd_self] at h2
      cases h2
      cases hd
      obtain ⟨h3, h4⟩ := old h1' (Ne.symm hcc) hlz
      rw [hne c' (Ne.symm hcc)] at h2'
      exact h.inj b c' x z' _ p' _ hb h4 hp h2' (Ne.symm h3) hw hlz rfl hd'
    · obtain ⟨h3, h4⟩ := old h1 hc (wl hwz)
      rw [hne c hc] at h2
      by_cases hc' : c' = H.next
      · subst hc'
        rw [upd_self] at h2'
        cases h2'
        cases hd'
        exact h.inj b c x z _ p _ hb h4 hp h2 (Ne.symm h3) hw (wl hwz) rfl hd
      · obtain ⟨h3', h4'⟩ := old h1' hc' hlz
        rw [hne c' hc'] at h2'
        exact h.inj c c' z z' p p' d h4 h4' h2 h2' hcc hwz hlz hd hd'
  · intro c z p d h1 h2 hwz hd
    by_cases hc : c = H.next
    · subst hc
      rw [upd_self] at h2
      cases h2
      cases hd
      exact hB
    · obtain ⟨h3, h4⟩ := old h1 hc (wl hwz)
      rw [hne c hc] at h2
      exact h.own c z p d h4 h2 hwz hd
  · exact h.below.trans ⟨ho, ht, hu, by rw [hs]; exact Nat.le_refl _, fun k hk => hh k (by omega)⟩
  · intro c p d h2 hd
    by_cases hc : c = H.next
    · subst hc
      rw [upd_self] at h2
      cases h2
      cases hd
      rw [hs]
      exact h.lt b _ _ hp rfl
    · rw [hne c hc] at h2
      rw [hs]
      exact h.lt c p d h2 hd
theorem growBy_le (n : Nat) : ∀ (r c : Nat), Builtin.growBy n r c ≤ max c (n + (n + 768) / 4)
  | 0, c => by simp [Builtin.growBy]; omega
  | r + 1, c => by
    simp only [Builtin.growBy]
    split
    · omega
    · have := growBy_le n r (c + (c + 768) / 4)
      omega
theorem nextcap_le {n o : Nat} (h : o < n) : Builtin.nextslicecap n o ≤ 2 * n + 192 := by
  unfold Builtin.nextslicecap
  split
  · omega
  · split
    · omega
    · have := growBy_le n 4 o
      omega
theorem cap_room {n o by' : Nat} (h : o < n) (hb : n * (by' + 1) ≤ 1099511627776) : ¬ (Builtin.nextslicecap n o * by' > 2 ^ 48) := by
  have h1 := nextcap_le h
  have h2 : Builtin.nextslicecap n o * by' ≤ (2 * n + 192) * by' := Nat.mul_le_mul_right _ h1
  rw [Nat.mul_add, Nat.mul_one] at hb
  rw [Nat.add_mul, Nat.mul_assoc] at h2
  have h3 : by' ≤ n * by' := Nat.le_mul_of_pos_left _ (by omega)
  omega
section app
variable {t t' el : Nat} {ts : List TypeId} {i i' ei : TI} {base : Option Addr} {sLen sCap n : Nat} {x : Value} {w : World} {vs : List Value} (hi : TyOk P t i) (hd : i.desc = .slice el) (hi' : TyOk P t' i') (hei : TyOk P el ei) (ty : TypeId)
include hi hd hi' hei
theorem run_app_room (hz : ∀ k, i'.desc ≠ .int k) (hn : (Builtin.lenOf x).run P w = .ok n w) (hv : (Builtin.firstCells ei.size n x).run P w = .ok vs.toArray w) (hroom : sLen + n ≤ sCap) {w' : World}
    (hs : match base with | some a => (storeCells (a.add (sLen * ei.size)) vs).run P w = .ok () w' | none => w' = w) :
    (Builtin.append_ (t :: t' :: ts).toArray ty #[.slice base sLen sCap, x]).run P w = .ok (.slice base (sLen + n) sCap) w' := by
  have hu := hi.run_und w
  have hu' := hi'.run_und w
  have hsz := hei.run_size w
  have hm : (match i'.desc with | .int _ => true | _ => false) = false := by
    cases hd' : i'.desc <;> first | rfl | exact absurd hd' (hz _)
  cases base with
  | none =>
    subst hs
    simp [Builtin.append_, hu, hu', hd, hsz, hm, hn, hv, hroom]
  | some a => simp [Builtin.append_, hu, hu', hd, hsz, hm, hn, hv, hroom, hs]
theorem run_app_grow (hz : ∀ k, i'.desc ≠ .int k) (hn : (Builtin.lenOf x).run P w = .ok n w) (hv : ∀ w' : World, w'.heap = w.heap → (Builtin.firstCells ei.size n x).run P w' = .ok vs.toArray w') (hgrow : sCap < sLen + n)
    (hb : (sLen + n) * (ei.bytes + 1) ≤ 1099511627776) {olds : List Value} (ho : ∀ w' : World, w'.heap = w.heap → (Builtin.firstCells ei.size sLen (.slice base sLen sCap)).run P w' = .ok olds.toArray w') :
    ∃ (c : Nat) (rest : Array Value), sLen + n ≤ c ∧ rest.size = (c - (sLen + n)) * ei.size ∧
      (Builtin.append_ (t :: t' :: ts).toArray ty #[.slice base sLen sCap, x]).run P w = .ok (.slice (some ⟨w.heap.size, 0, none⟩) (sLen + n) c) (w.drew.alloc (.cells ((olds ++ vs).toArray ++ rest) el)) := by
  have hu := hi.run_und w
  have hu' := hi'.run_und w
  have hsz := hei.run_size w
  obtain ⟨inf, hinf, hsi, hby, z, hzz, hzr⟩ := hei.info
  have hm : (match i'.desc with | .int _ => true | _ => false) = false := by
    cases hd' : i'.desc <;> first | rfl | exact absurd hd' (hz _)
  obtain ⟨c, hc, hle⟩ := run_capOf (P := P) (s := sLen + n) (o := sCap) el w
  have hroom : ¬ (sLen + n ≤ sCap) := by omega
  have hcap : ¬ (281474976710656 < Builtin.nextslicecap (sLen + n) sCap * ei.bytes) := by
    have := cap_room hgrow hb
    simpa using this
  have h63 : ¬ ((9223372036854775807 : Int) < ((sLen : Int) + (n : Int))) := by
    rw [Nat.mul_add, Nat.mul_one] at hb
    omega
  have hzl : z.cells.size = ei.size := by
    have := (cells_of (fun g => (hei.one g).1) (hzr fun _ => none)).length
    rw [hei.len] at this
    rw [this]; simp
  refine ⟨c, Builtin.zeroCells z.cells (c - (sLen + n)), hle, by simp [Builtin.zeroCells, hzl], ?_⟩
  have hv' := hv w.drew rfl
  have ho' := ho w.drew rfl
  have hv2 := hv w rfl
  simp [-run_choose, -run_choose_drew, Builtin.append_, hu, hu', hd, hsz, hm, hn, hv', ho', hroom, typeInfo, zeroValue, hinf, hzz, hby, hcap, h63, hc, newRow]
  have e : (olds ++ vs).toArray = olds.toArray ++ vs.toArray := by simp
  rw [e, Array.append_assoc]
theorem run_appz_room {kd : IntKind} (hz : ∃ k, i'.desc = .int k) (hv : vs.toArray = (if n * ei.size = 0 then #[] else (fun z : Value => Builtin.zeroCells z.cells n) (((P.info? el).bind (·.zero)).getD undef))) (hnb : n * (ei.bytes + 1) ≤ 1099511627776) (hroom : sLen + n ≤ sCap) {w' : World}
    (hs : match base with | some a => (storeCells (a.add (sLen * ei.size)) vs).run P w = .ok () w' | none => w' = w) :
    (Builtin.append_ (t :: t' :: ts).toArray ty #[.slice base sLen sCap, .int kd (Int.ofNat n)]).run P w = .ok (.slice base (sLen + n) sCap) w' := by
  have hu := hi.run_und w
  have hu' := hi'.run_und w
  have hsz := hei.run_size w
  obtain ⟨inf, hinf, hsi, hby, z, hzz, hzr⟩ := hei.info
  obtain ⟨k, hk⟩ := hz
  rw [Nat.mul_add, Nat.mul_one] at hnb
  have h1 : IntKind.i64.wrap ((n : Nat) : Int) = (n : Int) := wrap_nat (by simp only [limF]; omega)
  have h2 : ¬ ((n : Int) < 0) := by omega
  have h3 : ¬ ((281474976710656 : Int) < (n : Int) * (ei.bytes : Int)) := by
    have : ((n * ei.bytes : Nat) : Int) ≤ 1099511627776 := by omega
    rw [Int.natCast_mul] at this
    omega
  simp only [hinf, Option.bind_some, hzz, Option.getD_some] at hv
  have hvl : vs = (if n * ei.size = 0 then #[] else Builtin.zeroCells z.cells n).toList := by rw [← hv]
  by_cases hn0 : n * ei.size = 0
  · rw [if_pos hn0] at hvl
    subst hvl
    cases base with
    | none =>
      subst hs
      simp [Builtin.append_, hu, hu', hd, hk, hsz, hroom, asInt, asIntOf, typeInfo, hinf, hby, h1, h2, h3, hn0]
    | some a =>
      cases hs
      simp [Builtin.append_, hu, hu', hd, hk, hsz, hroom, asInt, asIntOf, typeInfo, hinf, hby, h1, h2, h3, hn0, storeCells]
  · rw [if_neg hn0] at hvl
    subst hvl
    cases base with
    | none =>
      subst hs
      simp [Builtin.append_, hu, hu', hd, hk, hsz, hroom, asInt, asIntOf, typeInfo, zeroValue, hinf, hzz, hby, h1, h2, h3, hn0]
    | some a => simp [Builtin.append_, hu, hu', hd, hk, hsz, hroom, asInt, asIntOf, typeInfo, zeroValue, hinf, hzz, hby, h1, h2, h3, hn0, hs]
theorem run_appz_grow {kd : IntKind} (hz : ∃ k, i'.desc = .int k) (hv : vs.toArray = (if n * ei.size = 0 then #[] else (fun z : Value => Builtin.zeroCells z.cells n) (((P.info? el).bind (·.zero)).getD undef))) (hnb : n * (ei.bytes + 1) ≤ 1099511627776) (hgrow : sCap < sLen + n)
    (hb : (sLen + n) * (ei.bytes + 1) ≤ 1099511627776) {olds : List Value} (ho : ∀ w' : World, w'.heap = w.heap → (Builtin.firstCells ei.size sLen (.slice base sLen sCap)).run P w' = .ok olds.toArray w') :
    ∃ (c : Nat) (rest : Array Value), sLen + n ≤ c ∧ rest.size = (c - (sLen + n)) * ei.size ∧
      (Builtin.append_ (t :: t' :: ts).toArray ty #[.slice base sLen sCap, .int kd (Int.ofNat n)]).run P w = .ok (.slice (some ⟨w.heap.size, 0, none⟩) (sLen + n) c) (w.drew.alloc (.cells ((olds ++ vs).toArray ++ rest) el)) := by
  have hu := hi.run_und w
  have hu' := hi'.run_und w
  have hsz := hei.run_size w
  obtain ⟨inf, hinf, hsi, hby, z, hzz, hzr⟩ := hei.info
  obtain ⟨k, hk⟩ := hz
  have hnb' := hnb
  rw [Nat.mul_add, Nat.mul_one] at hnb'
  have h1 : IntKind.i64.wrap ((n : Nat) : Int) = (n : Int) := wrap_nat (by simp only [limF]; omega)
  have h2 : ¬ ((n : Int) < 0) := by omega
  have h3 : ¬ ((281474976710656 : Int) < (n : Int) * (ei.bytes : Int)) := by
    have : ((n * ei.bytes : Nat) : Int) ≤ 1099511627776 := by omega
    rw [Int.natCast_mul] at this
    omega
  simp only [hinf, Option.bind_some, hzz, Option.getD_some] at hv
  obtain ⟨c, hc, hle⟩ := run_capOf (P := P) (s := sLen + n) (o := sCap) el w
  have hroom : ¬ (sLen + n ≤ sCap) := by omega
  have hcap : ¬ (281474976710656 < Builtin.nextslicecap (sLen + n) sCap * ei.bytes) := by
    have := cap_room hgrow hb
    simpa using this
  have h63 : ¬ ((9223372036854775807 : Int) < ((sLen : Int) + (n : Int))) := by
    rw [Nat.mul_add, Nat.mul_one] at hb
    omega
  have hzl : z.cells.size = ei.size := by
    have := (cells_of (fun g => (hei.one g).1) (hzr fun _ => none)).length
    rw [hei.len] at this
    rw [this]; simp
  refine ⟨c, Builtin.zeroCells z.cells (c - (sLen + n)), hle, by simp [Builtin.zeroCells, hzl], ?_⟩
  have ho' := ho w.drew rfl
  have e : (olds ++ vs).toArray = olds.toArray ++ vs.toArray := by simp
  rw [e, hv]
  by_cases hn0 : n * ei.size = 0
  · rw [if_pos hn0]
    simp [-run_choose, -run_choose_drew, Builtin.append_, hu, hu', hd, hk, hsz, asInt, asIntOf, h1, h2, h3, hn0, ho', hroom, typeInfo, zeroValue, hinf, hzz, hby, hcap, h63, hc, newRow]
  · rw [if_neg hn0]
    simp [-run_choose, -run_choose_drew, Builtin.append_, hu, hu', hd, hk, hsz, asInt, asIntOf, h1, h2, h3, hn0, ho', hroom, typeInfo, zeroValue, hinf, hzz, hby, hcap, h63, hc, newRow]
end app
end
end Go.Ev

namespace Go.Ev
open Go.RowKit (Below)
section
variable {P : Program} {E : Env} {R : Type}
/-- what is asked of a builtin function -/
def BOk (P : Program) (E : Env) (b : Builtin) (ts : Array TypeId) (f : BopF Unit) : Prop :=
  ∀ args H k, f args H k = some () → ∀ (w0 : World) (B : Nat) (ρ : Rho) (as : List Value) (t : TypeId) (cs : Array Bool) (w : World), Rel w0 B ρ H w → All2 (RV ρ) args as →
    ∃ u w' v H' ρ', (builtin b ts t cs as.toArray).run P w = .ok (.value u) w' ∧ k v H' = some () ∧ Rel w0 B ρ' H' w' ∧ H.next ≤ H'.next ∧ Ext H.next ρ ρ' ∧ RV ρ' v u
theorem ReadB.bok {b : Builtin} {ts : Array TypeId} {f : BopF Unit} (h : ReadB P E Unit b ts f) : BOk P E b ts f := by
  intro args H k hf w0 B ρ as t cs w hr ha
  obtain ⟨v, h1, h2⟩ := h args H k () hf
  obtain ⟨u, h3, h4⟩ := h2 w0 B ρ as t cs w hr ha
  exact ⟨u, w, v, H, ρ, h3, h1, hr, Nat.le_refl _, Ext.refl _ _, h4⟩
theorem bok_bad {b : Builtin} {ts : Array TypeId} : BOk P E b ts bBad := fun _ _ _ h => by cases h

/-- append, as it is carried out -/
structure AppOk (P : Program) (w : World) (size bytes el n : Nat) (vs : List Value) (f : Option Addr → Nat → Nat → Sem Value) : Prop where
  room : ∀ base sLen sCap w', sLen + n ≤ sCap → (match base with | some a => (storeCells (a.add (sLen * size)) vs).run P w = .ok () w' | none => w' = w) → (f base sLen sCap).run P w = .ok (.slice base (sLen + n) sCap) w'
  grow : ∀ base sLen sCap, sCap < sLen + n → (sLen + n) * (bytes + 1) ≤ 1099511627776 → ∀ olds : List Value, (∀ w' : World, w'.heap = w.heap → (Builtin.firstCells size sLen (.slice base sLen sCap)).run P w' = .ok olds.toArray w') →
    ∃ (c : Nat) (rest : Array Value), sLen + n ≤ c ∧ rest.size = (c - (sLen + n)) * size ∧ (f base sLen sCap).run P w = .ok (.slice (some ⟨w.heap.size, 0, none⟩) (sLen + n) c) (w.drew.alloc (.cells ((olds ++ vs).toArray ++ rest) el))
theorem run_firstCells_nil {size : Nat} (w : World) : (Builtin.firstCells size 0 (.slice none 0 0)).run P w = .ok (([] : List Value).toArray) w := rfl
theorem RowAt.heap {ρ : Rho} {w w' : World} {cs : List CV} {wr : Bool} {B O L : Nat} (h : RowAt ρ w cs wr B O L) (hw : w'.heap = w.heap) : RowAt ρ w' cs wr B O L := by
  obtain ⟨arr, el, fz, h1, h2⟩ := h
  exact ⟨arr, el, fz, by rw [hw]; exact h1, h2⟩
theorem RowAt.loadAll {ρ : Rho} {w : World} {cs : List CV} {wr : Bool} {B O L : Nat} (h : RowAt ρ w cs wr B O L) {o n : Nat} (hn : o + n ≤ cs.length) :
    ∃ vs : List Value, (∀ w' : World, w'.heap = w.heap → (loadCells ⟨B, O + o, none⟩ n).run P w' = .ok vs.toArray w') ∧ All2 (RC ρ) ((cs.drop o).take n) vs := by
  have key : ∀ j, j < n → ∃ u, w.cell? ⟨B, O + (o + j), none⟩ = some u ∧ ∃ c, cs[o + j]? = some c ∧ RC ρ c u := by
    intro j hj
    have hlt : o + j < cs.length := by omega
    obtain ⟨u, h1, h2⟩ := h.cell (i := o + j) (c := cs[o + j]) (by simp [hlt])
    exact ⟨u, h1, _, by simp [hlt], h2⟩
  let f : Nat → Value := fun j => (w.cell? ⟨B, O + (o + j), none⟩).getD undef
  refine ⟨(List.range n).map f, fun w' hw' => ?_, ?_⟩
  · refine run_loadCells w' _ n f fun j hj => ?_
    obtain ⟨u, h1, _⟩ := key j hj
    have hc : w'.cell? ⟨B, O + (o + j), none⟩ = w.cell? ⟨B, O + (o + j), none⟩ := by simp [World.cell?, hw']
    rw [addr_add, Nat.add_assoc, hc, h1]
    simp [f, h1]
  · refine all2_of (by simp; omega) ?_
    intro j c hc
    have hj : j < n := by
      rcases Nat.lt_or_ge j n with h' | h'
      · exact h'
      · rw [List.getElem?_take, if_neg (by omega)] at hc; cases hc
    obtain ⟨u, h1, c', h2, h3⟩ := key j hj
    rw [List.getElem?_take, if_pos hj, List.getElem?_drop, h2] at hc
    cases hc
    exact ⟨f j, by simp [hj], by simp [f, h1]; exact h3⟩
/-- the old elements, as append reads them -/
theorem olds_ok {w0 : World} {B : Nat} {ρ : Rho} {H : Hp} {w : World} (hr : Rel w0 B ρ H w) {b o sz len c : Nat} {cap : Option Nat} {a : Addr} {cs : List CV} {wr opn : Bool} (hb : H.get b = some (.row cs wr opn)) (hle : len ≤ c) (hs : RS ρ b o sz len cap a c) (hl : o + len * sz ≤ cs.length) :
    ∃ olds : List Value, (∀ w' : World, w'.heap = w.heap → (Builtin.firstCells sz len (.slice (some a) len c)).run P w' = .ok olds.toArray w') ∧ All2 (RC ρ) ((cs.drop o).take (len * sz)) olds := by
  by_cases hl0 : len = 0
  · subst hl0
    refine ⟨[], fun w' _ => ?_, by simp [All2]⟩
    show (loadCells a (0 * sz)).run P w' = _
    rw [Nat.zero_mul]
    rfl
  · obtain ⟨B', O, L, g1, rfl⟩ := rs_at hs hle hl0
    exact (show RowAt ρ w cs _ B' O L from hr.ok b _ _ hb g1).loadAll hl
/-- a new row for old elements and new ones -/
theorem app_fresh {w0 : World} {B : Nat} {ρ : Rho} {H : Hp} {w : World} (hr : Rel w0 B ρ H w) {el size len n c : Nat} {olds vs : List Value} {old new : List CV} {rest : Array Value} (ho : All2 (RC ρ) old olds) (hv : All2 (RC ρ) new vs) (hl : old.length = len * size) (hn : new.length = n * size)
    (hc : len + n ≤ c) (hre : rest.size = (c - (len + n)) * size) (opn : Bool) :
    Rel w0 B (upd ρ H.next (.at w.heap.size 0 (c * size))) (H.new (.row (old ++ new) true opn)) (w.drew.alloc (.cells ((olds ++ vs).toArray ++ rest) el)) ∧
      RV (upd ρ H.next (.at w.heap.size 0 (c * size))) (.s H.next 0 size (len + n) none) (.slice (some ⟨w.heap.size, 0, none⟩) (len + n) c) := by
  have hall := ho.append hv
  have hsum : (olds ++ vs).length + rest.size = c * size := by
    rw [List.length_append, ← ho.length, ← hv.length, hl, hn, hre, ← Nat.add_mul, ← Nat.add_mul]
    congr 1
    omega
  have hg := (hr.drew.grow (.row (old ++ new) true opn)).layRow (b := H.next) (by rw [Hp.get_new, if_pos rfl]) (hr.fresh _ (Nat.le_refl _)) el rest hall
  rw [hsum] at hg
  refine ⟨hg, _, _, rfl, hc, w.heap.size, 0, c * size, upd_self _ _ _, .inl ⟨rfl, by omega⟩⟩
theorem growK_some {H : Hp} {b o sz len n : Nat} {new : List CV} {kill : Bool} {k : AV → Hp → Option R} {r : R} (h : growK H b o sz len n new kill k = some r) :
    ∃ cs wr opn, H.get b = some (.row cs wr opn) ∧ o + len * sz ≤ cs.length ∧ (kill = true → wr = true) ∧
      k (.s (if kill then H.set b .dead else H).next 0 sz (len + n) none) ((if kill then H.set b .dead else H).new (.row ((cs.drop o).take (len * sz) ++ new) true true)) = some r := by
  unfold growK at h
  obtain ⟨cs, wr, opn, h1, h2⟩ := rowK_some h
  obtain ⟨h3, h4⟩ := ncond_some h2
  obtain ⟨h5, h6⟩ := cutK_some h4
  rw [appK_eq] at h6
  refine ⟨cs, wr, opn, h1, h5, ?_, ?_⟩
  · intro hk; subst hk; cases wr <;> simp_all
  · cases kill with
    | true =>
      simp only [cond_true] at h6
      rw [Hp.setK_eq] at h6
      have := newRowK_some h6
      rw [forceN_eq] at this
      exact this
    | false =>
      simp only [cond_false] at h6
      have := newRowK_some h6
      rw [forceN_eq] at this
      exact this
theorem appendF_ok {size bytes el n : Nat} (hsz : size ≠ 0) {H : Hp} {s : AV} {new : List CV} {k : AV → Hp → Option Unit} (h : appendF size bytes H s n new k = some ()) (hnl : new.length = n * size)
    {w0 : World} {B : Nat} {ρ : Rho} {w : World} {S : Value} {vs : List Value} {f : Option Addr → Nat → Nat → Sem Value} (hr : Rel w0 B ρ H w) (hS : RV ρ s S) (hv : All2 (RC ρ) new vs) (hf : AppOk P w size bytes el n vs f) :
    ∃ base sLen sCap u w' v H' ρ', S = .slice base sLen sCap ∧ (f base sLen sCap).run P w = .ok u w' ∧ k v H' = some () ∧ Rel w0 B ρ' H' w' ∧ H.next ≤ H'.next ∧ Ext H.next ρ ρ' ∧ RV ρ' v u := by
  unfold appendF at h
  rcases slK_some h with ⟨rfl, h1⟩ | ⟨b, o, sz, len, cap, rfl, h1⟩
  · cases hS
    refine ⟨none, 0, 0, ?_⟩
    cases hn : Nat.beq n 0 with
    | true =>
      rw [hn] at h1
      have hn := Nat.eq_of_beq_eq_true hn
      subst hn
      exact ⟨_, w, _, H, ρ, rfl, hf.room none 0 0 w (Nat.le_refl _) rfl, h1, hr, Nat.le_refl _, Ext.refl _ _, rfl⟩
    | false =>
      rw [hn] at h1
      simp only [cond_false] at h1
      obtain ⟨h2, h3⟩ := cond_some h1
      have h2 : n * (bytes + 1) ≤ 1099511627776 := Nat.le_of_ble_eq_true h2
      have h4 := newRowK_some h3
      have hn0 : n ≠ 0 := by intro e; subst e; cases hn
      obtain ⟨c, rest, g1, g2, g3⟩ := hf.grow none 0 0 (by omega) (by rw [Nat.zero_add]; exact h2) [] (fun w' _ => run_firstCells_nil w')
      obtain ⟨g4, g5⟩ := app_fresh (el := el) (olds := []) (old := []) (rest := rest) (c := c) (len := 0) (n := n) hr trivial hv (by simp) hnl g1 g2 true
      rw [Nat.zero_add] at g5 g3
      rw [List.nil_append] at g4
      exact ⟨_, _, _, _, _, rfl, g3, h4, g4, by simp, upd_ext _ _ _, g5⟩
  · obtain ⟨h2, h3⟩ := ncond_some h1
    rw [Bool.not_eq_false'] at h2
    have h2 := Nat.eq_of_beq_eq_true h2
    subst h2
    obtain ⟨a, c, rfl, hle, hs⟩ := hS
    refine ⟨some a, len, c, ?_⟩
    cases hn : Nat.beq n 0 with
    | true =>
      rw [hn] at h3
      have hn := Nat.eq_of_beq_eq_true hn
      subst hn
      have hv0 : vs = [] := by
        have : new = [] := List.eq_nil_of_length_eq_zero (by simpa using hnl)
        subst this
        exact hv.nil_left
      subst hv0
      exact ⟨_, w, _, H, ρ, rfl, hf.room (some a) len c w (by omega) rfl, h3, hr, Nat.le_refl _, Ext.refl _ _, a, c, rfl, hle, hs⟩
    | false =>
      rw [hn] at h3
      have hn0 : n ≠ 0 := by intro e; subst e; cases hn
      simp only [cond_false] at h3
      obtain ⟨h4, h5⟩ := ncond_some h3
      rw [Bool.not_eq_false'] at h4
      have h4 : (len + n) * (bytes + 1) ≤ 1099511627776 := Nat.le_of_ble_eq_true h4
      -- the write in place
      have inplace : ∀ cs opn B' O L, H.get b = some (.row cs true opn) → ρ b = some (.at B' O L) → a = ⟨B', O + o, none⟩ → o + (len + n) * sz ≤ cs.length → len + n ≤ c →
          ∃ w', (f (some a) len c).run P w = .ok (.slice (some a) (len + n) c) w' ∧ Rel w0 B ρ (H.set b (.row (cs.take (o + len * sz) ++ new ++ cs.drop (o + len * sz + new.length)) true opn)) w' := by
        intro cs opn B' O L e1 e2 e3 e4 e5
        obtain ⟨w', g1, g2⟩ := hr.store (P := P) (o := o + len * sz) e1 e2 (by rw [hnl, Nat.add_assoc, ← Nat.add_mul]; exact e4) hv
        refine ⟨w', hf.room (some a) len c w' e5 ?_, g2⟩
        show (storeCells (a.add (len * sz)) vs).run P w = _
        rw [e3, addr_add, Nat.add_assoc]
        exact g1
      split at h5
      · rename_i c0
        have hc0 : c = c0 := hs.1
        subst hc0
        cases hroom : Nat.ble (len + n) c with
        | true =>
          have hroom' := Nat.le_of_ble_eq_true hroom
          have h5 : (bif Nat.ble (len + n) c then _ else _) = some () := h5
          rw [hroom] at h5
          obtain ⟨cs, opn, e1, e2, e3⟩ := writeK_some h5
          rw [forceN_eq] at e3
          have e2' : o + len * sz + new.length ≤ cs.length := e2
          rw [hnl, Nat.add_assoc, ← Nat.add_mul] at e2'
          have hpl : ∃ B' O L, ρ b = some (.at B' O L) ∧ a = ⟨B', O + o, none⟩ := by
            rcases hs.2 with g | g
            · omega
            · exact g
          obtain ⟨B', O, L, g1, g2⟩ := hpl
          obtain ⟨w', g3, g4⟩ := inplace cs opn B' O L e1 g1 g2 e2' hroom'
          exact ⟨_, w', _, _, ρ, rfl, g3, e3, g4, Nat.le_refl _, Ext.refl _ _, a, c, rfl, hroom', rfl, .inr ⟨B', O, L, g1, g2⟩⟩
        | false =>
          have hroom' : ¬ (len + n ≤ c) := fun g => by rw [Nat.ble_eq_true_of_le g] at hroom; cases hroom
          have h5 : (bif Nat.ble (len + n) c then _ else _) = some () := h5
          rw [hroom] at h5
          simp only [cond_false] at h5
          cases hl0 : Nat.beq len 0 with
          | true =>
            rw [hl0] at h5
            have hl0 := Nat.eq_of_beq_eq_true hl0
            subst hl0
            have h6 := newRowK_some h5
            obtain ⟨c', rest, g3, g4, g5⟩ := hf.grow (some a) 0 c (by omega) h4 [] (fun w' _ => by show (loadCells a (0 * sz)).run P w' = _; rw [Nat.zero_mul]; rfl)
            obtain ⟨g6, g7⟩ := app_fresh (el := el) (rest := rest) (c := c') (len := 0) (n := n) (olds := []) (old := []) hr trivial hv (by simp) hnl g3 g4 true
            rw [List.nil_append] at g6
            have e0 : 0 + n = n := Nat.zero_add n
            rw [e0] at g5 g7
            exact ⟨_, _, _, _, _, rfl, g5, h6, g6, by simp, upd_ext _ _ _, g7⟩
          | false =>
            rw [hl0] at h5
            simp only [cond_false] at h5
            obtain ⟨cs, wr, opn, e1, e2, e3, e4⟩ := growK_some h5
            obtain ⟨olds, g1, g2⟩ := olds_ok (P := P) hr e1 hle hs e2
            obtain ⟨c', rest, g3, g4, g5⟩ := hf.grow (some a) len c (by omega) h4 olds g1
            obtain ⟨g6, g7⟩ := app_fresh (el := el) (rest := rest) (c := c') hr g2 hv (by rw [List.length_take, List.length_drop]; omega) hnl g3 g4 true
            exact ⟨_, _, _, _, _, rfl, g5, e4, g6, by simp, upd_ext _ _ _, g7⟩
      · obtain ⟨cs0, wr0, opn0, e0, h6⟩ := rowK_some h5
        rw [lenK_eq] at h6
        obtain ⟨B', O, L, g1, g2⟩ := hs
        have hrow : RowAt ρ w cs0 _ B' O L := hr.ok b _ _ e0 g1
        obtain ⟨arr, el', fz, k1, k2, k3, k4, k5⟩ := hrow
        cases hroom : Nat.ble (o + (len + n) * sz) cs0.length with
        | true =>
          have hroom' := Nat.le_of_ble_eq_true hroom
          have h6 : (bif Nat.ble (o + (len + n) * sz) cs0.length then _ else _) = some () := h6
          rw [hroom] at h6
          obtain ⟨cs, opn, e1, e2, e3⟩ := writeK_some h6
          rw [forceN_eq] at e3
          have ecs : cs = cs0 := by rw [e1] at e0; cases e0; rfl
          subst ecs
          have hc : len + n ≤ c ∧ a = ⟨B', O + o, none⟩ ∧ O + o + c * sz = L := by
            rcases g2 with ⟨g2, g3⟩ | ⟨g2, g3, g4⟩
            · exact ⟨Nat.le_of_mul_le_mul_right (by omega : (len + n) * sz ≤ c * sz) (by omega), g2, g3⟩
            · exfalso
              have : 0 < (len + n) * sz := Nat.mul_pos (by omega) (by omega)
              omega
          obtain ⟨w', g3, g4⟩ := inplace cs opn B' O L e1 g1 hc.2.1 hroom' hc.1
          exact ⟨_, w', _, _, ρ, rfl, g3, e3, g4, Nat.le_refl _, Ext.refl _ _, a, c, rfl, hc.1, B', O, L, g1, .inl ⟨hc.2.1, hc.2.2⟩⟩
        | false =>
          have h6 : (bif Nat.ble (o + (len + n) * sz) cs0.length then _ else _) = some () := h6
          rw [hroom] at h6
          simp only [cond_false] at h6
          obtain ⟨cs, wr, opn, e1, e2, e3, e4⟩ := growK_some h6
          have hwr := e3 rfl
          subst hwr
          have ewr : wr0 = true := by rw [e1] at e0; cases e0; rfl
          replace k2 := k2 ewr
          have ecs : cs = cs0 := by rw [e1] at e0; cases e0; rfl
          subst ecs
          simp only [if_true, Hp.next_set] at e4
          obtain ⟨olds, q1, q2⟩ := olds_ok (P := P) hr e1 hle (show RS ρ b o sz len none a c from ⟨B', O, L, g1, g2⟩) e2
          by_cases hc : len + n ≤ c
          · have hloc : a = ⟨B', O + o, none⟩ ∧ O + o + c * sz = L := by
              rcases g2 with g2 | ⟨_, g3, _⟩
              · exact g2
              · omega
            have hmul : (len + n) * sz ≤ c * sz := Nat.mul_le_mul_right _ hc
            rw [Nat.add_mul] at hmul
            obtain ⟨w', arr', r1, r2, r3, r4, r5, r6, r7, r8, r9⟩ := run_write (P := P) (p := O + o + len * sz) k1 k2 (by rw [← hv.length, hnl]; omega) (all2_oneCell hv)
            have hrun := hf.room (some a) len c w' hc (by
              show (storeCells (a.add (len * sz)) vs).run P w = _
              rw [hloc.1, addr_add]
              exact r1)
            have hsub := hr.sub (upd_ext ρ H.next (.at B' (O + o) L))
            have hl1 : ((cs.drop o).take (len * sz)).length = len * sz := by rw [List.length_take, List.length_drop]; omega
            have hrel := hr.regrow (O' := O + o) (L' := L) (y := .row ((cs.drop o).take (len * sz) ++ new) true true) e1 g1 rfl r6 r5 r7 r8 r9 ⟨arr', el', fz, r2, fun _ i hi => k2 i (by omega), by rw [List.length_append, hl1, hnl]; omega, by omega, fun i cv hcv => by
              rw [r4]
              rw [List.getElem?_append] at hcv
              split at hcv
              · rename_i hlt
                rw [hl1] at hlt
                rw [List.getElem?_take, if_pos hlt, List.getElem?_drop] at hcv
                rw [if_neg (by omega), Nat.add_assoc]
                obtain ⟨u, u1, u2⟩ := k5 _ _ hcv
                exact ⟨u, u1, u2.mono hsub⟩
              · rename_i hge
                rw [hl1] at hge hcv
                obtain ⟨u, u1, u2⟩ := hv.get hcv
                have hlt : i - len * sz < vs.length := by
                  rcases Nat.lt_or_ge (i - len * sz) vs.length with h' | h'
                  · exact h'
                  · rw [List.getElem?_eq_none h'] at u1; cases u1
                rw [if_pos (by omega)]
                exact ⟨u, by rw [show O + o + i - (O + o + len * sz) = i - len * sz by omega]; exact u1, u2.mono hsub⟩⟩
            exact ⟨_, w', _, _, _, rfl, hrun, e4, hrel, by simp, upd_ext _ _ _, a, c, rfl, hc, B', O + o, L, upd_self _ _ _, .inl ⟨hloc.1, by omega⟩⟩
          · obtain ⟨c', rest, g3, g4, g5⟩ := hf.grow (some a) len c (by omega) h4 olds q1
            obtain ⟨g6, g7⟩ := app_fresh (el := el) (rest := rest) (c := c') (hr.kill b e1) q2 hv (by rw [List.length_take, List.length_drop]; omega) hnl g3 g4 true
            exact ⟨_, _, _, _, _, rfl, g5, e4, g6, by simp, upd_ext _ _ _, g7⟩
end
end Go.Ev

namespace Go.Ev
open Go.RowKit (Below)
section
variable {P : Program} {E : Env} {R : Type}
section app
variable {t t' el : Nat} {ts : List TypeId} {i i' ei : TI} (hi : TyOk P t i) (hd : i.desc = .slice el) (hi' : TyOk P t' i') (hei : TyOk P el ei) (hz : ei.size ≠ 0)
include hi hd hi' hei hz
theorem bok_append (hni : ∀ k, i'.desc ≠ .int k) : BOk P E .append (t :: t' :: ts).toArray (bAppend ei.size ei.bytes) := by
  intro args H k h w0 B ρ as ty cs w hr ha
  obtain ⟨s, x, rfl, h1⟩ := args2_some h
  obtain ⟨S, X, rfl, hS, hX⟩ := ha.two
  rcases slK_some h1 with ⟨rfl, h2⟩ | ⟨b, o, sz, n, cap, rfl, h2⟩
  · cases hX
    have hn : ∀ w : World, (Builtin.lenOf (.slice none 0 0)).run P w = .ok 0 w := fun _ => rfl
    obtain ⟨base, sLen, sCap, u, w', v, H', ρ', rfl, g2, g3⟩ := appendF_ok (el := el) (f := fun base sLen sCap => Builtin.append_ (t :: t' :: ts).toArray ty #[.slice base sLen sCap, .slice none 0 0]) hz h2 (by simp) hr hS (vs := []) trivial
      ⟨fun base sLen sCap w' e1 e2 => run_app_room hi hd hi' hei ty hni (hn w) rfl e1 e2, fun base sLen sCap e1 e2 olds e3 => run_app_grow hi hd hi' hei ty hni (hn w) (fun _ _ => rfl) e1 e2 e3⟩
    exact ⟨u, w', v, H', ρ', by simp only [builtin]; rw [Sem.run_bind, g2]; rfl, g3⟩
  · obtain ⟨h3, h4⟩ := cond_some h2
    have h3 := Nat.eq_of_beq_eq_true h3
    subst h3
    obtain ⟨a, c, rfl, hle, hs⟩ := hX
    have hn : ∀ w : World, (Builtin.lenOf (.slice (some a) n c)).run P w = .ok n w := fun _ => rfl
    have hel : ∃ (new : List CV) (vs : List Value), appendF ei.size ei.bytes H s n new k = some () ∧ new.length = n * ei.size ∧ All2 (RC ρ) new vs ∧
        ∀ w' : World, w'.heap = w.heap → (Builtin.firstCells ei.size n (.slice (some a) n c)).run P w' = .ok vs.toArray w' := by
      unfold elemsK at h4
      cases hn0 : Nat.beq n 0 with
      | true =>
        rw [hn0] at h4
        have hn0 := Nat.eq_of_beq_eq_true hn0
        subst hn0
        exact ⟨[], [], h4, by simp, trivial, fun w' _ => by show (loadCells a (0 * ei.size)).run P w' = _; rw [Nat.zero_mul]; rfl⟩
      | false =>
        rw [hn0] at h4
        obtain ⟨cs', wr, opn, e1, e2⟩ := rowK_some h4
        obtain ⟨e3, e4⟩ := cutK_some e2
        obtain ⟨vs, g1, g2⟩ := olds_ok (P := P) hr e1 hle hs e3
        exact ⟨_, vs, e4, by rw [List.length_take, List.length_drop]; have e3' : o + n * ei.size ≤ cs'.length := e3; show min (n * ei.size) _ = _; omega, g2, g1⟩
    obtain ⟨new, vs, e1, e2, e3, e4⟩ := hel
    obtain ⟨base, sLen, sCap, u, w', v, H', ρ', rfl, g2, g3⟩ := appendF_ok (el := el) (f := fun base sLen sCap => Builtin.append_ (t :: t' :: ts).toArray ty #[.slice base sLen sCap, .slice (some a) n c]) hz e1 e2 hr hS e3
      ⟨fun base sLen sCap w' q1 q2 => run_app_room hi hd hi' hei ty hni (hn w) (e4 w rfl) q1 q2, fun base sLen sCap q1 q2 olds q3 => run_app_grow hi hd hi' hei ty hni (hn w) e4 q1 q2 q3⟩
    exact ⟨u, w', v, H', ρ', by simp only [builtin]; rw [Sem.run_bind, g2]; rfl, g3⟩
theorem bok_appInt {kd : IntKind} (hni : i'.desc = .int kd) : BOk P E .append (t :: t' :: ts).toArray (bAppInt ei.zero ei.size ei.bytes) := by
  intro args H k h w0 B ρ as ty cs w hr ha
  obtain ⟨s, x, rfl, h1⟩ := args2_some h
  obtain ⟨S, X, rfl, hS, hX⟩ := ha.two
  obtain ⟨kx, n, rfl, h2⟩ := natK_some h1
  obtain ⟨h3, h4⟩ := cond_some h2
  have h3 : n * (ei.bytes + 1) ≤ 1099511627776 := Nat.le_of_ble_eq_true h3
  rw [repK_eq, List.append_nil] at h4
  cases hX
  obtain ⟨inf, hinf, hsi, hby, z, hzz, hzr⟩ := hei.info
  have hzc := cells_of (fun g => (hei.one g).1) (hzr ρ)
  have hzl : ei.zero.length = z.cells.size := by have := hzc.length; simpa using this
  have hall : All2 (RC ρ) (List.replicate n ei.zero).flatten (Builtin.zeroCells z.cells n).toList := all2_zeros hzc n (by rw [hei.len]; omega) _ (by rw [hzl])
  have hvs : ((Builtin.zeroCells z.cells n).toList).toArray = (if n * ei.size = 0 then #[] else (fun z : Value => Builtin.zeroCells z.cells n) (((P.info? el).bind (·.zero)).getD undef)) := by
    simp only [hinf, Option.bind_some, hzz, Option.getD_some]
    split
    · rename_i h0
      have : n = 0 := by rcases Nat.mul_eq_zero.1 h0 with h | h <;> omega
      subst this
      simp [Builtin.zeroCells, Array.range_zero']
    · simp
  obtain ⟨base, sLen, sCap, u, w', v, H', ρ', rfl, g2, g3⟩ := appendF_ok (el := el) (f := fun base sLen sCap => Builtin.append_ (t :: t' :: ts).toArray ty #[.slice base sLen sCap, .int kx (Int.ofNat n)]) hz h4 (by rw [flat_len, hei.len]) hr hS hall
    ⟨fun base sLen sCap w' q1 q2 => run_appz_room hi hd hi' hei ty ⟨kd, hni⟩ hvs h3 q1 q2, fun base sLen sCap q1 q2 olds q3 => run_appz_grow hi hd hi' hei ty ⟨kd, hni⟩ hvs h3 q1 q2 q3⟩
  exact ⟨u, w', v, H', ρ', by simp only [builtin]; rw [Sem.run_bind, g2]; rfl, g3⟩
theorem bok_appStr (hni : i'.desc = .string) : BOk P E .append (t :: t' :: ts).toArray (bAppStr ei.size ei.bytes) := by
  intro args H k h w0 B ρ as ty cs w hr ha
  obtain ⟨s, x, rfl, h1⟩ := args2_some h
  obtain ⟨S, X, rfl, hS, hX⟩ := ha.two
  obtain ⟨str, rfl, h2⟩ := strK_some h1
  obtain ⟨h3, h4⟩ := cond_some h2
  have h3 := Nat.eq_of_beq_eq_true h3
  rw [forceN_eq] at h4
  cases hX
  have hn : ∀ w : World, (Builtin.lenOf (.string str)).run P w = .ok str.size w := fun _ => rfl
  have hfc : ∀ w : World, (Builtin.firstCells ei.size str.size (.string str)).run P w = .ok (str.data.toList.map fun b => Value.int .u8 b.toNat).toArray w := by
    intro w
    have : str.extract 0 str.size = str := by simp
    simp only [Builtin.firstCells, this, Sem.run_pure]
    rw [← Array.toList_map]
  have hni' : ∀ k, i'.desc ≠ .int k := fun k hk => by rw [hni] at hk; cases hk
  obtain ⟨base, sLen, sCap, u, w', v, H', ρ', rfl, g2, g3⟩ := appendF_ok (el := el) (f := fun base sLen sCap => Builtin.append_ (t :: t' :: ts).toArray ty #[.slice base sLen sCap, .string str]) hz h4 (by rw [h3, Nat.mul_one, byteCells, List.length_map, Array.length_toList]; rfl) hr hS (byteCells_ok _)
    ⟨fun base sLen sCap w' q1 q2 => run_app_room hi hd hi' hei ty hni' (hn w) (hfc w) q1 q2, fun base sLen sCap q1 q2 olds q3 => run_app_grow hi hd hi' hei ty hni' (hn w) (fun w' _ => hfc w') q1 q2 q3⟩
  exact ⟨u, w', v, H', ρ', by simp only [builtin]; rw [Sem.run_bind, g2]; rfl, g3⟩
end app
theorem bok_copy {t el : Nat} {ts : List TypeId} {i ei : TI} (hi : TyOk P t i) (hd : i.desc = .slice el) (hei : TyOk P el ei) : BOk P E .copy (t :: ts).toArray (bCopy ei.size) := by
  intro args H k h w0 B ρ as ty cs w hr ha
  obtain ⟨d, s, rfl, h1⟩ := args2_some h
  obtain ⟨D, S, rfl, hD, hS⟩ := ha.two
  have hu := hi.run_und w
  have hsz := hei.run_size w
  rcases slK_some h1 with ⟨rfl, h2⟩ | ⟨b', o', sz', n, cap', rfl, h2⟩
  · cases hS
    rcases slK_some h2 with ⟨rfl, h3⟩ | ⟨b, o, sz, len, cap, rfl, h3⟩
    · cases hD
      exact ⟨_, w, _, H, ρ, by simp [builtin, Builtin.copy_, hu, hd, hsz, Builtin.lenOf, Builtin.firstCells], h3, hr, Nat.le_refl _, Ext.refl _ _, int64_ok⟩
    · obtain ⟨a, c, rfl, hle, hs⟩ := hD
      exact ⟨_, w, _, H, ρ, by simp [builtin, Builtin.copy_, hu, hd, hsz, Builtin.lenOf, Builtin.firstCells, storeCells], h3, hr, Nat.le_refl _, Ext.refl _ _, int64_ok⟩
  · obtain ⟨a', c', rfl, hle', hs'⟩ := hS
    rcases slK_some h2 with ⟨rfl, h3⟩ | ⟨b, o, sz, len, cap, rfl, h3⟩
    · cases hD
      have hl0 : (loadCells a' 0).run P w = .ok #[] w := rfl
      exact ⟨_, w, _, H, ρ, by simp [builtin, Builtin.copy_, hu, hd, hsz, Builtin.lenOf, Builtin.firstCells, hl0], h3, hr, Nat.le_refl _, Ext.refl _ _, int64_ok⟩
    · obtain ⟨a, c, rfl, hle, hs⟩ := hD
      obtain ⟨h4, h5⟩ := cond_some h3
      rw [Bool.and_eq_true] at h4
      have e1 := Nat.eq_of_beq_eq_true h4.1
      have e2 := Nat.eq_of_beq_eq_true h4.2
      subst e1 e2
      rw [forceN_eq] at h5
      cases hn0 : Nat.beq (Nat.min n len) 0 with
      | true =>
        rw [hn0] at h5
        have hn0 := Nat.eq_of_beq_eq_true hn0
        have hl0 : (loadCells a' 0).run P w = .ok #[] w := rfl
        refine ⟨goInt 0, w, _, H, ρ, ?_, h5, hr, Nat.le_refl _, Ext.refl _ _, int64_ok⟩
        simp [builtin, Builtin.copy_, hu, hd, hsz, Builtin.lenOf, Builtin.firstCells, hn0, hl0, storeCells]
      | false =>
        rw [hn0] at h5
        have hn0' : Nat.min n len ≠ 0 := by intro e; rw [e] at hn0; cases hn0
        have hmn : Nat.min n len ≤ n := Nat.min_le_left _ _
        have hml : Nat.min n len ≤ len := Nat.min_le_right _ _
        simp only [cond_false] at h5
        obtain ⟨m, hm⟩ : ∃ m, m = Nat.min n len := ⟨_, rfl⟩
        rw [← hm] at h5 hn0' hmn hml
        obtain ⟨new, h6, h7⟩ := elemsK_some (P := P) h5
        obtain ⟨vs, g1, g2⟩ := h7 hr hle' hs' hmn
        obtain ⟨cs', opn, g3, g4, g5⟩ := writeK_some h6
        obtain ⟨B', O, L, g6, rfl⟩ := rs_at hs hle (by omega)
        obtain ⟨w', g7, g8⟩ := hr.store (P := P) g3 g6 g4 g2
        refine ⟨goInt m, w', _, _, ρ, ?_, g5, g8, Nat.le_refl _, Ext.refl _ _, int64_ok⟩
        have hlen : (Builtin.lenOf (.slice (some a') n c')).run P w = .ok n w := rfl
        have hfc : (Builtin.firstCells ei.size m (.slice (some a') n c')).run P w = .ok vs.toArray w := g1
        unfold builtin Builtin.copy_
        simp only [List.getElem?_toArray, List.getElem?_cons_zero, List.getElem?_cons_succ]
        rw [Sem.run_bind, Sem.run_bind, hu, hd]
        simp only [Result.andThen_ok]
        rw [Sem.run_bind, hlen]
        simp only [Result.andThen_ok, ← hm]
        rw [Sem.run_bind, hsz]
        simp only [Result.andThen_ok]
        rw [Sem.run_bind, hfc]
        simp only [Result.andThen_ok]
        rw [Sem.run_bind, g7]
        rfl
theorem bok_clear {t el : Nat} {ts : List TypeId} {i ei : TI} (hi : TyOk P t i) (hd : i.desc = .slice el) (hei : TyOk P el ei) (hz : ei.size ≠ 0) : BOk P E .clear (t :: ts).toArray (bClear ei.zero ei.size) := by
  intro args H k h w0 B ρ as ty cs w hr ha
  obtain ⟨d, rfl, h1⟩ := args1_some h
  obtain ⟨D, rfl, hD⟩ := ha.one
  have hu := hi.run_und w
  rcases slK_some h1 with ⟨rfl, h2⟩ | ⟨b, o, sz, len, cap, rfl, h2⟩
  · cases hD
    exact ⟨.tuple #[], w, _, H, ρ, by simp [builtin, Builtin.clear_, hu, hd], h2, hr, Nat.le_refl _, Ext.refl _ _, RV.und _⟩
  · obtain ⟨a, c, rfl, hle, hs⟩ := hD
    cases hl0 : Nat.beq len 0 with
    | true =>
      rw [hl0] at h2
      have hl0 := Nat.eq_of_beq_eq_true hl0
      subst hl0
      exact ⟨.tuple #[], w, _, H, ρ, by simp [builtin, Builtin.clear_, hu, hd], h2, hr, Nat.le_refl _, Ext.refl _ _, RV.und _⟩
    | false =>
      rw [hl0] at h2
      have hl0' : len ≠ 0 := by intro e; subst e; cases hl0
      simp only [cond_false] at h2
      obtain ⟨h3, h4⟩ := cond_some h2
      have h3 := Nat.eq_of_beq_eq_true h3
      subst h3
      rw [repK_eq, List.append_nil] at h4
      obtain ⟨inf, hinf, hsi, hby, z, hzz, hzr⟩ := hei.info
      have hzc := cells_of (fun g => (hei.one g).1) (hzr ρ)
      have hzl : ei.zero.length = z.cells.size := by have := hzc.length; simpa using this
      have hall : All2 (RC ρ) (List.replicate len ei.zero).flatten (Builtin.zeroCells z.cells len).toList := all2_zeros hzc len (by rw [hei.len]; omega) _ (by rw [hzl])
      obtain ⟨cs', opn, g3, g4, g5⟩ := writeK_some h4
      obtain ⟨B', O, L, g6, rfl⟩ := rs_at hs hle hl0'
      obtain ⟨w', g7, g8⟩ := hr.store (P := P) g3 g6 g4 hall
      refine ⟨.tuple #[], w', _, _, ρ, ?_, g5, g8, Nat.le_refl _, Ext.refl _ _, RV.und _⟩
      have hzv : (zeroValue el).run P w = .ok z w := by simp [zeroValue, typeInfo, hinf, hzz]
      simp [builtin, Builtin.clear_, hu, hd, hzv, hl0', g7]
end
end Go.Ev

namespace Go.Ev
section
variable {P : Program} {E : Env} {R : Type}
theorem bad_pure {o : Op} : PureOk P E (R := R) o opBad := fun _ _ _ _ h => by cases h
theorem bad_read {o : Op} : ReadOk P E (R := R) o opBad := fun _ _ _ _ h => by cases h
theorem bad_alloc {o : Op} : AllocOk P E (R := R) o opBad := fun _ _ _ _ h => by cases h
theorem tyB_cases {β : Type} {t : Nat} {k : TI → β} {d : β} (Q : β → Prop) (h1 : ∀ i, E.ty t = some i → Q (k i)) (h2 : Q d) : Q (tyB E t k d) := by
  unfold tyB
  split
  · exact h1 _ (by assumption)
  · exact h2
theorem elemB_cases {β : Type} {t : Nat} {k : TI → β} {d : β} (Q : β → Prop) (h1 : ∀ i e ei, E.ty t = some i → i.desc = .slice e → E.ty e = some ei → Q (k ei)) (h2 : Q d) : Q (elemB E t k d) := by
  unfold elemB
  refine tyB_cases Q (fun i hi => ?_) h2
  split
  · rename_i e hd
    exact tyB_cases Q (fun ei hei => h1 i e ei hi hd hei) h2
  · exact h2
theorem mapB_cases {β : Type} {t : Nat} {k : TI → TI → β} {d : β} (Q : β → Prop) (h1 : ∀ i kt et ki ei, E.ty t = some i → i.desc = .map kt et → E.ty kt = some ki → E.ty et = some ei → Q (k ki ei)) (h2 : Q d) : Q (mapB E t k d) := by
  unfold mapB
  refine tyB_cases Q (fun i hi => ?_) h2
  split
  · rename_i kt et hd
    exact tyB_cases Q (fun ki hki => tyB_cases Q (fun ei hei => h1 i kt et ki ei hi hd hki hei) h2) h2
  · exact h2
theorem nb0 {n : Nat} (h : Nat.beq n 0 = false) : n ≠ 0 := by intro e; subst e; cases h
theorem cCast {α : Type} {Q : α → Prop} {b : Bool} {x y : α} (h1 : b = true → Q x) (h2 : b = false → Q y) : Q (bif b then x else y) := by
  cases b with
  | true => exact h1 rfl
  | false => exact h2 rfl
theorem isInt_eq {i : TI} {k : IntKind} (h : isInt i k = true) : i.desc = .int k := by
  unfold isInt at h
  split at h
  · rename_i k' hd
    rw [hd, keqb_eq h]
  · cases h

theorem conv_int (hE : EnvOk P E) (src dst : Nat) (x : Operand) {d : TI} (hd : E.ty dst = some d) {kd : IntKind} (hk : d.desc = .int kd) : PureOk P E (R := R) (.convert src dst x) (cOp E (.convert src dst x)).f := by
  show PureOk P E _ (cConv E src dst (cOpd E x)).f
  unfold cConv
  refine tyB_cases (fun b : Bx (OpF R) => PureOk P E _ b.f) (fun s hs => ?_) bad_pure
  simp only [tyB, hd, hk]
  exact pure_conv_int hE hs hd hk x
theorem conv_str (hE : EnvOk P E) (src dst : Nat) (x : Operand) {d : TI} (hd : E.ty dst = some d) (hk : d.desc = .string) : ReadOk P E (R := R) (.convert src dst x) (cOp E (.convert src dst x)).f := by
  show ReadOk P E _ (cConv E src dst (cOpd E x)).f
  unfold cConv
  refine tyB_cases (fun b : Bx (OpF R) => ReadOk P E _ b.f) (fun s hs => ?_) bad_read
  simp only [tyB, hd, hk]
  split
  · rename_i el hsd
    refine tyB_cases (fun b : Bx (OpF R) => ReadOk P E _ b.f) (fun ei hei => ?_) bad_read
    refine cCast (Q := fun b : Bx (OpF R) => ReadOk P E _ b.f) (fun h => read_convStr hE hs hd hk hsd hei x (.inl ⟨rfl, rfl⟩) (isInt_eq h)) fun _ => ?_
    exact cCast (Q := fun b : Bx (OpF R) => ReadOk P E _ b.f) (fun h => read_convStr hE hs hd hk hsd hei x (.inr ⟨rfl, rfl⟩) (isInt_eq h)) fun _ => bad_read
  · exact bad_read
theorem conv_other (hE : EnvOk P E) (src dst : Nat) (x : Operand) {d : TI} (hd : E.ty dst = some d) (h1 : isIntD d.desc = false) (h2 : isStrD d.desc = false) : AllocOk P E (R := R) (.convert src dst x) (cOp E (.convert src dst x)).f := by
  show AllocOk P E _ (cConv E src dst (cOpd E x)).f
  unfold cConv
  refine tyB_cases (fun b : Bx (OpF R) => AllocOk P E _ b.f) (fun s hs => ?_) bad_alloc
  simp only [tyB, hd]
  split
  · rename_i hk; rw [hk] at h1; cases h1
  · rename_i hk; rw [hk] at h2; cases h2
  · rename_i el hk
    split
    · rename_i hsd
      refine tyB_cases (fun b : Bx (OpF R) => AllocOk P E _ b.f) (fun ei hei => ?_) bad_alloc
      refine cCast (Q := fun b : Bx (OpF R) => AllocOk P E _ b.f) (fun h => alloc_convBytes hE hs hd hsd hk hei (isInt_eq h) x) fun _ => ?_
      exact cCast (Q := fun b : Bx (OpF R) => AllocOk P E _ b.f) (fun h => alloc_convRunes hE hs hd hsd hk hei (isInt_eq h) x) fun _ => bad_alloc
    · exact bad_alloc
  · exact bad_alloc
theorem isIntD_eq {d : TypeDesc} (h : isIntD d = true) : ∃ k, d = .int k := by cases d <;> first | exact ⟨_, rfl⟩ | cases h
theorem isStrD_eq {d : TypeDesc} (h : isStrD d = true) : d = .string := by cases d <;> first | rfl | cases h
/-- what is asked of an operation of a kind -/
def KindOk (P : Program) (E : Env) (o : Op) (f : OpF Unit) : OpK → Prop
  | .pure => PureOk P E o f
  | .read => ReadOk P E o f
  | .alloc => AllocOk P E o f
  | .loud => OpOk P E o f
theorem KindOk.op {o : Op} {f : OpF Unit} {k : OpK} (h : KindOk P E o f k) : OpOk P E o f := by
  cases k with
  | pure => exact (PureOk.read h).op
  | read => exact ReadOk.op h
  | alloc => exact AllocOk.op h
  | loud => exact h
theorem bad_kind {o : Op} {k : OpK} : KindOk P E o opBad k := by
  cases k with
  | pure => exact bad_pure
  | read => exact bad_read
  | alloc => exact bad_alloc
  | loud => exact opBad_op
theorem cOp_ok (hE : EnvOk P E) (o : Op) : KindOk P E o (cOp E o).f (opKind E o) := by
  cases o with
  | move x => exact pure_move x
  | assign x => exact pure_assign x
  | pick c a b => exact pure_pick c a b
  | alloc t => exact tyB_cases (fun b : Bx (OpF Unit) => AllocOk P E _ b.f) (fun i hi => alloc_alloc hE hi) bad_alloc
  | box t x => exact alloc_box t x
  | build t parts => exact pure_build hE t parts
  | buildSlice t len parts =>
    refine elemB_cases (fun b : Bx (OpF Unit) => AllocOk P E _ b.f) (fun i e ei hi hd hei => ?_) bad_alloc
    refine cCast (Q := fun b : Bx (OpF Unit) => AllocOk P E _ b.f) (fun _ => bad_alloc) fun h => ?_
    rw [Bool.or_eq_false_iff, nblt_iff, decide_eq_false_iff_not] at h
    rw [cvsK_eq, forceN_eq]
    exact alloc_buildSlice hE hi hd hei len parts (nb0 h.1) h.2
  | insert t m k v => exact bad_kind
  | load t a =>
    refine tyB_cases (fun b : Bx (OpF Unit) => ReadOk P E _ b.f) (fun i hi => ?_) bad_read
    rw [forceB_eq, forceN_eq]
    exact read_load hE hi a
  | store t a x =>
    refine tyB_cases (fun b : Bx (OpF Unit) => OpOk P E _ b.f) (fun i hi => ?_) opBad_op
    rw [forceN_eq]
    exact op_store hE hi a x
  | ready g => exact bad_kind
  | waits g => exact bad_kind
  | nilCheck x => exact pure_nilCheck x
  | binOp op t x y p => exact pure_binOp hE op t x y p
  | unOp op t x => exact pure_unOp op t x
  | convert src dst x =>
    show KindOk P E _ _ (tyB E dst (fun i => bif isIntD i.desc then .pure else bif isStrD i.desc then .read else .alloc) .loud)
    cases hd : E.ty dst with
    | none =>
      simp only [tyB, hd]
      show OpOk P E _ (cConv E src dst (cOpd E x)).f
      unfold cConv
      refine tyB_cases (fun b : Bx (OpF Unit) => OpOk P E _ b.f) (fun s hs => ?_) opBad_op
      simp only [tyB, hd]
      exact opBad_op
    | some d =>
      simp only [tyB, hd]
      refine cCast (Q := KindOk P E _ _) (fun h => ?_) fun h1 => cCast (Q := KindOk P E _ _) (fun h => conv_str hE src dst x hd (isStrD_eq h)) fun h2 => conv_other hE src dst x hd h1 h2
      obtain ⟨kd, hk⟩ := isIntD_eq h
      exact conv_int hE src dst x hd hk
  | sliceToArrayPointer t x => exact bad_kind
  | makeInterface t x => exact bad_kind
  | makeFunc fn a c =>
    cases fn with
    | func f => exact alloc_func f a c
    | method n => exact bad_alloc
    | methodOf t n => exact bad_alloc
    | via t p f q => exact bad_alloc
    | yield l => exact bad_alloc
  | makeMap t r =>
    cases r with
    | none => exact alloc_map t
    | some r => exact bad_alloc
  | makeChan t s => exact bad_kind
  | makeSlice t l c => exact elemB_cases (fun b : Bx (OpF Unit) => AllocOk P E _ b.f) (fun i e ei hi hd hei => alloc_makeSlice hE hi hd hei l c) bad_alloc
  | slice t x lo hi mx =>
    refine tyB_cases (fun b : Bx (OpF Unit) => ReadOk P E _ b.f) (fun i hi' => ?_) bad_read
    split
    · rename_i el hd
      refine cCast (Q := fun b : Bx (OpF Unit) => ReadOk P E _ b.f) (fun _ => bad_read) fun hno => ?_
      refine tyB_cases (fun b : Bx (OpF Unit) => ReadOk P E _ b.f) (fun ei hei => ?_) bad_read
      refine cCast (Q := fun b : Bx (OpF Unit) => ReadOk P E _ b.f) (fun _ => bad_read) fun h => ?_
      rw [forceN_eq]
      refine read_slice hE hi' hd hei (nb0 h) x lo hi mx ?_
      rintro ⟨e1, e2⟩
      rw [e1, e2] at hno
      cases hno
    · rename_i hd
      split
      · exact read_sliceStr hE hi' hd x lo hi
      · exact bad_read
    · exact bad_read
  | fieldAddr t x f => exact pure_fieldAddr hE t x f
  | field t x f => exact pure_field hE t x f
  | indexAddr t x ix => exact pure_indexAddr hE t x ix
  | index t x ix => exact pure_index hE t x ix
  | lookup t m ix ok => exact mapB_cases (fun b : Bx (OpF Unit) => ReadOk P E _ b.f) (fun i kt et ki ei hi hd hki hei => read_lookup hE hi hd hki hei m ix ok) bad_read
  | mapUpdate t m k v => exact mapB_cases (fun b : Bx (OpF Unit) => OpOk P E _ b.f) (fun i kt et ki ei hi hd hki hei => op_mapUpdate hE hi hd hki m k v) opBad_op
  | mapEntry t m k => exact bad_kind
  | entryStore t m s v => exact bad_kind
  | range t x =>
    refine tyB_cases (fun b : Bx (OpF Unit) => OpOk P E _ b.f) (fun i hi => ?_) opBad_op
    split
    · rename_i hd; exact op_range hE hi hd x
    · rename_i kt et hd; exact op_rangeMap hE hi hd x
    · exact opBad_op
  | next it s =>
    cases s with
    | true => exact op_next it
    | false => exact op_nextMap it
  | entry it => exact read_entry it
  | typeAssert x a b c => exact bad_kind
  | extract x i => exact pure_extract x i
  | call c => exact bad_kind
  | go c => exact bad_kind
  | defer c => exact bad_kind
  | panic x => exact bad_kind
  | send a b => exact bad_kind
  | recv a b c => exact bad_kind
  | select cs b => exact bad_kind
theorem cBop_read (hE : EnvOk P E) (ts : Array TypeId) : ReadB P E R .len ts (cBop E .len ts.toList).f := by
  simp only [cBop]
  split
  · rename_i t l hl
    have : ts = (t :: l).toArray := by rw [← hl]
    subst this
    refine tyB_cases (fun b : Bx (BopF R) => ReadB P E R _ _ b.f) (fun i hi => ?_) readB_bad
    exact read_len hE hi
  · exact readB_bad
theorem cBop_ok (hE : EnvOk P E) (b : Builtin) (ts : Array TypeId) : BOk P E b ts (cBop E b ts.toList).f := by
  cases b with
  | append =>
    simp only [cBop]
    split
    · rename_i t t' l hl
      have : ts = (t :: t' :: l).toArray := by rw [← hl]
      subst this
      refine elemB_cases (fun b : Bx (BopF Unit) => BOk P E _ _ b.f) (fun i e ei hi hd hei => ?_) bok_bad
      refine cCast (Q := fun b : Bx (BopF Unit) => BOk P E _ _ b.f) (fun _ => bok_bad) fun h => ?_
      rw [forceN_eq, forceN_eq]
      refine tyB_cases (fun b : Bx (BopF Unit) => BOk P E _ _ b.f) (fun i' hi' => ?_) bok_bad
      split
      · rename_i k hk; exact bok_appInt (hE.ty _ _ hi) hd (hE.ty _ _ hi') (hE.ty _ _ hei) (nb0 h) hk
      · rename_i hk; exact bok_appStr (hE.ty _ _ hi) hd (hE.ty _ _ hi') (hE.ty _ _ hei) (nb0 h) hk
      · rename_i h1 h2; exact bok_append (hE.ty _ _ hi) hd (hE.ty _ _ hi') (hE.ty _ _ hei) (nb0 h) h1
    · exact bok_bad
  | len => exact (cBop_read hE ts).bok
  | cap => exact (cBop_pure hE (b := .cap) rfl ts).read.bok
  | copy =>
    simp only [cBop]
    split
    · rename_i t l hl
      have : ts = (t :: l).toArray := by rw [← hl]
      subst this
      refine elemB_cases (fun b : Bx (BopF Unit) => BOk P E _ _ b.f) (fun i e ei hi hd hei => ?_) bok_bad
      refine cCast (Q := fun b : Bx (BopF Unit) => BOk P E _ _ b.f) (fun _ => bok_bad) fun h => ?_
      rw [forceN_eq]
      exact bok_copy (hE.ty _ _ hi) hd (hE.ty _ _ hei)
    · exact bok_bad
  | clear =>
    simp only [cBop]
    split
    · rename_i t l hl
      have : ts = (t :: l).toArray := by rw [← hl]
      subst this
      refine elemB_cases (fun b : Bx (BopF Unit) => BOk P E _ _ b.f) (fun i e ei hi hd hei => ?_) bok_bad
      refine cCast (Q := fun b : Bx (BopF Unit) => BOk P E _ _ b.f) (fun _ => bok_bad) fun h => ?_
      exact bok_clear (hE.ty _ _ hi) hd (hE.ty _ _ hei) (nb0 h)
    · exact bok_bad
  | min => exact (cBop_pure hE (b := .min) rfl ts).read.bok
  | max => exact (cBop_pure hE (b := .max) rfl ts).read.bok
  | _ => exact bok_bad
end
end Go.Ev
