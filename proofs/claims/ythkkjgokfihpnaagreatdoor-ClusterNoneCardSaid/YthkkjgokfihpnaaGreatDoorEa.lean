/- The evaluator: its values, its heap, the relation to the world, loads and stores. -/
import Derived.DefersIn
import Derived.OrdersIn
import Derived.RangeFuncIn
import Derived.Below
import Derived.Orders
import Derived.Laws.IdiomCopy
import Derived.Laws.Cells
import Derived.Laws.World
set_option linter.all false
namespace Go.Ev
open Go.RowKit (Below)

/-! Sparse trees keyed by numbers. -/
inductive Tr (α : Type) where
  | e
  | n (l : Tr α) (v : Option α) (r : Tr α)

namespace Tr
variable {α β : Type}
def get : Tr α → Nat → Option α
  | .e, _ => none
  | .n l v r, i => bif Nat.beq i 0 then v else bif Nat.beq (Nat.mod i 2) 1 then get l (Nat.div i 2) else get r (Nat.sub (Nat.div i 2) 1)
def lft : Tr α → Tr α | .e => .e | .n l _ _ => l
def rgt : Tr α → Tr α | .e => .e | .n _ _ r => r
def val : Tr α → Option α | .e => none | .n _ v _ => v
def setF : Nat → Tr α → Nat → α → Tr α
  | 0, t, _, _ => t
  | f+1, t, i, a => bif Nat.beq i 0 then .n t.lft (some a) t.rgt else bif Nat.beq (Nat.mod i 2) 1 then .n (setF f t.lft (Nat.div i 2) a) t.val t.rgt
      else .n t.lft t.val (setF f t.rgt (Nat.sub (Nat.div i 2) 1) a)
/-- 'setF' with its result handed on in normal form. -/
def setFK : Nat → Tr α → Nat → α → (Tr α → β) → β
  | 0, t, _, _, k => k t
  | f+1, .e, i, a, k => bif Nat.beq i 0 then k (.n .e (some a) .e) else bif Nat.beq (Nat.mod i 2) 1 then setFK f .e (Nat.div i 2) a (fun l => k (.n l none .e))
      else setFK f .e (Nat.sub (Nat.div i 2) 1) a (fun r => k (.n .e none r))
  | f+1, .n l v r, i, a, k => bif Nat.beq i 0 then k (.n l (some a) r) else bif Nat.beq (Nat.mod i 2) 1 then setFK f l (Nat.div i 2) a (fun l' => k (.n l' v r))
      else setFK f r (Nat.sub (Nat.div i 2) 1) a (fun r' => k (.n l v r'))
def set (t : Tr α) (i : Nat) (a : α) : Tr α := setF (i + 1) t i a
def setK (t : Tr α) (i : Nat) (a : α) (k : Tr α → β) : β := setFK (Nat.add i 1) t i a k

theorem setFK_eq (f : Nat) : ∀ (t : Tr α) (i : Nat) (a : α) (k : Tr α → β), setFK f t i a k = k (setF f t i a) := by
  induction f with
  | zero => intro t i a k; cases t <;> rfl
  | succ f ih =>
    intro t i a k
    cases t <;> simp only [setFK, setF, lft, rgt, val, ih] <;> (cases Nat.beq i 0 <;> cases Nat.beq (Nat.mod i 2) 1 <;> rfl)
theorem setK_eq (t : Tr α) (i : Nat) (a : α) (k : Tr α → β) : t.setK i a k = k (t.set i a) := setFK_eq _ _ _ _ _

theorem get_e (i : Nat) : (Tr.e : Tr α).get i = none := rfl
theorem get_n (l : Tr α) (v : Option α) (r : Tr α) (i : Nat) : (Tr.n l v r).get i = if i = 0 then v else if i % 2 = 1 then l.get (i / 2) else r.get (i / 2 - 1) := by
  show (bif Nat.beq i 0 then v else bif Nat.beq (i % 2) 1 then l.get (i / 2) else r.get (i / 2 - 1)) = _
  by_cases h : i = 0
  · subst h; rfl
  · have h0 : Nat.beq i 0 = false := by cases hb : Nat.beq i 0 with | false => rfl | true => exact absurd (Nat.eq_of_beq_eq_true hb) h
    rw [h0, if_neg h]
    by_cases h1 : i % 2 = 1
    · rw [if_pos h1, h1]; rfl
    · have h2 : Nat.beq (i % 2) 1 = false := by cases hb : Nat.beq (i % 2) 1 with | false => rfl | true => exact absurd (Nat.eq_of_beq_eq_true hb) h1
      rw [h2, if_neg h1]; rfl
theorem get_lft (t : Tr α) (i : Nat) (h : i % 2 = 1) : t.get i = t.lft.get (i / 2) := by
  cases t with
  | e => rfl
  | n l v r => rw [get_n, if_neg (by omega), if_pos h]; rfl
theorem get_rgt (t : Tr α) (i : Nat) (h0 : i ≠ 0) (h : i % 2 ≠ 1) : t.get i = t.rgt.get (i / 2 - 1) := by
  cases t with
  | e => rfl
  | n l v r => rw [get_n, if_neg h0, if_neg h]; rfl
theorem get_val (t : Tr α) : t.get 0 = t.val := by cases t <;> rfl
theorem setF_succ (f : Nat) (t : Tr α) (i : Nat) (a : α) : setF (f + 1) t i a = if i = 0 then .n t.lft (some a) t.rgt else
    if i % 2 = 1 then .n (setF f t.lft (i / 2) a) t.val t.rgt else .n t.lft t.val (setF f t.rgt (i / 2 - 1) a) := by
  show (bif Nat.beq i 0 then _ else bif Nat.beq (i % 2) 1 then _ else _) = _
  by_cases h : i = 0
  · subst h; rfl
  · have h0 : Nat.beq i 0 = false := by cases hb : Nat.beq i 0 with | false => rfl | true => exact absurd (Nat.eq_of_beq_eq_true hb) h
    rw [h0, if_neg h]
    by_cases h1 : i % 2 = 1
    · rw [if_pos h1, h1]; rfl
    · have h2 : Nat.beq (i % 2) 1 = false := by cases hb : Nat.beq (i % 2) 1 with | false => rfl | true => exact absurd (Nat.eq_of_beq_eq_true hb) h1
      rw [h2, if_neg h1]; rfl
theorem get_setF (f : Nat) : ∀ (t : Tr α) (i j : Nat) (a : α), i < f → (setF f t i a).get j = if j = i then some a else t.get j := by
  induction f with
  | zero => intro t i j a h; omega
  | succ f ih =>
    intro t i j a h
    rw [setF_succ]
    by_cases hi : i = 0
    · subst hi
      rw [if_pos rfl, get_n]
      by_cases hj : j = 0
      · simp [hj]
      · rw [if_neg hj, if_neg hj]
        by_cases h1 : j % 2 = 1
        · rw [if_pos h1, get_lft t j h1]
        · rw [if_neg h1, get_rgt t j hj h1]
    · rw [if_neg hi]
      by_cases h1 : i % 2 = 1
      · rw [if_pos h1, get_n]
        by_cases hj : j = 0
        · subst hj; rw [if_pos rfl, if_neg (by omega), get_val]
        · rw [if_neg hj]
          by_cases h2 : j % 2 = 1
          · rw [if_pos h2, ih _ _ _ _ (by omega), get_lft t j h2]
            by_cases hij : j = i
            · simp [hij]
            · rw [if_neg hij, if_neg (by omega)]
          · rw [if_neg h2, if_neg (by omega), get_rgt t j hj h2]
      · rw [if_neg h1, get_n]
        by_cases hj : j = 0
        · subst hj; rw [if_pos rfl, if_neg (by omega), get_val]
        · rw [if_neg hj]
          by_cases h2 : j % 2 = 1
          · rw [if_pos h2, if_neg (by omega), get_lft t j h2]
          · rw [if_neg h2, ih _ _ _ _ (by omega), get_rgt t j hj h2]
            by_cases hij : j = i
            · simp [hij]
            · rw [if_neg hij, if_neg (by omega)]
theorem get_set (t : Tr α) (i j : Nat) (a : α) : (t.set i a).get j = if j = i then some a else t.get j := get_setF _ _ _ _ _ (Nat.lt_succ_self i)
end Tr

/-! Forcing numbers, lists: the function given on is applied to the thing in normal form. -/
def forceN {β : Type} (n : Nat) (k : Nat → β) : β := Nat.casesOn n (k 0) (fun m => k (Nat.succ m))
theorem forceN_eq {β : Type} (n : Nat) (k : Nat → β) : forceN n k = k n := by cases n <;> rfl
def forceI {β : Type} (n : Int) (k : Int → β) : β := Int.casesOn n (fun m => forceN m fun m => k (Int.ofNat m)) (fun m => forceN m fun m => k (Int.negSucc m))
theorem forceI_eq {β : Type} (n : Int) (k : Int → β) : forceI n k = k n := by cases n <;> simp [forceI, forceN_eq]
def forceB {β : Type} (b : Bool) (k : Bool → β) : β := match b with | true => k true | false => k false
theorem forceB_eq {β : Type} (b : Bool) (k : Bool → β) : forceB b k = k b := by cases b <;> rfl

/-! Abstract values: what is in one cell; a value. No type of them is recursive: so they are cheap to take apart. -/
inductive CO where
  | str (s : ByteArray)
  | nilP | nilS | nilM | nilF | nilI
  | map (b : Nat)
  | fn (f : Nat)
  | clo (b : Nat)
  | yield (l : Nat)

inductive CV where
  | int (k : IntKind) (n : Int)
  | bool (b : Bool)
  | ptr (b o : Nat)
  | slice (b o sz len : Nat) (cap : Option Nat)
  | oth (o : CO)

/-- a part of a tuple: is it an aggregate, its cells -/
inductive AV where
  | cv (c : CV)
  | agg (cs : List CV)
  | tup (vs : List (Bool × List CV))

abbrev AV.und : AV := .tup []

/-- Where an abstract block lies: the block, the cell where it begins, the cell behind its capacity; a closure is a value. -/
inductive Pl where
  | at (blk off lim : Nat)
  | val (f : Nat) (fs cs : Array Value)

abbrev Rho := Nat → Option Pl

def RS (ρ : Rho) (b o sz len : Nat) (cap : Option Nat) (a : Addr) (c : Nat) : Prop :=
  match cap with
  | some k => c = k ∧ (k = 0 ∨ ∃ B O L, ρ b = some (.at B O L) ∧ a = ⟨B, O + o, none⟩)
  | none => ∃ B O L, ρ b = some (.at B O L) ∧ ((a = ⟨B, O + o, none⟩ ∧ O + o + c * sz = L) ∨ (len = 0 ∧ c = 0 ∧ O + o = L))

def RO (ρ : Rho) : CO → Value → Prop
  | .str s, v => v = .string s
  | .nilP, v => v = .pointer none
  | .nilS, v => v = .slice none 0 0
  | .nilM, v => v = .map none
  | .nilF, v => v = .nilFunc
  | .nilI, v => v = .nilIface
  | .map b, v => ∃ B O L, ρ b = some (.at B O L) ∧ v = .map (some B)
  | .fn f, v => v = .func (.func f) #[] #[]
  | .clo b, v => ∃ f a c, ρ b = some (.val f a c) ∧ v = .func (.func f) a c
  | .yield l, v => ∃ B O L, ρ l = some (.at B O L) ∧ v = .func (.yield B) #[] #[]
def RC (ρ : Rho) : CV → Value → Prop
  | .int k n, v => v = .int k n
  | .bool b, v => v = .bool b
  | .ptr b o, v => ∃ B O L, ρ b = some (.at B O L) ∧ v = .pointer (some ⟨B, O + o, none⟩)
  | .slice b o sz len cap, v => ∃ a c, v = .slice (some a) len c ∧ len ≤ c ∧ RS ρ b o sz len cap a c
  | .oth o, v => RO ρ o v
/-- lists, member by member -/
def All2 {α β : Type} (r : α → β → Prop) : List α → List β → Prop
  | [], [] => True
  | x :: xs, y :: ys => r x y ∧ All2 r xs ys
  | _, _ => False
def RP (ρ : Rho) (p : Bool × List CV) (v : Value) : Prop :=
  match p with
  | (true, cs) => ∃ a : Array Value, v = .agg a ∧ All2 (RC ρ) cs a.toList
  | (false, cs) => ∃ c, cs = [c] ∧ RC ρ c v
def RV (ρ : Rho) : AV → Value → Prop
  | .cv c, v => RC ρ c v
  | .agg cs, v => ∃ a : Array Value, v = .agg a ∧ All2 (RC ρ) cs a.toList
  | .tup vs, v => ∃ a : Array Value, v = .tuple a ∧ All2 (RP ρ) vs a.toList

/-- ρ' says of every number below n what ρ says. -/
def Ext (n : Nat) (ρ ρ' : Rho) : Prop := ∀ b, b < n → ρ' b = ρ b

end Go.Ev

namespace Go.Ev
noncomputable section

/-! The abstract heap. -/
inductive Blk where
  | row (cs : List CV) (wr opn : Bool)
  | map (es : List (AV × AV × Nat)) (clock : Nat)
  | clo (f : Nat) (fs cs : List AV)
  | iter (s : ByteArray) (pos : Nat)
  | miter (m : Option Nat) (since : Nat) (seen : List Nat) (last : Nat)
  | loop (st : LoopState) (pend : Option Code) (fn : Nat) (T : Tr AV) (N : Nat) (params : List Tmp) (assign body : Code) (dfr : Nat)
  | dfr (taken : Bool)
  | dead

structure Hp where
  next : Nat
  t : Tr Blk

def Hp.get (H : Hp) (b : Nat) : Option Blk := H.t.get b
def Hp.setK {β : Type} (H : Hp) (b : Nat) (x : Blk) (k : Hp → β) : β := Tr.setK H.t b x fun t => k ⟨H.next, t⟩
def Hp.newK {β : Type} (H : Hp) (x : Blk) (k : Nat → Hp → β) : β := forceN (Nat.add H.next 1) fun n => Tr.setK H.t H.next x fun t => k H.next ⟨n, t⟩
def Hp.set (H : Hp) (b : Nat) (x : Blk) : Hp := ⟨H.next, H.t.set b x⟩
def Hp.new (H : Hp) (x : Blk) : Hp := ⟨H.next + 1, H.t.set H.next x⟩
theorem Hp.setK_eq {β : Type} (H : Hp) (b : Nat) (x : Blk) (k : Hp → β) : H.setK b x k = k (H.set b x) := Tr.setK_eq _ _ _ _
theorem Hp.newK_eq {β : Type} (H : Hp) (x : Blk) (k : Nat → Hp → β) : H.newK x k = k H.next (H.new x) := by
  unfold Hp.newK; rw [forceN_eq, Tr.setK_eq]; rfl
theorem Hp.get_set (H : Hp) (b b' : Nat) (x : Blk) : (H.set b x).get b' = if b' = b then some x else H.get b' := Tr.get_set _ _ _ _
theorem Hp.get_new (H : Hp) (b' : Nat) (x : Blk) : (H.new x).get b' = if b' = H.next then some x else H.get b' := Tr.get_set _ _ _ _
@[simp] theorem Hp.next_set (H : Hp) (b : Nat) (x : Blk) : (H.set b x).next = H.next := rfl
@[simp] theorem Hp.next_new (H : Hp) (x : Blk) : (H.new x).next = H.next + 1 := rfl

/-- What the evaluator knows of a type. -/
structure TI where
  desc : TypeDesc
  size : Nat
  bytes : Nat
  zero : List CV
  agg : Bool
  /-- the kinds of the cells, where all are integers and the type is compared cell by cell -/
  flat : Option (List IntKind)

structure Env where
  nglob : Nat
  ty : Nat → Option TI
  fn : Nat → Option Func
  intr : Nat → Option (List AV → Hp → Option (AV × Hp))
  dfr : Nat → Bool

/-! Lists, handed on in normal form; none where they are too short. -/
section lists
variable {α β : Type}
def takeK (n : Nat) : List α → (List α → Option β) → Option β :=
  Nat.rec (fun _ k => k []) (fun _ ih l k => List.rec none (fun x xs _ => ih xs fun l => k (x :: l)) l) n
def dropK (n : Nat) : List α → (List α → Option β) → Option β :=
  Nat.rec (fun l k => k l) (fun _ ih l k => List.rec none (fun _ xs _ => ih xs k) l) n
def nthK (n : Nat) : List α → (α → Option β) → Option β :=
  Nat.rec (fun l k => List.rec none (fun x _ _ => k x) l) (fun _ ih l k => List.rec none (fun _ xs _ => ih xs k) l) n
def appK (xs ys : List α) : (List α → Option β) → Option β :=
  List.rec (fun k => k ys) (fun x _ ih k => ih fun l => k (x :: l)) xs
/-- ys written over xs's beginning -/
def overK (xs ys : List α) : (List α → Option β) → Option β :=
  List.rec (fun xs k => k xs) (fun y _ ih xs k => List.rec none (fun _ xs _ => ih xs fun l => k (y :: l)) xs) ys xs
/-- ys written over xs from place n on -/
def setsK (n : Nat) (xs ys : List α) : (List α → Option β) → Option β :=
  Nat.rec (fun xs k => overK xs ys k) (fun _ ih xs k => List.rec none (fun x xs _ => ih xs fun l => k (x :: l)) xs) n xs
def repK (n : Nat) (z : List α) : List α → (List α → Option β) → Option β :=
  Nat.rec (fun acc k => k acc) (fun _ ih acc k => appK z acc fun l => ih l k) n
def lenK (l : List α) : (Nat → Option β) → Option β :=
  List.rec (fun k => k 0) (fun _ _ ih k => ih fun n => k (Nat.succ n)) l

theorem takeK_z (l : List α) (k : List α → Option β) : takeK 0 l k = k [] := rfl
theorem takeK_s (n : Nat) (l : List α) (k : List α → Option β) : takeK (n + 1) l k = match l with | [] => none | x :: xs => takeK n xs fun l => k (x :: l) := by cases l <;> rfl
theorem dropK_z (l : List α) (k : List α → Option β) : dropK 0 l k = k l := rfl
theorem dropK_s (n : Nat) (l : List α) (k : List α → Option β) : dropK (n + 1) l k = match l with | [] => none | _ :: xs => dropK n xs k := by cases l <;> rfl
theorem nthK_z (l : List α) (k : α → Option β) : nthK 0 l k = match l with | [] => none | x :: _ => k x := by cases l <;> rfl
theorem nthK_s (n : Nat) (l : List α) (k : α → Option β) : nthK (n + 1) l k = match l with | [] => none | _ :: xs => nthK n xs k := by cases l <;> rfl
theorem takeK_some : ∀ (n : Nat) (l : List α) (k : List α → Option β) (r : β), takeK n l k = some r → n ≤ l.length ∧ k (l.take n) = some r
  | 0, _, _, _, h => ⟨Nat.zero_le _, h⟩
  | n+1, [], k, _, h => by cases h
  | n+1, x :: xs, k, r, h => by
    have := takeK_some n xs _ r h
    exact ⟨by simp; exact this.1, by simpa using this.2⟩
theorem dropK_some : ∀ (n : Nat) (l : List α) (k : List α → Option β) (r : β), dropK n l k = some r → n ≤ l.length ∧ k (l.drop n) = some r
  | 0, _, _, _, h => ⟨Nat.zero_le _, h⟩
  | n+1, [], _, _, h => by cases h
  | n+1, x :: xs, k, r, h => by
    have := dropK_some n xs k r h
    exact ⟨by simp; exact this.1, by simpa using this.2⟩
theorem nthK_some : ∀ (n : Nat) (l : List α) (k : α → Option β) (r : β), nthK n l k = some r → ∃ x, l[n]? = some x ∧ k x = some r
  | 0, [], _, _, h => by cases h
  | n+1, [], _, _, h => by cases h
  | 0, x :: _, _, _, h => ⟨x, rfl, h⟩
  | n+1, x :: xs, k, r, h => by
    obtain ⟨y, h1, h2⟩ := nthK_some n xs k r h
    exact ⟨y, by simpa using h1, h2⟩
theorem appK_eq : ∀ (xs ys : List α) (k : List α → Option β), appK xs ys k = k (xs ++ ys)
  | [], _, _ => rfl
  | x :: xs, ys, k => appK_eq xs ys fun l => k (x :: l)
theorem overK_some : ∀ (ys xs : List α) (k : List α → Option β) (r : β), overK xs ys k = some r → ys.length ≤ xs.length ∧ k (ys ++ xs.drop ys.length) = some r
  | [], xs, _, _, h => ⟨Nat.zero_le _, h⟩
  | _ :: _, [], _, _, h => by cases h
  | y :: ys, x :: xs, k, r, h => by
    have := overK_some ys xs _ r h
    exact ⟨by simp; exact this.1, by simpa using this.2⟩
theorem setsK_some : ∀ (n : Nat) (xs ys : List α) (k : List α → Option β) (r : β), setsK n xs ys k = some r →
    n + ys.length ≤ xs.length ∧ k (xs.take n ++ ys ++ xs.drop (n + ys.length)) = some r
  | 0, xs, ys, k, r, h => by
    have := overK_some ys xs k r h
    exact ⟨by omega, by simpa using this.2⟩
  | n+1, [], ys, k, r, h => by cases h
  | n+1, x :: xs, ys, k, r, h => by
    have := setsK_some n xs ys _ r h
    exact ⟨by simp; omega, by have h2 := this.2; rw [show n + 1 + ys.length = (n + ys.length) + 1 from by omega]; simpa using h2⟩
theorem repK_eq : ∀ (n : Nat) (z acc : List α) (k : List α → Option β), repK n z acc k = k ((List.replicate n z).flatten ++ acc)
  | 0, _, _, _ => rfl
  | n+1, z, acc, k => by
    show appK z acc (fun l => repK n z l k) = _
    rw [appK_eq, repK_eq n, ← List.append_assoc]
    congr 2
    clear k
    induction n with
    | zero => simp
    | succ n ih => simp only [List.replicate_succ, List.flatten_cons, List.append_assoc] at *; rw [ih]
theorem lenK_eq : ∀ (l : List α) (k : Nat → Option β), lenK l k = k l.length
  | [], _ => rfl
  | _ :: xs, k => lenK_eq xs fun n => k (Nat.succ n)
end lists

/-! Equality of abstract values. -/
def keqb : IntKind → IntKind → Bool
  | .i8, .i8 | .i16, .i16 | .i32, .i32 | .i64, .i64 | .u8, .u8 | .u16, .u16 | .u32, .u32 | .u64, .u64 => true
  | _, _ => false
theorem keqb_eq : ∀ {j k : IntKind}, keqb j k = true → j = k := by intro j k; cases j <;> cases k <;> simp [keqb]
theorem keqb_self (k : IntKind) : keqb k k = true := by cases k <;> rfl
def ieqb (a b : Int) : Bool :=
  match a, b with
  | .ofNat m, .ofNat n => Nat.beq m n
  | .negSucc m, .negSucc n => Nat.beq m n
  | _, _ => false
theorem nbeq_eq (a b : Nat) : Nat.beq a b = decide (a = b) := by
  by_cases h : a = b
  · subst h; simp
  · rw [decide_eq_false h]
    cases hb : Nat.beq a b with
    | false => rfl
    | true => exact absurd (Nat.eq_of_beq_eq_true hb) h
theorem ieqb_iff (a b : Int) : ieqb a b = decide (a = b) := by
  cases a <;> cases b <;> simp [ieqb, nbeq_eq] <;> omega
def obeq : Option Nat → Option Nat → Bool
  | none, none => true
  | some a, some b => Nat.beq a b
  | _, _ => false
def CO.beq : CO → CO → Bool
  | .nilP, .nilP | .nilS, .nilS | .nilM, .nilM | .nilF, .nilF | .nilI, .nilI => true
  | .map a, .map b => Nat.beq a b
  | .fn a, .fn b => Nat.beq a b
  | .clo a, .clo b => Nat.beq a b
  | .yield a, .yield b => Nat.beq a b
  | .str a, .str b => decide (a = b)
  | _, _ => false
def CV.beq : CV → CV → Bool
  | .bool a, .bool b => a == b
  | .int j a, .int k b => keqb j k && ieqb a b
  | .ptr a b, .ptr c d => Nat.beq a c && Nat.beq b d
  | .slice a b c d e, .slice a' b' c' d' e' => Nat.beq a a' && Nat.beq b b' && Nat.beq c c' && Nat.beq d d' && obeq e e'
  | .oth a, .oth b => a.beq b
  | _, _ => false
def CV.beqs : List CV → List CV → Bool
  | [], [] => true
  | x :: xs, y :: ys => x.beq y && beqs xs ys
  | _, _ => false
def pbeqs : List (Bool × List CV) → List (Bool × List CV) → Bool
  | [], [] => true
  | x :: xs, y :: ys => (x.1 == y.1) && CV.beqs x.2 y.2 && pbeqs xs ys
  | _, _ => false
def AV.beq : AV → AV → Bool
  | .cv a, .cv b => a.beq b
  | .agg a, .agg b => CV.beqs a b
  | .tup a, .tup b => pbeqs a b
  | _, _ => false
def AV.beqs : List AV → List AV → Bool
  | [], [] => true
  | x :: xs, y :: ys => x.beq y && beqs xs ys
  | _, _ => false
theorem obeq_eq {a b : Option Nat} (h : obeq a b = true) : a = b := by
  cases a <;> cases b <;> simp_all [obeq]
theorem CO.eq_of_beq {x y : CO} (h : x.beq y = true) : x = y := by
  cases x <;> cases y <;> simp_all [CO.beq]
theorem CV.eq_of_beq {x y : CV} (h : x.beq y = true) : x = y := by
  cases x <;> cases y <;> simp only [CV.beq, Bool.and_eq_true, Bool.false_eq_true, beq_iff_eq] at h
  case int.int => rw [keqb_eq h.1]; rw [ieqb_iff] at h; rw [of_decide_eq_true h.2]
  case bool.bool => rw [h]
  case ptr.ptr => rw [Nat.eq_of_beq_eq_true h.1, Nat.eq_of_beq_eq_true h.2]
  case slice.slice => rw [Nat.eq_of_beq_eq_true h.1.1.1.1, Nat.eq_of_beq_eq_true h.1.1.1.2, Nat.eq_of_beq_eq_true h.1.1.2, Nat.eq_of_beq_eq_true h.1.2, obeq_eq h.2]
  case oth.oth => rw [CO.eq_of_beq h]
theorem CV.eq_of_beqs : ∀ {x y : List CV}, CV.beqs x y = true → x = y
  | [], [], _ => rfl
  | [], _ :: _, h => by simp [CV.beqs] at h
  | _ :: _, [], h => by simp [CV.beqs] at h
  | x :: xs, y :: ys, h => by
    simp only [CV.beqs, Bool.and_eq_true] at h
    rw [CV.eq_of_beq h.1, CV.eq_of_beqs h.2]
theorem pbeqs_eq : ∀ {x y : List (Bool × List CV)}, pbeqs x y = true → x = y
  | [], [], _ => rfl
  | [], _ :: _, h => by simp [pbeqs] at h
  | _ :: _, [], h => by simp [pbeqs] at h
  | (a, x) :: xs, (b, y) :: ys, h => by
    simp only [pbeqs, Bool.and_eq_true, beq_iff_eq] at h
    rw [h.1.1, CV.eq_of_beqs h.1.2, pbeqs_eq h.2]
theorem AV.eq_of_beq {x y : AV} (h : x.beq y = true) : x = y := by
  cases x <;> cases y <;> simp only [AV.beq, Bool.false_eq_true] at h
  case cv.cv => rw [CV.eq_of_beq h]
  case agg.agg => rw [CV.eq_of_beqs h]
  case tup.tup => rw [pbeqs_eq h]
theorem AV.eq_of_beqs : ∀ {x y : List AV}, AV.beqs x y = true → x = y
  | [], [], _ => rfl
  | [], _ :: _, h => by simp [AV.beqs] at h
  | _ :: _, [], h => by simp [AV.beqs] at h
  | x :: xs, y :: ys, h => by
    simp only [AV.beqs, Bool.and_eq_true] at h
    rw [AV.eq_of_beq h.1, AV.eq_of_beqs h.2]

/-! Operands. -/
/-- A thing in a box: the kernel opens a closed box once and keeps what is in it. -/
structure Bx (α : Type) where
  f : α

/-- the way to a place of a tree -/
def pathF : Nat → Nat → List Bool
  | 0, _ => []
  | f+1, i => bif Nat.beq i 0 then [] else bif Nat.beq (Nat.mod i 2) 1 then true :: pathF f (Nat.div i 2) else false :: pathF f (Nat.sub (Nat.div i 2) 1)
def path (i : Nat) : List Bool := pathF (Nat.add i 1) i
def listK {α β : Type} : List α → (List α → β) → β
  | [], k => k []
  | x :: xs, k => listK xs fun l => k (x :: l)
def boolsK {β : Type} : List Bool → (List Bool → β) → β
  | [], k => k []
  | true :: xs, k => boolsK xs fun l => k (true :: l)
  | false :: xs, k => boolsK xs fun l => k (false :: l)
theorem boolsK_eq {β : Type} : ∀ (l : List Bool) (k : List Bool → β), boolsK l k = k l
  | [], _ => rfl
  | true :: xs, k => by simp [boolsK, boolsK_eq xs]
  | false :: xs, k => by simp [boolsK, boolsK_eq xs]
namespace Tr
variable {α β : Type}
def getP (p : List Bool) : Tr α → Option α :=
  List.rec (fun t => Tr.rec none (fun _ v _ _ _ => v) t) (fun b _ ih t => Tr.rec none (fun l _ r _ _ => Bool.rec (ih r) (ih l) b) t) p
def setP (a : α) (p : List Bool) : Tr α → (Tr α → β) → β :=
  List.rec (fun t k => Tr.rec (k (.n .e (some a) .e)) (fun l _ r _ _ => k (.n l (some a) r)) t)
    (fun b _ ih t k => Tr.rec (Bool.rec (ih .e fun r => k (.n .e none r)) (ih .e fun l => k (.n l none .e)) b)
      (fun l v r _ _ => Bool.rec (ih r fun r => k (.n l v r)) (ih l fun l => k (.n l v r)) b) t) p
theorem getP_path (f : Nat) : ∀ (i : Nat) (t : Tr α), i < f → getP (pathF f i) t = t.get i := by
  induction f with
  | zero => intro i t h; omega
  | succ f ih =>
    intro i t h
    have hp : pathF (f + 1) i = if i = 0 then [] else if i % 2 = 1 then true :: pathF f (i / 2) else false :: pathF f (i / 2 - 1) := by
      show (bif Nat.beq i 0 then _ else bif Nat.beq (i % 2) 1 then _ else _) = _
      by_cases h : i = 0
      · subst h; rfl
      · have h0 : Nat.beq i 0 = false := by cases hb : Nat.beq i 0 with | false => rfl | true => exact absurd (Nat.eq_of_beq_eq_true hb) h
        rw [h0, if_neg h]
        by_cases h1 : i % 2 = 1
        · rw [if_pos h1, h1]; rfl
        · have h2 : Nat.beq (i % 2) 1 = false := by cases hb : Nat.beq (i % 2) 1 with | false => rfl | true => exact absurd (Nat.eq_of_beq_eq_true hb) h1
          rw [h2, if_neg h1]; rfl
    rw [hp]
    by_cases h0 : i = 0
    · subst h0; rw [if_pos rfl, get_val]; cases t <;> rfl
    · rw [if_neg h0]
      by_cases h1 : i % 2 = 1
      · rw [if_pos h1, get_lft t i h1, ← ih _ _ (by omega)]
        cases t with
        | e => show none = _; rw [ih _ _ (by omega)]; rfl
        | n l v r => rfl
      · rw [if_neg h1, get_rgt t i h0 h1, ← ih _ _ (by omega)]
        cases t with
        | e => show none = _; rw [ih _ _ (by omega)]; rfl
        | n l v r => rfl
theorem setP_path (f : Nat) (a : α) : ∀ (i : Nat) (t : Tr α) (k : Tr α → β), i < f → setP a (pathF f i) t k = k (setF f t i a) := by
  induction f with
  | zero => intro i t k h; omega
  | succ f ih =>
    intro i t k h
    have hp : pathF (f + 1) i = if i = 0 then [] else if i % 2 = 1 then true :: pathF f (i / 2) else false :: pathF f (i / 2 - 1) := by
      show (bif Nat.beq i 0 then _ else bif Nat.beq (i % 2) 1 then _ else _) = _
      by_cases h : i = 0
      · subst h; rfl
      · have h0 : Nat.beq i 0 = false := by cases hb : Nat.beq i 0 with | false => rfl | true => exact absurd (Nat.eq_of_beq_eq_true hb) h
        rw [h0, if_neg h]
        by_cases h1 : i % 2 = 1
        · rw [if_pos h1, h1]; rfl
        · have h2 : Nat.beq (i % 2) 1 = false := by cases hb : Nat.beq (i % 2) 1 with | false => rfl | true => exact absurd (Nat.eq_of_beq_eq_true hb) h1
          rw [h2, if_neg h1]; rfl
    rw [hp, setF_succ]
    by_cases h0 : i = 0
    · subst h0; rw [if_pos rfl, if_pos rfl]; cases t <;> rfl
    · rw [if_neg h0, if_neg h0]
      by_cases h1 : i % 2 = 1
      · rw [if_pos h1, if_pos h1]
        cases t with
        | e => exact ih _ _ _ (by omega)
        | n l v r => exact ih _ _ _ (by omega)
      · rw [if_neg h1, if_neg h1]
        cases t with
        | e => exact ih _ _ _ (by omega)
        | n l v r => exact ih _ _ _ (by omega)
theorem getP_eq (i : Nat) (t : Tr α) : getP (path i) t = t.get i := getP_path _ _ _ (Nat.lt_succ_self i)
theorem setP_eq (a : α) (i : Nat) (t : Tr α) (k : Tr α → β) : setP a (path i) t k = k (t.set i a) := setP_path _ _ _ _ _ (Nat.lt_succ_self i)
end Tr

section ops
variable {R : Type}
abbrev OpdF (R : Type) := Tr AV → (AV → Option R) → Option R
abbrev OpdsF (R : Type) := Tr AV → (List AV → Option R) → Option R
abbrev OpF (R : Type) := Tr AV → Hp → (AV → Hp → Option R) → Option R

abbrev AV.i (k : IntKind) (n : Int) : AV := .cv (.int k n)
abbrev AV.b (b : Bool) : AV := .cv (.bool b)
abbrev AV.o (o : CO) : AV := .cv (.oth o)
abbrev AV.p (b o : Nat) : AV := .cv (.ptr b o)
abbrev AV.s (b o sz len : Nat) (cap : Option Nat) : AV := .cv (.slice b o sz len cap)

def constK {β : Type} (v : Value) (k : AV → β) (d : β) : β :=
  match v with
  | .int kd n => forceI n fun n => k (.i kd n)
  | .bool b => k (.b b)
  | .string s => k (.o (.str s))
  | .pointer none => k (.o .nilP)
  | .slice none 0 0 => k (.o .nilS)
  | .map none => k (.o .nilM)
  | .nilFunc => k (.o .nilF)
  | .nilIface => k (.o .nilI)
  | _ => d
def tmpF (p : List Bool) : OpdF R := fun T k => match T.getP p with | some v => k v | none => k .und
def consF (v : AV) : OpdF R := fun _ k => k v
def badF : OpdF R := fun _ _ => none
def cOpd (E : Env) (x : Operand) : Bx (OpdF R) :=
  match x with
  | .tmp t => boolsK (path t) fun p => ⟨tmpF p⟩
  | .const v => constK v (fun c => ⟨consF c⟩) ⟨badF⟩
  | .global g => bif Nat.blt g E.nglob then ⟨consF (.p g 0)⟩ else ⟨badF⟩
  | .func f => ⟨consF (.o (.fn f))⟩
def nilsF : OpdsF R := fun _ k => k []
def consesF (a : Bx (OpdF R)) (b : Bx (OpdsF R)) : OpdsF R := fun T k => a.f T fun v => b.f T fun vs => k (v :: vs)
def cOpds (E : Env) : List Operand → Bx (OpdsF R)
  | [] => ⟨nilsF⟩
  | x :: xs => ⟨consesF (cOpd E x) (cOpds E xs)⟩
def tyB {β : Type} (E : Env) (t : Nat) (k : TI → β) (d : β) : β := match E.ty t with | some i => k i | none => d

/-! Looking into values. -/
def cvK (v : AV) (k : CV → Option R) : Option R := match v with | .cv c => k c | _ => none
def cellsK (v : AV) (k : List CV → Option R) : Option R := match v with | .cv c => k [c] | .agg cs => k cs | .tup _ => none
def aggK (v : AV) (k : List CV → Option R) : Option R := match v with | .agg cs => k cs | _ => none
def tupK (v : AV) (k : List (Bool × List CV) → Option R) : Option R := match v with | .tup vs => k vs | _ => none
def boolK (v : AV) (a b : Option R) : Option R := match v with | .cv (.bool t) => (match t with | true => a | false => b) | _ => none
def intK (v : AV) (k : IntKind → Int → Option R) : Option R := match v with | .cv (.int kd n) => k kd n | _ => none
def ptrK (v : AV) (k : Nat → Nat → Option R) : Option R := match v with | .cv (.ptr b o) => k b o | _ => none
def sliceK (v : AV) (k : Nat → Nat → Nat → Nat → Option Nat → Option R) : Option R := match v with | .cv (.slice b o sz len cap) => k b o sz len cap | _ => none
def othK (v : AV) (k : CO → Option R) : Option R := match v with | .cv (.oth o) => k o | _ => none
def strK (v : AV) (k : ByteArray → Option R) : Option R := othK v fun o => match o with | .str s => k s | _ => none
def refK (v : AV) (k : Nat → Option R) : Option R := othK v fun o => match o with | .map b => k b | _ => none
/-- a slice, nil or not -/
def slK (v : AV) (n : Option R) (k : Nat → Nat → Nat → Nat → Option Nat → Option R) : Option R :=
  match v with
  | .cv (.slice b o sz len cap) => k b o sz len cap
  | .cv (.oth .nilS) => n
  | _ => none
def natK (v : AV) (k : Nat → Option R) : Option R := intK v fun _ n => match n with | .ofNat n => k n | .negSucc _ => none

/-! Arithmetic. -/
def ileb (a b : Int) : Bool :=
  match a, b with
  | .ofNat m, .ofNat n => Nat.ble m n
  | .ofNat _, .negSucc _ => false
  | .negSucc _, .ofNat _ => true
  | .negSucc m, .negSucc n => Nat.ble n m
def iltb (a b : Int) : Bool := !ileb b a
/-- numbers below this one, and their opposites where there are any, lie in the kind -/
def limF : IntKind → Nat
  | .i8 => 128 | .i16 => 32768 | .i32 => 2147483648 | .i64 => 9223372036854775808
  | .u8 => 256 | .u16 => 65536 | .u32 => 4294967296 | .u64 => 18446744073709551616
def sgnF : IntKind → Bool
  | .i8 | .i16 | .i32 | .i64 => true
  | _ => false
def wrapF (k : IntKind) (n : Int) : Int :=
  match n with
  | .ofNat m => bif Nat.blt m (limF k) then .ofNat m else k.wrap (.ofNat m)
  | .negSucc m => bif sgnF k && Nat.blt m (limF k) then .negSucc m else k.wrap (.negSucc m)
def bitsG (op : BinOp) (k : IntKind) (x y : Int) : Option Int :=
  let a := BitVec.ofInt k.bits x
  let b := BitVec.ofInt k.bits y
  match op with
  | .and => some (k.wrap (a &&& b).toNat)
  | .or => some (k.wrap (a ||| b).toNat)
  | .xor => some (k.wrap (a ^^^ b).toNat)
  | .andNot => some (k.wrap (a &&& ~~~b).toNat)
  | _ => none
def bitsN (f : Nat → Nat → Nat) (op : BinOp) (k : IntKind) (x y : Int) (g : Int → Option R) : Option R :=
  let d : Option R := match bitsG op k x y with | some n => g n | none => none
  match x with
  | .ofNat a => (match y with
    | .ofNat b => bif Nat.blt a (limF k) && Nat.blt b (limF k) then g (.ofNat (f a b)) else d
    | .negSucc _ => d)
  | .negSucc _ => d
def shlF (k : IntKind) (x : Int) (n : Nat) : Int :=
  match x with
  | .ofNat m => bif Nat.ble n 64 && Nat.blt (Nat.mul m (Nat.pow 2 n)) (limF k) then .ofNat (Nat.mul m (Nat.pow 2 n)) else k.wrap (x * 2 ^ (min n k.bits))
  | .negSucc _ => k.wrap (x * 2 ^ (min n k.bits))
def shrF (k : IntKind) (x : Int) (n : Nat) : Int :=
  match x with
  | .ofNat m => bif Nat.ble n k.bits then .ofNat (Nat.div m (Nat.pow 2 n)) else x.fdiv (2 ^ (min n k.bits))
  | .negSucc _ => x.fdiv (2 ^ (min n k.bits))
def aggEq : List IntKind → List CV → List CV → Option Bool
  | [], [], [] => some true
  | k :: ks, .int j a :: xs, .int j' b :: ys =>
    bif keqb j k && keqb j' k then match aggEq ks xs ys with | some r => some (ieqb a b && r) | none => none else none
  | _, _, _ => none
/-- what a type is to a comparison -/
inductive EK where
  | bool | str | ptr | slice | map | func | flat (ks : List IntKind) | bad
def eqKind (i : TI) : EK :=
  match i.flat with
  | some ks => .flat ks
  | none => match i.desc with
    | .bool => .bool
    | .string => .str
    | .pointer _ => .ptr
    | .slice _ => .slice
    | .map _ _ => .map
    | .func .. => .func
    | _ => .bad
def nilEq (z : CO → Bool) (f : CO → Bool) (g : CV → Bool) (x y : AV) : Option Bool :=
  let n (v : AV) : Option Bool := match v with | .cv (.oth o) => bif z o then some true else bif f o then some false else none | .cv c => bif g c then some false else none | _ => none
  match n x, n y with
  | some true, some b => some b
  | some false, some true => some false
  | _, _ => none
def isNilP : CO → Bool | .nilP => true | _ => false
def isNilS : CO → Bool | .nilS => true | _ => false
def isNilM : CO → Bool | .nilM => true | _ => false
def isNilF : CO → Bool | .nilF => true | _ => false
def isMapO : CO → Bool | .map _ => true | _ => false
def isFunO : CO → Bool | .fn _ | .clo _ => true | _ => false
def noO (_ : CO) : Bool := false
def isPtrC : CV → Bool | .ptr _ _ => true | _ => false
def isSlC : CV → Bool | .slice .. => true | _ => false
def noC (_ : CV) : Bool := false
def eqF (e : EK) (x y : AV) : Option Bool :=
  match e with
  | .bool => match x, y with | .cv (.bool a), .cv (.bool b) => some (a == b) | _, _ => none
  | .str => match x, y with | .cv (.oth (.str a)), .cv (.oth (.str b)) => some (decide (a.data.toList = b.data.toList)) | _, _ => none
  | .ptr => nilEq isNilP noO isPtrC x y
  | .slice => nilEq isNilS noO isSlC x y
  | .map => nilEq isNilM isMapO noC x y
  | .func => nilEq isNilF isFunO noC x y
  | .flat ks => match x, y with | .agg xs, .agg ys => aggEq ks xs ys | _, _ => none
  | .bad => none
def int2K (x y : AV) (g : IntKind → Int → Int → Option R) (d : Option R) : Option R :=
  match x with
  | .cv (.int k a) => (match y with | .cv (.int k' b) => bif keqb k k' then g k a b else none | _ => d)
  | _ => d
def gInt (h : Int → Int → Int) (x y : AV) (f : AV → Option R) : Option R := int2K x y (fun k a b => forceI (wrapF k (h a b)) fun n => f (.i k n)) none
def gQuo (x y : AV) (f : AV → Option R) : Option R := int2K x y (fun k a b => bif ieqb b 0 then none else forceI (wrapF k (a.tdiv b)) fun n => f (.i k n)) none
def gRem (x y : AV) (f : AV → Option R) : Option R := int2K x y (fun k a b => bif ieqb b 0 then none else forceI (a.tmod b) fun n => f (.i k n)) none
def gBits (h : Nat → Nat → Nat) (op : BinOp) (x y : AV) (f : AV → Option R) : Option R := int2K x y (fun k a b => bitsN h op k a b fun n => forceI n fun n => f (.i k n)) none
def gAndNot (x y : AV) (f : AV → Option R) : Option R := int2K x y (fun k a b => match bitsG .andNot k a b with | some n => forceI n fun n => f (.i k n) | none => none) none
def gCmp (h : Int → Int → Bool) (x y : AV) (f : AV → Option R) : Option R := int2K x y (fun _ a b => forceB (h a b) fun r => f (.b r)) none
def gAdd (x y : AV) (f : AV → Option R) : Option R := int2K x y (fun k a b => forceI (wrapF k (a + b)) fun n => f (.i k n))
  (strK x fun a => strK y fun b => bif Nat.blt (a.size + b.size) (2 ^ 62) then f (.o (.str (a ++ b))) else none)
def gShift (h : IntKind → Int → Nat → Int) (x y : AV) (f : AV → Option R) : Option R :=
  intK x fun k a => natK y fun n => forceI (h k a n) fun n => f (.i k n)
def gEql (i : EK) (x y : AV) (f : AV → Option R) : Option R :=
  int2K x y (fun _ a b => forceB (ieqb a b) fun r => f (.b r)) (match eqF i x y with | some r => forceB r fun r => f (.b r) | none => none)
def gNeq (i : EK) (x y : AV) (f : AV → Option R) : Option R :=
  int2K x y (fun _ a b => forceB (!ieqb a b) fun r => f (.b r)) (match eqF i x y with | some r => forceB (!r) fun r => f (.b r) | none => none)
def gBad (_ _ : AV) (_ : AV → Option R) : Option R := none
def igtb (a b : Int) : Bool := iltb b a
def igeb (a b : Int) : Bool := ileb b a
abbrev BinF (R : Type) := AV → AV → (AV → Option R) → Option R
def cBin (E : Env) (op : BinOp) (t : Nat) : Bx (BinF R) :=
  match op with
  | .add => ⟨gAdd⟩
  | .sub => ⟨gInt Int.sub⟩
  | .mul => ⟨gInt Int.mul⟩
  | .quo => ⟨gQuo⟩
  | .rem => ⟨gRem⟩
  | .and => ⟨gBits Nat.land .and⟩
  | .or => ⟨gBits Nat.lor .or⟩
  | .xor => ⟨gBits Nat.xor .xor⟩
  | .andNot => ⟨gAndNot⟩
  | .shl => ⟨gShift shlF⟩
  | .shr => ⟨gShift shrF⟩
  | .eql => tyB E t (fun i => ⟨gEql (eqKind i)⟩) ⟨gBad⟩
  | .neq => tyB E t (fun i => ⟨gNeq (eqKind i)⟩) ⟨gBad⟩
  | .lss => ⟨gCmp iltb⟩
  | .leq => ⟨gCmp ileb⟩
  | .gtr => ⟨gCmp igtb⟩
  | .geq => ⟨gCmp igeb⟩
abbrev UnF (R : Type) := AV → (AV → Option R) → Option R
def gNot (x : AV) (f : AV → Option R) : Option R := boolK x (f (.b false)) (f (.b true))
def gNeg (x : AV) (f : AV → Option R) : Option R := intK x fun k n => forceI (wrapF k (0 - n)) fun n => f (.i k n)
def gCompl (x : AV) (f : AV → Option R) : Option R := intK x fun k n => match bitsG .xor k (if k.signed then -1 else k.max) n with | some n => forceI n fun n => f (.i k n) | none => none
def gBad1 (_ : AV) (_ : AV → Option R) : Option R := none
def cUn (op : UnOp) : Bx (UnF R) :=
  match op with
  | .not => ⟨gNot⟩
  | .neg => ⟨gNeg⟩
  | .xor => ⟨gCompl⟩
  | .plus => ⟨gBad1⟩

/-! Slices. -/
def rowK (H : Hp) (b : Nat) (k : List CV → Bool → Bool → Option R) : Option R :=
  match H.get b with
  | some (.row cs wr opn) => k cs wr opn
  | _ => none
/-- a row that may be written -/
def rwK (H : Hp) (b : Nat) (k : List CV → Bool → Option R) : Option R :=
  rowK H b fun cs wr opn => bif wr then k cs opn else none
/-- cells of a row from o on -/
def cutK (cs : List CV) (o n : Nat) (k : List CV → Option R) : Option R := dropK o cs fun l => takeK n l k
/-- the first n elements' cells -/
def elemsK (H : Hp) (b o sz n : Nat) (k : List CV → Option R) : Option R :=
  bif Nat.beq n 0 then k [] else rowK H b fun cs _ _ => cutK cs o (Nat.mul n sz) k
def byteCells (s : List UInt8) : List CV := s.map fun c => .int .u8 (Int.ofNat c.toNat)
/-- write cells into a row -/
def writeK (H : Hp) (b o : Nat) (new : List CV) (k : Hp → Option R) : Option R :=
  rwK H b fun cs opn => setsK o cs new fun cs => H.setK b (.row cs true opn) k
def newRowK (H : Hp) (cs : List CV) (opn : Bool) (k : Nat → Hp → Option R) : Option R := H.newK (.row cs true opn) k
/-- old elements and new ones in a new row; the old row is dead where it may be the same -/
def growK (H : Hp) (b o sz len n : Nat) (new : List CV) (kill : Bool) (k : AV → Hp → Option R) : Option R :=
  rowK H b fun cs wr _ => bif kill && !wr then none else cutK cs o (Nat.mul len sz) fun old => appK old new fun cells =>
    bif kill then H.setK b .dead fun H => newRowK H cells true fun b H => forceN (Nat.add len n) fun m => k (.s b 0 sz m none) H
    else newRowK H cells true fun b H => forceN (Nat.add len n) fun m => k (.s b 0 sz m none) H
/-- append of n new elements with these cells -/
def appendF (size bytes : Nat) (H : Hp) (s : AV) (n : Nat) (new : List CV) (k : AV → Hp → Option R) : Option R :=
  slK s (bif Nat.beq n 0 then k s H else bif Nat.ble (Nat.mul n (Nat.add bytes 1)) 1099511627776 then newRowK H new true fun b H => k (.s b 0 size n none) H else none)
    fun b o sz len cap =>
    bif !Nat.beq sz size then none else
    bif Nat.beq n 0 then k s H else
    bif !Nat.ble (Nat.mul (Nat.add len n) (Nat.add bytes 1)) 1099511627776 then none else
      match cap with
      | some c =>
        bif Nat.ble (Nat.add len n) c then writeK H b (Nat.add o (Nat.mul len sz)) new fun H => forceN (Nat.add len n) fun m => k (.s b o sz m (some c)) H
        else bif Nat.beq len 0 then newRowK H new true fun b H => k (.s b 0 sz n none) H else growK H b o sz len n new false k
      | none =>
        rowK H b fun cs _ _ => lenK cs fun m =>
          bif Nat.ble (Nat.add o (Nat.mul (Nat.add len n) sz)) m then writeK H b (Nat.add o (Nat.mul len sz)) new fun H => forceN (Nat.add len n) fun m => k (.s b o sz m none) H
          else growK H b o sz len n new true k

def optNat (v : Option AV) (d : Nat) (k : Nat → Option R) : Option R := match v with | none => k d | some v => natK v k
def zeroOpt (v : Option AV) (k : Option R) : Option R := match v with | none => k | some v => natK v fun n => bif Nat.beq n 0 then k else none
def mkSl (b o sz l h : Nat) (cap : Option Nat) (k : AV → Option R) : Option R :=
  match cap with
  | none => forceN (Nat.add o (Nat.mul l sz)) fun o => forceN (Nat.sub h l) fun n => k (.s b o sz n none)
  | some m => forceN (bif Nat.beq m l then o else Nat.add o (Nat.mul l sz)) fun o => forceN (Nat.sub h l) fun n => forceN (Nat.sub m l) fun c => k (.s b o sz n (some c))
/-- do so many elements surely lie there? -/
def roomK (H : Hp) (b o sz n : Nat) (k : Option R) : Option R := rowK H b fun cs _ _ => lenK cs fun m => bif Nat.ble (Nat.add o (Nat.mul n sz)) m then k else none
/-- x[l:h:m] of a slice -/
def sliceF (H : Hp) (size : Nat) (x : AV) (lo hi mx : Option AV) (k : AV → Option R) : Option R :=
  slK x (zeroOpt lo (zeroOpt hi (zeroOpt mx (k x)))) fun b o sz len cap =>
    bif !Nat.beq sz size then none else
    optNat lo 0 fun l => optNat hi len fun h => bif !Nat.ble l h then none else
    match cap with
    | some c => optNat mx c fun m => bif Nat.ble h m && Nat.ble m c then mkSl b o sz l h (some m) k else none
    | none => match mx with
      | none => bif Nat.ble h len then mkSl b o sz l h none k else roomK H b o sz h (mkSl b o sz l h none k)
      | some m => natK m fun m => bif Nat.ble h m then (bif Nat.beq m 0 then k (.s b o sz 0 (some 0)) else roomK H b o sz m (mkSl b o sz l h (some m) k)) else none
def sliceStr (s : ByteArray) (lo hi : Option AV) (k : AV → Option R) : Option R :=
  optNat lo 0 fun l => optNat hi s.size fun h => bif Nat.ble l h && Nat.ble h s.size then k (.o (.str (s.extract l h))) else none

/-! Maps. -/
/-- what a key is -/
inductive KK where
  | int (k : IntKind) | str | flat (ks : List IntKind) | bad
def keyKind (i : TI) : KK :=
  match i.flat with
  | some ks => .flat ks
  | none => match i.desc with
    | .int k => .int k
    | .string => .str
    | _ => .bad
def keyEq (i : KK) (x y : AV) : Option Bool :=
  match i with
  | .int kd => match x, y with | .cv (.int k a), .cv (.int k' b) => bif keqb k kd && keqb k' kd then some (ieqb a b) else none | _, _ => none
  | .str => match x, y with | .cv (.oth (.str a)), .cv (.oth (.str b)) => some (decide (a.data.toList = b.data.toList)) | _, _ => none
  | .flat ks => match x, y with | .agg xs, .agg ys => aggEq ks xs ys | _, _ => none
  | .bad => none
/-- is this a value of the key's type? -/
def keyOk (i : KK) (x : AV) : Bool := match keyEq i x x with | some _ => true | none => false
def findF (i : KK) (x : AV) : List (AV × AV × Nat) → Option (Option AV)
  | [] => some none
  | e :: es => match keyEq i x e.1 with
    | some true => some (some e.2.1)
    | some false => findF i x es
    | none => none
def putF (i : KK) (x v : AV) (clock : Nat) : List (AV × AV × Nat) → (List (AV × AV × Nat) → Bool → Option R) → Option R
  | [], k => k [(x, v, clock)] true
  | e :: es, k => match keyEq i x e.1 with
    | some true => k ((x, v, e.2.2) :: es) false
    | some false => putF i x v clock es fun l b => k (e :: l) b
    | none => none
def delF (i : KK) (x : AV) : List (AV × AV × Nat) → (List (AV × AV × Nat) → Option R) → Option R
  | [], k => k []
  | e :: es, k => match keyEq i x e.1 with
    | some true => k es
    | some false => delF i x es fun l => k (e :: l)
    | none => none

/-! Building aggregates. -/
abbrev FillF (R : Type) := Tr AV → List CV → (List CV → Option R) → Option R
def fillNil : FillF R := fun _ cs k => k cs
def fillCons (off size : Nat) (x : Bx (OpdF R)) (rest : Bx (FillF R)) : FillF R :=
  fun T cs k => x.f T fun v => cellsK v fun ys => lenK ys fun n => bif Nat.beq n size then setsK off cs ys fun cs => rest.f T cs k else none
def fillBad : FillF R := fun _ _ _ => none
def cFill (E : Env) (place : Nat → Option (Nat × Nat)) : List (Nat × Operand) → Bx (FillF R)
  | [] => ⟨fillNil⟩
  | (i, x) :: rest => match place i with
    | some (off, size) => forceN off fun off => forceN size fun size => ⟨fillCons off size (cOpd E x) (cFill E place rest)⟩
    | none => ⟨fillBad⟩
def partK (agg : Bool) (size : Nat) (cs : List CV) (off : Nat) (k : AV → Option R) : Option R :=
  bif agg then cutK cs off size fun l => k (.agg l) else nthK off cs fun c => k (.cv c)

/-! The operations that are no calls of functions. -/
def opBad : OpF R := fun _ _ _ => none
def oMove (x : Bx (OpdF R)) : OpF R := fun T H k => x.f T fun v => k v H
def oPick (c a b : Bx (OpdF R)) : OpF R := fun T H k => c.f T fun c => boolK c (a.f T fun v => k v H) (b.f T fun v => k v H)
def oAlloc (z : List CV) : OpF R := fun _ H k => newRowK H z false fun b H => k (.p b 0) H
def oBox (x : Bx (OpdF R)) : OpF R := fun T H k => x.f T fun v => cellsK v fun cs => newRowK H cs false fun b H => k (.p b 0) H
def oBuild (z : List CV) (p : Bx (FillF R)) : OpF R := fun T H k => p.f T z fun cs => k (.agg cs) H
def oBuildSlice (z : List CV) (sz len : Nat) (p : Bx (FillF R)) : OpF R := fun T H k => p.f T z fun cs => newRowK H cs false fun b H => k (.s b 0 sz len (some len)) H
def oLoad (agg : Bool) (size : Nat) (a : Bx (OpdF R)) : OpF R := fun T H k => a.f T fun p => ptrK p fun b o => rowK H b fun cs _ _ => partK agg size cs o fun v => k v H
def oStore (size : Nat) (a x : Bx (OpdF R)) : OpF R := fun T H k =>
  a.f T fun p => ptrK p fun b o => x.f T fun v => cellsK v fun new => lenK new fun n => bif Nat.beq n size then writeK H b o new fun H => k .und H else none
def notNilK (v : AV) (k : Option R) : Option R := match v with | .cv (.ptr _ _) => k | .cv (.oth (.fn _)) => k | .cv (.oth (.clo _)) => k | _ => none
def oNilCheck (x : Bx (OpdF R)) : OpF R := fun T H k => x.f T fun v => notNilK v (k v H)
def oBin (g : Bx (BinF R)) (x y : Bx (OpdF R)) : OpF R := fun T H k => x.f T fun x => y.f T fun y => g.f x y fun v => k v H
def oUn (g : Bx (UnF R)) (x : Bx (OpdF R)) : OpF R := fun T H k => x.f T fun x => g.f x fun v => k v H
def oFunc (f : Nat) (a b : Bx (OpdsF R)) : OpF R := fun T H k => a.f T fun fs => b.f T fun cs => H.newK (.clo f fs cs) fun b H => k (.o (.clo b)) H
def oMakeSlice (ei : TI) (l c : Bx (OpdF R)) : OpF R := fun T H k => l.f T fun l => c.f T fun c => natK l fun l => natK c fun c =>
  bif Nat.ble l c && Nat.ble (Nat.mul c (Nat.add ei.bytes 1)) 1099511627776 && !Nat.beq ei.size 0 then repK c ei.zero [] fun z => newRowK H z false fun b H => k (.s b 0 ei.size l (some c)) H else none
abbrev OptF (R : Type) := Tr AV → (Option AV → Option R) → Option R
def optNone : OptF R := fun _ k => k none
def optSome (x : Bx (OpdF R)) : OptF R := fun T k => x.f T fun v => k (some v)
def cOpt (E : Env) (x : Option Operand) : Bx (OptF R) := match x with | none => ⟨optNone⟩ | some x => ⟨optSome (cOpd E x)⟩
def oSlice (sz : Nat) (x : Bx (OpdF R)) (lo hi mx : Bx (OptF R)) : OpF R := fun T H k =>
  x.f T fun x => lo.f T fun lo => hi.f T fun hi => mx.f T fun mx => sliceF H sz x lo hi mx fun v => k v H
def oSliceStr (x : Bx (OpdF R)) (lo hi : Bx (OptF R)) : OpF R := fun T H k => x.f T fun x => lo.f T fun lo => hi.f T fun hi => strK x fun s => sliceStr s lo hi fun v => k v H
def oFieldAddr (off : Nat) (x : Bx (OpdF R)) : OpF R := fun T H k => x.f T fun p => ptrK p fun b o => forceN (Nat.add o off) fun o => k (.p b o) H
def oField (agg : Bool) (size off : Nat) (x : Bx (OpdF R)) : OpF R := fun T H k => x.f T fun v => aggK v fun cs => partK agg size cs off fun v => k v H
def oIndexArr (n size : Nat) (x ix : Bx (OpdF R)) : OpF R := fun T H k => x.f T fun x => ix.f T fun ix => natK ix fun j => ptrK x fun b o => bif Nat.blt j n then forceN (Nat.add o (Nat.mul j size)) fun o => k (.p b o) H else none
def oIndexSl (size : Nat) (x ix : Bx (OpdF R)) : OpF R := fun T H k => x.f T fun x => ix.f T fun ix => natK ix fun j => sliceK x fun b o sz len _ => bif Nat.blt j len && Nat.beq sz size then forceN (Nat.add o (Nat.mul j size)) fun o => k (.p b o) H else none
def oIndexAgg (n size : Nat) (agg : Bool) (x ix : Bx (OpdF R)) : OpF R := fun T H k => x.f T fun x => ix.f T fun ix => natK ix fun j => aggK x fun cs => bif Nat.blt j n then partK agg size cs (Nat.mul j size) fun v => k v H else none
def oIndexStr (x ix : Bx (OpdF R)) : OpF R := fun T H k => x.f T fun x => ix.f T fun ix => natK ix fun j => strK x fun s => nthK j s.data.toList fun c => forceN c.toNat fun n => k (.i .u8 (Int.ofNat n)) H
def mapK (H : Hp) (b : Nat) (k : List (AV × AV × Nat) → Nat → Option R) : Option R :=
  match H.get b with | some (.map es clock) => k es clock | _ => none
/-- a value as a part of a tuple -/
def ptK (v : AV) (k : Bool × List CV → Option R) : Option R := match v with | .cv c => k (false, [c]) | .agg cs => k (true, cs) | .tup _ => none
def unpt (p : Bool × List CV) (k : AV → Option R) : Option R := match p.1 with | true => k (.agg p.2) | false => (match p.2 with | [c] => k (.cv c) | _ => none)
def zeroV (ei : TI) : AV := bif ei.agg then .agg ei.zero else (match ei.zero with | [z] => .cv z | _ => .und)
def okK (ok : Bool) (v : AV) (b : Bool) (k : AV → Option R) : Option R := bif ok then ptK v fun p => k (.tup [p, (false, [.bool b])]) else k v
def lookIn (H : Hp) (ki : KK) (ei : TI) (ok : Bool) (x : AV) (es : List (AV × AV × Nat)) (k : AV → Hp → Option R) : Option R :=
  match findF ki x es with
  | some (some v) => okK ok v true fun v => k v H
  | some none => okK ok (zeroV ei) false fun v => k v H
  | none => none
def oLookup (ki : KK) (ei : TI) (ok : Bool) (m ix : Bx (OpdF R)) : OpF R := fun T H k =>
  m.f T fun m => ix.f T fun x => bif keyOk ki x then othK m fun o =>
    (match o with
    | .nilM => lookIn H ki ei ok x [] k
    | .map b => mapK H b fun es _ => lookIn H ki ei ok x es k
    | _ => none)
  else none
def oMapUpdate (ki : KK) (m ix v : Bx (OpdF R)) : OpF R := fun T H k =>
  m.f T fun m => ix.f T fun x => v.f T fun v => refK m fun b => bif keyOk ki x then mapK H b fun es clock => putF ki x v clock es fun es fresh => H.setK b (.map es (bif fresh then Nat.succ clock else clock)) fun H => k .und H else none
def oRangeMap (x : Bx (OpdF R)) : OpF R := fun T H k => x.f T fun x => othK x fun o => match o with
  | .nilM => H.newK (.miter none 0 [] 0) fun b H => k (.p b 0) H
  | .map m => mapK H m fun _ clock => H.newK (.miter (some m) clock [] clock) fun b H => k (.p b 0) H
  | _ => none
def oRange (x : Bx (OpdF R)) : OpF R := fun T H k => x.f T fun x => strK x fun s => H.newK (.iter s 0) fun b H => k (.p b 0) H
def iterK (H : Hp) (p : AV) (k : Nat → ByteArray → Nat → Option R) : Option R :=
  ptrK p fun b o => bif Nat.beq o 0 then (match H.get b with | some (.iter s pos) => k b s pos | _ => none) else none
def oNext (it : Bx (OpdF R)) : OpF R := fun T H k => it.f T fun p => iterK H p fun b s pos => bif Nat.blt pos s.size then
    match Utf8.decode s pos with
    | (c, w) => forceN (Nat.add pos w) fun pos' => forceN c fun c => forceN pos fun p => H.setK b (.iter s pos') fun H => k (.tup [(false, [.bool true]), (false, [.int .i64 (Int.ofNat p)]), (false, [.int .i32 (Int.ofNat c)])]) H
  else k (.tup [(false, [.bool false])]) H
def memN (n : Nat) : List Nat → Bool
  | [] => false
  | m :: l => bif Nat.beq m n then true else memN n l
/-- entries that were not seen; all of them must be old -/
def leftF (seen : List Nat) (since : Nat) : List (AV × AV × Nat) → Option (List (AV × AV × Nat))
  | [] => some []
  | e :: es => bif memN e.2.2 seen then leftF seen since es else
    bif Nat.blt e.2.2 since then (match leftF seen since es with | some l => some (e :: l) | none => none) else none
def anyOld (last : Nat) : List (AV × AV × Nat) → Bool
  | [] => false
  | e :: es => bif Nat.blt e.2.2 last then true else anyOld last es
def allK (f : AV × AV × Nat → Option R) : List (AV × AV × Nat) → Option R → Option R
  | [], d => d
  | e :: es, _ => match f e with | none => none | some r => allK f es (some r)
def isNil {α : Type} : List α → Bool | [] => true | _ :: _ => false
def oNextMap (it : Bx (OpdF R)) : OpF R := fun T H k => it.f T fun p => ptrK p fun b o => bif Nat.beq o 0 then (match H.get b with
  | some (.miter none _ _ _) => k (.tup [(false, [.bool false])]) H
  | some (.miter (some m) since seen last) => mapK H m fun es clock => bif isNil seen || isNil es || anyOld last es then
      (match leftF seen since es with
      | some [] => k (.tup [(false, [.bool false])]) H
      | some l => allK (fun e => ptK e.1 fun x => ptK e.2.1 fun v => H.setK b (.miter (some m) since (e.2.2 :: seen) clock) fun H => k (.tup [(false, [.bool true]), x, v]) H) l none
      | none => none) else none
  | _ => none) else none
def findB (n : Nat) : List (AV × AV × Nat) → Option (AV × AV)
  | [] => none
  | e :: es => bif Nat.beq e.2.2 n then some (e.1, e.2.1) else findB n es
def oEntry (it : Bx (OpdF R)) : OpF R := fun T H k => it.f T fun p => ptrK p fun b o => bif Nat.beq o 0 then (match H.get b with
  | some (.miter (some m) _ (n :: _) last) => mapK H m fun es clock => bif Nat.beq clock last then (match findB n es with
      | some (x, v) => ptK x fun x => ptK v fun v => k (.tup [x, v]) H
      | none => none) else none
  | _ => none) else none
def oExtract (i : Nat) (x : Bx (OpdF R)) : OpF R := fun T H k => x.f T fun v => tupK v fun vs => nthK i vs fun p => unpt p fun v => k v H
def oMap : OpF R := fun _ H k => H.newK (.map [] 0) fun b H => k (.o (.map b)) H
def oConvInt (kd : IntKind) (x : Bx (OpdF R)) : OpF R := fun T H k => x.f T fun v => intK v fun _ n => forceI (wrapF kd n) fun n => k (.i kd n) H
def bytesOf : List CV → Option (List UInt8)
  | [] => some []
  | .int .u8 n :: l => match bytesOf l with | some r => some (UInt8.ofNat n.toNat :: r) | none => none
  | _ => none
def utf8Of : List CV → Option (List UInt8)
  | [] => some []
  | .int .i32 n :: l => match utf8Of l with | some r => some ((Utf8.encode n).data.toList ++ r) | none => none
  | _ => none
def oConvStr (g : List CV → Option (List UInt8)) (x : Bx (OpdF R)) : OpF R := fun T H k => x.f T fun v =>
  slK v (k (.o (.str .empty)) H) fun b o sz len _ => bif Nat.beq sz 1 then elemsK H b o sz len fun l => (match g l with | some r => k (.o (.str ⟨r.toArray⟩)) H | none => none) else none
def oConvBytes (x : Bx (OpdF R)) : OpF R := fun T H k => x.f T fun v => strK v fun s =>
  bif Nat.blt s.size 1099511627776 then newRowK H (byteCells s.data.toList) true fun b H => forceN s.size fun n => k (.s b 0 1 n none) H else none
def runesK : List Value → (List CV → Option R) → Option R
  | [], k => k []
  | .int .i32 n :: l, k => forceI n fun n => runesK l fun r => k (.int .i32 n :: r)
  | _, _ => none
def oConvRunes (x : Bx (OpdF R)) : OpF R := fun T H k => x.f T fun v => strK v fun s =>
  runesK (Conv.runesFrom s s.size 0 #[]).toList fun cs => lenK cs fun n => newRowK H cs true fun b H => k (.s b 0 1 n none) H
def isInt (i : TI) (k : IntKind) : Bool := match i.desc with | .int k' => keqb k k' | _ => false
def cConv (E : Env) (src dst : Nat) (x : Bx (OpdF R)) : Bx (OpF R) :=
  tyB E src (fun s => tyB E dst (fun d => match d.desc with
    | .int kd => ⟨oConvInt kd x⟩
    | .string => match s.desc with
      | .slice e => tyB E e (fun ei => bif isInt ei .u8 then ⟨oConvStr bytesOf x⟩ else bif isInt ei .i32 then ⟨oConvStr utf8Of x⟩ else ⟨opBad⟩) ⟨opBad⟩
      | _ => ⟨opBad⟩
    | .slice e => match s.desc with
      | .string => tyB E e (fun ei => bif isInt ei .u8 then ⟨oConvBytes x⟩ else bif isInt ei .i32 then ⟨oConvRunes x⟩ else ⟨opBad⟩) ⟨opBad⟩
      | _ => ⟨opBad⟩
    | _ => ⟨opBad⟩) ⟨opBad⟩) ⟨opBad⟩

def fieldPl (E : Env) (fields : List Field) (j : Nat) : Option (Nat × Nat) :=
  match fields[j]? with
  | some f => match E.ty f.type with | some fi => some (f.offset, fi.size) | none => none
  | none => none
def elemPl (size : Nat) (j : Nat) : Option (Nat × Nat) := some (Nat.mul j size, size)
def elemB {β : Type} (E : Env) (t : Nat) (k : TI → β) (d : β) : β := tyB E t (fun i => match i.desc with | .slice e => tyB E e k d | _ => d) d
def mapB {β : Type} (E : Env) (t : Nat) (k : TI → TI → β) (d : β) : β := tyB E t (fun i => match i.desc with | .map kt et => tyB E kt (fun ki => tyB E et (fun ei => k ki ei) d) d | _ => d) d
def fieldB {β : Type} (E : Env) (t f : Nat) (k : Field → TI → β) (d : β) : β :=
  tyB E t (fun i => match i.desc with | .struct fields => (match fields.toList[f]? with | some fd => tyB E fd.type (fun fi => k fd fi) d | none => d) | _ => d) d
def repL : Nat → List CV → List CV
  | 0, _ => []
  | n+1, z => z ++ repL n z
def cvsK {β : Type} : List CV → (List CV → β) → β
  | [], k => k []
  | x :: xs, k => cvsK xs fun l => k (x :: l)
theorem cvsK_eq {β : Type} : ∀ (l : List CV) (k : List CV → β), cvsK l k = k l
  | [], _ => rfl
  | x :: xs, k => by simp [cvsK, cvsK_eq xs]
def cOp (E : Env) (o : Op) : Bx (OpF R) :=
  match o with
  | .move x => ⟨oMove (cOpd E x)⟩
  | .assign x => ⟨oMove (cOpd E x)⟩
  | .pick c a b => ⟨oPick (cOpd E c) (cOpd E a) (cOpd E b)⟩
  | .alloc t => tyB E t (fun i => ⟨oAlloc i.zero⟩) ⟨opBad⟩
  | .box _ x => ⟨oBox (cOpd E x)⟩
  | .build t parts => tyB E t (fun i => match i.desc with
    | .struct fields => ⟨oBuild i.zero (cFill E (fieldPl E fields.toList) parts.toList)⟩
    | .array _ elem => tyB E elem (fun ei => ⟨oBuild i.zero (cFill E (elemPl ei.size) parts.toList)⟩) ⟨opBad⟩
    | _ => ⟨opBad⟩) ⟨opBad⟩
  | .buildSlice t len parts => elemB E t (fun ei => bif Nat.beq ei.size 0 || Nat.blt 16777216 (Nat.mul len ei.size) then ⟨opBad⟩ else
      cvsK (repL len ei.zero) fun z => forceN ei.size fun sz => ⟨oBuildSlice z sz len (cFill E (elemPl sz) parts.toList)⟩) ⟨opBad⟩
  | .load t a => tyB E t (fun i => forceB i.agg fun g => forceN i.size fun n => ⟨oLoad g n (cOpd E a)⟩) ⟨opBad⟩
  | .store t a x => tyB E t (fun i => forceN i.size fun n => ⟨oStore n (cOpd E a) (cOpd E x)⟩) ⟨opBad⟩
  | .nilCheck x => ⟨oNilCheck (cOpd E x)⟩
  | .binOp op t x y _ => ⟨oBin (cBin E op t) (cOpd E x) (cOpd E y)⟩
  | .unOp op _ x => ⟨oUn (cUn op) (cOpd E x)⟩
  | .convert src dst x => cConv E src dst (cOpd E x)
  | .makeFunc (.func f) first captured => ⟨oFunc f (cOpds E first.toList) (cOpds E captured.toList)⟩
  | .makeMap _ none => ⟨oMap⟩
  | .makeSlice t l c => elemB E t (fun ei => ⟨oMakeSlice ei (cOpd E l) (cOpd E c)⟩) ⟨opBad⟩
  | .slice t x lo hi mx => tyB E t (fun i => match i.desc with
    | .slice elem => bif Option.isSome mx && Option.isNone hi then ⟨opBad⟩ else tyB E elem (fun ei => bif Nat.beq ei.size 0 then ⟨opBad⟩ else forceN ei.size fun sz => ⟨oSlice sz (cOpd E x) (cOpt E lo) (cOpt E hi) (cOpt E mx)⟩) ⟨opBad⟩
    | .string => match mx with | none => ⟨oSliceStr (cOpd E x) (cOpt E lo) (cOpt E hi)⟩ | some _ => ⟨opBad⟩
    | _ => ⟨opBad⟩) ⟨opBad⟩
  | .fieldAddr t x f => fieldB E t f (fun fd fi => bif Nat.beq fi.size 0 then ⟨opBad⟩ else forceN fd.offset fun off => ⟨oFieldAddr off (cOpd E x)⟩) ⟨opBad⟩
  | .field t x f => fieldB E t f (fun fd fi => forceB fi.agg fun g => forceN fi.size fun n => forceN fd.offset fun off => ⟨oField g n off (cOpd E x)⟩) ⟨opBad⟩
  | .indexAddr t x ix => tyB E t (fun i => match i.desc with
    | .array n elem => tyB E elem (fun ei => bif Nat.beq ei.size 0 then ⟨opBad⟩ else forceN ei.size fun sz => ⟨oIndexArr n sz (cOpd E x) (cOpd E ix)⟩) ⟨opBad⟩
    | .slice elem => tyB E elem (fun ei => bif Nat.beq ei.size 0 then ⟨opBad⟩ else forceN ei.size fun sz => ⟨oIndexSl sz (cOpd E x) (cOpd E ix)⟩) ⟨opBad⟩
    | _ => ⟨opBad⟩) ⟨opBad⟩
  | .index t x ix => tyB E t (fun i => match i.desc with
    | .array n elem => tyB E elem (fun ei => forceB ei.agg fun g => forceN ei.size fun sz => ⟨oIndexAgg n sz g (cOpd E x) (cOpd E ix)⟩) ⟨opBad⟩
    | .string => ⟨oIndexStr (cOpd E x) (cOpd E ix)⟩
    | _ => ⟨opBad⟩) ⟨opBad⟩
  | .lookup t m ix ok => mapB E t (fun ki ei => ⟨oLookup (keyKind ki) ei ok (cOpd E m) (cOpd E ix)⟩) ⟨opBad⟩
  | .mapUpdate t m ix v => mapB E t (fun ki _ => ⟨oMapUpdate (keyKind ki) (cOpd E m) (cOpd E ix) (cOpd E v)⟩) ⟨opBad⟩
  | .range t x => tyB E t (fun i => match i.desc with | .string => ⟨oRange (cOpd E x)⟩ | .map _ _ => ⟨oRangeMap (cOpd E x)⟩ | _ => ⟨opBad⟩) ⟨opBad⟩
  | .next it true => ⟨oNext (cOpd E it)⟩
  | .next it false => ⟨oNextMap (cOpd E it)⟩
  | .entry it => ⟨oEntry (cOpd E it)⟩
  | .extract x i => ⟨oExtract i (cOpd E x)⟩
  | _ => ⟨opBad⟩

/-! Calls of builtin functions. -/
abbrev BopF (R : Type) := List AV → Hp → (AV → Hp → Option R) → Option R
def int2 (f : Int → Int → Int) (k : IntKind) : Int → List AV → (AV → Option R) → Option R
  | a, [], g => g (.i k a)
  | a, v :: rest, g => intK v fun k' b => bif keqb k k' then forceI (f a b) fun n => int2 f k n rest g else none
def args1 (args : List AV) (k : AV → Option R) : Option R := match args with | [x] => k x | _ => none
def args2 (args : List AV) (k : AV → AV → Option R) : Option R := match args with | [x, y] => k x y | _ => none
def int64 (n : Nat) : AV := .i .i64 (Int.ofNat n)
def bAppend (size bytes : Nat) : BopF R := fun args H k => args2 args fun s x =>
  slK x (appendF size bytes H s 0 [] k) fun b o sz n _ => bif Nat.beq sz size then elemsK H b o sz n fun new => appendF size bytes H s n new k else none
def bAppStr (size bytes : Nat) : BopF R := fun args H k => args2 args fun s x => strK x fun t => bif Nat.beq size 1 then forceN t.size fun n => appendF size bytes H s n (byteCells t.data.toList) k else none
def bAppInt (z : List CV) (size bytes : Nat) : BopF R := fun args H k => args2 args fun s x =>
  natK x fun n => bif Nat.ble (Nat.mul n (Nat.add bytes 1)) 1099511627776 then repK n z [] fun z => appendF size bytes H s n z k else none
def bLenStr : BopF R := fun args H k => args1 args fun x => strK x fun s => forceN s.size fun n => k (int64 n) H
def bLenArr (n : Nat) : BopF R := fun args H k => args1 args fun _ => k (int64 n) H
def bLenSl : BopF R := fun args H k => args1 args fun x => slK x (k (int64 0) H) fun _ _ _ len _ => k (int64 len) H
def bLenMap : BopF R := fun args H k => args1 args fun x => othK x fun o => match o with
  | .nilM => k (int64 0) H
  | .map b => mapK H b fun es _ => lenK es fun n => k (int64 n) H
  | _ => none
def bCap : BopF R := fun args H k => args1 args fun x => slK x (k (int64 0) H) fun _ _ _ _ cap => match cap with | some c => k (int64 c) H | none => none
def bCopy (size : Nat) : BopF R := fun args H k => args2 args fun d s =>
  slK s (slK d (k (int64 0) H) fun _ _ _ _ _ => k (int64 0) H) fun b' o' sz' n _ => slK d (k (int64 0) H) fun b o sz len _ =>
    bif Nat.beq sz size && Nat.beq sz' size then
      forceN (Nat.min n len) fun n => bif Nat.beq n 0 then k (int64 0) H else elemsK H b' o' sz n fun new => writeK H b o new fun H => k (int64 n) H
    else none
def bClear (z : List CV) (size : Nat) : BopF R := fun args H k => args1 args fun x => slK x (k .und H) fun b o sz len _ =>
  bif Nat.beq len 0 then k .und H else bif Nat.beq sz size then repK len z [] fun new => writeK H b o new fun H => k .und H else none
def minI (x y : Int) : Int := bif iltb y x then y else x
def maxI (x y : Int) : Int := bif iltb x y then y else x
def bMinMax (f : Int → Int → Int) : BopF R := fun args H k => match args with | v :: rest => intK v fun kd a => int2 f kd a rest fun v => k v H | [] => none
def bBad : BopF R := fun _ _ _ => none
def isIntTy (E : Env) (t : Nat) : Bool := tyB E t (fun i => match i.desc with | .int _ => true | _ => false) false
def isStrTy (E : Env) (t : Nat) : Bool := tyB E t (fun i => match i.desc with | .string => true | _ => false) false
def cBop (E : Env) (b : Builtin) (ts : List Nat) : Bx (BopF R) :=
  match b with
  | .append => match ts with
    | t :: t' :: _ => elemB E t (fun ei => bif Nat.beq ei.size 0 then ⟨bBad⟩ else forceN ei.size fun sz => forceN ei.bytes fun by' =>
        tyB E t' (fun i' => match i'.desc with | .int _ => ⟨bAppInt ei.zero sz by'⟩ | .string => ⟨bAppStr sz by'⟩ | _ => ⟨bAppend sz by'⟩) ⟨bBad⟩) ⟨bBad⟩
    | _ => ⟨bBad⟩
  | .len => match ts with
    | t :: _ => tyB E t (fun i => match i.desc with
      | .string => ⟨bLenStr⟩
      | .array n _ => ⟨bLenArr n⟩
      | .slice _ => ⟨bLenSl⟩
      | .map _ _ => ⟨bLenMap⟩
      | _ => ⟨bBad⟩) ⟨bBad⟩
    | _ => ⟨bBad⟩
  | .cap => match ts with | t :: _ => elemB E t (fun _ => ⟨bCap⟩) ⟨bBad⟩ | _ => ⟨bBad⟩
  | .copy => match ts with | t :: _ => elemB E t (fun ei => bif Nat.beq ei.size 0 then ⟨bBad⟩ else forceN ei.size fun n => ⟨bCopy n⟩) ⟨bBad⟩ | _ => ⟨bBad⟩
  | .clear => match ts with | t :: _ => elemB E t (fun ei => bif Nat.beq ei.size 0 then ⟨bBad⟩ else ⟨bClear ei.zero ei.size⟩) ⟨bBad⟩ | _ => ⟨bBad⟩
  | .min => ⟨bMinMax minI⟩
  | .max => ⟨bMinMax maxI⟩
  | _ => ⟨bBad⟩
end ops

end
end Go.Ev

namespace Go.Ev
noncomputable section

/-! Code. -/
inductive AExit where
  | normal | exit (id : Nat) | ret

inductive ADef where
  | mark (b : Nat)
  | call (f : Nat) (args : List AV)

structure Ctx where
  fn : Nat
  N : Nat
  rd : Bool

/-- What a frame goes on with: its temporaries, its deferred calls, the heap. -/
abbrev KF (R : Type) := Tr AV → List ADef → Hp → Option R
abbrev KX (R : Type) := AExit → Tr AV → List ADef → Hp → Option R
abbrev KV (R : Type) := AV → Hp → Option R

/-- What is a level of calls deeper. -/
structure SemR (R : Type) where
  code : Ctx → Code → Tr AV → List ADef → Hp → KX R → Option R
  callv : AV → List AV → Hp → KV R → Option R

abbrev StepF (R : Type) := SemR R → Ctx → Tr AV → List ADef → Hp → KF R → Option R
abbrev CodeF (R : Type) := SemR R → Ctx → Tr AV → List ADef → Hp → KX R → Option R

section sem
variable {R : Type}

/-! One operation with its guard and its place. -/
abbrev PutF (R : Type) := Nat → Tr AV → AV → (Tr AV → Option R) → Option R
def putNone : PutF R := fun _ T _ k => k T
def putSome (d : Nat) (p : List Bool) : PutF R := fun N T v k => bif Nat.blt d N then T.setP v p k else none
def cPut (dst : Option Tmp) : Bx (PutF R) := match dst with | none => ⟨putNone⟩ | some d => boolsK (path d) fun p => ⟨putSome d p⟩

abbrev WantF (R : Type) := Tr AV → Option R → Option R → Option R
def wantAll : WantF R := fun _ a _ => a
def wantNo : WantF R := fun _ _ b => b
def wantTmp (p : List Bool) (want : Bool) : WantF R := fun T a b => match T.getP p with
  | some (.cv (.bool t)) => (match t, want with | true, true => a | false, false => a | _, _ => b)
  | _ => b
def cWant (ops : List Oper) (g : Option (Nat × Bool)) : Bx (WantF R) :=
  match g with
  | none => ⟨wantAll⟩
  | some (j, want) => match ops[j]? with
    | some o => (match o.dst with | some d => boolsK (path d) fun p => forceB want fun want => ⟨wantTmp p want⟩ | none => ⟨wantNo⟩)
    | none => ⟨wantNo⟩

/-- an operation as it is run within a frame: it may call -/
abbrev RunF (R : Type) := SemR R → Tr AV → List ADef → Hp → (AV → List ADef → Hp → Option R) → Option R
def runOp (o : Bx (OpF R)) : RunF R := fun _ T ds H k => o.f T H fun v H => k v ds H
def runCall (f : Bx (OpdF R)) (args : Bx (OpdsF R)) : RunF R := fun S T ds H k => f.f T fun f => args.f T fun args => S.callv f args H fun v H => k v ds H
def runBop (b : Bx (BopF R)) (args : Bx (OpdsF R)) : RunF R := fun _ T ds H k => args.f T fun args => b.f args H fun v H => k v ds H
def cloK (H : Hp) (b : Nat) (k : Nat → List AV → List AV → Option R) : Option R := match H.get b with | some (.clo f fs cs) => k f fs cs | _ => none
def funcK (H : Hp) (f : AV) (k : Nat → List AV → List AV → Option R) : Option R := othK f fun o => match o with | .fn f => k f [] [] | .clo b => cloK H b k | _ => none
def runDefer (f : Bx (OpdF R)) (args : Bx (OpdsF R)) : RunF R := fun _ T ds H k => f.f T fun f => args.f T fun args => funcK H f fun f fs cs => k .und (.call f (fs ++ args ++ cs) :: ds) H
def runBad : RunF R := fun _ _ _ _ _ => none
def cRun (E : Env) (o : Op) : Bx (RunF R) :=
  match o with
  | .call c => match c.callee with
    | .value f => ⟨runCall (cOpd E f) (cOpds E c.args.toList)⟩
    | .builtin b => ⟨runBop (cBop E b c.argTypes.toList) (cOpds E c.args.toList)⟩
    | _ => ⟨runBad⟩
  | .defer c => match c.callee with
    | .value f => ⟨runDefer (cOpd E f) (cOpds E c.args.toList)⟩
    | _ => ⟨runBad⟩
  | o => ⟨runOp (cOp E o)⟩

def stepF (w : Bx (WantF R)) (o : Bx (RunF R)) (p : Bx (PutF R)) : StepF R := fun S c T ds H k =>
  w.f T (o.f S T ds H fun v ds H => p.f c.N T v fun T => k T ds H) (p.f c.N T .und fun T => k T ds H)
def noRound (a : Bx (StepF R)) : StepF R := fun S c T ds H k => bif c.rd then none else a.f S c T ds H k
def isDefer : Op → Bool | .defer _ => true | _ => false
def cStep (E : Env) (ops : List Oper) (o : Oper) : Bx (StepF R) :=
  bif isDefer o.op then ⟨noRound ⟨stepF (cWant ops o.guard) (cRun E o.op) (cPut o.dst)⟩⟩ else ⟨stepF (cWant ops o.guard) (cRun E o.op) (cPut o.dst)⟩
def stepNil : StepF R := fun _ _ T ds H k => k T ds H
def stepCons (a b : Bx (StepF R)) : StepF R := fun S c T ds H k => a.f S c T ds H fun T ds H => b.f S c T ds H k
def stepBad : StepF R := fun _ _ _ _ _ _ => none
def cSeqRun (E : Env) (ops : List Oper) : List Oper → Bx (StepF R)
  | [] => ⟨stepNil⟩
  | o :: rest => ⟨stepCons (cStep E ops o) (cSeqRun E ops rest)⟩

/-! Regions that draw their order: a plan. -/
structure Seg where
  floats : List Nat
  again : List Nat
  loud : Option Nat

inductive OpK where
  | pure | read | alloc | loud
def isIntD : TypeDesc → Bool | .int _ => true | _ => false
def isStrD : TypeDesc → Bool | .string => true | _ => false
def opKind (E : Env) : Op → OpK
  | .load .. | .lookup .. | .slice .. | .entry _ => .read
  | .alloc _ | .box .. | .buildSlice .. | .makeSlice .. | .makeMap .. | .makeFunc .. => .alloc
  | .move _ | .assign _ | .pick .. | .build .. | .fieldAddr .. | .field .. | .binOp .. | .unOp .. | .extract .. | .nilCheck _ | .indexAddr .. | .index .. => .pure
  | .convert _ dst _ => tyB E dst (fun i => bif isIntD i.desc then .pure else bif isStrD i.desc then .read else .alloc) .loud
  | .call { callee := .builtin .len, .. } => .read
  | .call { callee := .builtin .max, .. } | .call { callee := .builtin .min, .. } | .call { callee := .builtin .cap, .. } => .pure
  | _ => .loud
def isRead (E : Env) (o : Op) : Bool := match opKind E o with | .read => true | _ => false
def isAlloc (E : Env) (o : Op) : Bool := match opKind E o with | .alloc => true | _ => false
def isLoud (E : Env) (o : Op) : Bool := match opKind E o with | .loud => true | _ => false
/-- bit j of number i: operation j comes before i in every order -/
def befStep (acc : List Nat) (o : Oper) : Nat := o.after.toList.foldl (fun s e => bif Region.binds .any e then Nat.lor (Nat.lor s (Nat.pow 2 e.on)) (acc.getD e.on 0) else s) 0
def befs : List Nat → List Oper → List Nat
  | acc, [] => acc
  | acc, o :: rest => befs (acc ++ [befStep acc o]) rest
def bef (bs : List Nat) (i j : Nat) : Bool := Nat.testBit (bs.getD i 0) j

def mkSegs (E : Env) (ops : List Oper) (bs : List Nat) (louds : List Nat) : List Nat → List Nat → List Nat → List Seg
  | done, doneL, todoL =>
    let fl := (List.range ops.length).filter fun i => !louds.contains i && !done.contains i && louds.all fun l => !bef bs i l || doneL.contains l
    let done' := done ++ fl
    let ag := done'.filter fun i => (match ops[i]? with | some o => isRead E o.op || isAlloc E o.op | none => false) && doneL.all fun l => !bef bs l i
    match todoL with
    | [] => [⟨fl, ag, none⟩]
    | l :: rest => ⟨fl, ag, some l⟩ :: mkSegs E ops bs louds done' (l :: doneL) rest
termination_by structural _ _ todoL => todoL
def mkPlan (E : Env) (ops : List Oper) : List Seg :=
  let louds := (List.range ops.length).filter fun i => match ops[i]? with | some o => isLoud E o.op | none => false
  mkSegs E ops (befs [] ops) louds [] [] louds
/-- what is asked of a plan -/
def wrOf (t : Nat) : Nat → List Oper → Option Nat
  | _, [] => none
  | i, o :: rest => match o.dst with
    | some d => bif Nat.beq d t then some i else wrOf t (Nat.succ i) rest
    | none => wrOf t (Nat.succ i) rest
def inL (n : Nat) : List Nat → Bool
  | [] => false
  | m :: l => bif Nat.beq m n then true else inL n l
/-- every temporary that operation i looks at is written by one that comes before it and has been done, or by one that comes behind -/
def looksOk (ops : List Oper) (bs : List Nat) (done : List Nat) (i : Nat) (o : Oper) : Bool :=
  (o.looksAt ops.toArray).all fun t => match wrOf t 0 ops with
    | none => true
    | some j => bif inL j done then bef bs i j else (bef bs j i || Nat.beq j i)
/-- every temporary that it looks at is written by one that comes before it -/
def strictOk (ops : List Oper) (bs : List Nat) (i : Nat) (o : Oper) : Bool :=
  (o.looksAt ops.toArray).all fun t => match wrOf t 0 ops with
    | none => true
    | some j => bef bs i j
def afterPrev (bs : List Nat) (prev : Option Nat) (i : Nat) : Bool := match prev with | none => true | some l => bef bs i l
def floatsOk (E : Env) (ops : List Oper) (bs : List Nat) (prev : Option Nat) : List Nat → List Nat → Option (List Nat)
  | done, [] => some done
  | done, i :: fl => match ops[i]? with
    | some o => bif !isLoud E o.op && !inL i done && looksOk ops bs done i o && afterPrev bs prev i then floatsOk E ops bs prev (i :: done) fl else none
    | none => none
def agOk (E : Env) (ops : List Oper) (bs : List Nat) (prev : Option Nat) (ag : List Nat) (i : Nat) : Bool :=
  match ops[i]? with
  | some o => bif isRead E o.op || isAlloc E o.op then
      (match prev with | some l => bef bs l i | none => false) || (inL i ag && strictOk ops bs i o)
    else true
  | none => false
def allIn : Nat → List Nat → Bool
  | 0, _ => true
  | n+1, l => inL n l && allIn n l
def segsOk (E : Env) (ops : List Oper) (bs : List Nat) : List Nat → Option Nat → List Seg → Bool
  | _, _, [] => false
  | done, prev, s :: rest => match floatsOk E ops bs prev done s.floats with
    | none => false
    | some done => done.all (agOk E ops bs prev s.again) && (match s.loud with
      | none => allIn ops.length done
      | some l => match ops[l]? with
        | some o => isLoud E o.op && !inL l done && looksOk ops bs done l o && afterPrev bs prev l && segsOk E ops bs (l :: done) (some l) rest
        | none => false)
/-- no temporary is written twice -/
def uniqOk : List Nat → List Oper → Bool
  | _, [] => true
  | seen, o :: rest => match o.dst with
    | some d => !inL d seen && uniqOk (d :: seen) rest
    | none => uniqOk seen rest
/-- edges point backwards -/
def backOk : Nat → List Oper → Bool
  | _, [] => true
  | i, o :: rest => (o.after.toList.all fun e => bif Region.binds .any e then Nat.blt e.on i else true) && backOk (Nat.succ i) rest
def planOk (E : Env) (ops : List Oper) (segs : List Seg) : Bool := uniqOk [] ops && backOk 0 ops && segsOk E ops (befs [] ops) [] none segs

def cFloats (E : Env) (ops : List Oper) : List Nat → Bx (StepF R)
  | [] => ⟨stepNil⟩
  | i :: rest => match ops[i]? with
    | some o => ⟨stepCons (cStep E ops o) (cFloats E ops rest)⟩
    | none => ⟨stepBad⟩
/-- the operation is carried out once more: it must give what it has given (a read), or what it has made must lie as it was made (an allocation) -/
abbrev AgainF (R : Type) := Tr AV → Hp → Option R → Option R
def sameRow (H : Hp) (b : Nat) (H' : Hp) (b' : Nat) (k : Option R) : Option R :=
  match H.get b, H'.get b' with
  | some (.row cs wr opn), some (.row cs' wr' opn') => bif CV.beqs cs cs' && (wr == wr') && (opn == opn') then k else none
  | _, _ => none
def sameClo (H : Hp) (b : Nat) (H' : Hp) (b' : Nat) (k : Option R) : Option R :=
  match H.get b, H'.get b' with
  | some (.clo f fs cs), some (.clo f' fs' cs') => bif Nat.beq f f' && AV.beqs fs fs' && AV.beqs cs cs' then k else none
  | _, _ => none
def sameMap (H : Hp) (b : Nat) (H' : Hp) (b' : Nat) (k : Option R) : Option R := match H.get b, H'.get b' with | some (.map [] 0), some (.map [] 0) => k | _, _ => none
def sameNew (H : Hp) (v v' : AV) (H' : Hp) (k : Option R) : Option R :=
  match v, v' with
  | .cv (.ptr b 0), .cv (.ptr b' 0) => sameRow H b H' b' k
  | .cv (.slice b 0 sz len cap), .cv (.slice b' 0 sz' len' cap') => bif Nat.beq sz sz' && Nat.beq len len' && obeq cap cap' then sameRow H b H' b' k else none
  | .cv (.oth (.map b)), .cv (.oth (.map b')) => sameMap H b H' b' k
  | .cv (.oth (.clo b)), .cv (.oth (.clo b')) => sameClo H b H' b' k
  | _, _ => none
def againAlloc (w : Bx (WantF R)) (o : Bx (OpF R)) (p : List Bool) : AgainF R := fun T H k => w.f T (match T.getP p with | some v => o.f T H fun v' H' => sameNew H v v' H' k | none => none) k
def againRead (w : Bx (WantF R)) (o : Bx (OpF R)) (p : List Bool) : AgainF R := fun T H k => w.f T (match T.getP p with | some v => o.f T H fun v' _ => bif AV.beq v v' then k else none | none => none) k
def againBop (w : Bx (WantF R)) (b : Bx (BopF R)) (args : Bx (OpdsF R)) (p : List Bool) : AgainF R := fun T H k =>
  w.f T (match T.getP p with | some v => args.f T fun args => b.f args H fun v' _ => bif AV.beq v v' then k else none | none => none) k
def againBad : AgainF R := fun _ _ _ => none
def cAgain (E : Env) (ops : List Oper) (i : Nat) : Bx (AgainF R) :=
  match ops[i]? with
  | none => ⟨againBad⟩
  | some o => bif isRead E o.op || isAlloc E o.op then (match o.dst with
    | none => ⟨againBad⟩
    | some d => boolsK (path d) fun p =>
      bif isAlloc E o.op then ⟨againAlloc (cWant ops o.guard) (cOp E o.op) p⟩ else
      match o.op with
      | .call c => match c.callee with
        | .builtin b => ⟨againBop (cWant ops o.guard) (cBop E b c.argTypes.toList) (cOpds E c.args.toList) p⟩
        | _ => ⟨againBad⟩
      | op => ⟨againRead (cWant ops o.guard) (cOp E op) p⟩) else ⟨againBad⟩
def againNil : AgainF R := fun _ _ k => k
def againCons (a b : Bx (AgainF R)) : AgainF R := fun T H k => a.f T H (b.f T H k)
def cAgains (E : Env) (ops : List Oper) : List Nat → Bx (AgainF R)
  | [] => ⟨againNil⟩
  | i :: rest => ⟨againCons (cAgain E ops i) (cAgains E ops rest)⟩
def segLast (fl : Bx (StepF R)) (ag : Bx (AgainF R)) : StepF R := fun S c T ds H k => fl.f S c T ds H fun T ds H => ag.f T H (k T ds H)
def segCons (fl : Bx (StepF R)) (ag : Bx (AgainF R)) (l : Bx (StepF R)) (rest : Bx (StepF R)) : StepF R := fun S c T ds H k =>
  fl.f S c T ds H fun T ds H => ag.f T H (l.f S c T ds H fun T ds H => rest.f S c T ds H k)
def cSegs (E : Env) (ops : List Oper) : List Seg → Bx (StepF R)
  | [] => ⟨stepBad⟩
  | s :: rest => match s.loud with
    | none => ⟨segLast (cFloats E ops s.floats) (cAgains E ops s.again)⟩
    | some l => match ops[l]? with
      | some o => ⟨segCons (cFloats E ops s.floats) (cAgains E ops s.again) (cStep E ops o) (cSegs E ops rest)⟩
      | none => ⟨stepBad⟩
def cDraw (E : Env) (ops : List Oper) (segs : List Seg) : Bx (StepF R) := bif planOk E ops segs then cSegs E ops segs else ⟨stepBad⟩

/-! Code. -/
def thenK (e : AExit) (n : Option R) (k : AExit → Option R) : Option R := match e with | .normal => n | .exit id => k (.exit id) | .ret => k .ret
def blockX (id : Nat) (e : AExit) : AExit := match e with | .exit j => bif Nat.beq j id then .normal else .exit j | .normal => .normal | .ret => .ret
def codeSkip : CodeF R := fun _ _ T ds H k => k .normal T ds H
def codeRet : CodeF R := fun _ _ T ds H k => k .ret T ds H
def codeExit (id : Nat) : CodeF R := fun _ _ T ds H k => k (.exit id) T ds H
def codeSeq (a b : Bx (CodeF R)) : CodeF R := fun S c T ds H k => a.f S c T ds H fun e T ds H => thenK e (b.f S c T ds H k) fun e => k e T ds H
def codeCond (x : Bx (OpdF R)) (a b : Bx (CodeF R)) : CodeF R := fun S c T ds H k => x.f T fun v => boolK v (a.f S c T ds H k) (b.f S c T ds H k)
def codeBlock (id : Nat) (a : Bx (CodeF R)) : CodeF R := fun S c T ds H k => a.f S c T ds H fun e T ds H => k (blockX id e) T ds H
def codeLoop (x : Code) (a : Bx (CodeF R)) : CodeF R := fun S c T ds H k => a.f S c T ds H fun e T ds H => thenK e (S.code c (.loop x) T ds H k) fun e => k e T ds H
def codeRegion (a : Bx (StepF R)) : CodeF R := fun S c T ds H k => a.f S c T ds H fun T ds H => k .normal T ds H
def rangeEnd (S : SemR R) (c : Ctx) (T : Tr AV) (ds : List ADef) (L D : Nat) (H : Hp) (k : KX R) : Option R :=
  match H.get L with
  | some (.loop st pend fn T' N' ps' as' bd' D') => (match st with
    | .busy => none
    | _ => H.setK L (.loop .exhausted pend fn T' N' ps' as' bd' D') fun H => match pend with
      | none => k .normal T (.mark D :: ds) H
      | some c' => S.code c c' T (.mark D :: ds) H k)
  | _ => none
def notYield (f : AV) (k : Option R) : Option R := match f with | .cv (.oth (.yield _)) => none | _ => k
def codeRange (g : Bx (OpdF R)) (ps : List Tmp) (assign body : Code) : CodeF R := fun S c T ds H k =>
  bif c.rd then none else
  g.f T fun f => notYield f (H.newK (.dfr false) fun D H => H.newK (.loop .ready none c.fn T c.N ps assign body D) fun L H =>
    S.callv f [.o (.yield L)] H fun _ H => rangeEnd S c T ds L D H k)
def codeBad : CodeF R := fun _ _ _ _ _ _ => none
def cCode (E : Env) (x : Code) : Bx (CodeF R) :=
  Code.rec (motive := fun _ => Bx (CodeF R)) ⟨codeSkip⟩
    (fun _ ops draw => match draw with | false => ⟨codeRegion (cSeqRun E ops.toList ops.toList)⟩ | true => ⟨codeRegion (cDraw E ops.toList (mkPlan E ops.toList))⟩)
    (fun _ _ a b => ⟨codeSeq a b⟩)
    (fun x _ _ a b => ⟨codeCond (cOpd E x) a b⟩)
    (fun id _ a => ⟨codeBlock id a⟩)
    (fun x a => ⟨codeLoop x a⟩)
    (fun g ps assign body _ _ => ⟨codeRange (cOpd E g) ps.toList assign body⟩)
    (fun id => ⟨codeExit id⟩)
    (fun _ _ => ⟨codeBad⟩)
    (fun _ => ⟨codeBad⟩)
    (fun _ => ⟨codeBad⟩)
    ⟨codeRet⟩
    (fun _ => ⟨codeBad⟩) x

/-! Frames. -/
def argTree : List AV → Nat → Tr AV → (Tr AV → Option R) → Option R
  | [], _, T, k => k T
  | v :: vs, i, T, k => T.setP v (path i) fun T => argTree vs (Nat.succ i) T k
abbrev ResF (R : Type) := Tr AV → Hp → (List AV → Option R) → Option R
def resNil : ResF R := fun _ _ k => k []
def resTmp (x : Bx (OpdF R)) (rest : Bx (ResF R)) : ResF R := fun T H k => x.f T fun v => rest.f T H fun vs => k (v :: vs)
def resCell (x : Bx (OpF R)) (rest : Bx (ResF R)) : ResF R := fun T H k => x.f T H fun v _ => rest.f T H fun vs => k (v :: vs)
def resBad : ResF R := fun _ _ _ => none
def cRes (E : Env) : List ResultVar → Bx (ResF R)
  | [] => ⟨resNil⟩
  | .tmp t :: rs => ⟨resTmp (cOpd E (.tmp t)) (cRes E rs)⟩
  | .cell a t :: rs => ⟨resCell (cOp E (.load t (.tmp a))) (cRes E rs)⟩
def ptsK : List AV → (List (Bool × List CV) → Option R) → Option R
  | [], k => k []
  | v :: vs, k => ptK v fun p => ptsK vs fun ps => k (p :: ps)
def resK (vs : List AV) (k : AV → Option R) : Option R := match vs with | [v] => k v | vs => ptsK vs fun ps => k (.tup ps)
def leaveK (E : Env) (res : Bx (ResF R)) (T : Tr AV) : List ADef → Hp → KV R → Option R
  | [], H, k => res.f T H fun vs => resK vs fun v => k v H
  | .mark b :: ds, H, k => match H.get b with
    | some (.dfr false) => H.setK b (.dfr true) fun H => leaveK E res T ds H k
    | _ => none
  | .call f _ :: ds, H, k => bif E.dfr f then leaveK E res T ds H k else none
def setsT (N : Nat) : List Tmp → List AV → Tr AV → (Tr AV → Option R) → Option R
  | [], [], T, k => k T
  | t :: ts, v :: vs, T, k => bif Nat.blt t N then T.setP v (path t) fun T => setsT N ts vs T k else none
  | _, _, _, _ => none
def exitCode : AExit → Option Code
  | .normal => none
  | .exit id => some (.exit id)
  | .ret => some .ret
/-- a function as it is called -/
abbrev FunF (R : Type) := SemR R → List AV → Hp → KV R → Option R
def funBad : FunF R := fun _ _ _ _ => none
def notExit (e : AExit) (k : Option R) : Option R := match e with | .exit _ => none | .normal => k | .ret => k
def funRun (E : Env) (f N : Nat) (body : Bx (CodeF R)) (res : Bx (ResF R)) : FunF R := fun S args H k =>
  lenK args fun n => bif Nat.ble n N then argTree args 0 .e fun T => body.f S ⟨f, N, false⟩ T [] H fun e T ds H => notExit e (leaveK E res T ds H k) else none
def funIntr (g : List AV → Hp → Option (AV × Hp)) : FunF R := fun _ args H k => match g args H with | some (v, H) => k v H | none => none
def cFun (E : Env) (f : Nat) : Bx (FunF R) :=
  match E.intr f with
  | some g => ⟨funIntr g⟩
  | none => match E.fn f with
    | some fn => match fn.body with
      | some body => forceN fn.ntmps fun N => ⟨funRun E f N (cCode E body) (cRes E fn.results.toList)⟩
      | none => ⟨funBad⟩
    | none => ⟨funBad⟩
def roundEnd (l : Nat) (e : AExit) (H : Hp) (k : KV R) : Option R :=
  match H.get l with
  | some (.loop _ _ fn3 T3 N3 ps3 as3 bd3 D3) => (match e with
    | .normal => H.setK l (.loop .ready none fn3 T3 N3 ps3 as3 bd3 D3) fun H => k (.b true) H
    | e => H.setK l (.loop .done (exitCode e) fn3 T3 N3 ps3 as3 bd3 D3) fun H => k (.b false) H)
  | _ => none
def roundBody (S : SemR R) (l fn N : Nat) (body : Code) (T1 : Tr AV) (ds1 : List ADef) (H : Hp) (k : KV R) : Option R :=
  match H.get l with
  | some (.loop .ready pend fn1 T2 N2 ps2 as2 bd2 D2) => H.setK l (.loop .busy pend fn1 T2 N2 ps2 as2 bd2 D2) fun H =>
      S.code ⟨fn, N, true⟩ body T1 ds1 H fun e _ _ H => roundEnd l e H k
  | _ => none
def normK (e : AExit) (k : Option R) : Option R := match e with | .normal => k | _ => none
def callYield (S : SemR R) (l : Nat) (args : List AV) (H : Hp) (k : KV R) : Option R :=
  match H.get l with
  | some (.loop .ready _ fn T N ps assign body _) => setsT N ps args T fun T' => S.code ⟨fn, N, true⟩ assign T' [] H fun e T1 ds1 H => normK e (roundBody S l fn N body T1 ds1 H k)
  | _ => none
def callClo (E : Env) (S : SemR R) (b : Nat) (args : List AV) (H : Hp) (k : KV R) : Option R :=
  cloK H b fun f fs cs => appK fs args fun a => appK a cs fun args => (cFun E f).f S args H k
def callF (E : Env) (S : SemR R) (f : AV) (args : List AV) (H : Hp) (k : KV R) : Option R :=
  othK f fun o => match o with
  | .fn f => (cFun E f).f S args H k
  | .clo b => callClo E S b args H k
  | .yield l => callYield S l args H k
  | _ => none
def codeF (E : Env) (S : SemR R) (c : Ctx) (x : Code) (T : Tr AV) (ds : List ADef) (H : Hp) (k : KX R) : Option R := (cCode E x).f S c T ds H k
end sem

def sem (E : Env) (R : Type) (n : Nat) : SemR R :=
  Nat.rec ⟨fun _ _ _ _ _ _ => none, fun _ _ _ _ => none⟩ (fun _ S => ⟨codeF E S, callF E S⟩) n

end
end Go.Ev

namespace Go.Ev
open Go.RowKit (Below)

/-! Lists, member by member. -/
section all2
variable {α β : Type} {r s : α → β → Prop}
theorem All2.length : ∀ {xs : List α} {ys : List β}, All2 r xs ys → xs.length = ys.length
  | [], [], _ => rfl
  | [], _ :: _, h => h.elim
  | _ :: _, [], h => h.elim
  | _ :: xs, _ :: ys, h => by simp [All2.length (xs := xs) (ys := ys) h.2]
theorem All2.imp (hr : ∀ a b, r a b → s a b) : ∀ {xs : List α} {ys : List β}, All2 r xs ys → All2 s xs ys
  | [], [], _ => trivial
  | [], _ :: _, h => h.elim
  | _ :: _, [], h => h.elim
  | _ :: _, _ :: _, h => ⟨hr _ _ h.1, All2.imp hr h.2⟩
theorem All2.get : ∀ {xs : List α} {ys : List β}, All2 r xs ys → ∀ {i : Nat} {x : α}, xs[i]? = some x → ∃ y, ys[i]? = some y ∧ r x y
  | [], [], _, _, _, h => by simp at h
  | [], _ :: _, h, _, _, _ => h.elim
  | _ :: _, [], h, _, _, _ => h.elim
  | _ :: _, y :: _, h, 0, _, e => ⟨y, rfl, by simp at e; subst e; exact h.1⟩
  | _ :: _, _ :: _, h, i+1, _, e => by simpa using All2.get h.2 (i := i) (by simpa using e)
theorem all2_of : ∀ {xs : List α} {ys : List β}, xs.length = ys.length → (∀ (i : Nat) x, xs[i]? = some x → ∃ y, ys[i]? = some y ∧ r x y) → All2 r xs ys
  | [], [], _, _ => trivial
  | [], _ :: _, h, _ => by simp at h
  | _ :: _, [], h, _ => by simp at h
  | x :: xs, y :: ys, h, g => by
    obtain ⟨y', h1, h2⟩ := g 0 x rfl
    simp at h1; subst h1
    exact ⟨h2, all2_of (by simpa using h) (fun i x hx => by simpa using g (i + 1) x (by simpa using hx))⟩
theorem All2.append : ∀ {xs : List α} {ys : List β} {xs' : List α} {ys' : List β}, All2 r xs ys → All2 r xs' ys' → All2 r (xs ++ xs') (ys ++ ys')
  | [], [], _, _, _, h => h
  | [], _ :: _, _, _, h, _ => h.elim
  | _ :: _, [], _, _, h, _ => h.elim
  | _ :: _, _ :: _, _, _, h, g => ⟨h.1, All2.append h.2 g⟩
theorem All2.nil_left {ys : List β} (h : All2 r [] ys) : ys = [] := by cases ys with | nil => rfl | cons => exact h.elim
theorem All2.cons_left {x : α} {xs : List α} {ys : List β} (h : All2 r (x :: xs) ys) : ∃ y ys', ys = y :: ys' ∧ r x y ∧ All2 r xs ys' := by
  cases ys with | nil => exact h.elim | cons y ys' => exact ⟨y, ys', rfl, h.1, h.2⟩
end all2

/-! Growing maps of blocks. -/
def Sub (ρ ρ' : Rho) : Prop := ∀ b x, ρ b = some x → ρ' b = some x
theorem Sub.refl (ρ : Rho) : Sub ρ ρ := fun _ _ h => h
theorem Sub.trans {a b c : Rho} (h : Sub a b) (g : Sub b c) : Sub a c := fun x y e => g x y (h x y e)
theorem RS.mono {ρ ρ' : Rho} (hs : Sub ρ ρ') {b o sz len : Nat} {cap : Option Nat} {a : Addr} {c : Nat} (h : RS ρ b o sz len cap a c) : RS ρ' b o sz len cap a c := by
  cases cap with
  | none => obtain ⟨B, O, L, h1, h2⟩ := h; exact ⟨B, O, L, hs _ _ h1, h2⟩
  | some k =>
    obtain ⟨h1, h2⟩ := h
    refine ⟨h1, h2.imp id ?_⟩
    rintro ⟨B, O, L, h3, h4⟩
    exact ⟨B, O, L, hs _ _ h3, h4⟩
theorem RO.mono {ρ ρ' : Rho} (hs : Sub ρ ρ') {o : CO} {v : Value} (h : RO ρ o v) : RO ρ' o v := by
  cases o <;> try exact h
  case map b => obtain ⟨B, O, L, h1, h2⟩ := h; exact ⟨B, O, L, hs _ _ h1, h2⟩
  case clo b => obtain ⟨f, a, c, h1, h2⟩ := h; exact ⟨f, a, c, hs _ _ h1, h2⟩
  case yield l => obtain ⟨B, O, L, h1, h2⟩ := h; exact ⟨B, O, L, hs _ _ h1, h2⟩
theorem RC.mono {ρ ρ' : Rho} (hs : Sub ρ ρ') {c : CV} {v : Value} (h : RC ρ c v) : RC ρ' c v := by
  cases c <;> try exact h
  case ptr b o => obtain ⟨B, O, L, h1, h2⟩ := h; exact ⟨B, O, L, hs _ _ h1, h2⟩
  case slice b o sz len cap => obtain ⟨a, c, h1, h2, h3⟩ := h; exact ⟨a, c, h1, h2, h3.mono hs⟩
  case oth o => exact RO.mono hs h
theorem RP.mono {ρ ρ' : Rho} (hs : Sub ρ ρ') {p : Bool × List CV} {v : Value} (h : RP ρ p v) : RP ρ' p v := by
  obtain ⟨b, cs⟩ := p
  cases b with
  | true => obtain ⟨a, h1, h2⟩ := h; exact ⟨a, h1, h2.imp fun _ _ => RC.mono hs⟩
  | false => obtain ⟨c, h1, h2⟩ := h; exact ⟨c, h1, h2.mono hs⟩
theorem RV.mono {ρ ρ' : Rho} (hs : Sub ρ ρ') {v : AV} {u : Value} (h : RV ρ v u) : RV ρ' v u := by
  cases v with
  | cv c => exact RC.mono hs h
  | agg cs => obtain ⟨a, h1, h2⟩ := h; exact ⟨a, h1, h2.imp fun _ _ => RC.mono hs⟩
  | tup vs => obtain ⟨a, h1, h2⟩ := h; exact ⟨a, h1, h2.imp fun _ _ => RP.mono hs⟩
theorem RV.und (ρ : Rho) : RV ρ .und undef := ⟨#[], rfl, trivial⟩
theorem RC.oneCell {ρ : Rho} {c : CV} {v : Value} (h : RC ρ c v) : v.oneCell' = true := by
  cases c with
  | int k n => cases h; rfl
  | bool b => cases h; rfl
  | ptr b o => obtain ⟨B, O, L, _, rfl⟩ := h; rfl
  | slice b o sz len cap => obtain ⟨a, c, rfl, _⟩ := h; rfl
  | oth o =>
    cases o with
    | str s => cases h; rfl
    | nilP => cases h; rfl
    | nilS => cases h; rfl
    | nilM => cases h; rfl
    | nilF => cases h; rfl
    | nilI => cases h; rfl
    | map b => obtain ⟨B, O, L, _, rfl⟩ := h; rfl
    | fn f => cases h; rfl
    | clo b => obtain ⟨f, a, c, _, rfl⟩ := h; rfl
    | yield l => obtain ⟨B, O, L, _, rfl⟩ := h; rfl
theorem all2_oneCell {ρ : Rho} {cs : List CV} {vs : List Value} (h : All2 (RC ρ) cs vs) : ∀ v ∈ vs, v.oneCell' = true := by
  induction cs generalizing vs with
  | nil => rw [h.nil_left]; simp
  | cons c cs ih =>
    obtain ⟨y, ys, rfl, h1, h2⟩ := h.cons_left
    intro v hv
    rcases List.mem_cons.1 hv with rfl | hv
    · exact h1.oneCell
    · exact ih h2 v hv

/-! What a block is in a world. -/
/-- no cell of a row may not be written -/
def Frz (arr : Array Value) (fz : Nat × Nat) : Prop := ∀ i, i < arr.size → ¬ (fz.1 ≤ i ∧ i < fz.2)
def RowAt (ρ : Rho) (w : World) (cs : List CV) (wr : Bool) (blk off lim : Nat) : Prop :=
  ∃ arr el fz, w.heap[blk]? = some (.cells arr el fz) ∧ (wr = true → Frz arr fz) ∧ off + cs.length ≤ lim ∧ lim ≤ arr.size ∧ ∀ i c, cs[i]? = some c → ∃ u, arr[off + i]? = some u ∧ RC ρ c u
def REnt (ρ : Rho) (e : AV × AV × Nat) (m : MapEntry) : Prop := RV ρ e.1 m.key ∧ RV ρ e.2.1 m.val ∧ m.born = e.2.2
/-- the temporaries of a frame -/
def RT (ρ : Rho) (T : Tr AV) (tmps : Array Value) : Prop := ∀ i, RV ρ ((T.get i).getD .und) (tmps.getD i undef)
def MitOk (ρ : Rho) (w : World) (m : Option Nat) (since : Nat) (seen : List Nat) (last B : Nat) : Prop :=
  match m with
  | none => ∃ a b c, w.heap[B]? = some (.mapIter none a b c)
  | some m => ∃ Bm Om Lm, ρ m = some (.at Bm Om Lm) ∧ w.heap[B]? = some (.mapIter (some Bm) since seen.reverse.toArray last)
def BlkOk (ρ : Rho) (w : World) : Blk → Pl → Prop
  | .row cs wr _, .at B O L => RowAt ρ w cs wr B O L
  | .map es clock, .at B _ _ => ∃ arr, w.heap[B]? = some (.map arr clock) ∧ All2 (REnt ρ) es arr.toList
  | .clo f fs cs, .val f' a c => f = f' ∧ All2 (RV ρ) fs a.toList ∧ All2 (RV ρ) cs c.toList
  | .iter s pos, .at B O _ => O = 0 ∧ w.heap[B]? = some (.stringIter s pos)
  | .miter m since seen last, .at B O _ => O = 0 ∧ MitOk ρ w m since seen last B
  | .loop st pend _ T N ps assign body D, .at B _ _ => ∃ fn tmps pa Db Do Dl, w.heap[B]? = some (.loop { state := st, pending := pend, fn, tmps, params := pa, assign, body, defers := Db }) ∧
      ps = pa.toList ∧ tmps.size = N ∧ RT ρ T tmps ∧ ρ D = some (.at Db Do Dl)
  | .dfr false, .at B _ _ => w.heap[B]? = some (.deferred (some []))
  | .dfr true, .at B _ _ => w.heap[B]? = some (.deferred none)
  | .dead, _ => True
  | _, _ => False
theorem RT.mono {ρ ρ' : Rho} (hs : Sub ρ ρ') {T : Tr AV} {tmps : Array Value} (h : RT ρ T tmps) : RT ρ' T tmps := fun i => (h i).mono hs
theorem BlkOk.mono {ρ ρ' : Rho} (hs : Sub ρ ρ') {w : World} {b : Blk} {p : Pl} (h : BlkOk ρ w b p) : BlkOk ρ' w b p := by
  cases b with
  | row cs wr opn =>
    cases p with
    | val f a c => exact h
    | «at» B O L =>
      obtain ⟨arr, el, fz, h1, h2, h3, h4, h5⟩ := h
      exact ⟨arr, el, fz, h1, h2, h3, h4, fun i c hc => let ⟨u, h6, h7⟩ := h5 i c hc; ⟨u, h6, h7.mono hs⟩⟩
  | map es clock =>
    cases p with
    | val f a c => exact h
    | «at» B O L =>
      obtain ⟨arr, h1, h2⟩ := h
      exact ⟨arr, h1, h2.imp fun _ _ g => ⟨g.1.mono hs, g.2.1.mono hs, g.2.2⟩⟩
  | clo f fs cs =>
    cases p with
    | «at» B O L => exact h
    | val f a c => exact ⟨h.1, h.2.1.imp fun _ _ => RV.mono hs, h.2.2.imp fun _ _ => RV.mono hs⟩
  | iter s pos => cases p <;> exact h
  | miter m since seen last =>
    cases p with
    | val f a c => exact h
    | «at» B O L =>
      cases m with
      | none => exact h
      | some m =>
        obtain ⟨h0, Bm, Om, Lm, h1, h2⟩ := h
        exact ⟨h0, Bm, Om, Lm, hs _ _ h1, h2⟩
  | loop st pend fn T N ps assign body D =>
    cases p with
    | val f a c => exact h
    | «at» B O L =>
      obtain ⟨fn', tmps, pa, Db, Do, Dl, h1, h2, h3, h4, h5⟩ := h
      exact ⟨fn', tmps, pa, Db, Do, Dl, h1, h2, h3, h4.mono hs, hs _ _ h5⟩
  | dfr t => cases t <;> cases p <;> exact h
  | dead => cases p <;> trivial
def Pl.blk? : Pl → Option Nat
  | .at B _ _ => some B
  | .val .. => none
theorem BlkOk.world {ρ : Rho} {w w' : World} {b : Blk} {p : Pl} (h : BlkOk ρ w b p) (hw : ∀ B, p.blk? = some B → w'.heap[B]? = w.heap[B]?) : BlkOk ρ w' b p := by
  cases p with
  | val f a c => cases b <;> (try exact h); (rename_i t; cases t <;> exact h)
  | «at» B O L =>
    have hB := hw B rfl
    cases b with
    | row cs wr opn =>
      obtain ⟨arr, el, fz, h1, h2⟩ := h
      exact ⟨arr, el, fz, hB.trans h1, h2⟩
    | map es clock =>
      obtain ⟨arr, h1, h2⟩ := h
      exact ⟨arr, hB.trans h1, h2⟩
    | clo f fs cs => exact h
    | iter s pos => exact ⟨h.1, hB.trans h.2⟩
    | miter m since seen last =>
      cases m with
      | none => obtain ⟨h0, a, b, c, h1⟩ := h; exact ⟨h0, a, b, c, hB.trans h1⟩
      | some m =>
        obtain ⟨h0, Bm, Om, Lm, h1, h2⟩ := h
        exact ⟨h0, Bm, Om, Lm, h1, hB.trans h2⟩
    | loop st pend fn T N ps assign body D =>
      obtain ⟨fn', tmps, pa, Db, Do, Dl, h1, h2⟩ := h
      exact ⟨fn', tmps, pa, Db, Do, Dl, hB.trans h1, h2⟩
    | dfr t => cases t <;> exact hB.trans h
    | dead => trivial

/-- may the block be written? -/
def Blk.wr : Blk → Bool
  | .row _ wr _ => wr
  | .map .. | .iter .. | .miter .. | .loop .. | .dfr _ => true
  | .clo .. | .dead => false
def Blk.live : Blk → Bool
  | .dead => false
  | _ => true

/-- THE RELATION between an abstract heap and a world. w0: the world when the call began; B: how many blocks lay there then. -/
structure Rel (w0 : World) (B : Nat) (ρ : Rho) (H : Hp) (w : World) : Prop where
  fresh : ∀ b, H.next ≤ b → ρ b = none
  gone : ∀ b, H.next ≤ b → H.get b = none
  ok : ∀ b x p, H.get b = some x → ρ b = some p → BlkOk ρ w x p
  inj : ∀ b b' x x' p p' c, H.get b = some x → H.get b' = some x' → ρ b = some p → ρ b' = some p' → b ≠ b' → x.wr = true → x'.live = true → p.blk? = some c → p'.blk? ≠ some c
  own : ∀ b x p c, H.get b = some x → ρ b = some p → x.wr = true → p.blk? = some c → B ≤ c
  below : Below B w0 w
  size : B ≤ w.heap.size
  lt : ∀ b p c, ρ b = some p → p.blk? = some c → c < w.heap.size

section rel
variable {w0 : World} {B : Nat} {ρ : Rho} {H : Hp} {w : World}
theorem Rel.sub (h : Rel w0 B ρ H w) {ρ' : Rho} (he : Ext H.next ρ ρ') : Sub ρ ρ' := by
  intro b x hb
  rcases Nat.lt_or_ge b H.next with h1 | h1
  · rw [he b h1]; exact hb
  · rw [h.fresh b h1] at hb; cases hb
theorem Ext.refl (n : Nat) (ρ : Rho) : Ext n ρ ρ := fun _ _ => rfl
theorem Ext.trans {n n' : Nat} {a b c : Rho} (h : Ext n a b) (g : Ext n' b c) (hn : n ≤ n') : Ext n a c := fun x hx => (g x (by omega)).trans (h x hx)

/-- the world draws -/
theorem Rel.drew (h : Rel w0 B ρ H w) : Rel w0 B ρ H w.drew :=
  ⟨h.fresh, h.gone, fun b x p h1 h2 => (h.ok b x p h1 h2).world fun _ _ => rfl, h.inj, h.own, h.below.drew, h.size, h.lt⟩

/-- a new block -/
def upd (ρ : Rho) (n : Nat) (p : Pl) : Rho := fun b => if b = n then some p else ρ b
theorem upd_ext (ρ : Rho) (n : Nat) (p : Pl) : Ext n ρ (upd ρ n p) := fun b hb => if_neg (by omega)
theorem upd_self (ρ : Rho) (n : Nat) (p : Pl) : upd ρ n p n = some p := if_pos rfl
theorem Rel.alloc (h : Rel w0 B ρ H w) (o : Obj) (x : Blk) (O L : Nat) (hx : BlkOk (upd ρ H.next (.at w.heap.size O L)) (w.alloc o) x (.at w.heap.size O L)) :
    Rel w0 B (upd ρ H.next (.at w.heap.size O L)) (H.new x) (w.alloc o) := by
  have hsub : Sub ρ (upd ρ H.next (.at w.heap.size O L)) := h.sub (upd_ext _ _ _)
  have hlt : ∀ b, b ≠ H.next → upd ρ H.next (.at w.heap.size O L) b = ρ b := fun b hb => if_neg hb
  refine ⟨?_, ?_, ?_, ?_, ?_, h.below.alloc h.size o, ?_, ?_⟩
  · intro b hb
    rw [hlt b (by simp at hb; omega)]
    exact h.fresh b (by simp at hb; omega)
  · intro b hb
    rw [Hp.get_new, if_neg (by simp at hb; omega)]
    exact h.gone b (by simp at hb; omega)
  · intro b y p h1 h2
    rw [Hp.get_new] at h1
    by_cases hb : b = H.next
    · subst hb
      rw [if_pos rfl] at h1
      rw [upd_self] at h2
      cases h1; cases h2
      exact hx
    · rw [if_neg hb] at h1
      rw [hlt b hb] at h2
      refine ((h.ok b y p h1 h2).mono hsub).world fun c hc => ?_
      exact Below.heap_alloc w o c (h.lt b p c h2 hc)
  · intro b b' y y' p p' c h1 h1' h2 h2' hne hw hl hc hc'
    rw [Hp.get_new] at h1 h1'
    by_cases hb : b = H.next
    · subst hb
      rw [upd_self] at h2
      cases h2
      simp only [Pl.blk?, Option.some.injEq] at hc
      subst hc
      rw [hlt b' (Ne.symm hne)] at h2'
      exact absurd (h.lt b' p' _ h2' hc') (by omega)
    · rw [if_neg hb] at h1
      rw [hlt b hb] at h2
      by_cases hb' : b' = H.next
      · subst hb'
        rw [upd_self] at h2'
        cases h2'
        simp only [Pl.blk?, Option.some.injEq] at hc'
        subst hc'
        exact absurd (h.lt b p _ h2 hc) (by omega)
      · rw [if_neg hb'] at h1'
        rw [hlt b' hb'] at h2'
        exact h.inj b b' y y' p p' c h1 h1' h2 h2' hne hw hl hc hc'
  · intro b y p c h1 h2 hw hc
    rw [Hp.get_new] at h1
    by_cases hb : b = H.next
    · subst hb
      rw [upd_self] at h2
      cases h2
      simp only [Pl.blk?, Option.some.injEq] at hc
      subst hc
      exact h.size
    · rw [if_neg hb] at h1
      rw [hlt b hb] at h2
      exact h.own b y p c h1 h2 hw hc
  · rw [World.size_alloc]; have := h.size; omega
  · intro b p c h2 hc
    by_cases hb : b = H.next
    · subst hb
      rw [upd_self] at h2
      cases h2
      simp only [Pl.blk?, Option.some.injEq] at hc
      subst hc
      simp
    · rw [hlt b hb] at h2
      have := h.lt b p c h2 hc
      simp; omega
/-- a closure: a block of the abstract heap alone -/
theorem Rel.clo (h : Rel w0 B ρ H w) {f : Nat} {fs cs : List AV} {a c : Array Value} (hf : All2 (RV ρ) fs a.toList) (hc : All2 (RV ρ) cs c.toList) :
    Rel w0 B (upd ρ H.next (.val f a c)) (H.new (.clo f fs cs)) w := by
  have hsub : Sub ρ (upd ρ H.next (.val f a c)) := h.sub (upd_ext _ _ _)
  have hlt : ∀ b, b ≠ H.next → upd ρ H.next (.val f a c) b = ρ b := fun b hb => if_neg hb
  refine ⟨?_, ?_, ?_, ?_, ?_, h.below, h.size, ?_⟩
  · intro b hb
    rw [hlt b (by simp at hb; omega)]
    exact h.fresh b (by simp at hb; omega)
  · intro b hb
    rw [Hp.get_new, if_neg (by simp at hb; omega)]
    exact h.gone b (by simp at hb; omega)
  · intro b y p h1 h2
    rw [Hp.get_new] at h1
    by_cases hb : b = H.next
    · subst hb
      rw [if_pos rfl] at h1
      rw [upd_self] at h2
      cases h1; cases h2
      exact ⟨rfl, hf.imp fun _ _ => RV.mono hsub, hc.imp fun _ _ => RV.mono hsub⟩
    · rw [if_neg hb] at h1
      rw [hlt b hb] at h2
      exact (h.ok b y p h1 h2).mono hsub
  · intro b b' y y' p p' d h1 h1' h2 h2' hne hw hl hd hd'
    rw [Hp.get_new] at h1 h1'
    by_cases hb : b = H.next
    · subst hb
      rw [upd_self] at h2
      cases h2
      simp [Pl.blk?] at hd
    · rw [if_neg hb] at h1
      rw [hlt b hb] at h2
      by_cases hb' : b' = H.next
      · subst hb'
        rw [upd_self] at h2'
        cases h2'
        simp [Pl.blk?] at hd'
      · rw [if_neg hb'] at h1'
        rw [hlt b' hb'] at h2'
        exact h.inj b b' y y' p p' d h1 h1' h2 h2' hne hw hl hd hd'
  · intro b y p d h1 h2 hw hd
    rw [Hp.get_new] at h1
    by_cases hb : b = H.next
    · subst hb
      rw [upd_self] at h2
      cases h2
      simp [Pl.blk?] at hd
    · rw [if_neg hb] at h1
      rw [hlt b hb] at h2
      exact h.own b y p d h1 h2 hw hd
  · intro b p d h2 hd
    by_cases hb : b = H.next
    · subst hb
      rw [upd_self] at h2
      cases h2
      simp [Pl.blk?] at hd
    · rw [hlt b hb] at h2
      exact h.lt b p d h2 hd
/-- one block is written -/
theorem Rel.write (h : Rel w0 B ρ H w) {b c : Nat} {x y : Blk} {p : Pl} (hb : H.get b = some x) (hp : ρ b = some p) (hc : p.blk? = some c) (hw : x.wr = true) {w' : World}
    (hs : w'.heap.size = w.heap.size) (hh : ∀ i, i ≠ c → w'.heap[i]? = w.heap[i]?) (ho : w'.os = w.os) (ht : w'.tape = w.tape) (hu : w'.output = w.output)
    (hy : BlkOk ρ w' y p) : Rel w0 B ρ (H.set b y) w' := by
  have hB : B ≤ c := h.own b x p c hb hp hw hc
  refine ⟨h.fresh, ?_, ?_, ?_, ?_, ?_, by rw [hs]; exact h.size, fun b' p' c' h1 h2 => by rw [hs]; exact h.lt b' p' c' h1 h2⟩
  · intro b' hb'
    rw [Hp.get_set]
    have := h.gone b' hb'
    split
    · rename_i e; subst e; rw [this] at hb; cases hb
    · exact this
  · intro b' x' p' h1 h2
    rw [Hp.get_set] at h1
    split at h1
    · rename_i e
      subst e
      cases h1
      rw [hp] at h2
      cases h2
      exact hy
    · rename_i hne
      cases hl : x'.live with
      | false => cases x' <;> first | (cases hl; done) | trivial
      | true =>
        refine (h.ok b' x' p' h1 h2).world fun c' hc' => hh c' fun e => ?_
        subst e
        exact h.inj b b' x x' p p' c' hb h1 hp h2 (Ne.symm hne) hw hl hc hc'
  · intro b1 b2 x1 x2 p1 p2 c1 h1 h1' h2 h2' hne hw1 hl hc1 hc2
    rw [Hp.get_set] at h1 h1'
    split at h1
    · rename_i e
      subst e
      rw [if_neg (Ne.symm hne)] at h1'
      rw [hp] at h2
      cases h2
      exact h.inj b1 b2 x x2 p p2 c1 hb h1' hp h2' hne hw hl hc1 hc2
    · split at h1'
      · rename_i e
        subst e
        rw [hp] at h2'
        cases h2'
        have hx : x.live = true := by cases x <;> first | rfl | (simp [Blk.wr] at hw)
        exact h.inj b1 b2 x1 x p1 p c1 h1 hb h2 hp hne hw1 hx hc1 hc2
      · exact h.inj b1 b2 x1 x2 p1 p2 c1 h1 h1' h2 h2' hne hw1 hl hc1 hc2
  · intro b' x' p' c' h1 h2 hw' hc'
    rw [Hp.get_set] at h1
    split at h1
    · rename_i e
      subst e
      rw [hp] at h2
      cases h2
      exact h.own b' x p c' hb hp hw hc'
    · exact h.own b' x' p' c' h1 h2 hw' hc'
  · exact h.below.trans ⟨ho, ht, hu, by rw [hs]; exact Nat.le_refl _, fun k hk => hh k (by omega)⟩
/-- a block dies -/
theorem Rel.kill (h : Rel w0 B ρ H w) (b : Nat) {x : Blk} (hb : H.get b = some x) : Rel w0 B ρ (H.set b .dead) w := by
  refine ⟨h.fresh, ?_, ?_, ?_, ?_, h.below, h.size, h.lt⟩
  · intro b' hb'
    rw [Hp.get_set]
    have := h.gone b' hb'
    split
    · rename_i e; subst e; rw [this] at hb; cases hb
    · exact this
  · intro b' x' p' h1 h2
    rw [Hp.get_set] at h1
    split at h1
    · cases h1; cases p' <;> trivial
    · exact h.ok b' x' p' h1 h2
  · intro b1 b2 x1 x2 p1 p2 c1 h1 h1' h2 h2' hne hw1 hl hc1 hc2
    rw [Hp.get_set] at h1 h1'
    split at h1
    · cases h1; cases hw1
    · split at h1'
      · cases h1'; cases hl
      · exact h.inj b1 b2 x1 x2 p1 p2 c1 h1 h1' h2 h2' hne hw1 hl hc1 hc2
  · intro b' x' p' c' h1 h2 hw' hc'
    rw [Hp.get_set] at h1
    split at h1
    · cases h1; cases hw'
    · exact h.own b' x' p' c' h1 h2 hw' hc'
end rel
end Go.Ev

namespace Go.Ev

/-- What is asked of the evaluator's tables. -/
def isAggDesc : TypeDesc → Bool
  | .struct _ | .array _ _ => true
  | _ => false
structure TyOk (P : Program) (t : Nat) (i : TI) : Prop where
  und : P.underlying t = some i.desc
  info : ∃ inf, P.info? t = some inf ∧ inf.size = i.size ∧ inf.bytes = i.bytes ∧ ∃ z, inf.zero = some z ∧ ∀ ρ, RV ρ (zeroV i) z
  agg : i.agg = isAggDesc i.desc
  one : i.agg = false → i.zero.length = 1 ∧ i.size = 1
  len : i.zero.length = i.size
  flat : ∀ ks, i.flat = some ks → P.eqGuardType P.depth t = false ∧ ∀ xs ys r, aggEq ks xs ys = some r → ∀ (ρ ρ' : Rho) (a b : Array Value) (w : World), All2 (RC ρ) xs a.toList → All2 (RC ρ') ys b.toList →
    (Op.equal t (.agg a) (.agg b)).run P w = .ok r w
  key : ∀ x, keyOk (keyKind i) x = true → ∀ (ρ : Rho) (v : Value) (w : World) (e : Bool), RV ρ x v → (Instr.checkKey e 10000 t v).run P w = .ok () w

section
variable {P : Program} {t : Nat} {i : TI} (h : TyOk P t i) (w : World)
include h
theorem TyOk.run_und : (underlying t).run P w = .ok i.desc w := run_underlying h.und w
theorem TyOk.run_agg : (isAgg t).run P w = .ok i.agg w := by
  have := h.agg
  cases hd : i.desc <;> simp_all [isAgg, TyOk.run_und h, isAggDesc]
theorem TyOk.run_size : (sizeOf t).run P w = .ok i.size w := by
  obtain ⟨inf, h1, h2, h3, h4⟩ := h.info
  simp [sizeOf, typeInfo, h1, h2]
theorem TyOk.run_info : ∃ inf, (typeInfo t).run P w = .ok inf w ∧ inf.bytes = i.bytes ∧ inf.size = i.size := by
  obtain ⟨inf, h1, h2, h3, h4⟩ := h.info
  exact ⟨inf, by simp [typeInfo, h1], h3, h2⟩
theorem TyOk.run_zero : ∃ z, (zeroValue t).run P w = .ok z w ∧ ∀ ρ, RV ρ (zeroV i) z := by
  obtain ⟨inf, h1, h2, h3, z, h4, h5⟩ := h.info
  exact ⟨z, by simp [zeroValue, typeInfo, h1, h4], h5⟩
end

theorem value_cells_one {v : Value} (h : v.oneCell' = true) : v.cells = #[v] := by cases v <;> first | rfl | cases h

theorem cells_of {ρ : Rho} {i : TI} (ha : i.agg = false → i.zero.length = 1) {z : Value} (h : RV ρ (zeroV i) z) : All2 (RC ρ) i.zero z.cells.toList := by
  unfold zeroV at h
  cases hg : i.agg with
  | true => rw [hg] at h; obtain ⟨a, rfl, h2⟩ := h; exact h2
  | false =>
    rw [hg] at h
    have hl := ha hg
    match hz : i.zero, hl with
    | [c], _ =>
      rw [hz] at h
      have h' : RC ρ c z := h
      rw [value_cells_one h'.oneCell]
      exact ⟨h', trivial⟩

/-! Cells of rows. -/
theorem addr_add (B O n : Nat) : (⟨B, O, none⟩ : Addr).add n = ⟨B, O + n, none⟩ := by
  unfold Addr.add; split <;> simp_all
section
variable {ρ : Rho} {w : World} {cs : List CV} {wr : Bool} {B O L : Nat}
theorem RowAt.cell (h : RowAt ρ w cs wr B O L) {i : Nat} {c : CV} (hi : cs[i]? = some c) : ∃ u, w.cell? ⟨B, O + i, none⟩ = some u ∧ RC ρ c u := by
  obtain ⟨arr, el, fz, h1, h2, h3, h4, h5⟩ := h
  obtain ⟨u, h6, h7⟩ := h5 i c hi
  exact ⟨u, by simp [World.cell?, h1, h6], h7⟩
theorem RowAt.free (h : RowAt ρ w cs true B O L) {i : Nat} (hi : O + i < L) : w.frozen? ⟨B, O + i, none⟩ = false := by
  obtain ⟨arr, el, fz, h1, h2, h3, h4, h5⟩ := h
  obtain ⟨lo, hi'⟩ := fz
  simp only [World.frozen?, h1]
  have := h2 rfl (O + i) (by omega)
  simp only [not_and, Nat.not_lt] at this
  simp only [Bool.and_eq_false_iff, decide_eq_false_iff_not]
  rcases Nat.lt_or_ge (O + i) lo with h6 | h6
  · left; omega
  · right; have := this h6; omega
theorem RowAt.there (h : RowAt ρ w cs wr B O L) {i : Nat} (hi : O + i < L) : (w.cell? ⟨B, O + i, none⟩).isSome = true := by
  obtain ⟨arr, el, fz, h1, h2, h3, h4, h5⟩ := h
  have : O + i < arr.size := by omega
  simp [World.cell?, h1, this]
/-- cells from o on, as they are loaded -/
theorem RowAt.load (h : RowAt ρ w cs wr B O L) {P : Program} {o n : Nat} (hn : o + n ≤ cs.length) :
    ∃ vs : List Value, (loadCells ⟨B, O + o, none⟩ n).run P w = .ok vs.toArray w ∧ All2 (RC ρ) ((cs.drop o).take n) vs := by
  have key : ∀ j, j < n → ∃ u, w.cell? ⟨B, O + (o + j), none⟩ = some u ∧ ∃ c, cs[o + j]? = some c ∧ RC ρ c u := by
    intro j hj
    have hlt : o + j < cs.length := by omega
    obtain ⟨u, h1, h2⟩ := h.cell (i := o + j) (c := cs[o + j]) (by simp [hlt])
    exact ⟨u, h1, _, by simp [hlt], h2⟩
  let f : Nat → Value := fun j => (w.cell? ⟨B, O + (o + j), none⟩).getD undef
  refine ⟨(List.range n).map f, ?_, ?_⟩
  · refine run_loadCells w _ n f fun j hj => ?_
    obtain ⟨u, h1, _⟩ := key j hj
    rw [addr_add, Nat.add_assoc, h1]
    simp [f, h1]
  · refine all2_of (by simp; omega) ?_
    intro j c hc
    have hj : j < n := by
      rcases Nat.lt_or_ge j n with h' | h'
      · exact h'
      · rw [List.getElem?_take, if_neg (by omega)] at hc; cases hc
    obtain ⟨u, h1, c', h2, h3⟩ := key j hj
    rw [List.getElem?_take, if_pos hj, List.getElem?_drop, h2] at hc
    cases hc
    exact ⟨f j, by simp [hj], by simp [f, h1]; exact h3⟩
end

/-! Parts of rows and aggregates. -/
def partF (agg : Bool) (size : Nat) (cs : List CV) (off : Nat) : Option AV :=
  if agg then (if off + size ≤ cs.length then some (.agg ((cs.drop off).take size)) else none) else cs[off]?.map AV.cv
theorem cutK_some {R : Type} {cs : List CV} {o n : Nat} {k : List CV → Option R} {r : R} (h : cutK cs o n k = some r) : o + n ≤ cs.length ∧ k ((cs.drop o).take n) = some r := by
  obtain ⟨h1, h2⟩ := dropK_some _ _ _ _ h
  obtain ⟨h3, h4⟩ := takeK_some _ _ _ _ h2
  simp at h3
  exact ⟨by omega, h4⟩
theorem partK_some {R : Type} {agg : Bool} {size : Nat} {cs : List CV} {off : Nat} {k : AV → Option R} {r : R} (h : partK agg size cs off k = some r) :
    ∃ v, partF agg size cs off = some v ∧ k v = some r := by
  unfold partK at h
  cases agg with
  | true =>
    obtain ⟨h1, h2⟩ := cutK_some h
    exact ⟨_, by simp [partF, h1], h2⟩
  | false =>
    obtain ⟨c, h1, h2⟩ := nthK_some _ _ _ _ h
    exact ⟨.cv c, by simp [partF, h1], h2⟩
theorem RowAt.loadVar {ρ : Rho} {w : World} {cs : List CV} {wr : Bool} {B O L : Nat} (h : RowAt ρ w cs wr B O L) {P : Program} {t : Nat} {i : TI} (ht : TyOk P t i) {o : Nat} {v : AV} (hv : partF i.agg i.size cs o = some v) :
    ∃ u, (loadVar t ⟨B, O + o, none⟩).run P w = .ok u w ∧ RV ρ v u := by
  unfold partF at hv
  cases hg : i.agg with
  | true =>
    rw [hg] at hv
    simp only [if_true] at hv
    split at hv
    · rename_i hn
      cases hv
      obtain ⟨vs, h1, h2⟩ := h.load (P := P) hn
      exact ⟨.agg vs.toArray, by simp [Go.loadVar, ht.run_agg, hg, ht.run_size, h1], vs.toArray, rfl, by simpa using h2⟩
    · cases hv
  | false =>
    rw [hg] at hv
    simp only [Bool.false_eq_true, if_false, Option.map_eq_some_iff] at hv
    obtain ⟨c, h1, rfl⟩ := hv
    obtain ⟨u, h2, h3⟩ := h.cell h1
    exact ⟨u, by simp [Go.loadVar, ht.run_agg, hg, h2], h3⟩

/-! Writing cells. -/
theorem setCells_heap (b : Nat) : ∀ (vs : List Value) (o : Nat) (w : World), (∀ i, i ≠ b → (w.setCells b o vs).heap[i]? = w.heap[i]?) ∧ (w.setCells b o vs).heap.size = w.heap.size ∧
    (w.setCells b o vs).os = w.os ∧ (w.setCells b o vs).tape = w.tape ∧ (w.setCells b o vs).output = w.output
  | [], o, w => ⟨fun _ _ => rfl, rfl, rfl, rfl, rfl⟩
  | v :: r, o, w => by
    obtain ⟨h1, h2, h3, h4, h5⟩ := setCells_heap b r (o + 1) (w.setCell ⟨b, o, none⟩ v)
    refine ⟨fun i hi => ?_, ?_, h3, h4, h5⟩
    · show ((w.setCell ⟨b, o, none⟩ v).setCells b (o + 1) r).heap[i]? = _
      rw [h1 i hi]
      exact Go.RowKit.Below.heap_setCell _ _ _ _ hi
    · show ((w.setCell ⟨b, o, none⟩ v).setCells b (o + 1) r).heap.size = _
      rw [h2]; simp
theorem setCells_row (b : Nat) (el : TypeId) (fz : Nat × Nat) : ∀ (vs : List Value) (o : Nat) (w : World) (arr : Array Value), w.heap[b]? = some (.cells arr el fz) → o + vs.length ≤ arr.size →
    ∃ arr', (w.setCells b o vs).heap[b]? = some (.cells arr' el fz) ∧ arr'.size = arr.size ∧ ∀ i, arr'[i]? = if o ≤ i ∧ i < o + vs.length then vs[i - o]? else arr[i]?
  | [], o, w, arr, h, _ => ⟨arr, h, rfl, fun i => by rw [if_neg (by simp)]⟩
  | v :: r, o, w, arr, h, hl => by
    have h' : (w.setCell ⟨b, o, none⟩ v).heap[b]? = some (.cells (arr.setIfInBounds o v) el fz) := by
      obtain ⟨hb, he⟩ := Array.getElem?_eq_some_iff.1 h
      simp [World.setCell, Array.getElem?_modify, h]
    obtain ⟨arr', g1, g2, g3⟩ := setCells_row b el fz r (o + 1) _ _ h' (by simp at hl ⊢; omega)
    refine ⟨arr', g1, by rw [g2]; simp, fun i => ?_⟩
    rw [g3]
    by_cases h1 : o + 1 ≤ i ∧ i < o + 1 + r.length
    · rw [if_pos h1, if_pos (by simp; omega), show i - o = (i - (o + 1)) + 1 by omega]
      simp
    · rw [if_neg h1]
      by_cases h2 : i = o
      · subst h2
        rw [if_pos (by simp)]
        simp at hl
        simp [show i < arr.size by omega]
      · rw [if_neg (by simp; omega)]
        simp [Array.getElem?_setIfInBounds_ne (Ne.symm h2)]
theorem writeK_some {R : Type} {H : Hp} {b o : Nat} {new : List CV} {k : Hp → Option R} {r : R} (h : writeK H b o new k = some r) :
    ∃ cs opn, H.get b = some (.row cs true opn) ∧ o + new.length ≤ cs.length ∧ k (H.set b (.row (cs.take o ++ new ++ cs.drop (o + new.length)) true opn)) = some r := by
  unfold writeK rwK rowK at h
  split at h
  · rename_i cs wr opn he
    cases wr with
    | false => cases h
    | true =>
      obtain ⟨h1, h2⟩ := setsK_some _ _ _ _ _ h
      rw [Hp.setK_eq] at h2
      exact ⟨cs, opn, he, h1, h2⟩
  · cases h
/-- cells are written into a row -/
theorem Rel.store {w0 : World} {B0 : Nat} {ρ : Rho} {H : Hp} {w : World} (h : Rel w0 B0 ρ H w) {P : Program} {b o B O L : Nat} {cs new : List CV} {opn : Bool} {vs : List Value}
    (hb : H.get b = some (.row cs true opn)) (hp : ρ b = some (.at B O L)) (hn : o + new.length ≤ cs.length) (hv : All2 (RC ρ) new vs) :
    ∃ w', (storeCells ⟨B, O + o, none⟩ vs).run P w = .ok () w' ∧ Rel w0 B0 ρ (H.set b (.row (cs.take o ++ new ++ cs.drop (o + new.length)) true opn)) w' := by
  have hrow : RowAt ρ w cs _ B O L := h.ok b _ _ hb hp
  obtain ⟨arr, el, fz, h1, h2, h3, h4, h5⟩ := hrow
  have hl := hv.length
  refine ⟨w.setCells B (O + o + 0) vs, ?_, ?_⟩
  · refine run_storeCells_cells B (O + o) vs 0 w ?_ ?_ (all2_oneCell hv)
    · intro j hj
      rw [show O + o + 0 + j = O + (o + j) by omega]
      exact (h.ok b _ _ hb hp : RowAt ρ w cs _ B O L).there (by omega)
    · intro j hj
      rw [show O + o + 0 + j = O + (o + j) by omega]
      exact (h.ok b _ _ hb hp : RowAt ρ w cs _ B O L).free (by omega)
  · obtain ⟨g1, g2, g3, g4, g5⟩ := setCells_heap B vs (O + o + 0) w
    obtain ⟨arr', k1, k2, k3⟩ := setCells_row B el fz vs (O + o + 0) w arr h1 (by omega)
    refine h.write hb hp rfl rfl g2 g1 g3 g4 g5 ⟨arr', el, fz, k1, fun hw i hi => h2 hw i (by omega), by simp; omega, by omega, ?_⟩
    intro i c hc
    rw [k3]
    rw [List.append_assoc, List.getElem?_append] at hc
    split at hc
    · rename_i hlt
      simp at hlt
      rw [List.getElem?_take, if_pos (by omega)] at hc
      rw [if_neg (by omega)]
      exact h5 i c hc
    · rename_i hge
      simp at hge
      have hmin : min o cs.length = o := by omega
      rw [List.length_take, hmin, List.getElem?_append] at hc
      split at hc
      · rename_i hlt
        rw [if_pos (by omega)]
        obtain ⟨u, e1, e2⟩ := hv.get hc
        exact ⟨u, by rw [show O + i - (O + o + 0) = i - o by omega]; exact e1, e2⟩
      · rename_i hge2
        rw [List.getElem?_drop] at hc
        rw [if_neg (by omega)]
        exact h5 i c (by rw [← hc]; congr 1; omega)
/-- a new row -/
theorem Rel.newRow {w0 : World} {B0 : Nat} {ρ : Rho} {H : Hp} {w : World} (h : Rel w0 B0 ρ H w) {cs : List CV} {opn : Bool} {wr : Bool} {vs : List Value} (el : TypeId) (rest : Array Value)
    (hv : All2 (RC ρ) cs vs) : Rel w0 B0 (upd ρ H.next (.at w.heap.size 0 (vs.length + rest.size))) (H.new (.row cs wr opn)) (w.alloc (.cells (vs.toArray ++ rest) el)) := by
  refine h.alloc _ _ _ _ ⟨vs.toArray ++ rest, el, (0, 0), ?_, fun i _ => by simp, ?_, ?_, ?_⟩
  · show (w.heap.push _)[w.heap.size]? = _; rw [Array.getElem?_push, if_pos rfl]
  · have := hv.length; omega
  · simp
  · intro i c hc
    obtain ⟨u, h1, h2⟩ := hv.get hc
    have hi : i < vs.length := by
      rcases Nat.lt_or_ge i vs.length with h' | h'
      · exact h'
      · rw [List.getElem?_eq_none h'] at h1; cases h1
    refine ⟨u, ?_, h2.mono (h.sub (upd_ext _ _ _))⟩
    rw [Nat.zero_add, Array.getElem?_append_left (by simpa using hi)]
    simpa using h1
end Go.Ev
