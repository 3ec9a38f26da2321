/- ClusterNone for whatever is handed in: true, and the arguments read as before. -/
import Derived.Test.YthkkjgokfihpnaaGreatDoorNa
set_option linter.all false
namespace Go.Ev.Gd
open Go Go.Proofs Go.RowKit Go.ChangeShapes Go.WideShapes Go.ChangeAt
open Go.Proofs.YthkkjgokfihpnaaGreatDoor
set_option maxRecDepth 1000000
section
variable {H : Type} {enc : TypeId × Value → H} {P : Program}
theorem post_of_below {f : Func} {s : ChangeSpec} {apart fresh handsOn again : Bool} {W W' : World} {args : Array Value} {v : Value} {ds gs : List (DataW H)} {before pa pv : List MemPlace}
    (hW : DataW.Whole enc P f.params.toList s.vars apart W args.toList ds gs before)
    (hres : ∀ (b : Nat) (sp : Nat → Bool) (hd : Bool), DataW.TrodAll enc P W' b sp hd f.resultTypes.toList (v.resultList f.resultTypes.size) (s.fn H (ds ++ gs)).results [])
    (hargs : ∀ sp : Nat → Bool, (∀ p ∈ before, sp p.block = true) → DataW.TrodAll enc P W' 0 sp true f.params.toList args.toList (s.fn H (ds ++ gs)).args pa)
    (hvars : ∀ sp : Nat → Bool, (∀ p ∈ before, sp p.block = true) → DataW.TrodVars enc P W' sp s.vars (s.fn H (ds ++ gs)).vars pv)
    (hps : before = pa ++ pv) (hb : Below W.heap.size W W')
    (hok : ∀ (j : Nat) (t : TypeId) (r : Value), f.resultTypes[j]? = some t → (v.resultList f.resultTypes.size)[j]? = some r → Value.okWide P W' .any 0 t r) :
    s.post enc P f apart fresh handsOn again W args v W' := by
  have hlt : ∀ p ∈ before, p.block < W.heap.size := fun p hp => hW.lt p hp
  have hold : ∀ p ∈ before, (fun b => decide (b < W.heap.size)) p.block = true := fun p hp => by simpa using hlt p hp
  refine ⟨ds, gs, before, [], pa, pv, hW, hres _ _ _, hargs _ hold, hvars _ hold, World.keptBut_mono (fun p hp => ⟨hp, ?_⟩) (hb.frame (· ∈ before)), fun _ => ?_⟩
  · rw [hps, List.mem_append] at hp
    exact Or.inr hp
  · obtain ⟨_, _, _, _, _, hz, hn⟩ := hW
    refine ⟨hok, _, _, ([] ++ pa) ++ pv, ⟨[] ++ pa, pv, trodAll_append (hargs _ (fun _ _ => rfl)) (hres _ _ _), hvars _ (fun _ _ => rfl), rfl, ?_, ?_⟩, ?_⟩
    · intro b off hp
      have hin : MemPlace.cell b off ∈ before := by rw [hps]; simpa using hp
      rw [hb.frozen (hlt _ hin)]
      exact hz b off hin
    · intro ha
      have := hn ha
      rw [hps] at this
      simpa using this
    · intro p hp _
      rw [hps]
      simpa using hp
end

theorem und475 : Tryz.prog.underlying 475 = some (.array 6 3) := by kernel_rfl
theorem und3 : Tryz.prog.underlying 3 = some (.int .i64) := by kernel_rfl
theorem und21 : Tryz.prog.underlying 21 = some (.int .i32) := by kernel_rfl
theorem und34 : Tryz.prog.underlying 34 = some (.int .i64) := by kernel_rfl
theorem und35 : Tryz.prog.underlying 35 = some (.slice 21) := by kernel_rfl
theorem und4 : Tryz.prog.underlying 4 = some .bool := by kernel_rfl
theorem und37 : Tryz.prog.underlying 37 = some (.struct #[⟨ "Kind", 34, 0, false, "", "", 0⟩, ⟨ "Replica", 3, 1, false, "", "", 8⟩, ⟨ "At", 3, 2, false, "", "", 16⟩, ⟨ "N", 3, 3, false, "", "", 24⟩, ⟨ "Runes", 35, 4, false, "", "", 32⟩]) := by kernel_rfl
theorem cells3 : Tryz.prog.cellsOf 3 = 1 := by kernel_rfl
theorem cells21 : Tryz.prog.cellsOf 21 = 1 := by kernel_rfl
theorem cells34 : Tryz.prog.cellsOf 34 = 1 := by kernel_rfl
theorem cells35 : Tryz.prog.cellsOf 35 = 1 := by kernel_rfl
theorem cells37 : Tryz.prog.cellsOf 37 = 5 := by kernel_rfl
theorem cells475 : Tryz.prog.cellsOf 475 = 6 := by kernel_rfl
theorem gA : Tryz.prog.globalNamed "unicode/utf8.acceptRanges" = some 2 := by kernel_rfl
theorem gP : Tryz.prog.globalNamed "redpencil/message.parts" = some 0 := by kernel_rfl
theorem gF : Tryz.prog.globalNamed "unicode/utf8.first" = some 1 := by kernel_rfl
theorem tP : (Tryz.prog.globals[0]?).map (·.type) = some 475 := by kernel_rfl
abbrev laids : List (String × DataW Unit) := [("unicode/utf8.acceptRanges", Rows.laid_unicode_utf8_acceptRanges), ("redpencil/message.parts", Rows.laid_redpencil_message_parts), ("unicode/utf8.first", Rows.laid_unicode_utf8_first)]
theorem var_heap {P : Program} {W : World} {name : String} {g : Nat} {cs : Array Value} (hg : P.globalNamed name = some g) (h : W.var? P name = some cs) : ∃ el fz, W.heap[g]? = some (.cells cs el fz) := by
  unfold World.var? at h
  rw [hg] at h
  simp only [Option.bind_some] at h
  split at h
  · rename_i cs' el fz hh
    cases h
    exact ⟨el, fz, hh⟩
  · cases h
/-- what the row's list gives -/
theorem laid_of {W : World} (h : laidMetH Tryz.prog laids W) : Laid W := by
  rw [MakeChecks.laidMetH_plain _ _ _ (by kernel_rfl)] at h
  obtain ⟨ps, ⟨g0, t0, cs0, f0, p0, q0, hg0, ht0, hv0, hd0, ⟨g1, t1, cs1, f1, p1, q1, hg1, ht1, hv1, hd1, _, _⟩, _⟩, _, _⟩ := h
  obtain rfl := Option.some.inj (gP.symm.trans hg1)
  obtain rfl := Option.some.inj (tP.symm.trans ht1)
  have hc := Lib.cells_of_tab (k := .i64) (zs := [0, 7, 2, 8, 6, 6]) und475 und3 cells3 cells475 hd1
  obtain ⟨el, fz, h0⟩ := var_heap gP hv1
  obtain ⟨el2, fz2, h2⟩ := var_heap gA hv0
  have e1 : cs1 = #[.int .i64 0, .int .i64 7, .int .i64 2, .int .i64 8, .int .i64 6, .int .i64 6] := by
    apply Array.ext'
    rw [hc]; rfl
  subst e1
  refine ⟨⟨el, fz, h0⟩, ?_⟩
  have : 2 < W.heap.size := by
    rcases Nat.lt_or_ge 2 W.heap.size with h | h
    · exact h
    · rw [Array.getElem?_eq_none h] at h2; cases h2
  omega
/-- a slice of runes, as it was handed in -/
theorem open_runes {H : Type} {enc : TypeId × Value → H} {W : World} {base fuel : Nat} {c : Value} {x : DataW H × List MemPlace} (h : DataW.trod enc Tryz.prog W base (fun _ => true) true fuel 35 [c] = some x) :
    c = .slice none 0 0 ∨ ∃ a len cap, c = .slice (some a) len cap ∧ len ≤ cap ∧ (cap ≠ 0 → a.spot = none ∧ a.block < W.heap.size) := by
  rcases DataW.trod_slice und35 h with ⟨hc, _⟩ | ⟨a, len, cap, elems, rest, n, _, hc, _, hb, hl, _, hlen, he, h2, _⟩
  · left; simpa using hc
  · right
    refine ⟨a, len, cap, by simpa using hc, hl, fun hne => ?_⟩
    obtain ⟨hr, h2⟩ := h2 rfl
    have key : ∀ {y : DataW H × List MemPlace}, (W.cells? base (a.add (0 * Tryz.prog.cellsOf 21)) (Tryz.prog.cellsOf 21)).bind (DataW.trod enc Tryz.prog W base (fun _ => true) true n 21) = some y → a.spot = none ∧ a.block < W.heap.size := by
      intro y hy
      rw [cells21, show a.add (0 * 1) = a from rfl] at hy
      cases hw : W.cells? base a 1 with
      | none => rw [hw] at hy; cases hy
      | some l =>
        unfold World.cells? at hw
        by_cases hba : base ≤ a.block
        · rw [if_pos hba, show List.range 1 = [0] from rfl] at hw
          cases hcell : W.cell? a with
          | none => simp [show a.add 0 = a from rfl, hcell] at hw
          | some u =>
            unfold World.cell? at hcell
            split at hcell
            · rename_i cc _ _ hh
              split at hcell
              · cases hcell
              · rename_i hs
                refine ⟨by simpa using hs, ?_⟩
                rcases Nat.lt_or_ge a.block W.heap.size with hlt | hge
                · exact hlt
                · rw [Array.getElem?_eq_none hge] at hh; cases hh
            · cases hcell
        · rw [if_neg hba] at hw; cases hw
    rcases Nat.eq_zero_or_pos len with hz | hp
    · subst hz
      have h3 := h2 0 (by omega)
      rw [Nat.zero_add] at h3
      have hlt : 0 < rest.length := by omega
      rw [List.getElem?_eq_getElem hlt] at h3
      exact key h3
    · have h3 := he 0 hp
      have hlt : 0 < elems.length := by omega
      rw [List.getElem?_eq_getElem hlt] at h3
      exact key h3
/-- a step, as it was handed in -/
theorem open_step {H : Type} {enc : TypeId × Value → H} {W : World} {base b0 : Nat} {r : Reach} {v : Value} {d : DataW H} {p : List MemPlace} (hv : Value.okWide Tryz.prog W r b0 37 v) (h : DataW.Trod enc Tryz.prog W base (fun _ => true) true 37 v d p) :
    ∃ (k q a n : Int) (c : Value), v = .agg #[.int .i64 k, .int .i64 q, .int .i64 a, .int .i64 n, c] ∧ (c = .slice none 0 0 ∨ ∃ ad len cap, c = .slice (some ad) len cap ∧ len ≤ cap ∧ (cap ≠ 0 → ad.spot = none ∧ ad.block < W.heap.size)) := by
  obtain ⟨cs, rfl, hsz⟩ := okWide_struct und37 hv
  rw [cells37] at hsz
  obtain ⟨fuel, hf⟩ := h
  obtain ⟨xs, m, _, _, _, hxl, hfs⟩ := DataW.trod_struct und37 hf
  obtain ⟨l⟩ := cs
  match l, hsz with
  | [c0, c1, c2, c3, c4], _ =>
    match xs, hxl with
    | [x0, x1, x2, x3, x4], _ =>
      have f0 : DataW.trod enc Tryz.prog W base (fun _ => true) true m 34 (([c0, c1, c2, c3, c4].drop 0).take (Tryz.prog.cellsOf 34)) = some x0 := hfs 0 _ rfl
      have f1 : DataW.trod enc Tryz.prog W base (fun _ => true) true m 3 (([c0, c1, c2, c3, c4].drop 1).take (Tryz.prog.cellsOf 3)) = some x1 := hfs 1 _ rfl
      have f2 : DataW.trod enc Tryz.prog W base (fun _ => true) true m 3 (([c0, c1, c2, c3, c4].drop 2).take (Tryz.prog.cellsOf 3)) = some x2 := hfs 2 _ rfl
      have f3 : DataW.trod enc Tryz.prog W base (fun _ => true) true m 3 (([c0, c1, c2, c3, c4].drop 3).take (Tryz.prog.cellsOf 3)) = some x3 := hfs 3 _ rfl
      have f4 : DataW.trod enc Tryz.prog W base (fun _ => true) true m 35 (([c0, c1, c2, c3, c4].drop 4).take (Tryz.prog.cellsOf 35)) = some x4 := hfs 4 _ rfl
      rw [cells34] at f0
      rw [cells3] at f1 f2 f3
      rw [cells35] at f4
      obtain ⟨n0, e0, _, _⟩ := DataW.trod_int und34 (show DataW.trod _ _ _ _ _ _ _ _ [c0] = some x0 from f0)
      obtain ⟨n1, e1, _, _⟩ := DataW.trod_int und3 (show DataW.trod _ _ _ _ _ _ _ _ [c1] = some x1 from f1)
      obtain ⟨n2, e2, _, _⟩ := DataW.trod_int und3 (show DataW.trod _ _ _ _ _ _ _ _ [c2] = some x2 from f2)
      obtain ⟨n3, e3, _, _⟩ := DataW.trod_int und3 (show DataW.trod _ _ _ _ _ _ _ _ [c3] = some x3 from f3)
      have h4 := open_runes (show DataW.trod _ _ _ _ _ _ _ _ [c4] = some x4 from f4)
      simp only [List.cons.injEq, and_true] at e0 e1 e2 e3
      subst e0 e1 e2 e3
      exact ⟨n0, n1, n2, n3, c4, rfl, h4⟩
end Go.Ev.Gd

namespace Go.Ev.Gd
open Go Go.Proofs Go.RowKit Go.ChangeShapes Go.WideShapes Go.ChangeAt
open Go.Proofs.YthkkjgokfihpnaaGreatDoor
set_option maxRecDepth 1000000
theorem read37 : Tryz.prog.readableRec 37 = true := by kernel_rfl
theorem read3 : Tryz.prog.readableRec 3 = true := by kernel_rfl
theorem params7 : Tryz.f7.params = #[37, 3] := rfl
theorem lt37 : 37 < Tryz.prog.types.size := of_decide_eq_true (by kernel_rfl)
theorem lt3 : 3 < Tryz.prog.types.size := of_decide_eq_true (by kernel_rfl)
/-- what the call gives, for whatever is handed in -/
theorem contract (H : Type) (enc : TypeId × Value → H) (W : World) (base : Nat) (args : Array Value) (ds gs : List (DataW H)) (before : List MemPlace)
    (hval : ∀ (j : Nat) t v, Tryz.f7.params[j]? = some t → args[j]? = some v → Value.okWide Tryz.prog W .any base t v)
    (hW : DataW.Whole enc Tryz.prog Tryz.f7.params.toList Rows.clusterNoneSpec.vars false W args.toList ds gs before) (hL : laidMetH Tryz.prog Rows.clusterNoneRow.laid W) :
    Calls Tryz.prog 7 args W fun e W' => ∃ v, e = .returned v ∧ Rows.clusterNoneSpec.post enc Tryz.prog Tryz.f7 false true false false W args v W' := by
  have hW' := hW
  obtain ⟨p, q, hA0, hV, rfl, hfz, hnd⟩ := hW
  have hA : DataW.TrodAll enc Tryz.prog W 0 (fun _ => true) true Tryz.f7.params.toList args.toList ds p := hA0
  rw [params7] at hA hval
  obtain ⟨v0, v1, d0, d1, p0, p1, rfl, rfl, rfl, h0, h1⟩ := trodAll_two hA
  obtain ⟨rfl, rfl⟩ := trodVars_none hV
  have hl := laid_of hL
  obtain ⟨k, r, a, n, c, rfl, hc⟩ := open_step (hval 0 37 v0 rfl rfl) h0
  obtain ⟨i, rfl, _, _⟩ := open_int und3 (hval 1 3 v1 rfl rfl) h1
  have walk : Calls Tryz.prog 7 #[.agg #[.int .i64 k, .int .i64 r, .int .i64 a, .int .i64 n, c], .int .i64 i] W fun e W' => e = .returned (.bool true) ∧ Below W.heap.size W W' := by
    rcases hc with rfl | ⟨ad, len, cap, rfl, hle, had⟩
    · exact none_nil hl k r a n i
    · exact none_slice hl k r a n i ad len cap hle had
  refine walk.mono fun e W' ⟨he, hb⟩ => ?_
  subst he
  have hlt : ∀ x ∈ p0 ++ p1, x.block < W.heap.size := fun x hx => hW'.lt x (List.mem_append_left _ hx)
  refine ⟨_, rfl, post_of_below (pa := p0 ++ p1) (pv := []) hW' (fun _ _ _ => trodAll_cons_mk (shut_bool und4 _) trodAll_mk0) (fun sp hs => ?_) (fun _ _ => rfl) rfl hb (ok_one (by kernel_rfl) rfl (okWide_bool_mk und4 _))⟩
  have g0 := WideElems.Trod_stays (sp' := sp) laidOut read37 lt37 h0 (fun x hx => hb.same (hlt x (List.mem_append_left _ hx))) (fun x hx => hs x (List.mem_append_left _ (List.mem_append_left _ hx)))
  have g1 := WideElems.Trod_stays (sp' := sp) laidOut read3 lt3 h1 (fun x hx => hb.same (hlt x (List.mem_append_right _ hx))) (fun x hx => hs x (List.mem_append_left _ (List.mem_append_right _ hx)))
  rw [params7]
  exact ⟨p0, p1, g0, ⟨p1, [], g1, rfl, by simp⟩, rfl⟩
end Go.Ev.Gd
